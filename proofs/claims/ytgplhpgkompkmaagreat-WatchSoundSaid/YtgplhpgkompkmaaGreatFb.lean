/-
  Own work, a part.
-/
import Derived.Test.YtgplhpgkompkmaaGreatFa
set_option linter.all false
namespace Go.Proofs.YtgplhpgkompkmaaGreat
open Option renaming some->ZC,none->Z1
open Bool renaming true->Z0,false->ZV
open Decidable renaming decide->u,decide->YM
noncomputable section
structure aev(P:Program)(C:aA)(ops:List Oper)(t:gB)(H:ah)(t0:gB)(H0:ah)(T:Nat->gB)(Hp:Nat->ah)(val:Nat->AV)(nm:Nat->Nat):Prop where
 facts:GY ops
 S:CJ P C ops t0 H0 T Hp val
 names:∀j,j < ops.length->cst ops j=true->∃o,ops[j]?=some o/\H.next<=nm j/\nm j < H0.next/\Qa P o (val j) (nm j) (H0.get (nm j))/\∀d,o.dst=some d->d < t.length->t0[d]?=some (val j)
 inj:∀i j,i < ops.length->j < ops.length->cst ops i=true->cst ops j=true->nm i=nm j->i=j
 rest:∀d,(∀j,cst ops j=true->∀o,ops[j]?=some o->o.dst≠some d)->t0[d]?=t[d]?
 len:t0.length=t.length
 fresh:TP H H0
 auI:∀r,H.next<=r->H.gen r=0->H0.gen r=0
 agr:∀p∈lV ops,agree P C ops H.next t0 H0 p
 ghost:∀p,p<=ops.length->∀d,NV (Hp p).next ((T p).getD d aX)
 keeps:kQ C
section
variable {P:Program}{C:aA}{ops:List Oper}{t:gB}{H:ah}{t0:gB}{H0:ah}{T:Nat->gB}{Hp:Nat->ah}{val:Nat->AV}{nm:Nat->Nat}
theorem G8 {i:Nat}(h:chn ops i=Z0):cst ops i=ZV/\flo ops i=false:=by
 unfold chn at h
 simpa using h
def kinds(i:Nat):cst ops i=Z0∨(cst ops i=ZV/\flo ops i=Z0)∨chn ops i=true:=by
 unfold chn;cases cst ops i <;> cases flo ops i <;> simp
def ajQ {i:Nat}(h:flo ops i=Z0):cst ops i=false:=by
 unfold flo at h;unfold cst
 revert h
 generalize qE ops i=o;intro h;cases o <;> first|rfl|(simp only[rC]at h;cases h)
theorem wM {i:Nat}{o:Oper}(d:ops[i]?=ZC o)(h:flo ops i=Z0):rC o.op=Z0/\mJ o.op=false:=by
 unfold flo at h;rw[uT d]at h;refine⟨h,?_⟩;have⟨dst,op,b,e,after,guard⟩:=o;cases op <;> try rfl
 rename_i c;simp only[rC]at h;simp only[mJ];cases hc:c.callee with
 |value f=>rw[hc]at h;cases h
 |_=>rfl
namespace aev
variable (D:aev P C ops t H t0 H0 T Hp val nm)
include D
theorem get {p:Nat}(b:p<ops.length):∃o,ops[p]?=ZC o:=⟨_,List.getElem?_eq_getElem b⟩
theorem arK:∀p,p<=ops.length->(T p).length=t.length:=by
 intro p
 induction p with
 | zero=> intro _;rw [D.S.zero.1,D.len]
 | succ p ih=>
  intro hp;cases hc:cst ops p with
  | true=> rw [(D.S.skip p hp hc).1];exact ih (by omega)
  | false=>
   have⟨o,ho⟩:=D.get hp;rw [(D.S.step p o ho hc).2,lZ];exact ih (by omega)
theorem amw:∀p,p<=ops.length->∀d,d < t.length->
  (∀i o,ops[i]?=ZC o->o.dst=ZC d->(cst ops i=Z0∨i < p)->(T p)[d]?=ZC (val i))/\
  ((∀i o,ops[i]?=ZC o->(cst ops i=Z0∨i < p)->o.dst≠ZC d)->(T p)[d]?=t[d]?):=by
 intro p
 induction p with
 | zero=>
  intro _ d hd;rw [D.S.zero.1];refine⟨λi o ho hdst hc=> ?_,λh=> D.rest d λj hj o ho=> h j o ho (.inl hj)⟩;have hc:cst ops i=true:=hc.resolve_right (by omega);have⟨o',ho',_,_,_,h5⟩:=D.names i (dQ ho) hc;rw [ho] at ho';cases ho';exact h5 d hdst hd
 | succ p ih=>
  intro hp d hd;have⟨ih1,ih2⟩:=ih (by omega) d hd;cases hc:cst ops p with
  | true=>
   rw [(D.S.skip p hp hc).1];refine⟨λi o ho hdst hi=> ih1 i o ho hdst ?_,λh=> ih2 λi o ho hi=> h i o ho (hi.imp id λh=> by omega)⟩;rcases hi with hi | hi
   ·exact .inl hi
   ·by_cases e:i=p
    ·subst e;exact .inl hc
    ·exact .inr (by omega)
  | false=>
   have⟨op,hop⟩:=D.get hp;rw [(D.S.step p op hop hc).2,Nq];by_cases hdp:op.dst=ZC d
   ·have hl:d < (T p).length:=by rw [D.arK p (by omega)];exact hd
    rw [y ⟨hdp,hl⟩];refine⟨λi o ho hdst hi=> ?_,λh=> absurd hdp (h p op hop (.inr (by omega)))⟩;rw [D.facts.arJ i p o op d ho hop hdst hdp]
   ·rw [F λh=> hdp h.1];refine⟨λi o ho hdst hi=> ih1 i o ho hdst ?_,λh=> ih2 λi o ho hi=> h i o ho (hi.imp id λh=> by omega)⟩;rcases hi with hi | hi
    ·exact .inl hi
    ·refine .inr ?_;have:i≠p:=λe=> by subst e;rw [ho] at hop;cases hop;exact hdp hdst
     omega
theorem VO {p:Nat}(hp:p < ops.length)(hc:cst ops p=ZV)(hf:flo ops p=Z0):Hp (p+1)=Hp p:=by
 have⟨o,ho⟩:=D.get hp;have⟨h1,_⟩:=D.S.step p o ho hc;have⟨f1,f2⟩:=wM ho hf;unfold mQ at h1;split at h1 <;> try(cases h1;done)
 ·rw [f2,Bool.and_false,F Bool.false_ne_true] at h1;exact(Np f1 h1).1
 ·simp only [Option.some.injEq,zaa] at h1;exact h1.2.symm
theorem step_next {p:Nat}(hp:p < ops.length):(Hp p).next<=(Hp (p+1)).next:=by
 cases hc:cst ops p with
 | true=> rw [(D.S.skip p hp hc).2];exact Nat.le_refl _
 | false=>
  have⟨o,ho⟩:=D.get hp;have⟨h1,_⟩:=D.S.step p o ho hc;unfold mQ at h1;split at h1 <;> try(cases h1;done)
  ·split at h1
   ·exact(GX D.keeps h1).1.2.1
   ·exact(ES D.keeps h1).next
  ·simp only [Option.some.injEq,zaa] at h1;rw [h1.2];exact Nat.le_refl _
def ZY {p:Nat}:∀k,p+k<=ops.length->(Hp p).next<=(Hp (p+k)).next:=by
 intro k
 induction k with
 |zero=>intro _;exact Nat.le_refl _
 |succ k b=>intro h;exact Nat.le_trans (b V) (D.step_next V)
def Z4 {p q:Nat}(h:p<=q)(b:q<=ops.length):(Hp p).next<=(Hp q).next:=by
 have:=D.ZY (p:=p) (q-p) V
 rwa [show p+(q-p)=q by omega]at this
def aew {p:Nat}(b:p<=ops.length):H0.next<=(Hp p).next:=by
 have:=D.Z4 (Nat.zero_le p) b
 rwa [D.S.zero.2]at this
theorem G9 {p:Nat}(hp:p < ops.length)(h:chn ops p=ZV):Hp (p+1)=Hp p:=by
 rcases kinds (ops:=ops) p with hc | ⟨hc,hf⟩ | hc
 ·exact(D.S.skip p hp hc).2
 ·exact D.VO hp hc hf
 ·rw [hc] at h;cases h
def aex {e:Nat}:∀k,e+k<=ops.length->(∀i,e<=i->i<e+k->chn ops i=ZV)->Hp (e+k)=Hp e:=by
 intro k
 induction k with
 |zero=>intro _ _;rfl
 |succ k b=>
  intro hk h;show Hp (e+k+1)=Hp e;rw[D.G9 V (h (e+k) V V)];exact b V λi d g=>h i d V
def DV {e e':Nat}(h:e<=e')(b:e'<=ops.length)(d:∀i,e<=i->i<e'->chn ops i=ZV):Hp e'=Hp e:=by
 have:=D.aex (e:=e) (e'-e) V λi g j=>d i g V
 rwa [show e+(e'-e)=e' by omega]at this
theorem quiet_step {p:Nat}(hp:p < ops.length)(hc:chn ops p=Z0)(hq:uJ (qE ops p)=Z0)(hl:loose ops p=Z0):∀r,r < (Hp p).next->(Hp (p+1)).get r=(Hp p).get r:=by
 have⟨o,ho⟩:=D.get hp;have⟨h1,_⟩:=D.S.step p o ho (G8 hc).1;rw [uT ho] at hq;unfold mQ at h1;split at h1 <;> try(cases h1;done)
 ·rw [hl,Bool.true_and] at h1;split at h1
  ·exact(GX D.keeps h1).1.2.2
  ·rename_i hcall;exact(TS hq (by simpa using hcall) h1).2.2
 ·simp only [Option.some.injEq,zaa] at h1;rw [h1.2];exact λ_ _=> W
theorem aey {k:Nat}(hk:k < ops.length)(hc:cst ops k=Z0):∀e,e<=ops.length->(∀i,i < e->chn ops i=Z0->mV ops k i=ZV)->(Hp e).get (nm k)=H0.get (nm k):=by
 intro e
 induction e with
 | zero=> intro _ _;rw [D.S.zero.2]
 | succ e ih=>
  intro he h;have ih:=ih (by omega) λi hi=> h i (by omega);cases hch:chn ops e with
  | false=> rw [D.G9 (by omega) hch];exact ih
  | true=>
   have hb:=h e (by omega) hch;have⟨hqb,_⟩:=D.facts.loose k e hk (by omega) hc hch hb;have hl:loose ops e=true:=by
    unfold loose;refine List.any_eq_true.2 ⟨k,List.mem_range.2 hk,?_⟩;rw [hc,hch,hb];simp
   have⟨o,ho,hge,hlt,_⟩:=D.names k hk hc;rcases hqb with hq | hq
   ·rw [D.quiet_step (by omega) hch hq hl (nm k) (Nat.lt_of_lt_of_le hlt (D.aew (by omega)))];exact ih
   ·have hmem:(k,e)∈lV ops:=by
     unfold lV;refine List.mem_flatMap.2 ⟨k,List.mem_range.2 hk,List.mem_map.2 ⟨e,List.mem_filter.2 ⟨List.mem_range.2 (by omega),?_⟩,W⟩⟩;rw [hc,hch,hb,hq];simp
    have ha:=D.agr _ hmem;unfold agree at ha;rw [y hc] at ha;rw [ha (T e) (Hp e) (T (e+1)) (Hp (e+1)) (D.S.at_ _ (by omega)) (D.S.at_ _ (by omega)) (nm k) hge hlt];exact ih
theorem J7 {j:Nat}(hj:j < ops.length){r:Nat}(hw:lM (T j) (qE ops j)=ZC r){e1:Nat}(hr:r < (Hp e1).next):
  ∀k,e1+k<=ops.length->(∀i,e1<=i->i < e1+k->chn ops i=Z0->Yd ops j i=Z0)->(Hp (e1+k)).get r=(Hp e1).get r:=by
 intro k
 induction k with
 | zero=> intro _ _;rfl
 | succ k ih=>
  intro hk h;have ih:=ih (by omega) λi h1 h2=> h i h1 (by omega);show(Hp (e1+k+1)).get r=_;cases hch:chn ops (e1+k) with
  | false=> rw [D.G9 (by omega) hch];exact ih
  | true=>
   have hu:=h (e1+k) (by omega) (by omega) hch;cases hq:uJ (qE ops (e1+k)) with
   | true=>
    have hl:loose ops (e1+k)=true:=by
     unfold loose;refine List.any_eq_true.2 ⟨j,List.mem_range.2 hj,?_⟩;rw [hu,Bool.true_or]
    rw [D.quiet_step (by omega) hch hq hl r (Nat.lt_of_lt_of_le hr (D.Z4 (by omega) (by omega)))];exact ih
   | false=>
    have hmem:(j,e1+k)∈lV ops:=by
     unfold lV;refine List.mem_flatMap.2 ⟨j,List.mem_range.2 hj,List.mem_map.2 ⟨e1+k,List.mem_filter.2 ⟨List.mem_range.2 (by omega),?_⟩,W⟩⟩;rw [hu,hq];rfl
    have hfl:flo ops j=true:=by
     unfold Yd at hu;simp only [Bool.and_eq_true] at hu;exact hu.1.1.1.2
    have ha:=D.agr _ hmem;unfold agree at ha;rw [F (by rw [ajQ hfl];decide)] at ha;have:=ha (T j) (Hp j) (T (e1+k)) (Hp (e1+k)) (T (e1+k+1)) (Hp (e1+k+1)) (D.S.at_ j (by omega)) (D.S.at_ _ (by omega)) (D.S.at_ _ (by omega)) r hw;rw [this];exact ih
def agP {i j:Nat}(p:cst ops j=ZV)(h:mV ops i j=Z0)(hi:cst ops i=ZV):i<=j:=by
 have:=uS (ops:=ops) (L:=λk=>cst ops k=Z0∨k<=j) (λk o m hk e n hb=>by
  have⟨_,g⟩:=D.facts.edges k o m e n hb;unfold Gx at g;by_cases d:cst ops k=Z0
  ·by_cases b:cst ops e.on=Z0
   ·exact .inl b
   ·simp only[Bool.not_eq_true]at b;rw[d,b]at g;simp at g
  ·simp only[Bool.not_eq_true]at d;have hk:k<=j:=hk.resolve_left (by simp[d]);by_cases b:cst ops e.on=Z0
   ·exact .inl b
   ·simp only[Bool.not_eq_true]at b;rw[d,b]at g;simp at g;exact .inr V) i j h (.inr (Nat.le_refl _))
 rcases this with h|h
 ·rw[hi]at h;cases h
 ·exact h
end aev
abbrev Li(listed:Array Bool)(j:Nat):Prop:=listed.getD j false=true
structure Inv(ops:List Oper)(t:gB)(Hp:Nat->ah)(val:Nat->AV)(nm:Nat->Nat)(H:ah)(ρ0:Ren)(w0:World)(a0:Act)(listed:Array Bool)(a:Act)(w:World)(e:Nat)(ρ:Ren):Prop where
 size:listed.size=ops.length
 down:∀j o,ops[j]?=some o->Li listed j->∀ed∈o.after,Region.binds .any ed=true->Li listed ed.on
 le:e<=ops.length
 chain:∀i,i<ops.length->chn ops i=true->(Li listed i↔i<e)
 rel:Rel ρ (Hp e) w
 none:∀k,k<ops.length->cst ops k=true->¬Li listed k->ρ (nm k)=none
 ext:Ext ρ0 H w0 ρ (Hp e) w
 Z5:a.tmps.size=t.length
 tmps:∀d,d<t.length->(∀j o,ops[j]?=some o->Li listed j->o.dst=some d->RV ρ (Hp e).gen w (val j) (a.tmps.getD d undef))/\
  ((∀j o,ops[j]?=some o->Li listed j->o.dst≠some d)->RV ρ (Hp e).gen w (t.getD d aX) (a.tmps.getD d undef))
 defers:a.defers=a0.defers
def vW {listed:Array Bool}{i j:Nat}:Li (listed.setIfInBounds i Z0) j↔Li listed j∨(j=i/\i<listed.size):=by
 unfold Li;by_cases e:i=j
 ·subst e;by_cases b:i<listed.size
  ·simp[b]
  ·simp[b]
 ·rw[getD_set_ne ZV e];simp[Ne.symm e]
section
variable {ρ0:Ren}{w0:World}{a0:Act}{listed:Array Bool}{a:Act}{w:World}{e:Nat}{ρ:Ren}
def zh {j:Nat}(z:listed.size=ops.length)(b:∀j o,ops[j]?=ZC o->Li listed j->∀d∈o.after,Region.binds .any d=Z0->Li listed d.on)(h:j∈Region.ready .any ops.toArray listed):
  ∃o,ops[j]?=ZC o/\¬Li listed j/\(∀i,i≠j->mV ops i j=Z0->Li listed i)/\(∀i,mV ops j i=Z0->¬Li listed i)/\
   ∀k e,ops[k]?=ZC e->Li (listed.setIfInBounds j Z0) k->∀d∈e.after,Region.binds .any d=Z0->Li (listed.setIfInBounds j Z0) d.on:=by
 have⟨u,o,g,m⟩:=mem_ready.1 h;have g:ops[j]?=ZC o:=by simpa using g
 have y:=dQ g;have n:¬Li listed j:=by
  unfold Li;rw[Array.getD_eq_getD_getElem?]at u ⊢;rw[Array.getElem?_eq_getElem V]at u ⊢;simp only[Option.getD_some]at u ⊢;simp[u]
 have p:∀k e,ops[k]?=ZC e->Li (listed.setIfInBounds j Z0) k->∀d∈e.after,Region.binds .any d=Z0->Li (listed.setIfInBounds j Z0) d.on:=by
  intro k e hk q d w hb;rcases vW.1 q with q|⟨rfl,_⟩
  ·exact vW.2 (.inl (b k e hk q d w hb))
  ·rw[g]at hk;cases hk;exact vW.2 (.inl (m d w hb))
 refine⟨o,g,n,λi v hb=>?_,λi hb q=>n (uS (L:=Li listed) b j i hb q),p⟩;have:=uS (L:=Li (listed.setIfInBounds j Z0)) p i j hb (vW.2 (.inr ⟨W,V⟩));rcases vW.1 this with h|⟨h,_⟩
 ·exact h
 ·exact absurd h v
variable (D:aev P C ops t H t0 H0 T Hp val nm)
include D
def auJ(I:Inv ops t Hp val nm H ρ0 w0 a0 listed a w e ρ){j:Nat}{o:Oper}(E:ops[j]?=ZC o)(hc:cst ops j=ZV)(F:¬Li listed j)
  (z:∀i,i≠j->mV ops i j=Z0->Li listed i) (v:∀i,mV ops j i=Z0->¬Li listed i):TOn ρ (Hp e).gen w (· ∈o.looksAt ops.toArray) (T j) a:=by
 have hj:=dQ E;have u:=D.arK j V;refine⟨by rw[I.Z5,u],λd hd G=>?_⟩;rw[u]at G;have⟨L,M⟩:=I.tmps d G;have⟨Q,R⟩:=D.amw j V d G;have A:∀x,(T j)[d]?=ZC x->(T j).getD d aX=x:=λx W=>by simp[List.getD,W]
 by_cases C:∃i k,ops[i]?=ZC k/\Li listed i/\k.dst=ZC d
 ·have⟨i,k,m,y,g⟩:=C;have p:i≠j:=λe=>F (e ▸ y);have b:cst ops i=Z0∨i<j:=by
   rcases D.facts.uses i j k o d p m E g hd with⟨_,h⟩|⟨h,_⟩
   ·unfold Gx at h;rw[hc]at h;cases q:cst ops i with
    |true=>exact .inl Z3
    |false=>rw[q]at h;simp at h;exact .inr h
   ·exact absurd y (v i h)
  rw[A _ (Q i k m g b)];exact L i k m y g
 ·have n:∀i k,ops[i]?=ZC k->Li listed i->k.dst≠ZC d:=λi k X K h3=>C ⟨i,k,X,K,h3⟩;have K:=R λi k m b g=>by
   have p:i≠j:=λe=>by
    subst e;rcases b with h|h
    ·rw[hc]at h;cases h
    ·omega
   rcases D.facts.uses i j k o d p m E g hd with⟨h,_⟩|⟨_,h⟩
   ·exact n i k m (z i p h) g
   ·unfold Gx at h;rw[hc]at h;cases q:cst ops i with
    |true=>rw[q]at h;simp at h
    |false=>
     rw[q]at h b;simp at h b;omega
  have:(T j).getD d aX=t.getD d aX:=by simp only[List.getD,K]
  rw[this];exact M n
def Inv.on(I:Inv ops t Hp val nm H ρ0 w0 a0 listed a w e ρ){j:Nat}{o:Oper}(u:ops[j]?=ZC o)(L:¬Li listed j)
  (v:∀k G,ops[k]?=ZC G->Li (listed.setIfInBounds j Z0) k->∀K∈G.after,Region.binds .any K=Z0->Li (listed.setIfInBounds j Z0) K.on)
  {e':Nat} (y:e'<=ops.length) (z:∀i,i<ops.length->chn ops i=Z0->(Li (listed.setIfInBounds j Z0) i↔i<e'))
  {ρ':Ren} {w':Xs} {cv:XS} (R:Rel ρ' (Hp e') w') (Q:∀k,k<ops.length->cst ops k=Z0->¬Li (listed.setIfInBounds j Z0) k->ρ' (nm k)=Option.none)
  (E:Ext ρ0 H w0 ρ' (Hp e') w') (M:agM ρ (Hp e).gen w ρ' (Hp e').gen w') (hv:RV ρ' (Hp e').gen w' (val j) cv):Inv ops t Hp val nm H ρ0 w0 a0 (listed.setIfInBounds j Z0) (a.put o.dst cv) w' e' ρ' where
 size:=by rw[Array.size_setIfInBounds];exact I.size
 down:=v
 le:=y
 chain:=z
 rel:=R
 none:=Q
 ext:=E
 Z5:=by rw[<-I.Z5];cases o.dst <;> simp[Act.put]
 tmps:=λd hd=>by
  have⟨T,W⟩:=I.tmps d hd;have A:d<a.tmps.size:=by rw[I.Z5];exact hd
  have X:=dQ u;by_cases b:o.dst=ZC d
  ·have m:(a.put o.dst cv).tmps.getD d undef=cv:=by rw[b];simp[Act.put,Array.getD,A]
   rw[m];refine⟨λi q g _ p=>?_,λh=>absurd b (h j o u (vW.2 (.inr ⟨Z3,by rw[I.size];exact X⟩)))⟩;rw[D.facts.arJ i j q o d g u p b];exact hv
  ·have m:(a.put o.dst cv).tmps.getD d undef=a.tmps.getD d undef:=by
    cases C:o.dst with
    |none=>rfl
    |some d'=>
     have F:d'≠d:=λe=>b (by rw[C,e]);simp[Act.put,Array.getElem?_setIfInBounds_ne F]
   rw[m];refine⟨λi q g n p=>?_,λh=>RV.mono M _ _ (W λi q g n=>h i q g (vW.2 (.inl n)))⟩;rcases vW.1 n with n|⟨rfl,_⟩
   ·exact RV.mono M _ _ (T i q g n p)
   ·rw[u]at g;cases g;exact absurd p b
 defers:=by rw[<-I.defers];cases o.dst <;> rfl
end
end
def Hl {ρ:Ren}{G:Nat->Nat}{w:Xs}{g:Nat}(h:ρ g=Z1)(co:Obj):agM ρ G w (updρ ρ g (w.heap.size,0)) G (w.alloc co) where
 mono:=λ_=>Nat.le_refl _
 same:=λx y d _=>by
  unfold updρ
  rw[F (λe=>by subst e;rw[h]at d;cases d)];exact d
 imm:=λb hb hi=>by
  refine⟨by simp;omega,λx i d=>?_,λo=>cell?_of_block (by simp only[World.alloc,Array.getElem?_push,F (Nat.ne_of_lt hb)])⟩;unfold updρ at d;split at d
  ·cases d;omega
  ·exact hi x i d
 shape:=λb e m hb=>by
  have:=Gz hb;rw[fE]at hb ⊢
  simpa only[World.alloc,Array.getElem?_push,F (Nat.ne_of_lt this)]using hb
def Yn {ρ:Ren}{H:ah}{w:Xs}(R:Rel ρ H w){g:Nat}(h:ρ g=Z1)(p:g<H.next){ty:XN}{z:Q AV}{cs:Array XS}(n:H.get g=.blk 0 ty z)(k:ty<gW)(m:RVs ρ H.gen w z cs.toList):
  Rel (updρ ρ g (w.heap.size,0)) H (w.alloc (.cells cs ty)) where
 out:=λx d=>by
  unfold updρ
  rw[F V];exact R.out x d
 obj:=λx b s d=>by
  have M:=Hl (G:=H.gen) (w:=w) h (.cells cs ty);unfold updρ at d;by_cases e:x=g
  ·subst e;simp at d;obtain⟨rfl,rfl⟩:=d;rw[n];refine⟨cs,ty,kD w _,?_,?_,Xct.low k (by have:=dO m;rw[bP]at this;omega)⟩
   ·have:=dO m;simp at this;omega
   ·refine rE (kD w _) λi x d=>?_;have⟨v,hv,o⟩:=jP m d;exact⟨v,by simpa using hv,RV.mono M _ _ o⟩
  ·rw[F e]at d;have hb:=R.block d;exact yP.mono M (by simp only[World.alloc,Array.getElem?_push,F (Nat.ne_of_lt hb)]) (R.obj x b s d)
 inj:=λx y q s u d j=>by
  unfold updρ at d j;split at d <;> split at j
  ·simp_all
  ·cases d;have:=R.block j;omega
  ·cases j;have:=R.block d;omega
  ·exact R.inj _ _ _ _ _ d j
 gl:=R.gl.of O (λx b s d=>by
  unfold updρ at d;split at d
  ·cases d;exact .inl (Nat.le_refl _)
  ·exact .inr ⟨_,_,d⟩) (λb hb _=>by simp only[World.alloc,Array.getElem?_push,F (Nat.ne_of_lt hb)])
def Yo {ρ0 ρ:Ren}{H0 H:ah}{w0 w:Xs}(E:Ext ρ0 H0 w0 ρ H w){r0:Nat}(h0:H0.next<=r0)(hn:ρ r0=Z1)(co:Obj):Ext ρ0 H0 w0 (updρ ρ r0 (w.heap.size,0)) H (w.alloc co) where
 next:=E.next
 mono:=E.mono
 same:=λx y hx hg=>by
  have h1:=E.same x y hx hg;unfold updρ
  rw[F (λe=>by subst e;rw[hn]at h1;cases h1)];exact h1
 kept:=λx hx h=>by
  unfold updρ
  rw[F (by omega)];exact E.kept x hx h
 range:=λx b s hx=>by
  unfold updρ at hx;split at hx
  ·cases hx;exact .inl E.size
  ·exact E.range x b s hx
 size:=by simp;have:=E.size;omega
 frame:=λb hb hi=>by
  have:=E.size;rw[<-E.frame b hb hi];simp only[World.alloc,Array.getElem?_push,F (show¬b=w.heap.size by omega)]
 shape:=λb hb=>by
  have:=E.size;rw[<-E.shape b hb,fE,fE];simp only[World.alloc,Array.getElem?_push,F (show¬b=w.heap.size by omega)]
 os:=E.os
 tape:=E.tape
 output:=E.output
def Qd {ρ:Ren}{H H0:ah}{w:World}(R:Rel ρ H w)(F:TP H H0)(g:∀r,H.next<=r->H.gen r=0->H0.gen r=0):H0.gen=H.gen/\Rel ρ H0 w/\Ext ρ H w ρ H0 w:=by
 have d:H0.gen=H.gen:=by
  funext r
  rcases Nat.lt_or_ge r H.next with h|h
  ·simp only[ah.gen,F.2.2 r h]
  ·rw[g r h (R.out r h).2,(R.out r h).2]
 have E:=Ext.refl ρ H w;refine⟨d,⟨λr e=>⟨(R.out r (Nat.le_trans F.2.1 e)).1,by rw[d];exact(R.out r (Nat.le_trans F.2.1 e)).2⟩,λr b i h=>?_,R.inj,R.gl⟩,
  ⟨F.2.1,λr=>by rw[d];exact Nat.le_refl _,λr x h _=>h,E.kept,E.range,E.size,E.frame,E.shape,E.os,E.tape,E.output⟩⟩
 rw[d,F.2.2 r (R.lt h)];exact R.obj r b i h
section
variable {P:Program}{C:aA}{ops:List Oper}{t:gB}{H:ah}{t0:gB}{H0:ah}{T:Nat->gB}{Hp:Nat->ah}{val:Nat->AV}{nm:Nat->Nat}
variable {ρ0:Ren}{w0:World}{a0:Act}{listed:Array Bool}{a:Act}{w:World}{e:Nat}{ρ:Ren}
def TU {j k:Nat}(h:¬Li (listed.setIfInBounds j Z0) k):¬Li listed k:=λb=>h (vW.2 (.inl b))
def Ho {j i:Nat}(b:i≠j):Li (listed.setIfInBounds j Z0) i↔Li listed i:=by
 rw[vW];exact⟨λh=>h.resolve_right λh=>b h.1,.inl⟩
theorem aez(hC:qX P C)(D:aev P C ops t H t0 H0 T Hp val nm)(I:Inv ops t Hp val nm H ρ0 w0 a0 listed a w e ρ){j:Nat}(hr:j∈Region.ready .any ops.toArray listed){K:Act->World->Prop}{Q:Exit->Act->World->Prop}
  (hK:∀a' w' e' ρ',Inv ops t Hp val nm H ρ0 w0 a0 (listed.setIfInBounds j true) a' w' e' ρ'->K a' w'):wpOp P ops.toArray Q j K a w:=by
 obtain⟨o,ho,hnl,hpre,hpost,hd2⟩:=zh I.size I.down hr;have hj:=dQ ho;rcases kinds (ops:=ops) j with hc | ⟨hc,hf⟩ | hc
 ·-- new memory
  obtain⟨o',ho',n1,n2,⟨ty,z,mk,hval,hob,hrun⟩,_⟩:=D.names j hj hc;rw [ho] at ho';cases ho';obtain⟨hg,_⟩:=D.facts.const j o ho hc;obtain⟨cs,cv,h1,⟨h2,hty⟩,h3⟩:=hrun ρ (Hp e).gen w a;have hun:=I.none j hj hc hnl;have tV:(Hp e).get (nm j)=.blk 0 ty z:=by
   rw [<-hob];refine D.aey hj hc e I.le λi hi hch=> ?_;have hli:=(I.chain i (by have:=I.le;omega) hch).2 hi;cases hb:mV ops j i with
   | false=> rfl
   | true=> exact absurd hli (hpost i hb)
  have hgen:(Hp e).gen (nm j)=0:=by simp [ah.gen,tV,gG.gen]
  unfold wpOp;have hoa:ops.toArray[j]?=some o:=by simpa using ho
  simp only [hoa,Region.wanted,hg,if_true];left;unfold Oper.wp;rw [h1];simp only [Oper.upon];refine hK _ _ e (updρ ρ (nm j) (w.heap.size,0)) (Inv.on D I ho hnl hd2 I.le (λi hi hch=> ?_)
   (Yn I.rel hun (Nat.lt_of_lt_of_le n2 (D.aew I.le)) tV hty h2) (λk hk hck hkl=> ?_) (Yo I.ext n1 hun _) (Hl hun _) ?_)
  ·rw [Ho (λe=> by subst e;rw [(G8 hch).1] at hc;cases hc)];exact I.chain i hi hch
  ·have hkl':=TU hkl;have hne:nm k≠nm j:=λe=> by
    have:=D.inj k j hk hj hck hc e;subst this;exact hkl (vW.2 (.inr ⟨rfl,by rw [I.size];exact hk⟩))
   unfold updρ
   rw [if_neg hne];exact I.none k hk hck hkl'
  ·rw [hval];exact h3 _ _ (nm j) hgen (by simp [updρ])
 ·-- it changes nothing
  have T0:=auJ D I ho hc hnl hpre hpost;obtain⟨s1,_⟩:=D.S.step j o ho hc;obtain⟨f1,f2⟩:=wM ho hf;have hsame:MN o.op=true->∀r,lM (T j) o.op=some r->(Hp e).get r=(Hp j).get r:=by
   intro hlk r hw;have hre:r < (Hp e).next:=VN (λx hx=> RV.nv I.rel.out _ _ (T0.eval x hx)) hw
   have hrj:r < (Hp j).next:=VN (λx _=> aeu (D.ghost j (by omega)) x) hw
   have hw':lM (T j) (qE ops j)=some r:=by rw [uT ho];exact hw
   have hle:=I.le;have hun:∀i,i < ops.length->chn ops i=true->mV ops i j=false->mV ops j i=false->Yd ops j i=true:=by
    intro i _ hch hb1 hb2;unfold Yd;rw [hch,hf,uT ho,hlk,hb2,hb1];rfl
   rcases Nat.le_total e j with hej | hje
   ·have:=D.J7 hj hw' hre (j - e) (by omega) λi h1 h2 hch=> by
     have hil:¬Li listed i:=λhl=> by have:=(I.chain i (by omega) hch).1 hl;omega
     have hne:i≠j:=by omega
     refine hun i (by omega) hch ?_ ?_
     ·cases hb:mV ops i j with
      | false=> rfl
      | true=> exact absurd (hpre i hne hb) hil
     ·cases hb:mV ops j i with
      | false=> rfl
      | true=> have:=D.agP (G8 hch).1 hb hc;omega
    rw [show e+(j - e)=j by omega] at this;exact this.symm
   ·have:=D.J7 hj hw' hrj (e - j) (by omega) λi h1 h2 hch=> by
     have hil:Li listed i:=(I.chain i (by omega) hch).2 (by omega);have hne:i≠j:=λe=> by subst e;rw [(G8 hch).2] at hf;cases hf
     refine hun i (by omega) hch ?_ ?_
     ·cases hb:mV ops i j with
      | false=> rfl
      | true=> have:=D.agP hc hb (G8 hch).1;omega
     ·cases hb:mV ops j i with
      | false=> rfl
      | true=> exact absurd hil (hpost i hb)
    rw [show j+(e - j)=e by omega] at this;exact this
  have hs:mQ P C ops (loose ops j && mJ o.op) o (T j) (Hp e)=some (val j,Hp e):=by
   have avb:=D.VO hj hc hf;rw [avb] at s1;unfold mQ at s1 ⊢;split at s1 <;> try(cases s1;done)
   ·rw [f2,Bool.and_false,if_neg Bool.false_ne_true] at s1;simp only [f2,Bool.and_false,if_neg Bool.false_ne_true];exact(Np f1 s1).2 (Hp e) hsame
   ·simp only [Option.some.injEq,Prod.mk.injEq] at s1 ⊢;exact⟨s1.1,trivial⟩
  refine Nr hC hs I.rel T0 ho λcv ρ' w' r1 r2 r3=> hK _ _ e ρ' (Inv.on D I ho hnl hd2 I.le (λi hi hch=> ?_) r1 (λk hk hck hkl=> ?_) (I.ext.trans r3) r3.toMono r2)
  ·rw [Ho (λe=> by subst e;rw [(G8 hch).2] at hf;cases hf)];exact I.chain i hi hch
  ·obtain⟨_,_,_,n2,_⟩:=D.names k hk hck;exact r3.kept _ (Nat.lt_of_lt_of_le n2 (D.aew I.le)) (I.none k hk hck (TU hkl))
 ·-- the chain
  have hcc:=(G8 hc).1;have T0:=auJ D I ho hcc hnl hpre hpost;obtain⟨s1,_⟩:=D.S.step j o ho hcc;have hej:e<=j:=by
   rcases Nat.lt_or_ge j e with h | h
   ·exact absurd ((I.chain j hj hc).2 h) hnl
   ·exact h
  have hH:Hp j=Hp e:=D.DV hej (by omega) λi h1 h2=> by
   cases hch:chn ops i with
   | false=> rfl
   | true=>
    have:=hpre i (by omega) (D.facts.chain i j h2 hj hch hc);have:=(I.chain i (by omega) hch).1 this;omega
  rw [hH] at s1;refine Nr hC s1 I.rel T0 ho λcv ρ' w' r1 r2 r3=> hK _ _ (j+1) ρ' (Inv.on D I ho hnl hd2 hj (λi hi hch=> ?_) r1 (λk hk hck hkl=> ?_) (I.ext.trans r3) r3.toMono r2)
  ·by_cases e1:i=j
   ·subst e1;exact⟨λ_=> by omega,λ_=> vW.2 (.inr ⟨rfl,by rw [I.size];exact hi⟩)⟩
   ·rw [Ho e1];refine⟨λhl=> by have:=(I.chain i hi hch).1 hl;omega,λhlt=> hpre i e1 (D.facts.chain i j (by omega) hj hch hc)⟩
  ·obtain⟨_,_,_,n2,_⟩:=D.names k hk hck;exact r3.kept _ (Nat.lt_of_lt_of_le n2 (D.aew I.le)) (I.none k hk hck (TU hkl))
def unl:Q Bool->Nat
 |[]=>0
 |true::l=>unl l
 |false::l=>unl l+1
def Z7:∀(l:Q Bool) (i:Nat),l[i]?=ZC ZV->unl (l.set i Z0)+1=unl l
 |[],i,h=>by simp at h
 |b::l,0,h=>by simp at h;subst h;simp[unl]
 |b::l,i+1,h=>by
  simp at h;have:=Z7 l i (by simpa using h);cases b <;> simp[unl] <;> omega
def VP:∀(l:Q Bool),unl l=0->∀(i:Nat),i<l.length->l[i]?=ZC Z0
 |[],_,i,hi=>by simp at hi
 |b::l,h,0,_=>by cases b <;> simp_all[unl]
 |b::l,h,i+1,hi=>by
  have d:unl l=0:=by cases b <;> simp_all[unl]
  simpa using VP l d i (by simpa using hi)
def amx {j:Nat}(b:j<listed.size):Li listed j↔listed.toList[j]?=ZC true:=by
 unfold Li;simp[Array.getD,b]
def Yp {j:Nat}(b:j<listed.size):¬Li listed j↔listed.toList[j]?=ZC false:=by
 unfold Li;simp[Array.getD,b]
def ajR {p:Nat->Prop}:∀n,p n->∃m,p m/\∀i,i<m->¬p i:=by
 intro n
 induction n using Nat.strongRecOn with
 |ind n d=>
  intro e;by_cases h:∃i,i<n/\p i
  ·have⟨i,hi,b⟩:=h;exact d i hi b
  ·exact⟨n,e,λi hi b=>h ⟨i,hi,b⟩⟩
def Qe(F:GY ops)(E:listed.size=ops.length){k:Nat}(hk:k<ops.length)(y:¬Li listed k):Region.ready .any ops.toArray listed≠[]:=by
 have key:∀m,m<ops.length->¬Li listed m->(∀o,ops[m]?=ZC o->∀e∈o.after,Region.binds .any e=Z0->Li listed e.on)->Region.ready .any ops.toArray listed≠[]:=by
  intro m hm u n q;have:m∈Region.ready .any ops.toArray listed:=by
   refine mem_ready.2 ⟨?_,ops[m]'hm,by simp[hm],λe i z=>n _ (List.getElem?_eq_getElem hm) e i z⟩;unfold Li at u;rw[Array.getD_eq_getD_getElem?]at u ⊢;rw[Array.getElem?_eq_getElem V]at u ⊢
   simpa using u
  rw[q]at this;cases this
 by_cases g:∃m,m<ops.length/\cst ops m=Z0/\¬Li listed m
 ·have⟨m,hm⟩:=g;have⟨m,⟨i,z,v⟩,d⟩:=ajR (p:=λm=>m<ops.length/\cst ops m=Z0/\¬Li listed m) m hm;refine key m i v λo A e n hb=>?_;have⟨w,b⟩:=F.edges m o A e n hb;unfold Gx at b;rw[z]at b;cases h:cst ops e.on with
  |false=>rw[h]at b;simp at b
  |true=>
   rw[h]at b;simp at b;by_cases j:Li listed e.on
   ·exact j
   ·exact absurd ⟨w,h,j⟩ (d e.on b)
 ·have⟨m,⟨i,v⟩,d⟩:=ajR (p:=λm=>m<ops.length/\¬Li listed m) k ⟨hk,y⟩;refine key m i v λo A e n hb=>?_;have⟨w,b⟩:=F.edges m o A e n hb;by_cases j:Li listed e.on
  ·exact j
  ·exfalso;have C:cst ops m=false:=by cases hc:cst ops m with
    |false=>rfl
    |true=>exact absurd ⟨m,i,hc,v⟩ g
   have D:cst ops e.on=false:=by cases hc:cst ops e.on with
    |false=>rfl
    |true=>exact absurd ⟨_,w,hc,j⟩ g
   unfold Gx at b;rw[C,D]at b;simp at b;exact d e.on b ⟨w,j⟩
def ajS(D:aev P C ops t H t0 H0 T Hp val nm)(I:Inv ops t Hp val nm H ρ0 w0 a0 listed a w e ρ)(j:∀i,i<ops.length->Li listed i):
  Rel ρ (Hp ops.length) w/\TOn ρ (Hp ops.length).gen w (λ_=>True) (T ops.length) a/\Ext ρ0 H w0 ρ (Hp ops.length) w:=by
 have o:Hp ops.length=Hp e:=D.DV I.le (Nat.le_refl _) λi b g=>by
  cases m:chn ops i with
  |false=>rfl
  |true=>have:=(I.chain i g m).1 (j i g);omega
 rw[o];refine⟨I.rel,⟨by rw[I.Z5,D.arK _ (Nat.le_refl _)],λd _ hd=>?_⟩,I.ext⟩;rw[D.arK _ (Nat.le_refl _)]at hd;have⟨p,q⟩:=I.tmps d hd;have⟨u,v⟩:=D.amw _ (Nat.le_refl _) d hd;by_cases k:∃(i:Nat) (h:Oper),ops[i]?=ZC h/\h.dst=ZC d
 ·have⟨i,h,b,g⟩:=k;have n:=u i h b g (.inr (dQ b));have:(T ops.length).getD d aX=val i:=by simp[List.getD,n]
  rw[this];exact p i h b (j i (dQ b)) g
 ·have n:=v λi h b _ g=>k ⟨i,h,b,g⟩;have:(T ops.length).getD d aX=t.getD d aX:=by simp only[List.getD,n]
  rw[this];exact q λi h b _ g=>k ⟨i,h,b,g⟩
def agQ(u:qX P C)(D:aev P C ops t H t0 H0 T Hp val nm){Q:Exit->Act->Xs->Prop}
  (v:∀a' ρ' w',Rel ρ' (Hp ops.length) w'->TOn ρ' (Hp ops.length).gen w' (λ_=>True) (T ops.length) a'->Ext ρ0 H w0 ρ' (Hp ops.length) w'->a'.defers=a0.defers->Q .normal a' w'):
  ∀(b:Nat) (listed:Array Bool) (a:Act) (w:Xs) (e:Nat) (ρ:Ren),unl listed.toList<=b->Inv ops t Hp val nm H ρ0 w0 a0 listed a w e ρ->wpAny P .any ops.toArray Q b listed a w:=by
 have h:∀(listed:Array Bool) (a:Act) (w:Xs) (e:Nat) (ρ:Ren),Inv ops t Hp val nm H ρ0 w0 a0 listed a w e ρ->Region.ready .any ops.toArray listed=[]->Q .normal a w:=by
  intro listed a w e ρ I d;have k:∀i,i<ops.length->Li listed i:=λi hi=>by
   by_cases q:Li listed i
   ·exact q
   ·exact absurd d (Qe D.facts I.size hi q)
  have⟨y,z,A⟩:=ajS D I k;exact v a ρ w y z A I.defers
 intro b
 induction b with
 |zero=>
  intro listed a w e ρ E I;have d:Region.ready .any ops.toArray listed=[]:=by
   cases F:Region.ready .any ops.toArray listed with
   |nil=>rfl
   |cons j M=>
    have⟨o,n,g,_⟩:=zh I.size I.down (j:=j) (by rw[F];simp);have m:j<listed.size:=by rw[I.size];exact dQ n
    exact absurd ((amx m).2 (VP _ V j (by simpa using m))) g
  exact⟨d,h listed a w e ρ I d⟩
 |succ b G=>
  intro listed a w e ρ E I;refine⟨h listed a w e ρ I,λj m=>aez u D I m λa' w' K ρ' L=>G _ a' w' K ρ' ?_ L⟩;have⟨o,n,g,_⟩:=zh I.size I.down m;have p:j<listed.size:=by rw[I.size];exact dQ n
  have:=Z7 _ j ((Yp p).1 g);rw[Array.toList_setIfInBounds];omega
def Ah(n:Nat):unl (List.replicate n ZV)=n:=by
 induction n with
 |zero=>rfl
 |succ n b=>simp[List.replicate_succ,unl,b]
def ajT(G:qX P C)(K:kQ C)(hm:P.follows .mixedOrders=Z0){id:Nat}{t':gB}{H':ah}(h:y7 P C ops t H=ZC (t',H'))(R:Rel ρ H w)(L:TOn ρ H.gen w (λ_=>True) t a){Q:Exit->Act->Xs->Prop}
  (hQ:∀a' ρ' w',Rel ρ' H' w'->TOn ρ' H'.gen w' (λ_=>True) t' a'->Ext ρ H w ρ' H' w'->a'.defers=a.defers->Q .normal a' w'):(Code.region id ops.toArray Z0).wp P Q a w:=by
 unfold y7 at h;split at h <;> try(cases h;done)
 rename_i M;split at h <;> try(cases h;done)
 rename_i t0 H0 v;have⟨y,W⟩:fZ P C ops (mW ops) t0 H0=ZC (t',H')/\∀p∈lV ops,agree P C ops H.next t0 H0 p:=by
  split at h
  ·rename_i he;rw[he];exact⟨h,O⟩
  ·split at h <;> try(cases h;done)
   rename_i ha;exact⟨h,ha⟩
 have F:=DU M;have b:∀j,j∈oM ops↔j<ops.length/\cst ops j=true:=λj=>by simp[oM,List.mem_filter,List.mem_range]
 have⟨hf,hg,z,nm,vl,h1,h2,h3⟩:=uU (oM ops) t H t0 H0 (List.nodup_range.filter _) (λj n=>((b j).1 n).2)
  (λi _ j _ oi oj d a1 a2 a3 a4=>F.arJ i j oi oj d a1 a2 a3 a4) v
 have⟨T,Hp,val,S,g,m⟩:=J5 y vl;have⟨A,X,aa⟩:=Qd R hf hg;have⟨ρ1,w1,a1,g1,g2⟩:=zf G _ _ _ _ _ ρ w a v R L;have D:aev P C ops t H t0 H0 T Hp val nm:={
  facts:=F
  S:=S
  names:=λj n hc=>by
   have⟨o,E,q2,q3,q4,q5⟩:=h1 j ((b j).2 ⟨n,hc⟩);exact⟨o,E,q2,q3,by rw[m j hc];exact q4,λd hd q=>by rw[m j hc];exact q5 d hd q⟩
  inj:=λi j hi n ci cj e=>h2 i ((b i).2 ⟨hi,ci⟩) j ((b j).2 ⟨n,cj⟩) e
  rest:=λd hd=>h3 d λj n o ho=>hd j ((b j).1 n).2 o ho
  len:=z
  fresh:=hf
  auI:=hg
  agr:=W
  ghost:=λp hp d=>by
   have⟨ρ2,w2,a2,r1,r2⟩:=J6 G S g1 g2 p hp;exact RV.nv r1.out _ _ (r2.any d zac)
  keeps:=K }
 have e1:T ops.length=t':=by rw[<-Prod.mk.inj g |>.1]
 have e2:Hp ops.length=H':=by rw[<-Prod.mk.inj g |>.2]
 refine wp_region_any hm ?_;have u:∀j,¬Li (Array.replicate ops.toArray.size ZV) j:=λj=>by
  unfold Li;simp[Array.getD]
 refine agQ G D (a0:=a) (λa' ρ' w' E q2 q3 q4=>hQ a' ρ' w' (by rw[<-e2];exact E) (by rw[<-e1,<-e2];exact q2) (by rw[<-e2];exact q3) q4) ops.toArray.size _ a w.drew 0 ρ (by simp[Ah]) ?_;refine⟨O,λj o _ q=>absurd q (u j),Nat.zero_le _,λi _ _=>⟨λq=>absurd q (u i),λh=>V⟩,by rw[S.zero.2];exact X.drew,λk hk hc _=>?_,?_,L.size,λd hd=>⟨λj o _ q=>absurd q (u j),λ_=>?_⟩,Z3⟩
 ·have⟨_,_,E,_⟩:=D.names k hk hc;exact(R.out _ E).1
 ·rw[S.zero.2];exact aa.trans (Ext.drew ρ H0 w)
 ·rw[S.zero.2,A];exact RV.mono (Ext.drew ρ H w).toMono _ _ (L.get d zac hd)
end
section
variable {ρ ρ1:Ren}{G:Nat->Nat}{H1:ah}{w1:World}{n:Nat}
def Ai {f:AV->M AV}(j:∀x k cv,f x=ZC k->RV ρ1 H1.gen w1 x cv->RV ρ G w1 k cv):∀(xs d:Q AV) (l:Q XS),xs.mapM f=ZC d->RVs ρ1 H1.gen w1 xs l->RVs ρ G w1 d l
 |[],d,l,h,e=>by
  simp at h;subst h
  simpa only[RVs]using e
 |x::xs,d,l,h,e=>by
  rw[List.mapM_cons]at h;cases g:f x with
  |none=>rw[g]at h;cases h
  |some y=>
   rw[g]at h;cases i:xs.mapM f with
   |none=>rw[i]at h;cases h
   |some m=>
    rw[i]at h;simp only[Option.bind_eq_bind,Option.bind_some,Option.pure_def,Option.some.injEq]at h;subst h;simp only[RVs]at e ⊢;obtain⟨v,vs,rfl,a,b⟩:=e;exact⟨v,vs,W,j _ _ _ g a,Ai j xs m vs i b⟩
def ET {f:AV->M AV}(k:∀x m cv,f x=ZC m->RV ρ1 H1.gen w1 x cv->RV ρ G w1 m cv):∀(xs d:Q AV) (b o:Nat),xs.mapM f=ZC d->RVc ρ1 H1.gen w1 xs b o->RVc ρ G w1 d b o
 |[],d,b,o,h,g=>by
  simp at h;subst h;simp only[RVc]
 |x::xs,d,b,o,h,g=>by
  rw[List.mapM_cons]at h;cases i:f x with
  |none=>rw[i]at h;cases h
  |some y=>
   rw[i]at h;cases j:xs.mapM f with
   |none=>rw[j]at h;cases h
   |some n=>
    rw[j]at h;simp only[Option.bind_eq_bind,Option.bind_some,Option.pure_def,Option.some.injEq]at h;subst h;simp only[RVc]at g ⊢;have⟨⟨v,e,a⟩,c⟩:=g;exact⟨⟨v,e,k _ _ _ i a⟩,ET k xs n b (o+1) j c⟩
def zo {f:AV->M AV}:∀(xs b:Q AV),xs.mapM f=ZC b->b.length=xs.length
 |[],b,h=>by simp at h;subst h;rfl
 |x::xs,b,h=>by
  rw[List.mapM_cons]at h;cases e:f x with
  |none=>rw[e]at h;cases h
  |some y=>
   rw[e]at h;cases d:xs.mapM f with
   |none=>rw[d]at h;cases h
   |some g=>
    rw[d]at h;simp only[Option.bind_eq_bind,Option.bind_some,Option.pure_def,Option.some.injEq]at h;subst h;simp[zo xs g d]
def Z8(X:Rel ρ1 H1 w1)(j:∀r,r<n->ρ r=ρ1 r/\G r=H1.gen r)(w:∀r,n<=r->ρ r=Z1):
  ∀(d:Nat) (x F:AV) (cv:XS),bV H1 n d x=ZC F->RV ρ1 H1.gen w1 x cv->RV ρ G w1 F cv:=by
 have y:∀b,Imm ρ1 b->Imm ρ b:=by
  intro b hi r H m;rcases Nat.lt_or_ge r n with h|h
  ·rw[(j r h).1]at m;exact hi r H m
  ·rw[w r h]at m;cases m
 intro d
 induction d with
 |zero=>intro x F cv h;cases h
 |succ d u=>
  intro x F cv h hv;cases x with
  |s v=>simp only[bV,Option.some.injEq]at h;subst h;simpa only[RV]using hv
  |ref r g off=>
   simp only[bV]at h;split at h <;> try(cases h;done)
   rename_i m;simp only[Option.some.injEq]at h;subst h;have⟨z,A⟩:=j r m;simp only[RV]at hv ⊢;rw[z,A];exact hv
  |mp r=>
   simp only[bV]at h;split at h <;> try(cases h;done)
   rename_i m;simp only[Option.some.injEq]at h;subst h;have⟨z,A⟩:=j r m;simp only[RV]at hv ⊢;rw[z,A];exact hv
  |sl r g off C len ab ex=>
   simp only[bV]at h;split at h
   ·rename_i m;simp only[Option.some.injEq]at h;subst h;have⟨z,A⟩:=j r m;simp only[RV]at hv ⊢;rw[z,A];exact hv
   ·rename_i m;split at h <;> try(cases h;done)
    rename_i cells i;cases hm:cells.mapM (bV H1 n d)with
    |none=>rw[hm]at h;cases h
    |some l=>
     rw[hm]at h;simp only[Option.map_some,Option.some.injEq]at h;subst h;simp only[cZ]at i;split at i <;> try(cases i;done)
     rename_i g' ty all ho;split at i <;> try(cases i;done)
     rename_i hc;obtain⟨rfl,ad⟩:=hc;simp only[Option.some.injEq]at i;simp only[RV]at hv ⊢;obtain⟨b,o,c,rfl,q1,q2,q3,q4,q5⟩:=hv;have⟨H,e,k,D,K,ae,aa⟩:=q5 (by simp[ah.gen,ho,gG.gen]);have tV:=X.obj r b H D;simp only[yP,ho]at tV;have⟨cs,e',hb,hz,L,_⟩:=tV;have M:cells.length=len*C:=by rw[<-i];simp;omega
     refine⟨b,o,c,Z3,V,by rw[zo _ _ hm,M],nX hb,λr' Q p=>?_,?_⟩
     ·rcases Nat.lt_or_ge r' n with R|R
      ·rw[(j r' R).1]at p;have:=X.inj r' r b Q H p D;omega
      ·rw[w r' R]at p;cases p
     ·refine ET u cells l b o hm ?_;by_cases h0:c=0
      ·have:len=0:=V
       subst this;rw[<-i];simp[RVc]
      ·rw[K V,<-i];exact uK _ (rD off L)
  |ip cells=>
   simp only[bV]at h;cases hm:cells.mapM (bV H1 n d)with
   |none=>rw[hm]at h;cases h
   |some l=>
    rw[hm]at h;simp only[Option.map_some,Option.some.injEq]at h;subst h;simp only[RV]at hv ⊢;have⟨b,o,e,q,E,T⟩:=hv;exact⟨b,o,e,q,y b E,ET u cells l b o hm T⟩
  |vs k C cells=>
   simp only[bV]at h;cases hm:cells.mapM (bV H1 n d)with
   |none=>rw[hm]at h;cases h
   |some l=>
    rw[hm]at h;simp only[Option.map_some,Option.some.injEq]at h;subst h;simp only[RV]at hv ⊢;have⟨b,o,c,e,h0,W,q,E,T⟩:=hv;exact⟨b,o,c,e,h0,by rw[zo _ _ hm];exact W,q,y b E,ET u cells l b o hm T⟩
  |fn f a c=>
   simp only[bV]at h;split at h <;> try(cases h;done)
   rename_i a' c' ha hc;simp only[Option.some.injEq]at h;subst h;simp only[RV]at hv ⊢;have⟨a0,c0,e,q,E⟩:=hv;exact⟨a0,c0,e,Ai u _ _ _ ha q,Ai u _ _ _ hc E⟩
  |agg cells=>
   simp only[bV]at h;cases hm:cells.mapM (bV H1 n d)with
   |none=>rw[hm]at h;cases h
   |some l=>
    rw[hm]at h;simp only[Option.map_some,Option.some.injEq]at h;subst h;simp only[RV]at hv ⊢;have⟨cs,e,q⟩:=hv;exact⟨cs,e,Ai u _ _ _ hm q⟩
  |tup cells=>
   simp only[bV]at h;cases hm:cells.mapM (bV H1 n d)with
   |none=>rw[hm]at h;cases h
   |some l=>
    rw[hm]at h;simp only[Option.map_some,Option.some.injEq]at h;subst h;simp only[RV]at hv ⊢;have⟨cs,e,q⟩:=hv;exact⟨cs,e,Ai u _ _ _ hm q⟩
end
def Z9 {ρ ρ1:Ren}{H H1:ah}{w w1:Xs}(R:Rel ρ H w)(K:Keeps H.guard H1)(F:Rel ρ1 H1 w1)(E:Ext ρ H w ρ1 H1 w1){d:Nat}{x u:AV}{cv:XS}
  (W:bV H1 H.next d x=ZC u) (hv:RV ρ1 H1.gen w1 x cv):Rel ρ H w1/\RV ρ H.gen w1 u cv/\Ext ρ H w ρ H w1:=by
 have n:∀r,r<H.next->H1.get r=H.get r:=λr i=>K.get r i i
 have j:∀r,r<H.next->H1.gen r=H.gen r:=λr i=>by simp only[ah.gen,n r i]
 have m:∀r,r<H.next->ρ r=ρ1 r/\H.gen r=H1.gen r:=by
  intro r i;refine⟨?_,(j r i).symm⟩;cases h:ρ r with
  |none=>exact(E.kept r i h).symm
  |some x=>exact(E.same r x h (j r i)).symm
 have v:∀r,H.next<=r->ρ r=none:=λr i=>(R.out r i).1
 have y:=Z8 (G:=H.gen) F m v d x u cv W hv;have L:Ext ρ H w ρ H w1:=⟨Nat.le_refl _,λ_=>Nat.le_refl _,λ_ _ h _=>h,λ_ _ h=>h,λ_ _ sh h=>.inr ⟨sh,h⟩,E.size,E.frame,E.shape,E.os,E.tape,E.output⟩
 refine⟨⟨R.out,λr b sh h=>?_,R.inj,R.gl.ext L⟩,y,L⟩;have i:=R.lt h;have o:=F.obj r b sh (by rw[<-(m r i).1];exact h);rw[n r i]at o;have p:=R.obj r b sh h
 -- the object as it was,in the new world
 have M:Back H.next ρ1 H1.gen ρ H.gen:=⟨λr i=>(j r i).symm,λr i=>.inr (m r i).1,λr x Q=>by
  have:=R.lt (b:=x.1) (sh:=x.2) Q;rw[<-(m r this).1];exact Q⟩
 unfold yP at o p ⊢;cases T:H.get r with
 |blk g ty cells=>
  rw[T]at o p;have⟨cs,e,z,A,q⟩:=o;have⟨_,_,_,_,C,_⟩:=p;exact⟨cs,e,z,A,RVc.back M R.out cells b sh b sh C q.1,q.2⟩
 |map k X=>
  rw[T]at o p;have⟨D,dN,z,A,q⟩:=o;have⟨_,_,_,_,C,_⟩:=p;exact⟨D,dN,z,A,RVm.back M R.out X _ _ C q.1,q.2⟩
inductive Ex where
 |normal
 |exit (id:Nat)
 |ret
def Ex.to:Ex->Exit
 |.normal=>.normal
 |.exit id=>.exit id
 |.ret=>.ret
abbrev Res:=Option (Ex × gB × ah)
abbrev Run:=gB->ah->Res
def sS(r:Res)(k:Run):Res:=
 match r with
 |some (.normal,t,H)=>k t H
 |some (.exit i,t,H)=>ZC (.exit i,t,H)
 |some (.ret,t,H)=>ZC (.ret,t,H)
 |none=>Z1
def DW(id:Nat)(r:Res):Res:=
 match r with
 |some (.exit i,t,H)=>if i=id then ZC (.normal,t,H)else ZC (.exit i,t,H)
 |some (.normal,t,H)=>ZC (.normal,t,H)
 |some (.ret,t,H)=>ZC (.ret,t,H)
 |none=>Z1
def CO(f:Run):Nat->Run
 |0,_,_=>Z1
 |n+1,t,H=>sS (f t H) (CO f n)
open Classical in
def ajU {α:Type}(g:Nat->M α):M α:=if h:∃n,(g n).isSome=Z0 then g (Classical.choose h)else Z1
def Yq(f:Run):Run:=λt H=>ajU λn=>CO f n t H
def fF(P:XX)(C:aA):Code->Run
 |.skip=>λt H=>ZC (.normal,t,H)
 |.region _ ops draw=>λt H=>match(if draw then y7 P C ops.toList t H else PS P C ops.toList ops.toList t H)with
  |some (t',H')=>ZC (.normal,t',H')
  |none=>Z1
 |.seq a b=>λt H=>sS (fF P C a t H) (fF P C b)
 |.cond c a b=>λt H=>match dR t c with
  |.s (.bool true)=>fF P C a t H
  |.s (.bool false)=>fF P C b t H
  |_=>Z1
 |.block id c=>λt H=>DW id (fF P C c t H)
 |.loop c=>Yq (fF P C c)
 |.exit id=>λt H=>ZC (.exit id,t,H)
 |.ret=>λt H=>ZC (.ret,t,H)
 |_=>λ_ _=>Z1
def VQ(P:XX)(t:gB)(H:ah):ResultVar->M AV
 |.tmp d=>ZC (t.getD d aX)
 |.cell a b=>(Tz P b (t.getD a aX) H).map (·.1)
def jB(P:XX)(b:Q ResultVar)(t:gB)(H:ah):M AV:=
 match b.mapM (VQ P t H)with
 |some [x]=>ZC x
 |some xs=>ZC (.tup xs)
 |none=>Z1
def zY(P:XX)(C:aA)(f:FuncId)(args:Q AV):AM AV:=λH=>
 match P.funcs[f]? with
 |some fn=>match fn.body with
  |some c=>match fF P C c (args++List.replicate (fn.ntmps-args.length) aX) H with
   |some (.exit _,_,_)=>Z1
   |some (_,t,H')=>(jB P fn.results.toList t H').map λv=>(v,H')
   |none=>Z1
  |none=>Z1
 |none=>Z1
structure Pol where
 pure:FuncId->Bool
 ad8:FuncId->Option (List AV->AM AV)
def CQ(P:XX)(L:Pol)(C:aA):aA:=λf b H=>
 match L.ad8 f with
 |some p=>p b H
 |none=>
  if L.pure f then
   match zY P C f b H.guard with
   |some (v,H1)=>(bV H1 H.next 9 v).map λd=>(d,H)
   |none=>Z1
  else zY P C f b H
def lQ {α:Type}{g:Nat->M α}{r:α}(h:ajU g=ZC r):∃n,g n=ZC r:=by
 unfold ajU at h;split at h
 ·exact⟨_,h⟩
 ·cases h
def aeA {α:Type}{g:Nat->M α}(b:∀n r,g n=ZC r->g (n+1)=ZC r){n:Nat}{r:α}(h:g n=ZC r):∀k,g (n+k)=ZC r:=by
 intro k
 induction k with
 |zero=>exact h
 |succ k d=>exact b _ _ d
def Ns {α:Type}{g:Nat->M α}(b:∀n r,g n=ZC r->g (n+1)=ZC r){n m:Nat}{r:α}(h:g n=ZC r)(hm:n<=m):g m=ZC r:=by
 have:=aeA b h (m-n)
 rwa [show n+(m-n)=m by omega]at this
def wO {α:Type}{g:Nat->M α}(i:∀n r,g n=ZC r->g (n+1)=ZC r){n:Nat}{r:α}(h:g n=ZC r):ajU g=ZC r:=by
 unfold ajU;have b:∃n,(g n).isSome=true:=⟨n,by rw[h];rfl⟩
 rw[dif_pos b];have hc:=zaC b;cases d:g (Classical.choose b)with
 |none=>rw[d]at hc;cases hc
 |some r'=>
  rcases Nat.le_total n (Classical.choose b)with e|e
  ·rw[Ns i h e]at d;exact d.symm
  ·rw[Ns i d e]at h;exact h
def J8 {f:Run}:∀n t H r,CO f n t H=ZC r->CO f (n+1) t H=ZC r:=by
 intro n
 induction n with
 |zero=>intro t H r h;cases h
 |succ n b=>
  intro t H r h;show sS (f t H) (CO f (n+1))=ZC r
  change sS (f t H) (CO f n)=ZC r at h
  unfold sS at h ⊢;split at h
  ·exact b _ _ _ h
  ·exact h
  ·exact h
  ·cases h
section
variable {P:Program}{C:aA}{ρ:Ren}{H H':ah}{w:World}{t t':gB}{a:Act}
def Aj {ops rest:Q Oper}{o:Oper}:PS P C ops (o::rest) t H=match mQ P C ops ZV o t H with
  |some (v,H')=>PS P C ops rest (wC t o.dst v) H'
  |none=>none:=by
 simp only[PS,mQ];cases uI ops t o with
 |none=>rfl
 |some b=>
  cases b
  ·rfl
  ·cases opA P C t o H <;> rfl
def amy(hC:qX P C){ops:Z2 Oper}{Q:Exit->Act->Xs->Prop}:∀(m k:Nat) (t:gB) (H:ah) (a:Act) (w:Xs) (ρ:Ren),m+k=ops.length->PS P C ops (ops.drop k) t H=ZC (t',H')->Rel ρ H w->TOn ρ H.gen w (λ_=>True) t a->
  (∀a' ρ' w',Rel ρ' H' w'->TOn ρ' H'.gen w' (λ_=>True) t' a'->Ext ρ H w ρ' H' w'->a'.defers=a.defers->Q .normal a' w')->wpOps P ops.toArray Q (List.range' k m) a w:=by
 intro m
 induction m with
 |zero=>
  intro k t H a w ρ hk h R T hQ;rw[List.drop_eq_nil_of_le V]at h;simp only[PS,Option.some.injEq,zaa]at h;obtain⟨rfl,rfl⟩:=h;exact hQ a ρ w R T (Ext.refl _ _ _) W
 |succ m ih=>
  intro k t H a w ρ hk h R T hQ;have hlt:k<ops.length:=V
  have ho:ops[k]?=ZC (ops[k]'hlt):=List.getElem?_eq_getElem hlt;rw[List.drop_eq_getElem_cons hlt,Aj]at h;cases hs:mQ P C ops ZV (ops[k]'hlt) t H with
  |none=>rw[hs]at h;cases h
  |some r=>
   have⟨v,H1⟩:=r;rw[hs]at h;simp only at h;rw[List.range'_succ,wpOps_cons];refine Nr hC hs R (T.sub λ_ _=>zac) ho λcv ρ' w' r1 r2 r3=>?_;refine ih (k+1) _ _ _ w' ρ' V h r1 ((T.keep r3).put _ r2) λa' ρ2 w2 q1 q2 q3 q4=>hQ a' ρ2 w2 q1 q2 (r3.trans q3) (q4.trans ?_);cases(ops[k]'hlt).dst <;> rfl
abbrev asf(ρ:Ren)(H:ah)(w:World)(a:Act)(t':gB)(H':ah)(Q:Act->World->Prop):Prop:=
 ∀a' ρ' w',Rel ρ' H' w'->TOn ρ' H'.gen w' (λ_=>True) t' a'->Ext ρ H w ρ' H' w'->a'.defers=a.defers->Q a' w'
def wP(P:XX)(c:Code)(f:Run):Prop:=
 ∀t H e t' H',f t H=ZC (e,t',H')->∀(ρ:Ren) (w:Xs) (a:Act),Rel ρ H w->TOn ρ H.gen w (λ_=>True) t a->∀Q:Exit->Act->Xs->Prop,asf ρ H w a t' H' (Q e.to)->c.wp P Q a w
def Yr {c d:Code}{f g:Run}(k:wP P c f)(n:∀t H e t' H',g t H=ZC (e,t',H')->∀(ρ:Ren) (w:Xs) (a:Act),Rel ρ H w->TOn ρ H.gen w (λ_=>True) t a->∀Q:Exit->Act->Xs->Prop,asf ρ H w a t' H' (Q e.to)->d.wp P Q a w):
  wP P (.seq c d) λt H=>sS (f t H) g:=by
 intro t H e t' H' h ρ w a R T Q m;refine wp_seq ?_
 change sS (f t H) g=_ at h
 unfold sS at h;split at h
 ·rename_i j H1 b;refine k t H _ j H1 b ρ w a R T _ λa' ρ' w' o p q u=>?_;exact n j H1 e t' H' h ρ' w' a' o p Q λv y z A C D E=>m v y z A C (q.trans D) (E.trans u)
 ·rename_i i j H1 b;simp only[Option.some.injEq,zaa]at h;obtain⟨rfl,rfl,rfl⟩:=h;exact k t H _ j H1 b ρ w a R T _ m
 ·rename_i j H1 b;simp only[Option.some.injEq,zaa]at h;obtain⟨rfl,rfl,rfl⟩:=h;exact k t H _ j H1 b ρ w a R T _ m
 ·cases h
open Classical in
def Yt {c:Code}{f:Run}(K:wP P c f):wP P (.loop c) (Yq f):=by
 intro t H e t' H' h ρ w a R T Q hQ;have⟨n,hn⟩:=lQ h;let I:Nat->Act->Xs->Prop:=λn b w1=>∃j H1 ρ1,CO f n j H1=ZC (e,t',H')/\Rel ρ1 H1 w1/\TOn ρ1 H1.gen w1 (λ_=>True) j b/\Ext ρ H w ρ1 H1 w1/\b.defers=a.defers
 let μ:Act->Xs->Nat:=λb w1=>if k:∃n,I n b w1/\∀i,i<n->¬I i b w1 then Classical.choose k else 0
 have hμ:∀n b w1,I n b w1->I (μ b w1) b w1/\μ b w1<=n:=by
  intro n b w1 hi;have k:∃n,I n b w1/\∀i,i<n->¬I i b w1:=ajR (p:=λn=>I n b w1) n hi;have u:=zaC k;have v:μ b w1=Classical.choose k:=dif_pos k;rw[v];refine⟨u.1,?_⟩;rcases Nat.lt_or_ge n (Classical.choose k)with L|L
  ·exact absurd hi (u.2 n L)
  ·exact L
 refine wp_loop (λb w1=>∃n,I n b w1) μ ⟨n,t,H,ρ,hn,R,T,Ext.refl _ _ _,Z3⟩ λb w1 ⟨n1,hi⟩=>?_;have⟨⟨j,H1,ρ1,d,M,W,X,D1⟩,_⟩:=hμ n1 b w1 hi;cases hm:μ b w1 with
 |zero=>rw[hm]at d;cases d
 |succ m=>
  rw[hm]at d
  change sS (f j H1) (CO f m)=_ at d
  unfold sS at d;split at d
  ·rename_i F G g;refine K j H1 _ F G g ρ1 w1 b M W _ λo y q z A C D=>?_;have E:I m o q:=⟨F,G,y,d,z,A,X.trans C,D.trans D1⟩
   exact⟨⟨m,E⟩,by have:=(hμ m o q E).2;omega⟩
  ·rename_i i F G g;simp only[Option.some.injEq,zaa]at d;obtain⟨rfl,rfl,rfl⟩:=d;exact K j H1 _ _ _ g ρ1 w1 b M W _ λo y q z A C D=>hQ o y q z A (X.trans C) (D.trans D1)
  ·rename_i F G g;simp only[Option.some.injEq,zaa]at d;obtain⟨rfl,rfl,rfl⟩:=d;exact K j H1 _ _ _ g ρ1 w1 b M W _ λo y q z A C D=>hQ o y q z A (X.trans C) (D.trans D1)
  ·cases d
def CS(u:qX P C)(L:kQ C)(hm:P.follows .mixedOrders=Z0):∀c:Code,wP P c (fF P C c):=by
 intro c
 induction c with
 |skip=>
  intro t H e t' H' h ρ w a R T Q b;simp only[fF,Option.some.injEq,zaa]at h;obtain⟨rfl,rfl,rfl⟩:=h;exact wp_skip (b a ρ w R T (Ext.refl _ _ _) W)
 |region id ops draw=>
  intro t H e t' H' h ρ w a R T Q b;simp only[fF]at h;cases draw with
  |true=>
   simp only[zad]at h;split at h <;> try(cases h;done)
   rename_i k H1 hd;simp only[Option.some.injEq,zaa]at h;obtain⟨rfl,rfl,rfl⟩:=h;have:=ajT u L hm (id:=id) hd R T (Q:=Q) b
   simpa using this
  |false=>
   simp only[Bool.false_eq_true,zaf]at h;split at h <;> try(cases h;done)
   rename_i k H1 hd;simp only[Option.some.injEq,zaa]at h;obtain⟨rfl,rfl,rfl⟩:=h;refine wp_region ?_;have:=amy u (ops:=ops.toList) (Q:=Q) ops.toList.length 0 t H a w ρ O (by simpa using hd) R T b;rw[List.range_eq_range']
   simpa using this
 |seq x y m n=>exact Yr m n
 |cond c x y m n=>
  intro t H e t' H' h ρ w a R T Q b;simp only[fF]at h;have j:RV ρ H.gen w (dR t c) (a.eval c):=by
   cases c with
   |tmp d=>exact T.any d zac
   |const v=>simp[dR,Act.eval,RV]
   |global g=>simp[dR,Act.eval,RV]
   |func f=>simp[dR,Act.eval,RV,RVs]
  split at h
  ·rename_i hb;rw[hb]at j;simp only[RV]at j;exact wp_cond_true j (m t H e t' H' h ρ w a R T Q b)
  ·rename_i hb;rw[hb]at j;simp only[RV]at j;exact wp_cond_false j (n t H e t' H' h ρ w a R T Q b)
  ·cases h
 |block id x p=>
  intro t H e t' H' h ρ w a R T Q b;simp only[fF]at h;refine wp_block ?_;unfold DW at h;split at h
  ·rename_i i k H1 q;refine p t H _ k H1 q ρ w a R T _ λz A D E F G K=>?_;simp only[Ex.to,Exit.inBlock];split at h
   ·rename_i o;simp only[Option.some.injEq,zaa]at h;obtain⟨rfl,rfl,rfl⟩:=h;rw[YY o];exact b z A D E F G K
   ·rename_i o;simp only[Option.some.injEq,zaa]at h;obtain⟨rfl,rfl,rfl⟩:=h;rw[Ys o];exact b z A D E F G K
  ·rename_i k H1 q;simp only[Option.some.injEq,zaa]at h;obtain⟨rfl,rfl,rfl⟩:=h;exact p t H _ k H1 q ρ w a R T _ b
  ·rename_i k H1 q;simp only[Option.some.injEq,zaa]at h;obtain⟨rfl,rfl,rfl⟩:=h;exact p t H _ k H1 q ρ w a R T _ b
  ·cases h
 |loop x p=>exact Yt p
 |exit id=>
  intro t H e t' H' h ρ w a R T Q b;simp only[fF,Option.some.injEq,zaa]at h;obtain⟨rfl,rfl,rfl⟩:=h;exact wp_exit (b a ρ w R T (Ext.refl _ _ _) W)
 |ret=>
  intro t H e t' H' h ρ w a R T Q b;simp only[fF,Option.some.injEq,zaa]at h;obtain⟨rfl,rfl,rfl⟩:=h;exact wp_ret (b a ρ w R T (Ext.refl _ _ _) W)
 |_=>intro t H e t' H' h;simp[fF]at h
end
section
variable {P:Program}{C:aA}{ρ:Ren}{H H':ah}{w:World}{t t':gB}{a:Act}
def J9(d:kQ C){ops:Q Oper}{lo:Bool}{o:Oper}{v:AV}(h:mQ P C ops lo o t H=ZC (v,H')):Keeps H H':=by
 unfold mQ at h;split at h <;> try(cases h;done)
 ·split at h
  ·have:=(GX d h).1;exact⟨this.1,this.2.1,λr _ b=>this.2.2 r b,λr b=>by rw[this.2.2 r b];exact .refl _⟩
  ·exact ES d h
 ·simp only[Option.some.injEq,zaa]at h;rw[h.2];exact .refl _
def Ko(b:kQ C){ops:Q Oper}:∀(l:Q Oper) (t:gB) (H:ah),PS P C ops l t H=ZC (t',H')->Keeps H H'
 |[],t,H,h=>by
  simp only[PS,Option.some.injEq,zaa]at h;rw[h.2];exact .refl _
 |o::l,t,H,h=>by
  rw[Aj]at h;split at h <;> try(cases h;done)
  rename_i v H1 d;exact(J9 b d).trans (Ko b l _ _ h)
def yT(b:kQ C){ops:Q Oper}:∀(l:Q Nat) (t:gB) (H:ah),iY P C ops l t H=ZC (t',H')->Keeps H H'
 |[],t,H,h=>by
  simp only[iY,Option.some.injEq,zaa]at h;rw[h.2];exact .refl _
 |i::l,t,H,h=>by
  simp only[iY]at h;split at h <;> try(cases h;done)
  split at h <;> try(cases h;done)
  rename_i v H1 d;exact(ES b d).trans (yT b l _ _ h)
def uV(b:kQ C){ops:Q Oper}:∀(l:Q Nat) (t:gB) (H:ah),fZ P C ops l t H=ZC (t',H')->Keeps H H'
 |[],t,H,h=>by
  simp only[fZ,Option.some.injEq,zaa]at h;rw[h.2];exact .refl _
 |i::l,t,H,h=>by
  simp only[fZ]at h;split at h <;> try(cases h;done)
  split at h <;> try(cases h;done)
  rename_i v H1 d;exact(J9 b d).trans (uV b l _ _ h)
def TV(b:kQ C){ops:Q Oper}(h:y7 P C ops t H=ZC (t',H')):Keeps H H':=by
 unfold y7 at h;split at h <;> try(cases h;done)
 split at h <;> try(cases h;done)
 rename_i t0 H0 e;have d:=yT b _ _ _ e;split at h
 ·exact d.trans (uV b _ _ _ h)
 ·split at h <;> try(cases h;done)
  exact d.trans (uV b _ _ _ h)
def uX(f:Run):Prop:=∀t H e t' H',f t H=ZC (e,t',H')->Keeps H H'
def Kq {f g:Run}(d:uX f)(k:uX g):uX λt H=>sS (f t H) g:=by
 intro t H e t' H' h
 change sS (f t H) g=_ at h
 unfold sS at h;split at h
 ·rename_i j H1 b;exact(d _ _ _ _ _ b).trans (k _ _ _ _ _ h)
 ·rename_i i j H1 b;simp only[Option.some.injEq,zaa]at h;obtain⟨_,_,rfl⟩:=h;exact d _ _ _ _ _ b
 ·rename_i j H1 b;simp only[Option.some.injEq,zaa]at h;obtain⟨_,_,rfl⟩:=h;exact d _ _ _ _ _ b
 ·cases h
def Yu {f:Run}(b:uX f):uX (Yq f):=by
 have key:∀n,uX (CO f n):=by
  intro n
  induction n with
  |zero=>intro t H e t' H' h;cases h
  |succ n d=>exact Kq b d
 intro t H e t' H' h;have⟨n,g⟩:=lQ h;exact key n t H e t' H' g
def Yv(m:kQ C):∀c:Code,uX (fF P C c):=by
 intro c
 induction c with
 |skip=>
  intro t H e t' H' h;simp only[fF,Option.some.injEq,zaa]at h;rw[<-h.2.2];exact .refl _
 |region id ops draw=>
  intro t H e t' H' h;simp only[fF]at h;split at h <;> try(cases h;done)
  rename_i k H1 hd;simp only[Option.some.injEq,zaa]at h;obtain⟨_,rfl,rfl⟩:=h;split at hd
  ·exact TV m hd
  ·exact Ko m _ _ _ hd
 |seq x y b d=>exact Kq b d
 |cond c x y b d=>
  intro t H e t' H' h;simp only[fF]at h;split at h
  ·exact b _ _ _ _ _ h
  ·exact d _ _ _ _ _ h
  ·cases h
 |block id x g=>
  intro t H e t' H' h;simp only[fF]at h;unfold DW at h;split at h
  ·rename_i i k H1 j;split at h <;>
   ·simp only[Option.some.injEq,zaa]at h;obtain⟨_,_,rfl⟩:=h;exact g _ _ _ _ _ j
  ·rename_i k H1 j;simp only[Option.some.injEq,zaa]at h;obtain⟨_,_,rfl⟩:=h;exact g _ _ _ _ _ j
  ·rename_i k H1 j;simp only[Option.some.injEq,zaa]at h;obtain⟨_,_,rfl⟩:=h;exact g _ _ _ _ _ j
  ·cases h
 |loop x g=>exact Yu g
 |exit id=>
  intro t H e t' H' h;simp only[fF,Option.some.injEq,zaa]at h;rw[<-h.2.2];exact .refl _
 |ret=>
  intro t H e t' H' h;simp only[fF,Option.some.injEq,zaa]at h;rw[<-h.2.2];exact .refl _
 |_=>intro t H e t' H' h;simp[fF]at h
def Kr(d:kQ C){f:FuncId}{args:Q AV}{v:AV}(h:zY P C f args H=ZC (v,H')):Keeps H H':=by
 unfold zY at h;split at h <;> try(cases h;done)
 split at h <;> try(cases h;done)
 split at h <;> try(cases h;done)
 rename_i e g H1 i j;have:=Yv d _ _ _ _ _ _ j;cases b:jB P _ g H1 with
 |none=>rw[b]at h;cases h
 |some x=>
  rw[b]at h;simp only[Option.map_some,Option.some.injEq,zaa]at h;rw[<-h.2];exact this
def arL(tmps:Array XS):ResultVar->Sem XS
 |.tmp t=>pure (tmps.getD t undef)
 |.cell a t=>do loadVar t (<-asAddr (tmps.getD a undef))
def Qg(fn:Func)(tmps:Array XS):results fn tmps=(do
  let vs<-fn.results.mapM (arL tmps)
  pure (if h:vs.size=1 then vs[0]else .tuple vs)):=by
 rfl
def ajV(R:Rel ρ H w)(T:TOn ρ H.gen w (λ_=>True) t a){x:ResultVar}{v:AV}(h:VQ P t H x=ZC v):
  ∃cv,(arL a.tmps x).run P w=.ok cv w/\RV ρ H.gen w v cv:=by
 cases x with
 |tmp d=>
  simp only[VQ,Option.some.injEq]at h;subst h;exact⟨_,W,T.any d zac⟩
 |cell b p=>
  simp only[VQ]at h;cases i:Tz P p (t.getD b aX) H with
  |none=>rw[i]at h;cases h
  |some r=>
   have⟨u,H1⟩:=r;rw[i]at h;simp only[Option.map_some,Option.some.injEq]at h;subst h;have g:=T.any b zac;have⟨_,cv,n,q⟩:=ZN R g i;have j:∃k,a.tmps.getD b undef=.pointer (ZC k):=by
    have m:=(uO i).1;unfold ajH at m;split at m
    ·rename_i hb;rw[hb]at g m;simp only[RV]at g;have⟨k,e,_⟩:=g;exact⟨k,e⟩
    ·rename_i hb;rw[hb]at g;simp only[RV]at g;have⟨b,o,e,_⟩:=g;exact⟨_,e⟩
    ·cases m
   have⟨k,j⟩:=j;refine⟨cv,?_,q⟩;rw[j]at n;simp only[arL,j]
   simpa [Instr.loadAt,Instr.sureAddr,asAddr]using n
def VR(R:Rel ρ H w)(T:TOn ρ H.gen w (λ_=>True) t a):∀(b:Q ResultVar) (xs:Q AV),b.mapM (VQ P t H)=ZC xs->
  ∃cs:Q XS,(b.mapM (arL a.tmps)).run P w=.ok cs w/\RVs ρ H.gen w xs cs
 |[],xs,h=>by
  simp at h;subst h;exact⟨[],O,by simp[RVs]⟩
 |r::b,xs,h=>by
  rw[List.mapM_cons]at h;cases d:VQ P t H r with
  |none=>rw[d]at h;cases h
  |some y=>
   rw[d]at h;cases e:b.mapM (VQ P t H)with
   |none=>rw[e]at h;cases h
   |some g=>
    rw[e]at h;simp only[Option.bind_eq_bind,Option.bind_some,Option.pure_def,Option.some.injEq]at h;subst h;have⟨cv,i,j⟩:=ajV (P:=P) R T d;have⟨cs,k,m⟩:=VR R T b g e;refine⟨cv::cs,?_,?_⟩
    ·rw[List.mapM_cons,zak,i];simp only[zai,zak,k,zao]
    ·simp only[RVs];exact⟨cv,cs,W,j,m⟩
def Kt(R:Rel ρ H w)(T:TOn ρ H.gen w (λ_=>True) t a){fn:Func}{v:AV}(h:jB P fn.results.toList t H=ZC v):
  ∃cv,(results fn a.tmps).run P w=.ok cv w/\RV ρ H.gen w v cv:=by
 unfold jB at h;cases hm:fn.results.toList.mapM (VQ P t H)with
 |none=>rw[hm]at h;cases h
 |some xs=>
  rw[hm]at h;have⟨cs,e,b⟩:=VR (P:=P) R T _ _ hm;have d:(results fn a.tmps).run P w=.ok (if h:cs.toArray.size=1 then cs.toArray[0]else .tuple cs.toArray) w:=by
   rw[Qg,Array.mapM_eq_mapM_toList,map_eq_pure_bind];simp only[zak];rw[e];rfl
  rw[d];refine⟨_,W,?_⟩;cases xs with
  |nil=>
   simp only[Option.some.injEq]at h;subst h;simp only[RVs]at b;subst b;simp[RV,RVs]
  |cons x xs=>
   cases xs with
   |nil=>
    simp only[Option.some.injEq]at h;subst h;simp only[RVs]at b;obtain⟨y,j,rfl,g,rfl⟩:=b
    simpa using g
   |cons k xs=>
    simp only[Option.some.injEq]at h;subst h;have i:cs.length≠1:=by have:=dO b;simp at this;omega
    have:(if h:cs.toArray.size=1 then cs.toArray[0]else .tuple cs.toArray)=.tuple cs.toArray:=by
     rw[dif_neg];simpa using i
    rw[this];simp only[RV];exact⟨_,W,by simpa using b⟩
def aac {args:Q AV}{lD:Array XS}{m:Nat}(h:RVs ρ H.gen w args lD.toList):
  TOn ρ H.gen w (λ_=>True) (args++List.replicate (m-args.length) aX) { tmps:=lD++Array.replicate (m-lD.size) undef,defers:=[] }:=by
 have hl:=dO h;have hl':lD.size=args.length:=by simpa using hl
 refine⟨by simp[hl'],λ(d:Nat) _ hd=>?_⟩;by_cases hlt:d<args.length
 ·have hx:args[d]?=ZC (args[d]'hlt):=List.getElem?_eq_getElem hlt;have⟨v,hv,h1⟩:=jP h hx;have e1:(args++List.replicate (m-args.length) aX).getD d aX=args[d]'hlt:=by
   simp[List.getD,List.getElem?_append_left hlt,hx]
  have e2:(lD++Array.replicate (m-lD.size) undef).getD d undef=v:=by
   have hv':lD[d]?=ZC v:=by simpa using hv
   have hlt2:d<lD.size:=V
   rw[Array.getD_eq_getD_getElem?,Array.getElem?_append_left hlt2,hv'];rfl
  rw[e1,e2];exact h1
 ·have e1:(args++List.replicate (m-args.length) aX).getD d aX=aX:=by
   simp only[List.getD,List.getElem?_append_right (Nat.not_lt.1 hlt),List.getElem?_replicate];split <;> rfl
  have e2:(lD++Array.replicate (m-lD.size) undef).getD d undef=undef:=by
   rw[Array.getD_eq_getD_getElem?,Array.getElem?_append_right V,Array.getElem?_replicate];split <;> rfl
  show RV ρ H.gen w (List.getD _ d aX) (Array.getD _ d undef);rw[e1,e2];exact ER
def Ku(o:qX P C)(p:kQ C)(hm:P.follows .mixedOrders=Z0):qX P (zY P C):=by
 intro f k H v H' h ρ w F R b;unfold zY at h;split at h <;> try(cases h;done)
 rename_i fn q;split at h <;> try(cases h;done)
 rename_i c hb;split at h <;> try(cases h;done)
 rename_i e m H1 g u;cases j:jB P fn.results.toList m H1 with
 |none=>rw[j]at h;cases h
 |some x=>
  rw[j]at h;simp only[Option.map_some,Option.some.injEq,zaa]at h;obtain⟨rfl,rfl⟩:=h;refine calls_of_wp q hb ?_;refine CS o p hm c _ _ e m H1 u ρ w _ R (aac b) _ λa' ρ' w' n y z A=>?_;have⟨cv,D,E⟩:=Kt (P:=P) n y j;have d:bodyPost P fn (λe w'=>∃cv ρ',e=.returned cv/\Rel ρ' H1 w'/\RV ρ' H1.gen w' x cv/\Ext ρ H w ρ' H1 w') .ret a' w':=⟨A,cv,D,cv,ρ',W,n,E,z⟩
  cases e with
  |normal=>exact d
  |ret=>exact d
  |exit i=>exact absurd W (g i)
def Yw(P:XX)(L:Pol):Prop:=∀f p,L.ad8 f=ZC p->qX P (λg b H=>if g=f then p b H else Z1)/\∀b H v H',p b H=ZC (v,H')->Keeps H H'
def TW {L:Pol}(o:Yw P L)(m:qX P C)(i:kQ C)(hm:P.follows .mixedOrders=Z0):qX P (CQ P L C):=by
 intro f d H v H' h ρ w j R b;unfold CQ at h;split at h
 ·rename_i p q;exact(o f p q).1 f d H v H' (by simpa using h) ρ w j R b
 ·split at h
  ·split at h <;> try(cases h;done)
   rename_i u H1 n;cases k:bV H1 H.next 9 u with
   |none=>rw[k]at h;cases h
   |some K=>
    rw[k]at h;simp only[Option.map_some,Option.some.injEq,zaa]at h;obtain⟨rfl,rfl⟩:=h;refine(Ku m i hm f d H.guard u H1 n ρ w j ⟨R.out,R.obj,R.inj,R.gl⟩ b).mono λe w' y=>?_;obtain⟨cv,ρ',rfl,z,A,g⟩:=y;have E:Ext ρ H w ρ' H1 w':=⟨g.next,g.mono,g.same,g.kept,g.range,g.size,g.frame,g.shape,g.os,g.tape,g.output⟩
    have⟨D,F,G⟩:=Z9 R (Kr i n) z E k A;exact⟨cv,ρ,W,D,F,G⟩
  ·exact Ku m i hm f d H v H' h ρ w j R b
def TY {L:Pol}(e:Yw P L)(g:kQ C):kQ (CQ P L C):=by
 intro f b H v H' h;unfold CQ at h;split at h
 ·rename_i p i;exact(e f p i).2 b H v H' h
 ·split at h
  ·split at h <;> try(cases h;done)
   rename_i u H1 j;cases d:bV H1 H.next 9 u with
   |none=>rw[d]at h;cases h
   |some k=>
    rw[d]at h;simp only[Option.map_some,Option.some.injEq,zaa]at h;rw[<-h.2];exact .refl _
  ·exact Kr g h
end
abbrev Pt:=FuncId × List AV × ah × AV × ah
def Has(C:aA)(L:Q Pt):Prop:=∀p∈L,C p.1 p.2.1 p.2.2.1=ZC (p.2.2.2.1,p.2.2.2.2)
def Has.left {C:aA}{L M:Q Pt}(h:Has C (L++M)):Has C L:=λp b=>h p (List.mem_append_left _ b)
def Has.right {C:aA}{L M:Q Pt}(h:Has C (L++M)):Has C M:=λp b=>h p (List.mem_append_right _ b)
def Has.append {C:aA}{L M:Q Pt}(h:Has C L)(b:Has C M):Has C (L++M):=λp d=>(List.mem_append.1 d).elim (h p) (b p)
def Fin1 {α:Type}(C:aA)(F:aA->M α):Prop:=∀r,F C=ZC r->∃L,Has C L/\∀b,Has b L->F b=ZC r
def Fin1.const {α:Type}{C:aA}(x:M α):Fin1 C λ_=>x:=λr h=>⟨[],λ_ h=>by simp at h,λ_ _=>h⟩
def Fin1.point {C:aA}{f:FuncId}{args:Q AV}{H:ah}:Fin1 C λC=>C f args H:=λr h=>
 ⟨[(f,args,H,r.1,r.2)],λp b=>by simp at b;subst b;exact h,λd hc=>hc (f,args,H,r.1,r.2) O⟩
def Fin1.bind {α β:Type}{C:aA}{F:aA->Z6 α}{G:α->aA->Z6 β}(e:Fin1 C F)(g:∀a,Fin1 C (G a)):Fin1 C λC=>(F C).bind λa=>G a C:=by
 intro r h;cases b:F C with
 |none=>simp[b]at h
 |some a=>
  simp only[b,Option.bind_some]at h;have⟨L,i,j⟩:=e a b;have⟨M,k,m⟩:=g a r h;exact⟨L++M,i.append k,λd hc=>by simp only[j d hc.left,Option.bind_some];exact m d hc.right⟩
def Fin1.of_eq {α:Type}{C:aA}{F G:aA->M α}(h:Fin1 C G)(e:∀C,F C=G C):Fin1 C F:=by
 rw[show F=G from zal e];exact h
section
variable {P:Program}{C:aA}{t:gB}{H:ah}{o:Oper}
def aad {x:AV}{args:Q AV}:Fin1 C λC=>qC P C x args H:=by
 unfold qC;split
 ·split
  ·exact Fin1.point
  ·exact Fin1.const _
 ·split
  ·exact Fin1.point
  ·exact Fin1.const _
 ·exact Fin1.const _
def Ua:Fin1 C λC=>opA P C t o H:=by
 have⟨dst,op,b,d,after,guard⟩:=o;cases op
 case makeMap ty r=>cases r <;> exact Fin1.const _
 case call c=>
  simp only[opA,wF];split
  ·exact aad
  ·exact Fin1.const _
  ·exact Fin1.const _
 all_goals exact Fin1.const _
def VT {ops:Q Oper}{lo:Bool}:Fin1 C λC=>mQ P C ops lo o t H:=by
 cases hw:uI ops t o with
 |none=>exact(Fin1.const Z1).of_eq λC=>by simp[mQ,hw]
 |some b=>
  cases b with
  |false=>exact(Fin1.const (ZC (aX,H))).of_eq λC=>by simp[mQ,hw]
  |true=>
   cases lo with
   |false=>exact(Ua (P:=P) (o:=o) (t:=t) (H:=H)).of_eq λC=>by simp[mQ,hw]
   |true=>
    refine Fin1.of_eq (G:=λC=>(opA P C t o H.guard).bind λr=>ZC (r.1,{ r.2 with base:=H.base })) (Fin1.bind Ua λ_=>Fin1.const _) λC=>?_;simp only[mQ,hw,zad,opG];cases opA P C t o H.guard <;> rfl
def VU {ops:Q Oper}:∀(l:Q Oper) (t:gB) (H:ah),Fin1 C λC=>PS P C ops l t H
 |[],t,H=>Fin1.const _
 |o::l,t,H=>by
  refine Fin1.of_eq (G:=λC=>(mQ P C ops ZV o t H).bind λr=>PS P C ops l (wC t o.dst r.1) r.2) (Fin1.bind VT λr=>VU l _ _) λC=>?_;rw[Aj];cases mQ P C ops ZV o t H <;> rfl
def DY {ops:Q Oper}:∀(l:Q Nat) (t:gB) (H:ah),Fin1 C λC=>iY P C ops l t H
 |[],t,H=>Fin1.const _
 |i::l,t,H=>by
  cases b:ops[i]? with
  |none=>exact(Fin1.const Z1).of_eq λC=>by simp[iY,b]
  |some o=>
   refine Fin1.of_eq (G:=λC=>(opA P C t o H).bind λr=>iY P C ops l (wC t o.dst r.1) r.2) (Fin1.bind Ua λr=>DY l _ _) λC=>?_;simp only[iY,b];cases opA P C t o H <;> rfl
def Hq {ops:Q Oper}:∀(l:Q Nat) (t:gB) (H:ah) (r:gB × ah),fZ P C ops l t H=ZC r->
  ∃L,Has C L/\∀b,Has b L->∀k,fZ P b ops (l.take k) t H=fZ P C ops (l.take k) t H
 |[],t,H,r,h=>⟨[],λ_ h=>by simp at h,λ_ _ k=>by simp[fZ]⟩
 |i::l,t,H,r,h=>by
  simp only[fZ]at h;cases g:ops[i]? with
  |none=>rw[g]at h;cases h
  |some o=>
   rw[g]at h;simp only at h;cases d:mQ P C ops (loose ops i && mJ o.op) o t H with
   |none=>rw[d]at h;cases h
   |some q=>
    rw[d]at h;simp only at h;have⟨L,j,m⟩:=VT (P:=P) (C:=C) (t:=t) (H:=H) (o:=o) (ops:=ops) (lo:=loose ops i && mJ o.op) q d;have⟨M,n,p⟩:=Hq l _ _ r h;refine⟨L++M,j.append n,λb hc k=>?_⟩;cases k with
    |zero=>rfl
    |succ k=>
     have e:=m b hc.left;simp only[List.take_succ_cons,fZ,g,d];simp only at e;rw[e];exact p b hc.right k
def aae {ops:List Oper}{p:Nat}(b:p<=ops.length):∃k,(List.range p).filter (λi=>!cst ops i)=(mW ops).take k:=by
 have:List.range ops.length=List.range p++(List.range (ops.length-p)).map (p+ ·):=by
  rw[<-List.range_add];congr 1;omega
 refine⟨((List.range p).filter (λi=>!cst ops i)).length,?_⟩;unfold mW;rw[this,List.filter_append,List.take_left]
def Ub {ops:Q Oper}{p:Nat × Nat}(h:p∈lV ops):p.1<ops.length/\p.2<ops.length:=by
 unfold lV at h;have⟨j,b,h⟩:=List.mem_flatMap.1 h;obtain⟨e,d,rfl⟩:=List.mem_map.1 h;exact⟨List.mem_range.1 b,List.mem_range.1 (List.mem_filter.1 d).1⟩
def aaf {ops:Z2 Oper}:Fin1 C λC=>y7 P C ops t H:=by
 intro r h;simp only at h;unfold y7 at h;split at h <;> try(cases h;done)
 rename_i w;split at h <;> try(cases h;done)
 rename_i t0 H0 F;have⟨L,G,K⟩:=DY (P:=P) (C:=C) (ops:=ops) (oM ops) t H (t0,H0) F;have g:fZ P C ops (mW ops) t0 H0=ZC r:=by
  split at h
  ·exact h
  ·split at h <;> try(cases h;done)
   exact h
 have⟨M,Q,A⟩:=Hq (P:=P) (C:=C) (ops:=ops) (mW ops) t0 H0 r g;have d:∀b,Has b M->fZ P b ops (mW ops) t0 H0=ZC r:=λb hc=>by
  have:=A b hc (mW ops).length;rw[List.take_length]at this;rw[this];exact g
 have n:∀b,Has b M->∀p,p<=ops.length->Gy P b ops p t0 H0=Gy P C ops p t0 H0:=λb hc p o=>by
  have⟨k,hk⟩:=aae o;unfold Gy;rw[hk];exact A b hc k
 refine⟨L++M,G.append Q,λb hc=>?_⟩;have D:=K b hc.left;simp only at D ⊢;unfold y7;rw[YY w,D];simp only;split at h
 ·exact d b hc.right
 ·rename_i ps R he;split at h <;> try(cases h;done)
  rename_i ha;cases T:lV ops with
  |nil=>exact d b hc.right
  |cons q qs=>
   rw[YY]
   ·exact d b hc.right
   ·intro p o;rw[<-T]at o;have⟨b1,b2⟩:=Ub o;have e:=ha p o;unfold agree at e ⊢;split
    ·rename_i i;rw[YY i]at e;intro y z j m u v;rw[n b hc.right _ V]at u v;exact e y z j m u v
    ·rename_i i;rw[Ys i]at e;intro W X y z j m E u v;rw[n b hc.right _ V]at E u v;exact e W X y z j m E u v
abbrev asg:=aA->Run
def ajW(C:aA)(F:asg):Prop:=∀t H,Fin1 C λC=>F C t H
def VW {F G:asg}(b:ajW C F)(d:ajW C G):ajW C λC t H=>sS (F C t H) (G C):=by
 intro t H;refine Fin1.of_eq (G:=λC=>(F C t H).bind λr=>(match r with|(.normal,t,H)=>G C t H|r=>ZC r)) (Fin1.bind (b t H) λr=>?_) λC=>?_
 ·have⟨e,t,H⟩:=r;cases e with
  |normal=>exact d t H
  |_=>exact Fin1.const _
 ·show sS (F C t H) (G C)=_;unfold sS;cases F C t H with
  |none=>rfl
  |some r=>have⟨e,t,H⟩:=r;cases e <;> rfl
def aeB {F:asg}(b:ajW C F):ajW C λC=>Yq (F C):=by
 have key:∀n,ajW C λC=>CO (F C) n:=by
  intro n
  induction n with
  |zero=>exact λt H=>Fin1.const Z1
  |succ n d=>exact VW b d
 intro t H r h;have⟨n,e⟩:=lQ h;have⟨L,g,i⟩:=key n t H r e;exact⟨L,g,λj hc=>wO (λn r=>J8 n t H r) (i j hc)⟩
def aeC:∀c:Code,ajW C λC=>fF P C c:=by
 intro c
 induction c with
 |skip=>exact λt H=>Fin1.const _
 |region id ops draw=>
  intro t H;cases draw with
  |true=>
   refine Fin1.of_eq (G:=λC=>(y7 P C ops.toList t H).bind λr=>ZC (.normal,r.1,r.2)) (Fin1.bind aaf λ_=>Fin1.const _) λC=>?_;simp only[fF,zad];cases y7 P C ops.toList t H <;> rfl
  |false=>
   refine Fin1.of_eq (G:=λC=>(PS P C ops.toList ops.toList t H).bind λr=>ZC (.normal,r.1,r.2)) (Fin1.bind (VU _ _ _) λ_=>Fin1.const _) λC=>?_;simp only[fF,Bool.false_eq_true,zaf];cases PS P C ops.toList ops.toList t H <;> rfl
 |seq x y b d=>exact VW b d
 |cond c x y b d=>
  intro t H;simp only[fF];split
  ·exact b t H
  ·exact d t H
  ·exact Fin1.const _
 |block id x e=>
  intro t H;refine Fin1.of_eq (G:=λC=>(fF P C x t H).bind λr=>DW id (ZC r)) (Fin1.bind (e t H) λ_=>Fin1.const _) λC=>?_;simp only[fF];cases fF P C x t H <;> rfl
 |loop x e=>exact aeB e
 |exit id=>exact λt H=>Fin1.const _
 |ret=>exact λt H=>Fin1.const _
 |_=>exact λt H=>Fin1.const _
def VX {f:FuncId}{args:Q AV}:Fin1 C λC=>zY P C f args H:=by
 cases b:P.funcs[f]? with
 |none=>exact(Fin1.const Z1).of_eq λC=>by simp[zY,b]
 |some fn=>
  cases hb:fn.body with
  |none=>exact(Fin1.const Z1).of_eq λC=>by simp[zY,b,hb]
  |some c=>
   refine Fin1.of_eq (G:=λC=>(fF P C c (args++List.replicate (fn.ntmps-args.length) aX) H).bind λr=>
    (match r with
     |(.exit _,_,_)=>Z1
     |(_,t,H')=>(jB P fn.results.toList t H').map λv=>(v,H'))) (Fin1.bind (aeC c _ _) λ_=>Fin1.const _) λC=>?_
   simp only[zY,b,hb];cases fF P C c (args++List.replicate (fn.ntmps-args.length) aX) H with
   |none=>rfl
   |some r=>have⟨e,t,H⟩:=r;cases e <;> rfl
def Qh {L:Pol}{f:FuncId}{args:Q AV}:Fin1 C λC=>CQ P L C f args H:=by
 cases b:L.ad8 f with
 |some p=>exact(Fin1.const (p args H)).of_eq λC=>by simp[CQ,b]
 |none=>
  cases d:L.pure f with
  |false=>exact(VX (P:=P) (f:=f) (args:=args) (H:=H)).of_eq λC=>by simp[CQ,b,d]
  |true=>
   refine Fin1.of_eq (G:=λC=>(zY P C f args H.guard).bind λr=>(bV r.2 H.next 9 r.1).map λe=>(e,H)) (Fin1.bind VX λ_=>Fin1.const _) λC=>?_;simp only[CQ,b,d,zad];cases zY P C f args H.guard <;> rfl
end
def EF(P:XX)(L:Pol):Nat->aA
 |0=>λ_ _ _=>Z1
 |n+1=>CQ P L (EF P L n)
def callω(P:XX)(L:Pol):aA:=λf b H=>ajU λn=>EF P L n f b H
section
variable {P:Program}{L:Pol}
def CU:∀(n:Nat) (f:FuncId) (args:Q AV) (H:ah) (r:AV × ah),EF P L n f args H=ZC r->EF P L (n+1) f args H=ZC r:=by
 intro n
 induction n with
 |zero=>intro f args H r h;cases h
 |succ n b=>
  intro f args H r h;have⟨M,d,e⟩:=Qh (P:=P) (L:=L) (C:=EF P L n) (f:=f) (args:=args) (H:=H) r h;exact e _ λp g=>b _ _ _ _ (d p g)
def amA:∀M:Q Pt,Has (callω P L) M->∃n,Has (EF P L n) M
 |[],_=>⟨0,λ_ h=>by simp at h⟩
 |p::M,h=>by
  have⟨n,d⟩:=lQ (h p O);have⟨m,hm⟩:=amA M λq b=>h q (by simp[b]);refine⟨n+m,λq b=>?_⟩;rcases List.mem_cons.1 b with rfl|b
  ·exact Ns (g:=λn=>EF P L n q.1 q.2.1 q.2.2.1) (λn r=>CU n _ _ _ r) d V
  ·exact Ns (g:=λn=>EF P L n q.1 q.2.1 q.2.2.1) (λn r=>CU n _ _ _ r) (hm q b) V
def callω_of {f:FuncId}{args:Q AV}{H:ah}{r:AV × ah}(h:CQ P L (callω P L) f args H=ZC r):callω P L f args H=ZC r:=by
 have⟨M,b,d⟩:=Qh (P:=P) (L:=L) (C:=callω P L) (f:=f) (args:=args) (H:=H) r h;have⟨n,e⟩:=amA M b;have:EF P L (n+1) f args H=ZC r:=d _ e;exact wO (g:=λn=>EF P L n f args H) (λn r=>CU n f args H r) this
def callω_ok(g:Yw P L)(hm:P.follows .mixedOrders=Z0):qX P (callω P L)/\kQ (callω P L):=by
 have key:∀n,qX P (EF P L n)/\kQ (EF P L n):=by
  intro n
  induction n with
  |zero=>exact⟨λf b H v H' h=>(by cases h),λf b H v H' h=>(by cases h)⟩
  |succ n d=>exact⟨TW g d.1 d.2 hm,TY g d.2⟩
 refine⟨λf b H v H' h=>?_,λf b H v H' h=>?_⟩
 ·have⟨n,e⟩:=lQ h;exact(key n).1 f b H v H' e
 ·have⟨n,e⟩:=lQ h;exact(key n).2 f b H v H' e
end
def aeD(c:AV)(x y:Res):Res:=
 match c with
 |.s (.bool true)=>x
 |.s (.bool false)=>y
 |_=>Z1
def bnd {α β:Type}(x:M (α × ah))(k:α->ah->M β):M β:=
 match x with
 |some (v,H)=>k v H
 |none=>Z1
def VY {α β:Type}{v:α}{H:ah}{k:α->ah->M β}:bnd (ZC (v,H)) k=k v H:=rfl
def gd {β:Type}(b:Bool)(x:M (AV × ah))(H:ah)(k:AV->ah->M β):M β:=
 if b=Z0 then bnd x k else k aX H
def okN(r:M (gB × ah)):Res:=
 match r with
 |some (t,H)=>ZC (.normal,t,H)
 |none=>Z1
section
variable {P:Program}{C:aA}{t:gB}{H H':ah}
def aeE {a b:Code}:fF P C (.seq a b) t H=sS (fF P C a t H) (fF P C b):=rfl
def aag {c:Operand}{a b:Code}:fF P C (.cond c a b) t H=aeD (dR t c) (fF P C a t H) (fF P C b t H):=by
 simp only[fF,aeD]
 try rfl
def Yx {id:Nat}{a:Code}:fF P C (.block id a) t H=DW id (fF P C a t H):=rfl
def Uc {id:Nat}{ops:Array Oper}:fF P C (.region id ops ZV) t H=okN (PS P C ops.toList ops.toList t H):=by
 simp only[fF,okN,Bool.false_eq_true,zaf]
 try rfl
def aah {id:Nat}{ops:Array Oper}:fF P C (.region id ops Z0) t H=okN (y7 P C ops.toList t H):=by
 simp only[fF,okN,zad]
 try rfl
def VZ(ops:Q Oper)(t:gB)(j:Nat):M AV:=(ops[j]?.bind (·.dst)).bind λd=>t[d]?
def Kv(g:M AV)(d:Bool):M Bool:=
 match g with
 |some (.s (.bool b))=>ZC (b==d)
 |some (.tup [])=>ZC ZV
 |_=>Z1
def gdA {β:Type}(g:M AV)(d:Bool)(x:M (AV × ah))(H:ah)(k:AV->ah->M β):M β:=
 match Kv g d with
 |some b=>gd b x H k
 |none=>Z1
def Qi {β:Type}{b:Bool}{x:M (AV × ah)}{k:AV->ah->M β}:gdA (ZC aX) b x H k=k aX H:=rfl
def Qj {ops:Q Oper}{o:Oper}{j:Nat}{b:Bool}(h:o.guard=ZC (j,b)):uI ops t o=Kv (VZ ops t j) b:=by
 unfold uI VZ Kv;rw[h];simp only;cases e:ops[j]? with
 |none=>rfl
 |some p=>
  simp only[Option.bind_some];cases hd:p.dst with
  |none=>rfl
  |some d=>rfl
def Ud {t:gB}{i:Nat}{v:AV}(h:i<t.length):(t.set i v).getD i aX=v:=by
 simp[List.getD,h]
def getD_set_ne {t:gB}{i j:Nat}{v:AV}(h:i≠j):(t.set i v).getD j aX=t.getD j aX:=by
 simp[List.getD,h]
def Nu {t:gB}{i:Nat}(h:i<t.length):t[i]?=ZC (t.getD i aX):=by
 simp[List.getD,h]
def V3 {β:Type}{v:AV}{k:AV->ah->M β}:bnd (fU (ZC v) H) k=k v H:=rfl
def Qk {v:AV}:fU (ZC v) H=ZC (v,H):=rfl
def ash(P:XX)(b:Q ResultVar)(r:Res):M (AV × ah):=
 match r with
 |some (.exit _,_,_)=>Z1
 |some (_,t,H')=>(jB P b t H').map λv=>(v,H')
 |none=>Z1
def ajX {f:FuncId}{fn:Func}{c:Code}{args:Q AV}(b:P.funcs[f]?=ZC fn)(hb:fn.body=ZC c):
  zY P C f args H=ash P fn.results.toList (fF P C c (args++List.replicate (fn.ntmps-args.length) aX) H):=by
 unfold zY ash;simp only[b,hb]
 try rfl
def agR {L:Pol}{f:FuncId}{args:Q AV}{r:AV × ah}(b:L.ad8 f=Z1)(d:L.pure f=ZV)(h:zY P (callω P L) f args H=ZC r):callω P L f args H=ZC r:=
 callω_of (by simp only[CQ,b,d,Bool.false_eq_true,zaf];exact h)
def ajY {L:Pol}{f:FuncId}{args:Q AV}{v v':AV}{H1:ah}(b:L.ad8 f=Z1)(d:L.pure f=Z0)(h:zY P (callω P L) f args H.guard=ZC (v,H1))(e:bV H1 H.next 9 v=ZC v'):
  callω P L f args H=ZC (v',H):=
 callω_of (by simp only[CQ,b,d,zad,h,e,Option.map_some])
def zq {L:Pol}{f:FuncId}{args:Q AV}{r:AV × ah}{p:Q AV->AM AV}(b:L.ad8 f=ZC p)(h:p args H=ZC r):callω P L f args H=ZC r:=
 callω_of (by simp only[CQ,b];exact h)
def aeF {f:FuncId}{a c args:Q AV}(h:qB P f=Z0):qC P C (.fn (.func f) a c) args H=C f (a++args++c) H:=by
 simp only[qC,h,zad]
end
def dP {α:Type}{P:XX}{a:α}:je P (Pure.pure a)=ZC a:=rfl
section
variable {P:Program}{t:TypeId}{k:IntKind}{a b:Int}
def aai:qj P .lss t (.s (.int k a)) (.s (.int k b))=ZC (.s (.bool (u (a<b)))):=by
 simp[qj,AV.val?,eqGuard,binOp,Op.intCmp,dP]
def aaj:qj P .leq t (.s (.int k a)) (.s (.int k b))=ZC (.s (.bool (u (a<=b)))):=by
 simp[qj,AV.val?,eqGuard,binOp,Op.intCmp,dP]
def Ue:qj P .gtr t (.s (.int k a)) (.s (.int k b))=ZC (.s (.bool (u (b<a)))):=by
 simp[qj,AV.val?,eqGuard,binOp,Op.intCmp,dP]
def Nv:qj P .geq t (.s (.int k a)) (.s (.int k b))=ZC (.s (.bool (u (b<=a)))):=by
 simp[qj,AV.val?,eqGuard,binOp,Op.intCmp,dP]
def aak:qj P .eql t (.s (.int k a)) (.s (.int k b))=ZC (.s (.bool (u (a=b)))):=by
 simp[qj,AV.val?,eqGuard,binOp,Op.intCmp,dP];by_cases h:a=b <;> simp[h]
def aal:qj P .neq t (.s (.int k a)) (.s (.int k b))=ZC (.s (.bool (!decide (a=b)))):=by
 simp[qj,AV.val?,eqGuard,binOp,Op.intCmp,dP];by_cases h:a=b <;> simp[h]
def bM:qj P .add t (.s (.int k a)) (.s (.int k b))=ZC (.s (.int k (k.wrap (a+b)))):=by
 simp[qj,AV.val?,eqGuard,binOp,Op.intArith,dP]
def lF:qj P .sub t (.s (.int k a)) (.s (.int k b))=ZC (.s (.int k (k.wrap (a-b)))):=by
 simp[qj,AV.val?,eqGuard,binOp,Op.intArith,dP]
def iP:qj P .mul t (.s (.int k a)) (.s (.int k b))=ZC (.s (.int k (k.wrap (a*b)))):=by
 simp[qj,AV.val?,eqGuard,binOp,Op.intArith,dP]
def CV(h:b≠0):qj P .quo t (.s (.int k a)) (.s (.int k b))=ZC (.s (.int k (k.wrap (a.tdiv b)))):=by
 simp[qj,AV.val?,eqGuard,binOp,Op.intDiv,dP,h]
def oq(h:b≠0):qj P .rem t (.s (.int k a)) (.s (.int k b))=ZC (.s (.int k (a.tmod b))):=by
 simp[qj,AV.val?,eqGuard,binOp,Op.intDiv,dP,h]
def aam {d:Array XN}:kH P ZV d t [.s (.int k a),.s (.int k b)]=ZC (.s (.int k (min a b))):=by
 simp[kH,vals?,AV.val?,Builtin.min_,Builtin.min2,dP,Int.min_def];split <;> split <;> first|rfl|omega
def Nw {d:Array XN}:kH P Z0 d t [.s (.int k a),.s (.int k b)]=ZC (.s (.int k (max a b))):=by
 simp[kH,vals?,AV.val?,Builtin.max_,Builtin.max2,dP,Int.max_def];split <;> split <;> first|rfl|omega
def V4 {b:Bool}:unA P .not (.s (.bool b))=ZC (.s (.bool (!b))):=by
 simp[unA,AV.val?,Op.unary,dP]
def amB(b:-9223372036854775808<=a)(d:a<=9223372036854775807):IntKind.wrap .i64 a=a:=by
 simp only[IntKind.wrap,IntKind.bits,IntKind.signed];simp;omega
end
def au(x:AV)(o:Nat):M AV:=
 match x with
 |.ref r g off=>ZC (.ref r g (off+o))
 |.ip cells=>ZC (.ip (cells.drop o))
 |_=>Z1
def rJ {r g off o:Nat}:au (.ref r g off) o=ZC (.ref r g (off+o)):=rfl
def zx {cells:Q AV}{o:Nat}:au (.ip cells) o=ZC (.ip (cells.drop o)):=rfl
def V5 {t:XN}{v:AV}{H:ah}(h:v.cells.all AV.aU=Z0)(b:t<1000000000):fK t v H=ZC (.ref H.next 0 0,H.new (.blk 0 t v.cells)):=by
 unfold fK;rw[y ⟨h,b⟩]
def eU {l:Q AV}:(AV.agg l).cells=l:=rfl
def Ql {k:IntKind}{n:Int}:(AV.s (.int k n)).cells=[.s (.int k n)]:=rfl
def Kw {b:Bool}:(AV.s (.bool b)).cells=[.s (.bool b)]:=rfl
def iL {k:IntKind}{n:Int}:(AV.s (.int k n)).aU=true:=rfl
def kR {b:Bool}:(AV.s (.bool b)).aU=true:=rfl
def Ky {r g off:Nat}:(AV.ref r g off).aU=true:=rfl
def KA {a b:Nat}:(AV.s (.slice Z1 a b)).aU=true:=rfl
def aan {r:Nat}:(AV.mp r).aU=true:=rfl
section
variable {H:ah}{r r':Nat}{o:gG}
def jq:(H.new o).get r=if r=H.next then o else H.get r:=rfl
def dJ:(H.put r' o).get r=if r=r' then o else H.get r:=rfl
def EU:(H.new o).next=H.next+1:=rfl
def aeG:(H.put r o).base=H.base:=rfl
end
section
variable (P:Program)(C:aA)(ops:List Oper)
def Ak:Q Oper->Q Bool->gB->ah->M (gB × ah)
 |o::os,true::b,t,H=>bnd (opA P C t o H) λv H=>Ak os b (wC t o.dst v) H
 |_::os,false::b,t,H=>Ak os b t H
 |[],[],t,H=>ZC (t,H)
 |_,_,_,_=>Z1
def aao:Q (M Bool):=(List.range ops.length).map λi=>if cst ops i=Z0 then Z1 else ZC (loose ops i && mJ (qE ops i))
def Hr:Q Bool:=(List.range ops.length).map (cst ops)
end
section
variable {P:Program}{C:aA}{ops:List Oper}
def Qm:∀(l pre:Q Oper) (t:gB) (H:ah),pre++l=ops->
  iY P C ops ((List.range' pre.length l.length).filter (cst ops)) t H=Ak P C l ((List.range' pre.length l.length).map (cst ops)) t H
 |[],pre,t,H,_=>rfl
 |o::l,pre,t,H,h=>by
  have d:ops[pre.length]?=ZC o:=by rw[<-h];simp
  have b:=λt H=>Qm l (pre++[o]) t H (by simpa using h);simp only[List.length_append,List.length_cons,List.length_nil]at b;rw[List.length_cons,List.range'_succ,List.map_cons,List.filter_cons];cases hc:cst ops pre.length with
  |false=>
   simp only[Bool.false_eq_true,zaf,Ak];exact b t H
  |true=>
   simp only[zad,iY,d,Ak];cases e:opA P C t o H with
   |none=>rfl
   |some r=>exact b _ _
def unG(H:ah)(r:M (AV × ah)):M (AV × ah):=
 match r with
 |some (v,H')=>ZC (v,{ H' with base:=H.base })
 |none=>Z1
def V6 {H:ah}{v:AV}:unG H (ZC (v,H.guard))=ZC (v,H):=rfl
end
def nx1(n:Nat):(n=n+1)=False:=zaG V
def ny1(n:Nat):(n+1=n)=False:=zaG V
def nx2(n:Nat):(n=n+1+1)=False:=zaG V
def ny2(n:Nat):(n+1+1=n)=False:=zaG V
def nx3(n:Nat):(n=n+1+1+1)=False:=zaG V
def ny3(n:Nat):(n+1+1+1=n)=False:=zaG V
structure Ann where
 live:List (Nat × List Nat)
 draw:List (Nat × List (Option Bool))
 pairs:List (Nat × List (Nat × Nat))
def kW {α:Type}(d:α):Q (Nat × α)->Nat->α
 |[],_=>d
 |(k,v)::l,n=>bif Nat.beq k n then v else kW d l n
def jY:Code->Nat
 |.region id _ _=>id+1
 |.seq a b=>match jY a with
  |0=>jY b
  |n+1=>n+1
 |.cond _ a b=>match jY a with
  |0=>jY b
  |n+1=>n+1
 |.block _ a=>jY a
 |.loop a=>jY a
 |_=>0
def bo {α β:Type}(x:M α)(k:α->M β):M β:=
 match x with
 |some v=>k v
 |none=>Z1
def aN {β:Type}(c:AV)(x y:M β):M β:=
 match c with
 |.s (.bool true)=>x
 |.s (.bool false)=>y
 |_=>Z1
def Ht {β:Type}(B:Q AV->ah->(Q AV->ah->M β)->M β):Nat->Q AV->ah->M β
 |0,_,_=>Z1
 |n+1,s,H=>B s H (Ht B n)
def aap {β:Type}(B:Q AV->ah->(Q AV->ah->M β)->M β):Q AV->ah->M β:=λs H=>ajU λn=>Ht B n s H
abbrev Env:=List (Nat × AV)
def Px:Env->Nat->AV
 |[],_=>aX
 |(d,v)::e,i=>bif Nat.beq d i then v else Px e i
def uY(n:Nat)(e:Env):Operand->AV
 |.tmp i=>bif Nat.blt i n then Px e i else aX
 |.const v=>.s v
 |.global g=>.s (.pointer (ZC ⟨g,0,Z1⟩))
 |.func f=>.fn (.func f) [] []
def agS(e:Env)(dst:M Tmp)(v:AV):Env:=
 match dst with
 |some d=>(d,v)::e
 |none=>e
def Qn:Q AV->Nat->Env
 |[],_=>[]
 |a::l,i=>(i,a)::Qn l (i+1)
def yH(M:Q Nat)(e:Env):Q AV:=match M with
 |[]=>[]
 |i::M=>Px e i::yH M e
def emb(s:Q AV):Q Nat->Nat->Env
 |[],_=>[]
 |m::M,j=>(m,s.getD j aX)::emb s M (j+1)
section
variable {β:Type}(P:Program)(C:aA)
def ajZ(ev:Operand->AV)(c:Call)(type:XN):AM AV:=λH=>
 match c.callee with
 |.value f=>qC P C (ev f) (c.args.toList.map ev) H
 |.builtin b=>iW P b c.argTypes type (c.args.toList.map ev) H
 |.invoke _ _=>Z1
def opE(ev:Operand->AV)(o:Oper):AM AV:=
 match o.op with
 |.move x=>fU (ZC (ev x))
 |.assign x=>fU (ZC (ev x))
 |.pick c a b=>fU (bQ (ev c) (ev a) (ev b))
 |.alloc e=>JW P e
 |.box e x=>fK e (ev x)
 |.build d ps=>fU (fV P d (ps.toList.map λp=>(p.1,ev p.2)))
 |.buildSlice d n ps=>dI P d n (ps.toList.map λp=>(p.1,ev p.2))
 |.load d x=>Tz P d (ev x)
 |.store d x v=>PN P d (ev x) (ev v)
 |.nilCheck x=>fU (ay (ev x))
 |.binOp op d x y _=>fU (amj P op d y (ev x) (ev y))
 |.unOp op _ x=>fU (unA P op (ev x))
 |.convert src dst x=>kM P src dst (ev x)
 |.makeFunc f a c=>fU (ZC (.fn f (a.toList.map ev) (c.toList.map ev)))
 |.makeMap d none=>xQ P d
 |.makeSlice d l c=>ql P d (ev l) (ev c)
 |.slice d x lo hi g=>fU (PL P d (ev x) (lo.map ev) (hi.map ev) (g.map ev))
 |.fieldAddr d x i=>fU (tC P d (ev x) i)
 |.field d x i=>fU (PI P d (ev x) i)
 |.indexAddr d x i=>Cm P d (ev x) (ev i)
 |.index d x i=>fU (PK P d (ev x) (ev i))
 |.lookup d x i ok=>TA P d (ev x) (ev i) ok
 |.mapUpdate d m k v=>tJ P d (ev m) (ev k) (ev v)
 |.extract x i=>fU (aG (ev x) i)
 |.call c=>ajZ P C ev c o.type
 |_=>λ_=>Z1
def KC(ev:Operand->AV):Op->M Nat
 |.load _ x=>bT (ev x)
 |.lookup _ x _ _=>bT (ev x)
 |.indexAddr _ x _=>bT (ev x)
 |.convert _ _ x=>bT (ev x)
 |.call c=>match c.args.toList with
  |[x]=>bT (ev x)
  |_=>Z1
 |_=>Z1
def opK(ev:Operand->AV)(o:Oper)(H:ah)(k:AV->ah->M β):M β:=
 match o.op with
 |.move x=>k (ev x) H
 |.assign x=>k (ev x) H
 |.pick c a b=>bo (bQ (ev c) (ev a) (ev b)) λv=>k v H
 |.build d ps=>bo (fV P d (ps.toList.map λp=>(p.1,ev p.2))) λv=>k v H
 |.nilCheck x=>bo (ay (ev x)) λv=>k v H
 |.binOp op d x y _=>bo (amj P op d y (ev x) (ev y)) λv=>k v H
 |.unOp op _ x=>bo (unA P op (ev x)) λv=>k v H
 |.makeFunc f a c=>k (.fn f (a.toList.map (ev)) (c.toList.map (ev))) H
 |.slice d x lo hi e=>bo (PL P d (ev x) (lo.map (ev)) (hi.map (ev)) (e.map (ev))) λv=>k v H
 |.fieldAddr d x i=>bo (tC P d (ev x) i) λv=>k v H
 |.field d x i=>bo (PI P d (ev x) i) λv=>k v H
 |.index d x i=>bo (PK P d (ev x) (ev i)) λv=>k v H
 |.extract x i=>bo (aG (ev x) i) λv=>k v H
 |_=>bnd (opE P C ev o H) k
def Qo(n:Nat)(ops:Q Oper)(e:Env)(j:Nat):M AV:=
 match ops[j]? with
 |some p=>match p.dst with
  |some d=>bif Nat.blt d n then ZC (Px e d)else Z1
  |none=>Z1
 |none=>Z1
def Yy(n:Nat)(ops:Q Oper)(lo:Bool)(o:Oper)(t:Env)(H:ah)(k:AV->ah->M β):M β:=
 match o.guard with
 |none=>match lo with
  |true=>bnd (unG H (opE P C (uY n t) o H.guard)) k
  |false=>opK P C (uY n t) o H k
 |some (j,b)=>match lo with
  |true=>gdA (Qo n ops t j) b (unG H (opE P C (uY n t) o H.guard)) H k
  |false=>gdA (Qo n ops t j) b (opE P C (uY n t) o H) H k
def amC(n:Nat)(ops:Q Oper):Q Oper->Env->ah->(Env->ah->M β)->M β
 |[],t,H,k=>k t H
 |o::rest,t,H,k=>Yy P C n ops ZV o t H λv H=>amC n ops rest (agS t o.dst v) H k
def KD(n:Nat):Q Oper->Q (M Bool)->Env->ah->(Env->ah->M β)->M β
 |o::os,none::b,t,H,k=>bnd (opE P C (uY n t) o H) λv H=>KD n os b (agS t o.dst v) H k
 |_::os,some _::b,t,H,k=>KD n os b t H k
 |[],[],t,H,k=>k t H
 |_,_,_,_,_=>Z1
abbrev Log:=List (Nat × Option Nat × ah × ah)
def EG:Log->Nat->M (M Nat × ah × ah)
 |[],_=>Z1
 |(i,x)::l,n=>bif Nat.beq i n then ZC x else EG l n
open Classical in
def ck(w:M Nat)(H H':ah)(k:M β):M β:=if∀r,w=ZC r->H'.get r=H.get r then k else Z1
open Classical in
def ckR(s b:Nat)(H H':ah)(k:M β):M β:=if∀r,s<=r->r<b->H'.get r=H.get r then k else Z1
def ckL(ops:Q Oper)(s d:Nat)(b:Log):Q (Nat × Nat)->M β->M β
 |[],k=>k
 |(j,e)::ps,k=>match cst ops j with
  |true=>match EG b e with
   |some (_,H,H')=>ckR s d H H' (ckL ops s d b ps k)
   |none=>Z1
  |false=>match EG b j,EG b e with
   |some (w,_,_),some (_,H,H')=>ck w H H' (ckL ops s d b ps k)
   |_,_=>Z1
def JH(n:Nat)(ops:Q Oper)(s d:Nat)(ps:Q (Nat × Nat)):Q Oper->Q (M Bool)->Nat->Env->ah->Log->(Env->ah->M β)->M β
 |o::os,some lo::e,i,t,H,b,k=>Yy P C n ops lo o t H λv H'=>JH n ops s d ps os e (i+1) (agS t o.dst v) H' ((i,KC (uY n t) o.op,H,H')::b) k
 |_::os,none::e,i,t,H,b,k=>JH n ops s d ps os e (i+1) t H b k
 |[],[],_,t,H,b,k=>ckL ops s d b ps (k t H)
 |_,_,_,_,_,_,_=>Z1
def kY(A:Ann)(n:Nat):Code->Env->ah->(Env->ah->M β)->(Nat->Env->ah->M β)->(Env->ah->M β)->M β
 |.skip=>λt H kn _ _=>kn t H
 |.region id ops d=>λt H kn _ _=>
  match d with
  |true=>KD P C n ops.toList (kW [] A.draw id) t H λt H0=>JH P C n ops.toList H.next H0.next (kW [] A.pairs id) ops.toList (kW [] A.draw id) 0 t H0 [] kn
  |false=>amC P C n ops.toList ops.toList t H kn
 |.seq a b=>λt H kn kx kr=>kY A n a t H (λt H=>kY A n b t H kn kx kr) kx kr
 |.cond c a b=>λt H kn kx kr=>aN (uY n t c) (kY A n a t H kn kx kr) (kY A n b t H kn kx kr)
 |.block id a=>λt H kn kx kr=>kY A n a t H kn (λi t H=>match Nat.beq i id with
  |true=>kn t H
  |false=>kx i t H) kr
 |.loop a=>λt H _ kx kr=>aap (λs H k=>kY A n a (emb s (kW [] A.live (jY a)) 0) H (λt H=>k (yH (kW [] A.live (jY a)) t) H) kx kr) (yH (kW [] A.live (jY a)) t) H
 |.exit i=>λt H _ kx _=>kx i t H
 |.ret=>λt H _ _ kr=>kr t H
 |_=>λ_ _ _ _ _=>Z1
def vX(A:Ann)(n:Nat):Code->(Env->ah->M β)->(Nat->Env->ah->M β)->(Env->ah->M β)->Q (Q AV->ah->M β)
 |.seq a b=>λkn kx kr=>vX A n a (λt H=>kY P C A n b t H kn kx kr) kx kr++vX A n b kn kx kr
 |.cond _ a b=>λkn kx kr=>vX A n a kn kx kr++vX A n b kn kx kr
 |.block id a=>λkn kx kr=>vX A n a kn (λi t H=>match Nat.beq i id with
  |true=>kn t H
  |false=>kx i t H) kr
 |.loop a=>λ_ kx kr=>aap (λs H k=>kY P C A n a (emb s (kW [] A.live (jY a)) 0) H (λt H=>k (yH (kW [] A.live (jY a)) t) H) kx kr)::
   vX A n a (λt H=>aap (λs H k=>kY P C A n a (emb s (kW [] A.live (jY a)) 0) H (λt H=>k (yH (kW [] A.live (jY a)) t) H) kx kr) (yH (kW [] A.live (jY a)) t) H) kx kr
 |_=>λ_ _ _=>[]
def pq(A:Ann)(n:Nat):Code->(Env->ah->M β)->(Nat->Env->ah->M β)->(Env->ah->M β)->Q (Q AV->ah->M β)
 |.seq a b=>λkn kx kr=>pq A n a (λt H=>kY P C A n b t H kn kx kr) kx kr++pq A n b kn kx kr
 |.cond _ a b=>λkn kx kr=>pq A n a kn kx kr++pq A n b kn kx kr
 |.block id a=>λkn kx kr=>pq A n a kn (λi t H=>match Nat.beq i id with
  |true=>kn t H
  |false=>kx i t H) kr
 |.loop a=>λ_ kx kr=>(λs H=>kY P C A n a (emb s (kW [] A.live (jY a)) 0) H (λt H=>aap (λs H k=>kY P C A n a (emb s (kW [] A.live (jY a)) 0) H (λt H=>k (yH (kW [] A.live (jY a)) t) H) kx kr) (yH (kW [] A.live (jY a)) t) H) kx kr)::
   pq A n a (λt H=>aap (λs H k=>kY P C A n a (emb s (kW [] A.live (jY a)) 0) H (λt H=>k (yH (kW [] A.live (jY a)) t) H) kx kr) (yH (kW [] A.live (jY a)) t) H) kx kr
 |_=>λ_ _ _=>[]
end
section
variable (P:Program)
def Uf(n:Nat)(t:Env)(H:ah):Q ResultVar->(Q AV->M (AV × ah))->M (AV × ah)
 |[],k=>k []
 |.tmp d::b,k=>Uf n t H b λl=>k (uY n t (.tmp d)::l)
 |.cell a e::b,k=>bnd (Tz P e (uY n t (.tmp a)) H) λv _=>Uf n t H b λl=>k (v::l)
def avc(H:ah):Q AV->M (AV × ah)
 |[x]=>ZC (x,H)
 |xs=>ZC (.tup xs,H)
def Py(n:Nat)(b:Q ResultVar)(t:Env)(H:ah):M (AV × ah):=Uf P n t H b (avc H)
end
def yI {β:Type}(F:(Q AV->ah->M β)->M β):Prop:=
 ∀k r,F k=ZC r->(∀k',F k'=ZC r)∨∃s H,k s H=ZC r/\∀k',k' s H=ZC r->F k'=ZC r
section
variable {β:Type}
def iq(x:M β):yI λ_=>x:=λ_ _ h=>.inl λ_=>h
def aaq(s:Q AV)(H:ah):yI λ(k:Q AV->ah->M β)=>k s H:=λ_ _ h=>.inr ⟨s,H,h,λ_ h=>h⟩
def V7 {x:M (AV × ah)}{K:(Q AV->ah->M β)->AV->ah->M β}(h:∀v H,yI λk=>K k v H):yI λk=>bnd x (K k):=by
 rcases x with _|⟨v,H⟩
 ·exact iq Z1
 ·exact h v H
def asi {b:Bool}{x:M (AV × ah)}{H:ah}{K:(Q AV->ah->M β)->AV->ah->M β}(h:∀v H,yI λk=>K k v H):yI λk=>gd b x H (K k):=by
 cases b
 ·exact h aX H
 ·exact V7 h
def amD {g:M AV}{d:Bool}{x:M (AV × ah)}{H:ah}{K:(Q AV->ah->M β)->AV->ah->M β}(h:∀v H,yI λk=>K k v H):yI λk=>gdA g d x H (K k):=by
 unfold gdA;cases Kv g d with
 |none=>exact iq Z1
 |some b=>exact asi h
def aeH {c:AV}{x y:(Q AV->ah->M β)->M β}(b:yI x)(d:yI y):yI λk=>aN c (x k) (y k):=by
 unfold aN;split
 ·exact b
 ·exact d
 ·exact iq Z1
variable {P:Program}{C:aA}
def agT {t:Operand->AV}{o:Oper}{H:ah}{k:AV->ah->M β}:opK P C t o H k=bnd (opE P C t o H) k:=by
 have⟨dst,op,b,d,after,guard⟩:=o;have key:∀x:M AV,bo x (λv=>k v H)=bnd (fU x H) k:=by intro x;cases x <;> rfl
 cases op <;> first|rfl|exact key _
def KG {n:Nat}{ops:Q Oper}{lo:Bool}{o:Oper}{t:Env}{H:ah}{K:(Q AV->ah->M β)->AV->ah->M β}(h:∀v H,yI λk=>K k v H):yI λk=>Yy P C n ops lo o t H (K k):=by
 unfold Yy;cases o.guard with
 |none=>
  cases lo with
  |false=>simp only[agT];exact V7 h
  |true=>exact V7 h
 |some g=>cases lo <;> exact amD h
def Qp {n:Nat}{ops:Q Oper}{K:(Q AV->ah->M β)->Env->ah->M β}(h:∀t H,yI λk=>K k t H):∀(l:Q Oper) (t:Env) (H:ah),yI λk=>amC P C n ops l t H (K k)
 |[],t,H=>h t H
 |o::l,t,H=>KG λv H=>Qp h l _ H
def zy {n:Nat}{K:(Q AV->ah->M β)->Env->ah->M β}(h:∀t H,yI λk=>K k t H):∀(l:Q Oper) (d:Q (M Bool)) (t:Env) (H:ah),yI λk=>KD P C n l d t H (K k)
 |[],[],t,H=>h t H
 |[],f::d,t,H=>iq Z1
 |o::l,[],t,H=>iq Z1
 |o::l,none::d,t,H=>V7 λv H=>zy h l d _ H
 |o::l,some b::d,t,H=>zy h l d t H
def aj0 {w:M Nat}{H H':ah}{K:(Q AV->ah->M β)->M β}(h:yI K):yI λk=>ck w H H' (K k):=by
 unfold ck;split
 ·exact h
 ·exact iq Z1
def aeI {s b:Nat}{H H':ah}{K:(Q AV->ah->M β)->M β}(h:yI K):yI λk=>ckR s b H H' (K k):=by
 unfold ckR;split
 ·exact h
 ·exact iq Z1
def Ny {ops:Q Oper}{s d:Nat}{b:Log}{K:(Q AV->ah->M β)->M β}(h:yI K):∀ps,yI λk=>ckL ops s d b ps (K k)
 |[]=>h
 |(j,e)::ps=>by
  simp only[ckL];cases cst ops j with
  |true=>
   cases EG b e with
   |none=>exact iq Z1
   |some y=>exact aeI (Ny h ps)
  |false=>
   cases EG b j with
   |none=>exact iq Z1
   |some x=>
    cases EG b e with
    |none=>exact iq Z1
    |some y=>exact aj0 (Ny h ps)
def CW {n:Nat}{ops:Q Oper}{s e:Nat}{ps:Q (Nat × Nat)}{K:(Q AV->ah->M β)->Env->ah->M β}(h:∀t H,yI λk=>K k t H):∀(l:Q Oper) (d:Q (M Bool)) (i:Nat) (t:Env) (H:ah) (b:Log),yI λk=>JH P C n ops s e ps l d i t H b (K k)
 |[],[],i,t,H,b=>Ny (h t H) ps
 |[],f::d,i,t,H,b=>iq Z1
 |o::l,[],i,t,H,b=>iq Z1
 |o::l,none::d,i,t,H,b=>CW h l d (i+1) t H b
 |o::l,some lo::d,i,t,H,b=>by
  exact KG λv H'=>CW h l d (i+1) _ H' _
def tY {B:Q AV->ah->(Q AV->ah->M β)->M β}(d:∀s H,yI (B s H)):∀m s H r,Ht B m s H=ZC r->Ht B (m+1) s H=ZC r:=by
 intro m
 induction m with
 |zero=>intro s H r h;cases h
 |succ m e=>
  intro s H r h;rcases d s H _ r h with b|⟨i,H',b,g⟩
  ·exact b _
  ·exact g _ (e _ _ _ b)
def aj1 {B:Q AV->ah->(Q AV->ah->M β)->M β}(d:∀s H,yI (B s H))(s:Q AV)(H:ah):aap B s H=B s H (aap B):=by
 have j:∀r,B s H (aap B)=ZC r->aap B s H=ZC r:=by
  intro r h;rcases d s H _ r h with b|⟨e,H',b,i⟩
  ·exact wO (g:=λn=>Ht B n s H) (λn r=>tY d n s H r) (n:=1) (b _)
  ·have⟨m,hm⟩:=lQ b;exact wO (g:=λn=>Ht B n s H) (λn r=>tY d n s H r) (n:=m+1) (i _ hm)
 cases h:aap B s H with
 |none=>
  cases k:B s H (aap B)with
  |none=>rfl
  |some r=>rw[j r k]at h;cases h
 |some r=>
  have⟨m,hm⟩:=lQ h;cases m with
  |zero=>cases hm
  |succ m=>
   symm;rcases d s H _ r hm with b|⟨e,H',b,i⟩
   ·exact b _
   ·exact i _ (wO (g:=λn=>Ht B n e H') (λn r=>tY d n e H' r) b)
def KI {A:Ann}{n:Nat}:∀(c:Code) (t:Env) (H:ah) (kn:(Q AV->ah->Z6 β)->Env->ah->Z6 β) (kx:(Q AV->ah->Z6 β)->Nat->Env->ah->Z6 β) (kr:(Q AV->ah->Z6 β)->Env->ah->Z6 β),
  (∀t H,yI λk=>kn k t H)->(∀i t H,yI λk=>kx k i t H)->(∀t H,yI λk=>kr k t H)->yI λk=>kY P C A n c t H (kn k) (kx k) (kr k):=by
 intro c
 induction c with
 |skip=>intro t H kn kx kr e g o;exact e t H
 |region id ops d=>
  intro t H kn kx kr e g o;simp only[kY];cases d with
  |false=>
   exact Qp e _ _ _
  |true=>
   exact zy (λv H=>CW e _ _ _ _ _ _) _ _ _ _
 |seq a b p q=>
  intro t H kn kx kr e g o;exact p t H (λk t H=>kY P C A n b t H (kn k) (kx k) (kr k)) kx kr (λt H=>q t H kn kx kr e g o) g o
 |cond c a b p q=>
  intro t H kn kx kr e g o;exact aeH (p t H kn kx kr e g o) (q t H kn kx kr e g o)
 |block id a u=>
  intro t H kn kx kr e g o;exact u t H kn (λk i t H=>match Nat.beq i id with
   |true=>kn k t H
   |false=>kx k i t H) kr e (λi t H=>by
   cases hb:Nat.beq i id with
   |true=>simp only[hb];exact e t H
   |false=>simp only[hb];exact g i t H) o
 |loop a u=>
  intro t H kn kx kr e g o;simp only[kY];generalize kW [] A.live (jY a)=M;have D:∀m s H,yI λk=>Ht (λs H j=>kY P C A n a (emb s M 0) H (λt H=>j (yH M t) H) (kx k) (kr k)) m s H:=by
   intro m
   induction m with
   |zero=>intro s H;exact iq Z1
   |succ m w=>intro s H;exact u _ H (λk t H=>Ht (λs H j=>kY P C A n a (emb s M 0) H (λt H=>j (yH M t) H) (kx k) (kr k)) m (yH M t) H) kx kr (λt H=>w _ H) g o
  have z:∀(k:Q AV->ah->Z6 β) s H,yI ((λs H j=>kY P C A n a (emb s M 0) H (λt H=>j (yH M t) H) (kx k) (kr k)) s H):=λk s H=>
   u _ H (λj t H=>j (yH M t) H) (λ_=>kx k) (λ_=>kr k) (λt H=>aaq _ _) (λi t H=>iq _) (λt H=>iq _)
  intro k r h;have⟨m,hm⟩:=lQ h;rcases D m _ _ k r hm with y|⟨E,H',y,F⟩
  ·exact .inl λk'=>wO (λn r=>tY (z k') n _ _ r) (y k')
  ·exact .inr ⟨E,H',y,λk' hk=>wO (λn r=>tY (z k') n _ _ r) (F k' hk)⟩
 |exit i=>intro t H kn kx kr e g o;exact g i t H
 |ret=>intro t H kn kx kr e g o;exact o t H
 |_=>intro t H kn kx kr e g o;exact iq Z1
def aeJ {A:Ann}{n:Nat}:∀(c:Code) (kn:Env->ah->Option β) (kx:Nat->Env->ah->Option β) (kr:Env->ah->Option β),vX P C A n c kn kx kr=pq P C A n c kn kx kr:=by
 intro c
 induction c with
 |seq a b d e=>intro kn kx kr;simp only[vX,pq,d,e]
 |cond c a b d e=>intro kn kx kr;simp only[vX,pq,d,e]
 |block id a g=>intro kn kx kr;simp only[vX,pq,g]
 |loop a g=>
  intro kn kx kr;simp only[vX,pq,g]
  congr 1
  funext s H
  exact aj1 (λs H=>KI a _ H (λj t H=>j (yH _ t) H) (λ_=>kx) (λ_=>kr) (λt H=>aaq _ _) (λi t H=>iq _) (λt H=>iq _)) s H
 |_=>intro kn kx kr;rfl
end
def agU:Q Operand->Nat
 |[]=>0
 |.tmp d::xs=>2 ^ d ||| agU xs
 |_::xs=>agU xs
def auL(d L:Nat):Nat:=L ^^^ (L &&& 2 ^ d)
def agV(ops:Q Oper)(o:Oper):Nat:=
 match o.guard with
 |none=>0
 |some (j,_)=>match ops[j]? with
  |some p=>match p.dst with
   |some d=>2 ^ d
   |none=>0
  |none=>0
def Yz(ops:Q Oper)(o:Oper)(L:Nat):Nat:=
 (agU o.op.operands.toList ||| agV ops o) ||| (match o.dst with
  |some d=>auL d L
  |none=>L)
def Ug(ops:Q Oper):Q Oper->Nat->Nat
 |[],L=>L
 |o::os,L=>Yz ops o (Ug ops os L)
def aeK(ops:Q Oper):Q Oper->Q (M Bool)->Nat->Nat
 |o::os,none::b,L=>Yz ops o (aeK ops os b L)
 |_::os,some _::b,L=>aeK ops os b L
 |_,_,L=>L
def Uh(ops:Q Oper):Q Oper->Q (M Bool)->Nat->Nat
 |o::os,some _::b,L=>Yz ops o (Uh ops os b L)
 |_::os,none::b,L=>Uh ops os b L
 |_,_,L=>L
def pW:Q Nat->Nat
 |[]=>0
 |i::M=>2 ^ i ||| pW M
def zA(A:Ann):Code->Nat->(Nat->Nat)->Nat->Nat
 |.skip=>λe _ _=>e
 |.region id ops d=>λe _ _=>cond d (aeK ops.toList ops.toList (kW [] A.draw id) (Uh ops.toList ops.toList (kW [] A.draw id) e)) (Ug ops.toList ops.toList e)
 |.seq a b=>λe g h=>zA A a (zA A b e g h) g h
 |.cond c a b=>λe g h=>agU [c] ||| (zA A a e g h ||| zA A b e g h)
 |.block id a=>λe g h=>zA A a e (λi=>cond (Nat.beq i id) e (g i)) h
 |.loop a=>λ_ _ _=>pW (kW [] A.live (jY a))
 |.exit i=>λ_ g _=>g i
 |.ret=>λ_ _ h=>h
 |_=>λ_ _ _=>0
def amE:Q (M Bool)->Q (M Bool)->Bool
 |[],[]=>Z0
 |none::a,none::b=>amE a b
 |some x::a,some y::b=>(x==y) && amE a b
 |_,_=>ZV
def arM:Q (Nat × Nat)->Q (Nat × Nat)->Bool
 |[],[]=>Z0
 |(a,b)::l,(c,d)::m=>Nat.beq a c && (Nat.beq b d && arM l m)
 |_,_=>ZV
def Qq(A:Ann)(n:Nat):Code->Nat->(Nat->Nat)->Nat->Bool
 |.region id ops d=>λ_ _ _=>cond d (VG ops.toList && (arM (lV ops.toList) (kW [] A.pairs id) && amE (aao ops.toList) (kW [] A.draw id))) Z0
 |.seq a b=>λh e g=>Qq A n a (zA A b h e g) e g && Qq A n b h e g
 |.cond _ a b=>λh e g=>Qq A n a h e g && Qq A n b h e g
 |.block id a=>λh e g=>Qq A n a h (λi=>cond (Nat.beq i id) h (e i)) g
 |.loop a=>λ_ e g=>(let M:=pW (kW [] A.live (jY a));let X:=zA A a M e g;Nat.beq (M ||| X) M && Qq A n a M e g)
 |_=>λ_ _ _=>Z0
structure Ag(n L:Nat)(t:gB)(e:Env):Prop where
 len:t.length=n
 get:∀i,i<n->L.testBit i=true->t.getD i aX=Px e i
def Ag.sub {n L b:Nat}{t:gB}{e:Env}(h:Ag n L t e)(d:∀i,b.testBit i=Z0->L.testBit i=Z0):Ag n b t e:=⟨h.len,λi g hi=>h.get i g (d i hi)⟩
def Ag.left {n L b:Nat}{t:gB}{e:Env}(h:Ag n (L ||| b) t e):Ag n L t e:=h.sub λi hi=>by rw[Nat.testBit_or,hi];rfl
def Ag.right {n L b:Nat}{t:gB}{e:Env}(h:Ag n (L ||| b) t e):Ag n b t e:=h.sub λi hi=>by rw[Nat.testBit_or,hi];simp
def V8 {i n:Nat}(h:i<n):Nat.blt i n=true:=by simpa [Nat.blt_eq]using h
def Qr {i n:Nat}(h:n<=i):Nat.blt i n=false:=by
 cases hb:Nat.blt i n with
 |false=>rfl
 |true=>rw[Nat.blt_eq]at hb;omega
def uZ {d:Nat}:(2 ^ d).testBit d=true:=by rw[Nat.testBit_two_pow];simp
def V9:∀(xs:Q Operand) (d:Nat),Operand.tmp d∈xs->(agU xs).testBit d=Z0
 |x::xs,d,h=>by
  rcases List.mem_cons.1 h with rfl|h
  ·simp only[agU];rw[Nat.testBit_or,uZ];rfl
  ·have:=V9 xs d h;cases x with
   |tmp e=>simp only[agU];rw[Nat.testBit_or,this];simp
   |_=>exact this
def Ag.tmp {n L:Nat}{t:gB}{e:Env}(h:Ag n L t e){d:Nat}(hd:L.testBit d=Z0):t.getD d aX=uY n e (.tmp d):=by
 have g:=h.len;rcases Nat.lt_or_ge d n with b|b
 ·simp only[uY,V8 b,cond_true];exact h.get d b hd
 ·simp only[uY,Qr b,cond_false];simp[List.getD,g,b]
def Ag.eval {n:Nat}{xs:Q Operand}{t:gB}{e:Env}(h:Ag n (agU xs) t e){x:Operand}(b:x∈xs):dR t x=uY n e x:=by
 cases x with
 |tmp d=>exact h.tmp (V9 xs d b)
 |_=>rfl
def Ag.put {n L:Nat}{t:gB}{e:Env}{o:Oper}{ops:Q Oper}(h:Ag n (Yz ops o L) t e)(v:AV):Ag n L (wC t o.dst v) (agS e o.dst v):=by
 have g:=h.right;cases hd:o.dst with
 |none=>rw[hd]at g;exact g
 |some d=>
  rw[hd]at g;have k:=h.len;refine⟨by simp[wC,h.len],λi j hi=>?_⟩;by_cases b:d=i
  ·subst b;simp only[wC,agS,Px,Nat.beq_refl,cond_true];rw[Ud V]
  ·have hb:Nat.beq d i=false:=Bool.eq_false_iff.2 λh=>b (Nat.eq_of_beq_eq_true h);simp only[wC,agS,Px,hb,cond_false];rw[getD_set_ne b];refine g.get i j ?_;simp only[auL,Nat.testBit_xor,Nat.testBit_and,Nat.testBit_two_pow,hi,b];simp
section
variable {β:Type}{P:Program}{C:aA}{n:Nat}
def asj {t:gB}{o:Oper}:opA P C t o=opE P C (dR t) o:=by
 have⟨dst,op,b,d,after,guard⟩:=o;cases op <;> first|rfl|(rename_i x;cases x <;> rfl)|(rename_i x y;cases y <;> rfl)
def aar {ev d:Operand->AV}{o:Oper}(h:∀x∈o.op.operands.toList,ev x=d x):opE P C ev o=opE P C d o:=by
 obtain⟨dst,op,u,v,after,guard⟩:=o;have mp:∀(ps:Array (Nat × Operand)),(∀x∈(ps.toList.map (·.2)),ev x=d x)->ps.toList.map (λp=>(p.1,ev p.2))=ps.toList.map λp=>(p.1,d p.2):=λps w=>
  List.map_congr_left λp hm=>by rw[w p.2 (List.mem_map.2 ⟨p,hm,rfl⟩)]
 have k:∀(x:Option Operand),(∀y∈x.toArray.toList,ev y=d y)->x.map ev=x.map d:=λx e=>by
  cases x with
  |none=>rfl
  |some y=>simp only[Option.map_some,e y O]
 simp only at h;cases op with
 |build n ps=>simp only[opE,mp ps λx e=>h x (by simpa [Op.operands]using e)]
 |buildSlice n m ps=>simp only[opE,mp ps λx e=>h x (by simpa [Op.operands]using e)]
 |makeFunc f a c=>
  simp only[opE];rw[List.map_congr_left (f:=ev) (g:=d) (l:=a.toList) λx e=>h x (by simp[Op.operands];exact .inl (by simpa using e)),List.map_congr_left (f:=ev) (g:=d) (l:=c.toList) λx e=>h x (by simp[Op.operands];exact .inr (by simpa using e))]
 |makeMap n r=>cases r <;> rfl
 |slice n x lo hi z=>
  simp only[opE];rw[h x (by simp[Op.operands]),k lo λy j=>h y (by simp[Op.operands];exact .inr (.inl (by simpa using j))),k hi λy j=>h y (by simp[Op.operands];exact .inr (.inr (.inl (by simpa using j)))),k z λy j=>h y (by simp[Op.operands];exact .inr (.inr (.inr (by simpa using j))))]
 |call c=>
  obtain⟨q,i,A⟩:=c;have ha:i.toList.map ev=i.toList.map d:=List.map_congr_left λx e=>h x (by simp[Op.operands,Call.operands];exact .inr (by simpa using e));cases q with
  |value f=>
   simp only[opE]
   funext H
   simp only[ajZ];rw[ha,h f (by simp[Op.operands,Call.operands])]
  |builtin b=>
   simp only[opE]
   funext H
   simp only[ajZ];rw[ha]
  |invoke r m=>rfl
 |_=>first|rfl|(simp only[opE,h _ (show _ from(by simp[Op.operands]))];done)|(simp[Op.operands]at h;simp only[opE,h])
def Ag.op {L:Nat}{t:gB}{e:Env}{ops:Q Oper}{o:Oper}(h:Ag n (Yz ops o L) t e):opA P C t o=opE P C (uY n e) o:=by
 rw[asj];exact aar λx b=>h.left.left.eval b
def Le(x y:M β):Prop:=∀r,x=ZC r->y=ZC r
def Le.refl(x:M β):Le x x:=λ_ h=>h
def Le.bnd {α:Type}{x:M (α × ah)}{k k':α->ah->M β}(h:∀v H,Le (k v H) (k' v H)):Le (bnd x k) (bnd x k'):=by
 rcases x with _|⟨v,H⟩
 ·exact Le.refl _
 ·exact h v H
def Wh {L:Nat}{t:gB}{e:Env}{ops:List Oper}{lo:Bool}{o:Oper}(h:Ag n (Yz ops o L) t e){H:ah}{k k':AV->ah->Option β}(hk:∀v H,Le (k' v H) (k v H)):Le (Yy P C n ops lo o e H k') (bnd (mQ P C ops lo o t H) k):=by
 have g:opA P C t o=opE P C (uY n e) o:=h.op;unfold Yy mQ;cases u:o.guard with
 |none=>
  simp only[uI,u];cases lo with
  |false=>simp only[Bool.false_eq_true,if_false,agT,g];exact Le.bnd hk
  |true=>
   simp only[if_true,opG,g];exact Le.bnd hk
 |some gd=>
  obtain⟨j,m⟩:=gd;rw[Qj u];have i:=h.left.right;simp only[agV,u]at i;have w:∀v,Qo n ops e j=some v->VZ ops t j=some v:=by
   intro v hv;unfold Qo at hv;unfold VZ;cases A:ops[j]? with
   |none=>rw[A]at hv;cases hv
   |some p=>
    rw[A]at hv i;simp only at hv i;simp only[Option.bind_some];cases hd:p.dst with
    |none=>rw[hd]at hv;cases hv
    |some d=>
     rw[hd]at hv i;simp only at hv i;simp only[Option.bind_some];rcases Nat.lt_or_ge d n with q|q
     ·rw[V8 q]at hv;have:=i.len;rw[Nu V,i.get d q uZ];exact hv
     ·rw[Qr q]at hv;cases hv
  simp only;cases y:Qo n ops e j with
  |none=>intro r z;cases lo <;> simp[gdA,Kv]at z
  |some v=>
   rw[w v y];simp only[gdA];cases Kv (some v) m with
   |none=>intro r z;cases lo <;> cases z
   |some b=>
    cases b
    ·cases lo <;> exact hk _ _
    ·cases lo with
     |false=>simp only[gd,if_true,Bool.false_eq_true,if_false,g];exact Le.bnd hk
     |true=>simp only[gd,if_true,opG,g];exact Le.bnd hk
def aas {ops:Q Oper}{L:Nat}{k:gB->ah->M β}{k':Env->ah->M β}(hk:∀t e H,Ag n L t e->Le (k' e H) (k t H)):∀(l:Q Oper) (t:gB) (e:Env) (H:ah),Ag n (Ug ops l L) t e->Le (amC P C n ops l e H k') (bnd (PS P C ops l t H) k)
 |[],t,e,H,h=>hk t e H h
 |o::l,t,e,H,h=>by
  rw[Aj];have:=Wh (P:=P) (C:=C) (lo:=ZV) h (H:=H) (k:=λv H=>bnd (PS P C ops l (wC t o.dst v) H) k) (k':=λv H=>amC P C n ops l (agS e o.dst v) H k') λv H=>aas hk l _ _ H (h.put v);refine λr g=>?_;have b:=this r g;cases d:mQ P C ops ZV o t H with
  |none=>rw[d]at b;cases b
  |some q=>rw[d]at b;exact b
def Hu {ops:Q Oper}{L:Nat}{k:gB->ah->M β}{k':Env->ah->M β}(hk:∀t e H,Ag n L t e->Le (k' e H) (k t H)):∀(l:Q Oper) (d:Q (M Bool)) (t:gB) (e:Env) (H:ah),Ag n (aeK ops l d L) t e->Le (KD P C n l d e H k') (bnd (Ak P C l (d.map λf=>f.isNone) t H) k)
 |[],[],t,e,H,h=>hk t e H h
 |[],f::d,t,e,H,h=>λr g=>by cases g
 |o::l,[],t,e,H,h=>λr g=>by cases g
 |o::l,none::d,t,e,H,h=>by
  simp only[KD,List.map_cons,Option.isNone_none,Ak];rw[Ag.op (P:=P) (C:=C) h];cases opE P C (uY n e) o H with
  |none=>exact Le.refl _
  |some q=>exact Hu hk l d _ _ _ (Ag.put h _)
 |o::l,some b::d,t,e,H,h=>Hu hk l d _ _ H h
def aj2 {t:gB}{ev:Operand->AV}{o:Oper}(h:∀x∈o.op.operands.toList,dR t x=ev x):lM t o.op=KC ev o.op:=by
 have⟨dst,op,d,e,after,guard⟩:=o;simp only at h;cases op with
 |call c=>
  have⟨g,b,i⟩:=c;simp only[lM,KC];have ha:∀x∈b.toList,dR t x=ev x:=λx j=>h x (by simp[Op.operands,Call.operands];exact .inr (by simpa using j));generalize b.toList=l at ha
  match l with
  |[]=>rfl
  |[x]=>simp only[ha x O]
  |x::y::l=>rfl
 |_=>first|rfl|(simp[Op.operands]at h;simp only[lM,KC,h])
def Hw {ops:Z2 Oper}{s:Nat}{ps:Z2 (Nat × Nat)}{t0:gB}{H0:ah}{L:Nat}{k':Env->ah->Z6 β}{r:β}:∀(l:Z2 Oper) (i:Nat) (t:gB) (e:Env) (H:ah) (d:Log),i+l.length=ops.length->ops.drop i=l->Gy P C ops i t0 H0=ZC (t,H)->
  Ag n (Uh ops l ((List.range' i l.length).map λi=>if cst ops i=Z0 then Z1 else ZC (loose ops i && mJ (qE ops i))) L) t e->
  (∀j w A D,EG d j=ZC (w,A,D)->∃X tb,Gy P C ops j t0 H0=ZC (X,A)/\w=lM X (qE ops j)/\Gy P C ops (j+1) t0 H0=ZC (tb,D))->
  JH P C n ops s H0.next ps l ((List.range' i l.length).map λi=>if cst ops i=Z0 then Z1 else ZC (loose ops i && mJ (qE ops i))) i e H d k'=ZC r->
  ∃t' e' H',fZ P C ops (mW ops) t0 H0=ZC (t',H')/\(∀p∈ps,agree P C ops s t0 H0 p)/\Ag n L t' e'/\k' e' H'=ZC r
 |[],i,t,e,H,d,K,hd,M,b,g,h=>by
  have hi:i=ops.length:=by simpa using K
  subst hi;refine⟨t,e,H,M,?_⟩;simp only[List.length_nil,List.range'_zero,List.map_nil,JH]at h;have aa:Ag n L t e:=b
  clear M hd K b
  induction ps with
  |nil=>exact⟨λp u=>(by simp at u),aa,h⟩
  |cons p ps ih=>
   have⟨j,e'⟩:=p;simp only[ckL]at h;cases z:cst ops j with
   |true=>
    rw[z]at h;simp only at h;cases E:EG d e' with
    |none=>rw[E]at h;cases h
    |some y=>
     have⟨w',A,D⟩:=y;rw[E]at h;simp only[ckR]at h;split at h
     ·rename_i F;have⟨i1,i2⟩:=ih h;refine⟨λp u=>?_,i2⟩;rcases List.mem_cons.1 u with rfl|u
      ·unfold agree;rw[YY z];intro te He ab ad Q R r ae af;have⟨ag,ai,s4,s5,s6⟩:=g e' w' A D E;rw[s4]at Q;rw[s6]at R;cases Q;cases R;exact F r ae af
      ·exact i1 p u
     ·cases h
   |false=>
    rw[z]at h;simp only at h;cases m:EG d j with
    |none=>rw[m]at h;cases h
    |some x=>
    have⟨w,Hx,Hy⟩:=x;cases E:EG d e' with
    |none=>rw[m,E]at h;cases h
    |some y=>
     have⟨w',A,D⟩:=y;rw[m,E]at h;simp only[ck]at h;split at h
     ·rename_i F;have⟨i1,i2⟩:=ih h;refine⟨λp u=>?_,i2⟩;rcases List.mem_cons.1 u with rfl|u
      ·unfold agree;rw[Ys (by rw[z];decide)];intro tj Hj te He ab ad q1 Q R r hr;have⟨X,tb,s1,s2,s3⟩:=g j w Hx Hy m;have⟨ag,ai,s4,s5,s6⟩:=g e' w' A D E;rw[s1]at q1;rw[s4]at Q;rw[s6]at R;cases q1;cases Q;cases R;exact F r (by rw[s2];exact hr)
      ·exact i1 p u
     ·cases h
 |o::l,i,t,e,H,d,K,hd,M,b,g,h=>by
  have hi:i<ops.length:=by simp at K;omega
  have ho:ops[i]?=ZC o:=by
   have:=List.getElem?_drop (xs:=ops) (i:=i) (j:=0);rw[hd]at this
   simpa using this.symm
  have T:ops.drop (i+1)=l:=by
   rw[<-List.drop_drop,hd];rfl
  rw[List.length_cons,List.range'_succ,List.map_cons]at h b;cases hc:cst ops i with
  |true=>
   simp only[hc,zad,JH]at h;simp only[hc,zad,Uh]at b;refine Hw l (i+1) t e H d (by simp at K;omega) T ?_ b g h;rw[wL,M];simp[hc]
  |false=>
   simp only[hc,Bool.false_eq_true,zaf,JH]at h;simp only[hc,Bool.false_eq_true,zaf,Uh]at b;rw[uT ho]at h;have hw:lM t o.op=KC (uY n e) o.op:=aj2 λx hx=>Ag.eval (Ag.left (Ag.left b)) hx;have key:=Wh (P:=P) (C:=C) (lo:=loose ops i && mJ o.op) b (H:=H) (β:=β)
    (k:=λv H'=>JH P C n ops s H0.next ps l ((List.range' (i+1) l.length).map λi=>if cst ops i=Z0 then Z1 else ZC (loose ops i && mJ (qE ops i))) (i+1) (agS e o.dst v) H' ((i,KC (uY n e) o.op,H,H')::d) k')
    (λv H=>Le.refl _) r h
   cases G:mQ P C ops (loose ops i && mJ o.op) o t H with
   |none=>rw[G]at key;cases key
   |some q=>
    have⟨v,H'⟩:=q;rw[G]at key;simp only[bnd]at key;have W:Gy P C ops (i+1) t0 H0=ZC (wC t o.dst v,H'):=by
     rw[wL,M];simp[hc,ho,G,fZ]
    refine Hw l (i+1) _ _ H' _ (by simp at K;omega) T W (Ag.put b v) (λj w A D m=>?_) key;simp only[EG]at m;cases hb:Nat.beq i j with
    |true=>
     have:i=j:=Nat.eq_of_beq_eq_true hb;subst this;rw[hb]at m;simp only[cond_true,Option.some.injEq,zaa]at m;obtain⟨rfl,rfl,rfl⟩:=m;exact⟨t,_,M,by rw[uT ho,hw],W⟩
    |false=>
     rw[hb]at m;exact g j w A D m
def Wi {i:Nat}:∀{M:Q Nat},(pW M).testBit i=Z0->i∈M
 |[],h=>by simp[pW]at h
 |m::M,h=>by
  simp only[pW,Nat.testBit_or,Nat.testBit_two_pow,Bool.or_eq_true,zab]at h;rcases h with rfl|h
  ·simp
  ·exact List.mem_cons_of_mem _ (Wi h)
def Wj {e:Env}:∀(M pre:Q Nat) (i:Nat),i∈M->Px (emb (yH (pre++M) e) M pre.length) i=Px e i
 |m::M,pre,i,h=>by
  simp only[emb,Px];cases hb:Nat.beq m i with
  |true=>
   have:m=i:=Nat.eq_of_beq_eq_true hb;subst this;simp only[cond_true];have:∀pre:Q Nat,(yH (pre++m::M) e).getD pre.length aX=Px e m:=by
    intro pre
    induction pre with
    |nil=>rfl
    |cons x pre d=>exact d
   exact this pre
  |false=>
   simp only[cond_false];have b:i≠m:=λe=>by subst e;rw[show Nat.beq i i=Z0 from Nat.beq_refl i]at hb;cases hb
   have:=Wj (e:=e) M (pre++[m]) i ((List.mem_cons.1 h).resolve_left b)
   simpa using this
def Ag.emb {M:Q Nat}{t:gB}{e:Env}(h:Ag n (pW M) t e):Ag n (pW M) t (Go.Proofs.YtgplhpgkompkmaaGreat.emb (yH M e) M 0):=by
 refine⟨h.len,λi b hi=>?_⟩;have:=Wj (e:=e) M [] i (Wi hi);simp only[List.nil_append,List.length_nil]at this;rw[this];exact h.get i b hi
def Qs(kn:gB->ah->M β)(kx:Nat->gB->ah->M β)(kr:gB->ah->M β):Res->M β
 |some (.normal,t,H)=>kn t H
 |some (.exit i,t,H)=>kx i t H
 |some (.ret,t,H)=>kr t H
 |none=>Z1
variable {kn:gB->ah->Option β}{kx:Nat->gB->ah->Option β}{kr:gB->ah->Option β}
def aat {x:M (gB × ah)}:Qs kn kx kr (okN x)=bnd x kn:=by rcases x with _|⟨t,H⟩ <;> rfl
def Wn {r:Res}{g:Run}:Qs kn kx kr (sS r g)=Qs (λt H=>Qs kn kx kr (g t H)) kx kr r:=by
 rcases r with _|⟨e,t,H⟩
 ·rfl
 ·cases e <;> rfl
def aau {id:Nat}{r:Res}:Qs kn kx kr (DW id r)=Qs kn (λi t H=>match Nat.beq i id with
 |true=>kn t H
 |false=>kx i t H) kr r:=by
 rcases r with _|⟨e,t,H⟩
 ·rfl
 ·cases e with
  |exit i=>
   simp only[DW,Qs];by_cases hi:i=id
   ·subst hi;simp only[zad,Nat.beq_refl]
   ·have:Nat.beq i id=false:=Bool.eq_false_iff.2 λh=>hi (Nat.eq_of_beq_eq_true h);simp only[hi,zaf,this]
  |normal=>rfl
  |ret=>rfl
def aeL {c:AV}{x y:Res}:Qs kn kx kr (aeD c x y)=aN c (Qs kn kx kr x) (Qs kn kx kr y):=by
 unfold aeD aN;split <;> first|rfl|skip
 all_goals (try(split <;> first|rfl|contradiction))
def Ui:∀{a b:Q (M Bool)},amE a b=Z0->a=b
 |[],[],_=>rfl
 |none::a,none::b,h=>by rw[Ui (a:=a) (b:=b) h]
 |some x::a,some y::b,h=>by
  simp only[amE,Bool.and_eq_true,beq_iff_eq]at h;rw[h.1,Ui h.2]
 |[],_::_,h=>by cases h
 |none::_,[],h=>by cases h
 |some _::_,[],h=>by cases h
 |none::_,some _::_,h=>by cases h
 |some _::_,none::_,h=>by cases h
def aav:∀{a b:Q (Nat × Nat)},arM a b=Z0->a=b
 |[],[],_=>rfl
 |(a,b)::l,(c,d)::m,h=>by
  simp only[arM,Bool.and_eq_true]at h;rw[Nat.eq_of_beq_eq_true h.1,Nat.eq_of_beq_eq_true h.2.1,aav h.2.2]
 |[],_::_,h=>by cases h
 |_::_,[],h=>by cases h
open Classical in
def HY(A:Ann):∀(c:Code) (z:Nat) (y:Nat->Nat) (v:Nat),Qq A n c z y v=Z0->∀(kn:gB->ah->Z6 β) (o:Env->ah->Z6 β) (kx:Nat->gB->ah->Z6 β) (g:Nat->Env->ah->Z6 β) (kr:gB->ah->Z6 β) (e:Env->ah->Z6 β),
  (∀t t' H,Ag n z t t'->Le (o t' H) (kn t H))->(∀i t t' H,Ag n (y i) t t'->Le (g i t' H) (kx i t H))->(∀t t' H,Ag n v t t'->Le (e t' H) (kr t H))->
  ∀t t' H,Ag n (zA A c z y v) t t'->Le (kY P C A n c t' H o g e) (Qs kn kx kr (fF P C c t H)):=by
 intro c
 induction c with
 |skip=>intro z y v hc kn o kx g kr e E F u t t' H h;exact E t t' H h
 |region id ops d=>
  intro z y v hc kn o kx g kr e E F u t t' H h;cases d with
  |false=>
   rw[Uc,aat];exact aas E _ t t' H h
  |true=>
   simp only[Qq,cond_true,Bool.and_eq_true]at hc;have⟨h1,h2,W⟩:=hc;have h2:=aav h2;have W:=Ui W;have aa:(kW [] A.draw id).map (λf=>f.isNone)=Hr ops.toList:=by
    rw[<-W,aao,Hr,List.map_map]
    apply List.map_congr_left
    intro i _;simp only[Function.comp];cases cst ops.toList i <;> rfl
   rw[aah,aat];have e1:iY P C ops.toList (oM ops.toList) t H=Ak P C ops.toList (Hr ops.toList) t H:=by
    have:=Qm (P:=P) (C:=C) (ops:=ops.toList) ops.toList [] t H Z3
    simpa [oM,Hr,List.range_eq_range']using this
   have ab:kW [] A.draw id=(List.range' 0 ops.toList.length).map λi=>if cst ops.toList i=Z0 then Z1 else ZC (loose ops.toList i && mJ (qE ops.toList i)):=by
    rw[<-W,aao,List.range_eq_range']
   refine λr ad=>?_;have D:=Hu (P:=P) (C:=C) (β:=β) (ops:=ops.toList) (L:=Uh ops.toList ops.toList (kW [] A.draw id) z)
    (k:=λt0 H0=>if(∀p∈kW [] A.pairs id,agree P C ops.toList H.next t0 H0 p)then bnd (fZ P C ops.toList (mW ops.toList) t0 H0) kn else Z1)
    (k':=λt H0=>JH P C n ops.toList H.next H0.next (kW [] A.pairs id) ops.toList (kW [] A.draw id) 0 t H0 [] o) (λt0 e0 H0 G r u=>by
     rw[ab]at u G;have⟨t1,e1,H1,d1,X,d3,d4⟩:=Hw (t0:=t0) (H0:=H0) ops.toList 0 t0 e0 H0 [] O O (by simp[Gy,fZ]) G (λj w Ha Hb hj=>by cases hj) u;rw[YY X,d1];exact E t1 e1 H1 d3 r d4) ops.toList (kW [] A.draw id) t t' H h r ad
   rw[aa]at D;cases K:Ak P C ops.toList (Hr ops.toList) t H with
   |none=>rw[K]at D;cases D
   |some q=>
    have⟨t0,H0⟩:=q;rw[K]at D;simp only[bnd]at D;split at D
    ·rename_i X;have:y7 P C ops.toList t H=fZ P C ops.toList (mW ops.toList) t0 H0:=by
      unfold y7;rw[YY h1,e1,K];simp only;rw[<-h2]at X;split
      ·rfl
      ·rw[YY X]
     rw[this];exact D
    ·cases D
 |seq a b Q R=>
  intro z y v hc kn o kx g kr e E F u t t' H h;simp only[Qq,Bool.and_eq_true]at hc;rw[aeE,Wn];exact Q _ y v hc.1 _ _ kx g kr e (λt t' H G=>R z y v hc.2 kn o kx g kr e E F u t t' H G) F u t t' H h
 |cond c a b Q R=>
  intro z y v hc kn o kx g kr e E F u t t' H h;simp only[Qq,Bool.and_eq_true]at hc;have ha:=Q z y v hc.1 kn o kx g kr e E F u t t' H h.right.left;have hb:=R z y v hc.2 kn o kx g kr e E F u t t' H h.right.right;rw[aag,aeL,h.left.eval (x:=c) (List.mem_singleton.2 Z3)];show Le (aN (uY n t' c) _ _) _;unfold aN;split
  ·exact ha
  ·exact hb
  ·exact Le.refl _
 |block id a ih=>
  intro z y v hc kn o kx g kr e E F u t t' H h;rw[Yx,aau];refine ih z _ v hc kn o _ _ kr e E (λi t t' H G=>?_) u t t' H h;cases hb:Nat.beq i id with
  |true=>simp only[hb,cond_true]at G ⊢;exact E t t' H G
  |false=>simp only[hb,cond_false]at G ⊢;exact F i t t' H G
 |loop a ih=>
  intro z y v hc kn o kx g kr e E F u t t' H h;simp only[Qq,Bool.and_eq_true]at hc;simp only[zA]at h;simp only[kY];generalize kW [] A.live (jY a)=M at hc h ⊢;have⟨hs,hc⟩:=hc;have hs:pW M ||| zA A a (pW M) y v=pW M:=Nat.eq_of_beq_eq_true hs
  have T:∀i,(zA A a (pW M) y v).testBit i=Z0->(pW M).testBit i=true:=λi hi=>by rw[<-hs,Nat.testBit_or,hi];simp
  let B:Z2 AV->ah->(Z2 AV->ah->Z6 β)->Z6 β:=λs H k=>kY P C A n a (emb s M 0) H (λt H=>k (yH M t) H) g e
  have it:∀m t t' H,Ag n (pW M) t t'->Le (Ht B m (yH M t') H) (Qs kn kx kr (CO (fF P C a) m t H)):=by
   intro m
   induction m with
   |zero=>intro t t' H _ r u;cases u
   |succ m ae=>
    intro t t' H G;show Le (kY P C A n a (emb (yH M t') M 0) H (λt H=>Ht B m (yH M t) H) g e) (Qs kn kx kr (sS (fF P C a t H) (CO (fF P C a) m)));rw[Wn];exact ih (pW M) y v hc _ _ kx g kr e (λt t' H hh=>ae t t' H hh) F u _ _ H (G.emb.sub T)
  rw[show fF P C (.loop a)=Yq (fF P C a)from Z3];intro r hf;have⟨m,hm⟩:=lQ hf;have hm:=it m t t' H h r hm;cases u:CO (fF P C a) m t H with
  |none=>rw[u]at hm;cases hm
  |some q=>rw[show Yq (fF P C a) t H=ZC q from wO (λn r=>J8 n t H r) u,<-u];exact hm
 |exit i=>intro z y v hc kn o kx g kr e E F u t t' H h;exact F i t t' H h
 |ret=>intro z y v hc kn o kx g kr e E F u t t' H h;exact u t t' H h
 |_=>intro z y v hc kn o kx g kr e E F u t t' H h r u;cases u
end
def Tn:Q ResultVar->Nat
 |[]=>0
 |.tmp d::b=>2 ^ d ||| Tn b
 |.cell a _::b=>2 ^ a ||| Tn b
def Nz {P:XX}{n:Nat}{t:gB}{e:Env}{H:ah}:∀(b:Q ResultVar) (k:Q AV->M (AV × ah)),Ag n (Tn b) t e->Uf P n e H b k=(b.mapM (VQ P t H)).bind k
 |[],k,_=>by simp[Uf]
 |.tmp d::b,k,h=>by
  rw[List.mapM_cons,Uf,Nz b _ h.right,<-h.left.tmp uZ];simp only[VQ,Option.bind_eq_bind,Option.bind_some,Option.pure_def];cases b.mapM (VQ P t H) <;> rfl
 |.cell a g::b,k,h=>by
  rw[List.mapM_cons,Uf,<-h.left.tmp uZ];simp only[VQ];cases Tz P g (t.getD a aX) H with
  |none=>rfl
  |some r=>
   simp only[bnd,Option.map_some,Option.bind_eq_bind,Option.bind_some,Option.pure_def];rw[Nz b _ h.right];cases b.mapM (VQ P t H) <;> rfl
def aaw {P:XX}{n:Nat}{t:gB}{e:Env}{H:ah}(b:Q ResultVar)(h:Ag n (Tn b) t e):(jB P b t H).map (λv=>(v,H))=Py P n b e H:=by
 unfold Py jB;rw[Nz b _ h];cases b.mapM (VQ P t H)with
 |none=>rfl
 |some l=>
  simp only[Option.bind_some]
  match l with
  |[]=>rfl
  |[x]=>rfl
  |x::y::l=>rfl
def asl(A:Ann)(fn:Func)(c:Code):Bool:=Qq A fn.ntmps c (Tn fn.results.toList) (λ_=>0) (Tn fn.results.toList)
def NC(n:Nat):∀(args:Q AV) (i j:Nat),j<n->(args++List.replicate (n-args.length) aX).getD j aX=Px (Qn args i) (i+j)
 |[],i,j,b=>by
  simp[Qn,Px,List.getD,b]
 |a::args,i,0,_=>by simp[Qn,Px]
 |a::args,i,j+1,b=>by
  have hb:Nat.beq i (i+(j+1))=false:=Bool.eq_false_iff.2 λh=>by have:=Nat.eq_of_beq_eq_true h;omega
  simp only[Qn,Px,hb,cond_false];have:=NC (n-1) args (i+1) j V;rw[show i+(j+1)=i+1+j by omega,<-this];simp only[List.length_cons,List.cons_append,List.getD_cons_succ];rw[show n-(args.length+1)=n-1-args.length by omega]
def amF {P:XX}{C:aA}{A:Ann}{f:FuncId}{fn:Func}{c:Code}{args:Q AV}{H:ah}(j:P.funcs[f]?=ZC fn)(hb:fn.body=ZC c)(d:Nat.ble args.length fn.ntmps=Z0)(hc:asl A fn c=Z0){r:AV × ah}
  (h:kY P C A fn.ntmps c (Qn args 0) H (Py P fn.ntmps fn.results.toList) (λ_ _ _=>Z1) (Py P fn.ntmps fn.results.toList)=ZC r):zY P C f args H=ZC r:=by
 rw[ajX j hb];have key:∀r:Res,ash P fn.results.toList r=Qs (λt H=>(jB P fn.results.toList t H).map λv=>(v,H)) (λ_ _ _=>Z1) (λt H=>(jB P fn.results.toList t H).map λv=>(v,H)) r:=by
  intro r;rcases r with _|⟨e,t,H⟩
  ·rfl
  ·cases e <;> rfl
 rw[key];have d:args.length<=fn.ntmps:=Nat.le_of_ble_eq_true d;have b:(args++List.replicate (fn.ntmps-args.length) aX).length=fn.ntmps:=by simp;omega
 have g:∀t e H,Ag fn.ntmps (Tn fn.results.toList) t e->Le (Py P fn.ntmps fn.results.toList e H) ((jB P fn.results.toList t H).map λv=>(v,H)):=λt e H h=>by
  rw[aaw _ h];exact Le.refl _
 exact HY A c _ _ _ hc _ _ _ _ _ _ g (λ_ _ _ _ _=>Le.refl _) g _ _ H ⟨b,λi k _=>by have:=NC fn.ntmps args 0 i k;rwa [Nat.zero_add]at this⟩ r h
def rF:Nat->Q (M Bool)->Q (M Bool)
 |0,l=>l
 |n+1,l=>ZC ZV::rF n l
abbrev OA:=Option (AV × ah)
def rnK {P:XX}{C:aA}{A:Ann}{f:FuncId}{fn:Func}{c:Code}{args:Q AV}{H:ah}{s:OA}(d:P.funcs[f]?=ZC fn)(b:(fn.body,Nat.ble args.length fn.ntmps,asl A fn c)=(ZC c,Z0,Z0))
  (e:kY P C A fn.ntmps c (Qn args 0) H (Py P fn.ntmps fn.results.toList) (λ_ _ _=>Z1) (Py P fn.ntmps fn.results.toList)=s) {r:AV × ah} (h:s=ZC r):zY P C f args H=ZC r:=by
 simp only[zaa]at b;exact amF d b.1 b.2.1 b.2.2 (e.trans h)
def rnG {P:XX}{C:aA}(A:Ann){f:FuncId}{fn:Func}{args:Q AV}{H:ah}{s:OA}(b:P.funcs[f]?=ZC fn)(d:(fn.body,Nat.ble args.length fn.ntmps,asl A fn (fn.body.getD .skip))=(ZC (fn.body.getD .skip),Z0,Z0))
  (e:kY P C A fn.ntmps (fn.body.getD .skip) (Qn args 0) H (Py P fn.ntmps fn.results.toList) (λ_ _ _=>Z1) (Py P fn.ntmps fn.results.toList)=s) {r:AV × ah} (h:s=ZC r):zY P C f args H=ZC r:=rnK b d e h
def jv(P:XX)(fn:Func)(n:Nat)(A:Ann)(b:Nat)(C:aA):Q AV->ah->OA:=
 (vX P C A n (fn.body.getD .skip) (Py P n fn.results.toList) (λ_ _ _=>Z1) (Py P n fn.results.toList)).getD b λ_ _=>Z1
def lpE {P:XX}{fn:Func}{n:Nat}{A:Ann}{b:Nat}{C:aA}{l:Q AV}{H:ah}:jv P fn n A b C l H=((pq P C A n (fn.body.getD .skip) (Py P n fn.results.toList) (λ_ _ _=>Z1) (Py P n fn.results.toList)).getD b λ_ _=>Z1) l H:=
 by unfold jv;rw[aeJ]
def an0:Ann:=⟨[],[],[]⟩
@[congr] def amG {α β:Type}{x y:Option (α × ah)}{k:α->ah->Option β}(h:x=y):bnd x k=bnd y k:=by rw[h]
@[congr] def arN {α β:Type}{x y:Option α}{k:α->Option β}(h:x=y):bo x k=bo y k:=by rw[h]
@[congr] def aj3 {β:Type}{c d:AV}{x y:Option β}(h:c=d):aN c x y=aN d x y:=by rw[h]
@[congr] def amH {β:Type}{g g':Option AV}{b:Bool}{x:Option (AV × ah)}{H:ah}{k:AV->ah->Option β}(h:g=g'):gdA g b x H k=gdA g' b x H k:=by rw[h]
def aax {α β:Type}{v:α}{k:α->M β}:bo (ZC v) k=k v:=rfl
def KJ {β:Type}{x y:M β}:aN (.s (.bool Z0)) x y=x:=rfl
def Ib {β:Type}{x y:M β}:aN (.s (.bool ZV)) x y=y:=rfl
section
def fl(x:AV)(off:Nat):M AV:=
 match x with
 |.agg cells=>cells[off]?
 |.s (.agg cs)=>(cs.toList.map AV.s)[off]?
 |_=>Z1
def slS(m:Nat)(x:AV)(lo hi d:M AV):M AV:=
 match x with
  |.s (.slice none 0 0)=>match jc lo 0,jc hi 0,jc d 0 with
   |some 0,some 0,some 0=>if hi=Z1->d=Z1 then ZC (.s (.slice Z1 0 0))else Z1
   |_,_,_=>Z1
  |.sl r g off b len e ex=>match jc lo 0,jc hi len,jc d e with
   |some l,some h,some k=>
    if b=m/\l<=h/\h<=k/\k<=e/\(hi=Z1->d=Z1)then ZC (.sl r g (off+l*b) b (h-l) (k-l) (ex || !isNone d))else Z1
   |_,_,_=>Z1
  |.vs n b cells=>match jc lo 0,jc hi n,d with
   |some l,some h,none=>if b=m/\l<=h/\h<=n then ZC (.vs (h-l) b ((cells.drop (l*b)).take ((h-l)*b)))else Z1
   |_,_,_=>Z1
  |_=>Z1
def jf(d:Nat->M (Nat × Nat))(z:Q AV)(b:Q (Nat × AV)):M AV:=(fO d z b).map .agg
def ldO(x:AV)(b:M gG):M AV:=
 match x with
 |.ref _ g off=>match b with
  |some (.blk g' _ cells)=>if g'=g then cells[off]? else Z1
  |_=>Z1
 |.ip cells=>cells[0]?
 |_=>Z1
def ld(x:AV):AM AV:=kV (ldO x) x
def arO(n:Nat)(x:AV)(b:M gG):M AV:=
 match x with
 |.ref _ g off=>match b with
  |some (.blk g' _ cells)=>if g'=g then(if off+n<=cells.length then ZC (.agg ((cells.drop off).take n))else Z1)else Z1
  |_=>Z1
 |.ip cells=>if 0+n<=cells.length then ZC (.agg ((cells.drop 0).take n))else Z1
 |_=>Z1
def lda(n:Nat)(x:AV):AM AV:=kV (arO n x) x
def st(n:Nat)(x v:AV):AM AV:=λH=>
 match x with
 |.ref r g off=>match H.get r with
  |.blk g' b cells=>
   if g'=g/\H.base<=r/\ZC n=ZC v.cells.length/\v.cells.all AV.aU=Z0/\off+v.cells.length<=cells.length then
    ZC (aX,H.put r (.blk g b (aI cells off v.cells)))
   else Z1
  |.map ..=>Z1
 |_=>Z1
def alc(t:XN)(z:Q AV):AM AV:=λH=>ZC (.ref H.next 0 0,H.new (.blk 0 t z))
def bsl(e:XN)(m:Nat)(z:Q AV)(len:Nat)(b:Q (Nat × AV)):AM AV:=λH=>
 match fO (λi=>ZC (i*m,m)) (dM z len) b with
 |some cells=>if cells.all AV.aU=Z0 then ZC (.sl H.next 0 0 m len len Z0,H.new (.blk 0 e cells))else Z1
 |none=>Z1
def mks(e:XN)(m by_:Nat)(z:Q AV)(len cap:AV):AM AV:=λH=>
 match len,cap with
 |.s (.int _ l),.s (.int _ c)=>
   if z.length=m/\z.all AV.aU=Z0/\0<=l/\l<=c/\c<=140737488355328/\by_*c<=140737488355328 then
    ZC (.sl H.next 0 0 m l.toNat c.toNat Z0,H.new (.blk 0 e (dM z c.toNat)))
   else Z1
 |_,_=>Z1
def mkm(k:IntKind):AM AV:=λH=>ZC (.mp H.next,H.new (.map k []))
def lkO(k:IntKind)(z:XS)(x i:AV)(ok:Bool)(d:M gG):M AV:=
 match x with
   |.mp _=>match i with
    |.s (.int k' n)=>match d with
     |some (.map b e)=>
      if k'=k/\b=k then
       match qA e n with
       |some v=>ZC (if ok then .tup [v,.s (.bool Z0)]else v)
       |none=>ZC (if ok then .tup [.s z,.s (.bool ZV)]else .s z)
      else Z1
     |_=>Z1
    |_=>Z1
   |_=>Z1
def lk(k:IntKind)(z:XS)(x i:AV)(ok:Bool):AM AV:=kV (lkO k z x i ok) x
def mup(k:IntKind)(x i v:AV):AM AV:=λH=>
 match x,i with
 |.mp r,.s (.int k' n)=>match H.get r with
  |.map b d=>if k'=k/\b=k/\H.base<=r then ZC (aX,H.put r (.map k (MJ d n v)))else Z1
  |_=>Z1
 |_,_=>Z1
def del(k:IntKind)(x i:AV):AM AV:=λH=>
 match x,i with
 |.mp r,.s (.int k' n)=>match H.get r with
  |.map b d=>if k'=k/\b=k/\H.base<=r then ZC (.tup [],H.put r (.map k (Aa d n)))else Z1
  |_=>Z1
 |_,_=>Z1
def ixO(m:Nat)(x i:AV)(d:M gG):M AV:=
 match x with
  |.sl r g off b len _ _=>match i with
   |.s (.int _ n)=>if ZC m=ZC b/\arI d=g/\0<=n/\n<len then ZC (.ref r g (off+n.toNat*b))else Z1
   |_=>Z1
  |.vs len b cells=>match i with
   |.s (.int _ n)=>if ZC m=ZC b/\0<=n/\n<len then ZC (.ip (cells.drop (n.toNat*b)))else Z1
   |_=>Z1
  |_=>Z1
def ix(m:Nat)(x i:AV):AM AV:=kV (ixO m x i) x
def asn(x:AV):M AV:=
 match x with
  |.sl _ _ _ _ len _ _=>ZC (.s (.int .i64 len))
  |.vs n _ _=>ZC (.s (.int .i64 n))
  |.s (.slice _ n _)=>ZC (.s (.int .i64 n))
  |_=>Z1
def lnS(x:AV):AM AV:=kV (λ_=>asn x) x
def aso(x:AV)(b:M gG):M AV:=
 match x with
  |.mp _=>match b with
   |some (.map _ d)=>ZC (.s (.int .i64 d.length))
   |_=>Z1
  |.s (.map none)=>ZC (.s (.int .i64 0))
  |_=>Z1
def lnM(x:AV):AM AV:=kV (aso x) x
def app(e:XN)(m by_:Nat)(x y:AV):AM AV:=λH=>
 match kL y,cZ H y with
 |some n,some new=>dV e m by_ x n new H
 |_,_=>Z1
def cpy(m:Nat)(x y:AV):AM AV:=λH=>
 match kL x,kL y,cZ H y with
  |some d,some n,some new=>
   let k:=min n d
   if new.length=n*m/\new.all AV.aU=Z0 then
    if k=0 then(match x with|.s (.string _)=>Z1|_=>ZC (.s (.int .i64 0),H))else
    match x with
    |.sl r g off b len _ _=>match H.get r with
     |.blk g' e cells=>
      if b=m/\g'=g/\H.base<=r/\off+len*m<=cells.length then
       ZC (.s (.int .i64 k),H.put r (.blk g e (aI cells off (new.take (k*m)))))
      else Z1
     |.map ..=>Z1
    |_=>Z1
   else Z1
  |_,_,_=>Z1
def clr(m:Nat)(z:Q AV)(x:AV):AM AV:=λH=>
 match x with
  |.sl r g off b len _ _=>
   if len=0 then ZC (.tup [],H)else
   match H.get r with
   |.blk g' d cells=>
    if b=m/\g'=g/\H.base<=r/\z.length=m/\z.all AV.aU=Z0/\off+len*m<=cells.length then
     ZC (.tup [],H.put r (.blk g d (aI cells off (dM z len))))
    else Z1
   |.map ..=>Z1
  |.s (.slice none _ _)=>ZC (.tup [],H)
  |_=>Z1
end
def rM {P:XX}{t e:XN}{m n:Nat}{z:Q AV}{ps:Q (Nat × AV)}{H:ah}(b:JE P t=ZC e)(hm:szT P e=ZC m)(d:yG P e=ZC z)(g:z.length=m)(h:n*m<=16777216):dI P t n ps H=bsl e m z n ps H:=by
 simp only[dI,b,hm,d];rw[y ⟨g,h⟩];rfl
def iQ {P:XX}{t:XN}{b:Array Field}{d:Nat->M (Nat × Nat)}{z:Q AV}{ps:Q (Nat × AV)}(e:yG P t=ZC z)(g:P.underlying t=ZC (.struct b))(ha:b.all (λf=>(szT P f.type).isSome)=Z0)(h:PE P b=d):fV P t ps=jf d z ps:=by
 simp only[fV,e,g,ha,zad,h];rfl
def DZ {P:XX}{s d:XN}{k1 k2 k:IntKind}{n:Int}{H:ah}(hb:Gw P s d=ZV)(e:P.underlying s=ZC (.int k1))(hd:P.underlying d=ZC (.int k2)):kM P s d (.s (.int k n)) H=ZC (.s (.int k2 (IntKind.wrap k2 n)),H):=by
 have h:je P (convert s d (.int k n))=ZC (.int k2 (IntKind.wrap k2 n)):=by
  have b:∀{α:Type} (t:XN) (d:TypeDesc) (f:TypeDesc->Sem α),P.underlying t=ZC d->je P (underlying t >>=f)=je P (f d):=by
   intro α t d f h;show je P ((match P.underlying t with
    |some d=>pure d
    |none=>stuck "no such type") >>=f)=_
   rw[h];rfl
  unfold convert;rw[b s _ _ e,b d _ _ hd];rfl
 simp only[kM,kV,bT,Option.map_none,Ac,hb,Bool.false_eq_true,zaf,AV.val?,h,Option.map_some]
abbrev zI:AV:=.s (.int .i64 0)
abbrev zB:AV:=.s (.bool false)
abbrev zN:AV:=.s (.slice none 0 0)
abbrev zP:AV:=.s (.pointer none)
abbrev zM:AV:=.s (.map none)
abbrev I(n:Int):AV:=.s (.int .i64 n)
abbrev B(b:Bool):AV:=.s (.bool b)
def fld {β:Type}(a:AV)(i:Nat)(H:ah)(k:AV->ah->M β):M β:=bo (au a i) λp=>bnd (ld p H) k
@[congr] def amI {β:Type}{a a':AV}{i:Nat}{H:ah}{k:AV->ah->Option β}(h:a=a'):fld a i H k=fld a' i H k:=by rw[h]
def agW {β:Type}{a:AV}{i:Nat}{H:ah}{k:AV->ah->M β}:fld a i H k=bo (au a i) λp=>bnd (ld p H) k:=rfl
def gl {β:Type}(g:AV)(b:Bool)(e:M AV)(H:ah)(k:AV->ah->M β):M β:=gdA (ZC g) b (fU e H) H k
@[congr] def arP {β:Type}{g g':AV}{b:Bool}{e:Option AV}{H:ah}{k:AV->ah->Option β}(h:g=g'):gl g b e H k=gl g' b e H k:=by rw[h]
def amJ {β:Type}{g:AV}{b:Bool}{e:M AV}{H:ah}{k:AV->ah->M β}:gl g b e H k=gdA (ZC g) b (fU e H) H k:=rfl
end
end Go.Proofs.YtgplhpgkompkmaaGreat
