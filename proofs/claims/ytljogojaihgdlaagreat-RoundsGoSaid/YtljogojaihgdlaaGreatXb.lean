/-
  Own work: an interpreter over named blocks, its soundness, and what the functions of this seat compute (part 2 of 12).
  Conditions: those of the statement alone.
-/
import Derived.Test.YtljogojaihgdlaaGreatXa
set_option linter.all false
set_option linter.unusedSectionVars false
set_option linter.unusedVariables false
set_option linter.unusedSimpArgs false
namespace Go.Proofs.YtljogojaihgdlaaGreat
noncomputable section
structure adD(P:Program)(C:aC)(ops:List Oper)(t:gJ)(H:ah)(t0:gJ)(H0:ah)(T:Nat->gJ)(Hp:Nat->ah)(val:Nat->AV)(nm:Nat->Nat):Prop where
 facts:GN ops
 S:CB P C ops t0 H0 T Hp val
 names:∀j,j < ops.length->cst ops j=true->∃o,ops[j]?=some o/\H.next<=nm j/\nm j < H0.next/\Qe P o (val j) (nm j) (H0.get (nm j))/\∀d,o.dst=some d->d < t.length->t0[d]?=some (val j)
 inj:∀i j,i < ops.length->j < ops.length->cst ops i=true->cst ops j=true->nm i=nm j->i=j
 rest:∀d,(∀j,cst ops j=true->∀o,ops[j]?=some o->o.dst≠some d)->t0[d]?=t[d]?
 len:t0.length=t.length
 fresh:TB H H0
 as6:∀r,H.next<=r->H.gen r=0->H0.gen r=0
 agr:∀p∈mQ ops,agree P C ops H.next t0 H0 p
 ghost:∀p,p<=ops.length->∀d,NV (Hp p).next ((T p).getD d bg)
 keeps:kW C
section
variable {P:Program}{C:aC}{ops:List Oper}{t:gJ}{H:ah}{t0:gJ}{H0:ah}{T:Nat->gJ}{Hp:Nat->ah}{val:Nat->AV}{nm:Nat->Nat}
theorem GU {i:Nat}(h:chn ops i=true):cst ops i=false/\flo ops i=false:=by
 unfold chn at h
 simpa using h
def kinds(i:Nat):cst ops i=true∨(cst ops i=false/\flo ops i=true)∨chn ops i=true:=by
 unfold chn;cases cst ops i <;> cases flo ops i <;> simp
def aic {i:Nat}(h:flo ops i=true):cst ops i=false:=by
 unfold flo at h;unfold cst
 revert h
 generalize qX ops i=o;intro h;cases o <;> first|rfl|(simp only [rW] at h;cases h)
theorem xg {i:Nat}{o:Oper}(d:ops[i]?=some o)(h:flo ops i=true):rW o.op=true/\nK o.op=false:=by
 unfold flo at h;rw [vw d] at h;refine⟨h,?_⟩;obtain⟨dst,op,b,e,after,guard⟩:=o;cases op <;> try rfl
 rename_i c;simp only [rW] at h;simp only [nK];cases hc:c.callee with
 |value f=>rw [hc] at h;cases h
 |_=>rfl
namespace adD
variable (D:adD P C ops t H t0 H0 T Hp val nm)
include D
theorem get {p:Nat}(b:p<ops.length):∃o,ops[p]?=some o:=⟨_,zab b⟩
theorem apS:∀p,p<=ops.length->(T p).length=t.length:=by
 intro p
 induction p with
 | zero=> intro _;rw [D.S.zero.1,D.len]
 | succ p ih=>
  intro hp;cases hc:cst ops p with
  | true=> rw [(D.S.skip p hp hc).1];exact ih (by omega)
  | false=>
   obtain⟨o,ho⟩:=D.get hp;rw [(D.S.step p o ho hc).2,nG];exact ih (by omega)
theorem akR:∀p,p<=ops.length->∀d,d < t.length->
  (∀i o,ops[i]?=some o->o.dst=some d->(cst ops i=true∨i < p)->(T p)[d]?=some (val i))/\
  ((∀i o,ops[i]?=some o->(cst ops i=true∨i < p)->o.dst≠some d)->(T p)[d]?=t[d]?):=by
 intro p
 induction p with
 | zero=>
  intro _ d hd;rw [D.S.zero.1];refine⟨λi o ho hdst hc=> ?_,λh=> D.rest d λj hj o ho=> h j o ho (.inl hj)⟩;have hc:cst ops i=true:=hc.resolve_right (by omega);obtain⟨o',ho',_,_,_,h5⟩:=D.names i (dS ho) hc;rw [ho] at ho';cases ho';exact h5 d hdst hd
 | succ p ih=>
  intro hp d hd;obtain⟨ih1,ih2⟩:=ih (by omega) d hd;cases hc:cst ops p with
  | true=>
   rw [(D.S.skip p hp hc).1];refine⟨λi o ho hdst hi=> ih1 i o ho hdst ?_,λh=> ih2 λi o ho hi=> h i o ho (hi.imp id λh=> by omega)⟩;rcases hi with hi | hi
   ·exact .inl hi
   ·by_cases e:i=p
    ·subst e;exact .inl hc
    ·exact .inr (by omega)
  | false=>
   obtain⟨op,hop⟩:=D.get hp;rw [(D.S.step p op hop hc).2,MP];by_cases hdp:op.dst=some d
   ·have hl:d < (T p).length:=by rw [D.apS p (by omega)];exact hd
    rw [if_pos ⟨hdp,hl⟩];refine⟨λi o ho hdst hi=> ?_,λh=> absurd hdp (h p op hop (.inr (by omega)))⟩;rw [D.facts.apR i p o op d ho hop hdst hdp]
   ·rw [if_neg λh=> hdp h.1];refine⟨λi o ho hdst hi=> ih1 i o ho hdst ?_,λh=> ih2 λi o ho hi=> h i o ho (hi.imp id λh=> by omega)⟩;rcases hi with hi | hi
    ·exact .inl hi
    ·refine .inr ?_;have:i≠p:=λe=> by subst e;rw [ho] at hop;cases hop;exact hdp hdst
     omega
theorem Vj {p:Nat}(hp:p < ops.length)(hc:cst ops p=false)(hf:flo ops p=true):Hp (p+1)=Hp p:=by
 obtain⟨o,ho⟩:=D.get hp;obtain⟨h1,_⟩:=D.S.step p o ho hc;obtain⟨f1,f2⟩:=xg ho hf;unfold nO at h1;split at h1 <;> first | (cases h1;done) | skip
 ·rw [f2,zb8,if_neg zdG] at h1;exact(MN f1 h1).1
 ·simp only [zaa,zad] at h1;exact h1.2.symm
theorem step_next {p:Nat}(hp:p < ops.length):(Hp p).next<=(Hp (p+1)).next:=by
 cases hc:cst ops p with
 | true=> rw [(D.S.skip p hp hc).2];exact zac _
 | false=>
  obtain⟨o,ho⟩:=D.get hp;obtain⟨h1,_⟩:=D.S.step p o ho hc;unfold nO at h1;split at h1 <;> first | (cases h1;done) | skip
  ·split at h1
   ·exact(GL D.keeps h1).1.2.1
   ·exact(EZ D.keeps h1).next
  ·simp only [zaa,zad] at h1;rw [h1.2];exact zac _
def Zm {p:Nat}:∀k,p+k<=ops.length->(Hp p).next<=(Hp (p+k)).next:=by
 intro k
 induction k with
 |zero=>intro _;exact zac _
 |succ k b=>intro h;exact zax (b V) (D.step_next V)
def Zn {p q:Nat}(h:p<=q)(b:q<=ops.length):(Hp p).next<=(Hp q).next:=by
 have:=D.Zm (p:=p) (q-p) V
 rwa [show p+(q-p)=q by omega] at this
def adE {p:Nat}(b:p<=ops.length):H0.next<=(Hp p).next:=by
 have:=D.Zn (zaW p) b
 rwa [D.S.zero.2] at this
theorem GV {p:Nat}(hp:p < ops.length)(h:chn ops p=false):Hp (p+1)=Hp p:=by
 rcases kinds (ops:=ops) p with hc | ⟨hc,hf⟩ | hc
 ·exact(D.S.skip p hp hc).2
 ·exact D.Vj hp hc hf
 ·rw [hc] at h;cases h
def adF {e:Nat}:∀k,e+k<=ops.length->(∀i,e<=i->i<e+k->chn ops i=false)->Hp (e+k)=Hp e:=by
 intro k
 induction k with
 |zero=>intro _ _;rfl
 |succ k b=>
  intro hk h;show Hp (e+k+1)=Hp e;rw [D.GV V (h (e+k) V V)];exact b V λi d g=>h i d V
def Ea {e e':Nat}(h:e<=e')(b:e'<=ops.length)(d:∀i,e<=i->i<e'->chn ops i=false):Hp e'=Hp e:=by
 have:=D.adF (e:=e) (e'-e) V λi g j=>d i g V
 rwa [show e+(e'-e)=e' by omega] at this
theorem quiet_step {p:Nat}(hp:p < ops.length)(hc:chn ops p=true)(hq:uT (qX ops p)=true)(hl:loose ops p=true):∀r,r < (Hp p).next->(Hp (p+1)).get r=(Hp p).get r:=by
 obtain⟨o,ho⟩:=D.get hp;obtain⟨h1,_⟩:=D.S.step p o ho (GU hc).1;rw [vw ho] at hq;unfold nO at h1;split at h1 <;> first | (cases h1;done) | skip
 ·rw [hl,zaN] at h1;split at h1
  ·exact(GL D.keeps h1).1.2.2
  ·rename_i hcall;exact(TF hq (by simpa using hcall) h1).2.2
 ·simp only [zaa,zad] at h1;rw [h1.2];exact λ_ _=> rfl
theorem adG {k:Nat}(hk:k < ops.length)(hc:cst ops k=true):∀e,e<=ops.length->(∀i,i < e->chn ops i=true->nS ops k i=false)->(Hp e).get (nm k)=H0.get (nm k):=by
 intro e
 induction e with
 | zero=> intro _ _;rw [D.S.zero.2]
 | succ e ih=>
  intro he h;have ih:=ih (by omega) λi hi=> h i (by omega);cases hch:chn ops e with
  | false=> rw [D.GV (by omega) hch];exact ih
  | true=>
   have hb:=h e (by omega) hch;obtain⟨hqb,_⟩:=D.facts.loose k e hk (by omega) hc hch hb;have hl:loose ops e=true:=by
    unfold loose;refine zcG.2 ⟨k,zaZ.2 hk,?_⟩;rw [hc,hch,hb];simp
   obtain⟨o,ho,hge,hlt,_⟩:=D.names k hk hc;rcases hqb with hq | hq
   ·rw [D.quiet_step (by omega) hch hq hl (nm k) (zaz hlt (D.adE (by omega)))];exact ih
   ·have hmem:(k,e)∈mQ ops:=by
     unfold mQ;refine zaY.2 ⟨k,zaZ.2 hk,zaJ.2 ⟨e,zbp.2 ⟨zaZ.2 (by omega),?_⟩,rfl⟩⟩;rw [hc,hch,hb,hq];simp
    have ha:=D.agr _ hmem;unfold agree at ha;rw [if_pos hc] at ha;rw [ha (T e) (Hp e) (T (e+1)) (Hp (e+1)) (D.S.at_ _ (by omega)) (D.S.at_ _ (by omega)) (nm k) hge hlt];exact ih
theorem J3 {j:Nat}(hj:j < ops.length){r:Nat}(hw:lY (T j) (qX ops j)=some r){e1:Nat}(hr:r < (Hp e1).next):
  ∀k,e1+k<=ops.length->(∀i,e1<=i->i < e1+k->chn ops i=true->Xu ops j i=true)->(Hp (e1+k)).get r=(Hp e1).get r:=by
 intro k
 induction k with
 | zero=> intro _ _;rfl
 | succ k ih=>
  intro hk h;have ih:=ih (by omega) λi h1 h2=> h i h1 (by omega);show(Hp (e1+k+1)).get r=_;cases hch:chn ops (e1+k) with
  | false=> rw [D.GV (by omega) hch];exact ih
  | true=>
   have hu:=h (e1+k) (by omega) (by omega) hch;cases hq:uT (qX ops (e1+k)) with
   | true=>
    have hl:loose ops (e1+k)=true:=by
     unfold loose;refine zcG.2 ⟨j,zaZ.2 hj,?_⟩;rw [hu,zcZ]
    rw [D.quiet_step (by omega) hch hq hl r (zaz hr (D.Zn (by omega) (by omega)))];exact ih
   | false=>
    have hmem:(j,e1+k)∈mQ ops:=by
     unfold mQ;refine zaY.2 ⟨j,zaZ.2 hj,zaJ.2 ⟨e1+k,zbp.2 ⟨zaZ.2 (by omega),?_⟩,rfl⟩⟩;rw [hu,hq];rfl
    have hfl:flo ops j=true:=by
     unfold Xu at hu;simp only [zah] at hu;exact hu.1.1.1.2
    have ha:=D.agr _ hmem;unfold agree at ha;rw [if_neg (by rw [aic hfl];decide)] at ha;have:=ha (T j) (Hp j) (T (e1+k)) (Hp (e1+k)) (T (e1+k+1)) (Hp (e1+k+1)) (D.S.at_ j (by omega)) (D.S.at_ _ (by omega)) (D.S.at_ _ (by omega)) r hw;rw [this];exact ih
def afJ {i j:Nat}(q:cst ops j=false)(h:nS ops i j=true)(hi:cst ops i=false):i<=j:=by
 have:=vk (ops:=ops) (L:=λk=>cst ops k=true∨k<=j) (λk o m hk e p hb=>by
  obtain⟨_,g⟩:=D.facts.edges k o m e p hb;unfold Gt at g;by_cases d:cst ops k=true
  ·by_cases b:cst ops e.on=true
   ·exact .inl b
   ·simp only [zdo] at b;rw [d,b] at g;simp at g
  ·simp only [zdo] at d;have hk:k<=j:=hk.resolve_left (by simp [d]);by_cases b:cst ops e.on=true
   ·exact .inl b
   ·simp only [zdo] at b;rw [d,b] at g;simp at g;exact .inr V) i j h (.inr (zac _))
 rcases this with h|h
 ·rw [hi] at h;cases h
 ·exact h
end adD
abbrev Li(listed:Array Bool)(j:Nat):Prop:=listed.getD j false=true
structure Inv(ops:List Oper)(t:gJ)(Hp:Nat->ah)(val:Nat->AV)(nm:Nat->Nat)(H:ah)(ρ0:Ren)(w0:World)(a0:Act)(listed:Array Bool)(a:Act)(w:World)(e:Nat)(ρ:Ren):Prop where
 size:listed.size=ops.length
 down:∀j o,ops[j]?=some o->Li listed j->∀ed∈o.after,Region.binds .any ed=true->Li listed ed.on
 le:e<=ops.length
 chain:∀i,i<ops.length->chn ops i=true->(Li listed i↔i<e)
 rel:Rel ρ (Hp e) w
 none:∀k,k<ops.length->cst ops k=true->¬Li listed k->ρ (nm k)=none
 ext:Ext ρ0 H w0 ρ (Hp e) w
 Zo:a.tmps.size=t.length
 tmps:∀d,d<t.length->(∀j o,ops[j]?=some o->Li listed j->o.dst=some d->RV ρ (Hp e).gen w (val j) (a.tmps.getD d undef))/\
  ((∀j o,ops[j]?=some o->Li listed j->o.dst≠some d)->RV ρ (Hp e).gen w (t.getD d bg) (a.tmps.getD d undef))
 defers:a.defers=a0.defers
def wH {listed:Array Bool}{i j:Nat}:Li (listed.setIfInBounds i true) j↔Li listed j∨(j=i/\i<listed.size):=by
 unfold Li;by_cases e:i=j
 ·subst e;by_cases b:i<listed.size
  ·simp [b]
  ·simp [b]
 ·rw [getD_set_ne false e];simp [Ne.symm e]
section
variable {ρ0:Ren}{w0:World}{a0:Act}{listed:Array Bool}{a:Act}{w:World}{e:Nat}{ρ:Ren}
def zD {j:Nat}(hs:listed.size=ops.length)(b:∀j o,ops[j]?=some o->Li listed j->∀d∈o.after,Region.binds .any d=true->Li listed d.on)(h:j∈Region.ready .any ops.toArray listed):
  ∃o,ops[j]?=some o/\¬Li listed j/\(∀i,i≠j->nS ops i j=true->Li listed i)/\(∀i,nS ops j i=true->¬Li listed i)/\
   ∀k e,ops[k]?=some e->Li (listed.setIfInBounds j true) k->∀d∈e.after,Region.binds .any d=true->Li (listed.setIfInBounds j true) d.on:=by
 obtain⟨v,o,g,m⟩:=mem_ready.1 h;have g:ops[j]?=some o:=by simpa using g
 have z:=dS g;have p:¬Li listed j:=by
  unfold Li;rw [zcr] at v ⊢;rw [zbS V] at v ⊢;simp only [zaw] at v ⊢;simp [v]
 have q:∀k e,ops[k]?=some e->Li (listed.setIfInBounds j true) k->∀d∈e.after,Region.binds .any d=true->Li (listed.setIfInBounds j true) d.on:=by
  intro k e hk u d y hb;rcases wH.1 u with u|⟨rfl,_⟩
  ·exact wH.2 (.inl (b k e hk u d y hb))
  ·rw [g] at hk;cases hk;exact wH.2 (.inl (m d y hb))
 refine⟨o,g,p,λi w hb=>?_,λi hb u=>p (vk (L:=Li listed) b j i hb u),q⟩;have:=vk (L:=Li (listed.setIfInBounds j true)) q i j hb (wH.2 (.inr ⟨rfl,V⟩));rcases wH.1 this with h|⟨h,_⟩
 ·exact h
 ·exact absurd h w
variable (D:adD P C ops t H t0 H0 T Hp val nm)
include D
def as7(I:Inv ops t Hp val nm H ρ0 w0 a0 listed a w e ρ){j:Nat}{o:Oper}(F:ops[j]?=some o)(hc:cst ops j=false)(G:¬Li listed j)
  (A:∀i,i≠j->nS ops i j=true->Li listed i) (y:∀i,nS ops j i=true->¬Li listed i):TOn ρ (Hp e).gen w (· ∈o.looksAt ops.toArray) (T j) a:=by
 have hj:=dS F;have v:=D.apS j V;refine⟨by rw [I.Zo,v],λd hd K=>?_⟩;rw [v] at K;obtain⟨M,Q⟩:=I.tmps d K;obtain⟨R,W⟩:=D.akR j V d K;have C:∀x,(T j)[d]?=some x->(T j).getD d bg=x:=λx X=>by simp [List.getD,X]
 by_cases E:∃i k,ops[i]?=some k/\Li listed i/\k.dst=some d
 ·obtain⟨i,k,m,z,g⟩:=E;have q:i≠j:=λe=>G (e ▸ z);have b:cst ops i=true∨i<j:=by
   rcases D.facts.uses i j k o d q m F g hd with⟨_,h⟩|⟨h,_⟩
   ·unfold Gt at h;rw [hc] at h;cases u:cst ops i with
    |true=>exact .inl rfl
    |false=>rw [u] at h;simp at h;exact .inr h
   ·exact absurd z (y i h)
  rw [C _ (R i k m g b)];exact M i k m z g
 ·have p:∀i k,ops[i]?=some k->Li listed i->k.dst≠some d:=λi k h1 L h3=>E ⟨i,k,h1,L,h3⟩;have L:=W λi k m b g=>by
   have q:i≠j:=λe=>by
    subst e;rcases b with h|h
    ·rw [hc] at h;cases h
    ·omega
   rcases D.facts.uses i j k o d q m F g hd with⟨h,_⟩|⟨_,h⟩
   ·exact p i k m (A i q h) g
   ·unfold Gt at h;rw [hc] at h;cases u:cst ops i with
    |true=>rw [u] at h;simp at h
    |false=>
     rw [u] at h b;simp at h b;omega
  have:(T j).getD d bg=t.getD d bg:=by simp only [List.getD,L]
  rw [this];exact Q p
def Inv.on(I:Inv ops t Hp val nm H ρ0 w0 a0 listed a w e ρ){j:Nat}{o:Oper}(v:ops[j]?=some o)(Q:¬Li listed j)
  (y:∀k K,ops[k]?=some K->Li (listed.setIfInBounds j true) k->∀L∈K.after,Region.binds .any L=true->Li (listed.setIfInBounds j true) L.on)
  {e':Nat} (z:e'<=ops.length) (A:∀i,i<ops.length->chn ops i=true->(Li (listed.setIfInBounds j true) i↔i<e'))
  {ρ':Ren} {w':World} {cv:Value} (R:Rel ρ' (Hp e') w') (T:∀k,k<ops.length->cst ops k=true->¬Li (listed.setIfInBounds j true) k->ρ' (nm k)=Option.none)
  (E:Ext ρ0 H w0 ρ' (Hp e') w') (M:afG ρ (Hp e).gen w ρ' (Hp e').gen w') (hv:RV ρ' (Hp e').gen w' (val j) cv):Inv ops t Hp val nm H ρ0 w0 a0 (listed.setIfInBounds j true) (a.put o.dst cv) w' e' ρ' where
 size:=by rw [Array.size_setIfInBounds];exact I.size
 down:=y
 le:=z
 chain:=A
 rel:=R
 none:=T
 ext:=E
 Zo:=by rw [<-I.Zo];cases o.dst <;> simp [Act.put]
 tmps:=λd hd=>by
  obtain⟨W,X⟩:=I.tmps d hd;have C:d<a.tmps.size:=by rw [I.Zo];exact hd
  have hj:=dS v;by_cases b:o.dst=some d
  ·have m:(a.put o.dst cv).tmps.getD d undef=cv:=by rw [b];simp [Act.put,Array.getD,C]
   rw [m];refine⟨λi u g _ q=>?_,λh=>absurd b (h j o v (wH.2 (.inr ⟨rfl,by rw [I.size];exact hj⟩)))⟩;rw [D.facts.apR i j u o d g v q b];exact hv
  ·have m:(a.put o.dst cv).tmps.getD d undef=a.tmps.getD d undef:=by
    cases F:o.dst with
    |none=>rfl
    |some d'=>
     have G:d'≠d:=λe=>b (by rw [F,e]);simp [Act.put,zbC G]
   rw [m];refine⟨λi u g p q=>?_,λh=>RV.mono M _ _ (X λi u g p=>h i u g (wH.2 (.inl p)))⟩;rcases wH.1 p with p|⟨rfl,_⟩
   ·exact RV.mono M _ _ (W i u g p q)
   ·rw [v] at g;cases g;exact absurd q b
 defers:=by rw [<-I.defers];cases o.dst <;> rfl
end
end
def GX {ρ:Ren}{G:Nat->Nat}{w:World}{d:Nat}(h:ρ d=none)(co:Obj):afG ρ G w (updρ ρ d (w.heap.size,0)) G (w.alloc co) where
 mono:=λ_=>zac _
 same:=λx y b _=>by
  unfold updρ
  rw [if_neg (λe=>by subst e;rw [h] at b;cases b)];exact b
 imm:=λb hb hi=>by
  refine⟨by simp;omega,λx g b=>?_,λo=>cell?_of_block (by simp only [World.alloc,zbn,if_neg (zb4 hb)])⟩;unfold updρ at b;split at b
  ·cases b;omega
  ·exact hi x g b
 shape:=λb e m hb=>by
  have:=Gv hb;rw [fH] at hb ⊢
  simpa only [World.alloc,zbn,if_neg (zb4 this)] using hb
def XE {ρ:Ren}{H:ah}{w:World}(R:Rel ρ H w){g:Nat}(h:ρ g=none)(p:g<H.next){ty:TypeId}{z:List AV}{cs:Array Value}(m:H.get g=.blk 0 ty z)(j:ty<iw)(k:RVs ρ H.gen w z cs.toList):
  Rel (updρ ρ g (w.heap.size,0)) H (w.alloc (.cells cs ty)) where
 out:=λx d=>by
  unfold updρ
  rw [if_neg V];exact R.out x d
 obj:=λx b s d=>by
  have M:=GX (G:=H.gen) (w:=w) h (.cells cs ty);unfold updρ at d;by_cases e:x=g
  ·subst e;simp at d;obtain⟨rfl,rfl⟩:=d;rw [m];refine⟨cs,ty,kE w _,?_,?_,Xct.low j (by have:=dR k;rw [bP] at this;omega)⟩
   ·have:=dR k;simp at this;omega
   ·refine rY (kE w _) λi x d=>?_;obtain⟨v,hv,o⟩:=jT k d;exact⟨v,by simpa using hv,RV.mono M _ _ o⟩
  ·rw [if_neg e] at d;have hb:=R.block d;exact zq.mono M (by simp only [World.alloc,zbn,if_neg (zb4 hb)]) (R.obj x b s d)
 inj:=λx y q s u d i=>by
  unfold updρ at d i;split at d <;> split at i
  ·simp_all
  ·cases d;have:=R.block i;omega
  ·cases i;have:=R.block d;omega
  ·exact R.inj _ _ _ _ _ d i
 gl:=R.gl.of O (λx b s d=>by
  unfold updρ at d;split at d
  ·cases d;exact .inl (zac _)
  ·exact .inr ⟨_,_,d⟩) (λb hb _=>by simp only [World.alloc,zbn,if_neg (zb4 hb)])
def XF {ρ0 ρ:Ren}{H0 H:ah}{w0 w:World}(E:Ext ρ0 H0 w0 ρ H w){r0:Nat}(h0:H0.next<=r0)(hn:ρ r0=none)(co:Obj):Ext ρ0 H0 w0 (updρ ρ r0 (w.heap.size,0)) H (w.alloc co) where
 next:=E.next
 mono:=E.mono
 same:=λx y hx hg=>by
  have h1:=E.same x y hx hg;unfold updρ
  rw [if_neg (λe=>by subst e;rw [hn] at h1;cases h1)];exact h1
 kept:=λx hx h=>by
  unfold updρ
  rw [if_neg (by omega)];exact E.kept x hx h
 range:=λx b s hx=>by
  unfold updρ at hx;split at hx
  ·cases hx;exact .inl E.size
  ·exact E.range x b s hx
 size:=by simp;have:=E.size;omega
 frame:=λb hb hi=>by
  have:=E.size;rw [<-E.frame b hb hi];simp only [World.alloc,zbn,if_neg (show¬b=w.heap.size by omega)]
 shape:=λb hb=>by
  have:=E.size;rw [<-E.shape b hb,fH,fH];simp only [World.alloc,zbn,if_neg (show¬b=w.heap.size by omega)]
 os:=E.os
 tape:=E.tape
 output:=E.output
def Qi {ρ:Ren}{H H0:ah}{w:World}(R:Rel ρ H w)(F:TB H H0)(g:∀r,H.next<=r->H.gen r=0->H0.gen r=0):H0.gen=H.gen/\Rel ρ H0 w/\Ext ρ H w ρ H0 w:=by
 have d:H0.gen=H.gen:=by
  funext r
  rcases zaR r H.next with h|h
  ·simp only [ah.gen,F.2.2 r h]
  ·rw [g r h (R.out r h).2,(R.out r h).2]
 have E:=Ext.refl ρ H w;refine⟨d,⟨λr e=>⟨(R.out r (zax F.2.1 e)).1,by rw [d];exact(R.out r (zax F.2.1 e)).2⟩,λr b i h=>?_,R.inj,R.gl⟩,
  ⟨F.2.1,λr=>by rw [d];exact zac _,λr x h _=>h,E.kept,E.range,E.size,E.frame,E.shape,E.os,E.tape,E.output⟩⟩
 rw [d,F.2.2 r (R.lt h)];exact R.obj r b i h
section
variable {P:Program}{C:aC}{ops:List Oper}{t:gJ}{H:ah}{t0:gJ}{H0:ah}{T:Nat->gJ}{Hp:Nat->ah}{val:Nat->AV}{nm:Nat->Nat}
variable {ρ0:Ren}{w0:World}{a0:Act}{listed:Array Bool}{a:Act}{w:World}{e:Nat}{ρ:Ren}
def TJ {j k:Nat}(h:¬Li (listed.setIfInBounds j true) k):¬Li listed k:=λhl=>h (wH.2 (.inl hl))
def GY {j i:Nat}(b:i≠j):Li (listed.setIfInBounds j true) i↔Li listed i:=by
 rw [wH];exact⟨λh=>h.resolve_right λh=>b h.1,.inl⟩
theorem adH(hC:rQ P C)(D:adD P C ops t H t0 H0 T Hp val nm)(I:Inv ops t Hp val nm H ρ0 w0 a0 listed a w e ρ){j:Nat}(hr:j∈Region.ready .any ops.toArray listed){K:Act->World->Prop}{Q:Exit->Act->World->Prop}
  (hK:∀a' w' e' ρ',Inv ops t Hp val nm H ρ0 w0 a0 (listed.setIfInBounds j true) a' w' e' ρ'->K a' w'):wpOp P ops.toArray Q j K a w:=by
 obtain⟨o,ho,hnl,hpre,hpost,hd2⟩:=zD I.size I.down hr;have hj:=dS ho;rcases kinds (ops:=ops) j with hc | ⟨hc,hf⟩ | hc
 ·-- new memory
  obtain⟨o',ho',n1,n2,⟨ty,z,mk,hval,hob,hrun⟩,_⟩:=D.names j hj hc;rw [ho] at ho';cases ho';obtain⟨hg,_⟩:=D.facts.const j o ho hc;obtain⟨cs,cv,h1,⟨h2,hty⟩,h3⟩:=hrun ρ (Hp e).gen w a;have hun:=I.none j hj hc hnl;have wG:(Hp e).get (nm j)=.blk 0 ty z:=by
   rw [<-hob];refine D.adG hj hc e I.le λi hi hch=> ?_;have hli:=(I.chain i (by have:=I.le;omega) hch).2 hi;cases hb:nS ops j i with
   | false=> rfl
   | true=> exact absurd hli (hpost i hb)
  have hgen:(Hp e).gen (nm j)=0:=by simp [ah.gen,wG,gG.gen]
  unfold wpOp;have hoa:ops.toArray[j]?=some o:=by simpa using ho
  simp only [hoa,Region.wanted,hg,if_true];left;unfold Oper.wp;rw [h1];simp only [Oper.upon];refine hK _ _ e (updρ ρ (nm j) (w.heap.size,0)) (Inv.on D I ho hnl hd2 I.le (λi hi hch=> ?_)
   (XE I.rel hun (zaz n2 (D.adE I.le)) wG hty h2) (λk hk hck hkl=> ?_) (XF I.ext n1 hun _) (GX hun _) ?_)
  ·rw [GY (λe=> by subst e;rw [(GU hch).1] at hc;cases hc)];exact I.chain i hi hch
  ·have hkl':=TJ hkl;have hne:nm k≠nm j:=λe=> by
    have:=D.inj k j hk hj hck hc e;subst this;exact hkl (wH.2 (.inr ⟨rfl,by rw [I.size];exact hk⟩))
   unfold updρ
   rw [if_neg hne];exact I.none k hk hck hkl'
  ·rw [hval];exact h3 _ _ (nm j) hgen (by simp [updρ])
 ·-- it changes nothing
  have T0:=as7 D I ho hc hnl hpre hpost;obtain⟨s1,_⟩:=D.S.step j o ho hc;obtain⟨f1,f2⟩:=xg ho hf;have hsame:L6 o.op=true->∀r,lY (T j) o.op=some r->(Hp e).get r=(Hp j).get r:=by
   intro hlk r hw;have hre:r < (Hp e).next:=Vh (λx hx=> RV.nv I.rel.out _ _ (T0.eval x hx)) hw
   have hrj:r < (Hp j).next:=Vh (λx _=> adC (D.ghost j (by omega)) x) hw
   have hw':lY (T j) (qX ops j)=some r:=by rw [vw ho];exact hw
   have hle:=I.le;have hun:∀i,i < ops.length->chn ops i=true->nS ops i j=false->nS ops j i=false->Xu ops j i=true:=by
    intro i _ hch hb1 hb2;unfold Xu;rw [hch,hf,vw ho,hlk,hb2,hb1];rfl
   rcases Nat.le_total e j with hej | hje
   ·have:=D.J3 hj hw' hre (j - e) (by omega) λi h1 h2 hch=> by
     have hil:¬Li listed i:=λhl=> by have:=(I.chain i (by omega) hch).1 hl;omega
     have hne:i≠j:=by omega
     refine hun i (by omega) hch ?_ ?_
     ·cases hb:nS ops i j with
      | false=> rfl
      | true=> exact absurd (hpre i hne hb) hil
     ·cases hb:nS ops j i with
      | false=> rfl
      | true=> have:=D.afJ (GU hch).1 hb hc;omega
    rw [show e+(j - e)=j by omega] at this;exact this.symm
   ·have:=D.J3 hj hw' hrj (e - j) (by omega) λi h1 h2 hch=> by
     have hil:Li listed i:=(I.chain i (by omega) hch).2 (by omega);have hne:i≠j:=λe=> by subst e;rw [(GU hch).2] at hf;cases hf
     refine hun i (by omega) hch ?_ ?_
     ·cases hb:nS ops i j with
      | false=> rfl
      | true=> have:=D.afJ hc hb (GU hch).1;omega
     ·cases hb:nS ops j i with
      | false=> rfl
      | true=> exact absurd hil (hpost i hb)
    rw [show j+(e - j)=e by omega] at this;exact this
  have hs:nO P C ops (loose ops j && nK o.op) o (T j) (Hp e)=some (val j,Hp e):=by
   have atD:=D.Vj hj hc hf;rw [atD] at s1;unfold nO at s1 ⊢;split at s1 <;> first | (cases s1;done) | skip
   ·rw [f2,zb8,if_neg zdG] at s1;simp only [f2,zb8,if_neg zdG];exact(MN f1 s1).2 (Hp e) hsame
   ·simp only [zaa,zad] at s1 ⊢;exact⟨s1.1,trivial⟩
  refine MQ hC hs I.rel T0 ho λcv ρ' w' r1 r2 r3=> hK _ _ e ρ' (Inv.on D I ho hnl hd2 I.le (λi hi hch=> ?_) r1 (λk hk hck hkl=> ?_) (I.ext.trans r3) r3.toMono r2)
  ·rw [GY (λe=> by subst e;rw [(GU hch).2] at hf;cases hf)];exact I.chain i hi hch
  ·obtain⟨_,_,_,n2,_⟩:=D.names k hk hck;exact r3.kept _ (zaz n2 (D.adE I.le)) (I.none k hk hck (TJ hkl))
 ·-- the chain
  have hcc:=(GU hc).1;have T0:=as7 D I ho hcc hnl hpre hpost;obtain⟨s1,_⟩:=D.S.step j o ho hcc;have hej:e<=j:=by
   rcases zaR j e with h | h
   ·exact absurd ((I.chain j hj hc).2 h) hnl
   ·exact h
  have hH:Hp j=Hp e:=D.Ea hej (by omega) λi h1 h2=> by
   cases hch:chn ops i with
   | false=> rfl
   | true=>
    have:=hpre i (by omega) (D.facts.chain i j h2 hj hch hc);have:=(I.chain i (by omega) hch).1 this;omega
  rw [hH] at s1;refine MQ hC s1 I.rel T0 ho λcv ρ' w' r1 r2 r3=> hK _ _ (j+1) ρ' (Inv.on D I ho hnl hd2 hj (λi hi hch=> ?_) r1 (λk hk hck hkl=> ?_) (I.ext.trans r3) r3.toMono r2)
  ·by_cases e1:i=j
   ·subst e1;exact⟨λ_=> by omega,λ_=> wH.2 (.inr ⟨rfl,by rw [I.size];exact hi⟩)⟩
   ·rw [GY e1];refine⟨λhl=> by have:=(I.chain i hi hch).1 hl;omega,λhlt=> hpre i e1 (D.facts.chain i j (by omega) hj hch hc)⟩
  ·obtain⟨_,_,_,n2,_⟩:=D.names k hk hck;exact r3.kept _ (zaz n2 (D.adE I.le)) (I.none k hk hck (TJ hkl))
def unl:List Bool->Nat
 |[]=>0
 |true::l=>unl l
 |false::l=>unl l+1
def Zp:∀(l:List Bool) (i:Nat),l[i]?=some false->unl (l.set i true)+1=unl l
 |[],i,h=>by simp at h
 |b::l,0,h=>by simp at h;subst h;simp [unl]
 |b::l,i+1,h=>by
  simp at h;have:=Zp l i (by simpa using h);cases b <;> simp [unl] <;> omega
def Vk:∀(l:List Bool),unl l=0->∀(i:Nat),i<l.length->l[i]?=some true
 |[],_,i,hi=>by simp at hi
 |b::l,h,0,_=>by cases b <;> simp_all [unl]
 |b::l,h,i+1,hi=>by
  have d:unl l=0:=by cases b <;> simp_all [unl]
  simpa using Vk l d i (by simpa using hi)
def akS {j:Nat}(b:j<listed.size):Li listed j↔listed.toList[j]?=some true:=by
 unfold Li;simp [Array.getD,b]
def XG {j:Nat}(b:j<listed.size):¬Li listed j↔listed.toList[j]?=some false:=by
 unfold Li;simp [Array.getD,b]
def aie {p:Nat->Prop}:∀n,p n->∃m,p m/\∀i,i<m->¬p i:=by
 intro n
 induction n using Nat.strongRecOn with
 |ind n d=>
  intro e;by_cases h:∃i,i<n/\p i
  ·obtain⟨i,hi,b⟩:=h;exact d i hi b
  ·exact⟨n,e,λi hi b=>h ⟨i,hi,b⟩⟩
def Qj(F:GN ops)(hs:listed.size=ops.length){k:Nat}(hk:k<ops.length)(z:¬Li listed k):Region.ready .any ops.toArray listed≠[]:=by
 have key:∀m,m<ops.length->¬Li listed m->(∀o,ops[m]?=some o->∀e∈o.after,Region.binds .any e=true->Li listed e.on)->Region.ready .any ops.toArray listed≠[]:=by
  intro m hm v q u;have:m∈Region.ready .any ops.toArray listed:=by
   refine mem_ready.2 ⟨?_,ops[m]'hm,by simp [hm],λe i A=>q _ (zab hm) e i A⟩;unfold Li at v;rw [zcr] at v ⊢;rw [zbS V] at v ⊢
   simpa using v
  rw [u] at this;cases this
 by_cases g:∃m,m<ops.length/\cst ops m=true/\¬Li listed m
 ·obtain⟨m,hm⟩:=g;obtain⟨m,⟨i,A,w⟩,d⟩:=aie (p:=λm=>m<ops.length/\cst ops m=true/\¬Li listed m) m hm;refine key m i w λo C e q hb=>?_;obtain⟨y,b⟩:=F.edges m o C e q hb;unfold Gt at b;rw [A] at b;cases h:cst ops e.on with
  |false=>rw [h] at b;simp at b
  |true=>
   rw [h] at b;simp at b;by_cases j:Li listed e.on
   ·exact j
   ·exact absurd ⟨y,h,j⟩ (d e.on b)
 ·obtain⟨m,⟨i,w⟩,d⟩:=aie (p:=λm=>m<ops.length/\¬Li listed m) k ⟨hk,z⟩;refine key m i w λo C e q hb=>?_;obtain⟨y,b⟩:=F.edges m o C e q hb;by_cases j:Li listed e.on
  ·exact j
  ·exfalso;have D:cst ops m=false:=by cases hc:cst ops m with
    |false=>rfl
    |true=>exact absurd ⟨m,i,hc,w⟩ g
   have E:cst ops e.on=false:=by cases hc:cst ops e.on with
    |false=>rfl
    |true=>exact absurd ⟨_,y,hc,j⟩ g
   unfold Gt at b;rw [D,E] at b;simp at b;exact d e.on b ⟨y,j⟩
def aif(D:adD P C ops t H t0 H0 T Hp val nm)(I:Inv ops t Hp val nm H ρ0 w0 a0 listed a w e ρ)(j:∀i,i<ops.length->Li listed i):
  Rel ρ (Hp ops.length) w/\TOn ρ (Hp ops.length).gen w (λ_=>True) (T ops.length) a/\Ext ρ0 H w0 ρ (Hp ops.length) w:=by
 have p:Hp ops.length=Hp e:=D.Ea I.le (zac _) λi b g=>by
  cases m:chn ops i with
  |false=>rfl
  |true=>have:=(I.chain i g m).1 (j i g);omega
 rw [p];refine⟨I.rel,⟨by rw [I.Zo,D.apS _ (zac _)],λd _ hd=>?_⟩,I.ext⟩;rw [D.apS _ (zac _)] at hd;obtain⟨q,u⟩:=I.tmps d hd;obtain⟨v,y⟩:=D.akR _ (zac _) d hd;by_cases k:∃(i:Nat) (h:Oper),ops[i]?=some h/\h.dst=some d
 ·obtain⟨i,h,b,g⟩:=k;have o:=v i h b g (.inr (dS b));have:(T ops.length).getD d bg=val i:=by simp [List.getD,o]
  rw [this];exact q i h b (j i (dS b)) g
 ·have o:=y λi h b _ g=>k ⟨i,h,b,g⟩;have:(T ops.length).getD d bg=t.getD d bg:=by simp only [List.getD,o]
  rw [this];exact u λi h b _ g=>k ⟨i,h,b,g⟩
def afK(v:rQ P C)(D:adD P C ops t H t0 H0 T Hp val nm){Q:Exit->Act->World->Prop}
  (y:∀a' ρ' w',Rel ρ' (Hp ops.length) w'->TOn ρ' (Hp ops.length).gen w' (λ_=>True) (T ops.length) a'->Ext ρ0 H w0 ρ' (Hp ops.length) w'->a'.defers=a0.defers->Q .normal a' w'):
  ∀(b:Nat) (listed:Array Bool) (a:Act) (w:World) (e:Nat) (ρ:Ren),unl listed.toList<=b->Inv ops t Hp val nm H ρ0 w0 a0 listed a w e ρ->wpAny P .any ops.toArray Q b listed a w:=by
 have h:∀(listed:Array Bool) (a:Act) (w:World) (e:Nat) (ρ:Ren),Inv ops t Hp val nm H ρ0 w0 a0 listed a w e ρ->Region.ready .any ops.toArray listed=[]->Q .normal a w:=by
  intro listed a w e ρ I d;have k:∀i,i<ops.length->Li listed i:=λi hi=>by
   by_cases u:Li listed i
   ·exact u
   ·exact absurd d (Qj D.facts I.size hi u)
  obtain⟨z,A,E⟩:=aif D I k;exact y a ρ w z A E I.defers
 intro b
 induction b with
 |zero=>
  intro listed a w e ρ F I;have d:Region.ready .any ops.toArray listed=[]:=by
   cases G:Region.ready .any ops.toArray listed with
   |nil=>rfl
   |cons j R=>
    obtain⟨o,p,g,_⟩:=zD I.size I.down (j:=j) (by rw [G];simp);have m:j<listed.size:=by rw [I.size];exact dS p
    exact absurd ((akS m).2 (Vk _ V j (by simpa using m))) g
  exact⟨d,h listed a w e ρ I d⟩
 |succ b K=>
  intro listed a w e ρ F I;refine⟨h listed a w e ρ I,λj m=>adH v D I m λa' w' L ρ' M=>K _ a' w' L ρ' ?_ M⟩;obtain⟨o,p,g,_⟩:=zD I.size I.down m;have q:j<listed.size:=by rw [I.size];exact dS p
  have:=Zp _ j ((XG q).1 g);rw [Array.toList_setIfInBounds];omega
def Ar(n:Nat):unl (List.replicate n false)=n:=by
 induction n with
 |zero=>rfl
 |succ n b=>simp [List.replicate_succ,unl,b]
def aii(hC:rQ P C)(hKC:kW C)(hm:P.follows .mixedOrders=true){id:Nat}{t':gJ}{H':ah}(h:zx P C ops t H=some (t',H'))(R:Rel ρ H w)(TR:TOn ρ H.gen w (λ_=>True) t a){Q:Exit->Act->World->Prop}
  (hQ:∀a' ρ' w',Rel ρ' H' w'->TOn ρ' H'.gen w' (λ_=>True) t' a'->Ext ρ H w ρ' H' w'->a'.defers=a.defers->Q .normal a' w'):(Code.region id ops.toArray true).wp P Q a w:=by
 unfold zx at h;split at h <;> first|(cases h;done)|skip
 rename_i hok;split at h <;> first|(cases h;done)|skip
 rename_i t0 H0 hcr;obtain⟨hrun,aqm⟩:gy P C ops (nT ops) t0 H0=some (t',H')/\∀p∈mQ ops,agree P C ops H.next t0 H0 p:=by
  split at h
  ·rename_i he;rw [he];exact⟨h,O⟩
  ·split at h <;> first|(cases h;done)|skip
   rename_i ha;exact⟨h,ha⟩
 have F:=D9 hok;have hmem:∀j,j∈pR ops↔j<ops.length/\cst ops j=true:=λj=>by simp [pR,zbp,zaZ]
 obtain⟨hf,hg,hlen,nm,vl,h1,h2,h3⟩:=vC (pR ops) t H t0 H0 (List.nodup_range.filter _) (λj hj=>((hmem j).1 hj).2)
  (λi _ j _ oi oj d a1 a2 a3 a4=>F.apR i j oi oj d a1 a2 a3 a4) hcr
 obtain⟨T,Hp,val,S,hend,hval⟩:=JY hrun vl;obtain⟨hgen,RH0,EH0⟩:=Qi R hf hg;obtain⟨ρ1,w1,a1,g1,g2⟩:=zC hC _ _ _ _ _ ρ w a hcr R TR;have D:adD P C ops t H t0 H0 T Hp val nm:={
  facts:=F
  S:=S
  names:=λj hj hc=>by
   obtain⟨o,q1,q2,q3,q4,q5⟩:=h1 j ((hmem j).2 ⟨hj,hc⟩);exact⟨o,q1,q2,q3,by rw [hval j hc];exact q4,λd hd hl=>by rw [hval j hc];exact q5 d hd hl⟩
  inj:=λi j hi hj ci cj e=>h2 i ((hmem i).2 ⟨hi,ci⟩) j ((hmem j).2 ⟨hj,cj⟩) e
  rest:=λd hd=>h3 d λj hj o ho=>hd j ((hmem j).1 hj).2 o ho
  len:=hlen
  fresh:=hf
  as6:=hg
  agr:=aqm
  ghost:=λp hp d=>by
   obtain⟨ρ2,w2,a2,r1,r2⟩:=JZ hC S g1 g2 p hp;exact RV.nv r1.out _ _ (r2.any d trivial)
  keeps:=hKC }
 have e1:T ops.length=t':=by rw [<-Prod.mk.inj hend |>.1]
 have e2:Hp ops.length=H':=by rw [<-Prod.mk.inj hend |>.2]
 refine wp_region_any hm ?_;have hli:∀j,¬Li (Array.replicate ops.toArray.size false) j:=λj=>by
  unfold Li;simp [Array.getD]
 refine afK hC D (a0:=a) (λa' ρ' w' q1 q2 q3 q4=>hQ a' ρ' w' (by rw [<-e2];exact q1) (by rw [<-e1,<-e2];exact q2) (by rw [<-e2];exact q3) q4) ops.toArray.size _ a w.drew 0 ρ (by simp [Ar]) ?_;refine⟨O,λj o _ hl=>absurd hl (hli j),zaW _,λi _ _=>⟨λhl=>absurd hl (hli i),λh=>V⟩,by rw [S.zero.2];exact RH0.drew,λk hk hc _=>?_,?_,TR.size,λd hd=>⟨λj o _ hl=>absurd hl (hli j),λ_=>?_⟩,rfl⟩
 ·obtain⟨_,_,q1,_⟩:=D.names k hk hc;exact(R.out _ q1).1
 ·rw [S.zero.2];exact EH0.trans (Ext.drew ρ H0 w)
 ·rw [S.zero.2,hgen];exact RV.mono (Ext.drew ρ H w).toMono _ _ (TR.get d trivial hd)
end
section
variable {ρ ρ1:Ren}{G:Nat->Nat}{H1:ah}{w1:World}{n:Nat}
def Au {f:AV->Option AV}(j:∀x k cv,f x=some k->RV ρ1 H1.gen w1 x cv->RV ρ G w1 k cv):∀(xs d:List AV) (l:List Value),xs.mapM f=some d->RVs ρ1 H1.gen w1 xs l->RVs ρ G w1 d l
 |[],d,l,h,e=>by
  simp at h;subst h
  simpa only [RVs] using e
 |x::xs,d,l,h,e=>by
  rw [zby] at h;cases g:f x with
  |none=>rw [g] at h;cases h
  |some y=>
   rw [g] at h;cases i:xs.mapM f with
   |none=>rw [i] at h;cases h
   |some m=>
    rw [i] at h;simp only [zcm,za0,zcN,zaa] at h;subst h;simp only [RVs] at e ⊢;obtain⟨v,vs,rfl,a,b⟩:=e;exact⟨v,vs,rfl,j _ _ _ g a,Au j xs m vs i b⟩
def E8 {f:AV->Option AV}(k:∀x m cv,f x=some m->RV ρ1 H1.gen w1 x cv->RV ρ G w1 m cv):∀(xs d:List AV) (b o:Nat),xs.mapM f=some d->RVc ρ1 H1.gen w1 xs b o->RVc ρ G w1 d b o
 |[],d,b,o,h,g=>by
  simp at h;subst h;simp only [RVc]
 |x::xs,d,b,o,h,g=>by
  rw [zby] at h;cases i:f x with
  |none=>rw [i] at h;cases h
  |some y=>
   rw [i] at h;cases j:xs.mapM f with
   |none=>rw [j] at h;cases h
   |some p=>
    rw [j] at h;simp only [zcm,za0,zcN,zaa] at h;subst h;simp only [RVc] at g ⊢;obtain⟨⟨v,e,a⟩,c⟩:=g;exact⟨⟨v,e,k _ _ _ i a⟩,E8 k xs p b (o+1) j c⟩
def zF {f:AV->Option AV}:∀(xs b:List AV),xs.mapM f=some b->b.length=xs.length
 |[],b,h=>by simp at h;subst h;rfl
 |x::xs,b,h=>by
  rw [zby] at h;cases e:f x with
  |none=>rw [e] at h;cases h
  |some y=>
   rw [e] at h;cases d:xs.mapM f with
   |none=>rw [d] at h;cases h
   |some g=>
    rw [d] at h;simp only [zcm,za0,zcN,zaa] at h;subst h;simp [zF xs g d]
def Zq(X:Rel ρ1 H1 w1)(j:∀r,r<n->ρ r=ρ1 r/\G r=H1.gen r)(w:∀r,n<=r->ρ r=none):
  ∀(d:Nat) (x F:AV) (cv:Value),bW H1 n d x=some F->RV ρ1 H1.gen w1 x cv->RV ρ G w1 F cv:=by
 have y:∀b,Imm ρ1 b->Imm ρ b:=by
  intro b hi r H m;rcases zaR r n with h|h
  ·rw [(j r h).1] at m;exact hi r H m
  ·rw [w r h] at m;cases m
 intro d
 induction d with
 |zero=>intro x F cv h;cases h
 |succ d u=>
  intro x F cv h hv;cases x with
  |s v=>simp only [bW,zaa] at h;subst h;simpa only [RV] using hv
  |ref r g off=>
   simp only [bW] at h;split at h <;> first|(cases h;done)|skip
   rename_i m;simp only [zaa] at h;subst h;obtain⟨z,A⟩:=j r m;simp only [RV] at hv ⊢;rw [z,A];exact hv
  |mp r=>
   simp only [bW] at h;split at h <;> first|(cases h;done)|skip
   rename_i m;simp only [zaa] at h;subst h;obtain⟨z,A⟩:=j r m;simp only [RV] at hv ⊢;rw [z,A];exact hv
  |sl r g off C len ab ex=>
   simp only [bW] at h;split at h
   ·rename_i m;simp only [zaa] at h;subst h;obtain⟨z,A⟩:=j r m;simp only [RV] at hv ⊢;rw [z,A];exact hv
   ·rename_i m;split at h <;> first|(cases h;done)|skip
    rename_i cells i;cases hm:cells.mapM (bW H1 n d) with
    |none=>rw [hm] at h;cases h
    |some l=>
     rw [hm] at h;simp only [zaj,zaa] at h;subst h;simp only [dF] at i;split at i <;> first|(cases i;done)|skip
     rename_i g' ty all ho;split at i <;> first|(cases i;done)|skip
     rename_i hc;obtain⟨rfl,ad⟩:=hc;simp only [zaa] at i;simp only [RV] at hv ⊢;obtain⟨b,o,c,rfl,q1,q2,q3,q4,q5⟩:=hv;obtain⟨H,e,k,D,K,ae,aa⟩:=q5 (by simp [ah.gen,ho,gG.gen]);have wG:=X.obj r b H D;simp only [zq,ho] at wG;obtain⟨cs,e',hb,hz,L,_⟩:=wG;have M:cells.length=len*C:=by rw [<-i];simp;omega
     refine⟨b,o,c,rfl,V,by rw [zF _ _ hm,M],oP hb,λr' Q p=>?_,?_⟩
     ·rcases zaR r' n with R|R
      ·rw [(j r' R).1] at p;have:=X.inj r' r b Q H p D;omega
      ·rw [w r' R] at p;cases p
     ·refine E8 u cells l b o hm ?_;by_cases h0:c=0
      ·have:len=0:=V
       subst this;rw [<-i];simp [RVc]
      ·rw [K V,<-i];exact uU _ (rX off L)
  |ip cells=>
   simp only [bW] at h;cases hm:cells.mapM (bW H1 n d) with
   |none=>rw [hm] at h;cases h
   |some l=>
    rw [hm] at h;simp only [zaj,zaa] at h;subst h;simp only [RV] at hv ⊢;obtain⟨b,o,e,q,E,T⟩:=hv;exact⟨b,o,e,q,y b E,E8 u cells l b o hm T⟩
  |vs k C cells=>
   simp only [bW] at h;cases hm:cells.mapM (bW H1 n d) with
   |none=>rw [hm] at h;cases h
   |some l=>
    rw [hm] at h;simp only [zaj,zaa] at h;subst h;simp only [RV] at hv ⊢;obtain⟨b,o,c,e,h0,W,q,E,T⟩:=hv;exact⟨b,o,c,e,h0,by rw [zF _ _ hm];exact W,q,y b E,E8 u cells l b o hm T⟩
  |fn f a c=>
   simp only [bW] at h;split at h <;> first|(cases h;done)|skip
   rename_i a' c' ha hc;simp only [zaa] at h;subst h;simp only [RV] at hv ⊢;obtain⟨a0,c0,e,q,E⟩:=hv;exact⟨a0,c0,e,Au u _ _ _ ha q,Au u _ _ _ hc E⟩
  |agg cells=>
   simp only [bW] at h;cases hm:cells.mapM (bW H1 n d) with
   |none=>rw [hm] at h;cases h
   |some l=>
    rw [hm] at h;simp only [zaj,zaa] at h;subst h;simp only [RV] at hv ⊢;obtain⟨cs,e,q⟩:=hv;exact⟨cs,e,Au u _ _ _ hm q⟩
  |tup cells=>
   simp only [bW] at h;cases hm:cells.mapM (bW H1 n d) with
   |none=>rw [hm] at h;cases h
   |some l=>
    rw [hm] at h;simp only [zaj,zaa] at h;subst h;simp only [RV] at hv ⊢;obtain⟨cs,e,q⟩:=hv;exact⟨cs,e,Au u _ _ _ hm q⟩
end
def Zr {ρ ρ1:Ren}{H H1:ah}{w w1:World}(R:Rel ρ H w)(K:Keeps H.guard H1)(R1:Rel ρ1 H1 w1)(E:Ext ρ H w ρ1 H1 w1){d:Nat}{x x':AV}{cv:Value}
  (hf:bW H1 H.next d x=some x') (hv:RV ρ1 H1.gen w1 x cv):Rel ρ H w1/\RV ρ H.gen w1 x' cv/\Ext ρ H w ρ H w1:=by
 have hget:∀r,r<H.next->H1.get r=H.get r:=λr hr=>K.get r hr hr
 have hgen:∀r,r<H.next->H1.gen r=H.gen r:=λr hr=>by simp only [ah.gen,hget r hr]
 have hlt:∀r,r<H.next->ρ r=ρ1 r/\H.gen r=H1.gen r:=by
  intro r hr;refine⟨?_,(hgen r hr).symm⟩;cases h:ρ r with
  |none=>exact(E.kept r hr h).symm
  |some x=>exact(E.same r x h (hgen r hr)).symm
 have hge:∀r,H.next<=r->ρ r=none:=λr hr=>(R.out r hr).1
 have hfr:=Zq (G:=H.gen) R1 hlt hge d x x' cv hf hv;have hE:Ext ρ H w ρ H w1:=⟨zac _,λ_=>zac _,λ_ _ h _=>h,λ_ _ h=>h,λ_ _ sh h=>.inr ⟨sh,h⟩,E.size,E.frame,E.shape,E.os,E.tape,E.output⟩
 refine⟨⟨R.out,λr b sh h=>?_,R.inj,R.gl.ext hE⟩,hfr,hE⟩;have hr:=R.lt h;have h1:=R1.obj r b sh (by rw [<-(hlt r hr).1];exact h);rw [hget r hr] at h1;have h0:=R.obj r b sh h
 -- the object as it was,in the new world
 have hB:Back H.next ρ1 H1.gen ρ H.gen:=⟨λr hr=>(hgen r hr).symm,λr hr=>.inr (hlt r hr).1,λr x hx=>by
  have:=R.lt (b:=x.1) (sh:=x.2) hx;rw [<-(hlt r this).1];exact hx⟩
 unfold zq at h1 h0 ⊢;cases ho:H.get r with
 |blk g ty cells=>
  rw [ho] at h1 h0;obtain⟨cs,e,q1,q2,q3⟩:=h1;obtain⟨_,_,_,_,z3,_⟩:=h0;exact⟨cs,e,q1,q2,RVc.back hB R.out cells b sh b sh z3 q3.1,q3.2⟩
 |map k es=>
  rw [ho] at h1 h0;obtain⟨ces,dh,q1,q2,q3⟩:=h1;obtain⟨_,_,_,_,z3,_⟩:=h0;exact⟨ces,dh,q1,q2,RVm.back hB R.out es _ _ z3 q3.1,q3.2⟩
inductive Ex where
 |normal
 |exit (id:Nat)
 |ret
def Ex.to:Ex->Exit
 |.normal=>.normal
 |.exit id=>.exit id
 |.ret=>.ret
abbrev Res:=Option (Ex × gJ × ah)
abbrev Run:=gJ->ah->Res
def tC(r:Res)(k:Run):Res:=
 match r with
 |some (.normal,t,H)=>k t H
 |some (.exit i,t,H)=>some (.exit i,t,H)
 |some (.ret,t,H)=>some (.ret,t,H)
 |none=>none
def Eb(id:Nat)(r:Res):Res:=
 match r with
 |some (.exit i,t,H)=>if i=id then some (.normal,t,H) else some (.exit i,t,H)
 |some (.normal,t,H)=>some (.normal,t,H)
 |some (.ret,t,H)=>some (.ret,t,H)
 |none=>none
def CG(f:Run):Nat->Run
 |0,_,_=>none
 |n+1,t,H=>tC (f t H) (CG f n)
open Classical in
def aij {α:Type}(g:Nat->Option α):Option α:=if h:∃n,(g n).isSome=true then g (Classical.choose h) else none
def XH(f:Run):Run:=λt H=>aij λn=>CG f n t H
def fJ(P:Program)(C:aC):Code->Run
 |.skip=>λt H=>some (.normal,t,H)
 |.region _ ops draw=>λt H=>match(if draw then zx P C ops.toList t H else PX P C ops.toList ops.toList t H) with
  |some (t',H')=>some (.normal,t',H')
  |none=>none
 |.seq a b=>λt H=>tC (fJ P C a t H) (fJ P C b)
 |.cond c a b=>λt H=>match dU t c with
  |.s (.bool true)=>fJ P C a t H
  |.s (.bool false)=>fJ P C b t H
  |_=>none
 |.block id c=>λt H=>Eb id (fJ P C c t H)
 |.loop c=>XH (fJ P C c)
 |.exit id=>λt H=>some (.exit id,t,H)
 |.ret=>λt H=>some (.ret,t,H)
 |_=>λ_ _=>none
def Vl(P:Program)(t:gJ)(H:ah):ResultVar->Option AV
 |.tmp d=>some (t.getD d bg)
 |.cell a b=>(Tc P b (t.getD a bg) H).map (·.1)
def jH(P:Program)(b:List ResultVar)(t:gJ)(H:ah):Option AV:=
 match b.mapM (Vl P t H) with
 |some [x]=>some x
 |some xs=>some (.tup xs)
 |none=>none
def Ad(P:Program)(C:aC)(f:FuncId)(args:List AV):AM AV:=λH=>
 match P.funcs[f]? with
 |some fn=>match fn.body with
  |some c=>match fJ P C c (args++List.replicate (fn.ntmps-args.length) bg) H with
   |some (.exit _,_,_)=>none
   |some (_,t,H')=>(jH P fn.results.toList t H').map λv=>(v,H')
   |none=>none
  |none=>none
 |none=>none
structure Pol where
 pure:FuncId->Bool
 adi:FuncId->Option (List AV->AM AV)
def CJ(P:Program)(L:Pol)(C:aC):aC:=λf args H=>
 match L.adi f with
 |some p=>p args H
 |none=>
  if L.pure f then
   match Ad P C f args H.guard with
   |some (v,H1)=>(bW H1 H.next 9 v).map λv'=>(v',H)
   |none=>none
  else Ad P C f args H
def mg {α:Type}{g:Nat->Option α}{r:α}(h:aij g=some r):∃n,g n=some r:=by
 unfold aij at h;split at h
 ·exact⟨_,h⟩
 ·cases h
def adI {α:Type}{g:Nat->Option α}(b:∀n r,g n=some r->g (n+1)=some r){n:Nat}{r:α}(h:g n=some r):∀k,g (n+k)=some r:=by
 intro k
 induction k with
 |zero=>exact h
 |succ k d=>exact b _ _ d
def MR {α:Type}{g:Nat->Option α}(b:∀n r,g n=some r->g (n+1)=some r){n m:Nat}{r:α}(h:g n=some r)(hm:n<=m):g m=some r:=by
 have:=adI b h (m-n)
 rwa [show n+(m-n)=m by omega] at this
def xk {α:Type}{g:Nat->Option α}(i:∀n r,g n=some r->g (n+1)=some r){n:Nat}{r:α}(h:g n=some r):aij g=some r:=by
 unfold aij;have b:∃n,(g n).isSome=true:=⟨n,by rw [h];rfl⟩
 rw [dif_pos b];have hc:=Classical.choose_spec b;cases d:g (Classical.choose b) with
 |none=>rw [d] at hc;cases hc
 |some r'=>
  rcases Nat.le_total n (Classical.choose b) with e|e
  ·rw [MR i h e] at d;exact d.symm
  ·rw [MR i d e] at h;exact h
def J4 {f:Run}:∀n t H r,CG f n t H=some r->CG f (n+1) t H=some r:=by
 intro n
 induction n with
 |zero=>intro t H r h;cases h
 |succ n b=>
  intro t H r h;show tC (f t H) (CG f (n+1))=some r
  change tC (f t H) (CG f n)=some r at h
  unfold tC at h ⊢;split at h
  ·exact b _ _ _ h
  ·exact h
  ·exact h
  ·cases h
section
variable {P:Program}{C:aC}{ρ:Ren}{H H':ah}{w:World}{t t':gJ}{a:Act}
def Aw {ops rest:List Oper}{o:Oper}:PX P C ops (o::rest) t H=match nO P C ops false o t H with
  |some (v,H')=>PX P C ops rest (wR t o.dst v) H'
  |none=>none:=by
 simp only [PX,nO];cases uS ops t o with
 |none=>rfl
 |some b=>
  cases b
  ·rfl
  ·cases opA P C t o H <;> rfl
def akT(hC:rQ P C){ops:List Oper}{Q:Exit->Act->World->Prop}:∀(m k:Nat) (t:gJ) (H:ah) (a:Act) (w:World) (ρ:Ren),m+k=ops.length->PX P C ops (ops.drop k) t H=some (t',H')->Rel ρ H w->TOn ρ H.gen w (λ_=>True) t a->
  (∀a' ρ' w',Rel ρ' H' w'->TOn ρ' H'.gen w' (λ_=>True) t' a'->Ext ρ H w ρ' H' w'->a'.defers=a.defers->Q .normal a' w')->wpOps P ops.toArray Q (List.range' k m) a w:=by
 intro m
 induction m with
 |zero=>
  intro k t H a w ρ hk h R T hQ;rw [List.drop_eq_nil_of_le V] at h;simp only [PX,zaa,zad] at h;obtain⟨rfl,rfl⟩:=h;exact hQ a ρ w R T (Ext.refl _ _ _) rfl
 |succ m ih=>
  intro k t H a w ρ hk h R T hQ;have hlt:k<ops.length:=V
  have ho:ops[k]?=some (ops[k]'hlt):=zab hlt;rw [zbw hlt,Aw] at h;cases hs:nO P C ops false (ops[k]'hlt) t H with
  |none=>rw [hs] at h;cases h
  |some r=>
   obtain⟨v,H1⟩:=r;rw [hs] at h;simp only at h;rw [zc3,wpOps_cons];refine MQ hC hs R (T.sub λ_ _=>trivial) ho λcv ρ' w' r1 r2 r3=>?_;refine ih (k+1) _ _ _ w' ρ' V h r1 ((T.keep r3).put _ r2) λa' ρ2 w2 q1 q2 q3 q4=>hQ a' ρ2 w2 q1 q2 (r3.trans q3) (q4.trans ?_);cases(ops[k]'hlt).dst <;> rfl
abbrev aqn(ρ:Ren)(H:ah)(w:World)(a:Act)(t':gJ)(H':ah)(Q:Act->World->Prop):Prop:=
 ∀a' ρ' w',Rel ρ' H' w'->TOn ρ' H'.gen w' (λ_=>True) t' a'->Ext ρ H w ρ' H' w'->a'.defers=a.defers->Q a' w'
def xq(P:Program)(c:Code)(f:Run):Prop:=
 ∀t H e t' H',f t H=some (e,t',H')->∀(ρ:Ren) (w:World) (a:Act),Rel ρ H w->TOn ρ H.gen w (λ_=>True) t a->∀Q:Exit->Act->World->Prop,aqn ρ H w a t' H' (Q e.to)->c.wp P Q a w
def XI {c d:Code}{f g:Run}(hf:xq P c f)(hg:∀t H e t' H',g t H=some (e,t',H')->∀(ρ:Ren) (w:World) (a:Act),Rel ρ H w->TOn ρ H.gen w (λ_=>True) t a->∀Q:Exit->Act->World->Prop,aqn ρ H w a t' H' (Q e.to)->d.wp P Q a w):
  xq P (.seq c d) λt H=>tC (f t H) g:=by
 intro t H e t' H' h ρ w a R T Q hQ;refine wp_seq ?_
 change tC (f t H) g=_ at h
 unfold tC at h;split at h
 ·rename_i t1 H1 hf1;refine hf t H _ t1 H1 hf1 ρ w a R T _ λa' ρ' w' r1 r2 r3 r4=>?_;exact hg t1 H1 e t' H' h ρ' w' a' r1 r2 Q λa2 ρ2 w2 q1 q2 q3 q4=>hQ a2 ρ2 w2 q1 q2 (r3.trans q3) (q4.trans r4)
 ·rename_i i t1 H1 hf1;simp only [zaa,zad] at h;obtain⟨rfl,rfl,rfl⟩:=h;exact hf t H _ t1 H1 hf1 ρ w a R T _ hQ
 ·rename_i t1 H1 hf1;simp only [zaa,zad] at h;obtain⟨rfl,rfl,rfl⟩:=h;exact hf t H _ t1 H1 hf1 ρ w a R T _ hQ
 ·cases h
open Classical in
def XJ {c:Code}{f:Run}(hf:xq P c f):xq P (.loop c) (XH f):=by
 intro t H e t' H' h ρ w a R T Q hQ;obtain⟨n,hn⟩:=mg h;let I:Nat->Act->World->Prop:=λn a1 w1=>∃t1 H1 ρ1,CG f n t1 H1=some (e,t',H')/\Rel ρ1 H1 w1/\TOn ρ1 H1.gen w1 (λ_=>True) t1 a1/\Ext ρ H w ρ1 H1 w1/\a1.defers=a.defers
 let μ:Act->World->Nat:=λa1 w1=>if hx:∃n,I n a1 w1/\∀i,i<n->¬I i a1 w1 then Classical.choose hx else 0
 have hμ:∀n a1 w1,I n a1 w1->I (μ a1 w1) a1 w1/\μ a1 w1<=n:=by
  intro n a1 w1 hi;have hx:∃n,I n a1 w1/\∀i,i<n->¬I i a1 w1:=aie (p:=λn=>I n a1 w1) n hi;have hsp:=Classical.choose_spec hx;have hdef:μ a1 w1=Classical.choose hx:=dif_pos hx;rw [hdef];refine⟨hsp.1,?_⟩;rcases zaR n (Classical.choose hx) with hl|hl
  ·exact absurd hi (hsp.2 n hl)
  ·exact hl
 refine wp_loop (λa1 w1=>∃n,I n a1 w1) μ ⟨n,t,H,ρ,hn,R,T,Ext.refl _ _ _,rfl⟩ λa1 w1 ⟨n1,hi⟩=>?_;obtain⟨⟨t1,H1,ρ1,h1,R1,T1,E1,D1⟩,_⟩:=hμ n1 a1 w1 hi;cases hm:μ a1 w1 with
 |zero=>rw [hm] at h1;cases h1
 |succ m=>
  rw [hm] at h1
  change tC (f t1 H1) (CG f m)=_ at h1
  unfold tC at h1;split at h1
  ·rename_i t2 H2 hf1;refine hf t1 H1 _ t2 H2 hf1 ρ1 w1 a1 R1 T1 _ λa2 ρ2 w2 r1 r2 r3 r4=>?_;have hi2:I m a2 w2:=⟨t2,H2,ρ2,h1,r1,r2,E1.trans r3,r4.trans D1⟩
   exact⟨⟨m,hi2⟩,by have:=(hμ m a2 w2 hi2).2;omega⟩
  ·rename_i i t2 H2 hf1;simp only [zaa,zad] at h1;obtain⟨rfl,rfl,rfl⟩:=h1;exact hf t1 H1 _ _ _ hf1 ρ1 w1 a1 R1 T1 _ λa2 ρ2 w2 r1 r2 r3 r4=>hQ a2 ρ2 w2 r1 r2 (E1.trans r3) (r4.trans D1)
  ·rename_i t2 H2 hf1;simp only [zaa,zad] at h1;obtain⟨rfl,rfl,rfl⟩:=h1;exact hf t1 H1 _ _ _ hf1 ρ1 w1 a1 R1 T1 _ λa2 ρ2 w2 r1 r2 r3 r4=>hQ a2 ρ2 w2 r1 r2 (E1.trans r3) (r4.trans D1)
  ·cases h1
def CO(hC:rQ P C)(hK:kW C)(hm:P.follows .mixedOrders=true):∀c:Code,xq P c (fJ P C c):=by
 intro c
 induction c with
 |skip=>
  intro t H e t' H' h ρ w a R T Q hQ;simp only [fJ,zaa,zad] at h;obtain⟨rfl,rfl,rfl⟩:=h;exact wp_skip (hQ a ρ w R T (Ext.refl _ _ _) rfl)
 |region id ops draw=>
  intro t H e t' H' h ρ w a R T Q hQ;simp only [fJ] at h;cases draw with
  |true=>
   simp only [if_true] at h;split at h <;> first|(cases h;done)|skip
   rename_i t1 H1 hd;simp only [zaa,zad] at h;obtain⟨rfl,rfl,rfl⟩:=h;have:=aii hC hK hm (id:=id) hd R T (Q:=Q) hQ
   simpa using this
  |false=>
   simp only [zai,if_false] at h;split at h <;> first|(cases h;done)|skip
   rename_i t1 H1 hd;simp only [zaa,zad] at h;obtain⟨rfl,rfl,rfl⟩:=h;refine wp_region ?_;have:=akT hC (ops:=ops.toList) (Q:=Q) ops.toList.length 0 t H a w ρ O (by simpa using hd) R T hQ;rw [zcD]
   simpa using this
 |seq x y ihx ihy=>exact XI ihx ihy
 |cond c x y ihx ihy=>
  intro t H e t' H' h ρ w a R T Q hQ;simp only [fJ] at h;have hev:RV ρ H.gen w (dU t c) (a.eval c):=by
   cases c with
   |tmp d=>exact T.any d trivial
   |const v=>simp [dU,Act.eval,RV]
   |global g=>simp [dU,Act.eval,RV]
   |func f=>simp [dU,Act.eval,RV,RVs]
  split at h
  ·rename_i hb;rw [hb] at hev;simp only [RV] at hev;exact wp_cond_true hev (ihx t H e t' H' h ρ w a R T Q hQ)
  ·rename_i hb;rw [hb] at hev;simp only [RV] at hev;exact wp_cond_false hev (ihy t H e t' H' h ρ w a R T Q hQ)
  ·cases h
 |block id x ih=>
  intro t H e t' H' h ρ w a R T Q hQ;simp only [fJ] at h;refine wp_block ?_;unfold Eb at h;split at h
  ·rename_i i t1 H1 hf;refine ih t H _ t1 H1 hf ρ w a R T _ λa2 ρ2 w2 r1 r2 r3 r4=>?_;simp only [Ex.to,Exit.inBlock];split at h
   ·rename_i hid;simp only [zaa,zad] at h;obtain⟨rfl,rfl,rfl⟩:=h;rw [if_pos hid];exact hQ a2 ρ2 w2 r1 r2 r3 r4
   ·rename_i hid;simp only [zaa,zad] at h;obtain⟨rfl,rfl,rfl⟩:=h;rw [if_neg hid];exact hQ a2 ρ2 w2 r1 r2 r3 r4
  ·rename_i t1 H1 hf;simp only [zaa,zad] at h;obtain⟨rfl,rfl,rfl⟩:=h;exact ih t H _ t1 H1 hf ρ w a R T _ hQ
  ·rename_i t1 H1 hf;simp only [zaa,zad] at h;obtain⟨rfl,rfl,rfl⟩:=h;exact ih t H _ t1 H1 hf ρ w a R T _ hQ
  ·cases h
 |loop x ih=>exact XJ ih
 |exit id=>
  intro t H e t' H' h ρ w a R T Q hQ;simp only [fJ,zaa,zad] at h;obtain⟨rfl,rfl,rfl⟩:=h;exact wp_exit (hQ a ρ w R T (Ext.refl _ _ _) rfl)
 |ret=>
  intro t H e t' H' h ρ w a R T Q hQ;simp only [fJ,zaa,zad] at h;obtain⟨rfl,rfl,rfl⟩:=h;exact wp_ret (hQ a ρ w R T (Ext.refl _ _ _) rfl)
 |_=>intro t H e t' H' h;simp [fJ] at h
end
section
variable {P:Program}{C:aC}{ρ:Ren}{H H':ah}{w:World}{t t':gJ}{a:Act}
def J5(d:kW C){ops:List Oper}{lo:Bool}{o:Oper}{v:AV}(h:nO P C ops lo o t H=some (v,H')):Keeps H H':=by
 unfold nO at h;split at h <;> first|(cases h;done)|skip
 ·split at h
  ·have:=(GL d h).1;exact⟨this.1,this.2.1,λr _ b=>this.2.2 r b,λr b=>by rw [this.2.2 r b];exact .refl _⟩
  ·exact EZ d h
 ·simp only [zaa,zad] at h;rw [h.2];exact .refl _
def J6(b:kW C){ops:List Oper}:∀(l:List Oper) (t:gJ) (H:ah),PX P C ops l t H=some (t',H')->Keeps H H'
 |[],t,H,h=>by
  simp only [PX,zaa,zad] at h;rw [h.2];exact .refl _
 |o::l,t,H,h=>by
  rw [Aw] at h;split at h <;> first|(cases h;done)|skip
  rename_i v H1 d;exact(J5 b d).trans (J6 b l _ _ h)
def yY(b:kW C){ops:List Oper}:∀(l:List Nat) (t:gJ) (H:ah),iZ P C ops l t H=some (t',H')->Keeps H H'
 |[],t,H,h=>by
  simp only [iZ,zaa,zad] at h;rw [h.2];exact .refl _
 |i::l,t,H,h=>by
  simp only [iZ] at h;split at h <;> first|(cases h;done)|skip
  split at h <;> first|(cases h;done)|skip
  rename_i v H1 d;exact(EZ b d).trans (yY b l _ _ h)
def vF(b:kW C){ops:List Oper}:∀(l:List Nat) (t:gJ) (H:ah),gy P C ops l t H=some (t',H')->Keeps H H'
 |[],t,H,h=>by
  simp only [gy,zaa,zad] at h;rw [h.2];exact .refl _
 |i::l,t,H,h=>by
  simp only [gy] at h;split at h <;> first|(cases h;done)|skip
  split at h <;> first|(cases h;done)|skip
  rename_i v H1 d;exact(J5 b d).trans (vF b l _ _ h)
def TK(b:kW C){ops:List Oper}(h:zx P C ops t H=some (t',H')):Keeps H H':=by
 unfold zx at h;split at h <;> first|(cases h;done)|skip
 split at h <;> first|(cases h;done)|skip
 rename_i t0 H0 e;have d:=yY b _ _ _ e;split at h
 ·exact d.trans (vF b _ _ _ h)
 ·split at h <;> first|(cases h;done)|skip
  exact d.trans (vF b _ _ _ h)
def vG(f:Run):Prop:=∀t H e t' H',f t H=some (e,t',H')->Keeps H H'
def J7 {f g:Run}(d:vG f)(k:vG g):vG λt H=>tC (f t H) g:=by
 intro t H e t' H' h
 change tC (f t H) g=_ at h
 unfold tC at h;split at h
 ·rename_i j H1 b;exact(d _ _ _ _ _ b).trans (k _ _ _ _ _ h)
 ·rename_i i j H1 b;simp only [zaa,zad] at h;obtain⟨_,_,rfl⟩:=h;exact d _ _ _ _ _ b
 ·rename_i j H1 b;simp only [zaa,zad] at h;obtain⟨_,_,rfl⟩:=h;exact d _ _ _ _ _ b
 ·cases h
def XK {f:Run}(b:vG f):vG (XH f):=by
 have key:∀n,vG (CG f n):=by
  intro n
  induction n with
  |zero=>intro t H e t' H' h;cases h
  |succ n d=>exact J7 b d
 intro t H e t' H' h;obtain⟨n,g⟩:=mg h;exact key n t H e t' H' g
def XL(m:kW C):∀c:Code,vG (fJ P C c):=by
 intro c
 induction c with
 |skip=>
  intro t H e t' H' h;simp only [fJ,zaa,zad] at h;rw [<-h.2.2];exact .refl _
 |region id ops draw=>
  intro t H e t' H' h;simp only [fJ] at h;split at h <;> first|(cases h;done)|skip
  rename_i k H1 hd;simp only [zaa,zad] at h;obtain⟨_,rfl,rfl⟩:=h;split at hd
  ·exact TK m hd
  ·exact J6 m _ _ _ hd
 |seq x y b d=>exact J7 b d
 |cond c x y b d=>
  intro t H e t' H' h;simp only [fJ] at h;split at h
  ·exact b _ _ _ _ _ h
  ·exact d _ _ _ _ _ h
  ·cases h
 |block id x g=>
  intro t H e t' H' h;simp only [fJ] at h;unfold Eb at h;split at h
  ·rename_i i k H1 j;split at h <;>
   ·simp only [zaa,zad] at h;obtain⟨_,_,rfl⟩:=h;exact g _ _ _ _ _ j
  ·rename_i k H1 j;simp only [zaa,zad] at h;obtain⟨_,_,rfl⟩:=h;exact g _ _ _ _ _ j
  ·rename_i k H1 j;simp only [zaa,zad] at h;obtain⟨_,_,rfl⟩:=h;exact g _ _ _ _ _ j
  ·cases h
 |loop x g=>exact XK g
 |exit id=>
  intro t H e t' H' h;simp only [fJ,zaa,zad] at h;rw [<-h.2.2];exact .refl _
 |ret=>
  intro t H e t' H' h;simp only [fJ,zaa,zad] at h;rw [<-h.2.2];exact .refl _
 |_=>intro t H e t' H' h;simp [fJ] at h
def J8(d:kW C){f:FuncId}{args:List AV}{v:AV}(h:Ad P C f args H=some (v,H')):Keeps H H':=by
 unfold Ad at h;split at h <;> first|(cases h;done)|skip
 split at h <;> first|(cases h;done)|skip
 split at h <;> first|(cases h;done)|skip
 rename_i e g H1 i j;have:=XL d _ _ _ _ _ _ j;cases b:jH P _ g H1 with
 |none=>rw [b] at h;cases h
 |some x=>
  rw [b] at h;simp only [zaj,zaa,zad] at h;rw [<-h.2];exact this
def apT(tmps:Array Value):ResultVar->Sem Value
 |.tmp t=>pure (tmps.getD t undef)
 |.cell a t=>do loadVar t (<-asAddr (tmps.getD a undef))
def Qk(fn:Func)(tmps:Array Value):results fn tmps=(do
  let vs<-fn.results.mapM (apT tmps)
  pure (if h:vs.size=1 then vs[0] else .tuple vs)):=by
 rfl
def aik(R:Rel ρ H w)(T:TOn ρ H.gen w (λ_=>True) t a){x:ResultVar}{v:AV}(h:Vl P t H x=some v):
  ∃cv,(apT a.tmps x).run P w=.ok cv w/\RV ρ H.gen w v cv:=by
 cases x with
 |tmp d=>
  simp only [Vl,zaa] at h;subst h;exact⟨_,rfl,T.any d trivial⟩
 |cell b q=>
  simp only [Vl] at h;cases i:Tc P q (t.getD b bg) H with
  |none=>rw [i] at h;cases h
  |some r=>
   obtain⟨u,H1⟩:=r;rw [i] at h;simp only [zaj,zaa] at h;subst h;have g:=T.any b trivial;obtain⟨_,cv,p,y⟩:=Zc R g i;have j:∃k,a.tmps.getD b undef=.pointer (some k):=by
    have m:=(uY i).1;unfold ah3 at m;split at m
    ·rename_i hb;rw [hb] at g m;simp only [RV] at g;obtain⟨k,e,_⟩:=g;exact⟨k,e⟩
    ·rename_i hb;rw [hb] at g;simp only [RV] at g;obtain⟨b,o,e,_⟩:=g;exact⟨_,e⟩
    ·cases m
   obtain⟨k,j⟩:=j;refine⟨cv,?_,y⟩;rw [j] at p;simp only [apT,j]
   simpa [Instr.loadAt,Instr.sureAddr,asAddr] using p
def Vm(R:Rel ρ H w)(T:TOn ρ H.gen w (λ_=>True) t a):∀(b:List ResultVar) (xs:List AV),b.mapM (Vl P t H)=some xs->
  ∃cs:List Value,(b.mapM (apT a.tmps)).run P w=.ok cs w/\RVs ρ H.gen w xs cs
 |[],xs,h=>by
  simp at h;subst h;exact⟨[],O,by simp [RVs]⟩
 |r::b,xs,h=>by
  rw [zby] at h;cases d:Vl P t H r with
  |none=>rw [d] at h;cases h
  |some y=>
   rw [d] at h;cases e:b.mapM (Vl P t H) with
   |none=>rw [e] at h;cases h
   |some g=>
    rw [e] at h;simp only [zcm,za0,zcN,zaa] at h;subst h;obtain⟨cv,i,j⟩:=aik (P:=P) R T d;obtain⟨cs,k,m⟩:=Vm R T b g e;refine⟨cv::cs,?_,?_⟩
    ·rw [zby,Sem.run_bind,i];simp only [Result.andThen_ok,Sem.run_bind,k,Sem.run_pure]
    ·simp only [RVs];exact⟨cv,cs,rfl,j,m⟩
def J9(R:Rel ρ H w)(T:TOn ρ H.gen w (λ_=>True) t a){fn:Func}{v:AV}(h:jH P fn.results.toList t H=some v):
  ∃cv,(results fn a.tmps).run P w=.ok cv w/\RV ρ H.gen w v cv:=by
 unfold jH at h;cases hm:fn.results.toList.mapM (Vl P t H) with
 |none=>rw [hm] at h;cases h
 |some xs=>
  rw [hm] at h;obtain⟨cs,e,b⟩:=Vm (P:=P) R T _ _ hm;have d:(results fn a.tmps).run P w=.ok (if h:cs.toArray.size=1 then cs.toArray[0] else .tuple cs.toArray) w:=by
   rw [Qk,Array.mapM_eq_mapM_toList,map_eq_pure_bind];simp only [Sem.run_bind];rw [e];rfl
  rw [d];refine⟨_,rfl,?_⟩;cases xs with
  |nil=>
   simp only [zaa] at h;subst h;simp only [RVs] at b;subst b;simp [RV,RVs]
  |cons x xs=>
   cases xs with
   |nil=>
    simp only [zaa] at h;subst h;simp only [RVs] at b;obtain⟨y,j,rfl,g,rfl⟩:=b
    simpa using g
   |cons k xs=>
    simp only [zaa] at h;subst h;have i:cs.length≠1:=by have:=dR b;simp at this;omega
    have:(if h:cs.toArray.size=1 then cs.toArray[0] else .tuple cs.toArray)=.tuple cs.toArray:=by
     rw [dif_neg];simpa using i
    rw [this];simp only [RV];exact⟨_,rfl,by simpa using b⟩
def Zt {args:List AV}{lT:Array Value}{m:Nat}(h:RVs ρ H.gen w args lT.toList):
  TOn ρ H.gen w (λ_=>True) (args++List.replicate (m-args.length) bg) { tmps:=lT++Array.replicate (m-lT.size) undef,defers:=[] }:=by
 have hl:=dR h;have hl':lT.size=args.length:=by simpa using hl
 refine⟨by simp [hl'],λ(d:Nat) _ hd=>?_⟩;by_cases hlt:d<args.length
 ·have hx:args[d]?=some (args[d]'hlt):=zab hlt;obtain⟨v,hv,h1⟩:=jT h hx;have e1:(args++List.replicate (m-args.length) bg).getD d bg=args[d]'hlt:=by
   simp [List.getD,zaI hlt,hx]
  have e2:(lT++Array.replicate (m-lT.size) undef).getD d undef=v:=by
   have hv':lT[d]?=some v:=by simpa using hv
   have hlt2:d<lT.size:=V
   rw [zcr,Array.getElem?_append_left hlt2,hv'];rfl
  rw [e1,e2];exact h1
 ·have e1:(args++List.replicate (m-args.length) bg).getD d bg=bg:=by
   simp only [List.getD,za3 (zdP.1 hlt),zbD];split <;> rfl
  have e2:(lT++Array.replicate (m-lT.size) undef).getD d undef=undef:=by
   rw [zcr,Array.getElem?_append_right V,Array.getElem?_replicate];split <;> rfl
  show RV ρ H.gen w (List.getD _ d bg) (Array.getD _ d undef);rw [e1,e2];exact EY
def Ko(p:rQ P C)(q:kW C)(hm:P.follows .mixedOrders=true):rQ P (Ad P C):=by
 intro f k H v H' h ρ w G R b;unfold Ad at h;split at h <;> first|(cases h;done)|skip
 rename_i fn u;split at h <;> first|(cases h;done)|skip
 rename_i c hb;split at h <;> first|(cases h;done)|skip
 rename_i e m H1 g y;cases j:jH P fn.results.toList m H1 with
 |none=>rw [j] at h;cases h
 |some x=>
  rw [j] at h;simp only [zaj,zaa,zad] at h;obtain⟨rfl,rfl⟩:=h;refine calls_of_wp u hb ?_;refine CO p q hm c _ _ e m H1 y ρ w _ R (Zt b) _ λa' ρ' w' o z A D=>?_;obtain⟨cv,E,F⟩:=J9 (P:=P) o z j;have d:bodyPost P fn (λe w'=>∃cv ρ',e=.returned cv/\Rel ρ' H1 w'/\RV ρ' H1.gen w' x cv/\Ext ρ H w ρ' H1 w') .ret a' w':=⟨D,cv,E,cv,ρ',rfl,o,F,A⟩
  cases e with
  |normal=>exact d
  |ret=>exact d
  |exit i=>exact absurd rfl (g i)
def XM(P:Program)(L:Pol):Prop:=∀f p,L.adi f=some p->rQ P (λg b H=>if g=f then p b H else none)/\∀b H v H',p b H=some (v,H')->Keeps H H'
def TL {L:Pol}(o:XM P L)(k:rQ P C)(g:kW C)(hm:P.follows .mixedOrders=true):rQ P (CJ P L C):=by
 intro f d H v H' h ρ w i R b;unfold CJ at h;split at h
 ·rename_i p q;exact(o f p q).1 f d H v H' (by simpa using h) ρ w i R b
 ·split at h
  ·split at h <;> first|(cases h;done)|skip
   rename_i u H1 m;cases j:bW H1 H.next 9 u with
   |none=>rw [j] at h;cases h
   |some K=>
    rw [j] at h;simp only [zaj,zaa,zad] at h;obtain⟨rfl,rfl⟩:=h;refine(Ko k g hm f d H.guard u H1 m ρ w i ⟨R.out,R.obj,R.inj,R.gl⟩ b).mono λe w' y=>?_;obtain⟨cv,ρ',rfl,z,A,e⟩:=y;have E:Ext ρ H w ρ' H1 w':=⟨e.next,e.mono,e.same,e.kept,e.range,e.size,e.frame,e.shape,e.os,e.tape,e.output⟩
    obtain⟨D,F,G⟩:=Zr R (J8 g m) z E j A;exact⟨cv,ρ,rfl,D,F,G⟩
  ·exact Ko k g hm f d H v H' h ρ w i R b
def TM {L:Pol}(e:XM P L)(g:kW C):kW (CJ P L C):=by
 intro f b H v H' h;unfold CJ at h;split at h
 ·rename_i p i;exact(e f p i).2 b H v H' h
 ·split at h
  ·split at h <;> first|(cases h;done)|skip
   rename_i u H1 j;cases d:bW H1 H.next 9 u with
   |none=>rw [d] at h;cases h
   |some k=>
    rw [d] at h;simp only [zaj,zaa,zad] at h;rw [<-h.2];exact .refl _
  ·exact J8 g h
end
abbrev Pt:=FuncId × List AV × ah × AV × ah
def Has(C:aC)(L:List Pt):Prop:=∀p∈L,C p.1 p.2.1 p.2.2.1=some (p.2.2.2.1,p.2.2.2.2)
def Has.left {C:aC}{L M:List Pt}(h:Has C (L++M)):Has C L:=λp b=>h p (zcC _ b)
def Has.right {C:aC}{L M:List Pt}(h:Has C (L++M)):Has C M:=λp b=>h p (zcY _ b)
def Has.append {C:aC}{L M:List Pt}(h:Has C L)(b:Has C M):Has C (L++M):=λp d=>(zaO.1 d).elim (h p) (b p)
def Fin1 {α:Type}(C:aC)(F:aC->Option α):Prop:=∀r,F C=some r->∃L,Has C L/\∀b,Has b L->F b=some r
def Fin1.const {α:Type}{C:aC}(x:Option α):Fin1 C λ_=>x:=λr h=>⟨[],λ_ h=>by simp at h,λ_ _=>h⟩
def Fin1.point {C:aC}{f:FuncId}{args:List AV}{H:ah}:Fin1 C λC=>C f args H:=λr h=>
 ⟨[(f,args,H,r.1,r.2)],λp b=>by simp at b;subst b;exact h,λC' hc=>hc (f,args,H,r.1,r.2) O⟩
def Fin1.bind {α β:Type}{C:aC}{F:aC->Option α}{G:α->aC->Option β}(hF:Fin1 C F)(hG:∀a,Fin1 C (G a)):Fin1 C λC=>(F C).bind λa=>G a C:=by
 intro r h;cases hf:F C with
 |none=>simp [hf] at h
 |some a=>
  simp only [hf,za0] at h;obtain⟨L,l1,l2⟩:=hF a hf;obtain⟨M,m1,m2⟩:=hG a r h;exact⟨L++M,l1.append m1,λC' hc=>by simp only [l2 C' hc.left,za0];exact m2 C' hc.right⟩
def Fin1.of_eq {α:Type}{C:aC}{F G:aC->Option α}(h:Fin1 C G)(e:∀C,F C=G C):Fin1 C F:=by
 rw [show F=G from funext e];exact h
section
variable {P:Program}{C:aC}{t:gJ}{H:ah}{o:Oper}
def Zu {x:AV}{args:List AV}:Fin1 C λC=>tq P C x args H:=by
 unfold tq;split
 ·split
  ·exact Fin1.point
  ·exact Fin1.const _
 ·split
  ·exact Fin1.point
  ·exact Fin1.const _
 ·exact Fin1.const _
def TN:Fin1 C λC=>opA P C t o H:=by
 obtain⟨dst,op,b,d,after,guard⟩:=o;cases op
 case makeMap ty r=>cases r <;> exact Fin1.const _
 case call c=>
  simp only [opA,wS];split
  ·exact Zu
  ·exact Fin1.const _
  ·exact Fin1.const _
 all_goals exact Fin1.const _
def Vo {ops:List Oper}{lo:Bool}:Fin1 C λC=>nO P C ops lo o t H:=by
 cases hw:uS ops t o with
 |none=>exact(Fin1.const none).of_eq λC=>by simp [nO,hw]
 |some b=>
  cases b with
  |false=>exact(Fin1.const (some (bg,H))).of_eq λC=>by simp [nO,hw]
  |true=>
   cases lo with
   |false=>exact(TN (P:=P) (o:=o) (t:=t) (H:=H)).of_eq λC=>by simp [nO,hw]
   |true=>
    refine Fin1.of_eq (G:=λC=>(opA P C t o H.guard).bind λr=>some (r.1,{ r.2 with base:=H.base })) (Fin1.bind TN λ_=>Fin1.const _) λC=>?_;simp only [nO,hw,if_true,opG];cases opA P C t o H.guard <;> rfl
def Vp {ops:List Oper}:∀(l:List Oper) (t:gJ) (H:ah),Fin1 C λC=>PX P C ops l t H
 |[],t,H=>Fin1.const _
 |o::l,t,H=>by
  refine Fin1.of_eq (G:=λC=>(nO P C ops false o t H).bind λr=>PX P C ops l (wR t o.dst r.1) r.2) (Fin1.bind Vo λr=>Vp l _ _) λC=>?_;rw [Aw];cases nO P C ops false o t H <;> rfl
def Ec {ops:List Oper}:∀(l:List Nat) (t:gJ) (H:ah),Fin1 C λC=>iZ P C ops l t H
 |[],t,H=>Fin1.const _
 |i::l,t,H=>by
  cases b:ops[i]? with
  |none=>exact(Fin1.const none).of_eq λC=>by simp [iZ,b]
  |some o=>
   refine Fin1.of_eq (G:=λC=>(opA P C t o H).bind λr=>iZ P C ops l (wR t o.dst r.1) r.2) (Fin1.bind TN λr=>Ec l _ _) λC=>?_;simp only [iZ,b];cases opA P C t o H <;> rfl
def GZ {ops:List Oper}:∀(l:List Nat) (t:gJ) (H:ah) (r:gJ × ah),gy P C ops l t H=some r->
  ∃L,Has C L/\∀C',Has C' L->∀k,gy P C' ops (l.take k) t H=gy P C ops (l.take k) t H
 |[],t,H,r,h=>⟨[],λ_ h=>by simp at h,λ_ _ k=>by simp [gy]⟩
 |i::l,t,H,r,h=>by
  simp only [gy] at h;cases ho:ops[i]? with
  |none=>rw [ho] at h;cases h
  |some o=>
   rw [ho] at h;simp only at h;cases hs:nO P C ops (loose ops i && nK o.op) o t H with
   |none=>rw [hs] at h;cases h
   |some q=>
    rw [hs] at h;simp only at h;obtain⟨L,l1,l2⟩:=Vo (P:=P) (C:=C) (t:=t) (H:=H) (o:=o) (ops:=ops) (lo:=loose ops i && nK o.op) q hs;obtain⟨M,m1,m2⟩:=GZ l _ _ r h;refine⟨L++M,l1.append m1,λC' hc k=>?_⟩;cases k with
    |zero=>rfl
    |succ k=>
     have e:=l2 C' hc.left;simp only [List.take_succ_cons,gy,ho,hs];simp only at e;rw [e];exact m2 C' hc.right k
def Zv {ops:List Oper}{p:Nat}(b:p<=ops.length):∃k,(List.range p).filter (λi=>!cst ops i)=(nT ops).take k:=by
 have:List.range ops.length=List.range p++(List.range (ops.length-p)).map (p+ ·):=by
  rw [<-List.range_add];congr 1;omega
 refine⟨((List.range p).filter (λi=>!cst ops i)).length,?_⟩;unfold nT;rw [this,zcq,List.take_left]
def TP {ops:List Oper}{p:Nat × Nat}(h:p∈mQ ops):p.1<ops.length/\p.2<ops.length:=by
 unfold mQ at h;obtain⟨j,b,h⟩:=zaY.1 h;obtain⟨e,d,rfl⟩:=zaJ.1 h;exact⟨zaZ.1 b,zaZ.1 (zbp.1 d).1⟩
def Zw {ops:List Oper}:Fin1 C λC=>zx P C ops t H:=by
 intro r h;simp only at h;unfold zx at h;split at h <;> first|(cases h;done)|skip
 rename_i hok;split at h <;> first|(cases h;done)|skip
 rename_i t0 H0 h0;obtain⟨L,l1,l2⟩:=Ec (P:=P) (C:=C) (ops:=ops) (pR ops) t H (t0,H0) h0;have hrun:gy P C ops (nT ops) t0 H0=some r:=by
  split at h
  ·exact h
  ·split at h <;> first|(cases h;done)|skip
   exact h
 obtain⟨M,m1,m2⟩:=GZ (P:=P) (C:=C) (ops:=ops) (nT ops) t0 H0 r hrun;have hall:∀C',Has C' M->gy P C' ops (nT ops) t0 H0=some r:=λC' hc=>by
  have:=m2 C' hc (nT ops).length;rw [List.take_length] at this;rw [this];exact hrun
 have hst:∀C',Has C' M->∀p,p<=ops.length->Gu P C' ops p t0 H0=Gu P C ops p t0 H0:=λC' hc p hp=>by
  obtain⟨k,hk⟩:=Zv hp;unfold Gu;rw [hk];exact m2 C' hc k
 refine⟨L++M,l1.append m1,λC' hc=>?_⟩;have e0:=l2 C' hc.left;simp only at e0 ⊢;unfold zx;rw [if_pos hok,e0];simp only;split at h
 ·exact hall C' hc.right
 ·rename_i ps hps he;split at h <;> first|(cases h;done)|skip
  rename_i ha;cases hq:mQ ops with
  |nil=>exact hall C' hc.right
  |cons q qs=>
   rw [if_pos]
   ·exact hall C' hc.right
   ·intro p hp;rw [<-hq] at hp;obtain⟨b1,b2⟩:=TP hp;have hap:=ha p hp;unfold agree at hap ⊢;split
    ·rename_i hcp;rw [if_pos hcp] at hap;intro te He te' He' q2 q3;rw [hst C' hc.right _ V] at q2 q3;exact hap te He te' He' q2 q3
    ·rename_i hcp;rw [if_neg hcp] at hap;intro tj Hj te He te' He' q1 q2 q3;rw [hst C' hc.right _ V] at q1 q2 q3;exact hap tj Hj te He te' He' q1 q2 q3
abbrev aqo:=aC->Run
def ail(C:aC)(F:aqo):Prop:=∀t H,Fin1 C λC=>F C t H
def Vq {F G:aqo}(b:ail C F)(d:ail C G):ail C λC t H=>tC (F C t H) (G C):=by
 intro t H;refine Fin1.of_eq (G:=λC=>(F C t H).bind λr=>(match r with|(.normal,t,H)=>G C t H|r=>some r)) (Fin1.bind (b t H) λr=>?_) λC=>?_
 ·obtain⟨e,t,H⟩:=r;cases e with
  |normal=>exact d t H
  |_=>exact Fin1.const _
 ·show tC (F C t H) (G C)=_;unfold tC;cases F C t H with
  |none=>rfl
  |some r=>obtain⟨e,t,H⟩:=r;cases e <;> rfl
def adJ {F:aqo}(hF:ail C F):ail C λC=>XH (F C):=by
 have key:∀n,ail C λC=>CG (F C) n:=by
  intro n
  induction n with
  |zero=>exact λt H=>Fin1.const none
  |succ n ih=>exact Vq hF ih
 intro t H r h;obtain⟨n,hn⟩:=mg h;obtain⟨L,l1,l2⟩:=key n t H r hn;exact⟨L,l1,λC' hc=>xk (λn r=>J4 n t H r) (l2 C' hc)⟩
def adK:∀c:Code,ail C λC=>fJ P C c:=by
 intro c
 induction c with
 |skip=>exact λt H=>Fin1.const _
 |region id ops draw=>
  intro t H;cases draw with
  |true=>
   refine Fin1.of_eq (G:=λC=>(zx P C ops.toList t H).bind λr=>some (.normal,r.1,r.2)) (Fin1.bind Zw λ_=>Fin1.const _) λC=>?_;simp only [fJ,if_true];cases zx P C ops.toList t H <;> rfl
  |false=>
   refine Fin1.of_eq (G:=λC=>(PX P C ops.toList ops.toList t H).bind λr=>some (.normal,r.1,r.2)) (Fin1.bind (Vp _ _ _) λ_=>Fin1.const _) λC=>?_;simp only [fJ,zai,if_false];cases PX P C ops.toList ops.toList t H <;> rfl
 |seq x y b d=>exact Vq b d
 |cond c x y b d=>
  intro t H;simp only [fJ];split
  ·exact b t H
  ·exact d t H
  ·exact Fin1.const _
 |block id x e=>
  intro t H;refine Fin1.of_eq (G:=λC=>(fJ P C x t H).bind λr=>Eb id (some r)) (Fin1.bind (e t H) λ_=>Fin1.const _) λC=>?_;simp only [fJ];cases fJ P C x t H <;> rfl
 |loop x e=>exact adJ e
 |exit id=>exact λt H=>Fin1.const _
 |ret=>exact λt H=>Fin1.const _
 |_=>exact λt H=>Fin1.const _
def Vr {f:FuncId}{args:List AV}:Fin1 C λC=>Ad P C f args H:=by
 cases b:P.funcs[f]? with
 |none=>exact(Fin1.const none).of_eq λC=>by simp [Ad,b]
 |some fn=>
  cases hb:fn.body with
  |none=>exact(Fin1.const none).of_eq λC=>by simp [Ad,b,hb]
  |some c=>
   refine Fin1.of_eq (G:=λC=>(fJ P C c (args++List.replicate (fn.ntmps-args.length) bg) H).bind λr=>
    (match r with
     |(.exit _,_,_)=>none
     |(_,t,H')=>(jH P fn.results.toList t H').map λv=>(v,H'))) (Fin1.bind (adK c _ _) λ_=>Fin1.const _) λC=>?_
   simp only [Ad,b,hb];cases fJ P C c (args++List.replicate (fn.ntmps-args.length) bg) H with
   |none=>rfl
   |some r=>obtain⟨e,t,H⟩:=r;cases e <;> rfl
def Ql {L:Pol}{f:FuncId}{args:List AV}:Fin1 C λC=>CJ P L C f args H:=by
 cases hp:L.adi f with
 |some p=>exact(Fin1.const (p args H)).of_eq λC=>by simp [CJ,hp]
 |none=>
  cases hq:L.pure f with
  |false=>exact(Vr (P:=P) (f:=f) (args:=args) (H:=H)).of_eq λC=>by simp [CJ,hp,hq]
  |true=>
   refine Fin1.of_eq (G:=λC=>(Ad P C f args H.guard).bind λr=>(bW r.2 H.next 9 r.1).map λv'=>(v',H)) (Fin1.bind Vr λ_=>Fin1.const _) λC=>?_;simp only [CJ,hp,hq,if_true];cases Ad P C f args H.guard <;> rfl
end
def EK(P:Program)(L:Pol):Nat->aC
 |0=>λ_ _ _=>none
 |n+1=>CJ P L (EK P L n)
def callω(P:Program)(L:Pol):aC:=λf b H=>aij λn=>EK P L n f b H
section
variable {P:Program}{L:Pol}
def CQ:∀(n:Nat) (f:FuncId) (args:List AV) (H:ah) (r:AV × ah),EK P L n f args H=some r->EK P L (n+1) f args H=some r:=by
 intro n
 induction n with
 |zero=>intro f args H r h;cases h
 |succ n b=>
  intro f args H r h;obtain⟨M,d,e⟩:=Ql (P:=P) (L:=L) (C:=EK P L n) (f:=f) (args:=args) (H:=H) r h;exact e _ λp g=>b _ _ _ _ (d p g)
def akU:∀M:List Pt,Has (callω P L) M->∃n,Has (EK P L n) M
 |[],_=>⟨0,λ_ h=>by simp at h⟩
 |p::M,h=>by
  obtain⟨n,d⟩:=mg (h p O);obtain⟨m,hm⟩:=akU M λq b=>h q (by simp [b]);refine⟨n+m,λq b=>?_⟩;rcases zak.1 b with rfl|b
  ·exact MR (g:=λn=>EK P L n q.1 q.2.1 q.2.2.1) (λn r=>CQ n _ _ _ r) d V
  ·exact MR (g:=λn=>EK P L n q.1 q.2.1 q.2.2.1) (λn r=>CQ n _ _ _ r) (hm q b) V
def callω_of {f:FuncId}{args:List AV}{H:ah}{r:AV × ah}(h:CJ P L (callω P L) f args H=some r):callω P L f args H=some r:=by
 obtain⟨M,b,d⟩:=Ql (P:=P) (L:=L) (C:=callω P L) (f:=f) (args:=args) (H:=H) r h;obtain⟨n,e⟩:=akU M b;have:EK P L (n+1) f args H=some r:=d _ e;exact xk (g:=λn=>EK P L n f args H) (λn r=>CQ n f args H r) this
def callω_ok(g:XM P L)(hm:P.follows .mixedOrders=true):rQ P (callω P L)/\kW (callω P L):=by
 have key:∀n,rQ P (EK P L n)/\kW (EK P L n):=by
  intro n
  induction n with
  |zero=>exact⟨λf b H v H' h=>(by cases h),λf b H v H' h=>(by cases h)⟩
  |succ n d=>exact⟨TL g d.1 d.2 hm,TM g d.2⟩
 refine⟨λf b H v H' h=>?_,λf b H v H' h=>?_⟩
 ·obtain⟨n,e⟩:=mg h;exact(key n).1 f b H v H' e
 ·obtain⟨n,e⟩:=mg h;exact(key n).2 f b H v H' e
end
def adL(c:AV)(x y:Res):Res:=
 match c with
 |.s (.bool true)=>x
 |.s (.bool false)=>y
 |_=>none
def bnd {α β:Type}(x:Option (α × ah))(k:α->ah->Option β):Option β:=
 match x with
 |some (v,H)=>k v H
 |none=>none
def Vs {α β:Type}{v:α}{H:ah}{k:α->ah->Option β}:bnd (some (v,H)) k=k v H:=rfl
def gd {β:Type}(b:Bool)(x:Option (AV × ah))(H:ah)(k:AV->ah->Option β):Option β:=
 if b=true then bnd x k else k bg H
def okN(r:Option (gJ × ah)):Res:=
 match r with
 |some (t,H)=>some (.normal,t,H)
 |none=>none
section
variable {P:Program}{C:aC}{t:gJ}{H H':ah}
def adM {a b:Code}:fJ P C (.seq a b) t H=tC (fJ P C a t H) (fJ P C b):=rfl
def Zx {c:Operand}{a b:Code}:fJ P C (.cond c a b) t H=adL (dU t c) (fJ P C a t H) (fJ P C b t H):=by
 simp only [fJ,adL]
 try rfl
def XO {id:Nat}{a:Code}:fJ P C (.block id a) t H=Eb id (fJ P C a t H):=rfl
def TQ {id:Nat}{ops:Array Oper}:fJ P C (.region id ops false) t H=okN (PX P C ops.toList ops.toList t H):=by
 simp only [fJ,okN,zai,if_false]
 try rfl
def Zy {id:Nat}{ops:Array Oper}:fJ P C (.region id ops true) t H=okN (zx P C ops.toList t H):=by
 simp only [fJ,okN,if_true]
 try rfl
def Vt(ops:List Oper)(t:gJ)(j:Nat):Option AV:=(ops[j]?.bind (·.dst)).bind λd=>t[d]?
def Kq(g:Option AV)(d:Bool):Option Bool:=
 match g with
 |some (.s (.bool b))=>some (b==d)
 |some (.tup [])=>some false
 |_=>none
def gdA {β:Type}(g:Option AV)(d:Bool)(x:Option (AV × ah))(H:ah)(k:AV->ah->Option β):Option β:=
 match Kq g d with
 |some b=>gd b x H k
 |none=>none
def Qm {β:Type}{b:Bool}{x:Option (AV × ah)}{k:AV->ah->Option β}:gdA (some bg) b x H k=k bg H:=rfl
def Qn {ops:List Oper}{o:Oper}{j:Nat}{b:Bool}(h:o.guard=some (j,b)):uS ops t o=Kq (Vt ops t j) b:=by
 unfold uS Vt Kq;rw [h];simp only;cases e:ops[j]? with
 |none=>rfl
 |some p=>
  simp only [za0];cases hd:p.dst with
  |none=>rfl
  |some d=>rfl
def TS {t:gJ}{i:Nat}{v:AV}(h:i<t.length):(t.set i v).getD i bg=v:=by
 simp [List.getD,h]
def getD_set_ne {t:gJ}{i j:Nat}{v:AV}(h:i≠j):(t.set i v).getD j bg=t.getD j bg:=by
 simp [List.getD,h]
def MS {t:gJ}{i:Nat}(h:i<t.length):t[i]?=some (t.getD i bg):=by
 simp [List.getD,h]
def Vu {β:Type}{v:AV}{k:AV->ah->Option β}:bnd (fZ (some v) H) k=k v H:=rfl
def Qo {v:AV}:fZ (some v) H=some (v,H):=rfl
def aqp(P:Program)(b:List ResultVar)(r:Res):Option (AV × ah):=
 match r with
 |some (.exit _,_,_)=>none
 |some (_,t,H')=>(jH P b t H').map λv=>(v,H')
 |none=>none
def aio {f:FuncId}{fn:Func}{c:Code}{args:List AV}(b:P.funcs[f]?=some fn)(hb:fn.body=some c):
  Ad P C f args H=aqp P fn.results.toList (fJ P C c (args++List.replicate (fn.ntmps-args.length) bg) H):=by
 unfold Ad aqp;simp only [b,hb]
 try rfl
def afL {L:Pol}{f:FuncId}{args:List AV}{r:AV × ah}(b:L.adi f=none)(d:L.pure f=false)(h:Ad P (callω P L) f args H=some r):callω P L f args H=some r:=
 callω_of (by simp only [CJ,b,d,zai,if_false];exact h)
def aip {L:Pol}{f:FuncId}{args:List AV}{v v':AV}{H1:ah}(b:L.adi f=none)(d:L.pure f=true)(h:Ad P (callω P L) f args H.guard=some (v,H1))(e:bW H1 H.next 9 v=some v'):
  callω P L f args H=some (v',H):=
 callω_of (by simp only [CJ,b,d,if_true,h,e,zaj])
def G8 {L:Pol}{f:FuncId}{args:List AV}{r:AV × ah}{p:List AV->AM AV}(b:L.adi f=some p)(h:p args H=some r):callω P L f args H=some r:=
 callω_of (by simp only [CJ,b];exact h)
def adN {f:FuncId}{a c args:List AV}(h:nR P f=true):tq P C (.fn (.func f) a c) args H=C f (a++args++c) H:=by
 simp only [tq,h,if_true]
end
def dD {α:Type}{P:Program}{a:α}:eF P (Pure.pure a)=some a:=rfl
section
variable {P:Program}{t:TypeId}{k:IntKind}{a b:Int}
def Zz:qm P .lss t (.s (.int k a)) (.s (.int k b))=some (.s (.bool (decide (a<b)))):=by
 simp [qm,AV.val?,eqGuard,binOp,Op.intCmp,dD]
def ZA:qm P .leq t (.s (.int k a)) (.s (.int k b))=some (.s (.bool (decide (a<=b)))):=by
 simp [qm,AV.val?,eqGuard,binOp,Op.intCmp,dD]
def TT:qm P .gtr t (.s (.int k a)) (.s (.int k b))=some (.s (.bool (decide (b<a)))):=by
 simp [qm,AV.val?,eqGuard,binOp,Op.intCmp,dD]
def MV:qm P .geq t (.s (.int k a)) (.s (.int k b))=some (.s (.bool (decide (b<=a)))):=by
 simp [qm,AV.val?,eqGuard,binOp,Op.intCmp,dD]
def ZB:qm P .eql t (.s (.int k a)) (.s (.int k b))=some (.s (.bool (decide (a=b)))):=by
 simp [qm,AV.val?,eqGuard,binOp,Op.intCmp,dD];by_cases h:a=b <;> simp [h]
def ZC:qm P .neq t (.s (.int k a)) (.s (.int k b))=some (.s (.bool (!decide (a=b)))):=by
 simp [qm,AV.val?,eqGuard,binOp,Op.intCmp,dD];by_cases h:a=b <;> simp [h]
def bU:qm P .add t (.s (.int k a)) (.s (.int k b))=some (.s (.int k (k.wrap (a+b)))):=by
 simp [qm,AV.val?,eqGuard,binOp,Op.intArith,dD]
def kJ:qm P .sub t (.s (.int k a)) (.s (.int k b))=some (.s (.int k (k.wrap (a-b)))):=by
 simp [qm,AV.val?,eqGuard,binOp,Op.intArith,dD]
def jg:qm P .mul t (.s (.int k a)) (.s (.int k b))=some (.s (.int k (k.wrap (a*b)))):=by
 simp [qm,AV.val?,eqGuard,binOp,Op.intArith,dD]
def aiq(h:b≠0):qm P .quo t (.s (.int k a)) (.s (.int k b))=some (.s (.int k (k.wrap (a.tdiv b)))):=by
 simp [qm,AV.val?,eqGuard,binOp,Op.intDiv,dD,h]
def xu(h:b≠0):qm P .rem t (.s (.int k a)) (.s (.int k b))=some (.s (.int k (a.tmod b))):=by
 simp [qm,AV.val?,eqGuard,binOp,Op.intDiv,dD,h]
def ZE {d:Array TypeId}:kH P false d t [.s (.int k a),.s (.int k b)]=some (.s (.int k (min a b))):=by
 simp [kH,vals?,AV.val?,Builtin.min_,Builtin.min2,dD,Int.min_def];split <;> split <;> first|rfl|omega
def MW {d:Array TypeId}:kH P true d t [.s (.int k a),.s (.int k b)]=some (.s (.int k (max a b))):=by
 simp [kH,vals?,AV.val?,Builtin.max_,Builtin.max2,dD,Int.max_def];split <;> split <;> first|rfl|omega
def Vw {b:Bool}:unA P .not (.s (.bool b))=some (.s (.bool (!b))):=by
 simp [unA,AV.val?,Op.unary,dD]
def akV(b:-9223372036854775808<=a)(d:a<=9223372036854775807):IntKind.wrap .i64 a=a:=by
 simp only [IntKind.wrap,IntKind.bits,IntKind.signed];simp;omega
end
def au(x:AV)(o:Nat):Option AV:=
 match x with
 |.ref r g off=>some (.ref r g (off+o))
 |.ip cells=>some (.ip (cells.drop o))
 |_=>none
def sD {r g off o:Nat}:au (.ref r g off) o=some (.ref r g (off+o)):=rfl
def zG {cells:List AV}{o:Nat}:au (.ip cells) o=some (.ip (cells.drop o)):=rfl
def Vx {t:TypeId}{v:AV}{H:ah}(h:v.cells.all AV.aP=true)(b:t<1000000000):iq t v H=some (.ref H.next 0 0,H.new (.blk 0 t v.cells)):=by
 unfold iq;rw [if_pos ⟨h,b⟩]
def eX {l:List AV}:(AV.agg l).cells=l:=rfl
def Qp {k:IntKind}{n:Int}:(AV.s (.int k n)).cells=[.s (.int k n)]:=rfl
def Kr {b:Bool}:(AV.s (.bool b)).cells=[.s (.bool b)]:=rfl
def ji {k:IntKind}{n:Int}:(AV.s (.int k n)).aP=true:=rfl
def kY {b:Bool}:(AV.s (.bool b)).aP=true:=rfl
def Kt {r g off:Nat}:(AV.ref r g off).aP=true:=rfl
def Ku {a b:Nat}:(AV.s (.slice none a b)).aP=true:=rfl
def ZF {r:Nat}:(AV.mp r).aP=true:=rfl
section
variable {H:ah}{r r':Nat}{o:gG}
def jB:(H.new o).get r=if r=H.next then o else H.get r:=rfl
def dV:(H.put r' o).get r=if r=r' then o else H.get r:=rfl
def E9:(H.new o).next=H.next+1:=rfl
def adO:(H.put r o).base=H.base:=rfl
end
section
variable (P:Program)(C:aC)(ops:List Oper)
def Az:List Oper->List Bool->gJ->ah->Option (gJ × ah)
 |o::os,true::b,t,H=>bnd (opA P C t o H) λv H=>Az os b (wR t o.dst v) H
 |_::os,false::b,t,H=>Az os b t H
 |[],[],t,H=>some (t,H)
 |_,_,_,_=>none
def ZG:List (Option Bool):=(List.range ops.length).map λi=>if cst ops i=true then none else some (loose ops i && nK (qX ops i))
def G9:List Bool:=(List.range ops.length).map (cst ops)
end
section
variable {P:Program}{C:aC}{ops:List Oper}
def Qq:∀(l pre:List Oper) (t:gJ) (H:ah),pre++l=ops->
  iZ P C ops ((List.range' pre.length l.length).filter (cst ops)) t H=Az P C l ((List.range' pre.length l.length).map (cst ops)) t H
 |[],pre,t,H,_=>rfl
 |o::l,pre,t,H,h=>by
  have d:ops[pre.length]?=some o:=by rw [<-h];simp
  have b:=λt H=>Qq l (pre++[o]) t H (by simpa using h);simp only [zaq,zam,zao] at b;rw [zam,zc3,zay,zbX];cases hc:cst ops pre.length with
  |false=>
   simp only [zai,if_false,Az];exact b t H
  |true=>
   simp only [if_true,iZ,d,Az];cases e:opA P C t o H with
   |none=>rfl
   |some r=>exact b _ _
def unG(H:ah)(r:Option (AV × ah)):Option (AV × ah):=
 match r with
 |some (v,H')=>some (v,{ H' with base:=H.base })
 |none=>none
def Vy {H:ah}{v:AV}:unG H (some (v,H.guard))=some (v,H):=rfl
end
def nx1(n:Nat):(n=n+1)=False:=eq_false V
def ny1(n:Nat):(n+1=n)=False:=eq_false V
def nx2(n:Nat):(n=n+1+1)=False:=eq_false V
def ny2(n:Nat):(n+1+1=n)=False:=eq_false V
def nx3(n:Nat):(n=n+1+1+1)=False:=eq_false V
def ny3(n:Nat):(n+1+1+1=n)=False:=eq_false V
structure Ann where
 live:List (Nat × List Nat)
 draw:List (Nat × List (Option Bool))
 pairs:List (Nat × List (Nat × Nat))
def lF {α:Type}(d:α):List (Nat × α)->Nat->α
 |[],_=>d
 |(k,v)::l,n=>bif Nat.beq k n then v else lF d l n
def ku:Code->Nat
 |.region id _ _=>id+1
 |.seq a b=>match ku a with
  |0=>ku b
  |n+1=>n+1
 |.cond _ a b=>match ku a with
  |0=>ku b
  |n+1=>n+1
 |.block _ a=>ku a
 |.loop a=>ku a
 |_=>0
def bo {α β:Type}(x:Option α)(k:α->Option β):Option β:=
 match x with
 |some v=>k v
 |none=>none
def aU {β:Type}(c:AV)(x y:Option β):Option β:=
 match c with
 |.s (.bool true)=>x
 |.s (.bool false)=>y
 |_=>none
def Hl {β:Type}(B:List AV->ah->(List AV->ah->Option β)->Option β):Nat->List AV->ah->Option β
 |0,_,_=>none
 |n+1,s,H=>B s H (Hl B n)
def ZH {β:Type}(B:List AV->ah->(List AV->ah->Option β)->Option β):List AV->ah->Option β:=λs H=>aij λn=>Hl B n s H
abbrev Env:=List (Nat × AV)
def PE:Env->Nat->AV
 |[],_=>bg
 |(d,v)::e,i=>bif Nat.beq d i then v else PE e i
def vH(n:Nat)(e:Env):Operand->AV
 |.tmp i=>bif Nat.blt i n then PE e i else bg
 |.const v=>.s v
 |.global g=>.s (.pointer (some ⟨g,0,none⟩))
 |.func f=>.fn (.func f) [] []
def afM(e:Env)(dst:Option Tmp)(v:AV):Env:=
 match dst with
 |some d=>(d,v)::e
 |none=>e
def Qr:List AV->Nat->Env
 |[],_=>[]
 |a::l,i=>(i,a)::Qr l (i+1)
def yO(M:List Nat)(e:Env):List AV:=match M with
 |[]=>[]
 |i::M=>PE e i::yO M e
def emb(s:List AV):List Nat->Nat->Env
 |[],_=>[]
 |m::M,j=>(m,s.getD j bg)::emb s M (j+1)
section
variable {β:Type}(P:Program)(C:aC)
def air(ev:Operand->AV)(c:Call)(type:TypeId):AM AV:=λH=>
 match c.callee with
 |.value f=>tq P C (ev f) (c.args.toList.map ev) H
 |.builtin b=>iY P b c.argTypes type (c.args.toList.map ev) H
 |.invoke _ _=>none
def opE(ev:Operand->AV)(o:Oper):AM AV:=
 match o.op with
 |.move x=>fZ (some (ev x))
 |.assign x=>fZ (some (ev x))
 |.pick c a b=>fZ (cO (ev c) (ev a) (ev b))
 |.alloc e=>JR P e
 |.box e x=>iq e (ev x)
 |.build d g=>fZ (gI P d (g.toList.map λp=>(p.1,ev p.2)))
 |.buildSlice d n g=>dL P d n (g.toList.map λp=>(p.1,ev p.2))
 |.load d x=>Tc P d (ev x)
 |.store d x v=>PV P d (ev x) (ev v)
 |.nilCheck x=>fZ (aA (ev x))
 |.binOp op d x y _=>fZ (akE P op d y (ev x) (ev y))
 |.unOp op _ x=>fZ (unA P op (ev x))
 |.convert src dst x=>kP P src dst (ev x)
 |.makeFunc f a c=>fZ (some (.fn f (a.toList.map ev) (c.toList.map ev)))
 |.makeMap d none=>x9 P d
 |.makeSlice d l c=>qO P d (ev l) (ev c)
 |.slice d x lo hi h=>fZ (PU P d (ev x) (lo.map ev) (hi.map ev) (h.map ev))
 |.fieldAddr d x i=>fZ (tZ P d (ev x) i)
 |.field d x i=>fZ (PO P d (ev x) i)
 |.indexAddr d x i=>uf P d (ev x) (ev i)
 |.index d x i=>fZ (PS P d (ev x) (ev i))
 |.lookup d x i ok=>Td P d (ev x) (ev i) ok
 |.mapUpdate d m k v=>ug P d (ev m) (ev k) (ev v)
 |.extract x i=>fZ (aJ (ev x) i)
 |.call c=>air P C ev c o.type
 |_=>λ_=>none
def Kv(ev:Operand->AV):Op->Option Nat
 |.load _ x=>bT (ev x)
 |.lookup _ x _ _=>bT (ev x)
 |.indexAddr _ x _=>bT (ev x)
 |.convert _ _ x=>bT (ev x)
 |.call c=>match c.args.toList with
  |[x]=>bT (ev x)
  |_=>none
 |_=>none
def opK(ev:Operand->AV)(o:Oper)(H:ah)(k:AV->ah->Option β):Option β:=
 match o.op with
 |.move x=>k (ev x) H
 |.assign x=>k (ev x) H
 |.pick c a b=>bo (cO (ev c) (ev a) (ev b)) λv=>k v H
 |.build d e=>bo (gI P d (e.toList.map λp=>(p.1,ev p.2))) λv=>k v H
 |.nilCheck x=>bo (aA (ev x)) λv=>k v H
 |.binOp op d x y _=>bo (akE P op d y (ev x) (ev y)) λv=>k v H
 |.unOp op _ x=>bo (unA P op (ev x)) λv=>k v H
 |.makeFunc f a c=>k (.fn f (a.toList.map (ev)) (c.toList.map (ev))) H
 |.slice d x lo hi g=>bo (PU P d (ev x) (lo.map (ev)) (hi.map (ev)) (g.map (ev))) λv=>k v H
 |.fieldAddr d x i=>bo (tZ P d (ev x) i) λv=>k v H
 |.field d x i=>bo (PO P d (ev x) i) λv=>k v H
 |.index d x i=>bo (PS P d (ev x) (ev i)) λv=>k v H
 |.extract x i=>bo (aJ (ev x) i) λv=>k v H
 |_=>bnd (opE P C ev o H) k
def Qs(n:Nat)(ops:List Oper)(e:Env)(j:Nat):Option AV:=
 match ops[j]? with
 |some p=>match p.dst with
  |some d=>bif Nat.blt d n then some (PE e d) else none
  |none=>none
 |none=>none
def XP(n:Nat)(ops:List Oper)(lo:Bool)(o:Oper)(t:Env)(H:ah)(k:AV->ah->Option β):Option β:=
 match o.guard with
 |none=>match lo with
  |true=>bnd (unG H (opE P C (vH n t) o H.guard)) k
  |false=>opK P C (vH n t) o H k
 |some (j,b)=>match lo with
  |true=>gdA (Qs n ops t j) b (unG H (opE P C (vH n t) o H.guard)) H k
  |false=>gdA (Qs n ops t j) b (opE P C (vH n t) o H) H k
def akW(n:Nat)(ops:List Oper):List Oper->Env->ah->(Env->ah->Option β)->Option β
 |[],t,H,k=>k t H
 |o::rest,t,H,k=>XP P C n ops false o t H λv H=>akW n ops rest (afM t o.dst v) H k
def Kw(n:Nat):List Oper->List (Option Bool)->Env->ah->(Env->ah->Option β)->Option β
 |o::os,none::b,t,H,k=>bnd (opE P C (vH n t) o H) λv H=>Kw n os b (afM t o.dst v) H k
 |_::os,some _::b,t,H,k=>Kw n os b t H k
 |[],[],t,H,k=>k t H
 |_,_,_,_,_=>none
abbrev Log:=List (Nat × Option Nat × ah × ah)
def EL:Log->Nat->Option (Option Nat × ah × ah)
 |[],_=>none
 |(i,x)::l,n=>bif Nat.beq i n then some x else EL l n
open Classical in
def ck(w:Option Nat)(H H':ah)(k:Option β):Option β:=if∀r,w=some r->H'.get r=H.get r then k else none
open Classical in
def ckR(s b:Nat)(H H':ah)(k:Option β):Option β:=if∀r,s<=r->r<b->H'.get r=H.get r then k else none
def ckL(ops:List Oper)(s d:Nat)(b:Log):List (Nat × Nat)->Option β->Option β
 |[],k=>k
 |(j,e)::g,k=>match cst ops j with
  |true=>match EL b e with
   |some (_,H,H')=>ckR s d H H' (ckL ops s d b g k)
   |none=>none
  |false=>match EL b j,EL b e with
   |some (w,_,_),some (_,H,H')=>ck w H H' (ckL ops s d b g k)
   |_,_=>none
def JD(n:Nat)(ops:List Oper)(s d:Nat)(ps:List (Nat × Nat)):List Oper->List (Option Bool)->Nat->Env->ah->Log->(Env->ah->Option β)->Option β
 |o::os,some lo::e,i,t,H,b,k=>XP P C n ops lo o t H λv H'=>JD n ops s d ps os e (i+1) (afM t o.dst v) H' ((i,Kv (vH n t) o.op,H,H')::b) k
 |_::os,none::e,i,t,H,b,k=>JD n ops s d ps os e (i+1) t H b k
 |[],[],_,t,H,b,k=>ckL ops s d b ps (k t H)
 |_,_,_,_,_,_,_=>none
def lG(A:Ann)(n:Nat):Code->Env->ah->(Env->ah->Option β)->(Nat->Env->ah->Option β)->(Env->ah->Option β)->Option β
 |.skip=>λt H kn _ _=>kn t H
 |.region id ops d=>λt H kn _ _=>
  match d with
  |true=>Kw P C n ops.toList (lF [] A.draw id) t H λt H0=>JD P C n ops.toList H.next H0.next (lF [] A.pairs id) ops.toList (lF [] A.draw id) 0 t H0 [] kn
  |false=>akW P C n ops.toList ops.toList t H kn
 |.seq a b=>λt H kn kx kr=>lG A n a t H (λt H=>lG A n b t H kn kx kr) kx kr
 |.cond c a b=>λt H kn kx kr=>aU (vH n t c) (lG A n a t H kn kx kr) (lG A n b t H kn kx kr)
 |.block id a=>λt H kn kx kr=>lG A n a t H kn (λi t H=>match Nat.beq i id with
  |true=>kn t H
  |false=>kx i t H) kr
 |.loop a=>λt H _ kx kr=>ZH (λs H k=>lG A n a (emb s (lF [] A.live (ku a)) 0) H (λt H=>k (yO (lF [] A.live (ku a)) t) H) kx kr) (yO (lF [] A.live (ku a)) t) H
 |.exit i=>λt H _ kx _=>kx i t H
 |.ret=>λt H _ _ kr=>kr t H
 |_=>λ_ _ _ _ _=>none
def wI(A:Ann)(n:Nat):Code->(Env->ah->Option β)->(Nat->Env->ah->Option β)->(Env->ah->Option β)->List (List AV->ah->Option β)
 |.seq a b=>λkn kx kr=>wI A n a (λt H=>lG P C A n b t H kn kx kr) kx kr++wI A n b kn kx kr
 |.cond _ a b=>λkn kx kr=>wI A n a kn kx kr++wI A n b kn kx kr
 |.block id a=>λkn kx kr=>wI A n a kn (λi t H=>match Nat.beq i id with
  |true=>kn t H
  |false=>kx i t H) kr
 |.loop a=>λ_ kx kr=>ZH (λs H k=>lG P C A n a (emb s (lF [] A.live (ku a)) 0) H (λt H=>k (yO (lF [] A.live (ku a)) t) H) kx kr)::
   wI A n a (λt H=>ZH (λs H k=>lG P C A n a (emb s (lF [] A.live (ku a)) 0) H (λt H=>k (yO (lF [] A.live (ku a)) t) H) kx kr) (yO (lF [] A.live (ku a)) t) H) kx kr
 |_=>λ_ _ _=>[]
def qo(A:Ann)(n:Nat):Code->(Env->ah->Option β)->(Nat->Env->ah->Option β)->(Env->ah->Option β)->List (List AV->ah->Option β)
 |.seq a b=>λkn kx kr=>qo A n a (λt H=>lG P C A n b t H kn kx kr) kx kr++qo A n b kn kx kr
 |.cond _ a b=>λkn kx kr=>qo A n a kn kx kr++qo A n b kn kx kr
 |.block id a=>λkn kx kr=>qo A n a kn (λi t H=>match Nat.beq i id with
  |true=>kn t H
  |false=>kx i t H) kr
 |.loop a=>λ_ kx kr=>(λs H=>lG P C A n a (emb s (lF [] A.live (ku a)) 0) H (λt H=>ZH (λs H k=>lG P C A n a (emb s (lF [] A.live (ku a)) 0) H (λt H=>k (yO (lF [] A.live (ku a)) t) H) kx kr) (yO (lF [] A.live (ku a)) t) H) kx kr)::
   qo A n a (λt H=>ZH (λs H k=>lG P C A n a (emb s (lF [] A.live (ku a)) 0) H (λt H=>k (yO (lF [] A.live (ku a)) t) H) kx kr) (yO (lF [] A.live (ku a)) t) H) kx kr
 |_=>λ_ _ _=>[]
end
section
variable (P:Program)
def TU(n:Nat)(t:Env)(H:ah):List ResultVar->(List AV->Option (AV × ah))->Option (AV × ah)
 |[],k=>k []
 |.tmp d::b,k=>TU n t H b λl=>k (vH n t (.tmp d)::l)
 |.cell a e::b,k=>bnd (Tc P e (vH n t (.tmp a)) H) λv _=>TU n t H b λl=>k (v::l)
def atE(H:ah):List AV->Option (AV × ah)
 |[x]=>some (x,H)
 |xs=>some (.tup xs,H)
def PG(n:Nat)(b:List ResultVar)(t:Env)(H:ah):Option (AV × ah):=TU P n t H b (atE H)
end
def yP {β:Type}(F:(List AV->ah->Option β)->Option β):Prop:=
 ∀k r,F k=some r->(∀k',F k'=some r)∨∃s H,k s H=some r/\∀k',k' s H=some r->F k'=some r
section
variable {β:Type}
def iC(x:Option β):yP λ_=>x:=λ_ _ h=>.inl λ_=>h
def ZI(s:List AV)(H:ah):yP λ(k:List AV->ah->Option β)=>k s H:=λ_ _ h=>.inr ⟨s,H,h,λ_ h=>h⟩
def Vz {x:Option (AV × ah)}{K:(List AV->ah->Option β)->AV->ah->Option β}(h:∀v H,yP λk=>K k v H):yP λk=>bnd x (K k):=by
 rcases x with _|⟨v,H⟩
 ·exact iC none
 ·exact h v H
def aqr {b:Bool}{x:Option (AV × ah)}{H:ah}{K:(List AV->ah->Option β)->AV->ah->Option β}(h:∀v H,yP λk=>K k v H):yP λk=>gd b x H (K k):=by
 cases b
 ·exact h bg H
 ·exact Vz h
def akX {g:Option AV}{d:Bool}{x:Option (AV × ah)}{H:ah}{K:(List AV->ah->Option β)->AV->ah->Option β}(h:∀v H,yP λk=>K k v H):yP λk=>gdA g d x H (K k):=by
 unfold gdA;cases Kq g d with
 |none=>exact iC none
 |some b=>exact aqr h
def adP {c:AV}{x y:(List AV->ah->Option β)->Option β}(b:yP x)(d:yP y):yP λk=>aU c (x k) (y k):=by
 unfold aU;split
 ·exact b
 ·exact d
 ·exact iC none
variable {P:Program}{C:aC}
def afN {t:Operand->AV}{o:Oper}{H:ah}{k:AV->ah->Option β}:opK P C t o H k=bnd (opE P C t o H) k:=by
 obtain⟨dst,op,b,d,after,guard⟩:=o;have key:∀x:Option AV,bo x (λv=>k v H)=bnd (fZ x H) k:=by intro x;cases x <;> rfl
 cases op <;> first|rfl|exact key _
def Ky {n:Nat}{ops:List Oper}{lo:Bool}{o:Oper}{t:Env}{H:ah}{K:(List AV->ah->Option β)->AV->ah->Option β}(h:∀v H,yP λk=>K k v H):yP λk=>XP P C n ops lo o t H (K k):=by
 unfold XP;cases o.guard with
 |none=>
  cases lo with
  |false=>simp only [afN];exact Vz h
  |true=>exact Vz h
 |some g=>cases lo <;> exact akX h
def Qu {n:Nat}{ops:List Oper}{K:(List AV->ah->Option β)->Env->ah->Option β}(h:∀t H,yP λk=>K k t H):∀(l:List Oper) (t:Env) (H:ah),yP λk=>akW P C n ops l t H (K k)
 |[],t,H=>h t H
 |o::l,t,H=>Ky λv H=>Qu h l _ H
def zH {n:Nat}{K:(List AV->ah->Option β)->Env->ah->Option β}(h:∀t H,yP λk=>K k t H):∀(l:List Oper) (d:List (Option Bool)) (t:Env) (H:ah),yP λk=>Kw P C n l d t H (K k)
 |[],[],t,H=>h t H
 |[],f::d,t,H=>iC none
 |o::l,[],t,H=>iC none
 |o::l,none::d,t,H=>Vz λv H=>zH h l d _ H
 |o::l,some b::d,t,H=>zH h l d t H
def ais {w:Option Nat}{H H':ah}{K:(List AV->ah->Option β)->Option β}(h:yP K):yP λk=>ck w H H' (K k):=by
 unfold ck;split
 ·exact h
 ·exact iC none
def adQ {s b:Nat}{H H':ah}{K:(List AV->ah->Option β)->Option β}(h:yP K):yP λk=>ckR s b H H' (K k):=by
 unfold ckR;split
 ·exact h
 ·exact iC none
def MZ {ops:List Oper}{s d:Nat}{b:Log}{K:(List AV->ah->Option β)->Option β}(h:yP K):∀ps,yP λk=>ckL ops s d b ps (K k)
 |[]=>h
 |(j,e)::ps=>by
  simp only [ckL];cases cst ops j with
  |true=>
   cases EL b e with
   |none=>exact iC none
   |some y=>exact adQ (MZ h ps)
  |false=>
   cases EL b j with
   |none=>exact iC none
   |some x=>
    cases EL b e with
    |none=>exact iC none
    |some y=>exact ais (MZ h ps)
def CS {n:Nat}{ops:List Oper}{s e:Nat}{ps:List (Nat × Nat)}{K:(List AV->ah->Option β)->Env->ah->Option β}(h:∀t H,yP λk=>K k t H):∀(l:List Oper) (d:List (Option Bool)) (i:Nat) (t:Env) (H:ah) (b:Log),yP λk=>JD P C n ops s e ps l d i t H b (K k)
 |[],[],i,t,H,b=>MZ (h t H) ps
 |[],f::d,i,t,H,b=>iC none
 |o::l,[],i,t,H,b=>iC none
 |o::l,none::d,i,t,H,b=>CS h l d (i+1) t H b
 |o::l,some lo::d,i,t,H,b=>by
  exact Ky λv H'=>CS h l d (i+1) _ H' _
def uo {B:List AV->ah->(List AV->ah->Option β)->Option β}(d:∀s H,yP (B s H)):∀m s H r,Hl B m s H=some r->Hl B (m+1) s H=some r:=by
 intro m
 induction m with
 |zero=>intro s H r h;cases h
 |succ m e=>
  intro s H r h;rcases d s H _ r h with b|⟨i,H',b,g⟩
  ·exact b _
  ·exact g _ (e _ _ _ b)
def ait {B:List AV->ah->(List AV->ah->Option β)->Option β}(d:∀s H,yP (B s H))(s:List AV)(H:ah):ZH B s H=B s H (ZH B):=by
 have j:∀r,B s H (ZH B)=some r->ZH B s H=some r:=by
  intro r h;rcases d s H _ r h with b|⟨e,H',b,i⟩
  ·exact xk (g:=λn=>Hl B n s H) (λn r=>uo d n s H r) (n:=1) (b _)
  ·obtain⟨m,hm⟩:=mg b;exact xk (g:=λn=>Hl B n s H) (λn r=>uo d n s H r) (n:=m+1) (i _ hm)
 cases h:ZH B s H with
 |none=>
  cases k:B s H (ZH B) with
  |none=>rfl
  |some r=>rw [j r k] at h;cases h
 |some r=>
  obtain⟨m,hm⟩:=mg h;cases m with
  |zero=>cases hm
  |succ m=>
   symm;rcases d s H _ r hm with b|⟨e,H',b,i⟩
   ·exact b _
   ·exact i _ (xk (g:=λn=>Hl B n e H') (λn r=>uo d n e H' r) b)
def KA {A:Ann}{n:Nat}:∀(c:Code) (t:Env) (H:ah) (kn:(List AV->ah->Option β)->Env->ah->Option β) (kx:(List AV->ah->Option β)->Nat->Env->ah->Option β) (kr:(List AV->ah->Option β)->Env->ah->Option β),
  (∀t H,yP λk=>kn k t H)->(∀i t H,yP λk=>kx k i t H)->(∀t H,yP λk=>kr k t H)->yP λk=>lG P C A n c t H (kn k) (kx k) (kr k):=by
 intro c
 induction c with
 |skip=>intro t H kn kx kr e g o;exact e t H
 |region id ops d=>
  intro t H kn kx kr e g o;simp only [lG];cases d with
  |false=>
   exact Qu e _ _ _
  |true=>
   exact zH (λv H=>CS e _ _ _ _ _ _) _ _ _ _
 |seq a b p q=>
  intro t H kn kx kr e g o;exact p t H (λk t H=>lG P C A n b t H (kn k) (kx k) (kr k)) kx kr (λt H=>q t H kn kx kr e g o) g o
 |cond c a b p q=>
  intro t H kn kx kr e g o;exact adP (p t H kn kx kr e g o) (q t H kn kx kr e g o)
 |block id a u=>
  intro t H kn kx kr e g o;exact u t H kn (λk i t H=>match Nat.beq i id with
   |true=>kn k t H
   |false=>kx k i t H) kr e (λi t H=>by
   cases hb:Nat.beq i id with
   |true=>simp only [hb];exact e t H
   |false=>simp only [hb];exact g i t H) o
 |loop a u=>
  intro t H kn kx kr e g o;simp only [lG];generalize lF [] A.live (ku a)=M;have z:∀m s H,yP λk=>Hl (λs H j=>lG P C A n a (emb s M 0) H (λt H=>j (yO M t) H) (kx k) (kr k)) m s H:=by
   intro m
   induction m with
   |zero=>intro s H;exact iC none
   |succ m v=>intro s H;exact u _ H (λk t H=>Hl (λs H j=>lG P C A n a (emb s M 0) H (λt H=>j (yO M t) H) (kx k) (kr k)) m (yO M t) H) kx kr (λt H=>v _ H) g o
  have y:∀(k:List AV->ah->Option β) s H,yP ((λs H j=>lG P C A n a (emb s M 0) H (λt H=>j (yO M t) H) (kx k) (kr k)) s H):=λk s H=>
   u _ H (λj t H=>j (yO M t) H) (λ_=>kx k) (λ_=>kr k) (λt H=>ZI _ _) (λi t H=>iC _) (λt H=>iC _)
  intro k r h;obtain⟨m,hm⟩:=mg h;rcases z m _ _ k r hm with w|⟨D,H',w,E⟩
  ·exact .inl λk'=>xk (λn r=>uo (y k') n _ _ r) (w k')
  ·exact .inr ⟨D,H',w,λk' hk=>xk (λn r=>uo (y k') n _ _ r) (E k' hk)⟩
 |exit i=>intro t H kn kx kr e g o;exact g i t H
 |ret=>intro t H kn kx kr e g o;exact o t H
 |_=>intro t H kn kx kr e g o;exact iC none
def adR {A:Ann}{n:Nat}:∀(c:Code) (kn:Env->ah->Option β) (kx:Nat->Env->ah->Option β) (kr:Env->ah->Option β),wI P C A n c kn kx kr=qo P C A n c kn kx kr:=by
 intro c
 induction c with
 |seq a b d e=>intro kn kx kr;simp only [wI,qo,d,e]
 |cond c a b d e=>intro kn kx kr;simp only [wI,qo,d,e]
 |block id a g=>intro kn kx kr;simp only [wI,qo,g]
 |loop a g=>
  intro kn kx kr;simp only [wI,qo,g]
  congr 1
  funext s H
  exact ait (λs H=>KA a _ H (λj t H=>j (yO _ t) H) (λ_=>kx) (λ_=>kr) (λt H=>ZI _ _) (λi t H=>iC _) (λt H=>iC _)) s H
 |_=>intro kn kx kr;rfl
end
def afO:List Operand->Nat
 |[]=>0
 |.tmp d::xs=>2 ^ d ||| afO xs
 |_::xs=>afO xs
def as9(d L:Nat):Nat:=L ^^^ (L &&& 2 ^ d)
def afP(ops:List Oper)(o:Oper):Nat:=
 match o.guard with
 |none=>0
 |some (j,_)=>match ops[j]? with
  |some p=>match p.dst with
   |some d=>2 ^ d
   |none=>0
  |none=>0
def XQ(ops:List Oper)(o:Oper)(L:Nat):Nat:=
 (afO o.op.operands.toList ||| afP ops o) ||| (match o.dst with
  |some d=>as9 d L
  |none=>L)
def TV(ops:List Oper):List Oper->Nat->Nat
 |[],L=>L
 |o::os,L=>XQ ops o (TV ops os L)
def adS(ops:List Oper):List Oper->List (Option Bool)->Nat->Nat
 |o::os,none::b,L=>XQ ops o (adS ops os b L)
 |_::os,some _::b,L=>adS ops os b L
 |_,_,L=>L
def TW(ops:List Oper):List Oper->List (Option Bool)->Nat->Nat
 |o::os,some _::b,L=>XQ ops o (TW ops os b L)
 |_::os,none::b,L=>TW ops os b L
 |_,_,L=>L
def qL:List Nat->Nat
 |[]=>0
 |i::M=>2 ^ i ||| qL M
def zJ(A:Ann):Code->Nat->(Nat->Nat)->Nat->Nat
 |.skip=>λLn _ _=>Ln
 |.region id ops d=>λLn _ _=>cond d (adS ops.toList ops.toList (lF [] A.draw id) (TW ops.toList ops.toList (lF [] A.draw id) Ln)) (TV ops.toList ops.toList Ln)
 |.seq a b=>λLn Lx Lr=>zJ A a (zJ A b Ln Lx Lr) Lx Lr
 |.cond c a b=>λLn Lx Lr=>afO [c] ||| (zJ A a Ln Lx Lr ||| zJ A b Ln Lx Lr)
 |.block id a=>λLn Lx Lr=>zJ A a Ln (λi=>cond (Nat.beq i id) Ln (Lx i)) Lr
 |.loop a=>λ_ _ _=>qL (lF [] A.live (ku a))
 |.exit i=>λ_ Lx _=>Lx i
 |.ret=>λ_ _ Lr=>Lr
 |_=>λ_ _ _=>0
def akY:List (Option Bool)->List (Option Bool)->Bool
 |[],[]=>true
 |none::a,none::b=>akY a b
 |some x::a,some y::b=>(x==y) && akY a b
 |_,_=>false
def apU:List (Nat × Nat)->List (Nat × Nat)->Bool
 |[],[]=>true
 |(a,b)::l,(c,d)::m=>Nat.beq a c && (Nat.beq b d && apU l m)
 |_,_=>false
def Qv(A:Ann)(n:Nat):Code->Nat->(Nat->Nat)->Nat->Bool
 |.region id ops d=>λ_ _ _=>cond d (Va ops.toList && (apU (mQ ops.toList) (lF [] A.pairs id) && akY (ZG ops.toList) (lF [] A.draw id))) true
 |.seq a b=>λLn Lx Lr=>Qv A n a (zJ A b Ln Lx Lr) Lx Lr && Qv A n b Ln Lx Lr
 |.cond _ a b=>λLn Lx Lr=>Qv A n a Ln Lx Lr && Qv A n b Ln Lx Lr
 |.block id a=>λLn Lx Lr=>Qv A n a Ln (λi=>cond (Nat.beq i id) Ln (Lx i)) Lr
 |.loop a=>λ_ Lx Lr=>(let M:=qL (lF [] A.live (ku a));let X:=zJ A a M Lx Lr;Nat.beq (M ||| X) M && Qv A n a M Lx Lr)
 |_=>λ_ _ _=>true
structure Ag(n L:Nat)(t:gJ)(e:Env):Prop where
 len:t.length=n
 get:∀i,i<n->L.testBit i=true->t.getD i bg=PE e i
def Ag.sub {n L b:Nat}{t:gJ}{e:Env}(h:Ag n L t e)(hs:∀i,b.testBit i=true->L.testBit i=true):Ag n b t e:=⟨h.len,λi d hi=>h.get i d (hs i hi)⟩
def Ag.left {n L b:Nat}{t:gJ}{e:Env}(h:Ag n (L ||| b) t e):Ag n L t e:=h.sub λi hi=>by rw [zcF,hi];rfl
def Ag.right {n L b:Nat}{t:gJ}{e:Env}(h:Ag n (L ||| b) t e):Ag n b t e:=h.sub λi hi=>by rw [zcF,hi];simp
def VA {i n:Nat}(h:i<n):Nat.blt i n=true:=by simpa [Nat.blt_eq] using h
def Qw {i n:Nat}(h:n<=i):Nat.blt i n=false:=by
 cases hb:Nat.blt i n with
 |false=>rfl
 |true=>rw [Nat.blt_eq] at hb;omega
def vI {d:Nat}:(2 ^ d).testBit d=true:=by rw [zc6];simp
def VB:∀(xs:List Operand) (d:Nat),Operand.tmp d∈xs->(afO xs).testBit d=true
 |x::xs,d,h=>by
  rcases zak.1 h with rfl|h
  ·simp only [afO];rw [zcF,vI];rfl
  ·have:=VB xs d h;cases x with
   |tmp e=>simp only [afO];rw [zcF,this];simp
   |_=>exact this
def Ag.tmp {n L:Nat}{t:gJ}{e:Env}(h:Ag n L t e){d:Nat}(hd:L.testBit d=true):t.getD d bg=vH n e (.tmp d):=by
 have g:=h.len;rcases zaR d n with b|b
 ·simp only [vH,VA b,cond_true];exact h.get d b hd
 ·simp only [vH,Qw b,cond_false];simp [List.getD,g,b]
def Ag.eval {n:Nat}{xs:List Operand}{t:gJ}{e:Env}(h:Ag n (afO xs) t e){x:Operand}(b:x∈xs):dU t x=vH n e x:=by
 cases x with
 |tmp d=>exact h.tmp (VB xs d b)
 |_=>rfl
def Ag.put {n L:Nat}{t:gJ}{e:Env}{o:Oper}{ops:List Oper}(h:Ag n (XQ ops o L) t e)(v:AV):Ag n L (wR t o.dst v) (afM e o.dst v):=by
 have g:=h.right;cases hd:o.dst with
 |none=>rw [hd] at g;exact g
 |some d=>
  rw [hd] at g;have k:=h.len;refine⟨by simp [wR,h.len],λi j hi=>?_⟩;by_cases b:d=i
  ·subst b;simp only [wR,afM,PE,Nat.beq_refl,cond_true];rw [TS V]
  ·have hb:Nat.beq d i=false:=zdM.2 λh=>b (zbK h);simp only [wR,afM,PE,hb,cond_false];rw [getD_set_ne b];refine g.get i j ?_;simp only [as9,Nat.testBit_xor,Nat.testBit_and,zc6,hi,b];simp
section
variable {β:Type}{P:Program}{C:aC}{n:Nat}
def aqs {t:gJ}{o:Oper}:opA P C t o=opE P C (dU t) o:=by
 obtain⟨dst,op,b,d,after,guard⟩:=o;cases op <;> first|rfl|(rename_i x;cases x <;> rfl)|(rename_i x y;cases y <;> rfl)
def ZJ {ev d:Operand->AV}{o:Oper}(h:∀x∈o.op.operands.toList,ev x=d x):opE P C ev o=opE P C d o:=by
 obtain⟨dst,op,w,z,after,guard⟩:=o;have mp:∀(j:Array (Nat × Operand)),(∀x∈(j.toList.map (·.2)),ev x=d x)->j.toList.map (λp=>(p.1,ev p.2))=j.toList.map λp=>(p.1,d p.2):=λps A=>
  zbs λp hm=>by rw [A p.2 (zaJ.2 ⟨p,hm,rfl⟩)]
 have q:∀(x:Option Operand),(∀y∈x.toArray.toList,ev y=d y)->x.map ev=x.map d:=λx e=>by
  cases x with
  |none=>rfl
  |some y=>simp only [zaj,e y O]
 simp only at h;cases op with
 |build u j=>simp only [opE,mp j λx e=>h x (by simpa [Op.operands] using e)]
 |buildSlice u m j=>simp only [opE,mp j λx e=>h x (by simpa [Op.operands] using e)]
 |makeFunc f a c=>
  simp only [opE];rw [zbs (f:=ev) (g:=d) (l:=a.toList) λx e=>h x (by simp [Op.operands];exact .inl (by simpa using e)),zbs (f:=ev) (g:=d) (l:=c.toList) λx e=>h x (by simp [Op.operands];exact .inr (by simpa using e))]
 |makeMap u r=>cases r <;> rfl
 |slice u x lo hi D=>
  simp only [opE];rw [h x (by simp [Op.operands]),q lo λy k=>h y (by simp [Op.operands];exact .inr (.inl (by simpa using k))),q hi λy k=>h y (by simp [Op.operands];exact .inr (.inr (.inl (by simpa using k)))),q D λy k=>h y (by simp [Op.operands];exact .inr (.inr (.inr (by simpa using k))))]
 |call c=>
  obtain⟨v,i,E⟩:=c;have ha:i.toList.map ev=i.toList.map d:=zbs λx e=>h x (by simp [Op.operands,Call.operands];exact .inr (by simpa using e));cases v with
  |value f=>
   simp only [opE]
   funext H
   simp only [air];rw [ha,h f (by simp [Op.operands,Call.operands])]
  |builtin b=>
   simp only [opE]
   funext H
   simp only [air];rw [ha]
  |invoke r m=>rfl
 |_=>first|rfl|(simp only [opE,h _ (show _ from(by simp [Op.operands]))];done)|(simp [Op.operands] at h;simp only [opE,h])
def Ag.op {L:Nat}{t:gJ}{e:Env}{ops:List Oper}{o:Oper}(h:Ag n (XQ ops o L) t e):opA P C t o=opE P C (vH n e) o:=by
 rw [aqs];exact ZJ λx b=>h.left.left.eval b
def Le(x y:Option β):Prop:=∀r,x=some r->y=some r
def Le.refl(x:Option β):Le x x:=λ_ h=>h
def Le.bnd {α:Type}{x:Option (α × ah)}{k k':α->ah->Option β}(h:∀v H,Le (k v H) (k' v H)):Le (bnd x k) (bnd x k'):=by
 rcases x with _|⟨v,H⟩
 ·exact Le.refl _
 ·exact h v H
def VD {L:Nat}{t:gJ}{e:Env}{ops:List Oper}{lo:Bool}{o:Oper}(h:Ag n (XQ ops o L) t e){H:ah}{k k':AV->ah->Option β}(hk:∀v H,Le (k' v H) (k v H)):Le (XP P C n ops lo o e H k') (bnd (nO P C ops lo o t H) k):=by
 have g:opA P C t o=opE P C (vH n e) o:=h.op;unfold XP nO;cases u:o.guard with
 |none=>
  simp only [uS,u];cases lo with
  |false=>simp only [zai,if_false,afN,g];exact Le.bnd hk
  |true=>
   simp only [if_true,opG,g];exact Le.bnd hk
 |some gd=>
  obtain⟨j,m⟩:=gd;rw [Qn u];have i:=h.left.right;simp only [afP,u] at i;have w:∀v,Qs n ops e j=some v->Vt ops t j=some v:=by
   intro v hv;unfold Qs at hv;unfold Vt;cases A:ops[j]? with
   |none=>rw [A] at hv;cases hv
   |some p=>
    rw [A] at hv i;simp only at hv i;simp only [za0];cases hd:p.dst with
    |none=>rw [hd] at hv;cases hv
    |some d=>
     rw [hd] at hv i;simp only at hv i;simp only [za0];rcases zaR d n with q|q
     ·rw [VA q] at hv;have:=i.len;rw [MS V,i.get d q vI];exact hv
     ·rw [Qw q] at hv;cases hv
  simp only;cases y:Qs n ops e j with
  |none=>intro r z;cases lo <;> simp [gdA,Kq] at z
  |some v=>
   rw [w v y];simp only [gdA];cases Kq (some v) m with
   |none=>intro r z;cases lo <;> cases z
   |some b=>
    cases b
    ·cases lo <;> exact hk _ _
    ·cases lo with
     |false=>simp only [gd,if_true,zai,if_false,g];exact Le.bnd hk
     |true=>simp only [gd,if_true,opG,g];exact Le.bnd hk
def ZK {ops:List Oper}{L:Nat}{k:gJ->ah->Option β}{k':Env->ah->Option β}(hk:∀t e H,Ag n L t e->Le (k' e H) (k t H)):∀(l:List Oper) (t:gJ) (e:Env) (H:ah),Ag n (TV ops l L) t e->Le (akW P C n ops l e H k') (bnd (PX P C ops l t H) k)
 |[],t,e,H,h=>hk t e H h
 |o::l,t,e,H,h=>by
  rw [Aw];have:=VD (P:=P) (C:=C) (lo:=false) h (H:=H) (k:=λv H=>bnd (PX P C ops l (wR t o.dst v) H) k) (k':=λv H=>akW P C n ops l (afM e o.dst v) H k') λv H=>ZK hk l _ _ H (h.put v);refine λr d=>?_;have b:=this r d;cases hs:nO P C ops false o t H with
  |none=>rw [hs] at b;cases b
  |some q=>rw [hs] at b;exact b
def Ho {ops:List Oper}{L:Nat}{k:gJ->ah->Option β}{k':Env->ah->Option β}(hk:∀t e H,Ag n L t e->Le (k' e H) (k t H)):∀(l:List Oper) (d:List (Option Bool)) (t:gJ) (e:Env) (H:ah),Ag n (adS ops l d L) t e->Le (Kw P C n l d e H k') (bnd (Az P C l (d.map λf=>f.isNone) t H) k)
 |[],[],t,e,H,h=>hk t e H h
 |[],f::d,t,e,H,h=>λr g=>by cases g
 |o::l,[],t,e,H,h=>λr g=>by cases g
 |o::l,none::d,t,e,H,h=>by
  simp only [Kw,zay,zcO,Az];rw [Ag.op (P:=P) (C:=C) h];cases opE P C (vH n e) o H with
  |none=>exact Le.refl _
  |some q=>exact Ho hk l d _ _ _ (Ag.put h _)
 |o::l,some b::d,t,e,H,h=>Ho hk l d _ _ H h
def aiu {t:gJ}{ev:Operand->AV}{o:Oper}(h:∀x∈o.op.operands.toList,dU t x=ev x):lY t o.op=Kv ev o.op:=by
 obtain⟨dst,op,d,e,after,guard⟩:=o;simp only at h;cases op with
 |call c=>
  obtain⟨g,b,i⟩:=c;simp only [lY,Kv];have ha:∀x∈b.toList,dU t x=ev x:=λx j=>h x (by simp [Op.operands,Call.operands];exact .inr (by simpa using j));generalize b.toList=l at ha
  match l with
  |[]=>rfl
  |[x]=>simp only [ha x O]
  |x::y::l=>rfl
 |_=>first|rfl|(simp [Op.operands] at h;simp only [lY,Kv,h])
def Hq {ops:List Oper}{s:Nat}{ps:List (Nat × Nat)}{t0:gJ}{H0:ah}{L:Nat}{k':Env->ah->Option β}{r:β}:∀(l:List Oper) (i:Nat) (t:gJ) (e:Env) (H:ah) (d:Log),i+l.length=ops.length->ops.drop i=l->Gu P C ops i t0 H0=some (t,H)->
  Ag n (TW ops l ((List.range' i l.length).map λi=>if cst ops i=true then none else some (loose ops i && nK (qX ops i))) L) t e->
  (∀j w A D,EL d j=some (w,A,D)->∃W tb,Gu P C ops j t0 H0=some (W,A)/\w=lY W (qX ops j)/\Gu P C ops (j+1) t0 H0=some (tb,D))->
  JD P C n ops s H0.next ps l ((List.range' i l.length).map λi=>if cst ops i=true then none else some (loose ops i && nK (qX ops i))) i e H d k'=some r->
  ∃t' e' H',gy P C ops (nT ops) t0 H0=some (t',H')/\(∀p∈ps,agree P C ops s t0 H0 p)/\Ag n L t' e'/\k' e' H'=some r
 |[],i,t,e,H,d,K,hd,hs,b,g,h=>by
  have hi:i=ops.length:=by simpa using K
  subst hi;refine⟨t,e,H,hs,?_⟩;simp only [zao,List.range'_zero,zbJ,JD] at h;have X:Ag n L t e:=b
  clear hs hd K b
  induction ps with
  |nil=>exact⟨λp u=>(by simp at u),X,h⟩
  |cons p ps ih=>
   obtain⟨j,e'⟩:=p;simp only [ckL] at h;cases z:cst ops j with
   |true=>
    rw [z] at h;simp only at h;cases E:EL d e' with
    |none=>rw [E] at h;cases h
    |some y=>
     obtain⟨w',A,D⟩:=y;rw [E] at h;simp only [ckR] at h;split at h
     ·rename_i F;obtain⟨i1,i2⟩:=ih h;refine⟨λp u=>?_,i2⟩;rcases zak.1 u with rfl|u
      ·unfold agree;rw [if_pos z];intro te He aa ab M Q r ad ae;obtain⟨af,ag,s4,s5,s6⟩:=g e' w' A D E;rw [s4] at M;rw [s6] at Q;cases M;cases Q;exact F r ad ae
      ·exact i1 p u
     ·cases h
   |false=>
    rw [z] at h;simp only at h;cases m:EL d j with
    |none=>rw [m] at h;cases h
    |some x=>
    obtain⟨w,Hx,Hy⟩:=x;cases E:EL d e' with
    |none=>rw [m,E] at h;cases h
    |some y=>
     obtain⟨w',A,D⟩:=y;rw [m,E] at h;simp only [ck] at h;split at h
     ·rename_i F;obtain⟨i1,i2⟩:=ih h;refine⟨λp u=>?_,i2⟩;rcases zak.1 u with rfl|u
      ·unfold agree;rw [if_neg (by rw [z];decide)];intro tj Hj te He aa ab q1 M Q r hr;obtain⟨W,tb,s1,s2,s3⟩:=g j w Hx Hy m;obtain⟨af,ag,s4,s5,s6⟩:=g e' w' A D E;rw [s1] at q1;rw [s4] at M;rw [s6] at Q;cases q1;cases M;cases Q;exact F r (by rw [s2];exact hr)
      ·exact i1 p u
     ·cases h
 |o::l,i,t,e,H,d,K,hd,hs,b,g,h=>by
  have hi:i<ops.length:=by simp at K;omega
  have ho:ops[i]?=some o:=by
   have:=zaF (xs:=ops) (i:=i) (j:=0);rw [hd] at this
   simpa using this.symm
  have R:ops.drop (i+1)=l:=by
   rw [<-zbL,hd];rfl
  rw [zam,zc3,zay] at h b;cases hc:cst ops i with
  |true=>
   simp only [hc,if_true,JD] at h;simp only [hc,if_true,TW] at b;refine Hq l (i+1) t e H d (by simp at K;omega) R ?_ b g h;rw [wZ,hs];simp [hc]
  |false=>
   simp only [hc,zai,if_false,JD] at h;simp only [hc,zai,if_false,TW] at b;rw [vw ho] at h;have hw:lY t o.op=Kv (vH n e) o.op:=aiu λx hx=>Ag.eval (Ag.left (Ag.left b)) hx;have key:=VD (P:=P) (C:=C) (lo:=loose ops i && nK o.op) b (H:=H) (β:=β)
    (k:=λv H'=>JD P C n ops s H0.next ps l ((List.range' (i+1) l.length).map λi=>if cst ops i=true then none else some (loose ops i && nK (qX ops i))) (i+1) (afM e o.dst v) H' ((i,Kv (vH n e) o.op,H,H')::d) k')
    (λv H=>Le.refl _) r h
   cases G:nO P C ops (loose ops i && nK o.op) o t H with
   |none=>rw [G] at key;cases key
   |some q=>
    obtain⟨v,H'⟩:=q;rw [G] at key;simp only [bnd] at key;have T:Gu P C ops (i+1) t0 H0=some (wR t o.dst v,H'):=by
     rw [wZ,hs];simp [hc,ho,G,gy]
    refine Hq l (i+1) _ _ H' _ (by simp at K;omega) R T (Ag.put b v) (λj w A D m=>?_) key;simp only [EL] at m;cases hb:Nat.beq i j with
    |true=>
     have:i=j:=zbK hb;subst this;rw [hb] at m;simp only [cond_true,zaa,zad] at m;obtain⟨rfl,rfl,rfl⟩:=m;exact⟨t,_,hs,by rw [vw ho,hw],T⟩
    |false=>
     rw [hb] at m;exact g j w A D m
def VE {i:Nat}:∀{M:List Nat},(qL M).testBit i=true->i∈M
 |[],h=>by simp [qL] at h
 |m::M,h=>by
  simp only [qL,zcF,zc6,zbk,decide_eq_true_eq] at h;rcases h with rfl|h
  ·simp
  ·exact za9 _ (VE h)
def VF {e:Env}:∀(M pre:List Nat) (i:Nat),i∈M->PE (emb (yO (pre++M) e) M pre.length) i=PE e i
 |m::M,pre,i,h=>by
  simp only [emb,PE];cases hb:Nat.beq m i with
  |true=>
   have:m=i:=zbK hb;subst this;simp only [cond_true];have:∀pre:List Nat,(yO (pre++m::M) e).getD pre.length bg=PE e m:=by
    intro pre
    induction pre with
    |nil=>rfl
    |cons x pre d=>exact d
   exact this pre
  |false=>
   simp only [cond_false];have b:i≠m:=λe=>by subst e;rw [show Nat.beq i i=true from Nat.beq_refl i] at hb;cases hb
   have:=VF (e:=e) M (pre++[m]) i ((zak.1 h).resolve_left b)
   simpa using this
def Ag.emb {M:List Nat}{t:gJ}{e:Env}(h:Ag n (qL M) t e):Ag n (qL M) t (Go.Proofs.YtljogojaihgdlaaGreat.emb (yO M e) M 0):=by
 refine⟨h.len,λi b hi=>?_⟩;have:=VF (e:=e) M [] i (VE hi);simp only [zaM,zao] at this;rw [this];exact h.get i b hi
def Qx(kn:gJ->ah->Option β)(kx:Nat->gJ->ah->Option β)(kr:gJ->ah->Option β):Res->Option β
 |some (.normal,t,H)=>kn t H
 |some (.exit i,t,H)=>kx i t H
 |some (.ret,t,H)=>kr t H
 |none=>none
variable {kn:gJ->ah->Option β}{kx:Nat->gJ->ah->Option β}{kr:gJ->ah->Option β}
def ZL {x:Option (gJ × ah)}:Qx kn kx kr (okN x)=bnd x kn:=by rcases x with _|⟨t,H⟩ <;> rfl
def VG {r:Res}{g:Run}:Qx kn kx kr (tC r g)=Qx (λt H=>Qx kn kx kr (g t H)) kx kr r:=by
 rcases r with _|⟨e,t,H⟩
 ·rfl
 ·cases e <;> rfl
def ZM {id:Nat}{r:Res}:Qx kn kx kr (Eb id r)=Qx kn (λi t H=>match Nat.beq i id with
 |true=>kn t H
 |false=>kx i t H) kr r:=by
 rcases r with _|⟨e,t,H⟩
 ·rfl
 ·cases e with
  |exit i=>
   simp only [Eb,Qx];by_cases hi:i=id
   ·subst hi;simp only [if_true,Nat.beq_refl]
   ·have:Nat.beq i id=false:=zdM.2 λh=>hi (zbK h);simp only [hi,if_false,this]
  |normal=>rfl
  |ret=>rfl
def adT {c:AV}{x y:Res}:Qx kn kx kr (adL c x y)=aU c (Qx kn kx kr x) (Qx kn kx kr y):=by
 unfold adL aU;split <;> first|rfl|skip
 all_goals (try(split <;> first|rfl|contradiction))
def TY:∀{a b:List (Option Bool)},akY a b=true->a=b
 |[],[],_=>rfl
 |none::a,none::b,h=>by rw [TY (a:=a) (b:=b) h]
 |some x::a,some y::b,h=>by
  simp only [akY,zah,beq_iff_eq] at h;rw [h.1,TY h.2]
 |[],_::_,h=>by cases h
 |none::_,[],h=>by cases h
 |some _::_,[],h=>by cases h
 |none::_,some _::_,h=>by cases h
 |some _::_,none::_,h=>by cases h
def ZN:∀{a b:List (Nat × Nat)},apU a b=true->a=b
 |[],[],_=>rfl
 |(a,b)::l,(c,d)::m,h=>by
  simp only [apU,zah] at h;rw [zbK h.1,zbK h.2.1,ZN h.2.2]
 |[],_::_,h=>by cases h
 |_::_,[],h=>by cases h
open Classical in
def Ht(A:Ann):∀(c:Code) (Ln:Nat) (Lx:Nat->Nat) (Lr:Nat),Qv A n c Ln Lx Lr=true->∀(kn:gJ->ah->Option β) (kn':Env->ah->Option β) (kx:Nat->gJ->ah->Option β) (kx':Nat->Env->ah->Option β) (kr:gJ->ah->Option β) (kr':Env->ah->Option β),
  (∀t t' H,Ag n Ln t t'->Le (kn' t' H) (kn t H))->(∀i t t' H,Ag n (Lx i) t t'->Le (kx' i t' H) (kx i t H))->(∀t t' H,Ag n Lr t t'->Le (kr' t' H) (kr t H))->
  ∀t t' H,Ag n (zJ A c Ln Lx Lr) t t'->Le (lG P C A n c t' H kn' kx' kr') (Qx kn kx kr (fJ P C c t H)):=by
 intro c
 induction c with
 |skip=>intro Ln Lx Lr hc kn kn' kx kx' kr kr' hn hx hr t t' H h;exact hn t t' H h
 |region id ops d=>
  intro Ln Lx Lr hc kn kn' kx kx' kr kr' hn hx hr t t' H h;cases d with
  |false=>
   rw [TQ,ZL];exact ZK hn _ t t' H h
  |true=>
   simp only [Qv,cond_true,zah] at hc;obtain⟨h1,h2,h3⟩:=hc;have h2:=ZN h2;have h3:=TY h3;have hfc:(lF [] A.draw id).map (λf=>f.isNone)=G9 ops.toList:=by
    rw [<-h3,ZG,G9,zc0]
    apply zbs
    intro i _;simp only [Function.comp];cases cst ops.toList i <;> rfl
   rw [Zy,ZL];have e1:iZ P C ops.toList (pR ops.toList) t H=Az P C ops.toList (G9 ops.toList) t H:=by
    have:=Qq (P:=P) (C:=C) (ops:=ops.toList) ops.toList [] t H rfl
    simpa [pR,G9,zcD] using this
   have hfl:lF [] A.draw id=(List.range' 0 ops.toList.length).map λi=>if cst ops.toList i=true then none else some (loose ops.toList i && nK (qX ops.toList i)):=by
    rw [<-h3,ZG,zcD]
   refine λr hr0=>?_;have hr1:=Ho (P:=P) (C:=C) (β:=β) (ops:=ops.toList) (L:=TW ops.toList ops.toList (lF [] A.draw id) Ln)
    (k:=λt0 H0=>if(∀p∈lF [] A.pairs id,agree P C ops.toList H.next t0 H0 p) then bnd (gy P C ops.toList (nT ops.toList) t0 H0) kn else none)
    (k':=λt H0=>JD P C n ops.toList H.next H0.next (lF [] A.pairs id) ops.toList (lF [] A.draw id) 0 t H0 [] kn') (λt0 e0 H0 ht r hr=>by
     rw [hfl] at hr ht;obtain⟨t1,e1,H1,d1,d2,d3,d4⟩:=Hq (t0:=t0) (H0:=H0) ops.toList 0 t0 e0 H0 [] O O  (by simp [Gu,gy]) ht (λj w Ha Hb hj=>by cases hj) hr;rw [if_pos d2,d1];exact hn t1 e1 H1 d3 r d4) ops.toList (lF [] A.draw id) t t' H h r hr0
   rw [hfc] at hr1;cases hcl:Az P C ops.toList (G9 ops.toList) t H with
   |none=>rw [hcl] at hr1;cases hr1
   |some q=>
    obtain⟨t0,H0⟩:=q;rw [hcl] at hr1;simp only [bnd] at hr1;split at hr1
    ·rename_i d2;have:zx P C ops.toList t H=gy P C ops.toList (nT ops.toList) t0 H0:=by
      unfold zx;rw [if_pos h1,e1,hcl];simp only;rw [<-h2] at d2;split
      ·rfl
      ·rw [if_pos d2]
     rw [this];exact hr1
    ·cases hr1
 |seq a b iha ihb=>
  intro Ln Lx Lr hc kn kn' kx kx' kr kr' hn hx hr t t' H h;simp only [Qv,zah] at hc;rw [adM,VG];exact iha _ Lx Lr hc.1 _ _ kx kx' kr kr' (λt t' H ht=>ihb Ln Lx Lr hc.2 kn kn' kx kx' kr kr' hn hx hr t t' H ht) hx hr t t' H h
 |cond c a b iha ihb=>
  intro Ln Lx Lr hc kn kn' kx kx' kr kr' hn hx hr t t' H h;simp only [Qv,zah] at hc;have ha:=iha Ln Lx Lr hc.1 kn kn' kx kx' kr kr' hn hx hr t t' H h.right.left;have hb:=ihb Ln Lx Lr hc.2 kn kn' kx kx' kr kr' hn hx hr t t' H h.right.right;rw [Zx,adT,h.left.eval (x:=c) (zaU.2 rfl)];show Le (aU (vH n t' c) _ _) _;unfold aU;split
  ·exact ha
  ·exact hb
  ·exact Le.refl _
 |block id a ih=>
  intro Ln Lx Lr hc kn kn' kx kx' kr kr' hn hx hr t t' H h;rw [XO,ZM];refine ih Ln _ Lr hc kn kn' _ _ kr kr' hn (λi t t' H ht=>?_) hr t t' H h;cases hb:Nat.beq i id with
  |true=>simp only [hb,cond_true] at ht ⊢;exact hn t t' H ht
  |false=>simp only [hb,cond_false] at ht ⊢;exact hx i t t' H ht
 |loop a ih=>
  intro Ln Lx Lr hc kn kn' kx kx' kr kr' hn hx hr t t' H h;simp only [Qv,zah] at hc;simp only [zJ] at h;simp only [lG];generalize lF [] A.live (ku a)=M at hc h ⊢;obtain⟨hs,hc⟩:=hc;have hs:qL M ||| zJ A a (qL M) Lx Lr=qL M:=zbK hs
  have hsub:∀i,(zJ A a (qL M) Lx Lr).testBit i=true->(qL M).testBit i=true:=λi hi=>by rw [<-hs,zcF,hi];simp
  let B:List AV->ah->(List AV->ah->Option β)->Option β:=λs H k=>lG P C A n a (emb s M 0) H (λt H=>k (yO M t) H) kx' kr'
  have it:∀m t t' H,Ag n (qL M) t t'->Le (Hl B m (yO M t') H) (Qx kn kx kr (CG (fJ P C a) m t H)):=by
   intro m
   induction m with
   |zero=>intro t t' H _ r hr;cases hr
   |succ m ihm=>
    intro t t' H ht;show Le (lG P C A n a (emb (yO M t') M 0) H (λt H=>Hl B m (yO M t) H) kx' kr') (Qx kn kx kr (tC (fJ P C a t H) (CG (fJ P C a) m)));rw [VG];exact ih (qL M) Lx Lr hc _ _ kx kx' kr kr' (λt t' H hh=>ihm t t' H hh) hx hr _ _ H (ht.emb.sub hsub)
  rw [show fJ P C (.loop a)=XH (fJ P C a) from rfl];intro r hf;obtain⟨m,hm⟩:=mg hf;have hm:=it m t t' H h r hm;cases hr:CG (fJ P C a) m t H with
  |none=>rw [hr] at hm;cases hm
  |some q=>rw [show XH (fJ P C a) t H=some q from xk (λn r=>J4 n t H r) hr,<-hr];exact hm
 |exit i=>intro Ln Lx Lr hc kn kn' kx kx' kr kr' hn hx hr t t' H h;exact hx i t t' H h
 |ret=>intro Ln Lx Lr hc kn kn' kx kx' kr kr' hn hx hr t t' H h;exact hr t t' H h
 |_=>intro Ln Lx Lr hc kn kn' kx kx' kr kr' hn hx hr t t' H h r hr;cases hr
end
def SV:List ResultVar->Nat
 |[]=>0
 |.tmp d::b=>2 ^ d ||| SV b
 |.cell a _::b=>2 ^ a ||| SV b
def Nh {P:Program}{n:Nat}{t:gJ}{e:Env}{H:ah}:∀(b:List ResultVar) (k:List AV->Option (AV × ah)),Ag n (SV b) t e->TU P n e H b k=(b.mapM (Vl P t H)).bind k
 |[],k,_=>by simp [TU]
 |.tmp d::b,k,h=>by
  rw [zby,TU,Nh b _ h.right,<-h.left.tmp vI];simp only [Vl,zcm,za0,zcN];cases b.mapM (Vl P t H) <;> rfl
 |.cell a g::b,k,h=>by
  rw [zby,TU,<-h.left.tmp vI];simp only [Vl];cases Tc P g (t.getD a bg) H with
  |none=>rfl
  |some r=>
   simp only [bnd,zaj,zcm,za0,zcN];rw [Nh b _ h.right];cases b.mapM (Vl P t H) <;> rfl
def ZO {P:Program}{n:Nat}{t:gJ}{e:Env}{H:ah}(b:List ResultVar)(h:Ag n (SV b) t e):(jH P b t H).map (λv=>(v,H))=PG P n b e H:=by
 unfold PG jH;rw [Nh b _ h];cases b.mapM (Vl P t H) with
 |none=>rfl
 |some l=>
  simp only [za0]
  match l with
  |[]=>rfl
  |[x]=>rfl
  |x::y::l=>rfl
def aqt(A:Ann)(fn:Func)(c:Code):Bool:=Qv A fn.ntmps c (SV fn.results.toList) (λ_=>0) (SV fn.results.toList)
def Nk(n:Nat):∀(args:List AV) (i j:Nat),j<n->(args++List.replicate (n-args.length) bg).getD j bg=PE (Qr args i) (i+j)
 |[],i,j,b=>by
  simp [Qr,PE,List.getD,b]
 |a::args,i,0,_=>by simp [Qr,PE]
 |a::args,i,j+1,b=>by
  have hb:Nat.beq i (i+(j+1))=false:=zdM.2 λh=>by have:=zbK h;omega
  simp only [Qr,PE,hb,cond_false];have:=Nk (n-1) args (i+1) j V;rw [show i+(j+1)=i+1+j by omega,<-this];simp only [zam,zbq,List.getD_cons_succ];rw [show n-(args.length+1)=n-1-args.length by omega]
def akZ {P:Program}{C:aC}{A:Ann}{f:FuncId}{fn:Func}{c:Code}{args:List AV}{H:ah}(j:P.funcs[f]?=some fn)(hb:fn.body=some c)(d:Nat.ble args.length fn.ntmps=true)(hc:aqt A fn c=true){r:AV × ah}
  (h:lG P C A fn.ntmps c (Qr args 0) H (PG P fn.ntmps fn.results.toList) (λ_ _ _=>none) (PG P fn.ntmps fn.results.toList)=some r):Ad P C f args H=some r:=by
 rw [aio j hb];have key:∀r:Res,aqp P fn.results.toList r=Qx (λt H=>(jH P fn.results.toList t H).map λv=>(v,H)) (λ_ _ _=>none) (λt H=>(jH P fn.results.toList t H).map λv=>(v,H)) r:=by
  intro r;rcases r with _|⟨e,t,H⟩
  ·rfl
  ·cases e <;> rfl
 rw [key];have d:args.length<=fn.ntmps:=Nat.le_of_ble_eq_true d;have b:(args++List.replicate (fn.ntmps-args.length) bg).length=fn.ntmps:=by simp;omega
 have g:∀t e H,Ag fn.ntmps (SV fn.results.toList) t e->Le (PG P fn.ntmps fn.results.toList e H) ((jH P fn.results.toList t H).map λv=>(v,H)):=λt e H h=>by
  rw [ZO _ h];exact Le.refl _
 exact Ht A c _ _ _ hc _ _ _ _ _ _ g (λ_ _ _ _ _=>Le.refl _) g _ _ H ⟨b,λi k _=>by have:=Nk fn.ntmps args 0 i k;rwa [za5] at this⟩ r h
def rF:Nat->List (Option Bool)->List (Option Bool)
 |0,l=>l
 |n+1,l=>some false::rF n l
abbrev OA:=Option (AV × ah)
def rnK {P:Program}{C:aC}{A:Ann}{f:FuncId}{fn:Func}{c:Code}{args:List AV}{H:ah}{s:OA}(d:P.funcs[f]?=some fn)(b:(fn.body,Nat.ble args.length fn.ntmps,aqt A fn c)=(some c,true,true))
  (hs:lG P C A fn.ntmps c (Qr args 0) H (PG P fn.ntmps fn.results.toList) (λ_ _ _=>none) (PG P fn.ntmps fn.results.toList)=s) {r:AV × ah} (h:s=some r):Ad P C f args H=some r:=by
 simp only [zad] at b;exact akZ d b.1 b.2.1 b.2.2 (hs.trans h)
def rnG {P:Program}{C:aC}(A:Ann){f:FuncId}{fn:Func}{args:List AV}{H:ah}{s:OA}(b:P.funcs[f]?=some fn)(d:(fn.body,Nat.ble args.length fn.ntmps,aqt A fn (fn.body.getD .skip))=(some (fn.body.getD .skip),true,true))
  (hs:lG P C A fn.ntmps (fn.body.getD .skip) (Qr args 0) H (PG P fn.ntmps fn.results.toList) (λ_ _ _=>none) (PG P fn.ntmps fn.results.toList)=s) {r:AV × ah} (h:s=some r):Ad P C f args H=some r:=rnK b d hs h
def kK(P:Program)(fn:Func)(n:Nat)(A:Ann)(b:Nat)(C:aC):List AV->ah->OA:=
 (wI P C A n (fn.body.getD .skip) (PG P n fn.results.toList) (λ_ _ _=>none) (PG P n fn.results.toList)).getD b λ_ _=>none
def lpE {P:Program}{fn:Func}{n:Nat}{A:Ann}{b:Nat}{C:aC}{l:List AV}{H:ah}:kK P fn n A b C l H=((qo P C A n (fn.body.getD .skip) (PG P n fn.results.toList) (λ_ _ _=>none) (PG P n fn.results.toList)).getD b λ_ _=>none) l H:=
 by unfold kK;rw [adR]
def an0:Ann:=⟨[],[],[]⟩
@[congr] def ak0 {α β:Type}{x y:Option (α × ah)}{k:α->ah->Option β}(h:x=y):bnd x k=bnd y k:=by rw [h]
@[congr] def apV {α β:Type}{x y:Option α}{k:α->Option β}(h:x=y):bo x k=bo y k:=by rw [h]
@[congr] def aiv {β:Type}{c d:AV}{x y:Option β}(h:c=d):aU c x y=aU d x y:=by rw [h]
@[congr] def ak1 {β:Type}{g g':Option AV}{b:Bool}{x:Option (AV × ah)}{H:ah}{k:AV->ah->Option β}(h:g=g'):gdA g b x H k=gdA g' b x H k:=by rw [h]
def ZP {α β:Type}{v:α}{k:α->Option β}:bo (some v) k=k v:=rfl
def KC {β:Type}{x y:Option β}:aU (.s (.bool true)) x y=x:=rfl
def Hu {β:Type}{x y:Option β}:aU (.s (.bool false)) x y=y:=rfl
section
def fl(x:AV)(off:Nat):Option AV:=
 match x with
 |.agg cells=>cells[off]?
 |.s (.agg cs)=>(cs.toList.map AV.s)[off]?
 |_=>none
def slS(m:Nat)(x:AV)(lo hi d:Option AV):Option AV:=
 match x with
  |.s (.slice none 0 0)=>match jl lo 0,jl hi 0,jl d 0 with
   |some 0,some 0,some 0=>if hi=none->d=none then some (.s (.slice none 0 0)) else none
   |_,_,_=>none
  |.sl r g off b len e ex=>match jl lo 0,jl hi len,jl d e with
   |some l,some h,some k=>
    if b=m/\l<=h/\h<=k/\k<=e/\(hi=none->d=none) then some (.sl r g (off+l*b) b (h-l) (k-l) (ex || !isNone d)) else none
   |_,_,_=>none
  |.vs n b cells=>match jl lo 0,jl hi n,d with
   |some l,some h,none=>if b=m/\l<=h/\h<=n then some (.vs (h-l) b ((cells.drop (l*b)).take ((h-l)*b))) else none
   |_,_,_=>none
  |_=>none
def jC(d:Nat->Option (Nat × Nat))(z:List AV)(b:List (Nat × AV)):Option AV:=(gu d z b).map .agg
def ldO(x:AV)(b:Option gG):Option AV:=
 match x with
 |.ref _ g off=>match b with
  |some (.blk g' _ cells)=>if g'=g then cells[off]? else none
  |_=>none
 |.ip cells=>cells[0]?
 |_=>none
def ld(x:AV):AM AV:=kU (ldO x) x
def apW(n:Nat)(x:AV)(b:Option gG):Option AV:=
 match x with
 |.ref _ g off=>match b with
  |some (.blk g' _ cells)=>if g'=g then(if off+n<=cells.length then some (.agg ((cells.drop off).take n)) else none) else none
  |_=>none
 |.ip cells=>if 0+n<=cells.length then some (.agg ((cells.drop 0).take n)) else none
 |_=>none
def lda(n:Nat)(x:AV):AM AV:=kU (apW n x) x
def st(n:Nat)(x v:AV):AM AV:=λH=>
 match x with
 |.ref r g off=>match H.get r with
  |.blk g' b cells=>
   if g'=g/\H.base<=r/\some n=some v.cells.length/\v.cells.all AV.aP=true/\off+v.cells.length<=cells.length then
    some (bg,H.put r (.blk g b (aO cells off v.cells)))
   else none
  |.map ..=>none
 |_=>none
def alc(t:TypeId)(z:List AV):AM AV:=λH=>some (.ref H.next 0 0,H.new (.blk 0 t z))
def bsl(e:TypeId)(m:Nat)(z:List AV)(len:Nat)(b:List (Nat × AV)):AM AV:=λH=>
 match gu (λi=>some (i*m,m)) (dO z len) b with
 |some cells=>if cells.all AV.aP=true then some (.sl H.next 0 0 m len len true,H.new (.blk 0 e cells)) else none
 |none=>none
def mks(e:TypeId)(m by_:Nat)(z:List AV)(len cap:AV):AM AV:=λH=>
 match len,cap with
 |.s (.int _ l),.s (.int _ c)=>
   if z.length=m/\z.all AV.aP=true/\0<=l/\l<=c/\c<=140737488355328/\by_*c<=140737488355328 then
    some (.sl H.next 0 0 m l.toNat c.toNat true,H.new (.blk 0 e (dO z c.toNat)))
   else none
 |_,_=>none
def mkm(k:IntKind):AM AV:=λH=>some (.mp H.next,H.new (.map k []))
def lkO(k:IntKind)(z:Value)(x i:AV)(ok:Bool)(d:Option gG):Option AV:=
 match x with
   |.mp _=>match i with
    |.s (.int k' n)=>match d with
     |some (.map b e)=>
      if k'=k/\b=k then
       match qW e n with
       |some v=>some (if ok then .tup [v,.s (.bool true)] else v)
       |none=>some (if ok then .tup [.s z,.s (.bool false)] else .s z)
      else none
     |_=>none
    |_=>none
   |_=>none
def lk(k:IntKind)(z:Value)(x i:AV)(ok:Bool):AM AV:=kU (lkO k z x i ok) x
def mup(k:IntKind)(x i v:AV):AM AV:=λH=>
 match x,i with
 |.mp r,.s (.int k' n)=>match H.get r with
  |.map b d=>if k'=k/\b=k/\H.base<=r then some (bg,H.put r (.map k (LX d n v))) else none
  |_=>none
 |_,_=>none
def del(k:IntKind)(x i:AV):AM AV:=λH=>
 match x,i with
 |.mp r,.s (.int k' n)=>match H.get r with
  |.map b d=>if k'=k/\b=k/\H.base<=r then some (.tup [],H.put r (.map k (Aj d n))) else none
  |_=>none
 |_,_=>none
def ixO(m:Nat)(x i:AV)(d:Option gG):Option AV:=
 match x with
  |.sl r g off b len _ _=>match i with
   |.s (.int _ n)=>if some m=some b/\akF d=g/\0<=n/\n<len then some (.ref r g (off+n.toNat*b)) else none
   |_=>none
  |.vs len b cells=>match i with
   |.s (.int _ n)=>if some m=some b/\0<=n/\n<len then some (.ip (cells.drop (n.toNat*b))) else none
   |_=>none
  |_=>none
def ix(m:Nat)(x i:AV):AM AV:=kU (ixO m x i) x
def aqu(x:AV):Option AV:=
 match x with
  |.sl _ _ _ _ len _ _=>some (.s (.int .i64 len))
  |.vs n _ _=>some (.s (.int .i64 n))
  |.s (.slice _ n _)=>some (.s (.int .i64 n))
  |_=>none
def lnS(x:AV):AM AV:=kU (λ_=>aqu x) x
def aqv(x:AV)(b:Option gG):Option AV:=
 match x with
  |.mp _=>match b with
   |some (.map _ d)=>some (.s (.int .i64 d.length))
   |_=>none
  |.s (.map none)=>some (.s (.int .i64 0))
  |_=>none
def lnM(x:AV):AM AV:=kU (aqv x) x
def app(e:TypeId)(m by_:Nat)(x y:AV):AM AV:=λH=>
 match kN y,dF H y with
 |some n,some new=>dW e m by_ x n new H
 |_,_=>none
def cpy(m:Nat)(x y:AV):AM AV:=λH=>
 match kN x,kN y,dF H y with
  |some d,some n,some new=>
   let k:=min n d
   if new.length=n*m/\new.all AV.aP=true then
    if k=0 then(match x with|.s (.string _)=>none|_=>some (.s (.int .i64 0),H)) else
    match x with
    |.sl r g off b len _ _=>match H.get r with
     |.blk g' e cells=>
      if b=m/\g'=g/\H.base<=r/\off+len*m<=cells.length then
       some (.s (.int .i64 k),H.put r (.blk g e (aO cells off (new.take (k*m)))))
      else none
     |.map ..=>none
    |_=>none
   else none
  |_,_,_=>none
def clr(m:Nat)(z:List AV)(x:AV):AM AV:=λH=>
 match x with
  |.sl r g off b len _ _=>
   if len=0 then some (.tup [],H) else
   match H.get r with
   |.blk g' d cells=>
    if b=m/\g'=g/\H.base<=r/\z.length=m/\z.all AV.aP=true/\off+len*m<=cells.length then
     some (.tup [],H.put r (.blk g d (aO cells off (dO z len))))
    else none
   |.map ..=>none
  |.s (.slice none _ _)=>some (.tup [],H)
  |_=>none
end
def sF {P:Program}{t e:TypeId}{m n:Nat}{z:List AV}{ps:List (Nat × AV)}{H:ah}(b:Ah P t=some e)(hm:szT P e=some m)(d:yN P e=some z)(g:z.length=m)(h:n*m<=16777216):dL P t n ps H=bsl e m z n ps H:=by
 simp only [dL,b,hm,d];rw [if_pos ⟨g,h⟩];rfl
def je {P:Program}{t:TypeId}{b:Array Field}{d:Nat->Option (Nat × Nat)}{z:List AV}{ps:List (Nat × AV)}(e:yN P t=some z)(g:P.underlying t=some (.struct b))(ha:b.all (λf=>(szT P f.type).isSome)=true)(h:PL P b=d):gI P t ps=jC d z ps:=by
 simp only [gI,e,g,ha,if_true,h];rfl
def Ed {P:Program}{s d:TypeId}{k1 k2 k:IntKind}{n:Int}{H:ah}(hb:Gs P s d=false)(hs:P.underlying s=some (.int k1))(hd:P.underlying d=some (.int k2)):kP P s d (.s (.int k n)) H=some (.s (.int k2 (IntKind.wrap k2 n)),H):=by
 have h:eF P (convert s d (.int k n))=some (.int k2 (IntKind.wrap k2 n)):=by
  have b:∀{α:Type} (t:TypeId) (d:TypeDesc) (f:TypeDesc->Sem α),P.underlying t=some d->eF P (underlying t >>=f)=eF P (f d):=by
   intro α t d f h;show eF P ((match P.underlying t with
    |some d=>pure d
    |none=>stuck "no such type") >>=f)=_
   rw [h];rfl
  unfold convert;rw [b s _ _ hs,b d _ _ hd];rfl
 simp only [kP,kU,bT,zc8,Ak,hb,zai,if_false,AV.val?,h,zaj]
abbrev zI:AV:=.s (.int .i64 0)
abbrev zB:AV:=.s (.bool false)
abbrev zN:AV:=.s (.slice none 0 0)
abbrev zP:AV:=.s (.pointer none)
abbrev zM:AV:=.s (.map none)
abbrev I(n:Int):AV:=.s (.int .i64 n)
abbrev B(b:Bool):AV:=.s (.bool b)
def fld {β:Type}(a:AV)(i:Nat)(H:ah)(k:AV->ah->Option β):Option β:=bo (au a i) λp=>bnd (ld p H) k
@[congr] def ak2 {β:Type}{a a':AV}{i:Nat}{H:ah}{k:AV->ah->Option β}(h:a=a'):fld a i H k=fld a' i H k:=by rw [h]
def afQ {β:Type}{a:AV}{i:Nat}{H:ah}{k:AV->ah->Option β}:fld a i H k=bo (au a i) λp=>bnd (ld p H) k:=rfl
def gl {β:Type}(g:AV)(b:Bool)(e:Option AV)(H:ah)(k:AV->ah->Option β):Option β:=gdA (some g) b (fZ e H) H k
@[congr] def apX {β:Type}{g g':AV}{b:Bool}{e:Option AV}{H:ah}{k:AV->ah->Option β}(h:g=g'):gl g b e H k=gl g' b e H k:=by rw [h]
def ak3 {β:Type}{g:AV}{b:Bool}{e:Option AV}{H:ah}{k:AV->ah->Option β}:gl g b e H k=gdA (some g) b (fZ e H) H k:=rfl
end
end Go.Proofs.YtljogojaihgdlaaGreat
