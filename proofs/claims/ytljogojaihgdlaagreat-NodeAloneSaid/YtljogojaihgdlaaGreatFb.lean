/-
  Own work: an interpreter over named blocks, its soundness, and what the functions of this seat compute (part 2 of 11).
  Conditions: those of the statement alone.
-/
import Derived.Test.YtljogojaihgdlaaGreatFa
set_option linter.all false
set_option linter.unusedSectionVars false
set_option linter.unusedVariables false
set_option linter.unusedSimpArgs false
namespace Go.Proofs.YtljogojaihgdlaaGreat
noncomputable section
structure acd(P:Program)(C:aC)(ops:List Oper)(t:fU)(H:ah)(t0:fU)(H0:ah)(T:Nat->fU)(Hp:Nat->ah)(val:Nat->AV)(nm:Nat->Nat):Prop where
 facts:FP ops
 S:Bz P C ops t0 H0 T Hp val
 names:∀j,j < ops.length->cst ops j=true->∃o,ops[j]?=some o/\H.next<=nm j/\nm j < H0.next/\OD P o (val j) (nm j) (H0.get (nm j))/\∀d,o.dst=some d->d < t.length->t0[d]?=some (val j)
 inj:∀i j,i < ops.length->j < ops.length->cst ops i=true->cst ops j=true->nm i=nm j->i=j
 rest:∀d,(∀j,cst ops j=true->∀o,ops[j]?=some o->o.dst≠some d)->t0[d]?=t[d]?
 len:t0.length=t.length
 fresh:Rz H H0
 ap7:∀r,H.next<=r->H.gen r=0->H0.gen r=0
 agr:∀p∈lS ops,agree P C ops H.next t0 H0 p
 ghost:∀p,p<=ops.length->∀d,NV (Hp p).next ((T p).getD d bf)
 keeps:kE C
section
variable {P:Program}{C:aC}{ops:List Oper}{t:fU}{H:ah}{t0:fU}{H0:ah}{T:Nat->fU}{Hp:Nat->ah}{val:Nat->AV}{nm:Nat->Nat}
theorem FT {i:Nat}(h:chn ops i=true):cst ops i=false/\flo ops i=false:=by
 unfold chn at h
 simpa using h
def kinds(i:Nat):cst ops i=true∨(cst ops i=false/\flo ops i=true)∨chn ops i=true:=by
 unfold chn;cases cst ops i <;> cases flo ops i <;> simp
def agJ {i:Nat}(h:flo ops i=true):cst ops i=false:=by
 unfold flo at h;unfold cst
 revert h
 generalize qx ops i=o;intro h;cases o <;> first|rfl|(simp only [qW] at h;cases h)
theorem wE {i:Nat}{o:Oper}(d:ops[i]?=some o)(h:flo ops i=true):qW o.op=true/\mM o.op=false:=by
 unfold flo at h;rw [uD d] at h;refine⟨h,?_⟩;obtain⟨dst,op,b,e,after,guard⟩:=o;cases op <;> try rfl
 rename_i c;simp only [qW] at h;simp only [mM];cases g:c.callee with
 |value f=>rw [g] at h;cases h
 |_=>rfl
namespace acd
variable (D:acd P C ops t H t0 H0 T Hp val nm)
include D
theorem get {p:Nat}(b:p<ops.length):∃o,ops[p]?=some o:=⟨_,zab b⟩
theorem anp:∀p,p<=ops.length->(T p).length=t.length:=by
 intro p
 induction p with
 | zero=> intro _;rw [D.S.zero.1,D.len]
 | succ p ih=>
  intro hp;cases hc:cst ops p with
  | true=> rw [(D.S.skip p hp hc).1];exact ih (by omega)
  | false=>
   obtain⟨o,ho⟩:=D.get hp;rw [(D.S.step p o ho hc).2,mG];exact ih (by omega)
theorem ai6:∀p,p<=ops.length->∀d,d < t.length->
  (∀i o,ops[i]?=some o->o.dst=some d->(cst ops i=true∨i < p)->(T p)[d]?=some (val i))/\
  ((∀i o,ops[i]?=some o->(cst ops i=true∨i < p)->o.dst≠some d)->(T p)[d]?=t[d]?):=by
 intro p
 induction p with
 | zero=>
  intro _ d hd;rw [D.S.zero.1];refine⟨λi o ho hdst hc=> ?_,λh=> D.rest d λj hj o ho=> h j o ho (.inl hj)⟩;have hc:cst ops i=true:=hc.resolve_right (by omega);obtain⟨o',ho',_,_,_,h5⟩:=D.names i (dO ho) hc;rw [ho] at ho';cases ho';exact h5 d hdst hd
 | succ p ih=>
  intro hp d hd;obtain⟨ih1,ih2⟩:=ih (by omega) d hd;cases hc:cst ops p with
  | true=>
   rw [(D.S.skip p hp hc).1];refine⟨λi o ho hdst hi=> ih1 i o ho hdst ?_,λh=> ih2 λi o ho hi=> h i o ho (hi.imp id λh=> by omega)⟩;rcases hi with hi | hi
   ·exact .inl hi
   ·by_cases e:i=p
    ·subst e;exact .inl hc
    ·exact .inr (by omega)
  | false=>
   obtain⟨op,hop⟩:=D.get hp;rw [(D.S.step p op hop hc).2,KZ];by_cases hdp:op.dst=some d
   ·have hl:d < (T p).length:=by rw [D.anp p (by omega)];exact hd
    rw [if_pos ⟨hdp,hl⟩];refine⟨λi o ho hdst hi=> ?_,λh=> absurd hdp (h p op hop (.inr (by omega)))⟩;rw [D.facts.ano i p o op d ho hop hdst hdp]
   ·rw [if_neg λh=> hdp h.1];refine⟨λi o ho hdst hi=> ih1 i o ho hdst ?_,λh=> ih2 λi o ho hi=> h i o ho (hi.imp id λh=> by omega)⟩;rcases hi with hi | hi
    ·exact .inl hi
    ·refine .inr ?_;have:i≠p:=λe=> by subst e;rw [ho] at hop;cases hop;exact hdp hdst
     omega
theorem Un {p:Nat}(hp:p < ops.length)(hc:cst ops p=false)(hf:flo ops p=true):Hp (p+1)=Hp p:=by
 obtain⟨o,ho⟩:=D.get hp;obtain⟨h1,_⟩:=D.S.step p o ho hc;obtain⟨f1,f2⟩:=wE ho hf;unfold mW at h1;split at h1 <;> first | (cases h1;done) | skip
 ·rw [f2,zci,if_neg zdA] at h1;exact(KY f1 h1).1
 ·simp only [zaa,zad] at h1;exact h1.2.symm
theorem step_next {p:Nat}(hp:p < ops.length):(Hp p).next<=(Hp (p+1)).next:=by
 cases hc:cst ops p with
 | true=> rw [(D.S.skip p hp hc).2];exact zac _
 | false=>
  obtain⟨o,ho⟩:=D.get hp;obtain⟨h1,_⟩:=D.S.step p o ho hc;unfold mW at h1;split at h1 <;> first | (cases h1;done) | skip
  ·split at h1
   ·exact(FN D.keeps h1).1.2.1
   ·exact(Eo D.keeps h1).next
  ·simp only [zaa,zad] at h1;rw [h1.2];exact zac _
def Yi {p:Nat}:∀k,p+k<=ops.length->(Hp p).next<=(Hp (p+k)).next:=by
 intro k
 induction k with
 |zero=>intro _;exact zac _
 |succ k b=>intro h;exact zax (b V) (D.step_next V)
def Yj {p q:Nat}(h:p<=q)(b:q<=ops.length):(Hp p).next<=(Hp q).next:=by
 have:=D.Yi (p:=p) (q-p) V
 rwa [show p+(q-p)=q by omega] at this
def ace {p:Nat}(b:p<=ops.length):H0.next<=(Hp p).next:=by
 have:=D.Yj (zaR p) b
 rwa [D.S.zero.2] at this
theorem FU {p:Nat}(hp:p < ops.length)(h:chn ops p=false):Hp (p+1)=Hp p:=by
 rcases kinds (ops:=ops) p with hc | ⟨hc,hf⟩ | hc
 ·exact(D.S.skip p hp hc).2
 ·exact D.Un hp hc hf
 ·rw [hc] at h;cases h
def acf {e:Nat}:∀k,e+k<=ops.length->(∀i,e<=i->i<e+k->chn ops i=false)->Hp (e+k)=Hp e:=by
 intro k
 induction k with
 |zero=>intro _ _;rfl
 |succ k b=>
  intro g h;show Hp (e+k+1)=Hp e;rw [D.FU V (h (e+k) V V)];exact b V λi d j=>h i d V
def Dv {e e':Nat}(h:e<=e')(b:e'<=ops.length)(d:∀i,e<=i->i<e'->chn ops i=false):Hp e'=Hp e:=by
 have:=D.acf (e:=e) (e'-e) V λi g j=>d i g V
 rwa [show e+(e'-e)=e' by omega] at this
theorem quiet_step {p:Nat}(hp:p < ops.length)(hc:chn ops p=true)(hq:uh (qx ops p)=true)(hl:loose ops p=true):∀r,r < (Hp p).next->(Hp (p+1)).get r=(Hp p).get r:=by
 obtain⟨o,ho⟩:=D.get hp;obtain⟨h1,_⟩:=D.S.step p o ho (FT hc).1;rw [uD ho] at hq;unfold mW at h1;split at h1 <;> first | (cases h1;done) | skip
 ·rw [hl,zbs] at h1;split at h1
  ·exact(FN D.keeps h1).1.2.2
  ·rename_i hcall;exact(RF hq (by simpa using hcall) h1).2.2
 ·simp only [zaa,zad] at h1;rw [h1.2];exact λ_ _=> rfl
theorem acg {k:Nat}(hk:k < ops.length)(hc:cst ops k=true):∀e,e<=ops.length->(∀i,i < e->chn ops i=true->mX ops k i=false)->(Hp e).get (nm k)=H0.get (nm k):=by
 intro e
 induction e with
 | zero=> intro _ _;rw [D.S.zero.2]
 | succ e ih=>
  intro he h;have ih:=ih (by omega) λi hi=> h i (by omega);cases hch:chn ops e with
  | false=> rw [D.FU (by omega) hch];exact ih
  | true=>
   have hb:=h e (by omega) hch;obtain⟨hqb,_⟩:=D.facts.loose k e hk (by omega) hc hch hb;have hl:loose ops e=true:=by
    unfold loose;refine zde.2 ⟨k,za9.2 hk,?_⟩;rw [hc,hch,hb];simp
   obtain⟨o,ho,hge,hlt,_⟩:=D.names k hk hc;rcases hqb with hq | hq
   ·rw [D.quiet_step (by omega) hch hq hl (nm k) (zaz hlt (D.ace (by omega)))];exact ih
   ·have hmem:(k,e)∈lS ops:=by
     unfold lS;refine za1.2 ⟨k,za9.2 hk,zaG.2 ⟨e,zbk.2 ⟨za9.2 (by omega),?_⟩,rfl⟩⟩;rw [hc,hch,hb,hq];simp
    have ha:=D.agr _ hmem;unfold agree at ha;rw [if_pos hc] at ha;rw [ha (T e) (Hp e) (T (e+1)) (Hp (e+1)) (D.S.at_ _ (by omega)) (D.S.at_ _ (by omega)) (nm k) hge hlt];exact ih
theorem Jd {j:Nat}(hj:j < ops.length){r:Nat}(hw:lD (T j) (qx ops j)=some r){e1:Nat}(hr:r < (Hp e1).next):
  ∀k,e1+k<=ops.length->(∀i,e1<=i->i < e1+k->chn ops i=true->V4 ops j i=true)->(Hp (e1+k)).get r=(Hp e1).get r:=by
 intro k
 induction k with
 | zero=> intro _ _;rfl
 | succ k ih=>
  intro hk h;have ih:=ih (by omega) λi h1 h2=> h i h1 (by omega);show(Hp (e1+k+1)).get r=_;cases hch:chn ops (e1+k) with
  | false=> rw [D.FU (by omega) hch];exact ih
  | true=>
   have hu:=h (e1+k) (by omega) (by omega) hch;cases hq:uh (qx ops (e1+k)) with
   | true=>
    have hl:loose ops (e1+k)=true:=by
     unfold loose;refine zde.2 ⟨j,za9.2 hj,?_⟩;rw [hu,Bool.true_or]
    rw [D.quiet_step (by omega) hch hq hl r (zaz hr (D.Yj (by omega) (by omega)))];exact ih
   | false=>
    have hmem:(j,e1+k)∈lS ops:=by
     unfold lS;refine za1.2 ⟨j,za9.2 hj,zaG.2 ⟨e1+k,zbk.2 ⟨za9.2 (by omega),?_⟩,rfl⟩⟩;rw [hu,hq];rfl
    have hfl:flo ops j=true:=by
     unfold V4 at hu;simp only [zaf] at hu;exact hu.1.1.1.2
    have ha:=D.agr _ hmem;unfold agree at ha;rw [if_neg (by rw [agJ hfl];decide)] at ha;have:=ha (T j) (Hp j) (T (e1+k)) (Hp (e1+k)) (T (e1+k+1)) (Hp (e1+k+1)) (D.S.at_ j (by omega)) (D.S.at_ _ (by omega)) (D.S.at_ _ (by omega)) r hw;rw [this];exact ih
def aeo {i j:Nat}(u:cst ops j=false)(h:mX ops i j=true)(hi:cst ops i=false):i<=j:=by
 have:=uz (ops:=ops) (L:=λk=>cst ops k=true∨k<=j) (λk o p m e q hb=>by
  obtain⟨_,g⟩:=D.facts.edges k o p e q hb;unfold Fq at g;by_cases d:cst ops k=true
  ·by_cases b:cst ops e.on=true
   ·exact .inl b
   ·simp only [zdf] at b;rw [d,b] at g;simp at g
  ·simp only [zdf] at d;have m:k<=j:=m.resolve_left (by simp [d]);by_cases b:cst ops e.on=true
   ·exact .inl b
   ·simp only [zdf] at b;rw [d,b] at g;simp at g;exact .inr V) i j h (.inr (zac _))
 rcases this with h|h
 ·rw [hi] at h;cases h
 ·exact h
end acd
abbrev Li(listed:Array Bool)(j:Nat):Prop:=listed.getD j false=true
structure Inv(ops:List Oper)(t:fU)(Hp:Nat->ah)(val:Nat->AV)(nm:Nat->Nat)(H:ah)(ρ0:Ren)(w0:World)(a0:Act)(listed:Array Bool)(a:Act)(w:World)(e:Nat)(ρ:Ren):Prop where
 size:listed.size=ops.length
 down:∀j o,ops[j]?=some o->Li listed j->∀ed∈o.after,Region.binds .any ed=true->Li listed ed.on
 le:e<=ops.length
 chain:∀i,i<ops.length->chn ops i=true->(Li listed i↔i<e)
 rel:Rel ρ (Hp e) w
 none:∀k,k<ops.length->cst ops k=true->¬Li listed k->ρ (nm k)=none
 ext:Ext ρ0 H w0 ρ (Hp e) w
 Yk:a.tmps.size=t.length
 tmps:∀d,d<t.length->(∀j o,ops[j]?=some o->Li listed j->o.dst=some d->RV ρ (Hp e).gen w (val j) (a.tmps.getD d undef))/\
  ((∀j o,ops[j]?=some o->Li listed j->o.dst≠some d)->RV ρ (Hp e).gen w (t.getD d bf) (a.tmps.getD d undef))
 defers:a.defers=a0.defers
def vM {listed:Array Bool}{i j:Nat}:Li (listed.setIfInBounds i true) j↔Li listed j∨(j=i/\i<listed.size):=by
 unfold Li;by_cases e:i=j
 ·subst e;by_cases b:i<listed.size
  ·simp [b]
  ·simp [b]
 ·rw [getD_set_ne false e];simp [Ne.symm e]
section
variable {ρ0:Ren}{w0:World}{a0:Act}{listed:Array Bool}{a:Act}{w:World}{e:Nat}{ρ:Ren}
def yO {j:Nat}(hs:listed.size=ops.length)(b:∀j o,ops[j]?=some o->Li listed j->∀d∈o.after,Region.binds .any d=true->Li listed d.on)(h:j∈Region.ready .any ops.toArray listed):
  ∃o,ops[j]?=some o/\¬Li listed j/\(∀i,i≠j->mX ops i j=true->Li listed i)/\(∀i,mX ops j i=true->¬Li listed i)/\
   ∀k e,ops[k]?=some e->Li (listed.setIfInBounds j true) k->∀d∈e.after,Region.binds .any d=true->Li (listed.setIfInBounds j true) d.on:=by
 obtain⟨v,o,g,m⟩:=mem_ready.1 h;have g:ops[j]?=some o:=by simpa using g
 have A:=dO g;have p:¬Li listed j:=by
  unfold Li;rw [zcl] at v ⊢;rw [zbP V] at v ⊢;simp only [zav] at v ⊢;simp [v]
 have q:∀k e,ops[k]?=some e->Li (listed.setIfInBounds j true) k->∀d∈e.after,Region.binds .any d=true->Li (listed.setIfInBounds j true) d.on:=by
  intro k e w u d z hb;rcases vM.1 u with u|⟨rfl,_⟩
  ·exact vM.2 (.inl (b k e w u d z hb))
  ·rw [g] at w;cases w;exact vM.2 (.inl (m d z hb))
 refine⟨o,g,p,λi y hb=>?_,λi hb u=>p (uz (L:=Li listed) b j i hb u),q⟩;have:=uz (L:=Li (listed.setIfInBounds j true)) q i j hb (vM.2 (.inr ⟨rfl,V⟩));rcases vM.1 this with h|⟨h,_⟩
 ·exact h
 ·exact absurd h y
variable (D:acd P C ops t H t0 H0 T Hp val nm)
include D
def ap8(I:Inv ops t Hp val nm H ρ0 w0 a0 listed a w e ρ){j:Nat}{o:Oper}(F:ops[j]?=some o)(G:cst ops j=false)(K:¬Li listed j)
  (A:∀i,i≠j->mX ops i j=true->Li listed i) (y:∀i,mX ops j i=true->¬Li listed i):TOn ρ (Hp e).gen w (· ∈o.looksAt ops.toArray) (T j) a:=by
 have hj:=dO F;have v:=D.anp j V;refine⟨by rw [I.Yk,v],λd hd L=>?_⟩;rw [v] at L;obtain⟨Q,R⟩:=I.tmps d L;obtain⟨W,X⟩:=D.ai6 j V d L;have C:∀x,(T j)[d]?=some x->(T j).getD d bf=x:=λx hx=>by simp [List.getD,hx]
 by_cases E:∃i k,ops[i]?=some k/\Li listed i/\k.dst=some d
 ·obtain⟨i,k,m,z,g⟩:=E;have q:i≠j:=λe=>K (e ▸ z);have b:cst ops i=true∨i<j:=by
   rcases D.facts.uses i j k o d q m F g hd with⟨_,h⟩|⟨h,_⟩
   ·unfold Fq at h;rw [G] at h;cases u:cst ops i with
    |true=>exact .inl rfl
    |false=>rw [u] at h;simp at h;exact .inr h
   ·exact absurd z (y i h)
  rw [C _ (W i k m g b)];exact Q i k m z g
 ·have p:∀i k,ops[i]?=some k->Li listed i->k.dst≠some d:=λi k h1 M h3=>E ⟨i,k,h1,M,h3⟩;have M:=X λi k m b g=>by
   have q:i≠j:=λe=>by
    subst e;rcases b with h|h
    ·rw [G] at h;cases h
    ·omega
   rcases D.facts.uses i j k o d q m F g hd with⟨h,_⟩|⟨_,h⟩
   ·exact p i k m (A i q h) g
   ·unfold Fq at h;rw [G] at h;cases u:cst ops i with
    |true=>rw [u] at h;simp at h
    |false=>
     rw [u] at h b;simp at h b;omega
  have:(T j).getD d bf=t.getD d bf:=by simp only [List.getD,M]
  rw [this];exact R p
def Inv.on(I:Inv ops t Hp val nm H ρ0 w0 a0 listed a w e ρ){j:Nat}{o:Oper}(v:ops[j]?=some o)(Q:¬Li listed j)
  (y:∀k K,ops[k]?=some K->Li (listed.setIfInBounds j true) k->∀L∈K.after,Region.binds .any L=true->Li (listed.setIfInBounds j true) L.on)
  {e':Nat} (z:e'<=ops.length) (A:∀i,i<ops.length->chn ops i=true->(Li (listed.setIfInBounds j true) i↔i<e'))
  {ρ':Ren} {w':World} {cv:Value} (R:Rel ρ' (Hp e') w') (T:∀k,k<ops.length->cst ops k=true->¬Li (listed.setIfInBounds j true) k->ρ' (nm k)=Option.none)
  (E:Ext ρ0 H w0 ρ' (Hp e') w') (M:ael ρ (Hp e).gen w ρ' (Hp e').gen w') (W:RV ρ' (Hp e').gen w' (val j) cv):Inv ops t Hp val nm H ρ0 w0 a0 (listed.setIfInBounds j true) (a.put o.dst cv) w' e' ρ' where
 size:=by rw [Array.size_setIfInBounds];exact I.size
 down:=y
 le:=z
 chain:=A
 rel:=R
 none:=T
 ext:=E
 Yk:=by rw [<-I.Yk];cases o.dst <;> simp [Act.put]
 tmps:=λd hd=>by
  obtain⟨X,t2⟩:=I.tmps d hd;have C:d<a.tmps.size:=by rw [I.Yk];exact hd
  have hj:=dO v;by_cases b:o.dst=some d
  ·have m:(a.put o.dst cv).tmps.getD d undef=cv:=by rw [b];simp [Act.put,Array.getD,C]
   rw [m];refine⟨λi u g _ q=>?_,λh=>absurd b (h j o v (vM.2 (.inr ⟨rfl,by rw [I.size];exact hj⟩)))⟩;rw [D.facts.ano i j u o d g v q b];exact W
  ·have m:(a.put o.dst cv).tmps.getD d undef=a.tmps.getD d undef:=by
    cases F:o.dst with
    |none=>rfl
    |some d'=>
     have G:d'≠d:=λe=>b (by rw [F,e]);simp [Act.put,zby G]
   rw [m];refine⟨λi u g p q=>?_,λh=>RV.mono M _ _ (t2 λi u g p=>h i u g (vM.2 (.inl p)))⟩;rcases vM.1 p with p|⟨rfl,_⟩
   ·exact RV.mono M _ _ (X i u g p q)
   ·rw [v] at g;cases g;exact absurd q b
 defers:=by rw [<-I.defers];cases o.dst <;> rfl
end
end
def FV {ρ:Ren}{G:Nat->Nat}{w:World}{d:Nat}(h:ρ d=none)(co:Obj):ael ρ G w (updρ ρ d (w.heap.size,0)) G (w.alloc co) where
 mono:=λ_=>zac _
 same:=λx y b _=>by
  unfold updρ
  rw [if_neg (λe=>by subst e;rw [h] at b;cases b)];exact b
 imm:=λb hb hi=>by
  refine⟨by simp;omega,λx g b=>?_,λo=>cell?_of_block (by simp only [World.alloc,zbi,if_neg (zb2 hb)])⟩;unfold updρ at b;split at b
  ·cases b;omega
  ·exact hi x g b
 shape:=λb e m hb=>by
  have:=Fz hb;rw [fF] at hb ⊢
  simpa only [World.alloc,zbi,if_neg (zb2 this)] using hb
def Wp {ρ:Ren}{H:ah}{w:World}(R:Rel ρ H w){g:Nat}(h:ρ g=none)(q:g<H.next){ty:TypeId}{z:List AV}{cs:Array Value}(m:H.get g=.blk 0 ty z)(j:ty<gY)(k:RVs ρ H.gen w z cs.toList):
  Rel (updρ ρ g (w.heap.size,0)) H (w.alloc (.cells cs ty)) where
 out:=λx d=>by
  unfold updρ
  rw [if_neg V];exact R.out x d
 obj:=λx b s d=>by
  have M:=FV (G:=H.gen) (w:=w) h (.cells cs ty);unfold updρ at d;by_cases e:x=g
  ·subst e;simp at d;obtain⟨rfl,rfl⟩:=d;rw [m];refine⟨cs,ty,jP w _,?_,?_,Xct.low j (by have:=dK k;rw [bM] at this;omega)⟩
   ·have:=dK k;simp at this;omega
   ·refine qY (jP w _) λi x d=>?_;obtain⟨v,o,p⟩:=jF k d;exact⟨v,by simpa using o,RV.mono M _ _ p⟩
  ·rw [if_neg e] at d;have hb:=R.block d;exact yI.mono M (by simp only [World.alloc,zbi,if_neg (zb2 hb)]) (R.obj x b s d)
 inj:=λx y u s A d i=>by
  unfold updρ at d i;split at d <;> split at i
  ·simp_all
  ·cases d;have:=R.block i;omega
  ·cases i;have:=R.block d;omega
  ·exact R.inj _ _ _ _ _ d i
 gl:=R.gl.of O (λx b s d=>by
  unfold updρ at d;split at d
  ·cases d;exact .inl (zac _)
  ·exact .inr ⟨_,_,d⟩) (λb hb _=>by simp only [World.alloc,zbi,if_neg (zb2 hb)])
def Wq {ρ0 ρ:Ren}{H0 H:ah}{w0 w:World}(E:Ext ρ0 H0 w0 ρ H w){r0:Nat}(h0:H0.next<=r0)(hn:ρ r0=none)(co:Obj):Ext ρ0 H0 w0 (updρ ρ r0 (w.heap.size,0)) H (w.alloc co) where
 next:=E.next
 mono:=E.mono
 same:=λx y hx hg=>by
  have h1:=E.same x y hx hg;unfold updρ
  rw [if_neg (λe=>by subst e;rw [hn] at h1;cases h1)];exact h1
 kept:=λx hx h=>by
  unfold updρ
  rw [if_neg (by omega)];exact E.kept x hx h
 range:=λx b s hx=>by
  unfold updρ at hx;split at hx
  ·cases hx;exact .inl E.size
  ·exact E.range x b s hx
 size:=by simp;have:=E.size;omega
 frame:=λb hb hi=>by
  have:=E.size;rw [<-E.frame b hb hi];simp only [World.alloc,zbi,if_neg (show¬b=w.heap.size by omega)]
 shape:=λb hb=>by
  have:=E.size;rw [<-E.shape b hb,fF,fF];simp only [World.alloc,zbi,if_neg (show¬b=w.heap.size by omega)]
 os:=E.os
 tape:=E.tape
 output:=E.output
def OH {ρ:Ren}{H H0:ah}{w:World}(R:Rel ρ H w)(F:Rz H H0)(g:∀r,H.next<=r->H.gen r=0->H0.gen r=0):H0.gen=H.gen/\Rel ρ H0 w/\Ext ρ H w ρ H0 w:=by
 have d:H0.gen=H.gen:=by
  funext r
  rcases zaT r H.next with h|h
  ·simp only [ah.gen,F.2.2 r h]
  ·rw [g r h (R.out r h).2,(R.out r h).2]
 have E:=Ext.refl ρ H w;refine⟨d,⟨λr e=>⟨(R.out r (zax F.2.1 e)).1,by rw [d];exact(R.out r (zax F.2.1 e)).2⟩,λr b i h=>?_,R.inj,R.gl⟩,
  ⟨F.2.1,λr=>by rw [d];exact zac _,λr x h _=>h,E.kept,E.range,E.size,E.frame,E.shape,E.os,E.tape,E.output⟩⟩
 rw [d,F.2.2 r (R.lt h)];exact R.obj r b i h
section
variable {P:Program}{C:aC}{ops:List Oper}{t:fU}{H:ah}{t0:fU}{H0:ah}{T:Nat->fU}{Hp:Nat->ah}{val:Nat->AV}{nm:Nat->Nat}
variable {ρ0:Ren}{w0:World}{a0:Act}{listed:Array Bool}{a:Act}{w:World}{e:Nat}{ρ:Ren}
def RH {j k:Nat}(h:¬Li (listed.setIfInBounds j true) k):¬Li listed k:=λhl=>h (vM.2 (.inl hl))
def FW {j i:Nat}(b:i≠j):Li (listed.setIfInBounds j true) i↔Li listed i:=by
 rw [vM];exact⟨λh=>h.resolve_right λh=>b h.1,.inl⟩
theorem ach(hC:qR P C)(D:acd P C ops t H t0 H0 T Hp val nm)(I:Inv ops t Hp val nm H ρ0 w0 a0 listed a w e ρ){j:Nat}(hr:j∈Region.ready .any ops.toArray listed){K:Act->World->Prop}{Q:Exit->Act->World->Prop}
  (hK:∀a' w' e' ρ',Inv ops t Hp val nm H ρ0 w0 a0 (listed.setIfInBounds j true) a' w' e' ρ'->K a' w'):wpOp P ops.toArray Q j K a w:=by
 obtain⟨o,ho,hnl,hpre,hpost,hd2⟩:=yO I.size I.down hr;have hj:=dO ho;rcases kinds (ops:=ops) j with hc | ⟨hc,hf⟩ | hc
 ·-- new memory
  obtain⟨o',ho',n1,n2,⟨ty,z,mk,hval,hob,hrun⟩,_⟩:=D.names j hj hc;rw [ho] at ho';cases ho';obtain⟨hg,_⟩:=D.facts.const j o ho hc;obtain⟨cs,cv,h1,⟨h2,hty⟩,h3⟩:=hrun ρ (Hp e).gen w a;have hun:=I.none j hj hc hnl;have vK:(Hp e).get (nm j)=.blk 0 ty z:=by
   rw [<-hob];refine D.acg hj hc e I.le λi hi hch=> ?_;have hli:=(I.chain i (by have:=I.le;omega) hch).2 hi;cases hb:mX ops j i with
   | false=> rfl
   | true=> exact absurd hli (hpost i hb)
  have hgen:(Hp e).gen (nm j)=0:=by simp [ah.gen,vK,fZ.gen]
  unfold wpOp;have hoa:ops.toArray[j]?=some o:=by simpa using ho
  simp only [hoa,Region.wanted,hg,if_true];left;unfold Oper.wp;rw [h1];simp only [Oper.upon];refine hK _ _ e (updρ ρ (nm j) (w.heap.size,0)) (Inv.on D I ho hnl hd2 I.le (λi hi hch=> ?_)
   (Wp I.rel hun (zaz n2 (D.ace I.le)) vK hty h2) (λk hk hck hkl=> ?_) (Wq I.ext n1 hun _) (FV hun _) ?_)
  ·rw [FW (λe=> by subst e;rw [(FT hch).1] at hc;cases hc)];exact I.chain i hi hch
  ·have hkl':=RH hkl;have hne:nm k≠nm j:=λe=> by
    have:=D.inj k j hk hj hck hc e;subst this;exact hkl (vM.2 (.inr ⟨rfl,by rw [I.size];exact hk⟩))
   unfold updρ
   rw [if_neg hne];exact I.none k hk hck hkl'
  ·rw [hval];exact h3 _ _ (nm j) hgen (by simp [updρ])
 ·-- it changes nothing
  have T0:=ap8 D I ho hc hnl hpre hpost;obtain⟨s1,_⟩:=D.S.step j o ho hc;obtain⟨f1,f2⟩:=wE ho hf;have hsame:KI o.op=true->∀r,lD (T j) o.op=some r->(Hp e).get r=(Hp j).get r:=by
   intro hlk r hw;have hre:r < (Hp e).next:=Um (λx hx=> RV.nv I.rel.out _ _ (T0.eval x hx)) hw
   have hrj:r < (Hp j).next:=Um (λx _=> ab9 (D.ghost j (by omega)) x) hw
   have hw':lD (T j) (qx ops j)=some r:=by rw [uD ho];exact hw
   have hle:=I.le;have hun:∀i,i < ops.length->chn ops i=true->mX ops i j=false->mX ops j i=false->V4 ops j i=true:=by
    intro i _ hch hb1 hb2;unfold V4;rw [hch,hf,uD ho,hlk,hb2,hb1];rfl
   rcases Nat.le_total e j with hej | hje
   ·have:=D.Jd hj hw' hre (j - e) (by omega) λi h1 h2 hch=> by
     have hil:¬Li listed i:=λhl=> by have:=(I.chain i (by omega) hch).1 hl;omega
     have hne:i≠j:=by omega
     refine hun i (by omega) hch ?_ ?_
     ·cases hb:mX ops i j with
      | false=> rfl
      | true=> exact absurd (hpre i hne hb) hil
     ·cases hb:mX ops j i with
      | false=> rfl
      | true=> have:=D.aeo (FT hch).1 hb hc;omega
    rw [show e+(j - e)=j by omega] at this;exact this.symm
   ·have:=D.Jd hj hw' hrj (e - j) (by omega) λi h1 h2 hch=> by
     have hil:Li listed i:=(I.chain i (by omega) hch).2 (by omega);have hne:i≠j:=λe=> by subst e;rw [(FT hch).2] at hf;cases hf
     refine hun i (by omega) hch ?_ ?_
     ·cases hb:mX ops i j with
      | false=> rfl
      | true=> have:=D.aeo hc hb (FT hch).1;omega
     ·cases hb:mX ops j i with
      | false=> rfl
      | true=> exact absurd hil (hpost i hb)
    rw [show j+(e - j)=e by omega] at this;exact this
  have hs:mW P C ops (loose ops j && mM o.op) o (T j) (Hp e)=some (val j,Hp e):=by
   have aqB:=D.Un hj hc hf;rw [aqB] at s1;unfold mW at s1 ⊢;split at s1 <;> first | (cases s1;done) | skip
   ·rw [f2,zci,if_neg zdA] at s1;simp only [f2,zci,if_neg zdA];exact(KY f1 s1).2 (Hp e) hsame
   ·simp only [zaa,zad] at s1 ⊢;exact⟨s1.1,trivial⟩
  refine La hC hs I.rel T0 ho λcv ρ' w' r1 r2 r3=> hK _ _ e ρ' (Inv.on D I ho hnl hd2 I.le (λi hi hch=> ?_) r1 (λk hk hck hkl=> ?_) (I.ext.trans r3) r3.toMono r2)
  ·rw [FW (λe=> by subst e;rw [(FT hch).2] at hf;cases hf)];exact I.chain i hi hch
  ·obtain⟨_,_,_,n2,_⟩:=D.names k hk hck;exact r3.kept _ (zaz n2 (D.ace I.le)) (I.none k hk hck (RH hkl))
 ·-- the chain
  have hcc:=(FT hc).1;have T0:=ap8 D I ho hcc hnl hpre hpost;obtain⟨s1,_⟩:=D.S.step j o ho hcc;have hej:e<=j:=by
   rcases zaT j e with h | h
   ·exact absurd ((I.chain j hj hc).2 h) hnl
   ·exact h
  have hH:Hp j=Hp e:=D.Dv hej (by omega) λi h1 h2=> by
   cases hch:chn ops i with
   | false=> rfl
   | true=>
    have:=hpre i (by omega) (D.facts.chain i j h2 hj hch hc);have:=(I.chain i (by omega) hch).1 this;omega
  rw [hH] at s1;refine La hC s1 I.rel T0 ho λcv ρ' w' r1 r2 r3=> hK _ _ (j+1) ρ' (Inv.on D I ho hnl hd2 hj (λi hi hch=> ?_) r1 (λk hk hck hkl=> ?_) (I.ext.trans r3) r3.toMono r2)
  ·by_cases e1:i=j
   ·subst e1;exact⟨λ_=> by omega,λ_=> vM.2 (.inr ⟨rfl,by rw [I.size];exact hi⟩)⟩
   ·rw [FW e1];refine⟨λhl=> by have:=(I.chain i hi hch).1 hl;omega,λhlt=> hpre i e1 (D.facts.chain i j (by omega) hj hch hc)⟩
  ·obtain⟨_,_,_,n2,_⟩:=D.names k hk hck;exact r3.kept _ (zaz n2 (D.ace I.le)) (I.none k hk hck (RH hkl))
def unl:List Bool->Nat
 |[]=>0
 |true::l=>unl l
 |false::l=>unl l+1
def Yl:∀(l:List Bool) (i:Nat),l[i]?=some false->unl (l.set i true)+1=unl l
 |[],i,h=>by simp at h
 |b::l,0,h=>by simp at h;subst h;simp [unl]
 |b::l,i+1,h=>by
  simp at h;have:=Yl l i (by simpa using h);cases b <;> simp [unl] <;> omega
def Uo:∀(l:List Bool),unl l=0->∀(i:Nat),i<l.length->l[i]?=some true
 |[],_,i,hi=>by simp at hi
 |b::l,h,0,_=>by cases b <;> simp_all [unl]
 |b::l,h,i+1,hi=>by
  have d:unl l=0:=by cases b <;> simp_all [unl]
  simpa using Uo l d i (by simpa using hi)
def ai7 {j:Nat}(b:j<listed.size):Li listed j↔listed.toList[j]?=some true:=by
 unfold Li;simp [Array.getD,b]
def Ws {j:Nat}(b:j<listed.size):¬Li listed j↔listed.toList[j]?=some false:=by
 unfold Li;simp [Array.getD,b]
def agK {p:Nat->Prop}:∀n,p n->∃m,p m/\∀i,i<m->¬p i:=by
 intro n
 induction n using Nat.strongRecOn with
 |ind n d=>
  intro e;by_cases h:∃i,i<n/\p i
  ·obtain⟨i,hi,b⟩:=h;exact d i hi b
  ·exact⟨n,e,λi hi b=>h ⟨i,hi,b⟩⟩
def OI(F:FP ops)(hs:listed.size=ops.length){k:Nat}(E:k<ops.length)(z:¬Li listed k):Region.ready .any ops.toArray listed≠[]:=by
 have key:∀m,m<ops.length->¬Li listed m->(∀o,ops[m]?=some o->∀e∈o.after,Region.binds .any e=true->Li listed e.on)->Region.ready .any ops.toArray listed≠[]:=by
  intro m hm v q u;have:m∈Region.ready .any ops.toArray listed:=by
   refine mem_ready.2 ⟨?_,ops[m]'hm,by simp [hm],λe i A=>q _ (zab hm) e i A⟩;unfold Li at v;rw [zcl] at v ⊢;rw [zbP V] at v ⊢
   simpa using v
  rw [u] at this;cases this
 by_cases g:∃m,m<ops.length/\cst ops m=true/\¬Li listed m
 ·obtain⟨m,hm⟩:=g;obtain⟨m,⟨i,A,w⟩,d⟩:=agK (p:=λm=>m<ops.length/\cst ops m=true/\¬Li listed m) m hm;refine key m i w λo C e q hb=>?_;obtain⟨y,b⟩:=F.edges m o C e q hb;unfold Fq at b;rw [A] at b;cases h:cst ops e.on with
  |false=>rw [h] at b;simp at b
  |true=>
   rw [h] at b;simp at b;by_cases j:Li listed e.on
   ·exact j
   ·exact absurd ⟨y,h,j⟩ (d e.on b)
 ·obtain⟨m,⟨i,w⟩,d⟩:=agK (p:=λm=>m<ops.length/\¬Li listed m) k ⟨E,z⟩;refine key m i w λo C e q hb=>?_;obtain⟨y,b⟩:=F.edges m o C e q hb;by_cases j:Li listed e.on
  ·exact j
  ·exfalso;have G:cst ops m=false:=by cases D:cst ops m with
    |false=>rfl
    |true=>exact absurd ⟨m,i,D,w⟩ g
   have H:cst ops e.on=false:=by cases D:cst ops e.on with
    |false=>rfl
    |true=>exact absurd ⟨_,y,D,j⟩ g
   unfold Fq at b;rw [G,H] at b;simp at b;exact d e.on b ⟨y,j⟩
def agL(D:acd P C ops t H t0 H0 T Hp val nm)(I:Inv ops t Hp val nm H ρ0 w0 a0 listed a w e ρ)(j:∀i,i<ops.length->Li listed i):
  Rel ρ (Hp ops.length) w/\TOn ρ (Hp ops.length).gen w (λ_=>True) (T ops.length) a/\Ext ρ0 H w0 ρ (Hp ops.length) w:=by
 have p:Hp ops.length=Hp e:=D.Dv I.le (zac _) λi b g=>by
  cases m:chn ops i with
  |false=>rfl
  |true=>have:=(I.chain i g m).1 (j i g);omega
 rw [p];refine⟨I.rel,⟨by rw [I.Yk,D.anp _ (zac _)],λd _ hd=>?_⟩,I.ext⟩;rw [D.anp _ (zac _)] at hd;obtain⟨q,u⟩:=I.tmps d hd;obtain⟨v,y⟩:=D.ai6 _ (zac _) d hd;by_cases k:∃(i:Nat) (h:Oper),ops[i]?=some h/\h.dst=some d
 ·obtain⟨i,h,b,g⟩:=k;have o:=v i h b g (.inr (dO b));have:(T ops.length).getD d bf=val i:=by simp [List.getD,o]
  rw [this];exact q i h b (j i (dO b)) g
 ·have o:=y λi h b _ g=>k ⟨i,h,b,g⟩;have:(T ops.length).getD d bf=t.getD d bf:=by simp only [List.getD,o]
  rw [this];exact u λi h b _ g=>k ⟨i,h,b,g⟩
def aep(v:qR P C)(D:acd P C ops t H t0 H0 T Hp val nm){Q:Exit->Act->World->Prop}
  (y:∀a' ρ' w',Rel ρ' (Hp ops.length) w'->TOn ρ' (Hp ops.length).gen w' (λ_=>True) (T ops.length) a'->Ext ρ0 H w0 ρ' (Hp ops.length) w'->a'.defers=a0.defers->Q .normal a' w'):
  ∀(b:Nat) (listed:Array Bool) (a:Act) (w:World) (e:Nat) (ρ:Ren),unl listed.toList<=b->Inv ops t Hp val nm H ρ0 w0 a0 listed a w e ρ->wpAny P .any ops.toArray Q b listed a w:=by
 have h:∀(listed:Array Bool) (a:Act) (w:World) (e:Nat) (ρ:Ren),Inv ops t Hp val nm H ρ0 w0 a0 listed a w e ρ->Region.ready .any ops.toArray listed=[]->Q .normal a w:=by
  intro listed a w e ρ I d;have k:∀i,i<ops.length->Li listed i:=λi hi=>by
   by_cases u:Li listed i
   ·exact u
   ·exact absurd d (OI D.facts I.size hi u)
  obtain⟨z,A,E⟩:=agL D I k;exact y a ρ w z A E I.defers
 intro b
 induction b with
 |zero=>
  intro listed a w e ρ F I;have d:Region.ready .any ops.toArray listed=[]:=by
   cases G:Region.ready .any ops.toArray listed with
   |nil=>rfl
   |cons j R=>
    obtain⟨o,p,g,_⟩:=yO I.size I.down (j:=j) (by rw [G];simp);have m:j<listed.size:=by rw [I.size];exact dO p
    exact absurd ((ai7 m).2 (Uo _ V j (by simpa using m))) g
  exact⟨d,h listed a w e ρ I d⟩
 |succ b K=>
  intro listed a w e ρ F I;refine⟨h listed a w e ρ I,λj m=>ach v D I m λa' w' L ρ' M=>K _ a' w' L ρ' ?_ M⟩;obtain⟨o,p,g,_⟩:=yO I.size I.down m;have q:j<listed.size:=by rw [I.size];exact dO p
  have:=Yl _ j ((Ws q).1 g);rw [Array.toList_setIfInBounds];omega
def zH(n:Nat):unl (List.replicate n false)=n:=by
 induction n with
 |zero=>rfl
 |succ n b=>simp [List.replicate_succ,unl,b]
def agM(hC:qR P C)(hKC:kE C)(hm:P.follows .mixedOrders=true){id:Nat}{t':fU}{H':ah}(h:yK P C ops t H=some (t',H'))(R:Rel ρ H w)(TR:TOn ρ H.gen w (λ_=>True) t a){Q:Exit->Act->World->Prop}
  (hQ:∀a' ρ' w',Rel ρ' H' w'->TOn ρ' H'.gen w' (λ_=>True) t' a'->Ext ρ H w ρ' H' w'->a'.defers=a.defers->Q .normal a' w'):(Code.region id ops.toArray true).wp P Q a w:=by
 unfold yK at h;split at h <;> first|(cases h;done)|skip
 rename_i hok;split at h <;> first|(cases h;done)|skip
 rename_i t0 H0 hcr;obtain⟨hrun,anQ⟩:fO P C ops (mY ops) t0 H0=some (t',H')/\∀p∈lS ops,agree P C ops H.next t0 H0 p:=by
  split at h
  ·rename_i he;rw [he];exact⟨h,O⟩
  ·split at h <;> first|(cases h;done)|skip
   rename_i ha;exact⟨h,ha⟩
 have F:=Du hok;have hmem:∀j,j∈oL ops↔j<ops.length/\cst ops j=true:=λj=>by simp [oL,zbk,za9]
 obtain⟨hf,hg,hlen,nm,vl,h1,h2,h3⟩:=uF (oL ops) t H t0 H0 (List.nodup_range.filter _) (λj hj=>((hmem j).1 hj).2)
  (λi _ j _ oi oj d a1 a2 a3 a4=>F.ano i j oi oj d a1 a2 a3 a4) hcr
 obtain⟨T,Hp,val,S,hend,hval⟩:=Jb hrun vl;obtain⟨hgen,RH0,EH0⟩:=OH R hf hg;obtain⟨ρ1,w1,a1,g1,g2⟩:=yN hC _ _ _ _ _ ρ w a hcr R TR;have D:acd P C ops t H t0 H0 T Hp val nm:={
  facts:=F
  S:=S
  names:=λj hj hc=>by
   obtain⟨o,q1,q2,q3,q4,q5⟩:=h1 j ((hmem j).2 ⟨hj,hc⟩);exact⟨o,q1,q2,q3,by rw [hval j hc];exact q4,λd hd hl=>by rw [hval j hc];exact q5 d hd hl⟩
  inj:=λi j hi hj ci cj e=>h2 i ((hmem i).2 ⟨hi,ci⟩) j ((hmem j).2 ⟨hj,cj⟩) e
  rest:=λd hd=>h3 d λj hj o ho=>hd j ((hmem j).1 hj).2 o ho
  len:=hlen
  fresh:=hf
  ap7:=hg
  agr:=anQ
  ghost:=λp hp d=>by
   obtain⟨ρ2,w2,a2,r1,r2⟩:=Jc hC S g1 g2 p hp;exact RV.nv r1.out _ _ (r2.any d trivial)
  keeps:=hKC }
 have e1:T ops.length=t':=by rw [<-Prod.mk.inj hend |>.1]
 have e2:Hp ops.length=H':=by rw [<-Prod.mk.inj hend |>.2]
 refine wp_region_any hm ?_;have hli:∀j,¬Li (Array.replicate ops.toArray.size false) j:=λj=>by
  unfold Li;simp [Array.getD]
 refine aep hC D (a0:=a) (λa' ρ' w' q1 q2 q3 q4=>hQ a' ρ' w' (by rw [<-e2];exact q1) (by rw [<-e1,<-e2];exact q2) (by rw [<-e2];exact q3) q4) ops.toArray.size _ a w.drew 0 ρ (by simp [zH]) ?_;refine⟨O,λj o _ hl=>absurd hl (hli j),zaR _,λi _ _=>⟨λhl=>absurd hl (hli i),λh=>V⟩,by rw [S.zero.2];exact RH0.drew,λk hk hc _=>?_,?_,TR.size,λd hd=>⟨λj o _ hl=>absurd hl (hli j),λ_=>?_⟩,rfl⟩
 ·obtain⟨_,_,q1,_⟩:=D.names k hk hc;exact(R.out _ q1).1
 ·rw [S.zero.2];exact EH0.trans (Ext.drew ρ H0 w)
 ·rw [S.zero.2,hgen];exact RV.mono (Ext.drew ρ H w).toMono _ _ (TR.get d trivial hd)
end
section
variable {ρ ρ1:Ren}{G:Nat->Nat}{H1:ah}{w1:World}{n:Nat}
def zJ {f:AV->Option AV}(j:∀x k cv,f x=some k->RV ρ1 H1.gen w1 x cv->RV ρ G w1 k cv):∀(xs d:List AV) (l:List Value),xs.mapM f=some d->RVs ρ1 H1.gen w1 xs l->RVs ρ G w1 d l
 |[],d,l,h,e=>by
  simp at h;subst h
  simpa only [RVs] using e
 |x::xs,d,l,h,e=>by
  rw [zbn] at h;cases g:f x with
  |none=>rw [g] at h;cases h
  |some y=>
   rw [g] at h;cases i:xs.mapM f with
   |none=>rw [i] at h;cases h
   |some m=>
    rw [i] at h;simp only [zce,za6,zcK,zaa] at h;subst h;simp only [RVs] at e ⊢;obtain⟨v,vs,rfl,a,b⟩:=e;exact⟨v,vs,rfl,j _ _ _ g a,zJ j xs m vs i b⟩
def Ep {f:AV->Option AV}(k:∀x m cv,f x=some m->RV ρ1 H1.gen w1 x cv->RV ρ G w1 m cv):∀(xs d:List AV) (b o:Nat),xs.mapM f=some d->RVc ρ1 H1.gen w1 xs b o->RVc ρ G w1 d b o
 |[],d,b,o,h,g=>by
  simp at h;subst h;simp only [RVc]
 |x::xs,d,b,o,h,g=>by
  rw [zbn] at h;cases i:f x with
  |none=>rw [i] at h;cases h
  |some y=>
   rw [i] at h;cases j:xs.mapM f with
   |none=>rw [j] at h;cases h
   |some p=>
    rw [j] at h;simp only [zce,za6,zcK,zaa] at h;subst h;simp only [RVc] at g ⊢;obtain⟨⟨v,e,a⟩,c⟩:=g;exact⟨⟨v,e,k _ _ _ i a⟩,Ep k xs p b (o+1) j c⟩
def yP {f:AV->Option AV}:∀(xs b:List AV),xs.mapM f=some b->b.length=xs.length
 |[],b,h=>by simp at h;subst h;rfl
 |x::xs,b,h=>by
  rw [zbn] at h;cases e:f x with
  |none=>rw [e] at h;cases h
  |some y=>
   rw [e] at h;cases d:xs.mapM f with
   |none=>rw [d] at h;cases h
   |some g=>
    rw [d] at h;simp only [zce,za6,zcK,zaa] at h;subst h;simp [yP xs g d]
def Ym(R1:Rel ρ1 H1 w1)(m:∀r,r<n->ρ r=ρ1 r/\G r=H1.gen r)(y:∀r,n<=r->ρ r=none):
  ∀(d:Nat) (x H:AV) (cv:Value),bQ H1 n d x=some H->RV ρ1 H1.gen w1 x cv->RV ρ G w1 H cv:=by
 have z:∀b,Imm ρ1 b->Imm ρ b:=by
  intro b hi r K p;rcases zaT r n with h|h
  ·rw [(m r h).1] at p;exact hi r K p
  ·rw [y r h] at p;cases p
 intro d
 induction d with
 |zero=>intro x H cv h;cases h
 |succ d w=>
  intro x H cv h i;cases x with
  |s v=>simp only [bQ,zaa] at h;subst h;simpa only [RV] using i
  |ref r g off=>
   simp only [bQ] at h;split at h <;> first|(cases h;done)|skip
   rename_i p;simp only [zaa] at h;subst h;obtain⟨A,C⟩:=m r p;simp only [RV] at i ⊢;rw [A,C];exact i
  |mp r=>
   simp only [bQ] at h;split at h <;> first|(cases h;done)|skip
   rename_i p;simp only [zaa] at h;subst h;obtain⟨A,C⟩:=m r p;simp only [RV] at i ⊢;rw [A,C];exact i
  |sl r g off D len ad ex=>
   simp only [bQ] at h;split at h
   ·rename_i p;simp only [zaa] at h;subst h;obtain⟨A,C⟩:=m r p;simp only [RV] at i ⊢;rw [A,C];exact i
   ·rename_i p;split at h <;> first|(cases h;done)|skip
    rename_i cells j;cases hm:cells.mapM (bQ H1 n d) with
    |none=>rw [hm] at h;cases h
    |some l=>
     rw [hm] at h;simp only [zak,zaa] at h;subst h;simp only [cO] at j;split at j <;> first|(cases j;done)|skip
     rename_i g' ty all ho;split at j <;> first|(cases j;done)|skip
     rename_i L;obtain⟨rfl,ae⟩:=L;simp only [zaa] at j;simp only [RV] at i ⊢;obtain⟨b,o,c,rfl,q1,q2,q3,q4,q5⟩:=i;obtain⟨K,e,k,E,M,af,ab⟩:=q5 (by simp [ah.gen,ho,fZ.gen]);have vK:=R1.obj r b K E;simp only [yI,ho] at vK;obtain⟨cs,e',hb,hz,Q,_⟩:=vK;have R:cells.length=len*D:=by rw [<-j];simp;omega
     refine⟨b,o,c,rfl,V,by rw [yP _ _ hm,R],nZ hb,λr' T q=>?_,?_⟩
     ·rcases zaT r' n with W|W
      ·rw [(m r' W).1] at q;have:=R1.inj r' r b T K q E;omega
      ·rw [y r' W] at q;cases q
     ·refine Ep w cells l b o hm ?_;by_cases h0:c=0
      ·have:len=0:=V
       subst this;rw [<-j];simp [RVc]
      ·rw [M V,<-j];exact uj _ (qX off Q)
  |ip cells=>
   simp only [bQ] at h;cases hm:cells.mapM (bQ H1 n d) with
   |none=>rw [hm] at h;cases h
   |some l=>
    rw [hm] at h;simp only [zak,zaa] at h;subst h;simp only [RV] at i ⊢;obtain⟨b,o,e,u,F,X⟩:=i;exact⟨b,o,e,u,z b F,Ep w cells l b o hm X⟩
  |vs k D cells=>
   simp only [bQ] at h;cases hm:cells.mapM (bQ H1 n d) with
   |none=>rw [hm] at h;cases h
   |some l=>
    rw [hm] at h;simp only [zak,zaa] at h;subst h;simp only [RV] at i ⊢;obtain⟨b,o,c,e,h0,aa,u,F,X⟩:=i;exact⟨b,o,c,e,h0,by rw [yP _ _ hm];exact aa,u,z b F,Ep w cells l b o hm X⟩
  |fn f a c=>
   simp only [bQ] at h;split at h <;> first|(cases h;done)|skip
   rename_i a' c' ha L;simp only [zaa] at h;subst h;simp only [RV] at i ⊢;obtain⟨a0,c0,e,u,F⟩:=i;exact⟨a0,c0,e,zJ w _ _ _ ha u,zJ w _ _ _ L F⟩
  |agg cells=>
   simp only [bQ] at h;cases hm:cells.mapM (bQ H1 n d) with
   |none=>rw [hm] at h;cases h
   |some l=>
    rw [hm] at h;simp only [zak,zaa] at h;subst h;simp only [RV] at i ⊢;obtain⟨cs,e,u⟩:=i;exact⟨cs,e,zJ w _ _ _ hm u⟩
  |tup cells=>
   simp only [bQ] at h;cases hm:cells.mapM (bQ H1 n d) with
   |none=>rw [hm] at h;cases h
   |some l=>
    rw [hm] at h;simp only [zak,zaa] at h;subst h;simp only [RV] at i ⊢;obtain⟨cs,e,u⟩:=i;exact⟨cs,e,zJ w _ _ _ hm u⟩
end
def Yn {ρ ρ1:Ren}{H H1:ah}{w w1:World}(R:Rel ρ H w)(K:Keeps H.guard H1)(R1:Rel ρ1 H1 w1)(E:Ext ρ H w ρ1 H1 w1){d:Nat}{x x':AV}{cv:Value}
  (hf:bQ H1 H.next d x=some x') (hv:RV ρ1 H1.gen w1 x cv):Rel ρ H w1/\RV ρ H.gen w1 x' cv/\Ext ρ H w ρ H w1:=by
 have hget:∀r,r<H.next->H1.get r=H.get r:=λr hr=>K.get r hr hr
 have hgen:∀r,r<H.next->H1.gen r=H.gen r:=λr hr=>by simp only [ah.gen,hget r hr]
 have hlt:∀r,r<H.next->ρ r=ρ1 r/\H.gen r=H1.gen r:=by
  intro r hr;refine⟨?_,(hgen r hr).symm⟩;cases h:ρ r with
  |none=>exact(E.kept r hr h).symm
  |some x=>exact(E.same r x h (hgen r hr)).symm
 have hge:∀r,H.next<=r->ρ r=none:=λr hr=>(R.out r hr).1
 have hfr:=Ym (G:=H.gen) R1 hlt hge d x x' cv hf hv;have hE:Ext ρ H w ρ H w1:=⟨zac _,λ_=>zac _,λ_ _ h _=>h,λ_ _ h=>h,λ_ _ sh h=>.inr ⟨sh,h⟩,E.size,E.frame,E.shape,E.os,E.tape,E.output⟩
 refine⟨⟨R.out,λr b sh h=>?_,R.inj,R.gl.ext hE⟩,hfr,hE⟩;have hr:=R.lt h;have h1:=R1.obj r b sh (by rw [<-(hlt r hr).1];exact h);rw [hget r hr] at h1;have h0:=R.obj r b sh h
 -- the object as it was,in the new world
 have hB:Back H.next ρ1 H1.gen ρ H.gen:=⟨λr hr=>(hgen r hr).symm,λr hr=>.inr (hlt r hr).1,λr x hx=>by
  have:=R.lt (b:=x.1) (sh:=x.2) hx;rw [<-(hlt r this).1];exact hx⟩
 unfold yI at h1 h0 ⊢;cases ho:H.get r with
 |blk g ty cells=>
  rw [ho] at h1 h0;obtain⟨cs,e,q1,q2,q3⟩:=h1;obtain⟨_,_,_,_,z3,_⟩:=h0;exact⟨cs,e,q1,q2,RVc.back hB R.out cells b sh b sh z3 q3.1,q3.2⟩
 |map k es=>
  rw [ho] at h1 h0;obtain⟨ces,bW,q1,q2,q3⟩:=h1;obtain⟨_,_,_,_,z3,_⟩:=h0;exact⟨ces,bW,q1,q2,RVm.back hB R.out es _ _ z3 q3.1,q3.2⟩
inductive Ex where
 |normal
 |exit (id:Nat)
 |ret
def Ex.to:Ex->Exit
 |.normal=>.normal
 |.exit id=>.exit id
 |.ret=>.ret
abbrev Res:=Option (Ex × fU × ah)
abbrev Run:=fU->ah->Res
def rX(r:Res)(k:Run):Res:=
 match r with
 |some (.normal,t,H)=>k t H
 |some (.exit i,t,H)=>some (.exit i,t,H)
 |some (.ret,t,H)=>some (.ret,t,H)
 |none=>none
def Dw(id:Nat)(r:Res):Res:=
 match r with
 |some (.exit i,t,H)=>if i=id then some (.normal,t,H) else some (.exit i,t,H)
 |some (.normal,t,H)=>some (.normal,t,H)
 |some (.ret,t,H)=>some (.ret,t,H)
 |none=>none
def BA(f:Run):Nat->Run
 |0,_,_=>none
 |n+1,t,H=>rX (f t H) (BA f n)
open Classical in
def agN {α:Type}(g:Nat->Option α):Option α:=if h:∃n,(g n).isSome=true then g (Classical.choose h) else none
def Wu(f:Run):Run:=λt H=>agN λn=>BA f n t H
def fG(P:Program)(C:aC):Code->Run
 |.skip=>λt H=>some (.normal,t,H)
 |.region _ ops draw=>λt H=>match(if draw then yK P C ops.toList t H else Oi P C ops.toList ops.toList t H) with
  |some (t',H')=>some (.normal,t',H')
  |none=>none
 |.seq a b=>λt H=>rX (fG P C a t H) (fG P C b)
 |.cond c a b=>λt H=>match dP t c with
  |.s (.bool true)=>fG P C a t H
  |.s (.bool false)=>fG P C b t H
  |_=>none
 |.block id c=>λt H=>Dw id (fG P C c t H)
 |.loop c=>Wu (fG P C c)
 |.exit id=>λt H=>some (.exit id,t,H)
 |.ret=>λt H=>some (.ret,t,H)
 |_=>λ_ _=>none
def Ur(P:Program)(t:fU)(H:ah):ResultVar->Option AV
 |.tmp d=>some (t.getD d bf)
 |.cell a b=>(Rj P b (t.getD a bf) H).map (·.1)
def jq(P:Program)(b:List ResultVar)(t:fU)(H:ah):Option AV:=
 match b.mapM (Ur P t H) with
 |some [x]=>some x
 |some xs=>some (.tup xs)
 |none=>none
def zq(P:Program)(C:aC)(f:FuncId)(args:List AV):AM AV:=λH=>
 match P.funcs[f]? with
 |some fn=>match fn.body with
  |some c=>match fG P C c (args++List.replicate (fn.ntmps-args.length) bf) H with
   |some (.exit _,_,_)=>none
   |some (_,t,H')=>(jq P fn.results.toList t H').map λv=>(v,H')
   |none=>none
  |none=>none
 |none=>none
structure Pol where
 pure:FuncId->Bool
 abQ:FuncId->Option (List AV->AM AV)
def BD(P:Program)(L:Pol)(C:aC):aC:=λf args H=>
 match L.abQ f with
 |some p=>p args H
 |none=>
  if L.pure f then
   match zq P C f args H.guard with
   |some (v,H1)=>(bQ H1 H.next 9 v).map λv'=>(v',H)
   |none=>none
  else zq P C f args H
def lG {α:Type}{g:Nat->Option α}{r:α}(h:agN g=some r):∃n,g n=some r:=by
 unfold agN at h;split at h
 ·exact⟨_,h⟩
 ·cases h
def aci {α:Type}{g:Nat->Option α}(b:∀n r,g n=some r->g (n+1)=some r){n:Nat}{r:α}(h:g n=some r):∀k,g (n+k)=some r:=by
 intro k
 induction k with
 |zero=>exact h
 |succ k d=>exact b _ _ d
def Lc {α:Type}{g:Nat->Option α}(b:∀n r,g n=some r->g (n+1)=some r){n m:Nat}{r:α}(h:g n=some r)(hm:n<=m):g m=some r:=by
 have:=aci b h (m-n)
 rwa [show n+(m-n)=m by omega] at this
def wF {α:Type}{g:Nat->Option α}(i:∀n r,g n=some r->g (n+1)=some r){n:Nat}{r:α}(h:g n=some r):agN g=some r:=by
 unfold agN;have b:∃n,(g n).isSome=true:=⟨n,by rw [h];rfl⟩
 rw [dif_pos b];have j:=Classical.choose_spec b;cases d:g (Classical.choose b) with
 |none=>rw [d] at j;cases j
 |some r'=>
  rcases Nat.le_total n (Classical.choose b) with e|e
  ·rw [Lc i h e] at d;exact d.symm
  ·rw [Lc i d e] at h;exact h
def Je {f:Run}:∀n t H r,BA f n t H=some r->BA f (n+1) t H=some r:=by
 intro n
 induction n with
 |zero=>intro t H r h;cases h
 |succ n b=>
  intro t H r h;show rX (f t H) (BA f (n+1))=some r
  change rX (f t H) (BA f n)=some r at h
  unfold rX at h ⊢;split at h
  ·exact b _ _ _ h
  ·exact h
  ·exact h
  ·cases h
section
variable {P:Program}{C:aC}{ρ:Ren}{H H':ah}{w:World}{t t':fU}{a:Act}
def zK {ops rest:List Oper}{o:Oper}:Oi P C ops (o::rest) t H=match mW P C ops false o t H with
  |some (v,H')=>Oi P C ops rest (vW t o.dst v) H'
  |none=>none:=by
 simp only [Oi,mW];cases ug ops t o with
 |none=>rfl
 |some b=>
  cases b
  ·rfl
  ·cases opA P C t o H <;> rfl
def ai8(hC:qR P C){ops:List Oper}{Q:Exit->Act->World->Prop}:∀(m k:Nat) (t:fU) (H:ah) (a:Act) (w:World) (ρ:Ren),m+k=ops.length->Oi P C ops (ops.drop k) t H=some (t',H')->Rel ρ H w->TOn ρ H.gen w (λ_=>True) t a->
  (∀a' ρ' w',Rel ρ' H' w'->TOn ρ' H'.gen w' (λ_=>True) t' a'->Ext ρ H w ρ' H' w'->a'.defers=a.defers->Q .normal a' w')->wpOps P ops.toArray Q (List.range' k m) a w:=by
 intro m
 induction m with
 |zero=>
  intro k t H a w ρ hk h R T hQ;rw [List.drop_eq_nil_of_le V] at h;simp only [Oi,zaa,zad] at h;obtain⟨rfl,rfl⟩:=h;exact hQ a ρ w R T (Ext.refl _ _ _) rfl
 |succ m ih=>
  intro k t H a w ρ hk h R T hQ;have hlt:k<ops.length:=V
  have ho:ops[k]?=some (ops[k]'hlt):=zab hlt;rw [zbl hlt,zK] at h;cases hs:mW P C ops false (ops[k]'hlt) t H with
  |none=>rw [hs] at h;cases h
  |some r=>
   obtain⟨v,H1⟩:=r;rw [hs] at h;simp only at h;rw [zdg,wpOps_cons];refine La hC hs R (T.sub λ_ _=>trivial) ho λcv ρ' w' r1 r2 r3=>?_;refine ih (k+1) _ _ _ w' ρ' V h r1 ((T.keep r3).put _ r2) λa' ρ2 w2 q1 q2 q3 q4=>hQ a' ρ2 w2 q1 q2 (r3.trans q3) (q4.trans ?_);cases(ops[k]'hlt).dst <;> rfl
abbrev anR(ρ:Ren)(H:ah)(w:World)(a:Act)(t':fU)(H':ah)(Q:Act->World->Prop):Prop:=
 ∀a' ρ' w',Rel ρ' H' w'->TOn ρ' H'.gen w' (λ_=>True) t' a'->Ext ρ H w ρ' H' w'->a'.defers=a.defers->Q a' w'
def wG(P:Program)(c:Code)(f:Run):Prop:=
 ∀t H e t' H',f t H=some (e,t',H')->∀(ρ:Ren) (w:World) (a:Act),Rel ρ H w->TOn ρ H.gen w (λ_=>True) t a->∀Q:Exit->Act->World->Prop,anR ρ H w a t' H' (Q e.to)->c.wp P Q a w
def Wv {c d:Code}{f g:Run}(hf:wG P c f)(hg:∀t H e t' H',g t H=some (e,t',H')->∀(ρ:Ren) (w:World) (a:Act),Rel ρ H w->TOn ρ H.gen w (λ_=>True) t a->∀Q:Exit->Act->World->Prop,anR ρ H w a t' H' (Q e.to)->d.wp P Q a w):
  wG P (.seq c d) λt H=>rX (f t H) g:=by
 intro t H e t' H' h ρ w a R T Q hQ;refine wp_seq ?_
 change rX (f t H) g=_ at h
 unfold rX at h;split at h
 ·rename_i t1 H1 hf1;refine hf t H _ t1 H1 hf1 ρ w a R T _ λa' ρ' w' r1 r2 r3 r4=>?_;exact hg t1 H1 e t' H' h ρ' w' a' r1 r2 Q λa2 ρ2 w2 q1 q2 q3 q4=>hQ a2 ρ2 w2 q1 q2 (r3.trans q3) (q4.trans r4)
 ·rename_i i t1 H1 hf1;simp only [zaa,zad] at h;obtain⟨rfl,rfl,rfl⟩:=h;exact hf t H _ t1 H1 hf1 ρ w a R T _ hQ
 ·rename_i t1 H1 hf1;simp only [zaa,zad] at h;obtain⟨rfl,rfl,rfl⟩:=h;exact hf t H _ t1 H1 hf1 ρ w a R T _ hQ
 ·cases h
open Classical in
def Wx {c:Code}{f:Run}(hf:wG P c f):wG P (.loop c) (Wu f):=by
 intro t H e t' H' h ρ w a R T Q hQ;obtain⟨n,hn⟩:=lG h;let I:Nat->Act->World->Prop:=λn a1 w1=>∃t1 H1 ρ1,BA f n t1 H1=some (e,t',H')/\Rel ρ1 H1 w1/\TOn ρ1 H1.gen w1 (λ_=>True) t1 a1/\Ext ρ H w ρ1 H1 w1/\a1.defers=a.defers
 let μ:Act->World->Nat:=λa1 w1=>if hx:∃n,I n a1 w1/\∀i,i<n->¬I i a1 w1 then Classical.choose hx else 0
 have hμ:∀n a1 w1,I n a1 w1->I (μ a1 w1) a1 w1/\μ a1 w1<=n:=by
  intro n a1 w1 hi;have hx:∃n,I n a1 w1/\∀i,i<n->¬I i a1 w1:=agK (p:=λn=>I n a1 w1) n hi;have hsp:=Classical.choose_spec hx;have hdef:μ a1 w1=Classical.choose hx:=dif_pos hx;rw [hdef];refine⟨hsp.1,?_⟩;rcases zaT n (Classical.choose hx) with hl|hl
  ·exact absurd hi (hsp.2 n hl)
  ·exact hl
 refine wp_loop (λa1 w1=>∃n,I n a1 w1) μ ⟨n,t,H,ρ,hn,R,T,Ext.refl _ _ _,rfl⟩ λa1 w1 ⟨n1,hi⟩=>?_;obtain⟨⟨t1,H1,ρ1,h1,R1,T1,E1,D1⟩,_⟩:=hμ n1 a1 w1 hi;cases hm:μ a1 w1 with
 |zero=>rw [hm] at h1;cases h1
 |succ m=>
  rw [hm] at h1
  change rX (f t1 H1) (BA f m)=_ at h1
  unfold rX at h1;split at h1
  ·rename_i t2 H2 hf1;refine hf t1 H1 _ t2 H2 hf1 ρ1 w1 a1 R1 T1 _ λa2 ρ2 w2 r1 r2 r3 r4=>?_;have hi2:I m a2 w2:=⟨t2,H2,ρ2,h1,r1,r2,E1.trans r3,r4.trans D1⟩
   exact⟨⟨m,hi2⟩,by have:=(hμ m a2 w2 hi2).2;omega⟩
  ·rename_i i t2 H2 hf1;simp only [zaa,zad] at h1;obtain⟨rfl,rfl,rfl⟩:=h1;exact hf t1 H1 _ _ _ hf1 ρ1 w1 a1 R1 T1 _ λa2 ρ2 w2 r1 r2 r3 r4=>hQ a2 ρ2 w2 r1 r2 (E1.trans r3) (r4.trans D1)
  ·rename_i t2 H2 hf1;simp only [zaa,zad] at h1;obtain⟨rfl,rfl,rfl⟩:=h1;exact hf t1 H1 _ _ _ hf1 ρ1 w1 a1 R1 T1 _ λa2 ρ2 w2 r1 r2 r3 r4=>hQ a2 ρ2 w2 r1 r2 (E1.trans r3) (r4.trans D1)
  ·cases h1
def BF(hC:qR P C)(hK:kE C)(hm:P.follows .mixedOrders=true):∀c:Code,wG P c (fG P C c):=by
 intro c
 induction c with
 |skip=>
  intro t H e t' H' h ρ w a R T Q hQ;simp only [fG,zaa,zad] at h;obtain⟨rfl,rfl,rfl⟩:=h;exact wp_skip (hQ a ρ w R T (Ext.refl _ _ _) rfl)
 |region id ops draw=>
  intro t H e t' H' h ρ w a R T Q hQ;simp only [fG] at h;cases draw with
  |true=>
   simp only [if_true] at h;split at h <;> first|(cases h;done)|skip
   rename_i t1 H1 hd;simp only [zaa,zad] at h;obtain⟨rfl,rfl,rfl⟩:=h;have:=agM hC hK hm (id:=id) hd R T (Q:=Q) hQ
   simpa using this
  |false=>
   simp only [zae,if_false] at h;split at h <;> first|(cases h;done)|skip
   rename_i t1 H1 hd;simp only [zaa,zad] at h;obtain⟨rfl,rfl,rfl⟩:=h;refine wp_region ?_;have:=ai8 hC (ops:=ops.toList) (Q:=Q) ops.toList.length 0 t H a w ρ O (by simpa using hd) R T hQ;rw [zcV]
   simpa using this
 |seq x y ihx ihy=>exact Wv ihx ihy
 |cond c x y ihx ihy=>
  intro t H e t' H' h ρ w a R T Q hQ;simp only [fG] at h;have hev:RV ρ H.gen w (dP t c) (a.eval c):=by
   cases c with
   |tmp d=>exact T.any d trivial
   |const v=>simp [dP,Act.eval,RV]
   |global g=>simp [dP,Act.eval,RV]
   |func f=>simp [dP,Act.eval,RV,RVs]
  split at h
  ·rename_i hb;rw [hb] at hev;simp only [RV] at hev;exact wp_cond_true hev (ihx t H e t' H' h ρ w a R T Q hQ)
  ·rename_i hb;rw [hb] at hev;simp only [RV] at hev;exact wp_cond_false hev (ihy t H e t' H' h ρ w a R T Q hQ)
  ·cases h
 |block id x ih=>
  intro t H e t' H' h ρ w a R T Q hQ;simp only [fG] at h;refine wp_block ?_;unfold Dw at h;split at h
  ·rename_i i t1 H1 hf;refine ih t H _ t1 H1 hf ρ w a R T _ λa2 ρ2 w2 r1 r2 r3 r4=>?_;simp only [Ex.to,Exit.inBlock];split at h
   ·rename_i hid;simp only [zaa,zad] at h;obtain⟨rfl,rfl,rfl⟩:=h;rw [if_pos hid];exact hQ a2 ρ2 w2 r1 r2 r3 r4
   ·rename_i hid;simp only [zaa,zad] at h;obtain⟨rfl,rfl,rfl⟩:=h;rw [if_neg hid];exact hQ a2 ρ2 w2 r1 r2 r3 r4
  ·rename_i t1 H1 hf;simp only [zaa,zad] at h;obtain⟨rfl,rfl,rfl⟩:=h;exact ih t H _ t1 H1 hf ρ w a R T _ hQ
  ·rename_i t1 H1 hf;simp only [zaa,zad] at h;obtain⟨rfl,rfl,rfl⟩:=h;exact ih t H _ t1 H1 hf ρ w a R T _ hQ
  ·cases h
 |loop x ih=>exact Wx ih
 |exit id=>
  intro t H e t' H' h ρ w a R T Q hQ;simp only [fG,zaa,zad] at h;obtain⟨rfl,rfl,rfl⟩:=h;exact wp_exit (hQ a ρ w R T (Ext.refl _ _ _) rfl)
 |ret=>
  intro t H e t' H' h ρ w a R T Q hQ;simp only [fG,zaa,zad] at h;obtain⟨rfl,rfl,rfl⟩:=h;exact wp_ret (hQ a ρ w R T (Ext.refl _ _ _) rfl)
 |_=>intro t H e t' H' h;simp [fG] at h
end
section
variable {P:Program}{C:aC}{ρ:Ren}{H H':ah}{w:World}{t t':fU}{a:Act}
def Jf(d:kE C){ops:List Oper}{lo:Bool}{o:Oper}{v:AV}(h:mW P C ops lo o t H=some (v,H')):Keeps H H':=by
 unfold mW at h;split at h <;> first|(cases h;done)|skip
 ·split at h
  ·have:=(FN d h).1;exact⟨this.1,this.2.1,λr _ b=>this.2.2 r b,λr b=>by rw [this.2.2 r b];exact .refl _⟩
  ·exact Eo d h
 ·simp only [zaa,zad] at h;rw [h.2];exact .refl _
def Jg(b:kE C){ops:List Oper}:∀(l:List Oper) (t:fU) (H:ah),Oi P C ops l t H=some (t',H')->Keeps H H'
 |[],t,H,h=>by
  simp only [Oi,zaa,zad] at h;rw [h.2];exact .refl _
 |o::l,t,H,h=>by
  rw [zK] at h;split at h <;> first|(cases h;done)|skip
  rename_i v H1 d;exact(Jf b d).trans (Jg b l _ _ h)
def yx(b:kE C){ops:List Oper}:∀(l:List Nat) (t:fU) (H:ah),iK P C ops l t H=some (t',H')->Keeps H H'
 |[],t,H,h=>by
  simp only [iK,zaa,zad] at h;rw [h.2];exact .refl _
 |i::l,t,H,h=>by
  simp only [iK] at h;split at h <;> first|(cases h;done)|skip
  split at h <;> first|(cases h;done)|skip
  rename_i v H1 d;exact(Eo b d).trans (yx b l _ _ h)
def uG(b:kE C){ops:List Oper}:∀(l:List Nat) (t:fU) (H:ah),fO P C ops l t H=some (t',H')->Keeps H H'
 |[],t,H,h=>by
  simp only [fO,zaa,zad] at h;rw [h.2];exact .refl _
 |i::l,t,H,h=>by
  simp only [fO] at h;split at h <;> first|(cases h;done)|skip
  split at h <;> first|(cases h;done)|skip
  rename_i v H1 d;exact(Jf b d).trans (uG b l _ _ h)
def RI(b:kE C){ops:List Oper}(h:yK P C ops t H=some (t',H')):Keeps H H':=by
 unfold yK at h;split at h <;> first|(cases h;done)|skip
 split at h <;> first|(cases h;done)|skip
 rename_i t0 H0 e;have d:=yx b _ _ _ e;split at h
 ·exact d.trans (uG b _ _ _ h)
 ·split at h <;> first|(cases h;done)|skip
  exact d.trans (uG b _ _ _ h)
def uH(f:Run):Prop:=∀t H e t' H',f t H=some (e,t',H')->Keeps H H'
def Jh {f g:Run}(d:uH f)(k:uH g):uH λt H=>rX (f t H) g:=by
 intro t H e t' H' h
 change rX (f t H) g=_ at h
 unfold rX at h;split at h
 ·rename_i j H1 b;exact(d _ _ _ _ _ b).trans (k _ _ _ _ _ h)
 ·rename_i i j H1 b;simp only [zaa,zad] at h;obtain⟨_,_,rfl⟩:=h;exact d _ _ _ _ _ b
 ·rename_i j H1 b;simp only [zaa,zad] at h;obtain⟨_,_,rfl⟩:=h;exact d _ _ _ _ _ b
 ·cases h
def Wy {f:Run}(b:uH f):uH (Wu f):=by
 have key:∀n,uH (BA f n):=by
  intro n
  induction n with
  |zero=>intro t H e t' H' h;cases h
  |succ n d=>exact Jh b d
 intro t H e t' H' h;obtain⟨n,g⟩:=lG h;exact key n t H e t' H' g
def WA(m:kE C):∀c:Code,uH (fG P C c):=by
 intro c
 induction c with
 |skip=>
  intro t H e t' H' h;simp only [fG,zaa,zad] at h;rw [<-h.2.2];exact .refl _
 |region id ops draw=>
  intro t H e t' H' h;simp only [fG] at h;split at h <;> first|(cases h;done)|skip
  rename_i k H1 hd;simp only [zaa,zad] at h;obtain⟨_,rfl,rfl⟩:=h;split at hd
  ·exact RI m hd
  ·exact Jg m _ _ _ hd
 |seq x y b d=>exact Jh b d
 |cond c x y b d=>
  intro t H e t' H' h;simp only [fG] at h;split at h
  ·exact b _ _ _ _ _ h
  ·exact d _ _ _ _ _ h
  ·cases h
 |block id x g=>
  intro t H e t' H' h;simp only [fG] at h;unfold Dw at h;split at h
  ·rename_i i k H1 j;split at h <;>
   ·simp only [zaa,zad] at h;obtain⟨_,_,rfl⟩:=h;exact g _ _ _ _ _ j
  ·rename_i k H1 j;simp only [zaa,zad] at h;obtain⟨_,_,rfl⟩:=h;exact g _ _ _ _ _ j
  ·rename_i k H1 j;simp only [zaa,zad] at h;obtain⟨_,_,rfl⟩:=h;exact g _ _ _ _ _ j
  ·cases h
 |loop x g=>exact Wy g
 |exit id=>
  intro t H e t' H' h;simp only [fG,zaa,zad] at h;rw [<-h.2.2];exact .refl _
 |ret=>
  intro t H e t' H' h;simp only [fG,zaa,zad] at h;rw [<-h.2.2];exact .refl _
 |_=>intro t H e t' H' h;simp [fG] at h
def Ji(d:kE C){f:FuncId}{args:List AV}{v:AV}(h:zq P C f args H=some (v,H')):Keeps H H':=by
 unfold zq at h;split at h <;> first|(cases h;done)|skip
 split at h <;> first|(cases h;done)|skip
 split at h <;> first|(cases h;done)|skip
 rename_i e g H1 i j;have:=WA d _ _ _ _ _ _ j;cases b:jq P _ g H1 with
 |none=>rw [b] at h;cases h
 |some x=>
  rw [b] at h;simp only [zak,zaa,zad] at h;rw [<-h.2];exact this
def anq(tmps:Array Value):ResultVar->Sem Value
 |.tmp t=>pure (tmps.getD t undef)
 |.cell a t=>do loadVar t (<-asAddr (tmps.getD a undef))
def OJ(fn:Func)(tmps:Array Value):results fn tmps=(do
  let vs<-fn.results.mapM (anq tmps)
  pure (if h:vs.size=1 then vs[0] else .tuple vs)):=by
 rfl
def agO(R:Rel ρ H w)(T:TOn ρ H.gen w (λ_=>True) t a){x:ResultVar}{v:AV}(h:Ur P t H x=some v):
  ∃cv,(anq a.tmps x).run P w=.ok cv w/\RV ρ H.gen w v cv:=by
 cases x with
 |tmp d=>
  simp only [Ur,zaa] at h;subst h;exact⟨_,rfl,T.any d trivial⟩
 |cell b q=>
  simp only [Ur] at h;cases i:Rj P q (t.getD b bf) H with
  |none=>rw [i] at h;cases h
  |some r=>
   obtain⟨u,H1⟩:=r;rw [i] at h;simp only [zak,zaa] at h;subst h;have g:=T.any b trivial;obtain⟨_,cv,p,y⟩:=X8 R g i;have j:∃k,a.tmps.getD b undef=.pointer (some k):=by
    have m:=(uq i).1;unfold agz at m;split at m
    ·rename_i hb;rw [hb] at g m;simp only [RV] at g;obtain⟨k,e,_⟩:=g;exact⟨k,e⟩
    ·rename_i hb;rw [hb] at g;simp only [RV] at g;obtain⟨b,o,e,_⟩:=g;exact⟨_,e⟩
    ·cases m
   obtain⟨k,j⟩:=j;refine⟨cv,?_,y⟩;rw [j] at p;simp only [anq,j]
   simpa [Instr.loadAt,Instr.sureAddr,asAddr] using p
def Us(R:Rel ρ H w)(T:TOn ρ H.gen w (λ_=>True) t a):∀(b:List ResultVar) (xs:List AV),b.mapM (Ur P t H)=some xs->
  ∃cs:List Value,(b.mapM (anq a.tmps)).run P w=.ok cs w/\RVs ρ H.gen w xs cs
 |[],xs,h=>by
  simp at h;subst h;exact⟨[],O,by simp [RVs]⟩
 |r::b,xs,h=>by
  rw [zbn] at h;cases d:Ur P t H r with
  |none=>rw [d] at h;cases h
  |some y=>
   rw [d] at h;cases e:b.mapM (Ur P t H) with
   |none=>rw [e] at h;cases h
   |some g=>
    rw [e] at h;simp only [zce,za6,zcK,zaa] at h;subst h;obtain⟨cv,i,j⟩:=agO (P:=P) R T d;obtain⟨cs,k,m⟩:=Us R T b g e;refine⟨cv::cs,?_,?_⟩
    ·rw [zbn,Sem.run_bind,i];simp only [Result.andThen_ok,Sem.run_bind,k,Sem.run_pure]
    ·simp only [RVs];exact⟨cv,cs,rfl,j,m⟩
def Jj(R:Rel ρ H w)(T:TOn ρ H.gen w (λ_=>True) t a){fn:Func}{v:AV}(h:jq P fn.results.toList t H=some v):
  ∃cv,(results fn a.tmps).run P w=.ok cv w/\RV ρ H.gen w v cv:=by
 unfold jq at h;cases hm:fn.results.toList.mapM (Ur P t H) with
 |none=>rw [hm] at h;cases h
 |some xs=>
  rw [hm] at h;obtain⟨cs,e,b⟩:=Us (P:=P) R T _ _ hm;have d:(results fn a.tmps).run P w=.ok (if h:cs.toArray.size=1 then cs.toArray[0] else .tuple cs.toArray) w:=by
   rw [OJ,Array.mapM_eq_mapM_toList,map_eq_pure_bind];simp only [Sem.run_bind];rw [e];rfl
  rw [d];refine⟨_,rfl,?_⟩;cases xs with
  |nil=>
   simp only [zaa] at h;subst h;simp only [RVs] at b;subst b;simp [RV,RVs]
  |cons x xs=>
   cases xs with
   |nil=>
    simp only [zaa] at h;subst h;simp only [RVs] at b;obtain⟨y,j,rfl,g,rfl⟩:=b
    simpa using g
   |cons k xs=>
    simp only [zaa] at h;subst h;have i:cs.length≠1:=by have:=dK b;simp at this;omega
    have:(if h:cs.toArray.size=1 then cs.toArray[0] else .tuple cs.toArray)=.tuple cs.toArray:=by
     rw [dif_neg];simpa using i
    rw [this];simp only [RV];exact⟨_,rfl,by simpa using b⟩
def Yo {args:List AV}{kW:Array Value}{m:Nat}(h:RVs ρ H.gen w args kW.toList):
  TOn ρ H.gen w (λ_=>True) (args++List.replicate (m-args.length) bf) { tmps:=kW++Array.replicate (m-kW.size) undef,defers:=[] }:=by
 have hl:=dK h;have hl':kW.size=args.length:=by simpa using hl
 refine⟨by simp [hl'],λ(d:Nat) _ hd=>?_⟩;by_cases hlt:d<args.length
 ·have hx:args[d]?=some (args[d]'hlt):=zab hlt;obtain⟨v,hv,h1⟩:=jF h hx;have e1:(args++List.replicate (m-args.length) bf).getD d bf=args[d]'hlt:=by
   simp [List.getD,zaV hlt,hx]
  have e2:(kW++Array.replicate (m-kW.size) undef).getD d undef=v:=by
   have hv':kW[d]?=some v:=by simpa using hv
   have hlt2:d<kW.size:=V
   rw [zcl,Array.getElem?_append_left hlt2,hv'];rfl
  rw [e1,e2];exact h1
 ·have e1:(args++List.replicate (m-args.length) bf).getD d bf=bf:=by
   simp only [List.getD,zaZ (zdJ.1 hlt),zbY];split <;> rfl
  have e2:(kW++Array.replicate (m-kW.size) undef).getD d undef=undef:=by
   rw [zcl,Array.getElem?_append_right V,Array.getElem?_replicate];split <;> rfl
  show RV ρ H.gen w (List.getD _ d bf) (Array.getD _ d undef);rw [e1,e2];exact En
def Jk(p:qR P C)(q:kE C)(hm:P.follows .mixedOrders=true):qR P (zq P C):=by
 intro f k H v H' h ρ w G R b;unfold zq at h;split at h <;> first|(cases h;done)|skip
 rename_i fn u;split at h <;> first|(cases h;done)|skip
 rename_i c hb;split at h <;> first|(cases h;done)|skip
 rename_i e m H1 g y;cases j:jq P fn.results.toList m H1 with
 |none=>rw [j] at h;cases h
 |some x=>
  rw [j] at h;simp only [zak,zaa,zad] at h;obtain⟨rfl,rfl⟩:=h;refine calls_of_wp u hb ?_;refine BF p q hm c _ _ e m H1 y ρ w _ R (Yo b) _ λa' ρ' w' o z A D=>?_;obtain⟨cv,E,F⟩:=Jj (P:=P) o z j;have d:bodyPost P fn (λe w'=>∃cv ρ',e=.returned cv/\Rel ρ' H1 w'/\RV ρ' H1.gen w' x cv/\Ext ρ H w ρ' H1 w') .ret a' w':=⟨D,cv,E,cv,ρ',rfl,o,F,A⟩
  cases e with
  |normal=>exact d
  |ret=>exact d
  |exit i=>exact absurd rfl (g i)
def WB(P:Program)(L:Pol):Prop:=∀f p,L.abQ f=some p->qR P (λg b H=>if g=f then p b H else none)/\∀b H v H',p b H=some (v,H')->Keeps H H'
def RJ {L:Pol}(o:WB P L)(k:qR P C)(g:kE C)(hm:P.follows .mixedOrders=true):qR P (BD P L C):=by
 intro f d H v H' h ρ w i R b;unfold BD at h;split at h
 ·rename_i p q;exact(o f p q).1 f d H v H' (by simpa using h) ρ w i R b
 ·split at h
  ·split at h <;> first|(cases h;done)|skip
   rename_i u H1 m;cases j:bQ H1 H.next 9 u with
   |none=>rw [j] at h;cases h
   |some K=>
    rw [j] at h;simp only [zak,zaa,zad] at h;obtain⟨rfl,rfl⟩:=h;refine(Jk k g hm f d H.guard u H1 m ρ w i ⟨R.out,R.obj,R.inj,R.gl⟩ b).mono λe w' y=>?_;obtain⟨cv,ρ',rfl,z,A,e⟩:=y;have E:Ext ρ H w ρ' H1 w':=⟨e.next,e.mono,e.same,e.kept,e.range,e.size,e.frame,e.shape,e.os,e.tape,e.output⟩
    obtain⟨D,F,G⟩:=Yn R (Ji g m) z E j A;exact⟨cv,ρ,rfl,D,F,G⟩
  ·exact Jk k g hm f d H v H' h ρ w i R b
def RN {L:Pol}(e:WB P L)(g:kE C):kE (BD P L C):=by
 intro f b H v H' h;unfold BD at h;split at h
 ·rename_i p i;exact(e f p i).2 b H v H' h
 ·split at h
  ·split at h <;> first|(cases h;done)|skip
   rename_i u H1 j;cases d:bQ H1 H.next 9 u with
   |none=>rw [d] at h;cases h
   |some k=>
    rw [d] at h;simp only [zak,zaa,zad] at h;rw [<-h.2];exact .refl _
  ·exact Ji g h
end
abbrev Pt:=FuncId × List AV × ah × AV × ah
def Has(C:aC)(L:List Pt):Prop:=∀p∈L,C p.1 p.2.1 p.2.2.1=some (p.2.2.2.1,p.2.2.2.2)
def Has.left {C:aC}{L M:List Pt}(h:Has C (L++M)):Has C L:=λp b=>h p (zcy _ b)
def Has.right {C:aC}{L M:List Pt}(h:Has C (L++M)):Has C M:=λp b=>h p (zcn _ b)
def Has.append {C:aC}{L M:List Pt}(h:Has C L)(b:Has C M):Has C (L++M):=λp d=>(zaM.1 d).elim (h p) (b p)
def Fin1 {α:Type}(C:aC)(F:aC->Option α):Prop:=∀r,F C=some r->∃L,Has C L/\∀b,Has b L->F b=some r
def Fin1.const {α:Type}{C:aC}(x:Option α):Fin1 C λ_=>x:=λr h=>⟨[],λ_ h=>by simp at h,λ_ _=>h⟩
def Fin1.point {C:aC}{f:FuncId}{args:List AV}{H:ah}:Fin1 C λC=>C f args H:=λr h=>
 ⟨[(f,args,H,r.1,r.2)],λp b=>by simp at b;subst b;exact h,λC' d=>d (f,args,H,r.1,r.2) O⟩
def Fin1.bind {α β:Type}{C:aC}{F:aC->Option α}{G:α->aC->Option β}(hF:Fin1 C F)(hG:∀a,Fin1 C (G a)):Fin1 C λC=>(F C).bind λa=>G a C:=by
 intro r h;cases hf:F C with
 |none=>simp [hf] at h
 |some a=>
  simp only [hf,za6] at h;obtain⟨L,l1,l2⟩:=hF a hf;obtain⟨M,m1,m2⟩:=hG a r h;exact⟨L++M,l1.append m1,λC' hc=>by simp only [l2 C' hc.left,za6];exact m2 C' hc.right⟩
def Fin1.of_eq {α:Type}{C:aC}{F G:aC->Option α}(h:Fin1 C G)(e:∀C,F C=G C):Fin1 C F:=by
 rw [show F=G from funext e];exact h
section
variable {P:Program}{C:aC}{t:fU}{H:ah}{o:Oper}
def Yp {x:AV}{args:List AV}:Fin1 C λC=>yJ P C x args H:=by
 unfold yJ;split
 ·split
  ·exact Fin1.point
  ·exact Fin1.const _
 ·split
  ·exact Fin1.point
  ·exact Fin1.const _
 ·exact Fin1.const _
def RP:Fin1 C λC=>opA P C t o H:=by
 obtain⟨dst,op,b,d,after,guard⟩:=o;cases op
 case makeMap ty r=>cases r <;> exact Fin1.const _
 case call c=>
  simp only [opA,vY];split
  ·exact Yp
  ·exact Fin1.const _
  ·exact Fin1.const _
 all_goals exact Fin1.const _
def Ut {ops:List Oper}{lo:Bool}:Fin1 C λC=>mW P C ops lo o t H:=by
 cases d:ug ops t o with
 |none=>exact(Fin1.const none).of_eq λC=>by simp [mW,d]
 |some b=>
  cases b with
  |false=>exact(Fin1.const (some (bf,H))).of_eq λC=>by simp [mW,d]
  |true=>
   cases lo with
   |false=>exact(RP (P:=P) (o:=o) (t:=t) (H:=H)).of_eq λC=>by simp [mW,d]
   |true=>
    refine Fin1.of_eq (G:=λC=>(opA P C t o H.guard).bind λr=>some (r.1,{ r.2 with base:=H.base })) (Fin1.bind RP λ_=>Fin1.const _) λC=>?_;simp only [mW,d,if_true,opG];cases opA P C t o H.guard <;> rfl
def Uu {ops:List Oper}:∀(l:List Oper) (t:fU) (H:ah),Fin1 C λC=>Oi P C ops l t H
 |[],t,H=>Fin1.const _
 |o::l,t,H=>by
  refine Fin1.of_eq (G:=λC=>(mW P C ops false o t H).bind λr=>Oi P C ops l (vW t o.dst r.1) r.2) (Fin1.bind Ut λr=>Uu l _ _) λC=>?_;rw [zK];cases mW P C ops false o t H <;> rfl
def Dx {ops:List Oper}:∀(l:List Nat) (t:fU) (H:ah),Fin1 C λC=>iK P C ops l t H
 |[],t,H=>Fin1.const _
 |i::l,t,H=>by
  cases b:ops[i]? with
  |none=>exact(Fin1.const none).of_eq λC=>by simp [iK,b]
  |some o=>
   refine Fin1.of_eq (G:=λC=>(opA P C t o H).bind λr=>iK P C ops l (vW t o.dst r.1) r.2) (Fin1.bind RP λr=>Dx l _ _) λC=>?_;simp only [iK,b];cases opA P C t o H <;> rfl
def FX {ops:List Oper}:∀(l:List Nat) (t:fU) (H:ah) (r:fU × ah),fO P C ops l t H=some r->
  ∃L,Has C L/\∀C',Has C' L->∀k,fO P C' ops (l.take k) t H=fO P C ops (l.take k) t H
 |[],t,H,r,h=>⟨[],λ_ h=>by simp at h,λ_ _ k=>by simp [fO]⟩
 |i::l,t,H,r,h=>by
  simp only [fO] at h;cases ho:ops[i]? with
  |none=>rw [ho] at h;cases h
  |some o=>
   rw [ho] at h;simp only at h;cases hs:mW P C ops (loose ops i && mM o.op) o t H with
   |none=>rw [hs] at h;cases h
   |some q=>
    rw [hs] at h;simp only at h;obtain⟨L,l1,l2⟩:=Ut (P:=P) (C:=C) (t:=t) (H:=H) (o:=o) (ops:=ops) (lo:=loose ops i && mM o.op) q hs;obtain⟨M,m1,m2⟩:=FX l _ _ r h;refine⟨L++M,l1.append m1,λC' hc k=>?_⟩;cases k with
    |zero=>rfl
    |succ k=>
     have e:=l2 C' hc.left;simp only [zdw,fO,ho,hs];simp only at e;rw [e];exact m2 C' hc.right k
def Yq {ops:List Oper}{p:Nat}(b:p<=ops.length):∃k,(List.range p).filter (λi=>!cst ops i)=(mY ops).take k:=by
 have:List.range ops.length=List.range p++(List.range (ops.length-p)).map (p+ ·):=by
  rw [<-List.range_add];congr 1;omega
 refine⟨((List.range p).filter (λi=>!cst ops i)).length,?_⟩;unfold mY;rw [this,zb5,List.take_left]
def RQ {ops:List Oper}{p:Nat × Nat}(h:p∈lS ops):p.1<ops.length/\p.2<ops.length:=by
 unfold lS at h;obtain⟨j,b,h⟩:=za1.1 h;obtain⟨e,d,rfl⟩:=zaG.1 h;exact⟨za9.1 b,za9.1 (zbk.1 d).1⟩
def Yr {ops:List Oper}:Fin1 C λC=>yK P C ops t H:=by
 intro r h;simp only at h;unfold yK at h;split at h <;> first|(cases h;done)|skip
 rename_i hok;split at h <;> first|(cases h;done)|skip
 rename_i t0 H0 h0;obtain⟨L,l1,l2⟩:=Dx (P:=P) (C:=C) (ops:=ops) (oL ops) t H (t0,H0) h0;have hrun:fO P C ops (mY ops) t0 H0=some r:=by
  split at h
  ·exact h
  ·split at h <;> first|(cases h;done)|skip
   exact h
 obtain⟨M,m1,m2⟩:=FX (P:=P) (C:=C) (ops:=ops) (mY ops) t0 H0 r hrun;have hall:∀C',Has C' M->fO P C' ops (mY ops) t0 H0=some r:=λC' hc=>by
  have:=m2 C' hc (mY ops).length;rw [List.take_length] at this;rw [this];exact hrun
 have hst:∀C',Has C' M->∀p,p<=ops.length->Fv P C' ops p t0 H0=Fv P C ops p t0 H0:=λC' hc p hp=>by
  obtain⟨k,hk⟩:=Yq hp;unfold Fv;rw [hk];exact m2 C' hc k
 refine⟨L++M,l1.append m1,λC' hc=>?_⟩;have e0:=l2 C' hc.left;simp only at e0 ⊢;unfold yK;rw [if_pos hok,e0];simp only;split at h
 ·exact hall C' hc.right
 ·rename_i ps hps he;split at h <;> first|(cases h;done)|skip
  rename_i ha;cases hq:lS ops with
  |nil=>exact hall C' hc.right
  |cons q qs=>
   rw [if_pos]
   ·exact hall C' hc.right
   ·intro p hp;rw [<-hq] at hp;obtain⟨b1,b2⟩:=RQ hp;have hap:=ha p hp;unfold agree at hap ⊢;split
    ·rename_i hcp;rw [if_pos hcp] at hap;intro te He te' He' q2 q3;rw [hst C' hc.right _ V] at q2 q3;exact hap te He te' He' q2 q3
    ·rename_i hcp;rw [if_neg hcp] at hap;intro tj Hj te He te' He' q1 q2 q3;rw [hst C' hc.right _ V] at q1 q2 q3;exact hap tj Hj te He te' He' q1 q2 q3
abbrev anS:=aC->Run
def agP(C:aC)(F:anS):Prop:=∀t H,Fin1 C λC=>F C t H
def Uw {F G:anS}(b:agP C F)(d:agP C G):agP C λC t H=>rX (F C t H) (G C):=by
 intro t H;refine Fin1.of_eq (G:=λC=>(F C t H).bind λr=>(match r with|(.normal,t,H)=>G C t H|r=>some r)) (Fin1.bind (b t H) λr=>?_) λC=>?_
 ·obtain⟨e,t,H⟩:=r;cases e with
  |normal=>exact d t H
  |_=>exact Fin1.const _
 ·show rX (F C t H) (G C)=_;unfold rX;cases F C t H with
  |none=>rfl
  |some r=>obtain⟨e,t,H⟩:=r;cases e <;> rfl
def acj {F:anS}(hF:agP C F):agP C λC=>Wu (F C):=by
 have key:∀n,agP C λC=>BA (F C) n:=by
  intro n
  induction n with
  |zero=>exact λt H=>Fin1.const none
  |succ n ih=>exact Uw hF ih
 intro t H r h;obtain⟨n,hn⟩:=lG h;obtain⟨L,l1,l2⟩:=key n t H r hn;exact⟨L,l1,λC' hc=>wF (λn r=>Je n t H r) (l2 C' hc)⟩
def acn:∀c:Code,agP C λC=>fG P C c:=by
 intro c
 induction c with
 |skip=>exact λt H=>Fin1.const _
 |region id ops draw=>
  intro t H;cases draw with
  |true=>
   refine Fin1.of_eq (G:=λC=>(yK P C ops.toList t H).bind λr=>some (.normal,r.1,r.2)) (Fin1.bind Yr λ_=>Fin1.const _) λC=>?_;simp only [fG,if_true];cases yK P C ops.toList t H <;> rfl
  |false=>
   refine Fin1.of_eq (G:=λC=>(Oi P C ops.toList ops.toList t H).bind λr=>some (.normal,r.1,r.2)) (Fin1.bind (Uu _ _ _) λ_=>Fin1.const _) λC=>?_;simp only [fG,zae,if_false];cases Oi P C ops.toList ops.toList t H <;> rfl
 |seq x y b d=>exact Uw b d
 |cond c x y b d=>
  intro t H;simp only [fG];split
  ·exact b t H
  ·exact d t H
  ·exact Fin1.const _
 |block id x e=>
  intro t H;refine Fin1.of_eq (G:=λC=>(fG P C x t H).bind λr=>Dw id (some r)) (Fin1.bind (e t H) λ_=>Fin1.const _) λC=>?_;simp only [fG];cases fG P C x t H <;> rfl
 |loop x e=>exact acj e
 |exit id=>exact λt H=>Fin1.const _
 |ret=>exact λt H=>Fin1.const _
 |_=>exact λt H=>Fin1.const _
def Ux {f:FuncId}{args:List AV}:Fin1 C λC=>zq P C f args H:=by
 cases b:P.funcs[f]? with
 |none=>exact(Fin1.const none).of_eq λC=>by simp [zq,b]
 |some fn=>
  cases hb:fn.body with
  |none=>exact(Fin1.const none).of_eq λC=>by simp [zq,b,hb]
  |some c=>
   refine Fin1.of_eq (G:=λC=>(fG P C c (args++List.replicate (fn.ntmps-args.length) bf) H).bind λr=>
    (match r with
     |(.exit _,_,_)=>none
     |(_,t,H')=>(jq P fn.results.toList t H').map λv=>(v,H'))) (Fin1.bind (acn c _ _) λ_=>Fin1.const _) λC=>?_
   simp only [zq,b,hb];cases fG P C c (args++List.replicate (fn.ntmps-args.length) bf) H with
   |none=>rfl
   |some r=>obtain⟨e,t,H⟩:=r;cases e <;> rfl
def OQ {L:Pol}{f:FuncId}{args:List AV}:Fin1 C λC=>BD P L C f args H:=by
 cases hp:L.abQ f with
 |some p=>exact(Fin1.const (p args H)).of_eq λC=>by simp [BD,hp]
 |none=>
  cases hq:L.pure f with
  |false=>exact(Ux (P:=P) (f:=f) (args:=args) (H:=H)).of_eq λC=>by simp [BD,hp,hq]
  |true=>
   refine Fin1.of_eq (G:=λC=>(zq P C f args H.guard).bind λr=>(bQ r.2 H.next 9 r.1).map λv'=>(v',H)) (Fin1.bind Ux λ_=>Fin1.const _) λC=>?_;simp only [BD,hp,hq,if_true];cases zq P C f args H.guard <;> rfl
end
def Ed(P:Program)(L:Pol):Nat->aC
 |0=>λ_ _ _=>none
 |n+1=>BD P L (Ed P L n)
def callω(P:Program)(L:Pol):aC:=λf b H=>agN λn=>Ed P L n f b H
section
variable {P:Program}{L:Pol}
def BG:∀(n:Nat) (f:FuncId) (args:List AV) (H:ah) (r:AV × ah),Ed P L n f args H=some r->Ed P L (n+1) f args H=some r:=by
 intro n
 induction n with
 |zero=>intro f args H r h;cases h
 |succ n b=>
  intro f args H r h;obtain⟨M,d,e⟩:=OQ (P:=P) (L:=L) (C:=Ed P L n) (f:=f) (args:=args) (H:=H) r h;exact e _ λp g=>b _ _ _ _ (d p g)
def ai9:∀M:List Pt,Has (callω P L) M->∃n,Has (Ed P L n) M
 |[],_=>⟨0,λ_ h=>by simp at h⟩
 |p::M,h=>by
  obtain⟨n,d⟩:=lG (h p O);obtain⟨m,hm⟩:=ai9 M λq b=>h q (by simp [b]);refine⟨n+m,λq b=>?_⟩;rcases zaj.1 b with rfl|b
  ·exact Lc (g:=λn=>Ed P L n q.1 q.2.1 q.2.2.1) (λn r=>BG n _ _ _ r) d V
  ·exact Lc (g:=λn=>Ed P L n q.1 q.2.1 q.2.2.1) (λn r=>BG n _ _ _ r) (hm q b) V
def callω_of {f:FuncId}{args:List AV}{H:ah}{r:AV × ah}(h:BD P L (callω P L) f args H=some r):callω P L f args H=some r:=by
 obtain⟨M,b,d⟩:=OQ (P:=P) (L:=L) (C:=callω P L) (f:=f) (args:=args) (H:=H) r h;obtain⟨n,e⟩:=ai9 M b;have:Ed P L (n+1) f args H=some r:=d _ e;exact wF (g:=λn=>Ed P L n f args H) (λn r=>BG n f args H r) this
def callω_ok(g:WB P L)(hm:P.follows .mixedOrders=true):qR P (callω P L)/\kE (callω P L):=by
 have key:∀n,qR P (Ed P L n)/\kE (Ed P L n):=by
  intro n
  induction n with
  |zero=>exact⟨λf b H v H' h=>(by cases h),λf b H v H' h=>(by cases h)⟩
  |succ n d=>exact⟨RJ g d.1 d.2 hm,RN g d.2⟩
 refine⟨λf b H v H' h=>?_,λf b H v H' h=>?_⟩
 ·obtain⟨n,e⟩:=lG h;exact(key n).1 f b H v H' e
 ·obtain⟨n,e⟩:=lG h;exact(key n).2 f b H v H' e
end
def aco(c:AV)(x y:Res):Res:=
 match c with
 |.s (.bool true)=>x
 |.s (.bool false)=>y
 |_=>none
def bnd {α β:Type}(x:Option (α × ah))(k:α->ah->Option β):Option β:=
 match x with
 |some (v,H)=>k v H
 |none=>none
def Uy {α β:Type}{v:α}{H:ah}{k:α->ah->Option β}:bnd (some (v,H)) k=k v H:=rfl
def gd {β:Type}(b:Bool)(x:Option (AV × ah))(H:ah)(k:AV->ah->Option β):Option β:=
 if b=true then bnd x k else k bf H
def okN(r:Option (fU × ah)):Res:=
 match r with
 |some (t,H)=>some (.normal,t,H)
 |none=>none
section
variable {P:Program}{C:aC}{t:fU}{H H':ah}
def acp {a b:Code}:fG P C (.seq a b) t H=rX (fG P C a t H) (fG P C b):=rfl
def Yt {c:Operand}{a b:Code}:fG P C (.cond c a b) t H=aco (dP t c) (fG P C a t H) (fG P C b t H):=by
 simp only [fG,aco]
 try rfl
def WC {id:Nat}{a:Code}:fG P C (.block id a) t H=Dw id (fG P C a t H):=rfl
def RS {id:Nat}{ops:Array Oper}:fG P C (.region id ops false) t H=okN (Oi P C ops.toList ops.toList t H):=by
 simp only [fG,okN,zae,if_false]
 try rfl
def Yu {id:Nat}{ops:Array Oper}:fG P C (.region id ops true) t H=okN (yK P C ops.toList t H):=by
 simp only [fG,okN,if_true]
 try rfl
def Uz(ops:List Oper)(t:fU)(j:Nat):Option AV:=(ops[j]?.bind (·.dst)).bind λd=>t[d]?
def Jl(g:Option AV)(d:Bool):Option Bool:=
 match g with
 |some (.s (.bool b))=>some (b==d)
 |some (.tup [])=>some false
 |_=>none
def gdA {β:Type}(g:Option AV)(d:Bool)(x:Option (AV × ah))(H:ah)(k:AV->ah->Option β):Option β:=
 match Jl g d with
 |some b=>gd b x H k
 |none=>none
def OT {β:Type}{b:Bool}{x:Option (AV × ah)}{k:AV->ah->Option β}:gdA (some bf) b x H k=k bf H:=rfl
def OU {ops:List Oper}{o:Oper}{j:Nat}{b:Bool}(h:o.guard=some (j,b)):ug ops t o=Jl (Uz ops t j) b:=by
 unfold ug Uz Jl;rw [h];simp only;cases e:ops[j]? with
 |none=>rfl
 |some p=>
  simp only [za6];cases hd:p.dst with
  |none=>rfl
  |some d=>rfl
def RU {t:fU}{i:Nat}{v:AV}(h:i<t.length):(t.set i v).getD i bf=v:=by
 simp [List.getD,h]
def getD_set_ne {t:fU}{i j:Nat}{v:AV}(h:i≠j):(t.set i v).getD j bf=t.getD j bf:=by
 simp [List.getD,h]
def Ld {t:fU}{i:Nat}(h:i<t.length):t[i]?=some (t.getD i bf):=by
 simp [List.getD,h]
def UA {β:Type}{v:AV}{k:AV->ah->Option β}:bnd (fQ (some v) H) k=k v H:=rfl
def OV {v:AV}:fQ (some v) H=some (v,H):=rfl
def anT(P:Program)(b:List ResultVar)(r:Res):Option (AV × ah):=
 match r with
 |some (.exit _,_,_)=>none
 |some (_,t,H')=>(jq P b t H').map λv=>(v,H')
 |none=>none
def agQ {f:FuncId}{fn:Func}{c:Code}{args:List AV}(b:P.funcs[f]?=some fn)(hb:fn.body=some c):
  zq P C f args H=anT P fn.results.toList (fG P C c (args++List.replicate (fn.ntmps-args.length) bf) H):=by
 unfold zq anT;simp only [b,hb]
 try rfl
def aer {L:Pol}{f:FuncId}{args:List AV}{r:AV × ah}(b:L.abQ f=none)(d:L.pure f=false)(h:zq P (callω P L) f args H=some r):callω P L f args H=some r:=
 callω_of (by simp only [BD,b,d,zae,if_false];exact h)
def agR {L:Pol}{f:FuncId}{args:List AV}{v v':AV}{H1:ah}(b:L.abQ f=none)(d:L.pure f=true)(h:zq P (callω P L) f args H.guard=some (v,H1))(e:bQ H1 H.next 9 v=some v'):
  callω P L f args H=some (v',H):=
 callω_of (by simp only [BD,b,d,if_true,h,e,zak])
def FY {L:Pol}{f:FuncId}{args:List AV}{r:AV × ah}{p:List AV->AM AV}(b:L.abQ f=some p)(h:p args H=some r):callω P L f args H=some r:=
 callω_of (by simp only [BD,b];exact h)
def acr {f:FuncId}{a c args:List AV}(h:qw P f=true):yJ P C (.fn (.func f) a c) args H=C f (a++args++c) H:=by
 simp only [yJ,h,if_true]
end
def dL {α:Type}{P:Program}{a:α}:iR P (Pure.pure a)=some a:=rfl
section
variable {P:Program}{t:TypeId}{k:IntKind}{a b:Int}
def Yv:qo P .lss t (.s (.int k a)) (.s (.int k b))=some (.s (.bool (decide (a<b)))):=by
 simp [qo,AV.val?,eqGuard,binOp,Op.intCmp,dL]
def Yw:qo P .leq t (.s (.int k a)) (.s (.int k b))=some (.s (.bool (decide (a<=b)))):=by
 simp [qo,AV.val?,eqGuard,binOp,Op.intCmp,dL]
def RX:qo P .gtr t (.s (.int k a)) (.s (.int k b))=some (.s (.bool (decide (b<a)))):=by
 simp [qo,AV.val?,eqGuard,binOp,Op.intCmp,dL]
def Lh:qo P .geq t (.s (.int k a)) (.s (.int k b))=some (.s (.bool (decide (b<=a)))):=by
 simp [qo,AV.val?,eqGuard,binOp,Op.intCmp,dL]
def Yx:qo P .eql t (.s (.int k a)) (.s (.int k b))=some (.s (.bool (decide (a=b)))):=by
 simp [qo,AV.val?,eqGuard,binOp,Op.intCmp,dL];by_cases h:a=b <;> simp [h]
def Yy:qo P .neq t (.s (.int k a)) (.s (.int k b))=some (.s (.bool (!decide (a=b)))):=by
 simp [qo,AV.val?,eqGuard,binOp,Op.intCmp,dL];by_cases h:a=b <;> simp [h]
def dG:qo P .add t (.s (.int k a)) (.s (.int k b))=some (.s (.int k (k.wrap (a+b)))):=by
 simp [qo,AV.val?,eqGuard,binOp,Op.intArith,dL]
def kY:qo P .sub t (.s (.int k a)) (.s (.int k b))=some (.s (.int k (k.wrap (a-b)))):=by
 simp [qo,AV.val?,eqGuard,binOp,Op.intArith,dL]
def nD:qo P .mul t (.s (.int k a)) (.s (.int k b))=some (.s (.int k (k.wrap (a*b)))):=by
 simp [qo,AV.val?,eqGuard,binOp,Op.intArith,dL]
def agS(h:b≠0):qo P .quo t (.s (.int k a)) (.s (.int k b))=some (.s (.int k (k.wrap (a.tdiv b)))):=by
 simp [qo,AV.val?,eqGuard,binOp,Op.intDiv,dL,h]
def BH(h:b≠0):qo P .rem t (.s (.int k a)) (.s (.int k b))=some (.s (.int k (a.tmod b))):=by
 simp [qo,AV.val?,eqGuard,binOp,Op.intDiv,dL,h]
def Yz {d:Array TypeId}:kU P false d t [.s (.int k a),.s (.int k b)]=some (.s (.int k (min a b))):=by
 simp [kU,vals?,AV.val?,Builtin.min_,Builtin.min2,dL,Int.min_def];split <;> split <;> first|rfl|omega
def RY {d:Array TypeId}:kU P true d t [.s (.int k a),.s (.int k b)]=some (.s (.int k (max a b))):=by
 simp [kU,vals?,AV.val?,Builtin.max_,Builtin.max2,dL,Int.max_def];split <;> split <;> first|rfl|omega
def UC {b:Bool}:unA P .not (.s (.bool b))=some (.s (.bool (!b))):=by
 simp [unA,AV.val?,Op.unary,dL]
def aja(b:-9223372036854775808<=a)(d:a<=9223372036854775807):IntKind.wrap .i64 a=a:=by
 simp only [IntKind.wrap,IntKind.bits,IntKind.signed];simp;omega
end
def au(x:AV)(o:Nat):Option AV:=
 match x with
 |.ref r g off=>some (.ref r g (off+o))
 |.ip cells=>some (.ip (cells.drop o))
 |_=>none
def rC {r g off o:Nat}:au (.ref r g off) o=some (.ref r g (off+o)):=rfl
def yQ {cells:List AV}{o:Nat}:au (.ip cells) o=some (.ip (cells.drop o)):=rfl
def YA {t:TypeId}{v:AV}{H:ah}(h:v.cells.all AV.aQ=true)(b:t<1000000000):jw t v H=some (.ref H.next 0 0,H.new (.blk 0 t v.cells)):=by
 unfold jw;rw [if_pos ⟨h,b⟩]
def gu {l:List AV}:(AV.agg l).cells=l:=rfl
def OW {k:IntKind}{n:Int}:(AV.s (.int k n)).cells=[.s (.int k n)]:=rfl
def Jm {b:Bool}:(AV.s (.bool b)).cells=[.s (.bool b)]:=rfl
def iV {k:IntKind}{n:Int}:(AV.s (.int k n)).aQ=true:=rfl
def kF {b:Bool}:(AV.s (.bool b)).aQ=true:=rfl
def Jo {r g off:Nat}:(AV.ref r g off).aQ=true:=rfl
def Jp {a b:Nat}:(AV.s (.slice none a b)).aQ=true:=rfl
def YB {r:Nat}:(AV.mp r).aQ=true:=rfl
section
variable {H:ah}{r r':Nat}{o:fZ}
def jh:(H.new o).get r=if r=H.next then o else H.get r:=rfl
def dM:(H.put r' o).get r=if r=r' then o else H.get r:=rfl
def Es:(H.new o).next=H.next+1:=rfl
def acs:(H.put r o).base=H.base:=rfl
end
section
variable (P:Program)(C:aC)(ops:List Oper)
def zL:List Oper->List Bool->fU->ah->Option (fU × ah)
 |o::os,true::b,t,H=>bnd (opA P C t o H) λv H=>zL os b (vW t o.dst v) H
 |_::os,false::b,t,H=>zL os b t H
 |[],[],t,H=>some (t,H)
 |_,_,_,_=>none
def YC:List (Option Bool):=(List.range ops.length).map λi=>if cst ops i=true then none else some (loose ops i && mM (qx ops i))
def FZ:List Bool:=(List.range ops.length).map (cst ops)
end
section
variable {P:Program}{C:aC}{ops:List Oper}
def OX:∀(l pre:List Oper) (t:fU) (H:ah),pre++l=ops->
  iK P C ops ((List.range' pre.length l.length).filter (cst ops)) t H=zL P C l ((List.range' pre.length l.length).map (cst ops)) t H
 |[],pre,t,H,_=>rfl
 |o::l,pre,t,H,h=>by
  have d:ops[pre.length]?=some o:=by rw [<-h];simp
  have b:=λt H=>OX l (pre++[o]) t H (by simpa using h);simp only [zan,zal,zam] at b;rw [zal,zdg,zaA,zbT];cases g:cst ops pre.length with
  |false=>
   simp only [zae,if_false,zL];exact b t H
  |true=>
   simp only [if_true,iK,d,zL];cases e:opA P C t o H with
   |none=>rfl
   |some r=>exact b _ _
def unG(H:ah)(r:Option (AV × ah)):Option (AV × ah):=
 match r with
 |some (v,H')=>some (v,{ H' with base:=H.base })
 |none=>none
def UD {H:ah}{v:AV}:unG H (some (v,H.guard))=some (v,H):=rfl
end
def nx1(n:Nat):(n=n+1)=False:=eq_false V
def ny1(n:Nat):(n+1=n)=False:=eq_false V
def nx2(n:Nat):(n=n+1+1)=False:=eq_false V
def ny2(n:Nat):(n+1+1=n)=False:=eq_false V
def nx3(n:Nat):(n=n+1+1+1)=False:=eq_false V
def ny3(n:Nat):(n+1+1+1=n)=False:=eq_false V
structure Ann where
 live:List (Nat × List Nat)
 draw:List (Nat × List (Option Bool))
 pairs:List (Nat × List (Nat × Nat))
def kK {α:Type}(d:α):List (Nat × α)->Nat->α
 |[],_=>d
 |(k,v)::l,n=>bif Nat.beq k n then v else kK d l n
def jL:Code->Nat
 |.region id _ _=>id+1
 |.seq a b=>match jL a with
  |0=>jL b
  |n+1=>n+1
 |.cond _ a b=>match jL a with
  |0=>jL b
  |n+1=>n+1
 |.block _ a=>jL a
 |.loop a=>jL a
 |_=>0
def bo {α β:Type}(x:Option α)(k:α->Option β):Option β:=
 match x with
 |some v=>k v
 |none=>none
def aX {β:Type}(c:AV)(x y:Option β):Option β:=
 match c with
 |.s (.bool true)=>x
 |.s (.bool false)=>y
 |_=>none
def F5 {β:Type}(B:List AV->ah->(List AV->ah->Option β)->Option β):Nat->List AV->ah->Option β
 |0,_,_=>none
 |n+1,s,H=>B s H (F5 B n)
def YD {β:Type}(B:List AV->ah->(List AV->ah->Option β)->Option β):List AV->ah->Option β:=λs H=>agN λn=>F5 B n s H
abbrev Env:=List (Nat × AV)
def NY:Env->Nat->AV
 |[],_=>bf
 |(d,v)::e,i=>bif Nat.beq d i then v else NY e i
def uI(n:Nat)(e:Env):Operand->AV
 |.tmp i=>bif Nat.blt i n then NY e i else bf
 |.const v=>.s v
 |.global g=>.s (.pointer (some ⟨g,0,none⟩))
 |.func f=>.fn (.func f) [] []
def aeu(e:Env)(dst:Option Tmp)(v:AV):Env:=
 match dst with
 |some d=>(d,v)::e
 |none=>e
def OY:List AV->Nat->Env
 |[],_=>[]
 |a::l,i=>(i,a)::OY l (i+1)
def xZ(M:List Nat)(e:Env):List AV:=match M with
 |[]=>[]
 |i::M=>NY e i::xZ M e
def emb(s:List AV):List Nat->Nat->Env
 |[],_=>[]
 |m::M,j=>(m,s.getD j bf)::emb s M (j+1)
section
variable {β:Type}(P:Program)(C:aC)
def agT(ev:Operand->AV)(c:Call)(type:TypeId):AM AV:=λH=>
 match c.callee with
 |.value f=>yJ P C (ev f) (c.args.toList.map ev) H
 |.builtin b=>iJ P b c.argTypes type (c.args.toList.map ev) H
 |.invoke _ _=>none
def opE(ev:Operand->AV)(o:Oper):AM AV:=
 match o.op with
 |.move x=>fQ (some (ev x))
 |.assign x=>fQ (some (ev x))
 |.pick c a b=>fQ (dR (ev c) (ev a) (ev b))
 |.alloc e=>I5 P e
 |.box e x=>jw e (ev x)
 |.build d g=>fQ (iM P d (g.toList.map λp=>(p.1,ev p.2)))
 |.buildSlice d n g=>dZ P d n (g.toList.map λp=>(p.1,ev p.2))
 |.load d x=>Rj P d (ev x)
 |.store d x v=>Og P d (ev x) (ev v)
 |.nilCheck x=>fQ (aA (ev x))
 |.binOp op d x y _=>fQ (aiT P op d y (ev x) (ev y))
 |.unOp op _ x=>fQ (unA P op (ev x))
 |.convert src dst x=>jW P src dst (ev x)
 |.makeFunc f a c=>fQ (some (.fn f (a.toList.map ev) (c.toList.map ev)))
 |.makeMap d none=>xu P d
 |.makeSlice d l c=>qh P d (ev l) (ev c)
 |.slice d x lo hi h=>fQ (Oe P d (ev x) (lo.map ev) (hi.map ev) (h.map ev))
 |.fieldAddr d x i=>fQ (sK P d (ev x) i)
 |.field d x i=>fQ (Ob P d (ev x) i)
 |.indexAddr d x i=>sO P d (ev x) (ev i)
 |.index d x i=>fQ (Oc P d (ev x) (ev i))
 |.lookup d x i ok=>Rk P d (ev x) (ev i) ok
 |.mapUpdate d m k v=>sQ P d (ev m) (ev k) (ev v)
 |.extract x i=>fQ (aK (ev x) i)
 |.call c=>agT P C ev c o.type
 |_=>λ_=>none
def Jq(ev:Operand->AV):Op->Option Nat
 |.load _ x=>bT (ev x)
 |.lookup _ x _ _=>bT (ev x)
 |.indexAddr _ x _=>bT (ev x)
 |.convert _ _ x=>bT (ev x)
 |.call c=>match c.args.toList with
  |[x]=>bT (ev x)
  |_=>none
 |_=>none
def opK(ev:Operand->AV)(o:Oper)(H:ah)(k:AV->ah->Option β):Option β:=
 match o.op with
 |.move x=>k (ev x) H
 |.assign x=>k (ev x) H
 |.pick c a b=>bo (dR (ev c) (ev a) (ev b)) λv=>k v H
 |.build d e=>bo (iM P d (e.toList.map λp=>(p.1,ev p.2))) λv=>k v H
 |.nilCheck x=>bo (aA (ev x)) λv=>k v H
 |.binOp op d x y _=>bo (aiT P op d y (ev x) (ev y)) λv=>k v H
 |.unOp op _ x=>bo (unA P op (ev x)) λv=>k v H
 |.makeFunc f a c=>k (.fn f (a.toList.map (ev)) (c.toList.map (ev))) H
 |.slice d x lo hi g=>bo (Oe P d (ev x) (lo.map (ev)) (hi.map (ev)) (g.map (ev))) λv=>k v H
 |.fieldAddr d x i=>bo (sK P d (ev x) i) λv=>k v H
 |.field d x i=>bo (Ob P d (ev x) i) λv=>k v H
 |.index d x i=>bo (Oc P d (ev x) (ev i)) λv=>k v H
 |.extract x i=>bo (aK (ev x) i) λv=>k v H
 |_=>bnd (opE P C ev o H) k
def OZ(n:Nat)(ops:List Oper)(e:Env)(j:Nat):Option AV:=
 match ops[j]? with
 |some p=>match p.dst with
  |some d=>bif Nat.blt d n then some (NY e d) else none
  |none=>none
 |none=>none
def WE(n:Nat)(ops:List Oper)(lo:Bool)(o:Oper)(t:Env)(H:ah)(k:AV->ah->Option β):Option β:=
 match o.guard with
 |none=>match lo with
  |true=>bnd (unG H (opE P C (uI n t) o H.guard)) k
  |false=>opK P C (uI n t) o H k
 |some (j,b)=>match lo with
  |true=>gdA (OZ n ops t j) b (unG H (opE P C (uI n t) o H.guard)) H k
  |false=>gdA (OZ n ops t j) b (opE P C (uI n t) o H) H k
def ajb(n:Nat)(ops:List Oper):List Oper->Env->ah->(Env->ah->Option β)->Option β
 |[],t,H,k=>k t H
 |o::rest,t,H,k=>WE P C n ops false o t H λv H=>ajb n ops rest (aeu t o.dst v) H k
def Jr(n:Nat):List Oper->List (Option Bool)->Env->ah->(Env->ah->Option β)->Option β
 |o::os,none::b,t,H,k=>bnd (opE P C (uI n t) o H) λv H=>Jr n os b (aeu t o.dst v) H k
 |_::os,some _::b,t,H,k=>Jr n os b t H k
 |[],[],t,H,k=>k t H
 |_,_,_,_,_=>none
abbrev Log:=List (Nat × Option Nat × ah × ah)
def Ee:Log->Nat->Option (Option Nat × ah × ah)
 |[],_=>none
 |(i,x)::l,n=>bif Nat.beq i n then some x else Ee l n
open Classical in
def ck(w:Option Nat)(H H':ah)(k:Option β):Option β:=if∀r,w=some r->H'.get r=H.get r then k else none
open Classical in
def ckR(s b:Nat)(H H':ah)(k:Option β):Option β:=if∀r,s<=r->r<b->H'.get r=H.get r then k else none
def ckL(ops:List Oper)(s d:Nat)(b:Log):List (Nat × Nat)->Option β->Option β
 |[],k=>k
 |(j,e)::g,k=>match cst ops j with
  |true=>match Ee b e with
   |some (_,H,H')=>ckR s d H H' (ckL ops s d b g k)
   |none=>none
  |false=>match Ee b j,Ee b e with
   |some (w,_,_),some (_,H,H')=>ck w H H' (ckL ops s d b g k)
   |_,_=>none
def IK(n:Nat)(ops:List Oper)(s d:Nat)(ps:List (Nat × Nat)):List Oper->List (Option Bool)->Nat->Env->ah->Log->(Env->ah->Option β)->Option β
 |o::os,some lo::e,i,t,H,b,k=>WE P C n ops lo o t H λv H'=>IK n ops s d ps os e (i+1) (aeu t o.dst v) H' ((i,Jq (uI n t) o.op,H,H')::b) k
 |_::os,none::e,i,t,H,b,k=>IK n ops s d ps os e (i+1) t H b k
 |[],[],_,t,H,b,k=>ckL ops s d b ps (k t H)
 |_,_,_,_,_,_,_=>none
def kL(A:Ann)(n:Nat):Code->Env->ah->(Env->ah->Option β)->(Nat->Env->ah->Option β)->(Env->ah->Option β)->Option β
 |.skip=>λt H kn _ _=>kn t H
 |.region id ops d=>λt H kn _ _=>
  match d with
  |true=>Jr P C n ops.toList (kK [] A.draw id) t H λt H0=>IK P C n ops.toList H.next H0.next (kK [] A.pairs id) ops.toList (kK [] A.draw id) 0 t H0 [] kn
  |false=>ajb P C n ops.toList ops.toList t H kn
 |.seq a b=>λt H kn kx kr=>kL A n a t H (λt H=>kL A n b t H kn kx kr) kx kr
 |.cond c a b=>λt H kn kx kr=>aX (uI n t c) (kL A n a t H kn kx kr) (kL A n b t H kn kx kr)
 |.block id a=>λt H kn kx kr=>kL A n a t H kn (λi t H=>match Nat.beq i id with
  |true=>kn t H
  |false=>kx i t H) kr
 |.loop a=>λt H _ kx kr=>YD (λs H k=>kL A n a (emb s (kK [] A.live (jL a)) 0) H (λt H=>k (xZ (kK [] A.live (jL a)) t) H) kx kr) (xZ (kK [] A.live (jL a)) t) H
 |.exit i=>λt H _ kx _=>kx i t H
 |.ret=>λt H _ _ kr=>kr t H
 |_=>λ_ _ _ _ _=>none
def vN(A:Ann)(n:Nat):Code->(Env->ah->Option β)->(Nat->Env->ah->Option β)->(Env->ah->Option β)->List (List AV->ah->Option β)
 |.seq a b=>λkn kx kr=>vN A n a (λt H=>kL P C A n b t H kn kx kr) kx kr++vN A n b kn kx kr
 |.cond _ a b=>λkn kx kr=>vN A n a kn kx kr++vN A n b kn kx kr
 |.block id a=>λkn kx kr=>vN A n a kn (λi t H=>match Nat.beq i id with
  |true=>kn t H
  |false=>kx i t H) kr
 |.loop a=>λ_ kx kr=>YD (λs H k=>kL P C A n a (emb s (kK [] A.live (jL a)) 0) H (λt H=>k (xZ (kK [] A.live (jL a)) t) H) kx kr)::
   vN A n a (λt H=>YD (λs H k=>kL P C A n a (emb s (kK [] A.live (jL a)) 0) H (λt H=>k (xZ (kK [] A.live (jL a)) t) H) kx kr) (xZ (kK [] A.live (jL a)) t) H) kx kr
 |_=>λ_ _ _=>[]
def pq(A:Ann)(n:Nat):Code->(Env->ah->Option β)->(Nat->Env->ah->Option β)->(Env->ah->Option β)->List (List AV->ah->Option β)
 |.seq a b=>λkn kx kr=>pq A n a (λt H=>kL P C A n b t H kn kx kr) kx kr++pq A n b kn kx kr
 |.cond _ a b=>λkn kx kr=>pq A n a kn kx kr++pq A n b kn kx kr
 |.block id a=>λkn kx kr=>pq A n a kn (λi t H=>match Nat.beq i id with
  |true=>kn t H
  |false=>kx i t H) kr
 |.loop a=>λ_ kx kr=>(λs H=>kL P C A n a (emb s (kK [] A.live (jL a)) 0) H (λt H=>YD (λs H k=>kL P C A n a (emb s (kK [] A.live (jL a)) 0) H (λt H=>k (xZ (kK [] A.live (jL a)) t) H) kx kr) (xZ (kK [] A.live (jL a)) t) H) kx kr)::
   pq A n a (λt H=>YD (λs H k=>kL P C A n a (emb s (kK [] A.live (jL a)) 0) H (λt H=>k (xZ (kK [] A.live (jL a)) t) H) kx kr) (xZ (kK [] A.live (jL a)) t) H) kx kr
 |_=>λ_ _ _=>[]
end
section
variable (P:Program)
def RZ(n:Nat)(t:Env)(H:ah):List ResultVar->(List AV->Option (AV × ah))->Option (AV × ah)
 |[],k=>k []
 |.tmp d::b,k=>RZ n t H b λl=>k (uI n t (.tmp d)::l)
 |.cell a e::b,k=>bnd (Rj P e (uI n t (.tmp a)) H) λv _=>RZ n t H b λl=>k (v::l)
def aqC(H:ah):List AV->Option (AV × ah)
 |[x]=>some (x,H)
 |xs=>some (.tup xs,H)
def NZ(n:Nat)(b:List ResultVar)(t:Env)(H:ah):Option (AV × ah):=RZ P n t H b (aqC H)
end
def x8 {β:Type}(F:(List AV->ah->Option β)->Option β):Prop:=
 ∀k r,F k=some r->(∀k',F k'=some r)∨∃s H,k s H=some r/\∀k',k' s H=some r->F k'=some r
section
variable {β:Type}
def gV(x:Option β):x8 λ_=>x:=λ_ _ h=>.inl λ_=>h
def YE(s:List AV)(H:ah):x8 λ(k:List AV->ah->Option β)=>k s H:=λ_ _ h=>.inr ⟨s,H,h,λ_ h=>h⟩
def UE {x:Option (AV × ah)}{K:(List AV->ah->Option β)->AV->ah->Option β}(h:∀v H,x8 λk=>K k v H):x8 λk=>bnd x (K k):=by
 rcases x with _|⟨v,H⟩
 ·exact gV none
 ·exact h v H
def anU {b:Bool}{x:Option (AV × ah)}{H:ah}{K:(List AV->ah->Option β)->AV->ah->Option β}(h:∀v H,x8 λk=>K k v H):x8 λk=>gd b x H (K k):=by
 cases b
 ·exact h bf H
 ·exact UE h
def ajc {g:Option AV}{d:Bool}{x:Option (AV × ah)}{H:ah}{K:(List AV->ah->Option β)->AV->ah->Option β}(h:∀v H,x8 λk=>K k v H):x8 λk=>gdA g d x H (K k):=by
 unfold gdA;cases Jl g d with
 |none=>exact gV none
 |some b=>exact anU h
def acu {c:AV}{x y:(List AV->ah->Option β)->Option β}(b:x8 x)(d:x8 y):x8 λk=>aX c (x k) (y k):=by
 unfold aX;split
 ·exact b
 ·exact d
 ·exact gV none
variable {P:Program}{C:aC}
def aev {t:Operand->AV}{o:Oper}{H:ah}{k:AV->ah->Option β}:opK P C t o H k=bnd (opE P C t o H) k:=by
 obtain⟨dst,op,b,d,after,guard⟩:=o;have key:∀x:Option AV,bo x (λv=>k v H)=bnd (fQ x H) k:=by intro x;cases x <;> rfl
 cases op <;> first|rfl|exact key _
def Js {n:Nat}{ops:List Oper}{lo:Bool}{o:Oper}{t:Env}{H:ah}{K:(List AV->ah->Option β)->AV->ah->Option β}(h:∀v H,x8 λk=>K k v H):x8 λk=>WE P C n ops lo o t H (K k):=by
 unfold WE;cases o.guard with
 |none=>
  cases lo with
  |false=>simp only [aev];exact UE h
  |true=>exact UE h
 |some g=>cases lo <;> exact ajc h
def O4 {n:Nat}{ops:List Oper}{K:(List AV->ah->Option β)->Env->ah->Option β}(h:∀t H,x8 λk=>K k t H):∀(l:List Oper) (t:Env) (H:ah),x8 λk=>ajb P C n ops l t H (K k)
 |[],t,H=>h t H
 |o::l,t,H=>Js λv H=>O4 h l _ H
def yR {n:Nat}{K:(List AV->ah->Option β)->Env->ah->Option β}(h:∀t H,x8 λk=>K k t H):∀(l:List Oper) (d:List (Option Bool)) (t:Env) (H:ah),x8 λk=>Jr P C n l d t H (K k)
 |[],[],t,H=>h t H
 |[],f::d,t,H=>gV none
 |o::l,[],t,H=>gV none
 |o::l,none::d,t,H=>UE λv H=>yR h l d _ H
 |o::l,some b::d,t,H=>yR h l d t H
def agU {w:Option Nat}{H H':ah}{K:(List AV->ah->Option β)->Option β}(h:x8 K):x8 λk=>ck w H H' (K k):=by
 unfold ck;split
 ·exact h
 ·exact gV none
def acv {s b:Nat}{H H':ah}{K:(List AV->ah->Option β)->Option β}(h:x8 K):x8 λk=>ckR s b H H' (K k):=by
 unfold ckR;split
 ·exact h
 ·exact gV none
def Lj {ops:List Oper}{s d:Nat}{b:Log}{K:(List AV->ah->Option β)->Option β}(h:x8 K):∀ps,x8 λk=>ckL ops s d b ps (K k)
 |[]=>h
 |(j,e)::ps=>by
  simp only [ckL];cases cst ops j with
  |true=>
   cases Ee b e with
   |none=>exact gV none
   |some y=>exact acv (Lj h ps)
  |false=>
   cases Ee b j with
   |none=>exact gV none
   |some x=>
    cases Ee b e with
    |none=>exact gV none
    |some y=>exact agU (Lj h ps)
def BI {n:Nat}{ops:List Oper}{s e:Nat}{ps:List (Nat × Nat)}{K:(List AV->ah->Option β)->Env->ah->Option β}(h:∀t H,x8 λk=>K k t H):∀(l:List Oper) (d:List (Option Bool)) (i:Nat) (t:Env) (H:ah) (b:Log),x8 λk=>IK P C n ops s e ps l d i t H b (K k)
 |[],[],i,t,H,b=>Lj (h t H) ps
 |[],f::d,i,t,H,b=>gV none
 |o::l,[],i,t,H,b=>gV none
 |o::l,none::d,i,t,H,b=>BI h l d (i+1) t H b
 |o::l,some lo::d,i,t,H,b=>by
  exact Js λv H'=>BI h l d (i+1) _ H' _
def sW {B:List AV->ah->(List AV->ah->Option β)->Option β}(d:∀s H,x8 (B s H)):∀m s H r,F5 B m s H=some r->F5 B (m+1) s H=some r:=by
 intro m
 induction m with
 |zero=>intro s H r h;cases h
 |succ m e=>
  intro s H r h;rcases d s H _ r h with b|⟨i,H',b,g⟩
  ·exact b _
  ·exact g _ (e _ _ _ b)
def agV {B:List AV->ah->(List AV->ah->Option β)->Option β}(d:∀s H,x8 (B s H))(s:List AV)(H:ah):YD B s H=B s H (YD B):=by
 have j:∀r,B s H (YD B)=some r->YD B s H=some r:=by
  intro r h;rcases d s H _ r h with b|⟨e,H',b,i⟩
  ·exact wF (g:=λn=>F5 B n s H) (λn r=>sW d n s H r) (n:=1) (b _)
  ·obtain⟨m,hm⟩:=lG b;exact wF (g:=λn=>F5 B n s H) (λn r=>sW d n s H r) (n:=m+1) (i _ hm)
 cases h:YD B s H with
 |none=>
  cases k:B s H (YD B) with
  |none=>rfl
  |some r=>rw [j r k] at h;cases h
 |some r=>
  obtain⟨m,hm⟩:=lG h;cases m with
  |zero=>cases hm
  |succ m=>
   symm;rcases d s H _ r hm with b|⟨e,H',b,i⟩
   ·exact b _
   ·exact i _ (wF (g:=λn=>F5 B n e H') (λn r=>sW d n e H' r) b)
def Jt {A:Ann}{n:Nat}:∀(c:Code) (t:Env) (H:ah) (kn:(List AV->ah->Option β)->Env->ah->Option β) (kx:(List AV->ah->Option β)->Nat->Env->ah->Option β) (kr:(List AV->ah->Option β)->Env->ah->Option β),
  (∀t H,x8 λk=>kn k t H)->(∀i t H,x8 λk=>kx k i t H)->(∀t H,x8 λk=>kr k t H)->x8 λk=>kL P C A n c t H (kn k) (kx k) (kr k):=by
 intro c
 induction c with
 |skip=>intro t H kn kx kr e g o;exact e t H
 |region id ops d=>
  intro t H kn kx kr e g o;simp only [kL];cases d with
  |false=>
   exact O4 e _ _ _
  |true=>
   exact yR (λv H=>BI e _ _ _ _ _ _) _ _ _ _
 |seq a b p q=>
  intro t H kn kx kr e g o;exact p t H (λk t H=>kL P C A n b t H (kn k) (kx k) (kr k)) kx kr (λt H=>q t H kn kx kr e g o) g o
 |cond c a b p q=>
  intro t H kn kx kr e g o;exact acu (p t H kn kx kr e g o) (q t H kn kx kr e g o)
 |block id a u=>
  intro t H kn kx kr e g o;exact u t H kn (λk i t H=>match Nat.beq i id with
   |true=>kn k t H
   |false=>kx k i t H) kr e (λi t H=>by
   cases hb:Nat.beq i id with
   |true=>simp only [hb];exact e t H
   |false=>simp only [hb];exact g i t H) o
 |loop a u=>
  intro t H kn kx kr e g o;simp only [kL];generalize kK [] A.live (jL a)=M;have z:∀m s H,x8 λk=>F5 (λs H j=>kL P C A n a (emb s M 0) H (λt H=>j (xZ M t) H) (kx k) (kr k)) m s H:=by
   intro m
   induction m with
   |zero=>intro s H;exact gV none
   |succ m v=>intro s H;exact u _ H (λk t H=>F5 (λs H j=>kL P C A n a (emb s M 0) H (λt H=>j (xZ M t) H) (kx k) (kr k)) m (xZ M t) H) kx kr (λt H=>v _ H) g o
  have y:∀(k:List AV->ah->Option β) s H,x8 ((λs H j=>kL P C A n a (emb s M 0) H (λt H=>j (xZ M t) H) (kx k) (kr k)) s H):=λk s H=>
   u _ H (λj t H=>j (xZ M t) H) (λ_=>kx k) (λ_=>kr k) (λt H=>YE _ _) (λi t H=>gV _) (λt H=>gV _)
  intro k r h;obtain⟨m,hm⟩:=lG h;rcases z m _ _ k r hm with w|⟨D,H',w,E⟩
  ·exact .inl λk'=>wF (λn r=>sW (y k') n _ _ r) (w k')
  ·exact .inr ⟨D,H',w,λk' F=>wF (λn r=>sW (y k') n _ _ r) (E k' F)⟩
 |exit i=>intro t H kn kx kr e g o;exact g i t H
 |ret=>intro t H kn kx kr e g o;exact o t H
 |_=>intro t H kn kx kr e g o;exact gV none
def acw {A:Ann}{n:Nat}:∀(c:Code) (kn:Env->ah->Option β) (kx:Nat->Env->ah->Option β) (kr:Env->ah->Option β),vN P C A n c kn kx kr=pq P C A n c kn kx kr:=by
 intro c
 induction c with
 |seq a b d e=>intro kn kx kr;simp only [vN,pq,d,e]
 |cond c a b d e=>intro kn kx kr;simp only [vN,pq,d,e]
 |block id a g=>intro kn kx kr;simp only [vN,pq,g]
 |loop a g=>
  intro kn kx kr;simp only [vN,pq,g]
  congr 1
  funext s H
  exact agV (λs H=>Jt a _ H (λj t H=>j (xZ _ t) H) (λ_=>kx) (λ_=>kr) (λt H=>YE _ _) (λi t H=>gV _) (λt H=>gV _)) s H
 |_=>intro kn kx kr;rfl
end
def aew:List Operand->Nat
 |[]=>0
 |.tmp d::xs=>2 ^ d ||| aew xs
 |_::xs=>aew xs
def aqa(d L:Nat):Nat:=L ^^^ (L &&& 2 ^ d)
def aex(ops:List Oper)(o:Oper):Nat:=
 match o.guard with
 |none=>0
 |some (j,_)=>match ops[j]? with
  |some p=>match p.dst with
   |some d=>2 ^ d
   |none=>0
  |none=>0
def WG(ops:List Oper)(o:Oper)(L:Nat):Nat:=
 (aew o.op.operands.toList ||| aex ops o) ||| (match o.dst with
  |some d=>aqa d L
  |none=>L)
def Si(ops:List Oper):List Oper->Nat->Nat
 |[],L=>L
 |o::os,L=>WG ops o (Si ops os L)
def acy(ops:List Oper):List Oper->List (Option Bool)->Nat->Nat
 |o::os,none::b,L=>WG ops o (acy ops os b L)
 |_::os,some _::b,L=>acy ops os b L
 |_,_,L=>L
def Sj(ops:List Oper):List Oper->List (Option Bool)->Nat->Nat
 |o::os,some _::b,L=>WG ops o (Sj ops os b L)
 |_::os,none::b,L=>Sj ops os b L
 |_,_,L=>L
def pU:List Nat->Nat
 |[]=>0
 |i::M=>2 ^ i ||| pU M
def yS(A:Ann):Code->Nat->(Nat->Nat)->Nat->Nat
 |.skip=>λLn _ _=>Ln
 |.region id ops d=>λLn _ _=>cond d (acy ops.toList ops.toList (kK [] A.draw id) (Sj ops.toList ops.toList (kK [] A.draw id) Ln)) (Si ops.toList ops.toList Ln)
 |.seq a b=>λLn Lx Lr=>yS A a (yS A b Ln Lx Lr) Lx Lr
 |.cond c a b=>λLn Lx Lr=>aew [c] ||| (yS A a Ln Lx Lr ||| yS A b Ln Lx Lr)
 |.block id a=>λLn Lx Lr=>yS A a Ln (λi=>cond (Nat.beq i id) Ln (Lx i)) Lr
 |.loop a=>λ_ _ _=>pU (kK [] A.live (jL a))
 |.exit i=>λ_ Lx _=>Lx i
 |.ret=>λ_ _ Lr=>Lr
 |_=>λ_ _ _=>0
def ajd:List (Option Bool)->List (Option Bool)->Bool
 |[],[]=>true
 |none::a,none::b=>ajd a b
 |some x::a,some y::b=>(x==y) && ajd a b
 |_,_=>false
def anr:List (Nat × Nat)->List (Nat × Nat)->Bool
 |[],[]=>true
 |(a,b)::l,(c,d)::m=>Nat.beq a c && (Nat.beq b d && anr l m)
 |_,_=>false
def O5(A:Ann)(n:Nat):Code->Nat->(Nat->Nat)->Nat->Bool
 |.region id ops d=>λ_ _ _=>cond d (Ug ops.toList && (anr (lS ops.toList) (kK [] A.pairs id) && ajd (YC ops.toList) (kK [] A.draw id))) true
 |.seq a b=>λLn Lx Lr=>O5 A n a (yS A b Ln Lx Lr) Lx Lr && O5 A n b Ln Lx Lr
 |.cond _ a b=>λLn Lx Lr=>O5 A n a Ln Lx Lr && O5 A n b Ln Lx Lr
 |.block id a=>λLn Lx Lr=>O5 A n a Ln (λi=>cond (Nat.beq i id) Ln (Lx i)) Lr
 |.loop a=>λ_ Lx Lr=>(let M:=pU (kK [] A.live (jL a));let X:=yS A a M Lx Lr;Nat.beq (M ||| X) M && O5 A n a M Lx Lr)
 |_=>λ_ _ _=>true
structure Ag(n L:Nat)(t:fU)(e:Env):Prop where
 len:t.length=n
 get:∀i,i<n->L.testBit i=true->t.getD i bf=NY e i
def Ag.sub {n L b:Nat}{t:fU}{e:Env}(h:Ag n L t e)(hs:∀i,b.testBit i=true->L.testBit i=true):Ag n b t e:=⟨h.len,λi d hi=>h.get i d (hs i hi)⟩
def Ag.left {n L b:Nat}{t:fU}{e:Env}(h:Ag n (L ||| b) t e):Ag n L t e:=h.sub λi hi=>by rw [zcA,hi];rfl
def Ag.right {n L b:Nat}{t:fU}{e:Env}(h:Ag n (L ||| b) t e):Ag n b t e:=h.sub λi hi=>by rw [zcA,hi];simp
def UF {i n:Nat}(h:i<n):Nat.blt i n=true:=by simpa [Nat.blt_eq] using h
def O6 {i n:Nat}(h:n<=i):Nat.blt i n=false:=by
 cases hb:Nat.blt i n with
 |false=>rfl
 |true=>rw [Nat.blt_eq] at hb;omega
def uJ {d:Nat}:(2 ^ d).testBit d=true:=by rw [zcZ];simp
def UG:∀(xs:List Operand) (d:Nat),Operand.tmp d∈xs->(aew xs).testBit d=true
 |x::xs,d,h=>by
  rcases zaj.1 h with rfl|h
  ·simp only [aew];rw [zcA,uJ];rfl
  ·have:=UG xs d h;cases x with
   |tmp e=>simp only [aew];rw [zcA,this];simp
   |_=>exact this
def Ag.tmp {n L:Nat}{t:fU}{e:Env}(h:Ag n L t e){d:Nat}(hd:L.testBit d=true):t.getD d bf=uI n e (.tmp d):=by
 have g:=h.len;rcases zaT d n with b|b
 ·simp only [uI,UF b,cond_true];exact h.get d b hd
 ·simp only [uI,O6 b,cond_false];simp [List.getD,g,b]
def Ag.eval {n:Nat}{xs:List Operand}{t:fU}{e:Env}(h:Ag n (aew xs) t e){x:Operand}(b:x∈xs):dP t x=uI n e x:=by
 cases x with
 |tmp d=>exact h.tmp (UG xs d b)
 |_=>rfl
def Ag.put {n L:Nat}{t:fU}{e:Env}{o:Oper}{ops:List Oper}(h:Ag n (WG ops o L) t e)(v:AV):Ag n L (vW t o.dst v) (aeu e o.dst v):=by
 have g:=h.right;cases hd:o.dst with
 |none=>rw [hd] at g;exact g
 |some d=>
  rw [hd] at g;have k:=h.len;refine⟨by simp [vW,h.len],λi j hi=>?_⟩;by_cases b:d=i
  ·subst b;simp only [vW,aeu,NY,Nat.beq_refl,cond_true];rw [RU V]
  ·have hb:Nat.beq d i=false:=zdG.2 λh=>b (zbD h);simp only [vW,aeu,NY,hb,cond_false];rw [getD_set_ne b];refine g.get i j ?_;simp only [aqa,Nat.testBit_xor,Nat.testBit_and,zcZ,hi,b];simp
section
variable {β:Type}{P:Program}{C:aC}{n:Nat}
def anV {t:fU}{o:Oper}:opA P C t o=opE P C (dP t) o:=by
 obtain⟨dst,op,b,d,after,guard⟩:=o;cases op <;> first|rfl|(rename_i x;cases x <;> rfl)|(rename_i x y;cases y <;> rfl)
def YF {ev d:Operand->AV}{o:Oper}(h:∀x∈o.op.operands.toList,ev x=d x):opE P C ev o=opE P C d o:=by
 obtain⟨dst,op,w,A,after,guard⟩:=o;have mp:∀(j:Array (Nat × Operand)),(∀x∈(j.toList.map (·.2)),ev x=d x)->j.toList.map (λp=>(p.1,ev p.2))=j.toList.map λp=>(p.1,d p.2):=λps D=>
  zbq λp hm=>by rw [D p.2 (zaG.2 ⟨p,hm,rfl⟩)]
 have q:∀(x:Option Operand),(∀y∈x.toArray.toList,ev y=d y)->x.map ev=x.map d:=λx e=>by
  cases x with
  |none=>rfl
  |some y=>simp only [zak,e y O]
 simp only at h;cases op with
 |build u j=>simp only [opE,mp j λx e=>h x (by simpa [Op.operands] using e)]
 |buildSlice u m j=>simp only [opE,mp j λx e=>h x (by simpa [Op.operands] using e)]
 |makeFunc f a c=>
  simp only [opE];rw [zbq (f:=ev) (g:=d) (l:=a.toList) λx e=>h x (by simp [Op.operands];exact .inl (by simpa using e)),zbq (f:=ev) (g:=d) (l:=c.toList) λx e=>h x (by simp [Op.operands];exact .inr (by simpa using e))]
 |makeMap u r=>cases r <;> rfl
 |slice u x lo hi E=>
  simp only [opE];rw [h x (by simp [Op.operands]),q lo λy k=>h y (by simp [Op.operands];exact .inr (.inl (by simpa using k))),q hi λy k=>h y (by simp [Op.operands];exact .inr (.inr (.inl (by simpa using k)))),q E λy k=>h y (by simp [Op.operands];exact .inr (.inr (.inr (by simpa using k))))]
 |call c=>
  obtain⟨v,i,F⟩:=c;have z:i.toList.map ev=i.toList.map d:=zbq λx e=>h x (by simp [Op.operands,Call.operands];exact .inr (by simpa using e));cases v with
  |value f=>
   simp only [opE]
   funext H
   simp only [agT];rw [z,h f (by simp [Op.operands,Call.operands])]
  |builtin b=>
   simp only [opE]
   funext H
   simp only [agT];rw [z]
  |invoke r m=>rfl
 |_=>first|rfl|(simp only [opE,h _ (show _ from(by simp [Op.operands]))];done)|(simp [Op.operands] at h;simp only [opE,h])
def Ag.op {L:Nat}{t:fU}{e:Env}{ops:List Oper}{o:Oper}(h:Ag n (WG ops o L) t e):opA P C t o=opE P C (uI n e) o:=by
 rw [anV];exact YF λx b=>h.left.left.eval b
def Le(x y:Option β):Prop:=∀r,x=some r->y=some r
def Le.refl(x:Option β):Le x x:=λ_ h=>h
def Le.bnd {α:Type}{x:Option (α × ah)}{k k':α->ah->Option β}(h:∀v H,Le (k v H) (k' v H)):Le (bnd x k) (bnd x k'):=by
 rcases x with _|⟨v,H⟩
 ·exact Le.refl _
 ·exact h v H
def UH {L:Nat}{t:fU}{e:Env}{ops:List Oper}{lo:Bool}{o:Oper}(h:Ag n (WG ops o L) t e){H:ah}{k k':AV->ah->Option β}(q:∀v H,Le (k' v H) (k v H)):Le (WE P C n ops lo o e H k') (bnd (mW P C ops lo o t H) k):=by
 have i:opA P C t o=opE P C (uI n e) o:=h.op;unfold WE mW;cases y:o.guard with
 |none=>
  simp only [ug,y];cases lo with
  |false=>simp only [zae,if_false,aev,i];exact Le.bnd q
  |true=>
   simp only [if_true,opG,i];exact Le.bnd q
 |some gd=>
  obtain⟨j,u⟩:=gd;rw [OU y];have m:=h.left.right;simp only [aex,y] at m;have z:∀v,OZ n ops e j=some v->Uz ops t j=some v:=by
   intro v g;unfold OZ at g;unfold Uz;cases E:ops[j]? with
   |none=>rw [E] at g;cases g
   |some p=>
    rw [E] at g m;simp only at g m;simp only [za6];cases hd:p.dst with
    |none=>rw [hd] at g;cases g
    |some d=>
     rw [hd] at g m;simp only at g m;simp only [za6];rcases zaT d n with w|w
     ·rw [UF w] at g;have:=m.len;rw [Ld V,m.get d w uJ];exact g
     ·rw [O6 w] at g;cases g
  simp only;cases A:OZ n ops e j with
  |none=>intro r D;cases lo <;> simp [gdA,Jl] at D
  |some v=>
   rw [z v A];simp only [gdA];cases Jl (some v) u with
   |none=>intro r D;cases lo <;> cases D
   |some b=>
    cases b
    ·cases lo <;> exact q _ _
    ·cases lo with
     |false=>simp only [gd,if_true,zae,if_false,i];exact Le.bnd q
     |true=>simp only [gd,if_true,opG,i];exact Le.bnd q
def YG {ops:List Oper}{L:Nat}{k:fU->ah->Option β}{k':Env->ah->Option β}(d:∀t e H,Ag n L t e->Le (k' e H) (k t H)):∀(l:List Oper) (t:fU) (e:Env) (H:ah),Ag n (Si ops l L) t e->Le (ajb P C n ops l e H k') (bnd (Oi P C ops l t H) k)
 |[],t,e,H,h=>d t e H h
 |o::l,t,e,H,h=>by
  rw [zK];have:=UH (P:=P) (C:=C) (lo:=false) h (H:=H) (k:=λv H=>bnd (Oi P C ops l (vW t o.dst v) H) k) (k':=λv H=>ajb P C n ops l (aeu e o.dst v) H k') λv H=>YG d l _ _ H (h.put v);refine λr g=>?_;have b:=this r g;cases hs:mW P C ops false o t H with
  |none=>rw [hs] at b;cases b
  |some q=>rw [hs] at b;exact b
def F6 {ops:List Oper}{L:Nat}{k:fU->ah->Option β}{k':Env->ah->Option β}(g:∀t e H,Ag n L t e->Le (k' e H) (k t H)):∀(l:List Oper) (d:List (Option Bool)) (t:fU) (e:Env) (H:ah),Ag n (acy ops l d L) t e->Le (Jr P C n l d e H k') (bnd (zL P C l (d.map λf=>f.isNone) t H) k)
 |[],[],t,e,H,h=>g t e H h
 |[],f::d,t,e,H,h=>λr i=>by cases i
 |o::l,[],t,e,H,h=>λr i=>by cases i
 |o::l,none::d,t,e,H,h=>by
  simp only [Jr,zaA,zcL,zL];rw [Ag.op (P:=P) (C:=C) h];cases opE P C (uI n e) o H with
  |none=>exact Le.refl _
  |some q=>exact F6 g l d _ _ _ (Ag.put h _)
 |o::l,some b::d,t,e,H,h=>F6 g l d _ _ H h
def agW {t:fU}{ev:Operand->AV}{o:Oper}(h:∀x∈o.op.operands.toList,dP t x=ev x):lD t o.op=Jq ev o.op:=by
 obtain⟨dst,op,d,g,after,guard⟩:=o;simp only at h;cases op with
 |call c=>
  obtain⟨i,b,j⟩:=c;simp only [lD,Jq];have e:∀x∈b.toList,dP t x=ev x:=λx k=>h x (by simp [Op.operands,Call.operands];exact .inr (by simpa using k));generalize b.toList=l at e
  match l with
  |[]=>rfl
  |[x]=>simp only [e x O]
  |x::y::l=>rfl
 |_=>first|rfl|(simp [Op.operands] at h;simp only [lD,Jq,h])
def F9 {ops:List Oper}{s:Nat}{ps:List (Nat × Nat)}{t0:fU}{H0:ah}{L:Nat}{k':Env->ah->Option β}{r:β}:∀(l:List Oper) (i:Nat) (t:fU) (e:Env) (H:ah) (d:Log),i+l.length=ops.length->ops.drop i=l->Fv P C ops i t0 H0=some (t,H)->
  Ag n (Sj ops l ((List.range' i l.length).map λi=>if cst ops i=true then none else some (loose ops i && mM (qx ops i))) L) t e->
  (∀j w A D,Ee d j=some (w,A,D)->∃X tb,Fv P C ops j t0 H0=some (X,A)/\w=lD X (qx ops j)/\Fv P C ops (j+1) t0 H0=some (tb,D))->
  IK P C n ops s H0.next ps l ((List.range' i l.length).map λi=>if cst ops i=true then none else some (loose ops i && mM (qx ops i))) i e H d k'=some r->
  ∃t' e' H',fO P C ops (mY ops) t0 H0=some (t',H')/\(∀p∈ps,agree P C ops s t0 H0 p)/\Ag n L t' e'/\k' e' H'=some r
 |[],i,t,e,H,d,K,hd,hs,b,g,h=>by
  have hi:i=ops.length:=by simpa using K
  subst hi;refine⟨t,e,H,hs,?_⟩;simp only [zam,List.range'_zero,zbS,IK] at h;have aa:Ag n L t e:=b
  clear hs hd K b
  induction ps with
  |nil=>exact⟨λp u=>(by simp at u),aa,h⟩
  |cons p ps ih=>
   obtain⟨j,e'⟩:=p;simp only [ckL] at h;cases z:cst ops j with
   |true=>
    rw [z] at h;simp only at h;cases E:Ee d e' with
    |none=>rw [E] at h;cases h
    |some y=>
     obtain⟨w',A,D⟩:=y;rw [E] at h;simp only [ckR] at h;split at h
     ·rename_i F;obtain⟨i1,i2⟩:=ih h;refine⟨λp u=>?_,i2⟩;rcases zaj.1 u with rfl|u
      ·unfold agree;rw [if_pos z];intro te He ab ad Q R r ae af;obtain⟨ag,ai,s4,s5,s6⟩:=g e' w' A D E;rw [s4] at Q;rw [s6] at R;cases Q;cases R;exact F r ae af
      ·exact i1 p u
     ·cases h
   |false=>
    rw [z] at h;simp only at h;cases m:Ee d j with
    |none=>rw [m] at h;cases h
    |some x=>
    obtain⟨w,Hx,Hy⟩:=x;cases E:Ee d e' with
    |none=>rw [m,E] at h;cases h
    |some y=>
     obtain⟨w',A,D⟩:=y;rw [m,E] at h;simp only [ck] at h;split at h
     ·rename_i F;obtain⟨i1,i2⟩:=ih h;refine⟨λp u=>?_,i2⟩;rcases zaj.1 u with rfl|u
      ·unfold agree;rw [if_neg (by rw [z];decide)];intro tj Hj te He ab ad q1 Q R r hr;obtain⟨X,tb,s1,s2,s3⟩:=g j w Hx Hy m;obtain⟨ag,ai,s4,s5,s6⟩:=g e' w' A D E;rw [s1] at q1;rw [s4] at Q;rw [s6] at R;cases q1;cases Q;cases R;exact F r (by rw [s2];exact hr)
      ·exact i1 p u
     ·cases h
 |o::l,i,t,e,H,d,K,hd,hs,b,g,h=>by
  have hi:i<ops.length:=by simp at K;omega
  have ho:ops[i]?=some o:=by
   have:=zaF (xs:=ops) (i:=i) (j:=0);rw [hd] at this
   simpa using this.symm
  have T:ops.drop (i+1)=l:=by
   rw [<-zbE,hd];rfl
  rw [zal,zdg,zaA] at h b;cases M:cst ops i with
  |true=>
   simp only [M,if_true,IK] at h;simp only [M,if_true,Sj] at b;refine F9 l (i+1) t e H d (by simp at K;omega) T ?_ b g h;rw [wC,hs];simp [M]
  |false=>
   simp only [M,zae,if_false,IK] at h;simp only [M,zae,if_false,Sj] at b;rw [uD ho] at h;have hw:lD t o.op=Jq (uI n e) o.op:=agW λx hx=>Ag.eval (Ag.left (Ag.left b)) hx;have key:=UH (P:=P) (C:=C) (lo:=loose ops i && mM o.op) b (H:=H) (β:=β)
    (k:=λv H'=>IK P C n ops s H0.next ps l ((List.range' (i+1) l.length).map λi=>if cst ops i=true then none else some (loose ops i && mM (qx ops i))) (i+1) (aeu e o.dst v) H' ((i,Jq (uI n e) o.op,H,H')::d) k')
    (λv H=>Le.refl _) r h
   cases G:mW P C ops (loose ops i && mM o.op) o t H with
   |none=>rw [G] at key;cases key
   |some q=>
    obtain⟨v,H'⟩:=q;rw [G] at key;simp only [bnd] at key;have W:Fv P C ops (i+1) t0 H0=some (vW t o.dst v,H'):=by
     rw [wC,hs];simp [M,ho,G,fO]
    refine F9 l (i+1) _ _ H' _ (by simp at K;omega) T W (Ag.put b v) (λj w A D m=>?_) key;simp only [Ee] at m;cases hb:Nat.beq i j with
    |true=>
     have:i=j:=zbD hb;subst this;rw [hb] at m;simp only [cond_true,zaa,zad] at m;obtain⟨rfl,rfl,rfl⟩:=m;exact⟨t,_,hs,by rw [uD ho,hw],W⟩
    |false=>
     rw [hb] at m;exact g j w A D m
def UJ {i:Nat}:∀{M:List Nat},(pU M).testBit i=true->i∈M
 |[],h=>by simp [pU] at h
 |m::M,h=>by
  simp only [pU,zcA,zcZ,zbh,decide_eq_true_eq] at h;rcases h with rfl|h
  ·simp
  ·exact zba _ (UJ h)
def UK {e:Env}:∀(M pre:List Nat) (i:Nat),i∈M->NY (emb (xZ (pre++M) e) M pre.length) i=NY e i
 |m::M,pre,i,h=>by
  simp only [emb,NY];cases hb:Nat.beq m i with
  |true=>
   have:m=i:=zbD hb;subst this;simp only [cond_true];have:∀pre:List Nat,(xZ (pre++m::M) e).getD pre.length bf=NY e m:=by
    intro pre
    induction pre with
    |nil=>rfl
    |cons x pre d=>exact d
   exact this pre
  |false=>
   simp only [cond_false];have b:i≠m:=λe=>by subst e;rw [show Nat.beq i i=true from Nat.beq_refl i] at hb;cases hb
   have:=UK (e:=e) M (pre++[m]) i ((zaj.1 h).resolve_left b)
   simpa using this
def Ag.emb {M:List Nat}{t:fU}{e:Env}(h:Ag n (pU M) t e):Ag n (pU M) t (Go.Proofs.YtljogojaihgdlaaGreat.emb (xZ M e) M 0):=by
 refine⟨h.len,λi b hi=>?_⟩;have:=UK (e:=e) M [] i (UJ hi);simp only [zaL,zam] at this;rw [this];exact h.get i b hi
def O7(kn:fU->ah->Option β)(kx:Nat->fU->ah->Option β)(kr:fU->ah->Option β):Res->Option β
 |some (.normal,t,H)=>kn t H
 |some (.exit i,t,H)=>kx i t H
 |some (.ret,t,H)=>kr t H
 |none=>none
variable {kn:fU->ah->Option β}{kx:Nat->fU->ah->Option β}{kr:fU->ah->Option β}
def YH {x:Option (fU × ah)}:O7 kn kx kr (okN x)=bnd x kn:=by rcases x with _|⟨t,H⟩ <;> rfl
def UL {r:Res}{g:Run}:O7 kn kx kr (rX r g)=O7 (λt H=>O7 kn kx kr (g t H)) kx kr r:=by
 rcases r with _|⟨e,t,H⟩
 ·rfl
 ·cases e <;> rfl
def YI {id:Nat}{r:Res}:O7 kn kx kr (Dw id r)=O7 kn (λi t H=>match Nat.beq i id with
 |true=>kn t H
 |false=>kx i t H) kr r:=by
 rcases r with _|⟨e,t,H⟩
 ·rfl
 ·cases e with
  |exit i=>
   simp only [Dw,O7];by_cases hi:i=id
   ·subst hi;simp only [if_true,Nat.beq_refl]
   ·have:Nat.beq i id=false:=zdG.2 λh=>hi (zbD h);simp only [hi,if_false,this]
  |normal=>rfl
  |ret=>rfl
def acz {c:AV}{x y:Res}:O7 kn kx kr (aco c x y)=aX c (O7 kn kx kr x) (O7 kn kx kr y):=by
 unfold aco aX;split <;> first|rfl|skip
 all_goals (try(split <;> first|rfl|contradiction))
def Sl:∀{a b:List (Option Bool)},ajd a b=true->a=b
 |[],[],_=>rfl
 |none::a,none::b,h=>by rw [Sl (a:=a) (b:=b) h]
 |some x::a,some y::b,h=>by
  simp only [ajd,zaf,beq_iff_eq] at h;rw [h.1,Sl h.2]
 |[],_::_,h=>by cases h
 |none::_,[],h=>by cases h
 |some _::_,[],h=>by cases h
 |none::_,some _::_,h=>by cases h
 |some _::_,none::_,h=>by cases h
def YJ:∀{a b:List (Nat × Nat)},anr a b=true->a=b
 |[],[],_=>rfl
 |(a,b)::l,(c,d)::m,h=>by
  simp only [anr,zaf] at h;rw [zbD h.1,zbD h.2.1,YJ h.2.2]
 |[],_::_,h=>by cases h
 |_::_,[],h=>by cases h
open Classical in
def Gf(A:Ann):∀(c:Code) (Ln:Nat) (Lx:Nat->Nat) (Lr:Nat),O5 A n c Ln Lx Lr=true->∀(kn:fU->ah->Option β) (kn':Env->ah->Option β) (kx:Nat->fU->ah->Option β) (kx':Nat->Env->ah->Option β) (kr:fU->ah->Option β) (kr':Env->ah->Option β),
  (∀t t' H,Ag n Ln t t'->Le (kn' t' H) (kn t H))->(∀i t t' H,Ag n (Lx i) t t'->Le (kx' i t' H) (kx i t H))->(∀t t' H,Ag n Lr t t'->Le (kr' t' H) (kr t H))->
  ∀t t' H,Ag n (yS A c Ln Lx Lr) t t'->Le (kL P C A n c t' H kn' kx' kr') (O7 kn kx kr (fG P C c t H)):=by
 intro c
 induction c with
 |skip=>intro Ln Lx Lr hc kn kn' kx kx' kr kr' hn hx hr t t' H h;exact hn t t' H h
 |region id ops d=>
  intro Ln Lx Lr hc kn kn' kx kx' kr kr' hn hx hr t t' H h;cases d with
  |false=>
   rw [RS,YH];exact YG hn _ t t' H h
  |true=>
   simp only [O5,cond_true,zaf] at hc;obtain⟨h1,h2,h3⟩:=hc;have h2:=YJ h2;have h3:=Sl h3;have hfc:(kK [] A.draw id).map (λf=>f.isNone)=FZ ops.toList:=by
    rw [<-h3,YC,FZ,zcC]
    apply zbq
    intro i _;simp only [Function.comp];cases cst ops.toList i <;> rfl
   rw [Yu,YH];have e1:iK P C ops.toList (oL ops.toList) t H=zL P C ops.toList (FZ ops.toList) t H:=by
    have:=OX (P:=P) (C:=C) (ops:=ops.toList) ops.toList [] t H rfl
    simpa [oL,FZ,zcV] using this
   have hfl:kK [] A.draw id=(List.range' 0 ops.toList.length).map λi=>if cst ops.toList i=true then none else some (loose ops.toList i && mM (qx ops.toList i)):=by
    rw [<-h3,YC,zcV]
   refine λr hr0=>?_;have hr1:=F6 (P:=P) (C:=C) (β:=β) (ops:=ops.toList) (L:=Sj ops.toList ops.toList (kK [] A.draw id) Ln)
    (k:=λt0 H0=>if(∀p∈kK [] A.pairs id,agree P C ops.toList H.next t0 H0 p) then bnd (fO P C ops.toList (mY ops.toList) t0 H0) kn else none)
    (k':=λt H0=>IK P C n ops.toList H.next H0.next (kK [] A.pairs id) ops.toList (kK [] A.draw id) 0 t H0 [] kn') (λt0 e0 H0 ht r hr=>by
     rw [hfl] at hr ht;obtain⟨t1,e1,H1,d1,d2,d3,d4⟩:=F9 (t0:=t0) (H0:=H0) ops.toList 0 t0 e0 H0 [] O O  (by simp [Fv,fO]) ht (λj w Ha Hb hj=>by cases hj) hr;rw [if_pos d2,d1];exact hn t1 e1 H1 d3 r d4) ops.toList (kK [] A.draw id) t t' H h r hr0
   rw [hfc] at hr1;cases hcl:zL P C ops.toList (FZ ops.toList) t H with
   |none=>rw [hcl] at hr1;cases hr1
   |some q=>
    obtain⟨t0,H0⟩:=q;rw [hcl] at hr1;simp only [bnd] at hr1;split at hr1
    ·rename_i d2;have:yK P C ops.toList t H=fO P C ops.toList (mY ops.toList) t0 H0:=by
      unfold yK;rw [if_pos h1,e1,hcl];simp only;rw [<-h2] at d2;split
      ·rfl
      ·rw [if_pos d2]
     rw [this];exact hr1
    ·cases hr1
 |seq a b iha ihb=>
  intro Ln Lx Lr hc kn kn' kx kx' kr kr' hn hx hr t t' H h;simp only [O5,zaf] at hc;rw [acp,UL];exact iha _ Lx Lr hc.1 _ _ kx kx' kr kr' (λt t' H ht=>ihb Ln Lx Lr hc.2 kn kn' kx kx' kr kr' hn hx hr t t' H ht) hx hr t t' H h
 |cond c a b iha ihb=>
  intro Ln Lx Lr hc kn kn' kx kx' kr kr' hn hx hr t t' H h;simp only [O5,zaf] at hc;have ha:=iha Ln Lx Lr hc.1 kn kn' kx kx' kr kr' hn hx hr t t' H h.right.left;have hb:=ihb Ln Lx Lr hc.2 kn kn' kx kx' kr kr' hn hx hr t t' H h.right.right;rw [Yt,acz,h.left.eval (x:=c) (zaN.2 rfl)];show Le (aX (uI n t' c) _ _) _;unfold aX;split
  ·exact ha
  ·exact hb
  ·exact Le.refl _
 |block id a ih=>
  intro Ln Lx Lr hc kn kn' kx kx' kr kr' hn hx hr t t' H h;rw [WC,YI];refine ih Ln _ Lr hc kn kn' _ _ kr kr' hn (λi t t' H ht=>?_) hr t t' H h;cases hb:Nat.beq i id with
  |true=>simp only [hb,cond_true] at ht ⊢;exact hn t t' H ht
  |false=>simp only [hb,cond_false] at ht ⊢;exact hx i t t' H ht
 |loop a ih=>
  intro Ln Lx Lr hc kn kn' kx kx' kr kr' hn hx hr t t' H h;simp only [O5,zaf] at hc;simp only [yS] at h;simp only [kL];generalize kK [] A.live (jL a)=M at hc h ⊢;obtain⟨hs,hc⟩:=hc;have hs:pU M ||| yS A a (pU M) Lx Lr=pU M:=zbD hs
  have hsub:∀i,(yS A a (pU M) Lx Lr).testBit i=true->(pU M).testBit i=true:=λi hi=>by rw [<-hs,zcA,hi];simp
  let B:List AV->ah->(List AV->ah->Option β)->Option β:=λs H k=>kL P C A n a (emb s M 0) H (λt H=>k (xZ M t) H) kx' kr'
  have it:∀m t t' H,Ag n (pU M) t t'->Le (F5 B m (xZ M t') H) (O7 kn kx kr (BA (fG P C a) m t H)):=by
   intro m
   induction m with
   |zero=>intro t t' H _ r hr;cases hr
   |succ m ihm=>
    intro t t' H ht;show Le (kL P C A n a (emb (xZ M t') M 0) H (λt H=>F5 B m (xZ M t) H) kx' kr') (O7 kn kx kr (rX (fG P C a t H) (BA (fG P C a) m)));rw [UL];exact ih (pU M) Lx Lr hc _ _ kx kx' kr kr' (λt t' H hh=>ihm t t' H hh) hx hr _ _ H (ht.emb.sub hsub)
  rw [show fG P C (.loop a)=Wu (fG P C a) from rfl];intro r hf;obtain⟨m,hm⟩:=lG hf;have hm:=it m t t' H h r hm;cases hr:BA (fG P C a) m t H with
  |none=>rw [hr] at hm;cases hm
  |some q=>rw [show Wu (fG P C a) t H=some q from wF (λn r=>Je n t H r) hr,<-hr];exact hm
 |exit i=>intro Ln Lx Lr hc kn kn' kx kx' kr kr' hn hx hr t t' H h;exact hx i t t' H h
 |ret=>intro Ln Lx Lr hc kn kn' kx kx' kr kr' hn hx hr t t' H h;exact hr t t' H h
 |_=>intro Ln Lx Lr hc kn kn' kx kx' kr kr' hn hx hr t t' H h r hr;cases hr
end
def Rf:List ResultVar->Nat
 |[]=>0
 |.tmp d::b=>2 ^ d ||| Rf b
 |.cell a _::b=>2 ^ a ||| Rf b
def Ll {P:Program}{n:Nat}{t:fU}{e:Env}{H:ah}:∀(b:List ResultVar) (k:List AV->Option (AV × ah)),Ag n (Rf b) t e->RZ P n e H b k=(b.mapM (Ur P t H)).bind k
 |[],k,_=>by simp [RZ]
 |.tmp d::b,k,h=>by
  rw [zbn,RZ,Ll b _ h.right,<-h.left.tmp uJ];simp only [Ur,zce,za6,zcK];cases b.mapM (Ur P t H) <;> rfl
 |.cell a g::b,k,h=>by
  rw [zbn,RZ,<-h.left.tmp uJ];simp only [Ur];cases Rj P g (t.getD a bf) H with
  |none=>rfl
  |some r=>
   simp only [bnd,zak,zce,za6,zcK];rw [Ll b _ h.right];cases b.mapM (Ur P t H) <;> rfl
def YK {P:Program}{n:Nat}{t:fU}{e:Env}{H:ah}(b:List ResultVar)(h:Ag n (Rf b) t e):(jq P b t H).map (λv=>(v,H))=NZ P n b e H:=by
 unfold NZ jq;rw [Ll b _ h];cases b.mapM (Ur P t H) with
 |none=>rfl
 |some l=>
  simp only [za6]
  match l with
  |[]=>rfl
  |[x]=>rfl
  |x::y::l=>rfl
def anW(A:Ann)(fn:Func)(c:Code):Bool:=O5 A fn.ntmps c (Rf fn.results.toList) (λ_=>0) (Rf fn.results.toList)
def Lm(n:Nat):∀(args:List AV) (i j:Nat),j<n->(args++List.replicate (n-args.length) bf).getD j bf=NY (OY args i) (i+j)
 |[],i,j,b=>by
  simp [OY,NY,List.getD,b]
 |a::args,i,0,_=>by simp [OY,NY]
 |a::args,i,j+1,b=>by
  have hb:Nat.beq i (i+(j+1))=false:=zdG.2 λh=>by have:=zbD h;omega
  simp only [OY,NY,hb,cond_false];have:=Lm (n-1) args (i+1) j V;rw [show i+(j+1)=i+1+j by omega,<-this];simp only [zal,za5,List.getD_cons_succ];rw [show n-(args.length+1)=n-1-args.length by omega]
def aje {P:Program}{C:aC}{A:Ann}{f:FuncId}{fn:Func}{c:Code}{args:List AV}{H:ah}(j:P.funcs[f]?=some fn)(hb:fn.body=some c)(d:Nat.ble args.length fn.ntmps=true)(k:anW A fn c=true){r:AV × ah}
  (h:kL P C A fn.ntmps c (OY args 0) H (NZ P fn.ntmps fn.results.toList) (λ_ _ _=>none) (NZ P fn.ntmps fn.results.toList)=some r):zq P C f args H=some r:=by
 rw [agQ j hb];have key:∀r:Res,anT P fn.results.toList r=O7 (λt H=>(jq P fn.results.toList t H).map λv=>(v,H)) (λ_ _ _=>none) (λt H=>(jq P fn.results.toList t H).map λv=>(v,H)) r:=by
  intro r;rcases r with _|⟨e,t,H⟩
  ·rfl
  ·cases e <;> rfl
 rw [key];have d:args.length<=fn.ntmps:=Nat.le_of_ble_eq_true d;have b:(args++List.replicate (fn.ntmps-args.length) bf).length=fn.ntmps:=by simp;omega
 have g:∀t e H,Ag fn.ntmps (Rf fn.results.toList) t e->Le (NZ P fn.ntmps fn.results.toList e H) ((jq P fn.results.toList t H).map λv=>(v,H)):=λt e H h=>by
  rw [YK _ h];exact Le.refl _
 exact Gf A c _ _ _ k _ _ _ _ _ _ g (λ_ _ _ _ _=>Le.refl _) g _ _ H ⟨b,λi m _=>by have:=Lm fn.ntmps args 0 i m;rwa [zaW] at this⟩ r h
def rF:Nat->List (Option Bool)->List (Option Bool)
 |0,l=>l
 |n+1,l=>some false::rF n l
abbrev OA:=Option (AV × ah)
def rnK {P:Program}{C:aC}{A:Ann}{f:FuncId}{fn:Func}{c:Code}{args:List AV}{H:ah}{s:OA}(d:P.funcs[f]?=some fn)(b:(fn.body,Nat.ble args.length fn.ntmps,anW A fn c)=(some c,true,true))
  (hs:kL P C A fn.ntmps c (OY args 0) H (NZ P fn.ntmps fn.results.toList) (λ_ _ _=>none) (NZ P fn.ntmps fn.results.toList)=s) {r:AV × ah} (h:s=some r):zq P C f args H=some r:=by
 simp only [zad] at b;exact aje d b.1 b.2.1 b.2.2 (hs.trans h)
def rnG {P:Program}{C:aC}(A:Ann){f:FuncId}{fn:Func}{args:List AV}{H:ah}{s:OA}(b:P.funcs[f]?=some fn)(d:(fn.body,Nat.ble args.length fn.ntmps,anW A fn (fn.body.getD .skip))=(some (fn.body.getD .skip),true,true))
  (hs:kL P C A fn.ntmps (fn.body.getD .skip) (OY args 0) H (NZ P fn.ntmps fn.results.toList) (λ_ _ _=>none) (NZ P fn.ntmps fn.results.toList)=s) {r:AV × ah} (h:s=some r):zq P C f args H=some r:=rnK b d hs h
def oU(P:Program)(fn:Func)(n:Nat)(A:Ann)(b:Nat)(C:aC):List AV->ah->OA:=
 (vN P C A n (fn.body.getD .skip) (NZ P n fn.results.toList) (λ_ _ _=>none) (NZ P n fn.results.toList)).getD b λ_ _=>none
def lpE {P:Program}{fn:Func}{n:Nat}{A:Ann}{b:Nat}{C:aC}{l:List AV}{H:ah}:oU P fn n A b C l H=((pq P C A n (fn.body.getD .skip) (NZ P n fn.results.toList) (λ_ _ _=>none) (NZ P n fn.results.toList)).getD b λ_ _=>none) l H:=
 by unfold oU;rw [acw]
def an0:Ann:=⟨[],[],[]⟩
@[congr] def ajf {α β:Type}{x y:Option (α × ah)}{k:α->ah->Option β}(h:x=y):bnd x k=bnd y k:=by rw [h]
@[congr] def ant {α β:Type}{x y:Option α}{k:α->Option β}(h:x=y):bo x k=bo y k:=by rw [h]
@[congr] def agX {β:Type}{c d:AV}{x y:Option β}(h:c=d):aX c x y=aX d x y:=by rw [h]
@[congr] def ajg {β:Type}{g g':Option AV}{b:Bool}{x:Option (AV × ah)}{H:ah}{k:AV->ah->Option β}(h:g=g'):gdA g b x H k=gdA g' b x H k:=by rw [h]
def YL {α β:Type}{v:α}{k:α->Option β}:bo (some v) k=k v:=rfl
def Ju {β:Type}{x y:Option β}:aX (.s (.bool true)) x y=x:=rfl
def Gg {β:Type}{x y:Option β}:aX (.s (.bool false)) x y=y:=rfl
section
def fl(x:AV)(off:Nat):Option AV:=
 match x with
 |.agg cells=>cells[off]?
 |.s (.agg cs)=>(cs.toList.map AV.s)[off]?
 |_=>none
def slS(m:Nat)(x:AV)(lo hi d:Option AV):Option AV:=
 match x with
  |.s (.slice none 0 0)=>match iW lo 0,iW hi 0,iW d 0 with
   |some 0,some 0,some 0=>if hi=none->d=none then some (.s (.slice none 0 0)) else none
   |_,_,_=>none
  |.sl r g off b len e ex=>match iW lo 0,iW hi len,iW d e with
   |some l,some h,some k=>
    if b=m/\l<=h/\h<=k/\k<=e/\(hi=none->d=none) then some (.sl r g (off+l*b) b (h-l) (k-l) (ex || !isNone d)) else none
   |_,_,_=>none
  |.vs n b cells=>match iW lo 0,iW hi n,d with
   |some l,some h,none=>if b=m/\l<=h/\h<=n then some (.vs (h-l) b ((cells.drop (l*b)).take ((h-l)*b))) else none
   |_,_,_=>none
  |_=>none
def kG(d:Nat->Option (Nat × Nat))(z:List AV)(b:List (Nat × AV)):Option AV:=(gZ d z b).map .agg
def ldO(x:AV)(b:Option fZ):Option AV:=
 match x with
 |.ref _ g off=>match b with
  |some (.blk g' _ cells)=>if g'=g then cells[off]? else none
  |_=>none
 |.ip cells=>cells[0]?
 |_=>none
def ld(x:AV):AM AV:=ku (ldO x) x
def anu(n:Nat)(x:AV)(b:Option fZ):Option AV:=
 match x with
 |.ref _ g off=>match b with
  |some (.blk g' _ cells)=>if g'=g then(if off+n<=cells.length then some (.agg ((cells.drop off).take n)) else none) else none
  |_=>none
 |.ip cells=>if 0+n<=cells.length then some (.agg ((cells.drop 0).take n)) else none
 |_=>none
def lda(n:Nat)(x:AV):AM AV:=ku (anu n x) x
def st(n:Nat)(x v:AV):AM AV:=λH=>
 match x with
 |.ref r g off=>match H.get r with
  |.blk g' b cells=>
   if g'=g/\H.base<=r/\some n=some v.cells.length/\v.cells.all AV.aQ=true/\off+v.cells.length<=cells.length then
    some (bf,H.put r (.blk g b (aV cells off v.cells)))
   else none
  |.map ..=>none
 |_=>none
def alc(t:TypeId)(z:List AV):AM AV:=λH=>some (.ref H.next 0 0,H.new (.blk 0 t z))
def bsl(e:TypeId)(m:Nat)(z:List AV)(len:Nat)(b:List (Nat × AV)):AM AV:=λH=>
 match gZ (λi=>some (i*m,m)) (dY z len) b with
 |some cells=>if cells.all AV.aQ=true then some (.sl H.next 0 0 m len len true,H.new (.blk 0 e cells)) else none
 |none=>none
def mks(e:TypeId)(m by_:Nat)(z:List AV)(len cap:AV):AM AV:=λH=>
 match len,cap with
 |.s (.int _ l),.s (.int _ c)=>
   if z.length=m/\z.all AV.aQ=true/\0<=l/\l<=c/\c<=140737488355328/\by_*c<=140737488355328 then
    some (.sl H.next 0 0 m l.toNat c.toNat true,H.new (.blk 0 e (dY z c.toNat)))
   else none
 |_,_=>none
def mkm(k:IntKind):AM AV:=λH=>some (.mp H.next,H.new (.map k []))
def lkO(k:IntKind)(z:Value)(x i:AV)(ok:Bool)(d:Option fZ):Option AV:=
 match x with
   |.mp _=>match i with
    |.s (.int k' n)=>match d with
     |some (.map b e)=>
      if k'=k/\b=k then
       match qp e n with
       |some v=>some (if ok then .tup [v,.s (.bool true)] else v)
       |none=>some (if ok then .tup [.s z,.s (.bool false)] else .s z)
      else none
     |_=>none
    |_=>none
   |_=>none
def lk(k:IntKind)(z:Value)(x i:AV)(ok:Bool):AM AV:=ku (lkO k z x i ok) x
def mup(k:IntKind)(x i v:AV):AM AV:=λH=>
 match x,i with
 |.mp r,.s (.int k' n)=>match H.get r with
  |.map b d=>if k'=k/\b=k/\H.base<=r then some (bf,H.put r (.map k (KC d n v))) else none
  |_=>none
 |_,_=>none
def del(k:IntKind)(x i:AV):AM AV:=λH=>
 match x,i with
 |.mp r,.s (.int k' n)=>match H.get r with
  |.map b d=>if k'=k/\b=k/\H.base<=r then some (.tup [],H.put r (.map k (zA d n))) else none
  |_=>none
 |_,_=>none
def ixO(m:Nat)(x i:AV)(d:Option fZ):Option AV:=
 match x with
  |.sl r g off b len _ _=>match i with
   |.s (.int _ n)=>if some m=some b/\aiU d=g/\0<=n/\n<len then some (.ref r g (off+n.toNat*b)) else none
   |_=>none
  |.vs len b cells=>match i with
   |.s (.int _ n)=>if some m=some b/\0<=n/\n<len then some (.ip (cells.drop (n.toNat*b))) else none
   |_=>none
  |_=>none
def ix(m:Nat)(x i:AV):AM AV:=ku (ixO m x i) x
def anX(x:AV):Option AV:=
 match x with
  |.sl _ _ _ _ len _ _=>some (.s (.int .i64 len))
  |.vs n _ _=>some (.s (.int .i64 n))
  |.s (.slice _ n _)=>some (.s (.int .i64 n))
  |_=>none
def lnS(x:AV):AM AV:=ku (λ_=>anX x) x
def anY(x:AV)(b:Option fZ):Option AV:=
 match x with
  |.mp _=>match b with
   |some (.map _ d)=>some (.s (.int .i64 d.length))
   |_=>none
  |.s (.map none)=>some (.s (.int .i64 0))
  |_=>none
def lnM(x:AV):AM AV:=ku (anY x) x
def app(e:TypeId)(m by_:Nat)(x y:AV):AM AV:=λH=>
 match jV y,cO H y with
 |some n,some new=>eu e m by_ x n new H
 |_,_=>none
def cpy(m:Nat)(x y:AV):AM AV:=λH=>
 match jV x,jV y,cO H y with
  |some d,some n,some new=>
   let k:=min n d
   if new.length=n*m/\new.all AV.aQ=true then
    if k=0 then(match x with|.s (.string _)=>none|_=>some (.s (.int .i64 0),H)) else
    match x with
    |.sl r g off b len _ _=>match H.get r with
     |.blk g' e cells=>
      if b=m/\g'=g/\H.base<=r/\off+len*m<=cells.length then
       some (.s (.int .i64 k),H.put r (.blk g e (aV cells off (new.take (k*m)))))
      else none
     |.map ..=>none
    |_=>none
   else none
  |_,_,_=>none
def clr(m:Nat)(z:List AV)(x:AV):AM AV:=λH=>
 match x with
  |.sl r g off b len _ _=>
   if len=0 then some (.tup [],H) else
   match H.get r with
   |.blk g' d cells=>
    if b=m/\g'=g/\H.base<=r/\z.length=m/\z.all AV.aQ=true/\off+len*m<=cells.length then
     some (.tup [],H.put r (.blk g d (aV cells off (dY z len))))
    else none
   |.map ..=>none
  |.s (.slice none _ _)=>some (.tup [],H)
  |_=>none
end
def yA {P:Program}{t e:TypeId}{m n:Nat}{z:List AV}{ps:List (Nat × AV)}{H:ah}(b:zx P t=some e)(hm:szT P e=some m)(d:xY P e=some z)(g:z.length=m)(h:n*m<=16777216):dZ P t n ps H=bsl e m z n ps H:=by
 simp only [dZ,b,hm,d];rw [if_pos ⟨g,h⟩];rfl
def kS {P:Program}{t:TypeId}{b:Array Field}{d:Nat->Option (Nat × Nat)}{z:List AV}{ps:List (Nat × AV)}(e:xY P t=some z)(g:P.underlying t=some (.struct b))(h:b.all (λf=>(szT P f.type).isSome)=true)(i:N9 P b=d):iM P t ps=kG d z ps:=by
 simp only [iM,e,g,h,if_true,i];rfl
def Dy {P:Program}{s d:TypeId}{k1 k2 k:IntKind}{n:Int}{H:ah}(hb:Fp P s d=false)(hs:P.underlying s=some (.int k1))(hd:P.underlying d=some (.int k2)):jW P s d (.s (.int k n)) H=some (.s (.int k2 (IntKind.wrap k2 n)),H):=by
 have h:iR P (convert s d (.int k n))=some (.int k2 (IntKind.wrap k2 n)):=by
  have b:∀{α:Type} (t:TypeId) (d:TypeDesc) (f:TypeDesc->Sem α),P.underlying t=some d->iR P (underlying t >>=f)=iR P (f d):=by
   intro α t d f h;show iR P ((match P.underlying t with
    |some d=>pure d
    |none=>stuck "no such type") >>=f)=_
   rw [h];rfl
  unfold convert;rw [b s _ _ hs,b d _ _ hd];rfl
 simp only [jW,ku,bT,zc1,zC,hb,zae,if_false,AV.val?,h,zak]
abbrev zI:AV:=.s (.int .i64 0)
abbrev zB:AV:=.s (.bool false)
abbrev zN:AV:=.s (.slice none 0 0)
abbrev zP:AV:=.s (.pointer none)
abbrev zM:AV:=.s (.map none)
abbrev I(n:Int):AV:=.s (.int .i64 n)
abbrev B(b:Bool):AV:=.s (.bool b)
def fld {β:Type}(a:AV)(i:Nat)(H:ah)(k:AV->ah->Option β):Option β:=bo (au a i) λp=>bnd (ld p H) k
@[congr] def ajh {β:Type}{a a':AV}{i:Nat}{H:ah}{k:AV->ah->Option β}(h:a=a'):fld a i H k=fld a' i H k:=by rw [h]
def aey {β:Type}{a:AV}{i:Nat}{H:ah}{k:AV->ah->Option β}:fld a i H k=bo (au a i) λp=>bnd (ld p H) k:=rfl
def gl {β:Type}(g:AV)(b:Bool)(e:Option AV)(H:ah)(k:AV->ah->Option β):Option β:=gdA (some g) b (fQ e H) H k
@[congr] def anv {β:Type}{g g':AV}{b:Bool}{e:Option AV}{H:ah}{k:AV->ah->Option β}(h:g=g'):gl g b e H k=gl g' b e H k:=by rw [h]
def aji {β:Type}{g:AV}{b:Bool}{e:Option AV}{H:ah}{k:AV->ah->Option β}:gl g b e H k=gdA (some g) b (fQ e H) H k:=rfl
end
end Go.Proofs.YtljogojaihgdlaaGreat
