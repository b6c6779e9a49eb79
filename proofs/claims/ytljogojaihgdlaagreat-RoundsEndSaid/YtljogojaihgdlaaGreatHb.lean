/-
  Own work: an interpreter over named blocks, its soundness, and what the functions of this seat compute (part 2 of 12).
  Conditions: those of the statement alone.
-/
import Derived.Test.YtljogojaihgdlaaGreatHa
set_option linter.all false
set_option linter.unusedSectionVars false
set_option linter.unusedVariables false
set_option linter.unusedSimpArgs false
namespace Go.Proofs.YtljogojaihgdlaaGreat
noncomputable section
structure adA(P:Program)(C:aF)(ops:List Oper)(t:gB)(H:ah)(t0:gB)(H0:ah)(T:Nat->gB)(Hp:Nat->ah)(val:Nat->AV)(nm:Nat->Nat):Prop where
 facts:GR ops
 S:CO P C ops t0 H0 T Hp val
 names:∀j,j < ops.length->cst ops j=true->∃o,ops[j]?=some o/\H.next<=nm j/\nm j < H0.next/\Qi P o (val j) (nm j) (H0.get (nm j))/\∀d,o.dst=some d->d < t.length->t0[d]?=some (val j)
 inj:∀i j,i < ops.length->j < ops.length->cst ops i=true->cst ops j=true->nm i=nm j->i=j
 rest:∀d,(∀j,cst ops j=true->∀o,ops[j]?=some o->o.dst≠some d)->t0[d]?=t[d]?
 len:t0.length=t.length
 fresh:TF H H0
 ata:∀r,H.next<=r->H.gen r=0->H0.gen r=0
 agr:∀p∈mJ ops,agree P C ops H.next t0 H0 p
 ghost:∀p,p<=ops.length->∀d,NV (Hp p).next ((T p).getD d bg)
 keeps:kV C
section
variable {P:Program}{C:aF}{ops:List Oper}{t:gB}{H:ah}{t0:gB}{H0:ah}{T:Nat->gB}{Hp:Nat->ah}{val:Nat->AV}{nm:Nat->Nat}
theorem GV {i:Nat}(h:chn ops i=true):cst ops i=false/\flo ops i=false:=by
 unfold chn at h
 simpa using h
def kinds(i:Nat):cst ops i=true∨(cst ops i=false/\flo ops i=true)∨chn ops i=true:=by
 unfold chn;cases cst ops i <;> cases flo ops i <;> simp
def aij {i:Nat}(h:flo ops i=true):cst ops i=false:=by
 unfold flo at h;unfold cst
 revert h
 generalize qZ ops i=o;intro h;cases o <;> first|rfl|(simp only [rZ] at h;cases h)
theorem xw {i:Nat}{o:Oper}(d:ops[i]?=some o)(h:flo ops i=true):rZ o.op=true/\nI o.op=false:=by
 unfold flo at h;rw [vH d] at h;refine⟨h,?_⟩;obtain⟨dst,op,b,e,after,guard⟩:=o;cases op <;> try rfl
 rename_i c;simp only [rZ] at h;simp only [nI];cases hc:c.callee with
 |value f=>rw [hc] at h;cases h
 |_=>rfl
namespace adA
variable (D:adA P C ops t H t0 H0 T Hp val nm)
include D
theorem get {p:Nat}(b:p<ops.length):∃o,ops[p]?=some o:=⟨_,zab b⟩
theorem apW:∀p,p<=ops.length->(T p).length=t.length:=by
 intro p
 induction p with
 | zero=> intro _;rw [D.S.zero.1,D.len]
 | succ p ih=>
  intro hp;cases hc:cst ops p with
  | true=> rw [(D.S.skip p hp hc).1];exact ih (by omega)
  | false=>
   obtain⟨o,ho⟩:=D.get hp;rw [(D.S.step p o ho hc).2,ng];exact ih (by omega)
theorem akU:∀p,p<=ops.length->∀d,d < t.length->
  (∀i o,ops[i]?=some o->o.dst=some d->(cst ops i=true∨i < p)->(T p)[d]?=some (val i))/\
  ((∀i o,ops[i]?=some o->(cst ops i=true∨i < p)->o.dst≠some d)->(T p)[d]?=t[d]?):=by
 intro p
 induction p with
 | zero=>
  intro _ d hd;rw [D.S.zero.1];refine⟨λi o ho hdst hc=> ?_,λh=> D.rest d λj hj o ho=> h j o ho (.inl hj)⟩;have hc:cst ops i=true:=hc.resolve_right (by omega);obtain⟨o',ho',_,_,_,h5⟩:=D.names i (dS ho) hc;rw [ho] at ho';cases ho';exact h5 d hdst hd
 | succ p ih=>
  intro hp d hd;obtain⟨ih1,ih2⟩:=ih (by omega) d hd;cases hc:cst ops p with
  | true=>
   rw [(D.S.skip p hp hc).1];refine⟨λi o ho hdst hi=> ih1 i o ho hdst ?_,λh=> ih2 λi o ho hi=> h i o ho (hi.imp id λh=> by omega)⟩;rcases hi with hi | hi
   ·exact .inl hi
   ·by_cases e:i=p
    ·subst e;exact .inl hc
    ·exact .inr (by omega)
  | false=>
   obtain⟨op,hop⟩:=D.get hp;rw [(D.S.step p op hop hc).2,MS];by_cases hdp:op.dst=some d
   ·have hl:d < (T p).length:=by rw [D.apW p (by omega)];exact hd
    rw [if_pos ⟨hdp,hl⟩];refine⟨λi o ho hdst hi=> ?_,λh=> absurd hdp (h p op hop (.inr (by omega)))⟩;rw [D.facts.apV i p o op d ho hop hdst hdp]
   ·rw [if_neg λh=> hdp h.1];refine⟨λi o ho hdst hi=> ih1 i o ho hdst ?_,λh=> ih2 λi o ho hi=> h i o ho (hi.imp id λh=> by omega)⟩;rcases hi with hi | hi
    ·exact .inl hi
    ·refine .inr ?_;have:i≠p:=λe=> by subst e;rw [ho] at hop;cases hop;exact hdp hdst
     omega
theorem Vo {p:Nat}(hp:p < ops.length)(hc:cst ops p=false)(hf:flo ops p=true):Hp (p+1)=Hp p:=by
 obtain⟨o,ho⟩:=D.get hp;obtain⟨h1,_⟩:=D.S.step p o ho hc;obtain⟨f1,f2⟩:=xw ho hf;unfold nM at h1;split at h1 <;> first | (cases h1;done) | skip
 ·rw [f2,zb8,if_neg zdI] at h1;exact(MR f1 h1).1
 ·simp only [zaa,zad] at h1;exact h1.2.symm
theorem step_next {p:Nat}(hp:p < ops.length):(Hp p).next<=(Hp (p+1)).next:=by
 cases hc:cst ops p with
 | true=> rw [(D.S.skip p hp hc).2];exact zac _
 | false=>
  obtain⟨o,ho⟩:=D.get hp;obtain⟨h1,_⟩:=D.S.step p o ho hc;unfold nM at h1;split at h1 <;> first | (cases h1;done) | skip
  ·split at h1
   ·exact(GN D.keeps h1).1.2.1
   ·exact(E8 D.keeps h1).next
  ·simp only [zaa,zad] at h1;rw [h1.2];exact zac _
def Zo {p:Nat}:∀k,p+k<=ops.length->(Hp p).next<=(Hp (p+k)).next:=by
 intro k
 induction k with
 |zero=>intro _;exact zac _
 |succ k b=>intro h;exact zaz (b V) (D.step_next V)
def Zp {p q:Nat}(h:p<=q)(b:q<=ops.length):(Hp p).next<=(Hp q).next:=by
 have:=D.Zo (p:=p) (q-p) V
 rwa [show p+(q-p)=q by omega] at this
def adB {p:Nat}(b:p<=ops.length):H0.next<=(Hp p).next:=by
 have:=D.Zp (zaY p) b
 rwa [D.S.zero.2] at this
theorem GX {p:Nat}(hp:p < ops.length)(h:chn ops p=false):Hp (p+1)=Hp p:=by
 rcases kinds (ops:=ops) p with hc | ⟨hc,hf⟩ | hc
 ·exact(D.S.skip p hp hc).2
 ·exact D.Vo hp hc hf
 ·rw [hc] at h;cases h
def adC {e:Nat}:∀k,e+k<=ops.length->(∀i,e<=i->i<e+k->chn ops i=false)->Hp (e+k)=Hp e:=by
 intro k
 induction k with
 |zero=>intro _ _;rfl
 |succ k b=>
  intro hk h;show Hp (e+k+1)=Hp e;rw [D.GX V (h (e+k) V V)];exact b V λi d g=>h i d V
def Ec {e e':Nat}(h:e<=e')(b:e'<=ops.length)(d:∀i,e<=i->i<e'->chn ops i=false):Hp e'=Hp e:=by
 have:=D.adC (e:=e) (e'-e) V λi g j=>d i g V
 rwa [show e+(e'-e)=e' by omega] at this
theorem quiet_step {p:Nat}(hp:p < ops.length)(hc:chn ops p=true)(hq:uY (qZ ops p)=true)(hl:loose ops p=true):∀r,r < (Hp p).next->(Hp (p+1)).get r=(Hp p).get r:=by
 obtain⟨o,ho⟩:=D.get hp;obtain⟨h1,_⟩:=D.S.step p o ho (GV hc).1;rw [vH ho] at hq;unfold nM at h1;split at h1 <;> first | (cases h1;done) | skip
 ·rw [hl,zaN] at h1;split at h1
  ·exact(GN D.keeps h1).1.2.2
  ·rename_i hcall;exact(TJ hq (by simpa using hcall) h1).2.2
 ·simp only [zaa,zad] at h1;rw [h1.2];exact λ_ _=> rfl
theorem adD {k:Nat}(hk:k < ops.length)(hc:cst ops k=true):∀e,e<=ops.length->(∀i,i < e->chn ops i=true->nP ops k i=false)->(Hp e).get (nm k)=H0.get (nm k):=by
 intro e
 induction e with
 | zero=> intro _ _;rw [D.S.zero.2]
 | succ e ih=>
  intro he h;have ih:=ih (by omega) λi hi=> h i (by omega);cases hch:chn ops e with
  | false=> rw [D.GX (by omega) hch];exact ih
  | true=>
   have hb:=h e (by omega) hch;obtain⟨hqb,_⟩:=D.facts.loose k e hk (by omega) hc hch hb;have hl:loose ops e=true:=by
    unfold loose;refine zcG.2 ⟨k,zaW.2 hk,?_⟩;rw [hc,hch,hb];simp
   obtain⟨o,ho,hge,hlt,_⟩:=D.names k hk hc;rcases hqb with hq | hq
   ·rw [D.quiet_step (by omega) hch hq hl (nm k) (zay hlt (D.adB (by omega)))];exact ih
   ·have hmem:(k,e)∈mJ ops:=by
     unfold mJ;refine za0.2 ⟨k,zaW.2 hk,zaI.2 ⟨e,zbp.2 ⟨zaW.2 (by omega),?_⟩,rfl⟩⟩;rw [hc,hch,hb,hq];simp
    have ha:=D.agr _ hmem;unfold agree at ha;rw [if_pos hc] at ha;rw [ha (T e) (Hp e) (T (e+1)) (Hp (e+1)) (D.S.at_ _ (by omega)) (D.S.at_ _ (by omega)) (nm k) hge hlt];exact ih
theorem J5 {j:Nat}(hj:j < ops.length){r:Nat}(hw:lV (T j) (qZ ops j)=some r){e1:Nat}(hr:r < (Hp e1).next):
  ∀k,e1+k<=ops.length->(∀i,e1<=i->i < e1+k->chn ops i=true->Xr ops j i=true)->(Hp (e1+k)).get r=(Hp e1).get r:=by
 intro k
 induction k with
 | zero=> intro _ _;rfl
 | succ k ih=>
  intro hk h;have ih:=ih (by omega) λi h1 h2=> h i h1 (by omega);show(Hp (e1+k+1)).get r=_;cases hch:chn ops (e1+k) with
  | false=> rw [D.GX (by omega) hch];exact ih
  | true=>
   have hu:=h (e1+k) (by omega) (by omega) hch;cases hq:uY (qZ ops (e1+k)) with
   | true=>
    have hl:loose ops (e1+k)=true:=by
     unfold loose;refine zcG.2 ⟨j,zaW.2 hj,?_⟩;rw [hu,zc1]
    rw [D.quiet_step (by omega) hch hq hl r (zay hr (D.Zp (by omega) (by omega)))];exact ih
   | false=>
    have hmem:(j,e1+k)∈mJ ops:=by
     unfold mJ;refine za0.2 ⟨j,zaW.2 hj,zaI.2 ⟨e1+k,zbp.2 ⟨zaW.2 (by omega),?_⟩,rfl⟩⟩;rw [hu,hq];rfl
    have hfl:flo ops j=true:=by
     unfold Xr at hu;simp only [zah] at hu;exact hu.1.1.1.2
    have ha:=D.agr _ hmem;unfold agree at ha;rw [if_neg (by rw [aij hfl];decide)] at ha;have:=ha (T j) (Hp j) (T (e1+k)) (Hp (e1+k)) (T (e1+k+1)) (Hp (e1+k+1)) (D.S.at_ j (by omega)) (D.S.at_ _ (by omega)) (D.S.at_ _ (by omega)) r hw;rw [this];exact ih
def afN {i j:Nat}(q:cst ops j=false)(h:nP ops i j=true)(hi:cst ops i=false):i<=j:=by
 have:=vG (ops:=ops) (L:=λk=>cst ops k=true∨k<=j) (λk o m hk e p hb=>by
  obtain⟨_,g⟩:=D.facts.edges k o m e p hb;unfold Gu at g;by_cases d:cst ops k=true
  ·by_cases b:cst ops e.on=true
   ·exact .inl b
   ·simp only [zdp] at b;rw [d,b] at g;simp at g
  ·simp only [zdp] at d;have hk:k<=j:=hk.resolve_left (by simp [d]);by_cases b:cst ops e.on=true
   ·exact .inl b
   ·simp only [zdp] at b;rw [d,b] at g;simp at g;exact .inr V) i j h (.inr (zac _))
 rcases this with h|h
 ·rw [hi] at h;cases h
 ·exact h
end adA
abbrev Li(listed:Array Bool)(j:Nat):Prop:=listed.getD j false=true
structure Inv(ops:List Oper)(t:gB)(Hp:Nat->ah)(val:Nat->AV)(nm:Nat->Nat)(H:ah)(ρ0:Ren)(w0:World)(a0:Act)(listed:Array Bool)(a:Act)(w:World)(e:Nat)(ρ:Ren):Prop where
 size:listed.size=ops.length
 down:∀j o,ops[j]?=some o->Li listed j->∀ed∈o.after,Region.binds .any ed=true->Li listed ed.on
 le:e<=ops.length
 chain:∀i,i<ops.length->chn ops i=true->(Li listed i↔i<e)
 rel:Rel ρ (Hp e) w
 none:∀k,k<ops.length->cst ops k=true->¬Li listed k->ρ (nm k)=none
 ext:Ext ρ0 H w0 ρ (Hp e) w
 Zq:a.tmps.size=t.length
 tmps:∀d,d<t.length->(∀j o,ops[j]?=some o->Li listed j->o.dst=some d->RV ρ (Hp e).gen w (val j) (a.tmps.getD d undef))/\
  ((∀j o,ops[j]?=some o->Li listed j->o.dst≠some d)->RV ρ (Hp e).gen w (t.getD d bg) (a.tmps.getD d undef))
 defers:a.defers=a0.defers
def wK {listed:Array Bool}{i j:Nat}:Li (listed.setIfInBounds i true) j↔Li listed j∨(j=i/\i<listed.size):=by
 unfold Li;by_cases e:i=j
 ·subst e;by_cases b:i<listed.size
  ·simp [b]
  ·simp [b]
 ·rw [getD_set_ne false e];simp [Ne.symm e]
section
variable {ρ0:Ren}{w0:World}{a0:Act}{listed:Array Bool}{a:Act}{w:World}{e:Nat}{ρ:Ren}
def zH {j:Nat}(hs:listed.size=ops.length)(b:∀j o,ops[j]?=some o->Li listed j->∀d∈o.after,Region.binds .any d=true->Li listed d.on)(h:j∈Region.ready .any ops.toArray listed):
  ∃o,ops[j]?=some o/\¬Li listed j/\(∀i,i≠j->nP ops i j=true->Li listed i)/\(∀i,nP ops j i=true->¬Li listed i)/\
   ∀k e,ops[k]?=some e->Li (listed.setIfInBounds j true) k->∀d∈e.after,Region.binds .any d=true->Li (listed.setIfInBounds j true) d.on:=by
 obtain⟨v,o,g,m⟩:=mem_ready.1 h;have g:ops[j]?=some o:=by simpa using g
 have z:=dS g;have p:¬Li listed j:=by
  unfold Li;rw [zcr] at v ⊢;rw [zbF V] at v ⊢;simp only [zav] at v ⊢;simp [v]
 have q:∀k e,ops[k]?=some e->Li (listed.setIfInBounds j true) k->∀d∈e.after,Region.binds .any d=true->Li (listed.setIfInBounds j true) d.on:=by
  intro k e hk u d y hb;rcases wK.1 u with u|⟨rfl,_⟩
  ·exact wK.2 (.inl (b k e hk u d y hb))
  ·rw [g] at hk;cases hk;exact wK.2 (.inl (m d y hb))
 refine⟨o,g,p,λi w hb=>?_,λi hb u=>p (vG (L:=Li listed) b j i hb u),q⟩;have:=vG (L:=Li (listed.setIfInBounds j true)) q i j hb (wK.2 (.inr ⟨rfl,V⟩));rcases wK.1 this with h|⟨h,_⟩
 ·exact h
 ·exact absurd h w
variable (D:adA P C ops t H t0 H0 T Hp val nm)
include D
def atb(I:Inv ops t Hp val nm H ρ0 w0 a0 listed a w e ρ){j:Nat}{o:Oper}(F:ops[j]?=some o)(hc:cst ops j=false)(G:¬Li listed j)
  (A:∀i,i≠j->nP ops i j=true->Li listed i) (y:∀i,nP ops j i=true->¬Li listed i):TOn ρ (Hp e).gen w (· ∈o.looksAt ops.toArray) (T j) a:=by
 have hj:=dS F;have v:=D.apW j V;refine⟨by rw [I.Zq,v],λd hd K=>?_⟩;rw [v] at K;obtain⟨M,Q⟩:=I.tmps d K;obtain⟨R,W⟩:=D.akU j V d K;have C:∀x,(T j)[d]?=some x->(T j).getD d bg=x:=λx X=>by simp [List.getD,X]
 by_cases E:∃i k,ops[i]?=some k/\Li listed i/\k.dst=some d
 ·obtain⟨i,k,m,z,g⟩:=E;have q:i≠j:=λe=>G (e ▸ z);have b:cst ops i=true∨i<j:=by
   rcases D.facts.uses i j k o d q m F g hd with⟨_,h⟩|⟨h,_⟩
   ·unfold Gu at h;rw [hc] at h;cases u:cst ops i with
    |true=>exact .inl rfl
    |false=>rw [u] at h;simp at h;exact .inr h
   ·exact absurd z (y i h)
  rw [C _ (R i k m g b)];exact M i k m z g
 ·have p:∀i k,ops[i]?=some k->Li listed i->k.dst≠some d:=λi k h1 L h3=>E ⟨i,k,h1,L,h3⟩;have L:=W λi k m b g=>by
   have q:i≠j:=λe=>by
    subst e;rcases b with h|h
    ·rw [hc] at h;cases h
    ·omega
   rcases D.facts.uses i j k o d q m F g hd with⟨h,_⟩|⟨_,h⟩
   ·exact p i k m (A i q h) g
   ·unfold Gu at h;rw [hc] at h;cases u:cst ops i with
    |true=>rw [u] at h;simp at h
    |false=>
     rw [u] at h b;simp at h b;omega
  have:(T j).getD d bg=t.getD d bg:=by simp only [List.getD,L]
  rw [this];exact Q p
def Inv.on(I:Inv ops t Hp val nm H ρ0 w0 a0 listed a w e ρ){j:Nat}{o:Oper}(v:ops[j]?=some o)(Q:¬Li listed j)
  (y:∀k K,ops[k]?=some K->Li (listed.setIfInBounds j true) k->∀L∈K.after,Region.binds .any L=true->Li (listed.setIfInBounds j true) L.on)
  {e':Nat} (z:e'<=ops.length) (A:∀i,i<ops.length->chn ops i=true->(Li (listed.setIfInBounds j true) i↔i<e'))
  {ρ':Ren} {w':World} {cv:Value} (R:Rel ρ' (Hp e') w') (T:∀k,k<ops.length->cst ops k=true->¬Li (listed.setIfInBounds j true) k->ρ' (nm k)=Option.none)
  (E:Ext ρ0 H w0 ρ' (Hp e') w') (M:afK ρ (Hp e).gen w ρ' (Hp e').gen w') (hv:RV ρ' (Hp e').gen w' (val j) cv):Inv ops t Hp val nm H ρ0 w0 a0 (listed.setIfInBounds j true) (a.put o.dst cv) w' e' ρ' where
 size:=by rw [Array.size_setIfInBounds];exact I.size
 down:=y
 le:=z
 chain:=A
 rel:=R
 none:=T
 ext:=E
 Zq:=by rw [<-I.Zq];cases o.dst <;> simp [Act.put]
 tmps:=λd hd=>by
  obtain⟨W,X⟩:=I.tmps d hd;have C:d<a.tmps.size:=by rw [I.Zq];exact hd
  have hj:=dS v;by_cases b:o.dst=some d
  ·have m:(a.put o.dst cv).tmps.getD d undef=cv:=by rw [b];simp [Act.put,Array.getD,C]
   rw [m];refine⟨λi u g _ q=>?_,λh=>absurd b (h j o v (wK.2 (.inr ⟨rfl,by rw [I.size];exact hj⟩)))⟩;rw [D.facts.apV i j u o d g v q b];exact hv
  ·have m:(a.put o.dst cv).tmps.getD d undef=a.tmps.getD d undef:=by
    cases F:o.dst with
    |none=>rfl
    |some d'=>
     have G:d'≠d:=λe=>b (by rw [F,e]);simp [Act.put,zbA G]
   rw [m];refine⟨λi u g p q=>?_,λh=>RV.mono M _ _ (X λi u g p=>h i u g (wK.2 (.inl p)))⟩;rcases wK.1 p with p|⟨rfl,_⟩
   ·exact RV.mono M _ _ (W i u g p q)
   ·rw [v] at g;cases g;exact absurd q b
 defers:=by rw [<-I.defers];cases o.dst <;> rfl
end
end
def GY {ρ:Ren}{G:Nat->Nat}{w:World}{d:Nat}(h:ρ d=none)(co:Obj):afK ρ G w (updρ ρ d (w.heap.size,0)) G (w.alloc co) where
 mono:=λ_=>zac _
 same:=λx y b _=>by
  unfold updρ
  rw [if_neg (λe=>by subst e;rw [h] at b;cases b)];exact b
 imm:=λb hb hi=>by
  refine⟨by simp;omega,λx g b=>?_,λo=>cell?_of_block (by simp only [World.alloc,zbn,if_neg (zb4 hb)])⟩;unfold updρ at b;split at b
  ·cases b;omega
  ·exact hi x g b
 shape:=λb e m hb=>by
  have:=Gw hb;rw [fG] at hb ⊢
  simpa only [World.alloc,zbn,if_neg (zb4 this)] using hb
def XC {ρ:Ren}{H:ah}{w:World}(R:Rel ρ H w){g:Nat}(h:ρ g=none)(p:g<H.next){ty:TypeId}{z:List AV}{cs:Array Value}(m:H.get g=.blk 0 ty z)(j:ty<iC)(k:RVs ρ H.gen w z cs.toList):
  Rel (updρ ρ g (w.heap.size,0)) H (w.alloc (.cells cs ty)) where
 out:=λx d=>by
  unfold updρ
  rw [if_neg V];exact R.out x d
 obj:=λx b s d=>by
  have M:=GY (G:=H.gen) (w:=w) h (.cells cs ty);unfold updρ at d;by_cases e:x=g
  ·subst e;simp at d;obtain⟨rfl,rfl⟩:=d;rw [m];refine⟨cs,ty,kD w _,?_,?_,Xct.low j (by have:=dQ k;rw [bP] at this;omega)⟩
   ·have:=dQ k;simp at this;omega
   ·refine sD (kD w _) λi x d=>?_;obtain⟨v,hv,o⟩:=jR k d;exact⟨v,by simpa using hv,RV.mono M _ _ o⟩
  ·rw [if_neg e] at d;have hb:=R.block d;exact zA.mono M (by simp only [World.alloc,zbn,if_neg (zb4 hb)]) (R.obj x b s d)
 inj:=λx y q s u d i=>by
  unfold updρ at d i;split at d <;> split at i
  ·simp_all
  ·cases d;have:=R.block i;omega
  ·cases i;have:=R.block d;omega
  ·exact R.inj _ _ _ _ _ d i
 gl:=R.gl.of O (λx b s d=>by
  unfold updρ at d;split at d
  ·cases d;exact .inl (zac _)
  ·exact .inr ⟨_,_,d⟩) (λb hb _=>by simp only [World.alloc,zbn,if_neg (zb4 hb)])
def XD {ρ0 ρ:Ren}{H0 H:ah}{w0 w:World}(E:Ext ρ0 H0 w0 ρ H w){r0:Nat}(h0:H0.next<=r0)(hn:ρ r0=none)(co:Obj):Ext ρ0 H0 w0 (updρ ρ r0 (w.heap.size,0)) H (w.alloc co) where
 next:=E.next
 mono:=E.mono
 same:=λx y hx hg=>by
  have h1:=E.same x y hx hg;unfold updρ
  rw [if_neg (λe=>by subst e;rw [hn] at h1;cases h1)];exact h1
 kept:=λx hx h=>by
  unfold updρ
  rw [if_neg (by omega)];exact E.kept x hx h
 range:=λx b s hx=>by
  unfold updρ at hx;split at hx
  ·cases hx;exact .inl E.size
  ·exact E.range x b s hx
 size:=by simp;have:=E.size;omega
 frame:=λb hb hi=>by
  have:=E.size;rw [<-E.frame b hb hi];simp only [World.alloc,zbn,if_neg (show¬b=w.heap.size by omega)]
 shape:=λb hb=>by
  have:=E.size;rw [<-E.shape b hb,fG,fG];simp only [World.alloc,zbn,if_neg (show¬b=w.heap.size by omega)]
 os:=E.os
 tape:=E.tape
 output:=E.output
def Ql {ρ:Ren}{H H0:ah}{w:World}(R:Rel ρ H w)(F:TF H H0)(g:∀r,H.next<=r->H.gen r=0->H0.gen r=0):H0.gen=H.gen/\Rel ρ H0 w/\Ext ρ H w ρ H0 w:=by
 have d:H0.gen=H.gen:=by
  funext r
  rcases zaQ r H.next with h|h
  ·simp only [ah.gen,F.2.2 r h]
  ·rw [g r h (R.out r h).2,(R.out r h).2]
 have E:=Ext.refl ρ H w;refine⟨d,⟨λr e=>⟨(R.out r (zaz F.2.1 e)).1,by rw [d];exact(R.out r (zaz F.2.1 e)).2⟩,λr b i h=>?_,R.inj,R.gl⟩,
  ⟨F.2.1,λr=>by rw [d];exact zac _,λr x h _=>h,E.kept,E.range,E.size,E.frame,E.shape,E.os,E.tape,E.output⟩⟩
 rw [d,F.2.2 r (R.lt h)];exact R.obj r b i h
section
variable {P:Program}{C:aF}{ops:List Oper}{t:gB}{H:ah}{t0:gB}{H0:ah}{T:Nat->gB}{Hp:Nat->ah}{val:Nat->AV}{nm:Nat->Nat}
variable {ρ0:Ren}{w0:World}{a0:Act}{listed:Array Bool}{a:Act}{w:World}{e:Nat}{ρ:Ren}
def TL {j k:Nat}(h:¬Li (listed.setIfInBounds j true) k):¬Li listed k:=λhl=>h (wK.2 (.inl hl))
def GZ {j i:Nat}(b:i≠j):Li (listed.setIfInBounds j true) i↔Li listed i:=by
 rw [wK];exact⟨λh=>h.resolve_right λh=>b h.1,.inl⟩
theorem adE(hC:rW P C)(D:adA P C ops t H t0 H0 T Hp val nm)(I:Inv ops t Hp val nm H ρ0 w0 a0 listed a w e ρ){j:Nat}(hr:j∈Region.ready .any ops.toArray listed){K:Act->World->Prop}{Q:Exit->Act->World->Prop}
  (hK:∀a' w' e' ρ',Inv ops t Hp val nm H ρ0 w0 a0 (listed.setIfInBounds j true) a' w' e' ρ'->K a' w'):wpOp P ops.toArray Q j K a w:=by
 obtain⟨o,ho,hnl,hpre,hpost,hd2⟩:=zH I.size I.down hr;have hj:=dS ho;rcases kinds (ops:=ops) j with hc | ⟨hc,hf⟩ | hc
 ·-- new memory
  obtain⟨o',ho',n1,n2,⟨ty,z,mk,hval,hob,hrun⟩,_⟩:=D.names j hj hc;rw [ho] at ho';cases ho';obtain⟨hg,_⟩:=D.facts.const j o ho hc;obtain⟨cs,cv,h1,⟨h2,hty⟩,h3⟩:=hrun ρ (Hp e).gen w a;have hun:=I.none j hj hc hnl;have wJ:(Hp e).get (nm j)=.blk 0 ty z:=by
   rw [<-hob];refine D.adD hj hc e I.le λi hi hch=> ?_;have hli:=(I.chain i (by have:=I.le;omega) hch).2 hi;cases hb:nP ops j i with
   | false=> rfl
   | true=> exact absurd hli (hpost i hb)
  have hgen:(Hp e).gen (nm j)=0:=by simp [ah.gen,wJ,gu.gen]
  unfold wpOp;have hoa:ops.toArray[j]?=some o:=by simpa using ho
  simp only [hoa,Region.wanted,hg,if_true];left;unfold Oper.wp;rw [h1];simp only [Oper.upon];refine hK _ _ e (updρ ρ (nm j) (w.heap.size,0)) (Inv.on D I ho hnl hd2 I.le (λi hi hch=> ?_)
   (XC I.rel hun (zay n2 (D.adB I.le)) wJ hty h2) (λk hk hck hkl=> ?_) (XD I.ext n1 hun _) (GY hun _) ?_)
  ·rw [GZ (λe=> by subst e;rw [(GV hch).1] at hc;cases hc)];exact I.chain i hi hch
  ·have hkl':=TL hkl;have hne:nm k≠nm j:=λe=> by
    have:=D.inj k j hk hj hck hc e;subst this;exact hkl (wK.2 (.inr ⟨rfl,by rw [I.size];exact hk⟩))
   unfold updρ
   rw [if_neg hne];exact I.none k hk hck hkl'
  ·rw [hval];exact h3 _ _ (nm j) hgen (by simp [updρ])
 ·-- it changes nothing
  have T0:=atb D I ho hc hnl hpre hpost;obtain⟨s1,_⟩:=D.S.step j o ho hc;obtain⟨f1,f2⟩:=xw ho hf;have hsame:Me o.op=true->∀r,lV (T j) o.op=some r->(Hp e).get r=(Hp j).get r:=by
   intro hlk r hw;have hre:r < (Hp e).next:=Vm (λx hx=> RV.nv I.rel.out _ _ (T0.eval x hx)) hw
   have hrj:r < (Hp j).next:=Vm (λx _=> adz (D.ghost j (by omega)) x) hw
   have hw':lV (T j) (qZ ops j)=some r:=by rw [vH ho];exact hw
   have hle:=I.le;have hun:∀i,i < ops.length->chn ops i=true->nP ops i j=false->nP ops j i=false->Xr ops j i=true:=by
    intro i _ hch hb1 hb2;unfold Xr;rw [hch,hf,vH ho,hlk,hb2,hb1];rfl
   rcases Nat.le_total e j with hej | hje
   ·have:=D.J5 hj hw' hre (j - e) (by omega) λi h1 h2 hch=> by
     have hil:¬Li listed i:=λhl=> by have:=(I.chain i (by omega) hch).1 hl;omega
     have hne:i≠j:=by omega
     refine hun i (by omega) hch ?_ ?_
     ·cases hb:nP ops i j with
      | false=> rfl
      | true=> exact absurd (hpre i hne hb) hil
     ·cases hb:nP ops j i with
      | false=> rfl
      | true=> have:=D.afN (GV hch).1 hb hc;omega
    rw [show e+(j - e)=j by omega] at this;exact this.symm
   ·have:=D.J5 hj hw' hrj (e - j) (by omega) λi h1 h2 hch=> by
     have hil:Li listed i:=(I.chain i (by omega) hch).2 (by omega);have hne:i≠j:=λe=> by subst e;rw [(GV hch).2] at hf;cases hf
     refine hun i (by omega) hch ?_ ?_
     ·cases hb:nP ops i j with
      | false=> rfl
      | true=> have:=D.afN hc hb (GV hch).1;omega
     ·cases hb:nP ops j i with
      | false=> rfl
      | true=> exact absurd hil (hpost i hb)
    rw [show j+(e - j)=e by omega] at this;exact this
  have hs:nM P C ops (loose ops j && nI o.op) o (T j) (Hp e)=some (val j,Hp e):=by
   have atI:=D.Vo hj hc hf;rw [atI] at s1;unfold nM at s1 ⊢;split at s1 <;> first | (cases s1;done) | skip
   ·rw [f2,zb8,if_neg zdI] at s1;simp only [f2,zb8,if_neg zdI];exact(MR f1 s1).2 (Hp e) hsame
   ·simp only [zaa,zad] at s1 ⊢;exact⟨s1.1,trivial⟩
  refine MV hC hs I.rel T0 ho λcv ρ' w' r1 r2 r3=> hK _ _ e ρ' (Inv.on D I ho hnl hd2 I.le (λi hi hch=> ?_) r1 (λk hk hck hkl=> ?_) (I.ext.trans r3) r3.toMono r2)
  ·rw [GZ (λe=> by subst e;rw [(GV hch).2] at hf;cases hf)];exact I.chain i hi hch
  ·obtain⟨_,_,_,n2,_⟩:=D.names k hk hck;exact r3.kept _ (zay n2 (D.adB I.le)) (I.none k hk hck (TL hkl))
 ·-- the chain
  have hcc:=(GV hc).1;have T0:=atb D I ho hcc hnl hpre hpost;obtain⟨s1,_⟩:=D.S.step j o ho hcc;have hej:e<=j:=by
   rcases zaQ j e with h | h
   ·exact absurd ((I.chain j hj hc).2 h) hnl
   ·exact h
  have hH:Hp j=Hp e:=D.Ec hej (by omega) λi h1 h2=> by
   cases hch:chn ops i with
   | false=> rfl
   | true=>
    have:=hpre i (by omega) (D.facts.chain i j h2 hj hch hc);have:=(I.chain i (by omega) hch).1 this;omega
  rw [hH] at s1;refine MV hC s1 I.rel T0 ho λcv ρ' w' r1 r2 r3=> hK _ _ (j+1) ρ' (Inv.on D I ho hnl hd2 hj (λi hi hch=> ?_) r1 (λk hk hck hkl=> ?_) (I.ext.trans r3) r3.toMono r2)
  ·by_cases e1:i=j
   ·subst e1;exact⟨λ_=> by omega,λ_=> wK.2 (.inr ⟨rfl,by rw [I.size];exact hi⟩)⟩
   ·rw [GZ e1];refine⟨λhl=> by have:=(I.chain i hi hch).1 hl;omega,λhlt=> hpre i e1 (D.facts.chain i j (by omega) hj hch hc)⟩
  ·obtain⟨_,_,_,n2,_⟩:=D.names k hk hck;exact r3.kept _ (zay n2 (D.adB I.le)) (I.none k hk hck (TL hkl))
def unl:List Bool->Nat
 |[]=>0
 |true::l=>unl l
 |false::l=>unl l+1
def Zr:∀(l:List Bool) (i:Nat),l[i]?=some false->unl (l.set i true)+1=unl l
 |[],i,h=>by simp at h
 |b::l,0,h=>by simp at h;subst h;simp [unl]
 |b::l,i+1,h=>by
  simp at h;have:=Zr l i (by simpa using h);cases b <;> simp [unl] <;> omega
def Vp:∀(l:List Bool),unl l=0->∀(i:Nat),i<l.length->l[i]?=some true
 |[],_,i,hi=>by simp at hi
 |b::l,h,0,_=>by cases b <;> simp_all [unl]
 |b::l,h,i+1,hi=>by
  have d:unl l=0:=by cases b <;> simp_all [unl]
  simpa using Vp l d i (by simpa using hi)
def akV {j:Nat}(b:j<listed.size):Li listed j↔listed.toList[j]?=some true:=by
 unfold Li;simp [Array.getD,b]
def XE {j:Nat}(b:j<listed.size):¬Li listed j↔listed.toList[j]?=some false:=by
 unfold Li;simp [Array.getD,b]
def aik {p:Nat->Prop}:∀n,p n->∃m,p m/\∀i,i<m->¬p i:=by
 intro n
 induction n using Nat.strongRecOn with
 |ind n d=>
  intro e;by_cases h:∃i,i<n/\p i
  ·obtain⟨i,hi,b⟩:=h;exact d i hi b
  ·exact⟨n,e,λi hi b=>h ⟨i,hi,b⟩⟩
def Qm(F:GR ops)(hs:listed.size=ops.length){k:Nat}(hk:k<ops.length)(z:¬Li listed k):Region.ready .any ops.toArray listed≠[]:=by
 have key:∀m,m<ops.length->¬Li listed m->(∀o,ops[m]?=some o->∀e∈o.after,Region.binds .any e=true->Li listed e.on)->Region.ready .any ops.toArray listed≠[]:=by
  intro m hm v q u;have:m∈Region.ready .any ops.toArray listed:=by
   refine mem_ready.2 ⟨?_,ops[m]'hm,by simp [hm],λe i A=>q _ (zab hm) e i A⟩;unfold Li at v;rw [zcr] at v ⊢;rw [zbF V] at v ⊢
   simpa using v
  rw [u] at this;cases this
 by_cases g:∃m,m<ops.length/\cst ops m=true/\¬Li listed m
 ·obtain⟨m,hm⟩:=g;obtain⟨m,⟨i,A,w⟩,d⟩:=aik (p:=λm=>m<ops.length/\cst ops m=true/\¬Li listed m) m hm;refine key m i w λo C e q hb=>?_;obtain⟨y,b⟩:=F.edges m o C e q hb;unfold Gu at b;rw [A] at b;cases h:cst ops e.on with
  |false=>rw [h] at b;simp at b
  |true=>
   rw [h] at b;simp at b;by_cases j:Li listed e.on
   ·exact j
   ·exact absurd ⟨y,h,j⟩ (d e.on b)
 ·obtain⟨m,⟨i,w⟩,d⟩:=aik (p:=λm=>m<ops.length/\¬Li listed m) k ⟨hk,z⟩;refine key m i w λo C e q hb=>?_;obtain⟨y,b⟩:=F.edges m o C e q hb;by_cases j:Li listed e.on
  ·exact j
  ·exfalso;have D:cst ops m=false:=by cases hc:cst ops m with
    |false=>rfl
    |true=>exact absurd ⟨m,i,hc,w⟩ g
   have E:cst ops e.on=false:=by cases hc:cst ops e.on with
    |false=>rfl
    |true=>exact absurd ⟨_,y,hc,j⟩ g
   unfold Gu at b;rw [D,E] at b;simp at b;exact d e.on b ⟨y,j⟩
def ail(D:adA P C ops t H t0 H0 T Hp val nm)(I:Inv ops t Hp val nm H ρ0 w0 a0 listed a w e ρ)(j:∀i,i<ops.length->Li listed i):
  Rel ρ (Hp ops.length) w/\TOn ρ (Hp ops.length).gen w (λ_=>True) (T ops.length) a/\Ext ρ0 H w0 ρ (Hp ops.length) w:=by
 have p:Hp ops.length=Hp e:=D.Ec I.le (zac _) λi b g=>by
  cases m:chn ops i with
  |false=>rfl
  |true=>have:=(I.chain i g m).1 (j i g);omega
 rw [p];refine⟨I.rel,⟨by rw [I.Zq,D.apW _ (zac _)],λd _ hd=>?_⟩,I.ext⟩;rw [D.apW _ (zac _)] at hd;obtain⟨q,u⟩:=I.tmps d hd;obtain⟨v,y⟩:=D.akU _ (zac _) d hd;by_cases k:∃(i:Nat) (h:Oper),ops[i]?=some h/\h.dst=some d
 ·obtain⟨i,h,b,g⟩:=k;have o:=v i h b g (.inr (dS b));have:(T ops.length).getD d bg=val i:=by simp [List.getD,o]
  rw [this];exact q i h b (j i (dS b)) g
 ·have o:=y λi h b _ g=>k ⟨i,h,b,g⟩;have:(T ops.length).getD d bg=t.getD d bg:=by simp only [List.getD,o]
  rw [this];exact u λi h b _ g=>k ⟨i,h,b,g⟩
def afO(v:rW P C)(D:adA P C ops t H t0 H0 T Hp val nm){Q:Exit->Act->World->Prop}
  (y:∀a' ρ' w',Rel ρ' (Hp ops.length) w'->TOn ρ' (Hp ops.length).gen w' (λ_=>True) (T ops.length) a'->Ext ρ0 H w0 ρ' (Hp ops.length) w'->a'.defers=a0.defers->Q .normal a' w'):
  ∀(b:Nat) (listed:Array Bool) (a:Act) (w:World) (e:Nat) (ρ:Ren),unl listed.toList<=b->Inv ops t Hp val nm H ρ0 w0 a0 listed a w e ρ->wpAny P .any ops.toArray Q b listed a w:=by
 have h:∀(listed:Array Bool) (a:Act) (w:World) (e:Nat) (ρ:Ren),Inv ops t Hp val nm H ρ0 w0 a0 listed a w e ρ->Region.ready .any ops.toArray listed=[]->Q .normal a w:=by
  intro listed a w e ρ I d;have k:∀i,i<ops.length->Li listed i:=λi hi=>by
   by_cases u:Li listed i
   ·exact u
   ·exact absurd d (Qm D.facts I.size hi u)
  obtain⟨z,A,E⟩:=ail D I k;exact y a ρ w z A E I.defers
 intro b
 induction b with
 |zero=>
  intro listed a w e ρ F I;have d:Region.ready .any ops.toArray listed=[]:=by
   cases G:Region.ready .any ops.toArray listed with
   |nil=>rfl
   |cons j R=>
    obtain⟨o,p,g,_⟩:=zH I.size I.down (j:=j) (by rw [G];simp);have m:j<listed.size:=by rw [I.size];exact dS p
    exact absurd ((akV m).2 (Vp _ V j (by simpa using m))) g
  exact⟨d,h listed a w e ρ I d⟩
 |succ b K=>
  intro listed a w e ρ F I;refine⟨h listed a w e ρ I,λj m=>adE v D I m λa' w' L ρ' M=>K _ a' w' L ρ' ?_ M⟩;obtain⟨o,p,g,_⟩:=zH I.size I.down m;have q:j<listed.size:=by rw [I.size];exact dS p
  have:=Zr _ j ((XE q).1 g);rw [Array.toList_setIfInBounds];omega
def AA(n:Nat):unl (List.replicate n false)=n:=by
 induction n with
 |zero=>rfl
 |succ n b=>simp [List.replicate_succ,unl,b]
def aio(hC:rW P C)(hKC:kV C)(hm:P.follows .mixedOrders=true){id:Nat}{t':gB}{H':ah}(h:zC P C ops t H=some (t',H'))(R:Rel ρ H w)(TR:TOn ρ H.gen w (λ_=>True) t a){Q:Exit->Act->World->Prop}
  (hQ:∀a' ρ' w',Rel ρ' H' w'->TOn ρ' H'.gen w' (λ_=>True) t' a'->Ext ρ H w ρ' H' w'->a'.defers=a.defers->Q .normal a' w'):(Code.region id ops.toArray true).wp P Q a w:=by
 unfold zC at h;split at h <;> first|(cases h;done)|skip
 rename_i hok;split at h <;> first|(cases h;done)|skip
 rename_i t0 H0 hcr;obtain⟨hrun,aqp⟩:fV P C ops (nR ops) t0 H0=some (t',H')/\∀p∈mJ ops,agree P C ops H.next t0 H0 p:=by
  split at h
  ·rename_i he;rw [he];exact⟨h,O⟩
  ·split at h <;> first|(cases h;done)|skip
   rename_i ha;exact⟨h,ha⟩
 have F:=Eb hok;have hmem:∀j,j∈pU ops↔j<ops.length/\cst ops j=true:=λj=>by simp [pU,zbp,zaW]
 obtain⟨hf,hg,hlen,nm,vl,h1,h2,h3⟩:=vI (pU ops) t H t0 H0 (List.nodup_range.filter _) (λj hj=>((hmem j).1 hj).2)
  (λi _ j _ oi oj d a1 a2 a3 a4=>F.apV i j oi oj d a1 a2 a3 a4) hcr
 obtain⟨T,Hp,val,S,hend,hval⟩:=J3 hrun vl;obtain⟨hgen,RH0,EH0⟩:=Ql R hf hg;obtain⟨ρ1,w1,a1,g1,g2⟩:=zG hC _ _ _ _ _ ρ w a hcr R TR;have D:adA P C ops t H t0 H0 T Hp val nm:={
  facts:=F
  S:=S
  names:=λj hj hc=>by
   obtain⟨o,q1,q2,q3,q4,q5⟩:=h1 j ((hmem j).2 ⟨hj,hc⟩);exact⟨o,q1,q2,q3,by rw [hval j hc];exact q4,λd hd hl=>by rw [hval j hc];exact q5 d hd hl⟩
  inj:=λi j hi hj ci cj e=>h2 i ((hmem i).2 ⟨hi,ci⟩) j ((hmem j).2 ⟨hj,cj⟩) e
  rest:=λd hd=>h3 d λj hj o ho=>hd j ((hmem j).1 hj).2 o ho
  len:=hlen
  fresh:=hf
  ata:=hg
  agr:=aqp
  ghost:=λp hp d=>by
   obtain⟨ρ2,w2,a2,r1,r2⟩:=J4 hC S g1 g2 p hp;exact RV.nv r1.out _ _ (r2.any d trivial)
  keeps:=hKC }
 have e1:T ops.length=t':=by rw [<-Prod.mk.inj hend |>.1]
 have e2:Hp ops.length=H':=by rw [<-Prod.mk.inj hend |>.2]
 refine wp_region_any hm ?_;have hli:∀j,¬Li (Array.replicate ops.toArray.size false) j:=λj=>by
  unfold Li;simp [Array.getD]
 refine afO hC D (a0:=a) (λa' ρ' w' q1 q2 q3 q4=>hQ a' ρ' w' (by rw [<-e2];exact q1) (by rw [<-e1,<-e2];exact q2) (by rw [<-e2];exact q3) q4) ops.toArray.size _ a w.drew 0 ρ (by simp [AA]) ?_;refine⟨O,λj o _ hl=>absurd hl (hli j),zaY _,λi _ _=>⟨λhl=>absurd hl (hli i),λh=>V⟩,by rw [S.zero.2];exact RH0.drew,λk hk hc _=>?_,?_,TR.size,λd hd=>⟨λj o _ hl=>absurd hl (hli j),λ_=>?_⟩,rfl⟩
 ·obtain⟨_,_,q1,_⟩:=D.names k hk hc;exact(R.out _ q1).1
 ·rw [S.zero.2];exact EH0.trans (Ext.drew ρ H0 w)
 ·rw [S.zero.2,hgen];exact RV.mono (Ext.drew ρ H w).toMono _ _ (TR.get d trivial hd)
end
section
variable {ρ ρ1:Ren}{G:Nat->Nat}{H1:ah}{w1:World}{n:Nat}
def AB {f:AV->Option AV}(j:∀x k cv,f x=some k->RV ρ1 H1.gen w1 x cv->RV ρ G w1 k cv):∀(xs d:List AV) (l:List Value),xs.mapM f=some d->RVs ρ1 H1.gen w1 xs l->RVs ρ G w1 d l
 |[],d,l,h,e=>by
  simp at h;subst h
  simpa only [RVs] using e
 |x::xs,d,l,h,e=>by
  rw [zbw] at h;cases g:f x with
  |none=>rw [g] at h;cases h
  |some y=>
   rw [g] at h;cases i:xs.mapM f with
   |none=>rw [i] at h;cases h
   |some m=>
    rw [i] at h;simp only [zcm,za7,zcO,zaa] at h;subst h;simp only [RVs] at e ⊢;obtain⟨v,vs,rfl,a,b⟩:=e;exact⟨v,vs,rfl,j _ _ _ g a,AB j xs m vs i b⟩
def E9 {f:AV->Option AV}(k:∀x m cv,f x=some m->RV ρ1 H1.gen w1 x cv->RV ρ G w1 m cv):∀(xs d:List AV) (b o:Nat),xs.mapM f=some d->RVc ρ1 H1.gen w1 xs b o->RVc ρ G w1 d b o
 |[],d,b,o,h,g=>by
  simp at h;subst h;simp only [RVc]
 |x::xs,d,b,o,h,g=>by
  rw [zbw] at h;cases i:f x with
  |none=>rw [i] at h;cases h
  |some y=>
   rw [i] at h;cases j:xs.mapM f with
   |none=>rw [j] at h;cases h
   |some p=>
    rw [j] at h;simp only [zcm,za7,zcO,zaa] at h;subst h;simp only [RVc] at g ⊢;obtain⟨⟨v,e,a⟩,c⟩:=g;exact⟨⟨v,e,k _ _ _ i a⟩,E9 k xs p b (o+1) j c⟩
def zJ {f:AV->Option AV}:∀(xs b:List AV),xs.mapM f=some b->b.length=xs.length
 |[],b,h=>by simp at h;subst h;rfl
 |x::xs,b,h=>by
  rw [zbw] at h;cases e:f x with
  |none=>rw [e] at h;cases h
  |some y=>
   rw [e] at h;cases d:xs.mapM f with
   |none=>rw [d] at h;cases h
   |some g=>
    rw [d] at h;simp only [zcm,za7,zcO,zaa] at h;subst h;simp [zJ xs g d]
def Zt(X:Rel ρ1 H1 w1)(j:∀r,r<n->ρ r=ρ1 r/\G r=H1.gen r)(w:∀r,n<=r->ρ r=none):
  ∀(d:Nat) (x F:AV) (cv:Value),bV H1 n d x=some F->RV ρ1 H1.gen w1 x cv->RV ρ G w1 F cv:=by
 have y:∀b,Imm ρ1 b->Imm ρ b:=by
  intro b hi r H m;rcases zaQ r n with h|h
  ·rw [(j r h).1] at m;exact hi r H m
  ·rw [w r h] at m;cases m
 intro d
 induction d with
 |zero=>intro x F cv h;cases h
 |succ d u=>
  intro x F cv h hv;cases x with
  |s v=>simp only [bV,zaa] at h;subst h;simpa only [RV] using hv
  |ref r g off=>
   simp only [bV] at h;split at h <;> first|(cases h;done)|skip
   rename_i m;simp only [zaa] at h;subst h;obtain⟨z,A⟩:=j r m;simp only [RV] at hv ⊢;rw [z,A];exact hv
  |mp r=>
   simp only [bV] at h;split at h <;> first|(cases h;done)|skip
   rename_i m;simp only [zaa] at h;subst h;obtain⟨z,A⟩:=j r m;simp only [RV] at hv ⊢;rw [z,A];exact hv
  |sl r g off C len ab ex=>
   simp only [bV] at h;split at h
   ·rename_i m;simp only [zaa] at h;subst h;obtain⟨z,A⟩:=j r m;simp only [RV] at hv ⊢;rw [z,A];exact hv
   ·rename_i m;split at h <;> first|(cases h;done)|skip
    rename_i cells i;cases hm:cells.mapM (bV H1 n d) with
    |none=>rw [hm] at h;cases h
    |some l=>
     rw [hm] at h;simp only [zak,zaa] at h;subst h;simp only [dH] at i;split at i <;> first|(cases i;done)|skip
     rename_i g' ty all ho;split at i <;> first|(cases i;done)|skip
     rename_i hc;obtain⟨rfl,ad⟩:=hc;simp only [zaa] at i;simp only [RV] at hv ⊢;obtain⟨b,o,c,rfl,q1,q2,q3,q4,q5⟩:=hv;obtain⟨H,e,k,D,K,ae,aa⟩:=q5 (by simp [ah.gen,ho,gu.gen]);have wJ:=X.obj r b H D;simp only [zA,ho] at wJ;obtain⟨cs,e',hb,hz,L,_⟩:=wJ;have M:cells.length=len*C:=by rw [<-i];simp;omega
     refine⟨b,o,c,rfl,V,by rw [zJ _ _ hm,M],oP hb,λr' Q p=>?_,?_⟩
     ·rcases zaQ r' n with R|R
      ·rw [(j r' R).1] at p;have:=X.inj r' r b Q H p D;omega
      ·rw [w r' R] at p;cases p
     ·refine E9 u cells l b o hm ?_;by_cases h0:c=0
      ·have:len=0:=V
       subst this;rw [<-i];simp [RVc]
      ·rw [K V,<-i];exact uZ _ (su off L)
  |ip cells=>
   simp only [bV] at h;cases hm:cells.mapM (bV H1 n d) with
   |none=>rw [hm] at h;cases h
   |some l=>
    rw [hm] at h;simp only [zak,zaa] at h;subst h;simp only [RV] at hv ⊢;obtain⟨b,o,e,q,E,T⟩:=hv;exact⟨b,o,e,q,y b E,E9 u cells l b o hm T⟩
  |vs k C cells=>
   simp only [bV] at h;cases hm:cells.mapM (bV H1 n d) with
   |none=>rw [hm] at h;cases h
   |some l=>
    rw [hm] at h;simp only [zak,zaa] at h;subst h;simp only [RV] at hv ⊢;obtain⟨b,o,c,e,h0,W,q,E,T⟩:=hv;exact⟨b,o,c,e,h0,by rw [zJ _ _ hm];exact W,q,y b E,E9 u cells l b o hm T⟩
  |fn f a c=>
   simp only [bV] at h;split at h <;> first|(cases h;done)|skip
   rename_i a' c' ha hc;simp only [zaa] at h;subst h;simp only [RV] at hv ⊢;obtain⟨a0,c0,e,q,E⟩:=hv;exact⟨a0,c0,e,AB u _ _ _ ha q,AB u _ _ _ hc E⟩
  |agg cells=>
   simp only [bV] at h;cases hm:cells.mapM (bV H1 n d) with
   |none=>rw [hm] at h;cases h
   |some l=>
    rw [hm] at h;simp only [zak,zaa] at h;subst h;simp only [RV] at hv ⊢;obtain⟨cs,e,q⟩:=hv;exact⟨cs,e,AB u _ _ _ hm q⟩
  |tup cells=>
   simp only [bV] at h;cases hm:cells.mapM (bV H1 n d) with
   |none=>rw [hm] at h;cases h
   |some l=>
    rw [hm] at h;simp only [zak,zaa] at h;subst h;simp only [RV] at hv ⊢;obtain⟨cs,e,q⟩:=hv;exact⟨cs,e,AB u _ _ _ hm q⟩
end
def Zu {ρ ρ1:Ren}{H H1:ah}{w w1:World}(R:Rel ρ H w)(K:Keeps H.guard H1)(R1:Rel ρ1 H1 w1)(E:Ext ρ H w ρ1 H1 w1){d:Nat}{x x':AV}{cv:Value}
  (hf:bV H1 H.next d x=some x') (hv:RV ρ1 H1.gen w1 x cv):Rel ρ H w1/\RV ρ H.gen w1 x' cv/\Ext ρ H w ρ H w1:=by
 have hget:∀r,r<H.next->H1.get r=H.get r:=λr hr=>K.get r hr hr
 have hgen:∀r,r<H.next->H1.gen r=H.gen r:=λr hr=>by simp only [ah.gen,hget r hr]
 have hlt:∀r,r<H.next->ρ r=ρ1 r/\H.gen r=H1.gen r:=by
  intro r hr;refine⟨?_,(hgen r hr).symm⟩;cases h:ρ r with
  |none=>exact(E.kept r hr h).symm
  |some x=>exact(E.same r x h (hgen r hr)).symm
 have hge:∀r,H.next<=r->ρ r=none:=λr hr=>(R.out r hr).1
 have hfr:=Zt (G:=H.gen) R1 hlt hge d x x' cv hf hv;have hE:Ext ρ H w ρ H w1:=⟨zac _,λ_=>zac _,λ_ _ h _=>h,λ_ _ h=>h,λ_ _ sh h=>.inr ⟨sh,h⟩,E.size,E.frame,E.shape,E.os,E.tape,E.output⟩
 refine⟨⟨R.out,λr b sh h=>?_,R.inj,R.gl.ext hE⟩,hfr,hE⟩;have hr:=R.lt h;have h1:=R1.obj r b sh (by rw [<-(hlt r hr).1];exact h);rw [hget r hr] at h1;have h0:=R.obj r b sh h
 -- the object as it was,in the new world
 have hB:Back H.next ρ1 H1.gen ρ H.gen:=⟨λr hr=>(hgen r hr).symm,λr hr=>.inr (hlt r hr).1,λr x hx=>by
  have:=R.lt (b:=x.1) (sh:=x.2) hx;rw [<-(hlt r this).1];exact hx⟩
 unfold zA at h1 h0 ⊢;cases ho:H.get r with
 |blk g ty cells=>
  rw [ho] at h1 h0;obtain⟨cs,e,q1,q2,q3⟩:=h1;obtain⟨_,_,_,_,z3,_⟩:=h0;exact⟨cs,e,q1,q2,RVc.back hB R.out cells b sh b sh z3 q3.1,q3.2⟩
 |map k es=>
  rw [ho] at h1 h0;obtain⟨ces,dh,q1,q2,q3⟩:=h1;obtain⟨_,_,_,_,z3,_⟩:=h0;exact⟨ces,dh,q1,q2,RVm.back hB R.out es _ _ z3 q3.1,q3.2⟩
inductive Ex where
 |normal
 |exit (id:Nat)
 |ret
def Ex.to:Ex->Exit
 |.normal=>.normal
 |.exit id=>.exit id
 |.ret=>.ret
abbrev Res:=Option (Ex × gB × ah)
abbrev Run:=gB->ah->Res
def tN(r:Res)(k:Run):Res:=
 match r with
 |some (.normal,t,H)=>k t H
 |some (.exit i,t,H)=>some (.exit i,t,H)
 |some (.ret,t,H)=>some (.ret,t,H)
 |none=>none
def Ed(id:Nat)(r:Res):Res:=
 match r with
 |some (.exit i,t,H)=>if i=id then some (.normal,t,H) else some (.exit i,t,H)
 |some (.normal,t,H)=>some (.normal,t,H)
 |some (.ret,t,H)=>some (.ret,t,H)
 |none=>none
def CQ(f:Run):Nat->Run
 |0,_,_=>none
 |n+1,t,H=>tN (f t H) (CQ f n)
open Classical in
def aip {α:Type}(g:Nat->Option α):Option α:=if h:∃n,(g n).isSome=true then g (Classical.choose h) else none
def XF(f:Run):Run:=λt H=>aip λn=>CQ f n t H
def fH(P:Program)(C:aF):Code->Run
 |.skip=>λt H=>some (.normal,t,H)
 |.region _ ops draw=>λt H=>match(if draw then zC P C ops.toList t H else P5 P C ops.toList ops.toList t H) with
  |some (t',H')=>some (.normal,t',H')
  |none=>none
 |.seq a b=>λt H=>tN (fH P C a t H) (fH P C b)
 |.cond c a b=>λt H=>match dU t c with
  |.s (.bool true)=>fH P C a t H
  |.s (.bool false)=>fH P C b t H
  |_=>none
 |.block id c=>λt H=>Ed id (fH P C c t H)
 |.loop c=>XF (fH P C c)
 |.exit id=>λt H=>some (.exit id,t,H)
 |.ret=>λt H=>some (.ret,t,H)
 |_=>λ_ _=>none
def Vq(P:Program)(t:gB)(H:ah):ResultVar->Option AV
 |.tmp d=>some (t.getD d bg)
 |.cell a b=>(Tf P b (t.getD a bg) H).map (·.1)
def jG(P:Program)(b:List ResultVar)(t:gB)(H:ah):Option AV:=
 match b.mapM (Vq P t H) with
 |some [x]=>some x
 |some xs=>some (.tup xs)
 |none=>none
def Ah(P:Program)(C:aF)(f:FuncId)(args:List AV):AM AV:=λH=>
 match P.funcs[f]? with
 |some fn=>match fn.body with
  |some c=>match fH P C c (args++List.replicate (fn.ntmps-args.length) bg) H with
   |some (.exit _,_,_)=>none
   |some (_,t,H')=>(jG P fn.results.toList t H').map λv=>(v,H')
   |none=>none
  |none=>none
 |none=>none
structure Pol where
 pure:FuncId->Bool
 adf:FuncId->Option (List AV->AM AV)
def CS(P:Program)(L:Pol)(C:aF):aF:=λf args H=>
 match L.adf f with
 |some p=>p args H
 |none=>
  if L.pure f then
   match Ah P C f args H.guard with
   |some (v,H1)=>(bV H1 H.next 9 v).map λv'=>(v',H)
   |none=>none
  else Ah P C f args H
def lX {α:Type}{g:Nat->Option α}{r:α}(h:aip g=some r):∃n,g n=some r:=by
 unfold aip at h;split at h
 ·exact⟨_,h⟩
 ·cases h
def adF {α:Type}{g:Nat->Option α}(b:∀n r,g n=some r->g (n+1)=some r){n:Nat}{r:α}(h:g n=some r):∀k,g (n+k)=some r:=by
 intro k
 induction k with
 |zero=>exact h
 |succ k d=>exact b _ _ d
def MW {α:Type}{g:Nat->Option α}(b:∀n r,g n=some r->g (n+1)=some r){n m:Nat}{r:α}(h:g n=some r)(hm:n<=m):g m=some r:=by
 have:=adF b h (m-n)
 rwa [show n+(m-n)=m by omega] at this
def xB {α:Type}{g:Nat->Option α}(i:∀n r,g n=some r->g (n+1)=some r){n:Nat}{r:α}(h:g n=some r):aip g=some r:=by
 unfold aip;have b:∃n,(g n).isSome=true:=⟨n,by rw [h];rfl⟩
 rw [dif_pos b];have hc:=Classical.choose_spec b;cases d:g (Classical.choose b) with
 |none=>rw [d] at hc;cases hc
 |some r'=>
  rcases Nat.le_total n (Classical.choose b) with e|e
  ·rw [MW i h e] at d;exact d.symm
  ·rw [MW i d e] at h;exact h
def J6 {f:Run}:∀n t H r,CQ f n t H=some r->CQ f (n+1) t H=some r:=by
 intro n
 induction n with
 |zero=>intro t H r h;cases h
 |succ n b=>
  intro t H r h;show tN (f t H) (CQ f (n+1))=some r
  change tN (f t H) (CQ f n)=some r at h
  unfold tN at h ⊢;split at h
  ·exact b _ _ _ h
  ·exact h
  ·exact h
  ·cases h
section
variable {P:Program}{C:aF}{ρ:Ren}{H H':ah}{w:World}{t t':gB}{a:Act}
def AL {ops rest:List Oper}{o:Oper}:P5 P C ops (o::rest) t H=match nM P C ops false o t H with
  |some (v,H')=>P5 P C ops rest (wV t o.dst v) H'
  |none=>none:=by
 simp only [P5,nM];cases uX ops t o with
 |none=>rfl
 |some b=>
  cases b
  ·rfl
  ·cases opA P C t o H <;> rfl
def akW(hC:rW P C){ops:List Oper}{Q:Exit->Act->World->Prop}:∀(m k:Nat) (t:gB) (H:ah) (a:Act) (w:World) (ρ:Ren),m+k=ops.length->P5 P C ops (ops.drop k) t H=some (t',H')->Rel ρ H w->TOn ρ H.gen w (λ_=>True) t a->
  (∀a' ρ' w',Rel ρ' H' w'->TOn ρ' H'.gen w' (λ_=>True) t' a'->Ext ρ H w ρ' H' w'->a'.defers=a.defers->Q .normal a' w')->wpOps P ops.toArray Q (List.range' k m) a w:=by
 intro m
 induction m with
 |zero=>
  intro k t H a w ρ hk h R T hQ;rw [List.drop_eq_nil_of_le V] at h;simp only [P5,zaa,zad] at h;obtain⟨rfl,rfl⟩:=h;exact hQ a ρ w R T (Ext.refl _ _ _) rfl
 |succ m ih=>
  intro k t H a w ρ hk h R T hQ;have hlt:k<ops.length:=V
  have ho:ops[k]?=some (ops[k]'hlt):=zab hlt;rw [zbu hlt,AL] at h;cases hs:nM P C ops false (ops[k]'hlt) t H with
  |none=>rw [hs] at h;cases h
  |some r=>
   obtain⟨v,H1⟩:=r;rw [hs] at h;simp only at h;rw [zc5,wpOps_cons];refine MV hC hs R (T.sub λ_ _=>trivial) ho λcv ρ' w' r1 r2 r3=>?_;refine ih (k+1) _ _ _ w' ρ' V h r1 ((T.keep r3).put _ r2) λa' ρ2 w2 q1 q2 q3 q4=>hQ a' ρ2 w2 q1 q2 (r3.trans q3) (q4.trans ?_);cases(ops[k]'hlt).dst <;> rfl
abbrev aqr(ρ:Ren)(H:ah)(w:World)(a:Act)(t':gB)(H':ah)(Q:Act->World->Prop):Prop:=
 ∀a' ρ' w',Rel ρ' H' w'->TOn ρ' H'.gen w' (λ_=>True) t' a'->Ext ρ H w ρ' H' w'->a'.defers=a.defers->Q a' w'
def xE(P:Program)(c:Code)(f:Run):Prop:=
 ∀t H e t' H',f t H=some (e,t',H')->∀(ρ:Ren) (w:World) (a:Act),Rel ρ H w->TOn ρ H.gen w (λ_=>True) t a->∀Q:Exit->Act->World->Prop,aqr ρ H w a t' H' (Q e.to)->c.wp P Q a w
def XG {c d:Code}{f g:Run}(hf:xE P c f)(hg:∀t H e t' H',g t H=some (e,t',H')->∀(ρ:Ren) (w:World) (a:Act),Rel ρ H w->TOn ρ H.gen w (λ_=>True) t a->∀Q:Exit->Act->World->Prop,aqr ρ H w a t' H' (Q e.to)->d.wp P Q a w):
  xE P (.seq c d) λt H=>tN (f t H) g:=by
 intro t H e t' H' h ρ w a R T Q hQ;refine wp_seq ?_
 change tN (f t H) g=_ at h
 unfold tN at h;split at h
 ·rename_i t1 H1 hf1;refine hf t H _ t1 H1 hf1 ρ w a R T _ λa' ρ' w' r1 r2 r3 r4=>?_;exact hg t1 H1 e t' H' h ρ' w' a' r1 r2 Q λa2 ρ2 w2 q1 q2 q3 q4=>hQ a2 ρ2 w2 q1 q2 (r3.trans q3) (q4.trans r4)
 ·rename_i i t1 H1 hf1;simp only [zaa,zad] at h;obtain⟨rfl,rfl,rfl⟩:=h;exact hf t H _ t1 H1 hf1 ρ w a R T _ hQ
 ·rename_i t1 H1 hf1;simp only [zaa,zad] at h;obtain⟨rfl,rfl,rfl⟩:=h;exact hf t H _ t1 H1 hf1 ρ w a R T _ hQ
 ·cases h
open Classical in
def XH {c:Code}{f:Run}(hf:xE P c f):xE P (.loop c) (XF f):=by
 intro t H e t' H' h ρ w a R T Q hQ;obtain⟨n,hn⟩:=lX h;let I:Nat->Act->World->Prop:=λn a1 w1=>∃t1 H1 ρ1,CQ f n t1 H1=some (e,t',H')/\Rel ρ1 H1 w1/\TOn ρ1 H1.gen w1 (λ_=>True) t1 a1/\Ext ρ H w ρ1 H1 w1/\a1.defers=a.defers
 let μ:Act->World->Nat:=λa1 w1=>if hx:∃n,I n a1 w1/\∀i,i<n->¬I i a1 w1 then Classical.choose hx else 0
 have hμ:∀n a1 w1,I n a1 w1->I (μ a1 w1) a1 w1/\μ a1 w1<=n:=by
  intro n a1 w1 hi;have hx:∃n,I n a1 w1/\∀i,i<n->¬I i a1 w1:=aik (p:=λn=>I n a1 w1) n hi;have hsp:=Classical.choose_spec hx;have hdef:μ a1 w1=Classical.choose hx:=dif_pos hx;rw [hdef];refine⟨hsp.1,?_⟩;rcases zaQ n (Classical.choose hx) with hl|hl
  ·exact absurd hi (hsp.2 n hl)
  ·exact hl
 refine wp_loop (λa1 w1=>∃n,I n a1 w1) μ ⟨n,t,H,ρ,hn,R,T,Ext.refl _ _ _,rfl⟩ λa1 w1 ⟨n1,hi⟩=>?_;obtain⟨⟨t1,H1,ρ1,h1,R1,T1,E1,D1⟩,_⟩:=hμ n1 a1 w1 hi;cases hm:μ a1 w1 with
 |zero=>rw [hm] at h1;cases h1
 |succ m=>
  rw [hm] at h1
  change tN (f t1 H1) (CQ f m)=_ at h1
  unfold tN at h1;split at h1
  ·rename_i t2 H2 hf1;refine hf t1 H1 _ t2 H2 hf1 ρ1 w1 a1 R1 T1 _ λa2 ρ2 w2 r1 r2 r3 r4=>?_;have hi2:I m a2 w2:=⟨t2,H2,ρ2,h1,r1,r2,E1.trans r3,r4.trans D1⟩
   exact⟨⟨m,hi2⟩,by have:=(hμ m a2 w2 hi2).2;omega⟩
  ·rename_i i t2 H2 hf1;simp only [zaa,zad] at h1;obtain⟨rfl,rfl,rfl⟩:=h1;exact hf t1 H1 _ _ _ hf1 ρ1 w1 a1 R1 T1 _ λa2 ρ2 w2 r1 r2 r3 r4=>hQ a2 ρ2 w2 r1 r2 (E1.trans r3) (r4.trans D1)
  ·rename_i t2 H2 hf1;simp only [zaa,zad] at h1;obtain⟨rfl,rfl,rfl⟩:=h1;exact hf t1 H1 _ _ _ hf1 ρ1 w1 a1 R1 T1 _ λa2 ρ2 w2 r1 r2 r3 r4=>hQ a2 ρ2 w2 r1 r2 (E1.trans r3) (r4.trans D1)
  ·cases h1
def CU(hC:rW P C)(hK:kV C)(hm:P.follows .mixedOrders=true):∀c:Code,xE P c (fH P C c):=by
 intro c
 induction c with
 |skip=>
  intro t H e t' H' h ρ w a R T Q hQ;simp only [fH,zaa,zad] at h;obtain⟨rfl,rfl,rfl⟩:=h;exact wp_skip (hQ a ρ w R T (Ext.refl _ _ _) rfl)
 |region id ops draw=>
  intro t H e t' H' h ρ w a R T Q hQ;simp only [fH] at h;cases draw with
  |true=>
   simp only [if_true] at h;split at h <;> first|(cases h;done)|skip
   rename_i t1 H1 hd;simp only [zaa,zad] at h;obtain⟨rfl,rfl,rfl⟩:=h;have:=aio hC hK hm (id:=id) hd R T (Q:=Q) hQ
   simpa using this
  |false=>
   simp only [zai,if_false] at h;split at h <;> first|(cases h;done)|skip
   rename_i t1 H1 hd;simp only [zaa,zad] at h;obtain⟨rfl,rfl,rfl⟩:=h;refine wp_region ?_;have:=akW hC (ops:=ops.toList) (Q:=Q) ops.toList.length 0 t H a w ρ O (by simpa using hd) R T hQ;rw [zcD]
   simpa using this
 |seq x y ihx ihy=>exact XG ihx ihy
 |cond c x y ihx ihy=>
  intro t H e t' H' h ρ w a R T Q hQ;simp only [fH] at h;have hev:RV ρ H.gen w (dU t c) (a.eval c):=by
   cases c with
   |tmp d=>exact T.any d trivial
   |const v=>simp [dU,Act.eval,RV]
   |global g=>simp [dU,Act.eval,RV]
   |func f=>simp [dU,Act.eval,RV,RVs]
  split at h
  ·rename_i hb;rw [hb] at hev;simp only [RV] at hev;exact wp_cond_true hev (ihx t H e t' H' h ρ w a R T Q hQ)
  ·rename_i hb;rw [hb] at hev;simp only [RV] at hev;exact wp_cond_false hev (ihy t H e t' H' h ρ w a R T Q hQ)
  ·cases h
 |block id x ih=>
  intro t H e t' H' h ρ w a R T Q hQ;simp only [fH] at h;refine wp_block ?_;unfold Ed at h;split at h
  ·rename_i i t1 H1 hf;refine ih t H _ t1 H1 hf ρ w a R T _ λa2 ρ2 w2 r1 r2 r3 r4=>?_;simp only [Ex.to,Exit.inBlock];split at h
   ·rename_i hid;simp only [zaa,zad] at h;obtain⟨rfl,rfl,rfl⟩:=h;rw [if_pos hid];exact hQ a2 ρ2 w2 r1 r2 r3 r4
   ·rename_i hid;simp only [zaa,zad] at h;obtain⟨rfl,rfl,rfl⟩:=h;rw [if_neg hid];exact hQ a2 ρ2 w2 r1 r2 r3 r4
  ·rename_i t1 H1 hf;simp only [zaa,zad] at h;obtain⟨rfl,rfl,rfl⟩:=h;exact ih t H _ t1 H1 hf ρ w a R T _ hQ
  ·rename_i t1 H1 hf;simp only [zaa,zad] at h;obtain⟨rfl,rfl,rfl⟩:=h;exact ih t H _ t1 H1 hf ρ w a R T _ hQ
  ·cases h
 |loop x ih=>exact XH ih
 |exit id=>
  intro t H e t' H' h ρ w a R T Q hQ;simp only [fH,zaa,zad] at h;obtain⟨rfl,rfl,rfl⟩:=h;exact wp_exit (hQ a ρ w R T (Ext.refl _ _ _) rfl)
 |ret=>
  intro t H e t' H' h ρ w a R T Q hQ;simp only [fH,zaa,zad] at h;obtain⟨rfl,rfl,rfl⟩:=h;exact wp_ret (hQ a ρ w R T (Ext.refl _ _ _) rfl)
 |_=>intro t H e t' H' h;simp [fH] at h
end
section
variable {P:Program}{C:aF}{ρ:Ren}{H H':ah}{w:World}{t t':gB}{a:Act}
def J7(d:kV C){ops:List Oper}{lo:Bool}{o:Oper}{v:AV}(h:nM P C ops lo o t H=some (v,H')):Keeps H H':=by
 unfold nM at h;split at h <;> first|(cases h;done)|skip
 ·split at h
  ·have:=(GN d h).1;exact⟨this.1,this.2.1,λr _ b=>this.2.2 r b,λr b=>by rw [this.2.2 r b];exact .refl _⟩
  ·exact E8 d h
 ·simp only [zaa,zad] at h;rw [h.2];exact .refl _
def J8(b:kV C){ops:List Oper}:∀(l:List Oper) (t:gB) (H:ah),P5 P C ops l t H=some (t',H')->Keeps H H'
 |[],t,H,h=>by
  simp only [P5,zaa,zad] at h;rw [h.2];exact .refl _
 |o::l,t,H,h=>by
  rw [AL] at h;split at h <;> first|(cases h;done)|skip
  rename_i v H1 d;exact(J7 b d).trans (J8 b l _ _ h)
def y9(b:kV C){ops:List Oper}:∀(l:List Nat) (t:gB) (H:ah),iV P C ops l t H=some (t',H')->Keeps H H'
 |[],t,H,h=>by
  simp only [iV,zaa,zad] at h;rw [h.2];exact .refl _
 |i::l,t,H,h=>by
  simp only [iV] at h;split at h <;> first|(cases h;done)|skip
  split at h <;> first|(cases h;done)|skip
  rename_i v H1 d;exact(E8 b d).trans (y9 b l _ _ h)
def vJ(b:kV C){ops:List Oper}:∀(l:List Nat) (t:gB) (H:ah),fV P C ops l t H=some (t',H')->Keeps H H'
 |[],t,H,h=>by
  simp only [fV,zaa,zad] at h;rw [h.2];exact .refl _
 |i::l,t,H,h=>by
  simp only [fV] at h;split at h <;> first|(cases h;done)|skip
  split at h <;> first|(cases h;done)|skip
  rename_i v H1 d;exact(J7 b d).trans (vJ b l _ _ h)
def TM(b:kV C){ops:List Oper}(h:zC P C ops t H=some (t',H')):Keeps H H':=by
 unfold zC at h;split at h <;> first|(cases h;done)|skip
 split at h <;> first|(cases h;done)|skip
 rename_i t0 H0 e;have d:=y9 b _ _ _ e;split at h
 ·exact d.trans (vJ b _ _ _ h)
 ·split at h <;> first|(cases h;done)|skip
  exact d.trans (vJ b _ _ _ h)
def vK(f:Run):Prop:=∀t H e t' H',f t H=some (e,t',H')->Keeps H H'
def J9 {f g:Run}(d:vK f)(k:vK g):vK λt H=>tN (f t H) g:=by
 intro t H e t' H' h
 change tN (f t H) g=_ at h
 unfold tN at h;split at h
 ·rename_i j H1 b;exact(d _ _ _ _ _ b).trans (k _ _ _ _ _ h)
 ·rename_i i j H1 b;simp only [zaa,zad] at h;obtain⟨_,_,rfl⟩:=h;exact d _ _ _ _ _ b
 ·rename_i j H1 b;simp only [zaa,zad] at h;obtain⟨_,_,rfl⟩:=h;exact d _ _ _ _ _ b
 ·cases h
def XI {f:Run}(b:vK f):vK (XF f):=by
 have key:∀n,vK (CQ f n):=by
  intro n
  induction n with
  |zero=>intro t H e t' H' h;cases h
  |succ n d=>exact J9 b d
 intro t H e t' H' h;obtain⟨n,g⟩:=lX h;exact key n t H e t' H' g
def XJ(m:kV C):∀c:Code,vK (fH P C c):=by
 intro c
 induction c with
 |skip=>
  intro t H e t' H' h;simp only [fH,zaa,zad] at h;rw [<-h.2.2];exact .refl _
 |region id ops draw=>
  intro t H e t' H' h;simp only [fH] at h;split at h <;> first|(cases h;done)|skip
  rename_i k H1 hd;simp only [zaa,zad] at h;obtain⟨_,rfl,rfl⟩:=h;split at hd
  ·exact TM m hd
  ·exact J8 m _ _ _ hd
 |seq x y b d=>exact J9 b d
 |cond c x y b d=>
  intro t H e t' H' h;simp only [fH] at h;split at h
  ·exact b _ _ _ _ _ h
  ·exact d _ _ _ _ _ h
  ·cases h
 |block id x g=>
  intro t H e t' H' h;simp only [fH] at h;unfold Ed at h;split at h
  ·rename_i i k H1 j;split at h <;>
   ·simp only [zaa,zad] at h;obtain⟨_,_,rfl⟩:=h;exact g _ _ _ _ _ j
  ·rename_i k H1 j;simp only [zaa,zad] at h;obtain⟨_,_,rfl⟩:=h;exact g _ _ _ _ _ j
  ·rename_i k H1 j;simp only [zaa,zad] at h;obtain⟨_,_,rfl⟩:=h;exact g _ _ _ _ _ j
  ·cases h
 |loop x g=>exact XI g
 |exit id=>
  intro t H e t' H' h;simp only [fH,zaa,zad] at h;rw [<-h.2.2];exact .refl _
 |ret=>
  intro t H e t' H' h;simp only [fH,zaa,zad] at h;rw [<-h.2.2];exact .refl _
 |_=>intro t H e t' H' h;simp [fH] at h
def Ko(d:kV C){f:FuncId}{args:List AV}{v:AV}(h:Ah P C f args H=some (v,H')):Keeps H H':=by
 unfold Ah at h;split at h <;> first|(cases h;done)|skip
 split at h <;> first|(cases h;done)|skip
 split at h <;> first|(cases h;done)|skip
 rename_i e g H1 i j;have:=XJ d _ _ _ _ _ _ j;cases b:jG P _ g H1 with
 |none=>rw [b] at h;cases h
 |some x=>
  rw [b] at h;simp only [zak,zaa,zad] at h;rw [<-h.2];exact this
def apX(tmps:Array Value):ResultVar->Sem Value
 |.tmp t=>pure (tmps.getD t undef)
 |.cell a t=>do loadVar t (<-asAddr (tmps.getD a undef))
def Qn(fn:Func)(tmps:Array Value):results fn tmps=(do
  let vs<-fn.results.mapM (apX tmps)
  pure (if h:vs.size=1 then vs[0] else .tuple vs)):=by
 rfl
def aiq(R:Rel ρ H w)(T:TOn ρ H.gen w (λ_=>True) t a){x:ResultVar}{v:AV}(h:Vq P t H x=some v):
  ∃cv,(apX a.tmps x).run P w=.ok cv w/\RV ρ H.gen w v cv:=by
 cases x with
 |tmp d=>
  simp only [Vq,zaa] at h;subst h;exact⟨_,rfl,T.any d trivial⟩
 |cell b q=>
  simp only [Vq] at h;cases i:Tf P q (t.getD b bg) H with
  |none=>rw [i] at h;cases h
  |some r=>
   obtain⟨u,H1⟩:=r;rw [i] at h;simp only [zak,zaa] at h;subst h;have g:=T.any b trivial;obtain⟨_,cv,p,y⟩:=Ze R g i;have j:∃k,a.tmps.getD b undef=.pointer (some k):=by
    have m:=(vw i).1;unfold ah7 at m;split at m
    ·rename_i hb;rw [hb] at g m;simp only [RV] at g;obtain⟨k,e,_⟩:=g;exact⟨k,e⟩
    ·rename_i hb;rw [hb] at g;simp only [RV] at g;obtain⟨b,o,e,_⟩:=g;exact⟨_,e⟩
    ·cases m
   obtain⟨k,j⟩:=j;refine⟨cv,?_,y⟩;rw [j] at p;simp only [apX,j]
   simpa [Instr.loadAt,Instr.sureAddr,asAddr] using p
def Vr(R:Rel ρ H w)(T:TOn ρ H.gen w (λ_=>True) t a):∀(b:List ResultVar) (xs:List AV),b.mapM (Vq P t H)=some xs->
  ∃cs:List Value,(b.mapM (apX a.tmps)).run P w=.ok cs w/\RVs ρ H.gen w xs cs
 |[],xs,h=>by
  simp at h;subst h;exact⟨[],O,by simp [RVs]⟩
 |r::b,xs,h=>by
  rw [zbw] at h;cases d:Vq P t H r with
  |none=>rw [d] at h;cases h
  |some y=>
   rw [d] at h;cases e:b.mapM (Vq P t H) with
   |none=>rw [e] at h;cases h
   |some g=>
    rw [e] at h;simp only [zcm,za7,zcO,zaa] at h;subst h;obtain⟨cv,i,j⟩:=aiq (P:=P) R T d;obtain⟨cs,k,m⟩:=Vr R T b g e;refine⟨cv::cs,?_,?_⟩
    ·rw [zbw,Sem.run_bind,i];simp only [Result.andThen_ok,Sem.run_bind,k,Sem.run_pure]
    ·simp only [RVs];exact⟨cv,cs,rfl,j,m⟩
def Kq(R:Rel ρ H w)(T:TOn ρ H.gen w (λ_=>True) t a){fn:Func}{v:AV}(h:jG P fn.results.toList t H=some v):
  ∃cv,(results fn a.tmps).run P w=.ok cv w/\RV ρ H.gen w v cv:=by
 unfold jG at h;cases hm:fn.results.toList.mapM (Vq P t H) with
 |none=>rw [hm] at h;cases h
 |some xs=>
  rw [hm] at h;obtain⟨cs,e,b⟩:=Vr (P:=P) R T _ _ hm;have d:(results fn a.tmps).run P w=.ok (if h:cs.toArray.size=1 then cs.toArray[0] else .tuple cs.toArray) w:=by
   rw [Qn,Array.mapM_eq_mapM_toList,map_eq_pure_bind];simp only [Sem.run_bind];rw [e];rfl
  rw [d];refine⟨_,rfl,?_⟩;cases xs with
  |nil=>
   simp only [zaa] at h;subst h;simp only [RVs] at b;subst b;simp [RV,RVs]
  |cons x xs=>
   cases xs with
   |nil=>
    simp only [zaa] at h;subst h;simp only [RVs] at b;obtain⟨y,j,rfl,g,rfl⟩:=b
    simpa using g
   |cons k xs=>
    simp only [zaa] at h;subst h;have i:cs.length≠1:=by have:=dQ b;simp at this;omega
    have:(if h:cs.toArray.size=1 then cs.toArray[0] else .tuple cs.toArray)=.tuple cs.toArray:=by
     rw [dif_neg];simpa using i
    rw [this];simp only [RV];exact⟨_,rfl,by simpa using b⟩
def Zv {args:List AV}{lM:Array Value}{m:Nat}(h:RVs ρ H.gen w args lM.toList):
  TOn ρ H.gen w (λ_=>True) (args++List.replicate (m-args.length) bg) { tmps:=lM++Array.replicate (m-lM.size) undef,defers:=[] }:=by
 have hl:=dQ h;have hl':lM.size=args.length:=by simpa using hl
 refine⟨by simp [hl'],λ(d:Nat) _ hd=>?_⟩;by_cases hlt:d<args.length
 ·have hx:args[d]?=some (args[d]'hlt):=zab hlt;obtain⟨v,hv,h1⟩:=jR h hx;have e1:(args++List.replicate (m-args.length) bg).getD d bg=args[d]'hlt:=by
   simp [List.getD,zaJ hlt,hx]
  have e2:(lM++Array.replicate (m-lM.size) undef).getD d undef=v:=by
   have hv':lM[d]?=some v:=by simpa using hv
   have hlt2:d<lM.size:=V
   rw [zcr,Array.getElem?_append_left hlt2,hv'];rfl
  rw [e1,e2];exact h1
 ·have e1:(args++List.replicate (m-args.length) bg).getD d bg=bg:=by
   simp only [List.getD,za3 (zdQ.1 hlt),zbB];split <;> rfl
  have e2:(lM++Array.replicate (m-lM.size) undef).getD d undef=undef:=by
   rw [zcr,Array.getElem?_append_right V,Array.getElem?_replicate];split <;> rfl
  show RV ρ H.gen w (List.getD _ d bg) (Array.getD _ d undef);rw [e1,e2];exact EZ
def Kr(p:rW P C)(q:kV C)(hm:P.follows .mixedOrders=true):rW P (Ah P C):=by
 intro f k H v H' h ρ w G R b;unfold Ah at h;split at h <;> first|(cases h;done)|skip
 rename_i fn u;split at h <;> first|(cases h;done)|skip
 rename_i c hb;split at h <;> first|(cases h;done)|skip
 rename_i e m H1 g y;cases j:jG P fn.results.toList m H1 with
 |none=>rw [j] at h;cases h
 |some x=>
  rw [j] at h;simp only [zak,zaa,zad] at h;obtain⟨rfl,rfl⟩:=h;refine calls_of_wp u hb ?_;refine CU p q hm c _ _ e m H1 y ρ w _ R (Zv b) _ λa' ρ' w' o z A D=>?_;obtain⟨cv,E,F⟩:=Kq (P:=P) o z j;have d:bodyPost P fn (λe w'=>∃cv ρ',e=.returned cv/\Rel ρ' H1 w'/\RV ρ' H1.gen w' x cv/\Ext ρ H w ρ' H1 w') .ret a' w':=⟨D,cv,E,cv,ρ',rfl,o,F,A⟩
  cases e with
  |normal=>exact d
  |ret=>exact d
  |exit i=>exact absurd rfl (g i)
def XK(P:Program)(L:Pol):Prop:=∀f p,L.adf f=some p->rW P (λg b H=>if g=f then p b H else none)/\∀b H v H',p b H=some (v,H')->Keeps H H'
def TN {L:Pol}(o:XK P L)(k:rW P C)(g:kV C)(hm:P.follows .mixedOrders=true):rW P (CS P L C):=by
 intro f d H v H' h ρ w i R b;unfold CS at h;split at h
 ·rename_i p q;exact(o f p q).1 f d H v H' (by simpa using h) ρ w i R b
 ·split at h
  ·split at h <;> first|(cases h;done)|skip
   rename_i u H1 m;cases j:bV H1 H.next 9 u with
   |none=>rw [j] at h;cases h
   |some K=>
    rw [j] at h;simp only [zak,zaa,zad] at h;obtain⟨rfl,rfl⟩:=h;refine(Kr k g hm f d H.guard u H1 m ρ w i ⟨R.out,R.obj,R.inj,R.gl⟩ b).mono λe w' y=>?_;obtain⟨cv,ρ',rfl,z,A,e⟩:=y;have E:Ext ρ H w ρ' H1 w':=⟨e.next,e.mono,e.same,e.kept,e.range,e.size,e.frame,e.shape,e.os,e.tape,e.output⟩
    obtain⟨D,F,G⟩:=Zu R (Ko g m) z E j A;exact⟨cv,ρ,rfl,D,F,G⟩
  ·exact Kr k g hm f d H v H' h ρ w i R b
def TP {L:Pol}(e:XK P L)(g:kV C):kV (CS P L C):=by
 intro f b H v H' h;unfold CS at h;split at h
 ·rename_i p i;exact(e f p i).2 b H v H' h
 ·split at h
  ·split at h <;> first|(cases h;done)|skip
   rename_i u H1 j;cases d:bV H1 H.next 9 u with
   |none=>rw [d] at h;cases h
   |some k=>
    rw [d] at h;simp only [zak,zaa,zad] at h;rw [<-h.2];exact .refl _
  ·exact Ko g h
end
abbrev Pt:=FuncId × List AV × ah × AV × ah
def Has(C:aF)(L:List Pt):Prop:=∀p∈L,C p.1 p.2.1 p.2.2.1=some (p.2.2.2.1,p.2.2.2.2)
def Has.left {C:aF}{L M:List Pt}(h:Has C (L++M)):Has C L:=λp b=>h p (zcC _ b)
def Has.right {C:aF}{L M:List Pt}(h:Has C (L++M)):Has C M:=λp b=>h p (zc0 _ b)
def Has.append {C:aF}{L M:List Pt}(h:Has C L)(b:Has C M):Has C (L++M):=λp d=>(zaO.1 d).elim (h p) (b p)
def Fin1 {α:Type}(C:aF)(F:aF->Option α):Prop:=∀r,F C=some r->∃L,Has C L/\∀b,Has b L->F b=some r
def Fin1.const {α:Type}{C:aF}(x:Option α):Fin1 C λ_=>x:=λr h=>⟨[],λ_ h=>by simp at h,λ_ _=>h⟩
def Fin1.point {C:aF}{f:FuncId}{args:List AV}{H:ah}:Fin1 C λC=>C f args H:=λr h=>
 ⟨[(f,args,H,r.1,r.2)],λp b=>by simp at b;subst b;exact h,λC' hc=>hc (f,args,H,r.1,r.2) O⟩
def Fin1.bind {α β:Type}{C:aF}{F:aF->Option α}{G:α->aF->Option β}(hF:Fin1 C F)(hG:∀a,Fin1 C (G a)):Fin1 C λC=>(F C).bind λa=>G a C:=by
 intro r h;cases hf:F C with
 |none=>simp [hf] at h
 |some a=>
  simp only [hf,za7] at h;obtain⟨L,l1,l2⟩:=hF a hf;obtain⟨M,m1,m2⟩:=hG a r h;exact⟨L++M,l1.append m1,λC' hc=>by simp only [l2 C' hc.left,za7];exact m2 C' hc.right⟩
def Fin1.of_eq {α:Type}{C:aF}{F G:aF->Option α}(h:Fin1 C G)(e:∀C,F C=G C):Fin1 C F:=by
 rw [show F=G from funext e];exact h
section
variable {P:Program}{C:aF}{t:gB}{H:ah}{o:Oper}
def Zw {x:AV}{args:List AV}:Fin1 C λC=>tJ P C x args H:=by
 unfold tJ;split
 ·split
  ·exact Fin1.point
  ·exact Fin1.const _
 ·split
  ·exact Fin1.point
  ·exact Fin1.const _
 ·exact Fin1.const _
def TQ:Fin1 C λC=>opA P C t o H:=by
 obtain⟨dst,op,b,d,after,guard⟩:=o;cases op
 case makeMap ty r=>cases r <;> exact Fin1.const _
 case call c=>
  simp only [opA,wX];split
  ·exact Zw
  ·exact Fin1.const _
  ·exact Fin1.const _
 all_goals exact Fin1.const _
def Vs {ops:List Oper}{lo:Bool}:Fin1 C λC=>nM P C ops lo o t H:=by
 cases hw:uX ops t o with
 |none=>exact(Fin1.const none).of_eq λC=>by simp [nM,hw]
 |some b=>
  cases b with
  |false=>exact(Fin1.const (some (bg,H))).of_eq λC=>by simp [nM,hw]
  |true=>
   cases lo with
   |false=>exact(TQ (P:=P) (o:=o) (t:=t) (H:=H)).of_eq λC=>by simp [nM,hw]
   |true=>
    refine Fin1.of_eq (G:=λC=>(opA P C t o H.guard).bind λr=>some (r.1,{ r.2 with base:=H.base })) (Fin1.bind TQ λ_=>Fin1.const _) λC=>?_;simp only [nM,hw,if_true,opG];cases opA P C t o H.guard <;> rfl
def Vt {ops:List Oper}:∀(l:List Oper) (t:gB) (H:ah),Fin1 C λC=>P5 P C ops l t H
 |[],t,H=>Fin1.const _
 |o::l,t,H=>by
  refine Fin1.of_eq (G:=λC=>(nM P C ops false o t H).bind λr=>P5 P C ops l (wV t o.dst r.1) r.2) (Fin1.bind Vs λr=>Vt l _ _) λC=>?_;rw [AL];cases nM P C ops false o t H <;> rfl
def Ee {ops:List Oper}:∀(l:List Nat) (t:gB) (H:ah),Fin1 C λC=>iV P C ops l t H
 |[],t,H=>Fin1.const _
 |i::l,t,H=>by
  cases b:ops[i]? with
  |none=>exact(Fin1.const none).of_eq λC=>by simp [iV,b]
  |some o=>
   refine Fin1.of_eq (G:=λC=>(opA P C t o H).bind λr=>iV P C ops l (wV t o.dst r.1) r.2) (Fin1.bind TQ λr=>Ee l _ _) λC=>?_;simp only [iV,b];cases opA P C t o H <;> rfl
def G8 {ops:List Oper}:∀(l:List Nat) (t:gB) (H:ah) (r:gB × ah),fV P C ops l t H=some r->
  ∃L,Has C L/\∀C',Has C' L->∀k,fV P C' ops (l.take k) t H=fV P C ops (l.take k) t H
 |[],t,H,r,h=>⟨[],λ_ h=>by simp at h,λ_ _ k=>by simp [fV]⟩
 |i::l,t,H,r,h=>by
  simp only [fV] at h;cases ho:ops[i]? with
  |none=>rw [ho] at h;cases h
  |some o=>
   rw [ho] at h;simp only at h;cases hs:nM P C ops (loose ops i && nI o.op) o t H with
   |none=>rw [hs] at h;cases h
   |some q=>
    rw [hs] at h;simp only at h;obtain⟨L,l1,l2⟩:=Vs (P:=P) (C:=C) (t:=t) (H:=H) (o:=o) (ops:=ops) (lo:=loose ops i && nI o.op) q hs;obtain⟨M,m1,m2⟩:=G8 l _ _ r h;refine⟨L++M,l1.append m1,λC' hc k=>?_⟩;cases k with
    |zero=>rfl
    |succ k=>
     have e:=l2 C' hc.left;simp only [List.take_succ_cons,fV,ho,hs];simp only at e;rw [e];exact m2 C' hc.right k
def Zx {ops:List Oper}{p:Nat}(b:p<=ops.length):∃k,(List.range p).filter (λi=>!cst ops i)=(nR ops).take k:=by
 have:List.range ops.length=List.range p++(List.range (ops.length-p)).map (p+ ·):=by
  rw [<-List.range_add];congr 1;omega
 refine⟨((List.range p).filter (λi=>!cst ops i)).length,?_⟩;unfold nR;rw [this,zcq,List.take_left]
def TS {ops:List Oper}{p:Nat × Nat}(h:p∈mJ ops):p.1<ops.length/\p.2<ops.length:=by
 unfold mJ at h;obtain⟨j,b,h⟩:=za0.1 h;obtain⟨e,d,rfl⟩:=zaI.1 h;exact⟨zaW.1 b,zaW.1 (zbp.1 d).1⟩
def Zy {ops:List Oper}:Fin1 C λC=>zC P C ops t H:=by
 intro r h;simp only at h;unfold zC at h;split at h <;> first|(cases h;done)|skip
 rename_i hok;split at h <;> first|(cases h;done)|skip
 rename_i t0 H0 h0;obtain⟨L,l1,l2⟩:=Ee (P:=P) (C:=C) (ops:=ops) (pU ops) t H (t0,H0) h0;have hrun:fV P C ops (nR ops) t0 H0=some r:=by
  split at h
  ·exact h
  ·split at h <;> first|(cases h;done)|skip
   exact h
 obtain⟨M,m1,m2⟩:=G8 (P:=P) (C:=C) (ops:=ops) (nR ops) t0 H0 r hrun;have hall:∀C',Has C' M->fV P C' ops (nR ops) t0 H0=some r:=λC' hc=>by
  have:=m2 C' hc (nR ops).length;rw [List.take_length] at this;rw [this];exact hrun
 have hst:∀C',Has C' M->∀p,p<=ops.length->Gv P C' ops p t0 H0=Gv P C ops p t0 H0:=λC' hc p hp=>by
  obtain⟨k,hk⟩:=Zx hp;unfold Gv;rw [hk];exact m2 C' hc k
 refine⟨L++M,l1.append m1,λC' hc=>?_⟩;have e0:=l2 C' hc.left;simp only at e0 ⊢;unfold zC;rw [if_pos hok,e0];simp only;split at h
 ·exact hall C' hc.right
 ·rename_i ps hps he;split at h <;> first|(cases h;done)|skip
  rename_i ha;cases hq:mJ ops with
  |nil=>exact hall C' hc.right
  |cons q qs=>
   rw [if_pos]
   ·exact hall C' hc.right
   ·intro p hp;rw [<-hq] at hp;obtain⟨b1,b2⟩:=TS hp;have hap:=ha p hp;unfold agree at hap ⊢;split
    ·rename_i hcp;rw [if_pos hcp] at hap;intro te He te' He' q2 q3;rw [hst C' hc.right _ V] at q2 q3;exact hap te He te' He' q2 q3
    ·rename_i hcp;rw [if_neg hcp] at hap;intro tj Hj te He te' He' q1 q2 q3;rw [hst C' hc.right _ V] at q1 q2 q3;exact hap tj Hj te He te' He' q1 q2 q3
abbrev aqs:=aF->Run
def air(C:aF)(F:aqs):Prop:=∀t H,Fin1 C λC=>F C t H
def Vu {F G:aqs}(b:air C F)(d:air C G):air C λC t H=>tN (F C t H) (G C):=by
 intro t H;refine Fin1.of_eq (G:=λC=>(F C t H).bind λr=>(match r with|(.normal,t,H)=>G C t H|r=>some r)) (Fin1.bind (b t H) λr=>?_) λC=>?_
 ·obtain⟨e,t,H⟩:=r;cases e with
  |normal=>exact d t H
  |_=>exact Fin1.const _
 ·show tN (F C t H) (G C)=_;unfold tN;cases F C t H with
  |none=>rfl
  |some r=>obtain⟨e,t,H⟩:=r;cases e <;> rfl
def adG {F:aqs}(hF:air C F):air C λC=>XF (F C):=by
 have key:∀n,air C λC=>CQ (F C) n:=by
  intro n
  induction n with
  |zero=>exact λt H=>Fin1.const none
  |succ n ih=>exact Vu hF ih
 intro t H r h;obtain⟨n,hn⟩:=lX h;obtain⟨L,l1,l2⟩:=key n t H r hn;exact⟨L,l1,λC' hc=>xB (λn r=>J6 n t H r) (l2 C' hc)⟩
def adH:∀c:Code,air C λC=>fH P C c:=by
 intro c
 induction c with
 |skip=>exact λt H=>Fin1.const _
 |region id ops draw=>
  intro t H;cases draw with
  |true=>
   refine Fin1.of_eq (G:=λC=>(zC P C ops.toList t H).bind λr=>some (.normal,r.1,r.2)) (Fin1.bind Zy λ_=>Fin1.const _) λC=>?_;simp only [fH,if_true];cases zC P C ops.toList t H <;> rfl
  |false=>
   refine Fin1.of_eq (G:=λC=>(P5 P C ops.toList ops.toList t H).bind λr=>some (.normal,r.1,r.2)) (Fin1.bind (Vt _ _ _) λ_=>Fin1.const _) λC=>?_;simp only [fH,zai,if_false];cases P5 P C ops.toList ops.toList t H <;> rfl
 |seq x y b d=>exact Vu b d
 |cond c x y b d=>
  intro t H;simp only [fH];split
  ·exact b t H
  ·exact d t H
  ·exact Fin1.const _
 |block id x e=>
  intro t H;refine Fin1.of_eq (G:=λC=>(fH P C x t H).bind λr=>Ed id (some r)) (Fin1.bind (e t H) λ_=>Fin1.const _) λC=>?_;simp only [fH];cases fH P C x t H <;> rfl
 |loop x e=>exact adG e
 |exit id=>exact λt H=>Fin1.const _
 |ret=>exact λt H=>Fin1.const _
 |_=>exact λt H=>Fin1.const _
def Vw {f:FuncId}{args:List AV}:Fin1 C λC=>Ah P C f args H:=by
 cases b:P.funcs[f]? with
 |none=>exact(Fin1.const none).of_eq λC=>by simp [Ah,b]
 |some fn=>
  cases hb:fn.body with
  |none=>exact(Fin1.const none).of_eq λC=>by simp [Ah,b,hb]
  |some c=>
   refine Fin1.of_eq (G:=λC=>(fH P C c (args++List.replicate (fn.ntmps-args.length) bg) H).bind λr=>
    (match r with
     |(.exit _,_,_)=>none
     |(_,t,H')=>(jG P fn.results.toList t H').map λv=>(v,H'))) (Fin1.bind (adH c _ _) λ_=>Fin1.const _) λC=>?_
   simp only [Ah,b,hb];cases fH P C c (args++List.replicate (fn.ntmps-args.length) bg) H with
   |none=>rfl
   |some r=>obtain⟨e,t,H⟩:=r;cases e <;> rfl
def Qo {L:Pol}{f:FuncId}{args:List AV}:Fin1 C λC=>CS P L C f args H:=by
 cases hp:L.adf f with
 |some p=>exact(Fin1.const (p args H)).of_eq λC=>by simp [CS,hp]
 |none=>
  cases hq:L.pure f with
  |false=>exact(Vw (P:=P) (f:=f) (args:=args) (H:=H)).of_eq λC=>by simp [CS,hp,hq]
  |true=>
   refine Fin1.of_eq (G:=λC=>(Ah P C f args H.guard).bind λr=>(bV r.2 H.next 9 r.1).map λv'=>(v',H)) (Fin1.bind Vw λ_=>Fin1.const _) λC=>?_;simp only [CS,hp,hq,if_true];cases Ah P C f args H.guard <;> rfl
end
def EM(P:Program)(L:Pol):Nat->aF
 |0=>λ_ _ _=>none
 |n+1=>CS P L (EM P L n)
def callω(P:Program)(L:Pol):aF:=λf b H=>aip λn=>EM P L n f b H
section
variable {P:Program}{L:Pol}
def CV:∀(n:Nat) (f:FuncId) (args:List AV) (H:ah) (r:AV × ah),EM P L n f args H=some r->EM P L (n+1) f args H=some r:=by
 intro n
 induction n with
 |zero=>intro f args H r h;cases h
 |succ n b=>
  intro f args H r h;obtain⟨M,d,e⟩:=Qo (P:=P) (L:=L) (C:=EM P L n) (f:=f) (args:=args) (H:=H) r h;exact e _ λp g=>b _ _ _ _ (d p g)
def akX:∀M:List Pt,Has (callω P L) M->∃n,Has (EM P L n) M
 |[],_=>⟨0,λ_ h=>by simp at h⟩
 |p::M,h=>by
  obtain⟨n,d⟩:=lX (h p O);obtain⟨m,hm⟩:=akX M λq b=>h q (by simp [b]);refine⟨n+m,λq b=>?_⟩;rcases zaj.1 b with rfl|b
  ·exact MW (g:=λn=>EM P L n q.1 q.2.1 q.2.2.1) (λn r=>CV n _ _ _ r) d V
  ·exact MW (g:=λn=>EM P L n q.1 q.2.1 q.2.2.1) (λn r=>CV n _ _ _ r) (hm q b) V
def callω_of {f:FuncId}{args:List AV}{H:ah}{r:AV × ah}(h:CS P L (callω P L) f args H=some r):callω P L f args H=some r:=by
 obtain⟨M,b,d⟩:=Qo (P:=P) (L:=L) (C:=callω P L) (f:=f) (args:=args) (H:=H) r h;obtain⟨n,e⟩:=akX M b;have:EM P L (n+1) f args H=some r:=d _ e;exact xB (g:=λn=>EM P L n f args H) (λn r=>CV n f args H r) this
def callω_ok(g:XK P L)(hm:P.follows .mixedOrders=true):rW P (callω P L)/\kV (callω P L):=by
 have key:∀n,rW P (EM P L n)/\kV (EM P L n):=by
  intro n
  induction n with
  |zero=>exact⟨λf b H v H' h=>(by cases h),λf b H v H' h=>(by cases h)⟩
  |succ n d=>exact⟨TN g d.1 d.2 hm,TP g d.2⟩
 refine⟨λf b H v H' h=>?_,λf b H v H' h=>?_⟩
 ·obtain⟨n,e⟩:=lX h;exact(key n).1 f b H v H' e
 ·obtain⟨n,e⟩:=lX h;exact(key n).2 f b H v H' e
end
def adI(c:AV)(x y:Res):Res:=
 match c with
 |.s (.bool true)=>x
 |.s (.bool false)=>y
 |_=>none
def bnd {α β:Type}(x:Option (α × ah))(k:α->ah->Option β):Option β:=
 match x with
 |some (v,H)=>k v H
 |none=>none
def Vx {α β:Type}{v:α}{H:ah}{k:α->ah->Option β}:bnd (some (v,H)) k=k v H:=rfl
def gd {β:Type}(b:Bool)(x:Option (AV × ah))(H:ah)(k:AV->ah->Option β):Option β:=
 if b=true then bnd x k else k bg H
def okN(r:Option (gB × ah)):Res:=
 match r with
 |some (t,H)=>some (.normal,t,H)
 |none=>none
section
variable {P:Program}{C:aF}{t:gB}{H H':ah}
def adJ {a b:Code}:fH P C (.seq a b) t H=tN (fH P C a t H) (fH P C b):=rfl
def Zz {c:Operand}{a b:Code}:fH P C (.cond c a b) t H=adI (dU t c) (fH P C a t H) (fH P C b t H):=by
 simp only [fH,adI]
 try rfl
def XL {id:Nat}{a:Code}:fH P C (.block id a) t H=Ed id (fH P C a t H):=rfl
def TT {id:Nat}{ops:Array Oper}:fH P C (.region id ops false) t H=okN (P5 P C ops.toList ops.toList t H):=by
 simp only [fH,okN,zai,if_false]
 try rfl
def ZA {id:Nat}{ops:Array Oper}:fH P C (.region id ops true) t H=okN (zC P C ops.toList t H):=by
 simp only [fH,okN,if_true]
 try rfl
def Vy(ops:List Oper)(t:gB)(j:Nat):Option AV:=(ops[j]?.bind (·.dst)).bind λd=>t[d]?
def Kt(g:Option AV)(d:Bool):Option Bool:=
 match g with
 |some (.s (.bool b))=>some (b==d)
 |some (.tup [])=>some false
 |_=>none
def gdA {β:Type}(g:Option AV)(d:Bool)(x:Option (AV × ah))(H:ah)(k:AV->ah->Option β):Option β:=
 match Kt g d with
 |some b=>gd b x H k
 |none=>none
def Qp {β:Type}{b:Bool}{x:Option (AV × ah)}{k:AV->ah->Option β}:gdA (some bg) b x H k=k bg H:=rfl
def Qq {ops:List Oper}{o:Oper}{j:Nat}{b:Bool}(h:o.guard=some (j,b)):uX ops t o=Kt (Vy ops t j) b:=by
 unfold uX Vy Kt;rw [h];simp only;cases e:ops[j]? with
 |none=>rfl
 |some p=>
  simp only [za7];cases hd:p.dst with
  |none=>rfl
  |some d=>rfl
def TU {t:gB}{i:Nat}{v:AV}(h:i<t.length):(t.set i v).getD i bg=v:=by
 simp [List.getD,h]
def getD_set_ne {t:gB}{i j:Nat}{v:AV}(h:i≠j):(t.set i v).getD j bg=t.getD j bg:=by
 simp [List.getD,h]
def MZ {t:gB}{i:Nat}(h:i<t.length):t[i]?=some (t.getD i bg):=by
 simp [List.getD,h]
def Vz {β:Type}{v:AV}{k:AV->ah->Option β}:bnd (fU (some v) H) k=k v H:=rfl
def Qr {v:AV}:fU (some v) H=some (v,H):=rfl
def aqt(P:Program)(b:List ResultVar)(r:Res):Option (AV × ah):=
 match r with
 |some (.exit _,_,_)=>none
 |some (_,t,H')=>(jG P b t H').map λv=>(v,H')
 |none=>none
def ais {f:FuncId}{fn:Func}{c:Code}{args:List AV}(b:P.funcs[f]?=some fn)(hb:fn.body=some c):
  Ah P C f args H=aqt P fn.results.toList (fH P C c (args++List.replicate (fn.ntmps-args.length) bg) H):=by
 unfold Ah aqt;simp only [b,hb]
 try rfl
def afP {L:Pol}{f:FuncId}{args:List AV}{r:AV × ah}(b:L.adf f=none)(d:L.pure f=false)(h:Ah P (callω P L) f args H=some r):callω P L f args H=some r:=
 callω_of (by simp only [CS,b,d,zai,if_false];exact h)
def ait {L:Pol}{f:FuncId}{args:List AV}{v v':AV}{H1:ah}(b:L.adf f=none)(d:L.pure f=true)(h:Ah P (callω P L) f args H.guard=some (v,H1))(e:bV H1 H.next 9 v=some v'):
  callω P L f args H=some (v',H):=
 callω_of (by simp only [CS,b,d,if_true,h,e,zak])
def G9 {L:Pol}{f:FuncId}{args:List AV}{r:AV × ah}{p:List AV->AM AV}(b:L.adf f=some p)(h:p args H=some r):callω P L f args H=some r:=
 callω_of (by simp only [CS,b];exact h)
def adK {f:FuncId}{a c args:List AV}(h:nO P f=true):tJ P C (.fn (.func f) a c) args H=C f (a++args++c) H:=by
 simp only [tJ,h,if_true]
end
def dR {α:Type}{P:Program}{a:α}:jd P (Pure.pure a)=some a:=rfl
section
variable {P:Program}{t:TypeId}{k:IntKind}{a b:Int}
def ZB:qH P .lss t (.s (.int k a)) (.s (.int k b))=some (.s (.bool (decide (a<b)))):=by
 simp [qH,AV.val?,eqGuard,binOp,Op.intCmp,dR]
def ZC:qH P .leq t (.s (.int k a)) (.s (.int k b))=some (.s (.bool (decide (a<=b)))):=by
 simp [qH,AV.val?,eqGuard,binOp,Op.intCmp,dR]
def TV:qH P .gtr t (.s (.int k a)) (.s (.int k b))=some (.s (.bool (decide (b<a)))):=by
 simp [qH,AV.val?,eqGuard,binOp,Op.intCmp,dR]
def Nh:qH P .geq t (.s (.int k a)) (.s (.int k b))=some (.s (.bool (decide (b<=a)))):=by
 simp [qH,AV.val?,eqGuard,binOp,Op.intCmp,dR]
def ZE:qH P .eql t (.s (.int k a)) (.s (.int k b))=some (.s (.bool (decide (a=b)))):=by
 simp [qH,AV.val?,eqGuard,binOp,Op.intCmp,dR];by_cases h:a=b <;> simp [h]
def ZF:qH P .neq t (.s (.int k a)) (.s (.int k b))=some (.s (.bool (!decide (a=b)))):=by
 simp [qH,AV.val?,eqGuard,binOp,Op.intCmp,dR];by_cases h:a=b <;> simp [h]
def cZ:qH P .add t (.s (.int k a)) (.s (.int k b))=some (.s (.int k (k.wrap (a+b)))):=by
 simp [qH,AV.val?,eqGuard,binOp,Op.intArith,dR]
def kH:qH P .sub t (.s (.int k a)) (.s (.int k b))=some (.s (.int k (k.wrap (a-b)))):=by
 simp [qH,AV.val?,eqGuard,binOp,Op.intArith,dR]
def je:qH P .mul t (.s (.int k a)) (.s (.int k b))=some (.s (.int k (k.wrap (a*b)))):=by
 simp [qH,AV.val?,eqGuard,binOp,Op.intArith,dR]
def aiu(h:b≠0):qH P .quo t (.s (.int k a)) (.s (.int k b))=some (.s (.int k (k.wrap (a.tdiv b)))):=by
 simp [qH,AV.val?,eqGuard,binOp,Op.intDiv,dR,h]
def rC(h:b≠0):qH P .rem t (.s (.int k a)) (.s (.int k b))=some (.s (.int k (a.tmod b))):=by
 simp [qH,AV.val?,eqGuard,binOp,Op.intDiv,dR,h]
def ZG {d:Array TypeId}:kG P false d t [.s (.int k a),.s (.int k b)]=some (.s (.int k (min a b))):=by
 simp [kG,vals?,AV.val?,Builtin.min_,Builtin.min2,dR,Int.min_def];split <;> split <;> first|rfl|omega
def Nk {d:Array TypeId}:kG P true d t [.s (.int k a),.s (.int k b)]=some (.s (.int k (max a b))):=by
 simp [kG,vals?,AV.val?,Builtin.max_,Builtin.max2,dR,Int.max_def];split <;> split <;> first|rfl|omega
def VA {b:Bool}:unA P .not (.s (.bool b))=some (.s (.bool (!b))):=by
 simp [unA,AV.val?,Op.unary,dR]
def akY(b:-9223372036854775808<=a)(d:a<=9223372036854775807):IntKind.wrap .i64 a=a:=by
 simp only [IntKind.wrap,IntKind.bits,IntKind.signed];simp;omega
end
def au(x:AV)(o:Nat):Option AV:=
 match x with
 |.ref r g off=>some (.ref r g (off+o))
 |.ip cells=>some (.ip (cells.drop o))
 |_=>none
def sH {r g off o:Nat}:au (.ref r g off) o=some (.ref r g (off+o)):=rfl
def zK {cells:List AV}{o:Nat}:au (.ip cells) o=some (.ip (cells.drop o)):=rfl
def VB {t:TypeId}{v:AV}{H:ah}(h:v.cells.all AV.aP=true)(b:t<1000000000):gV t v H=some (.ref H.next 0 0,H.new (.blk 0 t v.cells)):=by
 unfold gV;rw [if_pos ⟨h,b⟩]
def fA {l:List AV}:(AV.agg l).cells=l:=rfl
def Qs {k:IntKind}{n:Int}:(AV.s (.int k n)).cells=[.s (.int k n)]:=rfl
def Ku {b:Bool}:(AV.s (.bool b)).cells=[.s (.bool b)]:=rfl
def iP {k:IntKind}{n:Int}:(AV.s (.int k n)).aP=true:=rfl
def kW {b:Bool}:(AV.s (.bool b)).aP=true:=rfl
def Kv {r g off:Nat}:(AV.ref r g off).aP=true:=rfl
def Kw {a b:Nat}:(AV.s (.slice none a b)).aP=true:=rfl
def ZH {r:Nat}:(AV.mp r).aP=true:=rfl
section
variable {H:ah}{r r':Nat}{o:gu}
def jA:(H.new o).get r=if r=H.next then o else H.get r:=rfl
def dV:(H.put r' o).get r=if r=r' then o else H.get r:=rfl
def Fa:(H.new o).next=H.next+1:=rfl
def adL:(H.put r o).base=H.base:=rfl
end
section
variable (P:Program)(C:aF)(ops:List Oper)
def AO:List Oper->List Bool->gB->ah->Option (gB × ah)
 |o::os,true::b,t,H=>bnd (opA P C t o H) λv H=>AO os b (wV t o.dst v) H
 |_::os,false::b,t,H=>AO os b t H
 |[],[],t,H=>some (t,H)
 |_,_,_,_=>none
def ZI:List (Option Bool):=(List.range ops.length).map λi=>if cst ops i=true then none else some (loose ops i && nI (qZ ops i))
def Hl:List Bool:=(List.range ops.length).map (cst ops)
end
section
variable {P:Program}{C:aF}{ops:List Oper}
def Qu:∀(l pre:List Oper) (t:gB) (H:ah),pre++l=ops->
  iV P C ops ((List.range' pre.length l.length).filter (cst ops)) t H=AO P C l ((List.range' pre.length l.length).map (cst ops)) t H
 |[],pre,t,H,_=>rfl
 |o::l,pre,t,H,h=>by
  have d:ops[pre.length]?=some o:=by rw [<-h];simp
  have b:=λt H=>Qu l (pre++[o]) t H (by simpa using h);simp only [zaq,zal,zao] at b;rw [zal,zc5,zax,zbX];cases hc:cst ops pre.length with
  |false=>
   simp only [zai,if_false,AO];exact b t H
  |true=>
   simp only [if_true,iV,d,AO];cases e:opA P C t o H with
   |none=>rfl
   |some r=>exact b _ _
def unG(H:ah)(r:Option (AV × ah)):Option (AV × ah):=
 match r with
 |some (v,H')=>some (v,{ H' with base:=H.base })
 |none=>none
def VD {H:ah}{v:AV}:unG H (some (v,H.guard))=some (v,H):=rfl
end
def nx1(n:Nat):(n=n+1)=False:=eq_false V
def ny1(n:Nat):(n+1=n)=False:=eq_false V
def nx2(n:Nat):(n=n+1+1)=False:=eq_false V
def ny2(n:Nat):(n+1+1=n)=False:=eq_false V
def nx3(n:Nat):(n=n+1+1+1)=False:=eq_false V
def ny3(n:Nat):(n+1+1+1=n)=False:=eq_false V
structure Ann where
 live:List (Nat × List Nat)
 draw:List (Nat × List (Option Bool))
 pairs:List (Nat × List (Nat × Nat))
def lC {α:Type}(d:α):List (Nat × α)->Nat->α
 |[],_=>d
 |(k,v)::l,n=>bif Nat.beq k n then v else lC d l n
def jZ:Code->Nat
 |.region id _ _=>id+1
 |.seq a b=>match jZ a with
  |0=>jZ b
  |n+1=>n+1
 |.cond _ a b=>match jZ a with
  |0=>jZ b
  |n+1=>n+1
 |.block _ a=>jZ a
 |.loop a=>jZ a
 |_=>0
def bo {α β:Type}(x:Option α)(k:α->Option β):Option β:=
 match x with
 |some v=>k v
 |none=>none
def aX {β:Type}(c:AV)(x y:Option β):Option β:=
 match c with
 |.s (.bool true)=>x
 |.s (.bool false)=>y
 |_=>none
def Ho {β:Type}(B:List AV->ah->(List AV->ah->Option β)->Option β):Nat->List AV->ah->Option β
 |0,_,_=>none
 |n+1,s,H=>B s H (Ho B n)
def ZJ {β:Type}(B:List AV->ah->(List AV->ah->Option β)->Option β):List AV->ah->Option β:=λs H=>aip λn=>Ho B n s H
abbrev Env:=List (Nat × AV)
def PK:Env->Nat->AV
 |[],_=>bg
 |(d,v)::e,i=>bif Nat.beq d i then v else PK e i
def vM(n:Nat)(e:Env):Operand->AV
 |.tmp i=>bif Nat.blt i n then PK e i else bg
 |.const v=>.s v
 |.global g=>.s (.pointer (some ⟨g,0,none⟩))
 |.func f=>.fn (.func f) [] []
def afQ(e:Env)(dst:Option Tmp)(v:AV):Env:=
 match dst with
 |some d=>(d,v)::e
 |none=>e
def Qv:List AV->Nat->Env
 |[],_=>[]
 |a::l,i=>(i,a)::Qv l (i+1)
def yS(M:List Nat)(e:Env):List AV:=match M with
 |[]=>[]
 |i::M=>PK e i::yS M e
def emb(s:List AV):List Nat->Nat->Env
 |[],_=>[]
 |m::M,j=>(m,s.getD j bg)::emb s M (j+1)
section
variable {β:Type}(P:Program)(C:aF)
def aiv(ev:Operand->AV)(c:Call)(type:TypeId):AM AV:=λH=>
 match c.callee with
 |.value f=>tJ P C (ev f) (c.args.toList.map ev) H
 |.builtin b=>iU P b c.argTypes type (c.args.toList.map ev) H
 |.invoke _ _=>none
def opE(ev:Operand->AV)(o:Oper):AM AV:=
 match o.op with
 |.move x=>fU (some (ev x))
 |.assign x=>fU (some (ev x))
 |.pick c a b=>fU (cO (ev c) (ev a) (ev b))
 |.alloc e=>JV P e
 |.box e x=>gV e (ev x)
 |.build d g=>fU (gy P d (g.toList.map λp=>(p.1,ev p.2)))
 |.buildSlice d n g=>dK P d n (g.toList.map λp=>(p.1,ev p.2))
 |.load d x=>Tf P d (ev x)
 |.store d x v=>PY P d (ev x) (ev v)
 |.nilCheck x=>fU (aA (ev x))
 |.binOp op d x y _=>fU (akH P op d y (ev x) (ev y))
 |.unOp op _ x=>fU (unA P op (ev x))
 |.convert src dst x=>kM P src dst (ev x)
 |.makeFunc f a c=>fU (some (.fn f (a.toList.map ev) (c.toList.map ev)))
 |.makeMap d none=>yh P d
 |.makeSlice d l c=>qP P d (ev l) (ev c)
 |.slice d x lo hi h=>fU (PX P d (ev x) (lo.map ev) (hi.map ev) (h.map ev))
 |.fieldAddr d x i=>fU (uj P d (ev x) i)
 |.field d x i=>fU (PV P d (ev x) i)
 |.indexAddr d x i=>um P d (ev x) (ev i)
 |.index d x i=>fU (PW P d (ev x) (ev i))
 |.lookup d x i ok=>Ti P d (ev x) (ev i) ok
 |.mapUpdate d m k v=>uo P d (ev m) (ev k) (ev v)
 |.extract x i=>fU (aJ (ev x) i)
 |.call c=>aiv P C ev c o.type
 |_=>λ_=>none
def Ky(ev:Operand->AV):Op->Option Nat
 |.load _ x=>bT (ev x)
 |.lookup _ x _ _=>bT (ev x)
 |.indexAddr _ x _=>bT (ev x)
 |.convert _ _ x=>bT (ev x)
 |.call c=>match c.args.toList with
  |[x]=>bT (ev x)
  |_=>none
 |_=>none
def opK(ev:Operand->AV)(o:Oper)(H:ah)(k:AV->ah->Option β):Option β:=
 match o.op with
 |.move x=>k (ev x) H
 |.assign x=>k (ev x) H
 |.pick c a b=>bo (cO (ev c) (ev a) (ev b)) λv=>k v H
 |.build d e=>bo (gy P d (e.toList.map λp=>(p.1,ev p.2))) λv=>k v H
 |.nilCheck x=>bo (aA (ev x)) λv=>k v H
 |.binOp op d x y _=>bo (akH P op d y (ev x) (ev y)) λv=>k v H
 |.unOp op _ x=>bo (unA P op (ev x)) λv=>k v H
 |.makeFunc f a c=>k (.fn f (a.toList.map (ev)) (c.toList.map (ev))) H
 |.slice d x lo hi g=>bo (PX P d (ev x) (lo.map (ev)) (hi.map (ev)) (g.map (ev))) λv=>k v H
 |.fieldAddr d x i=>bo (uj P d (ev x) i) λv=>k v H
 |.field d x i=>bo (PV P d (ev x) i) λv=>k v H
 |.index d x i=>bo (PW P d (ev x) (ev i)) λv=>k v H
 |.extract x i=>bo (aJ (ev x) i) λv=>k v H
 |_=>bnd (opE P C ev o H) k
def Qw(n:Nat)(ops:List Oper)(e:Env)(j:Nat):Option AV:=
 match ops[j]? with
 |some p=>match p.dst with
  |some d=>bif Nat.blt d n then some (PK e d) else none
  |none=>none
 |none=>none
def XM(n:Nat)(ops:List Oper)(lo:Bool)(o:Oper)(t:Env)(H:ah)(k:AV->ah->Option β):Option β:=
 match o.guard with
 |none=>match lo with
  |true=>bnd (unG H (opE P C (vM n t) o H.guard)) k
  |false=>opK P C (vM n t) o H k
 |some (j,b)=>match lo with
  |true=>gdA (Qw n ops t j) b (unG H (opE P C (vM n t) o H.guard)) H k
  |false=>gdA (Qw n ops t j) b (opE P C (vM n t) o H) H k
def akZ(n:Nat)(ops:List Oper):List Oper->Env->ah->(Env->ah->Option β)->Option β
 |[],t,H,k=>k t H
 |o::rest,t,H,k=>XM P C n ops false o t H λv H=>akZ n ops rest (afQ t o.dst v) H k
def KA(n:Nat):List Oper->List (Option Bool)->Env->ah->(Env->ah->Option β)->Option β
 |o::os,none::b,t,H,k=>bnd (opE P C (vM n t) o H) λv H=>KA n os b (afQ t o.dst v) H k
 |_::os,some _::b,t,H,k=>KA n os b t H k
 |[],[],t,H,k=>k t H
 |_,_,_,_,_=>none
abbrev Log:=List (Nat × Option Nat × ah × ah)
def EN:Log->Nat->Option (Option Nat × ah × ah)
 |[],_=>none
 |(i,x)::l,n=>bif Nat.beq i n then some x else EN l n
open Classical in
def ck(w:Option Nat)(H H':ah)(k:Option β):Option β:=if∀r,w=some r->H'.get r=H.get r then k else none
open Classical in
def ckR(s b:Nat)(H H':ah)(k:Option β):Option β:=if∀r,s<=r->r<b->H'.get r=H.get r then k else none
def ckL(ops:List Oper)(s d:Nat)(b:Log):List (Nat × Nat)->Option β->Option β
 |[],k=>k
 |(j,e)::g,k=>match cst ops j with
  |true=>match EN b e with
   |some (_,H,H')=>ckR s d H H' (ckL ops s d b g k)
   |none=>none
  |false=>match EN b j,EN b e with
   |some (w,_,_),some (_,H,H')=>ck w H H' (ckL ops s d b g k)
   |_,_=>none
def JE(n:Nat)(ops:List Oper)(s d:Nat)(ps:List (Nat × Nat)):List Oper->List (Option Bool)->Nat->Env->ah->Log->(Env->ah->Option β)->Option β
 |o::os,some lo::e,i,t,H,b,k=>XM P C n ops lo o t H λv H'=>JE n ops s d ps os e (i+1) (afQ t o.dst v) H' ((i,Ky (vM n t) o.op,H,H')::b) k
 |_::os,none::e,i,t,H,b,k=>JE n ops s d ps os e (i+1) t H b k
 |[],[],_,t,H,b,k=>ckL ops s d b ps (k t H)
 |_,_,_,_,_,_,_=>none
def lD(A:Ann)(n:Nat):Code->Env->ah->(Env->ah->Option β)->(Nat->Env->ah->Option β)->(Env->ah->Option β)->Option β
 |.skip=>λt H kn _ _=>kn t H
 |.region id ops d=>λt H kn _ _=>
  match d with
  |true=>KA P C n ops.toList (lC [] A.draw id) t H λt H0=>JE P C n ops.toList H.next H0.next (lC [] A.pairs id) ops.toList (lC [] A.draw id) 0 t H0 [] kn
  |false=>akZ P C n ops.toList ops.toList t H kn
 |.seq a b=>λt H kn kx kr=>lD A n a t H (λt H=>lD A n b t H kn kx kr) kx kr
 |.cond c a b=>λt H kn kx kr=>aX (vM n t c) (lD A n a t H kn kx kr) (lD A n b t H kn kx kr)
 |.block id a=>λt H kn kx kr=>lD A n a t H kn (λi t H=>match Nat.beq i id with
  |true=>kn t H
  |false=>kx i t H) kr
 |.loop a=>λt H _ kx kr=>ZJ (λs H k=>lD A n a (emb s (lC [] A.live (jZ a)) 0) H (λt H=>k (yS (lC [] A.live (jZ a)) t) H) kx kr) (yS (lC [] A.live (jZ a)) t) H
 |.exit i=>λt H _ kx _=>kx i t H
 |.ret=>λt H _ _ kr=>kr t H
 |_=>λ_ _ _ _ _=>none
def wL(A:Ann)(n:Nat):Code->(Env->ah->Option β)->(Nat->Env->ah->Option β)->(Env->ah->Option β)->List (List AV->ah->Option β)
 |.seq a b=>λkn kx kr=>wL A n a (λt H=>lD P C A n b t H kn kx kr) kx kr++wL A n b kn kx kr
 |.cond _ a b=>λkn kx kr=>wL A n a kn kx kr++wL A n b kn kx kr
 |.block id a=>λkn kx kr=>wL A n a kn (λi t H=>match Nat.beq i id with
  |true=>kn t H
  |false=>kx i t H) kr
 |.loop a=>λ_ kx kr=>ZJ (λs H k=>lD P C A n a (emb s (lC [] A.live (jZ a)) 0) H (λt H=>k (yS (lC [] A.live (jZ a)) t) H) kx kr)::
   wL A n a (λt H=>ZJ (λs H k=>lD P C A n a (emb s (lC [] A.live (jZ a)) 0) H (λt H=>k (yS (lC [] A.live (jZ a)) t) H) kx kr) (yS (lC [] A.live (jZ a)) t) H) kx kr
 |_=>λ_ _ _=>[]
def qp(A:Ann)(n:Nat):Code->(Env->ah->Option β)->(Nat->Env->ah->Option β)->(Env->ah->Option β)->List (List AV->ah->Option β)
 |.seq a b=>λkn kx kr=>qp A n a (λt H=>lD P C A n b t H kn kx kr) kx kr++qp A n b kn kx kr
 |.cond _ a b=>λkn kx kr=>qp A n a kn kx kr++qp A n b kn kx kr
 |.block id a=>λkn kx kr=>qp A n a kn (λi t H=>match Nat.beq i id with
  |true=>kn t H
  |false=>kx i t H) kr
 |.loop a=>λ_ kx kr=>(λs H=>lD P C A n a (emb s (lC [] A.live (jZ a)) 0) H (λt H=>ZJ (λs H k=>lD P C A n a (emb s (lC [] A.live (jZ a)) 0) H (λt H=>k (yS (lC [] A.live (jZ a)) t) H) kx kr) (yS (lC [] A.live (jZ a)) t) H) kx kr)::
   qp A n a (λt H=>ZJ (λs H k=>lD P C A n a (emb s (lC [] A.live (jZ a)) 0) H (λt H=>k (yS (lC [] A.live (jZ a)) t) H) kx kr) (yS (lC [] A.live (jZ a)) t) H) kx kr
 |_=>λ_ _ _=>[]
end
section
variable (P:Program)
def TW(n:Nat)(t:Env)(H:ah):List ResultVar->(List AV->Option (AV × ah))->Option (AV × ah)
 |[],k=>k []
 |.tmp d::b,k=>TW n t H b λl=>k (vM n t (.tmp d)::l)
 |.cell a e::b,k=>bnd (Tf P e (vM n t (.tmp a)) H) λv _=>TW n t H b λl=>k (v::l)
def atJ(H:ah):List AV->Option (AV × ah)
 |[x]=>some (x,H)
 |xs=>some (.tup xs,H)
def PL(n:Nat)(b:List ResultVar)(t:Env)(H:ah):Option (AV × ah):=TW P n t H b (atJ H)
end
def yT {β:Type}(F:(List AV->ah->Option β)->Option β):Prop:=
 ∀k r,F k=some r->(∀k',F k'=some r)∨∃s H,k s H=some r/\∀k',k' s H=some r->F k'=some r
section
variable {β:Type}
def gY(x:Option β):yT λ_=>x:=λ_ _ h=>.inl λ_=>h
def ZK(s:List AV)(H:ah):yT λ(k:List AV->ah->Option β)=>k s H:=λ_ _ h=>.inr ⟨s,H,h,λ_ h=>h⟩
def VE {x:Option (AV × ah)}{K:(List AV->ah->Option β)->AV->ah->Option β}(h:∀v H,yT λk=>K k v H):yT λk=>bnd x (K k):=by
 rcases x with _|⟨v,H⟩
 ·exact gY none
 ·exact h v H
def aqu {b:Bool}{x:Option (AV × ah)}{H:ah}{K:(List AV->ah->Option β)->AV->ah->Option β}(h:∀v H,yT λk=>K k v H):yT λk=>gd b x H (K k):=by
 cases b
 ·exact h bg H
 ·exact VE h
def ak0 {g:Option AV}{d:Bool}{x:Option (AV × ah)}{H:ah}{K:(List AV->ah->Option β)->AV->ah->Option β}(h:∀v H,yT λk=>K k v H):yT λk=>gdA g d x H (K k):=by
 unfold gdA;cases Kt g d with
 |none=>exact gY none
 |some b=>exact aqu h
def adM {c:AV}{x y:(List AV->ah->Option β)->Option β}(b:yT x)(d:yT y):yT λk=>aX c (x k) (y k):=by
 unfold aX;split
 ·exact b
 ·exact d
 ·exact gY none
variable {P:Program}{C:aF}
def afR {t:Operand->AV}{o:Oper}{H:ah}{k:AV->ah->Option β}:opK P C t o H k=bnd (opE P C t o H) k:=by
 obtain⟨dst,op,b,d,after,guard⟩:=o;have key:∀x:Option AV,bo x (λv=>k v H)=bnd (fU x H) k:=by intro x;cases x <;> rfl
 cases op <;> first|rfl|exact key _
def KC {n:Nat}{ops:List Oper}{lo:Bool}{o:Oper}{t:Env}{H:ah}{K:(List AV->ah->Option β)->AV->ah->Option β}(h:∀v H,yT λk=>K k v H):yT λk=>XM P C n ops lo o t H (K k):=by
 unfold XM;cases o.guard with
 |none=>
  cases lo with
  |false=>simp only [afR];exact VE h
  |true=>exact VE h
 |some g=>cases lo <;> exact ak0 h
def Qx {n:Nat}{ops:List Oper}{K:(List AV->ah->Option β)->Env->ah->Option β}(h:∀t H,yT λk=>K k t H):∀(l:List Oper) (t:Env) (H:ah),yT λk=>akZ P C n ops l t H (K k)
 |[],t,H=>h t H
 |o::l,t,H=>KC λv H=>Qx h l _ H
def zL {n:Nat}{K:(List AV->ah->Option β)->Env->ah->Option β}(h:∀t H,yT λk=>K k t H):∀(l:List Oper) (fs:List (Option Bool)) (t:Env) (H:ah),yT λk=>KA P C n l fs t H (K k)
 |[],[],t,H=>h t H
 |[],f::fs,t,H=>gY none
 |o::l,[],t,H=>gY none
 |o::l,none::fs,t,H=>VE λv H=>zL h l fs _ H
 |o::l,some b::fs,t,H=>zL h l fs t H
def aiw {w:Option Nat}{H H':ah}{K:(List AV->ah->Option β)->Option β}(h:yT K):yT λk=>ck w H H' (K k):=by
 unfold ck;split
 ·exact h
 ·exact gY none
def adN {s b:Nat}{H H':ah}{K:(List AV->ah->Option β)->Option β}(h:yT K):yT λk=>ckR s b H H' (K k):=by
 unfold ckR;split
 ·exact h
 ·exact gY none
def Nl {ops:List Oper}{s d:Nat}{b:Log}{K:(List AV->ah->Option β)->Option β}(h:yT K):∀ps,yT λk=>ckL ops s d b ps (K k)
 |[]=>h
 |(j,e)::ps=>by
  simp only [ckL];cases cst ops j with
  |true=>
   cases EN b e with
   |none=>exact gY none
   |some y=>exact adN (Nl h ps)
  |false=>
   cases EN b j with
   |none=>exact gY none
   |some x=>
    cases EN b e with
    |none=>exact gY none
    |some y=>exact aiw (Nl h ps)
def CW {n:Nat}{ops:List Oper}{s d:Nat}{ps:List (Nat × Nat)}{K:(List AV->ah->Option β)->Env->ah->Option β}(h:∀t H,yT λk=>K k t H):∀(l:List Oper) (fs:List (Option Bool)) (i:Nat) (t:Env) (H:ah) (b:Log),yT λk=>JE P C n ops s d ps l fs i t H b (K k)
 |[],[],i,t,H,b=>Nl (h t H) ps
 |[],f::fs,i,t,H,b=>gY none
 |o::l,[],i,t,H,b=>gY none
 |o::l,none::fs,i,t,H,b=>CW h l fs (i+1) t H b
 |o::l,some lo::fs,i,t,H,b=>by
  exact KC λv H'=>CW h l fs (i+1) _ H' _
def uz {B:List AV->ah->(List AV->ah->Option β)->Option β}(d:∀s H,yT (B s H)):∀m s H r,Ho B m s H=some r->Ho B (m+1) s H=some r:=by
 intro m
 induction m with
 |zero=>intro s H r h;cases h
 |succ m e=>
  intro s H r h;rcases d s H _ r h with b|⟨i,H',b,g⟩
  ·exact b _
  ·exact g _ (e _ _ _ b)
def aix {B:List AV->ah->(List AV->ah->Option β)->Option β}(d:∀s H,yT (B s H))(s:List AV)(H:ah):ZJ B s H=B s H (ZJ B):=by
 have j:∀r,B s H (ZJ B)=some r->ZJ B s H=some r:=by
  intro r h;rcases d s H _ r h with b|⟨e,H',b,i⟩
  ·exact xB (g:=λn=>Ho B n s H) (λn r=>uz d n s H r) (n:=1) (b _)
  ·obtain⟨m,hm⟩:=lX b;exact xB (g:=λn=>Ho B n s H) (λn r=>uz d n s H r) (n:=m+1) (i _ hm)
 cases h:ZJ B s H with
 |none=>
  cases k:B s H (ZJ B) with
  |none=>rfl
  |some r=>rw [j r k] at h;cases h
 |some r=>
  obtain⟨m,hm⟩:=lX h;cases m with
  |zero=>cases hm
  |succ m=>
   symm;rcases d s H _ r hm with b|⟨e,H',b,i⟩
   ·exact b _
   ·exact i _ (xB (g:=λn=>Ho B n e H') (λn r=>uz d n e H' r) b)
def KD {A:Ann}{n:Nat}:∀(c:Code) (t:Env) (H:ah) (kn:(List AV->ah->Option β)->Env->ah->Option β) (kx:(List AV->ah->Option β)->Nat->Env->ah->Option β) (kr:(List AV->ah->Option β)->Env->ah->Option β),
  (∀t H,yT λk=>kn k t H)->(∀i t H,yT λk=>kx k i t H)->(∀t H,yT λk=>kr k t H)->yT λk=>lD P C A n c t H (kn k) (kx k) (kr k):=by
 intro c
 induction c with
 |skip=>intro t H kn kx kr e g o;exact e t H
 |region id ops d=>
  intro t H kn kx kr e g o;simp only [lD];cases d with
  |false=>
   exact Qx e _ _ _
  |true=>
   exact zL (λv H=>CW e _ _ _ _ _ _) _ _ _ _
 |seq a b p q=>
  intro t H kn kx kr e g o;exact p t H (λk t H=>lD P C A n b t H (kn k) (kx k) (kr k)) kx kr (λt H=>q t H kn kx kr e g o) g o
 |cond c a b p q=>
  intro t H kn kx kr e g o;exact adM (p t H kn kx kr e g o) (q t H kn kx kr e g o)
 |block id a u=>
  intro t H kn kx kr e g o;exact u t H kn (λk i t H=>match Nat.beq i id with
   |true=>kn k t H
   |false=>kx k i t H) kr e (λi t H=>by
   cases hb:Nat.beq i id with
   |true=>simp only [hb];exact e t H
   |false=>simp only [hb];exact g i t H) o
 |loop a u=>
  intro t H kn kx kr e g o;simp only [lD];generalize lC [] A.live (jZ a)=M;have z:∀m s H,yT λk=>Ho (λs H j=>lD P C A n a (emb s M 0) H (λt H=>j (yS M t) H) (kx k) (kr k)) m s H:=by
   intro m
   induction m with
   |zero=>intro s H;exact gY none
   |succ m v=>intro s H;exact u _ H (λk t H=>Ho (λs H j=>lD P C A n a (emb s M 0) H (λt H=>j (yS M t) H) (kx k) (kr k)) m (yS M t) H) kx kr (λt H=>v _ H) g o
  have y:∀(k:List AV->ah->Option β) s H,yT ((λs H j=>lD P C A n a (emb s M 0) H (λt H=>j (yS M t) H) (kx k) (kr k)) s H):=λk s H=>
   u _ H (λj t H=>j (yS M t) H) (λ_=>kx k) (λ_=>kr k) (λt H=>ZK _ _) (λi t H=>gY _) (λt H=>gY _)
  intro k r h;obtain⟨m,hm⟩:=lX h;rcases z m _ _ k r hm with w|⟨D,H',w,E⟩
  ·exact .inl λk'=>xB (λn r=>uz (y k') n _ _ r) (w k')
  ·exact .inr ⟨D,H',w,λk' hk=>xB (λn r=>uz (y k') n _ _ r) (E k' hk)⟩
 |exit i=>intro t H kn kx kr e g o;exact g i t H
 |ret=>intro t H kn kx kr e g o;exact o t H
 |_=>intro t H kn kx kr e g o;exact gY none
def adO {A:Ann}{n:Nat}:∀(c:Code) (kn:Env->ah->Option β) (kx:Nat->Env->ah->Option β) (kr:Env->ah->Option β),wL P C A n c kn kx kr=qp P C A n c kn kx kr:=by
 intro c
 induction c with
 |seq a b d e=>intro kn kx kr;simp only [wL,qp,d,e]
 |cond c a b d e=>intro kn kx kr;simp only [wL,qp,d,e]
 |block id a g=>intro kn kx kr;simp only [wL,qp,g]
 |loop a g=>
  intro kn kx kr;simp only [wL,qp,g]
  congr 1
  funext s H
  exact aix (λs H=>KD a _ H (λj t H=>j (yS _ t) H) (λ_=>kx) (λ_=>kr) (λt H=>ZK _ _) (λi t H=>gY _) (λt H=>gY _)) s H
 |_=>intro kn kx kr;rfl
end
def afS:List Operand->Nat
 |[]=>0
 |.tmp d::xs=>2 ^ d ||| afS xs
 |_::xs=>afS xs
def atd(d L:Nat):Nat:=L ^^^ (L &&& 2 ^ d)
def afT(ops:List Oper)(o:Oper):Nat:=
 match o.guard with
 |none=>0
 |some (j,_)=>match ops[j]? with
  |some p=>match p.dst with
   |some d=>2 ^ d
   |none=>0
  |none=>0
def XO(ops:List Oper)(o:Oper)(L:Nat):Nat:=
 (afS o.op.operands.toList ||| afT ops o) ||| (match o.dst with
  |some d=>atd d L
  |none=>L)
def TY(ops:List Oper):List Oper->Nat->Nat
 |[],L=>L
 |o::os,L=>XO ops o (TY ops os L)
def adP(ops:List Oper):List Oper->List (Option Bool)->Nat->Nat
 |o::os,none::b,L=>XO ops o (adP ops os b L)
 |_::os,some _::b,L=>adP ops os b L
 |_,_,L=>L
def Ua(ops:List Oper):List Oper->List (Option Bool)->Nat->Nat
 |o::os,some _::b,L=>XO ops o (Ua ops os b L)
 |_::os,none::b,L=>Ua ops os b L
 |_,_,L=>L
def qL:List Nat->Nat
 |[]=>0
 |i::M=>2 ^ i ||| qL M
def zO(A:Ann):Code->Nat->(Nat->Nat)->Nat->Nat
 |.skip=>λLn _ _=>Ln
 |.region id ops d=>λLn _ _=>cond d (adP ops.toList ops.toList (lC [] A.draw id) (Ua ops.toList ops.toList (lC [] A.draw id) Ln)) (TY ops.toList ops.toList Ln)
 |.seq a b=>λLn Lx Lr=>zO A a (zO A b Ln Lx Lr) Lx Lr
 |.cond c a b=>λLn Lx Lr=>afS [c] ||| (zO A a Ln Lx Lr ||| zO A b Ln Lx Lr)
 |.block id a=>λLn Lx Lr=>zO A a Ln (λi=>cond (Nat.beq i id) Ln (Lx i)) Lr
 |.loop a=>λ_ _ _=>qL (lC [] A.live (jZ a))
 |.exit i=>λ_ Lx _=>Lx i
 |.ret=>λ_ _ Lr=>Lr
 |_=>λ_ _ _=>0
def ak1:List (Option Bool)->List (Option Bool)->Bool
 |[],[]=>true
 |none::a,none::b=>ak1 a b
 |some x::a,some y::b=>(x==y) && ak1 a b
 |_,_=>false
def apY:List (Nat × Nat)->List (Nat × Nat)->Bool
 |[],[]=>true
 |(a,b)::l,(c,d)::m=>Nat.beq a c && (Nat.beq b d && apY l m)
 |_,_=>false
def Qy(A:Ann)(n:Nat):Code->Nat->(Nat->Nat)->Nat->Bool
 |.region id ops d=>λ_ _ _=>cond d (Vf ops.toList && (apY (mJ ops.toList) (lC [] A.pairs id) && ak1 (ZI ops.toList) (lC [] A.draw id))) true
 |.seq a b=>λLn Lx Lr=>Qy A n a (zO A b Ln Lx Lr) Lx Lr && Qy A n b Ln Lx Lr
 |.cond _ a b=>λLn Lx Lr=>Qy A n a Ln Lx Lr && Qy A n b Ln Lx Lr
 |.block id a=>λLn Lx Lr=>Qy A n a Ln (λi=>cond (Nat.beq i id) Ln (Lx i)) Lr
 |.loop a=>λ_ Lx Lr=>(let M:=qL (lC [] A.live (jZ a));let X:=zO A a M Lx Lr;Nat.beq (M ||| X) M && Qy A n a M Lx Lr)
 |_=>λ_ _ _=>true
structure Ag(n L:Nat)(t:gB)(e:Env):Prop where
 len:t.length=n
 get:∀i,i<n->L.testBit i=true->t.getD i bg=PK e i
def Ag.sub {n L b:Nat}{t:gB}{e:Env}(h:Ag n L t e)(hs:∀i,b.testBit i=true->L.testBit i=true):Ag n b t e:=⟨h.len,λi d hi=>h.get i d (hs i hi)⟩
def Ag.left {n L b:Nat}{t:gB}{e:Env}(h:Ag n (L ||| b) t e):Ag n L t e:=h.sub λi hi=>by rw [zcF,hi];rfl
def Ag.right {n L b:Nat}{t:gB}{e:Env}(h:Ag n (L ||| b) t e):Ag n b t e:=h.sub λi hi=>by rw [zcF,hi];simp
def VF {i n:Nat}(h:i<n):Nat.blt i n=true:=by simpa [Nat.blt_eq] using h
def Qz {i n:Nat}(h:n<=i):Nat.blt i n=false:=by
 cases hb:Nat.blt i n with
 |false=>rfl
 |true=>rw [Nat.blt_eq] at hb;omega
def vN {d:Nat}:(2 ^ d).testBit d=true:=by rw [zc8];simp
def VG:∀(xs:List Operand) (d:Nat),Operand.tmp d∈xs->(afS xs).testBit d=true
 |x::xs,d,h=>by
  rcases zaj.1 h with rfl|h
  ·simp only [afS];rw [zcF,vN];rfl
  ·have:=VG xs d h;cases x with
   |tmp e=>simp only [afS];rw [zcF,this];simp
   |_=>exact this
def Ag.tmp {n L:Nat}{t:gB}{e:Env}(h:Ag n L t e){d:Nat}(hd:L.testBit d=true):t.getD d bg=vM n e (.tmp d):=by
 have g:=h.len;rcases zaQ d n with b|b
 ·simp only [vM,VF b,cond_true];exact h.get d b hd
 ·simp only [vM,Qz b,cond_false];simp [List.getD,g,b]
def Ag.eval {n:Nat}{xs:List Operand}{t:gB}{e:Env}(h:Ag n (afS xs) t e){x:Operand}(b:x∈xs):dU t x=vM n e x:=by
 cases x with
 |tmp d=>exact h.tmp (VG xs d b)
 |_=>rfl
def Ag.put {n L:Nat}{t:gB}{e:Env}{o:Oper}{ops:List Oper}(h:Ag n (XO ops o L) t e)(v:AV):Ag n L (wV t o.dst v) (afQ e o.dst v):=by
 have g:=h.right;cases hd:o.dst with
 |none=>rw [hd] at g;exact g
 |some d=>
  rw [hd] at g;have k:=h.len;refine⟨by simp [wV,h.len],λi j hi=>?_⟩;by_cases b:d=i
  ·subst b;simp only [wV,afQ,PK,Nat.beq_refl,cond_true];rw [TU V]
  ·have hb:Nat.beq d i=false:=zdN.2 λh=>b (zbK h);simp only [wV,afQ,PK,hb,cond_false];rw [getD_set_ne b];refine g.get i j ?_;simp only [atd,Nat.testBit_xor,Nat.testBit_and,zc8,hi,b];simp
section
variable {β:Type}{P:Program}{C:aF}{n:Nat}
def aqv {t:gB}{o:Oper}:opA P C t o=opE P C (dU t) o:=by
 obtain⟨dst,op,b,d,after,guard⟩:=o;cases op <;> first|rfl|(rename_i x;cases x <;> rfl)|(rename_i x y;cases y <;> rfl)
def ZL {ev d:Operand->AV}{o:Oper}(h:∀x∈o.op.operands.toList,ev x=d x):opE P C ev o=opE P C d o:=by
 obtain⟨dst,op,w,z,after,guard⟩:=o;have mp:∀(j:Array (Nat × Operand)),(∀x∈(j.toList.map (·.2)),ev x=d x)->j.toList.map (λp=>(p.1,ev p.2))=j.toList.map λp=>(p.1,d p.2):=λps A=>
  zbt λp hm=>by rw [A p.2 (zaI.2 ⟨p,hm,rfl⟩)]
 have q:∀(x:Option Operand),(∀y∈x.toArray.toList,ev y=d y)->x.map ev=x.map d:=λx e=>by
  cases x with
  |none=>rfl
  |some y=>simp only [zak,e y O]
 simp only at h;cases op with
 |build u j=>simp only [opE,mp j λx e=>h x (by simpa [Op.operands] using e)]
 |buildSlice u m j=>simp only [opE,mp j λx e=>h x (by simpa [Op.operands] using e)]
 |makeFunc f a c=>
  simp only [opE];rw [zbt (f:=ev) (g:=d) (l:=a.toList) λx e=>h x (by simp [Op.operands];exact .inl (by simpa using e)),zbt (f:=ev) (g:=d) (l:=c.toList) λx e=>h x (by simp [Op.operands];exact .inr (by simpa using e))]
 |makeMap u r=>cases r <;> rfl
 |slice u x lo hi D=>
  simp only [opE];rw [h x (by simp [Op.operands]),q lo λy k=>h y (by simp [Op.operands];exact .inr (.inl (by simpa using k))),q hi λy k=>h y (by simp [Op.operands];exact .inr (.inr (.inl (by simpa using k)))),q D λy k=>h y (by simp [Op.operands];exact .inr (.inr (.inr (by simpa using k))))]
 |call c=>
  obtain⟨v,i,E⟩:=c;have ha:i.toList.map ev=i.toList.map d:=zbt λx e=>h x (by simp [Op.operands,Call.operands];exact .inr (by simpa using e));cases v with
  |value f=>
   simp only [opE]
   funext H
   simp only [aiv];rw [ha,h f (by simp [Op.operands,Call.operands])]
  |builtin b=>
   simp only [opE]
   funext H
   simp only [aiv];rw [ha]
  |invoke r m=>rfl
 |_=>first|rfl|(simp only [opE,h _ (show _ from(by simp [Op.operands]))];done)|(simp [Op.operands] at h;simp only [opE,h])
def Ag.op {L:Nat}{t:gB}{e:Env}{ops:List Oper}{o:Oper}(h:Ag n (XO ops o L) t e):opA P C t o=opE P C (vM n e) o:=by
 rw [aqv];exact ZL λx b=>h.left.left.eval b
def Le(x y:Option β):Prop:=∀r,x=some r->y=some r
def Le.refl(x:Option β):Le x x:=λ_ h=>h
def Le.bnd {α:Type}{x:Option (α × ah)}{k k':α->ah->Option β}(h:∀v H,Le (k v H) (k' v H)):Le (bnd x k) (bnd x k'):=by
 rcases x with _|⟨v,H⟩
 ·exact Le.refl _
 ·exact h v H
def VH {L:Nat}{t:gB}{e:Env}{ops:List Oper}{lo:Bool}{o:Oper}(h:Ag n (XO ops o L) t e){H:ah}{k k':AV->ah->Option β}(hk:∀v H,Le (k' v H) (k v H)):Le (XM P C n ops lo o e H k') (bnd (nM P C ops lo o t H) k):=by
 have g:opA P C t o=opE P C (vM n e) o:=h.op;unfold XM nM;cases u:o.guard with
 |none=>
  simp only [uX,u];cases lo with
  |false=>simp only [zai,if_false,afR,g];exact Le.bnd hk
  |true=>
   simp only [if_true,opG,g];exact Le.bnd hk
 |some gd=>
  obtain⟨j,m⟩:=gd;rw [Qq u];have i:=h.left.right;simp only [afT,u] at i;have w:∀v,Qw n ops e j=some v->Vy ops t j=some v:=by
   intro v hv;unfold Qw at hv;unfold Vy;cases A:ops[j]? with
   |none=>rw [A] at hv;cases hv
   |some p=>
    rw [A] at hv i;simp only at hv i;simp only [za7];cases hd:p.dst with
    |none=>rw [hd] at hv;cases hv
    |some d=>
     rw [hd] at hv i;simp only at hv i;simp only [za7];rcases zaQ d n with q|q
     ·rw [VF q] at hv;have:=i.len;rw [MZ V,i.get d q vN];exact hv
     ·rw [Qz q] at hv;cases hv
  simp only;cases y:Qw n ops e j with
  |none=>intro r z;cases lo <;> simp [gdA,Kt] at z
  |some v=>
   rw [w v y];simp only [gdA];cases Kt (some v) m with
   |none=>intro r z;cases lo <;> cases z
   |some b=>
    cases b
    ·cases lo <;> exact hk _ _
    ·cases lo with
     |false=>simp only [gd,if_true,zai,if_false,g];exact Le.bnd hk
     |true=>simp only [gd,if_true,opG,g];exact Le.bnd hk
def ZM {ops:List Oper}{L:Nat}{k:gB->ah->Option β}{k':Env->ah->Option β}(hk:∀t e H,Ag n L t e->Le (k' e H) (k t H)):∀(l:List Oper) (t:gB) (e:Env) (H:ah),Ag n (TY ops l L) t e->Le (akZ P C n ops l e H k') (bnd (P5 P C ops l t H) k)
 |[],t,e,H,h=>hk t e H h
 |o::l,t,e,H,h=>by
  rw [AL];have:=VH (P:=P) (C:=C) (lo:=false) h (H:=H) (k:=λv H=>bnd (P5 P C ops l (wV t o.dst v) H) k) (k':=λv H=>akZ P C n ops l (afQ e o.dst v) H k') λv H=>ZM hk l _ _ H (h.put v);refine λr d=>?_;have b:=this r d;cases hs:nM P C ops false o t H with
  |none=>rw [hs] at b;cases b
  |some q=>rw [hs] at b;exact b
def Hq {ops:List Oper}{L:Nat}{k:gB->ah->Option β}{k':Env->ah->Option β}(hk:∀t e H,Ag n L t e->Le (k' e H) (k t H)):∀(l:List Oper) (fs:List (Option Bool)) (t:gB) (e:Env) (H:ah),Ag n (adP ops l fs L) t e->Le (KA P C n l fs e H k') (bnd (AO P C l (fs.map λf=>f.isNone) t H) k)
 |[],[],t,e,H,h=>hk t e H h
 |[],f::fs,t,e,H,h=>λr d=>by cases d
 |o::l,[],t,e,H,h=>λr d=>by cases d
 |o::l,none::fs,t,e,H,h=>by
  simp only [KA,zax,zcP,AO];rw [Ag.op (P:=P) (C:=C) h];cases opE P C (vM n e) o H with
  |none=>exact Le.refl _
  |some q=>exact Hq hk l fs _ _ _ (Ag.put h _)
 |o::l,some b::fs,t,e,H,h=>Hq hk l fs _ _ H h
def aiy {t:gB}{ev:Operand->AV}{o:Oper}(h:∀x∈o.op.operands.toList,dU t x=ev x):lV t o.op=Ky ev o.op:=by
 obtain⟨dst,op,d,e,after,guard⟩:=o;simp only at h;cases op with
 |call c=>
  obtain⟨g,b,i⟩:=c;simp only [lV,Ky];have ha:∀x∈b.toList,dU t x=ev x:=λx j=>h x (by simp [Op.operands,Call.operands];exact .inr (by simpa using j));generalize b.toList=l at ha
  match l with
  |[]=>rfl
  |[x]=>simp only [ha x O]
  |x::y::l=>rfl
 |_=>first|rfl|(simp [Op.operands] at h;simp only [lV,Ky,h])
def Ht {ops:List Oper}{s:Nat}{ps:List (Nat × Nat)}{t0:gB}{H0:ah}{L:Nat}{k':Env->ah->Option β}{r:β}:∀(l:List Oper) (i:Nat) (t:gB) (e:Env) (H:ah) (d:Log),i+l.length=ops.length->ops.drop i=l->Gv P C ops i t0 H0=some (t,H)->
  Ag n (Ua ops l ((List.range' i l.length).map λi=>if cst ops i=true then none else some (loose ops i && nI (qZ ops i))) L) t e->
  (∀j w A D,EN d j=some (w,A,D)->∃W tb,Gv P C ops j t0 H0=some (W,A)/\w=lV W (qZ ops j)/\Gv P C ops (j+1) t0 H0=some (tb,D))->
  JE P C n ops s H0.next ps l ((List.range' i l.length).map λi=>if cst ops i=true then none else some (loose ops i && nI (qZ ops i))) i e H d k'=some r->
  ∃t' e' H',fV P C ops (nR ops) t0 H0=some (t',H')/\(∀p∈ps,agree P C ops s t0 H0 p)/\Ag n L t' e'/\k' e' H'=some r
 |[],i,t,e,H,d,K,hd,hs,b,g,h=>by
  have hi:i=ops.length:=by simpa using K
  subst hi;refine⟨t,e,H,hs,?_⟩;simp only [zao,List.range'_zero,zbJ,JE] at h;have X:Ag n L t e:=b
  clear hs hd K b
  induction ps with
  |nil=>exact⟨λp u=>(by simp at u),X,h⟩
  |cons p ps ih=>
   obtain⟨j,e'⟩:=p;simp only [ckL] at h;cases z:cst ops j with
   |true=>
    rw [z] at h;simp only at h;cases E:EN d e' with
    |none=>rw [E] at h;cases h
    |some y=>
     obtain⟨w',A,D⟩:=y;rw [E] at h;simp only [ckR] at h;split at h
     ·rename_i F;obtain⟨i1,i2⟩:=ih h;refine⟨λp u=>?_,i2⟩;rcases zaj.1 u with rfl|u
      ·unfold agree;rw [if_pos z];intro te He aa ab M Q r ad ae;obtain⟨af,ag,s4,s5,s6⟩:=g e' w' A D E;rw [s4] at M;rw [s6] at Q;cases M;cases Q;exact F r ad ae
      ·exact i1 p u
     ·cases h
   |false=>
    rw [z] at h;simp only at h;cases m:EN d j with
    |none=>rw [m] at h;cases h
    |some x=>
    obtain⟨w,Hx,Hy⟩:=x;cases E:EN d e' with
    |none=>rw [m,E] at h;cases h
    |some y=>
     obtain⟨w',A,D⟩:=y;rw [m,E] at h;simp only [ck] at h;split at h
     ·rename_i F;obtain⟨i1,i2⟩:=ih h;refine⟨λp u=>?_,i2⟩;rcases zaj.1 u with rfl|u
      ·unfold agree;rw [if_neg (by rw [z];decide)];intro tj Hj te He aa ab q1 M Q r hr;obtain⟨W,tb,s1,s2,s3⟩:=g j w Hx Hy m;obtain⟨af,ag,s4,s5,s6⟩:=g e' w' A D E;rw [s1] at q1;rw [s4] at M;rw [s6] at Q;cases q1;cases M;cases Q;exact F r (by rw [s2];exact hr)
      ·exact i1 p u
     ·cases h
 |o::l,i,t,e,H,d,K,hd,hs,b,g,h=>by
  have hi:i<ops.length:=by simp at K;omega
  have ho:ops[i]?=some o:=by
   have:=zaF (xs:=ops) (i:=i) (j:=0);rw [hd] at this
   simpa using this.symm
  have R:ops.drop (i+1)=l:=by
   rw [<-zbL,hd];rfl
  rw [zal,zc5,zax] at h b;cases hc:cst ops i with
  |true=>
   simp only [hc,if_true,JE] at h;simp only [hc,if_true,Ua] at b;refine Ht l (i+1) t e H d (by simp at K;omega) R ?_ b g h;rw [xu,hs];simp [hc]
  |false=>
   simp only [hc,zai,if_false,JE] at h;simp only [hc,zai,if_false,Ua] at b;rw [vH ho] at h;have hw:lV t o.op=Ky (vM n e) o.op:=aiy λx hx=>Ag.eval (Ag.left (Ag.left b)) hx;have key:=VH (P:=P) (C:=C) (lo:=loose ops i && nI o.op) b (H:=H) (β:=β)
    (k:=λv H'=>JE P C n ops s H0.next ps l ((List.range' (i+1) l.length).map λi=>if cst ops i=true then none else some (loose ops i && nI (qZ ops i))) (i+1) (afQ e o.dst v) H' ((i,Ky (vM n e) o.op,H,H')::d) k')
    (λv H=>Le.refl _) r h
   cases G:nM P C ops (loose ops i && nI o.op) o t H with
   |none=>rw [G] at key;cases key
   |some q=>
    obtain⟨v,H'⟩:=q;rw [G] at key;simp only [bnd] at key;have T:Gv P C ops (i+1) t0 H0=some (wV t o.dst v,H'):=by
     rw [xu,hs];simp [hc,ho,G,fV]
    refine Ht l (i+1) _ _ H' _ (by simp at K;omega) R T (Ag.put b v) (λj w A D m=>?_) key;simp only [EN] at m;cases hb:Nat.beq i j with
    |true=>
     have:i=j:=zbK hb;subst this;rw [hb] at m;simp only [cond_true,zaa,zad] at m;obtain⟨rfl,rfl,rfl⟩:=m;exact⟨t,_,hs,by rw [vH ho,hw],T⟩
    |false=>
     rw [hb] at m;exact g j w A D m
def VI {i:Nat}:∀{M:List Nat},(qL M).testBit i=true->i∈M
 |[],h=>by simp [qL] at h
 |m::M,h=>by
  simp only [qL,zcF,zc8,zbk,decide_eq_true_eq] at h;rcases h with rfl|h
  ·simp
  ·exact za9 _ (VI h)
def VJ {e:Env}:∀(M pre:List Nat) (i:Nat),i∈M->PK (emb (yS (pre++M) e) M pre.length) i=PK e i
 |m::M,pre,i,h=>by
  simp only [emb,PK];cases hb:Nat.beq m i with
  |true=>
   have:m=i:=zbK hb;subst this;simp only [cond_true];have:∀pre:List Nat,(yS (pre++m::M) e).getD pre.length bg=PK e m:=by
    intro pre
    induction pre with
    |nil=>rfl
    |cons x pre d=>exact d
   exact this pre
  |false=>
   simp only [cond_false];have b:i≠m:=λe=>by subst e;rw [show Nat.beq i i=true from Nat.beq_refl i] at hb;cases hb
   have:=VJ (e:=e) M (pre++[m]) i ((zaj.1 h).resolve_left b)
   simpa using this
def Ag.emb {M:List Nat}{t:gB}{e:Env}(h:Ag n (qL M) t e):Ag n (qL M) t (Go.Proofs.YtljogojaihgdlaaGreat.emb (yS M e) M 0):=by
 refine⟨h.len,λi b hi=>?_⟩;have:=VJ (e:=e) M [] i (VI hi);simp only [zaM,zao] at this;rw [this];exact h.get i b hi
def QA(kn:gB->ah->Option β)(kx:Nat->gB->ah->Option β)(kr:gB->ah->Option β):Res->Option β
 |some (.normal,t,H)=>kn t H
 |some (.exit i,t,H)=>kx i t H
 |some (.ret,t,H)=>kr t H
 |none=>none
variable {kn:gB->ah->Option β}{kx:Nat->gB->ah->Option β}{kr:gB->ah->Option β}
def ZN {x:Option (gB × ah)}:QA kn kx kr (okN x)=bnd x kn:=by rcases x with _|⟨t,H⟩ <;> rfl
def VK {r:Res}{g:Run}:QA kn kx kr (tN r g)=QA (λt H=>QA kn kx kr (g t H)) kx kr r:=by
 rcases r with _|⟨e,t,H⟩
 ·rfl
 ·cases e <;> rfl
def ZO {id:Nat}{r:Res}:QA kn kx kr (Ed id r)=QA kn (λi t H=>match Nat.beq i id with
 |true=>kn t H
 |false=>kx i t H) kr r:=by
 rcases r with _|⟨e,t,H⟩
 ·rfl
 ·cases e with
  |exit i=>
   simp only [Ed,QA];by_cases hi:i=id
   ·subst hi;simp only [if_true,Nat.beq_refl]
   ·have:Nat.beq i id=false:=zdN.2 λh=>hi (zbK h);simp only [hi,if_false,this]
  |normal=>rfl
  |ret=>rfl
def adQ {c:AV}{x y:Res}:QA kn kx kr (adI c x y)=aX c (QA kn kx kr x) (QA kn kx kr y):=by
 unfold adI aX;split <;> first|rfl|skip
 all_goals (try(split <;> first|rfl|contradiction))
def Ub:∀{a b:List (Option Bool)},ak1 a b=true->a=b
 |[],[],_=>rfl
 |none::a,none::b,h=>by rw [Ub (a:=a) (b:=b) h]
 |some x::a,some y::b,h=>by
  simp only [ak1,zah,beq_iff_eq] at h;rw [h.1,Ub h.2]
 |[],_::_,h=>by cases h
 |none::_,[],h=>by cases h
 |some _::_,[],h=>by cases h
 |none::_,some _::_,h=>by cases h
 |some _::_,none::_,h=>by cases h
def ZP:∀{a b:List (Nat × Nat)},apY a b=true->a=b
 |[],[],_=>rfl
 |(a,b)::l,(c,d)::m,h=>by
  simp only [apY,zah] at h;rw [zbK h.1,zbK h.2.1,ZP h.2.2]
 |[],_::_,h=>by cases h
 |_::_,[],h=>by cases h
open Classical in
def Hu(A:Ann):∀(c:Code) (Ln:Nat) (Lx:Nat->Nat) (Lr:Nat),Qy A n c Ln Lx Lr=true->∀(kn:gB->ah->Option β) (kn':Env->ah->Option β) (kx:Nat->gB->ah->Option β) (kx':Nat->Env->ah->Option β) (kr:gB->ah->Option β) (kr':Env->ah->Option β),
  (∀t t' H,Ag n Ln t t'->Le (kn' t' H) (kn t H))->(∀i t t' H,Ag n (Lx i) t t'->Le (kx' i t' H) (kx i t H))->(∀t t' H,Ag n Lr t t'->Le (kr' t' H) (kr t H))->
  ∀t t' H,Ag n (zO A c Ln Lx Lr) t t'->Le (lD P C A n c t' H kn' kx' kr') (QA kn kx kr (fH P C c t H)):=by
 intro c
 induction c with
 |skip=>intro Ln Lx Lr hc kn kn' kx kx' kr kr' hn hx hr t t' H h;exact hn t t' H h
 |region id ops d=>
  intro Ln Lx Lr hc kn kn' kx kx' kr kr' hn hx hr t t' H h;cases d with
  |false=>
   rw [TT,ZN];exact ZM hn _ t t' H h
  |true=>
   simp only [Qy,cond_true,zah] at hc;obtain⟨h1,h2,h3⟩:=hc;have h2:=ZP h2;have h3:=Ub h3;have hfc:(lC [] A.draw id).map (λf=>f.isNone)=Hl ops.toList:=by
    rw [<-h3,ZI,Hl,zc2]
    apply zbt
    intro i _;simp only [Function.comp];cases cst ops.toList i <;> rfl
   rw [ZA,ZN];have e1:iV P C ops.toList (pU ops.toList) t H=AO P C ops.toList (Hl ops.toList) t H:=by
    have:=Qu (P:=P) (C:=C) (ops:=ops.toList) ops.toList [] t H rfl
    simpa [pU,Hl,zcD] using this
   have hfl:lC [] A.draw id=(List.range' 0 ops.toList.length).map λi=>if cst ops.toList i=true then none else some (loose ops.toList i && nI (qZ ops.toList i)):=by
    rw [<-h3,ZI,zcD]
   refine λr hr0=>?_;have hr1:=Hq (P:=P) (C:=C) (β:=β) (ops:=ops.toList) (L:=Ua ops.toList ops.toList (lC [] A.draw id) Ln)
    (k:=λt0 H0=>if(∀p∈lC [] A.pairs id,agree P C ops.toList H.next t0 H0 p) then bnd (fV P C ops.toList (nR ops.toList) t0 H0) kn else none)
    (k':=λt H0=>JE P C n ops.toList H.next H0.next (lC [] A.pairs id) ops.toList (lC [] A.draw id) 0 t H0 [] kn') (λt0 e0 H0 ht r hr=>by
     rw [hfl] at hr ht;obtain⟨t1,e1,H1,d1,d2,d3,d4⟩:=Ht (t0:=t0) (H0:=H0) ops.toList 0 t0 e0 H0 [] O O  (by simp [Gv,fV]) ht (λj w Ha Hb hj=>by cases hj) hr;rw [if_pos d2,d1];exact hn t1 e1 H1 d3 r d4) ops.toList (lC [] A.draw id) t t' H h r hr0
   rw [hfc] at hr1;cases hcl:AO P C ops.toList (Hl ops.toList) t H with
   |none=>rw [hcl] at hr1;cases hr1
   |some q=>
    obtain⟨t0,H0⟩:=q;rw [hcl] at hr1;simp only [bnd] at hr1;split at hr1
    ·rename_i d2;have:zC P C ops.toList t H=fV P C ops.toList (nR ops.toList) t0 H0:=by
      unfold zC;rw [if_pos h1,e1,hcl];simp only;rw [<-h2] at d2;split
      ·rfl
      ·rw [if_pos d2]
     rw [this];exact hr1
    ·cases hr1
 |seq a b iha ihb=>
  intro Ln Lx Lr hc kn kn' kx kx' kr kr' hn hx hr t t' H h;simp only [Qy,zah] at hc;rw [adJ,VK];exact iha _ Lx Lr hc.1 _ _ kx kx' kr kr' (λt t' H ht=>ihb Ln Lx Lr hc.2 kn kn' kx kx' kr kr' hn hx hr t t' H ht) hx hr t t' H h
 |cond c a b iha ihb=>
  intro Ln Lx Lr hc kn kn' kx kx' kr kr' hn hx hr t t' H h;simp only [Qy,zah] at hc;have ha:=iha Ln Lx Lr hc.1 kn kn' kx kx' kr kr' hn hx hr t t' H h.right.left;have hb:=ihb Ln Lx Lr hc.2 kn kn' kx kx' kr kr' hn hx hr t t' H h.right.right;rw [Zz,adQ,h.left.eval (x:=c) (zaU.2 rfl)];show Le (aX (vM n t' c) _ _) _;unfold aX;split
  ·exact ha
  ·exact hb
  ·exact Le.refl _
 |block id a ih=>
  intro Ln Lx Lr hc kn kn' kx kx' kr kr' hn hx hr t t' H h;rw [XL,ZO];refine ih Ln _ Lr hc kn kn' _ _ kr kr' hn (λi t t' H ht=>?_) hr t t' H h;cases hb:Nat.beq i id with
  |true=>simp only [hb,cond_true] at ht ⊢;exact hn t t' H ht
  |false=>simp only [hb,cond_false] at ht ⊢;exact hx i t t' H ht
 |loop a ih=>
  intro Ln Lx Lr hc kn kn' kx kx' kr kr' hn hx hr t t' H h;simp only [Qy,zah] at hc;simp only [zO] at h;simp only [lD];generalize lC [] A.live (jZ a)=M at hc h ⊢;obtain⟨hs,hc⟩:=hc;have hs:qL M ||| zO A a (qL M) Lx Lr=qL M:=zbK hs
  have hsub:∀i,(zO A a (qL M) Lx Lr).testBit i=true->(qL M).testBit i=true:=λi hi=>by rw [<-hs,zcF,hi];simp
  let B:List AV->ah->(List AV->ah->Option β)->Option β:=λs H k=>lD P C A n a (emb s M 0) H (λt H=>k (yS M t) H) kx' kr'
  have it:∀m t t' H,Ag n (qL M) t t'->Le (Ho B m (yS M t') H) (QA kn kx kr (CQ (fH P C a) m t H)):=by
   intro m
   induction m with
   |zero=>intro t t' H _ r hr;cases hr
   |succ m ihm=>
    intro t t' H ht;show Le (lD P C A n a (emb (yS M t') M 0) H (λt H=>Ho B m (yS M t) H) kx' kr') (QA kn kx kr (tN (fH P C a t H) (CQ (fH P C a) m)));rw [VK];exact ih (qL M) Lx Lr hc _ _ kx kx' kr kr' (λt t' H hh=>ihm t t' H hh) hx hr _ _ H (ht.emb.sub hsub)
  rw [show fH P C (.loop a)=XF (fH P C a) from rfl];intro r hf;obtain⟨m,hm⟩:=lX hf;have hm:=it m t t' H h r hm;cases hr:CQ (fH P C a) m t H with
  |none=>rw [hr] at hm;cases hm
  |some q=>rw [show XF (fH P C a) t H=some q from xB (λn r=>J6 n t H r) hr,<-hr];exact hm
 |exit i=>intro Ln Lx Lr hc kn kn' kx kx' kr kr' hn hx hr t t' H h;exact hx i t t' H h
 |ret=>intro Ln Lx Lr hc kn kn' kx kx' kr kr' hn hx hr t t' H h;exact hr t t' H h
 |_=>intro Ln Lx Lr hc kn kn' kx kx' kr kr' hn hx hr t t' H h r hr;cases hr
end
def SY:List ResultVar->Nat
 |[]=>0
 |.tmp d::b=>2 ^ d ||| SY b
 |.cell a _::b=>2 ^ a ||| SY b
def Np {P:Program}{n:Nat}{t:gB}{e:Env}{H:ah}:∀(b:List ResultVar) (k:List AV->Option (AV × ah)),Ag n (SY b) t e->TW P n e H b k=(b.mapM (Vq P t H)).bind k
 |[],k,_=>by simp [TW]
 |.tmp d::b,k,h=>by
  rw [zbw,TW,Np b _ h.right,<-h.left.tmp vN];simp only [Vq,zcm,za7,zcO];cases b.mapM (Vq P t H) <;> rfl
 |.cell a g::b,k,h=>by
  rw [zbw,TW,<-h.left.tmp vN];simp only [Vq];cases Tf P g (t.getD a bg) H with
  |none=>rfl
  |some r=>
   simp only [bnd,zak,zcm,za7,zcO];rw [Np b _ h.right];cases b.mapM (Vq P t H) <;> rfl
def ZQ {P:Program}{n:Nat}{t:gB}{e:Env}{H:ah}(b:List ResultVar)(h:Ag n (SY b) t e):(jG P b t H).map (λv=>(v,H))=PL P n b e H:=by
 unfold PL jG;rw [Np b _ h];cases b.mapM (Vq P t H) with
 |none=>rfl
 |some l=>
  simp only [za7]
  match l with
  |[]=>rfl
  |[x]=>rfl
  |x::y::l=>rfl
def aqw(A:Ann)(fn:Func)(c:Code):Bool:=Qy A fn.ntmps c (SY fn.results.toList) (λ_=>0) (SY fn.results.toList)
def Nq(n:Nat):∀(args:List AV) (i j:Nat),j<n->(args++List.replicate (n-args.length) bg).getD j bg=PK (Qv args i) (i+j)
 |[],i,j,b=>by
  simp [Qv,PK,List.getD,b]
 |a::args,i,0,_=>by simp [Qv,PK]
 |a::args,i,j+1,b=>by
  have hb:Nat.beq i (i+(j+1))=false:=zdN.2 λh=>by have:=zbK h;omega
  simp only [Qv,PK,hb,cond_false];have:=Nq (n-1) args (i+1) j V;rw [show i+(j+1)=i+1+j by omega,<-this];simp only [zal,zbq,List.getD_cons_succ];rw [show n-(args.length+1)=n-1-args.length by omega]
def ak2 {P:Program}{C:aF}{A:Ann}{f:FuncId}{fn:Func}{c:Code}{args:List AV}{H:ah}(j:P.funcs[f]?=some fn)(hb:fn.body=some c)(d:Nat.ble args.length fn.ntmps=true)(hc:aqw A fn c=true){r:AV × ah}
  (h:lD P C A fn.ntmps c (Qv args 0) H (PL P fn.ntmps fn.results.toList) (λ_ _ _=>none) (PL P fn.ntmps fn.results.toList)=some r):Ah P C f args H=some r:=by
 rw [ais j hb];have key:∀r:Res,aqt P fn.results.toList r=QA (λt H=>(jG P fn.results.toList t H).map λv=>(v,H)) (λ_ _ _=>none) (λt H=>(jG P fn.results.toList t H).map λv=>(v,H)) r:=by
  intro r;rcases r with _|⟨e,t,H⟩
  ·rfl
  ·cases e <;> rfl
 rw [key];have d:args.length<=fn.ntmps:=Nat.le_of_ble_eq_true d;have b:(args++List.replicate (fn.ntmps-args.length) bg).length=fn.ntmps:=by simp;omega
 have g:∀t e H,Ag fn.ntmps (SY fn.results.toList) t e->Le (PL P fn.ntmps fn.results.toList e H) ((jG P fn.results.toList t H).map λv=>(v,H)):=λt e H h=>by
  rw [ZQ _ h];exact Le.refl _
 exact Hu A c _ _ _ hc _ _ _ _ _ _ g (λ_ _ _ _ _=>Le.refl _) g _ _ H ⟨b,λi k _=>by have:=Nq fn.ntmps args 0 i k;rwa [za6] at this⟩ r h
def rF:Nat->List (Option Bool)->List (Option Bool)
 |0,l=>l
 |n+1,l=>some false::rF n l
abbrev OA:=Option (AV × ah)
def rnK {P:Program}{C:aF}{A:Ann}{f:FuncId}{fn:Func}{c:Code}{args:List AV}{H:ah}{s:OA}(d:P.funcs[f]?=some fn)(b:(fn.body,Nat.ble args.length fn.ntmps,aqw A fn c)=(some c,true,true))
  (hs:lD P C A fn.ntmps c (Qv args 0) H (PL P fn.ntmps fn.results.toList) (λ_ _ _=>none) (PL P fn.ntmps fn.results.toList)=s) {r:AV × ah} (h:s=some r):Ah P C f args H=some r:=by
 simp only [zad] at b;exact ak2 d b.1 b.2.1 b.2.2 (hs.trans h)
def rnG {P:Program}{C:aF}(A:Ann){f:FuncId}{fn:Func}{args:List AV}{H:ah}{s:OA}(b:P.funcs[f]?=some fn)(d:(fn.body,Nat.ble args.length fn.ntmps,aqw A fn (fn.body.getD .skip))=(some (fn.body.getD .skip),true,true))
  (hs:lD P C A fn.ntmps (fn.body.getD .skip) (Qv args 0) H (PL P fn.ntmps fn.results.toList) (λ_ _ _=>none) (PL P fn.ntmps fn.results.toList)=s) {r:AV × ah} (h:s=some r):Ah P C f args H=some r:=rnK b d hs h
def kT(P:Program)(fn:Func)(n:Nat)(A:Ann)(b:Nat)(C:aF):List AV->ah->OA:=
 (wL P C A n (fn.body.getD .skip) (PL P n fn.results.toList) (λ_ _ _=>none) (PL P n fn.results.toList)).getD b λ_ _=>none
def lpE {P:Program}{fn:Func}{n:Nat}{A:Ann}{b:Nat}{C:aF}{l:List AV}{H:ah}:kT P fn n A b C l H=((qp P C A n (fn.body.getD .skip) (PL P n fn.results.toList) (λ_ _ _=>none) (PL P n fn.results.toList)).getD b λ_ _=>none) l H:=
 by unfold kT;rw [adO]
def an0:Ann:=⟨[],[],[]⟩
@[congr] def ak3 {α β:Type}{x y:Option (α × ah)}{k:α->ah->Option β}(h:x=y):bnd x k=bnd y k:=by rw [h]
@[congr] def apZ {α β:Type}{x y:Option α}{k:α->Option β}(h:x=y):bo x k=bo y k:=by rw [h]
@[congr] def aiz {β:Type}{c d:AV}{x y:Option β}(h:c=d):aX c x y=aX d x y:=by rw [h]
@[congr] def ak4 {β:Type}{g g':Option AV}{b:Bool}{x:Option (AV × ah)}{H:ah}{k:AV->ah->Option β}(h:g=g'):gdA g b x H k=gdA g' b x H k:=by rw [h]
def ZR {α β:Type}{v:α}{k:α->Option β}:bo (some v) k=k v:=rfl
def KG {β:Type}{x y:Option β}:aX (.s (.bool true)) x y=x:=rfl
def Hw {β:Type}{x y:Option β}:aX (.s (.bool false)) x y=y:=rfl
section
def fl(x:AV)(off:Nat):Option AV:=
 match x with
 |.agg cells=>cells[off]?
 |.s (.agg cs)=>(cs.toList.map AV.s)[off]?
 |_=>none
def slS(m:Nat)(x:AV)(lo hi d:Option AV):Option AV:=
 match x with
  |.s (.slice none 0 0)=>match ji lo 0,ji hi 0,ji d 0 with
   |some 0,some 0,some 0=>if hi=none->d=none then some (.s (.slice none 0 0)) else none
   |_,_,_=>none
  |.sl r g off b len e ex=>match ji lo 0,ji hi len,ji d e with
   |some l,some h,some k=>
    if b=m/\l<=h/\h<=k/\k<=e/\(hi=none->d=none) then some (.sl r g (off+l*b) b (h-l) (k-l) (ex || !isNone d)) else none
   |_,_,_=>none
  |.vs n b cells=>match ji lo 0,ji hi n,d with
   |some l,some h,none=>if b=m/\l<=h/\h<=n then some (.vs (h-l) b ((cells.drop (l*b)).take ((h-l)*b))) else none
   |_,_,_=>none
  |_=>none
def jf(d:Nat->Option (Nat × Nat))(z:List AV)(b:List (Nat × AV)):Option AV:=(fK d z b).map .agg
def ldO(x:AV)(b:Option gu):Option AV:=
 match x with
 |.ref _ g off=>match b with
  |some (.blk g' _ cells)=>if g'=g then cells[off]? else none
  |_=>none
 |.ip cells=>cells[0]?
 |_=>none
def ld(x:AV):AM AV:=kS (ldO x) x
def ap0(n:Nat)(x:AV)(b:Option gu):Option AV:=
 match x with
 |.ref _ g off=>match b with
  |some (.blk g' _ cells)=>if g'=g then(if off+n<=cells.length then some (.agg ((cells.drop off).take n)) else none) else none
  |_=>none
 |.ip cells=>if 0+n<=cells.length then some (.agg ((cells.drop 0).take n)) else none
 |_=>none
def lda(n:Nat)(x:AV):AM AV:=kS (ap0 n x) x
def st(n:Nat)(x v:AV):AM AV:=λH=>
 match x with
 |.ref r g off=>match H.get r with
  |.blk g' b cells=>
   if g'=g/\H.base<=r/\some n=some v.cells.length/\v.cells.all AV.aP=true/\off+v.cells.length<=cells.length then
    some (bg,H.put r (.blk g b (aO cells off v.cells)))
   else none
  |.map ..=>none
 |_=>none
def alc(t:TypeId)(z:List AV):AM AV:=λH=>some (.ref H.next 0 0,H.new (.blk 0 t z))
def bsl(e:TypeId)(m:Nat)(z:List AV)(len:Nat)(b:List (Nat × AV)):AM AV:=λH=>
 match fK (λi=>some (i*m,m)) (dN z len) b with
 |some cells=>if cells.all AV.aP=true then some (.sl H.next 0 0 m len len true,H.new (.blk 0 e cells)) else none
 |none=>none
def mks(e:TypeId)(m by_:Nat)(z:List AV)(len cap:AV):AM AV:=λH=>
 match len,cap with
 |.s (.int _ l),.s (.int _ c)=>
   if z.length=m/\z.all AV.aP=true/\0<=l/\l<=c/\c<=140737488355328/\by_*c<=140737488355328 then
    some (.sl H.next 0 0 m l.toNat c.toNat true,H.new (.blk 0 e (dN z c.toNat)))
   else none
 |_,_=>none
def mkm(k:IntKind):AM AV:=λH=>some (.mp H.next,H.new (.map k []))
def lkO(k:IntKind)(z:Value)(x i:AV)(ok:Bool)(d:Option gu):Option AV:=
 match x with
   |.mp _=>match i with
    |.s (.int k' n)=>match d with
     |some (.map b e)=>
      if k'=k/\b=k then
       match qY e n with
       |some v=>some (if ok then .tup [v,.s (.bool true)] else v)
       |none=>some (if ok then .tup [.s z,.s (.bool false)] else .s z)
      else none
     |_=>none
    |_=>none
   |_=>none
def lk(k:IntKind)(z:Value)(x i:AV)(ok:Bool):AM AV:=kS (lkO k z x i ok) x
def mup(k:IntKind)(x i v:AV):AM AV:=λH=>
 match x,i with
 |.mp r,.s (.int k' n)=>match H.get r with
  |.map b d=>if k'=k/\b=k/\H.base<=r then some (bg,H.put r (.map k (L6 d n v))) else none
  |_=>none
 |_,_=>none
def del(k:IntKind)(x i:AV):AM AV:=λH=>
 match x,i with
 |.mp r,.s (.int k' n)=>match H.get r with
  |.map b d=>if k'=k/\b=k/\H.base<=r then some (.tup [],H.put r (.map k (Aq d n))) else none
  |_=>none
 |_,_=>none
def ixO(m:Nat)(x i:AV)(d:Option gu):Option AV:=
 match x with
  |.sl r g off b len _ _=>match i with
   |.s (.int _ n)=>if some m=some b/\akI d=g/\0<=n/\n<len then some (.ref r g (off+n.toNat*b)) else none
   |_=>none
  |.vs len b cells=>match i with
   |.s (.int _ n)=>if some m=some b/\0<=n/\n<len then some (.ip (cells.drop (n.toNat*b))) else none
   |_=>none
  |_=>none
def ix(m:Nat)(x i:AV):AM AV:=kS (ixO m x i) x
def aqx(x:AV):Option AV:=
 match x with
  |.sl _ _ _ _ len _ _=>some (.s (.int .i64 len))
  |.vs n _ _=>some (.s (.int .i64 n))
  |.s (.slice _ n _)=>some (.s (.int .i64 n))
  |_=>none
def lnS(x:AV):AM AV:=kS (λ_=>aqx x) x
def aqy(x:AV)(b:Option gu):Option AV:=
 match x with
  |.mp _=>match b with
   |some (.map _ d)=>some (.s (.int .i64 d.length))
   |_=>none
  |.s (.map none)=>some (.s (.int .i64 0))
  |_=>none
def lnM(x:AV):AM AV:=kS (aqy x) x
def app(e:TypeId)(m by_:Nat)(x y:AV):AM AV:=λH=>
 match kL y,dH H y with
 |some n,some new=>dZ e m by_ x n new H
 |_,_=>none
def cpy(m:Nat)(x y:AV):AM AV:=λH=>
 match kL x,kL y,dH H y with
  |some d,some n,some new=>
   let k:=min n d
   if new.length=n*m/\new.all AV.aP=true then
    if k=0 then(match x with|.s (.string _)=>none|_=>some (.s (.int .i64 0),H)) else
    match x with
    |.sl r g off b len _ _=>match H.get r with
     |.blk g' e cells=>
      if b=m/\g'=g/\H.base<=r/\off+len*m<=cells.length then
       some (.s (.int .i64 k),H.put r (.blk g e (aO cells off (new.take (k*m)))))
      else none
     |.map ..=>none
    |_=>none
   else none
  |_,_,_=>none
def clr(m:Nat)(z:List AV)(x:AV):AM AV:=λH=>
 match x with
  |.sl r g off b len _ _=>
   if len=0 then some (.tup [],H) else
   match H.get r with
   |.blk g' d cells=>
    if b=m/\g'=g/\H.base<=r/\z.length=m/\z.all AV.aP=true/\off+len*m<=cells.length then
     some (.tup [],H.put r (.blk g d (aO cells off (dN z len))))
    else none
   |.map ..=>none
  |.s (.slice none _ _)=>some (.tup [],H)
  |_=>none
end
def sJ {P:Program}{t e:TypeId}{m n:Nat}{z:List AV}{ps:List (Nat × AV)}{H:ah}(b:Am P t=some e)(hm:szT P e=some m)(d:yR P e=some z)(g:z.length=m)(h:n*m<=16777216):dK P t n ps H=bsl e m z n ps H:=by
 simp only [dK,b,hm,d];rw [if_pos ⟨g,h⟩];rfl
def iY {P:Program}{t:TypeId}{fs:Array Field}{b:Nat->Option (Nat × Nat)}{z:List AV}{ps:List (Nat × AV)}(d:yR P t=some z)(e:P.underlying t=some (.struct fs))(ha:fs.all (λf=>(szT P f.type).isSome)=true)(g:PS P fs=b):gy P t ps=jf b z ps:=by
 simp only [gy,d,e,ha,if_true,g];rfl
def Ef {P:Program}{s d:TypeId}{k1 k2 k:IntKind}{n:Int}{H:ah}(hb:Gt P s d=false)(hs:P.underlying s=some (.int k1))(hd:P.underlying d=some (.int k2)):kM P s d (.s (.int k n)) H=some (.s (.int k2 (IntKind.wrap k2 n)),H):=by
 have h:jd P (convert s d (.int k n))=some (.int k2 (IntKind.wrap k2 n)):=by
  have b:∀{α:Type} (t:TypeId) (d:TypeDesc) (f:TypeDesc->Sem α),P.underlying t=some d->jd P (underlying t >>=f)=jd P (f d):=by
   intro α t d f h;show jd P ((match P.underlying t with
    |some d=>pure d
    |none=>stuck "no such type") >>=f)=_
   rw [h];rfl
  unfold convert;rw [b s _ _ hs,b d _ _ hd];rfl
 simp only [kM,kS,bT,zda,Ar,hb,zai,if_false,AV.val?,h,zak]
abbrev zI:AV:=.s (.int .i64 0)
abbrev zB:AV:=.s (.bool false)
abbrev zN:AV:=.s (.slice none 0 0)
abbrev zP:AV:=.s (.pointer none)
abbrev zM:AV:=.s (.map none)
abbrev I(n:Int):AV:=.s (.int .i64 n)
abbrev B(b:Bool):AV:=.s (.bool b)
def fld {β:Type}(a:AV)(i:Nat)(H:ah)(k:AV->ah->Option β):Option β:=bo (au a i) λp=>bnd (ld p H) k
@[congr] def ak5 {β:Type}{a a':AV}{i:Nat}{H:ah}{k:AV->ah->Option β}(h:a=a'):fld a i H k=fld a' i H k:=by rw [h]
def afU {β:Type}{a:AV}{i:Nat}{H:ah}{k:AV->ah->Option β}:fld a i H k=bo (au a i) λp=>bnd (ld p H) k:=rfl
def gl {β:Type}(g:AV)(b:Bool)(e:Option AV)(H:ah)(k:AV->ah->Option β):Option β:=gdA (some g) b (fU e H) H k
@[congr] def ap1 {β:Type}{g g':AV}{b:Bool}{e:Option AV}{H:ah}{k:AV->ah->Option β}(h:g=g'):gl g b e H k=gl g' b e H k:=by rw [h]
def ak6 {β:Type}{g:AV}{b:Bool}{e:Option AV}{H:ah}{k:AV->ah->Option β}:gl g b e H k=gdA (some g) b (fU e H) H k:=rfl
end
end Go.Proofs.YtljogojaihgdlaaGreat
