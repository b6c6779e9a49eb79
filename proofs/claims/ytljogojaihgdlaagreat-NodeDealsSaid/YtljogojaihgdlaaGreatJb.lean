/-
  Own work: an interpreter over named blocks, its soundness, and what the functions of this seat compute (part 2 of 11).
  Conditions: those of the statement alone.
-/
import Derived.Test.YtljogojaihgdlaaGreatJa
set_option linter.all false
set_option linter.unusedSectionVars false
set_option linter.unusedVariables false
set_option linter.unusedSimpArgs false
namespace Go.Proofs.YtljogojaihgdlaaGreat
noncomputable section
structure abL(P:Program)(C:aC)(ops:List Oper)(t:fQ)(H:ah)(t0:fQ)(H0:ah)(T:Nat->fQ)(Hp:Nat->ah)(val:Nat->AV)(nm:Nat->Nat):Prop where
 facts:FD ops
 S:Bq P C ops t0 H0 T Hp val
 names:∀j,j < ops.length->cst ops j=true->∃o,ops[j]?=some o/\H.next<=nm j/\nm j < H0.next/\Om P o (val j) (nm j) (H0.get (nm j))/\∀d,o.dst=some d->d < t.length->t0[d]?=some (val j)
 inj:∀i j,i < ops.length->j < ops.length->cst ops i=true->cst ops j=true->nm i=nm j->i=j
 rest:∀d,(∀j,cst ops j=true->∀o,ops[j]?=some o->o.dst≠some d)->t0[d]?=t[d]?
 len:t0.length=t.length
 fresh:Q9 H H0
 apK:∀r,H.next<=r->H.gen r=0->H0.gen r=0
 agr:∀p∈lJ ops,agree P C ops H.next t0 H0 p
 ghost:∀p,p<=ops.length->∀d,NV (Hp p).next ((T p).getD d aZ)
 keeps:kC C
section
variable {P:Program}{C:aC}{ops:List Oper}{t:fQ}{H:ah}{t0:fQ}{H0:ah}{T:Nat->fQ}{Hp:Nat->ah}{val:Nat->AV}{nm:Nat->Nat}
theorem FI {i:Nat}(h:chn ops i=true):cst ops i=false/\flo ops i=false:=by
 unfold chn at h
 simpa using h
theorem kinds(i:Nat):cst ops i=true∨(cst ops i=false/\flo ops i=true)∨chn ops i=true:=by
 unfold chn;cases cst ops i <;> cases flo ops i <;> simp
theorem agk {i:Nat}(h:flo ops i=true):cst ops i=false:=by
 unfold flo at h;unfold cst
 revert h
 generalize qp ops i=o;intro h;cases o <;> first | rfl | (simp only [qU] at h;cases h)
theorem wu {i:Nat}{o:Oper}(ho:ops[i]?=some o)(h:flo ops i=true):qU o.op=true/\mD o.op=false:=by
 unfold flo at h;rw [uw ho] at h;refine⟨h,?_⟩;obtain⟨dst,op,type,pos,after,guard⟩:=o;cases op <;> try rfl
 rename_i c;simp only [qU] at h;simp only [mD];cases hc:c.callee with
 | value f=> rw [hc] at h;cases h
 | _=> rfl
namespace abL
variable (D:abL P C ops t H t0 H0 T Hp val nm)
include D
theorem get {p:Nat}(hp:p < ops.length):∃o,ops[p]?=some o:=⟨_,zab hp⟩
theorem amZ:∀p,p<=ops.length->(T p).length=t.length:=by
 intro p
 induction p with
 | zero=> intro _;rw [D.S.zero.1,D.len]
 | succ p ih=>
  intro hp;cases hc:cst ops p with
  | true=> rw [(D.S.skip p hp hc).1];exact ih (by omega)
  | false=>
   obtain⟨o,ho⟩:=D.get hp;rw [(D.S.step p o ho hc).2,lY];exact ih (by omega)
theorem aiM:∀p,p<=ops.length->∀d,d < t.length->
  (∀i o,ops[i]?=some o->o.dst=some d->(cst ops i=true∨i < p)->(T p)[d]?=some (val i))/\
  ((∀i o,ops[i]?=some o->(cst ops i=true∨i < p)->o.dst≠some d)->(T p)[d]?=t[d]?):=by
 intro p
 induction p with
 | zero=>
  intro _ d hd;rw [D.S.zero.1];refine⟨λi o ho hdst hc=> ?_,λh=> D.rest d λj hj o ho=> h j o ho (.inl hj)⟩;have hc:cst ops i=true:=hc.resolve_right (by omega);obtain⟨o',ho',_,_,_,h5⟩:=D.names i (dM ho) hc;rw [ho] at ho';cases ho';exact h5 d hdst hd
 | succ p ih=>
  intro hp d hd;obtain⟨ih1,ih2⟩:=ih (by omega) d hd;cases hc:cst ops p with
  | true=>
   rw [(D.S.skip p hp hc).1];refine⟨λi o ho hdst hi=> ih1 i o ho hdst ?_,λh=> ih2 λi o ho hi=> h i o ho (hi.imp id λh=> by omega)⟩;rcases hi with hi | hi
   ·exact .inl hi
   ·by_cases e:i=p
    ·subst e;exact .inl hc
    ·exact .inr (by omega)
  | false=>
   obtain⟨op,hop⟩:=D.get hp;rw [(D.S.step p op hop hc).2,KR];by_cases hdp:op.dst=some d
   ·have hl:d < (T p).length:=by rw [D.amZ p (by omega)];exact hd
    rw [if_pos ⟨hdp,hl⟩];refine⟨λi o ho hdst hi=> ?_,λh=> absurd hdp (h p op hop (.inr (by omega)))⟩;rw [D.facts.amY i p o op d ho hop hdst hdp]
   ·rw [if_neg λh=> hdp h.1];refine⟨λi o ho hdst hi=> ih1 i o ho hdst ?_,λh=> ih2 λi o ho hi=> h i o ho (hi.imp id λh=> by omega)⟩;rcases hi with hi | hi
    ·exact .inl hi
    ·refine .inr ?_;have:i≠p:=λe=> by subst e;rw [ho] at hop;cases hop;exact hdp hdst
     omega
theorem Ua {p:Nat}(hp:p < ops.length)(hc:cst ops p=false)(hf:flo ops p=true):Hp (p+1)=Hp p:=by
 obtain⟨o,ho⟩:=D.get hp;obtain⟨h1,_⟩:=D.S.step p o ho hc;obtain⟨f1,f2⟩:=wu ho hf;unfold mQ at h1;split at h1 <;> first | (cases h1;done) | skip
 ·rw [f2,zci,if_neg zdu] at h1;exact(KQ f1 h1).1
 ·simp only [zaa,zad] at h1;exact h1.2.symm
theorem step_next {p:Nat}(hp:p < ops.length):(Hp p).next<=(Hp (p+1)).next:=by
 cases hc:cst ops p with
 | true=> rw [(D.S.skip p hp hc).2];exact zac _
 | false=>
  obtain⟨o,ho⟩:=D.get hp;obtain⟨h1,_⟩:=D.S.step p o ho hc;unfold mQ at h1;split at h1 <;> first | (cases h1;done) | skip
  ·split at h1
   ·exact(FC D.keeps h1).1.2.1
   ·exact(Ee D.keeps h1).next
  ·simp only [zaa,zad] at h1;rw [h1.2];exact zac _
theorem X3 {p:Nat}:∀k,p+k<=ops.length->(Hp p).next<=(Hp (p+k)).next:=by
 intro k
 induction k with
 | zero=> intro _;exact zac _
 | succ k ih=> intro h;exact zax (ih (by omega)) (D.step_next (by omega))
theorem X4 {p q:Nat}(h:p<=q)(hq:q<=ops.length):(Hp p).next<=(Hp q).next:=by
 have:=D.X3 (p:=p) (q - p) (by omega)
 rwa [show p+(q - p)=q by omega] at this
theorem abM {p:Nat}(hp:p<=ops.length):H0.next<=(Hp p).next:=by
 have:=D.X4 (zaS p) hp
 rwa [D.S.zero.2] at this
theorem FK {p:Nat}(hp:p < ops.length)(h:chn ops p=false):Hp (p+1)=Hp p:=by
 rcases kinds (ops:=ops) p with hc | ⟨hc,hf⟩ | hc
 ·exact(D.S.skip p hp hc).2
 ·exact D.Ua hp hc hf
 ·rw [hc] at h;cases h
theorem abN {e:Nat}:∀k,e+k<=ops.length->(∀i,e<=i->i < e+k->chn ops i=false)->Hp (e+k)=Hp e:=by
 intro k
 induction k with
 | zero=> intro _ _;rfl
 | succ k ih=>
  intro hk h;show Hp (e+k+1)=Hp e;rw [D.FK (by omega) (h (e+k) (by omega) (by omega))];exact ih (by omega) λi h1 h2=> h i h1 (by omega)
theorem Dk {e e':Nat}(h:e<=e')(he':e'<=ops.length)(hn:∀i,e<=i->i < e'->chn ops i=false):Hp e'=Hp e:=by
 have:=D.abN (e:=e) (e' - e) (by omega) λi h1 h2=> hn i h1 (by omega)
 rwa [show e+(e' - e)=e' by omega] at this
theorem quiet_step {p:Nat}(hp:p < ops.length)(hc:chn ops p=true)(hq:tZ (qp ops p)=true)(hl:loose ops p=true):∀r,r < (Hp p).next->(Hp (p+1)).get r=(Hp p).get r:=by
 obtain⟨o,ho⟩:=D.get hp;obtain⟨h1,_⟩:=D.S.step p o ho (FI hc).1;rw [uw ho] at hq;unfold mQ at h1;split at h1 <;> first | (cases h1;done) | skip
 ·rw [hl,zbn] at h1;split at h1
  ·exact(FC D.keeps h1).1.2.2
  ·rename_i hcall;exact(Rh hq (by simpa using hcall) h1).2.2
 ·simp only [zaa,zad] at h1;rw [h1.2];exact λ_ _=> rfl
theorem abO {k:Nat}(hk:k < ops.length)(hc:cst ops k=true):∀e,e<=ops.length->(∀i,i < e->chn ops i=true->mV ops k i=false)->(Hp e).get (nm k)=H0.get (nm k):=by
 intro e
 induction e with
 | zero=> intro _ _;rw [D.S.zero.2]
 | succ e ih=>
  intro he h;have ih:=ih (by omega) λi hi=> h i (by omega);cases hch:chn ops e with
  | false=> rw [D.FK (by omega) hch];exact ih
  | true=>
   have hb:=h e (by omega) hch;obtain⟨hqb,_⟩:=D.facts.loose k e hk (by omega) hc hch hb;have hl:loose ops e=true:=by
    unfold loose;refine zda.2 ⟨k,za4.2 hk,?_⟩;rw [hc,hch,hb];simp
   obtain⟨o,ho,hge,hlt,_⟩:=D.names k hk hc;rcases hqb with hq | hq
   ·rw [D.quiet_step (by omega) hch hq hl (nm k) (zay hlt (D.abM (by omega)))];exact ih
   ·have hmem:(k,e)∈lJ ops:=by
     unfold lJ;refine za0.2 ⟨k,za4.2 hk,zaG.2 ⟨e,zbl.2 ⟨za4.2 (by omega),?_⟩,rfl⟩⟩;rw [hc,hch,hb,hq];simp
    have ha:=D.agr _ hmem;unfold agree at ha;rw [if_pos hc] at ha;rw [ha (T e) (Hp e) (T (e+1)) (Hp (e+1)) (D.S.at_ _ (by omega)) (D.S.at_ _ (by omega)) (nm k) hge hlt];exact ih
theorem I7 {j:Nat}(hj:j < ops.length){r:Nat}(hw:lg (T j) (qp ops j)=some r){e1:Nat}(hr:r < (Hp e1).next):
  ∀k,e1+k<=ops.length->(∀i,e1<=i->i < e1+k->chn ops i=true->VL ops j i=true)->(Hp (e1+k)).get r=(Hp e1).get r:=by
 intro k
 induction k with
 | zero=> intro _ _;rfl
 | succ k ih=>
  intro hk h;have ih:=ih (by omega) λi h1 h2=> h i h1 (by omega);show(Hp (e1+k+1)).get r=_;cases hch:chn ops (e1+k) with
  | false=> rw [D.FK (by omega) hch];exact ih
  | true=>
   have hu:=h (e1+k) (by omega) (by omega) hch;cases hq:tZ (qp ops (e1+k)) with
   | true=>
    have hl:loose ops (e1+k)=true:=by
     unfold loose;refine zda.2 ⟨j,za4.2 hj,?_⟩;rw [hu,Bool.true_or]
    rw [D.quiet_step (by omega) hch hq hl r (zay hr (D.X4 (by omega) (by omega)))];exact ih
   | false=>
    have hmem:(j,e1+k)∈lJ ops:=by
     unfold lJ;refine za0.2 ⟨j,za4.2 hj,zaG.2 ⟨e1+k,zbl.2 ⟨za4.2 (by omega),?_⟩,rfl⟩⟩;rw [hu,hq];rfl
    have hfl:flo ops j=true:=by
     unfold VL at hu;simp only [zah] at hu;exact hu.1.1.1.2
    have ha:=D.agr _ hmem;unfold agree at ha;rw [if_neg (by rw [agk hfl];decide)] at ha;have:=ha (T j) (Hp j) (T (e1+k)) (Hp (e1+k)) (T (e1+k+1)) (Hp (e1+k+1)) (D.S.at_ j (by omega)) (D.S.at_ _ (by omega)) (D.S.at_ _ (by omega)) r hw;rw [this];exact ih
theorem ad3 {i j:Nat}(hj:cst ops j=false)(h:mV ops i j=true)(hi:cst ops i=false):i<=j:=by
 have:=uq (ops:=ops) (L:=λk=> cst ops k=true∨k<=j) (λk o ho hk e he hb=> by
  obtain⟨_,h2⟩:=D.facts.edges k o ho e he hb;unfold Fb at h2;by_cases hck:cst ops k=true
  ·by_cases hce:cst ops e.on=true
   ·exact .inl hce
   ·simp only [zdb] at hce;rw [hck,hce] at h2;simp at h2
  ·simp only [zdb] at hck;have hk:k<=j:=hk.resolve_left (by simp [hck]);by_cases hce:cst ops e.on=true
   ·exact .inl hce
   ·simp only [zdb] at hce;rw [hck,hce] at h2;simp at h2;exact .inr (by omega)) i j h (.inr (zac _))
 rcases this with h | h
 ·rw [hi] at h;cases h
 ·exact h
end abL
abbrev Li(listed:Array Bool)(j:Nat):Prop:=listed.getD j false=true
structure Inv(ops:List Oper)(t:fQ)(Hp:Nat->ah)(val:Nat->AV)(nm:Nat->Nat)(H:ah)(ρ0:Ren)(w0:World)(a0:Act)(listed:Array Bool)(a:Act)(w:World)(e:Nat)(ρ:Ren):Prop where
 size:listed.size=ops.length
 down:∀j o,ops[j]?=some o->Li listed j->∀ed∈o.after,Region.binds .any ed=true->Li listed ed.on
 le:e<=ops.length
 chain:∀i,i < ops.length->chn ops i=true->(Li listed i↔i < e)
 rel:Rel ρ (Hp e) w
 none:∀k,k < ops.length->cst ops k=true->¬Li listed k->ρ (nm k)=none
 ext:Ext ρ0 H w0 ρ (Hp e) w
 X5:a.tmps.size=t.length
 tmps:∀d,d < t.length->(∀j o,ops[j]?=some o->Li listed j->o.dst=some d->RV ρ (Hp e).gen w (val j) (a.tmps.getD d undef))/\
  ((∀j o,ops[j]?=some o->Li listed j->o.dst≠some d)->RV ρ (Hp e).gen w (t.getD d aZ) (a.tmps.getD d undef))
 defers:a.defers=a0.defers
theorem vH {listed:Array Bool}{i j:Nat}:Li (listed.setIfInBounds i true) j↔Li listed j∨(j=i/\i < listed.size):=by
 unfold Li;by_cases e:i=j
 ·subst e;by_cases hl:i < listed.size
  ·simp [hl]
  ·simp [hl]
 ·rw [getD_set_ne false e];simp [Ne.symm e]
section
variable {ρ0:Ren}{w0:World}{a0:Act}{listed:Array Bool}{a:Act}{w:World}{e:Nat}{ρ:Ren}
theorem yM {j:Nat}(hs:listed.size=ops.length)(hdown:∀j o,ops[j]?=some o->Li listed j->∀ed∈o.after,Region.binds .any ed=true->Li listed ed.on)(h:j∈Region.ready .any ops.toArray listed):
  ∃o,ops[j]?=some o/\¬Li listed j/\(∀i,i≠j->mV ops i j=true->Li listed i)/\(∀i,mV ops j i=true->¬Li listed i)/\
   ∀k o',ops[k]?=some o'->Li (listed.setIfInBounds j true) k->∀ed∈o'.after,Region.binds .any ed=true->Li (listed.setIfInBounds j true) ed.on:=by
 obtain⟨h0,o,ho,hall⟩:=mem_ready.1 h;have ho:ops[j]?=some o:=by simpa using ho
 have hlt:=dM ho;have hnl:¬Li listed j:=by
  unfold Li;rw [zck] at h0 ⊢;rw [zbH (by omega)] at h0 ⊢;simp only [zat] at h0 ⊢;simp [h0]
 have hd2:∀k o',ops[k]?=some o'->Li (listed.setIfInBounds j true) k->∀ed∈o'.after,Region.binds .any ed=true->Li (listed.setIfInBounds j true) ed.on:=by
  intro k o' hk hl ed he hb;rcases vH.1 hl with hl | ⟨rfl,_⟩
  ·exact vH.2 (.inl (hdown k o' hk hl ed he hb))
  ·rw [ho] at hk;cases hk;exact vH.2 (.inl (hall ed he hb))
 refine⟨o,ho,hnl,λi hne hb=> ?_,λi hb hl=> hnl (uq (L:=Li listed) hdown j i hb hl),hd2⟩;have:=uq (L:=Li (listed.setIfInBounds j true)) hd2 i j hb (vH.2 (.inr ⟨rfl,by omega⟩));rcases vH.1 this with h | ⟨h,_⟩
 ·exact h
 ·exact absurd h hne
variable (D:abL P C ops t H t0 H0 T Hp val nm)
include D
theorem apL(I:Inv ops t Hp val nm H ρ0 w0 a0 listed a w e ρ){j:Nat}{o:Oper}(ho:ops[j]?=some o)(hc:cst ops j=false)(hnl:¬Li listed j)
  (hpre:∀i,i≠j->mV ops i j=true->Li listed i) (hpost:∀i,mV ops j i=true->¬Li listed i):TOn ρ (Hp e).gen w (· ∈o.looksAt ops.toArray) (T j) a:=by
 have hj:=dM ho;have hlen:=D.amZ j (by omega);refine⟨by rw [I.X5,hlen],λd hd hl=> ?_⟩;rw [hlen] at hl;obtain⟨t1,t2⟩:=I.tmps d hl;obtain⟨s1,s2⟩:=D.aiM j (by omega) d hl;have hget:∀x,(T j)[d]?=some x->(T j).getD d aZ=x:=λx hx=> by simp [List.getD,hx]
 by_cases hex:∃i oi,ops[i]?=some oi/\Li listed i/\oi.dst=some d
 ·obtain⟨i,oi,hoi,hli,hdst⟩:=hex;have hne:i≠j:=λe=> hnl (e ▸ hli);have hdone:cst ops i=true∨i < j:=by
   rcases D.facts.uses i j oi o d hne hoi ho hdst hd with⟨_,h⟩ | ⟨h,_⟩
   ·unfold Fb at h;rw [hc] at h;cases hci:cst ops i with
    | true=> exact .inl rfl
    | false=> rw [hci] at h;simp at h;exact .inr h
   ·exact absurd hli (hpost i h)
  rw [hget _ (s1 i oi hoi hdst hdone)];exact t1 i oi hoi hli hdst
 ·have hnone:∀i oi,ops[i]?=some oi->Li listed i->oi.dst≠some d:=λi oi h1 h2 h3=> hex ⟨i,oi,h1,h2,h3⟩;have h2:=s2 λi oi hoi hdone hdst=> by
   have hne:i≠j:=λe=> by
    subst e;rcases hdone with h | h
    ·rw [hc] at h;cases h
    ·omega
   rcases D.facts.uses i j oi o d hne hoi ho hdst hd with⟨h,_⟩ | ⟨_,h⟩
   ·exact hnone i oi hoi (hpre i hne h) hdst
   ·unfold Fb at h;rw [hc] at h;cases hci:cst ops i with
    | true=> rw [hci] at h;simp at h
    | false=>
     rw [hci] at h hdone;simp at h hdone;omega
  have:(T j).getD d aZ=t.getD d aZ:=by simp only [List.getD,h2]
  rw [this];exact t2 hnone
theorem Inv.on(I:Inv ops t Hp val nm H ρ0 w0 a0 listed a w e ρ){j:Nat}{o:Oper}(ho:ops[j]?=some o)(hnl:¬Li listed j)
  (hd2:∀k o',ops[k]?=some o'->Li (listed.setIfInBounds j true) k->∀ed∈o'.after,Region.binds .any ed=true->Li (listed.setIfInBounds j true) ed.on)
  {e':Nat} (he':e'<=ops.length) (hch:∀i,i < ops.length->chn ops i=true->(Li (listed.setIfInBounds j true) i↔i < e'))
  {ρ':Ren} {w':World} {cv:Value} (R:Rel ρ' (Hp e') w') (hn:∀k,k < ops.length->cst ops k=true->¬Li (listed.setIfInBounds j true) k->ρ' (nm k)=Option.none)
  (E:Ext ρ0 H w0 ρ' (Hp e') w') (M:adZ ρ (Hp e).gen w ρ' (Hp e').gen w') (hv:RV ρ' (Hp e').gen w' (val j) cv):Inv ops t Hp val nm H ρ0 w0 a0 (listed.setIfInBounds j true) (a.put o.dst cv) w' e' ρ' where
 size:=by rw [Array.size_setIfInBounds];exact I.size
 down:=hd2
 le:=he'
 chain:=hch
 rel:=R
 none:=hn
 ext:=E
 X5:=by rw [<-I.X5];cases o.dst <;> simp [Act.put]
 tmps:=λd hd=> by
  obtain⟨t1,t2⟩:=I.tmps d hd;have hda:d < a.tmps.size:=by rw [I.X5];exact hd
  have hj:=dM ho;by_cases hdst:o.dst=some d
  ·have hput:(a.put o.dst cv).tmps.getD d undef=cv:=by rw [hdst];simp [Act.put,Array.getD,hda]
   rw [hput];refine⟨λi oi hoi _ hdi=> ?_,λh=> absurd hdst (h j o ho (vH.2 (.inr ⟨rfl,by rw [I.size];exact hj⟩)))⟩;rw [D.facts.amY i j oi o d hoi ho hdi hdst];exact hv
  ·have hput:(a.put o.dst cv).tmps.getD d undef=a.tmps.getD d undef:=by
    cases hd':o.dst with
    | none=> rfl
    | some d'=>
     have hne:d'≠d:=λe=> hdst (by rw [hd',e]);simp [Act.put,zbu hne]
   rw [hput];refine⟨λi oi hoi hli hdi=> ?_,λh=> RV.mono M _ _ (t2 λi oi hoi hli=> h i oi hoi (vH.2 (.inl hli)))⟩;rcases vH.1 hli with hli | ⟨rfl,_⟩
   ·exact RV.mono M _ _ (t1 i oi hoi hli hdi)
   ·rw [ho] at hoi;cases hoi;exact absurd hdi hdst
 defers:=by rw [<-I.defers];cases o.dst <;> rfl
end
end
theorem FM {ρ:Ren}{G:Nat->Nat}{w:World}{r0:Nat}(h:ρ r0=none)(co:Obj):adZ ρ G w (updρ ρ r0 (w.heap.size,0)) G (w.alloc co) where
 mono:=λ_=> zac _
 same:=λx y hx _=> by
  unfold updρ
  rw [if_neg (λe=> by subst e;rw [h] at hx;cases hx)];exact hx
 imm:=λb hb hi=> by
  refine⟨by simp;omega,λx sh hx=> ?_,λo=> cell?_of_block (by simp only [World.alloc,zbj,if_neg (zb0 hb)])⟩;unfold updρ at hx;split at hx
  ·cases hx;omega
  ·exact hi x sh hx
 shape:=λb e m hb=> by
  have:=Fg hb;rw [fC] at hb ⊢
  simpa only [World.alloc,zbj,if_neg (zb0 this)] using hb
theorem VY {ρ:Ren}{H:ah}{w:World}(R:Rel ρ H w){r0:Nat}(h:ρ r0=none)(hr:r0 < H.next){ty:TypeId}{z:List AV}{cs:Array Value}(ho:H.get r0=.blk 0 ty z)(hty:ty < gQ)(hz:RVs ρ H.gen w z cs.toList):
  Rel (updρ ρ r0 (w.heap.size,0)) H (w.alloc (.cells cs ty)) where
 out:=λx hx=> by
  unfold updρ
  rw [if_neg (by omega)];exact R.out x hx
 obj:=λx b s hx=> by
  have M:=FM (G:=H.gen) (w:=w) h (.cells cs ty);unfold updρ at hx;by_cases e:x=r0
  ·subst e;simp at hx;obtain⟨rfl,rfl⟩:=hx;rw [ho];refine⟨cs,ty,jR w _,?_,?_,Xct.low hty (by have:=dK hz;rw [bM] at this;omega)⟩
   ·have:=dK hz;simp at this;omega
   ·refine qW (jR w _) λi x hx=> ?_;obtain⟨v,hv,h1⟩:=jH hz hx;exact⟨v,by simpa using hv,RV.mono M _ _ h1⟩
  ·rw [if_neg e] at hx;have hb:=R.block hx;exact yG.mono M (by simp only [World.alloc,zbj,if_neg (zb0 hb)]) (R.obj x b s hx)
 inj:=λx y b' s s' hx hy=> by
  unfold updρ at hx hy;split at hx <;> split at hy
  ·simp_all
  ·cases hx;have:=R.block hy;omega
  ·cases hy;have:=R.block hx;omega
  ·exact R.inj _ _ _ _ _ hx hy
 gl:=R.gl.of (by simp) (λx b s hx=> by
  unfold updρ at hx;split at hx
  ·cases hx;exact .inl (zac _)
  ·exact .inr ⟨_,_,hx⟩) (λb hb _=> by simp only [World.alloc,zbj,if_neg (zb0 hb)])
theorem VZ {ρ0 ρ:Ren}{H0 H:ah}{w0 w:World}(E:Ext ρ0 H0 w0 ρ H w){r0:Nat}(h0:H0.next<=r0)(hn:ρ r0=none)(co:Obj):Ext ρ0 H0 w0 (updρ ρ r0 (w.heap.size,0)) H (w.alloc co) where
 next:=E.next
 mono:=E.mono
 same:=λx y hx hg=> by
  have h1:=E.same x y hx hg;unfold updρ
  rw [if_neg (λe=> by subst e;rw [hn] at h1;cases h1)];exact h1
 kept:=λx hx h=> by
  unfold updρ
  rw [if_neg (by omega)];exact E.kept x hx h
 range:=λx b s hx=> by
  unfold updρ at hx;split at hx
  ·cases hx;exact .inl E.size
  ·exact E.range x b s hx
 size:=by simp;have:=E.size;omega
 frame:=λb hb hi=> by
  have:=E.size;rw [<-E.frame b hb hi];simp only [World.alloc,zbj,if_neg (show¬b=w.heap.size by omega)]
 shape:=λb hb=> by
  have:=E.size;rw [<-E.shape b hb,fC,fC];simp only [World.alloc,zbj,if_neg (show¬b=w.heap.size by omega)]
 os:=E.os
 tape:=E.tape
 output:=E.output
theorem Ot {ρ:Ren}{H H0:ah}{w:World}(R:Rel ρ H w)(F:Q9 H H0)(g:∀r,H.next<=r->H.gen r=0->H0.gen r=0):H0.gen=H.gen/\Rel ρ H0 w/\Ext ρ H w ρ H0 w:=by
 have hg:H0.gen=H.gen:=by
  funext r
  rcases zaT r H.next with h | h
  ·simp only [ah.gen,F.2.2 r h]
  ·rw [g r h (R.out r h).2,(R.out r h).2]
 have E:=Ext.refl ρ H w;refine⟨hg,⟨λr hr=> ⟨(R.out r (zax F.2.1 hr)).1,by rw [hg];exact(R.out r (zax F.2.1 hr)).2⟩,λr b sh h=> ?_,R.inj,R.gl⟩,
  ⟨F.2.1,λr=> by rw [hg];exact zac _,λr x h _=> h,E.kept,E.range,E.size,E.frame,E.shape,E.os,E.tape,E.output⟩⟩
 rw [hg,F.2.2 r (R.lt h)];exact R.obj r b sh h
section
variable {P:Program}{C:aC}{ops:List Oper}{t:fQ}{H:ah}{t0:fQ}{H0:ah}{T:Nat->fQ}{Hp:Nat->ah}{val:Nat->AV}{nm:Nat->Nat}
variable {ρ0:Ren}{w0:World}{a0:Act}{listed:Array Bool}{a:Act}{w:World}{e:Nat}{ρ:Ren}
theorem Rj {j k:Nat}(h:¬Li (listed.setIfInBounds j true) k):¬Li listed k:=λhl=> h (vH.2 (.inl hl))
theorem FN {j i:Nat}(hne:i≠j):Li (listed.setIfInBounds j true) i↔Li listed i:=by
 rw [vH];exact⟨λh=> h.resolve_right λh=> hne h.1,.inl⟩
theorem abP(hC:qP P C)(D:abL P C ops t H t0 H0 T Hp val nm)(I:Inv ops t Hp val nm H ρ0 w0 a0 listed a w e ρ){j:Nat}(hr:j∈Region.ready .any ops.toArray listed){K:Act->World->Prop}{Q:Exit->Act->World->Prop}
  (hK:∀a' w' e' ρ',Inv ops t Hp val nm H ρ0 w0 a0 (listed.setIfInBounds j true) a' w' e' ρ'->K a' w'):wpOp P ops.toArray Q j K a w:=by
 obtain⟨o,ho,hnl,hpre,hpost,hd2⟩:=yM I.size I.down hr;have hj:=dM ho;rcases kinds (ops:=ops) j with hc | ⟨hc,hf⟩ | hc
 ·-- new memory
  obtain⟨o',ho',n1,n2,⟨ty,z,mk,hval,hob,hrun⟩,_⟩:=D.names j hj hc;rw [ho] at ho';cases ho';obtain⟨hg,_⟩:=D.facts.const j o ho hc;obtain⟨cs,cv,h1,⟨h2,hty⟩,h3⟩:=hrun ρ (Hp e).gen w a;have hun:=I.none j hj hc hnl;have vG:(Hp e).get (nm j)=.blk 0 ty z:=by
   rw [<-hob];refine D.abO hj hc e I.le λi hi hch=> ?_;have hli:=(I.chain i (by have:=I.le;omega) hch).2 hi;cases hb:mV ops j i with
   | false=> rfl
   | true=> exact absurd hli (hpost i hb)
  have hgen:(Hp e).gen (nm j)=0:=by simp [ah.gen,vG,fV.gen]
  unfold wpOp;have hoa:ops.toArray[j]?=some o:=by simpa using ho
  simp only [hoa,Region.wanted,hg,if_true];left;unfold Oper.wp;rw [h1];simp only [Oper.upon];refine hK _ _ e (updρ ρ (nm j) (w.heap.size,0)) (Inv.on D I ho hnl hd2 I.le (λi hi hch=> ?_)
   (VY I.rel hun (zay n2 (D.abM I.le)) vG hty h2) (λk hk hck hkl=> ?_) (VZ I.ext n1 hun _) (FM hun _) ?_)
  ·rw [FN (λe=> by subst e;rw [(FI hch).1] at hc;cases hc)];exact I.chain i hi hch
  ·have hkl':=Rj hkl;have hne:nm k≠nm j:=λe=> by
    have:=D.inj k j hk hj hck hc e;subst this;exact hkl (vH.2 (.inr ⟨rfl,by rw [I.size];exact hk⟩))
   unfold updρ
   rw [if_neg hne];exact I.none k hk hck hkl'
  ·rw [hval];exact h3 _ _ (nm j) hgen (by simp [updρ])
 ·-- it changes nothing
  have T0:=apL D I ho hc hnl hpre hpost;obtain⟨s1,_⟩:=D.S.step j o ho hc;obtain⟨f1,f2⟩:=wu ho hf;have hsame:Kw o.op=true->∀r,lg (T j) o.op=some r->(Hp e).get r=(Hp j).get r:=by
   intro hlk r hw;have hre:r < (Hp e).next:=TY (λx hx=> RV.nv I.rel.out _ _ (T0.eval x hx)) hw
   have hrj:r < (Hp j).next:=TY (λx _=> abK (D.ghost j (by omega)) x) hw
   have hw':lg (T j) (qp ops j)=some r:=by rw [uw ho];exact hw
   have hle:=I.le;have hun:∀i,i < ops.length->chn ops i=true->mV ops i j=false->mV ops j i=false->VL ops j i=true:=by
    intro i _ hch hb1 hb2;unfold VL;rw [hch,hf,uw ho,hlk,hb2,hb1];rfl
   rcases Nat.le_total e j with hej | hje
   ·have:=D.I7 hj hw' hre (j - e) (by omega) λi h1 h2 hch=> by
     have hil:¬Li listed i:=λhl=> by have:=(I.chain i (by omega) hch).1 hl;omega
     have hne:i≠j:=by omega
     refine hun i (by omega) hch ?_ ?_
     ·cases hb:mV ops i j with
      | false=> rfl
      | true=> exact absurd (hpre i hne hb) hil
     ·cases hb:mV ops j i with
      | false=> rfl
      | true=> have:=D.ad3 (FI hch).1 hb hc;omega
    rw [show e+(j - e)=j by omega] at this;exact this.symm
   ·have:=D.I7 hj hw' hrj (e - j) (by omega) λi h1 h2 hch=> by
     have hil:Li listed i:=(I.chain i (by omega) hch).2 (by omega);have hne:i≠j:=λe=> by subst e;rw [(FI hch).2] at hf;cases hf
     refine hun i (by omega) hch ?_ ?_
     ·cases hb:mV ops i j with
      | false=> rfl
      | true=> have:=D.ad3 hc hb (FI hch).1;omega
     ·cases hb:mV ops j i with
      | false=> rfl
      | true=> exact absurd hil (hpost i hb)
    rw [show j+(e - j)=e by omega] at this;exact this
  have hs:mQ P C ops (loose ops j && mD o.op) o (T j) (Hp e)=some (val j,Hp e):=by
   have aqh:=D.Ua hj hc hf;rw [aqh] at s1;unfold mQ at s1 ⊢;split at s1 <;> first | (cases s1;done) | skip
   ·rw [f2,zci,if_neg zdu] at s1;simp only [f2,zci,if_neg zdu];exact(KQ f1 s1).2 (Hp e) hsame
   ·simp only [zaa,zad] at s1 ⊢;exact⟨s1.1,trivial⟩
  refine KT hC hs I.rel T0 ho λcv ρ' w' r1 r2 r3=> hK _ _ e ρ' (Inv.on D I ho hnl hd2 I.le (λi hi hch=> ?_) r1 (λk hk hck hkl=> ?_) (I.ext.trans r3) r3.toMono r2)
  ·rw [FN (λe=> by subst e;rw [(FI hch).2] at hf;cases hf)];exact I.chain i hi hch
  ·obtain⟨_,_,_,n2,_⟩:=D.names k hk hck;exact r3.kept _ (zay n2 (D.abM I.le)) (I.none k hk hck (Rj hkl))
 ·-- the chain
  have hcc:=(FI hc).1;have T0:=apL D I ho hcc hnl hpre hpost;obtain⟨s1,_⟩:=D.S.step j o ho hcc;have hej:e<=j:=by
   rcases zaT j e with h | h
   ·exact absurd ((I.chain j hj hc).2 h) hnl
   ·exact h
  have hH:Hp j=Hp e:=D.Dk hej (by omega) λi h1 h2=> by
   cases hch:chn ops i with
   | false=> rfl
   | true=>
    have:=hpre i (by omega) (D.facts.chain i j h2 hj hch hc);have:=(I.chain i (by omega) hch).1 this;omega
  rw [hH] at s1;refine KT hC s1 I.rel T0 ho λcv ρ' w' r1 r2 r3=> hK _ _ (j+1) ρ' (Inv.on D I ho hnl hd2 hj (λi hi hch=> ?_) r1 (λk hk hck hkl=> ?_) (I.ext.trans r3) r3.toMono r2)
  ·by_cases e1:i=j
   ·subst e1;exact⟨λ_=> by omega,λ_=> vH.2 (.inr ⟨rfl,by rw [I.size];exact hi⟩)⟩
   ·rw [FN e1];refine⟨λhl=> by have:=(I.chain i hi hch).1 hl;omega,λhlt=> hpre i e1 (D.facts.chain i j (by omega) hj hch hc)⟩
  ·obtain⟨_,_,_,n2,_⟩:=D.names k hk hck;exact r3.kept _ (zay n2 (D.abM I.le)) (I.none k hk hck (Rj hkl))
def unl:List Bool->Nat
 | []=> 0
 | true::l=> unl l
 | false::l=> unl l+1
theorem X6:∀(l:List Bool) (i:Nat),l[i]?=some false->unl (l.set i true)+1=unl l
 | [],i,h=> by simp at h
 | b::l,0,h=> by simp at h;subst h;simp [unl]
 | b::l,i+1,h=> by
  simp at h;have:=X6 l i (by simpa using h);cases b <;> simp [unl] <;> omega
theorem Ub:∀(l:List Bool),unl l=0->∀(i:Nat),i < l.length->l[i]?=some true
 | [],_,i,hi=> by simp at hi
 | b::l,h,0,_=> by cases b <;> simp_all [unl]
 | b::l,h,i+1,hi=> by
  have h':unl l=0:=by cases b <;> simp_all [unl]
  simpa using Ub l h' i (by simpa using hi)
theorem aiN {j:Nat}(hj:j < listed.size):Li listed j↔listed.toList[j]?=some true:=by
 unfold Li;simp [Array.getD,hj]
theorem V3 {j:Nat}(hj:j < listed.size):¬Li listed j↔listed.toList[j]?=some false:=by
 unfold Li;simp [Array.getD,hj]
theorem agl {p:Nat->Prop}:∀n,p n->∃m,p m/\∀i,i < m->¬p i:=by
 intro n
 induction n using Nat.strongRecOn with
 | ind n ih=>
  intro hn;by_cases h:∃i,i < n/\p i
  ·obtain⟨i,hi,hp⟩:=h;exact ih i hi hp
  ·exact⟨n,hn,λi hi hp=> h ⟨i,hi,hp⟩⟩
theorem Ou(F:FD ops)(hs:listed.size=ops.length){k:Nat}(hk:k < ops.length)(hnl:¬Li listed k):Region.ready .any ops.toArray listed≠[]:=by
 have key:∀m,m < ops.length->¬Li listed m->(∀o,ops[m]?=some o->∀e∈o.after,Region.binds .any e=true->Li listed e.on)->Region.ready .any ops.toArray listed≠[]:=by
  intro m hm hn he hnil;have:m∈Region.ready .any ops.toArray listed:=by
   refine mem_ready.2 ⟨?_,ops[m]'hm,by simp [hm],λe h1 h2=> he _ (zab hm) e h1 h2⟩;unfold Li at hn;rw [zck] at hn ⊢;rw [zbH (by omega)] at hn ⊢
   simpa using hn
  rw [hnil] at this;cases this
 by_cases hex:∃m,m < ops.length/\cst ops m=true/\¬Li listed m
 ·obtain⟨m,hm⟩:=hex;obtain⟨m,⟨h1,h2,h3⟩,hmin⟩:=agl (p:=λm=> m < ops.length/\cst ops m=true/\¬Li listed m) m hm;refine key m h1 h3 λo ho e he hb=> ?_;obtain⟨q1,q2⟩:=F.edges m o ho e he hb;unfold Fb at q2;rw [h2] at q2;cases hce:cst ops e.on with
  | false=> rw [hce] at q2;simp at q2
  | true=>
   rw [hce] at q2;simp at q2;by_cases hl:Li listed e.on
   ·exact hl
   ·exact absurd ⟨q1,hce,hl⟩ (hmin e.on q2)
 ·obtain⟨m,⟨h1,h3⟩,hmin⟩:=agl (p:=λm=> m < ops.length/\¬Li listed m) k ⟨hk,hnl⟩;refine key m h1 h3 λo ho e he hb=> ?_;obtain⟨q1,q2⟩:=F.edges m o ho e he hb;by_cases hl:Li listed e.on
  ·exact hl
  ·exfalso;have c1:cst ops m=false:=by cases hc:cst ops m with
    | false=> rfl
    | true=> exact absurd ⟨m,h1,hc,h3⟩ hex
   have c2:cst ops e.on=false:=by cases hc:cst ops e.on with
    | false=> rfl
    | true=> exact absurd ⟨_,q1,hc,hl⟩ hex
   unfold Fb at q2;rw [c1,c2] at q2;simp at q2;exact hmin e.on q2 ⟨q1,hl⟩
theorem agm(D:abL P C ops t H t0 H0 T Hp val nm)(I:Inv ops t Hp val nm H ρ0 w0 a0 listed a w e ρ)(hall:∀i,i < ops.length->Li listed i):
  Rel ρ (Hp ops.length) w/\TOn ρ (Hp ops.length).gen w (λ_=> True) (T ops.length) a/\Ext ρ0 H w0 ρ (Hp ops.length) w:=by
 have hH:Hp ops.length=Hp e:=D.Dk I.le (zac _) λi h1 h2=> by
  cases hch:chn ops i with
  | false=> rfl
  | true=> have:=(I.chain i h2 hch).1 (hall i h2);omega
 rw [hH];refine⟨I.rel,⟨by rw [I.X5,D.amZ _ (zac _)],λd _ hd=> ?_⟩,I.ext⟩;rw [D.amZ _ (zac _)] at hd;obtain⟨t1,t2⟩:=I.tmps d hd;obtain⟨s1,s2⟩:=D.aiM _ (zac _) d hd;by_cases hex:∃(i:Nat) (oi:Oper),ops[i]?=some oi/\oi.dst=some d
 ·obtain⟨i,oi,h1,h2⟩:=hex;have h3:=s1 i oi h1 h2 (.inr (dM h1));have:(T ops.length).getD d aZ=val i:=by simp [List.getD,h3]
  rw [this];exact t1 i oi h1 (hall i (dM h1)) h2
 ·have h3:=s2 λi oi h1 _ h2=> hex ⟨i,oi,h1,h2⟩;have:(T ops.length).getD d aZ=t.getD d aZ:=by simp only [List.getD,h3]
  rw [this];exact t2 λi oi h1 _ h2=> hex ⟨i,oi,h1,h2⟩
theorem ad4(hC:qP P C)(D:abL P C ops t H t0 H0 T Hp val nm){Q:Exit->Act->World->Prop}
  (hQ:∀a' ρ' w',Rel ρ' (Hp ops.length) w'->TOn ρ' (Hp ops.length).gen w' (λ_=> True) (T ops.length) a'->Ext ρ0 H w0 ρ' (Hp ops.length) w'->a'.defers=a0.defers->Q .normal a' w'):
  ∀(fuel:Nat) (listed:Array Bool) (a:Act) (w:World) (e:Nat) (ρ:Ren),unl listed.toList<=fuel->Inv ops t Hp val nm H ρ0 w0 a0 listed a w e ρ->wpAny P .any ops.toArray Q fuel listed a w:=by
 have fin:∀(listed:Array Bool) (a:Act) (w:World) (e:Nat) (ρ:Ren),Inv ops t Hp val nm H ρ0 w0 a0 listed a w e ρ->Region.ready .any ops.toArray listed=[]->Q .normal a w:=by
  intro listed a w e ρ I hnil;have hall:∀i,i < ops.length->Li listed i:=λi hi=> by
   by_cases hl:Li listed i
   ·exact hl
   ·exact absurd hnil (Ou D.facts I.size hi hl)
  obtain⟨h1,h2,h3⟩:=agm D I hall;exact hQ a ρ w h1 h2 h3 I.defers
 intro fuel
 induction fuel with
 | zero=>
  intro listed a w e ρ hu I;have hnil:Region.ready .any ops.toArray listed=[]:=by
   cases hr:Region.ready .any ops.toArray listed with
   | nil=> rfl
   | cons j js=>
    obtain⟨o,ho,hnl,_⟩:=yM I.size I.down (j:=j) (by rw [hr];simp);have hj:j < listed.size:=by rw [I.size];exact dM ho
    exact absurd ((aiN hj).2 (Ub _ (by omega) j (by simpa using hj))) hnl
  exact⟨hnil,fin listed a w e ρ I hnil⟩
 | succ fuel ih=>
  intro listed a w e ρ hu I;refine⟨fin listed a w e ρ I,λj hj=> abP hC D I hj λa' w' e' ρ' I'=> ih _ a' w' e' ρ' ?_ I'⟩;obtain⟨o,ho,hnl,_⟩:=yM I.size I.down hj;have hjs:j < listed.size:=by rw [I.size];exact dM ho
  have:=X6 _ j ((V3 hjs).1 hnl);rw [Array.toList_setIfInBounds];omega
theorem zG(n:Nat):unl (List.replicate n false)=n:=by
 induction n with
 | zero=> rfl
 | succ n ih=> simp [List.replicate_succ,unl,ih]
theorem agn(hC:qP P C)(hKC:kC C)(hm:P.follows .mixedOrders=true){id:Nat}{t':fQ}{H':ah}(h:yI P C ops t H=some (t',H'))(R:Rel ρ H w)(TR:TOn ρ H.gen w (λ_=> True) t a){Q:Exit->Act->World->Prop}
  (hQ:∀a' ρ' w',Rel ρ' H' w'->TOn ρ' H'.gen w' (λ_=> True) t' a'->Ext ρ H w ρ' H' w'->a'.defers=a.defers->Q .normal a' w'):(Code.region id ops.toArray true).wp P Q a w:=by
 unfold yI at h;split at h <;> first | (cases h;done) | skip
 rename_i hok;split at h <;> first | (cases h;done) | skip
 rename_i t0 H0 hcr;obtain⟨hrun,anq⟩:fM P C ops (mW ops) t0 H0=some (t',H')/\∀p∈lJ ops,agree P C ops H.next t0 H0 p:=by
  split at h
  ·rename_i he;rw [he];exact⟨h,by simp⟩
  ·split at h <;> first | (cases h;done) | skip
   rename_i ha;exact⟨h,ha⟩
 have F:=Dj hok;have hmem:∀j,j∈oL ops↔j < ops.length/\cst ops j=true:=λj=> by simp [oL,zbl,za4]
 obtain⟨hf,hg,hlen,nm,vl,h1,h2,h3⟩:=uy (oL ops) t H t0 H0 (List.nodup_range.filter _) (λj hj=> ((hmem j).1 hj).2)
  (λi _ j _ oi oj d a1 a2 a3 a4=> F.amY i j oi oj d a1 a2 a3 a4) hcr
 obtain⟨T,Hp,val,S,hend,hval⟩:=I4 hrun vl;obtain⟨hgen,RH0,EH0⟩:=Ot R hf hg;obtain⟨ρ1,w1,a1,g1,g2⟩:=yL hC _ _ _ _ _ ρ w a hcr R TR;have D:abL P C ops t H t0 H0 T Hp val nm:={
  facts:=F
  S:=S
  names:=λj hj hc=> by
   obtain⟨o,q1,q2,q3,q4,q5⟩:=h1 j ((hmem j).2 ⟨hj,hc⟩);exact⟨o,q1,q2,q3,by rw [hval j hc];exact q4,λd hd hl=> by rw [hval j hc];exact q5 d hd hl⟩
  inj:=λi j hi hj ci cj e=> h2 i ((hmem i).2 ⟨hi,ci⟩) j ((hmem j).2 ⟨hj,cj⟩) e
  rest:=λd hd=> h3 d λj hj o ho=> hd j ((hmem j).1 hj).2 o ho
  len:=hlen
  fresh:=hf
  apK:=hg
  agr:=anq
  ghost:=λp hp d=> by
   obtain⟨ρ2,w2,a2,r1,r2⟩:=I5 hC S g1 g2 p hp;exact RV.nv r1.out _ _ (r2.any d trivial)
  keeps:=hKC }
 have e1:T ops.length=t':=by rw [<-Prod.mk.inj hend |>.1]
 have e2:Hp ops.length=H':=by rw [<-Prod.mk.inj hend |>.2]
 refine wp_region_any hm ?_;have hli:∀j,¬Li (Array.replicate ops.toArray.size false) j:=λj=> by
  unfold Li;simp [Array.getD]
 refine ad4 hC D (a0:=a) (λa' ρ' w' q1 q2 q3 q4=> hQ a' ρ' w' (by rw [<-e2];exact q1) (by rw [<-e1,<-e2];exact q2) (by rw [<-e2];exact q3) q4) ops.toArray.size _ a w.drew 0 ρ (by simp [zG]) ?_;refine⟨by simp,λj o _ hl=> absurd hl (hli j),zaS _,λi _ _=> ⟨λhl=> absurd hl (hli i),λh=> by omega⟩,by rw [S.zero.2];exact RH0.drew,λk hk hc _=> ?_,?_,TR.size,λd hd=> ⟨λj o _ hl=> absurd hl (hli j),λ_=> ?_⟩,rfl⟩
 ·obtain⟨_,_,q1,_⟩:=D.names k hk hc;exact(R.out _ q1).1
 ·rw [S.zero.2];exact EH0.trans (Ext.drew ρ H0 w)
 ·rw [S.zero.2,hgen];exact RV.mono (Ext.drew ρ H w).toMono _ _ (TR.get d trivial hd)
end
section
variable {ρ ρ1:Ren}{G:Nat->Nat}{H1:ah}{w1:World}{n:Nat}
theorem zH {f:AV->Option AV}(hf:∀x x' cv,f x=some x'->RV ρ1 H1.gen w1 x cv->RV ρ G w1 x' cv):∀(xs xs':List AV) (l:List Value),xs.mapM f=some xs'->RVs ρ1 H1.gen w1 xs l->RVs ρ G w1 xs' l
 | [],xs',l,h,hl=> by
  simp at h;subst h
  simpa only [RVs] using hl
 | x::xs,xs',l,h,hl=> by
  rw [zbm] at h;cases h1:f x with
  | none=> rw [h1] at h;cases h
  | some y=>
   rw [h1] at h;cases h2:xs.mapM f with
   | none=> rw [h2] at h;cases h
   | some ys=>
    rw [h2] at h;simp only [zcf,za6,zcF,zaa] at h;subst h;simp only [RVs] at hl ⊢;obtain⟨v,vs,rfl,a,b⟩:=hl;exact⟨v,vs,rfl,hf _ _ _ h1 a,zH hf xs ys vs h2 b⟩
theorem Ef {f:AV->Option AV}(hf:∀x x' cv,f x=some x'->RV ρ1 H1.gen w1 x cv->RV ρ G w1 x' cv):∀(xs xs':List AV) (b o:Nat),xs.mapM f=some xs'->RVc ρ1 H1.gen w1 xs b o->RVc ρ G w1 xs' b o
 | [],xs',b,o,h,hl=> by
  simp at h;subst h;simp only [RVc]
 | x::xs,xs',b,o,h,hl=> by
  rw [zbm] at h;cases h1:f x with
  | none=> rw [h1] at h;cases h
  | some y=>
   rw [h1] at h;cases h2:xs.mapM f with
   | none=> rw [h2] at h;cases h
   | some ys=>
    rw [h2] at h;simp only [zcf,za6,zcF,zaa] at h;subst h;simp only [RVc] at hl ⊢;obtain⟨⟨v,e,a⟩,c⟩:=hl;exact⟨⟨v,e,hf _ _ _ h1 a⟩,Ef hf xs ys b (o+1) h2 c⟩
theorem yN {f:AV->Option AV}:∀(xs xs':List AV),xs.mapM f=some xs'->xs'.length=xs.length
 | [],xs',h=> by simp at h;subst h;rfl
 | x::xs,xs',h=> by
  rw [zbm] at h;cases h1:f x with
  | none=> rw [h1] at h;cases h
  | some y=>
   rw [h1] at h;cases h2:xs.mapM f with
   | none=> rw [h2] at h;cases h
   | some ys=>
    rw [h2] at h;simp only [zcf,za6,zcF,zaa] at h;subst h;simp [yN xs ys h2]
theorem X7(R1:Rel ρ1 H1 w1)(hlt:∀r,r < n->ρ r=ρ1 r/\G r=H1.gen r)(hge:∀r,n<=r->ρ r=none):
  ∀(d:Nat) (x x':AV) (cv:Value),bP H1 n d x=some x'->RV ρ1 H1.gen w1 x cv->RV ρ G w1 x' cv:=by
 have apM:∀b,Imm ρ1 b->Imm ρ b:=by
  intro b hi r sh hr;rcases zaT r n with h | h
  ·rw [(hlt r h).1] at hr;exact hi r sh hr
  ·rw [hge r h] at hr;cases hr
 intro d
 induction d with
 | zero=> intro x x' cv h;cases h
 | succ d ih=>
  intro x x' cv h hv;cases x with
  | s v=> simp only [bP,zaa] at h;subst h;simpa only [RV] using hv
  | ref r g off=>
   simp only [bP] at h;split at h <;> first | (cases h;done) | skip
   rename_i hr;simp only [zaa] at h;subst h;obtain⟨e1,e2⟩:=hlt r hr;simp only [RV] at hv ⊢;rw [e1,e2];exact hv
  | mp r=>
   simp only [bP] at h;split at h <;> first | (cases h;done) | skip
   rename_i hr;simp only [zaa] at h;subst h;obtain⟨e1,e2⟩:=hlt r hr;simp only [RV] at hv ⊢;rw [e1,e2];exact hv
  | sl r g off esz len cap ex=>
   simp only [bP] at h;split at h
   ·rename_i hr;simp only [zaa] at h;subst h;obtain⟨e1,e2⟩:=hlt r hr;simp only [RV] at hv ⊢;rw [e1,e2];exact hv
   ·rename_i hr;split at h <;> first | (cases h;done) | skip
    rename_i cells hcl;cases hm:cells.mapM (bP H1 n d) with
    | none=> rw [hm] at h;cases h
    | some l=>
     rw [hm] at h;simp only [zak,zaa] at h;subst h;simp only [cZ] at hcl;split at hcl <;> first | (cases hcl;done) | skip
     rename_i g' ty all ho;split at hcl <;> first | (cases hcl;done) | skip
     rename_i hc;obtain⟨rfl,hle⟩:=hc;simp only [zaa] at hcl;simp only [RV] at hv ⊢;obtain⟨b,o,c,rfl,q1,q2,q3,q4,q5⟩:=hv;obtain⟨sh,e,k,hr1,hoo,hsh,hcap⟩:=q5 (by simp [ah.gen,ho,fV.gen]);have vG:=R1.obj r b sh hr1;simp only [yG,ho] at vG;obtain⟨cs,e',hb,hz,hcc,_⟩:=vG;have hll:cells.length=len*esz:=by rw [<-hcl];simp;omega
     refine⟨b,o,c,rfl,by omega,by rw [yN _ _ hm,hll],nX hb,λr' sh' hr'=> ?_,?_⟩
     ·rcases zaT r' n with h' | h'
      ·rw [(hlt r' h').1] at hr';have:=R1.inj r' r b sh' sh hr' hr1;omega
      ·rw [hge r' h'] at hr';cases hr'
     ·refine Ef ih cells l b o hm ?_;by_cases h0:c=0
      ·have:len=0:=by omega
       subst this;rw [<-hcl];simp [RVc]
      ·rw [hoo (by omega),<-hcl];exact uf _ (qV off hcc)
  | ip cells=>
   simp only [bP] at h;cases hm:cells.mapM (bP H1 n d) with
   | none=> rw [hm] at h;cases h
   | some l=>
    rw [hm] at h;simp only [zak,zaa] at h;subst h;simp only [RV] at hv ⊢;obtain⟨b,o,e,h1,h2,h3⟩:=hv;exact⟨b,o,e,h1,apM b h2,Ef ih cells l b o hm h3⟩
  | vs k esz cells=>
   simp only [bP] at h;cases hm:cells.mapM (bP H1 n d) with
   | none=> rw [hm] at h;cases h
   | some l=>
    rw [hm] at h;simp only [zak,zaa] at h;subst h;simp only [RV] at hv ⊢;obtain⟨b,o,c,e,h0,h00,h1,h2,h3⟩:=hv;exact⟨b,o,c,e,h0,by rw [yN _ _ hm];exact h00,h1,apM b h2,Ef ih cells l b o hm h3⟩
  | fn f a c=>
   simp only [bP] at h;split at h <;> first | (cases h;done) | skip
   rename_i a' c' ha hc;simp only [zaa] at h;subst h;simp only [RV] at hv ⊢;obtain⟨a0,c0,e,h1,h2⟩:=hv;exact⟨a0,c0,e,zH ih _ _ _ ha h1,zH ih _ _ _ hc h2⟩
  | agg cells=>
   simp only [bP] at h;cases hm:cells.mapM (bP H1 n d) with
   | none=> rw [hm] at h;cases h
   | some l=>
    rw [hm] at h;simp only [zak,zaa] at h;subst h;simp only [RV] at hv ⊢;obtain⟨cs,e,h1⟩:=hv;exact⟨cs,e,zH ih _ _ _ hm h1⟩
  | tup cells=>
   simp only [bP] at h;cases hm:cells.mapM (bP H1 n d) with
   | none=> rw [hm] at h;cases h
   | some l=>
    rw [hm] at h;simp only [zak,zaa] at h;subst h;simp only [RV] at hv ⊢;obtain⟨cs,e,h1⟩:=hv;exact⟨cs,e,zH ih _ _ _ hm h1⟩
end
theorem X8 {ρ ρ1:Ren}{H H1:ah}{w w1:World}(R:Rel ρ H w)(K:Keeps H.guard H1)(R1:Rel ρ1 H1 w1)(E:Ext ρ H w ρ1 H1 w1){d:Nat}{x x':AV}{cv:Value}
  (hf:bP H1 H.next d x=some x') (hv:RV ρ1 H1.gen w1 x cv):Rel ρ H w1/\RV ρ H.gen w1 x' cv/\Ext ρ H w ρ H w1:=by
 have hget:∀r,r < H.next->H1.get r=H.get r:=λr hr=> K.get r hr hr
 have hgen:∀r,r < H.next->H1.gen r=H.gen r:=λr hr=> by simp only [ah.gen,hget r hr]
 have hlt:∀r,r < H.next->ρ r=ρ1 r/\H.gen r=H1.gen r:=by
  intro r hr;refine⟨?_,(hgen r hr).symm⟩;cases h:ρ r with
  | none=> exact(E.kept r hr h).symm
  | some x=> exact(E.same r x h (hgen r hr)).symm
 have hge:∀r,H.next<=r->ρ r=none:=λr hr=> (R.out r hr).1
 have hfr:=X7 (G:=H.gen) R1 hlt hge d x x' cv hf hv;have hE:Ext ρ H w ρ H w1:=⟨zac _,λ_=> zac _,λ_ _ h _=> h,λ_ _ h=> h,λ_ _ sh h=> .inr ⟨sh,h⟩,E.size,E.frame,E.shape,E.os,E.tape,E.output⟩
 refine⟨⟨R.out,λr b sh h=> ?_,R.inj,R.gl.ext hE⟩,hfr,hE⟩;have hr:=R.lt h;have h1:=R1.obj r b sh (by rw [<-(hlt r hr).1];exact h);rw [hget r hr] at h1;have h0:=R.obj r b sh h
 -- the object as it was,in the new world
 have hB:Back H.next ρ1 H1.gen ρ H.gen:=⟨λr hr=> (hgen r hr).symm,λr hr=> .inr (hlt r hr).1,λr x hx=> by
  have:=R.lt (b:=x.1) (sh:=x.2) hx;rw [<-(hlt r this).1];exact hx⟩
 unfold yG at h1 h0 ⊢;cases ho:H.get r with
 | blk g ty cells=>
  rw [ho] at h1 h0;obtain⟨cs,e,q1,q2,q3⟩:=h1;obtain⟨_,_,_,_,z3,_⟩:=h0;exact⟨cs,e,q1,q2,RVc.back hB R.out cells b sh b sh z3 q3.1,q3.2⟩
 | map k es=>
  rw [ho] at h1 h0;obtain⟨ces,bZ,q1,q2,q3⟩:=h1;obtain⟨_,_,_,_,z3,_⟩:=h0;exact⟨ces,bZ,q1,q2,RVm.back hB R.out es _ _ z3 q3.1,q3.2⟩
inductive Ex where
 | normal
 | exit (id:Nat)
 | ret
def Ex.to:Ex->Exit
 | .normal=> .normal
 | .exit id=> .exit id
 | .ret=> .ret
abbrev Res:=Option (Ex × fQ × ah)
abbrev Run:=fQ->ah->Res
def rV(r:Res)(k:Run):Res:=
 match r with
 | some (.normal,t,H)=> k t H
 | some (.exit i,t,H)=> some (.exit i,t,H)
 | some (.ret,t,H)=> some (.ret,t,H)
 | none=> none
def Dl(id:Nat)(r:Res):Res:=
 match r with
 | some (.exit i,t,H)=> if i=id then some (.normal,t,H) else some (.exit i,t,H)
 | some (.normal,t,H)=> some (.normal,t,H)
 | some (.ret,t,H)=> some (.ret,t,H)
 | none=> none
def Bv(f:Run):Nat->Run
 | 0,_,_=> none
 | n+1,t,H=> rV (f t H) (Bv f n)
open Classical in
def agp {α:Type}(g:Nat->Option α):Option α:=if h:∃n,(g n).isSome=true then g (Classical.choose h) else none
def V4(f:Run):Run:=λt H=> agp λn=> Bv f n t H
def fD(P:Program)(C:aC):Code->Run
 | .skip=> λt H=> some (.normal,t,H)
 | .region _ ops draw=> λt H=> match(if draw then yI P C ops.toList t H else N7 P C ops.toList ops.toList t H) with
  | some (t',H')=> some (.normal,t',H')
  | none=> none
 | .seq a b=> λt H=> rV (fD P C a t H) (fD P C b)
 | .cond c a b=> λt H=> match dN t c with
  | .s (.bool true)=> fD P C a t H
  | .s (.bool false)=> fD P C b t H
  | _=> none
 | .block id c=> λt H=> Dl id (fD P C c t H)
 | .loop c=> V4 (fD P C c)
 | .exit id=> λt H=> some (.exit id,t,H)
 | .ret=> λt H=> some (.ret,t,H)
 | _=> λ_ _=> none
def Uc(P:Program)(t:fQ)(H:ah):ResultVar->Option AV
 | .tmp d=> some (t.getD d aZ)
 | .cell a ty=> (QS P ty (t.getD a aZ) H).map (·.1)
def jo(P:Program)(rs:List ResultVar)(t:fQ)(H:ah):Option AV:=
 match rs.mapM (Uc P t H) with
 | some [x]=> some x
 | some xs=> some (.tup xs)
 | none=> none
def zo(P:Program)(C:aC)(f:FuncId)(args:List AV):AM AV:=λH=>
 match P.funcs[f]? with
 | some fn=> match fn.body with
  | some c=> match fD P C c (args++List.replicate (fn.ntmps - args.length) aZ) H with
   | some (.exit _,_,_)=> none
   | some (_,t,H')=> (jo P fn.results.toList t H').map λv=> (v,H')
   | none=> none
  | none=> none
 | none=> none
structure Pol where
 pure:FuncId->Bool
 abq:FuncId->Option (List AV->AM AV)
def Bz(P:Program)(L:Pol)(C:aC):aC:=λf args H=>
 match L.abq f with
 | some p=> p args H
 | none=>
  if L.pure f then
   match zo P C f args H.guard with
   | some (v,H1)=> (bP H1 H.next 9 v).map λv'=> (v',H)
   | none=> none
  else zo P C f args H
theorem lu {α:Type}{g:Nat->Option α}{r:α}(h:agp g=some r):∃n,g n=some r:=by
 unfold agp at h;split at h
 ·exact⟨_,h⟩
 ·cases h
theorem abQ {α:Type}{g:Nat->Option α}(hg:∀n r,g n=some r->g (n+1)=some r){n:Nat}{r:α}(h:g n=some r):∀k,g (n+k)=some r:=by
 intro k
 induction k with
 | zero=> exact h
 | succ k ih=> exact hg _ _ ih
theorem KU {α:Type}{g:Nat->Option α}(hg:∀n r,g n=some r->g (n+1)=some r){n m:Nat}{r:α}(h:g n=some r)(hm:n<=m):g m=some r:=by
 have:=abQ hg h (m - n)
 rwa [show n+(m - n)=m by omega] at this
theorem wz {α:Type}{g:Nat->Option α}(hg:∀n r,g n=some r->g (n+1)=some r){n:Nat}{r:α}(h:g n=some r):agp g=some r:=by
 unfold agp;have hex:∃n,(g n).isSome=true:=⟨n,by rw [h];rfl⟩
 rw [dif_pos hex];have hc:=Classical.choose_spec hex;cases hx:g (Classical.choose hex) with
 | none=> rw [hx] at hc;cases hc
 | some r'=>
  rcases Nat.le_total n (Classical.choose hex) with hl | hl
  ·rw [KU hg h hl] at hx;exact hx.symm
  ·rw [KU hg hx hl] at h;exact h
theorem I8 {f:Run}:∀n t H r,Bv f n t H=some r->Bv f (n+1) t H=some r:=by
 intro n
 induction n with
 | zero=> intro t H r h;cases h
 | succ n ih=>
  intro t H r h;show rV (f t H) (Bv f (n+1))=some r
  change rV (f t H) (Bv f n)=some r at h
  unfold rV at h ⊢;split at h
  ·exact ih _ _ _ h
  ·exact h
  ·exact h
  ·cases h
section
variable {P:Program}{C:aC}{ρ:Ren}{H H':ah}{w:World}{t t':fQ}{a:Act}
theorem zJ {ops rest:List Oper}{o:Oper}:N7 P C ops (o::rest) t H=match mQ P C ops false o t H with
  | some (v,H')=> N7 P C ops rest (vS t o.dst v) H'
  | none=> none:=by
 simp only [N7,mQ];cases tY ops t o with
 | none=> rfl
 | some b=>
  cases b
  ·rfl
  ·cases opA P C t o H <;> rfl
theorem aiO(hC:qP P C){ops:List Oper}{Q:Exit->Act->World->Prop}:∀(m k:Nat) (t:fQ) (H:ah) (a:Act) (w:World) (ρ:Ren),m+k=ops.length->N7 P C ops (ops.drop k) t H=some (t',H')->Rel ρ H w->TOn ρ H.gen w (λ_=> True) t a->
  (∀a' ρ' w',Rel ρ' H' w'->TOn ρ' H'.gen w' (λ_=> True) t' a'->Ext ρ H w ρ' H' w'->a'.defers=a.defers->Q .normal a' w')->wpOps P ops.toArray Q (List.range' k m) a w:=by
 intro m
 induction m with
 | zero=>
  intro k t H a w ρ hk h R T hQ;rw [List.drop_eq_nil_of_le (by omega)] at h;simp only [N7,zaa,zad] at h;obtain⟨rfl,rfl⟩:=h;exact hQ a ρ w R T (Ext.refl _ _ _) rfl
 | succ m ih=>
  intro k t H a w ρ hk h R T hQ;have hlt:k < ops.length:=by omega
  have ho:ops[k]?=some (ops[k]'hlt):=zab hlt;rw [zby hlt,zJ] at h;cases hs:mQ P C ops false (ops[k]'hlt) t H with
  | none=> rw [hs] at h;cases h
  | some r=>
   obtain⟨v,H1⟩:=r;rw [hs] at h;simp only at h;rw [zdc,wpOps_cons];refine KT hC hs R (T.sub λ_ _=> trivial) ho λcv ρ' w' r1 r2 r3=> ?_;refine ih (k+1) _ _ _ w' ρ' (by omega) h r1 ((T.keep r3).put _ r2) λa' ρ2 w2 q1 q2 q3 q4=> hQ a' ρ2 w2 q1 q2 (r3.trans q3) (q4.trans ?_);cases(ops[k]'hlt).dst <;> rfl
abbrev anr(ρ:Ren)(H:ah)(w:World)(a:Act)(t':fQ)(H':ah)(Q:Act->World->Prop):Prop:=
 ∀a' ρ' w',Rel ρ' H' w'->TOn ρ' H'.gen w' (λ_=> True) t' a'->Ext ρ H w ρ' H' w'->a'.defers=a.defers->Q a' w'
def wB(P:Program)(c:Code)(f:Run):Prop:=
 ∀t H e t' H',f t H=some (e,t',H')->∀(ρ:Ren) (w:World) (a:Act),Rel ρ H w->TOn ρ H.gen w (λ_=> True) t a->∀Q:Exit->Act->World->Prop,anr ρ H w a t' H' (Q e.to)->c.wp P Q a w
theorem V5 {c d:Code}{f g:Run}(hf:wB P c f)(hg:∀t H e t' H',g t H=some (e,t',H')->∀(ρ:Ren) (w:World) (a:Act),Rel ρ H w->TOn ρ H.gen w (λ_=> True) t a->∀Q:Exit->Act->World->Prop,anr ρ H w a t' H' (Q e.to)->d.wp P Q a w):
  wB P (.seq c d) λt H=> rV (f t H) g:=by
 intro t H e t' H' h ρ w a R T Q hQ;refine wp_seq ?_
 change rV (f t H) g=_ at h
 unfold rV at h;split at h
 ·rename_i t1 H1 hf1;refine hf t H _ t1 H1 hf1 ρ w a R T _ λa' ρ' w' r1 r2 r3 r4=> ?_;exact hg t1 H1 e t' H' h ρ' w' a' r1 r2 Q λa2 ρ2 w2 q1 q2 q3 q4=> hQ a2 ρ2 w2 q1 q2 (r3.trans q3) (q4.trans r4)
 ·rename_i i t1 H1 hf1;simp only [zaa,zad] at h;obtain⟨rfl,rfl,rfl⟩:=h;exact hf t H _ t1 H1 hf1 ρ w a R T _ hQ
 ·rename_i t1 H1 hf1;simp only [zaa,zad] at h;obtain⟨rfl,rfl,rfl⟩:=h;exact hf t H _ t1 H1 hf1 ρ w a R T _ hQ
 ·cases h
open Classical in
theorem V6 {c:Code}{f:Run}(hf:wB P c f):wB P (.loop c) (V4 f):=by
 intro t H e t' H' h ρ w a R T Q hQ;obtain⟨n,hn⟩:=lu h;let I:Nat->Act->World->Prop:=λn a1 w1=>∃t1 H1 ρ1,Bv f n t1 H1=some (e,t',H')/\Rel ρ1 H1 w1/\TOn ρ1 H1.gen w1 (λ_=> True) t1 a1/\Ext ρ H w ρ1 H1 w1/\a1.defers=a.defers
 let μ:Act->World->Nat:=λa1 w1=> if hx:∃n,I n a1 w1/\∀i,i < n->¬I i a1 w1 then Classical.choose hx else 0
 have hμ:∀n a1 w1,I n a1 w1->I (μ a1 w1) a1 w1/\μ a1 w1<=n:=by
  intro n a1 w1 hi;have hx:∃n,I n a1 w1/\∀i,i < n->¬I i a1 w1:=agl (p:=λn=> I n a1 w1) n hi;have hsp:=Classical.choose_spec hx;have hdef:μ a1 w1=Classical.choose hx:=dif_pos hx;rw [hdef];refine⟨hsp.1,?_⟩;rcases zaT n (Classical.choose hx) with hl | hl
  ·exact absurd hi (hsp.2 n hl)
  ·exact hl
 refine wp_loop (λa1 w1=>∃n,I n a1 w1) μ ⟨n,t,H,ρ,hn,R,T,Ext.refl _ _ _,rfl⟩ λa1 w1 ⟨n1,hi⟩=> ?_;obtain⟨⟨t1,H1,ρ1,h1,R1,T1,E1,D1⟩,_⟩:=hμ n1 a1 w1 hi;cases hm:μ a1 w1 with
 | zero=> rw [hm] at h1;cases h1
 | succ m=>
  rw [hm] at h1
  change rV (f t1 H1) (Bv f m)=_ at h1
  unfold rV at h1;split at h1
  ·rename_i t2 H2 hf1;refine hf t1 H1 _ t2 H2 hf1 ρ1 w1 a1 R1 T1 _ λa2 ρ2 w2 r1 r2 r3 r4=> ?_;have hi2:I m a2 w2:=⟨t2,H2,ρ2,h1,r1,r2,E1.trans r3,r4.trans D1⟩
   exact⟨⟨m,hi2⟩,by have:=(hμ m a2 w2 hi2).2;omega⟩
  ·rename_i i t2 H2 hf1;simp only [zaa,zad] at h1;obtain⟨rfl,rfl,rfl⟩:=h1;exact hf t1 H1 _ _ _ hf1 ρ1 w1 a1 R1 T1 _ λa2 ρ2 w2 r1 r2 r3 r4=> hQ a2 ρ2 w2 r1 r2 (E1.trans r3) (r4.trans D1)
  ·rename_i t2 H2 hf1;simp only [zaa,zad] at h1;obtain⟨rfl,rfl,rfl⟩:=h1;exact hf t1 H1 _ _ _ hf1 ρ1 w1 a1 R1 T1 _ λa2 ρ2 w2 r1 r2 r3 r4=> hQ a2 ρ2 w2 r1 r2 (E1.trans r3) (r4.trans D1)
  ·cases h1
theorem BA(hC:qP P C)(hK:kC C)(hm:P.follows .mixedOrders=true):∀c:Code,wB P c (fD P C c):=by
 intro c
 induction c with
 | skip=>
  intro t H e t' H' h ρ w a R T Q hQ;simp only [fD,zaa,zad] at h;obtain⟨rfl,rfl,rfl⟩:=h;exact wp_skip (hQ a ρ w R T (Ext.refl _ _ _) rfl)
 | region id ops draw=>
  intro t H e t' H' h ρ w a R T Q hQ;simp only [fD] at h;cases draw with
  | true=>
   simp only [if_true] at h;split at h <;> first | (cases h;done) | skip
   rename_i t1 H1 hd;simp only [zaa,zad] at h;obtain⟨rfl,rfl,rfl⟩:=h;have:=agn hC hK hm (id:=id) hd R T (Q:=Q) hQ
   simpa using this
  | false=>
   simp only [zaf,if_false] at h;split at h <;> first | (cases h;done) | skip
   rename_i t1 H1 hd;simp only [zaa,zad] at h;obtain⟨rfl,rfl,rfl⟩:=h;refine wp_region ?_;have:=aiO hC (ops:=ops.toList) (Q:=Q) ops.toList.length 0 t H a w ρ (by simp) (by simpa using hd) R T hQ;rw [zcR]
   simpa using this
 | seq x y ihx ihy=> exact V5 ihx ihy
 | cond c x y ihx ihy=>
  intro t H e t' H' h ρ w a R T Q hQ;simp only [fD] at h;have hev:RV ρ H.gen w (dN t c) (a.eval c):=by
   cases c with
   | tmp d=> exact T.any d trivial
   | const v=> simp [dN,Act.eval,RV]
   | global g=> simp [dN,Act.eval,RV]
   | func f=> simp [dN,Act.eval,RV,RVs]
  split at h
  ·rename_i hb;rw [hb] at hev;simp only [RV] at hev;exact wp_cond_true hev (ihx t H e t' H' h ρ w a R T Q hQ)
  ·rename_i hb;rw [hb] at hev;simp only [RV] at hev;exact wp_cond_false hev (ihy t H e t' H' h ρ w a R T Q hQ)
  ·cases h
 | block id x ih=>
  intro t H e t' H' h ρ w a R T Q hQ;simp only [fD] at h;refine wp_block ?_;unfold Dl at h;split at h
  ·rename_i i t1 H1 hf;refine ih t H _ t1 H1 hf ρ w a R T _ λa2 ρ2 w2 r1 r2 r3 r4=> ?_;simp only [Ex.to,Exit.inBlock];split at h
   ·rename_i hid;simp only [zaa,zad] at h;obtain⟨rfl,rfl,rfl⟩:=h;rw [if_pos hid];exact hQ a2 ρ2 w2 r1 r2 r3 r4
   ·rename_i hid;simp only [zaa,zad] at h;obtain⟨rfl,rfl,rfl⟩:=h;rw [if_neg hid];exact hQ a2 ρ2 w2 r1 r2 r3 r4
  ·rename_i t1 H1 hf;simp only [zaa,zad] at h;obtain⟨rfl,rfl,rfl⟩:=h;exact ih t H _ t1 H1 hf ρ w a R T _ hQ
  ·rename_i t1 H1 hf;simp only [zaa,zad] at h;obtain⟨rfl,rfl,rfl⟩:=h;exact ih t H _ t1 H1 hf ρ w a R T _ hQ
  ·cases h
 | loop x ih=> exact V6 ih
 | exit id=>
  intro t H e t' H' h ρ w a R T Q hQ;simp only [fD,zaa,zad] at h;obtain⟨rfl,rfl,rfl⟩:=h;exact wp_exit (hQ a ρ w R T (Ext.refl _ _ _) rfl)
 | ret=>
  intro t H e t' H' h ρ w a R T Q hQ;simp only [fD,zaa,zad] at h;obtain⟨rfl,rfl,rfl⟩:=h;exact wp_ret (hQ a ρ w R T (Ext.refl _ _ _) rfl)
 | _=> intro t H e t' H' h;simp [fD] at h
end
section
variable {P:Program}{C:aC}{ρ:Ren}{H H':ah}{w:World}{t t':fQ}{a:Act}
theorem I9(hC:kC C){ops:List Oper}{lo:Bool}{o:Oper}{v:AV}(h:mQ P C ops lo o t H=some (v,H')):Keeps H H':=by
 unfold mQ at h;split at h <;> first | (cases h;done) | skip
 ·split at h
  ·have:=(FC hC h).1;exact⟨this.1,this.2.1,λr _ h2=> this.2.2 r h2,λr h2=> by rw [this.2.2 r h2];exact .refl _⟩
  ·exact Ee hC h
 ·simp only [zaa,zad] at h;rw [h.2];exact .refl _
theorem Ja(hC:kC C){ops:List Oper}:∀(l:List Oper) (t:fQ) (H:ah),N7 P C ops l t H=some (t',H')->Keeps H H'
 | [],t,H,h=> by
  simp only [N7,zaa,zad] at h;rw [h.2];exact .refl _
 | o::l,t,H,h=> by
  rw [zJ] at h;split at h <;> first | (cases h;done) | skip
  rename_i v H1 h1;exact(I9 hC h1).trans (Ja hC l _ _ h)
theorem yt(hC:kC C){ops:List Oper}:∀(l:List Nat) (t:fQ) (H:ah),iJ P C ops l t H=some (t',H')->Keeps H H'
 | [],t,H,h=> by
  simp only [iJ,zaa,zad] at h;rw [h.2];exact .refl _
 | i::l,t,H,h=> by
  simp only [iJ] at h;split at h <;> first | (cases h;done) | skip
  split at h <;> first | (cases h;done) | skip
  rename_i v H1 h1;exact(Ee hC h1).trans (yt hC l _ _ h)
theorem uz(hC:kC C){ops:List Oper}:∀(l:List Nat) (t:fQ) (H:ah),fM P C ops l t H=some (t',H')->Keeps H H'
 | [],t,H,h=> by
  simp only [fM,zaa,zad] at h;rw [h.2];exact .refl _
 | i::l,t,H,h=> by
  simp only [fM] at h;split at h <;> first | (cases h;done) | skip
  split at h <;> first | (cases h;done) | skip
  rename_i v H1 h1;exact(I9 hC h1).trans (uz hC l _ _ h)
theorem Rk(hC:kC C){ops:List Oper}(h:yI P C ops t H=some (t',H')):Keeps H H':=by
 unfold yI at h;split at h <;> first | (cases h;done) | skip
 split at h <;> first | (cases h;done) | skip
 rename_i t0 H0 h0;have k0:=yt hC _ _ _ h0;split at h
 ·exact k0.trans (uz hC _ _ _ h)
 ·split at h <;> first | (cases h;done) | skip
  exact k0.trans (uz hC _ _ _ h)
def uD(f:Run):Prop:=∀t H e t' H',f t H=some (e,t',H')->Keeps H H'
theorem Jb {f g:Run}(hf:uD f)(hg:uD g):uD λt H=> rV (f t H) g:=by
 intro t H e t' H' h
 change rV (f t H) g=_ at h
 unfold rV at h;split at h
 ·rename_i t1 H1 h1;exact(hf _ _ _ _ _ h1).trans (hg _ _ _ _ _ h)
 ·rename_i i t1 H1 h1;simp only [zaa,zad] at h;obtain⟨_,_,rfl⟩:=h;exact hf _ _ _ _ _ h1
 ·rename_i t1 H1 h1;simp only [zaa,zad] at h;obtain⟨_,_,rfl⟩:=h;exact hf _ _ _ _ _ h1
 ·cases h
theorem V7 {f:Run}(hf:uD f):uD (V4 f):=by
 have key:∀n,uD (Bv f n):=by
  intro n
  induction n with
  | zero=> intro t H e t' H' h;cases h
  | succ n ih=> exact Jb hf ih
 intro t H e t' H' h;obtain⟨n,hn⟩:=lu h;exact key n t H e t' H' hn
theorem V8(hC:kC C):∀c:Code,uD (fD P C c):=by
 intro c
 induction c with
 | skip=>
  intro t H e t' H' h;simp only [fD,zaa,zad] at h;rw [<-h.2.2];exact .refl _
 | region id ops draw=>
  intro t H e t' H' h;simp only [fD] at h;split at h <;> first | (cases h;done) | skip
  rename_i t1 H1 hd;simp only [zaa,zad] at h;obtain⟨_,rfl,rfl⟩:=h;split at hd
  ·exact Rk hC hd
  ·exact Ja hC _ _ _ hd
 | seq x y ihx ihy=> exact Jb ihx ihy
 | cond c x y ihx ihy=>
  intro t H e t' H' h;simp only [fD] at h;split at h
  ·exact ihx _ _ _ _ _ h
  ·exact ihy _ _ _ _ _ h
  ·cases h
 | block id x ih=>
  intro t H e t' H' h;simp only [fD] at h;unfold Dl at h;split at h
  ·rename_i i t1 H1 hf;split at h <;>
   ·simp only [zaa,zad] at h;obtain⟨_,_,rfl⟩:=h;exact ih _ _ _ _ _ hf
  ·rename_i t1 H1 hf;simp only [zaa,zad] at h;obtain⟨_,_,rfl⟩:=h;exact ih _ _ _ _ _ hf
  ·rename_i t1 H1 hf;simp only [zaa,zad] at h;obtain⟨_,_,rfl⟩:=h;exact ih _ _ _ _ _ hf
  ·cases h
 | loop x ih=> exact V7 ih
 | exit id=>
  intro t H e t' H' h;simp only [fD,zaa,zad] at h;rw [<-h.2.2];exact .refl _
 | ret=>
  intro t H e t' H' h;simp only [fD,zaa,zad] at h;rw [<-h.2.2];exact .refl _
 | _=> intro t H e t' H' h;simp [fD] at h
theorem Jc(hC:kC C){f:FuncId}{args:List AV}{v:AV}(h:zo P C f args H=some (v,H')):Keeps H H':=by
 unfold zo at h;split at h <;> first | (cases h;done) | skip
 split at h <;> first | (cases h;done) | skip
 split at h <;> first | (cases h;done) | skip
 rename_i e t1 H1 hne he;have:=V8 hC _ _ _ _ _ _ he;cases hr:jo P _ t1 H1 with
 | none=> rw [hr] at h;cases h
 | some x=>
  rw [hr] at h;simp only [zak,zaa,zad] at h;rw [<-h.2];exact this
def am0(tmps:Array Value):ResultVar->Sem Value
 | .tmp t=> pure (tmps.getD t undef)
 | .cell a t=> do loadVar t (<-asAddr (tmps.getD a undef))
theorem Ov(fn:Func)(tmps:Array Value):results fn tmps=(do
  let vs<-fn.results.mapM (am0 tmps)
  pure (if h:vs.size=1 then vs[0] else .tuple vs)):=by
 rfl
theorem agq(R:Rel ρ H w)(T:TOn ρ H.gen w (λ_=> True) t a){x:ResultVar}{v:AV}(h:Uc P t H x=some v):
  ∃cv,(am0 a.tmps x).run P w=.ok cv w/\RV ρ H.gen w v cv:=by
 cases x with
 | tmp d=>
  simp only [Uc,zaa] at h;subst h;exact⟨_,rfl,T.any d trivial⟩
 | cell b ty=>
  simp only [Uc] at h;cases hl:QS P ty (t.getD b aZ) H with
  | none=> rw [hl] at h;cases h
  | some r=>
   obtain⟨u,H1⟩:=r;rw [hl] at h;simp only [zak,zaa] at h;subst h;have hx:=T.any b trivial;obtain⟨_,cv,h1,h2⟩:=XP R hx hl;have hp:∃ad,a.tmps.getD b undef=.pointer (some ad):=by
    have h':=(uj hl).1;unfold af9 at h';split at h'
    ·rename_i hb;rw [hb] at hx h';simp only [RV] at hx;obtain⟨ad,e,_⟩:=hx;exact⟨ad,e⟩
    ·rename_i hb;rw [hb] at hx;simp only [RV] at hx;obtain⟨b,o,e,_⟩:=hx;exact⟨_,e⟩
    ·cases h'
   obtain⟨ad,hp⟩:=hp;refine⟨cv,?_,h2⟩;rw [hp] at h1;simp only [am0,hp]
   simpa [Instr.loadAt,Instr.sureAddr,asAddr] using h1
theorem Ud(R:Rel ρ H w)(T:TOn ρ H.gen w (λ_=> True) t a):∀(rs:List ResultVar) (xs:List AV),rs.mapM (Uc P t H)=some xs->
  ∃cs:List Value,(rs.mapM (am0 a.tmps)).run P w=.ok cs w/\RVs ρ H.gen w xs cs
 | [],xs,h=> by
  simp at h;subst h;exact⟨[],by simp,by simp [RVs]⟩
 | r::rs,xs,h=> by
  rw [zbm] at h;cases h1:Uc P t H r with
  | none=> rw [h1] at h;cases h
  | some y=>
   rw [h1] at h;cases h2:rs.mapM (Uc P t H) with
   | none=> rw [h2] at h;cases h
   | some ys=>
    rw [h2] at h;simp only [zcf,za6,zcF,zaa] at h;subst h;obtain⟨cv,e1,e2⟩:=agq (P:=P) R T h1;obtain⟨cs,e3,e4⟩:=Ud R T rs ys h2;refine⟨cv::cs,?_,?_⟩
    ·rw [zbm,Sem.run_bind,e1];simp only [Result.andThen_ok,Sem.run_bind,e3,Sem.run_pure]
    ·simp only [RVs];exact⟨cv,cs,rfl,e2,e4⟩
theorem Jd(R:Rel ρ H w)(T:TOn ρ H.gen w (λ_=> True) t a){fn:Func}{v:AV}(h:jo P fn.results.toList t H=some v):
  ∃cv,(results fn a.tmps).run P w=.ok cv w/\RV ρ H.gen w v cv:=by
 unfold jo at h;cases hm:fn.results.toList.mapM (Uc P t H) with
 | none=> rw [hm] at h;cases h
 | some xs=>
  rw [hm] at h;obtain⟨cs,e1,e2⟩:=Ud (P:=P) R T _ _ hm;have hrun:(results fn a.tmps).run P w=.ok (if h:cs.toArray.size=1 then cs.toArray[0] else .tuple cs.toArray) w:=by
   rw [Ov,Array.mapM_eq_mapM_toList,map_eq_pure_bind];simp only [Sem.run_bind];rw [e1];rfl
  rw [hrun];refine⟨_,rfl,?_⟩;cases xs with
  | nil=>
   simp only [zaa] at h;subst h;simp only [RVs] at e2;subst e2;simp [RV,RVs]
  | cons x xs=>
   cases xs with
   | nil=>
    simp only [zaa] at h;subst h;simp only [RVs] at e2;obtain⟨y,ys,rfl,q1,rfl⟩:=e2
    simpa using q1
   | cons x2 xs=>
    simp only [zaa] at h;subst h;have hl:cs.length≠1:=by have:=dK e2;simp at this;omega
    have:(if h:cs.toArray.size=1 then cs.toArray[0] else .tuple cs.toArray)=.tuple cs.toArray:=by
     rw [dif_neg];simpa using hl
    rw [this];simp only [RV];exact⟨_,rfl,by simpa using e2⟩
theorem X9 {args:List AV}{kT:Array Value}{m:Nat}(h:RVs ρ H.gen w args kT.toList):
  TOn ρ H.gen w (λ_=> True) (args++List.replicate (m - args.length) aZ) { tmps:=kT++Array.replicate (m - kT.size) undef,defers:=[] }:=by
 have hl:=dK h;have hl':kT.size=args.length:=by simpa using hl
 refine⟨by simp [hl'],λ(d:Nat) _ hd=> ?_⟩;by_cases hlt:d < args.length
 ·have hx:args[d]?=some (args[d]'hlt):=zab hlt;obtain⟨v,hv,h1⟩:=jH h hx;have e1:(args++List.replicate (m - args.length) aZ).getD d aZ=args[d]'hlt:=by
   simp [List.getD,zaV hlt,hx]
  have e2:(kT++Array.replicate (m - kT.size) undef).getD d undef=v:=by
   have hv':kT[d]?=some v:=by simpa using hv
   have hlt2:d < kT.size:=by omega
   rw [zck,Array.getElem?_append_left hlt2,hv'];rfl
  rw [e1,e2];exact h1
 ·have e1:(args++List.replicate (m - args.length) aZ).getD d aZ=aZ:=by
   simp only [List.getD,zaX (zdE.1 hlt),zbU];split <;> rfl
  have e2:(kT++Array.replicate (m - kT.size) undef).getD d undef=undef:=by
   rw [zck,Array.getElem?_append_right (by omega),Array.getElem?_replicate];split <;> rfl
  show RV ρ H.gen w (List.getD _ d aZ) (Array.getD _ d undef);rw [e1,e2];exact Ed
theorem Je(hC:qP P C)(hK:kC C)(hm:P.follows .mixedOrders=true):qP P (zo P C):=by
 intro f args H v H' h ρ w kT R hargs;unfold zo at h;split at h <;> first | (cases h;done) | skip
 rename_i fn hf;split at h <;> first | (cases h;done) | skip
 rename_i c hb;split at h <;> first | (cases h;done) | skip
 rename_i e t1 H1 hne he;cases hr:jo P fn.results.toList t1 H1 with
 | none=> rw [hr] at h;cases h
 | some x=>
  rw [hr] at h;simp only [zak,zaa,zad] at h;obtain⟨rfl,rfl⟩:=h;refine calls_of_wp hf hb ?_;refine BA hC hK hm c _ _ e t1 H1 he ρ w _ R (X9 hargs) _ λa' ρ' w' r1 r2 r3 r4=> ?_;obtain⟨cv,q1,q2⟩:=Jd (P:=P) r1 r2 hr;have fin:bodyPost P fn (λe w'=>∃cv ρ',e=.returned cv/\Rel ρ' H1 w'/\RV ρ' H1.gen w' x cv/\Ext ρ H w ρ' H1 w') .ret a' w':=⟨r4,cv,q1,cv,ρ',rfl,r1,q2,r3⟩
  cases e with
  | normal=> exact fin
  | ret=> exact fin
  | exit i=> exact absurd rfl (hne i)
def V9(P:Program)(L:Pol):Prop:=∀f p,L.abq f=some p->qP P (λg args H=> if g=f then p args H else none)/\∀args H v H',p args H=some (v,H')->Keeps H H'
theorem Rl {L:Pol}(hL:V9 P L)(hC:qP P C)(hK:kC C)(hm:P.follows .mixedOrders=true):qP P (Bz P L C):=by
 intro f args H v H' h ρ w kT R hargs;unfold Bz at h;split at h
 ·rename_i p hp;exact(hL f p hp).1 f args H v H' (by simpa using h) ρ w kT R hargs
 ·split at h
  ·split at h <;> first | (cases h;done) | skip
   rename_i u H1 hr;cases hz:bP H1 H.next 9 u with
   | none=> rw [hz] at h;cases h
   | some u'=>
    rw [hz] at h;simp only [zak,zaa,zad] at h;obtain⟨rfl,rfl⟩:=h;refine(Je hC hK hm f args H.guard u H1 hr ρ w kT ⟨R.out,R.obj,R.inj,R.gl⟩ hargs).mono λe w' he=> ?_;obtain⟨cv,ρ',rfl,r1,r2,r3⟩:=he;have E:Ext ρ H w ρ' H1 w':=⟨r3.next,r3.mono,r3.same,r3.kept,r3.range,r3.size,r3.frame,r3.shape,r3.os,r3.tape,r3.output⟩
    obtain⟨q1,q2,q3⟩:=X8 R (Jc hK hr) r1 E hz r2;exact⟨cv,ρ,rfl,q1,q2,q3⟩
  ·exact Je hC hK hm f args H v H' h ρ w kT R hargs
theorem Rn {L:Pol}(hL:V9 P L)(hK:kC C):kC (Bz P L C):=by
 intro f args H v H' h;unfold Bz at h;split at h
 ·rename_i p hp;exact(hL f p hp).2 args H v H' h
 ·split at h
  ·split at h <;> first | (cases h;done) | skip
   rename_i u H1 hr;cases hz:bP H1 H.next 9 u with
   | none=> rw [hz] at h;cases h
   | some u'=>
    rw [hz] at h;simp only [zak,zaa,zad] at h;rw [<-h.2];exact .refl _
  ·exact Jc hK h
end
abbrev Pt:=FuncId × List AV × ah × AV × ah
def Has(C:aC)(L:List Pt):Prop:=∀p∈L,C p.1 p.2.1 p.2.2.1=some (p.2.2.2.1,p.2.2.2.2)
theorem Has.left {C:aC}{L M:List Pt}(h:Has C (L++M)):Has C L:=λp hp=> h p (zcv _ hp)
theorem Has.right {C:aC}{L M:List Pt}(h:Has C (L++M)):Has C M:=λp hp=> h p (zcn _ hp)
theorem Has.append {C:aC}{L M:List Pt}(h:Has C L)(h':Has C M):Has C (L++M):=λp hp=> (zaL.1 hp).elim (h p) (h' p)
def Fin1 {α:Type}(C:aC)(F:aC->Option α):Prop:=∀r,F C=some r->∃L,Has C L/\∀C',Has C' L->F C'=some r
theorem Fin1.const {α:Type}{C:aC}(x:Option α):Fin1 C λ_=> x:=λr h=> ⟨[],λ_ h=> by simp at h,λ_ _=> h⟩
theorem Fin1.point {C:aC}{f:FuncId}{args:List AV}{H:ah}:Fin1 C λC=> C f args H:=λr h=>
 ⟨[(f,args,H,r.1,r.2)],λp hp=> by simp at hp;subst hp;exact h,λC' hc=> hc (f,args,H,r.1,r.2) (by simp)⟩
theorem Fin1.bind {α β:Type}{C:aC}{F:aC->Option α}{G:α->aC->Option β}(hF:Fin1 C F)(hG:∀a,Fin1 C (G a)):Fin1 C λC=> (F C).bind λa=> G a C:=by
 intro r h;cases hf:F C with
 | none=> simp [hf] at h
 | some a=>
  simp only [hf,za6] at h;obtain⟨L,l1,l2⟩:=hF a hf;obtain⟨M,m1,m2⟩:=hG a r h;exact⟨L++M,l1.append m1,λC' hc=> by simp only [l2 C' hc.left,za6];exact m2 C' hc.right⟩
theorem Fin1.of_eq {α:Type}{C:aC}{F G:aC->Option α}(h:Fin1 C G)(e:∀C,F C=G C):Fin1 C F:=by
 rw [show F=G from funext e];exact h
section
variable {P:Program}{C:aC}{t:fQ}{H:ah}{o:Oper}
theorem Ya {x:AV}{args:List AV}:Fin1 C λC=> yH P C x args H:=by
 unfold yH;split
 ·split
  ·exact Fin1.point
  ·exact Fin1.const _
 ·split
  ·exact Fin1.point
  ·exact Fin1.const _
 ·exact Fin1.const _
theorem Ro:Fin1 C λC=> opA P C t o H:=by
 obtain⟨dst,op,type,pos,after,guard⟩:=o;cases op
 case makeMap ty r=> cases r <;> exact Fin1.const _
 case call c=>
  simp only [opA,vU];split
  ·exact Ya
  ·exact Fin1.const _
  ·exact Fin1.const _
 all_goals exact Fin1.const _
theorem Ue {ops:List Oper}{lo:Bool}:Fin1 C λC=> mQ P C ops lo o t H:=by
 cases hw:tY ops t o with
 | none=> exact(Fin1.const none).of_eq λC=> by simp [mQ,hw]
 | some b=>
  cases b with
  | false=> exact(Fin1.const (some (aZ,H))).of_eq λC=> by simp [mQ,hw]
  | true=>
   cases lo with
   | false=> exact(Ro (P:=P) (o:=o) (t:=t) (H:=H)).of_eq λC=> by simp [mQ,hw]
   | true=>
    refine Fin1.of_eq (G:=λC=> (opA P C t o H.guard).bind λr=> some (r.1,{ r.2 with base:=H.base })) (Fin1.bind Ro λ_=> Fin1.const _) λC=> ?_;simp only [mQ,hw,if_true,opG];cases opA P C t o H.guard <;> rfl
theorem Uf {ops:List Oper}:∀(l:List Oper) (t:fQ) (H:ah),Fin1 C λC=> N7 P C ops l t H
 | [],t,H=> Fin1.const _
 | o::l,t,H=> by
  refine Fin1.of_eq (G:=λC=> (mQ P C ops false o t H).bind λr=> N7 P C ops l (vS t o.dst r.1) r.2) (Fin1.bind Ue λr=> Uf l _ _) λC=> ?_;rw [zJ];cases mQ P C ops false o t H <;> rfl
theorem Dn {ops:List Oper}:∀(l:List Nat) (t:fQ) (H:ah),Fin1 C λC=> iJ P C ops l t H
 | [],t,H=> Fin1.const _
 | i::l,t,H=> by
  cases ho:ops[i]? with
  | none=> exact(Fin1.const none).of_eq λC=> by simp [iJ,ho]
  | some o=>
   refine Fin1.of_eq (G:=λC=> (opA P C t o H).bind λr=> iJ P C ops l (vS t o.dst r.1) r.2) (Fin1.bind Ro λr=> Dn l _ _) λC=> ?_;simp only [iJ,ho];cases opA P C t o H <;> rfl
theorem FP {ops:List Oper}:∀(l:List Nat) (t:fQ) (H:ah) (r:fQ × ah),fM P C ops l t H=some r->
  ∃L,Has C L/\∀C',Has C' L->∀k,fM P C' ops (l.take k) t H=fM P C ops (l.take k) t H
 | [],t,H,r,h=> ⟨[],λ_ h=> by simp at h,λ_ _ k=> by simp [fM]⟩
 | i::l,t,H,r,h=> by
  simp only [fM] at h;cases ho:ops[i]? with
  | none=> rw [ho] at h;cases h
  | some o=>
   rw [ho] at h;simp only at h;cases hs:mQ P C ops (loose ops i && mD o.op) o t H with
   | none=> rw [hs] at h;cases h
   | some q=>
    rw [hs] at h;simp only at h;obtain⟨L,l1,l2⟩:=Ue (P:=P) (C:=C) (t:=t) (H:=H) (o:=o) (ops:=ops) (lo:=loose ops i && mD o.op) q hs;obtain⟨M,m1,m2⟩:=FP l _ _ r h;refine⟨L++M,l1.append m1,λC' hc k=> ?_⟩;cases k with
    | zero=> rfl
    | succ k=>
     have e:=l2 C' hc.left;simp only [List.take_succ_cons,fM,ho,hs];simp only at e;rw [e];exact m2 C' hc.right k
theorem Yb {ops:List Oper}{p:Nat}(hp:p<=ops.length):∃k,(List.range p).filter (λi=> !cst ops i)=(mW ops).take k:=by
 have:List.range ops.length=List.range p++(List.range (ops.length - p)).map (p+ ·):=by
  rw [<-List.range_add];congr 1;omega
 refine⟨((List.range p).filter (λi=> !cst ops i)).length,?_⟩;unfold mW;rw [this,zb3,List.take_left]
theorem Rq {ops:List Oper}{p:Nat × Nat}(h:p∈lJ ops):p.1 < ops.length/\p.2 < ops.length:=by
 unfold lJ at h;obtain⟨j,hj,h⟩:=za0.1 h;obtain⟨e,he,rfl⟩:=zaG.1 h;exact⟨za4.1 hj,za4.1 (zbl.1 he).1⟩
theorem Yc {ops:List Oper}:Fin1 C λC=> yI P C ops t H:=by
 intro r h;simp only at h;unfold yI at h;split at h <;> first | (cases h;done) | skip
 rename_i hok;split at h <;> first | (cases h;done) | skip
 rename_i t0 H0 h0;obtain⟨L,l1,l2⟩:=Dn (P:=P) (C:=C) (ops:=ops) (oL ops) t H (t0,H0) h0;have hrun:fM P C ops (mW ops) t0 H0=some r:=by
  split at h
  ·exact h
  ·split at h <;> first | (cases h;done) | skip
   exact h
 obtain⟨M,m1,m2⟩:=FP (P:=P) (C:=C) (ops:=ops) (mW ops) t0 H0 r hrun;have hall:∀C',Has C' M->fM P C' ops (mW ops) t0 H0=some r:=λC' hc=> by
  have:=m2 C' hc (mW ops).length;rw [List.take_length] at this;rw [this];exact hrun
 have hst:∀C',Has C' M->∀p,p<=ops.length->Fe P C' ops p t0 H0=Fe P C ops p t0 H0:=λC' hc p hp=> by
  obtain⟨k,hk⟩:=Yb hp;unfold Fe;rw [hk];exact m2 C' hc k
 refine⟨L++M,l1.append m1,λC' hc=> ?_⟩;have e0:=l2 C' hc.left;simp only at e0 ⊢;unfold yI;rw [if_pos hok,e0];simp only;split at h
 ·exact hall C' hc.right
 ·rename_i ps hps he;split at h <;> first | (cases h;done) | skip
  rename_i ha;cases hq:lJ ops with
  | nil=> exact hall C' hc.right
  | cons q qs=>
   rw [if_pos]
   ·exact hall C' hc.right
   ·intro p hp;rw [<-hq] at hp;obtain⟨b1,b2⟩:=Rq hp;have hap:=ha p hp;unfold agree at hap ⊢;split
    ·rename_i hcp;rw [if_pos hcp] at hap;intro te He te' He' q2 q3;rw [hst C' hc.right _ (by omega)] at q2 q3;exact hap te He te' He' q2 q3
    ·rename_i hcp;rw [if_neg hcp] at hap;intro tj Hj te He te' He' q1 q2 q3;rw [hst C' hc.right _ (by omega)] at q1 q2 q3;exact hap tj Hj te He te' He' q1 q2 q3
abbrev ant:=aC->Run
def ags(C:aC)(F:ant):Prop:=∀t H,Fin1 C λC=> F C t H
theorem Ug {F G:ant}(hF:ags C F)(hG:ags C G):ags C λC t H=> rV (F C t H) (G C):=by
 intro t H;refine Fin1.of_eq (G:=λC=> (F C t H).bind λr=> (match r with | (.normal,t,H)=> G C t H | r=> some r)) (Fin1.bind (hF t H) λr=> ?_) λC=> ?_
 ·obtain⟨e,t,H⟩:=r;cases e with
  | normal=> exact hG t H
  | _=> exact Fin1.const _
 ·show rV (F C t H) (G C)=_;unfold rV;cases F C t H with
  | none=> rfl
  | some r=> obtain⟨e,t,H⟩:=r;cases e <;> rfl
theorem abR {F:ant}(hF:ags C F):ags C λC=> V4 (F C):=by
 have key:∀n,ags C λC=> Bv (F C) n:=by
  intro n
  induction n with
  | zero=> exact λt H=> Fin1.const none
  | succ n ih=> exact Ug hF ih
 intro t H r h;obtain⟨n,hn⟩:=lu h;obtain⟨L,l1,l2⟩:=key n t H r hn;exact⟨L,l1,λC' hc=> wz (λn r=> I8 n t H r) (l2 C' hc)⟩
theorem abS:∀c:Code,ags C λC=> fD P C c:=by
 intro c
 induction c with
 | skip=> exact λt H=> Fin1.const _
 | region id ops draw=>
  intro t H;cases draw with
  | true=>
   refine Fin1.of_eq (G:=λC=> (yI P C ops.toList t H).bind λr=> some (.normal,r.1,r.2)) (Fin1.bind Yc λ_=> Fin1.const _) λC=> ?_;simp only [fD,if_true];cases yI P C ops.toList t H <;> rfl
  | false=>
   refine Fin1.of_eq (G:=λC=> (N7 P C ops.toList ops.toList t H).bind λr=> some (.normal,r.1,r.2)) (Fin1.bind (Uf _ _ _) λ_=> Fin1.const _) λC=> ?_;simp only [fD,zaf,if_false];cases N7 P C ops.toList ops.toList t H <;> rfl
 | seq x y ihx ihy=> exact Ug ihx ihy
 | cond c x y ihx ihy=>
  intro t H;simp only [fD];split
  ·exact ihx t H
  ·exact ihy t H
  ·exact Fin1.const _
 | block id x ih=>
  intro t H;refine Fin1.of_eq (G:=λC=> (fD P C x t H).bind λr=> Dl id (some r)) (Fin1.bind (ih t H) λ_=> Fin1.const _) λC=> ?_;simp only [fD];cases fD P C x t H <;> rfl
 | loop x ih=> exact abR ih
 | exit id=> exact λt H=> Fin1.const _
 | ret=> exact λt H=> Fin1.const _
 | _=> exact λt H=> Fin1.const _
theorem Uh {f:FuncId}{args:List AV}:Fin1 C λC=> zo P C f args H:=by
 cases hf:P.funcs[f]? with
 | none=> exact(Fin1.const none).of_eq λC=> by simp [zo,hf]
 | some fn=>
  cases hb:fn.body with
  | none=> exact(Fin1.const none).of_eq λC=> by simp [zo,hf,hb]
  | some c=>
   refine Fin1.of_eq (G:=λC=> (fD P C c (args++List.replicate (fn.ntmps - args.length) aZ) H).bind λr=>
    (match r with
     | (.exit _,_,_)=> none
     | (_,t,H')=> (jo P fn.results.toList t H').map λv=> (v,H'))) (Fin1.bind (abS c _ _) λ_=> Fin1.const _) λC=> ?_
   simp only [zo,hf,hb];cases fD P C c (args++List.replicate (fn.ntmps - args.length) aZ) H with
   | none=> rfl
   | some r=> obtain⟨e,t,H⟩:=r;cases e <;> rfl
theorem Ox {L:Pol}{f:FuncId}{args:List AV}:Fin1 C λC=> Bz P L C f args H:=by
 cases hp:L.abq f with
 | some p=> exact(Fin1.const (p args H)).of_eq λC=> by simp [Bz,hp]
 | none=>
  cases hq:L.pure f with
  | false=> exact(Uh (P:=P) (f:=f) (args:=args) (H:=H)).of_eq λC=> by simp [Bz,hp,hq]
  | true=>
   refine Fin1.of_eq (G:=λC=> (zo P C f args H.guard).bind λr=> (bP r.2 H.next 9 r.1).map λv'=> (v',H)) (Fin1.bind Uh λ_=> Fin1.const _) λC=> ?_;simp only [Bz,hp,hq,if_true];cases zo P C f args H.guard <;> rfl
end
def DZ(P:Program)(L:Pol):Nat->aC
 | 0=> λ_ _ _=> none
 | n+1=> Bz P L (DZ P L n)
def callω(P:Program)(L:Pol):aC:=λf args H=> agp λn=> DZ P L n f args H
section
variable {P:Program}{L:Pol}
theorem BD:∀(n:Nat) (f:FuncId) (args:List AV) (H:ah) (r:AV × ah),DZ P L n f args H=some r->DZ P L (n+1) f args H=some r:=by
 intro n
 induction n with
 | zero=> intro f args H r h;cases h
 | succ n ih=>
  intro f args H r h;obtain⟨M,m1,m2⟩:=Ox (P:=P) (L:=L) (C:=DZ P L n) (f:=f) (args:=args) (H:=H) r h;exact m2 _ λp hp=> ih _ _ _ _ (m1 p hp)
theorem aiP:∀M:List Pt,Has (callω P L) M->∃n,Has (DZ P L n) M
 | [],_=> ⟨0,λ_ h=> by simp at h⟩
 | p::M,h=> by
  obtain⟨n,hn⟩:=lu (h p (by simp));obtain⟨m,hm⟩:=aiP M λq hq=> h q (by simp [hq]);refine⟨n+m,λq hq=> ?_⟩;rcases zaj.1 hq with rfl | hq
  ·exact KU (g:=λn=> DZ P L n q.1 q.2.1 q.2.2.1) (λn r=> BD n _ _ _ r) hn (by omega)
  ·exact KU (g:=λn=> DZ P L n q.1 q.2.1 q.2.2.1) (λn r=> BD n _ _ _ r) (hm q hq) (by omega)
theorem callω_of {f:FuncId}{args:List AV}{H:ah}{r:AV × ah}(h:Bz P L (callω P L) f args H=some r):callω P L f args H=some r:=by
 obtain⟨M,m1,m2⟩:=Ox (P:=P) (L:=L) (C:=callω P L) (f:=f) (args:=args) (H:=H) r h;obtain⟨n,hn⟩:=aiP M m1;have:DZ P L (n+1) f args H=some r:=m2 _ hn;exact wz (g:=λn=> DZ P L n f args H) (λn r=> BD n f args H r) this
theorem callω_ok(hL:V9 P L)(hm:P.follows .mixedOrders=true):qP P (callω P L)/\kC (callω P L):=by
 have key:∀n,qP P (DZ P L n)/\kC (DZ P L n):=by
  intro n
  induction n with
  | zero=> exact⟨λf args H v H' h=> (by cases h),λf args H v H' h=> (by cases h)⟩
  | succ n ih=> exact⟨Rl hL ih.1 ih.2 hm,Rn hL ih.2⟩
 refine⟨λf args H v H' h=> ?_,λf args H v H' h=> ?_⟩
 ·obtain⟨n,hn⟩:=lu h;exact(key n).1 f args H v H' hn
 ·obtain⟨n,hn⟩:=lu h;exact(key n).2 f args H v H' hn
end
def abT(c:AV)(x y:Res):Res:=
 match c with
 | .s (.bool true)=> x
 | .s (.bool false)=> y
 | _=> none
def bnd {α β:Type}(x:Option (α × ah))(k:α->ah->Option β):Option β:=
 match x with
 | some (v,H)=> k v H
 | none=> none
theorem Ui {α β:Type}{v:α}{H:ah}{k:α->ah->Option β}:bnd (some (v,H)) k=k v H:=rfl
def gd {β:Type}(b:Bool)(x:Option (AV × ah))(H:ah)(k:AV->ah->Option β):Option β:=
 if b=true then bnd x k else k aZ H
def okN(r:Option (fQ × ah)):Res:=
 match r with
 | some (t,H)=> some (.normal,t,H)
 | none=> none
section
variable {P:Program}{C:aC}{t:fQ}{H H':ah}
theorem abU {a b:Code}:fD P C (.seq a b) t H=rV (fD P C a t H) (fD P C b):=rfl
theorem Yd {c:Operand}{a b:Code}:fD P C (.cond c a b) t H=abT (dN t c) (fD P C a t H) (fD P C b t H):=by
 simp only [fD,abT]
 try rfl
theorem Wh {id:Nat}{a:Code}:fD P C (.block id a) t H=Dl id (fD P C a t H):=rfl
theorem Rt {id:Nat}{ops:Array Oper}:fD P C (.region id ops false) t H=okN (N7 P C ops.toList ops.toList t H):=by
 simp only [fD,okN,zaf,if_false]
 try rfl
theorem Ye {id:Nat}{ops:Array Oper}:fD P C (.region id ops true) t H=okN (yI P C ops.toList t H):=by
 simp only [fD,okN,if_true]
 try rfl
def Uj(ops:List Oper)(t:fQ)(j:Nat):Option AV:=(ops[j]?.bind (·.dst)).bind λd=> t[d]?
def Jf(g:Option AV)(want:Bool):Option Bool:=
 match g with
 | some (.s (.bool b))=> some (b==want)
 | some (.tup [])=> some false
 | _=> none
def gdA {β:Type}(g:Option AV)(want:Bool)(x:Option (AV × ah))(H:ah)(k:AV->ah->Option β):Option β:=
 match Jf g want with
 | some b=> gd b x H k
 | none=> none
theorem Oy {β:Type}{want:Bool}{x:Option (AV × ah)}{k:AV->ah->Option β}:gdA (some aZ) want x H k=k aZ H:=rfl
theorem Oz {ops:List Oper}{o:Oper}{j:Nat}{want:Bool}(h:o.guard=some (j,want)):tY ops t o=Jf (Uj ops t j) want:=by
 unfold tY Uj Jf;rw [h];simp only;cases hp:ops[j]? with
 | none=> rfl
 | some p=>
  simp only [za6];cases hd:p.dst with
  | none=> rfl
  | some d=> rfl
theorem Ru {t:fQ}{i:Nat}{v:AV}(h:i < t.length):(t.set i v).getD i aZ=v:=by
 simp [List.getD,h]
theorem getD_set_ne {t:fQ}{i j:Nat}{v:AV}(h:i≠j):(t.set i v).getD j aZ=t.getD j aZ:=by
 simp [List.getD,h]
theorem KW {t:fQ}{i:Nat}(h:i < t.length):t[i]?=some (t.getD i aZ):=by
 simp [List.getD,h]
theorem Uk {β:Type}{v:AV}{k:AV->ah->Option β}:bnd (fP (some v) H) k=k v H:=rfl
theorem OB {v:AV}:fP (some v) H=some (v,H):=rfl
def anu(P:Program)(rs:List ResultVar)(r:Res):Option (AV × ah):=
 match r with
 | some (.exit _,_,_)=> none
 | some (_,t,H')=> (jo P rs t H').map λv=> (v,H')
 | none=> none
theorem agt {f:FuncId}{fn:Func}{c:Code}{args:List AV}(hf:P.funcs[f]?=some fn)(hb:fn.body=some c):
  zo P C f args H=anu P fn.results.toList (fD P C c (args++List.replicate (fn.ntmps - args.length) aZ) H):=by
 unfold zo anu;simp only [hf,hb]
 try rfl
theorem ad5 {L:Pol}{f:FuncId}{args:List AV}{r:AV × ah}(h1:L.abq f=none)(h2:L.pure f=false)(h:zo P (callω P L) f args H=some r):callω P L f args H=some r:=
 callω_of (by simp only [Bz,h1,h2,zaf,if_false];exact h)
theorem agu {L:Pol}{f:FuncId}{args:List AV}{v v':AV}{H1:ah}(h1:L.abq f=none)(h2:L.pure f=true)(h:zo P (callω P L) f args H.guard=some (v,H1))(hz:bP H1 H.next 9 v=some v'):
  callω P L f args H=some (v',H):=
 callω_of (by simp only [Bz,h1,h2,if_true,h,hz,zak])
theorem FQ {L:Pol}{f:FuncId}{args:List AV}{r:AV × ah}{p:List AV->AM AV}(h1:L.abq f=some p)(h:p args H=some r):callω P L f args H=some r:=
 callω_of (by simp only [Bz,h1];exact h)
theorem abV {f:FuncId}{a c args:List AV}(h:qo P f=true):yH P C (.fn (.func f) a c) args H=C f (a++args++c) H:=by
 simp only [yH,h,if_true]
end
theorem dL {α:Type}{P:Program}{a:α}:iR P (Pure.pure a)=some a:=rfl
section
variable {P:Program}{t:TypeId}{k:IntKind}{a b:Int}
theorem Yf:ql P .lss t (.s (.int k a)) (.s (.int k b))=some (.s (.bool (decide (a < b)))):=by
 simp [ql,AV.val?,eqGuard,binOp,Op.intCmp,dL]
theorem Yg:ql P .leq t (.s (.int k a)) (.s (.int k b))=some (.s (.bool (decide (a<=b)))):=by
 simp [ql,AV.val?,eqGuard,binOp,Op.intCmp,dL]
theorem Rw:ql P .gtr t (.s (.int k a)) (.s (.int k b))=some (.s (.bool (decide (b < a)))):=by
 simp [ql,AV.val?,eqGuard,binOp,Op.intCmp,dL]
theorem KX:ql P .geq t (.s (.int k a)) (.s (.int k b))=some (.s (.bool (decide (b<=a)))):=by
 simp [ql,AV.val?,eqGuard,binOp,Op.intCmp,dL]
theorem Yh:ql P .eql t (.s (.int k a)) (.s (.int k b))=some (.s (.bool (decide (a=b)))):=by
 simp [ql,AV.val?,eqGuard,binOp,Op.intCmp,dL];by_cases h:a=b <;> simp [h]
theorem Yi:ql P .neq t (.s (.int k a)) (.s (.int k b))=some (.s (.bool (!decide (a=b)))):=by
 simp [ql,AV.val?,eqGuard,binOp,Op.intCmp,dL];by_cases h:a=b <;> simp [h]
theorem dW:ql P .add t (.s (.int k a)) (.s (.int k b))=some (.s (.int k (k.wrap (a+b)))):=by
 simp [ql,AV.val?,eqGuard,binOp,Op.intArith,dL]
theorem jw:ql P .sub t (.s (.int k a)) (.s (.int k b))=some (.s (.int k (k.wrap (a - b)))):=by
 simp [ql,AV.val?,eqGuard,binOp,Op.intArith,dL]
theorem oZ:ql P .mul t (.s (.int k a)) (.s (.int k b))=some (.s (.int k (k.wrap (a*b)))):=by
 simp [ql,AV.val?,eqGuard,binOp,Op.intArith,dL]
theorem agv(h:b≠0):ql P .quo t (.s (.int k a)) (.s (.int k b))=some (.s (.int k (k.wrap (a.tdiv b)))):=by
 simp [ql,AV.val?,eqGuard,binOp,Op.intDiv,dL,h]
theorem BF(h:b≠0):ql P .rem t (.s (.int k a)) (.s (.int k b))=some (.s (.int k (a.tmod b))):=by
 simp [ql,AV.val?,eqGuard,binOp,Op.intDiv,dL,h]
theorem Yj {ts:Array TypeId}:kR P false ts t [.s (.int k a),.s (.int k b)]=some (.s (.int k (min a b))):=by
 simp [kR,vals?,AV.val?,Builtin.min_,Builtin.min2,dL,Int.min_def];split <;> split <;> first | rfl | omega
theorem Rx {ts:Array TypeId}:kR P true ts t [.s (.int k a),.s (.int k b)]=some (.s (.int k (max a b))):=by
 simp [kR,vals?,AV.val?,Builtin.max_,Builtin.max2,dL,Int.max_def];split <;> split <;> first | rfl | omega
theorem Ul {b:Bool}:unA P .not (.s (.bool b))=some (.s (.bool (!b))):=by
 simp [unA,AV.val?,Op.unary,dL]
theorem aiQ(h1:-9223372036854775808<=a)(h2:a<=9223372036854775807):IntKind.wrap .i64 a=a:=by
 simp only [IntKind.wrap,IntKind.bits,IntKind.signed];simp;omega
end
def au(x:AV)(o:Nat):Option AV:=
 match x with
 | .ref r g off=> some (.ref r g (off+o))
 | .ip cells=> some (.ip (cells.drop o))
 | _=> none
theorem qZ {r g off o:Nat}:au (.ref r g off) o=some (.ref r g (off+o)):=rfl
theorem yO {cells:List AV}{o:Nat}:au (.ip cells) o=some (.ip (cells.drop o)):=rfl
theorem Yk {t:TypeId}{v:AV}{H:ah}(h:v.cells.all AV.aQ=true)(ht:t < 1000000000):jD t v H=some (.ref H.next 0 0,H.new (.blk 0 t v.cells)):=by
 unfold jD;rw [if_pos ⟨h,ht⟩]
theorem fZ {l:List AV}:(AV.agg l).cells=l:=rfl
theorem OC {k:IntKind}{n:Int}:(AV.s (.int k n)).cells=[.s (.int k n)]:=rfl
theorem Jg {b:Bool}:(AV.s (.bool b)).cells=[.s (.bool b)]:=rfl
theorem iU {k:IntKind}{n:Int}:(AV.s (.int k n)).aQ=true:=rfl
theorem kD {b:Bool}:(AV.s (.bool b)).aQ=true:=rfl
theorem Jh {r g off:Nat}:(AV.ref r g off).aQ=true:=rfl
theorem Ji {a b:Nat}:(AV.s (.slice none a b)).aQ=true:=rfl
theorem Yl {r:Nat}:(AV.mp r).aQ=true:=rfl
section
variable {H:ah}{r r':Nat}{o:fV}
theorem jg:(H.new o).get r=if r=H.next then o else H.get r:=rfl
theorem dR:(H.put r' o).get r=if r=r' then o else H.get r:=rfl
theorem Eh:(H.new o).next=H.next+1:=rfl
theorem abW:(H.put r o).base=H.base:=rfl
end
section
variable (P:Program)(C:aC)(ops:List Oper)
def zK:List Oper->List Bool->fQ->ah->Option (fQ × ah)
 | o::os,true::fs,t,H=> bnd (opA P C t o H) λv H=> zK os fs (vS t o.dst v) H
 | _::os,false::fs,t,H=> zK os fs t H
 | [],[],t,H=> some (t,H)
 | _,_,_,_=> none
def Ym:List (Option Bool):=(List.range ops.length).map λi=> if cst ops i=true then none else some (loose ops i && mD (qp ops i))
def FT:List Bool:=(List.range ops.length).map (cst ops)
end
section
variable {P:Program}{C:aC}{ops:List Oper}
theorem OD:∀(l pre:List Oper) (t:fQ) (H:ah),pre++l=ops->
  iJ P C ops ((List.range' pre.length l.length).filter (cst ops)) t H=zK P C l ((List.range' pre.length l.length).map (cst ops)) t H
 | [],pre,t,H,_=> rfl
 | o::l,pre,t,H,h=> by
  have ho:ops[pre.length]?=some o:=by rw [<-h];simp
  have ih:=λt H=> OD l (pre++[o]) t H (by simpa using h);simp only [zao,zal,zan] at ih;rw [zal,zdc,zaz,zbP];cases hc:cst ops pre.length with
  | false=>
   simp only [zaf,if_false,zK];exact ih t H
  | true=>
   simp only [if_true,iJ,ho,zK];cases hop:opA P C t o H with
   | none=> rfl
   | some r=> exact ih _ _
def unG(H:ah)(r:Option (AV × ah)):Option (AV × ah):=
 match r with
 | some (v,H')=> some (v,{ H' with base:=H.base })
 | none=> none
theorem Um {H:ah}{v:AV}:unG H (some (v,H.guard))=some (v,H):=rfl
end
theorem nx1(n:Nat):(n=n+1)=False:=eq_false (by omega)
theorem ny1(n:Nat):(n+1=n)=False:=eq_false (by omega)
theorem nx2(n:Nat):(n=n+1+1)=False:=eq_false (by omega)
theorem ny2(n:Nat):(n+1+1=n)=False:=eq_false (by omega)
theorem nx3(n:Nat):(n=n+1+1+1)=False:=eq_false (by omega)
theorem ny3(n:Nat):(n+1+1+1=n)=False:=eq_false (by omega)
structure Ann where
 live:List (Nat × List Nat)
 draw:List (Nat × List (Option Bool))
 pairs:List (Nat × List (Nat × Nat))
def kH {α:Type}(d:α):List (Nat × α)->Nat->α
 | [],_=> d
 | (k,v)::l,n=> bif Nat.beq k n then v else kH d l n
def jO:Code->Nat
 | .region id _ _=> id+1
 | .seq a b=> match jO a with
  | 0=> jO b
  | n+1=> n+1
 | .cond _ a b=> match jO a with
  | 0=> jO b
  | n+1=> n+1
 | .block _ a=> jO a
 | .loop a=> jO a
 | _=> 0
def bo {α β:Type}(x:Option α)(k:α->Option β):Option β:=
 match x with
 | some v=> k v
 | none=> none
def aY {β:Type}(c:AV)(x y:Option β):Option β:=
 match c with
 | .s (.bool true)=> x
 | .s (.bool false)=> y
 | _=> none
def FU {β:Type}(B:List AV->ah->(List AV->ah->Option β)->Option β):Nat->List AV->ah->Option β
 | 0,_,_=> none
 | n+1,s,H=> B s H (FU B n)
def Yn {β:Type}(B:List AV->ah->(List AV->ah->Option β)->Option β):List AV->ah->Option β:=λs H=> agp λn=> FU B n s H
abbrev Env:=List (Nat × AV)
def NC:Env->Nat->AV
 | [],_=> aZ
 | (d,v)::e,i=> bif Nat.beq d i then v else NC e i
def uF(n:Nat)(e:Env):Operand->AV
 | .tmp i=> bif Nat.blt i n then NC e i else aZ
 | .const v=> .s v
 | .global g=> .s (.pointer (some ⟨g,0,none⟩))
 | .func f=> .fn (.func f) [] []
def ad6(e:Env)(dst:Option Tmp)(v:AV):Env:=
 match dst with
 | some d=> (d,v)::e
 | none=> e
def OE:List AV->Nat->Env
 | [],_=> []
 | a::l,i=> (i,a)::OE l (i+1)
def xW(M:List Nat)(e:Env):List AV:=match M with
 | []=> []
 | i::M=> NC e i::xW M e
def emb(s:List AV):List Nat->Nat->Env
 | [],_=> []
 | m::M,j=> (m,s.getD j aZ)::emb s M (j+1)
section
variable {β:Type}(P:Program)(C:aC)
def agw(ev:Operand->AV)(c:Call)(type:TypeId):AM AV:=λH=>
 match c.callee with
 | .value f=> yH P C (ev f) (c.args.toList.map ev) H
 | .builtin b=> iI P b c.argTypes type (c.args.toList.map ev) H
 | .invoke _ _=> none
def opE(ev:Operand->AV)(o:Oper):AM AV:=
 match o.op with
 | .move x=> fP (some (ev x))
 | .assign x=> fP (some (ev x))
 | .pick c a b=> fP (dF (ev c) (ev a) (ev b))
 | .alloc e=> IV P e
 | .box e x=> jD e (ev x)
 | .build ty ps=> fP (iL P ty (ps.toList.map λp=> (p.1,ev p.2)))
 | .buildSlice ty n ps=> dY P ty n (ps.toList.map λp=> (p.1,ev p.2))
 | .load ty x=> QS P ty (ev x)
 | .store ty x v=> NY P ty (ev x) (ev v)
 | .nilCheck x=> fP (aB (ev x))
 | .binOp op ty x y _=> fP (aiz P op ty y (ev x) (ev y))
 | .unOp op _ x=> fP (unA P op (ev x))
 | .convert src dst x=> jX P src dst (ev x)
 | .makeFunc f a c=> fP (some (.fn f (a.toList.map ev) (c.toList.map ev)))
 | .makeMap ty none=> wY P ty
 | .makeSlice ty l c=> qc P ty (ev l) (ev c)
 | .slice ty x lo hi mx=> fP (NU P ty (ev x) (lo.map ev) (hi.map ev) (mx.map ev))
 | .fieldAddr ty x i=> fP (sG P ty (ev x) i)
 | .field ty x i=> fP (NP P ty (ev x) i)
 | .indexAddr ty x i=> sH P ty (ev x) (ev i)
 | .index ty x i=> fP (NQ P ty (ev x) (ev i))
 | .lookup ty x i ok=> QT P ty (ev x) (ev i) ok
 | .mapUpdate ty m k v=> sJ P ty (ev m) (ev k) (ev v)
 | .extract x i=> fP (aK (ev x) i)
 | .call c=> agw P C ev c o.type
 | _=> λ_=> none
def Jj(ev:Operand->AV):Op->Option Nat
 | .load _ x=> bQ (ev x)
 | .lookup _ x _ _=> bQ (ev x)
 | .indexAddr _ x _=> bQ (ev x)
 | .convert _ _ x=> bQ (ev x)
 | .call c=> match c.args.toList with
  | [x]=> bQ (ev x)
  | _=> none
 | _=> none
def opK(ev:Operand->AV)(o:Oper)(H:ah)(k:AV->ah->Option β):Option β:=
 match o.op with
 | .move x=> k (ev x) H
 | .assign x=> k (ev x) H
 | .pick c a b=> bo (dF (ev c) (ev a) (ev b)) λv=> k v H
 | .build ty ps=> bo (iL P ty (ps.toList.map λp=> (p.1,ev p.2))) λv=> k v H
 | .nilCheck x=> bo (aB (ev x)) λv=> k v H
 | .binOp op ty x y _=> bo (aiz P op ty y (ev x) (ev y)) λv=> k v H
 | .unOp op _ x=> bo (unA P op (ev x)) λv=> k v H
 | .makeFunc f a c=> k (.fn f (a.toList.map (ev)) (c.toList.map (ev))) H
 | .slice ty x lo hi mx=> bo (NU P ty (ev x) (lo.map (ev)) (hi.map (ev)) (mx.map (ev))) λv=> k v H
 | .fieldAddr ty x i=> bo (sG P ty (ev x) i) λv=> k v H
 | .field ty x i=> bo (NP P ty (ev x) i) λv=> k v H
 | .index ty x i=> bo (NQ P ty (ev x) (ev i)) λv=> k v H
 | .extract x i=> bo (aK (ev x) i) λv=> k v H
 | _=> bnd (opE P C ev o H) k
def OG(n:Nat)(ops:List Oper)(e:Env)(j:Nat):Option AV:=
 match ops[j]? with
 | some p=> match p.dst with
  | some d=> bif Nat.blt d n then some (NC e d) else none
  | none=> none
 | none=> none
def Wi(n:Nat)(ops:List Oper)(lo:Bool)(o:Oper)(t:Env)(H:ah)(k:AV->ah->Option β):Option β:=
 match o.guard with
 | none=> match lo with
  | true=> bnd (unG H (opE P C (uF n t) o H.guard)) k
  | false=> opK P C (uF n t) o H k
 | some (j,want)=> match lo with
  | true=> gdA (OG n ops t j) want (unG H (opE P C (uF n t) o H.guard)) H k
  | false=> gdA (OG n ops t j) want (opE P C (uF n t) o H) H k
def aiR(n:Nat)(ops:List Oper):List Oper->Env->ah->(Env->ah->Option β)->Option β
 | [],t,H,k=> k t H
 | o::rest,t,H,k=> Wi P C n ops false o t H λv H=> aiR n ops rest (ad6 t o.dst v) H k
def Jk(n:Nat):List Oper->List (Option Bool)->Env->ah->(Env->ah->Option β)->Option β
 | o::os,none::fs,t,H,k=> bnd (opE P C (uF n t) o H) λv H=> Jk n os fs (ad6 t o.dst v) H k
 | _::os,some _::fs,t,H,k=> Jk n os fs t H k
 | [],[],t,H,k=> k t H
 | _,_,_,_,_=> none
abbrev Log:=List (Nat × Option Nat × ah × ah)
def D7:Log->Nat->Option (Option Nat × ah × ah)
 | [],_=> none
 | (i,x)::l,n=> bif Nat.beq i n then some x else D7 l n
open Classical in
def ck(w:Option Nat)(H H':ah)(k:Option β):Option β:=if∀r,w=some r->H'.get r=H.get r then k else none
open Classical in
def ckR(s s0:Nat)(H H':ah)(k:Option β):Option β:=if∀r,s<=r->r < s0->H'.get r=H.get r then k else none
def ckL(ops:List Oper)(s s0:Nat)(log:Log):List (Nat × Nat)->Option β->Option β
 | [],k=> k
 | (j,e)::ps,k=> match cst ops j with
  | true=> match D7 log e with
   | some (_,H,H')=> ckR s s0 H H' (ckL ops s s0 log ps k)
   | none=> none
  | false=> match D7 log j,D7 log e with
   | some (w,_,_),some (_,H,H')=> ck w H H' (ckL ops s s0 log ps k)
   | _,_=> none
def IB(n:Nat)(ops:List Oper)(s s0:Nat)(ps:List (Nat × Nat)):List Oper->List (Option Bool)->Nat->Env->ah->Log->(Env->ah->Option β)->Option β
 | o::os,some lo::fs,i,t,H,log,k=> Wi P C n ops lo o t H λv H'=> IB n ops s s0 ps os fs (i+1) (ad6 t o.dst v) H' ((i,Jj (uF n t) o.op,H,H')::log) k
 | _::os,none::fs,i,t,H,log,k=> IB n ops s s0 ps os fs (i+1) t H log k
 | [],[],_,t,H,log,k=> ckL ops s s0 log ps (k t H)
 | _,_,_,_,_,_,_=> none
def kJ(A:Ann)(n:Nat):Code->Env->ah->(Env->ah->Option β)->(Nat->Env->ah->Option β)->(Env->ah->Option β)->Option β
 | .skip=> λt H kn _ _=> kn t H
 | .region id ops d=> λt H kn _ _=>
  match d with
  | true=> Jk P C n ops.toList (kH [] A.draw id) t H λt H0=> IB P C n ops.toList H.next H0.next (kH [] A.pairs id) ops.toList (kH [] A.draw id) 0 t H0 [] kn
  | false=> aiR P C n ops.toList ops.toList t H kn
 | .seq a b=> λt H kn kx kr=> kJ A n a t H (λt H=> kJ A n b t H kn kx kr) kx kr
 | .cond c a b=> λt H kn kx kr=> aY (uF n t c) (kJ A n a t H kn kx kr) (kJ A n b t H kn kx kr)
 | .block id a=> λt H kn kx kr=> kJ A n a t H kn (λi t H=> match Nat.beq i id with
  | true=> kn t H
  | false=> kx i t H) kr
 | .loop a=> λt H _ kx kr=> Yn (λs H k=> kJ A n a (emb s (kH [] A.live (jO a)) 0) H (λt H=> k (xW (kH [] A.live (jO a)) t) H) kx kr) (xW (kH [] A.live (jO a)) t) H
 | .exit i=> λt H _ kx _=> kx i t H
 | .ret=> λt H _ _ kr=> kr t H
 | _=> λ_ _ _ _ _=> none
def vI(A:Ann)(n:Nat):Code->(Env->ah->Option β)->(Nat->Env->ah->Option β)->(Env->ah->Option β)->List (List AV->ah->Option β)
 | .seq a b=> λkn kx kr=> vI A n a (λt H=> kJ P C A n b t H kn kx kr) kx kr++vI A n b kn kx kr
 | .cond _ a b=> λkn kx kr=> vI A n a kn kx kr++vI A n b kn kx kr
 | .block id a=> λkn kx kr=> vI A n a kn (λi t H=> match Nat.beq i id with
  | true=> kn t H
  | false=> kx i t H) kr
 | .loop a=> λ_ kx kr=> Yn (λs H k=> kJ P C A n a (emb s (kH [] A.live (jO a)) 0) H (λt H=> k (xW (kH [] A.live (jO a)) t) H) kx kr)::
   vI A n a (λt H=> Yn (λs H k=> kJ P C A n a (emb s (kH [] A.live (jO a)) 0) H (λt H=> k (xW (kH [] A.live (jO a)) t) H) kx kr) (xW (kH [] A.live (jO a)) t) H) kx kr
 | _=> λ_ _ _=> []
def pq(A:Ann)(n:Nat):Code->(Env->ah->Option β)->(Nat->Env->ah->Option β)->(Env->ah->Option β)->List (List AV->ah->Option β)
 | .seq a b=> λkn kx kr=> pq A n a (λt H=> kJ P C A n b t H kn kx kr) kx kr++pq A n b kn kx kr
 | .cond _ a b=> λkn kx kr=> pq A n a kn kx kr++pq A n b kn kx kr
 | .block id a=> λkn kx kr=> pq A n a kn (λi t H=> match Nat.beq i id with
  | true=> kn t H
  | false=> kx i t H) kr
 | .loop a=> λ_ kx kr=> (λs H=> kJ P C A n a (emb s (kH [] A.live (jO a)) 0) H (λt H=> Yn (λs H k=> kJ P C A n a (emb s (kH [] A.live (jO a)) 0) H (λt H=> k (xW (kH [] A.live (jO a)) t) H) kx kr) (xW (kH [] A.live (jO a)) t) H) kx kr)::
   pq A n a (λt H=> Yn (λs H k=> kJ P C A n a (emb s (kH [] A.live (jO a)) 0) H (λt H=> k (xW (kH [] A.live (jO a)) t) H) kx kr) (xW (kH [] A.live (jO a)) t) H) kx kr
 | _=> λ_ _ _=> []
end
section
variable (P:Program)
def Ry(n:Nat)(t:Env)(H:ah):List ResultVar->(List AV->Option (AV × ah))->Option (AV × ah)
 | [],k=> k []
 | .tmp d::rs,k=> Ry n t H rs λl=> k (uF n t (.tmp d)::l)
 | .cell a ty::rs,k=> bnd (QS P ty (uF n t (.tmp a)) H) λv _=> Ry n t H rs λl=> k (v::l)
def aqi(H:ah):List AV->Option (AV × ah)
 | [x]=> some (x,H)
 | xs=> some (.tup xs,H)
def ND(n:Nat)(rs:List ResultVar)(t:Env)(H:ah):Option (AV × ah):=Ry P n t H rs (aqi H)
end
def xX {β:Type}(F:(List AV->ah->Option β)->Option β):Prop:=
 ∀k r,F k=some r->(∀k',F k'=some r)∨∃s H,k s H=some r/\∀k',k' s H=some r->F k'=some r
section
variable {β:Type}
theorem gU(x:Option β):xX λ_=> x:=λ_ _ h=> .inl λ_=> h
theorem Yo(s:List AV)(H:ah):xX λ(k:List AV->ah->Option β)=> k s H:=λ_ _ h=> .inr ⟨s,H,h,λ_ h=> h⟩
theorem Un {x:Option (AV × ah)}{K:(List AV->ah->Option β)->AV->ah->Option β}(h:∀v H,xX λk=> K k v H):xX λk=> bnd x (K k):=by
 rcases x with _ | ⟨v,H⟩
 ·exact gU none
 ·exact h v H
theorem anv {b:Bool}{x:Option (AV × ah)}{H:ah}{K:(List AV->ah->Option β)->AV->ah->Option β}(h:∀v H,xX λk=> K k v H):xX λk=> gd b x H (K k):=by
 cases b
 ·exact h aZ H
 ·exact Un h
theorem aiS {g:Option AV}{want:Bool}{x:Option (AV × ah)}{H:ah}{K:(List AV->ah->Option β)->AV->ah->Option β}(h:∀v H,xX λk=> K k v H):xX λk=> gdA g want x H (K k):=by
 unfold gdA;cases Jf g want with
 | none=> exact gU none
 | some b=> exact anv h
theorem abX {c:AV}{x y:(List AV->ah->Option β)->Option β}(hx:xX x)(hy:xX y):xX λk=> aY c (x k) (y k):=by
 unfold aY;split
 ·exact hx
 ·exact hy
 ·exact gU none
variable {P:Program}{C:aC}
theorem ad7 {t:Operand->AV}{o:Oper}{H:ah}{k:AV->ah->Option β}:opK P C t o H k=bnd (opE P C t o H) k:=by
 obtain⟨dst,op,type,pos,after,guard⟩:=o;have key:∀x:Option AV,bo x (λv=> k v H)=bnd (fP x H) k:=by intro x;cases x <;> rfl
 cases op <;> first | rfl | exact key _
theorem Jl {n:Nat}{ops:List Oper}{lo:Bool}{o:Oper}{t:Env}{H:ah}{K:(List AV->ah->Option β)->AV->ah->Option β}(h:∀v H,xX λk=> K k v H):xX λk=> Wi P C n ops lo o t H (K k):=by
 unfold Wi;cases o.guard with
 | none=>
  cases lo with
  | false=> simp only [ad7];exact Un h
  | true=> exact Un h
 | some g=> cases lo <;> exact aiS h
theorem OH {n:Nat}{ops:List Oper}{K:(List AV->ah->Option β)->Env->ah->Option β}(h:∀t H,xX λk=> K k t H):∀(l:List Oper) (t:Env) (H:ah),xX λk=> aiR P C n ops l t H (K k)
 | [],t,H=> h t H
 | o::l,t,H=> Jl λv H=> OH h l _ H
theorem yP {n:Nat}{K:(List AV->ah->Option β)->Env->ah->Option β}(h:∀t H,xX λk=> K k t H):∀(l:List Oper) (fs:List (Option Bool)) (t:Env) (H:ah),xX λk=> Jk P C n l fs t H (K k)
 | [],[],t,H=> h t H
 | [],f::fs,t,H=> gU none
 | o::l,[],t,H=> gU none
 | o::l,none::fs,t,H=> Un λv H=> yP h l fs _ H
 | o::l,some b::fs,t,H=> yP h l fs t H
theorem agx {w:Option Nat}{H H':ah}{K:(List AV->ah->Option β)->Option β}(h:xX K):xX λk=> ck w H H' (K k):=by
 unfold ck;split
 ·exact h
 ·exact gU none
theorem abY {s s0:Nat}{H H':ah}{K:(List AV->ah->Option β)->Option β}(h:xX K):xX λk=> ckR s s0 H H' (K k):=by
 unfold ckR;split
 ·exact h
 ·exact gU none
theorem KY {ops:List Oper}{s s0:Nat}{log:Log}{K:(List AV->ah->Option β)->Option β}(h:xX K):∀ps,xX λk=> ckL ops s s0 log ps (K k)
 | []=> h
 | (j,e)::ps=> by
  simp only [ckL];cases cst ops j with
  | true=>
   cases D7 log e with
   | none=> exact gU none
   | some y=> exact abY (KY h ps)
  | false=>
   cases D7 log j with
   | none=> exact gU none
   | some x=>
    cases D7 log e with
    | none=> exact gU none
    | some y=> exact agx (KY h ps)
theorem BG {n:Nat}{ops:List Oper}{s s0:Nat}{ps:List (Nat × Nat)}{K:(List AV->ah->Option β)->Env->ah->Option β}(h:∀t H,xX λk=> K k t H):∀(l:List Oper) (fs:List (Option Bool)) (i:Nat) (t:Env) (H:ah) (log:Log),xX λk=> IB P C n ops s s0 ps l fs i t H log (K k)
 | [],[],i,t,H,log=> KY (h t H) ps
 | [],f::fs,i,t,H,log=> gU none
 | o::l,[],i,t,H,log=> gU none
 | o::l,none::fs,i,t,H,log=> BG h l fs (i+1) t H log
 | o::l,some lo::fs,i,t,H,log=> by
  exact Jl λv H'=> BG h l fs (i+1) _ H' _
theorem sS {B:List AV->ah->(List AV->ah->Option β)->Option β}(hB:∀s H,xX (B s H)):∀m s H r,FU B m s H=some r->FU B (m+1) s H=some r:=by
 intro m
 induction m with
 | zero=> intro s H r h;cases h
 | succ m ih=>
  intro s H r h;rcases hB s H _ r h with h1 | ⟨s',H',h1,h2⟩
  ·exact h1 _
  ·exact h2 _ (ih _ _ _ h1)
theorem agy {B:List AV->ah->(List AV->ah->Option β)->Option β}(hB:∀s H,xX (B s H))(s:List AV)(H:ah):Yn B s H=B s H (Yn B):=by
 have up:∀r,B s H (Yn B)=some r->Yn B s H=some r:=by
  intro r h;rcases hB s H _ r h with h1 | ⟨s',H',h1,h2⟩
  ·exact wz (g:=λn=> FU B n s H) (λn r=> sS hB n s H r) (n:=1) (h1 _)
  ·obtain⟨m,hm⟩:=lu h1;exact wz (g:=λn=> FU B n s H) (λn r=> sS hB n s H r) (n:=m+1) (h2 _ hm)
 cases h:Yn B s H with
 | none=>
  cases h':B s H (Yn B) with
  | none=> rfl
  | some r=> rw [up r h'] at h;cases h
 | some r=>
  obtain⟨m,hm⟩:=lu h;cases m with
  | zero=> cases hm
  | succ m=>
   symm;rcases hB s H _ r hm with h1 | ⟨s',H',h1,h2⟩
   ·exact h1 _
   ·exact h2 _ (wz (g:=λn=> FU B n s' H') (λn r=> sS hB n s' H' r) h1)
theorem Jm {A:Ann}{n:Nat}:∀(c:Code) (t:Env) (H:ah) (kn:(List AV->ah->Option β)->Env->ah->Option β) (kx:(List AV->ah->Option β)->Nat->Env->ah->Option β) (kr:(List AV->ah->Option β)->Env->ah->Option β),
  (∀t H,xX λk=> kn k t H)->(∀i t H,xX λk=> kx k i t H)->(∀t H,xX λk=> kr k t H)->xX λk=> kJ P C A n c t H (kn k) (kx k) (kr k):=by
 intro c
 induction c with
 | skip=> intro t H kn kx kr hn hx hr;exact hn t H
 | region id ops d=>
  intro t H kn kx kr hn hx hr;simp only [kJ];cases d with
  | false=>
   exact OH hn _ _ _
  | true=>
   exact yP (λv H=> BG hn _ _ _ _ _ _) _ _ _ _
 | seq a b iha ihb=>
  intro t H kn kx kr hn hx hr;exact iha t H (λk t H=> kJ P C A n b t H (kn k) (kx k) (kr k)) kx kr (λt H=> ihb t H kn kx kr hn hx hr) hx hr
 | cond c a b iha ihb=>
  intro t H kn kx kr hn hx hr;exact abX (iha t H kn kx kr hn hx hr) (ihb t H kn kx kr hn hx hr)
 | block id a ih=>
  intro t H kn kx kr hn hx hr;exact ih t H kn (λk i t H=> match Nat.beq i id with
   | true=> kn k t H
   | false=> kx k i t H) kr hn (λi t H=> by
   cases hb:Nat.beq i id with
   | true=> simp only [hb];exact hn t H
   | false=> simp only [hb];exact hx i t H) hr
 | loop a ih=>
  intro t H kn kx kr hn hx hr;simp only [kJ];generalize kH [] A.live (jO a)=M;have it:∀m s H,xX λk=> FU (λs H j=> kJ P C A n a (emb s M 0) H (λt H=> j (xW M t) H) (kx k) (kr k)) m s H:=by
   intro m
   induction m with
   | zero=> intro s H;exact gU none
   | succ m ihm=> intro s H;exact ih _ H (λk t H=> FU (λs H j=> kJ P C A n a (emb s M 0) H (λt H=> j (xW M t) H) (kx k) (kr k)) m (xW M t) H) kx kr (λt H=> ihm _ H) hx hr
  have hB:∀(k:List AV->ah->Option β) s H,xX ((λs H j=> kJ P C A n a (emb s M 0) H (λt H=> j (xW M t) H) (kx k) (kr k)) s H):=λk s H=>
   ih _ H (λj t H=> j (xW M t) H) (λ_=> kx k) (λ_=> kr k) (λt H=> Yo _ _) (λi t H=> gU _) (λt H=> gU _)
  intro k r h;obtain⟨m,hm⟩:=lu h;rcases it m _ _ k r hm with h1 | ⟨s',H',h1,h2⟩
  ·exact .inl λk'=> wz (λn r=> sS (hB k') n _ _ r) (h1 k')
  ·exact .inr ⟨s',H',h1,λk' hk=> wz (λn r=> sS (hB k') n _ _ r) (h2 k' hk)⟩
 | exit i=> intro t H kn kx kr hn hx hr;exact hx i t H
 | ret=> intro t H kn kx kr hn hx hr;exact hr t H
 | _=> intro t H kn kx kr hn hx hr;exact gU none
theorem abZ {A:Ann}{n:Nat}:∀(c:Code) (kn:Env->ah->Option β) (kx:Nat->Env->ah->Option β) (kr:Env->ah->Option β),vI P C A n c kn kx kr=pq P C A n c kn kx kr:=by
 intro c
 induction c with
 | seq a b iha ihb=> intro kn kx kr;simp only [vI,pq,iha,ihb]
 | cond c a b iha ihb=> intro kn kx kr;simp only [vI,pq,iha,ihb]
 | block id a ih=> intro kn kx kr;simp only [vI,pq,ih]
 | loop a ih=>
  intro kn kx kr;simp only [vI,pq,ih]
  congr 1
  funext s H
  exact agy (λs H=> Jm a _ H (λj t H=> j (xW _ t) H) (λ_=> kx) (λ_=> kr) (λt H=> Yo _ _) (λi t H=> gU _) (λt H=> gU _)) s H
 | _=> intro kn kx kr;rfl
end
def ad8:List Operand->Nat
 | []=> 0
 | .tmp d::xs=> 2 ^ d ||| ad8 xs
 | _::xs=> ad8 xs
def apN(d L:Nat):Nat:=L ^^^ (L &&& 2 ^ d)
def ad9(ops:List Oper)(o:Oper):Nat:=
 match o.guard with
 | none=> 0
 | some (j,_)=> match ops[j]? with
  | some p=> match p.dst with
   | some d=> 2 ^ d
   | none=> 0
  | none=> 0
def Wj(ops:List Oper)(o:Oper)(L:Nat):Nat:=
 (ad8 o.op.operands.toList ||| ad9 ops o) ||| (match o.dst with
  | some d=> apN d L
  | none=> L)
def Rz(ops:List Oper):List Oper->Nat->Nat
 | [],L=> L
 | o::os,L=> Wj ops o (Rz ops os L)
def ab1(ops:List Oper):List Oper->List (Option Bool)->Nat->Nat
 | o::os,none::fs,L=> Wj ops o (ab1 ops os fs L)
 | _::os,some _::fs,L=> ab1 ops os fs L
 | _,_,L=> L
def RD(ops:List Oper):List Oper->List (Option Bool)->Nat->Nat
 | o::os,some _::fs,L=> Wj ops o (RD ops os fs L)
 | _::os,none::fs,L=> RD ops os fs L
 | _,_,L=> L
def pR:List Nat->Nat
 | []=> 0
 | i::M=> 2 ^ i ||| pR M
def yQ(A:Ann):Code->Nat->(Nat->Nat)->Nat->Nat
 | .skip=> λLn _ _=> Ln
 | .region id ops d=> λLn _ _=> cond d (ab1 ops.toList ops.toList (kH [] A.draw id) (RD ops.toList ops.toList (kH [] A.draw id) Ln)) (Rz ops.toList ops.toList Ln)
 | .seq a b=> λLn Lx Lr=> yQ A a (yQ A b Ln Lx Lr) Lx Lr
 | .cond c a b=> λLn Lx Lr=> ad8 [c] ||| (yQ A a Ln Lx Lr ||| yQ A b Ln Lx Lr)
 | .block id a=> λLn Lx Lr=> yQ A a Ln (λi=> cond (Nat.beq i id) Ln (Lx i)) Lr
 | .loop a=> λ_ _ _=> pR (kH [] A.live (jO a))
 | .exit i=> λ_ Lx _=> Lx i
 | .ret=> λ_ _ Lr=> Lr
 | _=> λ_ _ _=> 0
def aiT:List (Option Bool)->List (Option Bool)->Bool
 | [],[]=> true
 | none::a,none::b=> aiT a b
 | some x::a,some y::b=> (x==y) && aiT a b
 | _,_=> false
def am1:List (Nat × Nat)->List (Nat × Nat)->Bool
 | [],[]=> true
 | (a,b)::l,(c,d)::m=> Nat.beq a c && (Nat.beq b d && am1 l m)
 | _,_=> false
def OI(A:Ann)(n:Nat):Code->Nat->(Nat->Nat)->Nat->Bool
 | .region id ops d=> λ_ _ _=> cond d (TQ ops.toList && (am1 (lJ ops.toList) (kH [] A.pairs id) && aiT (Ym ops.toList) (kH [] A.draw id))) true
 | .seq a b=> λLn Lx Lr=> OI A n a (yQ A b Ln Lx Lr) Lx Lr && OI A n b Ln Lx Lr
 | .cond _ a b=> λLn Lx Lr=> OI A n a Ln Lx Lr && OI A n b Ln Lx Lr
 | .block id a=> λLn Lx Lr=> OI A n a Ln (λi=> cond (Nat.beq i id) Ln (Lx i)) Lr
 | .loop a=> λ_ Lx Lr=> (let M:=pR (kH [] A.live (jO a));let X:=yQ A a M Lx Lr;Nat.beq (M ||| X) M && OI A n a M Lx Lr)
 | _=> λ_ _ _=> true
structure Ag(n L:Nat)(t:fQ)(e:Env):Prop where
 len:t.length=n
 get:∀i,i < n->L.testBit i=true->t.getD i aZ=NC e i
theorem Ag.sub {n L L':Nat}{t:fQ}{e:Env}(h:Ag n L t e)(hs:∀i,L'.testBit i=true->L.testBit i=true):Ag n L' t e:=⟨h.len,λi hn hi=> h.get i hn (hs i hi)⟩
theorem Ag.left {n L L':Nat}{t:fQ}{e:Env}(h:Ag n (L ||| L') t e):Ag n L t e:=h.sub λi hi=> by rw [zcx,hi];rfl
theorem Ag.right {n L L':Nat}{t:fQ}{e:Env}(h:Ag n (L ||| L') t e):Ag n L' t e:=h.sub λi hi=> by rw [zcx,hi];simp
theorem Uo {i n:Nat}(h:i < n):Nat.blt i n=true:=by simpa [Nat.blt_eq] using h
theorem OJ {i n:Nat}(h:n<=i):Nat.blt i n=false:=by
 cases hb:Nat.blt i n with
 | false=> rfl
 | true=> rw [Nat.blt_eq] at hb;omega
theorem uG {d:Nat}:(2 ^ d).testBit d=true:=by rw [zcV];simp
theorem Ur:∀(xs:List Operand) (d:Nat),Operand.tmp d∈xs->(ad8 xs).testBit d=true
 | x::xs,d,h=> by
  rcases zaj.1 h with rfl | h
  ·simp only [ad8];rw [zcx,uG];rfl
  ·have:=Ur xs d h;cases x with
   | tmp e=> simp only [ad8];rw [zcx,this];simp
   | _=> exact this
theorem Ag.tmp {n L:Nat}{t:fQ}{e:Env}(h:Ag n L t e){d:Nat}(hd:L.testBit d=true):t.getD d aZ=uF n e (.tmp d):=by
 have hl:=h.len;rcases zaT d n with h1 | h1
 ·simp only [uF,Uo h1,cond_true];exact h.get d h1 hd
 ·simp only [uF,OJ h1,cond_false];simp [List.getD,hl,h1]
theorem Ag.eval {n:Nat}{xs:List Operand}{t:fQ}{e:Env}(h:Ag n (ad8 xs) t e){x:Operand}(hx:x∈xs):dN t x=uF n e x:=by
 cases x with
 | tmp d=> exact h.tmp (Ur xs d hx)
 | _=> rfl
theorem Ag.put {n L:Nat}{t:fQ}{e:Env}{o:Oper}{ops:List Oper}(h:Ag n (Wj ops o L) t e)(v:AV):Ag n L (vS t o.dst v) (ad6 e o.dst v):=by
 have h2:=h.right;cases hd:o.dst with
 | none=> rw [hd] at h2;exact h2
 | some d=>
  rw [hd] at h2;have hl:=h.len;refine⟨by simp [vS,h.len],λi hn hi=> ?_⟩;by_cases hid:d=i
  ·subst hid;simp only [vS,ad6,NC,Nat.beq_refl,cond_true];rw [Ru (by omega)]
  ·have hb:Nat.beq d i=false:=zdA.2 λh=> hid (zbz h);simp only [vS,ad6,NC,hb,cond_false];rw [getD_set_ne hid];refine h2.get i hn ?_;simp only [apN,Nat.testBit_xor,Nat.testBit_and,zcV,hi,hid];simp
section
variable {β:Type}{P:Program}{C:aC}{n:Nat}
theorem anw {t:fQ}{o:Oper}:opA P C t o=opE P C (dN t) o:=by
 obtain⟨dst,op,type,pos,after,guard⟩:=o;cases op <;> first | rfl | (rename_i x;cases x <;> rfl) | (rename_i x y;cases y <;> rfl)
theorem Yp {ev ev':Operand->AV}{o:Oper}(h:∀x∈o.op.operands.toList,ev x=ev' x):opE P C ev o=opE P C ev' o:=by
 obtain⟨dst,op,type,pos,after,guard⟩:=o;have mp:∀(ps:Array (Nat × Operand)),(∀x∈(ps.toList.map (·.2)),ev x=ev' x)->ps.toList.map (λp=> (p.1,ev p.2))=ps.toList.map λp=> (p.1,ev' p.2):=λps hp=>
  zbr λp hm=> by rw [hp p.2 (zaG.2 ⟨p,hm,rfl⟩)]
 have om:∀(x:Option Operand),(∀y∈x.toArray.toList,ev y=ev' y)->x.map ev=x.map ev':=λx hx=> by
  cases x with
  | none=> rfl
  | some y=> simp only [zak,hx y (by simp)]
 simp only at h;cases op with
 | build ty ps=> simp only [opE,mp ps λx hx=> h x (by simpa [Op.operands] using hx)]
 | buildSlice ty m ps=> simp only [opE,mp ps λx hx=> h x (by simpa [Op.operands] using hx)]
 | makeFunc f a c=>
  simp only [opE];rw [zbr (f:=ev) (g:=ev') (l:=a.toList) λx hx=> h x (by simp [Op.operands];exact .inl (by simpa using hx)),zbr (f:=ev) (g:=ev') (l:=c.toList) λx hx=> h x (by simp [Op.operands];exact .inr (by simpa using hx))]
 | makeMap ty r=> cases r <;> rfl
 | slice ty x lo hi mx=>
  simp only [opE];rw [h x (by simp [Op.operands]),om lo λy hy=> h y (by simp [Op.operands];exact .inr (.inl (by simpa using hy))),om hi λy hy=> h y (by simp [Op.operands];exact .inr (.inr (.inl (by simpa using hy)))),om mx λy hy=> h y (by simp [Op.operands];exact .inr (.inr (.inr (by simpa using hy))))]
 | call c=>
  obtain⟨cal,args,tys⟩:=c;have ha:args.toList.map ev=args.toList.map ev':=zbr λx hx=> h x (by simp [Op.operands,Call.operands];exact .inr (by simpa using hx));cases cal with
  | value f=>
   simp only [opE]
   funext H
   simp only [agw];rw [ha,h f (by simp [Op.operands,Call.operands])]
  | builtin b=>
   simp only [opE]
   funext H
   simp only [agw];rw [ha]
  | invoke r m=> rfl
 | _=> first | rfl | (simp only [opE,h _ (show _ from(by simp [Op.operands]))];done) | (simp [Op.operands] at h;simp only [opE,h])
theorem Ag.op {L:Nat}{t:fQ}{e:Env}{ops:List Oper}{o:Oper}(h:Ag n (Wj ops o L) t e):opA P C t o=opE P C (uF n e) o:=by
 rw [anw];exact Yp λx hx=> h.left.left.eval hx
def Le(x y:Option β):Prop:=∀r,x=some r->y=some r
theorem Le.refl(x:Option β):Le x x:=λ_ h=> h
theorem Le.bnd {α:Type}{x:Option (α × ah)}{k k':α->ah->Option β}(h:∀v H,Le (k v H) (k' v H)):Le (bnd x k) (bnd x k'):=by
 rcases x with _ | ⟨v,H⟩
 ·exact Le.refl _
 ·exact h v H
theorem Us {L:Nat}{t:fQ}{e:Env}{ops:List Oper}{lo:Bool}{o:Oper}(h:Ag n (Wj ops o L) t e){H:ah}{k k':AV->ah->Option β}(hk:∀v H,Le (k' v H) (k v H)):Le (Wi P C n ops lo o e H k') (bnd (mQ P C ops lo o t H) k):=by
 have hop:opA P C t o=opE P C (uF n e) o:=h.op;unfold Wi mQ;cases hg:o.guard with
 | none=>
  simp only [tY,hg];cases lo with
  | false=> simp only [zaf,if_false,ad7,hop];exact Le.bnd hk
  | true=>
   simp only [if_true,opG,hop];exact Le.bnd hk
 | some gd=>
  obtain⟨j,want⟩:=gd;rw [Oz hg];have h1:=h.left.right;simp only [ad9,hg] at h1;have hgv:∀v,OG n ops e j=some v->Uj ops t j=some v:=by
   intro v hv;unfold OG at hv;unfold Uj;cases hp:ops[j]? with
   | none=> rw [hp] at hv;cases hv
   | some p=>
    rw [hp] at hv h1;simp only at hv h1;simp only [za6];cases hd:p.dst with
    | none=> rw [hd] at hv;cases hv
    | some d=>
     rw [hd] at hv h1;simp only at hv h1;simp only [za6];rcases zaT d n with hl | hl
     ·rw [Uo hl] at hv;have:=h1.len;rw [KW (by omega),h1.get d hl uG];exact hv
     ·rw [OJ hl] at hv;cases hv
  simp only;cases hk':OG n ops e j with
  | none=> intro r hr;cases lo <;> simp [gdA,Jf] at hr
  | some v=>
   rw [hgv v hk'];simp only [gdA];cases Jf (some v) want with
   | none=> intro r hr;cases lo <;> cases hr
   | some b=>
    cases b
    ·cases lo <;> exact hk _ _
    ·cases lo with
     | false=> simp only [gd,if_true,zaf,if_false,hop];exact Le.bnd hk
     | true=> simp only [gd,if_true,opG,hop];exact Le.bnd hk
theorem Yq {ops:List Oper}{L:Nat}{k:fQ->ah->Option β}{k':Env->ah->Option β}(hk:∀t e H,Ag n L t e->Le (k' e H) (k t H)):∀(l:List Oper) (t:fQ) (e:Env) (H:ah),Ag n (Rz ops l L) t e->Le (aiR P C n ops l e H k') (bnd (N7 P C ops l t H) k)
 | [],t,e,H,h=> hk t e H h
 | o::l,t,e,H,h=> by
  rw [zJ];have:=Us (P:=P) (C:=C) (lo:=false) h (H:=H) (k:=λv H=> bnd (N7 P C ops l (vS t o.dst v) H) k) (k':=λv H=> aiR P C n ops l (ad6 e o.dst v) H k') λv H=> Yq hk l _ _ H (h.put v);refine λr hr=> ?_;have h2:=this r hr;cases hs:mQ P C ops false o t H with
  | none=> rw [hs] at h2;cases h2
  | some q=> rw [hs] at h2;exact h2
theorem FV {ops:List Oper}{L:Nat}{k:fQ->ah->Option β}{k':Env->ah->Option β}(hk:∀t e H,Ag n L t e->Le (k' e H) (k t H)):∀(l:List Oper) (fs:List (Option Bool)) (t:fQ) (e:Env) (H:ah),Ag n (ab1 ops l fs L) t e->Le (Jk P C n l fs e H k') (bnd (zK P C l (fs.map λf=> f.isNone) t H) k)
 | [],[],t,e,H,h=> hk t e H h
 | [],f::fs,t,e,H,h=> λr hr=> by cases hr
 | o::l,[],t,e,H,h=> λr hr=> by cases hr
 | o::l,none::fs,t,e,H,h=> by
  simp only [Jk,zaz,zcG,zK];rw [Ag.op (P:=P) (C:=C) h];cases opE P C (uF n e) o H with
  | none=> exact Le.refl _
  | some q=> exact FV hk l fs _ _ _ (Ag.put h _)
 | o::l,some b::fs,t,e,H,h=> FV hk l fs _ _ H h
theorem agz {t:fQ}{ev:Operand->AV}{o:Oper}(h:∀x∈o.op.operands.toList,dN t x=ev x):lg t o.op=Jj ev o.op:=by
 obtain⟨dst,op,type,pos,after,guard⟩:=o;simp only at h;cases op with
 | call c=>
  obtain⟨cal,args,tys⟩:=c;simp only [lg,Jj];have ha:∀x∈args.toList,dN t x=ev x:=λx hx=> h x (by simp [Op.operands,Call.operands];exact .inr (by simpa using hx));generalize args.toList=l at ha
  match l with
  | []=> rfl
  | [x]=> simp only [ha x (by simp)]
  | x::y::l=> rfl
 | _=> first | rfl | (simp [Op.operands] at h;simp only [lg,Jj,h])
theorem FW {ops:List Oper}{s:Nat}{ps:List (Nat × Nat)}{t0:fQ}{H0:ah}{L:Nat}{k':Env->ah->Option β}{r:β}:∀(l:List Oper) (i:Nat) (t:fQ) (e:Env) (H:ah) (log:Log),i+l.length=ops.length->ops.drop i=l->Fe P C ops i t0 H0=some (t,H)->
  Ag n (RD ops l ((List.range' i l.length).map λi=> if cst ops i=true then none else some (loose ops i && mD (qp ops i))) L) t e->
  (∀j w Ha Hb,D7 log j=some (w,Ha,Hb)->∃ta tb,Fe P C ops j t0 H0=some (ta,Ha)/\w=lg ta (qp ops j)/\Fe P C ops (j+1) t0 H0=some (tb,Hb))->
  IB P C n ops s H0.next ps l ((List.range' i l.length).map λi=> if cst ops i=true then none else some (loose ops i && mD (qp ops i))) i e H log k'=some r->
  ∃t' e' H',fM P C ops (mW ops) t0 H0=some (t',H')/\(∀p∈ps,agree P C ops s t0 H0 p)/\Ag n L t' e'/\k' e' H'=some r
 | [],i,t,e,H,log,hl,hd,hs,hag,ait,h=> by
  have hi:i=ops.length:=by simpa using hl
  subst hi;refine⟨t,e,H,hs,?_⟩;simp only [zan,List.range'_zero,zbO,IB] at h;have aqj:Ag n L t e:=hag
  clear hs hd hl hag
  induction ps with
  | nil=> exact⟨λp hp=> (by simp at hp),aqj,h⟩
  | cons p ps ih=>
   obtain⟨j,e'⟩:=p;simp only [ckL] at h;cases hcj:cst ops j with
   | true=>
    rw [hcj] at h;simp only at h;cases he:D7 log e' with
    | none=> rw [he] at h;cases h
    | some y=>
     obtain⟨w',Ha,Hb⟩:=y;rw [he] at h;simp only [ckR] at h;split at h
     ·rename_i hck;obtain⟨i1,i2⟩:=ih h;refine⟨λp hp=> ?_,i2⟩;rcases zaj.1 hp with rfl | hp
      ·unfold agree;rw [if_pos hcj];intro te He te' He' q2 q3 r hr1 hr2;obtain⟨ta',tb',s4,s5,s6⟩:=ait e' w' Ha Hb he;rw [s4] at q2;rw [s6] at q3;cases q2;cases q3;exact hck r hr1 hr2
      ·exact i1 p hp
     ·cases h
   | false=>
    rw [hcj] at h;simp only at h;cases hj:D7 log j with
    | none=> rw [hj] at h;cases h
    | some x=>
    obtain⟨w,Hx,Hy⟩:=x;cases he:D7 log e' with
    | none=> rw [hj,he] at h;cases h
    | some y=>
     obtain⟨w',Ha,Hb⟩:=y;rw [hj,he] at h;simp only [ck] at h;split at h
     ·rename_i hck;obtain⟨i1,i2⟩:=ih h;refine⟨λp hp=> ?_,i2⟩;rcases zaj.1 hp with rfl | hp
      ·unfold agree;rw [if_neg (by rw [hcj];decide)];intro tj Hj te He te' He' q1 q2 q3 r hr;obtain⟨ta,tb,s1,s2,s3⟩:=ait j w Hx Hy hj;obtain⟨ta',tb',s4,s5,s6⟩:=ait e' w' Ha Hb he;rw [s1] at q1;rw [s4] at q2;rw [s6] at q3;cases q1;cases q2;cases q3;exact hck r (by rw [s2];exact hr)
      ·exact i1 p hp
     ·cases h
 | o::l,i,t,e,H,log,hl,hd,hs,hag,ait,h=> by
  have hi:i < ops.length:=by simp at hl;omega
  have ho:ops[i]?=some o:=by
   have:=zaF (xs:=ops) (i:=i) (j:=0);rw [hd] at this
   simpa using this.symm
  have hd':ops.drop (i+1)=l:=by
   rw [<-zbA,hd];rfl
  rw [zal,zdc,zaz] at h hag;cases hc:cst ops i with
  | true=>
   simp only [hc,if_true,IB] at h;simp only [hc,if_true,RD] at hag;refine FW l (i+1) t e H log (by simp at hl;omega) hd' ?_ hag ait h;rw [wo,hs];simp [hc]
  | false=>
   simp only [hc,zaf,if_false,IB] at h;simp only [hc,zaf,if_false,RD] at hag;rw [uw ho] at h;have hw:lg t o.op=Jj (uF n e) o.op:=agz λx hx=> Ag.eval (Ag.left (Ag.left hag)) hx;have key:=Us (P:=P) (C:=C) (lo:=loose ops i && mD o.op) hag (H:=H) (β:=β)
    (k:=λv H'=> IB P C n ops s H0.next ps l ((List.range' (i+1) l.length).map λi=> if cst ops i=true then none else some (loose ops i && mD (qp ops i))) (i+1) (ad6 e o.dst v) H' ((i,Jj (uF n e) o.op,H,H')::log) k')
    (λv H=> Le.refl _) r h
   cases hst:mQ P C ops (loose ops i && mD o.op) o t H with
   | none=> rw [hst] at key;cases key
   | some q=>
    obtain⟨v,H'⟩:=q;rw [hst] at key;simp only [bnd] at key;have hs':Fe P C ops (i+1) t0 H0=some (vS t o.dst v,H'):=by
     rw [wo,hs];simp [hc,ho,hst,fM]
    refine FW l (i+1) _ _ H' _ (by simp at hl;omega) hd' hs' (Ag.put hag v) (λj w Ha Hb hj=> ?_) key;simp only [D7] at hj;cases hb:Nat.beq i j with
    | true=>
     have:i=j:=zbz hb;subst this;rw [hb] at hj;simp only [cond_true,zaa,zad] at hj;obtain⟨rfl,rfl,rfl⟩:=hj;exact⟨t,_,hs,by rw [uw ho,hw],hs'⟩
    | false=>
     rw [hb] at hj;exact ait j w Ha Hb hj
theorem Ut {i:Nat}:∀{M:List Nat},(pR M).testBit i=true->i∈M
 | [],h=> by simp [pR] at h
 | m::M,h=> by
  simp only [pR,zcx,zcV,zbe,decide_eq_true_eq] at h;rcases h with rfl | h
  ·simp
  ·exact za9 _ (Ut h)
theorem Uu {e:Env}:∀(M pre:List Nat) (i:Nat),i∈M->NC (emb (xW (pre++M) e) M pre.length) i=NC e i
 | m::M,pre,i,h=> by
  simp only [emb,NC];cases hb:Nat.beq m i with
  | true=>
   have:m=i:=zbz hb;subst this;simp only [cond_true];have:∀pre:List Nat,(xW (pre++m::M) e).getD pre.length aZ=NC e m:=by
    intro pre
    induction pre with
    | nil=> rfl
    | cons x pre ih=> exact ih
   exact this pre
  | false=>
   simp only [cond_false];have hne:i≠m:=λe=> by subst e;rw [show Nat.beq i i=true from Nat.beq_refl i] at hb;cases hb
   have:=Uu (e:=e) M (pre++[m]) i ((zaj.1 h).resolve_left hne)
   simpa using this
theorem Ag.emb {M:List Nat}{t:fQ}{e:Env}(h:Ag n (pR M) t e):Ag n (pR M) t (Go.Proofs.YtljogojaihgdlaaGreat.emb (xW M e) M 0):=by
 refine⟨h.len,λi hn hi=> ?_⟩;have:=Uu (e:=e) M [] i (Ut hi);simp only [zaK,zan] at this;rw [this];exact h.get i hn hi
def OQ(kn:fQ->ah->Option β)(kx:Nat->fQ->ah->Option β)(kr:fQ->ah->Option β):Res->Option β
 | some (.normal,t,H)=> kn t H
 | some (.exit i,t,H)=> kx i t H
 | some (.ret,t,H)=> kr t H
 | none=> none
variable {kn:fQ->ah->Option β}{kx:Nat->fQ->ah->Option β}{kr:fQ->ah->Option β}
theorem Yr {x:Option (fQ × ah)}:OQ kn kx kr (okN x)=bnd x kn:=by rcases x with _ | ⟨t,H⟩ <;> rfl
theorem Uw {r:Res}{g:Run}:OQ kn kx kr (rV r g)=OQ (λt H=> OQ kn kx kr (g t H)) kx kr r:=by
 rcases r with _ | ⟨e,t,H⟩
 ·rfl
 ·cases e <;> rfl
theorem Yt {id:Nat}{r:Res}:OQ kn kx kr (Dl id r)=OQ kn (λi t H=> match Nat.beq i id with
 | true=> kn t H
 | false=> kx i t H) kr r:=by
 rcases r with _ | ⟨e,t,H⟩
 ·rfl
 ·cases e with
  | exit i=>
   simp only [Dl,OQ];by_cases hi:i=id
   ·subst hi;simp only [if_true,Nat.beq_refl]
   ·have:Nat.beq i id=false:=zdA.2 λh=> hi (zbz h);simp only [hi,if_false,this]
  | normal=> rfl
  | ret=> rfl
theorem ab2 {c:AV}{x y:Res}:OQ kn kx kr (abT c x y)=aY c (OQ kn kx kr x) (OQ kn kx kr y):=by
 unfold abT aY;split <;> first | rfl | skip
 all_goals (try(split <;> first | rfl | contradiction))
theorem RF:∀{a b:List (Option Bool)},aiT a b=true->a=b
 | [],[],_=> rfl
 | none::a,none::b,h=> by rw [RF (a:=a) (b:=b) h]
 | some x::a,some y::b,h=> by
  simp only [aiT,zah,beq_iff_eq] at h;rw [h.1,RF h.2]
 | [],_::_,h=> by cases h
 | none::_,[],h=> by cases h
 | some _::_,[],h=> by cases h
 | none::_,some _::_,h=> by cases h
 | some _::_,none::_,h=> by cases h
theorem Yu:∀{a b:List (Nat × Nat)},am1 a b=true->a=b
 | [],[],_=> rfl
 | (a,b)::l,(c,d)::m,h=> by
  simp only [am1,zah] at h;rw [zbz h.1,zbz h.2.1,Yu h.2.2]
 | [],_::_,h=> by cases h
 | _::_,[],h=> by cases h
open Classical in
theorem FX(A:Ann):∀(c:Code) (Ln:Nat) (Lx:Nat->Nat) (Lr:Nat),OI A n c Ln Lx Lr=true->∀(kn:fQ->ah->Option β) (kn':Env->ah->Option β) (kx:Nat->fQ->ah->Option β) (kx':Nat->Env->ah->Option β) (kr:fQ->ah->Option β) (kr':Env->ah->Option β),
  (∀t t' H,Ag n Ln t t'->Le (kn' t' H) (kn t H))->(∀i t t' H,Ag n (Lx i) t t'->Le (kx' i t' H) (kx i t H))->(∀t t' H,Ag n Lr t t'->Le (kr' t' H) (kr t H))->
  ∀t t' H,Ag n (yQ A c Ln Lx Lr) t t'->Le (kJ P C A n c t' H kn' kx' kr') (OQ kn kx kr (fD P C c t H)):=by
 intro c
 induction c with
 | skip=> intro Ln Lx Lr hc kn kn' kx kx' kr kr' hn hx hr t t' H h;exact hn t t' H h
 | region id ops d=>
  intro Ln Lx Lr hc kn kn' kx kx' kr kr' hn hx hr t t' H h;cases d with
  | false=>
   rw [Rt,Yr];exact Yq hn _ t t' H h
  | true=>
   simp only [OI,cond_true,zah] at hc;obtain⟨h1,h2,h3⟩:=hc;have h2:=Yu h2;have h3:=RF h3;have hfc:(kH [] A.draw id).map (λf=> f.isNone)=FT ops.toList:=by
    rw [<-h3,Ym,FT,zcO]
    apply zbr
    intro i _;simp only [Function.comp];cases cst ops.toList i <;> rfl
   rw [Ye,Yr];have e1:iJ P C ops.toList (oL ops.toList) t H=zK P C ops.toList (FT ops.toList) t H:=by
    have:=OD (P:=P) (C:=C) (ops:=ops.toList) ops.toList [] t H rfl
    simpa [oL,FT,zcR] using this
   have hfl:kH [] A.draw id=(List.range' 0 ops.toList.length).map λi=> if cst ops.toList i=true then none else some (loose ops.toList i && mD (qp ops.toList i)):=by
    rw [<-h3,Ym,zcR]
   refine λr hr0=> ?_;have hr1:=FV (P:=P) (C:=C) (β:=β) (ops:=ops.toList) (L:=RD ops.toList ops.toList (kH [] A.draw id) Ln)
    (k:=λt0 H0=> if(∀p∈kH [] A.pairs id,agree P C ops.toList H.next t0 H0 p) then bnd (fM P C ops.toList (mW ops.toList) t0 H0) kn else none)
    (k':=λt H0=> IB P C n ops.toList H.next H0.next (kH [] A.pairs id) ops.toList (kH [] A.draw id) 0 t H0 [] kn') (λt0 e0 H0 ht r hr=> by
     rw [hfl] at hr ht;obtain⟨t1,e1,H1,d1,d2,d3,d4⟩:=FW (t0:=t0) (H0:=H0) ops.toList 0 t0 e0 H0 [] (by simp) (by simp) (by simp [Fe,fM]) ht (λj w Ha Hb hj=> by cases hj) hr;rw [if_pos d2,d1];exact hn t1 e1 H1 d3 r d4) ops.toList (kH [] A.draw id) t t' H h r hr0
   rw [hfc] at hr1;cases hcl:zK P C ops.toList (FT ops.toList) t H with
   | none=> rw [hcl] at hr1;cases hr1
   | some q=>
    obtain⟨t0,H0⟩:=q;rw [hcl] at hr1;simp only [bnd] at hr1;split at hr1
    ·rename_i d2;have:yI P C ops.toList t H=fM P C ops.toList (mW ops.toList) t0 H0:=by
      unfold yI;rw [if_pos h1,e1,hcl];simp only;rw [<-h2] at d2;split
      ·rfl
      ·rw [if_pos d2]
     rw [this];exact hr1
    ·cases hr1
 | seq a b iha ihb=>
  intro Ln Lx Lr hc kn kn' kx kx' kr kr' hn hx hr t t' H h;simp only [OI,zah] at hc;rw [abU,Uw];exact iha _ Lx Lr hc.1 _ _ kx kx' kr kr' (λt t' H ht=> ihb Ln Lx Lr hc.2 kn kn' kx kx' kr kr' hn hx hr t t' H ht) hx hr t t' H h
 | cond c a b iha ihb=>
  intro Ln Lx Lr hc kn kn' kx kx' kr kr' hn hx hr t t' H h;simp only [OI,zah] at hc;have ha:=iha Ln Lx Lr hc.1 kn kn' kx kx' kr kr' hn hx hr t t' H h.right.left;have hb:=ihb Ln Lx Lr hc.2 kn kn' kx kx' kr kr' hn hx hr t t' H h.right.right;rw [Yd,ab2,h.left.eval (x:=c) (zaO.2 rfl)];show Le (aY (uF n t' c) _ _) _;unfold aY;split
  ·exact ha
  ·exact hb
  ·exact Le.refl _
 | block id a ih=>
  intro Ln Lx Lr hc kn kn' kx kx' kr kr' hn hx hr t t' H h;rw [Wh,Yt];refine ih Ln _ Lr hc kn kn' _ _ kr kr' hn (λi t t' H ht=> ?_) hr t t' H h;cases hb:Nat.beq i id with
  | true=> simp only [hb,cond_true] at ht ⊢;exact hn t t' H ht
  | false=> simp only [hb,cond_false] at ht ⊢;exact hx i t t' H ht
 | loop a ih=>
  intro Ln Lx Lr hc kn kn' kx kx' kr kr' hn hx hr t t' H h;simp only [OI,zah] at hc;simp only [yQ] at h;simp only [kJ];generalize kH [] A.live (jO a)=M at hc h ⊢;obtain⟨hs,hc⟩:=hc;have hs:pR M ||| yQ A a (pR M) Lx Lr=pR M:=zbz hs
  have hsub:∀i,(yQ A a (pR M) Lx Lr).testBit i=true->(pR M).testBit i=true:=λi hi=> by rw [<-hs,zcx,hi];simp
  let B:List AV->ah->(List AV->ah->Option β)->Option β:=λs H k=> kJ P C A n a (emb s M 0) H (λt H=> k (xW M t) H) kx' kr'
  have it:∀m t t' H,Ag n (pR M) t t'->Le (FU B m (xW M t') H) (OQ kn kx kr (Bv (fD P C a) m t H)):=by
   intro m
   induction m with
   | zero=> intro t t' H _ r hr;cases hr
   | succ m ihm=>
    intro t t' H ht;show Le (kJ P C A n a (emb (xW M t') M 0) H (λt H=> FU B m (xW M t) H) kx' kr') (OQ kn kx kr (rV (fD P C a t H) (Bv (fD P C a) m)));rw [Uw];exact ih (pR M) Lx Lr hc _ _ kx kx' kr kr' (λt t' H hh=> ihm t t' H hh) hx hr _ _ H (ht.emb.sub hsub)
  rw [show fD P C (.loop a)=V4 (fD P C a) from rfl];intro r hf;obtain⟨m,hm⟩:=lu hf;have hm:=it m t t' H h r hm;cases hr:Bv (fD P C a) m t H with
  | none=> rw [hr] at hm;cases hm
  | some q=> rw [show V4 (fD P C a) t H=some q from wz (λn r=> I8 n t H r) hr,<-hr];exact hm
 | exit i=> intro Ln Lx Lr hc kn kn' kx kx' kr kr' hn hx hr t t' H h;exact hx i t t' H h
 | ret=> intro Ln Lx Lr hc kn kn' kx kx' kr kr' hn hx hr t t' H h;exact hr t t' H h
 | _=> intro Ln Lx Lr hc kn kn' kx kx' kr kr' hn hx hr t t' H h r hr;cases hr
end
def QM:List ResultVar->Nat
 | []=> 0
 | .tmp d::rs=> 2 ^ d ||| QM rs
 | .cell a _::rs=> 2 ^ a ||| QM rs
theorem KZ {P:Program}{n:Nat}{t:fQ}{e:Env}{H:ah}:∀(rs:List ResultVar) (k:List AV->Option (AV × ah)),Ag n (QM rs) t e->Ry P n e H rs k=(rs.mapM (Uc P t H)).bind k
 | [],k,_=> by simp [Ry]
 | .tmp d::rs,k,h=> by
  rw [zbm,Ry,KZ rs _ h.right,<-h.left.tmp uG];simp only [Uc,zcf,za6,zcF];cases rs.mapM (Uc P t H) <;> rfl
 | .cell a ty::rs,k,h=> by
  rw [zbm,Ry,<-h.left.tmp uG];simp only [Uc];cases QS P ty (t.getD a aZ) H with
  | none=> rfl
  | some r=>
   simp only [bnd,zak,zcf,za6,zcF];rw [KZ rs _ h.right];cases rs.mapM (Uc P t H) <;> rfl
theorem Yv {P:Program}{n:Nat}{t:fQ}{e:Env}{H:ah}(rs:List ResultVar)(h:Ag n (QM rs) t e):(jo P rs t H).map (λv=> (v,H))=ND P n rs e H:=by
 unfold ND jo;rw [KZ rs _ h];cases rs.mapM (Uc P t H) with
 | none=> rfl
 | some l=>
  simp only [za6]
  match l with
  | []=> rfl
  | [x]=> rfl
  | x::y::l=> rfl
def anx(A:Ann)(fn:Func)(c:Code):Bool:=OI A fn.ntmps c (QM fn.results.toList) (λ_=> 0) (QM fn.results.toList)
theorem La(n:Nat):∀(args:List AV) (i j:Nat),j < n->(args++List.replicate (n - args.length) aZ).getD j aZ=NC (OE args i) (i+j)
 | [],i,j,hj=> by
  simp [OE,NC,List.getD,hj]
 | a::args,i,0,_=> by simp [OE,NC]
 | a::args,i,j+1,hj=> by
  have hb:Nat.beq i (i+(j+1))=false:=zdA.2 λh=> by have:=zbz h;omega
  simp only [OE,NC,hb,cond_false];have:=La (n - 1) args (i+1) j (by omega);rw [show i+(j+1)=i+1+j by omega,<-this];simp only [zal,zbb,List.getD_cons_succ];rw [show n - (args.length+1)=n - 1 - args.length by omega]
theorem aiU {P:Program}{C:aC}{A:Ann}{f:FuncId}{fn:Func}{c:Code}{args:List AV}{H:ah}(hf:P.funcs[f]?=some fn)(hb:fn.body=some c)(hl:Nat.ble args.length fn.ntmps=true)(hc:anx A fn c=true){r:AV × ah}
  (h:kJ P C A fn.ntmps c (OE args 0) H (ND P fn.ntmps fn.results.toList) (λ_ _ _=> none) (ND P fn.ntmps fn.results.toList)=some r):zo P C f args H=some r:=by
 rw [agt hf hb];have key:∀r:Res,anu P fn.results.toList r=OQ (λt H=> (jo P fn.results.toList t H).map λv=> (v,H)) (λ_ _ _=> none) (λt H=> (jo P fn.results.toList t H).map λv=> (v,H)) r:=by
  intro r;rcases r with _ | ⟨e,t,H⟩
  ·rfl
  ·cases e <;> rfl
 rw [key];have hl:args.length<=fn.ntmps:=Nat.le_of_ble_eq_true hl;have hlen:(args++List.replicate (fn.ntmps - args.length) aZ).length=fn.ntmps:=by simp;omega
 have hr:∀t e H,Ag fn.ntmps (QM fn.results.toList) t e->Le (ND P fn.ntmps fn.results.toList e H) ((jo P fn.results.toList t H).map λv=> (v,H)):=λt e H h=> by
  rw [Yv _ h];exact Le.refl _
 exact FX A c _ _ _ hc _ _ _ _ _ _ hr (λ_ _ _ _ _=> Le.refl _) hr _ _ H ⟨hlen,λi hn _=> by have:=La fn.ntmps args 0 i hn;rwa [zaW] at this⟩ r h
def rF:Nat->List (Option Bool)->List (Option Bool)
 | 0,l=> l
 | n+1,l=> some false::rF n l
abbrev OA:=Option (AV × ah)
theorem rnK {P:Program}{C:aC}{A:Ann}{f:FuncId}{fn:Func}{c:Code}{args:List AV}{H:ah}{s:OA}(hf:P.funcs[f]?=some fn)(h1:(fn.body,Nat.ble args.length fn.ntmps,anx A fn c)=(some c,true,true))
  (hs:kJ P C A fn.ntmps c (OE args 0) H (ND P fn.ntmps fn.results.toList) (λ_ _ _=> none) (ND P fn.ntmps fn.results.toList)=s) {r:AV × ah} (h:s=some r):zo P C f args H=some r:=by
 simp only [zad] at h1;exact aiU hf h1.1 h1.2.1 h1.2.2 (hs.trans h)
theorem rnG {P:Program}{C:aC}(A:Ann){f:FuncId}{fn:Func}{args:List AV}{H:ah}{s:OA}(hf:P.funcs[f]?=some fn)(h1:(fn.body,Nat.ble args.length fn.ntmps,anx A fn (fn.body.getD .skip))=(some (fn.body.getD .skip),true,true))
  (hs:kJ P C A fn.ntmps (fn.body.getD .skip) (OE args 0) H (ND P fn.ntmps fn.results.toList) (λ_ _ _=> none) (ND P fn.ntmps fn.results.toList)=s) {r:AV × ah} (h:s=some r):zo P C f args H=some r:=rnK hf h1 hs h
def qx(P:Program)(fn:Func)(n:Nat)(A:Ann)(no:Nat)(C:aC):List AV->ah->OA:=
 (vI P C A n (fn.body.getD .skip) (ND P n fn.results.toList) (λ_ _ _=> none) (ND P n fn.results.toList)).getD no λ_ _=> none
theorem lpE {P:Program}{fn:Func}{n:Nat}{A:Ann}{no:Nat}{C:aC}{l:List AV}{H:ah}:qx P fn n A no C l H=((pq P C A n (fn.body.getD .skip) (ND P n fn.results.toList) (λ_ _ _=> none) (ND P n fn.results.toList)).getD no λ_ _=> none) l H:=
 by unfold qx;rw [abZ]
def an0:Ann:=⟨[],[],[]⟩
@[congr] theorem aiV {α β:Type}{x y:Option (α × ah)}{k:α->ah->Option β}(h:x=y):bnd x k=bnd y k:=by rw [h]
@[congr] theorem am2 {α β:Type}{x y:Option α}{k:α->Option β}(h:x=y):bo x k=bo y k:=by rw [h]
@[congr] theorem agB {β:Type}{c d:AV}{x y:Option β}(h:c=d):aY c x y=aY d x y:=by rw [h]
@[congr] theorem aiW {β:Type}{g g':Option AV}{want:Bool}{x:Option (AV × ah)}{H:ah}{k:AV->ah->Option β}(h:g=g'):gdA g want x H k=gdA g' want x H k:=by rw [h]
theorem Yw {α β:Type}{v:α}{k:α->Option β}:bo (some v) k=k v:=rfl
theorem Jo {β:Type}{x y:Option β}:aY (.s (.bool true)) x y=x:=rfl
theorem FY {β:Type}{x y:Option β}:aY (.s (.bool false)) x y=y:=rfl
section
def fl(x:AV)(off:Nat):Option AV:=
 match x with
 | .agg cells=> cells[off]?
 | .s (.agg cs)=> (cs.toList.map AV.s)[off]?
 | _=> none
def slS(m:Nat)(x:AV)(lo hi mx:Option AV):Option AV:=
 match x with
  | .s (.slice none 0 0)=> match iV lo 0,iV hi 0,iV mx 0 with
   | some 0,some 0,some 0=> if hi=none->mx=none then some (.s (.slice none 0 0)) else none
   | _,_,_=> none
  | .sl r g off esz len cap ex=> match iV lo 0,iV hi len,iV mx cap with
   | some l,some h,some k=>
    if esz=m/\l<=h/\h<=k/\k<=cap/\(hi=none->mx=none) then some (.sl r g (off+l*esz) esz (h - l) (k - l) (ex || !isNone mx)) else none
   | _,_,_=> none
  | .vs n esz cells=> match iV lo 0,iV hi n,mx with
   | some l,some h,none=> if esz=m/\l<=h/\h<=n then some (.vs (h - l) esz ((cells.drop (l*esz)).take ((h - l)*esz))) else none
   | _,_,_=> none
  | _=> none
def kE(pl:Nat->Option (Nat × Nat))(z:List AV)(parts:List (Nat × AV)):Option AV:=(gX pl z parts).map .agg
def ldO(x:AV)(ob:Option fV):Option AV:=
 match x with
 | .ref _ g off=> match ob with
  | some (.blk g' _ cells)=> if g'=g then cells[off]? else none
  | _=> none
 | .ip cells=> cells[0]?
 | _=> none
def ld(x:AV):AM AV:=ku (ldO x) x
def am3(n:Nat)(x:AV)(ob:Option fV):Option AV:=
 match x with
 | .ref _ g off=> match ob with
  | some (.blk g' _ cells)=> if g'=g then(if off+n<=cells.length then some (.agg ((cells.drop off).take n)) else none) else none
  | _=> none
 | .ip cells=> if 0+n<=cells.length then some (.agg ((cells.drop 0).take n)) else none
 | _=> none
def lda(n:Nat)(x:AV):AM AV:=ku (am3 n x) x
def st(n:Nat)(x v:AV):AM AV:=λH=>
 match x with
 | .ref r g off=> match H.get r with
  | .blk g' ty cells=>
   if g'=g/\H.base<=r/\some n=some v.cells.length/\v.cells.all AV.aQ=true/\off+v.cells.length<=cells.length then
    some (aZ,H.put r (.blk g ty (aW cells off v.cells)))
   else none
  | .map ..=> none
 | _=> none
def alc(t:TypeId)(z:List AV):AM AV:=λH=> some (.ref H.next 0 0,H.new (.blk 0 t z))
def bsl(e:TypeId)(m:Nat)(z:List AV)(len:Nat)(parts:List (Nat × AV)):AM AV:=λH=>
 match gX (λi=> some (i*m,m)) (dX z len) parts with
 | some cells=> if cells.all AV.aQ=true then some (.sl H.next 0 0 m len len true,H.new (.blk 0 e cells)) else none
 | none=> none
def mks(e:TypeId)(m by_:Nat)(z:List AV)(len cap:AV):AM AV:=λH=>
 match len,cap with
 | .s (.int _ l),.s (.int _ c)=>
   if z.length=m/\z.all AV.aQ=true/\0<=l/\l<=c/\c<=140737488355328/\by_*c<=140737488355328 then
    some (.sl H.next 0 0 m l.toNat c.toNat true,H.new (.blk 0 e (dX z c.toNat)))
   else none
 | _,_=> none
def mkm(k:IntKind):AM AV:=λH=> some (.mp H.next,H.new (.map k []))
def lkO(k:IntKind)(z:Value)(x i:AV)(ok:Bool)(ob:Option fV):Option AV:=
 match x with
   | .mp _=> match i with
    | .s (.int k' n)=> match ob with
     | some (.map k'' es)=>
      if k'=k/\k''=k then
       match qm es n with
       | some v=> some (if ok then .tup [v,.s (.bool true)] else v)
       | none=> some (if ok then .tup [.s z,.s (.bool false)] else .s z)
      else none
     | _=> none
    | _=> none
   | _=> none
def lk(k:IntKind)(z:Value)(x i:AV)(ok:Bool):AM AV:=ku (lkO k z x i ok) x
def mup(k:IntKind)(x i v:AV):AM AV:=λH=>
 match x,i with
 | .mp r,.s (.int k' n)=> match H.get r with
  | .map k'' es=> if k'=k/\k''=k/\H.base<=r then some (aZ,H.put r (.map k (Kt es n v))) else none
  | _=> none
 | _,_=> none
def del(k:IntKind)(x i:AV):AM AV:=λH=>
 match x,i with
 | .mp r,.s (.int k' n)=> match H.get r with
  | .map k'' es=> if k'=k/\k''=k/\H.base<=r then some (.tup [],H.put r (.map k (zy es n))) else none
  | _=> none
 | _,_=> none
def ixO(m:Nat)(x i:AV)(ob:Option fV):Option AV:=
 match x with
  | .sl r g off esz len _ _=> match i with
   | .s (.int _ n)=> if some m=some esz/\aiA ob=g/\0<=n/\n < len then some (.ref r g (off+n.toNat*esz)) else none
   | _=> none
  | .vs len esz cells=> match i with
   | .s (.int _ n)=> if some m=some esz/\0<=n/\n < len then some (.ip (cells.drop (n.toNat*esz))) else none
   | _=> none
  | _=> none
def ix(m:Nat)(x i:AV):AM AV:=ku (ixO m x i) x
def anz(x:AV):Option AV:=
 match x with
  | .sl _ _ _ _ len _ _=> some (.s (.int .i64 len))
  | .vs n _ _=> some (.s (.int .i64 n))
  | .s (.slice _ n _)=> some (.s (.int .i64 n))
  | _=> none
def lnS(x:AV):AM AV:=ku (λ_=> anz x) x
def anA(x:AV)(ob:Option fV):Option AV:=
 match x with
  | .mp _=> match ob with
   | some (.map _ es)=> some (.s (.int .i64 es.length))
   | _=> none
  | .s (.map none)=> some (.s (.int .i64 0))
  | _=> none
def lnM(x:AV):AM AV:=ku (anA x) x
def app(e:TypeId)(m by_:Nat)(x y:AV):AM AV:=λH=>
 match jW y,cZ H y with
 | some n,some new=> dZ e m by_ x n new H
 | _,_=> none
def cpy(m:Nat)(x y:AV):AM AV:=λH=>
 match jW x,jW y,cZ H y with
  | some d,some n,some new=>
   let k:=min n d
   if new.length=n*m/\new.all AV.aQ=true then
    if k=0 then(match x with | .s (.string _)=> none | _=> some (.s (.int .i64 0),H)) else
    match x with
    | .sl r g off esz len _ _=> match H.get r with
     | .blk g' ty cells=>
      if esz=m/\g'=g/\H.base<=r/\off+len*m<=cells.length then
       some (.s (.int .i64 k),H.put r (.blk g ty (aW cells off (new.take (k*m)))))
      else none
     | .map ..=> none
    | _=> none
   else none
  | _,_,_=> none
def clr(m:Nat)(z:List AV)(x:AV):AM AV:=λH=>
 match x with
  | .sl r g off esz len _ _=>
   if len=0 then some (.tup [],H) else
   match H.get r with
   | .blk g' ty cells=>
    if esz=m/\g'=g/\H.base<=r/\z.length=m/\z.all AV.aQ=true/\off+len*m<=cells.length then
     some (.tup [],H.put r (.blk g ty (aW cells off (dX z len))))
    else none
   | .map ..=> none
  | .s (.slice none _ _)=> some (.tup [],H)
  | _=> none
end
theorem yu {P:Program}{t e:TypeId}{m n:Nat}{z:List AV}{ps:List (Nat × AV)}{H:ah}(he:zq P t=some e)(hm:szT P e=some m)(hz:xU P e=some z)(hl:z.length=m)(h:n*m<=16777216):dY P t n ps H=bsl e m z n ps H:=by
 simp only [dY,he,hm,hz];rw [if_pos ⟨hl,h⟩];rfl
theorem kQ {P:Program}{t:TypeId}{fs:Array Field}{pl:Nat->Option (Nat × Nat)}{z:List AV}{ps:List (Nat × AV)}(hz:xU P t=some z)(hu:P.underlying t=some (.struct fs))(ha:fs.all (λf=> (szT P f.type).isSome)=true)(hp:NJ P fs=pl):iL P t ps=kE pl z ps:=by
 simp only [iL,hz,hu,ha,if_true,hp];rfl
theorem Dq {P:Program}{s d:TypeId}{k1 k2 k:IntKind}{n:Int}{H:ah}(hb:Fa P s d=false)(hs:P.underlying s=some (.int k1))(hd:P.underlying d=some (.int k2)):jX P s d (.s (.int k n)) H=some (.s (.int k2 (IntKind.wrap k2 n)),H):=by
 have h:iR P (convert s d (.int k n))=some (.int k2 (IntKind.wrap k2 n)):=by
  have e1:∀{α:Type} (t:TypeId) (d:TypeDesc) (f:TypeDesc->Sem α),P.underlying t=some d->iR P (underlying t >>=f)=iR P (f d):=by
   intro α t d f h;show iR P ((match P.underlying t with
    | some d=> pure d
    | none=> stuck "no such type") >>=f)=_
   rw [h];rfl
  unfold convert;rw [e1 s _ _ hs,e1 d _ _ hd];rfl
 simp only [jX,ku,bQ,zcX,zA,hb,zaf,if_false,AV.val?,h,zak]
abbrev zI:AV:=.s (.int .i64 0)
abbrev zB:AV:=.s (.bool false)
abbrev zN:AV:=.s (.slice none 0 0)
abbrev zP:AV:=.s (.pointer none)
abbrev zM:AV:=.s (.map none)
abbrev I(n:Int):AV:=.s (.int .i64 n)
abbrev B(b:Bool):AV:=.s (.bool b)
def fld {β:Type}(a:AV)(i:Nat)(H:ah)(k:AV->ah->Option β):Option β:=bo (au a i) λp=> bnd (ld p H) k
@[congr] theorem aiX {β:Type}{a a':AV}{i:Nat}{H:ah}{k:AV->ah->Option β}(h:a=a'):fld a i H k=fld a' i H k:=by rw [h]
theorem aea {β:Type}{a:AV}{i:Nat}{H:ah}{k:AV->ah->Option β}:fld a i H k=bo (au a i) λp=> bnd (ld p H) k:=rfl
def gl {β:Type}(g:AV)(want:Bool)(e:Option AV)(H:ah)(k:AV->ah->Option β):Option β:=gdA (some g) want (fP e H) H k
@[congr] theorem am4 {β:Type}{g g':AV}{want:Bool}{e:Option AV}{H:ah}{k:AV->ah->Option β}(h:g=g'):gl g want e H k=gl g' want e H k:=by rw [h]
theorem aiY {β:Type}{g:AV}{want:Bool}{e:Option AV}{H:ah}{k:AV->ah->Option β}:gl g want e H k=gdA (some g) want (fP e H) H k:=rfl
end
end Go.Proofs.YtljogojaihgdlaaGreat
