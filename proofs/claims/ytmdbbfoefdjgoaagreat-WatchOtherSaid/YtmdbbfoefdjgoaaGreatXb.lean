/-
  Own work: an interpreter over named blocks, its soundness, and what the functions of this seat compute (part 2 of 11).
  Conditions: those of the statement alone.
-/
import Derived.Test.YtmdbbfoefdjgoaaGreatXa
set_option linter.all false
set_option linter.unusedSectionVars false
set_option linter.unusedVariables false
set_option linter.unusedSimpArgs false
namespace Go.Proofs.YtmdbbfoefdjgoaaGreat
noncomputable section
structure aaw(P:Program)(C:aA)(ops:List Oper)(t:fC)(H:ah)(t0:fC)(H0:ah)(T:Nat->fC)(Hp:Nat->ah)(val:Nat->AV)(nm:Nat->Nat):Prop where
 facts:DJ ops
 S:zF P C ops t0 H0 T Hp val
 names:∀j,j < ops.length->cst ops j=true->∃o,ops[j]?=some o/\H.next<=nm j/\nm j < H0.next/\KR P o (val j) (nm j) (H0.get (nm j))/\∀d,o.dst=some d->d < t.length->t0[d]?=some (val j)
 inj:∀i j,i < ops.length->j < ops.length->cst ops i=true->cst ops j=true->nm i=nm j->i=j
 rest:∀d,(∀j,cst ops j=true->∀o,ops[j]?=some o->o.dst≠some d)->t0[d]?=t[d]?
 len:t0.length=t.length
 fresh:O5 H H0
 aoK:∀r,H.next<=r->H.gen r=0->H0.gen r=0
 agr:∀p∈kK ops,agree P C ops H.next t0 H0 p
 ghost:∀p,p<=ops.length->∀d,NV (Hp p).next ((T p).getD d aO)
 keeps:jO C
section
variable {P:Program}{C:aA}{ops:List Oper}{t:fC}{H:ah}{t0:fC}{H0:ah}{T:Nat->fC}{Hp:Nat->ah}{val:Nat->AV}{nm:Nat->Nat}
theorem DL {i:Nat}(h:chn ops i=true):cst ops i=false/\flo ops i=false:=by
 unfold chn at h
 simpa using h
theorem ahr(i:Nat):cst ops i=true∨(cst ops i=false/\flo ops i=true)∨chn ops i=true:=by
 unfold chn;cases cst ops i <;> cases flo ops i <;> simp
theorem aeU {i:Nat}(h:flo ops i=true):cst ops i=false:=by
 unfold flo at h;unfold cst
 revert h
 generalize oI ops i=o;intro h;cases o <;> first | rfl | (simp only [pz] at h;cases h)
theorem uy {i:Nat}{o:Oper}(ho:ops[i]?=some o)(h:flo ops i=true):pz o.op=true/\kU o.op=false:=by
 unfold flo at h;rw [rX ho] at h;refine⟨h,?_⟩;obtain⟨dst,op,type,pos,after,guard⟩:=o;cases op <;> try rfl
 rename_i c;simp only [pz] at h;simp only [kU];cases hc:c.callee with
 | value f=> rw [hc] at h;cases h
 | _=> rfl
namespace aaw
variable (D:aaw P C ops t H t0 H0 T Hp val nm)
include D
theorem get {p:Nat}(hp:p < ops.length):∃o,ops[p]?=some o:=⟨_,zab hp⟩
theorem al3:∀p,p<=ops.length->(T p).length=t.length:=by
 intro p
 induction p with
 | zero=> intro _;rw [D.S.zero.1,D.len]
 | succ p ih=>
  intro hp;cases hc:cst ops p with
  | true=> rw [(D.S.skip p hp hc).1];exact ih (by omega)
  | false=>
   obtain⟨o,ho⟩:=D.get hp;rw [(D.S.step p o ho hc).2,kQ];exact ih (by omega)
theorem ahs:∀p,p<=ops.length->∀d,d < t.length->
  (∀i o,ops[i]?=some o->o.dst=some d->(cst ops i=true∨i < p)->(T p)[d]?=some (val i))/\
  ((∀i o,ops[i]?=some o->(cst ops i=true∨i < p)->o.dst≠some d)->(T p)[d]?=t[d]?):=by
 intro p
 induction p with
 | zero=>
  intro _ d hd;rw [D.S.zero.1];refine⟨λi o ho hdst hc=> ?_,λh=> D.rest d λj hj o ho=> h j o ho (.inl hj)⟩;have hc:cst ops i=true:=hc.resolve_right (by omega);obtain⟨o',ho',_,_,_,h5⟩:=D.names i (cO ho) hc;rw [ho] at ho';cases ho';exact h5 d hdst hd
 | succ p ih=>
  intro hp d hd;obtain⟨ih1,ih2⟩:=ih (by omega) d hd;cases hc:cst ops p with
  | true=>
   rw [(D.S.skip p hp hc).1];refine⟨λi o ho hdst hi=> ih1 i o ho hdst ?_,λh=> ih2 λi o ho hi=> h i o ho (hi.imp id λh=> by omega)⟩;rcases hi with hi | hi
   ·exact .inl hi
   ·by_cases e:i=p
    ·subst e;exact .inl hc
    ·exact .inr (by omega)
  | false=>
   obtain⟨op,hop⟩:=D.get hp;rw [(D.S.step p op hop hc).2,IL];by_cases hdp:op.dst=some d
   ·have hl:d < (T p).length:=by rw [D.al3 p (by omega)];exact hd
    rw [if_pos ⟨hdp,hl⟩];refine⟨λi o ho hdst hi=> ?_,λh=> absurd hdp (h p op hop (.inr (by omega)))⟩;rw [D.facts.al2 i p o op d ho hop hdst hdp]
   ·rw [if_neg λh=> hdp h.1];refine⟨λi o ho hdst hi=> ih1 i o ho hdst ?_,λh=> ih2 λi o ho hi=> h i o ho (hi.imp id λh=> by omega)⟩;rcases hi with hi | hi
    ·exact .inl hi
    ·refine .inr ?_;have:i≠p:=λe=> by subst e;rw [ho] at hop;cases hop;exact hdp hdst
     omega
theorem QX {p:Nat}(hp:p < ops.length)(hc:cst ops p=false)(hf:flo ops p=true):Hp (p+1)=Hp p:=by
 obtain⟨o,ho⟩:=D.get hp;obtain⟨h1,_⟩:=D.S.step p o ho hc;obtain⟨f1,f2⟩:=uy ho hf;unfold kY at h1;split at h1 <;> first | (cases h1;done) | skip
 ·rw [f2,zbQ,if_neg zdv] at h1;exact(IK f1 h1).1
 ·simp only [zaa,zae] at h1;exact h1.2.symm
theorem step_next {p:Nat}(hp:p < ops.length):(Hp p).next<=(Hp (p+1)).next:=by
 cases hc:cst ops p with
 | true=> rw [(D.S.skip p hp hc).2];exact zac _
 | false=>
  obtain⟨o,ho⟩:=D.get hp;obtain⟨h1,_⟩:=D.S.step p o ho hc;unfold kY at h1;split at h1 <;> first | (cases h1;done) | skip
  ·split at h1
   ·exact(DI D.keeps h1).1.2.1
   ·exact(BO D.keeps h1).next
  ·simp only [zaa,zae] at h1;rw [h1.2];exact zac _
theorem V8 {p:Nat}:∀k,p+k<=ops.length->(Hp p).next<=(Hp (p+k)).next:=by
 intro k
 induction k with
 | zero=> intro _;exact zac _
 | succ k ih=> intro h;exact zas (ih (by omega)) (D.step_next (by omega))
theorem V9 {p q:Nat}(h:p<=q)(hq:q<=ops.length):(Hp p).next<=(Hp q).next:=by
 have:=D.V8 (p:=p) (q - p) (by omega)
 rwa [show p+(q - p)=q by omega] at this
theorem aax {p:Nat}(hp:p<=ops.length):H0.next<=(Hp p).next:=by
 have:=D.V9 (zaV p) hp
 rwa [D.S.zero.2] at this
theorem DN {p:Nat}(hp:p < ops.length)(h:chn ops p=false):Hp (p+1)=Hp p:=by
 rcases ahr (ops:=ops) p with hc | ⟨hc,hf⟩ | hc
 ·exact(D.S.skip p hp hc).2
 ·exact D.QX hp hc hf
 ·rw [hc] at h;cases h
theorem aay {e:Nat}:∀k,e+k<=ops.length->(∀i,e<=i->i < e+k->chn ops i=false)->Hp (e+k)=Hp e:=by
 intro k
 induction k with
 | zero=> intro _ _;rfl
 | succ k ih=>
  intro hk h;show Hp (e+k+1)=Hp e;rw [D.DN (by omega) (h (e+k) (by omega) (by omega))];exact ih (by omega) λi h1 h2=> h i h1 (by omega)
theorem AO {e e':Nat}(h:e<=e')(he':e'<=ops.length)(hn:∀i,e<=i->i < e'->chn ops i=false):Hp e'=Hp e:=by
 have:=D.aay (e:=e) (e' - e) (by omega) λi h1 h2=> hn i h1 (by omega)
 rwa [show e+(e' - e)=e' by omega] at this
theorem quiet_step {p:Nat}(hp:p < ops.length)(hc:chn ops p=true)(hq:rJ (oI ops p)=true)(hl:loose ops p=true):∀r,r < (Hp p).next->(Hp (p+1)).get r=(Hp p).get r:=by
 obtain⟨o,ho⟩:=D.get hp;obtain⟨h1,_⟩:=D.S.step p o ho (DL hc).1;rw [rX ho] at hq;unfold kY at h1;split at h1 <;> first | (cases h1;done) | skip
 ·rw [hl,zaI] at h1;split at h1
  ·exact(DI D.keeps h1).1.2.2
  ·rename_i hcall;exact(O7 hq (by simpa using hcall) h1).2.2
 ·simp only [zaa,zae] at h1;rw [h1.2];exact λ_ _=> rfl
theorem aaz {k:Nat}(hk:k < ops.length)(hc:cst ops k=true):∀e,e<=ops.length->(∀i,i < e->chn ops i=true->lq ops k i=false)->(Hp e).get (nm k)=H0.get (nm k):=by
 intro e
 induction e with
 | zero=> intro _ _;rw [D.S.zero.2]
 | succ e ih=>
  intro he h;have ih:=ih (by omega) λi hi=> h i (by omega);cases hch:chn ops e with
  | false=> rw [D.DN (by omega) hch];exact ih
  | true=>
   have hb:=h e (by omega) hch;obtain⟨hqb,_⟩:=D.facts.loose k e hk (by omega) hc hch hb;have hl:loose ops e=true:=by
    unfold loose;refine zb8.2 ⟨k,zaY.2 hk,?_⟩;rw [hc,hch,hb];simp
   obtain⟨o,ho,hge,hlt,_⟩:=D.names k hk hc;rcases hqb with hq | hq
   ·rw [D.quiet_step (by omega) hch hq hl (nm k) (zau hlt (D.aax (by omega)))];exact ih
   ·have hmem:(k,e)∈kK ops:=by
     unfold kK;refine zbd.2 ⟨k,zaY.2 hk,zaS.2 ⟨e,zbt.2 ⟨zaY.2 (by omega),?_⟩,rfl⟩⟩;rw [hc,hch,hb,hq];simp
    have ha:=D.agr _ hmem;unfold agree at ha;rw [if_pos hc] at ha;rw [ha (T e) (Hp e) (T (e+1)) (Hp (e+1)) (D.S.at_ _ (by omega)) (D.S.at_ _ (by omega)) (nm k) hge hlt];exact ih
theorem FW {j:Nat}(hj:j < ops.length){r:Nat}(hw:kE (T j) (oI ops j)=some r){e1:Nat}(hr:r < (Hp e1).next):
  ∀k,e1+k<=ops.length->(∀i,e1<=i->i < e1+k->chn ops i=true->Ug ops j i=true)->(Hp (e1+k)).get r=(Hp e1).get r:=by
 intro k
 induction k with
 | zero=> intro _ _;rfl
 | succ k ih=>
  intro hk h;have ih:=ih (by omega) λi h1 h2=> h i h1 (by omega);show(Hp (e1+k+1)).get r=_;cases hch:chn ops (e1+k) with
  | false=> rw [D.DN (by omega) hch];exact ih
  | true=>
   have hu:=h (e1+k) (by omega) (by omega) hch;cases hq:rJ (oI ops (e1+k)) with
   | true=>
    have hl:loose ops (e1+k)=true:=by
     unfold loose;refine zb8.2 ⟨j,zaY.2 hj,?_⟩;rw [hu,zbT]
    rw [D.quiet_step (by omega) hch hq hl r (zau hr (D.V9 (by omega) (by omega)))];exact ih
   | false=>
    have hmem:(j,e1+k)∈kK ops:=by
     unfold kK;refine zbd.2 ⟨j,zaY.2 hj,zaS.2 ⟨e1+k,zbt.2 ⟨zaY.2 (by omega),?_⟩,rfl⟩⟩;rw [hu,hq];rfl
    have hfl:flo ops j=true:=by
     unfold Ug at hu;simp only [zaj] at hu;exact hu.1.1.1.2
    have ha:=D.agr _ hmem;unfold agree at ha;rw [if_neg (by rw [aeU hfl];decide)] at ha;have:=ha (T j) (Hp j) (T (e1+k)) (Hp (e1+k)) (T (e1+k+1)) (Hp (e1+k+1)) (D.S.at_ j (by omega)) (D.S.at_ _ (by omega)) (D.S.at_ _ (by omega)) r hw;rw [this];exact ih
theorem acA {i j:Nat}(hj:cst ops j=false)(h:lq ops i j=true)(hi:cst ops i=false):i<=j:=by
 have:=rW (ops:=ops) (L:=λk=> cst ops k=true∨k<=j) (λk o ho hk e he hb=> by
  obtain⟨_,h2⟩:=D.facts.edges k o ho e he hb;unfold Dq at h2;by_cases hck:cst ops k=true
  ·by_cases hce:cst ops e.on=true
   ·exact .inl hce
   ·simp only [Bool.not_eq_true] at hce;rw [hck,hce] at h2;simp at h2
  ·simp only [Bool.not_eq_true] at hck;have hk:k<=j:=hk.resolve_left (by simp [hck]);by_cases hce:cst ops e.on=true
   ·exact .inl hce
   ·simp only [Bool.not_eq_true] at hce;rw [hck,hce] at h2;simp at h2;exact .inr (by omega)) i j h (.inr (zac _))
 rcases this with h | h
 ·rw [hi] at h;cases h
 ·exact h
end aaw
abbrev Li(listed:Array Bool)(j:Nat):Prop:=listed.getD j false=true
structure Inv(ops:List Oper)(t:fC)(Hp:Nat->ah)(val:Nat->AV)(nm:Nat->Nat)(H:ah)(ρ0:Ren)(w0:World)(a0:Act)(listed:Array Bool)(a:Act)(w:World)(e:Nat)(ρ:Ren):Prop where
 size:listed.size=ops.length
 down:∀j o,ops[j]?=some o->Li listed j->∀ed∈o.after,Region.binds .any ed=true->Li listed ed.on
 le:e<=ops.length
 chain:∀i,i < ops.length->chn ops i=true->(Li listed i↔i < e)
 rel:Rel ρ (Hp e) w
 none:∀k,k < ops.length->cst ops k=true->¬Li listed k->ρ (nm k)=none
 ext:Ext ρ0 H w0 ρ (Hp e) w
 Wh:a.tmps.size=t.length
 tmps:∀d,d < t.length->(∀j o,ops[j]?=some o->Li listed j->o.dst=some d->RV ρ (Hp e).gen w (val j) (a.tmps.getD d undef))/\
  ((∀j o,ops[j]?=some o->Li listed j->o.dst≠some d)->RV ρ (Hp e).gen w (t.getD d aO) (a.tmps.getD d undef))
 defers:a.defers=a0.defers
theorem tq {listed:Array Bool}{i j:Nat}:Li (listed.setIfInBounds i true) j↔Li listed j∨(j=i/\i < listed.size):=by
 unfold Li;by_cases e:i=j
 ·subst e;by_cases hl:i < listed.size
  ·simp [hl]
  ·simp [hl]
 ·rw [getD_set_ne false e];simp [Ne.symm e]
section
variable {ρ0:Ren}{w0:World}{a0:Act}{listed:Array Bool}{a:Act}{w:World}{e:Nat}{ρ:Ren}
theorem wX {j:Nat}(hs:listed.size=ops.length)(hdown:∀j o,ops[j]?=some o->Li listed j->∀ed∈o.after,Region.binds .any ed=true->Li listed ed.on)(h:j∈Region.ready .any ops.toArray listed):
  ∃o,ops[j]?=some o/\¬Li listed j/\(∀i,i≠j->lq ops i j=true->Li listed i)/\(∀i,lq ops j i=true->¬Li listed i)/\
   ∀k o',ops[k]?=some o'->Li (listed.setIfInBounds j true) k->∀ed∈o'.after,Region.binds .any ed=true->Li (listed.setIfInBounds j true) ed.on:=by
 obtain⟨h0,o,ho,hall⟩:=mem_ready.1 h;have ho:ops[j]?=some o:=by simpa using ho
 have hlt:=cO ho;have hnl:¬Li listed j:=by
  unfold Li;rw [zcd] at h0 ⊢;rw [zcl (by omega)] at h0 ⊢;simp only [zat] at h0 ⊢;simp [h0]
 have hd2:∀k o',ops[k]?=some o'->Li (listed.setIfInBounds j true) k->∀ed∈o'.after,Region.binds .any ed=true->Li (listed.setIfInBounds j true) ed.on:=by
  intro k o' hk hl ed he hb;rcases tq.1 hl with hl | ⟨rfl,_⟩
  ·exact tq.2 (.inl (hdown k o' hk hl ed he hb))
  ·rw [ho] at hk;cases hk;exact tq.2 (.inl (hall ed he hb))
 refine⟨o,ho,hnl,λi hne hb=> ?_,λi hb hl=> hnl (rW (L:=Li listed) hdown j i hb hl),hd2⟩;have:=rW (L:=Li (listed.setIfInBounds j true)) hd2 i j hb (tq.2 (.inr ⟨rfl,by omega⟩));rcases tq.1 this with h | ⟨h,_⟩
 ·exact h
 ·exact absurd h hne
variable (D:aaw P C ops t H t0 H0 T Hp val nm)
include D
theorem aoL(I:Inv ops t Hp val nm H ρ0 w0 a0 listed a w e ρ){j:Nat}{o:Oper}(ho:ops[j]?=some o)(hc:cst ops j=false)(hnl:¬Li listed j)
  (hpre:∀i,i≠j->lq ops i j=true->Li listed i) (hpost:∀i,lq ops j i=true->¬Li listed i):TOn ρ (Hp e).gen w (· ∈o.looksAt ops.toArray) (T j) a:=by
 have hj:=cO ho;have hlen:=D.al3 j (by omega);refine⟨by rw [I.Wh,hlen],λd hd hl=> ?_⟩;rw [hlen] at hl;obtain⟨t1,t2⟩:=I.tmps d hl;obtain⟨s1,s2⟩:=D.ahs j (by omega) d hl;have hget:∀x,(T j)[d]?=some x->(T j).getD d aO=x:=λx hx=> by simp [List.getD,hx]
 by_cases hex:∃i oi,ops[i]?=some oi/\Li listed i/\oi.dst=some d
 ·obtain⟨i,oi,hoi,hli,hdst⟩:=hex;have hne:i≠j:=λe=> hnl (e ▸ hli);have hdone:cst ops i=true∨i < j:=by
   rcases D.facts.uses i j oi o d hne hoi ho hdst hd with⟨_,h⟩ | ⟨h,_⟩
   ·unfold Dq at h;rw [hc] at h;cases hci:cst ops i with
    | true=> exact .inl rfl
    | false=> rw [hci] at h;simp at h;exact .inr h
   ·exact absurd hli (hpost i h)
  rw [hget _ (s1 i oi hoi hdst hdone)];exact t1 i oi hoi hli hdst
 ·have hnone:∀i oi,ops[i]?=some oi->Li listed i->oi.dst≠some d:=λi oi h1 h2 h3=> hex ⟨i,oi,h1,h2,h3⟩;have h2:=s2 λi oi hoi hdone hdst=> by
   have hne:i≠j:=λe=> by
    subst e;rcases hdone with h | h
    ·rw [hc] at h;cases h
    ·omega
   rcases D.facts.uses i j oi o d hne hoi ho hdst hd with⟨h,_⟩ | ⟨_,h⟩
   ·exact hnone i oi hoi (hpre i hne h) hdst
   ·unfold Dq at h;rw [hc] at h;cases hci:cst ops i with
    | true=> rw [hci] at h;simp at h
    | false=>
     rw [hci] at h hdone;simp at h hdone;omega
  have:(T j).getD d aO=t.getD d aO:=by simp only [List.getD,h2]
  rw [this];exact t2 hnone
theorem Inv.on(I:Inv ops t Hp val nm H ρ0 w0 a0 listed a w e ρ){j:Nat}{o:Oper}(ho:ops[j]?=some o)(hnl:¬Li listed j)
  (hd2:∀k o',ops[k]?=some o'->Li (listed.setIfInBounds j true) k->∀ed∈o'.after,Region.binds .any ed=true->Li (listed.setIfInBounds j true) ed.on)
  {e':Nat} (he':e'<=ops.length) (hch:∀i,i < ops.length->chn ops i=true->(Li (listed.setIfInBounds j true) i↔i < e'))
  {ρ':Ren} {w':World} {cv:Value} (R:Rel ρ' (Hp e') w') (hn:∀k,k < ops.length->cst ops k=true->¬Li (listed.setIfInBounds j true) k->ρ' (nm k)=Option.none)
  (E:Ext ρ0 H w0 ρ' (Hp e') w') (M:acw ρ (Hp e).gen w ρ' (Hp e').gen w') (hv:RV ρ' (Hp e').gen w' (val j) cv):Inv ops t Hp val nm H ρ0 w0 a0 (listed.setIfInBounds j true) (a.put o.dst cv) w' e' ρ' where
 size:=by rw [Array.size_setIfInBounds];exact I.size
 down:=hd2
 le:=he'
 chain:=hch
 rel:=R
 none:=hn
 ext:=E
 Wh:=by rw [<-I.Wh];cases o.dst <;> simp [Act.put]
 tmps:=λd hd=> by
  obtain⟨t1,t2⟩:=I.tmps d hd;have hda:d < a.tmps.size:=by rw [I.Wh];exact hd
  have hj:=cO ho;by_cases hdst:o.dst=some d
  ·have hput:(a.put o.dst cv).tmps.getD d undef=cv:=by rw [hdst];simp [Act.put,Array.getD,hda]
   rw [hput];refine⟨λi oi hoi _ hdi=> ?_,λh=> absurd hdst (h j o ho (tq.2 (.inr ⟨rfl,by rw [I.size];exact hj⟩)))⟩;rw [D.facts.al2 i j oi o d hoi ho hdi hdst];exact hv
  ·have hput:(a.put o.dst cv).tmps.getD d undef=a.tmps.getD d undef:=by
    cases hd':o.dst with
    | none=> rfl
    | some d'=>
     have hne:d'≠d:=λe=> hdst (by rw [hd',e]);simp [Act.put,zbn hne]
   rw [hput];refine⟨λi oi hoi hli hdi=> ?_,λh=> RV.mono M _ _ (t2 λi oi hoi hli=> h i oi hoi (tq.2 (.inl hli)))⟩;rcases tq.1 hli with hli | ⟨rfl,_⟩
   ·exact RV.mono M _ _ (t1 i oi hoi hli hdi)
   ·rw [ho] at hoi;cases hoi;exact absurd hdi hdst
 defers:=by rw [<-I.defers];cases o.dst <;> rfl
end
end
theorem DR {ρ:Ren}{G:Nat->Nat}{w:World}{r0:Nat}(h:ρ r0=none)(co:Obj):acw ρ G w (updρ ρ r0 (w.heap.size,0)) G (w.alloc co) where
 mono:=λ_=> zac _
 same:=λx y hx _=> by
  unfold updρ
  rw [if_neg (λe=> by subst e;rw [h] at hx;cases hx)];exact hx
 imm:=λb hb hi=> by
  refine⟨by simp;omega,λx sh hx=> ?_,λo=> cell?_of_block (by simp only [World.alloc,za9,if_neg (zbL hb)])⟩;unfold updρ at hx;split at hx
  ·cases hx;omega
  ·exact hi x sh hx
 shape:=λb e m hb=> by
  have:=Kw hb;rw [dY] at hb ⊢
  simpa only [World.alloc,za9,if_neg (zbL this)] using hb
theorem Ur {ρ:Ren}{H:ah}{w:World}(R:Rel ρ H w){r0:Nat}(h:ρ r0=none)(hr:r0 < H.next){ty:TypeId}{z:List AV}{cs:Array Value}(ho:H.get r0=.blk 0 ty z)(hty:ty < fQ)(hz:RVs ρ H.gen w z cs.toList):
  Rel (updρ ρ r0 (w.heap.size,0)) H (w.alloc (.cells cs ty)) where
 out:=λx hx=> by
  unfold updρ
  rw [if_neg (by omega)];exact R.out x hx
 obj:=λx b s hx=> by
  have M:=DR (G:=H.gen) (w:=w) h (.cells cs ty);unfold updρ at hx;by_cases e:x=r0
  ·subst e;simp at hx;obtain⟨rfl,rfl⟩:=hx;rw [ho];refine⟨cs,ty,jA w _,?_,?_,Xct.low hty (by have:=bW hz;rw [bC] at this;omega)⟩
   ·have:=bW hz;simp at this;omega
   ·refine pG (jA w _) λi x hx=> ?_;obtain⟨v,hv,h1⟩:=jD hz hx;exact⟨v,by simpa using hv,RV.mono M _ _ h1⟩
  ·rw [if_neg e] at hx;have hb:=R.block hx;exact wH.mono M (by simp only [World.alloc,za9,if_neg (zbL hb)]) (R.obj x b s hx)
 inj:=λx y b' s s' hx hy=> by
  unfold updρ at hx hy;split at hx <;> split at hy
  ·simp_all
  ·cases hx;have:=R.block hy;omega
  ·cases hy;have:=R.block hx;omega
  ·exact R.inj _ _ _ _ _ hx hy
 gl:=R.gl.of (by simp) (λx b s hx=> by
  unfold updρ at hx;split at hx
  ·cases hx;exact .inl (zac _)
  ·exact .inr ⟨_,_,hx⟩) (λb hb _=> by simp only [World.alloc,za9,if_neg (zbL hb)])
theorem Us {ρ0 ρ:Ren}{H0 H:ah}{w0 w:World}(E:Ext ρ0 H0 w0 ρ H w){r0:Nat}(h0:H0.next<=r0)(hn:ρ r0=none)(co:Obj):Ext ρ0 H0 w0 (updρ ρ r0 (w.heap.size,0)) H (w.alloc co) where
 next:=E.next
 mono:=E.mono
 same:=λx y hx hg=> by
  have h1:=E.same x y hx hg;unfold updρ
  rw [if_neg (λe=> by subst e;rw [hn] at h1;cases h1)];exact h1
 kept:=λx hx h=> by
  unfold updρ
  rw [if_neg (by omega)];exact E.kept x hx h
 range:=λx b s hx=> by
  unfold updρ at hx;split at hx
  ·cases hx;exact .inl E.size
  ·exact E.range x b s hx
 size:=by simp;have:=E.size;omega
 frame:=λb hb hi=> by
  have:=E.size;rw [<-E.frame b hb hi];simp only [World.alloc,za9,if_neg (show¬b=w.heap.size by omega)]
 shape:=λb hb=> by
  have:=E.size;rw [<-E.shape b hb,dY,dY];simp only [World.alloc,za9,if_neg (show¬b=w.heap.size by omega)]
 os:=E.os
 tape:=E.tape
 output:=E.output
theorem KW {ρ:Ren}{H H0:ah}{w:World}(R:Rel ρ H w)(F:O5 H H0)(g:∀r,H.next<=r->H.gen r=0->H0.gen r=0):H0.gen=H.gen/\Rel ρ H0 w/\Ext ρ H w ρ H0 w:=by
 have hg:H0.gen=H.gen:=by
  funext r
  rcases zaW r H.next with h | h
  ·simp only [ah.gen,F.2.2 r h]
  ·rw [g r h (R.out r h).2,(R.out r h).2]
 have E:=Ext.refl ρ H w;refine⟨hg,⟨λr hr=> ⟨(R.out r (zas F.2.1 hr)).1,by rw [hg];exact(R.out r (zas F.2.1 hr)).2⟩,λr b sh h=> ?_,R.inj,R.gl⟩,
  ⟨F.2.1,λr=> by rw [hg];exact zac _,λr x h _=> h,E.kept,E.range,E.size,E.frame,E.shape,E.os,E.tape,E.output⟩⟩
 rw [hg,F.2.2 r (R.lt h)];exact R.obj r b sh h
section
variable {P:Program}{C:aA}{ops:List Oper}{t:fC}{H:ah}{t0:fC}{H0:ah}{T:Nat->fC}{Hp:Nat->ah}{val:Nat->AV}{nm:Nat->Nat}
variable {ρ0:Ren}{w0:World}{a0:Act}{listed:Array Bool}{a:Act}{w:World}{e:Nat}{ρ:Ren}
theorem O9 {j k:Nat}(h:¬Li (listed.setIfInBounds j true) k):¬Li listed k:=λhl=> h (tq.2 (.inl hl))
theorem DT {j i:Nat}(hne:i≠j):Li (listed.setIfInBounds j true) i↔Li listed i:=by
 rw [tq];exact⟨λh=> h.resolve_right λh=> hne h.1,.inl⟩
theorem aaA(hC:oZ P C)(D:aaw P C ops t H t0 H0 T Hp val nm)(I:Inv ops t Hp val nm H ρ0 w0 a0 listed a w e ρ){j:Nat}(hr:j∈Region.ready .any ops.toArray listed){K:Act->World->Prop}{Q:Exit->Act->World->Prop}
  (hK:∀a' w' e' ρ',Inv ops t Hp val nm H ρ0 w0 a0 (listed.setIfInBounds j true) a' w' e' ρ'->K a' w'):wpOp P ops.toArray Q j K a w:=by
 obtain⟨o,ho,hnl,hpre,hpost,hd2⟩:=wX I.size I.down hr;have hj:=cO ho;rcases ahr (ops:=ops) j with hc | ⟨hc,hf⟩ | hc
 ·-- new memory
  obtain⟨o',ho',n1,n2,⟨ty,z,mk,hval,hob,hrun⟩,_⟩:=D.names j hj hc;rw [ho] at ho';cases ho';obtain⟨hg,_⟩:=D.facts.const j o ho hc;obtain⟨cs,cv,h1,⟨h2,hty⟩,h3⟩:=hrun ρ (Hp e).gen w a;have hun:=I.none j hj hc hnl;have qN:(Hp e).get (nm j)=.blk 0 ty z:=by
   rw [<-hob];refine D.aaz hj hc e I.le λi hi hch=> ?_;have hli:=(I.chain i (by have:=I.le;omega) hch).2 hi;cases hb:lq ops j i with
   | false=> rfl
   | true=> exact absurd hli (hpost i hb)
  have hgen:(Hp e).gen (nm j)=0:=by simp [ah.gen,qN,fD.gen]
  unfold wpOp;have hoa:ops.toArray[j]?=some o:=by simpa using ho
  simp only [hoa,Region.wanted,hg,if_true];left;unfold Oper.wp;rw [h1];simp only [Oper.upon];refine hK _ _ e (updρ ρ (nm j) (w.heap.size,0)) (Inv.on D I ho hnl hd2 I.le (λi hi hch=> ?_)
   (Ur I.rel hun (zau n2 (D.aax I.le)) qN hty h2) (λk hk hck hkl=> ?_) (Us I.ext n1 hun _) (DR hun _) ?_)
  ·rw [DT (λe=> by subst e;rw [(DL hch).1] at hc;cases hc)];exact I.chain i hi hch
  ·have hkl':=O9 hkl;have hne:nm k≠nm j:=λe=> by
    have:=D.inj k j hk hj hck hc e;subst this;exact hkl (tq.2 (.inr ⟨rfl,by rw [I.size];exact hk⟩))
   unfold updρ
   rw [if_neg hne];exact I.none k hk hck hkl'
  ·rw [hval];exact h3 _ _ (nm j) hgen (by simp [updρ])
 ·-- it changes nothing
  have T0:=aoL D I ho hc hnl hpre hpost;obtain⟨s1,_⟩:=D.S.step j o ho hc;obtain⟨f1,f2⟩:=uy ho hf;have hsame:Ir o.op=true->∀r,kE (T j) o.op=some r->(Hp e).get r=(Hp j).get r:=by
   intro hlk r hw;have hre:r < (Hp e).next:=QW (λx hx=> RV.nv I.rel.out _ _ (T0.eval x hx)) hw
   have hrj:r < (Hp j).next:=QW (λx _=> aav (D.ghost j (by omega)) x) hw
   have hw':kE (T j) (oI ops j)=some r:=by rw [rX ho];exact hw
   have hle:=I.le;have hun:∀i,i < ops.length->chn ops i=true->lq ops i j=false->lq ops j i=false->Ug ops j i=true:=by
    intro i _ hch hb1 hb2;unfold Ug;rw [hch,hf,rX ho,hlk,hb2,hb1];rfl
   rcases Nat.le_total e j with hej | hje
   ·have:=D.FW hj hw' hre (j - e) (by omega) λi h1 h2 hch=> by
     have hil:¬Li listed i:=λhl=> by have:=(I.chain i (by omega) hch).1 hl;omega
     have hne:i≠j:=by omega
     refine hun i (by omega) hch ?_ ?_
     ·cases hb:lq ops i j with
      | false=> rfl
      | true=> exact absurd (hpre i hne hb) hil
     ·cases hb:lq ops j i with
      | false=> rfl
      | true=> have:=D.acA (DL hch).1 hb hc;omega
    rw [show e+(j - e)=j by omega] at this;exact this.symm
   ·have:=D.FW hj hw' hrj (e - j) (by omega) λi h1 h2 hch=> by
     have hil:Li listed i:=(I.chain i (by omega) hch).2 (by omega);have hne:i≠j:=λe=> by subst e;rw [(DL hch).2] at hf;cases hf
     refine hun i (by omega) hch ?_ ?_
     ·cases hb:lq ops i j with
      | false=> rfl
      | true=> have:=D.acA hc hb (DL hch).1;omega
     ·cases hb:lq ops j i with
      | false=> rfl
      | true=> exact absurd hil (hpost i hb)
    rw [show j+(e - j)=e by omega] at this;exact this
  have hs:kY P C ops (loose ops j && kU o.op) o (T j) (Hp e)=some (val j,Hp e):=by
   have apb:=D.QX hj hc hf;rw [apb] at s1;unfold kY at s1 ⊢;split at s1 <;> first | (cases s1;done) | skip
   ·rw [f2,zbQ,if_neg zdv] at s1;simp only [f2,zbQ,if_neg zdv];exact(IK f1 s1).2 (Hp e) hsame
   ·simp only [zaa,zae] at s1 ⊢;exact⟨s1.1,trivial⟩
  refine IQ hC hs I.rel T0 ho λcv ρ' w' r1 r2 r3=> hK _ _ e ρ' (Inv.on D I ho hnl hd2 I.le (λi hi hch=> ?_) r1 (λk hk hck hkl=> ?_) (I.ext.trans r3) r3.toMono r2)
  ·rw [DT (λe=> by subst e;rw [(DL hch).2] at hf;cases hf)];exact I.chain i hi hch
  ·obtain⟨_,_,_,n2,_⟩:=D.names k hk hck;exact r3.kept _ (zau n2 (D.aax I.le)) (I.none k hk hck (O9 hkl))
 ·-- the chain
  have hcc:=(DL hc).1;have T0:=aoL D I ho hcc hnl hpre hpost;obtain⟨s1,_⟩:=D.S.step j o ho hcc;have hej:e<=j:=by
   rcases zaW j e with h | h
   ·exact absurd ((I.chain j hj hc).2 h) hnl
   ·exact h
  have hH:Hp j=Hp e:=D.AO hej (by omega) λi h1 h2=> by
   cases hch:chn ops i with
   | false=> rfl
   | true=>
    have:=hpre i (by omega) (D.facts.chain i j h2 hj hch hc);have:=(I.chain i (by omega) hch).1 this;omega
  rw [hH] at s1;refine IQ hC s1 I.rel T0 ho λcv ρ' w' r1 r2 r3=> hK _ _ (j+1) ρ' (Inv.on D I ho hnl hd2 hj (λi hi hch=> ?_) r1 (λk hk hck hkl=> ?_) (I.ext.trans r3) r3.toMono r2)
  ·by_cases e1:i=j
   ·subst e1;exact⟨λ_=> by omega,λ_=> tq.2 (.inr ⟨rfl,by rw [I.size];exact hi⟩)⟩
   ·rw [DT e1];refine⟨λhl=> by have:=(I.chain i hi hch).1 hl;omega,λhlt=> hpre i e1 (D.facts.chain i j (by omega) hj hch hc)⟩
  ·obtain⟨_,_,_,n2,_⟩:=D.names k hk hck;exact r3.kept _ (zau n2 (D.aax I.le)) (I.none k hk hck (O9 hkl))
def unl:List Bool->Nat
 | []=> 0
 | true::l=> unl l
 | false::l=> unl l+1
theorem Wi:∀(l:List Bool) (i:Nat),l[i]?=some false->unl (l.set i true)+1=unl l
 | [],i,h=> by simp at h
 | b::l,0,h=> by simp at h;subst h;simp [unl]
 | b::l,i+1,h=> by
  simp at h;have:=Wi l i (by simpa using h);cases b <;> simp [unl] <;> omega
theorem QY:∀(l:List Bool),unl l=0->∀(i:Nat),i < l.length->l[i]?=some true
 | [],_,i,hi=> by simp at hi
 | b::l,h,0,_=> by cases b <;> simp_all [unl]
 | b::l,h,i+1,hi=> by
  have h':unl l=0:=by cases b <;> simp_all [unl]
  simpa using QY l h' i (by simpa using hi)
theorem aht {j:Nat}(hj:j < listed.size):Li listed j↔listed.toList[j]?=some true:=by
 unfold Li;simp [Array.getD,hj]
theorem Ut {j:Nat}(hj:j < listed.size):¬Li listed j↔listed.toList[j]?=some false:=by
 unfold Li;simp [Array.getD,hj]
theorem aeV {p:Nat->Prop}:∀n,p n->∃m,p m/\∀i,i < m->¬p i:=by
 intro n
 induction n using Nat.strongRecOn with
 | ind n ih=>
  intro hn;by_cases h:∃i,i < n/\p i
  ·obtain⟨i,hi,hp⟩:=h;exact ih i hi hp
  ·exact⟨n,hn,λi hi hp=> h ⟨i,hi,hp⟩⟩
theorem KX(F:DJ ops)(hs:listed.size=ops.length){k:Nat}(hk:k < ops.length)(hnl:¬Li listed k):Region.ready .any ops.toArray listed≠[]:=by
 have key:∀m,m < ops.length->¬Li listed m->(∀o,ops[m]?=some o->∀e∈o.after,Region.binds .any e=true->Li listed e.on)->Region.ready .any ops.toArray listed≠[]:=by
  intro m hm hn he hnil;have:m∈Region.ready .any ops.toArray listed:=by
   refine mem_ready.2 ⟨?_,ops[m]'hm,by simp [hm],λe h1 h2=> he _ (zab hm) e h1 h2⟩;unfold Li at hn;rw [zcd] at hn ⊢;rw [zcl (by omega)] at hn ⊢
   simpa using hn
  rw [hnil] at this;cases this
 by_cases hex:∃m,m < ops.length/\cst ops m=true/\¬Li listed m
 ·obtain⟨m,hm⟩:=hex;obtain⟨m,⟨h1,h2,h3⟩,hmin⟩:=aeV (p:=λm=> m < ops.length/\cst ops m=true/\¬Li listed m) m hm;refine key m h1 h3 λo ho e he hb=> ?_;obtain⟨q1,q2⟩:=F.edges m o ho e he hb;unfold Dq at q2;rw [h2] at q2;cases hce:cst ops e.on with
  | false=> rw [hce] at q2;simp at q2
  | true=>
   rw [hce] at q2;simp at q2;by_cases hl:Li listed e.on
   ·exact hl
   ·exact absurd ⟨q1,hce,hl⟩ (hmin e.on q2)
 ·obtain⟨m,⟨h1,h3⟩,hmin⟩:=aeV (p:=λm=> m < ops.length/\¬Li listed m) k ⟨hk,hnl⟩;refine key m h1 h3 λo ho e he hb=> ?_;obtain⟨q1,q2⟩:=F.edges m o ho e he hb;by_cases hl:Li listed e.on
  ·exact hl
  ·exfalso;have c1:cst ops m=false:=by cases hc:cst ops m with
    | false=> rfl
    | true=> exact absurd ⟨m,h1,hc,h3⟩ hex
   have c2:cst ops e.on=false:=by cases hc:cst ops e.on with
    | false=> rfl
    | true=> exact absurd ⟨_,q1,hc,hl⟩ hex
   unfold Dq at q2;rw [c1,c2] at q2;simp at q2;exact hmin e.on q2 ⟨q1,hl⟩
theorem aeW(D:aaw P C ops t H t0 H0 T Hp val nm)(I:Inv ops t Hp val nm H ρ0 w0 a0 listed a w e ρ)(hall:∀i,i < ops.length->Li listed i):
  Rel ρ (Hp ops.length) w/\TOn ρ (Hp ops.length).gen w (λ_=> True) (T ops.length) a/\Ext ρ0 H w0 ρ (Hp ops.length) w:=by
 have hH:Hp ops.length=Hp e:=D.AO I.le (zac _) λi h1 h2=> by
  cases hch:chn ops i with
  | false=> rfl
  | true=> have:=(I.chain i h2 hch).1 (hall i h2);omega
 rw [hH];refine⟨I.rel,⟨by rw [I.Wh,D.al3 _ (zac _)],λd _ hd=> ?_⟩,I.ext⟩;rw [D.al3 _ (zac _)] at hd;obtain⟨t1,t2⟩:=I.tmps d hd;obtain⟨s1,s2⟩:=D.ahs _ (zac _) d hd;by_cases hex:∃(i:Nat) (oi:Oper),ops[i]?=some oi/\oi.dst=some d
 ·obtain⟨i,oi,h1,h2⟩:=hex;have h3:=s1 i oi h1 h2 (.inr (cO h1));have:(T ops.length).getD d aO=val i:=by simp [List.getD,h3]
  rw [this];exact t1 i oi h1 (hall i (cO h1)) h2
 ·have h3:=s2 λi oi h1 _ h2=> hex ⟨i,oi,h1,h2⟩;have:(T ops.length).getD d aO=t.getD d aO:=by simp only [List.getD,h3]
  rw [this];exact t2 λi oi h1 _ h2=> hex ⟨i,oi,h1,h2⟩
theorem acB(hC:oZ P C)(D:aaw P C ops t H t0 H0 T Hp val nm){Q:Exit->Act->World->Prop}
  (hQ:∀a' ρ' w',Rel ρ' (Hp ops.length) w'->TOn ρ' (Hp ops.length).gen w' (λ_=> True) (T ops.length) a'->Ext ρ0 H w0 ρ' (Hp ops.length) w'->a'.defers=a0.defers->Q .normal a' w'):
  ∀(fuel:Nat) (listed:Array Bool) (a:Act) (w:World) (e:Nat) (ρ:Ren),unl listed.toList<=fuel->Inv ops t Hp val nm H ρ0 w0 a0 listed a w e ρ->wpAny P .any ops.toArray Q fuel listed a w:=by
 have fin:∀(listed:Array Bool) (a:Act) (w:World) (e:Nat) (ρ:Ren),Inv ops t Hp val nm H ρ0 w0 a0 listed a w e ρ->Region.ready .any ops.toArray listed=[]->Q .normal a w:=by
  intro listed a w e ρ I hnil;have hall:∀i,i < ops.length->Li listed i:=λi hi=> by
   by_cases hl:Li listed i
   ·exact hl
   ·exact absurd hnil (KX D.facts I.size hi hl)
  obtain⟨h1,h2,h3⟩:=aeW D I hall;exact hQ a ρ w h1 h2 h3 I.defers
 intro fuel
 induction fuel with
 | zero=>
  intro listed a w e ρ hu I;have hnil:Region.ready .any ops.toArray listed=[]:=by
   cases hr:Region.ready .any ops.toArray listed with
   | nil=> rfl
   | cons j js=>
    obtain⟨o,ho,hnl,_⟩:=wX I.size I.down (j:=j) (by rw [hr];simp);have hj:j < listed.size:=by rw [I.size];exact cO ho
    exact absurd ((aht hj).2 (QY _ (by omega) j (by simpa using hj))) hnl
  exact⟨hnil,fin listed a w e ρ I hnil⟩
 | succ fuel ih=>
  intro listed a w e ρ hu I;refine⟨fin listed a w e ρ I,λj hj=> aaA hC D I hj λa' w' e' ρ' I'=> ih _ a' w' e' ρ' ?_ I'⟩;obtain⟨o,ho,hnl,_⟩:=wX I.size I.down hj;have hjs:j < listed.size:=by rw [I.size];exact cO ho
  have:=Wi _ j ((Ut hjs).1 hnl);rw [Array.toList_setIfInBounds];omega
theorem x8(n:Nat):unl (List.replicate n false)=n:=by
 induction n with
 | zero=> rfl
 | succ n ih=> simp [List.replicate_succ,unl,ih]
theorem aeX(hC:oZ P C)(hKC:jO C)(hm:P.follows .mixedOrders=true){id:Nat}{t':fC}{H':ah}(h:wU P C ops t H=some (t',H'))(R:Rel ρ H w)(TR:TOn ρ H.gen w (λ_=> True) t a){Q:Exit->Act->World->Prop}
  (hQ:∀a' ρ' w',Rel ρ' H' w'->TOn ρ' H'.gen w' (λ_=> True) t' a'->Ext ρ H w ρ' H' w'->a'.defers=a.defers->Q .normal a' w'):(Code.region id ops.toArray true).wp P Q a w:=by
 unfold wU at h;split at h <;> first | (cases h;done) | skip
 rename_i hok;split at h <;> first | (cases h;done) | skip
 rename_i t0 H0 hcr;obtain⟨hrun,amu⟩:eX P C ops (lu ops) t0 H0=some (t',H')/\∀p∈kK ops,agree P C ops H.next t0 H0 p:=by
  split at h
  ·rename_i he;rw [he];exact⟨h,by simp⟩
  ·split at h <;> first | (cases h;done) | skip
   rename_i ha;exact⟨h,ha⟩
 have F:=AL hok;have hmem:∀j,j∈mP ops↔j < ops.length/\cst ops j=true:=λj=> by simp [mP,zbt,zaY]
 obtain⟨hf,hg,hlen,nm,vl,h1,h2,h3⟩:=rY (mP ops) t H t0 H0 (List.nodup_range.filter _) (λj hj=> ((hmem j).1 hj).2)
  (λi _ j _ oi oj d a1 a2 a3 a4=> F.al2 i j oi oj d a1 a2 a3 a4) hcr
 obtain⟨T,Hp,val,S,hend,hval⟩:=FU hrun vl;obtain⟨hgen,RH0,EH0⟩:=KW R hf hg;obtain⟨ρ1,w1,a1,g1,g2⟩:=wW hC _ _ _ _ _ ρ w a hcr R TR;have D:aaw P C ops t H t0 H0 T Hp val nm:={
  facts:=F
  S:=S
  names:=λj hj hc=> by
   obtain⟨o,q1,q2,q3,q4,q5⟩:=h1 j ((hmem j).2 ⟨hj,hc⟩);exact⟨o,q1,q2,q3,by rw [hval j hc];exact q4,λd hd hl=> by rw [hval j hc];exact q5 d hd hl⟩
  inj:=λi j hi hj ci cj e=> h2 i ((hmem i).2 ⟨hi,ci⟩) j ((hmem j).2 ⟨hj,cj⟩) e
  rest:=λd hd=> h3 d λj hj o ho=> hd j ((hmem j).1 hj).2 o ho
  len:=hlen
  fresh:=hf
  aoK:=hg
  agr:=amu
  ghost:=λp hp d=> by
   obtain⟨ρ2,w2,a2,r1,r2⟩:=FV hC S g1 g2 p hp;exact RV.nv r1.out _ _ (r2.any d trivial)
  keeps:=hKC }
 have e1:T ops.length=t':=by rw [<-Prod.mk.inj hend |>.1]
 have e2:Hp ops.length=H':=by rw [<-Prod.mk.inj hend |>.2]
 refine wp_region_any hm ?_;have hli:∀j,¬Li (Array.replicate ops.toArray.size false) j:=λj=> by
  unfold Li;simp [Array.getD]
 refine acB hC D (a0:=a) (λa' ρ' w' q1 q2 q3 q4=> hQ a' ρ' w' (by rw [<-e2];exact q1) (by rw [<-e1,<-e2];exact q2) (by rw [<-e2];exact q3) q4) ops.toArray.size _ a w.drew 0 ρ (by simp [x8]) ?_;refine⟨by simp,λj o _ hl=> absurd hl (hli j),zaV _,λi _ _=> ⟨λhl=> absurd hl (hli i),λh=> by omega⟩,by rw [S.zero.2];exact RH0.drew,λk hk hc _=> ?_,?_,TR.size,λd hd=> ⟨λj o _ hl=> absurd hl (hli j),λ_=> ?_⟩,rfl⟩
 ·obtain⟨_,_,q1,_⟩:=D.names k hk hc;exact(R.out _ q1).1
 ·rw [S.zero.2];exact EH0.trans (Ext.drew ρ H0 w)
 ·rw [S.zero.2,hgen];exact RV.mono (Ext.drew ρ H w).toMono _ _ (TR.get d trivial hd)
end
section
variable {ρ ρ1:Ren}{G:Nat->Nat}{H1:ah}{w1:World}{n:Nat}
theorem x9 {f:AV->Option AV}(hf:∀x x' cv,f x=some x'->RV ρ1 H1.gen w1 x cv->RV ρ G w1 x' cv):∀(xs xs':List AV) (l:List Value),xs.mapM f=some xs'->RVs ρ1 H1.gen w1 xs l->RVs ρ G w1 xs' l
 | [],xs',l,h,hl=> by
  simp at h;subst h
  simpa only [RVs] using hl
 | x::xs,xs',l,h,hl=> by
  rw [zbv] at h;cases h1:f x with
  | none=> rw [h1] at h;cases h
  | some y=>
   rw [h1] at h;cases h2:xs.mapM f with
   | none=> rw [h2] at h;cases h
   | some ys=>
    rw [h2] at h;simp only [zbK,za0,zci,zaa] at h;subst h;simp only [RVs] at hl ⊢;obtain⟨v,vs,rfl,a,b⟩:=hl;exact⟨v,vs,rfl,hf _ _ _ h1 a,x9 hf xs ys vs h2 b⟩
theorem BP {f:AV->Option AV}(hf:∀x x' cv,f x=some x'->RV ρ1 H1.gen w1 x cv->RV ρ G w1 x' cv):∀(xs xs':List AV) (b o:Nat),xs.mapM f=some xs'->RVc ρ1 H1.gen w1 xs b o->RVc ρ G w1 xs' b o
 | [],xs',b,o,h,hl=> by
  simp at h;subst h;simp only [RVc]
 | x::xs,xs',b,o,h,hl=> by
  rw [zbv] at h;cases h1:f x with
  | none=> rw [h1] at h;cases h
  | some y=>
   rw [h1] at h;cases h2:xs.mapM f with
   | none=> rw [h2] at h;cases h
   | some ys=>
    rw [h2] at h;simp only [zbK,za0,zci,zaa] at h;subst h;simp only [RVc] at hl ⊢;obtain⟨⟨v,e,a⟩,c⟩:=hl;exact⟨⟨v,e,hf _ _ _ h1 a⟩,BP hf xs ys b (o+1) h2 c⟩
theorem wY {f:AV->Option AV}:∀(xs xs':List AV),xs.mapM f=some xs'->xs'.length=xs.length
 | [],xs',h=> by simp at h;subst h;rfl
 | x::xs,xs',h=> by
  rw [zbv] at h;cases h1:f x with
  | none=> rw [h1] at h;cases h
  | some y=>
   rw [h1] at h;cases h2:xs.mapM f with
   | none=> rw [h2] at h;cases h
   | some ys=>
    rw [h2] at h;simp only [zbK,za0,zci,zaa] at h;subst h;simp [wY xs ys h2]
theorem Wj(R1:Rel ρ1 H1 w1)(hlt:∀r,r < n->ρ r=ρ1 r/\G r=H1.gen r)(hge:∀r,n<=r->ρ r=none):
  ∀(d:Nat) (x x':AV) (cv:Value),bF H1 n d x=some x'->RV ρ1 H1.gen w1 x cv->RV ρ G w1 x' cv:=by
 have aoM:∀b,Imm ρ1 b->Imm ρ b:=by
  intro b hi r sh hr;rcases zaW r n with h | h
  ·rw [(hlt r h).1] at hr;exact hi r sh hr
  ·rw [hge r h] at hr;cases hr
 intro d
 induction d with
 | zero=> intro x x' cv h;cases h
 | succ d ih=>
  intro x x' cv h hv;cases x with
  | s v=> simp only [bF,zaa] at h;subst h;simpa only [RV] using hv
  | ref r g off=>
   simp only [bF] at h;split at h <;> first | (cases h;done) | skip
   rename_i hr;simp only [zaa] at h;subst h;obtain⟨e1,e2⟩:=hlt r hr;simp only [RV] at hv ⊢;rw [e1,e2];exact hv
  | mp r=>
   simp only [bF] at h;split at h <;> first | (cases h;done) | skip
   rename_i hr;simp only [zaa] at h;subst h;obtain⟨e1,e2⟩:=hlt r hr;simp only [RV] at hv ⊢;rw [e1,e2];exact hv
  | sl r g off esz len cap ex=>
   simp only [bF] at h;split at h
   ·rename_i hr;simp only [zaa] at h;subst h;obtain⟨e1,e2⟩:=hlt r hr;simp only [RV] at hv ⊢;rw [e1,e2];exact hv
   ·rename_i hr;split at h <;> first | (cases h;done) | skip
    rename_i cells hcl;cases hm:cells.mapM (bF H1 n d) with
    | none=> rw [hm] at h;cases h
    | some l=>
     rw [hm] at h;simp only [zai,zaa] at h;subst h;simp only [bM] at hcl;split at hcl <;> first | (cases hcl;done) | skip
     rename_i g' ty all ho;split at hcl <;> first | (cases hcl;done) | skip
     rename_i hc;obtain⟨rfl,hle⟩:=hc;simp only [zaa] at hcl;simp only [RV] at hv ⊢;obtain⟨b,o,c,rfl,q1,q2,q3,q4,q5⟩:=hv;obtain⟨sh,e,k,hr1,hoo,hsh,hcap⟩:=q5 (by simp [ah.gen,ho,fD.gen]);have qN:=R1.obj r b sh hr1;simp only [wH,ho] at qN;obtain⟨cs,e',hb,hz,hcc,_⟩:=qN;have hll:cells.length=len*esz:=by rw [<-hcl];simp;omega
     refine⟨b,o,c,rfl,by omega,by rw [wY _ _ hm,hll],lV hb,λr' sh' hr'=> ?_,?_⟩
     ·rcases zaW r' n with h' | h'
      ·rw [(hlt r' h').1] at hr';have:=R1.inj r' r b sh' sh hr' hr1;omega
      ·rw [hge r' h'] at hr';cases hr'
     ·refine BP ih cells l b o hm ?_;by_cases h0:c=0
      ·have:len=0:=by omega
       subst this;rw [<-hcl];simp [RVc]
      ·rw [hoo (by omega),<-hcl];exact rM _ (pF off hcc)
  | ip cells=>
   simp only [bF] at h;cases hm:cells.mapM (bF H1 n d) with
   | none=> rw [hm] at h;cases h
   | some l=>
    rw [hm] at h;simp only [zai,zaa] at h;subst h;simp only [RV] at hv ⊢;obtain⟨b,o,e,h1,h2,h3⟩:=hv;exact⟨b,o,e,h1,aoM b h2,BP ih cells l b o hm h3⟩
  | vs k esz cells=>
   simp only [bF] at h;cases hm:cells.mapM (bF H1 n d) with
   | none=> rw [hm] at h;cases h
   | some l=>
    rw [hm] at h;simp only [zai,zaa] at h;subst h;simp only [RV] at hv ⊢;obtain⟨b,o,c,e,h0,h00,h1,h2,h3⟩:=hv;exact⟨b,o,c,e,h0,by rw [wY _ _ hm];exact h00,h1,aoM b h2,BP ih cells l b o hm h3⟩
  | fn f a c=>
   simp only [bF] at h;split at h <;> first | (cases h;done) | skip
   rename_i a' c' ha hc;simp only [zaa] at h;subst h;simp only [RV] at hv ⊢;obtain⟨a0,c0,e,h1,h2⟩:=hv;exact⟨a0,c0,e,x9 ih _ _ _ ha h1,x9 ih _ _ _ hc h2⟩
  | agg cells=>
   simp only [bF] at h;cases hm:cells.mapM (bF H1 n d) with
   | none=> rw [hm] at h;cases h
   | some l=>
    rw [hm] at h;simp only [zai,zaa] at h;subst h;simp only [RV] at hv ⊢;obtain⟨cs,e,h1⟩:=hv;exact⟨cs,e,x9 ih _ _ _ hm h1⟩
  | tup cells=>
   simp only [bF] at h;cases hm:cells.mapM (bF H1 n d) with
   | none=> rw [hm] at h;cases h
   | some l=>
    rw [hm] at h;simp only [zai,zaa] at h;subst h;simp only [RV] at hv ⊢;obtain⟨cs,e,h1⟩:=hv;exact⟨cs,e,x9 ih _ _ _ hm h1⟩
end
theorem Wn {ρ ρ1:Ren}{H H1:ah}{w w1:World}(R:Rel ρ H w)(K:Keeps H.guard H1)(R1:Rel ρ1 H1 w1)(E:Ext ρ H w ρ1 H1 w1){d:Nat}{x x':AV}{cv:Value}
  (hf:bF H1 H.next d x=some x') (hv:RV ρ1 H1.gen w1 x cv):Rel ρ H w1/\RV ρ H.gen w1 x' cv/\Ext ρ H w ρ H w1:=by
 have hget:∀r,r < H.next->H1.get r=H.get r:=λr hr=> K.get r hr hr
 have hgen:∀r,r < H.next->H1.gen r=H.gen r:=λr hr=> by simp only [ah.gen,hget r hr]
 have hlt:∀r,r < H.next->ρ r=ρ1 r/\H.gen r=H1.gen r:=by
  intro r hr;refine⟨?_,(hgen r hr).symm⟩;cases h:ρ r with
  | none=> exact(E.kept r hr h).symm
  | some x=> exact(E.same r x h (hgen r hr)).symm
 have hge:∀r,H.next<=r->ρ r=none:=λr hr=> (R.out r hr).1
 have hfr:=Wj (G:=H.gen) R1 hlt hge d x x' cv hf hv;have hE:Ext ρ H w ρ H w1:=⟨zac _,λ_=> zac _,λ_ _ h _=> h,λ_ _ h=> h,λ_ _ sh h=> .inr ⟨sh,h⟩,E.size,E.frame,E.shape,E.os,E.tape,E.output⟩
 refine⟨⟨R.out,λr b sh h=> ?_,R.inj,R.gl.ext hE⟩,hfr,hE⟩;have hr:=R.lt h;have h1:=R1.obj r b sh (by rw [<-(hlt r hr).1];exact h);rw [hget r hr] at h1;have h0:=R.obj r b sh h
 -- the object as it was,in the new world
 have hB:Back H.next ρ1 H1.gen ρ H.gen:=⟨λr hr=> (hgen r hr).symm,λr hr=> .inr (hlt r hr).1,λr x hx=> by
  have:=R.lt (b:=x.1) (sh:=x.2) hx;rw [<-(hlt r this).1];exact hx⟩
 unfold wH at h1 h0 ⊢;cases ho:H.get r with
 | blk g ty cells=>
  rw [ho] at h1 h0;obtain⟨cs,e,q1,q2,q3⟩:=h1;obtain⟨_,_,_,_,z3,_⟩:=h0;exact⟨cs,e,q1,q2,RVc.back hB R.out cells b sh b sh z3 q3.1,q3.2⟩
 | map k es=>
  rw [ho] at h1 h0;obtain⟨ces,dD,q1,q2,q3⟩:=h1;obtain⟨_,_,_,_,z3,_⟩:=h0;exact⟨ces,dD,q1,q2,RVm.back hB R.out es _ _ z3 q3.1,q3.2⟩
inductive Ex where
 | normal
 | exit (id:Nat)
 | ret
def Ex.to:Ex->Exit
 | .normal=> .normal
 | .exit id=> .exit id
 | .ret=> .ret
abbrev Res:=Option (Ex × fC × ah)
abbrev Run:=fC->ah->Res
def qx(r:Res)(k:Run):Res:=
 match r with
 | some (.normal,t,H)=> k t H
 | some (.exit i,t,H)=> some (.exit i,t,H)
 | some (.ret,t,H)=> some (.ret,t,H)
 | none=> none
def AP(id:Nat)(r:Res):Res:=
 match r with
 | some (.exit i,t,H)=> if i=id then some (.normal,t,H) else some (.exit i,t,H)
 | some (.normal,t,H)=> some (.normal,t,H)
 | some (.ret,t,H)=> some (.ret,t,H)
 | none=> none
def zG(f:Run):Nat->Run
 | 0,_,_=> none
 | n+1,t,H=> qx (f t H) (zG f n)
open Classical in
def aeY {α:Type}(g:Nat->Option α):Option α:=if h:∃n,(g n).isSome=true then g (Classical.choose h) else none
def Uu(f:Run):Run:=λt H=> aeY λn=> zG f n t H
def dZ(P:Program)(C:aA):Code->Run
 | .skip=> λt H=> some (.normal,t,H)
 | .region _ ops draw=> λt H=> match(if draw then wU P C ops.toList t H else Kv P C ops.toList ops.toList t H) with
  | some (t',H')=> some (.normal,t',H')
  | none=> none
 | .seq a b=> λt H=> qx (dZ P C a t H) (dZ P C b)
 | .cond c a b=> λt H=> match cZ t c with
  | .s (.bool true)=> dZ P C a t H
  | .s (.bool false)=> dZ P C b t H
  | _=> none
 | .block id c=> λt H=> AP id (dZ P C c t H)
 | .loop c=> Uu (dZ P C c)
 | .exit id=> λt H=> some (.exit id,t,H)
 | .ret=> λt H=> some (.ret,t,H)
 | _=> λ_ _=> none
def QZ(P:Program)(t:fC)(H:ah):ResultVar->Option AV
 | .tmp d=> some (t.getD d aO)
 | .cell a ty=> (OL P ty (t.getD a aO) H).map (·.1)
def iR(P:Program)(rs:List ResultVar)(t:fC)(H:ah):Option AV:=
 match rs.mapM (QZ P t H) with
 | some [x]=> some x
 | some xs=> some (.tup xs)
 | none=> none
def xP(P:Program)(C:aA)(f:FuncId)(args:List AV):AM AV:=λH=>
 match P.funcs[f]? with
 | some fn=> match fn.body with
  | some c=> match dZ P C c (args++List.replicate (fn.ntmps - args.length) aO) H with
   | some (.exit _,_,_)=> none
   | some (_,t,H')=> (iR P fn.results.toList t H').map λv=> (v,H')
   | none=> none
  | none=> none
 | none=> none
structure Pol where
 pure:FuncId->Bool
 aac:FuncId->Option (List AV->AM AV)
def zH(P:Program)(L:Pol)(C:aA):aA:=λf args H=>
 match L.aac f with
 | some p=> p args H
 | none=>
  if L.pure f then
   match xP P C f args H.guard with
   | some (v,H1)=> (bF H1 H.next 9 v).map λv'=> (v',H)
   | none=> none
  else xP P C f args H
theorem kG {α:Type}{g:Nat->Option α}{r:α}(h:aeY g=some r):∃n,g n=some r:=by
 unfold aeY at h;split at h
 ·exact⟨_,h⟩
 ·cases h
theorem aaB {α:Type}{g:Nat->Option α}(hg:∀n r,g n=some r->g (n+1)=some r){n:Nat}{r:α}(h:g n=some r):∀k,g (n+k)=some r:=by
 intro k
 induction k with
 | zero=> exact h
 | succ k ih=> exact hg _ _ ih
theorem IU {α:Type}{g:Nat->Option α}(hg:∀n r,g n=some r->g (n+1)=some r){n m:Nat}{r:α}(h:g n=some r)(hm:n<=m):g m=some r:=by
 have:=aaB hg h (m - n)
 rwa [show n+(m - n)=m by omega] at this
theorem uz {α:Type}{g:Nat->Option α}(hg:∀n r,g n=some r->g (n+1)=some r){n:Nat}{r:α}(h:g n=some r):aeY g=some r:=by
 unfold aeY;have hex:∃n,(g n).isSome=true:=⟨n,by rw [h];rfl⟩
 rw [dif_pos hex];have hc:=Classical.choose_spec hex;cases hx:g (Classical.choose hex) with
 | none=> rw [hx] at hc;cases hc
 | some r'=>
  rcases Nat.le_total n (Classical.choose hex) with hl | hl
  ·rw [IU hg h hl] at hx;exact hx.symm
  ·rw [IU hg hx hl] at h;exact h
theorem FX {f:Run}:∀n t H r,zG f n t H=some r->zG f (n+1) t H=some r:=by
 intro n
 induction n with
 | zero=> intro t H r h;cases h
 | succ n ih=>
  intro t H r h;show qx (f t H) (zG f (n+1))=some r
  change qx (f t H) (zG f n)=some r at h
  unfold qx at h ⊢;split at h
  ·exact ih _ _ _ h
  ·exact h
  ·exact h
  ·cases h
section
variable {P:Program}{C:aA}{ρ:Ren}{H H':ah}{w:World}{t t':fC}{a:Act}
theorem yc {ops rest:List Oper}{o:Oper}:Kv P C ops (o::rest) t H=match kY P C ops false o t H with
  | some (v,H')=> Kv P C ops rest (tY t o.dst v) H'
  | none=> none:=by
 simp only [Kv,kY];cases rH ops t o with
 | none=> rfl
 | some b=>
  cases b
  ·rfl
  ·cases opA P C t o H <;> rfl
theorem ahu(hC:oZ P C){ops:List Oper}{Q:Exit->Act->World->Prop}:∀(m k:Nat) (t:fC) (H:ah) (a:Act) (w:World) (ρ:Ren),m+k=ops.length->Kv P C ops (ops.drop k) t H=some (t',H')->Rel ρ H w->TOn ρ H.gen w (λ_=> True) t a->
  (∀a' ρ' w',Rel ρ' H' w'->TOn ρ' H'.gen w' (λ_=> True) t' a'->Ext ρ H w ρ' H' w'->a'.defers=a.defers->Q .normal a' w')->wpOps P ops.toArray Q (List.range' k m) a w:=by
 intro m
 induction m with
 | zero=>
  intro k t H a w ρ hk h R T hQ;rw [List.drop_eq_nil_of_le (by omega)] at h;simp only [Kv,zaa,zae] at h;obtain⟨rfl,rfl⟩:=h;exact hQ a ρ w R T (Ext.refl _ _ _) rfl
 | succ m ih=>
  intro k t H a w ρ hk h R T hQ;have hlt:k < ops.length:=by omega
  have ho:ops[k]?=some (ops[k]'hlt):=zab hlt;rw [zaR hlt,yc] at h;cases hs:kY P C ops false (ops[k]'hlt) t H with
  | none=> rw [hs] at h;cases h
  | some r=>
   obtain⟨v,H1⟩:=r;rw [hs] at h;simp only at h;rw [zdh,wpOps_cons];refine IQ hC hs R (T.sub λ_ _=> trivial) ho λcv ρ' w' r1 r2 r3=> ?_;refine ih (k+1) _ _ _ w' ρ' (by omega) h r1 ((T.keep r3).put _ r2) λa' ρ2 w2 q1 q2 q3 q4=> hQ a' ρ2 w2 q1 q2 (r3.trans q3) (q4.trans ?_);cases(ops[k]'hlt).dst <;> rfl
abbrev amv(ρ:Ren)(H:ah)(w:World)(a:Act)(t':fC)(H':ah)(Q:Act->World->Prop):Prop:=
 ∀a' ρ' w',Rel ρ' H' w'->TOn ρ' H'.gen w' (λ_=> True) t' a'->Ext ρ H w ρ' H' w'->a'.defers=a.defers->Q a' w'
def uD(P:Program)(c:Code)(f:Run):Prop:=
 ∀t H e t' H',f t H=some (e,t',H')->∀(ρ:Ren) (w:World) (a:Act),Rel ρ H w->TOn ρ H.gen w (λ_=> True) t a->∀Q:Exit->Act->World->Prop,amv ρ H w a t' H' (Q e.to)->c.wp P Q a w
theorem Uw {c d:Code}{f g:Run}(hf:uD P c f)(hg:∀t H e t' H',g t H=some (e,t',H')->∀(ρ:Ren) (w:World) (a:Act),Rel ρ H w->TOn ρ H.gen w (λ_=> True) t a->∀Q:Exit->Act->World->Prop,amv ρ H w a t' H' (Q e.to)->d.wp P Q a w):
  uD P (.seq c d) λt H=> qx (f t H) g:=by
 intro t H e t' H' h ρ w a R T Q hQ;refine wp_seq ?_
 change qx (f t H) g=_ at h
 unfold qx at h;split at h
 ·rename_i t1 H1 hf1;refine hf t H _ t1 H1 hf1 ρ w a R T _ λa' ρ' w' r1 r2 r3 r4=> ?_;exact hg t1 H1 e t' H' h ρ' w' a' r1 r2 Q λa2 ρ2 w2 q1 q2 q3 q4=> hQ a2 ρ2 w2 q1 q2 (r3.trans q3) (q4.trans r4)
 ·rename_i i t1 H1 hf1;simp only [zaa,zae] at h;obtain⟨rfl,rfl,rfl⟩:=h;exact hf t H _ t1 H1 hf1 ρ w a R T _ hQ
 ·rename_i t1 H1 hf1;simp only [zaa,zae] at h;obtain⟨rfl,rfl,rfl⟩:=h;exact hf t H _ t1 H1 hf1 ρ w a R T _ hQ
 ·cases h
open Classical in
theorem Ux {c:Code}{f:Run}(hf:uD P c f):uD P (.loop c) (Uu f):=by
 intro t H e t' H' h ρ w a R T Q hQ;obtain⟨n,hn⟩:=kG h;let I:Nat->Act->World->Prop:=λn a1 w1=>∃t1 H1 ρ1,zG f n t1 H1=some (e,t',H')/\Rel ρ1 H1 w1/\TOn ρ1 H1.gen w1 (λ_=> True) t1 a1/\Ext ρ H w ρ1 H1 w1/\a1.defers=a.defers
 let μ:Act->World->Nat:=λa1 w1=> if hx:∃n,I n a1 w1/\∀i,i < n->¬I i a1 w1 then Classical.choose hx else 0
 have hμ:∀n a1 w1,I n a1 w1->I (μ a1 w1) a1 w1/\μ a1 w1<=n:=by
  intro n a1 w1 hi;have hx:∃n,I n a1 w1/\∀i,i < n->¬I i a1 w1:=aeV (p:=λn=> I n a1 w1) n hi;have hsp:=Classical.choose_spec hx;have hdef:μ a1 w1=Classical.choose hx:=dif_pos hx;rw [hdef];refine⟨hsp.1,?_⟩;rcases zaW n (Classical.choose hx) with hl | hl
  ·exact absurd hi (hsp.2 n hl)
  ·exact hl
 refine wp_loop (λa1 w1=>∃n,I n a1 w1) μ ⟨n,t,H,ρ,hn,R,T,Ext.refl _ _ _,rfl⟩ λa1 w1 ⟨n1,hi⟩=> ?_;obtain⟨⟨t1,H1,ρ1,h1,R1,T1,E1,D1⟩,_⟩:=hμ n1 a1 w1 hi;cases hm:μ a1 w1 with
 | zero=> rw [hm] at h1;cases h1
 | succ m=>
  rw [hm] at h1
  change qx (f t1 H1) (zG f m)=_ at h1
  unfold qx at h1;split at h1
  ·rename_i t2 H2 hf1;refine hf t1 H1 _ t2 H2 hf1 ρ1 w1 a1 R1 T1 _ λa2 ρ2 w2 r1 r2 r3 r4=> ?_;have hi2:I m a2 w2:=⟨t2,H2,ρ2,h1,r1,r2,E1.trans r3,r4.trans D1⟩
   exact⟨⟨m,hi2⟩,by have:=(hμ m a2 w2 hi2).2;omega⟩
  ·rename_i i t2 H2 hf1;simp only [zaa,zae] at h1;obtain⟨rfl,rfl,rfl⟩:=h1;exact hf t1 H1 _ _ _ hf1 ρ1 w1 a1 R1 T1 _ λa2 ρ2 w2 r1 r2 r3 r4=> hQ a2 ρ2 w2 r1 r2 (E1.trans r3) (r4.trans D1)
  ·rename_i t2 H2 hf1;simp only [zaa,zae] at h1;obtain⟨rfl,rfl,rfl⟩:=h1;exact hf t1 H1 _ _ _ hf1 ρ1 w1 a1 R1 T1 _ λa2 ρ2 w2 r1 r2 r3 r4=> hQ a2 ρ2 w2 r1 r2 (E1.trans r3) (r4.trans D1)
  ·cases h1
theorem zJ(hC:oZ P C)(hK:jO C)(hm:P.follows .mixedOrders=true):∀c:Code,uD P c (dZ P C c):=by
 intro c
 induction c with
 | skip=>
  intro t H e t' H' h ρ w a R T Q hQ;simp only [dZ,zaa,zae] at h;obtain⟨rfl,rfl,rfl⟩:=h;exact wp_skip (hQ a ρ w R T (Ext.refl _ _ _) rfl)
 | region id ops draw=>
  intro t H e t' H' h ρ w a R T Q hQ;simp only [dZ] at h;cases draw with
  | true=>
   simp only [if_true] at h;split at h <;> first | (cases h;done) | skip
   rename_i t1 H1 hd;simp only [zaa,zae] at h;obtain⟨rfl,rfl,rfl⟩:=h;have:=aeX hC hK hm (id:=id) hd R T (Q:=Q) hQ
   simpa using this
  | false=>
   simp only [zal,if_false] at h;split at h <;> first | (cases h;done) | skip
   rename_i t1 H1 hd;simp only [zaa,zae] at h;obtain⟨rfl,rfl,rfl⟩:=h;refine wp_region ?_;have:=ahu hC (ops:=ops.toList) (Q:=Q) ops.toList.length 0 t H a w ρ (by simp) (by simpa using hd) R T hQ;rw [zcS]
   simpa using this
 | seq x y ihx ihy=> exact Uw ihx ihy
 | cond c x y ihx ihy=>
  intro t H e t' H' h ρ w a R T Q hQ;simp only [dZ] at h;have hev:RV ρ H.gen w (cZ t c) (a.eval c):=by
   cases c with
   | tmp d=> exact T.any d trivial
   | const v=> simp [cZ,Act.eval,RV]
   | global g=> simp [cZ,Act.eval,RV]
   | func f=> simp [cZ,Act.eval,RV,RVs]
  split at h
  ·rename_i hb;rw [hb] at hev;simp only [RV] at hev;exact wp_cond_true hev (ihx t H e t' H' h ρ w a R T Q hQ)
  ·rename_i hb;rw [hb] at hev;simp only [RV] at hev;exact wp_cond_false hev (ihy t H e t' H' h ρ w a R T Q hQ)
  ·cases h
 | block id x ih=>
  intro t H e t' H' h ρ w a R T Q hQ;simp only [dZ] at h;refine wp_block ?_;unfold AP at h;split at h
  ·rename_i i t1 H1 hf;refine ih t H _ t1 H1 hf ρ w a R T _ λa2 ρ2 w2 r1 r2 r3 r4=> ?_;simp only [Ex.to,Exit.inBlock];split at h
   ·rename_i hid;simp only [zaa,zae] at h;obtain⟨rfl,rfl,rfl⟩:=h;rw [if_pos hid];exact hQ a2 ρ2 w2 r1 r2 r3 r4
   ·rename_i hid;simp only [zaa,zae] at h;obtain⟨rfl,rfl,rfl⟩:=h;rw [if_neg hid];exact hQ a2 ρ2 w2 r1 r2 r3 r4
  ·rename_i t1 H1 hf;simp only [zaa,zae] at h;obtain⟨rfl,rfl,rfl⟩:=h;exact ih t H _ t1 H1 hf ρ w a R T _ hQ
  ·rename_i t1 H1 hf;simp only [zaa,zae] at h;obtain⟨rfl,rfl,rfl⟩:=h;exact ih t H _ t1 H1 hf ρ w a R T _ hQ
  ·cases h
 | loop x ih=> exact Ux ih
 | exit id=>
  intro t H e t' H' h ρ w a R T Q hQ;simp only [dZ,zaa,zae] at h;obtain⟨rfl,rfl,rfl⟩:=h;exact wp_exit (hQ a ρ w R T (Ext.refl _ _ _) rfl)
 | ret=>
  intro t H e t' H' h ρ w a R T Q hQ;simp only [dZ,zaa,zae] at h;obtain⟨rfl,rfl,rfl⟩:=h;exact wp_ret (hQ a ρ w R T (Ext.refl _ _ _) rfl)
 | _=> intro t H e t' H' h;simp [dZ] at h
end
section
variable {P:Program}{C:aA}{ρ:Ren}{H H':ah}{w:World}{t t':fC}{a:Act}
theorem FY(hC:jO C){ops:List Oper}{lo:Bool}{o:Oper}{v:AV}(h:kY P C ops lo o t H=some (v,H')):Keeps H H':=by
 unfold kY at h;split at h <;> first | (cases h;done) | skip
 ·split at h
  ·have:=(DI hC h).1;exact⟨this.1,this.2.1,λr _ h2=> this.2.2 r h2,λr h2=> by rw [this.2.2 r h2];exact .refl _⟩
  ·exact BO hC h
 ·simp only [zaa,zae] at h;rw [h.2];exact .refl _
theorem FZ(hC:jO C){ops:List Oper}:∀(l:List Oper) (t:fC) (H:ah),Kv P C ops l t H=some (t',H')->Keeps H H'
 | [],t,H,h=> by
  simp only [Kv,zaa,zae] at h;rw [h.2];exact .refl _
 | o::l,t,H,h=> by
  rw [yc] at h;split at h <;> first | (cases h;done) | skip
  rename_i v H1 h1;exact(FY hC h1).trans (FZ hC l _ _ h)
theorem wL(hC:jO C){ops:List Oper}:∀(l:List Nat) (t:fC) (H:ah),iy P C ops l t H=some (t',H')->Keeps H H'
 | [],t,H,h=> by
  simp only [iy,zaa,zae] at h;rw [h.2];exact .refl _
 | i::l,t,H,h=> by
  simp only [iy] at h;split at h <;> first | (cases h;done) | skip
  split at h <;> first | (cases h;done) | skip
  rename_i v H1 h1;exact(BO hC h1).trans (wL hC l _ _ h)
theorem rZ(hC:jO C){ops:List Oper}:∀(l:List Nat) (t:fC) (H:ah),eX P C ops l t H=some (t',H')->Keeps H H'
 | [],t,H,h=> by
  simp only [eX,zaa,zae] at h;rw [h.2];exact .refl _
 | i::l,t,H,h=> by
  simp only [eX] at h;split at h <;> first | (cases h;done) | skip
  split at h <;> first | (cases h;done) | skip
  rename_i v H1 h1;exact(FY hC h1).trans (rZ hC l _ _ h)
theorem Pg(hC:jO C){ops:List Oper}(h:wU P C ops t H=some (t',H')):Keeps H H':=by
 unfold wU at h;split at h <;> first | (cases h;done) | skip
 split at h <;> first | (cases h;done) | skip
 rename_i t0 H0 h0;have k0:=wL hC _ _ _ h0;split at h
 ·exact k0.trans (rZ hC _ _ _ h)
 ·split at h <;> first | (cases h;done) | skip
  exact k0.trans (rZ hC _ _ _ h)
def su(f:Run):Prop:=∀t H e t' H',f t H=some (e,t',H')->Keeps H H'
theorem F5 {f g:Run}(hf:su f)(hg:su g):su λt H=> qx (f t H) g:=by
 intro t H e t' H' h
 change qx (f t H) g=_ at h
 unfold qx at h;split at h
 ·rename_i t1 H1 h1;exact(hf _ _ _ _ _ h1).trans (hg _ _ _ _ _ h)
 ·rename_i i t1 H1 h1;simp only [zaa,zae] at h;obtain⟨_,_,rfl⟩:=h;exact hf _ _ _ _ _ h1
 ·rename_i t1 H1 h1;simp only [zaa,zae] at h;obtain⟨_,_,rfl⟩:=h;exact hf _ _ _ _ _ h1
 ·cases h
theorem Uy {f:Run}(hf:su f):su (Uu f):=by
 have key:∀n,su (zG f n):=by
  intro n
  induction n with
  | zero=> intro t H e t' H' h;cases h
  | succ n ih=> exact F5 hf ih
 intro t H e t' H' h;obtain⟨n,hn⟩:=kG h;exact key n t H e t' H' hn
theorem Uz(hC:jO C):∀c:Code,su (dZ P C c):=by
 intro c
 induction c with
 | skip=>
  intro t H e t' H' h;simp only [dZ,zaa,zae] at h;rw [<-h.2.2];exact .refl _
 | region id ops draw=>
  intro t H e t' H' h;simp only [dZ] at h;split at h <;> first | (cases h;done) | skip
  rename_i t1 H1 hd;simp only [zaa,zae] at h;obtain⟨_,rfl,rfl⟩:=h;split at hd
  ·exact Pg hC hd
  ·exact FZ hC _ _ _ hd
 | seq x y ihx ihy=> exact F5 ihx ihy
 | cond c x y ihx ihy=>
  intro t H e t' H' h;simp only [dZ] at h;split at h
  ·exact ihx _ _ _ _ _ h
  ·exact ihy _ _ _ _ _ h
  ·cases h
 | block id x ih=>
  intro t H e t' H' h;simp only [dZ] at h;unfold AP at h;split at h
  ·rename_i i t1 H1 hf;split at h <;>
   ·simp only [zaa,zae] at h;obtain⟨_,_,rfl⟩:=h;exact ih _ _ _ _ _ hf
  ·rename_i t1 H1 hf;simp only [zaa,zae] at h;obtain⟨_,_,rfl⟩:=h;exact ih _ _ _ _ _ hf
  ·rename_i t1 H1 hf;simp only [zaa,zae] at h;obtain⟨_,_,rfl⟩:=h;exact ih _ _ _ _ _ hf
  ·cases h
 | loop x ih=> exact Uy ih
 | exit id=>
  intro t H e t' H' h;simp only [dZ,zaa,zae] at h;rw [<-h.2.2];exact .refl _
 | ret=>
  intro t H e t' H' h;simp only [dZ,zaa,zae] at h;rw [<-h.2.2];exact .refl _
 | _=> intro t H e t' H' h;simp [dZ] at h
theorem F6(hC:jO C){f:FuncId}{args:List AV}{v:AV}(h:xP P C f args H=some (v,H')):Keeps H H':=by
 unfold xP at h;split at h <;> first | (cases h;done) | skip
 split at h <;> first | (cases h;done) | skip
 split at h <;> first | (cases h;done) | skip
 rename_i e t1 H1 hne he;have:=Uz hC _ _ _ _ _ _ he;cases hr:iR P _ t1 H1 with
 | none=> rw [hr] at h;cases h
 | some x=>
  rw [hr] at h;simp only [zai,zaa,zae] at h;rw [<-h.2];exact this
def al4(tmps:Array Value):ResultVar->Sem Value
 | .tmp t=> pure (tmps.getD t undef)
 | .cell a t=> do loadVar t (<-asAddr (tmps.getD a undef))
theorem KY(fn:Func)(tmps:Array Value):results fn tmps=(do
  let vs<-fn.results.mapM (al4 tmps)
  pure (if h:vs.size=1 then vs[0] else .tuple vs)):=by
 rfl
theorem aeZ(R:Rel ρ H w)(T:TOn ρ H.gen w (λ_=> True) t a){x:ResultVar}{v:AV}(h:QZ P t H x=some v):
  ∃cv,(al4 a.tmps x).run P w=.ok cv w/\RV ρ H.gen w v cv:=by
 cases x with
 | tmp d=>
  simp only [QZ,zaa] at h;subst h;exact⟨_,rfl,T.any d trivial⟩
 | cell b ty=>
  simp only [QZ] at h;cases hl:OL P ty (t.getD b aO) H with
  | none=> rw [hl] at h;cases h
  | some r=>
   obtain⟨u,H1⟩:=r;rw [hl] at h;simp only [zai,zaa] at h;subst h;have hx:=T.any b trivial;obtain⟨_,cv,h1,h2⟩:=VU R hx hl;have hp:∃ad,a.tmps.getD b undef=.pointer (some ad):=by
    have h':=(rQ hl).1;unfold aeL at h';split at h'
    ·rename_i hb;rw [hb] at hx h';simp only [RV] at hx;obtain⟨ad,e,_⟩:=hx;exact⟨ad,e⟩
    ·rename_i hb;rw [hb] at hx;simp only [RV] at hx;obtain⟨b,o,e,_⟩:=hx;exact⟨_,e⟩
    ·cases h'
   obtain⟨ad,hp⟩:=hp;refine⟨cv,?_,h2⟩;rw [hp] at h1;simp only [al4,hp]
   simpa [Instr.loadAt,Instr.sureAddr,asAddr] using h1
theorem Q5(R:Rel ρ H w)(T:TOn ρ H.gen w (λ_=> True) t a):∀(rs:List ResultVar) (xs:List AV),rs.mapM (QZ P t H)=some xs->
  ∃cs:List Value,(rs.mapM (al4 a.tmps)).run P w=.ok cs w/\RVs ρ H.gen w xs cs
 | [],xs,h=> by
  simp at h;subst h;exact⟨[],by simp,by simp [RVs]⟩
 | r::rs,xs,h=> by
  rw [zbv] at h;cases h1:QZ P t H r with
  | none=> rw [h1] at h;cases h
  | some y=>
   rw [h1] at h;cases h2:rs.mapM (QZ P t H) with
   | none=> rw [h2] at h;cases h
   | some ys=>
    rw [h2] at h;simp only [zbK,za0,zci,zaa] at h;subst h;obtain⟨cv,e1,e2⟩:=aeZ (P:=P) R T h1;obtain⟨cs,e3,e4⟩:=Q5 R T rs ys h2;refine⟨cv::cs,?_,?_⟩
    ·rw [zbv,Sem.run_bind,e1];simp only [Result.andThen_ok,Sem.run_bind,e3,Sem.run_pure]
    ·simp only [RVs];exact⟨cv,cs,rfl,e2,e4⟩
theorem F9(R:Rel ρ H w)(T:TOn ρ H.gen w (λ_=> True) t a){fn:Func}{v:AV}(h:iR P fn.results.toList t H=some v):
  ∃cv,(results fn a.tmps).run P w=.ok cv w/\RV ρ H.gen w v cv:=by
 unfold iR at h;cases hm:fn.results.toList.mapM (QZ P t H) with
 | none=> rw [hm] at h;cases h
 | some xs=>
  rw [hm] at h;obtain⟨cs,e1,e2⟩:=Q5 (P:=P) R T _ _ hm;have hrun:(results fn a.tmps).run P w=.ok (if h:cs.toArray.size=1 then cs.toArray[0] else .tuple cs.toArray) w:=by
   rw [KY,Array.mapM_eq_mapM_toList,map_eq_pure_bind];simp only [Sem.run_bind];rw [e1];rfl
  rw [hrun];refine⟨_,rfl,?_⟩;cases xs with
  | nil=>
   simp only [zaa] at h;subst h;simp only [RVs] at e2;subst e2;simp [RV,RVs]
  | cons x xs=>
   cases xs with
   | nil=>
    simp only [zaa] at h;subst h;simp only [RVs] at e2;obtain⟨y,ys,rfl,q1,rfl⟩:=e2
    simpa using q1
   | cons x2 xs=>
    simp only [zaa] at h;subst h;have hl:cs.length≠1:=by have:=bW e2;simp at this;omega
    have:(if h:cs.toArray.size=1 then cs.toArray[0] else .tuple cs.toArray)=.tuple cs.toArray:=by
     rw [dif_neg];simpa using hl
    rw [this];simp only [RV];exact⟨_,rfl,by simpa using e2⟩
theorem Wp {args:List AV}{jZ:Array Value}{m:Nat}(h:RVs ρ H.gen w args jZ.toList):
  TOn ρ H.gen w (λ_=> True) (args++List.replicate (m - args.length) aO) { tmps:=jZ++Array.replicate (m - jZ.size) undef,defers:=[] }:=by
 have hl:=bW h;have hl':jZ.size=args.length:=by simpa using hl
 refine⟨by simp [hl'],λ(d:Nat) _ hd=> ?_⟩;by_cases hlt:d < args.length
 ·have hx:args[d]?=some (args[d]'hlt):=zab hlt;obtain⟨v,hv,h1⟩:=jD h hx;have e1:(args++List.replicate (m - args.length) aO).getD d aO=args[d]'hlt:=by
   simp [List.getD,zaP hlt,hx]
  have e2:(jZ++Array.replicate (m - jZ.size) undef).getD d undef=v:=by
   have hv':jZ[d]?=some v:=by simpa using hv
   have hlt2:d < jZ.size:=by omega
   rw [zcd,Array.getElem?_append_left hlt2,hv'];rfl
  rw [e1,e2];exact h1
 ·have e1:(args++List.replicate (m - args.length) aO).getD d aO=aO:=by
   simp only [List.getD,za4 (zdD.1 hlt),zcw];split <;> rfl
  have e2:(jZ++Array.replicate (m - jZ.size) undef).getD d undef=undef:=by
   rw [zcd,Array.getElem?_append_right (by omega),Array.getElem?_replicate];split <;> rfl
  show RV ρ H.gen w (List.getD _ d aO) (Array.getD _ d undef);rw [e1,e2];exact BN
theorem Gf(hC:oZ P C)(hK:jO C)(hm:P.follows .mixedOrders=true):oZ P (xP P C):=by
 intro f args H v H' h ρ w jZ R hargs;unfold xP at h;split at h <;> first | (cases h;done) | skip
 rename_i fn hf;split at h <;> first | (cases h;done) | skip
 rename_i c hb;split at h <;> first | (cases h;done) | skip
 rename_i e t1 H1 hne he;cases hr:iR P fn.results.toList t1 H1 with
 | none=> rw [hr] at h;cases h
 | some x=>
  rw [hr] at h;simp only [zai,zaa,zae] at h;obtain⟨rfl,rfl⟩:=h;refine calls_of_wp hf hb ?_;refine zJ hC hK hm c _ _ e t1 H1 he ρ w _ R (Wp hargs) _ λa' ρ' w' r1 r2 r3 r4=> ?_;obtain⟨cv,q1,q2⟩:=F9 (P:=P) r1 r2 hr;have fin:bodyPost P fn (λe w'=>∃cv ρ',e=.returned cv/\Rel ρ' H1 w'/\RV ρ' H1.gen w' x cv/\Ext ρ H w ρ' H1 w') .ret a' w':=⟨r4,cv,q1,cv,ρ',rfl,r1,q2,r3⟩
  cases e with
  | normal=> exact fin
  | ret=> exact fin
  | exit i=> exact absurd rfl (hne i)
def UA(P:Program)(L:Pol):Prop:=∀f p,L.aac f=some p->oZ P (λg args H=> if g=f then p args H else none)/\∀args H v H',p args H=some (v,H')->Keeps H H'
theorem Ph {L:Pol}(hL:UA P L)(hC:oZ P C)(hK:jO C)(hm:P.follows .mixedOrders=true):oZ P (zH P L C):=by
 intro f args H v H' h ρ w jZ R hargs;unfold zH at h;split at h
 ·rename_i p hp;exact(hL f p hp).1 f args H v H' (by simpa using h) ρ w jZ R hargs
 ·split at h
  ·split at h <;> first | (cases h;done) | skip
   rename_i u H1 hr;cases hz:bF H1 H.next 9 u with
   | none=> rw [hz] at h;cases h
   | some u'=>
    rw [hz] at h;simp only [zai,zaa,zae] at h;obtain⟨rfl,rfl⟩:=h;refine(Gf hC hK hm f args H.guard u H1 hr ρ w jZ ⟨R.out,R.obj,R.inj,R.gl⟩ hargs).mono λe w' he=> ?_;obtain⟨cv,ρ',rfl,r1,r2,r3⟩:=he;have E:Ext ρ H w ρ' H1 w':=⟨r3.next,r3.mono,r3.same,r3.kept,r3.range,r3.size,r3.frame,r3.shape,r3.os,r3.tape,r3.output⟩
    obtain⟨q1,q2,q3⟩:=Wn R (F6 hK hr) r1 E hz r2;exact⟨cv,ρ,rfl,q1,q2,q3⟩
  ·exact Gf hC hK hm f args H v H' h ρ w jZ R hargs
theorem Pj {L:Pol}(hL:UA P L)(hK:jO C):jO (zH P L C):=by
 intro f args H v H' h;unfold zH at h;split at h
 ·rename_i p hp;exact(hL f p hp).2 args H v H' h
 ·split at h
  ·split at h <;> first | (cases h;done) | skip
   rename_i u H1 hr;cases hz:bF H1 H.next 9 u with
   | none=> rw [hz] at h;cases h
   | some u'=>
    rw [hz] at h;simp only [zai,zaa,zae] at h;rw [<-h.2];exact .refl _
  ·exact F6 hK h
end
abbrev Pt:=FuncId × List AV × ah × AV × ah
def Has(C:aA)(L:List Pt):Prop:=∀p∈L,C p.1 p.2.1 p.2.2.1=some (p.2.2.2.1,p.2.2.2.2)
theorem Has.left {C:aA}{L M:List Pt}(h:Has C (L++M)):Has C L:=λp hp=> h p (zdm _ hp)
theorem Has.right {C:aA}{L M:List Pt}(h:Has C (L++M)):Has C M:=λp hp=> h p (zdk _ hp)
theorem Has.append {C:aA}{L M:List Pt}(h:Has C L)(h':Has C M):Has C (L++M):=λp hp=> (za3.1 hp).elim (h p) (h' p)
def Fin1 {α:Type}(C:aA)(F:aA->Option α):Prop:=∀r,F C=some r->∃L,Has C L/\∀C',Has C' L->F C'=some r
theorem Fin1.const {α:Type}{C:aA}(x:Option α):Fin1 C λ_=> x:=λr h=> ⟨[],λ_ h=> by simp at h,λ_ _=> h⟩
theorem Fin1.point {C:aA}{f:FuncId}{args:List AV}{H:ah}:Fin1 C λC=> C f args H:=λr h=>
 ⟨[(f,args,H,r.1,r.2)],λp hp=> by simp at hp;subst hp;exact h,λC' hc=> hc (f,args,H,r.1,r.2) (by simp)⟩
theorem Fin1.bind {α β:Type}{C:aA}{F:aA->Option α}{G:α->aA->Option β}(hF:Fin1 C F)(hG:∀a,Fin1 C (G a)):Fin1 C λC=> (F C).bind λa=> G a C:=by
 intro r h;cases hf:F C with
 | none=> simp [hf] at h
 | some a=>
  simp only [hf,za0] at h;obtain⟨L,l1,l2⟩:=hF a hf;obtain⟨M,m1,m2⟩:=hG a r h;exact⟨L++M,l1.append m1,λC' hc=> by simp only [l2 C' hc.left,za0];exact m2 C' hc.right⟩
theorem Fin1.of_eq {α:Type}{C:aA}{F G:aA->Option α}(h:Fin1 C G)(e:∀C,F C=G C):Fin1 C F:=by
 rw [show F=G from funext e];exact h
section
variable {P:Program}{C:aA}{t:fC}{H:ah}{o:Oper}
theorem Wq {x:AV}{args:List AV}:Fin1 C λC=> oH P C x args H:=by
 unfold oH;split
 ·split
  ·exact Fin1.point
  ·exact Fin1.const _
 ·split
  ·exact Fin1.point
  ·exact Fin1.const _
 ·exact Fin1.const _
theorem Pm:Fin1 C λC=> opA P C t o H:=by
 obtain⟨dst,op,type,pos,after,guard⟩:=o;cases op
 case makeMap ty r=> cases r <;> exact Fin1.const _
 case call c=>
  simp only [opA,ug];split
  ·exact Wq
  ·exact Fin1.const _
  ·exact Fin1.const _
 all_goals exact Fin1.const _
theorem Q7 {ops:List Oper}{lo:Bool}:Fin1 C λC=> kY P C ops lo o t H:=by
 cases hw:rH ops t o with
 | none=> exact(Fin1.const none).of_eq λC=> by simp [kY,hw]
 | some b=>
  cases b with
  | false=> exact(Fin1.const (some (aO,H))).of_eq λC=> by simp [kY,hw]
  | true=>
   cases lo with
   | false=> exact(Pm (P:=P) (o:=o) (t:=t) (H:=H)).of_eq λC=> by simp [kY,hw]
   | true=>
    refine Fin1.of_eq (G:=λC=> (opA P C t o H.guard).bind λr=> some (r.1,{ r.2 with base:=H.base })) (Fin1.bind Pm λ_=> Fin1.const _) λC=> ?_;simp only [kY,hw,if_true,opG];cases opA P C t o H.guard <;> rfl
theorem Q8 {ops:List Oper}:∀(l:List Oper) (t:fC) (H:ah),Fin1 C λC=> Kv P C ops l t H
 | [],t,H=> Fin1.const _
 | o::l,t,H=> by
  refine Fin1.of_eq (G:=λC=> (kY P C ops false o t H).bind λr=> Kv P C ops l (tY t o.dst r.1) r.2) (Fin1.bind Q7 λr=> Q8 l _ _) λC=> ?_;rw [yc];cases kY P C ops false o t H <;> rfl
theorem AQ {ops:List Oper}:∀(l:List Nat) (t:fC) (H:ah),Fin1 C λC=> iy P C ops l t H
 | [],t,H=> Fin1.const _
 | i::l,t,H=> by
  cases ho:ops[i]? with
  | none=> exact(Fin1.const none).of_eq λC=> by simp [iy,ho]
  | some o=>
   refine Fin1.of_eq (G:=λC=> (opA P C t o H).bind λr=> iy P C ops l (tY t o.dst r.1) r.2) (Fin1.bind Pm λr=> AQ l _ _) λC=> ?_;simp only [iy,ho];cases opA P C t o H <;> rfl
theorem DU {ops:List Oper}:∀(l:List Nat) (t:fC) (H:ah) (r:fC × ah),eX P C ops l t H=some r->
  ∃L,Has C L/\∀C',Has C' L->∀k,eX P C' ops (l.take k) t H=eX P C ops (l.take k) t H
 | [],t,H,r,h=> ⟨[],λ_ h=> by simp at h,λ_ _ k=> by simp [eX]⟩
 | i::l,t,H,r,h=> by
  simp only [eX] at h;cases ho:ops[i]? with
  | none=> rw [ho] at h;cases h
  | some o=>
   rw [ho] at h;simp only at h;cases hs:kY P C ops (loose ops i && kU o.op) o t H with
   | none=> rw [hs] at h;cases h
   | some q=>
    rw [hs] at h;simp only at h;obtain⟨L,l1,l2⟩:=Q7 (P:=P) (C:=C) (t:=t) (H:=H) (o:=o) (ops:=ops) (lo:=loose ops i && kU o.op) q hs;obtain⟨M,m1,m2⟩:=DU l _ _ r h;refine⟨L++M,l1.append m1,λC' hc k=> ?_⟩;cases k with
    | zero=> rfl
    | succ k=>
     have e:=l2 C' hc.left;simp only [List.take_succ_cons,eX,ho,hs];simp only at e;rw [e];exact m2 C' hc.right k
theorem Ws {ops:List Oper}{p:Nat}(hp:p<=ops.length):∃k,(List.range p).filter (λi=> !cst ops i)=(lu ops).take k:=by
 have:List.range ops.length=List.range p++(List.range (ops.length - p)).map (p+ ·):=by
  rw [<-List.range_add];congr 1;omega
 refine⟨((List.range p).filter (λi=> !cst ops i)).length,?_⟩;unfold lu;rw [this,zcc,List.take_left]
theorem Pn {ops:List Oper}{p:Nat × Nat}(h:p∈kK ops):p.1 < ops.length/\p.2 < ops.length:=by
 unfold kK at h;obtain⟨j,hj,h⟩:=zbd.1 h;obtain⟨e,he,rfl⟩:=zaS.1 h;exact⟨zaY.1 hj,zaY.1 (zbt.1 he).1⟩
theorem Wu {ops:List Oper}:Fin1 C λC=> wU P C ops t H:=by
 intro r h;simp only at h;unfold wU at h;split at h <;> first | (cases h;done) | skip
 rename_i hok;split at h <;> first | (cases h;done) | skip
 rename_i t0 H0 h0;obtain⟨L,l1,l2⟩:=AQ (P:=P) (C:=C) (ops:=ops) (mP ops) t H (t0,H0) h0;have hrun:eX P C ops (lu ops) t0 H0=some r:=by
  split at h
  ·exact h
  ·split at h <;> first | (cases h;done) | skip
   exact h
 obtain⟨M,m1,m2⟩:=DU (P:=P) (C:=C) (ops:=ops) (lu ops) t0 H0 r hrun;have hall:∀C',Has C' M->eX P C' ops (lu ops) t0 H0=some r:=λC' hc=> by
  have:=m2 C' hc (lu ops).length;rw [List.take_length] at this;rw [this];exact hrun
 have hst:∀C',Has C' M->∀p,p<=ops.length->Dt P C' ops p t0 H0=Dt P C ops p t0 H0:=λC' hc p hp=> by
  obtain⟨k,hk⟩:=Ws hp;unfold Dt;rw [hk];exact m2 C' hc k
 refine⟨L++M,l1.append m1,λC' hc=> ?_⟩;have e0:=l2 C' hc.left;simp only at e0 ⊢;unfold wU;rw [if_pos hok,e0];simp only;split at h
 ·exact hall C' hc.right
 ·rename_i ps hps he;split at h <;> first | (cases h;done) | skip
  rename_i ha;cases hq:kK ops with
  | nil=> exact hall C' hc.right
  | cons q qs=>
   rw [if_pos]
   ·exact hall C' hc.right
   ·intro p hp;rw [<-hq] at hp;obtain⟨b1,b2⟩:=Pn hp;have hap:=ha p hp;unfold agree at hap ⊢;split
    ·rename_i hcp;rw [if_pos hcp] at hap;intro te He te' He' q2 q3;rw [hst C' hc.right _ (by omega)] at q2 q3;exact hap te He te' He' q2 q3
    ·rename_i hcp;rw [if_neg hcp] at hap;intro tj Hj te He te' He' q1 q2 q3;rw [hst C' hc.right _ (by omega)] at q1 q2 q3;exact hap tj Hj te He te' He' q1 q2 q3
abbrev amw:=aA->Run
def ae0(C:aA)(F:amw):Prop:=∀t H,Fin1 C λC=> F C t H
theorem Q9 {F G:amw}(hF:ae0 C F)(hG:ae0 C G):ae0 C λC t H=> qx (F C t H) (G C):=by
 intro t H;refine Fin1.of_eq (G:=λC=> (F C t H).bind λr=> (match r with | (.normal,t,H)=> G C t H | r=> some r)) (Fin1.bind (hF t H) λr=> ?_) λC=> ?_
 ·obtain⟨e,t,H⟩:=r;cases e with
  | normal=> exact hG t H
  | _=> exact Fin1.const _
 ·show qx (F C t H) (G C)=_;unfold qx;cases F C t H with
  | none=> rfl
  | some r=> obtain⟨e,t,H⟩:=r;cases e <;> rfl
theorem aaC {F:amw}(hF:ae0 C F):ae0 C λC=> Uu (F C):=by
 have key:∀n,ae0 C λC=> zG (F C) n:=by
  intro n
  induction n with
  | zero=> exact λt H=> Fin1.const none
  | succ n ih=> exact Q9 hF ih
 intro t H r h;obtain⟨n,hn⟩:=kG h;obtain⟨L,l1,l2⟩:=key n t H r hn;exact⟨L,l1,λC' hc=> uz (λn r=> FX n t H r) (l2 C' hc)⟩
theorem aaD:∀c:Code,ae0 C λC=> dZ P C c:=by
 intro c
 induction c with
 | skip=> exact λt H=> Fin1.const _
 | region id ops draw=>
  intro t H;cases draw with
  | true=>
   refine Fin1.of_eq (G:=λC=> (wU P C ops.toList t H).bind λr=> some (.normal,r.1,r.2)) (Fin1.bind Wu λ_=> Fin1.const _) λC=> ?_;simp only [dZ,if_true];cases wU P C ops.toList t H <;> rfl
  | false=>
   refine Fin1.of_eq (G:=λC=> (Kv P C ops.toList ops.toList t H).bind λr=> some (.normal,r.1,r.2)) (Fin1.bind (Q8 _ _ _) λ_=> Fin1.const _) λC=> ?_;simp only [dZ,zal,if_false];cases Kv P C ops.toList ops.toList t H <;> rfl
 | seq x y ihx ihy=> exact Q9 ihx ihy
 | cond c x y ihx ihy=>
  intro t H;simp only [dZ];split
  ·exact ihx t H
  ·exact ihy t H
  ·exact Fin1.const _
 | block id x ih=>
  intro t H;refine Fin1.of_eq (G:=λC=> (dZ P C x t H).bind λr=> AP id (some r)) (Fin1.bind (ih t H) λ_=> Fin1.const _) λC=> ?_;simp only [dZ];cases dZ P C x t H <;> rfl
 | loop x ih=> exact aaC ih
 | exit id=> exact λt H=> Fin1.const _
 | ret=> exact λt H=> Fin1.const _
 | _=> exact λt H=> Fin1.const _
theorem Rf {f:FuncId}{args:List AV}:Fin1 C λC=> xP P C f args H:=by
 cases hf:P.funcs[f]? with
 | none=> exact(Fin1.const none).of_eq λC=> by simp [xP,hf]
 | some fn=>
  cases hb:fn.body with
  | none=> exact(Fin1.const none).of_eq λC=> by simp [xP,hf,hb]
  | some c=>
   refine Fin1.of_eq (G:=λC=> (dZ P C c (args++List.replicate (fn.ntmps - args.length) aO) H).bind λr=>
    (match r with
     | (.exit _,_,_)=> none
     | (_,t,H')=> (iR P fn.results.toList t H').map λv=> (v,H'))) (Fin1.bind (aaD c _ _) λ_=> Fin1.const _) λC=> ?_
   simp only [xP,hf,hb];cases dZ P C c (args++List.replicate (fn.ntmps - args.length) aO) H with
   | none=> rfl
   | some r=> obtain⟨e,t,H⟩:=r;cases e <;> rfl
theorem KZ {L:Pol}{f:FuncId}{args:List AV}:Fin1 C λC=> zH P L C f args H:=by
 cases hp:L.aac f with
 | some p=> exact(Fin1.const (p args H)).of_eq λC=> by simp [zH,hp]
 | none=>
  cases hq:L.pure f with
  | false=> exact(Rf (P:=P) (f:=f) (args:=args) (H:=H)).of_eq λC=> by simp [zH,hp,hq]
  | true=>
   refine Fin1.of_eq (G:=λC=> (xP P C f args H.guard).bind λr=> (bF r.2 H.next 9 r.1).map λv'=> (v',H)) (Fin1.bind Rf λ_=> Fin1.const _) λC=> ?_;simp only [zH,hp,hq,if_true];cases xP P C f args H.guard <;> rfl
end
def BH(P:Program)(L:Pol):Nat->aA
 | 0=> λ_ _ _=> none
 | n+1=> zH P L (BH P L n)
def callω(P:Program)(L:Pol):aA:=λf args H=> aeY λn=> BH P L n f args H
section
variable {P:Program}{L:Pol}
theorem zK:∀(n:Nat) (f:FuncId) (args:List AV) (H:ah) (r:AV × ah),BH P L n f args H=some r->BH P L (n+1) f args H=some r:=by
 intro n
 induction n with
 | zero=> intro f args H r h;cases h
 | succ n ih=>
  intro f args H r h;obtain⟨M,m1,m2⟩:=KZ (P:=P) (L:=L) (C:=BH P L n) (f:=f) (args:=args) (H:=H) r h;exact m2 _ λp hp=> ih _ _ _ _ (m1 p hp)
theorem ahv:∀M:List Pt,Has (callω P L) M->∃n,Has (BH P L n) M
 | [],_=> ⟨0,λ_ h=> by simp at h⟩
 | p::M,h=> by
  obtain⟨n,hn⟩:=kG (h p (by simp));obtain⟨m,hm⟩:=ahv M λq hq=> h q (by simp [hq]);refine⟨n+m,λq hq=> ?_⟩;rcases zar.1 hq with rfl | hq
  ·exact IU (g:=λn=> BH P L n q.1 q.2.1 q.2.2.1) (λn r=> zK n _ _ _ r) hn (by omega)
  ·exact IU (g:=λn=> BH P L n q.1 q.2.1 q.2.2.1) (λn r=> zK n _ _ _ r) (hm q hq) (by omega)
theorem callω_of {f:FuncId}{args:List AV}{H:ah}{r:AV × ah}(h:zH P L (callω P L) f args H=some r):callω P L f args H=some r:=by
 obtain⟨M,m1,m2⟩:=KZ (P:=P) (L:=L) (C:=callω P L) (f:=f) (args:=args) (H:=H) r h;obtain⟨n,hn⟩:=ahv M m1;have:BH P L (n+1) f args H=some r:=m2 _ hn;exact uz (g:=λn=> BH P L n f args H) (λn r=> zK n f args H r) this
theorem callω_ok(hL:UA P L)(hm:P.follows .mixedOrders=true):oZ P (callω P L)/\jO (callω P L):=by
 have key:∀n,oZ P (BH P L n)/\jO (BH P L n):=by
  intro n
  induction n with
  | zero=> exact⟨λf args H v H' h=> (by cases h),λf args H v H' h=> (by cases h)⟩
  | succ n ih=> exact⟨Ph hL ih.1 ih.2 hm,Pj hL ih.2⟩
 refine⟨λf args H v H' h=> ?_,λf args H v H' h=> ?_⟩
 ·obtain⟨n,hn⟩:=kG h;exact(key n).1 f args H v H' hn
 ·obtain⟨n,hn⟩:=kG h;exact(key n).2 f args H v H' hn
end
def aaE(c:AV)(x y:Res):Res:=
 match c with
 | .s (.bool true)=> x
 | .s (.bool false)=> y
 | _=> none
def bnd {α β:Type}(x:Option (α × ah))(k:α->ah->Option β):Option β:=
 match x with
 | some (v,H)=> k v H
 | none=> none
theorem Rh {α β:Type}{v:α}{H:ah}{k:α->ah->Option β}:bnd (some (v,H)) k=k v H:=rfl
def gd {β:Type}(b:Bool)(x:Option (AV × ah))(H:ah)(k:AV->ah->Option β):Option β:=
 if b=true then bnd x k else k aO H
def okN(r:Option (fC × ah)):Res:=
 match r with
 | some (t,H)=> some (.normal,t,H)
 | none=> none
section
variable {P:Program}{C:aA}{t:fC}{H H':ah}
theorem aaF {a b:Code}:dZ P C (.seq a b) t H=qx (dZ P C a t H) (dZ P C b):=rfl
theorem Wv {c:Operand}{a b:Code}:dZ P C (.cond c a b) t H=aaE (cZ t c) (dZ P C a t H) (dZ P C b t H):=by
 simp only [dZ,aaE]
 try rfl
theorem UC {id:Nat}{a:Code}:dZ P C (.block id a) t H=AP id (dZ P C a t H):=rfl
theorem Po {id:Nat}{ops:Array Oper}:dZ P C (.region id ops false) t H=okN (Kv P C ops.toList ops.toList t H):=by
 simp only [dZ,okN,zal,if_false]
 try rfl
theorem Wx {id:Nat}{ops:Array Oper}:dZ P C (.region id ops true) t H=okN (wU P C ops.toList t H):=by
 simp only [dZ,okN,if_true]
 try rfl
def Ri(ops:List Oper)(t:fC)(j:Nat):Option AV:=(ops[j]?.bind (·.dst)).bind λd=> t[d]?
def Gg(g:Option AV)(want:Bool):Option Bool:=
 match g with
 | some (.s (.bool b))=> some (b==want)
 | some (.tup [])=> some false
 | _=> none
def gdA {β:Type}(g:Option AV)(want:Bool)(x:Option (AV × ah))(H:ah)(k:AV->ah->Option β):Option β:=
 match Gg g want with
 | some b=> gd b x H k
 | none=> none
theorem La {β:Type}{want:Bool}{x:Option (AV × ah)}{k:AV->ah->Option β}:gdA (some aO) want x H k=k aO H:=rfl
theorem Lc {ops:List Oper}{o:Oper}{j:Nat}{want:Bool}(h:o.guard=some (j,want)):rH ops t o=Gg (Ri ops t j) want:=by
 unfold rH Ri Gg;rw [h];simp only;cases hp:ops[j]? with
 | none=> rfl
 | some p=>
  simp only [za0];cases hd:p.dst with
  | none=> rfl
  | some d=> rfl
theorem Pq {t:fC}{i:Nat}{v:AV}(h:i < t.length):(t.set i v).getD i aO=v:=by
 simp [List.getD,h]
theorem getD_set_ne {t:fC}{i j:Nat}{v:AV}(h:i≠j):(t.set i v).getD j aO=t.getD j aO:=by
 simp [List.getD,h]
theorem IV {t:fC}{i:Nat}(h:i < t.length):t[i]?=some (t.getD i aO):=by
 simp [List.getD,h]
theorem Rj {β:Type}{v:AV}{k:AV->ah->Option β}:bnd (fE (some v) H) k=k v H:=rfl
theorem Ld {v:AV}:fE (some v) H=some (v,H):=rfl
def amx(P:Program)(rs:List ResultVar)(r:Res):Option (AV × ah):=
 match r with
 | some (.exit _,_,_)=> none
 | some (_,t,H')=> (iR P rs t H').map λv=> (v,H')
 | none=> none
theorem ae1 {f:FuncId}{fn:Func}{c:Code}{args:List AV}(hf:P.funcs[f]?=some fn)(hb:fn.body=some c):
  xP P C f args H=amx P fn.results.toList (dZ P C c (args++List.replicate (fn.ntmps - args.length) aO) H):=by
 unfold xP amx;simp only [hf,hb]
 try rfl
theorem acC {L:Pol}{f:FuncId}{args:List AV}{r:AV × ah}(h1:L.aac f=none)(h2:L.pure f=false)(h:xP P (callω P L) f args H=some r):callω P L f args H=some r:=
 callω_of (by simp only [zH,h1,h2,zal,if_false];exact h)
theorem ae2 {L:Pol}{f:FuncId}{args:List AV}{v v':AV}{H1:ah}(h1:L.aac f=none)(h2:L.pure f=true)(h:xP P (callω P L) f args H.guard=some (v,H1))(hz:bF H1 H.next 9 v=some v'):
  callω P L f args H=some (v',H):=
 callω_of (by simp only [zH,h1,h2,if_true,h,hz,zai])
theorem wZ {L:Pol}{f:FuncId}{args:List AV}{r:AV × ah}{p:List AV->AM AV}(h1:L.aac f=some p)(h:p args H=some r):callω P L f args H=some r:=
 callω_of (by simp only [zH,h1];exact h)
theorem aaG {f:FuncId}{a c args:List AV}(h:oG P f=true):oH P C (.fn (.func f) a c) args H=C f (a++args++c) H:=by
 simp only [oH,h,if_true]
end
theorem bZ {α:Type}{P:Program}{a:α}:iE P (Pure.pure a)=some a:=rfl
section
variable {P:Program}{t:TypeId}{k:IntKind}{a b:Int}
theorem Wy:nV P .lss t (.s (.int k a)) (.s (.int k b))=some (.s (.bool (decide (a < b)))):=by
 simp [nV,AV.val?,eqGuard,binOp,Op.intCmp,bZ]
theorem WA:nV P .leq t (.s (.int k a)) (.s (.int k b))=some (.s (.bool (decide (a<=b)))):=by
 simp [nV,AV.val?,eqGuard,binOp,Op.intCmp,bZ]
theorem Pv:nV P .gtr t (.s (.int k a)) (.s (.int k b))=some (.s (.bool (decide (b < a)))):=by
 simp [nV,AV.val?,eqGuard,binOp,Op.intCmp,bZ]
theorem IW:nV P .geq t (.s (.int k a)) (.s (.int k b))=some (.s (.bool (decide (b<=a)))):=by
 simp [nV,AV.val?,eqGuard,binOp,Op.intCmp,bZ]
theorem WB:nV P .eql t (.s (.int k a)) (.s (.int k b))=some (.s (.bool (decide (a=b)))):=by
 simp [nV,AV.val?,eqGuard,binOp,Op.intCmp,bZ];by_cases h:a=b <;> simp [h]
theorem WC:nV P .neq t (.s (.int k a)) (.s (.int k b))=some (.s (.bool (!decide (a=b)))):=by
 simp [nV,AV.val?,eqGuard,binOp,Op.intCmp,bZ];by_cases h:a=b <;> simp [h]
theorem bI:nV P .add t (.s (.int k a)) (.s (.int k b))=some (.s (.int k (k.wrap (a+b)))):=by
 simp [nV,AV.val?,eqGuard,binOp,Op.intArith,bZ]
theorem ku:nV P .sub t (.s (.int k a)) (.s (.int k b))=some (.s (.int k (k.wrap (a - b)))):=by
 simp [nV,AV.val?,eqGuard,binOp,Op.intArith,bZ]
theorem lY:nV P .mul t (.s (.int k a)) (.s (.int k b))=some (.s (.int k (k.wrap (a*b)))):=by
 simp [nV,AV.val?,eqGuard,binOp,Op.intArith,bZ]
theorem xg(h:b≠0):nV P .quo t (.s (.int k a)) (.s (.int k b))=some (.s (.int k (k.wrap (a.tdiv b)))):=by
 simp [nV,AV.val?,eqGuard,binOp,Op.intDiv,bZ,h]
theorem qA(h:b≠0):nV P .rem t (.s (.int k a)) (.s (.int k b))=some (.s (.int k (a.tmod b))):=by
 simp [nV,AV.val?,eqGuard,binOp,Op.intDiv,bZ,h]
theorem ae3 {ts:Array TypeId}:kL P false ts t [.s (.int k a),.s (.int k b)]=some (.s (.int k (min a b))):=by
 simp [kL,vals?,AV.val?,Builtin.min_,Builtin.min2,bZ,Int.min_def];split <;> split <;> first | rfl | omega
theorem Px {ts:Array TypeId}:kL P true ts t [.s (.int k a),.s (.int k b)]=some (.s (.int k (max a b))):=by
 simp [kL,vals?,AV.val?,Builtin.max_,Builtin.max2,bZ,Int.max_def];split <;> split <;> first | rfl | omega
theorem Rk {b:Bool}:unA P .not (.s (.bool b))=some (.s (.bool (!b))):=by
 simp [unA,AV.val?,Op.unary,bZ]
theorem ahw(h1:-9223372036854775808<=a)(h2:a<=9223372036854775807):IntKind.wrap .i64 a=a:=by
 simp only [IntKind.wrap,IntKind.bits,IntKind.signed];simp;omega
end
def ak(x:AV)(o:Nat):Option AV:=
 match x with
 | .ref r g off=> some (.ref r g (off+o))
 | .ip cells=> some (.ip (cells.drop o))
 | _=> none
theorem pK {r g off o:Nat}:ak (.ref r g off) o=some (.ref r g (off+o)):=rfl
theorem xk {cells:List AV}{o:Nat}:ak (.ip cells) o=some (.ip (cells.drop o)):=rfl
theorem Rl {t:TypeId}{v:AV}{H:ah}(h:v.cells.all AV.aU=true)(ht:t < 1000000000):fM t v H=some (.ref H.next 0 0,H.new (.blk 0 t v.cells)):=by
 unfold fM;rw [if_pos ⟨h,ht⟩]
theorem eH {l:List AV}:(AV.agg l).cells=l:=rfl
theorem Lh {k:IntKind}{n:Int}:(AV.s (.int k n)).cells=[.s (.int k n)]:=rfl
theorem Gh {b:Bool}:(AV.s (.bool b)).cells=[.s (.bool b)]:=rfl
theorem gX {k:IntKind}{n:Int}:(AV.s (.int k n)).aU=true:=rfl
theorem jP {b:Bool}:(AV.s (.bool b)).aU=true:=rfl
theorem Gj {r g off:Nat}:(AV.ref r g off).aU=true:=rfl
theorem Gl {a b:Nat}:(AV.s (.slice none a b)).aU=true:=rfl
theorem WE {r:Nat}:(AV.mp r).aU=true:=rfl
section
variable {H:ah}{r r':Nat}{o:fD}
theorem iM:(H.new o).get r=if r=H.next then o else H.get r:=rfl
theorem bQ:(H.put r' o).get r=if r=r' then o else H.get r:=rfl
theorem BQ:(H.new o).next=H.next+1:=rfl
theorem aaH:(H.put r o).base=H.base:=rfl
end
section
variable (P:Program)(C:aA)(ops:List Oper)
def yg:List Oper->List Bool->fC->ah->Option (fC × ah)
 | o::os,true::fs,t,H=> bnd (opA P C t o H) λv H=> yg os fs (tY t o.dst v) H
 | _::os,false::fs,t,H=> yg os fs t H
 | [],[],t,H=> some (t,H)
 | _,_,_,_=> none
def WG:List (Option Bool):=(List.range ops.length).map λi=> if cst ops i=true then none else some (loose ops i && kU (oI ops i))
def DV:List Bool:=(List.range ops.length).map (cst ops)
end
section
variable {P:Program}{C:aA}{ops:List Oper}
theorem Lj:∀(l pre:List Oper) (t:fC) (H:ah),pre++l=ops->
  iy P C ops ((List.range' pre.length l.length).filter (cst ops)) t H=yg P C l ((List.range' pre.length l.length).map (cst ops)) t H
 | [],pre,t,H,_=> rfl
 | o::l,pre,t,H,h=> by
  have ho:ops[pre.length]?=some o:=by rw [<-h];simp
  have ih:=λt H=> Lj l (pre++[o]) t H (by simpa using h);simp only [zaq,zah,zam] at ih;rw [zah,zdh,zaC,zbP];cases hc:cst ops pre.length with
  | false=>
   simp only [zal,if_false,yg];exact ih t H
  | true=>
   simp only [if_true,iy,ho,yg];cases hop:opA P C t o H with
   | none=> rfl
   | some r=> exact ih _ _
def unG(H:ah)(r:Option (AV × ah)):Option (AV × ah):=
 match r with
 | some (v,H')=> some (v,{ H' with base:=H.base })
 | none=> none
theorem Rn {H:ah}{v:AV}:unG H (some (v,H.guard))=some (v,H):=rfl
end
theorem nx1(n:Nat):(n=n+1)=False:=eq_false (by omega)
theorem ny1(n:Nat):(n+1=n)=False:=eq_false (by omega)
theorem nx2(n:Nat):(n=n+1+1)=False:=eq_false (by omega)
theorem ny2(n:Nat):(n+1+1=n)=False:=eq_false (by omega)
theorem nx3(n:Nat):(n=n+1+1+1)=False:=eq_false (by omega)
theorem ny3(n:Nat):(n+1+1+1=n)=False:=eq_false (by omega)
structure Ann where
 live:List (Nat × List Nat)
 draw:List (Nat × List (Option Bool))
 pairs:List (Nat × List (Nat × Nat))
def jU {α:Type}(d:α):List (Nat × α)->Nat->α
 | [],_=> d
 | (k,v)::l,n=> bif Nat.beq k n then v else jU d l n
def jv:Code->Nat
 | .region id _ _=> id+1
 | .seq a b=> match jv a with
  | 0=> jv b
  | n+1=> n+1
 | .cond _ a b=> match jv a with
  | 0=> jv b
  | n+1=> n+1
 | .block _ a=> jv a
 | .loop a=> jv a
 | _=> 0
def bo {α β:Type}(x:Option α)(k:α->Option β):Option β:=
 match x with
 | some v=> k v
 | none=> none
def aI {β:Type}(c:AV)(x y:Option β):Option β:=
 match c with
 | .s (.bool true)=> x
 | .s (.bool false)=> y
 | _=> none
def DW {β:Type}(B:List AV->ah->(List AV->ah->Option β)->Option β):Nat->List AV->ah->Option β
 | 0,_,_=> none
 | n+1,s,H=> B s H (DW B n)
def WH {β:Type}(B:List AV->ah->(List AV->ah->Option β)->Option β):List AV->ah->Option β:=λs H=> aeY λn=> DW B n s H
abbrev Env:=List (Nat × AV)
def J3:Env->Nat->AV
 | [],_=> aO
 | (d,v)::e,i=> bif Nat.beq d i then v else J3 e i
def sD(n:Nat)(e:Env):Operand->AV
 | .tmp i=> bif Nat.blt i n then J3 e i else aO
 | .const v=> .s v
 | .global g=> .s (.pointer (some ⟨g,0,none⟩))
 | .func f=> .fn (.func f) [] []
def acD(e:Env)(dst:Option Tmp)(v:AV):Env:=
 match dst with
 | some d=> (d,v)::e
 | none=> e
def Ll:List AV->Nat->Env
 | [],_=> []
 | a::l,i=> (i,a)::Ll l (i+1)
def wu(M:List Nat)(e:Env):List AV:=match M with
 | []=> []
 | i::M=> J3 e i::wu M e
def emb(s:List AV):List Nat->Nat->Env
 | [],_=> []
 | m::M,j=> (m,s.getD j aO)::emb s M (j+1)
section
variable {β:Type}(P:Program)(C:aA)
def ae4(ev:Operand->AV)(c:Call)(type:TypeId):AM AV:=λH=>
 match c.callee with
 | .value f=> oH P C (ev f) (c.args.toList.map ev) H
 | .builtin b=> iw P b c.argTypes type (c.args.toList.map ev) H
 | .invoke _ _=> none
def opE(ev:Operand->AV)(o:Oper):AM AV:=
 match o.op with
 | .move x=> fE (some (ev x))
 | .assign x=> fE (some (ev x))
 | .pick c a b=> fE (bG (ev c) (ev a) (ev b))
 | .alloc e=> FK P e
 | .box e x=> fM e (ev x)
 | .build ty ps=> fE (gG P ty (ps.toList.map λp=> (p.1,ev p.2)))
 | .buildSlice ty n ps=> dn P ty n (ps.toList.map λp=> (p.1,ev p.2))
 | .load ty x=> OL P ty (ev x)
 | .store ty x v=> Kt P ty (ev x) (ev v)
 | .nilCheck x=> fE (au (ev x))
 | .binOp op ty x y _=> fE (ahg P op ty y (ev x) (ev y))
 | .unOp op _ x=> fE (unA P op (ev x))
 | .convert src dst x=> jH P src dst (ev x)
 | .makeFunc f a c=> fE (some (.fn f (a.toList.map ev) (c.toList.map ev)))
 | .makeMap ty none=> vw P ty
 | .makeSlice ty l c=> oq P ty (ev l) (ev c)
 | .slice ty x lo hi mx=> fE (Kr P ty (ev x) (lo.map ev) (hi.map ev) (mx.map ev))
 | .fieldAddr ty x i=> fE (qJ P ty (ev x) i)
 | .field ty x i=> fE (Ko P ty (ev x) i)
 | .indexAddr ty x i=> zA P ty (ev x) (ev i)
 | .index ty x i=> fE (Kq P ty (ev x) (ev i))
 | .lookup ty x i ok=> OO P ty (ev x) (ev i) ok
 | .mapUpdate ty m k v=> qK P ty (ev m) (ev k) (ev v)
 | .extract x i=> fE (aF (ev x) i)
 | .call c=> ae4 P C ev c o.type
 | _=> λ_=> none
def Gm(ev:Operand->AV):Op->Option Nat
 | .load _ x=> bD (ev x)
 | .lookup _ x _ _=> bD (ev x)
 | .indexAddr _ x _=> bD (ev x)
 | .convert _ _ x=> bD (ev x)
 | .call c=> match c.args.toList with
  | [x]=> bD (ev x)
  | _=> none
 | _=> none
def opK(ev:Operand->AV)(o:Oper)(H:ah)(k:AV->ah->Option β):Option β:=
 match o.op with
 | .move x=> k (ev x) H
 | .assign x=> k (ev x) H
 | .pick c a b=> bo (bG (ev c) (ev a) (ev b)) λv=> k v H
 | .build ty ps=> bo (gG P ty (ps.toList.map λp=> (p.1,ev p.2))) λv=> k v H
 | .nilCheck x=> bo (au (ev x)) λv=> k v H
 | .binOp op ty x y _=> bo (ahg P op ty y (ev x) (ev y)) λv=> k v H
 | .unOp op _ x=> bo (unA P op (ev x)) λv=> k v H
 | .makeFunc f a c=> k (.fn f (a.toList.map (ev)) (c.toList.map (ev))) H
 | .slice ty x lo hi mx=> bo (Kr P ty (ev x) (lo.map (ev)) (hi.map (ev)) (mx.map (ev))) λv=> k v H
 | .fieldAddr ty x i=> bo (qJ P ty (ev x) i) λv=> k v H
 | .field ty x i=> bo (Ko P ty (ev x) i) λv=> k v H
 | .index ty x i=> bo (Kq P ty (ev x) (ev i)) λv=> k v H
 | .extract x i=> bo (aF (ev x) i) λv=> k v H
 | _=> bnd (opE P C ev o H) k
def Lm(n:Nat)(ops:List Oper)(e:Env)(j:Nat):Option AV:=
 match ops[j]? with
 | some p=> match p.dst with
  | some d=> bif Nat.blt d n then some (J3 e d) else none
  | none=> none
 | none=> none
def UD(n:Nat)(ops:List Oper)(lo:Bool)(o:Oper)(t:Env)(H:ah)(k:AV->ah->Option β):Option β:=
 match o.guard with
 | none=> match lo with
  | true=> bnd (unG H (opE P C (sD n t) o H.guard)) k
  | false=> opK P C (sD n t) o H k
 | some (j,want)=> match lo with
  | true=> gdA (Lm n ops t j) want (unG H (opE P C (sD n t) o H.guard)) H k
  | false=> gdA (Lm n ops t j) want (opE P C (sD n t) o H) H k
def ahx(n:Nat)(ops:List Oper):List Oper->Env->ah->(Env->ah->Option β)->Option β
 | [],t,H,k=> k t H
 | o::rest,t,H,k=> UD P C n ops false o t H λv H=> ahx n ops rest (acD t o.dst v) H k
def Gn(n:Nat):List Oper->List (Option Bool)->Env->ah->(Env->ah->Option β)->Option β
 | o::os,none::fs,t,H,k=> bnd (opE P C (sD n t) o H) λv H=> Gn n os fs (acD t o.dst v) H k
 | _::os,some _::fs,t,H,k=> Gn n os fs t H k
 | [],[],t,H,k=> k t H
 | _,_,_,_,_=> none
abbrev Log:=List (Nat × Option Nat × ah × ah)
def BI:Log->Nat->Option (Option Nat × ah × ah)
 | [],_=> none
 | (i,x)::l,n=> bif Nat.beq i n then some x else BI l n
open Classical in
def ck(w:Option Nat)(H H':ah)(k:Option β):Option β:=if∀r,w=some r->H'.get r=H.get r then k else none
open Classical in
def ckR(s s0:Nat)(H H':ah)(k:Option β):Option β:=if∀r,s<=r->r < s0->H'.get r=H.get r then k else none
def ckL(ops:List Oper)(s s0:Nat)(log:Log):List (Nat × Nat)->Option β->Option β
 | [],k=> k
 | (j,e)::ps,k=> match cst ops j with
  | true=> match BI log e with
   | some (_,H,H')=> ckR s s0 H H' (ckL ops s s0 log ps k)
   | none=> none
  | false=> match BI log j,BI log e with
   | some (w,_,_),some (_,H,H')=> ck w H H' (ckL ops s s0 log ps k)
   | _,_=> none
def Fz(n:Nat)(ops:List Oper)(s s0:Nat)(ps:List (Nat × Nat)):List Oper->List (Option Bool)->Nat->Env->ah->Log->(Env->ah->Option β)->Option β
 | o::os,some lo::fs,i,t,H,log,k=> UD P C n ops lo o t H λv H'=> Fz n ops s s0 ps os fs (i+1) (acD t o.dst v) H' ((i,Gm (sD n t) o.op,H,H')::log) k
 | _::os,none::fs,i,t,H,log,k=> Fz n ops s s0 ps os fs (i+1) t H log k
 | [],[],_,t,H,log,k=> ckL ops s s0 log ps (k t H)
 | _,_,_,_,_,_,_=> none
def jV(A:Ann)(n:Nat):Code->Env->ah->(Env->ah->Option β)->(Nat->Env->ah->Option β)->(Env->ah->Option β)->Option β
 | .skip=> λt H kn _ _=> kn t H
 | .region id ops d=> λt H kn _ _=>
  match d with
  | true=> Gn P C n ops.toList (jU [] A.draw id) t H λt H0=> Fz P C n ops.toList H.next H0.next (jU [] A.pairs id) ops.toList (jU [] A.draw id) 0 t H0 [] kn
  | false=> ahx P C n ops.toList ops.toList t H kn
 | .seq a b=> λt H kn kx kr=> jV A n a t H (λt H=> jV A n b t H kn kx kr) kx kr
 | .cond c a b=> λt H kn kx kr=> aI (sD n t c) (jV A n a t H kn kx kr) (jV A n b t H kn kx kr)
 | .block id a=> λt H kn kx kr=> jV A n a t H kn (λi t H=> match Nat.beq i id with
  | true=> kn t H
  | false=> kx i t H) kr
 | .loop a=> λt H _ kx kr=> WH (λs H k=> jV A n a (emb s (jU [] A.live (jv a)) 0) H (λt H=> k (wu (jU [] A.live (jv a)) t) H) kx kr) (wu (jU [] A.live (jv a)) t) H
 | .exit i=> λt H _ kx _=> kx i t H
 | .ret=> λt H _ _ kr=> kr t H
 | _=> λ_ _ _ _ _=> none
def tu(A:Ann)(n:Nat):Code->(Env->ah->Option β)->(Nat->Env->ah->Option β)->(Env->ah->Option β)->List (List AV->ah->Option β)
 | .seq a b=> λkn kx kr=> tu A n a (λt H=> jV P C A n b t H kn kx kr) kx kr++tu A n b kn kx kr
 | .cond _ a b=> λkn kx kr=> tu A n a kn kx kr++tu A n b kn kx kr
 | .block id a=> λkn kx kr=> tu A n a kn (λi t H=> match Nat.beq i id with
  | true=> kn t H
  | false=> kx i t H) kr
 | .loop a=> λ_ kx kr=> WH (λs H k=> jV P C A n a (emb s (jU [] A.live (jv a)) 0) H (λt H=> k (wu (jU [] A.live (jv a)) t) H) kx kr)::
   tu A n a (λt H=> WH (λs H k=> jV P C A n a (emb s (jU [] A.live (jv a)) 0) H (λt H=> k (wu (jU [] A.live (jv a)) t) H) kx kr) (wu (jU [] A.live (jv a)) t) H) kx kr
 | _=> λ_ _ _=> []
def nJ(A:Ann)(n:Nat):Code->(Env->ah->Option β)->(Nat->Env->ah->Option β)->(Env->ah->Option β)->List (List AV->ah->Option β)
 | .seq a b=> λkn kx kr=> nJ A n a (λt H=> jV P C A n b t H kn kx kr) kx kr++nJ A n b kn kx kr
 | .cond _ a b=> λkn kx kr=> nJ A n a kn kx kr++nJ A n b kn kx kr
 | .block id a=> λkn kx kr=> nJ A n a kn (λi t H=> match Nat.beq i id with
  | true=> kn t H
  | false=> kx i t H) kr
 | .loop a=> λ_ kx kr=> (λs H=> jV P C A n a (emb s (jU [] A.live (jv a)) 0) H (λt H=> WH (λs H k=> jV P C A n a (emb s (jU [] A.live (jv a)) 0) H (λt H=> k (wu (jU [] A.live (jv a)) t) H) kx kr) (wu (jU [] A.live (jv a)) t) H) kx kr)::
   nJ A n a (λt H=> WH (λs H k=> jV P C A n a (emb s (jU [] A.live (jv a)) 0) H (λt H=> k (wu (jU [] A.live (jv a)) t) H) kx kr) (wu (jU [] A.live (jv a)) t) H) kx kr
 | _=> λ_ _ _=> []
end
section
variable (P:Program)
def Py(n:Nat)(t:Env)(H:ah):List ResultVar->(List AV->Option (AV × ah))->Option (AV × ah)
 | [],k=> k []
 | .tmp d::rs,k=> Py n t H rs λl=> k (sD n t (.tmp d)::l)
 | .cell a ty::rs,k=> bnd (OL P ty (sD n t (.tmp a)) H) λv _=> Py n t H rs λl=> k (v::l)
def apc(H:ah):List AV->Option (AV × ah)
 | [x]=> some (x,H)
 | xs=> some (.tup xs,H)
def J4(n:Nat)(rs:List ResultVar)(t:Env)(H:ah):Option (AV × ah):=Py P n t H rs (apc H)
end
def wz {β:Type}(F:(List AV->ah->Option β)->Option β):Prop:=
 ∀k r,F k=some r->(∀k',F k'=some r)∨∃s H,k s H=some r/\∀k',k' s H=some r->F k'=some r
section
variable {β:Type}
theorem fU(x:Option β):wz λ_=> x:=λ_ _ h=> .inl λ_=> h
theorem WI(s:List AV)(H:ah):wz λ(k:List AV->ah->Option β)=> k s H:=λ_ _ h=> .inr ⟨s,H,h,λ_ h=> h⟩
theorem Ro {x:Option (AV × ah)}{K:(List AV->ah->Option β)->AV->ah->Option β}(h:∀v H,wz λk=> K k v H):wz λk=> bnd x (K k):=by
 rcases x with _ | ⟨v,H⟩
 ·exact fU none
 ·exact h v H
theorem amy {b:Bool}{x:Option (AV × ah)}{H:ah}{K:(List AV->ah->Option β)->AV->ah->Option β}(h:∀v H,wz λk=> K k v H):wz λk=> gd b x H (K k):=by
 cases b
 ·exact h aO H
 ·exact Ro h
theorem ahy {g:Option AV}{want:Bool}{x:Option (AV × ah)}{H:ah}{K:(List AV->ah->Option β)->AV->ah->Option β}(h:∀v H,wz λk=> K k v H):wz λk=> gdA g want x H (K k):=by
 unfold gdA;cases Gg g want with
 | none=> exact fU none
 | some b=> exact amy h
theorem aaI {c:AV}{x y:(List AV->ah->Option β)->Option β}(hx:wz x)(hy:wz y):wz λk=> aI c (x k) (y k):=by
 unfold aI;split
 ·exact hx
 ·exact hy
 ·exact fU none
variable {P:Program}{C:aA}
theorem acE {t:Operand->AV}{o:Oper}{H:ah}{k:AV->ah->Option β}:opK P C t o H k=bnd (opE P C t o H) k:=by
 obtain⟨dst,op,type,pos,after,guard⟩:=o;have key:∀x:Option AV,bo x (λv=> k v H)=bnd (fE x H) k:=by intro x;cases x <;> rfl
 cases op <;> first | rfl | exact key _
theorem Gp {n:Nat}{ops:List Oper}{lo:Bool}{o:Oper}{t:Env}{H:ah}{K:(List AV->ah->Option β)->AV->ah->Option β}(h:∀v H,wz λk=> K k v H):wz λk=> UD P C n ops lo o t H (K k):=by
 unfold UD;cases o.guard with
 | none=>
  cases lo with
  | false=> simp only [acE];exact Ro h
  | true=> exact Ro h
 | some g=> cases lo <;> exact ahy h
theorem Lp {n:Nat}{ops:List Oper}{K:(List AV->ah->Option β)->Env->ah->Option β}(h:∀t H,wz λk=> K k t H):∀(l:List Oper) (t:Env) (H:ah),wz λk=> ahx P C n ops l t H (K k)
 | [],t,H=> h t H
 | o::l,t,H=> Gp λv H=> Lp h l _ H
theorem xq {n:Nat}{K:(List AV->ah->Option β)->Env->ah->Option β}(h:∀t H,wz λk=> K k t H):∀(l:List Oper) (fs:List (Option Bool)) (t:Env) (H:ah),wz λk=> Gn P C n l fs t H (K k)
 | [],[],t,H=> h t H
 | [],f::fs,t,H=> fU none
 | o::l,[],t,H=> fU none
 | o::l,none::fs,t,H=> Ro λv H=> xq h l fs _ H
 | o::l,some b::fs,t,H=> xq h l fs t H
theorem ae5 {w:Option Nat}{H H':ah}{K:(List AV->ah->Option β)->Option β}(h:wz K):wz λk=> ck w H H' (K k):=by
 unfold ck;split
 ·exact h
 ·exact fU none
theorem aaJ {s s0:Nat}{H H':ah}{K:(List AV->ah->Option β)->Option β}(h:wz K):wz λk=> ckR s s0 H H' (K k):=by
 unfold ckR;split
 ·exact h
 ·exact fU none
theorem IX {ops:List Oper}{s s0:Nat}{log:Log}{K:(List AV->ah->Option β)->Option β}(h:wz K):∀ps,wz λk=> ckL ops s s0 log ps (K k)
 | []=> h
 | (j,e)::ps=> by
  simp only [ckL];cases cst ops j with
  | true=>
   cases BI log e with
   | none=> exact fU none
   | some y=> exact aaJ (IX h ps)
  | false=>
   cases BI log j with
   | none=> exact fU none
   | some x=>
    cases BI log e with
    | none=> exact fU none
    | some y=> exact ae5 (IX h ps)
theorem zL {n:Nat}{ops:List Oper}{s s0:Nat}{ps:List (Nat × Nat)}{K:(List AV->ah->Option β)->Env->ah->Option β}(h:∀t H,wz λk=> K k t H):∀(l:List Oper) (fs:List (Option Bool)) (i:Nat) (t:Env) (H:ah) (log:Log),wz λk=> Fz P C n ops s s0 ps l fs i t H log (K k)
 | [],[],i,t,H,log=> IX (h t H) ps
 | [],f::fs,i,t,H,log=> fU none
 | o::l,[],i,t,H,log=> fU none
 | o::l,none::fs,i,t,H,log=> zL h l fs (i+1) t H log
 | o::l,some lo::fs,i,t,H,log=> by
  exact Gp λv H'=> zL h l fs (i+1) _ H' _
theorem qP {B:List AV->ah->(List AV->ah->Option β)->Option β}(hB:∀s H,wz (B s H)):∀m s H r,DW B m s H=some r->DW B (m+1) s H=some r:=by
 intro m
 induction m with
 | zero=> intro s H r h;cases h
 | succ m ih=>
  intro s H r h;rcases hB s H _ r h with h1 | ⟨s',H',h1,h2⟩
  ·exact h1 _
  ·exact h2 _ (ih _ _ _ h1)
theorem ae6 {B:List AV->ah->(List AV->ah->Option β)->Option β}(hB:∀s H,wz (B s H))(s:List AV)(H:ah):WH B s H=B s H (WH B):=by
 have up:∀r,B s H (WH B)=some r->WH B s H=some r:=by
  intro r h;rcases hB s H _ r h with h1 | ⟨s',H',h1,h2⟩
  ·exact uz (g:=λn=> DW B n s H) (λn r=> qP hB n s H r) (n:=1) (h1 _)
  ·obtain⟨m,hm⟩:=kG h1;exact uz (g:=λn=> DW B n s H) (λn r=> qP hB n s H r) (n:=m+1) (h2 _ hm)
 cases h:WH B s H with
 | none=>
  cases h':B s H (WH B) with
  | none=> rfl
  | some r=> rw [up r h'] at h;cases h
 | some r=>
  obtain⟨m,hm⟩:=kG h;cases m with
  | zero=> cases hm
  | succ m=>
   symm;rcases hB s H _ r hm with h1 | ⟨s',H',h1,h2⟩
   ·exact h1 _
   ·exact h2 _ (uz (g:=λn=> DW B n s' H') (λn r=> qP hB n s' H' r) h1)
theorem Gq {A:Ann}{n:Nat}:∀(c:Code) (t:Env) (H:ah) (kn:(List AV->ah->Option β)->Env->ah->Option β) (kx:(List AV->ah->Option β)->Nat->Env->ah->Option β) (kr:(List AV->ah->Option β)->Env->ah->Option β),
  (∀t H,wz λk=> kn k t H)->(∀i t H,wz λk=> kx k i t H)->(∀t H,wz λk=> kr k t H)->wz λk=> jV P C A n c t H (kn k) (kx k) (kr k):=by
 intro c
 induction c with
 | skip=> intro t H kn kx kr hn hx hr;exact hn t H
 | region id ops d=>
  intro t H kn kx kr hn hx hr;simp only [jV];cases d with
  | false=>
   exact Lp hn _ _ _
  | true=>
   exact xq (λv H=> zL hn _ _ _ _ _ _) _ _ _ _
 | seq a b iha ihb=>
  intro t H kn kx kr hn hx hr;exact iha t H (λk t H=> jV P C A n b t H (kn k) (kx k) (kr k)) kx kr (λt H=> ihb t H kn kx kr hn hx hr) hx hr
 | cond c a b iha ihb=>
  intro t H kn kx kr hn hx hr;exact aaI (iha t H kn kx kr hn hx hr) (ihb t H kn kx kr hn hx hr)
 | block id a ih=>
  intro t H kn kx kr hn hx hr;exact ih t H kn (λk i t H=> match Nat.beq i id with
   | true=> kn k t H
   | false=> kx k i t H) kr hn (λi t H=> by
   cases hb:Nat.beq i id with
   | true=> simp only [hb];exact hn t H
   | false=> simp only [hb];exact hx i t H) hr
 | loop a ih=>
  intro t H kn kx kr hn hx hr;simp only [jV];generalize jU [] A.live (jv a)=M;have it:∀m s H,wz λk=> DW (λs H j=> jV P C A n a (emb s M 0) H (λt H=> j (wu M t) H) (kx k) (kr k)) m s H:=by
   intro m
   induction m with
   | zero=> intro s H;exact fU none
   | succ m ihm=> intro s H;exact ih _ H (λk t H=> DW (λs H j=> jV P C A n a (emb s M 0) H (λt H=> j (wu M t) H) (kx k) (kr k)) m (wu M t) H) kx kr (λt H=> ihm _ H) hx hr
  have hB:∀(k:List AV->ah->Option β) s H,wz ((λs H j=> jV P C A n a (emb s M 0) H (λt H=> j (wu M t) H) (kx k) (kr k)) s H):=λk s H=>
   ih _ H (λj t H=> j (wu M t) H) (λ_=> kx k) (λ_=> kr k) (λt H=> WI _ _) (λi t H=> fU _) (λt H=> fU _)
  intro k r h;obtain⟨m,hm⟩:=kG h;rcases it m _ _ k r hm with h1 | ⟨s',H',h1,h2⟩
  ·exact .inl λk'=> uz (λn r=> qP (hB k') n _ _ r) (h1 k')
  ·exact .inr ⟨s',H',h1,λk' hk=> uz (λn r=> qP (hB k') n _ _ r) (h2 k' hk)⟩
 | exit i=> intro t H kn kx kr hn hx hr;exact hx i t H
 | ret=> intro t H kn kx kr hn hx hr;exact hr t H
 | _=> intro t H kn kx kr hn hx hr;exact fU none
theorem aaK {A:Ann}{n:Nat}:∀(c:Code) (kn:Env->ah->Option β) (kx:Nat->Env->ah->Option β) (kr:Env->ah->Option β),tu P C A n c kn kx kr=nJ P C A n c kn kx kr:=by
 intro c
 induction c with
 | seq a b iha ihb=> intro kn kx kr;simp only [tu,nJ,iha,ihb]
 | cond c a b iha ihb=> intro kn kx kr;simp only [tu,nJ,iha,ihb]
 | block id a ih=> intro kn kx kr;simp only [tu,nJ,ih]
 | loop a ih=>
  intro kn kx kr;simp only [tu,nJ,ih]
  congr 1
  funext s H
  exact ae6 (λs H=> Gq a _ H (λj t H=> j (wu _ t) H) (λ_=> kx) (λ_=> kr) (λt H=> WI _ _) (λi t H=> fU _) (λt H=> fU _)) s H
 | _=> intro kn kx kr;rfl
end
def acF:List Operand->Nat
 | []=> 0
 | .tmp d::xs=> 2 ^ d ||| acF xs
 | _::xs=> acF xs
def aoN(d L:Nat):Nat:=L ^^^ (L &&& 2 ^ d)
def acG(ops:List Oper)(o:Oper):Nat:=
 match o.guard with
 | none=> 0
 | some (j,_)=> match ops[j]? with
  | some p=> match p.dst with
   | some d=> 2 ^ d
   | none=> 0
  | none=> 0
def UE(ops:List Oper)(o:Oper)(L:Nat):Nat:=
 (acF o.op.operands.toList ||| acG ops o) ||| (match o.dst with
  | some d=> aoN d L
  | none=> L)
def Pz(ops:List Oper):List Oper->Nat->Nat
 | [],L=> L
 | o::os,L=> UE ops o (Pz ops os L)
def aaL(ops:List Oper):List Oper->List (Option Bool)->Nat->Nat
 | o::os,none::fs,L=> UE ops o (aaL ops os fs L)
 | _::os,some _::fs,L=> aaL ops os fs L
 | _,_,L=> L
def PD(ops:List Oper):List Oper->List (Option Bool)->Nat->Nat
 | o::os,some _::fs,L=> UE ops o (PD ops os fs L)
 | _::os,none::fs,L=> PD ops os fs L
 | _,_,L=> L
def nX:List Nat->Nat
 | []=> 0
 | i::M=> 2 ^ i ||| nX M
def xu(A:Ann):Code->Nat->(Nat->Nat)->Nat->Nat
 | .skip=> λLn _ _=> Ln
 | .region id ops d=> λLn _ _=> cond d (aaL ops.toList ops.toList (jU [] A.draw id) (PD ops.toList ops.toList (jU [] A.draw id) Ln)) (Pz ops.toList ops.toList Ln)
 | .seq a b=> λLn Lx Lr=> xu A a (xu A b Ln Lx Lr) Lx Lr
 | .cond c a b=> λLn Lx Lr=> acF [c] ||| (xu A a Ln Lx Lr ||| xu A b Ln Lx Lr)
 | .block id a=> λLn Lx Lr=> xu A a Ln (λi=> cond (Nat.beq i id) Ln (Lx i)) Lr
 | .loop a=> λ_ _ _=> nX (jU [] A.live (jv a))
 | .exit i=> λ_ Lx _=> Lx i
 | .ret=> λ_ _ Lr=> Lr
 | _=> λ_ _ _=> 0
def ahz:List (Option Bool)->List (Option Bool)->Bool
 | [],[]=> true
 | none::a,none::b=> ahz a b
 | some x::a,some y::b=> (x==y) && ahz a b
 | _,_=> false
def al5:List (Nat × Nat)->List (Nat × Nat)->Bool
 | [],[]=> true
 | (a,b)::l,(c,d)::m=> Nat.beq a c && (Nat.beq b d && al5 l m)
 | _,_=> false
def Ls(A:Ann)(n:Nat):Code->Nat->(Nat->Nat)->Nat->Bool
 | .region id ops d=> λ_ _ _=> cond d (QN ops.toList && (al5 (kK ops.toList) (jU [] A.pairs id) && ahz (WG ops.toList) (jU [] A.draw id))) true
 | .seq a b=> λLn Lx Lr=> Ls A n a (xu A b Ln Lx Lr) Lx Lr && Ls A n b Ln Lx Lr
 | .cond _ a b=> λLn Lx Lr=> Ls A n a Ln Lx Lr && Ls A n b Ln Lx Lr
 | .block id a=> λLn Lx Lr=> Ls A n a Ln (λi=> cond (Nat.beq i id) Ln (Lx i)) Lr
 | .loop a=> λ_ Lx Lr=> (let M:=nX (jU [] A.live (jv a));let X:=xu A a M Lx Lr;Nat.beq (M ||| X) M && Ls A n a M Lx Lr)
 | _=> λ_ _ _=> true
structure Ag(n L:Nat)(t:fC)(e:Env):Prop where
 len:t.length=n
 get:∀i,i < n->L.testBit i=true->t.getD i aO=J3 e i
theorem Ag.sub {n L L':Nat}{t:fC}{e:Env}(h:Ag n L t e)(hs:∀i,L'.testBit i=true->L.testBit i=true):Ag n L' t e:=⟨h.len,λi hn hi=> h.get i hn (hs i hi)⟩
theorem Ag.left {n L L':Nat}{t:fC}{e:Env}(h:Ag n (L ||| L') t e):Ag n L t e:=h.sub λi hi=> by rw [zcq,hi];rfl
theorem Ag.right {n L L':Nat}{t:fC}{e:Env}(h:Ag n (L ||| L') t e):Ag n L' t e:=h.sub λi hi=> by rw [zcq,hi];simp
theorem Rq {i n:Nat}(h:i < n):Nat.blt i n=true:=by simpa [Nat.blt_eq] using h
theorem Lu {i n:Nat}(h:n<=i):Nat.blt i n=false:=by
 cases hb:Nat.blt i n with
 | false=> rfl
 | true=> rw [Nat.blt_eq] at hb;omega
theorem sF {d:Nat}:(2 ^ d).testBit d=true:=by rw [zcW];simp
theorem Rt:∀(xs:List Operand) (d:Nat),Operand.tmp d∈xs->(acF xs).testBit d=true
 | x::xs,d,h=> by
  rcases zar.1 h with rfl | h
  ·simp only [acF];rw [zcq,sF];rfl
  ·have:=Rt xs d h;cases x with
   | tmp e=> simp only [acF];rw [zcq,this];simp
   | _=> exact this
theorem Ag.tmp {n L:Nat}{t:fC}{e:Env}(h:Ag n L t e){d:Nat}(hd:L.testBit d=true):t.getD d aO=sD n e (.tmp d):=by
 have hl:=h.len;rcases zaW d n with h1 | h1
 ·simp only [sD,Rq h1,cond_true];exact h.get d h1 hd
 ·simp only [sD,Lu h1,cond_false];simp [List.getD,hl,h1]
theorem Ag.eval {n:Nat}{xs:List Operand}{t:fC}{e:Env}(h:Ag n (acF xs) t e){x:Operand}(hx:x∈xs):cZ t x=sD n e x:=by
 cases x with
 | tmp d=> exact h.tmp (Rt xs d hx)
 | _=> rfl
theorem Ag.put {n L:Nat}{t:fC}{e:Env}{o:Oper}{ops:List Oper}(h:Ag n (UE ops o L) t e)(v:AV):Ag n L (tY t o.dst v) (acD e o.dst v):=by
 have h2:=h.right;cases hd:o.dst with
 | none=> rw [hd] at h2;exact h2
 | some d=>
  rw [hd] at h2;have hl:=h.len;refine⟨by simp [tY,h.len],λi hn hi=> ?_⟩;by_cases hid:d=i
  ·subst hid;simp only [tY,acD,J3,Nat.beq_refl,cond_true];rw [Pq (by omega)]
  ·have hb:Nat.beq d i=false:=zdA.2 λh=> hid (zbw h);simp only [tY,acD,J3,hb,cond_false];rw [getD_set_ne hid];refine h2.get i hn ?_;simp only [aoN,Nat.testBit_xor,Nat.testBit_and,zcW,hi,hid];simp
section
variable {β:Type}{P:Program}{C:aA}{n:Nat}
theorem amA {t:fC}{o:Oper}:opA P C t o=opE P C (cZ t) o:=by
 obtain⟨dst,op,type,pos,after,guard⟩:=o;cases op <;> first | rfl | (rename_i x;cases x <;> rfl) | (rename_i x y;cases y <;> rfl)
theorem WJ {ev ev':Operand->AV}{o:Oper}(h:∀x∈o.op.operands.toList,ev x=ev' x):opE P C ev o=opE P C ev' o:=by
 obtain⟨dst,op,type,pos,after,guard⟩:=o;have mp:∀(ps:Array (Nat × Operand)),(∀x∈(ps.toList.map (·.2)),ev x=ev' x)->ps.toList.map (λp=> (p.1,ev p.2))=ps.toList.map λp=> (p.1,ev' p.2):=λps hp=>
  zbk λp hm=> by rw [hp p.2 (zaS.2 ⟨p,hm,rfl⟩)]
 have om:∀(x:Option Operand),(∀y∈x.toArray.toList,ev y=ev' y)->x.map ev=x.map ev':=λx hx=> by
  cases x with
  | none=> rfl
  | some y=> simp only [zai,hx y (by simp)]
 simp only at h;cases op with
 | build ty ps=> simp only [opE,mp ps λx hx=> h x (by simpa [Op.operands] using hx)]
 | buildSlice ty m ps=> simp only [opE,mp ps λx hx=> h x (by simpa [Op.operands] using hx)]
 | makeFunc f a c=>
  simp only [opE];rw [zbk (f:=ev) (g:=ev') (l:=a.toList) λx hx=> h x (by simp [Op.operands];exact .inl (by simpa using hx)),zbk (f:=ev) (g:=ev') (l:=c.toList) λx hx=> h x (by simp [Op.operands];exact .inr (by simpa using hx))]
 | makeMap ty r=> cases r <;> rfl
 | slice ty x lo hi mx=>
  simp only [opE];rw [h x (by simp [Op.operands]),om lo λy hy=> h y (by simp [Op.operands];exact .inr (.inl (by simpa using hy))),om hi λy hy=> h y (by simp [Op.operands];exact .inr (.inr (.inl (by simpa using hy)))),om mx λy hy=> h y (by simp [Op.operands];exact .inr (.inr (.inr (by simpa using hy))))]
 | call c=>
  obtain⟨cal,args,tys⟩:=c;have ha:args.toList.map ev=args.toList.map ev':=zbk λx hx=> h x (by simp [Op.operands,Call.operands];exact .inr (by simpa using hx));cases cal with
  | value f=>
   simp only [opE]
   funext H
   simp only [ae4];rw [ha,h f (by simp [Op.operands,Call.operands])]
  | builtin b=>
   simp only [opE]
   funext H
   simp only [ae4];rw [ha]
  | invoke r m=> rfl
 | _=> first | rfl | (simp only [opE,h _ (show _ from(by simp [Op.operands]))];done) | (simp [Op.operands] at h;simp only [opE,h])
theorem Ag.op {L:Nat}{t:fC}{e:Env}{ops:List Oper}{o:Oper}(h:Ag n (UE ops o L) t e):opA P C t o=opE P C (sD n e) o:=by
 rw [amA];exact WJ λx hx=> h.left.left.eval hx
def Le(x y:Option β):Prop:=∀r,x=some r->y=some r
theorem Le.refl(x:Option β):Le x x:=λ_ h=> h
theorem Le.bnd {α:Type}{x:Option (α × ah)}{k k':α->ah->Option β}(h:∀v H,Le (k v H) (k' v H)):Le (bnd x k) (bnd x k'):=by
 rcases x with _ | ⟨v,H⟩
 ·exact Le.refl _
 ·exact h v H
theorem Ru {L:Nat}{t:fC}{e:Env}{ops:List Oper}{lo:Bool}{o:Oper}(h:Ag n (UE ops o L) t e){H:ah}{k k':AV->ah->Option β}(hk:∀v H,Le (k' v H) (k v H)):Le (UD P C n ops lo o e H k') (bnd (kY P C ops lo o t H) k):=by
 have hop:opA P C t o=opE P C (sD n e) o:=h.op;unfold UD kY;cases hg:o.guard with
 | none=>
  simp only [rH,hg];cases lo with
  | false=> simp only [zal,if_false,acE,hop];exact Le.bnd hk
  | true=>
   simp only [if_true,opG,hop];exact Le.bnd hk
 | some gd=>
  obtain⟨j,want⟩:=gd;rw [Lc hg];have h1:=h.left.right;simp only [acG,hg] at h1;have hgv:∀v,Lm n ops e j=some v->Ri ops t j=some v:=by
   intro v hv;unfold Lm at hv;unfold Ri;cases hp:ops[j]? with
   | none=> rw [hp] at hv;cases hv
   | some p=>
    rw [hp] at hv h1;simp only at hv h1;simp only [za0];cases hd:p.dst with
    | none=> rw [hd] at hv;cases hv
    | some d=>
     rw [hd] at hv h1;simp only at hv h1;simp only [za0];rcases zaW d n with hl | hl
     ·rw [Rq hl] at hv;have:=h1.len;rw [IV (by omega),h1.get d hl sF];exact hv
     ·rw [Lu hl] at hv;cases hv
  simp only;cases hk':Lm n ops e j with
  | none=> intro r hr;cases lo <;> simp [gdA,Gg] at hr
  | some v=>
   rw [hgv v hk'];simp only [gdA];cases Gg (some v) want with
   | none=> intro r hr;cases lo <;> cases hr
   | some b=>
    cases b
    ·cases lo <;> exact hk _ _
    ·cases lo with
     | false=> simp only [gd,if_true,zal,if_false,hop];exact Le.bnd hk
     | true=> simp only [gd,if_true,opG,hop];exact Le.bnd hk
theorem WL {ops:List Oper}{L:Nat}{k:fC->ah->Option β}{k':Env->ah->Option β}(hk:∀t e H,Ag n L t e->Le (k' e H) (k t H)):∀(l:List Oper) (t:fC) (e:Env) (H:ah),Ag n (Pz ops l L) t e->Le (ahx P C n ops l e H k') (bnd (Kv P C ops l t H) k)
 | [],t,e,H,h=> hk t e H h
 | o::l,t,e,H,h=> by
  rw [yc];have:=Ru (P:=P) (C:=C) (lo:=false) h (H:=H) (k:=λv H=> bnd (Kv P C ops l (tY t o.dst v) H) k) (k':=λv H=> ahx P C n ops l (acD e o.dst v) H k') λv H=> WL hk l _ _ H (h.put v);refine λr hr=> ?_;have h2:=this r hr;cases hs:kY P C ops false o t H with
  | none=> rw [hs] at h2;cases h2
  | some q=> rw [hs] at h2;exact h2
theorem DY {ops:List Oper}{L:Nat}{k:fC->ah->Option β}{k':Env->ah->Option β}(hk:∀t e H,Ag n L t e->Le (k' e H) (k t H)):∀(l:List Oper) (fs:List (Option Bool)) (t:fC) (e:Env) (H:ah),Ag n (aaL ops l fs L) t e->Le (Gn P C n l fs e H k') (bnd (yg P C l (fs.map λf=> f.isNone) t H) k)
 | [],[],t,e,H,h=> hk t e H h
 | [],f::fs,t,e,H,h=> λr hr=> by cases hr
 | o::l,[],t,e,H,h=> λr hr=> by cases hr
 | o::l,none::fs,t,e,H,h=> by
  simp only [Gn,zaC,zcZ,yg];rw [Ag.op (P:=P) (C:=C) h];cases opE P C (sD n e) o H with
  | none=> exact Le.refl _
  | some q=> exact DY hk l fs _ _ _ (Ag.put h _)
 | o::l,some b::fs,t,e,H,h=> DY hk l fs _ _ H h
theorem ae7 {t:fC}{ev:Operand->AV}{o:Oper}(h:∀x∈o.op.operands.toList,cZ t x=ev x):kE t o.op=Gm ev o.op:=by
 obtain⟨dst,op,type,pos,after,guard⟩:=o;simp only at h;cases op with
 | call c=>
  obtain⟨cal,args,tys⟩:=c;simp only [kE,Gm];have ha:∀x∈args.toList,cZ t x=ev x:=λx hx=> h x (by simp [Op.operands,Call.operands];exact .inr (by simpa using hx));generalize args.toList=l at ha
  match l with
  | []=> rfl
  | [x]=> simp only [ha x (by simp)]
  | x::y::l=> rfl
 | _=> first | rfl | (simp [Op.operands] at h;simp only [kE,Gm,h])
theorem DZ {ops:List Oper}{s:Nat}{ps:List (Nat × Nat)}{t0:fC}{H0:ah}{L:Nat}{k':Env->ah->Option β}{r:β}:∀(l:List Oper) (i:Nat) (t:fC) (e:Env) (H:ah) (log:Log),i+l.length=ops.length->ops.drop i=l->Dt P C ops i t0 H0=some (t,H)->
  Ag n (PD ops l ((List.range' i l.length).map λi=> if cst ops i=true then none else some (loose ops i && kU (oI ops i))) L) t e->
  (∀j w Ha Hb,BI log j=some (w,Ha,Hb)->∃ta tb,Dt P C ops j t0 H0=some (ta,Ha)/\w=kE ta (oI ops j)/\Dt P C ops (j+1) t0 H0=some (tb,Hb))->
  Fz P C n ops s H0.next ps l ((List.range' i l.length).map λi=> if cst ops i=true then none else some (loose ops i && kU (oI ops i))) i e H log k'=some r->
  ∃t' e' H',eX P C ops (lu ops) t0 H0=some (t',H')/\(∀p∈ps,agree P C ops s t0 H0 p)/\Ag n L t' e'/\k' e' H'=some r
 | [],i,t,e,H,log,hl,hd,hs,hag,ag9,h=> by
  have hi:i=ops.length:=by simpa using hl
  subst hi;refine⟨t,e,H,hs,?_⟩;simp only [zam,List.range'_zero,zbG,Fz] at h;have apd:Ag n L t e:=hag
  clear hs hd hl hag
  induction ps with
  | nil=> exact⟨λp hp=> (by simp at hp),apd,h⟩
  | cons p ps ih=>
   obtain⟨j,e'⟩:=p;simp only [ckL] at h;cases hcj:cst ops j with
   | true=>
    rw [hcj] at h;simp only at h;cases he:BI log e' with
    | none=> rw [he] at h;cases h
    | some y=>
     obtain⟨w',Ha,Hb⟩:=y;rw [he] at h;simp only [ckR] at h;split at h
     ·rename_i hck;obtain⟨i1,i2⟩:=ih h;refine⟨λp hp=> ?_,i2⟩;rcases zar.1 hp with rfl | hp
      ·unfold agree;rw [if_pos hcj];intro te He te' He' q2 q3 r hr1 hr2;obtain⟨ta',tb',s4,s5,s6⟩:=ag9 e' w' Ha Hb he;rw [s4] at q2;rw [s6] at q3;cases q2;cases q3;exact hck r hr1 hr2
      ·exact i1 p hp
     ·cases h
   | false=>
    rw [hcj] at h;simp only at h;cases hj:BI log j with
    | none=> rw [hj] at h;cases h
    | some x=>
    obtain⟨w,Hx,Hy⟩:=x;cases he:BI log e' with
    | none=> rw [hj,he] at h;cases h
    | some y=>
     obtain⟨w',Ha,Hb⟩:=y;rw [hj,he] at h;simp only [ck] at h;split at h
     ·rename_i hck;obtain⟨i1,i2⟩:=ih h;refine⟨λp hp=> ?_,i2⟩;rcases zar.1 hp with rfl | hp
      ·unfold agree;rw [if_neg (by rw [hcj];decide)];intro tj Hj te He te' He' q1 q2 q3 r hr;obtain⟨ta,tb,s1,s2,s3⟩:=ag9 j w Hx Hy hj;obtain⟨ta',tb',s4,s5,s6⟩:=ag9 e' w' Ha Hb he;rw [s1] at q1;rw [s4] at q2;rw [s6] at q3;cases q1;cases q2;cases q3;exact hck r (by rw [s2];exact hr)
      ·exact i1 p hp
     ·cases h
 | o::l,i,t,e,H,log,hl,hd,hs,hag,ag9,h=> by
  have hi:i < ops.length:=by simp at hl;omega
  have ho:ops[i]?=some o:=by
   have:=zaA (xs:=ops) (i:=i) (j:=0);rw [hd] at this
   simpa using this.symm
  have hd':ops.drop (i+1)=l:=by
   rw [<-zbC,hd];rfl
  rw [zah,zdh,zaC] at h hag;cases hc:cst ops i with
  | true=>
   simp only [hc,if_true,Fz] at h;simp only [hc,if_true,PD] at hag;refine DZ l (i+1) t e H log (by simp at hl;omega) hd' ?_ hag ag9 h;rw [uw,hs];simp [hc]
  | false=>
   simp only [hc,zal,if_false,Fz] at h;simp only [hc,zal,if_false,PD] at hag;rw [rX ho] at h;have hw:kE t o.op=Gm (sD n e) o.op:=ae7 λx hx=> Ag.eval (Ag.left (Ag.left hag)) hx;have key:=Ru (P:=P) (C:=C) (lo:=loose ops i && kU o.op) hag (H:=H) (β:=β)
    (k:=λv H'=> Fz P C n ops s H0.next ps l ((List.range' (i+1) l.length).map λi=> if cst ops i=true then none else some (loose ops i && kU (oI ops i))) (i+1) (acD e o.dst v) H' ((i,Gm (sD n e) o.op,H,H')::log) k')
    (λv H=> Le.refl _) r h
   cases hst:kY P C ops (loose ops i && kU o.op) o t H with
   | none=> rw [hst] at key;cases key
   | some q=>
    obtain⟨v,H'⟩:=q;rw [hst] at key;simp only [bnd] at key;have hs':Dt P C ops (i+1) t0 H0=some (tY t o.dst v,H'):=by
     rw [uw,hs];simp [hc,ho,hst,eX]
    refine DZ l (i+1) _ _ H' _ (by simp at hl;omega) hd' hs' (Ag.put hag v) (λj w Ha Hb hj=> ?_) key;simp only [BI] at hj;cases hb:Nat.beq i j with
    | true=>
     have:i=j:=zbw hb;subst this;rw [hb] at hj;simp only [cond_true,zaa,zae] at hj;obtain⟨rfl,rfl,rfl⟩:=hj;exact⟨t,_,hs,by rw [rX ho,hw],hs'⟩
    | false=>
     rw [hb] at hj;exact ag9 j w Ha Hb hj
theorem Rw {i:Nat}:∀{M:List Nat},(nX M).testBit i=true->i∈M
 | [],h=> by simp [nX] at h
 | m::M,h=> by
  simp only [nX,zcq,zcW,zbs,decide_eq_true_eq] at h;rcases h with rfl | h
  ·simp
  ·exact zbH _ (Rw h)
theorem Rx {e:Env}:∀(M pre:List Nat) (i:Nat),i∈M->J3 (emb (wu (pre++M) e) M pre.length) i=J3 e i
 | m::M,pre,i,h=> by
  simp only [emb,J3];cases hb:Nat.beq m i with
  | true=>
   have:m=i:=zbw hb;subst this;simp only [cond_true];have:∀pre:List Nat,(wu (pre++m::M) e).getD pre.length aO=J3 e m:=by
    intro pre
    induction pre with
    | nil=> rfl
    | cons x pre ih=> exact ih
   exact this pre
  | false=>
   simp only [cond_false];have hne:i≠m:=λe=> by subst e;rw [show Nat.beq i i=true from Nat.beq_refl i] at hb;cases hb
   have:=Rx (e:=e) M (pre++[m]) i ((zar.1 h).resolve_left hne)
   simpa using this
theorem Ag.emb {M:List Nat}{t:fC}{e:Env}(h:Ag n (nX M) t e):Ag n (nX M) t (Go.Proofs.YtmdbbfoefdjgoaaGreat.emb (wu M e) M 0):=by
 refine⟨h.len,λi hn hi=> ?_⟩;have:=Rx (e:=e) M [] i (Rw hi);simp only [zaU,zam] at this;rw [this];exact h.get i hn hi
def LC(kn:fC->ah->Option β)(kx:Nat->fC->ah->Option β)(kr:fC->ah->Option β):Res->Option β
 | some (.normal,t,H)=> kn t H
 | some (.exit i,t,H)=> kx i t H
 | some (.ret,t,H)=> kr t H
 | none=> none
variable {kn:fC->ah->Option β}{kx:Nat->fC->ah->Option β}{kr:fC->ah->Option β}
theorem WM {x:Option (fC × ah)}:LC kn kx kr (okN x)=bnd x kn:=by rcases x with _ | ⟨t,H⟩ <;> rfl
theorem Ry {r:Res}{g:Run}:LC kn kx kr (qx r g)=LC (λt H=> LC kn kx kr (g t H)) kx kr r:=by
 rcases r with _ | ⟨e,t,H⟩
 ·rfl
 ·cases e <;> rfl
theorem WO {id:Nat}{r:Res}:LC kn kx kr (AP id r)=LC kn (λi t H=> match Nat.beq i id with
 | true=> kn t H
 | false=> kx i t H) kr r:=by
 rcases r with _ | ⟨e,t,H⟩
 ·rfl
 ·cases e with
  | exit i=>
   simp only [AP,LC];by_cases hi:i=id
   ·subst hi;simp only [if_true,Nat.beq_refl]
   ·have:Nat.beq i id=false:=zdA.2 λh=> hi (zbw h);simp only [hi,if_false,this]
  | normal=> rfl
  | ret=> rfl
theorem aaM {c:AV}{x y:Res}:LC kn kx kr (aaE c x y)=aI c (LC kn kx kr x) (LC kn kx kr y):=by
 unfold aaE aI;split <;> first | rfl | skip
 all_goals (try(split <;> first | rfl | contradiction))
theorem PE:∀{a b:List (Option Bool)},ahz a b=true->a=b
 | [],[],_=> rfl
 | none::a,none::b,h=> by rw [PE (a:=a) (b:=b) h]
 | some x::a,some y::b,h=> by
  simp only [ahz,zaj,beq_iff_eq] at h;rw [h.1,PE h.2]
 | [],_::_,h=> by cases h
 | none::_,[],h=> by cases h
 | some _::_,[],h=> by cases h
 | none::_,some _::_,h=> by cases h
 | some _::_,none::_,h=> by cases h
theorem WQ:∀{a b:List (Nat × Nat)},al5 a b=true->a=b
 | [],[],_=> rfl
 | (a,b)::l,(c,d)::m,h=> by
  simp only [al5,zaj] at h;rw [zbw h.1,zbw h.2.1,WQ h.2.2]
 | [],_::_,h=> by cases h
 | _::_,[],h=> by cases h
open Classical in
theorem D7(A:Ann):∀(c:Code) (Ln:Nat) (Lx:Nat->Nat) (Lr:Nat),Ls A n c Ln Lx Lr=true->∀(kn:fC->ah->Option β) (kn':Env->ah->Option β) (kx:Nat->fC->ah->Option β) (kx':Nat->Env->ah->Option β) (kr:fC->ah->Option β) (kr':Env->ah->Option β),
  (∀t t' H,Ag n Ln t t'->Le (kn' t' H) (kn t H))->(∀i t t' H,Ag n (Lx i) t t'->Le (kx' i t' H) (kx i t H))->(∀t t' H,Ag n Lr t t'->Le (kr' t' H) (kr t H))->
  ∀t t' H,Ag n (xu A c Ln Lx Lr) t t'->Le (jV P C A n c t' H kn' kx' kr') (LC kn kx kr (dZ P C c t H)):=by
 intro c
 induction c with
 | skip=> intro Ln Lx Lr hc kn kn' kx kx' kr kr' hn hx hr t t' H h;exact hn t t' H h
 | region id ops d=>
  intro Ln Lx Lr hc kn kn' kx kx' kr kr' hn hx hr t t' H h;cases d with
  | false=>
   rw [Po,WM];exact WL hn _ t t' H h
  | true=>
   simp only [Ls,cond_true,zaj] at hc;obtain⟨h1,h2,h3⟩:=hc;have h2:=WQ h2;have h3:=PE h3;have hfc:(jU [] A.draw id).map (λf=> f.isNone)=DV ops.toList:=by
    rw [<-h3,WG,DV,zcN]
    apply zbk
    intro i _;simp only [Function.comp];cases cst ops.toList i <;> rfl
   rw [Wx,WM];have e1:iy P C ops.toList (mP ops.toList) t H=yg P C ops.toList (DV ops.toList) t H:=by
    have:=Lj (P:=P) (C:=C) (ops:=ops.toList) ops.toList [] t H rfl
    simpa [mP,DV,zcS] using this
   have hfl:jU [] A.draw id=(List.range' 0 ops.toList.length).map λi=> if cst ops.toList i=true then none else some (loose ops.toList i && kU (oI ops.toList i)):=by
    rw [<-h3,WG,zcS]
   refine λr hr0=> ?_;have hr1:=DY (P:=P) (C:=C) (β:=β) (ops:=ops.toList) (L:=PD ops.toList ops.toList (jU [] A.draw id) Ln)
    (k:=λt0 H0=> if(∀p∈jU [] A.pairs id,agree P C ops.toList H.next t0 H0 p) then bnd (eX P C ops.toList (lu ops.toList) t0 H0) kn else none)
    (k':=λt H0=> Fz P C n ops.toList H.next H0.next (jU [] A.pairs id) ops.toList (jU [] A.draw id) 0 t H0 [] kn') (λt0 e0 H0 ht r hr=> by
     rw [hfl] at hr ht;obtain⟨t1,e1,H1,d1,d2,d3,d4⟩:=DZ (t0:=t0) (H0:=H0) ops.toList 0 t0 e0 H0 [] (by simp) (by simp) (by simp [Dt,eX]) ht (λj w Ha Hb hj=> by cases hj) hr;rw [if_pos d2,d1];exact hn t1 e1 H1 d3 r d4) ops.toList (jU [] A.draw id) t t' H h r hr0
   rw [hfc] at hr1;cases hcl:yg P C ops.toList (DV ops.toList) t H with
   | none=> rw [hcl] at hr1;cases hr1
   | some q=>
    obtain⟨t0,H0⟩:=q;rw [hcl] at hr1;simp only [bnd] at hr1;split at hr1
    ·rename_i d2;have:wU P C ops.toList t H=eX P C ops.toList (lu ops.toList) t0 H0:=by
      unfold wU;rw [if_pos h1,e1,hcl];simp only;rw [<-h2] at d2;split
      ·rfl
      ·rw [if_pos d2]
     rw [this];exact hr1
    ·cases hr1
 | seq a b iha ihb=>
  intro Ln Lx Lr hc kn kn' kx kx' kr kr' hn hx hr t t' H h;simp only [Ls,zaj] at hc;rw [aaF,Ry];exact iha _ Lx Lr hc.1 _ _ kx kx' kr kr' (λt t' H ht=> ihb Ln Lx Lr hc.2 kn kn' kx kx' kr kr' hn hx hr t t' H ht) hx hr t t' H h
 | cond c a b iha ihb=>
  intro Ln Lx Lr hc kn kn' kx kx' kr kr' hn hx hr t t' H h;simp only [Ls,zaj] at hc;have ha:=iha Ln Lx Lr hc.1 kn kn' kx kx' kr kr' hn hx hr t t' H h.right.left;have hb:=ihb Ln Lx Lr hc.2 kn kn' kx kx' kr kr' hn hx hr t t' H h.right.right;rw [Wv,aaM,h.left.eval (x:=c) (zaM.2 rfl)];show Le (aI (sD n t' c) _ _) _;unfold aI;split
  ·exact ha
  ·exact hb
  ·exact Le.refl _
 | block id a ih=>
  intro Ln Lx Lr hc kn kn' kx kx' kr kr' hn hx hr t t' H h;rw [UC,WO];refine ih Ln _ Lr hc kn kn' _ _ kr kr' hn (λi t t' H ht=> ?_) hr t t' H h;cases hb:Nat.beq i id with
  | true=> simp only [hb,cond_true] at ht ⊢;exact hn t t' H ht
  | false=> simp only [hb,cond_false] at ht ⊢;exact hx i t t' H ht
 | loop a ih=>
  intro Ln Lx Lr hc kn kn' kx kx' kr kr' hn hx hr t t' H h;simp only [Ls,zaj] at hc;simp only [xu] at h;simp only [jV];generalize jU [] A.live (jv a)=M at hc h ⊢;obtain⟨hs,hc⟩:=hc;have hs:nX M ||| xu A a (nX M) Lx Lr=nX M:=zbw hs
  have hsub:∀i,(xu A a (nX M) Lx Lr).testBit i=true->(nX M).testBit i=true:=λi hi=> by rw [<-hs,zcq,hi];simp
  let B:List AV->ah->(List AV->ah->Option β)->Option β:=λs H k=> jV P C A n a (emb s M 0) H (λt H=> k (wu M t) H) kx' kr'
  have it:∀m t t' H,Ag n (nX M) t t'->Le (DW B m (wu M t') H) (LC kn kx kr (zG (dZ P C a) m t H)):=by
   intro m
   induction m with
   | zero=> intro t t' H _ r hr;cases hr
   | succ m ihm=>
    intro t t' H ht;show Le (jV P C A n a (emb (wu M t') M 0) H (λt H=> DW B m (wu M t) H) kx' kr') (LC kn kx kr (qx (dZ P C a t H) (zG (dZ P C a) m)));rw [Ry];exact ih (nX M) Lx Lr hc _ _ kx kx' kr kr' (λt t' H hh=> ihm t t' H hh) hx hr _ _ H (ht.emb.sub hsub)
  rw [show dZ P C (.loop a)=Uu (dZ P C a) from rfl];intro r hf;obtain⟨m,hm⟩:=kG hf;have hm:=it m t t' H h r hm;cases hr:zG (dZ P C a) m t H with
  | none=> rw [hr] at hm;cases hm
  | some q=> rw [show Uu (dZ P C a) t H=some q from uz (λn r=> FX n t H r) hr,<-hr];exact hm
 | exit i=> intro Ln Lx Lr hc kn kn' kx kx' kr kr' hn hx hr t t' H h;exact hx i t t' H h
 | ret=> intro Ln Lx Lr hc kn kn' kx kx' kr kr' hn hx hr t t' H h;exact hr t t' H h
 | _=> intro Ln Lx Lr hc kn kn' kx kx' kr kr' hn hx hr t t' H h r hr;cases hr
end
def OG:List ResultVar->Nat
 | []=> 0
 | .tmp d::rs=> 2 ^ d ||| OG rs
 | .cell a _::rs=> 2 ^ a ||| OG rs
theorem IY {P:Program}{n:Nat}{t:fC}{e:Env}{H:ah}:∀(rs:List ResultVar) (k:List AV->Option (AV × ah)),Ag n (OG rs) t e->Py P n e H rs k=(rs.mapM (QZ P t H)).bind k
 | [],k,_=> by simp [Py]
 | .tmp d::rs,k,h=> by
  rw [zbv,Py,IY rs _ h.right,<-h.left.tmp sF];simp only [QZ,zbK,za0,zci];cases rs.mapM (QZ P t H) <;> rfl
 | .cell a ty::rs,k,h=> by
  rw [zbv,Py,<-h.left.tmp sF];simp only [QZ];cases OL P ty (t.getD a aO) H with
  | none=> rfl
  | some r=>
   simp only [bnd,zai,zbK,za0,zci];rw [IY rs _ h.right];cases rs.mapM (QZ P t H) <;> rfl
theorem WR {P:Program}{n:Nat}{t:fC}{e:Env}{H:ah}(rs:List ResultVar)(h:Ag n (OG rs) t e):(iR P rs t H).map (λv=> (v,H))=J4 P n rs e H:=by
 unfold J4 iR;rw [IY rs _ h];cases rs.mapM (QZ P t H) with
 | none=> rfl
 | some l=>
  simp only [za0]
  match l with
  | []=> rfl
  | [x]=> rfl
  | x::y::l=> rfl
def amB(A:Ann)(fn:Func)(c:Code):Bool:=Ls A fn.ntmps c (OG fn.results.toList) (λ_=> 0) (OG fn.results.toList)
theorem IZ(n:Nat):∀(args:List AV) (i j:Nat),j < n->(args++List.replicate (n - args.length) aO).getD j aO=J3 (Ll args i) (i+j)
 | [],i,j,hj=> by
  simp [Ll,J3,List.getD,hj]
 | a::args,i,0,_=> by simp [Ll,J3]
 | a::args,i,j+1,hj=> by
  have hb:Nat.beq i (i+(j+1))=false:=zdA.2 λh=> by have:=zbw h;omega
  simp only [Ll,J3,hb,cond_false];have:=IZ (n - 1) args (i+1) j (by omega);rw [show i+(j+1)=i+1+j by omega,<-this];simp only [zah,zbc,List.getD_cons_succ];rw [show n - (args.length+1)=n - 1 - args.length by omega]
theorem ahA {P:Program}{C:aA}{A:Ann}{f:FuncId}{fn:Func}{c:Code}{args:List AV}{H:ah}(hf:P.funcs[f]?=some fn)(hb:fn.body=some c)(hl:Nat.ble args.length fn.ntmps=true)(hc:amB A fn c=true){r:AV × ah}
  (h:jV P C A fn.ntmps c (Ll args 0) H (J4 P fn.ntmps fn.results.toList) (λ_ _ _=> none) (J4 P fn.ntmps fn.results.toList)=some r):xP P C f args H=some r:=by
 rw [ae1 hf hb];have key:∀r:Res,amx P fn.results.toList r=LC (λt H=> (iR P fn.results.toList t H).map λv=> (v,H)) (λ_ _ _=> none) (λt H=> (iR P fn.results.toList t H).map λv=> (v,H)) r:=by
  intro r;rcases r with _ | ⟨e,t,H⟩
  ·rfl
  ·cases e <;> rfl
 rw [key];have hl:args.length<=fn.ntmps:=Nat.le_of_ble_eq_true hl;have hlen:(args++List.replicate (fn.ntmps - args.length) aO).length=fn.ntmps:=by simp;omega
 have hr:∀t e H,Ag fn.ntmps (OG fn.results.toList) t e->Le (J4 P fn.ntmps fn.results.toList e H) ((iR P fn.results.toList t H).map λv=> (v,H)):=λt e H h=> by
  rw [WR _ h];exact Le.refl _
 exact D7 A c _ _ _ hc _ _ _ _ _ _ hr (λ_ _ _ _ _=> Le.refl _) hr _ _ H ⟨hlen,λi hn _=> by have:=IZ fn.ntmps args 0 i hn;rwa [za5] at this⟩ r h
def rF:Nat->List (Option Bool)->List (Option Bool)
 | 0,l=> l
 | n+1,l=> some false::rF n l
abbrev OA:=Option (AV × ah)
theorem rnK {P:Program}{C:aA}{A:Ann}{f:FuncId}{fn:Func}{c:Code}{args:List AV}{H:ah}{s:OA}(hf:P.funcs[f]?=some fn)(h1:(fn.body,Nat.ble args.length fn.ntmps,amB A fn c)=(some c,true,true))
  (hs:jV P C A fn.ntmps c (Ll args 0) H (J4 P fn.ntmps fn.results.toList) (λ_ _ _=> none) (J4 P fn.ntmps fn.results.toList)=s) {r:AV × ah} (h:s=some r):xP P C f args H=some r:=by
 simp only [zae] at h1;exact ahA hf h1.1 h1.2.1 h1.2.2 (hs.trans h)
theorem rnG {P:Program}{C:aA}(A:Ann){f:FuncId}{fn:Func}{args:List AV}{H:ah}{s:OA}(hf:P.funcs[f]?=some fn)(h1:(fn.body,Nat.ble args.length fn.ntmps,amB A fn (fn.body.getD .skip))=(some (fn.body.getD .skip),true,true))
  (hs:jV P C A fn.ntmps (fn.body.getD .skip) (Ll args 0) H (J4 P fn.ntmps fn.results.toList) (λ_ _ _=> none) (J4 P fn.ntmps fn.results.toList)=s) {r:AV × ah} (h:s=some r):xP P C f args H=some r:=rnK hf h1 hs h
def jL(P:Program)(fn:Func)(n:Nat)(A:Ann)(no:Nat)(C:aA):List AV->ah->OA:=
 (tu P C A n (fn.body.getD .skip) (J4 P n fn.results.toList) (λ_ _ _=> none) (J4 P n fn.results.toList)).getD no λ_ _=> none
theorem lpE {P:Program}{fn:Func}{n:Nat}{A:Ann}{no:Nat}{C:aA}{l:List AV}{H:ah}:jL P fn n A no C l H=((nJ P C A n (fn.body.getD .skip) (J4 P n fn.results.toList) (λ_ _ _=> none) (J4 P n fn.results.toList)).getD no λ_ _=> none) l H:=
 by unfold jL;rw [aaK]
def an0:Ann:=⟨[],[],[]⟩
@[congr] theorem ahB {α β:Type}{x y:Option (α × ah)}{k:α->ah->Option β}(h:x=y):bnd x k=bnd y k:=by rw [h]
@[congr] theorem al6 {α β:Type}{x y:Option α}{k:α->Option β}(h:x=y):bo x k=bo y k:=by rw [h]
@[congr] theorem ae8 {β:Type}{c d:AV}{x y:Option β}(h:c=d):aI c x y=aI d x y:=by rw [h]
@[congr] theorem ahC {β:Type}{g g':Option AV}{want:Bool}{x:Option (AV × ah)}{H:ah}{k:AV->ah->Option β}(h:g=g'):gdA g want x H k=gdA g' want x H k:=by rw [h]
theorem WS {α β:Type}{v:α}{k:α->Option β}:bo (some v) k=k v:=rfl
theorem Gs {β:Type}{x y:Option β}:aI (.s (.bool true)) x y=x:=rfl
theorem D8 {β:Type}{x y:Option β}:aI (.s (.bool false)) x y=y:=rfl
section
def fl(x:AV)(off:Nat):Option AV:=
 match x with
 | .agg cells=> cells[off]?
 | .s (.agg cs)=> (cs.toList.map AV.s)[off]?
 | _=> none
def slS(m:Nat)(x:AV)(lo hi mx:Option AV):Option AV:=
 match x with
  | .s (.slice none 0 0)=> match iO lo 0,iO hi 0,iO mx 0 with
   | some 0,some 0,some 0=> if hi=none->mx=none then some (.s (.slice none 0 0)) else none
   | _,_,_=> none
  | .sl r g off esz len cap ex=> match iO lo 0,iO hi len,iO mx cap with
   | some l,some h,some k=>
    if esz=m/\l<=h/\h<=k/\k<=cap/\(hi=none->mx=none) then some (.sl r g (off+l*esz) esz (h - l) (k - l) (ex || !isNone mx)) else none
   | _,_,_=> none
  | .vs n esz cells=> match iO lo 0,iO hi n,mx with
   | some l,some h,none=> if esz=m/\l<=h/\h<=n then some (.vs (h - l) esz ((cells.drop (l*esz)).take ((h - l)*esz))) else none
   | _,_,_=> none
  | _=> none
def jo(pl:Nat->Option (Nat × Nat))(z:List AV)(parts:List (Nat × AV)):Option AV:=(fJ pl z parts).map .agg
def ldO(x:AV)(ob:Option fD):Option AV:=
 match x with
 | .ref _ g off=> match ob with
  | some (.blk g' _ cells)=> if g'=g then cells[off]? else none
  | _=> none
 | .ip cells=> cells[0]?
 | _=> none
def ld(x:AV):AM AV:=jT (ldO x) x
def al7(n:Nat)(x:AV)(ob:Option fD):Option AV:=
 match x with
 | .ref _ g off=> match ob with
  | some (.blk g' _ cells)=> if g'=g then(if off+n<=cells.length then some (.agg ((cells.drop off).take n)) else none) else none
  | _=> none
 | .ip cells=> if 0+n<=cells.length then some (.agg ((cells.drop 0).take n)) else none
 | _=> none
def lda(n:Nat)(x:AV):AM AV:=jT (al7 n x) x
def st(n:Nat)(x v:AV):AM AV:=λH=>
 match x with
 | .ref r g off=> match H.get r with
  | .blk g' ty cells=>
   if g'=g/\H.base<=r/\some n=some v.cells.length/\v.cells.all AV.aU=true/\off+v.cells.length<=cells.length then
    some (aO,H.put r (.blk g ty (aG cells off v.cells)))
   else none
  | .map ..=> none
 | _=> none
def alc(t:TypeId)(z:List AV):AM AV:=λH=> some (.ref H.next 0 0,H.new (.blk 0 t z))
def bsl(e:TypeId)(m:Nat)(z:List AV)(len:Nat)(parts:List (Nat × AV)):AM AV:=λH=>
 match fJ (λi=> some (i*m,m)) (dI z len) parts with
 | some cells=> if cells.all AV.aU=true then some (.sl H.next 0 0 m len len true,H.new (.blk 0 e cells)) else none
 | none=> none
def mks(e:TypeId)(m by_:Nat)(z:List AV)(len cap:AV):AM AV:=λH=>
 match len,cap with
 | .s (.int _ l),.s (.int _ c)=>
   if z.length=m/\z.all AV.aU=true/\0<=l/\l<=c/\c<=140737488355328/\by_*c<=140737488355328 then
    some (.sl H.next 0 0 m l.toNat c.toNat true,H.new (.blk 0 e (dI z c.toNat)))
   else none
 | _,_=> none
def mkm(k:IntKind):AM AV:=λH=> some (.mp H.next,H.new (.map k []))
def lkO(k:IntKind)(z:Value)(x i:AV)(ok:Bool)(ob:Option fD):Option AV:=
 match x with
   | .mp _=> match i with
    | .s (.int k' n)=> match ob with
     | some (.map k'' es)=>
      if k'=k/\k''=k then
       match oD es n with
       | some v=> some (if ok then .tup [v,.s (.bool true)] else v)
       | none=> some (if ok then .tup [.s z,.s (.bool false)] else .s z)
      else none
     | _=> none
    | _=> none
   | _=> none
def lk(k:IntKind)(z:Value)(x i:AV)(ok:Bool):AM AV:=jT (lkO k z x i ok) x
def mup(k:IntKind)(x i v:AV):AM AV:=λH=>
 match x,i with
 | .mp r,.s (.int k' n)=> match H.get r with
  | .map k'' es=> if k'=k/\k''=k/\H.base<=r then some (aO,H.put r (.map k (Io es n v))) else none
  | _=> none
 | _,_=> none
def del(k:IntKind)(x i:AV):AM AV:=λH=>
 match x,i with
 | .mp r,.s (.int k' n)=> match H.get r with
  | .map k'' es=> if k'=k/\k''=k/\H.base<=r then some (.tup [],H.put r (.map k (xU es n))) else none
  | _=> none
 | _,_=> none
def ixO(m:Nat)(x i:AV)(ob:Option fD):Option AV:=
 match x with
  | .sl r g off esz len _ _=> match i with
   | .s (.int _ n)=> if some m=some esz/\al1 ob=g/\0<=n/\n < len then some (.ref r g (off+n.toNat*esz)) else none
   | _=> none
  | .vs len esz cells=> match i with
   | .s (.int _ n)=> if some m=some esz/\0<=n/\n < len then some (.ip (cells.drop (n.toNat*esz))) else none
   | _=> none
  | _=> none
def ix(m:Nat)(x i:AV):AM AV:=jT (ixO m x i) x
def amC(x:AV):Option AV:=
 match x with
  | .sl _ _ _ _ len _ _=> some (.s (.int .i64 len))
  | .vs n _ _=> some (.s (.int .i64 n))
  | .s (.slice _ n _)=> some (.s (.int .i64 n))
  | _=> none
def lnS(x:AV):AM AV:=jT (λ_=> amC x) x
def amD(x:AV)(ob:Option fD):Option AV:=
 match x with
  | .mp _=> match ob with
   | some (.map _ es)=> some (.s (.int .i64 es.length))
   | _=> none
  | .s (.map none)=> some (.s (.int .i64 0))
  | _=> none
def lnM(x:AV):AM AV:=jT (amD x) x
def app(e:TypeId)(m by_:Nat)(x y:AV):AM AV:=λH=>
 match jG y,bM H y with
 | some n,some new=> dJ e m by_ x n new H
 | _,_=> none
def cpy(m:Nat)(x y:AV):AM AV:=λH=>
 match jG x,jG y,bM H y with
  | some d,some n,some new=>
   let k:=min n d
   if new.length=n*m/\new.all AV.aU=true then
    if k=0 then(match x with | .s (.string _)=> none | _=> some (.s (.int .i64 0),H)) else
    match x with
    | .sl r g off esz len _ _=> match H.get r with
     | .blk g' ty cells=>
      if esz=m/\g'=g/\H.base<=r/\off+len*m<=cells.length then
       some (.s (.int .i64 k),H.put r (.blk g ty (aG cells off (new.take (k*m)))))
      else none
     | .map ..=> none
    | _=> none
   else none
  | _,_,_=> none
def clr(m:Nat)(z:List AV)(x:AV):AM AV:=λH=>
 match x with
  | .sl r g off esz len _ _=>
   if len=0 then some (.tup [],H) else
   match H.get r with
   | .blk g' ty cells=>
    if esz=m/\g'=g/\H.base<=r/\z.length=m/\z.all AV.aU=true/\off+len*m<=cells.length then
     some (.tup [],H.put r (.blk g ty (aG cells off (dI z len))))
    else none
   | .map ..=> none
  | .s (.slice none _ _)=> some (.tup [],H)
  | _=> none
end
theorem tC {P:Program}{t e:TypeId}{m n:Nat}{z:List AV}{ps:List (Nat × AV)}{H:ah}(he:Fp P t=some e)(hm:szT P e=some m)(hz:wo P e=some z)(hl:z.length=m)(h:n*m<=16777216):dn P t n ps H=bsl e m z n ps H:=by
 simp only [dn,he,hm,hz];rw [if_pos ⟨hl,h⟩];rfl
theorem jw {P:Program}{t:TypeId}{fs:Array Field}{pl:Nat->Option (Nat × Nat)}{z:List AV}{ps:List (Nat × AV)}(hz:wo P t=some z)(hu:P.underlying t=some (.struct fs))(ha:fs.all (λf=> (szT P f.type).isSome)=true)(hp:J8 P fs=pl):gG P t ps=jo pl z ps:=by
 simp only [gG,hz,hu,ha,if_true,hp];rfl
theorem AU {P:Program}{s d:TypeId}{k1 k2 k:IntKind}{n:Int}{H:ah}(hb:Dp P s d=false)(hs:P.underlying s=some (.int k1))(hd:P.underlying d=some (.int k2)):jH P s d (.s (.int k n)) H=some (.s (.int k2 (IntKind.wrap k2 n)),H):=by
 have h:iE P (convert s d (.int k n))=some (.int k2 (IntKind.wrap k2 n)):=by
  have e1:∀{α:Type} (t:TypeId) (d:TypeDesc) (f:TypeDesc->Sem α),P.underlying t=some d->iE P (underlying t >>=f)=iE P (f d):=by
   intro α t d f h;show iE P ((match P.underlying t with
    | some d=> pure d
    | none=> stuck "no such type") >>=f)=_
   rw [h];rfl
  unfold convert;rw [e1 s _ _ hs,e1 d _ _ hd];rfl
 simp only [jH,jT,bD,zcX,xW,hb,zal,if_false,AV.val?,h,zai]
abbrev zI:AV:=.s (.int .i64 0)
abbrev zB:AV:=.s (.bool false)
abbrev zN:AV:=.s (.slice none 0 0)
abbrev zP:AV:=.s (.pointer none)
abbrev zM:AV:=.s (.map none)
abbrev I(n:Int):AV:=.s (.int .i64 n)
abbrev B(b:Bool):AV:=.s (.bool b)
def fld {β:Type}(a:AV)(i:Nat)(H:ah)(k:AV->ah->Option β):Option β:=bo (ak a i) λp=> bnd (ld p H) k
@[congr] theorem ahD {β:Type}{a a':AV}{i:Nat}{H:ah}{k:AV->ah->Option β}(h:a=a'):fld a i H k=fld a' i H k:=by rw [h]
theorem acH {β:Type}{a:AV}{i:Nat}{H:ah}{k:AV->ah->Option β}:fld a i H k=bo (ak a i) λp=> bnd (ld p H) k:=rfl
def gl {β:Type}(g:AV)(want:Bool)(e:Option AV)(H:ah)(k:AV->ah->Option β):Option β:=gdA (some g) want (fE e H) H k
@[congr] theorem al8 {β:Type}{g g':AV}{want:Bool}{e:Option AV}{H:ah}{k:AV->ah->Option β}(h:g=g'):gl g want e H k=gl g' want e H k:=by rw [h]
theorem ahE {β:Type}{g:AV}{want:Bool}{e:Option AV}{H:ah}{k:AV->ah->Option β}:gl g want e H k=gdA (some g) want (fE e H) H k:=rfl
end
end Go.Proofs.YtmdbbfoefdjgoaaGreat
