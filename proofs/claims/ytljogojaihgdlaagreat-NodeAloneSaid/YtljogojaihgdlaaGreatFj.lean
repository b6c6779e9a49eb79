/-
  Own work: an interpreter over named blocks, its soundness, and what the functions of this seat compute (part 10 of 11).
  Conditions: those of the statement alone.
-/
import Derived.Test.YtljogojaihgdlaaGreatFi
set_option linter.all false
set_option linter.unusedSectionVars false
set_option linter.unusedVariables false
set_option linter.unusedSimpArgs false
namespace Go.Proofs.YtljogojaihgdlaaGreat
noncomputable section
def cZ.Fb(m:cZ)(L:Int):uf:=λj=> (m.bD j).bind λn=> n.aG.find L
def cZ.lQ(m:cZ)(L:Int):Home:=match m.bD (m.c.bg L) with
 | some n=> n.home
 | none=> ⟨[],⟨[],[]⟩⟩
def cZ.lC(m:cZ)(j:Int):bP:=match m.bD j with
 | some n=> n.aI
 | none=> .zero
def cZ.abs(m:cZ)(msg:Int->Out)(val:Int->List Int):Abs:=
 ⟨m.Fb,λL=> jd (m.lQ L).dD L,λL=> (m.lQ L).aP.owner L,λL=> (m.lQ L).aP.ws L,m.lC,msg,val⟩
structure GInv(m:cZ)(msg:Int->Out)(val:Int->List Int):Prop where
 abs:nX m.c (m.abs msg val)
 pk:pJ m.fab msg
def cZ.with_(m:cZ)(i:Nat)(n:Node)(f:Fab)(t:List Evn):cZ:={ m with aH:=m.aH.set i n,fab:=f,trace:=t }
section
variable {m:cZ}{i:Nat}{n n':Node}{f:Fab}{t:List Evn}{msg msg':Int->Out}{val val':Int->List Int}
theorem rV(h:m.aH[i]?=some n):m.bD i=some n:=by
 unfold cZ.bD;rw [if_pos (by omega),zar];exact h
theorem xk(h:m.aH[i]?=some n)(j:Int):(m.with_ i n' f t).bD j=if j=i then some n' else m.bD j:=by
 have hlt:=(zai.1 h).1;unfold cZ.bD cZ.with_;simp only;by_cases hj:j=i
 ·rw [if_pos hj,hj,if_pos (by omega),zar,za7 hlt]
 ·rw [if_neg hj];by_cases h0:0<=j
  ·rw [if_pos h0,if_pos h0,zbe (by omega)]
  ·rw [if_neg h0,if_neg h0]
theorem IC(h:m.aH[i]?=some n)(L:Int):(m.with_ i n' f t).Fb L=nV (m.Fb L) i (n'.aG.find L):=by
 funext j
 unfold cZ.Fb;rw [xk h];by_cases hj:j=i
 ·rw [if_pos hj,hj,fP];rfl
 ·rw [if_neg hj,fC hj]
theorem Dj(h:m.aH[i]?=some n):(m.with_ i n' f t).lC=dH m.lC i n'.aI:=by
 funext j
 unfold cZ.lC;rw [xk h];by_cases hj:j=i
 ·rw [if_pos hj,hj,aJ]
 ·rw [if_neg hj,aS hj]
theorem xX(h:m.aH[i]?=some n)(L:Int):(m.with_ i n' f t).lQ L=if m.c.bg L=i then n'.home else m.lQ L:=by
 unfold cZ.lQ;have hc:(m.with_ i n' f t).c=m.c:=rfl;rw [xk h,hc];by_cases hj:m.c.bg L=i
 ·rw [if_pos hj,if_pos hj]
 ·rw [if_neg hj,if_neg hj]
theorem lZ(h:m.aH[i]?=some n){L:Int}(hL:m.c.bg L=i):m.lQ L=n.home:=by
 unfold cZ.lQ;rw [hL,rV h]
theorem sJ(h:m.aH[i]?=some n)(L:Int):m.Fb L i=n.aG.find L:=by
 unfold cZ.Fb;rw [rV h];rfl
theorem jZ(h:m.aH[i]?=some n):m.lC i=n.aI:=by
 unfold cZ.lC;rw [rV h]
theorem qP(h:m.aH[i]?=some n)(hh:n'.home=n.home){L:Int}(hc:∀L',L'≠L->n'.aG.find L'=n.aG.find L'):
  (m.with_ i n' f t).abs msg' val'={ m.abs msg val with ent:=dH m.Fb L (nV (m.Fb L) i (n'.aG.find L)),aI:=dH m.lC i n'.aI,msg:=msg',val:=val' }:=by
 have hH:∀L,(m.with_ i n' f t).lQ L=m.lQ L:=λL=> by
  rw [xX h];by_cases hL:m.c.bg L=i
  ·rw [if_pos hL,hh,lZ h hL]
  ·rw [if_neg hL]
 have hE:(m.with_ i n' f t).Fb=dH m.Fb L (nV (m.Fb L) i (n'.aG.find L)):=by
  funext L'
  rw [IC h];by_cases hL:L'=L
  ·rw [hL,aJ]
  ·rw [aS hL,hc L' hL,<-sJ h L',lN]
 unfold cZ.abs;simp only [hH,hE,Dj h]
theorem Fe(h:m.aH[i]?=some n)(hc:∀L,n'.aG.find L=n.aG.find L)(hd:n'.aI=n.aI){L:Int}(hL:m.c.bg L=i)(hr:∀L',L'≠L->jd n'.home.dD L'=jd n.home.dD L')(ho:∀L',L'≠L->n'.home.aP.owner L'=n.home.aP.owner L')(hw:∀L',L'≠L->n'.home.aP.ws L'=n.home.aP.ws L'):
  (m.with_ i n' f t).abs msg' val={ m.abs msg val with row:=dH (m.abs msg val).row L (jd n'.home.dD L),own:=dH (m.abs msg val).own L (n'.home.aP.owner L),ws:=dH (m.abs msg val).ws L (n'.home.aP.ws L),msg:=msg' }:=by
 have hE:(m.with_ i n' f t).Fb=m.Fb:=by
  funext L'
  rw [IC h,hc,<-sJ h L',lN]
 have hD:(m.with_ i n' f t).lC=m.lC:=by
  rw [Dj h,hd,<-jZ h]
  funext j
  by_cases hj:j=i
  ·rw [hj,aJ]
  ·rw [aS hj]
 have h1:(λL'=> jd ((m.with_ i n' f t).lQ L').dD L')=dH (λL=> jd (m.lQ L).dD L) L (jd n'.home.dD L):=by
  funext L'
  rw [xX h];by_cases e:L'=L
  ·rw [e,if_pos hL,aJ]
  ·rw [aS e];by_cases e':m.c.bg L'=i
   ·rw [if_pos e',hr L' e,lZ h e']
   ·rw [if_neg e']
 have h2:(λL'=> ((m.with_ i n' f t).lQ L').aP.owner L')=dH (λL=> (m.lQ L).aP.owner L) L (n'.home.aP.owner L):=by
  funext L'
  rw [xX h];by_cases e:L'=L
  ·rw [e,if_pos hL,aJ]
  ·rw [aS e];by_cases e':m.c.bg L'=i
   ·rw [if_pos e',ho L' e,lZ h e']
   ·rw [if_neg e']
 have h3:(λL'=> ((m.with_ i n' f t).lQ L').aP.ws L')=dH (λL=> (m.lQ L).aP.ws L) L (n'.home.aP.ws L):=by
  funext L'
  rw [xX h];by_cases e:L'=L
  ·rw [e,if_pos hL,aJ]
  ·rw [aS e];by_cases e':m.c.bg L'=i
   ·rw [if_pos e',hw L' e,lZ h e']
   ·rw [if_neg e']
 unfold cZ.abs;simp only [hE,hD,h1,h2,h3]
end
theorem aby {c:Cfg}(hc:c.ok=true){i:Int}(hi:0<=i/\i < c.aH){k L id:Int}(hL:0<=L/\L < c.aY)(hid:0<=id/\id < 4096):((bP.begin k L id).ask i (c.bg L)).ok=true/\pV ((bP.begin k L id).ask i (c.bg L)).aO=true/\((bP.begin k L id).ask i (c.bg L)).src=i/\0<=((bP.begin k L id).ask i (c.bg L)).dst/\((bP.begin k L id).ask i (c.bg L)).dst < c.aH:=by
 obtain⟨h1,h2,_⟩:=lI hc;have hh:0<=c.bg L/\c.bg L < c.aH:=by
  unfold Cfg.bg yB;rw [if_neg (by omega)];exact⟨zbI _ (by omega),zbV _ (by omega)⟩
 have e:(bP.begin k L id).ask i (c.bg L)=⟨1,i,c.bg L,id,L,0,0,false,[]⟩:=rfl;rw [e];refine⟨?_,rfl,rfl,hh.1,hh.2⟩;simp only [Pkt.ok,zaf,decide_eq_true_eq,zam];omega
theorem Dk {c:Cfg}(hc:c.ok=true){L:Int}(hL:0<=L):0<=c.bg L/\c.bg L < c.aH:=by
 obtain⟨h1,_⟩:=lI hc;unfold Cfg.bg yB;rw [if_neg (by omega)];exact⟨zbI _ (by omega),zbV _ (by omega)⟩
theorem aiH {c:Cfg}(hc:c.ok=true){i:Int}(hi:0<=i/\i < c.aH){E:uf}{r:Row}{v:List Int}{d:bP}(H:Hold c.aH (c.bg d.aj) E r v i d (.req (d.ask i (c.bg d.aj))))(hL:0<=d.aj/\d.aj < c.aY)(hid:0<=d.id/\d.id < 4096)(hd:d.data.length<=4):
  (d.ask i (c.bg d.aj)).ok=true/\pV (d.ask i (c.bg d.aj)).aO=true/\(d.ask i (c.bg d.aj)).src=i/\0<=(d.ask i (c.bg d.aj)).dst/\(d.ask i (c.bg d.aj)).dst < c.aH:=by
 obtain⟨h1,h2,_⟩:=lI hc;have hh:=Dk hc hL.1;have last:∀{l:List Int},Rng c.aH l->l≠[]->0<=nM l (-1)/\nM l (-1) < c.aH:=λR hl=> R.2 _ (Iq hl);have apY:∀{l:List Int},Rng c.aH l->-1<=nM l (-1)/\nM l (-1) < c.aH:=λ{l} R=> by
  by_cases hl:l=[]
  ·rw [hl];exact⟨zbr _,by show(-1:Int) < c.aH;omega⟩
  ·have:=last R hl;omega
 have hd_:∀{l:List Int},Rng c.aH l->l≠[]->0<=hdI l (-1)/\hdI l (-1) < c.aH:=λR hl=> R.2 _ (R.hd hl).1;have hdo:∀{l:List Int},Rng c.aH l->-1<=hdI l (-1)/\hdI l (-1) < c.aH:=λ{l} R=> by
  by_cases hl:l=[]
  ·rw [hl];exact⟨zbr _,by show(-1:Int) < c.aH;omega⟩
  ·have:=hd_ R hl;omega
 have hq:∃q,Out.req (d.ask i (c.bg d.aj))=q/\Hold c.aH (c.bg d.aj) E r v i d q:=⟨_,rfl,H⟩
 obtain⟨q,hq,H⟩:=hq;cases H with
 | attach k1 k2 k3 k4 W=>
  have:=hd_ W.rng k3;have e:d.ask i (c.bg d.aj)=⟨3,i,d.head,d.id,d.aj,i,0,false,[]⟩:=by unfold bP.ask;simp [k1]
  rw [e];refine⟨?_,rfl,rfl,by show 0<=d.head;omega,by show d.head < c.aH;omega⟩;simp only [Pkt.ok,zaf,decide_eq_true_eq,zam];omega
 | IQ k1 k2 L k3 k4=>
  have:=L.rng.2 d.next (by simp)
  have e:d.ask i (c.bg d.aj)=⟨6,i,d.next,d.id,d.aj,0,0,false,[]⟩:=by unfold bP.ask;simp [k1]
  rw [e];refine⟨?_,rfl,rfl,by show 0<=d.next;omega,by show d.next < c.aH;omega⟩;simp only [Pkt.ok,zaf,decide_eq_true_eq,zam];omega
 | front k1 k2 M k3 C k4 k5 k6=>
  obtain⟨_,_,_,p1,p2,_⟩:=M.rng.mid;have:=last p1 k3;have:=hdo p2;have e:d.ask i (c.bg d.aj)=⟨4,i,d.head,d.id,d.aj,d.next,0,false,[]⟩:=by unfold bP.ask;simp [k1]
  rw [e];refine⟨?_,rfl,rfl,by show 0<=d.head;omega,by show d.head < c.aH;omega⟩;simp only [Pkt.ok,zaf,decide_eq_true_eq,zam];omega
 | behind k1 k2 M k3 C C' k4 k5 k6=>
  obtain⟨_,_,_,p1,p2,_⟩:=M.rng.mid;have:=apY p1;have:=hd_ p2 k3;have e:d.ask i (c.bg d.aj)=⟨5,i,d.next,d.id,d.aj,d.head,0,false,[]⟩:=by unfold bP.ask;simp [k1]
  rw [e];refine⟨?_,rfl,rfl,by show 0<=d.next;omega,by show d.next < c.aH;omega⟩;simp only [Pkt.ok,zaf,decide_eq_true_eq,zam];omega
 | unlock k1 W=>
  have:=hdo W.rng;have h3:d.head=_:=W.head;have h4:d.aU=0∨d.aU=1∨d.aU=2:=W.st;have e:d.ask i (c.bg d.aj)=⟨2,i,c.bg d.aj,d.id,d.aj,d.head,d.aU,decide (d.data≠[]),d.data⟩:=by unfold bP.ask;simp [k1]
  rw [e];refine⟨?_,rfl,rfl,hh.1,hh.2⟩;simp only [Pkt.ok,zaf,decide_eq_true_eq];omega
 | granted _ _=> cases hq
 | attached _ _ _ _ _ _ _ _ _ _=> cases hq
 | Ir _ _ _ _ _=> cases hq
 | zh _ _ _ _ _ _ _ _ _=> cases hq
 | vw _ _ _ _ _ _ _ _ _=> cases hq
def kD(c:Cfg)(o:Opn)(val:Int->List Int):(Int->List Int) × Int:=
 let L:=c.bU o.addr;let w:=(c.dh o.addr).toNat
 if o.aO=1 then(val,(val L).getD w 0)
 else if o.aO=2 then(dH val L ((val L).set w o.value),0)
 else if o.aO=3 then(dH val L ((val L).set w (w64 ((val L).getD w 0+o.value))),(val L).getD w 0)
 else(val,0)
inductive zo (c:Cfg) (P:Int->Nat->Option Opn):List Evn->(Int->List Int)->List Evn->(Int->List Int)->Prop
 | same {t:List Evn} {v:Int->List Int}:zo c P t v t v
 | dU {t t':List Evn} {v v':Int->List Int} (i:Int) (k:Nat):zo c P t v t' v'->zo c P t v (t'++[⟨i,k,false,0⟩]) v'
 | done {t t':List Evn} {v v':Int->List Int} (i:Int) (k:Nat) (o:Opn):P i k=some o->zo c P t v t' v'->zo c P t v (t'++[⟨i,k,true,(kD c o v').2⟩]) (kD c o v').1
def cZ.opAt(m:cZ)(i:Int)(k:Nat):Option Opn:=match m.bD i with
 | some n=> n.bG.ops[k]?
 | none=> none
theorem abz {c:Cfg}{o:Opn}{e:Ent}{val:Int->List Int}(hk:o.aO=1∨((o.aO=2∨o.aO=3)/\e.bZ=true))(hv:e.data=val (c.bU o.addr))(hw:0<=c.dh o.addr/\c.dh o.addr < e.data.length):
  (eP e o (c.dh o.addr)).data=(kD c o val).1 (c.bU o.addr)/\(∀L,L≠c.bU o.addr->(kD c o val).1 L=val L)/\(if o.aO=2 then 0 else e.word (c.dh o.addr))=(kD c o val).2/\
  (eP e o (c.dh o.addr)).back=e.back/\(eP e o (c.dh o.addr)).fwd=e.fwd/\(eP e o (c.dh o.addr)).bZ=e.bZ/\(o.aO=1->eP e o (c.dh o.addr)=e):=by
 have hword:e.word (c.dh o.addr)=(val (c.bU o.addr)).getD (c.dh o.addr).toNat 0:=by
  unfold Ent.word;rw [if_pos hw,hv]
 unfold eP kD;rcases hk with hk | ⟨hk | hk,hd⟩
 ·rw [if_neg (by omega),if_neg (by omega),if_pos hk,if_neg (by omega)];exact⟨hv,λ_ _=> rfl,hword,rfl,rfl,rfl,λ_=> rfl⟩
 ·have hwr:∀x,e.write (c.dh o.addr) x={ e with data:=e.data.set (c.dh o.addr).toNat x }:=λx=> by
   unfold Ent.write;rw [if_pos ⟨hd,hw⟩]
  rw [if_pos hk,if_neg (by omega),if_pos hk,if_pos hk,hwr];exact⟨by simp only [aJ,hv],λL hL=> aS hL,rfl,rfl,rfl,rfl,λh=> by omega⟩
 ·have hwr:∀x,e.write (c.dh o.addr) x={ e with data:=e.data.set (c.dh o.addr).toNat x }:=λx=> by
   unfold Ent.write;rw [if_pos ⟨hd,hw⟩]
  rw [if_neg (by omega),if_pos hk,if_neg (by omega),if_neg (by omega),if_pos hk,if_neg (by omega),hwr,hword];exact⟨by simp only [aJ,hv],λL hL=> aS hL,rfl,rfl,rfl,rfl,λh=> by omega⟩
theorem jC {α:Type}{g:Int->α}{j:Int}:dH g j (g j)=g:=by
 funext k
 by_cases h:k=j
 ·rw [h,aJ]
 ·rw [aS h]
def Node.IE(n:Node):Nat:=n.bG.ops.length - n.bG.aZ.length
def cZ.pK(m:cZ)(j:Int):Nat:=match m.bD j with
 | some n=> n.IE
 | none=> 0
def cZ.todo(m:cZ)(msg:Int->Out):Nat:=2*pot m.c m.pK (m.abs msg λ_=> [])+m.fab.under
section
variable {m:cZ}{i:Nat}{n n':Node}{f:Fab}{t:List Evn}{msg msg':Int->Out}{val val':Int->List Int}
theorem Dl(h:m.aH[i]?=some n):(m.with_ i n' f t).pK=dH m.pK i n'.IE:=by
 funext j
 unfold cZ.pK;rw [xk h];by_cases hj:j=i
 ·rw [if_pos hj,hj,aJ]
 ·rw [if_neg hj,aS hj]
theorem NG(h:m.aH[i]?=some n):m.pK i=n.IE:=by
 unfold cZ.pK;rw [rV h]
theorem Ua(hp:pot m.c (m.with_ i n' f t).pK ((m.with_ i n' f t).abs msg' val') < pot m.c m.pK (m.abs msg val))(hu:f.under<=m.fab.under+1):(m.with_ i n' f t).todo msg' < m.todo msg:=by
 have h1:(m.with_ i n' f t).todo msg'=2*pot m.c (m.with_ i n' f t).pK ((m.with_ i n' f t).abs msg' val')+f.under:=rfl;have h2:m.todo msg=2*pot m.c m.pK (m.abs msg val)+m.fab.under:=rfl;rw [h1,h2];omega
end
theorem QX {f:Fab}{i:Int}{q:Port}(hi:f.is i=true):(f.put i q).under+((f.port i).rq.length+(f.port i).an.length)=f.under+(q.rq.length+q.an.length):=by
 have h:=fB hi;obtain⟨hlt,he⟩:=zai.1 h;unfold Fab.under Fab.all Fab.put;simp only;have key:∀(l:List Port) (k:Nat) (x:Port),l[k]?=some x->((l.set k q).flatMap λq=> q.rq++q.an).length+(x.rq.length+x.an.length)=(l.flatMap λq=> q.rq++q.an).length+(q.rq.length+q.an.length):=by
  intro l
  induction l with
  | nil=> intro k x h;simp at h
  | cons y l ih=>
   intro k x h;cases k with
   | zero=>
    simp only [zaP,zaa] at h;subst h;simp only [zbU,zaE,zan];omega
   | succ k=>
    simp only [zbb] at h;have:=ih k x h;simp only [zb6,zaE,zan];omega
 exact key _ _ _ h
theorem abA {f:Fab}{i:Int}{q:Port}(hi:f.is i=true)(h1:q.rq=(f.port i).rq)(h2:q.an=(f.port i).an):(f.put i q).all=f.all:=Di (fB hi) h1 h2
theorem Kv {f f':Fab}{i:Int}{r:Bool}{po:Option Pkt}(h:f.take i r=(f',po)):f'.under=f.under:=by
 unfold Fab.take at h;split at h
 ·rename_i hi;split at h
  ·cases h;rfl
  ·cases h;unfold Fab.under;rw [abA hi (by cases r <;> rfl) (by cases r <;> rfl)]
 ·cases h;rfl
theorem oI(f:Fab)(p:Pkt):(f.send p).1.under<=f.under+1:=by
 unfold Fab.send;split
 ·exact za0 _
 ·rename_i h;split
  ·exact za0 _
  ·simp only;have hi:f.is p.src=true:=by
    simp only [zbh,za3,not_or,zcu] at h;exact h.1.2
   have:=QX (q:=(f.port p.src).jX (pV p.aO) ((f.port p.src).sort (pV p.aO)++[p])) hi;cases hk:pV p.aO <;> rw [hk] at this <;> simp [Port.jX,Port.sort] at this ⊢ <;> omega
theorem Bh {f:Fab}{a b m:Int}(hin:∀p∈f.all,f.is p.dst=true)(h:(f.deliver a b m).2=0):(f.deliver a b m).1.under+1=f.under:=by
 unfold Fab.deliver at h ⊢;split at h
 ·cases h
 rename_i h1;rw [if_neg h1];split at h
 ·cases h
 rename_i p hp;split at h
 ·cases h
 rename_i h2;split at h
 ·cases h
 rename_i h3;simp only [h2,h3,if_false,zae];have hd:=hin p (zau hp);obtain⟨q,hq⟩:∃q,q=(f.port p.dst).kN (pV p.aO) ((f.port p.dst).pF (pV p.aO)++[p]):=⟨_,rfl⟩
 have ha:(f.put p.dst q).all=f.all:=abA hd (by rw [hq];cases pV p.aO <;> rfl) (by rw [hq];cases pV p.aO <;> rfl);rw [<-hq];rw [<-ha] at hp;obtain⟨i,req,k',x,f1,f2,f3⟩:=vH (i0:=0) hp;rw [zaW] at f1;unfold Fab.remove;rw [f1];simp only;have hi:=Ea f2;have h5:=QX (q:=((f.put p.dst q).port i).drop req k') hi;have hx:=vI f2;have hu:(f.put p.dst q).under=f.under:=by unfold Fab.under;rw [ha]
 rw [hx] at h5 ⊢;have hlt:=(zai.1 f3).1;cases req <;> simp [Port.drop,Port.jX,Port.sort,List.length_eraseIdx] at h5 hlt ⊢ <;> rw [if_pos hlt] at h5 <;> omega
section
variable {c:Cfg}{lf:Int->Nat}{a:Abs}{i L:Int}{x:Option Ent}{d':bP}{msg':Int->Out}{val':Int->List Int}{k:Nat}
theorem abB(hi:0<=i/\i < c.aH)(hL:0<=L/\L < c.aY)(hm:∀j,j≠i->msg' j=a.msg j)(hr:∀L',L'≠L->∀y,wt d' L' y=wt (a.aI i) L' y)(h3:33*k+Dp d' (msg' i)+wt d' L x < 33*lf i+Dp (a.aI i) (a.msg i)+wt (a.aI i) L (a.ent L i)):
  pot c (dH lf i k) { a with ent:=dH a.ent L (nV (a.ent L) i x),aI:=dH a.aI i d',msg:=msg',val:=val' } < pot c lf a:=by
 refine TW hi hi hL (λj hj=> ⟨aS hj,aS hj,hm j hj⟩) (λj L' h=> ?_) ?_
 ·show wt (dH a.aI i d' j) L' (dH a.ent L (nV (a.ent L) i x) L' j)=wt (a.aI j) L' (a.ent L' j);by_cases hj:j=i
  ·subst hj;have hL':=h.resolve_left λh=> h rfl;rw [aJ,aS hL'];exact hr L' hL' _
  ·rw [aS hj];by_cases e:L'=L
   ·rw [e,aJ,fC hj]
   ·rw [aS e]
 ·show 33*dH lf i k i+Dp (dH a.aI i d' i) (msg' i)+wt (dH a.aI i d' i) L (dH a.ent L (nV (a.ent L) i x) L i) < _;rw [aJ,aJ,aJ,fP];exact h3
theorem aiI {a':Abs}(hi:0<=i/\i < c.aH)(hl:0 < c.aY)(h1:a'.ent=a.ent)(h2:a'.aI=a.aI)(hm:∀j,j≠i->a'.msg j=a.msg j)(h3:Dp (a.aI i) (a'.msg i) < Dp (a.aI i) (a.msg i)):pot c lf a' < pot c lf a:=by
 refine TW (L:=0) hi hi ⟨zbr _,hl⟩ (λj hj=> ⟨rfl,by rw [h2],hm j hj⟩) (λj L' h=> by rw [h1,h2]) ?_;rw [h1,h2];omega
theorem abC {s:Int}{q p:Pkt}{e:Ent}(hi:0<=i/\i < c.aH)(hs:0<=s/\s < c.aH)(hL:0<=L/\L < c.aY)(hm:a.msg s=.req p)(he:a.ent L i=some e)(h0:(a.aI s).step≠0)(h3:(∃e',x=some e')/\(a.aI s).step≠3∨x=none):
  pot c lf { a with ent:=dH a.ent L (nV (a.ent L) i x),msg:=dH a.msg s (.ans q) } < pot c lf a:=by
 refine TW hs hi hL (λj hj=> ⟨rfl,rfl,aS hj⟩) (λj L' h=> ?_) ?_
 ·show wt (a.aI j) L' (dH a.ent L (nV (a.ent L) i x) L' j)=wt (a.aI j) L' (a.ent L' j);by_cases e:L'=L
  ·have hj:=h.resolve_right λh=> h e;rw [e,aJ,fC hj]
  ·rw [aS e]
 ·show 33*lf s+Dp (a.aI s) (dH a.msg s (.ans q) s)+wt (a.aI i) L (dH a.ent L (nV (a.ent L) i x) L i) < _;rw [aJ,aJ,fP,hm,he];unfold Dp;rw [if_neg h0,if_neg h0];have l1:loc (a.aI s).step (.req p)=3:=rfl;have l2:loc (a.aI s).step (.ans q)=if(a.aI s).step=3 then 4 else 1:=rfl;rcases h3 with⟨⟨e',rfl⟩,h3⟩ | rfl
  ·rw [l1,l2,if_neg h3,aiG (e:=e') (e':=e)];omega
  ·rw [l1,l2,abv];have:=ane (d:=a.aI i) (L:=L) (e:=e);split <;> omega
end
section
variable {m:cZ}{T:Nat}{i:Nat}{n n':Node}{f:Fab}{t:List Evn}{msg msg':Int->Out}{val val':Int->List Int}
theorem Fg(h:m.aH[i]?=some n)(hh:n'.home=n.home)(hc:∀L,n'.aG.find L=n.aG.find L):
  (m.with_ i n' f t).abs msg' val'={ m.abs msg val with aI:=dH m.lC i n'.aI,msg:=msg',val:=val' }:=by
 rw [qP (val:=val) (msg:=msg) h hh (L:=0) (λL _=> hc L),hc,<-sJ h,lN,jC];rfl
theorem MX.range(X:MX T m)(h:m.aH[i]?=some n):0<=(i:Int)/\(i:Int) < m.c.aH:=by
 have:=X.inv.len;have:=(zai.1 h).1;omega
theorem MX.is(X:MX T m){j:Int}(h:0<=j/\j < m.c.aH){f:Fab}(hl:f.l.length=m.fab.l.length):f.is j=true:=by
 have:=X.inv.fab.len;unfold Fab.is;simp only [zaf,decide_eq_true_eq];omega
theorem NH(h:m.aH[i]?=some n){o:Opn}(hc:n.bG.cur=some o):m.opAt i n.bG.aZ.length=some o:=by
 unfold cZ.opAt;rw [rV h];exact hc
theorem Fh {o:Opn}(hc:n.bG.cur=some o)(hb:n.bG.dU=true){v:Int}(h:n'.bG=n.bG.yC v):n'.IE+1=n.IE:=by
 have:=(zai.1 hc).1;unfold Node.IE;rw [h];unfold Proc.yC;rw [if_pos hb];show n.bG.ops.length - (n.bG.aZ++[v]).length+1=_;rw [zan,zcU];omega
theorem oJ(X:MX T m)(hn:m.aH[i]?=some n){L:Int}(hL:0<=L/\L < m.c.aY)(h1:n'.home=n.home)(h2:∀L',L'≠L->n'.aG.find L'=n.aG.find L')(h4:∀L',L'≠L->∀y,wt n'.aI L' y=wt n.aI L' y)(h5:f.under<=m.fab.under+1)(hm:∀j:Int,j≠i->msg' j=msg j)
  (h6:33*n'.IE+Dp n'.aI (msg' i)+wt n'.aI L (n'.aG.find L) < 33*n.IE+Dp n.aI (msg i)+wt n.aI L (n.aG.find L)):(m.with_ i n' f t).todo msg' < m.todo msg:=by
 obtain⟨val,hv⟩:∃val:Int->List Int,val=λ_=> []:=⟨_,rfl⟩
 refine Ua (val:=val) (val':=val) ?_ h5;rw [Dl hn,qP (msg:=msg) (val:=val) hn h1 h2];refine abB (c:=m.c) (lf:=m.pK) (a:=m.abs msg val) (L:=L) (x:=n'.aG.find L) (d':=n'.aI) (k:=n'.IE) (X.range hn) hL hm (λL' hL y=> by rw [show(m.abs msg val).aI i=_ from jZ hn];exact h4 L' hL y) ?_;rw [NG hn,show(m.abs msg val).aI i=_ from jZ hn,show(m.abs msg val).ent L i=_ from sJ hn _];exact h6
def bP.end_(d:bP):bP:={ d with step:=0 }
set_option maxHeartbeats 1000000 in
theorem GInv.answered(X:MX T m)(G:GInv m msg val)(hn:m.aH[i]?=some n){f':Fab}{p:Pkt}(ht:m.fab.take i false=(f',some p)):
  ∃msg' val',GInv (m.with_ i (n.answered m.c i f' m.trace p).1 (n.answered m.c i f' m.trace p).2.1 (n.answered m.c i f' m.trace p).2.2) msg' val'/\zo m.c m.opAt m.trace val (n.answered m.c i f' m.trace p).2.2 val'/\(m.with_ i (n.answered m.c i f' m.trace p).1 (n.answered m.c i f' m.trace p).2.1 (n.answered m.c i f' m.trace p).2.2).todo msg' < m.todo msg:=by
 obtain⟨hs,b1,b2,b3,R1,ho,hl⟩:=G.pk.takeA ht;have hc:=X.inv.ok;have NI:=X.inv.bD i n hn;have NX_:=X.bD i n hn;have hi:=X.range hn;have hm:(m.abs msg val).msg i=.ans p:=b3;have hd:(m.abs msg val).aI i=n.aI:=jZ hn;have hQ:=(X.inv.fab.take i false).2 p (by rw [ht]);rcases G.abs.bD i hi.1 hi.2 with⟨_,h⟩ | O
 ·rw [hm] at h;cases h
 have OL:=O.aj;rw [hd] at OL;have hut:=Kv ht;have hm':msg i=.ans p:=hm;rcases O.at_ with⟨_,_,h | ⟨h,_⟩⟩ | hold | F
 ·rw [hm] at h;cases h
 ·rw [hm] at h;cases h
 ·-- the aI goes on
  obtain⟨_,H⟩:=G.abs.holder O.aj hold hi.1;rw [hd,hm] at H;rw [hd] at hold;have hst:=H.ans;have hs0:n.aI.step≠0:=by omega
  have DO:=NI.aI hs0;have hv:=G.abs.val n.aI.aj OL.1 OL.2;have hmiss:n.aI.aO=1->n.aI.step=1∨n.aI.step=2->(m.abs msg val).ent n.aI.aj i=none:=by
   have:=O.miss;rw [hd] at this;exact this
  obtain⟨ca,d',hA,Nx⟩:=XJ (c:=m.c) NI.aG.aY hi hv (sJ hn n.aI.aj) OL.1 (λh3=> (DO.work h3 (by omega)).full) DO.aO hmiss H;have hdat:d'.data.length<=4:=by
   have:=VT (me:=i) (NI.aG.le hc) NX_ (p:=p) (by
    have:=hQ.ok;simp only [Pkt.ok,zaf,decide_eq_true_eq] at this;omega)
   rw [hA] at this;exact this
  have hid:0<=d'.id/\d'.id < 4096:=by
   have:=O.idr;rw [hd] at this;rw [Nx.id];exact this
  have adU:0<=d'.aj/\d'.aj < m.c.aY:=by rw [Nx.aj];exact OL
  have hnw:(m.abs msg val).msg i≠.wait:=by rw [hm];exact λe=> by cases e
  have hki:d'.aO=((m.abs msg val).aI i).aO:=by rw [hd];exact Nx.aO
  have hii:d'.id=((m.abs msg val).aI i).id:=by rw [hd];exact Nx.id
  have hmi:dH msg i .idle i=.idle:=aJ;have hidle:dH (dH msg i .idle) i (.req (d'.ask i (m.c.bg d'.aj)))=dH msg i (.req (d'.ask i (m.c.bg d'.aj))):=by
   funext k
   by_cases h:k=i
   ·rw [h,aJ,aJ]
   ·rw [aS h,aS h,aS h]
  have hout:1<=f'.out:=by
   have:=(lI hc).2.2.2.2.2.1;rw [ho,X.inv.fab.out];exact this.1
  have send:∀{E:uf} {r:Row} {v:List Int},Hold m.c.aH (m.c.bg n.aI.aj) E r v i d' (.req (d'.ask i (m.c.bg n.aI.aj)))->pJ (f'.send (d'.ask i (m.c.bg d'.aj))).1 (dH msg i (.req (d'.ask i (m.c.bg d'.aj)))):=λH'=> by
   rw [<-Nx.aj] at H';obtain⟨a1,a2,a3,a4,a5⟩:=aiH hc hi H' adU hid hdat;have:=R1.anb (p:=d'.ask i (m.c.bg d'.aj)) (by rw [a3,hmi];exact λq e=> by cases e) (by rw [a3,hmi];exact λq e=> by cases e) a1 a2 (by rw [a3];exact X.is hi hl) (X.is ⟨a4,a5⟩ hl) hout;rw [a3,hidle] at this;exact this.2
  rcases Nx.next with⟨hno,H'⟩ | ⟨h6,h3,e,he,hev,hcase⟩
  ·-- no operation ends
   have hans:n.answered m.c i f' m.trace p=({ n with aG:=ca,aI:=d' },(f'.send (d'.ask i (m.c.bg d'.aj))).1,m.trace):=by
    unfold Node.answered;rw [hA];simp only [zbK,if_false,if_neg Nx.step,if_neg hno];rfl
   rw [hans];refine⟨dH msg i (.req (d'.ask i (m.c.bg d'.aj))),val,⟨?_,send H'⟩,.same,oJ X hn OL rfl Nx.other (λL' hL y=> by
    rw [xg (.inr (.inr (.inl (by show d'.aj≠_;rw [Nx.aj];exact λe=> hL e.symm)))),xg (.inr (.inr (.inl λe=> hL e.symm)))]) (by have:=oI f' (d'.ask i (m.c.bg d'.aj));dsimp only;omega) (λj hj=> aS hj) (by
    rw [aJ,hm'];have:=Nx.fall p (d'.ask i (m.c.bg d'.aj)) hno;show 33*n.IE+Dp d' _+wt d' _ (ca.find _) < _;omega)⟩
   show nX m.c ((m.with_ i { n with aG:=ca,aI:=d' } (f'.send (d'.ask i (m.c.bg d'.aj))).1 m.trace).abs (dH msg i (.req (d'.ask i (m.c.bg d'.aj)))) val);rw [qP (n':={ n with aG:=ca,aI:=d' }) (msg:=msg) (val:=val) hn rfl (L:=n.aI.aj) Nx.other];have:=G.abs.goes (x:=ca.find n.aI.aj) (v:=val n.aI.aj) (d:=d') hi OL hold hnw hv Nx.aj hki hii (λa b=> Nx.miss a b) H';have hvs:dH (m.abs msg val).val n.aI.aj (val n.aI.aj)=val:=jC;rw [hvs,<-Nx.aj] at this;rw [<-Nx.aj];exact this
  ·-- an operation ends
   have hk3:n.aI.aO≠3:=by rw [<-Nx.aO];exact h3
   have W:=DO.work hk3 (by omega);obtain⟨o,o1,o2,o3,o4⟩:=W.op;have NXT:=Np NI.aG DO hs0 hQ (by rw [<-rU];exact hA);have hem:=(iC NXT.inv.aY).1 he;have E_:=NXT.inv.ent e hem.1;have hright:=NI.bG.right o (zau o1);have hw:0<=m.c.dh o.addr/\m.c.dh o.addr < m.c.bn:=⟨(anE hc hright.1).wlo,(anE hc hright.1).whi⟩
   have hdl:=E_.dat.1;have hko:o.aO=1∨((o.aO=2∨o.aO=3)/\e.bZ=true):=by
    rcases hcase with⟨k1,_⟩ | ⟨k2,hdt,_⟩
    ·exact .inl (o3 k1)
    ·exact .inr ⟨o4 k2,hdt⟩
   obtain⟨w1,w2,w3,w4,w5,w6,w7⟩:=abz (c:=m.c) (val:=val) hko (by rw [o2];exact hev) (by omega);have y:=qN e o (m.c.dh o.addr);have hput:=xW NXT.inv.aY (e:=eP e o (m.c.dh o.addr)) (x:=e) (by rw [y.1];exact E_.lo) (by rw [y.1,hem.2];exact he);have hsame:({ eP e o (m.c.dh o.addr) with used:=e.used }:Ent)=eP e o (m.c.dh o.addr):=by rw [<-y.2.1]
   have hop:n.bG.op=o:=by unfold Proc.op;rw [o1];rfl
   have hidx:n.bG.idx=n.bG.aZ.length:=by unfold Proc.idx;rw [o1]
   have hans:n.answered m.c i f' m.trace p=({ n with aG:=(ca.put (eP e o (m.c.dh o.addr))).1,aI:=d',bG:=n.bG.yC (if o.aO=2 then 0 else e.word (m.c.dh o.addr)) },(f'.send (d'.ask i (m.c.bg d'.aj))).1,m.trace++[⟨i,n.bG.aZ.length,true,if o.aO=2 then 0 else e.word (m.c.dh o.addr)⟩]):=by
    unfold Node.answered;rw [hA];simp only [zbK,if_false,if_neg Nx.step,if_pos (show d'.step=6/\d'.aO≠3 from⟨h6,h3⟩)];unfold Node.effect Node.done;simp only [hop,o2,he,zav,hidx];rfl
   rw [hans];have hx:(ca.put (eP e o (m.c.dh o.addr))).1.find n.aI.aj=some (eP e o (m.c.dh o.addr)):=by
    rw [hput,if_pos (by rw [y.1,hem.2]),hsame]
   have apZ:(kD m.c o val).1 n.aI.aj≠[]:=by
    rw [<-o2,<-w1];intro h0;have h1:=y.2.2.2;rw [h0] at h1;simp only [zam] at h1;omega
   have H':Hold m.c.aH (m.c.bg n.aI.aj) (nV ((m.abs msg val).ent n.aI.aj) i (some (eP e o (m.c.dh o.addr)))) ((m.abs msg val).row n.aI.aj) ((kD m.c o val).1 n.aI.aj) i d' (.req (d'.ask i (m.c.bg n.aI.aj))):=by
    rcases hcase with⟨k1,Hc⟩ | ⟨k2,hdt,Hc⟩
    ·have hv1:(kD m.c o val).1 n.aI.aj=val n.aI.aj:=by
      unfold kD;rw [if_pos (o3 k1)]
     rw [w7 (o3 k1),hv1];exact Hc
    ·have:=Hc (eP e o (m.c.dh o.addr)) w4 w5 w6;rw [w1,o2] at this;exact this
   refine⟨dH msg i (.req (d'.ask i (m.c.bg d'.aj))),(kD m.c o val).1,⟨?_,send H'⟩,?_,oJ X hn OL rfl (λL hL=> by
     show(ca.put _).1.find L=_;rw [hput,if_neg (by rw [y.1,hem.2];exact hL)];exact Nx.other L hL) (λL' hL y=> by
    rw [xg (.inr (.inr (.inl (by show d'.aj≠_;rw [Nx.aj];exact λe=> hL e.symm)))),xg (.inr (.inr (.inl λe=> hL e.symm)))]) (by have:=oI f' (d'.ask i (m.c.bg d'.aj));dsimp only;omega) (λj hj=> aS hj) ?_⟩
   ·have habs:=qP (m:=m) (n:=n) (n':={ n with aG:=(ca.put (eP e o (m.c.dh o.addr))).1,aI:=d',bG:=n.bG.yC (if o.aO=2 then 0 else e.word (m.c.dh o.addr)) }) (f:=(f'.send (d'.ask i (m.c.bg d'.aj))).1) (t:=m.trace++[⟨i,n.bG.aZ.length,true,if o.aO=2 then 0 else e.word (m.c.dh o.addr)⟩]) (msg:=msg) (val:=val) (msg':=dH msg i (.req (d'.ask i (m.c.bg d'.aj)))) (val':=(kD m.c o val).1) hn rfl (L:=n.aI.aj) (λL hL=> by
     show(ca.put _).1.find L=_;rw [hput,if_neg (by rw [y.1,hem.2];exact hL)];exact Nx.other L hL)
    rw [habs];simp only [hx];have:=G.abs.goes (x:=some (eP e o (m.c.dh o.addr))) (v:=(kD m.c o val).1 n.aI.aj) (d:=d') hi OL hold hnw apZ Nx.aj hki hii (λ_ b=> by omega) H';have hvf:dH val n.aI.aj ((kD m.c o val).1 n.aI.aj)=(kD m.c o val).1:=by
     funext L
     by_cases hL:L=n.aI.aj
     ·rw [hL,aJ]
     ·rw [aS hL,w2 L (by rw [o2];exact hL)]
    have arv:dH (m.abs msg val).val n.aI.aj ((kD m.c o val).1 n.aI.aj)=(kD m.c o val).1:=hvf;rw [arv,<-Nx.aj] at this;rw [<-Nx.aj];exact this
   ·rw [w3];exact .done i n.bG.aZ.length o (NH hn o1) .same
   ·rw [aJ,hm'];have ht:=Fh (n':={ n with aG:=(ca.put (eP e o (m.c.dh o.addr))).1,aI:=d',bG:=n.bG.yC (if o.aO=2 then 0 else e.word (m.c.dh o.addr)) }) o1 W.dU rfl;have hD:Dp d' (.req (d'.ask i (m.c.bg d'.aj)))=16:=by
     unfold Dp;rw [if_neg (by omega),if_pos (.inr h6),h6];rfl
    have:=aiF (d:=d') (L:=n.aI.aj) (x:=(ca.put (eP e o (m.c.dh o.addr))).1.find n.aI.aj)
    dsimp only at ht ⊢
    omega
 ·-- the aI is over
  obtain⟨f1,f2,f3⟩:=F;have F':apU m.c (m.abs msg val) i:=⟨f1,f2,f3⟩
  rw [hd] at f1;rw [hm,hd] at f3;have hp:p=ad7 m.c n.aI i:=Out.ans.inj f3;have hfit:n.aI.fits p=true:=abx (by rw [hp,f1];rfl) (by rw [hp];rfl) (by rw [hp];rfl) (by omega);have DO:=NI.aI (by omega);have hA:n.after i p=(n.aG,n.aI.end_,true):=by
   unfold Node.after;by_cases k1:n.aI.aO=1
   ·rw [if_pos k1];unfold dW;rw [if_neg (by rw [k1,hfit];simp),if_neg (by omega),if_neg (by omega),if_pos f1];rfl
   ·rw [if_neg k1];by_cases k2:n.aI.aO=2
    ·rw [if_pos k2];unfold dX;rw [if_neg (by rw [k2,hfit];simp),if_neg (by omega),if_neg (by omega),if_pos f1];rfl
    ·have k3:n.aI.aO=3:=by have:=DO.aO;omega
     rw [if_neg k2,if_pos k3];unfold eH;rw [if_neg (by rw [k3,hfit];simp),if_neg (by omega),if_neg (by omega),if_neg (by omega),if_pos f1];rfl
  have hov:=G.abs.over hi F' (d:=n.aI.end_) rfl;have wts:∀L' y,wt n.aI.end_ L' y=wt n.aI L' y:=λL' y=> by rw [xg (.inl rfl),xg (.inr (.inl f1))]
  have hD:Dp n.aI (.ans p)=14:=by
   unfold Dp;rw [if_neg (by omega),if_pos (.inr f1),f1];rfl
  have hE:Dp n.aI.end_ .idle=13:=rfl;by_cases hfl:n.aI.aO=3/\n.bG.op.aO=4
  ·have hcur:∃o,n.bG.cur=some o:=by
    cases h:n.bG.cur with
    | some o=> exact⟨o,rfl⟩
    | none=>
     have:=hfl.2;unfold Proc.op at this;rw [h] at this;exact absurd this (by decide)
   obtain⟨o,o1⟩:=hcur;have hop:n.bG.op=o:=by unfold Proc.op;rw [o1];rfl
   have hidx:n.bG.idx=n.bG.aZ.length:=by unfold Proc.idx;rw [o1]
   have hans:n.answered m.c i f' m.trace p=({ n with aI:=n.aI.end_,bG:=n.bG.yC 0 },f',m.trace++[⟨i,n.bG.aZ.length,true,0⟩]):=by
    unfold Node.answered;rw [hA];simp only [zbK,if_false,show n.aI.end_.step=0 from rfl,if_true,show n.aI.end_.aO=n.aI.aO from rfl,if_pos hfl];unfold Node.done;simp only [hidx]
   rw [hans];refine⟨dH msg i .idle,val,⟨?_,R1⟩,?_,oJ X hn OL rfl (λ_ _=> rfl) (λL' _ y=> wts L' y) (by dsimp only;omega) (λj hj=> aS hj) (by
    rw [aJ,hm'];have ht:=Fh (n':={ n with aI:=n.aI.end_,bG:=n.bG.yC 0 }) o1 (DO.roll hfl.1) rfl
    dsimp only at ht ⊢
    rw [wts,hD,hE];omega)⟩
   ·show nX m.c ((m.with_ i { n with aI:=n.aI.end_,bG:=n.bG.yC 0 } f' _).abs (dH msg i .idle) val);rw [Fg (n':={ n with aI:=n.aI.end_,bG:=n.bG.yC 0 }) (msg:=msg) (val:=val) hn rfl (λ_=> rfl)];exact hov
   ·have arw:kD m.c o val=(val,0):=by
     have:o.aO=4:=by rw [<-hop];exact hfl.2
     unfold kD;rw [if_neg (by omega),if_neg (by omega),if_neg (by omega)]
    have:=zo.done (c:=m.c) (P:=m.opAt) i n.bG.aZ.length o (NH hn o1) (.same (t:=m.trace) (v:=val));rw [arw] at this;exact this
  ·have hans:n.answered m.c i f' m.trace p=({ n with aI:=n.aI.end_ },f',m.trace):=by
    unfold Node.answered;rw [hA];simp only [zbK,if_false,show n.aI.end_.step=0 from rfl,if_true,show n.aI.end_.aO=n.aI.aO from rfl,if_neg hfl]
   rw [hans];refine⟨dH msg i .idle,val,⟨?_,R1⟩,.same,oJ X hn OL rfl (λ_ _=> rfl) (λL' _ y=> wts L' y) (by dsimp only;omega) (λj hj=> aS hj) (by
    rw [aJ,hm']
    dsimp only
    rw [wts,hD,hE];show 33*n.IE+_+_ < _;omega)⟩
   show nX m.c ((m.with_ i { n with aI:=n.aI.end_ } f' _).abs (dH msg i .idle) val);rw [Fg (n':={ n with aI:=n.aI.end_ }) (msg:=msg) (val:=val) hn rfl (λ_=> rfl)];exact hov
end
theorem Ub {k s d id l pt st:Int}{fl:Bool}{x:List Int}(h:((0<=s/\s < 6)/\0<=d/\d < 6)/\(0<=id/\id < 4096)/\(1<=k/\k < 10)/\(0<=l/\l < 8)/\(-1<=pt/\pt < 6)/\(0<=st/\st < 3)/\x.length<=4):(⟨k,s,d,id,l,pt,st,fl,x⟩:Pkt).ok=true:=by
 obtain⟨⟨⟨h1,h2⟩,h3,h4⟩,⟨h5,h6⟩,⟨h7,h8⟩,⟨h9,ha⟩,⟨hb,hc⟩,⟨hd,he⟩,hf⟩:=h;simp [Pkt.ok,h1,h2,h3,h4,h5,h6,h7,h8,h9,ha,hb,hc,hd,he,hf]
inductive QY (N hm:Int) (E:uf) (r:Row) (v:List Int) (s:Int) (d:bP) (p:Pkt) (e:Ent):Prop
 | attach:p.aO=3->Hold N hm (nV E p.dst (some { e with bZ:=false,back:=p.ptr })) r v s d (.ans ⟨9,p.dst,p.src,p.id,p.aj,0,0,e.bZ,e.data⟩)->QY N hm E r v s d p e
 | front:p.aO=4->Hold N hm (nV E p.dst (some { e with fwd:=p.ptr })) r v s d (.ans ⟨8,p.dst,p.src,p.id,p.aj,0,0,false,[]⟩)->QY N hm E r v s d p e
 | behind:p.aO=5->Hold N hm (nV E p.dst (some { e with back:=p.ptr })) r v s d (.ans ⟨8,p.dst,p.src,p.id,p.aj,0,0,false,[]⟩)->QY N hm E r v s d p e
 | IQ:p.aO=6->-1<=e.fwd/\e.fwd < N->Hold N hm (nV E p.dst none) r v s d (.ans ⟨9,p.dst,p.src,p.id,p.aj,e.fwd,0,e.bZ,e.data⟩)->QY N hm E r v s d p e
theorem Rng.ad8 {N:Int}{l:List Int}(h:Rng N l)(hN:0 < N):-1<=hdI l (-1)/\hdI l (-1) < N:=by
 by_cases hl:l=[]
 ·rw [hl];exact⟨zbr _,by show(-1:Int) < N;omega⟩
 ·have:=h.2 _ (h.hd hl).1;omega
theorem ang {N hm:Int}{E:uf}{r:Row}{v:List Int}{s:Int}{d:bP}{p:Pkt}(hN:0 < N)(H:Hold N hm E r v s d (.req p))(hk:3<=p.aO/\p.aO<=6):∃e,E p.dst=some e/\QY N hm E r v s d p e:=by
 obtain⟨hp,_,_⟩:=H.req;have hq:∃q,Out.req p=q/\Hold N hm E r v s d q:=⟨_,rfl,H⟩
 obtain⟨q,hq,H⟩:=hq;cases H with
 | attach k1 k2 k3 k4 W=>
  have e:p=⟨3,s,d.head,d.id,d.aj,s,0,false,[]⟩:=by rw [hp];unfold bP.ask;simp [k1]
  obtain⟨x,h1,h2⟩:=QN (hm:=hm) k1 k2 k3 k4 W;exact⟨x,by rw [e];exact h1,.attach (by rw [e]) (by rw [e];exact h2)⟩
 | IQ k1 k2 L k3 k4=>
  have e:p=⟨6,s,d.next,d.id,d.aj,0,0,false,[]⟩:=by rw [hp];unfold bP.ask;simp [k1]
  obtain⟨x,h1,h2⟩:=TU (hm:=hm) (r:=r) k1 k2 L k3 k4;have hx:-1<=x.fwd/\x.fwd < N:=by
   obtain⟨⟨y,hy,hf⟩,_⟩:=L.ch;rw [h1] at hy;cases hy;rw [hf];exact Rng.ad8 ⟨(zaU.1 L.rng.1).2,λj hj=> L.rng.2 j (by simp [hj])⟩ hN
  exact⟨x,by rw [e];exact h1,.IQ (by rw [e]) hx (by rw [e];exact h2)⟩
 | front k1 k2 M k3 C k4 k5 k6=>
  have e:p=⟨4,s,d.head,d.id,d.aj,d.next,0,false,[]⟩:=by rw [hp];unfold bP.ask;simp [k1]
  obtain⟨x,h1,h2⟩:=TV (hm:=hm) k1 k2 M k3 C k4 k5 k6;exact⟨x,by rw [e];exact h1,.front (by rw [e]) (by rw [e];exact h2)⟩
 | behind k1 k2 M k3 C C' k4 k5 k6=>
  have e:p=⟨5,s,d.next,d.id,d.aj,d.head,0,false,[]⟩:=by rw [hp];unfold bP.ask;simp [k1]
  obtain⟨x,h1,h2⟩:=QO (hm:=hm) k1 k2 M k3 C C' k4 k5 k6;exact⟨x,by rw [e];exact h1,.behind (by rw [e]) (by rw [e];exact h2)⟩
 | unlock k1 W=>
  have e:p.aO=2:=by rw [hp];unfold bP.ask;simp [k1]
  omega
 | granted _ _=> cases hq
 | attached _ _ _ _ _ _ _ _ _ _=> cases hq
 | Ir _ _ _ _ _=> cases hq
 | zh _ _ _ _ _ _ _ _ _=> cases hq
 | vw _ _ _ _ _ _ _ _ _=> cases hq
section
variable {m:cZ}{T:Nat}{i:Nat}{n n':Node}{f:Fab}{t:List Evn}{msg msg':Int->Out}{val val':Int->List Int}
theorem ap0 {α:Type}{g:Int->α}{j:Int}{x y:α}:dH (dH g j x) j y=dH g j y:=by
 funext k
 by_cases h:k=j
 ·rw [h,aJ,aJ]
 ·rw [aS h,aS h,aS h]
theorem abD(X:MX T m)(hn:m.aH[i]?=some n)(L:Int):(jd n.home.dD L).data.length<=4:=by
 have NI:=X.inv.bD i n hn;have:=(lI X.inv.ok).2.2.1;unfold jd;cases h:jl n.home.dD L with
 | none=> exact zaR _
 | some r=>
  have:=(NI.dD _ (lW h)).1;simp only [zav] at*;omega
theorem NJ {d:bP}(h0:d.step≠0)(h3:d.step≠3)(p q:Pkt):Dp d (.ans q) < Dp d .wait/\Dp d .wait < Dp d (.req p):=by
 unfold Dp loc;simp only [if_neg h0,if_neg h3];omega
theorem Bj(X:MX T m)(hn:m.aH[i]?=some n)(h1:n'.aG=n.aG)(h2:n'.aI=n.aI)(h3:n'.bG=n.bG){s:Int}(hs:0<=s/\s < m.c.aH)(hm:∀j,j≠s->msg' j=msg j)(hd:Dp (m.lC s) (msg' s) < Dp (m.lC s) (msg s))(hu:f.under<=m.fab.under+1):(m.with_ i n' f t).todo msg' < m.todo msg:=by
 obtain⟨val,hv⟩:∃val:Int->List Int,val=λ_=> []:=⟨_,rfl⟩
 refine Ua (val:=val) (val':=val) ?_ hu;have hl:n'.IE=m.pK i:=by rw [NG hn];unfold Node.IE;rw [h3]
 rw [Dl hn,hl,jC];refine aiI (i:=s) hs (by have:=(lI X.inv.ok).2.1;omega) ?_ ?_ hm hd
 ·show(m.with_ i n' f t).Fb=m.Fb
  funext L
  rw [IC hn,h1,<-sJ hn L,lN]
 ·show(m.with_ i n' f t).lC=m.lC;rw [Dj hn,h2,<-jZ hn,jC]
theorem XK(X:MX T m)(hn:m.aH[i]?=some n){L s:Int}{x:Option Ent}{e:Ent}{p q:Pkt}{ca:Cache}(hs:0<=s/\s < m.c.aH)(hL:0<=L/\L < m.c.aY)(h1:∀L',L'≠L->ca.find L'=n.aG.find L')(h2:ca.find L=x)(hm:msg s=.req p)(he:n.aG.find L=some e)(h0:(m.lC s).step≠0)(h3:(∃e',x=some e')/\(m.lC s).step≠3∨x=none)(hu:f.under<=m.fab.under+1):(m.with_ i { n with aG:=ca } f t).todo (dH msg s (.ans q)) < m.todo msg:=by
 obtain⟨val,hv⟩:∃val:Int->List Int,val=λ_=> []:=⟨_,rfl⟩
 refine Ua (val:=val) (val':=val) ?_ hu;have hdf:dH m.lC i n.aI=m.lC:=by rw [<-jZ hn,jC]
 have hlf:dH m.pK i n.IE=m.pK:=by rw [<-NG hn,jC]
 rw [Dl hn,show Node.IE { n with aG:=ca }=n.IE from rfl,hlf,qP (n':={ n with aG:=ca }) (msg:=msg) (val:=val) hn rfl h1];simp only [h2,hdf];exact abC (a:=m.abs msg val) (X.range hn) hs hL hm ((sJ hn L).trans he) h0 h3
theorem GInv.grant(X:MX T m)(G:GInv m msg val)(hn:m.aH[i]?=some n)(hr:n.home.ready≠[])(hroom:0 < m.fab.roomOf i false):
  ∃msg',GInv (m.with_ i { n with home:=(n.home.grant i).1 } (m.fab.send (n.home.grant i).2.1).1 t) msg' val/\(m.with_ i { n with home:=(n.home.grant i).1 } (m.fab.send (n.home.grant i).2.1).1 t).todo msg' < m.todo msg:=by
 have hc:=X.inv.ok;have NI:=X.inv.bD i n hn;have hi:=X.range hn;cases hrd:n.home.ready with
 | nil=> exact absurd hrd hr
 | cons L l=>
  obtain⟨r1,r2,r3⟩:=wQ hrd;obtain⟨e,he,rfl⟩:=zaG.1 r3;have hh:=NI.home.here e he;unfold kQ at hh;simp only [zaf,decide_eq_true_eq] at hh;obtain⟨⟨l0,l1⟩,l2⟩:=hh;have hL:m.c.bg e.1=i:=by unfold Cfg.bg yB;rw [if_neg (by omega)];exact l2
  have hown:n.home.aP.owner e.1=-1:=Classical.byContradiction λh=> by
   have:=(NI.home.aP.owned e.1).2 h;rw [r1] at this;cases this
  cases hws:n.home.aP.ws e.1 with
  | nil=> exact absurd hws r2
  | cons w ws=>
   obtain⟨t1,t2,t3⟩:=XI NI.home.aP hown hws;have ho:(m.abs msg val).own e.1=-1:=by show(m.lQ e.1).aP.owner e.1=-1;rw [lZ hn hL];exact hown
   have hw:(m.abs msg val).ws e.1=w::ws:=by show(m.lQ e.1).aP.ws e.1=_;rw [lZ hn hL];exact hws
   have hrow:(m.abs msg val).row e.1=jd n.home.dD e.1:=by show jd (m.lQ e.1).dD e.1=_;rw [lZ hn hL]
   obtain⟨hi',hmw,I'⟩:=G.abs.grant ⟨l0,l1⟩ ho hw;have hgr:n.home.grant i=({ n.home with aP:=(n.home.aP.next e.1).1 },granted n.home.dD i e.1 w.1 w.2,true):=by
    unfold Home.grant;rw [hrd];simp only;cases hx:n.home.aP.next e.1 with
    | mk tt ww=>
     rw [hx] at t1;simp only at t1;rw [t1]
   rw [hgr];have hO:aiD m.c (m.abs msg val) w.1:=by
    rcases G.abs.bD w.1 hi'.1 hi'.2 with⟨_,h⟩ | O
    ·rw [hmw] at h;cases h
    ·exact O
   have arx:((m.abs msg val).aI w.1).id=w.2:=((G.abs.ws e.1).2 w (by rw [hw];simp)).2.2.2.2.1;obtain⟨lw,W⟩:∃lw,Wf m.c.aH ((m.abs msg val).ent e.1) ((m.abs msg val).row e.1) ((m.abs msg val).val e.1) lw:=by
    rcases G.abs.aj e.1 l0 l1 with⟨_,h⟩ | ⟨h,_⟩
    ·exact h
    ·omega
   obtain⟨cn,cl,_⟩:=lI hc;have hhd:=W.rng.ad8 (by omega);have hst:=W.st;have hhead:=W.head;rw [hrow] at hst hhead;have hid:=hO.idr;rw [arx] at hid;have hlen:=abD X hn e.1;have hpk:(granted n.home.dD i e.1 w.1 w.2).ok=true:=by
    exact Ub (by omega)
   have hsd:=G.pk.XG (p:=granted n.home.dD i e.1 w.1 w.2) (λq h=> by rw [show(granted n.home.dD i e.1 w.1 w.2).dst=w.1 from rfl] at h;exact absurd (hmw.symm.trans h) (λe=> by cases e)) (λq h=> by rw [show(granted n.home.dD i e.1 w.1 w.2).dst=w.1 from rfl] at h;exact absurd (hmw.symm.trans h) (λe=> by cases e)) hpk rfl (X.is hi rfl) (X.is hi' rfl) hroom;have hst1:((m.abs msg val).aI w.1).step=1:=((G.abs.ws e.1).2 w (by rw [hw];simp)).2.2.2.2.2;refine⟨_,⟨?_,hsd.2⟩,Bj X hn rfl rfl rfl hi' (λj hj=> aS hj) (by
    rw [show(granted n.home.dD i e.1 w.1 w.2).dst=w.1 from rfl,aJ,show msg w.1=.wait from hmw];exact(NJ (by show((m.abs msg val).aI w.1).step≠0;omega) (by show((m.abs msg val).aI w.1).step≠3;omega) .zero _).1) (oI _ _)⟩
   show nX m.c ((m.with_ i { n with home:={ n.home with aP:=(n.home.aP.next e.1).1 } } (m.fab.send (granted n.home.dD i e.1 w.1 w.2)).1 t).abs _ val);rw [Fe (n':={ n with home:={ n.home with aP:=(n.home.aP.next e.1).1 } }) (msg:=msg) hn (λ_=> rfl) rfl hL (λ_ _=> rfl) (λL' h=> by show(n.home.aP.next e.1).1.owner L'=_;rw [t2,if_neg h]) (λL' h=> by show(n.home.aP.next e.1).1.ws L'=_;rw [t3,if_neg h])];have a1:dH (m.abs msg val).row e.1 (jd n.home.dD e.1)=(m.abs msg val).row:=by rw [<-hrow,jC]
   simp only [a1,t2,t3,if_true];have a2:granted n.home.dD i e.1 w.1 w.2=⟨7,m.c.bg e.1,w.1,w.2,e.1,((m.abs msg val).row e.1).head,((m.abs msg val).row e.1).aU,false,((m.abs msg val).row e.1).data⟩:=by
    rw [hrow,hL];rfl
   rw [a2];exact I'
set_option maxHeartbeats 1000000 in
theorem GInv.asked(X:MX T m)(G:GInv m msg val)(hn:m.aH[i]?=some n){f':Fab}{p:Pkt}(ht:m.fab.take i true=(f',some p))(hroom:0 < m.fab.roomOf i false):
  ∃msg',GInv (m.with_ i (n.asked m.c i f' p).1 (n.asked m.c i f' p).2 t) msg' val/\(m.with_ i (n.asked m.c i f' p).1 (n.asked m.c i f' p).2 t).todo msg' < m.todo msg:=by
 obtain⟨hs,b1,b2,b3,R1,ho,hl,hrm⟩:=G.pk.apV ht;have hc:=X.inv.ok;obtain⟨cn,cl,_⟩:=lI hc;have NI:=X.inv.bD i n hn;have hi:=X.range hn;have hsr:0<=p.src/\p.src < m.c.aH:=by
  have:=G.pk.rg _ p (.inl b3);have hln:=X.inv.fab.len;unfold Fab.is at this;simp only [zaf,decide_eq_true_eq] at this;omega
 have hmr:(m.abs msg val).msg p.src=.req p:=b3;have hQ:=(X.inv.fab.take i true).2 p (by rw [ht]);obtain⟨O,p1,p2,p3,p4⟩:=G.abs.req hsr hmr;have hpk:=hQ.ok;have arz:=hpk;simp only [Pkt.ok,zaf,decide_eq_true_eq] at arz;have OL:=O.aj;rw [p2] at OL;have hkind:p.aO=zU ((m.abs msg val).aI p.src).step:=(congrArg Pkt.aO p1).trans (kR p3).1;have hroom':0 < f'.roomOf i false:=by rw [hrm];exact hroom
 have hms:dH msg p.src .idle p.src=.idle:=aJ;have XG:∀q:Pkt,q.ok=true->pV q.aO=false->q.src=i->q.dst=p.src->pJ (f'.send q).1 (dH msg p.src (.ans q)):=λq h1 h2 h3 h4=> by
  have:=R1.XG (p:=q) (by rw [h4,hms];exact λx e=> by cases e) (by rw [h4,hms];exact λx e=> by cases e) h1 h2 (by rw [h3];exact X.is hi hl) (by rw [h4];exact X.is hsr hl) (by rw [h3];exact hroom');rw [h4,ap0] at this;exact this.2
 -- the aqx requests
 have hhome:p.aO=1∨p.aO=2->m.c.bg p.aj=i:=λh=> by
  have h16:((m.abs msg val).aI p.src).step=1∨((m.abs msg val).aI p.src).step=6:=by
   have:((m.abs msg val).aI p.src).step=1∨((m.abs msg val).aI p.src).step=2∨((m.abs msg val).aI p.src).step=3∨((m.abs msg val).aI p.src).step=4∨((m.abs msg val).aI p.src).step=5∨((m.abs msg val).aI p.src).step=6:=by omega
   rw [hkind] at h;rcases this with e | e | e | e | e | e <;> simp [e,zU] at h ⊢
  have hdst:p.dst=m.c.bg p.aj:=by
   have h1:=congrArg Pkt.dst p1;unfold bP.ask at h1;rcases h16 with e | e
   ·simpa [e] using h1
   ·simpa [e] using h1
  rw [<-hdst];exact b1
 have hut:=Kv ht;have hst3:p.aO≠6->((m.abs msg val).aI p.src).step≠3:=λh e=> h (by rw [hkind,e];rfl);by_cases hk:p.aO=1∨p.aO=2
 ·have hL:=hhome hk;have hst3:=hst3 (by omega);have habs:∀L,m.c.bg L=i->(m.abs msg val).own L=n.home.aP.owner L/\(m.abs msg val).ws L=n.home.aP.ws L/\(m.abs msg val).row L=jd n.home.dD L:=λL h=> by
   refine⟨?_,?_,?_⟩
   ·show(m.lQ L).aP.owner L=_;rw [lZ hn h]
   ·show(m.lQ L).aP.ws L=_;rw [lZ hn h]
   ·show jd (m.lQ L).dD L=_;rw [lZ hn h]
  obtain⟨ao,aw,ar⟩:=habs p.aj hL;have aqy:dH (m.abs msg val).row p.aj (jd n.home.dD p.aj)=(m.abs msg val).row:=by rw [<-ar,jC]
  have arA:dH (m.abs msg val).own p.aj (n.home.aP.owner p.aj)=(m.abs msg val).own:=by rw [<-ao,jC]
  have aqz:dH (m.abs msg val).ws p.aj (n.home.aP.ws p.aj)=(m.abs msg val).ws:=by rw [<-aw,jC]
  have hcond:¬((!(p.ok && decide (p.dst=(i:Int)) && decide (p.src < m.c.aH)) || (decide (p.aO≠1) && decide (p.aO≠2)))=true):=by
   rcases hk with h | h <;> simp [hpk,b1,hsr.2,h]
  rcases hk with hk1 | hk2
  ·by_cases hfree:n.home.aP.owner p.aj=-1/\n.home.aP.ws p.aj=[]
   ·obtain⟨t1,t2,t3⟩:=IY (id:=p.id) NI.home.aP hsr.1 hfree.1 hfree.2;have hh:n.home.handle m.c i p=({ n.home with aP:=(n.home.aP.ask p.aj p.src p.id).1 },granted n.home.dD i p.aj p.src p.id,true,0):=by
     unfold Home.handle;rw [if_neg hcond,if_neg (by rw [hL];omega),if_pos hk1];simp only [t1,if_true]
    have hans:n.asked m.c i f' p=({ n with home:={ n.home with aP:=(n.home.aP.ask p.aj p.src p.id).1 } },(f'.send (granted n.home.dD i p.aj p.src p.id)).1):=by
     unfold Node.asked;rw [if_pos (.inl hk1),hh];simp
    rw [hans];have I':=G.abs.lock hsr hmr hk1 (by rw [ao];exact hfree.1);obtain⟨lw,W⟩:∃lw,Wf m.c.aH ((m.abs msg val).ent p.aj) ((m.abs msg val).row p.aj) ((m.abs msg val).val p.aj) lw:=by
     rcases G.abs.aj p.aj OL.1 OL.2 with⟨_,h⟩ | ⟨h,_⟩
     ·exact h
     ·have:=hfree.1;omega
    have hhd:=W.rng.ad8 (by omega);have hst:=W.st;have hhead:=W.head;rw [ar] at hst hhead;have hlen:=abD X hn p.aj;have hok:(granted n.home.dD i p.aj p.src p.id).ok=true:=by
     exact Ub (by omega)
    refine⟨_,⟨?_,XG _ hok rfl rfl rfl⟩,Bj X hn rfl rfl rfl hsr (λj hj=> aS hj) (by
    rw [aJ,show msg p.src=.req p from b3];have:=NJ O.step hst3 p;exact Nat.lt_trans (this _).1 (this .zero).2) (by dsimp only;exact zax (oI _ _) (by omega))⟩
    show nX m.c ((m.with_ i { n with home:={ n.home with aP:=(n.home.aP.ask p.aj p.src p.id).1 } } _ t).abs _ val);rw [Fe (n':={ n with home:={ n.home with aP:=(n.home.aP.ask p.aj p.src p.id).1 } }) (msg:=msg) hn (λ_=> rfl) rfl hL (λ_ _=> rfl) (λL' h=> by show(n.home.aP.ask p.aj p.src p.id).1.owner L'=_;rw [t2,if_neg h]) (λL' h=> by show(n.home.aP.ask p.aj p.src p.id).1.ws L'=_;rw [t3])];simp only [aqy,t2,t3,if_true,aqz];have a2:granted n.home.dD i p.aj p.src p.id=⟨7,m.c.bg p.aj,p.src,p.id,p.aj,((m.abs msg val).row p.aj).head,((m.abs msg val).row p.aj).aU,false,((m.abs msg val).row p.aj).data⟩:=by
     rw [ar,hL];rfl
    rw [a2];exact I'
   ·have ap1:n.home.aP.owner p.aj≠-1∨n.home.aP.ws p.aj≠[]:=by
     by_cases h:n.home.aP.owner p.aj=-1
     ·exact .inr λh'=> hfree ⟨h,h'⟩
     ·exact .inl h
    obtain⟨t1,t2,t3⟩:=IZ (id:=p.id) NI.home.aP hsr.1 ap1;have hh:n.home.handle m.c i p=({ n.home with aP:=(n.home.aP.ask p.aj p.src p.id).1 },.zero,false,0):=by
     unfold Home.handle;rw [if_neg hcond,if_neg (by rw [hL];omega),if_pos hk1];simp only [t1,zae,if_false]
    have hans:n.asked m.c i f' p=({ n with home:={ n.home with aP:=(n.home.aP.ask p.aj p.src p.id).1 } },f'):=by
     unfold Node.asked;rw [if_pos (.inl hk1),hh];simp
    rw [hans];have I':=G.abs.wait hsr hmr hk1;have R2:pJ f' (dH msg p.src .wait):=by
     have mi:∀j q,(dH msg p.src .wait j=.req q↔dH msg p.src .idle j=.req q)/\(dH msg p.src .wait j=.ans q↔dH msg p.src .idle j=.ans q):=λj q=> by
      by_cases h:j=p.src
      ·rw [h,aJ,aJ];exact⟨⟨λe=> (by cases e),λe=> (by cases e)⟩,⟨λe=> (by cases e),λe=> (by cases e)⟩⟩
      ·rw [aS h,aS h];exact⟨Iff.rfl,Iff.rfl⟩
     refine⟨λk q hq=> ?_,R1.rn,R1.an,λj q h=> R1.rc j q ((mi j q).1.1 h),λj q h=> R1.ac j q ((mi j q).2.1 h),λj q h=> R1.src j q ((mi j q).1.1 h),λj q h=> R1.dst j q ((mi j q).2.1 h),λj q h=> R1.rg j q (h.imp (mi j q).1.1 (mi j q).2.1)⟩;have P:=R1.port k q hq;exact⟨λx hx=> ⟨(P.rq x hx).1,(P.rq x hx).2.1,(mi _ _).1.2 (P.rq x hx).2.2⟩,λx hx=> ⟨(P.rin x hx).1,(P.rin x hx).2.1,(mi _ _).1.2 (P.rin x hx).2.2⟩,λx hx=> ⟨(P.an x hx).1,(P.an x hx).2.1,(mi _ _).2.2 (P.an x hx).2.2⟩,λx hx=> ⟨(P.ain x hx).1,(P.ain x hx).2.1,(mi _ _).2.2 (P.ain x hx).2.2⟩⟩
    refine⟨_,⟨?_,R2⟩,Bj X hn rfl rfl rfl hsr (λj hj=> aS hj) (by
     rw [aJ,show msg p.src=.req p from b3];exact(NJ O.step hst3 p .zero).2) (by dsimp only;omega)⟩
    show nX m.c ((m.with_ i { n with home:={ n.home with aP:=(n.home.aP.ask p.aj p.src p.id).1 } } _ t).abs _ val);rw [Fe (n':={ n with home:={ n.home with aP:=(n.home.aP.ask p.aj p.src p.id).1 } }) (msg:=msg) hn (λ_=> rfl) rfl hL (λ_ _=> rfl) (λL' h=> by show(n.home.aP.ask p.aj p.src p.id).1.owner L'=_;rw [t2]) (λL' h=> by show(n.home.aP.ask p.aj p.src p.id).1.ws L'=_;rw [t3,if_neg h])];simp only [aqy,t2,t3,if_true,arA];rw [<-aw];exact I'
  ·-- a aj is unlocked
   obtain⟨u1,u2,⟨lw,W⟩,u4,u5,I'⟩:=G.abs.unlock hsr hmr hk2;rw [ao] at u1;obtain⟨ns,hns⟩:∃ns,m.aH[p.src.toNat]?=some ns:=⟨_,zab (by have:=X.inv.len;omega)⟩
   have hsn:((p.src.toNat:Nat):Int)=p.src:=by omega
   have hds:(m.abs msg val).aI p.src=ns.aI:=by
    have:=jZ hns;rw [hsn] at this;exact this
   have DS:=(X.inv.bD _ ns hns).aI (by rw [<-hds,u5];decide);have hdd:ns.aI.data=[]∨(ns.aI.data.length:Int)=m.c.bn:=DS.dat.imp id λh=> h.1;have q1:p.aU=ns.aI.aU:=by rw [u4,hds];unfold bP.ask;rw [hds] at u5;simp [u5]
   have q2:p.ptr=ns.aI.head:=by rw [u4,hds];unfold bP.ask;rw [hds] at u5;simp [u5]
   have q3:p.flag=decide (ns.aI.data≠[]):=by rw [u4,hds];unfold bP.ask;rw [hds] at u5;simp [u5]
   have q4:p.data=ns.aI.data:=by rw [u4,hds];unfold bP.ask;rw [hds] at u5;simp [u5]
   have q5:(if p.flag then p.data else [])=ns.aI.data:=by
    rw [q3,q4];by_cases h:ns.aI.data=[]
    ·simp [h]
    ·simp [h]
   rw [hds] at W I';have ap2:kQ m.c i p.aj=true:=by
    unfold kQ;simp only [zaf,decide_eq_true_eq];refine⟨⟨OL.1,OL.2⟩,?_⟩;have:=hL;unfold Cfg.bg yB at this;rw [if_neg (by omega)] at this;exact this
   obtain⟨rw0,hrw⟩:=X.dD i n hn p.aj ap2;have hro:jd n.home.dD p.aj=rw0:=by unfold jd;rw [hrw];rfl
   have hst:ns.aI.aU=0∨ns.aI.aU=1∨ns.aI.aU=2:=W.st;have hhd:ns.aI.head=hdI lw (-1):=W.head;have hle:=W.rng.ad8 (by omega);have h0:ns.aI.aU=0↔ns.aI.head=-1:=by
    rw [hhd,W.rng.abt];exact W.st0
   have hset:iD m.c n.home.dD p.aj p.aU p.ptr (if p.flag then p.data else [])=(lT n.home.dD p.aj (iQ rw0 ns.aI),0):=by
    unfold iD;rw [hrw,q1,q2,q5];simp only;rw [if_neg (by omega),if_neg]
    ·rfl
    ·have e1:decide (ns.aI.head=-1)=decide (ns.aI.aU=0):=by
      by_cases h:ns.aI.aU=0
      ·simp [h,h0.1 h]
      ·have:¬ns.aI.head=-1:=λe=> h (h0.2 e);simp [h,this]
     rw [e1];rcases hdd with h | h
     ·simp [h]
     ·simp [h]
   obtain⟨t1,t2,t3⟩:=ND NI.home.aP hsr.1 u1;have hul:n.home.unlock m.c p=(⟨lT n.home.dD p.aj (iQ rw0 ns.aI),(n.home.aP.release p.aj p.src).1⟩,0):=by
    unfold Home.unlock;rw [if_neg (by rw [u1];simp)];simp only [hset,if_true,t1]
   have hh:n.home.handle m.c i p=(⟨lT n.home.dD p.aj (iQ rw0 ns.aI),(n.home.aP.release p.aj p.src).1⟩,⟨8,i,p.src,p.id,p.aj,0,0,false,[]⟩,true,0):=by
    unfold Home.handle;rw [if_neg hcond,if_neg (by rw [hL];omega),if_neg (by omega)];simp only [hul,if_true]
   have hans:n.asked m.c i f' p=({ n with home:=⟨lT n.home.dD p.aj (iQ rw0 ns.aI),(n.home.aP.release p.aj p.src).1⟩ },(f'.send ⟨8,i,p.src,p.id,p.aj,0,0,false,[]⟩).1):=by
    unfold Node.asked;rw [if_pos (.inr hk2),hh];simp
   rw [hans];have hok:(⟨8,i,p.src,p.id,p.aj,0,0,false,[]⟩:Pkt).ok=true:=by
    exact Ub (by simp only [zam];omega)
   refine⟨_,⟨?_,XG _ hok rfl rfl rfl⟩,Bj X hn rfl rfl rfl hsr (λj hj=> aS hj) (by
    rw [aJ,show msg p.src=.req p from b3];have:=NJ O.step hst3 p;exact Nat.lt_trans (this _).1 (this .zero).2) (by dsimp only;exact zax (oI _ _) (by omega))⟩
   show nX m.c ((m.with_ i { n with home:=⟨lT n.home.dD p.aj (iQ rw0 ns.aI),(n.home.aP.release p.aj p.src).1⟩ } _ t).abs _ val);rw [Fe (n':={ n with home:=⟨lT n.home.dD p.aj (iQ rw0 ns.aI),(n.home.aP.release p.aj p.src).1⟩ }) (msg:=msg) hn (λ_=> rfl) rfl hL (λL' h=> by show jd (lT _ _ _) L'=_;rw [Ku,if_neg h]) (λL' h=> by show(n.home.aP.release p.aj p.src).1.owner L'=_;rw [t2,if_neg h]) (λL' h=> by show(n.home.aP.release p.aj p.src).1.ws L'=_;rw [t3])];have hrow2:jd (lT n.home.dD p.aj (iQ rw0 ns.aI)) p.aj=iQ ((m.abs msg val).row p.aj) ns.aI:=by rw [Ku,if_pos rfl,ar,hro]
   simp only [hrow2,t2,t3,if_true,aqz];rw [hL] at I';exact I'
 ·-- a cache's requests
  have arB:3<=p.aO/\p.aO<=6:=by
   unfold pV at b2;simp only [zaf,decide_eq_true_eq] at b2;omega
  obtain⟨hown,H⟩:(m.abs msg val).own p.aj=p.src/\Hold m.c.aH (m.c.bg p.aj) ((m.abs msg val).ent p.aj) ((m.abs msg val).row p.aj) ((m.abs msg val).val p.aj) p.src ((m.abs msg val).aI p.src) (.req p):=by
   rcases p4 with⟨h,_⟩ | ⟨_,h,h'⟩
   ·exfalso;rw [h] at hkind;have:p.aO=1:=hkind;omega
   ·exact⟨h,h'⟩
  obtain⟨e,he,Sv⟩:=ang (by omega) H arB;rw [b1] at he;have hfind:n.aG.find p.aj=some e:=by rw [<-sJ hn];exact he
  have hel:=QT hfind;have hem:=(iC NI.aG.aY).1 hfind;have EO:=NI.aG.ent e hem.1;have hlen:e.data.length<=4:=NI.aG.le hc e hem.1;have anJ:¬((!p.ok || decide (p.aO < 3) || decide (6 < p.aO))=true):=by simp [hpk];omega
  have hnw:(m.abs msg val).msg p.src≠.wait:=by rw [hmr];exact λe=> by cases e
  -- what is common
  have fin:∀(ca:Cache) (x:Option Ent) (q:Pkt),(∀L,L≠p.aj->ca.find L=n.aG.find L)->ca.find p.aj=x->fM n.aG p=(ca,q,0)->q.ok=true->pV q.aO=false->q.src=i->q.dst=p.src->Hold m.c.aH (m.c.bg p.aj) (nV ((m.abs msg val).ent p.aj) p.dst x) ((m.abs msg val).row p.aj) ((m.abs msg val).val p.aj) p.src ((m.abs msg val).aI p.src) (.ans q)->((∃e',x=some e')/\p.aO≠6∨x=none)->
    ∃msg',GInv (m.with_ i (n.asked m.c i f' p).1 (n.asked m.c i f' p).2 t) msg' val/\(m.with_ i (n.asked m.c i f' p).1 (n.asked m.c i f' p).2 t).todo msg' < m.todo msg:=λca x q h1 h2 h3 h4 h5 h6 h7 H' h8=> by
   have hans:n.asked m.c i f' p=({ n with aG:=ca },(f'.send q).1):=by
    unfold Node.asked;rw [if_neg hk,h3];simp
   rw [hans];rw [b1] at H';have I':=G.abs.served hsr OL hown (E:=nV ((m.abs msg val).ent p.aj) i x) (q:=q) (λj hj=> by
    by_cases hji:j=i
    ·rw [hji,he] at hj;cases hj
    ·rw [fC hji];exact hj) H' hnw
   refine⟨_,⟨?_,XG q h4 h5 h6 h7⟩,XK X hn hsr OL h1 h2 hmr hfind O.step (h8.imp (λh=> ⟨h.1,hst3 h.2⟩) id) (by dsimp only;exact zax (oI _ _) (by omega))⟩;show nX m.c ((m.with_ i { n with aG:=ca } _ t).abs _ val);rw [qP (n':={ n with aG:=ca }) (msg:=msg) (val:=val) hn rfl h1];simp only [h2];have hdf:dH m.lC i n.aI=m.lC:=by rw [<-jZ hn,jC]
   simp only [hdf];exact I'
  cases Sv with
  | attach k H'=>
   have hput:=xW (e:={ e with bZ:=false,back:=p.ptr }) (x:=e) NI.aG.aY EO.lo (by rw [show({ e with bZ:=false,back:=p.ptr }:Ent).aj=e.aj from rfl,hel];exact hfind);have hpt:=lH (e:={ e with bZ:=false,back:=p.ptr }) (x:=e) NI.aG.aY EO.lo (by rw [show({ e with bZ:=false,back:=p.ptr }:Ent).aj=e.aj from rfl,hel];exact hfind);refine fin (n.aG.put { e with bZ:=false,back:=p.ptr }).1 (some { e with bZ:=false,back:=p.ptr }) _ (λL hL=> by rw [hput,if_neg λh=> hL (h.trans hel)]) (by rw [hput,if_pos hel.symm]) ?_ ?_ rfl b1 rfl H' (.inl ⟨⟨_,rfl⟩,by omega⟩)
   ·unfold fM;rw [if_neg anJ,hfind];simp only [k,if_true];rw [hpt];simp [BN]
   ·exact Ub (by omega)
  | front k H'=>
   have hput:=xW (e:={ e with fwd:=p.ptr }) (x:=e) NI.aG.aY EO.lo (by rw [show({ e with fwd:=p.ptr }:Ent).aj=e.aj from rfl,hel];exact hfind);have hpt:=lH (e:={ e with fwd:=p.ptr }) (x:=e) NI.aG.aY EO.lo (by rw [show({ e with fwd:=p.ptr }:Ent).aj=e.aj from rfl,hel];exact hfind);refine fin (n.aG.put { e with fwd:=p.ptr }).1 (some { e with fwd:=p.ptr }) _ (λL hL=> by rw [hput,if_neg λh=> hL (h.trans hel)]) (by rw [hput,if_pos hel.symm]) ?_ ?_ rfl b1 rfl H' (.inl ⟨⟨_,rfl⟩,by omega⟩)
   ·unfold fM;rw [if_neg anJ,hfind];simp only [k];rw [if_neg (by decide),if_pos trivial,hpt];simp [BN]
   ·exact Ub (by simp only [zam];omega)
  | behind k H'=>
   have hput:=xW (e:={ e with back:=p.ptr }) (x:=e) NI.aG.aY EO.lo (by rw [show({ e with back:=p.ptr }:Ent).aj=e.aj from rfl,hel];exact hfind);have hpt:=lH (e:={ e with back:=p.ptr }) (x:=e) NI.aG.aY EO.lo (by rw [show({ e with back:=p.ptr }:Ent).aj=e.aj from rfl,hel];exact hfind);refine fin (n.aG.put { e with back:=p.ptr }).1 (some { e with back:=p.ptr }) _ (λL hL=> by rw [hput,if_neg λh=> hL (h.trans hel)]) (by rw [hput,if_pos hel.symm]) ?_ ?_ rfl b1 rfl H' (.inl ⟨⟨_,rfl⟩,by omega⟩)
   ·unfold fM;rw [if_neg anJ,hfind];simp only [k];rw [if_neg (by decide),if_neg (by decide),if_pos trivial,hpt];simp [BN]
   ·exact Ub (by simp only [zam];omega)
  | IQ k hfw H'=>
   have hdr:=Bg (aj:=p.aj) NI.aG.aY;refine fin (n.aG.drop p.aj) none _ (λL hL=> by rw [hdr,if_neg hL]) (by rw [hdr,if_pos rfl]) ?_ ?_ rfl b1 rfl H' (.inr rfl)
   ·unfold fM;rw [if_neg anJ,hfind];simp only [k];rw [if_neg (by decide),if_neg (by decide),if_neg (by decide)];simp [BN]
   ·exact Ub (by omega)
end
theorem Hold.data {N hm:Int}{E:uf}{r:Row}{v:List Int}{i:Int}{d:bP}{o:Out}(H:Hold N hm E r v i d o){j:Int}{e:Ent}(he:E j=some e):e.data=v:=by
 cases H with
 | granted _ W=> exact W.data j e he
 | attach _ _ _ _ W=> exact W.data j e he
 | attached _ _ _ _ _ _ _ _ X _=> exact X j e he
 | IQ _ _ L _ _=> exact L.data j e he
 | Ir _ _ L _ _=> exact L.data j e he
 | front _ _ M _ _ _ _ _=> exact M.data j e he
 | zh _ _ M _ _ _ _ _ _=> exact M.data j e he
 | behind _ _ M _ _ _ _ _ _=> exact M.data j e he
 | vw _ _ M _ _ _ _ _ _=> exact M.data j e he
 | unlock _ W=> exact W.data j e he
theorem nX.data {c:Cfg}{a:Abs}(I:nX c a){L j:Int}(hL:0<=L/\L < c.aY){e:Ent}(he:a.ent L j=some e):e.data=a.val L:=by
 rcases I.aj L hL.1 hL.2 with⟨_,l,W⟩ | ⟨_,_,_,H⟩
 ·exact W.data j e he
 ·exact Hold.data H he
section
variable {m:cZ}{T:Nat}{i:Nat}{n n1:Node}{f:Fab}{t:List Evn}{msg msg':Int->Out}{val val':Int->List Int}
theorem GInv.idle(X:MX T m)(G:GInv m msg val)(hn:m.aH[i]?=some n)(h0:n.aI.step=0):msg i=.idle:=by
 have hi:=X.range hn;have hd:(m.abs msg val).aI i=n.aI:=jZ hn;rcases G.abs.bD i hi.1 hi.2 with⟨_,h⟩ | O
 ·exact h
 ·have:=O.step;rw [hd] at this;exact absurd h0 this
theorem GInv.begin_(X:MX T m)(G:GInv m msg val)(hn:m.aH[i]?=some n)(h0:n.aI.step=0)(e1:n1.aG=n.aG)(e2:n1.home=n.home)(e4:n1.num=n.num)(e5:n1.IE=n.IE){k L:Int}(hk:1<=k/\k<=3)(hL:0<=L/\L < m.c.aY)(hm:k=1->n.aG.find L=none)(hm3:k=3->n.aG.find L≠none):
  ∃msg',GInv (m.with_ i (n1.begin_ m.c i m.fab k L).1 (n1.begin_ m.c i m.fab k L).2 t) msg' val/\(m.with_ i (n1.begin_ m.c i m.fab k L).1 (n1.begin_ m.c i m.fab k L).2 t).todo msg' < m.todo msg:=by
 have hc:=X.inv.ok;have hi:=X.range hn;have NX_:=X.bD i n hn;have hd:(m.abs msg val).aI i=n.aI:=jZ hn;have hidle:=G.idle X hn h0;have hid:0<=n.num/\n.num < 4096:=⟨NX_.VR,NX_.num1⟩
 have I':=G.abs.begin_ (L:=L) (k:=k) (id:=n.num) hi (by rw [hd];exact h0) hk hid hL (λh=> by rw [<-hm h];exact sJ hn L);obtain⟨a1,a2,a3,a4,a5⟩:=aby hc hi (k:=k) hL hid;have hout:1<=m.fab.out:=by
  have:=(lI hc).2.2.2.2.2.1;rw [X.inv.fab.out];exact this.1
 have R':=G.pk.anb (p:=(bP.begin k L n.num).ask i (m.c.bg L)) (by rw [a3,hidle];exact λq e=> by cases e) (by rw [a3,hidle];exact λq e=> by cases e) a1 a2 (by rw [a3];exact X.is hi rfl) (X.is ⟨a4,a5⟩ rfl) hout;rw [a3] at R';have hb:n1.begin_ m.c i m.fab k L=({ n1 with aI:=bP.begin k L n.num,num:=(n.num+1).tmod 4096 },(m.fab.send ((bP.begin k L n.num).ask i (m.c.bg L))).1):=by
  unfold Node.begin_ Node.acF;simp only [e4];rfl
 rw [hb];refine⟨_,⟨?_,R'.2⟩,oJ X hn hL e2 (λL' _=> by show n1.aG.find L'=_;rw [e1]) (λL' hL' y=> by rw [xg (.inl h0),xg (.inr (.inr (.inl λe=> hL' e.symm)))]) (by dsimp only;exact oI _ _) (λj hj=> aS hj) ?_⟩;rotate_left
 ·rw [aJ,hidle]
  dsimp only
  have d0:Dp n.aI .idle=13:=if_pos h0;have d1:Dp (.begin k L n.num) (.req ((bP.begin k L n.num).ask i (m.c.bg L)))=12+if k=3∨(1:Int)=6 then 13 else 0:=rfl;have e6:Node.IE { n1 with aI:=bP.begin k L n.num,num:=(n.num+1).tmod 4096 }=n.IE:=e5;rw [e6,d0,d1,e1];by_cases h3:k=3
  ·obtain⟨e,he⟩:=Option.ne_none_iff_exists'.1 (hm3 h3);have w1:wt (.begin k L n.num) L (some e)=3:=by
    unfold wt;rw [if_neg (zdy e),if_pos ⟨h3,(by decide:(1:Int)≠0),(by decide:(1:Int)≠6),rfl⟩]
   have w2:wt n.aI L (some e)=16:=by
    rw [xg (.inl h0),if_neg (zdy e)]
   rw [he,w1,w2,if_pos (.inl h3)];omega
  ·rw [xg (.inl h0),xg (.inr (.inr (.inr h3))),if_neg (by omega)];omega
 show nX m.c ((m.with_ i { n1 with aI:=bP.begin k L n.num,num:=(n.num+1).tmod 4096 } _ t).abs _ val);rw [Fg (n':={ n1 with aI:=bP.begin k L n.num,num:=(n.num+1).tmod 4096 }) (msg:=msg) (val:=val) hn e2 (λL'=> by show n1.aG.find L'=_;rw [e1])];exact I'
theorem Kw {c:Cfg}{P:Int->Nat->Option Opn}{t:List Evn}{b:Bool}{k:Nat}{o:Opn}{j:Int}(hP:P j k=some o):zo c P t val ((if b then t else t++[⟨j,k,false,0⟩])++[⟨j,k,true,(kD c o val).2⟩]) (kD c o val).1:=by
 cases b with
 | true=> exact .done j k o hP .same
 | false=> exact .done j k o hP (.dU j k .same)
theorem vJ {c:Cfg}{P:Int->Nat->Option Opn}{t:List Evn}{b:Bool}{k:Nat}{j:Int}:zo c P t val (if b then t else t++[⟨j,k,false,0⟩]) val:=by
 cases b with
 | true=> exact .same
 | false=> exact .dU j k .same
theorem GInv.work(X:MX T m)(G:GInv m msg val)(hn:m.aH[i]?=some n)(h0:n.aI.step=0){o:Opn}(o1:n.bG.cur=some o):
  ∃msg' val',GInv (m.with_ i (n.work m.c i m.fab m.trace o).1 (n.work m.c i m.fab m.trace o).2.1 (n.work m.c i m.fab m.trace o).2.2) msg' val'/\zo m.c m.opAt m.trace val (n.work m.c i m.fab m.trace o).2.2 val'/\(m.with_ i (n.work m.c i m.fab m.trace o).1 (n.work m.c i m.fab m.trace o).2.1 (n.work m.c i m.fab m.trace o).2.2).todo msg' < m.todo msg:=by
 have hc:=X.inv.ok;have hi:=X.range hn;have NI:=X.inv.bD i n hn;have hright:=NI.bG.right o (zau o1);have OO:=anE hc hright.1;have hL:0<=m.c.bU o.addr/\m.c.bU o.addr < m.c.aY:=⟨OO.lo,OO.hi⟩
 have hP:=NH hn o1;have hd:(m.abs msg val).aI i=n.aI:=jZ hn;unfold Node.work;simp only;obtain⟨n1,hn1⟩:∃n1:Node,n1={ n with bG:={ n.bG with dU:=true } }:=⟨_,rfl⟩
 have c1:n1.aG=n.aG:=by rw [hn1]
 have c2:n1.home=n.home:=by rw [hn1]
 have c3:n1.aI=n.aI:=by rw [hn1]
 have c4:n1.num=n.num:=by rw [hn1]
 have c5:n1.bG.cur=some o:=by rw [hn1];exact o1
 have c6:n1.bG.aZ=n.bG.aZ:=by rw [hn1]
 rw [<-hn1,show n.aG=n1.aG from c1.symm];have c7:n1.bG.dU=true:=by rw [hn1]
 have c8:n1.IE=n.IE:=by rw [hn1];rfl
 have hidx:n1.bG.idx=n.bG.aZ.length:=by unfold Proc.idx;rw [c5,c6]
 have hop:n1.bG.op=o:=by unfold Proc.op;rw [c5];rfl
 obtain⟨t1,ht1⟩:∃t1,t1=(if n.bG.dU=true then m.trace else m.trace++[⟨i,n.bG.aZ.length,false,0⟩]):=⟨_,rfl⟩
 rw [<-ht1];by_cases k1:o.aO=4/\n1.aG.find (m.c.bU o.addr)=none
 ·rw [if_pos k1];have hov:kD m.c o val=(val,0):=by
   unfold kD;rw [if_neg (by omega),if_neg (by omega),if_neg (by omega)]
  refine⟨msg,val,⟨?_,G.pk⟩,?_,oJ X hn hL c2 (λL' _=> by show n1.aG.find L'=_;rw [c1]) (λL' _ y=> by show wt n1.aI L' y=_;rw [c3]) (za0 _) (λ_ _=> rfl) ?_⟩
  ·show nX m.c ((m.with_ i { n1 with bG:=n1.bG.yC 0 } m.fab _).abs msg val);rw [Fg (n':={ n1 with bG:=n1.bG.yC 0 }) (msg:=msg) (val:=val) hn c2 (λL'=> by show n1.aG.find L'=_;rw [c1])];have:dH m.lC i n1.aI=m.lC:=by rw [c3,<-jZ hn,jC]
   simp only [this];exact G.abs
  ·have:=Kw (c:=m.c) (t:=m.trace) (val:=val) (b:=n.bG.dU) hP;rw [hov] at this;unfold Node.done;rw [hidx,ht1];exact this
  ·have:=Fh (n':=(n1.done i t1 0).1) c5 c7 rfl;have h1:=aiF (d:=n1.aI) (L:=m.c.bU o.addr) (x:=n1.aG.find (m.c.bU o.addr));show 33*Node.IE (n1.done i t1 0).1+Dp n1.aI (msg i)+wt n1.aI _ (n1.aG.find _) < _;rw [<-c3];omega
 rw [if_neg k1];by_cases k2:o.aO=4
 ·rw [if_pos k2];obtain⟨msg',G',F⟩:=G.begin_ (n1:=n1) (k:=3) (t:=t1) X hn h0 c1 c2 c4 c8 ⟨by decide,by decide⟩ hL (λh=> absurd h (by decide)) (λ_ h=> k1 ⟨k2,c1 ▸ h⟩);exact⟨msg',val,G',by rw [ht1];exact vJ,F⟩
 rw [if_neg k2];by_cases k3:(n1.aG.find (m.c.bU o.addr)).isSome=true/\(o.aO=1∨((n1.aG.find (m.c.bU o.addr)).getD .zero).bZ=true)
 ·rw [if_pos k3];obtain⟨e,he⟩:=zc4.1 k3.1;have he':n.aG.find (m.c.bU o.addr)=some e:=by rw [<-c1];exact he
  have hdt:=k3.2;rw [he] at hdt;simp only [zav] at hdt;have hem:=(iC NI.aG.aY).1 he';have EO:=NI.aG.ent e hem.1;have hko:o.aO=1∨((o.aO=2∨o.aO=3)/\e.bZ=true):=by
   rcases hdt with h | h
   ·exact .inl h
   ·by_cases h1:o.aO=1
    ·exact .inl h1
    ·exact .inr ⟨by have:=OO.k1;have:=OO.k4;omega,h⟩
  have hae:(m.abs msg val).ent (m.c.bU o.addr) i=some e:=by
   show m.Fb _ i=_;rw [sJ hn];exact he'
  have hdata:=G.abs.data hL hae;obtain⟨e2,he2⟩:∃e2:Ent,e2={ e with used:=n.aG.bW+1 }:=⟨_,rfl⟩
  have hdl:=EO.dat.1;have d1:e2.data=e.data:=by rw [he2]
  have d2:e2.back=e.back:=by rw [he2]
  have d3:e2.fwd=e.fwd:=by rw [he2]
  have d4:e2.bZ=e.bZ:=by rw [he2]
  have d5:e2.aj=e.aj:=by rw [he2]
  obtain⟨w1,w2,w3,w4,w5,w6,w7⟩:=abz (c:=m.c) (val:=val) (e:=e2) (by rw [d4];exact hko) (by rw [d1];exact hdata) (by rw [d1];have:=OO.wlo;have:=OO.whi;omega);have y:=qN e2 o (m.c.dh o.addr);have hto:=XH NI.aG.aY he';have TI:=NI.aG.touch he';have hput:=xW TI.aY (e:=eP e2 o (m.c.dh o.addr)) (x:=e2) (by rw [y.1,d5];exact EO.lo) (by rw [y.1,d5,hto,if_pos hem.2,he2]);have hsame:({ eP e2 o (m.c.dh o.addr) with used:=e2.used }:Ent)=eP e2 o (m.c.dh o.addr):=by rw [<-y.2.1]
  have hel:(eP e2 o (m.c.dh o.addr)).aj=m.c.bU o.addr:=by rw [y.1,d5];exact hem.2
  have heff:({ n1 with aG:=n1.aG.touch (m.c.bU o.addr) }:Node).effect m.c i t1=({ n1 with aG:=((n.aG.touch (m.c.bU o.addr)).put (eP e2 o (m.c.dh o.addr))).1,bG:=n1.bG.yC (if o.aO=2 then 0 else e2.word (m.c.dh o.addr)) },t1++[⟨i,n.bG.aZ.length,true,if o.aO=2 then 0 else e2.word (m.c.dh o.addr)⟩]):=by
   unfold Node.effect Node.done;have hop':({ n1 with aG:=n1.aG.touch (m.c.bU o.addr) }:Node).bG.op=o:=hop;simp only [hop',hidx,c1,hto,if_true,zav,<-he2]
  have hnn:({ aG:=n1.aG.touch (m.c.bU o.addr),bG:={ ops:=n.bG.ops,aZ:=n.bG.aZ,dU:=true },home:=n.home,aI:=n.aI,num:=n.num }:Node)={ n1 with aG:=n1.aG.touch (m.c.bU o.addr) }:=by rw [hn1]
  rw [hnn,heff];have hx:((n.aG.touch (m.c.bU o.addr)).put (eP e2 o (m.c.dh o.addr))).1.find (m.c.bU o.addr)=some (eP e2 o (m.c.dh o.addr)):=by
   rw [hput,if_pos hel.symm,hsame]
  have apZ:(kD m.c o val).1 (m.c.bU o.addr)≠[]:=by
   rw [<-w1];intro h;have h1:=y.2.2.2;have:=(lI hc).2.2.1;rw [h,d1] at h1;simp only [zam] at h1;omega
  refine⟨msg,(kD m.c o val).1,⟨?_,G.pk⟩,?_,oJ X hn hL c2 (λL' h=> by
    show((n.aG.touch _).put _).1.find L'=_;rw [hput,if_neg λh'=> h (h'.trans hel),hto,if_neg h]) (λL' _ y=> by show wt n1.aI L' y=_;rw [c3]) (za0 _) (λ_ _=> rfl) ?_⟩
  ·show nX m.c ((m.with_ i { n1 with aG:=((n.aG.touch (m.c.bU o.addr)).put (eP e2 o (m.c.dh o.addr))).1,bG:=n1.bG.yC (if o.aO=2 then 0 else e2.word (m.c.dh o.addr)) } m.fab _).abs msg _);rw [qP (n':={ n1 with aG:=((n.aG.touch (m.c.bU o.addr)).put (eP e2 o (m.c.dh o.addr))).1,bG:=n1.bG.yC (if o.aO=2 then 0 else e2.word (m.c.dh o.addr)) }) (msg:=msg) (val:=val) hn c2 (L:=m.c.bU o.addr) (λL' h=> by
    show((n.aG.touch _).put _).1.find L'=_;rw [hput,if_neg λh'=> h (h'.trans hel),hto,if_neg h])]
   have hdf:dH m.lC i n1.aI=m.lC:=by rw [c3,<-jZ hn,jC]
   simp only [hx,hdf];have I':=G.abs.hit (L:=m.c.bU o.addr) (e:=e) (e':=eP e2 o (m.c.dh o.addr)) (v':=(kD m.c o val).1 (m.c.bU o.addr)) hi (by rw [hd];exact h0) hL hae (w4.trans d2) (w5.trans d3) (w6.trans d4) (by
    rcases hko with h | ⟨_,h⟩
    ·refine .inl ⟨by rw [w7 h,d1],?_⟩;unfold kD;rw [if_pos h];rfl
    ·exact .inr ⟨h,w1⟩) apZ
   have hvf:dH (m.abs msg val).val (m.c.bU o.addr) ((kD m.c o val).1 (m.c.bU o.addr))=(kD m.c o val).1:=by
    funext L
    by_cases h:L=m.c.bU o.addr
    ·rw [h,aJ]
    ·rw [aS h,w2 L h];rfl
   rw [hvf] at I';exact I'
  ·rw [w3,ht1];exact Kw hP
  ·have h0:=Fh (n':={ n1 with aG:=((n.aG.touch (m.c.bU o.addr)).put (eP e2 o (m.c.dh o.addr))).1,bG:=n1.bG.yC (if o.aO=2 then 0 else e2.word (m.c.dh o.addr)) }) c5 c7 rfl;have h1:=aiF (d:=n1.aI) (L:=m.c.bU o.addr) (x:=((n.aG.touch (m.c.bU o.addr)).put (eP e2 o (m.c.dh o.addr))).1.find (m.c.bU o.addr))
   dsimp only at h0 ⊢
   rw [<-c3];omega
 rw [if_neg k3];by_cases k4:n1.aG.full (m.c.bU o.addr)=true
 ·rw [if_pos k4];rw [c1] at k4;have hset:n.aG.oD (m.c.bU o.addr)≠[]:=by
   intro e;unfold Cache.full at k4;simp only [e,zam,zaf,decide_eq_true_eq] at k4;have:=(lI hc).2.2.2.2.1;rw [NI.aG.ways] at k4;omega
  obtain⟨e,he⟩:∃e,nJ (n.aG.oD (m.c.bU o.addr))=some e:=by
   cases h:n.aG.oD (m.c.bU o.addr) with
   | nil=> exact absurd h hset
   | cons a l=> exact⟨_,rfl⟩
  have hv:n.aG.nR (m.c.bU o.addr)=some e.aj:=by unfold Cache.nR;rw [he];rfl
  have hem:e∈n.aG.l:=by
   have:=(rD he).1;unfold Cache.oD at this;exact(zbk.1 this).1
  have EO:=NI.aG.ent e hem;rw [c1,hv];simp only [zav];obtain⟨msg',G',F⟩:=G.begin_ (n1:=n1) (k:=3) (L:=e.aj) (t:=t1) X hn h0 c1 c2 c4 c8 ⟨by decide,by decide⟩ ⟨EO.lo,EO.hi⟩ (λh=> absurd h (by decide)) (λ_ h=> nomatch ((iC NI.aG.aY).2 ⟨hem,rfl⟩:n.aG.find e.aj=some e).symm.trans h);exact⟨msg',val,G',by rw [ht1];exact vJ,F⟩
 rw [if_neg k4];by_cases k5:o.aO=1
 ·rw [if_pos k5];obtain⟨msg',G',F⟩:=G.begin_ (n1:=n1) (k:=1) (t:=t1) X hn h0 c1 c2 c4 c8 ⟨by decide,by decide⟩ hL (λ_=> by
   cases h:n.aG.find (m.c.bU o.addr) with
   | none=> rfl
   | some e=> exact absurd ⟨by rw [c1,h];rfl,.inl k5⟩ k3) (λh=> absurd h (by decide))
  exact⟨msg',val,G',by rw [ht1];exact vJ,F⟩
 ·rw [if_neg k5];obtain⟨msg',G',F⟩:=G.begin_ (n1:=n1) (k:=2) (t:=t1) X hn h0 c1 c2 c4 c8 ⟨by decide,by decide⟩ hL (λh=> absurd h (by decide)) (λh=> absurd h (by decide));exact⟨msg',val,G',by rw [ht1];exact vJ,F⟩
theorem VW(X:MX T m)(hn:m.aH[i]?=some n)(h:m.fab.roomOf i false≠0):0 < m.fab.roomOf i false:=by
 have hi:=X.range hn;have his:=X.is hi (f:=m.fab) rfl;have P:=(X.inv.fab.get his).an;unfold Fab.roomOf at h ⊢;rw [if_pos his] at h ⊢;rw [X.inv.fab.out] at h ⊢;simp only [Port.sort,zae,if_false] at h ⊢;omega
theorem GInv.step(X:MX T m)(G:GInv m msg val)(j:Int):∃msg' val',GInv (m.step j).1 msg' val'/\zo m.c m.opAt m.trace val (m.step j).1.trace val'/\((m.step j).2≠0->(m.step j).1.todo msg' < m.todo msg):=by
 unfold cZ.step;cases hnd:m.bD j with
 | none=> exact⟨msg,val,G,.same,λh=> absurd rfl h⟩
 | some n=>
  simp only;have hj:0<=j/\m.aH[j.toNat]?=some n:=by
   unfold cZ.bD at hnd;split at hnd
   ·exact⟨by assumption,hnd⟩
   ·cases hnd
  obtain⟨i,rfl⟩:∃i:Nat,j=i:=⟨j.toNat,by omega⟩
  rw [zar] at hj ⊢;have hn:=hj.2;have key:∃msg' val',GInv (m.with_ i (n.step m.c i m.fab m.trace).1.1 (n.step m.c i m.fab m.trace).1.2.1 (n.step m.c i m.fab m.trace).1.2.2) msg' val'/\zo m.c m.opAt m.trace val (n.step m.c i m.fab m.trace).1.2.2 val'/\((n.step m.c i m.fab m.trace).2≠0->(m.with_ i (n.step m.c i m.fab m.trace).1.1 (n.step m.c i m.fab m.trace).1.2.1 (n.step m.c i m.fab m.trace).1.2.2).todo msg' < m.todo msg):=by
   unfold Node.step;cases ht:m.fab.take i false with
   | mk f' po=>
    cases po with
    | some p=>
     obtain⟨msg',val',G',T',F⟩:=G.answered X hn ht;exact⟨msg',val',G',T',λ_=> F⟩
    | none=>
     simp only;by_cases hg:n.home.ready≠[]/\m.fab.roomOf i false≠0
     ·rw [if_pos hg];obtain⟨msg',G',F⟩:=G.grant (t:=m.trace) X hn hg.1 (VW X hn hg.2);exact⟨msg',val,G',.same,λ_=> F⟩
     ·rw [if_neg hg];cases hr:(if m.fab.roomOf i false=0 then(m.fab,none) else m.fab.take i true) with
      | mk f2 po2=>
       cases po2 with
       | some p=>
        simp only;have hro:m.fab.roomOf i false≠0:=λh=> by rw [if_pos h] at hr;cases hr
        rw [if_neg hro] at hr;obtain⟨msg',G',F⟩:=G.asked (t:=m.trace) X hn hr (VW X hn hro);exact⟨msg',val,G',.same,λ_=> F⟩
       | none=>
        simp only;have hself:GInv (m.with_ i n m.fab m.trace) msg val:=by
         have:m.with_ i n m.fab m.trace=m:=by
          unfold cZ.with_;have:m.aH.set i n=m.aH:=by
           apply zbd
           intro k;by_cases h:i=k
           ·rw [<-h,za7 (zai.1 hn).1,hn]
           ·rw [zbe h]
          rw [this]
         rw [this];exact G
        cases hcu:n.bG.cur with
        | none=> exact⟨msg,val,hself,.same,λh=> absurd rfl h⟩
        | some o=>
         simp only;by_cases hs:n.aI.step=0
         ·rw [if_pos hs];obtain⟨msg',val',G',T',F⟩:=G.work X hn hs hcu;exact⟨msg',val',G',T',λ_=> F⟩
         ·rw [if_neg hs];exact⟨msg,val,hself,.same,λh=> absurd rfl h⟩
  exact key
theorem GInv.do_(X:MX T m)(G:GInv m msg val)(p:Pck):∃msg' val',GInv (m.do_ p).1 msg' val'/\zo m.c m.opAt m.trace val (m.do_ p).1.trace val'/\((m.do_ p).2=true->(m.do_ p).1.todo msg' < m.todo msg):=by
 unfold cZ.do_;split
 ·refine⟨msg,val,⟨?_,?_⟩,.same,λh=> ?_⟩
  ·have:(m.deliver p.at_ p.bit p.mask).1.abs msg val=m.abs msg val:=rfl;rw [this];exact G.abs
  ·exact G.pk.deliver X.dst.all _ _ _
  ·have hu:=Bh X.dst.all (of_decide_eq_true h);have h1:(m.deliver p.at_ p.bit p.mask).1.todo msg=2*pot m.c m.pK (m.abs msg λ_=> [])+(m.fab.deliver p.at_ p.bit p.mask).1.under:=rfl;have h2:m.todo msg=2*pot m.c m.pK (m.abs msg λ_=> [])+m.fab.under:=rfl;rw [h1,h2];omega
 ·obtain⟨msg',val',G',T',F⟩:=G.step X p.at_;exact⟨msg',val',G',T',λh=> F (of_decide_eq_true h)⟩
theorem ad9 {c:Cfg}(hc:c.ok=true){ps:List (List Opn)}(hp:(ps.length:Int)=c.aH):GInv (cZ.new c ps) (λ_=> .idle) c.first:=by
 obtain⟨cn,cl,cw,_⟩:=lI hc;have bD:∀j:Int,0<=j->j < c.aH->∃l,(cZ.new c ps).bD j=some (.new c j l):=λj h0 h1=> by
  obtain⟨k,rfl⟩:∃k:Nat,j=k:=⟨j.toNat,by omega⟩
  have hk:k < ps.length:=by omega
  refine⟨ps[k],?_⟩;unfold cZ.bD cZ.new;rw [if_pos h0,zar];simp [zbf,zab hk]
 have out:∀j:Int,¬(0<=j/\j < c.aH)->(cZ.new c ps).bD j=none:=λj h=> by
  unfold cZ.bD cZ.new;by_cases h0:0<=j
  ·rw [if_pos h0];simp only;rw [zaH];rw [zdE];omega
  ·rw [if_neg h0]
 have any:∀j:Int,(∃l,(cZ.new c ps).bD j=some (.new c j l))∨(cZ.new c ps).bD j=none:=λj=> by
  by_cases h:0<=j/\j < c.aH
  ·exact .inl (bD j h.1 h.2)
  ·exact .inr (out j h)
 have ent:∀L j,(cZ.new c ps).Fb L j=none:=λL j=> by
  unfold cZ.Fb;rcases any j with⟨l,h⟩ | h
  ·rw [h];rfl
  ·rw [h];rfl
 have own:∀L,((cZ.new c ps).lQ L).aP=⟨[],[]⟩:=λL=> by
  unfold cZ.lQ;rcases any ((cZ.new c ps).c.bg L) with⟨l,h⟩ | h
  ·rw [h];rfl
  ·rw [h]
 have aI:∀j,((cZ.new c ps).lC j).step=0:=λj=> by
  unfold cZ.lC;rcases any j with⟨l,h⟩ | h
  ·rw [h];rfl
  ·rw [h];rfl
 have row:∀L,0<=L->L < c.aY->jd ((cZ.new c ps).lQ L).dD L=⟨0,-1,c.first L⟩:=λL h0 h1=> by
  have hh:=Dk hc h0;obtain⟨l,h⟩:=bD (c.bg L) hh.1 hh.2;unfold cZ.lQ;have hcc:(cZ.new c ps).c=c:=rfl;rw [hcc,h];unfold jd;show(jl (c.nS (c.bg L) c.aY.toNat) L).getD .zero=_;rw [A8,if_pos ⟨h0,by omega,rfl⟩];rfl
 have first:∀L,0<=L->L < c.aY->c.first L≠[]:=λL h0 h1 e=> by
  have:=congrArg List.length e;unfold Cfg.first at this
  rw [if_neg (by omega)] at this;simp only [zaB,zcv,zam] at this;omega
 refine⟨⟨λL h0 h1=> .inl ⟨?_,[],?_⟩,λj _ _=> .inl ⟨aI j,rfl⟩,λL=> ?_,first,λL _=> ?_⟩,?_⟩
 ·show((cZ.new c ps).lQ L).aP.owner L=-1;rw [own];rfl
 ·show Wf c.aH ((cZ.new c ps).Fb L) (jd ((cZ.new c ps).lQ L).dD L) (c.first L) [];rw [row L h0 h1];exact⟨⟨zc5,λj hj=> (by cases hj)⟩,trivial,λj e h=> (by rw [ent] at h;cases h),rfl,.inl rfl,(by simp),λh=> absurd (show(0:Int)=2 from h) (by decide),λj e h=> (by rw [ent] at h;cases h),λj e h=> (by rw [ent] at h;cases h),λ_=> rfl⟩
 ·have hw:((cZ.new c ps).abs (λ_=> .idle) c.first).ws L=[]:=by
   show((cZ.new c ps).lQ L).aP.ws L=[]
   rw [own];rfl
  exact⟨by rw [hw];exact zc5,λw h=> (by rw [hw] at h;cases h)⟩
 ·show((cZ.new c ps).lQ L).aP.owner L=-1;rw [own];rfl
 ·have port:∀p∈(cZ.new c ps).fab.l,p=.zero:=λp h=> zcb h;have hr:xR (cZ.new c ps).fab=[]:=zbL.2 λp h=> by rw [port p h];rfl
  have ha:xU (cZ.new c ps).fab=[]:=zbL.2 λp h=> by rw [port p h];rfl
  refine⟨λk q h=> ?_,by rw [hr];exact zc5,by rw [ha];exact zc5,λ_ _ h=> (by cases h),λ_ _ h=> (by cases h),λ_ _ h=> (by cases h),λ_ _ h=> (by cases h),λ_ _ h=> (by rcases h with h | h <;> cases h)⟩;rw [port q (zau h)];exact⟨λp h=> (by cases h),λp h=> (by cases h),λp h=> (by cases h),λp h=> (by cases h)⟩
end
section
variable {m:cZ}{T:Nat}{msg:Int->Out}{val:Int->List Int}
theorem aea {α:Type}{l:List α}{i:Nat}{x:α}(h:l[i]?=some x):l.set i x=l:=by
 apply zbd
 intro k;by_cases e:i=k
 ·rw [<-e,za7 (zai.1 h).1,h]
 ·rw [zbe e]
theorem XL {j:Int}(h:(m.step j).2=0):(m.step j).1=m:=by
 unfold cZ.step at h ⊢;cases hn:m.bD j with
 | none=> rfl
 | some n=>
  rw [hn] at h;simp only at h ⊢;have hj:0<=j/\m.aH[j.toNat]?=some n:=by
   unfold cZ.bD at hn;split at hn
   ·exact⟨by assumption,hn⟩
   ·cases hn
  have hs:(n.step m.c j m.fab m.trace).1=(n,m.fab,m.trace):=by
   unfold Node.step at h ⊢;cases ht:m.fab.take j false with
   | mk f' po=>
    rw [ht] at h;cases po with
    | some p=> simp at h
    | none=>
     simp only at h ⊢;split at h
     ·simp at h
     ·rename_i hg;rw [if_neg hg];cases hr:(if m.fab.roomOf j false=0 then(m.fab,none) else m.fab.take j true) with
      | mk f2 po2=>
       rw [hr] at h;cases po2 with
       | some p=> simp at h
       | none=>
        simp only at h ⊢;cases hc:n.bG.cur with
        | none=> rfl
        | some o=>
         rw [hc] at h;simp only at h ⊢;by_cases hd:n.aI.step=0
         ·rw [if_pos hd] at h;simp at h
         ·rw [if_neg hd]
  cases hst:n.step m.c j m.fab m.trace with
  | mk w k=>
   obtain⟨n',f',t'⟩:=w;rw [hst] at hs;simp only [zad] at hs;obtain⟨rfl,rfl,rfl⟩:=hs;simp only;rw [aea hj.2]
theorem NM {a b k:Int}(h:(m.fab.deliver a b k).2≠0):(m.fab.deliver a b k).1=m.fab:=by
 unfold Fab.deliver at h ⊢;by_cases h1:a < 0
 ·rw [if_pos h1]
 rw [if_neg h1] at h ⊢;cases hp:m.fab.all[a.toNat]? with
 | none=> rfl
 | some p=>
  rw [hp] at h;simp only at h ⊢;by_cases h2:aP p.bytes b k=true
  ·rw [if_pos h2]
  rw [if_neg h2] at h ⊢;by_cases h3:m.fab.room (pV p.aO)<=((m.fab.port p.dst).pF (pV p.aO)).length
  ·rw [if_pos h3]
  rw [if_neg h3] at h;exact absurd rfl h
theorem aeb {p:Pck}(h:(m.do_ p).2=false):(m.do_ p).1=m:=by
 unfold cZ.do_ at h ⊢;by_cases hd:p.deliver=true
 ·rw [if_pos hd] at h ⊢;simp only [decide_eq_false_iff_not] at h;unfold cZ.deliver at h ⊢;simp only at h ⊢;rw [NM h]
 ·rw [if_neg hd] at h ⊢;simp only [decide_eq_false_iff_not,Classical.not_not] at h;exact XL h
structure anh(m:cZ):Prop where
 step:∀j:Nat,j < m.aH.length->(m.step j).2=0
 give:∀q:Nat,q < m.fab.under->(m.fab.deliver q 0 0).2≠0
theorem XM(X:MX T m)(G:GInv m msg val)(S:anh m):m.over=true:=by
 have hc:=X.inv.ok;obtain⟨cn,cl,_,_,_,co,ci⟩:=lI hc;have hlen:=X.inv.len;have arC:=X.inv.fab.len
 -- what a node's step finds
 have VX:∀(i:Nat) n,m.aH[i]?=some n->(m.fab.take i false).2=none/\¬(n.home.ready≠[]/\m.fab.roomOf i false≠0)/\(m.fab.roomOf i false≠0->(m.fab.take i true).2=none)/\(n.aI.step=0->n.bG.cur=none):=λi n hn=> by
  have h:=S.step i (zai.1 hn).1;unfold cZ.step at h;rw [rV hn] at h;simp only at h;unfold Node.step at h;cases ht:m.fab.take i false with
  | mk f' po=>
   rw [ht] at h;cases po with
   | some p=> simp at h
   | none=>
    simp only at h;by_cases hg:n.home.ready≠[]/\m.fab.roomOf i false≠0
    ·rw [if_pos hg] at h;simp at h
    ·rw [if_neg hg] at h;cases hr:(if m.fab.roomOf i false=0 then(m.fab,none) else m.fab.take i true) with
     | mk f2 po2=>
      rw [hr] at h;cases po2 with
      | some p=> simp at h
      | none=>
       refine⟨rfl,hg,λh0=> by rw [if_neg h0] at hr;rw [hr],λhd=> ?_⟩;cases hcu:n.bG.cur with
       | none=> rfl
       | some o=>
        rw [hcu] at h;simp only at h;rw [if_pos hd] at h;simp at h
 have port:∀(i:Nat) q,m.fab.l[i]?=some q->∃n,m.aH[i]?=some n:=λi q hq=> ⟨_,zab (by have:=(zai.1 hq).1;omega)⟩
 have ain:∀(i:Nat) q,m.fab.l[i]?=some q->q.ain=[]:=λi q hq=> by
  obtain⟨n,hn⟩:=port i q hq;have h:=(VX i n hn).1;unfold Fab.take at h;rw [if_pos (Ea hq),vI hq] at h;simp only [Port.pF,zae,if_false] at h;cases e:q.ain with
  | nil=> rfl
  | cons p l=> rw [e] at h;simp at h
 -- aiR that may be
 have give:∀p∈m.fab.all,m.fab.room (pV p.aO)<=((m.fab.port p.dst).pF (pV p.aO)).length:=λp hp=> by
  obtain⟨a,ha⟩:=zbw.1 hp;have hlt:=(zai.1 ha).1;have h:=S.give a hlt;unfold Fab.deliver at h;rw [if_neg (by omega),zar,ha] at h;simp only at h;have ht:aP p.bytes 0 0=false:=by
   unfold aP;rw [List.any_eq_false];intro x _;simp
  rw [ht] at h;simp only [zae,if_false] at h;split at h
  ·assumption
  ·simp at h
 have an:∀(i:Nat) q,m.fab.l[i]?=some q->q.an=[]:=λi q hq=> by
  cases e:q.an with
  | nil=> rfl
  | cons p l=>
   exfalso;have hm:p∈m.fab.all:=za1.2 ⟨q,zau hq,zcn _ (by rw [e];simp)⟩;have hk:=((G.pk.port i q hq).an p (by rw [e];simp)).2.1;have h:=give p hm;have hd:=X.dst.all p hm;have hai:=ain _ _ (fB hd);rw [hk] at h;simp only [Fab.room,Port.pF,zae,if_false,hai,zam] at h;omega
 have room:∀(i:Nat) q,m.fab.l[i]?=some q->m.fab.roomOf i false≠0:=λi q hq=> by
  unfold Fab.roomOf;rw [if_pos (Ea hq),vI hq,X.inv.fab.out];simp only [Port.sort,zae,if_false,an i q hq,zam];omega
 have rin:∀(i:Nat) q,m.fab.l[i]?=some q->q.rin=[]:=λi q hq=> by
  obtain⟨n,hn⟩:=port i q hq;have h:=(VX i n hn).2.2.1 (room i q hq);unfold Fab.take at h;rw [if_pos (Ea hq),vI hq] at h;simp only [Port.pF,if_true] at h;cases e:q.rin with
  | nil=> rfl
  | cons p l=> rw [e] at h;simp at h
 have rq:∀(i:Nat) q,m.fab.l[i]?=some q->q.rq=[]:=λi q hq=> by
  cases e:q.rq with
  | nil=> rfl
  | cons p l=>
   exfalso;have hm:p∈m.fab.all:=za1.2 ⟨q,zau hq,zcy _ (by rw [e];simp)⟩;have hk:=((G.pk.port i q hq).rq p (by rw [e];simp)).2.1;have h:=give p hm;have hd:=X.dst.all p hm;have hai:=rin _ _ (fB hd);rw [hk] at h;simp only [Fab.room,Port.pF,if_true,hai,zam,X.inv.fab.inn] at h;omega
 have anc:xR m.fab=[]:=zbL.2 λq hq=> by
  obtain⟨i,hi⟩:=zbw.1 hq;simp [vC,rq i q hi,rin i q hi]
 have hans:xU m.fab=[]:=zbL.2 λq hq=> by
  obtain⟨i,hi⟩:=zbw.1 hq;simp [vF,an i q hi,ain i q hi]
 have I4:∀j p,msg j≠.req p/\msg j≠.ans p:=λj p=> ⟨λh=> (by have:=G.pk.rc j p h;rw [anc] at this;cases this),λh=> (by have:=G.pk.ac j p h;rw [hans] at this;cases this)⟩
 have free:∀L,0<=L->L < m.c.aY->(m.abs msg val).own L=-1:=λL h0 h1=> by
  rcases G.abs.aj L h0 h1 with⟨h,_⟩ | ⟨_,_,_,H⟩
  ·exact h
  ·exfalso;rcases Hold.abu H with⟨p,h,_⟩ | ⟨p,h⟩
   ·exact(I4 _ p).1 h
   ·exact(I4 _ p).2 h
 -- nobody waits
 have ani:∀j,0<=j->j < m.c.aH->msg j≠.wait:=λj h0 h1 hw=> by
  rcases G.abs.bD j h0 h1 with⟨_,h⟩ | O
  ·have h':msg j=.idle:=h;rw [h'] at hw;cases hw
  ·rcases O.at_ with⟨_,_,h | ⟨_,h⟩⟩ | hold | F
   ·exact(I4 j _).1 h
   ·-- its home is ready to let it in
    have hl:=O.aj;have hh:=Dk hc hl.1;obtain⟨n,hn⟩:∃n,m.aH[(m.c.bg ((m.abs msg val).aI j).aj).toNat]?=some n:=⟨_,zab (by omega)⟩
    have hcast:(((m.c.bg ((m.abs msg val).aI j).aj).toNat:Nat):Int)=m.c.bg ((m.abs msg val).aI j).aj:=by omega
    have hws:(m.abs msg val).ws ((m.abs msg val).aI j).aj=n.home.aP.ws ((m.abs msg val).aI j).aj:=by
     show(m.lQ _).aP.ws _=_;rw [lZ hn hcast.symm]
    have hown:(m.abs msg val).own ((m.abs msg val).aI j).aj=n.home.aP.owner ((m.abs msg val).aI j).aj:=by
     show(m.lQ _).aP.owner _=_;rw [lZ hn hcast.symm]
    have hf:=free _ hl.1 hl.2;rw [hown] at hf;rw [hws] at h;have NI:=X.inv.bD _ n hn;have hnot:n.home.aP.owned ((m.abs msg val).aI j).aj=false:=by
     cases e:n.home.aP.owned ((m.abs msg val).aI j).aj with
     | false=> rfl
     | true=> exact absurd hf ((NI.home.aP.owned _).1 e)
    have hne:n.home.aP.ws ((m.abs msg val).aI j).aj≠[]:=λe=> by rw [e] at h;cases h
    have hkey:((m.abs msg val).aI j).aj∈n.home.aP.wait.map (·.1):=by
     unfold Turns.ws at hne;cases e:jl n.home.aP.wait ((m.abs msg val).aI j).aj with
     | none=> rw [e] at hne;exact absurd rfl hne
     | some l=> exact zaG.2 ⟨_,lW e,rfl⟩
    have aqA:((m.abs msg val).aI j).aj∈n.home.ready:=by
     unfold Home.ready Turns.ready;refine zbk.2 ⟨?_,?_⟩
     ·have:=(uO (n.home.aP.wait.map (·.1)) [] List.Pairwise.nil).1;exact this.mem_iff.2 (by simpa using hkey)
     ·simp [hnot,hne]
    have QL:m.fab.l[(m.c.bg ((m.abs msg val).aI j).aj).toNat]?=some (m.fab.port (m.c.bg ((m.abs msg val).aI j).aj)):=fB (X.is hh rfl);refine(VX _ n hn).2.1 ⟨λe=> ?_,room _ _ QL⟩;rw [e] at aqA;cases aqA
   ·obtain⟨_,H⟩:=G.abs.holder O.aj hold h0;rcases H.abu with⟨p,h,_⟩ | ⟨p,h⟩
    ·exact(I4 _ p).1 h
    ·exact(I4 _ p).2 h
   ·exact(I4 j _).2 F.2.2
 have idle:∀(i:Nat) n,m.aH[i]?=some n->n.aI.step=0:=λi n hn=> by
  have hi:=X.range hn;rcases G.abs.bD i hi.1 hi.2 with⟨h,_⟩ | O
  ·have hd:(m.abs msg val).aI i=n.aI:=jZ hn;rw [hd] at h;exact h
  ·exfalso;rcases O.at_ with⟨_,_,h | ⟨h,_⟩⟩ | hold | F
   ·exact(I4 i _).1 h
   ·exact ani i hi.1 hi.2 h
   ·obtain⟨_,H⟩:=G.abs.holder O.aj hold hi.1;rcases H.abu with⟨p,h,_⟩ | ⟨p,h⟩
    ·exact(I4 _ p).1 h
    ·exact(I4 _ p).2 h
   ·exact(I4 i _).2 F.2.2
 have done:∀(i:Nat) n,m.aH[i]?=some n->n.bG.left=0/\n.bG.dU=false:=λi n hn=> by
  have hcu:=(VX i n hn).2.2.2 (idle i n hn);have P:=(X.inv.bD i n hn).bG;unfold Proc.cur at hcu;have h1:=List.getElem?_eq_none_iff.1 hcu;have h2:=P.vals;refine⟨by unfold Proc.left;omega,?_⟩;cases hb:n.bG.dU with
  | false=> rfl
  | true=> have:=P.dU hb;omega
 have anj:m.fab.under=0:=by
  unfold Fab.under;rw [zcE];refine zbL.2 λq hq=> ?_;obtain⟨i,hi⟩:=zbw.1 hq;simp [rq i q hi,an i q hi]
 have hleft:m.left=0:=by
  unfold cZ.left;have:∀l:List Node,(∀n∈l,n.bG.left=0)->(l.map λn=> n.bG.left).sum=0:=by
   intro l
   induction l with
   | nil=> intro _;rfl
   | cons n l ih=>
    intro h;rw [zaA,zbW,h n (by simp),ih λx hx=> h x (by simp [hx])];rfl
  refine this _ λn hn=> ?_;obtain⟨i,hi⟩:=zbw.1 hn;exact(done i n hi).1
 unfold cZ.over cZ.quiet;rw [anj,hleft];simp only [decide_true,zdb,zaX,za9];intro i hi;unfold cZ.busy;obtain⟨n,hn⟩:∃n,m.aH[i]?=some n:=⟨_,zab hi⟩
 obtain⟨q,hq⟩:∃q,m.fab.l[i]?=some q:=⟨_,zab (by omega)⟩
 rw [hn];simp only [idle i n hn,(done i n hn).2,decide_true,zah,zcG,za3,decide_eq_false_iff_not];unfold Fab.waiting;rw [if_pos (Ea hq),if_pos (Ea hq),vI hq];simp [Port.pF,rin i q hq,ain i q hq]
end
def ap3(m:cZ)(k:Nat):Prop:=∃msg val,GInv m msg val/\m.todo msg<=k
section
variable {m:cZ}{T k:Nat}
theorem ap3.do_(X:MX T m)(h:ap3 m k)(p:Pck):∃k',ap3 (m.do_ p).1 k'/\k'+(if(m.do_ p).2=true then 1 else 0)<=k:=by
 obtain⟨msg,val,G,hk⟩:=h;cases hb:(m.do_ p).2 with
 | false=>
  rw [aeb hb];exact⟨k,⟨msg,val,G,hk⟩,by simp⟩
 | true=>
  obtain⟨msg',val',G',_,F⟩:=G.do_ X p;have:=F hb;exact⟨_,⟨msg',val',G',zac _⟩,by simp;omega⟩
end
theorem XO {c:Cfg}{ps:List (List Opn)}(hp:(ps.length:Int)=c.aH):(cZ.new c ps).todo (λ_=> .idle)<=66*(ps.map List.length).sum+26*ps.length:=by
 have hN:c.aH.toNat=ps.length:=by omega
 have bD:∀j:Nat,(cZ.new c ps).bD j=(ps[j]?).map λl=> .new c j l:=λj=> by
  unfold cZ.bD cZ.new;rw [if_pos (by omega),zar];simp only [zbf]
 have hw:∀(j:Nat) (L:Int),wt ((cZ.new c ps).lC j) L ((cZ.new c ps).Fb L j)=0:=λj L=> by
  have:(cZ.new c ps).Fb L j=none:=by
   unfold cZ.Fb;rw [bD];cases ps[j]? <;> rfl
  rw [this];rfl
 have hd:∀j:Nat,Dp ((cZ.new c ps).lC j) .idle=13:=λj=> by
  unfold cZ.lC;rw [bD];cases ps[j]? <;> rfl
 have hl:∀j:Nat,(cZ.new c ps).pK j=(ps.getD j []).length:=λj=> by
  unfold cZ.pK;rw [bD,zao];cases ps[j]? <;> rfl
 have s1:zl c.aH (λj=> 33*(cZ.new c ps).pK j+Dp ((cZ.new c ps).lC j) .idle)=33*(ps.map List.length).sum+13*ps.length:=by
  unfold zl;rw [hN];simp only [hd,hl];have key:∀l:List (List Opn),((List.range l.length).map λj=> 33*(l.getD j []).length+13).sum=33*(l.map List.length).sum+13*l.length:=by
   intro l
   induction l with
   | nil=> rfl
   | cons a l ih=>
    rw [zal,List.range_succ_eq_map,zaA,zbW,zcC,zaA,zbW];have:((List.range l.length).map ((λj=> 33*((a::l).getD j []).length+13) ∘ Nat.succ))=(List.range l.length).map λj=> 33*(l.getD j []).length+13:=by
     apply zbq
     intro j _;simp
    rw [this,ih];simp only [List.getD_cons_zero];omega
  exact key ps
 have s2:zl c.aH (λj=> zl c.aY λL=> wt ((cZ.new c ps).lC j) L ((cZ.new c ps).Fb L j))=0:=by
  have z:∀l:List Nat,(l.map λ_:Nat=> 0).sum=0:=λl=> by induction l <;> simp_all
  unfold zl;simp only [hw,z]
 have hu:(cZ.new c ps).fab.under=0:=by
  unfold Fab.under;rw [zcE];refine zbL.2 λq hq=> ?_;rw [show q=.zero from zcb hq];rfl
 show 2*(zl c.aH (λj=> 33*(cZ.new c ps).pK j+Dp ((cZ.new c ps).lC j) .idle)+zl c.aH λj=> zl c.aY λL=> wt ((cZ.new c ps).lC j) L ((cZ.new c ps).Fb L j))+(cZ.new c ps).fab.under<=_;rw [s1,s2,hu];omega
def NP(me:Int):Nat->List Int->List Evn
 | _,[]=> []
 | k,v::l=> ⟨me,k,false,0⟩::⟨me,k,true,v⟩::NP me (k+1) l
theorem Dn {me v:Int}:∀{l:List Int} {k:Nat},NP me k (l++[v])=NP me k l++[⟨me,(k+l.length:Nat),false,0⟩,⟨me,(k+l.length:Nat),true,v⟩]
 | [],_=> rfl
 | a::l,k=> by
  simp only [za5,NP,Dn (l:=l),zal,show k+1+l.length=k+(l.length+1) by omega]
theorem Ky {me:Int}:∀{l:List Int} {k:Nat},∀e∈NP me k l,e.bD=me
 | v::l,k,e,h=> by
  simp only [NP,zaj] at h;rcases h with rfl | rfl | h
  ·rfl
  ·rfl
  ·exact Ky e h
def told(me:Int)(n:Node):List Evn:=NP me 0 n.bG.aZ++if n.bG.dU=true then [⟨me,n.bG.aZ.length,false,0⟩] else []
theorem abE {me:Int}{n:Node}:∀e∈told me n,e.bD=me:=λe h=> by
 unfold told at h;rcases zaM.1 h with h | h
 ·exact Ky e h
 ·split at h
  ·rw [zaN.1 h]
  ·cases h
theorem abG {me:Int}{n n':Node}(h:n'.bG=n.bG):told me n'=told me n:=by unfold told;rw [h]
def Trk(me:Int)(n:Node)(t:List Evn)(n':Node)(t':List Evn):Prop:=t'.length+n.evs=t.length+n'.evs->∃u,t'=t++u/\told me n'=told me n++u
section
variable {me v:Int}{n n':Node}{t:List Evn}{c:Cfg}{f:Fab}{o:Opn}
theorem Trk.same(h:n'.bG=n.bG):Trk me n t n' t:=λ_=> ⟨[],by simp,by rw [abG h];simp⟩
theorem VY(P:ag9 c n.bG)(h:n'.bG=n.bG):Trk me n t (n'.done me t v).1 (n'.done me t v).2:=by
 intro e;unfold Node.done at e ⊢;cases hb:n.bG.dU with
 | true=>
  have hi:n.bG.idx=n.bG.aZ.length:=by
   unfold Proc.idx Proc.cur;rw [zab (P.dU hb)]
  refine⟨_,rfl,?_⟩;unfold told Proc.yC;simp only [h,hb,if_true,hi,zae,if_false,Dn,za8,zaW,za4,za5,zaL]
 | false=>
  unfold Node.evs Proc.yC at e;simp [h,hb] at e
theorem xq(hc:n.bG.cur=some o)(h:n'.bG={ n.bG with dU:=true }):∃u,(if n.bG.dU=true then t else t++[⟨me,n.bG.aZ.length,false,0⟩])=t++u/\told me n'=told me n++u:=by
 unfold told;rw [h];cases hb:n.bG.dU with
 | true=> exact⟨[],by simp,by simp⟩
 | false=> exact⟨[⟨me,n.bG.aZ.length,false,0⟩],by simp,by simp⟩
theorem yH(hc:n.bG.cur=some o)(h:n'.bG={ n.bG with dU:=true }):Trk me n t (n'.done me (if n.bG.dU=true then t else t++[⟨me,n.bG.aZ.length,false,0⟩]) v).1 (n'.done me (if n.bG.dU=true then t else t++[⟨me,n.bG.aZ.length,false,0⟩]) v).2:=by
 intro _;obtain⟨u,e1,e2⟩:=xq (me:=me) (t:=t) hc h;unfold Node.done;rw [e1];have hi:n'.bG.idx=n.bG.aZ.length:=by
  unfold Proc.idx Proc.cur;rw [h];unfold Proc.cur at hc;simp only [hc]
 refine⟨u++[⟨me,n'.bG.idx,true,v⟩],by simp,?_⟩;rw [<-za4,<-e2,hi];unfold told Proc.yC;simp only [h,if_true,zae,if_false,Dn,za8,zaW,za4,za5,zaL]
theorem QZ(P:ag9 c n.bG){p:Pkt}:Trk me n t (n.answered c me f t p).1 (n.answered c me f t p).2.2:=by
 unfold Node.answered;split;split
 ·exact Trk.same rfl
 ·simp only;split
  ·split
   ·exact VY P rfl
   ·exact Trk.same rfl
  ·split
   ·unfold Node.effect;exact VY P rfl
   ·exact Trk.same rfl
theorem aec(hc:n.bG.cur=some o):Trk me n t (n.work c me f t o).1 (n.work c me f t o).2.2:=by
 unfold Node.work;simp only;split
 ·exact yH hc rfl
 split
 ·exact λ_=> xq hc rfl
 split
 ·unfold Node.effect;exact yH hc rfl
 split
 ·exact λ_=> xq hc rfl
 split
 ·exact λ_=> xq hc rfl
 ·exact λ_=> xq hc rfl
theorem aed(P:ag9 c n.bG):Trk me n t (n.step c me f t).1.1 (n.step c me f t).1.2.2:=by
 unfold Node.step;split
 ·exact QZ P
 ·split
  ·exact Trk.same rfl
  ·split
   ·rename_i f' p _;have:(n.asked c me f' p).1.bG=n.bG:=by
     unfold Node.asked;split <;> split <;> rfl
    exact Trk.same this
   ·split
    ·split
     ·exact aec (by assumption)
     ·exact Trk.same rfl
    ·exact Trk.same rfl
end
structure ank(m:cZ):Prop where
 own:∀(i:Nat) n,m.aH[i]?=some n->m.trace.filter (λe=> decide (e.bD=(i:Int)))=told i n
 ran:∀e∈m.trace,∃i:Nat,e.bD=(i:Int)/\i < m.aH.length
theorem ank.do_ {m:cZ}(R:ank m)(I:adR m)(p:Pck)(I':adR (m.do_ p).1):ank (m.do_ p).1:=by
 unfold cZ.do_ at*;cases hd:p.deliver with
 | true=> simp only [if_true];exact⟨R.own,R.ran⟩
 | false=>
  simp only [hd,zae,if_false] at*;unfold cZ.step cZ.bD at*;by_cases h0:0<=p.at_
  ·simp only [if_pos h0] at*;cases hn:m.aH[p.at_.toNat]? with
   | none=> simp only [hn];exact R
   | some n=>
    simp only [hn] at I' ⊢;have ok:=aed (I.bD _ n hn).bG (me:=p.at_) (f:=m.fab) (t:=m.trace);generalize n.step m.c p.at_ m.fab m.trace=r at*;obtain⟨⟨n',f',t'⟩,k⟩:=r;have e1:=I.evs;have e2:=I'.evs
    try dsimp only at ok
    try dsimp only at e2
    have s1:=TN Node.evs (a':=n') hn;obtain⟨u,u1,u2⟩:=ok (by show t'.length+_=m.trace.length+n'.evs;omega);have hu:∀e∈u,e.bD=p.at_:=λe he=> abE (n:=n') e (by rw [u2];exact zcn _ he);have hlt:=(zai.1 hn).1;have hc:((p.at_.toNat:Nat):Int)=p.at_:=by omega
    refine⟨λi x hx=> ?_,λe he=> ?_⟩
    ·show t'.filter _=_;rw [u1,zb5]
     replace hx:(m.aH.set p.at_.toNat n')[i]?=some x:=hx
     by_cases hi:p.at_.toNat=i
     ·subst hi;rw [za7 hlt] at hx;cases hx;rw [R.own _ n hn,hc,u2,zc0.2 λe he=> by simp [hu e he]]
     ·rw [zbe hi] at hx;rw [R.own i x hx,List.filter_eq_nil_iff.2 λe he=> by
       have:=hu e he;simp only [decide_eq_true_eq];omega,za8]
    ·replace he:e∈t':=he
     show∃i:Nat,e.bD=(i:Int)/\i < (m.aH.set p.at_.toNat n').length;rw [zbp];rw [u1] at he;rcases zaM.1 he with h | h
     ·exact R.ran e h
     ·exact⟨p.at_.toNat,by rw [hu e h];exact hc.symm,hlt⟩
  ·simp only [if_neg h0] at*;exact R
theorem aee(c:Cfg)(ps:List (List Opn)):ank (.new c ps):=by
 refine⟨λi n h=> ?_,λe h=> by cases h⟩;simp only [cZ.new,zbf] at h;cases hg:ps[i]? with
 | none=> rw [hg] at h;cases h
 | some l=> rw [hg] at h;cases h;rfl
def Legal(c:Cfg)(P:Int->Nat->Option Opn):List Evn->(Int->List Int)->(Int->List Int)->Prop
 | [],v,v'=> v=v'
 | e::u,v,v'=> if e.done=true then∃k:Nat,∃o,e.index=k/\P e.bD k=some o/\e.value=(kD c o v).2/\Legal c P u (kD c o v).1 v' else Legal c P u v v'
theorem Legal.snoc {c:Cfg}{P:Int->Nat->Option Opn}:∀{u:List Evn} {v v1 v':Int->List Int} {w:List Evn},Legal c P u v v1->Legal c P w v1 v'->Legal c P (u++w) v v'
 | [],_,_,_,_,h,h'=> by cases h;exact h'
 | e::u,v,v1,v',w,h,h'=> by
  unfold Legal at h;show Legal c P (e::(u++w)) v v';unfold Legal;split at h
  ·rename_i hd;rw [if_pos hd];obtain⟨k,o,h1,h2,h3,h4⟩:=h;exact⟨k,o,h1,h2,h3,h4.snoc h'⟩
  ·rename_i hd;rw [if_neg hd];exact Legal.snoc h h'
theorem zo.legal {c:Cfg}{P:Int->Nat->Option Opn}{t t':List Evn}{v v' v0:Int->List Int}(h:zo c P t v t' v'):Legal c P t v0 v->Legal c P t' v0 v':=by
 intro hl
 induction h with
 | same=> exact hl
 | dU i k _ ih=> exact(ih hl).snoc (by simp [Legal])
 | done i k o hp _ ih=> exact(ih hl).snoc (by simp only [Legal,if_true];exact⟨k,o,rfl,hp,rfl,rfl⟩)
section
variable {m:cZ}{T k:Nat}{msg:Int->Out}{val:Int->List Int}
theorem aiJ(X:MX T m)(G:GInv m msg val)(h1:m.c.aH=1):∃q,m.fab.l=[q]/\q.rq.length+q.rin.length+(q.an.length+q.ain.length)<=1:=by
 have hl:m.fab.l.length=1:=by have:=X.inv.fab.len;omega
 obtain⟨q,hq⟩:=List.length_eq_one_iff.1 hl;refine⟨q,hq,?_⟩;have hp:=G.pk.port 0 q (by rw [hq];rfl);have er:xR m.fab=q.rq++q.rin:=by unfold xR;rw [hq];simp [vC]
 have ea:xU m.fab=q.an++q.ain:=by unfold xU;rw [hq];simp [vF]
 have is0:∀j,m.fab.is j=true->j=0:=λj h=> by
  unfold Fab.is at h;simp only [zaf,decide_eq_true_eq] at h;omega
 have r0:∀p∈xR m.fab,p.src=0/\msg 0=.req p:=λp h=> by
  have hm:msg p.src=.req p:=by
   rw [er] at h;rcases zaM.1 h with h | h
   ·rw [(hp.rq p h).1];exact(hp.rq p h).2.2
   ·exact(hp.rin p h).2.2
  have h0:=is0 _ (G.pk.rg _ p (.inl hm));exact⟨h0,h0 ▸ hm⟩
 have a0:∀p∈xU m.fab,p.dst=0/\msg 0=.ans p:=λp h=> by
  have hm:msg p.dst=.ans p:=by
   rw [ea] at h;rcases zaM.1 h with h | h
   ·exact(hp.an p h).2.2
   ·rw [(hp.ain p h).1];exact(hp.ain p h).2.2
  have hd:=G.pk.dst _ p hm;have h0:=is0 _ (G.pk.rg _ p (.inr hm));exact⟨h0,h0 ▸ hm⟩
 have one:∀{l:List Int},l.Nodup->(∀x∈l,x=0)->l.length<=1:=λ{l} hn h=> by
  match l,hn,h with
  | [],_,_=> exact zaR _
  | [_],_,_=> exact zac _
  | x::y::l,hn,h=>
   have:=(zaU.1 hn).1;rw [h x (by simp),h y (by simp)] at this;simp at this
 have n1:=one G.pk.rn λx hx=> by
  obtain⟨p,hp,rfl⟩:=zaG.1 hx;exact(r0 p hp).1
 have n2:=one G.pk.an λx hx=> by
  obtain⟨p,hp,rfl⟩:=zaG.1 hx;exact(a0 p hp).1
 rw [zaB,er,zan] at n1;rw [zaB,ea,zan] at n2;by_cases hr:xR m.fab=[]
 ·rw [hr] at er;have:=congrArg List.length er;simp only [zam,zan] at this;omega
 ·obtain⟨p,hp⟩:=List.exists_mem_of_ne_nil _ hr;have:xU m.fab=[]:=List.eq_nil_iff_forall_not_mem.2 λx hx=> by
   have h1:=(r0 p hp).2;rw [(a0 x hx).2] at h1;cases h1
  rw [this] at ea;have:=congrArg List.length ea;simp only [zam,zan] at this;omega
theorem aef(X:MX T m)(G:GInv m msg val)(h1:m.c.aH=1):(m.deliver 0 0 0).1.fab.under=0:=by
 obtain⟨q,hq,hle⟩:=aiJ X G h1;have hall:m.fab.all=q.rq++q.an:=by unfold Fab.all;rw [hq];simp
 have hu:m.fab.under=q.rq.length+q.an.length:=by unfold Fab.under;rw [hall,zan]
 show(m.fab.deliver 0 0 0).1.under=0;by_cases h0:m.fab.under=0
 ·have:m.fab.all=[]:=zcE.1 h0;unfold Fab.deliver;rw [if_neg (by omega),this];exact h0
 ·obtain⟨p,hp⟩:∃p,m.fab.all[(0:Int).toNat]?=some p:=⟨_,zab (by
   have:m.fab.all.length=m.fab.under:=rfl;show 0 < _;omega)⟩
  have hd:=X.dst.all p (zau hp);have QL:m.fab.port p.dst=q:=by
   have:=fB hd;have h2:=(zai.1 this).1;rw [hq] at this h2;simp only [zcU] at h2;rw [show p.dst.toNat=0 by omega] at this
   simpa using this.symm
  have hroom:(m.fab.deliver 0 0 0).2=0:=by
   unfold Fab.deliver;rw [if_neg (by omega),hp];have ht:aP p.bytes 0 0=false:=by
    unfold aP;rw [List.any_eq_false];intro x _;simp
   have hin:=(lI X.inv.ok).2.2.2.2.2.2;simp only [ht,zae,if_false];rw [if_neg];rw [QL];have aqv:=X.inv.fab.inn;cases pV p.aO <;> simp only [Fab.room,Port.pF,if_true,zae,if_false] <;> omega
  have:=Bh X.dst.all hroom;omega
end
def abH(c:Cfg):List Opn->(Int->List Int)->List Int
 | [],_=> []
 | o::l,v=> (kD c o v).2::abH c l (kD c o v).1
theorem KA {c:Cfg}{P:Int->Nat->Option Opn}{me:Int}{w:List Evn}{v':Int->List Int}(hw:∀e∈w,e.done=false):∀{vs:List Int} {ops:List Opn} {k:Nat} {v:Int->List Int},(∀j,P me (k+j)=ops[j]?)->Legal c P (NP me k vs++w) v v'->vs=(abH c ops v).take vs.length
 | [],_,_,_,_,_=> by simp
 | x::vs,ops,k,v,hP,h=> by
  simp only [NP,za5,Legal,zae,if_false,if_true] at h;obtain⟨k',o,h1,h2,h3,h4⟩:=h;have hk:k'=k:=by omega
  subst hk;have h0:=hP 0;rw [zbM,h2] at h0;cases ops with
  | nil=> simp at h0
  | cons o' ops=>
   simp only [zaP,zaa] at h0;subst h0;have ih:=KA hw (ops:=ops) (λj=> by
    have:=hP (j+1);rw [zbb] at this;rw [<-this]
    congr 1
    omega) h4
   simp only [abH,zal,zdw];rw [h3,<-ih]
theorem Fj {p:Proc}{v:Int}:(p.yC v).ops=p.ops:=by unfold Proc.yC;split <;> rfl
theorem aeg {c:Cfg}{me:Int}{n:Node}{f:Fab}{t:List Evn}:(n.step c me f t).1.1.bG.ops=n.bG.ops:=by
 unfold Node.step;split
 ·unfold Node.answered;split;split
  ·rfl
  ·simp only;split
   ·split
    ·exact Fj
    ·rfl
   ·split
    ·exact Fj
    ·rfl
 ·split
  ·rfl
  ·split
   ·show(n.asked c me _ _).1.bG.ops=_;unfold Node.asked;split <;> split <;> rfl
   ·split
    ·split
     ·show(n.work c me f t _).1.bG.ops=_;unfold Node.work;simp only;split
      ·exact Fj
      split
      ·rfl
      split
      ·exact Fj
      split
      ·rfl
      split
      ·rfl
      ·rfl
     ·rfl
    ·rfl
theorem abI(m:cZ)(i:Int):(m.step i).1.opAt=m.opAt:=by
 unfold cZ.step;cases hn:m.bD i with
 | none=> rfl
 | some n=>
  have h0:0<=i/\m.aH[i.toNat]?=some n:=by
   unfold cZ.bD at hn;split at hn
   ·exact⟨by assumption,hn⟩
   ·cases hn
  have ho:=aeg (c:=m.c) (me:=i) (n:=n) (f:=m.fab) (t:=m.trace);simp only;generalize n.step m.c i m.fab m.trace=r at ho;obtain⟨⟨n',f',t'⟩,k⟩:=r
  funext j q
  have hw:=xk (n':=n') (f:=f') (t:=t') h0.2 j;have e:(m.with_ i.toNat n' f' t').opAt j q=m.opAt j q:=by
   unfold cZ.opAt;rw [hw];by_cases hj:j=((i.toNat:Nat):Int)
   ·have hni:=rV h0.2;rw [if_pos hj,hj,hni];show n'.bG.ops[q]?=_;rw [show n'.bG.ops=n.bG.ops from ho]
   ·rw [if_neg hj]
  exact e
structure agw(P:Int->Nat->Option Opn)(first:Int->List Int)(c:Cfg)(m:cZ)(T k:Nat):Prop where
 keep:MX T m
 ex:∃msg val,GInv m msg val/\pot m.c m.pK (m.abs msg val)<=k/\Legal m.c P m.trace first val
 rcd:ank m
 op:m.opAt=P
 cfg:m.c=c
 un:m.fab.under=0
theorem aeh {c:Cfg}(hc:c.ok=true)(h1:c.aH=1){l:List Opn}(X:MX 0 (.new c [l])):agw (cZ.new c [l]).opAt c.first c (.new c [l]) 0 (33*l.length+13):=by
 have h:=XO (c:=c) (ps:=[l]) (by rw [h1];rfl);have hu:(cZ.new c [l]).todo (λ_=> .idle)=2*pot c (cZ.new c [l]).pK ((cZ.new c [l]).abs (λ_=> .idle) c.first)+(cZ.new c [l]).fab.under:=rfl;have hz:(cZ.new c [l]).fab.under=0:=by
  unfold Fab.under;rw [zcE];refine zbL.2 λq hq=> ?_;rw [show q=.zero from zcb hq];rfl
 rw [hu] at h;simp only [zaA,zbS,zbW,List.sum_nil,zcU] at h;exact⟨X,⟨_,_,ad9 hc (by rw [h1];rfl),by show pot c _ _<=_;omega,rfl⟩,aee c [l],rfl,rfl,hz⟩
theorem NQ(m:cZ)(i:Int):(m.step i).1.c=m.c:=by
 unfold cZ.step;split
 ·rfl
 ·rfl
theorem VZ {m:cZ}(h:0 < m.left):m.over=false:=by
 unfold cZ.over;rw [show decide (m.left=0)=false from decide_eq_false (by omega),zci]
theorem agw.turn {P:Int->Nat->Option Opn}{first:Int->List Int}{c:Cfg}{m:cZ}{T k:Nat}(S:agw P first c m T k)(h1:c.aH=1)(ho:m.over=false):0 < k/\agw P first c ((m.step 0).1.deliver 0 0 0).1 (T+1) (k - 1):=by
 obtain⟨msg,val,G,hk,L⟩:=S.ex;have X:=S.keep;have hc:=S.cfg;have hn1:m.c.aH=1:=by rw [hc];exact h1
 obtain⟨msg',val',G',Te,F⟩:=G.step X 0;have hlen:=X.inv.len;have hu:=S.un;have hn:(m.step 0).2≠0:=λe=> by
  have S:anh m:=⟨λj hj=> by rw [show j=0 by omega];exact e,λq hq=> by omega⟩
  have:=XM X G S;rw [ho] at this;cases this
 have hf:=F hn;have X':=X.step 0;have a1:m.todo msg=2*pot m.c m.pK (m.abs msg val)+m.fab.under:=rfl;have a2:(m.step 0).1.todo msg'=2*pot (m.step 0).1.c (m.step 0).1.pK ((m.step 0).1.abs msg' val')+(m.step 0).1.fab.under:=rfl;have d1:(m.do_ ⟨false,0,0,0⟩).1=(m.step 0).1:=rfl;have d2:((m.step 0).1.do_ ⟨true,0,0,0⟩).1=((m.step 0).1.deliver 0 0 0).1:=rfl;have r1:=S.rcd.do_ X.inv ⟨false,0,0,0⟩ (by rw [d1];exact X'.inv);rw [d1] at r1;refine⟨by omega,X'.deliver 0 0 0,⟨msg',val',⟨G'.abs,G'.pk.deliver X'.dst.all _ _ _⟩,?_,?_⟩,⟨r1.own,r1.ran⟩,?_,?_,aef X' G' (by rw [NQ];exact hn1)⟩
 ·show pot (m.step 0).1.c (m.step 0).1.pK ((m.step 0).1.abs msg' val')<=k - 1;omega
 ·show Legal (m.step 0).1.c P (m.step 0).1.trace first val'
  rw [NQ];have Te':=Te.legal (v0:=first);rw [S.op] at Te';exact Te' L
 ·show(m.step 0).1.opAt=P;rw [abI];exact S.op
 ·show(m.step 0).1.c=c;rw [NQ];exact hc
theorem agw.told {P:Int->Nat->Option Opn}{first:Int->List Int}{c:Cfg}{m:cZ}{T k:Nat}(S:agw P first c m T k)(h1:c.aH=1){ops:List Opn}(hP:∀j,P 0 j=ops[j]?)(hl:m.left<=0):∃n,m.aH=[n]/\n.bG.left=0/\n.bG.aZ=abH c ops first:=by
 obtain⟨msg,val,G,_,L⟩:=S.ex;have hlen:=S.keep.inv.len;rw [S.cfg] at hlen L;obtain⟨n,hn⟩:=List.length_eq_one_iff.1 (show m.aH.length=1 by omega);have h0:m.aH[0]?=some n:=by rw [hn];rfl
 have V:=(S.keep.inv.bD 0 n h0).bG.vals;have hleft:m.left=n.bG.left:=by unfold cZ.left;rw [hn];simp
 have hz:n.bG.left=0:=by
  rw [hleft] at hl;unfold Proc.left at hl ⊢;omega
 have hops:n.bG.ops=ops:=by
  apply zbd
  intro j;rw [<-hP j,<-S.op];unfold cZ.opAt;rw [show m.bD 0=some n from rV h0]
 have ht:m.trace=Go.Proofs.YtljogojaihgdlaaGreat.told 0 n:=by
  have:=S.rcd.own 0 n h0;rw [zc0.2 λe he=> by
   obtain⟨i,h1,h2⟩:=S.rcd.ran e he;rw [hn] at h2;simp only [zcU] at h2;simp only [decide_eq_true_eq];omega] at this
  exact this
 rw [ht] at L;unfold Go.Proofs.YtljogojaihgdlaaGreat.told at L;have hv:=KA (me:=0) (k:=0) (ops:=ops) (w:=if n.bG.dU=true then [⟨0,n.bG.aZ.length,false,0⟩] else []) (λe he=> by
  split at he
  ·rw [zaN.1 he]
  ·cases he) (λj=> by rw [zaW];exact hP j) L
 refine⟨n,hn,hz,?_⟩;have hsl:∀(l:List Opn) (v:Int->List Int),(abH c l v).length=l.length:=by
  intro l
  induction l with
  | nil=> intro _;rfl
  | cons o l ih=> intro v;simp [abH,ih]
 have hvl:n.bG.aZ.length=ops.length:=by
  unfold Proc.left at hz;rw [<-hops];omega
 rw [hv,zaw (by rw [hsl];omega)]
theorem Bl(c:Cfg)(zw zk za zv:List Int):∀i,∀l∈kH c zw zk za zv i,l.length<=i
 | 0,l,h=> by
  rw [zcb h];decide
 | i+1,l,h=> by
  simp only [kH,jv] at h;split at h
  ·rename_i hl;rcases zbC h with h | rfl
   ·have:=Bl c zw zk za zv i l h;omega
   ·rw [zan];have:((kH c zw zk za zv i).getD (dQ (atM zw i) c.aH).toNat []).length<=i:=by
     rw [zao];cases hg:(kH c zw zk za zv i)[(dQ (atM zw i) c.aH).toNat]? with
     | none=> exact zaR _
     | some l'=> exact Bl c zw zk za zv i l' (zau hg)
    simp only [zal,zam];omega
  ·have:=Bl c zw zk za zv i l h;omega
theorem aei {l:List Opn}{c:Cfg}(hc:c.aH=1)(hl:l.length<=24)(h:∀o∈l,c.right o=true):c.WJ [l]=true:=by
 have:l.all c.right=true:=zaX.2 h;simp only [Cfg.WJ,zcX,zds,this,decide_eq_true hl,zal,zam,hc];rfl
theorem anl {c:Cfg}(h:c.ok=true):(⟨1,c.aY,c.bn,c.sets,c.ways,c.out,c.inn,c.init⟩:Cfg).ok=true:=by
 unfold Cfg.ok at h ⊢;simp only [zaf] at h ⊢;exact⟨⟨⟨⟨⟨⟨⟨⟨rfl,rfl⟩,h.1.1.1.1.1.1.2⟩,h.1.1.1.1.1.2⟩,h.1.1.1.1.2⟩,h.1.1.1.2⟩,h.1.1.2⟩,h.1.2⟩,h.2⟩
def qg(ws:List Int)(o:Opn):List Int × Int:=
 if o.aO=2 then(ws.set o.addr.toNat o.value,0) else if o.aO=3 then(ws.set o.addr.toNat (w64 (ws.getD o.addr.toNat 0+o.value)),ws.getD o.addr.toNat 0)
 else if o.aO=4 then(ws,0) else(ws,ws.getD o.addr.toNat 0)
def Q5:List Opn->List Int->List Int
 | [],_=> []
 | o::l,ws=> (qg ws o).2::Q5 l (qg ws o).1
theorem abJ {ws:List Int}{o:Opn}:(qg ws o).1.length=ws.length:=by
 unfold qg;by_cases h2:o.aO=2
 ·rw [if_pos h2];exact zbp
 by_cases h3:o.aO=3
 ·rw [if_neg h2,if_pos h3];exact zbp
 by_cases h4:o.aO=4
 ·rw [if_neg h2,if_neg h3,if_pos h4]
 ·rw [if_neg h2,if_neg h3,if_neg h4]
structure Q7(c:Cfg)(v:Int->List Int)(ws:List Int):Prop where
 len:(ws.length:Int)=c.kC
 row:∀L,0<=L->L < c.aY->((v L).length:Int)=c.bn
 get:∀a,0<=a->a < c.kC->ws.getD a.toNat 0=(v (a / c.bn)).getD (a % c.bn).toNat 0
theorem V3 {l:List Int}{i j:Nat}{x:Int}(h:i < l.length):(l.set i x).getD j 0=if j=i then x else l.getD j 0:=by
 rw [zao,zcs];by_cases e:i=j
 ·rw [if_pos e,if_pos h,if_pos e.symm];rfl
 ·rw [if_neg e,if_neg (Ne.symm e),zao]
section
variable {c:Cfg}{v:Int->List Int}{ws:List Int}{o:Opn}
theorem abK(h:c.right o=true):0<=o.addr/\o.addr < c.kC/\c.bU o.addr=o.addr / c.bn/\c.dh o.addr=o.addr % c.bn/\1<=o.aO/\o.aO<=4:=by
 unfold Cfg.right at h;simp only [zaf,decide_eq_true_eq] at h;obtain⟨⟨⟨k1,k2⟩,hl⟩,_⟩:=h;unfold Cfg.bU at hl;by_cases ha:o.addr < 0∨c.kC<=o.addr
 ·rw [if_pos ha] at hl;exact absurd rfl hl
 ·unfold Cfg.bU Cfg.dh;rw [if_neg ha,if_neg ha];exact⟨by omega,by omega,rfl,rfl,k1,k2⟩
theorem Q7.set(M:Q7 c v ws)(hc:c.ok=true){a x:Int}(h0:0<=a)(h1:a < c.kC):Q7 c (dH v (a / c.bn) ((v (a / c.bn)).set (a % c.bn).toNat x)) (ws.set a.toNat x):=by
 have P:=lI hc;have hw:0 < c.bn:=by omega
 have q0:=zc3 h0 (by omega:0<=c.bn);have q1:a / c.bn < c.aY:=zdo hw (by unfold Cfg.kC at h1;exact h1);have r0:=zbI a (by omega:c.bn≠0);have r1:=zbV a hw;have hl:=M.row _ q0 q1;refine⟨by rw [zbp];exact M.len,λL h0 h1=> ?_,λb b0 b1=> ?_⟩
 ·by_cases e:L=a / c.bn
  ·rw [e,aJ,zbp];exact hl
  ·rw [aS e];exact M.row L h0 h1
 ·have ml:=M.len;rw [V3 (by omega)];by_cases e:b / c.bn=a / c.bn
  ·rw [e,aJ,V3 (by omega)];have s0:=zbI b (by omega:c.bn≠0);by_cases e2:b % c.bn=a % c.bn
   ·have:b=a:=by rw [<-zdp b c.bn,<-zdp a c.bn,e,e2]
    rw [if_pos (by rw [this]),if_pos (by rw [e2])]
   ·rw [if_neg (λh=> e2 (by rw [show b=a by omega])),if_neg (by omega),M.get b b0 b1,e]
  ·rw [aS e,if_neg (λh=> e (by rw [show b=a by omega])),M.get b b0 b1]
theorem Q7.op(M:Q7 c v ws)(hc:c.ok=true)(h:c.right o=true):(qg ws o).2=(kD c o v).2/\Q7 c (kD c o v).1 (qg ws o).1:=by
 obtain⟨a0,a1,hl,hw,k1,k2⟩:=abK h;have g:=M.get _ a0 a1;unfold qg kD;simp only [hl,hw];by_cases h1:o.aO=1
 ·rw [if_neg (by omega),if_neg (by omega),if_neg (by omega),if_pos h1];exact⟨g,M⟩
 by_cases h2:o.aO=2
 ·rw [if_pos h2,if_neg h1,if_pos h2];exact⟨rfl,M.set hc a0 a1⟩
 by_cases h3:o.aO=3
 ·rw [if_neg h2,if_pos h3,if_neg h1,if_neg h2,if_pos h3,<-g];exact⟨rfl,M.set hc a0 a1⟩
 ·rw [if_neg h2,if_neg h3,if_pos (by omega),if_neg h1,if_neg h2,if_neg h3];exact⟨rfl,M⟩
end
theorem Q8 {c:Cfg}(hc:c.ok=true):∀{l:List Opn} {v:Int->List Int} {ws:List Int},Q7 c v ws->(∀o∈l,c.right o=true)->Q5 l ws=abH c l v
 | [],_,_,_,_=> rfl
 | o::l,v,ws,M,h=> by
  obtain⟨h1,h2⟩:=M.op hc (h o (by simp));simp only [Q5,abH];rw [h1,Q8 hc h2 λx hx=> h x (by simp [hx])]
def qQ(c:Cfg)(i:Nat):List Int:=(List.range (i*c.bn.toNat)).map λa=> c.init.getD a 0
theorem Uc {c:Cfg}{i:Nat}(hi:(i:Int) < c.aY)(hw:0<=c.bn):qQ c (i+1)=qQ c i++c.first i:=by
 unfold qQ Cfg.first
 rw [if_neg (by omega),zbA,List.range_add,zbo,zcC]
 congr 1
 refine zbq λj _=> ?_;have:((i:Int)*c.bn).toNat=i*c.bn.toNat:=by
  obtain⟨w,hw'⟩:=Int.eq_ofNat_of_zero_le hw;rw [hw'];simp only [zar];rw [<-Int.natCast_mul,zar]
 rw [this];rfl
theorem Dq(c:Cfg)(i:Nat):(qQ c i).length=i*c.bn.toNat:=by simp [qQ]
theorem abL {c:Cfg}(hc:c.ok=true):Q7 c c.first (qQ c c.aY.toNat):=by
 have P:=lI hc;have hw:0 < c.bn:=by omega
 have hlen:((qQ c c.aY.toNat).length:Int)=c.kC:=by
  rw [Dq,Int.natCast_mul];unfold Cfg.kC;rw [zcf (by omega),zcf (by omega)]
 refine⟨hlen,λL h0 h1=> ?_,λa h0 h1=> ?_⟩
 ·unfold Cfg.first
  rw [if_neg (by omega)];simp only [zaB,zcv];omega
 ·have q0:=zc3 h0 (by omega:0<=c.bn);have q1:a / c.bn < c.aY:=zdo hw (by unfold Cfg.kC at h1;exact h1);have r0:=zbI a (by omega:c.bn≠0);have r1:=zbV a hw;have e1:(qQ c c.aY.toNat).getD a.toNat 0=c.init.getD a.toNat 0:=by
   rw [zao];unfold qQ;rw [zaI,zbv (by rw [Dq] at hlen;omega)];rfl
  have e2:(c.first (a / c.bn)).getD (a % c.bn).toNat 0=c.init.getD ((a / c.bn*c.bn).toNat+(a % c.bn).toNat) 0:=by
   rw [zao];unfold Cfg.first
   rw [if_neg (by omega),zaI,zbv (by omega)];rfl
  have e3:a=a / c.bn*c.bn+a % c.bn:=by rw [Int.mul_comm];exact(zdp a c.bn).symm
  have e4:=zcB q0 (by omega:0<=c.bn);have e5:(a / c.bn*c.bn).toNat+(a % c.bn).toNat=a.toNat:=by omega
  rw [e1,e2,e5]
section
variable {b:Nat}{H H':ah}{x:AV}{m:Nat}{l:List AV}
theorem Own.keep(c:Own b H x m l)(hn:H.next<=H'.next)(hg:∀r,gG x=some r->H'.get r=H.get r):Own b H' x m l:=by
 rcases c with h | ⟨r,g,off,n,cap,ex,ty,all,rfl,k2,k3,k4,k5,k6⟩
 ·exact .inl h
 ·exact .inr ⟨r,g,off,n,cap,ex,ty,all,rfl,k2,by omega,k4,by rw [hg r rfl];exact k5,k6⟩
theorem Own.write(c:Own b H x 1 l)(hb:H.base<=b){i:Nat}(hi:i < l.length){v:AV}(hv:One v):∃H',st 1 (eG x i) v H=some (bf,H')/\Own b H' x 1 (l.set i v)/\H'.next=H.next/\H'.base=H.base/\∀r,gG x≠some r->H'.get r=H.get r:=by
 rcases c with⟨_,rfl⟩ | ⟨r,g,off,n,cap,ex,ty,all,rfl,k2,k3,k4,k5,k6,k7,rfl⟩
 ·simp at hi
 ·have hl:off+i < all.length:=by
   rw [zat,zaO] at hi;omega
  refine⟨H.put r (.blk g ty (all.set (off+i) v)),?_,.inr ⟨r,g,off,n,cap,ex,ty,all.set (off+i) v,rfl,k2,k3,k4,?_,by rw [zbp];exact k6,?_,?_⟩,rfl,rfl,λr' hr=> ?_⟩
  ·simp only [eG,zbH];exact O9 hv k5 (by omega) hl
  ·rw [dM,if_pos rfl]
  ·rw [zaX] at k7 ⊢;intro y hy;rcases zbC hy with h | rfl
   ·exact k7 y h
   ·exact hv.2
  ·rw [List.drop_set,if_neg (by omega),List.take_set]
   congr 1;omega
  ·have:r'≠r:=λe=> hr (by rw [e];rfl);rw [dM,if_neg this]
end
theorem abM {H:ah}(hb:H.base<=H.next){c:Cfg}(hc:c.ok=true):∃x H',cl 15 [.agg c.av] H=some (x,H')/\Own (H.next+1) H' x 1 ((qQ c c.aY.toNat).map I)/\Step H.next H H':=by
 have Bd:=DY hc;have hw:=Bd.bn;have hln:=Bd.aY;let H0:=H.new (.blk 0 26 c.av);have key:∀k (i:Nat),i+k=c.aY.toNat->∀(H1:ah) (x:AV),Step (H.next+1) H0 H1->Own (H.next+1) H1 x 1 ((qQ c i).map I)->
   ∃y H2,GX cl [.ref H.next 0 0,x,I i] H1=some (y,H2)/\Own (H.next+1) H2 y 1 ((qQ c c.aY.toNat).map I)/\Step (H.next+1) H0 H2:=by
  intro k
  induction k with
  | zero=>
   intro i hi H1 x s O;have g1:H1.get H.next=.blk 0 26 c.av:=by rw [s.low _ (by omega)];exact bC rfl
   have l1:ld (.ref H.next 0 1) H1=some (I c.aY,H1):=by rw [fD g1];rfl
   have hn:¬(i:Int) < c.aY:=by omega
   rw [show i=c.aY.toNat by omega] at O;refine⟨x,H1,?_,O,s⟩;rw [Zk];simp only [xq_,l1,hn]
  | succ k ih=>
   intro i hi H1 x s O;have g1:H1.get H.next=.blk 0 26 c.av:=by rw [s.low _ (by omega)];exact bC rfl
   have l1:ld (.ref H.next 0 1) H1=some (I c.aY,H1):=by rw [fD g1];rfl
   have l8:=CQ g1;have hn:(i:Int) < c.aY:=by omega
   have e1:=Xc H1 c hc i (by omega) hn;have h6:(i:Int)+1=((i+1:Nat):Int):=by omega
   have h7:=wrap_i64 (a:=((i+1:Nat):Int)) (by omega) (by omega);have n1:=s.next
   have fl:=Ht (c:=c) (aj:=i) (by omega) hn;have hwl:i*c.bn.toNat<=8*4:=Nat.mul_le_mul (by omega) (by omega);obtain⟨y,H2,a1,a2,a3⟩:=O.step (n:=i*c.bn.toNat) (k:=(c.first i).length) (e:=3) (by_:=8) (y:=dat (c.first i)) (new:=(c.first i).map I) (by simp only [H0,fE] at n1;exact n1) (by rw [s.base];simp only [H0,ji];omega) (by decide) (by rw [zaB,Dq,zbH]) (kT H1 _) (uS _) (by unfold most;omega) (by unfold most;omega);rw [<-zbo,<-Uc hn (by omega)] at a2;obtain⟨z,H3,r,O3,s3⟩:=ih (i+1) (by omega) H2 y (s.trans a3) a2;refine⟨z,H3,?_,O3,s3⟩;rw [Zk];simp only [xq_,l1,hn,l8,e1,a1,dG,h6,h7,r]
 have e0:((qQ c 0).map I)=[]:=by unfold qQ;rw [zbm];rfl
 obtain⟨y,H2,r,O,s⟩:=key c.aY.toNat 0 (by omega) H0 zN (Step.refl _ _) (.inl ⟨rfl,e0⟩)
 replace r:GX cl [.ref H.next 0 0,zN,I 0] H0=some (y,H2):=r
 refine⟨y,H2,bI rfl rfl (aoq _ _ _ ?_),O,(Step.new _ (zac _)).trans ⟨s.base,s.next,λr hr=> s.low r (by omega)⟩⟩;simp only [H0] at r;simp only [Nat.reduceLT,xq_,hq_,aj8,aF (kZ c),r]
theorem XP {H:ah}{b:Nat}{x:AV}{ws:List Int}(hb:H.base<=b)(hbn:b<=H.next)(O:Own b H x 1 (ws.map I))(o:Opn)(h0:0<=o.addr)(h1:o.addr < ws.length):
  ∃H',cl 16 [x,.agg o.av] H=some (I (qg ws o).2,H')/\Own b H' x 1 ((qg ws o).1.map I)/\Step b H H'/\∀r,r < H.next->gG x≠some r->H'.get r=H.get r:=by
 let H1:=H.new (.blk 0 53 o.av);have g1:H1.get H.next=.blk 0 53 o.av:=bC rfl
 have l0:ld (.ref H.next 0 0) H1=some (I o.aO,H1):=by rw [fD g1];rfl
 have l1:ld (.ref H.next 0 1) H1=some (I o.addr,H1):=by rw [fD g1];rfl
 have l2:ld (.ref H.next 0 2) H1=some (I o.value,H1):=by rw [fD g1];rfl
 have O1:Own b H1 x 1 (ws.map I):=O.new _;have S1:=O1.is (n:=ws.length) (by decide) (by simp);have i1:=S1.ix (k:=.i64) (i:=o.addr) h0 h1;have d1:=S1.ld (i:=o.addr.toNat) (by omega);have hg:ws[o.addr.toNat]?=some (ws.getD o.addr.toNat 0):=by
  rw [zao,zab (by omega)];rfl
 rw [zaI,hg,zak,zak] at d1;have st (v:Int):∃H',st 1 (eG x o.addr.toNat) (I v) H1=some (bf,H')/\Own b H' x 1 ((ws.set o.addr.toNat v).map I)/\Step b H H'/\∀r,r < H.next->gG x≠some r->H'.get r=H.get r:=by
  obtain⟨H',a1,a2,a3,a4,a5⟩:=O1.write (by simp only [H1,ji];exact hb) (i:=o.addr.toNat) (v:=I v) (by rw [zaB];omega) dN;rw [<-zdu] at a2;have hlt:∀r,r < H.next->H1.get r=H.get r:=λr hr=> dS hr
  refine⟨H',a1,a2,⟨by rw [a4];rfl,by rw [a3];exact za0 _,λr hr=> ?_⟩,λr hr hn=> by rw [a5 r hn,hlt r hr]⟩;rw [a5 r (λe=> by have:=(O1.name e).1;omega),hlt r (by omega)]
 have go:∀v H',GY cl v H'=some (v,H'):=λ_ _=> rfl;have all:o.av.all AV.aQ=true:=rfl;have none:∀v,WV cl x (.agg o.av) H=some (I v,H1)->qg ws o=(ws,v)->∃H',cl 16 [x,.agg o.av] H=some (I (qg ws o).2,H')/\Own b H' x 1 ((qg ws o).1.map I)/\Step b H H'/\∀r,r < H.next->gG x≠some r->H'.get r=H.get r:=λv h1 h2=> by
  rw [h2];exact⟨H1,bI rfl rfl (ahh _ _ _ _ h1),O1,Step.new _ hbn,λr hr _=> dS hr⟩
 simp only [H1] at l0 l1 l2 i1 d1;by_cases h2:o.aO=2
 ·obtain⟨H',a1,a2⟩:=st o.value;simp only [H1] at a1;have e:qg ws o=(ws.set o.addr.toNat o.value,0):=by unfold qg;rw [if_pos h2]
  rw [e];refine⟨H',bI rfl rfl (ahh _ _ _ _ ?_),a2⟩;simp only [Nat.reduceLT,Int.reduceEq,xq_,WV,aF all,l0,l1,l2,i1,d1,h2,a1,go]
 by_cases h3:o.aO=3
 ·obtain⟨H',a1,a2⟩:=st (w64 (ws.getD o.addr.toNat 0+o.value));simp only [H1,w64] at a1;have e:qg ws o=(ws.set o.addr.toNat (w64 (ws.getD o.addr.toNat 0+o.value)),ws.getD o.addr.toNat 0):=by unfold qg;rw [if_neg h2,if_pos h3]
  rw [e];refine⟨H',bI rfl rfl (ahh _ _ _ _ ?_),a2⟩;simp only [Nat.reduceLT,Int.reduceEq,xq_,WV,aF all,l0,l1,l2,i1,d1,h3,dG,a1,go]
 by_cases h4:o.aO=4
 ·refine none 0 ?_ (by unfold qg;rw [if_neg h2,if_neg h3,if_pos h4]);simp only [Nat.reduceLT,Int.reduceEq,xq_,WV,aF all,l0,l1,l2,i1,d1,h4,go,H1]
 ·refine none (ws.getD o.addr.toNat 0) ?_ (by unfold qg;rw [if_neg h2,if_neg h3,if_neg h4]);simp only [Nat.reduceLT,xq_,WV,aF all,l0,l1,l2,i1,d1,h2,h3,h4,go,H1]
section
variable {b:Nat}{H:ah}{g:bF}{S:IG}{m:cZ}{T k:Nat}
theorem Solo.ext(R:Solo b H g S m T){H':ah}(s:Step H.next H H'):Solo b H' g S m T:=⟨R.good.ext s.next s.low,by rw [s.base];exact R.base,R.nw,R.keep⟩
theorem aiK {ops:List Opn}{all:List Int}(hvs:ops.length<=24)(R:Solo b H g S m T){n:Node}(hn:m.aH=[n])(hl:m.left=0)(hv:n.bG.aZ=all)(hal:all.length=ops.length){x:AV}{N1:Nat}(hx:∀r,gG x=some r->r < N1)(hN:H.next<=N1):
  ∀(j i:Nat) {K:ah} {y:AV} {ws:List Int},i+j=ops.length->Step H.next H K->N1<=K.next->Own (H.next+1) K x 1 (ws.map I)->Own N1 K y 1 ((all.take i).map I)->all.drop i=Q5 (ops.drop i) ws->(∀o∈ops,0<=o.addr/\o.addr < ws.length)->
  ∃K',PI cl [.ref (S.a 0) 0 0,x,y,vsl 3 Opn.av ops,I ops.length,I i] K=some (B true,K'):=by
 intro j
 induction j with
 | zero=>
  intro i K y ws hi s hNK Ox Oy ha hw;have R':=R.ext s;have f0:=R'.bG;have e1:=R'.left;rw [hl] at e1;have hlt:¬(i:Int) < ops.length:=by omega
  obtain⟨z,e2,hz⟩:=R'.aZ hn;rw [zaw (by omega)] at Oy;rw [hv] at hz;have e3:=aaB K (l:=all) (by omega) (hz K) (Oy.is (n:=all.length) (by decide) (by simp));have wk:=λH=> aiA H;refine⟨K,?_⟩;rw [afg];simp only [xq_,hlt,f0,e1,e2,e3,wk,eq_self]
 | succ j ih=>
  intro i K y ws hi s hNK Ox Oy ha hw;have hlt:(i:Int) < ops.length:=by omega
  obtain⟨o,ho⟩:∃o,ops[i]?=some o:=⟨_,zab (by omega)⟩
  have ok:=hw o (zau ho);have hS:=zQ eU K ops;have x1:=hS.ix (k:=.i64) (i:=(i:Int)) (by omega) hlt;rw [zar] at x1;have x2:=oP eU hS ho;have hbase:K.base<=H.next:=by rw [s.base];exact zax R.base R.good.1
  let K1:=K.new (.blk 0 53 o.av);have t1:st 3 (.ref K.next 0 0) (.agg o.av) (K.new (.blk 0 53 [zI,zI,zI]))=some (bf,K1):=by
   have hb3:K.base<=K.next:=by omega
   rw [Pj rfl];simp only [Nat.reduceAdd,aV,xq_,hq_,Opn.av,hb3];rfl
  have l1:lda 3 (.ref K.next 0 0) K1=some (.agg o.av,K1):=(gJ (off:=0) (n:=3) (xs:=o.av) (bC rfl) (zac 3)).trans rfl;obtain⟨K2,a1,a2,a3,a4⟩:=XP (H:=K1) (b:=H.next+1) (by simp only [K1,ji];omega) (by simp only [K1,fE];have:=s.next;omega) (Ox.new _) o ok.1 ok.2;have n1:K1.next=K.next+1:=rfl
  have n2:=a3.next
  have Oy2:Own N1 K2 y 1 ((all.take i).map I):=(Oy.new _).keep n2 λr hr=> a4 r (by have:=(Oy.name hr).2;rw [n1];omega) λe=> by
   have:=hx r e;have:=(Oy.name hr).1;omega
  have eb:bs 22 1 [(0,I (qg ws o).2)] K2=some (.sl K2.next 0 0 1 1 1 true,K2.new (.blk 0 3 [I (qg ws o).2])):=(BJ (by decide)).trans (jS rfl rfl rfl);obtain⟨y',K3,c1,c2,c3⟩:=(Oy2.new (.blk 0 3 [I (qg ws o).2])).step (n:=i) (k:=1) (e:=3) (by_:=8) (y:=.sl K2.next 0 0 1 1 1 true) (new:=[I (qg ws o).2]) (by rw [fE];omega) (by rw [ji,a3.base];simp only [K1,ji];omega) (by decide) (by rw [zaB,zat];omega) (mO rfl) rfl (by unfold most;omega) (by unfold most;omega);have s2:Step H.next K K2:=(Step.new _ s.next).trans ⟨a3.base,a3.next,λr hr=> a3.low r (by omega)⟩
  have s3:Step N1 K2 K3:=(Step.new _ (by omega)).trans c3;have Ox3:Own (H.next+1) K3 x 1 ((qg ws o).1.map I):=a2.keep s3.next λr hr=> s3.low r (hx r hr)
  have hlt':i < ops.length:=by omega
  have ho':ops[i]=o:=by
   rw [zab hlt'] at ho;exact zaY ho
  have hd:ops.drop i=o::ops.drop (i+1):=by rw [zbl hlt',ho']
  have hda:all.drop i=all[i]::all.drop (i+1):=zbl (by omega);rw [hd,hda] at ha;simp only [Q5,zbG] at ha;have hT:(all.take i).map I++[I (qg ws o).2]=(all.take (i+1)).map I:=by
   rw [zcP,zab (by omega),ha.1,zbo];rfl
  rw [hT] at c2;have hlen:=abJ (ws:=ws) (o:=o);obtain⟨K',e⟩:=ih (i+1) (by omega) (s.trans (s2.trans ⟨s3.base,s3.next,λr hr=> s3.low r (by omega)⟩)) (by have:=s3.next;omega) Ox3 c2 ha.2 (λo ho=> by rw [hlen];exact hw o ho);have h6:(i:Int)+1=((i+1:Nat):Int):=by omega
  have h7:=wrap_i64 (a:=((i+1:Nat):Int)) (by omega) (by omega);simp only [K1] at t1 l1 a1;refine⟨K',?_⟩;rw [afg];simp only [xq_,hlt,x1,x2,t1,l1,a1,eb,c1,dG,h6,h7,e]
theorem Q9 {P:Int->Nat->Option Opn}{c:Cfg}(h1:c.aH=1)(hc:c.ok=true)(R:Solo b H g S m T){K:Nat}(D:agw P c.first c m T K){q:Nat}(hcf:H.get q=.blk 0 26 c.av){ops:List Opn}(hP:∀j,P 0 j=ops[j]?)(hr:∀o∈ops,c.right o=true)(hol:ops.length<=24){i:Nat}(hl:m.left<=0):
  ∃H',JI cl [.ref q 0 0,vsl 3 Opn.av ops,.ref S.f 0 0,.ref S.t 0 0,.ref (S.a 0) 0 0,I i] H=some (B true,H'):=by
 obtain⟨n,hn,hn0,hv⟩:=D.told h1 hP hl;have f0:=R.bG;have e1:=R.left;have h0:m.left=0:=by rw [QM hn,hn0]
 have h00:¬(0:Int) < 0:=by omega
 rw [h0] at e1;have l8:=CQ hcf;obtain⟨x,K1,e2,Ox,s1⟩:=abM (H:=H) (zax R.base R.good.1) hc;have ln:=(zQ eU K1 ops).lnS;have hal:(abH c ops c.first).length=ops.length:=by
  have e:∀(l:List Opn) (v:Int->List Int),(abH c l v).length=l.length:=by
   intro l
   induction l with
   | nil=> intro _;rfl
   | cons o l ih=> intro v;simp only [abH,zal,ih]
  exact e ops _
 have M:=abL hc;have hw:∀o∈ops,0<=o.addr/\o.addr < (qQ c c.aY.toNat).length:=λo ho=> by
  obtain⟨a0,a1,_⟩:=abK (hr o ho);rw [M.len];exact⟨a0,a1⟩
 have s1n:=s1.next
 obtain⟨K',e3⟩:=aiK hol R hn h0 hv hal (x:=x) (N1:=K1.next) (λr h=> (Ox.name h).2) s1n ops.length 0 (by omega) s1 (zac _) Ox (.inl ⟨rfl,rfl⟩) (Q8 hc M hr).symm hw
 replace e3:PI cl [.ref (S.a 0) 0 0,x,zN,vsl 3 Opn.av ops,I ops.length,I 0] K1=some (B true,K'):=e3
 refine⟨K',?_⟩;rw [aff];by_cases hlt:(i:Int) < 800
 ·simp only [xq_,hlt,f0,e1,h00,l8,e2,ln,e3]
 ·simp only [xq_,hlt,l8,e2,ln,e3]
theorem abN {P:Int->Nat->Option Opn}{c:Cfg}(h1:c.aH=1)(hc:c.ok=true){q:Nat}(hq:q < b){ops:List Opn}(hP:∀j,P 0 j=ops[j]?)(hr:∀o∈ops,c.right o=true)(hol:ops.length<=24):∀(j i:Nat) {H:ah} {g:bF} {m:cZ} {k:Nat},i+j=800->Solo b H g S m i->agw P c.first c m i k->k<=j->H.get q=.blk 0 26 c.av->
  ∃H',JI cl [.ref q 0 0,vsl 3 Opn.av ops,.ref S.f 0 0,.ref S.t 0 0,.ref (S.a 0) 0 0,I i] H=some (B true,H'):=by
 intro j
 induction j with
 | zero=>
  intro i H g m k hi R D hk hcf;have hl:m.left<=0:=Classical.byContradiction λh=> by
   have:=(D.turn h1 (VZ (by omega))).1;omega
  exact Q9 h1 hc R D hcf hP hr hol hl
 | succ j ih=>
  intro i H g m k hi R D hk hcf;by_cases hl:m.left<=0
  ·exact Q9 h1 hc R D hcf hP hr hol hl
  have hl:0 < m.left:=by omega
  obtain⟨k0,D1⟩:=D.turn h1 (VZ hl);have f0:=R.bG;have e1:=R.left;have hlt:(i:Int) < 800:=by omega
  obtain⟨K1,g1,a1,R1,_,S1⟩:=R.step (by omega);obtain⟨K3,g3,a4,R3,_,S3⟩:=R1.deliver (at_:=0) (bit:=0) (mask:=0) Ko Ko (by decide) (by decide);have arD:K3.get q=.blk 0 26 c.av:=by rw [S3.low q hq,S1.low q hq];exact hcf
  obtain⟨H',e⟩:=ih (i+1) (by omega) R3 D1 (by omega) arD;have h6:(i:Int)+1=((i+1:Nat):Int):=by omega
  have h7:=wrap_i64 (a:=((i+1:Nat):Int)) (by omega) (by omega);refine⟨H',?_⟩;rw [aff];simp only [xq_,hlt,f0,e1,hl,a1,a4,dG,h6,h7,e]
end
theorem NU {s:mP}{zi zw zk za zv:List Int}(h:s.Ok zi zw zk za zv)(hi:aN ah.empty s.init 1 zi.length (zi.map I))(hw:aN ah.empty s.who 1 zw.length (zw.map I))(hk:aN ah.empty s.kinds 1 zk.length (zk.map I))(ha:aN ah.empty s.kC 1 za.length (za.map I))(hv:aN ah.empty s.aZ 1 zv.length (zv.map I))
  (hc:s.init.aQ=true/\s.who.aQ=true/\s.kinds.aQ=true/\s.kC.aQ=true/\s.aZ.aQ=true):
  ∃H',cl 3 [.agg s.cells] ah.empty=some (B true,H'):=by
 have hall:s.cells.all AV.aQ=true:=by
  simp only [mP.cells,zcX,zds,hc,zdb];rfl
 let H1:=ah.empty.new (.blk 0 24 s.cells);let c:=s.cfg zi;let ps:=uU c zw zk za zv 20;let c1:Cfg:=⟨1,c.aY,c.bn,c.sets,c.ways,c.out,c.inn,c.init⟩
 let ops:=ps.getD 0 [];obtain⟨H3,hH3⟩:∃x,x=H1.new (.blk 0 26 c1.av):=⟨_,rfl⟩
 have hck:c.ok=true:=agc s zi;have hck1:c1.ok=true:=anl hck;have hvz:∀z∈zv,vX z:=λz hz=> an7 (h.aZ.wf z hz);have hiz:∀z∈c.init,vX z:=λz hz=> an7 (h.init.wf z (zcx hz));have hlen:ps.length=c.aH.toNat:=qK _ _ _ _ _ _;have h0:=(lI hck).1;have hps0:0 < ps.length:=by omega
 have hg:ps[0]?=some ops:=by
  show ps[0]?=some (ps.getD 0 []);rw [zao,zab hps0];rfl
 have hmem:ops∈ps:=zau hg;have hol:ops.length<=20:=by
  have:=Bl c zw zk za zv _ ops hmem;omega
 have hright:∀o∈ops,c1.right o=true/\I64 o.value:=Ba hck zw zk za zv hvz _ ops hmem;have X:MX 0 (.new c1 [ops]):=ags hck1 hiz (aei rfl (by omega) λo ho=> (hright o ho).1) (λl hl=> by rw [zaN.1 hl];exact hright);have e1:=λH=> Qe H h hi hc;have e2:∀H,cl 8 [.agg s.cells,I 20] H=some (.vs ps.length 1 (ps.map (vsl 3 Opn.av)),H):=λH=> by
  obtain⟨ps',arE,e⟩:=Tq H h hi hw hk ha hv hc (mo:=20) (by decide);rw [arE] at e;exact e
 obtain⟨K1,f,K2,t,P,a1,a2,n2,g2,g1,n1,nd⟩:=Kr H3 (by rw [hH3];exact zaR _) (c:=c1) hck1 rfl (l:=ops) (by omega) X;obtain⟨K3,ad,g,a3,R,g3⟩:=nd K2 (.inl rfl) (vsl 3 Opn.av ops) (zQ eU K2 ops) (λe=> by rw [e];exact gK);have hn3:H3.next=2:=by rw [hH3];rfl
 have b3:H3.get 1=.blk 0 26 c1.av:=by rw [hH3];exact bC rfl
 have b0:H3.get 0=.blk 0 24 s.cells:=by
  rw [hH3,dS (by show 0 < 1;decide)];exact bC rfl
 have l1:lda 8 (.ref (ah.empty.next+1) 0 0) H3=some (.agg c1.av,H3):=(gJ (off:=0) (n:=8) b3 (zac 8)).trans rfl;have l2:lda 8 (.ref (ah.empty.next+1) 0 0) K2=some (.agg c1.av,K2):=(gJ (off:=0) (n:=8) (xs:=c1.av) ((g2 _ (by rw [hn3];decide)).trans b3) (zac 8)).trans rfl;have l3:lda 12 (.ref ah.empty.next 0 0) H3=some (.agg s.cells,H3):=(gJ (off:=0) (n:=12) (xs:=s.cells) b0 (zac 12)).trans rfl;have hS:aN H3 (.vs ps.length 1 (ps.map (vsl 3 Opn.av))) 1 ps.length (ps.map (vsl 3 Opn.av)):=aN.vs (by simp);have ix_:=hS.ix (k:=.i64) (i:=0) (zbr 0) (by omega);have ld_:=hS.ld hps0
 replace ix_:ix 1 (.vs ps.length 1 (ps.map (vsl 3 Opn.av))) (I 0) H3=some (eG (.vs ps.length 1 (ps.map (vsl 3 Opn.av))) 0,H3):=ix_
 rw [zaI,hg,zak,zak] at ld_;have hn4:K3.base<=K3.next:=zax R.base R.good.1
 have D:=aeh hck1 rfl X;have c3:K3.get 1=.blk 0 26 c1.av:=by
  rw [g3 1 (by omega),g2 1 (by omega)];exact b3
 obtain⟨H',e⟩:=abN (b:=H3.next) (c:=c1) rfl hck1 (q:=1) (by rw [hn3];decide) (ops:=ops) (λj=> rfl) (λo ho=> (hright o ho).1) (by omega) 800 0 (by decide) R D (by omega) c3;have e':JI cl [.ref (ah.empty.next+1) 0 0,vsl 3 Opn.av ops,.ref f 0 0,.ref t 0 0,.ref (ad 0) 0 0,I 0] K3=some (B true,H'):=e;have ls:s.cells.length=12:=rfl;have lt:s.cells.take 12=s.cells:=rfl;have nf:bi .eql 31 (.ref f 0 0) zP=some (B false):=by kernel_rfl
 have nt:bi .eql 33 (.ref t 0 0) zP=some (B false):=by kernel_rfl
 have nn:bi .eql 35 (.ref (ad 0) 0 0) zP=some (B false):=by kernel_rfl
 have hb0:ah.empty.base<=ah.empty.next+1:=by decide
 have hx3:(ah.empty.new (.blk 0 24 s.cells)).new (.blk 0 26 (I 1::List.drop 1 (s.cfg zi).av))=H3:=hH3.symm;refine⟨H',bI rfl rfl (aqK _ _ _ ?_)⟩;simp only [Nat.reduceLT,Nat.reduceAdd,Nat.reduceLeDiff,aV,xq_,hq_,aqh,aF hall,ls,lt,e1,hb0,hx3,l1,a1,a2,l2,l3,e2,ix_,ld_,a3,nf,nt,nn,e']
end
end Go.Proofs.YtljogojaihgdlaaGreat
