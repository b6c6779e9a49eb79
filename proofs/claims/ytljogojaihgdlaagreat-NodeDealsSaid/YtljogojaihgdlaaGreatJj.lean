/-
  Own work: an interpreter over named blocks, its soundness, and what the functions of this seat compute (part 10 of 11).
  Conditions: those of the statement alone.
-/
import Derived.Test.YtljogojaihgdlaaGreatJi
set_option linter.all false
set_option linter.unusedSectionVars false
set_option linter.unusedVariables false
set_option linter.unusedSimpArgs false
namespace Go.Proofs.YtljogojaihgdlaaGreat
noncomputable section
def bW.EX(m:bW)(L:Int):tX:=λj=> (m.bn j).bind λn=> n.aI.find L
def bW.lI(m:bW)(L:Int):Home:=match m.bn (m.c.aX L) with
 | some n=> n.home
 | none=> ⟨[],⟨[],[]⟩⟩
def bW.kZ(m:bW)(j:Int):bJ:=match m.bn j with
 | some n=> n.aF
 | none=> .zero
def bW.abs(m:bW)(msg:Int->Out)(val:Int->List Int):Abs:=
 ⟨m.EX,λL=> jc (m.lI L).dD L,λL=> (m.lI L).aP.owner L,λL=> (m.lI L).aP.ws L,m.kZ,msg,val⟩
structure GInv(m:bW)(msg:Int->Out)(val:Int->List Int):Prop where
 abs:nV m.c (m.abs msg val)
 pk:pI m.fab msg
def bW.with_(m:bW)(i:Nat)(n:Node)(f:Fab)(t:List Evn):bW:={ m with aH:=m.aH.set i n,fab:=f,trace:=t }
section
variable {m:bW}{i:Nat}{n n':Node}{f:Fab}{t:List Evn}{msg msg':Int->Out}{val val':Int->List Int}
theorem vC(h:m.aH[i]?=some n):m.bn i=some n:=by
 unfold bW.bn;rw [if_pos (by omega),zaq];exact h
theorem wW(h:m.aH[i]?=some n)(j:Int):(m.with_ i n' f t).bn j=if j=i then some n' else m.bn j:=by
 have hlt:=(zai.1 h).1;unfold bW.bn bW.with_;simp only;by_cases hj:j=i
 ·rw [if_pos hj,hj,if_pos (by omega),zaq,za7 hlt]
 ·rw [if_neg hj];by_cases h0:0<=j
  ·rw [if_pos h0,if_pos h0,zbc (by omega)]
  ·rw [if_neg h0,if_neg h0]
theorem Iq(h:m.aH[i]?=some n)(L:Int):(m.with_ i n' f t).EX L=nU (m.EX L) i (n'.aI.find L):=by
 funext j
 unfold bW.EX;rw [wW h];by_cases hj:j=i
 ·rw [if_pos hj,hj,fO];rfl
 ·rw [if_neg hj,fB hj]
theorem C9(h:m.aH[i]?=some n):(m.with_ i n' f t).kZ=dH m.kZ i n'.aF:=by
 funext j
 unfold bW.kZ;rw [wW h];by_cases hj:j=i
 ·rw [if_pos hj,hj,aJ]
 ·rw [if_neg hj,aU hj]
theorem xR(h:m.aH[i]?=some n)(L:Int):(m.with_ i n' f t).lI L=if m.c.aX L=i then n'.home else m.lI L:=by
 unfold bW.lI;have hc:(m.with_ i n' f t).c=m.c:=rfl;rw [wW h,hc];by_cases hj:m.c.aX L=i
 ·rw [if_pos hj,if_pos hj]
 ·rw [if_neg hj,if_neg hj]
theorem lU(h:m.aH[i]?=some n){L:Int}(hL:m.c.aX L=i):m.lI L=n.home:=by
 unfold bW.lI;rw [hL,vC h]
theorem sF(h:m.aH[i]?=some n)(L:Int):m.EX L i=n.aI.find L:=by
 unfold bW.EX;rw [vC h];rfl
theorem jZ(h:m.aH[i]?=some n):m.kZ i=n.aF:=by
 unfold bW.kZ;rw [vC h]
theorem qO(h:m.aH[i]?=some n)(hh:n'.home=n.home){L:Int}(hc:∀L',L'≠L->n'.aI.find L'=n.aI.find L'):
  (m.with_ i n' f t).abs msg' val'={ m.abs msg val with ent:=dH m.EX L (nU (m.EX L) i (n'.aI.find L)),aF:=dH m.kZ i n'.aF,msg:=msg',val:=val' }:=by
 have hH:∀L,(m.with_ i n' f t).lI L=m.lI L:=λL=> by
  rw [xR h];by_cases hL:m.c.aX L=i
  ·rw [if_pos hL,hh,lU h hL]
  ·rw [if_neg hL]
 have hE:(m.with_ i n' f t).EX=dH m.EX L (nU (m.EX L) i (n'.aI.find L)):=by
  funext L'
  rw [Iq h];by_cases hL:L'=L
  ·rw [hL,aJ]
  ·rw [aU hL,hc L' hL,<-sF h L',lH]
 unfold bW.abs;simp only [hH,hE,C9 h]
theorem EY(h:m.aH[i]?=some n)(hc:∀L,n'.aI.find L=n.aI.find L)(hd:n'.aF=n.aF){L:Int}(hL:m.c.aX L=i)(hr:∀L',L'≠L->jc n'.home.dD L'=jc n.home.dD L')(ho:∀L',L'≠L->n'.home.aP.owner L'=n.home.aP.owner L')(hw:∀L',L'≠L->n'.home.aP.ws L'=n.home.aP.ws L'):
  (m.with_ i n' f t).abs msg' val={ m.abs msg val with row:=dH (m.abs msg val).row L (jc n'.home.dD L),own:=dH (m.abs msg val).own L (n'.home.aP.owner L),ws:=dH (m.abs msg val).ws L (n'.home.aP.ws L),msg:=msg' }:=by
 have hE:(m.with_ i n' f t).EX=m.EX:=by
  funext L'
  rw [Iq h,hc,<-sF h L',lH]
 have hD:(m.with_ i n' f t).kZ=m.kZ:=by
  rw [C9 h,hd,<-jZ h]
  funext j
  by_cases hj:j=i
  ·rw [hj,aJ]
  ·rw [aU hj]
 have h1:(λL'=> jc ((m.with_ i n' f t).lI L').dD L')=dH (λL=> jc (m.lI L).dD L) L (jc n'.home.dD L):=by
  funext L'
  rw [xR h];by_cases e:L'=L
  ·rw [e,if_pos hL,aJ]
  ·rw [aU e];by_cases e':m.c.aX L'=i
   ·rw [if_pos e',hr L' e,lU h e']
   ·rw [if_neg e']
 have h2:(λL'=> ((m.with_ i n' f t).lI L').aP.owner L')=dH (λL=> (m.lI L).aP.owner L) L (n'.home.aP.owner L):=by
  funext L'
  rw [xR h];by_cases e:L'=L
  ·rw [e,if_pos hL,aJ]
  ·rw [aU e];by_cases e':m.c.aX L'=i
   ·rw [if_pos e',ho L' e,lU h e']
   ·rw [if_neg e']
 have h3:(λL'=> ((m.with_ i n' f t).lI L').aP.ws L')=dH (λL=> (m.lI L).aP.ws L) L (n'.home.aP.ws L):=by
  funext L'
  rw [xR h];by_cases e:L'=L
  ·rw [e,if_pos hL,aJ]
  ·rw [aU e];by_cases e':m.c.aX L'=i
   ·rw [if_pos e',hw L' e,lU h e']
   ·rw [if_neg e']
 unfold bW.abs;simp only [hE,hD,h1,h2,h3]
end
theorem QH {c:Cfg}(hc:c.ok=true){i:Int}(hi:0<=i/\i < c.aH){k L id:Int}(hL:0<=L/\L < c.bg)(hid:0<=id/\id < 4096):((bJ.begin k L id).ask i (c.aX L)).ok=true/\oW ((bJ.begin k L id).ask i (c.aX L)).aO=true/\((bJ.begin k L id).ask i (c.aX L)).src=i/\0<=((bJ.begin k L id).ask i (c.aX L)).dst/\((bJ.begin k L id).ask i (c.aX L)).dst < c.aH:=by
 obtain⟨h1,h2,_⟩:=mM hc;have hh:0<=c.aX L/\c.aX L < c.aH:=by
  unfold Cfg.aX yw;rw [if_neg (by omega)];exact⟨zb8 _ (by omega),zcm _ (by omega)⟩
 have e:(bJ.begin k L id).ask i (c.aX L)=⟨1,i,c.aX L,id,L,0,0,false,[]⟩:=rfl;rw [e];refine⟨?_,rfl,rfl,hh.1,hh.2⟩;simp only [Pkt.ok,zah,decide_eq_true_eq,zan];omega
theorem Dc {c:Cfg}(hc:c.ok=true){L:Int}(hL:0<=L):0<=c.aX L/\c.aX L < c.aH:=by
 obtain⟨h1,_⟩:=mM hc;unfold Cfg.aX yw;rw [if_neg (by omega)];exact⟨zb8 _ (by omega),zcm _ (by omega)⟩
theorem ail {c:Cfg}(hc:c.ok=true){i:Int}(hi:0<=i/\i < c.aH){E:tX}{r:Row}{v:List Int}{d:bJ}(H:Hold c.aH (c.aX d.aj) E r v i d (.req (d.ask i (c.aX d.aj))))(hL:0<=d.aj/\d.aj < c.bg)(hid:0<=d.id/\d.id < 4096)(hd:d.data.length<=4):
  (d.ask i (c.aX d.aj)).ok=true/\oW (d.ask i (c.aX d.aj)).aO=true/\(d.ask i (c.aX d.aj)).src=i/\0<=(d.ask i (c.aX d.aj)).dst/\(d.ask i (c.aX d.aj)).dst < c.aH:=by
 obtain⟨h1,h2,_⟩:=mM hc;have hh:=Dc hc hL.1;have last:∀{l:List Int},Rng c.aH l->l≠[]->0<=nJ l (-1)/\nJ l (-1) < c.aH:=λR hl=> R.2 _ (Ih hl);have apy:∀{l:List Int},Rng c.aH l->-1<=nJ l (-1)/\nJ l (-1) < c.aH:=λ{l} R=> by
  by_cases hl:l=[]
  ·rw [hl];exact⟨zbi _,by show(-1:Int) < c.aH;omega⟩
  ·have:=last R hl;omega
 have hd_:∀{l:List Int},Rng c.aH l->l≠[]->0<=hdI l (-1)/\hdI l (-1) < c.aH:=λR hl=> R.2 _ (R.hd hl).1;have hdo:∀{l:List Int},Rng c.aH l->-1<=hdI l (-1)/\hdI l (-1) < c.aH:=λ{l} R=> by
  by_cases hl:l=[]
  ·rw [hl];exact⟨zbi _,by show(-1:Int) < c.aH;omega⟩
  ·have:=hd_ R hl;omega
 have hq:∃q,Out.req (d.ask i (c.aX d.aj))=q/\Hold c.aH (c.aX d.aj) E r v i d q:=⟨_,rfl,H⟩
 obtain⟨q,hq,H⟩:=hq;cases H with
 | attach k1 k2 k3 k4 W=>
  have:=hd_ W.rng k3;have e:d.ask i (c.aX d.aj)=⟨3,i,d.head,d.id,d.aj,i,0,false,[]⟩:=by unfold bJ.ask;simp [k1]
  rw [e];refine⟨?_,rfl,rfl,by show 0<=d.head;omega,by show d.head < c.aH;omega⟩;simp only [Pkt.ok,zah,decide_eq_true_eq,zan];omega
 | IE k1 k2 L k3 k4=>
  have:=L.rng.2 d.next (by simp)
  have e:d.ask i (c.aX d.aj)=⟨6,i,d.next,d.id,d.aj,0,0,false,[]⟩:=by unfold bJ.ask;simp [k1]
  rw [e];refine⟨?_,rfl,rfl,by show 0<=d.next;omega,by show d.next < c.aH;omega⟩;simp only [Pkt.ok,zah,decide_eq_true_eq,zan];omega
 | front k1 k2 M k3 C k4 k5 k6=>
  obtain⟨_,_,_,p1,p2,_⟩:=M.rng.mid;have:=last p1 k3;have:=hdo p2;have e:d.ask i (c.aX d.aj)=⟨4,i,d.head,d.id,d.aj,d.next,0,false,[]⟩:=by unfold bJ.ask;simp [k1]
  rw [e];refine⟨?_,rfl,rfl,by show 0<=d.head;omega,by show d.head < c.aH;omega⟩;simp only [Pkt.ok,zah,decide_eq_true_eq,zan];omega
 | behind k1 k2 M k3 C C' k4 k5 k6=>
  obtain⟨_,_,_,p1,p2,_⟩:=M.rng.mid;have:=apy p1;have:=hd_ p2 k3;have e:d.ask i (c.aX d.aj)=⟨5,i,d.next,d.id,d.aj,d.head,0,false,[]⟩:=by unfold bJ.ask;simp [k1]
  rw [e];refine⟨?_,rfl,rfl,by show 0<=d.next;omega,by show d.next < c.aH;omega⟩;simp only [Pkt.ok,zah,decide_eq_true_eq,zan];omega
 | unlock k1 W=>
  have:=hdo W.rng;have h3:d.head=_:=W.head;have h4:d.aT=0∨d.aT=1∨d.aT=2:=W.st;have e:d.ask i (c.aX d.aj)=⟨2,i,c.aX d.aj,d.id,d.aj,d.head,d.aT,decide (d.data≠[]),d.data⟩:=by unfold bJ.ask;simp [k1]
  rw [e];refine⟨?_,rfl,rfl,hh.1,hh.2⟩;simp only [Pkt.ok,zah,decide_eq_true_eq];omega
 | granted _ _=> cases hq
 | attached _ _ _ _ _ _ _ _ _ _=> cases hq
 | Ii _ _ _ _ _=> cases hq
 | y9 _ _ _ _ _ _ _ _ _=> cases hq
 | uX _ _ _ _ _ _ _ _ _=> cases hq
def mg(c:Cfg)(o:Opn)(val:Int->List Int):(Int->List Int) × Int:=
 let L:=c.bV o.addr;let w:=(c.dw o.addr).toNat
 if o.aO=1 then(val,(val L).getD w 0)
 else if o.aO=2 then(dH val L ((val L).set w o.value),0)
 else if o.aO=3 then(dH val L ((val L).set w (w64 ((val L).getD w 0+o.value))),(val L).getD w 0)
 else(val,0)
inductive zh (c:Cfg) (P:Int->Nat->Option Opn):List Evn->(Int->List Int)->List Evn->(Int->List Int)->Prop
 | same {t:List Evn} {v:Int->List Int}:zh c P t v t v
 | dU {t t':List Evn} {v v':Int->List Int} (i:Int) (k:Nat):zh c P t v t' v'->zh c P t v (t'++[⟨i,k,false,0⟩]) v'
 | done {t t':List Evn} {v v':Int->List Int} (i:Int) (k:Nat) (o:Opn):P i k=some o->zh c P t v t' v'->zh c P t v (t'++[⟨i,k,true,(mg c o v').2⟩]) (mg c o v').1
def bW.opAt(m:bW)(i:Int)(k:Nat):Option Opn:=match m.bn i with
 | some n=> n.bG.ops[k]?
 | none=> none
theorem abd {c:Cfg}{o:Opn}{e:Ent}{val:Int->List Int}(hk:o.aO=1∨((o.aO=2∨o.aO=3)/\e.cO=true))(hv:e.data=val (c.bV o.addr))(hw:0<=c.dw o.addr/\c.dw o.addr < e.data.length):
  (eH e o (c.dw o.addr)).data=(mg c o val).1 (c.bV o.addr)/\(∀L,L≠c.bV o.addr->(mg c o val).1 L=val L)/\(if o.aO=2 then 0 else e.word (c.dw o.addr))=(mg c o val).2/\
  (eH e o (c.dw o.addr)).back=e.back/\(eH e o (c.dw o.addr)).fwd=e.fwd/\(eH e o (c.dw o.addr)).cO=e.cO/\(o.aO=1->eH e o (c.dw o.addr)=e):=by
 have hword:e.word (c.dw o.addr)=(val (c.bV o.addr)).getD (c.dw o.addr).toNat 0:=by
  unfold Ent.word;rw [if_pos hw,hv]
 unfold eH mg;rcases hk with hk | ⟨hk | hk,hd⟩
 ·rw [if_neg (by omega),if_neg (by omega),if_pos hk,if_neg (by omega)];exact⟨hv,λ_ _=> rfl,hword,rfl,rfl,rfl,λ_=> rfl⟩
 ·have hwr:∀x,e.write (c.dw o.addr) x={ e with data:=e.data.set (c.dw o.addr).toNat x }:=λx=> by
   unfold Ent.write;rw [if_pos ⟨hd,hw⟩]
  rw [if_pos hk,if_neg (by omega),if_pos hk,if_pos hk,hwr];exact⟨by simp only [aJ,hv],λL hL=> aU hL,rfl,rfl,rfl,rfl,λh=> by omega⟩
 ·have hwr:∀x,e.write (c.dw o.addr) x={ e with data:=e.data.set (c.dw o.addr).toNat x }:=λx=> by
   unfold Ent.write;rw [if_pos ⟨hd,hw⟩]
  rw [if_neg (by omega),if_pos hk,if_neg (by omega),if_neg (by omega),if_pos hk,if_neg (by omega),hwr,hword];exact⟨by simp only [aJ,hv],λL hL=> aU hL,rfl,rfl,rfl,rfl,λh=> by omega⟩
theorem jB {α:Type}{g:Int->α}{j:Int}:dH g j (g j)=g:=by
 funext k
 by_cases h:k=j
 ·rw [h,aJ]
 ·rw [aU h]
def Node.Ir(n:Node):Nat:=n.bG.ops.length - n.bG.bf.length
def bW.pJ(m:bW)(j:Int):Nat:=match m.bn j with
 | some n=> n.Ir
 | none=> 0
def bW.todo(m:bW)(msg:Int->Out):Nat:=2*pot m.c m.pJ (m.abs msg λ_=> [])+m.fab.under
section
variable {m:bW}{i:Nat}{n n':Node}{f:Fab}{t:List Evn}{msg msg':Int->Out}{val val':Int->List Int}
theorem Df(h:m.aH[i]?=some n):(m.with_ i n' f t).pJ=dH m.pJ i n'.Ir:=by
 funext j
 unfold bW.pJ;rw [wW h];by_cases hj:j=i
 ·rw [if_pos hj,hj,aJ]
 ·rw [if_neg hj,aU hj]
theorem Ns(h:m.aH[i]?=some n):m.pJ i=n.Ir:=by
 unfold bW.pJ;rw [vC h]
theorem TJ(hp:pot m.c (m.with_ i n' f t).pJ ((m.with_ i n' f t).abs msg' val') < pot m.c m.pJ (m.abs msg val))(hu:f.under<=m.fab.under+1):(m.with_ i n' f t).todo msg' < m.todo msg:=by
 have h1:(m.with_ i n' f t).todo msg'=2*pot m.c (m.with_ i n' f t).pJ ((m.with_ i n' f t).abs msg' val')+f.under:=rfl;have h2:m.todo msg=2*pot m.c m.pJ (m.abs msg val)+m.fab.under:=rfl;rw [h1,h2];omega
end
theorem Iu {f:Fab}{i:Int}{q:Port}(hi:f.is i=true):(f.put i q).under+((f.port i).rq.length+(f.port i).an.length)=f.under+(q.rq.length+q.an.length):=by
 have h:=fA hi;obtain⟨hlt,he⟩:=zai.1 h;unfold Fab.under Fab.all Fab.put;simp only;have key:∀(l:List Port) (k:Nat) (x:Port),l[k]?=some x->((l.set k q).flatMap λq=> q.rq++q.an).length+(x.rq.length+x.an.length)=(l.flatMap λq=> q.rq++q.an).length+(q.rq.length+q.an.length):=by
  intro l
  induction l with
  | nil=> intro k x h;simp at h
  | cons y l ih=>
   intro k x h;cases k with
   | zero=>
    simp only [zaR,zaa] at h;subst h;simp only [zbQ,zaE,zao];omega
   | succ k=>
    simp only [zbg] at h;have:=ih k x h;simp only [zb4,zaE,zao];omega
 exact key _ _ _ h
theorem abe {f:Fab}{i:Int}{q:Port}(hi:f.is i=true)(h1:q.rq=(f.port i).rq)(h2:q.an=(f.port i).an):(f.put i q).all=f.all:=CZ (fA hi) h1 h2
theorem Ko {f f':Fab}{i:Int}{r:Bool}{po:Option Pkt}(h:f.take i r=(f',po)):f'.under=f.under:=by
 unfold Fab.take at h;split at h
 ·rename_i hi;split at h
  ·cases h;rfl
  ·cases h;unfold Fab.under;rw [abe hi (by cases r <;> rfl) (by cases r <;> rfl)]
 ·cases h;rfl
theorem mP(f:Fab)(p:Pkt):(f.send p).1.under<=f.under+1:=by
 unfold Fab.send;split
 ·exact za3 _
 ·rename_i h;split
  ·exact za3 _
  ·simp only;have hi:f.is p.src=true:=by
    simp only [zbe,zaY,not_or,zcb] at h;exact h.1.2
   have:=Iu (q:=(f.port p.src).jE (oW p.aO) ((f.port p.src).sort (oW p.aO)++[p])) hi;cases hk:oW p.aO <;> rw [hk] at this <;> simp [Port.jE,Port.sort] at this ⊢ <;> omega
theorem Bf {f:Fab}{a b m:Int}(hin:∀p∈f.all,f.is p.dst=true)(h:(f.deliver a b m).2=0):(f.deliver a b m).1.under+1=f.under:=by
 unfold Fab.deliver at h ⊢;split at h
 ·cases h
 rename_i h1;rw [if_neg h1];split at h
 ·cases h
 rename_i p hp;split at h
 ·cases h
 rename_i h2;split at h
 ·cases h
 rename_i h3;simp only [h2,h3,if_false,zaf];have hd:=hin p (zav hp);obtain⟨q,hq⟩:∃q,q=(f.port p.dst).kL (oW p.aO) ((f.port p.dst).pz (oW p.aO)++[p]):=⟨_,rfl⟩
 have ha:(f.put p.dst q).all=f.all:=abe hd (by rw [hq];cases oW p.aO <;> rfl) (by rw [hq];cases oW p.aO <;> rfl);rw [<-hq];rw [<-ha] at hp;obtain⟨i,req,k',x,f1,f2,f3⟩:=vk (i0:=0) hp;rw [zaW] at f1;unfold Fab.remove;rw [f1];simp only;have hi:=DV f2;have h5:=Iu (q:=((f.put p.dst q).port i).drop req k') hi;have hx:=vw f2;have hu:(f.put p.dst q).under=f.under:=by unfold Fab.under;rw [ha]
 rw [hx] at h5 ⊢;have hlt:=(zai.1 f3).1;cases req <;> simp [Port.drop,Port.jE,Port.sort,List.length_eraseIdx] at h5 hlt ⊢ <;> rw [if_pos hlt] at h5 <;> omega
section
variable {c:Cfg}{lf:Int->Nat}{a:Abs}{i L:Int}{x:Option Ent}{d':bJ}{msg':Int->Out}{val':Int->List Int}{k:Nat}
theorem abf(hi:0<=i/\i < c.aH)(hL:0<=L/\L < c.bg)(hm:∀j,j≠i->msg' j=a.msg j)(hr:∀L',L'≠L->∀y,wt d' L' y=wt (a.aF i) L' y)(h3:33*k+Dp d' (msg' i)+wt d' L x < 33*lf i+Dp (a.aF i) (a.msg i)+wt (a.aF i) L (a.ent L i)):
  pot c (dH lf i k) { a with ent:=dH a.ent L (nU (a.ent L) i x),aF:=dH a.aF i d',msg:=msg',val:=val' } < pot c lf a:=by
 refine TF hi hi hL (λj hj=> ⟨aU hj,aU hj,hm j hj⟩) (λj L' h=> ?_) ?_
 ·show wt (dH a.aF i d' j) L' (dH a.ent L (nU (a.ent L) i x) L' j)=wt (a.aF j) L' (a.ent L' j);by_cases hj:j=i
  ·subst hj;have hL':=h.resolve_left λh=> h rfl;rw [aJ,aU hL'];exact hr L' hL' _
  ·rw [aU hj];by_cases e:L'=L
   ·rw [e,aJ,fB hj]
   ·rw [aU e]
 ·show 33*dH lf i k i+Dp (dH a.aF i d' i) (msg' i)+wt (dH a.aF i d' i) L (dH a.ent L (nU (a.ent L) i x) L i) < _;rw [aJ,aJ,aJ,fO];exact h3
theorem aio {a':Abs}(hi:0<=i/\i < c.aH)(hl:0 < c.bg)(h1:a'.ent=a.ent)(h2:a'.aF=a.aF)(hm:∀j,j≠i->a'.msg j=a.msg j)(h3:Dp (a.aF i) (a'.msg i) < Dp (a.aF i) (a.msg i)):pot c lf a' < pot c lf a:=by
 refine TF (L:=0) hi hi ⟨zbi _,hl⟩ (λj hj=> ⟨rfl,by rw [h2],hm j hj⟩) (λj L' h=> by rw [h1,h2]) ?_;rw [h1,h2];omega
theorem abg {s:Int}{q p:Pkt}{e:Ent}(hi:0<=i/\i < c.aH)(hs:0<=s/\s < c.aH)(hL:0<=L/\L < c.bg)(hm:a.msg s=.req p)(he:a.ent L i=some e)(h0:(a.aF s).step≠0)(h3:(∃e',x=some e')/\(a.aF s).step≠3∨x=none):
  pot c lf { a with ent:=dH a.ent L (nU (a.ent L) i x),msg:=dH a.msg s (.ans q) } < pot c lf a:=by
 refine TF hs hi hL (λj hj=> ⟨rfl,rfl,aU hj⟩) (λj L' h=> ?_) ?_
 ·show wt (a.aF j) L' (dH a.ent L (nU (a.ent L) i x) L' j)=wt (a.aF j) L' (a.ent L' j);by_cases e:L'=L
  ·have hj:=h.resolve_right λh=> h e;rw [e,aJ,fB hj]
  ·rw [aU e]
 ·show 33*lf s+Dp (a.aF s) (dH a.msg s (.ans q) s)+wt (a.aF i) L (dH a.ent L (nU (a.ent L) i x) L i) < _;rw [aJ,aJ,fO,hm,he];unfold Dp;rw [if_neg h0,if_neg h0];have l1:loc (a.aF s).step (.req p)=3:=rfl;have l2:loc (a.aF s).step (.ans q)=if(a.aF s).step=3 then 4 else 1:=rfl;rcases h3 with⟨⟨e',rfl⟩,h3⟩ | rfl
  ·rw [l1,l2,if_neg h3,aik (e:=e') (e':=e)];omega
  ·rw [l1,l2,aa8];have:=amO (d:=a.aF i) (L:=L) (e:=e);split <;> omega
end
section
variable {m:bW}{T:Nat}{i:Nat}{n n':Node}{f:Fab}{t:List Evn}{msg msg':Int->Out}{val val':Int->List Int}
theorem EZ(h:m.aH[i]?=some n)(hh:n'.home=n.home)(hc:∀L,n'.aI.find L=n.aI.find L):
  (m.with_ i n' f t).abs msg' val'={ m.abs msg val with aF:=dH m.kZ i n'.aF,msg:=msg',val:=val' }:=by
 rw [qO (val:=val) (msg:=msg) h hh (L:=0) (λL _=> hc L),hc,<-sF h,lH,jB];rfl
theorem MX.range(X:MX T m)(h:m.aH[i]?=some n):0<=(i:Int)/\(i:Int) < m.c.aH:=by
 have:=X.inv.len;have:=(zai.1 h).1;omega
theorem MX.is(X:MX T m){j:Int}(h:0<=j/\j < m.c.aH){f:Fab}(hl:f.l.length=m.fab.l.length):f.is j=true:=by
 have:=X.inv.fab.len;unfold Fab.is;simp only [zah,decide_eq_true_eq];omega
theorem Nu(h:m.aH[i]?=some n){o:Opn}(hc:n.bG.cur=some o):m.opAt i n.bG.bf.length=some o:=by
 unfold bW.opAt;rw [vC h];exact hc
theorem E8 {o:Opn}(hc:n.bG.cur=some o)(hb:n.bG.dU=true){v:Int}(h:n'.bG=n.bG.yx v):n'.Ir+1=n.Ir:=by
 have:=(zai.1 hc).1;unfold Node.Ir;rw [h];unfold Proc.yx;rw [if_pos hb];show n.bG.ops.length - (n.bG.bf++[v]).length+1=_;rw [zao,zdk];omega
theorem oJ(X:MX T m)(hn:m.aH[i]?=some n){L:Int}(hL:0<=L/\L < m.c.bg)(h1:n'.home=n.home)(h2:∀L',L'≠L->n'.aI.find L'=n.aI.find L')(h4:∀L',L'≠L->∀y,wt n'.aF L' y=wt n.aF L' y)(h5:f.under<=m.fab.under+1)(hm:∀j:Int,j≠i->msg' j=msg j)
  (h6:33*n'.Ir+Dp n'.aF (msg' i)+wt n'.aF L (n'.aI.find L) < 33*n.Ir+Dp n.aF (msg i)+wt n.aF L (n.aI.find L)):(m.with_ i n' f t).todo msg' < m.todo msg:=by
 obtain⟨val,hv⟩:∃val:Int->List Int,val=λ_=> []:=⟨_,rfl⟩
 refine TJ (val:=val) (val':=val) ?_ h5;rw [Df hn,qO (msg:=msg) (val:=val) hn h1 h2];refine abf (c:=m.c) (lf:=m.pJ) (a:=m.abs msg val) (L:=L) (x:=n'.aI.find L) (d':=n'.aF) (k:=n'.Ir) (X.range hn) hL hm (λL' hL y=> by rw [show(m.abs msg val).aF i=_ from jZ hn];exact h4 L' hL y) ?_;rw [Ns hn,show(m.abs msg val).aF i=_ from jZ hn,show(m.abs msg val).ent L i=_ from sF hn _];exact h6
def bJ.end_(d:bJ):bJ:={ d with step:=0 }
set_option maxHeartbeats 1000000 in
theorem GInv.answered(X:MX T m)(G:GInv m msg val)(hn:m.aH[i]?=some n){f':Fab}{p:Pkt}(ht:m.fab.take i false=(f',some p)):
  ∃msg' val',GInv (m.with_ i (n.answered m.c i f' m.trace p).1 (n.answered m.c i f' m.trace p).2.1 (n.answered m.c i f' m.trace p).2.2) msg' val'/\zh m.c m.opAt m.trace val (n.answered m.c i f' m.trace p).2.2 val'/\(m.with_ i (n.answered m.c i f' m.trace p).1 (n.answered m.c i f' m.trace p).2.1 (n.answered m.c i f' m.trace p).2.2).todo msg' < m.todo msg:=by
 obtain⟨hs,b1,b2,b3,R1,ho,hl⟩:=G.pk.takeA ht;have hc:=X.inv.ok;have NI:=X.inv.bn i n hn;have NX_:=X.bn i n hn;have hi:=X.range hn;have hm:(m.abs msg val).msg i=.ans p:=b3;have hd:(m.abs msg val).aF i=n.aF:=jZ hn;have hQ:=(X.inv.fab.take i false).2 p (by rw [ht]);rcases G.abs.bn i hi.1 hi.2 with⟨_,h⟩ | O
 ·rw [hm] at h;cases h
 have OL:=O.aj;rw [hd] at OL;have hut:=Ko ht;have hm':msg i=.ans p:=hm;rcases O.at_ with⟨_,_,h | ⟨h,_⟩⟩ | hold | F
 ·rw [hm] at h;cases h
 ·rw [hm] at h;cases h
 ·-- the aF goes on
  obtain⟨_,H⟩:=G.abs.holder O.aj hold hi.1;rw [hd,hm] at H;rw [hd] at hold;have hst:=H.ans;have hs0:n.aF.step≠0:=by omega
  have DO:=NI.aF hs0;have hv:=G.abs.val n.aF.aj OL.1 OL.2;have hmiss:n.aF.aO=1->n.aF.step=1∨n.aF.step=2->(m.abs msg val).ent n.aF.aj i=none:=by
   have:=O.miss;rw [hd] at this;exact this
  obtain⟨ca,d',hA,Nx⟩:=Xu (c:=m.c) NI.aI.bg hi hv (sF hn n.aF.aj) OL.1 (λh3=> (DO.work h3 (by omega)).full) DO.aO hmiss H;have hdat:d'.data.length<=4:=by
   have:=VF (me:=i) (NI.aI.le hc) NX_ (p:=p) (by
    have:=hQ.ok;simp only [Pkt.ok,zah,decide_eq_true_eq] at this;omega)
   rw [hA] at this;exact this
  have hid:0<=d'.id/\d'.id < 4096:=by
   have:=O.idr;rw [hd] at this;rw [Nx.id];exact this
  have adx:0<=d'.aj/\d'.aj < m.c.bg:=by rw [Nx.aj];exact OL
  have hnw:(m.abs msg val).msg i≠.wait:=by rw [hm];exact λe=> by cases e
  have hki:d'.aO=((m.abs msg val).aF i).aO:=by rw [hd];exact Nx.aO
  have hii:d'.id=((m.abs msg val).aF i).id:=by rw [hd];exact Nx.id
  have hmi:dH msg i .idle i=.idle:=aJ;have hidle:dH (dH msg i .idle) i (.req (d'.ask i (m.c.aX d'.aj)))=dH msg i (.req (d'.ask i (m.c.aX d'.aj))):=by
   funext k
   by_cases h:k=i
   ·rw [h,aJ,aJ]
   ·rw [aU h,aU h,aU h]
  have hout:1<=f'.out:=by
   have:=(mM hc).2.2.2.2.2.1;rw [ho,X.inv.fab.out];exact this.1
  have send:∀{E:tX} {r:Row} {v:List Int},Hold m.c.aH (m.c.aX n.aF.aj) E r v i d' (.req (d'.ask i (m.c.aX n.aF.aj)))->pI (f'.send (d'.ask i (m.c.aX d'.aj))).1 (dH msg i (.req (d'.ask i (m.c.aX d'.aj)))):=λH'=> by
   rw [<-Nx.aj] at H';obtain⟨a1,a2,a3,a4,a5⟩:=ail hc hi H' adx hid hdat;have:=R1.aii (p:=d'.ask i (m.c.aX d'.aj)) (by rw [a3,hmi];exact λq e=> by cases e) (by rw [a3,hmi];exact λq e=> by cases e) a1 a2 (by rw [a3];exact X.is hi hl) (X.is ⟨a4,a5⟩ hl) hout;rw [a3,hidle] at this;exact this.2
  rcases Nx.next with⟨hno,H'⟩ | ⟨h6,h3,e,he,hev,hcase⟩
  ·-- no operation ends
   have hans:n.answered m.c i f' m.trace p=({ n with aI:=ca,aF:=d' },(f'.send (d'.ask i (m.c.aX d'.aj))).1,m.trace):=by
    unfold Node.answered;rw [hA];simp only [zbx,if_false,if_neg Nx.step,if_neg hno];rfl
   rw [hans];refine⟨dH msg i (.req (d'.ask i (m.c.aX d'.aj))),val,⟨?_,send H'⟩,.same,oJ X hn OL rfl Nx.other (λL' hL y=> by
    rw [wV (.inr (.inr (.inl (by show d'.aj≠_;rw [Nx.aj];exact λe=> hL e.symm)))),wV (.inr (.inr (.inl λe=> hL e.symm)))]) (by have:=mP f' (d'.ask i (m.c.aX d'.aj));dsimp only;omega) (λj hj=> aU hj) (by
    rw [aJ,hm'];have:=Nx.fall p (d'.ask i (m.c.aX d'.aj)) hno;show 33*n.Ir+Dp d' _+wt d' _ (ca.find _) < _;omega)⟩
   show nV m.c ((m.with_ i { n with aI:=ca,aF:=d' } (f'.send (d'.ask i (m.c.aX d'.aj))).1 m.trace).abs (dH msg i (.req (d'.ask i (m.c.aX d'.aj)))) val);rw [qO (n':={ n with aI:=ca,aF:=d' }) (msg:=msg) (val:=val) hn rfl (L:=n.aF.aj) Nx.other];have:=G.abs.goes (x:=ca.find n.aF.aj) (v:=val n.aF.aj) (d:=d') hi OL hold hnw hv Nx.aj hki hii (λa b=> Nx.miss a b) H';have hvs:dH (m.abs msg val).val n.aF.aj (val n.aF.aj)=val:=jB;rw [hvs,<-Nx.aj] at this;rw [<-Nx.aj];exact this
  ·-- an operation ends
   have hk3:n.aF.aO≠3:=by rw [<-Nx.aO];exact h3
   have W:=DO.work hk3 (by omega);obtain⟨o,o1,o2,o3,o4⟩:=W.op;have NXT:=MR NI.aI DO hs0 hQ (by rw [<-rQ];exact hA);have hem:=(iy NXT.inv.bg).1 he;have E_:=NXT.inv.ent e hem.1;have hright:=NI.bG.right o (zav o1);have hw:0<=m.c.dw o.addr/\m.c.dw o.addr < m.c.dh:=⟨(anc hc hright.1).wlo,(anc hc hright.1).whi⟩
   have hdl:=E_.dat.1;have hko:o.aO=1∨((o.aO=2∨o.aO=3)/\e.cO=true):=by
    rcases hcase with⟨k1,_⟩ | ⟨k2,hdt,_⟩
    ·exact .inl (o3 k1)
    ·exact .inr ⟨o4 k2,hdt⟩
   obtain⟨w1,w2,w3,w4,w5,w6,w7⟩:=abd (c:=m.c) (val:=val) hko (by rw [o2];exact hev) (by omega);have y:=qM e o (m.c.dw o.addr);have hput:=xQ NXT.inv.bg (e:=eH e o (m.c.dw o.addr)) (x:=e) (by rw [y.1];exact E_.lo) (by rw [y.1,hem.2];exact he);have hsame:({ eH e o (m.c.dw o.addr) with used:=e.used }:Ent)=eH e o (m.c.dw o.addr):=by rw [<-y.2.1]
   have hop:n.bG.op=o:=by unfold Proc.op;rw [o1];rfl
   have hidx:n.bG.idx=n.bG.bf.length:=by unfold Proc.idx;rw [o1]
   have hans:n.answered m.c i f' m.trace p=({ n with aI:=(ca.put (eH e o (m.c.dw o.addr))).1,aF:=d',bG:=n.bG.yx (if o.aO=2 then 0 else e.word (m.c.dw o.addr)) },(f'.send (d'.ask i (m.c.aX d'.aj))).1,m.trace++[⟨i,n.bG.bf.length,true,if o.aO=2 then 0 else e.word (m.c.dw o.addr)⟩]):=by
    unfold Node.answered;rw [hA];simp only [zbx,if_false,if_neg Nx.step,if_pos (show d'.step=6/\d'.aO≠3 from⟨h6,h3⟩)];unfold Node.effect Node.done;simp only [hop,o2,he,zat,hidx];rfl
   rw [hans];have hx:(ca.put (eH e o (m.c.dw o.addr))).1.find n.aF.aj=some (eH e o (m.c.dw o.addr)):=by
    rw [hput,if_pos (by rw [y.1,hem.2]),hsame]
   have apA:(mg m.c o val).1 n.aF.aj≠[]:=by
    rw [<-o2,<-w1];intro h0;have h1:=y.2.2.2;rw [h0] at h1;simp only [zan] at h1;omega
   have H':Hold m.c.aH (m.c.aX n.aF.aj) (nU ((m.abs msg val).ent n.aF.aj) i (some (eH e o (m.c.dw o.addr)))) ((m.abs msg val).row n.aF.aj) ((mg m.c o val).1 n.aF.aj) i d' (.req (d'.ask i (m.c.aX n.aF.aj))):=by
    rcases hcase with⟨k1,Hc⟩ | ⟨k2,hdt,Hc⟩
    ·have hv1:(mg m.c o val).1 n.aF.aj=val n.aF.aj:=by
      unfold mg;rw [if_pos (o3 k1)]
     rw [w7 (o3 k1),hv1];exact Hc
    ·have:=Hc (eH e o (m.c.dw o.addr)) w4 w5 w6;rw [w1,o2] at this;exact this
   refine⟨dH msg i (.req (d'.ask i (m.c.aX d'.aj))),(mg m.c o val).1,⟨?_,send H'⟩,?_,oJ X hn OL rfl (λL hL=> by
     show(ca.put _).1.find L=_;rw [hput,if_neg (by rw [y.1,hem.2];exact hL)];exact Nx.other L hL) (λL' hL y=> by
    rw [wV (.inr (.inr (.inl (by show d'.aj≠_;rw [Nx.aj];exact λe=> hL e.symm)))),wV (.inr (.inr (.inl λe=> hL e.symm)))]) (by have:=mP f' (d'.ask i (m.c.aX d'.aj));dsimp only;omega) (λj hj=> aU hj) ?_⟩
   ·have habs:=qO (m:=m) (n:=n) (n':={ n with aI:=(ca.put (eH e o (m.c.dw o.addr))).1,aF:=d',bG:=n.bG.yx (if o.aO=2 then 0 else e.word (m.c.dw o.addr)) }) (f:=(f'.send (d'.ask i (m.c.aX d'.aj))).1) (t:=m.trace++[⟨i,n.bG.bf.length,true,if o.aO=2 then 0 else e.word (m.c.dw o.addr)⟩]) (msg:=msg) (val:=val) (msg':=dH msg i (.req (d'.ask i (m.c.aX d'.aj)))) (val':=(mg m.c o val).1) hn rfl (L:=n.aF.aj) (λL hL=> by
     show(ca.put _).1.find L=_;rw [hput,if_neg (by rw [y.1,hem.2];exact hL)];exact Nx.other L hL)
    rw [habs];simp only [hx];have:=G.abs.goes (x:=some (eH e o (m.c.dw o.addr))) (v:=(mg m.c o val).1 n.aF.aj) (d:=d') hi OL hold hnw apA Nx.aj hki hii (λ_ b=> by omega) H';have hvf:dH val n.aF.aj ((mg m.c o val).1 n.aF.aj)=(mg m.c o val).1:=by
     funext L
     by_cases hL:L=n.aF.aj
     ·rw [hL,aJ]
     ·rw [aU hL,w2 L (by rw [o2];exact hL)]
    have aq9:dH (m.abs msg val).val n.aF.aj ((mg m.c o val).1 n.aF.aj)=(mg m.c o val).1:=hvf;rw [aq9,<-Nx.aj] at this;rw [<-Nx.aj];exact this
   ·rw [w3];exact .done i n.bG.bf.length o (Nu hn o1) .same
   ·rw [aJ,hm'];have ht:=E8 (n':={ n with aI:=(ca.put (eH e o (m.c.dw o.addr))).1,aF:=d',bG:=n.bG.yx (if o.aO=2 then 0 else e.word (m.c.dw o.addr)) }) o1 W.dU rfl;have hD:Dp d' (.req (d'.ask i (m.c.aX d'.aj)))=16:=by
     unfold Dp;rw [if_neg (by omega),if_pos (.inr h6),h6];rfl
    have:=aij (d:=d') (L:=n.aF.aj) (x:=(ca.put (eH e o (m.c.dw o.addr))).1.find n.aF.aj)
    dsimp only at ht ⊢
    omega
 ·-- the aF is over
  obtain⟨f1,f2,f3⟩:=F;have F':apu m.c (m.abs msg val) i:=⟨f1,f2,f3⟩
  rw [hd] at f1;rw [hm,hd] at f3;have hp:p=adJ m.c n.aF i:=Out.ans.inj f3;have hfit:n.aF.fits p=true:=abb (by rw [hp,f1];rfl) (by rw [hp];rfl) (by rw [hp];rfl) (by omega);have DO:=NI.aF (by omega);have hA:n.after i p=(n.aI,n.aF.end_,true):=by
   unfold Node.after;by_cases k1:n.aF.aO=1
   ·rw [if_pos k1];unfold dQ;rw [if_neg (by rw [k1,hfit];simp),if_neg (by omega),if_neg (by omega),if_pos f1];rfl
   ·rw [if_neg k1];by_cases k2:n.aF.aO=2
    ·rw [if_pos k2];unfold dS;rw [if_neg (by rw [k2,hfit];simp),if_neg (by omega),if_neg (by omega),if_pos f1];rfl
    ·have k3:n.aF.aO=3:=by have:=DO.aO;omega
     rw [if_neg k2,if_pos k3];unfold eF;rw [if_neg (by rw [k3,hfit];simp),if_neg (by omega),if_neg (by omega),if_neg (by omega),if_pos f1];rfl
  have hov:=G.abs.over hi F' (d:=n.aF.end_) rfl;have wts:∀L' y,wt n.aF.end_ L' y=wt n.aF L' y:=λL' y=> by rw [wV (.inl rfl),wV (.inr (.inl f1))]
  have hD:Dp n.aF (.ans p)=14:=by
   unfold Dp;rw [if_neg (by omega),if_pos (.inr f1),f1];rfl
  have hE:Dp n.aF.end_ .idle=13:=rfl;by_cases hfl:n.aF.aO=3/\n.bG.op.aO=4
  ·have hcur:∃o,n.bG.cur=some o:=by
    cases h:n.bG.cur with
    | some o=> exact⟨o,rfl⟩
    | none=>
     have:=hfl.2;unfold Proc.op at this;rw [h] at this;exact absurd this (by decide)
   obtain⟨o,o1⟩:=hcur;have hop:n.bG.op=o:=by unfold Proc.op;rw [o1];rfl
   have hidx:n.bG.idx=n.bG.bf.length:=by unfold Proc.idx;rw [o1]
   have hans:n.answered m.c i f' m.trace p=({ n with aF:=n.aF.end_,bG:=n.bG.yx 0 },f',m.trace++[⟨i,n.bG.bf.length,true,0⟩]):=by
    unfold Node.answered;rw [hA];simp only [zbx,if_false,show n.aF.end_.step=0 from rfl,if_true,show n.aF.end_.aO=n.aF.aO from rfl,if_pos hfl];unfold Node.done;simp only [hidx]
   rw [hans];refine⟨dH msg i .idle,val,⟨?_,R1⟩,?_,oJ X hn OL rfl (λ_ _=> rfl) (λL' _ y=> wts L' y) (by dsimp only;omega) (λj hj=> aU hj) (by
    rw [aJ,hm'];have ht:=E8 (n':={ n with aF:=n.aF.end_,bG:=n.bG.yx 0 }) o1 (DO.roll hfl.1) rfl
    dsimp only at ht ⊢
    rw [wts,hD,hE];omega)⟩
   ·show nV m.c ((m.with_ i { n with aF:=n.aF.end_,bG:=n.bG.yx 0 } f' _).abs (dH msg i .idle) val);rw [EZ (n':={ n with aF:=n.aF.end_,bG:=n.bG.yx 0 }) (msg:=msg) (val:=val) hn rfl (λ_=> rfl)];exact hov
   ·have ara:mg m.c o val=(val,0):=by
     have:o.aO=4:=by rw [<-hop];exact hfl.2
     unfold mg;rw [if_neg (by omega),if_neg (by omega),if_neg (by omega)]
    have:=zh.done (c:=m.c) (P:=m.opAt) i n.bG.bf.length o (Nu hn o1) (.same (t:=m.trace) (v:=val));rw [ara] at this;exact this
  ·have hans:n.answered m.c i f' m.trace p=({ n with aF:=n.aF.end_ },f',m.trace):=by
    unfold Node.answered;rw [hA];simp only [zbx,if_false,show n.aF.end_.step=0 from rfl,if_true,show n.aF.end_.aO=n.aF.aO from rfl,if_neg hfl]
   rw [hans];refine⟨dH msg i .idle,val,⟨?_,R1⟩,.same,oJ X hn OL rfl (λ_ _=> rfl) (λL' _ y=> wts L' y) (by dsimp only;omega) (λj hj=> aU hj) (by
    rw [aJ,hm']
    dsimp only
    rw [wts,hD,hE];show 33*n.Ir+_+_ < _;omega)⟩
   show nV m.c ((m.with_ i { n with aF:=n.aF.end_ } f' _).abs (dH msg i .idle) val);rw [EZ (n':={ n with aF:=n.aF.end_ }) (msg:=msg) (val:=val) hn rfl (λ_=> rfl)];exact hov
end
theorem TK {k s d id l pt st:Int}{fl:Bool}{x:List Int}(h:((0<=s/\s < 6)/\0<=d/\d < 6)/\(0<=id/\id < 4096)/\(1<=k/\k < 10)/\(0<=l/\l < 8)/\(-1<=pt/\pt < 6)/\(0<=st/\st < 3)/\x.length<=4):(⟨k,s,d,id,l,pt,st,fl,x⟩:Pkt).ok=true:=by
 obtain⟨⟨⟨h1,h2⟩,h3,h4⟩,⟨h5,h6⟩,⟨h7,h8⟩,⟨h9,ha⟩,⟨hb,hc⟩,⟨hd,he⟩,hf⟩:=h;simp [Pkt.ok,h1,h2,h3,h4,h5,h6,h7,h8,h9,ha,hb,hc,hd,he,hf]
inductive QI (N hm:Int) (E:tX) (r:Row) (v:List Int) (s:Int) (d:bJ) (p:Pkt) (e:Ent):Prop
 | attach:p.aO=3->Hold N hm (nU E p.dst (some { e with cO:=false,back:=p.ptr })) r v s d (.ans ⟨9,p.dst,p.src,p.id,p.aj,0,0,e.cO,e.data⟩)->QI N hm E r v s d p e
 | front:p.aO=4->Hold N hm (nU E p.dst (some { e with fwd:=p.ptr })) r v s d (.ans ⟨8,p.dst,p.src,p.id,p.aj,0,0,false,[]⟩)->QI N hm E r v s d p e
 | behind:p.aO=5->Hold N hm (nU E p.dst (some { e with back:=p.ptr })) r v s d (.ans ⟨8,p.dst,p.src,p.id,p.aj,0,0,false,[]⟩)->QI N hm E r v s d p e
 | IE:p.aO=6->-1<=e.fwd/\e.fwd < N->Hold N hm (nU E p.dst none) r v s d (.ans ⟨9,p.dst,p.src,p.id,p.aj,e.fwd,0,e.cO,e.data⟩)->QI N hm E r v s d p e
theorem Rng.adK {N:Int}{l:List Int}(h:Rng N l)(hN:0 < N):-1<=hdI l (-1)/\hdI l (-1) < N:=by
 by_cases hl:l=[]
 ·rw [hl];exact⟨zbi _,by show(-1:Int) < N;omega⟩
 ·have:=h.2 _ (h.hd hl).1;omega
theorem amQ {N hm:Int}{E:tX}{r:Row}{v:List Int}{s:Int}{d:bJ}{p:Pkt}(hN:0 < N)(H:Hold N hm E r v s d (.req p))(hk:3<=p.aO/\p.aO<=6):∃e,E p.dst=some e/\QI N hm E r v s d p e:=by
 obtain⟨hp,_,_⟩:=H.req;have hq:∃q,Out.req p=q/\Hold N hm E r v s d q:=⟨_,rfl,H⟩
 obtain⟨q,hq,H⟩:=hq;cases H with
 | attach k1 k2 k3 k4 W=>
  have e:p=⟨3,s,d.head,d.id,d.aj,s,0,false,[]⟩:=by rw [hp];unfold bJ.ask;simp [k1]
  obtain⟨x,h1,h2⟩:=QA (hm:=hm) k1 k2 k3 k4 W;exact⟨x,by rw [e];exact h1,.attach (by rw [e]) (by rw [e];exact h2)⟩
 | IE k1 k2 L k3 k4=>
  have e:p=⟨6,s,d.next,d.id,d.aj,0,0,false,[]⟩:=by rw [hp];unfold bJ.ask;simp [k1]
  obtain⟨x,h1,h2⟩:=TB (hm:=hm) (r:=r) k1 k2 L k3 k4;have hx:-1<=x.fwd/\x.fwd < N:=by
   obtain⟨⟨y,hy,hf⟩,_⟩:=L.ch;rw [h1] at hy;cases hy;rw [hf];exact Rng.adK ⟨(zaU.1 L.rng.1).2,λj hj=> L.rng.2 j (by simp [hj])⟩ hN
  exact⟨x,by rw [e];exact h1,.IE (by rw [e]) hx (by rw [e];exact h2)⟩
 | front k1 k2 M k3 C k4 k5 k6=>
  have e:p=⟨4,s,d.head,d.id,d.aj,d.next,0,false,[]⟩:=by rw [hp];unfold bJ.ask;simp [k1]
  obtain⟨x,h1,h2⟩:=TD (hm:=hm) k1 k2 M k3 C k4 k5 k6;exact⟨x,by rw [e];exact h1,.front (by rw [e]) (by rw [e];exact h2)⟩
 | behind k1 k2 M k3 C C' k4 k5 k6=>
  have e:p=⟨5,s,d.next,d.id,d.aj,d.head,0,false,[]⟩:=by rw [hp];unfold bJ.ask;simp [k1]
  obtain⟨x,h1,h2⟩:=QB (hm:=hm) k1 k2 M k3 C C' k4 k5 k6;exact⟨x,by rw [e];exact h1,.behind (by rw [e]) (by rw [e];exact h2)⟩
 | unlock k1 W=>
  have e:p.aO=2:=by rw [hp];unfold bJ.ask;simp [k1]
  omega
 | granted _ _=> cases hq
 | attached _ _ _ _ _ _ _ _ _ _=> cases hq
 | Ii _ _ _ _ _=> cases hq
 | y9 _ _ _ _ _ _ _ _ _=> cases hq
 | uX _ _ _ _ _ _ _ _ _=> cases hq
section
variable {m:bW}{T:Nat}{i:Nat}{n n':Node}{f:Fab}{t:List Evn}{msg msg':Int->Out}{val val':Int->List Int}
theorem apB {α:Type}{g:Int->α}{j:Int}{x y:α}:dH (dH g j x) j y=dH g j y:=by
 funext k
 by_cases h:k=j
 ·rw [h,aJ,aJ]
 ·rw [aU h,aU h,aU h]
theorem abh(X:MX T m)(hn:m.aH[i]?=some n)(L:Int):(jc n.home.dD L).data.length<=4:=by
 have NI:=X.inv.bn i n hn;have:=(mM X.inv.ok).2.2.1;unfold jc;cases h:jh n.home.dD L with
 | none=> exact zaS _
 | some r=>
  have:=(NI.dD _ (lQ h)).1;simp only [zat] at*;omega
theorem Nv {d:bJ}(h0:d.step≠0)(h3:d.step≠3)(p q:Pkt):Dp d (.ans q) < Dp d .wait/\Dp d .wait < Dp d (.req p):=by
 unfold Dp loc;simp only [if_neg h0,if_neg h3];omega
theorem Bg(X:MX T m)(hn:m.aH[i]?=some n)(h1:n'.aI=n.aI)(h2:n'.aF=n.aF)(h3:n'.bG=n.bG){s:Int}(hs:0<=s/\s < m.c.aH)(hm:∀j,j≠s->msg' j=msg j)(hd:Dp (m.kZ s) (msg' s) < Dp (m.kZ s) (msg s))(hu:f.under<=m.fab.under+1):(m.with_ i n' f t).todo msg' < m.todo msg:=by
 obtain⟨val,hv⟩:∃val:Int->List Int,val=λ_=> []:=⟨_,rfl⟩
 refine TJ (val:=val) (val':=val) ?_ hu;have hl:n'.Ir=m.pJ i:=by rw [Ns hn];unfold Node.Ir;rw [h3]
 rw [Df hn,hl,jB];refine aio (i:=s) hs (by have:=(mM X.inv.ok).2.1;omega) ?_ ?_ hm hd
 ·show(m.with_ i n' f t).EX=m.EX
  funext L
  rw [Iq hn,h1,<-sF hn L,lH]
 ·show(m.with_ i n' f t).kZ=m.kZ;rw [C9 hn,h2,<-jZ hn,jB]
theorem Xv(X:MX T m)(hn:m.aH[i]?=some n){L s:Int}{x:Option Ent}{e:Ent}{p q:Pkt}{ca:Cache}(hs:0<=s/\s < m.c.aH)(hL:0<=L/\L < m.c.bg)(h1:∀L',L'≠L->ca.find L'=n.aI.find L')(h2:ca.find L=x)(hm:msg s=.req p)(he:n.aI.find L=some e)(h0:(m.kZ s).step≠0)(h3:(∃e',x=some e')/\(m.kZ s).step≠3∨x=none)(hu:f.under<=m.fab.under+1):(m.with_ i { n with aI:=ca } f t).todo (dH msg s (.ans q)) < m.todo msg:=by
 obtain⟨val,hv⟩:∃val:Int->List Int,val=λ_=> []:=⟨_,rfl⟩
 refine TJ (val:=val) (val':=val) ?_ hu;have hdf:dH m.kZ i n.aF=m.kZ:=by rw [<-jZ hn,jB]
 have hlf:dH m.pJ i n.Ir=m.pJ:=by rw [<-Ns hn,jB]
 rw [Df hn,show Node.Ir { n with aI:=ca }=n.Ir from rfl,hlf,qO (n':={ n with aI:=ca }) (msg:=msg) (val:=val) hn rfl h1];simp only [h2,hdf];exact abg (a:=m.abs msg val) (X.range hn) hs hL hm ((sF hn L).trans he) h0 h3
theorem GInv.grant(X:MX T m)(G:GInv m msg val)(hn:m.aH[i]?=some n)(hr:n.home.ready≠[])(hroom:0 < m.fab.roomOf i false):
  ∃msg',GInv (m.with_ i { n with home:=(n.home.grant i).1 } (m.fab.send (n.home.grant i).2.1).1 t) msg' val/\(m.with_ i { n with home:=(n.home.grant i).1 } (m.fab.send (n.home.grant i).2.1).1 t).todo msg' < m.todo msg:=by
 have hc:=X.inv.ok;have NI:=X.inv.bn i n hn;have hi:=X.range hn;cases hrd:n.home.ready with
 | nil=> exact absurd hrd hr
 | cons L l=>
  obtain⟨r1,r2,r3⟩:=wL hrd;obtain⟨e,he,rfl⟩:=zaG.1 r3;have hh:=NI.home.here e he;unfold kN at hh;simp only [zah,decide_eq_true_eq] at hh;obtain⟨⟨l0,l1⟩,l2⟩:=hh;have hL:m.c.aX e.1=i:=by unfold Cfg.aX yw;rw [if_neg (by omega)];exact l2
  have hown:n.home.aP.owner e.1=-1:=Classical.byContradiction λh=> by
   have:=(NI.home.aP.owned e.1).2 h;rw [r1] at this;cases this
  cases hws:n.home.aP.ws e.1 with
  | nil=> exact absurd hws r2
  | cons w ws=>
   obtain⟨t1,t2,t3⟩:=Xt NI.home.aP hown hws;have ho:(m.abs msg val).own e.1=-1:=by show(m.lI e.1).aP.owner e.1=-1;rw [lU hn hL];exact hown
   have hw:(m.abs msg val).ws e.1=w::ws:=by show(m.lI e.1).aP.ws e.1=_;rw [lU hn hL];exact hws
   have hrow:(m.abs msg val).row e.1=jc n.home.dD e.1:=by show jc (m.lI e.1).dD e.1=_;rw [lU hn hL]
   obtain⟨hi',hmw,I'⟩:=G.abs.grant ⟨l0,l1⟩ ho hw;have hgr:n.home.grant i=({ n.home with aP:=(n.home.aP.next e.1).1 },granted n.home.dD i e.1 w.1 w.2,true):=by
    unfold Home.grant;rw [hrd];simp only;cases hx:n.home.aP.next e.1 with
    | mk tt ww=>
     rw [hx] at t1;simp only at t1;rw [t1]
   rw [hgr];have hO:aie m.c (m.abs msg val) w.1:=by
    rcases G.abs.bn w.1 hi'.1 hi'.2 with⟨_,h⟩ | O
    ·rw [hmw] at h;cases h
    ·exact O
   have arb:((m.abs msg val).aF w.1).id=w.2:=((G.abs.ws e.1).2 w (by rw [hw];simp)).2.2.2.2.1;obtain⟨lw,W⟩:∃lw,Wf m.c.aH ((m.abs msg val).ent e.1) ((m.abs msg val).row e.1) ((m.abs msg val).val e.1) lw:=by
    rcases G.abs.aj e.1 l0 l1 with⟨_,h⟩ | ⟨h,_⟩
    ·exact h
    ·omega
   obtain⟨cn,cl,_⟩:=mM hc;have hhd:=W.rng.adK (by omega);have hst:=W.st;have hhead:=W.head;rw [hrow] at hst hhead;have hid:=hO.idr;rw [arb] at hid;have hlen:=abh X hn e.1;have hpk:(granted n.home.dD i e.1 w.1 w.2).ok=true:=by
    exact TK (by omega)
   have hsd:=G.pk.Xq (p:=granted n.home.dD i e.1 w.1 w.2) (λq h=> by rw [show(granted n.home.dD i e.1 w.1 w.2).dst=w.1 from rfl] at h;exact absurd (hmw.symm.trans h) (λe=> by cases e)) (λq h=> by rw [show(granted n.home.dD i e.1 w.1 w.2).dst=w.1 from rfl] at h;exact absurd (hmw.symm.trans h) (λe=> by cases e)) hpk rfl (X.is hi rfl) (X.is hi' rfl) hroom;have hst1:((m.abs msg val).aF w.1).step=1:=((G.abs.ws e.1).2 w (by rw [hw];simp)).2.2.2.2.2;refine⟨_,⟨?_,hsd.2⟩,Bg X hn rfl rfl rfl hi' (λj hj=> aU hj) (by
    rw [show(granted n.home.dD i e.1 w.1 w.2).dst=w.1 from rfl,aJ,show msg w.1=.wait from hmw];exact(Nv (by show((m.abs msg val).aF w.1).step≠0;omega) (by show((m.abs msg val).aF w.1).step≠3;omega) .zero _).1) (mP _ _)⟩
   show nV m.c ((m.with_ i { n with home:={ n.home with aP:=(n.home.aP.next e.1).1 } } (m.fab.send (granted n.home.dD i e.1 w.1 w.2)).1 t).abs _ val);rw [EY (n':={ n with home:={ n.home with aP:=(n.home.aP.next e.1).1 } }) (msg:=msg) hn (λ_=> rfl) rfl hL (λ_ _=> rfl) (λL' h=> by show(n.home.aP.next e.1).1.owner L'=_;rw [t2,if_neg h]) (λL' h=> by show(n.home.aP.next e.1).1.ws L'=_;rw [t3,if_neg h])];have a1:dH (m.abs msg val).row e.1 (jc n.home.dD e.1)=(m.abs msg val).row:=by rw [<-hrow,jB]
   simp only [a1,t2,t3,if_true];have a2:granted n.home.dD i e.1 w.1 w.2=⟨7,m.c.aX e.1,w.1,w.2,e.1,((m.abs msg val).row e.1).head,((m.abs msg val).row e.1).aT,false,((m.abs msg val).row e.1).data⟩:=by
    rw [hrow,hL];rfl
   rw [a2];exact I'
set_option maxHeartbeats 1000000 in
theorem GInv.asked(X:MX T m)(G:GInv m msg val)(hn:m.aH[i]?=some n){f':Fab}{p:Pkt}(ht:m.fab.take i true=(f',some p))(hroom:0 < m.fab.roomOf i false):
  ∃msg',GInv (m.with_ i (n.asked m.c i f' p).1 (n.asked m.c i f' p).2 t) msg' val/\(m.with_ i (n.asked m.c i f' p).1 (n.asked m.c i f' p).2 t).todo msg' < m.todo msg:=by
 obtain⟨hs,b1,b2,b3,R1,ho,hl,hrm⟩:=G.pk.apv ht;have hc:=X.inv.ok;obtain⟨cn,cl,_⟩:=mM hc;have NI:=X.inv.bn i n hn;have hi:=X.range hn;have hsr:0<=p.src/\p.src < m.c.aH:=by
  have:=G.pk.rg _ p (.inl b3);have hln:=X.inv.fab.len;unfold Fab.is at this;simp only [zah,decide_eq_true_eq] at this;omega
 have hmr:(m.abs msg val).msg p.src=.req p:=b3;have hQ:=(X.inv.fab.take i true).2 p (by rw [ht]);obtain⟨O,p1,p2,p3,p4⟩:=G.abs.req hsr hmr;have hpk:=hQ.ok;have ard:=hpk;simp only [Pkt.ok,zah,decide_eq_true_eq] at ard;have OL:=O.aj;rw [p2] at OL;have hkind:p.aO=zS ((m.abs msg val).aF p.src).step:=(congrArg Pkt.aO p1).trans (kP p3).1;have hroom':0 < f'.roomOf i false:=by rw [hrm];exact hroom
 have hms:dH msg p.src .idle p.src=.idle:=aJ;have Xq:∀q:Pkt,q.ok=true->oW q.aO=false->q.src=i->q.dst=p.src->pI (f'.send q).1 (dH msg p.src (.ans q)):=λq h1 h2 h3 h4=> by
  have:=R1.Xq (p:=q) (by rw [h4,hms];exact λx e=> by cases e) (by rw [h4,hms];exact λx e=> by cases e) h1 h2 (by rw [h3];exact X.is hi hl) (by rw [h4];exact X.is hsr hl) (by rw [h3];exact hroom');rw [h4,apB] at this;exact this.2
 -- the aqb requests
 have hhome:p.aO=1∨p.aO=2->m.c.aX p.aj=i:=λh=> by
  have h16:((m.abs msg val).aF p.src).step=1∨((m.abs msg val).aF p.src).step=6:=by
   have:((m.abs msg val).aF p.src).step=1∨((m.abs msg val).aF p.src).step=2∨((m.abs msg val).aF p.src).step=3∨((m.abs msg val).aF p.src).step=4∨((m.abs msg val).aF p.src).step=5∨((m.abs msg val).aF p.src).step=6:=by omega
   rw [hkind] at h;rcases this with e | e | e | e | e | e <;> simp [e,zS] at h ⊢
  have hdst:p.dst=m.c.aX p.aj:=by
   have h1:=congrArg Pkt.dst p1;unfold bJ.ask at h1;rcases h16 with e | e
   ·simpa [e] using h1
   ·simpa [e] using h1
  rw [<-hdst];exact b1
 have hut:=Ko ht;have hst3:p.aO≠6->((m.abs msg val).aF p.src).step≠3:=λh e=> h (by rw [hkind,e];rfl);by_cases hk:p.aO=1∨p.aO=2
 ·have hL:=hhome hk;have hst3:=hst3 (by omega);have habs:∀L,m.c.aX L=i->(m.abs msg val).own L=n.home.aP.owner L/\(m.abs msg val).ws L=n.home.aP.ws L/\(m.abs msg val).row L=jc n.home.dD L:=λL h=> by
   refine⟨?_,?_,?_⟩
   ·show(m.lI L).aP.owner L=_;rw [lU hn h]
   ·show(m.lI L).aP.ws L=_;rw [lU hn h]
   ·show jc (m.lI L).dD L=_;rw [lU hn h]
  obtain⟨ao,aw,ar⟩:=habs p.aj hL;have aqc:dH (m.abs msg val).row p.aj (jc n.home.dD p.aj)=(m.abs msg val).row:=by rw [<-ar,jB]
  have arf:dH (m.abs msg val).own p.aj (n.home.aP.owner p.aj)=(m.abs msg val).own:=by rw [<-ao,jB]
  have aqd:dH (m.abs msg val).ws p.aj (n.home.aP.ws p.aj)=(m.abs msg val).ws:=by rw [<-aw,jB]
  have hcond:¬((!(p.ok && decide (p.dst=(i:Int)) && decide (p.src < m.c.aH)) || (decide (p.aO≠1) && decide (p.aO≠2)))=true):=by
   rcases hk with h | h <;> simp [hpk,b1,hsr.2,h]
  rcases hk with hk1 | hk2
  ·by_cases hfree:n.home.aP.owner p.aj=-1/\n.home.aP.ws p.aj=[]
   ·obtain⟨t1,t2,t3⟩:=IL (id:=p.id) NI.home.aP hsr.1 hfree.1 hfree.2;have hh:n.home.handle m.c i p=({ n.home with aP:=(n.home.aP.ask p.aj p.src p.id).1 },granted n.home.dD i p.aj p.src p.id,true,0):=by
     unfold Home.handle;rw [if_neg hcond,if_neg (by rw [hL];omega),if_pos hk1];simp only [t1,if_true]
    have hans:n.asked m.c i f' p=({ n with home:={ n.home with aP:=(n.home.aP.ask p.aj p.src p.id).1 } },(f'.send (granted n.home.dD i p.aj p.src p.id)).1):=by
     unfold Node.asked;rw [if_pos (.inl hk1),hh];simp
    rw [hans];have I':=G.abs.lock hsr hmr hk1 (by rw [ao];exact hfree.1);obtain⟨lw,W⟩:∃lw,Wf m.c.aH ((m.abs msg val).ent p.aj) ((m.abs msg val).row p.aj) ((m.abs msg val).val p.aj) lw:=by
     rcases G.abs.aj p.aj OL.1 OL.2 with⟨_,h⟩ | ⟨h,_⟩
     ·exact h
     ·have:=hfree.1;omega
    have hhd:=W.rng.adK (by omega);have hst:=W.st;have hhead:=W.head;rw [ar] at hst hhead;have hlen:=abh X hn p.aj;have hok:(granted n.home.dD i p.aj p.src p.id).ok=true:=by
     exact TK (by omega)
    refine⟨_,⟨?_,Xq _ hok rfl rfl rfl⟩,Bg X hn rfl rfl rfl hsr (λj hj=> aU hj) (by
    rw [aJ,show msg p.src=.req p from b3];have:=Nv O.step hst3 p;exact Nat.lt_trans (this _).1 (this .zero).2) (by dsimp only;exact zax (mP _ _) (by omega))⟩
    show nV m.c ((m.with_ i { n with home:={ n.home with aP:=(n.home.aP.ask p.aj p.src p.id).1 } } _ t).abs _ val);rw [EY (n':={ n with home:={ n.home with aP:=(n.home.aP.ask p.aj p.src p.id).1 } }) (msg:=msg) hn (λ_=> rfl) rfl hL (λ_ _=> rfl) (λL' h=> by show(n.home.aP.ask p.aj p.src p.id).1.owner L'=_;rw [t2,if_neg h]) (λL' h=> by show(n.home.aP.ask p.aj p.src p.id).1.ws L'=_;rw [t3])];simp only [aqc,t2,t3,if_true,aqd];have a2:granted n.home.dD i p.aj p.src p.id=⟨7,m.c.aX p.aj,p.src,p.id,p.aj,((m.abs msg val).row p.aj).head,((m.abs msg val).row p.aj).aT,false,((m.abs msg val).row p.aj).data⟩:=by
     rw [ar,hL];rfl
    rw [a2];exact I'
   ·have apC:n.home.aP.owner p.aj≠-1∨n.home.aP.ws p.aj≠[]:=by
     by_cases h:n.home.aP.owner p.aj=-1
     ·exact .inr λh'=> hfree ⟨h,h'⟩
     ·exact .inl h
    obtain⟨t1,t2,t3⟩:=IQ (id:=p.id) NI.home.aP hsr.1 apC;have hh:n.home.handle m.c i p=({ n.home with aP:=(n.home.aP.ask p.aj p.src p.id).1 },.zero,false,0):=by
     unfold Home.handle;rw [if_neg hcond,if_neg (by rw [hL];omega),if_pos hk1];simp only [t1,zaf,if_false]
    have hans:n.asked m.c i f' p=({ n with home:={ n.home with aP:=(n.home.aP.ask p.aj p.src p.id).1 } },f'):=by
     unfold Node.asked;rw [if_pos (.inl hk1),hh];simp
    rw [hans];have I':=G.abs.wait hsr hmr hk1;have R2:pI f' (dH msg p.src .wait):=by
     have mi:∀j q,(dH msg p.src .wait j=.req q↔dH msg p.src .idle j=.req q)/\(dH msg p.src .wait j=.ans q↔dH msg p.src .idle j=.ans q):=λj q=> by
      by_cases h:j=p.src
      ·rw [h,aJ,aJ];exact⟨⟨λe=> (by cases e),λe=> (by cases e)⟩,⟨λe=> (by cases e),λe=> (by cases e)⟩⟩
      ·rw [aU h,aU h];exact⟨Iff.rfl,Iff.rfl⟩
     refine⟨λk q hq=> ?_,R1.rn,R1.an,λj q h=> R1.rc j q ((mi j q).1.1 h),λj q h=> R1.ac j q ((mi j q).2.1 h),λj q h=> R1.src j q ((mi j q).1.1 h),λj q h=> R1.dst j q ((mi j q).2.1 h),λj q h=> R1.rg j q (h.imp (mi j q).1.1 (mi j q).2.1)⟩;have P:=R1.port k q hq;exact⟨λx hx=> ⟨(P.rq x hx).1,(P.rq x hx).2.1,(mi _ _).1.2 (P.rq x hx).2.2⟩,λx hx=> ⟨(P.rin x hx).1,(P.rin x hx).2.1,(mi _ _).1.2 (P.rin x hx).2.2⟩,λx hx=> ⟨(P.an x hx).1,(P.an x hx).2.1,(mi _ _).2.2 (P.an x hx).2.2⟩,λx hx=> ⟨(P.ain x hx).1,(P.ain x hx).2.1,(mi _ _).2.2 (P.ain x hx).2.2⟩⟩
    refine⟨_,⟨?_,R2⟩,Bg X hn rfl rfl rfl hsr (λj hj=> aU hj) (by
     rw [aJ,show msg p.src=.req p from b3];exact(Nv O.step hst3 p .zero).2) (by dsimp only;omega)⟩
    show nV m.c ((m.with_ i { n with home:={ n.home with aP:=(n.home.aP.ask p.aj p.src p.id).1 } } _ t).abs _ val);rw [EY (n':={ n with home:={ n.home with aP:=(n.home.aP.ask p.aj p.src p.id).1 } }) (msg:=msg) hn (λ_=> rfl) rfl hL (λ_ _=> rfl) (λL' h=> by show(n.home.aP.ask p.aj p.src p.id).1.owner L'=_;rw [t2]) (λL' h=> by show(n.home.aP.ask p.aj p.src p.id).1.ws L'=_;rw [t3,if_neg h])];simp only [aqc,t2,t3,if_true,arf];rw [<-aw];exact I'
  ·-- a aj is unlocked
   obtain⟨u1,u2,⟨lw,W⟩,u4,u5,I'⟩:=G.abs.unlock hsr hmr hk2;rw [ao] at u1;obtain⟨ns,hns⟩:∃ns,m.aH[p.src.toNat]?=some ns:=⟨_,zab (by have:=X.inv.len;omega)⟩
   have hsn:((p.src.toNat:Nat):Int)=p.src:=by omega
   have hds:(m.abs msg val).aF p.src=ns.aF:=by
    have:=jZ hns;rw [hsn] at this;exact this
   have DS:=(X.inv.bn _ ns hns).aF (by rw [<-hds,u5];decide);have hdd:ns.aF.data=[]∨(ns.aF.data.length:Int)=m.c.dh:=DS.dat.imp id λh=> h.1;have q1:p.aT=ns.aF.aT:=by rw [u4,hds];unfold bJ.ask;rw [hds] at u5;simp [u5]
   have q2:p.ptr=ns.aF.head:=by rw [u4,hds];unfold bJ.ask;rw [hds] at u5;simp [u5]
   have q3:p.flag=decide (ns.aF.data≠[]):=by rw [u4,hds];unfold bJ.ask;rw [hds] at u5;simp [u5]
   have q4:p.data=ns.aF.data:=by rw [u4,hds];unfold bJ.ask;rw [hds] at u5;simp [u5]
   have q5:(if p.flag then p.data else [])=ns.aF.data:=by
    rw [q3,q4];by_cases h:ns.aF.data=[]
    ·simp [h]
    ·simp [h]
   rw [hds] at W I';have apD:kN m.c i p.aj=true:=by
    unfold kN;simp only [zah,decide_eq_true_eq];refine⟨⟨OL.1,OL.2⟩,?_⟩;have:=hL;unfold Cfg.aX yw at this;rw [if_neg (by omega)] at this;exact this
   obtain⟨rw0,hrw⟩:=X.dD i n hn p.aj apD;have hro:jc n.home.dD p.aj=rw0:=by unfold jc;rw [hrw];rfl
   have hst:ns.aF.aT=0∨ns.aF.aT=1∨ns.aF.aT=2:=W.st;have hhd:ns.aF.head=hdI lw (-1):=W.head;have hle:=W.rng.adK (by omega);have h0:ns.aF.aT=0↔ns.aF.head=-1:=by
    rw [hhd,W.rng.aa6];exact W.st0
   have hset:iC m.c n.home.dD p.aj p.aT p.ptr (if p.flag then p.data else [])=(lK n.home.dD p.aj (iQ rw0 ns.aF),0):=by
    unfold iC;rw [hrw,q1,q2,q5];simp only;rw [if_neg (by omega),if_neg]
    ·rfl
    ·have e1:decide (ns.aF.head=-1)=decide (ns.aF.aT=0):=by
      by_cases h:ns.aF.aT=0
      ·simp [h,h0.1 h]
      ·have:¬ns.aF.head=-1:=λe=> h (h0.2 e);simp [h,this]
     rw [e1];rcases hdd with h | h
     ·simp [h]
     ·simp [h]
   obtain⟨t1,t2,t3⟩:=Nr NI.home.aP hsr.1 u1;have hul:n.home.unlock m.c p=(⟨lK n.home.dD p.aj (iQ rw0 ns.aF),(n.home.aP.release p.aj p.src).1⟩,0):=by
    unfold Home.unlock;rw [if_neg (by rw [u1];simp)];simp only [hset,if_true,t1]
   have hh:n.home.handle m.c i p=(⟨lK n.home.dD p.aj (iQ rw0 ns.aF),(n.home.aP.release p.aj p.src).1⟩,⟨8,i,p.src,p.id,p.aj,0,0,false,[]⟩,true,0):=by
    unfold Home.handle;rw [if_neg hcond,if_neg (by rw [hL];omega),if_neg (by omega)];simp only [hul,if_true]
   have hans:n.asked m.c i f' p=({ n with home:=⟨lK n.home.dD p.aj (iQ rw0 ns.aF),(n.home.aP.release p.aj p.src).1⟩ },(f'.send ⟨8,i,p.src,p.id,p.aj,0,0,false,[]⟩).1):=by
    unfold Node.asked;rw [if_pos (.inr hk2),hh];simp
   rw [hans];have hok:(⟨8,i,p.src,p.id,p.aj,0,0,false,[]⟩:Pkt).ok=true:=by
    exact TK (by simp only [zan];omega)
   refine⟨_,⟨?_,Xq _ hok rfl rfl rfl⟩,Bg X hn rfl rfl rfl hsr (λj hj=> aU hj) (by
    rw [aJ,show msg p.src=.req p from b3];have:=Nv O.step hst3 p;exact Nat.lt_trans (this _).1 (this .zero).2) (by dsimp only;exact zax (mP _ _) (by omega))⟩
   show nV m.c ((m.with_ i { n with home:=⟨lK n.home.dD p.aj (iQ rw0 ns.aF),(n.home.aP.release p.aj p.src).1⟩ } _ t).abs _ val);rw [EY (n':={ n with home:=⟨lK n.home.dD p.aj (iQ rw0 ns.aF),(n.home.aP.release p.aj p.src).1⟩ }) (msg:=msg) hn (λ_=> rfl) rfl hL (λL' h=> by show jc (lK _ _ _) L'=_;rw [J9,if_neg h]) (λL' h=> by show(n.home.aP.release p.aj p.src).1.owner L'=_;rw [t2,if_neg h]) (λL' h=> by show(n.home.aP.release p.aj p.src).1.ws L'=_;rw [t3])];have hrow2:jc (lK n.home.dD p.aj (iQ rw0 ns.aF)) p.aj=iQ ((m.abs msg val).row p.aj) ns.aF:=by rw [J9,if_pos rfl,ar,hro]
   simp only [hrow2,t2,t3,if_true,aqd];rw [hL] at I';exact I'
 ·-- a cache's requests
  have arh:3<=p.aO/\p.aO<=6:=by
   unfold oW at b2;simp only [zah,decide_eq_true_eq] at b2;omega
  obtain⟨hown,H⟩:(m.abs msg val).own p.aj=p.src/\Hold m.c.aH (m.c.aX p.aj) ((m.abs msg val).ent p.aj) ((m.abs msg val).row p.aj) ((m.abs msg val).val p.aj) p.src ((m.abs msg val).aF p.src) (.req p):=by
   rcases p4 with⟨h,_⟩ | ⟨_,h,h'⟩
   ·exfalso;rw [h] at hkind;have:p.aO=1:=hkind;omega
   ·exact⟨h,h'⟩
  obtain⟨e,he,Sv⟩:=amQ (by omega) H arh;rw [b1] at he;have hfind:n.aI.find p.aj=some e:=by rw [<-sF hn];exact he
  have hel:=QD hfind;have hem:=(iy NI.aI.bg).1 hfind;have EO:=NI.aI.ent e hem.1;have hlen:e.data.length<=4:=NI.aI.le hc e hem.1;have ani:¬((!p.ok || decide (p.aO < 3) || decide (6 < p.aO))=true):=by simp [hpk];omega
  have hnw:(m.abs msg val).msg p.src≠.wait:=by rw [hmr];exact λe=> by cases e
  -- what is common
  have fin:∀(ca:Cache) (x:Option Ent) (q:Pkt),(∀L,L≠p.aj->ca.find L=n.aI.find L)->ca.find p.aj=x->fK n.aI p=(ca,q,0)->q.ok=true->oW q.aO=false->q.src=i->q.dst=p.src->Hold m.c.aH (m.c.aX p.aj) (nU ((m.abs msg val).ent p.aj) p.dst x) ((m.abs msg val).row p.aj) ((m.abs msg val).val p.aj) p.src ((m.abs msg val).aF p.src) (.ans q)->((∃e',x=some e')/\p.aO≠6∨x=none)->
    ∃msg',GInv (m.with_ i (n.asked m.c i f' p).1 (n.asked m.c i f' p).2 t) msg' val/\(m.with_ i (n.asked m.c i f' p).1 (n.asked m.c i f' p).2 t).todo msg' < m.todo msg:=λca x q h1 h2 h3 h4 h5 h6 h7 H' h8=> by
   have hans:n.asked m.c i f' p=({ n with aI:=ca },(f'.send q).1):=by
    unfold Node.asked;rw [if_neg hk,h3];simp
   rw [hans];rw [b1] at H';have I':=G.abs.served hsr OL hown (E:=nU ((m.abs msg val).ent p.aj) i x) (q:=q) (λj hj=> by
    by_cases hji:j=i
    ·rw [hji,he] at hj;cases hj
    ·rw [fB hji];exact hj) H' hnw
   refine⟨_,⟨?_,Xq q h4 h5 h6 h7⟩,Xv X hn hsr OL h1 h2 hmr hfind O.step (h8.imp (λh=> ⟨h.1,hst3 h.2⟩) id) (by dsimp only;exact zax (mP _ _) (by omega))⟩;show nV m.c ((m.with_ i { n with aI:=ca } _ t).abs _ val);rw [qO (n':={ n with aI:=ca }) (msg:=msg) (val:=val) hn rfl h1];simp only [h2];have hdf:dH m.kZ i n.aF=m.kZ:=by rw [<-jZ hn,jB]
   simp only [hdf];exact I'
  cases Sv with
  | attach k H'=>
   have hput:=xQ (e:={ e with cO:=false,back:=p.ptr }) (x:=e) NI.aI.bg EO.lo (by rw [show({ e with cO:=false,back:=p.ptr }:Ent).aj=e.aj from rfl,hel];exact hfind);have hpt:=lC (e:={ e with cO:=false,back:=p.ptr }) (x:=e) NI.aI.bg EO.lo (by rw [show({ e with cO:=false,back:=p.ptr }:Ent).aj=e.aj from rfl,hel];exact hfind);refine fin (n.aI.put { e with cO:=false,back:=p.ptr }).1 (some { e with cO:=false,back:=p.ptr }) _ (λL hL=> by rw [hput,if_neg λh=> hL (h.trans hel)]) (by rw [hput,if_pos hel.symm]) ?_ ?_ rfl b1 rfl H' (.inl ⟨⟨_,rfl⟩,by omega⟩)
   ·unfold fK;rw [if_neg ani,hfind];simp only [k,if_true];rw [hpt];simp [BK]
   ·exact TK (by omega)
  | front k H'=>
   have hput:=xQ (e:={ e with fwd:=p.ptr }) (x:=e) NI.aI.bg EO.lo (by rw [show({ e with fwd:=p.ptr }:Ent).aj=e.aj from rfl,hel];exact hfind);have hpt:=lC (e:={ e with fwd:=p.ptr }) (x:=e) NI.aI.bg EO.lo (by rw [show({ e with fwd:=p.ptr }:Ent).aj=e.aj from rfl,hel];exact hfind);refine fin (n.aI.put { e with fwd:=p.ptr }).1 (some { e with fwd:=p.ptr }) _ (λL hL=> by rw [hput,if_neg λh=> hL (h.trans hel)]) (by rw [hput,if_pos hel.symm]) ?_ ?_ rfl b1 rfl H' (.inl ⟨⟨_,rfl⟩,by omega⟩)
   ·unfold fK;rw [if_neg ani,hfind];simp only [k];rw [if_neg (by decide),if_pos trivial,hpt];simp [BK]
   ·exact TK (by simp only [zan];omega)
  | behind k H'=>
   have hput:=xQ (e:={ e with back:=p.ptr }) (x:=e) NI.aI.bg EO.lo (by rw [show({ e with back:=p.ptr }:Ent).aj=e.aj from rfl,hel];exact hfind);have hpt:=lC (e:={ e with back:=p.ptr }) (x:=e) NI.aI.bg EO.lo (by rw [show({ e with back:=p.ptr }:Ent).aj=e.aj from rfl,hel];exact hfind);refine fin (n.aI.put { e with back:=p.ptr }).1 (some { e with back:=p.ptr }) _ (λL hL=> by rw [hput,if_neg λh=> hL (h.trans hel)]) (by rw [hput,if_pos hel.symm]) ?_ ?_ rfl b1 rfl H' (.inl ⟨⟨_,rfl⟩,by omega⟩)
   ·unfold fK;rw [if_neg ani,hfind];simp only [k];rw [if_neg (by decide),if_neg (by decide),if_pos trivial,hpt];simp [BK]
   ·exact TK (by simp only [zan];omega)
  | IE k hfw H'=>
   have hdr:=Bc (aj:=p.aj) NI.aI.bg;refine fin (n.aI.drop p.aj) none _ (λL hL=> by rw [hdr,if_neg hL]) (by rw [hdr,if_pos rfl]) ?_ ?_ rfl b1 rfl H' (.inr rfl)
   ·unfold fK;rw [if_neg ani,hfind];simp only [k];rw [if_neg (by decide),if_neg (by decide),if_neg (by decide)];simp [BK]
   ·exact TK (by omega)
end
theorem Hold.data {N hm:Int}{E:tX}{r:Row}{v:List Int}{i:Int}{d:bJ}{o:Out}(H:Hold N hm E r v i d o){j:Int}{e:Ent}(he:E j=some e):e.data=v:=by
 cases H with
 | granted _ W=> exact W.data j e he
 | attach _ _ _ _ W=> exact W.data j e he
 | attached _ _ _ _ _ _ _ _ X _=> exact X j e he
 | IE _ _ L _ _=> exact L.data j e he
 | Ii _ _ L _ _=> exact L.data j e he
 | front _ _ M _ _ _ _ _=> exact M.data j e he
 | y9 _ _ M _ _ _ _ _ _=> exact M.data j e he
 | behind _ _ M _ _ _ _ _ _=> exact M.data j e he
 | uX _ _ M _ _ _ _ _ _=> exact M.data j e he
 | unlock _ W=> exact W.data j e he
theorem nV.data {c:Cfg}{a:Abs}(I:nV c a){L j:Int}(hL:0<=L/\L < c.bg){e:Ent}(he:a.ent L j=some e):e.data=a.val L:=by
 rcases I.aj L hL.1 hL.2 with⟨_,l,W⟩ | ⟨_,_,_,H⟩
 ·exact W.data j e he
 ·exact Hold.data H he
section
variable {m:bW}{T:Nat}{i:Nat}{n n1:Node}{f:Fab}{t:List Evn}{msg msg':Int->Out}{val val':Int->List Int}
theorem GInv.idle(X:MX T m)(G:GInv m msg val)(hn:m.aH[i]?=some n)(h0:n.aF.step=0):msg i=.idle:=by
 have hi:=X.range hn;have hd:(m.abs msg val).aF i=n.aF:=jZ hn;rcases G.abs.bn i hi.1 hi.2 with⟨_,h⟩ | O
 ·exact h
 ·have:=O.step;rw [hd] at this;exact absurd h0 this
theorem GInv.begin_(X:MX T m)(G:GInv m msg val)(hn:m.aH[i]?=some n)(h0:n.aF.step=0)(e1:n1.aI=n.aI)(e2:n1.home=n.home)(e4:n1.num=n.num)(e5:n1.Ir=n.Ir){k L:Int}(hk:1<=k/\k<=3)(hL:0<=L/\L < m.c.bg)(hm:k=1->n.aI.find L=none)(hm3:k=3->n.aI.find L≠none):
  ∃msg',GInv (m.with_ i (n1.begin_ m.c i m.fab k L).1 (n1.begin_ m.c i m.fab k L).2 t) msg' val/\(m.with_ i (n1.begin_ m.c i m.fab k L).1 (n1.begin_ m.c i m.fab k L).2 t).todo msg' < m.todo msg:=by
 have hc:=X.inv.ok;have hi:=X.range hn;have NX_:=X.bn i n hn;have hd:(m.abs msg val).aF i=n.aF:=jZ hn;have hidle:=G.idle X hn h0;have hid:0<=n.num/\n.num < 4096:=⟨NX_.Tv,NX_.num1⟩
 have I':=G.abs.begin_ (L:=L) (k:=k) (id:=n.num) hi (by rw [hd];exact h0) hk hid hL (λh=> by rw [<-hm h];exact sF hn L);obtain⟨a1,a2,a3,a4,a5⟩:=QH hc hi (k:=k) hL hid;have hout:1<=m.fab.out:=by
  have:=(mM hc).2.2.2.2.2.1;rw [X.inv.fab.out];exact this.1
 have R':=G.pk.aii (p:=(bJ.begin k L n.num).ask i (m.c.aX L)) (by rw [a3,hidle];exact λq e=> by cases e) (by rw [a3,hidle];exact λq e=> by cases e) a1 a2 (by rw [a3];exact X.is hi rfl) (X.is ⟨a4,a5⟩ rfl) hout;rw [a3] at R';have hb:n1.begin_ m.c i m.fab k L=({ n1 with aF:=bJ.begin k L n.num,num:=(n.num+1).tmod 4096 },(m.fab.send ((bJ.begin k L n.num).ask i (m.c.aX L))).1):=by
  unfold Node.begin_ Node.ab8;simp only [e4];rfl
 rw [hb];refine⟨_,⟨?_,R'.2⟩,oJ X hn hL e2 (λL' _=> by show n1.aI.find L'=_;rw [e1]) (λL' hL' y=> by rw [wV (.inl h0),wV (.inr (.inr (.inl λe=> hL' e.symm)))]) (by dsimp only;exact mP _ _) (λj hj=> aU hj) ?_⟩;rotate_left
 ·rw [aJ,hidle]
  dsimp only
  have d0:Dp n.aF .idle=13:=if_pos h0;have d1:Dp (.begin k L n.num) (.req ((bJ.begin k L n.num).ask i (m.c.aX L)))=12+if k=3∨(1:Int)=6 then 13 else 0:=rfl;have e6:Node.Ir { n1 with aF:=bJ.begin k L n.num,num:=(n.num+1).tmod 4096 }=n.Ir:=e5;rw [e6,d0,d1,e1];by_cases h3:k=3
  ·obtain⟨e,he⟩:=Option.ne_none_iff_exists'.1 (hm3 h3);have w1:wt (.begin k L n.num) L (some e)=3:=by
    unfold wt;rw [if_neg (zdr e),if_pos ⟨h3,(by decide:(1:Int)≠0),(by decide:(1:Int)≠6),rfl⟩]
   have w2:wt n.aF L (some e)=16:=by
    rw [wV (.inl h0),if_neg (zdr e)]
   rw [he,w1,w2,if_pos (.inl h3)];omega
  ·rw [wV (.inl h0),wV (.inr (.inr (.inr h3))),if_neg (by omega)];omega
 show nV m.c ((m.with_ i { n1 with aF:=bJ.begin k L n.num,num:=(n.num+1).tmod 4096 } _ t).abs _ val);rw [EZ (n':={ n1 with aF:=bJ.begin k L n.num,num:=(n.num+1).tmod 4096 }) (msg:=msg) (val:=val) hn e2 (λL'=> by show n1.aI.find L'=_;rw [e1])];exact I'
theorem Kq {c:Cfg}{P:Int->Nat->Option Opn}{t:List Evn}{b:Bool}{k:Nat}{o:Opn}{j:Int}(hP:P j k=some o):zh c P t val ((if b then t else t++[⟨j,k,false,0⟩])++[⟨j,k,true,(mg c o val).2⟩]) (mg c o val).1:=by
 cases b with
 | true=> exact .done j k o hP .same
 | false=> exact .done j k o hP (.dU j k .same)
theorem vF {c:Cfg}{P:Int->Nat->Option Opn}{t:List Evn}{b:Bool}{k:Nat}{j:Int}:zh c P t val (if b then t else t++[⟨j,k,false,0⟩]) val:=by
 cases b with
 | true=> exact .same
 | false=> exact .dU j k .same
theorem GInv.work(X:MX T m)(G:GInv m msg val)(hn:m.aH[i]?=some n)(h0:n.aF.step=0){o:Opn}(o1:n.bG.cur=some o):
  ∃msg' val',GInv (m.with_ i (n.work m.c i m.fab m.trace o).1 (n.work m.c i m.fab m.trace o).2.1 (n.work m.c i m.fab m.trace o).2.2) msg' val'/\zh m.c m.opAt m.trace val (n.work m.c i m.fab m.trace o).2.2 val'/\(m.with_ i (n.work m.c i m.fab m.trace o).1 (n.work m.c i m.fab m.trace o).2.1 (n.work m.c i m.fab m.trace o).2.2).todo msg' < m.todo msg:=by
 have hc:=X.inv.ok;have hi:=X.range hn;have NI:=X.inv.bn i n hn;have hright:=NI.bG.right o (zav o1);have OO:=anc hc hright.1;have hL:0<=m.c.bV o.addr/\m.c.bV o.addr < m.c.bg:=⟨OO.lo,OO.hi⟩
 have hP:=Nu hn o1;have hd:(m.abs msg val).aF i=n.aF:=jZ hn;unfold Node.work;simp only;obtain⟨n1,hn1⟩:∃n1:Node,n1={ n with bG:={ n.bG with dU:=true } }:=⟨_,rfl⟩
 have c1:n1.aI=n.aI:=by rw [hn1]
 have c2:n1.home=n.home:=by rw [hn1]
 have c3:n1.aF=n.aF:=by rw [hn1]
 have c4:n1.num=n.num:=by rw [hn1]
 have c5:n1.bG.cur=some o:=by rw [hn1];exact o1
 have c6:n1.bG.bf=n.bG.bf:=by rw [hn1]
 rw [<-hn1,show n.aI=n1.aI from c1.symm];have c7:n1.bG.dU=true:=by rw [hn1]
 have c8:n1.Ir=n.Ir:=by rw [hn1];rfl
 have hidx:n1.bG.idx=n.bG.bf.length:=by unfold Proc.idx;rw [c5,c6]
 have hop:n1.bG.op=o:=by unfold Proc.op;rw [c5];rfl
 obtain⟨t1,ht1⟩:∃t1,t1=(if n.bG.dU=true then m.trace else m.trace++[⟨i,n.bG.bf.length,false,0⟩]):=⟨_,rfl⟩
 rw [<-ht1];by_cases k1:o.aO=4/\n1.aI.find (m.c.bV o.addr)=none
 ·rw [if_pos k1];have hov:mg m.c o val=(val,0):=by
   unfold mg;rw [if_neg (by omega),if_neg (by omega),if_neg (by omega)]
  refine⟨msg,val,⟨?_,G.pk⟩,?_,oJ X hn hL c2 (λL' _=> by show n1.aI.find L'=_;rw [c1]) (λL' _ y=> by show wt n1.aF L' y=_;rw [c3]) (za3 _) (λ_ _=> rfl) ?_⟩
  ·show nV m.c ((m.with_ i { n1 with bG:=n1.bG.yx 0 } m.fab _).abs msg val);rw [EZ (n':={ n1 with bG:=n1.bG.yx 0 }) (msg:=msg) (val:=val) hn c2 (λL'=> by show n1.aI.find L'=_;rw [c1])];have:dH m.kZ i n1.aF=m.kZ:=by rw [c3,<-jZ hn,jB]
   simp only [this];exact G.abs
  ·have:=Kq (c:=m.c) (t:=m.trace) (val:=val) (b:=n.bG.dU) hP;rw [hov] at this;unfold Node.done;rw [hidx,ht1];exact this
  ·have:=E8 (n':=(n1.done i t1 0).1) c5 c7 rfl;have h1:=aij (d:=n1.aF) (L:=m.c.bV o.addr) (x:=n1.aI.find (m.c.bV o.addr));show 33*Node.Ir (n1.done i t1 0).1+Dp n1.aF (msg i)+wt n1.aF _ (n1.aI.find _) < _;rw [<-c3];omega
 rw [if_neg k1];by_cases k2:o.aO=4
 ·rw [if_pos k2];obtain⟨msg',G',F⟩:=G.begin_ (n1:=n1) (k:=3) (t:=t1) X hn h0 c1 c2 c4 c8 ⟨by decide,by decide⟩ hL (λh=> absurd h (by decide)) (λ_ h=> k1 ⟨k2,c1 ▸ h⟩);exact⟨msg',val,G',by rw [ht1];exact vF,F⟩
 rw [if_neg k2];by_cases k3:(n1.aI.find (m.c.bV o.addr)).isSome=true/\(o.aO=1∨((n1.aI.find (m.c.bV o.addr)).getD .zero).cO=true)
 ·rw [if_pos k3];obtain⟨e,he⟩:=zcZ.1 k3.1;have he':n.aI.find (m.c.bV o.addr)=some e:=by rw [<-c1];exact he
  have hdt:=k3.2;rw [he] at hdt;simp only [zat] at hdt;have hem:=(iy NI.aI.bg).1 he';have EO:=NI.aI.ent e hem.1;have hko:o.aO=1∨((o.aO=2∨o.aO=3)/\e.cO=true):=by
   rcases hdt with h | h
   ·exact .inl h
   ·by_cases h1:o.aO=1
    ·exact .inl h1
    ·exact .inr ⟨by have:=OO.k1;have:=OO.k4;omega,h⟩
  have hae:(m.abs msg val).ent (m.c.bV o.addr) i=some e:=by
   show m.EX _ i=_;rw [sF hn];exact he'
  have hdata:=G.abs.data hL hae;obtain⟨e2,he2⟩:∃e2:Ent,e2={ e with used:=n.aI.bZ+1 }:=⟨_,rfl⟩
  have hdl:=EO.dat.1;have d1:e2.data=e.data:=by rw [he2]
  have d2:e2.back=e.back:=by rw [he2]
  have d3:e2.fwd=e.fwd:=by rw [he2]
  have d4:e2.cO=e.cO:=by rw [he2]
  have d5:e2.aj=e.aj:=by rw [he2]
  obtain⟨w1,w2,w3,w4,w5,w6,w7⟩:=abd (c:=m.c) (val:=val) (e:=e2) (by rw [d4];exact hko) (by rw [d1];exact hdata) (by rw [d1];have:=OO.wlo;have:=OO.whi;omega);have y:=qM e2 o (m.c.dw o.addr);have hto:=Xr NI.aI.bg he';have TI:=NI.aI.touch he';have hput:=xQ TI.bg (e:=eH e2 o (m.c.dw o.addr)) (x:=e2) (by rw [y.1,d5];exact EO.lo) (by rw [y.1,d5,hto,if_pos hem.2,he2]);have hsame:({ eH e2 o (m.c.dw o.addr) with used:=e2.used }:Ent)=eH e2 o (m.c.dw o.addr):=by rw [<-y.2.1]
  have hel:(eH e2 o (m.c.dw o.addr)).aj=m.c.bV o.addr:=by rw [y.1,d5];exact hem.2
  have heff:({ n1 with aI:=n1.aI.touch (m.c.bV o.addr) }:Node).effect m.c i t1=({ n1 with aI:=((n.aI.touch (m.c.bV o.addr)).put (eH e2 o (m.c.dw o.addr))).1,bG:=n1.bG.yx (if o.aO=2 then 0 else e2.word (m.c.dw o.addr)) },t1++[⟨i,n.bG.bf.length,true,if o.aO=2 then 0 else e2.word (m.c.dw o.addr)⟩]):=by
   unfold Node.effect Node.done;have hop':({ n1 with aI:=n1.aI.touch (m.c.bV o.addr) }:Node).bG.op=o:=hop;simp only [hop',hidx,c1,hto,if_true,zat,<-he2]
  have hnn:({ aI:=n1.aI.touch (m.c.bV o.addr),bG:={ ops:=n.bG.ops,bf:=n.bG.bf,dU:=true },home:=n.home,aF:=n.aF,num:=n.num }:Node)={ n1 with aI:=n1.aI.touch (m.c.bV o.addr) }:=by rw [hn1]
  rw [hnn,heff];have hx:((n.aI.touch (m.c.bV o.addr)).put (eH e2 o (m.c.dw o.addr))).1.find (m.c.bV o.addr)=some (eH e2 o (m.c.dw o.addr)):=by
   rw [hput,if_pos hel.symm,hsame]
  have apA:(mg m.c o val).1 (m.c.bV o.addr)≠[]:=by
   rw [<-w1];intro h;have h1:=y.2.2.2;have:=(mM hc).2.2.1;rw [h,d1] at h1;simp only [zan] at h1;omega
  refine⟨msg,(mg m.c o val).1,⟨?_,G.pk⟩,?_,oJ X hn hL c2 (λL' h=> by
    show((n.aI.touch _).put _).1.find L'=_;rw [hput,if_neg λh'=> h (h'.trans hel),hto,if_neg h]) (λL' _ y=> by show wt n1.aF L' y=_;rw [c3]) (za3 _) (λ_ _=> rfl) ?_⟩
  ·show nV m.c ((m.with_ i { n1 with aI:=((n.aI.touch (m.c.bV o.addr)).put (eH e2 o (m.c.dw o.addr))).1,bG:=n1.bG.yx (if o.aO=2 then 0 else e2.word (m.c.dw o.addr)) } m.fab _).abs msg _);rw [qO (n':={ n1 with aI:=((n.aI.touch (m.c.bV o.addr)).put (eH e2 o (m.c.dw o.addr))).1,bG:=n1.bG.yx (if o.aO=2 then 0 else e2.word (m.c.dw o.addr)) }) (msg:=msg) (val:=val) hn c2 (L:=m.c.bV o.addr) (λL' h=> by
    show((n.aI.touch _).put _).1.find L'=_;rw [hput,if_neg λh'=> h (h'.trans hel),hto,if_neg h])]
   have hdf:dH m.kZ i n1.aF=m.kZ:=by rw [c3,<-jZ hn,jB]
   simp only [hx,hdf];have I':=G.abs.hit (L:=m.c.bV o.addr) (e:=e) (e':=eH e2 o (m.c.dw o.addr)) (v':=(mg m.c o val).1 (m.c.bV o.addr)) hi (by rw [hd];exact h0) hL hae (w4.trans d2) (w5.trans d3) (w6.trans d4) (by
    rcases hko with h | ⟨_,h⟩
    ·refine .inl ⟨by rw [w7 h,d1],?_⟩;unfold mg;rw [if_pos h];rfl
    ·exact .inr ⟨h,w1⟩) apA
   have hvf:dH (m.abs msg val).val (m.c.bV o.addr) ((mg m.c o val).1 (m.c.bV o.addr))=(mg m.c o val).1:=by
    funext L
    by_cases h:L=m.c.bV o.addr
    ·rw [h,aJ]
    ·rw [aU h,w2 L h];rfl
   rw [hvf] at I';exact I'
  ·rw [w3,ht1];exact Kq hP
  ·have h0:=E8 (n':={ n1 with aI:=((n.aI.touch (m.c.bV o.addr)).put (eH e2 o (m.c.dw o.addr))).1,bG:=n1.bG.yx (if o.aO=2 then 0 else e2.word (m.c.dw o.addr)) }) c5 c7 rfl;have h1:=aij (d:=n1.aF) (L:=m.c.bV o.addr) (x:=((n.aI.touch (m.c.bV o.addr)).put (eH e2 o (m.c.dw o.addr))).1.find (m.c.bV o.addr))
   dsimp only at h0 ⊢
   rw [<-c3];omega
 rw [if_neg k3];by_cases k4:n1.aI.full (m.c.bV o.addr)=true
 ·rw [if_pos k4];rw [c1] at k4;have hset:n.aI.oG (m.c.bV o.addr)≠[]:=by
   intro e;unfold Cache.full at k4;simp only [e,zan,zah,decide_eq_true_eq] at k4;have:=(mM hc).2.2.2.2.1;rw [NI.aI.ways] at k4;omega
  obtain⟨e,he⟩:∃e,nH (n.aI.oG (m.c.bV o.addr))=some e:=by
   cases h:n.aI.oG (m.c.bV o.addr) with
   | nil=> exact absurd h hset
   | cons a l=> exact⟨_,rfl⟩
  have hv:n.aI.nP (m.c.bV o.addr)=some e.aj:=by unfold Cache.nP;rw [he];rfl
  have hem:e∈n.aI.l:=by
   have:=(rC he).1;unfold Cache.oG at this;exact(zbl.1 this).1
  have EO:=NI.aI.ent e hem;rw [c1,hv];simp only [zat];obtain⟨msg',G',F⟩:=G.begin_ (n1:=n1) (k:=3) (L:=e.aj) (t:=t1) X hn h0 c1 c2 c4 c8 ⟨by decide,by decide⟩ ⟨EO.lo,EO.hi⟩ (λh=> absurd h (by decide)) (λ_ h=> nomatch ((iy NI.aI.bg).2 ⟨hem,rfl⟩:n.aI.find e.aj=some e).symm.trans h);exact⟨msg',val,G',by rw [ht1];exact vF,F⟩
 rw [if_neg k4];by_cases k5:o.aO=1
 ·rw [if_pos k5];obtain⟨msg',G',F⟩:=G.begin_ (n1:=n1) (k:=1) (t:=t1) X hn h0 c1 c2 c4 c8 ⟨by decide,by decide⟩ hL (λ_=> by
   cases h:n.aI.find (m.c.bV o.addr) with
   | none=> rfl
   | some e=> exact absurd ⟨by rw [c1,h];rfl,.inl k5⟩ k3) (λh=> absurd h (by decide))
  exact⟨msg',val,G',by rw [ht1];exact vF,F⟩
 ·rw [if_neg k5];obtain⟨msg',G',F⟩:=G.begin_ (n1:=n1) (k:=2) (t:=t1) X hn h0 c1 c2 c4 c8 ⟨by decide,by decide⟩ hL (λh=> absurd h (by decide)) (λh=> absurd h (by decide));exact⟨msg',val,G',by rw [ht1];exact vF,F⟩
theorem VH(X:MX T m)(hn:m.aH[i]?=some n)(h:m.fab.roomOf i false≠0):0 < m.fab.roomOf i false:=by
 have hi:=X.range hn;have his:=X.is hi (f:=m.fab) rfl;have P:=(X.inv.fab.get his).an;unfold Fab.roomOf at h ⊢;rw [if_pos his] at h ⊢;rw [X.inv.fab.out] at h ⊢;simp only [Port.sort,zaf,if_false] at h ⊢;omega
theorem GInv.step(X:MX T m)(G:GInv m msg val)(j:Int):∃msg' val',GInv (m.step j).1 msg' val'/\zh m.c m.opAt m.trace val (m.step j).1.trace val'/\((m.step j).2≠0->(m.step j).1.todo msg' < m.todo msg):=by
 unfold bW.step;cases hnd:m.bn j with
 | none=> exact⟨msg,val,G,.same,λh=> absurd rfl h⟩
 | some n=>
  simp only;have hj:0<=j/\m.aH[j.toNat]?=some n:=by
   unfold bW.bn at hnd;split at hnd
   ·exact⟨by assumption,hnd⟩
   ·cases hnd
  obtain⟨i,rfl⟩:∃i:Nat,j=i:=⟨j.toNat,by omega⟩
  rw [zaq] at hj ⊢;have hn:=hj.2;have key:∃msg' val',GInv (m.with_ i (n.step m.c i m.fab m.trace).1.1 (n.step m.c i m.fab m.trace).1.2.1 (n.step m.c i m.fab m.trace).1.2.2) msg' val'/\zh m.c m.opAt m.trace val (n.step m.c i m.fab m.trace).1.2.2 val'/\((n.step m.c i m.fab m.trace).2≠0->(m.with_ i (n.step m.c i m.fab m.trace).1.1 (n.step m.c i m.fab m.trace).1.2.1 (n.step m.c i m.fab m.trace).1.2.2).todo msg' < m.todo msg):=by
   unfold Node.step;cases ht:m.fab.take i false with
   | mk f' po=>
    cases po with
    | some p=>
     obtain⟨msg',val',G',T',F⟩:=G.answered X hn ht;exact⟨msg',val',G',T',λ_=> F⟩
    | none=>
     simp only;by_cases hg:n.home.ready≠[]/\m.fab.roomOf i false≠0
     ·rw [if_pos hg];obtain⟨msg',G',F⟩:=G.grant (t:=m.trace) X hn hg.1 (VH X hn hg.2);exact⟨msg',val,G',.same,λ_=> F⟩
     ·rw [if_neg hg];cases hr:(if m.fab.roomOf i false=0 then(m.fab,none) else m.fab.take i true) with
      | mk f2 po2=>
       cases po2 with
       | some p=>
        simp only;have hro:m.fab.roomOf i false≠0:=λh=> by rw [if_pos h] at hr;cases hr
        rw [if_neg hro] at hr;obtain⟨msg',G',F⟩:=G.asked (t:=m.trace) X hn hr (VH X hn hro);exact⟨msg',val,G',.same,λ_=> F⟩
       | none=>
        simp only;have hself:GInv (m.with_ i n m.fab m.trace) msg val:=by
         have:m.with_ i n m.fab m.trace=m:=by
          unfold bW.with_;have:m.aH.set i n=m.aH:=by
           apply zbf
           intro k;by_cases h:i=k
           ·rw [<-h,za7 (zai.1 hn).1,hn]
           ·rw [zbc h]
          rw [this]
         rw [this];exact G
        cases hcu:n.bG.cur with
        | none=> exact⟨msg,val,hself,.same,λh=> absurd rfl h⟩
        | some o=>
         simp only;by_cases hs:n.aF.step=0
         ·rw [if_pos hs];obtain⟨msg',val',G',T',F⟩:=G.work X hn hs hcu;exact⟨msg',val',G',T',λ_=> F⟩
         ·rw [if_neg hs];exact⟨msg,val,hself,.same,λh=> absurd rfl h⟩
  exact key
theorem GInv.do_(X:MX T m)(G:GInv m msg val)(p:Pck):∃msg' val',GInv (m.do_ p).1 msg' val'/\zh m.c m.opAt m.trace val (m.do_ p).1.trace val'/\((m.do_ p).2=true->(m.do_ p).1.todo msg' < m.todo msg):=by
 unfold bW.do_;split
 ·refine⟨msg,val,⟨?_,?_⟩,.same,λh=> ?_⟩
  ·have:(m.deliver p.at_ p.bit p.mask).1.abs msg val=m.abs msg val:=rfl;rw [this];exact G.abs
  ·exact G.pk.deliver X.dst.all _ _ _
  ·have hu:=Bf X.dst.all (of_decide_eq_true h);have h1:(m.deliver p.at_ p.bit p.mask).1.todo msg=2*pot m.c m.pJ (m.abs msg λ_=> [])+(m.fab.deliver p.at_ p.bit p.mask).1.under:=rfl;have h2:m.todo msg=2*pot m.c m.pJ (m.abs msg λ_=> [])+m.fab.under:=rfl;rw [h1,h2];omega
 ·obtain⟨msg',val',G',T',F⟩:=G.step X p.at_;exact⟨msg',val',G',T',λh=> F (of_decide_eq_true h)⟩
theorem adL {c:Cfg}(hc:c.ok=true){ps:List (List Opn)}(hp:(ps.length:Int)=c.aH):GInv (bW.new c ps) (λ_=> .idle) c.first:=by
 obtain⟨cn,cl,cw,_⟩:=mM hc;have bn:∀j:Int,0<=j->j < c.aH->∃l,(bW.new c ps).bn j=some (.new c j l):=λj h0 h1=> by
  obtain⟨k,rfl⟩:∃k:Nat,j=k:=⟨j.toNat,by omega⟩
  have hk:k < ps.length:=by omega
  refine⟨ps[k],?_⟩;unfold bW.bn bW.new;rw [if_pos h0,zaq];simp [zbd,zab hk]
 have out:∀j:Int,¬(0<=j/\j < c.aH)->(bW.new c ps).bn j=none:=λj h=> by
  unfold bW.bn bW.new;by_cases h0:0<=j
  ·rw [if_pos h0];simp only;rw [zaH];rw [zdy];omega
  ·rw [if_neg h0]
 have any:∀j:Int,(∃l,(bW.new c ps).bn j=some (.new c j l))∨(bW.new c ps).bn j=none:=λj=> by
  by_cases h:0<=j/\j < c.aH
  ·exact .inl (bn j h.1 h.2)
  ·exact .inr (out j h)
 have ent:∀L j,(bW.new c ps).EX L j=none:=λL j=> by
  unfold bW.EX;rcases any j with⟨l,h⟩ | h
  ·rw [h];rfl
  ·rw [h];rfl
 have own:∀L,((bW.new c ps).lI L).aP=⟨[],[]⟩:=λL=> by
  unfold bW.lI;rcases any ((bW.new c ps).c.aX L) with⟨l,h⟩ | h
  ·rw [h];rfl
  ·rw [h]
 have aF:∀j,((bW.new c ps).kZ j).step=0:=λj=> by
  unfold bW.kZ;rcases any j with⟨l,h⟩ | h
  ·rw [h];rfl
  ·rw [h];rfl
 have row:∀L,0<=L->L < c.bg->jc ((bW.new c ps).lI L).dD L=⟨0,-1,c.first L⟩:=λL h0 h1=> by
  have hh:=Dc hc h0;obtain⟨l,h⟩:=bn (c.aX L) hh.1 hh.2;unfold bW.lI;have hcc:(bW.new c ps).c=c:=rfl;rw [hcc,h];unfold jc;show(jh (c.nR (c.aX L) c.bg.toNat) L).getD .zero=_;rw [AY,if_pos ⟨h0,by omega,rfl⟩];rfl
 have first:∀L,0<=L->L < c.bg->c.first L≠[]:=λL h0 h1 e=> by
  have:=congrArg List.length e;unfold Cfg.first at this
  rw [if_neg (by omega)] at this;simp only [zaB,zcL,zan] at this;omega
 refine⟨⟨λL h0 h1=> .inl ⟨?_,[],?_⟩,λj _ _=> .inl ⟨aF j,rfl⟩,λL=> ?_,first,λL _=> ?_⟩,?_⟩
 ·show((bW.new c ps).lI L).aP.owner L=-1;rw [own];rfl
 ·show Wf c.aH ((bW.new c ps).EX L) (jc ((bW.new c ps).lI L).dD L) (c.first L) [];rw [row L h0 h1];exact⟨⟨zc1,λj hj=> (by cases hj)⟩,trivial,λj e h=> (by rw [ent] at h;cases h),rfl,.inl rfl,(by simp),λh=> absurd (show(0:Int)=2 from h) (by decide),λj e h=> (by rw [ent] at h;cases h),λj e h=> (by rw [ent] at h;cases h),λ_=> rfl⟩
 ·have hw:((bW.new c ps).abs (λ_=> .idle) c.first).ws L=[]:=by
   show((bW.new c ps).lI L).aP.ws L=[]
   rw [own];rfl
  exact⟨by rw [hw];exact zc1,λw h=> (by rw [hw] at h;cases h)⟩
 ·show((bW.new c ps).lI L).aP.owner L=-1;rw [own];rfl
 ·have port:∀p∈(bW.new c ps).fab.l,p=.zero:=λp h=> zca h;have hr:xO (bW.new c ps).fab=[]:=zbE.2 λp h=> by rw [port p h];rfl
  have ha:xP (bW.new c ps).fab=[]:=zbE.2 λp h=> by rw [port p h];rfl
  refine⟨λk q h=> ?_,by rw [hr];exact zc1,by rw [ha];exact zc1,λ_ _ h=> (by cases h),λ_ _ h=> (by cases h),λ_ _ h=> (by cases h),λ_ _ h=> (by cases h),λ_ _ h=> (by rcases h with h | h <;> cases h)⟩;rw [port q (zav h)];exact⟨λp h=> (by cases h),λp h=> (by cases h),λp h=> (by cases h),λp h=> (by cases h)⟩
end
section
variable {m:bW}{T:Nat}{msg:Int->Out}{val:Int->List Int}
theorem adM {α:Type}{l:List α}{i:Nat}{x:α}(h:l[i]?=some x):l.set i x=l:=by
 apply zbf
 intro k;by_cases e:i=k
 ·rw [<-e,za7 (zai.1 h).1,h]
 ·rw [zbc e]
theorem Xw {j:Int}(h:(m.step j).2=0):(m.step j).1=m:=by
 unfold bW.step at h ⊢;cases hn:m.bn j with
 | none=> rfl
 | some n=>
  rw [hn] at h;simp only at h ⊢;have hj:0<=j/\m.aH[j.toNat]?=some n:=by
   unfold bW.bn at hn;split at hn
   ·exact⟨by assumption,hn⟩
   ·cases hn
  have hs:(n.step m.c j m.fab m.trace).1=(n,m.fab,m.trace):=by
   unfold Node.step at h ⊢;cases ht:m.fab.take j false with
   | mk f' po=>
    rw [ht] at h;cases po with
    | some p=> simp at h
    | none=>
     simp only at h ⊢;split at h
     ·simp at h
     ·rename_i hg;rw [if_neg hg];cases hr:(if m.fab.roomOf j false=0 then(m.fab,none) else m.fab.take j true) with
      | mk f2 po2=>
       rw [hr] at h;cases po2 with
       | some p=> simp at h
       | none=>
        simp only at h ⊢;cases hc:n.bG.cur with
        | none=> rfl
        | some o=>
         rw [hc] at h;simp only at h ⊢;by_cases hd:n.aF.step=0
         ·rw [if_pos hd] at h;simp at h
         ·rw [if_neg hd]
  cases hst:n.step m.c j m.fab m.trace with
  | mk w k=>
   obtain⟨n',f',t'⟩:=w;rw [hst] at hs;simp only [zad] at hs;obtain⟨rfl,rfl,rfl⟩:=hs;simp only;rw [adM hj.2]
theorem Nw {a b k:Int}(h:(m.fab.deliver a b k).2≠0):(m.fab.deliver a b k).1=m.fab:=by
 unfold Fab.deliver at h ⊢;by_cases h1:a < 0
 ·rw [if_pos h1]
 rw [if_neg h1] at h ⊢;cases hp:m.fab.all[a.toNat]? with
 | none=> rfl
 | some p=>
  rw [hp] at h;simp only at h ⊢;by_cases h2:aP p.bytes b k=true
  ·rw [if_pos h2]
  rw [if_neg h2] at h ⊢;by_cases h3:m.fab.room (oW p.aO)<=((m.fab.port p.dst).pz (oW p.aO)).length
  ·rw [if_pos h3]
  rw [if_neg h3] at h;exact absurd rfl h
theorem adN {p:Pck}(h:(m.do_ p).2=false):(m.do_ p).1=m:=by
 unfold bW.do_ at h ⊢;by_cases hd:p.deliver=true
 ·rw [if_pos hd] at h ⊢;simp only [decide_eq_false_iff_not] at h;unfold bW.deliver at h ⊢;simp only at h ⊢;rw [Nw h]
 ·rw [if_neg hd] at h ⊢;simp only [decide_eq_false_iff_not,Classical.not_not] at h;exact Xw h
structure amR(m:bW):Prop where
 step:∀j:Nat,j < m.aH.length->(m.step j).2=0
 give:∀q:Nat,q < m.fab.under->(m.fab.deliver q 0 0).2≠0
theorem Xx(X:MX T m)(G:GInv m msg val)(S:amR m):m.over=true:=by
 have hc:=X.inv.ok;obtain⟨cn,cl,_,_,_,co,ci⟩:=mM hc;have hlen:=X.inv.len;have ari:=X.inv.fab.len
 -- what a node's step finds
 have VI:∀(i:Nat) n,m.aH[i]?=some n->(m.fab.take i false).2=none/\¬(n.home.ready≠[]/\m.fab.roomOf i false≠0)/\(m.fab.roomOf i false≠0->(m.fab.take i true).2=none)/\(n.aF.step=0->n.bG.cur=none):=λi n hn=> by
  have h:=S.step i (zai.1 hn).1;unfold bW.step at h;rw [vC hn] at h;simp only at h;unfold Node.step at h;cases ht:m.fab.take i false with
  | mk f' po=>
   rw [ht] at h;cases po with
   | some p=> simp at h
   | none=>
    simp only at h;by_cases hg:n.home.ready≠[]/\m.fab.roomOf i false≠0
    ·rw [if_pos hg] at h;simp at h
    ·rw [if_neg hg] at h;cases hr:(if m.fab.roomOf i false=0 then(m.fab,none) else m.fab.take i true) with
     | mk f2 po2=>
      rw [hr] at h;cases po2 with
      | some p=> simp at h
      | none=>
       refine⟨rfl,hg,λh0=> by rw [if_neg h0] at hr;rw [hr],λhd=> ?_⟩;cases hcu:n.bG.cur with
       | none=> rfl
       | some o=>
        rw [hcu] at h;simp only at h;rw [if_pos hd] at h;simp at h
 have port:∀(i:Nat) q,m.fab.l[i]?=some q->∃n,m.aH[i]?=some n:=λi q hq=> ⟨_,zab (by have:=(zai.1 hq).1;omega)⟩
 have ain:∀(i:Nat) q,m.fab.l[i]?=some q->q.ain=[]:=λi q hq=> by
  obtain⟨n,hn⟩:=port i q hq;have h:=(VI i n hn).1;unfold Fab.take at h;rw [if_pos (DV hq),vw hq] at h;simp only [Port.pz,zaf,if_false] at h;cases e:q.ain with
  | nil=> rfl
  | cons p l=> rw [e] at h;simp at h
 -- aix that may be
 have give:∀p∈m.fab.all,m.fab.room (oW p.aO)<=((m.fab.port p.dst).pz (oW p.aO)).length:=λp hp=> by
  obtain⟨a,ha⟩:=zbs.1 hp;have hlt:=(zai.1 ha).1;have h:=S.give a hlt;unfold Fab.deliver at h;rw [if_neg (by omega),zaq,ha] at h;simp only at h;have ht:aP p.bytes 0 0=false:=by
   unfold aP;rw [List.any_eq_false];intro x _;simp
  rw [ht] at h;simp only [zaf,if_false] at h;split at h
  ·assumption
  ·simp at h
 have an:∀(i:Nat) q,m.fab.l[i]?=some q->q.an=[]:=λi q hq=> by
  cases e:q.an with
  | nil=> rfl
  | cons p l=>
   exfalso;have hm:p∈m.fab.all:=za0.2 ⟨q,zav hq,zcn _ (by rw [e];simp)⟩;have hk:=((G.pk.port i q hq).an p (by rw [e];simp)).2.1;have h:=give p hm;have hd:=X.dst.all p hm;have hai:=ain _ _ (fA hd);rw [hk] at h;simp only [Fab.room,Port.pz,zaf,if_false,hai,zan] at h;omega
 have room:∀(i:Nat) q,m.fab.l[i]?=some q->m.fab.roomOf i false≠0:=λi q hq=> by
  unfold Fab.roomOf;rw [if_pos (DV hq),vw hq,X.inv.fab.out];simp only [Port.sort,zaf,if_false,an i q hq,zan];omega
 have rin:∀(i:Nat) q,m.fab.l[i]?=some q->q.rin=[]:=λi q hq=> by
  obtain⟨n,hn⟩:=port i q hq;have h:=(VI i n hn).2.2.1 (room i q hq);unfold Fab.take at h;rw [if_pos (DV hq),vw hq] at h;simp only [Port.pz,if_true] at h;cases e:q.rin with
  | nil=> rfl
  | cons p l=> rw [e] at h;simp at h
 have rq:∀(i:Nat) q,m.fab.l[i]?=some q->q.rq=[]:=λi q hq=> by
  cases e:q.rq with
  | nil=> rfl
  | cons p l=>
   exfalso;have hm:p∈m.fab.all:=za0.2 ⟨q,zav hq,zcv _ (by rw [e];simp)⟩;have hk:=((G.pk.port i q hq).rq p (by rw [e];simp)).2.1;have h:=give p hm;have hd:=X.dst.all p hm;have hai:=rin _ _ (fA hd);rw [hk] at h;simp only [Fab.room,Port.pz,if_true,hai,zan,X.inv.fab.inn] at h;omega
 have amN:xO m.fab=[]:=zbE.2 λq hq=> by
  obtain⟨i,hi⟩:=zbs.1 hq;simp [uY,rq i q hi,rin i q hi]
 have hans:xP m.fab=[]:=zbE.2 λq hq=> by
  obtain⟨i,hi⟩:=zbs.1 hq;simp [uZ,an i q hi,ain i q hi]
 have IU:∀j p,msg j≠.req p/\msg j≠.ans p:=λj p=> ⟨λh=> (by have:=G.pk.rc j p h;rw [amN] at this;cases this),λh=> (by have:=G.pk.ac j p h;rw [hans] at this;cases this)⟩
 have free:∀L,0<=L->L < m.c.bg->(m.abs msg val).own L=-1:=λL h0 h1=> by
  rcases G.abs.aj L h0 h1 with⟨h,_⟩ | ⟨_,_,_,H⟩
  ·exact h
  ·exfalso;rcases Hold.aa7 H with⟨p,h,_⟩ | ⟨p,h⟩
   ·exact(IU _ p).1 h
   ·exact(IU _ p).2 h
 -- nobody waits
 have amS:∀j,0<=j->j < m.c.aH->msg j≠.wait:=λj h0 h1 hw=> by
  rcases G.abs.bn j h0 h1 with⟨_,h⟩ | O
  ·have h':msg j=.idle:=h;rw [h'] at hw;cases hw
  ·rcases O.at_ with⟨_,_,h | ⟨_,h⟩⟩ | hold | F
   ·exact(IU j _).1 h
   ·-- its home is ready to let it in
    have hl:=O.aj;have hh:=Dc hc hl.1;obtain⟨n,hn⟩:∃n,m.aH[(m.c.aX ((m.abs msg val).aF j).aj).toNat]?=some n:=⟨_,zab (by omega)⟩
    have hcast:(((m.c.aX ((m.abs msg val).aF j).aj).toNat:Nat):Int)=m.c.aX ((m.abs msg val).aF j).aj:=by omega
    have hws:(m.abs msg val).ws ((m.abs msg val).aF j).aj=n.home.aP.ws ((m.abs msg val).aF j).aj:=by
     show(m.lI _).aP.ws _=_;rw [lU hn hcast.symm]
    have hown:(m.abs msg val).own ((m.abs msg val).aF j).aj=n.home.aP.owner ((m.abs msg val).aF j).aj:=by
     show(m.lI _).aP.owner _=_;rw [lU hn hcast.symm]
    have hf:=free _ hl.1 hl.2;rw [hown] at hf;rw [hws] at h;have NI:=X.inv.bn _ n hn;have hnot:n.home.aP.owned ((m.abs msg val).aF j).aj=false:=by
     cases e:n.home.aP.owned ((m.abs msg val).aF j).aj with
     | false=> rfl
     | true=> exact absurd hf ((NI.home.aP.owned _).1 e)
    have hne:n.home.aP.ws ((m.abs msg val).aF j).aj≠[]:=λe=> by rw [e] at h;cases h
    have hkey:((m.abs msg val).aF j).aj∈n.home.aP.wait.map (·.1):=by
     unfold Turns.ws at hne;cases e:jh n.home.aP.wait ((m.abs msg val).aF j).aj with
     | none=> rw [e] at hne;exact absurd rfl hne
     | some l=> exact zaG.2 ⟨_,lQ e,rfl⟩
    have aqe:((m.abs msg val).aF j).aj∈n.home.ready:=by
     unfold Home.ready Turns.ready;refine zbl.2 ⟨?_,?_⟩
     ·have:=(uK (n.home.aP.wait.map (·.1)) [] List.Pairwise.nil).1;exact this.mem_iff.2 (by simpa using hkey)
     ·simp [hnot,hne]
    have Qy:m.fab.l[(m.c.aX ((m.abs msg val).aF j).aj).toNat]?=some (m.fab.port (m.c.aX ((m.abs msg val).aF j).aj)):=fA (X.is hh rfl);refine(VI _ n hn).2.1 ⟨λe=> ?_,room _ _ Qy⟩;rw [e] at aqe;cases aqe
   ·obtain⟨_,H⟩:=G.abs.holder O.aj hold h0;rcases H.aa7 with⟨p,h,_⟩ | ⟨p,h⟩
    ·exact(IU _ p).1 h
    ·exact(IU _ p).2 h
   ·exact(IU j _).2 F.2.2
 have idle:∀(i:Nat) n,m.aH[i]?=some n->n.aF.step=0:=λi n hn=> by
  have hi:=X.range hn;rcases G.abs.bn i hi.1 hi.2 with⟨h,_⟩ | O
  ·have hd:(m.abs msg val).aF i=n.aF:=jZ hn;rw [hd] at h;exact h
  ·exfalso;rcases O.at_ with⟨_,_,h | ⟨h,_⟩⟩ | hold | F
   ·exact(IU i _).1 h
   ·exact amS i hi.1 hi.2 h
   ·obtain⟨_,H⟩:=G.abs.holder O.aj hold hi.1;rcases H.aa7 with⟨p,h,_⟩ | ⟨p,h⟩
    ·exact(IU _ p).1 h
    ·exact(IU _ p).2 h
   ·exact(IU i _).2 F.2.2
 have done:∀(i:Nat) n,m.aH[i]?=some n->n.bG.left=0/\n.bG.dU=false:=λi n hn=> by
  have hcu:=(VI i n hn).2.2.2 (idle i n hn);have P:=(X.inv.bn i n hn).bG;unfold Proc.cur at hcu;have h1:=List.getElem?_eq_none_iff.1 hcu;have h2:=P.vals;refine⟨by unfold Proc.left;omega,?_⟩;cases hb:n.bG.dU with
  | false=> rfl
  | true=> have:=P.dU hb;omega
 have amT:m.fab.under=0:=by
  unfold Fab.under;rw [zcd];refine zbE.2 λq hq=> ?_;obtain⟨i,hi⟩:=zbs.1 hq;simp [rq i q hi,an i q hi]
 have hleft:m.left=0:=by
  unfold bW.left;have:∀l:List Node,(∀n∈l,n.bG.left=0)->(l.map λn=> n.bG.left).sum=0:=by
   intro l
   induction l with
   | nil=> intro _;rfl
   | cons n l ih=>
    intro h;rw [zaz,zbS,h n (by simp),ih λx hx=> h x (by simp [hx])];rfl
  refine this _ λn hn=> ?_;obtain⟨i,hi⟩:=zbs.1 hn;exact(done i n hi).1
 unfold bW.over bW.quiet;rw [amT,hleft];simp only [decide_true,zc7,zaZ,za4];intro i hi;unfold bW.busy;obtain⟨n,hn⟩:∃n,m.aH[i]?=some n:=⟨_,zab hi⟩
 obtain⟨q,hq⟩:∃q,m.fab.l[i]?=some q:=⟨_,zab (by omega)⟩
 rw [hn];simp only [idle i n hn,(done i n hn).2,decide_true,zae,zcB,zaY,decide_eq_false_iff_not];unfold Fab.waiting;rw [if_pos (DV hq),if_pos (DV hq),vw hq];simp [Port.pz,rin i q hq,ain i q hq]
end
def apE(m:bW)(k:Nat):Prop:=∃msg val,GInv m msg val/\m.todo msg<=k
section
variable {m:bW}{T k:Nat}
theorem apE.do_(X:MX T m)(h:apE m k)(p:Pck):∃k',apE (m.do_ p).1 k'/\k'+(if(m.do_ p).2=true then 1 else 0)<=k:=by
 obtain⟨msg,val,G,hk⟩:=h;cases hb:(m.do_ p).2 with
 | false=>
  rw [adN hb];exact⟨k,⟨msg,val,G,hk⟩,by simp⟩
 | true=>
  obtain⟨msg',val',G',_,F⟩:=G.do_ X p;have:=F hb;exact⟨_,⟨msg',val',G',zac _⟩,by simp;omega⟩
end
theorem Xy {c:Cfg}{ps:List (List Opn)}(hp:(ps.length:Int)=c.aH):(bW.new c ps).todo (λ_=> .idle)<=66*(ps.map List.length).sum+26*ps.length:=by
 have hN:c.aH.toNat=ps.length:=by omega
 have bn:∀j:Nat,(bW.new c ps).bn j=(ps[j]?).map λl=> .new c j l:=λj=> by
  unfold bW.bn bW.new;rw [if_pos (by omega),zaq];simp only [zbd]
 have hw:∀(j:Nat) (L:Int),wt ((bW.new c ps).kZ j) L ((bW.new c ps).EX L j)=0:=λj L=> by
  have:(bW.new c ps).EX L j=none:=by
   unfold bW.EX;rw [bn];cases ps[j]? <;> rfl
  rw [this];rfl
 have hd:∀j:Nat,Dp ((bW.new c ps).kZ j) .idle=13:=λj=> by
  unfold bW.kZ;rw [bn];cases ps[j]? <;> rfl
 have hl:∀j:Nat,(bW.new c ps).pJ j=(ps.getD j []).length:=λj=> by
  unfold bW.pJ;rw [bn,zas];cases ps[j]? <;> rfl
 have s1:zf c.aH (λj=> 33*(bW.new c ps).pJ j+Dp ((bW.new c ps).kZ j) .idle)=33*(ps.map List.length).sum+13*ps.length:=by
  unfold zf;rw [hN];simp only [hd,hl];have key:∀l:List (List Opn),((List.range l.length).map λj=> 33*(l.getD j []).length+13).sum=33*(l.map List.length).sum+13*l.length:=by
   intro l
   induction l with
   | nil=> rfl
   | cons a l ih=>
    rw [zal,List.range_succ_eq_map,zaz,zbS,zcO,zaz,zbS];have:((List.range l.length).map ((λj=> 33*((a::l).getD j []).length+13) ∘ Nat.succ))=(List.range l.length).map λj=> 33*(l.getD j []).length+13:=by
     apply zbr
     intro j _;simp
    rw [this,ih];simp only [List.getD_cons_zero];omega
  exact key ps
 have s2:zf c.aH (λj=> zf c.bg λL=> wt ((bW.new c ps).kZ j) L ((bW.new c ps).EX L j))=0:=by
  have z:∀l:List Nat,(l.map λ_:Nat=> 0).sum=0:=λl=> by induction l <;> simp_all
  unfold zf;simp only [hw,z]
 have hu:(bW.new c ps).fab.under=0:=by
  unfold Fab.under;rw [zcd];refine zbE.2 λq hq=> ?_;rw [show q=.zero from zca hq];rfl
 show 2*(zf c.aH (λj=> 33*(bW.new c ps).pJ j+Dp ((bW.new c ps).kZ j) .idle)+zf c.aH λj=> zf c.bg λL=> wt ((bW.new c ps).kZ j) L ((bW.new c ps).EX L j))+(bW.new c ps).fab.under<=_;rw [s1,s2,hu];omega
def TL(me:Int):Nat->List Int->List Evn
 | _,[]=> []
 | k,v::l=> ⟨me,k,false,0⟩::⟨me,k,true,v⟩::TL me (k+1) l
theorem Dh {me v:Int}:∀{l:List Int} {k:Nat},TL me k (l++[v])=TL me k l++[⟨me,(k+l.length:Nat),false,0⟩,⟨me,(k+l.length:Nat),true,v⟩]
 | [],_=> rfl
 | a::l,k=> by
  simp only [zbb,TL,Dh (l:=l),zal,show k+1+l.length=k+(l.length+1) by omega]
theorem Kr {me:Int}:∀{l:List Int} {k:Nat},∀e∈TL me k l,e.bn=me
 | v::l,k,e,h=> by
  simp only [TL,zaj] at h;rcases h with rfl | rfl | h
  ·rfl
  ·rfl
  ·exact Kr e h
def told(me:Int)(n:Node):List Evn:=TL me 0 n.bG.bf++if n.bG.dU=true then [⟨me,n.bG.bf.length,false,0⟩] else []
theorem abj {me:Int}{n:Node}:∀e∈told me n,e.bn=me:=λe h=> by
 unfold told at h;rcases zaL.1 h with h | h
 ·exact Kr e h
 ·split at h
  ·rw [zaO.1 h]
  ·cases h
theorem abk {me:Int}{n n':Node}(h:n'.bG=n.bG):told me n'=told me n:=by unfold told;rw [h]
def Trk(me:Int)(n:Node)(t:List Evn)(n':Node)(t':List Evn):Prop:=t'.length+n.evs=t.length+n'.evs->∃u,t'=t++u/\told me n'=told me n++u
section
variable {me v:Int}{n n':Node}{t:List Evn}{c:Cfg}{f:Fab}{o:Opn}
theorem Trk.same(h:n'.bG=n.bG):Trk me n t n' t:=λ_=> ⟨[],by simp,by rw [abk h];simp⟩
theorem VJ(P:agN c n.bG)(h:n'.bG=n.bG):Trk me n t (n'.done me t v).1 (n'.done me t v).2:=by
 intro e;unfold Node.done at e ⊢;cases hb:n.bG.dU with
 | true=>
  have hi:n.bG.idx=n.bG.bf.length:=by
   unfold Proc.idx Proc.cur;rw [zab (P.dU hb)]
  refine⟨_,rfl,?_⟩;unfold told Proc.yx;simp only [h,hb,if_true,hi,zaf,if_false,Dh,za8,zaW,za5,zbb,zaK]
 | false=>
  unfold Node.evs Proc.yx at e;simp [h,hb] at e
theorem wX(hc:n.bG.cur=some o)(h:n'.bG={ n.bG with dU:=true }):∃u,(if n.bG.dU=true then t else t++[⟨me,n.bG.bf.length,false,0⟩])=t++u/\told me n'=told me n++u:=by
 unfold told;rw [h];cases hb:n.bG.dU with
 | true=> exact⟨[],by simp,by simp⟩
 | false=> exact⟨[⟨me,n.bG.bf.length,false,0⟩],by simp,by simp⟩
theorem yF(hc:n.bG.cur=some o)(h:n'.bG={ n.bG with dU:=true }):Trk me n t (n'.done me (if n.bG.dU=true then t else t++[⟨me,n.bG.bf.length,false,0⟩]) v).1 (n'.done me (if n.bG.dU=true then t else t++[⟨me,n.bG.bf.length,false,0⟩]) v).2:=by
 intro _;obtain⟨u,e1,e2⟩:=wX (me:=me) (t:=t) hc h;unfold Node.done;rw [e1];have hi:n'.bG.idx=n.bG.bf.length:=by
  unfold Proc.idx Proc.cur;rw [h];unfold Proc.cur at hc;simp only [hc]
 refine⟨u++[⟨me,n'.bG.idx,true,v⟩],by simp,?_⟩;rw [<-za5,<-e2,hi];unfold told Proc.yx;simp only [h,if_true,zaf,if_false,Dh,za8,zaW,za5,zbb,zaK]
theorem QJ(P:agN c n.bG){p:Pkt}:Trk me n t (n.answered c me f t p).1 (n.answered c me f t p).2.2:=by
 unfold Node.answered;split;split
 ·exact Trk.same rfl
 ·simp only;split
  ·split
   ·exact VJ P rfl
   ·exact Trk.same rfl
  ·split
   ·unfold Node.effect;exact VJ P rfl
   ·exact Trk.same rfl
theorem adO(hc:n.bG.cur=some o):Trk me n t (n.work c me f t o).1 (n.work c me f t o).2.2:=by
 unfold Node.work;simp only;split
 ·exact yF hc rfl
 split
 ·exact λ_=> wX hc rfl
 split
 ·unfold Node.effect;exact yF hc rfl
 split
 ·exact λ_=> wX hc rfl
 split
 ·exact λ_=> wX hc rfl
 ·exact λ_=> wX hc rfl
theorem adP(P:agN c n.bG):Trk me n t (n.step c me f t).1.1 (n.step c me f t).1.2.2:=by
 unfold Node.step;split
 ·exact QJ P
 ·split
  ·exact Trk.same rfl
  ·split
   ·rename_i f' p _;have:(n.asked c me f' p).1.bG=n.bG:=by
     unfold Node.asked;split <;> split <;> rfl
    exact Trk.same this
   ·split
    ·split
     ·exact adO (by assumption)
     ·exact Trk.same rfl
    ·exact Trk.same rfl
end
structure amU(m:bW):Prop where
 own:∀(i:Nat) n,m.aH[i]?=some n->m.trace.filter (λe=> decide (e.bn=(i:Int)))=told i n
 ran:∀e∈m.trace,∃i:Nat,e.bn=(i:Int)/\i < m.aH.length
theorem amU.do_ {m:bW}(R:amU m)(I:adu m)(p:Pck)(I':adu (m.do_ p).1):amU (m.do_ p).1:=by
 unfold bW.do_ at*;cases hd:p.deliver with
 | true=> simp only [if_true];exact⟨R.own,R.ran⟩
 | false=>
  simp only [hd,zaf,if_false] at*;unfold bW.step bW.bn at*;by_cases h0:0<=p.at_
  ·simp only [if_pos h0] at*;cases hn:m.aH[p.at_.toNat]? with
   | none=> simp only [hn];exact R
   | some n=>
    simp only [hn] at I' ⊢;have ok:=adP (I.bn _ n hn).bG (me:=p.at_) (f:=m.fab) (t:=m.trace);generalize n.step m.c p.at_ m.fab m.trace=r at*;obtain⟨⟨n',f',t'⟩,k⟩:=r;have e1:=I.evs;have e2:=I'.evs
    try dsimp only at ok
    try dsimp only at e2
    have s1:=Tj Node.evs (a':=n') hn;obtain⟨u,u1,u2⟩:=ok (by show t'.length+_=m.trace.length+n'.evs;omega);have hu:∀e∈u,e.bn=p.at_:=λe he=> abj (n:=n') e (by rw [u2];exact zcn _ he);have hlt:=(zai.1 hn).1;have hc:((p.at_.toNat:Nat):Int)=p.at_:=by omega
    refine⟨λi x hx=> ?_,λe he=> ?_⟩
    ·show t'.filter _=_;rw [u1,zb3]
     replace hx:(m.aH.set p.at_.toNat n')[i]?=some x:=hx
     by_cases hi:p.at_.toNat=i
     ·subst hi;rw [za7 hlt] at hx;cases hx;rw [R.own _ n hn,hc,u2,zdp.2 λe he=> by simp [hu e he]]
     ·rw [zbc hi] at hx;rw [R.own i x hx,List.filter_eq_nil_iff.2 λe he=> by
       have:=hu e he;simp only [decide_eq_true_eq];omega,za8]
    ·replace he:e∈t':=he
     show∃i:Nat,e.bn=(i:Int)/\i < (m.aH.set p.at_.toNat n').length;rw [zbY];rw [u1] at he;rcases zaL.1 he with h | h
     ·exact R.ran e h
     ·exact⟨p.at_.toNat,by rw [hu e h];exact hc.symm,hlt⟩
  ·simp only [if_neg h0] at*;exact R
theorem adQ(c:Cfg)(ps:List (List Opn)):amU (.new c ps):=by
 refine⟨λi n h=> ?_,λe h=> by cases h⟩;simp only [bW.new,zbd] at h;cases hg:ps[i]? with
 | none=> rw [hg] at h;cases h
 | some l=> rw [hg] at h;cases h;rfl
def Legal(c:Cfg)(P:Int->Nat->Option Opn):List Evn->(Int->List Int)->(Int->List Int)->Prop
 | [],v,v'=> v=v'
 | e::u,v,v'=> if e.done=true then∃k:Nat,∃o,e.index=k/\P e.bn k=some o/\e.value=(mg c o v).2/\Legal c P u (mg c o v).1 v' else Legal c P u v v'
theorem Legal.snoc {c:Cfg}{P:Int->Nat->Option Opn}:∀{u:List Evn} {v v1 v':Int->List Int} {w:List Evn},Legal c P u v v1->Legal c P w v1 v'->Legal c P (u++w) v v'
 | [],_,_,_,_,h,h'=> by cases h;exact h'
 | e::u,v,v1,v',w,h,h'=> by
  unfold Legal at h;show Legal c P (e::(u++w)) v v';unfold Legal;split at h
  ·rename_i hd;rw [if_pos hd];obtain⟨k,o,h1,h2,h3,h4⟩:=h;exact⟨k,o,h1,h2,h3,h4.snoc h'⟩
  ·rename_i hd;rw [if_neg hd];exact Legal.snoc h h'
theorem zh.legal {c:Cfg}{P:Int->Nat->Option Opn}{t t':List Evn}{v v' v0:Int->List Int}(h:zh c P t v t' v'):Legal c P t v0 v->Legal c P t' v0 v':=by
 intro hl
 induction h with
 | same=> exact hl
 | dU i k _ ih=> exact(ih hl).snoc (by simp [Legal])
 | done i k o hp _ ih=> exact(ih hl).snoc (by simp only [Legal,if_true];exact⟨k,o,rfl,hp,rfl,rfl⟩)
section
variable {m:bW}{T k:Nat}{msg:Int->Out}{val:Int->List Int}
theorem aip(X:MX T m)(G:GInv m msg val)(h1:m.c.aH=1):∃q,m.fab.l=[q]/\q.rq.length+q.rin.length+(q.an.length+q.ain.length)<=1:=by
 have hl:m.fab.l.length=1:=by have:=X.inv.fab.len;omega
 obtain⟨q,hq⟩:=List.length_eq_one_iff.1 hl;refine⟨q,hq,?_⟩;have hp:=G.pk.port 0 q (by rw [hq];rfl);have er:xO m.fab=q.rq++q.rin:=by unfold xO;rw [hq];simp [uY]
 have ea:xP m.fab=q.an++q.ain:=by unfold xP;rw [hq];simp [uZ]
 have is0:∀j,m.fab.is j=true->j=0:=λj h=> by
  unfold Fab.is at h;simp only [zah,decide_eq_true_eq] at h;omega
 have r0:∀p∈xO m.fab,p.src=0/\msg 0=.req p:=λp h=> by
  have hm:msg p.src=.req p:=by
   rw [er] at h;rcases zaL.1 h with h | h
   ·rw [(hp.rq p h).1];exact(hp.rq p h).2.2
   ·exact(hp.rin p h).2.2
  have h0:=is0 _ (G.pk.rg _ p (.inl hm));exact⟨h0,h0 ▸ hm⟩
 have a0:∀p∈xP m.fab,p.dst=0/\msg 0=.ans p:=λp h=> by
  have hm:msg p.dst=.ans p:=by
   rw [ea] at h;rcases zaL.1 h with h | h
   ·exact(hp.an p h).2.2
   ·rw [(hp.ain p h).1];exact(hp.ain p h).2.2
  have hd:=G.pk.dst _ p hm;have h0:=is0 _ (G.pk.rg _ p (.inr hm));exact⟨h0,h0 ▸ hm⟩
 have one:∀{l:List Int},l.Nodup->(∀x∈l,x=0)->l.length<=1:=λ{l} hn h=> by
  match l,hn,h with
  | [],_,_=> exact zaS _
  | [_],_,_=> exact zac _
  | x::y::l,hn,h=>
   have:=(zaU.1 hn).1;rw [h x (by simp),h y (by simp)] at this;simp at this
 have n1:=one G.pk.rn λx hx=> by
  obtain⟨p,hp,rfl⟩:=zaG.1 hx;exact(r0 p hp).1
 have n2:=one G.pk.an λx hx=> by
  obtain⟨p,hp,rfl⟩:=zaG.1 hx;exact(a0 p hp).1
 rw [zaB,er,zao] at n1;rw [zaB,ea,zao] at n2;by_cases hr:xO m.fab=[]
 ·rw [hr] at er;have:=congrArg List.length er;simp only [zan,zao] at this;omega
 ·obtain⟨p,hp⟩:=List.exists_mem_of_ne_nil _ hr;have:xP m.fab=[]:=List.eq_nil_iff_forall_not_mem.2 λx hx=> by
   have h1:=(r0 p hp).2;rw [(a0 x hx).2] at h1;cases h1
  rw [this] at ea;have:=congrArg List.length ea;simp only [zan,zao] at this;omega
theorem adR(X:MX T m)(G:GInv m msg val)(h1:m.c.aH=1):(m.deliver 0 0 0).1.fab.under=0:=by
 obtain⟨q,hq,hle⟩:=aip X G h1;have hall:m.fab.all=q.rq++q.an:=by unfold Fab.all;rw [hq];simp
 have hu:m.fab.under=q.rq.length+q.an.length:=by unfold Fab.under;rw [hall,zao]
 show(m.fab.deliver 0 0 0).1.under=0;by_cases h0:m.fab.under=0
 ·have:m.fab.all=[]:=zcd.1 h0;unfold Fab.deliver;rw [if_neg (by omega),this];exact h0
 ·obtain⟨p,hp⟩:∃p,m.fab.all[(0:Int).toNat]?=some p:=⟨_,zab (by
   have:m.fab.all.length=m.fab.under:=rfl;show 0 < _;omega)⟩
  have hd:=X.dst.all p (zav hp);have Qy:m.fab.port p.dst=q:=by
   have:=fA hd;have h2:=(zai.1 this).1;rw [hq] at this h2;simp only [zdk] at h2;rw [show p.dst.toNat=0 by omega] at this
   simpa using this.symm
  have hroom:(m.fab.deliver 0 0 0).2=0:=by
   unfold Fab.deliver;rw [if_neg (by omega),hp];have ht:aP p.bytes 0 0=false:=by
    unfold aP;rw [List.any_eq_false];intro x _;simp
   have hin:=(mM X.inv.ok).2.2.2.2.2.2;simp only [ht,zaf,if_false];rw [if_neg];rw [Qy];have ap9:=X.inv.fab.inn;cases oW p.aO <;> simp only [Fab.room,Port.pz,if_true,zaf,if_false] <;> omega
  have:=Bf X.dst.all hroom;omega
end
theorem E9 {p:Proc}{v:Int}:(p.yx v).ops=p.ops:=by unfold Proc.yx;split <;> rfl
theorem adS {c:Cfg}{me:Int}{n:Node}{f:Fab}{t:List Evn}:(n.step c me f t).1.1.bG.ops=n.bG.ops:=by
 unfold Node.step;split
 ·unfold Node.answered;split;split
  ·rfl
  ·simp only;split
   ·split
    ·exact E9
    ·rfl
   ·split
    ·exact E9
    ·rfl
 ·split
  ·rfl
  ·split
   ·show(n.asked c me _ _).1.bG.ops=_;unfold Node.asked;split <;> split <;> rfl
   ·split
    ·split
     ·show(n.work c me f t _).1.bG.ops=_;unfold Node.work;simp only;split
      ·exact E9
      split
      ·rfl
      split
      ·exact E9
      split
      ·rfl
      split
      ·rfl
      ·rfl
     ·rfl
    ·rfl
theorem abl(m:bW)(i:Int):(m.step i).1.opAt=m.opAt:=by
 unfold bW.step;cases hn:m.bn i with
 | none=> rfl
 | some n=>
  have h0:0<=i/\m.aH[i.toNat]?=some n:=by
   unfold bW.bn at hn;split at hn
   ·exact⟨by assumption,hn⟩
   ·cases hn
  have ho:=adS (c:=m.c) (me:=i) (n:=n) (f:=m.fab) (t:=m.trace);simp only;generalize n.step m.c i m.fab m.trace=r at ho;obtain⟨⟨n',f',t'⟩,k⟩:=r
  funext j q
  have hw:=wW (n':=n') (f:=f') (t:=t') h0.2 j;have e:(m.with_ i.toNat n' f' t').opAt j q=m.opAt j q:=by
   unfold bW.opAt;rw [hw];by_cases hj:j=((i.toNat:Nat):Int)
   ·have hni:=vC h0.2;rw [if_pos hj,hj,hni];show n'.bG.ops[q]?=_;rw [show n'.bG.ops=n.bG.ops from ho]
   ·rw [if_neg hj]
  exact e
structure aiq(P:Int->Nat->Option Opn)(first:Int->List Int)(c:Cfg)(m:bW)(T k:Nat):Prop where
 keep:MX T m
 ex:∃msg val,GInv m msg val/\pot m.c m.pJ (m.abs msg val)<=k/\Legal m.c P m.trace first val
 rcd:amU m
 op:m.opAt=P
 cfg:m.c=c
 un:m.fab.under=0
theorem adT {c:Cfg}(hc:c.ok=true)(h1:c.aH=1){l:List Opn}(X:MX 0 (.new c [l])):aiq (bW.new c [l]).opAt c.first c (.new c [l]) 0 (33*l.length+13):=by
 have h:=Xy (c:=c) (ps:=[l]) (by rw [h1];rfl);have hu:(bW.new c [l]).todo (λ_=> .idle)=2*pot c (bW.new c [l]).pJ ((bW.new c [l]).abs (λ_=> .idle) c.first)+(bW.new c [l]).fab.under:=rfl;have hz:(bW.new c [l]).fab.under=0:=by
  unfold Fab.under;rw [zcd];refine zbE.2 λq hq=> ?_;rw [show q=.zero from zca hq];rfl
 rw [hu] at h;simp only [zaz,zbO,zbS,List.sum_nil,zdk] at h;exact⟨X,⟨_,_,adL hc (by rw [h1];rfl),by show pot c _ _<=_;omega,rfl⟩,adQ c [l],rfl,rfl,hz⟩
theorem Ny(m:bW)(i:Int):(m.step i).1.c=m.c:=by
 unfold bW.step;split
 ·rfl
 ·rfl
theorem VK {m:bW}(h:0 < m.left):m.over=false:=by
 unfold bW.over;rw [show decide (m.left=0)=false from decide_eq_false (by omega),zci]
theorem aiq.turn {P:Int->Nat->Option Opn}{first:Int->List Int}{c:Cfg}{m:bW}{T k:Nat}(S:aiq P first c m T k)(h1:c.aH=1)(ho:m.over=false):0 < k/\aiq P first c ((m.step 0).1.deliver 0 0 0).1 (T+1) (k - 1):=by
 obtain⟨msg,val,G,hk,L⟩:=S.ex;have X:=S.keep;have hc:=S.cfg;have hn1:m.c.aH=1:=by rw [hc];exact h1
 obtain⟨msg',val',G',Te,F⟩:=G.step X 0;have hlen:=X.inv.len;have hu:=S.un;have hn:(m.step 0).2≠0:=λe=> by
  have S:amR m:=⟨λj hj=> by rw [show j=0 by omega];exact e,λq hq=> by omega⟩
  have:=Xx X G S;rw [ho] at this;cases this
 have hf:=F hn;have X':=X.step 0;have a1:m.todo msg=2*pot m.c m.pJ (m.abs msg val)+m.fab.under:=rfl;have a2:(m.step 0).1.todo msg'=2*pot (m.step 0).1.c (m.step 0).1.pJ ((m.step 0).1.abs msg' val')+(m.step 0).1.fab.under:=rfl;have d1:(m.do_ ⟨false,0,0,0⟩).1=(m.step 0).1:=rfl;have d2:((m.step 0).1.do_ ⟨true,0,0,0⟩).1=((m.step 0).1.deliver 0 0 0).1:=rfl;have r1:=S.rcd.do_ X.inv ⟨false,0,0,0⟩ (by rw [d1];exact X'.inv);rw [d1] at r1;refine⟨by omega,X'.deliver 0 0 0,⟨msg',val',⟨G'.abs,G'.pk.deliver X'.dst.all _ _ _⟩,?_,?_⟩,⟨r1.own,r1.ran⟩,?_,?_,adR X' G' (by rw [Ny];exact hn1)⟩
 ·show pot (m.step 0).1.c (m.step 0).1.pJ ((m.step 0).1.abs msg' val')<=k - 1;omega
 ·show Legal (m.step 0).1.c P (m.step 0).1.trace first val'
  rw [Ny];have Te':=Te.legal (v0:=first);rw [S.op] at Te';exact Te' L
 ·show(m.step 0).1.opAt=P;rw [abl];exact S.op
 ·show(m.step 0).1.c=c;rw [Ny];exact hc
theorem ne_ {a b:Int}{p:Prop}(hab:decide (a=b)=false)(h:a=b):p:=absurd h (of_decide_eq_false hab)
theorem abm {d:bJ}{me:Int}{c:Cache}:(bT d me c).2.id=d.id/\(bT d me c).2.aj=d.aj:=by
 unfold bT;cases c.find d.aj with
 | none=>
  simp only;split <;> exact⟨rfl,rfl⟩
 | some own=>
  simp only;by_cases h:d.next=me
  ·simp only [if_pos h];split <;> exact⟨rfl,rfl⟩
  ·simp only [if_neg h];split <;> exact⟨rfl,rfl⟩
theorem adU {n:Node}{me:Int}{p:Pkt}(h:(n.after me p).2.2=true):(n.after me p).2.1.id=n.aF.id/\(n.after me p).2.1.aj=n.aF.aj:=by
 unfold Node.after at h ⊢;split
 ·rename_i h1;rw [if_pos h1] at h;unfold dQ at h ⊢;split
  ·rename_i h2;rw [if_pos h2] at h;cases h
  split
  ·split <;> exact⟨rfl,rfl⟩
  split
  ·exact⟨rfl,rfl⟩
  split
  ·exact⟨rfl,rfl⟩
  ·rename_i h2 h3 h4 h5;rw [if_neg h2,if_neg h3,if_neg h4,if_neg h5] at h;cases h
 rename_i h1;rw [if_neg h1] at h;split
 ·rename_i h1;rw [if_pos h1] at h;unfold dS at h ⊢;split
  ·rename_i h2;rw [if_pos h2] at h;cases h
  split
  ·exact abm
  split
  ·exact abm
  split
  ·exact⟨rfl,rfl⟩
  ·rename_i h2 h3 h4 h5;rw [if_neg h2,if_neg h3,if_neg h4,if_neg h5] at h;cases h
 rename_i h1;rw [if_neg h1] at h;split
 ·rename_i h1;rw [if_pos h1] at h;unfold eF at h ⊢;split
  ·rename_i h2;rw [if_pos h2] at h;cases h
  split
  ·simp only;split
   ·exact⟨rfl,rfl⟩
   ·split
    ·exact⟨rfl,rfl⟩
    split <;> exact⟨rfl,rfl⟩
  split
  ·split <;> exact⟨rfl,rfl⟩
  split
  ·split <;> exact⟨rfl,rfl⟩
  split
  ·exact⟨rfl,rfl⟩
  ·rename_i h2 h3 h4 h5 h6;rw [if_neg h2,if_neg h3,if_neg h4,if_neg h5,if_neg h6] at h;cases h
 ·rename_i h1;rw [if_neg h1] at h;cases h
section
variable {c:Cfg}{me:Int}{n:Node}{f:Fab}{t:List Evn}
theorem zl {p:Pkt}:(n.answered c me f t p).1.num=n.num/\(n.answered c me f t p).1.aF.id=n.aF.id/\(n.answered c me f t p).1.aF.aj=n.aF.aj:=by
 have h:=adU (n:=n) (me:=me) (p:=p);unfold Node.answered;generalize n.after me p=r at h;obtain⟨ca,d,ok⟩:=r;simp only at h ⊢;cases ok with
 | false=> simp
 | true=>
  have h:=h rfl;simp only [zbx,if_false];split
  ·split <;> exact⟨rfl,h⟩
  ·split <;> exact⟨rfl,h⟩
theorem abn:((n.step c me f t).2=4->n.aF.step=0/\(((n.step c me f t).1.1.aF=n.aF/\(n.step c me f t).1.1.num=n.num)∨∃k L,(n.step c me f t).1.1.aF=.begin k L n.num/\(n.step c me f t).1.1.num=(n.num+1).tmod 4096/\(n.step c me f t).1.2.1=(f.send ((bJ.begin k L n.num).ask me (c.aX L))).1))/\
  ((n.step c me f t).2=1->(n.step c me f t).1.1.num=n.num/\(n.step c me f t).1.1.aF.id=n.aF.id/\(n.step c me f t).1.1.aF.aj=n.aF.aj/\∃f' p,f.take me false=(f',some p))/\
  ((n.step c me f t).2≠1->(n.step c me f t).2≠4->(n.step c me f t).1.1.aF=n.aF/\(n.step c me f t).1.1.num=n.num):=by
 unfold Node.step;cases ht:f.take me false with
 | mk f' po=>
  cases po with
  | some p=> exact⟨λh=> ne_ rfl h,λ_=> ⟨zl.1,zl.2.1,zl.2.2,f',p,rfl⟩,λh=> absurd rfl h⟩
  | none=>
   simp only;split
   ·exact⟨λh=> ne_ rfl h,λh=> ne_ rfl h,λ_ _=> ⟨rfl,rfl⟩⟩
   ·split
    ·rename_i f2 p _;refine⟨λh=> ne_ rfl h,λh=> ne_ rfl h,λ_ _=> ?_⟩;show(n.asked c me f2 p).1.aF=_/\(n.asked c me f2 p).1.num=_;unfold Node.asked;split <;> split <;> exact⟨rfl,rfl⟩
    ·split
     ·split
      ·rename_i o _ hd;refine⟨λ_=> ⟨hd,?_⟩,λh=> ne_ rfl h,λ_ h=> absurd rfl h⟩;show((n.work c me f t o).1.aF=_/\(n.work c me f t o).1.num=_)∨∃k L,(n.work c me f t o).1.aF=_/\(n.work c me f t o).1.num=_/\(n.work c me f t o).2.1=_;unfold Node.work;simp only;split
       ·exact .inl ⟨rfl,rfl⟩
       split
       ·exact .inr ⟨_,_,rfl,rfl,rfl⟩
       split
       ·exact .inl ⟨rfl,rfl⟩
       split
       ·exact .inr ⟨_,_,rfl,rfl,rfl⟩
       split
       ·exact .inr ⟨_,_,rfl,rfl,rfl⟩
       ·exact .inr ⟨_,_,rfl,rfl,rfl⟩
      ·exact⟨λh=> ne_ rfl h,λh=> ne_ rfl h,λ_ _=> ⟨rfl,rfl⟩⟩
     ·exact⟨λh=> ne_ rfl h,λh=> ne_ rfl h,λ_ _=> ⟨rfl,rfl⟩⟩
end
def bW.Xz(m:bW):bJ:=match m.aH[0]? with
 | some n=> n.aF
 | none=> .zero
section
variable {P:Int->Nat->Option Opn}{first:Int->List Int}{c:Cfg}{m:bW}{T k:Nat}
theorem QK(h:m.Xz.step≠0):m.over=false:=by
 unfold bW.Xz at h;cases hn:m.aH[0]? with
 | none=> rw [hn] at h;exact absurd rfl h
 | some n=>
  rw [hn] at h;unfold bW.over bW.quiet;rw [show(List.range m.aH.length).all (λi=> !m.busy i)=false from List.all_eq_false.2 ⟨0,za4.2 (zai.1 hn).1,by
   unfold bW.busy;rw [hn];simp [h]⟩]
  rfl
structure amV(c:Cfg)(n n':Node)(what under:Int):Prop where
 new:what=4->n'.aF.step≠0->n.aF.step=0/\n'.aF.id=n.num/\n'.aF.step=1/\under=1/\n'.num=(n.num+1).tmod 4096
 old:¬(what=4/\n'.aF.step≠0)->n'.num=n.num/\(¬(what=1/\n'.aF.step=0)->(n'.aF.step≠0↔n.aF.step≠0)/\(n'.aF.step≠0->n'.aF.id=n.aF.id))
 aj:n'.aF.step≠0->0<=n'.aF.aj/\n'.aF.aj < c.bg
theorem aiq.turned(S:aiq P first c m T k)(h1:c.aH=1){n:Node}(hn:m.aH=[n]):∃n',(m.step 0).1.aH=[n']/\amV c n n' (m.step 0).2 (m.step 0).1.fab.under:=by
 obtain⟨msg,val,G,_,_⟩:=S.ex;have X:=S.keep;have h0:m.aH[0]?=some n:=by rw [hn];rfl
 have hst:m.step 0=({ m with aH:=m.aH.set 0 (n.step m.c 0 m.fab m.trace).1.1,fab:=(n.step m.c 0 m.fab m.trace).1.2.1,trace:=(n.step m.c 0 m.fab m.trace).1.2.2 },(n.step m.c 0 m.fab m.trace).2):=by
  unfold bW.step bW.bn;rw [if_pos (by omega),show(0:Int).toNat=0 from rfl,h0]
 have X':=X.step 0;obtain⟨msg',val',G',_⟩:=G.step X 0;have hidle:=G.idle X h0;rw [hst] at X' G' ⊢;have hnodes:m.aH.set 0 (n.step m.c 0 m.fab m.trace).1.1=[(n.step m.c 0 m.fab m.trace).1.1]:=by rw [hn];rfl
 refine⟨(n.step m.c 0 m.fab m.trace).1.1,hnodes,?_⟩;obtain⟨d1,d2,d3⟩:=abn (c:=m.c) (me:=0) (n:=n) (f:=m.fab) (t:=m.trace);have hc:=S.cfg;refine⟨λhw hs=> ?_,λhw=> ?_,λhs=> ?_⟩
 ·obtain⟨e0,e⟩:=d1 hw;rcases e with⟨e1,_⟩ | ⟨k,L,e1,e2,e3⟩
  ·exact absurd e0 (by rw [<-e1];exact hs)
  ·refine⟨e0,by rw [e1];rfl,by rw [e1];rfl,?_,e2⟩;show((n.step m.c 0 m.fab m.trace).1.2.1.under:Int)=1;have hu:=S.un;have h2:=mP m.fab ((bJ.begin k L n.num).ask 0 (m.c.aX L));rw [<-e3] at h2
   -- its packet is there
   have hnn:({ m with aH:=m.aH.set 0 (n.step m.c 0 m.fab m.trace).1.1,fab:=(n.step m.c 0 m.fab m.trace).1.2.1,trace:=(n.step m.c 0 m.fab m.trace).1.2.2 }:bW).aH[0]?=some (n.step m.c 0 m.fab m.trace).1.1:=by
    show(m.aH.set 0 _)[0]?=_;rw [hnodes];rfl
   have hlt:0 < (n.step m.c 0 m.fab m.trace).1.2.1.under:=by
    refine Classical.byContradiction λhz=> ?_;have hz:(n.step m.c 0 m.fab m.trace).1.2.1.under=0:=by omega
    have hsend:(m.fab.send ((bJ.begin k L n.num).ask 0 (m.c.aX L))).2=0:=by
     have hi:=X.range h0;have NX_:=X.bn 0 n h0;have DO:=(X'.inv.bn 0 _ hnn).aF (by rw [e1];exact(by decide:(1:Int)≠0));have hlo:=DO.lo;have hhi:=DO.hi;rw [e1] at hlo hhi;obtain⟨a1,a2,a3,a4,a5⟩:=QH X.inv.ok hi (k:=k) (L:=L) (id:=n.num) ⟨hlo,hhi⟩ ⟨NX_.Tv,NX_.num1⟩;have hout:1<=m.fab.out:=by
      have:=(mM X.inv.ok).2.2.2.2.2.1;rw [X.inv.fab.out];exact this.1
     have hid:=hidle e0;exact(G.pk.aii (p:=(bJ.begin k L n.num).ask 0 (m.c.aX L)) (by rw [show((bJ.begin k L n.num).ask 0 (m.c.aX L)).src=0 from a3];intro q e;have:=hid.symm.trans e;cases this) (by rw [show((bJ.begin k L n.num).ask 0 (m.c.aX L)).src=0 from a3];intro q e;have:=hid.symm.trans e;cases this) a1 a2 (by rw [show((bJ.begin k L n.num).ask 0 (m.c.aX L)).src=0 from a3];exact X.is hi rfl) (X.is ⟨a4,a5⟩ rfl) hout).1
    have hall:m.fab.all=[]:=zcd.1 hu;rw [e3] at hz;unfold Fab.send at hsend hz;split at hsend
    ·cases hsend
    split at hsend
    ·cases hsend
    rename_i q1 q2;rw [if_neg q1,if_neg q2] at hz;have apF:m.fab.is ((bJ.begin k L n.num).ask 0 (m.c.aX L)).src=true:=by
     simp only [zbe,zaY,not_or,zcb] at q1;exact q1.1.2
    have hp:=Iu (q:=(m.fab.port ((bJ.begin k L n.num).ask 0 (m.c.aX L)).src).jE (oW ((bJ.begin k L n.num).ask 0 (m.c.aX L)).aO) ((m.fab.port ((bJ.begin k L n.num).ask 0 (m.c.aX L)).src).sort (oW ((bJ.begin k L n.num).ask 0 (m.c.aX L)).aO)++[(bJ.begin k L n.num).ask 0 (m.c.aX L)])) apF
    dsimp only at hz
    rw [hz,hu] at hp;cases hk:oW ((bJ.begin k L n.num).ask 0 (m.c.aX L)).aO <;> rw [hk] at hp <;> simp [Port.jE,Port.sort] at hp <;> omega
   omega
 ·by_cases h4:(n.step m.c 0 m.fab m.trace).2=4
  ·obtain⟨e0,e⟩:=d1 h4;rcases e with⟨e1,e2⟩ | ⟨k,L,e1,_⟩
   ·exact⟨e2,λ_=> ⟨by rw [e1],λ_=> by rw [e1]⟩⟩
   ·exact absurd ⟨h4,by rw [e1];exact(by decide:(1:Int)≠0)⟩ hw
  ·by_cases h1':(n.step m.c 0 m.fab m.trace).2=1
   ·obtain⟨e1,e2,e3,f',p,ht⟩:=d2 h1';refine⟨e1,λhne=> ⟨⟨λ_ h=> ?_,λ_ h=> hne ⟨h1',h⟩⟩,λ_=> e2⟩⟩;have hid:=hidle h;obtain⟨_,_,_,b3,_⟩:=G.pk.takeA ht;exact absurd (hid.symm.trans b3) (λe=> by cases e)
   ·obtain⟨e1,e2⟩:=d3 h1' h4;exact⟨e2,λ_=> ⟨by rw [e1],λ_=> by rw [e1]⟩⟩
 ·have hnn:({ m with aH:=m.aH.set 0 (n.step m.c 0 m.fab m.trace).1.1,fab:=(n.step m.c 0 m.fab m.trace).1.2.1,trace:=(n.step m.c 0 m.fab m.trace).1.2.2 }:bW).aH[0]?=some (n.step m.c 0 m.fab m.trace).1.1:=by
   show(m.aH.set 0 _)[0]?=_;rw [hnodes];rfl
  have DO:=(X'.inv.bn 0 _ hnn).aF hs;rw [<-hc];exact⟨DO.lo,DO.hi⟩
end
theorem apG(d:bJ):d.av.length=9:=rfl
section
variable {b:Nat}{H:ah}{g:bD}{S:Iw}{m:bW}{T k:Nat}
theorem Solo.arj(R:Solo b H g S m T){ty n:Nat}{xs ys:List AV}(hx:xs.length=n)(hy:ys.length=n)(hn:0 < n)(ax:xs.all AV.aQ=true)(ay:ys.all AV.aQ=true)(ht:ty < gQ:=by decide):
  ∃K,st n (.ref H.next 0 0) (.agg ys) (H.new (.blk 0 ty xs))=some (aZ,K)/\Solo b K (upd g H.next (ys.map Cell.av)) S m T/\(∀i v,ys[i]?=some v->ld (.ref H.next 0 i) K=some (v,K))/\Step b H K:=by
 have G1:=R.good.newObj (ty:=ty) (xs:=xs) ax ht;obtain⟨K',t1,t2,t3,t4⟩:=G1.stores (by rw [jC];exact R.base) aV (i:=0) (n:=n) (vs:=ys) (by rw [zaB,hx];omega) hy ay;have e:mF (xs.map Cell.av) 0 ys=ys.map Cell.av:=by
  unfold mF;rw [zaQ (by rw [zaB,hx,hy];omega)];simp
 rw [e,oq] at t2;obtain⟨k,hk,N⟩:=R.nw;exact⟨K',t1,⟨t2,by rw [t3.base,jC];exact R.base,⟨k,hk,N.sub ((ru.refl g).more (R.good.isNone (zac _)) _)⟩,R.keep⟩,λi v hv=> t2.load aV (i:=i) (x:=v) (by rw [zaM,hv];rfl),(Step.new _ R.good.1).trans t3⟩
theorem QL(R:Solo b H g S m T){c:AV}{N:Int}{i:Nat}(hl:m.left<=0):∃H',JC cl [c,.ref S.f 0 0,.ref S.t 0 0,.ref (S.a 0) 0 0,I N,B false,I i] H=some (B true,H'):=by
 obtain⟨n,hn,_⟩:=R.nw;have f0:=R.bG;have e1:=R.left;have h0:m.left=0:=by
  have:=(R.keep.inv.bn 0 n (by rw [hn];rfl)).bG.vals;rw [Qz hn] at hl ⊢;unfold Proc.left at hl ⊢;omega
 rw [h0] at e1;have h00:¬(0:Int) < 0:=by omega
 have wk:=λH=> aia H;refine⟨H,?_⟩;rw [Ph];by_cases hlt:(i:Int) < 700
 ·simp only [xq_,hlt,f0,e1,h00,zam,wk]
 ·simp only [xq_,hlt,f0,e1,zam,wk]
theorem adV {P:Int->Nat->Option Opn}{first:Int->List Int}{c:Cfg}(h1:c.aH=1){q:Nat}(hq:q < b):∀(j i:Nat) {H:ah} {g:bD} {m:bW} {k:Nat} {n:Node} {N:Int},i+j=700->Solo b H g S m i->aiq P first c m i k->k<=j->H.get q=.blk 0 26 c.av->m.aH=[n]->n.num=N->0<=N->N<=i->(n.aF.step≠0->n.aF.id=N - 1)->
  ∃H',JC cl [.ref q 0 0,.ref S.f 0 0,.ref S.t 0 0,.ref (S.a 0) 0 0,I N,B (!decide (n.aF.step=0)),I i] H=some (B true,H'):=by
 intro j
 induction j with
 | zero=>
  intro i H g m k n N hi R D hk hcf hn hN n0 n1 hid;have hd:m.Xz=n.aF:=by unfold bW.Xz;rw [hn];rfl
  have hs:n.aF.step=0:=Classical.byContradiction λh=> by
   have:=(D.turn h1 (QK (by rw [hd];exact h))).1;omega
  have hl:m.left<=0:=Classical.byContradiction λh=> by
   have:=(D.turn h1 (VK (by omega))).1;omega
  rw [hs];exact QL R hl
 | succ j ih=>
  intro i H g m k n N hi R D hk hcf hn hN n0 n1 hid;have hd:m.Xz=n.aF:=by unfold bW.Xz;rw [hn];rfl
  by_cases hor:¬(0 < m.left∨n.aF.step≠0)
  ·have hs:n.aF.step=0:=Classical.byContradiction λh=> hor (.inr h);rw [hs];exact QL R (by omega)
  have hor:=Classical.not_not.1 hor;have ho:m.over=false:=by
   rcases hor with h | h
   ·exact VK h
   ·exact QK (by rw [hd];exact h)
  obtain⟨k0,D1⟩:=D.turn h1 ho;obtain⟨n',hn',Tn⟩:=D.turned h1 hn;have f0:=R.bG;have e1:=R.left;have hlt:(i:Int) < 700:=by omega
  obtain⟨K1,g1,a1,R1,_,S1⟩:=R.step (by omega);have a2:=R1.aF hn';obtain⟨K2,s2,R2,l2,S2⟩:=R1.arj (ty:=44) (xs:=[zI,zI,zI,zI,zI,zI,zN,zI,zI]) (ys:=(if n'.aF.step=0 then bJ.zero else n'.aF).av) (n:=9) rfl (apG _) (by decide) rfl (bF _);have a3:=R2.under;obtain⟨K3,g3,a4,R3,_,S3⟩:=R2.deliver (at_:=0) (bit:=0) (mask:=0) J5 J5 (by decide) (by decide);have aqf:K2.get q=.blk 0 26 c.av:=by rw [S2.low q hq,S1.low q hq];exact hcf
  have ark:K3.get q=.blk 0 26 c.av:=by rw [S3.low q hq];exact aqf
  have lc:ld (.ref q 0 1) K2=some (I c.bg,K2):=by rw [gu aqf];rfl
  have h6:(i:Int)+1=((i+1:Nat):Int):=by omega
  have h7:=wrap_i64 (a:=((i+1:Nat):Int)) (by omega) (by omega);have hn3:((m.step 0).1.deliver 0 0 0).1.aH=[n']:=hn'
  -- how it goes on
  have go:∀(o:Bool) (N':Int),(!decide (n'.aF.step=0))=o->n'.num=N'->0<=N'->N'<=(i+1:Nat)->(n'.aF.step≠0->n'.aF.id=N' - 1)->∃H',Pg cl (.ref q 0 0) (.ref S.f 0 0) (.ref S.t 0 0) (.ref (S.a 0) 0 0) (I N') (B o) (I i) K2=some (B true,H'):=λo N' xo x1 x2 x3 x4=> by
   subst xo;obtain⟨H',e⟩:=ih (i+1) (by omega) R3 D1 (by omega) ark hn3 x1 x2 x3 x4;refine⟨H',?_⟩;simp only [xq_,Pg,a4,dW,h6,h7,e]
  by_cases hnew:(m.step 0).2=4/\n'.aF.step≠0
  ·obtain⟨t0,t1,t2,t3,t4⟩:=Tn.new hnew.1 hnew.2;have hN1:n'.num=N+1:=by
    rw [t4,hN,Int.tmod_eq_of_lt (by omega) (by omega)]
   obtain⟨H',e⟩:=go true (N+1) (by rw [decide_eq_false hnew.2];rfl) hN1 (by omega) (by omega) (λ_=> by rw [t1,hN];omega);have hs':¬n'.aF.step=0:=hnew.2;rw [if_neg hs'] at a2 s2 l2;have v2:=l2 2 (I n'.aF.id) rfl;have v3:=l2 3 (I n'.aF.step) rfl;rw [t1,hN] at v2;rw [t2] at v3;rw [t3] at a3;rw [hnew.1] at a1;rw [decide_eq_false hs'] at a2;have w1:=wrap_i64 (a:=N+1) (by omega) (by omega);refine⟨H',?_⟩;rw [Ph,t0];have hl:0 < m.left:=by
    rcases hor with h | h
    ·exact h
    ·exact absurd t0 h
   simp only [Int.reduceEq,xq_,hlt,f0,e1,hl,a1,a2,s2,v2,v3,a3,zam,zae,dW,w1,e]
  ·obtain⟨q1,q2⟩:=Tn.old hnew;by_cases hend:(m.step 0).2=1/\n'.aF.step=0
   ·obtain⟨H',e⟩:=go false N (by rw [decide_eq_true hend.2];rfl) (by rw [q1,hN]) n0 (by omega) (λh=> absurd hend.2 h);rw [hend.2] at a2;rw [hend.1] at a1;rw [if_pos hend.2] at s2;refine⟨H',?_⟩;rw [Ph];rcases hor with h | h
    ·simp only [Int.reduceEq,xq_,hlt,f0,e1,h,a1,a2,s2,Int.reduceEq,zam,zae,e]
    ·by_cases hl:0 < m.left
     ·simp only [Int.reduceEq,xq_,hlt,f0,e1,hl,a1,a2,s2,Int.reduceEq,zam,zae,e]
     ·simp only [Int.reduceEq,xq_,hlt,f0,e1,hl,h,a1,a2,s2,Int.reduceEq,zam,zae,e]
   ·obtain⟨q3,q4⟩:=q2 hend;have nb:∀q:Bool,bi .neq 4 (B q) (B q)=some (B false):=λq=> by cases q <;> kernel_rfl
    by_cases hs':n'.aF.step=0
    ·have hs:n.aF.step=0:=Classical.byContradiction λh=> (q3.2 h) hs';have hl:0 < m.left:=by
      rcases hor with h | h
      ·exact h
      ·exact absurd hs h
     have hw1:¬(m.step 0).2=1:=λh=> hend ⟨h,hs'⟩;obtain⟨H',e⟩:=go false N (by rw [decide_eq_true hs'];rfl) (by rw [q1,hN]) n0 (by omega) (λh=> absurd hs' h);rw [hs'] at a2;rw [if_pos hs'] at s2;refine⟨H',?_⟩;rw [Ph,hs];by_cases hw4:(m.step 0).2=4
     ·simp only [Int.reduceEq,xq_,hlt,f0,e1,hl,a1,a2,s2,hw4,Int.reduceEq,zae,nb,e]
     ·simp only [xq_,hlt,f0,e1,hl,a1,a2,s2,hw4,hw1,zae,nb,e]
    ·have hs:¬n.aF.step=0:=q3.1 hs';have hw4:¬(m.step 0).2=4:=λh=> hnew ⟨h,hs'⟩;have aqg:n'.aF.id=N - 1:=by rw [q4 hs'];exact hid hs
     obtain⟨g1,g2⟩:=Tn.aj hs';obtain⟨H',e⟩:=go true N (by rw [decide_eq_false hs'];rfl) (by rw [q1,hN]) n0 (by omega) (λ_=> aqg);rw [if_neg hs'] at a2 s2 l2;have v1:=l2 1 (I n'.aF.aj) rfl;have v2:=l2 2 (I n'.aF.id) rfl;rw [aqg] at v2;rw [decide_eq_false hs'] at a2;have w1:=wrap_i64 (a:=N - 1) (by omega) (by omega);have x1:¬n'.aF.aj < 0:=by omega
     have x2:¬n'.aF.aj≥c.bg:=by omega
     refine⟨H',?_⟩;rw [Ph,decide_eq_false hs];by_cases hl:0 < m.left
     ·by_cases hw1:(m.step 0).2=1
      ·simp only [Int.reduceEq,xq_,hlt,f0,e1,hl,a1,a2,s2,hw1,Int.reduceEq,zam,zae,nb,v2,jw,w1,v1,x1,lc,x2,e]
      ·simp only [xq_,hlt,f0,e1,hl,a1,a2,s2,hw4,hw1,zam,zae,nb,v2,jw,w1,v1,x1,lc,x2,e]
     ·by_cases hw1:(m.step 0).2=1
      ·simp only [Int.reduceEq,xq_,hlt,f0,e1,hl,a1,a2,s2,hw1,Int.reduceEq,zam,zae,nb,v2,jw,w1,v1,x1,lc,x2,e]
      ·simp only [xq_,hlt,f0,e1,hl,a1,a2,s2,hw4,hw1,zam,zae,nb,v2,jw,w1,v1,x1,lc,x2,e]
end
theorem Bh(c:Cfg)(zw zk za zv:List Int):∀i,∀l∈kF c zw zk za zv i,l.length<=i
 | 0,l,h=> by
  rw [zca h];decide
 | i+1,l,h=> by
  simp only [kF,jr] at h;split at h
  ·rename_i hl;rcases zbL h with h | rfl
   ·have:=Bh c zw zk za zv i l h;omega
   ·rw [zao];have:((kF c zw zk za zv i).getD (dP (atM zw i) c.aH).toNat []).length<=i:=by
     rw [zas];cases hg:(kF c zw zk za zv i)[(dP (atM zw i) c.aH).toNat]? with
     | none=> exact zaS _
     | some l'=> exact Bh c zw zk za zv i l' (zav hg)
    simp only [zal,zan];omega
  ·have:=Bh c zw zk za zv i l h;omega
theorem adW {l:List Opn}{c:Cfg}(hc:c.aH=1)(hl:l.length<=24)(h:∀o∈l,c.right o=true):c.Wq [l]=true:=by
 have:l.all c.right=true:=zaZ.2 h;simp only [Cfg.Wq,zcT,zdn,this,decide_eq_true hl,zal,zan,hc];rfl
theorem amW {c:Cfg}(h:c.ok=true):(⟨1,c.bg,c.dh,c.sets,c.ways,c.out,c.inn,c.init⟩:Cfg).ok=true:=by
 unfold Cfg.ok at h ⊢;simp only [zah] at h ⊢;exact⟨⟨⟨⟨⟨⟨⟨⟨rfl,rfl⟩,h.1.1.1.1.1.1.2⟩,h.1.1.1.1.1.2⟩,h.1.1.1.1.2⟩,h.1.1.1.2⟩,h.1.1.2⟩,h.1.2⟩,h.2⟩
theorem Nz {s:mG}{zi zw zk za zv:List Int}(h:s.Ok zi zw zk za zv)(hi:aN ah.empty s.init 1 zi.length (zi.map I))(hw:aN ah.empty s.who 1 zw.length (zw.map I))(hk:aN ah.empty s.kinds 1 zk.length (zk.map I))(ha:aN ah.empty s.oD 1 za.length (za.map I))(hv:aN ah.empty s.bf 1 zv.length (zv.map I))
  (hc:s.init.aQ=true/\s.who.aQ=true/\s.kinds.aQ=true/\s.oD.aQ=true/\s.bf.aQ=true):
  ∃H',cl 4 [.agg s.cells] ah.empty=some (B true,H'):=by
 have hall:s.cells.all AV.aQ=true:=by
  simp only [mG.cells,zcT,zdn,hc,zc7];rfl
 let H1:=ah.empty.new (.blk 0 24 s.cells);let c:=s.cfg zi;let ps:=uO c zw zk za zv 16;let c1:Cfg:=⟨1,c.bg,c.dh,c.sets,c.ways,c.out,c.inn,c.init⟩
 let ops:=ps.getD 0 [];obtain⟨H3,hH3⟩:∃x,x=H1.new (.blk 0 26 c1.av):=⟨_,rfl⟩
 have hck:c.ok=true:=afP s zi;have hck1:c1.ok=true:=amW hck;have hvz:∀z∈zv,vT z:=λz hz=> anI (h.bf.wf z hz);have hiz:∀z∈c.init,vT z:=λz hz=> anI (h.init.wf z (zcu hz));have hlen:ps.length=c.aH.toNat:=qJ _ _ _ _ _ _;have h0:=(mM hck).1;have hps0:0 < ps.length:=by omega
 have hg:ps[0]?=some ops:=by
  show ps[0]?=some (ps.getD 0 []);rw [zas,zab hps0];rfl
 have hmem:ops∈ps:=zav hg;have hol:ops.length<=16:=by
  have:=Bh c zw zk za zv _ ops hmem;omega
 have hright:∀o∈ops,c1.right o=true/\I64 o.value:=AZ hck zw zk za zv hvz _ ops hmem;have X:MX 0 (.new c1 [ops]):=af2 hck1 hiz (adW rfl (by omega) λo ho=> (hright o ho).1) (λl hl=> by rw [zaO.1 hl];exact hright);have e1:=λH=> PW H h hi hc;have e2:∀H,cl 8 [.agg s.cells,I 16] H=some (.vs ps.length 1 (ps.map (vsl 3 Opn.av)),H):=λH=> by
  obtain⟨ps',arl,e⟩:=SK H h hi hw hk ha hv hc (mo:=16) (by decide);rw [arl] at e;exact e
 obtain⟨K1,f,K2,t,P,a1,a2,n2,g2,g1,n1,nd⟩:=J7 H3 (by rw [hH3];exact zaS _) (c:=c1) hck1 rfl (l:=ops) (by omega) X;obtain⟨K3,ad,g,a3,R,g3⟩:=nd K2 (.inl rfl) (vsl 3 Opn.av ops) (F9 fG K2 ops) (λe=> by rw [e];exact gI);have hn3:H3.next=2:=by rw [hH3];rfl
 have b3:H3.get 1=.blk 0 26 c1.av:=by rw [hH3];exact bC rfl
 have b0:H3.get 0=.blk 0 24 s.cells:=by
  rw [hH3,eG (by show 0 < 1;decide)];exact bC rfl
 have l1:lda 8 (.ref (ah.empty.next+1) 0 0) H3=some (.agg c1.av,H3):=(gZ (off:=0) (n:=8) b3 (zac 8)).trans rfl;have l2:lda 8 (.ref (ah.empty.next+1) 0 0) K2=some (.agg c1.av,K2):=(gZ (off:=0) (n:=8) (xs:=c1.av) ((g2 _ (by rw [hn3];decide)).trans b3) (zac 8)).trans rfl;have l3:lda 12 (.ref ah.empty.next 0 0) K2=some (.agg s.cells,K2):=(gZ (off:=0) (n:=12) (xs:=s.cells) ((g2 _ (by rw [hn3];decide)).trans b0) (zac 12)).trans rfl;have hS:aN K2 (.vs ps.length 1 (ps.map (vsl 3 Opn.av))) 1 ps.length (ps.map (vsl 3 Opn.av)):=aN.vs (by simp);have ix_:=hS.ix (k:=.i64) (i:=0) (zbi 0) (by omega);have ld_:=hS.ld hps0
 replace ix_:ix 1 (.vs ps.length 1 (ps.map (vsl 3 Opn.av))) (I 0) K2=some (eP (.vs ps.length 1 (ps.map (vsl 3 Opn.av))) 0,K2):=ix_
 rw [zaM,hg,zak,zak] at ld_;have hn4:K3.base<=K3.next:=zax R.base R.good.1
 have D:=adT hck1 rfl X;have c3:K3.get 1=.blk 0 26 c1.av:=by
  rw [g3 1 (by omega),g2 1 (by omega)];exact b3
 obtain⟨H',e⟩:=adV (b:=H3.next) (c:=c1) rfl (q:=1) (by rw [hn3];decide) 700 0 (by decide) R D (by omega) c3 (n:=.new c1 0 ops) (N:=0) rfl rfl (zbi 0) (zbi 0) (λh=> absurd rfl h);have e':JC cl [.ref (ah.empty.next+1) 0 0,.ref f 0 0,.ref t 0 0,.ref (ad 0) 0 0,I 0,B false,I 0] K3=some (B true,H'):=e;have ls:s.cells.length=12:=rfl;have lt:s.cells.take 12=s.cells:=rfl;have nf:bi .eql 31 (.ref f 0 0) zP=some (B false):=by kernel_rfl
 have nt:bi .eql 33 (.ref t 0 0) zP=some (B false):=by kernel_rfl
 have nn:bi .eql 35 (.ref (ad 0) 0 0) zP=some (B false):=by kernel_rfl
 have hb0:ah.empty.base<=ah.empty.next+1:=by decide
 have hx3:(ah.empty.new (.blk 0 24 s.cells)).new (.blk 0 26 (I 1::List.drop 1 (s.cfg zi).av))=H3:=hH3.symm;refine⟨H',bI rfl rfl (aqA _ _ _ ?_)⟩;simp only [Nat.reduceLT,Nat.reduceAdd,Nat.reduceLeDiff,aW,xq_,hq_,apV,aG hall,ls,lt,e1,hb0,hx3,l1,a1,a2,l2,l3,e2,ix_,ld_,a3,nf,nt,nn,e']
end
end Go.Proofs.YtljogojaihgdlaaGreat
