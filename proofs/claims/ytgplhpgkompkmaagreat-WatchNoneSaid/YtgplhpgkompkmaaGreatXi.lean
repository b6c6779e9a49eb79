/-
  Own work: an interpreter over named blocks, its soundness, and what the functions of this seat compute (part 9 of 10).
  Conditions: those of the statement alone.
-/
import Derived.Test.YtgplhpgkompkmaaGreatXh
set_option linter.all false
set_option linter.unusedSectionVars false
set_option linter.unusedVariables false
set_option linter.unusedSimpArgs false
namespace Go.Proofs.YtgplhpgkompkmaaGreat
noncomputable section
def bH.jl(m:bH)(L:Int):pG:=λj=> (m.dG j).bind λn=> n.aC.find L
def bH.kV(m:bH)(L:Int):Home:=match m.dG (m.c.aQ L) with
 | some n=> n.home
 | none=> ⟨[],⟨[],[]⟩⟩
def bH.nG(m:bH)(j:Int):dL:=match m.dG j with
 | some n=> n.aF
 | none=> .zero
def bH.abs(m:bH)(msg:Int->Out)(val:Int->List Int):Abs:=
 ⟨m.jl,λL=> jg (m.kV L).dF L,λL=> (m.kV L).aT.owner L,λL=> (m.kV L).aT.ws L,m.nG,msg,val⟩
structure GInv(m:bH)(msg:Int->Out)(val:Int->List Int):Prop where
 abs:lN m.c (m.abs msg val)
 pk:oG m.fab msg
def bH.with_(m:bH)(i:Nat)(n:Node)(f:Fab)(t:List Evn):bH:={ m with au:=m.au.set i n,fab:=f,trace:=t }
section
variable {m:bH}{i:Nat}{n n':Node}{f:Fab}{t:List Evn}{msg msg':Int->Out}{val val':Int->List Int}
theorem x9(h:m.au[i]?=some n):m.dG i=some n:=by
 unfold bH.dG;rw [if_pos (by omega),zao];exact h
theorem yc(h:m.au[i]?=some n)(j:Int):(m.with_ i n' f t).dG j=if j=i then some n' else m.dG j:=by
 have hlt:=(zah.1 h).1;unfold bH.dG bH.with_;simp only;by_cases hj:j=i
 ·rw [if_pos hj,hj,if_pos (by omega),zao,zba hlt]
 ·rw [if_neg hj];by_cases h0:0<=j
  ·rw [if_pos h0,if_pos h0,zbg (by omega)]
  ·rw [if_neg h0,if_neg h0]
theorem EF(h:m.au[i]?=some n)(L:Int):(m.with_ i n' f t).jl L=lM (m.jl L) i (n'.aC.find L):=by
 funext j
 unfold bH.jl;rw [yc h];by_cases hj:j=i
 ·rw [if_pos hj,hj,dZ];rfl
 ·rw [if_neg hj,dN hj]
theorem zq(h:m.au[i]?=some n):(m.with_ i n' f t).nG=bT m.nG i n'.aF:=by
 funext j
 unfold bH.nG;rw [yc h];by_cases hj:j=i
 ·rw [if_pos hj,hj,aB]
 ·rw [if_neg hj,aI hj]
theorem uz(h:m.au[i]?=some n)(L:Int):(m.with_ i n' f t).kV L=if m.c.aQ L=i then n'.home else m.kV L:=by
 unfold bH.kV;have hc:(m.with_ i n' f t).c=m.c:=rfl;rw [yc h,hc];by_cases hj:m.c.aQ L=i
 ·rw [if_pos hj,if_pos hj]
 ·rw [if_neg hj,if_neg hj]
theorem mG(h:m.au[i]?=some n){L:Int}(hL:m.c.aQ L=i):m.kV L=n.home:=by
 unfold bH.kV;rw [hL,x9 h]
theorem pF(h:m.au[i]?=some n)(L:Int):m.jl L i=n.aC.find L:=by
 unfold bH.jl;rw [x9 h];rfl
theorem jL(h:m.au[i]?=some n):m.nG i=n.aF:=by
 unfold bH.nG;rw [x9 h]
theorem ou(h:m.au[i]?=some n)(hh:n'.home=n.home){L:Int}(hc:∀L',L'≠L->n'.aC.find L'=n.aC.find L'):
  (m.with_ i n' f t).abs msg' val'={ m.abs msg val with ent:=bT m.jl L (lM (m.jl L) i (n'.aC.find L)),aF:=bT m.nG i n'.aF,msg:=msg',val:=val' }:=by
 have hH:∀L,(m.with_ i n' f t).kV L=m.kV L:=λL=> by
  rw [uz h];by_cases hL:m.c.aQ L=i
  ·rw [if_pos hL,hh,mG h hL]
  ·rw [if_neg hL]
 have hE:(m.with_ i n' f t).jl=bT m.jl L (lM (m.jl L) i (n'.aC.find L)):=by
  funext L'
  rw [EF h];by_cases hL:L'=L
  ·rw [hL,aB]
  ·rw [aI hL,hc L' hL,<-pF h L',ku]
 unfold bH.abs;simp only [hH,hE,zq h]
theorem BL(h:m.au[i]?=some n)(hc:∀L,n'.aC.find L=n.aC.find L)(hd:n'.aF=n.aF){L:Int}(hL:m.c.aQ L=i)(hr:∀L',L'≠L->jg n'.home.dF L'=jg n.home.dF L')(ho:∀L',L'≠L->n'.home.aT.owner L'=n.home.aT.owner L')(hw:∀L',L'≠L->n'.home.aT.ws L'=n.home.aT.ws L'):
  (m.with_ i n' f t).abs msg' val={ m.abs msg val with row:=bT (m.abs msg val).row L (jg n'.home.dF L),own:=bT (m.abs msg val).own L (n'.home.aT.owner L),ws:=bT (m.abs msg val).ws L (n'.home.aT.ws L),msg:=msg' }:=by
 have hE:(m.with_ i n' f t).jl=m.jl:=by
  funext L'
  rw [EF h,hc,<-pF h L',ku]
 have hD:(m.with_ i n' f t).nG=m.nG:=by
  rw [zq h,hd,<-jL h]
  funext j
  by_cases hj:j=i
  ·rw [hj,aB]
  ·rw [aI hj]
 have h1:(λL'=> jg ((m.with_ i n' f t).kV L').dF L')=bT (λL=> jg (m.kV L).dF L) L (jg n'.home.dF L):=by
  funext L'
  rw [uz h];by_cases e:L'=L
  ·rw [e,if_pos hL,aB]
  ·rw [aI e];by_cases e':m.c.aQ L'=i
   ·rw [if_pos e',hr L' e,mG h e']
   ·rw [if_neg e']
 have h2:(λL'=> ((m.with_ i n' f t).kV L').aT.owner L')=bT (λL=> (m.kV L).aT.owner L) L (n'.home.aT.owner L):=by
  funext L'
  rw [uz h];by_cases e:L'=L
  ·rw [e,if_pos hL,aB]
  ·rw [aI e];by_cases e':m.c.aQ L'=i
   ·rw [if_pos e',ho L' e,mG h e']
   ·rw [if_neg e']
 have h3:(λL'=> ((m.with_ i n' f t).kV L').aT.ws L')=bT (λL=> (m.kV L).aT.ws L) L (n'.home.aT.ws L):=by
  funext L'
  rw [uz h];by_cases e:L'=L
  ·rw [e,if_pos hL,aB]
  ·rw [aI e];by_cases e':m.c.aQ L'=i
   ·rw [if_pos e',hw L' e,mG h e']
   ·rw [if_neg e']
 unfold bH.abs;simp only [hE,hD,h1,h2,h3]
end
theorem XD {c:Cfg}(hc:c.ok=true){i:Int}(hi:0<=i/\i < c.au){k L id:Int}(hL:0<=L/\L < c.aG)(hid:0<=id/\id < 4096):((dL.begin k L id).ask i (c.aQ L)).ok=true/\wQ ((dL.begin k L id).ask i (c.aQ L)).aS=true/\((dL.begin k L id).ask i (c.aQ L)).src=i/\0<=((dL.begin k L id).ask i (c.aQ L)).dst/\((dL.begin k L id).ask i (c.aQ L)).dst < c.au:=by
 obtain⟨h1,h2,_⟩:=jY hc;have hh:0<=c.aQ L/\c.aQ L < c.au:=by
  unfold Cfg.aQ sO;rw [if_neg (by omega)];exact⟨zbq _ (by omega),zbw _ (by omega)⟩
 have e:(dL.begin k L id).ask i (c.aQ L)=⟨1,i,c.aQ L,id,L,0,0,false,[]⟩:=rfl;rw [e];refine⟨?_,rfl,rfl,hh.1,hh.2⟩;simp only [Pkt.ok,zae,decide_eq_true_eq,zak];omega
theorem Gx {c:Cfg}(hc:c.ok=true){L:Int}(hL:0<=L):0<=c.aQ L/\c.aQ L < c.au:=by
 obtain⟨h1,_⟩:=jY hc;unfold Cfg.aQ sO;rw [if_neg (by omega)];exact⟨zbq _ (by omega),zbw _ (by omega)⟩
theorem aej {c:Cfg}(hc:c.ok=true){i:Int}(hi:0<=i/\i < c.au){E:pG}{r:Row}{v:List Int}{d:dL}(H:Hold c.au (c.aQ d.aj) E r v i d (.req (d.ask i (c.aQ d.aj))))(hL:0<=d.aj/\d.aj < c.aG)(hid:0<=d.id/\d.id < 4096)(hd:d.data.length<=4):
  (d.ask i (c.aQ d.aj)).ok=true/\wQ (d.ask i (c.aQ d.aj)).aS=true/\(d.ask i (c.aQ d.aj)).src=i/\0<=(d.ask i (c.aQ d.aj)).dst/\(d.ask i (c.aQ d.aj)).dst < c.au:=by
 obtain⟨h1,h2,_⟩:=jY hc;have hh:=Gx hc hL.1;have last:∀{l:List Int},Rng c.au l->l≠[]->0<=lH l (-1)/\lH l (-1) < c.au:=λR hl=> R.2 _ (Et hl);have akJ:∀{l:List Int},Rng c.au l->-1<=lH l (-1)/\lH l (-1) < c.au:=λ{l} R=> by
  by_cases hl:l=[]
  ·rw [hl];exact⟨zbe _,by show(-1:Int) < c.au;omega⟩
  ·have:=last R hl;omega
 have hd_:∀{l:List Int},Rng c.au l->l≠[]->0<=hdI l (-1)/\hdI l (-1) < c.au:=λR hl=> R.2 _ (R.hd hl).1;have hdo:∀{l:List Int},Rng c.au l->-1<=hdI l (-1)/\hdI l (-1) < c.au:=λ{l} R=> by
  by_cases hl:l=[]
  ·rw [hl];exact⟨zbe _,by show(-1:Int) < c.au;omega⟩
  ·have:=hd_ R hl;omega
 have hq:∃q,Out.req (d.ask i (c.aQ d.aj))=q/\Hold c.au (c.aQ d.aj) E r v i d q:=⟨_,rfl,H⟩
 obtain⟨q,hq,H⟩:=hq;cases H with
 | attach k1 k2 k3 k4 W=>
  have:=hd_ W.rng k3;have e:d.ask i (c.aQ d.aj)=⟨3,i,d.head,d.id,d.aj,i,0,false,[]⟩:=by unfold dL.ask;simp [k1]
  rw [e];refine⟨?_,rfl,rfl,by show 0<=d.head;omega,by show d.head < c.au;omega⟩;simp only [Pkt.ok,zae,decide_eq_true_eq,zak];omega
 | EX k1 k2 L k3 k4=>
  have:=L.rng.2 d.next (by simp)
  have e:d.ask i (c.aQ d.aj)=⟨6,i,d.next,d.id,d.aj,0,0,false,[]⟩:=by unfold dL.ask;simp [k1]
  rw [e];refine⟨?_,rfl,rfl,by show 0<=d.next;omega,by show d.next < c.au;omega⟩;simp only [Pkt.ok,zae,decide_eq_true_eq,zak];omega
 | front k1 k2 M k3 C k4 k5 k6=>
  obtain⟨_,_,_,p1,p2,_⟩:=M.rng.mid;have:=last p1 k3;have:=hdo p2;have e:d.ask i (c.aQ d.aj)=⟨4,i,d.head,d.id,d.aj,d.next,0,false,[]⟩:=by unfold dL.ask;simp [k1]
  rw [e];refine⟨?_,rfl,rfl,by show 0<=d.head;omega,by show d.head < c.au;omega⟩;simp only [Pkt.ok,zae,decide_eq_true_eq,zak];omega
 | behind k1 k2 M k3 C C' k4 k5 k6=>
  obtain⟨_,_,_,p1,p2,_⟩:=M.rng.mid;have:=akJ p1;have:=hd_ p2 k3;have e:d.ask i (c.aQ d.aj)=⟨5,i,d.next,d.id,d.aj,d.head,0,false,[]⟩:=by unfold dL.ask;simp [k1]
  rw [e];refine⟨?_,rfl,rfl,by show 0<=d.next;omega,by show d.next < c.au;omega⟩;simp only [Pkt.ok,zae,decide_eq_true_eq,zak];omega
 | unlock k1 W=>
  have:=hdo W.rng;have h3:d.head=_:=W.head;have h4:d.aW=0∨d.aW=1∨d.aW=2:=W.st;have e:d.ask i (c.aQ d.aj)=⟨2,i,c.aQ d.aj,d.id,d.aj,d.head,d.aW,decide (d.data≠[]),d.data⟩:=by unfold dL.ask;simp [k1]
  rw [e];refine⟨?_,rfl,rfl,hh.1,hh.2⟩;simp only [Pkt.ok,zae,decide_eq_true_eq];omega
 | granted _ _=> cases hq
 | attached _ _ _ _ _ _ _ _ _ _=> cases hq
 | Eu _ _ _ _ _=> cases hq
 | wB _ _ _ _ _ _ _ _ _=> cases hq
 | qY _ _ _ _ _ _ _ _ _=> cases hq
def lJ(c:Cfg)(o:Opn)(val:Int->List Int):(Int->List Int) × Int:=
 let L:=c.bn o.addr;let w:=(c.bM o.addr).toNat
 if o.aS=1 then(val,(val L).getD w 0)
 else if o.aS=2 then(bT val L ((val L).set w o.value),0)
 else if o.aS=3 then(bT val L ((val L).set w (w64 ((val L).getD w 0+o.value))),(val L).getD w 0)
 else(val,0)
inductive Ar (c:Cfg) (P:Int->Nat->Option Opn):List Evn->(Int->List Int)->List Evn->(Int->List Int)->Prop
 | same {t:List Evn} {v:Int->List Int}:Ar c P t v t v
 | eG {t t':List Evn} {v v':Int->List Int} (i:Int) (k:Nat):Ar c P t v t' v'->Ar c P t v (t'++[⟨i,k,false,0⟩]) v'
 | done {t t':List Evn} {v v':Int->List Int} (i:Int) (k:Nat) (o:Opn):P i k=some o->Ar c P t v t' v'->Ar c P t v (t'++[⟨i,k,true,(lJ c o v').2⟩]) (lJ c o v').1
def bH.opAt(m:bH)(i:Int)(k:Nat):Option Opn:=match m.dG i with
 | some n=> n.bW.ops[k]?
 | none=> none
theorem XE {c:Cfg}{o:Opn}{e:Ent}{val:Int->List Int}(hk:o.aS=1∨((o.aS=2∨o.aS=3)/\e.bG=true))(hv:e.data=val (c.bn o.addr))(hw:0<=c.bM o.addr/\c.bM o.addr < e.data.length):
  (dS e o (c.bM o.addr)).data=(lJ c o val).1 (c.bn o.addr)/\(∀L,L≠c.bn o.addr->(lJ c o val).1 L=val L)/\(if o.aS=2 then 0 else e.word (c.bM o.addr))=(lJ c o val).2/\
  (dS e o (c.bM o.addr)).back=e.back/\(dS e o (c.bM o.addr)).fwd=e.fwd/\(dS e o (c.bM o.addr)).bG=e.bG/\(o.aS=1->dS e o (c.bM o.addr)=e):=by
 have hword:e.word (c.bM o.addr)=(val (c.bn o.addr)).getD (c.bM o.addr).toNat 0:=by
  unfold Ent.word;rw [if_pos hw,hv]
 unfold dS lJ;rcases hk with hk | ⟨hk | hk,hd⟩
 ·rw [if_neg (by omega),if_neg (by omega),if_pos hk,if_neg (by omega)];exact⟨hv,λ_ _=> rfl,hword,rfl,rfl,rfl,λ_=> rfl⟩
 ·have hwr:∀x,e.write (c.bM o.addr) x={ e with data:=e.data.set (c.bM o.addr).toNat x }:=λx=> by
   unfold Ent.write;rw [if_pos ⟨hd,hw⟩]
  rw [if_pos hk,if_neg (by omega),if_pos hk,if_pos hk,hwr];exact⟨by simp only [aB,hv],λL hL=> aI hL,rfl,rfl,rfl,rfl,λh=> by omega⟩
 ·have hwr:∀x,e.write (c.bM o.addr) x={ e with data:=e.data.set (c.bM o.addr).toNat x }:=λx=> by
   unfold Ent.write;rw [if_pos ⟨hd,hw⟩]
  rw [if_neg (by omega),if_pos hk,if_neg (by omega),if_neg (by omega),if_pos hk,if_neg (by omega),hwr,hword];exact⟨by simp only [aB,hv],λL hL=> aI hL,rfl,rfl,rfl,rfl,λh=> by omega⟩
def bH.isL(m:bH)(L:Int):Bool:=decide (0<=L) && decide (L < m.c.aG)
def bH.ids(m:bH):List Int:=(List.range m.au.length).map λi:Nat=> (i:Int)
def bH.copies(m:bH)(L:Int):List Int:=m.ids.filter λi=> (m.jl L i).isSome && m.isL L
def bH.rP(m:bH)(L:Int):Row:=jg (m.kV L).dF L
def qx(E:pG):Nat->Int->List Int->Option (List Int)
 | 0,_,_=> none
 | k+1,at_,out=> if at_=-1 then some out else match E at_ with
  | none=> none
  | some e=> if at_∈out then none else qx E k e.fwd (out++[at_])
def bH.walk(m:bH)(L:Int):Option (List Int):=if m.isL L=true then qx (m.jl L) (m.au.length+1) (m.rP L).head [] else none
def bH.owner(m:bH)(L:Int):Int:=if m.isL L=true then(m.kV L).aT.owner L else -1
def EG:List Ent->Bool
 | [e]=> e.bG
 | _=> false
def uD(r:Row)(l:List Ent):Bool:=
 if r.aW=0 then decide (l=[]) else if r.aW=1 then decide (l≠[]) && !l.any (λe=> e.bG || decide (e.data≠r.data)) else
 EG l
def rJ(E:pG):Int->List Int->Option (List Ent)
 | _,[]=> some []
 | b,i::l=> if((E i).getD .zero).back≠b then none else(rJ E i l).map λes=> (E i).getD .zero::es
def bH.EH(m:bH)(L:Int):Bool:=
 if m.isL L=false then true else match m.walk L with
 | none=> false
 | some w=> if srt [] w≠m.copies L then false else match rJ (m.jl L) (-1) w with
  | none=> false
  | some es=> uD (m.rP L) es
def bH.single(m:bH)(L:Int):Bool:=!(m.copies L).any (λi=> ((m.jl L i).getD .zero).bG) || decide ((m.copies L).length=1)
def bH.Af(m:bH)(L:Int)(w:List Int):Bool:=
 (m.copies L).all (λi=> decide (((m.jl L i).getD .zero).data=w)) && (decide ((m.rP L).aW=2) || decide (m.owner L≠-1) || decide ((m.rP L).data=w))
section
variable {E:pG}{N:Int}
theorem Ro:∀{k:Nat} {a:Int} {out w:List Int},qx E k a out=some w->out.Nodup->(∀i∈out,∃e,E i=some e)->w.Nodup/\∀i∈w,∃e,E i=some e
 | 0,_,_,_,h,_,_=> by cases h
 | k+1,a,out,w,h,hn,he=> by
  unfold qx at h;split at h
  ·cases h;exact⟨hn,he⟩
  ·split at h
   ·cases h
   ·rename_i e h1;split at h
    ·cases h
    ·rename_i h2;refine Ro h (zbj.2 ⟨hn,by simp,λx hx y hy=> ?_⟩) λi hi=> ?_
     ·rw [zaI.1 hy];intro e;exact h2 (e ▸ hx)
     ·rcases zaO.1 hi with h' | h'
      ·exact he i h'
      ·rw [zaI.1 h'];exact⟨e,h1⟩
theorem L8:∀{l:List Int} {k:Nat} {b:Int} {out:List Int},Chn E b l (-1)->(∀i∈l,i≠-1)->(out++l).Nodup->l.length < k->qx E k (hdI l (-1)) out=some (out++l)
 | [],0,_,_,_,_,_,h=> by simp at h
 | [],k+1,_,_,_,_,_,_=> by simp [qx,hdI]
 | i::l,0,_,_,_,_,_,h=> by simp at h
 | i::l,k+1,b,out,⟨⟨e,h1,_,h3⟩,hc⟩,hn,hd,hk=> by
  have hi:=hn i (by simp);have hm:i∉out:=λh=> (zbj.1 hd).2.2 i h i (by simp) rfl;show qx E (k+1) i out=_;unfold qx;rw [if_neg hi];simp only [h1];rw [if_neg hm,h3,L8 hc (λj hj=> hn j (by simp [hj])) (by simpa using hd) (by simpa using hk)];simp
theorem Gy:∀{l:List Int} {b x:Int},Chn E b l x->rJ E b l=some (l.map λi=> (E i).getD .zero)
 | [],_,_,_=> rfl
 | i::l,b,x,⟨⟨e,h1,h2,_⟩,hc⟩=> by
  unfold rJ;rw [h1,zax,if_neg (by simp [h2]),Gy hc];simp [h1]
end
section
variable {b:Nat}{H:ah}{g:bJ}{A:Adr}{m:bH}{T:Nat}
structure akK(n:Node):Prop where
 aC:n.aC.l.length < 1000000
 ents:∀e∈n.aC.l,e.data.length < 1000000000
 dF:∀e∈n.home.dF,e.2.data.length < 1000000000
theorem MX.XF(X:MX T m){i:Nat}{n:Node}(hn:m.au[i]?=some n):akK n:=by
 have I:=X.inv.dG i n hn;have h1:=ZJ X.inv.ok I.aC;have h2:=I.aC.le X.inv.ok;refine⟨by omega,λe he=> by have:=h2 e he;omega,λe he=> ?_⟩;have:=(I.dF e he).1;have:=(jY X.inv.ok).2.2.1;omega
theorem MX.len(X:MX T m):(m.au.length:Int)=m.c.au/\m.au.length < 1000:=by
 have:=X.inv.len;have:=(uo X.inv.ok).au;omega
theorem Rq(G:Good b H g)(M:fG g A m)(X:MX T m)(L:Int):cl 37 [.ref A.iV 0 0,I L] H=some (B (m.isL L),H):=by
 refine bC rfl rfl (ajw _ _ _ _) ?_ fP;have e1:=kT G.guard M X.inv.ok;have l1:m.c.av[1]?=some (I m.c.aG):=rfl;unfold bH.isL;by_cases h0:0<=L
 ·simp only [xq_,ade,h0,e1,l1,zaG]
 ·simp only [xq_,ade,h0,zaF]
theorem XG(X:MX T m){L:Int}(h:m.isL L=true):0<=m.c.aQ L/\m.c.aQ L < m.au.length/\0<=L/\L < m.c.aG:=by
 unfold bH.isL at h;simp only [zae,decide_eq_true_eq] at h;have B_:=(uo X.inv.ok).au;have hl:=X.inv.len;unfold Cfg.aQ sO;rw [if_neg (by omega)];have h1:=zbq L (by omega:m.c.au≠0);have h2:=zbw L (by omega:0 < m.c.au);omega
theorem Jw(G:Good b H g)(M:fG g A m)(X:MX T m){L:Int}(h:m.isL L=true):∃n,m.au[(m.c.aQ L).toNat]?=some n/\m.kV L=n.home/\cl 25 [.ref A.iV 0 0,I (m.c.aQ L)] H=some (.ref (A.N (m.c.aQ L).toNat 0) 0 0,H):=by
 obtain⟨h0,h1,_,_⟩:=XG X h;obtain⟨n,hn⟩:∃n,m.au[(m.c.aQ L).toNat]?=some n:=⟨_,zab (by omega)⟩
 have e:=Jf G M X.len.2 (m.c.aQ L);rw [if_pos ⟨h0,h1⟩] at e;refine⟨n,hn,?_,e⟩;unfold bH.kV bH.dG;rw [if_pos h0,hn]
theorem Rt {i:Int}{L:Int}{n:Node}(h0:0<=i)(hn:m.au[i.toNat]?=some n):m.jl L i=n.aC.find L:=by
 unfold bH.jl bH.dG;rw [if_pos h0,hn];rfl
theorem aek {i:Int}{L:Int}(h:¬(0<=i/\i < m.au.length)):m.jl L i=none:=by
 unfold bH.jl bH.dG;by_cases h0:0<=i
 ·rw [if_pos h0,zaN (by omega)];rfl
 ·rw [if_neg h0];rfl
theorem Pn(G:Good b H g)(M:fG g A m)(X:MX T m){L:Int}(h:m.isL L=true):cl 38 [.ref A.iV 0 0,I L] H=some (.agg (m.rP L).av,H):=by
 refine bC rfl rfl (ajx _ _ _ _) ?_ (vN (OU _));let H1:=H.guard.new (.blk 0 95 [zI,zI,zN]);have G1:Good b H1 g:=G.guard.new _;obtain⟨n,hn,hh,e3⟩:=Jw G1 M X h;have e1:=kT G1 M X.inv.ok;have e2:=D7 H1 m.c X.inv.ok L;have N:=M.dG _ n hn;have e4:=adW G1 N (X.XF hn).dF L;rw [<-hh] at e4;have e5:jg (m.kV L).dF L=m.rP L:=rfl;rw [e5] at e4;simp only [H1] at e1 e2 e3 e4;simp only [Nat.reduceAdd,aP,xq_,hq_,agi,e1,e2,e3,e4]
 try rfl
theorem EI(G:Good b H g)(M:fG g A m)(X:MX T m)(L:Int):cl 12 [.ref A.iV 0 0,I L] H=some (I (m.owner L),H):=by
 refine bC rfl rfl (ajl _ _ _ _) ?_ fP;have e0:=Rq G.guard M X L;unfold bH.owner;cases h:m.isL L with
 | false=>
  rw [h] at e0;simp only [Int.reduceNeg,xq_,ada,e0,zaB]
 | true=>
  rw [h] at e0;obtain⟨n,hn,hh,e3⟩:=Jw G.guard M X h;have e1:=kT G.guard M X.inv.ok;have e2:=D7 H.guard m.c X.inv.ok L;have e4:=WU G.guard (M.dG _ n hn) L;rw [<-hh] at e4;simp only [Int.reduceNeg,xq_,ada,e0,zar,e1,e2,e3,e4]
theorem BM(G:Good b H g)(M:fG g A m)(X:MX T m)(i L:Int):cl 39 [.ref A.iV 0 0,I i,I L] H=some (oh (m.jl L i),H):=by
 refine bC rfl rfl (ajy _ _ _ _ _) ?_ (Gq _);let H1:=H.guard.new (.blk 0 100 [zI,zI,zI,zI,zB,zN]);have G1:Good b H1 g:=G.guard.new _;have e3:=Jf G1 M X.len.2 i;by_cases hi:0<=i/\i < m.au.length
 ·obtain⟨n,hn⟩:∃n,m.au[i.toNat]?=some n:=⟨_,zab (by omega)⟩
  rw [if_pos hi] at e3;have N:=M.dG _ n hn;have l1:=G1.load N.1 (i:=0) (x:=.ref (A.N i.toNat 1) 0 0) rfl;have e4:=Ec G1 N.2.1 (X.XF hn).aC (X.XF hn).ents L;rw [<-Rt hi.1 hn] at e4;have z1:bi .eql 64 (.ref (A.N i.toNat 0) 0 0) zP=some (B false):=by kernel_rfl
  simp only [H1,oh] at l1 e3 e4;simp only [Nat.reduceAdd,aP,xq_,hq_,adf,e3,z1,l1,e4,oh,Ent.av]
  try rfl
 ·rw [if_neg hi] at e3;have z1:bi .eql 64 zP zP=some (B true):=by kernel_rfl
  rw [aek hi];simp only [H1] at e3;simp only [Nat.reduceAdd,aP,xq_,hq_,adf,e3,z1,aae,lD,nS,oh,BG,zcl,zbI]
  try rfl
def BN(b:Nat)(H:ah)(x:AV)(l:List Int):Prop:=Own b H x 1 (l.map I)/\(l=[]->x=zN)
theorem BN.nil(b:Nat)(H:ah):BN b H zN []:=⟨.inl ⟨rfl,rfl⟩,λ_=> rfl⟩
theorem BN.freeze {n:Nat}{H:ah}{x:AV}{l:List Int}(O:BN n H x l):bD H n 9 x=some (dat l):=by
 by_cases h:l=[]
 ·rw [O.2 h,h,dat,jo];exact jH
 ·rw [tq h];exact y8 O.1 (by decide) (by simp) (λy hy=> qV _ y hy _ _) λe=> h (zan e)
theorem BN.new {n:Nat}{H:ah}{x:AV}{l:List Int}(O:BN n H x l)(o:eP):BN n (H.new o) x l:=⟨O.1.new o,O.2⟩
theorem BN.push {n:Nat}{H:ah}{x:AV}{l:List Int}(O:BN n H x l)(hn:n<=H.next)(hb:H.base<=n)(hl:l.length < 1000)(v:Int):
  ∃y K,bs 22 1 [(0,I v)] H=some (.sl H.next 0 0 1 1 1 true,H.new (.blk 0 3 [I v]))/\app 3 1 8 x (.sl H.next 0 0 1 1 1 true) (H.new (.blk 0 3 [I v]))=some (y,K)/\BN n K y (l++[v])/\Step n H K/\∀r,r < H.next->jO x≠some r->K.get r=H.get r:=by
 have O1:=O.1.new (.blk 0 3 [I v]);have hx:aA (H.new (.blk 0 3 [I v])) (.sl H.next 0 0 1 1 1 true) 1 1 [I v]:=mJ rfl;have h1:l.length+1<=most:=by unfold most;omega
 have h2:(l.length+1)*8<=most:=by unfold most;omega
 obtain⟨y,K,c1,c2,c3⟩:=O1.step (n:=l.length) (k:=1) (e:=3) (by_:=8) (by rw [fC];omega) (by rw [oD];exact hb) (by decide) (by rw [zay,zbC]) hx rfl h1 h2;obtain⟨y2,K2,d1,_,_,_,d5⟩:=O1.app (n:=l.length) (k:=1) (e:=3) (by_:=8) (by rw [oD];exact hb) (by decide) (by rw [zay,zbC]) hx rfl h1 h2;rw [c1] at d1;cases d1;exact⟨y,K,(NU (by decide)).trans (nT rfl rfl rfl),c1,⟨by rw [zbb];exact c2,λh=> by simp at h⟩,(Step.new _ hn).trans c3,λr hr hne=> (d5 r (by rw [fC];omega) hne).trans (bg hr)⟩
def oP(m:bH)(L:Int)(j:Nat):List Int:=((List.range j).map λi:Nat=> (i:Int)).filter λi=> (m.jl L i).isSome && m.isL L
theorem tN(m:bH)(L:Int):oP m L m.au.length=m.copies L:=rfl
theorem Jy(m:bH)(L:Int)(j:Nat):oP m L (j+1)=oP m L j++if((m.jl L j).isSome && m.isL L)=true then [(j:Int)] else []:=by
 unfold oP;rw [zbV,zbb,zcs]
 congr 1
 simp only [zaA,zbz,zby,List.filter_nil]
theorem uF(m:bH)(L:Int)(j:Nat):(oP m L j).length<=j:=by
 unfold oP;refine zaC (zc0 _ _) ?_;simp
theorem uG(G:Good b H g)(M:fG g A m)(X:MX T m)(L:Int):cl 11 [.ref A.iV 0 0,I L] H=some (dat (m.copies L),H):=by
 have hl:=X.len;have key:∀k j,j+k=m.au.length->∀(H1:ah) (x:AV),Step H.next H.guard H1->BN H.next H1 x (oP m L j)->
   ∃H2 y,DN cl [.ref A.iV 0 0,I L,x,I m.c.au,I j] H1=some (y,H2)/\BN H.next H2 y (m.copies L):=by
  intro k
  induction k with
  | zero=>
   intro j hj H1 x s O;have hlt:¬(j:Int) < m.c.au:=by omega
   obtain rfl:j=m.au.length:=by omega
   refine⟨H1,x,?_,O⟩;rw [Oi];simp only [xq_,hlt]
  | succ k ih=>
   intro j hj H1 x s O;have hlt:(j:Int) < m.c.au:=by omega
   have G1:Good b H1 g:=G.guard.ext s.next s.low
   have hb1:H1.base=H.next:=s.base
   have hn1:H.next<=H1.next:=s.next
   obtain⟨n,hn⟩:∃n,m.au[j]?=some n:=⟨_,zab (by omega)⟩
   have e3:=Jf G1 M hl.2 (j:Int);rw [if_pos (by omega),zao] at e3;have N:=M.dG _ n hn;have l1:=G1.load N.1 (i:=0) (x:=.ref (A.N j 1) 0 0) rfl;have e4:=Ec G1 N.2.1 (X.XF hn).aC (X.XF hn).ents L;rw [<-Rt (i:=(j:Int)) (by omega) (by rw [zao];exact hn)] at e4;let H3:=H1.new (.blk 0 100 ((m.jl L j).getD .zero).av);have G3:Good b H3 g:=G1.new _;have e5:=Rq G3 M X L;have h6:(j:Int)+1=((j+1:Nat):Int):=by omega
   have h7:=wrap_i64 (a:=((j+1:Nat):Int)) (by omega) (by omega);have O3:BN H.next H3 x (oP m L j):=O.new _
   have s3:Step H.next H.guard H3:=s.trans (Step.new _ hn1)
   have hbn:H1.base<=H1.next:=by omega
   have st6:st 6 (.ref H1.next 0 0) (.agg ((m.jl L j).getD .zero).av) (H1.new (.blk 0 100 [zI,zI,zI,zI,zB,zN]))=some (aV,H3):=by
    rw [qc rfl];simp only [Nat.reduceAdd,aP,xq_,hq_,Ent.av,hbn];rfl
   have hcl:=Jy m L j;cases hs:(m.jl L j).isSome && m.isL L with
   | false=>
    rw [hs,if_neg (by decide),za7] at hcl;obtain⟨H2,y,r,O2⟩:=ih (j+1) (by omega) H3 x s3 (by rw [hcl];exact O3);refine⟨H2,y,?_,O2⟩;rw [Oi];cases hi:(m.jl L j).isSome with
    | false=>
     rw [oh,hi] at e4;simp only [xq_,hlt,e3,l1,e4,st6,DR,dB,h6,h7,r]
    | true=>
     rw [hi,zaG] at hs;rw [hs] at e5;rw [oh,hi] at e4;simp only [xq_,hlt,e3,l1,e4,st6,e5,DR,dB,h6,h7,r]
   | true=>
    rw [hs,if_pos rfl] at hcl;obtain⟨hi,hL⟩:=(zae _ _).mp hs;rw [hL] at e5;rw [oh,hi] at e4;have cl_:=uF m L j;obtain⟨y',H4,eb,c1,c2,c3,_⟩:=O3.push s3.next (by rw [s3.base];exact zac _) (by omega) (j:Int)
    rw [<-hcl] at c2;obtain⟨H2,y,r,O2⟩:=ih (j+1) (by omega) H4 y' (s3.trans c3) c2;refine⟨H2,y,?_,O2⟩;rw [Oi];simp only [xq_,hlt,e3,l1,e4,st6,e5,eb,c1,DR,dB,h6,h7,r]
 obtain⟨H2,y,r,O⟩:=key m.au.length 0 (by omega) H.guard zN (Step.refl _ _) (BN.nil _ _)
 replace r:DN cl [.ref A.iV 0 0,I L,zN,I m.c.au,I 0] H.guard=some (y,H2):=r
 have e1:=kT G.guard M X.inv.ok;have l0:m.c.av[0]?=some (I m.c.au):=rfl;refine iJ rfl rfl (ajk _ _ _ _ (r:=(y,H2)) ?_) O.freeze;simp only [xq_,af2,e1,l0,r]
end
theorem BO {N:Nat}{l:List Int}(hn:l.Nodup)(h:∀i∈l,0<=i/\i < N):l.length<=N:=by
 have e:∀(n:Nat) (l:List Int),l.Nodup->(∀x∈l,0<=x/\x < n)->l.length<=n:=by
  intro n
  induction n with
  | zero=>
   intro l _ h;cases l with
   | nil=> simp
   | cons a l=> have:=h a (by simp);omega
  | succ n ih=>
   intro l hn h;have h1:=ih (l.filter λx=> decide (x < n)) (hn.filter _) λx hx=> by
    have h2:=za6.1 hx;have:=h x h2.1;have:=of_decide_eq_true h2.2;omega
   by_cases hm:(n:Int)∈l
   ·have h1:=ih (l.erase (n:Int)) (hn.erase _) λx hx=> by
     have h2:=(hn.mem_erase_iff).1 hx;have:=h x h2.2;have:=h2.1;omega
    rw [List.length_erase_of_mem hm] at h1;omega
   ·have:=ih l hn λx hx=> by
     have:=h x hx;have:x≠(n:Int):=λe=> hm (by rw [<-e];exact hx);omega
    omega
 exact e N l hn h
section
variable {m:bH}{L:Int}{v l:List Int}
theorem ael {i:Int}:i∈m.ids↔0<=i/\i < m.au.length:=by
 unfold bH.ids;rw [zaD];constructor
 ·rintro⟨k,hk,rfl⟩;have:=zaY.1 hk;omega
 ·intro h;exact⟨i.toNat,zaY.2 (by omega),by omega⟩
theorem aij:m.ids.Pairwise (· < ·):=by
 unfold bH.ids;rw [zb0];exact(List.pairwise_lt_range).imp λh=> by omega
theorem Gz {i:Int}{e:Ent}(h:m.jl L i=some e):0<=i/\i < m.au.length:=by
 unfold bH.jl bH.dG at h;split at h
 ·cases hg:m.au[i.toNat]? with
  | none=> rw [hg] at h;cases h
  | some n=> have:=(zah.1 hg).1;omega
 ·cases h
theorem zu(hL:m.isL L=true){i:Int}:i∈m.copies L↔∃e,m.jl L i=some e:=by
 unfold bH.copies;rw [za6,hL,zco,zcN];exact⟨λh=> h.2,λh=> ⟨ael.2 (Gz h.choose_spec),h⟩⟩
theorem L9:(m.copies L).Pairwise (· < ·):=aij.sublist List.filter_sublist
theorem Me:(m.copies L).Nodup:=L9.imp λh=> by omega
theorem aem {w:List Int}(h:m.walk L=some w):w.Nodup/\∀i∈w,i∈m.copies L:=by
 unfold bH.walk at h;split at h
 ·rename_i hL;obtain⟨h1,h2⟩:=Ro h (by simp) (by simp);exact⟨h1,λi hi=> (zu hL).2 (h2 i hi)⟩
 ·cases h
theorem aen(w:List Int):(srt [] w).length=w.length:=by
 have:=(wY w [] (by simp)).1.length_eq
 simpa using this
theorem Wf.walk(W:Wf m.c.au (m.jl L) (m.rP L) v l)(hL:m.isL L=true):m.walk L=some l:=by
 unfold bH.walk;rw [if_pos hL,W.head];have:=L8 (k:=m.au.length+1) (out:=[]) W.ch (λi hi=> by have:=(W.rng.2 i hi).1;omega) (by simpa using W.rng.1) (by
  have:=BO (N:=m.au.length) W.rng.1 λi hi=> by
   obtain⟨e,he⟩:=Chn.mem W.ch i hi;exact Gz he
  omega)
 simpa using this
theorem Wf.perm(W:Wf m.c.au (m.jl L) (m.rP L) v l)(hL:m.isL L=true):l.Perm (m.copies L):=by
 refine(List.perm_ext_iff_of_nodup W.rng.1 Me).2 λi=> ?_;rw [zu hL];exact⟨Chn.mem W.ch i,λ⟨e,he⟩=> W.mem i e he⟩
theorem Wf.EH(W:Wf m.c.au (m.jl L) (m.rP L) v l):m.EH L=true:=by
 unfold bH.EH;by_cases hL:m.isL L=true
 ·rw [if_neg (by simp [hL]),W.walk hL];simp only;have hs:srt [] l=m.copies L:=afS (W.perm hL) (L9.imp λh=> by omega);rw [if_neg (by simp [hs]),Gy W.ch];simp only;have hE:∀i∈l,∃e,m.jl L i=some e:=Chn.mem W.ch;unfold uD;rcases W.st with h | h | h
  ·rw [if_pos h,W.st0.1 h];rfl
  ·have hl:l≠[]:=λe=> by have:=W.st0.2 e;omega
   rw [if_neg (by omega),if_pos h];have h1:(l.map λi=> (m.jl L i).getD .zero).any (λe=> e.bG || decide (e.data≠(m.rP L).data))=false:=by
    rw [List.any_eq_false];intro e he;obtain⟨i,hi,rfl⟩:=zaD.1 he;obtain⟨e,he⟩:=hE i hi;rw [he,zax];have h2:=W.bG i e he;have h3:=W.data i e he;have h4:=W.zo (by omega);have h5:e.bG=false:=by
     cases hd:e.bG with
     | false=> rfl
     | true=> have:=h2.1 hd;omega
    simp [h5,h3,h4]
   rw [h1];simp [hl]
  ·obtain⟨i,rfl⟩:=W.st2 h;obtain⟨e,he⟩:=hE i (by simp);rw [if_neg (by omega),if_neg (by omega)];simp only [zaA,zbz,he,zax];exact(W.bG i e he).2 h
 ·rw [if_pos (by simpa using hL)]
end
theorem XH(H:ah){x:AV}{l:List Int}(hx:aA H x 1 l.length (l.map I))(hl:l.length < 1000000)(v:Int):∃z:Int,cl 81 [x,I v] H=some (I z,H)/\(0<=z↔v∈l):=by
 have hg:=hx.guard;have key:∀k i,i+k=l.length->∃z:Int,DZ cl [x,I v,I l.length,I i] H.guard=some (I z,H.guard)/\(0<=z↔v∈l.drop i):=by
  intro k
  induction k with
  | zero=>
   intro i hi;have h1:¬(i:Int) < l.length:=by omega
   refine⟨-1,?_,?_⟩
   ·rw [Oq];simp only [Int.reduceNeg,xq_,h1]
   ·rw [zaJ (by omega)];simp
  | succ k ih=>
   intro i hi;have h1:(i:Int) < l.length:=by omega
   have h6:(i:Int)+1=((i+1:Nat):Int):=by omega
   have h7:=wrap_i64 (a:=((i+1:Nat):Int)) (by omega) (by omega);have s1:=hg.ix (k:=.i64) (i:=(i:Int)) (by omega) h1;rw [zao] at s1;have t1:=hg.ld (i:=i) (by omega);rw [zas,zab (show i < l.length by omega)] at t1;have hd:l.drop i=l[i]::l.drop (i+1):=zaU (by omega);by_cases hv:v=l[i]
   ·refine⟨i,?_,by rw [hd,<-hv];simp⟩;rw [<-hv] at t1;rw [Oq];simp only [Int.reduceNeg,xq_,h1,s1,t1]
   ·obtain⟨z,r,hz⟩:=ih (i+1) (by omega);refine⟨z,?_,by rw [hz,hd,zai];simp [hv]⟩;rw [Oq];simp only [Int.reduceNeg,xq_,h1,s1,t1,hv,dB,h6,h7,r]
 obtain⟨z,r,hz⟩:=key l.length 0 (by omega)
 replace r:DZ cl [x,I v,I l.length,I 0] H.guard=some (I z,H.guard):=r
 have e1:=hg.lnS;refine⟨z,bC rfl rfl (aj7 _ _ _ _) ?_ fP,hz⟩;simp only [xq_,agH,e1,r]
theorem MB(H:ah){x:AV}{l:List Int}(hx:aA H x 1 l.length (l.map I))(hl:l.length < 1000000)(v:Int):cl 40 [x,I v] H=some (B (decide (v∈l)),H):=by
 refine bC rfl rfl (ajz _ _ _ _) ?_ fP;obtain⟨z,e,hz⟩:=XH H.guard hx.guard hl v;rw [show decide (v∈l)=decide (0<=z) by rw [decide_eq_decide];exact hz.symm];by_cases h0:0<=z
 ·simp only [xq_,adg,e,h0]
 ·simp only [xq_,adg,e,h0]
theorem yg(H:ah){x y:AV}{l l':List Int}(hx:aA H x 1 l.length (l.map I))(hy:aA H y 1 l'.length (l'.map I))(hl:l.length < 1000000)(hl':l'.length < 1000000):cl 44 [x,y] H=some (B (decide (l=l')),H):=by
 refine bC rfl rfl (ajD _ _ _ _) ?_ fP;have e1:=hx.guard.lnS;have e2:=hy.guard.lnS;by_cases hn:l.length=l'.length
 ·have key:∀k i,i+k=l.length->DW cl [x,y,I l.length,I i] H.guard=some (B (decide (l.drop i=l'.drop i)),H.guard):=by
   intro k
   induction k with
   | zero=>
    intro i hi;have h1:¬(i:Int) < l.length:=by omega
    rw [Ol,zaJ (by omega),zaJ (by omega)];simp only [xq_,h1]
   | succ k ih=>
    intro i hi;have h1:(i:Int) < l.length:=by omega
    have h6:(i:Int)+1=((i+1:Nat):Int):=by omega
    have h7:=wrap_i64 (a:=((i+1:Nat):Int)) (by omega) (by omega);have s1:=hx.guard.ix (k:=.i64) (i:=(i:Int)) (by omega) h1;have s2:=hy.guard.ix (k:=.i64) (i:=(i:Int)) (by omega) (by omega);rw [zao] at s1 s2;have t1:=hx.guard.ld (i:=i) (by omega);have t2:=hy.guard.ld (i:=i) (by omega);rw [zas,zab (show i < l.length by omega)] at t1;rw [zas,zab (show i < l'.length by omega)] at t2;have hd:l.drop i=l[i]::l.drop (i+1):=zaU (by omega);have hd':l'.drop i=l'[i]::l'.drop (i+1):=zaU (by omega);have r1:=ih (i+1) (by omega);rw [hd,hd'];by_cases hv:l[i]=l'[i]
    ·have hh:decide (l[i]::l.drop (i+1)=l'[i]::l'.drop (i+1))=decide (l.drop (i+1)=l'.drop (i+1)):=by
      rw [decide_eq_decide];exact⟨λe=> (List.cons.inj e).2,λe=> by rw [hv,e]⟩
     rw [hh,Ol];simp only [xq_,h1,s1,s2,t1,t2,hv,eq_self,zar,dB,h6,h7,r1]
    ·have hh:decide (l[i]::l.drop (i+1)=l'[i]::l'.drop (i+1))=false:=decide_eq_false λe=> hv (List.cons.inj e).1;rw [hh,Ol];simp only [xq_,h1,s1,s2,t1,t2,hv,zaB]
  have r1:=key l.length 0 (by omega)
  replace r1:DW cl [x,y,I l.length,I 0] H.guard=some (B (decide (l=l')),H.guard):=r1
  have hn':(l.length:Int)=(l'.length:Int):=by omega
  rw [<-hn'] at e2;simp only [xq_,adi,e1,e2,eq_self,zar,r1]
 ·have hh:decide (l=l')=false:=decide_eq_false λe=> hn (by rw [e]);have hn':¬(l.length:Int)=(l'.length:Int):=by omega
  rw [hh];simp only [xq_,adi,e1,e2,hn',zaB]
section
variable {b:Nat}{H:ah}{g:bJ}{A:Adr}{m:bH}{T:Nat}
theorem BN.is {n:Nat}{H:ah}{x:AV}{l:List Int}(O:BN n H x l):aA H x 1 l.length (l.map I):=O.1.is (by decide) (by simp)
theorem Ah {H:ah}{n d:Nat}{x v:AV}{z:Value}(h:bD H n (d+1) x=some v):bD H n (d+2) (.tup [x,.s z])=some (.tup [v,.s z]):=by
 have h2:bD H n (d+1) (.s z)=some (.s z):=jH;rw [bD];simp only [zbt,List.mapM_nil,h,h2,zbN,zaX,zcb,zaf]
theorem BN.aeo {n:Nat}{H:ah}{x:AV}{l:List Int}(O:BN n H x l):bD H n 8 x=some (dat l):=by
 by_cases h:l=[]
 ·rw [O.2 h,h,dat,jo];exact jH
 ·rw [tq h];exact y8 O.1 (by decide) (by simp) (λy hy=> qV _ y hy _ _) λe=> h (zan e)
def akL(o:Option (List Int)):AV:=.tup [dat (o.getD []),B o.isSome]
theorem aep(G:Good b H g)(M:fG g A m)(X:MX T m){L:Int}:∀k {a:Int} {out:List Int} {H1:ah} {x:AV},m.au.length < k+out.length->out.Nodup->(∀i∈out,0<=i/\i < m.au.length)->Step H.next H.guard H1->BN H.next H1 x out->
  ∃H2 y,II cl [.ref A.iV 0 0,I L,x,I a] H1=some (.tup [y,B (qx (m.jl L) k a out).isSome],H2)/\BN H.next H2 y ((qx (m.jl L) k a out).getD []):=by
 intro k;have hl:=X.len
 induction k with
 | zero=>
  intro a out H1 x hk hn hr s O;have:=BO hn hr;omega
 | succ k ih=>
  intro a out H1 x hk hn hr s O;have hol:=BO hn hr;by_cases ha:a=-1
  ·refine⟨H1,x,?_,by unfold qx;rw [if_pos ha];exact O⟩;rw [IJ];unfold qx;rw [if_pos ha];simp only [Int.reduceNeg,xq_,ha,eq_self,zar,zct]
  ·have G1:Good b H1 g:=G.guard.ext s.next s.low
   have hbn:H1.base<=H1.next:=by rw [s.base];exact s.next
   have e1:=BM G1 M X a L;let H3:=H1.new (.blk 0 100 ((m.jl L a).getD .zero).av);have s3:Step H.next H.guard H3:=s.trans (Step.new _ s.next)
   have O3:BN H.next H3 x out:=O.new _
   have st6:st 6 (.ref H1.next 0 0) (.agg ((m.jl L a).getD .zero).av) (H1.new (.blk 0 100 [zI,zI,zI,zI,zB,zN]))=some (aV,H3):=by
    rw [qc rfl];simp only [Nat.reduceAdd,aP,xq_,hq_,Ent.av,hbn];rfl
   cases he:m.jl L a with
   | none=>
    have hw:qx (m.jl L) (k+1) a out=none:=by
     unfold qx;rw [if_neg ha,he]
    refine⟨H3,zN,?_,by rw [hw];exact BN.nil _ _⟩;rw [hw,IJ];rw [he] at e1;simp only [he,zcl] at st6;have:oh none=.tup [.agg Ent.zero.av,B false]:=rfl;rw [this] at e1;simp only [Int.reduceNeg,xq_,ha,e1,st6,zaB,zbI]
    try rfl
   | some e=>
    rw [he] at e1;simp only [he,zax] at st6;have:oh (some e)=.tup [.agg e.av,B true]:=rfl;rw [this] at e1;have e2:=MB H3 O3.is (by omega) a;have alh:st 6 (.ref H1.next 0 0) (.agg e.av) (H1.new (.blk 0 100 [zI,zI,zI,zI,zB,zN]))=some (aV,H3):=by rw [st6]
    by_cases hm:a∈out
    ·have hw:qx (m.jl L) (k+1) a out=none:=by
      unfold qx;rw [if_neg ha,he];simp only;rw [if_pos hm]
     rw [decide_eq_true hm] at e2;refine⟨H3,zN,?_,by rw [hw];exact BN.nil _ _⟩;rw [hw,IJ];simp only [Int.reduceNeg,xq_,ha,e1,alh,zar,zaB,e2,zbI]
    ·have hw:qx (m.jl L) (k+1) a out=qx (m.jl L) k e.fwd (out++[a]):=by
      rw [qx,if_neg ha,he];simp only;rw [if_neg hm]
     rw [decide_eq_false hm] at e2;obtain⟨y,H4,eb,c1,c2,c3,c4⟩:=O3.push s3.next (by rw [s3.base];exact zac _) (by omega) a
     have hin:=Gz he;obtain⟨H2,z,r,O2⟩:=ih (a:=e.fwd) (H1:=H4) (x:=y) (by rw [zal];simp only [zam,zak];omega) (zbj.2 ⟨hn,by simp,λu hu w hw'=> by
      rw [zaI.1 hw'];intro e;exact hm (e ▸ hu)⟩) (λi hi=> by
      rcases zaO.1 hi with h | h
      ·exact hr i h
      ·rw [zaI.1 h];exact hin) (s3.trans c3) c2
     have g3:H3.get H1.next=.blk 0 100 e.av:=by simp only [H3,he,zax];exact aK rfl
     have g4:H4.get H1.next=.blk 0 100 e.av:=by
      rw [c4 H1.next (by simp only [H3,fC];omega) (λe=> by have:=(O.1.name e).2;omega)];exact g3
     have l0:ld (.ref H1.next 0 0) H4=some (I e.fwd,H4):=by rw [dA g4];rfl
     rw [hw];refine⟨H2,z,?_,O2⟩;rw [IJ];simp only [Int.reduceNeg,xq_,ha,e1,alh,zar,zaB,e2,eb,c1,l0,r]
theorem BP(G:Good b H g)(M:fG g A m)(X:MX T m)(L:Int):cl 10 [.ref A.iV 0 0,I L] H=some (akL (m.walk L),H):=by
 have e0:=Rq G.guard M X L;cases h:m.isL L with
 | false=>
  rw [h] at e0;have hw:m.walk L=none:=by unfold bH.walk;rw [if_neg (by rw [h];decide)]
  rw [hw];refine iJ rfl rfl (afZ _ _ _ _ (r:=(.tup [zN,B false],H.guard)) ?_) (Ah (d:=7) jH);simp only [xq_,ac9,e0,zaB]
 | true=>
  rw [h] at e0;have e1:=Pn G.guard M X h;obtain⟨H2,y,r,O⟩:=aep G M X (L:=L) (m.au.length+1) (a:=(m.rP L).head) (out:=[]) (H1:=H.guard) (x:=zN) (by simp) (by simp) (λi hi=> by cases hi) (Step.refl _ _) (BN.nil _ _);have hw:m.walk L=qx (m.jl L) (m.au.length+1) (m.rP L).head []:=by unfold bH.walk;rw [if_pos h]
  rw [<-hw] at r O;have l1:(m.rP L).av[1]?=some (I (m.rP L).head):=rfl;refine iJ rfl rfl (afZ _ _ _ _ (r:=(.tup [y,B (m.walk L).isSome],H2)) ?_) (Ah (d:=7) O.aeo);simp only [xq_,ac9,e0,zar,e1,l1,r]
end
theorem Ru {α:Type}{p:α->Bool}(l:List α):decide (zX (l.findIdx? p)≥0)=l.any p:=by
 rw [<-zc7];cases l.findIdx? p with
 | none=> rfl
 | some i=> exact decide_eq_true (by simp only [zX];omega)
theorem Po(H:ah){x f:AV}{l:List Ent}(hx:aA H x 6 l.length (l.flatMap Ent.av))(hl:l.length < 1000000)(p:Ent->Bool)(hp:∀a∈l,oQ Tryz.prog cl f [.agg a.av] H.guard=some (B (p a),H.guard)):cl 88 [x,f] H=some (B (l.any p),H):=by
 refine bC rfl rfl (akd _ _ _ _) ?_ fP;have e:=zY H.guard (enc:=Ent.av) jG (f:=f) hx.guard (by omega) p hp;rw [<-Ru];by_cases h0:zX (l.findIdx? p)≥0
 ·simp only [xq_,adr,e,h0]
 ·simp only [xq_,adr,e,h0]
theorem MC(H:ah){x f:AV}{l:List Int}(hx:aA H x 1 l.length (l.map I))(hl:l.length < 1000000)(p:Int->Bool)
  (hp:∀a∈l,oQ Tryz.prog cl f [I a] H.guard=some (B (p a),H.guard)):cl 153 [x,f] H=some (I (zX (l.findIdx? p)),H):=by
 have hg:=hx.guard;have e1:=hg.lnS;refine bC rfl rfl (ahf _ _ _ _) ?_ fP;have key:∀k i,i+k=l.length->(∀j a,j < i->l[j]?=some a->p a=false)->xF cl [x,f,I l.length,I i] H.guard=some (I (zX (l.findIdx? p)),H.guard):=by
  intro k
  induction k with
  | zero=>
   intro i hi hf;have h1:¬(i:Int) < l.length:=by omega
   have h2:l.findIdx? p=none:=by rw [kS l i hf,zaJ (by omega)];rfl
   rw [QD];simp only [Int.reduceNeg,xq_,h1,h2,zX]
  | succ k ih=>
   intro i hi hf;have h1:(i:Int) < l.length:=by omega
   have h3:=hg.ix (k:=.i64) (i:=(i:Int)) (by omega) h1;have h4:=hg.ld (i:=i) (by omega);rw [zao] at h3;rw [zas,zab (show i < l.length by omega)] at h4;have h5:=hp l[i] (zcU _);rw [QD];cases hpa:p l[i] with
   | true=>
    have h2:l.findIdx? p=some i:=by
     rw [kS l i hf,zaU (by omega),zca,hpa];simp
    rw [hpa] at h5;simp only [Int.reduceNeg,xq_,h1,h2,h3,h4,h5,zX]
   | false=>
    rw [hpa] at h5;have h6:(i:Int)+1=((i+1:Nat):Int):=by omega
    have h7:=wrap_i64 (a:=((i+1:Nat):Int)) (by omega) (by omega);have:=ih (i+1) (by omega) λj b hj hb=> by
     by_cases hji:j=i
     ·subst hji;rw [zab (by omega)] at hb;rw [<-zaT hb];exact hpa
     ·exact hf j b (by omega) hb
    simp only [Int.reduceNeg,xq_,h1,h3,h4,h5,dB,h6,h7,this]
 have:=key l.length 0 (by omega) λj a hj=> by omega
 replace this:xF cl [x,f,I l.length,I 0] H.guard=some (I (zX (l.findIdx? p)),H.guard):=this
 simp only [xq_,abt,e1,this]
theorem Pq(H:ah){x f:AV}{l:List Int}(hx:aA H x 1 l.length (l.map I))(hl:l.length < 1000000)(p:Int->Bool)(hp:∀a∈l,oQ Tryz.prog cl f [I a] H.guard.guard=some (B (p a),H.guard.guard)):cl 99 [x,f] H=some (B (l.any p),H):=by
 refine bC rfl rfl (akh _ _ _ _) ?_ fP;have e:=MC H.guard (f:=f) hx.guard hl p hp;rw [<-Ru];by_cases h0:zX (l.findIdx? p)≥0
 ·simp only [xq_,adv,e,h0]
 ·simp only [xq_,adv,e,h0]
theorem XI {H:ah}{q:Nat}{r:Row}(hlt:q < H.next)(hq:H.get q=.blk 0 95 r.av)(hr:r.data.length < 1000000)(e:Ent)(he:e.data.length < 1000000):cl 89 [.agg e.av,.ref q 0 0] H=some (B (e.bG || decide (e.data≠r.data)),H):=by
 refine bC rfl rfl (ake _ _ _ _) ?_ fP;let H1:=H.guard.new (.blk 0 100 e.av);have all:e.av.all AV.aJ=true:=Dq e;have g1:H1.get H.next=.blk 0 100 e.av:=aK rfl
 have l4:ld (.ref H.next 0 4) H1=some (B e.bG,H1):=by rw [dA g1];rfl
 have l5:ld (.ref H.next 0 5) H1=some (dat e.data,H1):=by rw [dA g1];rfl
 have g2:H1.get q=.blk 0 95 r.av:=by rw [<-hq];exact bg hlt
 have l2:ld (.ref q 0 2) H1=some (dat r.data,H1):=by rw [dA g2];rfl
 have e1:=yg H1 (gW H1 e.data) (gW H1 r.data) he hr;have hd:decide (e.data≠r.data)=!decide (e.data=r.data):=by
  by_cases h:e.data=r.data <;> simp [h]
 simp only [H1] at l4 l5 l2 e1;rw [hd];cases hdi:e.bG with
 | true=>
  rw [hdi] at l4;simp only [Nat.reduceLT,xq_,ads,aO all,l4,zbW]
 | false=>
  rw [hdi] at l4;simp only [Nat.reduceLT,xq_,ads,aO all,l4,l5,l2,e1,zbK]
theorem ZL(H:ah){x:AV}{r:Row}{es:List Ent}(hx:aA H x 6 es.length (es.flatMap Ent.av))(hl:es.length < 1000000)(hr:r.data.length < 1000000)(he:∀e∈es,e.data.length < 1000000):cl 47 [.agg r.av,x] H=some (B (uD r es),H):=by
 refine bC rfl rfl (ajF _ _ _ _) ?_ fP;let H1:=H.guard.new (.blk 0 95 r.av);have g1:H1.get H.next=.blk 0 95 r.av:=aK rfl
 have all:r.av.all AV.aJ=true:=Dt r;have l0:ld (.ref H.next 0 0) H1=some (I r.aW,H1):=by rw [dA g1];rfl
 have hx1:aA H1 x 6 es.length (es.flatMap Ent.av):=hx.guard.new _;have e1:=hx1.lnS;have hn:∀n:Nat,((es.length:Int)=n)=(es.length=n):=λn=> propext ⟨λh=> by omega,λh=> by omega⟩;unfold uD;by_cases h0:r.aW=0
 ·rw [if_pos h0];have hd:decide (es=[])=decide ((es.length:Int)=0):=by
   cases es with
   | nil=> rfl
   | cons a l=> simp only [zam,reduceCtorEq,decide_false];exact(decide_eq_false (by omega)).symm
  rw [hd];simp only [H1] at l0 e1;by_cases hz:(es.length:Int)=0
  ·simp only [Nat.reduceLT,Int.reduceLT,Int.reduceEq,xq_,Om,aO all,l0,h0,e1,hz]
  ·simp only [Nat.reduceLT,Int.reduceEq,xq_,Om,aO all,l0,h0,e1,hz]
 by_cases h1:r.aW=1
 ·rw [if_neg h0,if_pos h1];have e2:=Po H1 (f:=.fn (.func 89) [] [.ref H.next 0 0]) hx1 hl (λe=> e.bG || decide (e.data≠r.data)) λe hm=> by
   rw [sK (by kernel_rfl)];exact XI (H:=H1.guard) (q:=H.next) (by rw [yw];exact Nat.lt_succ_self _) (by rw [X3];exact g1) hr e (he e hm)
  simp only [H1] at l0 e1 e2;by_cases hz:(es.length:Int) > 0
  ·have hne:es≠[]:=λe=> by rw [e] at hz;simp at hz
   rw [decide_eq_true hne,zaG];simp only [Nat.reduceLT,Int.reduceEq,xq_,Om,aO all,l0,h1,e1,hz,e2]
  ·have hne:es=[]:=zan (by omega);have hd:(decide (es≠[]) && !es.any λe=> e.bG || decide (e.data≠r.data))=false:=by rw [hne];rfl
   rw [hd];simp only [Nat.reduceLT,Int.reduceEq,xq_,Om,aO all,l0,h1,e1,hz]
 ·rw [if_neg h0,if_neg h1];by_cases hz:(es.length:Int)=1
  ·obtain⟨e,rfl⟩:=List.length_eq_one_iff.1 (show es.length=1 by omega);have s1:=hx1.ix (k:=.i64) (i:=0) (by omega) (by simp);have s2:=hx1.afH (i:=0) (o:=4) (by simp) (by decide);simp only [H1] at l0 e1 s1 s2;obtain⟨p,p1,p2⟩:=Option.bind_eq_some_iff.1 s2
   replace s1:ix 6 x (I 0) (H.guard.new (.blk 0 95 r.av))=some (dM x 0,H.guard.new (.blk 0 95 r.av)):=s1
   have hd:EG [e]=e.bG:=rfl;rw [hd];simp only [Nat.reduceLT,Int.reduceLT,Int.reduceEq,xq_,Om,aO all,l0,h0,h1,e1,hz,s1,p1,p2]
  ·have hd:EG es=false:=by
    clear hx hl he hx1 e1 hn
    match es,hz with
    | [],_=> rfl
    | [a],h=> simp at h
    | a::b::l,_=> rfl
   rw [hd];simp only [H1] at l0 e1;simp only [Nat.reduceLT,xq_,Om,aO all,l0,h0,h1,e1,hz]
section
variable {b:Nat}{H:ah}{g:bJ}{A:Adr}{m:bH}{T:Nat}
theorem TW(G:Good b H g)(M:fG g A m)(X:MX T m){p q:Nat}{L:Int}(hp:p < H.next)(hq:q < H.next)(gp:H.get p=.blk 0 25 [.ref A.iV 0 0])(gq:H.get q=.blk 0 3 [I L])(i:Int):cl 100 [I i,.ref p 0 0,.ref q 0 0] H=some (B ((m.jl L i).getD .zero).bG,H):=by
 refine bC rfl rfl (agK _ _ _ _ _) ?_ fP;have l1:ld (.ref p 0 0) H.guard=some (.ref A.iV 0 0,H.guard):=by rw [dA (by rw [X3];exact gp)];rfl
 have l2:ld (.ref q 0 0) H.guard=some (I L,H.guard):=by rw [dA (by rw [X3];exact gq)];rfl
 have e1:=BM G.guard M X i L;let e:=(m.jl L i).getD .zero;let H3:=H.guard.new (.blk 0 100 e.av);have st6:st 6 (.ref H.next 0 0) (.agg e.av) (H.guard.new (.blk 0 100 [zI,zI,zI,zI,zB,zN]))=some (aV,H3):=by
  have hbn:H.guard.base<=H.guard.next:=zac _
  show st 6 (.ref H.guard.next 0 0) (.agg e.av) (H.guard.new (.blk 0 100 [zI,zI,zI,zI,zB,zN]))=some (aV,H3);rw [qc rfl];simp only [Nat.reduceAdd,aP,xq_,hq_,Ent.av];rfl
 have g3:H3.get H.next=.blk 0 100 e.av:=aK rfl
 have l4:ld (.ref H.next 0 4) H3=some (B e.bG,H3):=by rw [dA g3];rfl
 have e1':cl 39 [.ref A.iV 0 0,I i,I L] H.guard=some (.tup [.agg e.av,B (m.jl L i).isSome],H.guard):=e1;simp only [xq_,aa0,l1,l2,e1',st6,l4]
 try rfl
theorem TY(G:Good b H g)(M:fG g A m)(X:MX T m)(L:Int):cl 53 [.ref A.iV 0 0,I L] H=some (B (m.single L),H):=by
 refine bC rfl rfl (ajH _ _ _ _) ?_ fP;let H1:=H.guard.new (.blk 0 25 [.ref A.iV 0 0]);let H2:=H1.new (.blk 0 3 [I L]);have G2:Good b H2 g:=(G.guard.new _).new _;have n1:H1.next=H.next+1:=rfl
 have n2:H2.next=H.next+1+1:=rfl
 have gp:H2.get H.next=.blk 0 25 [.ref A.iV 0 0]:=by
  simp only [H2];rw [bg (by rw [n1];omega)];exact aK rfl
 have gq:H2.get (H.next+1)=.blk 0 3 [I L]:=aK n1.symm;have l1:ld (.ref H.next 0 0) H2=some (.ref A.iV 0 0,H2):=by rw [dA gp];rfl
 have l2:ld (.ref (H.next+1) 0 0) H2=some (I L,H2):=by rw [dA gq];rfl
 have e1:=uG G2 M X L;have hcl:(m.copies L).length<=1000:=by
  have:=uF m L m.au.length;rw [tN] at this;have:=X.len.2;omega
 have G4:Good b H2.guard.guard g:=G2.guard.guard;have e2:=Pq H2 (f:=.fn (.func 100) [] [.ref H.next 0 0,.ref (H.next+1) 0 0]) (gW H2 (m.copies L)) (by omega) (λi=> ((m.jl L i).getD .zero).bG) λi _=> by
  rw [sK (by kernel_rfl)];exact TW G4 M X (p:=H.next) (q:=H.next+1) (by rw [yw,yw,n2];omega) (by rw [yw,yw,n2];omega) (by rw [X3,X3];exact gp) (by rw [X3,X3];exact gq) i
 have e3:=(gW H2 (m.copies L)).lnS;have b1:iC 25 (.ref A.iV 0 0) H.guard=some (.ref H.next 0 0,H1):=rfl;have b2:iC 3 (I L) H1=some (.ref (H.next+1) 0 0,H2):=rfl;unfold bH.single;cases ha:(m.copies L).any (λi=> ((m.jl L i).getD .zero).bG) with
 | false=>
  rw [ha] at e2;simp only [xq_,YT,b1,b2,l1,l2,e1,e2,zaB,zbW]
 | true=>
  rw [ha] at e2;rw [show decide ((m.copies L).length=1)=decide (((m.copies L).length:Int)=1) by rw [decide_eq_decide];omega,zar,zbK];by_cases hz:((m.copies L).length:Int)=1
  ·simp only [xq_,YT,b1,b2,l1,l2,e1,e2,zar,e3,hz]
  ·simp only [xq_,YT,b1,b2,l1,l2,e1,e2,zar,e3,hz]
theorem XJ(G:Good b H g)(M:fG g A m)(X:MX T m){L:Int}(hL:m.isL L=true){x:AV}{ws:List Int}(hx:∀H':ah,H.next<=H'.next->(∀r,r < H.next->H'.get r=H.get r)->aA H' x 1 ws.length (ws.map I))(hw:ws.length < 1000):cl 58 [.ref A.iV 0 0,I L,x] H=some (B (m.Af L ws),H):=by
 refine bC rfl rfl (ajM _ _ _ _ _) ?_ fP;have hxs:∀H1:ah,Step H.next H.guard H1->aA H1 x 1 ws.length (ws.map I):=λH1 s=> hx H1 s.next s.low
 have hent:∀i e,m.jl L i=some e->e.data.length < 1000000:=λi e h=> by
  obtain⟨h0,h1⟩:=Gz h;obtain⟨n,hn⟩:∃n,m.au[i.toNat]?=some n:=⟨_,zab (by omega)⟩
  rw [Rt h0 hn] at h;have:=Rl ((X.inv.dG _ n hn).aC.le X.inv.ok) h;omega
 have hel:∀i,((m.jl L i).getD .zero).data.length < 1000000:=λi=> by
  cases h:m.jl L i with
  | none=> simp [Ent.zero]
  | some e=> exact hent i e h
 have hrl:(m.rP L).data.length < 1000000:=by
  obtain⟨n,hn,hh,_⟩:=Jw G M X hL;unfold bH.rP jg;rw [hh];cases ha:jq n.home.dF L with
  | none=> simp [Row.zero]
  | some w=>
   obtain⟨j,hj,_⟩:=BF ha;have:(w.data.length:Int)=m.c.aH:=((X.inv.dG _ n hn).dF _ (zat hj)).1;have:=(jY X.inv.ok).2.2.1;simp only [zax];omega
 have hcl:(m.copies L).length<=1000:=by
  have:=uF m L m.au.length;rw [tN] at this;have:=X.len.2;omega
 have e0:=uG G.guard M X L;have e0l:=(gW H.guard (m.copies L)).lnS;have key:∀k i,i+k=(m.copies L).length->∀H1,Step H.next H.guard H1->(DY cl [.ref A.iV 0 0,I L,x,dat (m.copies L),I (m.copies L).length,I i] H1).map Prod.fst=some (B (((m.copies L).drop i).all (λi=> decide (((m.jl L i).getD .zero).data=ws)) && (decide ((m.rP L).aW=2) || decide (m.owner L≠-1) || decide ((m.rP L).data=ws)))):=by
  intro k
  induction k with
  | zero=>
   intro i hi H1 s;have h1:¬(i:Int) < (m.copies L).length:=by omega
   have G1:Good b H1 g:=G.guard.ext s.next s.low
   have hbn:H1.base<=H1.next:=by rw [s.base];exact s.next
   have e1:=Pn G1 M X hL;let H2:=H1.new (.blk 0 95 (m.rP L).av);have G2:Good b H2 g:=G1.new _;have st3:st 3 (.ref H1.next 0 0) (.agg (m.rP L).av) (H1.new (.blk 0 95 [zI,zI,zN]))=some (aV,H2):=by
    rw [qc rfl];simp only [Nat.reduceAdd,aP,xq_,hq_,Row.av,hbn];rfl
   have g2:H2.get H1.next=.blk 0 95 (m.rP L).av:=aK rfl
   have l0:ld (.ref H1.next 0 0) H2=some (I (m.rP L).aW,H2):=by rw [dA g2];rfl
   have l2:ld (.ref H1.next 0 2) H2=some (dat (m.rP L).data,H2):=by rw [dA g2];rfl
   have e2:=EI G2 M X L;have e3:=yg H2 (gW H2 (m.rP L).data) (hxs H2 (s.trans (Step.new _ s.next))) hrl (by omega);rw [zaJ (by omega),zck,zaG,VN];by_cases q2:(m.rP L).aW=2
   ·simp only [Int.reduceNeg,xq_,h1,e1,st3,l0,q2,eq_self,zbW]
   ·by_cases q3:m.owner L=-1
    ·have:decide (m.owner L≠-1)=false:=decide_eq_false λh=> h q3;rw [this,decide_eq_false q2,zbK,zbK];rw [q3] at e2;simp only [Int.reduceNeg,xq_,h1,e1,st3,l0,q2,e2,eq_self,zar,l2,e3]
    ·have:decide (m.owner L≠-1)=true:=decide_eq_true q3;rw [this,Bool.or_true,zbW];simp only [Int.reduceNeg,xq_,h1,e1,st3,l0,q2,e2,q3,zaB]
  | succ k ih=>
   intro i hi H1 s;have h1:(i:Int) < (m.copies L).length:=by omega
   have G1:Good b H1 g:=G.guard.ext s.next s.low
   have hbn:H1.base<=H1.next:=by rw [s.base];exact s.next
   have hS:=gW H1 (m.copies L);have s1:=hS.ix (k:=.i64) (i:=(i:Int)) (by omega) h1;rw [zao] at s1;have t1:=hS.ld (i:=i) (by omega);rw [zas,zab (show i < (m.copies L).length by omega)] at t1;obtain⟨at_,hat⟩:∃a,a=(m.copies L)[i]:=⟨_,rfl⟩
   rw [<-hat] at t1;have e1:=BM G1 M X at_ L;let e:=(m.jl L at_).getD .zero;let H3:=H1.new (.blk 0 100 e.av);have st6:st 6 (.ref H1.next 0 0) (.agg e.av) (H1.new (.blk 0 100 [zI,zI,zI,zI,zB,zN]))=some (aV,H3):=by
    rw [qc rfl];simp only [Nat.reduceAdd,aP,xq_,hq_,Ent.av,hbn];rfl
   have g3:H3.get H1.next=.blk 0 100 e.av:=aK rfl
   have l5:ld (.ref H1.next 0 5) H3=some (dat e.data,H3):=by rw [dA g3];rfl
   have e1':cl 39 [.ref A.iV 0 0,I at_,I L] H1=some (.tup [.agg e.av,B (m.jl L at_).isSome],H1):=e1;have s3:Step H.next H.guard H3:=s.trans (Step.new _ s.next)
   have e2:=yg H3 (gW H3 e.data) (hxs H3 s3) (hel at_) (by omega);have h6:(i:Int)+1=((i+1:Nat):Int):=by omega
   have h7:=wrap_i64 (a:=((i+1:Nat):Int)) (by omega) (by omega);have r:=ih (i+1) (by omega) H3 s3;have hd:(m.copies L).drop i=at_::(m.copies L).drop (i+1):=by rw [hat];exact zaU (by omega)
   rw [hd,zbR,VN];by_cases hq:e.data=ws
   ·rw [decide_eq_true hq] at e2;rw [show decide (((m.jl L at_).getD .zero).data=ws)=true from decide_eq_true hq,zaG];simp only [Int.reduceNeg,xq_,h1,s1,t1,e1',st6,l5,e2,zar,dB,h6,h7,r]
   ·rw [decide_eq_false hq] at e2;rw [show decide (((m.jl L at_).getD .zero).data=ws)=false from decide_eq_false hq,zaF,zaF];simp only [Int.reduceNeg,xq_,h1,s1,t1,e1',st6,l5,e2,zaB]
 have r:=key (m.copies L).length 0 (by omega) H.guard (Step.refl _ _);rw [zaM] at r
 replace r:(DY cl [.ref A.iV 0 0,I L,x,dat (m.copies L),I (m.copies L).length,I 0] H.guard).map Prod.fst=some (B (m.Af L ws)):=r
 simp only [xq_,agu,e0,e0l,r]
end
def MF(w:List Int):Prop:=∀H:ah,∃f K,cl 46 [dat w] H=some (f,K)/\cl 45 [f] K=some (dat (srt [] w),K)/\Step H.next H K
theorem MG:MF []:=λH=> by
 let H1:=H.new (.blk 0 22 [zN]);have g1:H1.get H.next=.blk 0 22 [zN]:=aK rfl
 have d0:dat ([]:List Int)=zN:=by simp [dat,jo]
 refine⟨.fn (.func 87) [] [.ref H.next 0 0],H1,dU rfl rfl (ajE _ _ _ ?_),?_,Step.new _ (zac _)⟩
 ·have eb:iC 22 zN H=some (.ref H.next 0 0,H1):=rfl;rw [d0];simp only [xq_,agm,eb]
  try rfl
 ·refine UU (p:=yP Gi zU) rfl ?_;have hc:True/\22 < gB/\87≠0/\87∈zU:=⟨trivial,by unfold gB;decide,by decide,by simp [zU]⟩
  have hs:dat (srt [] ([]:List Int))=acV:=by simp [srt,dat,jo,acV]
  rw [hs];unfold yP;simp only [g1];rw [if_pos hc]
def EJ(r:Row)(es0:List Ent):Option (List Ent)->Bool
 | none=> false
 | some es=> uD r (es0++es)
section
variable {b:Nat}{H:ah}{g:bJ}{A:Adr}{m:bH}{T:Nat}
theorem ZM(X:MX T m)(L i:Int):((m.jl L i).getD .zero).data.length < 1000000:=by
 cases h:m.jl L i with
 | none=> simp [Ent.zero]
 | some e=>
  obtain⟨h0,h1⟩:=Gz h;obtain⟨n,hn⟩:∃n,m.au[i.toNat]?=some n:=⟨_,zab (by omega)⟩
  rw [Rt h0 hn] at h;have:=Rl ((X.inv.dG _ n hn).aC.le X.inv.ok) h;simp only [zax];omega
theorem ZN(G:Good b H g)(M:fG g A m)(X:MX T m){L:Int}(hL:m.isL L=true):(m.rP L).data.length < 1000000:=by
 obtain⟨n,hn,hh,_⟩:=Jw G M X hL;unfold bH.rP jg;rw [hh];cases ha:jq n.home.dF L with
 | none=> simp [Row.zero]
 | some w=>
  obtain⟨j,hj,_⟩:=BF ha;have:(w.data.length:Int)=m.c.aH:=((X.inv.dG _ n hn).dF _ (zat hj)).1;have:=(jY X.inv.ok).2.2.1;simp only [zax];omega
theorem aer(G:Good b H g)(M:fG g A m)(X:MX T m){L:Int}(hL:m.isL L=true){w:List Int}(hw:w.length<=1000):∀k i {bk:Int} {es0:List Ent} {H1:ah} {x:AV},i+k=w.length->Step H.next H.guard H1->Own H.next H1 x 6 (es0.flatMap Ent.av)->es0.length=i->(∀e∈es0,e.data.length < 1000000)->
  (vZ cl [.ref A.iV 0 0,I L,x,I bk,dat w,I w.length,I i] H1).map Prod.fst=some (B (EJ (m.rP L) es0 (rJ (m.jl L) bk (w.drop i)))):=by
 intro k
 induction k with
 | zero=>
  intro i bk es0 H1 x hi s O hl he;have h1:¬(i:Int) < w.length:=by omega
  have G1:Good b H1 g:=G.guard.ext s.next s.low
  have e1:=Pn G1 M X hL;have e2:=ZL H1 (r:=m.rP L) (O.is (n:=es0.length) (by decide) (dX jG es0)) (by omega) (ZN G M X hL) he;rw [zaJ (by omega),Oj];simp only [rJ,EJ,za7];simp only [xq_,h1,e1,e2]
 | succ k ih=>
  intro i bk es0 H1 x hi s O hl he;have h1:(i:Int) < w.length:=by omega
  have G1:Good b H1 g:=G.guard.ext s.next s.low
  have hbn:H1.base<=H1.next:=by rw [s.base];exact s.next
  have hS:=gW H1 w;have s1:=hS.ix (k:=.i64) (i:=(i:Int)) (by omega) h1;rw [zao] at s1;have t1:=hS.ld (i:=i) (by omega);rw [zas,zab (show i < w.length by omega)] at t1;obtain⟨a,ha⟩:∃a,a=w[i]:=⟨_,rfl⟩
  rw [<-ha] at t1;have e1:=BM G1 M X a L;obtain⟨e,hed⟩:∃e,e=(m.jl L a).getD .zero:=⟨_,rfl⟩
  let H3:=H1.new (.blk 0 100 e.av);have st6:st 6 (.ref H1.next 0 0) (.agg e.av) (H1.new (.blk 0 100 [zI,zI,zI,zI,zB,zN]))=some (aV,H3):=by
   rw [qc rfl];simp only [Nat.reduceAdd,aP,xq_,hq_,Ent.av,hbn];rfl
  have g3:H3.get H1.next=.blk 0 100 e.av:=aK rfl
  have l1:ld (.ref H1.next 0 1) H3=some (I e.back,H3):=by rw [dA g3];rfl
  have l6:lda 6 (.ref H1.next 0 0) H3=some (.agg e.av,H3):=(jw (off:=0) (n:=6) g3 (zac 6)).trans rfl;have e1':cl 39 [.ref A.iV 0 0,I a,I L] H1=some (.tup [.agg e.av,B (m.jl L a).isSome],H1):=by rw [e1,oh,hed]
  have s3:Step H.next H.guard H3:=s.trans (Step.new _ s.next)
  have hd:w.drop i=a::w.drop (i+1):=by rw [ha];exact zaU (by omega)
  have h6:(i:Int)+1=((i+1:Nat):Int):=by omega
  have h7:=wrap_i64 (a:=((i+1:Nat):Int)) (by omega) (by omega);rw [hd];unfold rJ;rw [<-hed];by_cases hb:e.back=bk
  ·rw [if_neg (by simp [hb])];have eb:bs 111 1 [(0,.agg e.av)] H3=some (.sl H3.next 0 0 6 1 1 true,H3.new (.blk 0 100 e.av)):=(ae7 (by decide)).trans (nT rfl rfl (Dq e));have O3:Own H.next H3 x 6 (es0.flatMap Ent.av):=O.new _
   obtain⟨y,K,c1,c2,c3⟩:=(O3.new (.blk 0 100 e.av)).step (n:=i) (k:=1) (e:=100) (by_:=64) (y:=.sl H3.next 0 0 6 1 1 true) (new:=e.av) (by rw [fC];exact zbs s3.next) (by rw [oD,s3.base];exact zac _) (by decide) (by rw [dX jG,hl]) (mJ rfl) (Dq e) (by unfold most;omega) (by unfold most;omega);have hf:es0.flatMap Ent.av++e.av=(es0++[e]).flatMap Ent.av:=by simp [zb4]
   rw [hf] at c2;have s4:Step H.next H.guard K:=s3.trans ((Step.new _ s3.next).trans c3)
   have r:=ih (i+1) (bk:=a) (es0:=es0++[e]) (by omega) s4 c2 (by simp [hl]) (λe' h=> by
    rcases zaO.1 h with h | h
    ·exact he e' h
    ·rw [zaI.1 h,hed];exact ZM X L a)
   have hx:EJ (m.rP L) es0 ((rJ (m.jl L) a (w.drop (i+1))).map λes=> e::es)=EJ (m.rP L) (es0++[e]) (rJ (m.jl L) a (w.drop (i+1))):=by
    cases rJ (m.jl L) a (w.drop (i+1)) with
    | none=> rfl
    | some es=> simp only [zaf,EJ,zbl,zbf,zaS]
   rw [hx,Oj];simp only [xq_,h1,s1,t1,e1',st6,l1,hb,eq_self,zar,l6,eb,c1,dB,h6,h7,r]
  ·rw [if_pos hb,Oj];simp only [EJ];simp only [xq_,h1,s1,t1,e1',st6,l1,hb,zaB]
theorem Rw(G:Good b H g)(M:fG g A m)(X:MX T m)(L:Int)(hs:∀w,m.walk L=some w->MF w):cl 13 [.ref A.iV 0 0,I L] H=some (B (m.EH L),H):=by
 refine bC rfl rfl (ajm _ _ _ _) ?_ fP;have e0:=Rq G.guard M X L;unfold bH.EH;cases hL:m.isL L with
 | false=>
  rw [hL] at e0;rw [if_pos rfl];simp only [Int.reduceNeg,xq_,SV,e0,zaB]
 | true=>
  rw [hL] at e0;rw [if_neg (by decide)];have e1:=BP G.guard M X L;cases hw:m.walk L with
  | none=>
   rw [hw] at e1
   replace e1:cl 10 [.ref A.iV 0 0,I L] H.guard=some (.tup [dat [],B false],H.guard):=e1
   simp only [Int.reduceNeg,xq_,SV,e0,zar,e1,zaB]
  | some w=>
   rw [hw] at e1
   replace e1:cl 10 [.ref A.iV 0 0,I L] H.guard=some (.tup [dat w,B true],H.guard):=e1
   obtain⟨f,K,a1,a2,a3⟩:=hs w hw H.guard
   replace a3:Step H.next H.guard K:=a3
   have GK:Good b K g:=G.guard.ext a3.next a3.low
   have e2:=uG GK M X L;have hwl:w.length<=1000:=by
    obtain⟨h1,h2⟩:=aem hw;have:=BO (N:=m.au.length) h1 λi hi=> by
     obtain⟨e,he⟩:=(zu hL).1 (h2 i hi);exact Gz he
    have:=X.len.2;omega
   have hcl:(m.copies L).length<=1000:=by
    have:=uF m L m.au.length;rw [tN] at this;have:=X.len.2;omega
   have e3:=yg K (gW K (srt [] w)) (gW K (m.copies L)) (by rw [aen];omega) (by omega);simp only;by_cases hq:srt [] w=m.copies L
   ·rw [if_neg (by simp [hq])];rw [decide_eq_true hq] at e3;have ln:=(gW K w).lnS;have r:=aer G M X hL hwl w.length 0 (bk:=-1) (es0:=[]) (H1:=K) (x:=zN) (by omega) a3 (.inl ⟨rfl,rfl⟩) rfl (λe h=> by cases h);rw [zaM] at r
    replace r:(vZ cl [.ref A.iV 0 0,I L,zN,I (-1),dat w,I w.length,I 0] K).map Prod.fst=some (B (EJ (m.rP L) [] (rJ (m.jl L) (-1) w))):=r
    cases hbk:rJ (m.jl L) (-1) w with
    | none=>
     rw [hbk] at r
     replace r:(vZ cl [.ref A.iV 0 0,I L,zN,I (-1),dat w,I w.length,I 0] K).map Prod.fst=some (B false):=r
     simp only;simp only [Int.reduceNeg,xq_,SV,e0,zar,e1,a1,a2,e2,e3,ln,r]
    | some es=>
     rw [hbk] at r
     replace r:(vZ cl [.ref A.iV 0 0,I L,zN,I (-1),dat w,I w.length,I 0] K).map Prod.fst=some (B (uD (m.rP L) es)):=r
     simp only;simp only [Int.reduceNeg,xq_,SV,e0,zar,e1,a1,a2,e2,e3,ln,r]
   ·rw [if_pos hq];rw [decide_eq_false hq] at e3;simp only [Int.reduceNeg,xq_,SV,e0,zar,e1,a1,a2,e2,e3,zaB]
end
theorem iL {α:Type}{g:Int->α}{j:Int}:bT g j (g j)=g:=by
 funext k
 by_cases h:k=j
 ·rw [h,aB]
 ·rw [aI h]
def Node.EK(n:Node):Nat:=n.bW.ops.length - n.bW.bf.length
def bH.yh(m:bH)(j:Int):Nat:=match m.dG j with
 | some n=> n.EK
 | none=> 0
def bH.todo(m:bH)(msg:Int->Out):Nat:=2*pot m.c m.yh (m.abs msg λ_=> [])+m.fab.under
section
variable {m:bH}{i:Nat}{n n':Node}{f:Fab}{t:List Evn}{msg msg':Int->Out}{val val':Int->List Int}
theorem zx(h:m.au[i]?=some n):(m.with_ i n' f t).yh=bT m.yh i n'.EK:=by
 funext j
 unfold bH.yh;rw [yc h];by_cases hj:j=i
 ·rw [if_pos hj,hj,aB]
 ·rw [if_neg hj,aI hj]
theorem Jz(h:m.au[i]?=some n):m.yh i=n.EK:=by
 unfold bH.yh;rw [x9 h]
theorem Pv(hp:pot m.c (m.with_ i n' f t).yh ((m.with_ i n' f t).abs msg' val') < pot m.c m.yh (m.abs msg val))(hu:f.under<=m.fab.under+1):(m.with_ i n' f t).todo msg' < m.todo msg:=by
 have h1:(m.with_ i n' f t).todo msg'=2*pot m.c (m.with_ i n' f t).yh ((m.with_ i n' f t).abs msg' val')+f.under:=rfl;have h2:m.todo msg=2*pot m.c m.yh (m.abs msg val)+m.fab.under:=rfl;rw [h1,h2];omega
end
theorem XK {f:Fab}{i:Int}{q:Port}(hi:f.is i=true):(f.put i q).under+((f.port i).rq.length+(f.port i).an.length)=f.under+(q.rq.length+q.an.length):=by
 have h:=iZ hi;obtain⟨hlt,he⟩:=zah.1 h;unfold Fab.under Fab.all Fab.put;simp only;have key:∀(l:List Port) (k:Nat) (x:Port),l[k]?=some x->((l.set k q).flatMap λq=> q.rq++q.an).length+(x.rq.length+x.an.length)=(l.flatMap λq=> q.rq++q.an).length+(q.rq.length+q.an.length):=by
  intro l
  induction l with
  | nil=> intro k x h;simp at h
  | cons y l ih=>
   intro k x h;cases k with
   | zero=>
    simp only [za2,zaa] at h;subst h;simp only [zb8,zaV,zal];omega
   | succ k=>
    simp only [zbx] at h;have:=ih k x h;simp only [zb9,zaV,zal];omega
 exact key _ _ _ h
theorem aeu {f:Fab}{i:Int}{q:Port}(hi:f.is i=true)(h1:q.rq=(f.port i).rq)(h2:q.an=(f.port i).an):(f.put i q).all=f.all:=TS (iZ hi) h1 h2
theorem GH {f f':Fab}{i:Int}{r:Bool}{po:Option Pkt}(h:f.take i r=(f',po)):f'.under=f.under:=by
 unfold Fab.take at h;split at h
 ·rename_i hi;split at h
  ·cases h;rfl
  ·cases h;unfold Fab.under;rw [aeu hi (by cases r <;> rfl) (by cases r <;> rfl)]
 ·cases h;rfl
theorem lW(f:Fab)(p:Pkt):(f.send p).1.under<=f.under+1:=by
 unfold Fab.send;split
 ·exact zbk _
 ·rename_i h;split
  ·exact zbk _
  ·simp only;have hi:f.is p.src=true:=by
    simp only [zbc,za9,not_or,zce] at h;exact h.1.2
   have:=XK (q:=(f.port p.src).lF (wQ p.aS) ((f.port p.src).sort (wQ p.aS)++[p])) hi;cases hk:wQ p.aS <;> rw [hk] at this <;> simp [Port.lF,Port.sort] at this ⊢ <;> omega
section
variable {c:Cfg}{lf:Int->Nat}{a:Abs}{i L:Int}{x:Option Ent}{d':dL}{msg':Int->Out}{val':Int->List Int}{k:Nat}
theorem XL(hi:0<=i/\i < c.au)(hL:0<=L/\L < c.aG)(hm:∀j,j≠i->msg' j=a.msg j)(hr:∀L',L'≠L->∀y,wt d' L' y=wt (a.aF i) L' y)(h3:33*k+Dp d' (msg' i)+wt d' L x < 33*lf i+Dp (a.aF i) (a.msg i)+wt (a.aF i) L (a.ent L i)):
  pot c (bT lf i k) { a with ent:=bT a.ent L (lM (a.ent L) i x),aF:=bT a.aF i d',msg:=msg',val:=val' } < pot c lf a:=by
 refine Pj hi hi hL (λj hj=> ⟨aI hj,aI hj,hm j hj⟩) (λj L' h=> ?_) ?_
 ·show wt (bT a.aF i d' j) L' (bT a.ent L (lM (a.ent L) i x) L' j)=wt (a.aF j) L' (a.ent L' j);by_cases hj:j=i
  ·subst hj;have hL':=h.resolve_left λh=> h rfl;rw [aB,aI hL'];exact hr L' hL' _
  ·rw [aI hj];by_cases e:L'=L
   ·rw [e,aB,dN hj]
   ·rw [aI e]
 ·show 33*bT lf i k i+Dp (bT a.aF i d' i) (msg' i)+wt (bT a.aF i d' i) L (bT a.ent L (lM (a.ent L) i x) L i) < _;rw [aB,aB,aB,dZ];exact h3
theorem aev {a':Abs}(hi:0<=i/\i < c.au)(hl:0 < c.aG)(h1:a'.ent=a.ent)(h2:a'.aF=a.aF)(hm:∀j,j≠i->a'.msg j=a.msg j)(h3:Dp (a.aF i) (a'.msg i) < Dp (a.aF i) (a.msg i)):pot c lf a' < pot c lf a:=by
 refine Pj (L:=0) hi hi ⟨zbe _,hl⟩ (λj hj=> ⟨rfl,by rw [h2],hm j hj⟩) (λj L' h=> by rw [h1,h2]) ?_;rw [h1,h2];omega
theorem XM {s:Int}{q p:Pkt}{e:Ent}(hi:0<=i/\i < c.au)(hs:0<=s/\s < c.au)(hL:0<=L/\L < c.aG)(hm:a.msg s=.req p)(he:a.ent L i=some e)(h0:(a.aF s).step≠0)(h3:(∃e',x=some e')/\(a.aF s).step≠3∨x=none):
  pot c lf { a with ent:=bT a.ent L (lM (a.ent L) i x),msg:=bT a.msg s (.ans q) } < pot c lf a:=by
 refine Pj hs hi hL (λj hj=> ⟨rfl,rfl,aI hj⟩) (λj L' h=> ?_) ?_
 ·show wt (a.aF j) L' (bT a.ent L (lM (a.ent L) i x) L' j)=wt (a.aF j) L' (a.ent L' j);by_cases e:L'=L
  ·have hj:=h.resolve_right λh=> h e;rw [e,aB,dN hj]
  ·rw [aI e]
 ·show 33*lf s+Dp (a.aF s) (bT a.msg s (.ans q) s)+wt (a.aF i) L (bT a.ent L (lM (a.ent L) i x) L i) < _;rw [aB,aB,dZ,hm,he];unfold Dp;rw [if_neg h0,if_neg h0];have l1:loc (a.aF s).step (.req p)=3:=rfl;have l2:loc (a.aF s).step (.ans q)=if(a.aF s).step=3 then 4 else 1:=rfl;rcases h3 with⟨⟨e',rfl⟩,h3⟩ | rfl
  ·rw [l1,l2,if_neg h3,aei (e:=e') (e':=e)];omega
  ·rw [l1,l2,XA];have:=aif (d:=a.aF i) (L:=L) (e:=e);split <;> omega
end
section
variable {m:bH}{T:Nat}{i:Nat}{n n':Node}{f:Fab}{t:List Evn}{msg msg':Int->Out}{val val':Int->List Int}
theorem BQ(h:m.au[i]?=some n)(hh:n'.home=n.home)(hc:∀L,n'.aC.find L=n.aC.find L):
  (m.with_ i n' f t).abs msg' val'={ m.abs msg val with aF:=bT m.nG i n'.aF,msg:=msg',val:=val' }:=by
 rw [ou (val:=val) (msg:=msg) h hh (L:=0) (λL _=> hc L),hc,<-pF h,ku,iL];rfl
theorem MX.range(X:MX T m)(h:m.au[i]?=some n):0<=(i:Int)/\(i:Int) < m.c.au:=by
 have:=X.inv.len;have:=(zah.1 h).1;omega
theorem MX.is(X:MX T m){j:Int}(h:0<=j/\j < m.c.au){f:Fab}(hl:f.l.length=m.fab.l.length):f.is j=true:=by
 have:=X.inv.fab.len;unfold Fab.is;simp only [zae,decide_eq_true_eq];omega
theorem JA(h:m.au[i]?=some n){o:Opn}(hc:n.bW.cur=some o):m.opAt i n.bW.bf.length=some o:=by
 unfold bH.opAt;rw [x9 h];exact hc
theorem BR {o:Opn}(hc:n.bW.cur=some o)(hb:n.bW.eG=true){v:Int}(h:n'.bW=n.bW.EP v):n'.EK+1=n.EK:=by
 have:=(zah.1 hc).1;unfold Node.EK;rw [h];unfold Proc.EP;rw [if_pos hb];show n.bW.ops.length - (n.bW.bf++[v]).length+1=_;rw [zal,List.length_singleton];omega
theorem lX(X:MX T m)(hn:m.au[i]?=some n){L:Int}(hL:0<=L/\L < m.c.aG)(h1:n'.home=n.home)(h2:∀L',L'≠L->n'.aC.find L'=n.aC.find L')(h4:∀L',L'≠L->∀y,wt n'.aF L' y=wt n.aF L' y)(h5:f.under<=m.fab.under+1)(hm:∀j:Int,j≠i->msg' j=msg j)
  (h6:33*n'.EK+Dp n'.aF (msg' i)+wt n'.aF L (n'.aC.find L) < 33*n.EK+Dp n.aF (msg i)+wt n.aF L (n.aC.find L)):(m.with_ i n' f t).todo msg' < m.todo msg:=by
 obtain⟨val,hv⟩:∃val:Int->List Int,val=λ_=> []:=⟨_,rfl⟩
 refine Pv (val:=val) (val':=val) ?_ h5;rw [zx hn,ou (msg:=msg) (val:=val) hn h1 h2];refine XL (c:=m.c) (lf:=m.yh) (a:=m.abs msg val) (L:=L) (x:=n'.aC.find L) (d':=n'.aF) (k:=n'.EK) (X.range hn) hL hm (λL' hL y=> by rw [show(m.abs msg val).aF i=_ from jL hn];exact h4 L' hL y) ?_;rw [Jz hn,show(m.abs msg val).aF i=_ from jL hn,show(m.abs msg val).ent L i=_ from pF hn _];exact h6
def dL.end_(d:dL):dL:={ d with step:=0 }
set_option maxHeartbeats 1000000 in
theorem GInv.answered(X:MX T m)(G:GInv m msg val)(hn:m.au[i]?=some n){f':Fab}{p:Pkt}(ht:m.fab.take i false=(f',some p)):
  ∃msg' val',GInv (m.with_ i (n.answered m.c i f' m.trace p).1 (n.answered m.c i f' m.trace p).2.1 (n.answered m.c i f' m.trace p).2.2) msg' val'/\Ar m.c m.opAt m.trace val (n.answered m.c i f' m.trace p).2.2 val'/\(m.with_ i (n.answered m.c i f' m.trace p).1 (n.answered m.c i f' m.trace p).2.1 (n.answered m.c i f' m.trace p).2.2).todo msg' < m.todo msg:=by
 obtain⟨hs,b1,b2,b3,R1,ho,hl⟩:=G.pk.takeA ht;have hc:=X.inv.ok;have NI:=X.inv.dG i n hn;have NX_:=X.dG i n hn;have hi:=X.range hn;have hm:(m.abs msg val).msg i=.ans p:=b3;have hd:(m.abs msg val).aF i=n.aF:=jL hn;have hQ:=(X.inv.fab.take i false).2 p (by rw [ht]);rcases G.abs.dG i hi.1 hi.2 with⟨_,h⟩ | O
 ·rw [hm] at h;cases h
 have OL:=O.aj;rw [hd] at OL;have hut:=GH ht;have hm':msg i=.ans p:=hm;rcases O.at_ with⟨_,_,h | ⟨h,_⟩⟩ | hold | F
 ·rw [hm] at h;cases h
 ·rw [hm] at h;cases h
 ·-- the aF goes on
  obtain⟨_,H⟩:=G.abs.holder O.aj hold hi.1;rw [hd,hm] at H;rw [hd] at hold;have hst:=H.ans;have hs0:n.aF.step≠0:=by omega
  have DO:=NI.aF hs0;have hv:=G.abs.val n.aF.aj OL.1 OL.2;have hmiss:n.aF.aS=1->n.aF.step=1∨n.aF.step=2->(m.abs msg val).ent n.aF.aj i=none:=by
   have:=O.miss;rw [hd] at this;exact this
  obtain⟨ca,d',hA,Nx⟩:=TV (c:=m.c) NI.aC.aG hi hv (pF hn n.aF.aj) OL.1 (λh3=> (DO.work h3 (by omega)).full) DO.aS hmiss H;have hdat:d'.data.length<=4:=by
   have:=Rn (me:=i) (NI.aC.le hc) NX_ (p:=p) (by
    have:=hQ.ok;simp only [Pkt.ok,zae,decide_eq_true_eq] at this;omega)
   rw [hA] at this;exact this
  have hid:0<=d'.id/\d'.id < 4096:=by
   have:=O.idr;rw [hd] at this;rw [Nx.id];exact this
  have akM:0<=d'.aj/\d'.aj < m.c.aG:=by rw [Nx.aj];exact OL
  have hnw:(m.abs msg val).msg i≠.wait:=by rw [hm];exact λe=> by cases e
  have hki:d'.aS=((m.abs msg val).aF i).aS:=by rw [hd];exact Nx.aS
  have hii:d'.id=((m.abs msg val).aF i).id:=by rw [hd];exact Nx.id
  have hmi:bT msg i .idle i=.idle:=aB;have hidle:bT (bT msg i .idle) i (.req (d'.ask i (m.c.aQ d'.aj)))=bT msg i (.req (d'.ask i (m.c.aQ d'.aj))):=by
   funext k
   by_cases h:k=i
   ·rw [h,aB,aB]
   ·rw [aI h,aI h,aI h]
  have hout:1<=f'.out:=by
   have:=(jY hc).2.2.2.2.2.1;rw [ho,X.inv.fab.out];exact this.1
  have send:∀{E:pG} {r:Row} {v:List Int},Hold m.c.au (m.c.aQ n.aF.aj) E r v i d' (.req (d'.ask i (m.c.aQ n.aF.aj)))->oG (f'.send (d'.ask i (m.c.aQ d'.aj))).1 (bT msg i (.req (d'.ask i (m.c.aQ d'.aj)))):=λH'=> by
   rw [<-Nx.aj] at H';obtain⟨a1,a2,a3,a4,a5⟩:=aej hc hi H' akM hid hdat;have:=R1.aie (p:=d'.ask i (m.c.aQ d'.aj)) (by rw [a3,hmi];exact λq e=> by cases e) (by rw [a3,hmi];exact λq e=> by cases e) a1 a2 (by rw [a3];exact X.is hi hl) (X.is ⟨a4,a5⟩ hl) hout;rw [a3,hidle] at this;exact this.2
  rcases Nx.next with⟨hno,H'⟩ | ⟨h6,h3,e,he,hev,hcase⟩
  ·-- no operation ends
   have hans:n.answered m.c i f' m.trace p=({ n with aC:=ca,aF:=d' },(f'.send (d'.ask i (m.c.aQ d'.aj))).1,m.trace):=by
    unfold Node.answered;rw [hA];simp only [zbJ,if_false,if_neg Nx.step,if_neg hno];rfl
   rw [hans];refine⟨bT msg i (.req (d'.ask i (m.c.aQ d'.aj))),val,⟨?_,send H'⟩,.same,lX X hn OL rfl Nx.other (λL' hL y=> by
    rw [tK (.inr (.inr (.inl (by show d'.aj≠_;rw [Nx.aj];exact λe=> hL e.symm)))),tK (.inr (.inr (.inl λe=> hL e.symm)))]) (by have:=lW f' (d'.ask i (m.c.aQ d'.aj));dsimp only;omega) (λj hj=> aI hj) (by
    rw [aB,hm'];have:=Nx.fall p (d'.ask i (m.c.aQ d'.aj)) hno;show 33*n.EK+Dp d' _+wt d' _ (ca.find _) < _;omega)⟩
   show lN m.c ((m.with_ i { n with aC:=ca,aF:=d' } (f'.send (d'.ask i (m.c.aQ d'.aj))).1 m.trace).abs (bT msg i (.req (d'.ask i (m.c.aQ d'.aj)))) val);rw [ou (n':={ n with aC:=ca,aF:=d' }) (msg:=msg) (val:=val) hn rfl (L:=n.aF.aj) Nx.other];have:=G.abs.goes (x:=ca.find n.aF.aj) (v:=val n.aF.aj) (d:=d') hi OL hold hnw hv Nx.aj hki hii (λa b=> Nx.miss a b) H';have hvs:bT (m.abs msg val).val n.aF.aj (val n.aF.aj)=val:=iL;rw [hvs,<-Nx.aj] at this;rw [<-Nx.aj];exact this
  ·-- an operation ends
   have hk3:n.aF.aS≠3:=by rw [<-Nx.aS];exact h3
   have W:=DO.work hk3 (by omega);obtain⟨o,o1,o2,o3,o4⟩:=W.op;have NXT:=Rk NI.aC DO hs0 hQ (by rw [<-Aa];exact hA);have hem:=(fQ NXT.inv.aG).1 he;have E_:=NXT.inv.ent e hem.1;have hright:=NI.bW.right o (zat o1);have hw:0<=m.c.bM o.addr/\m.c.bM o.addr < m.c.aH:=⟨(aiH hc hright.1).wlo,(aiH hc hright.1).whi⟩
   have hdl:=E_.dat.1;have hko:o.aS=1∨((o.aS=2∨o.aS=3)/\e.bG=true):=by
    rcases hcase with⟨k1,_⟩ | ⟨k2,hdt,_⟩
    ·exact .inl (o3 k1)
    ·exact .inr ⟨o4 k2,hdt⟩
   obtain⟨w1,w2,w3,w4,w5,w6,w7⟩:=XE (c:=m.c) (val:=val) hko (by rw [o2];exact hev) (by omega);have y:=qW e o (m.c.bM o.addr);have hput:=uy NXT.inv.aG (e:=dS e o (m.c.bM o.addr)) (x:=e) (by rw [y.1];exact E_.lo) (by rw [y.1,hem.2];exact he);have hsame:({ dS e o (m.c.bM o.addr) with used:=e.used }:Ent)=dS e o (m.c.bM o.addr):=by rw [<-y.2.1]
   have hop:n.bW.op=o:=by unfold Proc.op;rw [o1];rfl
   have hidx:n.bW.idx=n.bW.bf.length:=by unfold Proc.idx;rw [o1]
   have hans:n.answered m.c i f' m.trace p=({ n with aC:=(ca.put (dS e o (m.c.bM o.addr))).1,aF:=d',bW:=n.bW.EP (if o.aS=2 then 0 else e.word (m.c.bM o.addr)) },(f'.send (d'.ask i (m.c.aQ d'.aj))).1,m.trace++[⟨i,n.bW.bf.length,true,if o.aS=2 then 0 else e.word (m.c.bM o.addr)⟩]):=by
    unfold Node.answered;rw [hA];simp only [zbJ,if_false,if_neg Nx.step,if_pos (show d'.step=6/\d'.aS≠3 from⟨h6,h3⟩)];unfold Node.effect Node.done;simp only [hop,o2,he,zax,hidx];rfl
   rw [hans];have hx:(ca.put (dS e o (m.c.bM o.addr))).1.find n.aF.aj=some (dS e o (m.c.bM o.addr)):=by
    rw [hput,if_pos (by rw [y.1,hem.2]),hsame]
   have akN:(lJ m.c o val).1 n.aF.aj≠[]:=by
    rw [<-o2,<-w1];intro h0;have h1:=y.2.2.2;rw [h0] at h1;simp only [zak] at h1;omega
   have H':Hold m.c.au (m.c.aQ n.aF.aj) (lM ((m.abs msg val).ent n.aF.aj) i (some (dS e o (m.c.bM o.addr)))) ((m.abs msg val).row n.aF.aj) ((lJ m.c o val).1 n.aF.aj) i d' (.req (d'.ask i (m.c.aQ n.aF.aj))):=by
    rcases hcase with⟨k1,Hc⟩ | ⟨k2,hdt,Hc⟩
    ·have hv1:(lJ m.c o val).1 n.aF.aj=val n.aF.aj:=by
      unfold lJ;rw [if_pos (o3 k1)]
     rw [w7 (o3 k1),hv1];exact Hc
    ·have:=Hc (dS e o (m.c.bM o.addr)) w4 w5 w6;rw [w1,o2] at this;exact this
   refine⟨bT msg i (.req (d'.ask i (m.c.aQ d'.aj))),(lJ m.c o val).1,⟨?_,send H'⟩,?_,lX X hn OL rfl (λL hL=> by
     show(ca.put _).1.find L=_;rw [hput,if_neg (by rw [y.1,hem.2];exact hL)];exact Nx.other L hL) (λL' hL y=> by
    rw [tK (.inr (.inr (.inl (by show d'.aj≠_;rw [Nx.aj];exact λe=> hL e.symm)))),tK (.inr (.inr (.inl λe=> hL e.symm)))]) (by have:=lW f' (d'.ask i (m.c.aQ d'.aj));dsimp only;omega) (λj hj=> aI hj) ?_⟩
   ·have habs:=ou (m:=m) (n:=n) (n':={ n with aC:=(ca.put (dS e o (m.c.bM o.addr))).1,aF:=d',bW:=n.bW.EP (if o.aS=2 then 0 else e.word (m.c.bM o.addr)) }) (f:=(f'.send (d'.ask i (m.c.aQ d'.aj))).1) (t:=m.trace++[⟨i,n.bW.bf.length,true,if o.aS=2 then 0 else e.word (m.c.bM o.addr)⟩]) (msg:=msg) (val:=val) (msg':=bT msg i (.req (d'.ask i (m.c.aQ d'.aj)))) (val':=(lJ m.c o val).1) hn rfl (L:=n.aF.aj) (λL hL=> by
     show(ca.put _).1.find L=_;rw [hput,if_neg (by rw [y.1,hem.2];exact hL)];exact Nx.other L hL)
    rw [habs];simp only [hx];have:=G.abs.goes (x:=some (dS e o (m.c.bM o.addr))) (v:=(lJ m.c o val).1 n.aF.aj) (d:=d') hi OL hold hnw akN Nx.aj hki hii (λ_ b=> by omega) H';have hvf:bT val n.aF.aj ((lJ m.c o val).1 n.aF.aj)=(lJ m.c o val).1:=by
     funext L
     by_cases hL:L=n.aF.aj
     ·rw [hL,aB]
     ·rw [aI hL,w2 L (by rw [o2];exact hL)]
    have alV:bT (m.abs msg val).val n.aF.aj ((lJ m.c o val).1 n.aF.aj)=(lJ m.c o val).1:=hvf;rw [alV,<-Nx.aj] at this;rw [<-Nx.aj];exact this
   ·rw [w3];exact .done i n.bW.bf.length o (JA hn o1) .same
   ·rw [aB,hm'];have ht:=BR (n':={ n with aC:=(ca.put (dS e o (m.c.bM o.addr))).1,aF:=d',bW:=n.bW.EP (if o.aS=2 then 0 else e.word (m.c.bM o.addr)) }) o1 W.eG rfl;have hD:Dp d' (.req (d'.ask i (m.c.aQ d'.aj)))=16:=by
     unfold Dp;rw [if_neg (by omega),if_pos (.inr h6),h6];rfl
    have:=aeh (d:=d') (L:=n.aF.aj) (x:=(ca.put (dS e o (m.c.bM o.addr))).1.find n.aF.aj)
    dsimp only at ht ⊢
    omega
 ·-- the aF is over
  obtain⟨f1,f2,f3⟩:=F;have F':akF m.c (m.abs msg val) i:=⟨f1,f2,f3⟩
  rw [hd] at f1;rw [hm,hd] at f3;have hp:p=ZK m.c n.aF i:=Out.ans.inj f3;have hfit:n.aF.fits p=true:=XC (by rw [hp,f1];rfl) (by rw [hp];rfl) (by rw [hp];rfl) (by omega);have DO:=NI.aF (by omega);have hA:n.after i p=(n.aC,n.aF.end_,true):=by
   unfold Node.after;by_cases k1:n.aF.aS=1
   ·rw [if_pos k1];unfold iI;rw [if_neg (by rw [k1,hfit];simp),if_neg (by omega),if_neg (by omega),if_pos f1];rfl
   ·rw [if_neg k1];by_cases k2:n.aF.aS=2
    ·rw [if_pos k2];unfold jy;rw [if_neg (by rw [k2,hfit];simp),if_neg (by omega),if_neg (by omega),if_pos f1];rfl
    ·have k3:n.aF.aS=3:=by have:=DO.aS;omega
     rw [if_neg k2,if_pos k3];unfold kE;rw [if_neg (by rw [k3,hfit];simp),if_neg (by omega),if_neg (by omega),if_neg (by omega),if_pos f1];rfl
  have hov:=G.abs.over hi F' (d:=n.aF.end_) rfl;have wts:∀L' y,wt n.aF.end_ L' y=wt n.aF L' y:=λL' y=> by rw [tK (.inl rfl),tK (.inr (.inl f1))]
  have hD:Dp n.aF (.ans p)=14:=by
   unfold Dp;rw [if_neg (by omega),if_pos (.inr f1),f1];rfl
  have hE:Dp n.aF.end_ .idle=13:=rfl;by_cases hfl:n.aF.aS=3/\n.bW.op.aS=4
  ·have hcur:∃o,n.bW.cur=some o:=by
    cases h:n.bW.cur with
    | some o=> exact⟨o,rfl⟩
    | none=>
     have:=hfl.2;unfold Proc.op at this;rw [h] at this;exact absurd this (by decide)
   obtain⟨o,o1⟩:=hcur;have hop:n.bW.op=o:=by unfold Proc.op;rw [o1];rfl
   have hidx:n.bW.idx=n.bW.bf.length:=by unfold Proc.idx;rw [o1]
   have hans:n.answered m.c i f' m.trace p=({ n with aF:=n.aF.end_,bW:=n.bW.EP 0 },f',m.trace++[⟨i,n.bW.bf.length,true,0⟩]):=by
    unfold Node.answered;rw [hA];simp only [zbJ,if_false,show n.aF.end_.step=0 from rfl,if_true,show n.aF.end_.aS=n.aF.aS from rfl,if_pos hfl];unfold Node.done;simp only [hidx]
   rw [hans];refine⟨bT msg i .idle,val,⟨?_,R1⟩,?_,lX X hn OL rfl (λ_ _=> rfl) (λL' _ y=> wts L' y) (by dsimp only;omega) (λj hj=> aI hj) (by
    rw [aB,hm'];have ht:=BR (n':={ n with aF:=n.aF.end_,bW:=n.bW.EP 0 }) o1 (DO.roll hfl.1) rfl
    dsimp only at ht ⊢
    rw [wts,hD,hE];omega)⟩
   ·show lN m.c ((m.with_ i { n with aF:=n.aF.end_,bW:=n.bW.EP 0 } f' _).abs (bT msg i .idle) val);rw [BQ (n':={ n with aF:=n.aF.end_,bW:=n.bW.EP 0 }) (msg:=msg) (val:=val) hn rfl (λ_=> rfl)];exact hov
   ·have alW:lJ m.c o val=(val,0):=by
     have:o.aS=4:=by rw [<-hop];exact hfl.2
     unfold lJ;rw [if_neg (by omega),if_neg (by omega),if_neg (by omega)]
    have:=Ar.done (c:=m.c) (P:=m.opAt) i n.bW.bf.length o (JA hn o1) (.same (t:=m.trace) (v:=val));rw [alW] at this;exact this
  ·have hans:n.answered m.c i f' m.trace p=({ n with aF:=n.aF.end_ },f',m.trace):=by
    unfold Node.answered;rw [hA];simp only [zbJ,if_false,show n.aF.end_.step=0 from rfl,if_true,show n.aF.end_.aS=n.aF.aS from rfl,if_neg hfl]
   rw [hans];refine⟨bT msg i .idle,val,⟨?_,R1⟩,.same,lX X hn OL rfl (λ_ _=> rfl) (λL' _ y=> wts L' y) (by dsimp only;omega) (λj hj=> aI hj) (by
    rw [aB,hm']
    dsimp only
    rw [wts,hD,hE];show 33*n.EK+_+_ < _;omega)⟩
   show lN m.c ((m.with_ i { n with aF:=n.aF.end_ } f' _).abs (bT msg i .idle) val);rw [BQ (n':={ n with aF:=n.aF.end_ }) (msg:=msg) (val:=val) hn rfl (λ_=> rfl)];exact hov
end
theorem Px {k s d id l pt st:Int}{fl:Bool}{x:List Int}(h:((0<=s/\s < 6)/\0<=d/\d < 6)/\(0<=id/\id < 4096)/\(1<=k/\k < 10)/\(0<=l/\l < 8)/\(-1<=pt/\pt < 6)/\(0<=st/\st < 3)/\x.length<=4):(⟨k,s,d,id,l,pt,st,fl,x⟩:Pkt).ok=true:=by
 obtain⟨⟨⟨h1,h2⟩,h3,h4⟩,⟨h5,h6⟩,⟨h7,h8⟩,⟨h9,ha⟩,⟨hb,hc⟩,⟨hd,he⟩,hf⟩:=h;simp [Pkt.ok,h1,h2,h3,h4,h5,h6,h7,h8,h9,ha,hb,hc,hd,he,hf]
inductive MH (N hm:Int) (E:pG) (r:Row) (v:List Int) (s:Int) (d:dL) (p:Pkt) (e:Ent):Prop
 | attach:p.aS=3->Hold N hm (lM E p.dst (some { e with bG:=false,back:=p.ptr })) r v s d (.ans ⟨9,p.dst,p.src,p.id,p.aj,0,0,e.bG,e.data⟩)->MH N hm E r v s d p e
 | front:p.aS=4->Hold N hm (lM E p.dst (some { e with fwd:=p.ptr })) r v s d (.ans ⟨8,p.dst,p.src,p.id,p.aj,0,0,false,[]⟩)->MH N hm E r v s d p e
 | behind:p.aS=5->Hold N hm (lM E p.dst (some { e with back:=p.ptr })) r v s d (.ans ⟨8,p.dst,p.src,p.id,p.aj,0,0,false,[]⟩)->MH N hm E r v s d p e
 | EX:p.aS=6->-1<=e.fwd/\e.fwd < N->Hold N hm (lM E p.dst none) r v s d (.ans ⟨9,p.dst,p.src,p.id,p.aj,e.fwd,0,e.bG,e.data⟩)->MH N hm E r v s d p e
theorem Rng.ZO {N:Int}{l:List Int}(h:Rng N l)(hN:0 < N):-1<=hdI l (-1)/\hdI l (-1) < N:=by
 by_cases hl:l=[]
 ·rw [hl];exact⟨zbe _,by show(-1:Int) < N;omega⟩
 ·have:=h.2 _ (h.hd hl).1;omega
theorem aik {N hm:Int}{E:pG}{r:Row}{v:List Int}{s:Int}{d:dL}{p:Pkt}(hN:0 < N)(H:Hold N hm E r v s d (.req p))(hk:3<=p.aS/\p.aS<=6):∃e,E p.dst=some e/\MH N hm E r v s d p e:=by
 obtain⟨hp,_,_⟩:=H.req;have hq:∃q,Out.req p=q/\Hold N hm E r v s d q:=⟨_,rfl,H⟩
 obtain⟨q,hq,H⟩:=hq;cases H with
 | attach k1 k2 k3 k4 W=>
  have e:p=⟨3,s,d.head,d.id,d.aj,s,0,false,[]⟩:=by rw [hp];unfold dL.ask;simp [k1]
  obtain⟨x,h1,h2⟩:=LU (hm:=hm) k1 k2 k3 k4 W;exact⟨x,by rw [e];exact h1,.attach (by rw [e]) (by rw [e];exact h2)⟩
 | EX k1 k2 L k3 k4=>
  have e:p=⟨6,s,d.next,d.id,d.aj,0,0,false,[]⟩:=by rw [hp];unfold dL.ask;simp [k1]
  obtain⟨x,h1,h2⟩:=O9 (hm:=hm) (r:=r) k1 k2 L k3 k4;have hx:-1<=x.fwd/\x.fwd < N:=by
   obtain⟨⟨y,hy,hf⟩,_⟩:=L.ch;rw [h1] at hy;cases hy;rw [hf];exact Rng.ZO ⟨(zaW.1 L.rng.1).2,λj hj=> L.rng.2 j (by simp [hj])⟩ hN
  exact⟨x,by rw [e];exact h1,.EX (by rw [e]) hx (by rw [e];exact h2)⟩
 | front k1 k2 M k3 C k4 k5 k6=>
  have e:p=⟨4,s,d.head,d.id,d.aj,d.next,0,false,[]⟩:=by rw [hp];unfold dL.ask;simp [k1]
  obtain⟨x,h1,h2⟩:=Pg (hm:=hm) k1 k2 M k3 C k4 k5 k6;exact⟨x,by rw [e];exact h1,.front (by rw [e]) (by rw [e];exact h2)⟩
 | behind k1 k2 M k3 C C' k4 k5 k6=>
  have e:p=⟨5,s,d.next,d.id,d.aj,d.head,0,false,[]⟩:=by rw [hp];unfold dL.ask;simp [k1]
  obtain⟨x,h1,h2⟩:=LV (hm:=hm) k1 k2 M k3 C C' k4 k5 k6;exact⟨x,by rw [e];exact h1,.behind (by rw [e]) (by rw [e];exact h2)⟩
 | unlock k1 W=>
  have e:p.aS=2:=by rw [hp];unfold dL.ask;simp [k1]
  omega
 | granted _ _=> cases hq
 | attached _ _ _ _ _ _ _ _ _ _=> cases hq
 | Eu _ _ _ _ _=> cases hq
 | wB _ _ _ _ _ _ _ _ _=> cases hq
 | qY _ _ _ _ _ _ _ _ _=> cases hq
section
variable {m:bH}{T:Nat}{i:Nat}{n n':Node}{f:Fab}{t:List Evn}{msg msg':Int->Out}{val val':Int->List Int}
theorem akO {α:Type}{g:Int->α}{j:Int}{x y:α}:bT (bT g j x) j y=bT g j y:=by
 funext k
 by_cases h:k=j
 ·rw [h,aB,aB]
 ·rw [aI h,aI h,aI h]
theorem XO(X:MX T m)(hn:m.au[i]?=some n)(L:Int):(jg n.home.dF L).data.length<=4:=by
 have NI:=X.inv.dG i n hn;have:=(jY X.inv.ok).2.2.1;unfold jg;cases h:jq n.home.dF L with
 | none=> exact zaR _
 | some r=>
  have:=(NI.dF _ (mF h)).1;simp only [zax] at*;omega
theorem JB {d:dL}(h0:d.step≠0)(h3:d.step≠3)(p q:Pkt):Dp d (.ans q) < Dp d .wait/\Dp d .wait < Dp d (.req p):=by
 unfold Dp loc;simp only [if_neg h0,if_neg h3];omega
theorem yj(X:MX T m)(hn:m.au[i]?=some n)(h1:n'.aC=n.aC)(h2:n'.aF=n.aF)(h3:n'.bW=n.bW){s:Int}(hs:0<=s/\s < m.c.au)(hm:∀j,j≠s->msg' j=msg j)(hd:Dp (m.nG s) (msg' s) < Dp (m.nG s) (msg s))(hu:f.under<=m.fab.under+1):(m.with_ i n' f t).todo msg' < m.todo msg:=by
 obtain⟨val,hv⟩:∃val:Int->List Int,val=λ_=> []:=⟨_,rfl⟩
 refine Pv (val:=val) (val':=val) ?_ hu;have hl:n'.EK=m.yh i:=by rw [Jz hn];unfold Node.EK;rw [h3]
 rw [zx hn,hl,iL];refine aev (i:=s) hs (by have:=(jY X.inv.ok).2.1;omega) ?_ ?_ hm hd
 ·show(m.with_ i n' f t).jl=m.jl
  funext L
  rw [EF hn,h1,<-pF hn L,ku]
 ·show(m.with_ i n' f t).nG=m.nG;rw [zq hn,h2,<-jL hn,iL]
theorem Ua(X:MX T m)(hn:m.au[i]?=some n){L s:Int}{x:Option Ent}{e:Ent}{p q:Pkt}{ca:Cache}(hs:0<=s/\s < m.c.au)(hL:0<=L/\L < m.c.aG)(h1:∀L',L'≠L->ca.find L'=n.aC.find L')(h2:ca.find L=x)(hm:msg s=.req p)(he:n.aC.find L=some e)(h0:(m.nG s).step≠0)(h3:(∃e',x=some e')/\(m.nG s).step≠3∨x=none)(hu:f.under<=m.fab.under+1):(m.with_ i { n with aC:=ca } f t).todo (bT msg s (.ans q)) < m.todo msg:=by
 obtain⟨val,hv⟩:∃val:Int->List Int,val=λ_=> []:=⟨_,rfl⟩
 refine Pv (val:=val) (val':=val) ?_ hu;have hdf:bT m.nG i n.aF=m.nG:=by rw [<-jL hn,iL]
 have hlf:bT m.yh i n.EK=m.yh:=by rw [<-Jz hn,iL]
 rw [zx hn,show Node.EK { n with aC:=ca }=n.EK from rfl,hlf,ou (n':={ n with aC:=ca }) (msg:=msg) (val:=val) hn rfl h1];simp only [h2,hdf];exact XM (a:=m.abs msg val) (X.range hn) hs hL hm ((pF hn L).trans he) h0 h3
theorem GInv.grant(X:MX T m)(G:GInv m msg val)(hn:m.au[i]?=some n)(hr:n.home.ready≠[])(hroom:0 < m.fab.roomOf i false):
  ∃msg',GInv (m.with_ i { n with home:=(n.home.grant i).1 } (m.fab.send (n.home.grant i).2.1).1 t) msg' val/\(m.with_ i { n with home:=(n.home.grant i).1 } (m.fab.send (n.home.grant i).2.1).1 t).todo msg' < m.todo msg:=by
 have hc:=X.inv.ok;have NI:=X.inv.dG i n hn;have hi:=X.range hn;cases hrd:n.home.ready with
 | nil=> exact absurd hrd hr
 | cons L l=>
  obtain⟨r1,r2,r3⟩:=xk hrd;obtain⟨e,he,rfl⟩:=zaD.1 r3;have hh:=NI.home.here e he;unfold jS at hh;simp only [zae,decide_eq_true_eq] at hh;obtain⟨⟨l0,l1⟩,l2⟩:=hh;have hL:m.c.aQ e.1=i:=by unfold Cfg.aQ sO;rw [if_neg (by omega)];exact l2
  have hown:n.home.aT.owner e.1=-1:=Classical.byContradiction λh=> by
   have:=(NI.home.aT.owned e.1).2 h;rw [r1] at this;cases this
  cases hws:n.home.aT.ws e.1 with
  | nil=> exact absurd hws r2
  | cons w ws=>
   obtain⟨t1,t2,t3⟩:=TU NI.home.aT hown hws;have ho:(m.abs msg val).own e.1=-1:=by show(m.kV e.1).aT.owner e.1=-1;rw [mG hn hL];exact hown
   have hw:(m.abs msg val).ws e.1=w::ws:=by show(m.kV e.1).aT.ws e.1=_;rw [mG hn hL];exact hws
   have hrow:(m.abs msg val).row e.1=jg n.home.dF e.1:=by show jg (m.kV e.1).dF e.1=_;rw [mG hn hL]
   obtain⟨hi',hmw,I'⟩:=G.abs.grant ⟨l0,l1⟩ ho hw;have hgr:n.home.grant i=({ n.home with aT:=(n.home.aT.next e.1).1 },granted n.home.dF i e.1 w.1 w.2,true):=by
    unfold Home.grant;rw [hrd];simp only;cases hx:n.home.aT.next e.1 with
    | mk tt ww=>
     rw [hx] at t1;simp only at t1;rw [t1]
   rw [hgr];have hO:aef m.c (m.abs msg val) w.1:=by
    rcases G.abs.dG w.1 hi'.1 hi'.2 with⟨_,h⟩ | O
    ·rw [hmw] at h;cases h
    ·exact O
   have alX:((m.abs msg val).aF w.1).id=w.2:=((G.abs.ws e.1).2 w (by rw [hw];simp)).2.2.2.2.1;obtain⟨lw,W⟩:∃lw,Wf m.c.au ((m.abs msg val).ent e.1) ((m.abs msg val).row e.1) ((m.abs msg val).val e.1) lw:=by
    rcases G.abs.aj e.1 l0 l1 with⟨_,h⟩ | ⟨h,_⟩
    ·exact h
    ·omega
   obtain⟨cn,cl,_⟩:=jY hc;have hhd:=W.rng.ZO (by omega);have hst:=W.st;have hhead:=W.head;rw [hrow] at hst hhead;have hid:=hO.idr;rw [alX] at hid;have hlen:=XO X hn e.1;have hpk:(granted n.home.dF i e.1 w.1 w.2).ok=true:=by
    exact Px (by omega)
   have hsd:=G.pk.TQ (p:=granted n.home.dF i e.1 w.1 w.2) (λq h=> by rw [show(granted n.home.dF i e.1 w.1 w.2).dst=w.1 from rfl] at h;exact absurd (hmw.symm.trans h) (λe=> by cases e)) (λq h=> by rw [show(granted n.home.dF i e.1 w.1 w.2).dst=w.1 from rfl] at h;exact absurd (hmw.symm.trans h) (λe=> by cases e)) hpk rfl (X.is hi rfl) (X.is hi' rfl) hroom;have hst1:((m.abs msg val).aF w.1).step=1:=((G.abs.ws e.1).2 w (by rw [hw];simp)).2.2.2.2.2;refine⟨_,⟨?_,hsd.2⟩,yj X hn rfl rfl rfl hi' (λj hj=> aI hj) (by
    rw [show(granted n.home.dF i e.1 w.1 w.2).dst=w.1 from rfl,aB,show msg w.1=.wait from hmw];exact(JB (by show((m.abs msg val).aF w.1).step≠0;omega) (by show((m.abs msg val).aF w.1).step≠3;omega) .zero _).1) (lW _ _)⟩
   show lN m.c ((m.with_ i { n with home:={ n.home with aT:=(n.home.aT.next e.1).1 } } (m.fab.send (granted n.home.dF i e.1 w.1 w.2)).1 t).abs _ val);rw [BL (n':={ n with home:={ n.home with aT:=(n.home.aT.next e.1).1 } }) (msg:=msg) hn (λ_=> rfl) rfl hL (λ_ _=> rfl) (λL' h=> by show(n.home.aT.next e.1).1.owner L'=_;rw [t2,if_neg h]) (λL' h=> by show(n.home.aT.next e.1).1.ws L'=_;rw [t3,if_neg h])];have a1:bT (m.abs msg val).row e.1 (jg n.home.dF e.1)=(m.abs msg val).row:=by rw [<-hrow,iL]
   simp only [a1,t2,t3,if_true];have a2:granted n.home.dF i e.1 w.1 w.2=⟨7,m.c.aQ e.1,w.1,w.2,e.1,((m.abs msg val).row e.1).head,((m.abs msg val).row e.1).aW,false,((m.abs msg val).row e.1).data⟩:=by
    rw [hrow,hL];rfl
   rw [a2];exact I'
set_option maxHeartbeats 1000000 in
theorem GInv.asked(X:MX T m)(G:GInv m msg val)(hn:m.au[i]?=some n){f':Fab}{p:Pkt}(ht:m.fab.take i true=(f',some p))(hroom:0 < m.fab.roomOf i false):
  ∃msg',GInv (m.with_ i (n.asked m.c i f' p).1 (n.asked m.c i f' p).2 t) msg' val/\(m.with_ i (n.asked m.c i f' p).1 (n.asked m.c i f' p).2 t).todo msg' < m.todo msg:=by
 obtain⟨hs,b1,b2,b3,R1,ho,hl,hrm⟩:=G.pk.akG ht;have hc:=X.inv.ok;obtain⟨cn,cl,_⟩:=jY hc;have NI:=X.inv.dG i n hn;have hi:=X.range hn;have hsr:0<=p.src/\p.src < m.c.au:=by
  have:=G.pk.rg _ p (.inl b3);have hln:=X.inv.fab.len;unfold Fab.is at this;simp only [zae,decide_eq_true_eq] at this;omega
 have hmr:(m.abs msg val).msg p.src=.req p:=b3;have hQ:=(X.inv.fab.take i true).2 p (by rw [ht]);obtain⟨O,p1,p2,p3,p4⟩:=G.abs.req hsr hmr;have hpk:=hQ.ok;have alY:=hpk;simp only [Pkt.ok,zae,decide_eq_true_eq] at alY;have OL:=O.aj;rw [p2] at OL;have hkind:p.aS=KO ((m.abs msg val).aF p.src).step:=(congrArg Pkt.aS p1).trans (jK p3).1;have hroom':0 < f'.roomOf i false:=by rw [hrm];exact hroom
 have hms:bT msg p.src .idle p.src=.idle:=aB;have TQ:∀q:Pkt,q.ok=true->wQ q.aS=false->q.src=i->q.dst=p.src->oG (f'.send q).1 (bT msg p.src (.ans q)):=λq h1 h2 h3 h4=> by
  have:=R1.TQ (p:=q) (by rw [h4,hms];exact λx e=> by cases e) (by rw [h4,hms];exact λx e=> by cases e) h1 h2 (by rw [h3];exact X.is hi hl) (by rw [h4];exact X.is hsr hl) (by rw [h3];exact hroom');rw [h4,akO] at this;exact this.2
 -- the ali requests
 have hhome:p.aS=1∨p.aS=2->m.c.aQ p.aj=i:=λh=> by
  have h16:((m.abs msg val).aF p.src).step=1∨((m.abs msg val).aF p.src).step=6:=by
   have:((m.abs msg val).aF p.src).step=1∨((m.abs msg val).aF p.src).step=2∨((m.abs msg val).aF p.src).step=3∨((m.abs msg val).aF p.src).step=4∨((m.abs msg val).aF p.src).step=5∨((m.abs msg val).aF p.src).step=6:=by omega
   rw [hkind] at h;rcases this with e | e | e | e | e | e <;> simp [e,KO] at h ⊢
  have hdst:p.dst=m.c.aQ p.aj:=by
   have h1:=congrArg Pkt.dst p1;unfold dL.ask at h1;rcases h16 with e | e
   ·simpa [e] using h1
   ·simpa [e] using h1
  rw [<-hdst];exact b1
 have hut:=GH ht;have hst3:p.aS≠6->((m.abs msg val).aF p.src).step≠3:=λh e=> h (by rw [hkind,e];rfl);by_cases hk:p.aS=1∨p.aS=2
 ·have hL:=hhome hk;have hst3:=hst3 (by omega);have habs:∀L,m.c.aQ L=i->(m.abs msg val).own L=n.home.aT.owner L/\(m.abs msg val).ws L=n.home.aT.ws L/\(m.abs msg val).row L=jg n.home.dF L:=λL h=> by
   refine⟨?_,?_,?_⟩
   ·show(m.kV L).aT.owner L=_;rw [mG hn h]
   ·show(m.kV L).aT.ws L=_;rw [mG hn h]
   ·show jg (m.kV L).dF L=_;rw [mG hn h]
  obtain⟨ao,aw,ar⟩:=habs p.aj hL;have alj:bT (m.abs msg val).row p.aj (jg n.home.dF p.aj)=(m.abs msg val).row:=by rw [<-ar,iL]
  have alZ:bT (m.abs msg val).own p.aj (n.home.aT.owner p.aj)=(m.abs msg val).own:=by rw [<-ao,iL]
  have alk:bT (m.abs msg val).ws p.aj (n.home.aT.ws p.aj)=(m.abs msg val).ws:=by rw [<-aw,iL]
  have hcond:¬((!(p.ok && decide (p.dst=(i:Int)) && decide (p.src < m.c.au)) || (decide (p.aS≠1) && decide (p.aS≠2)))=true):=by
   rcases hk with h | h <;> simp [hpk,b1,hsr.2,h]
  rcases hk with hk1 | hk2
  ·by_cases hfree:n.home.aT.owner p.aj=-1/\n.home.aT.ws p.aj=[]
   ·obtain⟨t1,t2,t3⟩:=Fa (id:=p.id) NI.home.aT hsr.1 hfree.1 hfree.2;have hh:n.home.handle m.c i p=({ n.home with aT:=(n.home.aT.ask p.aj p.src p.id).1 },granted n.home.dF i p.aj p.src p.id,true,0):=by
     unfold Home.handle;rw [if_neg hcond,if_neg (by rw [hL];omega),if_pos hk1];simp only [t1,if_true]
    have hans:n.asked m.c i f' p=({ n with home:={ n.home with aT:=(n.home.aT.ask p.aj p.src p.id).1 } },(f'.send (granted n.home.dF i p.aj p.src p.id)).1):=by
     unfold Node.asked;rw [if_pos (.inl hk1),hh];simp
    rw [hans];have I':=G.abs.lock hsr hmr hk1 (by rw [ao];exact hfree.1);obtain⟨lw,W⟩:∃lw,Wf m.c.au ((m.abs msg val).ent p.aj) ((m.abs msg val).row p.aj) ((m.abs msg val).val p.aj) lw:=by
     rcases G.abs.aj p.aj OL.1 OL.2 with⟨_,h⟩ | ⟨h,_⟩
     ·exact h
     ·have:=hfree.1;omega
    have hhd:=W.rng.ZO (by omega);have hst:=W.st;have hhead:=W.head;rw [ar] at hst hhead;have hlen:=XO X hn p.aj;have hok:(granted n.home.dF i p.aj p.src p.id).ok=true:=by
     exact Px (by omega)
    refine⟨_,⟨?_,TQ _ hok rfl rfl rfl⟩,yj X hn rfl rfl rfl hsr (λj hj=> aI hj) (by
    rw [aB,show msg p.src=.req p from b3];have:=JB O.step hst3 p;exact Nat.lt_trans (this _).1 (this .zero).2) (by dsimp only;exact zaC (lW _ _) (by omega))⟩
    show lN m.c ((m.with_ i { n with home:={ n.home with aT:=(n.home.aT.ask p.aj p.src p.id).1 } } _ t).abs _ val);rw [BL (n':={ n with home:={ n.home with aT:=(n.home.aT.ask p.aj p.src p.id).1 } }) (msg:=msg) hn (λ_=> rfl) rfl hL (λ_ _=> rfl) (λL' h=> by show(n.home.aT.ask p.aj p.src p.id).1.owner L'=_;rw [t2,if_neg h]) (λL' h=> by show(n.home.aT.ask p.aj p.src p.id).1.ws L'=_;rw [t3])];simp only [alj,t2,t3,if_true,alk];have a2:granted n.home.dF i p.aj p.src p.id=⟨7,m.c.aQ p.aj,p.src,p.id,p.aj,((m.abs msg val).row p.aj).head,((m.abs msg val).row p.aj).aW,false,((m.abs msg val).row p.aj).data⟩:=by
     rw [ar,hL];rfl
    rw [a2];exact I'
   ·have akP:n.home.aT.owner p.aj≠-1∨n.home.aT.ws p.aj≠[]:=by
     by_cases h:n.home.aT.owner p.aj=-1
     ·exact .inr λh'=> hfree ⟨h,h'⟩
     ·exact .inl h
    obtain⟨t1,t2,t3⟩:=Fb (id:=p.id) NI.home.aT hsr.1 akP;have hh:n.home.handle m.c i p=({ n.home with aT:=(n.home.aT.ask p.aj p.src p.id).1 },.zero,false,0):=by
     unfold Home.handle;rw [if_neg hcond,if_neg (by rw [hL];omega),if_pos hk1];simp only [t1,zaj,if_false]
    have hans:n.asked m.c i f' p=({ n with home:={ n.home with aT:=(n.home.aT.ask p.aj p.src p.id).1 } },f'):=by
     unfold Node.asked;rw [if_pos (.inl hk1),hh];simp
    rw [hans];have I':=G.abs.wait hsr hmr hk1;have R2:oG f' (bT msg p.src .wait):=by
     have mi:∀j q,(bT msg p.src .wait j=.req q↔bT msg p.src .idle j=.req q)/\(bT msg p.src .wait j=.ans q↔bT msg p.src .idle j=.ans q):=λj q=> by
      by_cases h:j=p.src
      ·rw [h,aB,aB];exact⟨⟨λe=> (by cases e),λe=> (by cases e)⟩,⟨λe=> (by cases e),λe=> (by cases e)⟩⟩
      ·rw [aI h,aI h];exact⟨Iff.rfl,Iff.rfl⟩
     refine⟨λk q hq=> ?_,R1.rn,R1.an,λj q h=> R1.rc j q ((mi j q).1.1 h),λj q h=> R1.ac j q ((mi j q).2.1 h),λj q h=> R1.src j q ((mi j q).1.1 h),λj q h=> R1.dst j q ((mi j q).2.1 h),λj q h=> R1.rg j q (h.imp (mi j q).1.1 (mi j q).2.1)⟩;have P:=R1.port k q hq;exact⟨λx hx=> ⟨(P.rq x hx).1,(P.rq x hx).2.1,(mi _ _).1.2 (P.rq x hx).2.2⟩,λx hx=> ⟨(P.rin x hx).1,(P.rin x hx).2.1,(mi _ _).1.2 (P.rin x hx).2.2⟩,λx hx=> ⟨(P.an x hx).1,(P.an x hx).2.1,(mi _ _).2.2 (P.an x hx).2.2⟩,λx hx=> ⟨(P.ain x hx).1,(P.ain x hx).2.1,(mi _ _).2.2 (P.ain x hx).2.2⟩⟩
    refine⟨_,⟨?_,R2⟩,yj X hn rfl rfl rfl hsr (λj hj=> aI hj) (by
     rw [aB,show msg p.src=.req p from b3];exact(JB O.step hst3 p .zero).2) (by dsimp only;omega)⟩
    show lN m.c ((m.with_ i { n with home:={ n.home with aT:=(n.home.aT.ask p.aj p.src p.id).1 } } _ t).abs _ val);rw [BL (n':={ n with home:={ n.home with aT:=(n.home.aT.ask p.aj p.src p.id).1 } }) (msg:=msg) hn (λ_=> rfl) rfl hL (λ_ _=> rfl) (λL' h=> by show(n.home.aT.ask p.aj p.src p.id).1.owner L'=_;rw [t2]) (λL' h=> by show(n.home.aT.ask p.aj p.src p.id).1.ws L'=_;rw [t3,if_neg h])];simp only [alj,t2,t3,if_true,alZ];rw [<-aw];exact I'
  ·-- a aj is unlocked
   obtain⟨u1,u2,⟨lw,W⟩,u4,u5,I'⟩:=G.abs.unlock hsr hmr hk2;rw [ao] at u1;obtain⟨ns,hns⟩:∃ns,m.au[p.src.toNat]?=some ns:=⟨_,zab (by have:=X.inv.len;omega)⟩
   have hsn:((p.src.toNat:Nat):Int)=p.src:=by omega
   have hds:(m.abs msg val).aF p.src=ns.aF:=by
    have:=jL hns;rw [hsn] at this;exact this
   have DS:=(X.inv.dG _ ns hns).aF (by rw [<-hds,u5];decide);have hdd:ns.aF.data=[]∨(ns.aF.data.length:Int)=m.c.aH:=DS.dat.imp id λh=> h.1;have q1:p.aW=ns.aF.aW:=by rw [u4,hds];unfold dL.ask;rw [hds] at u5;simp [u5]
   have q2:p.ptr=ns.aF.head:=by rw [u4,hds];unfold dL.ask;rw [hds] at u5;simp [u5]
   have q3:p.flag=decide (ns.aF.data≠[]):=by rw [u4,hds];unfold dL.ask;rw [hds] at u5;simp [u5]
   have q4:p.data=ns.aF.data:=by rw [u4,hds];unfold dL.ask;rw [hds] at u5;simp [u5]
   have q5:(if p.flag then p.data else [])=ns.aF.data:=by
    rw [q3,q4];by_cases h:ns.aF.data=[]
    ·simp [h]
    ·simp [h]
   rw [hds] at W I';have akQ:jS m.c i p.aj=true:=by
    unfold jS;simp only [zae,decide_eq_true_eq];refine⟨⟨OL.1,OL.2⟩,?_⟩;have:=hL;unfold Cfg.aQ sO at this;rw [if_neg (by omega)] at this;exact this
   obtain⟨rw0,hrw⟩:=X.dF i n hn p.aj akQ;have hro:jg n.home.dF p.aj=rw0:=by unfold jg;rw [hrw];rfl
   have hst:ns.aF.aW=0∨ns.aF.aW=1∨ns.aF.aW=2:=W.st;have hhd:ns.aF.head=hdI lw (-1):=W.head;have hle:=W.rng.ZO (by omega);have h0:ns.aF.aW=0↔ns.aF.head=-1:=by
    rw [hhd,W.rng.Xy];exact W.st0
   have hset:rG m.c n.home.dF p.aj p.aW p.ptr (if p.flag then p.data else [])=(qA n.home.dF p.aj (gG rw0 ns.aF),0):=by
    unfold rG;rw [hrw,q1,q2,q5];simp only;rw [if_neg (by omega),if_neg]
    ·rfl
    ·have e1:decide (ns.aF.head=-1)=decide (ns.aF.aW=0):=by
      by_cases h:ns.aF.aW=0
      ·simp [h,h0.1 h]
      ·have:¬ns.aF.head=-1:=λe=> h (h0.2 e);simp [h,this]
     rw [e1];rcases hdd with h | h
     ·simp [h]
     ·simp [h]
   obtain⟨t1,t2,t3⟩:=Jv NI.home.aT hsr.1 u1;have hul:n.home.unlock m.c p=(⟨qA n.home.dF p.aj (gG rw0 ns.aF),(n.home.aT.release p.aj p.src).1⟩,0):=by
    unfold Home.unlock;rw [if_neg (by rw [u1];simp)];simp only [hset,if_true,t1]
   have hh:n.home.handle m.c i p=(⟨qA n.home.dF p.aj (gG rw0 ns.aF),(n.home.aT.release p.aj p.src).1⟩,⟨8,i,p.src,p.id,p.aj,0,0,false,[]⟩,true,0):=by
    unfold Home.handle;rw [if_neg hcond,if_neg (by rw [hL];omega),if_neg (by omega)];simp only [hul,if_true]
   have hans:n.asked m.c i f' p=({ n with home:=⟨qA n.home.dF p.aj (gG rw0 ns.aF),(n.home.aT.release p.aj p.src).1⟩ },(f'.send ⟨8,i,p.src,p.id,p.aj,0,0,false,[]⟩).1):=by
    unfold Node.asked;rw [if_pos (.inr hk2),hh];simp
   rw [hans];have hok:(⟨8,i,p.src,p.id,p.aj,0,0,false,[]⟩:Pkt).ok=true:=by
    exact Px (by simp only [zak];omega)
   refine⟨_,⟨?_,TQ _ hok rfl rfl rfl⟩,yj X hn rfl rfl rfl hsr (λj hj=> aI hj) (by
    rw [aB,show msg p.src=.req p from b3];have:=JB O.step hst3 p;exact Nat.lt_trans (this _).1 (this .zero).2) (by dsimp only;exact zaC (lW _ _) (by omega))⟩
   show lN m.c ((m.with_ i { n with home:=⟨qA n.home.dF p.aj (gG rw0 ns.aF),(n.home.aT.release p.aj p.src).1⟩ } _ t).abs _ val);rw [BL (n':={ n with home:=⟨qA n.home.dF p.aj (gG rw0 ns.aF),(n.home.aT.release p.aj p.src).1⟩ }) (msg:=msg) hn (λ_=> rfl) rfl hL (λL' h=> by show jg (qA _ _ _) L'=_;rw [Gw,if_neg h]) (λL' h=> by show(n.home.aT.release p.aj p.src).1.owner L'=_;rw [t2,if_neg h]) (λL' h=> by show(n.home.aT.release p.aj p.src).1.ws L'=_;rw [t3])];have hrow2:jg (qA n.home.dF p.aj (gG rw0 ns.aF)) p.aj=gG ((m.abs msg val).row p.aj) ns.aF:=by rw [Gw,if_pos rfl,ar,hro]
   simp only [hrow2,t2,t3,if_true,alk];rw [hL] at I';exact I'
 ·-- a cache's requests
  have al0:3<=p.aS/\p.aS<=6:=by
   unfold wQ at b2;simp only [zae,decide_eq_true_eq] at b2;omega
  obtain⟨hown,H⟩:(m.abs msg val).own p.aj=p.src/\Hold m.c.au (m.c.aQ p.aj) ((m.abs msg val).ent p.aj) ((m.abs msg val).row p.aj) ((m.abs msg val).val p.aj) p.src ((m.abs msg val).aF p.src) (.req p):=by
   rcases p4 with⟨h,_⟩ | ⟨_,h,h'⟩
   ·exfalso;rw [h] at hkind;have:p.aS=1:=hkind;omega
   ·exact⟨h,h'⟩
  obtain⟨e,he,Sv⟩:=aik (by omega) H al0;rw [b1] at he;have hfind:n.aC.find p.aj=some e:=by rw [<-pF hn];exact he
  have hel:=LX hfind;have hem:=(fQ NI.aC.aG).1 hfind;have EO:=NI.aC.ent e hem.1;have hlen:e.data.length<=4:=NI.aC.le hc e hem.1;have aiL:¬((!p.ok || decide (p.aS < 3) || decide (6 < p.aS))=true):=by simp [hpk];omega
  have hnw:(m.abs msg val).msg p.src≠.wait:=by rw [hmr];exact λe=> by cases e
  -- what is common
  have fin:∀(ca:Cache) (x:Option Ent) (q:Pkt),(∀L,L≠p.aj->ca.find L=n.aC.find L)->ca.find p.aj=x->qj n.aC p=(ca,q,0)->q.ok=true->wQ q.aS=false->q.src=i->q.dst=p.src->Hold m.c.au (m.c.aQ p.aj) (lM ((m.abs msg val).ent p.aj) p.dst x) ((m.abs msg val).row p.aj) ((m.abs msg val).val p.aj) p.src ((m.abs msg val).aF p.src) (.ans q)->((∃e',x=some e')/\p.aS≠6∨x=none)->
    ∃msg',GInv (m.with_ i (n.asked m.c i f' p).1 (n.asked m.c i f' p).2 t) msg' val/\(m.with_ i (n.asked m.c i f' p).1 (n.asked m.c i f' p).2 t).todo msg' < m.todo msg:=λca x q h1 h2 h3 h4 h5 h6 h7 H' h8=> by
   have hans:n.asked m.c i f' p=({ n with aC:=ca },(f'.send q).1):=by
    unfold Node.asked;rw [if_neg hk,h3];simp
   rw [hans];rw [b1] at H';have I':=G.abs.served hsr OL hown (E:=lM ((m.abs msg val).ent p.aj) i x) (q:=q) (λj hj=> by
    by_cases hji:j=i
    ·rw [hji,he] at hj;cases hj
    ·rw [dN hji];exact hj) H' hnw
   refine⟨_,⟨?_,TQ q h4 h5 h6 h7⟩,Ua X hn hsr OL h1 h2 hmr hfind O.step (h8.imp (λh=> ⟨h.1,hst3 h.2⟩) id) (by dsimp only;exact zaC (lW _ _) (by omega))⟩;show lN m.c ((m.with_ i { n with aC:=ca } _ t).abs _ val);rw [ou (n':={ n with aC:=ca }) (msg:=msg) (val:=val) hn rfl h1];simp only [h2];have hdf:bT m.nG i n.aF=m.nG:=by rw [<-jL hn,iL]
   simp only [hdf];exact I'
  cases Sv with
  | attach k H'=>
   have hput:=uy (e:={ e with bG:=false,back:=p.ptr }) (x:=e) NI.aC.aG EO.lo (by rw [show({ e with bG:=false,back:=p.ptr }:Ent).aj=e.aj from rfl,hel];exact hfind);have hpt:=jX (e:={ e with bG:=false,back:=p.ptr }) (x:=e) NI.aC.aG EO.lo (by rw [show({ e with bG:=false,back:=p.ptr }:Ent).aj=e.aj from rfl,hel];exact hfind);refine fin (n.aC.put { e with bG:=false,back:=p.ptr }).1 (some { e with bG:=false,back:=p.ptr }) _ (λL hL=> by rw [hput,if_neg λh=> hL (h.trans hel)]) (by rw [hput,if_pos hel.symm]) ?_ ?_ rfl b1 rfl H' (.inl ⟨⟨_,rfl⟩,by omega⟩)
   ·unfold qj;rw [if_neg aiL,hfind];simp only [k,if_true];rw [hpt];simp [Qp]
   ·exact Px (by omega)
  | front k H'=>
   have hput:=uy (e:={ e with fwd:=p.ptr }) (x:=e) NI.aC.aG EO.lo (by rw [show({ e with fwd:=p.ptr }:Ent).aj=e.aj from rfl,hel];exact hfind);have hpt:=jX (e:={ e with fwd:=p.ptr }) (x:=e) NI.aC.aG EO.lo (by rw [show({ e with fwd:=p.ptr }:Ent).aj=e.aj from rfl,hel];exact hfind);refine fin (n.aC.put { e with fwd:=p.ptr }).1 (some { e with fwd:=p.ptr }) _ (λL hL=> by rw [hput,if_neg λh=> hL (h.trans hel)]) (by rw [hput,if_pos hel.symm]) ?_ ?_ rfl b1 rfl H' (.inl ⟨⟨_,rfl⟩,by omega⟩)
   ·unfold qj;rw [if_neg aiL,hfind];simp only [k];rw [if_neg (by decide),if_pos trivial,hpt];simp [Qp]
   ·exact Px (by simp only [zak];omega)
  | behind k H'=>
   have hput:=uy (e:={ e with back:=p.ptr }) (x:=e) NI.aC.aG EO.lo (by rw [show({ e with back:=p.ptr }:Ent).aj=e.aj from rfl,hel];exact hfind);have hpt:=jX (e:={ e with back:=p.ptr }) (x:=e) NI.aC.aG EO.lo (by rw [show({ e with back:=p.ptr }:Ent).aj=e.aj from rfl,hel];exact hfind);refine fin (n.aC.put { e with back:=p.ptr }).1 (some { e with back:=p.ptr }) _ (λL hL=> by rw [hput,if_neg λh=> hL (h.trans hel)]) (by rw [hput,if_pos hel.symm]) ?_ ?_ rfl b1 rfl H' (.inl ⟨⟨_,rfl⟩,by omega⟩)
   ·unfold qj;rw [if_neg aiL,hfind];simp only [k];rw [if_neg (by decide),if_neg (by decide),if_pos trivial,hpt];simp [Qp]
   ·exact Px (by simp only [zak];omega)
  | EX k hfw H'=>
   have hdr:=x8 (aj:=p.aj) NI.aC.aG;refine fin (n.aC.drop p.aj) none _ (λL hL=> by rw [hdr,if_neg hL]) (by rw [hdr,if_pos rfl]) ?_ ?_ rfl b1 rfl H' (.inr rfl)
   ·unfold qj;rw [if_neg aiL,hfind];simp only [k];rw [if_neg (by decide),if_neg (by decide),if_neg (by decide)];simp [Qp]
   ·exact Px (by omega)
end
theorem Hold.data {N hm:Int}{E:pG}{r:Row}{v:List Int}{i:Int}{d:dL}{o:Out}(H:Hold N hm E r v i d o){j:Int}{e:Ent}(he:E j=some e):e.data=v:=by
 cases H with
 | granted _ W=> exact W.data j e he
 | attach _ _ _ _ W=> exact W.data j e he
 | attached _ _ _ _ _ _ _ _ X _=> exact X j e he
 | EX _ _ L _ _=> exact L.data j e he
 | Eu _ _ L _ _=> exact L.data j e he
 | front _ _ M _ _ _ _ _=> exact M.data j e he
 | wB _ _ M _ _ _ _ _ _=> exact M.data j e he
 | behind _ _ M _ _ _ _ _ _=> exact M.data j e he
 | qY _ _ M _ _ _ _ _ _=> exact M.data j e he
 | unlock _ W=> exact W.data j e he
theorem lN.data {c:Cfg}{a:Abs}(I:lN c a){L j:Int}(hL:0<=L/\L < c.aG){e:Ent}(he:a.ent L j=some e):e.data=a.val L:=by
 rcases I.aj L hL.1 hL.2 with⟨_,l,W⟩ | ⟨_,_,_,H⟩
 ·exact W.data j e he
 ·exact Hold.data H he
section
variable {m:bH}{T:Nat}{i:Nat}{n n1:Node}{f:Fab}{t:List Evn}{msg msg':Int->Out}{val val':Int->List Int}
theorem GInv.idle(X:MX T m)(G:GInv m msg val)(hn:m.au[i]?=some n)(h0:n.aF.step=0):msg i=.idle:=by
 have hi:=X.range hn;have hd:(m.abs msg val).aF i=n.aF:=jL hn;rcases G.abs.dG i hi.1 hi.2 with⟨_,h⟩ | O
 ·exact h
 ·have:=O.step;rw [hd] at this;exact absurd h0 this
theorem GInv.begin_(X:MX T m)(G:GInv m msg val)(hn:m.au[i]?=some n)(h0:n.aF.step=0)(e1:n1.aC=n.aC)(e2:n1.home=n.home)(e4:n1.num=n.num)(e5:n1.EK=n.EK){k L:Int}(hk:1<=k/\k<=3)(hL:0<=L/\L < m.c.aG)(hm:k=1->n.aC.find L=none)(hm3:k=3->n.aC.find L≠none):
  ∃msg',GInv (m.with_ i (n1.begin_ m.c i m.fab k L).1 (n1.begin_ m.c i m.fab k L).2 t) msg' val/\(m.with_ i (n1.begin_ m.c i m.fab k L).1 (n1.begin_ m.c i m.fab k L).2 t).todo msg' < m.todo msg:=by
 have hc:=X.inv.ok;have hi:=X.range hn;have NX_:=X.dG i n hn;have hd:(m.abs msg val).aF i=n.aF:=jL hn;have hidle:=G.idle X hn h0;have hid:0<=n.num/\n.num < 4096:=⟨NX_.Uk,NX_.num1⟩
 have I':=G.abs.begin_ (L:=L) (k:=k) (id:=n.num) hi (by rw [hd];exact h0) hk hid hL (λh=> by rw [<-hm h];exact pF hn L);obtain⟨a1,a2,a3,a4,a5⟩:=XD hc hi (k:=k) hL hid;have hout:1<=m.fab.out:=by
  have:=(jY hc).2.2.2.2.2.1;rw [X.inv.fab.out];exact this.1
 have R':=G.pk.aie (p:=(dL.begin k L n.num).ask i (m.c.aQ L)) (by rw [a3,hidle];exact λq e=> by cases e) (by rw [a3,hidle];exact λq e=> by cases e) a1 a2 (by rw [a3];exact X.is hi rfl) (X.is ⟨a4,a5⟩ rfl) hout;rw [a3] at R';have hb:n1.begin_ m.c i m.fab k L=({ n1 with aF:=dL.begin k L n.num,num:=(n.num+1).tmod 4096 },(m.fab.send ((dL.begin k L n.num).ask i (m.c.aQ L))).1):=by
  unfold Node.begin_ Node.acY;simp only [e4];rfl
 rw [hb];refine⟨_,⟨?_,R'.2⟩,lX X hn hL e2 (λL' _=> by show n1.aC.find L'=_;rw [e1]) (λL' hL' y=> by rw [tK (.inl h0),tK (.inr (.inr (.inl λe=> hL' e.symm)))]) (by dsimp only;exact lW _ _) (λj hj=> aI hj) ?_⟩;rotate_left
 ·rw [aB,hidle]
  dsimp only
  have d0:Dp n.aF .idle=13:=if_pos h0;have d1:Dp (.begin k L n.num) (.req ((dL.begin k L n.num).ask i (m.c.aQ L)))=12+if k=3∨(1:Int)=6 then 13 else 0:=rfl;have e6:Node.EK { n1 with aF:=dL.begin k L n.num,num:=(n.num+1).tmod 4096 }=n.EK:=e5;rw [e6,d0,d1,e1];by_cases h3:k=3
  ·obtain⟨e,he⟩:=Option.ne_none_iff_exists'.1 (hm3 h3);have w1:wt (.begin k L n.num) L (some e)=3:=by
    unfold wt;rw [if_neg (zdb e),if_pos ⟨h3,(by decide:(1:Int)≠0),(by decide:(1:Int)≠6),rfl⟩]
   have w2:wt n.aF L (some e)=16:=by
    rw [tK (.inl h0),if_neg (zdb e)]
   rw [he,w1,w2,if_pos (.inl h3)];omega
  ·rw [tK (.inl h0),tK (.inr (.inr (.inr h3))),if_neg (by omega)];omega
 show lN m.c ((m.with_ i { n1 with aF:=dL.begin k L n.num,num:=(n.num+1).tmod 4096 } _ t).abs _ val);rw [BQ (n':={ n1 with aF:=dL.begin k L n.num,num:=(n.num+1).tmod 4096 }) (msg:=msg) (val:=val) hn e2 (λL'=> by show n1.aC.find L'=_;rw [e1])];exact I'
theorem GI {c:Cfg}{P:Int->Nat->Option Opn}{t:List Evn}{b:Bool}{k:Nat}{o:Opn}{j:Int}(hP:P j k=some o):Ar c P t val ((if b then t else t++[⟨j,k,false,0⟩])++[⟨j,k,true,(lJ c o val).2⟩]) (lJ c o val).1:=by
 cases b with
 | true=> exact .done j k o hP .same
 | false=> exact .done j k o hP (.eG j k .same)
theorem qZ {c:Cfg}{P:Int->Nat->Option Opn}{t:List Evn}{b:Bool}{k:Nat}{j:Int}:Ar c P t val (if b then t else t++[⟨j,k,false,0⟩]) val:=by
 cases b with
 | true=> exact .same
 | false=> exact .eG j k .same
theorem GInv.work(X:MX T m)(G:GInv m msg val)(hn:m.au[i]?=some n)(h0:n.aF.step=0){o:Opn}(o1:n.bW.cur=some o):
  ∃msg' val',GInv (m.with_ i (n.work m.c i m.fab m.trace o).1 (n.work m.c i m.fab m.trace o).2.1 (n.work m.c i m.fab m.trace o).2.2) msg' val'/\Ar m.c m.opAt m.trace val (n.work m.c i m.fab m.trace o).2.2 val'/\(m.with_ i (n.work m.c i m.fab m.trace o).1 (n.work m.c i m.fab m.trace o).2.1 (n.work m.c i m.fab m.trace o).2.2).todo msg' < m.todo msg:=by
 have hc:=X.inv.ok;have hi:=X.range hn;have NI:=X.inv.dG i n hn;have hright:=NI.bW.right o (zat o1);have OO:=aiH hc hright.1;have hL:0<=m.c.bn o.addr/\m.c.bn o.addr < m.c.aG:=⟨OO.lo,OO.hi⟩
 have hP:=JA hn o1;have hd:(m.abs msg val).aF i=n.aF:=jL hn;unfold Node.work;simp only;obtain⟨n1,hn1⟩:∃n1:Node,n1={ n with bW:={ n.bW with eG:=true } }:=⟨_,rfl⟩
 have c1:n1.aC=n.aC:=by rw [hn1]
 have c2:n1.home=n.home:=by rw [hn1]
 have c3:n1.aF=n.aF:=by rw [hn1]
 have c4:n1.num=n.num:=by rw [hn1]
 have c5:n1.bW.cur=some o:=by rw [hn1];exact o1
 have c6:n1.bW.bf=n.bW.bf:=by rw [hn1]
 rw [<-hn1,show n.aC=n1.aC from c1.symm];have c7:n1.bW.eG=true:=by rw [hn1]
 have c8:n1.EK=n.EK:=by rw [hn1];rfl
 have hidx:n1.bW.idx=n.bW.bf.length:=by unfold Proc.idx;rw [c5,c6]
 have hop:n1.bW.op=o:=by unfold Proc.op;rw [c5];rfl
 obtain⟨t1,ht1⟩:∃t1,t1=(if n.bW.eG=true then m.trace else m.trace++[⟨i,n.bW.bf.length,false,0⟩]):=⟨_,rfl⟩
 rw [<-ht1];by_cases k1:o.aS=4/\n1.aC.find (m.c.bn o.addr)=none
 ·rw [if_pos k1];have hov:lJ m.c o val=(val,0):=by
   unfold lJ;rw [if_neg (by omega),if_neg (by omega),if_neg (by omega)]
  refine⟨msg,val,⟨?_,G.pk⟩,?_,lX X hn hL c2 (λL' _=> by show n1.aC.find L'=_;rw [c1]) (λL' _ y=> by show wt n1.aF L' y=_;rw [c3]) (zbk _) (λ_ _=> rfl) ?_⟩
  ·show lN m.c ((m.with_ i { n1 with bW:=n1.bW.EP 0 } m.fab _).abs msg val);rw [BQ (n':={ n1 with bW:=n1.bW.EP 0 }) (msg:=msg) (val:=val) hn c2 (λL'=> by show n1.aC.find L'=_;rw [c1])];have:bT m.nG i n1.aF=m.nG:=by rw [c3,<-jL hn,iL]
   simp only [this];exact G.abs
  ·have:=GI (c:=m.c) (t:=m.trace) (val:=val) (b:=n.bW.eG) hP;rw [hov] at this;unfold Node.done;rw [hidx,ht1];exact this
  ·have:=BR (n':=(n1.done i t1 0).1) c5 c7 rfl;have h1:=aeh (d:=n1.aF) (L:=m.c.bn o.addr) (x:=n1.aC.find (m.c.bn o.addr));show 33*Node.EK (n1.done i t1 0).1+Dp n1.aF (msg i)+wt n1.aF _ (n1.aC.find _) < _;rw [<-c3];omega
 rw [if_neg k1];by_cases k2:o.aS=4
 ·rw [if_pos k2];obtain⟨msg',G',F⟩:=G.begin_ (n1:=n1) (k:=3) (t:=t1) X hn h0 c1 c2 c4 c8 ⟨by decide,by decide⟩ hL (λh=> absurd h (by decide)) (λ_ h=> k1 ⟨k2,c1 ▸ h⟩);exact⟨msg',val,G',by rw [ht1];exact qZ,F⟩
 rw [if_neg k2];by_cases k3:(n1.aC.find (m.c.bn o.addr)).isSome=true/\(o.aS=1∨((n1.aC.find (m.c.bn o.addr)).getD .zero).bG=true)
 ·rw [if_pos k3];obtain⟨e,he⟩:=zcN.1 k3.1;have he':n.aC.find (m.c.bn o.addr)=some e:=by rw [<-c1];exact he
  have hdt:=k3.2;rw [he] at hdt;simp only [zax] at hdt;have hem:=(fQ NI.aC.aG).1 he';have EO:=NI.aC.ent e hem.1;have hko:o.aS=1∨((o.aS=2∨o.aS=3)/\e.bG=true):=by
   rcases hdt with h | h
   ·exact .inl h
   ·by_cases h1:o.aS=1
    ·exact .inl h1
    ·exact .inr ⟨by have:=OO.k1;have:=OO.k4;omega,h⟩
  have hae:(m.abs msg val).ent (m.c.bn o.addr) i=some e:=by
   show m.jl _ i=_;rw [pF hn];exact he'
  have hdata:=G.abs.data hL hae;obtain⟨e2,he2⟩:∃e2:Ent,e2={ e with used:=n.aC.dH+1 }:=⟨_,rfl⟩
  have hdl:=EO.dat.1;have d1:e2.data=e.data:=by rw [he2]
  have d2:e2.back=e.back:=by rw [he2]
  have d3:e2.fwd=e.fwd:=by rw [he2]
  have d4:e2.bG=e.bG:=by rw [he2]
  have d5:e2.aj=e.aj:=by rw [he2]
  obtain⟨w1,w2,w3,w4,w5,w6,w7⟩:=XE (c:=m.c) (val:=val) (e:=e2) (by rw [d4];exact hko) (by rw [d1];exact hdata) (by rw [d1];have:=OO.wlo;have:=OO.whi;omega);have y:=qW e2 o (m.c.bM o.addr);have hto:=TT NI.aC.aG he';have TI:=NI.aC.touch he';have hput:=uy TI.aG (e:=dS e2 o (m.c.bM o.addr)) (x:=e2) (by rw [y.1,d5];exact EO.lo) (by rw [y.1,d5,hto,if_pos hem.2,he2]);have hsame:({ dS e2 o (m.c.bM o.addr) with used:=e2.used }:Ent)=dS e2 o (m.c.bM o.addr):=by rw [<-y.2.1]
  have hel:(dS e2 o (m.c.bM o.addr)).aj=m.c.bn o.addr:=by rw [y.1,d5];exact hem.2
  have heff:({ n1 with aC:=n1.aC.touch (m.c.bn o.addr) }:Node).effect m.c i t1=({ n1 with aC:=((n.aC.touch (m.c.bn o.addr)).put (dS e2 o (m.c.bM o.addr))).1,bW:=n1.bW.EP (if o.aS=2 then 0 else e2.word (m.c.bM o.addr)) },t1++[⟨i,n.bW.bf.length,true,if o.aS=2 then 0 else e2.word (m.c.bM o.addr)⟩]):=by
   unfold Node.effect Node.done;have hop':({ n1 with aC:=n1.aC.touch (m.c.bn o.addr) }:Node).bW.op=o:=hop;simp only [hop',hidx,c1,hto,if_true,zax,<-he2]
  have hnn:({ aC:=n1.aC.touch (m.c.bn o.addr),bW:={ ops:=n.bW.ops,bf:=n.bW.bf,eG:=true },home:=n.home,aF:=n.aF,num:=n.num }:Node)={ n1 with aC:=n1.aC.touch (m.c.bn o.addr) }:=by rw [hn1]
  rw [hnn,heff];have hx:((n.aC.touch (m.c.bn o.addr)).put (dS e2 o (m.c.bM o.addr))).1.find (m.c.bn o.addr)=some (dS e2 o (m.c.bM o.addr)):=by
   rw [hput,if_pos hel.symm,hsame]
  have akN:(lJ m.c o val).1 (m.c.bn o.addr)≠[]:=by
   rw [<-w1];intro h;have h1:=y.2.2.2;have:=(jY hc).2.2.1;rw [h,d1] at h1;simp only [zak] at h1;omega
  refine⟨msg,(lJ m.c o val).1,⟨?_,G.pk⟩,?_,lX X hn hL c2 (λL' h=> by
    show((n.aC.touch _).put _).1.find L'=_;rw [hput,if_neg λh'=> h (h'.trans hel),hto,if_neg h]) (λL' _ y=> by show wt n1.aF L' y=_;rw [c3]) (zbk _) (λ_ _=> rfl) ?_⟩
  ·show lN m.c ((m.with_ i { n1 with aC:=((n.aC.touch (m.c.bn o.addr)).put (dS e2 o (m.c.bM o.addr))).1,bW:=n1.bW.EP (if o.aS=2 then 0 else e2.word (m.c.bM o.addr)) } m.fab _).abs msg _);rw [ou (n':={ n1 with aC:=((n.aC.touch (m.c.bn o.addr)).put (dS e2 o (m.c.bM o.addr))).1,bW:=n1.bW.EP (if o.aS=2 then 0 else e2.word (m.c.bM o.addr)) }) (msg:=msg) (val:=val) hn c2 (L:=m.c.bn o.addr) (λL' h=> by
    show((n.aC.touch _).put _).1.find L'=_;rw [hput,if_neg λh'=> h (h'.trans hel),hto,if_neg h])]
   have hdf:bT m.nG i n1.aF=m.nG:=by rw [c3,<-jL hn,iL]
   simp only [hx,hdf];have I':=G.abs.hit (L:=m.c.bn o.addr) (e:=e) (e':=dS e2 o (m.c.bM o.addr)) (v':=(lJ m.c o val).1 (m.c.bn o.addr)) hi (by rw [hd];exact h0) hL hae (w4.trans d2) (w5.trans d3) (w6.trans d4) (by
    rcases hko with h | ⟨_,h⟩
    ·refine .inl ⟨by rw [w7 h,d1],?_⟩;unfold lJ;rw [if_pos h];rfl
    ·exact .inr ⟨h,w1⟩) akN
   have hvf:bT (m.abs msg val).val (m.c.bn o.addr) ((lJ m.c o val).1 (m.c.bn o.addr))=(lJ m.c o val).1:=by
    funext L
    by_cases h:L=m.c.bn o.addr
    ·rw [h,aB]
    ·rw [aI h,w2 L h];rfl
   rw [hvf] at I';exact I'
  ·rw [w3,ht1];exact GI hP
  ·have h0:=BR (n':={ n1 with aC:=((n.aC.touch (m.c.bn o.addr)).put (dS e2 o (m.c.bM o.addr))).1,bW:=n1.bW.EP (if o.aS=2 then 0 else e2.word (m.c.bM o.addr)) }) c5 c7 rfl;have h1:=aeh (d:=n1.aF) (L:=m.c.bn o.addr) (x:=((n.aC.touch (m.c.bn o.addr)).put (dS e2 o (m.c.bM o.addr))).1.find (m.c.bn o.addr))
   dsimp only at h0 ⊢
   rw [<-c3];omega
 rw [if_neg k3];by_cases k4:n1.aC.full (m.c.bn o.addr)=true
 ·rw [if_pos k4];rw [c1] at k4;have hset:n.aC.oM (m.c.bn o.addr)≠[]:=by
   intro e;unfold Cache.full at k4;simp only [e,zak,zae,decide_eq_true_eq] at k4;have:=(jY hc).2.2.2.2.1;rw [NI.aC.ways] at k4;omega
  obtain⟨e,he⟩:∃e,mW (n.aC.oM (m.c.bn o.addr))=some e:=by
   cases h:n.aC.oM (m.c.bn o.addr) with
   | nil=> exact absurd h hset
   | cons a l=> exact⟨_,rfl⟩
  have hv:n.aC.wR (m.c.bn o.addr)=some e.aj:=by unfold Cache.wR;rw [he];rfl
  have hem:e∈n.aC.l:=by
   have:=(oN he).1;unfold Cache.oM at this;exact(za6.1 this).1
  have EO:=NI.aC.ent e hem;rw [c1,hv];simp only [zax];obtain⟨msg',G',F⟩:=G.begin_ (n1:=n1) (k:=3) (L:=e.aj) (t:=t1) X hn h0 c1 c2 c4 c8 ⟨by decide,by decide⟩ ⟨EO.lo,EO.hi⟩ (λh=> absurd h (by decide)) (λ_ h=> nomatch ((fQ NI.aC.aG).2 ⟨hem,rfl⟩:n.aC.find e.aj=some e).symm.trans h);exact⟨msg',val,G',by rw [ht1];exact qZ,F⟩
 rw [if_neg k4];by_cases k5:o.aS=1
 ·rw [if_pos k5];obtain⟨msg',G',F⟩:=G.begin_ (n1:=n1) (k:=1) (t:=t1) X hn h0 c1 c2 c4 c8 ⟨by decide,by decide⟩ hL (λ_=> by
   cases h:n.aC.find (m.c.bn o.addr) with
   | none=> rfl
   | some e=> exact absurd ⟨by rw [c1,h];rfl,.inl k5⟩ k3) (λh=> absurd h (by decide))
  exact⟨msg',val,G',by rw [ht1];exact qZ,F⟩
 ·rw [if_neg k5];obtain⟨msg',G',F⟩:=G.begin_ (n1:=n1) (k:=2) (t:=t1) X hn h0 c1 c2 c4 c8 ⟨by decide,by decide⟩ hL (λh=> absurd h (by decide)) (λh=> absurd h (by decide));exact⟨msg',val,G',by rw [ht1];exact qZ,F⟩
theorem Rx(X:MX T m)(hn:m.au[i]?=some n)(h:m.fab.roomOf i false≠0):0 < m.fab.roomOf i false:=by
 have hi:=X.range hn;have his:=X.is hi (f:=m.fab) rfl;have P:=(X.inv.fab.get his).an;unfold Fab.roomOf at h ⊢;rw [if_pos his] at h ⊢;rw [X.inv.fab.out] at h ⊢;simp only [Port.sort,zaj,if_false] at h ⊢;omega
theorem GInv.step(X:MX T m)(G:GInv m msg val)(j:Int):∃msg' val',GInv (m.step j).1 msg' val'/\Ar m.c m.opAt m.trace val (m.step j).1.trace val'/\((m.step j).2≠0->(m.step j).1.todo msg' < m.todo msg):=by
 unfold bH.step;cases hnd:m.dG j with
 | none=> exact⟨msg,val,G,.same,λh=> absurd rfl h⟩
 | some n=>
  simp only;have hj:0<=j/\m.au[j.toNat]?=some n:=by
   unfold bH.dG at hnd;split at hnd
   ·exact⟨by assumption,hnd⟩
   ·cases hnd
  obtain⟨i,rfl⟩:∃i:Nat,j=i:=⟨j.toNat,by omega⟩
  rw [zao] at hj ⊢;have hn:=hj.2;have key:∃msg' val',GInv (m.with_ i (n.step m.c i m.fab m.trace).1.1 (n.step m.c i m.fab m.trace).1.2.1 (n.step m.c i m.fab m.trace).1.2.2) msg' val'/\Ar m.c m.opAt m.trace val (n.step m.c i m.fab m.trace).1.2.2 val'/\((n.step m.c i m.fab m.trace).2≠0->(m.with_ i (n.step m.c i m.fab m.trace).1.1 (n.step m.c i m.fab m.trace).1.2.1 (n.step m.c i m.fab m.trace).1.2.2).todo msg' < m.todo msg):=by
   unfold Node.step;cases ht:m.fab.take i false with
   | mk f' po=>
    cases po with
    | some p=>
     obtain⟨msg',val',G',T',F⟩:=G.answered X hn ht;exact⟨msg',val',G',T',λ_=> F⟩
    | none=>
     simp only;by_cases hg:n.home.ready≠[]/\m.fab.roomOf i false≠0
     ·rw [if_pos hg];obtain⟨msg',G',F⟩:=G.grant (t:=m.trace) X hn hg.1 (Rx X hn hg.2);exact⟨msg',val,G',.same,λ_=> F⟩
     ·rw [if_neg hg];cases hr:(if m.fab.roomOf i false=0 then(m.fab,none) else m.fab.take i true) with
      | mk f2 po2=>
       cases po2 with
       | some p=>
        simp only;have hro:m.fab.roomOf i false≠0:=λh=> by rw [if_pos h] at hr;cases hr
        rw [if_neg hro] at hr;obtain⟨msg',G',F⟩:=G.asked (t:=m.trace) X hn hr (Rx X hn hro);exact⟨msg',val,G',.same,λ_=> F⟩
       | none=>
        simp only;have hself:GInv (m.with_ i n m.fab m.trace) msg val:=by
         have:m.with_ i n m.fab m.trace=m:=by
          unfold bH.with_;have:m.au.set i n=m.au:=by
           apply zbD
           intro k;by_cases h:i=k
           ·rw [<-h,zba (zah.1 hn).1,hn]
           ·rw [zbg h]
          rw [this]
         rw [this];exact G
        cases hcu:n.bW.cur with
        | none=> exact⟨msg,val,hself,.same,λh=> absurd rfl h⟩
        | some o=>
         simp only;by_cases hs:n.aF.step=0
         ·rw [if_pos hs];obtain⟨msg',val',G',T',F⟩:=G.work X hn hs hcu;exact⟨msg',val',G',T',λ_=> F⟩
         ·rw [if_neg hs];exact⟨msg,val,hself,.same,λh=> absurd rfl h⟩
  exact key
end
def ail(me:Int):Nat->List Int->List Evn
 | _,[]=> []
 | k,v::l=> ⟨me,k,false,0⟩::⟨me,k,true,v⟩::ail me (k+1) l
def told(me:Int)(n:Node):List Evn:=ail me 0 n.bW.bf++if n.bW.eG=true then [⟨me,n.bW.bf.length,false,0⟩] else []
theorem XP {me:Int}{n n':Node}(h:n'.bW=n.bW):told me n'=told me n:=by unfold told;rw [h]
def Trk(me:Int)(n:Node)(t:List Evn)(n':Node)(t':List Evn):Prop:=t'.length+n.evs=t.length+n'.evs->∃u,t'=t++u/\told me n'=told me n++u
section
variable {me v:Int}{n n':Node}{t:List Evn}{c:Cfg}{f:Fab}{o:Opn}
theorem Trk.same(h:n'.bW=n.bW):Trk me n t n' t:=λ_=> ⟨[],by simp,by rw [XP h];simp⟩
end
structure ZP(c:Cfg)(v:Int->List Int)(ws:List Int):Prop where
 len:(ws.length:Int)=c.fK
 row:∀L,0<=L->L < c.aG->((v L).length:Int)=c.aH
 get:∀a,0<=a->a < c.fK->ws.getD a.toNat 0=(v (a / c.aH)).getD (a % c.aH).toNat 0
theorem Ry {l:List Int}{i j:Nat}{x:Int}(h:i < l.length):(l.set i x).getD j 0=if j=i then x else l.getD j 0:=by
 rw [zaq,zcQ];by_cases e:i=j
 ·rw [if_pos e,if_pos h,if_pos e.symm];rfl
 ·rw [if_neg e,if_neg (Ne.symm e),zaq]
section
variable {c:Cfg}{v:Int->List Int}{ws:List Int}{o:Opn}
theorem ZP.set(M:ZP c v ws)(hc:c.ok=true){a x:Int}(h0:0<=a)(h1:a < c.fK):ZP c (bT v (a / c.aH) ((v (a / c.aH)).set (a % c.aH).toNat x)) (ws.set a.toNat x):=by
 have P:=jY hc;have hw:0 < c.aH:=by omega
 have q0:=zcv h0 (by omega:0<=c.aH);have q1:a / c.aH < c.aG:=zc1 hw (by unfold Cfg.fK at h1;exact h1);have r0:=zbq a (by omega:c.aH≠0);have r1:=zbw a hw;have hl:=M.row _ q0 q1;refine⟨by rw [zbX];exact M.len,λL h0 h1=> ?_,λb b0 b1=> ?_⟩
 ·by_cases e:L=a / c.aH
  ·rw [e,aB,zbX];exact hl
  ·rw [aI e];exact M.row L h0 h1
 ·have ml:=M.len;rw [Ry (by omega)];by_cases e:b / c.aH=a / c.aH
  ·rw [e,aB,Ry (by omega)];have s0:=zbq b (by omega:c.aH≠0);by_cases e2:b % c.aH=a % c.aH
   ·have:b=a:=by rw [<-zc4 b c.aH,<-zc4 a c.aH,e,e2]
    rw [if_pos (by rw [this]),if_pos (by rw [e2])]
   ·rw [if_neg (λh=> e2 (by rw [show b=a by omega])),if_neg (by omega),M.get b b0 b1,e]
  ·rw [aI e,if_neg (λh=> e (by rw [show b=a by omega])),M.get b b0 b1]
end
def iq(c:Cfg)(i:Nat):List Int:=(List.range (i*c.aH.toNat)).map λa=> c.init.getD a 0
theorem Py {c:Cfg}{i:Nat}(hi:(i:Int) < c.aG)(hw:0<=c.aH):iq c (i+1)=iq c i++c.first i:=by
 unfold iq Cfg.first
 rw [if_neg (by omega),zbA,List.range_add,zbb,zcB]
 congr 1
 refine zbd λj _=> ?_;have:((i:Int)*c.aH).toNat=i*c.aH.toNat:=by
  obtain⟨w,hw'⟩:=Int.eq_ofNat_of_zero_le hw;rw [hw'];simp only [zao];rw [<-zcw,zao]
 rw [this];rfl
theorem zy(c:Cfg)(i:Nat):(iq c i).length=i*c.aH.toNat:=by simp [iq]
theorem XQ {c:Cfg}(hc:c.ok=true):ZP c c.first (iq c c.aG.toNat):=by
 have P:=jY hc;have hw:0 < c.aH:=by omega
 have hlen:((iq c c.aG.toNat).length:Int)=c.fK:=by
  rw [zy,zcw];unfold Cfg.fK;rw [zbE (by omega),zbE (by omega)]
 refine⟨hlen,λL h0 h1=> ?_,λa h0 h1=> ?_⟩
 ·unfold Cfg.first
  rw [if_neg (by omega)];simp only [zay,zcy];omega
 ·have q0:=zcv h0 (by omega:0<=c.aH);have q1:a / c.aH < c.aG:=zc1 hw (by unfold Cfg.fK at h1;exact h1);have r0:=zbq a (by omega:c.aH≠0);have r1:=zbw a hw;have e1:(iq c c.aG.toNat).getD a.toNat 0=c.init.getD a.toNat 0:=by
   rw [zaq];unfold iq;rw [zas,zbr (by rw [zy] at hlen;omega)];rfl
  have e2:(c.first (a / c.aH)).getD (a % c.aH).toNat 0=c.init.getD ((a / c.aH*c.aH).toNat+(a % c.aH).toNat) 0:=by
   rw [zaq];unfold Cfg.first
   rw [if_neg (by omega),zas,zbr (by omega)];rfl
  have e3:a=a / c.aH*c.aH+a % c.aH:=by rw [Int.mul_comm];exact(zc4 a c.aH).symm
  have e4:=zbT q0 (by omega:0<=c.aH);have e5:(a / c.aH*c.aH).toNat+(a % c.aH).toNat=a.toNat:=by omega
  rw [e1,e2,e5]
def X5(c:Cfg)(ws:List Int):List Cell:=c.av.map .av++[.seq 1 (ws.map I)]
theorem ZQ {c:Cfg}{ws ws':List Int}:(X5 c ws).set 8 (.seq 1 (ws'.map I))=X5 c ws':=rfl
theorem aio(H:ah)(hb:H.base<=H.next){c:Cfg}(hc:c.ok=true):∃H' q,cl 155 [.agg c.av] H=some (.ref q 0 0,H')/\Made H H' (upd mM q (X5 c (iq c c.aG.toNat))):=by
 have Bd:=uo hc;have hw:=Bd.aH;have hln:=Bd.aG;let H1:=H.new (.blk 0 31 c.av);let xs:=c.av++[zN]
 have lt1:H.next < H1.next:=by simp only [H1,fC];omega
 have g1:H1.get H.next=.blk 0 31 c.av:=aK rfl
 have hall:xs.all AV.aJ=true:=by simp only [xs,za1,dI];rfl
 have M0:Made H1 (H1.new (.blk 0 246 xs)) (upd mM H1.next (X5 c [])):=by
  refine jv hall (by simp [xs,X5]) λi cc y hcc hy=> ?_;simp only [X5] at hcc;have hlen:c.av.length=8:=rfl;by_cases hi:i < 8
  ·left;rw [zaE (by rw [zay];exact hi),zas] at hcc;rw [zaE hi] at hy;rw [hy] at hcc;exact(zaT hcc).symm
  ·right;have:i=8:=by
    have:=(zah.1 hy).1;simp only [xs,zal,zam,zak] at this;omega
   subst this;cases hcc;cases hy;exact⟨rfl,1,rfl⟩
 have key:∀k i,i+k=c.aG.toNat->∀Hi,Made H1 Hi (upd mM H1.next (X5 c (iq c i)))->
   ∃H',xG cl [.ref H.next 0 0,.ref H1.next 0 0,I c.aG,I i] Hi=some (.ref H1.next 0 0,H')/\Made H1 H' (upd mM H1.next (X5 c (iq c c.aG.toNat))):=by
  intro k
  induction k with
  | zero=>
   intro i hi Hi M;have h1:¬(i:Int) < c.aG:=by omega
   rw [show i=c.aG.toNat by omega] at M;refine⟨Hi,?_,M⟩;rw [QE];simp only [xq_,h1]
  | succ k ih=>
   intro i hi Hi M;have h1:(i:Int) < c.aG:=by omega
   have h6:(i:Int)+1=((i+1:Nat):Int):=by omega
   have h7:=wrap_i64 (a:=((i+1:Nat):Int)) (by omega) (by omega);have fl:=xO (c:=c) (aj:=i) (by omega) h1;have hwl:i*c.aH.toNat<=8*4:=zdd (by omega) (by omega);have l8:=eX (H:=Hi) (by rw [M.same _ lt1];exact g1);have e1:=QW Hi.guard c hc i (by omega) h1;obtain⟨y,hy,cy⟩:=M.good.seq (q:=H1.next) aY (i:=8) (m:=1) (l:=(iq c i).map I) rfl;obtain⟨y',He,Hf,t1,t2,t3,t4⟩:=M.good.append (e:=3) (by_:=8) (by rw [M.base];simp only [H1,oD,fC];omega) aY (i:=8) rfl (by decide) (n:=i*c.aH.toNat) (by rw [zay,zy,zbC]) cy (gW Hi (c.first i)) (uj _) (by unfold most;omega) (by unfold most;omega);rw [<-zbb,<-Py h1 (by omega),Di,ZQ] at t3;have M':Made H1 Hf (upd mM H1.next (X5 c (iq c (i+1)))):=by
    exact M.step t3 t4
   obtain⟨H',r,M''⟩:=ih (i+1) (by omega) Hf M';refine⟨H',?_,M''⟩;rw [QE];simp only [xq_,h1,hy,l8,e1,t1,t2,dB,h6,h7,r]
 have e0:iq c 0=[]:=by unfold iq;rw [zbi];rfl
 obtain⟨H',r,M⟩:=key c.aG.toNat 0 (by omega) _ (by rw [e0];exact M0)
 replace r:xG cl [.ref H.next 0 0,.ref H1.next 0 0,I c.aG,I 0] (H1.new (.blk 0 246 xs))=some (.ref H1.next 0 0,H'):=r
 refine⟨H',H1.next,dU rfl rfl (ahh _ _ _ ?_),M.uU⟩;have b1:=eX g1;have em:bd 246 [(0,.agg c.av)]=some (.agg xs):=by
  simp only [xq_,afz,lD,fV,aar,Cfg.av,eH];rfl
 have g3:(H1.new (.blk 0 246 xs)).get H.next=.blk 0 31 c.av:=by rw [bg lt1];exact g1
 have l1:ld (.ref H.next 0 1) (H1.new (.blk 0 246 xs))=some (I c.aG,H1.new (.blk 0 246 xs)):=by rw [dA g3];rfl
 have bx1:iC 31 (.agg c.av) H=some (.ref H.next 0 0,H1):=aO (dI c) (by decide);have bx2:iC 246 (.agg xs) H1=some (.ref H1.next 0 0,H1.new (.blk 0 246 xs)):=aO hall (by decide);simp only [xq_,abx,bx1,b1,em,bx2,l1,r]
theorem Ub(H:ah){x:AV}(hx:aA H x 4 0 [])(n:Int):cl 154 [I n,x] H=some (B true,H):=by
 refine bC rfl rfl (ahg _ _ _ _) ?_ fP;have e1:=(hx.guard.new (.map .i64 [])).lnS;have h1:¬((0:Nat):Int) < ((0:Nat):Int):=by omega
 have r:Bc cl [I n,.mp H.next,x,I ((0:Nat):Int),I 0] (H.guard.new (.map .i64 []))=some (B true,H.guard.new (.map .i64 [])):=by
  rw [YW];have:¬(0:Int) < ((0:Nat):Int):=by omega
  simp only [xq_,this]
 simp only [xq_,abv,e1,r]
 try rfl
theorem MJ(H:ah)(hb:H.base<=H.next){c:Cfg}(hc:c.ok=true){p x:AV}{ps:List (List Opn)}(hp:Ld H p ps)(ho:c.oZ ps=true)(hx:aA H x 4 0 []):
  ∃H' q,cl 101 [.agg c.av,p,x] H=some (.tup [.ref q 0 0,B true],H')/\Made H H' (upd mM q (X5 c (iq c c.aG.toNat))):=by
 let H1:=H.new (.blk 0 31 c.av);have g1:H1.get H.next=.blk 0 31 c.av:=aK rfl
 have lt1:H.next < H1.next:=by simp only [H1,fC];omega
 obtain⟨hp1,hp2⟩:=xM ho;have Bd:=uo hc;have hn:=Bd.au;have l8:=eX g1;have l0:ld (.ref H.next 0 0) H1=some (I c.au,H1):=by rw [dA g1];rfl
 have e1:=ab3 H1 c hc (hp.fU (H':=H1) (by omega) λr hr=> bg hr) (by omega) λl hl=> by have:=hp2 l hl;omega
 rw [if_pos ho] at e1;have hx1:aA H1 x 4 0 []:=hx.new _;have e2:=Ub H1 hx1 c.au;obtain⟨H',q,e3,M⟩:=aio H1 (by simp only [H1,oD,fC];omega) hc;have hx2:aA H' x 4 0 []:=hx1.fU M.next λr _ hr=> M.same r hr
 have e4:=hx2.lnS;have b0:bi .neq 57 (I 0) (I 0)=some (B false):=by kernel_rfl
 have bx:iC 31 (.agg c.av) H=some (.ref H.next 0 0,H1):=aO (dI c) (by decide);have h1:¬(0:Int) < ((0:Nat):Int):=by omega
 have r:AY cl [p,.ref q 0 0,x,I ((0:Nat):Int),I 0] H'=some (.tup [.ref q 0 0,B true],H'):=by
  rw [YV];simp only [xq_,h1]
 refine⟨H',q,dU rfl rfl (agL _ _ _ _ _ ?_),M.uU⟩;simp only [xq_,aa2,bx,l8,e1,b0,l0,e2,zar,e3,e4,r]
theorem Uc(H:ah){c:Cfg}(hc:c.ok=true){p x:AV}{ps:List (List Opn)}(hp:Ld H p ps)(ho:c.oZ ps=true)(hx:aA H x 4 0 []):cl 54 [.agg c.av,p,x] H=some (B true,H):=by
 refine bC rfl rfl (ajI _ _ _ _ _) ?_ fP;let H1:=H.guard.new (.blk 0 31 c.av);have g1:H1.get H.next=.blk 0 31 c.av:=aK rfl
 have l8:=eX g1;obtain⟨H',q,e,_⟩:=MJ H1 (by simp only [H1,oD,fC,afM,yw];omega) hc (hp.fU (H':=H1) (by simp only [H1,fC,yw];omega) λr hr=> bg hr) ho (hx.guard.new _);have bx:iC 31 (.agg c.av) H.guard=some (.ref H.next 0 0,H1):=aO (dI c) (by decide);simp only [xq_,agn,bx,l8,e]
theorem Ud(H:ah){c:Cfg}(hc:c.ok=true){p x:AV}{ps:List (List Opn)}(hp:Ld H p ps)(ho:c.oZ ps=true)(hx:aA H x 4 0 []):cl 56 [.agg c.av,p,x] H=some (dat (iq c c.aG.toNat),H):=by
 let H1:=H.guard.new (.blk 0 31 c.av);have g1:H1.get H.next=.blk 0 31 c.av:=aK rfl
 have l8:=eX g1;obtain⟨H',q,e,M⟩:=MJ H1 (by simp only [H1,oD,fC,afM,yw];omega) hc (hp.fU (H':=H1) (by simp only [H1,fC,yw];omega) λr hr=> bg hr) ho (hx.guard.new _);have bx:iC 31 (.agg c.av) H.guard=some (.ref H.next 0 0,H1):=aO (dI c) (by decide);have ml:=(XQ hc).len;have Bd:=uo hc;have e5:cl 103 [.ref q 0 0] H'=some (dat (iq c c.aG.toNat),H'):=by
  have hbd:=Bd.fK;have G:=M.good;obtain⟨y,hy,cy⟩:=G.guard.seq (q:=q) aY (i:=8) (m:=1) (l:=(iq c c.aG.toNat).map I) rfl;have hs:mQ H'.guard y (iq c c.aG.toNat):=⟨cy.is (by decide) (by simp),cy.one,λe=> by
   rw [e] at ml;simp only [zak] at ml;unfold Cfg.fK at ml;omega⟩
  have e6:=LC H'.guard (by unfold Cfg.fK at ml;omega) hs;refine bC rfl rfl (agM _ _ _) ?_ yK;simp only [xq_,aa3,hy,e6]
 refine iJ rfl rfl (ajK _ _ _ _ _ (r:=(dat (iq c c.aG.toNat),H')) ?_) (yK _ _);simp only [xq_,agq,bx,l8,e,zar,e5]
def tV(all:List Int)(w i:Nat):List Int:=(all.drop (i*w)).take w
def bH.valuesB(m:bH)(all:List Int):Bool:=(List.range m.c.aG.toNat).all λi=> m.Af i (tV all m.c.aH.toNat i)
def bH.Rz(m:bH):Bool:=(List.range m.c.aG.toNat).all λi=> m.single i && (!decide (m.owner i=-1) || m.EH i)
theorem GL {n i:Nat}(h:i < n):(List.range n).drop i=i::(List.range n).drop (i+1):=by
 rw [zaU (by simpa using h)];simp
theorem aip {n:Nat}{cells:List AV}{lo hi:Int}(h0:0<=lo)(h1:lo<=hi)(h2:hi<=n):slS 1 (.vs n 1 cells) (some (I lo)) (some (I hi)) none=some (.vs (hi.toNat - lo.toNat) 1 ((cells.drop lo.toNat).take (hi.toNat - lo.toNat))):=by
 have h3:0<=hi:=by omega
 simp only [slS,iy,h0,h3,if_true];rw [if_pos ⟨trivial,by omega,by omega⟩];simp
section
variable {b:Nat}{H:ah}{g:bJ}{A:Adr}{m:bH}{T:Nat}
theorem XR {i:Nat}(h:(i:Int) < m.c.aG):m.isL i=true:=by
 unfold bH.isL;rw [decide_eq_true (by omega),decide_eq_true h];rfl
theorem MX.trl(X:MX T m):m.trace.length < 1000000:=by
 have:=X.inv.evs;have hk:=ah7 X.inv;omega
theorem Ue(G:Good b H g)(M:fG g A m)(X:MX T m){p:AV}{all:List Int}(hl:(all.length:Int)=m.c.fK)
  (hA:∀H1 ev,Step H.next H.guard H1->aA H1 ev 4 m.trace.length (m.trace.flatMap Evn.av)->cl 56 [.agg m.c.av,p,ev] H1=some (dat all,H1)):cl 19 [.ref A.iV 0 0,p] H=some (B (m.valuesB all),H):=by
 refine bC rfl rfl (ajp _ _ _ _) ?_ fP;have Bd:=uo X.inv.ok;have hw:=Bd.aH;have hln:=Bd.aG;have had:=Bd.fK;have hne:all≠[]:=λe=> by rw [e] at hl;simp only [zak] at hl;unfold Cfg.fK at hl;omega
 have hwn:(m.c.aH.toNat:Int)=m.c.aH:=zbE (by omega);have al1:all.length=m.c.aG.toNat*m.c.aH.toNat:=by
  have:((m.c.aG.toNat*m.c.aH.toNat:Nat):Int)=m.c.aG*m.c.aH:=by
   rw [zcw,hwn,zbE (by omega)]
  unfold Cfg.fK at hl;omega
 let H1:=H.guard.new (.blk 0 31 m.c.av);have s1:Step H.next H.guard H1:=Step.new _ (zac _)
 have G1:Good b H1 g:=G.guard.new _;have g1:H1.get H.next=.blk 0 31 m.c.av:=aK rfl
 have e0:=kT G.guard M X.inv.ok;have hbn:H.guard.base<=H.guard.next:=zac _
 have st8:st 8 (.ref H.next 0 0) (.agg m.c.av) (H.guard.new (.blk 0 31 [zI,zI,zI,zI,zI,zI,zI,zN]))=some (aV,H1):=by
  have akR:=dI m.c;show st 8 (.ref H.guard.next 0 0) _ _=_;rw [qc rfl];have cc:(AV.agg m.c.av).cells=m.c.av:=rfl;have lc:m.c.av.length=8:=rfl;rw [cc,lc,if_pos ⟨hbn,rfl,akR,zac _⟩];rfl
 have l8:=eX g1;have lt:=G1.load M.iV (i:=1) (x:=.ref A.trace 0 0) rfl;obtain⟨ev,e1,hev⟩:=Ed G1.guard M.trace X.trl;have e2:=hA H1 ev s1 (hev H1);have e3:=(gW H1 all).lnS;have e4:=QV H1 m.c X.inv.ok;rw [<-hl] at e4;have l1:ld (.ref H.next 0 1) H1=some (I m.c.aG,H1):=by rw [dA g1];rfl
 have l2:ld (.ref H.next 0 2) H1=some (I m.c.aH,H1):=by rw [dA g1];rfl
 have key:∀k i,i+k=m.c.aG.toNat->DU cl [.ref A.iV 0 0,.ref H.next 0 0,dat all,I m.c.aG,I i] H1=some (B (((List.range m.c.aG.toNat).drop i).all λi=> m.Af i (tV all m.c.aH.toNat i)),H1):=by
  intro k
  induction k with
  | zero=>
   intro i hi;have h1:¬(i:Int) < m.c.aG:=by omega
   rw [zaJ (by simp;omega),VH];simp only [zck];simp only [xq_,h1]
  | succ k ih=>
   intro i hi;have h1:(i:Int) < m.c.aG:=by omega
   have r:=ih (i+1) (by omega);rw [GL (by omega),zbR];have hiw:i*m.c.aH.toNat<=8*4:=zdd (by omega) (by omega);have al6:(i+1)*m.c.aH.toNat<=m.c.aG.toNat*m.c.aH.toNat:=zaz _ (by omega);have hmul:(i:Int)*m.c.aH=((i*m.c.aH.toNat:Nat):Int):=by rw [zcw,hwn]
   have aiq:((i+1:Nat):Int)*m.c.aH=(((i+1)*m.c.aH.toNat:Nat):Int):=by rw [zcw,hwn]
   have hs1:(i+1)*m.c.aH.toNat=i*m.c.aH.toNat+m.c.aH.toNat:=zbA _ _;have w1:=wrap_i64 (a:=((i*m.c.aH.toNat:Nat):Int)) (by omega) (by omega);have w2:=wrap_i64 (a:=(((i+1)*m.c.aH.toNat:Nat):Int)) (by omega) (by omega);have h6:(i:Int)+1=((i+1:Nat):Int):=by omega
   have h7:=wrap_i64 (a:=((i+1:Nat):Int)) (by omega) (by omega);have hsl:=aip (n:=all.length) (cells:=all.map I) (lo:=((i*m.c.aH.toNat:Nat):Int)) (hi:=(((i+1)*m.c.aH.toNat:Nat):Int)) (by omega) (by omega) (by omega);rw [zao,zao,show(i+1)*m.c.aH.toNat - i*m.c.aH.toNat=m.c.aH.toNat by omega] at hsl;have hrl:(tV all m.c.aH.toNat i).length=m.c.aH.toNat:=by
    unfold tV;rw [zav,zaQ];omega
   have e5:=XJ G1 M X (XR h1) (x:=.vs m.c.aH.toNat 1 (((all.map I).drop (i*m.c.aH.toNat)).take m.c.aH.toNat)) (ws:=tV all m.c.aH.toNat i) (λH' _ _=> by
    have:((all.map I).drop (i*m.c.aH.toNat)).take m.c.aH.toNat=(tV all m.c.aH.toNat i).map I:=by unfold tV;rw [zcm,zdi]
    rw [this,hrl];exact aA.vs (by rw [zay,hrl,zbC])) (by omega)
   rw [tq hne] at r ⊢;rw [VH];cases hr:m.Af i (tV all m.c.aH.toNat i) with
   | true=>
    rw [hr] at e5;rw [zaG];simp only [xq_,h1,l2,iT,dB,hmul,h6,h7,aiq,w1,w2,hsl,e5,zar,r]
   | false=>
    rw [hr] at e5;rw [zaF];simp only [xq_,h1,l2,iT,dB,hmul,h6,h7,aiq,w1,w2,hsl,e5,zaB]
 have r:=key m.c.aG.toNat 0 (by omega);rw [zaM] at r
 replace r:DU cl [.ref A.iV 0 0,.ref H.next 0 0,dat all,I m.c.aG,I 0] H1=some (B (m.valuesB all),H1):=r
 simp only [xq_,af9,e0,st8,l8,lt,e1,e2,e3,e4,eq_self,zar,l1,r]
theorem XT(G:Good b H g)(M:fG g A m)(X:MX T m){p:AV}{lg vb:Bool}(hs:∀L w,m.walk L=some w->MF w)
  (hL:∀H1 ev,Step H.next H.guard H1->aA H1 ev 4 m.trace.length (m.trace.flatMap Evn.av)->cl 54 [.agg m.c.av,p,ev] H1=some (B lg,H1))
  (hV:∀H1,Step H.next H.guard H1->cl 19 [.ref A.iV 0 0,p] H1=some (B vb,H1)):cl 18 [.ref A.iV 0 0,p] H=some (B (m.Rz && (lg && vb)),H):=by
 refine bC rfl rfl (ajo _ _ _ _) ?_ fP;have Bd:=uo X.inv.ok;have hln:=Bd.aG;let H1:=H.guard.new (.blk 0 31 m.c.av);have s1:Step H.next H.guard H1:=Step.new _ (zac _)
 have G1:Good b H1 g:=G.guard.new _;have g1:H1.get H.next=.blk 0 31 m.c.av:=aK rfl
 have e0:=kT G.guard M X.inv.ok;have hbn:H.guard.base<=H.guard.next:=zac _
 have st8:st 8 (.ref H.next 0 0) (.agg m.c.av) (H.guard.new (.blk 0 31 [zI,zI,zI,zI,zI,zI,zI,zN]))=some (aV,H1):=by
  have akR:=dI m.c;show st 8 (.ref H.guard.next 0 0) _ _=_;rw [qc rfl];have cc:(AV.agg m.c.av).cells=m.c.av:=rfl;have lc:m.c.av.length=8:=rfl;rw [cc,lc,if_pos ⟨hbn,rfl,akR,zac _⟩];rfl
 have l8:=eX g1;have lt:=G1.load M.iV (i:=1) (x:=.ref A.trace 0 0) rfl;obtain⟨ev,e1,hev⟩:=Ed G1.guard M.trace X.trl;have e2:=hL H1 ev s1 (hev H1);have e3:=hV H1 s1;have l1:ld (.ref H.next 0 1) H1=some (I m.c.aG,H1):=by rw [dA g1];rfl
 have key:∀k i,i+k=m.c.aG.toNat->DT cl [.ref A.iV 0 0,p,.ref H.next 0 0,I m.c.aG,I i] H1=some (B ((((List.range m.c.aG.toNat).drop i).all λi=> m.single i && (!decide (m.owner i=-1) || m.EH i)) && (lg && vb)),H1):=by
  intro k
  induction k with
  | zero=>
   intro i hi;have h1:¬(i:Int) < m.c.aG:=by omega
   rw [zaJ (by simp;omega),VG];simp only [zck,zaG];cases lg with
   | true=> simp only [Int.reduceNeg,xq_,h1,l8,lt,e1,e2,e3,zaG]
   | false=> simp only [Int.reduceNeg,xq_,h1,l8,lt,e1,e2,zaF]
  | succ k ih=>
   intro i hi;have h1:(i:Int) < m.c.aG:=by omega
   have r:=ih (i+1) (by omega);have h6:(i:Int)+1=((i+1:Nat):Int):=by omega
   have h7:=wrap_i64 (a:=((i+1:Nat):Int)) (by omega) (by omega);have e4:=TY G1 M X (i:Int);have e5:=EI G1 M X (i:Int);have e6:=Rw G1 M X (i:Int) (hs _);rw [GL (by omega),zbR,VG];cases h2:m.single i with
   | false=>
    rw [h2] at e4;rw [zaF,zaF,zaF];simp only [Int.reduceNeg,xq_,h1,e4,zaB]
   | true=>
    rw [h2] at e4;rw [zaG];by_cases h3:m.owner i=-1
    ·rw [h3] at e5;rw [decide_eq_true h3,zar,zbK];cases h4:m.EH i with
     | true=>
      rw [h4] at e6;rw [zaG];simp only [Int.reduceNeg,xq_,h1,e4,zar,e5,e6,dB,h6,h7,r]
     | false=>
      rw [h4] at e6;rw [zaF,zaF];simp only [Int.reduceNeg,xq_,h1,e4,zar,e5,e6,zaB]
    ·rw [decide_eq_false h3,zaB,zbW,zaG];simp only [Int.reduceNeg,xq_,h1,e4,zar,e5,h3,dB,h6,h7,r]
 have r:=key m.c.aG.toNat 0 (by omega);rw [zaM] at r
 replace r:DT cl [.ref A.iV 0 0,p,.ref H.next 0 0,I m.c.aG,I 0] H1=some (B (m.Rz && (lg && vb)),H1):=r
 simp only [xq_,af7,e0,st8,l1,r]
end
section
variable {c:Cfg}{ps:List (List Opn)}{L:Int}
theorem JC(j:Int):(∃l,(bH.new c ps).dG j=some (.new c j l))∨(bH.new c ps).dG j=none:=by
 unfold bH.dG bH.new;by_cases h0:0<=j
 ·rw [if_pos h0];simp only [zbY];cases h:ps[j.toNat]? with
  | none=> exact .inr rfl
  | some l=> exact .inl ⟨l,by rw [zaf,zbE h0]⟩
 ·rw [if_neg h0];exact .inr rfl
theorem JD(j:Int):(bH.new c ps).jl L j=none:=by
 unfold bH.jl;rcases JC (c:=c) (ps:=ps) j with⟨l,h⟩ | h
 ·rw [h];rfl
 ·rw [h];rfl
theorem XU:((bH.new c ps).kV L).aT=⟨[],[]⟩:=by
 unfold bH.kV;rcases JC (c:=c) (ps:=ps) ((bH.new c ps).c.aQ L) with⟨l,h⟩ | h
 ·rw [h];rfl
 ·rw [h]
theorem XV:(bH.new c ps).owner L=-1:=by
 unfold bH.owner;rw [XU];split <;> rfl
theorem zA:(bH.new c ps).copies L=[]:=by
 unfold bH.copies;rw [List.filter_eq_nil_iff];intro i _;rw [JD];simp
theorem RD(hc:c.ok=true)(hp:(ps.length:Int)=c.au)(h:(bH.new c ps).isL L=true):(bH.new c ps).rP L=⟨0,-1,c.first L⟩:=by
 unfold bH.isL at h;simp only [zae,decide_eq_true_eq] at h;obtain⟨h0,h1⟩:=h;have hh:=Gx hc h0;have hn:∃l,(bH.new c ps).dG (c.aQ L)=some (.new c (c.aQ L) l):=by
  rcases JC (c:=c) (ps:=ps) (c.aQ L) with h | h
  ·exact h
  ·unfold bH.dG bH.new at h;rw [if_pos hh.1] at h;simp only [zbY,Option.map_eq_none_iff,List.getElem?_eq_none_iff] at h;omega
 obtain⟨l,hn⟩:=hn;unfold bH.rP bH.kV;have hcc:(bH.new c ps).c=c:=rfl;rw [hcc,hn];unfold jg;show(jq (c.iO (c.aQ L) c.aG.toNat) L).getD .zero=_;have h1':L < c.aG:=h1;rw [xW,if_pos ⟨h0,by omega,rfl⟩];rfl
theorem acn(hc:c.ok=true)(hp:(ps.length:Int)=c.au)(h:(bH.new c ps).isL L=true):Wf (bH.new c ps).c.au ((bH.new c ps).jl L) ((bH.new c ps).rP L) (c.first L) []:=by
 rw [RD hc hp h];exact⟨⟨List.nodup_nil,λj hj=> (by cases hj)⟩,trivial,λj e h=> (by rw [JD] at h;cases h),rfl,.inl rfl,(by simp),λh=> absurd (show(0:Int)=2 from h) (by decide),λj e h=> (by rw [JD] at h;cases h),λj e h=> (by rw [JD] at h;cases h),λ_=> rfl⟩
theorem RF(hc:c.ok=true)(hp:(ps.length:Int)=c.au):(bH.new c ps).EH L=true:=by
 by_cases h:(bH.new c ps).isL L=true
 ·exact(acn hc hp h).EH
 ·unfold bH.EH;rw [if_pos (by simpa using h)]
theorem yt(hc:c.ok=true)(hp:(ps.length:Int)=c.au):(bH.new c ps).walk L=if(bH.new c ps).isL L=true then some [] else none:=by
 by_cases h:(bH.new c ps).isL L=true
 ·rw [if_pos h];exact(acn hc hp h).walk h
 ·rw [if_neg h];unfold bH.walk;rw [if_neg h]
theorem Uf:(bH.new c ps).single L=true:=by
 unfold bH.single;rw [zA];rfl
theorem XW(hc:c.ok=true)(hp:(ps.length:Int)=c.au)(h:(bH.new c ps).isL L=true):(bH.new c ps).Af L (c.first L)=true:=by
 unfold bH.Af;rw [zA,RD hc hp h];simp
end
theorem MK {c:Cfg}{n i:Nat}(hi:i < n)(hn:(n:Int)<=c.aG)(hw:0<=c.aH):tV (iq c n) c.aH.toNat i=c.first i:=by
 have h1:(i+1)*c.aH.toNat<=n*c.aH.toNat:=zaz _ (by omega);have h2:(i+1)*c.aH.toNat=i*c.aH.toNat+c.aH.toNat:=zbA _ _;refine zbD λj=> ?_;unfold tV;rw [zaH];by_cases hj:j < c.aH.toNat
 ·rw [if_pos hj,zaL];unfold iq;rw [zas,zbr (by omega),Ls (by omega) (by omega) hj];have:((i:Int)*c.aH).toNat=i*c.aH.toNat:=by
   obtain⟨w,hw'⟩:=Int.eq_ofNat_of_zero_le hw;rw [hw'];simp only [zao];rw [<-zcw,zao]
  rw [this];rfl
 ·rw [if_neg hj,zaN];rw [xO (by omega) (by omega)];omega
def yx:Cfg:=⟨2,1,1,1,1,1,1,[]⟩
theorem aew(H:ah):cl 14 [] H=some (B true,H):=by
 have hc:yx.ok=true:=by decide
 have hp:yx.oZ [[],[]]=true:=by decide
 have hpl:(([[],[]]:List (List Opn)).length:Int)=yx.au:=rfl;have hav:yx.av=[I 2,I 1,I 1,I 1,I 1,I 1,I 1,zN]:=by simp [yx,Cfg.av,dat,jo]
 let H2:=H.guard.new (.blk 0 62 [zN,zN]);have hps:∀K:ah,Ld (K.new (.blk 0 62 [zN,zN])) (.sl K.next 0 0 1 2 2 true) [[],[]]:=λK=> ⟨[zN,zN],mJ (n:=2) (m:=1) (l:=[zN,zN]) rfl,λi v l a b=> by
  match i with
  | 0=> cases a;cases b;exact⟨aA.nil,λ_=> rfl⟩
  | 1=> cases a;cases b;exact⟨aA.nil,λ_=> rfl⟩
  | i+2=> cases a⟩
 have al2:Ld H2 (.sl H.next 0 0 1 2 2 true) [[],[]]:=hps H.guard;obtain⟨H3,A,g,e1,M,MI⟩:=Gp H2 (by simp only [H2,oD,fC,afM,yw];omega) yx hc al2 hp;have X:MX 0 (.new yx [[],[]]):=ach hc (λz h=> by cases h) hp (λl hl o ho=> by
  simp only [zai,zaK,or_false,or_self] at hl;subst hl;cases ho)
 have e2:=BP M.good MI X 0;rw [yt hc hpl] at e2
 replace e2:cl 10 [.ref A.iV 0 0,I 0] H3=some (.tup [dat [],B true],H3):=e2
 let H4:=H3.new (.blk 0 62 [zN,zN]);have G4:Good H2.next H4 g:=M.good.new _
 have hwk:∀L w,(bH.new yx [[],[]]).walk L=some w->MF w:=λL w h=> by
  rw [yt hc hpl] at h;split at h
  ·cases h;exact MG
  ·cases h
 have hl:((iq yx yx.aG.toNat).length:Int)=(bH.new yx [[],[]]).c.fK:=rfl;have pst:∀H1,Step H4.next H4.guard H1->Ld H1 (.sl H3.next 0 0 1 2 2 true) [[],[]]:=λH1 s=> (hps H3).fU (zaC (zac _) s.next) λr hr=> s.low r hr
 have tr0:(bH.new yx [[],[]]).trace=[]:=rfl;have eL:=λ(H1:ah) (ev:AV) (s:Step H4.next H4.guard H1) (h:aA H1 ev 4 0 [])=> Uc H1 hc (pst H1 s) hp h;have eV:∀K,Step H4.next H4.guard K->cl 19 [.ref A.iV 0 0,.sl H3.next 0 0 1 2 2 true] K=some (B ((bH.new yx [[],[]]).valuesB (iq yx yx.aG.toNat)),K):=λK s=> by
  have GK:Good H2.next K g:=G4.guard.ext s.next s.low
  exact Ue GK MI X (p:=.sl H3.next 0 0 1 2 2 true) (all:=iq yx yx.aG.toNat) hl λH1 ev s1 h=> Ud H1 hc ((pst K s).fU s1.next λr hr=> s1.low r hr) hp h
 have vt:(bH.new yx [[],[]]).valuesB (iq yx yx.aG.toNat)=true:=by
  unfold bH.valuesB;rw [za0];intro i hi;have hi':i < 1:=zaY.1 hi;show(bH.new yx [[],[]]).Af i (tV (iq yx yx.aG.toNat) yx.aH.toNat i)=true;rw [MK (c:=yx) (n:=yx.aG.toNat) hi' (zbe _) (by decide)];exact XW hc hpl (by
   obtain rfl:i=0:=by omega
   decide)
 rw [vt] at eV;have e3:=XT G4 MI X (p:=.sl H3.next 0 0 1 2 2 true) (lg:=true) (vb:=true) hwk eL eV;have hlb:(bH.new yx [[],[]]).Rz=true:=by
  unfold bH.Rz;rw [za0];intro i hi;rw [Uf,RF hc hpl];simp
 rw [hlb] at e3;have ev:bd 31 [(0,I 2),(1,I 1),(2,I 1),(3,I 1),(4,I 1),(5,I 1),(6,I 1)]=some (.agg yx.av):=by
  rw [hav];simp only [xq_,afd,lD,fV,acR];rfl
 have b0:bi .neq 57 (I 0) (I 0)=some (B false):=by kernel_rfl
 have en:bi .eql 25 (.ref A.iV 0 0) zP=some (B false):=by kernel_rfl
 have es:∀H,bs 27 2 [(0,zN),(1,zN)] H=some (.sl H.next 0 0 1 2 2 true,H.new (.blk 0 62 [zN,zN])):=λH=> by
  exact(ai0 (by decide)).trans rfl
 have d0:=(gW H4 []).lnS
 replace d0:lnS (dat []) H4=some (I 0,H4):=d0
 refine iJ rfl rfl (ajn _ _ (r:=(B true,H4)) ?_) jH;simp only [H2] at e1;simp only [zcn] at e3;have es3:bs 27 2 [(0,zN),(1,zN)] H3=some (.sl H3.next 0 0 1 2 2 true,H4):=es H3;simp only [xq_,af5,ev,es H.guard,es3,e1,e2,e3,b0,en,d0]
theorem aex {b:Nat}{H:ah}{g:bJ}{A:Adr}{c:Cfg}{ps:List (List Opn)}(G:Good b H g)(M:fG g A (.new c ps))(X:MX 0 (.new c ps))(hp:(ps.length:Int)=c.au){n:Int}(hn:(bH.new c ps).isL n=false):
  ∀k (i:Nat),i+k=c.aG.toNat->KX cl [I n,.ref A.iV 0 0,dat [],B false,I i] H=some (B true,H):=by
 have hc:c.ok=true:=X.inv.ok;have hln:=(uo hc).aG;have e0:=kT G M X.inv.ok;have l1:(bH.new c ps).c.av[1]?=some (I c.aG):=rfl;have hwk:∀L w,(bH.new c ps).walk L=some w->MF w:=λL w h=> by
  rw [yt hc hp] at h;split at h
  ·cases h;exact MG
  ·cases h
 have d0:lnS (dat []) H=some (I 0,H):=(gW H []).lnS;have e3:∀L,cl 11 [.ref A.iV 0 0,I L] H=some (dat [],H):=λL=> by
  have:=uG G M X L;rw [zA] at this;exact this
 have e4:∀L,cl 12 [.ref A.iV 0 0,I L] H=some (I (-1),H):=λL=> by
  have:=EI G M X L;rw [XV] at this;exact this
 have e5:∀L,cl 13 [.ref A.iV 0 0,I L] H=some (B true,H):=λL=> by
  have:=Rw G M X L (hwk L);rw [RF hc hp] at this;exact this
 intro k
 induction k with
 | zero=>
  intro i hi;have h1:¬(i:Int) < c.aG:=by omega
  have wk:=aew H;rw [aaZ];simp only [Int.reduceNeg,xq_,e0,l1,h1,zaB,d0,e3 n,e4 n,e5 n,wk]
 | succ k ih=>
  intro i hi;have h1:(i:Int) < c.aG:=by omega
  have h6:(i:Int)+1=((i+1:Nat):Int):=by omega
  have h7:=wrap_i64 (a:=((i+1:Nat):Int)) (by omega) (by omega);have r:=ih (i+1) (by omega);have e2:=BP G M X (i:Int);rw [yt hc hp,if_pos (XR h1)] at e2
  replace e2:cl 10 [.ref A.iV 0 0,I i] H=some (.tup [dat [],B true],H):=e2
  rw [aaZ];simp only [Int.reduceNeg,xq_,e0,l1,h1,e2,zar,d0,e3 i,e4 i,e5 i,dB,h6,h7,r]
theorem JE {s:jA}{zi zw zk za zv:List Int}(h:s.Ok zi zw zk za zv)(hi:aA ah.empty s.init 1 zi.length (zi.map I))(hw:aA ah.empty s.who 1 zw.length (zw.map I))(hk:aA ah.empty s.kinds 1 zk.length (zk.map I))(ha:aA ah.empty s.fK 1 za.length (za.map I))(hv:aA ah.empty s.bf 1 zv.length (zv.map I))
  (hc:s.init.aJ=true/\s.who.aJ=true/\s.kinds.aJ=true/\s.fK.aJ=true/\s.bf.aJ=true) (n:Int) (hn:Iu n):∃H',cl 3 [.agg s.cells,I n] ah.empty=some (B true,H'):=by
 have hall:s.cells.all AV.aJ=true:=by
  simp only [jA.cells,zbR,zck,hc,zco];rfl
 have Z:alf s zi zw zk za zv:=⟨h,hi,hw,hk,ha,hv,hc⟩
 let c:=s.cfg zi;let ps:=ng c zw zk za zv 4;let H1:=ah.empty.new (.blk 0 24 s.cells);obtain⟨H2,A,q,f,N,g,mid,b,e1,BI,hb,s2,X,hop⟩:=aec Z H1 (zaR _) (mo:=4) (by decide) (c:=c) (ps:=ps) rfl rfl;have hp:(ps.length:Int)=c.au:=(xM hop).1;have hck:c.ok=true:=X.inv.ok;have hln:=(uo hck).aG;have e0:=kT BI.good BI.iV X.inv.ok;have l1:(bH.new c ps).c.av[1]?=some (I c.aG):=rfl;have en:bi .eql 25 (.ref A.iV 0 0) zP=some (B false):=by kernel_rfl
 have ls:s.cells.length=12:=rfl;have lt:s.cells.take 12=s.cells:=rfl;have go:∀n',(bH.new c ps).isL n'=false->Qw cl (I n') (.ref A.iV 0 0) H2=some (B true,H2):=λn' h=> by
  have e2:=BP BI.good BI.iV X n';rw [yt hck hp,h] at e2
  replace e2:cl 10 [.ref A.iV 0 0,I n'] H2=some (.tup [dat [],B false],H2):=e2
  have r:=aex BI.good BI.iV X hp h c.aG.toNat 0 (by omega)
  replace r:KX cl [I n',.ref A.iV 0 0,dat [],B false,I 0] H2=some (B true,H2):=r
  simp only [xq_,Qw,e2,r]
 refine⟨H2,dU rfl rfl (aly _ _ _ _ ?_)⟩;have z4:((4:Nat):Int)=4:=rfl;rw [z4] at e1;simp only [H1] at e1;by_cases h0:0<=n
 ·by_cases h2:n < c.aG
  ·have:=hn.2;have h7:=wrap_i64 (a:=n+c.aG) (by omega) (by omega);have g1:=go (n+c.aG) (by
    unfold bH.isL;rw [show decide (n+c.aG < (bH.new c ps).c.aG)=false from decide_eq_false (by show¬n+c.aG < c.aG;omega),zb6])
   simp only [Nat.reduceLT,xq_,hq_,aiD,aO hall,ls,lt,e1,en,h0,e0,l1,h2,dB,h7,g1]
  ·have g1:=go n (by
    unfold bH.isL;rw [show decide (n < (bH.new c ps).c.aG)=false from decide_eq_false h2,zb6])
   simp only [Nat.reduceLT,xq_,hq_,aiD,aO hall,ls,lt,e1,en,h0,e0,l1,h2,g1]
 ·have g1:=go n (by
   unfold bH.isL;rw [decide_eq_false h0,zaF])
  simp only [Nat.reduceLT,xq_,hq_,aiD,aO hall,ls,lt,e1,en,h0,g1]
end
end Go.Proofs.YtgplhpgkompkmaaGreat
