/-
  Own work, a part.
-/
import Derived.Test.YtgplhpgkompkmaaGreatFj
set_option linter.all false
namespace Go.Proofs.YtgplhpgkompkmaaGreat
open Option renaming some->ZC,none->Z1
open Bool renaming true->Z0,false->ZV
open Decidable renaming decide->u,decide->YM
noncomputable section
def dh.jO(m:dh)(L:Int):sK:=λj=>(m.bC j).bind λn=>n.aJ.find L
def dh.jJ(m:dh)(L:Int):Home:=match m.bC (m.c.bf L)with
 |some n=>n.home
 |none=>⟨[],⟨[],[]⟩⟩
def dh.vU(m:dh)(j:Int):bW:=match m.bC j with
 |some n=>n.aO
 |none=>.zero
def dh.abs(m:dh)(msg:Int->Out)(val:Int->Q Int):Abs:=
 ⟨m.jO,λL=>iR (m.jJ L).dS L,λL=>(m.jJ L).bn.owner L,λL=>(m.jJ L).bn.ws L,m.vU,msg,val⟩
structure GInv(m:dh)(msg:Int->Out)(val:Int->List Int):Prop where
 abs:nU m.c (m.abs msg val)
 pk:pK m.fab msg
def dh.with_(m:dh)(i:Nat)(n:Node)(f:Fab)(t:Q Evn):dh:={ m with aF:=m.aF.set i n,fab:=f,trace:=t }
section
variable {m:dh}{i:Nat}{n n':Node}{f:Fab}{t:List Evn}{msg msg':Int->Out}{val val':Int->List Int}
def yC(h:m.aF[i]?=ZC n):m.bC i=ZC n:=by
 unfold dh.bC;rw[y V,Int.toNat_natCast];exact h
def Cb(h:m.aF[i]?=ZC n)(j:Int):(m.with_ i n' f t).bC j=if j=i then ZC n' else m.bC j:=by
 have d:=(List.getElem?_eq_some_iff.1 h).1;unfold dh.bC dh.with_;simp only;by_cases e:j=i
 ·rw[y e,e,y V,Int.toNat_natCast,List.getElem?_set_self d]
 ·rw[F e];by_cases b:0<=j
  ·rw[y b,y b,List.getElem?_set_ne V]
  ·rw[F b,F b]
def SI(h:m.aF[i]?=some n)(L:Int):(m.with_ i n' f t).jO L=pV (m.jO L) i (n'.aJ.find L):=by
 funext j
 unfold dh.jO;rw[Cb h];by_cases b:j=i
 ·rw[if_pos b,b,ig];rfl
 ·rw[if_neg b,fJ b]
def LZ(h:m.aF[i]?=some n):(m.with_ i n' f t).vU=dZ m.vU i n'.aO:=by
 funext j
 unfold dh.vU;rw[Cb h];by_cases b:j=i
 ·rw[if_pos b,b,aS]
 ·rw[if_neg b,aY b]
def yD(h:m.aF[i]?=ZC n)(L:Int):(m.with_ i n' f t).jJ L=if m.c.bf L=i then n'.home else m.jJ L:=by
 unfold dh.jJ;have hc:(m.with_ i n' f t).c=m.c:=rfl;rw[Cb h,hc];by_cases b:m.c.bf L=i
 ·rw[y b,y b]
 ·rw[F b,F b]
def oV(h:m.aF[i]?=ZC n){L:Int}(b:m.c.bf L=i):m.jJ L=n.home:=by
 unfold dh.jJ;rw[b,yC h]
def zV(h:m.aF[i]?=ZC n)(L:Int):m.jO L i=n.aJ.find L:=by
 unfold dh.jO;rw[yC h];rfl
def qh(h:m.aF[i]?=ZC n):m.vU i=n.aO:=by
 unfold dh.vU;rw[yC h]
def xM(h:m.aF[i]?=some n)(e:n'.home=n.home){L:Int}(hc:∀b,b≠L->n'.aJ.find b=n.aJ.find b):
  (m.with_ i n' f t).abs msg' val'={ m.abs msg val with ent:=dZ m.jO L (pV (m.jO L) i (n'.aJ.find L)),aO:=dZ m.vU i n'.aO,msg:=msg',val:=val' }:=by
 have g:∀L,(m.with_ i n' f t).jJ L=m.jJ L:=λL=>by
  rw[yD h];by_cases d:m.c.bf L=i
  ·rw[if_pos d,e,oV h d]
  ·rw[if_neg d]
 have j:(m.with_ i n' f t).jO=dZ m.jO L (pV (m.jO L) i (n'.aJ.find L)):=by
  funext b
  rw[SI h];by_cases d:b=L
  ·rw[d,aS]
  ·rw[aY d,hc b d,<-zV h b,nN]
 unfold dh.abs;simp only[g,j,LZ h]
def Gq(h:m.aF[i]?=some n)(hc:∀L,n'.aJ.find L=n.aJ.find L)(hd:n'.aO=n.aO){L:Int}(g:m.c.bf L=i)(o:∀b,b≠L->iR n'.home.dS b=iR n.home.dS b)(p:∀b,b≠L->n'.home.bn.owner b=n.home.bn.owner b)(hw:∀b,b≠L->n'.home.bn.ws b=n.home.bn.ws b):
  (m.with_ i n' f t).abs msg' val={ m.abs msg val with row:=dZ (m.abs msg val).row L (iR n'.home.dS L),own:=dZ (m.abs msg val).own L (n'.home.bn.owner L),ws:=dZ (m.abs msg val).ws L (n'.home.bn.ws L),msg:=msg' }:=by
 have q:(m.with_ i n' f t).jO=m.jO:=by
  funext b
  rw[SI h,hc,<-zV h b,nN]
 have u:(m.with_ i n' f t).vU=m.vU:=by
  rw[LZ h,hd,<-qh h]
  funext j
  by_cases k:j=i
  ·rw[k,aS]
  ·rw[aY k]
 have v:(λb=>iR ((m.with_ i n' f t).jJ b).dS b)=dZ (λL=>iR (m.jJ L).dS L) L (iR n'.home.dS L):=by
  funext b
  rw[yD h];by_cases e:b=L
  ·rw[e,if_pos g,aS]
  ·rw[aY e];by_cases d:m.c.bf b=i
   ·rw[if_pos d,o b e,oV h d]
   ·rw[if_neg d]
 have w:(λb=>((m.with_ i n' f t).jJ b).bn.owner b)=dZ (λL=>(m.jJ L).bn.owner L) L (n'.home.bn.owner L):=by
  funext b
  rw[yD h];by_cases e:b=L
  ·rw[e,if_pos g,aS]
  ·rw[aY e];by_cases d:m.c.bf b=i
   ·rw[if_pos d,p b e,oV h d]
   ·rw[if_neg d]
 have y:(λb=>((m.with_ i n' f t).jJ b).bn.ws b)=dZ (λL=>(m.jJ L).bn.ws L) L (n'.home.bn.ws L):=by
  funext b
  rw[yD h];by_cases e:b=L
  ·rw[e,if_pos g,aS]
  ·rw[aY e];by_cases d:m.c.bf b=i
   ·rw[if_pos d,hw b e,oV h d]
   ·rw[if_neg d]
 unfold dh.abs;simp only[q,u,v,w,y]
end
def adI {c:Cfg}(hc:c.ok=Z0){i:Int}(hi:0<=i/\i<c.aF){k L id:Int}(g:0<=L/\L<c.aT)(d:0<=id/\id<4096):((bW.begin k L id).ask i (c.bf L)).ok=Z0/\wB ((bW.begin k L id).ask i (c.bf L)).aW=Z0/\((bW.begin k L id).ask i (c.bf L)).src=i/\0<=((bW.begin k L id).ask i (c.bf L)).dst/\((bW.begin k L id).ask i (c.bf L)).dst<c.aF:=by
 have⟨h,j,_⟩:=lu hc;have b:0<=c.bf L/\c.bf L<c.aF:=by
  unfold Cfg.bf wV;rw[F V];exact⟨Int.emod_nonneg _ V,Int.emod_lt_of_pos _ V⟩
 have e:(bW.begin k L id).ask i (c.bf L)=⟨1,i,c.bf L,id,L,0,0,ZV,[]⟩:=rfl;rw[e];refine⟨?_,W,W,b.1,b.2⟩;simp only[Pkt.ok,Bool.and_eq_true,zab,List.length_nil];omega
def L6 {c:Cfg}(hc:c.ok=Z0){L:Int}(b:0<=L):0<=c.bf L/\c.bf L<c.aF:=by
 have⟨d,_⟩:=lu hc;unfold Cfg.bf wV;rw[F V];exact⟨Int.emod_nonneg _ V,Int.emod_lt_of_pos _ V⟩
def alX {c:Cfg}(hc:c.ok=Z0){i:Int}(hi:0<=i/\i<c.aF){E:sK}{r:Row}{v:Q Int}{d:bW}(H:Hold c.aF (c.bf d.ak) E r v i d (.req (d.ask i (c.bf d.ak))))(hL:0<=d.ak/\d.ak<c.aT)(hid:0<=d.id/\d.id<4096)(hd:d.data.length<=4):
  (d.ask i (c.bf d.ak)).ok=Z0/\wB (d.ask i (c.bf d.ak)).aW=Z0/\(d.ask i (c.bf d.ak)).src=i/\0<=(d.ask i (c.bf d.ak)).dst/\(d.ask i (c.bf d.ak)).dst<c.aF:=by
 have⟨h1,h2,_⟩:=lu hc;have hh:=L6 hc hL.1;have last:∀{l:Q Int},Rng c.aF l->l≠[]->0<=nK l (-1)/\nK l (-1)<c.aF:=λR hl=>R.2 _ (Jr hl);have auw:∀{l:Q Int},Rng c.aF l->-1<=nK l (-1)/\nK l (-1)<c.aF:=λ{l} R=>by
  by_cases hl:l=[]
  ·rw[hl];exact⟨Int.le_refl _,by show(-1:Int)<c.aF;omega⟩
  ·have:=last R hl;omega
 have hd_:∀{l:Q Int},Rng c.aF l->l≠[]->0<=hdI l (-1)/\hdI l (-1)<c.aF:=λR hl=>R.2 _ (R.hd hl).1;have hdo:∀{l:Q Int},Rng c.aF l->-1<=hdI l (-1)/\hdI l (-1)<c.aF:=λ{l} R=>by
  by_cases hl:l=[]
  ·rw[hl];exact⟨Int.le_refl _,by show(-1:Int)<c.aF;omega⟩
  ·have:=hd_ R hl;omega
 have hq:∃q,Out.req (d.ask i (c.bf d.ak))=q/\Hold c.aF (c.bf d.ak) E r v i d q:=⟨_,Z3,H⟩
 have⟨q,hq,H⟩:=hq;cases H with
 |attach k1 k2 k3 k4 W=>
  have:=hd_ W.rng k3;have e:d.ask i (c.bf d.ak)=⟨3,i,d.head,d.id,d.ak,i,0,ZV,[]⟩:=by unfold bW.ask;simp[k1]
  rw[e];refine⟨?_,Z3,Z3,by show 0<=d.head;omega,by show d.head<c.aF;omega⟩;simp only[Pkt.ok,Bool.and_eq_true,zab,List.length_nil];omega
 |EJ k1 k2 L k3 k4=>
  have:=L.rng.2 d.next (by simp)
  have e:d.ask i (c.bf d.ak)=⟨6,i,d.next,d.id,d.ak,0,0,ZV,[]⟩:=by unfold bW.ask;simp[k1]
  rw[e];refine⟨?_,Z3,Z3,by show 0<=d.next;omega,by show d.next<c.aF;omega⟩;simp only[Pkt.ok,Bool.and_eq_true,zab,List.length_nil];omega
 |front k1 k2 M k3 C k4 k5 k6=>
  have⟨_,_,_,p1,p2,_⟩:=M.rng.mid;have:=last p1 k3;have:=hdo p2;have e:d.ask i (c.bf d.ak)=⟨4,i,d.head,d.id,d.ak,d.next,0,ZV,[]⟩:=by unfold bW.ask;simp[k1]
  rw[e];refine⟨?_,Z3,Z3,by show 0<=d.head;omega,by show d.head<c.aF;omega⟩;simp only[Pkt.ok,Bool.and_eq_true,zab,List.length_nil];omega
 |behind k1 k2 M k3 C C' k4 k5 k6=>
  have⟨_,_,_,p1,p2,_⟩:=M.rng.mid;have:=auw p1;have:=hd_ p2 k3;have e:d.ask i (c.bf d.ak)=⟨5,i,d.next,d.id,d.ak,d.head,0,ZV,[]⟩:=by unfold bW.ask;simp[k1]
  rw[e];refine⟨?_,Z3,Z3,by show 0<=d.next;omega,by show d.next<c.aF;omega⟩;simp only[Pkt.ok,Bool.and_eq_true,zab,List.length_nil];omega
 |unlock k1 W=>
  have:=hdo W.rng;have h3:d.head=_:=W.head;have h4:d.state=0∨d.state=1∨d.state=2:=W.st;have e:d.ask i (c.bf d.ak)=⟨2,i,c.bf d.ak,d.id,d.ak,d.head,d.state,u (d.data≠[]),d.data⟩:=by unfold bW.ask;simp[k1]
  rw[e];refine⟨?_,Z3,Z3,hh.1,hh.2⟩;simp only[Pkt.ok,Bool.and_eq_true,zab];omega
 |granted _ _=>cases hq
 |attached _ _ _ _ _ _ _ _ _ _=>cases hq
 |BP _ _ _ _ _=>cases hq
 |vS _ _ _ _ _ _ _ _ _=>cases hq
 |qg _ _ _ _ _ _ _ _ _=>cases hq
def lq(c:Cfg)(o:Opn)(val:Int->Q Int):(Int->Q Int) × Int:=
 let L:=c.bZ o.addr;let w:=(c.dH o.addr).toNat
 if o.aW=1 then(val,(val L).getD w 0)
 else if o.aW=2 then(dZ val L ((val L).set w o.value),0)
 else if o.aW=3 then(dZ val L ((val L).set w (w64 ((val L).getD w 0+o.value))),(val L).getD w 0)
 else(val,0)
inductive zW (c:Cfg) (P:Int->Nat->Option Opn):List Evn->(Int->List Int)->List Evn->(Int->List Int)->Prop
 |same {t:List Evn} {v:Int->List Int}:zW c P t v t v
 |fD {t t':List Evn} {v v':Int->List Int} (i:Int) (k:Nat):zW c P t v t' v'->zW c P t v (t'++[⟨i,k,false,0⟩]) v'
 |done {t t':List Evn} {v v':Int->List Int} (i:Int) (k:Nat) (o:Opn):P i k=some o->zW c P t v t' v'->zW c P t v (t'++[⟨i,k,true,(lq c o v').2⟩]) (lq c o v').1
def dh.opAt(m:dh)(i:Int)(k:Nat):M Opn:=match m.bC i with
 |some n=>n.bU.ops[k]?
 |none=>Z1
def adJ {c:Cfg}{o:Opn}{e:Ent}{val:Int->Q Int}(hk:o.aW=1∨((o.aW=2∨o.aW=3)/\e.bJ=Z0))(hv:e.data=val (c.bZ o.addr))(hw:0<=c.dH o.addr/\c.dH o.addr<e.data.length):
  (fA e o (c.dH o.addr)).data=(lq c o val).1 (c.bZ o.addr)/\(∀L,L≠c.bZ o.addr->(lq c o val).1 L=val L)/\(if o.aW=2 then 0 else e.word (c.dH o.addr))=(lq c o val).2/\
  (fA e o (c.dH o.addr)).back=e.back/\(fA e o (c.dH o.addr)).fwd=e.fwd/\(fA e o (c.dH o.addr)).bJ=e.bJ/\(o.aW=1->fA e o (c.dH o.addr)=e):=by
 have b:e.word (c.dH o.addr)=(val (c.bZ o.addr)).getD (c.dH o.addr).toNat 0:=by
  unfold Ent.word;rw[y hw,hv]
 unfold fA lq;rcases hk with hk|⟨hk|hk,hd⟩
 ·rw[F V,F V,y hk,F V];exact⟨hv,λ_ _=>rfl,b,W,W,W,λ_=>rfl⟩
 ·have d:∀x,e.write (c.dH o.addr) x={ e with data:=e.data.set (c.dH o.addr).toNat x }:=λx=>by
   unfold Ent.write;rw[y ⟨hd,hw⟩]
  rw[y hk,F V,y hk,y hk,d];exact⟨by simp only[aS,hv],λL g=>aY g,W,W,W,W,λh=>V⟩
 ·have d:∀x,e.write (c.dH o.addr) x={ e with data:=e.data.set (c.dH o.addr).toNat x }:=λx=>by
   unfold Ent.write;rw[y ⟨hd,hw⟩]
  rw[F V,y hk,F V,F V,y hk,F V,d,b];exact⟨by simp only[aS,hv],λL g=>aY g,W,W,W,W,λh=>V⟩
def dh.isL(m:dh)(L:Int):Bool:=u (0<=L) && u (L<m.c.aT)
def dh.ids(m:dh):Q Int:=(List.range m.aF.length).map λi:Nat=>(i:Int)
def dh.copies(m:dh)(L:Int):Q Int:=m.ids.filter λi=>(m.jO L i).isSome && m.isL L
def dh.wE(m:dh)(L:Int):Row:=iR (m.jJ L).dS L
def uz(E:sK):Nat->Int->Q Int->M (Q Int)
 |0,_,_=>Z1
 |k+1,at_,out=>if at_=-1 then ZC out else match E at_ with
  |none=>Z1
  |some e=>if at_∈out then Z1 else uz E k e.fwd (out++[at_])
def dh.walk(m:dh)(L:Int):M (Q Int):=if m.isL L=Z0 then uz (m.jO L) (m.aF.length+1) (m.wE L).head []else Z1
def dh.owner(m:dh)(L:Int):Int:=if m.isL L=Z0 then(m.jJ L).bn.owner L else -1
def Jw:Q Ent->Bool
 |[e]=>e.bJ
 |_=>ZV
def yE(r:Row)(l:Q Ent):Bool:=
 if r.state=0 then u (l=[])else if r.state=1 then u (l≠[]) && !l.any (λe=>e.bJ || u (e.data≠r.data))else
 Jw l
def wz(E:sK):Int->Q Int->M (Q Ent)
 |_,[]=>ZC []
 |b,i::l=>if((E i).getD .zero).back≠b then Z1 else(wz E i l).map λd=>(E i).getD .zero::d
def dh.Jy(m:dh)(L:Int):Bool:=
 if m.isL L=ZV then Z0 else match m.walk L with
 |none=>ZV
 |some w=>if srt [] w≠m.copies L then ZV else match wz (m.jO L) (-1) w with
  |none=>ZV
  |some b=>yE (m.wE L) b
def dh.single(m:dh)(L:Int):Bool:=!(m.copies L).any (λi=>((m.jO L i).getD .zero).bJ) || u ((m.copies L).length=1)
def dh.Ew(m:dh)(L:Int)(w:Q Int):Bool:=
 (m.copies L).all (λi=>u (((m.jO L i).getD .zero).data=w)) && (u ((m.wE L).state=2) || u (m.owner L≠-1) || u ((m.wE L).data=w))
section
variable {E:sK}{N:Int}
def XZ:∀{k:Nat} {a:Int} {out w:Q Int},uz E k a out=ZC w->out.Nodup->(∀i∈out,∃e,E i=ZC e)->w.Nodup/\∀i∈w,∃e,E i=ZC e
 |0,_,_,_,h,_,_=>by cases h
 |k+1,a,out,w,h,d,g=>by
  unfold uz at h;split at h
  ·cases h;exact⟨d,g⟩
  ·split at h
   ·cases h
   ·rename_i e j;split at h
    ·cases h
    ·rename_i m;refine XZ h (List.nodup_append.2 ⟨d,O,λx n y o=>?_⟩) λi hi=>?_
     ·rw[List.mem_singleton.1 o];intro e;exact m (e ▸ n)
     ·rcases List.mem_append.1 hi with b|b
      ·exact g i b
      ·rw[List.mem_singleton.1 b];exact⟨e,j⟩
def SK:∀{l:Q Int} {k:Nat} {b:Int} {out:Q Int},Chn E b l (-1)->(∀i∈l,i≠-1)->(out++l).Nodup->l.length<k->uz E k (hdI l (-1)) out=ZC (out++l)
 |[],0,_,_,_,_,_,h=>by simp at h
 |[],k+1,_,_,_,_,_,_=>by simp[uz,hdI]
 |i::l,0,_,_,_,_,_,h=>by simp at h
 |i::l,k+1,b,out,⟨⟨e,g,_,m⟩,hc⟩,d,hd,hk=>by
  have hi:=d i O;have hm:i∉out:=λh=>(List.nodup_append.1 hd).2.2 i h i O W;show uz E (k+1) i out=_;unfold uz;rw[F hi];simp only[g];rw[F hm,m,SK hc (λj n=>d j (by simp[n])) (by simpa using hd) (by simpa using hk)];simp
def L8:∀{l:Q Int} {b x:Int},Chn E b l x->wz E b l=ZC (l.map λi=>(E i).getD .zero)
 |[],_,_,_=>rfl
 |i::l,b,x,⟨⟨e,d,g,_⟩,hc⟩=>by
  unfold wz;rw[d,Option.getD_some,F (by simp[g]),L8 hc];simp[d]
end
section
variable {b:Nat}{H:ah}{g:bG}{A:Adr}{m:dh}{T:Nat}
structure auy(n:Node):Prop where
 aJ:n.aJ.l.length<1000000
 ents:∀e∈n.aJ.l,e.data.length<1000000000
 dS:∀e∈n.home.dS,e.2.data.length<1000000000
def MX.adK(X:MX T m){i:Nat}{n:Node}(d:m.aF[i]?=ZC n):auy n:=by
 have I:=X.inv.bC i n d;have h:=ags X.inv.ok I.aJ;have g:=I.aJ.le X.inv.ok;refine⟨V,λe b=>by have:=g e b;omega,λe b=>?_⟩;have:=(I.dS e b).1;have:=(lu X.inv.ok).2.2.1;omega
def MX.len(X:MX T m):(m.aF.length:Int)=m.c.aF/\m.aF.length<1000:=by
 have:=X.inv.len;have:=(qp X.inv.ok).aF;omega
def X0(G:Good b H g)(M:gy g A m)(X:MX T m)(L:Int):cl 37 [.ref A.jL 0 0,I L] H=ZC (B (m.isL L),H):=by
 refine bD W W (asZ _ _ _ _) ?_ fC;have e:=mP G.guard M X.inv.ok;have h:m.c.av[1]?=ZC (I m.c.aT):=rfl;unfold dh.isL;by_cases d:0<=L
 ·simp only[xq_,akv,d,e,h,Bool.true_and]
 ·simp only[xq_,akv,d,Bool.false_and]
def adL(X:MX T m){L:Int}(h:m.isL L=Z0):0<=m.c.bf L/\m.c.bf L<m.aF.length/\0<=L/\L<m.c.aT:=by
 unfold dh.isL at h;simp only[Bool.and_eq_true,zab]at h;have B_:=(qp X.inv.ok).aF;have hl:=X.inv.len;unfold Cfg.bf wV;rw[F (by omega)];have h1:=Int.emod_nonneg L (by omega:m.c.aF≠0);have h2:=Int.emod_lt_of_pos L (by omega:0<m.c.aF);omega
def Po(G:Good b H g)(M:gy g A m)(X:MX T m){L:Int}(h:m.isL L=Z0):∃n,m.aF[(m.c.bf L).toNat]?=ZC n/\m.jJ L=n.home/\cl 25 [.ref A.jL 0 0,I (m.c.bf L)] H=ZC (.ref (A.N (m.c.bf L).toNat 0) 0 0,H):=by
 have⟨d,j,_,_⟩:=adL X h;have⟨n,i⟩:∃n,m.aF[(m.c.bf L).toNat]?=ZC n:=⟨_,List.getElem?_eq_getElem V⟩
 have e:=Gj G M X.len.2 (m.c.bf L);rw[y ⟨d,j⟩]at e;refine⟨n,i,?_,e⟩;unfold dh.jJ dh.bC;rw[y d,i]
def X3 {i:Int}{L:Int}{n:Node}(h0:0<=i)(b:m.aF[i.toNat]?=ZC n):m.jO L i=n.aJ.find L:=by
 unfold dh.jO dh.bC;rw[y h0,b];rfl
def alY {i:Int}{L:Int}(h:¬(0<=i/\i<m.aF.length)):m.jO L i=none:=by
 unfold dh.jO dh.bC;by_cases b:0<=i
 ·rw[y b,List.getElem?_eq_none V];rfl
 ·rw[F b];rfl
def Vx(G:Good b H g)(M:gy g A m)(X:MX T m){L:Int}(h:m.isL L=Z0):cl 38 [.ref A.jL 0 0,I L] H=ZC (.agg (m.wE L).av,H):=by
 refine bD W W (as1 _ _ _ _) ?_ (mD (U7 _));let H1:=H.guard.new (.blk 0 95 [zI,zI,zN]);have e:Good b H1 g:=G.guard.new _;have⟨n,i,p,j⟩:=Po e M X h;have k:=mP e M X.inv.ok;have o:=xw H1 m.c X.inv.ok L;have N:=M.bC _ n i;have d:=ald e N (X.adK i).dS L;rw[<-p]at d;have q:iR (m.jJ L).dS L=m.wE L:=rfl;rw[q]at d;simp only[H1]at k o j d;simp only[Nat.reduceAdd,aI,xq_,hq_,anS,k,o,j,d]
 try rfl
def SL(G:Good b H g)(M:gy g A m)(X:MX T m)(L:Int):cl 12 [.ref A.jL 0 0,I L] H=ZC (I (m.owner L),H):=by
 refine bD W W (asJ _ _ _ _) ?_ fC;have d:=X0 G.guard M X L;unfold dh.owner;cases h:m.isL L with
 |false=>
  rw[h]at d;simp only[Int.reduceNeg,xq_,akq,d,Bool.not_false]
 |true=>
  rw[h]at d;have⟨n,i,j,k⟩:=Po G.guard M X h;have o:=mP G.guard M X.inv.ok;have p:=xw H.guard m.c X.inv.ok L;have e:=acG G.guard (M.bC _ n i) L;rw[<-j]at e;simp only[Int.reduceNeg,xq_,akq,d,Bool.not_true,o,p,k,e]
def Gs(G:Good b H g)(M:gy g A m)(X:MX T m)(i L:Int):cl 39 [.ref A.jL 0 0,I i,I L] H=ZC (jG (m.jO L i),H):=by
 refine bD W W (as2 _ _ _ _ _) ?_ (Lu _);let H1:=H.guard.new (.blk 0 100 [zI,zI,zI,zI,zB,zN]);have h:Good b H1 g:=G.guard.new _;have d:=Gj h M X.len.2 i;by_cases hi:0<=i/\i<m.aF.length
 ·have⟨n,e⟩:∃n,m.aF[i.toNat]?=ZC n:=⟨_,List.getElem?_eq_getElem V⟩
  rw[y hi]at d;have N:=M.bC _ n e;have o:=h.load N.1 (i:=0) (x:=.ref (A.N i.toNat 1) 0 0) W;have j:=nI h N.2.1 (X.adK e).aJ (X.adK e).ents L;rw[<-X3 hi.1 e]at j;have k:bi .eql 64 (.ref (A.N i.toNat 0) 0 0) zP=ZC (B ZV):=Z
  simp only[H1,jG]at o d j;simp only[Nat.reduceAdd,aI,xq_,hq_,akw,d,k,o,j,jG,Ent.av]
  try rfl
 ·rw[F hi]at d;have k:bi .eql 64 zP zP=ZC (B Z0):=Z
  rw[alY hi];simp only[H1]at d;simp only[Nat.reduceAdd,aI,xq_,hq_,akw,d,k,aaB,jf,dX,jG,su,Option.getD_none,Option.isSome_none]
  try rfl
def Gt(b:Nat)(H:ah)(x:AV)(l:Q Int):Prop:=Own b H x 1 (l.map I)/\(l=[]->x=zN)
def Gt.nil(b:Nat)(H:ah):Gt b H zN []:=⟨.inl ⟨W,W⟩,λ_=>rfl⟩
def Gt.freeze {n:Nat}{H:ah}{x:AV}{l:Q Int}(O:Gt n H x l):bV H n 9 x=ZC (dat l):=by
 by_cases h:l=[]
 ·rw[O.2 h,h,dat,gu];exact iF
 ·rw[qN h];exact uj O.1 J ZZ (λy b=>rZ _ y b _ _) λe=>h (List.eq_nil_of_length_eq_zero e)
def Gt.new {n:Nat}{H:ah}{x:AV}{l:Q Int}(O:Gt n H x l)(o:gG):Gt n (H.new o) x l:=⟨O.1.new o,O.2⟩
def Gt.push {n:Nat}{H:ah}{x:AV}{l:Q Int}(O:Gt n H x l)(p:n<=H.next)(hb:H.base<=n)(A:l.length<1000)(v:Int):
  ∃y K,bs 22 1 [(0,I v)] H=ZC (.sl H.next 0 0 1 1 1 Z0,H.new (.blk 0 3 [I v]))/\app 3 1 8 x (.sl H.next 0 0 1 1 1 Z0) (H.new (.blk 0 3 [I v]))=ZC (y,K)/\Gt n K y (l++[v])/\Step n H K/\∀r,r<H.next->iH x≠ZC r->K.get r=H.get r:=by
 have d:=O.1.new (.blk 0 3 [I v]);have g:aH (H.new (.blk 0 3 [I v])) (.sl H.next 0 0 1 1 1 Z0) 1 1 [I v]:=jZ W;have i:l.length+1<=most:=by unfold most;omega
 have j:(l.length+1)*8<=most:=by unfold most;omega
 have⟨y,K,m,q,u⟩:=d.step (n:=l.length) (k:=1) (e:=3) (by_:=8) (by rw[eu];omega) (by rw[iO];exact hb) J (by rw[List.length_map,Nat.mul_one]) g W i j;have⟨C,D,o,_,_,_,w⟩:=d.app (n:=l.length) (k:=1) (e:=3) (by_:=8) (by rw[iO];exact hb) J (by rw[List.length_map,Nat.mul_one]) g W i j;rw[m]at o;cases o;exact⟨y,K,(ND J).trans (jE W W W),m,⟨by rw[List.map_append];exact q,λh=>by simp at h⟩,(Step.new _ p).trans u,λr z b=>(w r (by rw[eu];omega) b).trans (aZ z)⟩
def sO(m:dh)(L:Int)(j:Nat):Q Int:=((List.range j).map λi:Nat=>(i:Int)).filter λi=>(m.jO L i).isSome && m.isL L
def xO(m:dh)(L:Int):sO m L m.aF.length=m.copies L:=rfl
def Pq(m:dh)(L:Int)(j:Nat):sO m L (j+1)=sO m L j++if((m.jO L j).isSome && m.isL L)=true then [(j:Int)]else []:=by
 unfold sO;rw[List.range_succ,List.map_append,List.filter_append]
 congr 1
 simp only[List.map_cons,List.map_nil,List.filter_cons,List.filter_nil]
def yF(m:dh)(L:Int)(j:Nat):(sO m L j).length<=j:=by
 unfold sO;refine Nat.le_trans (List.length_filter_le _ _) ?_;simp
def DK(G:Good b H g)(M:gy g A m)(X:MX T m)(L:Int):cl 11 [.ref A.jL 0 0,I L] H=some (dat (m.copies L),H):=by
 have hl:=X.len;have key:∀k j,j+k=m.aF.length->∀(H1:ah) (x:AV),Step H.next H.guard H1->Gt H.next H1 x (sO m L j)->
   ∃H2 y,IK cl [.ref A.jL 0 0,I L,x,I m.c.aF,I j] H1=some (y,H2)/\Gt H.next H2 y (m.copies L):=by
  intro k
  induction k with
  |zero=>
   intro j hj H1 x s O;have hlt:¬(j:Int)<m.c.aF:=by omega
   obtain rfl:j=m.aF.length:=by omega
   refine⟨H1,x,?_,O⟩;rw[UD];simp only[xq_,hlt]
  |succ k ih=>
   intro j hj H1 x s O;have hlt:(j:Int)<m.c.aF:=by omega
   have G1:Good b H1 g:=G.guard.ext s.next s.low
   have hb1:H1.base=H.next:=s.base
   have hn1:H.next<=H1.next:=s.next
   obtain⟨n,hn⟩:∃n,m.aF[j]?=some n:=⟨_,List.getElem?_eq_getElem (by omega)⟩
   have e3:=Gj G1 M hl.2 (j:Int);rw[if_pos (by omega),Int.toNat_natCast]at e3;have N:=M.bC _ n hn;have l1:=G1.load N.1 (i:=0) (x:=.ref (A.N j 1) 0 0) rfl;have e4:=nI G1 N.2.1 (X.adK hn).aJ (X.adK hn).ents L;rw[<-X3 (i:=(j:Int)) (by omega) (by rw[Int.toNat_natCast];exact hn)]at e4;let H3:=H1.new (.blk 0 100 ((m.jO L j).getD .zero).av);have G3:Good b H3 g:=G1.new _;have e5:=X0 G3 M X L;have h6:(j:Int)+1=((j+1:Nat):Int):=by omega
   have h7:=wrap_i64 (a:=((j+1:Nat):Int)) (by omega) (by omega);have O3:Gt H.next H3 x (sO m L j):=O.new _
   have s3:Step H.next H.guard H3:=s.trans (Step.new _ hn1)
   have hbn:H1.base<=H1.next:=by omega
   have st6:st 6 (.ref H1.next 0 0) (.agg ((m.jO L j).getD .zero).av) (H1.new (.blk 0 100 [zI,zI,zI,zI,zB,zN]))=some (aX,H3):=by
    rw[pR rfl];simp only[Nat.reduceAdd,aI,xq_,hq_,Ent.av,hbn];rfl
   have hcl:=Pq m L j;cases hs:(m.jO L j).isSome && m.isL L with
   |false=>
    rw[hs,if_neg (by decide),List.append_nil]at hcl;obtain⟨H2,y,r,O2⟩:=ih (j+1) (by omega) H3 x s3 (by rw[hcl];exact O3);refine⟨H2,y,?_,O2⟩;rw[UD];cases hi:(m.jO L j).isSome with
    |false=>
     rw[jG,hi]at e4;simp only[xq_,hlt,e3,l1,e4,st6,IL,bM,h6,h7,r]
    |true=>
     rw[hi,Bool.true_and]at hs;rw[hs]at e5;rw[jG,hi]at e4;simp only[xq_,hlt,e3,l1,e4,st6,e5,IL,bM,h6,h7,r]
   |true=>
    rw[hs,if_pos rfl]at hcl;obtain⟨hi,hL⟩:=(Bool.and_eq_true _ _).mp hs;rw[hL]at e5;rw[jG,hi]at e4;have cl_:=yF m L j;obtain⟨y',H4,eb,c1,c2,c3,_⟩:=O3.push s3.next (by rw[s3.base];exact Nat.le_refl _) (by omega) (j:Int)
    rw[<-hcl]at c2;obtain⟨H2,y,r,O2⟩:=ih (j+1) (by omega) H4 y' (s3.trans c3) c2;refine⟨H2,y,?_,O2⟩;rw[UD];simp only[xq_,hlt,e3,l1,e4,st6,e5,eb,c1,IL,bM,h6,h7,r]
 obtain⟨H2,y,r,O⟩:=key m.aF.length 0 (by omega) H.guard zN (Step.refl _ _) (Gt.nil _ _)
 replace r:IK cl [.ref A.jL 0 0,I L,zN,I m.c.aF,I 0] H.guard=some (y,H2):=r
 have e1:=mP G.guard M X.inv.ok;have l0:m.c.av[0]?=some (I m.c.aF):=rfl;refine gY rfl rfl (asI _ _ _ _ (r:=(y,H2)) ?_) O.freeze;simp only[xq_,anD,e1,l0,r]
end
def Cc {N:Nat}{l:Q Int}(b:l.Nodup)(h:∀i∈l,0<=i/\i<N):l.length<=N:=by
 have e:∀(n:Nat) (l:Q Int),l.Nodup->(∀x∈l,0<=x/\x<n)->l.length<=n:=by
  intro n
  induction n with
  |zero=>
   intro l _ h;cases l with
   |nil=>simp
   |cons a l=>have:=h a O;omega
  |succ n j=>
   intro l b h;have k:=j (l.filter λx=>u (x<n)) (b.filter _) λx d=>by
    have g:=List.mem_filter.1 d;have:=h x g.1;have:=zaB g.2;omega
   by_cases hm:(n:Int)∈l
   ·have k:=j (l.erase (n:Int)) (b.erase _) λx d=>by
     have g:=(b.mem_erase_iff).1 d;have:=h x g.2;have:=g.1;omega
    rw[List.length_erase_of_mem hm]at k;omega
   ·have:=j l b λx d=>by
     have:=h x d;have:x≠(n:Int):=λe=>hm (by rw[<-e];exact d);omega
    omega
 exact e N l b h
section
variable {m:dh}{L:Int}{v l:List Int}
def alZ {i:Int}:i∈m.ids↔0<=i/\i<m.aF.length:=by
 unfold dh.ids;rw[List.mem_map];constructor
 ·rintro⟨k,hk,W⟩;have:=List.mem_range.1 hk;omega
 ·intro h;exact⟨i.toNat,List.mem_range.2 V,V⟩
def arx:m.ids.Pairwise (· < ·):=by
 unfold dh.ids;rw[List.pairwise_map];exact(List.pairwise_lt_range).imp λh=>by omega
def Jz {i:Int}{e:Ent}(h:m.jO L i=ZC e):0<=i/\i<m.aF.length:=by
 unfold dh.jO dh.bC at h;split at h
 ·cases b:m.aF[i.toNat]? with
  |none=>rw[b]at h;cases h
  |some n=>have:=(List.getElem?_eq_some_iff.1 b).1;omega
 ·cases h
def oK(b:m.isL L=Z0){i:Int}:i∈m.copies L↔∃e,m.jO L i=ZC e:=by
 unfold dh.copies;rw[List.mem_filter,b,Bool.and_true,Option.isSome_iff_exists];exact⟨λh=>h.2,λh=>⟨alZ.2 (Jz h.choose_spec),h⟩⟩
def SN:(m.copies L).Pairwise (· < ·):=arx.sublist List.filter_sublist
def Ey:(m.copies L).Nodup:=SN.imp λh=>by omega
def adM {w:Q Int}(h:m.walk L=ZC w):w.Nodup/\∀i∈w,i∈m.copies L:=by
 unfold dh.walk at h;split at h
 ·rename_i b;have⟨d,e⟩:=XZ h O O;exact⟨d,λi hi=>(oK b).2 (e i hi)⟩
 ·cases h
def al0(w:Q Int):(srt [] w).length=w.length:=by
 have:=(xY w [] O).1.length_eq
 simpa using this
def Wf.walk(W:Wf m.c.aF (m.jO L) (m.wE L) v l)(b:m.isL L=Z0):m.walk L=ZC l:=by
 unfold dh.walk;rw[y b,W.head];have:=SK (k:=m.aF.length+1) (out:=[]) W.ch (λi hi=>by have:=(W.rng.2 i hi).1;omega) (by simpa using W.rng.1) (by
  have:=Cc (N:=m.aF.length) W.rng.1 λi hi=>by
   have⟨e,d⟩:=Chn.mem W.ch i hi;exact Jz d
  omega)
 simpa using this
def Wf.perm(W:Wf m.c.aF (m.jO L) (m.wE L) v l)(b:m.isL L=Z0):l.Perm (m.copies L):=by
 refine(List.perm_ext_iff_of_nodup W.rng.1 Ey).2 λi=>?_;rw[oK b];exact⟨Chn.mem W.ch i,λ⟨e,d⟩=>W.mem i e d⟩
def Wf.Jy(W:Wf m.c.aF (m.jO L) (m.wE L) v l):m.Jy L=true:=by
 unfold dh.Jy;by_cases d:m.isL L=Z0
 ·rw[F (by simp[d]),W.walk d];simp only;have j:srt [] l=m.copies L:=ahF (W.perm d) (SN.imp λh=>V);rw[F (by simp[j]),L8 W.ch];simp only;have g:∀i∈l,∃e,m.jO L i=ZC e:=Chn.mem W.ch;unfold yE;rcases W.st with h|h|h
  ·rw[y h,W.st0.1 h];rfl
  ·have k:l≠[]:=λe=>by have:=W.st0.2 e;omega
   rw[F V,y h];have n:(l.map λi=>(m.jO L i).getD .zero).any (λe=>e.bJ || YM (e.data≠(m.wE L).data))=false:=by
    rw[List.any_eq_false];intro e b;obtain⟨i,hi,rfl⟩:=List.mem_map.1 b;have⟨e,b⟩:=g i hi;rw[b,Option.getD_some];have o:=W.bJ i e b;have p:=W.data i e b;have q:=W.BO V;have u:e.bJ=false:=by
     cases hd:e.bJ with
     |false=>rfl
     |true=>have:=o.1 hd;omega
    simp[u,p,q]
   rw[n];simp[k]
  ·obtain⟨i,rfl⟩:=W.st2 h;have⟨e,b⟩:=g i O;rw[F V,F V];simp only[List.map_cons,List.map_nil,b,Option.getD_some];exact(W.bJ i e b).2 h
 ·rw[y (by simpa using d)]
end
def adN(H:ah){x:AV}{l:Q Int}(j:aH H x 1 l.length (l.map I))(q:l.length<1000000)(v:Int):∃z:Int,cl 81 [x,I v] H=ZC (I z,H)/\(0<=z↔v∈l):=by
 have e:=j.guard;have key:∀k i,i+k=l.length->∃z:Int,IY cl [x,I v,I l.length,I i] H.guard=ZC (I z,H.guard)/\(0<=z↔v∈l.drop i):=by
  intro k
  induction k with
  |zero=>
   intro i hi;have b:¬(i:Int)<l.length:=V
   refine⟨-1,?_,?_⟩
   ·rw[UK];simp only[Int.reduceNeg,xq_,b]
   ·rw[List.drop_of_length_le V];simp
  |succ k m=>
   intro i hi;have b:(i:Int)<l.length:=V
   have n:(i:Int)+1=((i+1:Nat):Int):=V
   have o:=wrap_i64 (a:=((i+1:Nat):Int)) V V;have g:=e.ix (k:=.i64) (i:=(i:Int)) V b;rw[Int.toNat_natCast]at g;have d:=e.ld (i:=i) V;rw[List.getElem?_map,List.getElem?_eq_getElem (show i<l.length by omega)]at d;have hd:l.drop i=l[i]::l.drop (i+1):=List.drop_eq_getElem_cons V;by_cases hv:v=l[i]
   ·refine⟨i,?_,by rw[hd,<-hv];simp⟩;rw[<-hv]at d;rw[UK];simp only[Int.reduceNeg,xq_,b,g,d]
   ·have⟨z,r,h⟩:=m (i+1) V;refine⟨z,?_,by rw[h,hd,List.mem_cons];simp[hv]⟩;rw[UK];simp only[Int.reduceNeg,xq_,b,g,d,hv,bM,n,o,r]
 have⟨z,r,h⟩:=key l.length 0 V
 replace r:IY cl [x,I v,I l.length,I 0] H.guard=ZC (I z,H.guard):=r
 have p:=e.lnS;refine⟨z,bD W W (atF _ _ _ _) ?_ fC,h⟩;simp only[xq_,aoj,p,r]
def SQ(H:ah){x:AV}{l:Q Int}(d:aH H x 1 l.length (l.map I))(g:l.length<1000000)(v:Int):cl 40 [x,I v] H=ZC (B (u (v∈l)),H):=by
 refine bD W W (as3 _ _ _ _) ?_ fC;have⟨z,e,h⟩:=adN H.guard d.guard g v;rw[show u (v∈l)=u (0<=z) by rw[zaE];exact h.symm];by_cases b:0<=z
 ·simp only[xq_,akx,e,b]
 ·simp only[xq_,akx,e,b]
def Ce(H:ah){x y:AV}{l b:Q Int}(m:aH H x 1 l.length (l.map I))(n:aH H y 1 b.length (b.map I))(G:l.length<1000000)(A:b.length<1000000):cl 44 [x,y] H=ZC (B (YM (l=b)),H):=by
 refine bD W W (as7 _ _ _ _) ?_ fC;have z:=m.guard.lnS;have o:=n.guard.lnS;by_cases C:l.length=b.length
 ·have key:∀k i,i+k=l.length->IW cl [x,y,I l.length,I i] H.guard=ZC (B (YM (l.drop i=b.drop i)),H.guard):=by
   intro k
   induction k with
   |zero=>
    intro i hi;have g:¬(i:Int)<l.length:=V
    rw[UF,List.drop_of_length_le V,List.drop_of_length_le V];simp only[xq_,g]
   |succ k D=>
    intro i hi;have g:(i:Int)<l.length:=V
    have E:(i:Int)+1=((i+1:Nat):Int):=V
    have F:=wrap_i64 (a:=((i+1:Nat):Int)) V V;have p:=m.guard.ix (k:=.i64) (i:=(i:Int)) V g;have q:=n.guard.ix (k:=.i64) (i:=(i:Int)) V V;rw[Int.toNat_natCast]at p q;have u:=m.guard.ld (i:=i) V;have v:=n.guard.ld (i:=i) V;rw[List.getElem?_map,List.getElem?_eq_getElem (show i<l.length by omega)]at u;rw[List.getElem?_map,List.getElem?_eq_getElem (show i<b.length by omega)]at v;have hd:l.drop i=l[i]::l.drop (i+1):=List.drop_eq_getElem_cons V;have w:b.drop i=b[i]::b.drop (i+1):=List.drop_eq_getElem_cons V;have h:=D (i+1) V;rw[hd,w];by_cases hv:l[i]=b[i]
    ·have j:YM (l[i]::l.drop (i+1)=b[i]::b.drop (i+1))=YM (l.drop (i+1)=b.drop (i+1)):=by
      rw[zaE];exact⟨λe=>(List.cons.inj e).2,λe=>by rw[hv,e]⟩
     rw[j,UF];simp only[xq_,g,p,q,u,v,hv,zaz,Bool.not_true,bM,E,F,h]
    ·have j:YM (l[i]::l.drop (i+1)=b[i]::b.drop (i+1))=false:=zam λe=>hv (List.cons.inj e).1;rw[j,UF];simp only[xq_,g,p,q,u,v,hv,Bool.not_false]
  have h:=key l.length 0 V
  replace h:IW cl [x,y,I l.length,I 0] H.guard=ZC (B (YM (l=b)),H.guard):=h
  have d:(l.length:Int)=(b.length:Int):=V
  rw[<-d]at o;simp only[xq_,akz,z,o,zaz,Bool.not_true,h]
 ·have j:YM (l=b)=false:=zam λe=>C (by rw[e]);have d:¬(l.length:Int)=(b.length:Int):=V
  rw[j];simp only[xq_,akz,z,o,d,Bool.not_false]
section
variable {b:Nat}{H:ah}{g:bG}{A:Adr}{m:dh}{T:Nat}
def Gt.is {n:Nat}{H:ah}{x:AV}{l:Q Int}(O:Gt n H x l):aH H x 1 l.length (l.map I):=O.1.is J ZZ
def Ez {H:ah}{n d:Nat}{x v:AV}{z:XS}(h:bV H n (d+1) x=ZC v):bV H n (d+2) (.tup [x,.s z])=ZC (.tup [v,.s z]):=by
 have b:bV H n (d+1) (.s z)=ZC (.s z):=iF;rw[bV];simp only[List.mapM_cons,List.mapM_nil,h,b,Option.bind_eq_bind,Option.bind_some,Option.pure_def,Option.map_some]
def Gt.al1 {n:Nat}{H:ah}{x:AV}{l:Q Int}(O:Gt n H x l):bV H n 8 x=ZC (dat l):=by
 by_cases h:l=[]
 ·rw[O.2 h,h,dat,gu];exact iF
 ·rw[qN h];exact uj O.1 J ZZ (λy b=>rZ _ y b _ _) λe=>h (List.eq_nil_of_length_eq_zero e)
def auz(o:M (Q Int)):AV:=.tup [dat (o.getD []),B o.isSome]
def al2(G:Good b H g)(M:gy g A m)(X:MX T m){L:Int}:∀k {a:Int} {out:Q Int} {H1:ah} {x:AV},m.aF.length<k+out.length->out.Nodup->(∀i∈out,0<=i/\i<m.aF.length)->Step H.next H.guard H1->Gt H.next H1 x out->
  ∃H2 y,NY cl [.ref A.jL 0 0,I L,x,I a] H1=ZC (.tup [y,B (uz (m.jO L) k a out).isSome],H2)/\Gt H.next H2 y ((uz (m.jO L) k a out).getD []):=by
 intro k;have hl:=X.len
 induction k with
 |zero=>
  intro a out H1 x hk hn hr s O;have:=Cc hn hr;omega
 |succ k ih=>
  intro a out H1 x hk hn hr s O;have hol:=Cc hn hr;by_cases ha:a=-1
  ·refine⟨H1,x,?_,by unfold uz;rw[YY ha];exact O⟩;rw[NZ];unfold uz;rw[YY ha];simp only[Int.reduceNeg,xq_,ha,zaz,Bool.not_true,Option.isSome_some]
  ·have G1:Good b H1 g:=G.guard.ext s.next s.low
   have hbn:H1.base<=H1.next:=by rw[s.base];exact s.next
   have e1:=Gs G1 M X a L;let H3:=H1.new (.blk 0 100 ((m.jO L a).getD .zero).av);have s3:Step H.next H.guard H3:=s.trans (Step.new _ s.next)
   have O3:Gt H.next H3 x out:=O.new _
   have st6:st 6 (.ref H1.next 0 0) (.agg ((m.jO L a).getD .zero).av) (H1.new (.blk 0 100 [zI,zI,zI,zI,zB,zN]))=ZC (aX,H3):=by
    rw[pR W];simp only[Nat.reduceAdd,aI,xq_,hq_,Ent.av,hbn];rfl
   cases he:m.jO L a with
   |none=>
    have hw:uz (m.jO L) (k+1) a out=none:=by
     unfold uz;rw[F ha,he]
    refine⟨H3,zN,?_,by rw[hw];exact Gt.nil _ _⟩;rw[hw,NZ];rw[he]at e1;simp only[he,Option.getD_none]at st6;have:jG Z1=.tup [.agg Ent.zero.av,B ZV]:=rfl;rw[this]at e1;simp only[Int.reduceNeg,xq_,ha,e1,st6,Bool.not_false,Option.isSome_none]
    try rfl
   |some e=>
    rw[he]at e1;simp only[he,Option.getD_some]at st6;have:jG (ZC e)=.tup [.agg e.av,B Z0]:=rfl;rw[this]at e1;have e2:=SQ H3 O3.is (by omega) a;have au6:st 6 (.ref H1.next 0 0) (.agg e.av) (H1.new (.blk 0 100 [zI,zI,zI,zI,zB,zN]))=ZC (aX,H3):=by rw[st6]
    by_cases hm:a∈out
    ·have hw:uz (m.jO L) (k+1) a out=none:=by
      unfold uz;rw[F ha,he];simp only;rw[YY hm]
     rw[zah hm]at e2;refine⟨H3,zN,?_,by rw[hw];exact Gt.nil _ _⟩;rw[hw,NZ];simp only[Int.reduceNeg,xq_,ha,e1,au6,Bool.not_true,Bool.not_false,e2,Option.isSome_none]
    ·have hw:uz (m.jO L) (k+1) a out=uz (m.jO L) k e.fwd (out++[a]):=by
      rw[uz,F ha,he];simp only;rw[F hm]
     rw[zam hm]at e2;have⟨y,H4,eb,c1,c2,c3,c4⟩:=O3.push s3.next (by rw[s3.base];exact Nat.le_refl _) (by omega) a
     have hin:=Jz he;have⟨H2,z,r,O2⟩:=ih (a:=e.fwd) (H1:=H4) (x:=y) (by rw[List.length_append];simp only[List.length_cons,List.length_nil];omega) (List.nodup_append.2 ⟨hn,by simp,λu hu w hw'=>by
      rw[List.mem_singleton.1 hw'];intro e;exact hm (e ▸ hu)⟩) (λi hi=>by
      rcases List.mem_append.1 hi with h|h
      ·exact hr i h
      ·rw[List.mem_singleton.1 h];exact hin) (s3.trans c3) c2
     have g3:H3.get H1.next=.blk 0 100 e.av:=by simp only[H3,he,Option.getD_some];exact aK W
     have g4:H4.get H1.next=.blk 0 100 e.av:=by
      rw[c4 H1.next (by simp only[H3,eu];omega) (λe=>by have:=(O.1.name e).2;omega)];exact g3
     have l0:ld (.ref H1.next 0 0) H4=ZC (I e.fwd,H4):=by rw[dG g4];rfl
     rw[hw];refine⟨H2,z,?_,O2⟩;rw[NZ];simp only[Int.reduceNeg,xq_,ha,e1,au6,Bool.not_true,Bool.not_false,e2,eb,c1,l0,r]
def X4(G:Good b H g)(M:gy g A m)(X:MX T m)(L:Int):cl 10 [.ref A.jL 0 0,I L] H=ZC (auz (m.walk L),H):=by
 have e:=X0 G.guard M X L;cases h:m.isL L with
 |false=>
  rw[h]at e;have hw:m.walk L=none:=by unfold dh.walk;rw[F (by rw[h];decide)]
  rw[hw];refine gY W W (anB _ _ _ _ (r:=(.tup [zN,B ZV],H.guard)) ?_) (Ez (d:=7) iF);simp only[xq_,akp,e,Bool.not_false]
 |true=>
  rw[h]at e;have j:=Vx G.guard M X h;have⟨k,y,r,O⟩:=al2 G M X (L:=L) (m.aF.length+1) (a:=(m.wE L).head) (out:=[]) (H1:=H.guard) (x:=zN) ZZ ZZ (λi hi=>by cases hi) (Step.refl _ _) (Gt.nil _ _);have hw:m.walk L=uz (m.jO L) (m.aF.length+1) (m.wE L).head []:=by unfold dh.walk;rw[YY h]
  rw[<-hw]at r O;have n:(m.wE L).av[1]?=ZC (I (m.wE L).head):=rfl;refine gY W W (anB _ _ _ _ (r:=(.tup [y,B (m.walk L).isSome],k)) ?_) (Ez (d:=7) O.al1);simp only[xq_,akp,e,Bool.not_true,j,n,r]
end
def X5 {α:Type}{p:α->Bool}(l:Q α):u (yM (l.findIdx? p)≥0)=l.any p:=by
 rw[<-List.findIdx?_isSome];cases l.findIdx? p with
 |none=>rfl
 |some i=>exact zah (by simp only[yM];omega)
def Vy(H:ah){x f:AV}{l:Q Ent}(d:aH H x 6 l.length (l.flatMap Ent.av))(h:l.length<1000000)(p:Ent->Bool)(g:∀a∈l,qC Tryz.prog cl f [.agg a.av] H.guard=ZC (B (p a),H.guard)):cl 88 [x,f] H=ZC (B (l.any p),H):=by
 refine bD W W (atK _ _ _ _) ?_ fC;have e:=Eo H.guard (enc:=Ent.av) dK (f:=f) d.guard V p g;rw[<-X5];by_cases b:yM (l.findIdx? p)≥0
 ·simp only[xq_,akJ,e,b]
 ·simp only[xq_,akJ,e,b]
def SS(H:ah){x f:AV}{l:Q Int}(v:aH H x 1 l.length (l.map I))(E:l.length<1000000)(p:Int->Bool)
  (w:∀a∈l,qC Tryz.prog cl f [I a] H.guard=ZC (B (p a),H.guard)):cl 153 [x,f] H=ZC (I (yM (l.findIdx? p)),H):=by
 have m:=v.guard;have y:=m.lnS;refine bD W W (apl _ _ _ _) ?_ fC;have key:∀k i,i+k=l.length->(∀j a,j<i->l[j]?=ZC a->p a=ZV)->Bc cl [x,f,I l.length,I i] H.guard=ZC (I (yM (l.findIdx? p)),H.guard):=by
  intro k
  induction k with
  |zero=>
   intro i hi g;have e:¬(i:Int)<l.length:=V
   have n:l.findIdx? p=none:=by rw[mO l i g,List.drop_of_length_le V];rfl
   rw[WT];simp only[Int.reduceNeg,xq_,e,n,yM]
  |succ k z=>
   intro i hi g;have e:(i:Int)<l.length:=V
   have o:=m.ix (k:=.i64) (i:=(i:Int)) V e;have q:=m.ld (i:=i) V;rw[Int.toNat_natCast]at o;rw[List.getElem?_map,List.getElem?_eq_getElem (show i<l.length by omega)]at q;have h:=w l[i] (List.getElem_mem _);rw[WT];cases d:p l[i]with
   |true=>
    have n:l.findIdx? p=ZC i:=by
     rw[mO l i g,List.drop_eq_getElem_cons V,List.findIdx?_cons,d];simp
    rw[d]at h;simp only[Int.reduceNeg,xq_,e,n,o,q,h,yM]
   |false=>
    rw[d]at h;have A:(i:Int)+1=((i+1:Nat):Int):=V
    have C:=wrap_i64 (a:=((i+1:Nat):Int)) V V;have:=z (i+1) V λj b D hb=>by
     by_cases u:j=i
     ·subst u;rw[List.getElem?_eq_getElem V]at hb;rw[<-Option.some.inj hb];exact d
     ·exact g j b V hb
    simp only[Int.reduceNeg,xq_,e,o,q,h,bM,A,C,this]
 have:=key l.length 0 V λj a D=>by omega
 replace this:Bc cl [x,f,I l.length,I 0] H.guard=ZC (I (yM (l.findIdx? p)),H.guard):=this
 simp only[xq_,ait,y,this]
def Vz(H:ah){x f:AV}{l:Q Int}(d:aH H x 1 l.length (l.map I))(g:l.length<1000000)(p:Int->Bool)(h:∀a∈l,qC Tryz.prog cl f [I a] H.guard.guard=ZC (B (p a),H.guard.guard)):cl 99 [x,f] H=ZC (B (l.any p),H):=by
 refine bD W W (atU _ _ _ _) ?_ fC;have e:=SS H.guard (f:=f) d.guard g p h;rw[<-X5];by_cases b:yM (l.findIdx? p)≥0
 ·simp only[xq_,akQ,e,b]
 ·simp only[xq_,akQ,e,b]
def adO {H:ah}{q:Nat}{r:Row}(hlt:q<H.next)(hq:H.get q=.blk 0 95 r.av)(hr:r.data.length<1000000)(e:Ent)(he:e.data.length<1000000):cl 89 [.agg e.av,.ref q 0 0] H=ZC (B (e.bJ || u (e.data≠r.data)),H):=by
 refine bD W W (atL _ _ _ _) ?_ fC;let H1:=H.guard.new (.blk 0 100 e.av);have all:e.av.all AV.aU=true:=jR e;have g1:H1.get H.next=.blk 0 100 e.av:=aK W
 have l4:ld (.ref H.next 0 4) H1=ZC (B e.bJ,H1):=by rw[dG g1];rfl
 have l5:ld (.ref H.next 0 5) H1=ZC (dat e.data,H1):=by rw[dG g1];rfl
 have g2:H1.get q=.blk 0 95 r.av:=by rw[<-hq];exact aZ hlt
 have l2:ld (.ref q 0 2) H1=ZC (dat r.data,H1):=by rw[dG g2];rfl
 have e1:=Ce H1 (gJ H1 e.data) (gJ H1 r.data) he hr;have hd:u (e.data≠r.data)=!decide (e.data=r.data):=by
  by_cases h:e.data=r.data <;> simp[h]
 simp only[H1]at l4 l5 l2 e1;rw[hd];cases hdi:e.bJ with
 |true=>
  rw[hdi]at l4;simp only[Nat.reduceLT,xq_,akK,aC all,l4,Bool.true_or]
 |false=>
  rw[hdi]at l4;simp only[Nat.reduceLT,xq_,akK,aC all,l4,l5,l2,e1,Bool.false_or]
def agu(H:ah){x:AV}{r:Row}{es:Q Ent}(hx:aH H x 6 es.length (es.flatMap Ent.av))(hl:es.length<1000000)(hr:r.data.length<1000000)(he:∀e∈es,e.data.length<1000000):cl 47 [.agg r.av,x] H=ZC (B (yE r es),H):=by
 refine bD W W (as8 _ _ _ _) ?_ fC;let H1:=H.guard.new (.blk 0 95 r.av);have g1:H1.get H.next=.blk 0 95 r.av:=aK W
 have all:r.av.all AV.aU=true:=Ik r;have l0:ld (.ref H.next 0 0) H1=ZC (I r.state,H1):=by rw[dG g1];rfl
 have hx1:aH H1 x 6 es.length (es.flatMap Ent.av):=hx.guard.new _;have e1:=hx1.lnS;have hn:∀n:Nat,((es.length:Int)=n)=(es.length=n):=λn=>propext ⟨λh=>by omega,λh=>by omega⟩;unfold yE;by_cases h0:r.state=0
 ·rw[y h0];have hd:u (es=[])=u ((es.length:Int)=0):=by
   cases es with
   |nil=>rfl
   |cons a l=>simp only[List.length_cons,reduceCtorEq,decide_false];exact(zam (by omega)).symm
  rw[hd];simp only[H1]at l0 e1;by_cases hz:(es.length:Int)=0
  ·simp only[Nat.reduceLT,Int.reduceLT,Int.reduceEq,xq_,UG,aC all,l0,h0,e1,hz]
  ·simp only[Nat.reduceLT,Int.reduceEq,xq_,UG,aC all,l0,h0,e1,hz]
 by_cases h1:r.state=1
 ·rw[F h0,y h1];have e2:=Vy H1 (f:=.fn (.func 89) [] [.ref H.next 0 0]) hx1 hl (λe=>e.bJ || decide (e.data≠r.data)) λe hm=>by
   rw[ug (by kernel_rfl)];exact adO (H:=H1.guard) (q:=H.next) (by rw[wU];exact Nat.lt_succ_self _) (by rw[ad9];exact g1) hr e (he e hm)
  simp only[H1]at l0 e1 e2;by_cases hz:(es.length:Int) > 0
  ·have hne:es≠[]:=λe=>by rw[e]at hz;simp at hz
   rw[zah hne,Bool.true_and];simp only[Nat.reduceLT,Int.reduceEq,xq_,UG,aC all,l0,h1,e1,hz,e2]
  ·have hne:es=[]:=List.eq_nil_of_length_eq_zero (by omega);have hd:(u (es≠[]) && !es.any λe=>e.bJ || u (e.data≠r.data))=false:=by rw[hne];rfl
   rw[hd];simp only[Nat.reduceLT,Int.reduceEq,xq_,UG,aC all,l0,h1,e1,hz]
 ·rw[F h0,F h1];by_cases hz:(es.length:Int)=1
  ·obtain⟨e,rfl⟩:=List.length_eq_one_iff.1 (show es.length=1 by omega);have s1:=hx1.ix (k:=.i64) (i:=0) (by omega) (by simp);have s2:=hx1.ahm (i:=0) (o:=4) (by simp) (by decide);simp only[H1]at l0 e1 s1 s2;have⟨p,p1,p2⟩:=Option.bind_eq_some_iff.1 s2
   replace s1:ix 6 x (I 0) (H.guard.new (.blk 0 95 r.av))=ZC (eH x 0,H.guard.new (.blk 0 95 r.av)):=s1
   have hd:Jw [e]=e.bJ:=rfl;rw[hd];simp only[Nat.reduceLT,Int.reduceLT,Int.reduceEq,xq_,UG,aC all,l0,h0,h1,e1,hz,s1,p1,p2]
  ·have hd:Jw es=false:=by
    clear hx hl he hx1 e1 hn
    match es,hz with
    |[],_=>rfl
    |[a],h=>simp at h
    |a::b::l,_=>rfl
   rw[hd];simp only[H1]at l0 e1;simp only[Nat.reduceLT,xq_,UG,aC all,l0,h0,h1,e1,hz]
section
variable {b:Nat}{H:ah}{g:bG}{A:Adr}{m:dh}{T:Nat}
def Zr(G:Good b H g)(M:gy g A m)(X:MX T m){p q:Nat}{L:Int}(hp:p<H.next)(hq:q<H.next)(gp:H.get p=.blk 0 25 [.ref A.jL 0 0])(gq:H.get q=.blk 0 3 [I L])(i:Int):cl 100 [I i,.ref p 0 0,.ref q 0 0] H=ZC (B ((m.jO L i).getD .zero).bJ,H):=by
 refine bD W W (aoq _ _ _ _ _) ?_ fC;have l1:ld (.ref p 0 0) H.guard=ZC (.ref A.jL 0 0,H.guard):=by rw[dG (by rw[ad9];exact gp)];rfl
 have l2:ld (.ref q 0 0) H.guard=ZC (I L,H.guard):=by rw[dG (by rw[ad9];exact gq)];rfl
 have e1:=Gs G.guard M X i L;let e:=(m.jO L i).getD .zero;let H3:=H.guard.new (.blk 0 100 e.av);have st6:st 6 (.ref H.next 0 0) (.agg e.av) (H.guard.new (.blk 0 100 [zI,zI,zI,zI,zB,zN]))=ZC (aX,H3):=by
  have hbn:H.guard.base<=H.guard.next:=Nat.le_refl _
  show st 6 (.ref H.guard.next 0 0) (.agg e.av) (H.guard.new (.blk 0 100 [zI,zI,zI,zI,zB,zN]))=ZC (aX,H3);rw[pR W];simp only[Nat.reduceAdd,aI,xq_,hq_,Ent.av];rfl
 have g3:H3.get H.next=.blk 0 100 e.av:=aK W
 have l4:ld (.ref H.next 0 4) H3=ZC (B e.bJ,H3):=by rw[dG g3];rfl
 have e1':cl 39 [.ref A.jL 0 0,I i,I L] H.guard=ZC (.tup [.agg e.av,B (m.jO L i).isSome],H.guard):=e1;simp only[xq_,ahN,l1,l2,e1',st6,l4]
 try rfl
def Zt(G:Good b H g)(M:gy g A m)(X:MX T m)(L:Int):cl 53 [.ref A.jL 0 0,I L] H=ZC (B (m.single L),H):=by
 refine bD W W (atd _ _ _ _) ?_ fC;let H1:=H.guard.new (.blk 0 25 [.ref A.jL 0 0]);let H2:=H1.new (.blk 0 3 [I L]);have G2:Good b H2 g:=(G.guard.new _).new _;have n1:H1.next=H.next+1:=rfl
 have n2:H2.next=H.next+1+1:=rfl
 have gp:H2.get H.next=.blk 0 25 [.ref A.jL 0 0]:=by
  simp only[H2];rw[aZ (by rw[n1];omega)];exact aK W
 have gq:H2.get (H.next+1)=.blk 0 3 [I L]:=aK n1.symm;have l1:ld (.ref H.next 0 0) H2=ZC (.ref A.jL 0 0,H2):=by rw[dG gp];rfl
 have l2:ld (.ref (H.next+1) 0 0) H2=ZC (I L,H2):=by rw[dG gq];rfl
 have e1:=DK G2 M X L;have hcl:(m.copies L).length<=1000:=by
  have:=yF m L m.aF.length;rw[xO]at this;have:=X.len.2;omega
 have G4:Good b H2.guard.guard g:=G2.guard.guard;have e2:=Vz H2 (f:=.fn (.func 100) [] [.ref H.next 0 0,.ref (H.next+1) 0 0]) (gJ H2 (m.copies L)) (by omega) (λi=>((m.jO L i).getD .zero).bJ) λi _=>by
  rw[ug (by kernel_rfl)];exact Zr G4 M X (p:=H.next) (q:=H.next+1) (by rw[wU,wU,n2];omega) (by rw[wU,wU,n2];omega) (by rw[ad9,ad9];exact gp) (by rw[ad9,ad9];exact gq) i
 have e3:=(gJ H2 (m.copies L)).lnS;have b1:fK 25 (.ref A.jL 0 0) H.guard=ZC (.ref H.next 0 0,H1):=rfl;have b2:fK 3 (I L) H1=ZC (.ref (H.next+1) 0 0,H2):=rfl;unfold dh.single;cases ha:(m.copies L).any (λi=>((m.jO L i).getD .zero).bJ)with
 |false=>
  rw[ha]at e2;simp only[xq_,afa,b1,b2,l1,l2,e1,e2,Bool.not_false,Bool.true_or]
 |true=>
  rw[ha]at e2;rw[show u ((m.copies L).length=1)=u (((m.copies L).length:Int)=1) by rw[zaE];omega,Bool.not_true,Bool.false_or];by_cases hz:((m.copies L).length:Int)=1
  ·simp only[xq_,afa,b1,b2,l1,l2,e1,e2,Bool.not_true,e3,hz]
  ·simp only[xq_,afa,b1,b2,l1,l2,e1,e2,Bool.not_true,e3,hz]
def adP(G:Good b H g)(M:gy g A m)(X:MX T m){L:Int}(hL:m.isL L=Z0){x:AV}{ws:Q Int}(hx:∀H':ah,H.next<=H'.next->(∀r,r<H.next->H'.get r=H.get r)->aH H' x 1 ws.length (ws.map I))(hw:ws.length<1000):cl 58 [.ref A.jL 0 0,I L,x] H=ZC (B (m.Ew L ws),H):=by
 refine bD W W (ath _ _ _ _ _) ?_ fC;have hxs:∀H1:ah,Step H.next H.guard H1->aH H1 x 1 ws.length (ws.map I):=λH1 s=>hx H1 s.next s.low
 have hent:∀i e,m.jO L i=ZC e->e.data.length<1000000:=λi e h=>by
  have⟨h0,h1⟩:=Jz h;have⟨n,hn⟩:∃n,m.aF[i.toNat]?=ZC n:=⟨_,List.getElem?_eq_getElem (by omega)⟩
  rw[X3 h0 hn]at h;have:=XU ((X.inv.bC _ n hn).aJ.le X.inv.ok) h;omega
 have hel:∀i,((m.jO L i).getD .zero).data.length<1000000:=λi=>by
  cases h:m.jO L i with
  |none=>simp[Ent.zero]
  |some e=>exact hent i e h
 have hrl:(m.wE L).data.length<1000000:=by
  have⟨n,hn,hh,_⟩:=Po G M X hL;unfold dh.wE iR;rw[hh];cases ha:jw n.home.dS L with
  |none=>simp[Row.zero]
  |some w=>
   have⟨j,hj,_⟩:=Gh ha;have:(w.data.length:Int)=m.c.aP:=((X.inv.bC _ n hn).dS _ (List.mem_of_getElem? hj)).1;have:=(lu X.inv.ok).2.2.1;simp only[Option.getD_some];omega
 have hcl:(m.copies L).length<=1000:=by
  have:=yF m L m.aF.length;rw[xO]at this;have:=X.len.2;omega
 have e0:=DK G.guard M X L;have e0l:=(gJ H.guard (m.copies L)).lnS;have key:∀k i,i+k=(m.copies L).length->∀H1,Step H.next H.guard H1->(IX cl [.ref A.jL 0 0,I L,x,dat (m.copies L),I (m.copies L).length,I i] H1).map Prod.fst=ZC (B (((m.copies L).drop i).all (λi=>u (((m.jO L i).getD .zero).data=ws)) && (u ((m.wE L).state=2) || u (m.owner L≠-1) || u ((m.wE L).data=ws)))):=by
  intro k
  induction k with
  |zero=>
   intro i hi H1 s;have h1:¬(i:Int)<(m.copies L).length:=by omega
   have G1:Good b H1 g:=G.guard.ext s.next s.low
   have hbn:H1.base<=H1.next:=by rw[s.base];exact s.next
   have e1:=Vx G1 M X hL;let H2:=H1.new (.blk 0 95 (m.wE L).av);have G2:Good b H2 g:=G1.new _;have st3:st 3 (.ref H1.next 0 0) (.agg (m.wE L).av) (H1.new (.blk 0 95 [zI,zI,zN]))=ZC (aX,H2):=by
    rw[pR W];simp only[Nat.reduceAdd,aI,xq_,hq_,Row.av,hbn];rfl
   have g2:H2.get H1.next=.blk 0 95 (m.wE L).av:=aK W
   have l0:ld (.ref H1.next 0 0) H2=ZC (I (m.wE L).state,H2):=by rw[dG g2];rfl
   have l2:ld (.ref H1.next 0 2) H2=ZC (dat (m.wE L).data,H2):=by rw[dG g2];rfl
   have e2:=SL G2 M X L;have e3:=Ce H2 (gJ H2 (m.wE L).data) (hxs H2 (s.trans (Step.new _ s.next))) hrl (by omega);rw[List.drop_of_length_le (by omega),List.all_nil,Bool.true_and,abg];by_cases q2:(m.wE L).state=2
   ·simp only[Int.reduceNeg,xq_,h1,e1,st3,l0,q2,zaz,Bool.true_or]
   ·by_cases q3:m.owner L=-1
    ·have:u (m.owner L≠-1)=false:=zam λh=>h q3;rw[this,zam q2,Bool.false_or,Bool.false_or];rw[q3]at e2;simp only[Int.reduceNeg,xq_,h1,e1,st3,l0,q2,e2,zaz,Bool.not_true,l2,e3]
    ·have:u (m.owner L≠-1)=true:=zah q3;rw[this,Bool.or_true,Bool.true_or];simp only[Int.reduceNeg,xq_,h1,e1,st3,l0,q2,e2,q3,Bool.not_false]
  |succ k ih=>
   intro i hi H1 s;have h1:(i:Int)<(m.copies L).length:=by omega
   have G1:Good b H1 g:=G.guard.ext s.next s.low
   have hbn:H1.base<=H1.next:=by rw[s.base];exact s.next
   have hS:=gJ H1 (m.copies L);have s1:=hS.ix (k:=.i64) (i:=(i:Int)) (by omega) h1;rw[Int.toNat_natCast]at s1;have t1:=hS.ld (i:=i) (by omega);rw[List.getElem?_map,List.getElem?_eq_getElem (show i<(m.copies L).length by omega)]at t1;have⟨at_,hat⟩:∃a,a=(m.copies L)[i]:=⟨_,W⟩
   rw[<-hat]at t1;have e1:=Gs G1 M X at_ L;let e:=(m.jO L at_).getD .zero;let H3:=H1.new (.blk 0 100 e.av);have st6:st 6 (.ref H1.next 0 0) (.agg e.av) (H1.new (.blk 0 100 [zI,zI,zI,zI,zB,zN]))=ZC (aX,H3):=by
    rw[pR W];simp only[Nat.reduceAdd,aI,xq_,hq_,Ent.av,hbn];rfl
   have g3:H3.get H1.next=.blk 0 100 e.av:=aK W
   have l5:ld (.ref H1.next 0 5) H3=ZC (dat e.data,H3):=by rw[dG g3];rfl
   have e1':cl 39 [.ref A.jL 0 0,I at_,I L] H1=ZC (.tup [.agg e.av,B (m.jO L at_).isSome],H1):=e1;have s3:Step H.next H.guard H3:=s.trans (Step.new _ s.next)
   have e2:=Ce H3 (gJ H3 e.data) (hxs H3 s3) (hel at_) (by omega);have h6:(i:Int)+1=((i+1:Nat):Int):=by omega
   have h7:=wrap_i64 (a:=((i+1:Nat):Int)) (by omega) (by omega);have r:=ih (i+1) (by omega) H3 s3;have hd:(m.copies L).drop i=at_::(m.copies L).drop (i+1):=by rw[hat];exact List.drop_eq_getElem_cons (by omega)
   rw[hd,List.all_cons,abg];by_cases hq:e.data=ws
   ·rw[zah hq]at e2;rw[show u (((m.jO L at_).getD .zero).data=ws)=Z0 from zah hq,Bool.true_and];simp only[Int.reduceNeg,xq_,h1,s1,t1,e1',st6,l5,e2,Bool.not_true,bM,h6,h7,r]
   ·rw[zam hq]at e2;rw[show u (((m.jO L at_).getD .zero).data=ws)=ZV from zam hq,Bool.false_and,Bool.false_and];simp only[Int.reduceNeg,xq_,h1,s1,t1,e1',st6,l5,e2,Bool.not_false]
 have r:=key (m.copies L).length 0 (by omega) H.guard (Step.refl _ _);rw[List.drop_zero]at r
 replace r:(IX cl [.ref A.jL 0 0,I L,x,dat (m.copies L),I (m.copies L).length,I 0] H.guard).map Prod.fst=ZC (B (m.Ew L ws)):=r
 simp only[xq_,an5,e0,e0l,r]
end
def SV(w:Q Int):Prop:=∀H:ah,∃f K,cl 46 [dat w] H=ZC (f,K)/\cl 45 [f] K=ZC (dat (srt [] w),K)/\Step H.next H K
def adQ:SV []:=λH=>by
 let H1:=H.new (.blk 0 22 [zN]);have b:H1.get H.next=.blk 0 22 [zN]:=aK W
 have d:dat ([]:Q Int)=zN:=by simp[dat,gu]
 refine⟨.fn (.func 87) [] [.ref H.next 0 0],H1,bg W W (anW _ _ _ ?_),?_,Step.new _ (Nat.le_refl _)⟩
 ·have e:fK 22 zN H=ZC (.ref H.next 0 0,H1):=rfl;rw[d];simp only[xq_,akA,e]
  try rfl
 ·refine zq (p:=sW yU rW) W ?_;have hc:True/\22<gW/\87≠0/\87∈rW:=⟨zac,by unfold gW;decide,J,by simp[rW]⟩
  have g:dat (srt [] ([]:Q Int))=aeU:=by simp[srt,dat,gu,aeU]
  rw[g];unfold sW;simp only[b];rw[y hc]
def JA(r:Row)(es0:Q Ent):M (Q Ent)->Bool
 |none=>ZV
 |some b=>yE r (es0++b)
section
variable {b:Nat}{H:ah}{g:bG}{A:Adr}{m:dh}{T:Nat}
def agv(X:MX T m)(L i:Int):((m.jO L i).getD .zero).data.length<1000000:=by
 cases h:m.jO L i with
 |none=>simp[Ent.zero]
 |some e=>
  have⟨d,g⟩:=Jz h;have⟨n,b⟩:∃n,m.aF[i.toNat]?=ZC n:=⟨_,List.getElem?_eq_getElem V⟩
  rw[X3 d b]at h;have:=XU ((X.inv.bC _ n b).aJ.le X.inv.ok) h;simp only[Option.getD_some];omega
def agw(G:Good b H g)(M:gy g A m)(X:MX T m){L:Int}(d:m.isL L=Z0):(m.wE L).data.length<1000000:=by
 have⟨n,e,h,_⟩:=Po G M X d;unfold dh.wE iR;rw[h];cases ha:jw n.home.dS L with
 |none=>simp[Row.zero]
 |some w=>
  have⟨j,i,_⟩:=Gh ha;have:(w.data.length:Int)=m.c.aP:=((X.inv.bC _ n e).dS _ (List.mem_of_getElem? i)).1;have:=(lu X.inv.ok).2.2.1;simp only[Option.getD_some];omega
def al3(G:Good b H g)(M:gy g A m)(X:MX T m){L:Int}(hL:m.isL L=Z0){w:Q Int}(hw:w.length<=1000):∀k i {bk:Int} {es0:Q Ent} {H1:ah} {x:AV},i+k=w.length->Step H.next H.guard H1->Own H.next H1 x 6 (es0.flatMap Ent.av)->es0.length=i->(∀e∈es0,e.data.length<1000000)->
  (zL cl [.ref A.jL 0 0,I L,x,I bk,dat w,I w.length,I i] H1).map Prod.fst=ZC (B (JA (m.wE L) es0 (wz (m.jO L) bk (w.drop i)))):=by
 intro k
 induction k with
 |zero=>
  intro i bk es0 H1 x hi s O hl he;have h1:¬(i:Int)<w.length:=by omega
  have G1:Good b H1 g:=G.guard.ext s.next s.low
  have e1:=Vx G1 M X hL;have e2:=agu H1 (r:=m.wE L) (O.is (n:=es0.length) (by decide) (dF dK es0)) (by omega) (agw G M X hL) he;rw[List.drop_of_length_le (by omega),UE];simp only[wz,JA,List.append_nil];simp only[xq_,h1,e1,e2]
 |succ k ih=>
  intro i bk es0 H1 x hi s O hl he;have h1:(i:Int)<w.length:=by omega
  have G1:Good b H1 g:=G.guard.ext s.next s.low
  have hbn:H1.base<=H1.next:=by rw[s.base];exact s.next
  have hS:=gJ H1 w;have s1:=hS.ix (k:=.i64) (i:=(i:Int)) (by omega) h1;rw[Int.toNat_natCast]at s1;have t1:=hS.ld (i:=i) (by omega);rw[List.getElem?_map,List.getElem?_eq_getElem (show i<w.length by omega)]at t1;have⟨a,ha⟩:∃a,a=w[i]:=⟨_,W⟩
  rw[<-ha]at t1;have e1:=Gs G1 M X a L;have⟨e,hed⟩:∃e,e=(m.jO L a).getD .zero:=⟨_,W⟩
  let H3:=H1.new (.blk 0 100 e.av);have st6:st 6 (.ref H1.next 0 0) (.agg e.av) (H1.new (.blk 0 100 [zI,zI,zI,zI,zB,zN]))=ZC (aX,H3):=by
   rw[pR W];simp only[Nat.reduceAdd,aI,xq_,hq_,Ent.av,hbn];rfl
  have g3:H3.get H1.next=.blk 0 100 e.av:=aK W
  have l1:ld (.ref H1.next 0 1) H3=ZC (I e.back,H3):=by rw[dG g3];rfl
  have l6:lda 6 (.ref H1.next 0 0) H3=ZC (.agg e.av,H3):=(iE (off:=0) (n:=6) g3 (Nat.le_refl 6)).trans W;have e1':cl 39 [.ref A.jL 0 0,I a,I L] H1=ZC (.tup [.agg e.av,B (m.jO L a).isSome],H1):=by rw[e1,jG,hed]
  have s3:Step H.next H.guard H3:=s.trans (Step.new _ s.next)
  have hd:w.drop i=a::w.drop (i+1):=by rw[ha];exact List.drop_eq_getElem_cons (by omega)
  have h6:(i:Int)+1=((i+1:Nat):Int):=by omega
  have h7:=wrap_i64 (a:=((i+1:Nat):Int)) (by omega) (by omega);rw[hd];unfold wz;rw[<-hed];by_cases hb:e.back=bk
  ·rw[F (by simp[hb])];have eb:bs 111 1 [(0,.agg e.av)] H3=ZC (.sl H3.next 0 0 6 1 1 Z0,H3.new (.blk 0 100 e.av)):=(aay (by decide)).trans (jE W W (jR e));have O3:Own H.next H3 x 6 (es0.flatMap Ent.av):=O.new _
   have⟨y,K,c1,c2,c3⟩:=(O3.new (.blk 0 100 e.av)).step (n:=i) (k:=1) (e:=100) (by_:=64) (y:=.sl H3.next 0 0 6 1 1 Z0) (new:=e.av) (by rw[eu];exact Nat.le_succ_of_le s3.next) (by rw[iO,s3.base];exact Nat.le_refl _) (by decide) (by rw[dF dK,hl]) (jZ W) (jR e) (by unfold most;omega) (by unfold most;omega);have hf:es0.flatMap Ent.av++e.av=(es0++[e]).flatMap Ent.av:=by simp[List.flatMap_append]
   rw[hf]at c2;have s4:Step H.next H.guard K:=s3.trans ((Step.new _ s3.next).trans c3)
   have r:=ih (i+1) (bk:=a) (es0:=es0++[e]) (by omega) s4 c2 (by simp[hl]) (λe' h=>by
    rcases List.mem_append.1 h with h|h
    ·exact he e' h
    ·rw[List.mem_singleton.1 h,hed];exact agv X L a)
   have hx:JA (m.wE L) es0 ((wz (m.jO L) a (w.drop (i+1))).map λes=>e::es)=JA (m.wE L) (es0++[e]) (wz (m.jO L) a (w.drop (i+1))):=by
    cases wz (m.jO L) a (w.drop (i+1))with
    |none=>rfl
    |some es=>simp only[Option.map_some,JA,List.append_assoc,List.cons_append,List.nil_append]
   rw[hx,UE];simp only[xq_,h1,s1,t1,e1',st6,l1,hb,zaz,Bool.not_true,l6,eb,c1,bM,h6,h7,r]
  ·rw[YY hb,UE];simp only[JA];simp only[xq_,h1,s1,t1,e1',st6,l1,hb,Bool.not_false]
def agx(G:Good b H g)(M:gy g A m)(X:MX T m)(L:Int)(D:∀w,m.walk L=ZC w->SV w):cl 13 [.ref A.jL 0 0,I L] H=ZC (B (m.Jy L),H):=by
 refine bD Z3 Z3 (asK _ _ _ _) ?_ fC;have j:=X0 G.guard M X L;unfold dh.Jy;cases p:m.isL L with
 |false=>
  rw[p]at j;rw[YY Z3];simp only[Int.reduceNeg,xq_,YI,j,Bool.not_false]
 |true=>
  rw[p]at j;rw[Ys J];have d:=X4 G.guard M X L;cases hw:m.walk L with
  |none=>
   rw[hw]at d
   replace d:cl 10 [.ref A.jL 0 0,I L] H.guard=ZC (.tup [dat [],B ZV],H.guard):=d
   simp only[Int.reduceNeg,xq_,YI,j,Bool.not_true,d,Bool.not_false]
  |some w=>
   rw[hw]at d
   replace d:cl 10 [.ref A.jL 0 0,I L] H.guard=ZC (.tup [dat w,B Z0],H.guard):=d
   have⟨f,K,u,v,k⟩:=D w hw H.guard
   replace k:Step H.next H.guard K:=k
   have E:Good b K g:=G.guard.ext k.next k.low
   have y:=DK E M X L;have z:w.length<=1000:=by
    have⟨F,Q⟩:=adM hw;have:=Cc (N:=m.aF.length) F λi hi=>by
     have⟨e,R⟩:=(oK p).1 (Q i hi);exact Jz R
    have:=X.len.2;omega
   have W:(m.copies L).length<=1000:=by
    have:=yF m L m.aF.length;rw[xO]at this;have:=X.len.2;omega
   have n:=Ce K (gJ K (srt [] w)) (gJ K (m.copies L)) (by rw[al0];omega) V;simp only;by_cases q:srt [] w=m.copies L
   ·rw[Ys (by simp[q])];rw[zah q]at n;have C:=(gJ K w).lnS;have r:=al3 G M X p z w.length 0 (bk:=-1) (es0:=[]) (H1:=K) (x:=zN) V k (.inl ⟨Z3,Z3⟩) Z3 (λe h=>by cases h);rw[List.drop_zero]at r
    replace r:(zL cl [.ref A.jL 0 0,I L,zN,I (-1),dat w,I w.length,I 0] K).map Prod.fst=ZC (B (JA (m.wE L) [] (wz (m.jO L) (-1) w))):=r
    cases o:wz (m.jO L) (-1) w with
    |none=>
     rw[o]at r
     replace r:(zL cl [.ref A.jL 0 0,I L,zN,I (-1),dat w,I w.length,I 0] K).map Prod.fst=ZC (B ZV):=r
     simp only;simp only[Int.reduceNeg,xq_,YI,j,Bool.not_true,d,u,v,y,n,C,r]
    |some es=>
     rw[o]at r
     replace r:(zL cl [.ref A.jL 0 0,I L,zN,I (-1),dat w,I w.length,I 0] K).map Prod.fst=ZC (B (yE (m.wE L) es)):=r
     simp only;simp only[Int.reduceNeg,xq_,YI,j,Bool.not_true,d,u,v,y,n,C,r]
   ·rw[YY q];rw[zam q]at n;simp only[Int.reduceNeg,xq_,YI,j,Bool.not_true,d,u,v,y,n,Bool.not_false]
end
def EK(me:Int):Nat->Q Int->Q Evn
 |_,[]=>[]
 |k,v::l=>⟨me,k,ZV,0⟩::⟨me,k,Z0,v⟩::EK me (k+1) l
def DL {me v:Int}:∀{l:Q Int} {k:Nat},EK me k (l++[v])=EK me k l++[⟨me,(k+l.length:Nat),ZV,0⟩,⟨me,(k+l.length:Nat),Z0,v⟩]
 |[],_=>rfl
 |a::l,k=>by
  simp only[List.cons_append,EK,DL (l:=l),List.length_cons,show k+1+l.length=k+(l.length+1) by omega]
def L9 {me:Int}:∀{l:Q Int} {k:Nat},∀e∈EK me k l,e.bC=me
 |v::l,k,e,h=>by
  simp only[EK,List.mem_cons]at h;rcases h with rfl|rfl|h
  ·rfl
  ·rfl
  ·exact L9 e h
def told(me:Int)(n:Node):Q Evn:=EK me 0 n.bU.bI++if n.bU.fD=Z0 then [⟨me,n.bU.bI.length,ZV,0⟩]else []
def adR {me:Int}{n:Node}:∀e∈told me n,e.bC=me:=λe h=>by
 unfold told at h;rcases List.mem_append.1 h with h|h
 ·exact L9 e h
 ·split at h
  ·rw[List.mem_singleton.1 h]
  ·cases h
def adS {me:Int}{n n':Node}(h:n'.bU=n.bU):told me n'=told me n:=by unfold told;rw[h]
def Trk(me:Int)(n:Node)(t:Q Evn)(n':Node)(t':Q Evn):Prop:=t'.length+n.evs=t.length+n'.evs->∃u,t'=t++u/\told me n'=told me n++u
section
variable {me v:Int}{n n':Node}{t:List Evn}{c:Cfg}{f:Fab}{o:Opn}
def Trk.same(h:n'.bU=n.bU):Trk me n t n' t:=λ_=>⟨[],O,by rw[adS h];simp⟩
def X6(P:ahH c n.bU)(h:n'.bU=n.bU):Trk me n t (n'.done me t v).1 (n'.done me t v).2:=by
 intro e;unfold Node.done at e ⊢;cases hb:n.bU.fD with
 |true=>
  have hi:n.bU.idx=n.bU.bI.length:=by
   unfold Proc.idx Proc.cur;rw[List.getElem?_eq_getElem (P.fD hb)]
  refine⟨_,W,?_⟩;unfold told Proc.Dc;simp only[h,hb,zad,hi,Bool.false_eq_true,zaf,DL,List.append_nil,Nat.zero_add,List.append_assoc,List.cons_append,List.nil_append]
 |false=>
  unfold Node.evs Proc.Dc at e;simp[h,hb]at e
def xP(hc:n.bU.cur=ZC o)(h:n'.bU={ n.bU with fD:=Z0 }):∃u,(if n.bU.fD=Z0 then t else t++[⟨me,n.bU.bI.length,ZV,0⟩])=t++u/\told me n'=told me n++u:=by
 unfold told;rw[h];cases hb:n.bU.fD with
 |true=>exact⟨[],O,O⟩
 |false=>exact⟨[⟨me,n.bU.bI.length,ZV,0⟩],O,O⟩
def yY(hc:n.bU.cur=ZC o)(h:n'.bU={ n.bU with fD:=Z0 }):Trk me n t (n'.done me (if n.bU.fD=Z0 then t else t++[⟨me,n.bU.bI.length,ZV,0⟩]) v).1 (n'.done me (if n.bU.fD=Z0 then t else t++[⟨me,n.bU.bI.length,ZV,0⟩]) v).2:=by
 intro _;have⟨u,b,d⟩:=xP (me:=me) (t:=t) hc h;unfold Node.done;rw[b];have hi:n'.bU.idx=n.bU.bI.length:=by
  unfold Proc.idx Proc.cur;rw[h];unfold Proc.cur at hc;simp only[hc]
 refine⟨u++[⟨me,n'.bU.idx,Z0,v⟩],O,?_⟩;rw[<-List.append_assoc,<-d,hi];unfold told Proc.Dc;simp only[h,zad,Bool.false_eq_true,zaf,DL,List.append_nil,Nat.zero_add,List.append_assoc,List.cons_append,List.nil_append]
def SX(P:ahH c n.bU){p:Pkt}:Trk me n t (n.answered c me f t p).1 (n.answered c me f t p).2.2:=by
 unfold Node.answered;split;split
 ·exact Trk.same W
 ·simp only;split
  ·split
   ·exact X6 P W
   ·exact Trk.same W
  ·split
   ·unfold Node.effect;exact X6 P W
   ·exact Trk.same W
def agy(hc:n.bU.cur=ZC o):Trk me n t (n.work c me f t o).1 (n.work c me f t o).2.2:=by
 unfold Node.work;simp only;split
 ·exact yY hc W
 split
 ·exact λ_=>xP hc W
 split
 ·unfold Node.effect;exact yY hc W
 split
 ·exact λ_=>xP hc W
 split
 ·exact λ_=>xP hc W
 ·exact λ_=>xP hc W
def agz(P:ahH c n.bU):Trk me n t (n.step c me f t).1.1 (n.step c me f t).1.2.2:=by
 unfold Node.step;split
 ·exact SX P
 ·split
  ·exact Trk.same W
  ·split
   ·rename_i b p _;have:(n.asked c me b p).1.bU=n.bU:=by
     unfold Node.asked;split <;> split <;> rfl
    exact Trk.same this
   ·split
    ·split
     ·exact agy (by assumption)
     ·exact Trk.same W
    ·exact Trk.same W
end
structure agB(m:dh):Prop where
 own:∀(i:Nat) n,m.aF[i]?=some n->m.trace.filter (λe=>decide (e.bC=(i:Int)))=told i n
 ran:∀e∈m.trace,∃i:Nat,e.bC=(i:Int)/\i<m.aF.length
def agB.do_ {m:dh}(R:agB m)(I:adg m)(p:Pck)(q:adg (m.do_ p).1):agB (m.do_ p).1:=by
 unfold dh.do_ at*;cases hd:p.deliver with
 |true=>simp only[zad];exact⟨R.own,R.ran⟩
 |false=>
  simp only[hd,Bool.false_eq_true,zaf]at*;unfold dh.step dh.bC at*;by_cases v:0<=p.at_
  ·simp only[YY v]at*;cases d:m.aF[p.at_.toNat]? with
   |none=>simp only[d];exact R
   |some n=>
    simp only[d]at q ⊢;have ok:=agz (I.bC _ n d).bU (me:=p.at_) (f:=m.fab) (t:=m.trace);generalize n.step m.c p.at_ m.fab m.trace=r at*;have⟨⟨n',A,t'⟩,k⟩:=r;have C:=I.evs;have z:=q.evs
    try dsimp only at ok
    try dsimp only at z
    have D:=Vp Node.evs (a':=n') d;have⟨u,w,y⟩:=ok (by show t'.length+_=m.trace.length+n'.evs;omega);have o:∀e∈u,e.bC=p.at_:=λe b=>adR (n:=n') e (by rw[y];exact List.mem_append_right _ b);have j:=(List.getElem?_eq_some_iff.1 d).1;have hc:((p.at_.toNat:Nat):Int)=p.at_:=V
    refine⟨λi x g=>?_,λe b=>?_⟩
    ·show t'.filter _=_;rw[w,List.filter_append]
     replace g:(m.aF.set p.at_.toNat n')[i]?=ZC x:=g
     by_cases hi:p.at_.toNat=i
     ·subst hi;rw[List.getElem?_set_self j]at g;cases g;rw[R.own _ n d,hc,y,List.filter_eq_self.2 λe b=>by simp[o e b]]
     ·rw[List.getElem?_set_ne hi]at g;rw[R.own i x g,List.filter_eq_nil_iff.2 λe b=>by
       have:=o e b;simp only[zab];omega,List.append_nil]
    ·replace b:e∈t':=b
     show∃i:Nat,e.bC=(i:Int)/\i<(m.aF.set p.at_.toNat n').length;rw[List.length_set];rw[w]at b;rcases List.mem_append.1 b with h|h
     ·exact R.ran e h
     ·exact⟨p.at_.toNat,by rw[o e h];exact hc.symm,j⟩
  ·simp only[F v]at*;exact R
def agC(c:Cfg)(ps:Q (Q Opn)):agB (.new c ps):=by
 refine⟨λi n h=>?_,λe h=>by cases h⟩;simp only[dh.new,List.getElem?_mapIdx]at h;cases b:ps[i]? with
 |none=>rw[b]at h;cases h
 |some l=>rw[b]at h;cases h;rfl
def Legal(c:Cfg)(P:Int->Nat->M Opn):Q Evn->(Int->Q Int)->(Int->Q Int)->Prop
 |[],v,b=>v=b
 |e::u,v,b=>if e.done=Z0 then∃k:Nat,∃o,e.index=k/\P e.bC k=ZC o/\e.value=(lq c o v).2/\Legal c P u (lq c o v).1 b else Legal c P u v b
def Legal.snoc {c:Cfg}{P:Int->Nat->M Opn}:∀{u:Q Evn} {v d v':Int->Q Int} {w:Q Evn},Legal c P u v d->Legal c P w d v'->Legal c P (u++w) v v'
 |[],_,_,_,_,h,b=>by cases h;exact b
 |e::u,v,d,v',w,h,b=>by
  unfold Legal at h;show Legal c P (e::(u++w)) v v';unfold Legal;split at h
  ·rename_i hd;rw[y hd];have⟨k,o,g,i,j,m⟩:=h;exact⟨k,o,g,i,j,m.snoc b⟩
  ·rename_i hd;rw[F hd];exact Legal.snoc h b
def zW.legal {c:Cfg}{P:Int->Nat->M Opn}{t t':Q Evn}{v v' e:Int->Q Int}(h:zW c P t v t' v'):Legal c P t e v->Legal c P t' e v':=by
 intro b
 induction h with
 |same=>exact b
 |fD i k _ d=>exact(d b).snoc (by simp[Legal])
 |done i k o g _ d=>exact(d b).snoc (by simp only[Legal,zad];exact⟨k,o,W,g,W,W⟩)
def Gu {p:Proc}{v:Int}:(p.Dc v).ops=p.ops:=by unfold Proc.Dc;split <;> rfl
def agD {c:Cfg}{me:Int}{n:Node}{f:Fab}{t:Q Evn}:(n.step c me f t).1.1.bU.ops=n.bU.ops:=by
 unfold Node.step;split
 ·unfold Node.answered;split;split
  ·rfl
  ·simp only;split
   ·split
    ·exact Gu
    ·rfl
   ·split
    ·exact Gu
    ·rfl
 ·split
  ·rfl
  ·split
   ·show(n.asked c me _ _).1.bU.ops=_;unfold Node.asked;split <;> split <;> rfl
   ·split
    ·split
     ·show(n.work c me f t _).1.bU.ops=_;unfold Node.work;simp only;split
      ·exact Gu
      split
      ·rfl
      split
      ·exact Gu
      split
      ·rfl
      split
      ·rfl
      ·rfl
     ·rfl
    ·rfl
def adT(m:dh)(i:Int):(m.step i).1.opAt=m.opAt:=by
 unfold dh.step;cases b:m.bC i with
 |none=>rfl
 |some n=>
  have h:0<=i/\m.aF[i.toNat]?=some n:=by
   unfold dh.bC at b;split at b
   ·exact⟨by assumption,b⟩
   ·cases b
  have o:=agD (c:=m.c) (me:=i) (n:=n) (f:=m.fab) (t:=m.trace);simp only;generalize n.step m.c i m.fab m.trace=r at o;obtain⟨⟨n',p,t'⟩,k⟩:=r
  funext j q
  have hw:=Cb (n':=n') (f:=p) (t:=t') h.2 j;have e:(m.with_ i.toNat n' p t').opAt j q=m.opAt j q:=by
   unfold dh.opAt;rw[hw];by_cases d:j=((i.toNat:Nat):Int)
   ·have g:=yC h.2;rw[if_pos d,d,g];show n'.bU.ops[q]?=_;rw[show n'.bU.ops=n.bU.ops from o]
   ·rw[if_neg d]
  exact e
def agE(m:dh)(i:Int):(m.step i).1.c=m.c:=by
 unfold dh.step;split
 ·rfl
 ·rfl
def uD(ws:Q Int)(o:Opn):Q Int × Int:=
 if o.aW=2 then(ws.set o.addr.toNat o.value,0)else if o.aW=3 then(ws.set o.addr.toNat (w64 (ws.getD o.addr.toNat 0+o.value)),ws.getD o.addr.toNat 0)
 else if o.aW=4 then(ws,0)else(ws,ws.getD o.addr.toNat 0)
def SY {ws:Q Int}{o:Opn}:(uD ws o).1.length=ws.length:=by
 unfold uD;by_cases b:o.aW=2
 ·rw[y b];exact List.length_set
 by_cases d:o.aW=3
 ·rw[F b,y d];exact List.length_set
 by_cases e:o.aW=4
 ·rw[F b,F d,y e]
 ·rw[F b,F d,F e]
structure JB(c:Cfg)(v:Int->List Int)(ws:List Int):Prop where
 len:(ws.length:Int)=c.fG
 row:∀L,0<=L->L<c.aT->((v L).length:Int)=c.aP
 get:∀a,0<=a->a<c.fG->ws.getD a.toNat 0=(v (a / c.aP)).getD (a % c.aP).toNat 0
def X7 {l:Q Int}{i j:Nat}{x:Int}(h:i<l.length):(l.set i x).getD j 0=if j=i then x else l.getD j 0:=by
 rw[List.getD_eq_getElem?_getD,List.getElem?_set];by_cases e:i=j
 ·rw[y e,y h,y e.symm];rfl
 ·rw[F e,F (Ne.symm e),List.getD_eq_getElem?_getD]
section
variable {c:Cfg}{v:Int->List Int}{ws:List Int}{o:Opn}
def adU(h:c.right o=Z0):0<=o.addr/\o.addr<c.fG/\c.bZ o.addr=o.addr / c.aP/\c.dH o.addr=o.addr % c.aP/\1<=o.aW/\o.aW<=4:=by
 unfold Cfg.right at h;simp only[Bool.and_eq_true,zab]at h;have⟨⟨⟨k1,d⟩,b⟩,_⟩:=h;unfold Cfg.bZ at b;by_cases ha:o.addr<0∨c.fG<=o.addr
 ·rw[y ha]at b;exact absurd W b
 ·unfold Cfg.bZ Cfg.dH;rw[F ha,F ha];exact⟨V,V,W,W,k1,d⟩
def JB.set(M:JB c v ws)(hc:c.ok=Z0){a x:Int}(h0:0<=a)(h1:a<c.fG):JB c (dZ v (a / c.aP) ((v (a / c.aP)).set (a % c.aP).toNat x)) (ws.set a.toNat x):=by
 have P:=lu hc;have hw:0<c.aP:=by omega
 have q0:=Int.ediv_nonneg h0 (by omega:0<=c.aP);have q1:a / c.aP<c.aT:=Int.ediv_lt_of_lt_mul hw (by unfold Cfg.fG at h1;exact h1);have r0:=Int.emod_nonneg a (by omega:c.aP≠0);have r1:=Int.emod_lt_of_pos a hw;have hl:=M.row _ q0 q1;refine⟨by rw[List.length_set];exact M.len,λL h0 h1=>?_,λb b0 b1=>?_⟩
 ·by_cases e:L=a / c.aP
  ·rw[e,aS,List.length_set];exact hl
  ·rw[aY e];exact M.row L h0 h1
 ·have ml:=M.len;rw[X7 (by omega)];by_cases e:b / c.aP=a / c.aP
  ·rw[e,aS,X7 (by omega)];have s0:=Int.emod_nonneg b (by omega:c.aP≠0);by_cases e2:b % c.aP=a % c.aP
   ·have:b=a:=by rw[<-Int.mul_ediv_add_emod b c.aP,<-Int.mul_ediv_add_emod a c.aP,e,e2]
    rw[y (by rw[this]),y (by rw[e2])]
   ·rw[F (λh=>e2 (by rw[show b=a by omega])),F (by omega),M.get b b0 b1,e]
  ·rw[aY e,F (λh=>e (by rw[show b=a by omega])),M.get b b0 b1]
def JB.op(M:JB c v ws)(hc:c.ok=Z0)(h:c.right o=Z0):(uD ws o).2=(lq c o v).2/\JB c (lq c o v).1 (uD ws o).1:=by
 have⟨a0,i,j,hw,k1,k⟩:=adU h;have g:=M.get _ a0 i;unfold uD lq;simp only[j,hw];by_cases d:o.aW=1
 ·rw[F V,F V,F V,y d];exact⟨g,M⟩
 by_cases b:o.aW=2
 ·rw[y b,F d,y b];exact⟨W,M.set hc a0 i⟩
 by_cases e:o.aW=3
 ·rw[F b,y e,F d,F b,y e,<-g];exact⟨W,M.set hc a0 i⟩
 ·rw[F b,F e,y V,F d,F b,F e];exact⟨W,M⟩
end
def nV(c:Cfg)(i:Nat):Q Int:=(List.range (i*c.aP.toNat)).map λa=>c.init.getD a 0
def VA {c:Cfg}{i:Nat}(hi:(i:Int)<c.aT)(hw:0<=c.aP):nV c (i+1)=nV c i++c.first i:=by
 unfold nV Cfg.first
 rw[if_neg V,Nat.succ_mul,List.range_add,List.map_append,List.map_map]
 congr 1
 refine List.map_congr_left λj _=>?_;have:((i:Int)*c.aP).toNat=i*c.aP.toNat:=by
  obtain⟨w,b⟩:=Int.eq_ofNat_of_zero_le hw;rw[b];simp only[Int.toNat_natCast];rw[<-Int.natCast_mul,Int.toNat_natCast]
 rw[this];rfl
def DN(c:Cfg)(i:Nat):(nV c i).length=i*c.aP.toNat:=by simp[nV]
def JC {c:Cfg}(hc:c.ok=Z0):JB c c.first (nV c c.aT.toNat):=by
 have P:=lu hc;have hw:0<c.aP:=by omega
 have hlen:((nV c c.aT.toNat).length:Int)=c.fG:=by
  rw[DN,Int.natCast_mul];unfold Cfg.fG;rw[Int.toNat_of_nonneg (by omega),Int.toNat_of_nonneg (by omega)]
 refine⟨hlen,λL h0 h1=>?_,λa h0 h1=>?_⟩
 ·unfold Cfg.first
  rw[F (by omega)];simp only[List.length_map,List.length_range];omega
 ·have q0:=Int.ediv_nonneg h0 (by omega:0<=c.aP);have q1:a / c.aP<c.aT:=Int.ediv_lt_of_lt_mul hw (by unfold Cfg.fG at h1;exact h1);have r0:=Int.emod_nonneg a (by omega:c.aP≠0);have r1:=Int.emod_lt_of_pos a hw;have e1:(nV c c.aT.toNat).getD a.toNat 0=c.init.getD a.toNat 0:=by
   rw[List.getD_eq_getElem?_getD];unfold nV;rw[List.getElem?_map,List.getElem?_range (by rw[DN]at hlen;omega)];rfl
  have e2:(c.first (a / c.aP)).getD (a % c.aP).toNat 0=c.init.getD ((a / c.aP*c.aP).toNat+(a % c.aP).toNat) 0:=by
   rw[List.getD_eq_getElem?_getD];unfold Cfg.first
   rw[F (by omega),List.getElem?_map,List.getElem?_range (by omega)];rfl
  have e3:a=a / c.aP*c.aP+a % c.aP:=by rw[Int.mul_comm];exact(Int.mul_ediv_add_emod a c.aP).symm
  have e4:=Int.mul_nonneg q0 (by omega:0<=c.aP);have e5:(a / c.aP*c.aP).toNat+(a % c.aP).toNat=a.toNat:=by omega
  rw[e1,e2,e5]
def Ci(c:Cfg)(ws:Q Int):Q Cell:=c.av.map .av++[.seq 1 (ws.map I)]
def X8 {c:Cfg}{ws b:Q Int}:(Ci c ws).set 8 (.seq 1 (b.map I))=Ci c b:=rfl
def arz(H:ah)(hb:H.base<=H.next){c:Cfg}(hc:c.ok=true):∃H' q,cl 155 [.agg c.av] H=some (.ref q 0 0,H')/\Made H H' (upd lH q (Ci c (nV c c.aT.toNat))):=by
 have Bd:=qp hc;have hw:=Bd.aP;have hln:=Bd.aT;let H1:=H.new (.blk 0 31 c.av);let xs:=c.av++[zN]
 have lt1:H.next<H1.next:=by simp only[H1,eu];omega
 have g1:H1.get H.next=.blk 0 31 c.av:=aK rfl
 have hall:xs.all AV.aU=true:=by simp only[xs,List.all_append,eF];rfl
 have M0:Made H1 (H1.new (.blk 0 246 xs)) (upd lH H1.next (Ci c [])):=by
  refine kP hall (by simp[xs,Ci]) λi cc y hcc hy=>?_;simp only[Ci]at hcc;have hlen:c.av.length=8:=rfl;by_cases hi:i<8
  ·left;rw[List.getElem?_append_left (by rw[List.length_map];exact hi),List.getElem?_map]at hcc;rw[List.getElem?_append_left hi]at hy;rw[hy]at hcc;exact(Option.some.inj hcc).symm
  ·right;have:i=8:=by
    have:=(List.getElem?_eq_some_iff.1 hy).1;simp only[xs,List.length_append,List.length_cons,List.length_nil]at this;omega
   subst this;cases hcc;cases hy;exact⟨rfl,1,rfl⟩
 have key:∀k i,i+k=c.aT.toNat->∀Hi,Made H1 Hi (upd lH H1.next (Ci c (nV c i)))->
   ∃H',Bf cl [.ref H.next 0 0,.ref H1.next 0 0,I c.aT,I i] Hi=some (.ref H1.next 0 0,H')/\Made H1 H' (upd lH H1.next (Ci c (nV c c.aT.toNat))):=by
  intro k
  induction k with
  |zero=>
   intro i hi Hi M;have h1:¬(i:Int)<c.aT:=by omega
   rw[show i=c.aT.toNat by omega]at M;refine⟨Hi,?_,M⟩;rw[WU];simp only[xq_,h1]
  |succ k ih=>
   intro i hi Hi M;have h1:(i:Int)<c.aT:=by omega
   have h6:(i:Int)+1=((i+1:Nat):Int):=by omega
   have h7:=wrap_i64 (a:=((i+1:Nat):Int)) (by omega) (by omega);have fl:=I9 (c:=c) (ak:=i) (by omega) h1;have hwl:i*c.aP.toNat<=8*4:=Nat.mul_le_mul (by omega) (by omega);have l8:=gU (H:=Hi) (by rw[M.same _ lt1];exact g1);have e1:=Xr Hi.guard c hc i (by omega) h1;obtain⟨y,hy,cy⟩:=M.good.seq (q:=H1.next) aQ (i:=8) (m:=1) (l:=(nV c i).map I) rfl;obtain⟨y',He,Hf,t1,t2,t3,t4⟩:=M.good.append (e:=3) (by_:=8) (by rw[M.base];simp only[H1,iO,eu];omega) aQ (i:=8) rfl (by decide) (n:=i*c.aP.toNat) (by rw[List.length_map,DN,Nat.mul_one]) cy (gJ Hi (c.first i)) (yh _) (by unfold most;omega) (by unfold most;omega);rw[<-List.map_append,<-VA h1 (by omega),pz,X8]at t3;have M':Made H1 Hf (upd lH H1.next (Ci c (nV c (i+1)))):=by
    exact M.step t3 t4
   obtain⟨H',r,M''⟩:=ih (i+1) (by omega) Hf M';refine⟨H',?_,M''⟩;rw[WU];simp only[xq_,h1,hy,l8,e1,t1,t2,bM,h6,h7,r]
 have e0:nV c 0=[]:=by unfold nV;rw[Nat.zero_mul];rfl
 obtain⟨H',r,M⟩:=key c.aT.toNat 0 (by omega) _ (by rw[e0];exact M0)
 replace r:Bf cl [.ref H.next 0 0,.ref H1.next 0 0,I c.aT,I 0] (H1.new (.blk 0 246 xs))=some (.ref H1.next 0 0,H'):=r
 refine⟨H',H1.next,bg rfl rfl (apn _ _ _ ?_),M.xu⟩;have b1:=gU g1;have em:bd 246 [(0,.agg c.av)]=some (.agg xs):=by
  simp only[xq_,am9,jf,fO,ahe,Cfg.av,eU];rfl
 have g3:(H1.new (.blk 0 246 xs)).get H.next=.blk 0 31 c.av:=by rw[aZ lt1];exact g1
 have l1:ld (.ref H.next 0 1) (H1.new (.blk 0 246 xs))=some (I c.aT,H1.new (.blk 0 246 xs)):=by rw[dG g3];rfl
 have bx1:fK 31 (.agg c.av) H=some (.ref H.next 0 0,H1):=aC (eF c) (by decide);have bx2:fK 246 (.agg xs) H1=some (.ref H1.next 0 0,H1.new (.blk 0 246 xs)):=aC hall (by decide);simp only[xq_,aix,bx1,b1,em,bx2,l1,r]
def Zu(N n:Int)(e:Evn):Bool:=!(u (e.bC<0) || u (N<=e.bC)) && u (e.index=n / 2) && u (e.done=u (n % 2=1)) && (e.done || u (e.value=0))
def qW(N:Int):Q (Int × Int)->Q Evn->Bool
 |_,[]=>Z0
 |b,e::l=>if Zu N ((jw b e.bC).getD 0) e=Z0 then qW N (lK b e.bC ((jw b e.bC).getD 0+1)) l else ZV
def JU(ps:Q (Q Opn)):Q Evn->Q Int->M (Q Int)
 |[],ws=>ZC ws
 |e::l,ws=>if(((ps.getD e.bC.toNat []).length:Nat):Int)<=e.index then Z1 else if e.done=ZV then JU ps l ws else
  if(uD ws ((ps.getD e.bC.toNat []).getD e.index.toNat .zero)).2=e.value then JU ps l (uD ws ((ps.getD e.bC.toNat []).getD e.index.toNat .zero)).1 else Z1
def zX(c:Cfg)(ps:Q (Q Opn))(l:Q Evn):M (Q Int):=
 if(c.nR ps && qW c.aF [] l)=Z0 then JU ps l (nV c c.aT.toNat)else Z1
def au7(N:Int)(e:Evn):Prop:=0<=e.bC/\e.bC<N/\0<=e.index
def S9 {N:Int}:∀{l:Q Evn} {es:Q (Int × Int)},(∀k v,jw es k=ZC v->0<=v)->qW N es l=Z0->∀e∈l,au7 N e
 |[],_,_,_,e,b=>by cases b
 |x::l,es,d,h,e,b=>by
  unfold qW at h;have m:0<=(jw es x.bC).getD 0:=by
   cases i:jw es x.bC with
   |none=>exact Int.le_refl 0
   |some v=>exact d _ _ i
  split at h
  ·rename_i g;rcases List.mem_cons.1 b with rfl|b
   ·unfold Zu at g;simp only[Bool.and_eq_true,Bool.not_eq_true',Bool.or_eq_false_iff,zas,zab]at g;have⟨⟨⟨⟨n,o⟩,j⟩,_⟩,_⟩:=g;exact⟨V,V,by rw[j];omega⟩
   ·refine S9 (λk v hk=>?_) h e b;rw[jF]at hk;split at hk
    ·cases hk;omega
    ·exact d k v hk
  ·cases h
def adV {c:Cfg}(hc:1<=c.aF){o:Opn}(h:c.right o=Z0):c.nR ([o]::List.replicate (c.aF.toNat-1) [])=true:=by
 unfold Cfg.nR;simp only[List.all_cons,List.length_cons,List.length_nil,List.all_nil,h,List.length_replicate,Bool.and_true,Bool.and_eq_true,zab,List.all_eq_true,List.mem_replicate];refine⟨⟨V,λl b=>?_⟩,V⟩;rw[b.2];exact⟨O,λo d=>by cases d⟩
def arA {b:Nat}{H:ah}{g:bG}{q:Nat}{c:Cfg}{ws:List Int}(G:Good b H g)(hb:H.base<=b)(h:g q=some (Ci c ws))(hc:c.ok=true)(hl:(ws.length:Int)=c.fG){o:Opn}(ho:c.right o=true):
  ∃H',cl 156 [.ref q 0 0,.agg o.av] H=some (.tup [I (uD ws o).2,I 0],H')/\Good b H' (upd g q (Ci c (uD ws o).1))/\Step b H H':=by
 have Bd:=qp hc;have hn:=Bd.aF;have had:=Bd.fG;obtain⟨a0,a1,_,_,k1,k2⟩:=adU ho;let n:=c.aF.toNat;have hnn:(n:Int)=c.aF:=Int.toNat_of_nonneg (by omega);let H1:=H.new (.blk 0 61 o.av);let H2:=H1.new (.blk 0 62 (dM [zN] n));let H3:=H2.new (.blk 0 61 o.av);let H4:=H3.put (H.next+1) (.blk 0 62 (.sl (H.next+1+1) 0 0 3 1 1 true::List.replicate (n-1) zN));have n1:H1.next=H.next+1:=rfl
 have n2:H2.next=H.next+1+1:=rfl
 have n3:H3.next=H.next+1+1+1:=rfl
 have n4:H4.next=H.next+1+1+1:=rfl
 have hq:=G.lt h;have hbn:=G.1;have s4:Step b H H4:=((Step.new _ G.1).trans ((Step.new _ (by rw[n1];omega)).trans (Step.new _ (by rw[n2];omega)))).trans (Step.put _ (by omega));have low4:∀r,r<H.next->H4.get r=H.get r:=λr hr=>by
  simp only[H4,dJ];rw[if_neg (by omega)];simp only[H3,H2,H1];rw[aZ (by rw[eu,eu];omega),aZ (by rw[eu];omega),aZ hr]
 have G1:Good b H1 g:=G.new _;have G4:Good b H4 g:=G.ext (by rw[n4];omega) low4;have gb1:H1.get H.next=.blk 0 61 o.av:=aK rfl
 have gb4:H4.get H.next=.blk 0 61 o.av:=by
  simp only[H4,dJ];rw[if_neg (by omega)];simp only[H3,H2];rw[aZ (by rw[eu,n1];omega),aZ (by rw[n1];omega)];exact gb1
 have bx:fK 61 (.agg o.av) H=some (.ref H.next 0 0,H1):=aC (mg o) (by decide);have l0:=G1.load h (i:=0) (x:=I c.aF) rfl;have e1:mks 62 1 24 [zN] (I c.aF) (I c.aF) H1=some (.sl (H.next+1) 0 0 1 n n true,H2):=Wx (e:=62) (m:=1) (by_:=24) (z:=[zN]) (n:=c.aF) (H:=H1) rfl rfl (by omega) (by omega) (by decide);have l3:lda 3 (.ref H.next 0 0) H2=some (.agg o.av,H2):=(iE (off:=0) (n:=3) (xs:=o.av) (by simp only[H2];rw[aZ (by rw[n1];omega)];exact gb1) (Nat.le_refl 3)).trans rfl;have eb:bs 62 1 [(0,.agg o.av)] H2=some (.sl (H.next+1+1) 0 0 3 1 1 true,H3):=(aj6 (by decide)).trans (jE rfl rfl (mg o));have g3:H3.get (H.next+1)=.blk 0 62 (List.replicate n zN):=by
  simp only[H3];rw[aZ (by rw[n2];omega),<-kG];exact aK n1.symm
 have e2:ix 1 (.sl (H.next+1) 0 0 1 n n true) (I 0) H3=some (.ref (H.next+1) 0 0,H3):=(acy (k:=.i64) (j:=0) g3 (by omega)).trans rfl;have hset:(List.replicate n zN).set 0 (.sl (H.next+1+1) 0 0 3 1 1 true)=.sl (H.next+1+1) 0 0 3 1 1 true::List.replicate (n-1) zN:=by
  obtain⟨k,hk⟩:∃k,n=k+1:=⟨n-1,by omega⟩
  rw[hk];rfl
 have e3:st 1 (.ref (H.next+1) 0 0) (.sl (H.next+1+1) 0 0 3 1 1 true) H3=some (aX,H4):=by
  have:=Qu (v:=.sl (H.next+1+1) 0 0 3 1 1 true) (off:=0) vZ g3 (by simp only[H3,H2,H1,iO];omega) (by rw[List.length_replicate];omega);rw[hset]at this;exact this
 have l8:lda 8 (.ref q 0 0) H4=some (.agg c.av,H4):=G4.loads h (i:=0) (n:=8) (xs:=c.av) rfl rfl (by decide);have hps:OG H4 (.sl (H.next+1) 0 0 1 n n true) ([o]::List.replicate (n-1) []):=by
  have hlen:([o]::List.replicate (n-1) ([]:List Opn)).length=n:=by simp only[List.length_cons,List.length_replicate];omega
  refine⟨.sl (H.next+1+1) 0 0 3 1 1 true::List.replicate (n-1) zN,?_,λi v l hv hl=>?_⟩
  ·rw[hlen];refine⟨by simp only[List.length_cons,List.length_replicate];omega,rfl,rfl,⟨by rw[n4];omega,Nat.le_refl _⟩,62,_,by simp only[H4,dJ,if_true];rfl,by simp only[List.length_cons,List.length_replicate];omega,?_⟩;rw[List.drop_zero,List.take_of_length_le (by simp only[List.length_cons,List.length_replicate];omega)]
  ·match i with
   |0=>
    cases hv;cases hl;refine⟨⟨rfl,rfl,rfl,⟨by rw[n4];omega,Nat.le_refl _⟩,61,o.av,?_,Nat.le_refl _,rfl⟩,λh=>by cases h⟩;simp only[H4,dJ];rw[if_neg (by omega)];exact aK n2.symm
   |i+1=>
    simp only[List.getElem?_cons_succ,List.getElem?_replicate]at hv hl;split at hv
    ·cases hv;rename_i hi;rw[if_pos hi]at hl;cases hl;exact⟨aH.nil,λ_=>rfl⟩
    ·cases hv
 have e4:=acg H4 c hc hps (by simp only[List.length_cons,List.length_replicate];omega) (λl hl=>by
  rcases List.mem_cons.1 hl with rfl|hl
  ·simp
  ·rw[List.eq_of_mem_replicate hl];simp)
 rw[if_pos (adV (by omega) ho)]at e4;have b0:bi .neq 57 (I 0) (I 0)=some (B false):=by kernel_rfl
 obtain⟨x,hx,cx⟩:=G4.seq h (i:=8) (m:=1) (l:=ws.map I) rfl;have O:=cx.is (n:=ws.length) (by decide) (by simp);have hf:∀K:ah,K=H4->ld (.ref H.next 0 0) K=some (I o.aW,K)/\ld (.ref H.next 0 1) K=some (I o.addr,K)/\ld (.ref H.next 0 2) K=some (I o.value,K):=λK e=>by
  subst e;exact⟨by rw[dG gb4];rfl,by rw[dG gb4];rfl,by rw[dG gb4];rfl⟩
 obtain⟨f0,f1,f2⟩:=hf H4 rfl;have i1:=O.ix (k:=.i64) (i:=o.addr) a0 (by omega);have d1:=O.ld (i:=o.addr.toNat) (by omega);have hg:ws[o.addr.toNat]?=some (ws.getD o.addr.toNat 0):=by
  rw[List.getD_eq_getElem?_getD,List.getElem?_eq_getElem (by omega)];rfl
 rw[List.getElem?_map,hg,Option.map_some,Option.map_some]at d1;have wr:∀v:Int,∃H',st 1 (eH x o.addr.toNat) (I v) H4=some (aX,H')/\Good b H' (upd g q (Ci c (ws.set o.addr.toNat v)))/\Step b H H':=λv=>by
  obtain⟨r,gg,off,p1,p2⟩:=G4.elem (by rw[s4.base];exact hb) h (i:=8) (m:=1) (n:=ws.length) (l:=ws.map I) rfl (by decide) (by simp) cx (j:=o.addr.toNat) (by omega);obtain⟨H',q1,q2,q3,_⟩:=p2 1 0 (I v) rfl rfl (Nat.le_refl 1);refine⟨H',by rw[p1];exact q1,?_,s4.trans q3⟩;have:aI (ws.map I) (o.addr.toNat*1+0) (I v).cells=(ws.set o.addr.toNat v).map I:=by
   rw[Nat.mul_one,Nat.add_zero,show(I v).cells=[I v]from rfl,Ic (by rw[List.length_map];omega),List.map_set]
  rw[this,X8]at q2;exact q2
 have same:Good b H4 (upd g q (Ci c ws)):=by
  have:upd g q (Ci c ws)=g:=by
   funext k
   by_cases hk:k=q
   ·rw[hk,aQ,h]
   ·rw[bF hk]
  rw[this];exact G4
 have go:Fv cl H4=some (.tup [I 0,I 0],H4):=rfl;by_cases h1:o.aW=1
 ·have ha:uD ws o=(ws,ws.getD o.addr.toNat 0):=by unfold uD;rw[if_neg (by omega),if_neg (by omega),if_neg (by omega)]
  rw[ha];refine⟨H4,bg rfl rfl (WV _ _ _ _ ?_),same,s4⟩;simp only[Int.reduceEq,xq_,QV,bx,l0,e1,l3,eb,e2,e3,l8,e4,b0,hx,f1,i1,d1,f0,h1]
 by_cases h2:o.aW=2
 ·have ha:uD ws o=(ws.set o.addr.toNat o.value,0):=by unfold uD;rw[if_pos h2]
  rw[ha];obtain⟨H',w1,w2,w3⟩:=wr o.value;have go':Fv cl H'=some (.tup [I 0,I 0],H'):=rfl;refine⟨H',bg rfl rfl (WV _ _ _ _ ?_),w2,w3⟩;simp only[Int.reduceEq,xq_,QV,bx,l0,e1,l3,eb,e2,e3,l8,e4,b0,hx,f1,i1,d1,f0,f2,h2,Int.reduceEq,w1,go']
 by_cases h3:o.aW=3
 ·have ha:uD ws o=(ws.set o.addr.toNat (w64 (ws.getD o.addr.toNat 0+o.value)),ws.getD o.addr.toNat 0):=by unfold uD;rw[if_neg h2,if_pos h3]
  rw[ha];obtain⟨H',w1,w2,w3⟩:=wr (w64 (ws.getD o.addr.toNat 0+o.value));simp only[w64]at w1;refine⟨H',bg rfl rfl (WV _ _ _ _ ?_),w2,w3⟩;simp only[Int.reduceEq,xq_,QV,bx,l0,e1,l3,eb,e2,e3,l8,e4,b0,hx,f1,i1,d1,f0,f2,h3,Int.reduceEq,bM,w1]
 ·have ha:uD ws o=(ws,0):=by unfold uD;rw[if_neg h2,if_neg h3,if_pos (by omega)]
  rw[ha];refine⟨H4,bg rfl rfl (WV _ _ _ _ ?_),same,s4⟩;simp only[xq_,QV,bx,l0,e1,l3,eb,e2,e3,l8,e4,b0,hx,f1,i1,d1,f0,h1,h2,h3,go]
def auA {H:ah}{r:Nat}{es:Q (Int × Int)}(h:H.get r=.map .i64 (Qy I es))(n:Int):lk .i64 (.int .i64 0) (.mp r) (I n) ZV H=ZC (I ((jw es n).getD 0),H):=by
 have b:=vk I es n;show(lkO .i64 (.int .i64 0) (.mp r) (I n) ZV (ZC (H.get r))).map (λv=>(v,H))=_;rw[h];simp only[lkO,b];rw[y ⟨zac,zac⟩];cases jw es n with
 |none=>rfl
 |some v=>rfl
def arB {H:ah}{r:Nat}{es:Q (Int × Int)}(h:H.get r=.map .i64 (Qy I es))(hb:H.base<=r)(n v:Int):mup .i64 (.mp r) (I n) (I v) H=ZC (aX,H.put r (.map .i64 (Qy I (lK es n v)))):=by
 simp only[mup,h];rw[y ⟨zac,zac,hb⟩,CZ]
def Zv(H:ah){x:AV}{l:Q Evn}(hx:aH H x 4 l.length (l.flatMap Evn.av))(hl:l.length<=100000)(N:Int):cl 154 [I N,x] H=ZC (B (qW N [] l),H):=by
 refine bD W W (apm _ _ _ _) ?_ fC;let H1:=H.guard.new (.map .i64 []);have hxs:∀K,Step H.next H.guard K->aH K x 4 l.length (l.flatMap Evn.av):=λK s=>hx.iD (H':=K) s.next λr _ hr=>s.low r hr
 have key:∀k j,j+k=l.length->∀(es:Q (Int × Int)) K,Step H.next H.guard K->H.next<K.next->K.get H.next=.map .i64 (Qy I es)->(∀n v,jw es n=ZC v->0<=v/\v<=j)->
   (vH cl [I N,.mp H.next,x,I l.length,I j] K).map Prod.fst=ZC (B (qW N es (l.drop j))):=by
  intro k
  induction k with
  |zero=>
   intro j hj es K s hK hm he;have h1:¬(j:Int)<l.length:=by omega
   rw[List.drop_of_length_le (by omega),rX];simp only[qW];simp only[xq_,h1]
  |succ k ih=>
   intro j hj es K s hK hm he;have h1:(j:Int)<l.length:=by omega
   have⟨e,hje⟩:∃e,l[j]?=ZC e:=⟨_,List.getElem?_eq_getElem (by omega)⟩
   have hS:=hxs K s;have s1:=hS.ix (k:=.i64) (i:=(j:Int)) (by omega) h1;rw[Int.toNat_natCast]at s1;have t1:=jT oC hS hje;have hbn:K.base<=K.next:=by rw[s.base];exact s.next
   let K1:=K.new (.blk 0 184 e.av);have st4:st 4 (.ref K.next 0 0) (.agg e.av) (K.new (.blk 0 184 [zI,zI,zB,zI]))=ZC (aX,K1):=by
    rw[pR W];simp only[Nat.reduceAdd,aI,xq_,hq_,Evn.av,hbn];rfl
   have g1:K1.get K.next=.blk 0 184 e.av:=aK W
   have gm:K1.get H.next=.map .i64 (Qy I es):=by simp only[K1];rw[aZ hK];exact hm
   have l0:ld (.ref K.next 0 0) K1=ZC (I e.bC,K1):=by rw[dG g1];rfl
   have l1:ld (.ref K.next 0 1) K1=ZC (I e.index,K1):=by rw[dG g1];rfl
   have l2:ld (.ref K.next 0 2) K1=ZC (B e.done,K1):=by rw[dG g1];rfl
   have l3:ld (.ref K.next 0 3) K1=ZC (I e.value,K1):=by rw[dG g1];rfl
   have⟨n,hn⟩:∃n,n=(jw es e.bC).getD 0:=⟨_,W⟩
   have hnb:0<=n/\n<=j:=by
    rw[hn];cases hg:jw es e.bC with
    |none=>simp only[Option.getD_none];omega
    |some v=>exact he _ _ hg
   have e1:=auA gm e.bC;rw[<-hn]at e1;have q:n.tdiv 2=n / 2:=Int.tdiv_eq_ediv_of_nonneg hnb.1;have r:n.tmod 2=n % 2:=Int.tmod_eq_emod_of_nonneg hnb.1;have w:=wrap_i64 (a:=n / 2) (by omega) (by omega);have w1:=wrap_i64 (a:=n+1) (by omega) (by omega);have z:(2:Int)≠0:=by decide
   have hd:l.drop j=e::l.drop (j+1):=by
    rw[List.drop_eq_getElem_cons (by omega)];rw[List.getElem?_eq_getElem (by omega)]at hje;rw[Option.some.inj hje]
   have h6:(j:Int)+1=((j+1:Nat):Int):=by omega
   have h7:=wrap_i64 (a:=((j+1:Nat):Int)) (by omega) (by omega);have e2:=arB gm (by simp only[K1,iO];rw[s.base];exact Nat.le_refl _) e.bC (n+1);let K2:=K1.put H.next (.map .i64 (Qy I (lK es e.bC (n+1))))
   have s2:Step H.next H.guard K2:=(s.trans (Step.new _ s.next)).trans (Step.put _ (Nat.le_refl _))
   have rr:=ih (j+1) (by omega) (lK es e.bC (n+1)) K2 s2 (by simp only[K2,K1,asA,eu];omega) (by simp only[K2,dJ,zad]) (λm v hm=>by
    rw[jF]at hm;split at hm
    ·cases hm;omega
    ·have:=he m v hm;omega)
   simp only[K2]at rr;rw[hd];unfold qW;rw[<-hn];have fin:∀ok:Bool,Zu N n e=ok->(vH cl [I N,.mp H.next,x,I l.length,I j] K).map Prod.fst=ZC (B (if ok=Z0 then qW N (lK es e.bC (n+1)) (l.drop (j+1))else ZV))->(vH cl [I N,.mp H.next,x,I l.length,I j] K).map Prod.fst=ZC (B (if Zu N n e=Z0 then qW N (lK es e.bC (n+1)) (l.drop (j+1))else ZV)):=λok h1 h2=>by rw[h1];exact h2
   by_cases c1:e.bC<0
   ·refine fin ZV (by unfold Zu;rw[zah c1];rfl) ?_;rw[rX,F (by decide)];simp only[xq_,h1,s1,t1,st4,l0,e1,c1]
   by_cases c2:e.bC≥N
   ·refine fin ZV (by unfold Zu;rw[zah (show N<=e.bC from c2),Bool.or_true];rfl) ?_;rw[rX,F (by decide)];simp only[xq_,h1,s1,t1,st4,l0,e1,c1,c2]
   by_cases c3:e.index=n / 2;rotate_left
   ·refine fin ZV (by unfold Zu;rw[zam c3];simp) ?_;rw[rX,F (by decide)];simp only[xq_,h1,s1,t1,st4,l0,l1,e1,c1,c2,CV z,q,w,c3,Bool.not_false]
   have nbq:bi .neq 4 (B e.done) (B (u (n % 2=1)))=ZC (B (!decide (e.done=u (n % 2=1)))):=Xx _ _;by_cases c4:e.done=u (n % 2=1);rotate_left
   ·refine fin ZV (by unfold Zu;rw[zam c4];simp) ?_;rw[zam c4]at nbq;rw[rX,F (by decide)];simp only[xq_,h1,s1,t1,st4,l0,l1,l2,e1,c1,c2,CV z,oq z,q,r,w,c3,zaz,Bool.not_true,Bool.not_false,nbq]
   rw[zah c4]at nbq;have d1:u (e.bC<0)=false:=zam c1;have d2:u (N<=e.bC)=false:=zam c2;cases c5:e.done with
   |true=>
    rw[c5]at l2 nbq c4;refine fin Z0 (by unfold Zu;rw[d1,d2,zah c3,c5,zah c4];rfl) ?_;rw[rX,y W];simp only[xq_,h1,s1,t1,st4,l0,l1,l2,e1,c1,c2,CV z,oq z,q,r,w,c3,zaz,Bool.not_true,nbq,bM,w1,e2,h6,h7,rr]
   |false=>
    rw[c5]at l2 nbq c4;by_cases c6:e.value=0
    ·refine fin Z0 (by unfold Zu;rw[d1,d2,zah c3,c5,zah c4,zah c6];rfl) ?_;rw[rX,y W];simp only[xq_,h1,s1,t1,st4,l0,l1,l2,l3,e1,c1,c2,CV z,oq z,q,r,w,c3,zaz,Bool.not_true,Bool.not_false,nbq,c6,bM,w1,e2,h6,h7,rr]
    ·refine fin ZV (by unfold Zu;rw[zam c6,c5];simp) ?_;rw[rX,F (by decide)];simp only[xq_,h1,s1,t1,st4,l0,l1,l2,l3,e1,c1,c2,CV z,oq z,q,r,w,c3,zaz,Bool.not_true,Bool.not_false,nbq,c6]
 have e1:=(hxs H1 (Step.new _ (Nat.le_refl _))).lnS;have r:=key l.length 0 (by omega) [] H1 (Step.new _ (Nat.le_refl _)) (by simp only[H1,eu,wU];omega) (aK W) (λn v h=>by cases h);rw[List.drop_zero]at r
 replace r:(vH cl [I N,.mp H.next,x,I l.length,I 0] H1).map Prod.fst=ZC (B (qW N [] l)):=r
 simp only[H1]at e1 r;simp only[xq_,aiv,e1,r]
def Tc {c:Cfg}{ps:Q (Q Opn)}(h:c.nR ps=Z0):∀l∈ps,∀o∈l,c.right o=true:=by
 unfold Cfg.nR at h;simp only[Bool.and_eq_true,zab,List.all_eq_true]at h;exact λl b=>(h.1 l b).2
def al4 {c:Cfg}(hc:c.ok=Z0){ps:Q (Q Opn)}(ho:c.nR ps=Z0){l:Q Evn}(hl:l.length<=100000)(hin:∀e∈l,au7 c.aF e){b:Nat}{p x:AV}{B0:ah}(hp:∀K,Step b B0 K->OG K p ps)(hx:∀K,Step b B0 K->aH K x 4 l.length (l.flatMap Evn.av)){q:Nat}:
  ∀k j,j+k=l.length->∀{K:ah} {ws:Q Int},K.base<=b->Step b B0 K->Good b K (upd lH q (Ci c ws))->(ws.length:Int)=c.fG->
   ∃K',Step b B0 K'/\((JU ps (l.drop j) ws=Z1/\nG cl [p,.ref q 0 0,x,I l.length,I j] K=ZC (.tup [zP,B ZV],K'))∨∃ws',JU ps (l.drop j) ws=ZC ws'/\nG cl [p,.ref q 0 0,x,I l.length,I j] K=ZC (.tup [.ref q 0 0,B Z0],K')/\Good b K' (upd lH q (Ci c ws'))/\(ws'.length:Int)=c.fG):=by
 intro k;have⟨hp1,hp2⟩:=yt ho;have Bd:=qp hc;have hnodes:=Bd.aF
 induction k with
 |zero=>
  intro j hj K ws hb s G hw;have h1:¬(j:Int)<l.length:=by omega
  refine⟨K,s,.inr ⟨ws,by rw[List.drop_of_length_le (by omega)];rfl,?_,G,hw⟩⟩;rw[A8];simp only[xq_,h1]
 |succ k ih=>
  intro j hj K ws hb s G hw;have h1:(j:Int)<l.length:=by omega
  have⟨e,hje⟩:∃e,l[j]?=ZC e:=⟨_,List.getElem?_eq_getElem (by omega)⟩
  have ein:=hin e (List.mem_of_getElem? hje);have hS:=hx K s;have s1:=hS.ix (k:=.i64) (i:=(j:Int)) (by omega) h1;rw[Int.toNat_natCast]at s1;have t1:=jT oC hS hje;have hbn:K.base<=K.next:=Nat.le_trans hb G.1
  let K1:=K.new (.blk 0 184 e.av);have st4:st 4 (.ref K.next 0 0) (.agg e.av) (K.new (.blk 0 184 [zI,zI,zB,zI]))=ZC (aX,K1):=by
   rw[pR W];simp only[Nat.reduceAdd,aI,xq_,hq_,Evn.av,hbn];rfl
  have q0:(upd lH q (Ci c ws)) q=ZC (Ci c ws):=aQ;have hqK:=G.lt q0;have G1:Good b K1 (upd (upd lH q (Ci c ws)) K.next (e.av.map .av)):=G.newObj (ty:=184) (xs:=e.av) (zD e);have sK1:Step b B0 K1:=s.trans (Step.new _ G.1);have ev0:(upd (upd lH q (Ci c ws)) K.next (e.av.map .av)) K.next=ZC (e.av.map .av):=aQ
  have l0:=G1.load ev0 (i:=0) (x:=I e.bC) W;have l1:=G1.load ev0 (i:=1) (x:=I e.index) W;have l2:=G1.load ev0 (i:=2) (x:=B e.done) W;have⟨cells,x1,x2⟩:=hp K1 sK1;have hcl:cells.length=ps.length:=by have:=x1.1;omega
  have arC:e.bC.toNat<ps.length:=by have:=ein.1;have:=ein.2.1;omega
  have i1:=x1.ix (k:=.i64) (i:=e.bC) ein.1 (by have:=ein.2.1;omega);have d1:=x1.ld (i:=e.bC.toNat) arC;have⟨v,hv⟩:∃v,cells[e.bC.toNat]?=ZC v:=⟨_,List.getElem?_eq_getElem (by omega)⟩
  have⟨pl,hpl⟩:∃pl,ps[e.bC.toNat]?=ZC pl:=⟨_,List.getElem?_eq_getElem arC⟩
  have hgd:ps.getD e.bC.toNat []=pl:=by rw[List.getD_eq_getElem?_getD,hpl];rfl
  rw[hv]at d1;have⟨v1,_⟩:=x2 _ v pl hv hpl;have ln:=v1.lnS;have hd:l.drop j=e::l.drop (j+1):=by
   rw[List.drop_eq_getElem_cons (by omega)];rw[List.getElem?_eq_getElem (by omega)]at hje;rw[Option.some.inj hje]
  have h6:(j:Int)+1=((j+1:Nat):Int):=by omega
  have h7:=wrap_i64 (a:=((j+1:Nat):Int)) (by omega) (by omega);rw[hd];unfold JU;rw[hgd];have back:∀{K2:ah} {ws2:Q Int},Good b K2 (upd (upd (upd lH q (Ci c ws)) K.next (e.av.map .av)) q (Ci c ws2))->Good b K2 (upd lH q (Ci c ws2)):=λG2=>G2.sub λk cs hk=>by
   by_cases hkq:k=q
   ·rw[hkq,aQ]at hk ⊢;exact hk
   ·rw[bF hkq]at hk;cases hk
  by_cases c1:e.index≥(pl.length:Int)
  ·rw[y (show((pl.length:Nat):Int)<=e.index from c1)];refine⟨K1,sK1,.inl ⟨W,?_⟩⟩;rw[A8];simp only[xq_,h1,s1,t1,st4,l0,l1,i1,d1,ln,c1]
  have c1':¬((pl.length:Nat):Int)<=e.index:=c1;rw[F c1'];cases c2:e.done with
  |false=>
   rw[c2]at l2;rw[y W];have G1':Good b K1 (upd lH q (Ci c ws)):=G.new _;have⟨K',s',r⟩:=ih (j+1) (by omega) (K:=K1) (ws:=ws) (by simp only[K1,iO];exact hb) sK1 G1' hw;refine⟨K',s',?_⟩;have go:nG cl [p,.ref q 0 0,x,I l.length,I j] K=nG cl [p,.ref q 0 0,x,I l.length,I (j+1:Nat)] K1:=by
    rw[A8];simp only[xq_,h1,s1,t1,st4,l0,l1,l2,i1,d1,ln,c1,Bool.not_false,Fe,bM,h6,h7]
   rw[go];exact r
  |true=>
   rw[c2]at l2;rw[F (by decide)];have hix:e.index.toNat<pl.length:=by have:=ein.2.2;omega
   have⟨o,hoo⟩:∃o,pl[e.index.toNat]?=ZC o:=⟨_,List.getElem?_eq_getElem hix⟩
   have hgo:pl.getD e.index.toNat .zero=o:=by rw[List.getD_eq_getElem?_getD,hoo];rfl
   rw[hgo];have i2:=v1.ix (k:=.i64) (i:=e.index) ein.2.2 (by omega);have d2:=jT eG v1 hoo;have hne:q≠K.next:=by omega
   have hq1:(upd (upd lH q (Ci c ws)) K.next (e.av.map .av)) q=ZC (Ci c ws):=by rw[bF hne];exact aQ
   have⟨K2,a1,G2,s2⟩:=arA G1 (by simp only[K1,iO];exact hb) hq1 hc hw (Tc ho pl (List.mem_of_getElem? hpl) o (List.mem_of_getElem? hoo));have ev2:(upd (upd (upd lH q (Ci c ws)) K.next (e.av.map .av)) q (Ci c (uD ws o).1)) K.next=ZC (e.av.map .av):=by rw[bF (Ne.symm hne)];exact aQ
   have l3:=G2.load ev2 (i:=3) (x:=I e.value) W;have b0:bi .neq 57 (I 0) (I 0)=ZC (B ZV):=by kernel_rfl
   by_cases c3:(uD ws o).2=e.value
   ·rw[y c3];have⟨K',s',r⟩:=ih (j+1) (by omega) (K:=K2) (ws:=(uD ws o).1) (by rw[s2.base];simp only[K1,iO];exact hb) (sK1.trans s2) (back G2) (by rw[SY];exact hw);refine⟨K',s',?_⟩;have go:nG cl [p,.ref q 0 0,x,I l.length,I j] K=nG cl [p,.ref q 0 0,x,I l.length,I (j+1:Nat)] K2:=by
     rw[A8];rw[c3]at a1;simp only[xq_,h1,s1,t1,st4,l0,l1,l2,i1,d1,ln,c1,Bool.not_true,i2,d2,a1,b0,l3,zaz,Fe,bM,h6,h7]
    rw[go];exact r
   ·rw[F c3];refine⟨K2,sK1.trans s2,.inl ⟨W,?_⟩⟩;rw[A8];simp only[xq_,h1,s1,t1,st4,l0,l1,l2,i1,d1,ln,c1,Bool.not_true,Bool.not_false,i2,d2,a1,b0,l3,c3]
def X9(H:ah)(hb:H.base<=H.next){c:Cfg}(hc:c.ok=Z0){p x:AV}{ps:Q (Q Opn)}(hp:OG H p ps)(hpn:ps.length<1000)(hpl:∀l∈ps,l.length<1000){l:Q Evn}(hx:aH H x 4 l.length (l.flatMap Evn.av))(hl:l.length<=100000):
  ∃H',Step H.next H H'/\((zX c ps l=Z1/\cl 101 [.agg c.av,p,x] H=ZC (.tup [zP,B ZV],H'))∨∃ws q,zX c ps l=ZC ws/\cl 101 [.agg c.av,p,x] H=ZC (.tup [.ref q 0 0,B Z0],H')/\Good H.next H' (upd lH q (Ci c ws))/\(ws.length:Int)=c.fG):=by
 let H1:=H.new (.blk 0 31 c.av);have s1:Step H.next H H1:=Step.new _ (Nat.le_refl _)
 have g1:H1.get H.next=.blk 0 31 c.av:=aK W
 have l8:=gU g1;have l0:ld (.ref H.next 0 0) H1=ZC (I c.aF,H1):=by rw[dG g1];rfl
 have hp1:OG H1 p ps:=hp.iD s1.next λr hr=>s1.low r hr
 have hx1:aH H1 x 4 l.length (l.flatMap Evn.av):=hx.new _;have e1:=acg H1 c hc hp1 (by omega) λl hl=>by have:=hpl l hl;omega
 have e2:=Zv H1 hx1 hl c.aF;have bx:fK 31 (.agg c.av) H=ZC (.ref H.next 0 0,H1):=aC (eF c) (by decide);have b0:bi .neq 57 (I 0) (I 0)=ZC (B ZV):=by kernel_rfl
 have b1:bi .neq 57 (I 1) (I 0)=ZC (B Z0):=by kernel_rfl
 unfold zX;cases ho:c.nR ps with
 |false=>
  rw[F (by rw[ho];decide)]at e1;refine⟨H1,s1,.inl ⟨by rw[F (by simp)],bg W W (WE _ _ _ _ _ ?_)⟩⟩;simp only[xq_,QS,bx,l8,e1,b1]
 |true=>
  rw[y ho]at e1;cases hr:qW c.aF [] l with
  |false=>
   rw[hr]at e2;refine⟨H1,s1,.inl ⟨by rw[F (by simp)],bg W W (WE _ _ _ _ _ ?_)⟩⟩;simp only[xq_,QS,bx,l8,e1,b0,l0,e2,Bool.not_false]
  |true=>
   rw[hr]at e2;rw[y (show(Z0 && Z0)=Z0 from W)];have⟨H2,q,e3,M⟩:=arz H1 (by simp only[H1,iO,eu];omega) hc;have s12:Step H.next H H2:=s1.trans ⟨M.base,M.next,λr hr=>M.same r (by simp only[H1,eu];omega)⟩
   have hx2:aH H2 x 4 l.length (l.flatMap Evn.av):=hx1.iD M.next λr _ hr=>M.same r hr
   have e4:=hx2.lnS;have ml:=(JC hc).len;have⟨K',s',r⟩:=al4 hc ho hl (S9 (λk v h=>by cases h) hr) (b:=H1.next) (p:=p) (x:=x) (B0:=H2) (λK s=>hp1.iD (Nat.le_trans M.next s.next) λr hr=>by rw[s.low r hr,M.same r hr]) (λK s=>hx1.iD (Nat.le_trans M.next s.next) λr _ hr=>by rw[s.low r hr,M.same r hr]) (q:=q) l.length 0 (by omega) (K:=H2) (ws:=nV c c.aT.toNat) (by rw[M.base];simp only[H1,iO,eu];omega) (Step.refl _ _) M.good ml;rw[List.drop_zero]at r;have sA:Step H.next H K':=s12.trans ⟨s'.base,s'.next,λr hr=>s'.low r (by simp only[H1,eu];omega)⟩
   rcases r with⟨r1,r2⟩|⟨ws',r1,r2,r3,r4⟩
   ·replace r2:nG cl [p,.ref q 0 0,x,I l.length,I 0] H2=ZC (.tup [zP,B ZV],K'):=r2
    refine⟨K',sA,.inl ⟨r1,bg W W (WE _ _ _ _ _ ?_)⟩⟩;simp only[xq_,QS,bx,l8,e1,b0,l0,e2,Bool.not_true,e3,e4,r2]
   ·replace r2:nG cl [p,.ref q 0 0,x,I l.length,I 0] H2=ZC (.tup [.ref q 0 0,B Z0],K'):=r2
    refine⟨K',sA,.inr ⟨ws',q,r1,bg W W (WE _ _ _ _ _ ?_),r3.weak (by simp only[H1,eu];omega),r4⟩⟩;simp only[xq_,QS,bx,l8,e1,b0,l0,e2,Bool.not_true,e3,e4,r2]
def adW(H:ah){c:Cfg}(hc:c.ok=Z0){p x:AV}{ps:Q (Q Opn)}(j:OG H p ps)(b:ps.length<1000)(d:∀l∈ps,l.length<1000){l:Q Evn}(k:aH H x 4 l.length (l.flatMap Evn.av))(m:l.length<=100000):cl 54 [.agg c.av,p,x] H=ZC (B (zX c ps l).isSome,H):=by
 refine bD W W (ate _ _ _ _ _) ?_ fC;let H1:=H.guard.new (.blk 0 31 c.av);have n:H1.get H.next=.blk 0 31 c.av:=aK W
 have h:=gU n;have i:fK 31 (.agg c.av) H.guard=ZC (.ref H.next 0 0,H1):=aC (eF c) J;have⟨H',_,r⟩:=X9 H1 (by simp only[H1,iO,eu,amc,wU];omega) hc (j.iD (H':=H1) (by simp only[H1,eu,wU];omega) λr o=>aZ o) b d (k.guard.new _) m;rcases r with⟨e,g⟩|⟨ws,q,e,g,_⟩
 ·rw[e];simp only[xq_,akB,i,h,g,Option.isSome_none]
 ·rw[e];simp only[xq_,akB,i,h,g,Option.isSome_some]
def adX(H:ah){c:Cfg}(hc:c.ok=Z0){p x:AV}{ps:Q (Q Opn)}(u:OG H p ps)(d:ps.length<1000)(g:∀l∈ps,l.length<1000){l:Q Evn}(v:aH H x 4 l.length (l.flatMap Evn.av))(w:l.length<=100000):cl 56 [.agg c.av,p,x] H=ZC (dat ((zX c ps l).getD []),H):=by
 let H1:=H.guard.new (.blk 0 31 c.av);have z:H1.get H.next=.blk 0 31 c.av:=aK W
 have k:=gU z;have n:fK 31 (.agg c.av) H.guard=ZC (.ref H.next 0 0,H1):=aC (eF c) J;have A:=qp hc;have C:=A.fG;have⟨H',_,r⟩:=X9 H1 (by simp only[H1,iO,eu,amc,wU];omega) hc (u.iD (H':=H1) (by simp only[H1,eu,wU];omega) λr D=>aZ D) d g (v.guard.new _) w;rcases r with⟨h,j⟩|⟨ws,q,h,j,G,b⟩
 ·rw[h];have E:dat (([]:Q Int))=zN:=by simp[dat,gu]
  rw[Option.getD_none,E];refine gY W W (an2 _ _ _ _ _ (r:=(zN,H')) ?_) iF;simp only[xq_,akC,n,k,j,Bool.not_false]
 ·rw[h,Option.getD_some];have F:cl 103 [.ref q 0 0] H'=ZC (dat ws,H'):=by
   have⟨y,K,o⟩:=G.guard.seq (q:=q) aQ (i:=8) (m:=1) (l:=ws.map I) W;have L:nH H'.guard y ws:=⟨o.is J O,o.one,λe=>by
    rw[e]at b;simp only[List.length_nil]at b;unfold Cfg.fG at b;omega⟩
   have M:=Jc H'.guard (by unfold Cfg.fG at b;omega) L;refine bD W W (aor _ _ _) ?_ sV;simp only[xq_,ahP,K,M]
  refine gY W W (an2 _ _ _ _ _ (r:=(dat ws,H')) ?_) (sV _ _);simp only[xq_,akC,n,k,j,Bool.not_true,F]
def Cj(all:Q Int)(w i:Nat):Q Int:=(all.drop (i*w)).take w
def dh.valuesB(m:dh)(all:Q Int):Bool:=(List.range m.c.aT.toNat).all λi=>m.Ew i (Cj all m.c.aP.toNat i)
def dh.Me(m:dh):Bool:=(List.range m.c.aT.toNat).all λi=>m.single i && (!decide (m.owner i=-1) || m.Jy i)
def MB {n i:Nat}(h:i<n):(List.range n).drop i=i::(List.range n).drop (i+1):=by
 rw[List.drop_eq_getElem_cons (by simpa using h)];simp
def arD {n:Nat}{cells:Q AV}{lo hi:Int}(h0:0<=lo)(d:lo<=hi)(e:hi<=n):slS 1 (.vs n 1 cells) (ZC (I lo)) (ZC (I hi)) Z1=ZC (.vs (hi.toNat-lo.toNat) 1 ((cells.drop lo.toNat).take (hi.toNat-lo.toNat))):=by
 have b:0<=hi:=V
 simp only[slS,jc,h0,b,zad];rw[y ⟨zac,V,V⟩];simp
section
variable {b:Nat}{H:ah}{g:bG}{A:Adr}{m:dh}{T:Nat}
def adY {i:Nat}(h:(i:Int)<m.c.aT):m.isL i=true:=by
 unfold dh.isL;rw[zah V,zah h];rfl
def MX.trl(X:MX T m):m.trace.length<1000000:=by
 have:=X.inv.evs;have hk:=adA X.inv;omega
def Zw(G:Good b H g)(M:gy g A m)(X:MX T m){p:AV}{all:Q Int}(hl:(all.length:Int)=m.c.fG)
  (hA:∀H1 ev,Step H.next H.guard H1->aH H1 ev 4 m.trace.length (m.trace.flatMap Evn.av)->cl 56 [.agg m.c.av,p,ev] H1=ZC (dat all,H1)):cl 19 [.ref A.jL 0 0,p] H=ZC (B (m.valuesB all),H):=by
 refine bD W W (anL _ _ _ _) ?_ fC;have Bd:=qp X.inv.ok;have hw:=Bd.aP;have hln:=Bd.aT;have had:=Bd.fG;have hne:all≠[]:=λe=>by rw[e]at hl;simp only[List.length_nil]at hl;unfold Cfg.fG at hl;omega
 have hwn:(m.c.aP.toNat:Int)=m.c.aP:=Int.toNat_of_nonneg (by omega);have avZ:all.length=m.c.aT.toNat*m.c.aP.toNat:=by
  have:((m.c.aT.toNat*m.c.aP.toNat:Nat):Int)=m.c.aT*m.c.aP:=by
   rw[Int.natCast_mul,hwn,Int.toNat_of_nonneg (by omega)]
  unfold Cfg.fG at hl;omega
 let H1:=H.guard.new (.blk 0 31 m.c.av);have s1:Step H.next H.guard H1:=Step.new _ (Nat.le_refl _)
 have G1:Good b H1 g:=G.guard.new _;have g1:H1.get H.next=.blk 0 31 m.c.av:=aK W
 have e0:=mP G.guard M X.inv.ok;have hbn:H.guard.base<=H.guard.next:=Nat.le_refl _
 have st8:st 8 (.ref H.next 0 0) (.agg m.c.av) (H.guard.new (.blk 0 31 [zI,zI,zI,zI,zI,zI,zI,zN]))=ZC (aX,H1):=by
  have arE:=eF m.c;show st 8 (.ref H.guard.next 0 0) _ _=_;rw[pR W];have cc:(AV.agg m.c.av).cells=m.c.av:=rfl;have lc:m.c.av.length=8:=rfl;rw[cc,lc,y ⟨hbn,W,arE,Nat.le_refl _⟩];rfl
 have l8:=gU g1;have lt:=G1.load M.jL (i:=1) (x:=.ref A.trace 0 0) W;have⟨ev,e1,hev⟩:=zQ G1.guard M.trace X.trl;have e2:=hA H1 ev s1 (hev H1);have e3:=(gJ H1 all).lnS;have e4:=OE H1 m.c X.inv.ok;rw[<-hl]at e4;have l1:ld (.ref H.next 0 1) H1=ZC (I m.c.aT,H1):=by rw[dG g1];rfl
 have l2:ld (.ref H.next 0 2) H1=ZC (I m.c.aP,H1):=by rw[dG g1];rfl
 have key:∀k i,i+k=m.c.aT.toNat->IU cl [.ref A.jL 0 0,.ref H.next 0 0,dat all,I m.c.aT,I i] H1=ZC (B (((List.range m.c.aT.toNat).drop i).all λi=>m.Ew i (Cj all m.c.aP.toNat i)),H1):=by
  intro k
  induction k with
  |zero=>
   intro i hi;have h1:¬(i:Int)<m.c.aT:=by omega
   rw[List.drop_of_length_le (by simp;omega),aa7];simp only[List.all_nil];simp only[xq_,h1]
  |succ k ih=>
   intro i hi;have h1:(i:Int)<m.c.aT:=by omega
   have r:=ih (i+1) (by omega);rw[MB (by omega),List.all_cons];have hiw:i*m.c.aP.toNat<=8*4:=Nat.mul_le_mul (by omega) (by omega);have awi:(i+1)*m.c.aP.toNat<=m.c.aT.toNat*m.c.aP.toNat:=Nat.mul_le_mul_right _ (by omega);have hmul:(i:Int)*m.c.aP=((i*m.c.aP.toNat:Nat):Int):=by rw[Int.natCast_mul,hwn]
   have arF:((i+1:Nat):Int)*m.c.aP=(((i+1)*m.c.aP.toNat:Nat):Int):=by rw[Int.natCast_mul,hwn]
   have hs1:(i+1)*m.c.aP.toNat=i*m.c.aP.toNat+m.c.aP.toNat:=Nat.succ_mul _ _;have w1:=wrap_i64 (a:=((i*m.c.aP.toNat:Nat):Int)) (by omega) (by omega);have w2:=wrap_i64 (a:=(((i+1)*m.c.aP.toNat:Nat):Int)) (by omega) (by omega);have h6:(i:Int)+1=((i+1:Nat):Int):=by omega
   have h7:=wrap_i64 (a:=((i+1:Nat):Int)) (by omega) (by omega);have hsl:=arD (n:=all.length) (cells:=all.map I) (lo:=((i*m.c.aP.toNat:Nat):Int)) (hi:=(((i+1)*m.c.aP.toNat:Nat):Int)) (by omega) (by omega) (by omega);rw[Int.toNat_natCast,Int.toNat_natCast,show(i+1)*m.c.aP.toNat-i*m.c.aP.toNat=m.c.aP.toNat by omega]at hsl;have hrl:(Cj all m.c.aP.toNat i).length=m.c.aP.toNat:=by
    unfold Cj;rw[List.length_take,List.length_drop];omega
   have e5:=adP G1 M X (adY h1) (x:=.vs m.c.aP.toNat 1 (((all.map I).drop (i*m.c.aP.toNat)).take m.c.aP.toNat)) (ws:=Cj all m.c.aP.toNat i) (λH' _ _=>by
    have:((all.map I).drop (i*m.c.aP.toNat)).take m.c.aP.toNat=(Cj all m.c.aP.toNat i).map I:=by unfold Cj;rw[List.map_take,List.map_drop]
    rw[this,hrl];exact aH.vs (by rw[List.length_map,hrl,Nat.mul_one])) (by omega)
   rw[qN hne]at r ⊢;rw[aa7];cases hr:m.Ew i (Cj all m.c.aP.toNat i)with
   |true=>
    rw[hr]at e5;rw[Bool.true_and];simp only[xq_,h1,l2,iP,bM,hmul,h6,h7,arF,w1,w2,hsl,e5,Bool.not_true,r]
   |false=>
    rw[hr]at e5;rw[Bool.false_and];simp only[xq_,h1,l2,iP,bM,hmul,h6,h7,arF,w1,w2,hsl,e5,Bool.not_false]
 have r:=key m.c.aT.toNat 0 (by omega);rw[List.drop_zero]at r
 replace r:IU cl [.ref A.jL 0 0,.ref H.next 0 0,dat all,I m.c.aT,I 0] H1=ZC (B (m.valuesB all),H1):=r
 simp only[xq_,aks,e0,st8,l8,lt,e1,e2,e3,e4,zaz,Bool.not_true,l1,r]
def adZ(G:Good b H g)(M:gy g A m)(X:MX T m){p:AV}{lg vb:Bool}(hs:∀L w,m.walk L=ZC w->SV w)
  (hL:∀H1 ev,Step H.next H.guard H1->aH H1 ev 4 m.trace.length (m.trace.flatMap Evn.av)->cl 54 [.agg m.c.av,p,ev] H1=ZC (B lg,H1))
  (hV:∀H1,Step H.next H.guard H1->cl 19 [.ref A.jL 0 0,p] H1=ZC (B vb,H1)):cl 18 [.ref A.jL 0 0,p] H=ZC (B (m.Me && (lg && vb)),H):=by
 refine bD W W (asQ _ _ _ _) ?_ fC;have Bd:=qp X.inv.ok;have hln:=Bd.aT;let H1:=H.guard.new (.blk 0 31 m.c.av);have s1:Step H.next H.guard H1:=Step.new _ (Nat.le_refl _)
 have G1:Good b H1 g:=G.guard.new _;have g1:H1.get H.next=.blk 0 31 m.c.av:=aK W
 have e0:=mP G.guard M X.inv.ok;have hbn:H.guard.base<=H.guard.next:=Nat.le_refl _
 have st8:st 8 (.ref H.next 0 0) (.agg m.c.av) (H.guard.new (.blk 0 31 [zI,zI,zI,zI,zI,zI,zI,zN]))=ZC (aX,H1):=by
  have arE:=eF m.c;show st 8 (.ref H.guard.next 0 0) _ _=_;rw[pR W];have cc:(AV.agg m.c.av).cells=m.c.av:=rfl;have lc:m.c.av.length=8:=rfl;rw[cc,lc,y ⟨hbn,W,arE,Nat.le_refl _⟩];rfl
 have l8:=gU g1;have lt:=G1.load M.jL (i:=1) (x:=.ref A.trace 0 0) W;have⟨ev,e1,hev⟩:=zQ G1.guard M.trace X.trl;have e2:=hL H1 ev s1 (hev H1);have e3:=hV H1 s1;have l1:ld (.ref H.next 0 1) H1=ZC (I m.c.aT,H1):=by rw[dG g1];rfl
 have key:∀k i,i+k=m.c.aT.toNat->IQ cl [.ref A.jL 0 0,p,.ref H.next 0 0,I m.c.aT,I i] H1=ZC (B ((((List.range m.c.aT.toNat).drop i).all λi=>m.single i && (!decide (m.owner i=-1) || m.Jy i)) && (lg && vb)),H1):=by
  intro k
  induction k with
  |zero=>
   intro i hi;have h1:¬(i:Int)<m.c.aT:=by omega
   rw[List.drop_of_length_le (by simp;omega),aa6];simp only[List.all_nil,Bool.true_and];cases lg with
   |true=>simp only[Int.reduceNeg,xq_,h1,l8,lt,e1,e2,e3,Bool.true_and]
   |false=>simp only[Int.reduceNeg,xq_,h1,l8,lt,e1,e2,Bool.false_and]
  |succ k ih=>
   intro i hi;have h1:(i:Int)<m.c.aT:=by omega
   have r:=ih (i+1) (by omega);have h6:(i:Int)+1=((i+1:Nat):Int):=by omega
   have h7:=wrap_i64 (a:=((i+1:Nat):Int)) (by omega) (by omega);have e4:=Zt G1 M X (i:Int);have e5:=SL G1 M X (i:Int);have e6:=agx G1 M X (i:Int) (hs _);rw[MB (by omega),List.all_cons,aa6];cases h2:m.single i with
   |false=>
    rw[h2]at e4;rw[Bool.false_and,Bool.false_and,Bool.false_and];simp only[Int.reduceNeg,xq_,h1,e4,Bool.not_false]
   |true=>
    rw[h2]at e4;rw[Bool.true_and];by_cases h3:m.owner i=-1
    ·rw[h3]at e5;rw[zah h3,Bool.not_true,Bool.false_or];cases h4:m.Jy i with
     |true=>
      rw[h4]at e6;rw[Bool.true_and];simp only[Int.reduceNeg,xq_,h1,e4,Bool.not_true,e5,e6,bM,h6,h7,r]
     |false=>
      rw[h4]at e6;rw[Bool.false_and,Bool.false_and];simp only[Int.reduceNeg,xq_,h1,e4,Bool.not_true,e5,e6,Bool.not_false]
    ·rw[zam h3,Bool.not_false,Bool.true_or,Bool.true_and];simp only[Int.reduceNeg,xq_,h1,e4,Bool.not_true,e5,h3,bM,h6,h7,r]
 have r:=key m.c.aT.toNat 0 (by omega);rw[List.drop_zero]at r
 replace r:IQ cl [.ref A.jL 0 0,p,.ref H.next 0 0,I m.c.aT,I 0] H1=ZC (B (m.Me && (lg && vb)),H1):=r
 simp only[xq_,anJ,e0,st8,l1,r]
end
def nO {α:Type}{g:Int->α}{j:Int}:dZ g j (g j)=g:=by
 funext k
 by_cases h:k=j
 ·rw[h,aS]
 ·rw[aY h]
def al5 {f:Fab}{i:Int}{q:Port}(hi:f.is i=Z0)(b:q.rq=(f.port i).rq)(d:q.an=(f.port i).an):(f.put i q).all=f.all:=DJ (gI hi) b d
def MC {f b:Fab}{i:Int}{r:Bool}{d:M Pkt}(h:f.take i r=(b,d)):b.under=f.under:=by
 unfold Fab.take at h;split at h
 ·rename_i hi;split at h
  ·cases h;rfl
  ·cases h;unfold Fab.under;rw[al5 hi (by cases r <;> rfl) (by cases r <;> rfl)]
 ·cases h;rfl
section
variable {m:dh}{T:Nat}{i:Nat}{n n':Node}{f:Fab}{t:List Evn}{msg msg':Int->Out}{val val':Int->List Int}
def Gv(h:m.aF[i]?=ZC n)(b:n'.home=n.home)(hc:∀L,n'.aJ.find L=n.aJ.find L):
  (m.with_ i n' f t).abs msg' val'={ m.abs msg val with aO:=dZ m.vU i n'.aO,msg:=msg',val:=val' }:=by
 rw[xM (val:=val) (msg:=msg) h b (L:=0) (λL _=>hc L),hc,<-zV h,nN,nO];rfl
def MX.range(X:MX T m)(h:m.aF[i]?=ZC n):0<=(i:Int)/\(i:Int)<m.c.aF:=by
 have:=X.inv.len;have:=(List.getElem?_eq_some_iff.1 h).1;omega
def MX.is(X:MX T m){j:Int}(h:0<=j/\j<m.c.aF){f:Fab}(b:f.l.length=m.fab.l.length):f.is j=true:=by
 have:=X.inv.fab.len;unfold Fab.is;simp only[Bool.and_eq_true,zab];omega
def Pv(h:m.aF[i]?=ZC n){o:Opn}(hc:n.bU.cur=ZC o):m.opAt i n.bU.bI.length=ZC o:=by
 unfold dh.opAt;rw[yC h];exact hc
def bW.end_(d:bW):bW:={ d with step:=0 }
set_option maxHeartbeats 1000000 in
theorem GInv.answered(X:MX T m)(G:GInv m msg val)(C:m.aF[i]?=some n){u:Fab}{p:Pkt}(ht:m.fab.take i false=(u,some p)):
  ∃msg' val',GInv (m.with_ i (n.answered m.c i u m.trace p).1 (n.answered m.c i u m.trace p).2.1 (n.answered m.c i u m.trace p).2.2) msg' val'/\zW m.c m.opAt m.trace val (n.answered m.c i u m.trace p).2.2 val'/\True:=by
 obtain⟨hs,b1,b2,b3,R1,ho,hl⟩:=G.pk.takeA ht;have hc:=X.inv.ok;have NI:=X.inv.bC i n C;have aE:=X.bC i n C;have hi:=X.range C;have hm:(m.abs msg val).msg i=.ans p:=b3;have hd:(m.abs msg val).aO i=n.aO:=qh C;have hQ:=(X.inv.fab.take i false).2 p (by rw[ht]);rcases G.abs.bC i hi.1 hi.2 with⟨_,h⟩|O
 ·rw[hm]at h;cases h
 have OL:=O.ak;rw[hd]at OL;have bh:=MC ht;have bj:msg i=.ans p:=hm;rcases O.at_ with⟨_,_,h|⟨h,_⟩⟩|z|F
 ·rw[hm]at h;cases h
 ·rw[hm]at h;cases h
 ·-- the aO goes on
  obtain⟨_,H⟩:=G.abs.holder O.ak z hi.1;rw[hd,hm]at H;rw[hd]at z;have bk:=H.ans;have ai:n.aO.step≠0:=V
  have DO:=NI.aO ai;have hv:=G.abs.val n.aO.ak OL.1 OL.2;have ab:n.aO.aW=1->n.aO.step=1∨n.aO.step=2->(m.abs msg val).ent n.aO.ak i=none:=by
   have:=O.miss;rw[hd]at this;exact this
  obtain⟨ca,g,hA,w⟩:=Zq (c:=m.c) NI.aJ.aT hi hv (zV C n.aO.ak) OL.1 (λh3=>(DO.work h3 V).full) DO.aW ab H;have al:g.data.length<=4:=by
   have:=XV (me:=i) (NI.aJ.le hc) aE (p:=p) (by
    have:=hQ.ok;simp only[Pkt.ok,Bool.and_eq_true,decide_eq_true_eq]at this;omega)
   rw[hA]at this;exact this
  have aL:0<=g.id/\g.id<4096:=by
   have:=O.idr;rw[hd]at this;rw[w.id];exact this
  have aM:0<=g.ak/\g.ak<m.c.aT:=by rw[w.ak];exact OL
  have am:(m.abs msg val).msg i≠.wait:=by rw[hm];exact λe=>by cases e
  have ao:g.aW=((m.abs msg val).aO i).aW:=by rw[hd];exact w.aW
  have ap:g.id=((m.abs msg val).aO i).id:=by rw[hd];exact w.id
  have aq:dZ msg i .idle i=.idle:=aS;have ad:dZ (dZ msg i .idle) i (.req (g.ask i (m.c.bf g.ak)))=dZ msg i (.req (g.ask i (m.c.bf g.ak))):=by
   funext k
   by_cases h:k=i
   ·rw[h,aS,aS]
   ·rw[aY h,aY h,aY h]
  have ar:1<=u.out:=by
   have:=(lu hc).2.2.2.2.2.1;rw[ho,X.inv.fab.out];exact this.1
  have send:∀{E:sK} {r:Row} {v:List Int},Hold m.c.aF (m.c.bf n.aO.ak) E r v i g (.req (g.ask i (m.c.bf n.aO.ak)))->pK (u.send (g.ask i (m.c.bf g.ak))).1 (dZ msg i (.req (g.ask i (m.c.bf g.ak)))):=λH'=>by
   rw[<-w.ak]at H';obtain⟨a1,a2,a3,a4,a5⟩:=alX hc hi H' aM aL al;have:=R1.arv (p:=g.ask i (m.c.bf g.ak)) (by rw[a3,aq];exact λq e=>by cases e) (by rw[a3,aq];exact λq e=>by cases e) a1 a2 (by rw[a3];exact X.is hi hl) (X.is ⟨a4,a5⟩ hl) ar;rw[a3,ad]at this;exact this.2
  rcases w.next with⟨aR,H'⟩|⟨h6,h3,e,he,a0,D⟩
  ·-- no operation ends
   have j:n.answered m.c i u m.trace p=({ n with aJ:=ca,aO:=g },(u.send (g.ask i (m.c.bf g.ak))).1,m.trace):=by
    unfold Node.answered;rw[hA];simp only[Bool.true_eq_false,if_false,if_neg w.step,if_neg aR];rfl
   rw[j];refine⟨dZ msg i (.req (g.ask i (m.c.bf g.ak))),val,⟨?_,send H'⟩,.same,trivial⟩;show nU m.c ((m.with_ i { n with aJ:=ca,aO:=g } (u.send (g.ask i (m.c.bf g.ak))).1 m.trace).abs (dZ msg i (.req (g.ask i (m.c.bf g.ak)))) val);rw[xM (n':={ n with aJ:=ca,aO:=g }) (msg:=msg) (val:=val) C rfl (L:=n.aO.ak) w.other];have:=G.abs.goes (x:=ca.find n.aO.ak) (v:=val n.aO.ak) (d:=g) hi OL z am hv w.ak ao ap (λa b=>w.miss a b) H';have a6:dZ (m.abs msg val).val n.aO.ak (val n.aO.ak)=val:=nO;rw[a6,<-w.ak]at this;rw[<-w.ak];exact this
  ·-- an operation ends
   have a7:n.aO.aW≠3:=by rw[<-w.aW];exact h3
   have W:=DO.work a7 V;obtain⟨o,o1,o2,o3,o4⟩:=W.op;have ae:=O4 NI.aJ DO ai hQ (by rw[<-sJ];exact hA);have Q:=(ji ae.inv.aT).1 he;have E_:=ae.inv.ent e Q.1;have A:=NI.bU.right o (List.mem_of_getElem? o1);have hw:0<=m.c.dH o.addr/\m.c.dH o.addr<m.c.aP:=⟨(arY hc A.1).wlo,(arY hc A.1).whi⟩
   have bl:=E_.dat.1;have a8:o.aW=1∨((o.aW=2∨o.aW=3)/\e.bJ=true):=by
    rcases D with⟨k1,_⟩|⟨k2,aw,_⟩
    ·exact .inl (o3 k1)
    ·exact .inr ⟨o4 k2,aw⟩
   obtain⟨w1,w2,w3,w4,w5,w6,w7⟩:=adJ (c:=m.c) (val:=val) a8 (by rw[o2];exact a0) V;have y:=qU e o (m.c.dH o.addr);have aa:=yB ae.inv.aT (e:=fA e o (m.c.dH o.addr)) (x:=e) (by rw[y.1];exact E_.lo) (by rw[y.1,Q.2];exact he);have af:({ fA e o (m.c.dH o.addr)with used:=e.used }:Ent)=fA e o (m.c.dH o.addr):=by rw[<-y.2.1]
   have ag:n.bU.op=o:=by unfold Proc.op;rw[o1];rfl
   have K:n.bU.idx=n.bU.bI.length:=by unfold Proc.idx;rw[o1]
   have j:n.answered m.c i u m.trace p=({ n with aJ:=(ca.put (fA e o (m.c.dH o.addr))).1,aO:=g,bU:=n.bU.Dc (if o.aW=2 then 0 else e.word (m.c.dH o.addr)) },(u.send (g.ask i (m.c.bf g.ak))).1,m.trace++[⟨i,n.bU.bI.length,true,if o.aW=2 then 0 else e.word (m.c.dH o.addr)⟩]):=by
    unfold Node.answered;rw[hA];simp only[Bool.true_eq_false,if_false,if_neg w.step,if_pos (show g.step=6/\g.aW≠3 from⟨h6,h3⟩)];unfold Node.effect Node.done;simp only[ag,o2,he,Option.getD_some,K];rfl
   rw[j];have hx:(ca.put (fA e o (m.c.dH o.addr))).1.find n.aO.ak=some (fA e o (m.c.dH o.addr)):=by
    rw[aa,if_pos (by rw[y.1,Q.2]),af]
   have a9:(lq m.c o val).1 n.aO.ak≠[]:=by
    rw[<-o2,<-w1];intro h0;have h1:=y.2.2.2;rw[h0]at h1;simp only[List.length_nil]at h1;omega
   have H':Hold m.c.aF (m.c.bf n.aO.ak) (pV ((m.abs msg val).ent n.aO.ak) i (some (fA e o (m.c.dH o.addr)))) ((m.abs msg val).row n.aO.ak) ((lq m.c o val).1 n.aO.ak) i g (.req (g.ask i (m.c.bf n.aO.ak))):=by
    rcases D with⟨k1,Hc⟩|⟨k2,aw,Hc⟩
    ·have ba:(lq m.c o val).1 n.aO.ak=val n.aO.ak:=by
      unfold lq;rw[if_pos (o3 k1)]
     rw[w7 (o3 k1),ba];exact Hc
    ·have:=Hc (fA e o (m.c.dH o.addr)) w4 w5 w6;rw[w1,o2]at this;exact this
   refine⟨dZ msg i (.req (g.ask i (m.c.bf g.ak))),(lq m.c o val).1,⟨?_,send H'⟩,?_,trivial⟩
   ·have ax:=xM (m:=m) (n:=n) (n':={ n with aJ:=(ca.put (fA e o (m.c.dH o.addr))).1,aO:=g,bU:=n.bU.Dc (if o.aW=2 then 0 else e.word (m.c.dH o.addr)) }) (f:=(u.send (g.ask i (m.c.bf g.ak))).1) (t:=m.trace++[⟨i,n.bU.bI.length,true,if o.aW=2 then 0 else e.word (m.c.dH o.addr)⟩]) (msg:=msg) (val:=val) (msg':=dZ msg i (.req (g.ask i (m.c.bf g.ak)))) (val':=(lq m.c o val).1) C rfl (L:=n.aO.ak) (λL hL=>by
     show(ca.put _).1.find L=_;rw[aa,if_neg (by rw[y.1,Q.2];exact hL)];exact w.other L hL)
    rw[ax];simp only[hx];have:=G.abs.goes (x:=some (fA e o (m.c.dH o.addr))) (v:=(lq m.c o val).1 n.aO.ak) (d:=g) hi OL z am a9 w.ak ao ap (λ_ b=>V) H';have bb:dZ val n.aO.ak ((lq m.c o val).1 n.aO.ak)=(lq m.c o val).1:=by
     funext L
     by_cases hL:L=n.aO.ak
     ·rw[hL,aS]
     ·rw[aY hL,w2 L (by rw[o2];exact hL)]
    have bc:dZ (m.abs msg val).val n.aO.ak ((lq m.c o val).1 n.aO.ak)=(lq m.c o val).1:=bb;rw[bc,<-w.ak]at this;rw[<-w.ak];exact this
   ·rw[w3];exact .done i n.bU.bI.length o (Pv C o1) .same
 ·-- the aO is over
  obtain⟨f1,f2,f3⟩:=F;have F':aut m.c (m.abs msg val) i:=⟨f1,f2,f3⟩
  rw[hd]at f1;rw[hm,hd]at f3;have hp:p=agt m.c n.aO i:=Out.ans.inj f3;have M:n.aO.fits p=true:=adH (by rw[hp,f1];rfl) (by rw[hp];rfl) (by rw[hp];rfl) V;have DO:=NI.aO V;have hA:n.after i p=(n.aJ,n.aO.end_,true):=by
   unfold Node.after;by_cases k1:n.aO.aW=1
   ·rw[if_pos k1];unfold dW;rw[if_neg (by rw[k1,M];simp),if_neg V,if_neg V,if_pos f1];rfl
   ·rw[if_neg k1];by_cases k2:n.aO.aW=2
    ·rw[if_pos k2];unfold dY;rw[if_neg (by rw[k2,M];simp),if_neg V,if_neg V,if_pos f1];rfl
    ·have k3:n.aO.aW=3:=by have:=DO.aW;omega
     rw[if_neg k2,if_pos k3];unfold eP;rw[if_neg (by rw[k3,M];simp),if_neg V,if_neg V,if_neg V,if_pos f1];rfl
  have az:=G.abs.over hi F' (d:=n.aO.end_) rfl;by_cases R:n.aO.aW=3/\n.bU.op.aW=4
  ·have aD:∃o,n.bU.cur=some o:=by
    cases h:n.bU.cur with
    |some o=>exact⟨o,rfl⟩
    |none=>
     have:=R.2;unfold Proc.op at this;rw[h]at this;exact absurd this J
   obtain⟨o,o1⟩:=aD;have ag:n.bU.op=o:=by unfold Proc.op;rw[o1];rfl
   have K:n.bU.idx=n.bU.bI.length:=by unfold Proc.idx;rw[o1]
   have j:n.answered m.c i u m.trace p=({ n with aO:=n.aO.end_,bU:=n.bU.Dc 0 },u,m.trace++[⟨i,n.bU.bI.length,true,0⟩]):=by
    unfold Node.answered;rw[hA];simp only[Bool.true_eq_false,if_false,show n.aO.end_.step=0 from rfl,if_true,show n.aO.end_.aW=n.aO.aW from rfl,if_pos R];unfold Node.done;simp only[K]
   rw[j];refine⟨dZ msg i .idle,val,⟨?_,R1⟩,?_,trivial⟩
   ·show nU m.c ((m.with_ i { n with aO:=n.aO.end_,bU:=n.bU.Dc 0 } u _).abs (dZ msg i .idle) val);rw[Gv (n':={ n with aO:=n.aO.end_,bU:=n.bU.Dc 0 }) (msg:=msg) (val:=val) C rfl (λ_=>rfl)];exact az
   ·have be:lq m.c o val=(val,0):=by
     have:o.aW=4:=by rw[<-ag];exact R.2
     unfold lq;rw[if_neg V,if_neg V,if_neg V]
    have:=zW.done (c:=m.c) (P:=m.opAt) i n.bU.bI.length o (Pv C o1) (.same (t:=m.trace) (v:=val));rw[be]at this;exact this
  ·have j:n.answered m.c i u m.trace p=({ n with aO:=n.aO.end_ },u,m.trace):=by
    unfold Node.answered;rw[hA];simp only[Bool.true_eq_false,if_false,show n.aO.end_.step=0 from rfl,if_true,show n.aO.end_.aW=n.aO.aW from rfl,if_neg R]
   rw[j];refine⟨dZ msg i .idle,val,⟨?_,R1⟩,.same,trivial⟩;show nU m.c ((m.with_ i { n with aO:=n.aO.end_ } u _).abs (dZ msg i .idle) val);rw[Gv (n':={ n with aO:=n.aO.end_ }) (msg:=msg) (val:=val) C rfl (λ_=>rfl)];exact az
end
def VB {k s d id l b st:Int}{fl:Bool}{x:Q Int}(h:((0<=s/\s<6)/\0<=d/\d<6)/\(0<=id/\id<4096)/\(1<=k/\k<10)/\(0<=l/\l<8)/\(-1<=b/\b<6)/\(0<=st/\st<3)/\x.length<=4):(⟨k,s,d,id,l,b,st,fl,x⟩:Pkt).ok=true:=by
 have⟨⟨⟨e,g⟩,i,j⟩,⟨m,n⟩,⟨o,p⟩,⟨q,ha⟩,⟨hb,hc⟩,⟨hd,u⟩,v⟩:=h;simp[Pkt.ok,e,g,i,j,m,n,o,p,q,ha,hb,hc,hd,u,v]
inductive Td (N hm:Int) (E:sK) (r:Row) (v:List Int) (s:Int) (d:bW) (p:Pkt) (e:Ent):Prop
 |attach:p.aW=3->Hold N hm (pV E p.dst (some { e with bJ:=false,back:=p.ptr })) r v s d (.ans ⟨9,p.dst,p.src,p.id,p.ak,0,0,e.bJ,e.data⟩)->Td N hm E r v s d p e
 |front:p.aW=4->Hold N hm (pV E p.dst (some { e with fwd:=p.ptr })) r v s d (.ans ⟨8,p.dst,p.src,p.id,p.ak,0,0,false,[]⟩)->Td N hm E r v s d p e
 |behind:p.aW=5->Hold N hm (pV E p.dst (some { e with back:=p.ptr })) r v s d (.ans ⟨8,p.dst,p.src,p.id,p.ak,0,0,false,[]⟩)->Td N hm E r v s d p e
 |EJ:p.aW=6->-1<=e.fwd/\e.fwd<N->Hold N hm (pV E p.dst none) r v s d (.ans ⟨9,p.dst,p.src,p.id,p.ak,e.fwd,0,e.bJ,e.data⟩)->Td N hm E r v s d p e
def Rng.agF {N:Int}{l:Q Int}(h:Rng N l)(d:0<N):-1<=hdI l (-1)/\hdI l (-1)<N:=by
 by_cases b:l=[]
 ·rw[b];exact⟨Int.le_refl _,by show(-1:Int)<N;omega⟩
 ·have:=h.2 _ (h.hd b).1;omega
def arG {N hm:Int}{E:sK}{r:Row}{v:List Int}{s:Int}{d:bW}{p:Pkt}(hN:0<N)(H:Hold N hm E r v s d (.req p))(hk:3<=p.aW/\p.aW<=6):∃e,E p.dst=some e/\Td N hm E r v s d p e:=by
 obtain⟨hp,_,_⟩:=H.req;have hq:∃q,Out.req p=q/\Hold N hm E r v s d q:=⟨_,rfl,H⟩
 obtain⟨q,hq,H⟩:=hq;cases H with
 |attach k1 k2 k3 k4 W=>
  have e:p=⟨3,s,d.head,d.id,d.ak,s,0,false,[]⟩:=by rw[hp];unfold bW.ask;simp[k1]
  obtain⟨x,h1,h2⟩:=Sr (hm:=hm) k1 k2 k3 k4 W;exact⟨x,by rw[e];exact h1,.attach (by rw[e]) (by rw[e];exact h2)⟩
 |EJ k1 k2 L k3 k4=>
  have e:p=⟨6,s,d.next,d.id,d.ak,0,0,false,[]⟩:=by rw[hp];unfold bW.ask;simp[k1]
  obtain⟨x,h1,h2⟩:=Vt (hm:=hm) (r:=r) k1 k2 L k3 k4;have hx:-1<=x.fwd/\x.fwd<N:=by
   obtain⟨⟨y,hy,hf⟩,_⟩:=L.ch;rw[h1]at hy;cases hy;rw[hf];exact Rng.agF ⟨(List.nodup_cons.1 L.rng.1).2,λj hj=>L.rng.2 j (by simp[hj])⟩ hN
  exact⟨x,by rw[e];exact h1,.EJ (by rw[e]) hx (by rw[e];exact h2)⟩
 |front k1 k2 M k3 C k4 k5 k6=>
  have e:p=⟨4,s,d.head,d.id,d.ak,d.next,0,false,[]⟩:=by rw[hp];unfold bW.ask;simp[k1]
  obtain⟨x,h1,h2⟩:=Vu (hm:=hm) k1 k2 M k3 C k4 k5 k6;exact⟨x,by rw[e];exact h1,.front (by rw[e]) (by rw[e];exact h2)⟩
 |behind k1 k2 M k3 C C' k4 k5 k6=>
  have e:p=⟨5,s,d.next,d.id,d.ak,d.head,0,false,[]⟩:=by rw[hp];unfold bW.ask;simp[k1]
  obtain⟨x,h1,h2⟩:=SA (hm:=hm) k1 k2 M k3 C C' k4 k5 k6;exact⟨x,by rw[e];exact h1,.behind (by rw[e]) (by rw[e];exact h2)⟩
 |unlock k1 W=>
  have e:p.aW=2:=by rw[hp];unfold bW.ask;simp[k1]
  omega
 |granted _ _=>cases hq
 |attached _ _ _ _ _ _ _ _ _ _=>cases hq
 |BP _ _ _ _ _=>cases hq
 |vS _ _ _ _ _ _ _ _ _=>cases hq
 |qg _ _ _ _ _ _ _ _ _=>cases hq
section
variable {m:dh}{T:Nat}{i:Nat}{n n':Node}{f:Fab}{t:List Evn}{msg msg':Int->Out}{val val':Int->List Int}
def auC {α:Type}{g:Int->α}{j:Int}{x y:α}:dZ (dZ g j x) j y=dZ g j y:=by
 funext k
 by_cases h:k=j
 ·rw[h,aS,aS]
 ·rw[aY h,aY h,aY h]
def ad1(X:MX T m)(b:m.aF[i]?=ZC n)(L:Int):(iR n.home.dS L).data.length<=4:=by
 have d:=X.inv.bC i n b;have:=(lu X.inv.ok).2.2.1;unfold iR;cases h:jw n.home.dS L with
 |none=>exact Nat.zero_le _
 |some r=>
  have:=(d.dS _ (rP h)).1;simp only[Option.getD_some]at*;omega
def GInv.grant(X:MX T m)(G:GInv m msg val)(g:m.aF[i]?=ZC n)(hr:n.home.ready≠[])(j:0<m.fab.roomOf i ZV):
  ∃msg',GInv (m.with_ i { n with home:=(n.home.grant i).1 } (m.fab.send (n.home.grant i).2.1).1 t) msg' val/\True:=by
 have hc:=X.inv.ok;have A:=X.inv.bC i n g;have hi:=X.range g;cases k:n.home.ready with
 |nil=>exact absurd k hr
 |cons L l=>
  have⟨r1,r2,r3⟩:=AO k;obtain⟨e,he,rfl⟩:=List.mem_map.1 r3;have C:=A.home.here e he;unfold wX at C;simp only[Bool.and_eq_true,zab]at C;have⟨⟨l0,l1⟩,l2⟩:=C;have z:m.c.bf e.1=i:=by unfold Cfg.bf wV;rw[Ys V];exact l2
  have d:n.home.bn.owner e.1=-1:=zar λh=>by
   have:=(A.home.bn.owned e.1).2 h;rw[r1]at this;cases this
  cases o:n.home.bn.ws e.1 with
  |nil=>exact absurd o r2
  |cons w ws=>
   have⟨D,t2,t3⟩:=Zp A.home.bn d o;have ho:(m.abs msg val).own e.1=-1:=by show(m.jJ e.1).bn.owner e.1=-1;rw[oV g z];exact d
   have hw:(m.abs msg val).ws e.1=w::ws:=by show(m.jJ e.1).bn.ws e.1=_;rw[oV g z];exact o
   have b:(m.abs msg val).row e.1=iR n.home.dS e.1:=by show iR (m.jJ e.1).dS e.1=_;rw[oV g z]
   have⟨u,v,I'⟩:=G.abs.grant ⟨l0,l1⟩ ho hw;have E:n.home.grant i=({ n.home with bn:=(n.home.bn.next e.1).1 },granted n.home.dS i e.1 w.1 w.2,Z0):=by
    unfold Home.grant;rw[k];simp only;cases hx:n.home.bn.next e.1 with
    |mk tt ww=>
     rw[hx]at D;simp only at D;rw[D]
   rw[E];have hO:alV m.c (m.abs msg val) w.1:=by
    rcases G.abs.bC w.1 u.1 u.2 with⟨_,h⟩|O
    ·rw[v]at h;cases h
    ·exact O
   have F:((m.abs msg val).aO w.1).id=w.2:=((G.abs.ws e.1).2 w (by rw[hw];simp)).2.2.2.2.1;have⟨lw,W⟩:∃lw,Wf m.c.aF ((m.abs msg val).ent e.1) ((m.abs msg val).row e.1) ((m.abs msg val).val e.1) lw:=by
    rcases G.abs.ak e.1 l0 l1 with⟨_,h⟩|⟨h,_⟩
    ·exact h
    ·omega
   have⟨cn,cl,_⟩:=lu hc;have ad:=W.rng.agF V;have H:=W.st;have y:=W.head;rw[b]at H y;have K:=hO.idr;rw[F]at K;have aa:=ad1 X g e.1;have M:(granted n.home.dS i e.1 w.1 w.2).ok=true:=by
    exact VB V
   have Q:=G.pk.Zn (p:=granted n.home.dS i e.1 w.1 w.2) (λq h=>by rw[show(granted n.home.dS i e.1 w.1 w.2).dst=w.1 from Z3]at h;exact absurd (v.symm.trans h) (λe=>by cases e)) (λq h=>by rw[show(granted n.home.dS i e.1 w.1 w.2).dst=w.1 from Z3]at h;exact absurd (v.symm.trans h) (λe=>by cases e)) M Z3 (X.is hi Z3) (X.is u Z3) j;have ab:((m.abs msg val).aO w.1).step=1:=((G.abs.ws e.1).2 w (by rw[hw];simp)).2.2.2.2.2;refine⟨_,⟨?_,Q.2⟩,zac⟩;show nU m.c ((m.with_ i { n with home:={ n.home with bn:=(n.home.bn.next e.1).1 } } (m.fab.send (granted n.home.dS i e.1 w.1 w.2)).1 t).abs _ val);rw[Gq (n':={ n with home:={ n.home with bn:=(n.home.bn.next e.1).1 } }) (msg:=msg) g (λ_=>rfl) Z3 z (λ_ _=>rfl) (λR h=>by show(n.home.bn.next e.1).1.owner R=_;rw[t2,Ys h]) (λR h=>by show(n.home.bn.next e.1).1.ws R=_;rw[t3,Ys h])];have a1:dZ (m.abs msg val).row e.1 (iR n.home.dS e.1)=(m.abs msg val).row:=by rw[<-b,nO]
   simp only[a1,t2,t3,zad];have a2:granted n.home.dS i e.1 w.1 w.2=⟨7,m.c.bf e.1,w.1,w.2,e.1,((m.abs msg val).row e.1).head,((m.abs msg val).row e.1).state,ZV,((m.abs msg val).row e.1).data⟩:=by
    rw[b,z];rfl
   rw[a2];exact I'
set_option maxHeartbeats 1000000 in
theorem GInv.asked(X:MX T m)(G:GInv m msg val)(M:m.aF[i]?=ZC n){D:Fab}{p:Pkt}(ht:m.fab.take i Z0=(D,ZC p))(ai:0<m.fab.roomOf i ZV):
  ∃msg',GInv (m.with_ i (n.asked m.c i D p).1 (n.asked m.c i D p).2 t) msg' val/\True:=by
 have⟨hs,b1,b2,b3,R1,ho,hl,bb⟩:=G.pk.auu ht;have hc:=X.inv.ok;have⟨cn,cl,_⟩:=lu hc;have Q:=X.inv.bC i n M;have hi:=X.range M;have w:0<=p.src/\p.src<m.c.aF:=by
  have:=G.pk.rg _ p (.inl b3);have bv:=X.inv.fab.len;unfold Fab.is at this;simp only[Bool.and_eq_true,zab]at this;omega
 have aa:(m.abs msg val).msg p.src=.req p:=b3;have hQ:=(X.inv.fab.take i Z0).2 p (by rw[ht]);have⟨O,p1,p2,p3,p4⟩:=G.abs.req w aa;have al:=hQ.ok;have bc:=al;simp only[Pkt.ok,Bool.and_eq_true,zab]at bc;have OL:=O.ak;rw[p2]at OL;have z:p.aW=Ar ((m.abs msg val).aO p.src).step:=(zaj Pkt.aW p1).trans (kZ p3).1;have ad:0<D.roomOf i false:=by rw[bb];exact ai
 have az:dZ msg p.src .idle p.src=.idle:=aS;have Zn:∀q:Pkt,q.ok=Z0->wB q.aW=ZV->q.src=i->q.dst=p.src->pK (D.send q).1 (dZ msg p.src (.ans q)):=λq h1 h2 h3 h4=>by
  have:=R1.Zn (p:=q) (by rw[h4,az];exact λx e=>by cases e) (by rw[h4,az];exact λx e=>by cases e) h1 h2 (by rw[h3];exact X.is hi hl) (by rw[h4];exact X.is w hl) (by rw[h3];exact ad);rw[h4,auC]at this;exact this.2
 -- the au8 requests
 have am:p.aW=1∨p.aW=2->m.c.bf p.ak=i:=λh=>by
  have be:((m.abs msg val).aO p.src).step=1∨((m.abs msg val).aO p.src).step=6:=by
   have:((m.abs msg val).aO p.src).step=1∨((m.abs msg val).aO p.src).step=2∨((m.abs msg val).aO p.src).step=3∨((m.abs msg val).aO p.src).step=4∨((m.abs msg val).aO p.src).step=5∨((m.abs msg val).aO p.src).step=6:=V
   rw[z]at h;rcases this with e|e|e|e|e|e <;> simp[e,Ar]at h ⊢
  have aD:p.dst=m.c.bf p.ak:=by
   have h1:=zaj Pkt.dst p1;unfold bW.ask at h1;rcases be with e|e
   ·simpa [e]using h1
   ·simpa [e]using h1
  rw[<-aD];exact b1
 have bw:=MC ht;have ag:p.aW≠6->((m.abs msg val).aO p.src).step≠3:=λh e=>h (by rw[z,e];rfl);by_cases hk:p.aW=1∨p.aW=2
 ·have A:=am hk;have ag:=ag V;have aE:∀L,m.c.bf L=i->(m.abs msg val).own L=n.home.bn.owner L/\(m.abs msg val).ws L=n.home.bn.ws L/\(m.abs msg val).row L=iR n.home.dS L:=λL h=>by
   refine⟨?_,?_,?_⟩
   ·show(m.jJ L).bn.owner L=_;rw[oV M h]
   ·show(m.jJ L).bn.ws L=_;rw[oV M h]
   ·show iR (m.jJ L).dS L=_;rw[oV M h]
  have⟨ao,aw,ar⟩:=aE p.ak A;have aL:dZ (m.abs msg val).row p.ak (iR n.home.dS p.ak)=(m.abs msg val).row:=by rw[<-ar,nO]
  have bh:dZ (m.abs msg val).own p.ak (n.home.bn.owner p.ak)=(m.abs msg val).own:=by rw[<-ao,nO]
  have aM:dZ (m.abs msg val).ws p.ak (n.home.bn.ws p.ak)=(m.abs msg val).ws:=by rw[<-aw,nO]
  have F:¬((!(p.ok && YM (p.dst=(i:Int)) && YM (p.src<m.c.aF)) || (YM (p.aW≠1) && YM (p.aW≠2)))=Z0):=by
   rcases hk with h|h <;> simp[al,b1,w.2,h]
  rcases hk with R|aR
  ·by_cases u:n.home.bn.owner p.ak=-1/\n.home.bn.ws p.ak=[]
   ·have⟨t1,t2,t3⟩:=JQ (id:=p.id) Q.home.bn w.1 u.1 u.2;have hh:n.home.handle m.c i p=({ n.home with bn:=(n.home.bn.ask p.ak p.src p.id).1 },granted n.home.dS i p.ak p.src p.id,Z0,0):=by
     unfold Home.handle;rw[Ys F,Ys (by rw[A];omega),YY R];simp only[t1,zad]
    have v:n.asked m.c i D p=({ n with home:={ n.home with bn:=(n.home.bn.ask p.ak p.src p.id).1 } },(D.send (granted n.home.dS i p.ak p.src p.id)).1):=by
     unfold Node.asked;rw[YY (.inl R),hh];simp
    rw[v];have I':=G.abs.lock w aa R (by rw[ao];exact u.1);have⟨lw,W⟩:∃lw,Wf m.c.aF ((m.abs msg val).ent p.ak) ((m.abs msg val).row p.ak) ((m.abs msg val).val p.ak) lw:=by
     rcases G.abs.ak p.ak OL.1 OL.2 with⟨_,h⟩|⟨h,_⟩
     ·exact h
     ·have:=u.1;omega
    have a0:=W.rng.agF V;have a1:=W.st;have ap:=W.head;rw[ar]at a1 ap;have a3:=ad1 X M p.ak;have aq:(granted n.home.dS i p.ak p.src p.id).ok=true:=by
     exact VB V
    refine⟨_,⟨?_,Zn _ aq Z3 Z3 Z3⟩,zac⟩;show nU m.c ((m.with_ i { n with home:={ n.home with bn:=(n.home.bn.ask p.ak p.src p.id).1 } } _ t).abs _ val);rw[Gq (n':={ n with home:={ n.home with bn:=(n.home.bn.ask p.ak p.src p.id).1 } }) (msg:=msg) M (λ_=>rfl) Z3 A (λ_ _=>rfl) (λL' h=>by show(n.home.bn.ask p.ak p.src p.id).1.owner L'=_;rw[t2,Ys h]) (λL' h=>by show(n.home.bn.ask p.ak p.src p.id).1.ws L'=_;rw[t3])];simp only[aL,t2,t3,zad,aM];have a2:granted n.home.dS i p.ak p.src p.id=⟨7,m.c.bf p.ak,p.src,p.id,p.ak,((m.abs msg val).row p.ak).head,((m.abs msg val).row p.ak).state,ZV,((m.abs msg val).row p.ak).data⟩:=by
     rw[ar,A];rfl
    rw[a2];exact I'
   ·have bj:n.home.bn.owner p.ak≠-1∨n.home.bn.ws p.ak≠[]:=by
     by_cases h:n.home.bn.owner p.ak=-1
     ·exact .inr λh'=>u ⟨h,h'⟩
     ·exact .inl h
    have⟨t1,t2,t3⟩:=JR (id:=p.id) Q.home.bn w.1 bj;have hh:n.home.handle m.c i p=({ n.home with bn:=(n.home.bn.ask p.ak p.src p.id).1 },.zero,ZV,0):=by
     unfold Home.handle;rw[Ys F,Ys (by rw[A];omega),YY R];simp only[t1,Bool.false_eq_true,zaf]
    have v:n.asked m.c i D p=({ n with home:={ n.home with bn:=(n.home.bn.ask p.ak p.src p.id).1 } },D):=by
     unfold Node.asked;rw[YY (.inl R),hh];simp
    rw[v];have I':=G.abs.wait w aa R;have R2:pK D (dZ msg p.src .wait):=by
     have mi:∀j q,(dZ msg p.src .wait j=.req q↔dZ msg p.src .idle j=.req q)/\(dZ msg p.src .wait j=.ans q↔dZ msg p.src .idle j=.ans q):=λj q=>by
      by_cases h:j=p.src
      ·rw[h,aS,aS];exact⟨⟨λe=>(by cases e),λe=>(by cases e)⟩,⟨λe=>(by cases e),λe=>(by cases e)⟩⟩
      ·rw[aY h,aY h];exact⟨Iff.rfl,Iff.rfl⟩
     refine⟨λk q hq=>?_,R1.rn,R1.an,λj q h=>R1.rc j q ((mi j q).1.1 h),λj q h=>R1.ac j q ((mi j q).2.1 h),λj q h=>R1.src j q ((mi j q).1.1 h),λj q h=>R1.dst j q ((mi j q).2.1 h),λj q h=>R1.rg j q (h.imp (mi j q).1.1 (mi j q).2.1)⟩;have P:=R1.port k q hq;exact⟨λx K=>⟨(P.rq x K).1,(P.rq x K).2.1,(mi _ _).1.2 (P.rq x K).2.2⟩,λx K=>⟨(P.rin x K).1,(P.rin x K).2.1,(mi _ _).1.2 (P.rin x K).2.2⟩,λx K=>⟨(P.an x K).1,(P.an x K).2.1,(mi _ _).2.2 (P.an x K).2.2⟩,λx K=>⟨(P.ain x K).1,(P.ain x K).2.1,(mi _ _).2.2 (P.ain x K).2.2⟩⟩
    refine⟨_,⟨?_,R2⟩,zac⟩;show nU m.c ((m.with_ i { n with home:={ n.home with bn:=(n.home.bn.ask p.ak p.src p.id).1 } } _ t).abs _ val);rw[Gq (n':={ n with home:={ n.home with bn:=(n.home.bn.ask p.ak p.src p.id).1 } }) (msg:=msg) M (λ_=>rfl) Z3 A (λ_ _=>rfl) (λL' h=>by show(n.home.bn.ask p.ak p.src p.id).1.owner L'=_;rw[t2]) (λL' h=>by show(n.home.bn.ask p.ak p.src p.id).1.ws L'=_;rw[t3,Ys h])];simp only[aL,t2,t3,zad,bh];rw[<-aw];exact I'
  ·-- a ak is unlocked
   have⟨u1,u2,⟨lw,W⟩,u4,u5,I'⟩:=G.abs.unlock w aa aR;rw[ao]at u1;have⟨d,a4⟩:∃d,m.aF[p.src.toNat]?=ZC d:=⟨_,List.getElem?_eq_getElem (by have:=X.inv.len;omega)⟩
   have bk:((p.src.toNat:Nat):Int)=p.src:=V
   have y:(m.abs msg val).aO p.src=d.aO:=by
    have:=qh a4;rw[bk]at this;exact this
   have DS:=(X.inv.bC _ d a4).aO (by rw[<-y,u5];decide);have bl:d.aO.data=[]∨(d.aO.data.length:Int)=m.c.aP:=DS.dat.imp id λh=>h.1;have q1:p.state=d.aO.state:=by rw[u4,y];unfold bW.ask;rw[y]at u5;simp[u5]
   have q2:p.ptr=d.aO.head:=by rw[u4,y];unfold bW.ask;rw[y]at u5;simp[u5]
   have q3:p.flag=YM (d.aO.data≠[]):=by rw[u4,y];unfold bW.ask;rw[y]at u5;simp[u5]
   have q4:p.data=d.aO.data:=by rw[u4,y];unfold bW.ask;rw[y]at u5;simp[u5]
   have q5:(if p.flag then p.data else [])=d.aO.data:=by
    rw[q3,q4];by_cases h:d.aO.data=[]
    ·simp[h]
    ·simp[h]
   rw[y]at W I';have bm:wX m.c i p.ak=true:=by
    unfold wX;simp only[Bool.and_eq_true,zab];refine⟨⟨OL.1,OL.2⟩,?_⟩;have:=A;unfold Cfg.bf wV at this;rw[Ys V]at this;exact this
   have⟨C,a5⟩:=X.dS i n M p.ak bm;have bp:iR n.home.dS p.ak=C:=by unfold iR;rw[a5];rfl
   have a1:d.aO.state=0∨d.aO.state=1∨d.aO.state=2:=W.st;have a0:d.aO.head=hdI lw (-1):=W.head;have bx:=W.rng.agF V;have h0:d.aO.state=0↔d.aO.head=-1:=by
    rw[a0,W.rng.adG];exact W.st0
   have a6:jr m.c n.home.dS p.ak p.state p.ptr (if p.flag then p.data else [])=(lK n.home.dS p.ak (jd C d.aO),0):=by
    unfold jr;rw[a5,q1,q2,q5];simp only;rw[Ys V,Ys]
    ·rfl
    ·have e1:YM (d.aO.head=-1)=YM (d.aO.state=0):=by
      by_cases h:d.aO.state=0
      ·simp[h,h0.1 h]
      ·have:¬d.aO.head=-1:=λe=>h (h0.2 e);simp[h,this]
     rw[e1];rcases bl with h|h
     ·simp[h]
     ·simp[h]
   have⟨t1,t2,t3⟩:=Pn Q.home.bn w.1 u1;have bq:n.home.unlock m.c p=(⟨lK n.home.dS p.ak (jd C d.aO),(n.home.bn.release p.ak p.src).1⟩,0):=by
    unfold Home.unlock;rw[Ys (by rw[u1];simp)];simp only[a6,zad,t1]
   have hh:n.home.handle m.c i p=(⟨lK n.home.dS p.ak (jd C d.aO),(n.home.bn.release p.ak p.src).1⟩,⟨8,i,p.src,p.id,p.ak,0,0,ZV,[]⟩,Z0,0):=by
    unfold Home.handle;rw[Ys F,Ys (by rw[A];omega),Ys V];simp only[bq,zad]
   have v:n.asked m.c i D p=({ n with home:=⟨lK n.home.dS p.ak (jd C d.aO),(n.home.bn.release p.ak p.src).1⟩ },(D.send ⟨8,i,p.src,p.id,p.ak,0,0,ZV,[]⟩).1):=by
    unfold Node.asked;rw[YY (.inr aR),hh];simp
   rw[v];have aq:(⟨8,i,p.src,p.id,p.ak,0,0,ZV,[]⟩:Pkt).ok=true:=by
    exact VB (by simp only[List.length_nil];omega)
   refine⟨_,⟨?_,Zn _ aq Z3 Z3 Z3⟩,zac⟩;show nU m.c ((m.with_ i { n with home:=⟨lK n.home.dS p.ak (jd C d.aO),(n.home.bn.release p.ak p.src).1⟩ } _ t).abs _ val);rw[Gq (n':={ n with home:=⟨lK n.home.dS p.ak (jd C d.aO),(n.home.bn.release p.ak p.src).1⟩ }) (msg:=msg) M (λ_=>rfl) Z3 A (λL' h=>by show iR (lK _ _ _) L'=_;rw[LY,Ys h]) (λL' h=>by show(n.home.bn.release p.ak p.src).1.owner L'=_;rw[t2,Ys h]) (λL' h=>by show(n.home.bn.release p.ak p.src).1.ws L'=_;rw[t3])];have ax:iR (lK n.home.dS p.ak (jd C d.aO)) p.ak=jd ((m.abs msg val).row p.ak) d.aO:=by rw[LY,YY Z3,ar,bp]
   simp only[ax,t2,t3,zad,aM];rw[A]at I';exact I'
 ·-- a cache's requests
  have br:3<=p.aW/\p.aW<=6:=by
   unfold wB at b2;simp only[Bool.and_eq_true,zab]at b2;omega
  have⟨a7,H⟩:(m.abs msg val).own p.ak=p.src/\Hold m.c.aF (m.c.bf p.ak) ((m.abs msg val).ent p.ak) ((m.abs msg val).row p.ak) ((m.abs msg val).val p.ak) p.src ((m.abs msg val).aO p.src) (.req p):=by
   rcases p4 with⟨h,_⟩|⟨_,h,h'⟩
   ·exfalso;rw[h]at z;have:p.aW=1:=z;omega
   ·exact⟨h,h'⟩
  have⟨e,he,Sv⟩:=arG V H br;rw[b1]at he;have b:n.aJ.find p.ak=ZC e:=by rw[<-zV M];exact he
  have o:=SC b;have a8:=(ji Q.aJ.aT).1 b;have EO:=Q.aJ.ent e a8.1;have a3:e.data.length<=4:=Q.aJ.le hc e a8.1;have ae:¬((!p.ok || YM (p.aW<3) || YM (6<p.aW))=Z0):=by simp[al];omega
  have bt:(m.abs msg val).msg p.src≠.wait:=by rw[aa];exact λe=>by cases e
  -- what is common
  have af:∀(ca:Cache) (x:Z6 Ent) (q:Pkt),(∀L,L≠p.ak->ca.find L=n.aJ.find L)->ca.find p.ak=x->fQ n.aJ p=(ca,q,0)->q.ok=Z0->wB q.aW=ZV->q.src=i->q.dst=p.src->Hold m.c.aF (m.c.bf p.ak) (pV ((m.abs msg val).ent p.ak) p.dst x) ((m.abs msg val).row p.ak) ((m.abs msg val).val p.ak) p.src ((m.abs msg val).aO p.src) (.ans q)->((∃e',x=ZC e')/\p.aW≠6∨x=Z1)->
    ∃msg',GInv (m.with_ i (n.asked m.c i D p).1 (n.asked m.c i D p).2 t) msg' val/\True:=λca x q h1 h2 h3 h4 h5 h6 h7 H' h8=>by
   have v:n.asked m.c i D p=({ n with aJ:=ca },(D.send q).1):=by
    unfold Node.asked;rw[Ys hk,h3];simp
   rw[v];rw[b1]at H';have I':=G.abs.served w OL a7 (E:=pV ((m.abs msg val).ent p.ak) i x) (q:=q) (λj hj=>by
    by_cases a9:j=i
    ·rw[a9,he]at hj;cases hj
    ·rw[fJ a9];exact hj) H' bt
   refine⟨_,⟨?_,Zn q h4 h5 h6 h7⟩,zac⟩;show nU m.c ((m.with_ i { n with aJ:=ca } _ t).abs _ val);rw[xM (n':={ n with aJ:=ca }) (msg:=msg) (val:=val) M Z3 h1];simp only[h2];have bu:dZ m.vU i n.aO=m.vU:=by rw[<-qh M,nO]
   simp only[bu];exact I'
  cases Sv with
  |attach k H'=>
   have g:=yB (e:={ e with bJ:=ZV,back:=p.ptr }) (x:=e) Q.aJ.aT EO.lo (by rw[show({ e with bJ:=ZV,back:=p.ptr }:Ent).ak=e.ak from Z3,o];exact b);have ab:=nD (e:={ e with bJ:=ZV,back:=p.ptr }) (x:=e) Q.aJ.aT EO.lo (by rw[show({ e with bJ:=ZV,back:=p.ptr }:Ent).ak=e.ak from Z3,o];exact b);refine af (n.aJ.put { e with bJ:=ZV,back:=p.ptr }).1 (ZC { e with bJ:=ZV,back:=p.ptr }) _ (λL A=>by rw[g,Ys λh=>A (h.trans o)]) (by rw[g,YY o.symm]) ?_ ?_ Z3 b1 Z3 H' (.inl ⟨⟨_,Z3⟩,V⟩)
   ·unfold fQ;rw[Ys ae,b];simp only[k,zad];rw[ab];simp[D8]
   ·exact VB V
  |front k H'=>
   have g:=yB (e:={ e with fwd:=p.ptr }) (x:=e) Q.aJ.aT EO.lo (by rw[show({ e with fwd:=p.ptr }:Ent).ak=e.ak from Z3,o];exact b);have ab:=nD (e:={ e with fwd:=p.ptr }) (x:=e) Q.aJ.aT EO.lo (by rw[show({ e with fwd:=p.ptr }:Ent).ak=e.ak from Z3,o];exact b);refine af (n.aJ.put { e with fwd:=p.ptr }).1 (ZC { e with fwd:=p.ptr }) _ (λL A=>by rw[g,Ys λh=>A (h.trans o)]) (by rw[g,YY o.symm]) ?_ ?_ Z3 b1 Z3 H' (.inl ⟨⟨_,Z3⟩,V⟩)
   ·unfold fQ;rw[Ys ae,b];simp only[k];rw[Ys J,YY zac,ab];simp[D8]
   ·exact VB (by simp only[List.length_nil];omega)
  |behind k H'=>
   have g:=yB (e:={ e with back:=p.ptr }) (x:=e) Q.aJ.aT EO.lo (by rw[show({ e with back:=p.ptr }:Ent).ak=e.ak from Z3,o];exact b);have ab:=nD (e:={ e with back:=p.ptr }) (x:=e) Q.aJ.aT EO.lo (by rw[show({ e with back:=p.ptr }:Ent).ak=e.ak from Z3,o];exact b);refine af (n.aJ.put { e with back:=p.ptr }).1 (ZC { e with back:=p.ptr }) _ (λL A=>by rw[g,Ys λh=>A (h.trans o)]) (by rw[g,YY o.symm]) ?_ ?_ Z3 b1 Z3 H' (.inl ⟨⟨_,Z3⟩,V⟩)
   ·unfold fQ;rw[Ys ae,b];simp only[k];rw[Ys J,Ys J,YY zac,ab];simp[D8]
   ·exact VB (by simp only[List.length_nil];omega)
  |EJ k bz H'=>
   have ba:=BZ (ak:=p.ak) Q.aJ.aT;refine af (n.aJ.drop p.ak) Z1 _ (λL A=>by rw[ba,Ys A]) (by rw[ba,YY Z3]) ?_ ?_ Z3 b1 Z3 H' (.inr Z3)
   ·unfold fQ;rw[Ys ae,b];simp only[k];rw[Ys J,Ys J,Ys J];simp[D8]
   ·exact VB V
end
def Hold.data {N hm:Int}{E:sK}{r:Row}{v:Q Int}{i:Int}{d:bW}{o:Out}(H:Hold N hm E r v i d o){j:Int}{e:Ent}(b:E j=ZC e):e.data=v:=by
 cases H with
 |granted _ W=>exact W.data j e b
 |attach _ _ _ _ W=>exact W.data j e b
 |attached _ _ _ _ _ _ _ _ X _=>exact X j e b
 |EJ _ _ L _ _=>exact L.data j e b
 |BP _ _ L _ _=>exact L.data j e b
 |front _ _ M _ _ _ _ _=>exact M.data j e b
 |vS _ _ M _ _ _ _ _ _=>exact M.data j e b
 |behind _ _ M _ _ _ _ _ _=>exact M.data j e b
 |qg _ _ M _ _ _ _ _ _=>exact M.data j e b
 |unlock _ W=>exact W.data j e b
def nU.data {c:Cfg}{a:Abs}(I:nU c a){L j:Int}(b:0<=L/\L<c.aT){e:Ent}(d:a.ent L j=ZC e):e.data=a.val L:=by
 rcases I.ak L b.1 b.2 with⟨_,l,W⟩|⟨_,_,_,H⟩
 ·exact W.data j e d
 ·exact Hold.data H d
section
variable {m:dh}{T:Nat}{i:Nat}{n n1:Node}{f:Fab}{t:List Evn}{msg msg':Int->Out}{val val':Int->List Int}
def GInv.idle(X:MX T m)(G:GInv m msg val)(b:m.aF[i]?=ZC n)(h0:n.aO.step=0):msg i=.idle:=by
 have hi:=X.range b;have hd:(m.abs msg val).aO i=n.aO:=qh b;rcases G.abs.bC i hi.1 hi.2 with⟨_,h⟩|O
 ·exact h
 ·have:=O.step;rw[hd]at this;exact absurd h0 this
def GInv.begin_(X:MX T m)(G:GInv m msg val)(d:m.aF[i]?=ZC n)(h0:n.aO.step=0)(y:n1.aJ=n.aJ)(z:n1.home=n.home)(A:n1.num=n.num){k L:Int}(hk:1<=k/\k<=3)(v:0<=L/\L<m.c.aT)(hm:k=1->n.aJ.find L=Z1)(C:k=3->n.aJ.find L≠Z1):
  ∃msg',GInv (m.with_ i (n1.begin_ m.c i m.fab k L).1 (n1.begin_ m.c i m.fab k L).2 t) msg' val/\True:=by
 have hc:=X.inv.ok;have hi:=X.range d;have g:=X.bC i n d;have hd:(m.abs msg val).aO i=n.aO:=qh d;have b:=G.idle X d h0;have j:0<=n.num/\n.num<4096:=⟨g.Zh,g.num1⟩
 have D:=G.abs.begin_ (L:=L) (k:=k) (id:=n.num) hi (by rw[hd];exact h0) hk j v (λh=>by rw[<-hm h];exact zV d L);have⟨E,F,u,H,K⟩:=adI hc hi (k:=k) v j;have o:1<=m.fab.out:=by
  have:=(lu hc).2.2.2.2.2.1;rw[X.inv.fab.out];exact this.1
 have w:=G.pk.arv (p:=(bW.begin k L n.num).ask i (m.c.bf L)) (by rw[u,b];exact λq e=>by cases e) (by rw[u,b];exact λq e=>by cases e) E F (by rw[u];exact X.is hi W) (X.is ⟨H,K⟩ W) o;rw[u]at w;have hb:n1.begin_ m.c i m.fab k L=({ n1 with aO:=bW.begin k L n.num,num:=(n.num+1).tmod 4096 },(m.fab.send ((bW.begin k L n.num).ask i (m.c.bf L))).1):=by
  unfold Node.begin_ Node.ame;simp only[A];rfl
 rw[hb];refine⟨_,⟨?_,w.2⟩,zac⟩;show nU m.c ((m.with_ i { n1 with aO:=bW.begin k L n.num,num:=(n.num+1).tmod 4096 } _ t).abs _ val);rw[Gv (n':={ n1 with aO:=bW.begin k L n.num,num:=(n.num+1).tmod 4096 }) (msg:=msg) (val:=val) d z (λM=>by show n1.aJ.find M=_;rw[y])];exact D
def MF {c:Cfg}{P:Int->Nat->M Opn}{t:Q Evn}{b:Bool}{k:Nat}{o:Opn}{j:Int}(d:P j k=ZC o):zW c P t val ((if b then t else t++[⟨j,k,ZV,0⟩])++[⟨j,k,Z0,(lq c o val).2⟩]) (lq c o val).1:=by
 cases b with
 |true=>exact .done j k o d .same
 |false=>exact .done j k o d (.fD j k .same)
def vV {c:Cfg}{P:Int->Nat->M Opn}{t:Q Evn}{b:Bool}{k:Nat}{j:Int}:zW c P t val (if b then t else t++[⟨j,k,ZV,0⟩]) val:=by
 cases b with
 |true=>exact .same
 |false=>exact .fD j k .same
def GInv.work(X:MX T m)(G:GInv m msg val)(q:m.aF[i]?=some n)(h0:n.aO.step=0){o:Opn}(o1:n.bU.cur=some o):
  ∃msg' val',GInv (m.with_ i (n.work m.c i m.fab m.trace o).1 (n.work m.c i m.fab m.trace o).2.1 (n.work m.c i m.fab m.trace o).2.2) msg' val'/\zW m.c m.opAt m.trace val (n.work m.c i m.fab m.trace o).2.2 val'/\True:=by
 have hc:=X.inv.ok;have hi:=X.range q;have A:=X.inv.bC i n q;have w:=A.bU.right o (List.mem_of_getElem? o1);have R:=arY hc w.1;have hL:0<=m.c.bZ o.addr/\m.c.bZ o.addr<m.c.aT:=⟨R.lo,R.hi⟩
 have hP:=Pv q o1;have hd:(m.abs msg val).aO i=n.aO:=qh q;unfold Node.work;simp only;obtain⟨n1,g⟩:∃n1:Node,n1={ n with bU:={ n.bU with fD:=true } }:=⟨_,rfl⟩
 have v:n1.aJ=n.aJ:=by rw[g]
 have W:n1.home=n.home:=by rw[g]
 have c3:n1.aO=n.aO:=by rw[g]
 have c4:n1.num=n.num:=by rw[g]
 have c5:n1.bU.cur=some o:=by rw[g];exact o1
 have c6:n1.bU.bI=n.bU.bI:=by rw[g]
 rw[<-g,show n.aJ=n1.aJ from v.symm];have c7:n1.bU.fD=true:=by rw[g]
 have C:n1.bU.idx=n.bU.bI.length:=by unfold Proc.idx;rw[c5,c6]
 have ai:n1.bU.op=o:=by unfold Proc.op;rw[c5];rfl
 obtain⟨D,j⟩:∃D,D=(if n.bU.fD=true then m.trace else m.trace++[⟨i,n.bU.bI.length,false,0⟩]):=⟨_,rfl⟩
 rw[<-j];by_cases k1:o.aW=4/\n1.aJ.find (m.c.bZ o.addr)=none
 ·rw[if_pos k1];have al:lq m.c o val=(val,0):=by
   unfold lq;rw[if_neg V,if_neg V,if_neg V]
  refine⟨msg,val,⟨?_,G.pk⟩,?_,trivial⟩
  ·show nU m.c ((m.with_ i { n1 with bU:=n1.bU.Dc 0 } m.fab _).abs msg val);rw[Gv (n':={ n1 with bU:=n1.bU.Dc 0 }) (msg:=msg) (val:=val) q W (λL'=>by show n1.aJ.find L'=_;rw[v])];have:dZ m.vU i n1.aO=m.vU:=by rw[c3,<-qh q,nO]
   simp only[this];exact G.abs
  ·have:=MF (c:=m.c) (t:=m.trace) (val:=val) (b:=n.bU.fD) hP;rw[al]at this;unfold Node.done;rw[C,j];exact this
 rw[if_neg k1];by_cases k2:o.aW=4
 ·rw[if_pos k2];obtain⟨msg',G',F⟩:=G.begin_ (n1:=n1) (k:=3) (t:=D) X q h0 v W c4 ⟨J,J⟩ hL (λh=>absurd h J) (λ_ h=>k1 ⟨k2,v ▸ h⟩);exact⟨msg',val,G',by rw[j];exact vV,F⟩
 rw[if_neg k2];by_cases k3:(n1.aJ.find (m.c.bZ o.addr)).isSome=true/\(o.aW=1∨((n1.aJ.find (m.c.bZ o.addr)).getD .zero).bJ=true)
 ·rw[if_pos k3];obtain⟨e,he⟩:=Option.isSome_iff_exists.1 k3.1;have z:n.aJ.find (m.c.bZ o.addr)=some e:=by rw[<-v];exact he
  have H:=k3.2;rw[he]at H;simp only[Option.getD_some]at H;have u:=(ji A.aJ.aT).1 z;have EO:=A.aJ.ent e u.1;have aa:o.aW=1∨((o.aW=2∨o.aW=3)/\e.bJ=true):=by
   rcases H with h|h
   ·exact .inl h
   ·by_cases h1:o.aW=1
    ·exact .inl h1
    ·exact .inr ⟨by have:=R.k1;have:=R.k4;omega,h⟩
  have ab:(m.abs msg val).ent (m.c.bZ o.addr) i=some e:=by
   show m.jO _ i=_;rw[zV q];exact z
  have K:=G.abs.data hL ab;obtain⟨d,p⟩:∃d:Ent,d={ e with used:=n.aJ.dN+1 }:=⟨_,rfl⟩
  have ar:=EO.dat.1;have d1:d.data=e.data:=by rw[p]
  have d2:d.back=e.back:=by rw[p]
  have d3:d.fwd=e.fwd:=by rw[p]
  have d4:d.bJ=e.bJ:=by rw[p]
  have d5:d.ak=e.ak:=by rw[p]
  obtain⟨w1,w2,w3,w4,w5,w6,w7⟩:=adJ (c:=m.c) (val:=val) (e:=d) (by rw[d4];exact aa) (by rw[d1];exact K) (by rw[d1];have:=R.wlo;have:=R.whi;omega);have y:=qU d o (m.c.dH o.addr);have M:=Zo A.aJ.aT z;have TI:=A.aJ.touch z;have E:=yB TI.aT (e:=fA d o (m.c.dH o.addr)) (x:=d) (by rw[y.1,d5];exact EO.lo) (by rw[y.1,d5,M,if_pos u.2,p]);have Q:({ fA d o (m.c.dH o.addr)with used:=d.used }:Ent)=fA d o (m.c.dH o.addr):=by rw[<-y.2.1]
  have ad:(fA d o (m.c.dH o.addr)).ak=m.c.bZ o.addr:=by rw[y.1,d5];exact u.2
  have ae:({ n1 with aJ:=n1.aJ.touch (m.c.bZ o.addr) }:Node).effect m.c i D=({ n1 with aJ:=((n.aJ.touch (m.c.bZ o.addr)).put (fA d o (m.c.dH o.addr))).1,bU:=n1.bU.Dc (if o.aW=2 then 0 else d.word (m.c.dH o.addr)) },D++[⟨i,n.bU.bI.length,true,if o.aW=2 then 0 else d.word (m.c.dH o.addr)⟩]):=by
   unfold Node.effect Node.done;have af:({ n1 with aJ:=n1.aJ.touch (m.c.bZ o.addr) }:Node).bU.op=o:=ai;simp only[af,C,v,M,if_true,Option.getD_some,<-p]
  have am:({ aJ:=n1.aJ.touch (m.c.bZ o.addr),bU:={ ops:=n.bU.ops,bI:=n.bU.bI,fD:=true },home:=n.home,aO:=n.aO,num:=n.num }:Node)={ n1 with aJ:=n1.aJ.touch (m.c.bZ o.addr) }:=by rw[g]
  rw[am,ae];have hx:((n.aJ.touch (m.c.bZ o.addr)).put (fA d o (m.c.dH o.addr))).1.find (m.c.bZ o.addr)=some (fA d o (m.c.dH o.addr)):=by
   rw[E,if_pos ad.symm,Q]
  have ao:(lq m.c o val).1 (m.c.bZ o.addr)≠[]:=by
   rw[<-w1];intro h;have h1:=y.2.2.2;have:=(lu hc).2.2.1;rw[h,d1]at h1;simp only[List.length_nil]at h1;omega
  refine⟨msg,(lq m.c o val).1,⟨?_,G.pk⟩,?_,trivial⟩
  ·show nU m.c ((m.with_ i { n1 with aJ:=((n.aJ.touch (m.c.bZ o.addr)).put (fA d o (m.c.dH o.addr))).1,bU:=n1.bU.Dc (if o.aW=2 then 0 else d.word (m.c.dH o.addr)) } m.fab _).abs msg _);rw[xM (n':={ n1 with aJ:=((n.aJ.touch (m.c.bZ o.addr)).put (fA d o (m.c.dH o.addr))).1,bU:=n1.bU.Dc (if o.aW=2 then 0 else d.word (m.c.dH o.addr)) }) (msg:=msg) (val:=val) q W (L:=m.c.bZ o.addr) (λL' h=>by
    show((n.aJ.touch _).put _).1.find L'=_;rw[E,if_neg λh'=>h (h'.trans ad),M,if_neg h])]
   have ap:dZ m.vU i n1.aO=m.vU:=by rw[c3,<-qh q,nO]
   simp only[hx,ap];have I':=G.abs.hit (L:=m.c.bZ o.addr) (e:=e) (e':=fA d o (m.c.dH o.addr)) (v':=(lq m.c o val).1 (m.c.bZ o.addr)) hi (by rw[hd];exact h0) hL ab (w4.trans d2) (w5.trans d3) (w6.trans d4) (by
    rcases aa with h|⟨_,h⟩
    ·refine .inl ⟨by rw[w7 h,d1],?_⟩;unfold lq;rw[if_pos h];rfl
    ·exact .inr ⟨h,w1⟩) ao
   have aq:dZ (m.abs msg val).val (m.c.bZ o.addr) ((lq m.c o val).1 (m.c.bZ o.addr))=(lq m.c o val).1:=by
    funext L
    by_cases h:L=m.c.bZ o.addr
    ·rw[h,aS]
    ·rw[aY h,w2 L h];rfl
   rw[aq]at I';exact I'
  ·rw[w3,j];exact MF hP
 rw[if_neg k3];by_cases k4:n1.aJ.full (m.c.bZ o.addr)=true
 ·rw[if_pos k4];rw[v]at k4;have ag:n.aJ.vw (m.c.bZ o.addr)≠[]:=by
   intro e;unfold Cache.full at k4;simp only[e,List.length_nil,Bool.and_eq_true,decide_eq_true_eq]at k4;have:=(lu hc).2.2.2.2.1;rw[A.aJ.ways]at k4;omega
  obtain⟨e,he⟩:∃e,zG (n.aJ.vw (m.c.bZ o.addr))=some e:=by
   cases h:n.aJ.vw (m.c.bZ o.addr)with
   |nil=>exact absurd h ag
   |cons a l=>exact⟨_,rfl⟩
  have hv:n.aJ.qI (m.c.bZ o.addr)=some e.ak:=by unfold Cache.qI;rw[he];rfl
  have u:e∈n.aJ.l:=by
   have:=(Ed he).1;unfold Cache.vw at this;exact(List.mem_filter.1 this).1
  have EO:=A.aJ.ent e u;rw[v,hv];simp only[Option.getD_some];obtain⟨msg',G',F⟩:=G.begin_ (n1:=n1) (k:=3) (L:=e.ak) (t:=D) X q h0 v W c4 ⟨J,J⟩ ⟨EO.lo,EO.hi⟩ (λh=>absurd h J) (λ_ h=>nomatch ((ji A.aJ.aT).2 ⟨u,rfl⟩:n.aJ.find e.ak=some e).symm.trans h);exact⟨msg',val,G',by rw[j];exact vV,F⟩
 rw[if_neg k4];by_cases k5:o.aW=1
 ·rw[if_pos k5];obtain⟨msg',G',F⟩:=G.begin_ (n1:=n1) (k:=1) (t:=D) X q h0 v W c4 ⟨J,J⟩ hL (λ_=>by
   cases h:n.aJ.find (m.c.bZ o.addr)with
   |none=>rfl
   |some e=>exact absurd ⟨by rw[v,h];rfl,.inl k5⟩ k3) (λh=>absurd h J)
  exact⟨msg',val,G',by rw[j];exact vV,F⟩
 ·rw[if_neg k5];obtain⟨msg',G',F⟩:=G.begin_ (n1:=n1) (k:=2) (t:=D) X q h0 v W c4 ⟨J,J⟩ hL (λh=>absurd h J) (λh=>absurd h J);exact⟨msg',val,G',by rw[j];exact vV,F⟩
def Ya(X:MX T m)(d:m.aF[i]?=ZC n)(h:m.fab.roomOf i ZV≠0):0<m.fab.roomOf i false:=by
 have hi:=X.range d;have b:=X.is hi (f:=m.fab) W;have P:=(X.inv.fab.get b).an;unfold Fab.roomOf at h ⊢;rw[y b]at h ⊢;rw[X.inv.fab.out]at h ⊢;simp only[Port.sort,Bool.false_eq_true,zaf]at h ⊢;omega
def GInv.step(X:MX T m)(G:GInv m msg val)(j:Int):∃msg' val',GInv (m.step j).1 msg' val'/\zW m.c m.opAt m.trace val (m.step j).1.trace val'/\True:=by
 unfold dh.step;cases d:m.bC j with
 |none=>exact⟨msg,val,G,.same,zac⟩
 |some n=>
  simp only;have A:0<=j/\m.aF[j.toNat]?=ZC n:=by
   unfold dh.bC at d;split at d
   ·exact⟨by assumption,d⟩
   ·cases d
  obtain⟨i,rfl⟩:∃i:Nat,j=i:=⟨j.toNat,V⟩
  rw[Int.toNat_natCast]at A ⊢;have e:=A.2;have key:∃msg' val',GInv (m.with_ i (n.step m.c i m.fab m.trace).1.1 (n.step m.c i m.fab m.trace).1.2.1 (n.step m.c i m.fab m.trace).1.2.2) msg' val'/\zW m.c m.opAt m.trace val (n.step m.c i m.fab m.trace).1.2.2 val'/\True:=by
   unfold Node.step;cases C:m.fab.take i ZV with
   |mk E D=>
    cases D with
    |some p=>
     have⟨msg',val',G',v,F⟩:=G.answered X e C;exact⟨msg',val',G',v,zac⟩
    |none=>
     simp only;by_cases q:n.home.ready≠[]/\m.fab.roomOf i ZV≠0
     ·rw[YY q];have⟨msg',G',F⟩:=G.grant (t:=m.trace) X e q.1 (Ya X e q.2);exact⟨msg',val,G',.same,zac⟩
     ·rw[Ys q];cases u:(if m.fab.roomOf i ZV=0 then(m.fab,Z1)else m.fab.take i Z0)with
      |mk H w=>
       cases w with
       |some p=>
        simp only;have g:m.fab.roomOf i ZV≠0:=λh=>by rw[YY h]at u;cases u
        rw[Ys g]at u;have⟨msg',G',F⟩:=G.asked (t:=m.trace) X e u (Ya X e g);exact⟨msg',val,G',.same,zac⟩
       |none=>
        simp only;have b:GInv (m.with_ i n m.fab m.trace) msg val:=by
         have:m.with_ i n m.fab m.trace=m:=by
          unfold dh.with_;have:m.aF.set i n=m.aF:=by
           apply List.ext_getElem?
           intro k;by_cases h:i=k
           ·rw[<-h,List.getElem?_set_self (List.getElem?_eq_some_iff.1 e).1,e]
           ·rw[List.getElem?_set_ne h]
          rw[this]
         rw[this];exact G
        cases y:n.bU.cur with
        |none=>exact⟨msg,val,b,.same,zac⟩
        |some o=>
         simp only;by_cases z:n.aO.step=0
         ·rw[YY z];have⟨msg',val',G',v,F⟩:=G.work X e z y;exact⟨msg',val',G',v,zac⟩
         ·rw[Ys z];exact⟨msg,val,b,.same,zac⟩
  exact key
def GInv.do_(X:MX T m)(G:GInv m msg val)(p:Pck):∃msg' val',GInv (m.do_ p).1 msg' val'/\zW m.c m.opAt m.trace val (m.do_ p).1.trace val'/\True:=by
 unfold dh.do_;split
 ·refine⟨msg,val,⟨?_,?_⟩,.same,zac⟩
  ·have:(m.deliver p.at_ p.bit p.mask).1.abs msg val=m.abs msg val:=rfl;rw[this];exact G.abs
  ·exact G.pk.deliver X.dst.all _ _ _
 ·have⟨msg',val',G',b,F⟩:=G.step X p.at_;exact⟨msg',val',G',b,zac⟩
def agG {c:Cfg}(hc:c.ok=Z0){ps:Q (Q Opn)}(hp:(ps.length:Int)=c.aF):GInv (dh.new c ps) (λ_=>.idle) c.first:=by
 have⟨cn,cl,cw,_⟩:=lu hc;have bC:∀j:Int,0<=j->j<c.aF->∃l,(dh.new c ps).bC j=ZC (.new c j l):=λj h0 h1=>by
  obtain⟨k,rfl⟩:∃k:Nat,j=k:=⟨j.toNat,by omega⟩
  have hk:k<ps.length:=by omega
  refine⟨ps[k],?_⟩;unfold dh.bC dh.new;rw[y h0,Int.toNat_natCast];simp[List.getElem?_mapIdx,List.getElem?_eq_getElem hk]
 have out:∀j:Int,¬(0<=j/\j<c.aF)->(dh.new c ps).bC j=none:=λj h=>by
  unfold dh.bC dh.new;by_cases h0:0<=j
  ·rw[y h0];simp only;rw[List.getElem?_eq_none];rw[List.length_mapIdx];omega
  ·rw[F h0]
 have any:∀j:Int,(∃l,(dh.new c ps).bC j=ZC (.new c j l))∨(dh.new c ps).bC j=none:=λj=>by
  by_cases h:0<=j/\j<c.aF
  ·exact .inl (bC j h.1 h.2)
  ·exact .inr (out j h)
 have ent:∀L j,(dh.new c ps).jO L j=none:=λL j=>by
  unfold dh.jO;rcases any j with⟨l,h⟩|h
  ·rw[h];rfl
  ·rw[h];rfl
 have own:∀L,((dh.new c ps).jJ L).bn=⟨[],[]⟩:=λL=>by
  unfold dh.jJ;rcases any ((dh.new c ps).c.bf L)with⟨l,h⟩|h
  ·rw[h];rfl
  ·rw[h]
 have aO:∀j,((dh.new c ps).vU j).step=0:=λj=>by
  unfold dh.vU;rcases any j with⟨l,h⟩|h
  ·rw[h];rfl
  ·rw[h];rfl
 have row:∀L,0<=L->L<c.aT->iR ((dh.new c ps).jJ L).dS L=⟨0,-1,c.first L⟩:=λL h0 h1=>by
  have hh:=L6 hc h0;have⟨l,h⟩:=bC (c.bf L) hh.1 hh.2;unfold dh.jJ;have hcc:(dh.new c ps).c=c:=rfl;rw[hcc,h];unfold iR;show(jw (c.jK (c.bf L) c.aT.toNat) L).getD .zero=_;rw[BN,y ⟨h0,by omega,W⟩];rfl
 have first:∀L,0<=L->L<c.aT->c.first L≠[]:=λL h0 h1 e=>by
  have:=zaj List.length e;unfold Cfg.first at this
  rw[F (by omega)]at this;simp only[List.length_map,List.length_range,List.length_nil]at this;omega
 refine⟨⟨λL h0 h1=>.inl ⟨?_,[],?_⟩,λj _ _=>.inl ⟨aO j,W⟩,λL=>?_,first,λL _=>?_⟩,?_⟩
 ·show((dh.new c ps).jJ L).bn.owner L=-1;rw[own];rfl
 ·show Wf c.aF ((dh.new c ps).jO L) (iR ((dh.new c ps).jJ L).dS L) (c.first L) [];rw[row L h0 h1];exact⟨⟨List.nodup_nil,λj hj=>(by cases hj)⟩,zac,λj e h=>(by rw[ent]at h;cases h),W,.inl W,(by simp),λh=>absurd (show(0:Int)=2 from h) (by decide),λj e h=>(by rw[ent]at h;cases h),λj e h=>(by rw[ent]at h;cases h),λ_=>rfl⟩
 ·have hw:((dh.new c ps).abs (λ_=>.idle) c.first).ws L=[]:=by
   show((dh.new c ps).jJ L).bn.ws L=[]
   rw[own];rfl
  exact⟨by rw[hw];exact List.nodup_nil,λw h=>(by rw[hw]at h;cases h)⟩
 ·show((dh.new c ps).jJ L).bn.owner L=-1;rw[own];rfl
 ·have port:∀p∈(dh.new c ps).fab.l,p=.zero:=λp h=>List.eq_of_mem_replicate h;have hr:BQ (dh.new c ps).fab=[]:=List.flatMap_eq_nil_iff.2 λp h=>by rw[port p h];rfl
  have ha:BR (dh.new c ps).fab=[]:=List.flatMap_eq_nil_iff.2 λp h=>by rw[port p h];rfl
  refine⟨λk q h=>?_,by rw[hr];exact List.nodup_nil,by rw[ha];exact List.nodup_nil,λ_ _ h=>(by cases h),λ_ _ h=>(by cases h),λ_ _ h=>(by cases h),λ_ _ h=>(by cases h),λ_ _ h=>(by rcases h with h|h <;> cases h)⟩;rw[port q (List.mem_of_getElem? h)];exact⟨λp h=>(by cases h),λp h=>(by cases h),λp h=>(by cases h),λp h=>(by cases h)⟩
end
def Zx:Cfg:=⟨2,1,1,1,1,1,1,[]⟩
def ad2 {w:Q Int}(hw:w.length<=1000):SV w:=λH=>by
 by_cases d:w=[]
 ·rw[d];exact adQ H
 let H1:=H.new (.blk 0 22 [dat w]);have e:H1.get H.next=.blk 0 22 [dat w]:=aK W
 refine⟨.fn (.func 87) [] [.ref H.next 0 0],H1,bg W W (anW _ _ _ ?_),?_,Step.new _ (Nat.le_refl _)⟩
 ·have g:fK 22 (dat w) H=ZC (.ref H.next 0 0,H1):=by
   have b:=sU (l:=w);rw[V5 (by rw[b.1];simp[b.2]) J,b.1]
  simp only[xq_,akA,g]
  try rfl
 ·refine zq (p:=sW yU rW) W ?_;rw[qN d]at e;have hc:True/\22<gW/\87≠0/\87∈rW/\True/\w.length<=1000:=⟨zac,by unfold gW;decide,J,by simp[rW],zac,hw⟩
  unfold sW;simp only[e,Iw];rw[y hc,XK]
def dh.amh(m:dh)(ps:Q (Q Opn)):Bool:=match zX m.c ps m.trace with
 |none=>ZV
 |some ws=>m.valuesB ws
section
variable {b:Nat}{H:ah}{g:bG}{A:Adr}{m:dh}{T:Nat}
def Zy(X:MX T m)(L:Int)(w:Q Int)(h:m.walk L=ZC w):SV w:=by
 by_cases b:m.isL L=Z0
 ·refine ad2 ?_;have⟨d,g⟩:=adM h;have:=Cc (N:=m.aF.length) d λi hi=>by
   have⟨e,j⟩:=(oK b).1 (g i hi);exact Jz j
  have:=X.len.2;omega
 ·unfold dh.walk at h;rw[F b]at h;cases h
def JD {ps:Q (Q Opn)}:∀{l:Q Evn} {ws b:Q Int},JU ps l ws=ZC b->b.length=ws.length
 |[],_,_,h=>by cases h;rfl
 |e::l,ws,b,h=>by
  unfold JU at h;split at h
  ·cases h
  ·split at h
   ·exact JD h
   ·split at h
    ·rw[JD h,SY]
    ·cases h
def ad3 {c:Cfg}(hc:c.ok=Z0){ps:Q (Q Opn)}{l:Q Evn}{ws:Q Int}(h:zX c ps l=ZC ws):(ws.length:Int)=c.fG:=by
 unfold zX at h;split at h
 ·rw[JD h];exact(JC hc).len
 ·cases h
def Yb(X:MX T m):m.trace.length<=100000:=by
 have:=adA X.inv;omega
def MG(G:Good b H g)(M:gy g A m)(X:MX T m){p:AV}{ps:Z2 (Z2 Opn)}(h:ps.length<1000)(j:∀l∈ps,l.length<1000)(w:∀K:ah,H.next<=K.next->(∀r,r<H.next->K.get r=H.get r)->OG K p ps):cl 19 [.ref A.jL 0 0,p] H=ZC (B (m.amh ps),H):=by
 have e:∀H1 ev,Step H.next H.guard H1->aH H1 ev 4 m.trace.length (m.trace.flatMap Evn.av)->cl 56 [.agg m.c.av,p,ev] H1=ZC (dat ((zX m.c ps m.trace).getD []),H1):=λH1 ev s d=>adX H1 X.inv.ok (w H1 s.next s.low) h j d (Yb X)
 unfold dh.amh;cases k:zX m.c ps m.trace with
 |some ws=>
  rw[k]at e;exact Zw G M X (ad3 X.inv.ok k) e
 |none=>
  rw[k]at e;refine bD Z3 Z3 (anL _ _ _ _) ?_ fC;have y:=qp X.inv.ok;have z:=y.fG;let H1:=H.guard.new (.blk 0 31 m.c.av);have C:Step H.next H.guard H1:=Step.new _ (Nat.le_refl _)
  have u:Good b H1 g:=G.guard.new _;have D:H1.get H.next=.blk 0 31 m.c.av:=aK Z3
  have E:=mP G.guard M X.inv.ok;have n:H.guard.base<=H.guard.next:=Nat.le_refl _
  have o:st 8 (.ref H.next 0 0) (.agg m.c.av) (H.guard.new (.blk 0 31 [zI,zI,zI,zI,zI,zI,zI,zN]))=ZC (aX,H1):=by
   have q:=eF m.c;show st 8 (.ref H.guard.next 0 0) _ _=_;rw[pR Z3];have F:(AV.agg m.c.av).cells=m.c.av:=rfl;have L:m.c.av.length=8:=rfl;rw[F,L,YY ⟨n,Z3,q,Nat.le_refl _⟩];rfl
  have Q:=gU D;have lt:=u.load M.jL (i:=1) (x:=.ref A.trace 0 0) Z3;have⟨ev,R,d⟩:=zQ u.guard M.trace X.trl;have v:=e H1 ev C (d H1);have W:lnS (dat (([]:Z2 Int))) H1=ZC (I 0,H1):=(gJ H1 []).lnS;have e4:=OE H1 m.c X.inv.ok;have hz:¬(0:Int)=m.c.fG:=by unfold Cfg.fG;omega
  rw[Option.getD_none]at v;simp only[xq_,aks,E,o,Q,lt,R,v,W,e4,hz,Bool.not_false]
def Tf(G:Good b H g)(M:gy g A m)(X:MX T m){p:AV}{ps:Q (Q Opn)}(d:ps.length<1000)(e:∀l∈ps,l.length<1000)(i:∀K:ah,H.next<=K.next->(∀r,r<H.next->K.get r=H.get r)->OG K p ps):cl 18 [.ref A.jL 0 0,p] H=ZC (B (m.Me && ((zX m.c ps m.trace).isSome && m.amh ps)),H):=
 adZ G M X (Zy X) (λH1 ev s h=>adW H1 X.inv.ok (i H1 s.next s.low) d e h (Yb X)) λH1 s=>
  MG (G.guard.ext s.next s.low) M X d e λK n' k=>i K (Nat.le_trans s.next n') λr j=>(k r (Nat.lt_of_lt_of_le j s.next)).trans (s.low r j)
end
def agH(H:ah):cl 14 [] H=ZC (B Z0,H):=by
 have hc:Zx.ok=true:=J
 have F:Zx.nR [[],[]]=true:=J
 have R:(([[],[]]:Z2 (Z2 Opn)).length:Int)=Zx.aF:=rfl;have w:Zx.av=[I 2,I 1,I 1,I 1,I 1,I 1,I 1,zN]:=by simp[Zx,Cfg.av,dat,gu]
 let j:=H.guard.new (.blk 0 62 [zN,zN]);have k:∀K:ah,OG (K.new (.blk 0 62 [zN,zN])) (.sl K.next 0 0 1 2 2 Z0) [[],[]]:=λK=>⟨[zN,zN],jZ (n:=2) (m:=1) (l:=[zN,zN]) Z3,λi v l a b=>by
  match i with
  |0=>cases a;cases b;exact⟨aH.nil,λ_=>rfl⟩
  |1=>cases a;cases b;exact⟨aH.nil,λ_=>rfl⟩
  |i+2=>cases a⟩
 have y:OG j (.sl H.next 0 0 1 2 2 Z0) [[],[]]:=k H.guard;have⟨d,A,g,G,M,L⟩:=Ls j (by simp only[j,iO,eu,amc,wU];omega) Zx hc y F;have X:MX 0 (.new Zx [[],[]]):=ajB hc (λz h=>by cases h) F (λl q o T=>by
  simp only[List.mem_cons,List.not_mem_nil,zan,or_self]at q;subst q;cases T)
 have k1:(dh.new Zx [[],[]]).walk 0=ZC []:=Z
 have W:(dh.new Zx [[],[]]).Me=true:=Z
 have k3:(zX (dh.new Zx [[],[]]).c [[],[]] (dh.new Zx [[],[]]).trace).isSome=true:=Z
 have k4:(dh.new Zx [[],[]]).amh [[],[]]=true:=Z
 have u:=X4 M.good L X 0;rw[k1]at u
 replace u:cl 10 [.ref A.jL 0 0,I 0] d=ZC (.tup [dat [],B Z0],d):=u
 let e:=d.new (.blk 0 62 [zN,zN]);have G4:Good j.next e g:=M.good.new _
 have C:=Tf G4 L X (p:=.sl d.next 0 0 1 2 2 Z0) (ps:=[[],[]]) J (λl q=>by
  simp only[List.mem_cons,List.not_mem_nil,zan,or_self]at q;subst q;decide) (λK n l=>(k d).iD n l)
 rw[W,k3,k4]at C;have ev:bd 31 [(0,I 2),(1,I 1),(2,I 1),(3,I 1),(4,I 1),(5,I 1),(6,I 1)]=ZC (.agg Zx.av):=by
  rw[w];simp only[xq_,amP,jf,fO,aj7];rfl
 have b0:bi .neq 57 (I 0) (I 0)=ZC (B ZV):=Z
 have en:bi .eql 25 (.ref A.jL 0 0) zP=ZC (B ZV):=Z
 have Q:∀H,bs 27 2 [(0,zN),(1,zN)] H=ZC (.sl H.next 0 0 1 2 2 Z0,H.new (.blk 0 62 [zN,zN])):=λH=>by
  exact(asq J).trans Z3
 have D:=(gJ e []).lnS
 replace D:lnS (dat []) e=ZC (I 0,e):=D
 refine gY Z3 Z3 (asL _ _ (r:=(B Z0,e)) ?_) iF;simp only[j]at G;simp only[Bool.and_self]at C;have E:bs 27 2 [(0,zN),(1,zN)] d=ZC (.sl d.next 0 0 1 2 2 Z0,e):=Q d;simp only[xq_,anF,ev,Q H.guard,E,G,u,C,b0,en,D]
section
variable {N hm:Int}{E:sK}{r:Row}{v l:List Int}{i:Int}{d:bW}{o:Out}
def agI(E:sK):Prop:=∀j e,E j=ZC e->e.bJ=Z0->∀k,E k≠Z1->k=j
def Wf.sole(W:Wf N E r v l):agI E:=λj e b hd k hk=>by
 obtain⟨x,rfl⟩:=W.st2 ((W.bJ j e b).1 hd);have⟨h,hk⟩:=Option.ne_none_iff_exists'.1 hk;have d:=W.mem j e b;have g:=W.mem k h hk;rw[List.mem_singleton]at d g;rw[d,g]
def qx(h:∀j e,E j=ZC e->e.bJ=ZV):agI E:=λj e b hd=>by
 rw[h j e b]at hd;cases hd
def Hold.alone(h:Hold N hm E r v i d o):agI E:=by
 cases h with
 |granted _ W=>exact W.sole
 |attach _ _ _ _ W=>exact W.sole
 |attached _ _ _ _ _ _ _ h=>exact qx h
 |EJ _ _ L=>exact L.only
 |BP _ _ _ h=>exact qx h
 |front _ _ M=>exact qx M.bJ
 |vS _ _ M=>exact qx M.bJ
 |behind _ _ M=>exact qx M.bJ
 |qg _ _ M=>exact qx M.bJ
 |unlock _ W=>exact W.sole
def Hold.dat(h:Hold N hm E r v i d o):∀j e,E j=ZC e->e.data=v:=by
 cases h with
 |granted _ W=>exact W.data
 |attach _ _ _ _ W=>exact W.data
 |attached _ _ _ _ _ _ _ _ h=>exact h
 |EJ _ _ L=>exact L.data
 |BP _ _ L=>exact L.data
 |front _ _ M=>exact M.data
 |vS _ _ M=>exact M.data
 |behind _ _ M=>exact M.data
 |qg _ _ M=>exact M.data
 |unlock _ W=>exact W.data
end
section
variable {m:dh}{msg:Int->Out}{val:Int->List Int}{L:Int}
def Ti(p:m.isL L=Z0)(h:agI (m.jO L)):m.single L=true:=by
 unfold dh.single;cases ha:(m.copies L).any (λi=>((m.jO L i).getD .zero).bJ)with
 |false=>rfl
 |true=>
  have⟨j,g,hd⟩:=List.any_eq_true.1 ha;have⟨e,q⟩:=(oK p).1 g;rw[q]at hd;have d:∀k∈m.copies L,k=j:=λk hk=>by
   have⟨v,n⟩:=(oK p).1 hk;exact h j e q hd k (by rw[n];simp)
  have u:(m.copies L).length=1:=by
   have o:=Ey (m:=m) (L:=L)
   match hc:m.copies L,d,o with
   |[],_,_=>rw[hc]at g;cases g
   |[_],_,_=>rfl
   |a::b::l,d,o=>
    have:=(List.nodup_cons.1 o).1;rw[d a O,d b O]at this;simp at this
  rw[u];rfl
def Zz(G:GInv m msg val)(d:m.isL L=Z0):m.single L=Z0/\(m.owner L=-1->m.Jy L=Z0)/\m.Ew L (val L)=true:=by
 have g:=d;unfold dh.isL at g;simp only[Bool.and_eq_true,zab]at g;have p:m.owner L=(m.jJ L).bn.owner L:=by unfold dh.owner;rw[y d]
 have b:(∀j e,m.jO L j=ZC e->e.data=val L)->(m.copies L).all (λi=>u (((m.jO L i).getD .zero).data=val L))=true:=λh=>by
  rw[List.all_eq_true];intro i hi;have⟨e,k⟩:=(oK d).1 hi;rw[k,Option.getD_some,h i e k];simp
 unfold dh.Ew;rcases G.abs.ak L g.1 g.2 with⟨_,l,W⟩|⟨n,_,_,H⟩
 ·have W:Wf m.c.aF (m.jO L) (m.wE L) (val L) l:=W;refine⟨Ti d W.sole,λ_=>W.Jy,?_⟩;rw[b W.data];by_cases o:(m.wE L).state=2
  ·rw[zah o];rfl
  ·rw[zah (W.BO o)];simp
 ·have n:0<=(m.jJ L).bn.owner L:=n;have H:Hold m.c.aF (m.c.bf L) (m.jO L) (m.wE L) (val L) ((m.jJ L).bn.owner L) (m.vU ((m.jJ L).bn.owner L)) (msg ((m.jJ L).bn.owner L)):=H;refine⟨Ti d H.alone,λh=>V,?_⟩;rw[b H.dat,zah (show m.owner L≠-1 by omega)];simp
end
def Yc {me:Int}:∀{l:List Int} {k p:Nat} {e:Evn},(EK me k l)[p]?=some e->e.bC=me/\e.index=((k+p / 2:Nat):Int)/\e.done=decide (p % 2=1)/\(e.done=false->e.value=0)/\p / 2<l.length
 |[],_,_,_,h=>by cases h
 |v::l,k,0,e,h=>by
  cases h;exact⟨rfl,rfl,rfl,λ_=>rfl,O⟩
 |v::l,k,1,e,h=>by
  cases h;exact⟨rfl,rfl,rfl,(λh=>by cases h),O⟩
 |v::l,k,p+2,e,h=>by
  have g:(EK me (k+1) l)[p]?=some e:=h;obtain⟨a,b,c,d,f⟩:=Yc g;refine⟨a,?_,?_,d,?_⟩
  ·rw[b];congr 1;omega
  ·rw[c,decide_eq_decide];omega
  ·simp only[List.length_cons];omega
def Tj {me:Int}:∀{l:Q Int} {k:Nat},(EK me k l).length=2*l.length
 |[],_=>rfl
 |v::l,k=>by simp only[EK,List.length_cons,Tj (l:=l)];omega
def ad4 {me:Int}{n:Node}{c:Cfg}(P:ahH c n.bU){p:Nat}{e:Evn}(h:(told me n)[p]?=some e):e.bC=me/\e.index=((p / 2:Nat):Int)/\e.done=decide (p % 2=1)/\(e.done=false->e.value=0)/\p / 2<n.bU.ops.length:=by
 unfold told at h;by_cases g:p<(EK me 0 n.bU.bI).length
 ·rw[List.getElem?_append_left g]at h;obtain⟨a,b,c,d,f⟩:=Yc h;have:=P.vals;exact⟨a,by rw[b,Nat.zero_add],c,d,V⟩
 ·rw[List.getElem?_append_right V]at h;rw[Tj]at h g;split at h
  ·rename_i hb;have i:p-2*n.bU.bI.length=0:=by
    have:=(List.getElem?_eq_some_iff.1 h).1;simp only[List.length_cons,List.length_nil]at this;omega
   rw[i]at h;cases h;have:=P.fD hb;refine⟨rfl,?_,?_,λ_=>rfl,V⟩
   ·show((n.bU.bI.length:Nat):Int)=_
    congr 1;omega
   ·show false=_;rw[eq_comm,decide_eq_false_iff_not];omega
  ·cases h
def agB.at_ {m:dh}(R:agB m)(I:adg m){pre b:Q Evn}{e:Evn}(h:m.trace=pre++e::b):∃(i:Nat) (n:Node),m.aF[i]?=ZC n/\e.bC=i/\(told i n)[(pre.filter λx=>u (x.bC=e.bC)).length]?=ZC e:=by
 have⟨i,hi,d⟩:=R.ran e (by rw[h];simp);have⟨n,g⟩:∃n,m.aF[i]?=ZC n:=⟨_,List.getElem?_eq_getElem d⟩
 refine⟨i,n,g,hi,?_⟩;rw[<-R.own i n g,h,List.filter_append,List.filter_cons_of_pos (by simp[hi]),hi];rw[List.getElem?_append_right (Nat.le_refl _),Nat.sub_self];rfl
def agB.right {m:dh}(R:agB m)(I:adg m):∀{b pre:Q Evn} {es:Q (Int × Int)},m.trace=pre++b->(∀n,(jw es n).getD 0=((pre.filter λx=>YM (x.bC=n)).length:Nat))->qW m.c.aF es b=Z0
 |[],_,_,_,_=>rfl
 |e::b,pre,es,h,d=>by
  have⟨i,n,g,hi,j⟩:=R.at_ I h;have⟨_,o,p,q,_⟩:=ad4 (I.bC i n g).bU j;have u:=(List.getElem?_eq_some_iff.1 g).1;have w:=I.len;have v:=d e.bC;unfold qW;rw[v];have ok:Zu m.c.aF ((pre.filter λx=>YM (x.bC=e.bC)).length:Nat) e=true:=by
   unfold Zu;simp only[Bool.and_eq_true,Bool.not_eq_true',Bool.or_eq_false_iff,zas,zab,Bool.or_eq_true];refine⟨⟨⟨⟨V,V⟩,by rw[o];omega⟩,?_⟩,?_⟩
   ·rw[p,zaE];omega
   ·cases hd:e.done with
    |true=>exact .inl W
    |false=>exact .inr (q hd)
  rw[y ok];refine R.right I (pre:=pre++[e]) (by rw[h];simp) λk=>?_;rw[jF,List.filter_append];by_cases hk:e.bC=k
  ·rw[y hk,List.filter_cons_of_pos (by simp[hk])];subst hk;simp
  ·rw[F hk,d k,List.filter_cons_of_neg (by simpa using hk)];simp
def agJ {c:Cfg}(hc:c.ok=Z0){v:Int->Q Int}{ws:Q Int}(M:JB c v ws){i:Nat}(hi:(i:Int)<c.aT):(ws.drop (i*c.aP.toNat)).take c.aP.toNat=v i:=by
 have P:=lu hc;have hw:0<c.aP:=V
 have b:(c.aP.toNat:Int)=c.aP:=Int.toNat_of_nonneg V;have o:=M.row i V hi;have hm:((i*c.aP.toNat:Nat):Int)=i*c.aP:=by rw[Int.natCast_mul,b]
 have k:(((i+1)*c.aP.toNat:Nat):Int)=(i+1:Nat)*c.aP:=by rw[Int.natCast_mul,b]
 have p:(i+1)*c.aP.toNat=i*c.aP.toNat+c.aP.toNat:=Nat.succ_mul _ _;have m:((i+1:Nat):Int)*c.aP<=c.aT*c.aP:=Int.mul_le_mul_of_nonneg_right V V;have e:=M.len;unfold Cfg.fG at e;refine List.ext_getElem? λj=>?_;rw[List.getElem?_take];by_cases g:j<c.aP.toNat
 ·rw[y g,List.getElem?_drop,List.getElem?_eq_getElem V,List.getElem?_eq_getElem (show j<(v i).length by omega)];have h:=M.get ((i*c.aP.toNat+j:Nat):Int) V (by unfold Cfg.fG;omega);have n:((i*c.aP.toNat+j:Nat):Int) / c.aP=i:=by
   rw[Int.natCast_add,hm,Int.add_comm,Int.add_mul_ediv_right _ _ V,Int.ediv_eq_zero_of_lt V V];omega
  have d:((i*c.aP.toNat+j:Nat):Int) % c.aP=j:=by
   rw[Int.natCast_add,hm,Int.add_comm,Int.add_mul_emod_self_right,Int.emod_eq_of_lt V V]
  rw[n,d,Int.toNat_natCast,Int.toNat_natCast,List.getD_eq_getElem?_getD,List.getD_eq_getElem?_getD,List.getElem?_eq_getElem V,List.getElem?_eq_getElem (show j<(v i).length by omega)]at h;exact zaj ZC h
 ·rw[F g,List.getElem?_eq_none V]
def DR {c:Cfg}(hc:c.ok=Z0){ps:Q (Q Opn)}(d:∀l∈ps,∀o∈l,c.right o=Z0){P:Int->Nat->Z6 Opn}(g:∀(i:Int) k o,P i k=ZC o->(ps.getD i.toNat [])[k]?=ZC o):
  ∀{u:Q Evn} {v v':Int->Q Int} {ws:Q Int},Legal c P u v v'->JB c v ws->(∀e∈u,e.index<(ps.getD e.bC.toNat []).length)->∃b,JU ps u ws=ZC b/\JB c v' b
 |[],_,_,ws,h,M,_=>by cases h;exact⟨ws,W,M⟩
 |e::u,v,v',ws,h,M,hi=>by
  have D:=hi e O;unfold JU;rw[F V];unfold Legal at h;cases hd:e.done with
  |false=>
   rw[F (by rw[hd];decide)]at h;rw[YY W];exact DR hc d g h M λx j=>hi x (by simp[j])
  |true=>
   rw[YY hd]at h;have⟨k,o,E,q,w,y⟩:=h;rw[F J];have hk:=g _ _ _ q;have m:e.index.toNat=k:=V
   have z:(ps.getD e.bC.toNat []).getD e.index.toNat .zero=o:=by rw[m,List.getD_eq_getElem?_getD,hk];rfl
   have n:c.right o=true:=by
    have hm:=List.mem_of_getElem? hk;rw[List.getD_eq_getElem?_getD]at hm;cases p:ps[e.bC.toNat]? with
    |none=>rw[p]at hm;cases hm
    |some l=>rw[p]at hm;exact d l (List.mem_of_getElem? p) o hm
   have⟨A,C⟩:=M.op hc n;rw[z,YY (by rw[A,w])];exact DR hc d g y C λx j=>hi x (by simp[j])
structure yZ(ps:List (List Opn))(c:Cfg)(m:dh):Prop where
 ex:∃msg val,GInv m msg val/\Legal c m.opAt m.trace c.first val
 rcd:agB m
 op:m.opAt=(dh.new c ps).opAt
 cfg:m.c=c
def al6 {c:Cfg}(hc:c.ok=Z0){ps:Q (Q Opn)}(b:(ps.length:Int)=c.aF):yZ ps c (.new c ps):=⟨⟨_,_,agG hc b,W⟩,agC c ps,W,W⟩
def ad5(m:dh)(p:Pck):(m.do_ p).1.opAt=m.opAt:=by
 unfold dh.do_;split
 ·rfl
 ·exact adT m _
def arH(m:dh)(p:Pck):(m.do_ p).1.c=m.c:=by
 unfold dh.do_;split
 ·rfl
 ·exact agE m _
def yZ.do_ {ps:Q (Q Opn)}{c:Cfg}{m:dh}{T:Nat}(S:yZ ps c m)(X:MX T m)(p:Pck)(d:adg (m.do_ p).1):yZ ps c (m.do_ p).1:=by
 have⟨msg,val,G,L⟩:=S.ex;have⟨msg',val',G',b,_⟩:=G.do_ X p;rw[S.cfg]at b;exact⟨⟨msg',val',G',by rw[ad5];exact b.legal L⟩,S.rcd.do_ X.inv p d,by rw[ad5,S.op],by rw[arH,S.cfg]⟩
def yZ.ops {ps:Q (Q Opn)}{c:Cfg}{m:dh}(S:yZ ps c m){i:Nat}{n:Node}(d:m.aF[i]?=ZC n):n.bU.ops=ps.getD i []:=by
 have h:∀k,n.bU.ops[k]?=(ps.getD i [])[k]?:=λk=>by
  have e:m.opAt i k=n.bU.ops[k]?:=by unfold dh.opAt;rw[yC d]
  rw[<-e,S.op];unfold dh.opAt dh.bC dh.new;rw[y V,Int.toNat_natCast];simp only[List.getElem?_mapIdx];cases b:ps[i]? with
  |none=>rw[List.getD_eq_getElem?_getD,b];rfl
  |some l=>rw[List.getD_eq_getElem?_getD,b];rfl
 exact List.ext_getElem? h
def yZ.fold {ps:Q (Q Opn)}{c:Cfg}{m:dh}{T:Nat}(S:yZ ps c m)(X:MX T m)(j:c.nR ps=Z0)(p:∀l∈ps,∀o∈l,c.right o=Z0):∃msg val ws,GInv m msg val/\zX c ps m.trace=ZC ws/\JB c val ws:=by
 have⟨msg,val,G,L⟩:=S.ex;have hc:c.ok=true:=by rw[<-S.cfg];exact X.inv.ok
 have q:qW c.aF [] m.trace=true:=by
  rw[<-S.cfg];exact S.rcd.right X.inv (pre:=[]) W λn=>rfl
 have⟨ws,u,g⟩:=DR hc p (P:=m.opAt) (λi k o h=>by
  have d:=h;unfold dh.opAt dh.bC at d;split at d
  ·rename_i n b;split at b
   ·rw[<-S.ops b];exact d
   ·cases b
  ·cases d) L (JC hc) λe v=>by
   have⟨pre,w,y⟩:=List.append_of_mem v;have⟨i,n,b,hi,z⟩:=S.rcd.at_ X.inv y;have⟨_,g,_,_,A⟩:=ad4 (X.inv.bC i n b).bU z;rw[hi,Int.toNat_natCast,<-S.ops b,g];omega
 refine⟨msg,val,ws,G,?_,g⟩;unfold zX;rw[j,q];exact u
section
variable {b:Nat}{H:ah}{g:bG}{A:Adr}{m:dh}{T:Nat}{ps:List (List Opn)}{c:Cfg}
def al7(S:yZ ps c m)(X:MX T m)(d:c.nR ps=Z0):m.Me=Z0/\(zX m.c ps m.trace).isSome=Z0/\m.amh ps=true:=by
 have⟨msg,val,ws,G,b,e⟩:=S.fold X d (Tc d);have hc:=S.cfg;rw[<-hc]at b e;have ok:=X.inv.ok;have g:∀i,i<m.c.aT.toNat->m.single i=Z0/\(m.owner i=-1->m.Jy i=Z0)/\m.Ew i (val i)=true:=λi hi=>by
  have:=(qp ok).aT;exact Zz G (adY V)
 refine⟨?_,by rw[b];rfl,?_⟩
 ·unfold dh.Me;rw[List.all_eq_true];intro i hi;have⟨j,k,_⟩:=g i (List.mem_range.1 hi);rw[j,Bool.true_and];by_cases h:m.owner i=-1
  ·rw[k h,Bool.or_true]
  ·rw[zam h];rfl
 ·unfold dh.amh;rw[b];unfold dh.valuesB;rw[List.all_eq_true];intro i hi;have hi:=List.mem_range.1 hi;have:=(qp ok).aT;unfold Cj;rw[agJ ok e V];exact(g i hi).2.2
def ZA(C:c.nR ps=Z0){x:AV}{cs:Z2 Cho}(Y:aH ah.empty x 4 cs.length (cs.flatMap Cho.av))(wf:∀c∈cs,c.In):
  ∀(k i:Nat) {H:ah} {g:bG} {m:dh},i+k=min cs.length 80->alS b H g A m i->yZ ps c m->
  ∃H',QO cl [x,.ref A.jL 0 0,.vs ps.length 1 (ps.map (vsl 3 Opn.av)),I i] H=ZC (B Z0,H'):=by
 intro k;have⟨L,w⟩:=yt C
 induction k with
 |zero=>
  intro i H g m hi R D;have u:=(adD Y H).lnS;have wk:=λH=>agH H;refine⟨H,?_⟩;rw[ahM];by_cases d:(i:Int)<cs.length
  ·have h:¬(i:Int)<80:=V
   simp only[xq_,u,d,h,wk]
  ·simp only[xq_,u,d,wk]
 |succ k M=>
  intro i H g m hi R D;have X:=R.keep;have Q:=R.fab;have u:=(adD Y H).lnS;have d:(i:Int)<cs.length:=V
  have h:(i:Int)<80:=V
  have⟨ch,n⟩:∃c,cs[i]?=ZC c:=⟨_,List.getElem?_eq_getElem V⟩
  have⟨T,W⟩:=agm Y H n;have E:=R.good.guard;have e1:=mP E R.jL X.inv.ok;have e2:=adE E R.jL X;have e3:=agp H X ch;have l0:m.c.av[0]?=ZC (I m.c.aF):=rfl;have⟨i1,i2,i3,i4⟩:=agq X (wf ch (List.mem_of_getElem? n));have⟨K2,g2,e4,j,O2,S2⟩:=R.do_ V (ru ch m.c.aF m.fab.under) i1 i2 i3 i4;have y:=D.do_ X (ru ch m.c.aF m.fab.under) j.keep.inv;generalize (m.do_ (ru ch m.c.aF m.fab.under)).1=m2 at*;have v:=j.keep;have⟨q1,q2,F⟩:=al7 y v C;have hn:=(qp (by rw[<-y.cfg];exact v.inv.ok:c.ok=Z0)).aF;have o:ps.length<1000:=V
  have q:∀l∈ps,l.length<1000:=λl hl=>by have:=w l hl;omega
  have z:=Tf j.good j.jL v (p:=.vs ps.length 1 (ps.map (vsl 3 Opn.av))) o q (λK _ _=>afA K ps);have G:=MG j.good j.jL v (p:=.vs ps.length 1 (ps.map (vsl 3 Opn.av))) o q (λK _ _=>afA K ps);rw[q1,q2,F]at z;rw[F]at G;simp only[Bool.and_self]at z;have⟨H',e⟩:=M (i+1) V j y;have h6:(i:Int)+1=((i+1:Nat):Int):=V
  have h7:=wrap_i64 (a:=((i+1:Nat):Int)) V V;refine⟨H',?_⟩;rw[ahM];simp only[xq_,u,d,h,T,W,e1,l0,Q,e2,e3,e4,z,G,Bool.not_true,bM,h6,h7,e]
end
def JV {s:kT}{zi zw zk za zv:Q Int}(h:s.Ok zi zw zk za zv)(hi:aH ah.empty s.init 1 zi.length (zi.map I))(hw:aH ah.empty s.who 1 zw.length (zw.map I))(hk:aH ah.empty s.kinds 1 zk.length (zk.map I))(ha:aH ah.empty s.fG 1 za.length (za.map I))(hv:aH ah.empty s.bI 1 zv.length (zv.map I))
  (hc:s.init.aU=Z0/\s.who.aU=Z0/\s.kinds.aU=Z0/\s.fG.aU=Z0/\s.bI.aU=Z0) {x:AV} {cs:Q Cho} (Y:aH ah.empty x 4 cs.length (cs.flatMap Cho.av)) (wf:∀c∈cs,c.In):
  ∃H',cl 5 [.agg s.cells,x] ah.empty=ZC (B Z0,H'):=by
 have Z:au4 s zi zw zk za zv:=⟨h,hi,hw,hk,ha,hv,hc⟩
 have d:s.cells.all AV.aU=true:=by
  simp only[kT.cells,List.all_cons,List.all_nil,hc,Bool.and_true];rfl
 let H1:=ah.empty.new (.blk 0 24 s.cells);let c:=s.cfg zi;let ps:=pJ c zw zk za zv 14;have⟨n,A,q,f,N,g,mid,b,j,k,hb,p,X,i⟩:=alR Z H1 (Nat.zero_le _) (mo:=14) J (c:=c) (ps:=ps) W W;have R:alS b n g A (.new c ps) 0:=⟨k.good,k.base,k.jL,X⟩
 have⟨H',e⟩:=ZA i Y wf (min cs.length 80) 0 V R (al6 X.inv.ok (yt i).1)
 replace e:QO cl [x,.ref A.jL 0 0,.vs ps.length 1 (ps.map (vsl 3 Opn.av)),I 0] n=ZC (B Z0,H'):=e
 have m:((14:Nat):Int)=14:=rfl;rw[m]at j;have ls:s.cells.length=12:=rfl;have lt:s.cells.take 12=s.cells:=rfl;have o:bi .eql 25 (.ref A.jL 0 0) zP=ZC (B ZV):=ZD
 simp only[H1]at j;refine⟨H',bg W W (avi _ _ _ _ ?_)⟩;simp only[Nat.reduceLT,xq_,hq_,auS,aC d,ls,lt,j,o,e]
end
end Go.Proofs.YtgplhpgkompkmaaGreat
