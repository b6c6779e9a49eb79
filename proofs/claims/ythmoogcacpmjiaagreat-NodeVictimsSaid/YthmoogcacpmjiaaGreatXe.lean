/-
  Own work: an interpreter over named blocks, its soundness, and what the functions of this seat compute (part 5 of 10).
  Conditions: those of the statement alone.
-/
import Derived.Test.YthmoogcacpmjiaaGreatXd
set_option linter.all false
set_option linter.unusedSectionVars false
set_option linter.unusedVariables false
set_option linter.unusedSimpArgs false
namespace Go.Proofs.YthmoogcacpmjiaaGreat
noncomputable section
section
variable {b:Nat}{H:aj}{g:Store}{q:Nat}
theorem Gu(G:Good b H g){p:Proc}(h:g q=some (mW p))(h1:p.ops.length < 1000)(h2:p.values.length < 1000):cl 19 [.ref q 0 0] H=some (I p.left,H):=by
 refine aN rfl rfl (aiK _ _ _ ?_);have e1:=G.load h (i:=0) rfl;have e2:=(DN fF H p.ops).lnS;obtain⟨x,hx,c⟩:=G.seq h (i:=1) rfl;have e3:=(c.is (n:=p.values.length) (by decide) (by simp)).lnS;simp -implicitDefEqProofs only [xq_,aeK,e1,e2,hx,e3,gZ,Proc.left];rw [wrap_i64 (by omega) (by omega)]
theorem Vs(G:Good b H g){p:Proc}(h:g q=some (mW p)):cl 45 [.ref q 0 0] H=some (B p.begun,H):=by
 refine aN rfl rfl (ai0 _ _ _ ?_);have e1:=G.load h (i:=2) rfl;simp -implicitDefEqProofs only [xq_,aeZ,e1]
theorem acC(G:Good b H g){l:List Pkt}{room:Int}(h:g q=some (jY l room)):cl 48 [.ref q 0 0] H=some (I l.length,H):=by
 refine aN rfl rfl (ai2 _ _ _ ?_);obtain⟨x,hx,c⟩:=G.seq h (i:=0) rfl;have e2:=(c.is (by decide) (bH aT l)).lnS;simp -implicitDefEqProofs only [xq_,ae2,hx,e2]
end
section
variable {b:Nat}{H:aj}{g:Store}{q f:Nat}{P:Nat->Nat->Nat}{c:Cfg}{fab:Fab}
theorem Cur.elemAt {i m n:Nat}{x:AV}{l:List AV}(cu:Cur b H q i x m l)(hm:0 < m)(hl:l.length=n*m){j:Nat}(hj:j < n):
  ∃r gg o,(∀k:IntKind,ix m x (.s (.int k j)) H=some (.ref r gg o,H))/\(∀k,k < m->ld (.ref r gg (o+k)) H=(l[j*m+k]?).map λv=> (v,H))/\lda m (.ref r gg o) H=some (.agg ((l.drop (j*m)).take m),H):=by
 have hs:=cu.is hm hl;have hjm:(j+1)*m<=n*m:=zaw _ (by omega);rw [zbj,zbk] at hjm;rcases cu.length hm hl with⟨_,h0⟩ | ⟨r,gg,off,cap,ex,ty,all,rfl,k1,k2,k3,k4,k5,k6,k7,k8⟩
 ·omega
 have hcm:n*m<=cap*m:=zaw _ k4;refine⟨r,gg,off+j*m,λk=> ?_,λk hk=> ?_,?_⟩
 ·have:=hs.ix (k:=k) (i:=(j:Int)) (by omega) (by omega);rw [zaB] at this;exact this
 ·rw [jV k5,k8,zau,if_pos (by omega),zay,zb4]
 ·rw [fV k5 (by omega),k8]
  congr 3
  rw [zbZ,zbq,zbP,zbc (by omega)]
theorem Vt {α:Type}{enc:α->List AV}{m:Nat}(he:∀a,(enc a).length=m)(l:List α)(i:Nat)(a:α)(hi:l[i]?=some a){k:Nat}(hk:k < m):(l.flatMap enc)[i*m+k]?=(enc a)[k]?:=by
 have:=flat_get he l i a hi;rw [<-this,zau,if_pos hk,zay]
theorem zV(G:Good b H g)(F:dU g f P c fab)(hn:fab.l.length < 1000)(i:Int):cl 50 [.ref f 0 0,I i] H=some (B (fab.is i),H):=by
 refine aN rfl rfl (ai3 _ _ _ _ ?_);obtain⟨x,hx,cu⟩:=G.seq F.1 (i:=0) rfl;have e2:=(cu.is (by decide) (nM P _)).lnS;by_cases h0:0<=i
 ·simp -implicitDefEqProofs only [xq_,ab7,h0,hx,e2,Fab.is,zba]
 ·simp -implicitDefEqProofs only [xq_,ab7,h0,Fab.is,zbr]
theorem dU.port(F:dU g f P c fab){i:Nat}(hi:i < fab.l.length):qJ g (P i) c (fab.port i):=by
 have:=F.2.1 i (fab.l[i]) (zad hi);unfold Fab.port;rw [zaB,zaG,zad hi];exact this
end
section
variable {b:Nat}{H:aj}{g:Store}{q f:Nat}{P:Nat->Nat->Nat}{c:Cfg}{fab:Fab}
theorem acD {e:TypeId}{H:aj}{a b c d:Nat}:bsl e 2 [zP,zP] 2 [(0,.agg [.ref a 0 0,.ref b 0 0]),(1,.agg [.ref c 0 0,.ref d 0 0])] H=some (.sl H.next 0 0 2 2 2 true,H.new (.blk 0 e [.ref a 0 0,.ref b 0 0,.ref c 0 0,.ref d 0 0])):=rfl
def gW(P:Nat->Nat->Nat)(n:Nat):List AV:=(List.range n).flatMap λi=> kK (P i)
theorem dU.lt(G:Good b H g)(F:dU g f P c fab){i s:Nat}(hi:i < fab.l.length)(hs:s < 4):P i s < H.next:=by
 obtain⟨l,r,h⟩:=(F.port hi).some hs;exact G.lt h
theorem Yq(G:Good b H g)(F:dU g f P c fab)(hn:fab.l.length < 1000)(h0:fab.l.length≠0):
  cl 47 [.ref f 0 0] H=some (.vs (2*fab.l.length) 2 (gW P fab.l.length),H):=by
 obtain⟨x,hx,cu⟩:=G.guard.seq F.1 (i:=0) rfl;have e2:=(cu.is (by decide) (nM P _)).lnS;have hfr:∀d,∀y∈gW P fab.l.length,∀Hz,aU Hz H.next (d+1) y=some y:=λd y hy Hz=> by
  obtain⟨i,hi,hy⟩:=zbl.1 hy;have hi:=zbb.1 hi;simp only [kK,zal,zaF,or_false] at hy;rcases hy with rfl | rfl | rfl | rfl <;> · rw [aU];exact if_pos (F.lt G hi (by omega))
 have key:∀k i,i+k=fab.l.length->∀Hi t,Own H.next Hi t 2 (gW P i)->Step H.next H.guard Hi->
   ∃v Hz,FU cl [t,x,I fab.l.length,I i] Hi=some (v,Hz)/\Own H.next Hz v 2 (gW P fab.l.length):=by
  intro k
  induction k with
  | zero=>
   intro i hi Hi t o s;have h1:¬(i:Int) < fab.l.length:=by omega
   rw [Uh];refine⟨t,Hi,?_,by rw [show fab.l.length=i by omega];exact o⟩;simp -implicitDefEqProofs only [xq_,h1]
  | succ k ih=>
   intro i hi Hi t o s;have h1:(i:Int) < fab.l.length:=by omega
   have h6:(i:Int)+1=((i+1:Nat):Int):=by omega
   have h7:=wrap_i64 (a:=((i+1:Nat):Int)) (by omega) (by omega);obtain⟨r,gg,off,a1,_,a3⟩:=(cu.ext s.next s.low).elemAt (by decide) (nM P _) (j:=i) (by omega);have a1:=a1 .i64;rw [flat_get (m:=4) (λ_=> rfl) _ i i (zbL (by omega))] at a3;let H1:=Hi.new (.blk 0 121 (kK (P i)));have hpl:(gW P i).length=(2*i)*2:=by
    rw [gW,nM];omega
   have sb:Hi.base=H.next:=s.base
   have sn:H.next<=Hi.next:=s.next
   obtain⟨v',Hj,t1,t2,t3⟩:=((o.new (.blk 0 121 (kK (P i)))).new (.blk 0 115 (kK (P i)))).step (e:=115) (by_:=16) (by simp only [nNew];omega) (by simp only [bNew];omega) (by decide) hpl (kW (ex:=true) (n:=2) (m:=2) (l:=kK (P i)) rfl) rfl (by unfold most;omega) (by unfold most;omega);have hs:gW P (i+1)=gW P i++kK (P i):=by
    simp only [gW];rw [List.range_succ,zbK,zaJ,List.flatMap_nil,za8]
   rw [<-hs] at t2;obtain⟨v,Hz,r1,r2⟩:=ih (i+1) (by omega) Hj v' t2 ((s.trans ((Step.new _ (by omega)).trans (Step.new _ (by simp only [nNew];omega)))).trans t3);refine⟨v,Hz,?_,r2⟩;rw [Uh];have ca:∀a b c d,(AV.agg [.ref a 0 0,.ref b 0 0,.ref c 0 0,.ref d 0 0]).cells=[.ref a 0 0,.ref b 0 0,.ref c 0 0,.ref d 0 0]:=λ_ _ _ _=> rfl;have hbase:Hi.base<=Hi.next:=by omega
   simp only [kK,nNew] at a3 t1;simp -implicitDefEqProofs only [Nat.reduceAdd,Nat.reduceLeDiff,setAt,xq_,hq_,h1,a1,a3,hbase,adR,Nat.reduceMul,acD,t1,bV,h6,h7,r1]
 obtain⟨v,Hz,r1,r2⟩:=key fab.l.length 0 (by omega) H.guard zN (.inl ⟨rfl,rfl⟩) (Step.refl _ _);refine jc rfl rfl (ai1 _ _ _ (r:=(v,Hz)) ?_) ?_
 ·simp -implicitDefEqProofs only [xq_,ae1,hx,e2];exact r1
 ·have hpl:(gW P fab.l.length).length=(2*fab.l.length)*2:=by
   rw [gW,nM];omega
  have hs:=r2.is (by decide) hpl;obtain⟨c1,c2⟩:=hs.uh;rcases r2 with⟨rfl,e⟩ | ⟨r,gg,off,n',cap,ex,ty,all,rfl,k2,k3,k4,k5,k6,k7,k8⟩
  ·rw [e] at hpl;simp only [zaq] at hpl;omega
  ·have hn':n'=2*fab.l.length:=by
    have:=hs.2.2.1;exact this
   subst hn';exact ji k2 c2 (fG _ λy hy=> hfr _ y hy _)
theorem Vu {α β:Type}{u v:α->β}:∀(l:List α) (i:Nat),(l.flatMap λp=> [u p,v p])[2*i]?=l[i]?.map u/\(l.flatMap λp=> [u p,v p])[2*i+1]?=l[i]?.map v
 | [],i=> by simp
 | a::l,0=> by simp
 | a::l,i+1=> by
  have:=Vu (u:=u) (v:=v) l i;rw [show 2*(i+1)=2*i+1+1 by omega]
  simpa using this
theorem dU.ahp(F:dU g f P c fab){j:Nat}(hj:j < 2*fab.l.length):
  ∃l a a',fab.jU[j]?=some l/\((gW P fab.l.length).drop (j*2)).take 2=[.ref a 0 0,.ref a' 0 0]/\g a=some (jY l c.out):=by
 have hi:j / 2 < fab.l.length:=by omega
 have hp:=F.port hi;have hg:fab.l[j / 2]?=some (fab.port (j / 2:Nat)):=by
  unfold Fab.port;rw [zaB,zaG,zad hi];rfl
 have hfl:=flat_get (m:=4) (enc:=λi=> kK (P i)) (λ_=> rfl) (List.range fab.l.length) (j / 2) (j / 2) (zbL hi);have h2:=Vu (u:=Port.rq) (v:=Port.an) fab.l (j / 2);rw [hg] at h2;rcases Nat.mod_two_eq_zero_or_one j with h | h
 ·refine⟨_,P (j / 2) 0,P (j / 2) 1,?_,?_,hp.1⟩
  ·have:=h2.1;rw [show 2*(j / 2)=j by omega] at this;exact this
  ·have e:((gW P fab.l.length).drop (j*2)).take 2=(((gW P fab.l.length).drop (j / 2*4)).take 4).take 2:=by
    rw [zbP,show j / 2*4=j*2 by omega];rfl
   rw [e];exact(congrArg (List.take 2) hfl).trans rfl
 ·refine⟨_,P (j / 2) 2,P (j / 2) 3,?_,?_,hp.2.2.1⟩
  ·have:=h2.2;rw [show 2*(j / 2)+1=j by omega] at this;exact this
  ·have e:((gW P fab.l.length).drop (j*2)).take 2=((((gW P fab.l.length).drop (j / 2*4)).take 4).drop 2).take 2:=by
    rw [zbZ,zbq,zbP,show j / 2*4+2=j*2 by omega];rfl
   rw [e];exact(congrArg (λl=> (List.drop 2 l).take 2) hfl).trans rfl
end
section
variable {b:Nat}{H:aj}{g:Store}{q f:Nat}{P:Nat->Nat->Nat}{c:Cfg}{fab:Fab}
theorem qo:∀l:List Port,(l.flatMap λp=> [p.rq,p.an]).length=2*l.length
 | []=> rfl
 | p::l=> by
  have:=qo l;simp only [zaJ,zan,this,zai,zaq];omega
end
section
variable {b:Nat}{H:aj}{g:Store}{A:Adr}{m:gQ}
def gQ.left(m:gQ):Int:=(m.nodes.map λn=> n.proc.left).sum
end
theorem ahm.zN {H:aj}:ahm H zN []:=⟨[],aH.nil,λi v l h=> by simp at h⟩
def qp(v n:Int):Int:=if n < 1 then 0 else v % n
def Oo.cfg(s:Oo)(zi:List Int):Cfg:=
 ⟨1+qp s.nodes 4,1+qp s.lines 4,1+qp s.words 2,1+qp s.sets 2,1+qp s.ways 2,1+qp s.out 3,1+qp s.inn 3,zi.take ((1+qp s.lines 4)*(1+qp s.words 2)).toNat⟩
theorem Yr {β:Type}{w:Option Nat}{H H':aj}{k:Option β}(h:∀r,w=some r->H'.get r=H.get r):ck w H H' k=k:=if_pos h
theorem Ep {H1:aj}{n d m k:Nat}{x:AV}{cells:List AV}(c:Own n H1 x m cells)(hm:0 < m)(hl:cells.length=k*m)(hz:∀y∈cells,aU H1 n d y=some y)(hk:k≠0):aU H1 n (d+1) x=some (.vs k m cells):=by
 rcases c with⟨rfl,rfl⟩ | ⟨r,g,off,n',cap,ex,ty,all,rfl,k2,k3,k4,k5,k6,k7,rfl⟩
 ·simp only [zaq] at hl;rcases Nat.mul_eq_zero.1 hl.symm with h | h <;> omega
 ·have hcm:n'*m<=cap*m:=zaw _ k4;rw [zar,zaD,zbc (by omega)] at hl;have:n'=k:=zbu hm hl;subst this;exact ji k2 (cells:=(all.drop off).take (n'*m)) (by simp only [aW,k5];rw [if_pos ⟨trivial,by omega⟩]) (fG _ hz)
def jX(c:Cfg)(n:Nat):List Row:=(List.range n).map λ(i:Nat)=> (⟨0,-1,c.first (i:Int)⟩:Row)
theorem xH.ext {g g':Store}{a:Nat->Nat}{c:Cfg}{me:Int}{n:dh}(h:xH g a c me n)(hd:∀q cs,g q=some cs->¬abR cs->g' q=some cs)(hg:∀s,s < 3->g' (a s)=g (a s)):xH g' a c me n:=by
 obtain⟨⟨d,⟨x,d1,d2⟩,h0⟩,⟨cells,k,h1⟩,⟨rows,r,h2⟩⟩:=h;exact⟨⟨d,⟨x,d1.sub hd,d2⟩,by rw [hg 0 (by omega),h0]⟩,⟨cells,k.mono λe cs _ ⟨x,e1,e2⟩=> ⟨x,e1.sub hd,e2⟩,by rw [hg 1 (by omega),h1]⟩,⟨rows,r.mono λe cs _ ⟨x,e1,e2⟩=> ⟨x,e1.sub hd,e2⟩,by rw [hg 2 (by omega),h2]⟩⟩
theorem xH.inj {g:Store}{a:Nat->Nat}{c:Cfg}{me:Int}{n:dh}(h:xH g a c me n){s t:Nat}(hs:s < 3)(ht:t < 3)(e:a s=a t):s=t:=by
 obtain⟨⟨d,⟨x,_,rfl⟩,h0⟩,⟨_,_,h1⟩,⟨_,_,h2⟩⟩:=h;have hh:(g (a s)).map List.length=(g (a t)).map List.length:=by rw [e]
 match s,hs,t,ht with
 | 0,_,0,_ | 1,_,1,_ | 2,_,2,_=> rfl
 | 0,_,1,_ | 0,_,2,_ | 1,_,0,_ | 1,_,2,_ | 2,_,0,_ | 2,_,1,_=> simp [h0,h1,h2,ZR,TF,TG,bf.avx,Cfg.av] at hh
theorem Yt(a b:Bool):bi .neq 4 (B a) (B b)=some (B (!decide (a=b))):=by
 cases a <;> cases b <;> kernel_rfl
theorem Vw(H:aj){x y:AV}{l:List Int}(hl:l.length < 1000000000)(hx:aH H x 1 l.length (l.map I))(hy:aH H y 1 l.length (l.map I)):cl 27 [x,y] H=some (B true,H):=by
 refine bI rfl rfl (aiM _ _ _ _) ?_ gK;have e1:=hx.guard.lnS;have e2:=hy.guard.lnS;have key:∀k i,i+k=l.length->BM cl [x,y,I i] H.guard=some (B true,H.guard):=by
  intro k
  induction k with
  | zero=>
   intro i hi;have h1:¬(i:Int) < l.length:=by omega
   rw [Ud];simp -implicitDefEqProofs only [xq_,e1,h1]
  | succ k ih=>
   intro i hi;have h1:(i:Int) < l.length:=by omega
   have h6:(i:Int)+1=((i+1:Nat):Int):=by omega
   have h7:=wrap_i64 (a:=((i+1:Nat):Int)) (by omega) (by omega);have s1:=hx.guard.ix (k:=.i64) (i:=(i:Int)) (by omega) h1;have s2:=hy.guard.ix (k:=.i64) (i:=(i:Int)) (by omega) h1;rw [zaB] at s1 s2;have t1:=hx.guard.ld (i:=i) (by omega);have t2:=hy.guard.ld (i:=i) (by omega);rw [zaI,zad (show i < l.length by omega)] at t1 t2;have r1:=ih (i+1) (by omega);rw [Ud];simp -implicitDefEqProofs only [xq_,e1,h1,s1,s2,t1,t2,eq_self,zae,bV,h6,h7,r1]
 have r1:=key l.length 0 (by omega);have r1':BM cl [x,y,I 0] H.guard=some (B true,H.guard):=r1;simp -implicitDefEqProofs only [xq_,aeM,e1,e2,eq_self,zae,r1']
structure jo(H:aj)(x:AV)(l:List Int):Prop where
 is:aH H x 1 l.length (l.map I)
 one:One x
 nil:l=[]->x=zN
theorem lT(H:aj)(l:List Int):jo H (dat l) l:=⟨jW H l,nU,λh=> by rw [h,dat,fZ]⟩
theorem jo.guard {H:aj}{x:AV}{l:List Int}(h:jo H x l):jo H.guard x l:=⟨h.is.guard,h.one,h.nil⟩
theorem jo.new {H:aj}{x:AV}{l:List Int}(h:jo H x l)(o:dL):jo (H.new o) x l:=⟨h.is.new o,h.one,h.nil⟩
theorem jo.lM {H H':aj}{x:AV}{l:List Int}(h:jo H x l)(hn:H.next<=H'.next)(hg:∀r,r < H.next->H'.get r=H.get r):jo H' x l:=⟨h.is.lM hn λr _ hr=> hg r hr,h.one,h.nil⟩
theorem zW {p:Pkt}{x:AV}(h:One x):(p.avx x).all AV.aJ=true:=by simp [Pkt.avx,fE,iO,h.2]
theorem Yu {p:Ent}{x:AV}(h:One x):(p.avx x).all AV.aJ=true:=by simp [Ent.avx,fE,iO,h.2]
section
variable {b:Nat}{H H':aj}{g:Store}{q:Nat}{cs:List Cell}
theorem OS.own {τ:Nat->Option Tag}{T:Tag}{x:AV}{m:Nat}{l:List AV}(h:OS b H τ T x m l):Own b H x m l:=by
 rcases h with h | ⟨r,g,off,n,cap,ex,ty,all,k0,_,k2⟩
 ·exact .inl h
 ·exact .inr ⟨r,g,off,n,cap,ex,ty,all,k0,k2⟩
theorem Own.one {x:AV}{m:Nat}{l:List AV}(h:Own b H x m l):One x:=by
 rcases h with⟨rfl,_⟩ | ⟨r,g,off,n,cap,ex,ty,all,rfl,_⟩
 ·exact mg
 ·exact qI
theorem Pm {α:Type}:∀{es:List (Int × α)} {n:Int} {v:α},gU es n=some v->∃j:Nat,es[j]?=some (n,v)/\∀k,k < j->∀e,es[k]?=some e->e.1≠n
 | [],_,_,h=> by cases h
 | (k,w)::es,n,v,h=> by
  simp only [gU] at h;split at h
  ·rename_i e;subst e;cases h;exact⟨0,rfl,λk hk=> by omega⟩
  ·rename_i e;obtain⟨j,h1,h2⟩:=Pm h;refine⟨j+1,h1,λk hk x hx=> ?_⟩;cases k with
   | zero=> cases hx;exact e
   | succ k=> exact h2 k (by omega) x (by simpa using hx)
theorem BU {α:Type}:∀{es:List (Int × α)} {n:Int},gU es n=none↔n∉es.map (·.1)
 | [],_=> by simp [gU]
 | (k,w)::es,n=> by
  simp only [gU];by_cases e:k=n
  ·simp [e]
  ·simp only [e,if_false,zaz,zal,not_or];rw [BU];exact⟨λh=> ⟨λh'=> e h'.symm,h⟩,λh=> h.2⟩
theorem oO:∀(es:List (Int × AV)) (n:Int),lX es n=gU es n
 | [],_=> rfl
 | (k,w)::es,n=> by
  simp only [lX,gU];split
  ·rfl
  ·exact oO es n
theorem Jz {α β:Type}:∀{es:List (Int × α)} {az:List (Int × β)} {n:Int},az.map (·.1)=es.map (·.1)->(gU es n=none↔gU az n=none):=by
 intro es az n h;rw [BU,BU,h]
theorem BX {α β:Type}:∀{es:List (Int × α)} {az:List (Int × β)} {n:Int} {v:α},az.map (·.1)=es.map (·.1)->gU es n=some v->∃(j:Nat) (w:β),gU az n=some w/\es[j]?=some (n,v)/\az[j]?=some (n,w)
 | [],_,_,_,_,h=> by cases h
 | (k,v0)::es,[],_,_,h,_=> by simp at h
 | (k,v0)::es,(k',w0)::az,n,v,h,h'=> by
  simp only [zaz,zbz] at h;obtain⟨rfl,h⟩:=h;simp only [gU] at h' ⊢;split at h'
  ·rename_i e;subst e;cases h';exact⟨0,w0,by simp,rfl,rfl⟩
  ·rename_i e;obtain⟨j,w,h1,h2,h3⟩:=BX h h';exact⟨j+1,w,by simp only [e,if_false];exact h1,h2,h3⟩
theorem Good.maps(G:Good b H g)(h:g q=some cs){i m:Nat}{k:IntKind}{es:List (Int × List AV)}(hi:cs[i]?=some (.maps k m es)):
  ∃r,ld (.ref q 0 i) H=some (.mp r,H)/\lnM (.mp r) H=some (I es.length,H)/\∀z n,∃x,(gU es n=none->x=.s z)/\(∀l,gU es n=some l->Own b H x m l)/\∀ok,lk k z (.mp r) (.s (.int k n)) ok H=some ((if ok then .tup [x,B (gU es n).isSome] else x),H):=by
 obtain⟨h0,τ,hR⟩:=G;have R:=hR q cs h;obtain⟨ty,xs,h1,h2,h3,h4⟩:=R.blk;have hlt:i < xs.length:=by rw [h2];exact(zam.1 hi).1
 have hx:xs[i]?=some (xs[i]'hlt):=zad hlt;have:=h4 i _ _ hi hx;simp only [CR] at this;obtain⟨aes,⟨r,e,t1,t2,t3,t4⟩,a2,a3⟩:=this;rw [e] at hx;refine⟨r,by rw [jV h1,hx];rfl,?_,λz n=> ?_⟩
 ·simp only [lnM,iL,aS,zah,aix,t4];have:=congrArg List.length a2;simp only [zaA] at this;rw [this]
 ·cases hn:gU es n with
  | none=>
   have hf:lX aes n=none:=by rw [oO];exact(Jz a2).1 hn
   refine⟨.s z,λ_=> rfl,λl hl=> (by cases hl),λok=> ?_⟩;simp only [lk,iL,aS,zah,lkO,t4,and_self,if_true,hf];cases ok <;> rfl
  | some l=>
   obtain⟨j,w,b1,b2,b3⟩:=BX a2 hn;refine⟨w,λh=> (by cases h),λl' hl=> (by cases hl;exact(a3 j n l w b2 b3).own),λok=> ?_⟩;simp only [lk,iL,aS,zah,lkO,t4,and_self,if_true,oO,b1];cases ok <;> rfl
end
theorem JA(H:aj){l:List Int}(hl:l.length < 1000000000){x:AV}(hx:jo H x l):cl 46 [x] H=some (dat l,H):=by
 by_cases h:l=[]
 ·rw [hx.nil h];subst h;have t:=jm H [] (by simp);have z:dat ([]:List Int)=zN:=by simp [dat,fZ]
  rw [z] at t ⊢;exact t
 ·have h0:l.length≠0:=λe=> h (zao e);have e2:=oG (e:=3) (by_:=8) (r:=H.guard.next) (H:=H.guard.new (.blk 0 3 [])) mD (hx.is.guard.new _) (zT l) h0 (by unfold most;omega) (by unfold most;omega);simp only [Qq,nNew] at e2;refine jc rfl rfl (L8 _ _ _ (r:=(.sl (H.next+1) 0 0 1 l.length l.length false,(H.guard.new (.blk 0 3 [])).new (.blk 0 (3+dV) (l.map I)))) ?_) ?_
  ·have e1:bi .eql 22 x zN=some (B false):=aH.Vp Tryz.underlying22 hx.is h0;simp -implicitDefEqProofs only [xq_,Jh,e1,yR,uO,e2,za7,zaQ]
  ·rw [wJ h];refine ji (by omega) (cells:=l.map I) ?_ (fG _ λx hx=> sV l x hx _ _);simp only [aW,fU,nNew,Qq,if_true];rw [if_pos (by simp),zaM,zax (by simp)]
theorem Gv(e:Ent){d:Nat}:∀x∈e.av,Frz (d+2) x:=λx hx=> by
 simp only [Ent.av,zal,zaF,or_false] at hx;rcases hx with rfl | rfl | rfl | rfl | rfl | rfl <;> first | exact gK | exact uN
theorem Vx(e:Row){d:Nat}:∀x∈e.av,Frz (d+2) x:=λx hx=> by
 simp only [Row.av,zal,zaF,or_false] at hx;rcases hx with rfl | rfl | rfl <;> first | exact gK | exact uN
theorem qw:Ent.zero.av=[zI,zI,zI,zI,zB,zN]:=by simp [Ent.zero,Ent.av,dat,fZ]
theorem Pn:Row.zero.av=[zI,zI,zN]:=by simp [Row.zero,Row.av,dat,fZ]
theorem Po(H:aj)(e:Ent){x:AV}(hl:e.data.length < 1000000000)(hx:jo H x e.data):cl 72 [.agg (e.avx x)] H=some (.agg e.av,H):=by
 refine bI rfl rfl (ajl _ _ _) ?_ (lG (Gv e));have e1:=λo o'=> JA ((H.guard.new o).new o') hl ((hx.guard.new o).new o');simp -implicitDefEqProofs only [Nat.reduceLT,Nat.reduceAdd,setAt,xq_,hq_,afe,aB,hx.one.2,Ent.avx,e1,Ent.av]
section
variable {b:Nat}{H:aj}{g:Store}{q:Nat}
theorem akU(H:aj)(e:Ent){r:Nat}{line:Int}(h:∀H':aj,H'.get=H.get->ld (.ref r 0 0) H'=some (I line,H'))(hr:r < H.next):cl 120 [.agg e.av,.ref r 0 0] H=some (B (decide (e.line=line)),H):=by
 refine bI rfl rfl (afX _ _ _ _) ?_ gK;have e1:=h H.guard rfl;simp -implicitDefEqProofs only [Nat.reduceLT,xq_,hq_,aah,aB,Ent.av,e1,hr]
theorem BZ(G:Good b H g){c:Cache}(h:g q=some (aV c))(hl:c.l.length < 1000000)(line:Int):cl 71 [.ref q 0 0,I line] H=some (I (Ph (c.at_ line)),H):=by
 refine bI rfl rfl (ajk _ _ _ _) ?_ gK;have G1:=G.guard.new (.blk 0 3 [I line]);obtain⟨x,hx,c1⟩:=G1.seq h (i:=0) rfl;have hs:=c1.is (by decide) (bH bD c.l);have e2:=Ju (H.guard.new (.blk 0 3 [I line])) (enc:=Ent.av) bD (f:=.fn (.func 120) [] [.ref H.next 0 0]) hs (by omega) (λe=> decide (e.line=line)) (λe _=> by
  rw [IZ (by kernel_rfl)];exact akU _ e (λH' hg=> by rw [jV (g:=0) (ty:=3) (xs:=[I line]) (by rw [hg];exact aP rfl)];rfl) (by rw [nNew,Qq];omega))
 have eb:iC 3 (I line) H.guard=some (.ref H.next 0 0,H.guard.new (.blk 0 3 [I line])):=rfl;simp -implicitDefEqProofs only [xq_,afd,eb,hx,e2];rfl
theorem nN {α:Type}{p:α->Bool}:∀l:List α,(l.findIdx? p).bind (λi=> l[i]?)=l.find? p
 | []=> rfl
 | a::l=> by
  rw [List.findIdx?_cons,List.find?_cons];cases h:p a with
  | true=> simp
  | false=>
   simp only [zaf,if_false];rw [<-nN l];cases l.findIdx? p <;> simp
def ku(o:Option Ent):AV:=.tup [.agg (o.getD .zero).av,B o.isSome]
theorem QE(o:Option Ent):Frz 9 (ku o):=rE λx hx=> by
 simp only [zal,zaF,or_false] at hx;rcases hx with rfl | rfl
 ·exact lG (Gv _)
 ·exact gK
theorem lu(G:Good b H g){c:Cache}(h:g q=some (aV c))(hl:c.l.length < 1000000)(hd:∀e∈c.l,e.data.length < 1000000000)(line:Int):cl 37 [.ref q 0 0,I line] H=some (ku (c.find line),H):=by
 refine bI rfl rfl (aiW _ _ _ _) ?_ (QE _);have G1:=G.guard.new (.blk 0 93 [zI,zI,zI,zI,zB,zN]);have e1:=BZ G1 h hl line;have hf:c.find line=(c.at_ line).bind λi=> c.l[i]?:=(nN c.l).symm;cases ha:c.at_ line with
 | none=>
  rw [ha] at e1 hf;have hn:Ph (none:Option Nat)=-1:=rfl;rw [hn] at e1;simp -implicitDefEqProofs only [Int.reduceLT,Int.reduceNeg,Nat.reduceAdd,setAt,xq_,hq_,ab5,e1,ad2,iV,bT,hf,ku,qw,zaR,zaC,Option.bind_none]
 | some i=>
  rw [ha] at e1 hf;have hi:i < c.l.length:=zbi.1 ha |>.1
  obtain⟨e,he⟩:∃e,c.l[i]?=some e:=⟨_,zad hi⟩
  have hn:Ph (some i)=(i:Int):=rfl;rw [hn] at e1;have h0:¬(i:Int) < 0:=by omega
  obtain⟨x,hx,c1⟩:=G1.seq h (i:=0) rfl;have hs:=c1.is (by decide) (bH bD c.l);have e3:=hs.ix (k:=.i64) (i:=(i:Int)) (by omega) (by omega);rw [zaB] at e3;have e4:=kU bD hs he;have e5:=λH=> Po H e (hd e (zaK he)) (lT H e.data);have e6:e.avx (dat e.data)=e.av:=rfl;rw [e6] at e5;have hf':c.find line=some e:=by rw [hf];exact he
  simp -implicitDefEqProofs only [Nat.reduceAdd,setAt,xq_,hq_,ab5,e1,h0,hx,e3,e4,e5,hf',ku,zas,zaE]
theorem aa1(G:Good b H g){c:Cfg}{rows:Rows}(h:g q=some (zU c rows))(hd:∀e∈rows,e.2.data.length < 1000000000)(line:Int):cl 74 [.ref q 0 0,I line] H=some (.tup [.agg (rowOf rows line).av,B (gU rows line).isSome],H):=by
 refine bI rfl rfl (ajm _ _ _ _) ?_ (rE λx hx=> ?_)
 ·have G1:=G.guard.new (.blk 0 100 [zI,zI,zN]);obtain⟨r,f1,f2,_⟩:=G1.map h (i:=8) rfl;have f3:=f2 (.agg #[.int .i64 0,.int .i64 0,.slice none 0 0]) line true;rw [sN] at f3;cases hr:gU rows line with
  | none=>
   have e5:=λH=> jm H [] (by simp);have z0:dat ([]:List Int)=zN:=by simp [dat,fZ]
   rw [z0] at e5;have zc:AV.cells (.s (.agg #[.int .i64 0,.int .i64 0,.slice none 0 0]))=[zI,zI,zN]:=rfl;simp only [hr,Option.map_none,if_true] at f3;have zn:zN.aJ=true:=rfl;have zn':zN.cells=[zN]:=rfl;simp -implicitDefEqProofs only [Nat.reduceAdd,setAt,xq_,hq_,acg,f1,f3,zc,e5,rowOf,hr,Pn,zaR,zaC,zn,zn']
  | some w=>
   simp only [hr,zah,if_true] at f3;have hm:w.data.length < 1000000000:=by
    obtain⟨j,hj,_⟩:=Pm hr;exact hd _ (zaK hj)
   have e5:=λH=> jm H w.data hm;simp -implicitDefEqProofs only [Nat.reduceAdd,setAt,xq_,hq_,acg,f1,f3,Row.av,e5,rowOf,hr,zas,zaE]
 ·simp only [zal,zaF,or_false] at hx;rcases hx with rfl | rfl
  ·exact lG (Vx _)
  ·exact gK
theorem QF(G:Good b H g){t:Turns}(h:g q=some (fB t))(line:Int):cl 75 [.ref q 0 0,I line] H=some (I (t.owner line),H):=by
 refine bI rfl rfl (ajn _ _ _ _) ?_ gK;obtain⟨r,f1,f2,_⟩:=G.guard.map h (i:=0) rfl;have f3:=f2 (.int .i64 0) line true;rw [sN] at f3;cases hr:gU t.fM line with
 | none=>
  simp only [hr,Option.map_none,if_true] at f3;simp -implicitDefEqProofs only [Int.reduceNeg,xq_,ach,f1,f3,Turns.owner,hr,zaR]
 | some w=>
  simp only [hr,zah,if_true] at f3;simp -implicitDefEqProofs only [Int.reduceNeg,xq_,ach,f1,f3,Turns.owner,hr,zas]
theorem sZ(G:Good b H g){t:Turns}(h:g q=some (fB t))(line:Int):cl 193 [.ref q 0 0,I line] H=some (B (t.owned line),H):=by
 refine bI rfl rfl (agV _ _ _ _) ?_ gK;obtain⟨r,f1,f2,_⟩:=G.guard.map h (i:=0) rfl;have f3:=f2 (.int .i64 0) line true;rw [sN] at f3;cases hr:gU t.fM line with
 | none=>
  simp only [hr,Option.map_none,if_true] at f3;simp -implicitDefEqProofs only [xq_,U0,f1,f3,Turns.owned,hr,zaC]
 | some w=>
  simp only [hr,zah,if_true] at f3;simp -implicitDefEqProofs only [xq_,U0,f1,f3,Turns.owned,hr,zaE]
def CZ(w:Int × Int):List AV:=[I w.1,I w.2]
theorem Gw {α β:Type}(f:α->β):∀(es:List (Int × α)) (n:Int),gU (es.map λe=> (e.1,f e.2)) n=(gU es n).map f
 | [],_=> rfl
 | (k,v)::es,n=> by
  simp only [zaz,gU];split
  ·rfl
  ·exact Gw f es n
theorem ahq(G:Good b H g){t:Turns}(h:g q=some (fB t))(line:Int):∃r x,ld (.ref q 0 1) H=some (.mp r,H)/\lk .i64 (.slice none 0 0) (.mp r) (I line) false H=some (x,H)/\Own b H x 2 ((t.ws line).flatMap CZ):=by
 obtain⟨r,f1,_,f2⟩:=G.maps h (i:=1) rfl;obtain⟨x,x1,x2,x3⟩:=f2 (.slice none 0 0) line;refine⟨r,x,f1,x3 false,?_⟩;rw [Gw (λl:List (Int × Int)=> l.flatMap λw=> [I w.1,I w.2])] at x1 x2;simp only [show(λw:Int × Int=> [I w.1,I w.2])=CZ from rfl] at x1 x2;cases hr:gU t.wait line with
 | none=>
  rw [hr] at x1;exact .inl ⟨x1 rfl,by simp [Turns.ws,hr]⟩
 | some w=>
  rw [hr] at x2;have:=x2 _ rfl
  simpa [Turns.ws,hr] using this
theorem rX(G:Good b H g){t:Turns}(h:g q=some (fB t))(line:Int):cl 194 [.ref q 0 0,I line] H=some (I (t.ws line).length,H):=by
 refine bI rfl rfl (agW _ _ _ _) ?_ gK;obtain⟨r,x,f1,f2,f3⟩:=ahq G.guard h line;have e:=(f3.is (n:=(t.ws line).length) (by decide) (bH (enc:=CZ) (λ_=> rfl) _)).lnS;simp -implicitDefEqProofs only [xq_,aaR,f1,f2,e]
theorem Yv {e m by_ r ty:Nat}{y:AV}{H:aj}(hx:H.get r=.blk 0 ty [])(hy:aH H y m 0 []):app e m by_ (.sl r 0 0 m 0 0 true) y H=some (.sl r 0 0 m 0 0 true,H):=by
 obtain⟨c1,c2⟩:=hy.uh;simp only [app,c1,c2,bQ];rw [if_pos ⟨by simp,rfl⟩];simp only [hx];rw [if_pos ⟨trivial,trivial,by simp⟩,if_pos trivial]
theorem MI(H:aj){l:List Int}(hl:l.length < 1000000000){x:AV}(hx:aH H x 1 l.length (l.flatMap encI))(hf:∀a:Int,∀z∈encI a,Frz 8 z)(ha:∀a:Int,(encI a).all AV.aJ=true)(hm:∀a:Int,(encI a).length=1):∃y,cl 46 [x] H=some (y,H)/\∀H':aj,aH H' y 1 l.length (l.flatMap encI):=by
 by_cases hz:x=zN
 ·subst hz;have h0:l=[]:=by
   have h1:=hx.2.2.2;exact zao h1
  subst h0;refine⟨zN,jc rfl rfl (L8 _ _ _ (r:=(zN,H.guard)) ?_) kS,λ_=> aH.nil⟩;have e:bi .eql 22 zN zN=some (B true):=by kernel_rfl
  simp -implicitDefEqProofs only [xq_,Jh,e]
 ·have e1:bi .eql 22 x zN=some (B false):=by
   obtain⟨_,hx⟩:=hx;cases x with
   | sl r g o m n c ex=> exact xE Tryz.underlying22
   | vs n m l=> exact oH Tryz.underlying22
   | s v=>
    cases v with
    | slice a b c=>
     cases a with
     | none=> obtain⟨rfl,rfl,_⟩:=hx;exact absurd rfl hz
     | some a=> exact hx.elim
    | _=> exact hx.elim
   | _=> exact hx.elim
  let H1:=H.guard.new (.blk 0 3 []);have x1:aH H1 x 1 l.length (l.flatMap encI):=hx.guard.new _;by_cases h:l=[]
  ·subst h;have e2:=Yv (e:=3) (by_:=8) (r:=H.next) (H:=H1) (aP rfl) x1;refine⟨.vs 0 1 [],jc rfl rfl (L8 _ _ _ (r:=(.sl H.next 0 0 1 0 0 true,H1)) ?_) ?_,λ_=> aH.vs rfl⟩
   ·simp only [H1] at e2;simp -implicitDefEqProofs only [xq_,Jh,e1,yR,uO,e2,za7,zaQ];rfl
   ·refine ji (zab _) (cells:=[]) ?_ rfl;have:H1.get H.next=.blk 0 3 []:=aP rfl
    simp only [aW,this];rfl
  ·have h0:l.length≠0:=λe=> h (zao e);have e2:=oG (e:=3) (by_:=8) (r:=H.next) (H:=H1) (aP rfl) x1 (Oi ha l) h0 (by unfold most;omega) (by unfold most;omega);refine⟨.vs l.length 1 (l.flatMap encI),jc rfl rfl (L8 _ _ _ (r:=(.sl (H.next+1) 0 0 1 l.length l.length false,H1.new (.blk 0 (3+dV) (l.flatMap encI)))) ?_) ?_,λ_=> aH.vs (bH hm l)⟩
   ·have n1:H1.next=H.next+1:=rfl
    rw [n1] at e2;simp only [H1] at e2;simp -implicitDefEqProofs only [xq_,Jh,e1,yR,uO,e2,za7,zaQ];rfl
   ·refine ji (by omega) (cells:=l.flatMap encI) ?_ (fG _ λz hz=> Pg hf l z hz _ _);have:(H1.new (.blk 0 (3+dV) (l.flatMap encI))).get (H.next+1)=.blk 0 (3+dV) (l.flatMap encI):=aP rfl;simp only [aW,this];rw [if_pos ⟨trivial,by rw [bH hm];omega⟩,zaM,zax (by rw [bH hm];exact zab _)]
theorem Vy {x:AV}{m n:Nat}{cells:List AV}(h:∀H':aj,aH H' x m n cells)(hz:∀z∈cells,Frz 8 z):Frz 9 x:=by
 have h0:=h aj.empty;obtain⟨hl,h1⟩:=h0;cases x with
 | sl r g o m n c ex=> exact absurd h1.2.2.1.1 (by simp [aj.empty])
 | vs n m l=> obtain⟨_,_,rfl⟩:=h1;exact ZF hz
 | s v=> exact gK
 | _=> exact h1.elim
theorem QG(G:Good b H g){p:Proc}(h:g q=some (mW p))(h2:p.values.length < 1000):∃x,cl 29 [.ref q 0 0] H=some (x,H)/\∀H':aj,aH H' x 1 p.values.length (p.values.map I):=by
 obtain⟨x,hx,c⟩:=G.guard.seq h (i:=1) rfl;obtain⟨y,e,hy⟩:=MI H.guard (l:=p.values) (by omega) (by rw [vM];exact c.is (by decide) (by simp)) (λa z hz=> by simp only [encI,zaO] at hz;subst hz;exact gK) (λ_=> rfl) (λ_=> rfl);rw [vM] at hy;refine⟨y,bI rfl rfl (aiO _ _ _) ?_ (Vy hy (sV _)),hy⟩;simp -implicitDefEqProofs only [xq_,aeP,hx,e]
theorem acE(G:Good b H g){a:Nat->Nat}{c:Cfg}{me:Int}{n:Node}(N:mM g a c me n)(hd:∀e∈n.home.rows,e.2.data.length < 1000000000)(line:Int):cl 40 [.ref (a 0) 0 0,I line] H=some (.tup [.agg (rowOf n.home.rows line).av,B (gU n.home.rows line).isSome],H):=by
 obtain⟨h0,h1,h2,h3,h4,h5⟩:=N;refine bI rfl rfl (aiZ _ _ _ _) ?_ (rE λx hx=> ?_)
 ·have G1:=G.guard.new (.blk 0 100 [zI,zI,zN]);have l1:=G1.load h0 (i:=11) (x:=.ref (a 3) 0 0) rfl;have l2:=G1.load h3 (i:=0) (x:=.ref (a 4) 0 0) rfl;have e:=aa1 G1 h4 hd line;simp -implicitDefEqProofs only [Nat.reduceAdd,setAt,xq_,hq_,aeY,l1,l2,e]
 ·simp only [zal,zaF,or_false] at hx;rcases hx with rfl | rfl
  ·exact lG (Vx _)
  ·exact gK
end
def rY:List (List Pkt)->Nat->Int->Option (Nat × Int)
 | [],_,_=> none
 | l::ls,j,at_=> if 0<=at_/\at_ < l.length then some (j,at_) else rY ls (j+1) (at_ - l.length)
theorem oP:∀{ls:List (List Pkt)} {j:Nat} {at_:Int} {j':Nat} {k:Int},rY ls j at_=some (j',k)->j<=j'/\∃l,ls[j' - j]?=some l/\0<=k/\k < l.length/\0<=at_/\ls.flatten[at_.toNat]?=l[k.toNat]?
 | [],_,_,_,_,h=> by cases h
 | l::ls,j,at_,j',k,h=> by
  simp only [rY] at h;split at h
  ·rename_i hc;cases h;refine⟨zab _,l,by simp,hc.1,hc.2,hc.1,?_⟩;rw [List.flatten_cons,zaW (by omega)]
  ·rename_i hc;obtain⟨h1,l',h2,h3,h4,h5,h6⟩:=oP h;refine⟨by omega,l',by rw [show j' - j=(j' - (j+1))+1 by omega];simpa using h2,h3,h4,by omega,?_⟩;rw [List.flatten_cons,zaT (by omega),<-h6]
   congr 1;omega
theorem xZ:∀{ls:List (List Pkt)} {j:Nat} {at_:Int},rY ls j at_=none->at_ < 0∨(ls.flatten.length:Int)<=at_
 | [],_,_,_=> by simp;omega
 | l::ls,j,at_,h=> by
  simp only [rY] at h;split at h
  ·cases h
  ·rename_i hc;have:=xZ h;rw [List.flatten_cons,zan];omega
theorem x8:∀l:List Port,(l.flatMap λp=> [p.rq,p.an]).flatten=l.flatMap λp=> p.rq++p.an
 | []=> rfl
 | p::l=> by simp [x8 l]
def iQ(P:Nat->Nat->Nat)(j:Nat):List AV:=[.ref (P (j / 2) (if j % 2=0 then 0 else 2)) 0 0,.ref (P (j / 2) (if j % 2=0 then 1 else 3)) 0 0]
theorem JB {P:Nat->Nat->Nat}{n j:Nat}(h:j < 2*n):((gW P n).drop (j*2)).take 2=iQ P j:=by
 have hi:j / 2 < n:=by omega
 have hfl:=flat_get (m:=4) (enc:=λi=> kK (P i)) (λ_=> rfl) (List.range n) (j / 2) (j / 2) (zbL hi);rcases Nat.mod_two_eq_zero_or_one j with h0 | h0
 ·have e:((gW P n).drop (j*2)).take 2=(((gW P n).drop (j / 2*4)).take 4).take 2:=by
   rw [zbP,show j / 2*4=j*2 by omega];rfl
  rw [e];refine(congrArg (List.take 2) hfl).trans ?_;simp [iQ,h0,kK]
 ·have e:((gW P n).drop (j*2)).take 2=((((gW P n).drop (j / 2*4)).take 4).drop 2).take 2:=by
   rw [zbZ,zbq,zbP,show j / 2*4+2=j*2 by omega];rfl
  rw [e];refine(congrArg (λl=> (List.drop 2 l).take 2) hfl).trans ?_;simp [iQ,h0,kK]
theorem Vz {g:Store}{f:Nat}{P:Nat->Nat->Nat}{c:Cfg}{fab:Fab}(F:dU g f P c fab){j:Nat}{l:List Pkt}(h:fab.jU[j]?=some l):
  g (P (j / 2) (if j % 2=0 then 0 else 2))=some (jY l c.out):=by
 have hj:j < 2*fab.l.length:=by
  have:=(zam.1 h).1
  rwa [Fab.jU,qo] at this
 obtain⟨l',a,a',h1,h2,h3⟩:=F.ahp hj;rw [h] at h1;cases h1;rw [JB hj] at h2;simp only [iQ,zbz,AV.ref.injEq,and_true] at h2;rw [h2.1];exact h3
section
variable {b:Nat}{H:aj}{g:Store}{f:Nat}{P:Nat->Nat->Nat}{c:Cfg}{fab:Fab}
def rZ(P:Nat->Nat->Nat):Option (Nat × Int)->AV
 | some (j,k)=> .tup [.agg (iQ P j),I k,B true]
 | none=> .tup [.agg [zP,zP],I 0,B false]
theorem VA(G:Good b H g)(F:dU g f P c fab)(hn:fab.l.length < 1000)(h0:fab.l.length≠0)(hr:∀l∈fab.jU,l.length < 1000)(at_:Int)(h64:In64 at_):
  cl 52 [.ref f 0 0,I at_] H=some (rZ P (rY fab.jU 0 at_),H):=by
 have hpl:fab.jU.length=2*fab.l.length:=qo _;have hpx:(gW P fab.l.length).length=(2*fab.l.length)*2:=by rw [gW,nM];omega
 let H0:=H.guard.new (.blk 0 115 [zP,zP]);have ep:=Yq (G.guard.new (.blk 0 115 [zP,zP])) F hn h0;have xs:∀H':aj,aH H' (.vs (2*fab.l.length) 2 (gW P fab.l.length)) 2 (2*fab.l.length) (gW P fab.l.length):=λH'=> aH.vs hpx;let fnd:=rY fab.jU 0 at_;have key:∀k j,j+k=2*fab.l.length->∀(Hi:aj) (a:Int),H0.next<=Hi.next->Hi.base=H.next->(∀r,r < H0.next->Hi.get r=H0.get r)->In64 a->
   ((0<=a/\fnd=rY (fab.jU.drop j) j a)∨((a < 0∨9223372036854775808 - 1000 - 1000*(j:Int)<=a)/\fnd=none))->
   (FV cl [I a,.ref H.next 0 0,.vs (2*fab.l.length) 2 (gW P fab.l.length),I (2*fab.l.length:Nat),I j] Hi).map Prod.fst=some (rZ P fnd):=by
  intro k
  induction k with
  | zero=>
   intro j hj Hi a n1 b1 s1 ha hc;have h1:¬(j:Int) < (2*fab.l.length:Nat):=by omega
   have hf:fnd=none:=by
    rcases hc with⟨_,hc⟩ | ⟨_,hc⟩
    ·rw [hc,zaN (by omega)];rfl
    ·exact hc
   have g0:Hi.get H.next=.blk 0 115 [zP,zP]:=by rw [s1 _ (by show H.next < H.next+1;omega)];exact aP rfl
   have hb1:Hi.base<=H.next:=by omega
   have e0:bd 115 []=some (.agg [zP,zP]):=by simp -implicitDefEqProofs only [xq_,Zk,iV,dW]
   have e1:=ZP (H:=Hi) (r:=H.next) (off:=0) (n:=2) (v:=.agg [zP,zP]) g0 hb1 rfl rfl (by decide);rw [hf,Ui];have e2:=fV (H:=Hi.put H.next (.blk 0 115 (setAt [zP,zP] 0 [zP,zP]))) (r:=H.next) (off:=0) (n:=2) (g:=0) (ty:=115) (xs:=[zP,zP]) IX (by decide);have hs:setAt [zP,zP] 0 [zP,zP]=[zP,zP]:=rfl;simp only [dN,hs] at e1 e2;simp -implicitDefEqProofs only [Nat.reduceAdd,setAt,xq_,hq_,h1,e0,e1,e2,rZ]
  | succ k ih=>
   intro j hj Hi a n1 b1 s1 ha hc;have h1:(j:Int) < (2*fab.l.length:Nat):=by omega
   have h6:(j:Int)+1=((j+1:Nat):Int):=by omega
   have h7:=wrap_i64 (a:=((j+1:Nat):Int)) (by omega) (by omega);have a1:=(xs Hi).ix (k:=.i64) (i:=(j:Int)) (by omega) h1;rw [zaB] at a1;have a3:=(xs Hi).lda (i:=j) (by omega);rw [JB (by omega)] at a3;obtain⟨l,hl⟩:∃l,fab.jU[j]?=some l:=⟨_,zad (by omega)⟩
   have p3:=Vz F hl;have hlen:=hr l (zaK hl);let H1:=Hi.new (.blk 0 115 (iQ P j));have G1:Good b H1 g:=(((G.guard.new _).ext n1 s1).new _)
   have e3:=acC G1 p3;have sb:Hi.base<=Hi.next:=by have:H.next+1<=Hi.next:=n1;omega
   have lt0:H.next < Hi.next:=n1
   have hd:fab.jU.drop j=l::fab.jU.drop (j+1):=by
    rw [zbA (by omega)];rw [zad (by omega)] at hl;rw [za9 hl]
   rw [Ui];simp only [H1,iQ] at e3;by_cases hin:0<=a/\a < l.length
   ·have hf:fnd=some (j,a):=by
     rcases hc with⟨_,hc⟩ | ⟨hc,_⟩
     ·rw [hc,hd,rY,if_pos hin]
     ·omega
    have g0:Hi.get H.next=.blk 0 115 [zP,zP]:=by rw [s1 _ (by show H.next < H.next+1;omega)];exact aP rfl
    have hb1:Hi.base<=H.next:=by omega
    have e1:=ZP (H:=Hi.new (.blk 0 115 (iQ P j))) (r:=H.next) (off:=0) (n:=2) (v:=.agg (iQ P j)) (by rw [cZ lt0];exact g0) (by rw [bNew];exact hb1) rfl rfl (by decide);have e2:=fV (H:=(Hi.new (.blk 0 115 (iQ P j))).put H.next (.blk 0 115 (setAt [zP,zP] 0 (iQ P j)))) (r:=H.next) (off:=0) (n:=2) (g:=0) (ty:=115) (xs:=setAt [zP,zP] 0 (iQ P j)) IX (by simp [iQ,setAt]);simp only [dN,iQ] at e1 e2;have hs:∀x y:AV,setAt [zP,zP] 0 [x,y]=[x,y]:=λ_ _=> rfl;have h0:=hin.1;have h2:=hin.2;rw [hf];simp only [hs] at e1 e2;simp -implicitDefEqProofs only [Nat.reduceAdd,setAt,xq_,hq_,h1,a1,a3,iQ,sb,h0,h2,e3,e1,e2,rZ]
   ·have hw:∃a',IntKind.wrap .i64 (a - l.length)=a'/\In64 a'/\((0<=a'/\fnd=rY (fab.jU.drop (j+1)) (j+1) a')∨((a' < 0∨9223372036854775808 - 1000 - 1000*((j+1:Nat):Int)<=a')/\fnd=none)):=by
     rcases hc with⟨hc0,hc⟩ | ⟨hc,hn⟩
     ·refine⟨a - l.length,wrap_i64 (by omega) (by have:=ha.2;omega),⟨by omega,by have:=ha.2;omega⟩,.inl ⟨by omega,?_⟩⟩;rw [hc,hd,rY,if_neg hin]
     ·by_cases hlow:-9223372036854775808<=a - l.length
      ·refine⟨a - l.length,wrap_i64 hlow (by have:=ha.2;omega),⟨hlow,by have:=ha.2;omega⟩,.inr ⟨?_,hn⟩⟩;rcases hc with hc | hc
       ·left;omega
       ·right;omega
      ·refine⟨a - l.length+18446744073709551616,?_,⟨by have:=ha.1;omega,by omega⟩,.inr ⟨.inr (by have:=ha.1;omega),hn⟩⟩;have:a - l.length+18446744073709551616=IntKind.wrap .i64 (a - l.length):=by
        simp [IntKind.wrap,IntKind.signed,IntKind.bits];have:=ha.1;omega
       exact this.symm
    obtain⟨a',w1,w2,w3⟩:=hw;have r1:=ih (j+1) (by omega) (Hi.new (.blk 0 115 (iQ P j))) a' (zbI n1) b1 (λr hr=> by rw [cZ (by omega)];exact s1 r hr) w2 w3;simp only [iQ] at r1;by_cases h0:0<=a
    ·have h2:¬a < l.length:=by omega
     simp -implicitDefEqProofs only [Nat.reduceAdd,setAt,xq_,hq_,h1,a1,a3,iQ,sb,h0,h2,e3,gZ,w1,bV,h6,h7,r1]
    ·simp -implicitDefEqProofs only [Nat.reduceAdd,setAt,xq_,hq_,h1,a1,a3,iQ,sb,h0,e3,gZ,w1,bV,h6,h7,r1]
 have r1:=key (2*fab.l.length) 0 (by omega) H0 at_ (zab _) rfl (λ_ _=> rfl) h64 (by
  by_cases h:0<=at_
  ·exact .inl ⟨h,rfl⟩
  ·refine .inr ⟨.inl (by omega),?_⟩;cases hf:rY fab.jU 0 at_ with
   | none=> exact hf
   | some r=>
    obtain⟨j,k⟩:=r;obtain⟨_,l,_,_,_,h5,_⟩:=oP hf;omega)
 have hz:∀Hz,aU Hz H.next 9 (rZ P fnd)=some (rZ P fnd):=by
  intro Hz;cases hf:fnd with
  | none=> exact rE (λx hx=> by
    simp only [zal,zaF,or_false] at hx;rcases hx with rfl | rfl | rfl
    ·exact lG (λx hx=> by
      simp only [zal,zaF,or_false] at hx;rcases hx with rfl | rfl <;> exact gK)
    ·exact gK
    ·exact gK) Hz _
  | some r=>
   obtain⟨j,k⟩:=r;obtain⟨_,l,hl,_⟩:=oP hf;rw [Nat.sub_zero] at hl;have hj:j / 2 < fab.l.length:=by
    have:=(zam.1 hl).1;omega
   have l1:=F.lt G (i:=j / 2) (s:=if j % 2=0 then 0 else 2) hj (by split <;> omega);have l2:=F.lt G (i:=j / 2) (s:=if j % 2=0 then 1 else 3) hj (by split <;> omega);refine DY λx hx=> ?_;simp only [zal,zaF,or_false] at hx;rcases hx with rfl | rfl | rfl
   ·refine DW λx hx=> ?_;simp only [iQ,zal,zaF,or_false] at hx;rcases hx with rfl | rfl
    ·rw [aU];exact if_pos l1
    ·rw [aU];exact if_pos l2
   ·exact kS
   ·exact kS
 cases hs:QB cl (.ref f 0 0) (I at_) H.guard with
 | none=>
  exfalso;have e2:=(xs H0).lnS;simp only [H0] at ep e2 r1;have:(QB cl (.ref f 0 0) (I at_) H.guard).map Prod.fst=some (rZ P fnd):=by
   simp -implicitDefEqProofs only [xq_,QB,ep,e2];exact r1
  rw [hs] at this;cases this
 | some r=>
  have e2:=(xs H0).lnS;simp only [H0] at ep e2 r1;have:(QB cl (.ref f 0 0) (I at_) H.guard).map Prod.fst=some (rZ P fnd):=by
   simp -implicitDefEqProofs only [xq_,QB,ep,e2];exact r1
  rw [hs] at this;simp only [zah,zaa] at this;obtain⟨v,Hz⟩:=r;simp only at this;subst this;exact jc rfl rfl (ai4 _ _ _ _ hs) (hz Hz)
def Fab.pkt(f:Fab)(at_:Int):Option Pkt:=if at_ < 0 then none else f.all[at_.toNat]?
theorem VB(G:Good b H g)(F:dU g f P c fab)(hn:fab.l.length < 1000)(h0:fab.l.length≠0)(hr:∀l∈fab.jU,l.length < 1000/\∀p∈l,p.data.length < 1000000000)(at_:Int)(h64:In64 at_):
  cl 22 [.ref f 0 0,I at_] H=some (dZ (fab.pkt at_),H):=by
 have G1:=G.guard.new (.blk 0 70 [zI,zI,zI,zI,zI,zI,zI,zB,zN]);have e1:=VA G1 F hn h0 (λl hl=> (hr l hl).1) at_ h64;have hall:fab.jU.flatten=fab.all:=x8 fab.l;refine bI rfl rfl (aiL _ _ _ _) ?_ (xU _);cases hf:rY fab.jU 0 at_ with
 | none=>
  rw [hf] at e1;have hp:fab.pkt at_=none:=by
   have:=xZ hf;rw [hall] at this;unfold Fab.pkt;split
   ·rfl
   ·rw [zaH (by omega)]
  have zc:([zP,zP]:List AV).all AV.aJ=true:=rfl;simp -implicitDefEqProofs only [Nat.reduceAdd,setAt,xq_,hq_,ab4,e1,rZ,zc,uM,iV,bT,hp,dZ,dG,zaR,zaC,zak]
 | some r=>
  obtain⟨j,k⟩:=r;rw [hf] at e1;obtain⟨_,l,h2,h3,h4,h5,h6⟩:=oP hf;rw [Nat.sub_zero] at h2;have p3:=Vz F h2;have hp:fab.pkt at_=l[k.toNat]?:=by
   unfold Fab.pkt;rw [if_neg (by omega),<-hall,h6]
  have e2:=λo=> U9 (G1.new o) p3 (hr l (zaK h2)).1 (hr l (zaK h2)).2 k;have hk:¬k < 0:=by omega
  have ha:¬at_ < 0:=by omega
  simp only [hk,if_false] at e2;rw [hp];obtain⟨p,hpp⟩:∃p,l[k.toNat]?=some p:=⟨_,zad (by omega)⟩
  rw [hpp] at e2 ⊢;simp -implicitDefEqProofs only [Nat.reduceAdd,setAt,xq_,hq_,ab4,e1,rZ,iQ,ha,e2,dZ,zas,zaE,zae]
end
theorem Own.ref {b:Nat}{H:aj}{x:AV}{m n:Nat}{l:List AV}(o:Own b H x m l)(hm:0 < m)(hl:l.length=n*m){j:Nat}(hj:j < n):
  ∃r gg off,(∀k:IntKind,ix m x (.s (.int k j)) H=some (.ref r gg off,H))/\(∀k,k < m->ld (.ref r gg (off+k)) H=(l[j*m+k]?).map λv=> (v,H))/\lda m (.ref r gg off) H=some (.agg ((l.drop (j*m)).take m),H):=by
 have hs:=o.is hm hl;have hjm:(j+1)*m<=n*m:=zaw _ (by omega);rw [zbj,zbk] at hjm;rcases o with⟨_,h0⟩ | ⟨r,gg,off,n',cap,ex,ty,all,rfl,k2,k3,k4,k5,k6,k7,k8⟩
 ·rw [h0] at hl;simp only [zaq] at hl;omega
 have hn:n'=n:=hs.2.2.1;subst hn;have hcm:n'*m<=cap*m:=zaw _ k4;refine⟨r,gg,off+j*m,λk=> ?_,λk hk=> ?_,?_⟩
 ·have:=hs.ix (k:=k) (i:=(j:Int)) (by omega) (by omega);rw [zaB] at this;exact this
 ·rw [jV k5,k8,zau,if_pos (by omega),zay,zb4]
 ·rw [fV k5 (by omega),k8]
  congr 3
  rw [zbZ,zbq,zbP,zbc (by omega)]
theorem Own.name {b:Nat}{H:aj}{m:Nat}{x:AV}{l:List AV}(c:Own b H x m l){r:Nat}(h:nameOf x=some r):b<=r/\r < H.next:=by
 rcases c with⟨rfl,_⟩ | ⟨r',g,off,n',cap,ex,ty,all,rfl,k2,k3,_⟩
 ·cases h
 ·simp only [nameOf,zaa] at h;omega
theorem Gx {H1:aj}{n d m k:Nat}{x:AV}{cells:List AV}(c:Own n H1 x m cells)(hm:0 < m)(hl:cells.length=k*m)(hz:∀y∈cells,aU H1 n d y=some y):∃y,aU H1 n (d+1) x=some y/\∀H':aj,aH H' y m k cells:=by
 by_cases hx:x=zN
 ·subst hx;have hs:=c.is hm hl;have hk:k=0:=hs.2.2.2;have hc:cells=[]:=zao (by rw [hl,hk,za7]);subst hk;subst hc;exact⟨zN,kS,λH'=> aH.nil⟩
 ·have hs:=c.is hm hl;obtain⟨c1,c2⟩:=hs.uh;rcases c with⟨h,_⟩ | ⟨r,g,off,n',cap,ex,ty,all,rfl,k2,k3,k4,k5,k6,k7,rfl⟩
  ·exact absurd h hx
  ·have hn:n'=k:=hs.2.2.1;subst hn;exact⟨.vs n' m _,ji k2 c2 (fG _ hz),λH'=> aH.vs hl⟩
theorem QH {l:List Ent}(h:l.Pairwise λa b=> a.line < b.line){a b:Ent}(ha:a∈l)(hb:b∈l)(e:a.line=b.line):a=b:=by
 induction h with
 | nil=> cases ha
 | cons h1 _ ih=>
  rcases zal.1 ha with ha1 | ha1
  ·rcases zal.1 hb with hb1 | hb1
   ·rw [ha1,hb1]
   ·have:=h1 b hb1;rw [ha1] at e;omega
  ·rcases zal.1 hb with hb1 | hb1
   ·have:=h1 a ha1;rw [hb1] at e;omega
   ·exact ih ha1 hb1
theorem aeB.find {c:Cfg}{me:Int}{n:Node}{r:dh}(S:aeB c me n r){e:Ent}(he:e∈r.cache.l):n.cache.find e.line=some e:=by
 unfold Cache.find;cases hf:n.cache.l.find? λx=> decide (x.line=e.line) with
 | none=>
  have:=zbF.1 hf e (S.perm.mem_iff.2 he);simp at this
 | some x=>
  have h1:=List.find?_some hf;have h2:=zaX hf;simp only [decide_eq_true_eq] at h1;rw [QH S.sorted (S.perm.mem_iff.1 h2) he h1]
theorem JC {α β:Type}{f:α->Int}{g:β->Int}:∀{l:List α} {l':List β},l.length=l'.length->(∀(i:Nat) a b,l[i]?=some a->l'[i]?=some b->f a=g b)->(l.map f).sum=(l'.map g).sum
 | [],[],_,_=> rfl
 | a::l,b::l',h,hf=> by
  simp only [zaz,List.sum_cons];rw [hf 0 a b rfl rfl,JC (by simpa using h) λi a b ha hb=> hf (i+1) a b (by simpa using ha) (by simpa using hb)]
 | [],_::_,h,_=> by simp at h
 | _::_,[],h,_=> by simp at h
theorem Sim.left {m:gQ}{r:iK}(S:Sim m r):r.left=m.left:=by
 unfold iK.left gQ.left;refine JC S.len λi a b ha hb=> ?_;have:=S.node i b a hb ha;simp only [Proc.left,this.ops,this.values]
theorem Sim.all {m:gQ}{r:iK}(S:Sim m r):r.all=m.fab.all:=by
 unfold iK.all Fab.all;rw [S.fab]
theorem Own.set1 {b:Nat}{H:aj}{x:AV}{n:Nat}{l:List AV}(c:Own b H x 1 l)(hb:H.base<=b)(hl:l.length=n){j:Nat}(hj:j < n):
  ∃p,(∀k:IntKind,ix 1 x (.s (.int k j)) H=some (p,H))/\ld p H=(l[j]?).map (λv=> (v,H))/\∀v,One v->∃H',st 1 p v H=some (aK,H')/\Own b H' x 1 (l.set j v)/\Step b H H'/\H'.next=H.next:=by
 obtain⟨r,gg,off,i1,i2,i3⟩:=c.ref (by decide) (by omega:l.length=n*1) hj;have i2:=i2 0 (by decide);rw [zbw,zbn,zbn] at i2;refine⟨_,i1,i2,λv hv=> ?_⟩;rcases c with⟨_,h0⟩ | ⟨r',gg',off',n',cap,ex,ty,all,rfl,k2,k3,k4,k5,k6,k7,rfl⟩
 ·rw [h0] at hl;simp at hl;omega
 have e:=i1 .i64;have hs:ix 1 (.sl r' gg' off' 1 n' cap ex) (.s (.int .i64 j)) H=some (.ref r' gg' (off'+j),H):=by
  have hcm:n'*1<=cap*1:=zaw _ k4;have hn:n'=n:=by rw [zar,zaD] at hl;omega
  have:=(Own.is (b:=b) (n:=n') (.inr ⟨r',gg',off',n',cap,ex,ty,all,rfl,k2,k3,k4,k5,k6,k7,rfl⟩) (by decide) (by rw [zar,zaD];omega)).ix (k:=.i64) (i:=(j:Int)) (by omega) (by omega);rw [zaB] at this;rw [this];simp only [cO,zbw]
 rw [hs] at e;cases e;have hn:n'=n:=by rw [zar,zaD] at hl;omega
 subst hn;refine⟨_,IU hv k5 (by omega) (by omega),.inr ⟨r,gg,off',n',cap,ex,ty,all.set (off'+j) v,rfl,k2,k3,k4,by rw [get_put,if_pos rfl],by simpa using k6,Ls k7 hv.2 _,?_⟩,Step.put _ k2,rfl⟩
 apply za5
 intro p;rw [zau,zay];by_cases hp:p < n'*1
 ·rw [if_pos hp];by_cases hpj:p=j
  ·subst hpj;rw [zbm (by rw [zar,zaD];omega),zbm (by omega)]
  ·rw [zbH (λe=> hpj e.symm),zbH (by omega),zau,if_pos hp,zay]
 ·rw [if_neg hp,zaH (by rw [zb3,zar,zaD];omega)]
theorem acF(H:aj)(a b:Int):cl 134 [I a,I b] H=some (B (decide (a < b)),H):=by
 have e:∀a,cl 177 [I a] H=some (B false,H):=λa=> by
  refine aN rfl rfl (agG _ _ _ ?_);simp -implicitDefEqProofs only [xq_,aaL,eq_self,zae]
 refine aN rfl rfl (afY _ _ _ _ ?_);simp -implicitDefEqProofs only [xq_,aaj,e]
theorem set_mid {rp:List Int}{y x:Int}{suf:List Int}:(((rp.reverse++y::x::suf).map I).set (rp.length+1) (I y)).set rp.length (I x)=(rp.reverse++x::y::suf).map I:=by
 have h1:(rp.reverse.map I).length=rp.length:=by simp
 simp only [zbJ,zaz];rw [List.set_append_right _ _ (by omega),h1,List.set_append_right _ _ (by omega),h1,Nat.sub_self,Nat.add_sub_cancel_left];rfl
theorem aa2 {b:Nat}{t:AV}{n:Nat}{a2 i6:AV}:∀(rp:List Int) (x:Int) (suf:List Int) (H:aj),rp.length+1+suf.length=n->n < 1000000->H.base<=b->Own b H t 1 ((rp.reverse++x::suf).map I)->
  ∃H',zq cl [t,I 0,a2,i6,I rp.length] H=(bo (bi .add 3 i6 (I 1)) λv14=> qm cl [t,I 0,a2,v14] H')/\Own b H' t 1 (((mF x rp).reverse++suf).map I)/\Step b H H'
 | [],x,suf,H,hn,hN,hb,c=> by
  refine⟨H,?_,by simpa [mF] using c,Step.refl _ _⟩;rw [OE];simp -implicitDefEqProofs only [xq_,zaq,Int.ofNat_zero,Int.lt_irrefl]
 | y::rp,x,suf,H,hn,hN,hb,c=> by
  simp only [zai] at hn;have hc:((y::rp).reverse++x::suf)=rp.reverse++y::x::suf:=by simp
  rw [hc] at c;have hlen:((rp.reverse++y::x::suf).map I).length=n:=by simp;omega
  obtain⟨p1,a1,a2',a3⟩:=c.set1 hb hlen (j:=rp.length+1) (by omega);obtain⟨p0,b1,b2,b3⟩:=c.set1 hb hlen (j:=rp.length) (by omega);have h1:((rp.reverse++y::x::suf).map I)[rp.length+1]?=some (I x):=by
   rw [zaI,zaT (by simp),List.length_reverse,Nat.add_sub_cancel_left];rfl
  have h0:((rp.reverse++y::x::suf).map I)[rp.length]?=some (I y):=by
   rw [zaI,zaT (by simp),List.length_reverse,Nat.sub_self];rfl
  rw [h1] at a2';rw [h0] at b2;have a1:=a1 .i64;have b1:=b1 .i64;have g1:(0:Int) < ((rp.length+1:Nat):Int):=by omega
  have g2:((rp.length+1:Nat):Int) - 1=(rp.length:Int):=by omega
  have g3:=wrap_i64 (a:=(rp.length:Int)) (by omega) (by omega);have e:=acF H x y;rw [OE];simp only [zai];by_cases hxy:x < y
  ·obtain⟨H1,s1,s2,s3,s4⟩:=a3 (I y) aY;obtain⟨q0,d1,d2,d3⟩:=s2.set1 (n:=n) (by rw [s3.base];exact hb) (by rw [zb3,hlen]) (j:=rp.length) (by omega);have d1:=d1 .i64;obtain⟨H2,u1,u2,u3,u4⟩:=d3 (I x) aY;rw [set_mid] at u2;obtain⟨H',r1,r2,r3⟩:=aa2 (b:=b) (t:=t) (n:=n) (a2:=a2) (i6:=i6) rp x (y::suf) H2 (by rw [zai];omega) hN (by rw [u3.base,s3.base];exact hb) u2;refine⟨H',?_,by simpa [mF,hxy] using r2,(s3.trans u3).trans r3⟩;simp -implicitDefEqProofs only [xq_,g1,a1,a2',gZ,g2,g3,b1,b2,e,hxy,s1,d1,u1,r1]
  ·refine⟨H,?_,by simpa [mF,hxy] using c,Step.refl _ _⟩;simp -implicitDefEqProofs only [xq_,g1,a1,a2',gZ,g2,g3,b1,b2,e,hxy]
theorem aa3 {b:Nat}{t:AV}{n:Nat}:∀(l rp:List Int) (H:aj),rp.length+l.length=n->n < 1000000->H.base<=b->Own b H t 1 ((rp.reverse++l).map I)->
  ∃H',qm cl [t,I 0,I n,I rp.length] H=some (.tup [],H')/\Own b H' t 1 ((srt rp l).map I)/\Step b H H'
 | [],rp,H,hn,hN,hb,c=> by
  have h1:¬(rp.length:Int) < n:=by simp at hn;omega
  refine⟨H,?_,by simpa [srt] using c,Step.refl _ _⟩;rw [Gg];simp -implicitDefEqProofs only [xq_,h1]
 | x::l,rp,H,hn,hN,hb,c=> by
  simp only [zai] at hn;have h1:(rp.length:Int) < n:=by omega
  obtain⟨H1,a1,a2,a3⟩:=aa2 (b:=b) (t:=t) (n:=n) (a2:=I n) (i6:=I rp.length) rp x l H (by omega) hN hb c;obtain⟨H',r1,r2,r3⟩:=aa3 (b:=b) (t:=t) (n:=n) l (mF x rp) H1 (by rw [D7];omega) hN (by rw [a3.base];exact hb) a2;rw [D7] at r1;refine⟨H',?_,r2,a3.trans r3⟩;have h6:(rp.length:Int)+1=((rp.length+1:Nat):Int):=by omega
  have h7:=wrap_i64 (a:=((rp.length+1:Nat):Int)) (by omega) (by omega);rw [Gg];simp -implicitDefEqProofs only [xq_,h1,a1,bV,h6,h7,r1]
theorem bitsLen(H:aj)(n:Nat)(h:n<=12):∃v,cl 90 [.s (.int .u64 n)] H=some (I v,H):=by
 have key:∃v,cl 138 [.s (.int .u64 n)] H=some (I v,H):=by
  have:n=0∨n=1∨n=2∨n=3∨n=4∨n=5∨n=6∨n=7∨n=8∨n=9∨n=10∨n=11∨n=12:=by omega
  rcases this with rfl | rfl | rfl | rfl | rfl | rfl | rfl | rfl | rfl | rfl | rfl | rfl | rfl
  ·exact⟨0,aN rfl rfl (oM _ _ _ (by kernel_rfl))⟩
  ·exact⟨1,aN rfl rfl (oM _ _ _ (by kernel_rfl))⟩
  ·exact⟨2,aN rfl rfl (oM _ _ _ (by kernel_rfl))⟩
  ·exact⟨2,aN rfl rfl (oM _ _ _ (by kernel_rfl))⟩
  ·exact⟨3,aN rfl rfl (oM _ _ _ (by kernel_rfl))⟩
  ·exact⟨3,aN rfl rfl (oM _ _ _ (by kernel_rfl))⟩
  ·exact⟨3,aN rfl rfl (oM _ _ _ (by kernel_rfl))⟩
  ·exact⟨3,aN rfl rfl (oM _ _ _ (by kernel_rfl))⟩
  ·exact⟨4,aN rfl rfl (oM _ _ _ (by kernel_rfl))⟩
  ·exact⟨4,aN rfl rfl (oM _ _ _ (by kernel_rfl))⟩
  ·exact⟨4,aN rfl rfl (oM _ _ _ (by kernel_rfl))⟩
  ·exact⟨4,aN rfl rfl (oM _ _ _ (by kernel_rfl))⟩
  ·exact⟨4,aN rfl rfl (oM _ _ _ (by kernel_rfl))⟩
 obtain⟨v,e⟩:=key;refine⟨v,aN rfl rfl (ajq _ _ _ ?_)⟩;simp -implicitDefEqProofs only [xq_,afj,e]
theorem acG {b:Nat}{t:AV}{l:List Int}{H:aj}(hl:l.length<=12)(hb:H.base<=b)(c:Own b H t 1 (l.map I)):∃H',cl 56 [t] H=some (.tup [],H')/\Own b H' t 1 ((srt [] l).map I)/\Step b H H':=by
 have e1:=(c.is (n:=l.length) (by decide) (by simp)).lnS;obtain⟨v,e2⟩:=bitsLen H l.length hl;have hw:IntKind.wrap .u64 (l.length:Int)=l.length:=by
  simp [IntKind.wrap,IntKind.signed,IntKind.bits];omega
 have e3:cv 3 176 (I l.length) H=some (.s (.int .u64 l.length),H):=by
  have:=XL (k:=.i64) (n:=(l.length:Int)) (H:=H);rw [hw] at this;exact this
 have ins:∃H',cl 128 [t,I 0,I l.length] H=some (.tup [],H')/\Own b H' t 1 ((srt [] l).map I)/\Step b H H':=by
  cases l with
  | nil=>
   refine⟨H,aN rfl rfl (aai _ _ _ _ _ ?_),c,Step.refl _ _⟩;have w:IntKind.wrap .i64 1=1:=rfl;have r:qm cl [t,I 0,I (0:Nat),I 1] H=some (.tup [],H):=by
    rw [Gg];have h1:¬(1:Int) < ((0:Nat):Int):=by omega
    simp -implicitDefEqProofs only [xq_,h1]
   simp -implicitDefEqProofs only [Int.reduceAdd,xq_,UG,bV,w,zaq,r]
  | cons x l=>
   obtain⟨H',r1,r2,r3⟩:=aa3 (b:=b) (t:=t) (n:=l.length+1) l [x] H (by simp;omega) (by simp at hl;omega) hb (by simpa using c);refine⟨H',aN rfl rfl (aai _ _ _ _ _ ?_),by simpa [srt,mF] using r2,r3⟩;have w:IntKind.wrap .i64 1=1:=rfl;have r1':qm cl [t,I 0,I (l.length+1:Nat),I 1] H=some (.tup [],H'):=r1;simp -implicitDefEqProofs only [Int.reduceAdd,xq_,UG,bV,w,zai,r1']
 obtain⟨H',r1,r2,r3⟩:=ins;have pdq:cl 89 [t,I 0,I l.length,I v] H=some (.tup [],H'):=by
  refine aN rfl rfl (ajp _ _ _ _ _ _ ?_);have r:FY cl [t,I 0,I l.length,I v,B true,B true] H=some (.tup [],H'):=by
   rw [aci];have w:=wrap_i64 (a:=(l.length:Int)) (by omega) (by omega);have h1:(l.length:Int)<=12:=by omega
   simp -implicitDefEqProofs only [xq_,gZ,Int.sub_zero,w,h1,r1]
  simp -implicitDefEqProofs only [afi,r]
 refine⟨H',aN rfl rfl (ai6 _ _ _ ?_),r2,r3⟩;simp -implicitDefEqProofs only [xq_,ae4,e1,e3,e2,pdq]
section
variable {b:Nat}{H:aj}{g:Store}{q:Nat}
theorem Yw(G:Good b H g){c:Cache}(h:g q=some (aV c))(hl:c.l.length<=12):∃x,cl 28 [.ref q 0 0] H=some (x,H)/\∀H':aj,aH H' x 1 c.l.length ((srt [] (c.l.map (·.line))).map I):=by
 obtain⟨t,ht,ct⟩:=G.guard.seq h (i:=0) rfl;have hs:=ct.is (n:=c.l.length) (by decide) (bH bD c.l);have e2:=hs.lnS;have key:∀k j,j+k=c.l.length->∀(Hi:aj) (o:AV),Own H.next Hi o 1 (((c.l.map (·.line)).take j).map I)->Step H.next H.guard Hi->
   ∃y Hz,FP cl [o,t,I c.l.length,I j] Hi=some (y,Hz)/\Own H.next Hz y 1 ((srt [] (c.l.map (·.line))).map I):=by
  intro k
  induction k with
  | zero=>
   intro j hj Hi o O s;have h1:¬(j:Int) < c.l.length:=by omega
   rw [zax (by simp;omega)] at O;obtain⟨H',r1,r2,r3⟩:=acG (by simpa using hl) (by rw [s.base];exact zab _) O;refine⟨o,H',?_,r2⟩;rw [Ue];simp -implicitDefEqProofs only [xq_,h1,r1]
  | succ k ih=>
   intro j hj Hi o O s;have h1:(j:Int) < c.l.length:=by omega
   have h6:(j:Int)+1=((j+1:Nat):Int):=by omega
   have h7:=wrap_i64 (a:=((j+1:Nat):Int)) (by omega) (by omega);have sb:Hi.base=H.next:=s.base
   have sn:H.next<=Hi.next:=s.next
   have hbase:Hi.base<=Hi.next:=by omega
   obtain⟨e,he⟩:∃e,c.l[j]?=some e:=⟨_,zad (by omega)⟩
   have hsi:aH Hi t 6 c.l.length (c.l.flatMap Ent.av):=hs.lM s.next λr _ hr=> s.low r hr
   have s1:=hsi.ix (k:=.i64) (i:=(j:Int)) (by omega) h1;rw [zaB] at s1;have s2:=kU bD hsi he;let o1:dL:=.blk 0 93 e.av;let o2:dL:=.blk 0 3 [I e.line];obtain⟨o',H1,t1,t2,t3⟩:=((O.new o1).new o2).step (n:=j) (k:=1) (e:=3) (by_:=8) (y:=.sl (Hi.next+1) 0 0 1 1 1 true) (new:=[I e.line]) (by simp only [nNew];omega) (by simp only [bNew];omega) (by decide) (by rw [zaA,zar,zaA];omega) (kW rfl) rfl (by unfold most;omega) (by unfold most;omega);have hg:(c.l.map (·.line))[j]?=some e.line:=by rw [zaI,he];rfl
   have O':Own H.next H1 o' 1 (((c.l.map (·.line)).take (j+1)).map I):=by
    rw [List.take_add_one,hg,zbJ];exact t2
   obtain⟨y,Hz,r1,r2⟩:=ih (j+1) (by omega) H1 o' O' ((s.trans ((Step.new o1 (by omega)).trans (Step.new o2 (by simp only [nNew];omega)))).trans t3);refine⟨y,Hz,?_,r2⟩;rw [Ue];have l2:e.av[2]?=some (I e.line):=rfl;have eb:∀H,bs 22 1 [(0,I e.line)] H=some (.sl H.next 0 0 1 1 1 true,H.new (.blk 0 3 [I e.line])):=λH=> (yR (by decide)).trans (iZ rfl rfl rfl);simp only [o1,o2] at t1;simp -implicitDefEqProofs only [Nat.reduceAdd,setAt,xq_,hq_,h1,s1,s2,hbase,l2,eb,t1,bV,h6,h7,r1]
 obtain⟨y,Hz,r1,r2⟩:=key c.l.length 0 (by omega) H.guard zN (.inl ⟨rfl,by simp⟩) (Step.refl _ _);have hlen:((srt [] (c.l.map (·.line))).map I).length=c.l.length*1:=by
  have:=(qg (c.l.map (·.line)) [] List.Pairwise.nil).1.length_eq
  simpa using this
 obtain⟨x,f1,f2⟩:=Gx (d:=8) r2 (by decide) hlen λz hz=> sV _ z hz _ _;refine⟨x,jc rfl rfl (aiN _ _ _ (r:=(y,Hz)) ?_) f1,f2⟩;simp -implicitDefEqProofs only [xq_,aeO,ht,e2];exact r1
end
theorem VD(H:aj)(line fwd back:Int)(dirty:Bool){l:List Int}(hl:l.length < 1000000000){x:AV}(hx:jo H x l):cl 204 [I line,I fwd,I back,B dirty,x] H=some (.agg (Ent.mk fwd back line 0 dirty l).av,H):=by
 refine bI rfl rfl (ag6 _ _ _ _ _ _ _) ?_ (lG (Gv _));have e1:=λo=> JA (H.guard.new o) hl (hx.guard.new o);simp -implicitDefEqProofs only [Nat.reduceAdd,Nat.reduceLeDiff,setAt,xq_,hq_,aaU,e1,aiA,ad2,iV,dW,adZ,ad1,Ent.av]
theorem ajH(H:aj)(e:Ent)(w:Int):cl 73 [.agg e.av,I w] H=some (B (decide (0<=w/\w < e.data.length)),H.new (.blk 0 93 e.av)):=by
 refine aN rfl rfl (aff _ _ _ _ ?_);have e1:=λH=> (jW H e.data).lnS;by_cases h0:0<=w
 ·simp -implicitDefEqProofs only [Nat.reduceLT,xq_,hq_,Ul,aB,Ent.av,h0,e1]
 ·simp -implicitDefEqProofs only [Nat.reduceLT,xq_,hq_,Ul,aB,Ent.av,h0,false_and]
theorem acH(H:aj)(e:Ent)(w:Int):cl 38 [.agg e.av,I w] H=some (I (e.word w),H):=by
 refine bI rfl rfl (aiX _ _ _ _) ?_ gK;have e1:=λH=> ajH H e w;by_cases h0:0<=w/\w < e.data.length
 ·have e2:=λH=> (jW H e.data).ix (k:=.i64) (i:=w) h0.1 h0.2;have e3:=λH=> (jW H e.data).ld (i:=w.toNat) (by omega);have e4:(e.data.map I)[w.toNat]?=some (I (e.word w)):=by
   unfold Ent.word;rw [if_pos h0,zaI,zad (by omega),zaG,zad (by omega)];rfl
  rw [e4] at e3;have e5:e.av[5]?=some (dat e.data):=rfl;simp -implicitDefEqProofs only [Nat.reduceLT,xq_,hq_,ab6,aB,e1,h0,e2,e3,e5,zae]
 ·have:e.word w=0:=by unfold Ent.word;rw [if_neg h0]
  rw [this];simp -implicitDefEqProofs only [Nat.reduceLT,xq_,hq_,ab6,aB,e1,h0,zak]
section
variable {b:Nat}{H:aj}{g:Store}{q:Nat}
theorem Pq(G:Good b H g){c:Cache}(h:g q=some (aV c))(hl:c.l.length < 1000000)(hs0:1<=c.sets)(line:Int):cl 168 [.ref q 0 0,I line] H=some (vsl 6 Ent.av (c.lC line),H):=by
 obtain⟨x,hx,cx⟩:=G.guard.seq h (i:=0) rfl;have hs:=cx.is (n:=c.l.length) (by decide) (bH bD c.l);have e2:=hs.lnS;let p:Ent->Bool:=λe=> decide (0<=line) && decide (e.line.tmod c.sets=line.tmod c.sets)
 let F:Nat->List Ent:=λj=> (c.l.take j).filter p
 have hF:∀j,(F j).length<=j:=λj=> zav (List.length_filter_le _ _) (by rw [zar];omega);have key:∀k j,j+k=c.l.length->∀Hi t,Step H.next H.guard Hi->Own H.next Hi t 6 ((F j).flatMap Ent.av)->(F j=[]->t=zN)->
   ∃t' H',zF cl [.ref q 0 0,I line,t,x,I c.l.length,I j] Hi=some (t',H')/\Own H.next H' t' 6 ((c.lC line).flatMap Ent.av)/\(c.lC line=[]->t'=zN):=by
  intro k
  induction k with
  | zero=>
   intro j hj Hi t s o z;have h1:¬(j:Int) < c.l.length:=by omega
   have:F j=c.lC line:=by
    simp only [F,Cache.lC,p];rw [zax (by omega)]
   rw [this] at o z;refine⟨t,Hi,?_,o,z⟩;rw [OV];simp -implicitDefEqProofs only [xq_,h1]
  | succ k ih=>
   intro j hj Hi t s o z;have h1:(j:Int) < c.l.length:=by omega
   have h6:(j:Int)+1=((j+1:Nat):Int):=by omega
   have h7:=wrap_i64 (a:=((j+1:Nat):Int)) (by omega) (by omega);obtain⟨e,he⟩:∃e,c.l[j]?=some e:=⟨_,zad (by omega)⟩
   have hsi:aH Hi x 6 c.l.length (c.l.flatMap Ent.av):=hs.lM s.next λr _ hr=> s.low r hr
   have s1:=hsi.ix (k:=.i64) (i:=(j:Int)) (by omega) h1;rw [zaB] at s1;have s2:=kU bD hsi he;have bi:Hi.base=H.next:=s.base.trans aiC
   have ni:H.next<=Hi.next:=s.next
   have hbase:Hi.base<=Hi.next:=by omega
   have Gi:Good b Hi g:=G.guard.ext s.next s.low
   have l1:=(Gi.new (.blk 0 93 e.av)).load h (i:=1) (x:=I c.sets) rfl;have r0:c.sets≠0:=by omega
   have hFs:F (j+1)=F j++if p e=true then [e] else []:=by
    simp only [F,List.take_add_one,he,Option.toList_some,zb0]
    congr 1
    cases hp:p e <;> simp [hp]
   rw [OV];by_cases hc:0<=line/\e.line.tmod c.sets=line.tmod c.sets
   ·have hp:p e=true:=by simp only [p,hc.1,hc.2,decide_true,zb5]
    rw [hp,if_pos rfl] at hFs;have hm:=hF j;obtain⟨t1,H2,a1,a2,a3⟩:=((o.new (.blk 0 93 e.av)).new (.blk 0 93 e.av)).step (e:=93) (by_:=64) (n:=(F j).length) (by simp only [nNew];omega) (by simp only [bNew];omega) (by decide) (bH bD _) (kW (ex:=true) (n:=1) (m:=6) (l:=e.av) rfl) (iP e) (by unfold most;omega) (by unfold most;omega);have a2':Own H.next H2 t1 6 ((F (j+1)).flatMap Ent.av):=by rw [hFs,zbK];simpa using a2
    obtain⟨t',H',r1,r2⟩:=ih (j+1) (by omega) H2 t1 (((s.trans (Step.new _ ni)).trans (Step.new _ (by simp only [nNew];omega))).trans a3) a2' (λhz=> by rw [hFs] at hz;simp at hz);refine⟨t',H',?_,r2⟩;simp only [nNew] at a1;have lf:e.av[2]?=some (I e.line):=rfl;simp -implicitDefEqProofs only [Nat.reduceAdd,Nat.reduceLeDiff,setAt,xq_,hq_,h1,s1,s2,hbase,hc,lf,l1,AQ r0,wF,Zf,zbk,iZ (m:=6) (z:=[zI,zI,zI,zI,zB,zN]) (v:=.agg e.av) rfl rfl (iP e),a1,bV,h6,h7];exact r1
   ·have hp:p e=false:=by
     simp only [p];by_cases h0:0<=line
     ·have:¬e.line.tmod c.sets=line.tmod c.sets:=λh=> hc ⟨h0,h⟩;simp [this]
     ·simp [h0]
    rw [hp,if_neg (by simp),za8] at hFs;obtain⟨t',H',r1,r2⟩:=ih (j+1) (by omega) (Hi.new (.blk 0 93 e.av)) t (s.trans (Step.new _ ni)) (by rw [hFs];exact o.new _) (by rw [hFs];exact z);refine⟨t',H',?_,r2⟩;have lf:e.av[2]?=some (I e.line):=rfl;by_cases h0:0<=line
    ·have hne:¬e.line.tmod c.sets=line.tmod c.sets:=λh=> hc ⟨h0,h⟩;simp -implicitDefEqProofs only [Nat.reduceAdd,setAt,xq_,hq_,h1,s1,s2,hbase,h0,hne,lf,l1,AQ r0,wF,bV,h6,h7,r1]
    ·simp -implicitDefEqProofs only [Nat.reduceAdd,setAt,xq_,hq_,h1,s1,s2,hbase,h0,wF,bV,h6,h7,r1]
 obtain⟨t',H',r1,r2,r3⟩:=key c.l.length 0 (by omega) H.guard zN (Step.refl _ _) (.inl ⟨rfl,rfl⟩) (λ_=> rfl);refine jc rfl rfl (agD _ _ _ _ (r:=(t',H')) ?_) ?_
 ·simp -implicitDefEqProofs only [xq_,aaH,hx,e2];exact r1
 ·by_cases hz:c.lC line=[]
  ·rw [r3 hz,hz,fZ];exact kS
  ·rw [FB hz];refine Ep r2 (by decide) (bH bD _) (λy hy=> ?_) (λe=> hz (zao e));obtain⟨a,_,ha⟩:=zbl.1 hy;exact Gv (d:=6) a y ha _ _
theorem JD(G:Good b H g){c:Cache}(h:g q=some (aV c))(hl:c.l.length < 1000000)(hs0:1<=c.sets)(line:Int):cl 117 [.ref q 0 0,I line] H=some (B (c.full line),H):=by
 refine bI rfl rfl (afU _ _ _ _) ?_ gK;have e1:=BZ G.guard h hl line;have e2:=Pq G.guard.guard h hl hs0 line;have e3:=(DN bD H.guard (c.lC line)).lnS;have e4:=G.guard.load h (i:=2) (x:=I c.ways) rfl;have hf:(c.find line).isNone=(c.at_ line).isNone:=by
  rw [show c.find line=(c.at_ line).bind λi=> c.l[i]? from(nN c.l).symm];cases ha:c.at_ line with
  | none=> rfl
  | some i=>
   have hi:i < c.l.length:=zbi.1 ha |>.1
   simp [zad hi]
 cases ha:c.at_ line with
 | none=>
  rw [ha] at e1 hf;have hn:Ph (none:Option Nat)=-1:=rfl;rw [hn] at e1;simp -implicitDefEqProofs only [Int.reduceLT,Int.reduceNeg,xq_,UD,e1,e2,e3,e4,Cache.full,hf,Option.isNone_none,zba]
 | some i=>
  rw [ha] at e1 hf;have hn:Ph (some i)=(i:Int):=rfl;rw [hn] at e1;have h0:¬(i:Int) < 0:=by omega
  simp -implicitDefEqProofs only [xq_,UD,e1,h0,Cache.full,hf,Option.isNone_some,zbr]
end
theorem Yx(H:aj)(a e:Ent)(h:In64 (a.used - e.used)):cl 170 [.agg a.av,.agg e.av] H=some (I (a.used - e.used),H):=by
 refine bI rfl rfl (agF _ _ _ _) ?_ gK;have w:=wrap_i64 h.1 h.2;simp -implicitDefEqProofs only [Nat.reduceLT,xq_,hq_,aaK,aB,Ent.av,gZ,w]
abbrev aa4(m:Ent)(l:List Ent):Ent:=l.foldl (λm x=> if x.used < m.used then x else m) m
theorem QI(H:aj)(hb:H.base<=H.next){a:Ent}{l:List Ent}(hl:l.length < 1000000)(hu:∀e∈a::l,0<=e.used/\e.used < 1000000000):
  ∃H',cl 169 [vsl 6 Ent.av (a::l),.fn (.func 170) [] []] H=some (.agg (aa4 a l).av,H'):=by
 obtain⟨L,hL⟩:∃L,L=a::l:=⟨_,rfl⟩
 have hs:=λH=> DN bD H L;have hll:L.length=l.length+1:=by rw [hL];rfl
 rw [<-hL] at hu ⊢;let HH:Ent->aj:=λm=> (H.new (.blk 0 93 [zI,zI,zI,zI,zB,zN])).new (.blk 0 93 m.av)
 have key:∀k j,j+k=L.length->∀m,m∈L->
   ∃H',zG cl [vsl 6 Ent.av L,.fn (.func 170) [] [],.ref H.next 0 0,.ref (H.next+1) 0 0,I j] (HH m)=some (.agg (aa4 m (L.drop j)).av,H'):=by
  intro k
  induction k with
  | zero=>
   intro j hj m hm;have h1:¬(j:Int) < L.length:=by omega
   have s0:=(hs (HH m)).lnS;have hd:L.drop j=[]:=zaN (by omega);refine⟨(H.new (.blk 0 93 m.av)).new (.blk 0 93 m.av),?_⟩;rw [OW,hd];simp only [HH] at s0 ⊢;simp -implicitDefEqProofs only [Nat.reduceAdd,setAt,xq_,hq_,s0,h1,hb,aa4,List.foldl_nil]
  | succ k ih=>
   intro j hj m hm;have h1:(j:Int) < L.length:=by omega
   have h6:(j:Int)+1=((j+1:Nat):Int):=by omega
   have h7:=wrap_i64 (a:=((j+1:Nat):Int)) (by omega) (by omega);obtain⟨e,he⟩:∃e,L[j]?=some e:=⟨_,zad (by omega)⟩
   have s0:=(hs (HH m)).lnS;have s1:=(hs (HH m)).ix (k:=.i64) (i:=(j:Int)) (by omega) h1;rw [zaB] at s1;have s2:=kU bD (hs (HH m)) he;have u1:=hu _ (zaK he);have u2:=hu _ hm;have c0:uz Tryz.prog cl (.fn (.func 170) [] []) [.agg e.av,.agg m.av] (HH m)=some (I (e.used - m.used),HH m):=by
    rw [IZ (by kernel_rfl)];exact Yx _ e m ⟨by omega,by omega⟩
   have hd:L.drop j=e::L.drop (j+1):=by
    rw [zbA (by omega)];rw [zad (by omega)] at he;rw [za9 he]
   rw [OW,hd];by_cases hc:e.used < m.used
   ·have hc':e.used - m.used < 0:=by omega
    obtain⟨H',r1⟩:=ih (j+1) (by omega) e (zaK he);refine⟨H',?_⟩;simp only [HH] at s0 s1 s2 c0 r1 ⊢;simp -implicitDefEqProofs only [Nat.reduceAdd,setAt,xq_,hq_,s0,h1,s1,s2,c0,hc',hb,zH,bV,h6,h7,aa4,zby,hc];exact r1
   ·have hc':¬e.used - m.used < 0:=by omega
    obtain⟨H',r1⟩:=ih (j+1) (by omega) m hm;refine⟨H',?_⟩;simp only [HH] at s0 s1 s2 c0 r1 ⊢;simp -implicitDefEqProofs only [Nat.reduceAdd,setAt,xq_,hq_,s0,h1,s1,s2,c0,hc',hb,zH,bV,h6,h7,aa4,zby,hc];exact r1
 obtain⟨H',r1⟩:=key l.length 1 (by omega) a (by rw [hL];simp);refine⟨H',aN rfl rfl (agE _ _ _ _ ?_)⟩;let H1:=H.new (.blk 0 93 [zI,zI,zI,zI,zB,zN]);have s0:=(hs H1).lnS;have h1:¬(L.length:Int) < 1:=by omega
 have s1:=(hs H1).ix (k:=.i64) (i:=(0:Int)) (by omega) (by omega);have s2:=kU bD (hs H1) (i:=0) (a:=a) (by rw [hL];rfl);rw [show((0:Int).toNat)=0 from rfl] at s1;have d1:L.drop 1=l:=by rw [hL];rfl
 rw [d1] at r1;simp only [HH] at r1;simp only [H1] at s0 s1 s2;have j1:((1:Nat):Int)=1:=rfl;rw [j1] at r1;simp -implicitDefEqProofs only [Nat.reduceAdd,setAt,xq_,hq_,aaJ,Gj,s0,h1,s1,s2,hb];exact r1
section
variable {b:Nat}{H:aj}{g:Store}{q:Nat}
theorem acI(c:Cache)(line:Int):∀e∈c.lC line,e∈c.l:=λe he=> (zbe.1 he).1
theorem MJ(G:Good b H g){c:Cache}(h:g q=some (aV c))(hl:c.l.length < 1000000)(hs0:1<=c.sets)(hu:∀e∈c.l,0<=e.used/\e.used < 1000000000)(line:Int):
  cl 118 [.ref q 0 0,I line] H=some (.tup [I ((c.kY line).getD 0),B (c.kY line).isSome],H):=by
 refine bI rfl rfl (afV _ _ _ _) ?_ (rE λx hx=> by
  simp only [zal,zaF,or_false] at hx;rcases hx with rfl | rfl <;> exact gK)
 have e2:=Pq G.guard h hl hs0 line;have e3:=(DN bD H.guard (c.lC line)).lnS;have hlen:(c.lC line).length<=c.l.length:=List.length_filter_le _ _;cases hz:c.lC line with
 | nil=>
  rw [hz] at e2 e3;have hv:c.kY line=none:=by simp [Cache.kY,hz,kH]
  simp -implicitDefEqProofs only [xq_,UE,e2,e3,hv,zaq,Int.ofNat_zero,zaR,zaC]
 | cons a l=>
  rw [hz] at e2 e3 hlen;have hv:c.kY line=some (aa4 a l).line:=by simp [Cache.kY,hz,kH]
  obtain⟨H',e4⟩:=QI H.guard (zab _) (a:=a) (l:=l) (by simp only [zai] at hlen;omega) (λe he=> hu e (acI c line e (by rw [hz];exact he)));have h1:¬((a::l).length:Int)=0:=by simp only [zai];omega
  have lf:(aa4 a l).av[2]?=some (I (aa4 a l).line):=rfl;simp -implicitDefEqProofs only [xq_,UE,e2,e3,h1,e4,hv,lf,zas,zaE]
end
theorem Es {α:Type}{enc:α->List AV}{m:Nat}(he:∀a,(enc a).length=m){a':α}{o:Nat}{vs:List AV}(ho:o+vs.length<=m):∀(l:List α) (i:Nat) (a:α),l[i]?=some a->setAt (enc a) o vs=enc a'->setAt (l.flatMap enc) (i*m+o) vs=(l.set i a').flatMap enc
 | [],i,a,h,_=> by simp at h
 | x::l,0,a,h,hv=> by
  simp only [zaU,zaa] at h;subst h;have hl:=he x;rw [zb1,zaJ,zaJ,<-hv];unfold setAt;rw [za7,za0,zbB (by omega),List.drop_append_of_le_length (by omega)];simp only [List.append_assoc]
 | x::l,i+1,a,h,hv=> by
  have hl:=he x;have ih:=Es he ho l i a (by simpa using h) hv;rw [List.set_cons_succ,zaJ,zaJ,<-ih];unfold setAt;have e1:(i+1)*m+o=(enc x).length+(i*m+o):=by rw [hl,zbj,zbk];omega
  have e2:(i+1)*m+o+vs.length=(enc x).length+(i*m+o+vs.length):=by rw [hl,zbj,zbk];omega
  rw [e2,e1,List.take_length_add_append,List.drop_length_add_append,List.append_assoc]
section
variable {b:Nat}{H:aj}{g:Store}{q:Nat}
theorem JE(G:Good b H g)(hb:H.base<=b){c:Cache}(h:g q=some (aV c)){x:AV}(cx:Cur b H q 0 x 6 (c.l.flatMap Ent.av)){i:Nat}{e e':Ent}(hi:c.l[i]?=some e):
  ∃r gg off,cO x i=.ref r gg off/\∀(w o:Nat) (v:AV),v.cells.length=w->v.cells.all AV.aJ=true->o+w<=6->setAt e.av o v.cells=e'.av->
   ∃H',st w (.ref r gg (off+o)) v H=some (aK,H')/\Good b H' (upd g q (aV { c with l:=c.l.set i e' }))/\Step b H H'/\H'.next=H.next:=by
 obtain⟨r,gg,off,e1,e2⟩:=G.elem hb h (i:=0) rfl (by decide) (bH bD c.l) cx (j:=i) (zam.1 hi).1;refine⟨r,gg,off,e1,λw o v h1 h2 h3 h4=> ?_⟩;obtain⟨H',s1,s2,s3⟩:=e2 w o v h1 h2 h3;refine⟨H',s1,?_,s3⟩;have:=Es bD (o:=o) (vs:=v.cells) (by omega) c.l i e hi h4;rw [this] at s2;exact s2
theorem QJ(G:Good b H g)(hb:H.base<=b){c:Cache}(h:g q=some (aV c))(hl:c.l.length < 1000000)(hk:0<=c.clock/\c.clock < 1000000000)(line:Int):
  ∃H',cl 116 [.ref q 0 0,I line] H=some (B (c.at_ line).isSome,H')/\Good b H' (upd g q (aV (c.touch line)))/\Step b H H':=by
 refine iI rfl rfl (afS _ _ _ _) ?_;have e1:=BZ G h hl line;cases ha:c.at_ line with
 | none=>
  rw [ha] at e1;have hn:Ph (none:Option Nat)=-1:=rfl;rw [hn] at e1;refine⟨H,?_,by rw [show c.touch line=c by simp [Cache.touch,ha],dH h];exact G,Step.refl _ _⟩;simp -implicitDefEqProofs only [Int.reduceLT,Int.reduceNeg,xq_,UC,e1,zaC]
 | some i=>
  rw [ha] at e1;have hn:Ph (some i)=(i:Int):=rfl;rw [hn] at e1;have h0:¬(i:Int) < 0:=by omega
  have hi:i < c.l.length:=zbi.1 ha |>.1
  obtain⟨e,he⟩:∃e,c.l[i]?=some e:=⟨_,zad hi⟩
  have l1:=G.load h (i:=3) (x:=I c.clock) rfl;have w1:=wrap_i64 (a:=c.clock+1) (by omega) (by omega);obtain⟨H1,s1,G1,s3,s4⟩:=G.store hb h (i:=3) (v:=I (c.clock+1)) (by simp [aV]) aY;have h1:upd g q ((aV c).set 3 (.av (I (c.clock+1)))) q=some (aV { c with clock:=c.clock+1 }):=upd_same;have l2:=G1.load h1 (i:=3) (x:=I (c.clock+1)) rfl;obtain⟨x,hx,cx⟩:=G1.seq h1 (i:=0) rfl;have hs:=cx.is (n:=c.l.length) (by decide) (bH bD c.l);have e3:=hs.ix (k:=.i64) (i:=(i:Int)) (by omega) (by omega);rw [zaB] at e3;obtain⟨r,gg,off,p1,p2⟩:=JE G1 (by rw [s3.base];exact hb) h1 cx (e':={ e with used:=c.clock+1 }) he;obtain⟨H2,t1,t2,t3,t4⟩:=p2 1 3 (I (c.clock+1)) rfl rfl (by decide) rfl;rw [p1] at e3;refine⟨H2,?_,?_,s3.trans t3⟩
  ·simp -implicitDefEqProofs only [xq_,UC,e1,h0,l1,bV,w1,s1,hx,l2,e3,t1,zaE]
  ·rw [kE] at t2;have:c.touch line={ c with l:=c.l.set i { e with used:=c.clock+1 },clock:=c.clock+1 }:=by
    simp only [Cache.touch,ha];rw [zaG,he];rfl
   rw [this];exact t2
theorem acJ {i n:Nat}{x:AV}{l:List AV}(c:Cur b H q i x 6 l)(hb:H.base<=b)(hl:l.length=n*6)(hn:n < 1000000000){j:Nat}(hj:j < n):
  ∃x' H',cl 211 [x,I j,I (j+1)] H=some (x',H')/\Fit H H' x x' 6 (l.take (j*6)++l.drop ((j+1)*6))/\H'.next=H.next/\H'.base=H.base/\∀r,nameOf x≠some r->H'.get r=H.get r:=by
 obtain⟨y,x1,x2,x3,H1,x4,H2,e1,e2,e3,e4,e5,e6,e7,f,n1,b1,k1⟩:=Ol c hb (by decide) hl hn hj (z:=[zI,zI,zI,zI,zB,zN]) rfl rfl (e:=93) (by_:=64) (by decide);have e0:=(c.is (by decide) hl).lnS;have hne:((j:Int)=j+1)=False:=eq_false (by omega);refine⟨x3,H2,aN rfl rfl (ahc _ _ _ _ _ ?_),f,n1,b1,k1⟩;simp -implicitDefEqProofs only [xq_,aaX,e0,e1,e2,e3,e4,e5,e6,e7,hne]
theorem VE(G:Good b H g)(hb:H.base<=b){c:Cache}(h:g q=some (aV c))(hl:c.l.length < 1000000){j:Nat}(hj:j < c.l.length):
  ∃x x' H1 H2,ld (.ref q 0 0) H=some (x,H)/\cl 211 [x,I j,I (j+1)] H=some (x',H1)/\st 1 (.ref q 0 0) x' H1=some (aK,H2)/\Good b H2 (upd g q (aV { c with l:=c.l.eraseIdx j }))/\Step b H H2:=by
 obtain⟨x,hx,cx⟩:=G.seq h (i:=0) rfl;obtain⟨x',H1,d1,d2,d3,d4,d5⟩:=acJ cx hb (bH bD c.l) (by omega) hj;rw [Ej bD] at d2;obtain⟨H2,s1,s2,s3,s4⟩:=G.seat h (i:=0) rfl cx (by omega) (by omega) (λr _ hr=> d5 r hr) d2;exact⟨x,x',H1,H2,hx,d1,s1,s2,Step.trans ⟨d4,by omega,λr hr=> d5 r (cx.low hr)⟩ s3⟩
theorem Cb(G:Good b H g)(hb:H.base<=b){c:Cache}(h:g q=some (aV c))(hl:c.l.length < 1000000)(hd:∀e∈c.l,e.data.length < 1000000000)(line:Int):
  ∃H',cl 200 [.ref q 0 0,I line] H=some (ku (c.find line),H')/\Good b H' (upd g q (aV (c.drop line)))/\Step b H H':=by
 have hq:=G.lt h;have G1:=G.newObj (ty:=93) (xs:=[zI,zI,zI,zI,zB,zN]) rfl;have h1:upd g H.next ([zI,zI,zI,zI,zB,zN].map .av) q=some (aV c):=by rw [upd_ne (by omega)];exact h
 have e1:=lu G1 h1 hl hd line;have hb0:H.base<=H.next:=zav hb G.1
 refine iI rfl rfl (ag4 _ _ _ _) ?_;have hf:c.find line=(c.at_ line).bind λi=> c.l[i]?:=(nN c.l).symm;cases ha:c.at_ line with
 | none=>
  rw [ha] at hf;have hf:c.find line=none:=hf;rw [hf] at e1;simp only [ku,zaR,zaC,qw] at e1;have hdr:c.drop line=c:=by simp [Cache.drop,ha]
  simp -implicitDefEqProofs only [Nat.reduceAdd,setAt,xq_,hq_,zaa,zac,exists_eq_left',U1,e1,zQ,ku,hf,zaR,zaC,qw,hb0];rw [hdr,dH h];exact⟨(G.new _).new _,(Step.new _ G.1).trans (Step.new _ (G.new _).1)⟩
 | some i=>
  have hi:i < c.l.length:=zbi.1 ha |>.1
  obtain⟨e,he⟩:∃e,c.l[i]?=some e:=⟨_,zad hi⟩
  rw [ha] at hf;have hf:c.find line=some e:=by rw [hf];exact he
  rw [hf] at e1;simp only [ku,zas,zaE] at e1;have G2:=G1.newObj (ty:=93) (xs:=e.av) (iP _);have h2:upd (upd g H.next ([zI,zI,zI,zI,zB,zN].map .av)) (H.next+1) (e.av.map .av) q=some (aV c):=by rw [upd_ne (by omega)];exact h1
  have e2:=BZ G2 h2 hl line;have hn:Ph (some i)=(i:Int):=rfl;rw [ha,hn] at e2;obtain⟨x,x',K1,K2,s1,s2,s3,s4,s5⟩:=VE G2 (by rw [bNew,bNew];omega) h2 hl hi;have G3:Good b K2 _:=s4;let gz:=upd (upd (upd g H.next ([zI,zI,zI,zI,zB,zN].map .av)) (H.next+1) (e.av.map .av)) q (aV { c with l:=c.l.eraseIdx i });have q2:gz (H.next+1)=some (e.av.map .av):=by simp only [gz];rw [upd_ne (by omega),upd_same]
  have q1:gz H.next=some ([zI,zI,zI,zI,zB,zN].map .av):=by simp only [gz];rw [upd_ne (by omega),upd_ne (by omega),upd_same]
  have l2:=G3.loads q2 (i:=0) (n:=6) (xs:=e.av) rfl rfl (by decide);obtain⟨K3,t1,t2,t3,t4⟩:=G3.stores (by rw [s5.base,bNew,bNew];exact hb) q1 (i:=0) (n:=6) (vs:=e.av) (by decide) rfl (iP _);have l3:=t2.loads upd_same (i:=0) (n:=6) (xs:=e.av) rfl rfl (by decide);have w1:=wrap_i64 (a:=(i:Int)+1) (by omega) (by omega);have hdr:c.drop line={ c with l:=c.l.eraseIdx i }:=by simp [Cache.drop,ha]
  simp -implicitDefEqProofs only [Nat.reduceAdd,setAt,xq_,hq_,zaa,zac,exists_eq_left',U1,e1,zQ,ku,hf,zas,zaE,hb0,e2,bV,w1,s1,s2,s3,l2,t1,l3,hdr];have n1:g H.next=none:=G.isNone (zab _)
  have n2:g (H.next+1)=none:=G.isNone (by omega);exact⟨t2.sub (((((nV.refl g).more n1 _).more n2 _).both q _).more (vN n1 (by omega)) _),(((Step.new _ G.1).trans (Step.new _ (G.new _).1)).trans s5).trans t3⟩
end
section
variable {b:Nat}{H:aj}{g:Store}{q:Nat}
theorem Pv(G:Good b H g)(hb:H.base<=b){c:Cache}(h:g q=some (aV c))(hl:c.l.length < 1000000)(hs0:1<=c.sets)(hk:0<=c.clock/\c.clock < 1000000000)(e:Ent){x:AV}(hel:e.data.length < 1000000000)(hx:jo H x e.data):
  ∃H',cl 157 [.ref q 0 0,.agg (e.avx x)] H=some (I (c.put e).2,H')/\Good b H' (upd g q (aV (c.put e).1))/\Step b H H':=by
 have hq:=G.lt h;have hb0:H.base<=H.next:=zav hb G.1
 have ax:=Yu (p:=e) hx.one;have e0:=Po (H.new (.blk 0 93 (e.avx x))) e hel (hx.new _);have ll:(e.avx x).length=6:=rfl;have lt:(e.avx x).take 6=e.avx x:=rfl;have l6:(e.avx x).drop 6=[]:=rfl;let H1:=H.new (.blk 0 93 e.av);have G1:Good b H1 g:=G.new _;have lf:e.av[2]?=some (I e.line):=rfl;refine iI rfl rfl (agj _ _ _ _) ?_;by_cases hneg:e.line < 0
 ·have hp:c.put e=(c,1):=by simp only [Cache.put];rw [if_pos hneg]
  rw [hp];refine⟨H1,?_,by rw [dH h];exact G1,Step.new _ G.1⟩;simp -implicitDefEqProofs only [Nat.reduceLT,setAt,xq_,hq_,Jk,aB ax,ll,lt,l6,e0,hb0,lf,hneg];rfl
 ·have e1:=BZ G1 h hl e.line;cases ha:c.at_ e.line with
  | some i=>
   rw [ha] at e1;have hn:Ph (some i)=(i:Int):=rfl;rw [hn] at e1;have h0:(0:Int)<=i:=by omega
   have hi:i < c.l.length:=zbi.1 ha |>.1
   obtain⟨o,ho⟩:∃o,c.l[i]?=some o:=⟨_,zad hi⟩
   obtain⟨y,hy0,cy⟩:=G.seq h (i:=0) rfl;have c1:=cy.new (.blk 0 93 e.av);have y1:=c1.load;have hs:=c1.is (n:=c.l.length) (by decide) (bH bD c.l);have e3:=hs.ix (k:=.i64) (i:=(i:Int)) (by omega) (by omega);rw [zaB] at e3;have e4:=hs.aek (i:=i) (o:=3) hi (by decide);rw [Vt bD c.l i o ho (by decide)] at e4;let e':Ent:={ e with used:=o.used }
   let H2:=H.new (.blk 0 93 e'.av);have G2:Good b H2 g:=G.new _;have c2:=cy.new (.blk 0 93 e'.av);have y2:=c2.load;have hs2:=c2.is (n:=c.l.length) (by decide) (bH bD c.l);have e5:=hs2.ix (k:=.i64) (i:=(i:Int)) (by omega) (by omega);rw [zaB] at e5;obtain⟨r,gg,off,p1,p2⟩:=JE G2 hb h c2 (e':=e') ho;obtain⟨H3,t1,t2,t3,t4⟩:=p2 6 0 (.agg e'.av) rfl (iP e') (by decide) (by simp only [dN];rfl);rw [p1] at e3 e4 e5;rw [nC] at e4;have ou:o.av[3]?=some (I o.used):=rfl;simp only [zaV,ou,zah] at e4;rw [zbn] at t1;have hp:c.put e=({ c with l:=c.l.set i e' },0):=by
    simp only [Cache.put];rw [if_neg hneg,ha];simp only [e',zaG,ho,zas]
   rw [hp];refine⟨H3,?_,t2,(Step.new _ G.1).trans t3⟩;simp only [H1,Ent.av] at e1 y1 e3 e4;simp only [H2,e',Ent.av] at y2 e5 t1;simp -implicitDefEqProofs only [Nat.reduceLT,Nat.reduceAdd,setAt,xq_,hq_,Jk,aB ax,ll,lt,l6,e0,hb0,hneg,e1,h0,y1,e3,e4,Ent.av,y2,e5,t1]
  | none=>
   rw [ha] at e1;have hn:Ph (none:Option Nat)=-1:=rfl;rw [hn] at e1;have e2:=JD G1 h hl hs0 e.line;simp only [H1] at e1 e2;cases hf:c.full e.line with
   | true=>
    have hp:c.put e=(c,5):=by simp only [Cache.put];rw [if_neg hneg,ha];simp only [hf,if_true]
    rw [hp];rw [hf] at e2;refine⟨H1,?_,by rw [dH h];exact G1,Step.new _ G.1⟩;simp -implicitDefEqProofs only [Nat.reduceLT,Int.reduceLE,Int.reduceNeg,setAt,xq_,hq_,Jk,aB ax,ll,lt,l6,e0,hb0,lf,hneg,e1,e2];rfl
   | false=>
    rw [hf] at e2;let e':Ent:={ e with used:=c.clock+1 }
    have hp:c.put e=({ c with l:=c.l++[e'],clock:=c.clock+1 },0):=by simp only [Cache.put];rw [if_neg hneg,ha];simp only [hf,zaf,if_false];rfl
    rw [hp];have F1:=G.newObj (ty:=93) (xs:=e.av) (iP e);have f1:upd g H.next (e.av.map .av) q=some (aV c):=by rw [upd_ne (by omega)];exact h
    have l1:=F1.load f1 (i:=3) (x:=I c.clock) rfl;have w1:=wrap_i64 (a:=c.clock+1) (by omega) (by omega);obtain⟨H2,s1,F2,s3,s4⟩:=F1.store hb f1 (i:=3) (v:=I (c.clock+1)) (by simp [aV]) aY;have f2:upd (upd g H.next (e.av.map .av)) q ((aV c).set 3 (.av (I (c.clock+1)))) q=some (aV { c with clock:=c.clock+1 }):=upd_same;have l2:=F2.load f2 (i:=3) (x:=I (c.clock+1)) rfl;have f3:upd (upd g H.next (e.av.map .av)) q ((aV c).set 3 (.av (I (c.clock+1)))) H.next=some (e.av.map .av):=by rw [upd_ne (by omega),upd_same]
    obtain⟨H3,t1,F3,t3,t4⟩:=F2.store (by rw [s3.base];exact hb) f3 (i:=3) (v:=I (c.clock+1)) (by simp [Ent.av]) aY;have f4:upd (upd (upd g H.next (e.av.map .av)) q ((aV c).set 3 (.av (I (c.clock+1))))) H.next ((e.av.map .av).set 3 (.av (I (c.clock+1)))) q=some (aV { c with clock:=c.clock+1 }):=by rw [upd_ne (by omega)];exact f2
    have l4:=F3.loads upd_same (i:=0) (n:=6) (xs:=e'.av) rfl rfl (by decide);obtain⟨y,hy,cy⟩:=F3.seq f4 (i:=0) rfl;obtain⟨x',K1,K2,a1,a2,a3,a4⟩:=(F3.new (.blk 0 93 e'.av)).append (e:=93) (by_:=64) (n:=c.l.length) (by rw [bNew,t3.base,s3.base];exact hb) f4 (i:=0) rfl (by decide) (bH bD c.l) (cy.new _) (kW (ex:=true) (n:=1) (m:=6) (l:=e'.av) rfl) (iP e') (by unfold most;omega) (by unfold most;omega);refine⟨K2,?_,?_,(((Step.new _ G.1).trans s3).trans t3).trans ((Step.new _ F3.1).trans a4)⟩
    ·simp -implicitDefEqProofs only [Nat.reduceLT,Int.reduceLE,Int.reduceNeg,Nat.reduceLeDiff,setAt,xq_,hq_,Jk,aB ax,ll,lt,l6,e0,hb0,lf,hneg,e1,e2,l1,bV,w1,s1,l2,t1,hy,l4,Zf,zbk,iZ (m:=6) (z:=[zI,zI,zI,zI,zB,zN]) (v:=.agg e'.av) rfl rfl (iP e'),a1,a2]
    ·refine a3.sub λq' cs hq'=> ?_;have n1:g H.next=none:=G.isNone (zab _)
     unfold upd at hq' ⊢;by_cases e3:q'=q
     ·rw [if_pos e3] at hq' ⊢;cases hq';simp [aV]
     ·rw [if_neg e3] at hq' ⊢;have:q'≠H.next:=λe4=> by rw [e4,n1] at hq';cases hq'
      rw [if_neg this,if_neg e3,if_neg this];exact hq'
end
theorem JF:∀(es:List (Int × AV)) (n:Int) (v:AV),EM es n v=lH es n v
 | [],_,_=> rfl
 | (k,w)::es,n,v=> by
  simp only [EM,lH];split
  ·rfl
  ·rw [JF es n v]
theorem Gy {α:Type}:∀{es:List (Int × α)} {n:Int} {v:α} {j:Nat} {n':Int} {w:α},(es.map (·.1)).Nodup->(lH es n v)[j]?=some (n',w)->(n'=n/\w=v)∨(n'≠n/\es[j]?=some (n',w))
 | [],n,v,j,n',w,_,h=> by
  simp only [lH] at h;cases j with
  | zero=> simp only [zaU,zaa,zac] at h;exact .inl ⟨h.1.symm,h.2.symm⟩
  | succ j=> simp at h
 | (k0,v0)::es,n,v,j,n',w,hn,h=> by
  simp only [zaz,List.nodup_cons] at hn;simp only [lH] at h;split at h
  ·rename_i e;cases j with
   | zero=> simp only [zaU,zaa,zac] at h;exact .inl ⟨h.1.symm,h.2.symm⟩
   | succ j=>
    simp only [zbt] at h;refine .inr ⟨λe'=> hn.1 ?_,by simpa using h⟩;rw [e,<-e'];exact zaL.2 ⟨_,zaK h,rfl⟩
  ·rename_i e;cases j with
   | zero=>
    simp only [zaU,zaa,zac] at h;refine .inr ⟨λe'=> e (by rw [h.1,e']),by simp [h.1,h.2]⟩
   | succ j=>
    simp only [zbt] at h;rcases Gy hn.2 h with h' | ⟨h1,h2⟩
    ·exact .inl h'
    ·exact .inr ⟨h1,by simpa using h2⟩
theorem Et {α β:Type}:∀{es:List (Int × α)} {az:List (Int × β)} {n:Int} {v:α} {w:β},az.map (·.1)=es.map (·.1)->(lH az n w).map (·.1)=(lH es n v).map (·.1)
 | [],[],_,_,_,_=> rfl
 | [],_::_,_,_,_,h=> by simp at h
 | _::_,[],_,_,_,h=> by simp at h
 | (k,v0)::es,(k',w0)::az,n,v,w,h=> by
  simp only [zaz,zbz] at h;obtain⟨rfl,h⟩:=h;simp only [lH];split
  ·simp [h]
  ·simp only [zaz,zbz,true_and];exact Et h
section
variable {b:Nat}{H:aj}{g:Store}{q:Nat}{cs:List Cell}
theorem Good.Gz(G:Good b H g)(h:g q=some cs){i m:Nat}{k:IntKind}{es:List (Int × List AV)}(hi:cs[i]?=some (.maps k m es))(hnd:(es.map (·.1)).Nodup)(n:Int):
  ∃r x,ld (.ref q 0 i) H=some (.mp r,H)/\lk k (.slice none 0 0) (.mp r) (.s (.int k n)) false H=some (x,H)/\Own b H x m ((gU es n).getD [])/\nameOf x≠some q/\q < H.next/\(∀r',nameOf x=some r'->b<=r')/\
   ∀H1 x' l',H.next<=H1.next->H1.base<=b->(∀r',r' < H.next->nameOf x≠some r'->H1.get r'=H.get r')->Fit H H1 x x' m l'->
    ∃H',mup k (.mp r) (.s (.int k n)) x' H1=some (aK,H')/\Good b H' (upd g q (cs.set i (.maps k m (lH es n l'))))/\Step b H1 H'/\H'.next=H1.next:=by
 obtain⟨h0,τ,hR⟩:=G;have R:=hR q cs h;obtain⟨ty,xs,h1,h2,h3,h4⟩:=R.blk;have hqn:=R.hi;have hlt:i < xs.length:=by rw [h2];exact(zam.1 hi).1
 have hx:xs[i]?=some (xs[i]'hlt):=zad hlt;have:=h4 i _ _ hi hx;simp only [CR] at this;obtain⟨aes,⟨r,e,t1,t2,t3,t4⟩,a2,a3⟩:=this;rw [e] at hx;have hrq:q≠r:=by intro e;subst e;rw [R.tag] at t1;cases t1
 obtain⟨x,x1,x2⟩:∃x,OS b H τ (q,i+1,1,n) x m ((gU es n).getD [])/\lk k (.slice none 0 0) (.mp r) (.s (.int k n)) false H=some (x,H):=by
  cases hn:gU es n with
  | none=>
   have hf:lX aes n=none:=by rw [oO];exact(Jz a2).1 hn
   refine⟨zN,.inl ⟨rfl,rfl⟩,?_⟩;simp only [lk,iL,aS,zah,lkO,t4,and_self,if_true,hf];rfl
  | some l=>
   obtain⟨j,w,b1,b2,b3⟩:=BX a2 hn;refine⟨w,a3 j n l w b2 b3,?_⟩;simp only [lk,iL,aS,zah,lkO,t4,and_self,if_true,oO,b1];rfl
 have htag:∀r',nameOf x=some r'->τ r'=some (q,i+1,1,n)/\b<=r':=by
  intro r' hr;rcases x1 with⟨rfl,_⟩ | ⟨r0,gg,off,n',cap,ex,ty',all,rfl,k1,k2,_⟩
  ·cases hr
  ·simp only [nameOf,zaa] at hr;subst hr;exact⟨k1,k2⟩
 have hxq:nameOf x≠some q:=λe=> by have:=(htag q e).1;rw [R.tag] at this;cases this
 have hxr:nameOf x≠some r:=λe=> by have:=(htag r e).1;rw [t1] at this;simp at this
 refine⟨r,x,by rw [jV h1,hx];rfl,x2,x1.own,hxq,hqn,λr' hr=> (htag r' hr).2,λH1 x' l' hn hb hk hf=> ?_⟩;have hg1:H1.get r=.map k aes:=by rw [hk r t3 hxr,t4]
 refine⟨H1.put r (.map k (EM aes n x')),?_,?_,Step.put _ t2,rfl⟩
 ·simp only [mup,hg1];rw [if_pos ⟨trivial,trivial,by omega⟩]
 ·refine sK (τ':=λr'=> if H.next<=r' then some (q,i+1,1,n) else τ r') h0 hR (show H.next<=H1.next from hn) (λr' hr ht=> ⟨by rw [if_neg (by omega)],?_⟩)
   ⟨by rw [if_neg (by omega)];exact R.tag,R.lo,show q < H1.next by omega,ug (xs:=xs) (by rw [get_put,if_neg hrq,hk q hqn hxq];exact h1) (R.tyl _ _ _ h1),ty,xs,by rw [get_put,if_neg hrq,hk q hqn hxq];exact h1,by simp [h2],h3,λj cc y hc hy=> ?_⟩
  ·rw [get_put,if_neg (by intro e;subst e;exact ht _ _ _ t1)];exact hk r' hr λe=> ht _ _ _ (htag r' e).1
  ·rcases jP hc with⟨rfl,rfl⟩ | ⟨hj,hc⟩
   ·rw [hx] at hy;cases hy;refine⟨lH aes n x',⟨r,rfl,by simp only;rw [if_neg (by omega)];exact t1,t2,show r < H1.next by omega,by rw [get_put,if_pos rfl,JF]⟩,Et a2,λj' n' cells y' h5 h6=> ?_⟩;rcases Gy hnd h5 with⟨rfl,rfl⟩ | ⟨hne,h5⟩
    ·rcases Gy (by rw [a2];exact hnd) h6 with⟨_,rfl⟩ | ⟨hne,_⟩
     ·rcases hf with hf | ⟨r0,gg,off,n'',cap,ex,ty',all,rfl,k1,k2,k3,k4,k5⟩
      ·exact .inl hf
      ·have hr0:r0≠r:=by
        rcases k1 with k1 | k1
        ·intro e;subst e;exact hxr k1
        ·omega
       refine .inr ⟨r0,gg,off,n'',cap,ex,ty',all,rfl,?_,?_,k2,k3,by rw [get_put,if_neg hr0];exact k4,k5⟩
       ·show(if H.next<=r0 then some (q,j+1,1,n') else τ r0)=some (q,j+1,1,n');split
        ·rfl
        ·rcases k1 with k1 | k1
         ·exact(htag r0 k1).1
         ·omega
       ·rcases k1 with k1 | k1
        ·exact(htag r0 k1).2
        ·omega
     ·exact absurd rfl hne
    ·rcases Gy (by rw [a2];exact hnd) h6 with⟨h7,_⟩ | ⟨_,h6⟩
     ·exact absurd h7 hne
     ·refine(a3 j' n' cells y' h5 h6).keep (show H.next<=H1.next from hn) λr' hr ht=> ⟨by rw [if_neg (by omega)];exact ht,?_⟩
      rw [get_put,if_neg (by intro e;subst e;rw [t1] at ht;simp at ht)];refine hk r' hr λe=> ?_;have:=(htag r' e).1;rw [this] at ht;simp only [zaa,zac,true_and] at ht;exact hne ht.symm
   ·refine(h4 j cc y hc hy).keep (show H.next<=H1.next from hn) λr' s t hr ht=> ⟨by rw [if_neg (by omega)];exact ht,?_⟩
    rw [get_put,if_neg (by intro e;subst e;rw [t1] at ht;simp only [zaa,zac,zbS] at ht;exact hj ht.2.1.symm)];refine hk r' hr λe=> ?_;have:=(htag r' e).1;rw [this] at ht;simp only [zaa,zac,zbS] at ht;exact hj ht.2.1.symm
theorem Good.acK(G:Good b H g)(h:g q=some cs){i m:Nat}{k:IntKind}{es:List (Int × List AV)}(hi:cs[i]?=some (.maps k m es)):
  ∃r aes,ld (.ref q 0 i) H=some (.mp r,H)/\r < H.next/\H.get r=.map k aes/\aes.map (·.1)=es.map (·.1):=by
 obtain⟨h0,τ,hR⟩:=G;have R:=hR q cs h;obtain⟨ty,xs,h1,h2,h3,h4⟩:=R.blk;have hlt:i < xs.length:=by rw [h2];exact(zam.1 hi).1
 have hx:xs[i]?=some (xs[i]'hlt):=zad hlt;have:=h4 i _ _ hi hx;simp only [CR] at this;obtain⟨aes,⟨r,e,t1,t2,t3,t4⟩,a2,a3⟩:=this;rw [e] at hx;exact⟨r,aes,by rw [jV h1,hx];rfl,t3,t4,a2⟩
end
abbrev x9(t:Turns):List (Int × List AV):=t.wait.map λe=> (e.1,e.2.flatMap CZ)
theorem yc(t:Turns):(x9 t).map (·.1)=t.wait.map (·.1):=by simp [x9]
theorem Cc(t:Turns)(line:Int):(gU (x9 t) line).getD []=(t.ws line).flatMap CZ:=by
 rw [x9,Gw (λl:List (Int × Int)=> l.flatMap CZ)];unfold Turns.ws;cases gU t.wait line <;> rfl
theorem JG(w:List (Int × List (Int × Int)))(line:Int)(l:List (Int × Int)):lH (w.map λe=> (e.1,e.2.flatMap CZ)) line (l.flatMap CZ)=(lH w line l).map λe=> (e.1,e.2.flatMap CZ):=by
 induction w with
 | nil=> rfl
 | cons e w ih=>
  obtain⟨k,v⟩:=e;simp only [zaz,lH];split
  ·rfl
  ·rw [ih];rfl
section
variable {b:Nat}{H:aj}{g:Store}{q:Nat}
theorem Yy(G:Good b H g)(hb:H.base<=b){t:Turns}(h:g q=some (fB t))(hw:(t.wait.map (·.1)).Nodup)(line who id:Int)(hl:(t.ws line).length < 1000000):
  ∃H',cl 195 [.ref q 0 0,I line,I who,I id] H=some (B (t.ask line who id).2,H')/\Good b H' (upd g q (fB (t.ask line who id).1))/\Step b H H':=by
 refine iI rfl rfl (agY _ _ _ _ _ _) ?_;have e1:=sZ G h line;have e2:=rX G h line;by_cases hneg:who < 0
 ·have hp:t.ask line who id=(t,false):=by simp only [Turns.ask];rw [if_pos hneg]
  rw [hp];refine⟨H,?_,by rw [dH h];exact G,Step.refl _ _⟩;simp -implicitDefEqProofs only [xq_,Jo,hneg]
 ·by_cases hc:(t.owned line || !(t.ws line).isEmpty)=true
  ·have hp:t.ask line who id=({ t with wait:=lH t.wait line (t.ws line++[(who,id)]) },false):=by simp only [Turns.ask];rw [if_neg hneg,if_pos hc]
   rw [hp];obtain⟨r,x,f1,f2,f3,f4,f5,f6,f7⟩:=G.Gz h (i:=1) rfl (by rw [show t.wait.map (λe=> (e.1,e.2.flatMap λw=> [I w.1,I w.2]))=x9 t from rfl,yc];exact hw) line;rw [show t.wait.map (λe=> (e.1,e.2.flatMap λw=> [I w.1,I w.2]))=x9 t from rfl,Cc] at f3;let o:dL:=.blk 0 293 [I who,I id];obtain⟨x',H1,a1,a2,a3,a4,a5⟩:=(f3.new o).app (e:=293) (by_:=16) (n:=(t.ws line).length) (by rw [bNew];exact hb) (by decide) (bH (enc:=CZ) (λ_=> rfl) _) (kW (ex:=true) (n:=1) (m:=2) (l:=[I who,I id]) rfl) rfl (by unfold most;omega) (by unfold most;omega);have a2':Fit H H1 x x' 2 ((t.ws line++[(who,id)]).flatMap CZ):=by
    rw [zbK];rcases a2 with a2 | ⟨r0,gg,off,n',cap,ex,ty,all,k0,k1,k2⟩
    ·exact .inl a2
    ·exact .inr ⟨r0,gg,off,n',cap,ex,ty,all,k0,k1.imp (λh=> h) λh=> zav (za2 _) h,k2⟩
   have a5':∀r',r' < H.next->nameOf x≠some r'->H1.get r'=H.get r':=λr' hr hne=> by rw [a5 r' (zat hr (za2 _)) hne,cZ hr]
   obtain⟨H',m1,m2,m3,m4⟩:=f7 H1 x' _ (zav (za2 _) a3) (by rw [a4,bNew];exact hb) a5' a2';have hgq:H1.get q=(H.new o).get q:=by rw [a5' q f5 f4,cZ f5]
   refine⟨H',?_,?_,Step.trans ⟨by rw [a4,bNew],zav (za2 _) a3,λr' hr=> a5' r' (zat hr G.1) λe=> by have:=f6 r' e;omega⟩ m3⟩
   ·have ck1:∀{β:Type} (k:Option β),ck (aS (.ref q 0 1)) (H.new o) H1 k=k:=λk=> Yr λr' hr=> by
     simp only [aS,zaa] at hr;subst hr;exact hgq
    have ed:bd 293 [(0,I who),(1,I id)]=some (.agg [I who,I id]):=by
     simp -implicitDefEqProofs only [xq_,aef,iV,dW,Zv];rfl
    have eb:=iZ (e:=293) (m:=2) (z:=[zI,zI]) (v:=.agg [I who,I id]) (H:=H) rfl rfl rfl;simp only [dN] at eb;simp only [o] at a1 ck1;cases ho:t.owned line with
    | true=>
     rw [ho] at e1;simp -implicitDefEqProofs only [xq_,Jo,hneg,e1,f1,f2,ed,Zh,zbk,Nat.reduceLeDiff,eb,a1,m1,ck1]
    | false=>
     rw [ho] at e1 hc;have hgt:(0:Int) < (t.ws line).length:=by
      cases hz:t.ws line with
      | nil=> rw [hz] at hc;simp at hc
      | cons a l=> simp only [zai];omega
     simp -implicitDefEqProofs only [xq_,Jo,hneg,e1,e2,hgt,f1,f2,ed,Zh,zbk,Nat.reduceLeDiff,eb,a1,m1,ck1]
   ·have:fB { t with wait:=lH t.wait line (t.ws line++[(who,id)]) }=(fB t).set 1 (.maps .i64 2 (lH (x9 t) line ((t.ws line++[(who,id)]).flatMap CZ))):=by
     rw [JG];rfl
    rw [this];exact m2
  ·have hp:t.ask line who id=({ t with fM:=lH t.fM line who },true):=by simp only [Turns.ask];rw [if_neg hneg,if_neg hc]
   rw [hp];have ho:t.owned line=false:=by cases h1:t.owned line <;> simp_all
   have hz:t.ws line=[]:=by
    rw [ho] at hc;cases hz:t.ws line with
    | nil=> rfl
    | cons a l=> rw [hz] at hc;simp at hc
   rw [ho] at e1;rw [hz] at e2;obtain⟨r,f1,_,_,f2⟩:=G.map h (i:=0) rfl;obtain⟨H',m1,m2,m3,m4⟩:=(f2 hb).1 line (I who);refine⟨H',?_,?_,m3⟩
   ·have hgt:¬(0:Int) < (0:Nat):=by decide
    simp -implicitDefEqProofs only [xq_,Jo,hneg,e1,e2,zaq,hgt,f1,m1]
   ·rw [Bl (λn=> I n)] at m2;exact m2
theorem JH(G:Good b H g)(hb:H.base<=b){t:Turns}(h:g q=some (fB t))(line who:Int):
  ∃H',cl 210 [.ref q 0 0,I line,I who] H=some (I (t.release line who).2,H')/\Good b H' (upd g q (fB (t.release line who).1))/\Step b H H':=by
 refine iI rfl rfl (aha _ _ _ _ _) ?_;have e1:=sZ G h line;obtain⟨r,f1,f3,_,f2⟩:=G.map h (i:=0) rfl;have f4:=f3 (.int .i64 0) line false;rw [sN] at f4;cases hr:gU t.fM line with
 | none=>
  have hp:t.release line who=(t,6):=by simp only [Turns.release,hr];rw [if_neg (by simp)]
  have ho:t.owned line=false:=by simp [Turns.owned,hr]
  rw [hp];rw [ho] at e1;refine⟨H,?_,by rw [dH h];exact G,Step.refl _ _⟩;simp -implicitDefEqProofs only [xq_,OZ,e1,zak]
 | some w=>
  have ho:t.owned line=true:=by simp [Turns.owned,hr]
  rw [ho] at e1;simp only [hr,zah,zaf,if_false] at f4;by_cases hw:w=who
  ·have hp:t.release line who=({ t with fM:=vO t.fM line },0):=by simp only [Turns.release,hr];rw [if_pos (by rw [hw])]
   rw [hp];obtain⟨H',m1,m2,m3,m4⟩:=(f2 hb).2 line;refine⟨H',?_,?_,m3⟩
   ·simp -implicitDefEqProofs only [xq_,OZ,e1,zae,f1,f4,hw,m1]
   ·rw [Om (λn=> I n)] at m2;exact m2
  ·have hp:t.release line who=(t,6):=by simp only [Turns.release,hr];rw [if_neg (by simpa using hw)]
   rw [hp];refine⟨H,?_,by rw [dH h];exact G,Step.refl _ _⟩;simp -implicitDefEqProofs only [xq_,OZ,e1,zae,zak,f1,f4,hw]
def ahr(o:Option (Int × Int)):AV:=.tup [I (o.getD (0,0)).1,I (o.getD (0,0)).2,B o.isSome]
theorem VF(G:Good b H g)(hb:H.base<=b){t:Turns}(h:g q=some (fB t))(hw:(t.wait.map (·.1)).Nodup)(line:Int)(hl:(t.ws line).length < 1000000):
  ∃H',cl 161 [.ref q 0 0,I line] H=some (ahr (t.next line).2,H')/\Good b H' (upd g q (fB (t.next line).1))/\Step b H H':=by
 refine iI rfl rfl (ags _ _ _ _) ?_;have e1:=sZ G h line;have e2:=rX G h line;cases ho:t.owned line with
 | true=>
  have hp:t.next line=(t,none):=by simp only [Turns.next,ho,if_true]
  rw [hp];rw [ho] at e1;refine⟨H,?_,by rw [dH h];exact G,Step.refl _ _⟩;simp -implicitDefEqProofs only [xq_,OU,e1,ahr,zaR,zaC]
 | false=>
  rw [ho] at e1;cases hz:t.ws line with
  | nil=>
   have hp:t.next line=(t,none):=by simp only [Turns.next,ho,hz,zaf,if_false]
   rw [hp];rw [hz] at e2;refine⟨H,?_,by rw [dH h];exact G,Step.refl _ _⟩;simp -implicitDefEqProofs only [xq_,OU,e1,e2,zaq,Int.ofNat_zero,ahr,zaR,zaC]
  | cons w l=>
   have hp:t.next line=(⟨lH t.fM line w.1,lH t.wait line l⟩,some w):=by simp only [Turns.next,ho,hz,zaf,if_false]
   rw [hp];rw [hz] at e2;obtain⟨r,x,f1,f2,f3,f4,f5,f6,f7⟩:=G.Gz h (i:=1) rfl (by rw [show t.wait.map (λe=> (e.1,e.2.flatMap λw=> [I w.1,I w.2]))=x9 t from rfl,yc];exact hw) line;rw [show t.wait.map (λe=> (e.1,e.2.flatMap λw=> [I w.1,I w.2]))=x9 t from rfl,Cc,hz] at f3;have hs:=f3.is (n:=(w::l).length) (by decide) (bH (enc:=CZ) (λ_=> rfl) _);have s1:=hs.ix (k:=.i64) (i:=(0:Int)) (by omega) (by simp only [zai];omega);rw [show((0:Int).toNat)=0 from rfl] at s1;have s2:=kU (enc:=CZ) (λ_=> rfl) hs (i:=0) (a:=w) rfl;have G1:=G.newObj (ty:=293) (xs:=[I w.1,I w.2]) rfl;have hqn:q≠H.next:=G.ne h
   have h1:upd g H.next ([I w.1,I w.2].map .av) q=some (fB t):=by rw [upd_ne hqn];exact h
   obtain⟨r',x',f1',f2',f3',f4',f5',f6',f7'⟩:=G1.Gz h1 (i:=1) rfl (by rw [show t.wait.map (λe=> (e.1,e.2.flatMap λw=> [I w.1,I w.2]))=x9 t from rfl,yc];exact hw) line;rw [show t.wait.map (λe=> (e.1,e.2.flatMap λw=> [I w.1,I w.2]))=x9 t from rfl,Cc,hz] at f3';have hln:=f3'.is (n:=(w::l).length) (by decide) (bH (enc:=CZ) (λ_=> rfl) _);rcases f3' with⟨_,f3'⟩ | ⟨r0,gg,off,n',cap,ex,ty,all,rfl,k2,k3,k4,k5,k6,k7,k8⟩
   ·simp [CZ] at f3'
   have hn':n'=l.length+1:=by have:=hln.2.2.1;simp only [zai] at this;omega
   subst hn';have sl:=zh (r:=r0) (gg:=gg) (off:=off) (m:=2) (len:=l.length+1) (cap:=cap) (ex:=ex) (k1:=.i64) (lo:=1) (by decide) (by omega) k4;have t1:(1:Int).toNat=1:=rfl;rw [t1,zbk,Nat.add_sub_cancel] at sl;have hle:(l.length+1)*2<=cap*2:=zaw _ k4;have hfit:Fit (H.new (.blk 0 293 [I w.1,I w.2])) (H.new (.blk 0 293 [I w.1,I w.2])) (.sl r0 gg off 2 (l.length+1) cap ex) (.sl r0 gg (off+2) 2 l.length (cap - 1) ex) 2 (l.flatMap CZ):=by
    refine .inr ⟨r0,gg,off+2,l.length,cap - 1,ex,ty,all,rfl,.inl rfl,k3,by omega,k5,by rw [Nat.sub_mul];omega,k7,?_⟩;have:=congrArg (List.drop 2) k8;rw [zaJ,List.drop_append_of_le_length (by simp [CZ]),show(CZ w).drop 2=[] from rfl,zaS,zbZ,zbq] at this;rw [this]
    congr 1
    omega
   obtain⟨H2,m1,G2,m3,m4⟩:=f7' (H.new (.blk 0 293 [I w.1,I w.2])) _ _ (zab _) (by rw [bNew];exact hb) (λ_ _ _=> rfl) hfit;have e3:(fB t).set 1 (.maps .i64 2 (lH (x9 t) line (l.flatMap CZ)))=fB ⟨t.fM,lH t.wait line l⟩:=by
    rw [JG];rfl
   rw [show(List.map (λe=> (e.1,List.flatMap (λw=> [I w.1,I w.2]) e.2)) t.wait)=x9 t from rfl,e3] at G2;obtain⟨ro,o1,_,_,o2⟩:=G2.map upd_same (i:=0) rfl;have hb2:H2.base<=b:=by rw [m3.base,bNew];exact hb
   obtain⟨H3,p1,G3,p3,p4⟩:=(o2 hb2).1 line (I w.1);have j2:∀cs,upd (upd g H.next ([I w.1,I w.2].map .av)) q cs H.next=some ([I w.1,I w.2].map .av):=λcs=> by rw [upd_ne hqn.symm,upd_same]
   have v1:=G2.load (j2 _) (i:=0) (x:=I w.1) rfl;rw [kE] at G3;have v2:=G3.load (j2 _) (i:=0) (x:=I w.1) rfl;have v3:=G3.load (j2 _) (i:=1) (x:=I w.2) rfl;refine⟨H3,?_,?_,((Step.new _ G.1).trans m3).trans p3⟩
   ·have hne:¬((l.length+1:Nat):Int)=0:=by omega
    have hbn:H.base<=H.next:=zav hb G.1
    simp only [CZ] at s2;simp -implicitDefEqProofs only [Nat.reduceAdd,setAt,xq_,hq_,OU,e1,e2,hne,f1,f2,s1,s2,hbn,f1',f2',sl,m1,o1,v1,p1,v2,v3,ahr,zas,zaE]
   ·rw [Bl (λn=> I n)] at G3;refine G3.sub ?_;exact((nV.refl g).more (G.isNone (zab _)) _).both q _
end
abbrev blw(n lo hi:Int):Bool:=decide (lo<=n) && decide (n < hi)
theorem Yz(H:aj)(n lo hi:Int):cl 179 [I n,I lo,I hi] H=some (B (blw n lo hi),H):=by
 refine aN rfl rfl (aaM _ _ _ _ _ ?_);by_cases h:lo<=n
 ·simp -implicitDefEqProofs only [xq_,Jl,h,blw,zba]
 ·simp -implicitDefEqProofs only [xq_,Jl,h,blw,zbr]
theorem three(a b c:Bool):a=false∨(a=true/\b=false)∨(a=true/\b=true/\c=false)∨(a=true/\b=true/\c=true):=by revert a b c;decide
theorem Pkt.ok_eq(p:Pkt):p.ok=(blw p.src 0 6 && blw p.dst 0 6 && blw p.id 0 4096 && (blw p.kind 1 10 && blw p.line 0 8 && blw p.ptr (-1) 6) && blw p.state 0 3 && !decide ((4:Int) < p.data.length)):=by
 have:decide (p.data.length<=4)=!decide ((4:Int) < p.data.length):=by
  by_cases h:p.data.length<=4
  ·have:¬(4:Int) < p.data.length:=by omega
   simp [h,this]
  ·have:(4:Int) < p.data.length:=by omega
   simp [h,this]
 unfold Pkt.ok;rw [this];simp only [blw,Bool.and_assoc]
theorem wK(H:aj)(p:Pkt):cl 141 [.agg p.av] H=some (I (if p.ok=true then 0 else 1),H):=by
 refine bI rfl rfl (aam _ _ _) ?_ gK;have e1:=λH n lo hi=> Yz H n lo hi;have e2:=λH=> (jW H p.data).lnS;rw [p.ok_eq];generalize a1:blw p.src 0 6=b1;generalize a2:blw p.dst 0 6=b2;generalize a3:blw p.id 0 4096=b3;generalize a4:blw p.kind 1 10=b4;generalize a5:blw p.line 0 8=b5;generalize a6:blw p.ptr (-1) 6=b6;generalize a7:blw p.state 0 3=b7;by_cases h8:(4:Int) < p.data.length
 all_goals rcases three b1 b2 b3 with rfl | ⟨rfl,rfl⟩ | ⟨rfl,rfl,rfl⟩ | ⟨rfl,rfl,rfl⟩
 all_goals rcases three b4 b5 b6 with rfl | ⟨rfl,rfl⟩ | ⟨rfl,rfl,rfl⟩ | ⟨rfl,rfl,rfl⟩
 all_goals cases b7
 all_goals simp -implicitDefEqProofs only [Nat.reduceLT,Int.reduceNeg,xq_,hq_,UH,aB,Pkt.av,e1,e2,a1,a2,a3,a4,a5,a6,a7,h8,zae,zak,zbr,Bool.and_false]
theorem Eu(H:aj)(k:Int):cl 64 [I k] H=some (B (Bo k),H):=by
 refine bI rfl rfl (aje _ _ _) ?_ gK;by_cases h:1<=k
 ·simp -implicitDefEqProofs only [xq_,acd,h,Bo,zba]
 ·simp -implicitDefEqProofs only [xq_,acd,h,Bo,zbr]
theorem JI(H:aj)(k:Int):cl 197 [I k] H=some (I (FC k),H):=by
 refine bI rfl rfl (ag1 _ _ _) ?_ gK;by_cases h1:k=1
 ·simp -implicitDefEqProofs only [Int.reduceEq,xq_,yJ,h1,FC]
 ·by_cases h2:k=2
  ·simp -implicitDefEqProofs only [Int.reduceEq,xq_,yJ,lS,h2,FC,true_or]
  ·by_cases h4:k=4
   ·simp -implicitDefEqProofs only [Int.reduceEq,xq_,yJ,lS,h4,FC,true_or,or_true]
   ·by_cases h5:k=5
    ·simp -implicitDefEqProofs only [Int.reduceEq,xq_,yJ,lS,h5,FC,or_true]
    ·by_cases h3:k=3
     ·simp -implicitDefEqProofs only [Int.reduceEq,xq_,yJ,lS,wI,h3,FC,true_or,false_or]
     ·by_cases h6:k=6
      ·simp -implicitDefEqProofs only [Int.reduceEq,xq_,yJ,lS,wI,h6,FC,or_true,false_or]
      ·simp -implicitDefEqProofs only [xq_,yJ,lS,wI,h1,h2,h3,h4,h5,h6,FC,false_or]
theorem kL(z:Int):((by8 z).toNat:Int)=z % 256:=by
 unfold by8;have h:(BitVec.ofInt 8 z).toNat=(z % ((2 ^ 8:Nat):Int)).toNat:=BitVec.toNat_ofInt z;have h2:(0:Int)<=z % 256:=Int.emod_nonneg _ (by decide);rw [h,show((2 ^ 8:Nat):Int)=256 from rfl,Int.toNat_of_nonneg h2]
theorem Px(z:Int):(AV.s (.int .u8 (IntKind.wrap .u8 z)))=Y (by8 z):=by
 show _=AV.s (.int .u8 ((by8 z).toNat:Int));rw [kL,ZW rfl];rfl
theorem ajI(H:aj)(f:Bool):cl0 142 [B f] H=some (Y (by8 (if f then 1 else 0)),H):=by
 refine eG (af4 _ _ _ ?_);cases f
 ·simp -implicitDefEqProofs only [xq_,UJ];rfl
 ·simp -implicitDefEqProofs only [xq_,UJ];rfl
def akV(H0 H:aj)(x:AV)(l:List AV):Prop:=
 (x=zN/\l=[])∨(∃r g ty,x=.sl r g 0 1 l.length l.length false/\H0.next<=r/\r < H.next/\H.get r=.blk g ty l)∨(∃r ty,x=.sl r 0 0 1 l.length l.length true/\H0.next<=r/\r < H.next/\H.get r=.blk 0 ty l)
structure Acc(H0 H:aj)(x:AV)(l:List AV):Prop where
 gro:Gro H0 H
 base:H.base<=H0.next
 x:akV H0 H x l
theorem Acc.is {H0 H:aj}{x:AV}{l:List AV}(a:Acc H0 H x l):aH H x 1 l.length l:=by
 refine⟨by omega,?_⟩;rcases a.x with⟨rfl,rfl⟩ | ⟨r,g,ty,rfl,h1,h2,h3⟩ | ⟨r,ty,rfl,h0',h1,h2⟩
 ·exact⟨rfl,rfl,rfl⟩
 ·exact⟨rfl,rfl,⟨h2,zab _⟩,ty,l,h3,by omega,by simp⟩
 ·exact⟨rfl,rfl,⟨h1,zab _⟩,ty,l,h2,by omega,by simp⟩
theorem Acc.one {H0 H:aj}{x:AV}{l:List AV}(a:Acc H0 H x l):One x:=by
 rcases a.x with⟨rfl,rfl⟩ | ⟨r,g,ty,rfl,h1,h2,h3⟩ | ⟨r,ty,rfl,h0',h1,h2⟩
 ·exact mg
 ·exact qI
 ·exact qI
theorem Acc.ajJ {H0 H H':aj}{x:AV}{l:List AV}(a:Acc H0 H x l)(g:Gro H H'):Acc H0 H' x l:=by
 refine⟨a.gro.trans g,by rw [g.base];exact a.base,?_⟩;rcases a.x with h | ⟨r,g',ty,h0,h1,h2,h3⟩ | ⟨r,ty,h0,h0',h1,h2⟩
 ·exact .inl h
 ·exact .inr (.inl ⟨r,g',ty,h0,h1,zat h2 g.next,by rw [g.same r h2];exact h3⟩)
 ·exact .inr (.inr ⟨r,ty,h0,h0',zat h1 g.next,by rw [g.same r h1];exact h2⟩)
theorem Gro.put {H0 H:aj}{r g ty:Nat}{xs:List AV}(G:Gro H0 H)(hr:H0.next<=r):Gro H0 (H.put r (.blk g ty xs)):=
 ⟨G.next,G.base,λx hx=> by
  have:(H.put r (.blk g ty xs)).get x=H.get x:=by simp only [aj.put];rw [if_neg (by omega)]
  rw [this];exact G.same x hx,λh x k es=> by
  simp only [aj.put];split
  ·simp
  ·exact G.Jr h x k es⟩
theorem Acc.app {H0 H:aj}{x:AV}{l:List AV}(a:Acc H0 H x l){e by_ n:Nat}{y:AV}{new:List AV}(hy:aH H y 1 n new)(hc:new.all AV.aJ=true)(hn:n≠0)(hs:l.length+n < 1000)(hby:by_<=16):
  ∃x' H',app e 1 by_ x y H=some (x',H')/\Acc H0 H' x' (l++new):=by
 have hnew:new.length=n:=by have:=hy.1;omega
 obtain⟨c1,c2⟩:=hy.uh;have hb1:n*by_<=most:=by
  have:n*by_<=1000*16:=Nat.mul_le_mul (by omega) hby;unfold most;omega
 have hb2:(l.length+n)*by_<=most:=by
  have:(l.length+n)*by_<=1000*16:=Nat.mul_le_mul (by omega) hby;unfold most;omega
 have hm1:n<=most:=by unfold most;omega
 have hm2:l.length+n<=most:=by unfold most;omega
 rcases a.x with⟨rfl,rfl⟩ | ⟨r,g,ty,rfl,h1,h2,h3⟩ | ⟨r,ty,rfl,h0',h1,h2⟩
 ·refine⟨_,_,abN hy hc hn hm1 hb1,a.gro.trans (Gro.new _ _ _ _),by rw [bNew];exact a.base,.inr (.inl ⟨H.next,0,e+dV,?_,a.gro.next,by rw [nNew];omega,?_⟩)⟩
  ·simp only [zaS,hnew]
  ·rw [aP rfl,zaS]
 ·refine⟨.sl r (g+1) 0 1 (l.length+n) (l.length+n) false,H.put r (.blk (g+1) (grT e ty 0) (l++new)),?_,a.gro.put h1,a.base,.inr (.inl ⟨r,g+1,grT e ty 0,?_,h1,h2,?_⟩)⟩
  ·simp only [Proofs.YthmoogcacpmjiaaGreat.app,c1,c2];unfold bQ;rw [if_pos ⟨hy.1,hc⟩];simp only [h3];rw [if_pos ⟨trivial,trivial,by omega⟩,if_neg hn,if_neg (by omega),if_pos ⟨hm2,hb2⟩];simp only [zaf,if_false,zaM];rw [if_pos (zav a.base h1)];simp
  ·simp only [zan,hnew]
  ·simp only [aj.put,if_true]
 ·refine⟨.sl H.next 0 0 1 (l.length+n) (l.length+n) false,H.new (.blk 0 (e+dV) (l++new)),?_,a.gro.trans (Gro.new _ _ _ _),by rw [bNew];exact a.base,.inr (.inl ⟨H.next,0,e+dV,?_,a.gro.next,by rw [nNew];omega,aP rfl⟩)⟩
  ·simp only [Proofs.YthmoogcacpmjiaaGreat.app,c1,c2];unfold bQ;rw [if_pos ⟨hy.1,hc⟩];simp only [h2];rw [if_pos ⟨trivial,trivial,by omega⟩,if_neg hn,if_neg (by omega),if_pos ⟨hm2,hb2⟩];simp
  ·simp only [zan,hnew]
theorem VG(n:Int):∀k,k < 8->(mV n).drop (8 - (k+1))=by8 (n.fdiv (2 ^ (8*k)))::(mV n).drop (8 - k)
 | 0,_ | 1,_ | 2,_ | 3,_ | 4,_ | 5,_ | 6,_ | 7,_=> rfl
 | k+8,h=> absurd h (by omega)
theorem ajK(H:aj)(hb:H.base<=H.next)(n:Int):∃y H',cl0 143 [I n] H=some (y,H')/\Acc H H' y ((mV n).map Y):=by
 have key:∀k:Nat,k<=8->∀(x:AV) (K:aj) (l:List By),Acc H K x (l.map Y)->l.length+k=8->∃y H',zx cl0 [I n,x,I (8*(k:Int) - 8)] K=some (y,H')/\Acc H H' y ((l++(mV n).drop (8 - k)).map Y):=by
  intro k
  induction k with
  | zero=>
   intro hk x K l a hl;have h1:¬((0:Int)<=8*((0:Nat):Int) - 8):=by omega
   refine⟨x,K,?_,by rw [show(mV n).drop (8 - 0)=[] from rfl,za8];exact a⟩;rw [OJ];simp -implicitDefEqProofs only [xq_,h1]
  | succ k ih=>
   intro hk x K l a hl;have h0:8*((k+1:Nat):Int) - 8=((8*k:Nat):Int):=by omega
   have h1:(0:Int)<=((8*k:Nat):Int):=by omega
   have e1:bi .shr 3 (I n) (I ((8*k:Nat):Int))=some (I (n.fdiv (2 ^ (8*k)))):=by
    have:=LY (P:=Tryz.prog) (t:=3) (k:=.i64) (k':=.i64) (a:=n) h1;rw [zaB,show min (8*k) (IntKind.bits .i64)=8*k from zbc (show 8*k<=64 by omega)] at this;exact this
   have e2:cv 3 5 (I (n.fdiv (2 ^ (8*k)))) K=some (Y (by8 (n.fdiv (2 ^ (8*k)))),K):=by rw [<-Px];exact Zw
   obtain⟨c,hc⟩:∃c,by8 (n.fdiv (2 ^ (8*k)))=c:=⟨_,rfl⟩
   rw [hc] at e2;have b1:bs 180 1 [(0,Y c)] K=some (.sl K.next 0 0 1 1 1 true,K.new (.blk 0 5 [Y c])):=(Og (by decide)).trans (iZ rfl rfl rfl);have a1:=a.ajJ (Gro.new K 0 5 [Y c]);obtain⟨x',K',p1,a2⟩:=a1.app (e:=5) (by_:=1) (n:=1) (kW (e:=5) (H:=K) (ex:=true) (n:=1) (m:=1) (l:=[Y c]) rfl) rfl (by decide) (by simp;omega) (by decide);have h2:((8*k:Nat):Int) - 8=8*(k:Int) - 8:=by omega
   have w:=wrap_i64 (a:=8*(k:Int) - 8) (by omega) (by omega);obtain⟨y,H',r1,r2⟩:=ih (by omega) x' K' (l++[c]) (by simpa using a2) (by simp;omega);refine⟨y,H',?_,?_⟩
   ·rw [OJ,h0];simp -implicitDefEqProofs only [xq_,h1,e1,e2,b1,p1,gZ,h2,w,r1]
   ·rw [VG n k (by omega),hc]
    simpa using r2
 obtain⟨y,H',r1,r2⟩:=key 8 (zab _) zN H [] ⟨Gro.refl H,hb,.inl ⟨rfl,rfl⟩⟩ rfl;refine⟨y,H',eG (af5 _ _ _ ?_),by simpa using r2⟩;have:(8*((8:Nat):Int) - 8)=56:=rfl;rw [this] at r1;simp -implicitDefEqProofs only [aao,r1]
theorem Ew {z:AV}:∀(rest pre:List AV),(∀x∈rest,One x)->dW (λi=> some (i*1,1)) (pre++bU [z] rest.length) ((rest.zipIdx pre.length).map λp=> (p.2,p.1))=some (pre++rest)
 | [],pre,_=> by simp [bU,bT]
 | x::rest,pre,h=> by
  rw [List.zipIdx_cons,zaz,Bj (off:=pre.length) (by simp) (h x (by simp)).1 (by simp [bU])];have e:(pre++bU [z] (x::rest).length).set pre.length x=(pre++[x])++bU [z] rest.length:=by
   show(pre++([z]++bU [z] rest.length)).set pre.length x=_;rw [List.set_append_right _ _ (zab _),Nat.sub_self];simp
  rw [e];have ih:=Ew (z:=z) rest (pre++[x]) λy hy=> h y (by simp [hy]);rw [zan,zai,zaq,za0] at ih;rw [ih];simp
theorem YA {e:Nat}{z:AV}{l:List AV}{H:aj}(h:∀x∈l,One x):bsl e 1 [z] l.length ((l.zipIdx 0).map λp=> (p.2,p.1)) H=some (.sl H.next 0 0 1 l.length l.length true,H.new (.blk 0 e l)):=by
 have:=Ew (z:=z) l [] h;simp only [zaS,zaq] at this;unfold bsl;rw [this];have ha:l.all AV.aJ=true:=zaY.2 λx hx=> (h x hx).2;simp only [ha,if_true]
theorem ahs(H:aj)(n lo hi:Int):cl0 179 [I n,I lo,I hi] H=some (B (blw n lo hi),H):=by
 refine eG (aaM _ _ _ _ _ ?_);by_cases h:lo<=n
 ·simp -implicitDefEqProofs only [xq_,Jl,h,blw,zba]
 ·simp -implicitDefEqProofs only [xq_,Jl,h,blw,zbr]
theorem aht(H:aj)(p:Pkt){x:AV}(hx:jo H x p.data)(hok:p.ok=true):cl0 141 [.agg (p.avx x)] H=some (I 0,H.new (.blk 0 70 (p.avx x))):=by
 refine eG (aam _ _ _ ?_);have e1:=λH n lo hi=> ahs H n lo hi;have e2:=(hx.is.new (.blk 0 70 (p.avx x))).lnS;rw [p.ok_eq] at hok;generalize a1:blw p.src 0 6=b1 at hok;generalize a2:blw p.dst 0 6=b2 at hok;generalize a3:blw p.id 0 4096=b3 at hok;generalize a4:blw p.kind 1 10=b4 at hok;generalize a5:blw p.line 0 8=b5 at hok;generalize a6:blw p.ptr (-1) 6=b6 at hok;generalize a7:blw p.state 0 3=b7 at hok;simp only [zaj] at hok;obtain⟨⟨⟨⟨⟨rfl,rfl⟩,rfl⟩,⟨⟨rfl,rfl⟩,rfl⟩⟩,rfl⟩,a8⟩:=hok;have h8:¬(4:Int) < p.data.length:=by simpa using a8
 have ax:=zW (p:=p) hx.one;simp only [Pkt.avx] at e2 ax ⊢;simp -implicitDefEqProofs only [Nat.reduceLT,Int.reduceNeg,xq_,hq_,UH,aB ax,e1,e2,a1,a2,a3,a4,a5,a6,a7,h8,zae]
theorem mO:∀l:List Int,(l.flatMap mV).length=l.length*8
 | []=> rfl
 | v::l=> by rw [zaJ,zan,mO l,gV,zai];omega
theorem ahu {H:aj}(hb:H.base<=H.next)(p:Pkt){x:AV}(hx:jo H x p.data)(hok:p.ok=true):
  ∃y H',cl0 94 [.agg (p.avx x)] H=some (.tup [y,I 0],H')/\Gro H H'/\aZ H' y (nX p)/\H'.base<=H'.next:=by
 have hok2:=hok;simp only [Pkt.ok,zaj,decide_eq_true_eq] at hok2;have ax:=zW (p:=p) hx.one;let o:dL:=.blk 0 70 (p.avx x);let H1:=H.new o;let H2:=H1.new o;have g1:Gro H H1:=Gro.new H 0 _ _;have g2:Gro H1 H2:=Gro.new H1 0 _ _;have hb2:H2.base<=H2.next:=by simp only [H2,H1,bNew,nNew];omega
 have ck:=aht H1 p (hx.new o) hok;have at1:H1.get H.next=.blk 0 70 (p.avx x):=aP rfl
 have at2:H2.get H.next=.blk 0 70 (p.avx x):=by rw [g2.same _ (by simp only [H1,nNew];omega)];exact at1
 have lx:(p.avx x).length=9:=rfl;have l1:lda 9 (.ref H.next 0 0) H1=some (.agg (p.avx x),H1):=(fV (off:=0) (n:=9) at1 (by rw [lx];exact zab _)).trans rfl;have lds:∀i v,(p.avx x)[i]?=some v->ld (.ref H.next 0 i) H2=some (v,H2):=λi v hv=> by rw [jV at2,hv];rfl
 have p0:=lds 0 (I p.kind) rfl;have p1:=lds 1 (I p.src) rfl;have p2:=lds 2 (I p.dst) rfl;have p3:=lds 3 (I p.id) rfl;have p4:=lds 4 (I p.line) rfl;have p5:=lds 5 (I p.ptr) rfl;have p6:=lds 6 (I p.state) rfl;have p7:=lds 7 (B p.flag) rfl;have p8:=lds 8 x rfl;have cv1:∀z H,cv 3 5 (I z) H=some (Y (by8 z),H):=λz H=> by rw [<-Px];exact Zw
 have sh1:bi .shr 3 (I p.id) (.s (.int .u64 8))=some (I (p.id.fdiv 256)):=LY (P:=Tryz.prog) (t:=3) (k:=.i64) (k':=.u64) (a:=p.id) (n:=8) (by decide);have w1:=wrap_i64 (a:=p.ptr+1) (by omega) (by omega);have fl:=λH=> ajI H p.flag;have hx2:=(hx.new o).new o;have ln2:=hx2.is.lnS;let hd:List By:=[by8 p.kind,by8 p.src,by8 p.dst,by8 (p.id.fdiv 256),by8 p.id,by8 p.line,by8 (p.ptr+1),by8 p.state,by8 (if p.flag then 1 else 0),by8 p.data.length]
 have bsH:bs 180 10 [(0,Y (by8 p.kind)),(1,Y (by8 p.src)),(2,Y (by8 p.dst)),(3,Y (by8 (p.id.fdiv 256))),(4,Y (by8 p.id)),(5,Y (by8 p.line)),(6,Y (by8 (p.ptr+1))),(7,Y (by8 p.state)),(8,Y (by8 (if p.flag then 1 else 0))),(9,Y (by8 p.data.length))] H2=some (.sl H2.next 0 0 1 10 10 true,H2.new (.blk 0 5 (hd.map Y))):=
  (Og (by decide)).trans (YA (l:=hd.map Y) λy hy=> by
   obtain⟨c,_,rfl⟩:=zaL.1 hy;exact acu)
 let H3:=H2.new (.blk 0 5 (hd.map Y));have g3:Gro H2 H3:=Gro.new H2 0 _ _;have l3:ld (.ref H.next 0 8) H3=some (x,H3):=by
  rw [jV (by rw [g3.same _ (by simp only [H2,H1,nNew];omega)];exact at2)];rfl
 have ln3:=(hx2.new (.blk 0 5 (hd.map Y))).is.lnS;have acc0:Acc H2 H3 (.sl H2.next 0 0 1 10 10 true) (hd.map Y):=⟨g3,by simp only [H3,bNew];exact hb2,.inr (.inr ⟨H2.next,5,rfl,zab _,by simp only [H3,nNew];omega,aP rfl⟩)⟩
 have key:∀k i,i+k=p.data.length->∀a K,Acc H2 K a ((hd++(p.data.take i).flatMap mV).map Y)->
   ∃y H',F6 cl0 [a,x,I p.data.length,I i] K=some (.tup [y,I 0],H')/\Gro H2 H'/\aZ H' y (nX p)/\H'.base<=H'.next:=by
  intro k
  induction k with
  | zero=>
   intro i hi a K ac;have h1:¬((i:Int) < p.data.length):=by omega
   rw [zax (by omega)] at ac;have hlen:(dF p).length < 900:=by
    have h2:=nI p;unfold nX ig at h2;simp only [zan,zai,zaq,Pkt.bytes] at h2;omega
   have hbK:K.base<=K.next:=zav ac.base ac.gro.next
   have bK:aZ K a (dF p):=by
    have:=ac.is;rw [zaA] at this;exact⟨this,by omega⟩
   obtain⟨y,H',e1,g',b',hb'⟩:=acv hbK bK hlen;refine⟨y,H',?_,ac.gro.trans g',b',hb'⟩;rw [Us];simp -implicitDefEqProofs only [xq_,h1,e1]
  | succ k ih=>
   intro i hi a K ac;have h1:(i:Int) < p.data.length:=by omega
   have h6:(i:Int)+1=((i+1:Nat):Int):=by omega
   have h7:=wrap_i64 (a:=((i+1:Nat):Int)) (by omega) (by omega);obtain⟨v,hv⟩:∃v,p.data[i]?=some v:=⟨_,zad (by omega)⟩
   have hxK:=hx2.is.lM ac.gro.next λr _ hr=> ac.gro.same r hr
   have s1:=hxK.ix (k:=.i64) (i:=(i:Int)) (by omega) h1;rw [zaB] at s1;have s2:ld (cO x i) K=some (I v,K):=by rw [hxK.ld (by omega),zaI,hv];rfl
   have hbK:K.base<=K.next:=zav ac.base ac.gro.next
   obtain⟨y,K1,e1,aw⟩:=ajK K hbK v;have ac1:=ac.ajJ aw.gro;have hy:=aw.is;have hlt:(p.data.take i).length=i:=by rw [zar];omega
   obtain⟨a2,K2,e2,ac2⟩:=ac1.app (e:=5) (by_:=1) (n:=8) (by have h:=hy;rw [zaA,gV] at h;exact h) (X4 _) (by decide) (by
    simp only [zaA,zan];have:((p.data.take i).flatMap mV).length=i*8:=by rw [mO,hlt]
    rw [this];simp only [hd,zai,zaq];omega) (by decide)
   have hap:((hd++(p.data.take i).flatMap mV).map Y)++(mV v).map Y=(hd++(p.data.take (i+1)).flatMap mV).map Y:=by
    rw [List.take_add_one,hv];simp
   rw [hap] at ac2;obtain⟨y',H',r1,r2,r3,r4⟩:=ih (i+1) (by omega) a2 K2 ac2;refine⟨y',H',?_,r2,r3,r4⟩;rw [Us];simp -implicitDefEqProofs only [xq_,h1,s1,s2,e1,e2,bV,h6,h7,r1]
 obtain⟨y,H',r1,r2,r3,r4⟩:=key p.data.length 0 (by omega) _ H3 (by simpa using acc0);refine⟨y,H',eG (ajt _ _ _ ?_),(g1.trans g2).trans r2,r3,r4⟩;have z0:((0:Nat):Int)=0:=rfl;rw [z0] at r1;simp only [H1,H2,H3,o,nNew] at ck l1 p0 p1 p2 p3 p4 p5 p6 p7 p8 ln2 bsH l3 ln3 r1;simp -implicitDefEqProofs only [Nat.reduceLT,xq_,afp,aB ax,l1,ck,p0,p1,p2,p3,p4,p5,p6,p7,p8,cv1,sh1,bV,w1,fl,ln2,bsH,l3,ln3,zae,r1]
def nmS(s:BitVec 64)(l:List By):BitVec 64:=l.foldl (λs c=> (s <<< 8) ||| c.setWidth 64) s
def nmV(l:List By):Int:=(nmS 0#64 l).toInt
theorem wrap_toInt(s:BitVec 64):IntKind.wrap .i64 (s.toNat:Int)=s.toInt:=by
 have h:=s.isLt;simp only [IntKind.wrap,IntKind.bits,IntKind.signed,BitVec.toInt_eq_toNat_cond,zba,decide_eq_true_eq,ge_iff_le];split <;> split <;> omega
theorem acL {H:aj}{y:AV}{l:List By}(hx:aZ H y l):cl0 147 [y] H=some (I (nmV l),H):=by
 have key:∀(k i:Nat),i+k=l.length->∀s:BitVec 64,zy cl0 [U64 s,y,I l.length,I i] H=some (I (nmS s (l.drop i)).toInt,H):=by
  intro k
  induction k with
  | zero=>
   intro i hi s;have h1:¬((i:Int) < l.length):=by omega
   have e1:cv 232 3 (U64 s) H=some (I s.toInt,H):=by rw [<-wrap_toInt];exact XP (k:=.u64)
   rw [OO,zaN (by omega)];simp -implicitDefEqProofs only [xq_,h1,e1]
   try rfl
  | succ k ih=>
   intro i hi s;have h1:(i:Int) < l.length:=by omega
   have h6:(i:Int)+1=((i+1:Nat):Int):=by omega
   have h7:=wrap_i64 (a:=((i+1:Nat):Int)) (by have:=hx.small;omega) (by have:=hx.small;omega);obtain⟨c,hc⟩:∃c,l[i]?=some c:=⟨_,zad (by omega)⟩
   have s1:=hx.ix (i:=i) (by omega);have s2:=hx.ld hc;have e1:cv 5 232 (Y c) H=some (U64 (c.setWidth 64),H):=
    (XM (k:=.u8) (n:=(c.toNat:Int)) (H:=H)).trans (congrArg (λv=> some (v,H)) (aeG (k:=.u8) (k':=.u64) rfl c))
   have e2:bi .shl 232 (U64 s) (.s (.int .u64 8))=some (U64 (s <<< 8)):=Uc (k:=.u64) rfl s 8 (by decide) (by decide);have e3:bi .or 232 (U64 (s <<< 8)) (U64 (c.setWidth 64))=some (U64 ((s <<< 8) ||| c.setWidth 64)):=akz (k:=.u64) rfl _ _;have hd:l.drop i=c::l.drop (i+1):=by
    rw [zbA (by omega)];rw [zad (by omega)] at hc;rw [za9 hc]
   have ih1:=ih (i+1) (by omega) ((s <<< 8) ||| c.setWidth 64);have e5:nmS s (c::l.drop (i+1))=nmS ((s <<< 8) ||| c.setWidth 64) (l.drop (i+1)):=rfl;rw [OO,hd,e5,<-ih1];simp -implicitDefEqProofs only [xq_,h1,s1,s2,e1,e2,e3,bV,h6,h7]
   try rfl
 refine eG (af8 _ _ _ ?_);have s0:=hx.is.lnS;have k0:=key l.length 0 (by omega) 0#64;rw [zaM] at k0;simp -implicitDefEqProofs only [xq_,aas,s0];exact k0
theorem or8 {s:BitVec 64}(c:By)(h:s.toNat < 2 ^ 56):((s <<< 8) ||| c.setWidth 64).toNat=s.toNat*256+c.toNat:=by
 have hc:=c.isLt;have h1:(s <<< 8).toNat=s.toNat <<< 8:=by
  rw [BitVec.toNat_shiftLeft,Nat.mod_eq_of_lt];rw [Nat.shiftLeft_eq];omega
 have h2:(c.setWidth 64).toNat=c.toNat:=by rw [BitVec.toNat_setWidth,Nat.mod_eq_of_lt (by omega)]
 rw [BitVec.toNat_or,h1,h2,<-Nat.shiftLeft_add_eq_or_of_lt hc,Nat.shiftLeft_eq]
theorem nO {N b:Nat}{s:BitVec 64}{c:By}(hs:s.toNat=N / (b*256))(hc:c.toNat=N / b % 256)(hN:N < 2 ^ 64)(hb:0 < b):((s <<< 8) ||| c.setWidth 64).toNat=N / b:=by
 have h0:N / (b*256)=N / b / 256:=(Nat.div_div_eq_div_mul N b 256).symm;have h1:N / b<=N:=Nat.div_le_self N b;rw [or8 c (by rw [hs,h0];omega),hs,hc,h0];omega
theorem VH(n:Int)(j:Nat)(hj:j+8<=64):(n / 2 ^ j) % 256=((n % 18446744073709551616) / 2 ^ j) % 256:=by
 have h64:(18446744073709551616:Int)=2 ^ j*2 ^ (64 - j):=by
  rw [<-Int.pow_add,show j+(64 - j)=64 by omega];rfl
 have h256:(2:Int) ^ (64 - j)=256*2 ^ (56 - j):=by
  rw [show 64 - j=8+(56 - j) by omega,Int.pow_add];rfl
 have hne:(2:Int) ^ j≠0:=Int.pow_ne_zero (by decide);have hq:n=n % 18446744073709551616+2 ^ j*(2 ^ (64 - j)*(n / 18446744073709551616)):=by
  rw [<-Int.mul_assoc,<-h64];exact(Int.emod_add_mul_ediv n 18446744073709551616).symm
 obtain⟨r,hr⟩:∃r,n % 18446744073709551616=r:=⟨_,rfl⟩
 obtain⟨q,hqq⟩:∃q,n / 18446744073709551616=q:=⟨_,rfl⟩
 rw [hr,hqq] at hq;rw [hr,hq,Int.add_mul_ediv_left _ _ hne,h256,Int.mul_assoc,Int.add_mul_emod_self_left]
theorem VI(n:Int)(k:Nat)(hk:k < 8){N:Nat}(hN:(N:Int)=n % 18446744073709551616):(by8 (n.fdiv (2 ^ (8*k)))).toNat=N / 2 ^ (8*k) % 256:=by
 have h:=kL (n.fdiv (2 ^ (8*k)));have hp:(0:Int)<=2 ^ (8*k):=Int.pow_nonneg (by decide);rw [zbO _ hp] at h ⊢;rw [VH n (8*k) (by omega),<-hN] at h;have h2:((N:Int) / 2 ^ (8*k)) % 256=((N / 2 ^ (8*k) % 256:Nat):Int):=by
  rw [Int.natCast_emod,Int.natCast_ediv,Int.natCast_pow];rfl
 rw [h2] at h;exact Int.ofNat_inj.1 h
theorem GH {n:Int}(h:I64 n):nmV (mV n)=n:=by
 obtain⟨h1,h2⟩:=h;obtain⟨N,hN⟩:∃N:Nat,(N:Int)=n % 18446744073709551616:=⟨(n % 18446744073709551616).toNat,Int.toNat_of_nonneg (Int.emod_nonneg _ (by decide))⟩
 have hlt:N < 2 ^ 64:=by omega
 have w:=λk hk=> VI n k hk hN;have s7:=nO (N:=N) (b:=2 ^ 56) (s:=0#64) (by rw [Nat.div_eq_of_lt (by omega)];rfl) (w 7 (by decide)) hlt (by decide);have s6:=nO (b:=2 ^ 48) s7 (w 6 (by decide)) hlt (by decide);have s5:=nO (b:=2 ^ 40) s6 (w 5 (by decide)) hlt (by decide);have s4:=nO (b:=2 ^ 32) s5 (w 4 (by decide)) hlt (by decide);have s3:=nO (b:=2 ^ 24) s4 (w 3 (by decide)) hlt (by decide);have s2:=nO (b:=2 ^ 16) s3 (w 2 (by decide)) hlt (by decide);have s1:=nO (b:=2 ^ 8) s2 (w 1 (by decide)) hlt (by decide);have s0:=nO (b:=1) s1 (w 0 (by decide)) hlt (by decide);have e:(nmS 0#64 (mV n)).toNat=N / 1:=s0;unfold nmV;rw [BitVec.toInt_eq_toNat_cond,e];split <;> omega
theorem qx {a b:Int}(h:by8 a=by8 b):a % 256=b % 256:=by
 have:=congrArg (λc:By=> (c.toNat:Int)) h;simp only [kL] at this;exact this
theorem JJ:∀{l m:List Int},(∀v∈l,I64 v)->(∀v∈m,I64 v)->l.flatMap mV=m.flatMap mV->l=m
 | [],[],_,_,_=> rfl
 | [],b::m,_,_,h=> by have:=congrArg List.length h;rw [mO,mO] at this;simp at this
 | a::l,[],_,_,h=> by have:=congrArg List.length h;rw [mO,mO] at this;simp at this
 | a::l,b::m,hl,hm,h=> by
  rw [zaJ,zaJ] at h;obtain⟨h1,h2⟩:=List.append_inj h rfl;have h3:=congrArg nmV h1;rw [GH (hl a (by simp)),GH (hm b (by simp))] at h3;rw [h3,JJ (λv hv=> hl v (by simp [hv])) (λv hv=> hm v (by simp [hv])) h2]
theorem pack_inj {p q:Pkt}(hp:p.fit)(hq:q.fit)(h:nX p=nX q):p=q:=by
 unfold nX ig at h;have hlen:(dF p).length=(dF q).length:=by
  have:=congrArg List.length h;simp only [zan,zai,zaq] at this;omega
 obtain⟨h1,_⟩:=List.append_inj h hlen;unfold dF at h1;obtain⟨h2,h3⟩:=List.append_inj h1 rfl;have hd:=JJ hp.num hq.num h3;have a:=hp.ok;have b:=hq.ok;simp only [Pkt.ok,zaj,decide_eq_true_eq] at a b;simp only [zbz,and_true] at h2;obtain⟨e1,e2,e3,e4,e5,e6,e7,e8,e9,_⟩:=h2;have i1:=qx e1;have i2:=qx e2;have i3:=qx e3;have i4:=qx e4;have i5:=qx e5;have i6:=qx e6;have i7:=qx e7;have i8:=qx e8;have i9:=qx e9;rw [zbO _ (by decide),zbO _ (by decide)] at i4;rcases p with⟨p1,p2,p3,p4,p5,p6,p7,p8,p9⟩
 rcases q with⟨q1,q2,q3,q4,q5,q6,q7,q8,q9⟩
 simp only at*;have f8:p8=q8:=by
  cases p8 <;> cases q8 <;> first | rfl | (simp at i9)
 subst hd;subst f8;have:p1=q1/\p2=q2/\p3=q3/\p4=q4/\p5=q5/\p6=q6/\p7=q7:=by omega
 obtain⟨rfl,rfl,rfl,rfl,rfl,rfl,rfl⟩:=this;rfl
end
end Go.Proofs.YthmoogcacpmjiaaGreat
