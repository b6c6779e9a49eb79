/-
  Own work: an interpreter over named blocks, its soundness, and what the functions of this seat compute (part 5 of 11).
  Conditions: those of the statement alone.
-/
import Derived.Test.YtljogojaihgdlaaGreatJd
set_option linter.all false
set_option linter.unusedSectionVars false
set_option linter.unusedVariables false
set_option linter.unusedSimpArgs false
namespace Go.Proofs.YtljogojaihgdlaaGreat
noncomputable section
section
variable {b:Nat}{H:ah}{g:bD}{q f:Nat}{P:Nat->Nat->Nat}{c:Cfg}{fab:Fab}
theorem ahu {e:TypeId}{H:ah}{a b c d:Nat}:bsl e 2 [zP,zP] 2 [(0,.agg [.ref a 0 0,.ref b 0 0]),(1,.agg [.ref c 0 0,.ref d 0 0])] H=some (.sl H.next 0 0 2 2 2 true,H.new (.blk 0 e [.ref a 0 0,.ref b 0 0,.ref c 0 0,.ref d 0 0])):=rfl
def iH(P:Nat->Nat->Nat)(n:Nat):List AV:=(List.range n).flatMap λi=> oH (P i)
theorem ig.lt(G:Good b H g)(F:ig g f P c fab){i s:Nat}(hi:i < fab.l.length)(hs:s < 4):P i s < H.next:=by
 obtain⟨l,r,h⟩:=(F.port hi).some hs;exact G.lt h
theorem Vf(G:Good b H g)(F:ig g f P c fab)(hn:fab.l.length < 1000)(h0:fab.l.length≠0):
  cl 57 [.ref f 0 0] H=some (.vs (2*fab.l.length) 2 (iH P fab.l.length),H):=by
 obtain⟨x,hx,cu⟩:=G.guard.seq F.1 (i:=0) rfl;have e2:=(cu.is (by decide) (pX P _)).lnS;have hfr:∀d,∀y∈iH P fab.l.length,∀Hz,bP Hz H.next (d+1) y=some y:=λd y hy Hz=> by
  obtain⟨i,hi,hy⟩:=za0.1 hy;have hi:=za4.1 hi;simp only [oH,zaj,zaw,or_false] at hy;rcases hy with rfl | rfl | rfl | rfl <;> · rw [bP];exact if_pos (F.lt G hi (by omega))
 have key:∀k i,i+k=fab.l.length->∀Hi t,Own H.next Hi t 2 (iH P i)->Step H.next H.guard Hi->
   ∃v Hz,LK cl [t,x,I fab.l.length,I i] Hi=some (v,Hz)/\Own H.next Hz v 2 (iH P fab.l.length):=by
  intro k
  induction k with
  | zero=>
   intro i hi Hi t o s;have h1:¬(i:Int) < fab.l.length:=by omega
   rw [Zb];refine⟨t,Hi,?_,by rw [show fab.l.length=i by omega];exact o⟩;simp only [xq_,h1]
  | succ k ih=>
   intro i hi Hi t o s;have h1:(i:Int) < fab.l.length:=by omega
   have h6:(i:Int)+1=((i+1:Nat):Int):=by omega
   have h7:=wrap_i64 (a:=((i+1:Nat):Int)) (by omega) (by omega);obtain⟨r,gg,off,a1,_,a3⟩:=(cu.ext s.next s.low).elemAt (by decide) (pX P _) (j:=i) (by omega);have a1:=a1 .i64;rw [uH (m:=4) (λ_=> rfl) _ i i (zbZ (by omega))] at a3;let H1:=Hi.new (.blk 0 101 (oH (P i)));have hpl:(iH P i).length=(2*i)*2:=by
    rw [iH,pX];omega
   have sb:Hi.base=H.next:=s.base
   have sn:H.next<=Hi.next:=s.next
   obtain⟨v',Hj,t1,t2,t3⟩:=((o.new (.blk 0 101 (oH (P i)))).new (.blk 0 99 (oH (P i)))).step (e:=99) (by_:=16) (by simp only [fE];omega) (by simp only [jC];omega) (by decide) hpl (nO (ex:=true) (n:=2) (m:=2) (l:=oH (P i)) rfl) rfl (by unfold most;omega) (by unfold most;omega);have hs:iH P (i+1)=iH P i++oH (P i):=by
    simp only [iH];rw [zcE,zbG,zaE,zdh,za8]
   rw [<-hs] at t2;obtain⟨v,Hz,r1,r2⟩:=ih (i+1) (by omega) Hj v' t2 ((s.trans ((Step.new _ (by omega)).trans (Step.new _ (by simp only [fE];omega)))).trans t3);refine⟨v,Hz,?_,r2⟩;rw [Zb];have ca:∀a b c d,(AV.agg [.ref a 0 0,.ref b 0 0,.ref c 0 0,.ref d 0 0]).cells=[.ref a 0 0,.ref b 0 0,.ref c 0 0,.ref d 0 0]:=λ_ _ _ _=> rfl;have hbase:Hi.base<=Hi.next:=by omega
   simp only [oH,fE] at a3 t1;simp only [Nat.reduceAdd,Nat.reduceLeDiff,aW,xq_,hq_,h1,a1,a3,hbase,ai0,Nat.reduceMul,ahu,t1,dW,h6,h7,r1]
 obtain⟨v,Hz,r1,r2⟩:=key fab.l.length 0 (by omega) H.guard zN (.inl ⟨rfl,rfl⟩) (Step.refl _ _);refine ji rfl rfl (aor _ _ _ (r:=(v,Hz)) ?_) ?_
 ·simp only [xq_,aj6,hx,e2];exact r1
 ·have hpl:(iH P fab.l.length).length=(2*fab.l.length)*2:=by
   rw [iH,pX];omega
  have hs:=r2.is (by decide) hpl;obtain⟨c1,c2⟩:=hs.wE;rcases r2 with⟨rfl,e⟩ | ⟨r,gg,off,n',cap,ex,ty,all,rfl,k2,k3,k4,k5,k6,k7,k8⟩
  ·rw [e] at hpl;simp only [zan] at hpl;omega
  ·have hn':n'=2*fab.l.length:=by
    have:=hs.2.2.1;exact this
   subst hn';exact jP k2 c2 (iF _ λy hy=> hfr _ y hy _)
theorem aae {α β:Type}{u v:α->β}:∀(l:List α) (i:Nat),(l.flatMap λp=> [u p,v p])[2*i]?=l[i]?.map u/\(l.flatMap λp=> [u p,v p])[2*i+1]?=l[i]?.map v
 | [],i=> by simp
 | a::l,0=> by simp
 | a::l,i+1=> by
  have:=aae (u:=u) (v:=v) l i;rw [show 2*(i+1)=2*i+1+1 by omega]
  simpa using this
theorem ig.afO(F:ig g f P c fab){j:Nat}(hj:j < 2*fab.l.length):
  ∃l a a',fab.jl[j]?=some l/\((iH P fab.l.length).drop (j*2)).take 2=[.ref a 0 0,.ref a' 0 0]/\g a=some (nM l c.out):=by
 have hi:j / 2 < fab.l.length:=by omega
 have hp:=F.port hi;have hg:fab.l[j / 2]?=some (fab.port (j / 2:Nat)):=by
  unfold Fab.port;rw [zaq,zas,zab hi];rfl
 have hfl:=uH (m:=4) (enc:=λi=> oH (P i)) (λ_=> rfl) (List.range fab.l.length) (j / 2) (j / 2) (zbZ hi);have h2:=aae (u:=Port.rq) (v:=Port.an) fab.l (j / 2);rw [hg] at h2;rcases Nat.mod_two_eq_zero_or_one j with h | h
 ·refine⟨_,P (j / 2) 0,P (j / 2) 1,?_,?_,hp.1⟩
  ·have:=h2.1;rw [show 2*(j / 2)=j by omega] at this;exact this
  ·have e:((iH P fab.l.length).drop (j*2)).take 2=(((iH P fab.l.length).drop (j / 2*4)).take 4).take 2:=by
    rw [zbT,show j / 2*4=j*2 by omega];rfl
   rw [e];exact(congrArg (List.take 2) hfl).trans rfl
 ·refine⟨_,P (j / 2) 2,P (j / 2) 3,?_,?_,hp.2.2.1⟩
  ·have:=h2.2;rw [show 2*(j / 2)+1=j by omega] at this;exact this
  ·have e:((iH P fab.l.length).drop (j*2)).take 2=((((iH P fab.l.length).drop (j / 2*4)).take 4).drop 2).take 2:=by
    rw [zcj,zbA,zbT,show j / 2*4+2=j*2 by omega];rfl
   rw [e];exact(congrArg (λl=> (List.drop 2 l).take 2) hfl).trans rfl
end
section
variable {b:Nat}{H:ah}{g:bD}{q f:Nat}{P:Nat->Nat->Nat}{c:Cfg}{fab:Fab}
theorem acU {ls:List (List Pkt)}{j:Nat}{l:List Pkt}(h:ls[j]?=some l):((ls.take (j+1)).map List.length).sum=((ls.take j).map List.length).sum+l.length:=by
 rw [List.take_succ,h];simp
theorem PV:∀l:List Port,((l.flatMap λp=> [p.rq,p.an]).map List.length).sum=(l.flatMap λp=> p.rq++p.an).length
 | []=> rfl
 | p::l=> by
  have:=PV l;simp only [zaE,zbK,List.sum_append,zao,this];simp
theorem qH:∀l:List Port,(l.flatMap λp=> [p.rq,p.an]).length=2*l.length
 | []=> rfl
 | p::l=> by
  have:=qH l;simp only [zaE,zao,this,zal,zan];omega
theorem al2 {ls:List (List Pkt)}{m:Nat}(h:∀l∈ls,l.length<=m):(ls.map List.length).sum<=ls.length*m:=by
 induction ls with
 | nil=> simp
 | cons l ls ih=>
  have h1:=h l (by simp);have:=ih λl' hl'=> h l' (by simp [hl']);simp only [zaz,zbS,zal,zbt,zbp];omega
theorem acV(G:Good b H g)(F:ig g f P c fab)(hn:fab.l.length < 1000)(h0:fab.l.length≠0)(hr:∀l∈fab.jl,l.length < 1000):
  cl 21 [.ref f 0 0] H=some (I fab.under,H):=by
 have e1:=Vf G.guard F hn h0;have hpl:(iH P fab.l.length).length=(2*fab.l.length)*2:=by
  rw [iH,pX];omega
 have hsl:∀H,aN H (.vs (2*fab.l.length) 2 (iH P fab.l.length)) 2 (2*fab.l.length) (iH P fab.l.length):=λH=> aN.vs hpl;have e2:=(hsl H.guard).lnS;have hcnt:fab.jl.length=2*fab.l.length:=qH fab.l;have key:∀k j,j+k=2*fab.l.length->∀Hi,Step H.next H.guard Hi->
   ∃Hz,LC cl [I ((fab.jl.take j).map List.length).sum,.vs (2*fab.l.length) 2 (iH P fab.l.length),I (2*fab.l.length:Nat),I j] Hi=some (I fab.under,Hz):=by
  intro k
  induction k with
  | zero=>
   intro j hj Hi s;have h1:¬(j:Int) < (2*fab.l.length:Nat):=by omega
   rw [Y7];refine⟨Hi,?_⟩;have h2:((fab.jl.take j).map List.length).sum=fab.under:=by
    rw [zaA (by omega)];exact PV fab.l
   simp only [xq_,h1,h2]
  | succ k ih=>
   intro j hj Hi s;have h1:(j:Int) < (2*fab.l.length:Nat):=by omega
   have h6:(j:Int)+1=((j+1:Nat):Int):=by omega
   have h7:=wrap_i64 (a:=((j+1:Nat):Int)) (by omega) (by omega);have a1:=(hsl Hi).ix (k:=.i64) (i:=(j:Int)) (by omega) h1;rw [zaq] at a1;have a3:=(hsl Hi).lda (i:=j) (by omega);obtain⟨l,a,a',p1,p2,p3⟩:=F.afO (j:=j) (by omega);rw [p2] at a3;have hsn:=acU p1;have hln:((fab.jl.take (j+1)).map List.length).sum<=(fab.jl.take (j+1)).length*1000:=al2 λl hl=> Nat.le_of_lt (hr l (zcu hl));have hlt:(fab.jl.take (j+1)).length<=2*fab.l.length:=by rw [zau];omega
   have h8:((((fab.jl.take j).map List.length).sum:Nat):Int)+(l.length:Int)=((((fab.jl.take (j+1)).map List.length).sum:Nat):Int):=by omega
   have h9:=wrap_i64 (a:=((((fab.jl.take (j+1)).map List.length).sum:Nat):Int)) (by omega) (by omega);have G1:Good b (Hi.new (.blk 0 99 [.ref a 0 0,.ref a' 0 0])) g:=(G.guard.ext s.next s.low).new _;have e3:=Z9 G1 p3;have aqS:H.next<=Hi.next:=s.next
   have sb:Hi.base=H.next:=s.base
   have hbase:Hi.base<=Hi.next:=by omega
   obtain⟨Hz,r1⟩:=ih (j+1) (by omega) _ (s.trans (Step.new (.blk 0 99 [.ref a 0 0,.ref a' 0 0]) aqS));refine⟨Hz,?_⟩;rw [Y7];simp only [Nat.reduceAdd,aW,xq_,hq_,h1,a1,a3,hbase,e3,dW,h8,h9,h6,h7,r1]
 obtain⟨Hz,r1⟩:=key (2*fab.l.length) 0 (by omega) H.guard (Step.refl _ _);refine ji rfl rfl (an8 _ _ _ (r:=(I fab.under,Hz)) ?_) jq;simp only [xq_,ajR,e1,e2];exact r1
end
section
variable {b:Nat}{H:ah}{g:bD}{A:Adr}{m:bW}
structure bW.fine(m:bW):Prop where
 ok:m.c.ok=true
 aH:(m.aH.length:Int)=m.c.aH
 fab:m.fab.l.length=m.aH.length
 ops:∀n∈m.aH,n.bG.ops.length < 1000/\n.bG.bf.length < 1000
 jl:∀l∈m.fab.jl,l.length < 1000
 aF:∀n∈m.aH,n.aF.data.length < 1000000000
 ins:∀p∈m.fab.l,p.rin.length < 1000/\p.ain.length < 1000
theorem aaf(N:Nat->Nat->Nat)(n:Nat):(PS N n).length=n*1:=by simp [PS]
theorem aag {N:Nat->Nat->Nat}{n i:Nat}(h:i < n):(PS N n)[i]?=some (.ref (N i 0) 0 0):=by
 simp [PS,zbZ h]
end
theorem al0.zN {H:ah}:al0 H zN []:=⟨[],aN.nil,λi v l h=> by simp at h⟩
def dP(v n:Int):Int:=if n < 1 then 0 else v % n
def atM(l:List Int)(i:Int):Int:=if i < l.length then l.getD i.toNat 0 else 0
theorem qI {v n:Int}(h:1<=n):0<=dP v n/\dP v n < n:=by
 unfold dP;rw [if_neg (by omega)];exact⟨zb8 _ (by omega),zcm _ (by omega)⟩
theorem acW(v n:Int)(h:1<=n):v % n=if v.tmod n < 0 then v.tmod n+n else v.tmod n:=by
 have h1:=Int.tmod_eq_emod (a:=v) (b:=n);have h2:=zb8 v (b:=n) (by omega);have h3:=zcm v (b:=n) (by omega);rw [h1];rcases Decidable.em (0<=v∨n ∣ v) with hv | hv
 ·rw [if_pos hv];split <;> omega
 ·rw [if_neg hv];split <;> omega
theorem acX(v n:Int)(h:1<=n):-n < v.tmod n/\v.tmod n < n:=by
 have h1:=Int.tmod_eq_emod (a:=v) (b:=n);have h2:=zb8 v (b:=n) (by omega);have h3:=zcm v (b:=n) (by omega);rw [h1];rcases Decidable.em (0<=v∨n ∣ v) with hv | hv
 ·rw [if_pos hv];omega
 ·rw [if_neg hv];omega
theorem xJ(H:ah)(v n:Int)(hn:n<=9223372036854775807):cl 33 [I v,I n] H=some (I (dP v n),H):=by
 refine bI rfl rfl (aoa _ _ _ _ ?_);by_cases h1:n < 1
 ·simp only [xq_,acr,h1,dP]
 ·have e1:=λ(k:IntKind) (t:TypeId)=> BF (P:=Tryz.prog) (k:=k) (t:=t) (a:=v) (b:=n) (by omega);have e2:=acW v n (by omega);have e3:=acX v n (by omega);by_cases h2:v.tmod n < 0
  ·have w:=wrap_i64 (a:=v.tmod n+n) (by omega) (by omega);rw [if_pos h2] at e2;simp only [xq_,acr,LD,h1,e1,h2,dW,w,dP,e2]
  ·rw [if_neg h2] at e2;simp only [xq_,acr,LD,h1,e1,h2,dP,e2]
theorem ahv(H:ah){x:AV}{l:List Int}(hx:aN H x 1 l.length (l.map I)){i:Int}(h0:0<=i):cl 37 [x,I i] H=some (I (atM l i),H):=by
 refine bI rfl rfl (aoc _ _ _ _ ?_);have e1:=hx.lnS;by_cases h:i < l.length
 ·have a1:=hx.ix (k:=.i64) h0 h;have a2:=hx.ld (i:=i.toNat) (by omega);have hlt:i.toNat < l.length:=by omega
  rw [zaM,zab hlt] at a2;have a2':ld (eP x i.toNat) H=some (I l[i.toNat],H):=a2;have e:atM l i=l[i.toNat]:=by
   unfold atM;rw [if_pos h,zas,zab hlt];rfl
  simp only [xq_,agY,e1,h,a1,a2',e]
 ·simp only [xq_,agY,e1,h,atM]
theorem aN.upto {H:ah}{x:AV}{m n:Nat}{cells:List AV}(h:aN H x m n cells){k:IntKind}{hi:Int}(h0:0<=hi)(h1:hi<=n):∃y,slS m x none (some (.s (.int k hi))) none=some y/\aN H y m hi.toNat (cells.take (hi.toNat*m)):=by
 obtain⟨hl,h⟩:=h;have hlm:hi.toNat*m<=n*m:=zaD _ (by omega);cases x with
 | sl r g off esz len cap ex=>
  obtain⟨rfl,rfl,⟨hr,hc⟩,ty,all,h2,h3,h4⟩:=h;refine⟨_,UD h0 (by omega),by rw [zau,hl];omega,rfl,rfl,⟨hr,by omega⟩,ty,all,h2,by omega,?_⟩;rw [h4,zbT,zbk hlm]
 | vs k' esz cs=>
  obtain⟨rfl,rfl,rfl⟩:=h;refine⟨.vs hi.toNat esz (cs.take (hi.toNat*esz)),?_,by rw [zau,hl];omega,rfl,rfl,rfl⟩;simp only [slS,iV,h0,if_true];rw [if_pos ⟨trivial,zaS _,by omega⟩];simp
 | s v=>
  cases v with
  | slice a b c=>
   cases a with
   | none=>
    obtain⟨rfl,rfl,rfl⟩:=h;have h3:hi=0:=by omega
    subst h3;refine⟨zN,by simp [slS,iV],?_⟩;refine⟨?_,rfl,rfl,rfl⟩;simp
   | some a=> exact h.elim
  | _=> exact h.elim
 | _=> exact h.elim
theorem ahw(H:ah){x:AV}{l:List Int}(hx:aN H x 1 l.length (l.map I))(hl:l.length < 1000000000):cl 68 [x] H=some (dat l,H):=by
 by_cases h0:l=[]
 ·subst h0;have e1:app 3 1 8 zN x H.guard=some (zN,H.guard):=by
   obtain⟨c1,c2⟩:=hx.guard.wE;simp only [app,c1,c2];rfl
  refine ji rfl rfl (aj9 _ _ _ (r:=(zN,H.guard)) ?_) (by rw [dat,gI];exact jq);simp only [xq_,ag5,e1]
 ·have e1:=RP (e:=3) (by_:=8) hx.guard (xG l) (λe=> h0 (zar e)) (by unfold most;omega) (by unfold most;omega);refine ji rfl rfl (aj9 _ _ _ (r:=(.sl H.next 0 0 1 l.length l.length false,H.guard.new (.blk 0 (3+gQ) (l.map I)))) ?_) (JK h0 (zac _) (bC rfl));simp only [xq_,ag5,e1]
theorem al3(H:ah){x:AV}{l:List Int}(hx:aN H x 1 l.length (l.map I)){n:Int}(h0:0<=n)(hn:n < 1000000000):cl 36 [x,I n] H=some (dat (l.take n.toNat),H):=by
 refine bI rfl rfl (aob _ _ _ _ ?_);have e1:=hx.lnS;obtain⟨y,e2,e3⟩:=hx.upto (k:=.i64) (hi:=min (l.length:Int) n) (by omega) (by omega);have ht:(min (l.length:Int) n).toNat=(l.take n.toNat).length:=by rw [zau];omega
 rw [ht,zbR,<-zcA,zau] at e3;have hm:l.take (min n.toNat l.length)=l.take n.toNat:=by
  rcases Nat.le_total n.toNat l.length with h | h
  ·rw [zbk h]
  ·rw [Nat.min_eq_right h,zaA (zac _),zaA h]
 rw [hm,<-zau] at e3;have e4:=ahw H e3 (by rw [zau];omega);simp only [xq_,ajS,e1,Yj,e2,e4]
def mG.cfg(s:mG)(zi:List Int):Cfg:=
 ⟨1+dP s.aH 4,1+dP s.bg 4,1+dP s.dh 2,1+dP s.sets 2,1+dP s.ways 2,1+dP s.out 3,1+dP s.inn 3,zi.take ((1+dP s.bg 4)*(1+dP s.dh 2)).toNat⟩
theorem wP {x:AV}{l:List Int}(h:aN ah.empty x 1 l.length (l.map I))(H:ah):aN H x 1 l.length (l.map I):=
 h.qB (zaS _) λr _ hr=> absurd hr (Nat.not_lt_zero r)
theorem gV(v:Int){n:Int}(h:1<=n)(h':n<=1000):1<=1+dP v n/\1+dP v n<=n/\IntKind.wrap .i64 (1+dP v n)=1+dP v n:=by
 have:=qI (v:=v) h;exact⟨by omega,by omega,wrap_i64 (by omega) (by omega)⟩
theorem afP(s:mG)(zi:List Int):(s.cfg zi).ok=true:=by
 have a1:=gV s.aH (n:=4) (by omega) (by omega);have a2:=gV s.bg (n:=4) (by omega) (by omega);have a3:=gV s.dh (n:=2) (by omega) (by omega);have a4:=gV s.sets (n:=2) (by omega) (by omega);have a5:=gV s.ways (n:=2) (by omega) (by omega);have a6:=gV s.out (n:=3) (by omega) (by omega);have a7:=gV s.inn (n:=3) (by omega) (by omega);have hm:0<=(1+dP s.bg 4)*(1+dP s.dh 2):=zc0 (by omega) (by omega);simp only [Cfg.ok,mG.cfg,zah,zau];obtain⟨b1,c1,_⟩:=a1;obtain⟨b2,c2,_⟩:=a2;obtain⟨b3,c3,_⟩:=a3;obtain⟨b4,c4,_⟩:=a4;obtain⟨b5,c5,_⟩:=a5;obtain⟨b6,c6,_⟩:=a6;obtain⟨b7,c7,_⟩:=a7;generalize (1+dP s.bg 4)*(1+dP s.dh 2)=z at hm ⊢;exact⟨⟨⟨⟨⟨⟨⟨⟨decide_eq_true b1,decide_eq_true (by omega)⟩,⟨decide_eq_true b2,decide_eq_true (by omega)⟩⟩,⟨decide_eq_true b3,decide_eq_true (by omega)⟩⟩,⟨decide_eq_true b4,decide_eq_true (by omega)⟩⟩,⟨decide_eq_true b5,decide_eq_true (by omega)⟩⟩,⟨decide_eq_true b6,decide_eq_true (by omega)⟩⟩,⟨decide_eq_true b7,decide_eq_true (by omega)⟩⟩,decide_eq_true (by omega)⟩
theorem ahx(c:Cfg):Frz 9 (.agg c.av):=nG λx hx=> by
 simp only [Cfg.av,zaj,zaw,or_false] at hx;rcases hx with rfl | rfl | rfl | rfl | rfl | rfl | rfl | rfl <;> first | exact iZ | exact uJ
theorem PW(H:ah){s:mG}{zi zw zk za zv:List Int}(h:s.Ok zi zw zk za zv)(hi:aN ah.empty s.init 1 zi.length (zi.map I))(hc:s.init.aQ=true/\s.who.aQ=true/\s.kinds.aQ=true/\s.oD.aQ=true/\s.bf.aQ=true):
  cl 7 [.agg s.cells] H=some (.agg (s.cfg zi).av,H):=by
 refine dJ rfl rfl (aqC _ _ _) ?_ (ahx _);have a1:=gV s.aH (n:=4) (by omega) (by omega);have a2:=gV s.bg (n:=4) (by omega) (by omega);have a3:=gV s.dh (n:=2) (by omega) (by omega);have a4:=gV s.sets (n:=2) (by omega) (by omega);have a5:=gV s.ways (n:=2) (by omega) (by omega);have a6:=gV s.out (n:=3) (by omega) (by omega);have a7:=gV s.inn (n:=3) (by omega) (by omega);have hm:0<=(1+dP s.bg 4)*(1+dP s.dh 2):=zc0 (by omega) (by omega);have hm2:(1+dP s.bg 4)*(1+dP s.dh 2)<=4*2:=zcy (by omega) (by omega) (by omega) (by omega);have w:=wrap_i64 (a:=(1+dP s.bg 4)*(1+dP s.dh 2)) (by omega) (by omega);have e1:=λH v=> xJ H v 4 (by omega);have e2:=λH v=> xJ H v 2 (by omega);have e3:=λH v=> xJ H v 3 (by omega);have e4:=λH=> al3 H (wP hi H) hm (by omega);have hall:s.cells.all AV.aQ=true:=by
  simp only [mG.cells,zcT,zdn,hc,zc7];rfl
 simp only [mG.cells] at hall;have ev:∀a b c d e f k:Int,bd 26 [(0,I a),(1,I b),(2,I c),(3,I d),(4,I e),(5,I f),(6,I k)]=some (.agg [I a,I b,I c,I d,I e,I f,I k,zN]):=λ_ _ _ _ _ _ _=> by
  simp only [xq_,ai2,kE,gX,agD];rfl
 have zc:zN.cells=[zN]:=rfl;have zi':zN.aQ=true:=rfl;simp only [Nat.reduceLT,Nat.reduceAdd,aW,xq_,hq_,apY,aG hall,mG.cells,e1,e2,e3,dW,a1,a2,a3,a4,a5,a6,a7,ev,oZ,w,e4,zi'];rfl
def oU(z:Int):Int:=[1,2,3,1,2,1,4].getD (dP z 7).toNat 0
def aah(c:Cfg)(zk za zv:List Int)(i:Nat):Opn:=
 ⟨oU (atM zk i),dP (atM za i) (c.bg*c.dh),if oU (atM zk i)=2∨oU (atM zk i)=3 then atM zv i else 0⟩
def jr(c:Cfg)(zw zk za zv:List Int)(ps:List (List Opn))(i:Nat):List (List Opn):=
 let n:=(dP (atM zw i) c.aH).toNat
 if(ps.getD n []).length < 24 then ps.set n (ps.getD n []++[aah c zk za zv i]) else ps
def kF(c:Cfg)(zw zk za zv:List Int):Nat->List (List Opn)
 | 0=> List.replicate c.aH.toNat []
 | i+1=> jr c zw zk za zv (kF c zw zk za zv i) i
def uO(c:Cfg)(zw zk za zv:List Int)(most:Nat):List (List Opn):=kF c zw zk za zv (min zw.length most)
def PX(ps:List (List Opn)):List Cell:=ps.map λl=> .seq 3 (l.flatMap Opn.av)
theorem qJ(c:Cfg)(zw zk za zv:List Int):∀i,(kF c zw zk za zv i).length=c.aH.toNat
 | 0=> by simp [kF]
 | i+1=> by
  simp only [kF,jr];split
  ·rw [zbY,qJ c zw zk za zv i]
  ·exact qJ c zw zk za zv i
theorem afQ {H:ah}{r n j:Nat}{ty:TypeId}{xs:List AV}(hg:H.get r=.blk 0 ty xs)(h:j < n){k:IntKind}:ix 1 (.sl r 0 0 1 n n true) (.s (.int k j)) H=some (.ref r 0 j,H):=by
 have h1:(0:Int)<=j/\(j:Int) < n:=by omega
 simp [ix,ku,ixO,h,bQ,hg,aiA,fV.gen]
theorem WJ(z:Int):oU z=1∨oU z=2∨oU z=3∨oU z=4:=by
 have h:=qI (v:=z) (n:=7) (by omega);unfold oU;generalize hk:(dP z 7).toNat=k;have:k < 7:=by omega
 match k,this with
 | 0,_ | 1,_ | 2,_ | 3,_ | 4,_ | 5,_ | 6,_=> simp
theorem Vg {ps:List (List Opn)}{j:Nat}(h:j < ps.length):(PX ps)[j]?=some (.seq 3 ((ps.getD j []).flatMap Opn.av)):=by
 simp [PX,zas,zab h]
theorem acY {ps:List (List Opn)}{j:Nat}{l:List Opn}:(PX ps).set j (.seq 3 (l.flatMap Opn.av))=PX (ps.set j l):=by
 simp [PX,List.map_set]
section
variable {H:ah}{s:mG}{zi zw zk za zv:List Int}
theorem SI {C:aC}(hCa:C 37=cl 37)(hCw:C 33=cl 33)(h:s.Ok zi zw zk za zv)(hi:aN ah.empty s.init 1 zi.length (zi.map I))(hw:aN ah.empty s.who 1 zw.length (zw.map I))(hk:aN ah.empty s.kinds 1 zk.length (zk.map I))(ha:aN ah.empty s.oD 1 za.length (za.map I))(hv:aN ah.empty s.bf 1 zv.length (zv.map I))
  {c:Cfg} (hc:c.ok=true) {p q r n:Nat} {ty ty':TypeId} (hp:p < H.next) (hq:q < H.next) (gp:H.get p=.blk 0 ty s.cells) (gq:H.get q=.blk 0 ty' c.av) {b:Nat} {ps:List (List Opn)} (G:Good b H (upd vP r (PX ps))) (hb:H.base<=b) (hn:ps.length=n) (hnc:(n:Int)=c.aH)
  {i:Nat} {mo:Int} (him:(i:Int) < mo) (hm:mo<=1000) (hil:i < zw.length) (hz:∀j,j < n->ps.getD j []=[]->ld (.ref r 0 j) H=some (zN,H)):
  ∃H',GL C [I mo,.ref p 0 0,.ref q 0 0,.sl r 0 0 1 n n true,I i] H=GL C [I mo,.ref p 0 0,.ref q 0 0,.sl r 0 0 1 n n true,I (i+1:Nat)] H'/\Good b H' (upd vP r (PX (jr c zw zk za zv ps i)))/\Step b H H'/\(∀j,j < n->(jr c zw zk za zv ps i).getD j []=[]->ld (.ref r 0 j) H'=some (zN,H')):=by
 have Bd:=EM hc;have e8:ld (.ref p 0 8) H=some (s.who,H):=by rw [gu gp];rfl
 have e9:ld (.ref p 0 9) H=some (s.kinds,H):=by rw [gu gp];rfl
 have e10:ld (.ref p 0 10) H=some (s.oD,H):=by rw [gu gp];rfl
 have e11:ld (.ref p 0 11) H=some (s.bf,H):=by rw [gu gp];rfl
 have f0:ld (.ref q 0 0) H=some (I c.aH,H):=by rw [gu gq];rfl
 have f1:ld (.ref q 0 1) H=some (I c.bg,H):=by rw [gu gq];rfl
 have f2:ld (.ref q 0 2) H=some (I c.dh,H):=by rw [gu gq];rfl
 have w0:=λH=> (wP hw H).lnS;have h1:(i:Int) < zw.length:=by omega
 have a1:=λH=> ahv H (wP hk H) (i:=(i:Int)) (by omega);have a2:=λH=> ahv H (wP ha H) (i:=(i:Int)) (by omega);have a3:=λH=> ahv H (wP hv H) (i:=(i:Int)) (by omega);have k1:=λH v=> xJ H v 7 (by omega);have hlw:=Bd.oD;have w:=wrap_i64 (a:=c.bg*c.dh) (by omega) (by omega);have k2:=λH v=> xJ H v (c.bg*c.dh) (by omega);have k3:=λH v=> xJ H v c.aH (by have:=Bd.aH;omega);rw [<-hCa] at a1 a2 a3;rw [<-hCw] at k1 k2 k3;have eb7:∀H,bs 22 7 [(0,I 1),(1,I 2),(2,I 3),(3,I 1),(4,I 2),(5,I 1),(6,I 4)] H=some (.sl H.next 0 0 1 7 7 true,H.new (.blk 0 3 [I 1,I 2,I 3,I 1,I 2,I 1,I 4])):=λH=>
  (FZ (by decide)).trans rfl
 let b7:fV:=.blk 0 3 [I 1,I 2,I 3,I 1,I 2,I 1,I 4];let Hc:=(H.new b7).new (.blk 0 53 [zI,zI,zI]);have hK:=qI (v:=atM zk i) (n:=7) (by omega);have s7:aN Hc (.sl H.next 0 0 1 7 7 true) 1 7 [I 1,I 2,I 3,I 1,I 2,I 1,I 4]:=(nO (n:=7) (m:=1) rfl).new _;have i7:=s7.ix (k:=.i64) hK.1 hK.2;have l7:=s7.ld (i:=(dP (atM zk i) 7).toNat) (by omega);have l7':ld (eP (.sl H.next 0 0 1 7 7 true) (dP (atM zk i) 7).toNat) Hc=some (I (oU (atM zk i)),Hc):=by
  rw [l7];unfold oU;generalize hk':(dP (atM zk i) 7).toNat=kk;have:kk < 7:=by omega
  match kk,this with
  | 0,_ | 1,_ | 2,_ | 3,_ | 4,_ | 5,_ | 6,_=> rfl
 obtain⟨o,ho⟩:∃o:Opn,o=aah c zk za zv i:=⟨_,rfl⟩
 let Hd:=(H.new b7).new (.blk 0 53 o.av);have hcn:=qI (v:=atM zw i) (n:=c.aH) (by have:=Bd.aH;omega);obtain⟨j,hj⟩:∃j:Nat,dP (atM zw i) c.aH=j:=⟨(dP (atM zw i) c.aH).toNat,by omega⟩
 have hjn:j < n:=by omega
 have wi:=λH=> (wP hw H).ix (k:=.i64) (i:=(i:Int)) (by omega) h1;have wl:∀H,ld (eP s.who (i:Int).toNat) H=some (I (atM zw i),H):=λH=> by
  rw [zaq,(wP hw H).ld hil,zaM,zab hil];unfold atM;rw [if_pos h1,zaq,zas,zab hil];rfl
 have G1:Good b Hd (upd vP r (PX ps)):=(G.new _).new _;have og:=Vg (ps:=ps) (j:=j) (by omega);obtain⟨x,hx,cu⟩:=G1.seq aV og;have hlen:=(cu.is (by decide) (dI fG _)).lnS;have hg:∃ty xs,Hd.get r=.blk 0 ty xs:=by
  obtain⟨_,τ,hR⟩:=G1;obtain⟨ty,xs,hg,_⟩:=(hR r _ aV).blk;exact⟨ty,xs,hg⟩
 obtain⟨rty,rxs,hg⟩:=hg;have ix1:=afQ (k:=.i64) hg hjn;have h6:(i:Int)+1=((i+1:Nat):Int):=by omega
 have h7:=wrap_i64 (a:=((i+1:Nat):Int)) (by omega) (by omega);have f0':ld (.ref q 0 0) Hd=some (I c.aH,Hd):=by
  simp only [Hd];rw [Dt (by rw [fE];omega),Dt hq,f0];rfl
 have e8':ld (.ref p 0 8) Hd=some (s.who,Hd):=by
  simp only [Hd];rw [Dt (by rw [fE];omega),Dt hp,e8];rfl
 have hzd:∀j,j < n->ps.getD j []=[]->ld (.ref r 0 j) Hd=some (zN,Hd):=λj' h1 h2=> by
  simp only [Hd];rw [Dt (by rw [fE];have:=G.lt aV;omega),Dt (G.lt aV),hz j' h1 h2];rfl
 have sd:Step b H Hd:=(Step.new _ G.1).trans (Step.new _ (G.new _).1);have tail:∃H',Pj C (I mo) (.ref p 0 0) (.ref q 0 0) (.sl r 0 0 1 n n true) (I i) (.ref (H.next+1) 0 0) Hd=GL C [I mo,.ref p 0 0,.ref q 0 0,.sl r 0 0 1 n n true,I (i+1:Nat)] H'/\Good b H' (upd vP r (PX (jr c zw zk za zv ps i)))/\Step b H H'/\(∀j,j < n->(jr c zw zk za zv ps i).getD j []=[]->ld (.ref r 0 j) H'=some (zN,H')):=by
  by_cases hl:(ps.getD j []).length < 24
  ·have hl':((ps.getD j []).length:Int) < 24:=by omega
   obtain⟨x',Hf,t1,fit,n1,b1,k1'⟩:=(cu.new (.blk 0 53 o.av)).app (e:=53) (by_:=24) (by rw [jC];exact hb) (by decide) (dI fG _) (nO (ex:=true) (n:=1) (m:=3) (l:=o.av) rfl) (rX o) (by unfold most;omega) (by unfold most;omega);have hrl:r < Hd.next:=G1.lt aV
   have hxr:iM x≠some r:=by
    rcases cu.own with⟨rfl,_⟩ | ⟨r',gg,off,n',cap,ex,ty2,all,rfl,kr,_⟩
    ·intro e;cases e
    ·intro e;simp only [iM,zaa] at e;exact kr e
   have hgf:Hf.get r=.blk 0 rty rxs:=by
    rw [k1' r (by rw [fE];omega) hxr,eG hrl,hg]
   have ix2:=afQ (k:=.i64) hgf hjn;obtain⟨Hg,t2,G2,s2,n2⟩:=(G1.new (.blk 0 53 o.av)).seat aV og (cu.new _) n1 (by rw [b1,jC];exact hb) k1' fit;have hfs:Step b (Hd.new (.blk 0 53 o.av)) Hf:=⟨b1,n1,λr' hr'=> k1' r' (by have:=G1.1;rw [fE];omega) (cu.low hr')⟩
   refine⟨Hg,?_,?_,((sd.trans (Step.new _ G1.1)).trans hfs).trans s2,?_⟩
   ·have ldo:lda 3 (.ref (H.next+1) 0 0) Hd=some (.agg o.av,Hd):=(gZ (off:=0) (n:=3) (xs:=o.av) (bC (by rw [fE])) (zac 3)).trans rfl;have eb:=kV (e:=53) (m:=3) (z:=[zI,zI,zI]) (v:=.agg o.av) (H:=Hd) rfl rfl (rX o);simp only [fZ] at eb;simp only [xq_,Pj,UM,e8',wi,wl,f0',k3,hj,ix1,hx,hlen,hl',ldo,agC,zbp,Nat.reduceLeDiff,eb,t1,ix2,t2,dW,h6,h7]
   ·rw [oq] at G2;have e:jr c zw zk za zv ps i=ps.set j (ps.getD j []++[o]):=by
     simp only [jr,hj,zaq];rw [if_pos hl,ho]
    rw [e,<-acY,zbG,zaE,zdh,za8];exact G2
   ·have e:jr c zw zk za zv ps i=ps.set j (ps.getD j []++[o]):=by
     simp only [jr,hj,zaq];rw [if_pos hl,ho]
    intro j' hj' hem;rw [e] at hem;have hne:j'≠j:=λe'=> by
     subst e';rw [zas,za7 (by omega)] at hem;simp at hem
    have aqT:ps.getD j' []=[]:=by
     rw [zas,zbc (by omega)] at hem;rw [zas];exact hem
    have l0:=hzd j' hj' aqT;rw [gu hg] at l0;have hxj:rxs[j']?=some zN:=by
     cases hx':rxs[j']? with
     | none=> rw [hx'] at l0;cases l0
     | some v=> rw [hx'] at l0;simp only [zak,zaa,zad] at l0;rw [l0.1]
    rw [Ld] at t2;simp only [hgf] at t2;split at t2
    ·rename_i hc';simp only [zaa,zad,true_and] at t2;subst t2;obtain⟨_,_,hx1,_,hx5⟩:=hc';rw [gu (Gl),nC hx5,if_neg (by omega),hxj];rfl
    ·cases t2
  ·have hl':¬((ps.getD j []).length:Int) < 24:=by omega
   refine⟨Hd,?_,?_,sd,?_⟩
   ·simp only [xq_,Pj,UM,e8',wi,wl,f0',k3,hj,ix1,hx,hlen,hl',dW,h6,h7]
   ·have e:jr c zw zk za zv ps i=ps:=by
     simp only [jr,hj,zaq];rw [if_neg hl]
    rw [e];exact G1
   ·have e:jr c zw zk za zv ps i=ps:=by
     simp only [jr,hj,zaq];rw [if_neg hl]
    rw [e];exact hzd
 obtain⟨H',t1,t2⟩:=tail;refine⟨H',?_,t2⟩;simp only [Hd,Hc,b7] at t1 i7 l7';have hb0:H.base<=H.next:=zax hb G.1
 have hb1:H.base<=H.next+1:=by omega
 rw [aeW,<-t1,ho];by_cases c2:oU (atM zk i)=2
 ·have oe:(aah c zk za zv i).av=[I (oU (atM zk i)),I (dP (atM za i) (c.bg*c.dh)),I (atM zv i)]:=by simp [aah,Opn.av,c2]
  simp only [Nat.reduceAdd,aW,xq_,hq_,hp,hq,e8,e9,e10,e11,f1,f2,w0,h1,him,eb7,a1,a2,a3,k1,k2,i7,l7',oZ,w,Yy,kE,gX,Yx,hb1,c2,oe]
 ·by_cases c3:oU (atM zk i)=3
  ·have oe:(aah c zk za zv i).av=[I (oU (atM zk i)),I (dP (atM za i) (c.bg*c.dh)),I (atM zv i)]:=by simp [aah,Opn.av,c3]
   simp only [Int.reduceEq,Nat.reduceAdd,aW,xq_,hq_,hp,hq,e8,e9,e10,e11,f1,f2,w0,h1,him,eb7,a1,a2,a3,k1,k2,i7,l7',oZ,w,Yy,kE,gX,Yx,hb1,c3,oe]
  ·have oe:(aah c zk za zv i).av=[I (oU (atM zk i)),I (dP (atM za i) (c.bg*c.dh)),I 0]:=by simp [aah,Opn.av,c2,c3]
   simp only [Nat.reduceAdd,aW,xq_,hq_,hp,hq,e8,e9,e10,e11,f1,f2,w0,h1,him,eb7,a1,a2,a3,k1,k2,i7,l7',oZ,w,Yy,kE,gX,Yx,hb1,c2,c3,oe]
end
theorem aai {α β:Type}{f:α->Option β}:∀(xs:List α) (ys:List β),xs.length=ys.length->(∀(i:Nat) x y,xs[i]?=some x->ys[i]?=some y->f x=some y)->xs.mapM f=some ys
 | [],[],_,_=> rfl
 | x::xs,y::ys,hl,h=> by
  have h0:=h 0 x y rfl rfl;have:=aai (f:=f) xs ys (by simpa using hl) λi a b ha hb=> h (i+1) a b ha hb;rw [zbm,h0,this];rfl
 | [],_::_,hl,_=> by simp at hl
 | _::_,[],hl,_=> by simp at hl
theorem WL {b r n sN:Nat}{H:ah}{ps:List (List Opn)}(G:Good b H (upd vP r (PX ps)))(hs:sN<=b)(hn:ps.length=n)(hz:∀j,j < n->ps.getD j []=[]->ld (.ref r 0 j) H=some (zN,H)):
  bP H sN 9 (.sl r 0 0 1 n n true)=some (.vs n 1 (ps.map (vsl 3 Opn.av))):=by
 have hg:∃ty xs,H.get r=.blk 0 ty xs/\xs.length=n:=by
  obtain⟨_,τ,hR⟩:=G;obtain⟨ty,xs,hg,hl,_⟩:=(hR r _ aV).blk;exact⟨ty,xs,hg,by rw [hl];simp [PX,hn]⟩
 obtain⟨ty,xs,hg,hl⟩:=hg;have hbr:b<=r:=G.le aV;refine jP (by omega) (cells:=xs) ?_ (aai _ _ (by rw [hl,zaB,hn]) λi x y hx hy=> ?_)
 ·simp only [cZ,hg];rw [if_pos ⟨trivial,by omega⟩,zaP,zaA (by omega)]
 ·rw [zaM,zcJ] at hy;obtain⟨l,hpl,rfl⟩:=hy;have hi:i < n:=by have:=(zai.1 hpl).1;omega
  have hgd:ps.getD i []=l:=by rw [zas,hpl];rfl
  by_cases h0:l=[]
  ·have e:=hz i hi (by rw [hgd,h0]);rw [gu hg,hx] at e;simp only [zak,zaa,zad,and_true] at e;rw [e,h0,gI];exact jq
  ·obtain⟨x',hx',cu⟩:=G.seq aV (Vg (ps:=ps) (j:=i) (by omega));rw [gu hg,hx] at hx';simp only [zak,zaa,zad,and_true] at hx';subst hx';rw [hgd] at cu;have hs':=cu.is (by decide) (dI fG l);obtain⟨c1,c2⟩:=hs'.wE;rcases cu.own with⟨_,e⟩ | ⟨r',gg,off,n',cap,ex,ty2,all,rfl,kr,kb,_⟩
   ·have:=congrArg List.length e;rw [dI fG] at this;simp only [zan] at this;exact absurd (zar (by omega)) h0
   ·have hn':n'=l.length:=hs'.2.2.1;subst hn';rw [Em h0];refine jP (by omega) c2 (iF _ λy hy=> ?_);obtain⟨o,_,ho⟩:=za0.1 hy;simp only [Opn.av,zaj,zaw,or_false] at ho;rcases ho with rfl | rfl | rfl <;> exact jq
section
variable {H:ah}{s:mG}{zi zw zk za zv:List Int}
theorem PY {C:aC}(hCa:C 37=cl 37)(hCw:C 33=cl 33)(hCc:C 7=cl 7)(H:ah)(hbn:H.base<=H.next)(h:s.Ok zi zw zk za zv)(hi:aN ah.empty s.init 1 zi.length (zi.map I))(hw:aN ah.empty s.who 1 zw.length (zw.map I))(hk:aN ah.empty s.kinds 1 zk.length (zk.map I))(ha:aN ah.empty s.oD 1 za.length (za.map I))(hv:aN ah.empty s.bf 1 zv.length (zv.map I))
  (hc:s.init.aQ=true/\s.who.aQ=true/\s.kinds.aQ=true/\s.oD.aQ=true/\s.bf.aQ=true) {mo:Nat} (hm:mo<=1000):
  ∃Hz r,r=H.next+2/\anX C (.agg s.cells) (I mo) H=some (.sl r 0 0 1 (s.cfg zi).aH.toNat (s.cfg zi).aH.toNat true,Hz)/\Good (H.next+2) Hz (upd vP r (PX (uO (s.cfg zi) zw zk za zv mo)))/\Step H.next H Hz/\(∀j,j < (s.cfg zi).aH.toNat->(uO (s.cfg zi) zw zk za zv mo).getD j []=[]->ld (.ref r 0 j) Hz=some (zN,Hz)):=by
 let c:=s.cfg zi;have hck:c.ok=true:=afP s zi;have Bd:=EM hck;let n:=c.aH.toNat;let H1:=H.new (.blk 0 24 s.cells);let H2:=H1.new (.blk 0 26 c.av);let H3:=H2.new (.blk 0 28 (dX [zN] n));let r:=H.next+2
 have hall:s.cells.all AV.aQ=true:=by
  simp only [mG.cells,zcT,zdn,hc,zc7];rfl
 have M0:Made H2 H3 (upd vP r (PX (kF c zw zk za zv 0))):=by
  refine pW ?_ ?_ λi cc x hcc hx=> ?_
  ·rw [kK];simp;right;rfl
  ·rw [kK];simp [PX,kF,n]
  ·rw [kK,zbU] at hx;simp only [PX,kF,List.map_replicate,zbU] at hcc;by_cases hin:i < n
   ·rw [if_pos hin] at hx hcc;simp only [zaa] at hx hcc;subst hx;subst hcc;exact .inr ⟨rfl,3,rfl⟩
   ·rw [if_neg hin] at hx;cases hx
 have gp:H2.get H.next=.blk 0 24 s.cells:=by
  simp only [H2];rw [eG (by simp only [H1,fE];omega)];exact bC rfl
 have gq:H2.get (H.next+1)=.blk 0 26 c.av:=bC rfl;have b2:H2.base=H.base:=rfl;have n2:H2.next=H.next+2:=rfl
 have key:∀k i,i+k=min zw.length mo->∀Hi,Good H2.next Hi (upd vP r (PX (kF c zw zk za zv i)))->Step H2.next H2 Hi->(∀j,j < n->(kF c zw zk za zv i).getD j []=[]->ld (.ref r 0 j) Hi=some (zN,Hi))->
   ∃Hz,Step H2.next H2 Hz/\GL C [I mo,.ref H.next 0 0,.ref (H.next+1) 0 0,.sl r 0 0 1 n n true,I i] Hi=some (.sl r 0 0 1 n n true,Hz)/\Good H2.next Hz (upd vP r (PX (uO c zw zk za zv mo)))/\(∀j,j < n->(uO c zw zk za zv mo).getD j []=[]->ld (.ref r 0 j) Hz=some (zN,Hz)):=by
  intro k
  induction k with
  | zero=>
   intro i hik Hi G st hz;have e8:ld (.ref H.next 0 8) Hi=some (s.who,Hi):=by rw [gu (by rw [st.low _ (by omega)];exact gp)];rfl
   have w0:=λH=> (wP hw H).lnS;have hi':min zw.length mo=i:=by omega
   refine⟨Hi,st,?_,by rw [uO,hi'];exact G,by rw [uO,hi'];exact hz⟩;rw [aeW];by_cases h1:(i:Int) < zw.length
   ·have h2:¬(i:Int) < mo:=by omega
    simp only [xq_,e8,w0,h1,h2]
   ·simp only [xq_,e8,w0,h1]
  | succ k ih=>
   intro i hik Hi G st hz;obtain⟨H',t1,t2,t3,t4⟩:=SI hCa hCw h hi hw hk ha hv hck (p:=H.next) (q:=H.next+1) (r:=r) (n:=n) (by have:=st.next;omega) (by have:=st.next;omega) (by rw [st.low _ (by omega)];exact gp) (by rw [st.low _ (by omega)];exact gq) G (by rw [st.base,b2,n2];omega) (qJ _ _ _ _ _ _) (by have:=Bd.aH;omega) (i:=i) (mo:=mo) (by omega) (by omega) (by omega) hz;rw [t1];exact ih (i+1) (by omega) H' t2 (st.trans t3) t4
 have g3:H3.get r=.blk 0 28 (dX [zN] n):=bC n2.symm;obtain⟨Hz,r0,r1,r2,r3⟩:=key (min zw.length mo) 0 (by omega) H3 M0.good (Step.new _ (zac _)) (λj hj _=> by
  rw [gu g3,kK,zbU,if_pos hj];rfl)
 have hs:Step H.next H Hz:=(Step.new _ (zac _)).trans ((Step.new _ (za3 _)).trans ⟨r0.base,r0.next,λr hr=> r0.low r (by omega)⟩)
 refine⟨Hz,r,rfl,?_,r2,hs,r3⟩;have e1:=λH=> PW H h hi hc;rw [<-hCc] at e1;have hn:=Bd.aH;have e2:=aeO (e:=28) (m:=1) (by_:=24) (z:=[zN]) (n:=c.aH) (H:=H2) rfl rfl (by omega) (by omega) (by decide);have ls:s.cells.length=12:=rfl;have lt:s.cells.take 12=s.cells:=rfl;have l0:c.av[0]?=some (I c.aH):=rfl;have cc:(AV.agg c.av).cells=c.av:=rfl;have lc:c.av.length=8:=rfl;rw [n2] at e2;simp only [H2,H1] at e2;have hnn:c.aH.toNat=n:=rfl;rw [hnn] at e2;simp only [c] at e2 l0;have hb1:H.base<=H.next+1:=by omega
 simp only [Nat.reduceLT,Nat.reduceAdd,aW,xq_,hq_,anX,aG hall,ls,lt,e1,l0,e2,hb1];exact r1
theorem SK(H:ah)(h:s.Ok zi zw zk za zv)(hi:aN ah.empty s.init 1 zi.length (zi.map I))(hw:aN ah.empty s.who 1 zw.length (zw.map I))(hk:aN ah.empty s.kinds 1 zk.length (zk.map I))(ha:aN ah.empty s.oD 1 za.length (za.map I))(hv:aN ah.empty s.bf 1 zv.length (zv.map I))
  (hc:s.init.aQ=true/\s.who.aQ=true/\s.kinds.aQ=true/\s.oD.aQ=true/\s.bf.aQ=true) {mo:Nat} (hm:mo<=1000):
  ∃ps,ps=uO (s.cfg zi) zw zk za zv mo/\cl 8 [.agg s.cells,I mo] H=some (.vs ps.length 1 (ps.map (vsl 3 Opn.av)),H):=by
 refine⟨_,rfl,?_⟩;obtain⟨Hz,r,hr,e,G,st,hz⟩:=PY (C:=cl) rfl rfl rfl H.guard (zac _) h hi hw hk ha hv hc hm;have hlen:(uO (s.cfg zi) zw zk za zv mo).length=(s.cfg zi).aH.toNat:=qJ _ _ _ _ _ _;have fz:=WL (sN:=H.next) G (by simp only [RJ];omega) hlen hz;exact ji rfl rfl (aqD _ _ _ _ e) (by rw [fz,hlen])
end
theorem acZ {β:Type}{w:Option Nat}{H H':ah}{k:Option β}(h:∀r,w=some r->H'.get r=H.get r):ck w H H' k=k:=if_pos h
theorem JL {H1:ah}{n d m k:Nat}{x:AV}{cells:List AV}(c:Own n H1 x m cells)(hm:0 < m)(hl:cells.length=k*m)(hz:∀y∈cells,bP H1 n d y=some y)(hk:k≠0):bP H1 n (d+1) x=some (.vs k m cells):=by
 rcases c with⟨rfl,rfl⟩ | ⟨r,g,off,n',cap,ex,ty,all,rfl,k2,k3,k4,k5,k6,k7,rfl⟩
 ·simp only [zan] at hl;rcases zcY.1 hl.symm with h | h <;> omega
 ·have hcm:n'*m<=cap*m:=zaD _ k4;rw [zau,zaN,zbk (by omega)] at hl;have:n'=k:=zbF hm hl;subst this;exact jP k2 (cells:=(all.drop off).take (n'*m)) (by simp only [cZ,k5];rw [if_pos ⟨trivial,by omega⟩]) (iF _ hz)
def nR(c:Cfg)(n:Nat):List Row:=(List.range n).map λ(i:Nat)=> (⟨0,-1,c.first (i:Int)⟩:Row)
theorem BN.ext {g g':bD}{a:Nat->Nat}{c:Cfg}{me:Int}{n:jQ}(h:BN g a c me n)(hd:∀q cs,g q=some cs->¬agI cs->g' q=some cs)(hg:∀s,s < 3->g' (a s)=g (a s)):BN g' a c me n:=by
 obtain⟨⟨d,⟨x,d1,d2⟩,h0⟩,⟨cells,k,h1⟩,⟨dD,r,h2⟩⟩:=h;exact⟨⟨d,⟨x,d1.sub hd,d2⟩,by rw [hg 0 (by omega),h0]⟩,⟨cells,k.mono λe cs _ ⟨x,e1,e2⟩=> ⟨x,e1.sub hd,e2⟩,by rw [hg 1 (by omega),h1]⟩,⟨dD,r.mono λe cs _ ⟨x,e1,e2⟩=> ⟨x,e1.sub hd,e2⟩,by rw [hg 2 (by omega),h2]⟩⟩
theorem BN.inj {g:bD}{a:Nat->Nat}{c:Cfg}{me:Int}{n:jQ}(h:BN g a c me n){s t:Nat}(hs:s < 3)(ht:t < 3)(e:a s=a t):s=t:=by
 obtain⟨⟨d,⟨x,_,rfl⟩,h0⟩,⟨_,_,h1⟩,⟨_,_,h2⟩⟩:=h;have hh:(g (a s)).map List.length=(g (a t)).map List.length:=by rw [e]
 match s,hs,t,ht with
 | 0,_,0,_ | 1,_,1,_ | 2,_,2,_=> rfl
 | 0,_,1,_ | 0,_,2,_ | 1,_,0,_ | 1,_,2,_ | 2,_,0,_ | 2,_,1,_=> simp [h0,h1,h2,aeP,YQ,YR,bJ.avx,Cfg.av] at hh
theorem ac0(a b:Bool):bi .neq 4 (B a) (B b)=some (B (!decide (a=b))):=by
 cases a <;> cases b <;> kernel_rfl
theorem ahy(H:ah){x y:AV}{l:List Int}(hl:l.length < 1000000000)(hx:aN H x 1 l.length (l.map I))(hy:aN H y 1 l.length (l.map I)):cl 17 [x,y] H=some (B true,H):=by
 refine dJ rfl rfl (an5 _ _ _ _) ?_ iZ;have e1:=hx.guard.lnS;have e2:=hy.guard.lnS;have key:∀k i,i+k=l.length->GN cl [x,y,I i] H.guard=some (B true,H.guard):=by
  intro k
  induction k with
  | zero=>
   intro i hi;have h1:¬(i:Int) < l.length:=by omega
   rw [Y5];simp only [xq_,e1,h1]
  | succ k ih=>
   intro i hi;have h1:(i:Int) < l.length:=by omega
   have h6:(i:Int)+1=((i+1:Nat):Int):=by omega
   have h7:=wrap_i64 (a:=((i+1:Nat):Int)) (by omega) (by omega);have s1:=hx.guard.ix (k:=.i64) (i:=(i:Int)) (by omega) h1;have s2:=hy.guard.ix (k:=.i64) (i:=(i:Int)) (by omega) h1;rw [zaq] at s1 s2;have t1:=hx.guard.ld (i:=i) (by omega);have t2:=hy.guard.ld (i:=i) (by omega);rw [zaM,zab (show i < l.length by omega)] at t1 t2;have r1:=ih (i+1) (by omega);rw [Y5];simp only [xq_,e1,h1,s1,s2,t1,t2,eq_self,zae,dW,h6,h7,r1]
 have r1:=key l.length 0 (by omega);have r1':GN cl [x,y,I 0] H.guard=some (B true,H.guard):=r1;simp only [xq_,ajN,e1,e2,eq_self,zae,r1']
structure lF(H:ah)(x:AV)(l:List Int):Prop where
 is:aN H x 1 l.length (l.map I)
 one:One x
 nil:l=[]->x=zN
theorem pY(H:ah)(l:List Int):lF H (dat l) l:=⟨nN H l,rW,λh=> by rw [h,dat,gI]⟩
theorem lF.guard {H:ah}{x:AV}{l:List Int}(h:lF H x l):lF H.guard x l:=⟨h.is.guard,h.one,h.nil⟩
theorem lF.new {H:ah}{x:AV}{l:List Int}(h:lF H x l)(o:fV):lF (H.new o) x l:=⟨h.is.new o,h.one,h.nil⟩
theorem lF.qB {H H':ah}{x:AV}{l:List Int}(h:lF H x l)(hn:H.next<=H'.next)(hg:∀r,r < H.next->H'.get r=H.get r):lF H' x l:=⟨h.is.qB hn λr _ hr=> hg r hr,h.one,h.nil⟩
theorem EP {p:Pkt}{x:AV}(h:One x):(p.avx x).all AV.aQ=true:=by simp [Pkt.avx,iU,kD,h.2]
theorem ac3 {p:Ent}{x:AV}(h:One x):(p.avx x).all AV.aQ=true:=by simp [Ent.avx,iU,kD,h.2]
section
variable {b:Nat}{H H':ah}{g:bD}{q:Nat}{cs:List Cell}
theorem OS.own {τ:Nat->Option Tag}{T:Tag}{x:AV}{m:Nat}{l:List AV}(h:OS b H τ T x m l):Own b H x m l:=by
 rcases h with h | ⟨r,g,off,n,cap,ex,ty,all,k0,_,k2⟩
 ·exact .inl h
 ·exact .inr ⟨r,g,off,n,cap,ex,ty,all,k0,k2⟩
theorem Own.one {x:AV}{m:Nat}{l:List AV}(h:Own b H x m l):One x:=by
 rcases h with⟨rfl,_⟩ | ⟨r,g,off,n,cap,ex,ty,all,rfl,_⟩
 ·exact qC
 ·exact vJ
theorem Vh {α:Type}:∀{es:List (Int × α)} {n:Int} {v:α},jh es n=some v->∃j:Nat,es[j]?=some (n,v)/\∀k,k < j->∀e,es[k]?=some e->e.1≠n
 | [],_,_,h=> by cases h
 | (k,w)::es,n,v,h=> by
  simp only [jh] at h;split at h
  ·rename_i e;subst e;cases h;exact⟨0,rfl,λk hk=> by omega⟩
  ·rename_i e;obtain⟨j,h1,h2⟩:=Vh h;refine⟨j+1,h1,λk hk x hx=> ?_⟩;cases k with
   | zero=> cases hx;exact e
   | succ k=> exact h2 k (by omega) x (by simpa using hx)
theorem GZ {α:Type}:∀{es:List (Int × α)} {n:Int},jh es n=none↔n∉es.map (·.1)
 | [],_=> by simp [jh]
 | (k,w)::es,n=> by
  simp only [jh];by_cases e:k=n
  ·simp [e]
  ·simp only [e,if_false,zaz,zaj,not_or];rw [GZ];exact⟨λh=> ⟨λh'=> e h'.symm,h⟩,λh=> h.2⟩
theorem tu:∀(es:List (Int × AV)) (n:Int),qm es n=jh es n
 | [],_=> rfl
 | (k,w)::es,n=> by
  simp only [qm,jh];split
  ·rfl
  ·exact tu es n
theorem PZ {α β:Type}:∀{es:List (Int × α)} {az:List (Int × β)} {n:Int},az.map (·.1)=es.map (·.1)->(jh es n=none↔jh az n=none):=by
 intro es az n h;rw [GZ,GZ,h]
theorem G8 {α β:Type}:∀{es:List (Int × α)} {az:List (Int × β)} {n:Int} {v:α},az.map (·.1)=es.map (·.1)->jh es n=some v->∃(j:Nat) (w:β),jh az n=some w/\es[j]?=some (n,v)/\az[j]?=some (n,w)
 | [],_,_,_,_,h=> by cases h
 | (k,v0)::es,[],_,_,h,_=> by simp at h
 | (k,v0)::es,(k',w0)::az,n,v,h,h'=> by
  simp only [zaz,zbJ] at h;obtain⟨rfl,h⟩:=h;simp only [jh] at h' ⊢;split at h'
  ·rename_i e;subst e;cases h';exact⟨0,w0,by simp,rfl,rfl⟩
  ·rename_i e;obtain⟨j,w,h1,h2,h3⟩:=G8 h h';exact⟨j+1,w,by simp only [e,if_false];exact h1,h2,h3⟩
theorem Good.maps(G:Good b H g)(h:g q=some cs){i m:Nat}{k:IntKind}{es:List (Int × List AV)}(hi:cs[i]?=some (.maps k m es)):
  ∃r,ld (.ref q 0 i) H=some (.mp r,H)/\lnM (.mp r) H=some (I es.length,H)/\∀z n,∃x,(jh es n=none->x=.s z)/\(∀l,jh es n=some l->Own b H x m l)/\∀ok,lk k z (.mp r) (.s (.int k n)) ok H=some ((if ok then .tup [x,B (jh es n).isSome] else x),H):=by
 obtain⟨h0,τ,hR⟩:=G;have R:=hR q cs h;obtain⟨ty,xs,h1,h2,h3,h4⟩:=R.blk;have hlt:i < xs.length:=by rw [h2];exact(zai.1 hi).1
 have hx:xs[i]?=some (xs[i]'hlt):=zab hlt;have:=h4 i _ _ hi hx;simp only [CR] at this;obtain⟨aes,⟨r,e,t1,t2,t3,t4⟩,a2,a3⟩:=this;rw [e] at hx;refine⟨r,by rw [gu h1,hx];rfl,?_,λz n=> ?_⟩
 ·simp only [lnM,ku,bQ,zak,anA,t4];have:=congrArg List.length a2;simp only [zaB] at this;rw [this]
 ·cases hn:jh es n with
  | none=>
   have hf:qm aes n=none:=by rw [tu];exact(PZ a2).1 hn
   refine⟨.s z,λ_=> rfl,λl hl=> (by cases hl),λok=> ?_⟩;simp only [lk,ku,bQ,zak,lkO,t4,and_self,if_true,hf];cases ok <;> rfl
  | some l=>
   obtain⟨j,w,b1,b2,b3⟩:=G8 a2 hn;refine⟨w,λh=> (by cases h),λl' hl=> (by cases hl;exact(a3 j n l w b2 b3).own),λok=> ?_⟩;simp only [lk,ku,bQ,zak,lkO,t4,and_self,if_true,tu,b1];cases ok <;> rfl
theorem Good.aew(G:Good b H g)(h:g q=some cs){i w m:Nat}{ls:List (List AV)}(hi:cs[i]?=some (.aew w m ls)):
  ∃x xs,ld (.ref q 0 i) H=some (x,H)/\Own b H x w xs/\xs.length=ls.length/\∀(j:Nat) l y,ls[j]?=some l->xs[j]?=some y->Own b H y m l:=by
 obtain⟨h0,τ,hR⟩:=G;have R:=hR q cs h;obtain⟨ty,ys,h1,h2,h3,h4⟩:=R.blk;have hlt:i < ys.length:=by rw [h2];exact(zai.1 hi).1
 have hx:ys[i]?=some (ys[i]'hlt):=zab hlt;have:=h4 i _ _ hi hx;simp only [CR] at this;obtain⟨xs,a1,a2,a3⟩:=this;exact⟨ys[i]'hlt,xs,by rw [gu h1,hx];rfl,a1.own,a2,λj l y hl hy=> (a3 j l y hl hy).own⟩
end
theorem P5(H:ah){l:List Int}(hl:l.length < 1000000000){x:AV}(hx:lF H x l):cl 55 [x] H=some (dat l,H):=by
 by_cases h:l=[]
 ·rw [hx.nil h];subst h;have t:=lD H [] (by simp);have z:dat ([]:List Int)=zN:=by simp [dat,gI]
  rw [z] at t ⊢;exact t
 ·have h0:l.length≠0:=λe=> h (zar e);have e2:=sU (e:=3) (by_:=8) (r:=H.guard.next) (H:=H.guard.new (.blk 0 3 [])) qE (hx.is.guard.new _) (xG l) h0 (by unfold most;omega) (by unfold most;omega);simp only [RJ,fE] at e2;refine ji rfl rfl (SA _ _ _ (r:=(.sl (H.next+1) 0 0 1 l.length l.length false,(H.guard.new (.blk 0 3 [])).new (.blk 0 (3+gQ) (l.map I)))) ?_) ?_
  ·have e1:bi .eql 22 x zN=some (B false):=aN.ZY Tryz.underlying22 hx.is h0;simp only [xq_,Pm,e1,FZ,yR,e2,zbo,zaS]
  ·rw [yE h];refine jP (by omega) (cells:=l.map I) ?_ (iF _ λx hx=> xH l x hx _ _);simp only [cZ,jg,fE,RJ,if_true];rw [if_pos (by simp),zaP,zaA (by simp)]
theorem MF(e:Ent){d:Nat}:∀x∈e.av,Frz (d+2) x:=λx hx=> by
 simp only [Ent.av,zaj,zaw,or_false] at hx;rcases hx with rfl | rfl | rfl | rfl | rfl | rfl <;> first | exact iZ | exact uJ
theorem ahz(e:Row){d:Nat}:∀x∈e.av,Frz (d+2) x:=λx hx=> by
 simp only [Row.av,zaj,zaw,or_false] at hx;rcases hx with rfl | rfl | rfl <;> first | exact iZ | exact uJ
theorem uP:Ent.zero.av=[zI,zI,zI,zI,zB,zN]:=by simp [Ent.zero,Ent.av,dat,gI]
theorem ac4:Row.zero.av=[zI,zI,zN]:=by simp [Row.zero,Row.av,dat,gI]
theorem Vj(H:ah)(e:Ent){x:AV}(hl:e.data.length < 1000000000)(hx:lF H x e.data):cl 133 [.agg (e.avx x)] H=some (.agg e.av,H):=by
 refine dJ rfl rfl (akZ _ _ _) ?_ (nG (MF e));have e1:=λo o'=> P5 ((H.guard.new o).new o') hl ((hx.guard.new o).new o');simp only [Nat.reduceLT,Nat.reduceAdd,aW,xq_,hq_,afc,aG,hx.one.2,Ent.avx,e1,Ent.av]
section
variable {b:Nat}{H:ah}{g:bD}{q:Nat}
theorem aqU(H:ah)(e:Ent){r:Nat}{aj:Int}(h:∀H':ah,H'.get=H.get->ld (.ref r 0 0) H'=some (I aj,H'))(hr:r < H.next):cl 176 [.agg e.av,.ref r 0 0] H=some (B (decide (e.aj=aj)),H):=by
 refine dJ rfl rfl (alE _ _ _ _) ?_ iZ;have e1:=h H.guard rfl;simp only [Nat.reduceLT,xq_,hq_,afC,aG,Ent.av,e1,hr]
theorem G9(G:Good b H g){c:Cache}(h:g q=some (dn c))(hl:c.l.length < 1000000)(aj:Int):cl 132 [.ref q 0 0,I aj] H=some (I (Ve (c.at_ aj)),H):=by
 refine dJ rfl rfl (akY _ _ _ _) ?_ iZ;have G1:=G.guard.new (.blk 0 3 [I aj]);obtain⟨x,hx,c1⟩:=G1.seq h (i:=0) rfl;have hs:=c1.is (by decide) (dI dV c.l);have e2:=PI (H.guard.new (.blk 0 3 [I aj])) (enc:=Ent.av) dV (f:=.fn (.func 176) [] [.ref H.next 0 0]) hs (by omega) (λe=> decide (e.aj=aj)) (λe _=> by
  rw [OX (by kernel_rfl)];exact aqU _ e (λH' hg=> by rw [gu (g:=0) (ty:=3) (xs:=[I aj]) (by rw [hg];exact bC rfl)];rfl) (by rw [fE,RJ];omega))
 have eb:jD 3 (I aj) H.guard=some (.ref H.next 0 0,H.guard.new (.blk 0 3 [I aj])):=rfl;simp only [xq_,afb,eb,hx,e2];rfl
theorem rJ {α:Type}{p:α->Bool}:∀l:List α,(l.findIdx? p).bind (λi=> l[i]?)=l.find? p
 | []=> rfl
 | a::l=> by
  rw [zdx,List.find?_cons];cases h:p a with
  | true=> simp
  | false=>
   simp only [zaf,if_false];rw [<-rJ l];cases l.findIdx? p <;> simp
def oV(o:Option Ent):AV:=.tup [.agg (o.getD .zero).av,B o.isSome]
theorem WM(o:Option Ent):Frz 9 (oV o):=uI λx hx=> by
 simp only [zaj,zaw,or_false] at hx;rcases hx with rfl | rfl
 ·exact nG (MF _)
 ·exact iZ
theorem qK(G:Good b H g){c:Cache}(h:g q=some (dn c))(hl:c.l.length < 1000000)(hd:∀e∈c.l,e.data.length < 1000000000)(aj:Int):cl 87 [.ref q 0 0,I aj] H=some (oV (c.find aj),H):=by
 refine dJ rfl rfl (aoO _ _ _ _) ?_ (WM _);have G1:=G.guard.new (.blk 0 166 [zI,zI,zI,zI,zB,zN]);have e1:=G9 G1 h hl aj;have hf:c.find aj=(c.at_ aj).bind λi=> c.l[i]?:=(rJ c.l).symm;cases ha:c.at_ aj with
 | none=>
  rw [ha] at e1 hf;have hn:Ve (none:Option Nat)=-1:=rfl;rw [hn] at e1;simp only [Int.reduceLT,Int.reduceNeg,Nat.reduceAdd,aW,xq_,hq_,ahd,e1,aen,kE,eu,hf,oV,uP,za1,zaI,Option.bind_none]
 | some i=>
  rw [ha] at e1 hf;have hi:i < c.l.length:=zbw.1 ha |>.1
  obtain⟨e,he⟩:∃e,c.l[i]?=some e:=⟨_,zab hi⟩
  have hn:Ve (some i)=(i:Int):=rfl;rw [hn] at e1;have h0:¬(i:Int) < 0:=by omega
  obtain⟨x,hx,c1⟩:=G1.seq h (i:=0) rfl;have hs:=c1.is (by decide) (dI dV c.l);have e3:=hs.ix (k:=.i64) (i:=(i:Int)) (by omega) (by omega);rw [zaq] at e3;have e4:=pV dV hs he;have e5:=λH=> Vj H e (hd e (zav he)) (pY H e.data);have e6:e.avx (dat e.data)=e.av:=rfl;rw [e6] at e5;have hf':c.find aj=some e:=by rw [hf];exact he
  simp only [Nat.reduceAdd,aW,xq_,hq_,ahd,e1,h0,hx,e3,e4,e5,hf',oV,zat,zaJ]
theorem al4(G:Good b H g){c:Cfg}{dD:Rows}(h:g q=some (EL c dD))(hd:∀e∈dD,e.2.data.length < 1000000000)(aj:Int):cl 167 [.ref q 0 0,I aj] H=some (.tup [.agg (jc dD aj).av,B (jh dD aj).isSome],H):=by
 refine dJ rfl rfl (als _ _ _ _) ?_ (uI λx hx=> ?_)
 ·have G1:=G.guard.new (.blk 0 199 [zI,zI,zN]);obtain⟨r,f1,f2,_⟩:=G1.map h (i:=8) rfl;have f3:=f2 (.agg #[.int .i64 0,.int .i64 0,.slice none 0 0]) aj true;rw [xq] at f3;cases hr:jh dD aj with
  | none=>
   have e5:=λH=> lD H [] (by simp);have z0:dat ([]:List Int)=zN:=by simp [dat,gI]
   rw [z0] at e5;have zc:AV.cells (.s (.agg #[.int .i64 0,.int .i64 0,.slice none 0 0]))=[zI,zI,zN]:=rfl;simp only [hr,zcX,if_true] at f3;have zn:zN.aQ=true:=rfl;have zn':zN.cells=[zN]:=rfl;simp only [Nat.reduceAdd,aW,xq_,hq_,Zx,f1,f3,zc,e5,jc,hr,ac4,za1,zaI,zn,zn']
  | some w=>
   simp only [hr,zak,if_true] at f3;have hm:w.data.length < 1000000000:=by
    obtain⟨j,hj,_⟩:=Vh hr;exact hd _ (zav hj)
   have e5:=λH=> lD H w.data hm;simp only [Nat.reduceAdd,aW,xq_,hq_,Zx,f1,f3,Row.av,e5,jc,hr,zat,zaJ]
 ·simp only [zaj,zaw,or_false] at hx;rcases hx with rfl | rfl
  ·exact nG (ahz _)
  ·exact iZ
theorem WO(G:Good b H g){t:Turns}(h:g q=some (iP t))(aj:Int):cl 187 [.ref q 0 0,I aj] H=some (I (t.owner aj),H):=by
 refine dJ rfl rfl (alK _ _ _ _) ?_ iZ;obtain⟨r,f1,f2,_⟩:=G.guard.map h (i:=0) rfl;have f3:=f2 (.int .i64 0) aj true;rw [xq] at f3;cases hr:jh t.fU aj with
 | none=>
  simp only [hr,zcX,if_true] at f3;simp only [Int.reduceNeg,xq_,ZE,f1,f3,Turns.owner,hr,za1]
 | some w=>
  simp only [hr,zak,if_true] at f3;simp only [Int.reduceNeg,xq_,ZE,f1,f3,Turns.owner,hr,zat]
theorem xK(G:Good b H g){t:Turns}(h:g q=some (iP t))(aj:Int):cl 165 [.ref q 0 0,I aj] H=some (B (t.owned aj),H):=by
 refine dJ rfl rfl (alq _ _ _ _) ?_ iZ;obtain⟨r,f1,f2,_⟩:=G.guard.map h (i:=0) rfl;have f3:=f2 (.int .i64 0) aj true;rw [xq] at f3;cases hr:jh t.fU aj with
 | none=>
  simp only [hr,zcX,if_true] at f3;simp only [xq_,Zw,f1,f3,Turns.owned,hr,zaI]
 | some w=>
  simp only [hr,zak,if_true] at f3;simp only [xq_,Zw,f1,f3,Turns.owned,hr,zaJ]
def IC(w:Int × Int):List AV:=[I w.1,I w.2]
theorem MG {α β:Type}(f:α->β):∀(es:List (Int × α)) (n:Int),jh (es.map λe=> (e.1,f e.2)) n=(jh es n).map f
 | [],_=> rfl
 | (k,v)::es,n=> by
  simp only [zaz,jh];split
  ·rfl
  ·exact MG f es n
theorem al5(G:Good b H g){t:Turns}(h:g q=some (iP t))(aj:Int):∃r x,ld (.ref q 0 1) H=some (.mp r,H)/\lk .i64 (.slice none 0 0) (.mp r) (I aj) false H=some (x,H)/\Own b H x 2 ((t.ws aj).flatMap IC):=by
 obtain⟨r,f1,_,f2⟩:=G.maps h (i:=1) rfl;obtain⟨x,x1,x2,x3⟩:=f2 (.slice none 0 0) aj;refine⟨r,x,f1,x3 false,?_⟩;rw [MG (λl:List (Int × Int)=> l.flatMap λw=> [I w.1,I w.2])] at x1 x2;simp only [show(λw:Int × Int=> [I w.1,I w.2])=IC from rfl] at x1 x2;cases hr:jh t.wait aj with
 | none=>
  rw [hr] at x1;exact .inl ⟨x1 rfl,by simp [Turns.ws,hr]⟩
 | some w=>
  rw [hr] at x2;have:=x2 _ rfl
  simpa [Turns.ws,hr] using this
theorem wQ(G:Good b H g){t:Turns}(h:g q=some (iP t))(aj:Int):cl 166 [.ref q 0 0,I aj] H=some (I (t.ws aj).length,H):=by
 refine dJ rfl rfl (alr _ _ _ _) ?_ iZ;obtain⟨r,x,f1,f2,f3⟩:=al5 G.guard h aj;have e:=(f3.is (n:=(t.ws aj).length) (by decide) (dI (enc:=IC) (λ_=> rfl) _)).lnS;simp only [xq_,afw,f1,f2,e]
theorem ac5 {e m by_ r ty:Nat}{y:AV}{H:ah}(hx:H.get r=.blk 0 ty [])(hy:aN H y m 0 []):app e m by_ (.sl r 0 0 m 0 0 true) y H=some (.sl r 0 0 m 0 0 true,H):=by
 obtain⟨c1,c2⟩:=hy.wE;simp only [app,c1,c2,dZ];rw [if_pos ⟨by simp,rfl⟩];simp only [hx];rw [if_pos ⟨trivial,trivial,by simp⟩,if_pos trivial]
theorem SL(H:ah){l:List Int}(hl:l.length < 1000000000){x:AV}(hx:aN H x 1 l.length (l.flatMap QN))(hf:∀a:Int,∀z∈QN a,Frz 8 z)(ha:∀a:Int,(QN a).all AV.aQ=true)(hm:∀a:Int,(QN a).length=1):∃y,cl 55 [x] H=some (y,H)/\∀H':ah,aN H' y 1 l.length (l.flatMap QN):=by
 by_cases hz:x=zN
 ·subst hz;have h0:l=[]:=by
   have h1:=hx.2.2.2;exact zar h1
  subst h0;refine⟨zN,ji rfl rfl (SA _ _ _ (r:=(zN,H.guard)) ?_) jq,λ_=> aN.nil⟩;have e:bi .eql 22 zN zN=some (B true):=by kernel_rfl
  simp only [xq_,Pm,e]
 ·have e1:bi .eql 22 x zN=some (B false):=by
   obtain⟨_,hx⟩:=hx;cases x with
   | sl r g o m n c ex=> exact BI Tryz.underlying22
   | vs n m l=> exact sV Tryz.underlying22
   | s v=>
    cases v with
    | slice a b c=>
     cases a with
     | none=> obtain⟨rfl,rfl,_⟩:=hx;exact absurd rfl hz
     | some a=> exact hx.elim
    | _=> exact hx.elim
   | _=> exact hx.elim
  let H1:=H.guard.new (.blk 0 3 []);have x1:aN H1 x 1 l.length (l.flatMap QN):=hx.guard.new _;by_cases h:l=[]
  ·subst h;have e2:=ac5 (e:=3) (by_:=8) (r:=H.next) (H:=H1) (bC rfl) x1;refine⟨.vs 0 1 [],ji rfl rfl (SA _ _ _ (r:=(.sl H.next 0 0 1 0 0 true,H1)) ?_) ?_,λ_=> aN.vs rfl⟩
   ·simp only [H1] at e2;simp only [xq_,Pm,e1,FZ,yR,e2,zbo,zaS];rfl
   ·refine jP (zac _) (cells:=[]) ?_ rfl;have:H1.get H.next=.blk 0 3 []:=bC rfl
    simp only [cZ,this];rfl
  ·have h0:l.length≠0:=λe=> h (zar e);have e2:=sU (e:=3) (by_:=8) (r:=H.next) (H:=H1) (bC rfl) x1 (UA ha l) h0 (by unfold most;omega) (by unfold most;omega);refine⟨.vs l.length 1 (l.flatMap QN),ji rfl rfl (SA _ _ _ (r:=(.sl (H.next+1) 0 0 1 l.length l.length false,H1.new (.blk 0 (3+gQ) (l.flatMap QN)))) ?_) ?_,λ_=> aN.vs (dI hm l)⟩
   ·have n1:H1.next=H.next+1:=rfl
    rw [n1] at e2;simp only [H1] at e2;simp only [xq_,Pm,e1,FZ,yR,e2,zbo,zaS];rfl
   ·refine jP (by omega) (cells:=l.flatMap QN) ?_ (iF _ λz hz=> Vd hf l z hz _ _);have:(H1.new (.blk 0 (3+gQ) (l.flatMap QN))).get (H.next+1)=.blk 0 (3+gQ) (l.flatMap QN):=bC rfl;simp only [cZ,this];rw [if_pos ⟨trivial,by rw [dI hm];omega⟩,zaP,zaA (by rw [dI hm];exact zac _)]
theorem aaj {x:AV}{m n:Nat}{cells:List AV}(h:∀H':ah,aN H' x m n cells)(hz:∀z∈cells,Frz 8 z):Frz 9 x:=by
 have h0:=h ah.empty;obtain⟨hl,h1⟩:=h0;cases x with
 | sl r g o m n c ex=> exact absurd h1.2.2.1.1 (by simp [ah.empty])
 | vs n m l=> obtain⟨_,_,rfl⟩:=h1;exact aeE hz
 | s v=> exact iZ
 | _=> exact h1.elim
theorem WQ(G:Good b H g){p:Proc}(h:g q=some (qR p))(h2:p.bf.length < 1000):∃x,cl 18 [.ref q 0 0] H=some (x,H)/\∀H':ah,aN H' x 1 p.bf.length (p.bf.map I):=by
 obtain⟨x,hx,c⟩:=G.guard.seq h (i:=1) rfl;obtain⟨y,e,hy⟩:=SL H.guard (l:=p.bf) (by omega) (by rw [zO];exact c.is (by decide) (by simp)) (λa z hz=> by simp only [QN,zaO] at hz;subst hz;exact iZ) (λ_=> rfl) (λ_=> rfl);rw [zO] at hy;refine⟨y,dJ rfl rfl (an6 _ _ _) ?_ (aaj hy (xH _)),hy⟩;simp only [xq_,ajO,hx,e]
theorem ac6(G:Good b H g){A:Adr}{m:bW}(M:mO g A m)(hn:m.aH.length < 1000)(i:Int):cl 60 [.ref A.zW 0 0,I i] H=some (if 0<=i/\i < m.aH.length then .ref (A.N i.toNat 0) 0 0 else zP,H):=by
 obtain⟨x,hx,c⟩:=G.guard.seq M.zW (i:=10) rfl;have hs:=c.is (n:=m.aH.length) (by decide) (aaf _ _);have e2:=hs.lnS;have hall:bP H.guard H.next 9 (if 0<=i/\i < m.aH.length then .ref (A.N i.toNat 0) 0 0 else zP)=some (if 0<=i/\i < m.aH.length then .ref (A.N i.toNat 0) 0 0 else zP):=by
  split
  ·rename_i h;obtain⟨n,hn⟩:∃n,m.aH[i.toNat]?=some n:=⟨_,zab (by omega)⟩
   have:=G.lt (M.bn _ n hn).1;rw [bP];simp only [this,if_true]
  ·exact jq
 refine ji rfl rfl (aot _ _ _ _ (r:=(_,H.guard)) ?_) hall;by_cases h0:i < 0
 ·have:¬(0<=i/\i < m.aH.length):=by omega
  rw [if_neg this];simp only [xq_,acw,h0]
 ·by_cases h1:(m.aH.length:Int)<=i
  ·have:¬(0<=i/\i < m.aH.length):=by omega
   rw [if_neg this];simp only [xq_,acw,h0,hx,e2,h1]
  ·have:0<=i/\i < m.aH.length:=by omega
   rw [if_pos this];have e3:=hs.ix (k:=.i64) (i:=i) (by omega) (by omega);have e4:=hs.ld (i:=i.toNat) (by omega);rw [aag (by omega)] at e4;simp only [xq_,acw,h0,hx,e2,h1,e3,e4]
end
def wR:List (List Pkt)->Nat->Int->Option (Nat × Int)
 | [],_,_=> none
 | l::ls,j,at_=> if 0<=at_/\at_ < l.length then some (j,at_) else wR ls (j+1) (at_ - l.length)
theorem tC:∀{ls:List (List Pkt)} {j:Nat} {at_:Int} {j':Nat} {k:Int},wR ls j at_=some (j',k)->j<=j'/\∃l,ls[j' - j]?=some l/\0<=k/\k < l.length/\0<=at_/\ls.flatten[at_.toNat]?=l[k.toNat]?
 | [],_,_,_,_,h=> by cases h
 | l::ls,j,at_,j',k,h=> by
  simp only [wR] at h;split at h
  ·rename_i hc;cases h;refine⟨zac _,l,by simp,hc.1,hc.2,hc.1,?_⟩;rw [zdC,zaV (by omega)]
  ·rename_i hc;obtain⟨h1,l',h2,h3,h4,h5,h6⟩:=tC h;refine⟨by omega,l',by rw [show j' - j=(j' - (j+1))+1 by omega];simpa using h2,h3,h4,by omega,?_⟩;rw [zdC,zaX (by omega),<-h6]
   congr 1;omega
theorem CG:∀{ls:List (List Pkt)} {j:Nat} {at_:Int},wR ls j at_=none->at_ < 0∨(ls.flatten.length:Int)<=at_
 | [],_,_,_=> by simp;omega
 | l::ls,j,at_,h=> by
  simp only [wR] at h;split at h
  ·cases h
  ·rename_i hc;have:=CG h;rw [zdC,zao];omega
theorem CJ:∀l:List Port,(l.flatMap λp=> [p.rq,p.an]).flatten=l.flatMap λp=> p.rq++p.an
 | []=> rfl
 | p::l=> by simp [CJ l]
def kG(P:Nat->Nat->Nat)(j:Nat):List AV:=[.ref (P (j / 2) (if j % 2=0 then 0 else 2)) 0 0,.ref (P (j / 2) (if j % 2=0 then 1 else 3)) 0 0]
theorem P6 {P:Nat->Nat->Nat}{n j:Nat}(h:j < 2*n):((iH P n).drop (j*2)).take 2=kG P j:=by
 have hi:j / 2 < n:=by omega
 have hfl:=uH (m:=4) (enc:=λi=> oH (P i)) (λ_=> rfl) (List.range n) (j / 2) (j / 2) (zbZ hi);rcases Nat.mod_two_eq_zero_or_one j with h0 | h0
 ·have e:((iH P n).drop (j*2)).take 2=(((iH P n).drop (j / 2*4)).take 4).take 2:=by
   rw [zbT,show j / 2*4=j*2 by omega];rfl
  rw [e];refine(congrArg (List.take 2) hfl).trans ?_;simp [kG,h0,oH]
 ·have e:((iH P n).drop (j*2)).take 2=((((iH P n).drop (j / 2*4)).take 4).drop 2).take 2:=by
   rw [zcj,zbA,zbT,show j / 2*4+2=j*2 by omega];rfl
  rw [e];refine(congrArg (λl=> (List.drop 2 l).take 2) hfl).trans ?_;simp [kG,h0,oH]
theorem aak {g:bD}{f:Nat}{P:Nat->Nat->Nat}{c:Cfg}{fab:Fab}(F:ig g f P c fab){j:Nat}{l:List Pkt}(h:fab.jl[j]?=some l):
  g (P (j / 2) (if j % 2=0 then 0 else 2))=some (nM l c.out):=by
 have hj:j < 2*fab.l.length:=by
  have:=(zai.1 h).1
  rwa [Fab.jl,qH] at this
 obtain⟨l',a,a',h1,h2,h3⟩:=F.afO hj;rw [h] at h1;cases h1;rw [P6 hj] at h2;simp only [kG,zbJ,AV.ref.injEq,and_true] at h2;rw [h2.1];exact h3
section
variable {b:Nat}{H:ah}{g:bD}{f:Nat}{P:Nat->Nat->Nat}{c:Cfg}{fab:Fab}
def wS(P:Nat->Nat->Nat):Option (Nat × Int)->AV
 | some (j,k)=> .tup [.agg (kG P j),I k,B true]
 | none=> .tup [.agg [zP,zP],I 0,B false]
theorem aal(G:Good b H g)(F:ig g f P c fab)(hn:fab.l.length < 1000)(h0:fab.l.length≠0)(hr:∀l∈fab.jl,l.length < 1000)(at_:Int)(h64:vT at_):
  cl 52 [.ref f 0 0,I at_] H=some (wS P (wR fab.jl 0 at_),H):=by
 have hpl:fab.jl.length=2*fab.l.length:=qH _;have hpx:(iH P fab.l.length).length=(2*fab.l.length)*2:=by rw [iH,pX];omega
 let H0:=H.guard.new (.blk 0 99 [zP,zP]);have ep:=Vf (G.guard.new (.blk 0 99 [zP,zP])) F hn h0;have xs:∀H':ah,aN H' (.vs (2*fab.l.length) 2 (iH P fab.l.length)) 2 (2*fab.l.length) (iH P fab.l.length):=λH'=> aN.vs hpx;let fnd:=wR fab.jl 0 at_;have key:∀k j,j+k=2*fab.l.length->∀(Hi:ah) (a:Int),H0.next<=Hi.next->Hi.base=H.next->(∀r,r < H0.next->Hi.get r=H0.get r)->vT a->
   ((0<=a/\fnd=wR (fab.jl.drop j) j a)∨((a < 0∨9223372036854775808 - 1000 - 1000*(j:Int)<=a)/\fnd=none))->
   (LJ cl [I a,.ref H.next 0 0,.vs (2*fab.l.length) 2 (iH P fab.l.length),I (2*fab.l.length:Nat),I j] Hi).map Prod.fst=some (wS P fnd):=by
  intro k
  induction k with
  | zero=>
   intro j hj Hi a n1 b1 s1 ha hc;have h1:¬(j:Int) < (2*fab.l.length:Nat):=by omega
   have hf:fnd=none:=by
    rcases hc with⟨_,hc⟩ | ⟨_,hc⟩
    ·rw [hc,zaQ (by omega)];rfl
    ·exact hc
   have g0:Hi.get H.next=.blk 0 99 [zP,zP]:=by rw [s1 _ (by show H.next < H.next+1;omega)];exact bC rfl
   have hb1:Hi.base<=H.next:=by omega
   have e0:bd 99 []=some (.agg [zP,zP]):=by simp only [xq_,ai8,kE,gX]
   have e1:=aeN (H:=Hi) (r:=H.next) (off:=0) (n:=2) (v:=.agg [zP,zP]) g0 hb1 rfl rfl (by decide);rw [hf,Za];have e2:=gZ (H:=Hi.put H.next (.blk 0 99 (aW [zP,zP] 0 [zP,zP]))) (r:=H.next) (off:=0) (n:=2) (g:=0) (ty:=99) (xs:=[zP,zP]) Gl (by decide);have hs:aW [zP,zP] 0 [zP,zP]=[zP,zP]:=rfl;simp only [fZ,hs] at e1 e2;simp only [Nat.reduceAdd,aW,xq_,hq_,h1,e0,e1,e2,wS]
  | succ k ih=>
   intro j hj Hi a n1 b1 s1 ha hc;have h1:(j:Int) < (2*fab.l.length:Nat):=by omega
   have h6:(j:Int)+1=((j+1:Nat):Int):=by omega
   have h7:=wrap_i64 (a:=((j+1:Nat):Int)) (by omega) (by omega);have a1:=(xs Hi).ix (k:=.i64) (i:=(j:Int)) (by omega) h1;rw [zaq] at a1;have a3:=(xs Hi).lda (i:=j) (by omega);rw [P6 (by omega)] at a3;obtain⟨l,hl⟩:∃l,fab.jl[j]?=some l:=⟨_,zab (by omega)⟩
   have p3:=aak F hl;have hlen:=hr l (zav hl);let H1:=Hi.new (.blk 0 99 (kG P j));have G1:Good b H1 g:=(((G.guard.new _).ext n1 s1).new _)
   have e3:=Z9 G1 p3;have sb:Hi.base<=Hi.next:=by have:H.next+1<=Hi.next:=n1;omega
   have lt0:H.next < Hi.next:=n1
   have hd:fab.jl.drop j=l::fab.jl.drop (j+1):=by
    rw [zby (by omega)];rw [zab (by omega)] at hl;rw [za2 hl]
   rw [Za];simp only [H1,kG] at e3;by_cases hin:0<=a/\a < l.length
   ·have hf:fnd=some (j,a):=by
     rcases hc with⟨_,hc⟩ | ⟨hc,_⟩
     ·rw [hc,hd,wR,if_pos hin]
     ·omega
    have g0:Hi.get H.next=.blk 0 99 [zP,zP]:=by rw [s1 _ (by show H.next < H.next+1;omega)];exact bC rfl
    have hb1:Hi.base<=H.next:=by omega
    have e1:=aeN (H:=Hi.new (.blk 0 99 (kG P j))) (r:=H.next) (off:=0) (n:=2) (v:=.agg (kG P j)) (by rw [eG lt0];exact g0) (by rw [jC];exact hb1) rfl rfl (by decide);have e2:=gZ (H:=(Hi.new (.blk 0 99 (kG P j))).put H.next (.blk 0 99 (aW [zP,zP] 0 (kG P j)))) (r:=H.next) (off:=0) (n:=2) (g:=0) (ty:=99) (xs:=aW [zP,zP] 0 (kG P j)) Gl (by simp [kG,aW]);simp only [fZ,kG] at e1 e2;have hs:∀x y:AV,aW [zP,zP] 0 [x,y]=[x,y]:=λ_ _=> rfl;have h0:=hin.1;have h2:=hin.2;rw [hf];simp only [hs] at e1 e2;simp only [Nat.reduceAdd,aW,xq_,hq_,h1,a1,a3,kG,sb,h0,h2,e3,e1,e2,wS]
   ·have hw:∃a',IntKind.wrap .i64 (a - l.length)=a'/\vT a'/\((0<=a'/\fnd=wR (fab.jl.drop (j+1)) (j+1) a')∨((a' < 0∨9223372036854775808 - 1000 - 1000*((j+1:Nat):Int)<=a')/\fnd=none)):=by
     rcases hc with⟨hc0,hc⟩ | ⟨hc,hn⟩
     ·refine⟨a - l.length,wrap_i64 (by omega) (by have:=ha.2;omega),⟨by omega,by have:=ha.2;omega⟩,.inl ⟨by omega,?_⟩⟩;rw [hc,hd,wR,if_neg hin]
     ·by_cases hlow:-9223372036854775808<=a - l.length
      ·refine⟨a - l.length,wrap_i64 hlow (by have:=ha.2;omega),⟨hlow,by have:=ha.2;omega⟩,.inr ⟨?_,hn⟩⟩;rcases hc with hc | hc
       ·left;omega
       ·right;omega
      ·refine⟨a - l.length+18446744073709551616,?_,⟨by have:=ha.1;omega,by omega⟩,.inr ⟨.inr (by have:=ha.1;omega),hn⟩⟩;have:a - l.length+18446744073709551616=IntKind.wrap .i64 (a - l.length):=by
        simp [IntKind.wrap,IntKind.signed,IntKind.bits];have:=ha.1;omega
       exact this.symm
    obtain⟨a',w1,w2,w3⟩:=hw;have r1:=ih (j+1) (by omega) (Hi.new (.blk 0 99 (kG P j))) a' (zbW n1) b1 (λr hr=> by rw [eG (by omega)];exact s1 r hr) w2 w3;simp only [kG] at r1;by_cases h0:0<=a
    ·have h2:¬a < l.length:=by omega
     simp only [Nat.reduceAdd,aW,xq_,hq_,h1,a1,a3,kG,sb,h0,h2,e3,jw,w1,dW,h6,h7,r1]
    ·simp only [Nat.reduceAdd,aW,xq_,hq_,h1,a1,a3,kG,sb,h0,e3,jw,w1,dW,h6,h7,r1]
 have r1:=key (2*fab.l.length) 0 (by omega) H0 at_ (zac _) rfl (λ_ _=> rfl) h64 (by
  by_cases h:0<=at_
  ·exact .inl ⟨h,rfl⟩
  ·refine .inr ⟨.inl (by omega),?_⟩;cases hf:wR fab.jl 0 at_ with
   | none=> exact hf
   | some r=>
    obtain⟨j,k⟩:=r;obtain⟨_,l,_,_,_,h5,_⟩:=tC hf;omega)
 have hz:∀Hz,bP Hz H.next 9 (wS P fnd)=some (wS P fnd):=by
  intro Hz;cases hf:fnd with
  | none=> exact uI (λx hx=> by
    simp only [zaj,zaw,or_false] at hx;rcases hx with rfl | rfl | rfl
    ·exact nG (λx hx=> by
      simp only [zaj,zaw,or_false] at hx;rcases hx with rfl | rfl <;> exact iZ)
    ·exact iZ
    ·exact iZ) Hz _
  | some r=>
   obtain⟨j,k⟩:=r;obtain⟨_,l,hl,_⟩:=tC hf;rw [Nat.sub_zero] at hl;have hj:j / 2 < fab.l.length:=by
    have:=(zai.1 hl).1;omega
   have l1:=F.lt G (i:=j / 2) (s:=if j % 2=0 then 0 else 2) hj (by split <;> omega);have l2:=F.lt G (i:=j / 2) (s:=if j % 2=0 then 1 else 3) hj (by split <;> omega);refine Ju λx hx=> ?_;simp only [zaj,zaw,or_false] at hx;rcases hx with rfl | rfl | rfl
   ·refine Jt λx hx=> ?_;simp only [kG,zaj,zaw,or_false] at hx;rcases hx with rfl | rfl
    ·rw [bP];exact if_pos l1
    ·rw [bP];exact if_pos l2
   ·exact jq
   ·exact jq
 cases hs:WG cl (.ref f 0 0) (I at_) H.guard with
 | none=>
  exfalso;have e2:=(xs H0).lnS;simp only [H0] at ep e2 r1;have:(WG cl (.ref f 0 0) (I at_) H.guard).map Prod.fst=some (wS P fnd):=by
   simp only [xq_,WG,ep,e2];exact r1
  rw [hs] at this;cases this
 | some r=>
  have e2:=(xs H0).lnS;simp only [H0] at ep e2 r1;have:(WG cl (.ref f 0 0) (I at_) H.guard).map Prod.fst=some (wS P fnd):=by
   simp only [xq_,WG,ep,e2];exact r1
  rw [hs] at this;simp only [zak,zaa] at this;obtain⟨v,Hz⟩:=r;simp only at this;subst this;exact ji rfl rfl (aoo _ _ _ _ hs) (hz Hz)
def Fab.pkt(f:Fab)(at_:Int):Option Pkt:=if at_ < 0 then none else f.all[at_.toNat]?
theorem aam(G:Good b H g)(F:ig g f P c fab)(hn:fab.l.length < 1000)(h0:fab.l.length≠0)(hr:∀l∈fab.jl,l.length < 1000/\∀p∈l,p.data.length < 1000000000)(at_:Int)(h64:vT at_):
  cl 47 [.ref f 0 0,I at_] H=some (iD (fab.pkt at_),H):=by
 have G1:=G.guard.new (.blk 0 112 [zI,zI,zI,zI,zI,zI,zI,zB,zN]);have e1:=aal G1 F hn h0 (λl hl=> (hr l hl).1) at_ h64;have hall:fab.jl.flatten=fab.all:=CJ fab.l;refine dJ rfl rfl (aok _ _ _ _) ?_ (Ci _);cases hf:wR fab.jl 0 at_ with
 | none=>
  rw [hf] at e1;have hp:fab.pkt at_=none:=by
   have:=CG hf;rw [hall] at this;unfold Fab.pkt;split
   ·rfl
   ·rw [zaH (by omega)]
  have zc:([zP,zP]:List AV).all AV.aQ=true:=rfl;simp only [Nat.reduceAdd,aW,xq_,hq_,ag0,e1,wS,zc,qA,kE,eu,hp,iD,fH,za1,zaI,zam]
 | some r=>
  obtain⟨j,k⟩:=r;rw [hf] at e1;obtain⟨_,l,h2,h3,h4,h5,h6⟩:=tC hf;rw [Nat.sub_zero] at h2;have p3:=aak F h2;have hp:fab.pkt at_=l[k.toNat]?:=by
   unfold Fab.pkt;rw [if_neg (by omega),<-hall,h6]
  have e2:=λo=> ZK (G1.new o) p3 (hr l (zav h2)).1 (hr l (zav h2)).2 k;have hk:¬k < 0:=by omega
  have ha:¬at_ < 0:=by omega
  simp only [hk,if_false] at e2;rw [hp];obtain⟨p,hpp⟩:∃p,l[k.toNat]?=some p:=⟨_,zab (by omega)⟩
  rw [hpp] at e2 ⊢;simp only [Nat.reduceAdd,aW,xq_,hq_,ag0,e1,wS,kG,ha,e2,iD,zat,zaJ,zae]
end
theorem Own.ref {b:Nat}{H:ah}{x:AV}{m n:Nat}{l:List AV}(o:Own b H x m l)(hm:0 < m)(hl:l.length=n*m){j:Nat}(hj:j < n):
  ∃r gg off,(∀k:IntKind,ix m x (.s (.int k j)) H=some (.ref r gg off,H))/\(∀k,k < m->ld (.ref r gg (off+k)) H=(l[j*m+k]?).map λv=> (v,H))/\lda m (.ref r gg off) H=some (.agg ((l.drop (j*m)).take m),H):=by
 have hs:=o.is hm hl;have hjm:(j+1)*m<=n*m:=zaD _ (by omega);rw [zbt,zbp] at hjm;rcases o with⟨_,h0⟩ | ⟨r,gg,off,n',cap,ex,ty,all,rfl,k2,k3,k4,k5,k6,k7,k8⟩
 ·rw [h0] at hl;simp only [zan] at hl;omega
 have hn:n'=n:=hs.2.2.1;subst hn;have hcm:n'*m<=cap*m:=zaD _ k4;refine⟨r,gg,off+j*m,λk=> ?_,λk hk=> ?_,?_⟩
 ·have:=hs.ix (k:=k) (i:=(j:Int)) (by omega) (by omega);rw [zaq] at this;exact this
 ·rw [gu k5,k8,zaC,if_pos (by omega),zaF,zb1]
 ·rw [gZ k5 (by omega),k8]
  congr 3
  rw [zcj,zbA,zbT,zbk (by omega)]
theorem Own.name {b:Nat}{H:ah}{m:Nat}{x:AV}{l:List AV}(c:Own b H x m l){r:Nat}(h:iM x=some r):b<=r/\r < H.next:=by
 rcases c with⟨rfl,_⟩ | ⟨r',g,off,n',cap,ex,ty,all,rfl,k2,k3,_⟩
 ·cases h
 ·simp only [iM,zaa] at h;omega
section
variable {b:Nat}{H:ah}{g:bD}{q f:Nat}{N:Nat->Nat->Nat}{m:kM}
structure kM.fine(m:kM):Prop where
 n:m.aH.length < 1000
 fab:m.fab.length=m.aH.length
 aqV:∀p∈m.fab,p.rq.length < 1000/\p.an.length < 1000/\p.rin.length < 1000/\p.ain.length < 1000
 ops:∀n∈m.aH,n.ops.length < 1000/\n.bf.length < 1000
end
structure Node.fine(n:Node):Prop where
 ops:n.bG.ops.length < 1000
 bf:n.bG.bf.length < 1000
 aF:n.aF.data.length < 1000000000
 aI:n.aI.l.length < 1000
 ents:∀e∈n.aI.l,e.data.length < 1000000000
 dD:∀e∈n.home.dD,e.2.data.length < 1000000000
structure jQ.fine(n:jQ):Prop where
 dD:n.homes.dD.length < 1000
 owner:n.homes.aP.owner.length < 1000000
 wait:n.homes.aP.wait.length < 1000000
theorem WR {l:List Ent}(h:l.Pairwise λa b=> a.aj < b.aj){a b:Ent}(ha:a∈l)(hb:b∈l)(e:a.aj=b.aj):a=b:=by
 induction h with
 | nil=> cases ha
 | cons h1 _ ih=>
  rcases zaj.1 ha with ha1 | ha1
  ·rcases zaj.1 hb with hb1 | hb1
   ·rw [ha1,hb1]
   ·have:=h1 b hb1;rw [ha1] at e;omega
  ·rcases zaj.1 hb with hb1 | hb1
   ·have:=h1 a ha1;rw [hb1] at e;omega
   ·exact ih ha1 hb1
theorem am5.find {c:Cfg}{me:Int}{n:Node}{r:jQ}(S:am5 c me n r){e:Ent}(he:e∈r.aI.l):n.aI.find e.aj=some e:=by
 unfold Cache.find;cases hf:n.aI.l.find? λx=> decide (x.aj=e.aj) with
 | none=>
  have:=zbD.1 hf e (S.perm.mem_iff.2 he);simp at this
 | some x=>
  have h1:=zbX hf;have h2:=zba hf;simp only [decide_eq_true_eq] at h1;rw [WR S.sorted (S.perm.mem_iff.1 h2) he h1]
theorem P7 {α β:Type}{f:α->Int}{g:β->Int}:∀{l:List α} {l':List β},l.length=l'.length->(∀(i:Nat) a b,l[i]?=some a->l'[i]?=some b->f a=g b)->(l.map f).sum=(l'.map g).sum
 | [],[],_,_=> rfl
 | a::l,b::l',h,hf=> by
  simp only [zaz,zbS];rw [hf 0 a b rfl rfl,P7 (by simpa using h) λi a b ha hb=> hf (i+1) a b (by simpa using ha) (by simpa using hb)]
 | [],_::_,h,_=> by simp at h
 | _::_,[],h,_=> by simp at h
theorem Sim.left {m:bW}{r:kM}(S:Sim m r):r.left=m.left:=by
 unfold kM.left bW.left;refine P7 S.len λi a b ha hb=> ?_;have:=S.bn i b a hb ha;simp only [Proc.left,this.ops,this.bf]
theorem ahA {f:Fab}{i:Nat}{p:Port}(h:f.l[i]?=some p):f.port i=p:=by
 unfold Fab.port;rw [zaq,zas,h];rfl
theorem WS {f:Fab}{i:Nat}{p:Port}(h:f.l[i]?=some p):f.waiting i true=p.rin.length/\f.waiting i false=p.ain.length:=by
 have hi:=(zai.1 h).1;have:f.is i=true:=by simp only [Fab.is,zah,decide_eq_true_eq];omega
 unfold Fab.waiting;simp only [this,if_true,ahA h,Port.pz];exact⟨trivial,by simp⟩
theorem Sim.all {m:bW}{r:kM}(S:Sim m r):r.all=m.fab.all:=by
 unfold kM.all Fab.all;rw [S.fab]
theorem Sim.quiet {m:bW}{r:kM}(S:Sim m r)(hf:m.fab.l.length=m.aH.length):r.quiet=m.quiet:=by
 unfold kM.quiet bW.quiet;have hb:∀i,i < m.aH.length->r.busy i=m.busy i:=by
  intro i hi;obtain⟨n,hn⟩:∃n,m.aH[i]?=some n:=⟨_,zab hi⟩
  obtain⟨rn,hr⟩:∃n,r.aH[i]?=some n:=⟨_,zab (by rw [S.len];exact hi)⟩
  obtain⟨p,hp⟩:∃p,m.fab.l[i]?=some p:=⟨_,zab (by omega)⟩
  have hp':r.fab[i]?=some p:=by rw [S.fab,hp]
  have N:=S.bn i n rn hn hr;obtain⟨w1,w2⟩:=WS hp;simp only [kM.busy,bW.busy,hn,hr,hp',w1,w2,N.dU,N.has];cases n.bG.dU <;> cases decide (n.aF.step=0) <;> simp <;> rw [Bool.eq_iff_iff] <;> simp <;> omega
 rw [S.all,S.len];have:(List.range m.aH.length).all (λi=> !r.busy i)=(List.range m.aH.length).all λi=> !m.busy i:=by
  rw [Bool.eq_iff_iff,zaZ,zaZ];constructor
  ·intro h i hi;rw [<-hb i (za4.1 hi)];exact h i hi
  ·intro h i hi;rw [hb i (za4.1 hi)];exact h i hi
 rw [this,Bool.and_comm];rfl
theorem aan(H:ah)(aj fwd back:Int)(cO:Bool){l:List Int}(hl:l.length < 1000000000){x:AV}(hx:lF H x l):cl 181 [I aj,I fwd,I back,B cO,x] H=some (.agg (Ent.mk fwd back aj 0 cO l).av,H):=by
 refine dJ rfl rfl (alI _ _ _ _ _ _ _) ?_ (nG (MF _));have e1:=λo=> P5 (H.guard.new o) hl (hx.guard.new o);simp only [Nat.reduceAdd,Nat.reduceLeDiff,aW,xq_,hq_,afF,e1,ajg,aen,kE,gX,ael,aem,Ent.av]
theorem ao9(H:ah)(e:Ent)(w:Int):cl 161 [.agg e.av,I w] H=some (B (decide (0<=w/\w < e.data.length)),H.new (.blk 0 166 e.av)):=by
 refine bI rfl rfl (afu _ _ _ _ ?_);have e1:=λH=> (nN H e.data).lnS;by_cases h0:0<=w
 ·simp only [Nat.reduceLT,xq_,hq_,Pq,aG,Ent.av,h0,e1]
 ·simp only [Nat.reduceLT,xq_,hq_,Pq,aG,Ent.av,h0,false_and]
theorem ahB(H:ah)(e:Ent)(w:Int):cl 119 [.agg e.av,I w] H=some (I (e.word w),H):=by
 refine dJ rfl rfl (akG _ _ _ _) ?_ iZ;have e1:=λH=> ao9 H e w;by_cases h0:0<=w/\w < e.data.length
 ·have e2:=λH=> (nN H e.data).ix (k:=.i64) (i:=w) h0.1 h0.2;have e3:=λH=> (nN H e.data).ld (i:=w.toNat) (by omega);have e4:(e.data.map I)[w.toNat]?=some (I (e.word w)):=by
   unfold Ent.word;rw [if_pos h0,zaM,zab (by omega),zas,zab (by omega)];rfl
  rw [e4] at e3;have e5:e.av[5]?=some (dat e.data):=rfl;simp only [Nat.reduceLT,xq_,hq_,Zl,aG,e1,h0,e2,e3,e5,zae]
 ·have:e.word w=0:=by unfold Ent.word;rw [if_neg h0]
  rw [this];simp only [Nat.reduceLT,xq_,hq_,Zl,aG,e1,h0,zam]
section
variable {b:Nat}{H:ah}{g:bD}{q:Nat}
theorem Vk(G:Good b H g){c:Cache}(h:g q=some (dn c))(hl:c.l.length < 1000000)(hs0:1<=c.sets)(aj:Int):cl 135 [.ref q 0 0,I aj] H=some (vsl 6 Ent.av (c.oG aj),H):=by
 obtain⟨x,hx,cx⟩:=G.guard.seq h (i:=0) rfl;have hs:=cx.is (n:=c.l.length) (by decide) (dI dV c.l);have e2:=hs.lnS;let p:Ent->Bool:=λe=> decide (0<=aj) && decide (e.aj.tmod c.sets=aj.tmod c.sets)
 let F:Nat->List Ent:=λj=> (c.l.take j).filter p
 have hF:∀j,(F j).length<=j:=λj=> zax (zco _ _) (by rw [zau];omega);have key:∀k j,j+k=c.l.length->∀Hi t,Step H.next H.guard Hi->Own H.next Hi t 6 ((F j).flatMap Ent.av)->(F j=[]->t=zN)->
   ∃t' H',Eu cl [.ref q 0 0,I aj,t,x,I c.l.length,I j] Hi=some (t',H')/\Own H.next H' t' 6 ((c.oG aj).flatMap Ent.av)/\(c.oG aj=[]->t'=zN):=by
  intro k
  induction k with
  | zero=>
   intro j hj Hi t s o z;have h1:¬(j:Int) < c.l.length:=by omega
   have:F j=c.oG aj:=by
    simp only [F,Cache.oG,p];rw [zaA (by omega)]
   rw [this] at o z;refine⟨t,Hi,?_,o,z⟩;rw [UU];simp only [xq_,h1]
  | succ k ih=>
   intro j hj Hi t s o z;have h1:(j:Int) < c.l.length:=by omega
   have h6:(j:Int)+1=((j+1:Nat):Int):=by omega
   have h7:=wrap_i64 (a:=((j+1:Nat):Int)) (by omega) (by omega);obtain⟨e,he⟩:∃e,c.l[j]?=some e:=⟨_,zab (by omega)⟩
   have hsi:aN Hi x 6 c.l.length (c.l.flatMap Ent.av):=hs.qB s.next λr _ hr=> s.low r hr
   have s1:=hsi.ix (k:=.i64) (i:=(j:Int)) (by omega) h1;rw [zaq] at s1;have s2:=pV dV hsi he;have bi:Hi.base=H.next:=s.base.trans anH
   have ni:H.next<=Hi.next:=s.next
   have hbase:Hi.base<=Hi.next:=by omega
   have Gi:Good b Hi g:=G.guard.ext s.next s.low
   have l1:=(Gi.new (.blk 0 166 e.av)).load h (i:=1) (x:=I c.sets) rfl;have r0:c.sets≠0:=by omega
   have hFs:F (j+1)=F j++if p e=true then [e] else []:=by
    simp only [F,zdD,he,Option.toList_some,zb3]
    congr 1
    cases hp:p e <;> simp [hp]
   rw [UU];by_cases hc:0<=aj/\e.aj.tmod c.sets=aj.tmod c.sets
   ·have hp:p e=true:=by simp only [p,hc.1,hc.2,decide_true,zcq]
    rw [hp,if_pos rfl] at hFs;have hm:=hF j;obtain⟨t1,H2,a1,a2,a3⟩:=((o.new (.blk 0 166 e.av)).new (.blk 0 166 e.av)).step (e:=166) (by_:=64) (n:=(F j).length) (by simp only [fE];omega) (by simp only [jC];omega) (by decide) (dI dV _) (nO (ex:=true) (n:=1) (m:=6) (l:=e.av) rfl) (kU e) (by unfold most;omega) (by unfold most;omega);have a2':Own H.next H2 t1 6 ((F (j+1)).flatMap Ent.av):=by rw [hFs,zbG];simpa using a2
    obtain⟨t',H',r1,r2⟩:=ih (j+1) (by omega) H2 t1 (((s.trans (Step.new _ ni)).trans (Step.new _ (by simp only [fE];omega))).trans a3) a2' (λhz=> by rw [hFs] at hz;simp at hz);refine⟨t',H',?_,r2⟩;simp only [fE] at a1;have lf:e.av[2]?=some (I e.aj):=rfl;simp only [Nat.reduceAdd,Nat.reduceLeDiff,aW,xq_,hq_,h1,s1,s2,hbase,hc,lf,l1,BF r0,Ap,aec,zbp,kV (m:=6) (z:=[zI,zI,zI,zI,zB,zN]) (v:=.agg e.av) rfl rfl (kU e),a1,dW,h6,h7];exact r1
   ·have hp:p e=false:=by
     simp only [p];by_cases h0:0<=aj
     ·have:¬e.aj.tmod c.sets=aj.tmod c.sets:=λh=> hc ⟨h0,h⟩;simp [this]
     ·simp [h0]
    rw [hp,if_neg (by simp),za8] at hFs;obtain⟨t',H',r1,r2⟩:=ih (j+1) (by omega) (Hi.new (.blk 0 166 e.av)) t (s.trans (Step.new _ ni)) (by rw [hFs];exact o.new _) (by rw [hFs];exact z);refine⟨t',H',?_,r2⟩;have lf:e.av[2]?=some (I e.aj):=rfl;by_cases h0:0<=aj
    ·have hne:¬e.aj.tmod c.sets=aj.tmod c.sets:=λh=> hc ⟨h0,h⟩;simp only [Nat.reduceAdd,aW,xq_,hq_,h1,s1,s2,hbase,h0,hne,lf,l1,BF r0,Ap,dW,h6,h7,r1]
    ·simp only [Nat.reduceAdd,aW,xq_,hq_,h1,s1,s2,hbase,h0,Ap,dW,h6,h7,r1]
 obtain⟨t',H',r1,r2,r3⟩:=key c.l.length 0 (by omega) H.guard zN (Step.refl _ _) (.inl ⟨rfl,rfl⟩) (λ_=> rfl);refine ji rfl rfl (ak1 _ _ _ _ (r:=(t',H')) ?_) ?_
 ·simp only [xq_,aff,hx,e2];exact r1
 ·by_cases hz:c.oG aj=[]
  ·rw [r3 hz,hz,gI];exact jq
  ·rw [Em hz];refine JL r2 (by decide) (dI dV _) (λy hy=> ?_) (λe=> hz (zar e));obtain⟨a,_,ha⟩:=za0.1 hy;exact MF (d:=6) a y ha _ _
theorem P8(G:Good b H g){c:Cache}(h:g q=some (dn c))(hl:c.l.length < 1000000)(hs0:1<=c.sets)(aj:Int):cl 90 [.ref q 0 0,I aj] H=some (B (c.full aj),H):=by
 refine dJ rfl rfl (aoT _ _ _ _) ?_ iZ;have e1:=G9 G.guard h hl aj;have e2:=Vk G.guard.guard h hl hs0 aj;have e3:=(F9 dV H.guard (c.oG aj)).lnS;have e4:=G.guard.load h (i:=2) (x:=I c.ways) rfl;have hf:(c.find aj).isNone=(c.at_ aj).isNone:=by
  rw [show c.find aj=(c.at_ aj).bind λi=> c.l[i]? from(rJ c.l).symm];cases ha:c.at_ aj with
  | none=> rfl
  | some i=>
   have hi:i < c.l.length:=zbw.1 ha |>.1
   simp [zab hi]
 cases ha:c.at_ aj with
 | none=>
  rw [ha] at e1 hf;have hn:Ve (none:Option Nat)=-1:=rfl;rw [hn] at e1;simp only [Int.reduceLT,Int.reduceNeg,xq_,ahf,e1,e2,e3,e4,Cache.full,hf,zcG,zbn]
 | some i=>
  rw [ha] at e1 hf;have hn:Ve (some i)=(i:Int):=rfl;rw [hn] at e1;have h0:¬(i:Int) < 0:=by omega
  simp only [xq_,ahf,e1,h0,Cache.full,hf,Option.isNone_some,zbC]
end
theorem ac7(H:ah)(a e:Ent)(h:vT (a.used - e.used)):cl 137 [.agg a.av,.agg e.av] H=some (I (a.used - e.used),H):=by
 refine dJ rfl rfl (ak3 _ _ _ _) ?_ iZ;have w:=wrap_i64 h.1 h.2;simp only [Nat.reduceLT,xq_,hq_,afi,aG,Ent.av,jw,w]
abbrev afR(m:Ent)(l:List Ent):Ent:=l.foldl (λm x=> if x.used < m.used then x else m) m
theorem WT(H:ah)(hb:H.base<=H.next){a:Ent}{l:List Ent}(hl:l.length < 1000000)(hu:∀e∈a::l,0<=e.used/\e.used < 1000000000):
  ∃H',cl 136 [vsl 6 Ent.av (a::l),.fn (.func 137) [] []] H=some (.agg (afR a l).av,H'):=by
 obtain⟨L,hL⟩:∃L,L=a::l:=⟨_,rfl⟩
 have hs:=λH=> F9 dV H L;have hll:L.length=l.length+1:=by rw [hL];rfl
 rw [<-hL] at hu ⊢;let HH:Ent->ah:=λm=> (H.new (.blk 0 166 [zI,zI,zI,zI,zB,zN])).new (.blk 0 166 m.av)
 have key:∀k j,j+k=L.length->∀m,m∈L->
   ∃H',Ew cl [vsl 6 Ent.av L,.fn (.func 137) [] [],.ref H.next 0 0,.ref (H.next+1) 0 0,I j] (HH m)=some (.agg (afR m (L.drop j)).av,H'):=by
  intro k
  induction k with
  | zero=>
   intro j hj m hm;have h1:¬(j:Int) < L.length:=by omega
   have s0:=(hs (HH m)).lnS;have hd:L.drop j=[]:=zaQ (by omega);refine⟨(H.new (.blk 0 166 m.av)).new (.blk 0 166 m.av),?_⟩;rw [UW,hd];simp only [HH] at s0 ⊢;simp only [Nat.reduceAdd,aW,xq_,hq_,s0,h1,hb,afR,List.foldl_nil]
  | succ k ih=>
   intro j hj m hm;have h1:(j:Int) < L.length:=by omega
   have h6:(j:Int)+1=((j+1:Nat):Int):=by omega
   have h7:=wrap_i64 (a:=((j+1:Nat):Int)) (by omega) (by omega);obtain⟨e,he⟩:∃e,L[j]?=some e:=⟨_,zab (by omega)⟩
   have s0:=(hs (HH m)).lnS;have s1:=(hs (HH m)).ix (k:=.i64) (i:=(j:Int)) (by omega) h1;rw [zaq] at s1;have s2:=pV dV (hs (HH m)) he;have u1:=hu _ (zav he);have u2:=hu _ hm;have c0:yH Tryz.prog cl (.fn (.func 137) [] []) [.agg e.av,.agg m.av] (HH m)=some (I (e.used - m.used),HH m):=by
    rw [OX (by kernel_rfl)];exact ac7 _ e m ⟨by omega,by omega⟩
   have hd:L.drop j=e::L.drop (j+1):=by
    rw [zby (by omega)];rw [zab (by omega)] at he;rw [za2 he]
   rw [UW,hd];by_cases hc:e.used < m.used
   ·have hc':e.used - m.used < 0:=by omega
    obtain⟨H',r1⟩:=ih (j+1) (by omega) e (zav he);refine⟨H',?_⟩;simp only [HH] at s0 s1 s2 c0 r1 ⊢;simp only [Nat.reduceAdd,aW,xq_,hq_,s0,h1,s1,s2,c0,hc',hb,Ey,dW,h6,h7,afR,zbI,hc];exact r1
   ·have hc':¬e.used - m.used < 0:=by omega
    obtain⟨H',r1⟩:=ih (j+1) (by omega) m hm;refine⟨H',?_⟩;simp only [HH] at s0 s1 s2 c0 r1 ⊢;simp only [Nat.reduceAdd,aW,xq_,hq_,s0,h1,s1,s2,c0,hc',hb,Ey,dW,h6,h7,afR,zbI,hc];exact r1
 obtain⟨H',r1⟩:=key l.length 1 (by omega) a (by rw [hL];simp);refine⟨H',bI rfl rfl (ak2 _ _ _ _ ?_)⟩;let H1:=H.new (.blk 0 166 [zI,zI,zI,zI,zB,zN]);have s0:=(hs H1).lnS;have h1:¬(L.length:Int) < 1:=by omega
 have s1:=(hs H1).ix (k:=.i64) (i:=(0:Int)) (by omega) (by omega);have s2:=pV dV (hs H1) (i:=0) (a:=a) (by rw [hL];rfl);rw [show((0:Int).toNat)=0 from rfl] at s1;have d1:L.drop 1=l:=by rw [hL];rfl
 rw [d1] at r1;simp only [HH] at r1;simp only [H1] at s0 s1 s2;have j1:((1:Nat):Int)=1:=rfl;rw [j1] at r1;simp only [Nat.reduceAdd,aW,xq_,hq_,afh,LW,s0,h1,s1,s2,hb];exact r1
section
variable {b:Nat}{H:ah}{g:bD}{q:Nat}
theorem ahC(c:Cache)(aj:Int):∀e∈c.oG aj,e∈c.l:=λe he=> (zbl.1 he).1
theorem SN(G:Good b H g){c:Cache}(h:g q=some (dn c))(hl:c.l.length < 1000000)(hs0:1<=c.sets)(hu:∀e∈c.l,0<=e.used/\e.used < 1000000000)(aj:Int):
  cl 91 [.ref q 0 0,I aj] H=some (.tup [I ((c.nP aj).getD 0),B (c.nP aj).isSome],H):=by
 refine dJ rfl rfl (aoU _ _ _ _) ?_ (uI λx hx=> by
  simp only [zaj,zaw,or_false] at hx;rcases hx with rfl | rfl <;> exact iZ)
 have e2:=Vk G.guard h hl hs0 aj;have e3:=(F9 dV H.guard (c.oG aj)).lnS;have hlen:(c.oG aj).length<=c.l.length:=zco _ _;cases hz:c.oG aj with
 | nil=>
  rw [hz] at e2 e3;have hv:c.nP aj=none:=by simp [Cache.nP,hz,nH]
  simp only [xq_,ahg,e2,e3,hv,zan,Int.ofNat_zero,za1,zaI]
 | cons a l=>
  rw [hz] at e2 e3 hlen;have hv:c.nP aj=some (afR a l).aj:=by simp [Cache.nP,hz,nH]
  obtain⟨H',e4⟩:=WT H.guard (zac _) (a:=a) (l:=l) (by simp only [zal] at hlen;omega) (λe he=> hu e (ahC c aj e (by rw [hz];exact he)));have h1:¬((a::l).length:Int)=0:=by simp only [zal];omega
  have lf:(afR a l).av[2]?=some (I (afR a l).aj):=rfl;simp only [xq_,ahg,e2,e3,h1,e4,hv,lf,zat,zaJ]
end
theorem JM {α:Type}{enc:α->List AV}{m:Nat}(he:∀a,(enc a).length=m){a':α}{o:Nat}{vs:List AV}(ho:o+vs.length<=m):∀(l:List α) (i:Nat) (a:α),l[i]?=some a->aW (enc a) o vs=enc a'->aW (l.flatMap enc) (i*m+o) vs=(l.set i a').flatMap enc
 | [],i,a,h,_=> by simp at h
 | x::l,0,a,h,hv=> by
  simp only [zaR,zaa] at h;subst h;have hl:=he x;rw [zbQ,zaE,zaE,<-hv];unfold aW;rw [zbo,zaW,zbM (by omega),List.drop_append_of_le_length (by omega)];simp only [za5]
 | x::l,i+1,a,h,hv=> by
  have hl:=he x;have ih:=JM he ho l i a (by simpa using h) hv;rw [zb4,zaE,zaE,<-ih];unfold aW;have e1:(i+1)*m+o=(enc x).length+(i*m+o):=by rw [hl,zbt,zbp];omega
  have e2:(i+1)*m+o+vs.length=(enc x).length+(i*m+o+vs.length):=by rw [hl,zbt,zbp];omega
  rw [e2,e1,List.take_length_add_append,List.drop_length_add_append,za5]
section
variable {b:Nat}{H:ah}{g:bD}{q:Nat}
theorem P9(G:Good b H g)(hb:H.base<=b){c:Cache}(h:g q=some (dn c)){x:AV}(cx:Cur b H q 0 x 6 (c.l.flatMap Ent.av)){i:Nat}{e e':Ent}(hi:c.l[i]?=some e):
  ∃r gg off,eP x i=.ref r gg off/\∀(w o:Nat) (v:AV),v.cells.length=w->v.cells.all AV.aQ=true->o+w<=6->aW e.av o v.cells=e'.av->
   ∃H',st w (.ref r gg (off+o)) v H=some (aZ,H')/\Good b H' (upd g q (dn { c with l:=c.l.set i e' }))/\Step b H H'/\H'.next=H.next:=by
 obtain⟨r,gg,off,e1,e2⟩:=G.elem hb h (i:=0) rfl (by decide) (dI dV c.l) cx (j:=i) (zai.1 hi).1;refine⟨r,gg,off,e1,λw o v h1 h2 h3 h4=> ?_⟩;obtain⟨H',s1,s2,s3⟩:=e2 w o v h1 h2 h3;refine⟨H',s1,?_,s3⟩;have:=JM dV (o:=o) (vs:=v.cells) (by omega) c.l i e hi h4;rw [this] at s2;exact s2
theorem WU(G:Good b H g)(hb:H.base<=b){c:Cache}(h:g q=some (dn c))(hl:c.l.length < 1000000)(hk:0<=c.bZ/\c.bZ < 1000000000)(aj:Int):
  ∃H',cl 89 [.ref q 0 0,I aj] H=some (B (c.at_ aj).isSome,H')/\Good b H' (upd g q (dn (c.touch aj)))/\Step b H H':=by
 refine jY rfl rfl (aoR _ _ _ _) ?_;have e1:=G9 G h hl aj;cases ha:c.at_ aj with
 | none=>
  rw [ha] at e1;have hn:Ve (none:Option Nat)=-1:=rfl;rw [hn] at e1;refine⟨H,?_,by rw [show c.touch aj=c by simp [Cache.touch,ha],fJ h];exact G,Step.refl _ _⟩;simp only [Int.reduceLT,Int.reduceNeg,xq_,ahe,e1,zaI]
 | some i=>
  rw [ha] at e1;have hn:Ve (some i)=(i:Int):=rfl;rw [hn] at e1;have h0:¬(i:Int) < 0:=by omega
  have hi:i < c.l.length:=zbw.1 ha |>.1
  obtain⟨e,he⟩:∃e,c.l[i]?=some e:=⟨_,zab hi⟩
  have l1:=G.load h (i:=3) (x:=I c.bZ) rfl;have w1:=wrap_i64 (a:=c.bZ+1) (by omega) (by omega);obtain⟨H1,s1,G1,s3,s4⟩:=G.store hb h (i:=3) (v:=I (c.bZ+1)) (by simp [dn]) dO;have h1:upd g q ((dn c).set 3 (.av (I (c.bZ+1)))) q=some (dn { c with bZ:=c.bZ+1 }):=aV;have l2:=G1.load h1 (i:=3) (x:=I (c.bZ+1)) rfl;obtain⟨x,hx,cx⟩:=G1.seq h1 (i:=0) rfl;have hs:=cx.is (n:=c.l.length) (by decide) (dI dV c.l);have e3:=hs.ix (k:=.i64) (i:=(i:Int)) (by omega) (by omega);rw [zaq] at e3;obtain⟨r,gg,off,p1,p2⟩:=P9 G1 (by rw [s3.base];exact hb) h1 cx (e':={ e with used:=c.bZ+1 }) he;obtain⟨H2,t1,t2,t3,t4⟩:=p2 1 3 (I (c.bZ+1)) rfl rfl (by decide) rfl;rw [p1] at e3;refine⟨H2,?_,?_,s3.trans t3⟩
  ·simp only [xq_,ahe,e1,h0,l1,dW,w1,s1,hx,l2,e3,t1,zaJ]
  ·rw [oq] at t2;have:c.touch aj={ c with l:=c.l.set i { e with used:=c.bZ+1 },bZ:=c.bZ+1 }:=by
    simp only [Cache.touch,ha];rw [zas,he];rfl
   rw [this];exact t2
theorem ahD {i n:Nat}{x:AV}{l:List AV}(c:Cur b H q i x 6 l)(hb:H.base<=b)(hl:l.length=n*6)(hn:n < 1000000000){j:Nat}(hj:j < n):
  ∃x' H',cl 190 [x,I j,I (j+1)] H=some (x',H')/\Fit H H' x x' 6 (l.take (j*6)++l.drop ((j+1)*6))/\H'.next=H.next/\H'.base=H.base/\∀r,iM x≠some r->H'.get r=H.get r:=by
 obtain⟨y,x1,x2,x3,H1,x4,H2,e1,e2,e3,e4,e5,e6,e7,f,n1,b1,k1⟩:=UE c hb (by decide) hl hn hj (z:=[zI,zI,zI,zI,zB,zN]) rfl rfl (e:=166) (by_:=64) (by decide);have e0:=(c.is (by decide) hl).lnS;have hne:((j:Int)=j+1)=False:=eq_false (by omega);refine⟨x3,H2,bI rfl rfl (alP _ _ _ _ _ ?_),f,n1,b1,k1⟩;simp only [xq_,afI,e0,e1,e2,e3,e4,e5,e6,e7,hne]
theorem aao(G:Good b H g)(hb:H.base<=b){c:Cache}(h:g q=some (dn c))(hl:c.l.length < 1000000){j:Nat}(hj:j < c.l.length):
  ∃x x' H1 H2,ld (.ref q 0 0) H=some (x,H)/\cl 190 [x,I j,I (j+1)] H=some (x',H1)/\st 1 (.ref q 0 0) x' H1=some (aZ,H2)/\Good b H2 (upd g q (dn { c with l:=c.l.eraseIdx j }))/\Step b H H2:=by
 obtain⟨x,hx,cx⟩:=G.seq h (i:=0) rfl;obtain⟨x',H1,d1,d2,d3,d4,d5⟩:=ahD cx hb (dI dV c.l) (by omega) hj;rw [JG dV] at d2;obtain⟨H2,s1,s2,s3,s4⟩:=G.seat h (i:=0) rfl cx (by omega) (by omega) (λr _ hr=> d5 r hr) d2;exact⟨x,x',H1,H2,hx,d1,s1,s2,Step.trans ⟨d4,by omega,λr hr=> d5 r (cx.low hr)⟩ s3⟩
theorem Hl(G:Good b H g)(hb:H.base<=b){c:Cache}(h:g q=some (dn c))(hl:c.l.length < 1000000)(hd:∀e∈c.l,e.data.length < 1000000000)(aj:Int):
  ∃H',cl 174 [.ref q 0 0,I aj] H=some (oV (c.find aj),H')/\Good b H' (upd g q (dn (c.drop aj)))/\Step b H H':=by
 have hq:=G.lt h;have G1:=G.newObj (ty:=166) (xs:=[zI,zI,zI,zI,zB,zN]) rfl;have h1:upd g H.next ([zI,zI,zI,zI,zB,zN].map .av) q=some (dn c):=by rw [bH (by omega)];exact h
 have e1:=qK G1 h1 hl hd aj;have hb0:H.base<=H.next:=zax hb G.1
 refine jY rfl rfl (alC _ _ _ _) ?_;have hf:c.find aj=(c.at_ aj).bind λi=> c.l[i]?:=(rJ c.l).symm;cases ha:c.at_ aj with
 | none=>
  rw [ha] at hf;have hf:c.find aj=none:=hf;rw [hf] at e1;simp only [oV,za1,zaI,uP] at e1;have hdr:c.drop aj=c:=by simp [Cache.drop,ha]
  simp only [Nat.reduceAdd,aW,xq_,hq_,zaa,zad,exists_eq_left',Zy,e1,EG,oV,hf,za1,zaI,uP,hb0];rw [hdr,fJ h];exact⟨(G.new _).new _,(Step.new _ G.1).trans (Step.new _ (G.new _).1)⟩
 | some i=>
  have hi:i < c.l.length:=zbw.1 ha |>.1
  obtain⟨e,he⟩:∃e,c.l[i]?=some e:=⟨_,zab hi⟩
  rw [ha] at hf;have hf:c.find aj=some e:=by rw [hf];exact he
  rw [hf] at e1;simp only [oV,zat,zaJ] at e1;have G2:=G1.newObj (ty:=166) (xs:=e.av) (kU _);have h2:upd (upd g H.next ([zI,zI,zI,zI,zB,zN].map .av)) (H.next+1) (e.av.map .av) q=some (dn c):=by rw [bH (by omega)];exact h1
  have e2:=G9 G2 h2 hl aj;have hn:Ve (some i)=(i:Int):=rfl;rw [ha,hn] at e2;obtain⟨x,x',K1,K2,s1,s2,s3,s4,s5⟩:=aao G2 (by rw [jC,jC];omega) h2 hl hi;have G3:Good b K2 _:=s4;let gz:=upd (upd (upd g H.next ([zI,zI,zI,zI,zB,zN].map .av)) (H.next+1) (e.av.map .av)) q (dn { c with l:=c.l.eraseIdx i });have q2:gz (H.next+1)=some (e.av.map .av):=by simp only [gz];rw [bH (by omega),aV]
  have q1:gz H.next=some ([zI,zI,zI,zI,zB,zN].map .av):=by simp only [gz];rw [bH (by omega),bH (by omega),aV]
  have l2:=G3.loads q2 (i:=0) (n:=6) (xs:=e.av) rfl rfl (by decide);obtain⟨K3,t1,t2,t3,t4⟩:=G3.stores (by rw [s5.base,jC,jC];exact hb) q1 (i:=0) (n:=6) (vs:=e.av) (by decide) rfl (kU _);have l3:=t2.loads aV (i:=0) (n:=6) (xs:=e.av) rfl rfl (by decide);have w1:=wrap_i64 (a:=(i:Int)+1) (by omega) (by omega);have hdr:c.drop aj={ c with l:=c.l.eraseIdx i }:=by simp [Cache.drop,ha]
  simp only [Nat.reduceAdd,aW,xq_,hq_,zaa,zad,exists_eq_left',Zy,e1,EG,oV,hf,zat,zaJ,hb0,e2,dW,w1,s1,s2,s3,l2,t1,l3,hdr];have n1:g H.next=none:=G.isNone (zac _)
  have n2:g (H.next+1)=none:=G.isNone (by omega);exact⟨t2.sub (((((ru.refl g).more n1 _).more n2 _).both q _).more (zQ n1 (by omega)) _),(((Step.new _ G.1).trans (Step.new _ (G.new _).1)).trans s5).trans t3⟩
end
section
variable {b:Nat}{H:ah}{g:bD}{q:Nat}
theorem Vl(G:Good b H g)(hb:H.base<=b){c:Cache}(h:g q=some (dn c))(hl:c.l.length < 1000000)(hs0:1<=c.sets)(hk:0<=c.bZ/\c.bZ < 1000000000)(e:Ent){x:AV}(hel:e.data.length < 1000000000)(hx:lF H x e.data):
  ∃H',cl 121 [.ref q 0 0,.agg (e.avx x)] H=some (I (c.put e).2,H')/\Good b H' (upd g q (dn (c.put e).1))/\Step b H H':=by
 have hq:=G.lt h;have hb0:H.base<=H.next:=zax hb G.1
 have ax:=ac3 (p:=e) hx.one;have e0:=Vj (H.new (.blk 0 166 (e.avx x))) e hel (hx.new _);have ll:(e.avx x).length=6:=rfl;have lt:(e.avx x).take 6=e.avx x:=rfl;have l6:(e.avx x).drop 6=[]:=rfl;let H1:=H.new (.blk 0 166 e.av);have G1:Good b H1 g:=G.new _;have lf:e.av[2]?=some (I e.aj):=rfl;refine jY rfl rfl (akI _ _ _ _) ?_;by_cases hneg:e.aj < 0
 ·have hp:c.put e=(c,1):=by simp only [Cache.put];rw [if_pos hneg]
  rw [hp];refine⟨H1,?_,by rw [fJ h];exact G1,Step.new _ G.1⟩;simp only [Nat.reduceLT,aW,xq_,hq_,Pn,aG ax,ll,lt,l6,e0,hb0,lf,hneg];rfl
 ·have e1:=G9 G1 h hl e.aj;cases ha:c.at_ e.aj with
  | some i=>
   rw [ha] at e1;have hn:Ve (some i)=(i:Int):=rfl;rw [hn] at e1;have h0:(0:Int)<=i:=by omega
   have hi:i < c.l.length:=zbw.1 ha |>.1
   obtain⟨o,ho⟩:∃o,c.l[i]?=some o:=⟨_,zab hi⟩
   obtain⟨y,hy0,cy⟩:=G.seq h (i:=0) rfl;have c1:=cy.new (.blk 0 166 e.av);have y1:=c1.load;have hs:=c1.is (n:=c.l.length) (by decide) (dI dV c.l);have e3:=hs.ix (k:=.i64) (i:=(i:Int)) (by omega) (by omega);rw [zaq] at e3;have e4:=hs.ajo (i:=i) (o:=3) hi (by decide);rw [aad dV c.l i o ho (by decide)] at e4;let e':Ent:={ e with used:=o.used }
   let H2:=H.new (.blk 0 166 e'.av);have G2:Good b H2 g:=G.new _;have c2:=cy.new (.blk 0 166 e'.av);have y2:=c2.load;have hs2:=c2.is (n:=c.l.length) (by decide) (dI dV c.l);have e5:=hs2.ix (k:=.i64) (i:=(i:Int)) (by omega) (by omega);rw [zaq] at e5;obtain⟨r,gg,off,p1,p2⟩:=P9 G2 hb h c2 (e':=e') ho;obtain⟨H3,t1,t2,t3,t4⟩:=p2 6 0 (.agg e'.av) rfl (kU e') (by decide) (by simp only [fZ];rfl);rw [p1] at e3 e4 e5;rw [qZ] at e4;have ou:o.av[3]?=some (I o.used):=rfl;simp only [za6,ou,zak] at e4;rw [zbN] at t1;have hp:c.put e=({ c with l:=c.l.set i e' },0):=by
    simp only [Cache.put];rw [if_neg hneg,ha];simp only [e',zas,ho,zat]
   rw [hp];refine⟨H3,?_,t2,(Step.new _ G.1).trans t3⟩;simp only [H1,Ent.av] at e1 y1 e3 e4;simp only [H2,e',Ent.av] at y2 e5 t1;simp only [Nat.reduceLT,Nat.reduceAdd,aW,xq_,hq_,Pn,aG ax,ll,lt,l6,e0,hb0,hneg,e1,h0,y1,e3,e4,Ent.av,y2,e5,t1]
  | none=>
   rw [ha] at e1;have hn:Ve (none:Option Nat)=-1:=rfl;rw [hn] at e1;have e2:=P8 G1 h hl hs0 e.aj;simp only [H1] at e1 e2;cases hf:c.full e.aj with
   | true=>
    have hp:c.put e=(c,5):=by simp only [Cache.put];rw [if_neg hneg,ha];simp only [hf,if_true]
    rw [hp];rw [hf] at e2;refine⟨H1,?_,by rw [fJ h];exact G1,Step.new _ G.1⟩;simp only [Nat.reduceLT,Int.reduceLE,Int.reduceNeg,aW,xq_,hq_,Pn,aG ax,ll,lt,l6,e0,hb0,lf,hneg,e1,e2];rfl
   | false=>
    rw [hf] at e2;let e':Ent:={ e with used:=c.bZ+1 }
    have hp:c.put e=({ c with l:=c.l++[e'],bZ:=c.bZ+1 },0):=by simp only [Cache.put];rw [if_neg hneg,ha];simp only [hf,zaf,if_false];rfl
    rw [hp];have F1:=G.newObj (ty:=166) (xs:=e.av) (kU e);have f1:upd g H.next (e.av.map .av) q=some (dn c):=by rw [bH (by omega)];exact h
    have l1:=F1.load f1 (i:=3) (x:=I c.bZ) rfl;have w1:=wrap_i64 (a:=c.bZ+1) (by omega) (by omega);obtain⟨H2,s1,F2,s3,s4⟩:=F1.store hb f1 (i:=3) (v:=I (c.bZ+1)) (by simp [dn]) dO;have f2:upd (upd g H.next (e.av.map .av)) q ((dn c).set 3 (.av (I (c.bZ+1)))) q=some (dn { c with bZ:=c.bZ+1 }):=aV;have l2:=F2.load f2 (i:=3) (x:=I (c.bZ+1)) rfl;have f3:upd (upd g H.next (e.av.map .av)) q ((dn c).set 3 (.av (I (c.bZ+1)))) H.next=some (e.av.map .av):=by rw [bH (by omega),aV]
    obtain⟨H3,t1,F3,t3,t4⟩:=F2.store (by rw [s3.base];exact hb) f3 (i:=3) (v:=I (c.bZ+1)) (by simp [Ent.av]) dO;have f4:upd (upd (upd g H.next (e.av.map .av)) q ((dn c).set 3 (.av (I (c.bZ+1))))) H.next ((e.av.map .av).set 3 (.av (I (c.bZ+1)))) q=some (dn { c with bZ:=c.bZ+1 }):=by rw [bH (by omega)];exact f2
    have l4:=F3.loads aV (i:=0) (n:=6) (xs:=e'.av) rfl rfl (by decide);obtain⟨y,hy,cy⟩:=F3.seq f4 (i:=0) rfl;obtain⟨x',K1,K2,a1,a2,a3,a4⟩:=(F3.new (.blk 0 166 e'.av)).append (e:=166) (by_:=64) (n:=c.l.length) (by rw [jC,t3.base,s3.base];exact hb) f4 (i:=0) rfl (by decide) (dI dV c.l) (cy.new _) (nO (ex:=true) (n:=1) (m:=6) (l:=e'.av) rfl) (kU e') (by unfold most;omega) (by unfold most;omega);refine⟨K2,?_,?_,(((Step.new _ G.1).trans s3).trans t3).trans ((Step.new _ F3.1).trans a4)⟩
    ·simp only [Nat.reduceLT,Int.reduceLE,Int.reduceNeg,Nat.reduceLeDiff,aW,xq_,hq_,Pn,aG ax,ll,lt,l6,e0,hb0,lf,hneg,e1,e2,l1,dW,w1,s1,l2,t1,hy,l4,aec,zbp,kV (m:=6) (z:=[zI,zI,zI,zI,zB,zN]) (v:=.agg e'.av) rfl rfl (kU e'),a1,a2]
    ·refine a3.sub λq' cs hq'=> ?_;have n1:g H.next=none:=G.isNone (zac _)
     unfold upd at hq' ⊢;by_cases e3:q'=q
     ·rw [if_pos e3] at hq' ⊢;cases hq';simp [dn]
     ·rw [if_neg e3] at hq' ⊢;have:q'≠H.next:=λe4=> by rw [e4,n1] at hq';cases hq'
      rw [if_neg this,if_neg e3,if_neg this];exact hq'
end
theorem Qa:∀(es:List (Int × AV)) (n:Int) (v:AV),Kt es n v=lK es n v
 | [],_,_=> rfl
 | (k,w)::es,n,v=> by
  simp only [Kt,lK];split
  ·rfl
  ·rw [Qa es n v]
theorem MI {α:Type}:∀{es:List (Int × α)} {n:Int} {v:α} {j:Nat} {n':Int} {w:α},(es.map (·.1)).Nodup->(lK es n v)[j]?=some (n',w)->(n'=n/\w=v)∨(n'≠n/\es[j]?=some (n',w))
 | [],n,v,j,n',w,_,h=> by
  simp only [lK] at h;cases j with
  | zero=> simp only [zaR,zaa,zad] at h;exact .inl ⟨h.1.symm,h.2.symm⟩
  | succ j=> simp at h
 | (k0,v0)::es,n,v,j,n',w,hn,h=> by
  simp only [zaz,zaU] at hn;simp only [lK] at h;split at h
  ·rename_i e;cases j with
   | zero=> simp only [zaR,zaa,zad] at h;exact .inl ⟨h.1.symm,h.2.symm⟩
   | succ j=>
    simp only [zbg] at h;refine .inr ⟨λe'=> hn.1 ?_,by simpa using h⟩;rw [e,<-e'];exact zaG.2 ⟨_,zav h,rfl⟩
  ·rename_i e;cases j with
   | zero=>
    simp only [zaR,zaa,zad] at h;refine .inr ⟨λe'=> e (by rw [h.1,e']),by simp [h.1,h.2]⟩
   | succ j=>
    simp only [zbg] at h;rcases MI hn.2 h with h' | ⟨h1,h2⟩
    ·exact .inl h'
    ·exact .inr ⟨h1,by simpa using h2⟩
theorem JO {α β:Type}:∀{es:List (Int × α)} {az:List (Int × β)} {n:Int} {v:α} {w:β},az.map (·.1)=es.map (·.1)->(lK az n w).map (·.1)=(lK es n v).map (·.1)
 | [],[],_,_,_,_=> rfl
 | [],_::_,_,_,_,h=> by simp at h
 | _::_,[],_,_,_,h=> by simp at h
 | (k,v0)::es,(k',w0)::az,n,v,w,h=> by
  simp only [zaz,zbJ] at h;obtain⟨rfl,h⟩:=h;simp only [lK];split
  ·simp [h]
  ·simp only [zaz,zbJ,true_and];exact JO h
section
variable {b:Nat}{H:ah}{g:bD}{q:Nat}{cs:List Cell}
theorem Good.MJ(G:Good b H g)(h:g q=some cs){i m:Nat}{k:IntKind}{es:List (Int × List AV)}(hi:cs[i]?=some (.maps k m es))(hnd:(es.map (·.1)).Nodup)(n:Int):
  ∃r x,ld (.ref q 0 i) H=some (.mp r,H)/\lk k (.slice none 0 0) (.mp r) (.s (.int k n)) false H=some (x,H)/\Own b H x m ((jh es n).getD [])/\iM x≠some q/\q < H.next/\(∀r',iM x=some r'->b<=r')/\
   ∀H1 x' l',H.next<=H1.next->H1.base<=b->(∀r',r' < H.next->iM x≠some r'->H1.get r'=H.get r')->Fit H H1 x x' m l'->
    ∃H',mup k (.mp r) (.s (.int k n)) x' H1=some (aZ,H')/\Good b H' (upd g q (cs.set i (.maps k m (lK es n l'))))/\Step b H1 H'/\H'.next=H1.next:=by
 obtain⟨h0,τ,hR⟩:=G;have R:=hR q cs h;obtain⟨ty,xs,h1,h2,h3,h4⟩:=R.blk;have hqn:=R.hi;have hlt:i < xs.length:=by rw [h2];exact(zai.1 hi).1
 have hx:xs[i]?=some (xs[i]'hlt):=zab hlt;have:=h4 i _ _ hi hx;simp only [CR] at this;obtain⟨aes,⟨r,e,t1,t2,t3,t4⟩,a2,a3⟩:=this;rw [e] at hx;have hrq:q≠r:=by intro e;subst e;rw [R.tag] at t1;cases t1
 obtain⟨x,x1,x2⟩:∃x,OS b H τ (q,i+1,1,n) x m ((jh es n).getD [])/\lk k (.slice none 0 0) (.mp r) (.s (.int k n)) false H=some (x,H):=by
  cases hn:jh es n with
  | none=>
   have hf:qm aes n=none:=by rw [tu];exact(PZ a2).1 hn
   refine⟨zN,.inl ⟨rfl,rfl⟩,?_⟩;simp only [lk,ku,bQ,zak,lkO,t4,and_self,if_true,hf];rfl
  | some l=>
   obtain⟨j,w,b1,b2,b3⟩:=G8 a2 hn;refine⟨w,a3 j n l w b2 b3,?_⟩;simp only [lk,ku,bQ,zak,lkO,t4,and_self,if_true,tu,b1];rfl
 have htag:∀r',iM x=some r'->τ r'=some (q,i+1,1,n)/\b<=r':=by
  intro r' hr;rcases x1 with⟨rfl,_⟩ | ⟨r0,gg,off,n',cap,ex,ty',all,rfl,k1,k2,_⟩
  ·cases hr
  ·simp only [iM,zaa] at hr;subst hr;exact⟨k1,k2⟩
 have hxq:iM x≠some q:=λe=> by have:=(htag q e).1;rw [R.tag] at this;cases this
 have hxr:iM x≠some r:=λe=> by have:=(htag r e).1;rw [t1] at this;simp at this
 refine⟨r,x,by rw [gu h1,hx];rfl,x2,x1.own,hxq,hqn,λr' hr=> (htag r' hr).2,λH1 x' l' hn hb hk hf=> ?_⟩;have hg1:H1.get r=.map k aes:=by rw [hk r t3 hxr,t4]
 refine⟨H1.put r (.map k (Kt aes n x')),?_,?_,Step.put _ t2,rfl⟩
 ·simp only [mup,hg1];rw [if_pos ⟨trivial,trivial,by omega⟩]
 ·refine xk (τ':=λr'=> if H.next<=r' then some (q,i+1,1,n) else τ r') h0 hR (show H.next<=H1.next from hn) (λr' hr ht=> ⟨by rw [if_neg (by omega)],?_⟩)
   ⟨by rw [if_neg (by omega)];exact R.tag,R.lo,show q < H1.next by omega,wC (xs:=xs) (by rw [dR,if_neg hrq,hk q hqn hxq];exact h1) (R.tyl _ _ _ h1),ty,xs,by rw [dR,if_neg hrq,hk q hqn hxq];exact h1,by simp [h2],h3,λj cc y hc hy=> ?_⟩
  ·rw [dR,if_neg (by intro e;subst e;exact ht _ _ _ t1)];exact hk r' hr λe=> ht _ _ _ (htag r' e).1
  ·rcases ny hc with⟨rfl,rfl⟩ | ⟨hj,hc⟩
   ·rw [hx] at hy;cases hy;refine⟨lK aes n x',⟨r,rfl,by simp only;rw [if_neg (by omega)];exact t1,t2,show r < H1.next by omega,by rw [dR,if_pos rfl,Qa]⟩,JO a2,λj' n' cells y' h5 h6=> ?_⟩;rcases MI hnd h5 with⟨rfl,rfl⟩ | ⟨hne,h5⟩
    ·rcases MI (by rw [a2];exact hnd) h6 with⟨_,rfl⟩ | ⟨hne,_⟩
     ·rcases hf with hf | ⟨r0,gg,off,n'',cap,ex,ty',all,rfl,k1,k2,k3,k4,k5⟩
      ·exact .inl hf
      ·have hr0:r0≠r:=by
        rcases k1 with k1 | k1
        ·intro e;subst e;exact hxr k1
        ·omega
       refine .inr ⟨r0,gg,off,n'',cap,ex,ty',all,rfl,?_,?_,k2,k3,by rw [dR,if_neg hr0];exact k4,k5⟩
       ·show(if H.next<=r0 then some (q,j+1,1,n') else τ r0)=some (q,j+1,1,n');split
        ·rfl
        ·rcases k1 with k1 | k1
         ·exact(htag r0 k1).1
         ·omega
       ·rcases k1 with k1 | k1
        ·exact(htag r0 k1).2
        ·omega
     ·exact absurd rfl hne
    ·rcases MI (by rw [a2];exact hnd) h6 with⟨h7,_⟩ | ⟨_,h6⟩
     ·exact absurd h7 hne
     ·refine(a3 j' n' cells y' h5 h6).keep (show H.next<=H1.next from hn) λr' hr ht=> ⟨by rw [if_neg (by omega)];exact ht,?_⟩
      rw [dR,if_neg (by intro e;subst e;rw [t1] at ht;simp at ht)];refine hk r' hr λe=> ?_;have:=(htag r' e).1;rw [this] at ht;simp only [zaa,zad,true_and] at ht;exact hne ht.symm
   ·refine(h4 j cc y hc hy).keep (show H.next<=H1.next from hn) λr' s t hr ht=> ⟨by rw [if_neg (by omega)];exact ht,?_⟩
    rw [dR,if_neg (by intro e;subst e;rw [t1] at ht;simp only [zaa,zad,zb6] at ht;exact hj ht.2.1.symm)];refine hk r' hr λe=> ?_;have:=(htag r' e).1;rw [this] at ht;simp only [zaa,zad,zb6] at ht;exact hj ht.2.1.symm
theorem Good.ahE(G:Good b H g)(h:g q=some cs){i m:Nat}{k:IntKind}{es:List (Int × List AV)}(hi:cs[i]?=some (.maps k m es)):
  ∃r aes,ld (.ref q 0 i) H=some (.mp r,H)/\r < H.next/\H.get r=.map k aes/\aes.map (·.1)=es.map (·.1):=by
 obtain⟨h0,τ,hR⟩:=G;have R:=hR q cs h;obtain⟨ty,xs,h1,h2,h3,h4⟩:=R.blk;have hlt:i < xs.length:=by rw [h2];exact(zai.1 hi).1
 have hx:xs[i]?=some (xs[i]'hlt):=zab hlt;have:=h4 i _ _ hi hx;simp only [CR] at this;obtain⟨aes,⟨r,e,t1,t2,t3,t4⟩,a2,a3⟩:=this;rw [e] at hx;exact⟨r,aes,by rw [gu h1,hx];rfl,t3,t4,a2⟩
end
abbrev CO(t:Turns):List (Int × List AV):=t.wait.map λe=> (e.1,e.2.flatMap IC)
theorem CQ(t:Turns):(CO t).map (·.1)=t.wait.map (·.1):=by simp [CO]
theorem Ho(t:Turns)(aj:Int):(jh (CO t) aj).getD []=(t.ws aj).flatMap IC:=by
 rw [CO,MG (λl:List (Int × Int)=> l.flatMap IC)];unfold Turns.ws;cases jh t.wait aj <;> rfl
theorem Qb(w:List (Int × List (Int × Int)))(aj:Int)(l:List (Int × Int)):lK (w.map λe=> (e.1,e.2.flatMap IC)) aj (l.flatMap IC)=(lK w aj l).map λe=> (e.1,e.2.flatMap IC):=by
 induction w with
 | nil=> rfl
 | cons e w ih=>
  obtain⟨k,v⟩:=e;simp only [zaz,lK];split
  ·rfl
  ·rw [ih];rfl
section
variable {b:Nat}{H:ah}{g:bD}{q:Nat}
theorem ac8(G:Good b H g)(hb:H.base<=b){t:Turns}(h:g q=some (iP t))(hw:(t.wait.map (·.1)).Nodup)(aj who id:Int)(hl:(t.ws aj).length < 1000000):
  ∃H',cl 169 [.ref q 0 0,I aj,I who,I id] H=some (B (t.ask aj who id).2,H')/\Good b H' (upd g q (iP (t.ask aj who id).1))/\Step b H H':=by
 refine jY rfl rfl (alv _ _ _ _ _ _) ?_;have e1:=xK G h aj;have e2:=wQ G h aj;by_cases hneg:who < 0
 ·have hp:t.ask aj who id=(t,false):=by simp only [Turns.ask];rw [if_pos hneg]
  rw [hp];refine⟨H,?_,by rw [fJ h];exact G,Step.refl _ _⟩;simp only [xq_,Px,hneg]
 ·by_cases hc:(t.owned aj || !(t.ws aj).isEmpty)=true
  ·have hp:t.ask aj who id=({ t with wait:=lK t.wait aj (t.ws aj++[(who,id)]) },false):=by simp only [Turns.ask];rw [if_neg hneg,if_pos hc]
   rw [hp];obtain⟨r,x,f1,f2,f3,f4,f5,f6,f7⟩:=G.MJ h (i:=1) rfl (by rw [show t.wait.map (λe=> (e.1,e.2.flatMap λw=> [I w.1,I w.2]))=CO t from rfl,CQ];exact hw) aj;rw [show t.wait.map (λe=> (e.1,e.2.flatMap λw=> [I w.1,I w.2]))=CO t from rfl,Ho] at f3;let o:fV:=.blk 0 258 [I who,I id];obtain⟨x',H1,a1,a2,a3,a4,a5⟩:=(f3.new o).app (e:=258) (by_:=16) (n:=(t.ws aj).length) (by rw [jC];exact hb) (by decide) (dI (enc:=IC) (λ_=> rfl) _) (nO (ex:=true) (n:=1) (m:=2) (l:=[I who,I id]) rfl) rfl (by unfold most;omega) (by unfold most;omega);have a2':Fit H H1 x x' 2 ((t.ws aj++[(who,id)]).flatMap IC):=by
    rw [zbG];rcases a2 with a2 | ⟨r0,gg,off,n',cap,ex,ty,all,k0,k1,k2⟩
    ·exact .inl a2
    ·exact .inr ⟨r0,gg,off,n',cap,ex,ty,all,k0,k1.imp (λh=> h) λh=> zax (za3 _) h,k2⟩
   have a5':∀r',r' < H.next->iM x≠some r'->H1.get r'=H.get r':=λr' hr hne=> by rw [a5 r' (zay hr (za3 _)) hne,eG hr]
   obtain⟨H',m1,m2,m3,m4⟩:=f7 H1 x' _ (zax (za3 _) a3) (by rw [a4,jC];exact hb) a5' a2';have hgq:H1.get q=(H.new o).get q:=by rw [a5' q f5 f4,eG f5]
   refine⟨H',?_,?_,Step.trans ⟨by rw [a4,jC],zax (za3 _) a3,λr' hr=> a5' r' (zay hr G.1) λe=> by have:=f6 r' e;omega⟩ m3⟩
   ·have ck1:∀{β:Type} (k:Option β),ck (bQ (.ref q 0 1)) (H.new o) H1 k=k:=λk=> acZ λr' hr=> by
     simp only [bQ,zaa] at hr;subst hr;exact hgq
    have ed:bd 258 [(0,I who),(1,I id)]=some (.agg [I who,I id]):=by
     simp only [xq_,ajk,kE,gX,aeu];rfl
    have eb:=kV (e:=258) (m:=2) (z:=[zI,zI]) (v:=.agg [I who,I id]) (H:=H) rfl rfl rfl;simp only [fZ] at eb;simp only [o] at a1 ck1;cases ho:t.owned aj with
    | true=>
     rw [ho] at e1;simp only [xq_,Px,hneg,e1,f1,f2,ed,aed,zbp,Nat.reduceLeDiff,eb,a1,m1,ck1]
    | false=>
     rw [ho] at e1 hc;have hgt:(0:Int) < (t.ws aj).length:=by
      cases hz:t.ws aj with
      | nil=> rw [hz] at hc;simp at hc
      | cons a l=> simp only [zal];omega
     simp only [xq_,Px,hneg,e1,e2,hgt,f1,f2,ed,aed,zbp,Nat.reduceLeDiff,eb,a1,m1,ck1]
   ·have:iP { t with wait:=lK t.wait aj (t.ws aj++[(who,id)]) }=(iP t).set 1 (.maps .i64 2 (lK (CO t) aj ((t.ws aj++[(who,id)]).flatMap IC))):=by
     rw [Qb];rfl
    rw [this];exact m2
  ·have hp:t.ask aj who id=({ t with fU:=lK t.fU aj who },true):=by simp only [Turns.ask];rw [if_neg hneg,if_neg hc]
   rw [hp];have ho:t.owned aj=false:=by cases h1:t.owned aj <;> simp_all
   have hz:t.ws aj=[]:=by
    rw [ho] at hc;cases hz:t.ws aj with
    | nil=> rfl
    | cons a l=> rw [hz] at hc;simp at hc
   rw [ho] at e1;rw [hz] at e2;obtain⟨r,f1,_,_,f2⟩:=G.map h (i:=0) rfl;obtain⟨H',m1,m2,m3,m4⟩:=(f2 hb).1 aj (I who);refine⟨H',?_,?_,m3⟩
   ·have hgt:¬(0:Int) < (0:Nat):=by decide
    simp only [xq_,Px,hneg,e1,e2,zan,hgt,f1,m1]
   ·rw [Gn (λn=> I n)] at m2;exact m2
theorem Qc(G:Good b H g)(hb:H.base<=b){t:Turns}(h:g q=some (iP t))(aj who:Int):
  ∃H',cl 189 [.ref q 0 0,I aj,I who] H=some (I (t.release aj who).2,H')/\Good b H' (upd g q (iP (t.release aj who).1))/\Step b H H':=by
 refine jY rfl rfl (alN _ _ _ _ _) ?_;have e1:=xK G h aj;obtain⟨r,f1,f3,_,f2⟩:=G.map h (i:=0) rfl;have f4:=f3 (.int .i64 0) aj false;rw [xq] at f4;cases hr:jh t.fU aj with
 | none=>
  have hp:t.release aj who=(t,6):=by simp only [Turns.release,hr];rw [if_neg (by simp)]
  have ho:t.owned aj=false:=by simp [Turns.owned,hr]
  rw [hp];rw [ho] at e1;refine⟨H,?_,by rw [fJ h];exact G,Step.refl _ _⟩;simp only [xq_,U4,e1,zam]
 | some w=>
  have ho:t.owned aj=true:=by simp [Turns.owned,hr]
  rw [ho] at e1;simp only [hr,zak,zaf,if_false] at f4;by_cases hw:w=who
  ·have hp:t.release aj who=({ t with fU:=xY t.fU aj },0):=by simp only [Turns.release,hr];rw [if_pos (by rw [hw])]
   rw [hp];obtain⟨H',m1,m2,m3,m4⟩:=(f2 hb).2 aj;refine⟨H',?_,?_,m3⟩
   ·simp only [xq_,U4,e1,zae,f1,f4,hw,m1]
   ·rw [UF (λn=> I n)] at m2;exact m2
  ·have hp:t.release aj who=(t,6):=by simp only [Turns.release,hr];rw [if_neg (by simpa using hw)]
   rw [hp];refine⟨H,?_,by rw [fJ h];exact G,Step.refl _ _⟩;simp only [xq_,U4,e1,zae,zam,f1,f4,hw]
def al6(o:Option (Int × Int)):AV:=.tup [I (o.getD (0,0)).1,I (o.getD (0,0)).2,B o.isSome]
theorem aap(G:Good b H g)(hb:H.base<=b){t:Turns}(h:g q=some (iP t))(hw:(t.wait.map (·.1)).Nodup)(aj:Int)(hl:(t.ws aj).length < 1000000):
  ∃H',cl 125 [.ref q 0 0,I aj] H=some (al6 (t.next aj).2,H')/\Good b H' (upd g q (iP (t.next aj).1))/\Step b H H':=by
 refine jY rfl rfl (akP _ _ _ _) ?_;have e1:=xK G h aj;have e2:=wQ G h aj;cases ho:t.owned aj with
 | true=>
  have hp:t.next aj=(t,none):=by simp only [Turns.next,ho,if_true]
  rw [hp];rw [ho] at e1;refine⟨H,?_,by rw [fJ h];exact G,Step.refl _ _⟩;simp only [xq_,UR,e1,al6,za1,zaI]
 | false=>
  rw [ho] at e1;cases hz:t.ws aj with
  | nil=>
   have hp:t.next aj=(t,none):=by simp only [Turns.next,ho,hz,zaf,if_false]
   rw [hp];rw [hz] at e2;refine⟨H,?_,by rw [fJ h];exact G,Step.refl _ _⟩;simp only [xq_,UR,e1,e2,zan,Int.ofNat_zero,al6,za1,zaI]
  | cons w l=>
   have hp:t.next aj=(⟨lK t.fU aj w.1,lK t.wait aj l⟩,some w):=by simp only [Turns.next,ho,hz,zaf,if_false]
   rw [hp];rw [hz] at e2;obtain⟨r,x,f1,f2,f3,f4,f5,f6,f7⟩:=G.MJ h (i:=1) rfl (by rw [show t.wait.map (λe=> (e.1,e.2.flatMap λw=> [I w.1,I w.2]))=CO t from rfl,CQ];exact hw) aj;rw [show t.wait.map (λe=> (e.1,e.2.flatMap λw=> [I w.1,I w.2]))=CO t from rfl,Ho,hz] at f3;have hs:=f3.is (n:=(w::l).length) (by decide) (dI (enc:=IC) (λ_=> rfl) _);have s1:=hs.ix (k:=.i64) (i:=(0:Int)) (by omega) (by simp only [zal];omega);rw [show((0:Int).toNat)=0 from rfl] at s1;have s2:=pV (enc:=IC) (λ_=> rfl) hs (i:=0) (a:=w) rfl;have G1:=G.newObj (ty:=258) (xs:=[I w.1,I w.2]) rfl;have hqn:q≠H.next:=G.ne h
   have h1:upd g H.next ([I w.1,I w.2].map .av) q=some (iP t):=by rw [bH hqn];exact h
   obtain⟨r',x',f1',f2',f3',f4',f5',f6',f7'⟩:=G1.MJ h1 (i:=1) rfl (by rw [show t.wait.map (λe=> (e.1,e.2.flatMap λw=> [I w.1,I w.2]))=CO t from rfl,CQ];exact hw) aj;rw [show t.wait.map (λe=> (e.1,e.2.flatMap λw=> [I w.1,I w.2]))=CO t from rfl,Ho,hz] at f3';have hln:=f3'.is (n:=(w::l).length) (by decide) (dI (enc:=IC) (λ_=> rfl) _);rcases f3' with⟨_,f3'⟩ | ⟨r0,gg,off,n',cap,ex,ty,all,rfl,k2,k3,k4,k5,k6,k7,k8⟩
   ·simp [IC] at f3'
   have hn':n'=l.length+1:=by have:=hln.2.2.1;simp only [zal] at this;omega
   subst hn';have sl:=En (r:=r0) (gg:=gg) (off:=off) (m:=2) (len:=l.length+1) (cap:=cap) (ex:=ex) (k1:=.i64) (lo:=1) (by decide) (by omega) k4;have t1:(1:Int).toNat=1:=rfl;rw [t1,zbp,Nat.add_sub_cancel] at sl;have hle:(l.length+1)*2<=cap*2:=zaD _ k4;have hfit:Fit (H.new (.blk 0 258 [I w.1,I w.2])) (H.new (.blk 0 258 [I w.1,I w.2])) (.sl r0 gg off 2 (l.length+1) cap ex) (.sl r0 gg (off+2) 2 l.length (cap - 1) ex) 2 (l.flatMap IC):=by
    refine .inr ⟨r0,gg,off+2,l.length,cap - 1,ex,ty,all,rfl,.inl rfl,k3,by omega,k5,by rw [Nat.sub_mul];omega,k7,?_⟩;have:=congrArg (List.drop 2) k8;rw [zaE,List.drop_append_of_le_length (by simp [IC]),show(IC w).drop 2=[] from rfl,zaK,zcj,zbA] at this;rw [this]
    congr 1
    omega
   obtain⟨H2,m1,G2,m3,m4⟩:=f7' (H.new (.blk 0 258 [I w.1,I w.2])) _ _ (zac _) (by rw [jC];exact hb) (λ_ _ _=> rfl) hfit;have e3:(iP t).set 1 (.maps .i64 2 (lK (CO t) aj (l.flatMap IC)))=iP ⟨t.fU,lK t.wait aj l⟩:=by
    rw [Qb];rfl
   rw [show(List.map (λe=> (e.1,List.flatMap (λw=> [I w.1,I w.2]) e.2)) t.wait)=CO t from rfl,e3] at G2;obtain⟨ro,o1,_,_,o2⟩:=G2.map aV (i:=0) rfl;have hb2:H2.base<=b:=by rw [m3.base,jC];exact hb
   obtain⟨H3,p1,G3,p3,p4⟩:=(o2 hb2).1 aj (I w.1);have j2:∀cs,upd (upd g H.next ([I w.1,I w.2].map .av)) q cs H.next=some ([I w.1,I w.2].map .av):=λcs=> by rw [bH hqn.symm,aV]
   have v1:=G2.load (j2 _) (i:=0) (x:=I w.1) rfl;rw [oq] at G3;have v2:=G3.load (j2 _) (i:=0) (x:=I w.1) rfl;have v3:=G3.load (j2 _) (i:=1) (x:=I w.2) rfl;refine⟨H3,?_,?_,((Step.new _ G.1).trans m3).trans p3⟩
   ·have hne:¬((l.length+1:Nat):Int)=0:=by omega
    have hbn:H.base<=H.next:=zax hb G.1
    simp only [IC] at s2;simp only [Nat.reduceAdd,aW,xq_,hq_,UR,e1,e2,hne,f1,f2,s1,s2,hbn,f1',f2',sl,m1,o1,v1,p1,v2,v3,al6,zat,zaJ]
   ·rw [Gn (λn=> I n)] at G3;refine G3.sub ?_;exact((ru.refl g).more (G.isNone (zac _)) _).both q _
end
abbrev blw(n lo hi:Int):Bool:=decide (lo<=n) && decide (n < hi)
theorem ac9(H:ah)(n lo hi:Int):cl 168 [I n,I lo,I hi] H=some (B (blw n lo hi),H):=by
 refine bI rfl rfl (afx _ _ _ _ _ ?_);by_cases h:lo<=n
 ·simp only [xq_,Pv,h,blw,zbn]
 ·simp only [xq_,Pv,h,blw,zbC]
theorem al7(a b c:Bool):a=false∨(a=true/\b=false)∨(a=true/\b=true/\c=false)∨(a=true/\b=true/\c=true):=by revert a b c;decide
theorem Pkt.ok_eq(p:Pkt):p.ok=(blw p.src 0 6 && blw p.dst 0 6 && blw p.id 0 4096 && (blw p.aO 1 10 && blw p.aj 0 8 && blw p.ptr (-1) 6) && blw p.aT 0 3 && !decide ((4:Int) < p.data.length)):=by
 have:decide (p.data.length<=4)=!decide ((4:Int) < p.data.length):=by
  by_cases h:p.data.length<=4
  ·have:¬(4:Int) < p.data.length:=by omega
   simp [h,this]
  ·have:(4:Int) < p.data.length:=by omega
   simp [h,this]
 unfold Pkt.ok;rw [this];simp only [blw,Bool.and_assoc]
theorem Aw(H:ah)(p:Pkt):cl 127 [.agg p.av] H=some (I (if p.ok=true then 0 else 1),H):=by
 refine dJ rfl rfl (ae7 _ _ _) ?_ iZ;have e1:=λH n lo hi=> ac9 H n lo hi;have e2:=λH=> (nN H p.data).lnS;rw [p.ok_eq];generalize a1:blw p.src 0 6=b1;generalize a2:blw p.dst 0 6=b2;generalize a3:blw p.id 0 4096=b3;generalize a4:blw p.aO 1 10=b4;generalize a5:blw p.aj 0 8=b5;generalize a6:blw p.ptr (-1) 6=b6;generalize a7:blw p.aT 0 3=b7;by_cases h8:(4:Int) < p.data.length
 all_goals rcases al7 b1 b2 b3 with rfl | ⟨rfl,rfl⟩ | ⟨rfl,rfl,rfl⟩ | ⟨rfl,rfl,rfl⟩
 all_goals rcases al7 b4 b5 b6 with rfl | ⟨rfl,rfl⟩ | ⟨rfl,rfl,rfl⟩ | ⟨rfl,rfl,rfl⟩
 all_goals cases b7
 all_goals simp only [Nat.reduceLT,Int.reduceNeg,xq_,hq_,Zn,aG,Pkt.av,e1,e2,a1,a2,a3,a4,a5,a6,a7,h8,zae,zam,zbC,zci]
theorem JQ(H:ah)(k:Int):cl 50 [I k] H=some (B (oW k),H):=by
 refine dJ rfl rfl (aom _ _ _) ?_ iZ;by_cases h:1<=k
 ·simp only [xq_,ag3,h,oW,zbn]
 ·simp only [xq_,ag3,h,oW,zbC]
theorem Qd(H:ah)(k:Int):cl 171 [I k] H=some (I (BK k),H):=by
 refine dJ rfl rfl (alz _ _ _) ?_ iZ;by_cases h1:k=1
 ·simp only [Int.reduceEq,xq_,DJ,h1,BK]
 ·by_cases h2:k=2
  ·simp only [Int.reduceEq,xq_,DJ,pU,h2,BK,true_or]
  ·by_cases h4:k=4
   ·simp only [Int.reduceEq,xq_,DJ,pU,h4,BK,true_or,or_true]
   ·by_cases h5:k=5
    ·simp only [Int.reduceEq,xq_,DJ,pU,h5,BK,or_true]
    ·by_cases h3:k=3
     ·simp only [Int.reduceEq,xq_,DJ,pU,Ar,h3,BK,true_or,false_or]
     ·by_cases h6:k=6
      ·simp only [Int.reduceEq,xq_,DJ,pU,Ar,h6,BK,or_true,false_or]
      ·simp only [xq_,DJ,pU,Ar,h1,h2,h3,h4,h5,h6,BK,false_or]
theorem oI(z:Int):((by8 z).toNat:Int)=z % 256:=by
 unfold by8;have h:(BitVec.ofInt 8 z).toNat=(z % ((2 ^ 8:Nat):Int)).toNat:=BitVec.toNat_ofInt z;have h2:(0:Int)<=z % 256:=zb8 _ (by decide);rw [h,show((2 ^ 8:Nat):Int)=256 from rfl,zcW h2]
theorem Vm(z:Int):(AV.s (.int .u8 (IntKind.wrap .u8 z)))=Y (by8 z):=by
 show _=AV.s (.int .u8 ((by8 z).toNat:Int));rw [oI,aeT rfl];rfl
theorem apa(H:ah)(f:Bool):cl0 139 [B f] H=some (Y (by8 (if f then 1 else 0)),H):=by
 refine iG (ak5 _ _ _ ?_);cases f
 ·simp only [xq_,Zp];rfl
 ·simp only [xq_,Zp];rfl
def aqW(H0 H:ah)(x:AV)(l:List AV):Prop:=
 (x=zN/\l=[])∨(∃r g ty,x=.sl r g 0 1 l.length l.length false/\H0.next<=r/\r < H.next/\H.get r=.blk g ty l)∨(∃r ty,x=.sl r 0 0 1 l.length l.length true/\H0.next<=r/\r < H.next/\H.get r=.blk 0 ty l)
structure Acc(H0 H:ah)(x:AV)(l:List AV):Prop where
 gro:Gro H0 H
 base:H.base<=H0.next
 x:aqW H0 H x l
theorem Acc.is {H0 H:ah}{x:AV}{l:List AV}(a:Acc H0 H x l):aN H x 1 l.length l:=by
 refine⟨by omega,?_⟩;rcases a.x with⟨rfl,rfl⟩ | ⟨r,g,ty,rfl,h1,h2,h3⟩ | ⟨r,ty,rfl,h0',h1,h2⟩
 ·exact⟨rfl,rfl,rfl⟩
 ·exact⟨rfl,rfl,⟨h2,zac _⟩,ty,l,h3,by omega,by simp⟩
 ·exact⟨rfl,rfl,⟨h1,zac _⟩,ty,l,h2,by omega,by simp⟩
theorem Acc.one {H0 H:ah}{x:AV}{l:List AV}(a:Acc H0 H x l):One x:=by
 rcases a.x with⟨rfl,rfl⟩ | ⟨r,g,ty,rfl,h1,h2,h3⟩ | ⟨r,ty,rfl,h0',h1,h2⟩
 ·exact qC
 ·exact vJ
 ·exact vJ
theorem Acc.apb {H0 H H':ah}{x:AV}{l:List AV}(a:Acc H0 H x l)(g:Gro H H'):Acc H0 H' x l:=by
 refine⟨a.gro.trans g,by rw [g.base];exact a.base,?_⟩;rcases a.x with h | ⟨r,g',ty,h0,h1,h2,h3⟩ | ⟨r,ty,h0,h0',h1,h2⟩
 ·exact .inl h
 ·exact .inr (.inl ⟨r,g',ty,h0,h1,zay h2 g.next,by rw [g.same r h2];exact h3⟩)
 ·exact .inr (.inr ⟨r,ty,h0,h0',zay h1 g.next,by rw [g.same r h1];exact h2⟩)
theorem Gro.put {H0 H:ah}{r g ty:Nat}{xs:List AV}(G:Gro H0 H)(hr:H0.next<=r):Gro H0 (H.put r (.blk g ty xs)):=
 ⟨G.next,G.base,λx hx=> by
  have:(H.put r (.blk g ty xs)).get x=H.get x:=by simp only [ah.put];rw [if_neg (by omega)]
  rw [this];exact G.same x hx,λh x k es=> by
  simp only [ah.put];split
  ·simp
  ·exact G.PD h x k es⟩
theorem Acc.app {H0 H:ah}{x:AV}{l:List AV}(a:Acc H0 H x l){e by_ n:Nat}{y:AV}{new:List AV}(hy:aN H y 1 n new)(hc:new.all AV.aQ=true)(hn:n≠0)(hs:l.length+n < 1000)(hby:by_<=16):
  ∃x' H',app e 1 by_ x y H=some (x',H')/\Acc H0 H' x' (l++new):=by
 have hnew:new.length=n:=by have:=hy.1;omega
 obtain⟨c1,c2⟩:=hy.wE;have hb1:n*by_<=most:=by
  have:n*by_<=1000*16:=Nat.mul_le_mul (by omega) hby;unfold most;omega
 have hb2:(l.length+n)*by_<=most:=by
  have:(l.length+n)*by_<=1000*16:=Nat.mul_le_mul (by omega) hby;unfold most;omega
 have hm1:n<=most:=by unfold most;omega
 have hm2:l.length+n<=most:=by unfold most;omega
 rcases a.x with⟨rfl,rfl⟩ | ⟨r,g,ty,rfl,h1,h2,h3⟩ | ⟨r,ty,rfl,h0',h1,h2⟩
 ·refine⟨_,_,RP hy hc hn hm1 hb1,a.gro.trans (Gro.new _ _ _ _),by rw [jC];exact a.base,.inr (.inl ⟨H.next,0,e+gQ,?_,a.gro.next,by rw [fE];omega,?_⟩)⟩
  ·simp only [zaK,hnew]
  ·rw [bC rfl,zaK]
 ·refine⟨.sl r (g+1) 0 1 (l.length+n) (l.length+n) false,H.put r (.blk (g+1) (grT e ty 0) (l++new)),?_,a.gro.put h1,a.base,.inr (.inl ⟨r,g+1,grT e ty 0,?_,h1,h2,?_⟩)⟩
  ·simp only [Proofs.YtljogojaihgdlaaGreat.app,c1,c2];unfold dZ;rw [if_pos ⟨hy.1,hc⟩];simp only [h3];rw [if_pos ⟨trivial,trivial,by omega⟩,if_neg hn,if_neg (by omega),if_pos ⟨hm2,hb2⟩];simp only [zaf,if_false,zaP];rw [if_pos (zax a.base h1)];simp
  ·simp only [zao,hnew]
  ·simp only [ah.put,if_true]
 ·refine⟨.sl H.next 0 0 1 (l.length+n) (l.length+n) false,H.new (.blk 0 (e+gQ) (l++new)),?_,a.gro.trans (Gro.new _ _ _ _),by rw [jC];exact a.base,.inr (.inl ⟨H.next,0,e+gQ,?_,a.gro.next,by rw [fE];omega,bC rfl⟩)⟩
  ·simp only [Proofs.YtljogojaihgdlaaGreat.app,c1,c2];unfold dZ;rw [if_pos ⟨hy.1,hc⟩];simp only [h2];rw [if_pos ⟨trivial,trivial,by omega⟩,if_neg hn,if_neg (by omega),if_pos ⟨hm2,hb2⟩];simp
  ·simp only [zao,hnew]
theorem aaq(n:Int):∀k,k < 8->(qQ n).drop (8 - (k+1))=by8 (n.fdiv (2 ^ (8*k)))::(qQ n).drop (8 - k)
 | 0,_ | 1,_ | 2,_ | 3,_ | 4,_ | 5,_ | 6,_ | 7,_=> rfl
 | k+8,h=> absurd h (by omega)
theorem apc(H:ah)(hb:H.base<=H.next)(n:Int):∃y H',cl0 140 [I n] H=some (y,H')/\Acc H H' y ((qQ n).map Y):=by
 have key:∀k:Nat,k<=8->∀(x:AV) (K:ah) (l:List By),Acc H K x (l.map Y)->l.length+k=8->∃y H',Ez cl0 [I n,x,I (8*(k:Int) - 8)] K=some (y,H')/\Acc H H' y ((l++(qQ n).drop (8 - k)).map Y):=by
  intro k
  induction k with
  | zero=>
   intro hk x K l a hl;have h1:¬((0:Int)<=8*((0:Nat):Int) - 8):=by omega
   refine⟨x,K,?_,by rw [show(qQ n).drop (8 - 0)=[] from rfl,za8];exact a⟩;rw [UY];simp only [xq_,h1]
  | succ k ih=>
   intro hk x K l a hl;have h0:8*((k+1:Nat):Int) - 8=((8*k:Nat):Int):=by omega
   have h1:(0:Int)<=((8*k:Nat):Int):=by omega
   have e1:bi .shr 3 (I n) (I ((8*k:Nat):Int))=some (I (n.fdiv (2 ^ (8*k)))):=by
    have:=Sl (P:=Tryz.prog) (t:=3) (k:=.i64) (k':=.i64) (a:=n) h1;rw [zaq,show min (8*k) (IntKind.bits .i64)=8*k from zbk (show 8*k<=64 by omega)] at this;exact this
   have e2:cv 3 5 (I (n.fdiv (2 ^ (8*k)))) K=some (Y (by8 (n.fdiv (2 ^ (8*k)))),K):=by rw [<-Vm];exact aev
   obtain⟨c,hc⟩:∃c,by8 (n.fdiv (2 ^ (8*k)))=c:=⟨_,rfl⟩
   rw [hc] at e2;have b1:bs 172 1 [(0,Y c)] K=some (.sl K.next 0 0 1 1 1 true,K.new (.blk 0 5 [Y c])):=(Ux (by decide)).trans (kV rfl rfl rfl);have a1:=a.apb (Gro.new K 0 5 [Y c]);obtain⟨x',K',p1,a2⟩:=a1.app (e:=5) (by_:=1) (n:=1) (nO (e:=5) (H:=K) (ex:=true) (n:=1) (m:=1) (l:=[Y c]) rfl) rfl (by decide) (by simp;omega) (by decide);have h2:((8*k:Nat):Int) - 8=8*(k:Int) - 8:=by omega
   have w:=wrap_i64 (a:=8*(k:Int) - 8) (by omega) (by omega);obtain⟨y,H',r1,r2⟩:=ih (by omega) x' K' (l++[c]) (by simpa using a2) (by simp;omega);refine⟨y,H',?_,?_⟩
   ·rw [UY,h0];simp only [xq_,h1,e1,e2,b1,p1,jw,h2,w,r1]
   ·rw [aaq n k (by omega),hc]
    simpa using r2
 obtain⟨y,H',r1,r2⟩:=key 8 (zac _) zN H [] ⟨Gro.refl H,hb,.inl ⟨rfl,rfl⟩⟩ rfl;refine⟨y,H',iG (ak6 _ _ _ ?_),by simpa using r2⟩;have:(8*((8:Nat):Int) - 8)=56:=rfl;rw [this] at r1;simp only [afl,r1]
theorem JR {z:AV}:∀(rest pre:List AV),(∀x∈rest,One x)->gX (λi=> some (i*1,1)) (pre++dX [z] rest.length) ((rest.zipIdx pre.length).map λp=> (p.2,p.1))=some (pre++rest)
 | [],pre,_=> by simp [dX,eu]
 | x::rest,pre,h=> by
  rw [List.zipIdx_cons,zaz,Gm (off:=pre.length) (by simp) (h x (by simp)).1 (by simp [dX])];have e:(pre++dX [z] (x::rest).length).set pre.length x=(pre++[x])++dX [z] rest.length:=by
   show(pre++([z]++dX [z] rest.length)).set pre.length x=_;rw [List.set_append_right _ _ (zac _),Nat.sub_self];simp
  rw [e];have ih:=JR (z:=z) rest (pre++[x]) λy hy=> h y (by simp [hy]);rw [zao,zal,zan,zaW] at ih;rw [ih];simp
theorem ada {e:Nat}{z:AV}{l:List AV}{H:ah}(h:∀x∈l,One x):bsl e 1 [z] l.length ((l.zipIdx 0).map λp=> (p.2,p.1)) H=some (.sl H.next 0 0 1 l.length l.length true,H.new (.blk 0 e l)):=by
 have:=JR (z:=z) l [] h;simp only [zaK,zan] at this;unfold bsl;rw [this];have ha:l.all AV.aQ=true:=zaZ.2 λx hx=> (h x hx).2;simp only [ha,if_true]
theorem al8(H:ah)(n lo hi:Int):cl0 168 [I n,I lo,I hi] H=some (B (blw n lo hi),H):=by
 refine iG (afx _ _ _ _ _ ?_);by_cases h:lo<=n
 ·simp only [xq_,Pv,h,blw,zbn]
 ·simp only [xq_,Pv,h,blw,zbC]
theorem al9(H:ah)(p:Pkt){x:AV}(hx:lF H x p.data)(hok:p.ok=true):cl0 127 [.agg (p.avx x)] H=some (I 0,H.new (.blk 0 112 (p.avx x))):=by
 refine iG (ae7 _ _ _ ?_);have e1:=λH n lo hi=> al8 H n lo hi;have e2:=(hx.is.new (.blk 0 112 (p.avx x))).lnS;rw [p.ok_eq] at hok;generalize a1:blw p.src 0 6=b1 at hok;generalize a2:blw p.dst 0 6=b2 at hok;generalize a3:blw p.id 0 4096=b3 at hok;generalize a4:blw p.aO 1 10=b4 at hok;generalize a5:blw p.aj 0 8=b5 at hok;generalize a6:blw p.ptr (-1) 6=b6 at hok;generalize a7:blw p.aT 0 3=b7 at hok;simp only [zah] at hok;obtain⟨⟨⟨⟨⟨rfl,rfl⟩,rfl⟩,⟨⟨rfl,rfl⟩,rfl⟩⟩,rfl⟩,a8⟩:=hok;have h8:¬(4:Int) < p.data.length:=by simpa using a8
 have ax:=EP (p:=p) hx.one;simp only [Pkt.avx] at e2 ax ⊢;simp only [Nat.reduceLT,Int.reduceNeg,xq_,hq_,Zn,aG ax,e1,e2,a1,a2,a3,a4,a5,a6,a7,h8,zae]
theorem qL:∀l:List Int,(l.flatMap qQ).length=l.length*8
 | []=> rfl
 | v::l=> by rw [zaE,zao,qL l,jF,zal];omega
theorem ama {H:ah}(hb:H.base<=H.next)(p:Pkt){x:AV}(hx:lF H x p.data)(hok:p.ok=true):
  ∃y H',cl0 93 [.agg (p.avx x)] H=some (.tup [y,I 0],H')/\Gro H H'/\dG H' y (rY p)/\H'.base<=H'.next:=by
 have hok2:=hok;simp only [Pkt.ok,zah,decide_eq_true_eq] at hok2;have ax:=EP (p:=p) hx.one;let o:fV:=.blk 0 112 (p.avx x);let H1:=H.new o;let H2:=H1.new o;have g1:Gro H H1:=Gro.new H 0 _ _;have g2:Gro H1 H2:=Gro.new H1 0 _ _;have hb2:H2.base<=H2.next:=by simp only [H2,H1,jC,fE];omega
 have ck:=al9 H1 p (hx.new o) hok;have at1:H1.get H.next=.blk 0 112 (p.avx x):=bC rfl
 have at2:H2.get H.next=.blk 0 112 (p.avx x):=by rw [g2.same _ (by simp only [H1,fE];omega)];exact at1
 have lx:(p.avx x).length=9:=rfl;have l1:lda 9 (.ref H.next 0 0) H1=some (.agg (p.avx x),H1):=(gZ (off:=0) (n:=9) at1 (by rw [lx];exact zac _)).trans rfl;have lds:∀i v,(p.avx x)[i]?=some v->ld (.ref H.next 0 i) H2=some (v,H2):=λi v hv=> by rw [gu at2,hv];rfl
 have p0:=lds 0 (I p.aO) rfl;have p1:=lds 1 (I p.src) rfl;have p2:=lds 2 (I p.dst) rfl;have p3:=lds 3 (I p.id) rfl;have p4:=lds 4 (I p.aj) rfl;have p5:=lds 5 (I p.ptr) rfl;have p6:=lds 6 (I p.aT) rfl;have p7:=lds 7 (B p.flag) rfl;have p8:=lds 8 x rfl;have cv1:∀z H,cv 3 5 (I z) H=some (Y (by8 z),H):=λz H=> by rw [<-Vm];exact aev
 have sh1:bi .shr 3 (I p.id) (.s (.int .u64 8))=some (I (p.id.fdiv 256)):=Sl (P:=Tryz.prog) (t:=3) (k:=.i64) (k':=.u64) (a:=p.id) (n:=8) (by decide);have w1:=wrap_i64 (a:=p.ptr+1) (by omega) (by omega);have fl:=λH=> apa H p.flag;have hx2:=(hx.new o).new o;have ln2:=hx2.is.lnS;let hd:List By:=[by8 p.aO,by8 p.src,by8 p.dst,by8 (p.id.fdiv 256),by8 p.id,by8 p.aj,by8 (p.ptr+1),by8 p.aT,by8 (if p.flag then 1 else 0),by8 p.data.length]
 have bsH:bs 172 10 [(0,Y (by8 p.aO)),(1,Y (by8 p.src)),(2,Y (by8 p.dst)),(3,Y (by8 (p.id.fdiv 256))),(4,Y (by8 p.id)),(5,Y (by8 p.aj)),(6,Y (by8 (p.ptr+1))),(7,Y (by8 p.aT)),(8,Y (by8 (if p.flag then 1 else 0))),(9,Y (by8 p.data.length))] H2=some (.sl H2.next 0 0 1 10 10 true,H2.new (.blk 0 5 (hd.map Y))):=
  (Ux (by decide)).trans (ada (l:=hd.map Y) λy hy=> by
   obtain⟨c,_,rfl⟩:=zaG.1 hy;exact ahm)
 let H3:=H2.new (.blk 0 5 (hd.map Y));have g3:Gro H2 H3:=Gro.new H2 0 _ _;have l3:ld (.ref H.next 0 8) H3=some (x,H3):=by
  rw [gu (by rw [g3.same _ (by simp only [H2,H1,fE];omega)];exact at2)];rfl
 have ln3:=(hx2.new (.blk 0 5 (hd.map Y))).is.lnS;have acc0:Acc H2 H3 (.sl H2.next 0 0 1 10 10 true) (hd.map Y):=⟨g3,by simp only [H3,jC];exact hb2,.inr (.inr ⟨H2.next,5,rfl,zac _,by simp only [H3,fE];omega,bC rfl⟩)⟩
 have key:∀k i,i+k=p.data.length->∀a K,Acc H2 K a ((hd++(p.data.take i).flatMap qQ).map Y)->
   ∃y H',LU cl0 [a,x,I p.data.length,I i] K=some (.tup [y,I 0],H')/\Gro H2 H'/\dG H' y (rY p)/\H'.base<=H'.next:=by
  intro k
  induction k with
  | zero=>
   intro i hi a K ac;have h1:¬((i:Int) < p.data.length):=by omega
   rw [zaA (by omega)] at ac;have hlen:(fF p).length < 900:=by
    have h2:=rE p;unfold rY jJ at h2;simp only [zao,zal,zan,Pkt.bytes] at h2;omega
   have hbK:K.base<=K.next:=zax ac.base ac.gro.next
   have bK:dG K a (fF p):=by
    have:=ac.is;rw [zaB] at this;exact⟨this,by omega⟩
   obtain⟨y,H',e1,g',b',hb'⟩:=ahn hbK bK hlen;refine⟨y,H',?_,ac.gro.trans g',b',hb'⟩;rw [Zg];simp only [xq_,h1,e1]
  | succ k ih=>
   intro i hi a K ac;have h1:(i:Int) < p.data.length:=by omega
   have h6:(i:Int)+1=((i+1:Nat):Int):=by omega
   have h7:=wrap_i64 (a:=((i+1:Nat):Int)) (by omega) (by omega);obtain⟨v,hv⟩:∃v,p.data[i]?=some v:=⟨_,zab (by omega)⟩
   have hxK:=hx2.is.qB ac.gro.next λr _ hr=> ac.gro.same r hr
   have s1:=hxK.ix (k:=.i64) (i:=(i:Int)) (by omega) h1;rw [zaq] at s1;have s2:ld (eP x i) K=some (I v,K):=by rw [hxK.ld (by omega),zaM,hv];rfl
   have hbK:K.base<=K.next:=zax ac.base ac.gro.next
   obtain⟨y,K1,e1,aw⟩:=apc K hbK v;have ac1:=ac.apb aw.gro;have hy:=aw.is;have hlt:(p.data.take i).length=i:=by rw [zau];omega
   obtain⟨a2,K2,e2,ac2⟩:=ac1.app (e:=5) (by_:=1) (n:=8) (by have h:=hy;rw [zaB,jF] at h;exact h) (acn _) (by decide) (by
    simp only [zaB,zao];have:((p.data.take i).flatMap qQ).length=i*8:=by rw [qL,hlt]
    rw [this];simp only [hd,zal,zan];omega) (by decide)
   have hap:((hd++(p.data.take i).flatMap qQ).map Y)++(qQ v).map Y=(hd++(p.data.take (i+1)).flatMap qQ).map Y:=by
    rw [zdD,hv];simp
   rw [hap] at ac2;obtain⟨y',H',r1,r2,r3,r4⟩:=ih (i+1) (by omega) a2 K2 ac2;refine⟨y',H',?_,r2,r3,r4⟩;rw [Zg];simp only [xq_,h1,s1,s2,e1,e2,dW,h6,h7,r1]
 obtain⟨y,H',r1,r2,r3,r4⟩:=key p.data.length 0 (by omega) _ H3 (by simpa using acc0);refine⟨y,H',iG (aoW _ _ _ ?_),(g1.trans g2).trans r2,r3,r4⟩;have z0:((0:Nat):Int)=0:=rfl;rw [z0] at r1;simp only [H1,H2,H3,o,fE] at ck l1 p0 p1 p2 p3 p4 p5 p6 p7 p8 ln2 bsH l3 ln3 r1;simp only [Nat.reduceLT,xq_,akr,aG ax,l1,ck,p0,p1,p2,p3,p4,p5,p6,p7,p8,cv1,sh1,dW,w1,fl,ln2,bsH,l3,ln3,zae,r1]
def nmS(s:BitVec 64)(l:List By):BitVec 64:=l.foldl (λs c=> (s <<< 8) ||| c.setWidth 64) s
def nmV(l:List By):Int:=(nmS 0#64 l).toInt
theorem WV(s:BitVec 64):IntKind.wrap .i64 (s.toNat:Int)=s.toInt:=by
 have h:=s.isLt;simp only [IntKind.wrap,IntKind.bits,IntKind.signed,BitVec.toInt_eq_toNat_cond,zbn,decide_eq_true_eq,ge_iff_le];split <;> split <;> omega
theorem ahF {H:ah}{y:AV}{l:List By}(hx:dG H y l):cl0 144 [y] H=some (I (nmV l),H):=by
 have key:∀(k i:Nat),i+k=l.length->∀s:BitVec 64,EC cl0 [U64 s,y,I l.length,I i] H=some (I (nmS s (l.drop i)).toInt,H):=by
  intro k
  induction k with
  | zero=>
   intro i hi s;have h1:¬((i:Int) < l.length):=by omega
   have e1:cv 268 3 (U64 s) H=some (I s.toInt,H):=by rw [<-WV];exact ab5 (k:=.u64)
   rw [U0,zaQ (by omega)];simp only [xq_,h1,e1]
   try rfl
  | succ k ih=>
   intro i hi s;have h1:(i:Int) < l.length:=by omega
   have h6:(i:Int)+1=((i+1:Nat):Int):=by omega
   have h7:=wrap_i64 (a:=((i+1:Nat):Int)) (by have:=hx.small;omega) (by have:=hx.small;omega);obtain⟨c,hc⟩:∃c,l[i]?=some c:=⟨_,zab (by omega)⟩
   have s1:=hx.ix (i:=i) (by omega);have s2:=hx.ld hc;have e1:cv 5 268 (Y c) H=some (U64 (c.setWidth 64),H):=
    (ab3 (k:=.u8) (n:=(c.toNat:Int)) (H:=H)).trans (congrArg (λv=> some (v,H)) (ajH (k:=.u8) (k':=.u64) rfl c))
   have e2:bi .shl 268 (U64 s) (.s (.int .u64 8))=some (U64 (s <<< 8)):=Y3 (k:=.u64) rfl s 8 (by decide) (by decide);have e3:bi .or 268 (U64 (s <<< 8)) (U64 (c.setWidth 64))=some (U64 ((s <<< 8) ||| c.setWidth 64)):=aqp (k:=.u64) rfl _ _;have hd:l.drop i=c::l.drop (i+1):=by
    rw [zby (by omega)];rw [zab (by omega)] at hc;rw [za2 hc]
   have ih1:=ih (i+1) (by omega) ((s <<< 8) ||| c.setWidth 64);have e5:nmS s (c::l.drop (i+1))=nmS ((s <<< 8) ||| c.setWidth 64) (l.drop (i+1)):=rfl;rw [U0,hd,e5,<-ih1];simp only [xq_,h1,s1,s2,e1,e2,e3,dW,h6,h7]
   try rfl
 refine iG (ak9 _ _ _ ?_);have s0:=hx.is.lnS;have k0:=key l.length 0 (by omega) 0#64;rw [zaP] at k0;simp only [xq_,afp,s0];exact k0
theorem or8 {s:BitVec 64}(c:By)(h:s.toNat < 2 ^ 56):((s <<< 8) ||| c.setWidth 64).toNat=s.toNat*256+c.toNat:=by
 have hc:=c.isLt;have h1:(s <<< 8).toNat=s.toNat <<< 8:=by
  rw [BitVec.toNat_shiftLeft,zch];rw [zdg];omega
 have h2:(c.setWidth 64).toNat=c.toNat:=by rw [BitVec.toNat_setWidth,zch (by omega)]
 rw [BitVec.toNat_or,h1,h2,<-Nat.shiftLeft_add_eq_or_of_lt hc,zdg]
theorem rM {N b:Nat}{s:BitVec 64}{c:By}(hs:s.toNat=N / (b*256))(hc:c.toNat=N / b % 256)(hN:N < 2 ^ 64)(hb:0 < b):((s <<< 8) ||| c.setWidth 64).toNat=N / b:=by
 have h0:N / (b*256)=N / b / 256:=(Nat.div_div_eq_div_mul N b 256).symm;have h1:N / b<=N:=Nat.div_le_self N b;rw [or8 c (by rw [hs,h0];omega),hs,hc,h0];omega
theorem aar(n:Int)(j:Nat)(hj:j+8<=64):(n / 2 ^ j) % 256=((n % 18446744073709551616) / 2 ^ j) % 256:=by
 have h64:(18446744073709551616:Int)=2 ^ j*2 ^ (64 - j):=by
  rw [<-Int.pow_add,show j+(64 - j)=64 by omega];rfl
 have h256:(2:Int) ^ (64 - j)=256*2 ^ (56 - j):=by
  rw [show 64 - j=8+(56 - j) by omega,Int.pow_add];rfl
 have hne:(2:Int) ^ j≠0:=Int.pow_ne_zero (by decide);have hq:n=n % 18446744073709551616+2 ^ j*(2 ^ (64 - j)*(n / 18446744073709551616)):=by
  rw [<-Int.mul_assoc,<-h64];exact(Int.emod_add_mul_ediv n 18446744073709551616).symm
 obtain⟨r,hr⟩:∃r,n % 18446744073709551616=r:=⟨_,rfl⟩
 obtain⟨q,hqq⟩:∃q,n / 18446744073709551616=q:=⟨_,rfl⟩
 rw [hr,hqq] at hq;rw [hr,hq,Int.add_mul_ediv_left _ _ hne,h256,Int.mul_assoc,Int.add_mul_emod_self_left]
theorem aas(n:Int)(k:Nat)(hk:k < 8){N:Nat}(hN:(N:Int)=n % 18446744073709551616):(by8 (n.fdiv (2 ^ (8*k)))).toNat=N / 2 ^ (8*k) % 256:=by
 have h:=oI (n.fdiv (2 ^ (8*k)));have hp:(0:Int)<=2 ^ (8*k):=Int.pow_nonneg (by decide);rw [zb2 _ hp] at h ⊢;rw [aar n (8*k) (by omega),<-hN] at h;have h2:((N:Int) / 2 ^ (8*k)) % 256=((N / 2 ^ (8*k) % 256:Nat):Int):=by
  rw [Int.natCast_emod,Int.natCast_ediv,Int.natCast_pow];rfl
 rw [h2] at h;exact Int.ofNat_inj.1 h
theorem MK {n:Int}(h:I64 n):nmV (qQ n)=n:=by
 obtain⟨h1,h2⟩:=h;obtain⟨N,hN⟩:∃N:Nat,(N:Int)=n % 18446744073709551616:=⟨(n % 18446744073709551616).toNat,zcW (zb8 _ (by decide))⟩
 have hlt:N < 2 ^ 64:=by omega
 have w:=λk hk=> aas n k hk hN;have s7:=rM (N:=N) (b:=2 ^ 56) (s:=0#64) (by rw [Nat.div_eq_of_lt (by omega)];rfl) (w 7 (by decide)) hlt (by decide);have s6:=rM (b:=2 ^ 48) s7 (w 6 (by decide)) hlt (by decide);have s5:=rM (b:=2 ^ 40) s6 (w 5 (by decide)) hlt (by decide);have s4:=rM (b:=2 ^ 32) s5 (w 4 (by decide)) hlt (by decide);have s3:=rM (b:=2 ^ 24) s4 (w 3 (by decide)) hlt (by decide);have s2:=rM (b:=2 ^ 16) s3 (w 2 (by decide)) hlt (by decide);have s1:=rM (b:=2 ^ 8) s2 (w 1 (by decide)) hlt (by decide);have s0:=rM (b:=1) s1 (w 0 (by decide)) hlt (by decide);have e:(nmS 0#64 (qQ n)).toNat=N / 1:=s0;unfold nmV;rw [BitVec.toInt_eq_toNat_cond,e];split <;> omega
theorem uQ {a b:Int}(h:by8 a=by8 b):a % 256=b % 256:=by
 have:=congrArg (λc:By=> (c.toNat:Int)) h;simp only [oI] at this;exact this
theorem Qe:∀{l m:List Int},(∀v∈l,I64 v)->(∀v∈m,I64 v)->l.flatMap qQ=m.flatMap qQ->l=m
 | [],[],_,_,_=> rfl
 | [],b::m,_,_,h=> by have:=congrArg List.length h;rw [qL,qL] at this;simp at this
 | a::l,[],_,_,h=> by have:=congrArg List.length h;rw [qL,qL] at this;simp at this
 | a::l,b::m,hl,hm,h=> by
  rw [zaE,zaE] at h;obtain⟨h1,h2⟩:=List.append_inj h rfl;have h3:=congrArg nmV h1;rw [MK (hl a (by simp)),MK (hm b (by simp))] at h3;rw [h3,Qe (λv hv=> hl v (by simp [hv])) (λv hv=> hm v (by simp [hv])) h2]
theorem adb {p q:Pkt}(hp:p.fit)(hq:q.fit)(h:rY p=rY q):p=q:=by
 unfold rY jJ at h;have hlen:(fF p).length=(fF q).length:=by
  have:=congrArg List.length h;simp only [zao,zal,zan] at this;omega
 obtain⟨h1,_⟩:=List.append_inj h hlen;unfold fF at h1;obtain⟨h2,h3⟩:=List.append_inj h1 rfl;have hd:=Qe hp.num hq.num h3;have a:=hp.ok;have b:=hq.ok;simp only [Pkt.ok,zah,decide_eq_true_eq] at a b;simp only [zbJ,and_true] at h2;obtain⟨e1,e2,e3,e4,e5,e6,e7,e8,e9,_⟩:=h2;have i1:=uQ e1;have i2:=uQ e2;have i3:=uQ e3;have i4:=uQ e4;have i5:=uQ e5;have i6:=uQ e6;have i7:=uQ e7;have i8:=uQ e8;have i9:=uQ e9;rw [zb2 _ (by decide),zb2 _ (by decide)] at i4;rcases p with⟨p1,p2,p3,p4,p5,p6,p7,p8,p9⟩
 rcases q with⟨q1,q2,q3,q4,q5,q6,q7,q8,q9⟩
 simp only at*;have f8:p8=q8:=by
  cases p8 <;> cases q8 <;> first | rfl | (simp at i9)
 subst hd;subst f8;have:p1=q1/\p2=q2/\p3=q3/\p4=q4/\p5=q5/\p6=q6/\p7=q7:=by omega
 obtain⟨rfl,rfl,rfl,rfl,rfl,rfl,rfl⟩:=this;rfl
end
end Go.Proofs.YtljogojaihgdlaaGreat
