/-
  Own work: an interpreter over named blocks, its soundness, and what the functions of this seat compute (part 10 of 12).
  Conditions: those of the statement alone.
-/
import Derived.Test.YtgplhpgkompkmaaGreatJi
set_option linter.all false
set_option linter.unusedSectionVars false
set_option linter.unusedVariables false
set_option linter.unusedSimpArgs false
namespace Go.Proofs.YtgplhpgkompkmaaGreat
noncomputable section
def Y5 {ca:Cache}(d:Lines ca.l){ak:Int}{e:Ent}(h:ca.find ak=some e):(ca.touch ak).find ak=some { e with used:=ca.dM+1 }:=by
 obtain⟨g,b⟩:=(jm d).1 h;rw[EY d h];unfold Cache.find;rw[jm (AA d λy _=>by
  split
  ·rename_i h;rw[h];exact b
  ·rfl)]
 exact⟨zaM.2 ⟨e,g,by rw[if_pos b]⟩,b⟩
def Jo {ca:Cache}(b:Lines ca.l){ak:Int}{e:Ent}(h:ca.find ak=some e):(ca.touch ak).dM=ca.dM+1:=by rw[EY b h]
def RQ {f:Fab}{i:Int}{req:Bool}(h:(f.take i req).2=none):(f.take i req).1=f:=by
 unfold Fab.take at h ⊢;split
 ·rename_i hi;rw[if_pos hi]at h;cases b:(f.port i).um req with
  |nil=>rfl
  |cons p l=>rw[b]at h;cases h
 ·rfl
structure ame(m:cO):Prop where
 ok:m.c.ok=true
 len:(m.aG.length:Int)=m.c.aG
 fab:xg m.c m.fab
 bH:∀(i:Nat) n,m.aG[i]?=some n->YB m.c i n
 evs:m.trace.length=(m.aG.map Node.evs).sum
def ade {α:Type}(f:α->Nat):∀{l:List α} {i:Nat} {a a':α},l[i]?=some a->((l.set i a').map f).sum+f a=(l.map f).sum+f a'
 |[],i,a,a',h=>by simp at h
 |x::l,0,a,a',h=>by
  simp only[zaY,zaa]at h;subst h;simp only[zb7,zaD,zda];omega
 |x::l,i+1,a,a',h=>by
  simp only[zbe]at h;have:=ade f (a':=a') h;simp only[zb8,zaD,zda];omega
section
variable {b:Nat}{H:ah}{g:bF}{q:Nat}{ca:Cache}
def adf(G:Good b H g)(hb:H.base<=b)(h:g q=some (dD ca))(C:COk ca)(p:Pkt):
  ∃H',cl 199 [.ref q 0 0,.agg p.av] H=some (ZH (fP ca p),H')/\Good b H' (upd g q (dD (fP ca p).1))/\Step b H H':=by
 by_cases d:(!p.ok || decide (p.aU<3) || decide (6<p.aU))=true
 ·exact RJ G hb h C p (.inl d)
 ·cases i:ca.find p.ak with
  |none=>exact RJ G hb h C p (.inr i)
  |some e=>exact afU G hb h C p d i
end
def fok {c:Cfg}(hc:c.ok=true){f:Fab}(F:xg c f):FOk c f:=by
 have B:=qP hc;refine⟨hc,by have:=F.len;have:=B.aG;omega,λp d s e=>?_,λp d s e q b=>?_⟩
 ·have P:=F.port p d
  match s,e with
  |0,_=>exact P.rq
  |1,_=>exact P.rin
  |2,_=>exact P.an
  |3,_=>exact P.ain
 ·have P:=F.port p d;have Q:yL c q:=by
   match s,e with
   |0,_=>exact P.pkt q (.inl b)
   |1,_=>exact P.pkt q (.inr (.inr (.inl b)))
   |2,_=>exact P.pkt q (.inr (.inl b))
   |3,_=>exact P.pkt q (.inr (.inr (.inr b)))
  have:=Q.ok;simp only[Pkt.ok,zah,decide_eq_true_eq]at this;omega
def RS {c:Cfg}{p:Pkt}(Q:yL c p):p.data.length<1000000000:=by
 have:=Q.ok;simp only[Pkt.ok,zah,decide_eq_true_eq]at this;omega
structure HSz(h:Home):Prop where
 t:TOk h.bf
 r:∀e∈h.dR,e.2.data.length<1000000000
def RU {h:Home}(b:∀e∈h.dR,e.2.data.length<1000000000)(ak:Int):(iK h.dR ak).data.length<1000000000:=by
 unfold iK;cases ha:jY h.dR ak with
 |none=>exact(show(0:Nat)<1000000000 by decide)
 |some r=>exact b _ (rH ha)
def nJ(c:Cfg)(me:Int)(n:Node)(p:Pkt):Node × Pkt × Bool:=
 if p.aU=1∨p.aU=2 then({ n with home:=(n.home.handle c me p).1 },(n.home.handle c me p).2.1,(n.home.handle c me p).2.2.1 && decide ((n.home.handle c me p).2.2.2=0))
 else({ n with aI:=(fP n.aI p).1 },(fP n.aI p).2.1,decide ((fP n.aI p).2.2=0))
def afY(c:Cfg)(me:Int)(n:Node)(f:Fab)(p:Pkt):n.asked c me f p=((nJ c me n p).1,if(nJ c me n p).2.2=true then(f.send (nJ c me n p).2.1).1 else f):=by
 unfold Node.asked nJ;split
 ·rcases h:n.home.handle c me p with⟨b,o,ok,e⟩
  simp
 ·rcases h:fP n.aI p with⟨b,o,e⟩
  simp
def RX {c:Cfg}{me:Int}{n:Node}(C:COk n.aI)(Z:HSz n.home)(p:Pkt):(nJ c me n p).2.1.data.length<1000000000:=by
 have b:(0:Nat)<1000000000:=J
 unfold nJ;split
 ·simp only[Home.handle]
  repeat' split
  all_goals first|exact b|exact RU Z.r _
 ·simp only[fP];split
  ·exact b
  ·cases d:n.aI.find p.ak with
   |none=>exact b
   |some e=>
    have g:=C.dat e (zbs d);simp only
    repeat' split
    all_goals first|exact b|exact g
section
variable {b:Nat}{H:ah}{g0:bF}{S:Ti}{c:Cfg}{me:Int}{k:Nat}{K K':ah}{g:bF}{ls:Lcl}{w w':NFT}
def adg(W:Walk b H g0 S c me k K g ls w)(hc:c.ok=true)(C:COk w.1.aI)(Z:HSz w.1.home)(p:Pkt)(hpl:p.data.length<1000000000):
  ∃K' g',cl 145 [.ref (S.a 0) 0 0,.agg p.av] K=some (.tup [.agg (nJ c me w.1 p).2.1.av,B (nJ c me w.1 p).2.2],K')/\Walk b H g0 S c me k K' g' ls ((nJ c me w.1 p).1,w.2):=by
 have W0:=Walk.of W.loc.good W.base W.RN;have W1:=W0.newL (ty:=81) (xs:=p.av) (r:=K.next) (aW p) rfl;have W2:=W1.newL (ty:=81) (xs:=zP9) (r:=K.next+1) rfl (by rw[eF]);have W3:=W2.newL (ty:=81) (xs:=zP9) (r:=K.next+1+1) rfl (by rw[eF,eF]);have k2:iH (iH noL K.next p.av) (K.next+1) zP9 K.next=some p.av:=by rw[aB (by omega),aj]
 have k3:iH (iH (iH noL K.next p.av) (K.next+1) zP9) (K.next+1+1) zP9 K.next=some p.av:=by rw[aB (by omega)];exact k2
 have k4:iH (iH (iH noL K.next p.av) (K.next+1) zP9) (K.next+1+1) zP9 (K.next+1)=some zP9:=by rw[aB (by omega),aj]
 have k5:iH (iH (iH noL K.next p.av) (K.next+1) zP9) (K.next+1+1) zP9 (K.next+1+1)=some zP9:=aj;have lk:=W2.loc.ld k2 (i:=0) (v:=I p.aU) rfl;have lp:=W3.loc.lda k3 (i:=0) (n:=9) (ys:=p.av) rfl rfl (by decide);have lh:=W3.ldN (i:=11) (v:=.ref (S.a 3) 0 0) rfl;have lc:=W3.ldN (i:=0) (v:=.ref (S.a 1) 0 0) rfl
 -- the end
 have fin:∀{K4:ah} {g4:bF} {n':Node} {out:Pkt} {v:AV},Walk b K (lay g ls) S c me w.2.1.l.length K4 g4 (iH (iH (iH noL K.next p.av) (K.next+1) zP9) (K.next+1+1) zP9) (n',w.2)->
   (∀f args,cl f args (((K.new (.blk 0 81 p.av)).new (.blk 0 81 zP9)).new (.blk 0 81 zP9))=some (v,K4)->
   (∀{β:Type} (kk:Option β),ckR (K.next+1+1) (K.next+1+1+1) (((K.new (.blk 0 81 p.av)).new (.blk 0 81 zP9)).new (.blk 0 81 zP9)) K4 kk=kk)/\
   ∃K5 K6 g',st 9 (.ref (K.next+1+1) 0 0) (.agg out.av) K4=some (aY,K5)/\lda 9 (.ref (K.next+1+1) 0 0) K5=some (.agg out.av,K5)/\st 9 (.ref (K.next+1) 0 0) (.agg out.av) K5=some (aY,K6)/\lda 9 (.ref (K.next+1) 0 0) K6=some (.agg out.av,K6)/\Walk b H g0 S c me k K6 g' ls (n',w.2)):=by
  intro K4 g4 n' out v W4 f args hcl;refine⟨λkk=>ard λr h1 h2=>?_,?_⟩
  ·obtain rfl:r=K.next+1+1:=by omega
   exact XK W3.loc.good W4.loc.good (XG _ _ _ _ _ hcl) (pR k5) (pR k5)
  ·obtain⟨K5,u1,u2,W5⟩:=W4.whole k5 (n:=9) (vs:=out.av) rfl (bZ _) (by decide) (aW _);obtain⟨K6,u3,u4,W6⟩:=W5.whole (r:=K.next+1) (xs:=zP9) (by rw[aB (by omega)];exact k4) (n:=9) (vs:=out.av) rfl (bZ _) (by decide) (aW _);obtain⟨g',W'⟩:=W.app (K':=K6) (w':=(n',w.2)) (by
    have:=W6.res;rw[W.len]at this;exact this)
   exact⟨K5,K6,g',u1,u2,u3,u4,W'⟩
 by_cases hk:p.aU=1∨p.aU=2
 ·have hm:nJ c me w.1 p=({ w.1 with home:=(w.1.home.handle c me p).1 },(w.1.home.handle c me p).2.1,(w.1.home.handle c me p).2.2.1 && decide ((w.1.home.handle c me p).2.2.2=0)):=by unfold nJ;rw[if_pos hk]
  rw[hm];have HI:=W3.RN.bH.2.2.2;obtain⟨K4,a1,a2,a3⟩:=acT W3.loc.good W3.base HI hc Z.t.nd Z.t.ws Z.r p hpl;have W4:=W3.home a2 a3;obtain⟨ck,K5,K6,g',u1,u2,u3,u4,W'⟩:=fin W4 _ _ a1 (out:=(w.1.home.handle c me p).2.1);refine⟨K6,g',bn rfl rfl (aik _ _ _ _ ?_),W'⟩;simp only[XI]at a1;obtain⟨ok,hok⟩:∃ok,(w.1.home.handle c me p).2.2.1=ok:=⟨_,rfl⟩
  rw[hok]at a1 ⊢;have cR:∀{β:Type} (kk:Option β),ckR ((K.new (.blk 0 81 p.av)).new (.blk 0 81 zP9)).next (((K.new (.blk 0 81 p.av)).new (.blk 0 81 zP9)).new (.blk 0 81 zP9)).next (((K.new (.blk 0 81 p.av)).new (.blk 0 81 zP9)).new (.blk 0 81 zP9)) K4 kk=kk:=by
   intro β kk;simp only[eF];exact ck kk
  rcases hk with h1|h1
  ·rw[h1]at lk;cases ok with
   |true=>simp only[Nat.reduceLT,xq_,La,aC (aW p),lk,lh,lp,a1,ck,u1,u2,u3,u4,zaJ]
   |false=>simp only[Nat.reduceLT,xq_,La,aC (aW p),lk,lh,lp,a1,ck,u1,u2,u3,u4,zaL]
  ·rw[h1]at lk;cases ok with
   |true=>simp only[Nat.reduceLT,Int.reduceEq,xq_,La,aC (aW p),lk,lh,lp,a1,ck,u1,u2,u3,u4,zaJ]
   |false=>simp only[Nat.reduceLT,Int.reduceEq,xq_,La,aC (aW p),lk,lh,lp,a1,ck,u1,u2,u3,u4,zaL]
 ·have hm:nJ c me w.1 p=({ w.1 with aI:=(fP w.1.aI p).1 },(fP w.1.aI p).2.1,decide ((fP w.1.aI p).2.2=0)):=by unfold nJ;rw[if_neg hk]
  rw[hm];obtain⟨K4,a1,a2,a3⟩:=adf W3.loc.good W3.base (W3.loc.obj W3.nw.bH.2.1) C p;have W4:=W3.aI a2 a3;obtain⟨ck,K5,K6,g',u1,u2,u3,u4,W'⟩:=fin W4 _ _ a1 (out:=(fP w.1.aI p).2.1);refine⟨K6,g',bn rfl rfl (aik _ _ _ _ ?_),W'⟩;have h1:¬p.aU=1:=λh=>hk (.inl h);have h2:¬p.aU=2:=λh=>hk (.inr h);simp only[ZH]at a1;simp only[Nat.reduceLT,xq_,La,aC (aW p),lk,h1,h2,lc,lp,a1,ck,u1,u2,u3,u4]
end
section
variable {b:Nat}{H:ah}{g0:bF}{S:Ti}{c:Cfg}{me:Int}{k:Nat}{K K':ah}{g:bF}{ls:Lcl}{w w':NFT}
def XM(f:Fab)(i:Int)(req:Bool):(f.take i req).1.l.length=f.l.length:=by
 unfold Fab.take;split
 ·split
  ·rfl
  ·simp[Fab.put]
 ·rfl
def Walk.Dq(W:Walk b H g0 S c me k K g ls w)(F:FOk c w.2.1):∃K' g',cl 144 [.ref S.f 0 0,I me] K=some (iG (w.2.1.take me true).2,K')/\Walk b H g0 S c me k K' g' ls (w.1,(w.2.1.take me true).1,w.2.2):=by
 obtain⟨K',n,d,e,h,i,j⟩:=Proofs.YtgplhpgkompkmaaGreat.Dq W.loc.good W.base W.RN.fab W.nw.Xt F me;obtain⟨g',m⟩:=W.net e h (XM _ _ _) i j;exact⟨K',g',d,m⟩
def Walk.OQ(W:Walk b H g0 S c me k K g ls w)(F:FOk c w.2.1):∃K' g',cl 134 [.ref S.f 0 0,I me] K=some (iG (w.2.1.take me false).2,K')/\Walk b H g0 S c me k K' g' ls (w.1,(w.2.1.take me false).1,w.2.2):=by
 obtain⟨K',n,d,e,h,i,j⟩:=Proofs.YtgplhpgkompkmaaGreat.OQ W.loc.good W.base W.RN.fab W.nw.Xt F me;obtain⟨g',m⟩:=W.net e h (XM _ _ _) i j;exact⟨K',g',d,m⟩
def Walk.room(W:Walk b H g0 S c me k K g ls w)(F:FOk c w.2.1)(req:Bool):∃K',cl 141 [.ref S.f 0 0,I me,B req] K=some (I (w.2.1.roomOf me req),K')/\Walk b H g0 S c me k K' g ls w:=by
 obtain⟨K',d,e,h⟩:=alr W.loc.good W.base W.RN.fab F me req;exact⟨K',d,W.same e h⟩
def Vk(W:Walk b H g0 S c me k K g ls w)(hc:c.ok=true)(F:xg c w.2.1)(C:COk w.1.aI)(Z:HSz w.1.home):
  ∃K' g',match(if w.2.1.roomOf me false=0 then(w.2.1,none)else w.2.1.take me true)with
   |(j,some p)=>cl 97 [.ref (S.a 0) 0 0,.ref S.f 0 0] K=some (B true,K')/\Walk b H g0 S c me k K' g' ls ((w.1.asked c me j p).1,(w.1.asked c me j p).2,w.2.2)
   |(_,none)=>cl 97 [.ref (S.a 0) 0 0,.ref S.f 0 0] K=some (B false,K')/\Walk b H g0 S c me k K' g' ls w:=by
 have X:=Walk.of W.loc.good W.base W.RN;have y:=X.ldN (i:=10) (v:=I me) rfl;obtain⟨K1,o,D⟩:=X.room (fok hc F) false;by_cases m:w.2.1.roomOf me false=0
 ·simp only[if_pos m];rw[m]at o;obtain⟨g',e⟩:=W.app (K':=K1) (w':=w) (by
   have:=D.res;rw[W.len]at this;exact this)
  refine⟨K1,g',bn rfl rfl (afc _ _ _ _ ?_),e⟩;simp only[xq_,abl,y,o]
 ·simp only[if_neg m];have h:=D.ldN (i:=10) (v:=I me) rfl;obtain⟨K2,g2,d,E⟩:=D.Dq (fok hc F);obtain⟨G,L⟩:=F.take me true;have M:=E.newL (ty:=81) (xs:=zP9) (r:=K2.next) rfl rfl;cases R:w.2.1.take me true with
  |mk j po=>
   rw[R]at d E M G L;simp only at d E M G L;obtain⟨K4,q,z,W4⟩:=M.whole aj (n:=9) (vs:=(po.getD .zero).av) rfl (bZ _) J (aW _);simp only[iG]at d;cases po with
   |none=>
    simp only[zaZ,zaK]at d q z;have T:j=w.2.1:=by
     have:=RQ (f:=w.2.1) (i:=me) (req:=true) (by rw[R]);rw[R]at this;exact this
    subst T;obtain⟨g',e⟩:=W.app (K':=K4) (w':=w) (by
     have:=W4.res;rw[W.len]at this;exact this)
    refine⟨K4,g',bn rfl rfl (afc _ _ _ _ ?_),e⟩;simp only[xq_,abl,y,o,m,h,d,q,zai]
   |some p=>
    simp only[zat,zaO]at d q z;have Q:=L p rfl;obtain⟨K5,g5,A,W5⟩:=adg W4 hc C Z p (RS Q);have W6:=W5.newL (ty:=81) (xs:=zP9) (r:=K5.next) rfl rfl;obtain⟨K7,u3,u4,W7⟩:=W6.whole aj (n:=9) (vs:=(nJ c me w.1 p).2.1.av) rfl (bZ _) J (aW _);simp only[afY];cases u:(nJ c me w.1 p).2.2 with
    |false=>
     rw[u]at A;obtain⟨g',e⟩:=W.app (K':=K7) (w':=((nJ c me w.1 p).1,j,w.2.2)) (by
      have:=W7.res;rw[W.len]at this;exact this)
     refine⟨K7,g',bn rfl rfl (afc _ _ _ _ ?_),by simpa using e⟩;simp only[xq_,abl,Oj,y,o,m,h,d,q,z,zae,A,u3]
    |true=>
     rw[u]at A;obtain⟨K8,g8,d1,W8⟩:=W7.send (fok hc G) (nJ c me w.1 p).2.1 (RX C Z p);obtain⟨g',e⟩:=W.app (K':=K8) (w':=((nJ c me w.1 p).1,(j.send (nJ c me w.1 p).2.1).1,w.2.2)) (by
      have:=W8.res;rw[W.len]at this;exact this)
     refine⟨K8,g',bn rfl rfl (afc _ _ _ _ ?_),by simpa using e⟩;simp only[xq_,abl,Oj,y,o,m,h,d,q,z,zae,A,u3,u4,d1]
def adh(W:Walk b H g0 S c me k K g ls w)(hc:c.ok=true)(F:xg c w.2.1)(Z:HSz w.1.home):
  ∃K' g',if w.1.home.ready≠[]/\w.2.1.roomOf me false≠0 then
    cl 96 [.ref (S.a 0) 0 0,.ref S.f 0 0] K=some (B true,K')/\Walk b H g0 S c me k K' g' ls ({ w.1 with home:=(w.1.home.grant me).1 },(w.2.1.send (w.1.home.grant me).2.1).1,w.2.2)
   else cl 96 [.ref (S.a 0) 0 0,.ref S.f 0 0] K=some (B false,K')/\Walk b H g0 S c me k K' g' ls w:=by
 have e:=Walk.of W.loc.good W.base W.RN;have p:=e.ldN (i:=11) (v:=.ref (S.a 3) 0 0) rfl;have A:=e.ldN (i:=10) (v:=I me) rfl;have j:=Y2 e.loc.good e.RN.bH.2.2.2 Z.t;by_cases m:w.1.home.ready=[]
 ·simp only[if_neg (show¬(w.1.home.ready≠[]/\w.2.1.roomOf me false≠0)from λh=>h.1 m)];have hd:decide (w.1.home.ready≠[])=false:=by rw[decide_eq_false];exact λh=>h m
  rw[hd]at j;refine⟨K,g,bn rfl rfl (akN _ _ _ _ ?_),W⟩;simp only[xq_,afb,p,j,zai]
 ·have hd:decide (w.1.home.ready≠[])=true:=decide_eq_true m;rw[hd]at j;obtain⟨C,q,d⟩:=e.room (fok hc F) false;by_cases o:w.2.1.roomOf me false=0
  ·simp only[if_neg (show¬(w.1.home.ready≠[]/\w.2.1.roomOf me false≠0)from λh=>h.2 o)];rw[o]at q;obtain⟨g',u⟩:=W.app (K':=C) (w':=w) (by
    have:=d.res;rw[W.len]at this;exact this)
   refine⟨C,g',bn rfl rfl (akN _ _ _ _ ?_),u⟩;simp only[xq_,afb,p,j,zae,A,q]
  ·simp only[if_pos (show w.1.home.ready≠[]/\w.2.1.roomOf me false≠0 from⟨m,o⟩)];have y:=d.ldN (i:=11) (v:=.ref (S.a 3) 0 0) rfl;obtain⟨E,G,L,M⟩:=afV d.loc.good d.base d.RN.bH.2.2.2 Z.t Z.r;have Q:=d.home L M;have R:=Q.newL (ty:=81) (xs:=zP9) (r:=E.next) rfl rfl;obtain⟨K4,T,X,W4⟩:=R.whole aj (n:=9) (vs:=(w.1.home.grant me).2.1.av) rfl (bZ _) J (aW _);have z:(w.1.home.grant me).2.1.data.length<1000000000:=by
    have z0:(0:Nat)<1000000000:=J
    unfold Home.grant
    repeat' split
    all_goals first|exact z0|exact RU Z.r _
   obtain⟨D,g5,d1,W5⟩:=W4.send (fok hc F) (w.1.home.grant me).2.1 z;obtain⟨g',u⟩:=W.app (K':=D) (w':=({ w.1 with home:=(w.1.home.grant me).1 },(w.2.1.send (w.1.home.grant me).2.1).1,w.2.2)) (by
    have:=W5.res;rw[W.len]at this;exact this)
   refine⟨D,g',bn rfl rfl (akN _ _ _ _ ?_),u⟩;simp only[xq_,afb,p,j,zae,A,q,o,y,G,T,X,d1]
def Walk.adi(W:Walk b H g0 S c me k K g ls w)(d:bU):∃K' g',st 9 (.ref (S.a 0) 0 12) (.agg d.av) K=some (aY,K')/\Walk b H g0 S c me k K' g' ls ({ w.1 with aJ:=d },w.2):=by
 obtain⟨K',j,h,m,_⟩:=W.loc.good.stores W.base (W.loc.obj W.nw.bH.1) (i:=12) (n:=9) (vs:=d.av) (by rw[iq];decide) rfl (bG d);have e:rE (yO S.a c me w.1.aJ w.1.num) 12 d.av=yO S.a c me d w.1.num:=rfl;rw[e]at h;exact⟨K',_,j,W.own h m⟩
def Walk.ark(W:Walk b H g0 S c me k K g ls w)(z:Int):∃K' g',st 1 (.ref (S.a 0) 0 21) (I z) K=some (aY,K')/\Walk b H g0 S c me k K' g' ls ({ w.1 with num:=z },w.2):=by
 obtain⟨K',h,d,j,_⟩:=W.loc.good.store W.base (W.loc.obj W.nw.bH.1) (i:=21) (v:=I z) (by rw[iq];decide) dV;have e:(yO S.a c me w.1.aJ w.1.num).set 21 (.av (I z))=yO S.a c me w.1.aJ z:=rfl;rw[e]at d;exact⟨K',_,h,W.own d j⟩
def BH(W:Walk b H g0 S c me k K g ls w)(hc:c.ok=true)(F:xg c w.2.1)(A:0<=w.1.num/\w.1.num<1000000)(aU ak:Int):
  ∃K' g',cl 149 [.ref (S.a 0) 0 0,.ref S.f 0 0,I aU,I ak] K=some (.tup [],K')/\Walk b H g0 S c me k K' g' ls ((w.1.begin_ c me w.2.1 aU ak).1,(w.1.begin_ c me w.2.1 aU ak).2,w.2.2):=by
 have j:=W.ldN (i:=21) (v:=I w.1.num) rfl;have m:=afR K aU ak w.1.num;obtain⟨C,D,n,h⟩:=W.adi (.begin aU ak w.1.num);have d:=h.ldN (i:=21) (v:=I w.1.num) rfl;have w1:=wrap_i64 (a:=w.1.num+1) V V;have e:=vk (P:=Tryz.prog) (k:=.i64) (t:=3) (a:=w.1.num+1) (b:=4096) J;obtain⟨E,G,o,p⟩:=h.ark ((w.1.num+1).tmod 4096);obtain⟨q,u,y,z⟩:=Vh p hc (fok hc F) (show(0:Nat)<1000000000 by decide);refine⟨q,u,bn rfl rfl (apj _ _ _ _ _ _ ?_),z⟩;simp only[xq_,aio,j,m,n,d,bI,w1,e,o,y]
end
def afZ:∀(n:Nat) (l:List Int),l.Nodup->(∀x∈l,0<=x/\x<n)->l.length<=n
 |0,[],_,_=>zac _
 |0,x::l,_,h=>by have:=h x O;omega
 |n+1,l,hd,h=>by
  by_cases hm:(n:Int)∈l
  ·have d:=afZ n (l.erase n) (hd.erase (n:Int)) λx b=>by
    have:=(hd.mem_erase_iff).1 b;have:=h x this.2;omega
   rw[zdi hm]at d;omega
  ·have:=afZ n l hd λx b=>by
    have:=h x b;have:x≠n:=λe=>hm (e ▸ b);omega
   omega
def cok {c:Cfg}(hc:c.ok=true){ca:Cache}(I:EZ c ca)(hk:ca.dM<1000000000):COk ca:=by
 have B:=qP hc;refine⟨?_,by rw[I.sets];exact B.sets.1,⟨I.akf,hk⟩,λe b=>?_,λe b=>?_⟩
 ·have d:(ca.l.map (·.ak)).Nodup:=zcj.2 I.aO;have:=afZ c.aO.toNat _ d λx g=>by
   obtain⟨e,b,rfl⟩:=zaM.1 g;have E:=I.ent e b;have d:=E.lo;have h:=E.hi;omega
  rw[zaz]at this;have:=B.aO;omega
 ·have:=(I.ent e b).dat.1;have:=B.aV;omega
 ·have:=I.ent e b;exact⟨this.u0,by have:=this.used;omega⟩
def psz {c:Cfg}{p:Proc}(I:arU c p):PSz p:=⟨by have:=I.most;omega,I.vals⟩
def hsz {c:Cfg}(hc:c.ok=true){me:Int}{n:Node}(I:YB c me n)(hw:∀ak,(n.home.bf.ws ak).length<1000000):HSz n.home:=by
 have B:=qP hc;have hk:∀e∈n.home.bf.wait,0<=e.1/\e.1<c.aO:=λe b=>by
  have:=I.home.here e b;unfold wZ at this;simp only[zah,decide_eq_true_eq]at this;omega
 refine⟨⟨I.home.bf.wk,λe b=>by have:=hk e b;have:=B.aO;omega,?_,hw⟩,λe b=>by have:=(I.dR e b).1;have:=B.aV;omega⟩;have:=afZ c.aO.toNat _ I.home.bf.wk λx d=>by
  obtain⟨e,b,rfl⟩:=zaM.1 d;have:=hk e b;omega
 rw[zaz]at this;have:=B.aO;omega
section
variable {b:Nat}{H:ah}{g0:bF}{S:Ti}{c:Cfg}{me:Int}{k:Nat}{K K':ah}{g:bF}{ls:Lcl}{w w':NFT}
def alG(c:Cfg)(me:Int)(n:Node)(f:Fab)(t:List Evn)(o:Opn):NFT:=
 let ak:=c.bW o.addr;let e:=n.aI.find ak
 if o.aU=4/\e=none then((n.done me t 0).1,f,(n.done me t 0).2)
 else if o.aU=4 then((n.begin_ c me f 3 ak).1,(n.begin_ c me f 3 ak).2,t)
 else if e.isSome=true/\(o.aU=1∨(e.getD .zero).bP=true)then
  let n:={ n with aI:=n.aI.touch ak }
  ((n.effect c me t).1,f,(n.effect c me t).2)
 else if n.aI.full ak=true then((n.begin_ c me f 3 ((n.aI.qB ak).getD 0)).1,(n.begin_ c me f 3 ((n.aI.qB ak).getD 0)).2,t)
 else if o.aU=1 then((n.begin_ c me f 1 ak).1,(n.begin_ c me f 1 ak).2,t)
 else((n.begin_ c me f 2 ak).1,(n.begin_ c me f 2 ak).2,t)
def alH(n:Node)(f:Fab)(t:List Evn)(o:Opn):n.work c me f t o=alG c me { n with dn:={ n.dn with fU:=true } } f (if n.dn.fU then t else t++[⟨me,n.dn.bT.length,false,0⟩]) o:=rfl
def XO(W:Walk b H g0 S c me k K g ls w)(hc:c.ok=true)(F:xg c w.2.1)(hp:PSz w.1.dn)(CI:EZ c w.1.aI)(hk:w.1.aI.dM<1000)(hn:0<=w.1.num/\w.1.num<1000000)(hl:w.2.2.length<1000000){r7:Nat}{o:Opn}(h7:ls r7=some o.av):
  ∃K' g',pI cl (.ref (S.a 0) 0 0) (.ref S.f 0 0) (.ref S.t 0 0) (.ref r7 0 0) K=some (B true,K')/\Walk b H g0 S c me k K' g' ls (alG c me w.1 w.2.1 w.2.2 o):=by
 have C:=cok hc CI (by omega);have W0:=Walk.of W.loc.good W.base W.RN;have lc:=W.arh (i:=2) (n:=8) (ys:=c.av) rfl rfl (by decide);have la:=W.loc.ld h7 (i:=1) (v:=I o.addr) rfl;obtain⟨ak,af0⟩:∃ak,c.bW o.addr=ak:=⟨_,rfl⟩
 have el:=I5 K c hc o.addr;rw[af0]at el;have l0:=W.ldN (i:=0) (v:=.ref (S.a 1) 0 0) rfl;have ef:=W.find C ak;obtain⟨fo,hfo⟩:∃fo,w.1.aI.find ak=fo:=⟨_,rfl⟩
 rw[hfo]at ef;simp only[jG]at ef;have hr7:r7<K.next:=W.loc.good.lt (pR h7)
 have W1:=W.newL (ty:=100) (xs:=zE6) (r:=K.next) rfl rfl;obtain⟨K2,u1,u2,W2⟩:=W1.whole aj (n:=6) (vs:=(fo.getD .zero).av) rfl rfl (by decide) (jO _);have k7:iH (iH ls K.next zE6) K.next (fo.getD .zero).av r7=some o.av:=by rw[aB (by omega),aB (by omega)];exact h7
 have lk:=W2.loc.ld k7 (i:=0) (v:=I o.aU) rfl;have ldd:=W2.loc.ld (r:=K.next) (xs:=(fo.getD .zero).av) aj (i:=4) (v:=B (fo.getD .zero).bP) rfl;have l02:=W2.ldN (i:=0) (v:=.ref (S.a 1) 0 0) rfl;have Vl:=Rt W2.loc.good (W2.loc.obj W2.nw.bH.2.1) C.len C.sets ak;have avg:=U5 W2.loc.good (W2.loc.obj W2.nw.bH.2.1) C.len C.sets C.used ak
 -- what is called is called of the bH
 have back:∀{K3:ah} {g3:bF} {w3:NFT},Walk b H g0 S c me k K3 g3 (iH (iH ls K.next zE6) K.next (fo.getD .zero).av) w3->∃g',Walk b H g0 S c me k K3 g' ls w3:=by
  intro K3 g3 w3 W3;refine⟨g3,W3.hb,⟨W3.loc.good.sub λq cs hq=>?_,λr hr=>?_⟩,W3.nw,W3.off,W3.step,W3.len⟩
  ·unfold lay at hq ⊢;by_cases hqr:q=K.next
   ·subst hqr;have hnone:ls K.next=none:=by
     cases e:ls K.next with
     |none=>rfl
     |some xs=>
      have:=W.loc.good.lt (pR (g:=g) e);omega
    rw[hnone]at hq;simp only at hq;have:=W3.loc.free K.next (by rw[aj];simp)
    rw[this]at hq;cases hq
   ·rw[aB hqr,aB hqr];exact hq
  ·refine W3.loc.free r ?_;have hne:r≠K.next:=λe=>by
    subst e;cases e2:ls K.next with
    |none=>exact hr e2
    |some xs=>
     have:=W.loc.good.lt (pR (g:=g) e2);omega
   rw[aB hne,aB hne];exact hr
 unfold alG;simp only[af0,hfo];by_cases h4:o.aU=4
 ·rw[h4]at lk;cases fo with
  |none=>
   rw[if_pos ⟨h4,rfl⟩];obtain⟨K3,g3,a1,W3⟩:=ac9 W2 hp hl 0;obtain⟨g',W'⟩:=back W3;refine⟨K3,g',?_,W'⟩;simp only[xq_,pI,mG,lc,la,el,l0,ef,u1,lk,zaK,zai,a1]
  |some e=>
   rw[if_neg (by simp),if_pos h4];obtain⟨K3,g3,a1,W3⟩:=BH W2 hc F hn 3 ak;obtain⟨g',W'⟩:=back W3;refine⟨K3,g',?_,W'⟩;simp only[Int.reduceEq,xq_,pI,mG,lc,la,el,l0,ef,u1,lk,zaO,zae,a1]
 ·rw[if_neg (λh=>h4 h.1),if_neg h4];by_cases hd:fo.isSome=true/\(o.aU=1∨(fo.getD .zero).bP=true)
  ·rw[if_pos hd];obtain⟨e,rfl⟩:=zcL.1 hd.1;obtain⟨K3,a1,a2,a3⟩:=YS W2.loc.good W2.base (W2.loc.obj W2.nw.bH.2.1) C.len C.clk ak;have W3:=W2.aI a2 a3;have hC:COk (w.1.aI.touch ak):=cok hc (CI.touch hfo) (by rw[Jo CI.aO hfo];omega);obtain⟨K4,g4,b1,W4⟩:=RP W3 hc hp hC hl;obtain⟨g',W'⟩:=back W4;refine⟨K4,g',?_,W'⟩;by_cases h1:o.aU=1
   ·rw[h1]at lk;simp only[Int.reduceEq,xq_,pI,mG,lc,la,el,l0,ef,u1,lk,zaO,a1,l02,b1]
   ·have hdd:=hd.2.resolve_left h1;rw[hdd]at ldd;simp only[xq_,pI,mG,lc,la,el,l0,ef,u1,lk,h4,h1,ldd,zaO,a1,l02,b1]
  ·rw[if_neg hd]
   -- the condition
   have hcond:∀(X Y:Option (AV × ah)),(fo.isSome=false)∨(fo.isSome=true/\¬o.aU=1/\(fo.getD .zero).bP=false):=λ_ _=>by
    cases h:fo.isSome with
    |false=>exact .inl rfl
    |true=>
     refine .inr ⟨rfl,λh1=>hd ⟨h,.inl h1⟩,?_⟩;cases h2:(fo.getD .zero).bP with
     |false=>rfl
     |true=>exact absurd ⟨h,.inr h2⟩ hd
   have hcond:=hcond none none;by_cases hfl:w.1.aI.full ak=true
   ·rw[if_pos hfl];rw[hfl]at Vl;obtain⟨K3,g3,a1,W3⟩:=BH W2 hc F hn 3 ((w.1.aI.qB ak).getD 0);obtain⟨g',W'⟩:=back W3;refine⟨K3,g',?_,W'⟩;rcases hcond with hs|⟨hs,h1,h2⟩
    ·rw[hs]at ef;simp only[xq_,pI,mG,lc,la,el,l0,ef,u1,lk,h4,l02,Vl,avg,a1]
    ·rw[hs]at ef;rw[h2]at ldd;simp only[xq_,pI,mG,lc,la,el,l0,ef,u1,lk,h4,h1,ldd,l02,Vl,avg,a1]
   ·rw[if_neg hfl];have hff:w.1.aI.full ak=false:=by cases h:w.1.aI.full ak <;> simp_all
    rw[hff]at Vl;by_cases h1:o.aU=1
    ·rw[if_pos h1];obtain⟨K3,g3,a1,W3⟩:=BH W2 hc F hn 1 ak;obtain⟨g',W'⟩:=back W3;refine⟨K3,g',?_,W'⟩;have hs:fo.isSome=false:=hcond.resolve_right λh=>h.2.1 h1;rw[hs]at ef;rw[h1]at lk;simp only[Int.reduceEq,xq_,pI,mG,lc,la,el,l0,ef,u1,lk,l02,Vl,a1]
    ·rw[if_neg h1];obtain⟨K3,g3,a1,W3⟩:=BH W2 hc F hn 2 ak;obtain⟨g',W'⟩:=back W3;refine⟨K3,g',?_,W'⟩;rcases hcond with hs|⟨hs,_,h2⟩
     ·rw[hs]at ef;simp only[xq_,pI,mG,lc,la,el,l0,ef,u1,lk,h4,h1,l02,Vl,a1]
     ·rw[hs]at ef;rw[h2]at ldd;simp only[xq_,pI,mG,lc,la,el,l0,ef,u1,lk,h4,h1,ldd,l02,Vl,a1]
end
section
variable {b:Nat}{H:ah}{g0:bF}{S:Ti}{c:Cfg}{me:Int}{k:Nat}{K K':ah}{g:bF}{ls:Lcl}{w w':NFT}
def Walk.to(W:Walk b H g0 S c me k K g ls w){K':ah}{d:bF}{e:Lcl}(h:Walk b K (lay g ls) S c me w.2.1.l.length K' d e w'):∃g',Walk b H g0 S c me k K' g' ls w':=
 W.app (by have:=h.res;rw[W.len]at this;exact this)
def adk(W:Walk b H g0 S c me k K g ls w)(hc:c.ok=true)(F:xg c w.2.1)(q:YB c me w.1)(R:0<=w.1.num/\w.1.num<1000000)(hl:w.2.2.length<999999):
  ∃K' g',match w.1.dn.cur with
   |some o=>if w.1.aJ.step=0 then cl 98 [.ref (S.a 0) 0 0,.ref S.f 0 0,.ref S.t 0 0] K=some (B true,K')/\Walk b H g0 S c me k K' g' ls (w.1.work c me w.2.1 w.2.2 o)
     else cl 98 [.ref (S.a 0) 0 0,.ref S.f 0 0,.ref S.t 0 0] K=some (B false,K')/\Walk b H g0 S c me k K' g' ls w
   |none=>cl 98 [.ref (S.a 0) 0 0,.ref S.f 0 0,.ref S.t 0 0] K=some (B false,K')/\Walk b H g0 S c me k K' g' ls w:=by
 have P:=psz q.dn;have u:w.1.aI.dM<1000:=by have:=q.clk;have:=q.dn.vals;have:=q.dn.most;omega
 have T:=Walk.of W.loc.good W.base W.RN;have C:=T.ldN (i:=1) (v:=.ref (S.a 2) 0 0) rfl;obtain⟨D,m,W1⟩:=T.cur P;have W2:=W1.newL (ty:=61) (xs:=[zI,zI,zI]) (r:=D.next) rfl rfl;obtain⟨X,E,b2,h⟩:=W2.whole aj (n:=3) (vs:=w.1.dn.op.av) rfl (eU _) J (oz _);have k7:iH (iH noL D.next [zI,zI,zI]) D.next w.1.dn.op.av D.next=some w.1.dn.op.av:=aj
 have j:=h.ldN (i:=15) (v:=I w.1.aJ.step) rfl;cases d:w.1.dn.cur with
 |none=>
  rw[d]at m;simp only[zaK]at m;obtain⟨g',p⟩:=W.to h;refine⟨X,g',bn rfl rfl (afd _ _ _ _ _ ?_),p⟩;simp only[xq_,abm,C,m,E,zai]
 |some o=>
  rw[d]at m;simp only[zaO]at m;by_cases G:w.1.aJ.step=0;rotate_left
  ·simp only[if_neg G];obtain⟨g',p⟩:=W.to h;refine⟨X,g',bn rfl rfl (afd _ _ _ _ _ ?_),p⟩;simp only[Nat.reduceAdd,xq_,abm,C,m,E,zae,zai,j,G]
  ·simp only[if_pos G];rw[G]at j;have y:w.1.dn.op=o:=by simp only[Proc.op,d,zat]
   have z:w.1.dn.idx=w.1.dn.bT.length:=by simp only[Proc.idx,d]
   have lp:=h.ldN (i:=1) (v:=.ref (S.a 2) 0 0) rfl;have L:=acn h.loc.good (h.loc.obj h.nw.bH.2.2.1);rw[alH];cases e:w.1.dn.fU with
   |true=>
    rw[e]at L;have he:({ w.1 with dn:={ w.1.dn with fU:=true } }:Node)=w.1:=by
     rcases hw:w.1 with⟨ca,pr,ho,de,nu⟩
     rw[hw]at e;simp only at e;rcases pr with⟨x1,x2,x3⟩
     simp only at e;subst e;rfl
    rw[he];simp only[if_true];obtain⟨K4,g4,M,A⟩:=XO h hc F P q.aI u R V (o:=w.1.dn.op) k7;rw[y]at A;obtain⟨g',p⟩:=W.to A;refine⟨K4,g',bn rfl rfl (afd _ _ _ _ _ ?_),p⟩;simp only[Nat.reduceAdd,xq_,abm,C,m,E,zae,j,lp,L,M]
   |false=>
    rw[e]at L;simp only[zal,if_false];obtain⟨v,K4,d1,d2,d3⟩:=ac5 h.loc.good h.base (h.loc.obj h.nw.bH.2.2.1) P.ops (by have:=P.ops;have:=P.vals;omega) P.vals;have Q:w.1.dn.Aq={ w.1.dn with fU:=true }:=by
     unfold Proc.Aq;rw[if_neg (by rw[e,d];simp)]
    rw[Q]at d2;have A:=h.dn d2 d3;have li:=A.ldN (i:=10) (v:=I me) rfl;obtain⟨K5,g5,e1,W5⟩:=A.ari (show w.2.2.length<1000000 by omega) me w.1.dn.idx;obtain⟨K6,g6,M,W6⟩:=XO W5 hc F (show PSz ({ w.1.dn with fU:=true }:Proc)from⟨P.ops,P.vals⟩) q.aI u R (by simp only[zar,zak,zan];omega) (o:=w.1.dn.op) k7;rw[y,z]at W6;obtain⟨g',p⟩:=W.to W6;refine⟨K6,g',bn rfl rfl (afd _ _ _ _ _ ?_),p⟩;simp only[Nat.reduceAdd,xq_,abm,C,m,E,zae,zai,j,lp,L,d1,li,e1,M]
def Y6(W:Walk b H g0 S c me k K g ls w)(hc:c.ok=true)(F:xg c w.2.1)(E:YB c me w.1)(hl:w.2.2.length<999999)(ad:w.1.aJ.data.length<1000000000):
  ∃K' g',match w.2.1.take me false with
   |(f',some p)=>cl 95 [.ref (S.a 0) 0 0,.ref S.f 0 0,.ref S.t 0 0] K=some (B true,K')/\Walk b H g0 S c me k K' g' ls (w.1.answered c me f' w.2.2 p)
   |(_,none)=>cl 95 [.ref (S.a 0) 0 0,.ref S.f 0 0,.ref S.t 0 0] K=some (B false,K')/\Walk b H g0 S c me k K' g' ls w:=by
 have P:=psz E.dn;have Bd:=qP hc;have am:w.1.aI.dM<1000:=by have:=E.clk;have:=E.dn.vals;have:=E.dn.most;omega
 have C:=cok hc E.aI V;have W0:=Walk.of W.loc.good W.base W.RN;have A:=W0.ldN (i:=10) (v:=I me) rfl;obtain⟨K1,g1,j,W1⟩:=W0.OQ (fok hc F);obtain⟨F1,Q1⟩:=F.take me false;have W2:=W1.newL (ty:=81) (xs:=zP9) (r:=K1.next) rfl rfl;cases ht:w.2.1.take me false with
 |mk f' po=>
  rw[ht]at j W1 W2 F1 Q1;simp only at j W1 W2 F1 Q1;obtain⟨K3,o,u,W3⟩:=W2.whole aj (n:=9) (vs:=(po.getD .zero).av) rfl (bZ _) J (aW _);simp only[iG]at j;cases po with
  |none=>
   simp only[zaZ,zaK]at j o u;have ae:f'=w.2.1:=by
    have:=RQ (f:=w.2.1) (i:=me) (req:=false) (by rw[ht]);rw[ht]at this;exact this
   subst ae;obtain⟨g',m⟩:=W.to W3;refine⟨K3,g',bn rfl rfl (YI _ _ _ _ _ ?_),m⟩;simp only[xq_,Oi,A,j,o,zai]
  |some p=>
   simp only[zat,zaO]at j o u;have Q:=Q1 p rfl;obtain⟨K4,g4,y,W4⟩:=afW W3 C ad p (RS Q);unfold Node.answered;obtain⟨ca,d,ok,hA⟩:∃ca d ok,w.1.after me p=(ca,d,ok):=⟨_,_,_,rfl⟩
   rw[hA]at y W4;simp only[uK]at y W4;simp only[hA];have W5:=W4.newL (ty:=73) (xs:=zD9) (r:=K4.next) rfl rfl;obtain⟨K6,G,u4,W6⟩:=W5.whole aj (n:=9) (vs:=d.av) rfl rfl J (bG d);cases ok with
   |false=>
    simp only[if_true];obtain⟨g',m⟩:=W.to W6;refine⟨K6,g',bn rfl rfl (YI _ _ _ _ _ ?_),m⟩;simp only[xq_,Oi,A,j,o,u,zae,y,G,zai]
   |true=>
    simp only[zbK,if_false];have hs:w.1.aJ.step≠0:=λh0=>by
     have L:w.1.aJ.fits p=false:=by unfold bU.fits;rw[h0];simp[Aj,DW]
     rw[su,BG L]at hA;simp[yK]at hA
    have NX:=OW E.aI (E.aJ hs) hs Q (by rw[<-su];exact hA);have aa:d.data.length<1000000000:=by
     rcases NX.dat with h|h
     ·rw[h];decide
     ·have:=h.1;have:=Bd.aV;omega
    have af:ca.dM<1000000000:=by rcases NX.clk with h|h <;> omega
    have C2:COk ca:=cok hc NX.inv af;obtain⟨K7,g7,c1,W7⟩:=W6.adi d;have lp:=W7.ldN (i:=1) (v:=.ref (S.a 2) 0 0) rfl;obtain⟨K8,d1,W8⟩:=W7.cur P;have W9:=W8.newL (ty:=61) (xs:=[zI,zI,zI]) (r:=K8.next) rfl rfl;obtain⟨ag,u5,u6,e⟩:=W9.whole aj (n:=3) (vs:=w.1.dn.op.av) rfl (eU _) J (oz _);have ao:K4.next<K8.next:=W8.loc.good.lt (q:=K4.next) (pR (g:=g7) aj)
    have k9:iH (iH (iH (iH (iH (iH noL K1.next zP9) K1.next p.av) K4.next zD9) K4.next d.av) K8.next [zI,zI,zI]) K8.next w.1.dn.op.av K4.next=some d.av:=by
     rw[aB V,aB V,aj]
    have z:=e.loc.ld k9 (i:=3) (v:=I d.step) rfl;have D:=e.loc.ld k9 (i:=0) (v:=I d.aU) rfl;have lo:=e.loc.ld (r:=K8.next) (xs:=w.1.dn.op.av) aj (i:=0) (v:=I w.1.dn.op.aU) rfl;by_cases h0:d.step=0
    ·simp only[if_pos h0];rw[h0]at z;by_cases L:d.aU=3/\w.1.dn.op.aU=4
     ·simp only[if_pos L];rw[L.1]at D;rw[L.2]at lo;obtain⟨ab,ai,e1,M⟩:=ac9 e P (show w.2.2.length<1000000 by omega) 0;obtain⟨g',m⟩:=W.to M;refine⟨ab,g',bn rfl rfl (YI _ _ _ _ _ ?_),m⟩;simp only[Int.reduceEq,xq_,Oi,A,j,o,u,zae,y,G,u4,c1,lp,d1,u5,z,D,lo,e1]
     ·simp only[if_neg L];obtain⟨g',m⟩:=W.to e;refine⟨ag,g',bn rfl rfl (YI _ _ _ _ _ ?_),m⟩;by_cases hk:d.aU=3
      ·have ho:¬w.1.dn.op.aU=4:=λh=>L ⟨hk,h⟩;rw[hk]at D;simp only[Int.reduceEq,xq_,Oi,A,j,o,u,zae,y,G,u4,c1,lp,d1,u5,z,D,lo,ho]
      ·simp only[Int.reduceEq,xq_,Oi,A,j,o,u,zae,y,G,u4,c1,lp,d1,u5,z,D,hk]
    ·simp only[if_neg h0];by_cases h6:d.step=6/\d.aU≠3
     ·simp only[if_pos h6];rw[h6.1]at z;have hk:=h6.2;simp only[ne_eq]at hk;obtain⟨ab,ai,e1,M⟩:=RP e hc P C2 (show w.2.2.length<1000000 by omega);obtain⟨R,al,e2,T⟩:=Vh M hc (fok hc F1) aa;obtain⟨g',m⟩:=W.to T;refine⟨R,g',bn rfl rfl (YI _ _ _ _ _ ?_),m⟩;simp only[Int.reduceEq,xq_,Oi,IZ,A,j,o,u,zae,y,G,u4,c1,lp,d1,u5,z,D,hk,zai,e1,e2]
     ·simp only[if_neg h6];obtain⟨R,al,e2,T⟩:=Vh e hc (fok hc F1) aa;obtain⟨g',m⟩:=W.to T;refine⟨R,g',bn rfl rfl (YI _ _ _ _ _ ?_),m⟩;by_cases X:d.step=6
      ·have hk:d.aU=3:=Classical.byContradiction λh=>h6 ⟨X,h⟩;rw[X]at z;rw[hk]at D;simp only[Int.reduceEq,xq_,Oi,IZ,A,j,o,u,zae,y,G,u4,c1,lp,d1,u5,z,D,zae,e2]
      ·simp only[xq_,Oi,IZ,A,j,o,u,zae,y,G,u4,c1,lp,d1,u5,z,h0,X,e2]
def af2(W:Walk b H g0 S c me k K g ls w)(hc:c.ok=true)(F:xg c w.2.1)(e:YB c me w.1)(X:0<=w.1.num/\w.1.num<1000000)(Q:w.2.2.length<999999)(v:w.1.aJ.data.length<1000000000)(hw:∀ak,(w.1.home.bf.ws ak).length<1000000):
  ∃K' g',cl 49 [.ref (S.a 0) 0 0,.ref S.f 0 0,.ref S.t 0 0] K=some (I (w.1.step c me w.2.1 w.2.2).2,K')/\Walk b H g0 S c me k K' g' ls (w.1.step c me w.2.1 w.2.2).1:=by
 have Z:=hsz hc e hw;have C:=cok hc e.aI (by have:=e.clk;have:=e.dn.vals;have:=e.dn.most;omega);unfold Node.step;obtain⟨K1,g1,y⟩:=Y6 W hc F e Q v;cases ht:w.2.1.take me false with
 |mk f' po=>
  rw[ht]at y;cases po with
  |some p=>
   obtain⟨h,z⟩:=y;refine⟨K1,g1,bn rfl rfl (YG _ _ _ _ _ ?_),z⟩;simp only[xq_,UC,h]
  |none=>
   obtain⟨h,z⟩:=y;simp only;obtain⟨K2,g2,u⟩:=adh z hc F Z;by_cases R:w.1.home.ready≠[]/\w.2.1.roomOf me false≠0
   ·rw[if_pos R]at u ⊢;obtain⟨i,A⟩:=u;refine⟨K2,g2,bn rfl rfl (YG _ _ _ _ _ ?_),A⟩;simp only[xq_,UC,h,i]
   ·rw[if_neg R]at u ⊢;obtain⟨i,A⟩:=u;obtain⟨K3,g3,D⟩:=Vk A hc F C Z;cases hr:(if w.2.1.roomOf me false=0 then(w.2.1,none)else w.2.1.take me true)with
    |mk f2 E=>
     rw[hr]at D;cases E with
     |some p=>
      obtain⟨j,G⟩:=D;refine⟨K3,g3,bn rfl rfl (YG _ _ _ _ _ ?_),G⟩;simp only[xq_,UC,h,i,j]
     |none=>
      obtain⟨j,G⟩:=D;simp only;obtain⟨L,M,d⟩:=adk G hc F e X Q;cases m:w.1.dn.cur with
      |none=>
       rw[m]at d;obtain⟨n,q⟩:=d;refine⟨L,M,bn rfl rfl (YG _ _ _ _ _ ?_),q⟩;simp only[xq_,UC,h,i,j,n]
      |some o=>
       rw[m]at d;simp only at d ⊢;by_cases T:w.1.aJ.step=0
       ·rw[if_pos T]at d ⊢;obtain⟨n,q⟩:=d;refine⟨L,M,bn rfl rfl (YG _ _ _ _ _ ?_),q⟩;simp only[xq_,UC,h,i,j,n]
       ·rw[if_neg T]at d ⊢;obtain⟨n,q⟩:=d;refine⟨L,M,bn rfl rfl (YG _ _ _ _ _ ?_),q⟩;simp only[xq_,UC,h,i,j,n]
end
def af4 {H:ah}{r:Nat}{o:gB}(h:H.get r=o):H.put r o=H:=by
 subst h;unfold ah.put;have:(λx=>if x=r then H.get r else H.get x)=H.get:=by
  funext x
  split
  ·rename_i e;rw[e]
  ·rfl
 rw[this]
def alI {H:ah}{r:Nat}{o b:gB}:(H.put r o).put r b=H.put r b:=by
 unfold ah.put
 congr 1
 funext x
 simp only;split <;> rfl
def sU(bit mask:Int)(i:Nat)(l:List By):List By:=l.mapIdx λj c=>if j<i then c ^^^ vJ bit mask j else c
def qN(bit mask:Int)(i:Nat)(l:List By):(sU bit mask i l).length=l.length:=by simp[sU]
def Y7(bit mask:Int)(l:List By):sU bit mask 0 l=l:=by
 unfold sU
 apply zbc
 intro i;rw[za9];cases l[i]? <;> simp
def adl(bit mask:Int)(l:List By):sU bit mask l.length l=qF bit mask l:=by
 unfold sU qF
 apply zbc
 intro i;rw[za9,za9];cases h:l[i]? with
 |none=>rfl
 |some c=>simp[(zaf.1 h).1]
def RY(bit mask:Int){i:Nat}{l:List By}{c:By}(h:l[i]?=some c):(sU bit mask i l)[i]?=some c:=by
 unfold sU;rw[za9,h];simp
def LV(bit mask:Int){i:Nat}{l:List By}{c:By}(h:l[i]?=some c):sU bit mask (i+1) l=(sU bit mask i l).set i (c ^^^ vJ bit mask i):=by
 apply zbc
 intro j;have hi:=(zaf.1 h).1;unfold sU;rw[za9,zcV,za9,zcS];by_cases e:i=j
 ·subst e;rw[if_pos rfl,if_pos hi,h];simp
 ·rw[if_neg e];cases g:l[j]? with
  |none=>rfl
  |some d=>
   simp only[zaj]
   congr 1
   by_cases b:j<i
   ·rw[if_pos b,if_pos V]
   ·rw[if_neg b,if_neg V]
def Dw(bit mask:Int){i:Nat}{l:List By}{c:By}(h:l[i]?=some c)(hm:vJ bit mask i=0#8):sU bit mask (i+1) l=sU bit mask i l:=by
 rw[LV bit mask h,hm,zdx]
 apply zbc
 intro j;rw[zcV];split
 ·rename_i e;subst e;split
  ·rw[RY bit mask h]
  ·rename_i b;rw[zaI V]
 ·rfl
def Y8 {K0:ah}{r n:Nat}{l:List By}{bit mask:Int}(hb:qC bit)(h0:0<=mask)(D:mask<=65535)(Q:l.length<1000)(R:r<K0.next)(g:K0.base<=r):
  ∀(k i:Nat),i+k=l.length->Fe cl0 [I bit,.s (.int .u16 mask),.sl r 0 0 1 l.length l.length false,I l.length,I i] (K0.put r (.blk 0 (5+gV) ((sU bit mask i l).map Y)))
   =some (.sl r 0 0 1 l.length l.length false,K0.put r (.blk 0 (5+gV) ((sU bit mask l.length l).map Y))):=by
 obtain⟨T,W⟩:=hb;intro k
 induction k with
 |zero=>
  intro i hi;have D:¬((i:Int)<l.length):=V
  obtain rfl:i=l.length:=V
  rw[WL];simp only[Int.reduceNeg,xq_,D]
 |succ k X=>
  intro i hi;have o:(i:Int)<l.length:=V
  have p:(i:Int)+1=((i+1:Nat):Int):=V
  have q:=wrap_i64 (a:=((i+1:Nat):Int)) V V;obtain⟨c,hc⟩:∃c,l[i]?=some c:=⟨_,zab V⟩
  have u:=wrap_i64 (a:=8*(i:Int)) V V;have b:=X (i+1) V;rw[WL];by_cases aa:8*(i:Int)-bit<9223372036854775808
  ·have w:=wrap_i64 (a:=8*(i:Int)-bit) V V;by_cases h:8*(i:Int)-bit<=-8
   ·have hm:vJ bit mask i=0#8:=by unfold vJ;rw[if_pos (.inl h)]
    rw[Dw bit mask hc hm]at b;simp only[Int.reduceNeg,xq_,o,iM,u,lH,w,h,yg,bI,p,q,b]
   by_cases E:16<=8*(i:Int)-bit
   ·have hm:vJ bit mask i=0#8:=by unfold vJ;rw[if_pos (.inr E)]
    rw[Dw bit mask hc hm]at b;simp only[Int.reduceNeg,xq_,o,iM,u,lH,w,h,E,yg,bI,p,q,b]
   have hd:∃d:Int,8*(i:Int)-bit=d/\-8<d/\d<16:=⟨_,rfl,V,V⟩
   obtain⟨d,hd,ab,ad⟩:=hd;have z:=wrap_i64 (a:=d+8) V V;have A:=wrap_i64 (a:=d) V V;have ds:¬(d<=-8):=V
   have db:¬(16<=d):=V
   obtain⟨m,rfl⟩:∃m:Nat,mask=m:=⟨mask.toNat,V⟩
   have ae:AV.s (.int .u16 (m:Int))=U16 (BitVec.ofNat 16 m):=by
    have hv:(((BitVec.ofNat 16 m).toNat:Nat):Int)=m:=by rw[zct,zcq V]
    show AV.s (.int .u16 (m:Int))=AV.s (.int .u16 (((BitVec.ofNat 16 m).toNat:Nat):Int));rw[hv]
   let K:ah:=K0.put r (.blk 0 (5+gV) ((sU bit m i l).map Y));have j:dJ K (.sl r 0 0 1 l.length l.length false) (sU bit m i l):=by
    refine⟨⟨O,rfl,(qN ..).symm,⟨R,zac _⟩,_,_,uz,?_,?_⟩,by rw[qN];exact Q⟩
    ·rw[zaz,qN];omega
    ·rw[qN,zby,zaS,zay (by rw[zaz,qN];exact zac _)]
   have F:ix 1 (.sl r 0 0 1 l.length l.length false) (I i) K=some (.ref r 0 i,K):=by
    have:=j.ix (i:=i) (by rw[qN];omega)
    simpa [eP]using this
   have G:ld (.ref r 0 i) K=some (Y c,K):=by
    have:=j.ld (RY bit m hc)
    simpa [eP]using this
   have L:cv 42 260 (.s (.int .u16 (m:Int))) K=some (U32 (BitVec.ofNat 32 m),K):=by
    refine(aaE (k:=.u16) (n:=(m:Int)) (H:=K)).trans ?_;rw[AP (k:=.u32) rfl];rfl
   let y:BitVec 32:=BitVec.ofNat 32 m <<< 8;let e:BitVec 32:=y <<< (d+8).toNat;have e2:bi .shl 260 (U32 (BitVec.ofNat 32 m)) (.s (.int .u64 8))=some (U32 y):=aa4 (k:=.u32) rfl _ 8 J J;have e3:bi .shl 260 (U32 y) (I (d+8))=some (U32 e):=aa4 (k:=.u32) rfl y (d+8) V (show d+8<=(32:Int) by omega);have e4:bi .shr 260 (U32 e) (.s (.int .u64 24))=some (U32 (e >>> 24)):=akk (k:=.u32) e 24 J J;have C:cv 260 5 (U32 (e >>> 24)) K=some (Y ((e >>> 24).setWidth 8),K):=
    (aeO (k:=.u32) (n:=((e >>> 24).toNat:Int)) (H:=K)).trans (congrArg (λv=>some (v,K)) (anv (k:=.u32) (k':=.u8) rfl _))
   have hm:(e >>> 24).setWidth 8=vJ bit m i:=by
    unfold vJ;rw[if_neg (by rw[hd];omega),hd];rfl
   rw[hm]at C;have e6:bi .xor 5 (Y c) (Y (vJ bit m i))=some (Y (c ^^^ vJ bit m i)):=akj (k:=.u8) rfl _ _;have M:st 1 (.ref r 0 i) (Y (c ^^^ vJ bit m i)) K=some (aY,K0.put r (.blk 0 (5+gV) ((sU bit m (i+1) l).map Y))):=by
    refine(Ws (H:=K) (r:=r) (gg:=0) (off:=i) (ty:=5+gV) (xs:=(sU bit m i l).map Y) (v:=Y (c ^^^ vJ bit m i)) dV uz g (by rw[zaz,qN];omega)).trans ?_;show some (aY,(K0.put r _).put r _)=_;rw[alI,LV bit m hc,List.map_set]
   simp only[K]at F G L C M;simp only[Int.reduceNeg,xq_,o,iM,u,lH,hd,A,ds,db,F,G,L,e2,e3,e4,C,e6,M,z,yg,bI,p,q,b]
  ·have w:IntKind.i64.wrap (8*(i:Int)-bit)=8*(i:Int)-bit-18446744073709551616:=by
    simp only[IntKind.wrap,IntKind.signed,IntKind.bits];simp;omega
   have h:8*(i:Int)-bit-18446744073709551616<=-8:=V
   have hm:vJ bit mask i=0#8:=by unfold vJ;rw[if_pos (.inr V)]
   rw[Dw bit mask hc hm]at b;simp only[Int.reduceNeg,xq_,o,iM,u,lH,w,h,yg,bI,p,q,b]
def arl {H:ah}(hb:H.base<=H.next){x:AV}{l:List By}(hx:dJ H x l)(hl:l≠[]){bit mask:Int}(hbit:qC bit)(h0:0<=mask)(h1:mask<=65535):
  ∃r H',cl0 130 [x,I bit,.s (.int .u16 mask)] H=some (.sl r 0 0 1 l.length l.length false,H')/\Gro H H'/\dJ H' (.sl r 0 0 1 l.length l.length false) (qF bit mask l)/\H'.base<=H'.next:=by
 let H1:=H.new (.blk 0 5 []);let K0:=H1.new (.blk 0 (5+gV) (l.map Y));have e1:=ab9 hx hl;have n1:H1.next=H.next+1:=eF
 have n2:K0.next=H.next+1+1:=by simp only[K0,eF,n1]
 have g:Gro H K0:=(Gro.new H 0 _ _).trans (Gro.new H1 0 _ _);have at_:K0.get (H.next+1)=.blk 0 (5+gV) (l.map Y):=aP n1.symm;have ps:K0.put (H.next+1) (.blk 0 (5+gV) ((sU bit mask 0 l).map Y))=K0:=by rw[Y7];exact af4 at_
 have lp:=Y8 (K0:=K0) (r:=H.next+1) (n:=0) (l:=l) hbit h0 h1 hx.small (by omega) (by rw[g.base];omega) l.length 0 (by omega);rw[ps]at lp;have ln:lnS (.sl (H.next+1) 0 0 1 l.length l.length false) K0=some (I l.length,K0):=rfl;refine⟨H.next+1,K0.put (H.next+1) (.blk 0 (5+gV) ((sU bit mask l.length l).map Y)),iR (aoT _ _ _ _ _ ?_),g.put (by omega),?_,by show K0.base<=K0.next;rw[g.base];omega⟩
 ·simp only[xq_,ah7,e1];exact lp
 ·rw[adl];refine⟨⟨by simp,rfl,(jo ..).symm,⟨by show H.next+1<K0.next;omega,zac _⟩,_,_,uz,?_,?_⟩,by rw[jo];exact hx.small⟩
  ·rw[zaz,jo];omega
  ·rw[jo,zby,zaS,zay (by rw[zaz,jo];exact zac _)]
def auB(c:By):yOf (Y c)=some c:=by
 have h:=c.isLt;show(if(0:Int)<=(c.toNat:Int)/\(c.toNat:Int)<256 then some (BitVec.ofInt 8 (c.toNat:Int))else none)=some c;rw[if_pos ⟨V,V⟩,qG]
def ajw:∀l:List By,(l.map Y).mapM yOf=some l
 |[]=>rfl
 |c::l=>by rw[zaD,zbC,auB,ajw l];rfl
def Y9 {H:ah}{r n:Nat}{l:List By}(e:l.length=n)(h:dJ H (.sl r 0 0 1 n n false) l)(h0:0<n)(g:n<=800):IE (.sl r 0 0 1 n n false) H=some l:=by
 subst e;obtain⟨⟨j,_,_,⟨k,_⟩,m,all,i,b,d⟩,o⟩:=h;rw[zby]at d b;simp only[IE,i];rw[if_pos ⟨trivial,trivial,b,h0,g⟩,<-d];exact ajw l
def RZ(p:Pkt):(sS p).length=12+8*p.data.length:=by
 rw[rO];rfl
def adn {H:ah}{r:Nat}{p:Pkt}(g:p.fit){bit mask:Int}(h0:0<=mask)(i:mask<=65535){n:Nat}(o:n=(sS p).length)(h:dJ H (.sl r 0 0 1 n n false) (qF bit mask (sS p))):
  cl 129 [.sl r 0 0 1 n n false] H=some (if bf p.bytes bit mask=true then .tup [.agg Pkt.zero.av,I 2]else .tup [.agg p.av,I 0],H):=by
 refine zq (p:=CY) rfl ?_;have ok:=g.ok;simp only[Pkt.ok,zah,decide_eq_true_eq]at ok;have j:=RZ p;unfold CY;simp only[Y9 (by rw[jo,o]) h V V];by_cases e:bf p.bytes bit mask=true
 ·rw[if_pos e];have d:∀y,qF bit mask (sS p)≠jQ y:=λy=>Uu h0 i (by
   have:(jQ (fG p)).length=p.bytes:=rO p;rw[this];exact e)
  rw[dif_neg (λ⟨q,_,u⟩=>d _ u.symm),if_pos d]
 ·rw[if_neg e];have k:qF bit mask (sS p)=sS p:=YE h0 i (by rw[rO];simpa using e);have b:∃q:Pkt,q.fit/\sS q=qF bit mask (sS p):=⟨p,g,k.symm⟩
  rw[dif_pos b];have m:=Classical.choose_spec b;have:Classical.choose b=p:=afJ m.1 g (m.2.trans k);rw[this]
def XP(p:Pkt)(n:Int):Frz 9 (.tup [.agg p.av,I n]):=wW λx b=>by
 simp only[zao,zaB,or_false]at b;rcases b with rfl|rfl
 ·exact mF λx b=>by
   simp only[Pkt.av,zao,zaB,or_false]at b;rcases b with rfl|rfl|rfl|rfl|rfl|rfl|rfl|rfl|rfl <;> first|exact fC|exact sK
 ·exact fC
def alJ(H:ah){p:Pkt}(hp:p.fit){bit mask:Int}(hbit:qC bit)(h0:0<=mask)(h1:mask<=65535):
  cl 90 [.agg p.av,I bit,.s (.int .u16 mask)] H=some (if bf p.bytes bit mask=true then .tup [.agg Pkt.zero.av,I 2]else .tup [.agg p.av,I 0],H):=by
 have ax:p.av=p.avx (dat p.data):=rfl;let o1:gB:=.blk 0 81 p.av;let o2:gB:=.blk 0 81 zPk;let K:=(H.guard.new o1).new o2;have hlen:=RZ p;have hK:K.base<=K.next:=by simp only[K,jh,eF];exact(by omega:H.next<=H.next+1+1)
 obtain⟨y,K1,e1,g1,b1,hb1⟩:=aqS hK p (pX K p.data) hp.ok;rw[<-ax]at e1;have e1':cl 128 [.agg p.av] K=some (.tup [y,I 0],K1):=zq (p:=cl0 128) rfl e1;obtain⟨r,K2,e2,g2,b2,hb2⟩:=arl hb1 b1 (bit:=bit) (mask:=mask) (λe=>by rw[e]at hlen;simp at hlen;omega) hbit h0 h1;have e2':cl 130 [y,I bit,.s (.int .u16 mask)] K1=some (_,K2):=zq (p:=cl0 130) rfl e2;have e3:=adn hp h0 h1 rfl b2;have hR:K2.get (H.next+1)=o2:=by
  rw[g2.same _ (zax (show H.next+1<K.next by simp only[K,eF];exact zc4 _) g1.next),g1.same _ (by simp only[K,eF];exact zc4 _)];exact aP rfl
 have hbase:K2.base<=H.next+1:=by
  rw[g2.base,g1.base];exact za8 _
 have key:∀q:Pkt,st 9 (.ref (H.next+1) 0 0) (.agg q.av) K2=some (aY,K2.put (H.next+1) (.blk 0 81 q.av))/\lda 9 (.ref (H.next+1) 0 0) (K2.put (H.next+1) (.blk 0 81 q.av))=some (.agg q.av,K2.put (H.next+1) (.blk 0 81 q.av)):=λq=>by
  refine⟨?_,(iP (off:=0) (n:=9) uz (zac _)).trans rfl⟩;rw[Wu (aW _) (show q.av.length=9 from rfl) hR hbase (by decide)];rfl
 have l1:lda 9 (.ref H.next 0 0) K=some (.agg p.av,K):=by
  have:K.get H.next=.blk 0 81 p.av:=by
   simp only[K];rw[bC (by rw[eF];exact zc4 _)];exact aP rfl
  exact(iP (off:=0) (n:=9) this (zac _)).trans rfl
 by_cases ht:bf p.bytes bit mask=true
 ·rw[if_pos ht]at e3 ⊢;refine bg rfl rfl (aoq _ _ _ _ _) ?_ (XP _ _);obtain⟨k1,k2⟩:=key .zero;simp only[K,o1,o2]at e1' l1;have n1:H.guard.next=H.next:=rfl
  simp only[Nat.reduceLT,xq_,hq_,akJ,aC,l1,e1',e2',e3,k1,k2,zae]
 ·rw[if_neg ht]at e3 ⊢;refine bg rfl rfl (aoq _ _ _ _ _) ?_ (XP _ _);obtain⟨k1,k2⟩:=key p;simp only[K,o1,o2]at e1' l1;have n1:H.guard.next=H.next:=rfl
  simp only[Nat.reduceLT,xq_,hq_,akJ,aC,l1,e1',e2',e3,k1,k2,zae]
def XQ:∀(l:List Port) (i:Nat) (k:Nat) {j:Nat} {k':Int},xH (l.flatMap λp=>[p.rq,p.an]) (2*i) (k:Int)=some (j,k')->Ak l i k=some (j / 2,decide (j % 2=0),k'.toNat)
 |[],i,k,j,k',h=>by cases h
 |p::l,i,k,j,k',h=>by
  simp only[zaE,za3,zaN,xH]at h;simp only[Ak];by_cases b:k<p.rq.length
  ·rw[if_pos ⟨V,V⟩]at h;cases h;rw[if_pos b,show 2*i / 2=i by omega,show 2*i % 2=0 by omega];rfl
  ·rw[if_neg (λe=>b V)]at h;rw[if_neg b];by_cases d:k<p.rq.length+p.an.length
   ·rw[if_pos ⟨V,V⟩]at h;cases h;rw[if_pos d,show(2*i+1) / 2=i by omega,show(2*i+1) % 2=1 by omega];simp only[zaa,zad,true_and];exact⟨O,V⟩
   ·rw[if_neg (λe=>d V)]at h;rw[if_neg d];rw[show(k:Int)-p.rq.length-p.an.length=((k-(p.rq.length+p.an.length):Nat):Int) by omega,show 2*i+1+1=2*(i+1) by omega]at h;exact XQ l (i+1) _ h
def av7 {b:Nat}{K:ah}{d:bF}{r:Nat}{ys:List AV}(k:Good b K d)(hk:K.base<=b)(m:d r=some (ys.map Cell.av))(g:ys.length=2){y:List AV}(h:y.length=2)(ha:y.all AV.aS=true):
  ∃K',st 2 (.ref r 0 0) (.agg y) K=some (aY,K')/\Good b K' (upd d r (y.map Cell.av))/\Step b K K':=by
 obtain⟨K',o,j,p,q⟩:=k.stores hk m (i:=0) (n:=2) (vs:=y) (by simp[g]) h ha;have e:rE (ys.map Cell.av) 0 y=y.map Cell.av:=by
  unfold rE;rw[zaP (by simp[h,g])];simp
 rw[e]at j;exact⟨K',o,j,p⟩
def ado {fab:Fab}{d:Nat}{req:Bool}{l:List Pkt}:(fab.put d ((fab.port d).lq req l)).jA=fab.jA:=by
 unfold Fab.jA Fab.put;rw[zam];have key:∀(ls:List Port) (d:Nat),((ls.set d ((ls.getD d .zero).lq req l)).flatMap λp=>[p.rq,p.an])=ls.flatMap λp=>[p.rq,p.an]:=by
  intro ls
  induction ls with
  |nil=>intro d;rfl
  |cons p ls b=>
   intro d;cases d with
   |zero=>cases req <;> simp[Port.lq]
   |succ d=>simpa using b d
 have:=key fab.l d;unfold Fab.port;rw[zam];exact this
def XR:∀(ls:List Port) (j:Nat) {l:List Pkt},(ls.flatMap λp=>[p.rq,p.an])[j]?=some l->(ls.getD (j / 2) .zero).sort (decide (j % 2=0))=l
 |[],j,l,h=>by simp at h
 |p::ls,0,l,h=>by simpa [Port.sort]using h
 |p::ls,1,l,h=>by simpa [Port.sort]using h
 |p::ls,j+2,l,h=>by
  have b:(ls.flatMap λp=>[p.rq,p.an])[j]?=some l:=by simpa using h
  have:=XR ls j b;rw[show(j+2) / 2=j / 2+1 by omega,show(j+2) % 2=j % 2 by omega]
  simpa using this
section
variable {b:Nat}{H:ah}{g:bF}{f:Nat}{P:Nat->Nat->Nat}{c:Cfg}{fab:Fab}
def Za(G:Good b H g)(hb:H.base<=b)(F:iD g f P c fab)(J:UW P fab.l.length)(K:FOk c fab)(h0:fab.l.length≠0)(ag:∀p∈fab.all,p.fit/\fab.is p.dst=true){at_ bit mask:Int}(ai:qC at_)(al:qC bit)(m0:0<=mask)(m1:mask<=65535):
  ∃H' g',cl 48 [.ref f 0 0,I at_,I bit,.s (.int .u16 mask)] H=some (I (fab.deliver at_ bit mask).2,H')/\Good b H' g'/\iD g' f P c (fab.deliver at_ bit mask).1/\Off (PE P fab.l.length) g g'/\Step b H H':=by
 have a8:H.base<=H.next:=zav hb G.1
 have ab:∀l∈fab.jA,l.length<1000/\∀p∈l,p.data.length<1000000000:=by
  intro l W;unfold Fab.jA at W;obtain⟨p,C,W⟩:=za5.1 W;simp only[zao,zaB,or_false]at W;rcases W with rfl|rfl
  ·exact⟨K.small C (s:=0) ZS,K.dat p C 0 ZS⟩
  ·exact⟨K.small C (s:=2) ZS,K.dat p C 2 ZS⟩
 have e1:=acH G F K.len h0 ab at_ ai;have E:g H.next=none:=G.isNone (zac _)
 have G1:=G.newObj (ty:=81) (xs:=zP9) rfl;obtain⟨K1,s1,l1,G2,S2⟩:=alu G1 (by rw[jh];exact hb) aT rfl (y:=((fab.pkt at_).getD .zero).av) (bZ _) (aW _);rw[pz]at G2;have X:=(Step.new (.blk 0 81 zP9) G.1).trans S2;cases C:fab.pkt at_ with
 |none=>
  have hd:fab.deliver at_ bit mask=(fab,3):=by
   unfold Fab.deliver;unfold Fab.pkt at C;split at C
   ·rename_i h;rw[if_pos h]
   ·rename_i h;rw[if_neg h,C]
  rw[hd];rw[C]at e1 s1;refine⟨K1,g,bn rfl rfl (ae6 _ _ _ _ _ _ ?_),G2.sub ((uJ.refl g).more E _),F,Off.refl _ _,X⟩;simp only[iG,zaZ,zaK]at e1 s1;simp only[xq_,abf,e1,s1,zai]
 |some p=>
  rw[C]at e1 s1 l1 G2;simp only[iG,zat,zaO]at e1 s1 l1 G2;have am:¬at_<0:=by
   intro h;unfold Fab.pkt at C;rw[if_pos h]at C;cases C
  have L:fab.all[at_.toNat]?=some p:=by
   unfold Fab.pkt at C
   rwa [if_neg am]at C
  obtain⟨pf,pd⟩:=ag p (zas L);have e2:=alJ K1 pf al m0 m1;have hd:fab.deliver at_ bit mask=if bf p.bytes bit mask=true then(fab,2)else
    if fab.room (rG p.aU)<=((fab.port p.dst).um (rG p.aU)).length then(fab,5)else
    ((fab.put p.dst ((fab.port p.dst).lq (rG p.aU) ((fab.port p.dst).um (rG p.aU)++[p]))).remove at_.toNat,0):=by
   unfold Fab.deliver;rw[if_neg am,L]
  have ao:K1.base<=b:=by rw[X.base];exact hb
  by_cases ht:bf p.bytes bit mask=true
  ·rw[if_pos ht]at e2 hd;rw[hd];obtain⟨K2,s3,l3,G3,S3⟩:=alu G2 ao aT (bZ _) (y:=Pkt.zero.av) (bZ _) (aW _);rw[pz]at G3;refine⟨K2,g,bn rfl rfl (ae6 _ _ _ _ _ _ ?_),G3.sub ((uJ.refl g).more E _),F,Off.refl _ _,X.trans S3⟩;simp only[Int.reduceEq,xq_,abf,e1,s1,zae,l1,e2,s3,zai]
  rw[if_neg ht]at e2 hd;rw[hd];obtain⟨K2,s3,l3,G3,S3⟩:=alu G2 ao aT (bZ _) (y:=p.av) (bZ _) (aW _);rw[pz]at G3;have ap:=X.trans S3;have F3:=F.sub ((uJ.refl g).more E (p.av.map Cell.av));obtain⟨d,az,z⟩:=Bz pd;obtain⟨x,r,gg,o,h1,h2,h3⟩:=BA G3 F3 z;have D:ld (.ref H.next 0 2) K2=some (I p.dst,K2):=G3.load aT (i:=2) rfl;have M:ld (.ref H.next 0 0) K2=some (I p.aU,K2):=G3.load aT (i:=0) rfl;let req:=rG p.aU;have rq:=LH K2.guard p.aU;obtain⟨K3,t1,t2⟩:=Gf K2.guard (zac _) (P d) req;obtain⟨K3,t1,t2⟩:=drawn t1 t2;have G4:=G3.ext t2.next t2.same
  have aD:K3.base<=b:=by rw[t2.base,ap.base];exact hb
  have aE:Step b K2 K3:=⟨t2.base,t2.next,λr hr=>t2.same r (zax hr G3.1)⟩
  have l9:lda 9 (.ref H.next 0 0) K3=some (.agg p.av,K3):=G4.loads aT (i:=0) (n:=9) (xs:=p.av) rfl rfl ZS;have aq:=gY (F3.port z) (rZ req);have hR:=LQ K.ok (iIx req);obtain⟨K4,q1,q2,q3⟩:=afg G4 aD aq hR.1 hR.2 (K.small (Fab.vN z) (rZ req)) p (by have:=pf.ok;simp only[Pkt.ok,zah,decide_eq_true_eq]at this;omega);rw[Jk]at q1 q2;have Q:PG c (iIx req)=fab.room req:=by
   have aL:fab.inn=c.inn:=F.2.2.2;unfold Fab.room;cases req <;> simp[iIx,PG,aL]
  have ar:=K.box _ (Fab.vN z) _ (rZ req);rw[Jk]at ar;have f1:(afQ (P d) req)[1]?=some (.ref (P d (iIx req)) 0 0):=rfl;have ad:=(ap.trans aE).trans q3;have aM:K4.base<=b:=by rw[ad.base];exact hb
  have R:p.dst=(d:Int):=az;have a9:P d (iIx req)≠H.next:=λe=>F.Vf G ⟨d,iIx req,z,rZ req,e.symm⟩
  by_cases u:PG c (iIx req)=(((fab.port d).um req).length:Int)
  ·rw[if_pos u]at q1 q2;rw[if_pos (show fab.room (rG p.aU)<=((fab.port p.dst).um (rG p.aU)).length by rw[R];show fab.room req<=_;rw[<-Q];exact Int.le_of_eq u)];rw[fO (by rw[aq,Jk])]at q2;refine⟨K4,g,bn rfl rfl (ae6 _ _ _ _ _ _ ?_),q2.sub ((uJ.refl g).more E _),F,Off.refl _ _,ad⟩;rw[R]at D;simp only[req]at rq t1 f1 q1;simp only[Int.reduceEq,xq_,abf,e1,s1,zae,l1,e2,s3,h1,D,h2,h3,M,rq,t1,f1,l9,q1,zai]
  ·rw[if_neg u]at q1 q2;rw[if_neg (show¬fab.room (rG p.aU)<=((fab.port p.dst).um (rG p.aU)).length by rw[R];show¬fab.room req<=_;rw[<-Q];exact λh=>u (Int.le_antisymm h ar))];have F4:=F3.fill J z (rZ req) (p':=(fab.port d).lq req ((fab.port d).um req++[p])) (l:=(fab.port d).um req++[p]) (Dn _ _ _);rw[R];show∃H' g',_/\_/\iD g' f P c ((fab.put d ((fab.port d).lq req ((fab.port d).um req++[p]))).remove at_.toNat)/\_/\_;generalize ae:fab.put d ((fab.port d).lq req ((fab.port d).um req++[p]))=OY at*;have T:OY.jA=fab.jA:=by rw[<-ae];exact ado
   have w:OY.l.length=fab.l.length:=by rw[<-ae];simp[Fab.put]
   have e5:=acG q2 F4 (by rw[w];exact K.len) (by rw[w];exact h0) (λl W=>(ab l (by rw[<-T];exact W)).1) at_ ai;rw[T]at e5;cases hf:xH fab.jA 0 at_ with
   |none=>
    exfalso;have:=Di hf;rw[show fab.jA.flatten=fab.all from Dj fab.l]at this;have h2:=(zaf.1 L).1;omega
   |some jk=>
    obtain⟨j,k⟩:=jk;rw[hf]at e5;obtain⟨_,l,z2,z3,z4,z5,z6⟩:=uy hf;rw[Nat.sub_zero]at z2;have hj:j<2*fab.l.length:=by
     have:=(zaf.1 z2).1
     rwa [Fab.jA,qJ]at this
    have af:j / 2<OY.l.length:=by rw[w];omega
    obtain⟨kn,rfl⟩:∃kn:Nat,k=kn:=⟨k.toNat,V⟩
    have aR:Ak OY.l 0 at_.toNat=some (j / 2,decide (j % 2=0),kn):=by
     have hh:=XQ OY.l 0 at_.toNat (j:=j) (k':=kn) (by
      show xH OY.jA 0 _=_;rw[T,zbH V];exact hf)
     simpa using hh
    have a0:xI P (some (j,(kn:Int)))=.tup [.agg (kU P j),I kn,B true]:=rfl;rw[a0]at e5;let m:Bool:=decide (j % 2=0);have hP:(if j % 2=0 then 0 else 2)=oIx m:=by
     by_cases h:j % 2=0 <;> simp[m,h,oIx]
    have aa:=acF F4 (j:=j) (l:=l) (by rw[T];exact z2);rw[hP]at aa;have ba:=gY (F4.port af) (uF m);have W:(OY.port (j / 2:Nat)).sort m=l:=by
     have:=XR OY.l j (show OY.jA[j]?=some l by rw[T];exact z2);unfold Fab.port;rw[zam];exact this
    have a1:kn<l.length:=V
    obtain⟨a2,a3⟩:=ab l (zas z2);have n4:(upd (upd g H.next (p.av.map Cell.av)) (P d (iIx req)) (nO ((fab.port d).um req++[p]) (PG c (iIx req)))) K4.next=none:=q2.isNone (zac _)
    have G5:=q2.newObj (ty:=121) (xs:=[zP,zP]) rfl;obtain⟨K5,u1,G6,S6⟩:=av7 G5 (by rw[jh];exact aM) aT rfl (y:=kU P j) rfl rfl;rw[pz]at G6;have u2:ld (.ref K4.next 0 0) K5=some (.ref (P (j / 2) (oIx m)) 0 0,K5):=by
     refine G6.load aT (i:=0) ?_;rw[<-hP];rfl
    have aw:=(ad.trans (Step.new _ q2.1)).trans S6;have a4:K5.base<=b:=by rw[aw.base];exact hb
    have a5:P (j / 2) (oIx m)≠K4.next:=λe=>by rw[e,n4]at aa;cases aa
    obtain⟨v,K6,y1,G7,S7⟩:=YX G6 a4 (by rw[bD a5];exact aa) a2 a3 kn a1;have ax:UW P OY.l.length:=by rw[w];exact J
    have F7:=F4.fill ax af (uF m) (p':=(OY.port (j / 2:Nat)).drop m kn) (l:=l.eraseIdx kn) (by
     intro t ht;have:=zQ (OY.port (j / 2:Nat)) m (l.eraseIdx kn) t ht;unfold Port.drop;rw[W];exact this)
    have a6:OY.remove at_.toNat=OY.put (j / 2:Nat) ((OY.port (j / 2:Nat)).drop m kn):=by
     unfold Fab.remove;rw[aR]
    rw[a6];rw[rY]at F7;let g':=upd (upd g (P d (iIx req)) (nO ((fab.port d).um req++[p]) (PG c (iIx req)))) (P (j / 2) (oIx m)) (nO (l.eraseIdx kn) c.out);have bb:P (j / 2) (oIx m)≠H.next:=λe=>F.Vf G ⟨j / 2,oIx m,V,uF m,e.symm⟩
    have a7:uJ g' (upd (upd (upd g H.next (p.av.map Cell.av)) (P d (iIx req)) (nO ((fab.port d).um req++[p]) (PG c (iIx req)))) (P (j / 2) (oIx m)) (nO (l.eraseIdx kn) c.out)):=(((uJ.refl g).more E _).both _ _).both _ _;have F8:iD g' f P c (OY.put (j / 2:Nat) ((OY.port (j / 2:Nat)).drop m kn)):=by
     have hJ:UW P fab.l.length:=J;have A:=F.fill J z (rZ req) (p':=(fab.port d).lq req ((fab.port d).um req++[p])) (l:=(fab.port d).um req++[p]) (Dn _ _ _);rw[ae]at A;have B:=A.fill ax af (uF m) (p':=(OY.port (j / 2:Nat)).drop m kn) (l:=l.eraseIdx kn) (by
      intro t ht;have:=zQ (OY.port (j / 2:Nat)) m (l.eraseIdx kn) t ht;unfold Port.drop;rw[W];exact this)
     rw[rY]at B;exact B
    refine⟨K6,g',bn rfl rfl (ae6 _ _ _ _ _ _ ?_),G7.sub λq cs hq=>?_,F8,(Off.upd ⟨d,iIx req,z,rZ req,rfl⟩).trans (Off.upd ⟨j / 2,oIx m,V,uF m,rfl⟩),aw.trans S7⟩
    ·rw[R]at D;simp only[req]at rq t1 f1 q1;simp only[xq_,abf,e1,s1,zae,l1,e2,s3,h1,D,h2,h3,M,rq,t1,f1,l9,q1,e5,u1,u2,y1]
    ·have:=a7 q cs hq;by_cases e:q=P (j / 2) (oIx m)
     ·subst e;rw[aT]at this ⊢;exact this
     ·rw[bD e]at this ⊢;have h4:q≠K4.next:=λe'=>by rw[e',n4]at this;cases this
      rw[bD h4];exact this
end
def Td.ask {t:Turns}(h:Td t)(ak who id:Int):Td (t.ask ak who id).1:=by
 unfold Turns.ask;split
 ·exact h
 split
 ·refine⟨h.ok,h.oge,x9 h.wk _ _,λe b w hw=>?_⟩;rcases rJ b with rfl|b
  ·rcases zaQ.1 hw with hw|hw
   ·unfold Turns.ws at hw;cases ha:jY t.wait ak with
    |none=>rw[ha]at hw;cases hw
    |some ws=>rw[ha]at hw;exact h.wge _ (rH ha) w hw
   ·simp only[zaV]at hw;subst hw;simp only;omega
  ·exact h.wge e b w hw
 ·refine⟨x9 h.ok _ _,λe b=>?_,h.wk,h.wge⟩;rcases rJ b with rfl|b
  ·simp only;omega
  ·exact h.oge e b
def Td.release {t:Turns}(h:Td t)(ak who:Int):Td (t.release ak who).1:=by
 unfold Turns.release;split
 ·refine⟨?_,λe b=>h.oge e (QI b),h.wk,h.wge⟩;show((Ai t.iF ak).map (·.1)).Nodup;rw[KW];exact h.ok.erase _
 ·exact h
def Td.next {t:Turns}(h:Td t)(ak:Int):Td (t.next ak).1:=by
 unfold Turns.next
 split
 ·exact h
 split
 ·exact h
 ·rename_i w ws hw;have d:∀x∈w::ws,0<=x.1:=by
   unfold Turns.ws at hw;cases e:jY t.wait ak with
   |none=>rw[e]at hw;cases hw
   |some l=>
    rw[e]at hw;rw[show l=w::ws from hw]at e;exact h.wge _ (rH e)
  refine⟨x9 h.ok _ _,λe b=>?_,x9 h.wk _ _,λe b x g=>?_⟩
  ·rcases rJ b with rfl|b
   ·exact d w O
   ·exact h.oge e b
  ·rcases rJ b with rfl|b
   ·exact d x (zbb _ g)
   ·exact h.wge e b x g
def yP(c:Cfg)(me:Int)(h:Home):Prop:=∀ak,wZ c me ak=true->∃row,jY h.dR ak=some row
def af5 {c:Cfg}{dR:Rows}{ak state head:Int}{data:List Int}{m:Int}(h:∃row,jY dR m=some row):∃row,jY (jy c dR ak state head data).1 m=some row:=by
 unfold jy;cases jY dR ak with
 |none=>exact h
 |some r=>
  simp only;split
  ·exact h
  split
  ·exact h
  ·rw[lQ];split
   ·exact⟨_,rfl⟩
   ·exact h
section
variable {c:Cfg}{me:Int}{h:Home}
def Zb(hc:c.ok=true)(I:ake c me h)(R:yP c me h)(p:Pkt):ake c me (h.handle c me p).1/\yP c me (h.handle c me p).1:=by
 unfold Home.handle;split
 ·exact⟨I,R⟩
 rename_i d;have b:0<=p.ak:=by
  simp only[zbu,zbj,not_or,zcW,zah]at d;have:=d.1.1.1;simp only[Pkt.ok,zah,decide_eq_true_eq]at this;omega
 split
 ·exact⟨I,R⟩
 rename_i g;have i:wZ c me p.ak=true:=by
  cases e:wZ c me p.ak with
  |true=>rfl
  |false=>exact absurd ((QK hc b).2 e) g
 split
 ·have key:ake c me { h with bf:=(h.bf.ask p.ak p.src p.id).1 }/\yP c me { h with bf:=(h.bf.ask p.ak p.src p.id).1 }:=⟨⟨I.bf.ask _ _ _,λe j=>by
   rcases aeT j with h|h
   ·rw[h];exact i
   ·exact I.here e h⟩,R⟩
  simp only;split <;> exact key
 ·have key:ake c me (h.unlock c p).1/\yP c me (h.unlock c p).1:=by
   unfold Home.unlock;generalize (if p.flag=true then p.data else [])=dat;split
   ·exact⟨I,R⟩
   ·simp only;split
    ·exact⟨⟨I.bf.release _ _,by simp only[QJ];exact I.here⟩,λak k=>af5 (R ak k)⟩
    ·exact⟨I,R⟩
  simp only;split <;> exact key
def adq(I:ake c me h)(R:yP c me h):ake c me (h.grant me).1/\yP c me (h.grant me).1:=by
 unfold Home.grant;cases i:h.ready with
 |nil=>exact⟨I,R⟩
 |cons ak l=>
  obtain⟨m,n,j⟩:=Aw i;have k:wZ c me ak=true:=by
   obtain⟨e,d,rfl⟩:=zaM.1 j;exact I.here e d
  have b:∀e∈(h.bf.next ak).1.wait,wZ c me e.1=true:=λe d=>by
   rcases aaT d with h|h
   ·exact I.here e h
   ·rw[h.1];exact k
  have g:=I.bf.next ak
  simp only;cases ha:h.bf.next ak with
  |mk t o=>
   rw[ha]at b g;cases o with
   |none=>exact⟨I,R⟩
   |some w=>exact⟨⟨g,b⟩,R⟩
def Jp(R:yP c me h)(d:∀e∈h.dR,pG c e.2.data){ak:Int}(g:wZ c me ak=true)(who id:Int):(granted h.dR me ak who id).ok=true->yL c (granted h.dR me ak who id):=by
 intro hk;obtain⟨row,b⟩:=R ak g;have hd:pG c (iK h.dR ak).data:=by
  unfold iK;rw[b];exact d _ (rH b)
 exact⟨hk,λ_=>hd,hd.2⟩
def Zc(hc:c.ok=true)(R:yP c me h)(g:∀e∈h.dR,pG c e.2.data)(p:Pkt):(h.handle c me p).2.1.ok=true->yL c (h.handle c me p).2.1:=by
 unfold Home.handle;have z:Pkt.zero.ok=true->yL c Pkt.zero:=yx rfl (by simp[Pkt.zero]);split
 ·exact z
 rename_i d;have b:0<=p.ak:=by
  simp only[zbu,zbj,not_or,zcW,zah]at d;have:=d.1.1.1;simp only[Pkt.ok,zah,decide_eq_true_eq]at this;omega
 split
 ·exact z
 rename_i i;have j:wZ c me p.ak=true:=by
  cases e:wZ c me p.ak with
  |true=>rfl
  |false=>exact absurd ((QK hc b).2 e) i
 split
 ·simp only;split
  ·exact Jp R g j _ _
  ·exact z
 ·simp only;split
  ·exact yx rfl O
  ·exact z
end
structure ajx(c:Cfg)(me:Int)(n:Node)(t:List Evn)(A:NFT):Prop where
 inv:YB c me A.1
 dR:yP c me A.1.home
 fab:xg c A.2.1
 evs:A.2.2.length+n.evs=t.length+A.1.evs
section
variable {c:Cfg}{me:Int}{n:Node}{f:Fab}{t:List Evn}{o:Opn}{e:Ent}
def Si(g:n.dn.cur=some o)(hb:n.dn.fU=true)(h:n.aI.find (c.bW o.addr)=some e):
  n.effect c me t=({ n with aI:=(n.aI.put (eX e o (c.dG o.addr))).1,dn:=⟨n.dn.ops,n.dn.bT++[if o.aU=2 then 0 else e.word (c.dG o.addr)],false⟩ },t++[⟨me,n.dn.bT.length,true,if o.aU=2 then 0 else e.word (c.dG o.addr)⟩]):=by
 have d:n.dn.op=o:=by unfold Proc.op;rw[g];rfl
 have b:n.dn.idx=n.dn.bT.length:=by unfold Proc.idx;rw[g]
 unfold Node.effect;simp only[d,h,zat];unfold Node.done;simp only[Proc.CU,hb,if_true,b]
def LW(I:EZ c n.aI)(d:I64 o.value)(i:n.aI.find (c.bW o.addr)=some e):EZ c (n.aI.put (eX e o (c.dG o.addr))).1/\(n.aI.put (eX e o (c.dG o.addr))).1.dM=n.aI.dM:=by
 obtain⟨g,h⟩:=(jm I.aO).1 i;have E:=I.ent e g;obtain⟨b,_⟩:=qM e o (c.dG o.addr);refine⟨I.put (by rw[b];exact E.lo) (by rw[b];exact E.hi) (Y3 E.dat d),?_⟩;rw[nG I.aO (x:=e) (by rw[b];exact E.lo) (by rw[b,h];exact i)]
def af6 {p:Proc}{v:Int}(P:arU c p)(hb:p.fU=true):arU c ⟨p.ops,p.bT++[v],false⟩:=by
 have:=P.fU hb;exact⟨P.most,P.right,by simp only[zar,zak,zan];omega,λh=>by cases h⟩
def Zd {ca:Cache}{d:bU}{p:Pkt}(b:Ea n.aJ me n.aI p=(ca,d,false)):ca=n.aI:=by
 cases g:n.aJ.fits p with
 |false=>rw[BG g]at b;simp only[yK,zad]at b;exact b.1.symm
 |true=>
  unfold Ea at b
  repeat' split at b
  ·unfold dX at b
   repeat' split at b
   all_goals (simp only[yK,zad,zbK,and_false]at b)
   all_goals exact b.1.symm
  ·unfold dZ at b
   repeat' split at b
   all_goals (simp only[yK,zad,zbK,and_false]at b)
   all_goals exact b.1.symm
  ·unfold eG at b;split at b
   ·simp only[yK,zad]at b;exact b.1.symm
   ·split at b
    ·exfalso;cases h:n.aI.find n.aJ.ak with
     |none=>simp[h]at b
     |some e=>
      simp only[h]at b
      repeat' split at b
      all_goals simp at b
    ·unfold gW at b
     repeat' split at b
     all_goals (simp only[yK,zad,zbK,and_false]at b)
     all_goals exact b.1.symm
  ·simp only[yK,zad]at b;exact b.1.symm
def OZ {p:Proc}{v:Int}{n':Node}(hb:n.dn.fU=true)(h:n'.dn=⟨n.dn.ops,n.dn.bT++[v],false⟩):t.length+1+n.evs=t.length+n'.evs:=by
 unfold Node.evs;rw[h,hb];simp only[if_true,zar,zak,zan,zal,if_false];omega
def Sj(hc:c.ok=true)(I:YB c me n)(R:yP c me n.home)(F:xg c f){p:Pkt}(Q:yL c p):ajx c me n t (n.answered c me f t p):=by
 have g:ajx c me n t (n,f,t):=⟨I,R,F,rfl⟩
 unfold Node.answered;rw[su];by_cases H:n.aJ.step=0
 ·have T:n.aJ.fits p=false:=by
   unfold bU.fits;rw[H];simp[Aj,DW]
  rw[BG T];simp only[yK,if_true];exact g
 have D:=I.aJ H;cases M:Ea n.aJ me n.aI p with
 |mk ca X=>
  obtain⟨d,ok⟩:=X;cases ok with
  |false=>
   rw[Zd M];simp only[if_true];exact g
  |true=>
   simp only[zbK,if_false];have N:=OW I.aI D H Q M;by_cases k:d.step=0
   ·rw[if_pos k];rcases N.way with⟨w1,_,C⟩|⟨w1,_⟩
    rotate_left
    ·exact absurd k w1
    subst C;by_cases b:d.aU=3/\n.dn.op.aU=4
    ·rw[if_pos b];have hb:=D.roll (by rw[<-N.aU];exact b.1);have K:=I.dn.fU hb;have L:n.dn.CU 0=⟨n.dn.ops,n.dn.bT++[0],false⟩:=by unfold Proc.CU;rw[if_pos hb]
     simp only[Node.done,L];refine⟨⟨af6 I.dn hb,I.aI,I.dR,I.home,λh=>absurd k h,?_⟩,R,F,?_⟩
     ·have:=I.clk;simp only[zar,zak,zan];omega
     ·simp only[zar,zak,zan];exact OZ (p:=n.dn) hb rfl
    ·rw[if_neg b];exact⟨⟨I.dn,I.aI,I.dR,I.home,λh=>absurd k h,I.clk⟩,R,F,rfl⟩
   ·rw[if_neg k];rcases N.way with⟨_,E,_⟩|⟨_,E,C⟩
    ·exact absurd E k
    have m:0<=d.ak:=by rw[N.ak];exact D.lo
    by_cases i:d.step=6/\d.aU≠3
    ·simp only[if_pos i];have b:n.aJ.aU≠3:=by rw[<-N.aU];exact i.2
     have W:=D.work b E;obtain⟨o,G,j,q,u⟩:=W.op;have v:o∈n.dn.ops:=zas G;obtain⟨e,L,_⟩:∃e,ca.find n.aJ.ak=some e/\(n.aJ.aU=2->e.bP=true):=by
      rcases C b with⟨w,_⟩|⟨_,w⟩
      ·exact absurd i.1 w
      ·exact w
     have y:({ n with aI:=ca,aJ:=d }:Node).aI.find (c.bW o.addr)=some e:=by show ca.find _=_;rw[j];exact L
     rw[Si (n:={ n with aI:=ca,aJ:=d }) (e:=e) G W.fU y];obtain⟨p1,p2⟩:=LW (n:={ n with aI:=ca,aJ:=d }) N.inv (I.dn.right o v).2 y;have K:=I.dn.fU W.fU;have aa:ca.dM<=n.dn.bT.length+1:=by
      have:=I.clk;rcases N.clk with h|⟨_,_,h⟩ <;> omega
     refine⟨⟨af6 I.dn W.fU,p1,I.dR,I.home,λ_=>?_,?_⟩,R,F.send (ada N.dat _ _),?_⟩
     ·exact⟨m,by rw[N.ak];exact D.hi,by rw[N.aU];exact D.aU,N.dat,N.akg,λh=>absurd h i.2,λ_ h=>absurd i.1 h,λ_ _=>rfl⟩
     ·simp only[zar,zak,zan];rw[p2];show ca.dM<=_;omega
     ·simp only[zar,zak,zan];exact OZ (p:=n.dn) W.fU rfl
    ·simp only[if_neg i];refine⟨⟨I.dn,N.inv,I.dR,I.home,λ_=>⟨m,by rw[N.ak];exact D.hi,by rw[N.aU];exact D.aU,N.dat,N.akg,λh=>D.roll (by rw[<-N.aU];exact h),λb z=>?_,λb z=>absurd ⟨z,b⟩ i⟩,?_⟩,R,F.send (ada N.dat _ _),rfl⟩
     ·have A:n.aJ.aU≠3:=by rw[<-N.aU];exact b
      have W:=D.work A E;rcases C A with⟨_,w⟩|⟨w,_⟩
      ·subst w;obtain⟨o,G,j,q,u⟩:=W.op;exact⟨W.fU,⟨o,G,by rw[j];exact N.ak.symm,by rw[N.aU];exact q,by rw[N.aU];exact u⟩,by simp only;rw[N.ak];exact W.full⟩
      ·exact absurd w z
     ·have:=I.clk;rcases N.clk with h|⟨b,z,_⟩
      ·simp only;omega
      ·exact absurd ⟨z,by rw[N.aU];exact b⟩ i
def BI(I:YB c me n)(R:yP c me n.home)(F:xg c f){k l:Int}(hk:1<=k/\k<=3)(h0:0<=l)(b:l<c.aO)(hb:n.dn.fU=true)
  (hw:k≠3->(∃o,n.dn.cur=some o/\c.bW o.addr=l/\(k=1->o.aU=1)/\(k=2->o.aU=2∨o.aU=3))/\n.aI.full l=false):ajx c me n t ((n.begin_ c me f k l).1,(n.begin_ c me f k l).2,t):=by
 refine⟨⟨I.dn,I.aI,I.dR,I.home,λ_=>⟨h0,b,hk,.inl rfl,λ_ h=>absurd (show(1:Int)=3 from h) J,λ_=>hb,λd _=>?_,λ_ h=>absurd (show(1:Int)=6 from h) J⟩,I.clk⟩,R,F.send (ada (.inl rfl) _ _),rfl⟩;obtain⟨⟨o,e,g,i,j⟩,m⟩:=hw d;exact⟨hb,⟨o,e,g,i,j⟩,m⟩
def af7(hc:c.ok=true)(I:YB c me n)(R:yP c me n.home)(F:xg c f)(D:n.dn.cur=some o)(hd:n.aJ.step=0):ajx c me n t (n.work c me f t o):=by
 have u:o∈n.dn.ops:=zas D;have G:n.dn.bT.length<n.dn.ops.length:=(zaf.1 D).1;have Rr:=I.dn.right o u;have O:=ar4 hc Rr.1;obtain⟨n1,g⟩:∃n1:Node,n1={ n with dn:={ n.dn with fU:=true } }:=⟨_,rfl⟩
 have i:YB c me n1:=by rw[g];exact⟨⟨I.dn.most,I.dn.right,I.dn.vals,λ_=>G⟩,I.aI,I.dR,I.home,λh=>absurd hd h,I.clk⟩
 have m:yP c me n1.home:=by rw[g];exact R
 have k:n1.dn.cur=some o:=by rw[g];exact D
 have b:n1.dn.fU=true:=by rw[g]
 have H:n1.aI=n.aI:=by rw[g]
 have v:n1.aJ.step=0:=by rw[g];exact hd
 obtain⟨w,y⟩:∃w,w=if n.dn.fU=true then t else t++[⟨me,n.dn.bT.length,false,0⟩]:=⟨_,rfl⟩
 have aa:w.length+n.evs=t.length+n1.evs:=by
  rw[y,g];unfold Node.evs;cases n.dn.fU
  ·simp only[zal,if_false,zar,zak,zan,if_true];omega
  ·simp only[if_true]
 have d:∀{A:NFT},ajx c me n1 w A->ajx c me n t A:=λ{A} h=>⟨h.inv,h.dR,h.fab,by have:=h.evs;omega⟩
 unfold Node.work;simp only;rw[<-g,<-y,<-H];by_cases c1:o.aU=4/\n1.aI.find (c.bW o.addr)=none
 ·rw[if_pos c1];refine d ?_;have j:n1.dn.CU 0=⟨n1.dn.ops,n1.dn.bT++[0],false⟩:=by unfold Proc.CU;rw[if_pos b]
  simp only[Node.done,j];refine⟨⟨af6 i.dn b,i.aI,i.dR,i.home,λh=>absurd v h,?_⟩,m,F,?_⟩
  ·have:=i.clk;simp only[zar,zak,zan];omega
  ·simp only[zar,zak,zan];exact OZ (p:=n1.dn) b rfl
 rw[if_neg c1];by_cases c2:o.aU=4
 ·rw[if_pos c2];exact d (BI i m F ⟨J,J⟩ O.lo O.hi b λh=>absurd rfl h)
 rw[if_neg c2];by_cases K:(n1.aI.find (c.bW o.addr)).isSome=true/\(o.aU=1∨((n1.aI.find (c.bW o.addr)).getD .zero).bP=true)
 ·rw[if_pos K];obtain⟨e,j⟩:=zcL.1 K.1;have T:=i.aI.touch j;have L:=Y5 i.aI.aO j;refine d ?_;obtain⟨M,Q⟩:∃M:Ent,M={ e with used:=n1.aI.dM+1 }:=⟨_,rfl⟩
  rw[<-Q]at L;have W:({ aI:=n1.aI.touch (c.bW o.addr),dn:={ ops:=n.dn.ops,bT:=n.dn.bT,fU:=true },home:=n.home,aJ:=n.aJ,num:=n.num }:Node)={ n1 with aI:=n1.aI.touch (c.bW o.addr) }:=by rw[g]
  have hE:=Si (me:=me) (t:=w) (n:={ n1 with aI:=n1.aI.touch (c.bW o.addr) }) (e:=M) k b L;obtain⟨p1,p2⟩:=LW (n:={ n1 with aI:=n1.aI.touch (c.bW o.addr) }) T Rr.2 L;rw[W,hE];refine⟨⟨af6 i.dn b,p1,i.dR,i.home,λh=>absurd v h,?_⟩,m,F,?_⟩
  ·have:=i.clk;have hk:=Jo i.aI.aO j;simp only[zar,zak,zan];rw[p2];show(n1.aI.touch _).dM<=_;omega
  ·simp only[zar,zak,zan];exact OZ (p:=n1.dn) b rfl
 rw[if_neg K];by_cases q:n1.aI.full (c.bW o.addr)=true
 ·rw[if_pos q];have z:n1.aI.vH (c.bW o.addr)≠[]:=by
   intro e;unfold Cache.full at q;simp only[e,zan,zah,decide_eq_true_eq]at q;have:=(lS hc).2.2.2.2.1;rw[i.aI.ways]at q;omega
  obtain⟨e,j⟩:∃e,zF (n1.aI.vH (c.bW o.addr))=some e:=by
   cases h:n1.aI.vH (c.bW o.addr)with
   |nil=>exact absurd h z
   |cons a l=>exact⟨_,rfl⟩
  have hv:n1.aI.qB (c.bW o.addr)=some e.ak:=by unfold Cache.qB;rw[j];rfl
  have X:e∈n1.aI.l:=by
   have:=(D9 j).1;unfold Cache.vH at this;exact(zbv.1 this).1
  have E:=i.aI.ent e X;rw[hv];simp only[zat];exact d (BI i m F ⟨J,J⟩ E.lo E.hi b λh=>absurd rfl h)
 rw[if_neg q];have C:n1.aI.full (c.bW o.addr)=false:=by simpa using q
 by_cases c5:o.aU=1
 ·rw[if_pos c5];exact d (BI i m F ⟨J,J⟩ O.lo O.hi b λ_=>⟨⟨o,k,rfl,λ_=>c5,λh=>V⟩,C⟩)
 ·rw[if_neg c5];have k1:=O.k1;have k4:=O.k4;exact d (BI i m F ⟨J,J⟩ O.lo O.hi b λ_=>⟨⟨o,k,rfl,λh=>V,λ_=>V⟩,C⟩)
def adr(hc:c.ok=true)(I:YB c me n)(R:yP c me n.home)(F:xg c f){p:Pkt}(Q:yL c p):ajx c me n t ((n.asked c me f p).1,(n.asked c me f p).2,t):=by
 unfold Node.asked;by_cases hk:p.aU=1∨p.aU=2
 ·rw[if_pos hk];have g:=Zb hc I.home R p;have i:=Vj (c:=c) (me:=me) I.dR Q.num;have d:=Zc hc R I.dR p;cases j:n.home.handle c me p with
  |mk h x=>
   rw[j]at g i d;obtain⟨out,ok,e⟩:=x;simp only at g i d ⊢;refine⟨⟨I.dn,I.aI,i,g.1,λk=>?_,I.clk⟩,g.2,?_,rfl⟩
   ·have D:=I.aJ k;exact⟨D.lo,D.hi,D.aU,D.dat,D.akg,D.roll,λa b=>by have W:=D.work a b;exact⟨W.fU,W.op,W.full⟩,D.rest⟩
   ·simp only;split
    ·exact F.send d
    ·exact F
 ·rw[if_neg hk];obtain⟨m,o,q,u⟩:=adb I.aI p;cases j:fP n.aI p with
  |mk ca x=>
   rw[j]at m o q u;obtain⟨out,e⟩:=x;simp only at m o q u ⊢;refine⟨⟨I.dn,m,I.dR,I.home,λk=>?_,by simp only;rw[q];exact I.clk⟩,R,?_,rfl⟩
   ·have D:=I.aJ k;exact⟨D.lo,D.hi,D.aU,D.dat,D.akg,D.roll,λa b=>by have W:=D.work a b;exact⟨W.fU,W.op,u _ hc W.full⟩,D.rest⟩
   ·simp only;split
    ·exact F.send o
    ·exact F
def af8(hc:c.ok=true)(I:YB c me n)(R:yP c me n.home)(F:xg c f):ajx c me n t (n.step c me f t).1:=by
 unfold Node.step;obtain⟨i,j⟩:=F.take me false;cases u:f.take me false with
 |mk K x=>
  rw[u]at i j;cases x with
  |some p=>exact Sj hc I R i (j p rfl)
  |none=>
   simp only;by_cases d:n.home.ready≠[]/\f.roomOf me false≠0
   ·rw[if_pos d];obtain⟨v,z⟩:=adq I.home R;refine⟨⟨I.dn,I.aI,?_,v,λA=>?_,I.clk⟩,z,F.send ?_,rfl⟩
    ·have:(n.home.grant me).1.dR=n.home.dR:=by
      unfold Home.grant;cases n.home.ready with
      |nil=>rfl
      |cons ak l=>
       simp only;cases n.home.bf.next ak with
       |mk tt w=>cases w <;> rfl
     simp only;rw[this];exact I.dR
    ·have D:=I.aJ A;exact⟨D.lo,D.hi,D.aU,D.dat,D.akg,D.roll,λa b=>by have W:=D.work a b;exact⟨W.fU,W.op,W.full⟩,D.rest⟩
    ·unfold Home.grant;cases k:n.home.ready with
     |nil=>exact absurd k d.1
     |cons ak l=>
      have hm:=(Aw k).2.2;have C:wZ c me ak=true:=by
       obtain⟨e,E,rfl⟩:=zaM.1 hm;exact I.home.here e E
      simp only;cases n.home.bf.next ak with
      |mk tt w=>
       cases w with
       |none=>exact yx rfl (by simp[Pkt.zero])
       |some w=>exact Jp R I.dR C _ _
   ·rw[if_neg d];obtain⟨m,q⟩:=F.take me true;cases g:(if f.roomOf me false=0 then(f,none)else f.take me true:Fab × Option Pkt)with
    |mk G y=>
     cases y with
     |some p=>
      simp only;have H:f.take me true=(G,some p):=by
       split at g
       ·cases g
       ·exact g
      rw[H]at m q;exact adr hc I R m (q p rfl)
     |none=>
      simp only;cases h:n.dn.cur with
      |none=>exact⟨I,R,F,rfl⟩
      |some o=>
       simp only;by_cases hd:n.aJ.step=0
       ·rw[if_pos hd];exact af7 hc I R F h hd
       ·rw[if_neg hd];exact⟨I,R,F,rfl⟩
end
def af9(m:cO):Prop:=∀(i:Nat) n,m.aG[i]?=some n->yP m.c i n.home
def ads {m:cO}(I:ame m)(R:af9 m)(i:Int):ame (m.step i).1/\af9 (m.step i).1:=by
 unfold cO.step cO.bH;by_cases o:0<=i
 ·rw[if_pos o];cases h:m.aG[i.toNat]? with
  |none=>exact⟨I,R⟩
  |some n=>
   have hi:=(zaf.1 h).1;have b:((i.toNat:Nat):Int)=i:=V
   have p:=I.bH i.toNat n h;have q:=R i.toNat n h;rw[b]at p q;have d:=af8 (t:=m.trace) I.ok p q I.fab;simp only;generalize n.step m.c i m.fab m.trace=r at d;obtain⟨⟨n',v,t'⟩,k⟩:=r;refine⟨⟨I.ok,by simp only[zcd];exact I.len,d.fab,λj a ha=>?_,?_⟩,λj a ha=>?_⟩
   ·simp only at ha ⊢;by_cases g:j=i.toNat
    ·subst g;rw[zbl hi]at ha;cases ha;rw[b];exact d.inv
    ·rw[zbr (λe=>g e.symm)]at ha;exact I.bH j a ha
   ·have w:=ade Node.evs (a':=n') h;have u:=d.evs;have y:=I.evs;simp only at u ⊢;omega
   ·simp only at ha ⊢;by_cases g:j=i.toNat
    ·subst g;rw[zbl hi]at ha;cases ha;rw[b];exact d.dR
    ·rw[zbr (λe=>g e.symm)]at ha;exact R j a ha
 ·rw[if_neg o];exact⟨I,R⟩
def Sl {m:cO}(I:ame m)(a b k:Int):ame (m.deliver a b k).1:=⟨I.ok,I.len,I.fab.deliver a b k,I.bH,I.evs⟩
def DX(f:Fab):Prop:=∀p∈f.l,∀q,q∈p.rq∨q∈p.an->f.is q.dst=true
def arp(f:Fab)(i:Int)(p:Port)(k:Int):(f.put i p).is k=f.is k:=by
 unfold Fab.is Fab.put;simp
def DX.put {f:Fab}(D:DX f)(i:Int){p:Port}(h:∀q,q∈p.rq∨q∈p.an->f.is q.dst=true):DX (f.put i p):=by
 intro x b q d;rw[arp];unfold Fab.put at b;rcases zbR b with b|rfl
 ·exact D x b q d
 ·exact h q d
def DX.at {f:Fab}(D:DX f)(i:Int):∀q,q∈(f.port i).rq∨q∈(f.port i).an->f.is q.dst=true:=by
 intro q b;unfold Fab.port at b;rw[zaA]at b;cases h:f.l[i.toNat]? with
 |none=>rw[h]at b;simp[Port.zero]at b
 |some p=>rw[h]at b;exact D p (zas h) q b
def DX.send {f:Fab}(D:DX f)(p:Pkt):DX (f.send p).1:=by
 unfold Fab.send;split
 ·exact D
 ·rename_i hc;split
  ·exact D
  ·refine D.put _ λq b=>?_;have hd:f.is p.dst=true:=by
    cases h:f.is p.dst with
    |true=>rfl
    |false=>simp[h]at hc
   cases hk:rG p.aU with
   |true=>
    rw[hk]at b;simp only[Port.kM,Port.sort,if_true,zaQ,zaV]at b;rcases b with(b|rfl)|b
    ·exact D.at _ q (.inl b)
    ·exact hd
    ·exact D.at _ q (.inr b)
   |false=>
    rw[hk]at b;simp only[Port.kM,Port.sort,zal,if_false,zaQ,zaV]at b;rcases b with b|b|rfl
    ·exact D.at _ q (.inl b)
    ·exact D.at _ q (.inr b)
    ·exact hd
def DX.lq {f:Fab}(D:DX f)(i:Int)(req:Bool)(l:List Pkt):DX (f.put i ((f.port i).lq req l)):=by
 refine D.put _ λq b=>D.at i q ?_;cases req <;> exact b
def DX.take {f:Fab}(D:DX f)(i:Int)(req:Bool):DX (f.take i req).1:=by
 unfold Fab.take;split
 ·split
  ·exact D
  ·exact D.lq _ _ _
 ·exact D
def DX.remove {f:Fab}(D:DX f)(k:Nat):DX (f.remove k):=by
 unfold Fab.remove;split
 ·refine D.put _ λq b=>?_;rename_i i req k' _;refine D.at i q ?_;cases req with
  |true=>
   simp only[Port.drop,Port.kM,Port.sort,if_true]at b;exact b.imp zcM id
  |false=>
   simp only[Port.drop,Port.kM,Port.sort,zal,if_false]at b;exact b.imp id zcM
 ·exact D
def DX.deliver {f:Fab}(D:DX f)(a b k:Int):DX (f.deliver a b k).1:=by
 unfold Fab.deliver;split
 ·exact D
 split
 ·exact D
 split
 ·exact D
 split
 ·exact D
 ·exact(D.lq _ _ _).remove _
def DX.all {f:Fab}(D:DX f):∀p∈f.all,f.is p.dst=true:=by
 intro p b;unfold Fab.all at b;obtain⟨q,d,b⟩:=za5.1 b;rcases zaQ.1 b with b|b
 ·exact D q d p (.inl b)
 ·exact D q d p (.inr b)
def DX.new(c:Cfg):DX (.new c):=by
 intro p b q d;rw[Fab.new,List.mem_replicate]at b;rw[b.2]at d;simp[Port.zero]at d
def xK(c:Cfg)(me ak:Int):∀n:Nat,jY (c.jF me n) ak=if 0<=ak/\ak<n/\c.aZ ak=me then some ⟨0,-1,c.first ak⟩else none
 |0=>by
  have:¬(0<=ak/\ak<((0:Nat):Int)/\c.aZ ak=me):=V
  rw[if_neg this];rfl
 |n+1=>by
  simp only[Cfg.jF];by_cases h:c.aZ n=me
  ·rw[if_pos h,lQ,xK c me ak n];by_cases e:(n:Int)=ak
   ·subst e;rw[if_pos rfl,if_pos ⟨V,V,h⟩]
   ·rw[if_neg e];by_cases b:0<=ak/\ak<n/\c.aZ ak=me
    ·rw[if_pos b,if_pos ⟨b.1,V,b.2.2⟩]
    ·rw[if_neg b,if_neg (λd=>b ⟨d.1,V,d.2.2⟩)]
  ·rw[if_neg h,xK c me ak n];by_cases b:0<=ak/\ak<n/\c.aZ ak=me
   ·rw[if_pos b,if_pos ⟨b.1,V,b.2.2⟩]
   ·rw[if_neg b,if_neg (λd=>b ⟨d.1,(by
     have:ak≠n:=λe=>h (by rw[<-e];exact d.2.2);omega),d.2.2⟩)]
structure NX(T:Nat)(n:Node):Prop where
 Ze:0<=n.num
 num1:n.num<4096
 dat:n.aJ.data.length<=4
 ws:∀ak,(n.home.bf.ws ak).length<=T
def NX.mono {T b:Nat}{n:Node}(h:NX T n)(d:T<=b):NX b n:=⟨h.Ze,h.num1,h.dat,λl=>zav (h.ws l) d⟩
section
variable {d:bU}{ca:Cache}{p:Pkt}{me:Int}
def XT(hc:∀e∈ca.l,e.data.length<=4){ak:Int}{e:Ent}(h:ca.find ak=some e):e.data.length<=4:=by
 unfold Cache.find at h;exact hc e (zbs h)
def adt(hd:d.data.length<=4)(b:p.data.length<=4):(dX d me ca p).2.1.data.length<=4:=by
 unfold dX yK
 repeat' split
 all_goals first
  |exact hd
  |exact b
  |exact zaX _
  |(show List.length (if _ then _ else _)<=4;split <;> first|exact b|exact zaX _)
def En(hd:d.data.length<=4):(dw d me ca).2.data.length<=4:=by
 unfold dw;simp only
 repeat' split
 all_goals first
  |exact hd
  |exact zaX _
def aga(hc:∀e∈ca.l,e.data.length<=4)(hd:d.data.length<=4)(b:p.data.length<=4):(dZ d me ca p).2.1.data.length<=4:=by
 unfold dZ yK;split
 ·exact zaX _
 split
 ·refine En ?_;cases h:ca.find d.ak with
  |none=>exact b
  |some e=>exact XT hc h
 split
 ·refine En ?_;cases h:ca.find d.ak with
  |none=>exact b
  |some e=>exact hd
 split
 ·exact hd
 ·exact zaX _
def alL(hc:∀e∈ca.l,e.data.length<=4)(hd:d.data.length<=4):(eG d ca p).2.1.data.length<=4:=by
 unfold eG yK gW;split
 ·exact zaX _
 split
 ·simp only;split
  ·exact zaX _
  ·rename_i e h;split
   ·show List.length (if e.bP=true then e.data else [])<=4;split
    ·exact XT hc h
    ·exact zaX _
   ·split <;> exact zaX _
 repeat' split
 all_goals first
  |exact hd
  |exact zaX _
end
section
variable {T:Nat}{n:Node}{c:Cfg}{me:Int}{f:Fab}{t:List Evn}
def adu(h:NX T n)(v:Int):NX T (n.done me t v).1:=⟨h.Ze,h.num1,h.dat,h.ws⟩
def Sm(h:NX T n):NX T (n.effect c me t).1:=⟨h.Ze,h.num1,h.dat,h.ws⟩
def Gh(h:NX T n)(aU ak:Int):NX T (n.begin_ c me f aU ak).1:=by
 have b:=h.Ze;have d:(n.num+1).tmod 4096=(n.num+1) % 4096:=zcA V;refine⟨?_,?_,zaX _,h.ws⟩
 ·show 0<=(n.num+1).tmod 4096;omega
 ·show(n.num+1).tmod 4096<4096;omega
def Gj {n:Node}(h:DX f)(aU ak:Int):DX (n.begin_ c me f aU ak).2:=h.send _
def adv {n:Node}(h:DX f):DX (n.amb c me f):=h.send _
def XU(hc:∀e∈n.aI.l,e.data.length<=4)(h:NX T n){p:Pkt}(b:p.data.length<=4):(n.after me p).2.1.data.length<=4:=by
 unfold Node.after yK
 repeat' split
 ·exact adt h.dat b
 ·exact aga hc h.dat b
 ·exact alL hc h.dat
 ·exact zaX _
def Zf(hc:∀e∈n.aI.l,e.data.length<=4)(h:NX T n)(D:DX f){p:Pkt}(g:p.data.length<=4):NX T (n.answered c me f t p).1/\DX (n.answered c me f t p).2.1:=by
 have hd:=XU (me:=me) hc h g;unfold Node.answered;split;rename_i ca d ok e;rw[e]at hd;have b:NX T { n with aI:=ca,aJ:=d }:=⟨h.Ze,h.num1,hd,h.ws⟩
 split
 ·exact⟨⟨h.Ze,h.num1,h.dat,h.ws⟩,D⟩
 ·simp only;split
  ·split
   ·exact⟨adu (me:=me) (t:=t) b 0,D⟩
   ·exact⟨b,D⟩
  ·split
   ·exact⟨Sm (c:=c) (me:=me) (t:=t) b,adv D⟩
   ·exact⟨b,adv D⟩
def ajy {t:Turns}(h:∀ak,(t.ws ak).length<=T)(ak who id:Int):∀l,((t.ask ak who id).1.ws l).length<=T+1:=by
 intro l;unfold Turns.ask;split
 ·exact zbz (h l)
 split
 ·unfold Turns.ws;simp only;rw[lQ];split
  ·rw[zat,zar];exact Nat.succ_le_succ (h ak)
  ·exact zbz (h l)
 ·exact zbz (h l)
def Zg {t:Turns}(h:∀ak,(t.ws ak).length<=T)(ak who:Int):∀l,((t.release ak who).1.ws l).length<=T:=by
 intro l;unfold Turns.release;split <;> exact h l
def alM {t:Turns}(h:∀ak,(t.ws ak).length<=T)(ak:Int):∀l,((t.next ak).1.ws l).length<=T:=by
 intro l;unfold Turns.next
 split
 ·exact h l
 split
 ·exact h l
 ·rename_i w ws e;have b:=h ak;rw[e]at b;unfold Turns.ws;simp only;rw[lQ];split
  ·rw[zat];exact Nat.le_of_succ_le b
  ·exact h l
def adw {hm:Home}(h:∀ak,(hm.bf.ws ak).length<=T)(p:Pkt):∀l,((hm.handle c me p).1.bf.ws l).length<=T+1:=by
 have b:∀l,(hm.bf.ws l).length<=T+1:=λl=>zbz (h l);unfold Home.handle;split
 ·exact b
 split
 ·exact b
 split
 ·simp only;split
  ·exact ajy h _ _ _
  ·exact ajy h _ _ _
 ·have d:∀l,((hm.unlock c p).1.bf.ws l).length<=T+1:=by
   unfold Home.unlock;split
   ·exact b
   ·simp only;generalize jy c hm.dR p.ak p.state p.ptr (if p.flag then p.data else [])=r;split
    ·exact λl=>zbz (Zg h _ _ l)
    ·exact b
  simp only;split <;> exact d
def agb {hm:Home}(h:∀ak,(hm.bf.ws ak).length<=T):∀l,((hm.grant me).1.bf.ws l).length<=T:=by
 unfold Home.grant;split
 ·exact h
 ·rename_i ak _ _;have b:=alM h ak;split
  ·rename_i e;rw[e]at b;exact b
  ·exact h
def alN(h:NX T n)(D:DX f)(p:Pkt):NX (T+1) (n.asked c me f p).1/\DX (n.asked c me f p).2:=by
 unfold Node.asked;split
 ·have hw:=adw (c:=c) (me:=me) h.ws p;split;rename_i hm out ok e b;rw[b]at hw;refine⟨⟨h.Ze,h.num1,h.dat,hw⟩,?_⟩;simp only;split
  ·exact D.send _
  ·exact D
 ·split;refine⟨⟨h.Ze,h.num1,h.dat,λl=>zbz (h.ws l)⟩,?_⟩;simp only;split
  ·exact D.send _
  ·exact D
def arq(h:NX T n)(D:DX f)(o:Opn):NX T (n.work c me f t o).1/\DX (n.work c me f t o).2.1:=by
 have b:NX T { n with dn:={ n.dn with fU:=true } }:=⟨h.Ze,h.num1,h.dat,h.ws⟩
 unfold Node.work;simp only;split
 ·exact⟨adu (me:=me) (t:=t) b 0,D⟩
 split
 ·exact⟨Gh (c:=c) (me:=me) (f:=f) b _ _,Gj D _ _⟩
 split
 ·exact⟨Sm (c:=c) (me:=me) (t:=if n.dn.fU then t else t++[⟨me,n.dn.bT.length,false,0⟩]) ⟨h.Ze,h.num1,h.dat,h.ws⟩,D⟩
 split
 ·exact⟨Gh (c:=c) (me:=me) (f:=f) b _ _,Gj D _ _⟩
 split
 ·exact⟨Gh (c:=c) (me:=me) (f:=f) b _ _,Gj D _ _⟩
 ·exact⟨Gh (c:=c) (me:=me) (f:=f) b _ _,Gj D _ _⟩
def ajz(hc:∀e∈n.aI.l,e.data.length<=4)(k:∀i req p,(f.take i req).2=some p->p.data.length<=4)(h:NX T n)(D:DX f):NX (T+1) (n.step c me f t).1.1/\DX (n.step c me f t).1.2.1:=by
 have d:=h.mono (za8 T);unfold Node.step;split
 ·rename_i j p e;have g:=D.take me false;have m:=k me false p (by rw[e]);rw[e]at g;obtain⟨a,b⟩:=Zf (c:=c) (me:=me) (t:=t) hc d g m;exact⟨a,b⟩
 ·split
  ·exact⟨⟨h.Ze,h.num1,h.dat,λl=>zbz (agb h.ws l)⟩,D.send _⟩
  ·split
   ·rename_i j p e;have g:DX j:=by
     split at e
     ·cases e
     ·have:=D.take me true;rw[e]at this;exact this
    exact alN h g p
   ·split
    ·split
     ·exact arq d D _
     ·exact⟨d,D⟩
    ·exact⟨d,D⟩
end
structure MX(T:Nat)(m:cO):Prop where
 inv:ame m
 dR:af9 m
 dst:DX m.fab
 bH:∀(i:Nat) n,m.aG[i]?=some n->NX T n
def MX.mono {T b:Nat}{m:cO}(h:MX T m)(d:T<=b):MX b m:=⟨h.inv,h.dR,h.dst,λi n e=>(h.bH i n e).mono d⟩
def EZ.le {c:Cfg}(hc:c.ok=true){ca:Cache}(I:EZ c ca):∀e∈ca.l,e.data.length<=4:=by
 intro e b;have d:=(I.ent e b).dat;have g:=(lS hc).2.2.1;have:=d.1;omega
def MX.step {T:Nat}{m:cO}(X:MX T m)(i:Int):MX (T+1) (m.step i).1:=by
 obtain⟨q,u⟩:=ads X.inv X.dR i;refine⟨q,u,?_,?_⟩
 ·unfold cO.step;split
  ·exact X.dst
  ·rename_i n b;split;rename_i n' f t k e;unfold cO.bH at b;split at b
   ·rename_i hi;have g:=X.inv.bH _ n b;have:=(ajz (c:=m.c) (me:=i) (t:=m.trace) (g.aI.le X.inv.ok) (λi req p h=>by
     have:=((X.inv.fab.take i req).2 p h).ok;simp only[Pkt.ok,zah,decide_eq_true_eq]at this;omega) (X.bH _ n b) X.dst).2
    rw[e]at this;exact this
   ·cases b
 ·intro j n d;unfold cO.step at d;split at d
  ·exact(X.bH j n d).mono (za8 T)
  ·rename_i o b;split at d;rename_i n' f t k e;unfold cO.bH at b;split at b
   ·rename_i hi;simp only at d;rw[zcV]at d;split at d
    ·split at d
     ·cases d;have g:=X.inv.bH _ o b;have:=(ajz (c:=m.c) (me:=i) (t:=m.trace) (g.aI.le X.inv.ok) (λi req p h=>by
       have:=((X.inv.fab.take i req).2 p h).ok;simp only[Pkt.ok,zah,decide_eq_true_eq]at this;omega) (X.bH _ o b) X.dst).1
      rw[e]at this;exact this
     ·cases d
    ·exact(X.bH j n d).mono (za8 T)
   ·cases b
def MX.deliver {T:Nat}{m:cO}(X:MX T m)(a b k:Int):MX T (m.deliver a b k).1:=by
 exact⟨Sl X.inv a b k,X.dR,X.dst.deliver a b k,X.bH⟩
def MX.do_ {T:Nat}{m:cO}(X:MX T m)(p:Pck):MX (T+1) (m.do_ p).1:=by
 unfold cO.do_;split
 ·exact(X.deliver _ _ _).mono (za8 T)
 ·exact X.step _
def adx {c:Cfg}(hc:c.ok=true)(ps:List (List Opn)):af9 (.new c ps):=λi n d ak b=>by
 simp only[cO.new,za9,zbO]at d;obtain⟨l,_,rfl⟩:=d;unfold wZ at b;simp only[zah,decide_eq_true_eq]at b;have e:=(lS hc).1;have g:ak<c.aO:=b.1.2;refine⟨⟨0,-1,c.first ak⟩,?_⟩;show jY (c.jF i c.aO.toNat) ak=_;rw[xK,if_pos ⟨b.1.1,V,by unfold Cfg.aZ wX;rw[if_neg V];exact b.2⟩]
def auC {g:bF}{x y:Nat}{A B:List Cell}(k:Nat)(h:g x=some A)(b:g y=some B)(d:A[k]?≠B[k]?):x≠y:=λe=>by
 subst e;rw[h]at b;exact d (by rw[zaW b])
def agc(A:Adr)(k n:Nat)(q:Nat):Prop:=(∃i s,i<k/\s<6/\q=A.N i s)∨PE A.P n q∨q=A.trace
section
variable {b:Nat}{H:ah}{g g':bF}{A:Adr}{m:cO}{T:Nat}
def ajA {m:cO}(I:ame m):m.trace.length<=1000:=by
 have B:=qP I.ok;have j:=I.len;have:∀(l:List Node),(∀n∈l,Node.evs n<=49)->(l.map Node.evs).sum<=49*l.length:=by
  intro l
  induction l with
  |nil=>intro _;simp
  |cons n l b=>
   intro h;have d:=h n O;have k:=b λx e=>h x (by simp[e]);simp only[zaD,zda,zak];omega
 have d:=this m.aG λn g=>by
  obtain⟨i,hi⟩:=zc1.1 g;have P:=(I.bH i n hi).dn;have:=P.most;have:=P.vals;unfold Node.evs;split <;> omega
 rw[I.evs];have:=B.aG;omega
def auD(A:Adr)(i:Nat):Ti:=⟨A.N i,A.fab,A.P,A.trace⟩
def gJ.nw(M:gJ g A m){i:Nat}{n:Node}(hi:m.aG[i]?=some n):NW g (auD A i) m.c i (n,m.fab,m.trace):=⟨M.bH i n hi,M.fab,M.trace,M.Xt,M.tf⟩
def gJ.ady(M:gJ g A m){q:Nat}(h:agc A m.aG.length m.fab.l.length q):A.iL≠q:=by
 have hm:=M.iL;rcases h with⟨i,s,hi,d,rfl⟩|⟨i,s,hi,d,rfl⟩|rfl
 ·obtain⟨n,e⟩:∃n,m.aG[i]?=some n:=⟨_,zab hi⟩
  obtain⟨j,k,o,p,u,v⟩:=M.bH i n e;have b:(xE A m.c m.aG.length).length=11:=by simp[xE,JI,Cfg.av]
  match s,d with
  |0,_=>exact jH hm j (by rw[b];simp only[iq];decide)
  |1,_=>exact jH hm k (by rw[b];simp only[gK];decide)
  |2,_=>exact jH hm o (by rw[b];simp only[iZ];decide)
  |3,_=>exact auC 10 hm p (by simp[xE,JI,Cfg.av,EG])
  |4,_=>exact jH hm u (by rw[b];simp only[kH];decide)
  |5,_=>exact jH hm v (by rw[b];simp only[gQ];decide)
 ·exact jH hm (gY (M.fab.port hi) d) (by simp[xE,JI,Cfg.av,nO])
 ·exact jH hm M.trace (by simp[xE,JI,Cfg.av,mP])
def agd(G:Good b H g)(hb:H.base<=b)(M:gJ g A m)(X:MX T m)(Q:T<999000){i:Nat}{n:Node}(hi:m.aG[i]?=some n):
  ∃H' g',cl 49 [.ref (A.N i 0) 0 0,.ref A.fab 0 0,.ref A.trace 0 0] H=some (I (m.step i).2,H')/\Good b H' g'/\gJ g' A (m.step i).1/\Off (agc A m.aG.length m.fab.l.length) g g'/\Step b H H':=by
 have N:=M.nw hi;have NX:=X.bH i n hi;have F:=X.inv.bH i n hi;have k:i<m.aG.length:=(zaf.1 hi).1;have W:=Walk.of G hb N;obtain⟨K',g',K,w⟩:=af2 W X.inv.ok X.inv.fab F ⟨NX.Ze,by have:=NX.num1;show n.num<1000000;omega⟩ (by have:=ajA X.inv;show m.trace.length<999999;omega) (by have:=NX.dat;show n.aJ.data.length<1000000000;omega) (λak=>by have:=NX.ws ak;show(n.home.bf.ws ak).length<1000000;omega);have z:m.step i=({ m with aG:=m.aG.set i (n.step m.c i m.fab m.trace).1.1,fab:=(n.step m.c i m.fab m.trace).1.2.1,trace:=(n.step m.c i m.fab m.trace).1.2.2 },(n.step m.c i m.fab m.trace).2):=by
  unfold cO.step cO.bH;rw[if_pos V,zam,hi]
 rw[z];have C:Off (ajv (auD A i) m.fab.l.length) g g':=w.off;have d:∀q,ajv (auD A i) m.fab.l.length q->agc A m.aG.length m.fab.l.length q:=by
  rintro q (⟨s,y,rfl⟩|h|rfl)
  ·exact .inl ⟨i,s,k,y,rfl⟩
  ·exact .inr (.inl h)
  ·exact .inr (.inr rfl)
 have o:=w.nw;have p:=w.len;refine⟨K',g',K,w.loc.out,⟨?_,o.tr,o.fab,λj n' u=>?_,?_,?_,M.tf⟩,C.mono d,w.step⟩
 ·show g' A.iL=some (xE A m.c (m.aG.set i _).length);rw[zcd,C A.iL λh=>M.ady (d _ h) rfl];exact M.iL
 ·simp only at u;by_cases v:i=j
  ·subst v;rw[zbl k]at u;cases u;exact o.bH
  ·rw[zbr v]at u;have D:j<m.aG.length:=(zaf.1 u).1;have E:=M.nw u;refine(M.bH j n' u).ext λs y=>C _ ?_;rintro(⟨t,L,e⟩|h|e)
   ·exact v (M.arZ _ _ _ _ D k y L e).1.symm
   ·exact(E.Y4 h).1 s y rfl
   ·exact E.ac8 s y e
 ·show UW A.P _;have:(n.step m.c i m.fab m.trace).1.2.1.l.length=m.fab.l.length:=p;rw[this];exact M.Xt
 ·show arY A.N (m.aG.set i _).length;rw[zcd];exact M.arZ
def Vm(G:Good b H g)(hb:H.base<=b)(M:gJ g A m)(X:MX T m){at_ bit mask:Int}(u:qC at_)(k:qC bit)(m0:0<=mask)(z:mask<=65535):
  ∃H' g',cl 48 [.ref A.fab 0 0,I at_,I bit,.s (.int .u16 mask)] H=some (I (m.deliver at_ bit mask).2,H')/\Good b H' g'/\gJ g' A (m.deliver at_ bit mask).1/\Off (agc A m.aG.length m.fab.l.length) g g'/\Step b H H':=by
 have B:=qP X.inv.ok;have C:m.fab.l.length≠0:=by have:=X.inv.fab.len;have:=B.aG;omega
 obtain⟨H',g',D,G',E,o,F⟩:=Za G hb M.fab M.Xt (fok X.inv.ok X.inv.fab) C (λp v=>⟨⟨(X.inv.fab.pkt v).ok,(X.inv.fab.pkt v).num⟩,X.dst.all p v⟩) u k m0 z;have d:∀q,PE A.P m.fab.l.length q->agc A m.aG.length m.fab.l.length q:=λq h=>.inr (.inl h);have n:(m.fab.deliver at_ bit mask).1.l.length=m.fab.l.length:=by
  have K:=(X.inv.fab.deliver at_ bit mask).len;have L:=X.inv.fab.len;omega
 refine⟨H',g',D,G',⟨?_,?_,E,λj n' y=>?_,?_,M.arZ,M.tf⟩,o.mono d,F⟩
 ·rw[o A.iL λh=>M.ady (d _ h) rfl];exact M.iL
 ·rw[o A.trace λ⟨i,s,hi,w,e⟩=>by
   have:=gY (M.fab.port hi) w;exact jH M.trace this (by simp[mP,nO]) e]
  exact M.trace
 ·exact(M.bH j n' y).ext λs w=>o _ λh=>((M.nw y).Y4 h).1 s w rfl
 ·show UW A.P (m.fab.deliver at_ bit mask).1.l.length;rw[n];exact M.Xt
def auE(G:Good b H g)(hb:H.base<=b)(M:gJ g A m)(X:MX T m)(hT:T<999000)(p:Pck)(h64:qC p.at_)(hbit:qC p.bit)(m0:0<=p.mask)(m1:p.mask<=65535):
  ∃H' g',cl 15 [.ref A.iL 0 0,.agg p.av] H=some (B (m.do_ p).2,H')/\Good b H' g'/\gJ g' A (m.do_ p).1/\Off (agc A m.aG.length m.fab.l.length) g g'/\Step b H H':=by
 let H1:=H.new (.blk 0 44 p.av);have G1:Good b H1 g:=G.new _;have g1:H1.get H.next=.blk 0 44 p.av:=aP rfl
 have l0:ld (.ref H.next 0 0) H1=some (B p.deliver,H1):=by rw[dU g1];rfl
 have l1:ld (.ref H.next 0 1) H1=some (I p.at_,H1):=by rw[dU g1];rfl
 have l2:ld (.ref H.next 0 2) H1=some (I p.bit,H1):=by rw[dU g1];rfl
 have l3:ld (.ref H.next 0 3) H1=some (.s (.int .u16 p.mask),H1):=by rw[dU g1];rfl
 have f0:=G1.load M.iL (i:=0) (x:=.ref A.fab 0 0) rfl;have f1:=G1.load M.iL (i:=1) (x:=.ref A.trace 0 0) rfl;have S1:Step b H H1:=Step.new _ G.1;have hb1:H1.base<=b:=by simp only[H1,jh];exact hb
 have B:=qP X.inv.ok;cases hd:p.deliver with
 |true=>
  rw[hd]at l0;obtain⟨H',g',e1,G',M',O',S'⟩:=Vm G1 hb1 M X h64 hbit m0 m1;have hdo:m.do_ p=((m.deliver p.at_ p.bit p.mask).1,decide ((m.deliver p.at_ p.bit p.mask).2=0)):=by
   unfold cO.do_;rw[hd];rfl
  rw[hdo];refine⟨H',g',bn rfl rfl (aks _ _ _ _ ?_),G',M',O',S1.trans S'⟩;simp only[H1]at l0 l1 l2 l3 f0 f1 e1;simp only[Nat.reduceLT,xq_,hq_,ae3,aC (Ih p),l0,l1,l2,l3,f0,e1]
 |false=>
  rw[hd]at l0;have hdo:m.do_ p=((m.step p.at_).1,decide ((m.step p.at_).2≠0)):=by
   unfold cO.do_;rw[hd];rfl
  rw[hdo];have e0:=F6 G1 M (by have:=X.inv.len;have:=B.aG;omega) p.at_;by_cases hi:0<=p.at_/\p.at_<m.aG.length
  ·rw[if_pos hi]at e0;obtain⟨i,hii⟩:∃i:Nat,p.at_=i:=⟨p.at_.toNat,by omega⟩
   rw[hii]at e0 hi l1;rw[hii];rw[zam]at e0;obtain⟨n,hn⟩:∃n,m.aG[i]?=some n:=⟨_,zab (by omega)⟩
   obtain⟨H',g',e1,G',M',O',S'⟩:=agd G1 hb1 M X hT hn;refine⟨H',g',bn rfl rfl (aks _ _ _ _ ?_),G',M',O',S1.trans S'⟩;have nn:bi .neq 64 (.ref (A.N i 0) 0 0) zP=some (.s (.bool true)):=by kernel_rfl
   simp only[H1]at l0 l1 f0 f1 e0 e1;simp only[Nat.reduceLT,xq_,hq_,ae3,aC (Ih p),l0,l1,f0,f1,e0,nn,e1];simp
  ·rw[if_neg hi]at e0;have hst:m.step p.at_=(m,0):=by
    unfold cO.step cO.bH;by_cases h0:0<=p.at_
    ·rw[if_pos h0,zaI (by omega)]
    ·rw[if_neg h0]
   rw[hst];refine⟨H1,g,bn rfl rfl (aks _ _ _ _ ?_),G1,M,Off.refl _ _,S1⟩;have nn:bi .neq 64 zP zP=some (.s (.bool false)):=by kernel_rfl
   simp only[H1]at l0 l1 e0;simp only[Nat.reduceLT,xq_,hq_,ae3,aC (Ih p),l0,l1,e0,nn]
   try rfl
end
def gJ.sub {g g':bF}{A:Adr}{m:cO}(h:gJ g A m)(j:uJ g g'):gJ g' A m:=by
 refine⟨j _ _ h.iL,j _ _ h.trace,⟨j _ _ h.fab.1,λi p k=>?_,h.fab.2.2⟩,λi n o=>?_,h.Xt,h.arZ,h.tf⟩
 ·obtain⟨a,b,c,d⟩:=h.fab.2.1 i p k;exact⟨j _ _ a,j _ _ b,j _ _ c,j _ _ d⟩
 ·obtain⟨a,b,c,d,e,f⟩:=h.bH i n o;exact⟨j _ _ a,j _ _ b,j _ _ c,j _ _ d,j _ _ e,j _ _ f⟩
def agf {b n:Nat}{H1:ah}{g g':bF}(G:Good b H1 g)(d:H1.next=n):uJ g (cup n g g'):=λq cs e=>jR G e d
def agh {b n:Nat}{H1:ah}{g g':bF}(G:Good b H1 g')(d:n<=b):uJ g' (cup n g g'):=λq cs e=>lT G e d
def qV(c:Cho)(aG under:Int):Pck:=
 if c.do_.tmod 23=22 then⟨decide (c.bit.tmod 2=0),c.at_,c.bit,c.mask⟩else
 if dh c.do_ 2=0 then⟨false,dh c.at_ aG,0,0⟩else
 if c.do_.tmod 7=6 then⟨true,dh c.at_ under,dh c.bit 120,c.mask⟩else⟨true,dh c.at_ under,0,0⟩
def alO(d:Nat):∀(p:Pck),∀x∈p.av,Frz (d+1) x:=by
 intro p x b;simp only[Pck.av,zao,zaB,or_false]at b;rcases b with rfl|rfl|rfl|rfl <;> exact fC
def Zh(p:Pck):Frz 9 (.agg p.av):=mF (alO 7 p)
def yA {n:Int}:(AV.s (.int .u16 n)).cells=[.s (.int .u16 n)]:=rfl
def vT {n:Int}:(AV.s (.int .u16 n)).aS=true:=rfl
def agi(H:ah)(c:Cho){aG under:Int}(o:aG<=9223372036854775807)(p:under<=9223372036854775807):cl 16 [.agg c.av,I aG,I under] H=some (.agg (qV c aG under).av,H):=by
 refine bg rfl rfl (asZ _ _ _ _ _) ?_ (Zh _);have q:=vk (P:=Tryz.prog) (t:=3) (k:=.i64) (a:=c.do_) (b:=23) J;have u:=vk (P:=Tryz.prog) (t:=3) (k:=.i64) (a:=c.do_) (b:=7) J;have v:=vk (P:=Tryz.prog) (t:=3) (k:=.i64) (a:=c.bit) (b:=2) J;have d:bi .rem 3 (I c.do_) (I 23)=some (I (c.do_.tmod 23)):=q;have h:bi .rem 3 (I c.do_) (I 7)=some (I (c.do_.tmod 7)):=u;have m:bi .rem 3 (I c.bit) (I 2)=some (I (c.bit.tmod 2)):=v;have k1:=λH=>oP H c.do_ 2 V;have w:=λH=>oP H c.at_ aG o;have n:=λH=>oP H c.at_ under p;have k4:=λH=>oP H c.bit 120 V;have i:∀H,fM 47 (.agg [I c.do_,I c.at_,I c.bit,.s (.int .u16 c.mask)]) H=some (.ref H.next 0 0,H.new (.blk 0 47 [I c.do_,I c.at_,I c.bit,.s (.int .u16 c.mask)])):=λH=>aC (ako c) J;simp only[Cho.av];by_cases e:c.do_.tmod 23=22
 ·rw[show qV c aG under=⟨decide (c.bit.tmod 2=0),c.at_,c.bit,c.mask⟩ by unfold qV;rw[if_pos e]];simp only[Nat.reduceAdd,Nat.reduceLeDiff,aN,xq_,hq_,aa5,i,d,e,m,aeK,jg,fK,aaz,Pck.av]
  try rfl
 by_cases g:dh c.do_ 2=0
 ·rw[show qV c aG under=⟨false,dh c.at_ aG,0,0⟩ by unfold qV;rw[if_neg e,if_pos g]];simp only[Nat.reduceAdd,Nat.reduceLeDiff,aN,xq_,hq_,aa5,i,d,e,k1,g,w,aeK,jg,fK,aaz,Pck.av]
  try rfl
 by_cases j:c.do_.tmod 7=6
 ·rw[show qV c aG under=⟨true,dh c.at_ under,dh c.bit 120,c.mask⟩ by unfold qV;rw[if_neg e,if_neg g,if_pos j]];simp only[Nat.reduceAdd,Nat.reduceLeDiff,aN,xq_,hq_,aa5,i,d,e,k1,g,n,aeK,jg,fK,aaz,Pck.av,h,j,k4,NY];rw[YO λr y=>by
   cases y;rw[bC (by simp only[eF,xY];omega),bC (by simp only[eF,xY];omega),aP (by rw[xY]),bC (by simp only[eF,xY];omega),bC (by simp only[eF,xY];omega),aP (by rw[xY])]]
  rfl
 ·rw[show qV c aG under=⟨true,dh c.at_ under,0,0⟩ by unfold qV;rw[if_neg e,if_neg g,if_neg j]];simp only[Nat.reduceAdd,Nat.reduceLeDiff,aN,xq_,hq_,aa5,i,d,e,k1,g,n,aeK,jg,fK,aaz,Pck.av,h,j,NY]
  try rfl
def adz:qC 0:=⟨J,J⟩
def yB {v n:Int}(h:qC n):qC (dh v n):=by
 by_cases b:n<1
 ·have:dh v n=0:=by unfold dh;rw[if_pos b]
  rw[this];exact adz
 ·have:=oG (v:=v) (n:=n) V;have d:=h.2;exact⟨V,V⟩
def agj {c:Cho}(h:c.In){aG under:Int}(i:qC aG)(d:qC under):qC (qV c aG under).at_/\qC (qV c aG under).bit/\0<=(qV c aG under).mask/\(qV c aG under).mask<=65535:=by
 have b:qC 120:=⟨J,J⟩
 have e:(0:Int)<=0:=J
 have g:(0:Int)<=65535:=J
 unfold qV;split
 ·exact⟨h.at_,h.bit,h.mask0,h.mask⟩
 ·split
  ·exact⟨yB i,adz,e,g⟩
  ·split
   ·exact⟨yB d,yB b,h.mask0,h.mask⟩
   ·exact⟨yB d,adz,e,g⟩
def ars {l:List Int}(h:∀z∈l,qC z)(i:Int):qC (atM l i):=by
 unfold atM;split
 ·rw[zaA];cases e:l[i.toNat]? with
  |none=>exact⟨J,J⟩
  |some v=>exact h v (zas e)
 ·exact⟨J,J⟩
def Zi {c:Cfg}(hc:c.ok=true)(zk za zv:List Int)(hv:∀z∈zv,qC z)(i:Nat):c.right (acw c zk za zv i)=true/\I64 (acw c zk za zv i).value:=by
 have B:=qP hc;have hw:=B.aV;have d:=B.aO;have b:1<=oW (atM zk i)/\oW (atM zk i)<=4:=by have:=YL (atM zk i);omega
 have e:1<=c.aO*c.aV:=by
  have:=zbV d.1 hw.1 J V;omega
 have g:=oG (v:=atM za i) e;unfold acw;refine⟨?_,?_⟩
 ·unfold Cfg.right;simp only[zah,decide_eq_true_eq,zbu];refine⟨⟨⟨b.1,b.2⟩,?_⟩,?_⟩
  ·unfold Cfg.bW Cfg.iC;rw[if_neg V];have:=zde g.1 (show 0<=c.aV by omega);omega
  ·split
   ·rename_i h;rcases h with h|h
    ·exact .inl (.inr h)
    ·exact .inr h
   ·exact .inl (.inl rfl)
 ·simp only;split
  ·exact ars hv i
  ·exact⟨J,J⟩
def vU {c:Cfg}(hc:c.ok=true)(zw zk za zv:List Int)(hv:∀z∈zv,qC z):∀i,∀l∈mJ c zw zk za zv i,∀o∈l,c.right o=true/\I64 o.value
 |0,l,h=>by
  rw[zcK h];intro o b;cases b
 |i+1,l,h=>by
  have d:=vU hc zw zk za zv hv i;simp only[mJ,jD]at h;split at h
  ·rcases zbR h with h|rfl
   ·exact d l h
   ·intro o b;rcases zaQ.1 b with b|b
    ·rw[zaA]at b;cases e:(mJ c zw zk za zv i)[(dh (atM zw i) c.aG).toNat]? with
     |none=>rw[e]at b;cases b
     |some g=>rw[e]at b;exact d g (zas e) o b
    ·rw[zaV]at b;subst b;exact Zi hc zk za zv hv i
  ·exact d l h
def agk {c:Cfg}(hc:c.ok=true)(zw zk za zv:List Int)(hv:∀z∈zv,qC z)(mo:Nat):c.sO (pJ c zw zk za zv mo)=true:=by
 have B:=qP hc;have e:=B.aG;unfold Cfg.sO;simp only[zah,decide_eq_true_eq,za6];refine⟨λl b=>⟨Dh _ _ _ _ _ _ l b,λo d=>(vU hc zw zk za zv hv _ l b o d).1⟩,?_⟩;unfold pJ;rw[qK];omega
def agl {c:Cfg}(hc:c.ok=true)(hi:∀z∈c.init,qC z){ak:Int}(h:0<=ak/\ak<c.aO):pG c (c.first ak):=by
 have B:=qP hc;have hw:=B.aV;unfold Cfg.first
 rw[if_neg V];refine⟨by rw[zaz,zcB];omega,λv hv=>?_⟩;obtain⟨j,_,rfl⟩:=zaM.1 hv;rw[zaA];cases e:c.init[(ak*c.aV).toNat+j]? with
 |none=>exact⟨J,J⟩
 |some x=>exact hi x (zas e)
def Jq(c:Cfg)(me:Int):∀n:Nat,∀e∈c.jF me n,0<=e.1/\e.1<n/\e.2.data=c.first e.1
 |0,e,h=>by cases h
 |n+1,e,h=>by
  simp only[Cfg.jF]at h;have d:=Jq c me n;split at h
  ·have key:∀(l:List (Int × Row)) (k:Int) (x:Row),e∈mO l k x->e∈l∨(e.1=k/\e.2=x):=by
    intro l
    induction l with
    |nil=>
     intro k x b;simp only[mO,zaV]at b;right;rw[b];exact⟨rfl,rfl⟩
    |cons a l d=>
     obtain⟨k',v⟩:=a;intro k x b;simp only[mO]at b;split at b
     ·rename_i hk;rcases zao.1 b with rfl|b
      ·exact .inr ⟨by first|rfl|exact hk|exact hk.symm,rfl⟩
      ·exact .inl (zbb _ b)
     ·rcases zao.1 b with rfl|b
      ·exact .inl (zdh ..)
      ·rcases d k x b with b|b
       ·exact .inl (zbb _ b)
       ·exact .inr b
   rcases key _ _ _ h with h|⟨g,i⟩
   ·have:=d e h;exact⟨this.1,V,this.2.2⟩
   ·exact⟨V,V,by rw[i,g]⟩
  ·have:=d e h;exact⟨this.1,V,this.2.2⟩
def ajB {c:Cfg}(hc:c.ok=true)(hi:∀z∈c.init,qC z){ps:List (List Opn)}(g:c.sO ps=true)(hv:∀l∈ps,∀o∈l,c.right o=true/\I64 o.value):MX 0 (.new c ps):=by
 have B:=qP hc;have b:=B.aG;have hb:=B.aO;obtain⟨k,m⟩:=Bj g;refine⟨⟨hc,?_,?_,λi n b=>?_,?_⟩,adx hc ps,DX.new c,λi n b=>?_⟩
 ·simp only[cO.new,zcS];exact k
 ·refine⟨rfl,rfl,?_,λp g=>?_⟩
  ·simp only[cO.new,Fab.new,zcw];omega
  ·simp only[cO.new,Fab.new,List.mem_replicate]at g;rw[g.2];have:=B.out;have:=B.inn;refine⟨by show((0:Nat):Int)<=c.out;omega,by show((0:Nat):Int)<=c.out;omega,by show((0:Nat):Int)<=c.inn;omega,by show((0:Nat):Int)<=1;omega,λq u=>by simp[Port.zero]at u⟩
 ·simp only[cO.new,za9,zbO]at b;obtain⟨l,j,rfl⟩:=b;have hm:=zas j;refine⟨⟨m l hm,hv l hm,zaX _,λh=>by cases h⟩,⟨rfl,rfl,List.Pairwise.nil,List.Pairwise.nil,λe d=>(by cases d),λak=>?_,zbt 0⟩,λe d=>?_,⟨⟨List.Pairwise.nil,λe d=>(by cases d),List.Pairwise.nil,λe d=>(by cases d)⟩,λe d=>(by cases d)⟩,λh=>absurd rfl h,zbt 0⟩
  ·have:=B.ways;show(([]:List Ent).length:Int)<=c.ways;simp;omega
  ·obtain⟨v,D,w⟩:=Jq c i _ e d;rw[w];exact agl hc hi ⟨v,V⟩
 ·have:∀n∈(cO.new c ps).aG,Node.evs n=0:=by
   intro n b;simp only[cO.new,List.mem_mapIdx]at b;obtain⟨i,hi,rfl⟩:=b;rfl
  have y:∀l:List Node,(∀n∈l,Node.evs n=0)->(l.map Node.evs).sum=0:=by
   intro l
   induction l with
   |nil=>intro _;rfl
   |cons n l A=>
    intro h;rw[zaD,zda,h n O,A λx C=>h x (by simp[C])]
  rw[y _ this];rfl
 ·simp only[cO.new,za9,zbO]at b;obtain⟨l,j,rfl⟩:=b;exact⟨zbt 0,by show(0:Int)<4096;decide,zaX _,λak=>zac 0⟩
structure avh(s:kT)(zi zw zk za zv:List Int):Prop where
 ok:s.Ok zi zw zk za zv
 hi:aH ah.empty s.init 1 zi.length (zi.map I)
 hw:aH ah.empty s.who 1 zw.length (zw.map I)
 hk:aH ah.empty s.kinds 1 zk.length (zk.map I)
 ha:aH ah.empty s.iC 1 za.length (za.map I)
 hv:aH ah.empty s.bT 1 zv.length (zv.map I)
 hc:s.init.aS=true/\s.who.aS=true/\s.kinds.aS=true/\s.iC.aS=true/\s.bT.aS=true
structure aru(b:Nat)(H:ah)(g:bF)(A:Adr)(q f:Nat)(N:Nat->Nat->Nat)(m:cO)(r:NG)(mid:Nat):Prop where
 good:Good b H g
 base:H.base<=b
 iL:gJ g A m
 off:∀x,agc A m.aG.length m.fab.l.length x->mid<=x
 ref:∃g1,aaS g1 q f N r/\uJ g1 g/\∀x,g1 x≠none->x<mid
def gJ.here {g:bF}{A:Adr}{m:cO}(M:gJ g A m){x:Nat}(h:agc A m.aG.length m.fab.l.length x):∃cs,g x=some cs:=by
 rcases h with⟨i,s,hi,b,rfl⟩|⟨i,s,hi,b,rfl⟩|rfl
 ·obtain⟨n,d⟩:∃n,m.aG[i]?=some n:=⟨_,zab hi⟩
  exact(M.bH i n d).some b
 ·exact⟨_,gY (M.fab.port hi) b⟩
 ·exact⟨_,M.trace⟩
def alP {s:kT}{zi zw zk za zv:List Int}(Z:avh s zi zw zk za zv)(H:ah)(hb:H.base<=H.next){mo:Nat}(hm:mo<=1000){c:Cfg}{ps:List (List Opn)}(hc:c=s.cfg zi)(hps:ps=pJ c zw zk za zv mo):
  ∃H' A q f N g mid b,cl 8 [.agg s.cells,I mo] H=some (.tup [.ref A.iL 0 0,.ref q 0 0,.vs ps.length 1 (ps.map (vsl 3 Opn.av))],H')/\aru b H' g A q f N (.new c ps) (.new c ps) mid/\H.next<=b/\Step H.next H H'/\MX 0 (.new c ps)/\c.sO ps=true:=by
 have hck:c.ok=true:=by rw[hc];exact ajn s zi
 have hvz:∀z∈zv,qC z:=λz hz=>ama (Z.ok.bT.wf z hz);have hiz:∀z∈c.init,qC z:=λz hz=>by
  rw[hc]at hz;exact ama (Z.ok.init.wf z (zcE hz))
 have hop:c.sO ps=true:=by rw[hps];exact agk hck zw zk za zv hvz mo
 have X:MX 0 (.new c ps):=ajB hck hiz hop (by rw[hps];exact vU hck zw zk za zv hvz _);have e1:=λH=>Rj H Z.ok Z.hi Z.hc;rw[<-hc]at e1;have e2:∀H,cl 34 [.agg s.cells,I mo] H=some (.vs ps.length 1 (ps.map (vsl 3 Opn.av)),H):=λH=>by
  obtain⟨ps',awd,e⟩:=UZ H Z.ok Z.hi Z.hw Z.hk Z.ha Z.hv Z.hc (mo:=mo) hm;rw[hps,hc,<-awd];exact e
 have hall:s.cells.all AV.aS=true:=by
  have:=Z.hc;simp only[kT.cells,zb0,zcJ,this,zcN];rfl
 let H1:=H.new (.blk 0 24 s.cells);let H2:=H1.new (.blk 0 31 c.av);have n1:H1.next=H.next+1:=eF
 have n2:H2.next=H.next+1+1:=by simp only[H2,eF,n1]
 have b2:H2.base=H.base:=rfl;obtain⟨H3,q,f,N,g1,e3,M1,R1⟩:=U2 H2 (by omega) c hck (aqM H2 ps) hop;obtain⟨H4,A,g2,e4,M2,I2⟩:=Ls H3 (by rw[M1.base];exact zav (by omega) M1.next) c hck (aqM H3 ps) hop;have G:=M1.good.merge M2;have gq:H2.get (H.next+1)=.blk 0 31 c.av:=aP n1.symm;have l2:=gX gq;have l3:=gX (H:=H3) (r:=H.next+1) (c:=c) (by rw[M1.same _ (by omega)];exact gq);have ls:s.cells.length=12:=rfl;have lt:s.cells.take 12=s.cells:=rfl;have cc:(AV.agg c.av).cells=c.av:=rfl;have lc:c.av.length=8:=rfl;have hb1:H.base<=H.next+1:=by omega
 have b0:bi .neq 57 (I 0) (I 0)=some (B false):=by kernel_rfl
 have en:bi .eql 25 (.ref A.iL 0 0) zP=some (B false):=by kernel_rfl
 have hI:=I2.sub (agh (g:=g1) M2.good (zac _));refine⟨H4,A,q,f,N,cup H3.next g1 g2,H3.next,H2.next,bn rfl rfl (avF _ _ _ _ ?_),⟨G,?_,hI,λx hx=>?_,g1,R1,agf M1.good rfl,λx hx=>?_⟩,by omega,?_,X,hop⟩
 ·simp only[H1,H2]at e3 l2;simp only[Nat.reduceLT,Nat.reduceAdd,aN,xq_,hq_,au7,aC hall,ls,lt,e1,cc,lc,hb1,e2,l2,e3,l3,e4,zae,b0,en]
 ·rw[M2.base,M1.base,b2];omega
 ·obtain⟨cs,h⟩:=I2.here hx;exact M2.good.le h
 ·cases h:g1 x with
  |none=>exact absurd h hx
  |some cs=>exact M1.good.lt h
 ·refine⟨by rw[M2.base,M1.base,b2],zav (by omega) (zav M1.next M2.next),λr hr=>?_⟩;rw[M2.same r (zax (by omega) M1.next),M1.same r (by omega)];simp only[H2,H1];rw[bC (by rw[eF];omega),bC hr]
def adA {x:AV}{cs:List Cho}(Y:aH ah.empty x 4 cs.length (cs.flatMap Cho.av))(H:ah):aH H x 4 cs.length (cs.flatMap Cho.av):=
 Y.iQ (zaX _) λr _ b=>absurd b (zdA r)
def agm {x:AV}{cs:List Cho}(Y:aH ah.empty x 4 cs.length (cs.flatMap Cho.av))(H:ah){i:Nat}{c:Cho}(hi:cs[i]?=some c):ix 4 x (I i) H=some (eP x i,H)/\lda 4 (eP x i) H=some (.agg c.av,H):=by
 have d:=(zaf.1 hi).1;have Z:=adA Y H;have b:=Z.ix (k:=.i64) (i:=(i:Int)) V V;rw[zam]at b;exact⟨b,lX (enc:=Cho.av) (m:=4) (λ_=>rfl) Z hi⟩
section
variable {b:Nat}{H:ah}{g:bF}{A:Adr}{m:cO}{T:Nat}
def MX.fine(X:MX T m):m.fine:=by
 have I:=X.inv;have B:=qP I.ok;have j:=I.len;have k:=I.fab.len;have b:∀p∈m.fab.l,p.rq.length<1000/\p.an.length<1000/\p.rin.length<1000/\p.ain.length<1000:=λp d=>by
  have P:=I.fab.port p d;have:=P.rq;have:=P.an;have:=P.rin;have:=P.ain;have:=B.out;have:=B.inn;omega
 have g:∀n∈m.aG,NX T n/\∃i:Nat,YB m.c i n:=λn g=>by
  obtain⟨i,hi⟩:=zc1.1 g;exact⟨X.bH i n hi,i,I.bH i n hi⟩
 refine⟨I.ok,j,V,λn hm=>?_,λl e=>?_,λn hm=>?_,λp d=>⟨(b p d).2.2.1,(b p d).2.2.2⟩⟩
 ·obtain⟨_,i,h⟩:=g n hm;have:=h.dn.most;have:=h.dn.vals;omega
 ·unfold Fab.jA at e;obtain⟨p,d,e⟩:=za5.1 e;simp only[zao,zaB,or_false]at e;rcases e with rfl|rfl
  ·exact(b p d).1
  ·exact(b p d).2.1
 ·have:=(g n hm).1.dat;omega
def lu(G:Good b H g)(M:gJ g A m)(hc:m.c.ok=true):cl 9 [.ref A.iL 0 0] H=some (.agg m.c.av,H):=by
 have B:=qP hc;refine bg rfl rfl (avG _ _ _) ?_ (acv _);have e:=λo=>(G.guard.new o).loads M.iL (i:=2) (n:=8) (xs:=m.c.av) (by simp[xE,JI,Cfg.av]) rfl J;have h:=λH=>ku H m.c.init (by have:=B.init;have:=B.iC;omega);have d:m.c.av=[I m.c.aG,I m.c.aO,I m.c.aV,I m.c.sets,I m.c.ways,I m.c.out,I m.c.inn,dat m.c.init]:=rfl;have j:(AV.agg m.c.av).cells=m.c.av:=rfl;have k:m.c.av.length=8:=rfl;have p:m.c.av[7]?=some (dat m.c.init):=rfl;have all:=eu m.c;rw[d]at e all ⊢;simp only[Nat.reduceAdd,aN,xq_,hq_,au8,e,h,all]
def adB(G:Good b H g)(M:gJ g A m)(X:MX T m):cl 17 [.ref A.fab 0 0] H=some (I m.fab.under,H):=by
 have F:=X.fine;have B:=qP X.inv.ok;have d:=F.aG;have e:=F.fab;exact afw G M.fab (by have:=B.aG;omega) (by have:=B.aG;omega) F.jA
def XV(X:MX T m):m.fab.under<=96:=by
 have I:=X.inv;have B:=qP I.ok;have b:=I.fab.len;have:∀l:List Port,(∀p∈l,p.rq.length+p.an.length<=16)->(l.flatMap λp=>p.rq++p.an).length<=16*l.length:=by
  intro l
  induction l with
  |nil=>intro _;simp
  |cons p l d=>
   intro h;have i:=h p O;have b:=d λx e=>h x (by simp[e]);simp only[zaE,zar,zak];omega
 have:=this m.fab.l λp g=>by
  have P:=I.fab.port p g;have:=P.rq;have:=P.an;have:=B.out;omega
 unfold Fab.under Fab.all;have:=B.aG;omega
def agp(H:ah)(X:MX T m)(c:Cho):cl 16 [.agg c.av,I m.c.aG,I m.fab.under] H=some (.agg (qV c m.c.aG m.fab.under).av,H):=by
 have B:=qP X.inv.ok;have:=XV X;have:=B.aG;exact agi H c V V
def agq(X:MX T m){c:Cho}(h:c.In):qC (qV c m.c.aG m.fab.under).at_/\qC (qV c m.c.aG m.fab.under).bit/\0<=(qV c m.c.aG m.fab.under).mask/\(qV c m.c.aG m.fab.under).mask<=65535:=by
 have B:=qP X.inv.ok;have:=XV X;have:=B.aG;exact agj h ⟨V,V⟩ ⟨V,V⟩
end
structure LX(b:Nat)(H:ah)(g:bF)(A:Adr)(m:cO)(T:Nat):Prop where
 good:Good b H g
 base:H.base<=b
 iL:gJ g A m
 keep:MX T m
section
variable {b:Nat}{H:ah}{g:bF}{A:Adr}{m:cO}{T:Nat}
def LX.new(R:LX b H g A m T)(o:gB):LX b (H.new o) g A m T:=⟨R.good.new o,by rw[jh];exact R.base,R.iL,R.keep⟩
def LX.do_(R:LX b H g A m T)(i:T<999000)(p:Pck)(h:qC p.at_)(d:qC p.bit)(m0:0<=p.mask)(j:p.mask<=65535):
  ∃H' g',cl 15 [.ref A.iL 0 0,.agg p.av] H=some (B (m.do_ p).2,H')/\LX b H' g' A (m.do_ p).1 (T+1)/\Off (agc A m.aG.length m.fab.l.length) g g'/\Step b H H':=by
 obtain⟨H',g',e,G,M,O,S⟩:=auE R.good R.base R.iL R.keep i p h d m0 j;exact⟨H',g',e,⟨G,by rw[S.base];exact R.base,M,R.keep.do_ p⟩,O,S⟩
def LX.fab(R:LX b H g A m T):ld (.ref A.iL 0 0) H=some (.ref A.fab 0 0,H):=R.good.load R.iL.iL (i:=0) (x:=.ref A.fab 0 0) rfl
end
def O4:∀(n:Nat) (l:List Nat),l.Nodup->(∀x∈l,x<n)->l.length<=n
 |0,[],_,_=>zac _
 |0,x::l,_,h=>absurd (h x O) (zdA x)
 |n+1,l,d,h=>by
  by_cases hm:n∈l
  ·have i:=O4 n (l.erase n) (d.erase n) λx b=>by
    have g:=(d.mem_erase_iff).1 b;have:=h x g.2;have:=g.1;omega
   rw[zdi hm]at i;omega
  ·have:=O4 n l d λx b=>by
    have:=h x b;have:x≠n:=λe=>hm (by rw[<-e];exact b);omega
   omega
def ags {c:Cfg}(hc:c.ok=true){ca:Cache}(I:EZ c ca):ca.l.length<=12:=by
 have j:=(lS hc).2.1;have h:=O4 8 (ca.l.map λe=>e.ak.toNat) (by
  unfold List.Nodup;rw[zcj];refine I.aO.imp_of_mem λ{a b} ha hb d e=>d ?_;have:=(I.ent a ha).lo;have:=(I.ent b hb).lo;omega) λx i=>by
   obtain⟨e,g,rfl⟩:=zaM.1 i;have:=(I.ent e g).lo;have:=(I.ent e g).hi;omega
 rw[zaz]at h;omega
abbrev tu:=Int->Option Ent
def hdI:List Int->Int->Int
 |[],x=>x
 |i::_,_=>i
def nK:List Int->Int->Int
 |[],x=>x
 |i::l,_=>nK l i
def Chn(E:tu):Int->List Int->Int->Prop
 |_,[],_=>True
 |b,i::l,x=>(∃e,E i=some e/\e.back=b/\e.fwd=hdI l x)/\Chn E i l x
def FCh(E:tu):List Int->Prop
 |[]=>True
 |i::l=>(∃e,E i=some e/\e.fwd=hdI l (-1))/\FCh E l
def nT(E:tu)(i:Int)(x:Option Ent):tu:=λj=>if j=i then x else E j
def gu {E:tu}{i:Int}{x:Option Ent}:nT E i x i=x:=by simp[nT]
def fD {E:tu}{i j:Int}{x:Option Ent}(h:j≠i):nT E i x j=E j:=by simp[nT,h]
def Zj {l b:List Int}{x:Int}:hdI (l++b) x=hdI l (hdI b x):=by cases l <;> rfl
def Eo:∀{l b:List Int} {x:Int},nK (l++b) x=nK b (nK l x)
 |[],_,_=>rfl
 |i::l,b,x=>by simp only[za3,nK];exact Eo
def Jr:∀{l:List Int} {x:Int},l≠[]->nK l x∈l
 |[],_,h=>absurd rfl h
 |[i],_,_=>by simp[nK]
 |i::j::l,x,_=>by
  simp only[nK];have:=Jr (l:=j::l) (x:=i) O;simp only[nK]at this;exact zbb _ this
def Chn.ext {E d:tu}:∀{l:List Int} {b x:Int},(∀j∈l,d j=E j)->Chn E b l x->Chn d b l x
 |[],_,_,_,_=>trivial
 |i::l,b,x,h,⟨⟨e,g,k⟩,hc⟩=>⟨⟨e,by rw[h i O,g],k⟩,Chn.ext (λj m=>h j (by simp[m])) hc⟩
def FCh.ext {E b:tu}:∀{l:List Int},(∀j∈l,b j=E j)->FCh E l->FCh b l
 |[],_,_=>trivial
 |i::l,h,⟨⟨e,d,g⟩,hc⟩=>⟨⟨e,by rw[h i O,d],g⟩,FCh.ext (λj k=>h j (by simp[k])) hc⟩
def Chn.fch {E:tu}:∀{l:List Int} {b:Int},Chn E b l (-1)->FCh E l
 |[],_,_=>trivial
 |_::_,_,⟨⟨e,d,_,g⟩,hc⟩=>⟨⟨e,d,g⟩,Chn.fch hc⟩
def qj {E:tu}:∀{l d:List Int} {b x:Int},Chn E b (l++d) x↔Chn E b l (hdI d x)/\Chn E (nK l b) d x
 |[],_,_,_=>by simp[Chn,nK]
 |i::l,d,b,x=>by
  simp only[za3,Chn,nK,qj (l:=l),Zj,and_assoc]
def Chn.mem {E:tu}:∀{l:List Int} {b x:Int},Chn E b l x->∀j∈l,∃e,E j=some e
 |i::l,_,_,⟨⟨e,d,_⟩,hc⟩,j,g=>by
  rcases zao.1 g with rfl|h
  ·exact⟨e,d⟩
  ·exact Chn.mem hc j h
def FCh.mem {E:tu}:∀{l:List Int},FCh E l->∀j∈l,∃e,E j=some e
 |i::l,⟨⟨e,b,_⟩,hc⟩,j,d=>by
  rcases zao.1 d with rfl|h
  ·exact⟨e,b⟩
  ·exact FCh.mem hc j h
def Chn.adC {E:tu}{i b d x:Int}{l:List Int}{e:Ent}(h:Chn E b (i::l) x)(k:i∉l)(m:E i=some e){e':Ent}(hb:e'.back=d)(n:e'.fwd=e.fwd):Chn (nT E i (some e')) d (i::l) x:=by
 obtain⟨⟨q,g,_,o⟩,hc⟩:=h;rw[m]at g;cases g;exact⟨⟨e',gu,hb,by rw[n,o]⟩,hc.ext λj p=>fD λe=>k (e ▸ p)⟩
def Chn.arv {E:tu}{k b x y:Int}{l:List Int}{e:Ent}(h:Chn E b (l++[k]) x)(g:k∉l)(i:E k=some e){e':Ent}(hb:e'.back=e.back)(m:e'.fwd=y):Chn (nT E k (some e')) b (l++[k]) y:=by
 obtain⟨n,o⟩:=qj.1 h;refine qj.2 ⟨Chn.ext (λj p=>fD λe=>g (e ▸ p)) n,?_⟩;obtain⟨⟨u,d,q,_⟩,_⟩:=o;rw[i]at d;cases d;exact⟨⟨e',gu,by rw[hb,q],by rw[m];rfl⟩,trivial⟩
def Rng(N:Int)(l:List Int):Prop:=l.Nodup/\∀i∈l,0<=i/\i<N
def Rng.hd {N:Int}{l:List Int}(h:Rng N l)(b:l≠[]):hdI l (-1)∈l/\0<=hdI l (-1):=by
 cases l with
 |nil=>exact absurd rfl b
 |cons i l=>exact⟨by simp[hdI],(h.2 i O).1⟩
def Rng.adD {N:Int}{l:List Int}(h:Rng N l):hdI l (-1)=-1↔l=[]:=by
 constructor
 ·intro e;refine Classical.byContradiction λb=>?_;have:=(h.hd b).2;omega
 ·rintro rfl;rfl
structure Wf(N:Int)(E:tu)(r:Row)(v:List Int)(l:List Int):Prop where
 rng:Rng N l
 ch:Chn E (-1) l (-1)
 mem:∀i e,E i=some e->i∈l
 head:r.head=hdI l (-1)
 st:r.state=0∨r.state=1∨r.state=2
 st0:r.state=0↔l=[]
 st2:r.state=2->∃i,l=[i]
 bP:∀i e,E i=some e->(e.bP=true↔r.state=2)
 data:∀i e,E i=some e->e.data=v
 Dx:r.state≠2->r.data=v
structure alQ(N:Int)(E:tu)(v:List Int)(i:Int)(R:List Int):Prop where
 rng:Rng N R
 ch:FCh E R
 mem:∀j e,E j=some e->j∈R∨j=i
 data:∀j e,E j=some e->e.data=v
 only:∀j e,E j=some e->e.bP=true->∀k,E k≠none->k=j
structure Mid(N:Int)(E:tu)(r:Row)(v:List Int)(i:Int)(pre post:List Int):Prop where
 rng:Rng N (pre++i::post)
 mem:∀j e,E j=some e->j∈pre++i::post
 ent:∃e,E i=some e
 head:r.head=hdI (pre++i::post) (-1)
 st:r.state=1
 bP:∀j e,E j=some e->e.bP=false
 data:∀j e,E j=some e->e.data=v
 Dx:r.data=v
inductive Out where
 |idle
 |req (p:Pkt)
 |wait
 |ans (p:Pkt)
def jd(r:Row)(d:bU):Row:=⟨d.state,d.head,if d.data=[]then r.data else d.data⟩
inductive Hold (N hm:Int) (E:tu) (r:Row) (v:List Int) (i:Int) (d:bU):Out->Prop
 |granted {l:List Int}:d.step=1->Wf N E r v l->Hold N hm E r v i d (.ans ⟨7,hm,i,d.id,d.ak,r.head,r.state,false,r.data⟩)
 |attach {l:List Int}:d.step=2->d.aU=1->l≠[]->d.head=hdI l (-1)->Wf N E r v l->Hold N hm E r v i d (.req (d.ask i hm))
 |attached {l:List Int} {fl:Bool}:d.step=2->d.aU=1->l≠[]->d.head=hdI l (-1)->Rng N l->Chn E i l (-1)->(∀j e,E j=some e->j∈l)->(∀j e,E j=some e->e.bP=false)->(∀j e,E j=some e->e.data=v)->
   (fl=false->r.data=v)->Hold N hm E r v i d (.ans ⟨9,d.head,i,d.id,d.ak,0,0,fl,v⟩)
 |JK {R:List Int}:d.step=3->d.aU=2->alQ N E v i (d.next::R)->d.next≠i->(E i≠none->d.data=v)->Hold N hm E r v i d (.req (d.ask i hm))
 |Js {R:List Int} {fl:Bool}:d.step=3->d.aU=2->alQ N E v i R->(∀j e,E j=some e->e.bP=false)->(E i≠none->d.data=v)->Hold N hm E r v i d (.ans ⟨9,d.next,i,d.id,d.ak,hdI R (-1),0,fl,v⟩)
 |front {pre post:List Int}:d.step=4->d.aU=3->Mid N E r v i pre post->pre≠[]->Chn E (-1) (pre++i::post) (-1)->d.head=nK pre (-1)->d.next=hdI post (-1)->d.told=r.head->Hold N hm E r v i d (.req (d.ask i hm))
 |zS {pre post:List Int}:d.step=4->d.aU=3->Mid N E r v i pre post->pre≠[]->Chn E (-1) pre (hdI post (-1))->Chn E i post (-1)->d.head=nK pre (-1)->d.next=hdI post (-1)->d.told=r.head->
   Hold N hm E r v i d (.ans ⟨8,d.head,i,d.id,d.ak,0,0,false,[]⟩)
 |behind {pre post:List Int}:d.step=5->d.aU=3->Mid N E r v i pre post->post≠[]->Chn E (-1) pre (hdI post (-1))->Chn E i post (-1)->d.head=nK pre (-1)->d.next=hdI post (-1)->d.told=r.head->Hold N hm E r v i d (.req (d.ask i hm))
 |vV {pre post:List Int}:d.step=5->d.aU=3->Mid N E r v i pre post->post≠[]->Chn E (-1) pre (hdI post (-1))->Chn E (nK pre (-1)) post (-1)->d.head=nK pre (-1)->d.next=hdI post (-1)->d.told=r.head->
   Hold N hm E r v i d (.ans ⟨8,d.next,i,d.id,d.ak,0,0,false,[]⟩)
 |unlock {l:List Int}:d.step=6->Wf N E (jd r d) v l->Hold N hm E r v i d (.req (d.ask i hm))
section
variable {N hm:Int}{E:tu}{r:Row}{v:List Int}{i:Int}{d:bU}
def Sr {l:List Int}(w:d.step=2)(o:d.aU=1)(y:l≠[])(z:d.head=hdI l (-1))(W:Wf N E r v l):
  ∃e,E d.head=some e/\Hold N hm (nT E d.head (some { e with bP:=false,back:=i })) r v i d (.ans ⟨9,d.head,i,d.id,d.ak,0,0,e.bP,e.data⟩):=by
 cases l with
 |nil=>exact absurd rfl y
 |cons k l=>
  have hk:d.head=k:=z;obtain⟨⟨e,n,_⟩,_⟩:=W.ch;refine⟨e,by rw[hk];exact n,?_⟩;have A:Out.ans ⟨9,d.head,i,d.id,d.ak,0,0,e.bP,e.data⟩=.ans ⟨9,d.head,i,d.id,d.ak,0,0,e.bP,v⟩:=by rw[W.data k e n]
  rw[A];have C:k∉l:=(za1.1 W.rng.1).1;have nd:∀j b,nT E d.head (some { e with bP:=false,back:=i }) j=some b->(j=k/\b={ e with bP:=false,back:=i })∨(j≠k/\E j=some b):=λj b m=>by
   by_cases g:j=k
   ·subst g;rw[hk,gu]at m;exact .inl ⟨rfl,(zaW m).symm⟩
   ·rw[hk,fD g]at m;exact .inr ⟨g,m⟩
  refine .attached (l:=k::l) w o O hk W.rng ?_ (λj b m=>?_) (λj b m=>?_) (λj b m=>?_) λD=>?_
  ·rw[hk];exact W.ch.adC C n rfl rfl
  ·rcases nd j b m with⟨rfl,_⟩|⟨_,h⟩
   ·simp
   ·exact W.mem j b h
  ·rcases nd j b m with⟨_,rfl⟩|⟨g,h⟩
   ·rfl
   ·cases hd:b.bP with
    |false=>rfl
    |true=>
     obtain⟨q,p⟩:=W.st2 ((W.bP j b h).1 hd);have u:=W.mem j b h;rw[p]at u;simp only[zbQ]at p;simp only[zao,zaB,or_false]at u;exact absurd (u.trans p.1.symm) g
  ·rcases nd j b m with⟨_,rfl⟩|⟨_,h⟩
   ·exact W.data k e n
   ·exact W.data j b h
  ·refine W.Dx λo=>?_;have:=(W.bP k e n).2 o;rw[D]at this;cases this
def Vo {R:List Int}(h1:d.step=3)(h2:d.aU=2)(L:alQ N E v i (d.next::R))(hne:d.next≠i)(hd:E i≠none->d.data=v):
  ∃e,E d.next=some e/\Hold N hm (nT E d.next none) r v i d (.ans ⟨9,d.next,i,d.id,d.ak,e.fwd,0,e.bP,e.data⟩):=by
 obtain⟨⟨e,he,hf⟩,hc⟩:=L.ch;refine⟨e,he,?_⟩;rw[L.data _ e he,hf];have hn:d.next∉R:=(za1.1 L.rng.1).1
 have nd:∀j e',nT E d.next none j=some e'->j≠d.next/\E j=some e':=λj e' hj=>by
  by_cases hjk:j=d.next
  ·rw[hjk,gu]at hj;cases hj
  ·rw[fD hjk]at hj;exact⟨hjk,hj⟩
 refine .Js (R:=R) h1 h2 ⟨⟨(za1.1 L.rng.1).2,λj hj=>L.rng.2 j (by simp[hj])⟩,hc.ext λj hj=>fD λe=>hn (e ▸ hj),λj e' hj=>?_,λj e' hj=>L.data j e' (nd j e' hj).2,λj e' hj hdj k hk=>?_⟩ (λj e' hj=>?_) λh=>hd ?_
 ·obtain⟨h3,h4⟩:=nd j e' hj;rcases L.mem j e' h4 with h|h
  ·rcases zao.1 h with h|h
   ·exact absurd h h3
   ·exact .inl h
  ·exact .inr h
 ·refine L.only j e' (nd j e' hj).2 hdj k ?_;intro h0;by_cases hk':k=d.next
  ·rw[hk',gu]at hk;exact hk rfl
  ·rw[fD hk',h0]at hk;exact hk rfl
 ·obtain⟨h3,h4⟩:=nd j e' hj;cases hdt:e'.bP with
  |false=>rfl
  |true=>exact absurd (L.only j e' h4 hdt d.next (by rw[he];simp)).symm h3
 ·rw[fD hne.symm]at h;exact h
def Vp {pre post:List Int}(D:d.step=4)(F:d.aU=3)(M:Mid N E r v i pre post)(u:pre≠[])(C:Chn E (-1) (pre++i::post) (-1))(w:d.head=nK pre (-1))(y:d.next=hdI post (-1))(G:d.told=r.head):
  ∃e,E d.head=some e/\Hold N hm (nT E d.head (some { e with fwd:=d.next })) r v i d (.ans ⟨8,d.head,i,d.id,d.ak,0,0,false,[]⟩):=by
 obtain⟨p,k,rfl⟩:∃p k,pre=p++[k]:=⟨pre.dropLast,pre.getLast u,(List.dropLast_concat_getLast u).symm⟩
 have hk:d.head=k:=by rw[w,Eo];rfl
 obtain⟨z,H⟩:=qj.1 C;obtain⟨e,q⟩:=z.mem k O;refine⟨e,by rw[hk];exact q,?_⟩;have o:=M.rng.1;have m:k∉p/\k≠i/\k∉post:=by
  simp only[zbp,za1,zao,zba,za3,zaN]at o;obtain⟨_,⟨A,Q,R⟩,K⟩:=o;refine⟨λh=>K k h k (.inl rfl) rfl,λh=>A (.inl h),λh=>A (.inr h)⟩
 have nd:∀j b,nT E d.head (some { e with fwd:=d.next }) j=some b->(j=k/\b={ e with fwd:=d.next })∨(j≠k/\E j=some b):=λj b g=>by
  by_cases n:j=k
  ·subst n;rw[hk,gu]at g;exact .inl ⟨rfl,(zaW g).symm⟩
  ·rw[hk,fD n]at g;exact .inr ⟨n,g⟩
 refine .zS (pre:=p++[k]) (post:=post) D F ⟨M.rng,λj b g=>?_,?_,M.head,M.st,λj b g=>?_,λj b g=>?_,M.Dx⟩ u ?_ ?_ w y G
 ·rcases nd j b g with⟨rfl,_⟩|⟨_,h⟩
  ·simp
  ·exact M.mem j b h
 ·obtain⟨L,hi⟩:=M.ent;exact⟨L,by rw[hk,fD m.2.1.symm];exact hi⟩
 ·rcases nd j b g with⟨_,rfl⟩|⟨_,h⟩
  ·exact M.bP k e q
  ·exact M.bP j b h
 ·rcases nd j b g with⟨_,rfl⟩|⟨_,h⟩
  ·exact M.data k e q
  ·exact M.data j b h
 ·rw[hk];exact z.arv m.1 q rfl y
 ·rw[hk];exact H.2.ext λj g=>fD λe=>m.2.2 (e ▸ g)
def SA {pre post:List Int}(z:d.step=5)(A:d.aU=3)(M:Mid N E r v i pre post)(q:post≠[])(C:Chn E (-1) pre (hdI post (-1)))(u:Chn E i post (-1))(w:d.head=nK pre (-1))(y:d.next=hdI post (-1))(D:d.told=r.head):
  ∃e,E d.next=some e/\Hold N hm (nT E d.next (some { e with back:=d.head })) r v i d (.ans ⟨8,d.next,i,d.id,d.ak,0,0,false,[]⟩):=by
 cases post with
 |nil=>exact absurd rfl q
 |cons k post=>
  have hk:d.next=k:=y
  obtain⟨e,p⟩:=u.mem k O;refine⟨e,by rw[hk];exact p,?_⟩;have o:=M.rng.1;have m:k∉pre/\k≠i/\k∉post:=by
   simp only[zbp,za1,zao]at o;obtain⟨_,⟨F,G,L⟩,H⟩:=o;refine⟨λh=>H k h k (.inr (.inl rfl)) rfl,λh=>F (.inl h.symm),G⟩
  have nd:∀j b,nT E d.next (some { e with back:=d.head }) j=some b->(j=k/\b={ e with back:=d.head })∨(j≠k/\E j=some b):=λj b g=>by
   by_cases n:j=k
   ·subst n;rw[hk,gu]at g;exact .inl ⟨rfl,(zaW g).symm⟩
   ·rw[hk,fD n]at g;exact .inr ⟨n,g⟩
  refine .vV (pre:=pre) (post:=k::post) z A ⟨M.rng,λj b g=>?_,?_,M.head,M.st,λj b g=>?_,λj b g=>?_,M.Dx⟩ q ?_ ?_ w y D
  ·rcases nd j b g with⟨rfl,_⟩|⟨_,h⟩
   ·simp
   ·exact M.mem j b h
  ·obtain⟨K,hi⟩:=M.ent;exact⟨K,by rw[hk,fD m.2.1.symm];exact hi⟩
  ·rcases nd j b g with⟨_,rfl⟩|⟨_,h⟩
   ·exact M.bP k e p
   ·exact M.bP j b h
  ·rcases nd j b g with⟨_,rfl⟩|⟨_,h⟩
   ·exact M.data k e p
   ·exact M.data j b h
  ·rw[hk];exact C.ext λj g=>fD λe=>m.1 (e ▸ g)
  ·rw[hk];exact u.adC m.2.2 p w rfl
end
section
variable {N hm:Int}{E:tu}{r:Row}{v:List Int}{i:Int}{d:bU}
def Rng.cons {l:List Int}(h:Rng N l)(hi:0<=i/\i<N)(d:i∉l):Rng N (i::l):=
 ⟨za1.2 ⟨d,h.1⟩,λj b=>by rcases zao.1 b with rfl|b;exact hi;exact h.2 j b⟩
def Rng.mid {pre post:List Int}(h:Rng N (pre++i::post)):i∉pre/\i∉post/\Rng N (pre++post)/\Rng N pre/\Rng N post/\0<=i:=by
 obtain⟨h1,h2⟩:=h;simp only[zbp,za1,zao]at h1;obtain⟨a,⟨b,c⟩,e⟩:=h1;refine⟨λh=>e i h i (.inl rfl) rfl,b,⟨?_,λj hj=>h2 j (by rcases zaQ.1 hj with h|h <;> simp[h])⟩,⟨a,λj hj=>h2 j (by simp[hj])⟩,⟨c,λj hj=>h2 j (by simp[hj])⟩,(h2 i (by simp)).1⟩;exact zbp.2 ⟨a,c,λx hx y hy=>e x hx y (.inr hy)⟩
def Rng.last {l:List Int}(h:Rng N l)(b:l≠[]):0<=nK l (-1):=(h.2 _ (Jr b)).1
def jI {x:Option Ent}{j:Int}{e:Ent}(h:nT E i x j=some e):(j=i/\x=some e)∨(j≠i/\E j=some e):=by
 by_cases b:j=i
 ·rw[b,gu]at h;exact .inl ⟨b,h⟩
 ·rw[fD b]at h;exact .inr ⟨b,h⟩
def Wf.empty {l:List Int}(W:Wf N E r v l)(h:l=[]):∀j,E j=none:=λj=>by
 cases b:E j with
 |none=>rfl
 |some e=>have:=W.mem j e b;rw[h]at this;cases this
def Wf.alone {e:Ent}(hi:0<=i/\i<N)(o:∀j,j≠i->E j=none)(n:E i=some e)(hb:e.back=-1)(p:e.fwd=-1){x:List Int}(q:e.data=v){st:Int}(m:(st=1/\e.bP=false/\x=v)∨(st=2/\e.bP=true)):Wf N E ⟨st,i,x⟩ v [i]:=by
 have one:∀j d,E j=some d->j=i/\d=e:=λj d b=>by
  by_cases g:j=i
  ·rw[g,n]at b;exact⟨g,(zaW b).symm⟩
  ·rw[o j g]at b;cases b
 refine⟨⟨O,λj b=>by simp only[zao,zaB,or_false]at b;rw[b];exact hi⟩,⟨⟨e,n,hb,p⟩,trivial⟩,λj d b=>by simp[(one j d b).1],rfl,?_,?_,λ_=>⟨i,rfl⟩,λj d b=>?_,λj d b=>by rw[(one j d b).2,q],λh=>?_⟩
 ·rcases m with⟨h,_⟩|⟨h,_⟩ <;> simp[h]
 ·rcases m with⟨h,_⟩|⟨h,_⟩ <;> simp[h]
 ·rw[(one j d b).2];rcases m with⟨h,k,_⟩|⟨h,k⟩ <;> simp[h,k]
 ·rcases m with⟨_,_,k⟩|⟨k,_⟩
  ·exact k
  ·exact absurd k h
def O5 {l:List Int}(hi:0<=i/\i<N)(W:Wf N E r v l)(b:r.state=0){e':Ent}(hb:e'.back=-1)(e:e'.fwd=-1)(hd:e'.bP=false)(g:e'.data=r.data){d':bU}(h:d'.step=6)(k:d'.state=1)(m:d'.head=i)(n:d'.data=[]):
  Hold N hm (nT E i (some e')) r v i d' (.req (d'.ask i hm)):=by
 have d:=W.Dx (by rw[b];decide);have o:=W.empty (W.st0.1 b);refine .unlock (l:=[i]) h ?_;have:jd r d'=⟨1,i,r.data⟩:=by simp only[jd,k,m,n,if_true]
 rw[this];exact Wf.alone hi (λj p=>by rw[fD p];exact o j) gu hb e (by rw[g,d]) (.inl ⟨rfl,hd,d⟩)
def Jt {l:List Int}(hk:d.aU=1)(W:Wf N E r v l)(b:r.state≠0)(e:d.step=2)(g:d.head=r.head):Hold N hm E r v i d (.req (d.ask i hm)):=
 .attach (l:=l) e hk (λh=>b (W.st0.2 h)) (by rw[g,W.head]) W
def O6 {l:List Int}{fl:Bool}(hi:0<=i/\i<N)(q:E i=none)(F:l≠[])(u:d.head=hdI l (-1))(R:Rng N l)(C:Chn E i l (-1))(m:∀j e,E j=some e->j∈l)(hc:∀j e,E j=some e->e.bP=false)(hd:∀j e,E j=some e->e.data=v)(w:fl=false->r.data=v)(hv:v≠[])
  {e':Ent} (hb:e'.back=-1) (hw:e'.fwd=d.head) (n:e'.bP=false) (y:e'.data=v) {d':bU} (z:d'.step=6) (k:d'.state=1) (o:d'.head=i) (A:d'.data=if fl then v else []):
  Hold N hm (nT E i (some e')) r v i d' (.req (d'.ask i hm)):=by
 have g:i∉l:=λh=>by obtain⟨e,p⟩:=C.mem i h;rw[q]at p;cases p
 have D:(jd r d').data=v:=by
  simp only[jd,A];cases fl with
  |true=>simp[hv]
  |false=>simp[w rfl]
 refine .unlock (l:=i::l) z ⟨R.cons hi g,⟨⟨e',gu,hb,by rw[hw,u]⟩,C.ext λj b=>fD λe=>g (e ▸ b)⟩,λj e b=>?_,o,.inr (.inl k),?_,λh=>?_,λj e b=>?_,λj e b=>?_,λ_=>D⟩
 ·rcases jI b with⟨h,_⟩|⟨_,h⟩
  ·simp[h]
  ·exact zbb _ (m j e h)
 ·simp only[jd,k];simp
 ·simp only[jd,k]at h;cases h
 ·simp only[jd,k];rcases jI b with⟨_,h⟩|⟨_,h⟩
  ·cases h;simp[n]
  ·simp[hc j e h]
 ·rcases jI b with⟨_,h⟩|⟨_,h⟩
  ·cases h;exact y
  ·exact hd j e h
def Wf.left {l:List Int}(W:Wf N E r v l):alQ N E v i l:=
 ⟨W.rng,W.ch.fch,λj e d=>.inl (W.mem j e d),W.data,λj e d hd k hk=>by
  obtain⟨q,m⟩:=W.st2 ((W.bP j e d).1 hd);have g:=W.mem j e d;cases b:E k with
  |none=>exact absurd b hk
  |some n=>
   have h:=W.mem k n b;rw[m]at g h;simp only[zao,zaB,or_false]at g h;rw[g,h]⟩
def alR(hi0:0<=i){R:List Int}(L:alQ N E v i R)(hd1:E i≠none->d.data=v)(hd2:R=[]->d.data=v)(hn:d.next=hdI R (-1)){x:Int}(hx:x=match E i with
   |some own=>if d.next=i then own.fwd else d.next
   |none=>d.next) (hk:d.aU=2):
  (x≠-1/\∀d':bU,d'.step=3->d'.aU=2->d'.next=x->d'.data=d.data->Hold N hm E r v i d' (.req (d'.ask i hm)))∨(x=-1/\d.data=v/\∀j,j≠i->E j=none):=by
 have go:∀R':List Int,alQ N E v i R'->x=hdI R' (-1)->(R'≠[]->hdI R' (-1)≠i)->(R'=[]->d.data=v)->(x≠-1/\∀d':bU,d'.step=3->d'.aU=2->d'.next=x->d'.data=d.data->Hold N hm E r v i d' (.req (d'.ask i hm)))∨(x=-1/\d.data=v/\∀j,j≠i->E j=none):=by
  intro R' L' hx' hi' hd';cases R' with
  |nil=>
   refine .inr ⟨hx',hd' rfl,λj hj=>?_⟩;cases h:E j with
   |none=>rfl
   |some e=>rcases L'.mem j e h with h'|h';cases h';exact absurd h' hj
  |cons k R'=>
   have h0:=(L'.rng.2 k O).1;refine .inl ⟨by rw[hx'];show k≠-1;omega,λd' a b c e=>?_⟩;have hk':d'.next=k:=c.trans hx'
   exact .JK (R:=R') a b (by rw[hk'];exact L') (by rw[hk'];exact hi' O) λh=>by rw[e];exact hd1 h
 cases hE:E i with
 |none=>
  rw[hE]at hx;simp only at hx;refine go R L (hx.trans hn) (λhR h=>?_) hd2;obtain⟨e,he⟩:=L.ch.mem _ (L.rng.hd hR).1;rw[h,hE]at he;cases he
 |some own=>
  rw[hE]at hx;simp only at hx;have hdv:=hd1 (by rw[hE];simp);by_cases hni:d.next=i
  ·rw[if_pos hni]at hx;cases R with
   |nil=>
    have h1:d.next=-1:=hn
    omega
   |cons k R=>
    have hk':k=i:=by rw[<-hni,hn];rfl
    subst hk';obtain⟨⟨e,he,hf⟩,hc⟩:=L.ch;rw[hE]at he;cases he;have hkR:=(za1.1 L.rng.1).1;refine go R ⟨⟨(za1.1 L.rng.1).2,λj hj=>L.rng.2 j (by simp[hj])⟩,hc,λj e hj=>?_,L.data,L.only⟩ (hx.trans hf) (λhR h=>?_) λ_=>hdv
    ·rcases L.mem j e hj with h|h
     ·rcases zao.1 h with h|h
      ·exact .inr h
      ·exact .inl h
     ·exact .inr h
    ·apply hkR
     rw[<-h];cases R with
     |nil=>exact absurd rfl hR
     |cons a R=>simp[hdI]
  ·rw[if_neg hni]at hx;exact go R L (hx.trans hn) (λhR h=>hni (hn.trans h)) λ_=>hdv
def Ju(hi:0<=i/\i<N)(h0:∀j,j≠i->E j=none){e':Ent}(hb:e'.back=-1)(d:e'.fwd=-1)(hd:e'.bP=true){d':bU}(e:d'.step=6)(g:d'.state=2)(h:d'.head=i):Hold N hm (nT E i (some e')) r e'.data i d' (.req (d'.ask i hm)):=by
 refine .unlock (l:=[i]) e ?_;have:jd r d'=⟨2,i,if d'.data=[]then r.data else d'.data⟩:=by simp only[jd,g,h]
 rw[this];exact Wf.alone hi (λj b=>by rw[fD b];exact h0 j b) gu hb d rfl (.inr ⟨rfl,hd⟩)
def O7 {l:List Int}(W:Wf N E r v l)(b:d.step=6)(e:d.state=r.state)(g:d.head=r.head)(h:d.data=[]):Hold N hm E r v i d (.req (d.ask i hm)):=by
 refine .unlock (l:=l) b ?_;have:jd r d=r:=by simp only[jd,e,g,h,if_true]
 rw[this];exact W
def Wf.split {l:List Int}(W:Wf N E r v l){e:Ent}(b:E i=some e):∃pre post,l=pre++i::post/\e.back=nK pre (-1)/\e.fwd=hdI post (-1):=by
 obtain⟨pre,post,rfl⟩:=List.append_of_mem (W.mem i e b);obtain⟨_,⟨⟨j,d,g,h⟩,_⟩⟩:=qj.1 W.ch;rw[b]at d;cases d;exact⟨pre,post,rfl,g,h⟩
def Wf.mid {pre post:List Int}(W:Wf N E r v (pre++i::post)){e:Ent}(k:E i=some e)(b:pre≠[]∨post≠[]):Mid N E r v i pre post:=by
 have d:r.state≠2:=λh=>by
  obtain⟨q,m⟩:=W.st2 h;have:=congrArg List.length m;simp only[zar,zak,zan]at this;rcases b with h|h
  ·have:=zdD.2 h;omega
  ·have:=zdD.2 h;omega
 have n:r.state=1:=by
  rcases W.st with h|h|h
  ·have:=W.st0.1 h;simp at this
  ·exact h
  ·exact absurd h d
 exact⟨W.rng,W.mem,⟨e,k⟩,W.head,n,λj g o=>by
  cases hd:g.bP with
  |false=>rfl
  |true=>exact absurd ((W.bP j g o).1 hd) d,W.data,W.Dx d⟩
def JL {l:List Int}(W:Wf N E r v l)(hv:v≠[]){e:Ent}(o:E i=some e)(hb:e.back=-1)(G:e.fwd=-1)(w:d.step=6)(p:d.state=0)(y:d.head=-1)(z:d.data=if e.bP then e.data else []):Hold N hm (nT E i none) r v i d (.req (d.ask i hm)):=by
 obtain⟨q,k,rfl,H,K⟩:=W.split o;obtain⟨L,M,Q,A,C,R⟩:=W.rng.mid;have D:q=[]:=Classical.byContradiction λh=>by have:=A.last h;omega
 have F:k=[]:=Classical.byContradiction λh=>by have:=(C.hd h).2;omega
 subst D;subst F;have b:∀j,nT E i none j=none:=λj=>by
  cases g:nT E i none j with
  |none=>rfl
  |some n=>
   rcases jI g with⟨_,h⟩|⟨u,h⟩
   ·cases h
   ·have:=W.mem j n h;simp only[zaN,zao,zaB,or_false]at this;exact absurd this u
 have hd:(jd r d).data=v:=by
  simp only[jd,z];cases m:e.bP with
  |true=>simp[W.data i e o,hv]
  |false=>
   have:r.state≠2:=λh=>by rw[(W.bP i e o).2 h]at m;cases m
   simp[W.Dx this]
 refine .unlock (l:=[]) w ⟨⟨zc2,λj g=>by cases g⟩,trivial,λj n g=>?_,y,.inl p,by simp[jd,p],λh=>?_,λj n g=>?_,λj n g=>?_,λ_=>hd⟩
 ·rw[b j]at g;cases g
 ·simp only[jd,p]at h;cases h
 ·rw[b j]at g;cases g
 ·rw[b j]at g;cases g
def JM {l:List Int}(W:Wf N E r v l){e:Ent}(b:E i=some e)(hb:e.back=-1)(k:e.fwd≠-1)(m:d.step=5)(hk:d.aU=3)(n:d.head=-1)(o:d.next=e.fwd)(p:d.told=r.head):Hold N hm E r v i d (.req (d.ask i hm)):=by
 obtain⟨pre,post,rfl,w,g⟩:=W.split b;obtain⟨y,z,A,q,C,D⟩:=W.rng.mid;have u:pre=[]:=Classical.byContradiction λh=>by have:=q.last h;omega
 subst u;have j:post≠[]:=λh=>k (by rw[g,h];rfl);exact .behind (pre:=[]) (post:=post) m hk (W.mid b (.inr j)) j trivial W.ch.2 n (o.trans g) p
def JO {l:List Int}(W:Wf N E r v l){e:Ent}(b:E i=some e)(hb:e.back≠-1)(k:d.step=4)(hk:d.aU=3)(m:d.head=e.back)(n:d.next=e.fwd)(o:d.told=r.head):Hold N hm E r v i d (.req (d.ask i hm)):=by
 obtain⟨pre,post,rfl,g,p⟩:=W.split b;have j:pre≠[]:=λh=>hb (by rw[g,h];rfl);exact .front (pre:=pre) (post:=post) k hk (W.mid b (.inl j)) j W.ch (m.trans g) (n.trans p) o
def Mid.out {pre post:List Int}(M:Mid N E r v i pre post)(g:pre++post≠[])(m:Chn E (-1) pre (hdI post (-1)))(n:Chn E (nK pre (-1)) post (-1))(o:d.step=6)(p:d.state=1)(q:d.head=hdI (pre++post) (-1))(u:d.data=[]):Hold N hm (nT E i none) r v i d (.req (d.ask i hm)):=by
 obtain⟨w,y,z,C,D,F⟩:=M.rng.mid;have A:jd r d=⟨1,hdI (pre++post) (-1),r.data⟩:=by simp only[jd,p,q,u,if_true]
 refine .unlock (l:=pre++post) o ?_;rw[A];refine⟨z,qj.2 ⟨m.ext λj b=>fD λe=>w (e ▸ b),n.ext λj b=>fD λe=>y (e ▸ b)⟩,λj e b=>?_,rfl,.inr (.inl rfl),by simpa using g,λh=>(by cases h),λj e b=>?_,λj e b=>?_,λ_=>M.Dx⟩
 ·rcases jI b with⟨_,h⟩|⟨k,h⟩
  ·cases h
  ·have:=M.mem j e h;simp only[zaQ,zao]at this ⊢;rcases this with h|h|h
   ·exact .inl h
   ·exact absurd h k
   ·exact .inr h
 ·rcases jI b with⟨_,h⟩|⟨_,h⟩
  ·cases h
  ·simp[M.bP j e h]
 ·rcases jI b with⟨_,h⟩|⟨_,h⟩
  ·cases h
  ·exact M.data j e h
def Jv {pre post:List Int}(M:Mid N E r v i pre post)(b:pre≠[])(e:Chn E (-1) pre (hdI post (-1)))(g:post=[])(h:d.step=6)(j:d.state=1)(k:d.head=r.head)(m:d.data=[]):Hold N hm (nT E i none) r v i d (.req (d.ask i hm)):=by
 subst g;refine M.out (by simpa using b) e trivial h j ?_ m;rw[k,M.head,zbd];cases pre with
 |nil=>exact absurd rfl b
 |cons a pre=>rfl
def JQ {pre post:List Int}(M:Mid N E r v i pre post)(b:post≠[])(e:Chn E (-1) pre (hdI post (-1)))(g:Chn E i post (-1))(h:d.step=5)(hk:d.aU=3)(j:d.head=nK pre (-1))(k:d.next=hdI post (-1))(m:d.told=r.head):Hold N hm E r v i d (.req (d.ask i hm)):=
 .behind (pre:=pre) (post:=post) h hk M b e g j k m
def Ep {pre post:List Int}(M:Mid N E r v i pre post)(h:post≠[])(j:Chn E (-1) pre (hdI post (-1)))(k:Chn E (nK pre (-1)) post (-1)){h0 nx:Int}(b:h0=nK pre (-1))(e:nx=hdI post (-1))(m:d.step=6)(n:d.state=1)(g:d.head=if h0=-1 then nx else r.head)(o:d.data=[]):Hold N hm (nT E i none) r v i d (.req (d.ask i hm)):=by
 obtain⟨q,u,w,p,y,z⟩:=M.rng.mid;refine M.out (by simp[h]) j k m n ?_ o;cases pre with
 |nil=>
  have:h0=-1:=b;rw[g,if_pos this,e];rfl
 |cons a pre=>
  have A:=p.last (l:=a::pre) O;rw[g,if_neg V,M.head];rfl
end
structure Abs where
 ent:Int->tu
 row:Int->Row
 own:Int->Int
 ws:Int->List (Int × Int)
 aJ:Int->bU
 msg:Int->Out
 val:Int->List Int
def Abs.holds(c:Cfg)(a:Abs)(L:Int):Prop:=Hold c.aG (c.aZ L) (a.ent L) (a.row L) (a.val L) (a.own L) (a.aJ (a.own L)) (a.msg (a.own L))
def ajC(c:Cfg)(a:Abs)(L:Int):Prop:=
 (a.own L=-1/\∃l,Wf c.aG (a.ent L) (a.row L) (a.val L) l)∨(0<=a.own L/\a.own L<c.aG/\(a.aJ (a.own L)).ak=L/\a.holds c L)
def arw(c:Cfg)(a:Abs)(L:Int):Prop:=
 ((a.ws L).map (·.1)).Nodup/\∀w∈a.ws L,0<=w.1/\w.1<c.aG/\a.msg w.1=.wait/\(a.aJ w.1).ak=L/\(a.aJ w.1).id=w.2/\(a.aJ w.1).step=1
def agt(c:Cfg)(d:bU)(i:Int):Pkt:=⟨8,c.aZ d.ak,i,d.id,d.ak,0,0,false,[]⟩
def awe(c:Cfg)(a:Abs)(i:Int):Prop:=(a.aJ i).step=1/\a.own (a.aJ i).ak≠i/\(a.msg i=.req ((a.aJ i).ask i (c.aZ (a.aJ i).ak))∨(a.msg i=.wait/\(i,(a.aJ i).id)∈a.ws (a.aJ i).ak))
def auF(c:Cfg)(a:Abs)(i:Int):Prop:=(a.aJ i).step=6/\a.own (a.aJ i).ak≠i/\a.msg i=.ans (agt c (a.aJ i) i)
structure alS(c:Cfg)(a:Abs)(i:Int):Prop where
 step:(a.aJ i).step≠0
 ak:0<=(a.aJ i).ak/\(a.aJ i).ak<c.aO
 aU:1<=(a.aJ i).aU/\(a.aJ i).aU<=3
 idr:0<=(a.aJ i).id/\(a.aJ i).id<4096
 miss:(a.aJ i).aU=1->(a.aJ i).step=1∨(a.aJ i).step=2->a.ent (a.aJ i).ak i=none
 at_:awe c a i∨a.own (a.aJ i).ak=i∨auF c a i
def ajD(c:Cfg)(a:Abs)(i:Int):Prop:=((a.aJ i).step=0/\a.msg i=.idle)∨alS c a i
structure nU(c:Cfg)(a:Abs):Prop where
 ak:∀L,0<=L->L<c.aO->ajC c a L
 bH:∀i,0<=i->i<c.aG->ajD c a i
 ws:∀L,arw c a L
 val:∀L,0<=L->L<c.aO->a.val L≠[]
 out:∀L,¬(0<=L/\L<c.aO)->a.own L=-1
section
variable {c:Cfg}{a a':Abs}{i L:Int}
def Hold.O8 {N hm:Int}{E:tu}{r:Row}{v:List Int}{i:Int}{d:bU}{o:Out}(h:Hold N hm E r v i d o):d.step≠0:=by
 cases h <;> omega
def nU.holder(I:nU c a)(d:0<=L/\L<c.aO)(h:a.own L=i)(hi:0<=i):(a.aJ i).ak=L/\Hold c.aG (c.aZ L) (a.ent L) (a.row L) (a.val L) i (a.aJ i) (a.msg i):=by
 rcases I.ak L d.1 d.2 with⟨g,_⟩|⟨_,_,e,b⟩
 ·omega
 ·unfold Abs.holds at b;rw[h]at e b;exact⟨e,b⟩
def nU.upd(I:nU c a)(i L:Int)(hi:0<=i)(D:∀d,d≠L->a'.ent d=a.ent d)(r1:∀d,d≠L->a'.row d=a.row d)(o:∀d,d≠L->a'.own d=a.own d)(w1:∀d,d≠L->a'.ws d=a.ws d)(E:∀d,d≠L->a'.val d=a.val d)
  (g:∀j,j≠i->a'.aJ j=a.aJ j) (u:∀j,j≠i->a'.msg j=a.msg j) (K:∀j,j≠i->a.ent L j=none->a'.ent L j=none)
  (Q:∀j,0<=j->j≠i->(a'.own L=j↔a.own L=j)) (R:∀j k,j≠i->(j,k)∈a.ws L->(j,k)∈a'.ws L)
  (T:∀d,d≠L->a.own d≠i) (W:∀d,d≠L->∀k,(i,k)∉a.ws d) (X:0<=L/\L<c.aO)
  (nl:ajC c a' L) (nn:ajD c a' i) (nw:arw c a' L) (nv:a'.val L≠[]):nU c a':=by
 refine⟨λd q v=>?_,λj q v=>?_,λd=>?_,λd q v=>?_,λd h=>?_⟩
 ·by_cases h:d=L
  ·rw[h];exact nl
  ·have m:=T d h;rcases I.ak d q v with⟨y,l,z⟩|⟨y,z,a3,H⟩
   ·exact .inl ⟨by rw[o d h];exact y,l,by rw[D d h,r1 d h,E d h];exact z⟩
   ·refine .inr ⟨by rw[o d h];exact y,by rw[o d h];exact z,by rw[o d h,g _ m];exact a3,?_⟩;unfold Abs.holds at H ⊢;rw[o d h,g _ m,u _ m,D d h,r1 d h,E d h];exact H
 ·by_cases h:j=i
  ·rw[h];exact nn
  ·rcases I.bH j q v with⟨y,z⟩|O
   ·exact .inl ⟨by rw[g j h];exact y,by rw[u j h];exact z⟩
   ·have F:∀M:Int,a'.own M=j↔a.own M=j:=λM=>by
     by_cases n:M=L
     ·rw[n];exact Q j q h
     ·rw[o M n]
    refine .inr ⟨by rw[g j h];exact O.step,by rw[g j h];exact O.ak,by rw[g j h];exact O.aU,by rw[g j h];exact O.idr,?_,?_⟩
    ·rw[g j h];intro hk hs;have:=O.miss hk hs;by_cases n:(a.aJ j).ak=L
     ·rw[n]at this ⊢;exact K j h this
     ·rw[D _ n];exact this
    ·rcases O.at_ with⟨A,C,p⟩|b|⟨A,C,p⟩
     ·refine .inl ⟨by rw[g j h];exact A,?_,?_⟩
      ·rw[g j h];exact λe=>C ((F _).1 e)
      ·rw[g j h,u j h];rcases p with p|⟨p,G⟩
       ·exact .inl p
       ·refine .inr ⟨p,?_⟩;by_cases n:(a.aJ j).ak=L
        ·rw[n]at G ⊢;exact R j _ h G
        ·rw[w1 _ n];exact G
     ·exact .inr (.inl (by rw[g j h];exact(F _).2 b))
     ·refine .inr (.inr ⟨by rw[g j h];exact A,?_,by rw[u j h,g j h];exact p⟩);rw[g j h];exact λe=>C ((F _).1 e)
 ·by_cases h:d=L
  ·rw[h];exact nw
  ·obtain⟨A,C⟩:=I.ws d;refine⟨by rw[w1 d h];exact A,λw hw=>?_⟩;rw[w1 d h]at hw;have m:w.1≠i:=λe=>W d h w.2 (by rw[<-e];exact hw);rw[g _ m,u _ m];exact C w hw
 ·by_cases h:d=L
  ·rw[h];exact nv
  ·rw[E d h];exact I.val d q v
 ·by_cases n:d=L
  ·rw[n]at h;exact absurd X h
  ·rw[o d n];exact I.out d h
def nU.only(I:nU c a)(hi:0<=i)(b:Int)(h:a.own b=i):(a.aJ i).ak=b/\(a.aJ i).step≠0:=by
 by_cases d:0<=b/\b<c.aO
 ·obtain⟨e,g⟩:=I.holder d h hi;exact⟨e,g.O8⟩
 ·have:=I.out b d;omega
def nU.alT(I:nU c a)(hi:0<=i)(h:(a.aJ i).ak=L∨(a.aJ i).step=0):∀b,b≠L->a.own b≠i:=λb d e=>by
 obtain⟨g,j⟩:=I.only hi b e;rcases h with h|h
 ·exact d (g.symm.trans h)
 ·exact j h
def nU.ws7(I:nU c a)(h:(a.aJ i).ak=L∨(a.aJ i).step=0):∀b,b≠L->∀k,(i,k)∉a.ws b:=λb d k hk=>by
 obtain⟨_,_,_,e,_,g⟩:=(I.ws b).2 _ hk;rcases h with h|h
 ·exact d (e.symm.trans h)
 ·simp only at g;omega
def arw.same(W:arw c a L)(hw:a'.ws L=a.ws L)(h:∀k,(i,k)∉a.ws L)(g:∀j,j≠i->a'.aJ j=a.aJ j)(m:∀j,j≠i->a'.msg j=a.msg j):arw c a' L:=by
 obtain⟨n,o⟩:=W;refine⟨by rw[hw];exact n,λw d=>?_⟩;rw[hw]at d;have b:w.1≠i:=λe=>h w.2 (by rw[<-e];exact d);rw[g _ b,m _ b];exact o w d
def nU.SB(I:nU c a)(h:a.msg i≠.wait):∀L k,(i,k)∉a.ws L:=λL k hk=>h ((I.ws L).2 _ hk).2.2.1
def dL {α:Type}(f:Int->α)(i:Int)(x:α):Int->α:=λj=>if j=i then x else f j
def aK {α:Type}{f:Int->α}{i:Int}{x:α}:dL f i x i=x:=by simp[dL]
def aX {α:Type}{f:Int->α}{i j:Int}{x:α}(h:j≠i):dL f i x j=f j:=by simp[dL,h]
def nU.begin_(I:nU c a)(hi:0<=i/\i<c.aG)(h0:(a.aJ i).step=0){k id:Int}(hk:1<=k/\k<=3)(o:0<=id/\id<4096)(m:0<=L/\L<c.aO)(hm:k=1->a.ent L i=none):
  nU c { a with aJ:=dL a.aJ i (.begin k L id),msg:=dL a.msg i (.req ((bU.begin k L id).ask i (c.aZ L))) }:=by
 have b:∀d,a.own d≠i:=λd e=>(I.only hi.1 d e).2 h0;have p:a.msg i≠.wait:=λe=>by
  rcases I.bH i hi.1 hi.2 with⟨_,h⟩|O
  ·rw[h]at e;cases e
  ·exact O.step h0
 have n:=I.SB p;refine I.upd i L hi.1 (λ_ _=>rfl) (λ_ _=>rfl) (λ_ _=>rfl) (λ_ _=>rfl) (λ_ _=>rfl) (λj g=>aX g) (λj g=>aX g) (λ_ _ h=>h) (λ_ _ _=>Iff.rfl) (λ_ _ _ h=>h) (λd _=>b d) (λd _=>n d) m ?_ ?_ ?_ (I.val L m.1 m.2)
 ·rcases I.ak L m.1 m.2 with h|⟨u,v,w,q⟩
  ·exact .inl h
  ·refine .inr ⟨u,v,?_,?_⟩
   ·show(dL a.aJ i _ (a.own L)).ak=L;rw[aX (b L)];exact w
   ·unfold Abs.holds at q ⊢;show Hold _ _ _ _ _ _ (dL a.aJ i _ (a.own L)) (dL a.msg i _ (a.own L));rw[aX (b L),aX (b L)];exact q
 ·have hd:dL a.aJ i (.begin k L id) i=bU.begin k L id:=aK;refine .inr ⟨?_,?_,?_,by show 0<=(dL a.aJ i _ i).id/\(dL a.aJ i _ i).id<4096;rw[hd];exact o,?_,.inl ⟨?_,?_,.inl ?_⟩⟩
  ·show(dL a.aJ i _ i).step≠0;rw[hd];show(1:Int)≠0;decide
  ·show 0<=(dL a.aJ i _ i).ak/\(dL a.aJ i _ i).ak<c.aO;rw[hd];exact m
  ·show 1<=(dL a.aJ i _ i).aU/\(dL a.aJ i _ i).aU<=3;rw[hd];exact hk
  ·show(dL a.aJ i _ i).aU=1->(dL a.aJ i _ i).step=1∨(dL a.aJ i _ i).step=2->a.ent (dL a.aJ i _ i).ak i=none;rw[hd];exact λh _=>hm h
  ·show(dL a.aJ i _ i).step=1;rw[hd];rfl
  ·show a.own (dL a.aJ i _ i).ak≠i;exact b _
  ·show dL a.msg i _ i=.req ((dL a.aJ i _ i).ask i (c.aZ (dL a.aJ i _ i).ak));rw[hd,aK];rfl
 ·exact(I.ws L).same (i:=i) rfl (n L) (λj g=>aX g) (λj g=>aX g)
def lC {d:bU}{hm:Int}(h:1<=d.step/\d.step<=6):(d.ask i hm).aU=Aj d.step/\(d.ask i hm).src=i/\(d.ask i hm).id=d.id/\(d.ask i hm).ak=d.ak:=by
 have:d.step=1∨d.step=2∨d.step=3∨d.step=4∨d.step=5∨d.step=6:=V
 unfold bU.ask Aj;rcases this with h|h|h|h|h|h <;> simp[h]
def Hold.req {N hm:Int}{E:tu}{r:Row}{v:List Int}{d:bU}{p:Pkt}(h:Hold N hm E r v i d (.req p)):p=d.ask i hm/\2<=d.step/\d.step<=6:=by
 cases h <;> exact⟨rfl,V,V⟩
def Hold.ans {N hm:Int}{E:tu}{r:Row}{v:List Int}{d:bU}{p:Pkt}(h:Hold N hm E r v i d (.ans p)):p.dst=i/\p.id=d.id/\p.ak=d.ak/\p.aU=DW (Aj d.step)/\1<=d.step/\d.step<=5:=by
 cases h
 all_goals (rename_i b;first|skip)
 all_goals (refine⟨rfl,rfl,rfl,?_,V,V⟩;simp[*,Aj,DW])
def Hold.unl {N hm:Int}{E:tu}{r:Row}{v:List Int}{d:bU}{p:Pkt}(h:Hold N hm E r v i d (.req p))(b:d.step=6):∃l,Wf N E (jd r d) v l:=by
 cases h
 all_goals first|(exfalso;omega)|exact⟨_,by assumption⟩
def nU.req(I:nU c a)(hi:0<=i/\i<c.aG){p:Pkt}(d:a.msg i=.req p):
  alS c a i/\p=(a.aJ i).ask i (c.aZ p.ak)/\(a.aJ i).ak=p.ak/\(1<=(a.aJ i).step/\(a.aJ i).step<=6)/\
  (((a.aJ i).step=1/\a.own p.ak≠i)∨(2<=(a.aJ i).step/\a.own p.ak=i/\Hold c.aG (c.aZ p.ak) (a.ent p.ak) (a.row p.ak) (a.val p.ak) i (a.aJ i) (.req p))):=by
 rcases I.bH i hi.1 hi.2 with⟨_,h⟩|O
 ·rw[h]at d;cases d
 ·rcases O.at_ with⟨k,m,e⟩|b|⟨_,_,e⟩
  ·rcases e with e|⟨e,_⟩
   ·rw[e]at d;have d:=(Out.req.inj d).symm;have g:p.ak=(a.aJ i).ak:=by rw[d];exact(lC V).2.2.2
    rw[g];exact⟨O,d,rfl,V,.inl ⟨k,m⟩⟩
   ·rw[e]at d;cases d
  ·obtain⟨_,H⟩:=I.holder O.ak b hi.1;rw[d]at H;obtain⟨j,n,o⟩:=H.req;have g:p.ak=(a.aJ i).ak:=by rw[j];exact(lC V).2.2.2
   rw[g];exact⟨O,j,rfl,V,.inr ⟨n,b,H⟩⟩
  ·rw[e]at d;cases d
def nU.lock(I:nU c a)(hi:0<=i/\i<c.aG){p:Pkt}(u:a.msg i=.req p)(hk:p.aU=1)(y:a.own p.ak=-1):
  nU c { a with own:=dL a.own p.ak i,msg:=dL a.msg i (.ans ⟨7,c.aZ p.ak,i,p.id,p.ak,(a.row p.ak).head,(a.row p.ak).state,false,(a.row p.ak).data⟩) }:=by
 obtain⟨O,v,g,w,z⟩:=I.req hi u;have A:p.aU=Aj (a.aJ i).step:=by rw[v];exact(lC w).1
 have n:p.id=(a.aJ i).id:=by rw[v];exact(lC w).2.2.1
 have o:(a.aJ i).step=1:=by
  rcases z with h|⟨h,E,_⟩
  ·exact h.1
  ·omega
 have b:=O.ak;rw[g]at b;have k:=I.SB (i:=i) (by rw[u];exact λe=>by cases e);have q:dL a.msg i (.ans ⟨7,c.aZ p.ak,i,p.id,p.ak,(a.row p.ak).head,(a.row p.ak).state,false,(a.row p.ak).data⟩) i=.ans ⟨7,c.aZ p.ak,i,p.id,p.ak,(a.row p.ak).head,(a.row p.ak).state,false,(a.row p.ak).data⟩:=aK;refine I.upd i p.ak hi.1 (λ_ _=>rfl) (λ_ _=>rfl) (λ_ h=>aX h) (λ_ _=>rfl) (λ_ _=>rfl) (λ_ _=>rfl) (λj m=>aX m) (λ_ _ h=>h) (λj F m=>?_) (λ_ _ _ h=>h) (I.alT hi.1 (.inl g)) (λC _=>k C) b ?_ ?_ ?_ (I.val _ b.1 b.2)
 ·show dL a.own p.ak i p.ak=j↔_;rw[aK,y];exact⟨λe=>absurd e.symm m,λe=>V⟩
 ·have D:dL a.own p.ak i p.ak=i:=aK;refine .inr ?_;show 0<=dL a.own p.ak i p.ak/\dL a.own p.ak i p.ak<c.aG/\(a.aJ (dL a.own p.ak i p.ak)).ak=p.ak/\Hold _ _ _ _ _ (dL a.own p.ak i p.ak) (a.aJ (dL a.own p.ak i p.ak)) (dL a.msg i _ (dL a.own p.ak i p.ak));rw[D,q];refine⟨hi.1,hi.2,g,?_⟩;rcases I.ak p.ak b.1 b.2 with⟨_,l,W⟩|⟨G,_⟩
  ·have:=Hold.granted (hm:=c.aZ p.ak) (i:=i) (d:=a.aJ i) o W;rw[g]at this;rw[n];exact this
  ·omega
 ·refine .inr ⟨O.step,O.ak,O.aU,O.idr,O.miss,.inr (.inl ?_)⟩;show dL a.own p.ak i (a.aJ i).ak=i;rw[g,aK]
 ·exact(I.ws _).same (i:=i) rfl (k _) (λ_ _=>rfl) (λj m=>aX m)
def nU.wait(I:nU c a)(hi:0<=i/\i<c.aG){p:Pkt}(D:a.msg i=.req p)(hk:p.aU=1):
  nU c { a with ws:=dL a.ws p.ak (a.ws p.ak++[(i,p.id)]),msg:=dL a.msg i .wait }:=by
 obtain⟨O,E,n,F,K⟩:=I.req hi D;have o:p.aU=Aj (a.aJ i).step:=by rw[E];exact(lC F).1
 have q:p.id=(a.aJ i).id:=by rw[E];exact(lC F).2.2.1
 have d:(a.aJ i).step=1/\a.own p.ak≠i:=by
  rcases K with h|⟨h,_,Q⟩
  ·exact h
  ·exfalso;have:(a.aJ i).step=2∨(a.aJ i).step=3∨(a.aJ i).step=4∨(a.aJ i).step=5∨(a.aJ i).step=6:=V
   rw[hk]at o;rcases this with h|h|h|h|h <;> simp[h,Aj]at o
 have m:=O.ak;rw[n]at m;have g:=I.SB (i:=i) (by rw[D];exact λe=>by cases e);refine I.upd i p.ak hi.1 (λ_ _=>rfl) (λ_ _=>rfl) (λ_ _=>rfl) (λ_ h=>aX h) (λ_ _=>rfl) (λ_ _=>rfl) (λj u=>aX u) (λ_ _ h=>h) (λj R u=>Iff.rfl) (λj k u h=>?_) (I.alT hi.1 (.inl n)) (λL _=>g L) m ?_ ?_ ?_ (I.val _ m.1 m.2)
 ·show(j,k)∈dL a.ws p.ak _ p.ak;rw[aK];exact zc5 _ h
 ·rcases I.ak p.ak m.1 m.2 with h|⟨v,z,M,G⟩
  ·exact .inl h
  ·refine .inr ⟨v,z,M,?_⟩;unfold Abs.holds at G ⊢;show Hold _ _ _ _ _ _ _ (dL a.msg i _ (a.own p.ak));rw[aX d.2];exact G
 ·refine .inr ⟨O.step,O.ak,O.aU,O.idr,O.miss,.inl ⟨d.1,?_,.inr ⟨aK,?_⟩⟩⟩
  ·show a.own (a.aJ i).ak≠i;rw[n];exact d.2
  ·show(i,(a.aJ i).id)∈dL a.ws p.ak _ (a.aJ i).ak;rw[n,aK,q];simp
 ·obtain⟨v,z⟩:=I.ws p.ak;have hw:dL a.ws p.ak (a.ws p.ak++[(i,p.id)]) p.ak=a.ws p.ak++[(i,p.id)]:=aK;refine⟨?_,λw b=>?_⟩
  ·show((dL a.ws p.ak _ p.ak).map (·.1)).Nodup;rw[hw,zbn,zbp];refine⟨v,ZZ,λx b y H=>?_⟩;simp only[zaD,zbT,zao,zaB,or_false]at H;obtain⟨w,A,rfl⟩:=zaM.1 b;rw[H];exact λe=>g p.ak w.2 (by rw[<-e];exact A)
  ·replace b:w∈dL a.ws p.ak (a.ws p.ak++[(i,p.id)]) p.ak:=b
   rw[hw]at b;show 0<=w.1/\w.1<c.aG/\dL a.msg i .wait w.1=.wait/\(a.aJ w.1).ak=p.ak/\(a.aJ w.1).id=w.2/\(a.aJ w.1).step=1;rcases zaQ.1 b with b|b
   ·have C:w.1≠i:=λe=>g p.ak w.2 (by rw[<-e];exact b);rw[aX C];exact z w b
   ·simp only[zao,zaB,or_false]at b;subst b;exact⟨hi.1,hi.2,aK,n,q.symm,d.1⟩
def nU.grant(I:nU c a)(n:0<=L/\L<c.aO)(E:a.own L=-1){w:Int × Int}{ws:List (Int × Int)}(hw:a.ws L=w::ws):
  (0<=w.1/\w.1<c.aG)/\a.msg w.1=.wait/\
  nU c { a with own:=dL a.own L w.1,ws:=dL a.ws L ws,msg:=dL a.msg w.1 (.ans ⟨7,c.aZ L,w.1,w.2,L,(a.row L).head,(a.row L).state,false,(a.row L).data⟩) }:=by
 obtain⟨o,D⟩:=I.ws L;obtain⟨b,m,v,g,y,z⟩:=D w (by rw[hw];simp);rw[hw]at o;simp only[zaD,za1]at o;have A:∀k,(w.1,k)∉ws:=λk hk=>o.1 (zaM.2 ⟨_,hk,rfl⟩);refine⟨⟨b,m⟩,v,?_⟩;have O:alS c a w.1:=by
  rcases I.bH w.1 b m with⟨h,_⟩|O
  ·omega
  ·exact O
 refine I.upd w.1 L b (λ_ _=>rfl) (λ_ _=>rfl) (λ_ h=>aX h) (λ_ h=>aX h) (λ_ _=>rfl) (λ_ _=>rfl) (λj p=>aX p) (λ_ _ h=>h) (λj G p=>?_) (λj k p h=>?_) (I.alT b (.inl g)) (I.ws7 (.inl g)) n ?_ ?_ ?_ (I.val _ n.1 n.2)
 ·show dL a.own L w.1 L=j↔_;rw[aK,E];exact⟨λe=>absurd e.symm p,λe=>V⟩
 ·show(j,k)∈dL a.ws L ws L;rw[aK];rw[hw]at h;rcases zao.1 h with h|h
  ·exact absurd (congrArg Prod.fst h) p
  ·exact h
 ·have F:dL a.own L w.1 L=w.1:=aK;refine .inr ?_;show 0<=dL a.own L w.1 L/\dL a.own L w.1 L<c.aG/\(a.aJ (dL a.own L w.1 L)).ak=L/\Hold _ _ _ _ _ (dL a.own L w.1 L) (a.aJ (dL a.own L w.1 L)) (dL a.msg w.1 _ (dL a.own L w.1 L));rw[F,aK];refine⟨b,m,g,?_⟩;rcases I.ak L n.1 n.2 with⟨_,l,W⟩|⟨o,_⟩
  ·have:=Hold.granted (hm:=c.aZ L) (i:=w.1) (d:=a.aJ w.1) z W;rw[g,y]at this;exact this
  ·omega
 ·refine .inr ⟨O.step,O.ak,O.aU,O.idr,O.miss,.inr (.inl ?_)⟩;show dL a.own L w.1 (a.aJ w.1).ak=w.1;rw[g,aK]
 ·have q:dL a.ws L ws L=ws:=aK;refine⟨?_,λx u=>?_⟩
  ·show((dL a.ws L ws L).map (·.1)).Nodup;rw[q];exact o.2
  ·replace u:x∈dL a.ws L ws L:=u
   rw[q]at u;have C:x.1≠w.1:=λe=>A x.2 (by rw[<-e];exact u);show 0<=x.1/\x.1<c.aG/\dL a.msg w.1 _ x.1=.wait/\_;rw[aX C];exact D x (by rw[hw];simp[u])
def nU.unlock(I:nU c a)(hi:0<=i/\i<c.aG){p:Pkt}(v:a.msg i=.req p)(hk:p.aU=2):
  a.own p.ak=i/\(p.state=0∨p.state=1∨p.state=2)/\(∃l,Wf c.aG (a.ent p.ak) (jd (a.row p.ak) (a.aJ i)) (a.val p.ak) l)/\p=(a.aJ i).ask i (c.aZ p.ak)/\(a.aJ i).step=6/\
  nU c { a with row:=dL a.row p.ak (jd (a.row p.ak) (a.aJ i)),own:=dL a.own p.ak (-1),msg:=dL a.msg i (.ans ⟨8,c.aZ p.ak,i,p.id,p.ak,0,0,false,[]⟩) }:=by
 obtain⟨O,m,n,w,z⟩:=I.req hi v;have d:p.aU=Aj (a.aJ i).step:=by rw[m];exact(lC w).1
 have q:p.id=(a.aJ i).id:=by rw[m];exact(lC w).2.2.1
 have b:(a.aJ i).step=6:=by
  have:(a.aJ i).step=1∨(a.aJ i).step=2∨(a.aJ i).step=3∨(a.aJ i).step=4∨(a.aJ i).step=5∨(a.aJ i).step=6:=V
  rw[hk]at d;rcases this with h|h|h|h|h|h
  all_goals first|exact h|(exfalso;simp[h,Aj]at d)
 have A:a.own p.ak=i/\Hold c.aG (c.aZ p.ak) (a.ent p.ak) (a.row p.ak) (a.val p.ak) i (a.aJ i) (.req p):=by
  rcases z with⟨h,_⟩|⟨_,h,C⟩
  ·omega
  ·exact⟨h,C⟩
 obtain⟨y,H⟩:=A;have D:∃l,Wf c.aG (a.ent p.ak) (jd (a.row p.ak) (a.aJ i)) (a.val p.ak) l:=by
  exact H.unl b
 obtain⟨l,W⟩:=D;have u:p.state=(a.aJ i).state:=by rw[m];unfold bU.ask;simp[b]
 have o:=O.ak;rw[n]at o;have g:=I.SB (i:=i) (by rw[v];exact λe=>by cases e);refine⟨y,by rw[u];exact W.st,⟨l,W⟩,m,b,?_⟩;refine I.upd i p.ak hi.1 (λ_ _=>rfl) (λ_ h=>aX h) (λ_ h=>aX h) (λ_ _=>rfl) (λ_ _=>rfl) (λ_ _=>rfl) (λj k=>aX k) (λ_ _ h=>h) (λj F k=>?_) (λ_ _ _ h=>h) (I.alT hi.1 (.inl n)) (λE _=>g E) o ?_ ?_ ?_ (I.val _ o.1 o.2)
 ·show dL a.own p.ak (-1) p.ak=j↔_;rw[aK,y];exact⟨λe=>V,λe=>absurd e.symm k⟩
 ·refine .inl ⟨aK,l,?_⟩;show Wf _ _ (dL a.row p.ak _ p.ak) _ _;rw[aK];exact W
 ·refine .inr ⟨O.step,O.ak,O.aU,O.idr,O.miss,.inr (.inr ⟨b,?_,?_⟩)⟩
  ·show dL a.own p.ak (-1) (a.aJ i).ak≠i;rw[n,aK];omega
  ·show dL a.msg i _ i=.ans (agt c (a.aJ i) i);rw[aK,agt,n,q]
 ·exact(I.ws _).same (i:=i) rfl (g _) (λ_ _=>rfl) (λj k=>aX k)
def nU.served(I:nU c a)(hi:0<=i/\i<c.aG)(d:0<=L/\L<c.aO)(k:a.own L=i){E:tu}{q:Pkt}(m:∀j,a.ent L j=none->E j=none)(H:Hold c.aG (c.aZ L) E (a.row L) (a.val L) i (a.aJ i) (.ans q))(hm:a.msg i≠.wait):
  nU c { a with ent:=dL a.ent L E,msg:=dL a.msg i (.ans q) }:=by
 obtain⟨e,H0⟩:=I.holder d k hi.1;have O:alS c a i:=by
  rcases I.bH i hi.1 hi.2 with⟨h,_⟩|O
  ·exact absurd h H0.O8
  ·exact O
 have b:=I.SB hm;refine I.upd i L hi.1 (λ_ h=>aX h) (λ_ _=>rfl) (λ_ _=>rfl) (λ_ _=>rfl) (λ_ _=>rfl) (λ_ _=>rfl) (λj g=>aX g) (λj _ h=>?_) (λj p g=>Iff.rfl) (λ_ _ _ h=>h) (I.alT hi.1 (.inl e)) (λn _=>b n) d ?_ ?_ ?_ (I.val _ d.1 d.2)
 ·show dL a.ent L E L j=none;rw[aK];exact m j h
 ·refine .inr ?_;show 0<=a.own L/\a.own L<c.aG/\(a.aJ (a.own L)).ak=L/\Hold _ _ (dL a.ent L E L) _ _ (a.own L) (a.aJ (a.own L)) (dL a.msg i _ (a.own L));rw[k,aK,aK];exact⟨hi.1,hi.2,e,H⟩
 ·refine .inr ⟨O.step,O.ak,O.aU,O.idr,λh o=>?_,.inr (.inl ?_)⟩
  ·show dL a.ent L E (a.aJ i).ak i=none;have:=O.miss h o;rw[e]at this ⊢;rw[aK];exact m i this
  ·show a.own (a.aJ i).ak=i;rw[e];exact k
 ·exact(I.ws _).same (i:=i) rfl (b _) (λ_ _=>rfl) (λj g=>aX g)
def nU.goes(I:nU c a)(hi:0<=i/\i<c.aG)(n:0<=L/\L<c.aO)(o:a.own L=i)(hm:a.msg i≠.wait){x:Option Ent}{v:List Int}{d:bU}(hv:v≠[])(hd:d.ak=L)(hk:d.aU=(a.aJ i).aU)(p:d.id=(a.aJ i).id)(g:d.aU=1->d.step=1∨d.step=2->x=none)
  (H:Hold c.aG (c.aZ L) (nT (a.ent L) i x) (a.row L) v i d (.req (d.ask i (c.aZ L)))):
  nU c { a with ent:=dL a.ent L (nT (a.ent L) i x),val:=dL a.val L v,aJ:=dL a.aJ i d,msg:=dL a.msg i (.req (d.ask i (c.aZ L))) }:=by
 obtain⟨q,H0⟩:=I.holder n o hi.1;have O:alS c a i:=by
  rcases I.bH i hi.1 hi.2 with⟨h,_⟩|O
  ·exact absurd h H0.O8
  ·exact O
 have k:=I.SB hm;refine I.upd i L hi.1 (λ_ h=>aX h) (λ_ _=>rfl) (λ_ _=>rfl) (λ_ _=>rfl) (λ_ h=>aX h) (λj e=>aX e) (λj e=>aX e) (λj e h=>?_) (λj y e=>Iff.rfl) (λ_ _ _ h=>h) (I.alT hi.1 (.inl q)) (λu _=>k u) n ?_ ?_ ?_ ?_
 ·show dL a.ent L _ L j=none;rw[aK,fD e];exact h
 ·refine .inr ?_;show 0<=a.own L/\a.own L<c.aG/\(dL a.aJ i d (a.own L)).ak=L/\Hold _ _ (dL a.ent L _ L) _ (dL a.val L v L) (a.own L) (dL a.aJ i d (a.own L)) (dL a.msg i _ (a.own L));rw[o,aK,aK,aK,aK];exact⟨hi.1,hi.2,hd,H⟩
 ·have b:dL a.aJ i d i=d:=aK;refine .inr ⟨?_,?_,?_,by show 0<=(dL a.aJ i d i).id/\(dL a.aJ i d i).id<4096;rw[b,p];exact O.idr,?_,.inr (.inl ?_)⟩
  ·show(dL a.aJ i d i).step≠0;rw[b];exact H.O8
  ·show 0<=(dL a.aJ i d i).ak/\(dL a.aJ i d i).ak<c.aO;rw[b,hd];exact n
  ·show 1<=(dL a.aJ i d i).aU/\(dL a.aJ i d i).aU<=3;rw[b,hk];exact O.aU
  ·show(dL a.aJ i d i).aU=1->_->dL a.ent L _ (dL a.aJ i d i).ak i=none;rw[b,hd,aK,gu];intro h w;refine g h ?_;have m:(dL a.aJ i d i).step=1∨(dL a.aJ i d i).step=2:=w;rw[b]at m;exact m
  ·show a.own (dL a.aJ i d i).ak=i;rw[b,hd];exact o
 ·exact(I.ws _).same (i:=i) rfl (k _) (λj e=>aX e) (λj e=>aX e)
 ·show dL a.val L v L≠[];rw[aK];exact hv
def nU.over(I:nU c a)(hi:0<=i/\i<c.aG)(F:auF c a i){d:bU}(hd:d.step=0):nU c { a with aJ:=dL a.aJ i d,msg:=dL a.msg i .idle }:=by
 obtain⟨w,m,n⟩:=F;have O:alS c a i:=by
  rcases I.bH i hi.1 hi.2 with⟨h,_⟩|O
  ·omega
  ·exact O
 have g:=I.SB (i:=i) (by rw[n];exact λe=>by cases e);have k:=O.ak;refine I.upd i (a.aJ i).ak hi.1 (λ_ _=>rfl) (λ_ _=>rfl) (λ_ _=>rfl) (λ_ _=>rfl) (λ_ _=>rfl) (λj b=>aX b) (λj b=>aX b) (λ_ _ h=>h) (λj y b=>Iff.rfl) (λ_ _ _ h=>h) (I.alT hi.1 (.inl rfl)) (λo _=>g o) k ?_ ?_ ?_ (I.val _ k.1 k.2)
 ·rcases I.ak _ k.1 k.2 with h|⟨p,q,u,v⟩
  ·exact .inl h
  ·refine .inr ?_;show 0<=a.own (a.aJ i).ak/\a.own (a.aJ i).ak<c.aG/\(dL a.aJ i d (a.own (a.aJ i).ak)).ak=(a.aJ i).ak/\Hold _ _ _ _ _ _ (dL a.aJ i d (a.own (a.aJ i).ak)) (dL a.msg i _ (a.own (a.aJ i).ak));rw[aX m,aX m];exact⟨p,q,u,v⟩
 ·refine .inl ⟨?_,aK⟩;show(dL a.aJ i d i).step=0;rw[aK];exact hd
 ·exact(I.ws _).same (i:=i) rfl (g _) (λj b=>aX b) (λj b=>aX b)
def Wf.touch {N:Int}{E:tu}{r:Row}{v v':List Int}{l:List Int}(W:Wf N E r v l){e e':Ent}(k:E i=some e)(hb:e'.back=e.back)(y:e'.fwd=e.fwd)(hd:e'.bP=e.bP)(hv:(e'.data=e.data/\v'=v)∨(e.bP=true/\e'.data=v')):Wf N (nT E i (some e')) r v' l:=by
 have ch:Chn (nT E i (some e')) (-1) l (-1):=by
  have key:∀(l:List Int) (b x:Int),Chn E b l x->Chn (nT E i (some e')) b l x:=by
   intro l
   induction l with
   |nil=>intro b x _;trivial
   |cons j l z=>
    intro b x h;obtain⟨⟨A,m,d,w⟩,hc⟩:=h;refine⟨?_,z j x hc⟩;by_cases g:j=i
    ·subst g;rw[k]at m;cases m;exact⟨e',gu,by rw[hb,d],by rw[y,w]⟩
    ·exact⟨A,by rw[fD g];exact m,d,w⟩
  exact key l _ _ W.ch
 refine⟨W.rng,ch,λj x g=>?_,W.head,W.st,W.st0,W.st2,λj x g=>?_,λj x g=>?_,λd=>?_⟩
 ·rcases jI g with⟨h,_⟩|⟨_,h⟩
  ·rw[h];exact W.mem i e k
  ·exact W.mem j x h
 ·rcases jI g with⟨h,p⟩|⟨_,h⟩
  ·cases p;rw[hd];exact W.bP i e k
  ·exact W.bP j x h
 ·rcases jI g with⟨h,p⟩|⟨u,h⟩
  ·cases p;rcases hv with⟨o,n⟩|⟨_,n⟩
   ·rw[o,n];exact W.data i e k
   ·exact n
  ·rcases hv with⟨_,n⟩|⟨o,_⟩
   ·rw[n];exact W.data j x h
   ·obtain⟨q,C⟩:=W.st2 ((W.bP i e k).1 o);have m:=W.mem i e k;have d:=W.mem j x h;rw[C]at m d;simp only[zao,zaB,or_false]at m d;exact absurd (d.trans m.symm) u
 ·rcases hv with⟨_,n⟩|⟨o,_⟩
  ·rw[n];exact W.Dx d
  ·exact absurd ((W.bP i e k).1 o) d
def Jw {E:tu}{e e':Ent}(d:E i=some e)(g:e'.fwd=e.fwd):∀{l:List Int},FCh E l->FCh (nT E i (some e')) l
 |[],_=>trivial
 |j::l,⟨⟨m,b,h⟩,hc⟩=>by
  refine⟨?_,Jw d g hc⟩;by_cases k:j=i
  ·subst k;rw[d]at b;cases b;exact⟨e',gu,by rw[g,h]⟩
  ·exact⟨m,by rw[fD k];exact b,h⟩
def nM {E:tu}{e e':Ent}(g:E i=some e)(hb:e'.back=e.back)(h:e'.fwd=e.fwd):∀{l:List Int} {b x:Int},Chn E b l x->Chn (nT E i (some e')) b l x
 |[],_,_,_=>trivial
 |j::l,b,x,⟨⟨o,d,k,m⟩,hc⟩=>by
  refine⟨?_,nM g hb h hc⟩;by_cases n:j=i
  ·subst n;rw[g]at d;cases d;exact⟨e',gu,by rw[hb,k],by rw[h,m]⟩
  ·exact⟨o,by rw[fD n];exact d,k,m⟩
def Hold.touch {N hm:Int}{E:tu}{r:Row}{v v':List Int}{k:Int}{d:bU}{o:Out}(H:Hold N hm E r v k d o)(aa:i≠k){e e':Ent}(m:E i=some e)(hb:e'.back=e.back)(G:e'.fwd=e.fwd)(hd:e'.bP=e.bP)(hv:(e'.data=e.data/\v'=v)∨(e.bP=true/\e'.data=v')):Hold N hm (nT E i (some e')) r v' k d o:=by
 have b:∀j x,nT E i (some e') j=some x->∃y,E j=some y/\x.bP=y.bP:=λj x g=>by
  rcases jI g with⟨h,h'⟩|⟨_,h⟩
  ·cases h';rw[h];exact⟨e,m,hd⟩
  ·exact⟨x,h,rfl⟩
 -- where nothing is bP the aV are as they were
 have w:(∀j x,E j=some x->x.bP=false)->(∀j x,E j=some x->x.data=v)->v'=v/\∀j x,nT E i (some e') j=some x->x.data=v:=λhc af=>by
  have h0:=hc i e m;rcases hv with⟨a1,a2⟩|⟨a1,_⟩
  ·refine⟨a2,λj x g=>?_⟩;rcases jI g with⟨_,h'⟩|⟨_,h⟩
   ·cases h';rw[a1];exact af i e m
   ·exact af j x h
  ·rw[h0]at a1;cases a1
 have mid:∀{ag ad:List Int},Mid N E r v k ag ad->v'=v/\Mid N (nT E i (some e')) r v k ag ad:=λM=>by
  obtain⟨K,Q⟩:=w M.bP M.data;obtain⟨ek,hk⟩:=M.ent;refine⟨K,M.rng,λj x g=>?_,⟨ek,by rw[fD aa.symm];exact hk⟩,M.head,M.st,λj x g=>?_,Q,M.Dx⟩
  ·obtain⟨y,p,_⟩:=b j x g;exact M.mem j y p
  ·obtain⟨y,p,h⟩:=b j x g;rw[h];exact M.bP j y p
 cases H with
 |granted n W=>exact .granted n (W.touch m hb G hd hv)
 |attach n z u A W=>exact .attach n z u A (W.touch m hb G hd hv)
 |attached n z u A R C M D X F=>
  obtain⟨K,Q⟩:=w D X;subst K;exact .attached n z u A R (nM m hb G C) (λj x g=>by obtain⟨y,p,_⟩:=b j x g;exact M j y p) (λj x g=>by obtain⟨y,p,h⟩:=b j x g;rw[h];exact D j y p) Q F
 |JK n z L u A=>
  have al:E k≠none->v'=v:=λhk=>by
   rcases hv with⟨_,a2⟩|⟨a1,_⟩
   ·exact a2
   ·exact absurd (L.only i e m a1 k hk) aa.symm
  refine .JK n z ⟨L.rng,Jw m G L.ch,λj x g=>?_,λj x g=>?_,λj x g ab q hq=>?_⟩ u λhk=>?_
  ·obtain⟨y,p,_⟩:=b j x g;exact L.mem j y p
  ·rcases jI g with⟨_,h'⟩|⟨am,h⟩
   ·cases h';rcases hv with⟨a1,a2⟩|⟨_,a2⟩
    ·rw[a1,a2];exact L.data i e m
    ·exact a2
   ·rcases hv with⟨_,a2⟩|⟨a1,_⟩
    ·rw[a2];exact L.data j x h
    ·exact absurd (L.only i e m a1 j (by rw[h];simp)) am
  ·obtain⟨y,p,T⟩:=b j x g;refine L.only j y p (by rw[<-T];exact ab) q ?_;intro ae;by_cases ai:q=i
   ·rw[ai,m]at ae;cases ae
   ·rw[fD ai]at hq;exact hq ae
  ·rw[fD aa.symm]at hk;rw[al hk];exact A hk
 |Js n z L u A=>
  obtain⟨K,Q⟩:=w u L.data;subst K;refine .Js n z ⟨L.rng,Jw m G L.ch,λj x g=>?_,Q,λj x g ab q hq=>?_⟩ (λj x g=>?_) λhk=>?_
  ·obtain⟨y,p,_⟩:=b j x g;exact L.mem j y p
  ·obtain⟨y,p,T⟩:=b j x g;rw[T,u j y p]at ab;cases ab
  ·obtain⟨y,p,T⟩:=b j x g;rw[T];exact u j y p
  ·rw[fD aa.symm]at hk;exact A hk
 |front n z M u C A h5 h6=>
  obtain⟨K,Q⟩:=mid M;subst K;exact .front n z Q u (nM m hb G C) A h5 h6
 |zS n z M u C C' A h5 h6=>
  obtain⟨K,Q⟩:=mid M;subst K;exact .zS n z Q u (nM m hb G C) (nM m hb G C') A h5 h6
 |behind n z M u C C' A h5 h6=>
  obtain⟨K,Q⟩:=mid M;subst K;exact .behind n z Q u (nM m hb G C) (nM m hb G C') A h5 h6
 |vV n z M u C C' A h5 h6=>
  obtain⟨K,Q⟩:=mid M;subst K;exact .vV n z Q u (nM m hb G C) (nM m hb G C') A h5 h6
 |unlock n W=>exact .unlock n (W.touch m hb G hd hv)
def nU.hit(I:nU c a)(hi:0<=i/\i<c.aG)(h0:(a.aJ i).step=0)(m:0<=L/\L<c.aO){e e':Ent}{v':List Int}(o:a.ent L i=some e)(hb:e'.back=e.back)(p:e'.fwd=e.fwd)(hd:e'.bP=e.bP)(hv:(e'.data=e.data/\v'=a.val L)∨(e.bP=true/\e'.data=v'))(u:v'≠[]):
  nU c { a with ent:=dL a.ent L (nT (a.ent L) i (some e')),val:=dL a.val L v' }:=by
 have b:∀d,a.own d≠i:=λd e=>(I.only hi.1 d e).2 h0;have g:(a.aJ i).step=0/\a.msg i=.idle:=by
  rcases I.bH i hi.1 hi.2 with h|O
  ·exact h
  ·exact absurd h0 O.step
 have k:=I.SB (i:=i) (by rw[g.2];exact λe=>by cases e);refine I.upd i L hi.1 (λ_ h=>aX h) (λ_ _=>rfl) (λ_ _=>rfl) (λ_ _=>rfl) (λ_ h=>aX h) (λ_ _=>rfl) (λ_ _=>rfl) (λj v h=>?_) (λ_ _ _=>Iff.rfl) (λ_ _ _ h=>h) (λd _=>b d) (λd _=>k d) m ?_ (.inl g) ?_ ?_
 ·show dL a.ent L _ L j=none;rw[aK,fD v];exact h
 ·rcases I.ak L m.1 m.2 with⟨n,l,W⟩|⟨n,w,y,q⟩
  ·refine .inl ⟨n,l,?_⟩;show Wf _ (dL a.ent L _ L) _ (dL a.val L v' L) l;rw[aK,aK];exact W.touch o hb p hd hv
  ·refine .inr ⟨n,w,y,?_⟩;unfold Abs.holds at q ⊢;show Hold _ _ (dL a.ent L _ L) _ (dL a.val L v' L) _ _ _;rw[aK,aK];exact q.touch (b L).symm o hb p hd hv
 ·exact(I.ws L).same (i:=i) rfl (k L) (λ_ _=>rfl) (λ_ _=>rfl)
 ·show dL a.val L v' L≠[];rw[aK];exact u
end
def xM(p:Port):List Pkt:=p.rq++p.rin
def xO(p:Port):List Pkt:=p.an++p.ain
def BJ(f:Fab):List Pkt:=f.l.flatMap xM
def BK(f:Fab):List Pkt:=f.l.flatMap xO
structure O9(msg:Int->Out)(k:Int)(q:Port):Prop where
 rq:∀p∈q.rq,p.src=k/\rG p.aU=true/\msg k=.req p
 rin:∀p∈q.rin,p.dst=k/\rG p.aU=true/\msg p.src=.req p
 an:∀p∈q.an,p.src=k/\rG p.aU=false/\msg p.dst=.ans p
 ain:∀p∈q.ain,p.dst=k/\rG p.aU=false/\msg k=.ans p
structure pK(f:Fab)(msg:Int->Out):Prop where
 port:∀(k:Nat) q,f.l[k]?=some q->O9 msg k q
 rn:((BJ f).map (·.src)).Nodup
 an:((BK f).map (·.dst)).Nodup
 rc:∀i p,msg i=.req p->p∈BJ f
 ac:∀i p,msg i=.ans p->p∈BK f
 src:∀i p,msg i=.req p->p.src=i
 dst:∀i p,msg i=.ans p->p.dst=i
 rg:∀i p,msg i=.req p∨msg i=.ans p->f.is i=true
def jr {g:Port->List Pkt}{q q':Port}:∀{l:List Port} {k:Nat},l[k]?=some q->∀{x y:List Pkt},(x++g q').Perm (y++g q)->(x++(l.set k q').flatMap g).Perm (y++l.flatMap g)
 |[],k,h,_,_,_=>by simp at h
 |p::l,0,h,x,y,b=>by
  simp only[zaY,zaa]at h;subst h;simp only[zb7,zaE,<-zba];exact b.append_right _
 |p::l,k+1,h,x,y,b=>by
  simp only[zbe]at h;have d:=jr h b;simp only[zb8,zaE];have e:(x++(g p++(l.set k q').flatMap g)).Perm (g p++(x++(l.set k q').flatMap g)):=by
   rw[<-zba,<-zba];exact List.perm_append_comm.append_right _
  have i:(g p++(y++l.flatMap g)).Perm (y++(g p++l.flatMap g)):=by
   rw[<-zba,<-zba];exact List.perm_append_comm.append_right _
  exact e.trans ((d.append_left _).trans i)
def gy {f:Fab}{i:Int}(h:f.is i=true):f.l[i.toNat]?=some (f.port i):=by
 unfold Fab.is at h;simp only[zah,decide_eq_true_eq]at h;unfold Fab.port;rw[zaA,zab V,zat]
def sV {f:Fab}{i:Int}{q:Port}(h:f.is i=true){k:Nat}{q':Port}(hk:(f.put i q).l[k]?=some q'):(k=i.toNat/\q'=q)∨(k≠i.toNat/\f.l[k]?=some q'):=by
 simp only[Fab.put]at hk;by_cases e:i.toNat=k
 ·rw[e]at hk;have b:k<f.l.length:=by
   unfold Fab.is at h;simp only[zah,decide_eq_true_eq]at h;omega
  rw[zbl b]at hk;exact .inl ⟨e.symm,(zaW hk).symm⟩
 ·rw[zbr e]at hk;exact .inr ⟨λh=>e h.symm,hk⟩
def vW {f:Fab}{i:Int}(h:f.is i=true):((i.toNat:Nat):Int)=i:=by
 unfold Fab.is at h;simp only[zah,decide_eq_true_eq]at h;omega
section
variable {f:Fab}{msg:Int->Out}{i:Int}{p:Pkt}
def pK.at_(R:pK f msg)(h:f.is i=true):O9 msg i (f.port i):=by
 have:=R.port _ _ (gy h);rw[vW h]at this;exact this
def BL {k:Nat}{q:Port}(h:f.l[k]?=some q)(b:p∈q.rq∨p∈q.rin):p∈BJ f:=za5.2 ⟨q,zas h,zaQ.2 b⟩
def BM {k:Nat}{q:Port}(h:f.l[k]?=some q)(b:p∈q.an∨p∈q.ain):p∈BK f:=za5.2 ⟨q,zas h,zaQ.2 b⟩
def pK.req(R:pK f msg)(h:p∈BJ f):msg p.src=.req p:=by
 obtain⟨q,e,d⟩:=za5.1 h;obtain⟨k,hk⟩:=zc1.1 e;rcases zaQ.1 d with d|d
 ·obtain⟨a,_,b⟩:=(R.port k q hk).rq p d;rw[a];exact b
 ·exact((R.port k q hk).rin p d).2.2
def pK.ans(R:pK f msg)(h:p∈BK f):msg p.dst=.ans p:=by
 obtain⟨q,e,d⟩:=za5.1 h;obtain⟨k,hk⟩:=zc1.1 e;rcases zaQ.1 d with d|d
 ·exact((R.port k q hk).an p d).2.2
 ·obtain⟨a,_,b⟩:=(R.port k q hk).ain p d;rw[a];exact b
def pK.arA(R:pK f msg)(h0:∀q,msg p.src≠.req q)(C:∀q,msg p.src≠.ans q)(u:p.ok=true)(hk:rG p.aU=true)(n:f.is p.src=true)(hd:f.is p.dst=true)(F:1<=f.out):
  (f.send p).2=0/\pK (f.send p).1 (dL msg p.src (.req p)):=by
 have P:=R.at_ n;have z:(f.port p.src).rq=[]:=by
  cases e:(f.port p.src).rq with
  |nil=>rfl
  |cons q l=>exact absurd (P.rq q (by rw[e];simp)).2.2 (h0 q)
 have o:f.send p=(f.put p.src { f.port p.src with rq:=[p] },0):=by
  unfold Fab.send;simp only[u,n,hd,hk,Port.sort,Port.kM,if_true,z,zan,zaN,zae,Bool.or_self,zal,if_false];rw[if_neg V]
 rw[o];refine⟨rfl,?_⟩;have v:(BJ (f.put p.src { f.port p.src with rq:=[p] })).Perm (p::BJ f):=by
  have:=jr (g:=xM) (gy n) (q':={ f.port p.src with rq:=[p] }) (x:=[]) (y:=[p]) (by simp[xM,z])
  simpa [BJ,Fab.put]using this
 have A:(BK (f.put p.src { f.port p.src with rq:=[p] })).Perm (BK f):=by
  have:=jr (g:=xO) (gy n) (q':={ f.port p.src with rq:=[p] }) (x:=[]) (y:=[]) (by simp[xO])
  simpa [BK,Fab.put]using this
 have m:∀j q,msg j=.req q∨msg j=.ans q->dL msg p.src (.req p) j=msg j:=λj q h=>aX λe=>by
  subst e;rcases h with h|h
  ·exact h0 q h
  ·exact C q h
 refine⟨λk q w=>?_,?_,?_,λj q d=>?_,λj q d=>?_,λj q d=>?_,λj q d=>?_,λj q d=>?_⟩
 ·rcases sV n w with⟨e,rfl⟩|⟨_,h⟩
  ·have D:(k:Int)=p.src:=by rw[e];exact vW n
   rw[D];refine⟨λq i=>?_,λq i=>?_,λq i=>?_,λq i=>?_⟩
   ·simp only[zao,zaB,or_false]at i;subst i;exact⟨rfl,hk,aK⟩
   ·obtain⟨a,b,c⟩:=P.rin q i;exact⟨a,b,by rw[m _ _ (.inl c)];exact c⟩
   ·obtain⟨a,b,c⟩:=P.an q i;exact⟨a,b,by rw[m _ _ (.inr c)];exact c⟩
   ·obtain⟨a,b,c⟩:=P.ain q i;exact⟨a,b,by rw[m _ _ (.inr c)];exact c⟩
  ·have Q:=R.port k q h;refine⟨λq i=>?_,λq i=>?_,λq i=>?_,λq i=>?_⟩
   ·obtain⟨a,b,c⟩:=Q.rq q i;exact⟨a,b,by rw[m _ _ (.inl c)];exact c⟩
   ·obtain⟨a,b,c⟩:=Q.rin q i;exact⟨a,b,by rw[m _ _ (.inl c)];exact c⟩
   ·obtain⟨a,b,c⟩:=Q.an q i;exact⟨a,b,by rw[m _ _ (.inr c)];exact c⟩
   ·obtain⟨a,b,c⟩:=Q.ain q i;exact⟨a,b,by rw[m _ _ (.inr c)];exact c⟩
 ·refine((v.map _).nodup_iff).2 (za1.2 ⟨λhm=>?_,R.rn⟩);obtain⟨q,i,e⟩:=zaM.1 hm;have:=R.req i;simp only at e;rw[e]at this;exact h0 q this
 ·exact((A.map _).nodup_iff).2 R.an
 ·by_cases e:j=p.src
  ·rw[e,aK]at d;cases d;exact v.mem_iff.2 O
  ·rw[aX e]at d;exact v.mem_iff.2 (zbb _ (R.rc j q d))
 ·by_cases e:j=p.src
  ·rw[e,aK]at d;cases d
  ·rw[aX e]at d;exact A.mem_iff.2 (R.ac j q d)
 ·by_cases e:j=p.src
  ·rw[e,aK]at d;cases d;exact e.symm
  ·rw[aX e]at d;exact R.src j q d
 ·by_cases e:j=p.src
  ·rw[e,aK]at d;cases d
  ·rw[aX e]at d;exact R.dst j q d
 ·have E:(f.put p.src { f.port p.src with rq:=[p] }).is j=f.is j:=by simp[Fab.is,Fab.put]
  rw[E];by_cases e:j=p.src
  ·rw[e];exact n
  ·rw[aX e]at d;exact R.rg j q d
def pK.Zk(R:pK f msg)(h0:∀q,msg p.dst≠.req q)(A:∀q,msg p.dst≠.ans q)(u:p.ok=true)(hk:rG p.aU=false)(n:f.is p.src=true)(hd:f.is p.dst=true)(v:f.roomOf p.src false > 0):
  (f.send p).2=0/\pK (f.send p).1 (dL msg p.dst (.ans p)):=by
 have P:=R.at_ n;have o:f.send p=(f.put p.src { f.port p.src with an:=(f.port p.src).an++[p] },0):=by
  unfold Fab.send;unfold Fab.roomOf at v;rw[if_pos n]at v;simp only[Port.sort,zal,if_false]at v;simp only[u,n,hd,hk,Port.sort,Port.kM,zae,Bool.or_self,zal,if_false];rw[if_neg V]
 rw[o];refine⟨rfl,?_⟩;have w:(BK (f.put p.src { f.port p.src with an:=(f.port p.src).an++[p] })).Perm (p::BK f):=by
  have:=jr (g:=xO) (gy n) (q':={ f.port p.src with an:=(f.port p.src).an++[p] }) (x:=[]) (y:=[p]) (by
   simp only[xO,zaN,zba,zcx];exact zdq)
  simpa [BK,Fab.put]using this
 have C:(BJ (f.put p.src { f.port p.src with an:=(f.port p.src).an++[p] })).Perm (BJ f):=by
  have:=jr (g:=xM) (gy n) (q':={ f.port p.src with an:=(f.port p.src).an++[p] }) (x:=[]) (y:=[]) (by simp[xM])
  simpa [BJ,Fab.put]using this
 have m:∀j q,msg j=.req q∨msg j=.ans q->dL msg p.dst (.ans p) j=msg j:=λj q h=>aX λe=>by
  subst e;rcases h with h|h
  ·exact h0 q h
  ·exact A q h
 refine⟨λk q z=>?_,?_,?_,λj q d=>?_,λj q d=>?_,λj q d=>?_,λj q d=>?_,λj q d=>?_⟩
 ·rcases sV n z with⟨e,rfl⟩|⟨_,h⟩
  ·have D:(k:Int)=p.src:=by rw[e];exact vW n
   rw[D];refine⟨λq i=>?_,λq i=>?_,λq i=>?_,λq i=>?_⟩
   ·obtain⟨a,b,c⟩:=P.rq q i;exact⟨a,b,by rw[m _ _ (.inl c)];exact c⟩
   ·obtain⟨a,b,c⟩:=P.rin q i;exact⟨a,b,by rw[m _ _ (.inl c)];exact c⟩
   ·rcases zaQ.1 i with i|i
    ·obtain⟨a,b,c⟩:=P.an q i;exact⟨a,b,by rw[m _ _ (.inr c)];exact c⟩
    ·simp only[zao,zaB,or_false]at i;subst i;exact⟨rfl,hk,aK⟩
   ·obtain⟨a,b,c⟩:=P.ain q i;exact⟨a,b,by rw[m _ _ (.inr c)];exact c⟩
  ·have Q:=R.port k q h;refine⟨λq i=>?_,λq i=>?_,λq i=>?_,λq i=>?_⟩
   ·obtain⟨a,b,c⟩:=Q.rq q i;exact⟨a,b,by rw[m _ _ (.inl c)];exact c⟩
   ·obtain⟨a,b,c⟩:=Q.rin q i;exact⟨a,b,by rw[m _ _ (.inl c)];exact c⟩
   ·obtain⟨a,b,c⟩:=Q.an q i;exact⟨a,b,by rw[m _ _ (.inr c)];exact c⟩
   ·obtain⟨a,b,c⟩:=Q.ain q i;exact⟨a,b,by rw[m _ _ (.inr c)];exact c⟩
 ·exact((C.map _).nodup_iff).2 R.rn
 ·refine((w.map _).nodup_iff).2 (za1.2 ⟨λhm=>?_,R.an⟩);obtain⟨q,i,e⟩:=zaM.1 hm;have:=R.ans i;simp only at e;rw[e]at this;exact A q this
 ·by_cases e:j=p.dst
  ·rw[e,aK]at d;cases d
  ·rw[aX e]at d;exact C.mem_iff.2 (R.rc j q d)
 ·by_cases e:j=p.dst
  ·rw[e,aK]at d;cases d;exact w.mem_iff.2 O
  ·rw[aX e]at d;exact w.mem_iff.2 (zbb _ (R.ac j q d))
 ·by_cases e:j=p.dst
  ·rw[e,aK]at d;cases d
  ·rw[aX e]at d;exact R.src j q d
 ·by_cases e:j=p.dst
  ·rw[e,aK]at d;cases d;exact e.symm
  ·rw[aX e]at d;exact R.dst j q d
 ·have E:(f.put p.src { f.port p.src with an:=(f.port p.src).an++[p] }).is j=f.is j:=by simp[Fab.is,Fab.put]
  rw[E];by_cases e:j=p.dst
  ·rw[e];exact hd
  ·rw[aX e]at d;exact R.rg j q d
def pK.takeA(R:pK f msg){D:Fab}(h:f.take i false=(D,some p)):f.is i=true/\p.dst=i/\rG p.aU=false/\msg i=.ans p/\pK D (dL msg i .idle)/\D.out=f.out/\D.l.length=f.l.length:=by
 unfold Fab.take at h;split at h
 case isFalse=>cases h
 rename_i u;split at h
 ·cases h
 rename_i E l w;simp only[zad,zaa]at h;obtain⟨rfl,rfl⟩:=h;simp only[Port.um,zal,if_false]at w;have P:=R.at_ u;obtain⟨F,L,G⟩:=P.ain E (by rw[w];simp);refine⟨u,F,L,G,?_,rfl,by simp[Fab.put]⟩;have z:(f.port i).lq false l={ f.port i with ain:=l }:=by simp[Port.lq]
 rw[z];have H:(E::BK (f.put i { f.port i with ain:=l })).Perm (BK f):=by
  have:=jr (g:=xO) (gy u) (q':={ f.port i with ain:=l }) (x:=[E]) (y:=[]) (by
   simp only[xO,zaN,w,zcx];exact zdq.symm)
  simpa [BK,Fab.put]using this
 have K:(BJ (f.put i { f.port i with ain:=l })).Perm (BJ f):=by
  have:=jr (g:=xM) (gy u) (q':={ f.port i with ain:=l }) (x:=[]) (y:=[]) (by simp[xM])
  simpa [BJ,Fab.put]using this
 have nd:(E.dst::(BK (f.put i { f.port i with ain:=l })).map (·.dst)).Nodup:=((H.map Pkt.dst).nodup_iff).2 R.an;have A:∀q∈BK (f.put i { f.port i with ain:=l }),q.dst≠i:=λq m e=>(za1.1 nd).1 (zaM.2 ⟨q,m,e.trans F.symm⟩);have v:∀q∈BJ f,q.src≠i:=λq m e=>by
  have:=R.req m;rw[e,G]at this;cases this
 refine⟨λk q C=>?_,?_,?_,λj q d=>?_,λj q d=>?_,λj q d=>?_,λj q d=>?_,λj q d=>?_⟩
 ·have n:∀x,(x∈q.an∨x∈q.ain)->x.dst≠i:=λx o=>A x (BM C o);rcases sV u C with⟨e,rfl⟩|⟨_,h⟩
  ·have M:(k:Int)=i:=by rw[e];exact vW u
   rw[M];refine⟨λq m=>?_,λq m=>?_,λq m=>?_,λq m=>?_⟩
   ·exact absurd ((P.rq q m).1) (v q (BL (gy u) (.inl m)))
   ·obtain⟨a,b,c⟩:=P.rin q m;exact⟨a,b,by rw[aX (v q (BL (gy u) (.inr m)))];exact c⟩
   ·obtain⟨a,b,c⟩:=P.an q m;exact⟨a,b,by rw[aX (n q (.inl m))];exact c⟩
   ·have:=n q (.inr m);exact absurd (P.ain q (by rw[w];exact zbb _ m)).1 this
  ·have Q:=R.port k q h;refine⟨λx o=>?_,λx o=>?_,λx o=>?_,λx o=>?_⟩
   ·obtain⟨a,b,c⟩:=Q.rq x o;have:=v x (BL h (.inl o));exact⟨a,b,by rw[aX V];exact c⟩
   ·obtain⟨a,b,c⟩:=Q.rin x o;exact⟨a,b,by rw[aX (v x (BL h (.inr o)))];exact c⟩
   ·obtain⟨a,b,c⟩:=Q.an x o;exact⟨a,b,by rw[aX (n x (.inl o))];exact c⟩
   ·obtain⟨a,b,c⟩:=Q.ain x o;have:=n x (.inr o);exact⟨a,b,by rw[aX V];exact c⟩
 ·exact((K.map _).nodup_iff).2 R.rn
 ·exact(za1.1 nd).2
 ·by_cases e:j=i
  ·rw[e,aK]at d;cases d
  ·rw[aX e]at d;exact K.mem_iff.2 (R.rc j q d)
 ·by_cases e:j=i
  ·rw[e,aK]at d;cases d
  ·rw[aX e]at d;rcases zao.1 (H.mem_iff.2 (R.ac j q d))with h|h
   ·have:=R.dst j q d;rw[h,F]at this;exact absurd this.symm e
   ·exact h
 ·by_cases e:j=i
  ·rw[e,aK]at d;cases d
  ·rw[aX e]at d;exact R.src j q d
 ·by_cases e:j=i
  ·rw[e,aK]at d;cases d
  ·rw[aX e]at d;exact R.dst j q d
 ·have w:(f.put i { f.port i with ain:=l }).is j=f.is j:=by simp[Fab.is,Fab.put]
  rw[w];by_cases e:j=i
  ·rw[e];exact u
  ·rw[aX e]at d;exact R.rg j q d
def pK.auG(R:pK f msg){A:Fab}(h:f.take i true=(A,some p)):f.is i=true/\p.dst=i/\rG p.aU=true/\msg p.src=.req p/\pK A (dL msg p.src .idle)/\A.out=f.out/\A.l.length=f.l.length/\(∀k,A.roomOf k false=f.roomOf k false):=by
 unfold Fab.take at h;split at h
 case isFalse=>cases h
 rename_i v;split at h
 ·cases h
 rename_i o l z;simp only[zad,zaa]at h;obtain⟨rfl,rfl⟩:=h;simp only[Port.um,if_true]at z;have P:=R.at_ v;obtain⟨L,M,F⟩:=P.rin o (by rw[z];simp);have C:(f.port i).lq true l={ f.port i with rin:=l }:=by simp[Port.lq]
 rw[C];refine⟨v,L,M,F,?_,rfl,by simp[Fab.put],λk=>?_⟩;rotate_left
 ·have G:=v;unfold Fab.is at G;simp only[zah,decide_eq_true_eq]at G;unfold Fab.roomOf Fab.is Fab.port Fab.put;simp only[zcd,zaA];by_cases e:i.toNat=k.toNat
  ·rw[<-e,zbl V];simp only[zat,Port.sort,zal,if_false]
  ·rw[zbr e]
 have H:(o::BJ (f.put i { f.port i with rin:=l })).Perm (BJ f):=by
  have:=jr (g:=xM) (gy v) (q':={ f.port i with rin:=l }) (x:=[o]) (y:=[]) (by
   simp only[xM,zaN,z,zcx];exact zdq.symm)
  simpa [BJ,Fab.put]using this
 have K:(BK (f.put i { f.port i with rin:=l })).Perm (BK f):=by
  have:=jr (g:=xO) (gy v) (q':={ f.port i with rin:=l }) (x:=[]) (y:=[]) (by simp[xO])
  simpa [BK,Fab.put]using this
 have nd:(o.src::(BJ (f.put i { f.port i with rin:=l })).map (·.src)).Nodup:=((H.map Pkt.src).nodup_iff).2 R.rn;have D:∀q∈BJ (f.put i { f.port i with rin:=l }),q.src≠o.src:=λq m e=>(za1.1 nd).1 (zaM.2 ⟨q,m,e⟩);have w:∀q∈BK f,q.dst≠o.src:=λq m e=>by
  have:=R.ans m;rw[e,F]at this;cases this
 refine⟨λk q E=>?_,?_,?_,λj q d=>?_,λj q d=>?_,λj q d=>?_,λj q d=>?_,λj q d=>?_⟩
 ·have n:∀x,(x∈q.rq∨x∈q.rin)->x.src≠o.src:=λx u=>D x (BL E u);rcases sV v E with⟨e,rfl⟩|⟨_,h⟩
  ·have T:(k:Int)=i:=by rw[e];exact vW v
   rw[T];refine⟨λq m=>?_,λq m=>?_,λq m=>?_,λq m=>?_⟩
   ·obtain⟨a,b,c⟩:=P.rq q m;have:=n q (.inl m);exact⟨a,b,by rw[aX V];exact c⟩
   ·obtain⟨a,b,c⟩:=P.rin q (by rw[z];exact zbb _ m);exact⟨a,b,by rw[aX (n q (.inr m))];exact c⟩
   ·obtain⟨a,b,c⟩:=P.an q m;exact⟨a,b,by rw[aX (w q (BM (gy v) (.inl m)))];exact c⟩
   ·obtain⟨a,b,c⟩:=P.ain q m;have:=w q (BM (gy v) (.inr m));exact⟨a,b,by rw[aX V];exact c⟩
  ·have Q:=R.port k q h;refine⟨λx u=>?_,λx u=>?_,λx u=>?_,λx u=>?_⟩
   ·obtain⟨a,b,c⟩:=Q.rq x u;have:=n x (.inl u);exact⟨a,b,by rw[aX V];exact c⟩
   ·obtain⟨a,b,c⟩:=Q.rin x u;exact⟨a,b,by rw[aX (n x (.inr u))];exact c⟩
   ·obtain⟨a,b,c⟩:=Q.an x u;exact⟨a,b,by rw[aX (w x (BM h (.inl u)))];exact c⟩
   ·obtain⟨a,b,c⟩:=Q.ain x u;have:=w x (BM h (.inr u));exact⟨a,b,by rw[aX V];exact c⟩
 ·exact(za1.1 nd).2
 ·exact((K.map _).nodup_iff).2 R.an
 ·by_cases e:j=o.src
  ·rw[e,aK]at d;cases d
  ·rw[aX e]at d;rcases zao.1 (H.mem_iff.2 (R.rc j q d))with h|h
   ·have:=R.src j q d;rw[h]at this;exact absurd this.symm e
   ·exact h
 ·by_cases e:j=o.src
  ·rw[e,aK]at d;cases d
  ·rw[aX e]at d;exact K.mem_iff.2 (R.ac j q d)
 ·by_cases e:j=o.src
  ·rw[e,aK]at d;cases d
  ·rw[aX e]at d;exact R.src j q d
 ·by_cases e:j=o.src
  ·rw[e,aK]at d;cases d
  ·rw[aX e]at d;exact R.dst j q d
 ·have z:(f.put i { f.port i with rin:=l }).is j=f.is j:=by simp[Fab.is,Fab.put]
  rw[z];by_cases e:j=o.src
  ·rw[e];exact R.rg _ o (.inl F)
  ·rw[aX e]at d;exact R.rg j q d
def vX {p:Pkt}:∀{l:List Port} {i0 k:Nat},(l.flatMap λq=>q.rq++q.an)[k]?=some p->∃i req k' q,Ak l i0 k=some (i0+i,req,k')/\l[i]?=some q/\(q.sort req)[k']?=some p
 |[],_,_,h=>by simp at h
 |q::l,i0,k,h=>by
  simp only[zaE]at h;unfold Ak;by_cases b:k<q.rq.length
  ·rw[if_pos b];rw[zba,zaG b]at h;exact⟨0,true,k,q,rfl,rfl,h⟩
  ·rw[if_neg b];by_cases d:k<q.rq.length+q.an.length
   ·rw[if_pos d];rw[zba,za2 V,zaG V]at h;exact⟨0,false,k-q.rq.length,q,rfl,rfl,h⟩
   ·rw[if_neg d];rw[za2 (by rw[zar];omega),zar]at h;obtain⟨i,req,k',e,g,j,m⟩:=vX (i0:=i0+1) h;exact⟨i+1,req,k',e,by rw[g];simp only[zck,Nat.add_comm 1 i],j,m⟩
def Dy {k:Nat}{q q':Port}:∀{l:List Port},l[k]?=some q->q'.rq=q.rq->q'.an=q.an->(l.set k q').flatMap (λq=>q.rq++q.an)=l.flatMap (λq=>q.rq++q.an):=by
 induction k with
 |zero=>
  intro l h a b;cases l with
  |nil=>simp at h
  |cons x l=>
   simp only[zaY,zaa]at h;subst h;simp[a,b]
 |succ k d=>
  intro l h a b;cases l with
  |nil=>simp at h
  |cons x l=>
   simp only[zbe]at h;simp only[zb8,zaE,d h a b]
def LY {k:Nat}:∀{l:List Pkt},l[k]?=some p->(p::l.eraseIdx k).Perm l:=by
 induction k with
 |zero=>
  intro l h;cases l with
  |nil=>simp at h
  |cons x l=>
   simp only[zaY,zaa]at h;subst h;exact .refl _
 |succ k b=>
  intro l h;cases l with
  |nil=>simp at h
  |cons x l=>
   simp only[zbe]at h;simp only[zdj];exact(List.Perm.swap _ _ _).trans ((b h).cons _)
def Pg {f:Fab}{i:Nat}{q:Port}(h:f.l[i]?=some q):f.port i=q:=by
 unfold Fab.port;rw[zam,zaA,h,zat]
def adE {f:Fab}{i:Nat}{q:Port}(h:f.l[i]?=some q):f.is i=true:=by
 have:=(zaf.1 h).1;unfold Fab.is;simp only[zah,decide_eq_true_eq];exact⟨V,V⟩
def pK.deliver(R:pK f msg)(W:∀p∈f.all,f.is p.dst=true)(a b m:Int):pK (f.deliver a b m).1 msg:=by
 unfold Fab.deliver;split
 ·exact R
 split
 ·exact R
 rename_i p X;have hd:=W p (zas X);split
 ·exact R
 split
 ·exact R
 rename_i hr;simp only;cases hk:rG p.aU with
 |true=>
  have u:(f.port p.dst).lq true ((f.port p.dst).um true++[p])=(⟨(f.port p.dst).rq,(f.port p.dst).rin++[p],(f.port p.dst).an,(f.port p.dst).ain⟩:Port):=by simp[Port.lq,Port.um]
  rw[u];have v:(f.put p.dst (⟨(f.port p.dst).rq,(f.port p.dst).rin++[p],(f.port p.dst).an,(f.port p.dst).ain⟩:Port)).all[a.toNat]?=some p:=by
   unfold Fab.all Fab.put;rw[Dy (q':=(⟨(f.port p.dst).rq,(f.port p.dst).rin++[p],(f.port p.dst).an,(f.port p.dst).ain⟩:Port)) (gy hd) rfl rfl];exact X
  obtain⟨i,req,k',q,K,o,z⟩:=vX (i0:=0) v;rw[za7]at K
  -- the avi port,as it was
  have hq:∃n,f.l[i]?=some n/\q.rq=n.rq/\q.an=n.an:=by
   rcases sV hd o with⟨e,rfl⟩|⟨_,h⟩
   ·exact⟨f.port p.dst,by rw[e];exact gy hd,rfl,rfl⟩
   ·exact⟨q,h,rfl,rfl⟩
  obtain⟨n,H,g2,g3⟩:=hq;have A:req=true:=by
   cases req with
   |true=>rfl
   |false=>
    have hm:p∈q.an:=zas z;rw[g3]at hm;have:=((R.port i n H).an p hm).2.1;rw[hk]at this;cases this
  subst A;have hm:p∈n.rq:=by rw[<-g2];exact zas z
  have L:=((R.port i n H).rq p hm).1;have C:=((R.port i n H).rq p hm).2.2;have D:(f.put p.dst (⟨(f.port p.dst).rq,(f.port p.dst).rin++[p],(f.port p.dst).an,(f.port p.dst).ain⟩:Port)).remove a.toNat=(f.put p.dst (⟨(f.port p.dst).rq,(f.port p.dst).rin++[p],(f.port p.dst).an,(f.port p.dst).ain⟩:Port)).put i (⟨q.rq.eraseIdx k',q.rin,q.an,q.ain⟩:Port):=by
   have E:(f.put p.dst (⟨(f.port p.dst).rq,(f.port p.dst).rin++[p],(f.port p.dst).an,(f.port p.dst).ain⟩:Port)).port i=q:=Pg o;unfold Fab.remove;rw[K];simp only[E,Port.drop,Port.kM,Port.sort,if_true]
  rw[D];have F:(f.put p.dst (⟨(f.port p.dst).rq,(f.port p.dst).rin++[p],(f.port p.dst).an,(f.port p.dst).ain⟩:Port)).is i=true:=adE o;have p1:(BJ (f.put p.dst (⟨(f.port p.dst).rq,(f.port p.dst).rin++[p],(f.port p.dst).an,(f.port p.dst).ain⟩:Port))).Perm (p::BJ f):=by
   have:=jr (g:=xM) (gy hd) (q':=(⟨(f.port p.dst).rq,(f.port p.dst).rin++[p],(f.port p.dst).an,(f.port p.dst).ain⟩:Port)) (x:=[]) (y:=[p]) (by
    simp only[xM,zaN,<-zba];exact List.perm_append_comm)
   simpa [BJ,Fab.put]using this
  have p2:(p::BJ ((f.put p.dst (⟨(f.port p.dst).rq,(f.port p.dst).rin++[p],(f.port p.dst).an,(f.port p.dst).ain⟩:Port)).put i (⟨q.rq.eraseIdx k',q.rin,q.an,q.ain⟩:Port))).Perm (BJ (f.put p.dst (⟨(f.port p.dst).rq,(f.port p.dst).rin++[p],(f.port p.dst).an,(f.port p.dst).ain⟩:Port))):=by
   have:=jr (g:=xM) o (q':=(⟨q.rq.eraseIdx k',q.rin,q.an,q.ain⟩:Port)) (x:=[p]) (y:=[]) (by
    simp only[xM,zaN,zcx,<-za3];exact(LY z).append_right _)
   simpa [BJ,Fab.put]using this
  have M:=(List.perm_cons p).1 (p2.trans p1);have T:(BK ((f.put p.dst (⟨(f.port p.dst).rq,(f.port p.dst).rin++[p],(f.port p.dst).an,(f.port p.dst).ain⟩:Port)).put i (⟨q.rq.eraseIdx k',q.rin,q.an,q.ain⟩:Port))).Perm (BK f):=by
   have h1:=jr (g:=xO) (gy hd) (q':=(⟨(f.port p.dst).rq,(f.port p.dst).rin++[p],(f.port p.dst).an,(f.port p.dst).ain⟩:Port)) (x:=[]) (y:=[]) (by simp[xO]);have h2:=jr (g:=xO) o (q':=(⟨q.rq.eraseIdx k',q.rin,q.an,q.ain⟩:Port)) (x:=[]) (y:=[]) (by simp[xO]);have h3:=h2.trans h1
   simpa [BK,Fab.put]using h3
  have mid:∀(k:Nat) x,(f.put p.dst (⟨(f.port p.dst).rq,(f.port p.dst).rin++[p],(f.port p.dst).an,(f.port p.dst).ain⟩:Port)).l[k]?=some x->O9 msg k x:=λk x G=>by
   rcases sV hd G with⟨e,rfl⟩|⟨_,h⟩
   ·have e':(k:Int)=p.dst:=by rw[e];exact vW hd
    rw[e'];have P:=R.at_ hd;refine⟨P.rq,λy d=>?_,P.an,P.ain⟩;rcases zaQ.1 d with d|d
    ·exact P.rin y d
    ·simp only[zao,zaB,or_false]at d;subst d;exact⟨rfl,hk,by rw[L];exact C⟩
   ·exact R.port k x h
  refine⟨λk x G=>?_,((M.map _).nodup_iff).2 R.rn,((T.map _).nodup_iff).2 R.an,λj y w=>M.mem_iff.2 (R.rc j y w),λj y w=>T.mem_iff.2 (R.ac j y w),R.src,R.dst,λj y w=>by have:=R.rg j y w;simpa [Fab.is,Fab.put]using this⟩;rcases sV F G with⟨e,rfl⟩|⟨_,h⟩
  ·have Q:=mid i q o;rw[zam]at e;subst e;exact⟨λy d=>Q.rq y (zcM d),Q.rin,Q.an,Q.ain⟩
  ·exact mid k x h
 |false=>
  have u:(f.port p.dst).lq false ((f.port p.dst).um false++[p])=(⟨(f.port p.dst).rq,(f.port p.dst).rin,(f.port p.dst).an,(f.port p.dst).ain++[p]⟩:Port):=by simp[Port.lq,Port.um]
  rw[u];have v:(f.put p.dst (⟨(f.port p.dst).rq,(f.port p.dst).rin,(f.port p.dst).an,(f.port p.dst).ain++[p]⟩:Port)).all[a.toNat]?=some p:=by
   unfold Fab.all Fab.put;rw[Dy (q':=(⟨(f.port p.dst).rq,(f.port p.dst).rin,(f.port p.dst).an,(f.port p.dst).ain++[p]⟩:Port)) (gy hd) rfl rfl];exact X
  obtain⟨i,req,k',q,K,o,z⟩:=vX (i0:=0) v;rw[za7]at K;have hq:∃n,f.l[i]?=some n/\q.rq=n.rq/\q.an=n.an:=by
   rcases sV hd o with⟨e,rfl⟩|⟨_,h⟩
   ·exact⟨f.port p.dst,by rw[e];exact gy hd,rfl,rfl⟩
   ·exact⟨q,h,rfl,rfl⟩
  obtain⟨n,H,g2,g3⟩:=hq;have A:req=false:=by
   cases req with
   |false=>rfl
   |true=>
    have hm:p∈q.rq:=zas z;rw[g2]at hm;have:=((R.port i n H).rq p hm).2.1;rw[hk]at this;cases this
  subst A;have hm:p∈n.an:=by rw[<-g3];exact zas z
  have C:=((R.port i n H).an p hm).2.2;have D:(f.put p.dst (⟨(f.port p.dst).rq,(f.port p.dst).rin,(f.port p.dst).an,(f.port p.dst).ain++[p]⟩:Port)).remove a.toNat=(f.put p.dst (⟨(f.port p.dst).rq,(f.port p.dst).rin,(f.port p.dst).an,(f.port p.dst).ain++[p]⟩:Port)).put i (⟨q.rq,q.rin,q.an.eraseIdx k',q.ain⟩:Port):=by
   have E:(f.put p.dst (⟨(f.port p.dst).rq,(f.port p.dst).rin,(f.port p.dst).an,(f.port p.dst).ain++[p]⟩:Port)).port i=q:=Pg o;unfold Fab.remove;rw[K];simp only[E,Port.drop,Port.kM,Port.sort,zal,if_false]
  rw[D];have F:(f.put p.dst (⟨(f.port p.dst).rq,(f.port p.dst).rin,(f.port p.dst).an,(f.port p.dst).ain++[p]⟩:Port)).is i=true:=adE o;have p1:(BK (f.put p.dst (⟨(f.port p.dst).rq,(f.port p.dst).rin,(f.port p.dst).an,(f.port p.dst).ain++[p]⟩:Port))).Perm (p::BK f):=by
   have:=jr (g:=xO) (gy hd) (q':=(⟨(f.port p.dst).rq,(f.port p.dst).rin,(f.port p.dst).an,(f.port p.dst).ain++[p]⟩:Port)) (x:=[]) (y:=[p]) (by
    simp only[xO,zaN,<-zba];exact List.perm_append_comm)
   simpa [BK,Fab.put]using this
  have p2:(p::BK ((f.put p.dst (⟨(f.port p.dst).rq,(f.port p.dst).rin,(f.port p.dst).an,(f.port p.dst).ain++[p]⟩:Port)).put i (⟨q.rq,q.rin,q.an.eraseIdx k',q.ain⟩:Port))).Perm (BK (f.put p.dst (⟨(f.port p.dst).rq,(f.port p.dst).rin,(f.port p.dst).an,(f.port p.dst).ain++[p]⟩:Port))):=by
   have:=jr (g:=xO) o (q':=(⟨q.rq,q.rin,q.an.eraseIdx k',q.ain⟩:Port)) (x:=[p]) (y:=[]) (by
    simp only[xO,zaN,zcx,<-za3];exact(LY z).append_right _)
   simpa [BK,Fab.put]using this
  have T:=(List.perm_cons p).1 (p2.trans p1);have M:(BJ ((f.put p.dst (⟨(f.port p.dst).rq,(f.port p.dst).rin,(f.port p.dst).an,(f.port p.dst).ain++[p]⟩:Port)).put i (⟨q.rq,q.rin,q.an.eraseIdx k',q.ain⟩:Port))).Perm (BJ f):=by
   have h1:=jr (g:=xM) (gy hd) (q':=(⟨(f.port p.dst).rq,(f.port p.dst).rin,(f.port p.dst).an,(f.port p.dst).ain++[p]⟩:Port)) (x:=[]) (y:=[]) (by simp[xM]);have h2:=jr (g:=xM) o (q':=(⟨q.rq,q.rin,q.an.eraseIdx k',q.ain⟩:Port)) (x:=[]) (y:=[]) (by simp[xM]);have h3:=h2.trans h1
   simpa [BJ,Fab.put]using h3
  have mid:∀(k:Nat) x,(f.put p.dst (⟨(f.port p.dst).rq,(f.port p.dst).rin,(f.port p.dst).an,(f.port p.dst).ain++[p]⟩:Port)).l[k]?=some x->O9 msg k x:=λk x G=>by
   rcases sV hd G with⟨e,rfl⟩|⟨_,h⟩
   ·have e':(k:Int)=p.dst:=by rw[e];exact vW hd
    rw[e'];have P:=R.at_ hd;refine⟨P.rq,P.rin,P.an,λy d=>?_⟩;rcases zaQ.1 d with d|d
    ·exact P.ain y d
    ·simp only[zao,zaB,or_false]at d;subst d;exact⟨rfl,hk,C⟩
   ·exact R.port k x h
  refine⟨λk x G=>?_,((M.map _).nodup_iff).2 R.rn,((T.map _).nodup_iff).2 R.an,λj y w=>M.mem_iff.2 (R.rc j y w),λj y w=>T.mem_iff.2 (R.ac j y w),R.src,R.dst,λj y w=>by have:=R.rg j y w;simpa [Fab.is,Fab.put]using this⟩;rcases sV F G with⟨e,rfl⟩|⟨_,h⟩
  ·have Q:=mid i q o;rw[zam]at e;subst e;exact⟨Q.rq,Q.rin,λy d=>Q.an y (zcM d),Q.ain⟩
  ·exact mid k x h
end
section
variable {c:Cache}{ak L:Int}{e x:Ent}
def SC(h:c.find ak=some e):e.ak=ak:=by
 unfold Cache.find at h;have:=zcQ h
 simpa using this
def yC(i:Lines c.l)(h0:0<=e.ak)(h:c.find e.ak=some x)(L:Int):(c.put e).1.find L=if L=e.ak then some { e with used:=x.used } else c.find L:=by
 rw[nG i h0 h];unfold Cache.find;simp only[List.find?_map];have j:((λy:Ent=>decide (y.ak=L)) ∘ λy:Ent=>if y.ak=e.ak then { e with used:=x.used } else y)=λy=>decide (y.ak=L):=by
  funext y
  simp only[Function.comp];by_cases g:y.ak=e.ak
  ·simp[g]
  ·simp[g]
 rw[j];by_cases b:L=e.ak
 ·rw[if_pos b,b];unfold Cache.find at h;rw[h];have:=zcQ h;simp only[decide_eq_true_eq]at this;simp[this]
 ·rw[if_neg b];cases k:c.l.find? λy=>decide (y.ak=L)with
  |none=>rfl
  |some y=>
   have:=zcQ k;simp only[decide_eq_true_eq]at this;have d:¬y.ak=e.ak:=λh=>b (this.symm.trans h);simp[d]
def SE(j:Lines c.l)(h0:0<=e.ak)(d:c.find e.ak=none)(g:c.full e.ak=false):∃u,∀L,(c.put e).1.find L=if L=e.ak then some { e with used:=u } else c.find L:=by
 refine⟨c.dM+1,λL=>?_⟩;have i:=Iw.2 d;unfold Cache.put;rw[if_neg V,i];simp only[g,zal,if_false];unfold Cache.find at d ⊢;rw[List.find?_append];by_cases b:L=e.ak
 ·rw[if_pos b,b,d];simp
 ·rw[if_neg b];have:¬e.ak=L:=λh=>b h.symm;simp[this]
def BN(e:Lines c.l)(L:Int):(c.drop ak).find L=if L=ak then none else c.find L:=by
 rw[Uo e];unfold Cache.find;simp only[List.find?_filter];by_cases b:L=ak
 ·rw[if_pos b,zdg];intro y _;simp only[decide_eq_true_eq,ne_eq,decide_not,zbj,decide_eq_false_iff_not];rintro⟨g,h⟩;exact g (h.trans b)
 ·rw[if_neg b]
  congr 1
  funext y
  by_cases d:y.ak=L
  ·simp[d,b]
  ·simp[d]
def Zl(j:Lines c.l)(h:c.find ak=some e)(L:Int):(c.touch ak).find L=if L=ak then some { e with used:=c.dM+1 } else c.find L:=by
 have g:=SC h;rw[EY j h];unfold Cache.find;simp only[List.find?_map];have k:((λy:Ent=>decide (y.ak=L)) ∘ λy:Ent=>if y.ak=ak then { e with used:=c.dM+1 } else y)=λy=>decide (y.ak=L):=by
  funext y
  simp only[Function.comp];by_cases i:y.ak=ak
  ·simp[i,g]
  ·simp[i]
 rw[k];by_cases b:L=ak
 ·rw[if_pos b,b];unfold Cache.find at h;rw[h];simp[g]
 ·rw[if_neg b];cases m:c.l.find? λy=>decide (y.ak=L)with
  |none=>rfl
  |some y=>
   have:=zcQ m;simp only[decide_eq_true_eq]at this;have d:¬y.ak=ak:=λh=>b (this.symm.trans h);simp[d]
end
section
variable {t:Turns}{ak who id L:Int}
def JR(h:Td t)(h0:0<=who)(d:t.owner ak=-1)(hw:t.ws ak=[]):(t.ask ak who id).2=true/\(∀L,(t.ask ak who id).1.owner L=if L=ak then who else t.owner L)/\∀L,(t.ask ak who id).1.ws L=t.ws L:=by
 have hd:t.owned ak=false:=by
  cases e:t.owned ak with
  |false=>rfl
  |true=>exact absurd d ((h.owned ak).1 e)
 have g:t.ask ak who id=({ t with iF:=mO t.iF ak who },true):=by
  unfold Turns.ask;rw[if_neg V];simp[hd,hw]
 rw[g];refine⟨rfl,λL=>?_,λL=>rfl⟩;unfold Turns.owner;simp only[lQ];by_cases b:L=ak
 ·simp[b]
 ·rw[if_neg b,if_neg (λh=>b h.symm)]
def JU(h:Td t)(h0:0<=who)(b:t.owner ak≠-1∨t.ws ak≠[]):(t.ask ak who id).2=false/\(∀L,(t.ask ak who id).1.owner L=t.owner L)/\∀L,(t.ask ak who id).1.ws L=if L=ak then t.ws ak++[(who,id)]else t.ws L:=by
 have e:t.ask ak who id=({ t with wait:=mO t.wait ak (t.ws ak++[(who,id)]) },false):=by
  unfold Turns.ask;rw[if_neg V,if_pos];rcases b with b|b
  ·rw[(h.owned ak).2 b];simp
  ·simp[b]
 rw[e];refine⟨rfl,λL=>rfl,λL=>?_⟩;unfold Turns.ws;simp only[lQ];by_cases d:L=ak
 ·simp[d]
 ·rw[if_neg d,if_neg (λh=>d h.symm)]
def Zm(h:Td t)(d:t.owner ak=-1){w:Int × Int}{ws:List (Int × Int)}(hw:t.ws ak=w::ws):(t.next ak).2=some w/\(∀L,(t.next ak).1.owner L=if L=ak then w.1 else t.owner L)/\∀L,(t.next ak).1.ws L=if L=ak then ws else t.ws L:=by
 have hd:t.owned ak=false:=by
  cases e:t.owned ak with
  |false=>rfl
  |true=>exact absurd d ((h.owned ak).1 e)
 have g:t.next ak=({ iF:=mO t.iF ak w.1,wait:=mO t.wait ak ws },some w):=by
  unfold Turns.next
  simp[hd,hw]
 rw[g];refine⟨rfl,λL=>?_,λL=>?_⟩
 ·unfold Turns.owner;simp only[lQ];by_cases b:L=ak
  ·simp[b]
  ·rw[if_neg b,if_neg (λh=>b h.symm)]
 ·unfold Turns.ws;simp only[lQ];by_cases b:L=ak
  ·simp[b]
  ·rw[if_neg b,if_neg (λh=>b h.symm)]
def Ph(h:Td t)(h0:0<=who)(b:t.owner ak=who):(t.release ak who).2=0/\(∀L,(t.release ak who).1.owner L=if L=ak then -1 else t.owner L)/\∀L,(t.release ak who).1.ws L=t.ws L:=by
 have ha:jY t.iF ak=some who:=by
  unfold Turns.owner at b;cases e:jY t.iF ak with
  |none=>rw[e]at b;simp at b;omega
  |some v=>rw[e]at b;simp only[zat]at b;rw[b]
 have g:t.release ak who=({ t with iF:=Ai t.iF ak },0):=by
  unfold Turns.release;rw[if_pos ha]
 rw[g];refine⟨rfl,λL=>?_,λL=>rfl⟩;unfold Turns.owner;simp only[KX h.ok];by_cases d:L=ak
 ·simp[d]
 ·rw[if_neg d,if_neg (λh=>d h.symm)]
end
def LZ {dR:Rows}{ak:Int}{r:Row}(L:Int):iK (mO dR ak r) L=if L=ak then r else iK dR L:=by
 unfold iK;rw[lQ];by_cases b:L=ak
 ·simp[b]
 ·rw[if_neg b,if_neg (λh=>b h.symm)]
def auI(s:Int):Nat:=if s=1 then 9 else if s=4 then 6 else if s=6 then 0 else 3
def loc(s:Int):Out->Nat
 |.idle=>0
 |.req _=>3
 |.wait=>2
 |.ans _=>if s=3 then 4 else 1
def Dp(d:bU)(o:Out):Nat:=if d.step=0 then 13 else auI d.step+loc d.step o+if d.aU=3∨d.step=6 then 13 else 0
def wt(d:bU)(L:Int)(x:Option Ent):Nat:=if x=none then 0 else if d.aU=3/\d.step≠0/\d.step≠6/\d.ak=L then 3 else 16
def alU {d:bU}{L:Int}{x:Option Ent}:wt d L x<=16:=by
 unfold wt;split
 ·omega
 ·split <;> omega
def adF {d:bU}{L:Int}:wt d L none=0:=rfl
def arB {d:bU}{L:Int}{e:Ent}:3<=wt d L (some e):=by
 unfold wt;rw[if_neg (zdE e)];split <;> omega
def alV {d:bU}{L:Int}{e e':Ent}:wt d L (some e)=wt d L (some e'):=by
 unfold wt;simp
def xP {d:bU}{L:Int}{x:Option Ent}(h:d.step=0∨d.step=6∨d.ak≠L∨d.aU≠3):wt d L x=if x=none then 0 else 16:=by
 unfold wt;split
 ·rfl
 ·rw[if_neg V]
def auJ(s b:Int):Bool:=decide (auI b+3<auI s+if s=3 then 4 else 1)
def sW {d d':bU}{x y:Option Ent}{p q:Pkt}{L:Int}(hk:d'.aU=d.aU)(k:d'.ak=d.ak)(h0:d.step≠0)(g:d.step≠6)(h:auJ d.step d'.step=true)(m:(d'.step≠6/\d'.step≠0/\y=x)∨(d'.step=6/\d.aU=3/\y=none)):Dp d' (.req q)+wt d' L y<Dp d (.ans p)+wt d L x:=by
 have h:=of_decide_eq_true h;have i:loc d'.step (.req q)=3:=rfl;have j:loc d.step (.ans p)=if d.step=3 then 4 else 1:=rfl;rcases m with⟨b,e,rfl⟩|⟨b,e,rfl⟩
 ·have hw:wt d' L y=wt d L y:=by
   unfold wt;rw[hk,k];simp only[h0,g,b,e,ne_eq,not_false_eq_true,true_and]
  rw[hw];unfold Dp;rw[if_neg h0,if_neg e,hk];simp only[b,g,or_false];rw[i,j];omega
 ·rw[adF];unfold Dp;rw[if_neg h0,if_neg V,if_pos (.inr b),if_pos (.inl e)];rw[i,j];omega
def Vq(n:Int)(f:Int->Nat):Nat:=((List.range n.toNat).map λj:Nat=>f j).sum
def adG {f g:Nat->Nat}{i:Nat}:∀{n:Nat},i<n->(∀j,j≠i->g j=f j)->((List.range n).map g).sum+f i=((List.range n).map f).sum+g i
 |0,h,_=>absurd h (zdA i)
 |n+1,h,b=>by
  simp only[zbX,zbn,List.sum_append,zaD,zbT,zda,List.sum_nil];by_cases e:i=n
  ·subst e;have:(List.range i).map g=(List.range i).map f:=zbo λj d=>b j (by have:=za0.1 d;omega);rw[this];omega
  ·have:=adG (f:=f) (g:=g) (n:=n) V b;have:=b n λh=>e h.symm;omega
def Jy {n i:Int}{f g:Int->Nat}(hi:0<=i/\i<n)(h:∀j,j≠i->g j=f j):Vq n g+f i=Vq n f+g i:=by
 obtain⟨k,rfl⟩:∃k:Nat,i=k:=⟨i.toNat,V⟩
 exact adG (f:=λj=>f j) (g:=λj=>g j) (i:=k) V λj b=>h j V
def pot(c:Cfg)(lf:Int->Nat)(a:Abs):Nat:=Vq c.aG (λj=>33*lf j+Dp (a.aJ j) (a.msg j))+Vq c.aG λj=>Vq c.aO λL=>wt (a.aJ j) L (a.ent L j)
def Vr {c:Cfg}{lf b:Int->Nat}{a a':Abs}{i k L:Int}(hi:0<=i/\i<c.aG)(hk:0<=k/\k<c.aG)(n:0<=L/\L<c.aO)(o:∀j,j≠i->b j=lf j/\a'.aJ j=a.aJ j/\a'.msg j=a.msg j)(m:∀j d,j≠k∨d≠L->wt (a'.aJ j) d (a'.ent d j)=wt (a.aJ j) d (a.ent d j))
  (v:33*b i+Dp (a'.aJ i) (a'.msg i)+wt (a'.aJ k) L (a'.ent L k)<33*lf i+Dp (a.aJ i) (a.msg i)+wt (a.aJ k) L (a.ent L k)):pot c b a'<pot c lf a:=by
 have w:=Jy (f:=λj=>33*lf j+Dp (a.aJ j) (a.msg j)) (g:=λj=>33*b j+Dp (a'.aJ j) (a'.msg j)) hi λj e=>by
  obtain⟨p,q,u⟩:=o j e;simp only[p,q,u]
 have y:=Jy (f:=λj=>Vq c.aO λL=>wt (a.aJ j) L (a.ent L j)) (g:=λj=>Vq c.aO λL=>wt (a'.aJ j) L (a'.ent L j)) hk λj e=>by
  have:(λL=>wt (a'.aJ j) L (a'.ent L j))=λL=>wt (a.aJ j) L (a.ent L j):=funext λd=>m j d (.inl e);simp only[this]
 have z:=Jy (f:=λL=>wt (a.aJ k) L (a.ent L k)) (g:=λL=>wt (a'.aJ k) L (a'.ent L k)) n λd h=>m k d (.inr h);unfold pot;omega
end
end Go.Proofs.YtgplhpgkompkmaaGreat
