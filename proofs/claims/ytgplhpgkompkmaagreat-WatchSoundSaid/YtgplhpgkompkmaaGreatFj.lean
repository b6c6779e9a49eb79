/-
  Own work, a part.
-/
import Derived.Test.YtgplhpgkompkmaaGreatFi
set_option linter.all false
namespace Go.Proofs.YtgplhpgkompkmaaGreat
open Option renaming some->ZC,none->Z1
open Bool renaming true->Z0,false->ZV
open Decidable renaming decide->u,decide->YM
noncomputable section
def Y8 {ca:Cache}(d:Lines ca.l){ak:Int}{e:Ent}(h:ca.find ak=ZC e):(ca.touch ak).find ak=ZC { e with used:=ca.dN+1 }:=by
 have⟨g,b⟩:=(ji d).1 h;rw[Fa d h];unfold Cache.find;rw[ji (AQ d λy _=>by
  split
  ·rename_i h;rw[h];exact b
  ·rfl)]
 exact⟨List.mem_map.2 ⟨e,g,by rw[YY b]⟩,b⟩
def Jo {ca:Cache}(b:Lines ca.l){ak:Int}{e:Ent}(h:ca.find ak=ZC e):(ca.touch ak).dN=ca.dN+1:=by rw[Fa b h]
def RQ {f:Fab}{i:Int}{req:Bool}(h:(f.take i req).2=Z1):(f.take i req).1=f:=by
 unfold Fab.take at h ⊢;split
 ·rename_i hi;rw[y hi]at h;cases b:(f.port i).uG req with
  |nil=>rfl
  |cons p l=>rw[b]at h;cases h
 ·rfl
structure adg(m:dh):Prop where
 ok:m.c.ok=true
 len:(m.aF.length:Int)=m.c.aF
 fab:wY m.c m.fab
 bC:∀(i:Nat) n,m.aF[i]?=some n->YE m.c i n
 evs:m.trace.length=(m.aF.map Node.evs).sum
def Vp {α:Type}(f:α->Nat):∀{l:Q α} {i:Nat} {a a':α},l[i]?=ZC a->((l.set i a').map f).sum+f a=(l.map f).sum+f a'
 |[],i,a,a',h=>by simp at h
 |x::l,0,a,a',h=>by
  simp only[List.getElem?_cons_zero,Option.some.injEq]at h;subst h;simp only[List.set_cons_zero,List.map_cons,List.sum_cons];omega
 |x::l,i+1,a,a',h=>by
  simp only[List.getElem?_cons_succ]at h;have:=Vp f (a':=a') h;simp only[List.set_cons_succ,List.map_cons,List.sum_cons];omega
section
variable {b:Nat}{H:ah}{g:bG}{q:Nat}{ca:Cache}
def adh(G:Good b H g)(hb:H.base<=b)(h:g q=ZC (dD ca))(C:COk ca)(p:Pkt):
  ∃H',cl 199 [.ref q 0 0,.agg p.av] H=ZC (ZH (fQ ca p),H')/\Good b H' (upd g q (dD (fQ ca p).1))/\Step b H H':=by
 by_cases d:(!p.ok || u (p.aW<3) || u (6<p.aW))=Z0
 ·exact RJ G hb h C p (.inl d)
 ·cases i:ca.find p.ak with
  |none=>exact RJ G hb h C p (.inr i)
  |some e=>exact afU G hb h C p d i
end
def fok {c:Cfg}(hc:c.ok=Z0){f:Fab}(F:wY c f):FOk c f:=by
 have B:=qp hc;refine⟨hc,by have:=F.len;have:=B.aF;omega,λp d s e=>?_,λp d s e q b=>?_⟩
 ·have P:=F.port p d
  match s,e with
  |0,_=>exact P.rq
  |1,_=>exact P.rin
  |2,_=>exact P.an
  |3,_=>exact P.ain
 ·have P:=F.port p d;have Q:yK c q:=by
   match s,e with
   |0,_=>exact P.pkt q (.inl b)
   |1,_=>exact P.pkt q (.inr (.inr (.inl b)))
   |2,_=>exact P.pkt q (.inr (.inl b))
   |3,_=>exact P.pkt q (.inr (.inr (.inr b)))
  have:=Q.ok;simp only[Pkt.ok,Bool.and_eq_true,zab]at this;omega
def RS {c:Cfg}{p:Pkt}(Q:yK c p):p.data.length<1000000000:=by
 have:=Q.ok;simp only[Pkt.ok,Bool.and_eq_true,zab]at this;omega
structure HSz(h:Home):Prop where
 t:TOk h.bn
 r:∀e∈h.dS,e.2.data.length<1000000000
def RU {h:Home}(b:∀e∈h.dS,e.2.data.length<1000000000)(ak:Int):(iR h.dS ak).data.length<1000000000:=by
 unfold iR;cases ha:jw h.dS ak with
 |none=>exact(show(0:Nat)<1000000000 by decide)
 |some r=>exact b _ (rP ha)
def nJ(c:Cfg)(me:Int)(n:Node)(p:Pkt):Node × Pkt × Bool:=
 if p.aW=1∨p.aW=2 then({ n with home:=(n.home.handle c me p).1 },(n.home.handle c me p).2.1,(n.home.handle c me p).2.2.1 && u ((n.home.handle c me p).2.2.2=0))
 else({ n with aJ:=(fQ n.aJ p).1 },(fQ n.aJ p).2.1,u ((fQ n.aJ p).2.2=0))
def afY(c:Cfg)(me:Int)(n:Node)(f:Fab)(p:Pkt):n.asked c me f p=((nJ c me n p).1,if(nJ c me n p).2.2=Z0 then(f.send (nJ c me n p).2.1).1 else f):=by
 unfold Node.asked nJ;split
 ·rcases h:n.home.handle c me p with⟨b,o,ok,e⟩
  simp
 ·rcases h:fQ n.aJ p with⟨b,o,e⟩
  simp
def RX {c:Cfg}{me:Int}{n:Node}(C:COk n.aJ)(Z:HSz n.home)(p:Pkt):(nJ c me n p).2.1.data.length<1000000000:=by
 have b:(0:Nat)<1000000000:=J
 unfold nJ;split
 ·simp only[Home.handle]
  repeat' split
  all_goals first|exact b|exact RU Z.r _
 ·simp only[fQ];split
  ·exact b
  ·cases d:n.aJ.find p.ak with
   |none=>exact b
   |some e=>
    have g:=C.dat e (List.mem_of_find?_eq_some d);simp only
    repeat' split
    all_goals first|exact b|exact g
section
variable {b:Nat}{H:ah}{g0:bG}{S:Tv}{c:Cfg}{me:Int}{k:Nat}{K K':ah}{g:bG}{ls:Lcl}{w w':NFT}
def adi(W:Walk b H g0 S c me k K g ls w)(hc:c.ok=true)(C:COk w.1.aJ)(Z:HSz w.1.home)(p:Pkt)(hpl:p.data.length<1000000000):
  ∃K' g',cl 145 [.ref (S.a 0) 0 0,.agg p.av] K=some (.tup [.agg (nJ c me w.1 p).2.1.av,B (nJ c me w.1 p).2.2],K')/\Walk b H g0 S c me k K' g' ls ((nJ c me w.1 p).1,w.2):=by
 have W0:=Walk.of W.loc.good W.base W.RN;have W1:=W0.newL (ty:=81) (xs:=p.av) (r:=K.next) (aV p) rfl;have W2:=W1.newL (ty:=81) (xs:=zP9) (r:=K.next+1) rfl (by rw[eu]);have W3:=W2.newL (ty:=81) (xs:=zP9) (r:=K.next+1+1) rfl (by rw[eu,eu]);have k2:iK (iK noL K.next p.av) (K.next+1) zP9 K.next=some p.av:=by rw[aB (by omega),aj]
 have k3:iK (iK (iK noL K.next p.av) (K.next+1) zP9) (K.next+1+1) zP9 K.next=some p.av:=by rw[aB (by omega)];exact k2
 have k4:iK (iK (iK noL K.next p.av) (K.next+1) zP9) (K.next+1+1) zP9 (K.next+1)=some zP9:=by rw[aB (by omega),aj]
 have k5:iK (iK (iK noL K.next p.av) (K.next+1) zP9) (K.next+1+1) zP9 (K.next+1+1)=some zP9:=aj;have lk:=W2.loc.ld k2 (i:=0) (v:=I p.aW) rfl;have lp:=W3.loc.lda k3 (i:=0) (n:=9) (ys:=p.av) rfl rfl (by decide);have lh:=W3.ldN (i:=11) (v:=.ref (S.a 3) 0 0) rfl;have lc:=W3.ldN (i:=0) (v:=.ref (S.a 1) 0 0) rfl
 -- the end
 have fin:∀{K4:ah} {g4:bG} {n':Node} {out:Pkt} {v:AV},Walk b K (lay g ls) S c me w.2.1.l.length K4 g4 (iK (iK (iK noL K.next p.av) (K.next+1) zP9) (K.next+1+1) zP9) (n',w.2)->
   (∀f args,cl f args (((K.new (.blk 0 81 p.av)).new (.blk 0 81 zP9)).new (.blk 0 81 zP9))=some (v,K4)->
   (∀{β:Type} (kk:Option β),ckR (K.next+1+1) (K.next+1+1+1) (((K.new (.blk 0 81 p.av)).new (.blk 0 81 zP9)).new (.blk 0 81 zP9)) K4 kk=kk)/\
   ∃K5 K6 g',st 9 (.ref (K.next+1+1) 0 0) (.agg out.av) K4=some (aX,K5)/\lda 9 (.ref (K.next+1+1) 0 0) K5=some (.agg out.av,K5)/\st 9 (.ref (K.next+1) 0 0) (.agg out.av) K5=some (aX,K6)/\lda 9 (.ref (K.next+1) 0 0) K6=some (.agg out.av,K6)/\Walk b H g0 S c me k K6 g' ls (n',w.2)):=by
  intro K4 g4 n' out v W4 f args hcl;refine⟨λkk=>aq8 λr h1 h2=>?_,?_⟩
  ·obtain rfl:r=K.next+1+1:=by omega
   exact XL W3.loc.good W4.loc.good (XH _ _ _ _ _ hcl) (pU k5) (pU k5)
  ·obtain⟨K5,u1,u2,W5⟩:=W4.whole k5 (n:=9) (vs:=out.av) rfl (cO _) (by decide) (aV _);obtain⟨K6,u3,u4,W6⟩:=W5.whole (r:=K.next+1) (xs:=zP9) (by rw[aB (by omega)];exact k4) (n:=9) (vs:=out.av) rfl (cO _) (by decide) (aV _);obtain⟨g',W'⟩:=W.app (K':=K6) (w':=(n',w.2)) (by
    have:=W6.res;rw[W.len]at this;exact this)
   exact⟨K5,K6,g',u1,u2,u3,u4,W'⟩
 by_cases hk:p.aW=1∨p.aW=2
 ·have hm:nJ c me w.1 p=({ w.1 with home:=(w.1.home.handle c me p).1 },(w.1.home.handle c me p).2.1,(w.1.home.handle c me p).2.2.1 && decide ((w.1.home.handle c me p).2.2.2=0)):=by unfold nJ;rw[if_pos hk]
  rw[hm];have HI:=W3.RN.bC.2.2.2;obtain⟨K4,a1,a2,a3⟩:=acV W3.loc.good W3.base HI hc Z.t.nd Z.t.ws Z.r p hpl;have W4:=W3.home a2 a3;obtain⟨ck,K5,K6,g',u1,u2,u3,u4,W'⟩:=fin W4 _ _ a1 (out:=(w.1.home.handle c me p).2.1);refine⟨K6,g',bg rfl rfl (aip _ _ _ _ ?_),W'⟩;simp only[XJ]at a1;obtain⟨ok,hok⟩:∃ok,(w.1.home.handle c me p).2.2.1=ok:=⟨_,rfl⟩
  rw[hok]at a1 ⊢;have cR:∀{β:Type} (kk:Option β),ckR ((K.new (.blk 0 81 p.av)).new (.blk 0 81 zP9)).next (((K.new (.blk 0 81 p.av)).new (.blk 0 81 zP9)).new (.blk 0 81 zP9)).next (((K.new (.blk 0 81 p.av)).new (.blk 0 81 zP9)).new (.blk 0 81 zP9)) K4 kk=kk:=by
   intro β kk;simp only[eu];exact ck kk
  rcases hk with h1|h1
  ·rw[h1]at lk;cases ok with
   |true=>simp only[Nat.reduceLT,xq_,La,aC (aV p),lk,lh,lp,a1,ck,u1,u2,u3,u4,Bool.true_and]
   |false=>simp only[Nat.reduceLT,xq_,La,aC (aV p),lk,lh,lp,a1,ck,u1,u2,u3,u4,Bool.false_and]
  ·rw[h1]at lk;cases ok with
   |true=>simp only[Nat.reduceLT,Int.reduceEq,xq_,La,aC (aV p),lk,lh,lp,a1,ck,u1,u2,u3,u4,Bool.true_and]
   |false=>simp only[Nat.reduceLT,Int.reduceEq,xq_,La,aC (aV p),lk,lh,lp,a1,ck,u1,u2,u3,u4,Bool.false_and]
 ·have hm:nJ c me w.1 p=({ w.1 with aJ:=(fQ w.1.aJ p).1 },(fQ w.1.aJ p).2.1,decide ((fQ w.1.aJ p).2.2=0)):=by unfold nJ;rw[if_neg hk]
  rw[hm];obtain⟨K4,a1,a2,a3⟩:=adh W3.loc.good W3.base (W3.loc.obj W3.nw.bC.2.1) C p;have W4:=W3.aJ a2 a3;obtain⟨ck,K5,K6,g',u1,u2,u3,u4,W'⟩:=fin W4 _ _ a1 (out:=(fQ w.1.aJ p).2.1);refine⟨K6,g',bg rfl rfl (aip _ _ _ _ ?_),W'⟩;have h1:¬p.aW=1:=λh=>hk (.inl h);have h2:¬p.aW=2:=λh=>hk (.inr h);simp only[ZH]at a1;simp only[Nat.reduceLT,xq_,La,aC (aV p),lk,h1,h2,lc,lp,a1,ck,u1,u2,u3,u4]
end
section
variable {b:Nat}{H:ah}{g0:bG}{S:Tv}{c:Cfg}{me:Int}{k:Nat}{K K':ah}{g:bG}{ls:Lcl}{w w':NFT}
def XO(f:Fab)(i:Int)(req:Bool):(f.take i req).1.l.length=f.l.length:=by
 unfold Fab.take;split
 ·split
  ·rfl
  ·simp[Fab.put]
 ·rfl
def Walk.Dy(W:Walk b H g0 S c me k K g ls w)(F:FOk c w.2.1):∃K' g',cl 144 [.ref S.f 0 0,I me] K=ZC (iJ (w.2.1.take me Z0).2,K')/\Walk b H g0 S c me k K' g' ls (w.1,(w.2.1.take me Z0).1,w.2.2):=by
 have⟨K',n,d,e,h,i,j⟩:=Proofs.YtgplhpgkompkmaaGreat.Dy W.loc.good W.base W.RN.fab W.nw.Xt F me;have⟨g',m⟩:=W.net e h (XO _ _ _) i j;exact⟨K',g',d,m⟩
def Walk.OW(W:Walk b H g0 S c me k K g ls w)(F:FOk c w.2.1):∃K' g',cl 134 [.ref S.f 0 0,I me] K=ZC (iJ (w.2.1.take me ZV).2,K')/\Walk b H g0 S c me k K' g' ls (w.1,(w.2.1.take me ZV).1,w.2.2):=by
 have⟨K',n,d,e,h,i,j⟩:=Proofs.YtgplhpgkompkmaaGreat.OW W.loc.good W.base W.RN.fab W.nw.Xt F me;have⟨g',m⟩:=W.net e h (XO _ _ _) i j;exact⟨K',g',d,m⟩
def Walk.room(W:Walk b H g0 S c me k K g ls w)(F:FOk c w.2.1)(req:Bool):∃K',cl 141 [.ref S.f 0 0,I me,B req] K=ZC (I (w.2.1.roomOf me req),K')/\Walk b H g0 S c me k K' g ls w:=by
 have⟨K',d,e,h⟩:=alu W.loc.good W.base W.RN.fab F me req;exact⟨K',d,W.same e h⟩
def Vq(W:Walk b H g0 S c me k K g ls w)(hc:c.ok=Z0)(F:wY c w.2.1)(C:COk w.1.aJ)(Z:HSz w.1.home):
  ∃K' g',match(if w.2.1.roomOf me ZV=0 then(w.2.1,Z1)else w.2.1.take me Z0)with
   |(j,some p)=>cl 97 [.ref (S.a 0) 0 0,.ref S.f 0 0] K=ZC (B Z0,K')/\Walk b H g0 S c me k K' g' ls ((w.1.asked c me j p).1,(w.1.asked c me j p).2,w.2.2)
   |(_,none)=>cl 97 [.ref (S.a 0) 0 0,.ref S.f 0 0] K=ZC (B ZV,K')/\Walk b H g0 S c me k K' g' ls w:=by
 have X:=Walk.of W.loc.good W.base W.RN;have y:=X.ldN (i:=10) (v:=I me) Z3;have⟨K1,o,D⟩:=X.room (fok hc F) ZV;by_cases m:w.2.1.roomOf me ZV=0
 ·simp only[YY m];rw[m]at o;have⟨g',e⟩:=W.app (K':=K1) (w':=w) (by
   have:=D.res;rw[W.len]at this;exact this)
  refine⟨K1,g',bg Z3 Z3 (afe _ _ _ _ ?_),e⟩;simp only[xq_,abk,y,o]
 ·simp only[Ys m];have h:=D.ldN (i:=10) (v:=I me) Z3;have⟨K2,g2,d,E⟩:=D.Dy (fok hc F);have⟨G,L⟩:=F.take me Z0;have M:=E.newL (ty:=81) (xs:=zP9) (r:=K2.next) Z3 Z3;cases R:w.2.1.take me Z0 with
  |mk j po=>
   rw[R]at d E M G L;simp only at d E M G L;have⟨K4,q,z,W4⟩:=M.whole aj (n:=9) (vs:=(po.getD .zero).av) Z3 (cO _) J (aV _);simp only[iJ]at d;cases po with
   |none=>
    simp only[Option.getD_none,Option.isSome_none]at d q z;have T:j=w.2.1:=by
     have:=RQ (f:=w.2.1) (i:=me) (req:=Z0) (by rw[R]);rw[R]at this;exact this
    subst T;have⟨g',e⟩:=W.app (K':=K4) (w':=w) (by
     have:=W4.res;rw[W.len]at this;exact this)
    refine⟨K4,g',bg Z3 Z3 (afe _ _ _ _ ?_),e⟩;simp only[xq_,abk,y,o,m,h,d,q,Bool.not_false]
   |some p=>
    simp only[Option.getD_some,Option.isSome_some]at d q z;have Q:=L p Z3;have⟨K5,g5,A,W5⟩:=adi W4 hc C Z p (RS Q);have W6:=W5.newL (ty:=81) (xs:=zP9) (r:=K5.next) Z3 Z3;have⟨K7,u3,u4,W7⟩:=W6.whole aj (n:=9) (vs:=(nJ c me w.1 p).2.1.av) Z3 (cO _) J (aV _);simp only[afY];cases u:(nJ c me w.1 p).2.2 with
    |false=>
     rw[u]at A;have⟨g',e⟩:=W.app (K':=K7) (w':=((nJ c me w.1 p).1,j,w.2.2)) (by
      have:=W7.res;rw[W.len]at this;exact this)
     refine⟨K7,g',bg Z3 Z3 (afe _ _ _ _ ?_),by simpa using e⟩;simp only[xq_,abk,Om,y,o,m,h,d,q,z,Bool.not_true,A,u3]
    |true=>
     rw[u]at A;have⟨K8,g8,d1,W8⟩:=W7.send (fok hc G) (nJ c me w.1 p).2.1 (RX C Z p);have⟨g',e⟩:=W.app (K':=K8) (w':=((nJ c me w.1 p).1,(j.send (nJ c me w.1 p).2.1).1,w.2.2)) (by
      have:=W8.res;rw[W.len]at this;exact this)
     refine⟨K8,g',bg Z3 Z3 (afe _ _ _ _ ?_),by simpa using e⟩;simp only[xq_,abk,Om,y,o,m,h,d,q,z,Bool.not_true,A,u3,u4,d1]
def adk(W:Walk b H g0 S c me k K g ls w)(hc:c.ok=Z0)(F:wY c w.2.1)(Z:HSz w.1.home):
  ∃K' g',if w.1.home.ready≠[]/\w.2.1.roomOf me ZV≠0 then
    cl 96 [.ref (S.a 0) 0 0,.ref S.f 0 0] K=ZC (B Z0,K')/\Walk b H g0 S c me k K' g' ls ({ w.1 with home:=(w.1.home.grant me).1 },(w.2.1.send (w.1.home.grant me).2.1).1,w.2.2)
   else cl 96 [.ref (S.a 0) 0 0,.ref S.f 0 0] K=ZC (B ZV,K')/\Walk b H g0 S c me k K' g' ls w:=by
 have e:=Walk.of W.loc.good W.base W.RN;have p:=e.ldN (i:=11) (v:=.ref (S.a 3) 0 0) Z3;have A:=e.ldN (i:=10) (v:=I me) Z3;have j:=Y5 e.loc.good e.RN.bC.2.2.2 Z.t;by_cases m:w.1.home.ready=[]
 ·simp only[Ys (show¬(w.1.home.ready≠[]/\w.2.1.roomOf me ZV≠0)from λh=>h.1 m)];have hd:YM (w.1.home.ready≠[])=false:=by rw[zam];exact λh=>h m
  rw[hd]at j;refine⟨K,g,bg Z3 Z3 (akP _ _ _ _ ?_),W⟩;simp only[xq_,afd,p,j,Bool.not_false]
 ·have hd:YM (w.1.home.ready≠[])=true:=zah m;rw[hd]at j;have⟨C,q,d⟩:=e.room (fok hc F) ZV;by_cases o:w.2.1.roomOf me ZV=0
  ·simp only[Ys (show¬(w.1.home.ready≠[]/\w.2.1.roomOf me ZV≠0)from λh=>h.2 o)];rw[o]at q;have⟨g',u⟩:=W.app (K':=C) (w':=w) (by
    have:=d.res;rw[W.len]at this;exact this)
   refine⟨C,g',bg Z3 Z3 (akP _ _ _ _ ?_),u⟩;simp only[xq_,afd,p,j,Bool.not_true,A,q]
  ·simp only[YY (show w.1.home.ready≠[]/\w.2.1.roomOf me ZV≠0 from⟨m,o⟩)];have y:=d.ldN (i:=11) (v:=.ref (S.a 3) 0 0) Z3;have⟨E,G,L,M⟩:=afV d.loc.good d.base d.RN.bC.2.2.2 Z.t Z.r;have Q:=d.home L M;have R:=Q.newL (ty:=81) (xs:=zP9) (r:=E.next) Z3 Z3;have⟨K4,T,X,W4⟩:=R.whole aj (n:=9) (vs:=(w.1.home.grant me).2.1.av) Z3 (cO _) J (aV _);have z:(w.1.home.grant me).2.1.data.length<1000000000:=by
    have z0:(0:Nat)<1000000000:=J
    unfold Home.grant
    repeat' split
    all_goals first|exact z0|exact RU Z.r _
   have⟨D,g5,d1,W5⟩:=W4.send (fok hc F) (w.1.home.grant me).2.1 z;have⟨g',u⟩:=W.app (K':=D) (w':=({ w.1 with home:=(w.1.home.grant me).1 },(w.2.1.send (w.1.home.grant me).2.1).1,w.2.2)) (by
    have:=W5.res;rw[W.len]at this;exact this)
   refine⟨D,g',bg Z3 Z3 (akP _ _ _ _ ?_),u⟩;simp only[xq_,afd,p,j,Bool.not_true,A,q,o,y,G,T,X,d1]
def Walk.adl(W:Walk b H g0 S c me k K g ls w)(d:bW):∃K' g',st 9 (.ref (S.a 0) 0 12) (.agg d.av) K=ZC (aX,K')/\Walk b H g0 S c me k K' g' ls ({ w.1 with aO:=d },w.2):=by
 have⟨K',j,h,m,_⟩:=W.loc.good.stores W.base (W.loc.obj W.nw.bC.1) (i:=12) (n:=9) (vs:=d.av) (by rw[iy];decide) Z3 (bH d);have e:rO (yN S.a c me w.1.aO w.1.num) 12 d.av=yN S.a c me d w.1.num:=rfl;rw[e]at h;exact⟨K',_,j,W.own h m⟩
def Walk.arf(W:Walk b H g0 S c me k K g ls w)(z:Int):∃K' g',st 1 (.ref (S.a 0) 0 21) (I z) K=ZC (aX,K')/\Walk b H g0 S c me k K' g' ls ({ w.1 with num:=z },w.2):=by
 have⟨K',h,d,j,_⟩:=W.loc.good.store W.base (W.loc.obj W.nw.bC.1) (i:=21) (v:=I z) (by rw[iy];decide) dU;have e:(yN S.a c me w.1.aO w.1.num).set 21 (.av (I z))=yN S.a c me w.1.aO z:=rfl;rw[e]at d;exact⟨K',_,h,W.own d j⟩
def BL(W:Walk b H g0 S c me k K g ls w)(hc:c.ok=Z0)(F:wY c w.2.1)(A:0<=w.1.num/\w.1.num<1000000)(aW ak:Int):
  ∃K' g',cl 149 [.ref (S.a 0) 0 0,.ref S.f 0 0,I aW,I ak] K=ZC (.tup [],K')/\Walk b H g0 S c me k K' g' ls ((w.1.begin_ c me w.2.1 aW ak).1,(w.1.begin_ c me w.2.1 aW ak).2,w.2.2):=by
 have j:=W.ldN (i:=21) (v:=I w.1.num) Z3;have m:=afR K aW ak w.1.num;have⟨C,D,n,h⟩:=W.adl (.begin aW ak w.1.num);have d:=h.ldN (i:=21) (v:=I w.1.num) Z3;have w1:=wrap_i64 (a:=w.1.num+1) V V;have e:=oq (P:=Tryz.prog) (k:=.i64) (t:=3) (a:=w.1.num+1) (b:=4096) J;have⟨E,G,o,p⟩:=h.arf ((w.1.num+1).tmod 4096);have⟨q,u,y,z⟩:=Vm p hc (fok hc F) (show(0:Nat)<1000000000 by decide);refine⟨q,u,bg Z3 Z3 (ape _ _ _ _ _ _ ?_),z⟩;simp only[xq_,air,j,m,n,d,bM,w1,e,o,y]
end
def afZ:∀(n:Nat) (l:Q Int),l.Nodup->(∀x∈l,0<=x/\x<n)->l.length<=n
 |0,[],_,_=>Nat.le_refl _
 |0,x::l,_,h=>by have:=h x O;omega
 |n+1,l,hd,h=>by
  by_cases hm:(n:Int)∈l
  ·have d:=afZ n (l.erase n) (hd.erase (n:Int)) λx b=>by
    have:=(hd.mem_erase_iff).1 b;have:=h x this.2;omega
   rw[List.length_erase_of_mem hm]at d;omega
  ·have:=afZ n l hd λx b=>by
    have:=h x b;have:x≠n:=λe=>hm (e ▸ b);omega
   omega
def cok {c:Cfg}(hc:c.ok=Z0){ca:Cache}(I:Fb c ca)(hk:ca.dN<1000000000):COk ca:=by
 have B:=qp hc;refine⟨?_,by rw[I.sets];exact B.sets.1,⟨I.ake,hk⟩,λe b=>?_,λe b=>?_⟩
 ·have d:(ca.l.map (·.ak)).Nodup:=List.pairwise_map.2 I.aT;have:=afZ c.aT.toNat _ d λx g=>by
   obtain⟨e,b,rfl⟩:=List.mem_map.1 g;have E:=I.ent e b;have d:=E.lo;have h:=E.hi;omega
  rw[List.length_map]at this;have:=B.aT;omega
 ·have:=(I.ent e b).dat.1;have:=B.aP;omega
 ·have:=I.ent e b;exact⟨this.u0,by have:=this.used;omega⟩
def psz {c:Cfg}{p:Proc}(I:ahH c p):PSz p:=⟨by have:=I.most;omega,I.vals⟩
def hsz {c:Cfg}(hc:c.ok=Z0){me:Int}{n:Node}(I:YE c me n)(hw:∀ak,(n.home.bn.ws ak).length<1000000):HSz n.home:=by
 have B:=qp hc;have hk:∀e∈n.home.bn.wait,0<=e.1/\e.1<c.aT:=λe b=>by
  have:=I.home.here e b;unfold wX at this;simp only[Bool.and_eq_true,zab]at this;omega
 refine⟨⟨I.home.bn.wk,λe b=>by have:=hk e b;have:=B.aT;omega,?_,hw⟩,λe b=>by have:=(I.dS e b).1;have:=B.aP;omega⟩;have:=afZ c.aT.toNat _ I.home.bn.wk λx d=>by
  obtain⟨e,b,rfl⟩:=List.mem_map.1 d;have:=hk e b;omega
 rw[List.length_map]at this;have:=B.aT;omega
section
variable {b:Nat}{H:ah}{g0:bG}{S:Tv}{c:Cfg}{me:Int}{k:Nat}{K K':ah}{g:bG}{ls:Lcl}{w w':NFT}
def alI(c:Cfg)(me:Int)(n:Node)(f:Fab)(t:Q Evn)(o:Opn):NFT:=
 let ak:=c.bZ o.addr;let e:=n.aJ.find ak
 if o.aW=4/\e=Z1 then((n.done me t 0).1,f,(n.done me t 0).2)
 else if o.aW=4 then((n.begin_ c me f 3 ak).1,(n.begin_ c me f 3 ak).2,t)
 else if e.isSome=Z0/\(o.aW=1∨(e.getD .zero).bJ=Z0)then
  let n:={ n with aJ:=n.aJ.touch ak }
  ((n.effect c me t).1,f,(n.effect c me t).2)
 else if n.aJ.full ak=Z0 then((n.begin_ c me f 3 ((n.aJ.qI ak).getD 0)).1,(n.begin_ c me f 3 ((n.aJ.qI ak).getD 0)).2,t)
 else if o.aW=1 then((n.begin_ c me f 1 ak).1,(n.begin_ c me f 1 ak).2,t)
 else((n.begin_ c me f 2 ak).1,(n.begin_ c me f 2 ak).2,t)
def alJ(n:Node)(f:Fab)(t:Q Evn)(o:Opn):n.work c me f t o=alI c me { n with bU:={ n.bU with fD:=Z0 } } f (if n.bU.fD then t else t++[⟨me,n.bU.bI.length,ZV,0⟩]) o:=rfl
def XP(W:Walk b H g0 S c me k K g ls w)(hc:c.ok=Z0)(F:wY c w.2.1)(hp:PSz w.1.bU)(CI:Fb c w.1.aJ)(hk:w.1.aJ.dN<1000)(hn:0<=w.1.num/\w.1.num<1000000)(hl:w.2.2.length<1000000){r7:Nat}{o:Opn}(h7:ls r7=ZC o.av):
  ∃K' g',pI cl (.ref (S.a 0) 0 0) (.ref S.f 0 0) (.ref S.t 0 0) (.ref r7 0 0) K=ZC (B Z0,K')/\Walk b H g0 S c me k K' g' ls (alI c me w.1 w.2.1 w.2.2 o):=by
 have C:=cok hc CI (by omega);have W0:=Walk.of W.loc.good W.base W.RN;have lc:=W.ara (i:=2) (n:=8) (ys:=c.av) Z3 Z3 (by decide);have la:=W.loc.ld h7 (i:=1) (v:=I o.addr) Z3;have⟨ak,af0⟩:∃ak,c.bZ o.addr=ak:=⟨_,Z3⟩
 have el:=I5 K c hc o.addr;rw[af0]at el;have l0:=W.ldN (i:=0) (v:=.ref (S.a 1) 0 0) Z3;have ef:=W.find C ak;have⟨fo,hfo⟩:∃fo,w.1.aJ.find ak=fo:=⟨_,Z3⟩
 rw[hfo]at ef;simp only[jG]at ef;have hr7:r7<K.next:=W.loc.good.lt (pU h7)
 have W1:=W.newL (ty:=100) (xs:=zE6) (r:=K.next) Z3 Z3;have⟨K2,u1,u2,W2⟩:=W1.whole aj (n:=6) (vs:=(fo.getD .zero).av) Z3 Z3 (by decide) (jR _);have k7:iK (iK ls K.next zE6) K.next (fo.getD .zero).av r7=ZC o.av:=by rw[aB (by omega),aB (by omega)];exact h7
 have lk:=W2.loc.ld k7 (i:=0) (v:=I o.aW) Z3;have ldd:=W2.loc.ld (r:=K.next) (xs:=(fo.getD .zero).av) aj (i:=4) (v:=B (fo.getD .zero).bJ) Z3;have l02:=W2.ldN (i:=0) (v:=.ref (S.a 1) 0 0) Z3;have Vr:=Rt W2.loc.good (W2.loc.obj W2.nw.bC.2.1) C.len C.sets ak;have au3:=U9 W2.loc.good (W2.loc.obj W2.nw.bC.2.1) C.len C.sets C.used ak
 -- what is called is called of the bC
 have back:∀{K3:ah} {g3:bG} {w3:NFT},Walk b H g0 S c me k K3 g3 (iK (iK ls K.next zE6) K.next (fo.getD .zero).av) w3->∃g',Walk b H g0 S c me k K3 g' ls w3:=by
  intro K3 g3 w3 W3;refine⟨g3,W3.hb,⟨W3.loc.good.sub λq cs hq=>?_,λr hr=>?_⟩,W3.nw,W3.off,W3.step,W3.len⟩
  ·unfold lay at hq ⊢;by_cases hqr:q=K.next
   ·subst hqr;have hnone:ls K.next=none:=by
     cases e:ls K.next with
     |none=>rfl
     |some xs=>
      have:=W.loc.good.lt (pU (g:=g) e);omega
    rw[hnone]at hq;simp only at hq;have:=W3.loc.free K.next (by rw[aj];simp)
    rw[this]at hq;cases hq
   ·rw[aB hqr,aB hqr];exact hq
  ·refine W3.loc.free r ?_;have hne:r≠K.next:=λe=>by
    subst e;cases e2:ls K.next with
    |none=>exact hr e2
    |some xs=>
     have:=W.loc.good.lt (pU (g:=g) e2);omega
   rw[aB hne,aB hne];exact hr
 unfold alI;simp only[af0,hfo];by_cases h4:o.aW=4
 ·rw[h4]at lk;cases fo with
  |none=>
   rw[y ⟨h4,Z3⟩];have⟨K3,g3,a1,W3⟩:=adb W2 hp hl 0;have⟨g',W'⟩:=back W3;refine⟨K3,g',?_,W'⟩;simp only[xq_,pI,mF,lc,la,el,l0,ef,u1,lk,Option.isSome_none,Bool.not_false,a1]
  |some e=>
   rw[Ys (by simp),y h4];have⟨K3,g3,a1,W3⟩:=BL W2 hc F hn 3 ak;have⟨g',W'⟩:=back W3;refine⟨K3,g',?_,W'⟩;simp only[Int.reduceEq,xq_,pI,mF,lc,la,el,l0,ef,u1,lk,Option.isSome_some,Bool.not_true,a1]
 ·rw[Ys (λh=>h4 h.1),Ys h4];by_cases hd:fo.isSome=Z0/\(o.aW=1∨(fo.getD .zero).bJ=Z0)
  ·rw[y hd];obtain⟨e,rfl⟩:=Option.isSome_iff_exists.1 hd.1;have⟨K3,a1,a2,a3⟩:=YV W2.loc.good W2.base (W2.loc.obj W2.nw.bC.2.1) C.len C.clk ak;have W3:=W2.aJ a2 a3;have hC:COk (w.1.aJ.touch ak):=cok hc (CI.touch hfo) (by rw[Jo CI.aT hfo];omega);have⟨K4,g4,b1,W4⟩:=RP W3 hc hp hC hl;have⟨g',W'⟩:=back W4;refine⟨K4,g',?_,W'⟩;by_cases h1:o.aW=1
   ·rw[h1]at lk;simp only[Int.reduceEq,xq_,pI,mF,lc,la,el,l0,ef,u1,lk,Option.isSome_some,a1,l02,b1]
   ·have hdd:=hd.2.resolve_left h1;rw[hdd]at ldd;simp only[xq_,pI,mF,lc,la,el,l0,ef,u1,lk,h4,h1,ldd,Option.isSome_some,a1,l02,b1]
  ·rw[Ys hd]
   -- the condition
   have hcond:∀(X Y:M (AV × ah)),(fo.isSome=ZV)∨(fo.isSome=Z0/\¬o.aW=1/\(fo.getD .zero).bJ=ZV):=λ_ _=>by
    cases h:fo.isSome with
    |false=>exact .inl Z3
    |true=>
     refine .inr ⟨Z3,λh1=>hd ⟨h,.inl h1⟩,?_⟩;cases h2:(fo.getD .zero).bJ with
     |false=>rfl
     |true=>exact absurd ⟨h,.inr h2⟩ hd
   have hcond:=hcond Z1 Z1;by_cases hfl:w.1.aJ.full ak=Z0
   ·rw[y hfl];rw[hfl]at Vr;have⟨K3,g3,a1,W3⟩:=BL W2 hc F hn 3 ((w.1.aJ.qI ak).getD 0);have⟨g',W'⟩:=back W3;refine⟨K3,g',?_,W'⟩;rcases hcond with hs|⟨hs,h1,h2⟩
    ·rw[hs]at ef;simp only[xq_,pI,mF,lc,la,el,l0,ef,u1,lk,h4,l02,Vr,au3,a1]
    ·rw[hs]at ef;rw[h2]at ldd;simp only[xq_,pI,mF,lc,la,el,l0,ef,u1,lk,h4,h1,ldd,l02,Vr,au3,a1]
   ·rw[Ys hfl];have hff:w.1.aJ.full ak=false:=by cases h:w.1.aJ.full ak <;> simp_all
    rw[hff]at Vr;by_cases h1:o.aW=1
    ·rw[y h1];have⟨K3,g3,a1,W3⟩:=BL W2 hc F hn 1 ak;have⟨g',W'⟩:=back W3;refine⟨K3,g',?_,W'⟩;have hs:fo.isSome=false:=hcond.resolve_right λh=>h.2.1 h1;rw[hs]at ef;rw[h1]at lk;simp only[Int.reduceEq,xq_,pI,mF,lc,la,el,l0,ef,u1,lk,l02,Vr,a1]
    ·rw[Ys h1];have⟨K3,g3,a1,W3⟩:=BL W2 hc F hn 2 ak;have⟨g',W'⟩:=back W3;refine⟨K3,g',?_,W'⟩;rcases hcond with hs|⟨hs,_,h2⟩
     ·rw[hs]at ef;simp only[xq_,pI,mF,lc,la,el,l0,ef,u1,lk,h4,h1,l02,Vr,a1]
     ·rw[hs]at ef;rw[h2]at ldd;simp only[xq_,pI,mF,lc,la,el,l0,ef,u1,lk,h4,h1,ldd,l02,Vr,a1]
end
section
variable {b:Nat}{H:ah}{g0:bG}{S:Tv}{c:Cfg}{me:Int}{k:Nat}{K K':ah}{g:bG}{ls:Lcl}{w w':NFT}
def Walk.to(W:Walk b H g0 S c me k K g ls w){K':ah}{d:bG}{e:Lcl}(h:Walk b K (lay g ls) S c me w.2.1.l.length K' d e w'):∃g',Walk b H g0 S c me k K' g' ls w':=
 W.app (by have:=h.res;rw[W.len]at this;exact this)
def adn(W:Walk b H g0 S c me k K g ls w)(hc:c.ok=Z0)(F:wY c w.2.1)(q:YE c me w.1)(R:0<=w.1.num/\w.1.num<1000000)(hl:w.2.2.length<999999):
  ∃K' g',match w.1.bU.cur with
   |some o=>if w.1.aO.step=0 then cl 98 [.ref (S.a 0) 0 0,.ref S.f 0 0,.ref S.t 0 0] K=ZC (B Z0,K')/\Walk b H g0 S c me k K' g' ls (w.1.work c me w.2.1 w.2.2 o)
     else cl 98 [.ref (S.a 0) 0 0,.ref S.f 0 0,.ref S.t 0 0] K=ZC (B ZV,K')/\Walk b H g0 S c me k K' g' ls w
   |none=>cl 98 [.ref (S.a 0) 0 0,.ref S.f 0 0,.ref S.t 0 0] K=ZC (B ZV,K')/\Walk b H g0 S c me k K' g' ls w:=by
 have P:=psz q.bU;have u:w.1.aJ.dN<1000:=by have:=q.clk;have:=q.bU.vals;have:=q.bU.most;omega
 have T:=Walk.of W.loc.good W.base W.RN;have C:=T.ldN (i:=1) (v:=.ref (S.a 2) 0 0) Z3;have⟨D,m,W1⟩:=T.cur P;have W2:=W1.newL (ty:=61) (xs:=[zI,zI,zI]) (r:=D.next) Z3 Z3;have⟨X,E,b2,h⟩:=W2.whole aj (n:=3) (vs:=w.1.bU.op.av) Z3 (eG _) J (mg _);have k7:iK (iK noL D.next [zI,zI,zI]) D.next w.1.bU.op.av D.next=ZC w.1.bU.op.av:=aj
 have j:=h.ldN (i:=15) (v:=I w.1.aO.step) Z3;cases d:w.1.bU.cur with
 |none=>
  rw[d]at m;simp only[Option.isSome_none]at m;have⟨g',p⟩:=W.to h;refine⟨X,g',bg Z3 Z3 (aff _ _ _ _ _ ?_),p⟩;simp only[xq_,abl,C,m,E,Bool.not_false]
 |some o=>
  rw[d]at m;simp only[Option.isSome_some]at m;by_cases G:w.1.aO.step=0;rotate_left
  ·simp only[Ys G];have⟨g',p⟩:=W.to h;refine⟨X,g',bg Z3 Z3 (aff _ _ _ _ _ ?_),p⟩;simp only[Nat.reduceAdd,xq_,abl,C,m,E,Bool.not_true,Bool.not_false,j,G]
  ·simp only[YY G];rw[G]at j;have y:w.1.bU.op=o:=by simp only[Proc.op,d,Option.getD_some]
   have z:w.1.bU.idx=w.1.bU.bI.length:=by simp only[Proc.idx,d]
   have lp:=h.ldN (i:=1) (v:=.ref (S.a 2) 0 0) Z3;have L:=acn h.loc.good (h.loc.obj h.nw.bC.2.2.1);rw[alJ];cases e:w.1.bU.fD with
   |true=>
    rw[e]at L;have he:({ w.1 with bU:={ w.1.bU with fD:=Z0 } }:Node)=w.1:=by
     rcases hw:w.1 with⟨ca,pr,ho,de,nu⟩
     rw[hw]at e;simp only at e;rcases pr with⟨x1,x2,x3⟩
     simp only at e;subst e;rfl
    rw[he];simp only[zad];have⟨K4,g4,M,A⟩:=XP h hc F P q.aJ u R V (o:=w.1.bU.op) k7;rw[y]at A;have⟨g',p⟩:=W.to A;refine⟨K4,g',bg Z3 Z3 (aff _ _ _ _ _ ?_),p⟩;simp only[Nat.reduceAdd,xq_,abl,C,m,E,Bool.not_true,j,lp,L,M]
   |false=>
    rw[e]at L;simp only[Bool.false_eq_true,zaf];have⟨v,K4,d1,d2,d3⟩:=ac7 h.loc.good h.base (h.loc.obj h.nw.bC.2.2.1) P.ops (by have:=P.ops;have:=P.vals;omega) P.vals;have Q:w.1.bU.AA={ w.1.bU with fD:=Z0 }:=by
     unfold Proc.AA;rw[Ys (by rw[e,d];simp)]
    rw[Q]at d2;have A:=h.bU d2 d3;have li:=A.ldN (i:=10) (v:=I me) Z3;have⟨K5,g5,e1,W5⟩:=A.arb (show w.2.2.length<1000000 by omega) me w.1.bU.idx;have⟨K6,g6,M,W6⟩:=XP W5 hc F (show PSz ({ w.1.bU with fD:=Z0 }:Proc)from⟨P.ops,P.vals⟩) q.aJ u R (by simp only[List.length_append,List.length_cons,List.length_nil];omega) (o:=w.1.bU.op) k7;rw[y,z]at W6;have⟨g',p⟩:=W.to W6;refine⟨K6,g',bg Z3 Z3 (aff _ _ _ _ _ ?_),p⟩;simp only[Nat.reduceAdd,xq_,abl,C,m,E,Bool.not_true,Bool.not_false,j,lp,L,d1,li,e1,M]
def Y9(W:Walk b H g0 S c me k K g ls w)(hc:c.ok=Z0)(F:wY c w.2.1)(E:YE c me w.1)(hl:w.2.2.length<999999)(ad:w.1.aO.data.length<1000000000):
  ∃K' g',match w.2.1.take me ZV with
   |(f',some p)=>cl 95 [.ref (S.a 0) 0 0,.ref S.f 0 0,.ref S.t 0 0] K=ZC (B Z0,K')/\Walk b H g0 S c me k K' g' ls (w.1.answered c me f' w.2.2 p)
   |(_,none)=>cl 95 [.ref (S.a 0) 0 0,.ref S.f 0 0,.ref S.t 0 0] K=ZC (B ZV,K')/\Walk b H g0 S c me k K' g' ls w:=by
 have P:=psz E.bU;have Bd:=qp hc;have am:w.1.aJ.dN<1000:=by have:=E.clk;have:=E.bU.vals;have:=E.bU.most;omega
 have C:=cok hc E.aJ V;have W0:=Walk.of W.loc.good W.base W.RN;have A:=W0.ldN (i:=10) (v:=I me) Z3;have⟨K1,g1,j,W1⟩:=W0.OW (fok hc F);have⟨F1,Q1⟩:=F.take me ZV;have W2:=W1.newL (ty:=81) (xs:=zP9) (r:=K1.next) Z3 Z3;cases ht:w.2.1.take me ZV with
 |mk f' po=>
  rw[ht]at j W1 W2 F1 Q1;simp only at j W1 W2 F1 Q1;have⟨K3,o,u,W3⟩:=W2.whole aj (n:=9) (vs:=(po.getD .zero).av) Z3 (cO _) J (aV _);simp only[iJ]at j;cases po with
  |none=>
   simp only[Option.getD_none,Option.isSome_none]at j o u;have ae:f'=w.2.1:=by
    have:=RQ (f:=w.2.1) (i:=me) (req:=ZV) (by rw[ht]);rw[ht]at this;exact this
   subst ae;have⟨g',m⟩:=W.to W3;refine⟨K3,g',bg Z3 Z3 (YL _ _ _ _ _ ?_),m⟩;simp only[xq_,Ol,A,j,o,Bool.not_false]
  |some p=>
   simp only[Option.getD_some,Option.isSome_some]at j o u;have Q:=Q1 p Z3;have⟨K4,g4,y,W4⟩:=afW W3 C ad p (RS Q);unfold Node.answered;have⟨ca,d,ok,hA⟩:∃ca d ok,w.1.after me p=(ca,d,ok):=⟨_,_,_,Z3⟩
   rw[hA]at y W4;simp only[uH]at y W4;simp only[hA];have W5:=W4.newL (ty:=73) (xs:=zD9) (r:=K4.next) Z3 Z3;have⟨K6,G,u4,W6⟩:=W5.whole aj (n:=9) (vs:=d.av) Z3 Z3 J (bH d);cases ok with
   |false=>
    simp only[zad];have⟨g',m⟩:=W.to W6;refine⟨K6,g',bg Z3 Z3 (YL _ _ _ _ _ ?_),m⟩;simp only[xq_,Ol,A,j,o,u,Bool.not_true,y,G,Bool.not_false]
   |true=>
    simp only[Bool.true_eq_false,zaf];have hs:w.1.aO.step≠0:=λh0=>by
     have L:w.1.aO.fits p=false:=by unfold bW.fits;rw[h0];simp[Ar,D8]
     rw[sJ,BK L]at hA;simp[yJ]at hA
    have NX:=O4 E.aJ (E.aO hs) hs Q (by rw[<-sJ];exact hA);have aa:d.data.length<1000000000:=by
     rcases NX.dat with h|h
     ·rw[h];decide
     ·have:=h.1;have:=Bd.aP;omega
    have af:ca.dN<1000000000:=by rcases NX.clk with h|h <;> omega
    have C2:COk ca:=cok hc NX.inv af;have⟨K7,g7,c1,W7⟩:=W6.adl d;have lp:=W7.ldN (i:=1) (v:=.ref (S.a 2) 0 0) Z3;have⟨K8,d1,W8⟩:=W7.cur P;have W9:=W8.newL (ty:=61) (xs:=[zI,zI,zI]) (r:=K8.next) Z3 Z3;have⟨ag,u5,u6,e⟩:=W9.whole aj (n:=3) (vs:=w.1.bU.op.av) Z3 (eG _) J (mg _);have ao:K4.next<K8.next:=W8.loc.good.lt (q:=K4.next) (pU (g:=g7) aj)
    have k9:iK (iK (iK (iK (iK (iK noL K1.next zP9) K1.next p.av) K4.next zD9) K4.next d.av) K8.next [zI,zI,zI]) K8.next w.1.bU.op.av K4.next=ZC d.av:=by
     rw[aB V,aB V,aj]
    have z:=e.loc.ld k9 (i:=3) (v:=I d.step) Z3;have D:=e.loc.ld k9 (i:=0) (v:=I d.aW) Z3;have lo:=e.loc.ld (r:=K8.next) (xs:=w.1.bU.op.av) aj (i:=0) (v:=I w.1.bU.op.aW) Z3;by_cases h0:d.step=0
    ·simp only[YY h0];rw[h0]at z;by_cases L:d.aW=3/\w.1.bU.op.aW=4
     ·simp only[YY L];rw[L.1]at D;rw[L.2]at lo;have⟨ab,ai,e1,M⟩:=adb e P (show w.2.2.length<1000000 by omega) 0;have⟨g',m⟩:=W.to M;refine⟨ab,g',bg Z3 Z3 (YL _ _ _ _ _ ?_),m⟩;simp only[Int.reduceEq,xq_,Ol,A,j,o,u,Bool.not_true,y,G,u4,c1,lp,d1,u5,z,D,lo,e1]
     ·simp only[Ys L];have⟨g',m⟩:=W.to e;refine⟨ag,g',bg Z3 Z3 (YL _ _ _ _ _ ?_),m⟩;by_cases hk:d.aW=3
      ·have ho:¬w.1.bU.op.aW=4:=λh=>L ⟨hk,h⟩;rw[hk]at D;simp only[Int.reduceEq,xq_,Ol,A,j,o,u,Bool.not_true,y,G,u4,c1,lp,d1,u5,z,D,lo,ho]
      ·simp only[Int.reduceEq,xq_,Ol,A,j,o,u,Bool.not_true,y,G,u4,c1,lp,d1,u5,z,D,hk]
    ·simp only[Ys h0];by_cases h6:d.step=6/\d.aW≠3
     ·simp only[YY h6];rw[h6.1]at z;have hk:=h6.2;simp only[ne_eq]at hk;have⟨ab,ai,e1,M⟩:=RP e hc P C2 (show w.2.2.length<1000000 by omega);have⟨R,al,e2,T⟩:=Vm M hc (fok hc F1) aa;have⟨g',m⟩:=W.to T;refine⟨R,g',bg Z3 Z3 (YL _ _ _ _ _ ?_),m⟩;simp only[Int.reduceEq,xq_,Ol,IZ,A,j,o,u,Bool.not_true,y,G,u4,c1,lp,d1,u5,z,D,hk,Bool.not_false,e1,e2]
     ·simp only[Ys h6];have⟨R,al,e2,T⟩:=Vm e hc (fok hc F1) aa;have⟨g',m⟩:=W.to T;refine⟨R,g',bg Z3 Z3 (YL _ _ _ _ _ ?_),m⟩;by_cases X:d.step=6
      ·have hk:d.aW=3:=zar λh=>h6 ⟨X,h⟩;rw[X]at z;rw[hk]at D;simp only[Int.reduceEq,xq_,Ol,IZ,A,j,o,u,Bool.not_true,y,G,u4,c1,lp,d1,u5,z,D,Bool.not_true,e2]
      ·simp only[xq_,Ol,IZ,A,j,o,u,Bool.not_true,y,G,u4,c1,lp,d1,u5,z,h0,X,e2]
def af2(W:Walk b H g0 S c me k K g ls w)(hc:c.ok=Z0)(F:wY c w.2.1)(e:YE c me w.1)(X:0<=w.1.num/\w.1.num<1000000)(Q:w.2.2.length<999999)(v:w.1.aO.data.length<1000000000)(hw:∀ak,(w.1.home.bn.ws ak).length<1000000):
  ∃K' g',cl 49 [.ref (S.a 0) 0 0,.ref S.f 0 0,.ref S.t 0 0] K=ZC (I (w.1.step c me w.2.1 w.2.2).2,K')/\Walk b H g0 S c me k K' g' ls (w.1.step c me w.2.1 w.2.2).1:=by
 have Z:=hsz hc e hw;have C:=cok hc e.aJ (by have:=e.clk;have:=e.bU.vals;have:=e.bU.most;omega);unfold Node.step;have⟨K1,g1,y⟩:=Y9 W hc F e Q v;cases ht:w.2.1.take me ZV with
 |mk f' po=>
  rw[ht]at y;cases po with
  |some p=>
   have⟨h,z⟩:=y;refine⟨K1,g1,bg Z3 Z3 (YJ _ _ _ _ _ ?_),z⟩;simp only[xq_,UH,h]
  |none=>
   have⟨h,z⟩:=y;simp only;have⟨K2,g2,u⟩:=adk z hc F Z;by_cases R:w.1.home.ready≠[]/\w.2.1.roomOf me ZV≠0
   ·rw[YY R]at u ⊢;have⟨i,A⟩:=u;refine⟨K2,g2,bg Z3 Z3 (YJ _ _ _ _ _ ?_),A⟩;simp only[xq_,UH,h,i]
   ·rw[Ys R]at u ⊢;have⟨i,A⟩:=u;have⟨K3,g3,D⟩:=Vq A hc F C Z;cases hr:(if w.2.1.roomOf me ZV=0 then(w.2.1,Z1)else w.2.1.take me Z0)with
    |mk f2 E=>
     rw[hr]at D;cases E with
     |some p=>
      have⟨j,G⟩:=D;refine⟨K3,g3,bg Z3 Z3 (YJ _ _ _ _ _ ?_),G⟩;simp only[xq_,UH,h,i,j]
     |none=>
      have⟨j,G⟩:=D;simp only;have⟨L,M,d⟩:=adn G hc F e X Q;cases m:w.1.bU.cur with
      |none=>
       rw[m]at d;have⟨n,q⟩:=d;refine⟨L,M,bg Z3 Z3 (YJ _ _ _ _ _ ?_),q⟩;simp only[xq_,UH,h,i,j,n]
      |some o=>
       rw[m]at d;simp only at d ⊢;by_cases T:w.1.aO.step=0
       ·rw[YY T]at d ⊢;have⟨n,q⟩:=d;refine⟨L,M,bg Z3 Z3 (YJ _ _ _ _ _ ?_),q⟩;simp only[xq_,UH,h,i,j,n]
       ·rw[Ys T]at d ⊢;have⟨n,q⟩:=d;refine⟨L,M,bg Z3 Z3 (YJ _ _ _ _ _ ?_),q⟩;simp only[xq_,UH,h,i,j,n]
end
def af4 {H:ah}{r:Nat}{o:gG}(h:H.get r=o):H.put r o=H:=by
 subst h;unfold ah.put;have:(λx=>if x=r then H.get r else H.get x)=H.get:=by
  funext x
  split
  ·rename_i e;rw[e]
  ·rfl
 rw[this]
def alK {H:ah}{r:Nat}{o b:gG}:(H.put r o).put r b=H.put r b:=by
 unfold ah.put
 congr 1
 funext x
 simp only;split <;> rfl
def tq(bit mask:Int)(i:Nat)(l:Q By):Q By:=l.mapIdx λj c=>if j<i then c ^^^ vF bit mask j else c
def qV(bit mask:Int)(i:Nat)(l:Q By):(tq bit mask i l).length=l.length:=by simp[tq]
def Za(bit mask:Int)(l:Q By):tq bit mask 0 l=l:=by
 unfold tq
 apply List.ext_getElem?
 intro i;rw[List.getElem?_mapIdx];cases l[i]? <;> simp
def ado(bit mask:Int)(l:Q By):tq bit mask l.length l=qL bit mask l:=by
 unfold tq qL
 apply List.ext_getElem?
 intro i;rw[List.getElem?_mapIdx,List.getElem?_mapIdx];cases h:l[i]? with
 |none=>rfl
 |some c=>simp[(List.getElem?_eq_some_iff.1 h).1]
def RY(bit mask:Int){i:Nat}{l:Q By}{c:By}(h:l[i]?=ZC c):(tq bit mask i l)[i]?=ZC c:=by
 unfold tq;rw[List.getElem?_mapIdx,h];simp
def LV(bit mask:Int){i:Nat}{l:List By}{c:By}(h:l[i]?=some c):tq bit mask (i+1) l=(tq bit mask i l).set i (c ^^^ vF bit mask i):=by
 apply List.ext_getElem?
 intro j;have hi:=(List.getElem?_eq_some_iff.1 h).1;unfold tq;rw[List.getElem?_mapIdx,List.getElem?_set,List.getElem?_mapIdx,List.length_mapIdx];by_cases e:i=j
 ·subst e;rw[if_pos rfl,if_pos hi,h];simp
 ·rw[if_neg e];cases g:l[j]? with
  |none=>rfl
  |some d=>
   simp only[Option.map_some]
   congr 1
   by_cases b:j<i
   ·rw[if_pos b,if_pos V]
   ·rw[if_neg b,if_neg V]
def DI(bit mask:Int){i:Nat}{l:Q By}{c:By}(h:l[i]?=ZC c)(hm:vF bit mask i=0#8):tq bit mask (i+1) l=tq bit mask i l:=by
 rw[LV bit mask h,hm,zaI]
 apply List.ext_getElem?
 intro j;rw[List.getElem?_set];split
 ·rename_i e;subst e;split
  ·rw[RY bit mask h]
  ·rename_i b;rw[List.getElem?_eq_none V]
 ·rfl
def Zb {K0:ah}{r n:Nat}{l:List By}{bit mask:Int}(hb:qJ bit)(h0:0<=mask)(D:mask<=65535)(Q:l.length<1000)(R:r<K0.next)(g:K0.base<=r):
  ∀(k i:Nat),i+k=l.length->Fp cl0 [I bit,.s (.int .u16 mask),.sl r 0 0 1 l.length l.length false,I l.length,I i] (K0.put r (.blk 0 (5+gW) ((tq bit mask i l).map Y)))
   =some (.sl r 0 0 1 l.length l.length false,K0.put r (.blk 0 (5+gW) ((tq bit mask l.length l).map Y))):=by
 obtain⟨T,W⟩:=hb;intro k
 induction k with
 |zero=>
  intro i hi;have D:¬((i:Int)<l.length):=V
  obtain rfl:i=l.length:=V
  rw[WL];simp only[Int.reduceNeg,xq_,D]
 |succ k X=>
  intro i hi;have o:(i:Int)<l.length:=V
  have p:(i:Int)+1=((i+1:Nat):Int):=V
  have q:=wrap_i64 (a:=((i+1:Nat):Int)) V V;obtain⟨c,hc⟩:∃c,l[i]?=some c:=⟨_,List.getElem?_eq_getElem V⟩
  have u:=wrap_i64 (a:=8*(i:Int)) V V;have b:=X (i+1) V;rw[WL];by_cases aa:8*(i:Int)-bit<9223372036854775808
  ·have w:=wrap_i64 (a:=8*(i:Int)-bit) V V;by_cases h:8*(i:Int)-bit<=-8
   ·have hm:vF bit mask i=0#8:=by unfold vF;rw[if_pos (.inl h)]
    rw[DI bit mask hc hm]at b;simp only[Int.reduceNeg,xq_,o,iP,u,lF,w,h,x9,bM,p,q,b]
   by_cases E:16<=8*(i:Int)-bit
   ·have hm:vF bit mask i=0#8:=by unfold vF;rw[if_pos (.inr E)]
    rw[DI bit mask hc hm]at b;simp only[Int.reduceNeg,xq_,o,iP,u,lF,w,h,E,x9,bM,p,q,b]
   have hd:∃d:Int,8*(i:Int)-bit=d/\-8<d/\d<16:=⟨_,rfl,V,V⟩
   obtain⟨d,hd,ab,ad⟩:=hd;have z:=wrap_i64 (a:=d+8) V V;have A:=wrap_i64 (a:=d) V V;have ds:¬(d<=-8):=V
   have db:¬(16<=d):=V
   obtain⟨m,rfl⟩:∃m:Nat,mask=m:=⟨mask.toNat,V⟩
   have ae:AV.s (.int .u16 (m:Int))=U16 (BitVec.ofNat 16 m):=by
    have hv:(((BitVec.ofNat 16 m).toNat:Nat):Int)=m:=by rw[BitVec.toNat_ofNat,Nat.mod_eq_of_lt V]
    show AV.s (.int .u16 (m:Int))=AV.s (.int .u16 (((BitVec.ofNat 16 m).toNat:Nat):Int));rw[hv]
   let K:ah:=K0.put r (.blk 0 (5+gW) ((tq bit m i l).map Y));have j:dL K (.sl r 0 0 1 l.length l.length false) (tq bit m i l):=by
    refine⟨⟨O,rfl,(qV ..).symm,⟨R,Nat.le_refl _⟩,_,_,uq,?_,?_⟩,by rw[qV];exact Q⟩
    ·rw[List.length_map,qV];omega
    ·rw[qV,Nat.mul_one,List.drop_zero,List.take_of_length_le (by rw[List.length_map,qV];exact Nat.le_refl _)]
   have F:ix 1 (.sl r 0 0 1 l.length l.length false) (I i) K=some (.ref r 0 i,K):=by
    have:=j.ix (i:=i) (by rw[qV];omega)
    simpa [eH]using this
   have G:ld (.ref r 0 i) K=some (Y c,K):=by
    have:=j.ld (RY bit m hc)
    simpa [eH]using this
   have L:cv 42 260 (.s (.int .u16 (m:Int))) K=some (U32 (BitVec.ofNat 32 m),K):=by
    refine(aaE (k:=.u16) (n:=(m:Int)) (H:=K)).trans ?_;rw[AZ (k:=.u32) rfl];rfl
   let y:BitVec 32:=BitVec.ofNat 32 m <<< 8;let e:BitVec 32:=y <<< (d+8).toNat;have e2:bi .shl 260 (U32 (BitVec.ofNat 32 m)) (.s (.int .u64 8))=some (U32 y):=aa3 (k:=.u32) rfl _ 8 J J;have e3:bi .shl 260 (U32 y) (I (d+8))=some (U32 e):=aa3 (k:=.u32) rfl y (d+8) V (show d+8<=(32:Int) by omega);have e4:bi .shr 260 (U32 e) (.s (.int .u64 24))=some (U32 (e >>> 24)):=akj (k:=.u32) e 24 J J;have C:cv 260 5 (U32 (e >>> 24)) K=some (Y ((e >>> 24).setWidth 8),K):=
    (aeQ (k:=.u32) (n:=((e >>> 24).toNat:Int)) (H:=K)).trans (congrArg (λv=>some (v,K)) (anw (k:=.u32) (k':=.u8) rfl _))
   have hm:(e >>> 24).setWidth 8=vF bit m i:=by
    unfold vF;rw[if_neg (by rw[hd];omega),hd];rfl
   rw[hm]at C;have e6:bi .xor 5 (Y c) (Y (vF bit m i))=some (Y (c ^^^ vF bit m i)):=aki (k:=.u8) rfl _ _;have M:st 1 (.ref r 0 i) (Y (c ^^^ vF bit m i)) K=some (aX,K0.put r (.blk 0 (5+gW) ((tq bit m (i+1) l).map Y))):=by
    refine(Qu (H:=K) (r:=r) (gg:=0) (off:=i) (ty:=5+gW) (xs:=(tq bit m i l).map Y) (v:=Y (c ^^^ vF bit m i)) dU uq g (by rw[List.length_map,qV];omega)).trans ?_;show some (aX,(K0.put r _).put r _)=_;rw[alK,LV bit m hc,List.map_set]
   simp only[K]at F G L C M;simp only[Int.reduceNeg,xq_,o,iP,u,lF,hd,A,ds,db,F,G,L,e2,e3,e4,C,e6,M,z,x9,bM,p,q,b]
  ·have w:IntKind.i64.wrap (8*(i:Int)-bit)=8*(i:Int)-bit-18446744073709551616:=by
    simp only[IntKind.wrap,IntKind.signed,IntKind.bits];simp;omega
   have h:8*(i:Int)-bit-18446744073709551616<=-8:=V
   have hm:vF bit mask i=0#8:=by unfold vF;rw[if_pos (.inr V)]
   rw[DI bit mask hc hm]at b;simp only[Int.reduceNeg,xq_,o,iP,u,lF,w,h,x9,bM,p,q,b]
def arh {H:ah}(hb:H.base<=H.next){x:AV}{l:Q By}(hx:dL H x l)(hl:l≠[]){bit mask:Int}(hbit:qJ bit)(h0:0<=mask)(h1:mask<=65535):
  ∃r H',cl0 130 [x,I bit,.s (.int .u16 mask)] H=ZC (.sl r 0 0 1 l.length l.length ZV,H')/\Gro H H'/\dL H' (.sl r 0 0 1 l.length l.length ZV) (qL bit mask l)/\H'.base<=H'.next:=by
 let H1:=H.new (.blk 0 5 []);let K0:=H1.new (.blk 0 (5+gW) (l.map Y));have e1:=ab8 hx hl;have n1:H1.next=H.next+1:=eu
 have n2:K0.next=H.next+1+1:=by simp only[K0,eu,n1]
 have g:Gro H K0:=(Gro.new H 0 _ _).trans (Gro.new H1 0 _ _);have at_:K0.get (H.next+1)=.blk 0 (5+gW) (l.map Y):=aK n1.symm;have ps:K0.put (H.next+1) (.blk 0 (5+gW) ((tq bit mask 0 l).map Y))=K0:=by rw[Za];exact af4 at_
 have lp:=Zb (K0:=K0) (r:=H.next+1) (n:=0) (l:=l) hbit h0 h1 hx.small (by omega) (by rw[g.base];omega) l.length 0 (by omega);rw[ps]at lp;have ln:lnS (.sl (H.next+1) 0 0 1 l.length l.length ZV) K0=ZC (I l.length,K0):=rfl;refine⟨H.next+1,K0.put (H.next+1) (.blk 0 (5+gW) ((tq bit mask l.length l).map Y)),iT (aoP _ _ _ _ _ ?_),g.put (by omega),?_,by show K0.base<=K0.next;rw[g.base];omega⟩
 ·simp only[xq_,aia,e1];exact lp
 ·rw[ado];refine⟨⟨by simp,W,(jl ..).symm,⟨by show H.next+1<K0.next;omega,Nat.le_refl _⟩,_,_,uq,?_,?_⟩,by rw[jl];exact hx.small⟩
  ·rw[List.length_map,jl];omega
  ·rw[jl,Nat.mul_one,List.drop_zero,List.take_of_length_le (by rw[List.length_map,jl];exact Nat.le_refl _)]
def aup(c:By):yOf (Y c)=ZC c:=by
 have h:=c.isLt;show(if(0:Int)<=(c.toNat:Int)/\(c.toNat:Int)<256 then ZC (BitVec.ofInt 8 (c.toNat:Int))else Z1)=ZC c;rw[y ⟨V,V⟩,qM]
def ajx:∀l:Q By,(l.map Y).mapM yOf=ZC l
 |[]=>rfl
 |c::l=>by rw[List.map_cons,List.mapM_cons,aup,ajx l];rfl
def Zc {H:ah}{r n:Nat}{l:Q By}(e:l.length=n)(h:dL H (.sl r 0 0 1 n n ZV) l)(h0:0<n)(g:n<=800):IJ (.sl r 0 0 1 n n ZV) H=ZC l:=by
 subst e;have⟨⟨j,_,_,⟨k,_⟩,m,all,i,b,d⟩,o⟩:=h;rw[Nat.mul_one]at d b;simp only[IJ,i];rw[y ⟨zac,zac,b,h0,g⟩,<-d];exact ajx l
def RZ(p:Pkt):(sZ p).length=12+8*p.data.length:=by
 rw[rV];rfl
def adp {H:ah}{r:Nat}{p:Pkt}(g:p.fit){bit mask:Int}(h0:0<=mask)(i:mask<=65535){n:Nat}(o:n=(sZ p).length)(h:dL H (.sl r 0 0 1 n n ZV) (qL bit mask (sZ p))):
  cl 129 [.sl r 0 0 1 n n ZV] H=ZC (if bn p.bytes bit mask=Z0 then .tup [.agg Pkt.zero.av,I 2]else .tup [.agg p.av,I 0],H):=by
 refine zq (p:=Dj) W ?_;have ok:=g.ok;simp only[Pkt.ok,Bool.and_eq_true,zab]at ok;have j:=RZ p;unfold Dj;simp only[Zc (by rw[jl,o]) h V V];by_cases e:bn p.bytes bit mask=Z0
 ·rw[YY e];have d:∀y,qL bit mask (sZ p)≠jS y:=λy=>UA h0 i (by
   have:(jS (fH p)).length=p.bytes:=rV p;rw[this];exact e)
  rw[dif_neg (λ⟨q,_,u⟩=>d _ u.symm),YY d]
 ·rw[F e];have k:qL bit mask (sZ p)=sZ p:=YH h0 i (by rw[rV];simpa using e);have b:∃q:Pkt,q.fit/\sZ q=qL bit mask (sZ p):=⟨p,g,k.symm⟩
  rw[dif_pos b];have m:=zaC b;have:Classical.choose b=p:=afJ m.1 g (m.2.trans k);rw[this]
def XQ(p:Pkt)(n:Int):Frz 9 (.tup [.agg p.av,I n]):=wS λx b=>by
 simp only[List.mem_cons,List.not_mem_nil,zan]at b;rcases b with rfl|rfl
 ·exact mD λx b=>by
   simp only[Pkt.av,List.mem_cons,List.not_mem_nil,zan]at b;rcases b with rfl|rfl|rfl|rfl|rfl|rfl|rfl|rfl|rfl <;> first|exact fC|exact sV
 ·exact fC
def alL(H:ah){p:Pkt}(hp:p.fit){bit mask:Int}(hbit:qJ bit)(h0:0<=mask)(h1:mask<=65535):
  cl 90 [.agg p.av,I bit,.s (.int .u16 mask)] H=ZC (if bn p.bytes bit mask=Z0 then .tup [.agg Pkt.zero.av,I 2]else .tup [.agg p.av,I 0],H):=by
 have ax:p.av=p.avx (dat p.data):=rfl;let o1:gG:=.blk 0 81 p.av;let o2:gG:=.blk 0 81 zPk;let K:=(H.guard.new o1).new o2;have hlen:=RZ p;have hK:K.base<=K.next:=by simp only[K,iO,eu];exact(by omega:H.next<=H.next+1+1)
 have⟨y,K1,e1,g1,b1,hb1⟩:=aqO hK p (qc K p.data) hp.ok;rw[<-ax]at e1;have e1':cl 128 [.agg p.av] K=ZC (.tup [y,I 0],K1):=zq (p:=cl0 128) W e1;have⟨r,K2,e2,g2,b2,hb2⟩:=arh hb1 b1 (bit:=bit) (mask:=mask) (λe=>by rw[e]at hlen;simp at hlen;omega) hbit h0 h1;have e2':cl 130 [y,I bit,.s (.int .u16 mask)] K1=ZC (_,K2):=zq (p:=cl0 130) W e2;have e3:=adp hp h0 h1 W b2;have hR:K2.get (H.next+1)=o2:=by
  rw[g2.same _ (Nat.lt_of_lt_of_le (show H.next+1<K.next by simp only[K,eu];exact Nat.lt_succ_self _) g1.next),g1.same _ (by simp only[K,eu];exact Nat.lt_succ_self _)];exact aK W
 have hbase:K2.base<=H.next+1:=by
  rw[g2.base,g1.base];exact Nat.le_succ _
 have key:∀q:Pkt,st 9 (.ref (H.next+1) 0 0) (.agg q.av) K2=ZC (aX,K2.put (H.next+1) (.blk 0 81 q.av))/\lda 9 (.ref (H.next+1) 0 0) (K2.put (H.next+1) (.blk 0 81 q.av))=ZC (.agg q.av,K2.put (H.next+1) (.blk 0 81 q.av)):=λq=>by
  refine⟨?_,(iE (off:=0) (n:=9) uq (Nat.le_refl _)).trans W⟩;rw[Ws (aV _) (show q.av.length=9 from W) hR hbase (by decide)];rfl
 have l1:lda 9 (.ref H.next 0 0) K=ZC (.agg p.av,K):=by
  have:K.get H.next=.blk 0 81 p.av:=by
   simp only[K];rw[aZ (by rw[eu];exact Nat.lt_succ_self _)];exact aK W
  exact(iE (off:=0) (n:=9) this (Nat.le_refl _)).trans W
 by_cases ht:bn p.bytes bit mask=Z0
 ·rw[YY ht]at e3 ⊢;refine bD W W (aom _ _ _ _ _) ?_ (XQ _ _);have⟨k1,k2⟩:=key .zero;simp only[K,o1,o2]at e1' l1;have n1:H.guard.next=H.next:=rfl
  simp only[Nat.reduceLT,xq_,hq_,akL,aC,l1,e1',e2',e3,k1,k2,Bool.not_true]
 ·rw[F ht]at e3 ⊢;refine bD W W (aom _ _ _ _ _) ?_ (XQ _ _);have⟨k1,k2⟩:=key p;simp only[K,o1,o2]at e1' l1;have n1:H.guard.next=H.next:=rfl
  simp only[Nat.reduceLT,xq_,hq_,akL,aC,l1,e1',e2',e3,k1,k2,Bool.not_true]
def XR:∀(l:Q Port) (i:Nat) (k:Nat) {j:Nat} {k':Int},xG (l.flatMap λp=>[p.rq,p.an]) (2*i) (k:Int)=ZC (j,k')->Au l i k=ZC (j / 2,u (j % 2=0),k'.toNat)
 |[],i,k,j,k',h=>by cases h
 |p::l,i,k,j,k',h=>by
  simp only[List.flatMap_cons,List.cons_append,List.nil_append,xG]at h;simp only[Au];by_cases b:k<p.rq.length
  ·rw[y ⟨V,V⟩]at h;cases h;rw[y b,show 2*i / 2=i by omega,show 2*i % 2=0 by omega];rfl
  ·rw[F (λe=>b V)]at h;rw[F b];by_cases d:k<p.rq.length+p.an.length
   ·rw[y ⟨V,V⟩]at h;cases h;rw[y d,show(2*i+1) / 2=i by omega,show(2*i+1) % 2=1 by omega];simp only[Option.some.injEq,zaa,zaD];exact⟨O,V⟩
   ·rw[F (λe=>d V)]at h;rw[F d];rw[show(k:Int)-p.rq.length-p.an.length=((k-(p.rq.length+p.an.length):Nat):Int) by omega,show 2*i+1+1=2*(i+1) by omega]at h;exact XR l (i+1) _ h
def avT {b:Nat}{K:ah}{d:bG}{r:Nat}{ys:Q AV}(k:Good b K d)(hk:K.base<=b)(m:d r=ZC (ys.map Cell.av))(g:ys.length=2){y:Q AV}(h:y.length=2)(ha:y.all AV.aU=Z0):
  ∃K',st 2 (.ref r 0 0) (.agg y) K=ZC (aX,K')/\Good b K' (upd d r (y.map Cell.av))/\Step b K K':=by
 have⟨K',o,j,p,q⟩:=k.stores hk m (i:=0) (n:=2) (vs:=y) (by simp[g]) h ha;have e:rO (ys.map Cell.av) 0 y=y.map Cell.av:=by
  unfold rO;rw[List.drop_of_length_le (by simp[h,g])];simp
 rw[e]at j;exact⟨K',o,j,p⟩
def adq {fab:Fab}{d:Nat}{req:Bool}{l:Q Pkt}:(fab.put d ((fab.port d).lG req l)).jy=fab.jy:=by
 unfold Fab.jy Fab.put;rw[Int.toNat_natCast];have key:∀(ls:Q Port) (d:Nat),((ls.set d ((ls.getD d .zero).lG req l)).flatMap λp=>[p.rq,p.an])=ls.flatMap λp=>[p.rq,p.an]:=by
  intro ls
  induction ls with
  |nil=>intro d;rfl
  |cons p ls b=>
   intro d;cases d with
   |zero=>cases req <;> simp[Port.lG]
   |succ d=>simpa using b d
 have:=key fab.l d;unfold Fab.port;rw[Int.toNat_natCast];exact this
def XT:∀(ls:Q Port) (j:Nat) {l:Q Pkt},(ls.flatMap λp=>[p.rq,p.an])[j]?=ZC l->(ls.getD (j / 2) .zero).sort (u (j % 2=0))=l
 |[],j,l,h=>by simp at h
 |p::ls,0,l,h=>by simpa [Port.sort]using h
 |p::ls,1,l,h=>by simpa [Port.sort]using h
 |p::ls,j+2,l,h=>by
  have b:(ls.flatMap λp=>[p.rq,p.an])[j]?=ZC l:=by simpa using h
  have:=XT ls j b;rw[show(j+2) / 2=j / 2+1 by omega,show(j+2) % 2=j % 2 by omega]
  simpa using this
section
variable {b:Nat}{H:ah}{g:bG}{f:Nat}{P:Nat->Nat->Nat}{c:Cfg}{fab:Fab}
def Zd(G:Good b H g)(hb:H.base<=b)(F:iG g f P c fab)(J:U1 P fab.l.length)(K:FOk c fab)(h0:fab.l.length≠0)(ag:∀p∈fab.all,p.fit/\fab.is p.dst=true){at_ bit mask:Int}(ai:qJ at_)(al:qJ bit)(m0:0<=mask)(m1:mask<=65535):
  ∃H' g',cl 48 [.ref f 0 0,I at_,I bit,.s (.int .u16 mask)] H=some (I (fab.deliver at_ bit mask).2,H')/\Good b H' g'/\iG g' f P c (fab.deliver at_ bit mask).1/\Off (Pz P fab.l.length) g g'/\Step b H H':=by
 have a8:H.base<=H.next:=Nat.le_trans hb G.1
 have ab:∀l∈fab.jy,l.length<1000/\∀p∈l,p.data.length<1000000000:=by
  intro l W;unfold Fab.jy at W;obtain⟨p,C,W⟩:=List.mem_flatMap.1 W;simp only[List.mem_cons,List.not_mem_nil,or_false]at W;rcases W with rfl|rfl
  ·exact⟨K.small C (s:=0) ZS,K.dat p C 0 ZS⟩
  ·exact⟨K.small C (s:=2) ZS,K.dat p C 2 ZS⟩
 have e1:=acJ G F K.len h0 ab at_ ai;have E:g H.next=none:=G.isNone (Nat.le_refl _)
 have G1:=G.newObj (ty:=81) (xs:=zP9) rfl;obtain⟨K1,s1,l1,G2,S2⟩:=alx G1 (by rw[iO];exact hb) aQ rfl (y:=((fab.pkt at_).getD .zero).av) (cO _) (aV _);rw[pz]at G2;have X:=(Step.new (.blk 0 81 zP9) G.1).trans S2;cases C:fab.pkt at_ with
 |none=>
  have hd:fab.deliver at_ bit mask=(fab,3):=by
   unfold Fab.deliver;unfold Fab.pkt at C;split at C
   ·rename_i h;rw[if_pos h]
   ·rename_i h;rw[if_neg h,C]
  rw[hd];rw[C]at e1 s1;refine⟨K1,g,bg rfl rfl (ae8 _ _ _ _ _ _ ?_),G2.sub ((uF.refl g).more E _),F,Off.refl _ _,X⟩;simp only[iJ,Option.getD_none,Option.isSome_none]at e1 s1;simp only[xq_,abe,e1,s1,Bool.not_false]
 |some p=>
  rw[C]at e1 s1 l1 G2;simp only[iJ,Option.getD_some,Option.isSome_some]at e1 s1 l1 G2;have am:¬at_<0:=by
   intro h;unfold Fab.pkt at C;rw[if_pos h]at C;cases C
  have L:fab.all[at_.toNat]?=some p:=by
   unfold Fab.pkt at C
   rwa [if_neg am]at C
  obtain⟨pf,pd⟩:=ag p (List.mem_of_getElem? L);have e2:=alL K1 pf al m0 m1;have hd:fab.deliver at_ bit mask=if bn p.bytes bit mask=true then(fab,2)else
    if fab.room (wB p.aW)<=((fab.port p.dst).uG (wB p.aW)).length then(fab,5)else
    ((fab.put p.dst ((fab.port p.dst).lG (wB p.aW) ((fab.port p.dst).uG (wB p.aW)++[p]))).remove at_.toNat,0):=by
   unfold Fab.deliver;rw[if_neg am,L]
  have ao:K1.base<=b:=by rw[X.base];exact hb
  by_cases ht:bn p.bytes bit mask=true
  ·rw[if_pos ht]at e2 hd;rw[hd];obtain⟨K2,s3,l3,G3,S3⟩:=alx G2 ao aQ (cO _) (y:=Pkt.zero.av) (cO _) (aV _);rw[pz]at G3;refine⟨K2,g,bg rfl rfl (ae8 _ _ _ _ _ _ ?_),G3.sub ((uF.refl g).more E _),F,Off.refl _ _,X.trans S3⟩;simp only[Int.reduceEq,xq_,abe,e1,s1,Bool.not_true,l1,e2,s3,Bool.not_false]
  rw[if_neg ht]at e2 hd;rw[hd];obtain⟨K2,s3,l3,G3,S3⟩:=alx G2 ao aQ (cO _) (y:=p.av) (cO _) (aV _);rw[pz]at G3;have ap:=X.trans S3;have F3:=F.sub ((uF.refl g).more E (p.av.map Cell.av));obtain⟨d,az,z⟩:=BG pd;obtain⟨x,r,gg,o,h1,h2,h3⟩:=BH G3 F3 z;have D:ld (.ref H.next 0 2) K2=some (I p.dst,K2):=G3.load aQ (i:=2) rfl;have M:ld (.ref H.next 0 0) K2=some (I p.aW,K2):=G3.load aQ (i:=0) rfl;let req:=wB p.aW;have rq:=LH K2.guard p.aW;obtain⟨K3,t1,t2⟩:=Gm K2.guard (Nat.le_refl _) (P d) req;obtain⟨K3,t1,t2⟩:=drawn t1 t2;have G4:=G3.ext t2.next t2.same
  have aD:K3.base<=b:=by rw[t2.base,ap.base];exact hb
  have aE:Step b K2 K3:=⟨t2.base,t2.next,λr hr=>t2.same r (Nat.lt_of_lt_of_le hr G3.1)⟩
  have l9:lda 9 (.ref H.next 0 0) K3=some (.agg p.av,K3):=G4.loads aQ (i:=0) (n:=9) (xs:=p.av) rfl rfl ZS;have aq:=gZ (F3.port z) (sH req);have hR:=LQ K.ok (iIx req);obtain⟨K4,q1,q2,q3⟩:=afg G4 aD aq hR.1 hR.2 (K.small (Fab.vJ z) (sH req)) p (by have:=pf.ok;simp only[Pkt.ok,Bool.and_eq_true,decide_eq_true_eq]at this;omega);rw[Jk]at q1 q2;have Q:PD c (iIx req)=fab.room req:=by
   have aL:fab.inn=c.inn:=F.2.2.2;unfold Fab.room;cases req <;> simp[iIx,PD,aL]
  have ar:=K.box _ (Fab.vJ z) _ (sH req);rw[Jk]at ar;have f1:(afQ (P d) req)[1]?=some (.ref (P d (iIx req)) 0 0):=rfl;have ad:=(ap.trans aE).trans q3;have aM:K4.base<=b:=by rw[ad.base];exact hb
  have R:p.dst=(d:Int):=az;have a9:P d (iIx req)≠H.next:=λe=>F.Vk G ⟨d,iIx req,z,sH req,e.symm⟩
  by_cases u:PD c (iIx req)=(((fab.port d).uG req).length:Int)
  ·rw[if_pos u]at q1 q2;rw[if_pos (show fab.room (wB p.aW)<=((fab.port p.dst).uG (wB p.aW)).length by rw[R];show fab.room req<=_;rw[<-Q];exact Int.le_of_eq u)];rw[fP (by rw[aq,Jk])]at q2;refine⟨K4,g,bg rfl rfl (ae8 _ _ _ _ _ _ ?_),q2.sub ((uF.refl g).more E _),F,Off.refl _ _,ad⟩;rw[R]at D;simp only[req]at rq t1 f1 q1;simp only[Int.reduceEq,xq_,abe,e1,s1,Bool.not_true,l1,e2,s3,h1,D,h2,h3,M,rq,t1,f1,l9,q1,Bool.not_false]
  ·rw[if_neg u]at q1 q2;rw[if_neg (show¬fab.room (wB p.aW)<=((fab.port p.dst).uG (wB p.aW)).length by rw[R];show¬fab.room req<=_;rw[<-Q];exact λh=>u (Int.le_antisymm h ar))];have F4:=F3.fill J z (sH req) (p':=(fab.port d).lG req ((fab.port d).uG req++[p])) (l:=(fab.port d).uG req++[p]) (Dx _ _ _);rw[R];show∃H' g',_/\_/\iG g' f P c ((fab.put d ((fab.port d).lG req ((fab.port d).uG req++[p]))).remove at_.toNat)/\_/\_;generalize ae:fab.put d ((fab.port d).lG req ((fab.port d).uG req++[p]))=O6 at*;have T:O6.jy=fab.jy:=by rw[<-ae];exact adq
   have w:O6.l.length=fab.l.length:=by rw[<-ae];simp[Fab.put]
   have e5:=acI q2 F4 (by rw[w];exact K.len) (by rw[w];exact h0) (λl W=>(ab l (by rw[<-T];exact W)).1) at_ ai;rw[T]at e5;cases hf:xG fab.jy 0 at_ with
   |none=>
    exfalso;have:=Dt hf;rw[show fab.jy.flatten=fab.all from Du fab.l]at this;have h2:=(List.getElem?_eq_some_iff.1 L).1;omega
   |some jk=>
    obtain⟨j,k⟩:=jk;rw[hf]at e5;obtain⟨_,l,z2,z3,z4,z5,z6⟩:=uo hf;rw[Nat.sub_zero]at z2;have hj:j<2*fab.l.length:=by
     have:=(List.getElem?_eq_some_iff.1 z2).1
     rwa [Fab.jy,qP]at this
    have af:j / 2<O6.l.length:=by rw[w];omega
    obtain⟨kn,rfl⟩:∃kn:Nat,k=kn:=⟨k.toNat,V⟩
    have aR:Au O6.l 0 at_.toNat=some (j / 2,decide (j % 2=0),kn):=by
     have hh:=XR O6.l 0 at_.toNat (j:=j) (k':=kn) (by
      show xG O6.jy 0 _=_;rw[T,Int.toNat_of_nonneg V];exact hf)
     simpa using hh
    have a0:xH P (some (j,(kn:Int)))=.tup [.agg (kU P j),I kn,B true]:=rfl;rw[a0]at e5;let m:Bool:=decide (j % 2=0);have hP:(if j % 2=0 then 0 else 2)=oIx m:=by
     by_cases h:j % 2=0 <;> simp[m,h,oIx]
    have aa:=acH F4 (j:=j) (l:=l) (by rw[T];exact z2);rw[hP]at aa;have ba:=gZ (F4.port af) (uy m);have W:(O6.port (j / 2:Nat)).sort m=l:=by
     have:=XT O6.l j (show O6.jy[j]?=some l by rw[T];exact z2);unfold Fab.port;rw[Int.toNat_natCast];exact this
    have a1:kn<l.length:=V
    obtain⟨a2,a3⟩:=ab l (List.mem_of_getElem? z2);have n4:(upd (upd g H.next (p.av.map Cell.av)) (P d (iIx req)) (nP ((fab.port d).uG req++[p]) (PD c (iIx req)))) K4.next=none:=q2.isNone (Nat.le_refl _)
    have G5:=q2.newObj (ty:=121) (xs:=[zP,zP]) rfl;obtain⟨K5,u1,G6,S6⟩:=avT G5 (by rw[iO];exact aM) aQ rfl (y:=kU P j) rfl rfl;rw[pz]at G6;have u2:ld (.ref K4.next 0 0) K5=some (.ref (P (j / 2) (oIx m)) 0 0,K5):=by
     refine G6.load aQ (i:=0) ?_;rw[<-hP];rfl
    have aw:=(ad.trans (Step.new _ q2.1)).trans S6;have a4:K5.base<=b:=by rw[aw.base];exact hb
    have a5:P (j / 2) (oIx m)≠K4.next:=λe=>by rw[e,n4]at aa;cases aa
    obtain⟨v,K6,y1,G7,S7⟩:=Y1 G6 a4 (by rw[bF a5];exact aa) a2 a3 kn a1;have ax:U1 P O6.l.length:=by rw[w];exact J
    have F7:=F4.fill ax af (uy m) (p':=(O6.port (j / 2:Nat)).drop m kn) (l:=l.eraseIdx kn) (by
     intro t ht;have:=zT (O6.port (j / 2:Nat)) m (l.eraseIdx kn) t ht;unfold Port.drop;rw[W];exact this)
    have a6:O6.remove at_.toNat=O6.put (j / 2:Nat) ((O6.port (j / 2:Nat)).drop m kn):=by
     unfold Fab.remove;rw[aR]
    rw[a6];rw[sG]at F7;let g':=upd (upd g (P d (iIx req)) (nP ((fab.port d).uG req++[p]) (PD c (iIx req)))) (P (j / 2) (oIx m)) (nP (l.eraseIdx kn) c.out);have bb:P (j / 2) (oIx m)≠H.next:=λe=>F.Vk G ⟨j / 2,oIx m,V,uy m,e.symm⟩
    have a7:uF g' (upd (upd (upd g H.next (p.av.map Cell.av)) (P d (iIx req)) (nP ((fab.port d).uG req++[p]) (PD c (iIx req)))) (P (j / 2) (oIx m)) (nP (l.eraseIdx kn) c.out)):=(((uF.refl g).more E _).both _ _).both _ _;have F8:iG g' f P c (O6.put (j / 2:Nat) ((O6.port (j / 2:Nat)).drop m kn)):=by
     have hJ:U1 P fab.l.length:=J;have A:=F.fill J z (sH req) (p':=(fab.port d).lG req ((fab.port d).uG req++[p])) (l:=(fab.port d).uG req++[p]) (Dx _ _ _);rw[ae]at A;have B:=A.fill ax af (uy m) (p':=(O6.port (j / 2:Nat)).drop m kn) (l:=l.eraseIdx kn) (by
      intro t ht;have:=zT (O6.port (j / 2:Nat)) m (l.eraseIdx kn) t ht;unfold Port.drop;rw[W];exact this)
     rw[sG]at B;exact B
    refine⟨K6,g',bg rfl rfl (ae8 _ _ _ _ _ _ ?_),G7.sub λq cs hq=>?_,F8,(Off.upd ⟨d,iIx req,z,sH req,rfl⟩).trans (Off.upd ⟨j / 2,oIx m,V,uy m,rfl⟩),aw.trans S7⟩
    ·rw[R]at D;simp only[req]at rq t1 f1 q1;simp only[xq_,abe,e1,s1,Bool.not_true,l1,e2,s3,h1,D,h2,h3,M,rq,t1,f1,l9,q1,e5,u1,u2,y1]
    ·have:=a7 q cs hq;by_cases e:q=P (j / 2) (oIx m)
     ·subst e;rw[aQ]at this ⊢;exact this
     ·rw[bF e]at this ⊢;have h4:q≠K4.next:=λe'=>by rw[e',n4]at this;cases this
      rw[bF h4];exact this
end
def Tq.ask {t:Turns}(h:Tq t)(ak who id:Int):Tq (t.ask ak who id).1:=by
 unfold Turns.ask;split
 ·exact h
 split
 ·refine⟨h.ok,h.oge,xZ h.wk _ _,λe b w hw=>?_⟩;rcases rQ b with rfl|b
  ·rcases List.mem_append.1 hw with hw|hw
   ·unfold Turns.ws at hw;cases ha:jw t.wait ak with
    |none=>rw[ha]at hw;cases hw
    |some ws=>rw[ha]at hw;exact h.wge _ (rP ha) w hw
   ·simp only[List.mem_singleton]at hw;subst hw;simp only;omega
  ·exact h.wge e b w hw
 ·refine⟨xZ h.ok _ _,λe b=>?_,h.wk,h.wge⟩;rcases rQ b with rfl|b
  ·simp only;omega
  ·exact h.oge e b
def Tq.release {t:Turns}(h:Tq t)(ak who:Int):Tq (t.release ak who).1:=by
 unfold Turns.release;split
 ·refine⟨?_,λe b=>h.oge e (QG b),h.wk,h.wge⟩;show((Aq t.iI ak).map (·.1)).Nodup;rw[KW];exact h.ok.erase _
 ·exact h
def Tq.next {t:Turns}(h:Tq t)(ak:Int):Tq (t.next ak).1:=by
 unfold Turns.next
 split
 ·exact h
 split
 ·exact h
 ·rename_i w ws hw;have d:∀x∈w::ws,0<=x.1:=by
   unfold Turns.ws at hw;cases e:jw t.wait ak with
   |none=>rw[e]at hw;cases hw
   |some l=>
    rw[e]at hw;rw[show l=w::ws from hw]at e;exact h.wge _ (rP e)
  refine⟨xZ h.ok _ _,λe b=>?_,xZ h.wk _ _,λe b x g=>?_⟩
  ·rcases rQ b with rfl|b
   ·exact d w O
   ·exact h.oge e b
  ·rcases rQ b with rfl|b
   ·exact d x (List.mem_cons_of_mem _ g)
   ·exact h.wge e b x g
def yO(c:Cfg)(me:Int)(h:Home):Prop:=∀ak,wX c me ak=Z0->∃row,jw h.dS ak=ZC row
def af5 {c:Cfg}{dS:Rows}{ak state head:Int}{data:Q Int}{m:Int}(h:∃row,jw dS m=ZC row):∃row,jw (jr c dS ak state head data).1 m=ZC row:=by
 unfold jr;cases jw dS ak with
 |none=>exact h
 |some r=>
  simp only;split
  ·exact h
  split
  ·exact h
  ·rw[jF];split
   ·exact⟨_,W⟩
   ·exact h
section
variable {c:Cfg}{me:Int}{h:Home}
def Ze(hc:c.ok=Z0)(I:akd c me h)(R:yO c me h)(p:Pkt):akd c me (h.handle c me p).1/\yO c me (h.handle c me p).1:=by
 unfold Home.handle;split
 ·exact⟨I,R⟩
 rename_i d;have b:0<=p.ak:=by
  simp only[Bool.or_eq_true,Bool.not_eq_true',not_or,Bool.not_eq_false,Bool.and_eq_true]at d;have:=d.1.1.1;simp only[Pkt.ok,Bool.and_eq_true,zab]at this;omega
 split
 ·exact⟨I,R⟩
 rename_i g;have i:wX c me p.ak=true:=by
  cases e:wX c me p.ak with
  |true=>rfl
  |false=>exact absurd ((QI hc b).2 e) g
 split
 ·have key:akd c me { h with bn:=(h.bn.ask p.ak p.src p.id).1 }/\yO c me { h with bn:=(h.bn.ask p.ak p.src p.id).1 }:=⟨⟨I.bn.ask _ _ _,λe j=>by
   rcases aeV j with h|h
   ·rw[h];exact i
   ·exact I.here e h⟩,R⟩
  simp only;split <;> exact key
 ·have key:akd c me (h.unlock c p).1/\yO c me (h.unlock c p).1:=by
   unfold Home.unlock;generalize (if p.flag=Z0 then p.data else [])=dat;split
   ·exact⟨I,R⟩
   ·simp only;split
    ·exact⟨⟨I.bn.release _ _,by simp only[QH];exact I.here⟩,λak k=>af5 (R ak k)⟩
    ·exact⟨I,R⟩
  simp only;split <;> exact key
def ads(I:akd c me h)(R:yO c me h):akd c me (h.grant me).1/\yO c me (h.grant me).1:=by
 unfold Home.grant;cases i:h.ready with
 |nil=>exact⟨I,R⟩
 |cons ak l=>
  have⟨m,n,j⟩:=AO i;have k:wX c me ak=true:=by
   obtain⟨e,d,rfl⟩:=List.mem_map.1 j;exact I.here e d
  have b:∀e∈(h.bn.next ak).1.wait,wX c me e.1=true:=λe d=>by
   rcases aaS d with h|h
   ·exact I.here e h
   ·rw[h.1];exact k
  have g:=I.bn.next ak
  simp only;cases ha:h.bn.next ak with
  |mk t o=>
   rw[ha]at b g;cases o with
   |none=>exact⟨I,R⟩
   |some w=>exact⟨⟨g,b⟩,R⟩
def Jp(R:yO c me h)(d:∀e∈h.dS,pG c e.2.data){ak:Int}(g:wX c me ak=Z0)(who id:Int):(granted h.dS me ak who id).ok=Z0->yK c (granted h.dS me ak who id):=by
 intro hk;have⟨row,b⟩:=R ak g;have hd:pG c (iR h.dS ak).data:=by
  unfold iR;rw[b];exact d _ (rP b)
 exact⟨hk,λ_=>hd,hd.2⟩
def Zf(hc:c.ok=Z0)(R:yO c me h)(g:∀e∈h.dS,pG c e.2.data)(p:Pkt):(h.handle c me p).2.1.ok=Z0->yK c (h.handle c me p).2.1:=by
 unfold Home.handle;have z:Pkt.zero.ok=Z0->yK c Pkt.zero:=yw W (by simp[Pkt.zero]);split
 ·exact z
 rename_i d;have b:0<=p.ak:=by
  simp only[Bool.or_eq_true,Bool.not_eq_true',not_or,Bool.not_eq_false,Bool.and_eq_true]at d;have:=d.1.1.1;simp only[Pkt.ok,Bool.and_eq_true,zab]at this;omega
 split
 ·exact z
 rename_i i;have j:wX c me p.ak=true:=by
  cases e:wX c me p.ak with
  |true=>rfl
  |false=>exact absurd ((QI hc b).2 e) i
 split
 ·simp only;split
  ·exact Jp R g j _ _
  ·exact z
 ·simp only;split
  ·exact yw W O
  ·exact z
end
structure ajy(c:Cfg)(me:Int)(n:Node)(t:List Evn)(A:NFT):Prop where
 inv:YE c me A.1
 dS:yO c me A.1.home
 fab:wY c A.2.1
 evs:A.2.2.length+n.evs=t.length+A.1.evs
section
variable {c:Cfg}{me:Int}{n:Node}{f:Fab}{t:List Evn}{o:Opn}{e:Ent}
def Si(g:n.bU.cur=ZC o)(hb:n.bU.fD=Z0)(h:n.aJ.find (c.bZ o.addr)=ZC e):
  n.effect c me t=({ n with aJ:=(n.aJ.put (fA e o (c.dH o.addr))).1,bU:=⟨n.bU.ops,n.bU.bI++[if o.aW=2 then 0 else e.word (c.dH o.addr)],ZV⟩ },t++[⟨me,n.bU.bI.length,Z0,if o.aW=2 then 0 else e.word (c.dH o.addr)⟩]):=by
 have d:n.bU.op=o:=by unfold Proc.op;rw[g];rfl
 have b:n.bU.idx=n.bU.bI.length:=by unfold Proc.idx;rw[g]
 unfold Node.effect;simp only[d,h,Option.getD_some];unfold Node.done;simp only[Proc.Dc,hb,zad,b]
def LW(I:Fb c n.aJ)(d:I64 o.value)(i:n.aJ.find (c.bZ o.addr)=ZC e):Fb c (n.aJ.put (fA e o (c.dH o.addr))).1/\(n.aJ.put (fA e o (c.dH o.addr))).1.dN=n.aJ.dN:=by
 have⟨g,h⟩:=(ji I.aT).1 i;have E:=I.ent e g;have⟨b,_⟩:=qU e o (c.dH o.addr);refine⟨I.put (by rw[b];exact E.lo) (by rw[b];exact E.hi) (Y6 E.dat d),?_⟩;rw[nD I.aT (x:=e) (by rw[b];exact E.lo) (by rw[b,h];exact i)]
def af6 {p:Proc}{v:Int}(P:ahH c p)(hb:p.fD=Z0):ahH c ⟨p.ops,p.bI++[v],ZV⟩:=by
 have:=P.fD hb;exact⟨P.most,P.right,by simp only[List.length_append,List.length_cons,List.length_nil];omega,λh=>by cases h⟩
def Zg {ca:Cache}{d:bW}{p:Pkt}(b:Ee n.aO me n.aJ p=(ca,d,ZV)):ca=n.aJ:=by
 cases g:n.aO.fits p with
 |false=>rw[BK g]at b;simp only[yJ,zaa]at b;exact b.1.symm
 |true=>
  unfold Ee at b
  repeat' split at b
  ·unfold dW at b
   repeat' split at b
   all_goals (simp only[yJ,zaa,Bool.true_eq_false,and_false]at b)
   all_goals exact b.1.symm
  ·unfold dY at b
   repeat' split at b
   all_goals (simp only[yJ,zaa,Bool.true_eq_false,and_false]at b)
   all_goals exact b.1.symm
  ·unfold eP at b;split at b
   ·simp only[yJ,zaa]at b;exact b.1.symm
   ·split at b
    ·exfalso;cases h:n.aJ.find n.aO.ak with
     |none=>simp[h]at b
     |some e=>
      simp only[h]at b
      repeat' split at b
      all_goals simp at b
    ·unfold gX at b
     repeat' split at b
     all_goals (simp only[yJ,zaa,Bool.true_eq_false,and_false]at b)
     all_goals exact b.1.symm
  ·simp only[yJ,zaa]at b;exact b.1.symm
def O7 {p:Proc}{v:Int}{n':Node}(hb:n.bU.fD=Z0)(h:n'.bU=⟨n.bU.ops,n.bU.bI++[v],ZV⟩):t.length+1+n.evs=t.length+n'.evs:=by
 unfold Node.evs;rw[h,hb];simp only[zad,List.length_append,List.length_cons,List.length_nil,Bool.false_eq_true,zaf];omega
def Sj(hc:c.ok=Z0)(I:YE c me n)(R:yO c me n.home)(F:wY c f){p:Pkt}(Q:yK c p):ajy c me n t (n.answered c me f t p):=by
 have g:ajy c me n t (n,f,t):=⟨I,R,F,Z3⟩
 unfold Node.answered;rw[sJ];by_cases H:n.aO.step=0
 ·have T:n.aO.fits p=false:=by
   unfold bW.fits;rw[H];simp[Ar,D8]
  rw[BK T];simp only[yJ,zad];exact g
 have D:=I.aO H;cases M:Ee n.aO me n.aJ p with
 |mk ca X=>
  have⟨d,ok⟩:=X;cases ok with
  |false=>
   rw[Zg M];simp only[zad];exact g
  |true=>
   simp only[Bool.true_eq_false,zaf];have N:=O4 I.aJ D H Q M;by_cases k:d.step=0
   ·rw[YY k];rcases N.way with⟨w1,_,C⟩|⟨w1,_⟩
    rotate_left
    ·exact absurd k w1
    subst C;by_cases b:d.aW=3/\n.bU.op.aW=4
    ·rw[YY b];have hb:=D.roll (by rw[<-N.aW];exact b.1);have K:=I.bU.fD hb;have L:n.bU.Dc 0=⟨n.bU.ops,n.bU.bI++[0],ZV⟩:=by unfold Proc.Dc;rw[YY hb]
     simp only[Node.done,L];refine⟨⟨af6 I.bU hb,I.aJ,I.dS,I.home,λh=>absurd k h,?_⟩,R,F,?_⟩
     ·have:=I.clk;simp only[List.length_append,List.length_cons,List.length_nil];omega
     ·simp only[List.length_append,List.length_cons,List.length_nil];exact O7 (p:=n.bU) hb Z3
    ·rw[Ys b];exact⟨⟨I.bU,I.aJ,I.dS,I.home,λh=>absurd k h,I.clk⟩,R,F,Z3⟩
   ·rw[Ys k];rcases N.way with⟨_,E,_⟩|⟨_,E,C⟩
    ·exact absurd E k
    have m:0<=d.ak:=by rw[N.ak];exact D.lo
    by_cases i:d.step=6/\d.aW≠3
    ·simp only[YY i];have b:n.aO.aW≠3:=by rw[<-N.aW];exact i.2
     have W:=D.work b E;have⟨o,G,j,q,u⟩:=W.op;have v:o∈n.bU.ops:=List.mem_of_getElem? G;have⟨e,L,_⟩:∃e,ca.find n.aO.ak=ZC e/\(n.aO.aW=2->e.bJ=Z0):=by
      rcases C b with⟨w,_⟩|⟨_,w⟩
      ·exact absurd i.1 w
      ·exact w
     have y:({ n with aJ:=ca,aO:=d }:Node).aJ.find (c.bZ o.addr)=ZC e:=by show ca.find _=_;rw[j];exact L
     rw[Si (n:={ n with aJ:=ca,aO:=d }) (e:=e) G W.fD y];have⟨p1,p2⟩:=LW (n:={ n with aJ:=ca,aO:=d }) N.inv (I.bU.right o v).2 y;have K:=I.bU.fD W.fD;have aa:ca.dN<=n.bU.bI.length+1:=by
      have:=I.clk;rcases N.clk with h|⟨_,_,h⟩ <;> omega
     refine⟨⟨af6 I.bU W.fD,p1,I.dS,I.home,λ_=>?_,?_⟩,R,F.send (ade N.dat _ _),?_⟩
     ·exact⟨m,by rw[N.ak];exact D.hi,by rw[N.aW];exact D.aW,N.dat,N.akf,λh=>absurd h i.2,λ_ h=>absurd i.1 h,λ_ _=>rfl⟩
     ·simp only[List.length_append,List.length_cons,List.length_nil];rw[p2];show ca.dN<=_;omega
     ·simp only[List.length_append,List.length_cons,List.length_nil];exact O7 (p:=n.bU) W.fD Z3
    ·simp only[Ys i];refine⟨⟨I.bU,N.inv,I.dS,I.home,λ_=>⟨m,by rw[N.ak];exact D.hi,by rw[N.aW];exact D.aW,N.dat,N.akf,λh=>D.roll (by rw[<-N.aW];exact h),λb z=>?_,λb z=>absurd ⟨z,b⟩ i⟩,?_⟩,R,F.send (ade N.dat _ _),Z3⟩
     ·have A:n.aO.aW≠3:=by rw[<-N.aW];exact b
      have W:=D.work A E;rcases C A with⟨_,w⟩|⟨w,_⟩
      ·subst w;have⟨o,G,j,q,u⟩:=W.op;exact⟨W.fD,⟨o,G,by rw[j];exact N.ak.symm,by rw[N.aW];exact q,by rw[N.aW];exact u⟩,by simp only;rw[N.ak];exact W.full⟩
      ·exact absurd w z
     ·have:=I.clk;rcases N.clk with h|⟨b,z,_⟩
      ·simp only;omega
      ·exact absurd ⟨z,by rw[N.aW];exact b⟩ i
def BM(I:YE c me n)(R:yO c me n.home)(F:wY c f){k l:Int}(hk:1<=k/\k<=3)(h0:0<=l)(b:l<c.aT)(hb:n.bU.fD=Z0)
  (hw:k≠3->(∃o,n.bU.cur=ZC o/\c.bZ o.addr=l/\(k=1->o.aW=1)/\(k=2->o.aW=2∨o.aW=3))/\n.aJ.full l=ZV):ajy c me n t ((n.begin_ c me f k l).1,(n.begin_ c me f k l).2,t):=by
 refine⟨⟨I.bU,I.aJ,I.dS,I.home,λ_=>⟨h0,b,hk,.inl W,λ_ h=>absurd (show(1:Int)=3 from h) J,λ_=>hb,λd _=>?_,λ_ h=>absurd (show(1:Int)=6 from h) J⟩,I.clk⟩,R,F.send (ade (.inl W) _ _),W⟩;have⟨⟨o,e,g,i,j⟩,m⟩:=hw d;exact⟨hb,⟨o,e,g,i,j⟩,m⟩
def af7(hc:c.ok=Z0)(I:YE c me n)(R:yO c me n.home)(F:wY c f)(D:n.bU.cur=ZC o)(hd:n.aO.step=0):ajy c me n t (n.work c me f t o):=by
 have u:o∈n.bU.ops:=List.mem_of_getElem? D;have G:n.bU.bI.length<n.bU.ops.length:=(List.getElem?_eq_some_iff.1 D).1;have Rr:=I.bU.right o u;have O:=arY hc Rr.1;have⟨n1,g⟩:∃n1:Node,n1={ n with bU:={ n.bU with fD:=Z0 } }:=⟨_,Z3⟩
 have i:YE c me n1:=by rw[g];exact⟨⟨I.bU.most,I.bU.right,I.bU.vals,λ_=>G⟩,I.aJ,I.dS,I.home,λh=>absurd hd h,I.clk⟩
 have m:yO c me n1.home:=by rw[g];exact R
 have k:n1.bU.cur=ZC o:=by rw[g];exact D
 have b:n1.bU.fD=true:=by rw[g]
 have H:n1.aJ=n.aJ:=by rw[g]
 have v:n1.aO.step=0:=by rw[g];exact hd
 have⟨w,y⟩:∃w,w=if n.bU.fD=Z0 then t else t++[⟨me,n.bU.bI.length,ZV,0⟩]:=⟨_,Z3⟩
 have aa:w.length+n.evs=t.length+n1.evs:=by
  rw[y,g];unfold Node.evs;cases n.bU.fD
  ·simp only[Bool.false_eq_true,zaf,List.length_append,List.length_cons,List.length_nil,zad];omega
  ·simp only[zad]
 have d:∀{A:NFT},ajy c me n1 w A->ajy c me n t A:=λ{A} h=>⟨h.inv,h.dS,h.fab,by have:=h.evs;omega⟩
 unfold Node.work;simp only;rw[<-g,<-y,<-H];by_cases c1:o.aW=4/\n1.aJ.find (c.bZ o.addr)=Z1
 ·rw[YY c1];refine d ?_;have j:n1.bU.Dc 0=⟨n1.bU.ops,n1.bU.bI++[0],ZV⟩:=by unfold Proc.Dc;rw[YY b]
  simp only[Node.done,j];refine⟨⟨af6 i.bU b,i.aJ,i.dS,i.home,λh=>absurd v h,?_⟩,m,F,?_⟩
  ·have:=i.clk;simp only[List.length_append,List.length_cons,List.length_nil];omega
  ·simp only[List.length_append,List.length_cons,List.length_nil];exact O7 (p:=n1.bU) b Z3
 rw[Ys c1];by_cases c2:o.aW=4
 ·rw[YY c2];exact d (BM i m F ⟨J,J⟩ O.lo O.hi b λh=>absurd Z3 h)
 rw[Ys c2];by_cases K:(n1.aJ.find (c.bZ o.addr)).isSome=Z0/\(o.aW=1∨((n1.aJ.find (c.bZ o.addr)).getD .zero).bJ=Z0)
 ·rw[YY K];have⟨e,j⟩:=Option.isSome_iff_exists.1 K.1;have T:=i.aJ.touch j;have L:=Y8 i.aJ.aT j;refine d ?_;have⟨M,Q⟩:∃M:Ent,M={ e with used:=n1.aJ.dN+1 }:=⟨_,Z3⟩
  rw[<-Q]at L;have W:({ aJ:=n1.aJ.touch (c.bZ o.addr),bU:={ ops:=n.bU.ops,bI:=n.bU.bI,fD:=Z0 },home:=n.home,aO:=n.aO,num:=n.num }:Node)={ n1 with aJ:=n1.aJ.touch (c.bZ o.addr) }:=by rw[g]
  have hE:=Si (me:=me) (t:=w) (n:={ n1 with aJ:=n1.aJ.touch (c.bZ o.addr) }) (e:=M) k b L;have⟨p1,p2⟩:=LW (n:={ n1 with aJ:=n1.aJ.touch (c.bZ o.addr) }) T Rr.2 L;rw[W,hE];refine⟨⟨af6 i.bU b,p1,i.dS,i.home,λh=>absurd v h,?_⟩,m,F,?_⟩
  ·have:=i.clk;have hk:=Jo i.aJ.aT j;simp only[List.length_append,List.length_cons,List.length_nil];rw[p2];show(n1.aJ.touch _).dN<=_;omega
  ·simp only[List.length_append,List.length_cons,List.length_nil];exact O7 (p:=n1.bU) b Z3
 rw[Ys K];by_cases q:n1.aJ.full (c.bZ o.addr)=Z0
 ·rw[YY q];have z:n1.aJ.vw (c.bZ o.addr)≠[]:=by
   intro e;unfold Cache.full at q;simp only[e,List.length_nil,Bool.and_eq_true,zab]at q;have:=(lu hc).2.2.2.2.1;rw[i.aJ.ways]at q;omega
  have⟨e,j⟩:∃e,zG (n1.aJ.vw (c.bZ o.addr))=ZC e:=by
   cases h:n1.aJ.vw (c.bZ o.addr)with
   |nil=>exact absurd h z
   |cons a l=>exact⟨_,Z3⟩
  have hv:n1.aJ.qI (c.bZ o.addr)=ZC e.ak:=by unfold Cache.qI;rw[j];rfl
  have X:e∈n1.aJ.l:=by
   have:=(Ed j).1;unfold Cache.vw at this;exact(List.mem_filter.1 this).1
  have E:=i.aJ.ent e X;rw[hv];simp only[Option.getD_some];exact d (BM i m F ⟨J,J⟩ E.lo E.hi b λh=>absurd Z3 h)
 rw[Ys q];have C:n1.aJ.full (c.bZ o.addr)=false:=by simpa using q
 by_cases c5:o.aW=1
 ·rw[YY c5];exact d (BM i m F ⟨J,J⟩ O.lo O.hi b λ_=>⟨⟨o,k,Z3,λ_=>c5,λh=>V⟩,C⟩)
 ·rw[Ys c5];have k1:=O.k1;have k4:=O.k4;exact d (BM i m F ⟨J,J⟩ O.lo O.hi b λ_=>⟨⟨o,k,Z3,λh=>V,λ_=>V⟩,C⟩)
def adt(hc:c.ok=Z0)(I:YE c me n)(R:yO c me n.home)(F:wY c f){p:Pkt}(Q:yK c p):ajy c me n t ((n.asked c me f p).1,(n.asked c me f p).2,t):=by
 unfold Node.asked;by_cases hk:p.aW=1∨p.aW=2
 ·rw[y hk];have g:=Ze hc I.home R p;have i:=Vo (c:=c) (me:=me) I.dS Q.num;have d:=Zf hc R I.dS p;cases j:n.home.handle c me p with
  |mk h x=>
   rw[j]at g i d;have⟨out,ok,e⟩:=x;simp only at g i d ⊢;refine⟨⟨I.bU,I.aJ,i,g.1,λk=>?_,I.clk⟩,g.2,?_,Z3⟩
   ·have D:=I.aO k;exact⟨D.lo,D.hi,D.aW,D.dat,D.akf,D.roll,λa b=>by have W:=D.work a b;exact⟨W.fD,W.op,W.full⟩,D.rest⟩
   ·simp only;split
    ·exact F.send d
    ·exact F
 ·rw[Ys hk];have⟨m,o,q,u⟩:=adf I.aJ p;cases j:fQ n.aJ p with
  |mk ca x=>
   rw[j]at m o q u;have⟨out,e⟩:=x;simp only at m o q u ⊢;refine⟨⟨I.bU,m,I.dS,I.home,λk=>?_,by simp only;rw[q];exact I.clk⟩,R,?_,Z3⟩
   ·have D:=I.aO k;exact⟨D.lo,D.hi,D.aW,D.dat,D.akf,D.roll,λa b=>by have W:=D.work a b;exact⟨W.fD,W.op,u _ hc W.full⟩,D.rest⟩
   ·simp only;split
    ·exact F.send o
    ·exact F
def af8(hc:c.ok=Z0)(I:YE c me n)(R:yO c me n.home)(F:wY c f):ajy c me n t (n.step c me f t).1:=by
 unfold Node.step;have⟨i,j⟩:=F.take me ZV;cases u:f.take me ZV with
 |mk K x=>
  rw[u]at i j;cases x with
  |some p=>exact Sj hc I R i (j p Z3)
  |none=>
   simp only;by_cases d:n.home.ready≠[]/\f.roomOf me ZV≠0
   ·rw[YY d];have⟨v,z⟩:=ads I.home R;refine⟨⟨I.bU,I.aJ,?_,v,λA=>?_,I.clk⟩,z,F.send ?_,Z3⟩
    ·have:(n.home.grant me).1.dS=n.home.dS:=by
      unfold Home.grant;cases n.home.ready with
      |nil=>rfl
      |cons ak l=>
       simp only;cases n.home.bn.next ak with
       |mk tt w=>cases w <;> rfl
     simp only;rw[this];exact I.dS
    ·have D:=I.aO A;exact⟨D.lo,D.hi,D.aW,D.dat,D.akf,D.roll,λa b=>by have W:=D.work a b;exact⟨W.fD,W.op,W.full⟩,D.rest⟩
    ·unfold Home.grant;cases k:n.home.ready with
     |nil=>exact absurd k d.1
     |cons ak l=>
      have hm:=(AO k).2.2;have C:wX c me ak=true:=by
       obtain⟨e,E,rfl⟩:=List.mem_map.1 hm;exact I.home.here e E
      simp only;cases n.home.bn.next ak with
      |mk tt w=>
       cases w with
       |none=>exact yw Z3 (by simp[Pkt.zero])
       |some w=>exact Jp R I.dS C _ _
   ·rw[Ys d];have⟨m,q⟩:=F.take me Z0;cases g:(if f.roomOf me ZV=0 then(f,Z1)else f.take me Z0:Fab × M Pkt)with
    |mk G y=>
     cases y with
     |some p=>
      simp only;have H:f.take me Z0=(G,ZC p):=by
       split at g
       ·cases g
       ·exact g
      rw[H]at m q;exact adt hc I R m (q p Z3)
     |none=>
      simp only;cases h:n.bU.cur with
      |none=>exact⟨I,R,F,Z3⟩
      |some o=>
       simp only;by_cases hd:n.aO.step=0
       ·rw[YY hd];exact af7 hc I R F h hd
       ·rw[Ys hd];exact⟨I,R,F,Z3⟩
end
def af9(m:dh):Prop:=∀(i:Nat) n,m.aF[i]?=ZC n->yO m.c i n.home
def adu {m:dh}(I:adg m)(R:af9 m)(i:Int):adg (m.step i).1/\af9 (m.step i).1:=by
 unfold dh.step dh.bC;by_cases o:0<=i
 ·rw[YY o];cases h:m.aF[i.toNat]? with
  |none=>exact⟨I,R⟩
  |some n=>
   have hi:=(List.getElem?_eq_some_iff.1 h).1;have b:((i.toNat:Nat):Int)=i:=V
   have p:=I.bC i.toNat n h;have q:=R i.toNat n h;rw[b]at p q;have d:=af8 (t:=m.trace) I.ok p q I.fab;simp only;generalize n.step m.c i m.fab m.trace=r at d;have⟨⟨n',v,t'⟩,k⟩:=r;refine⟨⟨I.ok,by simp only[List.length_set];exact I.len,d.fab,λj a ha=>?_,?_⟩,λj a ha=>?_⟩
   ·simp only at ha ⊢;by_cases g:j=i.toNat
    ·subst g;rw[List.getElem?_set_self hi]at ha;cases ha;rw[b];exact d.inv
    ·rw[List.getElem?_set_ne (λe=>g e.symm)]at ha;exact I.bC j a ha
   ·have w:=Vp Node.evs (a':=n') h;have u:=d.evs;have y:=I.evs;simp only at u ⊢;omega
   ·simp only at ha ⊢;by_cases g:j=i.toNat
    ·subst g;rw[List.getElem?_set_self hi]at ha;cases ha;rw[b];exact d.dS
    ·rw[List.getElem?_set_ne (λe=>g e.symm)]at ha;exact R j a ha
 ·rw[F o];exact⟨I,R⟩
def Sl {m:dh}(I:adg m)(a b k:Int):adg (m.deliver a b k).1:=⟨I.ok,I.len,I.fab.deliver a b k,I.bC,I.evs⟩
def DX(f:Fab):Prop:=∀p∈f.l,∀q,q∈p.rq∨q∈p.an->f.is q.dst=Z0
def ark(f:Fab)(i:Int)(p:Port)(k:Int):(f.put i p).is k=f.is k:=by
 unfold Fab.is Fab.put;simp
def DX.put {f:Fab}(D:DX f)(i:Int){p:Port}(h:∀q,q∈p.rq∨q∈p.an->f.is q.dst=Z0):DX (f.put i p):=by
 intro x b q d;rw[ark];unfold Fab.put at b;rcases List.mem_or_eq_of_mem_set b with b|rfl
 ·exact D x b q d
 ·exact h q d
def DX.at {f:Fab}(D:DX f)(i:Int):∀q,q∈(f.port i).rq∨q∈(f.port i).an->f.is q.dst=true:=by
 intro q b;unfold Fab.port at b;rw[List.getD_eq_getElem?_getD]at b;cases h:f.l[i.toNat]? with
 |none=>rw[h]at b;simp[Port.zero]at b
 |some p=>rw[h]at b;exact D p (List.mem_of_getElem? h) q b
def DX.send {f:Fab}(D:DX f)(p:Pkt):DX (f.send p).1:=by
 unfold Fab.send;split
 ·exact D
 ·rename_i hc;split
  ·exact D
  ·refine D.put _ λq b=>?_;have hd:f.is p.dst=true:=by
    cases h:f.is p.dst with
    |true=>rfl
    |false=>simp[h]at hc
   cases hk:wB p.aW with
   |true=>
    rw[hk]at b;simp only[Port.lS,Port.sort,zad,List.mem_append,List.mem_singleton]at b;rcases b with(b|rfl)|b
    ·exact D.at _ q (.inl b)
    ·exact hd
    ·exact D.at _ q (.inr b)
   |false=>
    rw[hk]at b;simp only[Port.lS,Port.sort,Bool.false_eq_true,zaf,List.mem_append,List.mem_singleton]at b;rcases b with b|b|rfl
    ·exact D.at _ q (.inl b)
    ·exact D.at _ q (.inr b)
    ·exact hd
def DX.lG {f:Fab}(D:DX f)(i:Int)(req:Bool)(l:Q Pkt):DX (f.put i ((f.port i).lG req l)):=by
 refine D.put _ λq b=>D.at i q ?_;cases req <;> exact b
def DX.take {f:Fab}(D:DX f)(i:Int)(req:Bool):DX (f.take i req).1:=by
 unfold Fab.take;split
 ·split
  ·exact D
  ·exact D.lG _ _ _
 ·exact D
def DX.remove {f:Fab}(D:DX f)(k:Nat):DX (f.remove k):=by
 unfold Fab.remove;split
 ·refine D.put _ λq b=>?_;rename_i i req k' _;refine D.at i q ?_;cases req with
  |true=>
   simp only[Port.drop,Port.lS,Port.sort,zad]at b;exact b.imp List.mem_of_mem_eraseIdx id
  |false=>
   simp only[Port.drop,Port.lS,Port.sort,Bool.false_eq_true,zaf]at b;exact b.imp id List.mem_of_mem_eraseIdx
 ·exact D
def DX.deliver {f:Fab}(D:DX f)(a b k:Int):DX (f.deliver a b k).1:=by
 unfold Fab.deliver;split
 ·exact D
 split
 ·exact D
 split
 ·exact D
 split
 ·exact D
 ·exact(D.lG _ _ _).remove _
def DX.all {f:Fab}(D:DX f):∀p∈f.all,f.is p.dst=true:=by
 intro p b;unfold Fab.all at b;have⟨q,d,b⟩:=List.mem_flatMap.1 b;rcases List.mem_append.1 b with b|b
 ·exact D q d p (.inl b)
 ·exact D q d p (.inr b)
def DX.new(c:Cfg):DX (.new c):=by
 intro p b q d;rw[Fab.new,List.mem_replicate]at b;rw[b.2]at d;simp[Port.zero]at d
def BN(c:Cfg)(me ak:Int):∀n:Nat,jw (c.jK me n) ak=if 0<=ak/\ak<n/\c.bf ak=me then ZC ⟨0,-1,c.first ak⟩else Z1
 |0=>by
  have:¬(0<=ak/\ak<((0:Nat):Int)/\c.bf ak=me):=V
  rw[F this];rfl
 |n+1=>by
  simp only[Cfg.jK];by_cases h:c.bf n=me
  ·rw[y h,jF,BN c me ak n];by_cases e:(n:Int)=ak
   ·subst e;rw[y W,y ⟨V,V,h⟩]
   ·rw[F e];by_cases b:0<=ak/\ak<n/\c.bf ak=me
    ·rw[y b,y ⟨b.1,V,b.2.2⟩]
    ·rw[F b,F (λd=>b ⟨d.1,V,d.2.2⟩)]
  ·rw[F h,BN c me ak n];by_cases b:0<=ak/\ak<n/\c.bf ak=me
   ·rw[y b,y ⟨b.1,V,b.2.2⟩]
   ·rw[F b,F (λd=>b ⟨d.1,(by
     have:ak≠n:=λe=>h (by rw[<-e];exact d.2.2);omega),d.2.2⟩)]
structure NX(T:Nat)(n:Node):Prop where
 Zh:0<=n.num
 num1:n.num<4096
 dat:n.aO.data.length<=4
 ws:∀ak,(n.home.bn.ws ak).length<=T
def NX.mono {T b:Nat}{n:Node}(h:NX T n)(d:T<=b):NX b n:=⟨h.Zh,h.num1,h.dat,λl=>Nat.le_trans (h.ws l) d⟩
section
variable {d:bW}{ca:Cache}{p:Pkt}{me:Int}
def XU(hc:∀e∈ca.l,e.data.length<=4){ak:Int}{e:Ent}(h:ca.find ak=ZC e):e.data.length<=4:=by
 unfold Cache.find at h;exact hc e (List.mem_of_find?_eq_some h)
def adv(hd:d.data.length<=4)(b:p.data.length<=4):(dW d me ca p).2.1.data.length<=4:=by
 unfold dW yJ
 repeat' split
 all_goals first
  |exact hd
  |exact b
  |exact Nat.zero_le _
  |(show List.length (if _ then _ else _)<=4;split <;> first|exact b|exact Nat.zero_le _)
def Es(hd:d.data.length<=4):(dw d me ca).2.data.length<=4:=by
 unfold dw;simp only
 repeat' split
 all_goals first
  |exact hd
  |exact Nat.zero_le _
def aga(hc:∀e∈ca.l,e.data.length<=4)(hd:d.data.length<=4)(b:p.data.length<=4):(dY d me ca p).2.1.data.length<=4:=by
 unfold dY yJ;split
 ·exact Nat.zero_le _
 split
 ·refine Es ?_;cases h:ca.find d.ak with
  |none=>exact b
  |some e=>exact XU hc h
 split
 ·refine Es ?_;cases h:ca.find d.ak with
  |none=>exact b
  |some e=>exact hd
 split
 ·exact hd
 ·exact Nat.zero_le _
def alN(hc:∀e∈ca.l,e.data.length<=4)(hd:d.data.length<=4):(eP d ca p).2.1.data.length<=4:=by
 unfold eP yJ gX;split
 ·exact Nat.zero_le _
 split
 ·simp only;split
  ·exact Nat.zero_le _
  ·rename_i e h;split
   ·show List.length (if e.bJ=Z0 then e.data else [])<=4;split
    ·exact XU hc h
    ·exact Nat.zero_le _
   ·split <;> exact Nat.zero_le _
 repeat' split
 all_goals first
  |exact hd
  |exact Nat.zero_le _
end
section
variable {T:Nat}{n:Node}{c:Cfg}{me:Int}{f:Fab}{t:List Evn}
def adw(h:NX T n)(v:Int):NX T (n.done me t v).1:=⟨h.Zh,h.num1,h.dat,h.ws⟩
def Sm(h:NX T n):NX T (n.effect c me t).1:=⟨h.Zh,h.num1,h.dat,h.ws⟩
def Gn(h:NX T n)(aW ak:Int):NX T (n.begin_ c me f aW ak).1:=by
 have b:=h.Zh;have d:(n.num+1).tmod 4096=(n.num+1) % 4096:=Int.tmod_eq_emod_of_nonneg V;refine⟨?_,?_,Nat.zero_le _,h.ws⟩
 ·show 0<=(n.num+1).tmod 4096;omega
 ·show(n.num+1).tmod 4096<4096;omega
def Gp {n:Node}(h:DX f)(aW ak:Int):DX (n.begin_ c me f aW ak).2:=h.send _
def adx {n:Node}(h:DX f):DX (n.ame c me f):=h.send _
def XV(hc:∀e∈n.aJ.l,e.data.length<=4)(h:NX T n){p:Pkt}(b:p.data.length<=4):(n.after me p).2.1.data.length<=4:=by
 unfold Node.after yJ
 repeat' split
 ·exact adv h.dat b
 ·exact aga hc h.dat b
 ·exact alN hc h.dat
 ·exact Nat.zero_le _
def Zi(hc:∀e∈n.aJ.l,e.data.length<=4)(h:NX T n)(D:DX f){p:Pkt}(g:p.data.length<=4):NX T (n.answered c me f t p).1/\DX (n.answered c me f t p).2.1:=by
 have hd:=XV (me:=me) hc h g;unfold Node.answered;split;rename_i ca d ok e;rw[e]at hd;have b:NX T { n with aJ:=ca,aO:=d }:=⟨h.Zh,h.num1,hd,h.ws⟩
 split
 ·exact⟨⟨h.Zh,h.num1,h.dat,h.ws⟩,D⟩
 ·simp only;split
  ·split
   ·exact⟨adw (me:=me) (t:=t) b 0,D⟩
   ·exact⟨b,D⟩
  ·split
   ·exact⟨Sm (c:=c) (me:=me) (t:=t) b,adx D⟩
   ·exact⟨b,adx D⟩
def ajz {t:Turns}(h:∀ak,(t.ws ak).length<=T)(ak who id:Int):∀l,((t.ask ak who id).1.ws l).length<=T+1:=by
 intro l;unfold Turns.ask;split
 ·exact Nat.le_succ_of_le (h l)
 split
 ·unfold Turns.ws;simp only;rw[jF];split
  ·rw[Option.getD_some,List.length_append];exact Nat.succ_le_succ (h ak)
  ·exact Nat.le_succ_of_le (h l)
 ·exact Nat.le_succ_of_le (h l)
def Zj {t:Turns}(h:∀ak,(t.ws ak).length<=T)(ak who:Int):∀l,((t.release ak who).1.ws l).length<=T:=by
 intro l;unfold Turns.release;split <;> exact h l
def alO {t:Turns}(h:∀ak,(t.ws ak).length<=T)(ak:Int):∀l,((t.next ak).1.ws l).length<=T:=by
 intro l;unfold Turns.next
 split
 ·exact h l
 split
 ·exact h l
 ·rename_i w ws e;have b:=h ak;rw[e]at b;unfold Turns.ws;simp only;rw[jF];split
  ·rw[Option.getD_some];exact Nat.le_of_succ_le b
  ·exact h l
def ady {hm:Home}(h:∀ak,(hm.bn.ws ak).length<=T)(p:Pkt):∀l,((hm.handle c me p).1.bn.ws l).length<=T+1:=by
 have b:∀l,(hm.bn.ws l).length<=T+1:=λl=>Nat.le_succ_of_le (h l);unfold Home.handle;split
 ·exact b
 split
 ·exact b
 split
 ·simp only;split
  ·exact ajz h _ _ _
  ·exact ajz h _ _ _
 ·have d:∀l,((hm.unlock c p).1.bn.ws l).length<=T+1:=by
   unfold Home.unlock;split
   ·exact b
   ·simp only;generalize jr c hm.dS p.ak p.state p.ptr (if p.flag then p.data else [])=r;split
    ·exact λl=>Nat.le_succ_of_le (Zj h _ _ l)
    ·exact b
  simp only;split <;> exact d
def agb {hm:Home}(h:∀ak,(hm.bn.ws ak).length<=T):∀l,((hm.grant me).1.bn.ws l).length<=T:=by
 unfold Home.grant;split
 ·exact h
 ·rename_i ak _ _;have b:=alO h ak;split
  ·rename_i e;rw[e]at b;exact b
  ·exact h
def alP(h:NX T n)(D:DX f)(p:Pkt):NX (T+1) (n.asked c me f p).1/\DX (n.asked c me f p).2:=by
 unfold Node.asked;split
 ·have hw:=ady (c:=c) (me:=me) h.ws p;split;rename_i hm out ok e b;rw[b]at hw;refine⟨⟨h.Zh,h.num1,h.dat,hw⟩,?_⟩;simp only;split
  ·exact D.send _
  ·exact D
 ·split;refine⟨⟨h.Zh,h.num1,h.dat,λl=>Nat.le_succ_of_le (h.ws l)⟩,?_⟩;simp only;split
  ·exact D.send _
  ·exact D
def arl(h:NX T n)(D:DX f)(o:Opn):NX T (n.work c me f t o).1/\DX (n.work c me f t o).2.1:=by
 have b:NX T { n with bU:={ n.bU with fD:=Z0 } }:=⟨h.Zh,h.num1,h.dat,h.ws⟩
 unfold Node.work;simp only;split
 ·exact⟨adw (me:=me) (t:=t) b 0,D⟩
 split
 ·exact⟨Gn (c:=c) (me:=me) (f:=f) b _ _,Gp D _ _⟩
 split
 ·exact⟨Sm (c:=c) (me:=me) (t:=if n.bU.fD then t else t++[⟨me,n.bU.bI.length,ZV,0⟩]) ⟨h.Zh,h.num1,h.dat,h.ws⟩,D⟩
 split
 ·exact⟨Gn (c:=c) (me:=me) (f:=f) b _ _,Gp D _ _⟩
 split
 ·exact⟨Gn (c:=c) (me:=me) (f:=f) b _ _,Gp D _ _⟩
 ·exact⟨Gn (c:=c) (me:=me) (f:=f) b _ _,Gp D _ _⟩
def ajA(hc:∀e∈n.aJ.l,e.data.length<=4)(k:∀i req p,(f.take i req).2=ZC p->p.data.length<=4)(h:NX T n)(D:DX f):NX (T+1) (n.step c me f t).1.1/\DX (n.step c me f t).1.2.1:=by
 have d:=h.mono (Nat.le_succ T);unfold Node.step;split
 ·rename_i j p e;have g:=D.take me ZV;have m:=k me ZV p (by rw[e]);rw[e]at g;have⟨a,b⟩:=Zi (c:=c) (me:=me) (t:=t) hc d g m;exact⟨a,b⟩
 ·split
  ·exact⟨⟨h.Zh,h.num1,h.dat,λl=>Nat.le_succ_of_le (agb h.ws l)⟩,D.send _⟩
  ·split
   ·rename_i j p e;have g:DX j:=by
     split at e
     ·cases e
     ·have:=D.take me Z0;rw[e]at this;exact this
    exact alP h g p
   ·split
    ·split
     ·exact arl d D _
     ·exact⟨d,D⟩
    ·exact⟨d,D⟩
end
structure MX(T:Nat)(m:dh):Prop where
 inv:adg m
 dS:af9 m
 dst:DX m.fab
 bC:∀(i:Nat) n,m.aF[i]?=some n->NX T n
def MX.mono {T b:Nat}{m:dh}(h:MX T m)(d:T<=b):MX b m:=⟨h.inv,h.dS,h.dst,λi n e=>(h.bC i n e).mono d⟩
def Fb.le {c:Cfg}(hc:c.ok=Z0){ca:Cache}(I:Fb c ca):∀e∈ca.l,e.data.length<=4:=by
 intro e b;have d:=(I.ent e b).dat;have g:=(lu hc).2.2.1;have:=d.1;omega
def MX.step {T:Nat}{m:dh}(X:MX T m)(i:Int):MX (T+1) (m.step i).1:=by
 have⟨q,u⟩:=adu X.inv X.dS i;refine⟨q,u,?_,?_⟩
 ·unfold dh.step;split
  ·exact X.dst
  ·rename_i n b;split;rename_i n' f t k e;unfold dh.bC at b;split at b
   ·rename_i hi;have g:=X.inv.bC _ n b;have:=(ajA (c:=m.c) (me:=i) (t:=m.trace) (g.aJ.le X.inv.ok) (λi req p h=>by
     have:=((X.inv.fab.take i req).2 p h).ok;simp only[Pkt.ok,Bool.and_eq_true,zab]at this;omega) (X.bC _ n b) X.dst).2
    rw[e]at this;exact this
   ·cases b
 ·intro j n d;unfold dh.step at d;split at d
  ·exact(X.bC j n d).mono (Nat.le_succ T)
  ·rename_i o b;split at d;rename_i n' f t k e;unfold dh.bC at b;split at b
   ·rename_i hi;simp only at d;rw[List.getElem?_set]at d;split at d
    ·split at d
     ·cases d;have g:=X.inv.bC _ o b;have:=(ajA (c:=m.c) (me:=i) (t:=m.trace) (g.aJ.le X.inv.ok) (λi req p h=>by
       have:=((X.inv.fab.take i req).2 p h).ok;simp only[Pkt.ok,Bool.and_eq_true,zab]at this;omega) (X.bC _ o b) X.dst).1
      rw[e]at this;exact this
     ·cases d
    ·exact(X.bC j n d).mono (Nat.le_succ T)
   ·cases b
def MX.deliver {T:Nat}{m:dh}(X:MX T m)(a b k:Int):MX T (m.deliver a b k).1:=by
 exact⟨Sl X.inv a b k,X.dS,X.dst.deliver a b k,X.bC⟩
def MX.do_ {T:Nat}{m:dh}(X:MX T m)(p:Pck):MX (T+1) (m.do_ p).1:=by
 unfold dh.do_;split
 ·exact(X.deliver _ _ _).mono (Nat.le_succ T)
 ·exact X.step _
def adz {c:Cfg}(hc:c.ok=Z0)(ps:Q (Q Opn)):af9 (.new c ps):=λi n d ak b=>by
 simp only[dh.new,List.getElem?_mapIdx,Option.map_eq_some_iff]at d;obtain⟨l,_,rfl⟩:=d;unfold wX at b;simp only[Bool.and_eq_true,zab]at b;have e:=(lu hc).1;have g:ak<c.aT:=b.1.2;refine⟨⟨0,-1,c.first ak⟩,?_⟩;show jw (c.jK i c.aT.toNat) ak=_;rw[BN,y ⟨b.1.1,V,by unfold Cfg.bf wV;rw[F V];exact b.2⟩]
def auq {g:bG}{x y:Nat}{A B:Q Cell}(k:Nat)(h:g x=ZC A)(b:g y=ZC B)(d:A[k]?≠B[k]?):x≠y:=λe=>by
 subst e;rw[h]at b;exact d (by rw[Option.some.inj b])
def agc(A:Adr)(k n:Nat)(q:Nat):Prop:=(∃i s,i<k/\s<6/\q=A.N i s)∨Pz A.P n q∨q=A.trace
section
variable {b:Nat}{H:ah}{g g':bG}{A:Adr}{m:dh}{T:Nat}
def adA {m:dh}(I:adg m):m.trace.length<=1000:=by
 have B:=qp I.ok;have j:=I.len;have:∀(l:Q Node),(∀n∈l,Node.evs n<=49)->(l.map Node.evs).sum<=49*l.length:=by
  intro l
  induction l with
  |nil=>intro _;simp
  |cons n l b=>
   intro h;have d:=h n O;have k:=b λx e=>h x (by simp[e]);simp only[List.map_cons,List.sum_cons,List.length_cons];omega
 have d:=this m.aF λn g=>by
  have⟨i,hi⟩:=List.mem_iff_getElem?.1 g;have P:=(I.bC i n hi).bU;have:=P.most;have:=P.vals;unfold Node.evs;split <;> omega
 rw[I.evs];have:=B.aF;omega
def aur(A:Adr)(i:Nat):Tv:=⟨A.N i,A.fab,A.P,A.trace⟩
def gy.nw(M:gy g A m){i:Nat}{n:Node}(hi:m.aF[i]?=ZC n):NW g (aur A i) m.c i (n,m.fab,m.trace):=⟨M.bC i n hi,M.fab,M.trace,M.Xt,M.tf⟩
def gy.adB(M:gy g A m){q:Nat}(h:agc A m.aF.length m.fab.l.length q):A.jL≠q:=by
 have hm:=M.jL;rcases h with⟨i,s,hi,d,rfl⟩|⟨i,s,hi,d,rfl⟩|rfl
 ·have⟨n,e⟩:∃n,m.aF[i]?=ZC n:=⟨_,List.getElem?_eq_getElem hi⟩
  have⟨j,k,o,p,u,v⟩:=M.bC i n e;have b:(xB A m.c m.aF.length).length=11:=by simp[xB,JI,Cfg.av]
  match s,d with
  |0,_=>exact jH hm j (by rw[b];simp only[iy];decide)
  |1,_=>exact jH hm k (by rw[b];simp only[gK];decide)
  |2,_=>exact jH hm o (by rw[b];simp only[iZ];decide)
  |3,_=>exact auq 10 hm p (by simp[xB,JI,Cfg.av,EI])
  |4,_=>exact jH hm u (by rw[b];simp only[kK];decide)
  |5,_=>exact jH hm v (by rw[b];simp only[gQ];decide)
 ·exact jH hm (gZ (M.fab.port hi) d) (by simp[xB,JI,Cfg.av,nP])
 ·exact jH hm M.trace (by simp[xB,JI,Cfg.av,mM])
def agd(G:Good b H g)(hb:H.base<=b)(M:gy g A m)(X:MX T m)(Q:T<999000){i:Nat}{n:Node}(hi:m.aF[i]?=ZC n):
  ∃H' g',cl 49 [.ref (A.N i 0) 0 0,.ref A.fab 0 0,.ref A.trace 0 0] H=ZC (I (m.step i).2,H')/\Good b H' g'/\gy g' A (m.step i).1/\Off (agc A m.aF.length m.fab.l.length) g g'/\Step b H H':=by
 have N:=M.nw hi;have NX:=X.bC i n hi;have F:=X.inv.bC i n hi;have k:i<m.aF.length:=(List.getElem?_eq_some_iff.1 hi).1;have W:=Walk.of G hb N;have⟨K',g',K,w⟩:=af2 W X.inv.ok X.inv.fab F ⟨NX.Zh,by have:=NX.num1;show n.num<1000000;omega⟩ (by have:=adA X.inv;show m.trace.length<999999;omega) (by have:=NX.dat;show n.aO.data.length<1000000000;omega) (λak=>by have:=NX.ws ak;show(n.home.bn.ws ak).length<1000000;omega);have z:m.step i=({ m with aF:=m.aF.set i (n.step m.c i m.fab m.trace).1.1,fab:=(n.step m.c i m.fab m.trace).1.2.1,trace:=(n.step m.c i m.fab m.trace).1.2.2 },(n.step m.c i m.fab m.trace).2):=by
  unfold dh.step dh.bC;rw[YY V,Int.toNat_natCast,hi]
 rw[z];have C:Off (ajw (aur A i) m.fab.l.length) g g':=w.off;have d:∀q,ajw (aur A i) m.fab.l.length q->agc A m.aF.length m.fab.l.length q:=by
  rintro q (⟨s,y,rfl⟩|h|rfl)
  ·exact .inl ⟨i,s,k,y,Z3⟩
  ·exact .inr (.inl h)
  ·exact .inr (.inr Z3)
 have o:=w.nw;have p:=w.len;refine⟨K',g',K,w.loc.out,⟨?_,o.tr,o.fab,λj n' u=>?_,?_,?_,M.tf⟩,C.mono d,w.step⟩
 ·show g' A.jL=ZC (xB A m.c (m.aF.set i _).length);rw[List.length_set,C A.jL λh=>M.adB (d _ h) Z3];exact M.jL
 ·simp only at u;by_cases v:i=j
  ·subst v;rw[List.getElem?_set_self k]at u;cases u;exact o.bC
  ·rw[List.getElem?_set_ne v]at u;have D:j<m.aF.length:=(List.getElem?_eq_some_iff.1 u).1;have E:=M.nw u;refine(M.bC j n' u).ext λs y=>C _ ?_;rintro(⟨t,L,e⟩|h|e)
   ·exact v (M.arU _ _ _ _ D k y L e).1.symm
   ·exact(E.Y7 h).1 s y Z3
   ·exact E.ada s y e
 ·show U1 A.P _;have:(n.step m.c i m.fab m.trace).1.2.1.l.length=m.fab.l.length:=p;rw[this];exact M.Xt
 ·show arT A.N (m.aF.set i _).length;rw[List.length_set];exact M.arU
def Vs(G:Good b H g)(hb:H.base<=b)(M:gy g A m)(X:MX T m){at_ bit mask:Int}(u:qJ at_)(k:qJ bit)(m0:0<=mask)(z:mask<=65535):
  ∃H' g',cl 48 [.ref A.fab 0 0,I at_,I bit,.s (.int .u16 mask)] H=ZC (I (m.deliver at_ bit mask).2,H')/\Good b H' g'/\gy g' A (m.deliver at_ bit mask).1/\Off (agc A m.aF.length m.fab.l.length) g g'/\Step b H H':=by
 have B:=qp X.inv.ok;have C:m.fab.l.length≠0:=by have:=X.inv.fab.len;have:=B.aF;omega
 have⟨H',g',D,G',E,o,F⟩:=Zd G hb M.fab M.Xt (fok X.inv.ok X.inv.fab) C (λp v=>⟨⟨(X.inv.fab.pkt v).ok,(X.inv.fab.pkt v).num⟩,X.dst.all p v⟩) u k m0 z;have d:∀q,Pz A.P m.fab.l.length q->agc A m.aF.length m.fab.l.length q:=λq h=>.inr (.inl h);have n:(m.fab.deliver at_ bit mask).1.l.length=m.fab.l.length:=by
  have K:=(X.inv.fab.deliver at_ bit mask).len;have L:=X.inv.fab.len;omega
 refine⟨H',g',D,G',⟨?_,?_,E,λj n' y=>?_,?_,M.arU,M.tf⟩,o.mono d,F⟩
 ·rw[o A.jL λh=>M.adB (d _ h) W];exact M.jL
 ·rw[o A.trace λ⟨i,s,hi,w,e⟩=>by
   have:=gZ (M.fab.port hi) w;exact jH M.trace this (by simp[mM,nP]) e]
  exact M.trace
 ·exact(M.bC j n' y).ext λs w=>o _ λh=>((M.nw y).Y7 h).1 s w W
 ·show U1 A.P (m.fab.deliver at_ bit mask).1.l.length;rw[n];exact M.Xt
def aus(G:Good b H g)(hb:H.base<=b)(M:gy g A m)(X:MX T m)(hT:T<999000)(p:Pck)(h64:qJ p.at_)(hbit:qJ p.bit)(m0:0<=p.mask)(m1:p.mask<=65535):
  ∃H' g',cl 15 [.ref A.jL 0 0,.agg p.av] H=ZC (B (m.do_ p).2,H')/\Good b H' g'/\gy g' A (m.do_ p).1/\Off (agc A m.aF.length m.fab.l.length) g g'/\Step b H H':=by
 let H1:=H.new (.blk 0 44 p.av);have G1:Good b H1 g:=G.new _;have g1:H1.get H.next=.blk 0 44 p.av:=aK W
 have l0:ld (.ref H.next 0 0) H1=ZC (B p.deliver,H1):=by rw[dG g1];rfl
 have l1:ld (.ref H.next 0 1) H1=ZC (I p.at_,H1):=by rw[dG g1];rfl
 have l2:ld (.ref H.next 0 2) H1=ZC (I p.bit,H1):=by rw[dG g1];rfl
 have l3:ld (.ref H.next 0 3) H1=ZC (.s (.int .u16 p.mask),H1):=by rw[dG g1];rfl
 have f0:=G1.load M.jL (i:=0) (x:=.ref A.fab 0 0) W;have f1:=G1.load M.jL (i:=1) (x:=.ref A.trace 0 0) W;have S1:Step b H H1:=Step.new _ G.1;have hb1:H1.base<=b:=by simp only[H1,iO];exact hb
 have B:=qp X.inv.ok;cases hd:p.deliver with
 |true=>
  rw[hd]at l0;have⟨H',g',e1,G',M',O',S'⟩:=Vs G1 hb1 M X h64 hbit m0 m1;have hdo:m.do_ p=((m.deliver p.at_ p.bit p.mask).1,u ((m.deliver p.at_ p.bit p.mask).2=0)):=by
   unfold dh.do_;rw[hd];rfl
  rw[hdo];refine⟨H',g',bg W W (akr _ _ _ _ ?_),G',M',O',S1.trans S'⟩;simp only[H1]at l0 l1 l2 l3 f0 f1 e1;simp only[Nat.reduceLT,xq_,hq_,ae5,aC (Il p),l0,l1,l2,l3,f0,e1]
 |false=>
  rw[hd]at l0;have hdo:m.do_ p=((m.step p.at_).1,u ((m.step p.at_).2≠0)):=by
   unfold dh.do_;rw[hd];rfl
  rw[hdo];have e0:=Gj G1 M (by have:=X.inv.len;have:=B.aF;omega) p.at_;by_cases hi:0<=p.at_/\p.at_<m.aF.length
  ·rw[y hi]at e0;have⟨i,hii⟩:∃i:Nat,p.at_=i:=⟨p.at_.toNat,by omega⟩
   rw[hii]at e0 hi l1;rw[hii];rw[Int.toNat_natCast]at e0;have⟨n,hn⟩:∃n,m.aF[i]?=ZC n:=⟨_,List.getElem?_eq_getElem (by omega)⟩
   have⟨H',g',e1,G',M',O',S'⟩:=agd G1 hb1 M X hT hn;refine⟨H',g',bg W W (akr _ _ _ _ ?_),G',M',O',S1.trans S'⟩;have nn:bi .neq 64 (.ref (A.N i 0) 0 0) zP=ZC (.s (.bool Z0)):=by kernel_rfl
   simp only[H1]at l0 l1 f0 f1 e0 e1;simp only[Nat.reduceLT,xq_,hq_,ae5,aC (Il p),l0,l1,f0,f1,e0,nn,e1];simp
  ·rw[F hi]at e0;have hst:m.step p.at_=(m,0):=by
    unfold dh.step dh.bC;by_cases h0:0<=p.at_
    ·rw[y h0,List.getElem?_eq_none (by omega)]
    ·rw[F h0]
   rw[hst];refine⟨H1,g,bg W W (akr _ _ _ _ ?_),G1,M,Off.refl _ _,S1⟩;have nn:bi .neq 64 zP zP=ZC (.s (.bool ZV)):=by kernel_rfl
   simp only[H1]at l0 l1 e0;simp only[Nat.reduceLT,xq_,hq_,ae5,aC (Il p),l0,l1,e0,nn]
   try rfl
end
def gy.sub {g g':bG}{A:Adr}{m:dh}(h:gy g A m)(j:uF g g'):gy g' A m:=by
 refine⟨j _ _ h.jL,j _ _ h.trace,⟨j _ _ h.fab.1,λi p k=>?_,h.fab.2.2⟩,λi n o=>?_,h.Xt,h.arU,h.tf⟩
 ·have⟨a,b,c,d⟩:=h.fab.2.1 i p k;exact⟨j _ _ a,j _ _ b,j _ _ c,j _ _ d⟩
 ·have⟨a,b,c,d,e,f⟩:=h.bC i n o;exact⟨j _ _ a,j _ _ b,j _ _ c,j _ _ d,j _ _ e,j _ _ f⟩
def agf {b n:Nat}{H1:ah}{g g':bG}(G:Good b H1 g)(d:H1.next=n):uF g (cup n g g'):=λq cs e=>jU G e d
def agh {b n:Nat}{H1:ah}{g g':bG}(G:Good b H1 g')(d:n<=b):uF g' (cup n g g'):=λq cs e=>lT G e d
def ru(c:Cho)(aF under:Int):Pck:=
 if c.do_.tmod 23=22 then⟨u (c.bit.tmod 2=0),c.at_,c.bit,c.mask⟩else
 if dn c.do_ 2=0 then⟨ZV,dn c.at_ aF,0,0⟩else
 if c.do_.tmod 7=6 then⟨Z0,dn c.at_ under,dn c.bit 120,c.mask⟩else⟨Z0,dn c.at_ under,0,0⟩
def alQ(d:Nat):∀(p:Pck),∀x∈p.av,Frz (d+1) x:=by
 intro p x b;simp only[Pck.av,List.mem_cons,List.not_mem_nil,zan]at b;rcases b with rfl|rfl|rfl|rfl <;> exact fC
def Zk(p:Pck):Frz 9 (.agg p.av):=mD (alQ 7 p)
def yx {n:Int}:(AV.s (.int .u16 n)).cells=[.s (.int .u16 n)]:=rfl
def vO {n:Int}:(AV.s (.int .u16 n)).aU=true:=rfl
def agi(H:ah)(c:Cho){aF under:Int}(o:aF<=9223372036854775807)(p:under<=9223372036854775807):cl 16 [.agg c.av,I aF,I under] H=ZC (.agg (ru c aF under).av,H):=by
 refine bD W W (asO _ _ _ _ _) ?_ (Zk _);have q:=oq (P:=Tryz.prog) (t:=3) (k:=.i64) (a:=c.do_) (b:=23) J;have u:=oq (P:=Tryz.prog) (t:=3) (k:=.i64) (a:=c.do_) (b:=7) J;have v:=oq (P:=Tryz.prog) (t:=3) (k:=.i64) (a:=c.bit) (b:=2) J;have d:bi .rem 3 (I c.do_) (I 23)=ZC (I (c.do_.tmod 23)):=q;have h:bi .rem 3 (I c.do_) (I 7)=ZC (I (c.do_.tmod 7)):=u;have m:bi .rem 3 (I c.bit) (I 2)=ZC (I (c.bit.tmod 2)):=v;have k1:=λH=>oQ H c.do_ 2 V;have w:=λH=>oQ H c.at_ aF o;have n:=λH=>oQ H c.at_ under p;have k4:=λH=>oQ H c.bit 120 V;have i:∀H,fK 47 (.agg [I c.do_,I c.at_,I c.bit,.s (.int .u16 c.mask)]) H=ZC (.ref H.next 0 0,H.new (.blk 0 47 [I c.do_,I c.at_,I c.bit,.s (.int .u16 c.mask)])):=λH=>aC (akn c) J;simp only[Cho.av];by_cases e:c.do_.tmod 23=22
 ·rw[show ru c aF under=⟨YM (c.bit.tmod 2=0),c.at_,c.bit,c.mask⟩ by unfold ru;rw[YY e]];simp only[Nat.reduceAdd,Nat.reduceLeDiff,aI,xq_,hq_,aa4,i,d,e,m,aeM,jf,fO,aaz,Pck.av]
  try rfl
 by_cases g:dn c.do_ 2=0
 ·rw[show ru c aF under=⟨ZV,dn c.at_ aF,0,0⟩ by unfold ru;rw[F e,YY g]];simp only[Nat.reduceAdd,Nat.reduceLeDiff,aI,xq_,hq_,aa4,i,d,e,k1,g,w,aeM,jf,fO,aaz,Pck.av]
  try rfl
 by_cases j:c.do_.tmod 7=6
 ·rw[show ru c aF under=⟨Z0,dn c.at_ under,dn c.bit 120,c.mask⟩ by unfold ru;rw[F e,F g,YY j]];simp only[Nat.reduceAdd,Nat.reduceLeDiff,aI,xq_,hq_,aa4,i,d,e,k1,g,n,aeM,jf,fO,aaz,Pck.av,h,j,k4,N7];rw[YR λr y=>by
   cases y;rw[aZ (by simp only[eu,wU];omega),aZ (by simp only[eu,wU];omega),aK (by rw[wU]),aZ (by simp only[eu,wU];omega),aZ (by simp only[eu,wU];omega),aK (by rw[wU])]]
  rfl
 ·rw[show ru c aF under=⟨Z0,dn c.at_ under,0,0⟩ by unfold ru;rw[F e,F g,F j]];simp only[Nat.reduceAdd,Nat.reduceLeDiff,aI,xq_,hq_,aa4,i,d,e,k1,g,n,aeM,jf,fO,aaz,Pck.av,h,j,N7]
  try rfl
def adC:qJ 0:=⟨J,J⟩
def yA {v n:Int}(h:qJ n):qJ (dn v n):=by
 by_cases b:n<1
 ·have:dn v n=0:=by unfold dn;rw[y b]
  rw[this];exact adC
 ·have:=oI (v:=v) (n:=n) V;have d:=h.2;exact⟨V,V⟩
def agj {c:Cho}(h:c.In){aF under:Int}(i:qJ aF)(d:qJ under):qJ (ru c aF under).at_/\qJ (ru c aF under).bit/\0<=(ru c aF under).mask/\(ru c aF under).mask<=65535:=by
 have b:qJ 120:=⟨J,J⟩
 have e:(0:Int)<=0:=J
 have g:(0:Int)<=65535:=J
 unfold ru;split
 ·exact⟨h.at_,h.bit,h.mask0,h.mask⟩
 ·split
  ·exact⟨yA i,adC,e,g⟩
  ·split
   ·exact⟨yA d,yA b,h.mask0,h.mask⟩
   ·exact⟨yA d,adC,e,g⟩
def arn {l:Q Int}(h:∀z∈l,qJ z)(i:Int):qJ (atM l i):=by
 unfold atM;split
 ·rw[List.getD_eq_getElem?_getD];cases e:l[i.toNat]? with
  |none=>exact⟨J,J⟩
  |some v=>exact h v (List.mem_of_getElem? e)
 ·exact⟨J,J⟩
def Zl {c:Cfg}(hc:c.ok=Z0)(zk za zv:Q Int)(hv:∀z∈zv,qJ z)(i:Nat):c.right (acw c zk za zv i)=Z0/\I64 (acw c zk za zv i).value:=by
 have B:=qp hc;have hw:=B.aP;have d:=B.aT;have b:1<=oZ (atM zk i)/\oZ (atM zk i)<=4:=by have:=YO (atM zk i);omega
 have e:1<=c.aT*c.aP:=by
  have:=Int.mul_le_mul d.1 hw.1 J V;omega
 have g:=oI (v:=atM za i) e;unfold acw;refine⟨?_,?_⟩
 ·unfold Cfg.right;simp only[Bool.and_eq_true,zab,Bool.or_eq_true];refine⟨⟨⟨b.1,b.2⟩,?_⟩,?_⟩
  ·unfold Cfg.bZ Cfg.fG;rw[F V];have:=Int.ediv_nonneg g.1 (show 0<=c.aP by omega);omega
  ·split
   ·rename_i h;rcases h with h|h
    ·exact .inl (.inr h)
    ·exact .inr h
   ·exact .inl (.inl W)
 ·simp only;split
  ·exact arn hv i
  ·exact⟨J,J⟩
def vP {c:Cfg}(hc:c.ok=Z0)(zw zk za zv:Q Int)(hv:∀z∈zv,qJ z):∀i,∀l∈mG c zw zk za zv i,∀o∈l,c.right o=Z0/\I64 o.value
 |0,l,h=>by
  rw[List.eq_of_mem_replicate h];intro o b;cases b
 |i+1,l,h=>by
  have d:=vP hc zw zk za zv hv i;simp only[mG,jC]at h;split at h
  ·rcases List.mem_or_eq_of_mem_set h with h|rfl
   ·exact d l h
   ·intro o b;rcases List.mem_append.1 b with b|b
    ·rw[List.getD_eq_getElem?_getD]at b;cases e:(mG c zw zk za zv i)[(dn (atM zw i) c.aF).toNat]? with
     |none=>rw[e]at b;cases b
     |some g=>rw[e]at b;exact d g (List.mem_of_getElem? e) o b
    ·rw[List.mem_singleton]at b;subst b;exact Zl hc zk za zv hv i
  ·exact d l h
def agk {c:Cfg}(hc:c.ok=Z0)(zw zk za zv:Q Int)(hv:∀z∈zv,qJ z)(mo:Nat):c.nR (pJ c zw zk za zv mo)=true:=by
 have B:=qp hc;have e:=B.aF;unfold Cfg.nR;simp only[Bool.and_eq_true,zab,List.all_eq_true];refine⟨λl b=>⟨Dq _ _ _ _ _ _ l b,λo d=>(vP hc zw zk za zv hv _ l b o d).1⟩,?_⟩;unfold pJ;rw[qQ];omega
def agl {c:Cfg}(hc:c.ok=Z0)(hi:∀z∈c.init,qJ z){ak:Int}(h:0<=ak/\ak<c.aT):pG c (c.first ak):=by
 have B:=qp hc;have hw:=B.aP;unfold Cfg.first
 rw[F V];refine⟨by rw[List.length_map,List.length_range];omega,λv hv=>?_⟩;obtain⟨j,_,rfl⟩:=List.mem_map.1 hv;rw[List.getD_eq_getElem?_getD];cases e:c.init[(ak*c.aP).toNat+j]? with
 |none=>exact⟨J,J⟩
 |some x=>exact hi x (List.mem_of_getElem? e)
def Jq(c:Cfg)(me:Int):∀n:Nat,∀e∈c.jK me n,0<=e.1/\e.1<n/\e.2.data=c.first e.1
 |0,e,h=>by cases h
 |n+1,e,h=>by
  simp only[Cfg.jK]at h;have d:=Jq c me n;split at h
  ·have key:∀(l:Q (Int × Row)) (k:Int) (x:Row),e∈lK l k x->e∈l∨(e.1=k/\e.2=x):=by
    intro l
    induction l with
    |nil=>
     intro k x b;simp only[lK,List.mem_singleton]at b;right;rw[b];exact⟨W,W⟩
    |cons a l d=>
     have⟨k',v⟩:=a;intro k x b;simp only[lK]at b;split at b
     ·rename_i hk;rcases List.mem_cons.1 b with rfl|b
      ·exact .inr ⟨by first|rfl|exact hk|exact hk.symm,W⟩
      ·exact .inl (List.mem_cons_of_mem _ b)
     ·rcases List.mem_cons.1 b with rfl|b
      ·exact .inl (List.mem_cons_self ..)
      ·rcases d k x b with b|b
       ·exact .inl (List.mem_cons_of_mem _ b)
       ·exact .inr b
   rcases key _ _ _ h with h|⟨g,i⟩
   ·have:=d e h;exact⟨this.1,V,this.2.2⟩
   ·exact⟨V,V,by rw[i,g]⟩
  ·have:=d e h;exact⟨this.1,V,this.2.2⟩
def ajB {c:Cfg}(hc:c.ok=Z0)(hi:∀z∈c.init,qJ z){ps:Q (Q Opn)}(g:c.nR ps=Z0)(hv:∀l∈ps,∀o∈l,c.right o=Z0/\I64 o.value):MX 0 (.new c ps):=by
 have B:=qp hc;have b:=B.aF;have hb:=B.aT;have⟨k,m⟩:=yt g;refine⟨⟨hc,?_,?_,λi n b=>?_,?_⟩,adz hc ps,DX.new c,λi n b=>?_⟩
 ·simp only[dh.new,List.length_mapIdx];exact k
 ·refine⟨W,W,?_,λp g=>?_⟩
  ·simp only[dh.new,Fab.new,List.length_replicate];omega
  ·simp only[dh.new,Fab.new,List.mem_replicate]at g;rw[g.2];have:=B.out;have:=B.inn;refine⟨by show((0:Nat):Int)<=c.out;omega,by show((0:Nat):Int)<=c.out;omega,by show((0:Nat):Int)<=c.inn;omega,by show((0:Nat):Int)<=1;omega,λq u=>by simp[Port.zero]at u⟩
 ·simp only[dh.new,List.getElem?_mapIdx,Option.map_eq_some_iff]at b;obtain⟨l,j,rfl⟩:=b;have hm:=List.mem_of_getElem? j;refine⟨⟨m l hm,hv l hm,Nat.zero_le _,λh=>by cases h⟩,⟨W,W,List.Pairwise.nil,List.Pairwise.nil,λe d=>(by cases d),λak=>?_,Int.le_refl 0⟩,λe d=>?_,⟨⟨List.Pairwise.nil,λe d=>(by cases d),List.Pairwise.nil,λe d=>(by cases d)⟩,λe d=>(by cases d)⟩,λh=>absurd W h,Int.le_refl 0⟩
  ·have:=B.ways;show(([]:Q Ent).length:Int)<=c.ways;simp;omega
  ·have⟨v,D,w⟩:=Jq c i _ e d;rw[w];exact agl hc hi ⟨v,V⟩
 ·have:∀n∈(dh.new c ps).aF,Node.evs n=0:=by
   intro n b;simp only[dh.new,List.mem_mapIdx]at b;obtain⟨i,hi,rfl⟩:=b;rfl
  have y:∀l:Q Node,(∀n∈l,Node.evs n=0)->(l.map Node.evs).sum=0:=by
   intro l
   induction l with
   |nil=>intro _;rfl
   |cons n l A=>
    intro h;rw[List.map_cons,List.sum_cons,h n O,A λx C=>h x (by simp[C])]
  rw[y _ this];rfl
 ·simp only[dh.new,List.getElem?_mapIdx,Option.map_eq_some_iff]at b;obtain⟨l,j,rfl⟩:=b;exact⟨Int.le_refl 0,by show(0:Int)<4096;decide,Nat.zero_le _,λak=>Nat.le_refl 0⟩
structure au4(s:kT)(zi zw zk za zv:List Int):Prop where
 ok:s.Ok zi zw zk za zv
 hi:aH ah.empty s.init 1 zi.length (zi.map I)
 hw:aH ah.empty s.who 1 zw.length (zw.map I)
 hk:aH ah.empty s.kinds 1 zk.length (zk.map I)
 ha:aH ah.empty s.fG 1 za.length (za.map I)
 hv:aH ah.empty s.bI 1 zv.length (zv.map I)
 hc:s.init.aU=true/\s.who.aU=true/\s.kinds.aU=true/\s.fG.aU=true/\s.bI.aU=true
structure aro(b:Nat)(H:ah)(g:bG)(A:Adr)(q f:Nat)(N:Nat->Nat->Nat)(m:dh)(r:NJ)(mid:Nat):Prop where
 good:Good b H g
 base:H.base<=b
 jL:gy g A m
 off:∀x,agc A m.aF.length m.fab.l.length x->mid<=x
 ref:∃g1,aaR g1 q f N r/\uF g1 g/\∀x,g1 x≠none->x<mid
def gy.here {g:bG}{A:Adr}{m:dh}(M:gy g A m){x:Nat}(h:agc A m.aF.length m.fab.l.length x):∃cs,g x=ZC cs:=by
 rcases h with⟨i,s,hi,b,rfl⟩|⟨i,s,hi,b,rfl⟩|rfl
 ·have⟨n,d⟩:∃n,m.aF[i]?=ZC n:=⟨_,List.getElem?_eq_getElem hi⟩
  exact(M.bC i n d).some b
 ·exact⟨_,gZ (M.fab.port hi) b⟩
 ·exact⟨_,M.trace⟩
def alR {s:kT}{zi zw zk za zv:Q Int}(Z:au4 s zi zw zk za zv)(H:ah)(hb:H.base<=H.next){mo:Nat}(hm:mo<=1000){c:Cfg}{ps:Q (Q Opn)}(hc:c=s.cfg zi)(hps:ps=pJ c zw zk za zv mo):
  ∃H' A q f N g mid b,cl 8 [.agg s.cells,I mo] H=ZC (.tup [.ref A.jL 0 0,.ref q 0 0,.vs ps.length 1 (ps.map (vsl 3 Opn.av))],H')/\aro b H' g A q f N (.new c ps) (.new c ps) mid/\H.next<=b/\Step H.next H H'/\MX 0 (.new c ps)/\c.nR ps=true:=by
 have hck:c.ok=true:=by rw[hc];exact ajp s zi
 have hvz:∀z∈zv,qJ z:=λz hz=>amd (Z.ok.bI.wf z hz);have hiz:∀z∈c.init,qJ z:=λz hz=>by
  rw[hc]at hz;exact amd (Z.ok.init.wf z (List.mem_of_mem_take hz))
 have hop:c.nR ps=true:=by rw[hps];exact agk hck zw zk za zv hvz mo
 have X:MX 0 (.new c ps):=ajB hck hiz hop (by rw[hps];exact vP hck zw zk za zv hvz _);have e1:=λH=>Rk H Z.ok Z.hi Z.hc;rw[<-hc]at e1;have e2:∀H,cl 34 [.agg s.cells,I mo] H=ZC (.vs ps.length 1 (ps.map (vsl 3 Opn.av)),H):=λH=>by
  have⟨ps',avX,e⟩:=U3 H Z.ok Z.hi Z.hw Z.hk Z.ha Z.hv Z.hc (mo:=mo) hm;rw[hps,hc,<-avX];exact e
 have hall:s.cells.all AV.aU=true:=by
  have:=Z.hc;simp only[kT.cells,List.all_cons,List.all_nil,this,Bool.and_true];rfl
 let H1:=H.new (.blk 0 24 s.cells);let H2:=H1.new (.blk 0 31 c.av);have n1:H1.next=H.next+1:=eu
 have n2:H2.next=H.next+1+1:=by simp only[H2,eu,n1]
 have b2:H2.base=H.base:=rfl;have⟨H3,q,f,N,g1,e3,M1,R1⟩:=U6 H2 (by omega) c hck (afA H2 ps) hop;have⟨H4,A,g2,e4,M2,I2⟩:=Ls H3 (by rw[M1.base];exact Nat.le_trans (by omega) M1.next) c hck (afA H3 ps) hop;have G:=M1.good.merge M2;have gq:H2.get (H.next+1)=.blk 0 31 c.av:=aK n1.symm;have l2:=gU gq;have l3:=gU (H:=H3) (r:=H.next+1) (c:=c) (by rw[M1.same _ (by omega)];exact gq);have ls:s.cells.length=12:=rfl;have lt:s.cells.take 12=s.cells:=rfl;have cc:(AV.agg c.av).cells=c.av:=rfl;have lc:c.av.length=8:=rfl;have hb1:H.base<=H.next+1:=by omega
 have b0:bi .neq 57 (I 0) (I 0)=ZC (B ZV):=by kernel_rfl
 have en:bi .eql 25 (.ref A.jL 0 0) zP=ZC (B ZV):=by kernel_rfl
 have hI:=I2.sub (agh (g:=g1) M2.good (Nat.le_refl _));refine⟨H4,A,q,f,N,cup H3.next g1 g2,H3.next,H2.next,bg W W (avj _ _ _ _ ?_),⟨G,?_,hI,λx hx=>?_,g1,R1,agf M1.good W,λx hx=>?_⟩,by omega,?_,X,hop⟩
 ·simp only[H1,H2]at e3 l2;simp only[Nat.reduceLT,Nat.reduceAdd,aI,xq_,hq_,auT,aC hall,ls,lt,e1,cc,lc,hb1,e2,l2,e3,l3,e4,Bool.not_true,b0,en]
 ·rw[M2.base,M1.base,b2];omega
 ·have⟨cs,h⟩:=I2.here hx;exact M2.good.le h
 ·cases h:g1 x with
  |none=>exact absurd h hx
  |some cs=>exact M1.good.lt h
 ·refine⟨by rw[M2.base,M1.base,b2],Nat.le_trans (by omega) (Nat.le_trans M1.next M2.next),λr hr=>?_⟩;rw[M2.same r (Nat.lt_of_lt_of_le (by omega) M1.next),M1.same r (by omega)];simp only[H2,H1];rw[aZ (by rw[eu];omega),aZ hr]
def adD {x:AV}{cs:Q Cho}(Y:aH ah.empty x 4 cs.length (cs.flatMap Cho.av))(H:ah):aH H x 4 cs.length (cs.flatMap Cho.av):=
 Y.iD (Nat.zero_le _) λr _ b=>absurd b (Nat.not_lt_zero r)
def agm {x:AV}{cs:Q Cho}(Y:aH ah.empty x 4 cs.length (cs.flatMap Cho.av))(H:ah){i:Nat}{c:Cho}(hi:cs[i]?=ZC c):ix 4 x (I i) H=ZC (eH x i,H)/\lda 4 (eH x i) H=ZC (.agg c.av,H):=by
 have d:=(List.getElem?_eq_some_iff.1 hi).1;have Z:=adD Y H;have b:=Z.ix (k:=.i64) (i:=(i:Int)) V V;rw[Int.toNat_natCast]at b;exact⟨b,jT (enc:=Cho.av) (m:=4) (λ_=>rfl) Z hi⟩
section
variable {b:Nat}{H:ah}{g:bG}{A:Adr}{m:dh}{T:Nat}
def MX.fine(X:MX T m):m.fine:=by
 have I:=X.inv;have B:=qp I.ok;have j:=I.len;have k:=I.fab.len;have b:∀p∈m.fab.l,p.rq.length<1000/\p.an.length<1000/\p.rin.length<1000/\p.ain.length<1000:=λp d=>by
  have P:=I.fab.port p d;have:=P.rq;have:=P.an;have:=P.rin;have:=P.ain;have:=B.out;have:=B.inn;omega
 have g:∀n∈m.aF,NX T n/\∃i:Nat,YE m.c i n:=λn g=>by
  have⟨i,hi⟩:=List.mem_iff_getElem?.1 g;exact⟨X.bC i n hi,i,I.bC i n hi⟩
 refine⟨I.ok,j,V,λn hm=>?_,λl e=>?_,λn hm=>?_,λp d=>⟨(b p d).2.2.1,(b p d).2.2.2⟩⟩
 ·have⟨_,i,h⟩:=g n hm;have:=h.bU.most;have:=h.bU.vals;omega
 ·unfold Fab.jy at e;have⟨p,d,e⟩:=List.mem_flatMap.1 e;simp only[List.mem_cons,List.not_mem_nil,zan]at e;rcases e with rfl|rfl
  ·exact(b p d).1
  ·exact(b p d).2.1
 ·have:=(g n hm).1.dat;omega
def mP(G:Good b H g)(M:gy g A m)(hc:m.c.ok=Z0):cl 9 [.ref A.jL 0 0] H=ZC (.agg m.c.av,H):=by
 have B:=qp hc;refine bD W W (avk _ _ _) ?_ (acv _);have e:=λo=>(G.guard.new o).loads M.jL (i:=2) (n:=8) (xs:=m.c.av) (by simp[xB,JI,Cfg.av]) W J;have h:=λH=>kC H m.c.init (by have:=B.init;have:=B.fG;omega);have d:m.c.av=[I m.c.aF,I m.c.aT,I m.c.aP,I m.c.sets,I m.c.ways,I m.c.out,I m.c.inn,dat m.c.init]:=rfl;have j:(AV.agg m.c.av).cells=m.c.av:=rfl;have k:m.c.av.length=8:=rfl;have p:m.c.av[7]?=ZC (dat m.c.init):=rfl;have all:=eF m.c;rw[d]at e all ⊢;simp only[Nat.reduceAdd,aI,xq_,hq_,auU,e,h,all]
def adE(G:Good b H g)(M:gy g A m)(X:MX T m):cl 17 [.ref A.fab 0 0] H=ZC (I m.fab.under,H):=by
 have F:=X.fine;have B:=qp X.inv.ok;have d:=F.aF;have e:=F.fab;exact afw G M.fab (by have:=B.aF;omega) (by have:=B.aF;omega) F.jy
def XW(X:MX T m):m.fab.under<=96:=by
 have I:=X.inv;have B:=qp I.ok;have b:=I.fab.len;have:∀l:Q Port,(∀p∈l,p.rq.length+p.an.length<=16)->(l.flatMap λp=>p.rq++p.an).length<=16*l.length:=by
  intro l
  induction l with
  |nil=>intro _;simp
  |cons p l d=>
   intro h;have i:=h p O;have b:=d λx e=>h x (by simp[e]);simp only[List.flatMap_cons,List.length_append,List.length_cons];omega
 have:=this m.fab.l λp g=>by
  have P:=I.fab.port p g;have:=P.rq;have:=P.an;have:=B.out;omega
 unfold Fab.under Fab.all;have:=B.aF;omega
def agp(H:ah)(X:MX T m)(c:Cho):cl 16 [.agg c.av,I m.c.aF,I m.fab.under] H=ZC (.agg (ru c m.c.aF m.fab.under).av,H):=by
 have B:=qp X.inv.ok;have:=XW X;have:=B.aF;exact agi H c V V
def agq(X:MX T m){c:Cho}(h:c.In):qJ (ru c m.c.aF m.fab.under).at_/\qJ (ru c m.c.aF m.fab.under).bit/\0<=(ru c m.c.aF m.fab.under).mask/\(ru c m.c.aF m.fab.under).mask<=65535:=by
 have B:=qp X.inv.ok;have:=XW X;have:=B.aF;exact agj h ⟨V,V⟩ ⟨V,V⟩
end
structure alS(b:Nat)(H:ah)(g:bG)(A:Adr)(m:dh)(T:Nat):Prop where
 good:Good b H g
 base:H.base<=b
 jL:gy g A m
 keep:MX T m
section
variable {b:Nat}{H:ah}{g:bG}{A:Adr}{m:dh}{T:Nat}
def alS.do_(R:alS b H g A m T)(i:T<999000)(p:Pck)(h:qJ p.at_)(d:qJ p.bit)(m0:0<=p.mask)(j:p.mask<=65535):
  ∃H' g',cl 15 [.ref A.jL 0 0,.agg p.av] H=ZC (B (m.do_ p).2,H')/\alS b H' g' A (m.do_ p).1 (T+1)/\Off (agc A m.aF.length m.fab.l.length) g g'/\Step b H H':=by
 have⟨H',g',e,G,M,O,S⟩:=aus R.good R.base R.jL R.keep i p h d m0 j;exact⟨H',g',e,⟨G,by rw[S.base];exact R.base,M,R.keep.do_ p⟩,O,S⟩
def alS.fab(R:alS b H g A m T):ld (.ref A.jL 0 0) H=ZC (.ref A.fab 0 0,H):=R.good.load R.jL.jL (i:=0) (x:=.ref A.fab 0 0) W
end
def O8:∀(n:Nat) (l:Q Nat),l.Nodup->(∀x∈l,x<n)->l.length<=n
 |0,[],_,_=>Nat.le_refl _
 |0,x::l,_,h=>absurd (h x O) (Nat.not_lt_zero x)
 |n+1,l,d,h=>by
  by_cases hm:n∈l
  ·have i:=O8 n (l.erase n) (d.erase n) λx b=>by
    have g:=(d.mem_erase_iff).1 b;have:=h x g.2;have:=g.1;omega
   rw[List.length_erase_of_mem hm]at i;omega
  ·have:=O8 n l d λx b=>by
    have:=h x b;have:x≠n:=λe=>hm (by rw[<-e];exact b);omega
   omega
def ags {c:Cfg}(hc:c.ok=Z0){ca:Cache}(I:Fb c ca):ca.l.length<=12:=by
 have j:=(lu hc).2.1;have h:=O8 8 (ca.l.map λe=>e.ak.toNat) (by
  unfold List.Nodup;rw[List.pairwise_map];refine I.aT.imp_of_mem λ{a b} ha hb d e=>d ?_;have:=(I.ent a ha).lo;have:=(I.ent b hb).lo;omega) λx i=>by
   obtain⟨e,g,rfl⟩:=List.mem_map.1 i;have:=(I.ent e g).lo;have:=(I.ent e g).hi;omega
 rw[List.length_map]at h;omega
abbrev sK:=Int->Option Ent
def hdI:Q Int->Int->Int
 |[],x=>x
 |i::_,_=>i
def nK:Q Int->Int->Int
 |[],x=>x
 |i::l,_=>nK l i
def Chn(E:sK):Int->Q Int->Int->Prop
 |_,[],_=>True
 |b,i::l,x=>(∃e,E i=ZC e/\e.back=b/\e.fwd=hdI l x)/\Chn E i l x
def FCh(E:sK):Q Int->Prop
 |[]=>True
 |i::l=>(∃e,E i=ZC e/\e.fwd=hdI l (-1))/\FCh E l
def pV(E:sK)(i:Int)(x:M Ent):sK:=λj=>if j=i then x else E j
def ig {E:sK}{i:Int}{x:M Ent}:pV E i x i=x:=by simp[pV]
def fJ {E:sK}{i j:Int}{x:M Ent}(h:j≠i):pV E i x j=E j:=by simp[pV,h]
def Zm {l b:Q Int}{x:Int}:hdI (l++b) x=hdI l (hdI b x):=by cases l <;> rfl
def Et:∀{l b:Q Int} {x:Int},nK (l++b) x=nK b (nK l x)
 |[],_,_=>rfl
 |i::l,b,x=>by simp only[List.cons_append,nK];exact Et
def Jr:∀{l:Q Int} {x:Int},l≠[]->nK l x∈l
 |[],_,h=>absurd W h
 |[i],_,_=>by simp[nK]
 |i::j::l,x,_=>by
  simp only[nK];have:=Jr (l:=j::l) (x:=i) O;simp only[nK]at this;exact List.mem_cons_of_mem _ this
def Chn.ext {E d:sK}:∀{l:Q Int} {b x:Int},(∀j∈l,d j=E j)->Chn E b l x->Chn d b l x
 |[],_,_,_,_=>zac
 |i::l,b,x,h,⟨⟨e,g,k⟩,hc⟩=>⟨⟨e,by rw[h i O,g],k⟩,Chn.ext (λj m=>h j (by simp[m])) hc⟩
def FCh.ext {E b:sK}:∀{l:Q Int},(∀j∈l,b j=E j)->FCh E l->FCh b l
 |[],_,_=>zac
 |i::l,h,⟨⟨e,d,g⟩,hc⟩=>⟨⟨e,by rw[h i O,d],g⟩,FCh.ext (λj k=>h j (by simp[k])) hc⟩
def Chn.fch {E:sK}:∀{l:Q Int} {b:Int},Chn E b l (-1)->FCh E l
 |[],_,_=>zac
 |_::_,_,⟨⟨e,d,_,g⟩,hc⟩=>⟨⟨e,d,g⟩,Chn.fch hc⟩
def qw {E:sK}:∀{l d:Q Int} {b x:Int},Chn E b (l++d) x↔Chn E b l (hdI d x)/\Chn E (nK l b) d x
 |[],_,_,_=>by simp[Chn,nK]
 |i::l,d,b,x=>by
  simp only[List.cons_append,Chn,nK,qw (l:=l),Zm,and_assoc]
def Chn.mem {E:sK}:∀{l:Q Int} {b x:Int},Chn E b l x->∀j∈l,∃e,E j=ZC e
 |i::l,_,_,⟨⟨e,d,_⟩,hc⟩,j,g=>by
  rcases List.mem_cons.1 g with rfl|h
  ·exact⟨e,d⟩
  ·exact Chn.mem hc j h
def FCh.mem {E:sK}:∀{l:Q Int},FCh E l->∀j∈l,∃e,E j=ZC e
 |i::l,⟨⟨e,b,_⟩,hc⟩,j,d=>by
  rcases List.mem_cons.1 d with rfl|h
  ·exact⟨e,b⟩
  ·exact FCh.mem hc j h
def Chn.adF {E:sK}{i b d x:Int}{l:Q Int}{e:Ent}(h:Chn E b (i::l) x)(k:i∉l)(m:E i=ZC e){e':Ent}(hb:e'.back=d)(n:e'.fwd=e.fwd):Chn (pV E i (ZC e')) d (i::l) x:=by
 have⟨⟨q,g,_,o⟩,hc⟩:=h;rw[m]at g;cases g;exact⟨⟨e',ig,hb,by rw[n,o]⟩,hc.ext λj p=>fJ λe=>k (e ▸ p)⟩
def Chn.arp {E:sK}{k b x y:Int}{l:Q Int}{e:Ent}(h:Chn E b (l++[k]) x)(g:k∉l)(i:E k=ZC e){e':Ent}(hb:e'.back=e.back)(m:e'.fwd=y):Chn (pV E k (ZC e')) b (l++[k]) y:=by
 have⟨n,o⟩:=qw.1 h;refine qw.2 ⟨Chn.ext (λj p=>fJ λe=>g (e ▸ p)) n,?_⟩;have⟨⟨u,d,q,_⟩,_⟩:=o;rw[i]at d;cases d;exact⟨⟨e',ig,by rw[hb,q],by rw[m];rfl⟩,zac⟩
def Rng(N:Int)(l:Q Int):Prop:=l.Nodup/\∀i∈l,0<=i/\i<N
def Rng.hd {N:Int}{l:Q Int}(h:Rng N l)(b:l≠[]):hdI l (-1)∈l/\0<=hdI l (-1):=by
 cases l with
 |nil=>exact absurd W b
 |cons i l=>exact⟨by simp[hdI],(h.2 i O).1⟩
def Rng.adG {N:Int}{l:Q Int}(h:Rng N l):hdI l (-1)=-1↔l=[]:=by
 constructor
 ·intro e;refine zar λb=>?_;have:=(h.hd b).2;omega
 ·rintro rfl;rfl
structure Wf(N:Int)(E:sK)(r:Row)(v:List Int)(l:List Int):Prop where
 rng:Rng N l
 ch:Chn E (-1) l (-1)
 mem:∀i e,E i=some e->i∈l
 head:r.head=hdI l (-1)
 st:r.state=0∨r.state=1∨r.state=2
 st0:r.state=0↔l=[]
 st2:r.state=2->∃i,l=[i]
 bJ:∀i e,E i=some e->(e.bJ=true↔r.state=2)
 data:∀i e,E i=some e->e.data=v
 BO:r.state≠2->r.data=v
structure alT(N:Int)(E:sK)(v:List Int)(i:Int)(R:List Int):Prop where
 rng:Rng N R
 ch:FCh E R
 mem:∀j e,E j=some e->j∈R∨j=i
 data:∀j e,E j=some e->e.data=v
 only:∀j e,E j=some e->e.bJ=true->∀k,E k≠none->k=j
structure Mid(N:Int)(E:sK)(r:Row)(v:List Int)(i:Int)(pre post:List Int):Prop where
 rng:Rng N (pre++i::post)
 mem:∀j e,E j=some e->j∈pre++i::post
 ent:∃e,E i=some e
 head:r.head=hdI (pre++i::post) (-1)
 st:r.state=1
 bJ:∀j e,E j=some e->e.bJ=false
 data:∀j e,E j=some e->e.data=v
 BO:r.data=v
inductive Out where
 |idle
 |req (p:Pkt)
 |wait
 |ans (p:Pkt)
def jd(r:Row)(d:bW):Row:=⟨d.state,d.head,if d.data=[]then r.data else d.data⟩
inductive Hold (N hm:Int) (E:sK) (r:Row) (v:List Int) (i:Int) (d:bW):Out->Prop
 |granted {l:List Int}:d.step=1->Wf N E r v l->Hold N hm E r v i d (.ans ⟨7,hm,i,d.id,d.ak,r.head,r.state,false,r.data⟩)
 |attach {l:List Int}:d.step=2->d.aW=1->l≠[]->d.head=hdI l (-1)->Wf N E r v l->Hold N hm E r v i d (.req (d.ask i hm))
 |attached {l:List Int} {fl:Bool}:d.step=2->d.aW=1->l≠[]->d.head=hdI l (-1)->Rng N l->Chn E i l (-1)->(∀j e,E j=some e->j∈l)->(∀j e,E j=some e->e.bJ=false)->(∀j e,E j=some e->e.data=v)->
   (fl=false->r.data=v)->Hold N hm E r v i d (.ans ⟨9,d.head,i,d.id,d.ak,0,0,fl,v⟩)
 |EJ {R:List Int}:d.step=3->d.aW=2->alT N E v i (d.next::R)->d.next≠i->(E i≠none->d.data=v)->Hold N hm E r v i d (.req (d.ask i hm))
 |BP {R:List Int} {fl:Bool}:d.step=3->d.aW=2->alT N E v i R->(∀j e,E j=some e->e.bJ=false)->(E i≠none->d.data=v)->Hold N hm E r v i d (.ans ⟨9,d.next,i,d.id,d.ak,hdI R (-1),0,fl,v⟩)
 |front {pre post:List Int}:d.step=4->d.aW=3->Mid N E r v i pre post->pre≠[]->Chn E (-1) (pre++i::post) (-1)->d.head=nK pre (-1)->d.next=hdI post (-1)->d.told=r.head->Hold N hm E r v i d (.req (d.ask i hm))
 |vS {pre post:List Int}:d.step=4->d.aW=3->Mid N E r v i pre post->pre≠[]->Chn E (-1) pre (hdI post (-1))->Chn E i post (-1)->d.head=nK pre (-1)->d.next=hdI post (-1)->d.told=r.head->
   Hold N hm E r v i d (.ans ⟨8,d.head,i,d.id,d.ak,0,0,false,[]⟩)
 |behind {pre post:List Int}:d.step=5->d.aW=3->Mid N E r v i pre post->post≠[]->Chn E (-1) pre (hdI post (-1))->Chn E i post (-1)->d.head=nK pre (-1)->d.next=hdI post (-1)->d.told=r.head->Hold N hm E r v i d (.req (d.ask i hm))
 |qg {pre post:List Int}:d.step=5->d.aW=3->Mid N E r v i pre post->post≠[]->Chn E (-1) pre (hdI post (-1))->Chn E (nK pre (-1)) post (-1)->d.head=nK pre (-1)->d.next=hdI post (-1)->d.told=r.head->
   Hold N hm E r v i d (.ans ⟨8,d.next,i,d.id,d.ak,0,0,false,[]⟩)
 |unlock {l:List Int}:d.step=6->Wf N E (jd r d) v l->Hold N hm E r v i d (.req (d.ask i hm))
section
variable {N hm:Int}{E:sK}{r:Row}{v:List Int}{i:Int}{d:bW}
def Sr {l:Q Int}(w:d.step=2)(o:d.aW=1)(y:l≠[])(z:d.head=hdI l (-1))(W:Wf N E r v l):
  ∃e,E d.head=ZC e/\Hold N hm (pV E d.head (ZC { e with bJ:=ZV,back:=i })) r v i d (.ans ⟨9,d.head,i,d.id,d.ak,0,0,e.bJ,e.data⟩):=by
 cases l with
 |nil=>exact absurd Z3 y
 |cons k l=>
  have hk:d.head=k:=z;have⟨⟨e,n,_⟩,_⟩:=W.ch;refine⟨e,by rw[hk];exact n,?_⟩;have A:Out.ans ⟨9,d.head,i,d.id,d.ak,0,0,e.bJ,e.data⟩=.ans ⟨9,d.head,i,d.id,d.ak,0,0,e.bJ,v⟩:=by rw[W.data k e n]
  rw[A];have C:k∉l:=(List.nodup_cons.1 W.rng.1).1;have nd:∀j b,pV E d.head (ZC { e with bJ:=ZV,back:=i }) j=ZC b->(j=k/\b={ e with bJ:=ZV,back:=i })∨(j≠k/\E j=ZC b):=λj b m=>by
   by_cases g:j=k
   ·subst g;rw[hk,ig]at m;exact .inl ⟨Z3,(Option.some.inj m).symm⟩
   ·rw[hk,fJ g]at m;exact .inr ⟨g,m⟩
  refine .attached (l:=k::l) w o O hk W.rng ?_ (λj b m=>?_) (λj b m=>?_) (λj b m=>?_) λD=>?_
  ·rw[hk];exact W.ch.adF C n Z3 Z3
  ·rcases nd j b m with⟨rfl,_⟩|⟨_,h⟩
   ·simp
   ·exact W.mem j b h
  ·rcases nd j b m with⟨_,rfl⟩|⟨g,h⟩
   ·rfl
   ·cases hd:b.bJ with
    |false=>rfl
    |true=>
     have⟨q,p⟩:=W.st2 ((W.bJ j b h).1 hd);have u:=W.mem j b h;rw[p]at u;simp only[List.cons.injEq]at p;simp only[List.mem_cons,List.not_mem_nil,zan]at u;exact absurd (u.trans p.1.symm) g
  ·rcases nd j b m with⟨_,rfl⟩|⟨_,h⟩
   ·exact W.data k e n
   ·exact W.data j b h
  ·refine W.BO λo=>?_;have:=(W.bJ k e n).2 o;rw[D]at this;cases this
def Vt {R:Q Int}(h1:d.step=3)(h2:d.aW=2)(L:alT N E v i (d.next::R))(hne:d.next≠i)(hd:E i≠Z1->d.data=v):
  ∃e,E d.next=ZC e/\Hold N hm (pV E d.next Z1) r v i d (.ans ⟨9,d.next,i,d.id,d.ak,e.fwd,0,e.bJ,e.data⟩):=by
 have⟨⟨e,he,hf⟩,hc⟩:=L.ch;refine⟨e,he,?_⟩;rw[L.data _ e he,hf];have hn:d.next∉R:=(List.nodup_cons.1 L.rng.1).1
 have nd:∀j e',pV E d.next Z1 j=ZC e'->j≠d.next/\E j=ZC e':=λj e' hj=>by
  by_cases hjk:j=d.next
  ·rw[hjk,ig]at hj;cases hj
  ·rw[fJ hjk]at hj;exact⟨hjk,hj⟩
 refine .BP (R:=R) h1 h2 ⟨⟨(List.nodup_cons.1 L.rng.1).2,λj hj=>L.rng.2 j (by simp[hj])⟩,hc.ext λj hj=>fJ λe=>hn (e ▸ hj),λj e' hj=>?_,λj e' hj=>L.data j e' (nd j e' hj).2,λj e' hj hdj k hk=>?_⟩ (λj e' hj=>?_) λh=>hd ?_
 ·have⟨h3,h4⟩:=nd j e' hj;rcases L.mem j e' h4 with h|h
  ·rcases List.mem_cons.1 h with h|h
   ·exact absurd h h3
   ·exact .inl h
  ·exact .inr h
 ·refine L.only j e' (nd j e' hj).2 hdj k ?_;intro h0;by_cases hk':k=d.next
  ·rw[hk',ig]at hk;exact hk W
  ·rw[fJ hk',h0]at hk;exact hk W
 ·have⟨h3,h4⟩:=nd j e' hj;cases hdt:e'.bJ with
  |false=>rfl
  |true=>exact absurd (L.only j e' h4 hdt d.next (by rw[he];simp)).symm h3
 ·rw[fJ hne.symm]at h;exact h
def Vu {pre post:Z2 Int}(D:d.step=4)(F:d.aW=3)(M:Mid N E r v i pre post)(u:pre≠[])(C:Chn E (-1) (pre++i::post) (-1))(w:d.head=nK pre (-1))(y:d.next=hdI post (-1))(G:d.told=r.head):
  ∃e,E d.head=ZC e/\Hold N hm (pV E d.head (ZC { e with fwd:=d.next })) r v i d (.ans ⟨8,d.head,i,d.id,d.ak,0,0,ZV,[]⟩):=by
 obtain⟨p,k,rfl⟩:∃p k,pre=p++[k]:=⟨pre.dropLast,pre.getLast u,(List.dropLast_concat_getLast u).symm⟩
 have hk:d.head=k:=by rw[w,Et];rfl
 have⟨z,H⟩:=qw.1 C;have⟨e,q⟩:=z.mem k O;refine⟨e,by rw[hk];exact q,?_⟩;have o:=M.rng.1;have m:k∉p/\k≠i/\k∉post:=by
  simp only[List.nodup_append,List.nodup_cons,List.mem_cons,List.append_assoc,List.cons_append,List.nil_append]at o;have⟨_,⟨A,Q,R⟩,K⟩:=o;refine⟨λh=>K k h k (.inl W) W,λh=>A (.inl h),λh=>A (.inr h)⟩
 have nd:∀j b,pV E d.head (ZC { e with fwd:=d.next }) j=ZC b->(j=k/\b={ e with fwd:=d.next })∨(j≠k/\E j=ZC b):=λj b g=>by
  by_cases n:j=k
  ·subst n;rw[hk,ig]at g;exact .inl ⟨W,(Option.some.inj g).symm⟩
  ·rw[hk,fJ n]at g;exact .inr ⟨n,g⟩
 refine .vS (pre:=p++[k]) (post:=post) D F ⟨M.rng,λj b g=>?_,?_,M.head,M.st,λj b g=>?_,λj b g=>?_,M.BO⟩ u ?_ ?_ w y G
 ·rcases nd j b g with⟨rfl,_⟩|⟨_,h⟩
  ·simp
  ·exact M.mem j b h
 ·have⟨L,hi⟩:=M.ent;exact⟨L,by rw[hk,fJ m.2.1.symm];exact hi⟩
 ·rcases nd j b g with⟨_,rfl⟩|⟨_,h⟩
  ·exact M.bJ k e q
  ·exact M.bJ j b h
 ·rcases nd j b g with⟨_,rfl⟩|⟨_,h⟩
  ·exact M.data k e q
  ·exact M.data j b h
 ·rw[hk];exact z.arp m.1 q W y
 ·rw[hk];exact H.2.ext λj g=>fJ λe=>m.2.2 (e ▸ g)
def SA {pre post:Q Int}(z:d.step=5)(A:d.aW=3)(M:Mid N E r v i pre post)(q:post≠[])(C:Chn E (-1) pre (hdI post (-1)))(u:Chn E i post (-1))(w:d.head=nK pre (-1))(y:d.next=hdI post (-1))(D:d.told=r.head):
  ∃e,E d.next=ZC e/\Hold N hm (pV E d.next (ZC { e with back:=d.head })) r v i d (.ans ⟨8,d.next,i,d.id,d.ak,0,0,ZV,[]⟩):=by
 cases post with
 |nil=>exact absurd W q
 |cons k post=>
  have hk:d.next=k:=y
  have⟨e,p⟩:=u.mem k O;refine⟨e,by rw[hk];exact p,?_⟩;have o:=M.rng.1;have m:k∉pre/\k≠i/\k∉post:=by
   simp only[List.nodup_append,List.nodup_cons,List.mem_cons]at o;have⟨_,⟨F,G,L⟩,H⟩:=o;refine⟨λh=>H k h k (.inr (.inl W)) W,λh=>F (.inl h.symm),G⟩
  have nd:∀j b,pV E d.next (ZC { e with back:=d.head }) j=ZC b->(j=k/\b={ e with back:=d.head })∨(j≠k/\E j=ZC b):=λj b g=>by
   by_cases n:j=k
   ·subst n;rw[hk,ig]at g;exact .inl ⟨W,(Option.some.inj g).symm⟩
   ·rw[hk,fJ n]at g;exact .inr ⟨n,g⟩
  refine .qg (pre:=pre) (post:=k::post) z A ⟨M.rng,λj b g=>?_,?_,M.head,M.st,λj b g=>?_,λj b g=>?_,M.BO⟩ q ?_ ?_ w y D
  ·rcases nd j b g with⟨rfl,_⟩|⟨_,h⟩
   ·simp
   ·exact M.mem j b h
  ·have⟨K,hi⟩:=M.ent;exact⟨K,by rw[hk,fJ m.2.1.symm];exact hi⟩
  ·rcases nd j b g with⟨_,rfl⟩|⟨_,h⟩
   ·exact M.bJ k e p
   ·exact M.bJ j b h
  ·rcases nd j b g with⟨_,rfl⟩|⟨_,h⟩
   ·exact M.data k e p
   ·exact M.data j b h
  ·rw[hk];exact C.ext λj g=>fJ λe=>m.1 (e ▸ g)
  ·rw[hk];exact u.adF m.2.2 p w W
end
section
variable {N hm:Int}{E:sK}{r:Row}{v:List Int}{i:Int}{d:bW}
def Rng.cons {l:Q Int}(h:Rng N l)(hi:0<=i/\i<N)(d:i∉l):Rng N (i::l):=
 ⟨List.nodup_cons.2 ⟨d,h.1⟩,λj b=>by rcases List.mem_cons.1 b with rfl|b;exact hi;exact h.2 j b⟩
def Rng.mid {pre post:Q Int}(h:Rng N (pre++i::post)):i∉pre/\i∉post/\Rng N (pre++post)/\Rng N pre/\Rng N post/\0<=i:=by
 have⟨h1,h2⟩:=h;simp only[List.nodup_append,List.nodup_cons,List.mem_cons]at h1;have⟨a,⟨b,c⟩,e⟩:=h1;refine⟨λh=>e i h i (.inl W) W,b,⟨?_,λj hj=>h2 j (by rcases List.mem_append.1 hj with h|h <;> simp[h])⟩,⟨a,λj hj=>h2 j (by simp[hj])⟩,⟨c,λj hj=>h2 j (by simp[hj])⟩,(h2 i (by simp)).1⟩;exact List.nodup_append.2 ⟨a,c,λx hx y hy=>e x hx y (.inr hy)⟩
def Rng.last {l:Q Int}(h:Rng N l)(b:l≠[]):0<=nK l (-1):=(h.2 _ (Jr b)).1
def jI {x:M Ent}{j:Int}{e:Ent}(h:pV E i x j=ZC e):(j=i/\x=ZC e)∨(j≠i/\E j=ZC e):=by
 by_cases b:j=i
 ·rw[b,ig]at h;exact .inl ⟨b,h⟩
 ·rw[fJ b]at h;exact .inr ⟨b,h⟩
def Wf.empty {l:Q Int}(W:Wf N E r v l)(h:l=[]):∀j,E j=none:=λj=>by
 cases b:E j with
 |none=>rfl
 |some e=>have:=W.mem j e b;rw[h]at this;cases this
def Wf.alone {e:Ent}(hi:0<=i/\i<N)(o:∀j,j≠i->E j=Z1)(n:E i=ZC e)(hb:e.back=-1)(p:e.fwd=-1){x:Q Int}(q:e.data=v){st:Int}(m:(st=1/\e.bJ=ZV/\x=v)∨(st=2/\e.bJ=Z0)):Wf N E ⟨st,i,x⟩ v [i]:=by
 have one:∀j d,E j=ZC d->j=i/\d=e:=λj d b=>by
  by_cases g:j=i
  ·rw[g,n]at b;exact⟨g,(Option.some.inj b).symm⟩
  ·rw[o j g]at b;cases b
 refine⟨⟨O,λj b=>by simp only[List.mem_cons,List.not_mem_nil,zan]at b;rw[b];exact hi⟩,⟨⟨e,n,hb,p⟩,zac⟩,λj d b=>by simp[(one j d b).1],W,?_,?_,λ_=>⟨i,W⟩,λj d b=>?_,λj d b=>by rw[(one j d b).2,q],λh=>?_⟩
 ·rcases m with⟨h,_⟩|⟨h,_⟩ <;> simp[h]
 ·rcases m with⟨h,_⟩|⟨h,_⟩ <;> simp[h]
 ·rw[(one j d b).2];rcases m with⟨h,k,_⟩|⟨h,k⟩ <;> simp[h,k]
 ·rcases m with⟨_,_,k⟩|⟨k,_⟩
  ·exact k
  ·exact absurd k h
def O9 {l:Q Int}(hi:0<=i/\i<N)(W:Wf N E r v l)(d:r.state=0){e':Ent}(hb:e'.back=-1)(g:e'.fwd=-1)(hd:e'.bJ=ZV)(h:e'.data=r.data){b:bW}(k:b.step=6)(m:b.state=1)(n:b.head=i)(o:b.data=[]):
  Hold N hm (pV E i (ZC e')) r v i b (.req (b.ask i hm)):=by
 have e:=W.BO (by rw[d];decide);have p:=W.empty (W.st0.1 d);refine .unlock (l:=[i]) k ?_;have:jd r b=⟨1,i,r.data⟩:=by simp only[jd,m,n,o,zad]
 rw[this];exact Wf.alone hi (λj q=>by rw[fJ q];exact p j) ig hb g (by rw[h,e]) (.inl ⟨Z3,hd,e⟩)
def Js {l:Q Int}(hk:d.aW=1)(W:Wf N E r v l)(b:r.state≠0)(e:d.step=2)(g:d.head=r.head):Hold N hm E r v i d (.req (d.ask i hm)):=
 .attach (l:=l) e hk (λh=>b (W.st0.2 h)) (by rw[g,W.head]) W
def Pg {l:Q Int}{fl:Bool}(hi:0<=i/\i<N)(u:E i=Z1)(G:l≠[])(w:d.head=hdI l (-1))(R:Rng N l)(C:Chn E i l (-1))(n:∀j e,E j=ZC e->j∈l)(hc:∀j e,E j=ZC e->e.bJ=ZV)(hd:∀j e,E j=ZC e->e.data=v)(y:fl=ZV->r.data=v)(hv:v≠[])
  {e':Ent} (hb:e'.back=-1) (hw:e'.fwd=d.head) (o:e'.bJ=ZV) (z:e'.data=v) {b:bW} (A:b.step=6) (m:b.state=1) (p:b.head=i) (D:b.data=if fl then v else []):
  Hold N hm (pV E i (ZC e')) r v i b (.req (b.ask i hm)):=by
 have k:i∉l:=λh=>by have⟨e,q⟩:=C.mem i h;rw[u]at q;cases q
 have F:(jd r b).data=v:=by
  simp only[jd,D];cases fl with
  |true=>simp[hv]
  |false=>simp[y W]
 refine .unlock (l:=i::l) A ⟨R.cons hi k,⟨⟨e',ig,hb,by rw[hw,w]⟩,C.ext λj g=>fJ λe=>k (e ▸ g)⟩,λj e g=>?_,p,.inr (.inl m),?_,λh=>?_,λj e g=>?_,λj e g=>?_,λ_=>F⟩
 ·rcases jI g with⟨h,_⟩|⟨_,h⟩
  ·simp[h]
  ·exact List.mem_cons_of_mem _ (n j e h)
 ·simp only[jd,m];simp
 ·simp only[jd,m]at h;cases h
 ·simp only[jd,m];rcases jI g with⟨_,h⟩|⟨_,h⟩
  ·cases h;simp[o]
  ·simp[hc j e h]
 ·rcases jI g with⟨_,h⟩|⟨_,h⟩
  ·cases h;exact z
  ·exact hd j e h
def Wf.left {l:Q Int}(W:Wf N E r v l):alT N E v i l:=
 ⟨W.rng,W.ch.fch,λj e d=>.inl (W.mem j e d),W.data,λj e d hd k hk=>by
  have⟨q,m⟩:=W.st2 ((W.bJ j e d).1 hd);have g:=W.mem j e d;cases b:E k with
  |none=>exact absurd b hk
  |some n=>
   have h:=W.mem k n b;rw[m]at g h;simp only[List.mem_cons,List.not_mem_nil,zan]at g h;rw[g,h]⟩
def alU(hi0:0<=i){R:Q Int}(L:alT N E v i R)(hd1:E i≠Z1->d.data=v)(hd2:R=[]->d.data=v)(hn:d.next=hdI R (-1)){x:Int}(hx:x=match E i with
   |some own=>if d.next=i then own.fwd else d.next
   |none=>d.next) (hk:d.aW=2):
  (x≠-1/\∀d':bW,d'.step=3->d'.aW=2->d'.next=x->d'.data=d.data->Hold N hm E r v i d' (.req (d'.ask i hm)))∨(x=-1/\d.data=v/\∀j,j≠i->E j=Z1):=by
 have go:∀R':Q Int,alT N E v i R'->x=hdI R' (-1)->(R'≠[]->hdI R' (-1)≠i)->(R'=[]->d.data=v)->(x≠-1/\∀d':bW,d'.step=3->d'.aW=2->d'.next=x->d'.data=d.data->Hold N hm E r v i d' (.req (d'.ask i hm)))∨(x=-1/\d.data=v/\∀j,j≠i->E j=Z1):=by
  intro R' L' hx' hi' hd';cases R' with
  |nil=>
   refine .inr ⟨hx',hd' W,λj hj=>?_⟩;cases h:E j with
   |none=>rfl
   |some e=>rcases L'.mem j e h with h'|h';cases h';exact absurd h' hj
  |cons k R'=>
   have h0:=(L'.rng.2 k O).1;refine .inl ⟨by rw[hx'];show k≠-1;omega,λd' a b c e=>?_⟩;have hk':d'.next=k:=c.trans hx'
   exact .EJ (R:=R') a b (by rw[hk'];exact L') (by rw[hk'];exact hi' O) λh=>by rw[e];exact hd1 h
 cases hE:E i with
 |none=>
  rw[hE]at hx;simp only at hx;refine go R L (hx.trans hn) (λhR h=>?_) hd2;have⟨e,he⟩:=L.ch.mem _ (L.rng.hd hR).1;rw[h,hE]at he;cases he
 |some own=>
  rw[hE]at hx;simp only at hx;have hdv:=hd1 (by rw[hE];simp);by_cases hni:d.next=i
  ·rw[y hni]at hx;cases R with
   |nil=>
    have h1:d.next=-1:=hn
    omega
   |cons k R=>
    have hk':k=i:=by rw[<-hni,hn];rfl
    subst hk';have⟨⟨e,he,hf⟩,hc⟩:=L.ch;rw[hE]at he;cases he;have hkR:=(List.nodup_cons.1 L.rng.1).1;refine go R ⟨⟨(List.nodup_cons.1 L.rng.1).2,λj hj=>L.rng.2 j (by simp[hj])⟩,hc,λj e hj=>?_,L.data,L.only⟩ (hx.trans hf) (λhR h=>?_) λ_=>hdv
    ·rcases L.mem j e hj with h|h
     ·rcases List.mem_cons.1 h with h|h
      ·exact .inr h
      ·exact .inl h
     ·exact .inr h
    ·apply hkR
     rw[<-h];cases R with
     |nil=>exact absurd W hR
     |cons a R=>simp[hdI]
  ·rw[F hni]at hx;exact go R L (hx.trans hn) (λhR h=>hni (hn.trans h)) λ_=>hdv
def Jt(hi:0<=i/\i<N)(h0:∀j,j≠i->E j=Z1){e':Ent}(hb:e'.back=-1)(e:e'.fwd=-1)(hd:e'.bJ=Z0){b:bW}(g:b.step=6)(h:b.state=2)(k:b.head=i):Hold N hm (pV E i (ZC e')) r e'.data i b (.req (b.ask i hm)):=by
 refine .unlock (l:=[i]) g ?_;have:jd r b=⟨2,i,if b.data=[]then r.data else b.data⟩:=by simp only[jd,h,k]
 rw[this];exact Wf.alone hi (λj d=>by rw[fJ d];exact h0 j d) ig hb e W (.inr ⟨W,hd⟩)
def Ph {l:Q Int}(W:Wf N E r v l)(b:d.step=6)(e:d.state=r.state)(g:d.head=r.head)(h:d.data=[]):Hold N hm E r v i d (.req (d.ask i hm)):=by
 refine .unlock (l:=l) b ?_;have:jd r d=r:=by simp only[jd,e,g,h,zad]
 rw[this];exact W
def Wf.split {l:Q Int}(W:Wf N E r v l){e:Ent}(b:E i=ZC e):∃pre post,l=pre++i::post/\e.back=nK pre (-1)/\e.fwd=hdI post (-1):=by
 obtain⟨pre,post,rfl⟩:=List.append_of_mem (W.mem i e b);have⟨_,⟨⟨j,d,g,h⟩,_⟩⟩:=qw.1 W.ch;rw[b]at d;cases d;exact⟨pre,post,Z3,g,h⟩
def Wf.mid {pre post:Q Int}(W:Wf N E r v (pre++i::post)){e:Ent}(k:E i=ZC e)(b:pre≠[]∨post≠[]):Mid N E r v i pre post:=by
 have d:r.state≠2:=λh=>by
  have⟨q,m⟩:=W.st2 h;have:=zaj List.length m;simp only[List.length_append,List.length_cons,List.length_nil]at this;rcases b with h|h
  ·have:=List.length_pos_iff.2 h;omega
  ·have:=List.length_pos_iff.2 h;omega
 have n:r.state=1:=by
  rcases W.st with h|h|h
  ·have:=W.st0.1 h;simp at this
  ·exact h
  ·exact absurd h d
 exact⟨W.rng,W.mem,⟨e,k⟩,W.head,n,λj g o=>by
  cases hd:g.bJ with
  |false=>rfl
  |true=>exact absurd ((W.bJ j g o).1 hd) d,W.data,W.BO d⟩
def JK {l:Z2 Int}(W:Wf N E r v l)(hv:v≠[]){e:Ent}(o:E i=ZC e)(hb:e.back=-1)(G:e.fwd=-1)(w:d.step=6)(p:d.state=0)(y:d.head=-1)(z:d.data=if e.bJ then e.data else []):Hold N hm (pV E i Z1) r v i d (.req (d.ask i hm)):=by
 obtain⟨q,k,rfl,H,K⟩:=W.split o;have⟨L,M,Q,A,C,R⟩:=W.rng.mid;have D:q=[]:=zar λh=>by have:=A.last h;omega
 have F:k=[]:=zar λh=>by have:=(C.hd h).2;omega
 subst D;subst F;have b:∀j,pV E i Z1 j=none:=λj=>by
  cases g:pV E i Z1 j with
  |none=>rfl
  |some n=>
   rcases jI g with⟨_,h⟩|⟨u,h⟩
   ·cases h
   ·have:=W.mem j n h;simp only[List.nil_append,List.mem_cons,List.not_mem_nil,zan]at this;exact absurd this u
 have hd:(jd r d).data=v:=by
  simp only[jd,z];cases m:e.bJ with
  |true=>simp[W.data i e o,hv]
  |false=>
   have:r.state≠2:=λh=>by rw[(W.bJ i e o).2 h]at m;cases m
   simp[W.BO this]
 refine .unlock (l:=[]) w ⟨⟨List.nodup_nil,λj g=>by cases g⟩,zac,λj n g=>?_,y,.inl p,by simp[jd,p],λh=>?_,λj n g=>?_,λj n g=>?_,λ_=>hd⟩
 ·rw[b j]at g;cases g
 ·simp only[jd,p]at h;cases h
 ·rw[b j]at g;cases g
 ·rw[b j]at g;cases g
def JL {l:Q Int}(W:Wf N E r v l){e:Ent}(b:E i=ZC e)(hb:e.back=-1)(k:e.fwd≠-1)(m:d.step=5)(hk:d.aW=3)(n:d.head=-1)(o:d.next=e.fwd)(p:d.told=r.head):Hold N hm E r v i d (.req (d.ask i hm)):=by
 obtain⟨pre,post,rfl,w,g⟩:=W.split b;have⟨y,z,A,q,C,D⟩:=W.rng.mid;have u:pre=[]:=zar λh=>by have:=q.last h;omega
 subst u;have j:post≠[]:=λh=>k (by rw[g,h];rfl);exact .behind (pre:=[]) (post:=post) m hk (W.mid b (.inr j)) j zac W.ch.2 n (o.trans g) p
def JM {l:Q Int}(W:Wf N E r v l){e:Ent}(b:E i=ZC e)(hb:e.back≠-1)(k:d.step=4)(hk:d.aW=3)(m:d.head=e.back)(n:d.next=e.fwd)(o:d.told=r.head):Hold N hm E r v i d (.req (d.ask i hm)):=by
 obtain⟨pre,post,rfl,g,p⟩:=W.split b;have j:pre≠[]:=λh=>hb (by rw[g,h];rfl);exact .front (pre:=pre) (post:=post) k hk (W.mid b (.inl j)) j W.ch (m.trans g) (n.trans p) o
def Mid.out {pre post:Q Int}(M:Mid N E r v i pre post)(g:pre++post≠[])(m:Chn E (-1) pre (hdI post (-1)))(n:Chn E (nK pre (-1)) post (-1))(o:d.step=6)(p:d.state=1)(q:d.head=hdI (pre++post) (-1))(u:d.data=[]):Hold N hm (pV E i Z1) r v i d (.req (d.ask i hm)):=by
 have⟨w,y,z,C,D,F⟩:=M.rng.mid;have A:jd r d=⟨1,hdI (pre++post) (-1),r.data⟩:=by simp only[jd,p,q,u,zad]
 refine .unlock (l:=pre++post) o ?_;rw[A];refine⟨z,qw.2 ⟨m.ext λj b=>fJ λe=>w (e ▸ b),n.ext λj b=>fJ λe=>y (e ▸ b)⟩,λj e b=>?_,W,.inr (.inl W),by simpa using g,λh=>(by cases h),λj e b=>?_,λj e b=>?_,λ_=>M.BO⟩
 ·rcases jI b with⟨_,h⟩|⟨k,h⟩
  ·cases h
  ·have:=M.mem j e h;simp only[List.mem_append,List.mem_cons]at this ⊢;rcases this with h|h|h
   ·exact .inl h
   ·exact absurd h k
   ·exact .inr h
 ·rcases jI b with⟨_,h⟩|⟨_,h⟩
  ·cases h
  ·simp[M.bJ j e h]
 ·rcases jI b with⟨_,h⟩|⟨_,h⟩
  ·cases h
  ·exact M.data j e h
def Ju {pre post:Q Int}(M:Mid N E r v i pre post)(b:pre≠[])(e:Chn E (-1) pre (hdI post (-1)))(g:post=[])(h:d.step=6)(j:d.state=1)(k:d.head=r.head)(m:d.data=[]):Hold N hm (pV E i Z1) r v i d (.req (d.ask i hm)):=by
 subst g;refine M.out (by simpa using b) e zac h j ?_ m;rw[k,M.head,List.append_nil];cases pre with
 |nil=>exact absurd W b
 |cons a pre=>rfl
def JO {pre post:Q Int}(M:Mid N E r v i pre post)(b:post≠[])(e:Chn E (-1) pre (hdI post (-1)))(g:Chn E i post (-1))(h:d.step=5)(hk:d.aW=3)(j:d.head=nK pre (-1))(k:d.next=hdI post (-1))(m:d.told=r.head):Hold N hm E r v i d (.req (d.ask i hm)):=
 .behind (pre:=pre) (post:=post) h hk M b e g j k m
def Eu {pre post:Q Int}(M:Mid N E r v i pre post)(h:post≠[])(j:Chn E (-1) pre (hdI post (-1)))(k:Chn E (nK pre (-1)) post (-1)){h0 nx:Int}(b:h0=nK pre (-1))(e:nx=hdI post (-1))(m:d.step=6)(n:d.state=1)(g:d.head=if h0=-1 then nx else r.head)(o:d.data=[]):Hold N hm (pV E i Z1) r v i d (.req (d.ask i hm)):=by
 have⟨q,u,w,p,y,z⟩:=M.rng.mid;refine M.out (by simp[h]) j k m n ?_ o;cases pre with
 |nil=>
  have:h0=-1:=b;rw[g,YY this,e];rfl
 |cons a pre=>
  have A:=p.last (l:=a::pre) O;rw[g,F V,M.head];rfl
end
structure Abs where
 ent:Int->sK
 row:Int->Row
 own:Int->Int
 ws:Int->List (Int × Int)
 aO:Int->bW
 msg:Int->Out
 val:Int->List Int
def Abs.holds(c:Cfg)(a:Abs)(L:Int):Prop:=Hold c.aF (c.bf L) (a.ent L) (a.row L) (a.val L) (a.own L) (a.aO (a.own L)) (a.msg (a.own L))
def ajC(c:Cfg)(a:Abs)(L:Int):Prop:=
 (a.own L=-1/\∃l,Wf c.aF (a.ent L) (a.row L) (a.val L) l)∨(0<=a.own L/\a.own L<c.aF/\(a.aO (a.own L)).ak=L/\a.holds c L)
def arq(c:Cfg)(a:Abs)(L:Int):Prop:=
 ((a.ws L).map (·.1)).Nodup/\∀w∈a.ws L,0<=w.1/\w.1<c.aF/\a.msg w.1=.wait/\(a.aO w.1).ak=L/\(a.aO w.1).id=w.2/\(a.aO w.1).step=1
def agt(c:Cfg)(d:bW)(i:Int):Pkt:=⟨8,c.bf d.ak,i,d.id,d.ak,0,0,ZV,[]⟩
def avY(c:Cfg)(a:Abs)(i:Int):Prop:=(a.aO i).step=1/\a.own (a.aO i).ak≠i/\(a.msg i=.req ((a.aO i).ask i (c.bf (a.aO i).ak))∨(a.msg i=.wait/\(i,(a.aO i).id)∈a.ws (a.aO i).ak))
def aut(c:Cfg)(a:Abs)(i:Int):Prop:=(a.aO i).step=6/\a.own (a.aO i).ak≠i/\a.msg i=.ans (agt c (a.aO i) i)
structure alV(c:Cfg)(a:Abs)(i:Int):Prop where
 step:(a.aO i).step≠0
 ak:0<=(a.aO i).ak/\(a.aO i).ak<c.aT
 aW:1<=(a.aO i).aW/\(a.aO i).aW<=3
 idr:0<=(a.aO i).id/\(a.aO i).id<4096
 miss:(a.aO i).aW=1->(a.aO i).step=1∨(a.aO i).step=2->a.ent (a.aO i).ak i=none
 at_:avY c a i∨a.own (a.aO i).ak=i∨aut c a i
def ajD(c:Cfg)(a:Abs)(i:Int):Prop:=((a.aO i).step=0/\a.msg i=.idle)∨alV c a i
structure nU(c:Cfg)(a:Abs):Prop where
 ak:∀L,0<=L->L<c.aT->ajC c a L
 bC:∀i,0<=i->i<c.aF->ajD c a i
 ws:∀L,arq c a L
 val:∀L,0<=L->L<c.aT->a.val L≠[]
 out:∀L,¬(0<=L/\L<c.aT)->a.own L=-1
section
variable {c:Cfg}{a a':Abs}{i L:Int}
def Hold.Pj {N hm:Int}{E:sK}{r:Row}{v:Q Int}{i:Int}{d:bW}{o:Out}(h:Hold N hm E r v i d o):d.step≠0:=by
 cases h <;> omega
def nU.holder(I:nU c a)(d:0<=L/\L<c.aT)(h:a.own L=i)(hi:0<=i):(a.aO i).ak=L/\Hold c.aF (c.bf L) (a.ent L) (a.row L) (a.val L) i (a.aO i) (a.msg i):=by
 rcases I.ak L d.1 d.2 with⟨g,_⟩|⟨_,_,e,b⟩
 ·omega
 ·unfold Abs.holds at b;rw[h]at e b;exact⟨e,b⟩
def nU.upd(I:nU c a)(i L:Int)(hi:0<=i)(D:∀d,d≠L->a'.ent d=a.ent d)(H:∀d,d≠L->a'.row d=a.row d)(o:∀d,d≠L->a'.own d=a.own d)(w1:∀d,d≠L->a'.ws d=a.ws d)(E:∀d,d≠L->a'.val d=a.val d)
  (g:∀j,j≠i->a'.aO j=a.aO j) (u:∀j,j≠i->a'.msg j=a.msg j) (Q:∀j,j≠i->a.ent L j=Z1->a'.ent L j=Z1)
  (R:∀j,0<=j->j≠i->(a'.own L=j↔a.own L=j)) (T:∀j k,j≠i->(j,k)∈a.ws L->(j,k)∈a'.ws L)
  (W:∀d,d≠L->a.own d≠i) (X:∀d,d≠L->∀k,(i,k)∉a.ws d) (hL:0<=L/\L<c.aT)
  (nl:ajC c a' L) (nn:ajD c a' i) (nw:arq c a' L) (nv:a'.val L≠[]):nU c a':=by
 refine⟨λd q v=>?_,λj q v=>?_,λd=>?_,λd q v=>?_,λd h=>?_⟩
 ·by_cases h:d=L
  ·rw[h];exact nl
  ·have m:=W d h;rcases I.ak d q v with⟨y,l,z⟩|⟨y,z,a3,K⟩
   ·exact .inl ⟨by rw[o d h];exact y,l,by rw[D d h,H d h,E d h];exact z⟩
   ·refine .inr ⟨by rw[o d h];exact y,by rw[o d h];exact z,by rw[o d h,g _ m];exact a3,?_⟩;unfold Abs.holds at K ⊢;rw[o d h,g _ m,u _ m,D d h,H d h,E d h];exact K
 ·by_cases h:j=i
  ·rw[h];exact nn
  ·rcases I.bC j q v with⟨y,z⟩|O
   ·exact .inl ⟨by rw[g j h];exact y,by rw[u j h];exact z⟩
   ·have F:∀M:Int,a'.own M=j↔a.own M=j:=λM=>by
     by_cases n:M=L
     ·rw[n];exact R j q h
     ·rw[o M n]
    refine .inr ⟨by rw[g j h];exact O.step,by rw[g j h];exact O.ak,by rw[g j h];exact O.aW,by rw[g j h];exact O.idr,?_,?_⟩
    ·rw[g j h];intro hk hs;have:=O.miss hk hs;by_cases n:(a.aO j).ak=L
     ·rw[n]at this ⊢;exact Q j h this
     ·rw[D _ n];exact this
    ·rcases O.at_ with⟨A,C,p⟩|b|⟨A,C,p⟩
     ·refine .inl ⟨by rw[g j h];exact A,?_,?_⟩
      ·rw[g j h];exact λe=>C ((F _).1 e)
      ·rw[g j h,u j h];rcases p with p|⟨p,G⟩
       ·exact .inl p
       ·refine .inr ⟨p,?_⟩;by_cases n:(a.aO j).ak=L
        ·rw[n]at G ⊢;exact T j _ h G
        ·rw[w1 _ n];exact G
     ·exact .inr (.inl (by rw[g j h];exact(F _).2 b))
     ·refine .inr (.inr ⟨by rw[g j h];exact A,?_,by rw[u j h,g j h];exact p⟩);rw[g j h];exact λe=>C ((F _).1 e)
 ·by_cases h:d=L
  ·rw[h];exact nw
  ·have⟨A,C⟩:=I.ws d;refine⟨by rw[w1 d h];exact A,λw hw=>?_⟩;rw[w1 d h]at hw;have m:w.1≠i:=λe=>X d h w.2 (by rw[<-e];exact hw);rw[g _ m,u _ m];exact C w hw
 ·by_cases h:d=L
  ·rw[h];exact nv
  ·rw[E d h];exact I.val d q v
 ·by_cases n:d=L
  ·rw[n]at h;exact absurd hL h
  ·rw[o d n];exact I.out d h
def nU.only(I:nU c a)(hi:0<=i)(b:Int)(h:a.own b=i):(a.aO i).ak=b/\(a.aO i).step≠0:=by
 by_cases d:0<=b/\b<c.aT
 ·have⟨e,g⟩:=I.holder d h hi;exact⟨e,g.Pj⟩
 ·have:=I.out b d;omega
def nU.alW(I:nU c a)(hi:0<=i)(h:(a.aO i).ak=L∨(a.aO i).step=0):∀b,b≠L->a.own b≠i:=λb d e=>by
 have⟨g,j⟩:=I.only hi b e;rcases h with h|h
 ·exact d (g.symm.trans h)
 ·exact j h
def nU.ws7(I:nU c a)(h:(a.aO i).ak=L∨(a.aO i).step=0):∀b,b≠L->∀k,(i,k)∉a.ws b:=λb d k hk=>by
 have⟨_,_,_,e,_,g⟩:=(I.ws b).2 _ hk;rcases h with h|h
 ·exact d (e.symm.trans h)
 ·simp only at g;omega
def arq.same(W:arq c a L)(hw:a'.ws L=a.ws L)(h:∀k,(i,k)∉a.ws L)(g:∀j,j≠i->a'.aO j=a.aO j)(m:∀j,j≠i->a'.msg j=a.msg j):arq c a' L:=by
 have⟨n,o⟩:=W;refine⟨by rw[hw];exact n,λw d=>?_⟩;rw[hw]at d;have b:w.1≠i:=λe=>h w.2 (by rw[<-e];exact d);rw[g _ b,m _ b];exact o w d
def nU.SB(I:nU c a)(h:a.msg i≠.wait):∀L k,(i,k)∉a.ws L:=λL k hk=>h ((I.ws L).2 _ hk).2.2.1
def dZ {α:Type}(f:Int->α)(i:Int)(x:α):Int->α:=λj=>if j=i then x else f j
def aS {α:Type}{f:Int->α}{i:Int}{x:α}:dZ f i x i=x:=by simp[dZ]
def aY {α:Type}{f:Int->α}{i j:Int}{x:α}(h:j≠i):dZ f i x j=f j:=by simp[dZ,h]
def nU.begin_(I:nU c a)(hi:0<=i/\i<c.aF)(h0:(a.aO i).step=0){k id:Int}(hk:1<=k/\k<=3)(o:0<=id/\id<4096)(m:0<=L/\L<c.aT)(hm:k=1->a.ent L i=Z1):
  nU c { a with aO:=dZ a.aO i (.begin k L id),msg:=dZ a.msg i (.req ((bW.begin k L id).ask i (c.bf L))) }:=by
 have b:∀d,a.own d≠i:=λd e=>(I.only hi.1 d e).2 h0;have p:a.msg i≠.wait:=λe=>by
  rcases I.bC i hi.1 hi.2 with⟨_,h⟩|O
  ·rw[h]at e;cases e
  ·exact O.step h0
 have n:=I.SB p;refine I.upd i L hi.1 (λ_ _=>rfl) (λ_ _=>rfl) (λ_ _=>rfl) (λ_ _=>rfl) (λ_ _=>rfl) (λj g=>aY g) (λj g=>aY g) (λ_ _ h=>h) (λ_ _ _=>Iff.rfl) (λ_ _ _ h=>h) (λd _=>b d) (λd _=>n d) m ?_ ?_ ?_ (I.val L m.1 m.2)
 ·rcases I.ak L m.1 m.2 with h|⟨u,v,w,q⟩
  ·exact .inl h
  ·refine .inr ⟨u,v,?_,?_⟩
   ·show(dZ a.aO i _ (a.own L)).ak=L;rw[aY (b L)];exact w
   ·unfold Abs.holds at q ⊢;show Hold _ _ _ _ _ _ (dZ a.aO i _ (a.own L)) (dZ a.msg i _ (a.own L));rw[aY (b L),aY (b L)];exact q
 ·have hd:dZ a.aO i (.begin k L id) i=bW.begin k L id:=aS;refine .inr ⟨?_,?_,?_,by show 0<=(dZ a.aO i _ i).id/\(dZ a.aO i _ i).id<4096;rw[hd];exact o,?_,.inl ⟨?_,?_,.inl ?_⟩⟩
  ·show(dZ a.aO i _ i).step≠0;rw[hd];show(1:Int)≠0;decide
  ·show 0<=(dZ a.aO i _ i).ak/\(dZ a.aO i _ i).ak<c.aT;rw[hd];exact m
  ·show 1<=(dZ a.aO i _ i).aW/\(dZ a.aO i _ i).aW<=3;rw[hd];exact hk
  ·show(dZ a.aO i _ i).aW=1->(dZ a.aO i _ i).step=1∨(dZ a.aO i _ i).step=2->a.ent (dZ a.aO i _ i).ak i=Z1;rw[hd];exact λh _=>hm h
  ·show(dZ a.aO i _ i).step=1;rw[hd];rfl
  ·show a.own (dZ a.aO i _ i).ak≠i;exact b _
  ·show dZ a.msg i _ i=.req ((dZ a.aO i _ i).ask i (c.bf (dZ a.aO i _ i).ak));rw[hd,aS];rfl
 ·exact(I.ws L).same (i:=i) W (n L) (λj g=>aY g) (λj g=>aY g)
def kZ {d:bW}{hm:Int}(h:1<=d.step/\d.step<=6):(d.ask i hm).aW=Ar d.step/\(d.ask i hm).src=i/\(d.ask i hm).id=d.id/\(d.ask i hm).ak=d.ak:=by
 have:d.step=1∨d.step=2∨d.step=3∨d.step=4∨d.step=5∨d.step=6:=V
 unfold bW.ask Ar;rcases this with h|h|h|h|h|h <;> simp[h]
def Hold.req {N hm:Int}{E:sK}{r:Row}{v:Q Int}{d:bW}{p:Pkt}(h:Hold N hm E r v i d (.req p)):p=d.ask i hm/\2<=d.step/\d.step<=6:=by
 cases h <;> exact⟨W,V,V⟩
def Hold.ans {N hm:Int}{E:sK}{r:Row}{v:Q Int}{d:bW}{p:Pkt}(h:Hold N hm E r v i d (.ans p)):p.dst=i/\p.id=d.id/\p.ak=d.ak/\p.aW=D8 (Ar d.step)/\1<=d.step/\d.step<=5:=by
 cases h
 all_goals (rename_i b;first|skip)
 all_goals (refine⟨W,W,W,?_,V,V⟩;simp[*,Ar,D8])
def Hold.unl {N hm:Int}{E:sK}{r:Row}{v:Q Int}{d:bW}{p:Pkt}(h:Hold N hm E r v i d (.req p))(b:d.step=6):∃l,Wf N E (jd r d) v l:=by
 cases h
 all_goals first|(exfalso;omega)|exact⟨_,by assumption⟩
def nU.req(I:nU c a)(hi:0<=i/\i<c.aF){p:Pkt}(d:a.msg i=.req p):
  alV c a i/\p=(a.aO i).ask i (c.bf p.ak)/\(a.aO i).ak=p.ak/\(1<=(a.aO i).step/\(a.aO i).step<=6)/\
  (((a.aO i).step=1/\a.own p.ak≠i)∨(2<=(a.aO i).step/\a.own p.ak=i/\Hold c.aF (c.bf p.ak) (a.ent p.ak) (a.row p.ak) (a.val p.ak) i (a.aO i) (.req p))):=by
 rcases I.bC i hi.1 hi.2 with⟨_,h⟩|O
 ·rw[h]at d;cases d
 ·rcases O.at_ with⟨k,m,e⟩|b|⟨_,_,e⟩
  ·rcases e with e|⟨e,_⟩
   ·rw[e]at d;have d:=(Out.req.inj d).symm;have g:p.ak=(a.aO i).ak:=by rw[d];exact(kZ V).2.2.2
    rw[g];exact⟨O,d,W,V,.inl ⟨k,m⟩⟩
   ·rw[e]at d;cases d
  ·have⟨_,H⟩:=I.holder O.ak b hi.1;rw[d]at H;have⟨j,n,o⟩:=H.req;have g:p.ak=(a.aO i).ak:=by rw[j];exact(kZ V).2.2.2
   rw[g];exact⟨O,j,W,V,.inr ⟨n,b,H⟩⟩
  ·rw[e]at d;cases d
def nU.lock(I:nU c a)(hi:0<=i/\i<c.aF){p:Pkt}(u:a.msg i=.req p)(hk:p.aW=1)(y:a.own p.ak=-1):
  nU c { a with own:=dZ a.own p.ak i,msg:=dZ a.msg i (.ans ⟨7,c.bf p.ak,i,p.id,p.ak,(a.row p.ak).head,(a.row p.ak).state,ZV,(a.row p.ak).data⟩) }:=by
 have⟨O,v,g,w,z⟩:=I.req hi u;have A:p.aW=Ar (a.aO i).step:=by rw[v];exact(kZ w).1
 have n:p.id=(a.aO i).id:=by rw[v];exact(kZ w).2.2.1
 have o:(a.aO i).step=1:=by
  rcases z with h|⟨h,E,_⟩
  ·exact h.1
  ·omega
 have b:=O.ak;rw[g]at b;have k:=I.SB (i:=i) (by rw[u];exact λe=>by cases e);have q:dZ a.msg i (.ans ⟨7,c.bf p.ak,i,p.id,p.ak,(a.row p.ak).head,(a.row p.ak).state,ZV,(a.row p.ak).data⟩) i=.ans ⟨7,c.bf p.ak,i,p.id,p.ak,(a.row p.ak).head,(a.row p.ak).state,ZV,(a.row p.ak).data⟩:=aS;refine I.upd i p.ak hi.1 (λ_ _=>rfl) (λ_ _=>rfl) (λ_ h=>aY h) (λ_ _=>rfl) (λ_ _=>rfl) (λ_ _=>rfl) (λj m=>aY m) (λ_ _ h=>h) (λj F m=>?_) (λ_ _ _ h=>h) (I.alW hi.1 (.inl g)) (λC _=>k C) b ?_ ?_ ?_ (I.val _ b.1 b.2)
 ·show dZ a.own p.ak i p.ak=j↔_;rw[aS,y];exact⟨λe=>absurd e.symm m,λe=>V⟩
 ·have D:dZ a.own p.ak i p.ak=i:=aS;refine .inr ?_;show 0<=dZ a.own p.ak i p.ak/\dZ a.own p.ak i p.ak<c.aF/\(a.aO (dZ a.own p.ak i p.ak)).ak=p.ak/\Hold _ _ _ _ _ (dZ a.own p.ak i p.ak) (a.aO (dZ a.own p.ak i p.ak)) (dZ a.msg i _ (dZ a.own p.ak i p.ak));rw[D,q];refine⟨hi.1,hi.2,g,?_⟩;rcases I.ak p.ak b.1 b.2 with⟨_,l,W⟩|⟨G,_⟩
  ·have:=Hold.granted (hm:=c.bf p.ak) (i:=i) (d:=a.aO i) o W;rw[g]at this;rw[n];exact this
  ·omega
 ·refine .inr ⟨O.step,O.ak,O.aW,O.idr,O.miss,.inr (.inl ?_)⟩;show dZ a.own p.ak i (a.aO i).ak=i;rw[g,aS]
 ·exact(I.ws _).same (i:=i) Z3 (k _) (λ_ _=>rfl) (λj m=>aY m)
def nU.wait(I:nU c a)(hi:0<=i/\i<c.aF){p:Pkt}(D:a.msg i=.req p)(hk:p.aW=1):
  nU c { a with ws:=dZ a.ws p.ak (a.ws p.ak++[(i,p.id)]),msg:=dZ a.msg i .wait }:=by
 have⟨O,E,n,F,K⟩:=I.req hi D;have o:p.aW=Ar (a.aO i).step:=by rw[E];exact(kZ F).1
 have q:p.id=(a.aO i).id:=by rw[E];exact(kZ F).2.2.1
 have d:(a.aO i).step=1/\a.own p.ak≠i:=by
  rcases K with h|⟨h,_,Q⟩
  ·exact h
  ·exfalso;have:(a.aO i).step=2∨(a.aO i).step=3∨(a.aO i).step=4∨(a.aO i).step=5∨(a.aO i).step=6:=V
   rw[hk]at o;rcases this with h|h|h|h|h <;> simp[h,Ar]at o
 have m:=O.ak;rw[n]at m;have g:=I.SB (i:=i) (by rw[D];exact λe=>by cases e);refine I.upd i p.ak hi.1 (λ_ _=>rfl) (λ_ _=>rfl) (λ_ _=>rfl) (λ_ h=>aY h) (λ_ _=>rfl) (λ_ _=>rfl) (λj u=>aY u) (λ_ _ h=>h) (λj R u=>Iff.rfl) (λj k u h=>?_) (I.alW hi.1 (.inl n)) (λL _=>g L) m ?_ ?_ ?_ (I.val _ m.1 m.2)
 ·show(j,k)∈dZ a.ws p.ak _ p.ak;rw[aS];exact List.mem_append_left _ h
 ·rcases I.ak p.ak m.1 m.2 with h|⟨v,z,M,G⟩
  ·exact .inl h
  ·refine .inr ⟨v,z,M,?_⟩;unfold Abs.holds at G ⊢;show Hold _ _ _ _ _ _ _ (dZ a.msg i _ (a.own p.ak));rw[aY d.2];exact G
 ·refine .inr ⟨O.step,O.ak,O.aW,O.idr,O.miss,.inl ⟨d.1,?_,.inr ⟨aS,?_⟩⟩⟩
  ·show a.own (a.aO i).ak≠i;rw[n];exact d.2
  ·show(i,(a.aO i).id)∈dZ a.ws p.ak _ (a.aO i).ak;rw[n,aS,q];simp
 ·have⟨v,z⟩:=I.ws p.ak;have hw:dZ a.ws p.ak (a.ws p.ak++[(i,p.id)]) p.ak=a.ws p.ak++[(i,p.id)]:=aS;refine⟨?_,λw b=>?_⟩
  ·show((dZ a.ws p.ak _ p.ak).map (·.1)).Nodup;rw[hw,List.map_append,List.nodup_append];refine⟨v,ZZ,λx b y H=>?_⟩;simp only[List.map_cons,List.map_nil,List.mem_cons,List.not_mem_nil,zan]at H;obtain⟨w,A,rfl⟩:=List.mem_map.1 b;rw[H];exact λe=>g p.ak w.2 (by rw[<-e];exact A)
  ·replace b:w∈dZ a.ws p.ak (a.ws p.ak++[(i,p.id)]) p.ak:=b
   rw[hw]at b;show 0<=w.1/\w.1<c.aF/\dZ a.msg i .wait w.1=.wait/\(a.aO w.1).ak=p.ak/\(a.aO w.1).id=w.2/\(a.aO w.1).step=1;rcases List.mem_append.1 b with b|b
   ·have C:w.1≠i:=λe=>g p.ak w.2 (by rw[<-e];exact b);rw[aY C];exact z w b
   ·simp only[List.mem_cons,List.not_mem_nil,zan]at b;subst b;exact⟨hi.1,hi.2,aS,n,q.symm,d.1⟩
def nU.grant(I:nU c a)(n:0<=L/\L<c.aT)(E:a.own L=-1){w:Int × Int}{ws:Q (Int × Int)}(hw:a.ws L=w::ws):
  (0<=w.1/\w.1<c.aF)/\a.msg w.1=.wait/\
  nU c { a with own:=dZ a.own L w.1,ws:=dZ a.ws L ws,msg:=dZ a.msg w.1 (.ans ⟨7,c.bf L,w.1,w.2,L,(a.row L).head,(a.row L).state,ZV,(a.row L).data⟩) }:=by
 have⟨o,D⟩:=I.ws L;have⟨b,m,v,g,y,z⟩:=D w (by rw[hw];simp);rw[hw]at o;simp only[List.map_cons,List.nodup_cons]at o;have A:∀k,(w.1,k)∉ws:=λk hk=>o.1 (List.mem_map.2 ⟨_,hk,Z3⟩);refine⟨⟨b,m⟩,v,?_⟩;have O:alV c a w.1:=by
  rcases I.bC w.1 b m with⟨h,_⟩|O
  ·omega
  ·exact O
 refine I.upd w.1 L b (λ_ _=>rfl) (λ_ _=>rfl) (λ_ h=>aY h) (λ_ h=>aY h) (λ_ _=>rfl) (λ_ _=>rfl) (λj p=>aY p) (λ_ _ h=>h) (λj G p=>?_) (λj k p h=>?_) (I.alW b (.inl g)) (I.ws7 (.inl g)) n ?_ ?_ ?_ (I.val _ n.1 n.2)
 ·show dZ a.own L w.1 L=j↔_;rw[aS,E];exact⟨λe=>absurd e.symm p,λe=>V⟩
 ·show(j,k)∈dZ a.ws L ws L;rw[aS];rw[hw]at h;rcases List.mem_cons.1 h with h|h
  ·exact absurd (zaj Prod.fst h) p
  ·exact h
 ·have F:dZ a.own L w.1 L=w.1:=aS;refine .inr ?_;show 0<=dZ a.own L w.1 L/\dZ a.own L w.1 L<c.aF/\(a.aO (dZ a.own L w.1 L)).ak=L/\Hold _ _ _ _ _ (dZ a.own L w.1 L) (a.aO (dZ a.own L w.1 L)) (dZ a.msg w.1 _ (dZ a.own L w.1 L));rw[F,aS];refine⟨b,m,g,?_⟩;rcases I.ak L n.1 n.2 with⟨_,l,W⟩|⟨o,_⟩
  ·have:=Hold.granted (hm:=c.bf L) (i:=w.1) (d:=a.aO w.1) z W;rw[g,y]at this;exact this
  ·omega
 ·refine .inr ⟨O.step,O.ak,O.aW,O.idr,O.miss,.inr (.inl ?_)⟩;show dZ a.own L w.1 (a.aO w.1).ak=w.1;rw[g,aS]
 ·have q:dZ a.ws L ws L=ws:=aS;refine⟨?_,λx u=>?_⟩
  ·show((dZ a.ws L ws L).map (·.1)).Nodup;rw[q];exact o.2
  ·replace u:x∈dZ a.ws L ws L:=u
   rw[q]at u;have C:x.1≠w.1:=λe=>A x.2 (by rw[<-e];exact u);show 0<=x.1/\x.1<c.aF/\dZ a.msg w.1 _ x.1=.wait/\_;rw[aY C];exact D x (by rw[hw];simp[u])
def nU.unlock(I:nU c a)(hi:0<=i/\i<c.aF){p:Pkt}(v:a.msg i=.req p)(hk:p.aW=2):
  a.own p.ak=i/\(p.state=0∨p.state=1∨p.state=2)/\(∃l,Wf c.aF (a.ent p.ak) (jd (a.row p.ak) (a.aO i)) (a.val p.ak) l)/\p=(a.aO i).ask i (c.bf p.ak)/\(a.aO i).step=6/\
  nU c { a with row:=dZ a.row p.ak (jd (a.row p.ak) (a.aO i)),own:=dZ a.own p.ak (-1),msg:=dZ a.msg i (.ans ⟨8,c.bf p.ak,i,p.id,p.ak,0,0,ZV,[]⟩) }:=by
 have⟨O,m,n,w,z⟩:=I.req hi v;have d:p.aW=Ar (a.aO i).step:=by rw[m];exact(kZ w).1
 have q:p.id=(a.aO i).id:=by rw[m];exact(kZ w).2.2.1
 have b:(a.aO i).step=6:=by
  have:(a.aO i).step=1∨(a.aO i).step=2∨(a.aO i).step=3∨(a.aO i).step=4∨(a.aO i).step=5∨(a.aO i).step=6:=V
  rw[hk]at d;rcases this with h|h|h|h|h|h
  all_goals first|exact h|(exfalso;simp[h,Ar]at d)
 have A:a.own p.ak=i/\Hold c.aF (c.bf p.ak) (a.ent p.ak) (a.row p.ak) (a.val p.ak) i (a.aO i) (.req p):=by
  rcases z with⟨h,_⟩|⟨_,h,C⟩
  ·omega
  ·exact⟨h,C⟩
 have⟨y,H⟩:=A;have D:∃l,Wf c.aF (a.ent p.ak) (jd (a.row p.ak) (a.aO i)) (a.val p.ak) l:=by
  exact H.unl b
 have⟨l,W⟩:=D;have u:p.state=(a.aO i).state:=by rw[m];unfold bW.ask;simp[b]
 have o:=O.ak;rw[n]at o;have g:=I.SB (i:=i) (by rw[v];exact λe=>by cases e);refine⟨y,by rw[u];exact W.st,⟨l,W⟩,m,b,?_⟩;refine I.upd i p.ak hi.1 (λ_ _=>rfl) (λ_ h=>aY h) (λ_ h=>aY h) (λ_ _=>rfl) (λ_ _=>rfl) (λ_ _=>rfl) (λj k=>aY k) (λ_ _ h=>h) (λj F k=>?_) (λ_ _ _ h=>h) (I.alW hi.1 (.inl n)) (λE _=>g E) o ?_ ?_ ?_ (I.val _ o.1 o.2)
 ·show dZ a.own p.ak (-1) p.ak=j↔_;rw[aS,y];exact⟨λe=>V,λe=>absurd e.symm k⟩
 ·refine .inl ⟨aS,l,?_⟩;show Wf _ _ (dZ a.row p.ak _ p.ak) _ _;rw[aS];exact W
 ·refine .inr ⟨O.step,O.ak,O.aW,O.idr,O.miss,.inr (.inr ⟨b,?_,?_⟩)⟩
  ·show dZ a.own p.ak (-1) (a.aO i).ak≠i;rw[n,aS];omega
  ·show dZ a.msg i _ i=.ans (agt c (a.aO i) i);rw[aS,agt,n,q]
 ·exact(I.ws _).same (i:=i) Z3 (g _) (λ_ _=>rfl) (λj k=>aY k)
def nU.served(I:nU c a)(hi:0<=i/\i<c.aF)(d:0<=L/\L<c.aT)(k:a.own L=i){E:sK}{q:Pkt}(m:∀j,a.ent L j=Z1->E j=Z1)(H:Hold c.aF (c.bf L) E (a.row L) (a.val L) i (a.aO i) (.ans q))(hm:a.msg i≠.wait):
  nU c { a with ent:=dZ a.ent L E,msg:=dZ a.msg i (.ans q) }:=by
 have⟨e,H0⟩:=I.holder d k hi.1;have O:alV c a i:=by
  rcases I.bC i hi.1 hi.2 with⟨h,_⟩|O
  ·exact absurd h H0.Pj
  ·exact O
 have b:=I.SB hm;refine I.upd i L hi.1 (λ_ h=>aY h) (λ_ _=>rfl) (λ_ _=>rfl) (λ_ _=>rfl) (λ_ _=>rfl) (λ_ _=>rfl) (λj g=>aY g) (λj _ h=>?_) (λj p g=>Iff.rfl) (λ_ _ _ h=>h) (I.alW hi.1 (.inl e)) (λn _=>b n) d ?_ ?_ ?_ (I.val _ d.1 d.2)
 ·show dZ a.ent L E L j=Z1;rw[aS];exact m j h
 ·refine .inr ?_;show 0<=a.own L/\a.own L<c.aF/\(a.aO (a.own L)).ak=L/\Hold _ _ (dZ a.ent L E L) _ _ (a.own L) (a.aO (a.own L)) (dZ a.msg i _ (a.own L));rw[k,aS,aS];exact⟨hi.1,hi.2,e,H⟩
 ·refine .inr ⟨O.step,O.ak,O.aW,O.idr,λh o=>?_,.inr (.inl ?_)⟩
  ·show dZ a.ent L E (a.aO i).ak i=Z1;have:=O.miss h o;rw[e]at this ⊢;rw[aS];exact m i this
  ·show a.own (a.aO i).ak=i;rw[e];exact k
 ·exact(I.ws _).same (i:=i) W (b _) (λ_ _=>rfl) (λj g=>aY g)
def nU.goes(I:nU c a)(hi:0<=i/\i<c.aF)(n:0<=L/\L<c.aT)(o:a.own L=i)(hm:a.msg i≠.wait){x:M Ent}{v:Q Int}{d:bW}(hv:v≠[])(hd:d.ak=L)(hk:d.aW=(a.aO i).aW)(p:d.id=(a.aO i).id)(g:d.aW=1->d.step=1∨d.step=2->x=Z1)
  (H:Hold c.aF (c.bf L) (pV (a.ent L) i x) (a.row L) v i d (.req (d.ask i (c.bf L)))):
  nU c { a with ent:=dZ a.ent L (pV (a.ent L) i x),val:=dZ a.val L v,aO:=dZ a.aO i d,msg:=dZ a.msg i (.req (d.ask i (c.bf L))) }:=by
 have⟨q,H0⟩:=I.holder n o hi.1;have O:alV c a i:=by
  rcases I.bC i hi.1 hi.2 with⟨h,_⟩|O
  ·exact absurd h H0.Pj
  ·exact O
 have k:=I.SB hm;refine I.upd i L hi.1 (λ_ h=>aY h) (λ_ _=>rfl) (λ_ _=>rfl) (λ_ _=>rfl) (λ_ h=>aY h) (λj e=>aY e) (λj e=>aY e) (λj e h=>?_) (λj y e=>Iff.rfl) (λ_ _ _ h=>h) (I.alW hi.1 (.inl q)) (λu _=>k u) n ?_ ?_ ?_ ?_
 ·show dZ a.ent L _ L j=Z1;rw[aS,fJ e];exact h
 ·refine .inr ?_;show 0<=a.own L/\a.own L<c.aF/\(dZ a.aO i d (a.own L)).ak=L/\Hold _ _ (dZ a.ent L _ L) _ (dZ a.val L v L) (a.own L) (dZ a.aO i d (a.own L)) (dZ a.msg i _ (a.own L));rw[o,aS,aS,aS,aS];exact⟨hi.1,hi.2,hd,H⟩
 ·have b:dZ a.aO i d i=d:=aS;refine .inr ⟨?_,?_,?_,by show 0<=(dZ a.aO i d i).id/\(dZ a.aO i d i).id<4096;rw[b,p];exact O.idr,?_,.inr (.inl ?_)⟩
  ·show(dZ a.aO i d i).step≠0;rw[b];exact H.Pj
  ·show 0<=(dZ a.aO i d i).ak/\(dZ a.aO i d i).ak<c.aT;rw[b,hd];exact n
  ·show 1<=(dZ a.aO i d i).aW/\(dZ a.aO i d i).aW<=3;rw[b,hk];exact O.aW
  ·show(dZ a.aO i d i).aW=1->_->dZ a.ent L _ (dZ a.aO i d i).ak i=Z1;rw[b,hd,aS,ig];intro h w;refine g h ?_;have m:(dZ a.aO i d i).step=1∨(dZ a.aO i d i).step=2:=w;rw[b]at m;exact m
  ·show a.own (dZ a.aO i d i).ak=i;rw[b,hd];exact o
 ·exact(I.ws _).same (i:=i) W (k _) (λj e=>aY e) (λj e=>aY e)
 ·show dZ a.val L v L≠[];rw[aS];exact hv
def nU.over(I:nU c a)(hi:0<=i/\i<c.aF)(F:aut c a i){d:bW}(hd:d.step=0):nU c { a with aO:=dZ a.aO i d,msg:=dZ a.msg i .idle }:=by
 have⟨w,m,n⟩:=F;have O:alV c a i:=by
  rcases I.bC i hi.1 hi.2 with⟨h,_⟩|O
  ·omega
  ·exact O
 have g:=I.SB (i:=i) (by rw[n];exact λe=>by cases e);have k:=O.ak;refine I.upd i (a.aO i).ak hi.1 (λ_ _=>rfl) (λ_ _=>rfl) (λ_ _=>rfl) (λ_ _=>rfl) (λ_ _=>rfl) (λj b=>aY b) (λj b=>aY b) (λ_ _ h=>h) (λj y b=>Iff.rfl) (λ_ _ _ h=>h) (I.alW hi.1 (.inl W)) (λo _=>g o) k ?_ ?_ ?_ (I.val _ k.1 k.2)
 ·rcases I.ak _ k.1 k.2 with h|⟨p,q,u,v⟩
  ·exact .inl h
  ·refine .inr ?_;show 0<=a.own (a.aO i).ak/\a.own (a.aO i).ak<c.aF/\(dZ a.aO i d (a.own (a.aO i).ak)).ak=(a.aO i).ak/\Hold _ _ _ _ _ _ (dZ a.aO i d (a.own (a.aO i).ak)) (dZ a.msg i _ (a.own (a.aO i).ak));rw[aY m,aY m];exact⟨p,q,u,v⟩
 ·refine .inl ⟨?_,aS⟩;show(dZ a.aO i d i).step=0;rw[aS];exact hd
 ·exact(I.ws _).same (i:=i) W (g _) (λj b=>aY b) (λj b=>aY b)
def Wf.touch {N:Int}{E:sK}{r:Row}{v v':List Int}{l:List Int}(W:Wf N E r v l){e e':Ent}(k:E i=some e)(hb:e'.back=e.back)(y:e'.fwd=e.fwd)(hd:e'.bJ=e.bJ)(hv:(e'.data=e.data/\v'=v)∨(e.bJ=true/\e'.data=v')):Wf N (pV E i (some e')) r v' l:=by
 have ch:Chn (pV E i (some e')) (-1) l (-1):=by
  have key:∀(l:List Int) (b x:Int),Chn E b l x->Chn (pV E i (some e')) b l x:=by
   intro l
   induction l with
   |nil=>intro b x _;trivial
   |cons j l z=>
    intro b x h;obtain⟨⟨A,m,d,w⟩,hc⟩:=h;refine⟨?_,z j x hc⟩;by_cases g:j=i
    ·subst g;rw[k]at m;cases m;exact⟨e',ig,by rw[hb,d],by rw[y,w]⟩
    ·exact⟨A,by rw[fJ g];exact m,d,w⟩
  exact key l _ _ W.ch
 refine⟨W.rng,ch,λj x g=>?_,W.head,W.st,W.st0,W.st2,λj x g=>?_,λj x g=>?_,λd=>?_⟩
 ·rcases jI g with⟨h,_⟩|⟨_,h⟩
  ·rw[h];exact W.mem i e k
  ·exact W.mem j x h
 ·rcases jI g with⟨h,p⟩|⟨_,h⟩
  ·cases p;rw[hd];exact W.bJ i e k
  ·exact W.bJ j x h
 ·rcases jI g with⟨h,p⟩|⟨u,h⟩
  ·cases p;rcases hv with⟨o,n⟩|⟨_,n⟩
   ·rw[o,n];exact W.data i e k
   ·exact n
  ·rcases hv with⟨_,n⟩|⟨o,_⟩
   ·rw[n];exact W.data j x h
   ·obtain⟨q,C⟩:=W.st2 ((W.bJ i e k).1 o);have m:=W.mem i e k;have d:=W.mem j x h;rw[C]at m d;simp only[List.mem_cons,List.not_mem_nil,or_false]at m d;exact absurd (d.trans m.symm) u
 ·rcases hv with⟨_,n⟩|⟨o,_⟩
  ·rw[n];exact W.BO d
  ·exact absurd ((W.bJ i e k).1 o) d
def Jv {E:sK}{e e':Ent}(d:E i=ZC e)(g:e'.fwd=e.fwd):∀{l:Q Int},FCh E l->FCh (pV E i (ZC e')) l
 |[],_=>zac
 |j::l,⟨⟨m,b,h⟩,hc⟩=>by
  refine⟨?_,Jv d g hc⟩;by_cases k:j=i
  ·subst k;rw[d]at b;cases b;exact⟨e',ig,by rw[g,h]⟩
  ·exact⟨m,by rw[fJ k];exact b,h⟩
def nM {E:sK}{e e':Ent}(g:E i=ZC e)(hb:e'.back=e.back)(h:e'.fwd=e.fwd):∀{l:Q Int} {b x:Int},Chn E b l x->Chn (pV E i (ZC e')) b l x
 |[],_,_,_=>zac
 |j::l,b,x,⟨⟨o,d,k,m⟩,hc⟩=>by
  refine⟨?_,nM g hb h hc⟩;by_cases n:j=i
  ·subst n;rw[g]at d;cases d;exact⟨e',ig,by rw[hb,k],by rw[h,m]⟩
  ·exact⟨o,by rw[fJ n];exact d,k,m⟩
def Hold.touch {N hm:Int}{E:sK}{r:Row}{v v':Z2 Int}{k:Int}{d:bW}{o:Out}(H:Hold N hm E r v k d o)(aa:i≠k){e e':Ent}(m:E i=ZC e)(hb:e'.back=e.back)(G:e'.fwd=e.fwd)(hd:e'.bJ=e.bJ)(hv:(e'.data=e.data/\v'=v)∨(e.bJ=Z0/\e'.data=v')):Hold N hm (pV E i (ZC e')) r v' k d o:=by
 have b:∀j x,pV E i (ZC e') j=ZC x->∃y,E j=ZC y/\x.bJ=y.bJ:=λj x g=>by
  rcases jI g with⟨h,h'⟩|⟨_,h⟩
  ·cases h';rw[h];exact⟨e,m,hd⟩
  ·exact⟨x,h,Z3⟩
 -- where nothing is bJ the aP are as they were
 have w:(∀j x,E j=ZC x->x.bJ=ZV)->(∀j x,E j=ZC x->x.data=v)->v'=v/\∀j x,pV E i (ZC e') j=ZC x->x.data=v:=λhc af=>by
  have h0:=hc i e m;rcases hv with⟨a1,a2⟩|⟨a1,_⟩
  ·refine⟨a2,λj x g=>?_⟩;rcases jI g with⟨_,h'⟩|⟨_,h⟩
   ·cases h';rw[a1];exact af i e m
   ·exact af j x h
  ·rw[h0]at a1;cases a1
 have mid:∀{ag ad:Z2 Int},Mid N E r v k ag ad->v'=v/\Mid N (pV E i (ZC e')) r v k ag ad:=λM=>by
  have⟨K,Q⟩:=w M.bJ M.data;have⟨ek,hk⟩:=M.ent;refine⟨K,M.rng,λj x g=>?_,⟨ek,by rw[fJ aa.symm];exact hk⟩,M.head,M.st,λj x g=>?_,Q,M.BO⟩
  ·have⟨y,p,_⟩:=b j x g;exact M.mem j y p
  ·have⟨y,p,h⟩:=b j x g;rw[h];exact M.bJ j y p
 cases H with
 |granted n W=>exact .granted n (W.touch m hb G hd hv)
 |attach n z u A W=>exact .attach n z u A (W.touch m hb G hd hv)
 |attached n z u A R C M D X F=>
  have⟨K,Q⟩:=w D X;subst K;exact .attached n z u A R (nM m hb G C) (λj x g=>by have⟨y,p,_⟩:=b j x g;exact M j y p) (λj x g=>by have⟨y,p,h⟩:=b j x g;rw[h];exact D j y p) Q F
 |EJ n z L u A=>
  have al:E k≠Z1->v'=v:=λhk=>by
   rcases hv with⟨_,a2⟩|⟨a1,_⟩
   ·exact a2
   ·exact absurd (L.only i e m a1 k hk) aa.symm
  refine .EJ n z ⟨L.rng,Jv m G L.ch,λj x g=>?_,λj x g=>?_,λj x g ab q hq=>?_⟩ u λhk=>?_
  ·have⟨y,p,_⟩:=b j x g;exact L.mem j y p
  ·rcases jI g with⟨_,h'⟩|⟨am,h⟩
   ·cases h';rcases hv with⟨a1,a2⟩|⟨_,a2⟩
    ·rw[a1,a2];exact L.data i e m
    ·exact a2
   ·rcases hv with⟨_,a2⟩|⟨a1,_⟩
    ·rw[a2];exact L.data j x h
    ·exact absurd (L.only i e m a1 j (by rw[h];simp)) am
  ·have⟨y,p,T⟩:=b j x g;refine L.only j y p (by rw[<-T];exact ab) q ?_;intro ae;by_cases ai:q=i
   ·rw[ai,m]at ae;cases ae
   ·rw[fJ ai]at hq;exact hq ae
  ·rw[fJ aa.symm]at hk;rw[al hk];exact A hk
 |BP n z L u A=>
  have⟨K,Q⟩:=w u L.data;subst K;refine .BP n z ⟨L.rng,Jv m G L.ch,λj x g=>?_,Q,λj x g ab q hq=>?_⟩ (λj x g=>?_) λhk=>?_
  ·have⟨y,p,_⟩:=b j x g;exact L.mem j y p
  ·have⟨y,p,T⟩:=b j x g;rw[T,u j y p]at ab;cases ab
  ·have⟨y,p,T⟩:=b j x g;rw[T];exact u j y p
  ·rw[fJ aa.symm]at hk;exact A hk
 |front n z M u C A h5 h6=>
  have⟨K,Q⟩:=mid M;subst K;exact .front n z Q u (nM m hb G C) A h5 h6
 |vS n z M u C C' A h5 h6=>
  have⟨K,Q⟩:=mid M;subst K;exact .vS n z Q u (nM m hb G C) (nM m hb G C') A h5 h6
 |behind n z M u C C' A h5 h6=>
  have⟨K,Q⟩:=mid M;subst K;exact .behind n z Q u (nM m hb G C) (nM m hb G C') A h5 h6
 |qg n z M u C C' A h5 h6=>
  have⟨K,Q⟩:=mid M;subst K;exact .qg n z Q u (nM m hb G C) (nM m hb G C') A h5 h6
 |unlock n W=>exact .unlock n (W.touch m hb G hd hv)
def nU.hit(I:nU c a)(hi:0<=i/\i<c.aF)(h0:(a.aO i).step=0)(m:0<=L/\L<c.aT){e e':Ent}{v':Q Int}(o:a.ent L i=ZC e)(hb:e'.back=e.back)(p:e'.fwd=e.fwd)(hd:e'.bJ=e.bJ)(hv:(e'.data=e.data/\v'=a.val L)∨(e.bJ=Z0/\e'.data=v'))(u:v'≠[]):
  nU c { a with ent:=dZ a.ent L (pV (a.ent L) i (ZC e')),val:=dZ a.val L v' }:=by
 have b:∀d,a.own d≠i:=λd e=>(I.only hi.1 d e).2 h0;have g:(a.aO i).step=0/\a.msg i=.idle:=by
  rcases I.bC i hi.1 hi.2 with h|O
  ·exact h
  ·exact absurd h0 O.step
 have k:=I.SB (i:=i) (by rw[g.2];exact λe=>by cases e);refine I.upd i L hi.1 (λ_ h=>aY h) (λ_ _=>rfl) (λ_ _=>rfl) (λ_ _=>rfl) (λ_ h=>aY h) (λ_ _=>rfl) (λ_ _=>rfl) (λj v h=>?_) (λ_ _ _=>Iff.rfl) (λ_ _ _ h=>h) (λd _=>b d) (λd _=>k d) m ?_ (.inl g) ?_ ?_
 ·show dZ a.ent L _ L j=Z1;rw[aS,fJ v];exact h
 ·rcases I.ak L m.1 m.2 with⟨n,l,W⟩|⟨n,w,y,q⟩
  ·refine .inl ⟨n,l,?_⟩;show Wf _ (dZ a.ent L _ L) _ (dZ a.val L v' L) l;rw[aS,aS];exact W.touch o hb p hd hv
  ·refine .inr ⟨n,w,y,?_⟩;unfold Abs.holds at q ⊢;show Hold _ _ (dZ a.ent L _ L) _ (dZ a.val L v' L) _ _ _;rw[aS,aS];exact q.touch (b L).symm o hb p hd hv
 ·exact(I.ws L).same (i:=i) Z3 (k L) (λ_ _=>rfl) (λ_ _=>rfl)
 ·show dZ a.val L v' L≠[];rw[aS];exact u
end
def xJ(p:Port):Q Pkt:=p.rq++p.rin
def xK(p:Port):Q Pkt:=p.an++p.ain
def BQ(f:Fab):Q Pkt:=f.l.flatMap xJ
def BR(f:Fab):Q Pkt:=f.l.flatMap xK
structure Pm(msg:Int->Out)(k:Int)(q:Port):Prop where
 rq:∀p∈q.rq,p.src=k/\wB p.aW=true/\msg k=.req p
 rin:∀p∈q.rin,p.dst=k/\wB p.aW=true/\msg p.src=.req p
 an:∀p∈q.an,p.src=k/\wB p.aW=false/\msg p.dst=.ans p
 ain:∀p∈q.ain,p.dst=k/\wB p.aW=false/\msg k=.ans p
structure pK(f:Fab)(msg:Int->Out):Prop where
 port:∀(k:Nat) q,f.l[k]?=some q->Pm msg k q
 rn:((BQ f).map (·.src)).Nodup
 an:((BR f).map (·.dst)).Nodup
 rc:∀i p,msg i=.req p->p∈BQ f
 ac:∀i p,msg i=.ans p->p∈BR f
 src:∀i p,msg i=.req p->p.src=i
 dst:∀i p,msg i=.ans p->p.dst=i
 rg:∀i p,msg i=.req p∨msg i=.ans p->f.is i=true
def jo {g:Port->Q Pkt}{q q':Port}:∀{l:Q Port} {k:Nat},l[k]?=ZC q->∀{x y:Q Pkt},(x++g q').Perm (y++g q)->(x++(l.set k q').flatMap g).Perm (y++l.flatMap g)
 |[],k,h,_,_,_=>by simp at h
 |p::l,0,h,x,y,b=>by
  simp only[List.getElem?_cons_zero,Option.some.injEq]at h;subst h;simp only[List.set_cons_zero,List.flatMap_cons,<-List.append_assoc];exact b.append_right _
 |p::l,k+1,h,x,y,b=>by
  simp only[List.getElem?_cons_succ]at h;have d:=jo h b;simp only[List.set_cons_succ,List.flatMap_cons];have e:(x++(g p++(l.set k q').flatMap g)).Perm (g p++(x++(l.set k q').flatMap g)):=by
   rw[<-List.append_assoc,<-List.append_assoc];exact List.perm_append_comm.append_right _
  have i:(g p++(y++l.flatMap g)).Perm (y++(g p++l.flatMap g)):=by
   rw[<-List.append_assoc,<-List.append_assoc];exact List.perm_append_comm.append_right _
  exact e.trans ((d.append_left _).trans i)
def gI {f:Fab}{i:Int}(h:f.is i=Z0):f.l[i.toNat]?=ZC (f.port i):=by
 unfold Fab.is at h;simp only[Bool.and_eq_true,zab]at h;unfold Fab.port;rw[List.getD_eq_getElem?_getD,List.getElem?_eq_getElem V,Option.getD_some]
def tu {f:Fab}{i:Int}{q:Port}(h:f.is i=Z0){k:Nat}{q':Port}(hk:(f.put i q).l[k]?=ZC q'):(k=i.toNat/\q'=q)∨(k≠i.toNat/\f.l[k]?=ZC q'):=by
 simp only[Fab.put]at hk;by_cases e:i.toNat=k
 ·rw[e]at hk;have b:k<f.l.length:=by
   unfold Fab.is at h;simp only[Bool.and_eq_true,zab]at h;omega
  rw[List.getElem?_set_self b]at hk;exact .inl ⟨e.symm,(Option.some.inj hk).symm⟩
 ·rw[List.getElem?_set_ne e]at hk;exact .inr ⟨λh=>e h.symm,hk⟩
def vT {f:Fab}{i:Int}(h:f.is i=Z0):((i.toNat:Nat):Int)=i:=by
 unfold Fab.is at h;simp only[Bool.and_eq_true,zab]at h;omega
section
variable {f:Fab}{msg:Int->Out}{i:Int}{p:Pkt}
def pK.at_(R:pK f msg)(h:f.is i=Z0):Pm msg i (f.port i):=by
 have:=R.port _ _ (gI h);rw[vT h]at this;exact this
def BU {k:Nat}{q:Port}(h:f.l[k]?=ZC q)(b:p∈q.rq∨p∈q.rin):p∈BQ f:=List.mem_flatMap.2 ⟨q,List.mem_of_getElem? h,List.mem_append.2 b⟩
def BX {k:Nat}{q:Port}(h:f.l[k]?=ZC q)(b:p∈q.an∨p∈q.ain):p∈BR f:=List.mem_flatMap.2 ⟨q,List.mem_of_getElem? h,List.mem_append.2 b⟩
def pK.req(R:pK f msg)(h:p∈BQ f):msg p.src=.req p:=by
 have⟨q,e,d⟩:=List.mem_flatMap.1 h;have⟨k,hk⟩:=List.mem_iff_getElem?.1 e;rcases List.mem_append.1 d with d|d
 ·have⟨a,_,b⟩:=(R.port k q hk).rq p d;rw[a];exact b
 ·exact((R.port k q hk).rin p d).2.2
def pK.ans(R:pK f msg)(h:p∈BR f):msg p.dst=.ans p:=by
 have⟨q,e,d⟩:=List.mem_flatMap.1 h;have⟨k,hk⟩:=List.mem_iff_getElem?.1 e;rcases List.mem_append.1 d with d|d
 ·exact((R.port k q hk).an p d).2.2
 ·have⟨a,_,b⟩:=(R.port k q hk).ain p d;rw[a];exact b
def pK.arv(R:pK f msg)(h0:∀q,msg p.src≠.req q)(C:∀q,msg p.src≠.ans q)(u:p.ok=Z0)(hk:wB p.aW=Z0)(n:f.is p.src=Z0)(hd:f.is p.dst=Z0)(F:1<=f.out):
  (f.send p).2=0/\pK (f.send p).1 (dZ msg p.src (.req p)):=by
 have P:=R.at_ n;have z:(f.port p.src).rq=[]:=by
  cases e:(f.port p.src).rq with
  |nil=>rfl
  |cons q l=>exact absurd (P.rq q (by rw[e];simp)).2.2 (h0 q)
 have o:f.send p=(f.put p.src { f.port p.src with rq:=[p] },0):=by
  unfold Fab.send;simp only[u,n,hd,hk,Port.sort,Port.lS,zad,z,List.length_nil,List.nil_append,Bool.not_true,Bool.or_self,Bool.false_eq_true,zaf];rw[Ys V]
 rw[o];refine⟨W,?_⟩;have v:(BQ (f.put p.src { f.port p.src with rq:=[p] })).Perm (p::BQ f):=by
  have:=jo (g:=xJ) (gI n) (q':={ f.port p.src with rq:=[p] }) (x:=[]) (y:=[p]) (by simp[xJ,z])
  simpa [BQ,Fab.put]using this
 have A:(BR (f.put p.src { f.port p.src with rq:=[p] })).Perm (BR f):=by
  have:=jo (g:=xK) (gI n) (q':={ f.port p.src with rq:=[p] }) (x:=[]) (y:=[]) (by simp[xK])
  simpa [BR,Fab.put]using this
 have m:∀j q,msg j=.req q∨msg j=.ans q->dZ msg p.src (.req p) j=msg j:=λj q h=>aY λe=>by
  subst e;rcases h with h|h
  ·exact h0 q h
  ·exact C q h
 refine⟨λk q w=>?_,?_,?_,λj q d=>?_,λj q d=>?_,λj q d=>?_,λj q d=>?_,λj q d=>?_⟩
 ·rcases tu n w with⟨e,rfl⟩|⟨_,h⟩
  ·have D:(k:Int)=p.src:=by rw[e];exact vT n
   rw[D];refine⟨λq i=>?_,λq i=>?_,λq i=>?_,λq i=>?_⟩
   ·simp only[List.mem_cons,List.not_mem_nil,zan]at i;subst i;exact⟨W,hk,aS⟩
   ·have⟨a,b,c⟩:=P.rin q i;exact⟨a,b,by rw[m _ _ (.inl c)];exact c⟩
   ·have⟨a,b,c⟩:=P.an q i;exact⟨a,b,by rw[m _ _ (.inr c)];exact c⟩
   ·have⟨a,b,c⟩:=P.ain q i;exact⟨a,b,by rw[m _ _ (.inr c)];exact c⟩
  ·have Q:=R.port k q h;refine⟨λq i=>?_,λq i=>?_,λq i=>?_,λq i=>?_⟩
   ·have⟨a,b,c⟩:=Q.rq q i;exact⟨a,b,by rw[m _ _ (.inl c)];exact c⟩
   ·have⟨a,b,c⟩:=Q.rin q i;exact⟨a,b,by rw[m _ _ (.inl c)];exact c⟩
   ·have⟨a,b,c⟩:=Q.an q i;exact⟨a,b,by rw[m _ _ (.inr c)];exact c⟩
   ·have⟨a,b,c⟩:=Q.ain q i;exact⟨a,b,by rw[m _ _ (.inr c)];exact c⟩
 ·refine((v.map _).nodup_iff).2 (List.nodup_cons.2 ⟨λhm=>?_,R.rn⟩);have⟨q,i,e⟩:=List.mem_map.1 hm;have:=R.req i;simp only at e;rw[e]at this;exact h0 q this
 ·exact((A.map _).nodup_iff).2 R.an
 ·by_cases e:j=p.src
  ·rw[e,aS]at d;cases d;exact v.mem_iff.2 O
  ·rw[aY e]at d;exact v.mem_iff.2 (List.mem_cons_of_mem _ (R.rc j q d))
 ·by_cases e:j=p.src
  ·rw[e,aS]at d;cases d
  ·rw[aY e]at d;exact A.mem_iff.2 (R.ac j q d)
 ·by_cases e:j=p.src
  ·rw[e,aS]at d;cases d;exact e.symm
  ·rw[aY e]at d;exact R.src j q d
 ·by_cases e:j=p.src
  ·rw[e,aS]at d;cases d
  ·rw[aY e]at d;exact R.dst j q d
 ·have E:(f.put p.src { f.port p.src with rq:=[p] }).is j=f.is j:=by simp[Fab.is,Fab.put]
  rw[E];by_cases e:j=p.src
  ·rw[e];exact n
  ·rw[aY e]at d;exact R.rg j q d
def pK.Zn(R:pK f msg)(h0:∀q,msg p.dst≠.req q)(A:∀q,msg p.dst≠.ans q)(u:p.ok=Z0)(hk:wB p.aW=ZV)(n:f.is p.src=Z0)(hd:f.is p.dst=Z0)(v:f.roomOf p.src ZV > 0):
  (f.send p).2=0/\pK (f.send p).1 (dZ msg p.dst (.ans p)):=by
 have P:=R.at_ n;have o:f.send p=(f.put p.src { f.port p.src with an:=(f.port p.src).an++[p] },0):=by
  unfold Fab.send;unfold Fab.roomOf at v;rw[YY n]at v;simp only[Port.sort,Bool.false_eq_true,zaf]at v;simp only[u,n,hd,hk,Port.sort,Port.lS,Bool.not_true,Bool.or_self,Bool.false_eq_true,zaf];rw[F V]
 rw[o];refine⟨W,?_⟩;have w:(BR (f.put p.src { f.port p.src with an:=(f.port p.src).an++[p] })).Perm (p::BR f):=by
  have:=jo (g:=xK) (gI n) (q':={ f.port p.src with an:=(f.port p.src).an++[p] }) (x:=[]) (y:=[p]) (by
   simp only[xK,List.nil_append,List.append_assoc,List.singleton_append];exact List.perm_middle)
  simpa [BR,Fab.put]using this
 have C:(BQ (f.put p.src { f.port p.src with an:=(f.port p.src).an++[p] })).Perm (BQ f):=by
  have:=jo (g:=xJ) (gI n) (q':={ f.port p.src with an:=(f.port p.src).an++[p] }) (x:=[]) (y:=[]) (by simp[xJ])
  simpa [BQ,Fab.put]using this
 have m:∀j q,msg j=.req q∨msg j=.ans q->dZ msg p.dst (.ans p) j=msg j:=λj q h=>aY λe=>by
  subst e;rcases h with h|h
  ·exact h0 q h
  ·exact A q h
 refine⟨λk q z=>?_,?_,?_,λj q d=>?_,λj q d=>?_,λj q d=>?_,λj q d=>?_,λj q d=>?_⟩
 ·rcases tu n z with⟨e,rfl⟩|⟨_,h⟩
  ·have D:(k:Int)=p.src:=by rw[e];exact vT n
   rw[D];refine⟨λq i=>?_,λq i=>?_,λq i=>?_,λq i=>?_⟩
   ·have⟨a,b,c⟩:=P.rq q i;exact⟨a,b,by rw[m _ _ (.inl c)];exact c⟩
   ·have⟨a,b,c⟩:=P.rin q i;exact⟨a,b,by rw[m _ _ (.inl c)];exact c⟩
   ·rcases List.mem_append.1 i with i|i
    ·have⟨a,b,c⟩:=P.an q i;exact⟨a,b,by rw[m _ _ (.inr c)];exact c⟩
    ·simp only[List.mem_cons,List.not_mem_nil,zan]at i;subst i;exact⟨W,hk,aS⟩
   ·have⟨a,b,c⟩:=P.ain q i;exact⟨a,b,by rw[m _ _ (.inr c)];exact c⟩
  ·have Q:=R.port k q h;refine⟨λq i=>?_,λq i=>?_,λq i=>?_,λq i=>?_⟩
   ·have⟨a,b,c⟩:=Q.rq q i;exact⟨a,b,by rw[m _ _ (.inl c)];exact c⟩
   ·have⟨a,b,c⟩:=Q.rin q i;exact⟨a,b,by rw[m _ _ (.inl c)];exact c⟩
   ·have⟨a,b,c⟩:=Q.an q i;exact⟨a,b,by rw[m _ _ (.inr c)];exact c⟩
   ·have⟨a,b,c⟩:=Q.ain q i;exact⟨a,b,by rw[m _ _ (.inr c)];exact c⟩
 ·exact((C.map _).nodup_iff).2 R.rn
 ·refine((w.map _).nodup_iff).2 (List.nodup_cons.2 ⟨λhm=>?_,R.an⟩);have⟨q,i,e⟩:=List.mem_map.1 hm;have:=R.ans i;simp only at e;rw[e]at this;exact A q this
 ·by_cases e:j=p.dst
  ·rw[e,aS]at d;cases d
  ·rw[aY e]at d;exact C.mem_iff.2 (R.rc j q d)
 ·by_cases e:j=p.dst
  ·rw[e,aS]at d;cases d;exact w.mem_iff.2 O
  ·rw[aY e]at d;exact w.mem_iff.2 (List.mem_cons_of_mem _ (R.ac j q d))
 ·by_cases e:j=p.dst
  ·rw[e,aS]at d;cases d
  ·rw[aY e]at d;exact R.src j q d
 ·by_cases e:j=p.dst
  ·rw[e,aS]at d;cases d;exact e.symm
  ·rw[aY e]at d;exact R.dst j q d
 ·have E:(f.put p.src { f.port p.src with an:=(f.port p.src).an++[p] }).is j=f.is j:=by simp[Fab.is,Fab.put]
  rw[E];by_cases e:j=p.dst
  ·rw[e];exact hd
  ·rw[aY e]at d;exact R.rg j q d
def pK.takeA(R:pK f msg){D:Fab}(h:f.take i ZV=(D,ZC p)):f.is i=Z0/\p.dst=i/\wB p.aW=ZV/\msg i=.ans p/\pK D (dZ msg i .idle)/\D.out=f.out/\D.l.length=f.l.length:=by
 unfold Fab.take at h;split at h
 case isFalse=>cases h
 rename_i u;split at h
 ·cases h
 rename_i E l w;simp only[zaa,Option.some.injEq]at h;obtain⟨rfl,rfl⟩:=h;simp only[Port.uG,Bool.false_eq_true,zaf]at w;have P:=R.at_ u;have⟨F,L,G⟩:=P.ain E (by rw[w];simp);refine⟨u,F,L,G,?_,W,by simp[Fab.put]⟩;have z:(f.port i).lG ZV l={ f.port i with ain:=l }:=by simp[Port.lG]
 rw[z];have H:(E::BR (f.put i { f.port i with ain:=l })).Perm (BR f):=by
  have:=jo (g:=xK) (gI u) (q':={ f.port i with ain:=l }) (x:=[E]) (y:=[]) (by
   simp only[xK,List.nil_append,w,List.singleton_append];exact List.perm_middle.symm)
  simpa [BR,Fab.put]using this
 have K:(BQ (f.put i { f.port i with ain:=l })).Perm (BQ f):=by
  have:=jo (g:=xJ) (gI u) (q':={ f.port i with ain:=l }) (x:=[]) (y:=[]) (by simp[xJ])
  simpa [BQ,Fab.put]using this
 have nd:(E.dst::(BR (f.put i { f.port i with ain:=l })).map (·.dst)).Nodup:=((H.map Pkt.dst).nodup_iff).2 R.an;have A:∀q∈BR (f.put i { f.port i with ain:=l }),q.dst≠i:=λq m e=>(List.nodup_cons.1 nd).1 (List.mem_map.2 ⟨q,m,e.trans F.symm⟩);have v:∀q∈BQ f,q.src≠i:=λq m e=>by
  have:=R.req m;rw[e,G]at this;cases this
 refine⟨λk q C=>?_,?_,?_,λj q d=>?_,λj q d=>?_,λj q d=>?_,λj q d=>?_,λj q d=>?_⟩
 ·have n:∀x,(x∈q.an∨x∈q.ain)->x.dst≠i:=λx o=>A x (BX C o);rcases tu u C with⟨e,rfl⟩|⟨_,h⟩
  ·have M:(k:Int)=i:=by rw[e];exact vT u
   rw[M];refine⟨λq m=>?_,λq m=>?_,λq m=>?_,λq m=>?_⟩
   ·exact absurd ((P.rq q m).1) (v q (BU (gI u) (.inl m)))
   ·have⟨a,b,c⟩:=P.rin q m;exact⟨a,b,by rw[aY (v q (BU (gI u) (.inr m)))];exact c⟩
   ·have⟨a,b,c⟩:=P.an q m;exact⟨a,b,by rw[aY (n q (.inl m))];exact c⟩
   ·have:=n q (.inr m);exact absurd (P.ain q (by rw[w];exact List.mem_cons_of_mem _ m)).1 this
  ·have Q:=R.port k q h;refine⟨λx o=>?_,λx o=>?_,λx o=>?_,λx o=>?_⟩
   ·have⟨a,b,c⟩:=Q.rq x o;have:=v x (BU h (.inl o));exact⟨a,b,by rw[aY V];exact c⟩
   ·have⟨a,b,c⟩:=Q.rin x o;exact⟨a,b,by rw[aY (v x (BU h (.inr o)))];exact c⟩
   ·have⟨a,b,c⟩:=Q.an x o;exact⟨a,b,by rw[aY (n x (.inl o))];exact c⟩
   ·have⟨a,b,c⟩:=Q.ain x o;have:=n x (.inr o);exact⟨a,b,by rw[aY V];exact c⟩
 ·exact((K.map _).nodup_iff).2 R.rn
 ·exact(List.nodup_cons.1 nd).2
 ·by_cases e:j=i
  ·rw[e,aS]at d;cases d
  ·rw[aY e]at d;exact K.mem_iff.2 (R.rc j q d)
 ·by_cases e:j=i
  ·rw[e,aS]at d;cases d
  ·rw[aY e]at d;rcases List.mem_cons.1 (H.mem_iff.2 (R.ac j q d))with h|h
   ·have:=R.dst j q d;rw[h,F]at this;exact absurd this.symm e
   ·exact h
 ·by_cases e:j=i
  ·rw[e,aS]at d;cases d
  ·rw[aY e]at d;exact R.src j q d
 ·by_cases e:j=i
  ·rw[e,aS]at d;cases d
  ·rw[aY e]at d;exact R.dst j q d
 ·have w:(f.put i { f.port i with ain:=l }).is j=f.is j:=by simp[Fab.is,Fab.put]
  rw[w];by_cases e:j=i
  ·rw[e];exact u
  ·rw[aY e]at d;exact R.rg j q d
def pK.auu(R:pK f msg){A:Fab}(h:f.take i Z0=(A,ZC p)):f.is i=Z0/\p.dst=i/\wB p.aW=Z0/\msg p.src=.req p/\pK A (dZ msg p.src .idle)/\A.out=f.out/\A.l.length=f.l.length/\(∀k,A.roomOf k ZV=f.roomOf k ZV):=by
 unfold Fab.take at h;split at h
 case isFalse=>cases h
 rename_i v;split at h
 ·cases h
 rename_i o l z;simp only[zaa,Option.some.injEq]at h;obtain⟨rfl,rfl⟩:=h;simp only[Port.uG,zad]at z;have P:=R.at_ v;have⟨L,M,F⟩:=P.rin o (by rw[z];simp);have C:(f.port i).lG Z0 l={ f.port i with rin:=l }:=by simp[Port.lG]
 rw[C];refine⟨v,L,M,F,?_,W,by simp[Fab.put],λk=>?_⟩;rotate_left
 ·have G:=v;unfold Fab.is at G;simp only[Bool.and_eq_true,zab]at G;unfold Fab.roomOf Fab.is Fab.port Fab.put;simp only[List.length_set,List.getD_eq_getElem?_getD];by_cases e:i.toNat=k.toNat
  ·rw[<-e,List.getElem?_set_self V];simp only[Option.getD_some,Port.sort,Bool.false_eq_true,zaf]
  ·rw[List.getElem?_set_ne e]
 have H:(o::BQ (f.put i { f.port i with rin:=l })).Perm (BQ f):=by
  have:=jo (g:=xJ) (gI v) (q':={ f.port i with rin:=l }) (x:=[o]) (y:=[]) (by
   simp only[xJ,List.nil_append,z,List.singleton_append];exact List.perm_middle.symm)
  simpa [BQ,Fab.put]using this
 have K:(BR (f.put i { f.port i with rin:=l })).Perm (BR f):=by
  have:=jo (g:=xK) (gI v) (q':={ f.port i with rin:=l }) (x:=[]) (y:=[]) (by simp[xK])
  simpa [BR,Fab.put]using this
 have nd:(o.src::(BQ (f.put i { f.port i with rin:=l })).map (·.src)).Nodup:=((H.map Pkt.src).nodup_iff).2 R.rn;have D:∀q∈BQ (f.put i { f.port i with rin:=l }),q.src≠o.src:=λq m e=>(List.nodup_cons.1 nd).1 (List.mem_map.2 ⟨q,m,e⟩);have w:∀q∈BR f,q.dst≠o.src:=λq m e=>by
  have:=R.ans m;rw[e,F]at this;cases this
 refine⟨λk q E=>?_,?_,?_,λj q d=>?_,λj q d=>?_,λj q d=>?_,λj q d=>?_,λj q d=>?_⟩
 ·have n:∀x,(x∈q.rq∨x∈q.rin)->x.src≠o.src:=λx u=>D x (BU E u);rcases tu v E with⟨e,rfl⟩|⟨_,h⟩
  ·have T:(k:Int)=i:=by rw[e];exact vT v
   rw[T];refine⟨λq m=>?_,λq m=>?_,λq m=>?_,λq m=>?_⟩
   ·have⟨a,b,c⟩:=P.rq q m;have:=n q (.inl m);exact⟨a,b,by rw[aY V];exact c⟩
   ·have⟨a,b,c⟩:=P.rin q (by rw[z];exact List.mem_cons_of_mem _ m);exact⟨a,b,by rw[aY (n q (.inr m))];exact c⟩
   ·have⟨a,b,c⟩:=P.an q m;exact⟨a,b,by rw[aY (w q (BX (gI v) (.inl m)))];exact c⟩
   ·have⟨a,b,c⟩:=P.ain q m;have:=w q (BX (gI v) (.inr m));exact⟨a,b,by rw[aY V];exact c⟩
  ·have Q:=R.port k q h;refine⟨λx u=>?_,λx u=>?_,λx u=>?_,λx u=>?_⟩
   ·have⟨a,b,c⟩:=Q.rq x u;have:=n x (.inl u);exact⟨a,b,by rw[aY V];exact c⟩
   ·have⟨a,b,c⟩:=Q.rin x u;exact⟨a,b,by rw[aY (n x (.inr u))];exact c⟩
   ·have⟨a,b,c⟩:=Q.an x u;exact⟨a,b,by rw[aY (w x (BX h (.inl u)))];exact c⟩
   ·have⟨a,b,c⟩:=Q.ain x u;have:=w x (BX h (.inr u));exact⟨a,b,by rw[aY V];exact c⟩
 ·exact(List.nodup_cons.1 nd).2
 ·exact((K.map _).nodup_iff).2 R.an
 ·by_cases e:j=o.src
  ·rw[e,aS]at d;cases d
  ·rw[aY e]at d;rcases List.mem_cons.1 (H.mem_iff.2 (R.rc j q d))with h|h
   ·have:=R.src j q d;rw[h]at this;exact absurd this.symm e
   ·exact h
 ·by_cases e:j=o.src
  ·rw[e,aS]at d;cases d
  ·rw[aY e]at d;exact K.mem_iff.2 (R.ac j q d)
 ·by_cases e:j=o.src
  ·rw[e,aS]at d;cases d
  ·rw[aY e]at d;exact R.src j q d
 ·by_cases e:j=o.src
  ·rw[e,aS]at d;cases d
  ·rw[aY e]at d;exact R.dst j q d
 ·have z:(f.put i { f.port i with rin:=l }).is j=f.is j:=by simp[Fab.is,Fab.put]
  rw[z];by_cases e:j=o.src
  ·rw[e];exact R.rg _ o (.inl F)
  ·rw[aY e]at d;exact R.rg j q d
def zU {p:Pkt}:∀{l:Q Port} {i0 k:Nat},(l.flatMap λq=>q.rq++q.an)[k]?=ZC p->∃i req k' q,Au l i0 k=ZC (i0+i,req,k')/\l[i]?=ZC q/\(q.sort req)[k']?=ZC p
 |[],_,_,h=>by simp at h
 |q::l,i0,k,h=>by
  simp only[List.flatMap_cons]at h;unfold Au;by_cases b:k<q.rq.length
  ·rw[y b];rw[List.append_assoc,List.getElem?_append_left b]at h;exact⟨0,Z0,k,q,W,W,h⟩
  ·rw[F b];by_cases d:k<q.rq.length+q.an.length
   ·rw[y d];rw[List.append_assoc,List.getElem?_append_right V,List.getElem?_append_left V]at h;exact⟨0,ZV,k-q.rq.length,q,W,W,h⟩
   ·rw[F d];rw[List.getElem?_append_right (by rw[List.length_append];omega),List.length_append]at h;have⟨i,req,k',e,g,j,m⟩:=zU (i0:=i0+1) h;exact⟨i+1,req,k',e,by rw[g];simp only[Nat.add_assoc,Nat.add_comm 1 i],j,m⟩
def DJ {k:Nat}{q q':Port}:∀{l:Q Port},l[k]?=ZC q->q'.rq=q.rq->q'.an=q.an->(l.set k q').flatMap (λq=>q.rq++q.an)=l.flatMap (λq=>q.rq++q.an):=by
 induction k with
 |zero=>
  intro l h a b;cases l with
  |nil=>simp at h
  |cons x l=>
   simp only[List.getElem?_cons_zero,Option.some.injEq]at h;subst h;simp[a,b]
 |succ k d=>
  intro l h a b;cases l with
  |nil=>simp at h
  |cons x l=>
   simp only[List.getElem?_cons_succ]at h;simp only[List.set_cons_succ,List.flatMap_cons,d h a b]
def LX {k:Nat}:∀{l:Q Pkt},l[k]?=ZC p->(p::l.eraseIdx k).Perm l:=by
 induction k with
 |zero=>
  intro l h;cases l with
  |nil=>simp at h
  |cons x l=>
   simp only[List.getElem?_cons_zero,Option.some.injEq]at h;subst h;exact .refl _
 |succ k b=>
  intro l h;cases l with
  |nil=>simp at h
  |cons x l=>
   simp only[List.getElem?_cons_succ]at h;simp only[List.eraseIdx_cons_succ];exact(List.Perm.swap _ _ _).trans ((b h).cons _)
def XY {f:Fab}{i:Nat}{q:Port}(h:f.l[i]?=ZC q):f.port i=q:=by
 unfold Fab.port;rw[Int.toNat_natCast,List.getD_eq_getElem?_getD,h,Option.getD_some]
def ajE {f:Fab}{i:Nat}{q:Port}(h:f.l[i]?=ZC q):f.is i=true:=by
 have:=(List.getElem?_eq_some_iff.1 h).1;unfold Fab.is;simp only[Bool.and_eq_true,zab];exact⟨V,V⟩
def pK.deliver(R:pK f msg)(W:∀p∈f.all,f.is p.dst=Z0)(a b m:Int):pK (f.deliver a b m).1 msg:=by
 unfold Fab.deliver;split
 ·exact R
 split
 ·exact R
 rename_i p X;have hd:=W p (List.mem_of_getElem? X);split
 ·exact R
 split
 ·exact R
 rename_i hr;simp only;cases hk:wB p.aW with
 |true=>
  have u:(f.port p.dst).lG Z0 ((f.port p.dst).uG Z0++[p])=(⟨(f.port p.dst).rq,(f.port p.dst).rin++[p],(f.port p.dst).an,(f.port p.dst).ain⟩:Port):=by simp[Port.lG,Port.uG]
  rw[u];have v:(f.put p.dst (⟨(f.port p.dst).rq,(f.port p.dst).rin++[p],(f.port p.dst).an,(f.port p.dst).ain⟩:Port)).all[a.toNat]?=ZC p:=by
   unfold Fab.all Fab.put;rw[DJ (q':=(⟨(f.port p.dst).rq,(f.port p.dst).rin++[p],(f.port p.dst).an,(f.port p.dst).ain⟩:Port)) (gI hd) Z3 Z3];exact X
  have⟨i,req,k',q,K,o,z⟩:=zU (i0:=0) v;rw[Nat.zero_add]at K
  -- the au5 port,as it was
  have hq:∃n,f.l[i]?=ZC n/\q.rq=n.rq/\q.an=n.an:=by
   rcases tu hd o with⟨e,rfl⟩|⟨_,h⟩
   ·exact⟨f.port p.dst,by rw[e];exact gI hd,Z3,Z3⟩
   ·exact⟨q,h,Z3,Z3⟩
  have⟨n,H,g2,g3⟩:=hq;have A:req=true:=by
   cases req with
   |true=>rfl
   |false=>
    have hm:p∈q.an:=List.mem_of_getElem? z;rw[g3]at hm;have:=((R.port i n H).an p hm).2.1;rw[hk]at this;cases this
  subst A;have hm:p∈n.rq:=by rw[<-g2];exact List.mem_of_getElem? z
  have L:=((R.port i n H).rq p hm).1;have C:=((R.port i n H).rq p hm).2.2;have D:(f.put p.dst (⟨(f.port p.dst).rq,(f.port p.dst).rin++[p],(f.port p.dst).an,(f.port p.dst).ain⟩:Port)).remove a.toNat=(f.put p.dst (⟨(f.port p.dst).rq,(f.port p.dst).rin++[p],(f.port p.dst).an,(f.port p.dst).ain⟩:Port)).put i (⟨q.rq.eraseIdx k',q.rin,q.an,q.ain⟩:Port):=by
   have E:(f.put p.dst (⟨(f.port p.dst).rq,(f.port p.dst).rin++[p],(f.port p.dst).an,(f.port p.dst).ain⟩:Port)).port i=q:=XY o;unfold Fab.remove;rw[K];simp only[E,Port.drop,Port.lS,Port.sort,zad]
  rw[D];have F:(f.put p.dst (⟨(f.port p.dst).rq,(f.port p.dst).rin++[p],(f.port p.dst).an,(f.port p.dst).ain⟩:Port)).is i=true:=ajE o;have p1:(BQ (f.put p.dst (⟨(f.port p.dst).rq,(f.port p.dst).rin++[p],(f.port p.dst).an,(f.port p.dst).ain⟩:Port))).Perm (p::BQ f):=by
   have:=jo (g:=xJ) (gI hd) (q':=(⟨(f.port p.dst).rq,(f.port p.dst).rin++[p],(f.port p.dst).an,(f.port p.dst).ain⟩:Port)) (x:=[]) (y:=[p]) (by
    simp only[xJ,List.nil_append,<-List.append_assoc];exact List.perm_append_comm)
   simpa [BQ,Fab.put]using this
  have p2:(p::BQ ((f.put p.dst (⟨(f.port p.dst).rq,(f.port p.dst).rin++[p],(f.port p.dst).an,(f.port p.dst).ain⟩:Port)).put i (⟨q.rq.eraseIdx k',q.rin,q.an,q.ain⟩:Port))).Perm (BQ (f.put p.dst (⟨(f.port p.dst).rq,(f.port p.dst).rin++[p],(f.port p.dst).an,(f.port p.dst).ain⟩:Port))):=by
   have:=jo (g:=xJ) o (q':=(⟨q.rq.eraseIdx k',q.rin,q.an,q.ain⟩:Port)) (x:=[p]) (y:=[]) (by
    simp only[xJ,List.nil_append,List.singleton_append,<-List.cons_append];exact(LX z).append_right _)
   simpa [BQ,Fab.put]using this
  have M:=(List.perm_cons p).1 (p2.trans p1);have T:(BR ((f.put p.dst (⟨(f.port p.dst).rq,(f.port p.dst).rin++[p],(f.port p.dst).an,(f.port p.dst).ain⟩:Port)).put i (⟨q.rq.eraseIdx k',q.rin,q.an,q.ain⟩:Port))).Perm (BR f):=by
   have h1:=jo (g:=xK) (gI hd) (q':=(⟨(f.port p.dst).rq,(f.port p.dst).rin++[p],(f.port p.dst).an,(f.port p.dst).ain⟩:Port)) (x:=[]) (y:=[]) (by simp[xK]);have h2:=jo (g:=xK) o (q':=(⟨q.rq.eraseIdx k',q.rin,q.an,q.ain⟩:Port)) (x:=[]) (y:=[]) (by simp[xK]);have h3:=h2.trans h1
   simpa [BR,Fab.put]using h3
  have mid:∀(k:Nat) x,(f.put p.dst (⟨(f.port p.dst).rq,(f.port p.dst).rin++[p],(f.port p.dst).an,(f.port p.dst).ain⟩:Port)).l[k]?=ZC x->Pm msg k x:=λk x G=>by
   rcases tu hd G with⟨e,rfl⟩|⟨_,h⟩
   ·have e':(k:Int)=p.dst:=by rw[e];exact vT hd
    rw[e'];have P:=R.at_ hd;refine⟨P.rq,λy d=>?_,P.an,P.ain⟩;rcases List.mem_append.1 d with d|d
    ·exact P.rin y d
    ·simp only[List.mem_cons,List.not_mem_nil,zan]at d;subst d;exact⟨Z3,hk,by rw[L];exact C⟩
   ·exact R.port k x h
  refine⟨λk x G=>?_,((M.map _).nodup_iff).2 R.rn,((T.map _).nodup_iff).2 R.an,λj y w=>M.mem_iff.2 (R.rc j y w),λj y w=>T.mem_iff.2 (R.ac j y w),R.src,R.dst,λj y w=>by have:=R.rg j y w;simpa [Fab.is,Fab.put]using this⟩;rcases tu F G with⟨e,rfl⟩|⟨_,h⟩
  ·have Q:=mid i q o;rw[Int.toNat_natCast]at e;subst e;exact⟨λy d=>Q.rq y (List.mem_of_mem_eraseIdx d),Q.rin,Q.an,Q.ain⟩
  ·exact mid k x h
 |false=>
  have u:(f.port p.dst).lG ZV ((f.port p.dst).uG ZV++[p])=(⟨(f.port p.dst).rq,(f.port p.dst).rin,(f.port p.dst).an,(f.port p.dst).ain++[p]⟩:Port):=by simp[Port.lG,Port.uG]
  rw[u];have v:(f.put p.dst (⟨(f.port p.dst).rq,(f.port p.dst).rin,(f.port p.dst).an,(f.port p.dst).ain++[p]⟩:Port)).all[a.toNat]?=ZC p:=by
   unfold Fab.all Fab.put;rw[DJ (q':=(⟨(f.port p.dst).rq,(f.port p.dst).rin,(f.port p.dst).an,(f.port p.dst).ain++[p]⟩:Port)) (gI hd) Z3 Z3];exact X
  have⟨i,req,k',q,K,o,z⟩:=zU (i0:=0) v;rw[Nat.zero_add]at K;have hq:∃n,f.l[i]?=ZC n/\q.rq=n.rq/\q.an=n.an:=by
   rcases tu hd o with⟨e,rfl⟩|⟨_,h⟩
   ·exact⟨f.port p.dst,by rw[e];exact gI hd,Z3,Z3⟩
   ·exact⟨q,h,Z3,Z3⟩
  have⟨n,H,g2,g3⟩:=hq;have A:req=false:=by
   cases req with
   |false=>rfl
   |true=>
    have hm:p∈q.rq:=List.mem_of_getElem? z;rw[g2]at hm;have:=((R.port i n H).rq p hm).2.1;rw[hk]at this;cases this
  subst A;have hm:p∈n.an:=by rw[<-g3];exact List.mem_of_getElem? z
  have C:=((R.port i n H).an p hm).2.2;have D:(f.put p.dst (⟨(f.port p.dst).rq,(f.port p.dst).rin,(f.port p.dst).an,(f.port p.dst).ain++[p]⟩:Port)).remove a.toNat=(f.put p.dst (⟨(f.port p.dst).rq,(f.port p.dst).rin,(f.port p.dst).an,(f.port p.dst).ain++[p]⟩:Port)).put i (⟨q.rq,q.rin,q.an.eraseIdx k',q.ain⟩:Port):=by
   have E:(f.put p.dst (⟨(f.port p.dst).rq,(f.port p.dst).rin,(f.port p.dst).an,(f.port p.dst).ain++[p]⟩:Port)).port i=q:=XY o;unfold Fab.remove;rw[K];simp only[E,Port.drop,Port.lS,Port.sort,Bool.false_eq_true,zaf]
  rw[D];have F:(f.put p.dst (⟨(f.port p.dst).rq,(f.port p.dst).rin,(f.port p.dst).an,(f.port p.dst).ain++[p]⟩:Port)).is i=true:=ajE o;have p1:(BR (f.put p.dst (⟨(f.port p.dst).rq,(f.port p.dst).rin,(f.port p.dst).an,(f.port p.dst).ain++[p]⟩:Port))).Perm (p::BR f):=by
   have:=jo (g:=xK) (gI hd) (q':=(⟨(f.port p.dst).rq,(f.port p.dst).rin,(f.port p.dst).an,(f.port p.dst).ain++[p]⟩:Port)) (x:=[]) (y:=[p]) (by
    simp only[xK,List.nil_append,<-List.append_assoc];exact List.perm_append_comm)
   simpa [BR,Fab.put]using this
  have p2:(p::BR ((f.put p.dst (⟨(f.port p.dst).rq,(f.port p.dst).rin,(f.port p.dst).an,(f.port p.dst).ain++[p]⟩:Port)).put i (⟨q.rq,q.rin,q.an.eraseIdx k',q.ain⟩:Port))).Perm (BR (f.put p.dst (⟨(f.port p.dst).rq,(f.port p.dst).rin,(f.port p.dst).an,(f.port p.dst).ain++[p]⟩:Port))):=by
   have:=jo (g:=xK) o (q':=(⟨q.rq,q.rin,q.an.eraseIdx k',q.ain⟩:Port)) (x:=[p]) (y:=[]) (by
    simp only[xK,List.nil_append,List.singleton_append,<-List.cons_append];exact(LX z).append_right _)
   simpa [BR,Fab.put]using this
  have T:=(List.perm_cons p).1 (p2.trans p1);have M:(BQ ((f.put p.dst (⟨(f.port p.dst).rq,(f.port p.dst).rin,(f.port p.dst).an,(f.port p.dst).ain++[p]⟩:Port)).put i (⟨q.rq,q.rin,q.an.eraseIdx k',q.ain⟩:Port))).Perm (BQ f):=by
   have h1:=jo (g:=xJ) (gI hd) (q':=(⟨(f.port p.dst).rq,(f.port p.dst).rin,(f.port p.dst).an,(f.port p.dst).ain++[p]⟩:Port)) (x:=[]) (y:=[]) (by simp[xJ]);have h2:=jo (g:=xJ) o (q':=(⟨q.rq,q.rin,q.an.eraseIdx k',q.ain⟩:Port)) (x:=[]) (y:=[]) (by simp[xJ]);have h3:=h2.trans h1
   simpa [BQ,Fab.put]using h3
  have mid:∀(k:Nat) x,(f.put p.dst (⟨(f.port p.dst).rq,(f.port p.dst).rin,(f.port p.dst).an,(f.port p.dst).ain++[p]⟩:Port)).l[k]?=ZC x->Pm msg k x:=λk x G=>by
   rcases tu hd G with⟨e,rfl⟩|⟨_,h⟩
   ·have e':(k:Int)=p.dst:=by rw[e];exact vT hd
    rw[e'];have P:=R.at_ hd;refine⟨P.rq,P.rin,P.an,λy d=>?_⟩;rcases List.mem_append.1 d with d|d
    ·exact P.ain y d
    ·simp only[List.mem_cons,List.not_mem_nil,zan]at d;subst d;exact⟨Z3,hk,C⟩
   ·exact R.port k x h
  refine⟨λk x G=>?_,((M.map _).nodup_iff).2 R.rn,((T.map _).nodup_iff).2 R.an,λj y w=>M.mem_iff.2 (R.rc j y w),λj y w=>T.mem_iff.2 (R.ac j y w),R.src,R.dst,λj y w=>by have:=R.rg j y w;simpa [Fab.is,Fab.put]using this⟩;rcases tu F G with⟨e,rfl⟩|⟨_,h⟩
  ·have Q:=mid i q o;rw[Int.toNat_natCast]at e;subst e;exact⟨Q.rq,Q.rin,λy d=>Q.an y (List.mem_of_mem_eraseIdx d),Q.ain⟩
  ·exact mid k x h
end
section
variable {c:Cache}{ak L:Int}{e x:Ent}
def SC(h:c.find ak=ZC e):e.ak=ak:=by
 unfold Cache.find at h;have:=List.find?_some h
 simpa using this
def yB(i:Lines c.l)(h0:0<=e.ak)(h:c.find e.ak=some x)(L:Int):(c.put e).1.find L=if L=e.ak then some { e with used:=x.used } else c.find L:=by
 rw[nD i h0 h];unfold Cache.find;simp only[List.find?_map];have j:((λy:Ent=>decide (y.ak=L)) ∘ λy:Ent=>if y.ak=e.ak then { e with used:=x.used } else y)=λy=>decide (y.ak=L):=by
  funext y
  simp only[Function.comp];by_cases g:y.ak=e.ak
  ·simp[g]
  ·simp[g]
 rw[j];by_cases b:L=e.ak
 ·rw[if_pos b,b];unfold Cache.find at h;rw[h];have:=List.find?_some h;simp only[decide_eq_true_eq]at this;simp[this]
 ·rw[if_neg b];cases k:c.l.find? λy=>decide (y.ak=L)with
  |none=>rfl
  |some y=>
   have:=List.find?_some k;simp only[decide_eq_true_eq]at this;have d:¬y.ak=e.ak:=λh=>b (this.symm.trans h);simp[d]
def SE(j:Lines c.l)(h0:0<=e.ak)(d:c.find e.ak=Z1)(g:c.full e.ak=ZV):∃u,∀L,(c.put e).1.find L=if L=e.ak then ZC { e with used:=u } else c.find L:=by
 refine⟨c.dN+1,λL=>?_⟩;have i:=IB.2 d;unfold Cache.put;rw[F V,i];simp only[g,Bool.false_eq_true,zaf];unfold Cache.find at d ⊢;rw[List.find?_append];by_cases b:L=e.ak
 ·rw[y b,b,d];simp
 ·rw[F b];have:¬e.ak=L:=λh=>b h.symm;simp[this]
def BZ(e:Lines c.l)(L:Int):(c.drop ak).find L=if L=ak then none else c.find L:=by
 rw[Uw e];unfold Cache.find;simp only[List.find?_filter];by_cases b:L=ak
 ·rw[if_pos b,List.find?_eq_none];intro y _;simp only[decide_eq_true_eq,ne_eq,decide_not,Bool.not_eq_true',decide_eq_false_iff_not];rintro⟨g,h⟩;exact g (h.trans b)
 ·rw[if_neg b]
  congr 1
  funext y
  by_cases d:y.ak=L
  ·simp[d,b]
  ·simp[d]
def Zo(j:Lines c.l)(h:c.find ak=some e)(L:Int):(c.touch ak).find L=if L=ak then some { e with used:=c.dN+1 } else c.find L:=by
 have g:=SC h;rw[Fa j h];unfold Cache.find;simp only[List.find?_map];have k:((λy:Ent=>decide (y.ak=L)) ∘ λy:Ent=>if y.ak=ak then { e with used:=c.dN+1 } else y)=λy=>decide (y.ak=L):=by
  funext y
  simp only[Function.comp];by_cases i:y.ak=ak
  ·simp[i,g]
  ·simp[i]
 rw[k];by_cases b:L=ak
 ·rw[if_pos b,b];unfold Cache.find at h;rw[h];simp[g]
 ·rw[if_neg b];cases m:c.l.find? λy=>decide (y.ak=L)with
  |none=>rfl
  |some y=>
   have:=List.find?_some m;simp only[decide_eq_true_eq]at this;have d:¬y.ak=ak:=λh=>b (this.symm.trans h);simp[d]
end
section
variable {t:Turns}{ak who id L:Int}
def JQ(h:Tq t)(h0:0<=who)(d:t.owner ak=-1)(hw:t.ws ak=[]):(t.ask ak who id).2=Z0/\(∀L,(t.ask ak who id).1.owner L=if L=ak then who else t.owner L)/\∀L,(t.ask ak who id).1.ws L=t.ws L:=by
 have hd:t.owned ak=false:=by
  cases e:t.owned ak with
  |false=>rfl
  |true=>exact absurd d ((h.owned ak).1 e)
 have g:t.ask ak who id=({ t with iI:=lK t.iI ak who },Z0):=by
  unfold Turns.ask;rw[F V];simp[hd,hw]
 rw[g];refine⟨W,λL=>?_,λL=>rfl⟩;unfold Turns.owner;simp only[jF];by_cases b:L=ak
 ·simp[b]
 ·rw[F b,F (λh=>b h.symm)]
def JR(h:Tq t)(h0:0<=who)(b:t.owner ak≠-1∨t.ws ak≠[]):(t.ask ak who id).2=ZV/\(∀L,(t.ask ak who id).1.owner L=t.owner L)/\∀L,(t.ask ak who id).1.ws L=if L=ak then t.ws ak++[(who,id)]else t.ws L:=by
 have e:t.ask ak who id=({ t with wait:=lK t.wait ak (t.ws ak++[(who,id)]) },ZV):=by
  unfold Turns.ask;rw[F V,y];rcases b with b|b
  ·rw[(h.owned ak).2 b];simp
  ·simp[b]
 rw[e];refine⟨W,λL=>rfl,λL=>?_⟩;unfold Turns.ws;simp only[jF];by_cases d:L=ak
 ·simp[d]
 ·rw[F d,F (λh=>d h.symm)]
def Zp(h:Tq t)(d:t.owner ak=-1){w:Int × Int}{ws:Q (Int × Int)}(hw:t.ws ak=w::ws):(t.next ak).2=ZC w/\(∀L,(t.next ak).1.owner L=if L=ak then w.1 else t.owner L)/\∀L,(t.next ak).1.ws L=if L=ak then ws else t.ws L:=by
 have hd:t.owned ak=false:=by
  cases e:t.owned ak with
  |false=>rfl
  |true=>exact absurd d ((h.owned ak).1 e)
 have g:t.next ak=({ iI:=lK t.iI ak w.1,wait:=lK t.wait ak ws },ZC w):=by
  unfold Turns.next
  simp[hd,hw]
 rw[g];refine⟨W,λL=>?_,λL=>?_⟩
 ·unfold Turns.owner;simp only[jF];by_cases b:L=ak
  ·simp[b]
  ·rw[F b,F (λh=>b h.symm)]
 ·unfold Turns.ws;simp only[jF];by_cases b:L=ak
  ·simp[b]
  ·rw[F b,F (λh=>b h.symm)]
def Pn(h:Tq t)(h0:0<=who)(b:t.owner ak=who):(t.release ak who).2=0/\(∀L,(t.release ak who).1.owner L=if L=ak then -1 else t.owner L)/\∀L,(t.release ak who).1.ws L=t.ws L:=by
 have ha:jw t.iI ak=ZC who:=by
  unfold Turns.owner at b;cases e:jw t.iI ak with
  |none=>rw[e]at b;simp at b;omega
  |some v=>rw[e]at b;simp only[Option.getD_some]at b;rw[b]
 have g:t.release ak who=({ t with iI:=Aq t.iI ak },0):=by
  unfold Turns.release;rw[y ha]
 rw[g];refine⟨W,λL=>?_,λL=>rfl⟩;unfold Turns.owner;simp only[KX h.ok];by_cases d:L=ak
 ·simp[d]
 ·rw[F d,F (λh=>d h.symm)]
end
def LY {dS:Rows}{ak:Int}{r:Row}(L:Int):iR (lK dS ak r) L=if L=ak then r else iR dS L:=by
 unfold iR;rw[jF];by_cases b:L=ak
 ·simp[b]
 ·rw[F b,F (λh=>b h.symm)]
def nN {E:sK}{i:Int}:pV E i (E i)=E:=by
 funext j
 by_cases h:j=i
 ·rw[h,ig]
 ·rw[fJ h]
def adH {d:bW}{p:Pkt}(hk:p.aW=D8 (Ar d.step))(b:p.id=d.id)(e:p.ak=d.ak)(g:1<=d.step/\d.step<=6):d.fits p=true:=by
 have:d.step=1∨d.step=2∨d.step=3∨d.step=4∨d.step=5∨d.step=6:=V
 unfold bW.fits;simp only[hk,b,e,zax,Bool.and_true,zab];rcases this with h|h|h|h|h|h <;> simp[h,D8,Ar]
structure arw(c:Cfg)(N hm:Int)(E:sK)(r:Row)(v:List Int)(i:Int)(n:Node)(ca:Cache)(d':bW):Prop where
 ak:d'.ak=n.aO.ak
 aW:d'.aW=n.aO.aW
 id:d'.id=n.aO.id
 step:d'.step≠0
 fall:True
 other:∀L,L≠n.aO.ak->ca.find L=n.aJ.find L
 miss:d'.aW=1->d'.step=1∨d'.step=2->ca.find n.aO.ak=none
 next:(¬(d'.step=6/\d'.aW≠3)/\Hold N hm (pV E i (ca.find n.aO.ak)) r v i d' (.req (d'.ask i hm)))∨
  (d'.step=6/\d'.aW≠3/\∃e,ca.find n.aO.ak=some e/\e.data=v/\
   ((n.aO.aW=1/\Hold N hm (pV E i (some e)) r v i d' (.req (d'.ask i hm)))∨
    (n.aO.aW=2/\e.bJ=true/\∀e':Ent,e'.back=e.back->e'.fwd=e.fwd->e'.bJ=e.bJ->Hold N hm (pV E i (some e')) r e'.data i d' (.req (d'.ask i hm)))))
section
variable {c:Cfg}{N hm:Int}{E:sK}{r:Row}{v:List Int}{i:Int}{n:Node}
def Vw {ca:Cache}(b:Lines ca.l){e:Ent}(h0:0<=e.ak)(d:ca.full e.ak=ZV):∃u,∀L,(ca.put e).1.find L=if L=e.ak then ZC { e with used:=u } else ca.find L:=by
 cases h:ca.find e.ak with
 |none=>exact SE b h0 h d
 |some x=>exact⟨x.used,λL=>yB b h0 h L⟩
def SG {d:bW}{me:Int}{ca:Cache}{x:Int}(b:x=match ca.find d.ak with
   |some own=>if d.next=me then own.fwd else d.next
   |none=>d.next):dw d me ca=if x≠-1 then(ca,{ d with next:=x,step:=3 })else((ca.put ⟨-1,-1,d.ak,0,Z0,d.data⟩).1,{ d with next:=x,step:=6,state:=2,head:=me,data:=[] }):=by
 unfold dw;cases hc:ca.find d.ak with
 |none=>
  rw[hc]at b;simp only at b;subst b;rfl
 |some own=>
  rw[hc]at b;simp only at b;by_cases h:d.next=me
  ·rw[y h]at b;simp only[y h];subst b;rfl
  ·rw[F h]at b;simp only[F h];subst b;rfl
def SH(hl:Lines n.aJ.l)(hi:0<=i/\i<N)(hE:E i=n.aJ.find n.aO.ak)(h0:0<=n.aO.ak)(hfull:n.aJ.full n.aO.ak=ZV)(hk2:n.aO.aW=2)(hst:n.aO.step=1∨n.aO.step=3){d1:bW}(k1:d1.aW=2)(k2:d1.ak=n.aO.ak)(k3:d1.id=n.aO.id){R:Q Int}(L:alT N E v i R)(hd1:E i≠Z1->d1.data=v)(hd2:R=[]->d1.data=v)(hn:d1.next=hdI R (-1)):
  arw c N hm E r v i n (dw d1 i n.aJ).1 (dw d1 i n.aJ).2:=by
 have⟨x,hx⟩:∃x,x=match E i with
   |some own=>if d1.next=i then own.fwd else d1.next
   |none=>d1.next:=⟨_,W⟩
 have hx':=hx;rw[hE,<-k2]at hx';rw[SG hx'];rcases alU (hm:=hm) (r:=r) hi.1 L hd1 hd2 hn hx k1 with⟨hx1,H⟩|⟨hx1,hdv,hall⟩
 ·rw[y hx1];refine⟨k2,k1.trans hk2.symm,k3,(by decide:(3:Int)≠0),zac,λ_ _=>rfl,λh=>absurd (show d1.aW=1 from h) V,.inl ⟨λh=>absurd (show(3:Int)=6 from h.1) J,?_⟩⟩;rw[<-hE,nN];exact H _ W k1 W W
 ·rw[F (by rw[hx1];decide)];have⟨u,hu⟩:=Vw (ca:=n.aJ) hl (e:=⟨-1,-1,d1.ak,0,Z0,d1.data⟩) (by rw[k2];exact h0) (by rw[k2];exact hfull);simp only at hu;refine⟨k2,k1.trans hk2.symm,k3,(by decide:(6:Int)≠0),zac,λL hL=>by rw[hu,F (by rw[k2];exact hL)],λh=>absurd (show d1.aW=1 from h) V,.inr ⟨W,by show d1.aW≠3;omega,⟨-1,-1,d1.ak,u,Z0,d1.data⟩,by rw[hu,y k2.symm],hdv,.inr ⟨hk2,W,λe' a b c'=>?_⟩⟩⟩;exact Jt hi hall a b c' W W W
def Zq(hl:Lines n.aJ.l)(hi:0<=i/\i<N)(hv:v≠[])(hE:E i=n.aJ.find n.aO.ak)(h0:0<=n.aO.ak)(hfull:n.aO.aW≠3->n.aJ.full n.aO.ak=ZV)(hkr:1<=n.aO.aW/\n.aO.aW<=3)(hmiss:n.aO.aW=1->n.aO.step=1∨n.aO.step=2->E i=Z1){p:Pkt}(H:Hold N hm E r v i n.aO (.ans p)):
  ∃ca d',n.after i p=(ca,d',Z0)/\arw c N hm E r v i n ca d':=by
 have⟨f1,f2,f3,f4,f5,f6⟩:=H.ans;have hfit:=adH f4 f2 f3 (by omega);have one:=hkr;unfold Node.after;have hh:∃q,Out.ans p=q/\Hold N hm E r v i n.aO q:=⟨_,Z3,H⟩
 have⟨q,hq,H⟩:=hh;cases H with
 |granted h1 W=>
  cases hq;have hk3:n.aO.aW=1∨n.aO.aW=2∨n.aO.aW=3:=by omega
  rcases hk3 with hk|hk|hk
  ·rw[y hk];unfold dW;rw[Ys (by rw[hk,hfit];simp),y h1];simp only;have hEn:=hmiss hk (.inl h1);by_cases hs:r.state≠0
   ·rw[y hs];refine⟨_,_,Z3,Z3,Z3,Z3,(by decide:(2:Int)≠0),zac,λ_ _=>rfl,λ_ _=>by rw[<-hE];exact hEn,.inl ⟨λh=>absurd (show(2:Int)=6 from h.1) (by decide),?_⟩⟩;rw[<-hE,nN];exact Js (d:={ n.aO with state:=r.state,head:=r.head,told:=r.head,data:=r.data,step:=2 }) hk W hs Z3 Z3
   ·rw[Ys hs];have⟨u,hu⟩:=Vw (ca:=n.aJ) hl (e:=⟨-1,-1,n.aO.ak,0,ZV,r.data⟩) h0 (hfull (by omega));simp only at hu;have hr0:r.state=0:=Classical.not_not.1 hs;refine⟨_,_,Z3,Z3,Z3,Z3,(by decide:(6:Int)≠0),zac,λL hL=>by rw[hu,Ys hL],λ_ h=>(h.elim (λh=>absurd (show(6:Int)=1 from h) (by decide)) λh=>absurd (show(6:Int)=2 from h) (by decide)),.inr ⟨Z3,by show n.aO.aW≠3;omega,⟨-1,-1,n.aO.ak,u,ZV,r.data⟩,by rw[hu,y Z3],W.BO (by rw[hr0];decide),.inl ⟨hk,?_⟩⟩⟩;exact O9 hi W hr0 Z3 Z3 Z3 Z3 Z3 Z3 Z3 Z3
  ·rw[Ys (by omega),y hk];unfold dY;rw[Ys (by rw[hk,hfit];simp),y h1];simp only;refine⟨_,_,Z3,?_⟩;refine SH hl hi hE h0 (hfull (by omega)) hk (.inl h1) hk Z3 Z3 (Wf.left (i:=i) W) (λhe=>?_) (λhl0=>?_) W.head
   ·simp only[<-hE];cases hei:E i with
    |none=>exact absurd hei he
    |some own=>exact W.data i own hei
   ·simp only[<-hE];rw[W.empty hl0 i];exact W.BO (by rw[W.st0.2 hl0];decide)
  ·rw[Ys (by omega),Ys (by omega),y hk];unfold eP;rw[Ys (by rw[hk,hfit];simp),y h1];simp only;cases hc:n.aJ.find n.aO.ak with
   |none=>
    simp only;refine⟨_,_,Z3,Z3,Z3,Z3,(by decide:(6:Int)≠0),zac,λ_ _=>rfl,λh=>absurd (show n.aO.aW=1 from h) (by omega),.inl ⟨λh=>h.2 hk,?_⟩⟩;rw[<-hE,nN];exact Ph W Z3 Z3 Z3 Z3
   |some e=>
    have hei:E i=ZC e:=hE.trans hc;simp only;by_cases hb:e.back=-1/\e.fwd=-1
    ·rw[y hb];have hdr:=BZ (ak:=n.aO.ak) hl;refine⟨_,_,Z3,Z3,Z3,Z3,(by decide:(6:Int)≠0),zac,λL hL=>by rw[hdr,Ys hL],λh=>absurd (show n.aO.aW=1 from h) (by omega),.inl ⟨λh=>h.2 hk,?_⟩⟩;rw[hdr,y Z3];exact JK W hv hei hb.1 hb.2 Z3 Z3 Z3 Z3
    ·rw[Ys hb];by_cases hb1:e.back=-1
     ·rw[y hb1];refine⟨_,_,Z3,Z3,Z3,Z3,(by decide:(5:Int)≠0),zac,λ_ _=>rfl,λh=>absurd (show n.aO.aW=1 from h) (by omega),.inl ⟨λh=>h.2 hk,?_⟩⟩;rw[<-hE,nN];exact JL W hei hb1 (λh=>hb ⟨hb1,h⟩) Z3 hk Z3 Z3 Z3
     ·rw[Ys hb1];refine⟨_,_,Z3,Z3,Z3,Z3,(by decide:(4:Int)≠0),zac,λ_ _=>rfl,λh=>absurd (show n.aO.aW=1 from h) (by omega),.inl ⟨λh=>h.2 hk,?_⟩⟩;rw[<-hE,nN];exact JM W hei hb1 Z3 hk Z3 Z3 Z3
 |attached h1 h2 h3 h4 R C M D X F=>
  cases hq;rw[y h2];unfold dW;rw[Ys (by rw[h2,hfit];simp),Ys (by omega),y h1];simp only;have hEn:=hmiss h2 (.inr h1);have⟨u,hu⟩:=Vw (ca:=n.aJ) hl (e:=⟨n.aO.head,-1,n.aO.ak,0,ZV,v⟩) h0 (hfull (by omega));simp only at hu;refine⟨_,_,Z3,Z3,Z3,Z3,(by decide:(6:Int)≠0),zac,λL hL=>by rw[hu,Ys hL],λ_ h=>(h.elim (λh=>absurd (show(6:Int)=1 from h) (by decide)) λh=>absurd (show(6:Int)=2 from h) (by decide)),.inr ⟨Z3,by show n.aO.aW≠3;omega,⟨n.aO.head,-1,n.aO.ak,u,ZV,v⟩,by rw[hu,y Z3],Z3,.inl ⟨h2,?_⟩⟩⟩;exact Pg hi hEn h3 h4 R C M D X F hv Z3 Z3 Z3 Z3 Z3 Z3 Z3 Z3
 |BP h1 h2 L hcl h3=>
  cases hq;rw[Ys (by omega),y h2];unfold dY;rw[Ys (by rw[h2,hfit];simp),Ys (by omega),y h1];simp only;refine⟨_,_,Z3,?_⟩;refine SH hl hi hE h0 (hfull (by omega)) h2 (.inr h1) h2 Z3 Z3 L (λhe=>?_) (λ_=>?_) Z3
  ·simp only[<-hE];cases hei:E i with
   |none=>exact absurd hei he
   |some own=>exact h3 he
  ·simp only[<-hE];cases hei:E i with
   |none=>rfl
   |some own=>exact h3 (by rw[hei];simp)
 |vS h1 h2 M h3 C C' h4 h5 h6=>
  cases hq;rw[Ys (by omega),Ys (by omega),y h2];unfold eP;rw[Ys (by rw[h2,hfit];simp),Ys (by omega),y h1];by_cases hn:n.aO.next=-1
  ·rw[y hn];unfold gX;have hdr:=BZ (ak:=n.aO.ak) hl;have hpost:=(M.rng.mid.2.2.2.2.1.adG).1 (h5.symm.trans hn);refine⟨_,_,Z3,Z3,Z3,Z3,(by decide:(6:Int)≠0),zac,λL hL=>by rw[hdr,Ys hL],λh=>absurd (show n.aO.aW=1 from h) (by omega),.inl ⟨λh=>h.2 h2,?_⟩⟩;rw[hdr,y Z3];exact Ju M h3 C hpost Z3 Z3 h6 Z3
  ·rw[Ys hn];refine⟨_,_,Z3,Z3,Z3,Z3,(by decide:(5:Int)≠0),zac,λ_ _=>rfl,λh=>absurd (show n.aO.aW=1 from h) (by omega),.inl ⟨λh=>h.2 h2,?_⟩⟩;rw[<-hE,nN];exact JO (d:={ n.aO with step:=5 }) M (λh=>hn (by rw[h5,h];rfl)) C C' Z3 h2 h4 h5 h6
 |qg h1 h2 M h3 C C' h4 h5 h6=>
  cases hq;rw[Ys (by omega),Ys (by omega),y h2];unfold eP;rw[Ys (by rw[h2,hfit];simp),Ys (by omega),Ys (by omega),y h1];have hdr:=BZ (ak:=n.aO.ak) hl;by_cases hh:n.aO.head=-1
  ·rw[y hh];unfold gX;refine⟨_,_,Z3,Z3,Z3,Z3,(by decide:(6:Int)≠0),zac,λL hL=>by rw[hdr,Ys hL],λh=>absurd (show n.aO.aW=1 from h) (by omega),.inl ⟨λh=>h.2 h2,?_⟩⟩;rw[hdr,y Z3];exact Eu (h0:=n.aO.head) (nx:=n.aO.next) M h3 C C' h4 h5 Z3 Z3 (by rw[y hh]) Z3
  ·rw[Ys hh];unfold gX;refine⟨_,_,Z3,Z3,Z3,Z3,(by decide:(6:Int)≠0),zac,λL hL=>by rw[hdr,Ys hL],λh=>absurd (show n.aO.aW=1 from h) (by omega),.inl ⟨λh=>h.2 h2,?_⟩⟩;rw[hdr,y Z3];exact Eu (h0:=n.aO.head) (nx:=n.aO.next) M h3 C C' h4 h5 Z3 Z3 (by rw[Ys hh];exact h6) Z3
 |attach _ _ _ _ _=>cases hq
 |EJ _ _ _ _ _=>cases hq
 |front _ _ _ _ _ _ _ _=>cases hq
 |behind _ _ _ _ _ _ _ _ _=>cases hq
 |unlock _ _=>cases hq
end
end
end Go.Proofs.YtgplhpgkompkmaaGreat
