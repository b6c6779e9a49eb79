/-
  Own work: an interpreter over named blocks, its soundness, and what the functions of this seat compute (part 10 of 12).
  Conditions: those of the statement alone.
-/
import Derived.Test.YtljogojaihgdlaaGreatHi
set_option linter.all false
set_option linter.unusedSectionVars false
set_option linter.unusedVariables false
set_option linter.unusedSimpArgs false
namespace Go.Proofs.YtljogojaihgdlaaGreat
noncomputable section
section
variable {b:Nat}{H:ah}{g0:bD}{S:Td}{c:Cfg}{me:Int}{k:Nat}{K K':ah}{g:bD}{ls:Lcl}{w w':NFT}
def Xg(f:Fab)(i:Int)(req:Bool):(f.take i req).1.l.length=f.l.length:=by
 unfold Fab.take;split
 ·split
  ·rfl
  ·simp [Fab.put]
 ·rfl
def Walk.DN(W:Walk b H g0 S c me k K g ls w)(F:FOk c w.2.1):∃K' g',cl 82 [.ref S.f 0 0,I me] K=some (iM (w.2.1.take me true).2,K')/\Walk b H g0 S c me k K' g' ls (w.1,(w.2.1.take me true).1,w.2.2):=by
 obtain⟨K',o,d,e,h,i,j⟩:=Proofs.YtljogojaihgdlaaGreat.DN W.loc.good W.base W.RX.fab W.nw.S9 F me;obtain⟨g',m⟩:=W.net e h (Xg _ _ _) i j;exact⟨K',g',d,m⟩
def Walk.OY(W:Walk b H g0 S c me k K g ls w)(F:FOk c w.2.1):∃K' g',cl 72 [.ref S.f 0 0,I me] K=some (iM (w.2.1.take me false).2,K')/\Walk b H g0 S c me k K' g' ls (w.1,(w.2.1.take me false).1,w.2.2):=by
 obtain⟨K',o,d,e,h,i,j⟩:=Proofs.YtljogojaihgdlaaGreat.OY W.loc.good W.base W.RX.fab W.nw.S9 F me;obtain⟨g',m⟩:=W.net e h (Xg _ _ _) i j;exact⟨K',g',d,m⟩
def Walk.room(W:Walk b H g0 S c me k K g ls w)(F:FOk c w.2.1)(req:Bool):∃K',cl 79 [.ref S.f 0 0,I me,B req] K=some (I (w.2.1.roomOf me req),K')/\Walk b H g0 S c me k K' g ls w:=by
 obtain⟨K',d,e,h⟩:=ajW W.loc.good W.base W.RX.fab F me req;exact⟨K',d,W.same e h⟩
def U0(W:Walk b H g0 S c me k K g ls w)(hc:c.ok=true)(F:wR c w.2.1)(C:COk w.1.aH)(Z:HSz w.1.home):
  ∃K' g',match(if w.2.1.roomOf me false=0 then(w.2.1,none) else w.2.1.take me true) with
   |(j,some p)=>cl 45 [.ref (S.a 0) 0 0,.ref S.f 0 0] K=some (B true,K')/\Walk b H g0 S c me k K' g' ls ((w.1.asked c me j p).1,(w.1.asked c me j p).2,w.2.2)
   |(_,none)=>cl 45 [.ref (S.a 0) 0 0,.ref S.f 0 0] K=some (B false,K')/\Walk b H g0 S c me k K' g' ls w:=by
 have X:=Walk.of W.loc.good W.base W.RX;have y:=X.ldN (i:=10) (v:=I me) rfl;obtain⟨K1,o,D⟩:=X.room (fok hc F) false;by_cases m:w.2.1.roomOf me false=0
 ·simp only [if_pos m];rw [m] at o;obtain⟨g',e⟩:=W.app (K':=K1) (w':=w) (by
   have:=D.res;rw [W.len] at this;exact this)
  refine⟨K1,g',bC rfl rfl (aed _ _ _ _ ?_),e⟩;simp only [xq_,aaC,y,o]
 ·simp only [if_neg m];have h:=D.ldN (i:=10) (v:=I me) rfl;obtain⟨K2,g2,d,E⟩:=D.DN (fok hc F);obtain⟨G,L⟩:=F.take me true;have M:=E.newL (ty:=112) (xs:=zP9) (r:=K2.next) rfl rfl;cases R:w.2.1.take me true with
  |mk j po=>
   rw [R] at d E M G L;simp only at d E M G L;obtain⟨K4,q,z,W4⟩:=M.whole ak (n:=9) (vs:=(po.getD .zero).av) rfl (bZ _) ZS (aU _);simp only [iM] at d;cases po with
   |none=>
    simp only [za5,zaK] at d q z;have T:j=w.2.1:=by
     have:=RZ (f:=w.2.1) (i:=me) (req:=true) (by rw [R]);rw [R] at this;exact this
    subst T;obtain⟨g',e⟩:=W.app (K':=K4) (w':=w) (by
     have:=W4.res;rw [W.len] at this;exact this)
    refine⟨K4,g',bC rfl rfl (aed _ _ _ _ ?_),e⟩;simp only [xq_,aaC,y,o,m,h,d,q,zam]
   |some p=>
    simp only [zav,zaL] at d q z;have Q:=L p rfl;obtain⟨K5,g5,A,W5⟩:=acB W4 hc C Z p (Si Q);have W6:=W5.newL (ty:=112) (xs:=zP9) (r:=K5.next) rfl rfl;obtain⟨K7,u3,u4,W7⟩:=W6.whole ak (n:=9) (vs:=(oD c me w.1 p).2.1.av) rfl (bZ _) ZS (aU _);simp only [afd];cases u:(oD c me w.1 p).2.2 with
    |false=>
     rw [u] at A;obtain⟨g',e⟩:=W.app (K':=K7) (w':=((oD c me w.1 p).1,j,w.2.2)) (by
      have:=W7.res;rw [W.len] at this;exact this)
     refine⟨K7,g',bC rfl rfl (aed _ _ _ _ ?_),by simpa using e⟩;simp only [xq_,aaC,Oc,y,o,m,h,d,q,z,zaf,A,u3]
    |true=>
     rw [u] at A;obtain⟨K8,g8,d1,W8⟩:=W7.send (fok hc G) (oD c me w.1 p).2.1 (Sl C Z p);obtain⟨g',e⟩:=W.app (K':=K8) (w':=((oD c me w.1 p).1,(j.send (oD c me w.1 p).2.1).1,w.2.2)) (by
      have:=W8.res;rw [W.len] at this;exact this)
     refine⟨K8,g',bC rfl rfl (aed _ _ _ _ ?_),by simpa using e⟩;simp only [xq_,aaC,Oc,y,o,m,h,d,q,z,zaf,A,u3,u4,d1]
def acC(W:Walk b H g0 S c me k K g ls w)(hc:c.ok=true)(F:wR c w.2.1)(Z:HSz w.1.home):
  ∃K' g',if w.1.home.ready≠[]/\w.2.1.roomOf me false≠0 then
    cl 44 [.ref (S.a 0) 0 0,.ref S.f 0 0] K=some (B true,K')/\Walk b H g0 S c me k K' g' ls ({ w.1 with home:=(w.1.home.grant me).1 },(w.2.1.send (w.1.home.grant me).2.1).1,w.2.2)
   else cl 44 [.ref (S.a 0) 0 0,.ref S.f 0 0] K=some (B false,K')/\Walk b H g0 S c me k K' g' ls w:=by
 have e:=Walk.of W.loc.good W.base W.RX;have p:=e.ldN (i:=11) (v:=.ref (S.a 3) 0 0) rfl;have A:=e.ldN (i:=10) (v:=I me) rfl;have j:=Yy e.loc.good e.RX.bF.2.2.2 Z.t;by_cases m:w.1.home.ready=[]
 ·simp only [if_neg (show¬(w.1.home.ready≠[]/\w.2.1.roomOf me false≠0) from λh=>h.1 m)];have hd:decide (w.1.home.ready≠[])=false:=by rw [decide_eq_false];exact λh=>h m
  rw [hd] at j;refine⟨K,g,bC rfl rfl (aiZ _ _ _ _ ?_),W⟩;simp only [xq_,aec,p,j,zam]
 ·have hd:decide (w.1.home.ready≠[])=true:=decide_eq_true m;rw [hd] at j;obtain⟨C,q,d⟩:=e.room (fok hc F) false;by_cases o:w.2.1.roomOf me false=0
  ·simp only [if_neg (show¬(w.1.home.ready≠[]/\w.2.1.roomOf me false≠0) from λh=>h.2 o)];rw [o] at q;obtain⟨g',u⟩:=W.app (K':=C) (w':=w) (by
    have:=d.res;rw [W.len] at this;exact this)
   refine⟨C,g',bC rfl rfl (aiZ _ _ _ _ ?_),u⟩;simp only [xq_,aec,p,j,zaf,A,q]
  ·simp only [if_pos (show w.1.home.ready≠[]/\w.2.1.roomOf me false≠0 from⟨m,o⟩)];have y:=d.ldN (i:=11) (v:=.ref (S.a 3) 0 0) rfl;obtain⟨E,G,L,M⟩:=afa d.loc.good d.base d.RX.bF.2.2.2 Z.t Z.r;have Q:=d.home L M;have R:=Q.newL (ty:=112) (xs:=zP9) (r:=E.next) rfl rfl;obtain⟨K4,T,X,W4⟩:=R.whole ak (n:=9) (vs:=(w.1.home.grant me).2.1.av) rfl (bZ _) ZS (aU _);have z:(w.1.home.grant me).2.1.data.length<1000000000:=by
    have z0:(0:Nat)<1000000000:=ZS
    unfold Home.grant
    repeat' split
    all_goals first|exact z0|exact Sj Z.r _
   obtain⟨D,g5,d1,W5⟩:=W4.send (fok hc F) (w.1.home.grant me).2.1 z;obtain⟨g',u⟩:=W.app (K':=D) (w':=({ w.1 with home:=(w.1.home.grant me).1 },(w.2.1.send (w.1.home.grant me).2.1).1,w.2.2)) (by
    have:=W5.res;rw [W.len] at this;exact this)
   refine⟨D,g',bC rfl rfl (aiZ _ _ _ _ ?_),u⟩;simp only [xq_,aec,p,j,zaf,A,q,o,y,G,T,X,d1]
def Walk.acD(W:Walk b H g0 S c me k K g ls w)(d:bM):∃K' g',st 9 (.ref (S.a 0) 0 12) (.agg d.av) K=some (bg,K')/\Walk b H g0 S c me k K' g' ls ({ w.1 with aI:=d },w.2):=by
 obtain⟨K',j,h,m,_⟩:=W.loc.good.stores W.base (W.loc.obj W.nw.bF.1) (i:=12) (n:=9) (vs:=d.av) (by rw [iq];decide) rfl (bG d);have e:qJ (xU S.a c me w.1.aI w.1.num) 12 d.av=xU S.a c me d w.1.num:=rfl;rw [e] at h;exact⟨K',_,j,W.own h m⟩
def Walk.apx(W:Walk b H g0 S c me k K g ls w)(z:Int):∃K' g',st 1 (.ref (S.a 0) 0 21) (I z) K=some (bg,K')/\Walk b H g0 S c me k K' g' ls ({ w.1 with num:=z },w.2):=by
 obtain⟨K',h,d,j,_⟩:=W.loc.good.store W.base (W.loc.obj W.nw.bF.1) (i:=21) (v:=I z) (by rw [iq];decide) dO;have e:(xU S.a c me w.1.aI w.1.num).set 21 (.av (I z))=xU S.a c me w.1.aI z:=rfl;rw [e] at d;exact⟨K',_,h,W.own d j⟩
def BX(W:Walk b H g0 S c me k K g ls w)(hc:c.ok=true)(F:wR c w.2.1)(C:0<=w.1.num/\w.1.num<1000000)(aS aj:Int):
  ∃K' g',cl 88 [.ref (S.a 0) 0 0,.ref S.f 0 0,I aS,I aj] K=some (.tup [],K')/\Walk b H g0 S c me k K' g' ls ((w.1.begin_ c me w.2.1 aS aj).1,(w.1.begin_ c me w.2.1 aS aj).2,w.2.2):=by
 have j:=W.ldN (i:=21) (v:=I w.1.num) rfl;have m:=ae6 K aS aj w.1.num;obtain⟨D,E,o,h⟩:=W.acD (.begin aS aj w.1.num);have d:=h.ldN (i:=21) (v:=I w.1.num) rfl;have w1:=wrap_i64 (a:=w.1.num+1) V V;have e:=rC (P:=Tryz.prog) (k:=.i64) (t:=3) (a:=w.1.num+1) (b:=4096) Z;obtain⟨G,L,p,q⟩:=h.apx ((w.1.num+1).tmod 4096);obtain⟨u,y,z,A⟩:=UY q hc (fok hc F) (show(0:Nat)<1000000000 by decide);refine⟨u,y,bC rfl rfl (ar7 _ _ _ _ _ _ ?_),A⟩;simp only [xq_,am1,j,m,o,d,cZ,w1,e,p,z]
end
def afe:∀(n:Nat) (l:List Int),l.Nodup->(∀x∈l,0<=x/\x<n)->l.length<=n
 |0,[],_,_=>zac _
 |0,x::l,_,h=>by have:=h x O;omega
 |n+1,l,hd,h=>by
  by_cases hm:(n:Int)∈l
  ·have d:=afe n (l.erase n) (hd.erase (n:Int)) λx b=>by
    have:=(hd.mem_erase_iff).1 b;have:=h x this.2;omega
   rw [List.length_erase_of_mem hm] at d;omega
  ·have:=afe n l hd λx b=>by
    have:=h x b;have:x≠n:=λe=>hm (e ▸ b);omega
   omega
def cok {c:Cfg}(hc:c.ok=true){ca:Cache}(I:Fj c ca)(hk:ca.dh<1000000000):COk ca:=by
 have B:=uK hc;refine⟨?_,by rw [I.sets];exact B.sets.1,⟨I.aiJ,hk⟩,λe b=>?_,λe b=>?_⟩
 ·have d:(ca.l.map (·.aj)).Nodup:=zcx.2 I.aY;have:=afe c.aY.toNat _ d λx g=>by
   obtain⟨e,b,rfl⟩:=zaI.1 g;have E:=I.ent e b;have d:=E.lo;have h:=E.hi;omega
  rw [zaE] at this;have:=B.aY;omega
 ·have:=(I.ent e b).dat.1;have:=B.bI;omega
 ·have:=I.ent e b;exact⟨this.u0,by have:=this.used;omega⟩
def psz {c:Cfg}{p:Proc}(I:ap6 c p):PSz p:=⟨by have:=I.most;omega,I.vals⟩
def hsz {c:Cfg}(hc:c.ok=true){me:Int}{n:Node}(I:X0 c me n)(hw:∀aj,(n.home.aT.ws aj).length<1000000):HSz n.home:=by
 have B:=uK hc;have hk:∀e∈n.home.aT.wait,0<=e.1/\e.1<c.aY:=λe b=>by
  have:=I.home.here e b;unfold lq at this;simp only [zah,decide_eq_true_eq] at this;omega
 refine⟨⟨I.home.aT.wk,λe b=>by have:=hk e b;have:=B.aY;omega,?_,hw⟩,λe b=>by have:=(I.dJ e b).1;have:=B.bI;omega⟩;have:=afe c.aY.toNat _ I.home.aT.wk λx d=>by
  obtain⟨e,b,rfl⟩:=zaI.1 d;have:=hk e b;omega
 rw [zaE] at this;have:=B.aY;omega
section
variable {b:Nat}{H:ah}{g0:bD}{S:Td}{c:Cfg}{me:Int}{k:Nat}{K K':ah}{g:bD}{ls:Lcl}{w w':NFT}
def akd(c:Cfg)(me:Int)(n:Node)(f:Fab)(t:List Evn)(o:Opn):NFT:=
 let aj:=c.bU o.addr;let e:=n.aH.find aj
 if o.aS=4/\e=none then((n.done me t 0).1,f,(n.done me t 0).2)
 else if o.aS=4 then((n.begin_ c me f 3 aj).1,(n.begin_ c me f 3 aj).2,t)
 else if e.isSome=true/\(o.aS=1∨(e.getD .zero).dn=true) then
  let n:={ n with aH:=n.aH.touch aj }
  ((n.effect c me t).1,f,(n.effect c me t).2)
 else if n.aH.full aj=true then((n.begin_ c me f 3 ((n.aH.oJ aj).getD 0)).1,(n.begin_ c me f 3 ((n.aH.oJ aj).getD 0)).2,t)
 else if o.aS=1 then((n.begin_ c me f 1 aj).1,(n.begin_ c me f 1 aj).2,t)
 else((n.begin_ c me f 2 aj).1,(n.begin_ c me f 2 aj).2,t)
def ake(n:Node)(f:Fab)(t:List Evn)(o:Opn):n.work c me f t o=akd c me { n with bQ:={ n.bQ with eG:=true } } f (if n.bQ.eG then t else t++[⟨me,n.bQ.bH.length,false,0⟩]) o:=rfl
def Xh(W:Walk b H g0 S c me k K g ls w)(hc:c.ok=true)(F:wR c w.2.1)(hp:PSz w.1.bQ)(CI:Fj c w.1.aH)(hk:w.1.aH.dh<1000)(hn:0<=w.1.num/\w.1.num<1000000)(hl:w.2.2.length<1000000){r7:Nat}{o:Opn}(h7:ls r7=some o.av):
  ∃K' g',qC cl (.ref (S.a 0) 0 0) (.ref S.f 0 0) (.ref S.t 0 0) (.ref r7 0 0) K=some (B true,K')/\Walk b H g0 S c me k K' g' ls (akd c me w.1 w.2.1 w.2.2 o):=by
 have C:=cok hc CI (by omega);have W0:=Walk.of W.loc.good W.base W.RX;have lc:=W.apu (i:=2) (n:=8) (ys:=c.av) rfl rfl (by decide);have la:=W.loc.ld h7 (i:=1) (v:=I o.addr) rfl;obtain⟨aj,aff⟩:∃aj,c.bU o.addr=aj:=⟨_,rfl⟩
 have el:=IX K c hc o.addr;rw [aff] at el;have l0:=W.ldN (i:=0) (v:=.ref (S.a 1) 0 0) rfl;have ef:=W.find C aj;obtain⟨fo,hfo⟩:∃fo,w.1.aH.find aj=fo:=⟨_,rfl⟩
 rw [hfo] at ef;simp only [ql] at ef;have hr7:r7<K.next:=W.loc.good.lt (qK h7)
 have W1:=W.newL (ty:=166) (xs:=zE6) (r:=K.next) rfl rfl;obtain⟨K2,u1,u2,W2⟩:=W1.whole ak (n:=6) (vs:=(fo.getD .zero).av) rfl rfl (by decide) (lN _);have k7:iO (iO ls K.next zE6) K.next (fo.getD .zero).av r7=some o.av:=by rw [aC (by omega),aC (by omega)];exact h7
 have lk:=W2.loc.ld k7 (i:=0) (v:=I o.aS) rfl;have ldd:=W2.loc.ld (r:=K.next) (xs:=(fo.getD .zero).av) ak (i:=4) (v:=B (fo.getD .zero).dn) rfl;have l02:=W2.ldN (i:=0) (v:=.ref (S.a 1) 0 0) rfl;have U1:=Rz W2.loc.good (W2.loc.obj W2.nw.bF.2.1) C.len C.sets aj;have atA:=UL W2.loc.good (W2.loc.obj W2.nw.bF.2.1) C.len C.sets C.used aj
 -- what is called is called of the bF
 have back:∀{K3:ah} {g3:bD} {w3:NFT},Walk b H g0 S c me k K3 g3 (iO (iO ls K.next zE6) K.next (fo.getD .zero).av) w3->∃g',Walk b H g0 S c me k K3 g' ls w3:=by
  intro K3 g3 w3 W3;refine⟨g3,W3.hb,⟨W3.loc.good.sub λq cs hq=>?_,λr hr=>?_⟩,W3.nw,W3.off,W3.step,W3.len⟩
  ·unfold lay at hq ⊢;by_cases hqr:q=K.next
   ·subst hqr;have hnone:ls K.next=none:=by
     cases e:ls K.next with
     |none=>rfl
     |some xs=>
      have:=W.loc.good.lt (qK (g:=g) e);omega
    rw [hnone] at hq;simp only at hq;have:=W3.loc.free K.next (by rw [ak];simp)
    rw [this] at hq;cases hq
   ·rw [aC hqr,aC hqr];exact hq
  ·refine W3.loc.free r ?_;have hne:r≠K.next:=λe=>by
    subst e;cases e2:ls K.next with
    |none=>exact hr e2
    |some xs=>
     have:=W.loc.good.lt (qK (g:=g) e2);omega
   rw [aC hne,aC hne];exact hr
 unfold akd;simp only [aff,hfo];by_cases h4:o.aS=4
 ·rw [h4] at lk;cases fo with
  |none=>
   rw [if_pos ⟨h4,rfl⟩];obtain⟨K3,g3,a1,W3⟩:=acv W2 hp hl 0;obtain⟨g',W'⟩:=back W3;refine⟨K3,g',?_,W'⟩;simp only [xq_,qC,nC,lc,la,el,l0,ef,u1,lk,zaK,zam,a1]
  |some e=>
   rw [if_neg (by simp),if_pos h4];obtain⟨K3,g3,a1,W3⟩:=BX W2 hc F hn 3 aj;obtain⟨g',W'⟩:=back W3;refine⟨K3,g',?_,W'⟩;simp only [Int.reduceEq,xq_,qC,nC,lc,la,el,l0,ef,u1,lk,zaL,zaf,a1]
 ·rw [if_neg (λh=>h4 h.1),if_neg h4];by_cases hd:fo.isSome=true/\(o.aS=1∨(fo.getD .zero).dn=true)
  ·rw [if_pos hd];obtain⟨e,rfl⟩:=zde.1 hd.1;obtain⟨K3,a1,a2,a3⟩:=Yp W2.loc.good W2.base (W2.loc.obj W2.nw.bF.2.1) C.len C.clk aj;have W3:=W2.aH a2 a3;have hC:COk (w.1.aH.touch aj):=cok hc (CI.touch hfo) (by rw [Jj CI.aY hfo];omega);obtain⟨K4,g4,b1,W4⟩:=RY W3 hc hp hC hl;obtain⟨g',W'⟩:=back W4;refine⟨K4,g',?_,W'⟩;by_cases h1:o.aS=1
   ·rw [h1] at lk;simp only [Int.reduceEq,xq_,qC,nC,lc,la,el,l0,ef,u1,lk,zaL,a1,l02,b1]
   ·have hdd:=hd.2.resolve_left h1;rw [hdd] at ldd;simp only [xq_,qC,nC,lc,la,el,l0,ef,u1,lk,h4,h1,ldd,zaL,a1,l02,b1]
  ·rw [if_neg hd]
   -- the condition
   have hcond:∀(X Y:Option (AV × ah)),(fo.isSome=false)∨(fo.isSome=true/\¬o.aS=1/\(fo.getD .zero).dn=false):=λ_ _=>by
    cases h:fo.isSome with
    |false=>exact .inl rfl
    |true=>
     refine .inr ⟨rfl,λh1=>hd ⟨h,.inl h1⟩,?_⟩;cases h2:(fo.getD .zero).dn with
     |false=>rfl
     |true=>exact absurd ⟨h,.inr h2⟩ hd
   have hcond:=hcond none none;by_cases hfl:w.1.aH.full aj=true
   ·rw [if_pos hfl];rw [hfl] at U1;obtain⟨K3,g3,a1,W3⟩:=BX W2 hc F hn 3 ((w.1.aH.oJ aj).getD 0);obtain⟨g',W'⟩:=back W3;refine⟨K3,g',?_,W'⟩;rcases hcond with hs|⟨hs,h1,h2⟩
    ·rw [hs] at ef;simp only [xq_,qC,nC,lc,la,el,l0,ef,u1,lk,h4,l02,U1,atA,a1]
    ·rw [hs] at ef;rw [h2] at ldd;simp only [xq_,qC,nC,lc,la,el,l0,ef,u1,lk,h4,h1,ldd,l02,U1,atA,a1]
   ·rw [if_neg hfl];have hff:w.1.aH.full aj=false:=by cases h:w.1.aH.full aj <;> simp_all
    rw [hff] at U1;by_cases h1:o.aS=1
    ·rw [if_pos h1];obtain⟨K3,g3,a1,W3⟩:=BX W2 hc F hn 1 aj;obtain⟨g',W'⟩:=back W3;refine⟨K3,g',?_,W'⟩;have hs:fo.isSome=false:=hcond.resolve_right λh=>h.2.1 h1;rw [hs] at ef;rw [h1] at lk;simp only [Int.reduceEq,xq_,qC,nC,lc,la,el,l0,ef,u1,lk,l02,U1,a1]
    ·rw [if_neg h1];obtain⟨K3,g3,a1,W3⟩:=BX W2 hc F hn 2 aj;obtain⟨g',W'⟩:=back W3;refine⟨K3,g',?_,W'⟩;rcases hcond with hs|⟨hs,_,h2⟩
     ·rw [hs] at ef;simp only [xq_,qC,nC,lc,la,el,l0,ef,u1,lk,h4,h1,l02,U1,a1]
     ·rw [hs] at ef;rw [h2] at ldd;simp only [xq_,qC,nC,lc,la,el,l0,ef,u1,lk,h4,h1,ldd,l02,U1,a1]
end
section
variable {b:Nat}{H:ah}{g0:bD}{S:Td}{c:Cfg}{me:Int}{k:Nat}{K K':ah}{g:bD}{ls:Lcl}{w w':NFT}
def Walk.to(W:Walk b H g0 S c me k K g ls w){K':ah}{d:bD}{e:Lcl}(h:Walk b K (lay g ls) S c me w.2.1.l.length K' d e w'):∃g',Walk b H g0 S c me k K' g' ls w':=
 W.app (by have:=h.res;rw [W.len] at this;exact this)
def acE(W:Walk b H g0 S c me k K g ls w)(hc:c.ok=true)(F:wR c w.2.1)(q:X0 c me w.1)(Q:0<=w.1.num/\w.1.num<1000000)(hl:w.2.2.length<999999):
  ∃K' g',match w.1.bQ.cur with
   |some o=>if w.1.aI.step=0 then cl 46 [.ref (S.a 0) 0 0,.ref S.f 0 0,.ref S.t 0 0] K=some (B true,K')/\Walk b H g0 S c me k K' g' ls (w.1.work c me w.2.1 w.2.2 o)
     else cl 46 [.ref (S.a 0) 0 0,.ref S.f 0 0,.ref S.t 0 0] K=some (B false,K')/\Walk b H g0 S c me k K' g' ls w
   |none=>cl 46 [.ref (S.a 0) 0 0,.ref S.f 0 0,.ref S.t 0 0] K=some (B false,K')/\Walk b H g0 S c me k K' g' ls w:=by
 have P:=psz q.bQ;have u:w.1.aH.dh<1000:=by have:=q.clk;have:=q.bQ.vals;have:=q.bQ.most;omega
 have R:=Walk.of W.loc.good W.base W.RX;have C:=R.ldN (i:=1) (v:=.ref (S.a 2) 0 0) rfl;obtain⟨D,m,W1⟩:=R.cur P;have W2:=W1.newL (ty:=53) (xs:=[zI,zI,zI]) (r:=D.next) rfl rfl;obtain⟨T,E,b2,h⟩:=W2.whole ak (n:=3) (vs:=w.1.bQ.op.av) rfl (eP _) Z (oZ _);have X:iO (iO noL D.next [zI,zI,zI]) D.next w.1.bQ.op.av D.next=some w.1.bQ.op.av:=ak
 have j:=h.ldN (i:=15) (v:=I w.1.aI.step) rfl;cases d:w.1.bQ.cur with
 |none=>
  rw [d] at m;simp only [zaK] at m;obtain⟨g',p⟩:=W.to h;refine⟨T,g',bC rfl rfl (aee _ _ _ _ _ ?_),p⟩;simp only [xq_,aaD,C,m,E,zam]
 |some o=>
  rw [d] at m;simp only [zaL] at m;by_cases hs:w.1.aI.step=0;rotate_left
  ·simp only [if_neg hs];obtain⟨g',p⟩:=W.to h;refine⟨T,g',bC rfl rfl (aee _ _ _ _ _ ?_),p⟩;simp only [Nat.reduceAdd,xq_,aaD,C,m,E,zaf,zam,j,hs]
  ·simp only [if_pos hs];rw [hs] at j;have y:w.1.bQ.op=o:=by simp only [Proc.op,d,zav]
   have z:w.1.bQ.idx=w.1.bQ.bH.length:=by simp only [Proc.idx,d]
   have lp:=h.ldN (i:=1) (v:=.ref (S.a 2) 0 0) rfl;have G:=Rk h.loc.good (h.loc.obj h.nw.bF.2.2.1);rw [ake];cases e:w.1.bQ.eG with
   |true=>
    rw [e] at G;have he:({ w.1 with bQ:={ w.1.bQ with eG:=true } }:Node)=w.1:=by
     rcases hw:w.1 with⟨ca,pr,ho,de,nu⟩
     rw [hw] at e;simp only at e;rcases pr with⟨x1,x2,x3⟩
     simp only at e;subst e;rfl
    rw [he];simp only [if_true];obtain⟨K4,g4,L,A⟩:=Xh h hc F P q.aH u Q V (o:=w.1.bQ.op) X;rw [y] at A;obtain⟨g',p⟩:=W.to A;refine⟨K4,g',bC rfl rfl (aee _ _ _ _ _ ?_),p⟩;simp only [Nat.reduceAdd,xq_,aaD,C,m,E,zaf,j,lp,G,L]
   |false=>
    rw [e] at G;simp only [zai,if_false];obtain⟨v,K4,d1,d2,d3⟩:=acp h.loc.good h.base (h.loc.obj h.nw.bF.2.2.1) P.ops (by have:=P.ops;have:=P.vals;omega) P.vals;have M:w.1.bQ.A8={ w.1.bQ with eG:=true }:=by
     unfold Proc.A8;rw [if_neg (by rw [e,d];simp)]
    rw [M] at d2;have A:=h.bQ d2 d3;have li:=A.ldN (i:=10) (v:=I me) rfl;obtain⟨K5,g5,e1,W5⟩:=A.apv (show w.2.2.length<1000000 by omega) me w.1.bQ.idx;obtain⟨K6,g6,L,W6⟩:=Xh W5 hc F (show PSz ({ w.1.bQ with eG:=true }:Proc) from⟨P.ops,P.vals⟩) q.aH u Q (by simp only [zaq,zal,zao];omega) (o:=w.1.bQ.op) X;rw [y,z] at W6;obtain⟨g',p⟩:=W.to W6;refine⟨K6,g',bC rfl rfl (aee _ _ _ _ _ ?_),p⟩;simp only [Nat.reduceAdd,xq_,aaD,C,m,E,zaf,zam,j,lp,G,d1,li,e1,L]
def YC(W:Walk b H g0 S c me k K g ls w)(hc:c.ok=true)(F:wR c w.2.1)(E:X0 c me w.1)(hl:w.2.2.length<999999)(ad:w.1.aI.data.length<1000000000):
  ∃K' g',match w.2.1.take me false with
   |(f',some p)=>cl 43 [.ref (S.a 0) 0 0,.ref S.f 0 0,.ref S.t 0 0] K=some (B true,K')/\Walk b H g0 S c me k K' g' ls (w.1.answered c me f' w.2.2 p)
   |(_,none)=>cl 43 [.ref (S.a 0) 0 0,.ref S.f 0 0,.ref S.t 0 0] K=some (B false,K')/\Walk b H g0 S c me k K' g' ls w:=by
 have P:=psz E.bQ;have Bd:=uK hc;have am:w.1.aH.dh<1000:=by have:=E.clk;have:=E.bQ.vals;have:=E.bQ.most;omega
 have C:=cok hc E.aH V;have W0:=Walk.of W.loc.good W.base W.RX;have A:=W0.ldN (i:=10) (v:=I me) rfl;obtain⟨K1,g1,j,W1⟩:=W0.OY (fok hc F);obtain⟨F1,Q1⟩:=F.take me false;have W2:=W1.newL (ty:=112) (xs:=zP9) (r:=K1.next) rfl rfl;cases ht:w.2.1.take me false with
 |mk f' po=>
  rw [ht] at j W1 W2 F1 Q1;simp only at j W1 W2 F1 Q1;obtain⟨K3,o,u,W3⟩:=W2.whole ak (n:=9) (vs:=(po.getD .zero).av) rfl (bZ _) Z (aU _);simp only [iM] at j;cases po with
  |none=>
   simp only [za5,zaK] at j o u;have ae:f'=w.2.1:=by
    have:=RZ (f:=w.2.1) (i:=me) (req:=false) (by rw [ht]);rw [ht] at this;exact this
   subst ae;obtain⟨g',m⟩:=W.to W3;refine⟨K3,g',bC rfl rfl (X7 _ _ _ _ _ ?_),m⟩;simp only [xq_,Ob,A,j,o,zam]
  |some p=>
   simp only [zav,zaL] at j o u;have Q:=Q1 p rfl;obtain⟨K4,g4,y,W4⟩:=afb W3 C ad p (Si Q);unfold Node.answered;obtain⟨ca,d,ok,hA⟩:∃ca d ok,w.1.after me p=(ca,d,ok):=⟨_,_,_,rfl⟩
   rw [hA] at y W4;simp only [uU] at y W4;simp only [hA];have W5:=W4.newL (ty:=44) (xs:=zD9) (r:=K4.next) rfl rfl;obtain⟨K6,G,u4,W6⟩:=W5.whole ak (n:=9) (vs:=d.av) rfl rfl Z (bG d);cases ok with
   |false=>
    simp only [if_true];obtain⟨g',m⟩:=W.to W6;refine⟨K6,g',bC rfl rfl (X7 _ _ _ _ _ ?_),m⟩;simp only [xq_,Ob,A,j,o,u,zaf,y,G,zam]
   |true=>
    simp only [zbQ,if_false];have hs:w.1.aI.step≠0:=λh0=>by
     have L:w.1.aI.fits p=false:=by unfold bM.fits;rw [h0];simp [AU,CZ]
     rw [tC,BU L] at hA;simp [wQ] at hA
    have NX:=O6 E.aH (E.aI hs) hs Q (by rw [<-tC];exact hA);have aa:d.data.length<1000000000:=by
     rcases NX.dat with h|h
     ·rw [h];decide
     ·have:=h.1;have:=Bd.bI;omega
    have af:ca.dh<1000000000:=by rcases NX.clk with h|h <;> omega
    have C2:COk ca:=cok hc NX.inv af;obtain⟨K7,g7,c1,W7⟩:=W6.acD d;have lp:=W7.ldN (i:=1) (v:=.ref (S.a 2) 0 0) rfl;obtain⟨K8,d1,W8⟩:=W7.cur P;have W9:=W8.newL (ty:=53) (xs:=[zI,zI,zI]) (r:=K8.next) rfl rfl;obtain⟨ag,u5,u6,e⟩:=W9.whole ak (n:=3) (vs:=w.1.bQ.op.av) rfl (eP _) Z (oZ _);have ao:K4.next<K8.next:=W8.loc.good.lt (q:=K4.next) (qK (g:=g7) ak)
    have k9:iO (iO (iO (iO (iO (iO noL K1.next zP9) K1.next p.av) K4.next zD9) K4.next d.av) K8.next [zI,zI,zI]) K8.next w.1.bQ.op.av K4.next=some d.av:=by
     rw [aC V,aC V,ak]
    have z:=e.loc.ld k9 (i:=3) (v:=I d.step) rfl;have D:=e.loc.ld k9 (i:=0) (v:=I d.aS) rfl;have lo:=e.loc.ld (r:=K8.next) (xs:=w.1.bQ.op.av) ak (i:=0) (v:=I w.1.bQ.op.aS) rfl;by_cases h0:d.step=0
    ·simp only [if_pos h0];rw [h0] at z;by_cases L:d.aS=3/\w.1.bQ.op.aS=4
     ·simp only [if_pos L];rw [L.1] at D;rw [L.2] at lo;obtain⟨ab,ai,e1,M⟩:=acv e P (show w.2.2.length<1000000 by omega) 0;obtain⟨g',m⟩:=W.to M;refine⟨ab,g',bC rfl rfl (X7 _ _ _ _ _ ?_),m⟩;simp only [Int.reduceEq,xq_,Ob,A,j,o,u,zaf,y,G,u4,c1,lp,d1,u5,z,D,lo,e1]
     ·simp only [if_neg L];obtain⟨g',m⟩:=W.to e;refine⟨ag,g',bC rfl rfl (X7 _ _ _ _ _ ?_),m⟩;by_cases hk:d.aS=3
      ·have ho:¬w.1.bQ.op.aS=4:=λh=>L ⟨hk,h⟩;rw [hk] at D;simp only [Int.reduceEq,xq_,Ob,A,j,o,u,zaf,y,G,u4,c1,lp,d1,u5,z,D,lo,ho]
      ·simp only [Int.reduceEq,xq_,Ob,A,j,o,u,zaf,y,G,u4,c1,lp,d1,u5,z,D,hk]
    ·simp only [if_neg h0];by_cases h6:d.step=6/\d.aS≠3
     ·simp only [if_pos h6];rw [h6.1] at z;have hk:=h6.2;simp only [ne_eq] at hk;obtain⟨ab,ai,e1,M⟩:=RY e hc P C2 (show w.2.2.length<1000000 by omega);obtain⟨R,al,e2,T⟩:=UY M hc (fok hc F1) aa;obtain⟨g',m⟩:=W.to T;refine⟨R,g',bC rfl rfl (X7 _ _ _ _ _ ?_),m⟩;simp only [Int.reduceEq,xq_,Ob,IU,A,j,o,u,zaf,y,G,u4,c1,lp,d1,u5,z,D,hk,zam,e1,e2]
     ·simp only [if_neg h6];obtain⟨R,al,e2,T⟩:=UY e hc (fok hc F1) aa;obtain⟨g',m⟩:=W.to T;refine⟨R,g',bC rfl rfl (X7 _ _ _ _ _ ?_),m⟩;by_cases X:d.step=6
      ·have hk:d.aS=3:=Classical.byContradiction λh=>h6 ⟨X,h⟩;rw [X] at z;rw [hk] at D;simp only [Int.reduceEq,xq_,Ob,IU,A,j,o,u,zaf,y,G,u4,c1,lp,d1,u5,z,D,zaf,e2]
      ·simp only [xq_,Ob,IU,A,j,o,u,zaf,y,G,u4,c1,lp,d1,u5,z,h0,X,e2]
def afg(W:Walk b H g0 S c me k K g ls w)(hc:c.ok=true)(F:wR c w.2.1)(e:X0 c me w.1)(X:0<=w.1.num/\w.1.num<1000000)(R:w.2.2.length<999999)(y:w.1.aI.data.length<1000000000)(hw:∀aj,(w.1.home.aT.ws aj).length<1000000):
  ∃K' g',cl 13 [.ref (S.a 0) 0 0,.ref S.f 0 0,.ref S.t 0 0] K=some (I (w.1.step c me w.2.1 w.2.2).2,K')/\Walk b H g0 S c me k K' g' ls (w.1.step c me w.2.1 w.2.2).1:=by
 have Z:=hsz hc e hw;have C:=cok hc e.aH (by have:=e.clk;have:=e.bQ.vals;have:=e.bQ.most;omega);unfold Node.step;obtain⟨K1,g1,z⟩:=YC W hc F e R y;cases ht:w.2.1.take me false with
 |mk f' po=>
  rw [ht] at z;cases po with
  |some p=>
   obtain⟨h,A⟩:=z;refine⟨K1,g1,bC rfl rfl (X6 _ _ _ _ _ ?_),A⟩;simp only [xq_,Us,h]
  |none=>
   obtain⟨h,A⟩:=z;simp only;obtain⟨K2,g2,v⟩:=acC A hc F Z;by_cases T:w.1.home.ready≠[]/\w.2.1.roomOf me false≠0
   ·rw [if_pos T] at v ⊢;obtain⟨i,D⟩:=v;refine⟨K2,g2,bC rfl rfl (X6 _ _ _ _ _ ?_),D⟩;simp only [xq_,Us,h,i]
   ·rw [if_neg T] at v ⊢;obtain⟨i,D⟩:=v;obtain⟨K3,g3,E⟩:=U0 D hc F C Z;cases hr:(if w.2.1.roomOf me false=0 then(w.2.1,none) else w.2.1.take me true) with
    |mk f2 G=>
     rw [hr] at E;cases G with
     |some p=>
      obtain⟨j,L⟩:=E;refine⟨K3,g3,bC rfl rfl (X6 _ _ _ _ _ ?_),L⟩;simp only [xq_,Us,h,i,j]
     |none=>
      obtain⟨j,L⟩:=E;simp only;obtain⟨M,Q,d⟩:=acE L hc F e X R;cases m:w.1.bQ.cur with
      |none=>
       rw [m] at d;obtain⟨q,u⟩:=d;refine⟨M,Q,bC rfl rfl (X6 _ _ _ _ _ ?_),u⟩;simp only [xq_,Us,h,i,j,q]
      |some o=>
       rw [m] at d;simp only at d ⊢;by_cases hs:w.1.aI.step=0
       ·rw [if_pos hs] at d ⊢;obtain⟨q,u⟩:=d;refine⟨M,Q,bC rfl rfl (X6 _ _ _ _ _ ?_),u⟩;simp only [xq_,Us,h,i,j,q]
       ·rw [if_neg hs] at d ⊢;obtain⟨q,u⟩:=d;refine⟨M,Q,bC rfl rfl (X6 _ _ _ _ _ ?_),u⟩;simp only [xq_,Us,h,i,j,q]
end
def afh {H:ah}{r:Nat}{o:gu}(h:H.get r=o):H.put r o=H:=by
 subst h;unfold ah.put;have:(λx=>if x=r then H.get r else H.get x)=H.get:=by
  funext x
  split
  ·rename_i e;rw [e]
  ·rfl
 rw [this]
def akf {H:ah}{r:Nat}{o b:gu}:(H.put r o).put r b=H.put r b:=by
 unfold ah.put
 congr 1
 funext x
 simp only;split <;> rfl
def tY(bit mask:Int)(i:Nat)(l:List By):List By:=l.mapIdx λj c=>if j<i then c ^^^ vW bit mask j else c
def rU(bit mask:Int)(i:Nat)(l:List By):(tY bit mask i l).length=l.length:=by simp [tY]
def YD(bit mask:Int)(l:List By):tY bit mask 0 l=l:=by
 unfold tY
 apply zbb
 intro i;rw [zbe];cases l[i]? <;> simp
def acF(bit mask:Int)(l:List By):tY bit mask l.length l=rH bit mask l:=by
 unfold tY rH
 apply zbb
 intro i;rw [zbe,zbe];cases h:l[i]? with
 |none=>rfl
 |some c=>simp [(zae.1 h).1]
def Sm(bit mask:Int){i:Nat}{l:List By}{c:By}(h:l[i]?=some c):(tY bit mask i l)[i]?=some c:=by
 unfold tY;rw [zbe,h];simp
def LP(bit mask:Int){i:Nat}{l:List By}{c:By}(h:l[i]?=some c):tY bit mask (i+1) l=(tY bit mask i l).set i (c ^^^ vW bit mask i):=by
 apply zbb
 intro j;have hi:=(zae.1 h).1;unfold tY;rw [zbe,zcW,zbe,zcc];by_cases e:i=j
 ·subst e;rw [if_pos rfl,if_pos hi,h];simp
 ·rw [if_neg e];cases g:l[j]? with
  |none=>rfl
  |some d=>
   simp only [zak]
   congr 1
   by_cases b:j<i
   ·rw [if_pos b,if_pos V]
   ·rw [if_neg b,if_neg V]
def DV(bit mask:Int){i:Nat}{l:List By}{c:By}(h:l[i]?=some c)(hm:vW bit mask i=0#8):tY bit mask (i+1) l=tY bit mask i l:=by
 rw [LP bit mask h,hm,zdy]
 apply zbb
 intro j;rw [zcW];split
 ·rename_i e;subst e;split
  ·rw [Sm bit mask h]
  ·rename_i b;rw [zaG V]
 ·rfl
def YE {K0:ah}{r n:Nat}{l:List By}{bit mask:Int}(hb:nN bit)(h0:0<=mask)(D:mask<=65535)(hs:l.length<1000)(Q:r<K0.next)(g:K0.base<=r):
  ∀(k i:Nat),i+k=l.length->Ot cl0 [I bit,.s (.int .u16 mask),.sl r 0 0 1 l.length l.length false,I l.length,I i] (K0.put r (.blk 0 (5+iC) ((tY bit mask i l).map Y)))
   =some (.sl r 0 0 1 l.length l.length false,K0.put r (.blk 0 (5+iC) ((tY bit mask l.length l).map Y))):=by
 obtain⟨R,T⟩:=hb;intro k
 induction k with
 |zero=>
  intro i hi;have D:¬((i:Int)<l.length):=V
  obtain rfl:i=l.length:=V
  rw [aaO];simp only [Int.reduceNeg,xq_,D]
 |succ k W=>
  intro i hi;have o:(i:Int)<l.length:=V
  have p:(i:Int)+1=((i+1:Nat):Int):=V
  have q:=wrap_i64 (a:=((i+1:Nat):Int)) V V;obtain⟨c,hc⟩:∃c,l[i]?=some c:=⟨_,zab V⟩
  have u:=wrap_i64 (a:=8*(i:Int)) V V;have b:=W (i+1) V;rw [aaO];by_cases X:8*(i:Int)-bit<9223372036854775808
  ·have w:=wrap_i64 (a:=8*(i:Int)-bit) V V;by_cases h:8*(i:Int)-bit<=-8
   ·have hm:vW bit mask i=0#8:=by unfold vW;rw [if_pos (.inl h)]
    rw [DV bit mask hc hm] at b;simp only [Int.reduceNeg,xq_,o,je,u,kH,w,h,Dw,cZ,p,q,b]
   by_cases E:16<=8*(i:Int)-bit
   ·have hm:vW bit mask i=0#8:=by unfold vW;rw [if_pos (.inr E)]
    rw [DV bit mask hc hm] at b;simp only [Int.reduceNeg,xq_,o,je,u,kH,w,h,E,Dw,cZ,p,q,b]
   have hd:∃d:Int,8*(i:Int)-bit=d/\-8<d/\d<16:=⟨_,rfl,V,V⟩
   obtain⟨d,hd,aa,ab⟩:=hd;have z:=wrap_i64 (a:=d+8) V V;have A:=wrap_i64 (a:=d) V V;have ds:¬(d<=-8):=V
   have db:¬(16<=d):=V
   obtain⟨m,rfl⟩:∃m:Nat,mask=m:=⟨mask.toNat,V⟩
   have ad:AV.s (.int .u16 (m:Int))=U16 (BitVec.ofNat 16 m):=by
    have hv:(((BitVec.ofNat 16 m).toNat:Nat):Int)=m:=by rw [zcs,zco V]
    show AV.s (.int .u16 (m:Int))=AV.s (.int .u16 (((BitVec.ofNat 16 m).toNat:Nat):Int));rw [hv]
   let K:ah:=K0.put r (.blk 0 (5+iC) ((tY bit m i l).map Y));have j:dL K (.sl r 0 0 1 l.length l.length false) (tY bit m i l):=by
    refine⟨⟨O,rfl,(rU ..).symm,⟨Q,zac _⟩,_,_,uP,?_,?_⟩,by rw [rU];exact hs⟩
    ·rw [zaE,rU];omega
    ·rw [rU,zbO,zaS,zaw (by rw [zaE,rU];exact zac _)]
   have F:ix 1 (.sl r 0 0 1 l.length l.length false) (I i) K=some (.ref r 0 i,K):=by
    have:=j.ix (i:=i) (by rw [rU];omega)
    simpa [eH] using this
   have G:ld (.ref r 0 i) K=some (Y c,K):=by
    have:=j.ld (Sm bit m hc)
    simpa [eH] using this
   have L:cv 50 234 (.s (.int .u16 (m:Int))) K=some (U32 (BitVec.ofNat 32 m),K):=by
    refine(ZU (k:=.u16) (n:=(m:Int)) (H:=K)).trans ?_;rw [Bq (k:=.u32) rfl];rfl
   let y:BitVec 32:=BitVec.ofNat 32 m <<< 8;let e:BitVec 32:=y <<< (d+8).toNat;have e2:bi .shl 234 (U32 (BitVec.ofNat 32 m)) (.s (.int .u64 8))=some (U32 y):=aar (k:=.u32) rfl _ 8 Z Z;have e3:bi .shl 234 (U32 y) (I (d+8))=some (U32 e):=aar (k:=.u32) rfl y (d+8) V (show d+8<=(32:Int) by omega);have e4:bi .shr 234 (U32 e) (.s (.int .u64 24))=some (U32 (e >>> 24)):=aiO (k:=.u32) e 24 Z Z;have C:cv 234 5 (U32 (e >>> 24)) K=some (Y ((e >>> 24).setWidth 8),K):=
    (adU (k:=.u32) (n:=((e >>> 24).toNat:Int)) (H:=K)).trans (congrArg (λv=>some (v,K)) (al2 (k:=.u32) (k':=.u8) rfl _))
   have hm:(e >>> 24).setWidth 8=vW bit m i:=by
    unfold vW;rw [if_neg (by rw [hd];omega),hd];rfl
   rw [hm] at C;have e6:bi .xor 5 (Y c) (Y (vW bit m i))=some (Y (c ^^^ vW bit m i)):=aiN (k:=.u8) rfl _ _;have M:st 1 (.ref r 0 i) (Y (c ^^^ vW bit m i)) K=some (bg,K0.put r (.blk 0 (5+iC) ((tY bit m (i+1) l).map Y))):=by
    refine(VN (H:=K) (r:=r) (gg:=0) (off:=i) (ty:=5+iC) (xs:=(tY bit m i l).map Y) (v:=Y (c ^^^ vW bit m i)) dO uP g (by rw [zaE,rU];omega)).trans ?_;show some (bg,(K0.put r _).put r _)=_;rw [akf,LP bit m hc,List.map_set]
   simp only [K] at F G L C M;simp only [Int.reduceNeg,xq_,o,je,u,kH,hd,A,ds,db,F,G,L,e2,e3,e4,C,e6,M,z,Dw,cZ,p,q,b]
  ·have w:IntKind.i64.wrap (8*(i:Int)-bit)=8*(i:Int)-bit-18446744073709551616:=by
    simp only [IntKind.wrap,IntKind.signed,IntKind.bits];simp;omega
   have h:8*(i:Int)-bit-18446744073709551616<=-8:=V
   have hm:vW bit mask i=0#8:=by unfold vW;rw [if_pos (.inr V)]
   rw [DV bit mask hc hm] at b;simp only [Int.reduceNeg,xq_,o,je,u,kH,w,h,Dw,cZ,p,q,b]
def apy {H:ah}(hb:H.base<=H.next){x:AV}{l:List By}(hx:dL H x l)(hl:l≠[]){bit mask:Int}(hbit:nN bit)(h0:0<=mask)(h1:mask<=65535):
  ∃r H',cl0 95 [x,I bit,.s (.int .u16 mask)] H=some (.sl r 0 0 1 l.length l.length false,H')/\Gro H H'/\dL H' (.sl r 0 0 1 l.length l.length false) (rH bit mask l)/\H'.base<=H'.next:=by
 let H1:=H.new (.blk 0 5 []);let K0:=H1.new (.blk 0 (5+iC) (l.map Y));have e1:=aby hx hl;have n1:H1.next=H.next+1:=eX
 have n2:K0.next=H.next+1+1:=by simp only [K0,eX,n1]
 have g:Gro H K0:=(Gro.new H 0 _ _).trans (Gro.new H1 0 _ _);have at_:K0.get (H.next+1)=.blk 0 (5+iC) (l.map Y):=aZ n1.symm;have ps:K0.put (H.next+1) (.blk 0 (5+iC) ((tY bit mask 0 l).map Y))=K0:=by rw [YD];exact afh at_
 have lp:=YE (K0:=K0) (r:=H.next+1) (n:=0) (l:=l) hbit h0 h1 hx.small (by omega) (by rw [g.base];omega) l.length 0 (by omega);rw [ps] at lp;have ln:lnS (.sl (H.next+1) 0 0 1 l.length l.length false) K0=some (I l.length,K0):=rfl;refine⟨H.next+1,K0.put (H.next+1) (.blk 0 (5+iC) ((tY bit mask l.length l).map Y)),iQ (asi _ _ _ _ _ ?_),g.put (by omega),?_,by show K0.base<=K0.next;rw [g.base];omega⟩
 ·simp only [xq_,am6,e1];exact lp
 ·rw [acF];refine⟨⟨by simp,rfl,(jv ..).symm,⟨by show H.next+1<K0.next;omega,zac _⟩,_,_,uP,?_,?_⟩,by rw [jv];exact hx.small⟩
  ·rw [zaE,jv];omega
  ·rw [jv,zbO,zaS,zaw (by rw [zaE,jv];exact zac _)]
def asR(c:By):yOf (Y c)=some c:=by
 have h:=c.isLt;show(if(0:Int)<=(c.toNat:Int)/\(c.toNat:Int)<256 then some (BitVec.ofInt 8 (c.toNat:Int)) else none)=some c;rw [if_pos ⟨V,V⟩,rJ]
def ahY:∀l:List By,(l.map Y).mapM yOf=some l
 |[]=>rfl
 |c::l=>by rw [zax,zbw,asR,ahY l];rfl
def YF {H:ah}{r n:Nat}{l:List By}(e:l.length=n)(h:dL H (.sl r 0 0 1 n n false) l)(h0:0<n)(g:n<=800):IK (.sl r 0 0 1 n n false) H=some l:=by
 subst e;obtain⟨⟨j,_,_,⟨k,_⟩,m,all,i,b,d⟩,hs⟩:=h;rw [zbO] at d b;simp only [IK,i];rw [if_pos ⟨trivial,trivial,b,h0,g⟩,<-d];exact ahY l
def Sr(p:Pkt):(tX p).length=12+8*p.data.length:=by
 rw [sS];rfl
def acG {H:ah}{r:Nat}{p:Pkt}(g:p.fit){bit mask:Int}(h0:0<=mask)(i:mask<=65535){n:Nat}(m:n=(tX p).length)(h:dL H (.sl r 0 0 1 n n false) (rH bit mask (tX p))):
  cl 94 [.sl r 0 0 1 n n false] H=some (if aT p.bytes bit mask=true then .tup [.agg Pkt.zero.av,I 2] else .tup [.agg p.av,I 0],H):=by
 refine G9 (p:=Du) rfl ?_;have ok:=g.ok;simp only [Pkt.ok,zah,decide_eq_true_eq] at ok;have j:=Sr p;unfold Du;simp only [YF (by rw [jv,m]) h V V];by_cases e:aT p.bytes bit mask=true
 ·rw [if_pos e];have d:∀y,rH bit mask (tX p)≠jT y:=λy=>Uo h0 i (by
   have:(jT (fM p)).length=p.bytes:=sS p;rw [this];exact e)
  rw [dif_neg (λ⟨q,_,o⟩=>d _ o.symm),if_pos d]
 ·rw [if_neg e];have k:rH bit mask (tX p)=tX p:=X5 h0 i (by rw [sS];simpa using e);have b:∃q:Pkt,q.fit/\tX q=rH bit mask (tX p):=⟨p,g,k.symm⟩
  rw [dif_pos b];have hs:=Classical.choose_spec b;have:Classical.choose b=p:=aeY hs.1 g (hs.2.trans k);rw [this]
def Xi(p:Pkt)(n:Int):Frz 9 (.tup [.agg p.av,I n]):=vP λx b=>by
 simp only [zaj,zaA,or_false] at b;rcases b with rfl|rfl
 ·exact ny λx b=>by
   simp only [Pkt.av,zaj,zaA,or_false] at b;rcases b with rfl|rfl|rfl|rfl|rfl|rfl|rfl|rfl|rfl <;> first|exact iD|exact vS
 ·exact iD
def akg(H:ah){p:Pkt}(hp:p.fit){bit mask:Int}(hbit:nN bit)(h0:0<=mask)(h1:mask<=65535):
  cl 48 [.agg p.av,I bit,.s (.int .u16 mask)] H=some (if aT p.bytes bit mask=true then .tup [.agg Pkt.zero.av,I 2] else .tup [.agg p.av,I 0],H):=by
 have ax:p.av=p.avx (dat p.data):=rfl;let o1:gu:=.blk 0 112 p.av;let o2:gu:=.blk 0 112 zPk;let K:=(H.guard.new o1).new o2;have hlen:=Sr p;have hK:K.base<=K.next:=by simp only [K,jB,eX];exact(by omega:H.next<=H.next+1+1)
 obtain⟨y,K1,e1,g1,b1,hb1⟩:=ao4 hK p (qO K p.data) hp.ok;rw [<-ax] at e1;have e1':cl 93 [.agg p.av] K=some (.tup [y,I 0],K1):=G9 (p:=cl0 93) rfl e1;obtain⟨r,K2,e2,g2,b2,hb2⟩:=apy hb1 b1 (bit:=bit) (mask:=mask) (λe=>by rw [e] at hlen;simp at hlen;omega) hbit h0 h1;have e2':cl 95 [y,I bit,.s (.int .u16 mask)] K1=some (_,K2):=G9 (p:=cl0 95) rfl e2;have e3:=acG hp h0 h1 rfl b2;have hR:K2.get (H.next+1)=o2:=by
  rw [g2.same _ (zay (show H.next+1<K.next by simp only [K,eX];exact zdn _) g1.next),g1.same _ (by simp only [K,eX];exact zdn _)];exact aZ rfl
 have hbase:K2.base<=H.next+1:=by
  rw [g2.base,g1.base];exact za8 _
 have key:∀q:Pkt,st 9 (.ref (H.next+1) 0 0) (.agg q.av) K2=some (bg,K2.put (H.next+1) (.blk 0 112 q.av))/\lda 9 (.ref (H.next+1) 0 0) (K2.put (H.next+1) (.blk 0 112 q.av))=some (.agg q.av,K2.put (H.next+1) (.blk 0 112 q.av)):=λq=>by
  refine⟨?_,(iH (off:=0) (n:=9) uP (zac _)).trans rfl⟩;rw [VO (aU _) (show q.av.length=9 from rfl) hR hbase (by decide)];rfl
 have l1:lda 9 (.ref H.next 0 0) K=some (.agg p.av,K):=by
  have:K.get H.next=.blk 0 112 p.av:=by
   simp only [K];rw [bJ (by rw [eX];exact zdn _)];exact aZ rfl
  exact(iH (off:=0) (n:=9) this (zac _)).trans rfl
 by_cases ht:aT p.bytes bit mask=true
 ·rw [if_pos ht] at e3 ⊢;refine dD rfl rfl (amx _ _ _ _ _) ?_ (Xi _ _);obtain⟨k1,k2⟩:=key .zero;simp only [K,o1,o2] at e1' l1;have n1:H.guard.next=H.next:=rfl
  simp only [Nat.reduceLT,xq_,hq_,ai1,aG,l1,e1',e2',e3,k1,k2,zaf]
 ·rw [if_neg ht] at e3 ⊢;refine dD rfl rfl (amx _ _ _ _ _) ?_ (Xi _ _);obtain⟨k1,k2⟩:=key p;simp only [K,o1,o2] at e1' l1;have n1:H.guard.next=H.next:=rfl
  simp only [Nat.reduceLT,xq_,hq_,ai1,aG,l1,e1',e2',e3,k1,k2,zaf]
def Xj:∀(l:List Port) (i:Nat) (k:Nat) {j:Nat} {k':Int},x8 (l.flatMap λp=>[p.rq,p.an]) (2*i) (k:Int)=some (j,k')->AX l i k=some (j / 2,decide (j % 2=0),k'.toNat)
 |[],i,k,j,k',h=>by cases h
 |p::l,i,k,j,k',h=>by
  simp only [zaC,zbq,zaM,x8] at h;simp only [AX];by_cases b:k<p.rq.length
  ·rw [if_pos ⟨V,V⟩] at h;cases h;rw [if_pos b,show 2*i / 2=i by omega,show 2*i % 2=0 by omega];rfl
  ·rw [if_neg (λe=>b V)] at h;rw [if_neg b];by_cases d:k<p.rq.length+p.an.length
   ·rw [if_pos ⟨V,V⟩] at h;cases h;rw [if_pos d,show(2*i+1) / 2=i by omega,show(2*i+1) % 2=1 by omega];simp only [zaa,zad,true_and];exact⟨O,V⟩
   ·rw [if_neg (λe=>d V)] at h;rw [if_neg d];rw [show(k:Int)-p.rq.length-p.an.length=((k-(p.rq.length+p.an.length):Nat):Int) by omega,show 2*i+1+1=2*(i+1) by omega] at h;exact Xj l (i+1) _ h
def auC {b:Nat}{K:ah}{d:bD}{r:Nat}{ys:List AV}(k:Good b K d)(hk:K.base<=b)(m:d r=some (ys.map Cell.av))(g:ys.length=2){y:List AV}(h:y.length=2)(ha:y.all AV.aP=true):
  ∃K',st 2 (.ref r 0 0) (.agg y) K=some (bg,K')/\Good b K' (upd d r (y.map Cell.av))/\Step b K K':=by
 obtain⟨K',o,j,p,q⟩:=k.stores hk m (i:=0) (n:=2) (vs:=y) (by simp [g]) h ha;have e:qJ (ys.map Cell.av) 0 y=y.map Cell.av:=by
  unfold qJ;rw [zaV (by simp [h,g])];simp
 rw [e] at j;exact⟨K',o,j,p⟩
def acH {fab:Fab}{d:Nat}{req:Bool}{l:List Pkt}:(fab.put d ((fab.port d).lG req l)).jr=fab.jr:=by
 unfold Fab.jr Fab.put;rw [zar];have key:∀(ls:List Port) (d:Nat),((ls.set d ((ls.getD d .zero).lG req l)).flatMap λp=>[p.rq,p.an])=ls.flatMap λp=>[p.rq,p.an]:=by
  intro ls
  induction ls with
  |nil=>intro d;rfl
  |cons p ls b=>
   intro d;cases d with
   |zero=>cases req <;> simp [Port.lG]
   |succ d=>simpa using b d
 have:=key fab.l d;unfold Fab.port;rw [zar];exact this
def Xk:∀(ls:List Port) (j:Nat) {l:List Pkt},(ls.flatMap λp=>[p.rq,p.an])[j]?=some l->(ls.getD (j / 2) .zero).sort (decide (j % 2=0))=l
 |[],j,l,h=>by simp at h
 |p::ls,0,l,h=>by simpa [Port.sort] using h
 |p::ls,1,l,h=>by simpa [Port.sort] using h
 |p::ls,j+2,l,h=>by
  have b:(ls.flatMap λp=>[p.rq,p.an])[j]?=some l:=by simpa using h
  have:=Xk ls j b;rw [show(j+2) / 2=j / 2+1 by omega,show(j+2) % 2=j % 2 by omega]
  simpa using this
section
variable {b:Nat}{H:ah}{g:bD}{f:Nat}{P:Nat->Nat->Nat}{c:Cfg}{fab:Fab}
def YG(G:Good b H g)(hb:H.base<=b)(F:iG g f P c fab)(J:UD P fab.l.length)(K:FOk c fab)(h0:fab.l.length≠0)(ag:∀p∈fab.all,p.fit/\fab.is p.dst=true){at_ bit mask:Int}(ai:nN at_)(al:nN bit)(m0:0<=mask)(m1:mask<=65535):
  ∃H' g',cl 14 [.ref f 0 0,I at_,I bit,.s (.int .u16 mask)] H=some (I (fab.deliver at_ bit mask).2,H')/\Good b H' g'/\iG g' f P c (fab.deliver at_ bit mask).1/\Off (PN P fab.l.length) g g'/\Step b H H':=by
 have a7:H.base<=H.next:=zaz hb G.1
 have ab:∀l∈fab.jr,l.length<1000/\∀p∈l,p.data.length<1000000000:=by
  intro l W;unfold Fab.jr at W;obtain⟨p,C,W⟩:=za0.1 W;simp only [zaj,zaA,or_false] at W;rcases W with rfl|rfl
  ·exact⟨K.small C (s:=0) Z,K.dat p C 0 Z⟩
  ·exact⟨K.small C (s:=2) Z,K.dat p C 2 Z⟩
 have e1:=abW G F K.len h0 ab at_ ai;have E:g H.next=none:=G.isNone (zac _)
 have G1:=G.newObj (ty:=112) (xs:=zP9) rfl;obtain⟨K1,s1,l1,G2,S2⟩:=ajY G1 (by rw [jB];exact hb) aQ rfl (y:=((fab.pkt at_).getD .zero).av) (bZ _) (aU _);rw [qw] at G2;have X:=(Step.new (.blk 0 112 zP9) G.1).trans S2;cases C:fab.pkt at_ with
 |none=>
  have hd:fab.deliver at_ bit mask=(fab,3):=by
   unfold Fab.deliver;unfold Fab.pkt at C;split at C
   ·rename_i h;rw [if_pos h]
   ·rename_i h;rw [if_neg h,C]
  rw [hd];rw [C] at e1 s1;refine⟨K1,g,bC rfl rfl (ad9 _ _ _ _ _ _ ?_),G2.sub ((sK.refl g).more E _),F,Off.refl _ _,X⟩;simp only [iM,za5,zaK] at e1 s1;simp only [xq_,aas,e1,s1,zam]
 |some p=>
  rw [C] at e1 s1 l1 G2;simp only [iM,zav,zaL] at e1 s1 l1 G2;have am:¬at_<0:=by
   intro h;unfold Fab.pkt at C;rw [if_pos h] at C;cases C
  have L:fab.all[at_.toNat]?=some p:=by
   unfold Fab.pkt at C
   rwa [if_neg am] at C
  obtain⟨pf,pd⟩:=ag p (zan L);have e2:=akg K1 pf al m0 m1;have hd:fab.deliver at_ bit mask=if aT p.bytes bit mask=true then(fab,2) else
    if fab.room (qU p.aS)<=((fab.port p.dst).qo (qU p.aS)).length then(fab,5) else
    ((fab.put p.dst ((fab.port p.dst).lG (qU p.aS) ((fab.port p.dst).qo (qU p.aS)++[p]))).remove at_.toNat,0):=by
   unfold Fab.deliver;rw [if_neg am,L]
  have ao:K1.base<=b:=by rw [X.base];exact hb
  by_cases ht:aT p.bytes bit mask=true
  ·rw [if_pos ht] at e2 hd;rw [hd];obtain⟨K2,s3,l3,G3,S3⟩:=ajY G2 ao aQ (bZ _) (y:=Pkt.zero.av) (bZ _) (aU _);rw [qw] at G3;refine⟨K2,g,bC rfl rfl (ad9 _ _ _ _ _ _ ?_),G3.sub ((sK.refl g).more E _),F,Off.refl _ _,X.trans S3⟩;simp only [Int.reduceEq,xq_,aas,e1,s1,zaf,l1,e2,s3,zam]
  rw [if_neg ht] at e2 hd;rw [hd];obtain⟨K2,s3,l3,G3,S3⟩:=ajY G2 ao aQ (bZ _) (y:=p.av) (bZ _) (aU _);rw [qw] at G3;have ap:=X.trans S3;have F3:=F.sub ((sK.refl g).more E (p.av.map Cell.av));obtain⟨d,ay,z⟩:=BO pd;obtain⟨x,r,gg,o,h1,h2,h3⟩:=BP G3 F3 z;have D:ld (.ref H.next 0 2) K2=some (I p.dst,K2):=G3.load aQ (i:=2) rfl;have M:ld (.ref H.next 0 0) K2=some (I p.aS,K2):=G3.load aQ (i:=0) rfl;let req:=qU p.aS;have rq:=LC K2.guard p.aS;obtain⟨K3,t1,t2⟩:=F9 K2.guard (zac _) (P d) req;obtain⟨K3,t1,t2⟩:=drawn t1 t2;have G4:=G3.ext t2.next t2.same
  have az:K3.base<=b:=by rw [t2.base,ap.base];exact hb
  have aD:Step b K2 K3:=⟨t2.base,t2.next,λr hr=>t2.same r (zay hr G3.1)⟩
  have l9:lda 9 (.ref H.next 0 0) K3=some (.agg p.av,K3):=G4.loads aQ (i:=0) (n:=9) (xs:=p.av) rfl rfl Z;have aq:=gX (F3.port z) (tu req);have hR:=LK K.ok (iIx req);obtain⟨K4,q1,q2,q3⟩:=aen G4 az aq hR.1 hR.2 (K.small (Fab.vZ z) (tu req)) p (by have:=pf.ok;simp only [Pkt.ok,zah,decide_eq_true_eq] at this;omega);rw [Jg] at q1 q2;have Q:PO c (iIx req)=fab.room req:=by
   have aE:fab.inn=c.inn:=F.2.2.2;unfold Fab.room;cases req <;> simp [iIx,PO,aE]
  have ar:=K.box _ (Fab.vZ z) _ (tu req);rw [Jg] at ar;have f1:(ae5 (P d) req)[1]?=some (.ref (P d (iIx req)) 0 0):=rfl;have ad:=(ap.trans aD).trans q3;have aL:K4.base<=b:=by rw [ad.base];exact hb
  have R:p.dst=(d:Int):=ay;have a8:P d (iIx req)≠H.next:=λe=>F.UU G ⟨d,iIx req,z,tu req,e.symm⟩
  by_cases u:PO c (iIx req)=(((fab.port d).qo req).length:Int)
  ·rw [if_pos u] at q1 q2;rw [if_pos (show fab.room (qU p.aS)<=((fab.port p.dst).qo (qU p.aS)).length by rw [R];show fab.room req<=_;rw [<-Q];exact Int.le_of_eq u)];rw [fP (by rw [aq,Jg])] at q2;refine⟨K4,g,bC rfl rfl (ad9 _ _ _ _ _ _ ?_),q2.sub ((sK.refl g).more E _),F,Off.refl _ _,ad⟩;rw [R] at D;simp only [req] at rq t1 f1 q1;simp only [Int.reduceEq,xq_,aas,e1,s1,zaf,l1,e2,s3,h1,D,h2,h3,M,rq,t1,f1,l9,q1,zam]
  ·rw [if_neg u] at q1 q2;rw [if_neg (show¬fab.room (qU p.aS)<=((fab.port p.dst).qo (qU p.aS)).length by rw [R];show¬fab.room req<=_;rw [<-Q];exact λh=>u (Int.le_antisymm h ar))];have F4:=F3.fill J z (tu req) (p':=(fab.port d).lG req ((fab.port d).qo req++[p])) (l:=(fab.port d).qo req++[p]) (DL _ _ _);rw [R];show∃H' g',_/\_/\iG g' f P c ((fab.put d ((fab.port d).lG req ((fab.port d).qo req++[p]))).remove at_.toNat)/\_/\_;generalize ae:fab.put d ((fab.port d).lG req ((fab.port d).qo req++[p]))=O8 at*;have T:O8.jr=fab.jr:=by rw [<-ae];exact acH
   have w:O8.l.length=fab.l.length:=by rw [<-ae];simp [Fab.put]
   have e5:=abV q2 F4 (by rw [w];exact K.len) (by rw [w];exact h0) (λl W=>(ab l (by rw [<-T];exact W)).1) at_ ai;rw [T] at e5;cases hf:x8 fab.jr 0 at_ with
   |none=>
    exfalso;have:=DF hf;rw [show fab.jr.flatten=fab.all from DI fab.l] at this;have h2:=(zae.1 L).1;omega
   |some jk=>
    obtain⟨j,k⟩:=jk;rw [hf] at e5;obtain⟨_,l,z2,z3,z4,z5,z6⟩:=uO hf;rw [Nat.sub_zero] at z2;have hj:j<2*fab.l.length:=by
     have:=(zae.1 z2).1
     rwa [Fab.jr,rM] at this
    have af:j / 2<O8.l.length:=by rw [w];omega
    obtain⟨kn,rfl⟩:∃kn:Nat,k=kn:=⟨k.toNat,V⟩
    have aM:AX O8.l 0 at_.toNat=some (j / 2,decide (j % 2=0),kn):=by
     have hh:=Xj O8.l 0 at_.toNat (j:=j) (k':=kn) (by
      show x8 O8.jr 0 _=_;rw [T,zc9 V];exact hf)
     simpa using hh
    have aR:x9 P (some (j,(kn:Int)))=.tup [.agg (lu P j),I kn,B true]:=rfl;rw [aR] at e5;let m:Bool:=decide (j % 2=0);have hP:(if j % 2=0 then 0 else 2)=oIx m:=by
     by_cases h:j % 2=0 <;> simp [m,h,oIx]
    have aa:=abU F4 (j:=j) (l:=l) (by rw [T];exact z2);rw [hP] at aa;have a9:=gX (F4.port af) (uS m);have W:(O8.port (j / 2:Nat)).sort m=l:=by
     have:=Xk O8.l j (show O8.jr[j]?=some l by rw [T];exact z2);unfold Fab.port;rw [zar];exact this
    have a0:kn<l.length:=V
    obtain⟨a1,a2⟩:=ab l (zan z2);have n4:(upd (upd g H.next (p.av.map Cell.av)) (P d (iIx req)) (oz ((fab.port d).qo req++[p]) (PO c (iIx req)))) K4.next=none:=q2.isNone (zac _)
    have G5:=q2.newObj (ty:=99) (xs:=[zP,zP]) rfl;obtain⟨K5,u1,G6,S6⟩:=auC G5 (by rw [jB];exact aL) aQ rfl (y:=lu P j) rfl rfl;rw [qw] at G6;have u2:ld (.ref K4.next 0 0) K5=some (.ref (P (j / 2) (oIx m)) 0 0,K5):=by
     refine G6.load aQ (i:=0) ?_;rw [<-hP];rfl
    have aw:=(ad.trans (Step.new _ q2.1)).trans S6;have a3:K5.base<=b:=by rw [aw.base];exact hb
    have a4:P (j / 2) (oIx m)≠K4.next:=λe=>by rw [e,n4] at aa;cases aa
    obtain⟨v,K6,y1,G7,S7⟩:=Yu G6 a3 (by rw [bn a4];exact aa) a1 a2 kn a0;have ax:UD P O8.l.length:=by rw [w];exact J
    have F7:=F4.fill ax af (uS m) (p':=(O8.port (j / 2:Nat)).drop m kn) (l:=l.eraseIdx kn) (by
     intro t ht;have:=Ad (O8.port (j / 2:Nat)) m (l.eraseIdx kn) t ht;unfold Port.drop;rw [W];exact this)
    have a5:O8.remove at_.toNat=O8.put (j / 2:Nat) ((O8.port (j / 2:Nat)).drop m kn):=by
     unfold Fab.remove;rw [aM]
    rw [a5];rw [tq] at F7;let g':=upd (upd g (P d (iIx req)) (oz ((fab.port d).qo req++[p]) (PO c (iIx req)))) (P (j / 2) (oIx m)) (oz (l.eraseIdx kn) c.out);have ba:P (j / 2) (oIx m)≠H.next:=λe=>F.UU G ⟨j / 2,oIx m,V,uS m,e.symm⟩
    have a6:sK g' (upd (upd (upd g H.next (p.av.map Cell.av)) (P d (iIx req)) (oz ((fab.port d).qo req++[p]) (PO c (iIx req)))) (P (j / 2) (oIx m)) (oz (l.eraseIdx kn) c.out)):=(((sK.refl g).more E _).both _ _).both _ _;have F8:iG g' f P c (O8.put (j / 2:Nat) ((O8.port (j / 2:Nat)).drop m kn)):=by
     have hJ:UD P fab.l.length:=J;have A:=F.fill J z (tu req) (p':=(fab.port d).lG req ((fab.port d).qo req++[p])) (l:=(fab.port d).qo req++[p]) (DL _ _ _);rw [ae] at A;have B:=A.fill ax af (uS m) (p':=(O8.port (j / 2:Nat)).drop m kn) (l:=l.eraseIdx kn) (by
      intro t ht;have:=Ad (O8.port (j / 2:Nat)) m (l.eraseIdx kn) t ht;unfold Port.drop;rw [W];exact this)
     rw [tq] at B;exact B
    refine⟨K6,g',bC rfl rfl (ad9 _ _ _ _ _ _ ?_),G7.sub λq cs hq=>?_,F8,(Off.upd ⟨d,iIx req,z,tu req,rfl⟩).trans (Off.upd ⟨j / 2,oIx m,V,uS m,rfl⟩),aw.trans S7⟩
    ·rw [R] at D;simp only [req] at rq t1 f1 q1;simp only [xq_,aas,e1,s1,zaf,l1,e2,s3,h1,D,h2,h3,M,rq,t1,f1,l9,q1,e5,u1,u2,y1]
    ·have:=a6 q cs hq;by_cases e:q=P (j / 2) (oIx m)
     ·subst e;rw [aQ] at this ⊢;exact this
     ·rw [bn e] at this ⊢;have h4:q≠K4.next:=λe'=>by rw [e',n4] at this;cases this
      rw [bn h4];exact this
end
def IC.ask {t:Turns}(h:IC t)(aj who id:Int):IC (t.ask aj who id).1:=by
 unfold Turns.ask;split
 ·exact h
 split
 ·refine⟨h.ok,h.oge,nJ h.wk _ _,λe b w hw=>?_⟩;rcases mV b with rfl|b
  ·rcases zaO.1 hw with hw|hw
   ·unfold Turns.ws at hw;cases ha:jC t.wait aj with
    |none=>rw [ha] at hw;cases hw
    |some ws=>rw [ha] at hw;exact h.wge _ (mQ ha) w hw
   ·simp only [zaU] at hw;subst hw;simp only;omega
  ·exact h.wge e b w hw
 ·refine⟨nJ h.ok _ _,λe b=>?_,h.wk,h.wge⟩;rcases mV b with rfl|b
  ·simp only;omega
  ·exact h.oge e b
def IC.release {t:Turns}(h:IC t)(aj who:Int):IC (t.release aj who).1:=by
 unfold Turns.release;split
 ·refine⟨?_,λe b=>h.oge e (IB b),h.wk,h.wge⟩;show((yU t.gG aj).map (·.1)).Nodup;rw [Dj];exact h.ok.erase _
 ·exact h
def IC.next {t:Turns}(h:IC t)(aj:Int):IC (t.next aj).1:=by
 unfold Turns.next
 split
 ·exact h
 split
 ·exact h
 ·rename_i w ws hw;have d:∀x∈w::ws,0<=x.1:=by
   unfold Turns.ws at hw;cases e:jC t.wait aj with
   |none=>rw [e] at hw;cases hw
   |some l=>
    rw [e] at hw;rw [show l=w::ws from hw] at e;exact h.wge _ (mQ e)
  refine⟨nJ h.ok _ _,λe b=>?_,nJ h.wk _ _,λe b x g=>?_⟩
  ·rcases mV b with rfl|b
   ·exact d w O
   ·exact h.oge e b
  ·rcases mV b with rfl|b
   ·exact d x (za9 _ g)
   ·exact h.wge e b x g
def yY(c:Cfg)(me:Int)(h:Home):Prop:=∀aj,lq c me aj=true->∃row,jC h.dJ aj=some row
def afi {c:Cfg}{dJ:Rows}{aj aV head:Int}{data:List Int}{m:Int}(h:∃row,jC dJ m=some row):∃row,jC (iL c dJ aj aV head data).1 m=some row:=by
 unfold iL;cases jC dJ aj with
 |none=>exact h
 |some r=>
  simp only;split
  ·exact h
  split
  ·exact h
  ·rw [iF];split
   ·exact⟨_,rfl⟩
   ·exact h
section
variable {c:Cfg}{me:Int}{h:Home}
def YH(hc:c.ok=true)(I:Y4 c me h)(R:yY c me h)(p:Pkt):Y4 c me (h.handle c me p).1/\yY c me (h.handle c me p).1:=by
 unfold Home.handle;split
 ·exact⟨I,R⟩
 rename_i d;have b:0<=p.aj:=by
  simp only [zbk,za4,not_or,zcy,zah] at d;have:=d.1.1.1;simp only [Pkt.ok,zah,decide_eq_true_eq] at this;omega
 split
 ·exact⟨I,R⟩
 rename_i g;have i:lq c me p.aj=true:=by
  cases e:lq c me p.aj with
  |true=>rfl
  |false=>exact absurd ((Bf hc b).2 e) g
 split
 ·have key:Y4 c me { h with aT:=(h.aT.ask p.aj p.src p.id).1 }/\yY c me { h with aT:=(h.aT.ask p.aj p.src p.id).1 }:=⟨⟨I.aT.ask _ _ _,λe j=>by
   rcases VX j with h|h
   ·rw [h];exact i
   ·exact I.here e h⟩,R⟩
  simp only;split <;> exact key
 ·have key:Y4 c me (h.unlock c p).1/\yY c me (h.unlock c p).1:=by
   unfold Home.unlock;generalize (if p.flag=true then p.data else [])=dat;split
   ·exact⟨I,R⟩
   ·simp only;split
    ·exact⟨⟨I.aT.release _ _,by simp only [Eo];exact I.here⟩,λaj k=>afi (R aj k)⟩
    ·exact⟨I,R⟩
  simp only;split <;> exact key
def acJ(I:Y4 c me h)(R:yY c me h):Y4 c me (h.grant me).1/\yY c me (h.grant me).1:=by
 unfold Home.grant;cases i:h.ready with
 |nil=>exact⟨I,R⟩
 |cons aj l=>
  obtain⟨m,p,j⟩:=uI i;have k:lq c me aj=true:=by
   obtain⟨e,b,rfl⟩:=zaI.1 j;exact I.here e b
  have d:∀e∈(h.aT.next aj).1.wait,lq c me e.1=true:=λe b=>by
   rcases QL b with h|h
   ·exact I.here e h
   ·rw [h.1];exact k
  have g:=I.aT.next aj
  simp only;cases ha:h.aT.next aj with
  |mk t o=>
   rw [ha] at d g;cases o with
   |none=>exact⟨I,R⟩
   |some w=>exact⟨⟨g,d⟩,R⟩
def Jk(R:yY c me h)(d:∀e∈h.dJ,qB c e.2.data){aj:Int}(g:lq c me aj=true)(who id:Int):(granted h.dJ me aj who id).ok=true->yV c (granted h.dJ me aj who id):=by
 intro hk;obtain⟨row,b⟩:=R aj g;have hd:qB c (jq h.dJ aj).data:=by
  unfold jq;rw [b];exact d _ (mQ b)
 exact⟨hk,λ_=>hd,hd.2⟩
def YI(hc:c.ok=true)(R:yY c me h)(g:∀e∈h.dJ,qB c e.2.data)(p:Pkt):(h.handle c me p).2.1.ok=true->yV c (h.handle c me p).2.1:=by
 unfold Home.handle;have z:Pkt.zero.ok=true->yV c Pkt.zero:=yM rfl (by simp [Pkt.zero]);split
 ·exact z
 rename_i d;have b:0<=p.aj:=by
  simp only [zbk,za4,not_or,zcy,zah] at d;have:=d.1.1.1;simp only [Pkt.ok,zah,decide_eq_true_eq] at this;omega
 split
 ·exact z
 rename_i i;have j:lq c me p.aj=true:=by
  cases e:lq c me p.aj with
  |true=>rfl
  |false=>exact absurd ((Bf hc b).2 e) i
 split
 ·simp only;split
  ·exact Jk R g j _ _
  ·exact z
 ·simp only;split
  ·exact yM rfl O
  ·exact z
end
structure ahZ(c:Cfg)(me:Int)(n:Node)(t:List Evn)(A:NFT):Prop where
 inv:X0 c me A.1
 dJ:yY c me A.1.home
 fab:wR c A.2.1
 evs:A.2.2.length+n.evs=t.length+A.1.evs
section
variable {c:Cfg}{me:Int}{n:Node}{f:Fab}{t:List Evn}{o:Opn}{e:Ent}
def SA(g:n.bQ.cur=some o)(hb:n.bQ.eG=true)(h:n.aH.find (c.bU o.addr)=some e):
  n.effect c me t=({ n with aH:=(n.aH.put (eU e o (c.dI o.addr))).1,bQ:=⟨n.bQ.ops,n.bQ.bH++[if o.aS=2 then 0 else e.word (c.dI o.addr)],false⟩ },t++[⟨me,n.bQ.bH.length,true,if o.aS=2 then 0 else e.word (c.dI o.addr)⟩]):=by
 have d:n.bQ.op=o:=by unfold Proc.op;rw [g];rfl
 have b:n.bQ.idx=n.bQ.bH.length:=by unfold Proc.idx;rw [g]
 unfold Node.effect;simp only [d,h,zav];unfold Node.done;simp only [Proc.Df,hb,if_true,b]
def LQ(I:Fj c n.aH)(d:I64 o.value)(i:n.aH.find (c.bU o.addr)=some e):Fj c (n.aH.put (eU e o (c.dI o.addr))).1/\(n.aH.put (eU e o (c.dI o.addr))).1.dh=n.aH.dh:=by
 obtain⟨g,h⟩:=(iJ I.aY).1 i;have E:=I.ent e g;obtain⟨b,_⟩:=rQ e o (c.dI o.addr);refine⟨I.put (by rw [b];exact E.lo) (by rw [b];exact E.hi) (Yz E.dat d),?_⟩;rw [lY I.aY (x:=e) (by rw [b];exact E.lo) (by rw [b,h];exact i)]
def afj {p:Proc}{v:Int}(P:ap6 c p)(hb:p.eG=true):ap6 c ⟨p.ops,p.bH++[v],false⟩:=by
 have:=P.eG hb;exact⟨P.most,P.right,by simp only [zaq,zal,zao];omega,λh=>by cases h⟩
def YJ {ca:Cache}{d:bM}{p:Pkt}(b:Ep n.aI me n.aH p=(ca,d,false)):ca=n.aH:=by
 cases g:n.aI.fits p with
 |false=>rw [BU g] at b;simp only [wQ,zad] at b;exact b.1.symm
 |true=>
  unfold Ep at b
  repeat' split at b
  ·unfold dX at b
   repeat' split at b
   all_goals (simp only [wQ,zad,zbQ,and_false] at b)
   all_goals exact b.1.symm
  ·unfold dY at b
   repeat' split at b
   all_goals (simp only [wQ,zad,zbQ,and_false] at b)
   all_goals exact b.1.symm
  ·unfold eF at b;split at b
   ·simp only [wQ,zad] at b;exact b.1.symm
   ·split at b
    ·exfalso;cases h:n.aH.find n.aI.aj with
     |none=>simp [h] at b
     |some e=>
      simp only [h] at b
      repeat' split at b
      all_goals simp at b
    ·unfold gW at b
     repeat' split at b
     all_goals (simp only [wQ,zad,zbQ,and_false] at b)
     all_goals exact b.1.symm
  ·simp only [wQ,zad] at b;exact b.1.symm
def O9 {p:Proc}{v:Int}{n':Node}(hb:n.bQ.eG=true)(h:n'.bQ=⟨n.bQ.ops,n.bQ.bH++[v],false⟩):t.length+1+n.evs=t.length+n'.evs:=by
 unfold Node.evs;rw [h,hb];simp only [if_true,zaq,zal,zao,zai,if_false];omega
def SB(hc:c.ok=true)(I:X0 c me n)(R:yY c me n.home)(F:wR c f){p:Pkt}(Q:yV c p):ahZ c me n t (n.answered c me f t p):=by
 have g:ahZ c me n t (n,f,t):=⟨I,R,F,rfl⟩
 unfold Node.answered;rw [tC];by_cases hs:n.aI.step=0
 ·have M:n.aI.fits p=false:=by
   unfold bM.fits;rw [hs];simp [AU,CZ]
  rw [BU M];simp only [wQ,if_true];exact g
 have D:=I.aI hs;cases L:Ep n.aI me n.aH p with
 |mk ca T=>
  obtain⟨d,ok⟩:=T;cases ok with
  |false=>
   rw [YJ L];simp only [if_true];exact g
  |true=>
   simp only [zbQ,if_false];have N:=O6 I.aH D hs Q L;by_cases k:d.step=0
   ·rw [if_pos k];rcases N.way with⟨w1,_,C⟩|⟨w1,_⟩
    rotate_left
    ·exact absurd k w1
    subst C;by_cases b:d.aS=3/\n.bQ.op.aS=4
    ·rw [if_pos b];have hb:=D.roll (by rw [<-N.aS];exact b.1);have H:=I.bQ.eG hb;have K:n.bQ.Df 0=⟨n.bQ.ops,n.bQ.bH++[0],false⟩:=by unfold Proc.Df;rw [if_pos hb]
     simp only [Node.done,K];refine⟨⟨afj I.bQ hb,I.aH,I.dJ,I.home,λh=>absurd k h,?_⟩,R,F,?_⟩
     ·have:=I.clk;simp only [zaq,zal,zao];omega
     ·simp only [zaq,zal,zao];exact O9 (p:=n.bQ) hb rfl
    ·rw [if_neg b];exact⟨⟨I.bQ,I.aH,I.dJ,I.home,λh=>absurd k h,I.clk⟩,R,F,rfl⟩
   ·rw [if_neg k];rcases N.way with⟨_,E,_⟩|⟨_,E,C⟩
    ·exact absurd E k
    have m:0<=d.aj:=by rw [N.aj];exact D.lo
    by_cases i:d.step=6/\d.aS≠3
    ·simp only [if_pos i];have b:n.aI.aS≠3:=by rw [<-N.aS];exact i.2
     have W:=D.work b E;obtain⟨o,G,j,q,u⟩:=W.op;have v:o∈n.bQ.ops:=zan G;obtain⟨e,K,_⟩:∃e,ca.find n.aI.aj=some e/\(n.aI.aS=2->e.dn=true):=by
      rcases C b with⟨w,_⟩|⟨_,w⟩
      ·exact absurd i.1 w
      ·exact w
     have y:({ n with aH:=ca,aI:=d }:Node).aH.find (c.bU o.addr)=some e:=by show ca.find _=_;rw [j];exact K
     rw [SA (n:={ n with aH:=ca,aI:=d }) (e:=e) G W.eG y];obtain⟨X,p2⟩:=LQ (n:={ n with aH:=ca,aI:=d }) N.inv (I.bQ.right o v).2 y;have H:=I.bQ.eG W.eG;have aa:ca.dh<=n.bQ.bH.length+1:=by
      have:=I.clk;rcases N.clk with h|⟨_,_,h⟩ <;> omega
     refine⟨⟨afj I.bQ W.eG,X,I.dJ,I.home,λ_=>?_,?_⟩,R,F.send (acw N.dat _ _),?_⟩
     ·exact⟨m,by rw [N.aj];exact D.hi,by rw [N.aS];exact D.aS,N.dat,N.aiK,λh=>absurd h i.2,λ_ h=>absurd i.1 h,λ_ _=>rfl⟩
     ·simp only [zaq,zal,zao];rw [p2];show ca.dh<=_;omega
     ·simp only [zaq,zal,zao];exact O9 (p:=n.bQ) W.eG rfl
    ·simp only [if_neg i];refine⟨⟨I.bQ,N.inv,I.dJ,I.home,λ_=>⟨m,by rw [N.aj];exact D.hi,by rw [N.aS];exact D.aS,N.dat,N.aiK,λh=>D.roll (by rw [<-N.aS];exact h),λb z=>?_,λb z=>absurd ⟨z,b⟩ i⟩,?_⟩,R,F.send (acw N.dat _ _),rfl⟩
     ·have A:n.aI.aS≠3:=by rw [<-N.aS];exact b
      have W:=D.work A E;rcases C A with⟨_,w⟩|⟨w,_⟩
      ·subst w;obtain⟨o,G,j,q,u⟩:=W.op;exact⟨W.eG,⟨o,G,by rw [j];exact N.aj.symm,by rw [N.aS];exact q,by rw [N.aS];exact u⟩,by simp only;rw [N.aj];exact W.full⟩
      ·exact absurd w z
     ·have:=I.clk;rcases N.clk with h|⟨b,z,_⟩
      ·simp only;omega
      ·exact absurd ⟨z,by rw [N.aS];exact b⟩ i
def BZ(I:X0 c me n)(R:yY c me n.home)(F:wR c f){k l:Int}(hk:1<=k/\k<=3)(h0:0<=l)(b:l<c.aY)(hb:n.bQ.eG=true)
  (hw:k≠3->(∃o,n.bQ.cur=some o/\c.bU o.addr=l/\(k=1->o.aS=1)/\(k=2->o.aS=2∨o.aS=3))/\n.aH.full l=false):ahZ c me n t ((n.begin_ c me f k l).1,(n.begin_ c me f k l).2,t):=by
 refine⟨⟨I.bQ,I.aH,I.dJ,I.home,λ_=>⟨h0,b,hk,.inl rfl,λ_ h=>absurd (show(1:Int)=3 from h) Z,λ_=>hb,λd _=>?_,λ_ h=>absurd (show(1:Int)=6 from h) Z⟩,I.clk⟩,R,F.send (acw (.inl rfl) _ _),rfl⟩;obtain⟨⟨o,e,g,i,j⟩,m⟩:=hw d;exact⟨hb,⟨o,e,g,i,j⟩,m⟩
def afk(hc:c.ok=true)(I:X0 c me n)(R:yY c me n.home)(F:wR c f)(D:n.bQ.cur=some o)(hd:n.aI.step=0):ahZ c me n t (n.work c me f t o):=by
 have u:o∈n.bQ.ops:=zan D;have G:n.bQ.bH.length<n.bQ.ops.length:=(zae.1 D).1;have Rr:=I.bQ.right o u;have O:=aqd hc Rr.1;obtain⟨n1,g⟩:∃n1:Node,n1={ n with bQ:={ n.bQ with eG:=true } }:=⟨_,rfl⟩
 have i:X0 c me n1:=by rw [g];exact⟨⟨I.bQ.most,I.bQ.right,I.bQ.vals,λ_=>G⟩,I.aH,I.dJ,I.home,λh=>absurd hd h,I.clk⟩
 have m:yY c me n1.home:=by rw [g];exact R
 have k:n1.bQ.cur=some o:=by rw [g];exact D
 have b:n1.bQ.eG=true:=by rw [g]
 have H:n1.aH=n.aH:=by rw [g]
 have v:n1.aI.step=0:=by rw [g];exact hd
 obtain⟨w,y⟩:∃w,w=if n.bQ.eG=true then t else t++[⟨me,n.bQ.bH.length,false,0⟩]:=⟨_,rfl⟩
 have aa:w.length+n.evs=t.length+n1.evs:=by
  rw [y,g];unfold Node.evs;cases n.bQ.eG
  ·simp only [zai,if_false,zaq,zal,zao,if_true];omega
  ·simp only [if_true]
 have d:∀{A:NFT},ahZ c me n1 w A->ahZ c me n t A:=λ{A} h=>⟨h.inv,h.dJ,h.fab,by have:=h.evs;omega⟩
 unfold Node.work;simp only;rw [<-g,<-y,<-H];by_cases c1:o.aS=4/\n1.aH.find (c.bU o.addr)=none
 ·rw [if_pos c1];refine d ?_;have j:n1.bQ.Df 0=⟨n1.bQ.ops,n1.bQ.bH++[0],false⟩:=by unfold Proc.Df;rw [if_pos b]
  simp only [Node.done,j];refine⟨⟨afj i.bQ b,i.aH,i.dJ,i.home,λh=>absurd v h,?_⟩,m,F,?_⟩
  ·have:=i.clk;simp only [zaq,zal,zao];omega
  ·simp only [zaq,zal,zao];exact O9 (p:=n1.bQ) b rfl
 rw [if_neg c1];by_cases c2:o.aS=4
 ·rw [if_pos c2];exact d (BZ i m F ⟨Z,Z⟩ O.lo O.hi b λh=>absurd rfl h)
 rw [if_neg c2];by_cases K:(n1.aH.find (c.bU o.addr)).isSome=true/\(o.aS=1∨((n1.aH.find (c.bU o.addr)).getD .zero).dn=true)
 ·rw [if_pos K];obtain⟨e,j⟩:=zde.1 K.1;have T:=i.aH.touch j;have L:=YB i.aH.aY j;refine d ?_;obtain⟨M,Q⟩:∃M:Ent,M={ e with used:=n1.aH.dh+1 }:=⟨_,rfl⟩
  rw [<-Q] at L;have W:({ aH:=n1.aH.touch (c.bU o.addr),bQ:={ ops:=n.bQ.ops,bH:=n.bQ.bH,eG:=true },home:=n.home,aI:=n.aI,num:=n.num }:Node)={ n1 with aH:=n1.aH.touch (c.bU o.addr) }:=by rw [g]
  have hE:=SA (me:=me) (t:=w) (n:={ n1 with aH:=n1.aH.touch (c.bU o.addr) }) (e:=M) k b L;obtain⟨p1,p2⟩:=LQ (n:={ n1 with aH:=n1.aH.touch (c.bU o.addr) }) T Rr.2 L;rw [W,hE];refine⟨⟨afj i.bQ b,p1,i.dJ,i.home,λh=>absurd v h,?_⟩,m,F,?_⟩
  ·have:=i.clk;have hk:=Jj i.aH.aY j;simp only [zaq,zal,zao];rw [p2];show(n1.aH.touch _).dh<=_;omega
  ·simp only [zaq,zal,zao];exact O9 (p:=n1.bQ) b rfl
 rw [if_neg K];by_cases q:n1.aH.full (c.bU o.addr)=true
 ·rw [if_pos q];have z:n1.aH.pq (c.bU o.addr)≠[]:=by
   intro e;unfold Cache.full at q;simp only [e,zao,zah,decide_eq_true_eq] at q;have:=(nK hc).2.2.2.2.1;rw [i.aH.ways] at q;omega
  obtain⟨e,j⟩:∃e,oq (n1.aH.pq (c.bU o.addr))=some e:=by
   cases h:n1.aH.pq (c.bU o.addr) with
   |nil=>exact absurd h z
   |cons a l=>exact⟨_,rfl⟩
  have hv:n1.aH.oJ (c.bU o.addr)=some e.aj:=by unfold Cache.oJ;rw [j];rfl
  have X:e∈n1.aH.l:=by
   have:=(sO j).1;unfold Cache.pq at this;exact(zbp.1 this).1
  have E:=i.aH.ent e X;rw [hv];simp only [zav];exact d (BZ i m F ⟨Z,Z⟩ E.lo E.hi b λh=>absurd rfl h)
 rw [if_neg q];have C:n1.aH.full (c.bU o.addr)=false:=by simpa using q
 by_cases c5:o.aS=1
 ·rw [if_pos c5];exact d (BZ i m F ⟨Z,Z⟩ O.lo O.hi b λ_=>⟨⟨o,k,rfl,λ_=>c5,λh=>V⟩,C⟩)
 ·rw [if_neg c5];have k1:=O.k1;have k4:=O.k4;exact d (BZ i m F ⟨Z,Z⟩ O.lo O.hi b λ_=>⟨⟨o,k,rfl,λh=>V,λ_=>V⟩,C⟩)
def acK(hc:c.ok=true)(I:X0 c me n)(R:yY c me n.home)(F:wR c f){p:Pkt}(Q:yV c p):ahZ c me n t ((n.asked c me f p).1,(n.asked c me f p).2,t):=by
 unfold Node.asked;by_cases hk:p.aS=1∨p.aS=2
 ·rw [if_pos hk];have g:=YH hc I.home R p;have i:=UZ (c:=c) (me:=me) I.dJ Q.num;have d:=YI hc R I.dJ p;cases j:n.home.handle c me p with
  |mk h x=>
   rw [j] at g i d;obtain⟨out,ok,e⟩:=x;simp only at g i d ⊢;refine⟨⟨I.bQ,I.aH,i,g.1,λhs=>?_,I.clk⟩,g.2,?_,rfl⟩
   ·have D:=I.aI hs;exact⟨D.lo,D.hi,D.aS,D.dat,D.aiK,D.roll,λa b=>by have W:=D.work a b;exact⟨W.eG,W.op,W.full⟩,D.rest⟩
   ·simp only;split
    ·exact F.send d
    ·exact F
 ·rw [if_neg hk];obtain⟨k,m,o,q⟩:=acy I.aH p;cases j:fQ n.aH p with
  |mk ca x=>
   rw [j] at k m o q;obtain⟨out,e⟩:=x;simp only at k m o q ⊢;refine⟨⟨I.bQ,k,I.dJ,I.home,λhs=>?_,by simp only;rw [o];exact I.clk⟩,R,?_,rfl⟩
   ·have D:=I.aI hs;exact⟨D.lo,D.hi,D.aS,D.dat,D.aiK,D.roll,λa b=>by have W:=D.work a b;exact⟨W.eG,W.op,q _ hc W.full⟩,D.rest⟩
   ·simp only;split
    ·exact F.send m
    ·exact F
def afl(hc:c.ok=true)(I:X0 c me n)(R:yY c me n.home)(F:wR c f):ahZ c me n t (n.step c me f t).1:=by
 unfold Node.step;obtain⟨i,j⟩:=F.take me false;cases u:f.take me false with
 |mk H x=>
  rw [u] at i j;cases x with
  |some p=>exact SB hc I R i (j p rfl)
  |none=>
   simp only;by_cases d:n.home.ready≠[]/\f.roomOf me false≠0
   ·rw [if_pos d];obtain⟨v,z⟩:=acJ I.home R;refine⟨⟨I.bQ,I.aH,?_,v,λhs=>?_,I.clk⟩,z,F.send ?_,rfl⟩
    ·have:(n.home.grant me).1.dJ=n.home.dJ:=by
      unfold Home.grant;cases n.home.ready with
      |nil=>rfl
      |cons aj l=>
       simp only;cases n.home.aT.next aj with
       |mk tt w=>cases w <;> rfl
     simp only;rw [this];exact I.dJ
    ·have D:=I.aI hs;exact⟨D.lo,D.hi,D.aS,D.dat,D.aiK,D.roll,λa b=>by have W:=D.work a b;exact⟨W.eG,W.op,W.full⟩,D.rest⟩
    ·unfold Home.grant;cases k:n.home.ready with
     |nil=>exact absurd k d.1
     |cons aj l=>
      have hm:=(uI k).2.2;have A:lq c me aj=true:=by
       obtain⟨e,C,rfl⟩:=zaI.1 hm;exact I.home.here e C
      simp only;cases n.home.aT.next aj with
      |mk tt w=>
       cases w with
       |none=>exact yM rfl (by simp [Pkt.zero])
       |some w=>exact Jk R I.dJ A _ _
   ·rw [if_neg d];obtain⟨m,q⟩:=F.take me true;cases g:(if f.roomOf me false=0 then(f,none) else f.take me true:Fab × Option Pkt) with
    |mk E y=>
     cases y with
     |some p=>
      simp only;have G:f.take me true=(E,some p):=by
       split at g
       ·cases g
       ·exact g
      rw [G] at m q;exact acK hc I R m (q p rfl)
     |none=>
      simp only;cases h:n.bQ.cur with
      |none=>exact⟨I,R,F,rfl⟩
      |some o=>
       simp only;by_cases hd:n.aI.step=0
       ·rw [if_pos hd];exact afk hc I R F h hd
       ·rw [if_neg hd];exact⟨I,R,F,rfl⟩
end
def afm(m:bW):Prop:=∀(i:Nat) n,m.aB[i]?=some n->yY m.c i n.home
def acL {m:bW}(I:akb m)(R:afm m)(i:Int):akb (m.step i).1/\afm (m.step i).1:=by
 unfold bW.step bW.bF;by_cases o:0<=i
 ·rw [if_pos o];cases h:m.aB[i.toNat]? with
  |none=>exact⟨I,R⟩
  |some n=>
   have hi:=(zae.1 h).1;have b:((i.toNat:Nat):Int)=i:=V
   have p:=I.bF i.toNat n h;have q:=R i.toNat n h;rw [b] at p q;have d:=afl (t:=m.trace) I.ok p q I.fab;simp only;generalize n.step m.c i m.fab m.trace=r at d;obtain⟨⟨n',v,t'⟩,k⟩:=r;refine⟨⟨I.ok,by simp only [zcf];exact I.len,d.fab,λj a ha=>?_,?_⟩,λj a ha=>?_⟩
   ·simp only at ha ⊢;by_cases g:j=i.toNat
    ·subst g;rw [zbd hi] at ha;cases ha;rw [b];exact d.inv
    ·rw [zbl (λe=>g e.symm)] at ha;exact I.bF j a ha
   ·have w:=acz Node.evs (a':=n') h;have u:=d.evs;have y:=I.evs;simp only at u ⊢;omega
   ·simp only at ha ⊢;by_cases g:j=i.toNat
    ·subst g;rw [zbd hi] at ha;cases ha;rw [b];exact d.dJ
    ·rw [zbl (λe=>g e.symm)] at ha;exact R j a ha
 ·rw [if_neg o];exact⟨I,R⟩
def SC {m:bW}(I:akb m)(a b k:Int):akb (m.deliver a b k).1:=⟨I.ok,I.len,I.fab.deliver a b k,I.bF,I.evs⟩
def DX(f:Fab):Prop:=∀p∈f.l,∀q,q∈p.rq∨q∈p.an->f.is q.dst=true
def apB(f:Fab)(i:Int)(p:Port)(k:Int):(f.put i p).is k=f.is k:=by
 unfold Fab.is Fab.put;simp
def DX.put {f:Fab}(D:DX f)(i:Int){p:Port}(h:∀q,q∈p.rq∨q∈p.an->f.is q.dst=true):DX (f.put i p):=by
 intro x b q d;rw [apB];unfold Fab.put at b;rcases zbV b with b|rfl
 ·exact D x b q d
 ·exact h q d
def DX.at {f:Fab}(D:DX f)(i:Int):∀q,q∈(f.port i).rq∨q∈(f.port i).an->f.is q.dst=true:=by
 intro q b;unfold Fab.port at b;rw [zas] at b;cases h:f.l[i.toNat]? with
 |none=>rw [h] at b;simp [Port.zero] at b
 |some p=>rw [h] at b;exact D p (zan h) q b
def DX.send {f:Fab}(D:DX f)(p:Pkt):DX (f.send p).1:=by
 unfold Fab.send;split
 ·exact D
 ·rename_i hc;split
  ·exact D
  ·refine D.put _ λq b=>?_;have hd:f.is p.dst=true:=by
    cases h:f.is p.dst with
    |true=>rfl
    |false=>simp [h] at hc
   cases hk:qU p.aS with
   |true=>
    rw [hk] at b;simp only [Port.kP,Port.sort,if_true,zaO,zaU] at b;rcases b with(b|rfl)|b
    ·exact D.at _ q (.inl b)
    ·exact hd
    ·exact D.at _ q (.inr b)
   |false=>
    rw [hk] at b;simp only [Port.kP,Port.sort,zai,if_false,zaO,zaU] at b;rcases b with b|b|rfl
    ·exact D.at _ q (.inl b)
    ·exact D.at _ q (.inr b)
    ·exact hd
def DX.lG {f:Fab}(D:DX f)(i:Int)(req:Bool)(l:List Pkt):DX (f.put i ((f.port i).lG req l)):=by
 refine D.put _ λq b=>D.at i q ?_;cases req <;> exact b
def DX.take {f:Fab}(D:DX f)(i:Int)(req:Bool):DX (f.take i req).1:=by
 unfold Fab.take;split
 ·split
  ·exact D
  ·exact D.lG _ _ _
 ·exact D
def DX.remove {f:Fab}(D:DX f)(k:Nat):DX (f.remove k):=by
 unfold Fab.remove;split
 ·refine D.put _ λq b=>?_;rename_i i req k' _;refine D.at i q ?_;cases req with
  |true=>
   simp only [Port.drop,Port.kP,Port.sort,if_true] at b;exact b.imp zcH id
  |false=>
   simp only [Port.drop,Port.kP,Port.sort,zai,if_false] at b;exact b.imp id zcH
 ·exact D
def DX.deliver {f:Fab}(D:DX f)(a b k:Int):DX (f.deliver a b k).1:=by
 unfold Fab.deliver;split
 ·exact D
 split
 ·exact D
 split
 ·exact D
 split
 ·exact D
 ·exact(D.lG _ _ _).remove _
def DX.all {f:Fab}(D:DX f):∀p∈f.all,f.is p.dst=true:=by
 intro p b;unfold Fab.all at b;obtain⟨q,d,b⟩:=za0.1 b;rcases zaO.1 b with b|b
 ·exact D q d p (.inl b)
 ·exact D q d p (.inr b)
def DX.new(c:Cfg):DX (.new c):=by
 intro p b q d;rw [Fab.new,List.mem_replicate] at b;rw [b.2] at d;simp [Port.zero] at d
def Cb(c:Cfg)(me aj:Int):∀n:Nat,jC (c.jP me n) aj=if 0<=aj/\aj<n/\c.bf aj=me then some ⟨0,-1,c.first aj⟩ else none
 |0=>by
  have:¬(0<=aj/\aj<((0:Nat):Int)/\c.bf aj=me):=V
  rw [if_neg this];rfl
 |n+1=>by
  simp only [Cfg.jP];by_cases h:c.bf n=me
  ·rw [if_pos h,iF,Cb c me aj n];by_cases e:(n:Int)=aj
   ·subst e;rw [if_pos rfl,if_pos ⟨V,V,h⟩]
   ·rw [if_neg e];by_cases b:0<=aj/\aj<n/\c.bf aj=me
    ·rw [if_pos b,if_pos ⟨b.1,V,b.2.2⟩]
    ·rw [if_neg b,if_neg (λd=>b ⟨d.1,V,d.2.2⟩)]
  ·rw [if_neg h,Cb c me aj n];by_cases b:0<=aj/\aj<n/\c.bf aj=me
   ·rw [if_pos b,if_pos ⟨b.1,V,b.2.2⟩]
   ·rw [if_neg b,if_neg (λd=>b ⟨d.1,(by
     have:aj≠n:=λe=>h (by rw [<-e];exact d.2.2);omega),d.2.2⟩)]
structure NX(T:Nat)(n:Node):Prop where
 YK:0<=n.num
 num1:n.num<4096
 dat:n.aI.data.length<=4
 ws:∀aj,(n.home.aT.ws aj).length<=T
def NX.mono {T b:Nat}{n:Node}(h:NX T n)(d:T<=b):NX b n:=⟨h.YK,h.num1,h.dat,λl=>zaz (h.ws l) d⟩
section
variable {d:bM}{ca:Cache}{p:Pkt}{me:Int}
def ah0(hc:∀e∈ca.l,e.data.length<=4){aj:Int}{e:Ent}(h:ca.find aj=some e):e.data.length<=4:=by
 unfold Cache.find at h;exact hc e (zba h)
def acM(hd:d.data.length<=4)(b:p.data.length<=4):(dX d me ca p).2.1.data.length<=4:=by
 unfold dX wQ
 repeat' split
 all_goals first
  |exact hd
  |exact b
  |exact zaY _
  |(show List.length (if _ then _ else _)<=4;split <;> first|exact b|exact zaY _)
def EG(hd:d.data.length<=4):(dF d me ca).2.data.length<=4:=by
 unfold dF;simp only
 repeat' split
 all_goals first
  |exact hd
  |exact zaY _
def afn(hc:∀e∈ca.l,e.data.length<=4)(hd:d.data.length<=4)(b:p.data.length<=4):(dY d me ca p).2.1.data.length<=4:=by
 unfold dY wQ;split
 ·exact zaY _
 split
 ·refine EG ?_;cases h:ca.find d.aj with
  |none=>exact b
  |some e=>exact ah0 hc h
 split
 ·refine EG ?_;cases h:ca.find d.aj with
  |none=>exact b
  |some e=>exact hd
 split
 ·exact hd
 ·exact zaY _
def aki(hc:∀e∈ca.l,e.data.length<=4)(hd:d.data.length<=4):(eF d ca p).2.1.data.length<=4:=by
 unfold eF wQ gW;split
 ·exact zaY _
 split
 ·simp only;split
  ·exact zaY _
  ·rename_i e h;split
   ·show List.length (if e.dn=true then e.data else [])<=4;split
    ·exact ah0 hc h
    ·exact zaY _
   ·split <;> exact zaY _
 repeat' split
 all_goals first
  |exact hd
  |exact zaY _
end
section
variable {T:Nat}{n:Node}{c:Cfg}{me:Int}{f:Fab}{t:List Evn}
def acN(h:NX T n)(v:Int):NX T (n.done me t v).1:=⟨h.YK,h.num1,h.dat,h.ws⟩
def SE(h:NX T n):NX T (n.effect c me t).1:=⟨h.YK,h.num1,h.dat,h.ws⟩
def Gf(h:NX T n)(aS aj:Int):NX T (n.begin_ c me f aS aj).1:=by
 have b:=h.YK;have d:(n.num+1).tmod 4096=(n.num+1) % 4096:=zbS V;refine⟨?_,?_,zaY _,h.ws⟩
 ·show 0<=(n.num+1).tmod 4096;omega
 ·show(n.num+1).tmod 4096<4096;omega
def Gh {n:Node}(h:DX f)(aS aj:Int):DX (n.begin_ c me f aS aj).2:=h.send _
def acO {n:Node}(h:DX f):DX (n.adX c me f):=h.send _
def Xl(hc:∀e∈n.aH.l,e.data.length<=4)(h:NX T n){p:Pkt}(b:p.data.length<=4):(n.after me p).2.1.data.length<=4:=by
 unfold Node.after wQ
 repeat' split
 ·exact acM h.dat b
 ·exact afn hc h.dat b
 ·exact aki hc h.dat
 ·exact zaY _
def YL(hc:∀e∈n.aH.l,e.data.length<=4)(h:NX T n)(D:DX f){p:Pkt}(g:p.data.length<=4):NX T (n.answered c me f t p).1/\DX (n.answered c me f t p).2.1:=by
 have hd:=Xl (me:=me) hc h g;unfold Node.answered;split;rename_i ca d ok e;rw [e] at hd;have b:NX T { n with aH:=ca,aI:=d }:=⟨h.YK,h.num1,hd,h.ws⟩
 split
 ·exact⟨⟨h.YK,h.num1,h.dat,h.ws⟩,D⟩
 ·simp only;split
  ·split
   ·exact⟨acN (me:=me) (t:=t) b 0,D⟩
   ·exact⟨b,D⟩
  ·split
   ·exact⟨SE (c:=c) (me:=me) (t:=t) b,acO D⟩
   ·exact⟨b,acO D⟩
def ah1 {t:Turns}(h:∀aj,(t.ws aj).length<=T)(aj who id:Int):∀l,((t.ask aj who id).1.ws l).length<=T+1:=by
 intro l;unfold Turns.ask;split
 ·exact zbH (h l)
 split
 ·unfold Turns.ws;simp only;rw [iF];split
  ·rw [zav,zaq];exact Nat.succ_le_succ (h aj)
  ·exact zbH (h l)
 ·exact zbH (h l)
def YM {t:Turns}(h:∀aj,(t.ws aj).length<=T)(aj who:Int):∀l,((t.release aj who).1.ws l).length<=T:=by
 intro l;unfold Turns.release;split <;> exact h l
def akj {t:Turns}(h:∀aj,(t.ws aj).length<=T)(aj:Int):∀l,((t.next aj).1.ws l).length<=T:=by
 intro l;unfold Turns.next
 split
 ·exact h l
 split
 ·exact h l
 ·rename_i w ws e;have b:=h aj;rw [e] at b;unfold Turns.ws;simp only;rw [iF];split
  ·rw [zav];exact Nat.le_of_succ_le b
  ·exact h l
def acP {hm:Home}(h:∀aj,(hm.aT.ws aj).length<=T)(p:Pkt):∀l,((hm.handle c me p).1.aT.ws l).length<=T+1:=by
 have b:∀l,(hm.aT.ws l).length<=T+1:=λl=>zbH (h l);unfold Home.handle;split
 ·exact b
 split
 ·exact b
 split
 ·simp only;split
  ·exact ah1 h _ _ _
  ·exact ah1 h _ _ _
 ·have d:∀l,((hm.unlock c p).1.aT.ws l).length<=T+1:=by
   unfold Home.unlock;split
   ·exact b
   ·simp only;generalize iL c hm.dJ p.aj p.aV p.ptr (if p.flag then p.data else [])=r;split
    ·exact λl=>zbH (YM h _ _ l)
    ·exact b
  simp only;split <;> exact d
def afo {hm:Home}(h:∀aj,(hm.aT.ws aj).length<=T):∀l,((hm.grant me).1.aT.ws l).length<=T:=by
 unfold Home.grant;split
 ·exact h
 ·rename_i aj _ _;have b:=akj h aj;split
  ·rename_i e;rw [e] at b;exact b
  ·exact h
def akk(h:NX T n)(D:DX f)(p:Pkt):NX (T+1) (n.asked c me f p).1/\DX (n.asked c me f p).2:=by
 unfold Node.asked;split
 ·have hw:=acP (c:=c) (me:=me) h.ws p;split;rename_i hm out ok e b;rw [b] at hw;refine⟨⟨h.YK,h.num1,h.dat,hw⟩,?_⟩;simp only;split
  ·exact D.send _
  ·exact D
 ·split;refine⟨⟨h.YK,h.num1,h.dat,λl=>zbH (h.ws l)⟩,?_⟩;simp only;split
  ·exact D.send _
  ·exact D
def apC(h:NX T n)(D:DX f)(o:Opn):NX T (n.work c me f t o).1/\DX (n.work c me f t o).2.1:=by
 have b:NX T { n with bQ:={ n.bQ with eG:=true } }:=⟨h.YK,h.num1,h.dat,h.ws⟩
 unfold Node.work;simp only;split
 ·exact⟨acN (me:=me) (t:=t) b 0,D⟩
 split
 ·exact⟨Gf (c:=c) (me:=me) (f:=f) b _ _,Gh D _ _⟩
 split
 ·exact⟨SE (c:=c) (me:=me) (t:=if n.bQ.eG then t else t++[⟨me,n.bQ.bH.length,false,0⟩]) ⟨h.YK,h.num1,h.dat,h.ws⟩,D⟩
 split
 ·exact⟨Gf (c:=c) (me:=me) (f:=f) b _ _,Gh D _ _⟩
 split
 ·exact⟨Gf (c:=c) (me:=me) (f:=f) b _ _,Gh D _ _⟩
 ·exact⟨Gf (c:=c) (me:=me) (f:=f) b _ _,Gh D _ _⟩
def ah2(hc:∀e∈n.aH.l,e.data.length<=4)(k:∀i req p,(f.take i req).2=some p->p.data.length<=4)(h:NX T n)(D:DX f):NX (T+1) (n.step c me f t).1.1/\DX (n.step c me f t).1.2.1:=by
 have d:=h.mono (za8 T);unfold Node.step;split
 ·rename_i j p e;have g:=D.take me false;have m:=k me false p (by rw [e]);rw [e] at g;obtain⟨a,b⟩:=YL (c:=c) (me:=me) (t:=t) hc d g m;exact⟨a,b⟩
 ·split
  ·exact⟨⟨h.YK,h.num1,h.dat,λl=>zbH (afo h.ws l)⟩,D.send _⟩
  ·split
   ·rename_i j p e;have g:DX j:=by
     split at e
     ·cases e
     ·have:=D.take me true;rw [e] at this;exact this
    exact akk h g p
   ·split
    ·split
     ·exact apC d D _
     ·exact⟨d,D⟩
    ·exact⟨d,D⟩
end
structure MX(T:Nat)(m:bW):Prop where
 inv:akb m
 dJ:afm m
 dst:DX m.fab
 bF:∀(i:Nat) n,m.aB[i]?=some n->NX T n
def MX.mono {T b:Nat}{m:bW}(h:MX T m)(d:T<=b):MX b m:=⟨h.inv,h.dJ,h.dst,λi n e=>(h.bF i n e).mono d⟩
def Fj.le {c:Cfg}(hc:c.ok=true){ca:Cache}(I:Fj c ca):∀e∈ca.l,e.data.length<=4:=by
 intro e b;have d:=(I.ent e b).dat;have g:=(nK hc).2.2.1;have:=d.1;omega
def MX.step {T:Nat}{m:bW}(X:MX T m)(i:Int):MX (T+1) (m.step i).1:=by
 obtain⟨q,u⟩:=acL X.inv X.dJ i;refine⟨q,u,?_,?_⟩
 ·unfold bW.step;split
  ·exact X.dst
  ·rename_i n b;split;rename_i n' f t k e;unfold bW.bF at b;split at b
   ·rename_i hi;have g:=X.inv.bF _ n b;have:=(ah2 (c:=m.c) (me:=i) (t:=m.trace) (g.aH.le X.inv.ok) (λi req p h=>by
     have:=((X.inv.fab.take i req).2 p h).ok;simp only [Pkt.ok,zah,decide_eq_true_eq] at this;omega) (X.bF _ n b) X.dst).2
    rw [e] at this;exact this
   ·cases b
 ·intro j n d;unfold bW.step at d;split at d
  ·exact(X.bF j n d).mono (za8 T)
  ·rename_i o b;split at d;rename_i n' f t k e;unfold bW.bF at b;split at b
   ·rename_i hi;simp only at d;rw [zcW] at d;split at d
    ·split at d
     ·cases d;have g:=X.inv.bF _ o b;have:=(ah2 (c:=m.c) (me:=i) (t:=m.trace) (g.aH.le X.inv.ok) (λi req p h=>by
       have:=((X.inv.fab.take i req).2 p h).ok;simp only [Pkt.ok,zah,decide_eq_true_eq] at this;omega) (X.bF _ o b) X.dst).1
      rw [e] at this;exact this
     ·cases d
    ·exact(X.bF j n d).mono (za8 T)
   ·cases b
def MX.deliver {T:Nat}{m:bW}(X:MX T m)(a b k:Int):MX T (m.deliver a b k).1:=by
 exact⟨SC X.inv a b k,X.dJ,X.dst.deliver a b k,X.bF⟩
def MX.do_ {T:Nat}{m:bW}(X:MX T m)(p:Pck):MX (T+1) (m.do_ p).1:=by
 unfold bW.do_;split
 ·exact(X.deliver _ _ _).mono (za8 T)
 ·exact X.step _
def acQ {c:Cfg}(hc:c.ok=true)(ps:List (List Opn)):afm (.new c ps):=λi n d aj b=>by
 simp only [bW.new,zbe,zb5] at d;obtain⟨l,_,rfl⟩:=d;unfold lq at b;simp only [zah,decide_eq_true_eq] at b;have e:=(nK hc).1;have g:aj<c.aY:=b.1.2;refine⟨⟨0,-1,c.first aj⟩,?_⟩;show jC (c.jP i c.aY.toNat) aj=_;rw [Cb,if_pos ⟨b.1.1,V,by unfold Cfg.bf xH;rw [if_neg V];exact b.2⟩]
def asT {g:bD}{x y:Nat}{A B:List Cell}(k:Nat)(h:g x=some A)(b:g y=some B)(d:A[k]?≠B[k]?):x≠y:=λe=>by
 subst e;rw [h] at b;exact d (by rw [zaX b])
def JI(A:Adr)(k n:Nat)(q:Nat):Prop:=(∃i s,i<k/\s<6/\q=A.N i s)∨PN A.P n q∨q=A.trace
section
variable {b:Nat}{H:ah}{g g':bD}{A:Adr}{m:bW}{T:Nat}
def apD {m:bW}(I:akb m):m.trace.length<=1000:=by
 have B:=uK I.ok;have j:=I.len;have:∀(l:List Node),(∀n∈l,Node.evs n<=49)->(l.map Node.evs).sum<=49*l.length:=by
  intro l
  induction l with
  |nil=>intro _;simp
  |cons n l b=>
   intro h;have d:=h n O;have k:=b λx e=>h x (by simp [e]);simp only [zax,zbx,zal];omega
 have d:=this m.aB λn g=>by
  obtain⟨i,hi⟩:=zbs.1 g;have P:=(I.bF i n hi).bQ;have:=P.most;have:=P.vals;unfold Node.evs;split <;> omega
 rw [I.evs];have:=B.aB;omega
def asU(A:Adr)(i:Nat):Td:=⟨A.N i,A.fab,A.P,A.trace⟩
def gJ.nw(M:gJ g A m){i:Nat}{n:Node}(hi:m.aB[i]?=some n):NW g (asU A i) m.c i (n,m.fab,m.trace):=⟨M.bF i n hi,M.fab,M.trace,M.S9,M.tf⟩
def gJ.acR(M:gJ g A m){q:Nat}(h:JI A m.aB.length m.fab.l.length q):A.iI≠q:=by
 have hm:=M.iI;rcases h with⟨i,s,hi,hs,rfl⟩|⟨i,s,hi,hs,rfl⟩|rfl
 ·obtain⟨n,d⟩:∃n,m.aB[i]?=some n:=⟨_,zab hi⟩
  obtain⟨e,j,k,o,p,u⟩:=M.bF i n d;have b:(xW A m.c m.aB.length).length=11:=by simp [xW,JF,Cfg.av]
  match s,hs with
  |0,_=>exact jK hm e (by rw [b];simp only [iq];decide)
  |1,_=>exact jK hm j (by rw [b];simp only [gK];decide)
  |2,_=>exact jK hm k (by rw [b];simp only [iW];decide)
  |3,_=>exact asT 10 hm o (by simp [xW,JF,Cfg.av,ER])
  |4,_=>exact jK hm p (by rw [b];simp only [kK];decide)
  |5,_=>exact jK hm u (by rw [b];simp only [gQ];decide)
 ·exact jK hm (gX (M.fab.port hi) hs) (by simp [xW,JF,Cfg.av,oz])
 ·exact jK hm M.trace (by simp [xW,JF,Cfg.av,oC])
def gJ.len(M:gJ g A m)(I:akb m):m.aB.length=m.fab.l.length:=by
 have:=I.len;have:=I.fab.len;omega
def afp(G:Good b H g)(hb:H.base<=b)(M:gJ g A m)(X:MX T m)(L:T<999000){i:Nat}{n:Node}(hi:m.aB[i]?=some n):
  ∃H' g',cl 13 [.ref (A.N i 0) 0 0,.ref A.fab 0 0,.ref A.trace 0 0] H=some (I (m.step i).2,H')/\Good b H' g'/\gJ g' A (m.step i).1/\Off (JI A m.aB.length m.fab.l.length) g g'/\Step b H H':=by
 have N:=M.nw hi;have NX:=X.bF i n hi;have E:=X.inv.bF i n hi;have k:i<m.aB.length:=(zae.1 hi).1;have W:=Walk.of G hb N;obtain⟨K',g',F,w⟩:=afg W X.inv.ok X.inv.fab E ⟨NX.YK,by have:=NX.num1;show n.num<1000000;omega⟩ (by have:=apD X.inv;show m.trace.length<999999;omega) (by have:=NX.dat;show n.aI.data.length<1000000000;omega) (λaj=>by have:=NX.ws aj;show(n.home.aT.ws aj).length<1000000;omega);have y:m.step i=({ m with aB:=m.aB.set i (n.step m.c i m.fab m.trace).1.1,fab:=(n.step m.c i m.fab m.trace).1.2.1,trace:=(n.step m.c i m.fab m.trace).1.2.2 },(n.step m.c i m.fab m.trace).2):=by
  unfold bW.step bW.bF;rw [if_pos V,zar,hi]
 rw [y];have z:Off (ahX (asU A i) m.fab.l.length) g g':=w.off;have d:∀q,ahX (asU A i) m.fab.l.length q->JI A m.aB.length m.fab.l.length q:=by
  rintro q (⟨s,hs,rfl⟩|h|rfl)
  ·exact .inl ⟨i,s,k,hs,rfl⟩
  ·exact .inr (.inl h)
  ·exact .inr (.inr rfl)
 have o:=w.nw;have p:=w.len;refine⟨K',g',F,w.loc.out,⟨?_,o.tr,o.fab,λj n' u=>?_,?_,?_,M.tf⟩,z.mono d,w.step⟩
 ·show g' A.iI=some (xW A m.c (m.aB.set i _).length);rw [zcf,z A.iI λh=>M.acR (d _ h) rfl];exact M.iI
 ·simp only at u;by_cases v:i=j
  ·subst v;rw [zbd k] at u;cases u;exact o.bF
  ·rw [zbl v] at u;have C:j<m.aB.length:=(zae.1 u).1;have D:=M.nw u;refine(M.bF j n' u).ext λs hs=>z _ ?_;rintro(⟨t,K,e⟩|h|e)
   ·exact v (M.akE _ _ _ _ C k hs K e).1.symm
   ·exact(D.YA h).1 s hs rfl
   ·exact D.acu s hs e
 ·show UD A.P _;have:(n.step m.c i m.fab m.trace).1.2.1.l.length=m.fab.l.length:=p;rw [this];exact M.S9
 ·show ap9 A.N (m.aB.set i _).length;rw [zcf];exact M.akE
def U2(G:Good b H g)(hb:H.base<=b)(M:gJ g A m)(X:MX T m){at_ bit mask:Int}(v:nN at_)(k:nN bit)(m0:0<=mask)(z:mask<=65535):
  ∃H' g',cl 14 [.ref A.fab 0 0,I at_,I bit,.s (.int .u16 mask)] H=some (I (m.deliver at_ bit mask).2,H')/\Good b H' g'/\gJ g' A (m.deliver at_ bit mask).1/\Off (JI A m.aB.length m.fab.l.length) g g'/\Step b H H':=by
 have B:=uK X.inv.ok;have C:m.fab.l.length≠0:=by have:=X.inv.fab.len;have:=B.aB;omega
 obtain⟨H',g',D,G',E,u,F⟩:=YG G hb M.fab M.S9 (fok X.inv.ok X.inv.fab) C (λp w=>⟨⟨(X.inv.fab.pkt w).ok,(X.inv.fab.pkt w).num⟩,X.dst.all p w⟩) v k m0 z;have d:∀q,PN A.P m.fab.l.length q->JI A m.aB.length m.fab.l.length q:=λq h=>.inr (.inl h);have o:(m.fab.deliver at_ bit mask).1.l.length=m.fab.l.length:=by
  have K:=(X.inv.fab.deliver at_ bit mask).len;have L:=X.inv.fab.len;omega
 refine⟨H',g',D,G',⟨?_,?_,E,λj n' y=>?_,?_,M.akE,M.tf⟩,u.mono d,F⟩
 ·rw [u A.iI λh=>M.acR (d _ h) rfl];exact M.iI
 ·rw [u A.trace λ⟨i,s,hi,hs,e⟩=>by
   have:=gX (M.fab.port hi) hs;exact jK M.trace this (by simp [oC,oz]) e]
  exact M.trace
 ·exact(M.bF j n' y).ext λs hs=>u _ λh=>((M.nw y).YA h).1 s hs rfl
 ·show UD A.P (m.fab.deliver at_ bit mask).1.l.length;rw [o];exact M.S9
def asV(G:Good b H g)(hb:H.base<=b)(M:gJ g A m)(X:MX T m)(hT:T<999000)(p:Pck)(h64:nN p.at_)(hbit:nN p.bit)(m0:0<=p.mask)(m1:p.mask<=65535):
  ∃H' g',cl 23 [.ref A.iI 0 0,.agg p.av] H=some (B (m.do_ p).2,H')/\Good b H' g'/\gJ g' A (m.do_ p).1/\Off (JI A m.aB.length m.fab.l.length) g g'/\Step b H H':=by
 let H1:=H.new (.blk 0 68 p.av);have G1:Good b H1 g:=G.new _;have g1:H1.get H.next=.blk 0 68 p.av:=aZ rfl
 have l0:ld (.ref H.next 0 0) H1=some (B p.deliver,H1):=by rw [fJ g1];rfl
 have l1:ld (.ref H.next 0 1) H1=some (I p.at_,H1):=by rw [fJ g1];rfl
 have l2:ld (.ref H.next 0 2) H1=some (I p.bit,H1):=by rw [fJ g1];rfl
 have l3:ld (.ref H.next 0 3) H1=some (.s (.int .u16 p.mask),H1):=by rw [fJ g1];rfl
 have f0:=G1.load M.iI (i:=0) (x:=.ref A.fab 0 0) rfl;have f1:=G1.load M.iI (i:=1) (x:=.ref A.trace 0 0) rfl;have S1:Step b H H1:=Step.new _ G.1;have hb1:H1.base<=b:=by simp only [H1,jB];exact hb
 have B:=uK X.inv.ok;cases hd:p.deliver with
 |true=>
  rw [hd] at l0;obtain⟨H',g',e1,G',M',O',S'⟩:=U2 G1 hb1 M X h64 hbit m0 m1;have hdo:m.do_ p=((m.deliver p.at_ p.bit p.mask).1,decide ((m.deliver p.at_ p.bit p.mask).2=0)):=by
   unfold bW.do_;rw [hd];rfl
  rw [hdo];refine⟨H',g',bC rfl rfl (aiV _ _ _ _ ?_),G',M',O',S1.trans S'⟩;simp only [H1] at l0 l1 l2 l3 f0 f1 e1;simp only [Nat.reduceLT,xq_,hq_,aea,aG (zQ p),l0,l1,l2,l3,f0,e1]
 |false=>
  rw [hd] at l0;have hdo:m.do_ p=((m.step p.at_).1,decide ((m.step p.at_).2≠0)):=by
   unfold bW.do_;rw [hd];rfl
  rw [hdo];have e0:=aeT G1 M (by have:=X.inv.len;have:=B.aB;omega) p.at_;by_cases hi:0<=p.at_/\p.at_<m.aB.length
  ·rw [if_pos hi] at e0;obtain⟨i,hii⟩:∃i:Nat,p.at_=i:=⟨p.at_.toNat,by omega⟩
   rw [hii] at e0 hi l1;rw [hii];rw [zar] at e0;obtain⟨n,hn⟩:∃n,m.aB[i]?=some n:=⟨_,zab (by omega)⟩
   obtain⟨H',g',e1,G',M',O',S'⟩:=afp G1 hb1 M X hT hn;refine⟨H',g',bC rfl rfl (aiV _ _ _ _ ?_),G',M',O',S1.trans S'⟩;have nn:bi .neq 35 (.ref (A.N i 0) 0 0) zP=some (.s (.bool true)):=by kernel_rfl
   simp only [H1] at l0 l1 f0 f1 e0 e1;simp only [Nat.reduceLT,xq_,hq_,aea,aG (zQ p),l0,l1,f0,f1,e0,nn,e1];simp
  ·rw [if_neg hi] at e0;have hst:m.step p.at_=(m,0):=by
    unfold bW.step bW.bF;by_cases h0:0<=p.at_
    ·rw [if_pos h0,zaG (by omega)]
    ·rw [if_neg h0]
   rw [hst];refine⟨H1,g,bC rfl rfl (aiV _ _ _ _ ?_),G1,M,Off.refl _ _,S1⟩;have nn:bi .neq 35 zP zP=some (.s (.bool false)):=by kernel_rfl
   simp only [H1] at l0 l1 e0;simp only [Nat.reduceLT,xq_,hq_,aea,aG (zQ p),l0,l1,e0,nn]
   try rfl
end
def gJ.sub {g g':bD}{A:Adr}{m:bW}(h:gJ g A m)(j:sK g g'):gJ g' A m:=by
 refine⟨j _ _ h.iI,j _ _ h.trace,⟨j _ _ h.fab.1,λi p k=>?_,h.fab.2.2⟩,λi n o=>?_,h.S9,h.akE,h.tf⟩
 ·obtain⟨a,b,c,d⟩:=h.fab.2.1 i p k;exact⟨j _ _ a,j _ _ b,j _ _ c,j _ _ d⟩
 ·obtain⟨a,b,c,d,e,f⟩:=h.bF i n o;exact⟨j _ _ a,j _ _ b,j _ _ c,j _ _ d,j _ _ e,j _ _ f⟩
def Iu.sub {g g':bD}{q f:Nat}{N:Nat->Nat->Nat}{m:jO}(h:Iu g q f N m)(j:sK g g'):Iu g' q f N m:=by
 have hd:∀{x l},uG g x l->uG g' x l:=λh=>h.sub λq cs o _=>j q cs o;obtain⟨ls,u,v,w⟩:=h.fab;refine⟨j _ _ h.iI,⟨ls,j _ _ u,v,λi l cells y hc=>(w i l cells y hc).mono λp cs _ ⟨x,a,b⟩=>⟨x,hd a,b⟩⟩,λi n z=>?_,h.inj⟩;obtain⟨⟨d,⟨x,A,C⟩,D⟩,⟨cells,k,E⟩,⟨dJ,r,F⟩⟩:=h.bF i n z;exact⟨⟨d,⟨x,hd A,C⟩,j _ _ D⟩,⟨cells,k.mono λe cs _ ⟨x,a,b⟩=>⟨x,hd a,b⟩,j _ _ E⟩,⟨dJ,r.mono λe cs _ ⟨x,a,b⟩=>⟨x,hd a,b⟩,j _ _ F⟩⟩
def afq {b n:Nat}{H1:ah}{g g':bD}(G:Good b H1 g)(d:H1.next=n):sK g (cup n g g'):=λq cs e=>jU G e d
def afr {b n:Nat}{H1:ah}{g g':bD}(G:Good b H1 g')(d:n<=b):sK g' (cup n g g'):=λq cs e=>lZ G e d
def tZ(c:Cho)(aB under:Int):Pck:=
 if c.do_.tmod 23=22 then⟨decide (c.bit.tmod 2=0),c.at_,c.bit,c.mask⟩ else
 if dw c.do_ 2=0 then⟨false,dw c.at_ aB,0,0⟩ else
 if c.do_.tmod 7=6 then⟨true,dw c.at_ under,dw c.bit 120,c.mask⟩ else⟨true,dw c.at_ under,0,0⟩
def akl(d:Nat):∀(p:Pck),∀x∈p.av,Frz (d+1) x:=by
 intro p x b;simp only [Pck.av,zaj,zaA,or_false] at b;rcases b with rfl|rfl|rfl|rfl <;> exact iD
def YN(p:Pck):Frz 9 (.agg p.av):=ny (akl 7 p)
def qW {n:Int}:(AV.s (.int .u16 n)).cells=[.s (.int .u16 n)]:=rfl
def pJ {n:Int}:(AV.s (.int .u16 n)).aP=true:=rfl
def afs(H:ah)(c:Cho){aB under:Int}(p:aB<=9223372036854775807)(q:under<=9223372036854775807):cl 24 [.agg c.av,I aB,I under] H=some (.agg (tZ c aB under).av,H):=by
 refine dD rfl rfl (aq5 _ _ _ _ _) ?_ (YN _);have u:=rC (P:=Tryz.prog) (t:=3) (k:=.i64) (a:=c.do_) (b:=23) Z;have v:=rC (P:=Tryz.prog) (t:=3) (k:=.i64) (a:=c.do_) (b:=7) Z;have w:=rC (P:=Tryz.prog) (t:=3) (k:=.i64) (a:=c.bit) (b:=2) Z;have d:bi .rem 3 (I c.do_) (I 23)=some (I (c.do_.tmod 23)):=u;have h:bi .rem 3 (I c.do_) (I 7)=some (I (c.do_.tmod 7)):=v;have m:bi .rem 3 (I c.bit) (I 2)=some (I (c.bit.tmod 2)):=w;have k1:=λH=>qc H c.do_ 2 V;have y:=λH=>qc H c.at_ aB p;have o:=λH=>qc H c.at_ under q;have k4:=λH=>qc H c.bit 120 V;have i:∀H,gV 71 (.agg [I c.do_,I c.at_,I c.bit,.s (.int .u16 c.mask)]) H=some (.ref H.next 0 0,H.new (.blk 0 71 [I c.do_,I c.at_,I c.bit,.s (.int .u16 c.mask)])):=λH=>aG (aiS c) Z;simp only [Cho.av];by_cases e:c.do_.tmod 23=22
 ·rw [show tZ c aB under=⟨decide (c.bit.tmod 2=0),c.at_,c.bit,c.mask⟩ by unfold tZ;rw [if_pos e]];simp only [Nat.reduceAdd,Nat.reduceLeDiff,aO,xq_,hq_,aav,i,d,e,m,XQ,jf,fK,Uc,Pck.av]
  try rfl
 by_cases g:dw c.do_ 2=0
 ·rw [show tZ c aB under=⟨false,dw c.at_ aB,0,0⟩ by unfold tZ;rw [if_neg e,if_pos g]];simp only [Nat.reduceAdd,Nat.reduceLeDiff,aO,xq_,hq_,aav,i,d,e,k1,g,y,XQ,jf,fK,Uc,Pck.av]
  try rfl
 by_cases j:c.do_.tmod 7=6
 ·rw [show tZ c aB under=⟨true,dw c.at_ under,dw c.bit 120,c.mask⟩ by unfold tZ;rw [if_neg e,if_neg g,if_pos j]];simp only [Nat.reduceAdd,Nat.reduceLeDiff,aO,xq_,hq_,aav,i,d,e,k1,g,o,XQ,jf,fK,Uc,Pck.av,h,j,k4,NP];rw [Yh λr z=>by
   cases z;rw [bJ (by simp only [eX,Ai];omega),bJ (by simp only [eX,Ai];omega),aZ (by rw [Ai]),bJ (by simp only [eX,Ai];omega),bJ (by simp only [eX,Ai];omega),aZ (by rw [Ai])]]
  rfl
 ·rw [show tZ c aB under=⟨true,dw c.at_ under,0,0⟩ by unfold tZ;rw [if_neg e,if_neg g,if_neg j]];simp only [Nat.reduceAdd,Nat.reduceLeDiff,aO,xq_,hq_,aav,i,d,e,k1,g,o,XQ,jf,fK,Uc,Pck.av,h,j,NP]
  try rfl
def LU:nN 0:=⟨Z,Z⟩
def yN {v n:Int}(h:nN n):nN (dw v n):=by
 by_cases b:n<1
 ·have:dw v n=0:=by unfold dw;rw [if_pos b]
  rw [this];exact LU
 ·have:=nG (v:=v) (n:=n) V;have d:=h.2;exact⟨V,V⟩
def afu {c:Cho}(h:c.In){aB under:Int}(i:nN aB)(d:nN under):nN (tZ c aB under).at_/\nN (tZ c aB under).bit/\0<=(tZ c aB under).mask/\(tZ c aB under).mask<=65535:=by
 have b:nN 120:=⟨Z,Z⟩
 have e:(0:Int)<=0:=Z
 have g:(0:Int)<=65535:=Z
 unfold tZ;split
 ·exact⟨h.at_,h.bit,h.mask0,h.mask⟩
 ·split
  ·exact⟨yN i,LU,e,g⟩
  ·split
   ·exact⟨yN d,yN b,h.mask0,h.mask⟩
   ·exact⟨yN d,LU,e,g⟩
def apE {l:List Int}(h:∀z∈l,nN z)(i:Int):nN (atM l i):=by
 unfold atM;split
 ·rw [zas];cases e:l[i.toNat]? with
  |none=>exact⟨Z,Z⟩
  |some v=>exact h v (zan e)
 ·exact⟨Z,Z⟩
def YO {c:Cfg}(hc:c.ok=true)(zk za zv:List Int)(hv:∀z∈zv,nN z)(i:Nat):c.right (abN c zk za zv i)=true/\I64 (abN c zk za zv i).value:=by
 have B:=uK hc;have hw:=B.bI;have d:=B.aY;have b:1<=qj (atM zk i)/\qj (atM zk i)<=4:=by have:=Ye (atM zk i);omega
 have e:1<=c.aY*c.bI:=by
  have:=zbN d.1 hw.1 Z V;omega
 have g:=nG (v:=atM za i) e;unfold abN;refine⟨?_,?_⟩
 ·unfold Cfg.right;simp only [zah,decide_eq_true_eq,zbk];refine⟨⟨⟨b.1,b.2⟩,?_⟩,?_⟩
  ·unfold Cfg.bU Cfg.kU;rw [if_neg V];have:=zdB g.1 (show 0<=c.bI by omega);omega
  ·split
   ·rename_i h;rcases h with h|h
    ·exact .inl (.inr h)
    ·exact .inr h
   ·exact .inl (.inl rfl)
 ·simp only;split
  ·exact apE hv i
  ·exact⟨Z,Z⟩
def wC {c:Cfg}(hc:c.ok=true)(zw zk za zv:List Int)(hv:∀z∈zv,nN z):∀i,∀l∈nH c zw zk za zv i,∀o∈l,c.right o=true/\I64 o.value
 |0,l,h=>by
  rw [zbY h];intro o b;cases b
 |i+1,l,h=>by
  have d:=wC hc zw zk za zv hv i;simp only [nH,jH] at h;split at h
  ·rcases zbV h with h|rfl
   ·exact d l h
   ·intro o b;rcases zaO.1 b with b|b
    ·rw [zas] at b;cases e:(nH c zw zk za zv i)[(dw (atM zw i) c.aB).toNat]? with
     |none=>rw [e] at b;cases b
     |some g=>rw [e] at b;exact d g (zan e) o b
    ·rw [zaU] at b;subst b;exact YO hc zk za zv hv i
  ·exact d l h
def afv {c:Cfg}(hc:c.ok=true)(zw zk za zv:List Int)(hv:∀z∈zv,nN z)(mo:Nat):c.vT (qF c zw zk za zv mo)=true:=by
 have B:=uK hc;have e:=B.aB;unfold Cfg.vT;simp only [zah,decide_eq_true_eq,zaZ];refine⟨λl b=>⟨yK _ _ _ _ _ _ l b,λo d=>(wC hc zw zk za zv hv _ l b o d).1⟩,?_⟩;unfold qF;rw [pG];omega
def afw {c:Cfg}(hc:c.ok=true)(hi:∀z∈c.init,nN z){aj:Int}(h:0<=aj/\aj<c.aY):qB c (c.first aj):=by
 have B:=uK hc;have hw:=B.bI;unfold Cfg.first
 rw [if_neg V];refine⟨by rw [zaE,zcX];omega,λv hv=>?_⟩;obtain⟨j,_,rfl⟩:=zaI.1 hv;rw [zas];cases e:c.init[(aj*c.bI).toNat+j]? with
 |none=>exact⟨Z,Z⟩
 |some x=>exact hi x (zan e)
def Jl(c:Cfg)(me:Int):∀n:Nat,∀e∈c.jP me n,0<=e.1/\e.1<n/\e.2.data=c.first e.1
 |0,e,h=>by cases h
 |n+1,e,h=>by
  simp only [Cfg.jP] at h;have d:=Jl c me n;split at h
  ·have key:∀(l:List (Int × Row)) (k:Int) (x:Row),e∈mM l k x->e∈l∨(e.1=k/\e.2=x):=by
    intro l
    induction l with
    |nil=>
     intro k x b;simp only [mM,zaU] at b;right;rw [b];exact⟨rfl,rfl⟩
    |cons a l d=>
     obtain⟨k',v⟩:=a;intro k x b;simp only [mM] at b;split at b
     ·rename_i hk;rcases zaj.1 b with rfl|b
      ·exact .inr ⟨by first|rfl|exact hk|exact hk.symm,rfl⟩
      ·exact .inl (za9 _ b)
     ·rcases zaj.1 b with rfl|b
      ·exact .inl (List.mem_cons_self ..)
      ·rcases d k x b with b|b
       ·exact .inl (za9 _ b)
       ·exact .inr b
   rcases key _ _ _ h with h|⟨g,i⟩
   ·have:=d e h;exact⟨this.1,V,this.2.2⟩
   ·exact⟨V,V,by rw [i,g]⟩
  ·have:=d e h;exact⟨this.1,V,this.2.2⟩
def apF {c:Cfg}(hc:c.ok=true)(hi:∀z∈c.init,nN z){ps:List (List Opn)}(g:c.vT ps=true)(hv:∀l∈ps,∀o∈l,c.right o=true/\I64 o.value):MX 0 (.new c ps):=by
 have B:=uK hc;have b:=B.aB;have hb:=B.aY;obtain⟨k,m⟩:=FZ g;refine⟨⟨hc,?_,?_,λi n b=>?_,?_⟩,acQ hc ps,DX.new c,λi n b=>?_⟩
 ·simp only [bW.new,zcc];exact k
 ·refine⟨rfl,rfl,?_,λp g=>?_⟩
  ·simp only [bW.new,Fab.new,zcb];omega
  ·simp only [bW.new,Fab.new,List.mem_replicate] at g;rw [g.2];have:=B.out;have:=B.inn;refine⟨by show((0:Nat):Int)<=c.out;omega,by show((0:Nat):Int)<=c.out;omega,by show((0:Nat):Int)<=c.inn;omega,by show((0:Nat):Int)<=1;omega,λq u=>by simp [Port.zero] at u⟩
 ·simp only [bW.new,zbe,zb5] at b;obtain⟨l,j,rfl⟩:=b;have hm:=zan j;refine⟨⟨m l hm,hv l hm,zaY _,λh=>by cases h⟩,⟨rfl,rfl,List.Pairwise.nil,List.Pairwise.nil,λe d=>(by cases d),λaj=>?_,za2 0⟩,λe d=>?_,⟨⟨List.Pairwise.nil,λe d=>(by cases d),List.Pairwise.nil,λe d=>(by cases d)⟩,λe d=>(by cases d)⟩,λh=>absurd rfl h,za2 0⟩
  ·have:=B.ways;show(([]:List Ent).length:Int)<=c.ways;simp;omega
  ·obtain⟨v,D,w⟩:=Jl c i _ e d;rw [w];exact afw hc hi ⟨v,V⟩
 ·have:∀n∈(bW.new c ps).aB,Node.evs n=0:=by
   intro n b;simp only [bW.new,List.mem_mapIdx] at b;obtain⟨i,hi,rfl⟩:=b;rfl
  have y:∀l:List Node,(∀n∈l,Node.evs n=0)->(l.map Node.evs).sum=0:=by
   intro l
   induction l with
   |nil=>intro _;rfl
   |cons n l A=>
    intro h;rw [zax,zbx,h n O,A λx C=>h x (by simp [C])]
  rw [y _ this];rfl
 ·simp only [bW.new,zbe,zb5] at b;obtain⟨l,j,rfl⟩:=b;exact⟨za2 0,by show(0:Int)<4096;decide,zaY _,λaj=>zac 0⟩
structure atB(s:lg)(zi zw zk za zv:List Int):Prop where
 ok:s.Ok zi zw zk za zv
 hi:aN ah.empty s.init 1 zi.length (zi.map I)
 hw:aN ah.empty s.who 1 zw.length (zw.map I)
 hk:aN ah.empty s.kinds 1 zk.length (zk.map I)
 ha:aN ah.empty s.kU 1 za.length (za.map I)
 hv:aN ah.empty s.bH 1 zv.length (zv.map I)
 hc:s.init.aP=true/\s.who.aP=true/\s.kinds.aP=true/\s.kU.aP=true/\s.bH.aP=true
structure apG(b:Nat)(H:ah)(g:bD)(A:Adr)(q f:Nat)(N:Nat->Nat->Nat)(m:bW)(r:jO)(mid:Nat):Prop where
 good:Good b H g
 base:H.base<=b
 iI:gJ g A m
 off:∀x,JI A m.aB.length m.fab.l.length x->mid<=x
 ref:∃g1,Iu g1 q f N r/\sK g1 g/\∀x,g1 x≠none->x<mid
def gJ.here {g:bD}{A:Adr}{m:bW}(M:gJ g A m){x:Nat}(h:JI A m.aB.length m.fab.l.length x):∃cs,g x=some cs:=by
 rcases h with⟨i,s,hi,hs,rfl⟩|⟨i,s,hi,hs,rfl⟩|rfl
 ·obtain⟨n,b⟩:∃n,m.aB[i]?=some n:=⟨_,zab hi⟩
  exact(M.bF i n b).some hs
 ·exact⟨_,gX (M.fab.port hi) hs⟩
 ·exact⟨_,M.trace⟩
def akm {s:lg}{zi zw zk za zv:List Int}(Z:atB s zi zw zk za zv)(H:ah)(hb:H.base<=H.next){mo:Nat}(hm:mo<=1000){c:Cfg}{ps:List (List Opn)}(hc:c=s.cfg zi)(hps:ps=qF c zw zk za zv mo):
  ∃H' A q f N g mid b,cl 22 [.agg s.cells,I mo] H=some (.tup [.ref A.iI 0 0,.ref q 0 0,.vs ps.length 1 (ps.map (vsl 3 Opn.av))],H')/\apG b H' g A q f N (.new c ps) (.new c ps) mid/\H.next<=b/\Step H.next H H'/\MX 0 (.new c ps)/\c.vT ps=true:=by
 have hck:c.ok=true:=by rw [hc];exact ahR s zi
 have hvz:∀z∈zv,nN z:=λz hz=>aiF (Z.ok.bH.wf z hz);have hiz:∀z∈c.init,nN z:=λz hz=>by
  rw [hc] at hz;exact aiF (Z.ok.init.wf z (zcB hz))
 have hop:c.vT ps=true:=by rw [hps];exact afv hck zw zk za zv hvz mo
 have X:MX 0 (.new c ps):=apF hck hiz hop (by rw [hps];exact wC hck zw zk za zv hvz _);have e1:=λH=>Rn H Z.ok Z.hi Z.hc;rw [<-hc] at e1;have e2:∀H,cl 8 [.agg s.cells,I mo] H=some (.vs ps.length 1 (ps.map (vsl 3 Opn.av)),H):=λH=>by
  obtain⟨ps',asy,e⟩:=UG H Z.ok Z.hi Z.hw Z.hk Z.ha Z.hv Z.hc (mo:=mo) hm;rw [hps,hc,<-asy];exact e
 have hall:s.cells.all AV.aP=true:=by
  have:=Z.hc;simp only [lg.cells,zcK,zdA,this,zcL];rfl
 let H1:=H.new (.blk 0 24 s.cells);let H2:=H1.new (.blk 0 26 c.av);have n1:H1.next=H.next+1:=eX
 have n2:H2.next=H.next+1+1:=by simp only [H2,eX,n1]
 have b2:H2.base=H.base:=rfl;obtain⟨H3,q,f,N,g1,e3,M1,R1⟩:=UK H2 (by omega) c hck (ajC H2 ps) hop;obtain⟨H4,A,g2,e4,M2,I2⟩:=Lm H3 (by rw [M1.base];exact zaz (by omega) M1.next) c hck (ajC H3 ps) hop;have G:=M1.good.merge M2;have gq:H2.get (H.next+1)=.blk 0 26 c.av:=aZ n1.symm;have l2:=jJ gq;have l3:=jJ (H:=H3) (r:=H.next+1) (c:=c) (by rw [M1.same _ (by omega)];exact gq);have ls:s.cells.length=12:=rfl;have lt:s.cells.take 12=s.cells:=rfl;have cc:(AV.agg c.av).cells=c.av:=rfl;have lc:c.av.length=8:=rfl;have hb1:H.base<=H.next+1:=by omega
 have b0:bi .neq 48 (I 0) (I 0)=some (B false):=by kernel_rfl
 have en:bi .eql 62 (.ref A.iI 0 0) zP=some (B false):=by kernel_rfl
 have hI:=I2.sub (afr (g:=g1) M2.good (zac _));refine⟨H4,A,q,f,N,cup H3.next g1 g2,H3.next,H2.next,bC rfl rfl (aq2 _ _ _ _ ?_),⟨G,?_,hI,λx hx=>?_,g1,R1,afq M1.good rfl,λx hx=>?_⟩,by omega,?_,X,hop⟩
 ·simp only [H1,H2] at e3 l2;simp only [Nat.reduceLT,Nat.reduceAdd,aO,xq_,hq_,ama,aG hall,ls,lt,e1,cc,lc,hb1,e2,l2,e3,l3,e4,zaf,b0,en]
 ·rw [M2.base,M1.base,b2];omega
 ·obtain⟨cs,h⟩:=I2.here hx;exact M2.good.le h
 ·cases h:g1 x with
  |none=>exact absurd h hx
  |some cs=>exact M1.good.lt h
 ·refine⟨by rw [M2.base,M1.base,b2],zaz (by omega) (zaz M1.next M2.next),λr hr=>?_⟩;rw [M2.same r (zay (by omega) M1.next),M1.same r (by omega)];simp only [H2,H1];rw [bJ (by rw [eX];omega),bJ hr]
def acS {x:AV}{cs:List Cho}(Y:aN ah.empty x 4 cs.length (cs.flatMap Cho.av))(H:ah):aN H x 4 cs.length (cs.flatMap Cho.av):=
 Y.iZ (zaY _) λr _ b=>absurd b (zcU r)
def afx {x:AV}{cs:List Cho}(Y:aN ah.empty x 4 cs.length (cs.flatMap Cho.av))(H:ah){i:Nat}{c:Cho}(hi:cs[i]?=some c):ix 4 x (I i) H=some (eH x i,H)/\lda 4 (eH x i) H=some (.agg c.av,H):=by
 have d:=(zae.1 hi).1;have Z:=acS Y H;have b:=Z.ix (k:=.i64) (i:=(i:Int)) V V;rw [zar] at b;exact⟨b,mW (enc:=Cho.av) (m:=4) (λ_=>rfl) Z hi⟩
section
variable {b:Nat}{H:ah}{g:bD}{A:Adr}{m:bW}{T:Nat}
def MX.fine(X:MX T m):m.fine:=by
 have I:=X.inv;have B:=uK I.ok;have j:=I.len;have k:=I.fab.len;have e:∀p∈m.fab.l,p.rq.length<1000/\p.an.length<1000/\p.rin.length<1000/\p.ain.length<1000:=λp b=>by
  have P:=I.fab.port p b;have:=P.rq;have:=P.an;have:=P.rin;have:=P.ain;have:=B.out;have:=B.inn;omega
 have g:∀n∈m.aB,NX T n/\∃i:Nat,X0 m.c i n:=λn g=>by
  obtain⟨i,hi⟩:=zbs.1 g;exact⟨X.bF i n hi,i,I.bF i n hi⟩
 refine⟨I.ok,j,V,λn hm=>?_,λl d=>?_,λn hm=>?_,λp b=>⟨(e p b).2.2.1,(e p b).2.2.2⟩⟩
 ·obtain⟨_,i,h⟩:=g n hm;have:=h.bQ.most;have:=h.bQ.vals;omega
 ·unfold Fab.jr at d;obtain⟨p,b,d⟩:=za0.1 d;simp only [zaj,zaA,or_false] at d;rcases d with rfl|rfl
  ·exact(e p b).1
  ·exact(e p b).2.1
 ·have:=(g n hm).1.dat;omega
def DW(G:Good b H g)(M:gJ g A m)(hc:m.c.ok=true):cl 25 [.ref A.iI 0 0] H=some (.agg m.c.av,H):=by
 have B:=uK hc;refine dD rfl rfl (aq6 _ _ _) ?_ (abM _);have e:=λo=>(G.guard.new o).loads M.iI (i:=2) (n:=8) (xs:=m.c.av) (by simp [xW,JF,Cfg.av]) rfl Z;have h:=λH=>kC H m.c.init (by have:=B.init;have:=B.kU;omega);have d:m.c.av=[I m.c.aB,I m.c.aY,I m.c.bI,I m.c.sets,I m.c.ways,I m.c.out,I m.c.inn,dat m.c.init]:=rfl;have j:(AV.agg m.c.av).cells=m.c.av:=rfl;have k:m.c.av.length=8:=rfl;have p:m.c.av[7]?=some (dat m.c.init):=rfl;have all:=fD m.c;rw [d] at e all ⊢;simp only [Nat.reduceAdd,aO,xq_,hq_,amb,e,h,all]
def Jm(G:Good b H g)(M:gJ g A m)(X:MX T m):cl 21 [.ref A.fab 0 0] H=some (I m.fab.under,H):=by
 have F:=X.fine;have B:=uK X.inv.ok;have d:=F.aB;have e:=F.fab;exact WM G M.fab (by have:=B.aB;omega) (by have:=B.aB;omega) F.jr
def Gl(X:MX T m):m.fab.under<=96:=by
 have I:=X.inv;have B:=uK I.ok;have b:=I.fab.len;have:∀l:List Port,(∀p∈l,p.rq.length+p.an.length<=16)->(l.flatMap λp=>p.rq++p.an).length<=16*l.length:=by
  intro l
  induction l with
  |nil=>intro _;simp
  |cons p l d=>
   intro h;have i:=h p O;have b:=d λx e=>h x (by simp [e]);simp only [zaC,zaq,zal];omega
 have:=this m.fab.l λp g=>by
  have P:=I.fab.port p g;have:=P.rq;have:=P.an;have:=B.out;omega
 unfold Fab.under Fab.all;have:=B.aB;omega
def afy(H:ah)(X:MX T m)(c:Cho):cl 24 [.agg c.av,I m.c.aB,I m.fab.under] H=some (.agg (tZ c m.c.aB m.fab.under).av,H):=by
 have B:=uK X.inv.ok;have:=Gl X;have:=B.aB;exact afs H c V V
def afz(X:MX T m){c:Cho}(h:c.In):nN (tZ c m.c.aB m.fab.under).at_/\nN (tZ c m.c.aB m.fab.under).bit/\0<=(tZ c m.c.aB m.fab.under).mask/\(tZ c m.c.aB m.fab.under).mask<=65535:=by
 have B:=uK X.inv.ok;have:=Gl X;have:=B.aB;exact afu h ⟨V,V⟩ ⟨V,V⟩
def apH(m:bW)(i:Int):(m.step i).1.c=m.c:=by
 unfold bW.step;split
 ·rfl
 ·split;rfl
def atC(m:bW)(p:Pck):(m.do_ p).1.c=m.c:=by
 unfold bW.do_;split
 ·rfl
 ·exact apH m _
def Xm(X:MX T m)(p:Pck):(m.do_ p).1.aB.length=m.aB.length/\(m.do_ p).1.fab.l.length=m.fab.l.length:=by
 have I:=X.inv;have b:=(X.do_ p).inv;have g:=I.len;have h:=I.fab.len;have d:=b.len;have e:=b.fab.len;have:=atC m p;rw [this] at d e;omega
end
structure qm(b:Nat)(H:ah)(g:bD)(A:Adr)(m:bW)(T:Nat):Prop where
 good:Good b H g
 base:H.base<=b
 iI:gJ g A m
 keep:MX T m
section
variable {b:Nat}{H:ah}{g:bD}{A:Adr}{m:bW}{T:Nat}
def qm.new(R:qm b H g A m T)(o:gu):qm b (H.new o) g A m T:=⟨R.good.new o,by rw [jB];exact R.base,R.iI,R.keep⟩
def qm.do_(R:qm b H g A m T)(i:T<999000)(p:Pck)(h:nN p.at_)(d:nN p.bit)(m0:0<=p.mask)(j:p.mask<=65535):
  ∃H' g',cl 23 [.ref A.iI 0 0,.agg p.av] H=some (B (m.do_ p).2,H')/\qm b H' g' A (m.do_ p).1 (T+1)/\Off (JI A m.aB.length m.fab.l.length) g g'/\Step b H H':=by
 obtain⟨H',g',e,G,M,O,S⟩:=asV R.good R.base R.iI R.keep i p h d m0 j;exact⟨H',g',e,⟨G,by rw [S.base];exact R.base,M,R.keep.do_ p⟩,O,S⟩
def qm.fresh(R:qm b H g A m T){q:Nat}(d:H.next<=q):¬JI A m.aB.length m.fab.l.length q:=λh=>by
 obtain⟨cs,e⟩:=R.iI.here h;rw [R.good.isNone d] at e;cases e
def qm.loc(R:qm b H g A m T){ty n:Nat}{xs ys:List AV}(j:xs.length=n)(d:ys.length=n)(k:0<n)(o:xs.all AV.aP=true)(p:ys.all AV.aP=true)(q:ty<iC:=by decide):
  ∃K,st n (.ref H.next 0 0) (.agg ys) (H.new (.blk 0 ty xs))=some (bg,K)/\qm b K (upd g H.next (ys.map Cell.av)) A m T/\lda n (.ref H.next 0 0) K=some (.agg ys,K):=by
 have u:=R.good.newObj (ty:=ty) (xs:=xs) o q;obtain⟨K',v,h,w,y⟩:=u.stores (by rw [jB];exact R.base) aQ (i:=0) (n:=n) (vs:=ys) (by rw [zaE,j];omega) d p;have e:qJ (xs.map Cell.av) 0 ys=ys.map Cell.av:=by
  unfold qJ;rw [zaV (by rw [zaE,j,d];omega)];simp
 rw [e,qw] at h;exact⟨K',v,⟨h,by rw [w.base,jB];exact R.base,R.iI.sub ((sK.refl g).more (R.good.isNone (zac _)) _),R.keep⟩,h.loads aQ (i:=0) (n:=n) (xs:=ys) (by rw [zaS,zaw (by simp [d])]) d k⟩
def qm.fab(R:qm b H g A m T):ld (.ref A.iI 0 0) H=some (.ref A.fab 0 0,H):=R.good.load R.iI.iI (i:=0) (x:=.ref A.fab 0 0) rfl
def qm.trace(R:qm b H g A m T):ld (.ref A.iI 0 1) H=some (.ref A.trace 0 0,H):=R.good.load R.iI.iI (i:=1) (x:=.ref A.trace 0 0) rfl
def qm.guard(R:qm b H g A m T):Good b H.guard g/\gJ g A m:=⟨R.good.guard,R.iI⟩
end
def acT(A:Adr)(k n q:Nat):Prop:=q≠A.iI/\q≠A.fab/\¬JI A k n q
section
variable {b:Nat}{H:ah}{g g':bD}{A:Adr}{m:bW}{T q:Nat}
def gJ.same(M:gJ g A m)(k:m.aB.length=m.fab.l.length)(h:∀x,¬acT A m.aB.length m.fab.l.length x->g' x=g x):gJ g' A m:=by
 have b:∀x,JI A m.aB.length m.fab.l.length x->g' x=g x:=λx e=>h x λf=>f.2.2 e;refine⟨?_,?_,M.fab.same (h _ λf=>f.2.1 rfl) (λq j=>b q (.inr (.inl j))),λi n d=>?_,M.S9,M.akE,M.tf⟩
 ·rw [h _ λf=>f.1 rfl];exact M.iI
 ·rw [b _ (.inr (.inr rfl))];exact M.trace
 ·exact(M.bF i n d).ext λs hs=>b _ (.inl ⟨i,s,(zae.1 d).1,hs,rfl⟩)
def qm.len(R:qm b H g A m T):m.aB.length=m.fab.l.length:=R.iI.len R.keep.inv
def qm.free(R:qm b H g A m T)(d:H.next<=q):acT A m.aB.length m.fab.l.length q:=
 ⟨λe=>by have:=R.good.lt R.iI.iI;omega,λe=>by have:=R.good.lt R.iI.fab.1;omega,R.fresh d⟩
def qm.obj(R:qm b H g A m T){ty:TypeId}{xs:List AV}(d:xs.all AV.aP=true)(e:ty<iC:=by decide):qm b (H.new (.blk 0 ty xs)) (upd g H.next (xs.map Cell.av)) A m T:=
 ⟨R.good.newObj d e,by rw [jB];exact R.base,R.iI.sub ((sK.refl g).more (R.good.isNone (zac _)) _),R.keep⟩
def qm.cell(R:qm b H g A m T){cs:List Cell}(h:g q=some cs)(d:acT A m.aB.length m.fab.l.length q){i:Nat}(hi:i<cs.length){v:AV}(hv:One v):
  ∃K,st 1 (.ref q 0 i) v H=some (bg,K)/\qm b K (upd g q (cs.set i (.av v))) A m T/\Step b H K:=by
 obtain⟨K,a,G,S,_⟩:=R.good.store R.base h hi hv;exact⟨K,a,⟨G,by rw [S.base];exact R.base,R.iI.same R.len (λx j=>bn λe=>by subst e;exact j d),R.keep⟩,S⟩
def qm.drop(R:qm b H g A m T)(hs:sK g' g)(h:∀x,¬acT A m.aB.length m.fab.l.length x->g' x=g x):qm b H g' A m T:=
 ⟨R.good.sub hs,R.base,R.iI.same R.len h,R.keep⟩
def SG(R:qm b H g A m T)(hT:T<999000){j e:Nat}(G:g j=some [.av (.ref A.iI 0 0)])(f1:acT A m.aB.length m.fab.l.length j)(L:acT A m.aB.length m.fab.l.length e)(u:j≠e){d:Int}(hd:-9000<=d/\d<=9000)(h2:g e=some [.av (I d)])
  (p:Pck) (y:nN p.at_) (k:nN p.bit) (m0:0<=p.mask) (m1:p.mask<=65535):
  ∃K g',cl 64 [.agg p.av,.ref j 0 0,.ref e 0 0] H=some (.tup [],K)/\qm b K g' A (tally (m,d) p).1 (T+1)/\g' j=some [.av (.ref A.iI 0 0)]/\g' e=some [.av (I (tally (m,d) p).2)]/\
   Off (λx=>JI A m.aB.length m.fab.l.length x∨x=e) g g'/\Step b H K:=by
 have M:=R.new (.blk 0 68 p.av);have ga:(H.new (.blk 0 68 p.av)).get H.next=.blk 0 68 p.av:=aZ rfl
 have Q:lda 4 (.ref H.next 0 0) (H.new (.blk 0 68 p.av))=some (.agg p.av,H.new (.blk 0 68 p.av)):=(iH (off:=0) (n:=4) ga (zac 4)).trans rfl;have W:=M.good.load G (i:=0) (x:=.ref A.iI 0 0) rfl;obtain⟨K1,z,o,C,q,X⟩:=M.do_ hT p y k m0 m1;have q1:z j=some [.av (.ref A.iI 0 0)]:=by rw [q j f1.2.2];exact G
 have D:z e=some [.av (I d)]:=by rw [q e L.2.2];exact h2
 have S0:Step b H (H.new (.blk 0 68 p.av)):=Step.new _ R.good.1;have ln:=Xm R.keep p;cases hb:(m.do_ p).2 with
 |false=>
  rw [hb] at o;have E:tally (m,d) p=((m.do_ p).1,d):=by simp only [tally,hb];rfl
  rw [E];refine⟨K1,z,bC rfl rfl (amK _ _ _ _ _ ?_),C,q1,D,q.mono λx h=>.inl h,S0.trans X⟩;simp only [Nat.reduceLT,xq_,ai7,aG (zQ p),W,Q,o]
 |true=>
  rw [hb] at o;have E:tally (m,d) p=((m.do_ p).1,d+1):=by simp only [tally,hb];rfl
  rw [E];have F:acT A (m.do_ p).1.aB.length (m.do_ p).1.fab.l.length e:=by rw [ln.1,ln.2];exact L
  have l2:=C.good.load D (i:=0) (x:=I d) rfl;obtain⟨K2,c1,R2,S2⟩:=C.cell D F (i:=0) (Nat.zero_lt_one) (v:=I (d+1)) dO;have w:=wrap_i64 (a:=d+1) V V;refine⟨K2,_,bC rfl rfl (amK _ _ _ _ _ ?_),R2,by rw [bn u];exact q1,aQ,?_,(S0.trans X).trans S2⟩
  ·simp only [Nat.reduceLT,xq_,ai7,aG (zQ p),W,Q,o,l2,cZ,w,c1]
  ·exact(q.mono λx h=>.inl h).trans (Off.upd (.inr rfl))
def acU(x:bW × Int)(p:Pck):x.2<=(tally x p).2/\(tally x p).2<=x.2+1:=by
 unfold tally;simp only;split <;> omega
def afA {h e:Nat}(v:h≠e){k n:Int}(hk:0<=k/\k<n)(hn:n<=6):
  ∀(j i:Nat) {H:ah} {g:bD} {x:bW × Int} {T:Nat},(i:Int)+j=n->qm b H g A x.1 T->T+j<999000->g h=some [.av (.ref A.iI 0 0)]->acT A x.1.aB.length x.1.fab.l.length h->acT A x.1.aB.length x.1.fab.l.length e->0<=x.2->x.2<=i->g e=some [.av (I x.2)]->
   ∃K g',N8 cl [I k,.ref h 0 0,.ref e 0 0,.fn (.func 64) [] [.ref h 0 0,.ref e 0 0],I n,I n,I i] H=IQ cl [.ref e 0 0,.fn (.func 64) [] [.ref h 0 0,.ref e 0 0],I ((kR k n j i x).1.fab.under-1)] K/\
    qm b K g' A (kR k n j i x).1 (T+j)/\g' h=some [.av (.ref A.iI 0 0)]/\g' e=some [.av (I (kR k n j i x).2)]/\Off (λy=>JI A x.1.aB.length x.1.fab.l.length y∨y=e) g g'/\Step b H K/\
    (kR k n j i x).1.aB.length=x.1.aB.length/\(kR k n j i x).1.fab.l.length=x.1.fab.l.length/\0<=(kR k n j i x).2/\(kR k n j i x).2<=n:=by
 intro j
 induction j with
 |zero=>
  intro i H g x T hi R hT p z C M d1 D;have o:¬(i:Int)<n:=V
  have lm:=R.good.load p (i:=0) (x:=.ref A.iI 0 0) rfl;have lf:=R.fab;have E:=Jm R.good R.iI R.keep;have hu:=Gl R.keep;have w:=wrap_i64 (a:=(x.1.fab.under:Int)-1) V V;refine⟨H,g,?_,R,p,D,Off.refl _ _,Step.refl _ _,rfl,rfl,M,by show x.2<=n;omega⟩;rw [aaz];simp only [xq_,o,lm,lf,E,kH,w,kR]
 |succ j ih=>
  intro i H g x T hi R hT p z C M d1 D;have o:(i:Int)<n:=V
  have w1:=wrap_i64 (a:=k+(i:Int)) V V;have aa:0<=(k+(i:Int)).tmod n:=Int.tmod_nonneg _ V;have ab:(k+(i:Int)).tmod n<n:=zdf _ V;have F:bd 68 [(1,I ((k+(i:Int)).tmod n))]=some (.agg (Pck.av ⟨false,(k+(i:Int)).tmod n,0,0⟩)):=by
   simp only [XQ,jf,fK,Uc,Pck.av];rfl
  obtain⟨K1,g1,E,Q,q1,W,O1,S1⟩:=SG (m:=x.1) (d:=x.2) R V p z C v V D ⟨false,(k+(i:Int)).tmod n,0,0⟩ ⟨by show _<=(k+(i:Int)).tmod n;omega,by show(k+(i:Int)).tmod n<=_;omega⟩ LU (za2 0) (show(0:Int)<=65535 by decide);have X:=Xm R.keep ⟨false,(k+(i:Int)).tmod n,0,0⟩;have h6:(i:Int)+1=((i+1:Nat):Int):=V
  have h7:=wrap_i64 (a:=((i+1:Nat):Int)) V V;have td:=acU x ⟨false,(k+(i:Int)).tmod n,0,0⟩;have ex:tally (x.1,x.2) ⟨false,(k+(i:Int)).tmod n,0,0⟩=tally x ⟨false,(k+(i:Int)).tmod n,0,0⟩:=rfl;rw [ex] at Q W;have q:(tally x ⟨false,(k+(i:Int)).tmod n,0,0⟩).1.aB.length=x.1.aB.length:=X.1;have u:(tally x ⟨false,(k+(i:Int)).tmod n,0,0⟩).1.fab.l.length=x.1.fab.l.length:=X.2;obtain⟨K,g',r,R',G,L,O',S',n1,n2,b0,b1⟩:=ih (i+1) (x:=tally x ⟨false,(k+(i:Int)).tmod n,0,0⟩) V Q V q1 (by rw [q,u];exact z) (by rw [q,u];exact C) V V  W;have en:nO Tryz.prog 64=true:=J
  refine⟨K,g',?_,by have:=R';rw [show T+1+j=T+(j+1) by omega] at this;exact this,G,L,O1.trans (by rw [q,u] at O';exact O'),S1.trans S',n1.trans q,n2.trans u,b0,b1⟩;rw [aaz];simp only [xq_,o,cZ,w1,rC (show n≠0 by omega),F,uF en,E,h6,h7,r,kR]
def afB {o h:Nat}(q:o≠h):
  ∀(j:Nat) {H:ah} {g:bD} {x:bW × Int} {T:Nat},j<=96->qm b H g A x.1 T->T+j<999000->g o=some [.av (.ref A.iI 0 0)]->acT A x.1.aB.length x.1.fab.l.length o->acT A x.1.aB.length x.1.fab.l.length h->0<=x.2->x.2<=1000-j->g h=some [.av (I x.2)]->
   ∃K g',IQ cl [.ref h 0 0,.fn (.func 64) [] [.ref o 0 0,.ref h 0 0],I ((j:Int)-1)] H=some (I (oK j x).2,K)/\qm b K g' A (oK j x).1 (T+j)/\Off (λy=>JI A x.1.aB.length x.1.fab.l.length y∨y=h) g g'/\Step b H K/\
    (oK j x).1.aB.length=x.1.aB.length/\(oK j x).1.fab.l.length=x.1.fab.l.length:=by
 intro j
 induction j with
 |zero=>
  intro H g x T Q R W E u v X d1 z;have k:=R.good.load z (i:=0) (x:=I x.2) rfl;have e:(((0:Nat):Int)-1)=-1:=rfl;refine⟨H,g,?_,R,Off.refl _ _,Step.refl _ _,rfl,rfl⟩;rw [aaA,e];simp only [Int.reduceLE,Int.reduceNeg,xq_,Int.reduceNeg,Int.reduceLE,k,oK]
 |succ j ih=>
  intro H g x T Q R W E u v X d1 z;have ej:(((j+1:Nat):Int)-1)=(j:Int):=V
  have C:(0:Int)<=(j:Int):=V
  have D:bd 68 [(0,B true),(1,I (j:Int))]=some (.agg (Pck.av ⟨true,j,0,0⟩)):=by
   simp only [xq_,XQ,jf,fK,Uc,Pck.av];rfl
  obtain⟨K1,g1,e1,F,q1,G,O1,S1⟩:=SG (m:=x.1) (d:=x.2) R V E u v q V z ⟨true,j,0,0⟩ ⟨by show _<=(j:Int);omega,by show(j:Int)<=_;omega⟩ LU (za2 0) (show(0:Int)<=65535 by decide);have L:=Xm R.keep ⟨true,j,0,0⟩;have w:=wrap_i64 (a:=(j:Int)-1) V V;have td:=acU x ⟨true,j,0,0⟩;have ex:tally (x.1,x.2) ⟨true,j,0,0⟩=tally x ⟨true,j,0,0⟩:=rfl;rw [ex] at F G;have p:(tally x ⟨true,j,0,0⟩).1.aB.length=x.1.aB.length:=L.1;have k:(tally x ⟨true,j,0,0⟩).1.fab.l.length=x.1.fab.l.length:=L.2;obtain⟨K,g',r,R',M,S',n1,n2⟩:=ih (x:=tally x ⟨true,j,0,0⟩) V F V q1 (by rw [p,k];exact u) (by rw [p,k];exact v) V V  G;have en:nO Tryz.prog 64=true:=J
  refine⟨K,g',?_,by have:=R';rw [show T+1+j=T+(j+1) by omega] at this;exact this,O1.trans (by rw [p,k] at M;exact M),S1.trans S',n1.trans p,n2.trans k⟩;rw [aaA,ej];simp only [xq_,C,D,uF en,e1,kH,w,r];rfl
def Xn(R:qm b H g A m T)(hT:T<900000){first:Int}(h64:nN first):
  ∃K g',cl 30 [.ref A.iI 0 0,I first] H=some (I (m.round first).2,K)/\qm b K g' A (m.round first).1 (T+102)/\Off (JI A m.aB.length m.fab.l.length) g g'/\Step b H K/\
   (m.round first).1.aB.length=m.aB.length/\(m.round first).1.fab.l.length=m.fab.l.length:=by
 have Bd:=uK R.keep.inv.ok;have hn:=Bd.aB;let H1:=H.new (.blk 0 62 [.ref A.iI 0 0]);have R1:qm b H1 (upd g H.next [.av (.ref A.iI 0 0)]) A m T:=R.obj (ty:=62) (xs:=[.ref A.iI 0 0]) rfl;have n1:H1.next=H.next+1:=eX
 let H2:=H1.new (.blk 0 3 [zI]);have R2:qm b H2 (upd (upd g H.next [.av (.ref A.iI 0 0)]) (H.next+1) [.av zI]) A m T:=by
  have:=R1.obj (ty:=3) (xs:=[zI]) rfl;rw [n1] at this;exact this
 have f1:=R.free (q:=H.next) (zac _);have f2:=R.free (q:=H.next+1) (by omega);obtain⟨K0,c1,R3,S3⟩:=R2.cell aQ f2 (i:=0) (by decide) (v:=I 0) dO;have hne:H.next≠H.next+1:=by omega
 have e1:=DW R3.good R3.iI R.keep.inv.ok;have w0:first.tmod m.c.aB<m.c.aB:=zdf _ (by omega)
 have w00:-m.c.aB<first.tmod m.c.aB:=Int.lt_tmod_of_pos _ (by omega)
 have w1:=wrap_i64 (a:=first.tmod m.c.aB+m.c.aB) (by omega) (by omega);have k0:0<=nD m.c.aB first:=Int.tmod_nonneg _ (by omega)
 have k1:nD m.c.aB first<m.c.aB:=zdf _ (by omega)
 have lc:m.c.av[0]?=some (I m.c.aB):=rfl;have lm:=R3.good.load (q:=H.next) (cs:=[.av (.ref A.iI 0 0)]) (by rw [bn hne,bn hne,aQ]) (i:=0) (x:=.ref A.iI 0 0) rfl;have S0:Step b H H2:=(Step.new _ R.good.1).trans (Step.new _ R1.good.1);have h1':upd (upd (upd g H.next [.av (.ref A.iI 0 0)]) (H.next+1) [.av zI]) (H.next+1) ([.av zI].set 0 (.av (I 0))) H.next=some [.av (.ref A.iI 0 0)]:=by rw [bn hne,bn hne,aQ]
 obtain⟨K1,g1,s1,R4,q1,q2,O1,S1,n3,n4,b0,b1⟩:=afA (b:=b) (A:=A) hne (k:=nD m.c.aB first) (n:=m.c.aB) ⟨k0,k1⟩ hn.2 m.c.aB.toNat 0 (x:=(m,0)) (by omega) R3 (by omega) h1' f1 f2 (za2 _) (za2 _) aQ;generalize hx:kR (nD m.c.aB first) m.c.aB m.c.aB.toNat 0 (m,0)=x at s1 R4 q2 n3 n4 b0 b1;have hmr:m.round first=oK x.1.fab.under x:=by unfold bW.round;rw [<-hx]
 have hu:=Gl R4.keep;obtain⟨K2,g2,s2,R5,O2,S2,n5,n6⟩:=afB (b:=b) (A:=A) hne x.1.fab.under (x:=x) hu R4 (by omega) q1 (by rw [n3,n4];exact f1) (by rw [n3,n4];exact f2) b0 (by omega) q2;rw [<-hmr] at s2 R5 n5 n6;have n5':(m.round first).1.aB.length=m.aB.length:=n5.trans n3;have n6':(m.round first).1.fab.l.length=m.fab.l.length:=n6.trans n4;rw [n3,n4] at O2;have z0:((0:Nat):Int)=0:=rfl;rw [z0] at s1;have O3:=O1.trans O2;let g3:bD:=λy=>if y=H.next∨y=H.next+1 then none else g2 y
 have R6:qm b K2 g3 A (m.round first).1 (T+102):=by
  have R5':qm b K2 g2 A (m.round first).1 (T+102):=⟨R5.good,R5.base,R5.iI,R5.keep.mono (by omega)⟩
  refine R5'.drop (λy cs hy=>?_) λy hy=>?_
  ·simp only [g3] at hy;split at hy
   ·cases hy
   ·exact hy
  ·rw [n5',n6'] at hy;have:¬(y=H.next∨y=H.next+1):=by
    rintro(rfl|rfl)
    ·exact hy f1
    ·exact hy f2
   simp only [g3,if_neg this]
 refine⟨K2,g3,bC rfl rfl (ara _ _ _ _ ?_),R6,λy hy=>?_,(S0.trans S3).trans (S1.trans S2),n5',n6'⟩
 ·simp only [H1,H2] at c1;have bx:gV 62 (.ref A.iI 0 0) H=some (.ref H.next 0 0,H.new (.blk 0 62 [.ref A.iI 0 0])):=VB rfl (by decide);have n1':(H.new (.blk 0 62 [.ref A.iI 0 0])).next=H.next+1:=eX
  simp only [xq_,amk,bx,c1,lm,e1,lc,rC (show m.c.aB≠0 by omega),cZ,w1];rw [show((first.tmod m.c.aB+m.c.aB).tmod m.c.aB)=nD m.c.aB first from rfl,s1];exact s2
 ·by_cases h:y=H.next∨y=H.next+1
  ·simp only [g3,if_pos h];exact(R.good.isNone (by omega)).symm
  ·simp only [g3,if_neg h];rw [O3 y (by rintro(h'|h');exact hy h';exact h (.inr h')),bn (λe=>h (.inr e)),bn (λe=>h (.inr e)),bn (λe=>h (.inl e))]
end
abbrev uV:=Int->Option Ent
def hdI:List Int->Int->Int
 |[],x=>x
 |i::_,_=>i
def oG:List Int->Int->Int
 |[],x=>x
 |i::l,_=>oG l i
def Chn(E:uV):Int->List Int->Int->Prop
 |_,[],_=>True
 |b,i::l,x=>(∃e,E i=some e/\e.back=b/\e.fwd=hdI l x)/\Chn E i l x
def FCh(E:uV):List Int->Prop
 |[]=>True
 |i::l=>(∃e,E i=some e/\e.fwd=hdI l (-1))/\FCh E l
def oN(E:uV)(i:Int)(x:Option Ent):uV:=λj=>if j=i then x else E j
def fZ {E:uV}{i:Int}{x:Option Ent}:oN E i x i=x:=by simp [oN]
def fE {E:uV}{i j:Int}{x:Option Ent}(h:j≠i):oN E i x j=E j:=by simp [oN,h]
def YQ {l b:List Int}{x:Int}:hdI (l++b) x=hdI l (hdI b x):=by cases l <;> rfl
def EH:∀{l b:List Int} {x:Int},oG (l++b) x=oG b (oG l x)
 |[],_,_=>rfl
 |i::l,b,x=>by simp only [zbq,oG];exact EH
def Jo:∀{l:List Int} {x:Int},l≠[]->oG l x∈l
 |[],_,h=>absurd rfl h
 |[i],_,_=>by simp [oG]
 |i::j::l,x,_=>by
  simp only [oG];have:=Jo (l:=j::l) (x:=i) O;simp only [oG] at this;exact za9 _ this
def Chn.ext {E d:uV}:∀{l:List Int} {b x:Int},(∀j∈l,d j=E j)->Chn E b l x->Chn d b l x
 |[],_,_,_,_=>trivial
 |i::l,b,x,h,⟨⟨e,g,k⟩,hc⟩=>⟨⟨e,by rw [h i O,g],k⟩,Chn.ext (λj m=>h j (by simp [m])) hc⟩
def FCh.ext {E b:uV}:∀{l:List Int},(∀j∈l,b j=E j)->FCh E l->FCh b l
 |[],_,_=>trivial
 |i::l,h,⟨⟨e,d,g⟩,hc⟩=>⟨⟨e,by rw [h i O,d],g⟩,FCh.ext (λj k=>h j (by simp [k])) hc⟩
def Chn.fch {E:uV}:∀{l:List Int} {b:Int},Chn E b l (-1)->FCh E l
 |[],_,_=>trivial
 |_::_,_,⟨⟨e,d,_,g⟩,hc⟩=>⟨⟨e,d,g⟩,Chn.fch hc⟩
def qX {E:uV}:∀{l d:List Int} {b x:Int},Chn E b (l++d) x↔Chn E b l (hdI d x)/\Chn E (oG l b) d x
 |[],_,_,_=>by simp [Chn,oG]
 |i::l,d,b,x=>by
  simp only [zbq,Chn,oG,qX (l:=l),YQ,and_assoc]
def Chn.mem {E:uV}:∀{l:List Int} {b x:Int},Chn E b l x->∀j∈l,∃e,E j=some e
 |i::l,_,_,⟨⟨e,d,_⟩,hc⟩,j,g=>by
  rcases zaj.1 g with rfl|h
  ·exact⟨e,d⟩
  ·exact Chn.mem hc j h
def FCh.mem {E:uV}:∀{l:List Int},FCh E l->∀j∈l,∃e,E j=some e
 |i::l,⟨⟨e,b,_⟩,hc⟩,j,d=>by
  rcases zaj.1 d with rfl|h
  ·exact⟨e,b⟩
  ·exact FCh.mem hc j h
def Chn.acV {E:uV}{i b d x:Int}{l:List Int}{e:Ent}(h:Chn E b (i::l) x)(k:i∉l)(m:E i=some e){e':Ent}(hb:e'.back=d)(o:e'.fwd=e.fwd):Chn (oN E i (some e')) d (i::l) x:=by
 obtain⟨⟨u,g,_,p⟩,hc⟩:=h;rw [m] at g;cases g;exact⟨⟨e',fZ,hb,by rw [o,p]⟩,hc.ext λj q=>fE λe=>k (e ▸ q)⟩
def Chn.apI {E:uV}{k b x y:Int}{l:List Int}{e:Ent}(h:Chn E b (l++[k]) x)(g:k∉l)(i:E k=some e){e':Ent}(hb:e'.back=e.back)(m:e'.fwd=y):Chn (oN E k (some e')) b (l++[k]) y:=by
 obtain⟨o,p⟩:=qX.1 h;refine qX.2 ⟨Chn.ext (λj q=>fE λe=>g (e ▸ q)) o,?_⟩;obtain⟨⟨v,d,u,_⟩,_⟩:=p;rw [i] at d;cases d;exact⟨⟨e',fZ,by rw [hb,u],by rw [m];rfl⟩,trivial⟩
def Rng(N:Int)(l:List Int):Prop:=l.Nodup/\∀i∈l,0<=i/\i<N
def Rng.hd {N:Int}{l:List Int}(h:Rng N l)(b:l≠[]):hdI l (-1)∈l/\0<=hdI l (-1):=by
 cases l with
 |nil=>exact absurd rfl b
 |cons i l=>exact⟨by simp [hdI],(h.2 i O).1⟩
def Rng.acW {N:Int}{l:List Int}(h:Rng N l):hdI l (-1)=-1↔l=[]:=by
 constructor
 ·intro e;refine Classical.byContradiction λb=>?_;have:=(h.hd b).2;omega
 ·rintro rfl;rfl
structure Wf(N:Int)(E:uV)(r:Row)(v:List Int)(l:List Int):Prop where
 rng:Rng N l
 ch:Chn E (-1) l (-1)
 mem:∀i e,E i=some e->i∈l
 head:r.head=hdI l (-1)
 st:r.aV=0∨r.aV=1∨r.aV=2
 st0:r.aV=0↔l=[]
 st2:r.aV=2->∃i,l=[i]
 dn:∀i e,E i=some e->(e.dn=true↔r.aV=2)
 data:∀i e,E i=some e->e.data=v
 ES:r.aV≠2->r.data=v
structure akn(N:Int)(E:uV)(v:List Int)(i:Int)(R:List Int):Prop where
 rng:Rng N R
 ch:FCh E R
 mem:∀j e,E j=some e->j∈R∨j=i
 data:∀j e,E j=some e->e.data=v
 only:∀j e,E j=some e->e.dn=true->∀k,E k≠none->k=j
structure Mid(N:Int)(E:uV)(r:Row)(v:List Int)(i:Int)(pre post:List Int):Prop where
 rng:Rng N (pre++i::post)
 mem:∀j e,E j=some e->j∈pre++i::post
 ent:∃e,E i=some e
 head:r.head=hdI (pre++i::post) (-1)
 st:r.aV=1
 dn:∀j e,E j=some e->e.dn=false
 data:∀j e,E j=some e->e.data=v
 ES:r.data=v
inductive Out where
 |idle
 |req (p:Pkt)
 |wait
 |ans (p:Pkt)
def jc(r:Row)(d:bM):Row:=⟨d.aV,d.head,if d.data=[] then r.data else d.data⟩
inductive Hold (N hm:Int) (E:uV) (r:Row) (v:List Int) (i:Int) (d:bM):Out->Prop
 |granted {l:List Int}:d.step=1->Wf N E r v l->Hold N hm E r v i d (.ans ⟨7,hm,i,d.id,d.aj,r.head,r.aV,false,r.data⟩)
 |attach {l:List Int}:d.step=2->d.aS=1->l≠[]->d.head=hdI l (-1)->Wf N E r v l->Hold N hm E r v i d (.req (d.ask i hm))
 |attached {l:List Int} {fl:Bool}:d.step=2->d.aS=1->l≠[]->d.head=hdI l (-1)->Rng N l->Chn E i l (-1)->(∀j e,E j=some e->j∈l)->(∀j e,E j=some e->e.dn=false)->(∀j e,E j=some e->e.data=v)->
   (fl=false->r.data=v)->Hold N hm E r v i d (.ans ⟨9,d.head,i,d.id,d.aj,0,0,fl,v⟩)
 |JJ {R:List Int}:d.step=3->d.aS=2->akn N E v i (d.next::R)->d.next≠i->(E i≠none->d.data=v)->Hold N hm E r v i d (.req (d.ask i hm))
 |Jp {R:List Int} {fl:Bool}:d.step=3->d.aS=2->akn N E v i R->(∀j e,E j=some e->e.dn=false)->(E i≠none->d.data=v)->Hold N hm E r v i d (.ans ⟨9,d.next,i,d.id,d.aj,hdI R (-1),0,fl,v⟩)
 |front {pre post:List Int}:d.step=4->d.aS=3->Mid N E r v i pre post->pre≠[]->Chn E (-1) (pre++i::post) (-1)->d.head=oG pre (-1)->d.next=hdI post (-1)->d.told=r.head->Hold N hm E r v i d (.req (d.ask i hm))
 |Ae {pre post:List Int}:d.step=4->d.aS=3->Mid N E r v i pre post->pre≠[]->Chn E (-1) pre (hdI post (-1))->Chn E i post (-1)->d.head=oG pre (-1)->d.next=hdI post (-1)->d.told=r.head->
   Hold N hm E r v i d (.ans ⟨8,d.head,i,d.id,d.aj,0,0,false,[]⟩)
 |behind {pre post:List Int}:d.step=5->d.aS=3->Mid N E r v i pre post->post≠[]->Chn E (-1) pre (hdI post (-1))->Chn E i post (-1)->d.head=oG pre (-1)->d.next=hdI post (-1)->d.told=r.head->Hold N hm E r v i d (.req (d.ask i hm))
 |wE {pre post:List Int}:d.step=5->d.aS=3->Mid N E r v i pre post->post≠[]->Chn E (-1) pre (hdI post (-1))->Chn E (oG pre (-1)) post (-1)->d.head=oG pre (-1)->d.next=hdI post (-1)->d.told=r.head->
   Hold N hm E r v i d (.ans ⟨8,d.next,i,d.id,d.aj,0,0,false,[]⟩)
 |unlock {l:List Int}:d.step=6->Wf N E (jc r d) v l->Hold N hm E r v i d (.req (d.ask i hm))
section
variable {N hm:Int}{E:uV}{r:Row}{v:List Int}{i:Int}{d:bM}
def SH {l:List Int}(y:d.step=2)(p:d.aS=1)(z:l≠[])(A:d.head=hdI l (-1))(W:Wf N E r v l):
  ∃e,E d.head=some e/\Hold N hm (oN E d.head (some { e with dn:=false,back:=i })) r v i d (.ans ⟨9,d.head,i,d.id,d.aj,0,0,e.dn,e.data⟩):=by
 cases l with
 |nil=>exact absurd rfl z
 |cons k l=>
  have hk:d.head=k:=A;obtain⟨⟨e,o,_⟩,_⟩:=W.ch;refine⟨e,by rw [hk];exact o,?_⟩;have C:Out.ans ⟨9,d.head,i,d.id,d.aj,0,0,e.dn,e.data⟩=.ans ⟨9,d.head,i,d.id,d.aj,0,0,e.dn,v⟩:=by rw [W.data k e o]
  rw [C];have D:k∉l:=(za1.1 W.rng.1).1;have nd:∀j b,oN E d.head (some { e with dn:=false,back:=i }) j=some b->(j=k/\b={ e with dn:=false,back:=i })∨(j≠k/\E j=some b):=λj b m=>by
   by_cases g:j=k
   ·subst g;rw [hk,fZ] at m;exact .inl ⟨rfl,(zaX m).symm⟩
   ·rw [hk,fE g] at m;exact .inr ⟨g,m⟩
  refine .attached (l:=k::l) y p O hk W.rng ?_ (λj b m=>?_) (λj b m=>?_) (λj b m=>?_) λF=>?_
  ·rw [hk];exact W.ch.acV D o rfl rfl
  ·rcases nd j b m with⟨rfl,_⟩|⟨_,h⟩
   ·simp
   ·exact W.mem j b h
  ·rcases nd j b m with⟨_,rfl⟩|⟨g,h⟩
   ·rfl
   ·cases hd:b.dn with
    |false=>rfl
    |true=>
     obtain⟨q,u⟩:=W.st2 ((W.dn j b h).1 hd);have w:=W.mem j b h;rw [u] at w;simp only [zbU] at u;simp only [zaj,zaA,or_false] at w;exact absurd (w.trans u.1.symm) g
  ·rcases nd j b m with⟨_,rfl⟩|⟨_,h⟩
   ·exact W.data k e o
   ·exact W.data j b h
  ·refine W.ES λp=>?_;have:=(W.dn k e o).2 p;rw [F] at this;cases this
def U3 {R:List Int}(h1:d.step=3)(h2:d.aS=2)(L:akn N E v i (d.next::R))(hne:d.next≠i)(hd:E i≠none->d.data=v):
  ∃e,E d.next=some e/\Hold N hm (oN E d.next none) r v i d (.ans ⟨9,d.next,i,d.id,d.aj,e.fwd,0,e.dn,e.data⟩):=by
 obtain⟨⟨e,he,hf⟩,hc⟩:=L.ch;refine⟨e,he,?_⟩;rw [L.data _ e he,hf];have hn:d.next∉R:=(za1.1 L.rng.1).1
 have nd:∀j e',oN E d.next none j=some e'->j≠d.next/\E j=some e':=λj e' hj=>by
  by_cases hjk:j=d.next
  ·rw [hjk,fZ] at hj;cases hj
  ·rw [fE hjk] at hj;exact⟨hjk,hj⟩
 refine .Jp (R:=R) h1 h2 ⟨⟨(za1.1 L.rng.1).2,λj hj=>L.rng.2 j (by simp [hj])⟩,hc.ext λj hj=>fE λe=>hn (e ▸ hj),λj e' hj=>?_,λj e' hj=>L.data j e' (nd j e' hj).2,λj e' hj hdj k hk=>?_⟩ (λj e' hj=>?_) λh=>hd ?_
 ·obtain⟨h3,h4⟩:=nd j e' hj;rcases L.mem j e' h4 with h|h
  ·rcases zaj.1 h with h|h
   ·exact absurd h h3
   ·exact .inl h
  ·exact .inr h
 ·refine L.only j e' (nd j e' hj).2 hdj k ?_;intro h0;by_cases hk':k=d.next
  ·rw [hk',fZ] at hk;exact hk rfl
  ·rw [fE hk',h0] at hk;exact hk rfl
 ·obtain⟨h3,h4⟩:=nd j e' hj;cases hdt:e'.dn with
  |false=>rfl
  |true=>exact absurd (L.only j e' h4 hdt d.next (by rw [he];simp)).symm h3
 ·rw [fE hne.symm] at h;exact h
def U4 {pre post:List Int}(F:d.step=4)(G:d.aS=3)(M:Mid N E r v i pre post)(w:pre≠[])(C:Chn E (-1) (pre++i::post) (-1))(y:d.head=oG pre (-1))(z:d.next=hdI post (-1))(H:d.told=r.head):
  ∃e,E d.head=some e/\Hold N hm (oN E d.head (some { e with fwd:=d.next })) r v i d (.ans ⟨8,d.head,i,d.id,d.aj,0,0,false,[]⟩):=by
 obtain⟨q,k,rfl⟩:∃q k,pre=q++[k]:=⟨pre.dropLast,pre.getLast w,(List.dropLast_concat_getLast w).symm⟩
 have hk:d.head=k:=by rw [y,EH];rfl
 obtain⟨A,K⟩:=qX.1 C;obtain⟨e,u⟩:=A.mem k O;refine⟨e,by rw [hk];exact u,?_⟩;have p:=M.rng.1;have m:k∉q/\k≠i/\k∉post:=by
  simp only [zb2,za1,zaj,zbc,zbq,zaM] at p;obtain⟨_,⟨D,R,T⟩,L⟩:=p;refine⟨λh=>L k h k (.inl rfl) rfl,λh=>D (.inl h),λh=>D (.inr h)⟩
 have nd:∀j b,oN E d.head (some { e with fwd:=d.next }) j=some b->(j=k/\b={ e with fwd:=d.next })∨(j≠k/\E j=some b):=λj b g=>by
  by_cases o:j=k
  ·subst o;rw [hk,fZ] at g;exact .inl ⟨rfl,(zaX g).symm⟩
  ·rw [hk,fE o] at g;exact .inr ⟨o,g⟩
 refine .Ae (pre:=q++[k]) (post:=post) F G ⟨M.rng,λj b g=>?_,?_,M.head,M.st,λj b g=>?_,λj b g=>?_,M.ES⟩ w ?_ ?_ y z H
 ·rcases nd j b g with⟨rfl,_⟩|⟨_,h⟩
  ·simp
  ·exact M.mem j b h
 ·obtain⟨Q,hi⟩:=M.ent;exact⟨Q,by rw [hk,fE m.2.1.symm];exact hi⟩
 ·rcases nd j b g with⟨_,rfl⟩|⟨_,h⟩
  ·exact M.dn k e u
  ·exact M.dn j b h
 ·rcases nd j b g with⟨_,rfl⟩|⟨_,h⟩
  ·exact M.data k e u
  ·exact M.data j b h
 ·rw [hk];exact A.apI m.1 u rfl z
 ·rw [hk];exact K.2.ext λj g=>fE λe=>m.2.2 (e ▸ g)
def SI {pre post:List Int}(A:d.step=5)(C:d.aS=3)(M:Mid N E r v i pre post)(u:post≠[])(D:Chn E (-1) pre (hdI post (-1)))(w:Chn E i post (-1))(y:d.head=oG pre (-1))(z:d.next=hdI post (-1))(F:d.told=r.head):
  ∃e,E d.next=some e/\Hold N hm (oN E d.next (some { e with back:=d.head })) r v i d (.ans ⟨8,d.next,i,d.id,d.aj,0,0,false,[]⟩):=by
 cases post with
 |nil=>exact absurd rfl u
 |cons k post=>
  have hk:d.next=k:=z
  obtain⟨e,q⟩:=w.mem k O;refine⟨e,by rw [hk];exact q,?_⟩;have p:=M.rng.1;have m:k∉pre/\k≠i/\k∉post:=by
   simp only [zb2,za1,zaj] at p;obtain⟨_,⟨G,H,Q⟩,K⟩:=p;refine⟨λh=>K k h k (.inr (.inl rfl)) rfl,λh=>G (.inl h.symm),H⟩
  have nd:∀j b,oN E d.next (some { e with back:=d.head }) j=some b->(j=k/\b={ e with back:=d.head })∨(j≠k/\E j=some b):=λj b g=>by
   by_cases o:j=k
   ·subst o;rw [hk,fZ] at g;exact .inl ⟨rfl,(zaX g).symm⟩
   ·rw [hk,fE o] at g;exact .inr ⟨o,g⟩
  refine .wE (pre:=pre) (post:=k::post) A C ⟨M.rng,λj b g=>?_,?_,M.head,M.st,λj b g=>?_,λj b g=>?_,M.ES⟩ u ?_ ?_ y z F
  ·rcases nd j b g with⟨rfl,_⟩|⟨_,h⟩
   ·simp
   ·exact M.mem j b h
  ·obtain⟨L,hi⟩:=M.ent;exact⟨L,by rw [hk,fE m.2.1.symm];exact hi⟩
  ·rcases nd j b g with⟨_,rfl⟩|⟨_,h⟩
   ·exact M.dn k e q
   ·exact M.dn j b h
  ·rcases nd j b g with⟨_,rfl⟩|⟨_,h⟩
   ·exact M.data k e q
   ·exact M.data j b h
  ·rw [hk];exact D.ext λj g=>fE λe=>m.1 (e ▸ g)
  ·rw [hk];exact w.acV m.2.2 q y rfl
end
section
variable {N hm:Int}{E:uV}{r:Row}{v:List Int}{i:Int}{d:bM}
def Rng.cons {l:List Int}(h:Rng N l)(hi:0<=i/\i<N)(d:i∉l):Rng N (i::l):=
 ⟨za1.2 ⟨d,h.1⟩,λj b=>by rcases zaj.1 b with rfl|b;exact hi;exact h.2 j b⟩
def Rng.mid {pre post:List Int}(h:Rng N (pre++i::post)):i∉pre/\i∉post/\Rng N (pre++post)/\Rng N pre/\Rng N post/\0<=i:=by
 obtain⟨h1,h2⟩:=h;simp only [zb2,za1,zaj] at h1;obtain⟨a,⟨b,c⟩,e⟩:=h1;refine⟨λh=>e i h i (.inl rfl) rfl,b,⟨?_,λj hj=>h2 j (by rcases zaO.1 hj with h|h <;> simp [h])⟩,⟨a,λj hj=>h2 j (by simp [hj])⟩,⟨c,λj hj=>h2 j (by simp [hj])⟩,(h2 i (by simp)).1⟩;exact zb2.2 ⟨a,c,λx hx y hy=>e x hx y (.inr hy)⟩
def Rng.last {l:List Int}(h:Rng N l)(b:l≠[]):0<=oG l (-1):=(h.2 _ (Jo b)).1
def jL {x:Option Ent}{j:Int}{e:Ent}(h:oN E i x j=some e):(j=i/\x=some e)∨(j≠i/\E j=some e):=by
 by_cases b:j=i
 ·rw [b,fZ] at h;exact .inl ⟨b,h⟩
 ·rw [fE b] at h;exact .inr ⟨b,h⟩
def Wf.empty {l:List Int}(W:Wf N E r v l)(h:l=[]):∀j,E j=none:=λj=>by
 cases b:E j with
 |none=>rfl
 |some e=>have:=W.mem j e b;rw [h] at this;cases this
def Wf.alone {e:Ent}(hi:0<=i/\i<N)(o:∀j,j≠i->E j=none)(m:E i=some e)(hb:e.back=-1)(p:e.fwd=-1){x:List Int}(q:e.data=v){st:Int}(hs:(st=1/\e.dn=false/\x=v)∨(st=2/\e.dn=true)):Wf N E ⟨st,i,x⟩ v [i]:=by
 have one:∀j d,E j=some d->j=i/\d=e:=λj d b=>by
  by_cases g:j=i
  ·rw [g,m] at b;exact⟨g,(zaX b).symm⟩
  ·rw [o j g] at b;cases b
 refine⟨⟨O,λj b=>by simp only [zaj,zaA,or_false] at b;rw [b];exact hi⟩,⟨⟨e,m,hb,p⟩,trivial⟩,λj d b=>by simp [(one j d b).1],rfl,?_,?_,λ_=>⟨i,rfl⟩,λj d b=>?_,λj d b=>by rw [(one j d b).2,q],λh=>?_⟩
 ·rcases hs with⟨h,_⟩|⟨h,_⟩ <;> simp [h]
 ·rcases hs with⟨h,_⟩|⟨h,_⟩ <;> simp [h]
 ·rw [(one j d b).2];rcases hs with⟨h,k,_⟩|⟨h,k⟩ <;> simp [h,k]
 ·rcases hs with⟨_,_,k⟩|⟨k,_⟩
  ·exact k
  ·exact absurd k h
def Pg {l:List Int}(hi:0<=i/\i<N)(W:Wf N E r v l)(hs:r.aV=0){e':Ent}(hb:e'.back=-1)(d:e'.fwd=-1)(hd:e'.dn=false)(e:e'.data=r.data){d':bM}(g:d'.step=6)(h:d'.aV=1)(k:d'.head=i)(m:d'.data=[]):
  Hold N hm (oN E i (some e')) r v i d' (.req (d'.ask i hm)):=by
 have b:=W.ES (by rw [hs];decide);have o:=W.empty (W.st0.1 hs);refine .unlock (l:=[i]) g ?_;have:jc r d'=⟨1,i,r.data⟩:=by simp only [jc,h,k,m,if_true]
 rw [this];exact Wf.alone hi (λj p=>by rw [fE p];exact o j) fZ hb d (by rw [e,b]) (.inl ⟨rfl,hd,b⟩)
def Jq {l:List Int}(hk:d.aS=1)(W:Wf N E r v l)(hs:r.aV≠0)(b:d.step=2)(e:d.head=r.head):Hold N hm E r v i d (.req (d.ask i hm)):=
 .attach (l:=l) b hk (λh=>hs (W.st0.2 h)) (by rw [e,W.head]) W
def Ph {l:List Int}{fl:Bool}(hi:0<=i/\i<N)(u:E i=none)(G:l≠[])(w:d.head=hdI l (-1))(R:Rng N l)(C:Chn E i l (-1))(m:∀j e,E j=some e->j∈l)(hc:∀j e,E j=some e->e.dn=false)(hd:∀j e,E j=some e->e.data=v)(y:fl=false->r.data=v)(hv:v≠[])
  {e':Ent} (hb:e'.back=-1) (hw:e'.fwd=d.head) (o:e'.dn=false) (z:e'.data=v) {d':bM} (A:d'.step=6) (k:d'.aV=1) (p:d'.head=i) (D:d'.data=if fl then v else []):
  Hold N hm (oN E i (some e')) r v i d' (.req (d'.ask i hm)):=by
 have g:i∉l:=λh=>by obtain⟨e,q⟩:=C.mem i h;rw [u] at q;cases q
 have F:(jc r d').data=v:=by
  simp only [jc,D];cases fl with
  |true=>simp [hv]
  |false=>simp [y rfl]
 refine .unlock (l:=i::l) A ⟨R.cons hi g,⟨⟨e',fZ,hb,by rw [hw,w]⟩,C.ext λj b=>fE λe=>g (e ▸ b)⟩,λj e b=>?_,p,.inr (.inl k),?_,λh=>?_,λj e b=>?_,λj e b=>?_,λ_=>F⟩
 ·rcases jL b with⟨h,_⟩|⟨_,h⟩
  ·simp [h]
  ·exact za9 _ (m j e h)
 ·simp only [jc,k];simp
 ·simp only [jc,k] at h;cases h
 ·simp only [jc,k];rcases jL b with⟨_,h⟩|⟨_,h⟩
  ·cases h;simp [o]
  ·simp [hc j e h]
 ·rcases jL b with⟨_,h⟩|⟨_,h⟩
  ·cases h;exact z
  ·exact hd j e h
def Wf.left {l:List Int}(W:Wf N E r v l):akn N E v i l:=
 ⟨W.rng,W.ch.fch,λj e d=>.inl (W.mem j e d),W.data,λj e d hd k hk=>by
  obtain⟨q,m⟩:=W.st2 ((W.dn j e d).1 hd);have g:=W.mem j e d;cases b:E k with
  |none=>exact absurd b hk
  |some o=>
   have h:=W.mem k o b;rw [m] at g h;simp only [zaj,zaA,or_false] at g h;rw [g,h]⟩
def ako(hi0:0<=i){R:List Int}(L:akn N E v i R)(hd1:E i≠none->d.data=v)(hd2:R=[]->d.data=v)(hn:d.next=hdI R (-1)){x:Int}(hx:x=match E i with
   |some own=>if d.next=i then own.fwd else d.next
   |none=>d.next) (hk:d.aS=2):
  (x≠-1/\∀d':bM,d'.step=3->d'.aS=2->d'.next=x->d'.data=d.data->Hold N hm E r v i d' (.req (d'.ask i hm)))∨(x=-1/\d.data=v/\∀j,j≠i->E j=none):=by
 have go:∀R':List Int,akn N E v i R'->x=hdI R' (-1)->(R'≠[]->hdI R' (-1)≠i)->(R'=[]->d.data=v)->(x≠-1/\∀d':bM,d'.step=3->d'.aS=2->d'.next=x->d'.data=d.data->Hold N hm E r v i d' (.req (d'.ask i hm)))∨(x=-1/\d.data=v/\∀j,j≠i->E j=none):=by
  intro R' L' hx' hi' hd';cases R' with
  |nil=>
   refine .inr ⟨hx',hd' rfl,λj hj=>?_⟩;cases h:E j with
   |none=>rfl
   |some e=>rcases L'.mem j e h with h'|h';cases h';exact absurd h' hj
  |cons k R'=>
   have h0:=(L'.rng.2 k O).1;refine .inl ⟨by rw [hx'];show k≠-1;omega,λd' a b c e=>?_⟩;have hk':d'.next=k:=c.trans hx'
   exact .JJ (R:=R') a b (by rw [hk'];exact L') (by rw [hk'];exact hi' O) λh=>by rw [e];exact hd1 h
 cases hE:E i with
 |none=>
  rw [hE] at hx;simp only at hx;refine go R L (hx.trans hn) (λhR h=>?_) hd2;obtain⟨e,he⟩:=L.ch.mem _ (L.rng.hd hR).1;rw [h,hE] at he;cases he
 |some own=>
  rw [hE] at hx;simp only at hx;have hdv:=hd1 (by rw [hE];simp);by_cases hni:d.next=i
  ·rw [if_pos hni] at hx;cases R with
   |nil=>
    have h1:d.next=-1:=hn
    omega
   |cons k R=>
    have hk':k=i:=by rw [<-hni,hn];rfl
    subst hk';obtain⟨⟨e,he,hf⟩,hc⟩:=L.ch;rw [hE] at he;cases he;have hkR:=(za1.1 L.rng.1).1;refine go R ⟨⟨(za1.1 L.rng.1).2,λj hj=>L.rng.2 j (by simp [hj])⟩,hc,λj e hj=>?_,L.data,L.only⟩ (hx.trans hf) (λhR h=>?_) λ_=>hdv
    ·rcases L.mem j e hj with h|h
     ·rcases zaj.1 h with h|h
      ·exact .inr h
      ·exact .inl h
     ·exact .inr h
    ·apply hkR
     rw [<-h];cases R with
     |nil=>exact absurd rfl hR
     |cons a R=>simp [hdI]
  ·rw [if_neg hni] at hx;exact go R L (hx.trans hn) (λhR h=>hni (hn.trans h)) λ_=>hdv
def Jr(hi:0<=i/\i<N)(h0:∀j,j≠i->E j=none){e':Ent}(hb:e'.back=-1)(d:e'.fwd=-1)(hd:e'.dn=true){d':bM}(e:d'.step=6)(g:d'.aV=2)(h:d'.head=i):Hold N hm (oN E i (some e')) r e'.data i d' (.req (d'.ask i hm)):=by
 refine .unlock (l:=[i]) e ?_;have:jc r d'=⟨2,i,if d'.data=[] then r.data else d'.data⟩:=by simp only [jc,g,h]
 rw [this];exact Wf.alone hi (λj b=>by rw [fE b];exact h0 j b) fZ hb d rfl (.inr ⟨rfl,hd⟩)
def Pj {l:List Int}(W:Wf N E r v l)(b:d.step=6)(hs:d.aV=r.aV)(e:d.head=r.head)(g:d.data=[]):Hold N hm E r v i d (.req (d.ask i hm)):=by
 refine .unlock (l:=l) b ?_;have:jc r d=r:=by simp only [jc,hs,e,g,if_true]
 rw [this];exact W
def Wf.split {l:List Int}(W:Wf N E r v l){e:Ent}(b:E i=some e):∃pre post,l=pre++i::post/\e.back=oG pre (-1)/\e.fwd=hdI post (-1):=by
 obtain⟨pre,post,rfl⟩:=List.append_of_mem (W.mem i e b);obtain⟨_,⟨⟨j,d,g,h⟩,_⟩⟩:=qX.1 W.ch;rw [b] at d;cases d;exact⟨pre,post,rfl,g,h⟩
def Wf.mid {pre post:List Int}(W:Wf N E r v (pre++i::post)){e:Ent}(k:E i=some e)(b:pre≠[]∨post≠[]):Mid N E r v i pre post:=by
 have d:r.aV≠2:=λh=>by
  obtain⟨q,m⟩:=W.st2 h;have:=congrArg List.length m;simp only [zaq,zal,zao] at this;rcases b with h|h
  ·have:=zdE.2 h;omega
  ·have:=zdE.2 h;omega
 have o:r.aV=1:=by
  rcases W.st with h|h|h
  ·have:=W.st0.1 h;simp at this
  ·exact h
  ·exact absurd h d
 exact⟨W.rng,W.mem,⟨e,k⟩,W.head,o,λj g p=>by
  cases hd:g.dn with
  |false=>rfl
  |true=>exact absurd ((W.dn j g p).1 hd) d,W.data,W.ES d⟩
def JK {l:List Int}(W:Wf N E r v l)(hv:v≠[]){e:Ent}(p:E i=some e)(hb:e.back=-1)(G:e.fwd=-1)(w:d.step=6)(hs:d.aV=0)(y:d.head=-1)(z:d.data=if e.dn then e.data else []):Hold N hm (oN E i none) r v i d (.req (d.ask i hm)):=by
 obtain⟨q,k,rfl,H,K⟩:=W.split p;obtain⟨L,M,Q,A,C,R⟩:=W.rng.mid;have D:q=[]:=Classical.byContradiction λh=>by have:=A.last h;omega
 have F:k=[]:=Classical.byContradiction λh=>by have:=(C.hd h).2;omega
 subst D;subst F;have b:∀j,oN E i none j=none:=λj=>by
  cases g:oN E i none j with
  |none=>rfl
  |some o=>
   rcases jL g with⟨_,h⟩|⟨u,h⟩
   ·cases h
   ·have:=W.mem j o h;simp only [zaM,zaj,zaA,or_false] at this;exact absurd this u
 have hd:(jc r d).data=v:=by
  simp only [jc,z];cases m:e.dn with
  |true=>simp [W.data i e p,hv]
  |false=>
   have:r.aV≠2:=λh=>by rw [(W.dn i e p).2 h] at m;cases m
   simp [W.ES this]
 refine .unlock (l:=[]) w ⟨⟨zdg,λj g=>by cases g⟩,trivial,λj o g=>?_,y,.inl hs,by simp [jc,hs],λh=>?_,λj o g=>?_,λj o g=>?_,λ_=>hd⟩
 ·rw [b j] at g;cases g
 ·simp only [jc,hs] at h;cases h
 ·rw [b j] at g;cases g
 ·rw [b j] at g;cases g
def JL {l:List Int}(W:Wf N E r v l){e:Ent}(b:E i=some e)(hb:e.back=-1)(k:e.fwd≠-1)(m:d.step=5)(hk:d.aS=3)(o:d.head=-1)(p:d.next=e.fwd)(q:d.told=r.head):Hold N hm E r v i d (.req (d.ask i hm)):=by
 obtain⟨pre,post,rfl,y,g⟩:=W.split b;obtain⟨z,A,C,u,D,F⟩:=W.rng.mid;have w:pre=[]:=Classical.byContradiction λh=>by have:=u.last h;omega
 subst w;have j:post≠[]:=λh=>k (by rw [g,h];rfl);exact .behind (pre:=[]) (post:=post) m hk (W.mid b (.inr j)) j trivial W.ch.2 o (p.trans g) q
def JM {l:List Int}(W:Wf N E r v l){e:Ent}(b:E i=some e)(hb:e.back≠-1)(k:d.step=4)(hk:d.aS=3)(m:d.head=e.back)(o:d.next=e.fwd)(p:d.told=r.head):Hold N hm E r v i d (.req (d.ask i hm)):=by
 obtain⟨pre,post,rfl,g,q⟩:=W.split b;have j:pre≠[]:=λh=>hb (by rw [g,h];rfl);exact .front (pre:=pre) (post:=post) k hk (W.mid b (.inl j)) j W.ch (m.trans g) (o.trans q) p
def Mid.out {pre post:List Int}(M:Mid N E r v i pre post)(g:pre++post≠[])(m:Chn E (-1) pre (hdI post (-1)))(o:Chn E (oG pre (-1)) post (-1))(p:d.step=6)(hs:d.aV=1)(q:d.head=hdI (pre++post) (-1))(u:d.data=[]):Hold N hm (oN E i none) r v i d (.req (d.ask i hm)):=by
 obtain⟨w,y,z,C,D,F⟩:=M.rng.mid;have A:jc r d=⟨1,hdI (pre++post) (-1),r.data⟩:=by simp only [jc,hs,q,u,if_true]
 refine .unlock (l:=pre++post) p ?_;rw [A];refine⟨z,qX.2 ⟨m.ext λj b=>fE λe=>w (e ▸ b),o.ext λj b=>fE λe=>y (e ▸ b)⟩,λj e b=>?_,rfl,.inr (.inl rfl),by simpa using g,λh=>(by cases h),λj e b=>?_,λj e b=>?_,λ_=>M.ES⟩
 ·rcases jL b with⟨_,h⟩|⟨k,h⟩
  ·cases h
  ·have:=M.mem j e h;simp only [zaO,zaj] at this ⊢;rcases this with h|h|h
   ·exact .inl h
   ·exact absurd h k
   ·exact .inr h
 ·rcases jL b with⟨_,h⟩|⟨_,h⟩
  ·cases h
  ·simp [M.dn j e h]
 ·rcases jL b with⟨_,h⟩|⟨_,h⟩
  ·cases h
  ·exact M.data j e h
def Js {pre post:List Int}(M:Mid N E r v i pre post)(b:pre≠[])(e:Chn E (-1) pre (hdI post (-1)))(g:post=[])(h:d.step=6)(hs:d.aV=1)(j:d.head=r.head)(k:d.data=[]):Hold N hm (oN E i none) r v i d (.req (d.ask i hm)):=by
 subst g;refine M.out (by simpa using b) e trivial h hs ?_ k;rw [j,M.head,zbm];cases pre with
 |nil=>exact absurd rfl b
 |cons a pre=>rfl
def JO {pre post:List Int}(M:Mid N E r v i pre post)(b:post≠[])(e:Chn E (-1) pre (hdI post (-1)))(g:Chn E i post (-1))(h:d.step=5)(hk:d.aS=3)(j:d.head=oG pre (-1))(k:d.next=hdI post (-1))(m:d.told=r.head):Hold N hm E r v i d (.req (d.ask i hm)):=
 .behind (pre:=pre) (post:=post) h hk M b e g j k m
def EI {pre post:List Int}(M:Mid N E r v i pre post)(h:post≠[])(j:Chn E (-1) pre (hdI post (-1)))(k:Chn E (oG pre (-1)) post (-1)){h0 nx:Int}(b:h0=oG pre (-1))(e:nx=hdI post (-1))(m:d.step=6)(hs:d.aV=1)(g:d.head=if h0=-1 then nx else r.head)(o:d.data=[]):Hold N hm (oN E i none) r v i d (.req (d.ask i hm)):=by
 obtain⟨q,u,w,p,y,z⟩:=M.rng.mid;refine M.out (by simp [h]) j k m hs ?_ o;cases pre with
 |nil=>
  have:h0=-1:=b;rw [g,if_pos this,e];rfl
 |cons a pre=>
  have A:=p.last (l:=a::pre) O;rw [g,if_neg V,M.head];rfl
end
structure Abs where
 ent:Int->uV
 row:Int->Row
 own:Int->Int
 ws:Int->List (Int × Int)
 aI:Int->bM
 msg:Int->Out
 val:Int->List Int
def Abs.holds(c:Cfg)(a:Abs)(L:Int):Prop:=Hold c.aB (c.bf L) (a.ent L) (a.row L) (a.val L) (a.own L) (a.aI (a.own L)) (a.msg (a.own L))
def ah3(c:Cfg)(a:Abs)(L:Int):Prop:=
 (a.own L=-1/\∃l,Wf c.aB (a.ent L) (a.row L) (a.val L) l)∨(0<=a.own L/\a.own L<c.aB/\(a.aI (a.own L)).aj=L/\a.holds c L)
def apJ(c:Cfg)(a:Abs)(L:Int):Prop:=
 ((a.ws L).map (·.1)).Nodup/\∀w∈a.ws L,0<=w.1/\w.1<c.aB/\a.msg w.1=.wait/\(a.aI w.1).aj=L/\(a.aI w.1).id=w.2/\(a.aI w.1).step=1
def afC(c:Cfg)(d:bM)(i:Int):Pkt:=⟨8,c.bf d.aj,i,d.id,d.aj,0,0,false,[]⟩
def auG(c:Cfg)(a:Abs)(i:Int):Prop:=(a.aI i).step=1/\a.own (a.aI i).aj≠i/\(a.msg i=.req ((a.aI i).ask i (c.bf (a.aI i).aj))∨(a.msg i=.wait/\(i,(a.aI i).id)∈a.ws (a.aI i).aj))
def asW(c:Cfg)(a:Abs)(i:Int):Prop:=(a.aI i).step=6/\a.own (a.aI i).aj≠i/\a.msg i=.ans (afC c (a.aI i) i)
structure akp(c:Cfg)(a:Abs)(i:Int):Prop where
 step:(a.aI i).step≠0
 aj:0<=(a.aI i).aj/\(a.aI i).aj<c.aY
 aS:1<=(a.aI i).aS/\(a.aI i).aS<=3
 idr:0<=(a.aI i).id/\(a.aI i).id<4096
 miss:(a.aI i).aS=1->(a.aI i).step=1∨(a.aI i).step=2->a.ent (a.aI i).aj i=none
 at_:auG c a i∨a.own (a.aI i).aj=i∨asW c a i
def ah4(c:Cfg)(a:Abs)(i:Int):Prop:=((a.aI i).step=0/\a.msg i=.idle)∨akp c a i
structure oO(c:Cfg)(a:Abs):Prop where
 aj:∀L,0<=L->L<c.aY->ah3 c a L
 bF:∀i,0<=i->i<c.aB->ah4 c a i
 ws:∀L,apJ c a L
 val:∀L,0<=L->L<c.aY->a.val L≠[]
 out:∀L,¬(0<=L/\L<c.aY)->a.own L=-1
section
variable {c:Cfg}{a a':Abs}{i L:Int}
def Hold.Pm {N hm:Int}{E:uV}{r:Row}{v:List Int}{i:Int}{d:bM}{o:Out}(h:Hold N hm E r v i d o):d.step≠0:=by
 cases h <;> omega
def Hold.acX {N hm:Int}{E:uV}{r:Row}{v:List Int}{i:Int}{d:bM}{o:Out}(h:Hold N hm E r v i d o):(∃p,o=.req p/\d.step≠1)∨∃p,o=.ans p:=by
 cases h
 all_goals first|exact .inr ⟨_,rfl⟩|exact .inl ⟨_,rfl,V⟩
def oO.holder(I:oO c a)(d:0<=L/\L<c.aY)(h:a.own L=i)(hi:0<=i):(a.aI i).aj=L/\Hold c.aB (c.bf L) (a.ent L) (a.row L) (a.val L) i (a.aI i) (a.msg i):=by
 rcases I.aj L d.1 d.2 with⟨g,_⟩|⟨_,_,e,b⟩
 ·omega
 ·unfold Abs.holds at b;rw [h] at e b;exact⟨e,b⟩
def oO.upd(I:oO c a)(i L:Int)(hi:0<=i)(E:∀d,d≠L->a'.ent d=a.ent d)(K:∀d,d≠L->a'.row d=a.row d)(p:∀d,d≠L->a'.own d=a.own d)(w1:∀d,d≠L->a'.ws d=a.ws d)(F:∀d,d≠L->a'.val d=a.val d)
  (g:∀j,j≠i->a'.aI j=a.aI j) (v:∀j,j≠i->a'.msg j=a.msg j) (R:∀j,j≠i->a.ent L j=none->a'.ent L j=none)
  (T:∀j,0<=j->j≠i->(a'.own L=j↔a.own L=j)) (W:∀j k,j≠i->(j,k)∈a.ws L->(j,k)∈a'.ws L)
  (X:∀d,d≠L->a.own d≠i) (h7:∀d,d≠L->∀k,(i,k)∉a.ws d) (hL:0<=L/\L<c.aY)
  (nl:ah3 c a' L) (nn:ah4 c a' i) (nw:apJ c a' L) (nv:a'.val L≠[]):oO c a':=by
 refine⟨λd u y=>?_,λj u y=>?_,λd=>?_,λd u y=>?_,λd h=>?_⟩
 ·by_cases h:d=L
  ·rw [h];exact nl
  ·have m:=X d h;rcases I.aj d u y with⟨z,l,A⟩|⟨z,A,a3,Q⟩
   ·exact .inl ⟨by rw [p d h];exact z,l,by rw [E d h,K d h,F d h];exact A⟩
   ·refine .inr ⟨by rw [p d h];exact z,by rw [p d h];exact A,by rw [p d h,g _ m];exact a3,?_⟩;unfold Abs.holds at Q ⊢;rw [p d h,g _ m,v _ m,E d h,K d h,F d h];exact Q
 ·by_cases h:j=i
  ·rw [h];exact nn
  ·rcases I.bF j u y with⟨z,A⟩|O
   ·exact .inl ⟨by rw [g j h];exact z,by rw [v j h];exact A⟩
   ·have G:∀M:Int,a'.own M=j↔a.own M=j:=λM=>by
     by_cases o:M=L
     ·rw [o];exact T j u h
     ·rw [p M o]
    refine .inr ⟨by rw [g j h];exact O.step,by rw [g j h];exact O.aj,by rw [g j h];exact O.aS,by rw [g j h];exact O.idr,?_,?_⟩
    ·rw [g j h];intro hk hs;have:=O.miss hk hs;by_cases o:(a.aI j).aj=L
     ·rw [o] at this ⊢;exact R j h this
     ·rw [E _ o];exact this
    ·rcases O.at_ with⟨C,D,q⟩|b|⟨C,D,q⟩
     ·refine .inl ⟨by rw [g j h];exact C,?_,?_⟩
      ·rw [g j h];exact λe=>D ((G _).1 e)
      ·rw [g j h,v j h];rcases q with q|⟨q,H⟩
       ·exact .inl q
       ·refine .inr ⟨q,?_⟩;by_cases o:(a.aI j).aj=L
        ·rw [o] at H ⊢;exact W j _ h H
        ·rw [w1 _ o];exact H
     ·exact .inr (.inl (by rw [g j h];exact(G _).2 b))
     ·refine .inr (.inr ⟨by rw [g j h];exact C,?_,by rw [v j h,g j h];exact q⟩);rw [g j h];exact λe=>D ((G _).1 e)
 ·by_cases h:d=L
  ·rw [h];exact nw
  ·obtain⟨C,D⟩:=I.ws d;refine⟨by rw [w1 d h];exact C,λw hw=>?_⟩;rw [w1 d h] at hw;have m:w.1≠i:=λe=>h7 d h w.2 (by rw [<-e];exact hw);rw [g _ m,v _ m];exact D w hw
 ·by_cases h:d=L
  ·rw [h];exact nv
  ·rw [F d h];exact I.val d u y
 ·by_cases o:d=L
  ·rw [o] at h;exact absurd hL h
  ·rw [p d o];exact I.out d h
def oO.only(I:oO c a)(hi:0<=i)(b:Int)(h:a.own b=i):(a.aI i).aj=b/\(a.aI i).step≠0:=by
 by_cases d:0<=b/\b<c.aY
 ·obtain⟨e,g⟩:=I.holder d h hi;exact⟨e,g.Pm⟩
 ·have:=I.out b d;omega
def oO.akq(I:oO c a)(hi:0<=i)(h:(a.aI i).aj=L∨(a.aI i).step=0):∀b,b≠L->a.own b≠i:=λb d e=>by
 obtain⟨g,j⟩:=I.only hi b e;rcases h with h|h
 ·exact d (g.symm.trans h)
 ·exact j h
def oO.ws7(I:oO c a)(h:(a.aI i).aj=L∨(a.aI i).step=0):∀b,b≠L->∀k,(i,k)∉a.ws b:=λb d k hk=>by
 obtain⟨_,_,_,e,_,g⟩:=(I.ws b).2 _ hk;rcases h with h|h
 ·exact d (e.symm.trans h)
 ·simp only at g;omega
def apJ.same(W:apJ c a L)(hw:a'.ws L=a.ws L)(h:∀k,(i,k)∉a.ws L)(g:∀j,j≠i->a'.aI j=a.aI j)(m:∀j,j≠i->a'.msg j=a.msg j):apJ c a' L:=by
 obtain⟨o,p⟩:=W;refine⟨by rw [hw];exact o,λw d=>?_⟩;rw [hw] at d;have b:w.1≠i:=λe=>h w.2 (by rw [<-e];exact d);rw [g _ b,m _ b];exact p w d
def oO.SK(I:oO c a)(h:a.msg i≠.wait):∀L k,(i,k)∉a.ws L:=λL k hk=>h ((I.ws L).2 _ hk).2.2.1
def dP {α:Type}(f:Int->α)(i:Int)(x:α):Int->α:=λj=>if j=i then x else f j
def aK {α:Type}{f:Int->α}{i:Int}{x:α}:dP f i x i=x:=by simp [dP]
def aW {α:Type}{f:Int->α}{i j:Int}{x:α}(h:j≠i):dP f i x j=f j:=by simp [dP,h]
def oO.begin_(I:oO c a)(hi:0<=i/\i<c.aB)(h0:(a.aI i).step=0){k id:Int}(hk:1<=k/\k<=3)(p:0<=id/\id<4096)(m:0<=L/\L<c.aY)(hm:k=1->a.ent L i=none):
  oO c { a with aI:=dP a.aI i (.begin k L id),msg:=dP a.msg i (.req ((bM.begin k L id).ask i (c.bf L))) }:=by
 have b:∀d,a.own d≠i:=λd e=>(I.only hi.1 d e).2 h0;have q:a.msg i≠.wait:=λe=>by
  rcases I.bF i hi.1 hi.2 with⟨_,h⟩|O
  ·rw [h] at e;cases e
  ·exact O.step h0
 have o:=I.SK q;refine I.upd i L hi.1 (λ_ _=>rfl) (λ_ _=>rfl) (λ_ _=>rfl) (λ_ _=>rfl) (λ_ _=>rfl) (λj g=>aW g) (λj g=>aW g) (λ_ _ h=>h) (λ_ _ _=>Iff.rfl) (λ_ _ _ h=>h) (λd _=>b d) (λd _=>o d) m ?_ ?_ ?_ (I.val L m.1 m.2)
 ·rcases I.aj L m.1 m.2 with h|⟨v,w,y,u⟩
  ·exact .inl h
  ·refine .inr ⟨v,w,?_,?_⟩
   ·show(dP a.aI i _ (a.own L)).aj=L;rw [aW (b L)];exact y
   ·unfold Abs.holds at u ⊢;show Hold _ _ _ _ _ _ (dP a.aI i _ (a.own L)) (dP a.msg i _ (a.own L));rw [aW (b L),aW (b L)];exact u
 ·have hd:dP a.aI i (.begin k L id) i=bM.begin k L id:=aK;refine .inr ⟨?_,?_,?_,by show 0<=(dP a.aI i _ i).id/\(dP a.aI i _ i).id<4096;rw [hd];exact p,?_,.inl ⟨?_,?_,.inl ?_⟩⟩
  ·show(dP a.aI i _ i).step≠0;rw [hd];show(1:Int)≠0;decide
  ·show 0<=(dP a.aI i _ i).aj/\(dP a.aI i _ i).aj<c.aY;rw [hd];exact m
  ·show 1<=(dP a.aI i _ i).aS/\(dP a.aI i _ i).aS<=3;rw [hd];exact hk
  ·show(dP a.aI i _ i).aS=1->(dP a.aI i _ i).step=1∨(dP a.aI i _ i).step=2->a.ent (dP a.aI i _ i).aj i=none;rw [hd];exact λh _=>hm h
  ·show(dP a.aI i _ i).step=1;rw [hd];rfl
  ·show a.own (dP a.aI i _ i).aj≠i;exact b _
  ·show dP a.msg i _ i=.req ((dP a.aI i _ i).ask i (c.bf (dP a.aI i _ i).aj));rw [hd,aK];rfl
 ·exact(I.ws L).same (i:=i) rfl (o L) (λj g=>aW g) (λj g=>aW g)
def lI {d:bM}{hm:Int}(h:1<=d.step/\d.step<=6):(d.ask i hm).aS=AU d.step/\(d.ask i hm).src=i/\(d.ask i hm).id=d.id/\(d.ask i hm).aj=d.aj:=by
 have:d.step=1∨d.step=2∨d.step=3∨d.step=4∨d.step=5∨d.step=6:=V
 unfold bM.ask AU;rcases this with h|h|h|h|h|h <;> simp [h]
def Hold.req {N hm:Int}{E:uV}{r:Row}{v:List Int}{d:bM}{p:Pkt}(h:Hold N hm E r v i d (.req p)):p=d.ask i hm/\2<=d.step/\d.step<=6:=by
 cases h <;> exact⟨rfl,V,V⟩
def Hold.ans {N hm:Int}{E:uV}{r:Row}{v:List Int}{d:bM}{p:Pkt}(h:Hold N hm E r v i d (.ans p)):p.dst=i/\p.id=d.id/\p.aj=d.aj/\p.aS=CZ (AU d.step)/\1<=d.step/\d.step<=5:=by
 cases h
 all_goals (rename_i hs;first|skip)
 all_goals (refine⟨rfl,rfl,rfl,?_,V,V⟩;simp [*,AU,CZ])
def Hold.unl {N hm:Int}{E:uV}{r:Row}{v:List Int}{d:bM}{p:Pkt}(h:Hold N hm E r v i d (.req p))(b:d.step=6):∃l,Wf N E (jc r d) v l:=by
 cases h
 all_goals first|(exfalso;omega)|exact⟨_,by assumption⟩
def oO.req(I:oO c a)(hi:0<=i/\i<c.aB){p:Pkt}(d:a.msg i=.req p):
  akp c a i/\p=(a.aI i).ask i (c.bf p.aj)/\(a.aI i).aj=p.aj/\(1<=(a.aI i).step/\(a.aI i).step<=6)/\
  (((a.aI i).step=1/\a.own p.aj≠i)∨(2<=(a.aI i).step/\a.own p.aj=i/\Hold c.aB (c.bf p.aj) (a.ent p.aj) (a.row p.aj) (a.val p.aj) i (a.aI i) (.req p))):=by
 rcases I.bF i hi.1 hi.2 with⟨_,h⟩|O
 ·rw [h] at d;cases d
 ·rcases O.at_ with⟨k,m,e⟩|b|⟨_,_,e⟩
  ·rcases e with e|⟨e,_⟩
   ·rw [e] at d;have d:=(Out.req.inj d).symm;have g:p.aj=(a.aI i).aj:=by rw [d];exact(lI V).2.2.2
    rw [g];exact⟨O,d,rfl,V,.inl ⟨k,m⟩⟩
   ·rw [e] at d;cases d
  ·obtain⟨_,H⟩:=I.holder O.aj b hi.1;rw [d] at H;obtain⟨j,o,q⟩:=H.req;have g:p.aj=(a.aI i).aj:=by rw [j];exact(lI V).2.2.2
   rw [g];exact⟨O,j,rfl,V,.inr ⟨o,b,H⟩⟩
  ·rw [e] at d;cases d
def oO.lock(I:oO c a)(hi:0<=i/\i<c.aB){p:Pkt}(v:a.msg i=.req p)(hk:p.aS=1)(z:a.own p.aj=-1):
  oO c { a with own:=dP a.own p.aj i,msg:=dP a.msg i (.ans ⟨7,c.bf p.aj,i,p.id,p.aj,(a.row p.aj).head,(a.row p.aj).aV,false,(a.row p.aj).data⟩) }:=by
 obtain⟨O,w,g,y,A⟩:=I.req hi v;have C:p.aS=AU (a.aI i).step:=by rw [w];exact(lI y).1
 have o:p.id=(a.aI i).id:=by rw [w];exact(lI y).2.2.1
 have q:(a.aI i).step=1:=by
  rcases A with h|⟨h,F,_⟩
  ·exact h.1
  ·omega
 have b:=O.aj;rw [g] at b;have k:=I.SK (i:=i) (by rw [v];exact λe=>by cases e);have u:dP a.msg i (.ans ⟨7,c.bf p.aj,i,p.id,p.aj,(a.row p.aj).head,(a.row p.aj).aV,false,(a.row p.aj).data⟩) i=.ans ⟨7,c.bf p.aj,i,p.id,p.aj,(a.row p.aj).head,(a.row p.aj).aV,false,(a.row p.aj).data⟩:=aK;refine I.upd i p.aj hi.1 (λ_ _=>rfl) (λ_ _=>rfl) (λ_ h=>aW h) (λ_ _=>rfl) (λ_ _=>rfl) (λ_ _=>rfl) (λj m=>aW m) (λ_ _ h=>h) (λj G m=>?_) (λ_ _ _ h=>h) (I.akq hi.1 (.inl g)) (λD _=>k D) b ?_ ?_ ?_ (I.val _ b.1 b.2)
 ·show dP a.own p.aj i p.aj=j↔_;rw [aK,z];exact⟨λe=>absurd e.symm m,λe=>V⟩
 ·have E:dP a.own p.aj i p.aj=i:=aK;refine .inr ?_;show 0<=dP a.own p.aj i p.aj/\dP a.own p.aj i p.aj<c.aB/\(a.aI (dP a.own p.aj i p.aj)).aj=p.aj/\Hold _ _ _ _ _ (dP a.own p.aj i p.aj) (a.aI (dP a.own p.aj i p.aj)) (dP a.msg i _ (dP a.own p.aj i p.aj));rw [E,u];refine⟨hi.1,hi.2,g,?_⟩;rcases I.aj p.aj b.1 b.2 with⟨_,l,W⟩|⟨H,_⟩
  ·have:=Hold.granted (hm:=c.bf p.aj) (i:=i) (d:=a.aI i) q W;rw [g] at this;rw [o];exact this
  ·omega
 ·refine .inr ⟨O.step,O.aj,O.aS,O.idr,O.miss,.inr (.inl ?_)⟩;show dP a.own p.aj i (a.aI i).aj=i;rw [g,aK]
 ·exact(I.ws _).same (i:=i) rfl (k _) (λ_ _=>rfl) (λj m=>aW m)
def oO.wait(I:oO c a)(hi:0<=i/\i<c.aB){p:Pkt}(E:a.msg i=.req p)(hk:p.aS=1):
  oO c { a with ws:=dP a.ws p.aj (a.ws p.aj++[(i,p.id)]),msg:=dP a.msg i .wait }:=by
 obtain⟨O,F,o,G,L⟩:=I.req hi E;have q:p.aS=AU (a.aI i).step:=by rw [F];exact(lI G).1
 have u:p.id=(a.aI i).id:=by rw [F];exact(lI G).2.2.1
 have d:(a.aI i).step=1/\a.own p.aj≠i:=by
  rcases L with h|⟨h,_,R⟩
  ·exact h
  ·exfalso;have:(a.aI i).step=2∨(a.aI i).step=3∨(a.aI i).step=4∨(a.aI i).step=5∨(a.aI i).step=6:=V
   rw [hk] at q;rcases this with h|h|h|h|h <;> simp [h,AU] at q
 have m:=O.aj;rw [o] at m;have g:=I.SK (i:=i) (by rw [E];exact λe=>by cases e);refine I.upd i p.aj hi.1 (λ_ _=>rfl) (λ_ _=>rfl) (λ_ _=>rfl) (λ_ h=>aW h) (λ_ _=>rfl) (λ_ _=>rfl) (λj v=>aW v) (λ_ _ h=>h) (λj T v=>Iff.rfl) (λj k v h=>?_) (I.akq hi.1 (.inl o)) (λM _=>g M) m ?_ ?_ ?_ (I.val _ m.1 m.2)
 ·show(j,k)∈dP a.ws p.aj _ p.aj;rw [aK];exact zcC _ h
 ·rcases I.aj p.aj m.1 m.2 with h|⟨z,A,Q,H⟩
  ·exact .inl h
  ·refine .inr ⟨z,A,Q,?_⟩;unfold Abs.holds at H ⊢;show Hold _ _ _ _ _ _ _ (dP a.msg i _ (a.own p.aj));rw [aW d.2];exact H
 ·refine .inr ⟨O.step,O.aj,O.aS,O.idr,O.miss,.inl ⟨d.1,?_,.inr ⟨aK,?_⟩⟩⟩
  ·show a.own (a.aI i).aj≠i;rw [o];exact d.2
  ·show(i,(a.aI i).id)∈dP a.ws p.aj _ (a.aI i).aj;rw [o,aK,u];simp
 ·obtain⟨z,A⟩:=I.ws p.aj;have hw:dP a.ws p.aj (a.ws p.aj++[(i,p.id)]) p.aj=a.ws p.aj++[(i,p.id)]:=aK;refine⟨?_,λw b=>?_⟩
  ·show((dP a.ws p.aj _ p.aj).map (·.1)).Nodup;rw [hw,zbi,zb2];refine⟨z,ZZ,λx b y K=>?_⟩;simp only [zax,zbJ,zaj,zaA,or_false] at K;obtain⟨w,C,rfl⟩:=zaI.1 b;rw [K];exact λe=>g p.aj w.2 (by rw [<-e];exact C)
  ·replace b:w∈dP a.ws p.aj (a.ws p.aj++[(i,p.id)]) p.aj:=b
   rw [hw] at b;show 0<=w.1/\w.1<c.aB/\dP a.msg i .wait w.1=.wait/\(a.aI w.1).aj=p.aj/\(a.aI w.1).id=w.2/\(a.aI w.1).step=1;rcases zaO.1 b with b|b
   ·have D:w.1≠i:=λe=>g p.aj w.2 (by rw [<-e];exact b);rw [aW D];exact A w b
   ·simp only [zaj,zaA,or_false] at b;subst b;exact⟨hi.1,hi.2,aK,o,u.symm,d.1⟩
def oO.grant(I:oO c a)(o:0<=L/\L<c.aY)(F:a.own L=-1){w:Int × Int}{ws:List (Int × Int)}(hw:a.ws L=w::ws):
  (0<=w.1/\w.1<c.aB)/\a.msg w.1=.wait/\
  oO c { a with own:=dP a.own L w.1,ws:=dP a.ws L ws,msg:=dP a.msg w.1 (.ans ⟨7,c.bf L,w.1,w.2,L,(a.row L).head,(a.row L).aV,false,(a.row L).data⟩) }:=by
 obtain⟨p,E⟩:=I.ws L;obtain⟨b,m,y,g,z,A⟩:=E w (by rw [hw];simp);rw [hw] at p;simp only [zax,za1] at p;have C:∀k,(w.1,k)∉ws:=λk hk=>p.1 (zaI.2 ⟨_,hk,rfl⟩);refine⟨⟨b,m⟩,y,?_⟩;have O:akp c a w.1:=by
  rcases I.bF w.1 b m with⟨h,_⟩|O
  ·omega
  ·exact O
 refine I.upd w.1 L b (λ_ _=>rfl) (λ_ _=>rfl) (λ_ h=>aW h) (λ_ h=>aW h) (λ_ _=>rfl) (λ_ _=>rfl) (λj q=>aW q) (λ_ _ h=>h) (λj H q=>?_) (λj k q h=>?_) (I.akq b (.inl g)) (I.ws7 (.inl g)) o ?_ ?_ ?_ (I.val _ o.1 o.2)
 ·show dP a.own L w.1 L=j↔_;rw [aK,F];exact⟨λe=>absurd e.symm q,λe=>V⟩
 ·show(j,k)∈dP a.ws L ws L;rw [aK];rw [hw] at h;rcases zaj.1 h with h|h
  ·exact absurd (congrArg Prod.fst h) q
  ·exact h
 ·have G:dP a.own L w.1 L=w.1:=aK;refine .inr ?_;show 0<=dP a.own L w.1 L/\dP a.own L w.1 L<c.aB/\(a.aI (dP a.own L w.1 L)).aj=L/\Hold _ _ _ _ _ (dP a.own L w.1 L) (a.aI (dP a.own L w.1 L)) (dP a.msg w.1 _ (dP a.own L w.1 L));rw [G,aK];refine⟨b,m,g,?_⟩;rcases I.aj L o.1 o.2 with⟨_,l,W⟩|⟨p,_⟩
  ·have:=Hold.granted (hm:=c.bf L) (i:=w.1) (d:=a.aI w.1) A W;rw [g,z] at this;exact this
  ·omega
 ·refine .inr ⟨O.step,O.aj,O.aS,O.idr,O.miss,.inr (.inl ?_)⟩;show dP a.own L w.1 (a.aI w.1).aj=w.1;rw [g,aK]
 ·have u:dP a.ws L ws L=ws:=aK;refine⟨?_,λx v=>?_⟩
  ·show((dP a.ws L ws L).map (·.1)).Nodup;rw [u];exact p.2
  ·replace v:x∈dP a.ws L ws L:=v
   rw [u] at v;have D:x.1≠w.1:=λe=>C x.2 (by rw [<-e];exact v);show 0<=x.1/\x.1<c.aB/\dP a.msg w.1 _ x.1=.wait/\_;rw [aW D];exact E x (by rw [hw];simp [v])
def oO.unlock(I:oO c a)(hi:0<=i/\i<c.aB){p:Pkt}(w:a.msg i=.req p)(hk:p.aS=2):
  a.own p.aj=i/\(p.aV=0∨p.aV=1∨p.aV=2)/\(∃l,Wf c.aB (a.ent p.aj) (jc (a.row p.aj) (a.aI i)) (a.val p.aj) l)/\p=(a.aI i).ask i (c.bf p.aj)/\(a.aI i).step=6/\
  oO c { a with row:=dP a.row p.aj (jc (a.row p.aj) (a.aI i)),own:=dP a.own p.aj (-1),msg:=dP a.msg i (.ans ⟨8,c.bf p.aj,i,p.id,p.aj,0,0,false,[]⟩) }:=by
 obtain⟨O,m,o,y,A⟩:=I.req hi w;have d:p.aS=AU (a.aI i).step:=by rw [m];exact(lI y).1
 have u:p.id=(a.aI i).id:=by rw [m];exact(lI y).2.2.1
 have b:(a.aI i).step=6:=by
  have:(a.aI i).step=1∨(a.aI i).step=2∨(a.aI i).step=3∨(a.aI i).step=4∨(a.aI i).step=5∨(a.aI i).step=6:=V
  rw [hk] at d;rcases this with h|h|h|h|h|h
  all_goals first|exact h|(exfalso;simp [h,AU] at d)
 have C:a.own p.aj=i/\Hold c.aB (c.bf p.aj) (a.ent p.aj) (a.row p.aj) (a.val p.aj) i (a.aI i) (.req p):=by
  rcases A with⟨h,_⟩|⟨_,h,D⟩
  ·omega
  ·exact⟨h,D⟩
 obtain⟨z,H⟩:=C;have E:∃l,Wf c.aB (a.ent p.aj) (jc (a.row p.aj) (a.aI i)) (a.val p.aj) l:=by
  exact H.unl b
 obtain⟨l,W⟩:=E;have v:p.aV=(a.aI i).aV:=by rw [m];unfold bM.ask;simp [b]
 have q:=O.aj;rw [o] at q;have g:=I.SK (i:=i) (by rw [w];exact λe=>by cases e);refine⟨z,by rw [v];exact W.st,⟨l,W⟩,m,b,?_⟩;refine I.upd i p.aj hi.1 (λ_ _=>rfl) (λ_ h=>aW h) (λ_ h=>aW h) (λ_ _=>rfl) (λ_ _=>rfl) (λ_ _=>rfl) (λj k=>aW k) (λ_ _ h=>h) (λj G k=>?_) (λ_ _ _ h=>h) (I.akq hi.1 (.inl o)) (λF _=>g F) q ?_ ?_ ?_ (I.val _ q.1 q.2)
 ·show dP a.own p.aj (-1) p.aj=j↔_;rw [aK,z];exact⟨λe=>V,λe=>absurd e.symm k⟩
 ·refine .inl ⟨aK,l,?_⟩;show Wf _ _ (dP a.row p.aj _ p.aj) _ _;rw [aK];exact W
 ·refine .inr ⟨O.step,O.aj,O.aS,O.idr,O.miss,.inr (.inr ⟨b,?_,?_⟩)⟩
  ·show dP a.own p.aj (-1) (a.aI i).aj≠i;rw [o,aK];omega
  ·show dP a.msg i _ i=.ans (afC c (a.aI i) i);rw [aK,afC,o,u]
 ·exact(I.ws _).same (i:=i) rfl (g _) (λ_ _=>rfl) (λj k=>aW k)
def oO.served(I:oO c a)(hi:0<=i/\i<c.aB)(d:0<=L/\L<c.aY)(k:a.own L=i){E:uV}{q:Pkt}(m:∀j,a.ent L j=none->E j=none)(H:Hold c.aB (c.bf L) E (a.row L) (a.val L) i (a.aI i) (.ans q))(hm:a.msg i≠.wait):
  oO c { a with ent:=dP a.ent L E,msg:=dP a.msg i (.ans q) }:=by
 obtain⟨e,H0⟩:=I.holder d k hi.1;have O:akp c a i:=by
  rcases I.bF i hi.1 hi.2 with⟨h,_⟩|O
  ·exact absurd h H0.Pm
  ·exact O
 have b:=I.SK hm;refine I.upd i L hi.1 (λ_ h=>aW h) (λ_ _=>rfl) (λ_ _=>rfl) (λ_ _=>rfl) (λ_ _=>rfl) (λ_ _=>rfl) (λj g=>aW g) (λj _ h=>?_) (λj u g=>Iff.rfl) (λ_ _ _ h=>h) (I.akq hi.1 (.inl e)) (λo _=>b o) d ?_ ?_ ?_ (I.val _ d.1 d.2)
 ·show dP a.ent L E L j=none;rw [aK];exact m j h
 ·refine .inr ?_;show 0<=a.own L/\a.own L<c.aB/\(a.aI (a.own L)).aj=L/\Hold _ _ (dP a.ent L E L) _ _ (a.own L) (a.aI (a.own L)) (dP a.msg i _ (a.own L));rw [k,aK,aK];exact⟨hi.1,hi.2,e,H⟩
 ·refine .inr ⟨O.step,O.aj,O.aS,O.idr,λh p=>?_,.inr (.inl ?_)⟩
  ·show dP a.ent L E (a.aI i).aj i=none;have:=O.miss h p;rw [e] at this ⊢;rw [aK];exact m i this
  ·show a.own (a.aI i).aj=i;rw [e];exact k
 ·exact(I.ws _).same (i:=i) rfl (b _) (λ_ _=>rfl) (λj g=>aW g)
def oO.goes(I:oO c a)(hi:0<=i/\i<c.aB)(o:0<=L/\L<c.aY)(p:a.own L=i)(hm:a.msg i≠.wait){x:Option Ent}{v:List Int}{d:bM}(hv:v≠[])(hd:d.aj=L)(hk:d.aS=(a.aI i).aS)(q:d.id=(a.aI i).id)(g:d.aS=1->d.step=1∨d.step=2->x=none)
  (H:Hold c.aB (c.bf L) (oN (a.ent L) i x) (a.row L) v i d (.req (d.ask i (c.bf L)))):
  oO c { a with ent:=dP a.ent L (oN (a.ent L) i x),val:=dP a.val L v,aI:=dP a.aI i d,msg:=dP a.msg i (.req (d.ask i (c.bf L))) }:=by
 obtain⟨u,H0⟩:=I.holder o p hi.1;have O:akp c a i:=by
  rcases I.bF i hi.1 hi.2 with⟨h,_⟩|O
  ·exact absurd h H0.Pm
  ·exact O
 have k:=I.SK hm;refine I.upd i L hi.1 (λ_ h=>aW h) (λ_ _=>rfl) (λ_ _=>rfl) (λ_ _=>rfl) (λ_ h=>aW h) (λj e=>aW e) (λj e=>aW e) (λj e h=>?_) (λj z e=>Iff.rfl) (λ_ _ _ h=>h) (I.akq hi.1 (.inl u)) (λw _=>k w) o ?_ ?_ ?_ ?_
 ·show dP a.ent L _ L j=none;rw [aK,fE e];exact h
 ·refine .inr ?_;show 0<=a.own L/\a.own L<c.aB/\(dP a.aI i d (a.own L)).aj=L/\Hold _ _ (dP a.ent L _ L) _ (dP a.val L v L) (a.own L) (dP a.aI i d (a.own L)) (dP a.msg i _ (a.own L));rw [p,aK,aK,aK,aK];exact⟨hi.1,hi.2,hd,H⟩
 ·have b:dP a.aI i d i=d:=aK;refine .inr ⟨?_,?_,?_,by show 0<=(dP a.aI i d i).id/\(dP a.aI i d i).id<4096;rw [b,q];exact O.idr,?_,.inr (.inl ?_)⟩
  ·show(dP a.aI i d i).step≠0;rw [b];exact H.Pm
  ·show 0<=(dP a.aI i d i).aj/\(dP a.aI i d i).aj<c.aY;rw [b,hd];exact o
  ·show 1<=(dP a.aI i d i).aS/\(dP a.aI i d i).aS<=3;rw [b,hk];exact O.aS
  ·show(dP a.aI i d i).aS=1->_->dP a.ent L _ (dP a.aI i d i).aj i=none;rw [b,hd,aK,fZ];intro h y;refine g h ?_;have m:(dP a.aI i d i).step=1∨(dP a.aI i d i).step=2:=y;rw [b] at m;exact m
  ·show a.own (dP a.aI i d i).aj=i;rw [b,hd];exact p
 ·exact(I.ws _).same (i:=i) rfl (k _) (λj e=>aW e) (λj e=>aW e)
 ·show dP a.val L v L≠[];rw [aK];exact hv
def oO.over(I:oO c a)(hi:0<=i/\i<c.aB)(F:asW c a i){d:bM}(hd:d.step=0):oO c { a with aI:=dP a.aI i d,msg:=dP a.msg i .idle }:=by
 obtain⟨y,m,o⟩:=F;have O:akp c a i:=by
  rcases I.bF i hi.1 hi.2 with⟨h,_⟩|O
  ·omega
  ·exact O
 have g:=I.SK (i:=i) (by rw [o];exact λe=>by cases e);have k:=O.aj;refine I.upd i (a.aI i).aj hi.1 (λ_ _=>rfl) (λ_ _=>rfl) (λ_ _=>rfl) (λ_ _=>rfl) (λ_ _=>rfl) (λj b=>aW b) (λj b=>aW b) (λ_ _ h=>h) (λj z b=>Iff.rfl) (λ_ _ _ h=>h) (I.akq hi.1 (.inl rfl)) (λp _=>g p) k ?_ ?_ ?_ (I.val _ k.1 k.2)
 ·rcases I.aj _ k.1 k.2 with h|⟨q,u,v,w⟩
  ·exact .inl h
  ·refine .inr ?_;show 0<=a.own (a.aI i).aj/\a.own (a.aI i).aj<c.aB/\(dP a.aI i d (a.own (a.aI i).aj)).aj=(a.aI i).aj/\Hold _ _ _ _ _ _ (dP a.aI i d (a.own (a.aI i).aj)) (dP a.msg i _ (a.own (a.aI i).aj));rw [aW m,aW m];exact⟨q,u,v,w⟩
 ·refine .inl ⟨?_,aK⟩;show(dP a.aI i d i).step=0;rw [aK];exact hd
 ·exact(I.ws _).same (i:=i) rfl (g _) (λj b=>aW b) (λj b=>aW b)
def Wf.touch {N:Int}{E:uV}{r:Row}{v v':List Int}{l:List Int}(W:Wf N E r v l){e e':Ent}(k:E i=some e)(hb:e'.back=e.back)(z:e'.fwd=e.fwd)(hd:e'.dn=e.dn)(hv:(e'.data=e.data/\v'=v)∨(e.dn=true/\e'.data=v')):Wf N (oN E i (some e')) r v' l:=by
 have ch:Chn (oN E i (some e')) (-1) l (-1):=by
  have key:∀(l:List Int) (b x:Int),Chn E b l x->Chn (oN E i (some e')) b l x:=by
   intro l
   induction l with
   |nil=>intro b x _;trivial
   |cons j l A=>
    intro b x h;obtain⟨⟨C,m,d,y⟩,hc⟩:=h;refine⟨?_,A j x hc⟩;by_cases g:j=i
    ·subst g;rw [k] at m;cases m;exact⟨e',fZ,by rw [hb,d],by rw [z,y]⟩
    ·exact⟨C,by rw [fE g];exact m,d,y⟩
  exact key l _ _ W.ch
 refine⟨W.rng,ch,λj x g=>?_,W.head,W.st,W.st0,W.st2,λj x g=>?_,λj x g=>?_,λd=>?_⟩
 ·rcases jL g with⟨h,_⟩|⟨_,h⟩
  ·rw [h];exact W.mem i e k
  ·exact W.mem j x h
 ·rcases jL g with⟨h,u⟩|⟨_,h⟩
  ·cases u;rw [hd];exact W.dn i e k
  ·exact W.dn j x h
 ·rcases jL g with⟨h,u⟩|⟨w,h⟩
  ·cases u;rcases hv with⟨p,o⟩|⟨_,o⟩
   ·rw [p,o];exact W.data i e k
   ·exact o
  ·rcases hv with⟨_,o⟩|⟨p,_⟩
   ·rw [o];exact W.data j x h
   ·obtain⟨q,D⟩:=W.st2 ((W.dn i e k).1 p);have m:=W.mem i e k;have d:=W.mem j x h;rw [D] at m d;simp only [zaj,zaA,or_false] at m d;exact absurd (d.trans m.symm) w
 ·rcases hv with⟨_,o⟩|⟨p,_⟩
  ·rw [o];exact W.ES d
  ·exact absurd ((W.dn i e k).1 p) d
def Jt {E:uV}{e e':Ent}(d:E i=some e)(g:e'.fwd=e.fwd):∀{l:List Int},FCh E l->FCh (oN E i (some e')) l
 |[],_=>trivial
 |j::l,⟨⟨m,b,h⟩,hc⟩=>by
  refine⟨?_,Jt d g hc⟩;by_cases k:j=i
  ·subst k;rw [d] at b;cases b;exact⟨e',fZ,by rw [g,h]⟩
  ·exact⟨m,by rw [fE k];exact b,h⟩
def oH {E:uV}{e e':Ent}(g:E i=some e)(hb:e'.back=e.back)(h:e'.fwd=e.fwd):∀{l:List Int} {b x:Int},Chn E b l x->Chn (oN E i (some e')) b l x
 |[],_,_,_=>trivial
 |j::l,b,x,⟨⟨p,d,k,m⟩,hc⟩=>by
  refine⟨?_,oH g hb h hc⟩;by_cases o:j=i
  ·subst o;rw [g] at d;cases d;exact⟨e',fZ,by rw [hb,k],by rw [h,m]⟩
  ·exact⟨p,by rw [fE o];exact d,k,m⟩
def Hold.touch {N hm:Int}{E:uV}{r:Row}{v v':List Int}{k:Int}{d:bM}{o:Out}(H:Hold N hm E r v k d o)(ab:i≠k){e e':Ent}(m:E i=some e)(hb:e'.back=e.back)(K:e'.fwd=e.fwd)(hd:e'.dn=e.dn)(hv:(e'.data=e.data/\v'=v)∨(e.dn=true/\e'.data=v')):Hold N hm (oN E i (some e')) r v' k d o:=by
 have b:∀j x,oN E i (some e') j=some x->∃y,E j=some y/\x.dn=y.dn:=λj x g=>by
  rcases jL g with⟨h,h'⟩|⟨_,h⟩
  ·cases h';rw [h];exact⟨e,m,hd⟩
  ·exact⟨x,h,rfl⟩
 -- where nothing is dn the bI are as they were
 have z:(∀j x,E j=some x->x.dn=false)->(∀j x,E j=some x->x.data=v)->v'=v/\∀j x,oN E i (some e') j=some x->x.data=v:=λhc ag=>by
  have h0:=hc i e m;rcases hv with⟨a1,a2⟩|⟨a1,_⟩
  ·refine⟨a2,λj x g=>?_⟩;rcases jL g with⟨_,h'⟩|⟨_,h⟩
   ·cases h';rw [a1];exact ag i e m
   ·exact ag j x h
  ·rw [h0] at a1;cases a1
 have mid:∀{ai ae:List Int},Mid N E r v k ai ae->v'=v/\Mid N (oN E i (some e')) r v k ai ae:=λM=>by
  obtain⟨Q,T⟩:=z M.dn M.data;obtain⟨ek,hk⟩:=M.ent;refine⟨Q,M.rng,λj x g=>?_,⟨ek,by rw [fE ab.symm];exact hk⟩,M.head,M.st,λj x g=>?_,T,M.ES⟩
  ·obtain⟨y,u,_⟩:=b j x g;exact M.mem j y u
  ·obtain⟨y,u,h⟩:=b j x g;rw [h];exact M.dn j y u
 cases H with
 |granted p W=>exact .granted p (W.touch m hb K hd hv)
 |attach p A w G W=>exact .attach p A w G (W.touch m hb K hd hv)
 |attached p A w G R C M D X F=>
  obtain⟨Q,T⟩:=z D X;subst Q;exact .attached p A w G R (oH m hb K C) (λj x g=>by obtain⟨y,u,_⟩:=b j x g;exact M j y u) (λj x g=>by obtain⟨y,u,h⟩:=b j x g;rw [h];exact D j y u) T F
 |JJ p A L w G=>
  have am:E k≠none->v'=v:=λhk=>by
   rcases hv with⟨_,a2⟩|⟨a1,_⟩
   ·exact a2
   ·exact absurd (L.only i e m a1 k hk) ab.symm
  refine .JJ p A ⟨L.rng,Jt m K L.ch,λj x g=>?_,λj x g=>?_,λj x g ad q hq=>?_⟩ w λhk=>?_
  ·obtain⟨y,u,_⟩:=b j x g;exact L.mem j y u
  ·rcases jL g with⟨_,h'⟩|⟨ao,h⟩
   ·cases h';rcases hv with⟨a1,a2⟩|⟨_,a2⟩
    ·rw [a1,a2];exact L.data i e m
    ·exact a2
   ·rcases hv with⟨_,a2⟩|⟨a1,_⟩
    ·rw [a2];exact L.data j x h
    ·exact absurd (L.only i e m a1 j (by rw [h];simp)) ao
  ·obtain⟨y,u,aa⟩:=b j x g;refine L.only j y u (by rw [<-aa];exact ad) q ?_;intro af;by_cases al:q=i
   ·rw [al,m] at af;cases af
   ·rw [fE al] at hq;exact hq af
  ·rw [fE ab.symm] at hk;rw [am hk];exact G hk
 |Jp p A L w G=>
  obtain⟨Q,T⟩:=z w L.data;subst Q;refine .Jp p A ⟨L.rng,Jt m K L.ch,λj x g=>?_,T,λj x g ad q hq=>?_⟩ (λj x g=>?_) λhk=>?_
  ·obtain⟨y,u,_⟩:=b j x g;exact L.mem j y u
  ·obtain⟨y,u,aa⟩:=b j x g;rw [aa,w j y u] at ad;cases ad
  ·obtain⟨y,u,aa⟩:=b j x g;rw [aa];exact w j y u
  ·rw [fE ab.symm] at hk;exact G hk
 |front p A M w C G h5 h6=>
  obtain⟨Q,T⟩:=mid M;subst Q;exact .front p A T w (oH m hb K C) G h5 h6
 |Ae p A M w C C' G h5 h6=>
  obtain⟨Q,T⟩:=mid M;subst Q;exact .Ae p A T w (oH m hb K C) (oH m hb K C') G h5 h6
 |behind p A M w C C' G h5 h6=>
  obtain⟨Q,T⟩:=mid M;subst Q;exact .behind p A T w (oH m hb K C) (oH m hb K C') G h5 h6
 |wE p A M w C C' G h5 h6=>
  obtain⟨Q,T⟩:=mid M;subst Q;exact .wE p A T w (oH m hb K C) (oH m hb K C') G h5 h6
 |unlock p W=>exact .unlock p (W.touch m hb K hd hv)
def oO.hit(I:oO c a)(hi:0<=i/\i<c.aB)(h0:(a.aI i).step=0)(m:0<=L/\L<c.aY){e e':Ent}{v':List Int}(p:a.ent L i=some e)(hb:e'.back=e.back)(q:e'.fwd=e.fwd)(hd:e'.dn=e.dn)(hv:(e'.data=e.data/\v'=a.val L)∨(e.dn=true/\e'.data=v'))(v:v'≠[]):
  oO c { a with ent:=dP a.ent L (oN (a.ent L) i (some e')),val:=dP a.val L v' }:=by
 have b:∀d,a.own d≠i:=λd e=>(I.only hi.1 d e).2 h0;have g:(a.aI i).step=0/\a.msg i=.idle:=by
  rcases I.bF i hi.1 hi.2 with h|O
  ·exact h
  ·exact absurd h0 O.step
 have k:=I.SK (i:=i) (by rw [g.2];exact λe=>by cases e);refine I.upd i L hi.1 (λ_ h=>aW h) (λ_ _=>rfl) (λ_ _=>rfl) (λ_ _=>rfl) (λ_ h=>aW h) (λ_ _=>rfl) (λ_ _=>rfl) (λj w h=>?_) (λ_ _ _=>Iff.rfl) (λ_ _ _ h=>h) (λd _=>b d) (λd _=>k d) m ?_ (.inl g) ?_ ?_
 ·show dP a.ent L _ L j=none;rw [aK,fE w];exact h
 ·rcases I.aj L m.1 m.2 with⟨o,l,W⟩|⟨o,y,z,u⟩
  ·refine .inl ⟨o,l,?_⟩;show Wf _ (dP a.ent L _ L) _ (dP a.val L v' L) l;rw [aK,aK];exact W.touch p hb q hd hv
  ·refine .inr ⟨o,y,z,?_⟩;unfold Abs.holds at u ⊢;show Hold _ _ (dP a.ent L _ L) _ (dP a.val L v' L) _ _ _;rw [aK,aK];exact u.touch (b L).symm p hb q hd hv
 ·exact(I.ws L).same (i:=i) rfl (k L) (λ_ _=>rfl) (λ_ _=>rfl)
 ·show dP a.val L v' L≠[];rw [aK];exact v
end
def wS(p:Port):List Pkt:=p.rq++p.rin
def wU(p:Port):List Pkt:=p.an++p.ain
def Aj(f:Fab):List Pkt:=f.l.flatMap wS
def Ak(f:Fab):List Pkt:=f.l.flatMap wU
structure Pn(msg:Int->Out)(k:Int)(q:Port):Prop where
 rq:∀p∈q.rq,p.src=k/\qU p.aS=true/\msg k=.req p
 rin:∀p∈q.rin,p.dst=k/\qU p.aS=true/\msg p.src=.req p
 an:∀p∈q.an,p.src=k/\qU p.aS=false/\msg p.dst=.ans p
 ain:∀p∈q.ain,p.dst=k/\qU p.aS=false/\msg k=.ans p
structure qG(f:Fab)(msg:Int->Out):Prop where
 port:∀(k:Nat) q,f.l[k]?=some q->Pn msg k q
 rn:((Aj f).map (·.src)).Nodup
 an:((Ak f).map (·.dst)).Nodup
 rc:∀i p,msg i=.req p->p∈Aj f
 ac:∀i p,msg i=.ans p->p∈Ak f
 src:∀i p,msg i=.req p->p.src=i
 dst:∀i p,msg i=.ans p->p.dst=i
 rg:∀i p,msg i=.req p∨msg i=.ans p->f.is i=true
def jy {g:Port->List Pkt}{q q':Port}:∀{l:List Port} {k:Nat},l[k]?=some q->∀{x y:List Pkt},(x++g q').Perm (y++g q)->(x++(l.set k q').flatMap g).Perm (y++l.flatMap g)
 |[],k,h,_,_,_=>by simp at h
 |p::l,0,h,x,y,b=>by
  simp only [zaT,zaa] at h;subst h;simp only [zb9,zaC,<-zbc];exact b.append_right _
 |p::l,k+1,h,x,y,b=>by
  simp only [zbf] at h;have d:=jy h b;simp only [zca,zaC];have e:(x++(g p++(l.set k q').flatMap g)).Perm (g p++(x++(l.set k q').flatMap g)):=by
   rw [<-zbc,<-zbc];exact List.perm_append_comm.append_right _
  have i:(g p++(y++l.flatMap g)).Perm (y++(g p++l.flatMap g)):=by
   rw [<-zbc,<-zbc];exact List.perm_append_comm.append_right _
  exact e.trans ((d.append_left _).trans i)
def fF {f:Fab}{i:Int}(h:f.is i=true):f.l[i.toNat]?=some (f.port i):=by
 unfold Fab.is at h;simp only [zah,decide_eq_true_eq] at h;unfold Fab.port;rw [zas,zab V,zav]
def uf {f:Fab}{i:Int}{q:Port}(h:f.is i=true){k:Nat}{q':Port}(hk:(f.put i q).l[k]?=some q'):(k=i.toNat/\q'=q)∨(k≠i.toNat/\f.l[k]?=some q'):=by
 simp only [Fab.put] at hk;by_cases e:i.toNat=k
 ·rw [e] at hk;have b:k<f.l.length:=by
   unfold Fab.is at h;simp only [zah,decide_eq_true_eq] at h;omega
  rw [zbd b] at hk;exact .inl ⟨e.symm,(zaX hk).symm⟩
 ·rw [zbl e] at hk;exact .inr ⟨λh=>e h.symm,hk⟩
def wF {f:Fab}{i:Int}(h:f.is i=true):((i.toNat:Nat):Int)=i:=by
 unfold Fab.is at h;simp only [zah,decide_eq_true_eq] at h;omega
section
variable {f:Fab}{msg:Int->Out}{i:Int}{p:Pkt}
def qG.at_(R:qG f msg)(h:f.is i=true):Pn msg i (f.port i):=by
 have:=R.port _ _ (fF h);rw [wF h] at this;exact this
def Cc {k:Nat}{q:Port}(h:f.l[k]?=some q)(b:p∈q.rq∨p∈q.rin):p∈Aj f:=za0.2 ⟨q,zan h,zaO.2 b⟩
def Ce {k:Nat}{q:Port}(h:f.l[k]?=some q)(b:p∈q.an∨p∈q.ain):p∈Ak f:=za0.2 ⟨q,zan h,zaO.2 b⟩
def qG.req(R:qG f msg)(h:p∈Aj f):msg p.src=.req p:=by
 obtain⟨q,e,d⟩:=za0.1 h;obtain⟨k,hk⟩:=zbs.1 e;rcases zaO.1 d with d|d
 ·obtain⟨a,_,b⟩:=(R.port k q hk).rq p d;rw [a];exact b
 ·exact((R.port k q hk).rin p d).2.2
def qG.ans(R:qG f msg)(h:p∈Ak f):msg p.dst=.ans p:=by
 obtain⟨q,e,d⟩:=za0.1 h;obtain⟨k,hk⟩:=zbs.1 e;rcases zaO.1 d with d|d
 ·exact((R.port k q hk).an p d).2.2
 ·obtain⟨a,_,b⟩:=(R.port k q hk).ain p d;rw [a];exact b
def qG.apM(R:qG f msg)(h0:∀q,msg p.src≠.req q)(C:∀q,msg p.src≠.ans q)(u:p.ok=true)(hk:qU p.aS=true)(hs:f.is p.src=true)(hd:f.is p.dst=true)(F:1<=f.out):
  (f.send p).2=0/\qG (f.send p).1 (dP msg p.src (.req p)):=by
 have P:=R.at_ hs;have z:(f.port p.src).rq=[]:=by
  cases e:(f.port p.src).rq with
  |nil=>rfl
  |cons q l=>exact absurd (P.rq q (by rw [e];simp)).2.2 (h0 q)
 have o:f.send p=(f.put p.src { f.port p.src with rq:=[p] },0):=by
  unfold Fab.send;simp only [u,hs,hd,hk,Port.sort,Port.kP,if_true,z,zao,zaM,zaf,Bool.or_self,zai,if_false];rw [if_neg V]
 rw [o];refine⟨rfl,?_⟩;have v:(Aj (f.put p.src { f.port p.src with rq:=[p] })).Perm (p::Aj f):=by
  have:=jy (g:=wS) (fF hs) (q':={ f.port p.src with rq:=[p] }) (x:=[]) (y:=[p]) (by simp [wS,z])
  simpa [Aj,Fab.put] using this
 have A:(Ak (f.put p.src { f.port p.src with rq:=[p] })).Perm (Ak f):=by
  have:=jy (g:=wU) (fF hs) (q':={ f.port p.src with rq:=[p] }) (x:=[]) (y:=[]) (by simp [wU])
  simpa [Ak,Fab.put] using this
 have m:∀j q,msg j=.req q∨msg j=.ans q->dP msg p.src (.req p) j=msg j:=λj q h=>aW λe=>by
  subst e;rcases h with h|h
  ·exact h0 q h
  ·exact C q h
 refine⟨λk q w=>?_,?_,?_,λj q d=>?_,λj q d=>?_,λj q d=>?_,λj q d=>?_,λj q d=>?_⟩
 ·rcases uf hs w with⟨e,rfl⟩|⟨_,h⟩
  ·have D:(k:Int)=p.src:=by rw [e];exact wF hs
   rw [D];refine⟨λq i=>?_,λq i=>?_,λq i=>?_,λq i=>?_⟩
   ·simp only [zaj,zaA,or_false] at i;subst i;exact⟨rfl,hk,aK⟩
   ·obtain⟨a,b,c⟩:=P.rin q i;exact⟨a,b,by rw [m _ _ (.inl c)];exact c⟩
   ·obtain⟨a,b,c⟩:=P.an q i;exact⟨a,b,by rw [m _ _ (.inr c)];exact c⟩
   ·obtain⟨a,b,c⟩:=P.ain q i;exact⟨a,b,by rw [m _ _ (.inr c)];exact c⟩
  ·have Q:=R.port k q h;refine⟨λq i=>?_,λq i=>?_,λq i=>?_,λq i=>?_⟩
   ·obtain⟨a,b,c⟩:=Q.rq q i;exact⟨a,b,by rw [m _ _ (.inl c)];exact c⟩
   ·obtain⟨a,b,c⟩:=Q.rin q i;exact⟨a,b,by rw [m _ _ (.inl c)];exact c⟩
   ·obtain⟨a,b,c⟩:=Q.an q i;exact⟨a,b,by rw [m _ _ (.inr c)];exact c⟩
   ·obtain⟨a,b,c⟩:=Q.ain q i;exact⟨a,b,by rw [m _ _ (.inr c)];exact c⟩
 ·refine((v.map _).nodup_iff).2 (za1.2 ⟨λhm=>?_,R.rn⟩);obtain⟨q,i,e⟩:=zaI.1 hm;have:=R.req i;simp only at e;rw [e] at this;exact h0 q this
 ·exact((A.map _).nodup_iff).2 R.an
 ·by_cases e:j=p.src
  ·rw [e,aK] at d;cases d;exact v.mem_iff.2 O
  ·rw [aW e] at d;exact v.mem_iff.2 (za9 _ (R.rc j q d))
 ·by_cases e:j=p.src
  ·rw [e,aK] at d;cases d
  ·rw [aW e] at d;exact A.mem_iff.2 (R.ac j q d)
 ·by_cases e:j=p.src
  ·rw [e,aK] at d;cases d;exact e.symm
  ·rw [aW e] at d;exact R.src j q d
 ·by_cases e:j=p.src
  ·rw [e,aK] at d;cases d
  ·rw [aW e] at d;exact R.dst j q d
 ·have E:(f.put p.src { f.port p.src with rq:=[p] }).is j=f.is j:=by simp [Fab.is,Fab.put]
  rw [E];by_cases e:j=p.src
  ·rw [e];exact hs
  ·rw [aW e] at d;exact R.rg j q d
def qG.YR(R:qG f msg)(h0:∀q,msg p.dst≠.req q)(A:∀q,msg p.dst≠.ans q)(u:p.ok=true)(hk:qU p.aS=false)(hs:f.is p.src=true)(hd:f.is p.dst=true)(v:f.roomOf p.src false > 0):
  (f.send p).2=0/\qG (f.send p).1 (dP msg p.dst (.ans p)):=by
 have P:=R.at_ hs;have o:f.send p=(f.put p.src { f.port p.src with an:=(f.port p.src).an++[p] },0):=by
  unfold Fab.send;unfold Fab.roomOf at v;rw [if_pos hs] at v;simp only [Port.sort,zai,if_false] at v;simp only [u,hs,hd,hk,Port.sort,Port.kP,zaf,Bool.or_self,zai,if_false];rw [if_neg V]
 rw [o];refine⟨rfl,?_⟩;have w:(Ak (f.put p.src { f.port p.src with an:=(f.port p.src).an++[p] })).Perm (p::Ak f):=by
  have:=jy (g:=wU) (fF hs) (q':={ f.port p.src with an:=(f.port p.src).an++[p] }) (x:=[]) (y:=[p]) (by
   simp only [wU,zaM,zbc,zcw];exact zdr)
  simpa [Ak,Fab.put] using this
 have C:(Aj (f.put p.src { f.port p.src with an:=(f.port p.src).an++[p] })).Perm (Aj f):=by
  have:=jy (g:=wS) (fF hs) (q':={ f.port p.src with an:=(f.port p.src).an++[p] }) (x:=[]) (y:=[]) (by simp [wS])
  simpa [Aj,Fab.put] using this
 have m:∀j q,msg j=.req q∨msg j=.ans q->dP msg p.dst (.ans p) j=msg j:=λj q h=>aW λe=>by
  subst e;rcases h with h|h
  ·exact h0 q h
  ·exact A q h
 refine⟨λk q z=>?_,?_,?_,λj q d=>?_,λj q d=>?_,λj q d=>?_,λj q d=>?_,λj q d=>?_⟩
 ·rcases uf hs z with⟨e,rfl⟩|⟨_,h⟩
  ·have D:(k:Int)=p.src:=by rw [e];exact wF hs
   rw [D];refine⟨λq i=>?_,λq i=>?_,λq i=>?_,λq i=>?_⟩
   ·obtain⟨a,b,c⟩:=P.rq q i;exact⟨a,b,by rw [m _ _ (.inl c)];exact c⟩
   ·obtain⟨a,b,c⟩:=P.rin q i;exact⟨a,b,by rw [m _ _ (.inl c)];exact c⟩
   ·rcases zaO.1 i with i|i
    ·obtain⟨a,b,c⟩:=P.an q i;exact⟨a,b,by rw [m _ _ (.inr c)];exact c⟩
    ·simp only [zaj,zaA,or_false] at i;subst i;exact⟨rfl,hk,aK⟩
   ·obtain⟨a,b,c⟩:=P.ain q i;exact⟨a,b,by rw [m _ _ (.inr c)];exact c⟩
  ·have Q:=R.port k q h;refine⟨λq i=>?_,λq i=>?_,λq i=>?_,λq i=>?_⟩
   ·obtain⟨a,b,c⟩:=Q.rq q i;exact⟨a,b,by rw [m _ _ (.inl c)];exact c⟩
   ·obtain⟨a,b,c⟩:=Q.rin q i;exact⟨a,b,by rw [m _ _ (.inl c)];exact c⟩
   ·obtain⟨a,b,c⟩:=Q.an q i;exact⟨a,b,by rw [m _ _ (.inr c)];exact c⟩
   ·obtain⟨a,b,c⟩:=Q.ain q i;exact⟨a,b,by rw [m _ _ (.inr c)];exact c⟩
 ·exact((C.map _).nodup_iff).2 R.rn
 ·refine((w.map _).nodup_iff).2 (za1.2 ⟨λhm=>?_,R.an⟩);obtain⟨q,i,e⟩:=zaI.1 hm;have:=R.ans i;simp only at e;rw [e] at this;exact A q this
 ·by_cases e:j=p.dst
  ·rw [e,aK] at d;cases d
  ·rw [aW e] at d;exact C.mem_iff.2 (R.rc j q d)
 ·by_cases e:j=p.dst
  ·rw [e,aK] at d;cases d;exact w.mem_iff.2 O
  ·rw [aW e] at d;exact w.mem_iff.2 (za9 _ (R.ac j q d))
 ·by_cases e:j=p.dst
  ·rw [e,aK] at d;cases d
  ·rw [aW e] at d;exact R.src j q d
 ·by_cases e:j=p.dst
  ·rw [e,aK] at d;cases d;exact e.symm
  ·rw [aW e] at d;exact R.dst j q d
 ·have E:(f.put p.src { f.port p.src with an:=(f.port p.src).an++[p] }).is j=f.is j:=by simp [Fab.is,Fab.put]
  rw [E];by_cases e:j=p.dst
  ·rw [e];exact hd
  ·rw [aW e] at d;exact R.rg j q d
def qG.takeA(R:qG f msg){D:Fab}(h:f.take i false=(D,some p)):f.is i=true/\p.dst=i/\qU p.aS=false/\msg i=.ans p/\qG D (dP msg i .idle)/\D.out=f.out/\D.l.length=f.l.length:=by
 unfold Fab.take at h;split at h
 case isFalse=>cases h
 rename_i hs;split at h
 ·cases h
 rename_i E l w;simp only [zad,zaa] at h;obtain⟨rfl,rfl⟩:=h;simp only [Port.qo,zai,if_false] at w;have P:=R.at_ hs;obtain⟨F,L,G⟩:=P.ain E (by rw [w];simp);refine⟨hs,F,L,G,?_,rfl,by simp [Fab.put]⟩;have z:(f.port i).lG false l={ f.port i with ain:=l }:=by simp [Port.lG]
 rw [z];have H:(E::Ak (f.put i { f.port i with ain:=l })).Perm (Ak f):=by
  have:=jy (g:=wU) (fF hs) (q':={ f.port i with ain:=l }) (x:=[E]) (y:=[]) (by
   simp only [wU,zaM,w,zcw];exact zdr.symm)
  simpa [Ak,Fab.put] using this
 have K:(Aj (f.put i { f.port i with ain:=l })).Perm (Aj f):=by
  have:=jy (g:=wS) (fF hs) (q':={ f.port i with ain:=l }) (x:=[]) (y:=[]) (by simp [wS])
  simpa [Aj,Fab.put] using this
 have nd:(E.dst::(Ak (f.put i { f.port i with ain:=l })).map (·.dst)).Nodup:=((H.map Pkt.dst).nodup_iff).2 R.an;have A:∀q∈Ak (f.put i { f.port i with ain:=l }),q.dst≠i:=λq m e=>(za1.1 nd).1 (zaI.2 ⟨q,m,e.trans F.symm⟩);have v:∀q∈Aj f,q.src≠i:=λq m e=>by
  have:=R.req m;rw [e,G] at this;cases this
 refine⟨λk q C=>?_,?_,?_,λj q d=>?_,λj q d=>?_,λj q d=>?_,λj q d=>?_,λj q d=>?_⟩
 ·have o:∀x,(x∈q.an∨x∈q.ain)->x.dst≠i:=λx u=>A x (Ce C u);rcases uf hs C with⟨e,rfl⟩|⟨_,h⟩
  ·have M:(k:Int)=i:=by rw [e];exact wF hs
   rw [M];refine⟨λq m=>?_,λq m=>?_,λq m=>?_,λq m=>?_⟩
   ·exact absurd ((P.rq q m).1) (v q (Cc (fF hs) (.inl m)))
   ·obtain⟨a,b,c⟩:=P.rin q m;exact⟨a,b,by rw [aW (v q (Cc (fF hs) (.inr m)))];exact c⟩
   ·obtain⟨a,b,c⟩:=P.an q m;exact⟨a,b,by rw [aW (o q (.inl m))];exact c⟩
   ·have:=o q (.inr m);exact absurd (P.ain q (by rw [w];exact za9 _ m)).1 this
  ·have Q:=R.port k q h;refine⟨λx u=>?_,λx u=>?_,λx u=>?_,λx u=>?_⟩
   ·obtain⟨a,b,c⟩:=Q.rq x u;have:=v x (Cc h (.inl u));exact⟨a,b,by rw [aW V];exact c⟩
   ·obtain⟨a,b,c⟩:=Q.rin x u;exact⟨a,b,by rw [aW (v x (Cc h (.inr u)))];exact c⟩
   ·obtain⟨a,b,c⟩:=Q.an x u;exact⟨a,b,by rw [aW (o x (.inl u))];exact c⟩
   ·obtain⟨a,b,c⟩:=Q.ain x u;have:=o x (.inr u);exact⟨a,b,by rw [aW V];exact c⟩
 ·exact((K.map _).nodup_iff).2 R.rn
 ·exact(za1.1 nd).2
 ·by_cases e:j=i
  ·rw [e,aK] at d;cases d
  ·rw [aW e] at d;exact K.mem_iff.2 (R.rc j q d)
 ·by_cases e:j=i
  ·rw [e,aK] at d;cases d
  ·rw [aW e] at d;rcases zaj.1 (H.mem_iff.2 (R.ac j q d)) with h|h
   ·have:=R.dst j q d;rw [h,F] at this;exact absurd this.symm e
   ·exact h
 ·by_cases e:j=i
  ·rw [e,aK] at d;cases d
  ·rw [aW e] at d;exact R.src j q d
 ·by_cases e:j=i
  ·rw [e,aK] at d;cases d
  ·rw [aW e] at d;exact R.dst j q d
 ·have w:(f.put i { f.port i with ain:=l }).is j=f.is j:=by simp [Fab.is,Fab.put]
  rw [w];by_cases e:j=i
  ·rw [e];exact hs
  ·rw [aW e] at d;exact R.rg j q d
def qG.asX(R:qG f msg){A:Fab}(h:f.take i true=(A,some p)):f.is i=true/\p.dst=i/\qU p.aS=true/\msg p.src=.req p/\qG A (dP msg p.src .idle)/\A.out=f.out/\A.l.length=f.l.length/\(∀k,A.roomOf k false=f.roomOf k false):=by
 unfold Fab.take at h;split at h
 case isFalse=>cases h
 rename_i hs;split at h
 ·cases h
 rename_i u l z;simp only [zad,zaa] at h;obtain⟨rfl,rfl⟩:=h;simp only [Port.qo,if_true] at z;have P:=R.at_ hs;obtain⟨L,M,F⟩:=P.rin u (by rw [z];simp);have C:(f.port i).lG true l={ f.port i with rin:=l }:=by simp [Port.lG]
 rw [C];refine⟨hs,L,M,F,?_,rfl,by simp [Fab.put],λk=>?_⟩;rotate_left
 ·have G:=hs;unfold Fab.is at G;simp only [zah,decide_eq_true_eq] at G;unfold Fab.roomOf Fab.is Fab.port Fab.put;simp only [zcf,zas];by_cases e:i.toNat=k.toNat
  ·rw [<-e,zbd V];simp only [zav,Port.sort,zai,if_false]
  ·rw [zbl e]
 have H:(u::Aj (f.put i { f.port i with rin:=l })).Perm (Aj f):=by
  have:=jy (g:=wS) (fF hs) (q':={ f.port i with rin:=l }) (x:=[u]) (y:=[]) (by
   simp only [wS,zaM,z,zcw];exact zdr.symm)
  simpa [Aj,Fab.put] using this
 have K:(Ak (f.put i { f.port i with rin:=l })).Perm (Ak f):=by
  have:=jy (g:=wU) (fF hs) (q':={ f.port i with rin:=l }) (x:=[]) (y:=[]) (by simp [wU])
  simpa [Ak,Fab.put] using this
 have nd:(u.src::(Aj (f.put i { f.port i with rin:=l })).map (·.src)).Nodup:=((H.map Pkt.src).nodup_iff).2 R.rn;have D:∀q∈Aj (f.put i { f.port i with rin:=l }),q.src≠u.src:=λq m e=>(za1.1 nd).1 (zaI.2 ⟨q,m,e⟩);have w:∀q∈Ak f,q.dst≠u.src:=λq m e=>by
  have:=R.ans m;rw [e,F] at this;cases this
 refine⟨λk q E=>?_,?_,?_,λj q d=>?_,λj q d=>?_,λj q d=>?_,λj q d=>?_,λj q d=>?_⟩
 ·have o:∀x,(x∈q.rq∨x∈q.rin)->x.src≠u.src:=λx v=>D x (Cc E v);rcases uf hs E with⟨e,rfl⟩|⟨_,h⟩
  ·have T:(k:Int)=i:=by rw [e];exact wF hs
   rw [T];refine⟨λq m=>?_,λq m=>?_,λq m=>?_,λq m=>?_⟩
   ·obtain⟨a,b,c⟩:=P.rq q m;have:=o q (.inl m);exact⟨a,b,by rw [aW V];exact c⟩
   ·obtain⟨a,b,c⟩:=P.rin q (by rw [z];exact za9 _ m);exact⟨a,b,by rw [aW (o q (.inr m))];exact c⟩
   ·obtain⟨a,b,c⟩:=P.an q m;exact⟨a,b,by rw [aW (w q (Ce (fF hs) (.inl m)))];exact c⟩
   ·obtain⟨a,b,c⟩:=P.ain q m;have:=w q (Ce (fF hs) (.inr m));exact⟨a,b,by rw [aW V];exact c⟩
  ·have Q:=R.port k q h;refine⟨λx v=>?_,λx v=>?_,λx v=>?_,λx v=>?_⟩
   ·obtain⟨a,b,c⟩:=Q.rq x v;have:=o x (.inl v);exact⟨a,b,by rw [aW V];exact c⟩
   ·obtain⟨a,b,c⟩:=Q.rin x v;exact⟨a,b,by rw [aW (o x (.inr v))];exact c⟩
   ·obtain⟨a,b,c⟩:=Q.an x v;exact⟨a,b,by rw [aW (w x (Ce h (.inl v)))];exact c⟩
   ·obtain⟨a,b,c⟩:=Q.ain x v;have:=w x (Ce h (.inr v));exact⟨a,b,by rw [aW V];exact c⟩
 ·exact(za1.1 nd).2
 ·exact((K.map _).nodup_iff).2 R.an
 ·by_cases e:j=u.src
  ·rw [e,aK] at d;cases d
  ·rw [aW e] at d;rcases zaj.1 (H.mem_iff.2 (R.rc j q d)) with h|h
   ·have:=R.src j q d;rw [h] at this;exact absurd this.symm e
   ·exact h
 ·by_cases e:j=u.src
  ·rw [e,aK] at d;cases d
  ·rw [aW e] at d;exact K.mem_iff.2 (R.ac j q d)
 ·by_cases e:j=u.src
  ·rw [e,aK] at d;cases d
  ·rw [aW e] at d;exact R.src j q d
 ·by_cases e:j=u.src
  ·rw [e,aK] at d;cases d
  ·rw [aW e] at d;exact R.dst j q d
 ·have z:(f.put i { f.port i with rin:=l }).is j=f.is j:=by simp [Fab.is,Fab.put]
  rw [z];by_cases e:j=u.src
  ·rw [e];exact R.rg _ u (.inl F)
  ·rw [aW e] at d;exact R.rg j q d
def wG {p:Pkt}:∀{l:List Port} {i0 k:Nat},(l.flatMap λq=>q.rq++q.an)[k]?=some p->∃i req k' q,AX l i0 k=some (i0+i,req,k')/\l[i]?=some q/\(q.sort req)[k']?=some p
 |[],_,_,h=>by simp at h
 |q::l,i0,k,h=>by
  simp only [zaC] at h;unfold AX;by_cases b:k<q.rq.length
  ·rw [if_pos b];rw [zbc,zaJ b] at h;exact⟨0,true,k,q,rfl,rfl,h⟩
  ·rw [if_neg b];by_cases d:k<q.rq.length+q.an.length
   ·rw [if_pos d];rw [zbc,za3 V,zaJ V] at h;exact⟨0,false,k-q.rq.length,q,rfl,rfl,h⟩
   ·rw [if_neg d];rw [za3 (by rw [zaq];omega),zaq] at h;obtain⟨i,req,k',e,g,j,m⟩:=wG (i0:=i0+1) h;exact⟨i+1,req,k',e,by rw [g];simp only [zb6,Nat.add_comm 1 i],j,m⟩
def DY {k:Nat}{q q':Port}:∀{l:List Port},l[k]?=some q->q'.rq=q.rq->q'.an=q.an->(l.set k q').flatMap (λq=>q.rq++q.an)=l.flatMap (λq=>q.rq++q.an):=by
 induction k with
 |zero=>
  intro l h a b;cases l with
  |nil=>simp at h
  |cons x l=>
   simp only [zaT,zaa] at h;subst h;simp [a,b]
 |succ k d=>
  intro l h a b;cases l with
  |nil=>simp at h
  |cons x l=>
   simp only [zbf] at h;simp only [zca,zaC,d h a b]
def LV {k:Nat}:∀{l:List Pkt},l[k]?=some p->(p::l.eraseIdx k).Perm l:=by
 induction k with
 |zero=>
  intro l h;cases l with
  |nil=>simp at h
  |cons x l=>
   simp only [zaT,zaa] at h;subst h;exact .refl _
 |succ k b=>
  intro l h;cases l with
  |nil=>simp at h
  |cons x l=>
   simp only [zbf] at h;simp only [zdh];exact(List.Perm.swap _ _ _).trans ((b h).cons _)
def wH {f:Fab}{i:Nat}{q:Port}(h:f.l[i]?=some q):f.port i=q:=by
 unfold Fab.port;rw [zar,zas,h,zav]
def EJ {f:Fab}{i:Nat}{q:Port}(h:f.l[i]?=some q):f.is i=true:=by
 have:=(zae.1 h).1;unfold Fab.is;simp only [zah,decide_eq_true_eq];exact⟨V,V⟩
def qG.deliver(R:qG f msg)(X:∀p∈f.all,f.is p.dst=true)(a b m:Int):qG (f.deliver a b m).1 msg:=by
 unfold Fab.deliver;split
 ·exact R
 split
 ·exact R
 rename_i p hp;have hd:=X p (zan hp);split
 ·exact R
 split
 ·exact R
 rename_i hr;simp only;cases hk:qU p.aS with
 |true=>
  have v:(f.port p.dst).lG true ((f.port p.dst).qo true++[p])=(⟨(f.port p.dst).rq,(f.port p.dst).rin++[p],(f.port p.dst).an,(f.port p.dst).ain⟩:Port):=by simp [Port.lG,Port.qo]
  rw [v];have w:(f.put p.dst (⟨(f.port p.dst).rq,(f.port p.dst).rin++[p],(f.port p.dst).an,(f.port p.dst).ain⟩:Port)).all[a.toNat]?=some p:=by
   unfold Fab.all Fab.put;rw [DY (q':=(⟨(f.port p.dst).rq,(f.port p.dst).rin++[p],(f.port p.dst).an,(f.port p.dst).ain⟩:Port)) (fF hd) rfl rfl];exact hp
  obtain⟨i,req,k',q,L,u,A⟩:=wG (i0:=0) w;rw [za6] at L
  -- the atD port,as it was
  have hq:∃o,f.l[i]?=some o/\q.rq=o.rq/\q.an=o.an:=by
   rcases uf hd u with⟨e,rfl⟩|⟨_,h⟩
   ·exact⟨f.port p.dst,by rw [e];exact fF hd,rfl,rfl⟩
   ·exact⟨q,h,rfl,rfl⟩
  obtain⟨o,K,g2,g3⟩:=hq;have C:req=true:=by
   cases req with
   |true=>rfl
   |false=>
    have hm:p∈q.an:=zan A;rw [g3] at hm;have:=((R.port i o K).an p hm).2.1;rw [hk] at this;cases this
  subst C;have hm:p∈o.rq:=by rw [<-g2];exact zan A
  have M:=((R.port i o K).rq p hm).1;have D:=((R.port i o K).rq p hm).2.2;have E:(f.put p.dst (⟨(f.port p.dst).rq,(f.port p.dst).rin++[p],(f.port p.dst).an,(f.port p.dst).ain⟩:Port)).remove a.toNat=(f.put p.dst (⟨(f.port p.dst).rq,(f.port p.dst).rin++[p],(f.port p.dst).an,(f.port p.dst).ain⟩:Port)).put i (⟨q.rq.eraseIdx k',q.rin,q.an,q.ain⟩:Port):=by
   have F:(f.put p.dst (⟨(f.port p.dst).rq,(f.port p.dst).rin++[p],(f.port p.dst).an,(f.port p.dst).ain⟩:Port)).port i=q:=wH u;unfold Fab.remove;rw [L];simp only [F,Port.drop,Port.kP,Port.sort,if_true]
  rw [E];have G:(f.put p.dst (⟨(f.port p.dst).rq,(f.port p.dst).rin++[p],(f.port p.dst).an,(f.port p.dst).ain⟩:Port)).is i=true:=EJ u;have p1:(Aj (f.put p.dst (⟨(f.port p.dst).rq,(f.port p.dst).rin++[p],(f.port p.dst).an,(f.port p.dst).ain⟩:Port))).Perm (p::Aj f):=by
   have:=jy (g:=wS) (fF hd) (q':=(⟨(f.port p.dst).rq,(f.port p.dst).rin++[p],(f.port p.dst).an,(f.port p.dst).ain⟩:Port)) (x:=[]) (y:=[p]) (by
    simp only [wS,zaM,<-zbc];exact zdx)
   simpa [Aj,Fab.put] using this
  have p2:(p::Aj ((f.put p.dst (⟨(f.port p.dst).rq,(f.port p.dst).rin++[p],(f.port p.dst).an,(f.port p.dst).ain⟩:Port)).put i (⟨q.rq.eraseIdx k',q.rin,q.an,q.ain⟩:Port))).Perm (Aj (f.put p.dst (⟨(f.port p.dst).rq,(f.port p.dst).rin++[p],(f.port p.dst).an,(f.port p.dst).ain⟩:Port))):=by
   have:=jy (g:=wS) u (q':=(⟨q.rq.eraseIdx k',q.rin,q.an,q.ain⟩:Port)) (x:=[p]) (y:=[]) (by
    simp only [wS,zaM,zcw,<-zbq];exact(LV A).append_right _)
   simpa [Aj,Fab.put] using this
  have T:=(List.perm_cons p).1 (p2.trans p1);have W:(Ak ((f.put p.dst (⟨(f.port p.dst).rq,(f.port p.dst).rin++[p],(f.port p.dst).an,(f.port p.dst).ain⟩:Port)).put i (⟨q.rq.eraseIdx k',q.rin,q.an,q.ain⟩:Port))).Perm (Ak f):=by
   have h1:=jy (g:=wU) (fF hd) (q':=(⟨(f.port p.dst).rq,(f.port p.dst).rin++[p],(f.port p.dst).an,(f.port p.dst).ain⟩:Port)) (x:=[]) (y:=[]) (by simp [wU]);have h2:=jy (g:=wU) u (q':=(⟨q.rq.eraseIdx k',q.rin,q.an,q.ain⟩:Port)) (x:=[]) (y:=[]) (by simp [wU]);have h3:=h2.trans h1
   simpa [Ak,Fab.put] using h3
  have mid:∀(k:Nat) x,(f.put p.dst (⟨(f.port p.dst).rq,(f.port p.dst).rin++[p],(f.port p.dst).an,(f.port p.dst).ain⟩:Port)).l[k]?=some x->Pn msg k x:=λk x H=>by
   rcases uf hd H with⟨e,rfl⟩|⟨_,h⟩
   ·have e':(k:Int)=p.dst:=by rw [e];exact wF hd
    rw [e'];have P:=R.at_ hd;refine⟨P.rq,λy d=>?_,P.an,P.ain⟩;rcases zaO.1 d with d|d
    ·exact P.rin y d
    ·simp only [zaj,zaA,or_false] at d;subst d;exact⟨rfl,hk,by rw [M];exact D⟩
   ·exact R.port k x h
  refine⟨λk x H=>?_,((T.map _).nodup_iff).2 R.rn,((W.map _).nodup_iff).2 R.an,λj y z=>T.mem_iff.2 (R.rc j y z),λj y z=>W.mem_iff.2 (R.ac j y z),R.src,R.dst,λj y z=>by have:=R.rg j y z;simpa [Fab.is,Fab.put] using this⟩;rcases uf G H with⟨e,rfl⟩|⟨_,h⟩
  ·have Q:=mid i q u;rw [zar] at e;subst e;exact⟨λy d=>Q.rq y (zcH d),Q.rin,Q.an,Q.ain⟩
  ·exact mid k x h
 |false=>
  have v:(f.port p.dst).lG false ((f.port p.dst).qo false++[p])=(⟨(f.port p.dst).rq,(f.port p.dst).rin,(f.port p.dst).an,(f.port p.dst).ain++[p]⟩:Port):=by simp [Port.lG,Port.qo]
  rw [v];have w:(f.put p.dst (⟨(f.port p.dst).rq,(f.port p.dst).rin,(f.port p.dst).an,(f.port p.dst).ain++[p]⟩:Port)).all[a.toNat]?=some p:=by
   unfold Fab.all Fab.put;rw [DY (q':=(⟨(f.port p.dst).rq,(f.port p.dst).rin,(f.port p.dst).an,(f.port p.dst).ain++[p]⟩:Port)) (fF hd) rfl rfl];exact hp
  obtain⟨i,req,k',q,L,u,A⟩:=wG (i0:=0) w;rw [za6] at L;have hq:∃o,f.l[i]?=some o/\q.rq=o.rq/\q.an=o.an:=by
   rcases uf hd u with⟨e,rfl⟩|⟨_,h⟩
   ·exact⟨f.port p.dst,by rw [e];exact fF hd,rfl,rfl⟩
   ·exact⟨q,h,rfl,rfl⟩
  obtain⟨o,K,g2,g3⟩:=hq;have C:req=false:=by
   cases req with
   |false=>rfl
   |true=>
    have hm:p∈q.rq:=zan A;rw [g2] at hm;have:=((R.port i o K).rq p hm).2.1;rw [hk] at this;cases this
  subst C;have hm:p∈o.an:=by rw [<-g3];exact zan A
  have D:=((R.port i o K).an p hm).2.2;have E:(f.put p.dst (⟨(f.port p.dst).rq,(f.port p.dst).rin,(f.port p.dst).an,(f.port p.dst).ain++[p]⟩:Port)).remove a.toNat=(f.put p.dst (⟨(f.port p.dst).rq,(f.port p.dst).rin,(f.port p.dst).an,(f.port p.dst).ain++[p]⟩:Port)).put i (⟨q.rq,q.rin,q.an.eraseIdx k',q.ain⟩:Port):=by
   have F:(f.put p.dst (⟨(f.port p.dst).rq,(f.port p.dst).rin,(f.port p.dst).an,(f.port p.dst).ain++[p]⟩:Port)).port i=q:=wH u;unfold Fab.remove;rw [L];simp only [F,Port.drop,Port.kP,Port.sort,zai,if_false]
  rw [E];have G:(f.put p.dst (⟨(f.port p.dst).rq,(f.port p.dst).rin,(f.port p.dst).an,(f.port p.dst).ain++[p]⟩:Port)).is i=true:=EJ u;have p1:(Ak (f.put p.dst (⟨(f.port p.dst).rq,(f.port p.dst).rin,(f.port p.dst).an,(f.port p.dst).ain++[p]⟩:Port))).Perm (p::Ak f):=by
   have:=jy (g:=wU) (fF hd) (q':=(⟨(f.port p.dst).rq,(f.port p.dst).rin,(f.port p.dst).an,(f.port p.dst).ain++[p]⟩:Port)) (x:=[]) (y:=[p]) (by
    simp only [wU,zaM,<-zbc];exact zdx)
   simpa [Ak,Fab.put] using this
  have p2:(p::Ak ((f.put p.dst (⟨(f.port p.dst).rq,(f.port p.dst).rin,(f.port p.dst).an,(f.port p.dst).ain++[p]⟩:Port)).put i (⟨q.rq,q.rin,q.an.eraseIdx k',q.ain⟩:Port))).Perm (Ak (f.put p.dst (⟨(f.port p.dst).rq,(f.port p.dst).rin,(f.port p.dst).an,(f.port p.dst).ain++[p]⟩:Port))):=by
   have:=jy (g:=wU) u (q':=(⟨q.rq,q.rin,q.an.eraseIdx k',q.ain⟩:Port)) (x:=[p]) (y:=[]) (by
    simp only [wU,zaM,zcw,<-zbq];exact(LV A).append_right _)
   simpa [Ak,Fab.put] using this
  have W:=(List.perm_cons p).1 (p2.trans p1);have T:(Aj ((f.put p.dst (⟨(f.port p.dst).rq,(f.port p.dst).rin,(f.port p.dst).an,(f.port p.dst).ain++[p]⟩:Port)).put i (⟨q.rq,q.rin,q.an.eraseIdx k',q.ain⟩:Port))).Perm (Aj f):=by
   have h1:=jy (g:=wS) (fF hd) (q':=(⟨(f.port p.dst).rq,(f.port p.dst).rin,(f.port p.dst).an,(f.port p.dst).ain++[p]⟩:Port)) (x:=[]) (y:=[]) (by simp [wS]);have h2:=jy (g:=wS) u (q':=(⟨q.rq,q.rin,q.an.eraseIdx k',q.ain⟩:Port)) (x:=[]) (y:=[]) (by simp [wS]);have h3:=h2.trans h1
   simpa [Aj,Fab.put] using h3
  have mid:∀(k:Nat) x,(f.put p.dst (⟨(f.port p.dst).rq,(f.port p.dst).rin,(f.port p.dst).an,(f.port p.dst).ain++[p]⟩:Port)).l[k]?=some x->Pn msg k x:=λk x H=>by
   rcases uf hd H with⟨e,rfl⟩|⟨_,h⟩
   ·have e':(k:Int)=p.dst:=by rw [e];exact wF hd
    rw [e'];have P:=R.at_ hd;refine⟨P.rq,P.rin,P.an,λy d=>?_⟩;rcases zaO.1 d with d|d
    ·exact P.ain y d
    ·simp only [zaj,zaA,or_false] at d;subst d;exact⟨rfl,hk,D⟩
   ·exact R.port k x h
  refine⟨λk x H=>?_,((T.map _).nodup_iff).2 R.rn,((W.map _).nodup_iff).2 R.an,λj y z=>T.mem_iff.2 (R.rc j y z),λj y z=>W.mem_iff.2 (R.ac j y z),R.src,R.dst,λj y z=>by have:=R.rg j y z;simpa [Fab.is,Fab.put] using this⟩;rcases uf G H with⟨e,rfl⟩|⟨_,h⟩
  ·have Q:=mid i q u;rw [zar] at e;subst e;exact⟨Q.rq,Q.rin,λy d=>Q.an y (zcH d),Q.ain⟩
  ·exact mid k x h
end
section
variable {c:Cache}{aj L:Int}{e x:Ent}
def SL(h:c.find aj=some e):e.aj=aj:=by
 unfold Cache.find at h;have:=zb3 h
 simpa using this
def yO(i:Lines c.l)(h0:0<=e.aj)(h:c.find e.aj=some x)(L:Int):(c.put e).1.find L=if L=e.aj then some { e with used:=x.used } else c.find L:=by
 rw [lY i h0 h];unfold Cache.find;simp only [List.find?_map];have j:((λy:Ent=>decide (y.aj=L)) ∘ λy:Ent=>if y.aj=e.aj then { e with used:=x.used } else y)=λy=>decide (y.aj=L):=by
  funext y
  simp only [Function.comp];by_cases g:y.aj=e.aj
  ·simp [g]
  ·simp [g]
 rw [j];by_cases b:L=e.aj
 ·rw [if_pos b,b];unfold Cache.find at h;rw [h];have:=zb3 h;simp only [decide_eq_true_eq] at this;simp [this]
 ·rw [if_neg b];cases k:c.l.find? λy=>decide (y.aj=L) with
  |none=>rfl
  |some y=>
   have:=zb3 k;simp only [decide_eq_true_eq] at this;have d:¬y.aj=e.aj:=λh=>b (this.symm.trans h);simp [d]
def SN(j:Lines c.l)(h0:0<=e.aj)(d:c.find e.aj=none)(g:c.full e.aj=false):∃u,∀L,(c.put e).1.find L=if L=e.aj then some { e with used:=u } else c.find L:=by
 refine⟨c.dh+1,λL=>?_⟩;have i:=zX.2 d;unfold Cache.put;rw [if_neg V,i];simp only [g,zai,if_false];unfold Cache.find at d ⊢;rw [zdO];by_cases b:L=e.aj
 ·rw [if_pos b,b,d];simp
 ·rw [if_neg b];have:¬e.aj=L:=λh=>b h.symm;simp [this]
def Ci(e:Lines c.l)(L:Int):(c.drop aj).find L=if L=aj then none else c.find L:=by
 rw [Iw e];unfold Cache.find;simp only [List.find?_filter];by_cases b:L=aj
 ·rw [if_pos b,zbP];intro y _;simp only [decide_eq_true_eq,ne_eq,decide_not,za4,decide_eq_false_iff_not];rintro⟨g,h⟩;exact g (h.trans b)
 ·rw [if_neg b]
  congr 1
  funext y
  by_cases d:y.aj=L
  ·simp [d,b]
  ·simp [d]
def YS(j:Lines c.l)(h:c.find aj=some e)(L:Int):(c.touch aj).find L=if L=aj then some { e with used:=c.dh+1 } else c.find L:=by
 have g:=SL h;rw [yC j h];unfold Cache.find;simp only [List.find?_map];have k:((λy:Ent=>decide (y.aj=L)) ∘ λy:Ent=>if y.aj=aj then { e with used:=c.dh+1 } else y)=λy=>decide (y.aj=L):=by
  funext y
  simp only [Function.comp];by_cases i:y.aj=aj
  ·simp [i,g]
  ·simp [i]
 rw [k];by_cases b:L=aj
 ·rw [if_pos b,b];unfold Cache.find at h;rw [h];simp [g]
 ·rw [if_neg b];cases m:c.l.find? λy=>decide (y.aj=L) with
  |none=>rfl
  |some y=>
   have:=zb3 m;simp only [decide_eq_true_eq] at this;have d:¬y.aj=aj:=λh=>b (this.symm.trans h);simp [d]
end
section
variable {t:Turns}{aj who id L:Int}
def JQ(h:IC t)(h0:0<=who)(d:t.owner aj=-1)(hw:t.ws aj=[]):(t.ask aj who id).2=true/\(∀L,(t.ask aj who id).1.owner L=if L=aj then who else t.owner L)/\∀L,(t.ask aj who id).1.ws L=t.ws L:=by
 have hd:t.owned aj=false:=by
  cases e:t.owned aj with
  |false=>rfl
  |true=>exact absurd d ((h.owned aj).1 e)
 have g:t.ask aj who id=({ t with gG:=mM t.gG aj who },true):=by
  unfold Turns.ask;rw [if_neg V];simp [hd,hw]
 rw [g];refine⟨rfl,λL=>?_,λL=>rfl⟩;unfold Turns.owner;simp only [iF];by_cases b:L=aj
 ·simp [b]
 ·rw [if_neg b,if_neg (λh=>b h.symm)]
def JR(h:IC t)(h0:0<=who)(b:t.owner aj≠-1∨t.ws aj≠[]):(t.ask aj who id).2=false/\(∀L,(t.ask aj who id).1.owner L=t.owner L)/\∀L,(t.ask aj who id).1.ws L=if L=aj then t.ws aj++[(who,id)] else t.ws L:=by
 have e:t.ask aj who id=({ t with wait:=mM t.wait aj (t.ws aj++[(who,id)]) },false):=by
  unfold Turns.ask;rw [if_neg V,if_pos];rcases b with b|b
  ·rw [(h.owned aj).2 b];simp
  ·simp [b]
 rw [e];refine⟨rfl,λL=>rfl,λL=>?_⟩;unfold Turns.ws;simp only [iF];by_cases d:L=aj
 ·simp [d]
 ·rw [if_neg d,if_neg (λh=>d h.symm)]
def YT(h:IC t)(d:t.owner aj=-1){w:Int × Int}{ws:List (Int × Int)}(hw:t.ws aj=w::ws):(t.next aj).2=some w/\(∀L,(t.next aj).1.owner L=if L=aj then w.1 else t.owner L)/\∀L,(t.next aj).1.ws L=if L=aj then ws else t.ws L:=by
 have hd:t.owned aj=false:=by
  cases e:t.owned aj with
  |false=>rfl
  |true=>exact absurd d ((h.owned aj).1 e)
 have g:t.next aj=({ gG:=mM t.gG aj w.1,wait:=mM t.wait aj ws },some w):=by
  unfold Turns.next
  simp [hd,hw]
 rw [g];refine⟨rfl,λL=>?_,λL=>?_⟩
 ·unfold Turns.owner;simp only [iF];by_cases b:L=aj
  ·simp [b]
  ·rw [if_neg b,if_neg (λh=>b h.symm)]
 ·unfold Turns.ws;simp only [iF];by_cases b:L=aj
  ·simp [b]
  ·rw [if_neg b,if_neg (λh=>b h.symm)]
def Po(h:IC t)(h0:0<=who)(b:t.owner aj=who):(t.release aj who).2=0/\(∀L,(t.release aj who).1.owner L=if L=aj then -1 else t.owner L)/\∀L,(t.release aj who).1.ws L=t.ws L:=by
 have ha:jC t.gG aj=some who:=by
  unfold Turns.owner at b;cases e:jC t.gG aj with
  |none=>rw [e] at b;simp at b;omega
  |some v=>rw [e] at b;simp only [zav] at b;rw [b]
 have g:t.release aj who=({ t with gG:=yU t.gG aj },0):=by
  unfold Turns.release;rw [if_pos ha]
 rw [g];refine⟨rfl,λL=>?_,λL=>rfl⟩;unfold Turns.owner;simp only [Dk h.ok];by_cases d:L=aj
 ·simp [d]
 ·rw [if_neg d,if_neg (λh=>d h.symm)]
end
def LW {dJ:Rows}{aj:Int}{r:Row}(L:Int):jq (mM dJ aj r) L=if L=aj then r else jq dJ L:=by
 unfold jq;rw [iF];by_cases b:L=aj
 ·simp [b]
 ·rw [if_neg b,if_neg (λh=>b h.symm)]
def asY(s:Int):Nat:=if s=1 then 9 else if s=4 then 6 else if s=6 then 0 else 3
def loc(s:Int):Out->Nat
 |.idle=>0
 |.req _=>3
 |.wait=>2
 |.ans _=>if s=3 then 4 else 1
def Dp(d:bM)(o:Out):Nat:=if d.step=0 then 13 else asY d.step+loc d.step o+if d.aS=3∨d.step=6 then 13 else 0
def wt(d:bM)(L:Int)(x:Option Ent):Nat:=if x=none then 0 else if d.aS=3/\d.step≠0/\d.step≠6/\d.aj=L then 3 else 16
def akr {d:bM}{L:Int}{x:Option Ent}:wt d L x<=16:=by
 unfold wt;split
 ·omega
 ·split <;> omega
def acY {d:bM}{L:Int}:wt d L none=0:=rfl
def apO {d:bM}{L:Int}{e:Ent}:3<=wt d L (some e):=by
 unfold wt;rw [if_neg (zdF e)];split <;> omega
def aks {d:bM}{L:Int}{e e':Ent}:wt d L (some e)=wt d L (some e'):=by
 unfold wt;simp
def yg {d:bM}{L:Int}{x:Option Ent}(h:d.step=0∨d.step=6∨d.aj≠L∨d.aS≠3):wt d L x=if x=none then 0 else 16:=by
 unfold wt;split
 ·rfl
 ·rw [if_neg V]
def asZ(s b:Int):Bool:=decide (asY b+3<asY s+if s=3 then 4 else 1)
def ug {d d':bM}{x y:Option Ent}{p q:Pkt}{L:Int}(hk:d'.aS=d.aS)(j:d'.aj=d.aj)(h0:d.step≠0)(g:d.step≠6)(hs:asZ d.step d'.step=true)(k:(d'.step≠6/\d'.step≠0/\y=x)∨(d'.step=6/\d.aS=3/\y=none)):Dp d' (.req q)+wt d' L y<Dp d (.ans p)+wt d L x:=by
 have hs:=of_decide_eq_true hs;have h:loc d'.step (.req q)=3:=rfl;have i:loc d.step (.ans p)=if d.step=3 then 4 else 1:=rfl;rcases k with⟨b,e,rfl⟩|⟨b,e,rfl⟩
 ·have hw:wt d' L y=wt d L y:=by
   unfold wt;rw [hk,j];simp only [h0,g,b,e,ne_eq,not_false_eq_true,true_and]
  rw [hw];unfold Dp;rw [if_neg h0,if_neg e,hk];simp only [b,g,or_false];rw [h,i];omega
 ·rw [acY];unfold Dp;rw [if_neg h0,if_neg V,if_pos (.inr b),if_pos (.inl e)];rw [h,i];omega
def Af(n:Int)(f:Int->Nat):Nat:=((List.range n.toNat).map λj:Nat=>f j).sum
def acZ {f g:Nat->Nat}{i:Nat}:∀{n:Nat},i<n->(∀j,j≠i->g j=f j)->((List.range n).map g).sum+f i=((List.range n).map f).sum+g i
 |0,h,_=>absurd h (zcU i)
 |n+1,h,b=>by
  simp only [zcd,zbi,zcS,zax,zbJ,zbx,List.sum_nil];by_cases e:i=n
  ·subst e;have:(List.range i).map g=(List.range i).map f:=zbt λj d=>b j (by have:=zaW.1 d;omega);rw [this];omega
  ·have:=acZ (f:=f) (g:=g) (n:=n) V b;have:=b n λh=>e h.symm;omega
def Ju {n i:Int}{f g:Int->Nat}(hi:0<=i/\i<n)(h:∀j,j≠i->g j=f j):Af n g+f i=Af n f+g i:=by
 obtain⟨k,rfl⟩:∃k:Nat,i=k:=⟨i.toNat,V⟩
 exact acZ (f:=λj=>f j) (g:=λj=>g j) (i:=k) V λj b=>h j V
def pot(c:Cfg)(lf:Int->Nat)(a:Abs):Nat:=Af c.aB (λj=>33*lf j+Dp (a.aI j) (a.msg j))+Af c.aB λj=>Af c.aY λL=>wt (a.aI j) L (a.ent L j)
def U5 {c:Cfg}{lf b:Int->Nat}{a a':Abs}{i k L:Int}(hi:0<=i/\i<c.aB)(hk:0<=k/\k<c.aB)(o:0<=L/\L<c.aY)(p:∀j,j≠i->b j=lf j/\a'.aI j=a.aI j/\a'.msg j=a.msg j)(m:∀j d,j≠k∨d≠L->wt (a'.aI j) d (a'.ent d j)=wt (a.aI j) d (a.ent d j))
  (w:33*b i+Dp (a'.aI i) (a'.msg i)+wt (a'.aI k) L (a'.ent L k)<33*lf i+Dp (a.aI i) (a.msg i)+wt (a.aI k) L (a.ent L k)):pot c b a'<pot c lf a:=by
 have y:=Ju (f:=λj=>33*lf j+Dp (a.aI j) (a.msg j)) (g:=λj=>33*b j+Dp (a'.aI j) (a'.msg j)) hi λj e=>by
  obtain⟨q,u,v⟩:=p j e;simp only [q,u,v]
 have z:=Ju (f:=λj=>Af c.aY λL=>wt (a.aI j) L (a.ent L j)) (g:=λj=>Af c.aY λL=>wt (a'.aI j) L (a'.ent L j)) hk λj e=>by
  have:(λL=>wt (a'.aI j) L (a'.ent L j))=λL=>wt (a.aI j) L (a.ent L j):=funext λd=>m j d (.inl e);simp only [this]
 have A:=Ju (f:=λL=>wt (a.aI k) L (a.ent L k)) (g:=λL=>wt (a'.aI k) L (a'.ent L k)) o λd h=>m k d (.inr h);unfold pot;omega
end
end Go.Proofs.YtljogojaihgdlaaGreat
