/-
  Own work: an interpreter over named blocks, its soundness, and what the functions of this seat compute (part 9 of 11).
  Conditions: those of the statement alone.
-/
import Derived.Test.YtljogojaihgdlaaGreatJh
set_option linter.all false
set_option linter.unusedSectionVars false
set_option linter.unusedVariables false
set_option linter.unusedSimpArgs false
namespace Go.Proofs.YtljogojaihgdlaaGreat
noncomputable section
section
variable {b:Nat}{H:ah}{g0:bD}{S:Iw}{c:Cfg}{me:Int}{k:Nat}{K K':ah}{g:bD}{ls:Lcl}{w w':NFT}
theorem Vy(f:Fab)(i:Int)(req:Bool):(f.take i req).1.l.length=f.l.length:=by
 unfold Fab.take;split
 ·split
  ·rfl
  ·simp [Fab.put]
 ·rfl
theorem Walk.CU(W:Walk b H g0 S c me k K g ls w)(F:FOk c w.2.1):∃K' g',cl 82 [.ref S.f 0 0,I me] K=some (iD (w.2.1.take me true).2,K')/\Walk b H g0 S c me k K' g' ls (w.1,(w.2.1.take me true).1,w.2.2):=by
 obtain⟨K',g1,h1,h2,h3,h4,h5⟩:=Proofs.YtljogojaihgdlaaGreat.CU W.loc.good W.base W.Ql.fab W.nw.PU F me;obtain⟨g',W'⟩:=W.net h2 h3 (Vy _ _ _) h4 h5;exact⟨K',g',h1,W'⟩
theorem Walk.ML(W:Walk b H g0 S c me k K g ls w)(F:FOk c w.2.1):∃K' g',cl 72 [.ref S.f 0 0,I me] K=some (iD (w.2.1.take me false).2,K')/\Walk b H g0 S c me k K' g' ls (w.1,(w.2.1.take me false).1,w.2.2):=by
 obtain⟨K',g1,h1,h2,h3,h4,h5⟩:=Proofs.YtljogojaihgdlaaGreat.ML W.loc.good W.base W.Ql.fab W.nw.PU F me;obtain⟨g',W'⟩:=W.net h2 h3 (Vy _ _ _) h4 h5;exact⟨K',g',h1,W'⟩
theorem Walk.room(W:Walk b H g0 S c me k K g ls w)(F:FOk c w.2.1)(req:Bool):∃K',cl 79 [.ref S.f 0 0,I me,B req] K=some (I (w.2.1.roomOf me req),K')/\Walk b H g0 S c me k K' g ls w:=by
 obtain⟨K',h1,h2,h3⟩:=ahP W.loc.good W.base W.Ql.fab F me req;exact⟨K',h1,W.same h2 h3⟩
theorem Tq(W:Walk b H g0 S c me k K g ls w)(hc:c.ok=true)(F:vO c w.2.1)(C:COk w.1.aI)(Z:HSz w.1.home):
  ∃K' g',match(if w.2.1.roomOf me false=0 then(w.2.1,none) else w.2.1.take me true) with
   | (f',some p)=> cl 45 [.ref (S.a 0) 0 0,.ref S.f 0 0] K=some (B true,K')/\Walk b H g0 S c me k K' g' ls ((w.1.asked c me f' p).1,(w.1.asked c me f' p).2,w.2.2)
   | (_,none)=> cl 45 [.ref (S.a 0) 0 0,.ref S.f 0 0] K=some (B false,K')/\Walk b H g0 S c me k K' g' ls w:=by
 have W0:=Walk.of W.loc.good W.base W.Ql;have li:=W0.ldN (i:=10) (v:=I me) rfl;obtain⟨K1,a1,W1⟩:=W0.room (fok hc F) false;by_cases hr:w.2.1.roomOf me false=0
 ·simp only [if_pos hr];rw [hr] at a1;obtain⟨g',W'⟩:=W.app (K':=K1) (w':=w) (by
   have:=W1.res;rw [W.len] at this;exact this)
  refine⟨K1,g',bI rfl rfl (acu _ _ _ _ ?_),W'⟩;simp only [xq_,Y8,li,a1]
 ·simp only [if_neg hr];have li1:=W1.ldN (i:=10) (v:=I me) rfl;obtain⟨K2,g2,b1,W2⟩:=W1.CU (fok hc F);obtain⟨F2,Q2⟩:=F.take me true;have W3:=W2.newL (ty:=112) (xs:=zP9) (r:=K2.next) rfl rfl;cases ht:w.2.1.take me true with
  | mk f' po=>
   rw [ht] at b1 W2 W3 F2 Q2;simp only at b1 W2 W3 F2 Q2;obtain⟨K4,u1,u2,W4⟩:=W3.whole ak (n:=9) (vs:=(po.getD .zero).av) rfl (bU _) (by decide) (aS _);simp only [iD] at b1;cases po with
   | none=>
    simp only [za1,zaI] at b1 u1 u2;have hf':f'=w.2.1:=by
     have:=Qn (f:=w.2.1) (i:=me) (req:=true) (by rw [ht]);rw [ht] at this;exact this
    subst hf';obtain⟨g',W'⟩:=W.app (K':=K4) (w':=w) (by
     have:=W4.res;rw [W.len] at this;exact this)
    refine⟨K4,g',bI rfl rfl (acu _ _ _ _ ?_),W'⟩;simp only [xq_,Y8,li,a1,hr,li1,b1,u1,zam]
   | some p=>
    simp only [zat,zaJ] at b1 u1 u2;have Q:=Q2 p rfl;obtain⟨K5,g5,c1,W5⟩:=aaO W4 hc C Z p (Qo Q);have W6:=W5.newL (ty:=112) (xs:=zP9) (r:=K5.next) rfl rfl;obtain⟨K7,u3,u4,W7⟩:=W6.whole ak (n:=9) (vs:=(nI c me w.1 p).2.1.av) rfl (bU _) (by decide) (aS _);simp only [adv];cases hok:(nI c me w.1 p).2.2 with
    | false=>
     rw [hok] at c1;obtain⟨g',W'⟩:=W.app (K':=K7) (w':=((nI c me w.1 p).1,f',w.2.2)) (by
      have:=W7.res;rw [W.len] at this;exact this)
     refine⟨K7,g',bI rfl rfl (acu _ _ _ _ ?_),by simpa using W'⟩;simp only [xq_,Y8,LH,li,a1,hr,li1,b1,u1,u2,zae,c1,u3]
    | true=>
     rw [hok] at c1;obtain⟨K8,g8,d1,W8⟩:=W7.send (fok hc F2) (nI c me w.1 p).2.1 (Qq C Z p);obtain⟨g',W'⟩:=W.app (K':=K8) (w':=((nI c me w.1 p).1,(f'.send (nI c me w.1 p).2.1).1,w.2.2)) (by
      have:=W8.res;rw [W.len] at this;exact this)
     refine⟨K8,g',bI rfl rfl (acu _ _ _ _ ?_),by simpa using W'⟩;simp only [xq_,Y8,LH,li,a1,hr,li1,b1,u1,u2,zae,c1,u3,u4,d1]
theorem aaP(W:Walk b H g0 S c me k K g ls w)(hc:c.ok=true)(F:vO c w.2.1)(Z:HSz w.1.home):
  ∃K' g',if w.1.home.ready≠[]/\w.2.1.roomOf me false≠0 then
    cl 44 [.ref (S.a 0) 0 0,.ref S.f 0 0] K=some (B true,K')/\Walk b H g0 S c me k K' g' ls ({ w.1 with home:=(w.1.home.grant me).1 },(w.2.1.send (w.1.home.grant me).2.1).1,w.2.2)
   else cl 44 [.ref (S.a 0) 0 0,.ref S.f 0 0] K=some (B false,K')/\Walk b H g0 S c me k K' g' ls w:=by
 have W0:=Walk.of W.loc.good W.base W.Ql;have lh:=W0.ldN (i:=11) (v:=.ref (S.a 3) 0 0) rfl;have li:=W0.ldN (i:=10) (v:=I me) rfl;have e1:=Xc W0.loc.good W0.Ql.bn.2.2.2 Z.t;by_cases h1:w.1.home.ready=[]
 ·simp only [if_neg (show¬(w.1.home.ready≠[]/\w.2.1.roomOf me false≠0) from λh=> h.1 h1)];have hd:decide (w.1.home.ready≠[])=false:=by rw [decide_eq_false];exact λh=> h h1
  rw [hd] at e1;refine⟨K,g,bI rfl rfl (agZ _ _ _ _ ?_),W⟩;simp only [xq_,acs,lh,e1,zam]
 ·have hd:decide (w.1.home.ready≠[])=true:=decide_eq_true h1;rw [hd] at e1;obtain⟨K1,a1,W1⟩:=W0.room (fok hc F) false;by_cases hr:w.2.1.roomOf me false=0
  ·simp only [if_neg (show¬(w.1.home.ready≠[]/\w.2.1.roomOf me false≠0) from λh=> h.2 hr)];rw [hr] at a1;obtain⟨g',W'⟩:=W.app (K':=K1) (w':=w) (by
    have:=W1.res;rw [W.len] at this;exact this)
   refine⟨K1,g',bI rfl rfl (agZ _ _ _ _ ?_),W'⟩;simp only [xq_,acs,lh,e1,zae,li,a1]
  ·simp only [if_pos (show w.1.home.ready≠[]/\w.2.1.roomOf me false≠0 from⟨h1,hr⟩)];have lh1:=W1.ldN (i:=11) (v:=.ref (S.a 3) 0 0) rfl;obtain⟨K2,b1,b2,b3⟩:=adr W1.loc.good W1.base W1.Ql.bn.2.2.2 Z.t Z.r;have W2:=W1.home b2 b3;have W3:=W2.newL (ty:=112) (xs:=zP9) (r:=K2.next) rfl rfl;obtain⟨K4,u1,u2,W4⟩:=W3.whole ak (n:=9) (vs:=(w.1.home.grant me).2.1.av) rfl (bU _) (by decide) (aS _);have hsm:(w.1.home.grant me).2.1.data.length < 1000000000:=by
    have z0:(0:Nat) < 1000000000:=by decide
    unfold Home.grant
    repeat' split
    all_goals first | exact z0 | exact Qp Z.r _
   obtain⟨K5,g5,d1,W5⟩:=W4.send (fok hc F) (w.1.home.grant me).2.1 hsm;obtain⟨g',W'⟩:=W.app (K':=K5) (w':=({ w.1 with home:=(w.1.home.grant me).1 },(w.2.1.send (w.1.home.grant me).2.1).1,w.2.2)) (by
    have:=W5.res;rw [W.len] at this;exact this)
   refine⟨K5,g',bI rfl rfl (agZ _ _ _ _ ?_),W'⟩;simp only [xq_,acs,lh,e1,zae,li,a1,hr,lh1,b1,u1,u2,d1]
theorem Walk.aaQ(W:Walk b H g0 S c me k K g ls w)(d:bJ):∃K' g',st 9 (.ref (S.a 0) 0 12) (.agg d.av) K=some (aZ,K')/\Walk b H g0 S c me k K' g' ls ({ w.1 with aF:=d },w.2):=by
 obtain⟨K',h1,h2,h3,_⟩:=W.loc.good.stores W.base (W.loc.obj W.nw.bn.1) (i:=12) (n:=9) (vs:=d.av) (by rw [gW];decide) rfl (bF d);have e:mF (x9 S.a c me w.1.aF w.1.num) 12 d.av=x9 S.a c me d w.1.num:=rfl;rw [e] at h2;exact⟨K',_,h1,W.own h2 h3⟩
theorem Walk.amC(W:Walk b H g0 S c me k K g ls w)(z:Int):∃K' g',st 1 (.ref (S.a 0) 0 21) (I z) K=some (aZ,K')/\Walk b H g0 S c me k K' g' ls ({ w.1 with num:=z },w.2):=by
 obtain⟨K',h1,h2,h3,_⟩:=W.loc.good.store W.base (W.loc.obj W.nw.bn.1) (i:=21) (v:=I z) (by rw [gW];decide) dO;have e:(x9 S.a c me w.1.aF w.1.num).set 21 (.av (I z))=x9 S.a c me w.1.aF z:=rfl;rw [e] at h2;exact⟨K',_,h1,W.own h2 h3⟩
theorem AU(W:Walk b H g0 S c me k K g ls w)(hc:c.ok=true)(F:vO c w.2.1)(hn:0<=w.1.num/\w.1.num < 1000000)(aO aj:Int):
  ∃K' g',cl 88 [.ref (S.a 0) 0 0,.ref S.f 0 0,I aO,I aj] K=some (.tup [],K')/\Walk b H g0 S c me k K' g' ls ((w.1.begin_ c me w.2.1 aO aj).1,(w.1.begin_ c me w.2.1 aO aj).2,w.2.2):=by
 have ln:=W.ldN (i:=21) (v:=I w.1.num) rfl;have e1:=adn K aO aj w.1.num;obtain⟨K1,g1,a1,W1⟩:=W.aaQ (.begin aO aj w.1.num);have ln1:=W1.ldN (i:=21) (v:=I w.1.num) rfl;have w1:=wrap_i64 (a:=w.1.num+1) (by omega) (by omega);have ah1:=BF (P:=Tryz.prog) (k:=.i64) (t:=3) (a:=w.1.num+1) (b:=4096) (by decide);obtain⟨K2,g2,b1,W2⟩:=W1.amC ((w.1.num+1).tmod 4096);obtain⟨K3,g3,d1,W3⟩:=Tf W2 hc (fok hc F) (show(0:Nat) < 1000000000 by decide);refine⟨K3,g3,bI rfl rfl (aoP _ _ _ _ _ _ ?_),W3⟩;simp only [xq_,akp,ln,e1,a1,ln1,dW,w1,ah1,b1,d1]
end
theorem adw:∀(n:Nat) (l:List Int),l.Nodup->(∀x∈l,0<=x/\x < n)->l.length<=n
 | 0,[],_,_=> zac _
 | 0,x::l,_,h=> by have:=h x (by simp);omega
 | n+1,l,hd,h=> by
  by_cases hm:(n:Int)∈l
  ·have h1:=adw n (l.erase n) (hd.erase (n:Int)) λx hx=> by
    have:=(hd.mem_erase_iff).1 hx;have:=h x this.2;omega
   rw [List.length_erase_of_mem hm] at h1;omega
  ·have:=adw n l hd λx hx=> by
    have:=h x hx;have:x≠n:=λe=> hm (e ▸ hx);omega
   omega
theorem cok {c:Cfg}(hc:c.ok=true){ca:Cache}(I:Eo c ca)(hk:ca.bZ < 1000000000):COk ca:=by
 have B:=EM hc;refine⟨?_,by rw [I.sets];exact B.sets.1,⟨I.agL,hk⟩,λe he=> ?_,λe he=> ?_⟩
 ·have h1:(ca.l.map (·.aj)).Nodup:=zcs.2 I.bg;have:=adw c.bg.toNat _ h1 λx hx=> by
   obtain⟨e,he,rfl⟩:=zaG.1 hx;have E:=I.ent e he;have h1:=E.lo;have h2:=E.hi;omega
  rw [zaB] at this;have:=B.bg;omega
 ·have:=(I.ent e he).dat.1;have:=B.dh;omega
 ·have:=I.ent e he;exact⟨this.u0,by have:=this.used;omega⟩
theorem psz {c:Cfg}{p:Proc}(I:agN c p):PSz p:=⟨by have:=I.most;omega,I.vals⟩
theorem hsz {c:Cfg}(hc:c.ok=true){me:Int}{n:Node}(I:Wx c me n)(hw:∀aj,(n.home.aP.ws aj).length < 1000000):HSz n.home:=by
 have B:=EM hc;have hk:∀e∈n.home.aP.wait,0<=e.1/\e.1 < c.bg:=λe he=> by
  have:=I.home.here e he;unfold kN at this;simp only [zah,decide_eq_true_eq] at this;omega
 refine⟨⟨I.home.aP.wk,λe he=> by have:=hk e he;have:=B.bg;omega,?_,hw⟩,λe he=> by have:=(I.dD e he).1;have:=B.dh;omega⟩;have:=adw c.bg.toNat _ I.home.aP.wk λx hx=> by
  obtain⟨e,he,rfl⟩:=zaG.1 hx;have:=hk e he;omega
 rw [zaB] at this;have:=B.bg;omega
section
variable {b:Nat}{H:ah}{g0:bD}{S:Iw}{c:Cfg}{me:Int}{k:Nat}{K K':ah}{g:bD}{ls:Lcl}{w w':NFT}
def ah2(c:Cfg)(me:Int)(n:Node)(f:Fab)(t:List Evn)(o:Opn):NFT:=
 let aj:=c.bV o.addr;let e:=n.aI.find aj
 if o.aO=4/\e=none then((n.done me t 0).1,f,(n.done me t 0).2)
 else if o.aO=4 then((n.begin_ c me f 3 aj).1,(n.begin_ c me f 3 aj).2,t)
 else if e.isSome=true/\(o.aO=1∨(e.getD .zero).cO=true) then
  let n:={ n with aI:=n.aI.touch aj }
  ((n.effect c me t).1,f,(n.effect c me t).2)
 else if n.aI.full aj=true then((n.begin_ c me f 3 ((n.aI.nP aj).getD 0)).1,(n.begin_ c me f 3 ((n.aI.nP aj).getD 0)).2,t)
 else if o.aO=1 then((n.begin_ c me f 1 aj).1,(n.begin_ c me f 1 aj).2,t)
 else((n.begin_ c me f 2 aj).1,(n.begin_ c me f 2 aj).2,t)
theorem ah3(n:Node)(f:Fab)(t:List Evn)(o:Opn):n.work c me f t o=ah2 c me { n with bG:={ n.bG with dU:=true } } f (if n.bG.dU then t else t++[⟨me,n.bG.bf.length,false,0⟩]) o:=rfl
theorem Vz(W:Walk b H g0 S c me k K g ls w)(hc:c.ok=true)(F:vO c w.2.1)(hp:PSz w.1.bG)(CI:Eo c w.1.aI)(hk:w.1.aI.bZ < 1000)(hn:0<=w.1.num/\w.1.num < 1000000)(hl:w.2.2.length < 1000000){r7:Nat}{o:Opn}(h7:ls r7=some o.av):
  ∃K' g',pG cl (.ref (S.a 0) 0 0) (.ref S.f 0 0) (.ref S.t 0 0) (.ref r7 0 0) K=some (B true,K')/\Walk b H g0 S c me k K' g' ls (ah2 c me w.1 w.2.1 w.2.2 o):=by
 have C:=cok hc CI (by omega);have W0:=Walk.of W.loc.good W.base W.Ql;have lc:=W.amy (i:=2) (n:=8) (ys:=c.av) rfl rfl (by decide);have la:=W.loc.ld h7 (i:=1) (v:=I o.addr) rfl;obtain⟨aj,adx⟩:∃aj,c.bV o.addr=aj:=⟨_,rfl⟩
 have el:=PG K c hc o.addr;rw [adx] at el;have l0:=W.ldN (i:=0) (v:=.ref (S.a 1) 0 0) rfl;have ef:=W.find C aj;obtain⟨fo,hfo⟩:∃fo,w.1.aI.find aj=fo:=⟨_,rfl⟩
 rw [hfo] at ef;simp only [oV] at ef;have hr7:r7 < K.next:=W.loc.good.lt (pO h7)
 have W1:=W.newL (ty:=166) (xs:=zE6) (r:=K.next) rfl rfl;obtain⟨K2,u1,u2,W2⟩:=W1.whole ak (n:=6) (vs:=(fo.getD .zero).av) rfl rfl (by decide) (kU _);have k7:iE (iE ls K.next zE6) K.next (fo.getD .zero).av r7=some o.av:=by rw [aA (by omega),aA (by omega)];exact h7
 have lk:=W2.loc.ld k7 (i:=0) (v:=I o.aO) rfl;have ldd:=W2.loc.ld (r:=K.next) (xs:=(fo.getD .zero).av) ak (i:=4) (v:=B (fo.getD .zero).cO) rfl;have l02:=W2.ldN (i:=0) (v:=.ref (S.a 1) 0 0) rfl;have Tt:=P8 W2.loc.good (W2.loc.obj W2.nw.bn.2.1) C.len C.sets aj;have ap8:=SN W2.loc.good (W2.loc.obj W2.nw.bn.2.1) C.len C.sets C.used aj
 -- what is called is called of the bn
 have back:∀{K3:ah} {g3:bD} {w3:NFT},Walk b H g0 S c me k K3 g3 (iE (iE ls K.next zE6) K.next (fo.getD .zero).av) w3->∃g',Walk b H g0 S c me k K3 g' ls w3:=by
  intro K3 g3 w3 W3;refine⟨g3,W3.hb,⟨W3.loc.good.sub λq cs hq=> ?_,λr hr=> ?_⟩,W3.nw,W3.off,W3.step,W3.len⟩
  ·unfold lay at hq ⊢;by_cases hqr:q=K.next
   ·subst hqr;have hnone:ls K.next=none:=by
     cases e:ls K.next with
     | none=> rfl
     | some xs=>
      have:=W.loc.good.lt (pO (g:=g) e);omega
    rw [hnone] at hq;simp only at hq;have:=W3.loc.free K.next (by rw [ak];simp)
    rw [this] at hq;cases hq
   ·rw [aA hqr,aA hqr];exact hq
  ·refine W3.loc.free r ?_;have hne:r≠K.next:=λe=> by
    subst e;cases e2:ls K.next with
    | none=> exact hr e2
    | some xs=>
     have:=W.loc.good.lt (pO (g:=g) e2);omega
   rw [aA hne,aA hne];exact hr
 unfold ah2;simp only [adx,hfo];by_cases h4:o.aO=4
 ·rw [h4] at lk;cases fo with
  | none=>
   rw [if_pos ⟨h4,rfl⟩];obtain⟨K3,g3,a1,W3⟩:=aaK W2 hp hl 0;obtain⟨g',W'⟩:=back W3;refine⟨K3,g',?_,W'⟩;simp only [xq_,pG,lZ,lc,la,el,l0,ef,u1,lk,zaI,zam,a1]
  | some e=>
   rw [if_neg (by simp),if_pos h4];obtain⟨K3,g3,a1,W3⟩:=AU W2 hc F hn 3 aj;obtain⟨g',W'⟩:=back W3;refine⟨K3,g',?_,W'⟩;simp only [Int.reduceEq,xq_,pG,lZ,lc,la,el,l0,ef,u1,lk,zaJ,zae,a1]
 ·rw [if_neg (λh=> h4 h.1),if_neg h4];by_cases hd:fo.isSome=true/\(o.aO=1∨(fo.getD .zero).cO=true)
  ·rw [if_pos hd];obtain⟨e,rfl⟩:=zcZ.1 hd.1;obtain⟨K3,a1,a2,a3⟩:=WU W2.loc.good W2.base (W2.loc.obj W2.nw.bn.2.1) C.len C.clk aj;have W3:=W2.aI a2 a3;have hC:COk (w.1.aI.touch aj):=cok hc (CI.touch hfo) (by rw [Ic CI.bg hfo];omega);obtain⟨K4,g4,b1,W4⟩:=Qm W3 hc hp hC hl;obtain⟨g',W'⟩:=back W4;refine⟨K4,g',?_,W'⟩;by_cases h1:o.aO=1
   ·rw [h1] at lk;simp only [Int.reduceEq,xq_,pG,lZ,lc,la,el,l0,ef,u1,lk,zaJ,a1,l02,b1]
   ·have hdd:=hd.2.resolve_left h1;rw [hdd] at ldd;simp only [xq_,pG,lZ,lc,la,el,l0,ef,u1,lk,h4,h1,ldd,zaJ,a1,l02,b1]
  ·rw [if_neg hd]
   -- the condition
   have hcond:∀(X Y:Option (AV × ah)),(fo.isSome=false)∨(fo.isSome=true/\¬o.aO=1/\(fo.getD .zero).cO=false):=λ_ _=> by
    cases h:fo.isSome with
    | false=> exact .inl rfl
    | true=>
     refine .inr ⟨rfl,λh1=> hd ⟨h,.inl h1⟩,?_⟩;cases h2:(fo.getD .zero).cO with
     | false=> rfl
     | true=> exact absurd ⟨h,.inr h2⟩ hd
   have hcond:=hcond none none;by_cases hfl:w.1.aI.full aj=true
   ·rw [if_pos hfl];rw [hfl] at Tt;obtain⟨K3,g3,a1,W3⟩:=AU W2 hc F hn 3 ((w.1.aI.nP aj).getD 0);obtain⟨g',W'⟩:=back W3;refine⟨K3,g',?_,W'⟩;rcases hcond with hs | ⟨hs,h1,h2⟩
    ·rw [hs] at ef;simp only [xq_,pG,lZ,lc,la,el,l0,ef,u1,lk,h4,l02,Tt,ap8,a1]
    ·rw [hs] at ef;rw [h2] at ldd;simp only [xq_,pG,lZ,lc,la,el,l0,ef,u1,lk,h4,h1,ldd,l02,Tt,ap8,a1]
   ·rw [if_neg hfl];have hff:w.1.aI.full aj=false:=by cases h:w.1.aI.full aj <;> simp_all
    rw [hff] at Tt;by_cases h1:o.aO=1
    ·rw [if_pos h1];obtain⟨K3,g3,a1,W3⟩:=AU W2 hc F hn 1 aj;obtain⟨g',W'⟩:=back W3;refine⟨K3,g',?_,W'⟩;have hs:fo.isSome=false:=hcond.resolve_right λh=> h.2.1 h1;rw [hs] at ef;rw [h1] at lk;simp only [Int.reduceEq,xq_,pG,lZ,lc,la,el,l0,ef,u1,lk,l02,Tt,a1]
    ·rw [if_neg h1];obtain⟨K3,g3,a1,W3⟩:=AU W2 hc F hn 2 aj;obtain⟨g',W'⟩:=back W3;refine⟨K3,g',?_,W'⟩;rcases hcond with hs | ⟨hs,_,h2⟩
     ·rw [hs] at ef;simp only [xq_,pG,lZ,lc,la,el,l0,ef,u1,lk,h4,h1,l02,Tt,a1]
     ·rw [hs] at ef;rw [h2] at ldd;simp only [xq_,pG,lZ,lc,la,el,l0,ef,u1,lk,h4,h1,ldd,l02,Tt,a1]
end
section
variable {b:Nat}{H:ah}{g0:bD}{S:Iw}{c:Cfg}{me:Int}{k:Nat}{K K':ah}{g:bD}{ls:Lcl}{w w':NFT}
theorem Walk.to(W:Walk b H g0 S c me k K g ls w){K':ah}{g1:bD}{l1:Lcl}(W1:Walk b K (lay g ls) S c me w.2.1.l.length K' g1 l1 w'):∃g',Walk b H g0 S c me k K' g' ls w':=
 W.app (by have:=W1.res;rw [W.len] at this;exact this)
theorem aaR(W:Walk b H g0 S c me k K g ls w)(hc:c.ok=true)(F:vO c w.2.1)(NI:Wx c me w.1)(hn:0<=w.1.num/\w.1.num < 1000000)(hl:w.2.2.length < 999999):
  ∃K' g',match w.1.bG.cur with
   | some o=> if w.1.aF.step=0 then cl 46 [.ref (S.a 0) 0 0,.ref S.f 0 0,.ref S.t 0 0] K=some (B true,K')/\Walk b H g0 S c me k K' g' ls (w.1.work c me w.2.1 w.2.2 o)
     else cl 46 [.ref (S.a 0) 0 0,.ref S.f 0 0,.ref S.t 0 0] K=some (B false,K')/\Walk b H g0 S c me k K' g' ls w
   | none=> cl 46 [.ref (S.a 0) 0 0,.ref S.f 0 0,.ref S.t 0 0] K=some (B false,K')/\Walk b H g0 S c me k K' g' ls w:=by
 have P:=psz NI.bG;have anf:w.1.aI.bZ < 1000:=by have:=NI.clk;have:=NI.bG.vals;have:=NI.bG.most;omega
 have W0:=Walk.of W.loc.good W.base W.Ql;have l1:=W0.ldN (i:=1) (v:=.ref (S.a 2) 0 0) rfl;obtain⟨K1,a1,W1⟩:=W0.cur P;have W2:=W1.newL (ty:=53) (xs:=[zI,zI,zI]) (r:=K1.next) rfl rfl;obtain⟨K3,b1,b2,W3⟩:=W2.whole ak (n:=3) (vs:=w.1.bG.op.av) rfl (fG _) (by decide) (rX _);have k7:iE (iE noL K1.next [zI,zI,zI]) K1.next w.1.bG.op.av K1.next=some w.1.bG.op.av:=ak
 have ls3:=W3.ldN (i:=15) (v:=I w.1.aF.step) rfl;cases hcur:w.1.bG.cur with
 | none=>
  rw [hcur] at a1;simp only [zaI] at a1;obtain⟨g',W'⟩:=W.to W3;refine⟨K3,g',bI rfl rfl (acv _ _ _ _ _ ?_),W'⟩;simp only [xq_,Y9,l1,a1,b1,zam]
 | some o=>
  rw [hcur] at a1;simp only [zaJ] at a1;by_cases hs:w.1.aF.step=0;rotate_left
  ·simp only [if_neg hs];obtain⟨g',W'⟩:=W.to W3;refine⟨K3,g',bI rfl rfl (acv _ _ _ _ _ ?_),W'⟩;simp only [Nat.reduceAdd,xq_,Y9,l1,a1,b1,zae,zam,ls3,hs]
  ·simp only [if_pos hs];rw [hs] at ls3;have hop:w.1.bG.op=o:=by simp only [Proc.op,hcur,zat]
   have hidx:w.1.bG.idx=w.1.bG.bf.length:=by simp only [Proc.idx,hcur]
   have lp:=W3.ldN (i:=1) (v:=.ref (S.a 2) 0 0) rfl;have eb:=Z8 W3.loc.good (W3.loc.obj W3.nw.bn.2.2.1);rw [ah3];cases hbg:w.1.bG.dU with
   | true=>
    rw [hbg] at eb;have he:({ w.1 with bG:={ w.1.bG with dU:=true } }:Node)=w.1:=by
     rcases hw:w.1 with⟨ca,pr,ho,de,nu⟩
     rw [hw] at hbg;simp only at hbg;rcases pr with⟨x1,x2,x3⟩
     simp only at hbg;subst hbg;rfl
    rw [he];simp only [if_true];obtain⟨K4,g4,c1,W4⟩:=Vz W3 hc F P NI.aI anf hn (by omega) (o:=w.1.bG.op) k7;rw [hop] at W4;obtain⟨g',W'⟩:=W.to W4;refine⟨K4,g',bI rfl rfl (acv _ _ _ _ _ ?_),W'⟩;simp only [Nat.reduceAdd,xq_,Y9,l1,a1,b1,zae,ls3,lp,eb,c1]
   | false=>
    rw [hbg] at eb;simp only [zaf,if_false];obtain⟨v,K4,d1,d2,d3⟩:=aaH W3.loc.good W3.base (W3.loc.obj W3.nw.bn.2.2.1) P.ops (by have:=P.ops;have:=P.vals;omega) P.vals;have hbp:w.1.bG.zX={ w.1.bG with dU:=true }:=by
     unfold Proc.zX;rw [if_neg (by rw [hbg,hcur];simp)]
    rw [hbp] at d2;have W4:=W3.bG d2 d3;have li:=W4.ldN (i:=10) (v:=I me) rfl;obtain⟨K5,g5,e1,W5⟩:=W4.amA (show w.2.2.length < 1000000 by omega) me w.1.bG.idx;obtain⟨K6,g6,c1,W6⟩:=Vz W5 hc F (show PSz ({ w.1.bG with dU:=true }:Proc) from⟨P.ops,P.vals⟩) NI.aI anf hn (by simp only [zao,zal,zan];omega) (o:=w.1.bG.op) k7;rw [hop,hidx] at W6;obtain⟨g',W'⟩:=W.to W6;refine⟨K6,g',bI rfl rfl (acv _ _ _ _ _ ?_),W'⟩;simp only [Nat.reduceAdd,xq_,Y9,l1,a1,b1,zae,zam,ls3,lp,eb,d1,li,e1,c1]
theorem Xf(W:Walk b H g0 S c me k K g ls w)(hc:c.ok=true)(F:vO c w.2.1)(NI:Wx c me w.1)(hl:w.2.2.length < 999999)(hdd:w.1.aF.data.length < 1000000000):
  ∃K' g',match w.2.1.take me false with
   | (f',some p)=> cl 43 [.ref (S.a 0) 0 0,.ref S.f 0 0,.ref S.t 0 0] K=some (B true,K')/\Walk b H g0 S c me k K' g' ls (w.1.answered c me f' w.2.2 p)
   | (_,none)=> cl 43 [.ref (S.a 0) 0 0,.ref S.f 0 0,.ref S.t 0 0] K=some (B false,K')/\Walk b H g0 S c me k K' g' ls w:=by
 have P:=psz NI.bG;have Bd:=EM hc;have anf:w.1.aI.bZ < 1000:=by have:=NI.clk;have:=NI.bG.vals;have:=NI.bG.most;omega
 have C:=cok hc NI.aI (by omega);have W0:=Walk.of W.loc.good W.base W.Ql;have li:=W0.ldN (i:=10) (v:=I me) rfl;obtain⟨K1,g1,a1,W1⟩:=W0.ML (fok hc F);obtain⟨F1,Q1⟩:=F.take me false;have W2:=W1.newL (ty:=112) (xs:=zP9) (r:=K1.next) rfl rfl;cases ht:w.2.1.take me false with
 | mk f' po=>
  rw [ht] at a1 W1 W2 F1 Q1;simp only at a1 W1 W2 F1 Q1;obtain⟨K3,u1,u2,W3⟩:=W2.whole ak (n:=9) (vs:=(po.getD .zero).av) rfl (bU _) (by decide) (aS _);simp only [iD] at a1;cases po with
  | none=>
   simp only [za1,zaI] at a1 u1 u2;have hf':f'=w.2.1:=by
    have:=Qn (f:=w.2.1) (i:=me) (req:=false) (by rw [ht]);rw [ht] at this;exact this
   subst hf';obtain⟨g',W'⟩:=W.to W3;refine⟨K3,g',bI rfl rfl (WE _ _ _ _ _ ?_),W'⟩;simp only [xq_,LG,li,a1,u1,zam]
  | some p=>
   simp only [zat,zaJ] at a1 u1 u2;have Q:=Q1 p rfl;obtain⟨K4,g4,b1,W4⟩:=ads W3 C hdd p (Qo Q);unfold Node.answered;obtain⟨ca,d,ok,hA⟩:∃ca d ok,w.1.after me p=(ca,d,ok):=⟨_,_,_,rfl⟩
   rw [hA] at b1 W4;simp only [tV] at b1 W4;simp only [hA];have W5:=W4.newL (ty:=44) (xs:=zD9) (r:=K4.next) rfl rfl;obtain⟨K6,u3,u4,W6⟩:=W5.whole ak (n:=9) (vs:=d.av) rfl rfl (by decide) (bF d);cases ok with
   | false=>
    simp only [if_true];obtain⟨g',W'⟩:=W.to W6;refine⟨K6,g',bI rfl rfl (WE _ _ _ _ _ ?_),W'⟩;simp only [xq_,LG,li,a1,u1,u2,zae,b1,u3,zam]
   | true=>
    simp only [zbx,if_false];have hs:w.1.aF.step≠0:=λh0=> by
     have hf:w.1.aF.fits p=false:=by unfold bJ.fits;rw [h0];simp [zS,BK]
     rw [rQ,AQ hf] at hA;simp [vN] at hA
    have NX:=MR NI.aI (NI.aF hs) hs Q (by rw [<-rQ];exact hA);have hd2:d.data.length < 1000000000:=by
     rcases NX.dat with h | h
     ·rw [h];decide
     ·have:=h.1;have:=Bd.dh;omega
    have hck:ca.bZ < 1000000000:=by rcases NX.clk with h | h <;> omega
    have C2:COk ca:=cok hc NX.inv hck;obtain⟨K7,g7,c1,W7⟩:=W6.aaQ d;have lp:=W7.ldN (i:=1) (v:=.ref (S.a 2) 0 0) rfl;obtain⟨K8,d1,W8⟩:=W7.cur P;have W9:=W8.newL (ty:=53) (xs:=[zI,zI,zI]) (r:=K8.next) rfl rfl;obtain⟨K10,u5,u6,W10⟩:=W9.whole ak (n:=3) (vs:=w.1.bG.op.av) rfl (fG _) (by decide) (rX _);have hlt:K4.next < K8.next:=W8.loc.good.lt (q:=K4.next) (pO (g:=g7) ak)
    have k9:iE (iE (iE (iE (iE (iE noL K1.next zP9) K1.next p.av) K4.next zD9) K4.next d.av) K8.next [zI,zI,zI]) K8.next w.1.bG.op.av K4.next=some d.av:=by
     rw [aA (by omega),aA (by omega),ak]
    have l3:=W10.loc.ld k9 (i:=3) (v:=I d.step) rfl;have l0:=W10.loc.ld k9 (i:=0) (v:=I d.aO) rfl;have lo:=W10.loc.ld (r:=K8.next) (xs:=w.1.bG.op.av) ak (i:=0) (v:=I w.1.bG.op.aO) rfl;by_cases h0:d.step=0
    ·simp only [if_pos h0];rw [h0] at l3;by_cases hf:d.aO=3/\w.1.bG.op.aO=4
     ·simp only [if_pos hf];rw [hf.1] at l0;rw [hf.2] at lo;obtain⟨K11,g11,e1,W11⟩:=aaK W10 P (show w.2.2.length < 1000000 by omega) 0;obtain⟨g',W'⟩:=W.to W11;refine⟨K11,g',bI rfl rfl (WE _ _ _ _ _ ?_),W'⟩;simp only [Int.reduceEq,xq_,LG,li,a1,u1,u2,zae,b1,u3,u4,c1,lp,d1,u5,l3,l0,lo,e1]
     ·simp only [if_neg hf];obtain⟨g',W'⟩:=W.to W10;refine⟨K10,g',bI rfl rfl (WE _ _ _ _ _ ?_),W'⟩;by_cases hk:d.aO=3
      ·have ho:¬w.1.bG.op.aO=4:=λh=> hf ⟨hk,h⟩;rw [hk] at l0;simp only [Int.reduceEq,xq_,LG,li,a1,u1,u2,zae,b1,u3,u4,c1,lp,d1,u5,l3,l0,lo,ho]
      ·simp only [Int.reduceEq,xq_,LG,li,a1,u1,u2,zae,b1,u3,u4,c1,lp,d1,u5,l3,l0,hk]
    ·simp only [if_neg h0];by_cases h6:d.step=6/\d.aO≠3
     ·simp only [if_pos h6];rw [h6.1] at l3;have hk:=h6.2;simp only [ne_eq] at hk;obtain⟨K11,g11,e1,W11⟩:=Qm W10 hc P C2 (show w.2.2.length < 1000000 by omega);obtain⟨K12,g12,e2,W12⟩:=Tf W11 hc (fok hc F1) hd2;obtain⟨g',W'⟩:=W.to W12;refine⟨K12,g',bI rfl rfl (WE _ _ _ _ _ ?_),W'⟩;simp only [Int.reduceEq,xq_,LG,GR,li,a1,u1,u2,zae,b1,u3,u4,c1,lp,d1,u5,l3,l0,hk,zam,e1,e2]
     ·simp only [if_neg h6];obtain⟨K12,g12,e2,W12⟩:=Tf W10 hc (fok hc F1) hd2;obtain⟨g',W'⟩:=W.to W12;refine⟨K12,g',bI rfl rfl (WE _ _ _ _ _ ?_),W'⟩;by_cases h66:d.step=6
      ·have hk:d.aO=3:=Classical.byContradiction λh=> h6 ⟨h66,h⟩;rw [h66] at l3;rw [hk] at l0;simp only [Int.reduceEq,xq_,LG,GR,li,a1,u1,u2,zae,b1,u3,u4,c1,lp,d1,u5,l3,l0,zae,e2]
      ·simp only [xq_,LG,GR,li,a1,u1,u2,zae,b1,u3,u4,c1,lp,d1,u5,l3,h0,h66,e2]
theorem VA(W:Walk b H g0 S c me k K g ls w)(hc:c.ok=true)(F:vO c w.2.1)(NI:Wx c me w.1)(hn:0<=w.1.num/\w.1.num < 1000000)(hl:w.2.2.length < 999999)(hdd:w.1.aF.data.length < 1000000000)(hw:∀aj,(w.1.home.aP.ws aj).length < 1000000):
  ∃K' g',cl 13 [.ref (S.a 0) 0 0,.ref S.f 0 0,.ref S.t 0 0] K=some (I (w.1.step c me w.2.1 w.2.2).2,K')/\Walk b H g0 S c me k K' g' ls (w.1.step c me w.2.1 w.2.2).1:=by
 have Z:=hsz hc NI hw;have C:=cok hc NI.aI (by have:=NI.clk;have:=NI.bG.vals;have:=NI.bG.most;omega);unfold Node.step;obtain⟨K1,g1,h1⟩:=Xf W hc F NI hl hdd;cases ht:w.2.1.take me false with
 | mk f' po=>
  rw [ht] at h1;cases po with
  | some p=>
   obtain⟨a1,W1⟩:=h1;refine⟨K1,g1,bI rfl rfl (WC _ _ _ _ _ ?_),W1⟩;simp only [xq_,Sm,a1]
  | none=>
   obtain⟨a1,W1⟩:=h1;simp only;obtain⟨K2,g2,h2⟩:=aaP W1 hc F Z;by_cases hg:w.1.home.ready≠[]/\w.2.1.roomOf me false≠0
   ·rw [if_pos hg] at h2 ⊢;obtain⟨a2,W2⟩:=h2;refine⟨K2,g2,bI rfl rfl (WC _ _ _ _ _ ?_),W2⟩;simp only [xq_,Sm,a1,a2]
   ·rw [if_neg hg] at h2 ⊢;obtain⟨a2,W2⟩:=h2;obtain⟨K3,g3,h3⟩:=Tq W2 hc F C Z;cases hr:(if w.2.1.roomOf me false=0 then(w.2.1,none) else w.2.1.take me true) with
    | mk f2 po2=>
     rw [hr] at h3;cases po2 with
     | some p=>
      obtain⟨a3,W3⟩:=h3;refine⟨K3,g3,bI rfl rfl (WC _ _ _ _ _ ?_),W3⟩;simp only [xq_,Sm,a1,a2,a3]
     | none=>
      obtain⟨a3,W3⟩:=h3;simp only;obtain⟨K4,g4,h4⟩:=aaR W3 hc F NI hn hl;cases hcu:w.1.bG.cur with
      | none=>
       rw [hcu] at h4;obtain⟨a4,W4⟩:=h4;refine⟨K4,g4,bI rfl rfl (WC _ _ _ _ _ ?_),W4⟩;simp only [xq_,Sm,a1,a2,a3,a4]
      | some o=>
       rw [hcu] at h4;simp only at h4 ⊢;by_cases hs:w.1.aF.step=0
       ·rw [if_pos hs] at h4 ⊢;obtain⟨a4,W4⟩:=h4;refine⟨K4,g4,bI rfl rfl (WC _ _ _ _ _ ?_),W4⟩;simp only [xq_,Sm,a1,a2,a3,a4]
       ·rw [if_neg hs] at h4 ⊢;obtain⟨a4,W4⟩:=h4;refine⟨K4,g4,bI rfl rfl (WC _ _ _ _ _ ?_),W4⟩;simp only [xq_,Sm,a1,a2,a3,a4]
end
theorem ady {H:ah}{r:Nat}{o:fV}(h:H.get r=o):H.put r o=H:=by
 subst h;unfold ah.put;have:(λx=> if x=r then H.get r else H.get x)=H.get:=by
  funext x
  split
  ·rename_i e;rw [e]
  ·rfl
 rw [this]
theorem ah4 {H:ah}{r:Nat}{o o':fV}:(H.put r o).put r o'=H.put r o':=by
 unfold ah.put
 congr 1
 funext x
 simp only;split <;> rfl
def rZ(bit mask:Int)(i:Nat)(l:List By):List By:=l.mapIdx λj c=> if j < i then c ^^^ uN bit mask j else c
theorem qN(bit mask:Int)(i:Nat)(l:List By):(rZ bit mask i l).length=l.length:=by simp [rZ]
theorem Xg(bit mask:Int)(l:List By):rZ bit mask 0 l=l:=by
 unfold rZ
 apply zbf
 intro i;rw [zbd];cases l[i]? <;> simp
theorem aaS(bit mask:Int)(l:List By):rZ bit mask l.length l=qF bit mask l:=by
 unfold rZ qF
 apply zbf
 intro i;rw [zbd,zbd];cases h:l[i]? with
 | none=> rfl
 | some c=> simp [(zai.1 h).1]
theorem Qr(bit mask:Int){i:Nat}{l:List By}{c:By}(h:l[i]?=some c):(rZ bit mask i l)[i]?=some c:=by
 unfold rZ;rw [zbd,h];simp
theorem JZ(bit mask:Int){i:Nat}{l:List By}{c:By}(h:l[i]?=some c):rZ bit mask (i+1) l=(rZ bit mask i l).set i (c ^^^ uN bit mask i):=by
 apply zbf
 intro j;have hi:=(zai.1 h).1;unfold rZ;rw [zbd,zcK,zbd,zdy];by_cases e:i=j
 ·subst e;rw [if_pos rfl,if_pos hi,h];simp
 ·rw [if_neg e];cases hj:l[j]? with
  | none=> rfl
  | some d=>
   simp only [zak]
   congr 1
   by_cases h1:j < i
   ·rw [if_pos h1,if_pos (by omega)]
   ·rw [if_neg h1,if_neg (by omega)]
theorem CY(bit mask:Int){i:Nat}{l:List By}{c:By}(h:l[i]?=some c)(hm:uN bit mask i=0#8):rZ bit mask (i+1) l=rZ bit mask i l:=by
 rw [JZ bit mask h,hm,zdl]
 apply zbf
 intro j;rw [zcK];split
 ·rename_i e;subst e;split
  ·rw [Qr bit mask h]
  ·rename_i hh;rw [zaH (by omega)]
 ·rfl
theorem Xh {K0:ah}{r n:Nat}{l:List By}{bit mask:Int}(hb:vT bit)(h0:0<=mask)(h1:mask<=65535)(hs:l.length < 1000)(hr:r < K0.next)(hbase:K0.base<=r):
  ∀(k i:Nat),i+k=l.length->LV cl0 [I bit,.s (.int .u16 mask),.sl r 0 0 1 l.length l.length false,I l.length,I i] (K0.put r (.blk 0 (5+gQ) ((rZ bit mask i l).map Y)))
   =some (.sl r 0 0 1 l.length l.length false,K0.put r (.blk 0 (5+gQ) ((rZ bit mask l.length l).map Y))):=by
 obtain⟨hb1,hb2⟩:=hb;intro k
 induction k with
 | zero=>
  intro i hi;have h1:¬((i:Int) < l.length):=by omega
  obtain rfl:i=l.length:=by omega
  rw [Zh];simp only [Int.reduceNeg,xq_,h1]
 | succ k ih=>
  intro i hi;have h2:(i:Int) < l.length:=by omega
  have h6:(i:Int)+1=((i+1:Nat):Int):=by omega
  have h7:=wrap_i64 (a:=((i+1:Nat):Int)) (by omega) (by omega);obtain⟨c,hc⟩:∃c,l[i]?=some c:=⟨_,zab (by omega)⟩
  have w8:=wrap_i64 (a:=8*(i:Int)) (by omega) (by omega);have ihn:=ih (i+1) (by omega);rw [Zh];by_cases hov:8*(i:Int) - bit < 9223372036854775808
  ·have wd:=wrap_i64 (a:=8*(i:Int) - bit) (by omega) (by omega);by_cases hA:8*(i:Int) - bit<=-8
   ·have hm:uN bit mask i=0#8:=by unfold uN;rw [if_pos (.inl hA)]
    rw [CY bit mask hc hm] at ihn;simp only [Int.reduceNeg,xq_,h2,oZ,w8,jw,wd,hA,Ce,dW,h6,h7,ihn]
   by_cases hB:16<=8*(i:Int) - bit
   ·have hm:uN bit mask i=0#8:=by unfold uN;rw [if_pos (.inr hB)]
    rw [CY bit mask hc hm] at ihn;simp only [Int.reduceNeg,xq_,h2,oZ,w8,jw,wd,hA,hB,Ce,dW,h6,h7,ihn]
   have hd:∃d:Int,8*(i:Int) - bit=d/\-8 < d/\d < 16:=⟨_,rfl,by omega,by omega⟩
   obtain⟨d,hd,hd1,hd2⟩:=hd;have wd8:=wrap_i64 (a:=d+8) (by omega) (by omega);have wdd:=wrap_i64 (a:=d) (by omega) (by omega);have ds:¬(d<=-8):=by omega
   have db:¬(16<=d):=by omega
   obtain⟨m,rfl⟩:∃m:Nat,mask=m:=⟨mask.toNat,by omega⟩
   have arw:AV.s (.int .u16 (m:Int))=U16 (BitVec.ofNat 16 m):=by
    have hv:(((BitVec.ofNat 16 m).toNat:Nat):Int)=m:=by rw [zcl,zch (by omega)]
    show AV.s (.int .u16 (m:Int))=AV.s (.int .u16 (((BitVec.ofNat 16 m).toNat:Nat):Int));rw [hv]
   let K:ah:=K0.put r (.blk 0 (5+gQ) ((rZ bit m i l).map Y));have byK:dG K (.sl r 0 0 1 l.length l.length false) (rZ bit m i l):=by
    refine⟨⟨by simp,rfl,(qN ..).symm,⟨hr,zac _⟩,_,_,tJ,?_,?_⟩,by rw [qN];exact hs⟩
    ·rw [zaB,qN];omega
    ·rw [qN,zbR,zaP,zaA (by rw [zaB,qN];exact zac _)]
   have s1:ix 1 (.sl r 0 0 1 l.length l.length false) (I i) K=some (.ref r 0 i,K):=by
    have:=byK.ix (i:=i) (by rw [qN];omega)
    simpa [eP] using this
   have s2:ld (.ref r 0 i) K=some (Y c,K):=by
    have:=byK.ld (Qr bit m hc)
    simpa [eP] using this
   have e1:cv 50 234 (.s (.int .u16 (m:Int))) K=some (U32 (BitVec.ofNat 32 m),K):=by
    refine(YA (k:=.u16) (n:=(m:Int)) (H:=K)).trans ?_;rw [Ai (k:=.u32) rfl];rfl
   let u1:BitVec 32:=BitVec.ofNat 32 m <<< 8;let u2:BitVec 32:=u1 <<< (d+8).toNat;have e2:bi .shl 234 (U32 (BitVec.ofNat 32 m)) (.s (.int .u64 8))=some (U32 u1):=Y3 (k:=.u32) rfl _ 8 (by decide) (by decide);have e3:bi .shl 234 (U32 u1) (I (d+8))=some (U32 u2):=Y3 (k:=.u32) rfl u1 (d+8) (by omega) (show d+8<=(32:Int) by omega);have e4:bi .shr 234 (U32 u2) (.s (.int .u64 24))=some (U32 (u2 >>> 24)):=agR (k:=.u32) u2 24 (by decide) (by decide);have e5:cv 234 5 (U32 (u2 >>> 24)) K=some (Y ((u2 >>> 24).setWidth 8),K):=
    (ab4 (k:=.u32) (n:=((u2 >>> 24).toNat:Int)) (H:=K)).trans (congrArg (λv=> some (v,K)) (ajH (k:=.u32) (k':=.u8) rfl _))
   have hm:(u2 >>> 24).setWidth 8=uN bit m i:=by
    unfold uN;rw [if_neg (by rw [hd];omega),hd];rfl
   rw [hm] at e5;have e6:bi .xor 5 (Y c) (Y (uN bit m i))=some (Y (c ^^^ uN bit m i)):=agQ (k:=.u8) rfl _ _;have e7:st 1 (.ref r 0 i) (Y (c ^^^ uN bit m i)) K=some (aZ,K0.put r (.blk 0 (5+gQ) ((rZ bit m (i+1) l).map Y))):=by
    refine(Uy (H:=K) (r:=r) (gg:=0) (off:=i) (ty:=5+gQ) (xs:=(rZ bit m i l).map Y) (v:=Y (c ^^^ uN bit m i)) dO tJ hbase (by rw [zaB,qN];omega)).trans ?_;show some (aZ,(K0.put r _).put r _)=_;rw [ah4,JZ bit m hc,List.map_set]
   simp only [K] at s1 s2 e1 e5 e7;simp only [Int.reduceNeg,xq_,h2,oZ,w8,jw,hd,wdd,ds,db,s1,s2,e1,e2,e3,e4,e5,e6,e7,wd8,Ce,dW,h6,h7,ihn]
  ·have wd:IntKind.i64.wrap (8*(i:Int) - bit)=8*(i:Int) - bit - 18446744073709551616:=by
    simp only [IntKind.wrap,IntKind.signed,IntKind.bits];simp;omega
   have hA:8*(i:Int) - bit - 18446744073709551616<=-8:=by omega
   have hm:uN bit mask i=0#8:=by unfold uN;rw [if_pos (.inr (by omega))]
   rw [CY bit mask hc hm] at ihn;simp only [Int.reduceNeg,xq_,h2,oZ,w8,jw,wd,hA,Ce,dW,h6,h7,ihn]
theorem amD {H:ah}(hb:H.base<=H.next){x:AV}{l:List By}(hx:dG H x l)(hl:l≠[]){bit mask:Int}(hbit:vT bit)(h0:0<=mask)(h1:mask<=65535):
  ∃r H',cl0 95 [x,I bit,.s (.int .u16 mask)] H=some (.sl r 0 0 1 l.length l.length false,H')/\Gro H H'/\dG H' (.sl r 0 0 1 l.length l.length false) (qF bit mask l)/\H'.base<=H'.next:=by
 let H1:=H.new (.blk 0 5 []);let K0:=H1.new (.blk 0 (5+gQ) (l.map Y));have e1:=ZV hx hl;have n1:H1.next=H.next+1:=fE
 have n2:K0.next=H.next+1+1:=by simp only [K0,fE,n1]
 have g:Gro H K0:=(Gro.new H 0 _ _).trans (Gro.new H1 0 _ _);have at_:K0.get (H.next+1)=.blk 0 (5+gQ) (l.map Y):=bC n1.symm;have ps:K0.put (H.next+1) (.blk 0 (5+gQ) ((rZ bit mask 0 l).map Y))=K0:=by rw [Xg];exact ady at_
 have lp:=Xh (K0:=K0) (r:=H.next+1) (n:=0) (l:=l) hbit h0 h1 hx.small (by omega) (by rw [g.base];omega) l.length 0 (by omega);rw [ps] at lp;have ln:lnS (.sl (H.next+1) 0 0 1 l.length l.length false) K0=some (I l.length,K0):=rfl;refine⟨H.next+1,K0.put (H.next+1) (.blk 0 (5+gQ) ((rZ bit mask l.length l).map Y)),iG (aoZ _ _ _ _ _ ?_),g.put (by omega),?_,by show K0.base<=K0.next;rw [g.base];omega⟩
 ·simp only [xq_,aku,e1];exact lp
 ·rw [aaS];refine⟨⟨by simp,rfl,(jd ..).symm,⟨by show H.next+1 < K0.next;omega,zac _⟩,_,_,tJ,?_,?_⟩,by rw [jd];exact hx.small⟩
  ·rw [zaB,jd];omega
  ·rw [jd,zbR,zaP,zaA (by rw [zaB,jd];exact zac _)]
theorem apq(c:By):yOf (Y c)=some c:=by
 have h:=c.isLt;show(if(0:Int)<=(c.toNat:Int)/\(c.toNat:Int) < 256 then some (BitVec.ofInt 8 (c.toNat:Int)) else none)=some c;rw [if_pos ⟨by omega,by omega⟩,qG]
theorem afU:∀l:List By,(l.map Y).mapM yOf=some l
 | []=> rfl
 | c::l=> by rw [zaz,zbm,apq,afU l];rfl
theorem Xi {H:ah}{r n:Nat}{l:List By}(hn:l.length=n)(h:dG H (.sl r 0 0 1 n n false) l)(h0:0 < n)(h8:n<=800):GK (.sl r 0 0 1 n n false) H=some l:=by
 subst hn;obtain⟨⟨hl,_,_,⟨hr,_⟩,ty,all,h2,h3,h4⟩,hs⟩:=h;rw [zbR] at h4 h3;simp only [GK,h2];rw [if_pos ⟨trivial,trivial,h3,h0,h8⟩,<-h4];exact afU l
theorem Qs(p:Pkt):(rY p).length=12+8*p.data.length:=by
 rw [rE];rfl
theorem aaT {H:ah}{r:Nat}{p:Pkt}(hp:p.fit){bit mask:Int}(h0:0<=mask)(h1:mask<=65535){n:Nat}(hn:n=(rY p).length)(h:dG H (.sl r 0 0 1 n n false) (qF bit mask (rY p))):
  cl 94 [.sl r 0 0 1 n n false] H=some (if aP p.bytes bit mask=true then .tup [.agg Pkt.zero.av,I 2] else .tup [.agg p.av,I 0],H):=by
 refine FQ (p:=Cc) rfl ?_;have ok:=hp.ok;simp only [Pkt.ok,zah,decide_eq_true_eq] at ok;have hlen:=Qs p;unfold Cc;simp only [Xi (by rw [jd,hn]) h (by omega) (by omega)];by_cases ht:aP p.bytes bit mask=true
 ·rw [if_pos ht];have hne:∀y,qF bit mask (rY p)≠jJ y:=λy=> Sj h0 h1 (by
   have:(jJ (fF p)).length=p.bytes:=rE p;rw [this];exact ht)
  rw [dif_neg (λ⟨q,_,hq⟩=> hne _ hq.symm),if_pos hne]
 ·rw [if_neg ht];have he:qF bit mask (rY p)=rY p:=WB h0 h1 (by rw [rE];simpa using ht);have hex:∃q:Pkt,q.fit/\rY q=qF bit mask (rY p):=⟨p,hp,he.symm⟩
  rw [dif_pos hex];have hs:=Classical.choose_spec hex;have:Classical.choose hex=p:=adb hs.1 hp (hs.2.trans he);rw [this]
theorem VB(p:Pkt)(n:Int):Frz 9 (.tup [.agg p.av,I n]):=uI λx hx=> by
 simp only [zaj,zaw,or_false] at hx;rcases hx with rfl | rfl
 ·exact nG λx hx=> by
   simp only [Pkt.av,zaj,zaw,or_false] at hx;rcases hx with rfl | rfl | rfl | rfl | rfl | rfl | rfl | rfl | rfl <;> first | exact iZ | exact uJ
 ·exact iZ
theorem ah5(H:ah){p:Pkt}(hp:p.fit){bit mask:Int}(hbit:vT bit)(h0:0<=mask)(h1:mask<=65535):
  cl 48 [.agg p.av,I bit,.s (.int .u16 mask)] H=some (if aP p.bytes bit mask=true then .tup [.agg Pkt.zero.av,I 2] else .tup [.agg p.av,I 0],H):=by
 have ax:p.av=p.avx (dat p.data):=rfl;let o1:fV:=.blk 0 112 p.av;let o2:fV:=.blk 0 112 zPk;let K:=(H.guard.new o1).new o2;have hlen:=Qs p;have hK:K.base<=K.next:=by simp only [K,jC,fE];exact(by omega:H.next<=H.next+1+1)
 obtain⟨y,K1,e1,g1,b1,hb1⟩:=ama hK p (pY K p.data) hp.ok;rw [<-ax] at e1;have e1':cl 93 [.agg p.av] K=some (.tup [y,I 0],K1):=FQ (p:=cl0 93) rfl e1;obtain⟨r,K2,e2,g2,b2,hb2⟩:=amD hb1 b1 (bit:=bit) (mask:=mask) (λe=> by rw [e] at hlen;simp at hlen;omega) hbit h0 h1;have e2':cl 95 [y,I bit,.s (.int .u16 mask)] K1=some (_,K2):=FQ (p:=cl0 95) rfl e2;have e3:=aaT hp h0 h1 rfl b2;have hR:K2.get (H.next+1)=o2:=by
  rw [g2.same _ (zay (show H.next+1 < K.next by simp only [K,fE];exact zc8 _) g1.next),g1.same _ (by simp only [K,fE];exact zc8 _)];exact bC rfl
 have hbase:K2.base<=H.next+1:=by
  rw [g2.base,g1.base];exact za3 _
 have key:∀q:Pkt,st 9 (.ref (H.next+1) 0 0) (.agg q.av) K2=some (aZ,K2.put (H.next+1) (.blk 0 112 q.av))/\lda 9 (.ref (H.next+1) 0 0) (K2.put (H.next+1) (.blk 0 112 q.av))=some (.agg q.av,K2.put (H.next+1) (.blk 0 112 q.av)):=λq=> by
  refine⟨?_,(gZ (off:=0) (n:=9) tJ (zac _)).trans rfl⟩;rw [Uz (aS _) (show q.av.length=9 from rfl) hR hbase (by decide)];rfl
 have l1:lda 9 (.ref H.next 0 0) K=some (.agg p.av,K):=by
  have:K.get H.next=.blk 0 112 p.av:=by
   simp only [K];rw [eG (by rw [fE];exact zc8 _)];exact bC rfl
  exact(gZ (off:=0) (n:=9) this (zac _)).trans rfl
 by_cases ht:aP p.bytes bit mask=true
 ·rw [if_pos ht] at e3 ⊢;refine dJ rfl rfl (ajY _ _ _ _ _) ?_ (VB _ _);obtain⟨k1,k2⟩:=key .zero;simp only [K,o1,o2] at e1' l1;have n1:H.guard.next=H.next:=rfl
  simp only [Nat.reduceLT,xq_,hq_,ag1,aG,l1,e1',e2',e3,k1,k2,zae]
 ·rw [if_neg ht] at e3 ⊢;refine dJ rfl rfl (ajY _ _ _ _ _) ?_ (VB _ _);obtain⟨k1,k2⟩:=key p;simp only [K,o1,o2] at e1' l1;have n1:H.guard.next=H.next:=rfl
  simp only [Nat.reduceLT,xq_,hq_,ag1,aG,l1,e1',e2',e3,k1,k2,zae]
theorem VD:∀(l:List Port) (i:Nat) (k:Nat) {j:Nat} {k':Int},wR (l.flatMap λp=> [p.rq,p.an]) (2*i) (k:Int)=some (j,k')->zT l i k=some (j / 2,decide (j % 2=0),k'.toNat)
 | [],i,k,j,k',h=> by cases h
 | p::l,i,k,j,k',h=> by
  simp only [zaE,zbb,zaK,wR] at h;simp only [zT];by_cases h1:k < p.rq.length
  ·rw [if_pos ⟨by omega,by omega⟩] at h;cases h;rw [if_pos h1,show 2*i / 2=i by omega,show 2*i % 2=0 by omega];rfl
  ·rw [if_neg (λhh=> h1 (by omega))] at h;rw [if_neg h1];by_cases h2:k < p.rq.length+p.an.length
   ·rw [if_pos ⟨by omega,by omega⟩] at h;cases h;rw [if_pos h2,show(2*i+1) / 2=i by omega,show(2*i+1) % 2=1 by omega];simp only [zaa,zad,true_and];exact⟨by simp,by omega⟩
   ·rw [if_neg (λhh=> h2 (by omega))] at h;rw [if_neg h2];rw [show(k:Int) - p.rq.length - p.an.length=((k - (p.rq.length+p.an.length):Nat):Int) by omega,show 2*i+1+1=2*(i+1) by omega] at h;exact VD l (i+1) _ h
theorem aq6 {b:Nat}{K:ah}{gk:bD}{r:Nat}{ys:List AV}(Gk:Good b K gk)(hk:K.base<=b)(hz:gk r=some (ys.map Cell.av))(hy:ys.length=2){y:List AV}(h9:y.length=2)(ha:y.all AV.aQ=true):
  ∃K',st 2 (.ref r 0 0) (.agg y) K=some (aZ,K')/\Good b K' (upd gk r (y.map Cell.av))/\Step b K K':=by
 obtain⟨K',t1,t2,t3,t4⟩:=Gk.stores hk hz (i:=0) (n:=2) (vs:=y) (by simp [hy]) h9 ha;have e:mF (ys.map Cell.av) 0 y=y.map Cell.av:=by
  unfold mF;rw [zaQ (by simp [h9,hy])];simp
 rw [e] at t2;exact⟨K',t1,t2,t3⟩
theorem aaU {fab:Fab}{d:Nat}{req:Bool}{l:List Pkt}:(fab.put d ((fab.port d).kL req l)).jl=fab.jl:=by
 unfold Fab.jl Fab.put;rw [zaq];have key:∀(ls:List Port) (d:Nat),((ls.set d ((ls.getD d .zero).kL req l)).flatMap λp=> [p.rq,p.an])=ls.flatMap λp=> [p.rq,p.an]:=by
  intro ls
  induction ls with
  | nil=> intro d;rfl
  | cons p ls ih=>
   intro d;cases d with
   | zero=> cases req <;> simp [Port.kL]
   | succ d=> simpa using ih d
 have:=key fab.l d;unfold Fab.port;rw [zaq];exact this
theorem VE:∀(ls:List Port) (j:Nat) {l:List Pkt},(ls.flatMap λp=> [p.rq,p.an])[j]?=some l->(ls.getD (j / 2) .zero).sort (decide (j % 2=0))=l
 | [],j,l,h=> by simp at h
 | p::ls,0,l,h=> by simpa [Port.sort] using h
 | p::ls,1,l,h=> by simpa [Port.sort] using h
 | p::ls,j+2,l,h=> by
  have h':(ls.flatMap λp=> [p.rq,p.an])[j]?=some l:=by simpa using h
  have:=VE ls j h';rw [show(j+2) / 2=j / 2+1 by omega,show(j+2) % 2=j % 2 by omega]
  simpa using this
section
variable {b:Nat}{H:ah}{g:bD}{f:Nat}{P:Nat->Nat->Nat}{c:Cfg}{fab:Fab}
theorem J3(G:Good b H g)(hb:H.base<=b)(F:ig g f P c fab)(J:PO P fab.l.length)(K:FOk c fab)(h0:fab.l.length≠0)(hfit:∀p∈fab.all,p.fit/\fab.is p.dst=true){at_ bit mask:Int}(h64:vT at_)(hbit:vT bit)(m0:0<=mask)(m1:mask<=65535):
  ∃H' g',cl 14 [.ref f 0 0,I at_,I bit,.s (.int .u16 mask)] H=some (I (fab.deliver at_ bit mask).2,H')/\Good b H' g'/\ig g' f P c (fab.deliver at_ bit mask).1/\Off (NG P fab.l.length) g g'/\Step b H H':=by
 have hb0:H.base<=H.next:=zax hb G.1
 have aaV:∀l∈fab.jl,l.length < 1000/\∀p∈l,p.data.length < 1000000000:=by
  intro l hl;unfold Fab.jl at hl;obtain⟨p,hp,hl⟩:=za0.1 hl;simp only [zaj,zaw,or_false] at hl;rcases hl with rfl | rfl
  ·exact⟨K.small hp (s:=0) (by decide),K.dat p hp 0 (by decide)⟩
  ·exact⟨K.small hp (s:=2) (by decide),K.dat p hp 2 (by decide)⟩
 have e1:=aam G F K.len h0 aaV at_ h64;have hn0:g H.next=none:=G.isNone (zac _)
 have G1:=G.newObj (ty:=112) (xs:=zP9) rfl;obtain⟨K1,s1,l1,G2,S2⟩:=ahR G1 (by rw [jC];exact hb) aV rfl (y:=((fab.pkt at_).getD .zero).av) (bU _) (aS _);rw [oq] at G2;have S02:=(Step.new (.blk 0 112 zP9) G.1).trans S2;cases hp:fab.pkt at_ with
 | none=>
  have hd:fab.deliver at_ bit mask=(fab,3):=by
   unfold Fab.deliver;unfold Fab.pkt at hp;split at hp
   ·rename_i h;rw [if_pos h]
   ·rename_i h;rw [if_neg h,hp]
  rw [hd];rw [hp] at e1 s1;refine⟨K1,g,bI rfl rfl (aco _ _ _ _ _ _ ?_),G2.sub ((ru.refl g).more hn0 _),F,Off.refl _ _,S02⟩;simp only [iD,za1,zaI] at e1 s1;simp only [xq_,Y4,e1,s1,zam]
 | some p=>
  rw [hp] at e1 s1 l1 G2;simp only [iD,zat,zaJ] at e1 s1 l1 G2;have hat:¬at_ < 0:=by
   intro h;unfold Fab.pkt at hp;rw [if_pos h] at hp;cases hp
  have hall:fab.all[at_.toNat]?=some p:=by
   unfold Fab.pkt at hp
   rwa [if_neg hat] at hp
  obtain⟨pf,pd⟩:=hfit p (zav hall);have e2:=ah5 K1 pf hbit m0 m1;have hd:fab.deliver at_ bit mask=if aP p.bytes bit mask=true then(fab,2) else
    if fab.room (oW p.aO)<=((fab.port p.dst).pz (oW p.aO)).length then(fab,5) else
    ((fab.put p.dst ((fab.port p.dst).kL (oW p.aO) ((fab.port p.dst).pz (oW p.aO)++[p]))).remove at_.toNat,0):=by
   unfold Fab.deliver;rw [if_neg hat,hall]
  have hk1:K1.base<=b:=by rw [S02.base];exact hb
  by_cases ht:aP p.bytes bit mask=true
  ·rw [if_pos ht] at e2 hd;rw [hd];obtain⟨K2,s3,l3,G3,S3⟩:=ahR G2 hk1 aV (bU _) (y:=Pkt.zero.av) (bU _) (aS _);rw [oq] at G3;refine⟨K2,g,bI rfl rfl (aco _ _ _ _ _ _ ?_),G3.sub ((ru.refl g).more hn0 _),F,Off.refl _ _,S02.trans S3⟩;simp only [Int.reduceEq,xq_,Y4,e1,s1,zae,l1,e2,s3,zam]
  rw [if_neg ht] at e2 hd;rw [hd];obtain⟨K2,s3,l3,G3,S3⟩:=ahR G2 hk1 aV (bU _) (y:=p.av) (bU _) (aS _);rw [oq] at G3;have S03:=S02.trans S3;have F3:=F.sub ((ru.refl g).more hn0 (p.av.map Cell.av));obtain⟨d,hdd,hdl⟩:=AB pd;obtain⟨x,r,gg,o,h1,h2,h3⟩:=AL G3 F3 hdl;have hdst:ld (.ref H.next 0 2) K2=some (I p.dst,K2):=G3.load aV (i:=2) rfl;have hkind:ld (.ref H.next 0 0) K2=some (I p.aO,K2):=G3.load aV (i:=0) rfl;let req:=oW p.aO;have rq:=JQ K2.guard p.aO;obtain⟨K3,t1,t2⟩:=ES K2.guard (zac _) (P d) req;obtain⟨K3,t1,t2⟩:=drawn t1 t2;have G4:=G3.ext t2.next t2.same
  have hk3:K3.base<=b:=by rw [t2.base,S03.base];exact hb
  have S34:Step b K2 K3:=⟨t2.base,t2.next,λr hr=> t2.same r (zay hr G3.1)⟩
  have l9:lda 9 (.ref H.next 0 0) K3=some (.agg p.av,K3):=G4.loads aV (i:=0) (n:=9) (xs:=p.av) rfl rfl (by decide);have hbx:=gK (F3.port hdl) (rP req);have hR:=JX K.ok (iIx req);obtain⟨K4,q1,q2,q3⟩:=acD G4 hk3 hbx hR.1 hR.2 (K.small (Fab.uS hdl) (rP req)) p (by have:=pf.ok;simp only [Pkt.ok,zah,decide_eq_true_eq] at this;omega);rw [HY] at q1 q2;have hroom:NH c (iIx req)=fab.room req:=by
   have ap9:fab.inn=c.inn:=F.2.2.2;unfold Fab.room;cases req <;> simp [iIx,NH,ap9]
  have hle:=K.box _ (Fab.uS hdl) _ (rP req);rw [HY] at hle;have f1:(adl (P d) req)[1]?=some (.ref (P d (iIx req)) 0 0):=rfl;have S04:=(S03.trans S34).trans q3;have hk4:K4.base<=b:=by rw [S04.base];exact hb
  have hdp:p.dst=(d:Int):=hdd;have hpn:P d (iIx req)≠H.next:=λe=> F.S9 G ⟨d,iIx req,hdl,rP req,e.symm⟩
  by_cases hfull:NH c (iIx req)=(((fab.port d).pz req).length:Int)
  ·rw [if_pos hfull] at q1 q2;rw [if_pos (show fab.room (oW p.aO)<=((fab.port p.dst).pz (oW p.aO)).length by rw [hdp];show fab.room req<=_;rw [<-hroom];exact Int.le_of_eq hfull)];rw [fJ (by rw [hbx,HY])] at q2;refine⟨K4,g,bI rfl rfl (aco _ _ _ _ _ _ ?_),q2.sub ((ru.refl g).more hn0 _),F,Off.refl _ _,S04⟩;rw [hdp] at hdst;simp only [req] at rq t1 f1 q1;simp only [Int.reduceEq,xq_,Y4,e1,s1,zae,l1,e2,s3,h1,hdst,h2,h3,hkind,rq,t1,f1,l9,q1,zam]
  ·rw [if_neg hfull] at q1 q2;rw [if_neg (show¬fab.room (oW p.aO)<=((fab.port p.dst).pz (oW p.aO)).length by rw [hdp];show¬fab.room req<=_;rw [<-hroom];exact λh=> hfull (Int.le_antisymm h hle))];have F4:=F3.fill J hdl (rP req) (p':=(fab.port d).kL req ((fab.port d).pz req++[p])) (l:=(fab.port d).pz req++[p]) (CS _ _ _);rw [hdp];show∃H' g',_/\_/\ig g' f P c ((fab.put d ((fab.port d).kL req ((fab.port d).pz req++[p]))).remove at_.toNat)/\_/\_;generalize ah6:fab.put d ((fab.port d).kL req ((fab.port d).pz req++[p]))=MV at*;have amE:MV.jl=fab.jl:=by rw [<-ah6];exact aaU
   have hlen1:MV.l.length=fab.l.length:=by rw [<-ah6];simp [Fab.put]
   have e5:=aal q2 F4 (by rw [hlen1];exact K.len) (by rw [hlen1];exact h0) (λl hl=> (aaV l (by rw [<-amE];exact hl)).1) at_ h64;rw [amE] at e5;cases hf:wR fab.jl 0 at_ with
   | none=>
    exfalso;have:=CG hf;rw [show fab.jl.flatten=fab.all from CJ fab.l] at this;have h2:=(zai.1 hall).1;omega
   | some jk=>
    obtain⟨j,k⟩:=jk;rw [hf] at e5;obtain⟨_,l,z2,z3,z4,z5,z6⟩:=tC hf;rw [Nat.sub_zero] at z2;have hj:j < 2*fab.l.length:=by
     have:=(zai.1 z2).1
     rwa [Fab.jl,qH] at this
    have hj2:j / 2 < MV.l.length:=by rw [hlen1];omega
    obtain⟨kn,rfl⟩:∃kn:Nat,k=kn:=⟨k.toNat,by omega⟩
    have hfa:zT MV.l 0 at_.toNat=some (j / 2,decide (j % 2=0),kn):=by
     have hh:=VD MV.l 0 at_.toNat (j:=j) (k':=kn) (by
      show wR MV.jl 0 _=_;rw [amE,zcW (by omega)];exact hf)
     simpa using hh
    have ex1:wS P (some (j,(kn:Int)))=.tup [.agg (kG P j),I kn,B true]:=rfl;rw [ex1] at e5;let rq2:Bool:=decide (j % 2=0);have hP:(if j % 2=0 then 0 else 2)=oIx rq2:=by
     by_cases h:j % 2=0 <;> simp [rq2,h,oIx]
    have hp3:=aak F4 (j:=j) (l:=l) (by rw [amE];exact z2);rw [hP] at hp3;have hq4:=gK (F4.port hj2) (tN rq2);have hl:(MV.port (j / 2:Nat)).sort rq2=l:=by
     have:=VE MV.l j (show MV.jl[j]?=some l by rw [amE];exact z2);unfold Fab.port;rw [zaq];exact this
    have hkl:kn < l.length:=by omega
    obtain⟨hl3,hd3⟩:=aaV l (zav z2);have n4:(upd (upd g H.next (p.av.map Cell.av)) (P d (iIx req)) (nM ((fab.port d).pz req++[p]) (NH c (iIx req)))) K4.next=none:=q2.isNone (zac _)
    have G5:=q2.newObj (ty:=99) (xs:=[zP,zP]) rfl;obtain⟨K5,u1,G6,S6⟩:=aq6 G5 (by rw [jC];exact hk4) aV rfl (y:=kG P j) rfl rfl;rw [oq] at G6;have u2:ld (.ref K4.next 0 0) K5=some (.ref (P (j / 2) (oIx rq2)) 0 0,K5):=by
     refine G6.load aV (i:=0) ?_;rw [<-hP];rfl
    have S05:=(S04.trans (Step.new _ q2.1)).trans S6;have hk5:K5.base<=b:=by rw [S05.base];exact hb
    have hne:P (j / 2) (oIx rq2)≠K4.next:=λe=> by rw [e,n4] at hp3;cases hp3
    obtain⟨v,K6,y1,G7,S7⟩:=WY G6 hk5 (by rw [bH hne];exact hp3) hl3 hd3 kn hkl;have hJ1:PO P MV.l.length:=by rw [hlen1];exact J
    have F7:=F4.fill hJ1 hj2 (tN rq2) (p':=(MV.port (j / 2:Nat)).drop rq2 kn) (l:=l.eraseIdx kn) (by
     intro t ht;have:=y8 (MV.port (j / 2:Nat)) rq2 (l.eraseIdx kn) t ht;unfold Port.drop;rw [hl];exact this)
    have ah1:MV.remove at_.toNat=MV.put (j / 2:Nat) ((MV.port (j / 2:Nat)).drop rq2 kn):=by
     unfold Fab.remove;rw [hfa]
    rw [ah1];rw [rO] at F7;let g':=upd (upd g (P d (iIx req)) (nM ((fab.port d).pz req++[p]) (NH c (iIx req)))) (P (j / 2) (oIx rq2)) (nM (l.eraseIdx kn) c.out);have ne2:P (j / 2) (oIx rq2)≠H.next:=λe=> F.S9 G ⟨j / 2,oIx rq2,by omega,tN rq2,e.symm⟩
    have aq7:ru g' (upd (upd (upd g H.next (p.av.map Cell.av)) (P d (iIx req)) (nM ((fab.port d).pz req++[p]) (NH c (iIx req)))) (P (j / 2) (oIx rq2)) (nM (l.eraseIdx kn) c.out)):=(((ru.refl g).more hn0 _).both _ _).both _ _;have F8:ig g' f P c (MV.put (j / 2:Nat) ((MV.port (j / 2:Nat)).drop rq2 kn)):=by
     have hJ:PO P fab.l.length:=J;have A:=F.fill J hdl (rP req) (p':=(fab.port d).kL req ((fab.port d).pz req++[p])) (l:=(fab.port d).pz req++[p]) (CS _ _ _);rw [ah6] at A;have B:=A.fill hJ1 hj2 (tN rq2) (p':=(MV.port (j / 2:Nat)).drop rq2 kn) (l:=l.eraseIdx kn) (by
      intro t ht;have:=y8 (MV.port (j / 2:Nat)) rq2 (l.eraseIdx kn) t ht;unfold Port.drop;rw [hl];exact this)
     rw [rO] at B;exact B
    refine⟨K6,g',bI rfl rfl (aco _ _ _ _ _ _ ?_),G7.sub λq cs hq=> ?_,F8,(Off.upd ⟨d,iIx req,hdl,rP req,rfl⟩).trans (Off.upd ⟨j / 2,oIx rq2,by omega,tN rq2,rfl⟩),S05.trans S7⟩
    ·rw [hdp] at hdst;simp only [req] at rq t1 f1 q1;simp only [xq_,Y4,e1,s1,zae,l1,e2,s3,h1,hdst,h2,h3,hkind,rq,t1,f1,l9,q1,e5,u1,u2,y1]
    ·have:=aq7 q cs hq;by_cases e:q=P (j / 2) (oIx rq2)
     ·subst e;rw [aV] at this ⊢;exact this
     ·rw [bH e] at this ⊢;have h4:q≠K4.next:=λe'=> by rw [e',n4] at this;cases this
      rw [bH h4];exact this
end
theorem Gx.ask {t:Turns}(h:Gx t)(aj who id:Int):Gx (t.ask aj who id).1:=by
 unfold Turns.ask;split
 ·exact h
 split
 ·refine⟨h.ok,h.oge,mJ h.wk _ _,λe he w hw=> ?_⟩;rcases lS he with rfl | he
  ·rcases zaL.1 hw with hw | hw
   ·unfold Turns.ws at hw;cases ha:jh t.wait aj with
    | none=> rw [ha] at hw;cases hw
    | some ws=> rw [ha] at hw;exact h.wge _ (lQ ha) w hw
   ·simp only [zaO] at hw;subst hw;simp only;omega
  ·exact h.wge e he w hw
 ·refine⟨mJ h.ok _ _,λe he=> ?_,h.wk,h.wge⟩;rcases lS he with rfl | he
  ·simp only;omega
  ·exact h.oge e he
theorem Gx.release {t:Turns}(h:Gx t)(aj who:Int):Gx (t.release aj who).1:=by
 unfold Turns.release;split
 ·refine⟨?_,λe he=> h.oge e (Gw he),h.wk,h.wge⟩;show((xY t.fU aj).map (·.1)).Nodup;rw [BQ];exact h.ok.erase _
 ·exact h
theorem Gx.next {t:Turns}(h:Gx t)(aj:Int):Gx (t.next aj).1:=by
 unfold Turns.next
 split
 ·exact h
 split
 ·exact h
 ·rename_i w ws hw;have hge:∀x∈w::ws,0<=x.1:=by
   unfold Turns.ws at hw;cases e:jh t.wait aj with
   | none=> rw [e] at hw;cases hw
   | some l=>
    rw [e] at hw;rw [show l=w::ws from hw] at e;exact h.wge _ (lQ e)
  refine⟨mJ h.ok _ _,λe he=> ?_,mJ h.wk _ _,λe he x hx=> ?_⟩
  ·rcases lS he with rfl | he
   ·exact hge w (by simp)
   ·exact h.oge e he
  ·rcases lS he with rfl | he
   ·exact hge x (za9 _ hx)
   ·exact h.wge e he x hx
def yc(c:Cfg)(me:Int)(h:Home):Prop:=∀aj,kN c me aj=true->∃row,jh h.dD aj=some row
theorem adz {c:Cfg}{dD:Rows}{aj aT head:Int}{data:List Int}{m:Int}(h:∃row,jh dD m=some row):∃row,jh (iC c dD aj aT head data).1 m=some row:=by
 unfold iC;cases jh dD aj with
 | none=> exact h
 | some r=>
  simp only;split
  ·exact h
  split
  ·exact h
  ·rw [iw];split
   ·exact⟨_,rfl⟩
   ·exact h
section
variable {c:Cfg}{me:Int}{h:Home}
theorem Xj(hc:c.ok=true)(I:XD c me h)(R:yc c me h)(p:Pkt):XD c me (h.handle c me p).1/\yc c me (h.handle c me p).1:=by
 unfold Home.handle;split
 ·exact⟨I,R⟩
 rename_i h1;have hl0:0<=p.aj:=by
  simp only [zbe,zaY,not_or,zcb,zah] at h1;have:=h1.1.1.1;simp only [Pkt.ok,zah,decide_eq_true_eq] at this;omega
 split
 ·exact⟨I,R⟩
 rename_i h2;have hh:kN c me p.aj=true:=by
  cases e:kN c me p.aj with
  | true=> rfl
  | false=> exact absurd ((Aa hc hl0).2 e) h2
 split
 ·have key:XD c me { h with aP:=(h.aP.ask p.aj p.src p.id).1 }/\yc c me { h with aP:=(h.aP.ask p.aj p.src p.id).1 }:=⟨⟨I.aP.ask _ _ _,λe he=> by
   rcases UJ he with h | h
   ·rw [h];exact hh
   ·exact I.here e h⟩,R⟩
  simp only;split <;> exact key
 ·have key:XD c me (h.unlock c p).1/\yc c me (h.unlock c p).1:=by
   unfold Home.unlock;generalize (if p.flag=true then p.data else [])=dat;split
   ·exact⟨I,R⟩
   ·simp only;split
    ·exact⟨⟨I.aP.release _ _,by simp only [Dx];exact I.here⟩,λaj hl=> adz (R aj hl)⟩
    ·exact⟨I,R⟩
  simp only;split <;> exact key
theorem aaW(I:XD c me h)(R:yc c me h):XD c me (h.grant me).1/\yc c me (h.grant me).1:=by
 unfold Home.grant;cases hr:h.ready with
 | nil=> exact⟨I,R⟩
 | cons aj l=>
  obtain⟨m1,m2,m3⟩:=wL hr;have hh:kN c me aj=true:=by
   obtain⟨e,he,rfl⟩:=zaG.1 m3;exact I.here e he
  have Lm:∀e∈(h.aP.next aj).1.wait,kN c me e.1=true:=λe he=> by
   rcases O5 he with h | h
   ·exact I.here e h
   ·rw [h.1];exact hh
  have hT:=I.aP.next aj
  simp only;cases ha:h.aP.next aj with
  | mk t o=>
   rw [ha] at Lm hT;cases o with
   | none=> exact⟨I,R⟩
   | some w=> exact⟨⟨hT,Lm⟩,R⟩
theorem Ie(R:yc c me h)(hr:∀e∈h.dD,pF c e.2.data){aj:Int}(hl:kN c me aj=true)(who id:Int):(granted h.dD me aj who id).ok=true->xZ c (granted h.dD me aj who id):=by
 intro hk;obtain⟨row,h1⟩:=R aj hl;have hd:pF c (jc h.dD aj).data:=by
  unfold jc;rw [h1];exact hr _ (lQ h1)
 exact⟨hk,λ_=> hd,hd.2⟩
theorem Xk(hc:c.ok=true)(R:yc c me h)(hr:∀e∈h.dD,pF c e.2.data)(p:Pkt):(h.handle c me p).2.1.ok=true->xZ c (h.handle c me p).2.1:=by
 unfold Home.handle;have z:Pkt.zero.ok=true->xZ c Pkt.zero:=xM rfl (by simp [Pkt.zero]);split
 ·exact z
 rename_i h1;have hl0:0<=p.aj:=by
  simp only [zbe,zaY,not_or,zcb,zah] at h1;have:=h1.1.1.1;simp only [Pkt.ok,zah,decide_eq_true_eq] at this;omega
 split
 ·exact z
 rename_i h2;have hh:kN c me p.aj=true:=by
  cases e:kN c me p.aj with
  | true=> rfl
  | false=> exact absurd ((Aa hc hl0).2 e) h2
 split
 ·simp only;split
  ·exact Ie R hr hh _ _
  ·exact z
 ·simp only;split
  ·exact xM rfl (by simp)
  ·exact z
end
structure afV(c:Cfg)(me:Int)(n:Node)(t:List Evn)(A:NFT):Prop where
 inv:Wx c me A.1
 dD:yc c me A.1.home
 fab:vO c A.2.1
 evs:A.2.2.length+n.evs=t.length+A.1.evs
section
variable {c:Cfg}{me:Int}{n:Node}{f:Fab}{t:List Evn}{o:Opn}{e:Ent}
theorem Qu(ho:n.bG.cur=some o)(hb:n.bG.dU=true)(he:n.aI.find (c.bV o.addr)=some e):
  n.effect c me t=({ n with aI:=(n.aI.put (eH e o (c.dw o.addr))).1,bG:=⟨n.bG.ops,n.bG.bf++[if o.aO=2 then 0 else e.word (c.dw o.addr)],false⟩ },t++[⟨me,n.bG.bf.length,true,if o.aO=2 then 0 else e.word (c.dw o.addr)⟩]):=by
 have hop:n.bG.op=o:=by unfold Proc.op;rw [ho];rfl
 have hidx:n.bG.idx=n.bG.bf.length:=by unfold Proc.idx;rw [ho]
 unfold Node.effect;simp only [hop,he,zat];unfold Node.done;simp only [Proc.yx,hb,if_true,hidx]
theorem J4(I:Eo c n.aI)(hov:I64 o.value)(he:n.aI.find (c.bV o.addr)=some e):Eo c (n.aI.put (eH e o (c.dw o.addr))).1/\(n.aI.put (eH e o (c.dw o.addr))).1.bZ=n.aI.bZ:=by
 obtain⟨hem,hel⟩:=(iy I.bg).1 he;have E:=I.ent e hem;obtain⟨y1,_⟩:=qM e o (c.dw o.addr);refine⟨I.put (by rw [y1];exact E.lo) (by rw [y1];exact E.hi) (Xd E.dat hov),?_⟩;rw [lC I.bg (x:=e) (by rw [y1];exact E.lo) (by rw [y1,hel];exact he)]
theorem adA {p:Proc}{v:Int}(P:agN c p)(hb:p.dU=true):agN c ⟨p.ops,p.bf++[v],false⟩:=by
 have:=P.dU hb;exact⟨P.most,P.right,by simp only [zao,zal,zan];omega,λh=> by cases h⟩
theorem Xl {ca:Cache}{d:bJ}{p:Pkt}(hA:Dy n.aF me n.aI p=(ca,d,false)):ca=n.aI:=by
 cases hfit:n.aF.fits p with
 | false=> rw [AQ hfit] at hA;simp only [vN,zad] at hA;exact hA.1.symm
 | true=>
  unfold Dy at hA
  repeat' split at hA
  ·unfold dQ at hA
   repeat' split at hA
   all_goals (simp only [vN,zad,zbx,and_false] at hA)
   all_goals exact hA.1.symm
  ·unfold dS at hA
   repeat' split at hA
   all_goals (simp only [vN,zad,zbx,and_false] at hA)
   all_goals exact hA.1.symm
  ·unfold eF at hA;split at hA
   ·simp only [vN,zad] at hA;exact hA.1.symm
   ·split at hA
    ·exfalso;cases hfd:n.aI.find n.aF.aj with
     | none=> simp [hfd] at hA
     | some e=>
      simp only [hfd] at hA
      repeat' split at hA
      all_goals simp at hA
    ·unfold gJ at hA
     repeat' split at hA
     all_goals (simp only [vN,zad,zbx,and_false] at hA)
     all_goals exact hA.1.symm
  ·simp only [vN,zad] at hA;exact hA.1.symm
theorem MW {p:Proc}{v:Int}{n':Node}(hb:n.bG.dU=true)(h:n'.bG=⟨n.bG.ops,n.bG.bf++[v],false⟩):t.length+1+n.evs=t.length+n'.evs:=by
 unfold Node.evs;rw [h,hb];simp only [if_true,zao,zal,zan,zaf,if_false];omega
theorem Qv(hc:c.ok=true)(I:Wx c me n)(R:yc c me n.home)(F:vO c f){p:Pkt}(Q:xZ c p):afV c me n t (n.answered c me f t p):=by
 have hsame:afV c me n t (n,f,t):=⟨I,R,F,rfl⟩
 unfold Node.answered;rw [rQ];by_cases hs:n.aF.step=0
 ·have hf:n.aF.fits p=false:=by
   unfold bJ.fits;rw [hs];simp [zS,BK]
  rw [AQ hf];simp only [vN,if_true];exact hsame
 have D:=I.aF hs;cases hA:Dy n.aF me n.aI p with
 | mk ca dk=>
  obtain⟨d,ok⟩:=dk;cases ok with
  | false=>
   rw [Xl hA];simp only [if_true];exact hsame
  | true=>
   simp only [zbx,if_false];have N:=MR I.aI D hs Q hA;by_cases h0:d.step=0
   ·rw [if_pos h0];rcases N.way with⟨w1,_,w3⟩ | ⟨w1,_⟩
    rotate_left
    ·exact absurd h0 w1
    subst w3;by_cases k3:d.aO=3/\n.bG.op.aO=4
    ·rw [if_pos k3];have hb:=D.roll (by rw [<-N.aO];exact k3.1);have hlt:=I.bG.dU hb;have he:n.bG.yx 0=⟨n.bG.ops,n.bG.bf++[0],false⟩:=by unfold Proc.yx;rw [if_pos hb]
     simp only [Node.done,he];refine⟨⟨adA I.bG hb,I.aI,I.dD,I.home,λh=> absurd h0 h,?_⟩,R,F,?_⟩
     ·have:=I.clk;simp only [zao,zal,zan];omega
     ·simp only [zao,zal,zan];exact MW (p:=n.bG) hb rfl
    ·rw [if_neg k3];exact⟨⟨I.bG,I.aI,I.dD,I.home,λh=> absurd h0 h,I.clk⟩,R,F,rfl⟩
   ·rw [if_neg h0];rcases N.way with⟨_,w2,_⟩ | ⟨_,w2,w3⟩
    ·exact absurd w2 h0
    have hl0:0<=d.aj:=by rw [N.aj];exact D.lo
    by_cases h6:d.step=6/\d.aO≠3
    ·simp only [if_pos h6];have k3:n.aF.aO≠3:=by rw [<-N.aO];exact h6.2
     have W:=D.work k3 w2;obtain⟨o,ho,hol,hk1,hk2⟩:=W.op;have hmem:o∈n.bG.ops:=zav ho;obtain⟨e,he,_⟩:∃e,ca.find n.aF.aj=some e/\(n.aF.aO=2->e.cO=true):=by
      rcases w3 k3 with⟨w,_⟩ | ⟨_,w⟩
      ·exact absurd h6.1 w
      ·exact w
     have he':({ n with aI:=ca,aF:=d }:Node).aI.find (c.bV o.addr)=some e:=by show ca.find _=_;rw [hol];exact he
     rw [Qu (n:={ n with aI:=ca,aF:=d }) (e:=e) ho W.dU he'];obtain⟨p1,p2⟩:=J4 (n:={ n with aI:=ca,aF:=d }) N.inv (I.bG.right o hmem).2 he';have hlt:=I.bG.dU W.dU;have anf:ca.bZ<=n.bG.bf.length+1:=by
      have:=I.clk;rcases N.clk with h | ⟨_,_,h⟩ <;> omega
     refine⟨⟨adA I.bG W.dU,p1,I.dD,I.home,λ_=> ?_,?_⟩,R,F.send (aaL N.dat _ _),?_⟩
     ·exact⟨hl0,by rw [N.aj];exact D.hi,by rw [N.aO];exact D.aO,N.dat,N.agM,λh=> absurd h h6.2,λ_ h=> absurd h6.1 h,λ_ _=> rfl⟩
     ·simp only [zao,zal,zan];rw [p2];show ca.bZ<=_;omega
     ·simp only [zao,zal,zan];exact MW (p:=n.bG) W.dU rfl
    ·simp only [if_neg h6];refine⟨⟨I.bG,N.inv,I.dD,I.home,λ_=> ⟨hl0,by rw [N.aj];exact D.hi,by rw [N.aO];exact D.aO,N.dat,N.agM,λh=> D.roll (by rw [<-N.aO];exact h),λk3 k6=> ?_,λk3 k6=> absurd ⟨k6,k3⟩ h6⟩,?_⟩,R,F.send (aaL N.dat _ _),rfl⟩
     ·have k3':n.aF.aO≠3:=by rw [<-N.aO];exact k3
      have W:=D.work k3' w2;rcases w3 k3' with⟨_,w⟩ | ⟨w,_⟩
      ·subst w;obtain⟨o,ho,hol,hk1,hk2⟩:=W.op;exact⟨W.dU,⟨o,ho,by rw [hol];exact N.aj.symm,by rw [N.aO];exact hk1,by rw [N.aO];exact hk2⟩,by simp only;rw [N.aj];exact W.full⟩
      ·exact absurd w k6
     ·have:=I.clk;rcases N.clk with h | ⟨k3,k6,_⟩
      ·simp only;omega
      ·exact absurd ⟨k6,by rw [N.aO];exact k3⟩ h6
theorem AX(I:Wx c me n)(R:yc c me n.home)(F:vO c f){k l:Int}(hk:1<=k/\k<=3)(h0:0<=l)(h1:l < c.bg)(hb:n.bG.dU=true)
  (hw:k≠3->(∃o,n.bG.cur=some o/\c.bV o.addr=l/\(k=1->o.aO=1)/\(k=2->o.aO=2∨o.aO=3))/\n.aI.full l=false):afV c me n t ((n.begin_ c me f k l).1,(n.begin_ c me f k l).2,t):=by
 refine⟨⟨I.bG,I.aI,I.dD,I.home,λ_=> ⟨h0,h1,hk,.inl rfl,λ_ h=> absurd (show(1:Int)=3 from h) (by decide),λ_=> hb,λk3 _=> ?_,λ_ h=> absurd (show(1:Int)=6 from h) (by decide)⟩,I.clk⟩,R,F.send (aaL (.inl rfl) _ _),rfl⟩;obtain⟨⟨o,q1,q2,q3,q4⟩,q5⟩:=hw k3;exact⟨hb,⟨o,q1,q2,q3,q4⟩,q5⟩
theorem adB(hc:c.ok=true)(I:Wx c me n)(R:yc c me n.home)(F:vO c f)(ho:n.bG.cur=some o)(hd:n.aF.step=0):afV c me n t (n.work c me f t o):=by
 have hmem:o∈n.bG.ops:=zav ho;have hlt:n.bG.bf.length < n.bG.ops.length:=(zai.1 ho).1;have Rr:=I.bG.right o hmem;have O:=anc hc Rr.1;obtain⟨n1,hn1⟩:∃n1:Node,n1={ n with bG:={ n.bG with dU:=true } }:=⟨_,rfl⟩
 have I1:Wx c me n1:=by rw [hn1];exact⟨⟨I.bG.most,I.bG.right,I.bG.vals,λ_=> hlt⟩,I.aI,I.dD,I.home,λh=> absurd hd h,I.clk⟩
 have R1:yc c me n1.home:=by rw [hn1];exact R
 have ho1:n1.bG.cur=some o:=by rw [hn1];exact ho
 have hb1:n1.bG.dU=true:=by rw [hn1]
 have hc1:n1.aI=n.aI:=by rw [hn1]
 have hd1:n1.aF.step=0:=by rw [hn1];exact hd
 obtain⟨t1,ht1⟩:∃t1,t1=if n.bG.dU=true then t else t++[⟨me,n.bG.bf.length,false,0⟩]:=⟨_,rfl⟩
 have hev:t1.length+n.evs=t.length+n1.evs:=by
  rw [ht1,hn1];unfold Node.evs;cases n.bG.dU
  ·simp only [zaf,if_false,zao,zal,zan,if_true];omega
  ·simp only [if_true]
 have lift:∀{A:NFT},afV c me n1 t1 A->afV c me n t A:=λ{A} h=> ⟨h.inv,h.dD,h.fab,by have:=h.evs;omega⟩
 unfold Node.work;simp only;rw [<-hn1,<-ht1,<-hc1];by_cases c1:o.aO=4/\n1.aI.find (c.bV o.addr)=none
 ·rw [if_pos c1];refine lift ?_;have he:n1.bG.yx 0=⟨n1.bG.ops,n1.bG.bf++[0],false⟩:=by unfold Proc.yx;rw [if_pos hb1]
  simp only [Node.done,he];refine⟨⟨adA I1.bG hb1,I1.aI,I1.dD,I1.home,λh=> absurd hd1 h,?_⟩,R1,F,?_⟩
  ·have:=I1.clk;simp only [zao,zal,zan];omega
  ·simp only [zao,zal,zan];exact MW (p:=n1.bG) hb1 rfl
 rw [if_neg c1];by_cases c2:o.aO=4
 ·rw [if_pos c2];exact lift (AX I1 R1 F ⟨by decide,by decide⟩ O.lo O.hi hb1 λh=> absurd rfl h)
 rw [if_neg c2];by_cases c3:(n1.aI.find (c.bV o.addr)).isSome=true/\(o.aO=1∨((n1.aI.find (c.bV o.addr)).getD .zero).cO=true)
 ·rw [if_pos c3];obtain⟨e,he⟩:=zcZ.1 c3.1;have T:=I1.aI.touch he;have hf:=Xe I1.aI.bg he;refine lift ?_;obtain⟨e2,he2⟩:∃e2:Ent,e2={ e with used:=n1.aI.bZ+1 }:=⟨_,rfl⟩
  rw [<-he2] at hf;have hnn:({ aI:=n1.aI.touch (c.bV o.addr),bG:={ ops:=n.bG.ops,bf:=n.bG.bf,dU:=true },home:=n.home,aF:=n.aF,num:=n.num }:Node)={ n1 with aI:=n1.aI.touch (c.bV o.addr) }:=by rw [hn1]
  have hE:=Qu (me:=me) (t:=t1) (n:={ n1 with aI:=n1.aI.touch (c.bV o.addr) }) (e:=e2) ho1 hb1 hf;obtain⟨p1,p2⟩:=J4 (n:={ n1 with aI:=n1.aI.touch (c.bV o.addr) }) T Rr.2 hf;rw [hnn,hE];refine⟨⟨adA I1.bG hb1,p1,I1.dD,I1.home,λh=> absurd hd1 h,?_⟩,R1,F,?_⟩
  ·have:=I1.clk;have hk:=Ic I1.aI.bg he;simp only [zao,zal,zan];rw [p2];show(n1.aI.touch _).bZ<=_;omega
  ·simp only [zao,zal,zan];exact MW (p:=n1.bG) hb1 rfl
 rw [if_neg c3];by_cases c4:n1.aI.full (c.bV o.addr)=true
 ·rw [if_pos c4];have hset:n1.aI.oG (c.bV o.addr)≠[]:=by
   intro e;unfold Cache.full at c4;simp only [e,zan,zah,decide_eq_true_eq] at c4;have:=(mM hc).2.2.2.2.1;rw [I1.aI.ways] at c4;omega
  obtain⟨e,he⟩:∃e,nH (n1.aI.oG (c.bV o.addr))=some e:=by
   cases h:n1.aI.oG (c.bV o.addr) with
   | nil=> exact absurd h hset
   | cons a l=> exact⟨_,rfl⟩
  have hv:n1.aI.nP (c.bV o.addr)=some e.aj:=by unfold Cache.nP;rw [he];rfl
  have hem:e∈n1.aI.l:=by
   have:=(rC he).1;unfold Cache.oG at this;exact(zbl.1 this).1
  have E:=I1.aI.ent e hem;rw [hv];simp only [zat];exact lift (AX I1 R1 F ⟨by decide,by decide⟩ E.lo E.hi hb1 λh=> absurd rfl h)
 rw [if_neg c4];have c4':n1.aI.full (c.bV o.addr)=false:=by simpa using c4
 by_cases c5:o.aO=1
 ·rw [if_pos c5];exact lift (AX I1 R1 F ⟨by decide,by decide⟩ O.lo O.hi hb1 λ_=> ⟨⟨o,ho1,rfl,λ_=> c5,λh=> by omega⟩,c4'⟩)
 ·rw [if_neg c5];have k1:=O.k1;have k4:=O.k4;exact lift (AX I1 R1 F ⟨by decide,by decide⟩ O.lo O.hi hb1 λ_=> ⟨⟨o,ho1,rfl,λh=> by omega,λ_=> by omega⟩,c4'⟩)
theorem aaX(hc:c.ok=true)(I:Wx c me n)(R:yc c me n.home)(F:vO c f){p:Pkt}(Q:xZ c p):afV c me n t ((n.asked c me f p).1,(n.asked c me f p).2,t):=by
 unfold Node.asked;by_cases hk:p.aO=1∨p.aO=2
 ·rw [if_pos hk];have h3:=Xj hc I.home R p;have hr:=Ti (c:=c) (me:=me) I.dD Q.num;have hok:=Xk hc R I.dD p;cases hA:n.home.handle c me p with
  | mk h x=>
   rw [hA] at h3 hr hok;obtain⟨out,ok,e⟩:=x;simp only at h3 hr hok ⊢;refine⟨⟨I.bG,I.aI,hr,h3.1,λhs=> ?_,I.clk⟩,h3.2,?_,rfl⟩
   ·have D:=I.aF hs;exact⟨D.lo,D.hi,D.aO,D.dat,D.agM,D.roll,λa b=> by have W:=D.work a b;exact⟨W.dU,W.op,W.full⟩,D.rest⟩
   ·simp only;split
    ·exact F.send hok
    ·exact F
 ·rw [if_neg hk];obtain⟨i1,i2,i3,i4⟩:=aaM I.aI p;cases hA:fK n.aI p with
  | mk ca x=>
   rw [hA] at i1 i2 i3 i4;obtain⟨out,e⟩:=x;simp only at i1 i2 i3 i4 ⊢;refine⟨⟨I.bG,i1,I.dD,I.home,λhs=> ?_,by simp only;rw [i3];exact I.clk⟩,R,?_,rfl⟩
   ·have D:=I.aF hs;exact⟨D.lo,D.hi,D.aO,D.dat,D.agM,D.roll,λa b=> by have W:=D.work a b;exact⟨W.dU,W.op,i4 _ hc W.full⟩,D.rest⟩
   ·simp only;split
    ·exact F.send i2
    ·exact F
theorem adC(hc:c.ok=true)(I:Wx c me n)(R:yc c me n.home)(F:vO c f):afV c me n t (n.step c me f t).1:=by
 unfold Node.step;obtain⟨t1,t2⟩:=F.take me false;cases h1:f.take me false with
 | mk f' x=>
  rw [h1] at t1 t2;cases x with
  | some p=> exact Qv hc I R t1 (t2 p rfl)
  | none=>
   simp only;by_cases hg:n.home.ready≠[]/\f.roomOf me false≠0
   ·rw [if_pos hg];obtain⟨g3,g4⟩:=aaW I.home R;refine⟨⟨I.bG,I.aI,?_,g3,λhs=> ?_,I.clk⟩,g4,F.send ?_,rfl⟩
    ·have:(n.home.grant me).1.dD=n.home.dD:=by
      unfold Home.grant;cases n.home.ready with
      | nil=> rfl
      | cons aj l=>
       simp only;cases n.home.aP.next aj with
       | mk tt w=> cases w <;> rfl
     simp only;rw [this];exact I.dD
    ·have D:=I.aF hs;exact⟨D.lo,D.hi,D.aO,D.dat,D.agM,D.roll,λa b=> by have W:=D.work a b;exact⟨W.dU,W.op,W.full⟩,D.rest⟩
    ·unfold Home.grant;cases hr:n.home.ready with
     | nil=> exact absurd hr hg.1
     | cons aj l=>
      have hm:=(wL hr).2.2;have hh:kN c me aj=true:=by
       obtain⟨e,he,rfl⟩:=zaG.1 hm;exact I.home.here e he
      simp only;cases n.home.aP.next aj with
      | mk tt w=>
       cases w with
       | none=> exact xM rfl (by simp [Pkt.zero])
       | some w=> exact Ie R I.dD hh _ _
   ·rw [if_neg hg];obtain⟨u1,u2⟩:=F.take me true;cases hx:(if f.roomOf me false=0 then(f,none) else f.take me true:Fab × Option Pkt) with
    | mk f2 y=>
     cases y with
     | some p=>
      simp only;have ht:f.take me true=(f2,some p):=by
       split at hx
       ·cases hx
       ·exact hx
      rw [ht] at u1 u2;exact aaX hc I R u1 (u2 p rfl)
     | none=>
      simp only;cases hcu:n.bG.cur with
      | none=> exact⟨I,R,F,rfl⟩
      | some o=>
       simp only;by_cases hd:n.aF.step=0
       ·rw [if_pos hd];exact adB hc I R F hcu hd
       ·rw [if_neg hd];exact⟨I,R,F,rfl⟩
end
def adD(m:bW):Prop:=∀(i:Nat) n,m.aH[i]?=some n->yc m.c i n.home
theorem aaY {m:bW}(I:adu m)(R:adD m)(i:Int):adu (m.step i).1/\adD (m.step i).1:=by
 unfold bW.step bW.bn;by_cases h0:0<=i
 ·rw [if_pos h0];cases hn:m.aH[i.toNat]? with
  | none=> exact⟨I,R⟩
  | some n=>
   have hi:=(zai.1 hn).1;have hii:((i.toNat:Nat):Int)=i:=by omega
   have NI:=I.bn i.toNat n hn;have NR:=R i.toNat n hn;rw [hii] at NI NR;have b1:=adC (t:=m.trace) I.ok NI NR I.fab;simp only;generalize n.step m.c i m.fab m.trace=r at b1;obtain⟨⟨n',f',t'⟩,k⟩:=r;refine⟨⟨I.ok,by simp only [zbY];exact I.len,b1.fab,λj a ha=> ?_,?_⟩,λj a ha=> ?_⟩
   ·simp only at ha ⊢;by_cases hj:j=i.toNat
    ·subst hj;rw [za7 hi] at ha;cases ha;rw [hii];exact b1.inv
    ·rw [zbc (λe=> hj e.symm)] at ha;exact I.bn j a ha
   ·have e1:=Tj Node.evs (a':=n') hn;have e2:=b1.evs;have e3:=I.evs;simp only at e2 ⊢;omega
   ·simp only at ha ⊢;by_cases hj:j=i.toNat
    ·subst hj;rw [za7 hi] at ha;cases ha;rw [hii];exact b1.dD
    ·rw [zbc (λe=> hj e.symm)] at ha;exact R j a ha
 ·rw [if_neg h0];exact⟨I,R⟩
theorem Qw {m:bW}(I:adu m)(a b k:Int):adu (m.deliver a b k).1:=⟨I.ok,I.len,I.fab.deliver a b k,I.bn,I.evs⟩
def DX(f:Fab):Prop:=∀p∈f.l,∀q,q∈p.rq∨q∈p.an->f.is q.dst=true
theorem amF(f:Fab)(i:Int)(p:Port)(k:Int):(f.put i p).is k=f.is k:=by
 unfold Fab.is Fab.put;simp
theorem DX.put {f:Fab}(D:DX f)(i:Int){p:Port}(h:∀q,q∈p.rq∨q∈p.an->f.is q.dst=true):DX (f.put i p):=by
 intro x hx q hq;rw [amF];unfold Fab.put at hx;rcases zbL hx with hx | rfl
 ·exact D x hx q hq
 ·exact h q hq
theorem DX.at {f:Fab}(D:DX f)(i:Int):∀q,q∈(f.port i).rq∨q∈(f.port i).an->f.is q.dst=true:=by
 intro q hq;unfold Fab.port at hq;rw [zas] at hq;cases h:f.l[i.toNat]? with
 | none=> rw [h] at hq;simp [Port.zero] at hq
 | some p=> rw [h] at hq;exact D p (zav h) q hq
theorem DX.send {f:Fab}(D:DX f)(p:Pkt):DX (f.send p).1:=by
 unfold Fab.send;split
 ·exact D
 ·rename_i hc;split
  ·exact D
  ·refine D.put _ λq hq=> ?_;have hd:f.is p.dst=true:=by
    cases h:f.is p.dst with
    | true=> rfl
    | false=> simp [h] at hc
   cases hk:oW p.aO with
   | true=>
    rw [hk] at hq;simp only [Port.jE,Port.sort,if_true,zaL,zaO] at hq;rcases hq with(hq | rfl) | hq
    ·exact D.at _ q (.inl hq)
    ·exact hd
    ·exact D.at _ q (.inr hq)
   | false=>
    rw [hk] at hq;simp only [Port.jE,Port.sort,zaf,if_false,zaL,zaO] at hq;rcases hq with hq | hq | rfl
    ·exact D.at _ q (.inl hq)
    ·exact D.at _ q (.inr hq)
    ·exact hd
theorem DX.kL {f:Fab}(D:DX f)(i:Int)(req:Bool)(l:List Pkt):DX (f.put i ((f.port i).kL req l)):=by
 refine D.put _ λq hq=> D.at i q ?_;cases req <;> exact hq
theorem DX.take {f:Fab}(D:DX f)(i:Int)(req:Bool):DX (f.take i req).1:=by
 unfold Fab.take;split
 ·split
  ·exact D
  ·exact D.kL _ _ _
 ·exact D
theorem DX.remove {f:Fab}(D:DX f)(k:Nat):DX (f.remove k):=by
 unfold Fab.remove;split
 ·refine D.put _ λq hq=> ?_;rename_i i req k' _;refine D.at i q ?_;cases req with
  | true=>
   simp only [Port.drop,Port.jE,Port.sort,if_true] at hq;exact hq.imp zcz id
  | false=>
   simp only [Port.drop,Port.jE,Port.sort,zaf,if_false] at hq;exact hq.imp id zcz
 ·exact D
theorem DX.deliver {f:Fab}(D:DX f)(a b k:Int):DX (f.deliver a b k).1:=by
 unfold Fab.deliver;split
 ·exact D
 split
 ·exact D
 split
 ·exact D
 split
 ·exact D
 ·exact(D.kL _ _ _).remove _
theorem DX.all {f:Fab}(D:DX f):∀p∈f.all,f.is p.dst=true:=by
 intro p hp;unfold Fab.all at hp;obtain⟨q,hq,hp⟩:=za0.1 hp;rcases zaL.1 hp with hp | hp
 ·exact D q hq p (.inl hp)
 ·exact D q hq p (.inr hp)
theorem DX.new(c:Cfg):DX (.new c):=by
 intro p hp q hq;rw [Fab.new,List.mem_replicate] at hp;rw [hp.2] at hq;simp [Port.zero] at hq
theorem AY(c:Cfg)(me aj:Int):∀n:Nat,jh (c.nR me n) aj=if 0<=aj/\aj < n/\c.aX aj=me then some ⟨0,-1,c.first aj⟩ else none
 | 0=> by
  have:¬(0<=aj/\aj < ((0:Nat):Int)/\c.aX aj=me):=by omega
  rw [if_neg this];rfl
 | n+1=> by
  simp only [Cfg.nR];by_cases h:c.aX n=me
  ·rw [if_pos h,iw,AY c me aj n];by_cases e:(n:Int)=aj
   ·subst e;rw [if_pos rfl,if_pos ⟨by omega,by omega,h⟩]
   ·rw [if_neg e];by_cases h2:0<=aj/\aj < n/\c.aX aj=me
    ·rw [if_pos h2,if_pos ⟨h2.1,by omega,h2.2.2⟩]
    ·rw [if_neg h2,if_neg (λh3=> h2 ⟨h3.1,by omega,h3.2.2⟩)]
  ·rw [if_neg h,AY c me aj n];by_cases h2:0<=aj/\aj < n/\c.aX aj=me
   ·rw [if_pos h2,if_pos ⟨h2.1,by omega,h2.2.2⟩]
   ·rw [if_neg h2,if_neg (λh3=> h2 ⟨h3.1,(by
     have:aj≠n:=λe=> h (by rw [<-e];exact h3.2.2);omega),h3.2.2⟩)]
structure NX(T:Nat)(n:Node):Prop where
 Tv:0<=n.num
 num1:n.num < 4096
 dat:n.aF.data.length<=4
 ws:∀aj,(n.home.aP.ws aj).length<=T
theorem NX.mono {T T':Nat}{n:Node}(h:NX T n)(hT:T<=T'):NX T' n:=⟨h.Tv,h.num1,h.dat,λl=> zax (h.ws l) hT⟩
section
variable {d:bJ}{ca:Cache}{p:Pkt}{me:Int}
theorem afW(hc:∀e∈ca.l,e.data.length<=4){aj:Int}{e:Ent}(h:ca.find aj=some e):e.data.length<=4:=by
 unfold Cache.find at h;exact hc e (zba h)
theorem aaZ(hd:d.data.length<=4)(hp:p.data.length<=4):(dQ d me ca p).2.1.data.length<=4:=by
 unfold dQ vN
 repeat' split
 all_goals first
  | exact hd
  | exact hp
  | exact zaS _
  | (show List.length (if _ then _ else _)<=4;split <;> first | exact hp | exact zaS _)
theorem DR(hd:d.data.length<=4):(bT d me ca).2.data.length<=4:=by
 unfold bT;simp only
 repeat' split
 all_goals first
  | exact hd
  | exact zaS _
theorem adE(hc:∀e∈ca.l,e.data.length<=4)(hd:d.data.length<=4)(hp:p.data.length<=4):(dS d me ca p).2.1.data.length<=4:=by
 unfold dS vN;split
 ·exact zaS _
 split
 ·refine DR ?_;cases h:ca.find d.aj with
  | none=> exact hp
  | some e=> exact afW hc h
 split
 ·refine DR ?_;cases h:ca.find d.aj with
  | none=> exact hp
  | some e=> exact hd
 split
 ·exact hd
 ·exact zaS _
theorem ah7(hc:∀e∈ca.l,e.data.length<=4)(hd:d.data.length<=4):(eF d ca p).2.1.data.length<=4:=by
 unfold eF vN gJ;split
 ·exact zaS _
 split
 ·simp only;split
  ·exact zaS _
  ·rename_i e h;split
   ·show List.length (if e.cO=true then e.data else [])<=4;split
    ·exact afW hc h
    ·exact zaS _
   ·split <;> exact zaS _
 repeat' split
 all_goals first
  | exact hd
  | exact zaS _
end
section
variable {T:Nat}{n:Node}{c:Cfg}{me:Int}{f:Fab}{t:List Evn}
theorem aa0(h:NX T n)(v:Int):NX T (n.done me t v).1:=⟨h.Tv,h.num1,h.dat,h.ws⟩
theorem Qx(h:NX T n):NX T (n.effect c me t).1:=⟨h.Tv,h.num1,h.dat,h.ws⟩
theorem ET(h:NX T n)(aO aj:Int):NX T (n.begin_ c me f aO aj).1:=by
 have h0:=h.Tv;have h1:(n.num+1).tmod 4096=(n.num+1) % 4096:=zcr (by omega);refine⟨?_,?_,zaS _,h.ws⟩
 ·show 0<=(n.num+1).tmod 4096;omega
 ·show(n.num+1).tmod 4096 < 4096;omega
theorem EU {n:Node}(h:DX f)(aO aj:Int):DX (n.begin_ c me f aO aj).2:=h.send _
theorem aa1 {n:Node}(h:DX f):DX (n.ab8 c me f):=h.send _
theorem VF(hc:∀e∈n.aI.l,e.data.length<=4)(h:NX T n){p:Pkt}(hp:p.data.length<=4):(n.after me p).2.1.data.length<=4:=by
 unfold Node.after vN
 repeat' split
 ·exact aaZ h.dat hp
 ·exact adE hc h.dat hp
 ·exact ah7 hc h.dat
 ·exact zaS _
theorem Xm(hc:∀e∈n.aI.l,e.data.length<=4)(h:NX T n)(D:DX f){p:Pkt}(hp:p.data.length<=4):NX T (n.answered c me f t p).1/\DX (n.answered c me f t p).2.1:=by
 have hd:=VF (me:=me) hc h hp;unfold Node.answered;split;rename_i ca d ok e;rw [e] at hd;have h1:NX T { n with aI:=ca,aF:=d }:=⟨h.Tv,h.num1,hd,h.ws⟩
 split
 ·exact⟨⟨h.Tv,h.num1,h.dat,h.ws⟩,D⟩
 ·simp only;split
  ·split
   ·exact⟨aa0 (me:=me) (t:=t) h1 0,D⟩
   ·exact⟨h1,D⟩
  ·split
   ·exact⟨Qx (c:=c) (me:=me) (t:=t) h1,aa1 D⟩
   ·exact⟨h1,aa1 D⟩
theorem afX {t:Turns}(h:∀aj,(t.ws aj).length<=T)(aj who id:Int):∀l,((t.ask aj who id).1.ws l).length<=T+1:=by
 intro l;unfold Turns.ask;split
 ·exact zbW (h l)
 split
 ·unfold Turns.ws;simp only;rw [iw];split
  ·rw [zat,zao];exact Nat.succ_le_succ (h aj)
  ·exact zbW (h l)
 ·exact zbW (h l)
theorem Xn {t:Turns}(h:∀aj,(t.ws aj).length<=T)(aj who:Int):∀l,((t.release aj who).1.ws l).length<=T:=by
 intro l;unfold Turns.release;split <;> exact h l
theorem ah8 {t:Turns}(h:∀aj,(t.ws aj).length<=T)(aj:Int):∀l,((t.next aj).1.ws l).length<=T:=by
 intro l;unfold Turns.next
 split
 ·exact h l
 split
 ·exact h l
 ·rename_i w ws e;have hh:=h aj;rw [e] at hh;unfold Turns.ws;simp only;rw [iw];split
  ·rw [zat];exact Nat.le_of_succ_le hh
  ·exact h l
theorem aa2 {hm:Home}(h:∀aj,(hm.aP.ws aj).length<=T)(p:Pkt):∀l,((hm.handle c me p).1.aP.ws l).length<=T+1:=by
 have h':∀l,(hm.aP.ws l).length<=T+1:=λl=> zbW (h l);unfold Home.handle;split
 ·exact h'
 split
 ·exact h'
 split
 ·simp only;split
  ·exact afX h _ _ _
  ·exact afX h _ _ _
 ·have hu:∀l,((hm.unlock c p).1.aP.ws l).length<=T+1:=by
   unfold Home.unlock;split
   ·exact h'
   ·simp only;generalize iC c hm.dD p.aj p.aT p.ptr (if p.flag then p.data else [])=r;split
    ·exact λl=> zbW (Xn h _ _ l)
    ·exact h'
  simp only;split <;> exact hu
theorem adF {hm:Home}(h:∀aj,(hm.aP.ws aj).length<=T):∀l,((hm.grant me).1.aP.ws l).length<=T:=by
 unfold Home.grant;split
 ·exact h
 ·rename_i aj _ _;have hn:=ah8 h aj;split
  ·rename_i e;rw [e] at hn;exact hn
  ·exact h
theorem ah9(h:NX T n)(D:DX f)(p:Pkt):NX (T+1) (n.asked c me f p).1/\DX (n.asked c me f p).2:=by
 unfold Node.asked;split
 ·have hw:=aa2 (c:=c) (me:=me) h.ws p;split;rename_i hm out ok e he;rw [he] at hw;refine⟨⟨h.Tv,h.num1,h.dat,hw⟩,?_⟩;simp only;split
  ·exact D.send _
  ·exact D
 ·split;refine⟨⟨h.Tv,h.num1,h.dat,λl=> zbW (h.ws l)⟩,?_⟩;simp only;split
  ·exact D.send _
  ·exact D
theorem amG(h:NX T n)(D:DX f)(o:Opn):NX T (n.work c me f t o).1/\DX (n.work c me f t o).2.1:=by
 have h1:NX T { n with bG:={ n.bG with dU:=true } }:=⟨h.Tv,h.num1,h.dat,h.ws⟩
 unfold Node.work;simp only;split
 ·exact⟨aa0 (me:=me) (t:=t) h1 0,D⟩
 split
 ·exact⟨ET (c:=c) (me:=me) (f:=f) h1 _ _,EU D _ _⟩
 split
 ·exact⟨Qx (c:=c) (me:=me) (t:=if n.bG.dU then t else t++[⟨me,n.bG.bf.length,false,0⟩]) ⟨h.Tv,h.num1,h.dat,h.ws⟩,D⟩
 split
 ·exact⟨ET (c:=c) (me:=me) (f:=f) h1 _ _,EU D _ _⟩
 split
 ·exact⟨ET (c:=c) (me:=me) (f:=f) h1 _ _,EU D _ _⟩
 ·exact⟨ET (c:=c) (me:=me) (f:=f) h1 _ _,EU D _ _⟩
theorem afY(hc:∀e∈n.aI.l,e.data.length<=4)(hf:∀i req p,(f.take i req).2=some p->p.data.length<=4)(h:NX T n)(D:DX f):NX (T+1) (n.step c me f t).1.1/\DX (n.step c me f t).1.2.1:=by
 have h':=h.mono (za3 T);unfold Node.step;split
 ·rename_i f' p e;have D':=D.take me false;have hp:=hf me false p (by rw [e]);rw [e] at D';obtain⟨a,b⟩:=Xm (c:=c) (me:=me) (t:=t) hc h' D' hp;exact⟨a,b⟩
 ·split
  ·exact⟨⟨h.Tv,h.num1,h.dat,λl=> zbW (adF h.ws l)⟩,D.send _⟩
  ·split
   ·rename_i f' p e;have D':DX f':=by
     split at e
     ·cases e
     ·have:=D.take me true;rw [e] at this;exact this
    exact ah9 h D' p
   ·split
    ·split
     ·exact amG h' D _
     ·exact⟨h',D⟩
    ·exact⟨h',D⟩
end
structure MX(T:Nat)(m:bW):Prop where
 inv:adu m
 dD:adD m
 dst:DX m.fab
 bn:∀(i:Nat) n,m.aH[i]?=some n->NX T n
theorem MX.mono {T T':Nat}{m:bW}(h:MX T m)(hT:T<=T'):MX T' m:=⟨h.inv,h.dD,h.dst,λi n hn=> (h.bn i n hn).mono hT⟩
theorem Eo.le {c:Cfg}(hc:c.ok=true){ca:Cache}(I:Eo c ca):∀e∈ca.l,e.data.length<=4:=by
 intro e he;have h1:=(I.ent e he).dat;have h2:=(mM hc).2.2.1;have:=h1.1;omega
theorem MX.step {T:Nat}{m:bW}(X:MX T m)(i:Int):MX (T+1) (m.step i).1:=by
 obtain⟨h1,h2⟩:=aaY X.inv X.dD i;refine⟨h1,h2,?_,?_⟩
 ·unfold bW.step;split
  ·exact X.dst
  ·rename_i n hn;split;rename_i n' f t k e;unfold bW.bn at hn;split at hn
   ·rename_i hi;have NI:=X.inv.bn _ n hn;have:=(afY (c:=m.c) (me:=i) (t:=m.trace) (NI.aI.le X.inv.ok) (λi req p hp=> by
     have:=((X.inv.fab.take i req).2 p hp).ok;simp only [Pkt.ok,zah,decide_eq_true_eq] at this;omega) (X.bn _ n hn) X.dst).2
    rw [e] at this;exact this
   ·cases hn
 ·intro j n hj;unfold bW.step at hj;split at hj
  ·exact(X.bn j n hj).mono (za3 T)
  ·rename_i n0 hn;split at hj;rename_i n' f t k e;unfold bW.bn at hn;split at hn
   ·rename_i hi;simp only at hj;rw [zcK] at hj;split at hj
    ·split at hj
     ·cases hj;have NI:=X.inv.bn _ n0 hn;have:=(afY (c:=m.c) (me:=i) (t:=m.trace) (NI.aI.le X.inv.ok) (λi req p hp=> by
       have:=((X.inv.fab.take i req).2 p hp).ok;simp only [Pkt.ok,zah,decide_eq_true_eq] at this;omega) (X.bn _ n0 hn) X.dst).1
      rw [e] at this;exact this
     ·cases hj
    ·exact(X.bn j n hj).mono (za3 T)
   ·cases hn
theorem MX.deliver {T:Nat}{m:bW}(X:MX T m)(a b k:Int):MX T (m.deliver a b k).1:=by
 exact⟨Qw X.inv a b k,X.dD,X.dst.deliver a b k,X.bn⟩
theorem MX.do_ {T:Nat}{m:bW}(X:MX T m)(p:Pck):MX (T+1) (m.do_ p).1:=by
 unfold bW.do_;split
 ·exact(X.deliver _ _ _).mono (za3 T)
 ·exact X.step _
theorem aa3 {c:Cfg}(hc:c.ok=true)(ps:List (List Opn)):adD (.new c ps):=λi n hn aj hl=> by
 simp only [bW.new,zbd,zcJ] at hn;obtain⟨l,_,rfl⟩:=hn;unfold kN at hl;simp only [zah,decide_eq_true_eq] at hl;have h1:=(mM hc).1;have h2:aj < c.bg:=hl.1.2;refine⟨⟨0,-1,c.first aj⟩,?_⟩;show jh (c.nR i c.bg.toNat) aj=_;rw [AY,if_pos ⟨hl.1.1,by omega,by unfold Cfg.aX yw;rw [if_neg (by omega)];exact hl.2⟩]
theorem apr {g:bD}{x y:Nat}{A B:List Cell}(k:Nat)(h:g x=some A)(h':g y=some B)(hl:A[k]?≠B[k]?):x≠y:=λe=> by
 subst e;rw [h] at h';exact hl (by rw [za2 h'])
def afZ(A:Adr)(k n:Nat)(q:Nat):Prop:=(∃i s,i < k/\s < 6/\q=A.N i s)∨NG A.P n q∨q=A.trace
section
variable {b:Nat}{H:ah}{g g':bD}{A:Adr}{m:bW}{T:Nat}
theorem af0 {m:bW}(I:adu m):m.trace.length<=1000:=by
 have B:=EM I.ok;have hl:=I.len;have:∀(l:List Node),(∀n∈l,Node.evs n<=49)->(l.map Node.evs).sum<=49*l.length:=by
  intro l
  induction l with
  | nil=> intro _;simp
  | cons n l ih=>
   intro h;have h1:=h n (by simp);have h2:=ih λx hx=> h x (by simp [hx]);simp only [zaz,zbS,zal];omega
 have h1:=this m.aH λn hn=> by
  obtain⟨i,hi⟩:=zbs.1 hn;have P:=(I.bn i n hi).bG;have:=P.most;have:=P.vals;unfold Node.evs;split <;> omega
 rw [I.evs];have:=B.aH;omega
def aps(A:Adr)(i:Nat):Iw:=⟨A.N i,A.fab,A.P,A.trace⟩
theorem mO.nw(M:mO g A m){i:Nat}{n:Node}(hi:m.aH[i]?=some n):NW g (aps A i) m.c i (n,m.fab,m.trace):=⟨M.bn i n hi,M.fab,M.trace,M.PU,M.tf⟩
theorem mO.aa4(M:mO g A m){q:Nat}(h:afZ A m.aH.length m.fab.l.length q):A.zW≠q:=by
 have hm:=M.zW;rcases h with⟨i,s,hi,hs,rfl⟩ | ⟨i,s,hi,hs,rfl⟩ | rfl
 ·obtain⟨n,hn⟩:∃n,m.aH[i]?=some n:=⟨_,zab hi⟩
  obtain⟨h0,h1,h2,h3,h4,h5⟩:=M.bn i n hn;have l11:(SH A m.c m.aH.length).length=11:=by simp [SH,Z7,Cfg.av]
  match s,hs with
  | 0,_=> exact jy hm h0 (by rw [l11];simp only [gW];decide)
  | 1,_=> exact jy hm h1 (by rw [l11];simp only [gy];decide)
  | 2,_=> exact jy hm h2 (by rw [l11];simp only [iK];decide)
  | 3,_=> exact apr 10 hm h3 (by simp [SH,Z7,Cfg.av,GY])
  | 4,_=> exact jy hm h4 (by rw [l11];simp only [jV];decide)
  | 5,_=> exact jy hm h5 (by rw [l11];simp only [gB];decide)
 ·exact jy hm (gK (M.fab.port hi) hs) (by simp [SH,Z7,Cfg.av,nM])
 ·exact jy hm M.trace (by simp [SH,Z7,Cfg.av,jG])
theorem mO.len(M:mO g A m)(I:adu m):m.aH.length=m.fab.l.length:=by
 have:=I.len;have:=I.fab.len;omega
theorem adG(G:Good b H g)(hb:H.base<=b)(M:mO g A m)(X:MX T m)(hT:T < 999000){i:Nat}{n:Node}(hi:m.aH[i]?=some n):
  ∃H' g',cl 13 [.ref (A.N i 0) 0 0,.ref A.fab 0 0,.ref A.trace 0 0] H=some (I (m.step i).2,H')/\Good b H' g'/\mO g' A (m.step i).1/\Off (afZ A m.aH.length m.fab.l.length) g g'/\Step b H H':=by
 have N:=M.nw hi;have NX:=X.bn i n hi;have NI:=X.inv.bn i n hi;have hil:i < m.aH.length:=(zai.1 hi).1;have W:=Walk.of G hb N;obtain⟨K',g',e1,W'⟩:=VA W X.inv.ok X.inv.fab NI ⟨NX.Tv,by have:=NX.num1;show n.num < 1000000;omega⟩ (by have:=af0 X.inv;show m.trace.length < 999999;omega) (by have:=NX.dat;show n.aF.data.length < 1000000000;omega) (λaj=> by have:=NX.ws aj;show(n.home.aP.ws aj).length < 1000000;omega);have hst:m.step i=({ m with aH:=m.aH.set i (n.step m.c i m.fab m.trace).1.1,fab:=(n.step m.c i m.fab m.trace).1.2.1,trace:=(n.step m.c i m.fab m.trace).1.2.2 },(n.step m.c i m.fab m.trace).2):=by
  unfold bW.step bW.bn;rw [if_pos (by omega),zaq,hi]
 rw [hst];have hO:Off (XI (aps A i) m.fab.l.length) g g':=W'.off;have hsub:∀q,XI (aps A i) m.fab.l.length q->afZ A m.aH.length m.fab.l.length q:=by
  rintro q (⟨s,hs,rfl⟩ | h | rfl)
  ·exact .inl ⟨i,s,hil,hs,rfl⟩
  ·exact .inr (.inl h)
  ·exact .inr (.inr rfl)
 have hN':=W'.nw;have hlen':=W'.len;refine⟨K',g',e1,W'.loc.out,⟨?_,hN'.tr,hN'.fab,λj n' hj=> ?_,?_,?_,M.tf⟩,hO.mono hsub,W'.step⟩
 ·show g' A.zW=some (SH A m.c (m.aH.set i _).length);rw [zbY,hO A.zW λh=> M.aa4 (hsub _ h) rfl];exact M.zW
 ·simp only at hj;by_cases hij:i=j
  ·subst hij;rw [za7 hil] at hj;cases hj;exact hN'.bn
  ·rw [zbc hij] at hj;have hjl:j < m.aH.length:=(zai.1 hj).1;have Nj:=M.nw hj;refine(M.bn j n' hj).ext λs hs=> hO _ ?_;rintro(⟨t,ht,e⟩ | h | e)
   ·exact hij (M.am8 _ _ _ _ hjl hil hs ht e).1.symm
   ·exact(Nj.Td h).1 s hs rfl
   ·exact Nj.Vx s hs e
 ·show PO A.P _;have:(n.step m.c i m.fab m.trace).1.2.1.l.length=m.fab.l.length:=hlen';rw [this];exact M.PU
 ·show ap5 A.N (m.aH.set i _).length;rw [zbY];exact M.am8
theorem Tz(G:Good b H g)(hb:H.base<=b)(M:mO g A m)(X:MX T m){at_ bit mask:Int}(h64:vT at_)(hbit:vT bit)(m0:0<=mask)(m1:mask<=65535):
  ∃H' g',cl 14 [.ref A.fab 0 0,I at_,I bit,.s (.int .u16 mask)] H=some (I (m.deliver at_ bit mask).2,H')/\Good b H' g'/\mO g' A (m.deliver at_ bit mask).1/\Off (afZ A m.aH.length m.fab.l.length) g g'/\Step b H H':=by
 have B:=EM X.inv.ok;have h0:m.fab.l.length≠0:=by have:=X.inv.fab.len;have:=B.aH;omega
 obtain⟨H',g',e1,G',F',O',S'⟩:=J3 G hb M.fab M.PU (fok X.inv.ok X.inv.fab) h0 (λp hp=> ⟨⟨(X.inv.fab.pkt hp).ok,(X.inv.fab.pkt hp).num⟩,X.dst.all p hp⟩) h64 hbit m0 m1;have hsub:∀q,NG A.P m.fab.l.length q->afZ A m.aH.length m.fab.l.length q:=λq h=> .inr (.inl h);have hlen:(m.fab.deliver at_ bit mask).1.l.length=m.fab.l.length:=by
  have h1:=(X.inv.fab.deliver at_ bit mask).len;have h2:=X.inv.fab.len;omega
 refine⟨H',g',e1,G',⟨?_,?_,F',λj n' hj=> ?_,?_,M.am8,M.tf⟩,O'.mono hsub,S'⟩
 ·rw [O' A.zW λh=> M.aa4 (hsub _ h) rfl];exact M.zW
 ·rw [O' A.trace λ⟨i,s,hi,hs,e⟩=> by
   have:=gK (M.fab.port hi) hs;exact jy M.trace this (by simp [jG,nM]) e]
  exact M.trace
 ·exact(M.bn j n' hj).ext λs hs=> O' _ λh=> ((M.nw hj).Td h).1 s hs rfl
 ·show PO A.P (m.fab.deliver at_ bit mask).1.l.length;rw [hlen];exact M.PU
theorem apt(G:Good b H g)(hb:H.base<=b)(M:mO g A m)(X:MX T m)(hT:T < 999000)(p:Pck)(h64:vT p.at_)(hbit:vT p.bit)(m0:0<=p.mask)(m1:p.mask<=65535):
  ∃H' g',cl 23 [.ref A.zW 0 0,.agg p.av] H=some (B (m.do_ p).2,H')/\Good b H' g'/\mO g' A (m.do_ p).1/\Off (afZ A m.aH.length m.fab.l.length) g g'/\Step b H H':=by
 let H1:=H.new (.blk 0 68 p.av);have G1:Good b H1 g:=G.new _;have g1:H1.get H.next=.blk 0 68 p.av:=bC rfl
 have l0:ld (.ref H.next 0 0) H1=some (B p.deliver,H1):=by rw [gu g1];rfl
 have l1:ld (.ref H.next 0 1) H1=some (I p.at_,H1):=by rw [gu g1];rfl
 have l2:ld (.ref H.next 0 2) H1=some (I p.bit,H1):=by rw [gu g1];rfl
 have l3:ld (.ref H.next 0 3) H1=some (.s (.int .u16 p.mask),H1):=by rw [gu g1];rfl
 have f0:=G1.load M.zW (i:=0) (x:=.ref A.fab 0 0) rfl;have f1:=G1.load M.zW (i:=1) (x:=.ref A.trace 0 0) rfl;have S1:Step b H H1:=Step.new _ G.1;have hb1:H1.base<=b:=by simp only [H1,jC];exact hb
 have B:=EM X.inv.ok;cases hd:p.deliver with
 | true=>
  rw [hd] at l0;obtain⟨H',g',e1,G',M',O',S'⟩:=Tz G1 hb1 M X h64 hbit m0 m1;have hdo:m.do_ p=((m.deliver p.at_ p.bit p.mask).1,decide ((m.deliver p.at_ p.bit p.mask).2=0)):=by
   unfold bW.do_;rw [hd];rfl
  rw [hdo];refine⟨H',g',bI rfl rfl (agX _ _ _ _ ?_),G',M',O',S1.trans S'⟩;simp only [H1] at l0 l1 l2 l3 f0 f1 e1;simp only [Nat.reduceLT,xq_,hq_,acp,aG (Gj p),l0,l1,l2,l3,f0,e1]
 | false=>
  rw [hd] at l0;have hdo:m.do_ p=((m.step p.at_).1,decide ((m.step p.at_).2≠0)):=by
   unfold bW.do_;rw [hd];rfl
  rw [hdo];have e0:=ac6 G1 M (by have:=X.inv.len;have:=B.aH;omega) p.at_;by_cases hi:0<=p.at_/\p.at_ < m.aH.length
  ·rw [if_pos hi] at e0;obtain⟨i,hii⟩:∃i:Nat,p.at_=i:=⟨p.at_.toNat,by omega⟩
   rw [hii] at e0 hi l1;rw [hii];rw [zaq] at e0;obtain⟨n,hn⟩:∃n,m.aH[i]?=some n:=⟨_,zab (by omega)⟩
   obtain⟨H',g',e1,G',M',O',S'⟩:=adG G1 hb1 M X hT hn;refine⟨H',g',bI rfl rfl (agX _ _ _ _ ?_),G',M',O',S1.trans S'⟩;have nn:bi .neq 35 (.ref (A.N i 0) 0 0) zP=some (.s (.bool true)):=by kernel_rfl
   simp only [H1] at l0 l1 f0 f1 e0 e1;simp only [Nat.reduceLT,xq_,hq_,acp,aG (Gj p),l0,l1,f0,f1,e0,nn,e1];simp
  ·rw [if_neg hi] at e0;have hst:m.step p.at_=(m,0):=by
    unfold bW.step bW.bn;by_cases h0:0<=p.at_
    ·rw [if_pos h0,zaH (by omega)]
    ·rw [if_neg h0]
   rw [hst];refine⟨H1,g,bI rfl rfl (agX _ _ _ _ ?_),G1,M,Off.refl _ _,S1⟩;have nn:bi .neq 35 zP zP=some (.s (.bool false)):=by kernel_rfl
   simp only [H1] at l0 l1 e0;simp only [Nat.reduceLT,xq_,hq_,acp,aG (Gj p),l0,l1,e0,nn]
   try rfl
end
theorem Good.low {b:Nat}{H H':ah}{g:bD}(G:Good b H g)(hn:H.next<=H'.next)(hg:∀r,b<=r->H'.get r=H.get r):Good b H' g:=by
 obtain⟨h0,τ,h1⟩:=G;have os:∀{T x m cells},OS b H τ T x m cells->OS b H' τ T x m cells:=by
  intro T x m cells ho;rcases ho with ho | ⟨r,g,off,n,cap,ex,ty,all,h2,h3,h4,h5,h6,h7,h8⟩
  ·exact .inl ho
  ·exact .inr ⟨r,g,off,n,cap,ex,ty,all,h2,h3,h4,by omega,h6,by rw [hg r h4];exact h7,h8⟩
 have om:∀{T x k es},OM b H τ T x k es->OM b H' τ T x k es:=by
  intro T x k es ⟨r,h2,h3,h4,h5,h6⟩;exact⟨r,h2,h3,h4,by omega,by rw [hg r h4];exact h6⟩
 refine⟨by omega,τ,λq cs hq=> ?_⟩;have R:=h1 q cs hq;have lo:=R.lo;obtain⟨ty,xs,k1,k2,k3,k4⟩:=R.blk;refine⟨R.tag,R.lo,by have:=R.hi;omega,wC (by rw [hg q lo];exact k1) (R.tyl _ _ _ k1),ty,xs,by rw [hg q lo];exact k1,k2,k3,λi c x hc hx=> ?_⟩;have:=k4 i c x hc hx;cases c with
 | av _=> exact this
 | seq _ _=> exact os this
 | map _ _=> exact om this
 | maps _ _ _=>
  obtain⟨aes,a1,a2,a3⟩:=this;exact⟨aes,om a1,a2,λj n cells x hj hx=> os (a3 j n cells x hj hx)⟩
 | aew _ _ _=>
  obtain⟨ys,a1,a2,a3⟩:=this;exact⟨ys,os a1,a2,λj cells x hj hx=> os (a3 j cells x hj hx)⟩
theorem mO.sub {g g':bD}{A:Adr}{m:bW}(h:mO g A m)(hg:ru g g'):mO g' A m:=by
 refine⟨hg _ _ h.zW,hg _ _ h.trace,⟨hg _ _ h.fab.1,λi p hp=> ?_,h.fab.2.2⟩,λi n hn=> ?_,h.PU,h.am8,h.tf⟩
 ·obtain⟨a,b,c,d⟩:=h.fab.2.1 i p hp;exact⟨hg _ _ a,hg _ _ b,hg _ _ c,hg _ _ d⟩
 ·obtain⟨a,b,c,d,e,f⟩:=h.bn i n hn;exact⟨hg _ _ a,hg _ _ b,hg _ _ c,hg _ _ d,hg _ _ e,hg _ _ f⟩
theorem RU.sub {g g':bD}{q f:Nat}{N:Nat->Nat->Nat}{m:kM}(h:RU g q f N m)(hg:ru g g'):RU g' q f N m:=by
 have hd:∀{x l},sW g x l->sW g' x l:=λh=> h.sub λq cs hq _=> hg q cs hq;obtain⟨ls,f1,f2,f3⟩:=h.fab;refine⟨hg _ _ h.zW,⟨ls,hg _ _ f1,f2,λi l cells hl hc=> (f3 i l cells hl hc).mono λp cs _ ⟨x,a,b⟩=> ⟨x,hd a,b⟩⟩,λi n hn=> ?_,h.inj⟩;obtain⟨⟨d,⟨x,d1,d2⟩,h0⟩,⟨cells,k,h1⟩,⟨dD,r,h2⟩⟩:=h.bn i n hn;exact⟨⟨d,⟨x,hd d1,d2⟩,hg _ _ h0⟩,⟨cells,k.mono λe cs _ ⟨x,a,b⟩=> ⟨x,hd a,b⟩,hg _ _ h1⟩,⟨dD,r.mono λe cs _ ⟨x,a,b⟩=> ⟨x,hd a,b⟩,hg _ _ h2⟩⟩
theorem MZ {b n:Nat}{H1:ah}{g g':bD}(G:Good b H1 g)(hn:H1.next=n):ru g (cup n g g'):=λq cs hq=> lT G hq hn
theorem VG {b n:Nat}{H1:ah}{g g':bD}(G:Good b H1 g')(hn:n<=b):ru g' (cup n g g'):=λq cs hq=> oQ G hq hn
theorem J5:vT 0:=⟨by decide,by decide⟩
theorem amH {l:List Int}(h:∀z∈l,vT z)(i:Int):vT (atM l i):=by
 unfold atM;split
 ·rw [zas];cases e:l[i.toNat]? with
  | none=> exact⟨by decide,by decide⟩
  | some v=> exact h v (zav e)
 ·exact⟨by decide,by decide⟩
theorem Xo {c:Cfg}(hc:c.ok=true)(zk za zv:List Int)(hv:∀z∈zv,vT z)(i:Nat):c.right (aah c zk za zv i)=true/\I64 (aah c zk za zv i).value:=by
 have B:=EM hc;have hw:=B.dh;have hl:=B.bg;have h1:1<=oU (atM zk i)/\oU (atM zk i)<=4:=by have:=WJ (atM zk i);omega
 have h0:1<=c.bg*c.dh:=by
  have:=zcy hl.1 hw.1 (by decide) (by omega);omega
 have h2:=qI (v:=atM za i) h0;unfold aah;refine⟨?_,?_⟩
 ·unfold Cfg.right;simp only [zah,decide_eq_true_eq,zbe];refine⟨⟨⟨h1.1,h1.2⟩,?_⟩,?_⟩
  ·unfold Cfg.bV Cfg.oD;rw [if_neg (by omega)];have:=Int.ediv_nonneg h2.1 (show 0<=c.dh by omega);omega
  ·split
   ·rename_i h;rcases h with h | h
    ·exact .inl (.inr h)
    ·exact .inr h
   ·exact .inl (.inl rfl)
 ·simp only;split
  ·exact amH hv i
  ·exact⟨by decide,by decide⟩
theorem AZ {c:Cfg}(hc:c.ok=true)(zw zk za zv:List Int)(hv:∀z∈zv,vT z):∀i,∀l∈kF c zw zk za zv i,∀o∈l,c.right o=true/\I64 o.value
 | 0,l,h=> by
  rw [zca h];intro o ho;cases ho
 | i+1,l,h=> by
  have ih:=AZ hc zw zk za zv hv i;simp only [kF,jr] at h;split at h
  ·rcases zbL h with h | rfl
   ·exact ih l h
   ·intro o ho;rcases zaL.1 ho with ho | ho
    ·rw [zas] at ho;cases e:(kF c zw zk za zv i)[(dP (atM zw i) c.aH).toNat]? with
     | none=> rw [e] at ho;cases ho
     | some l'=> rw [e] at ho;exact ih l' (zav e) o ho
    ·rw [zaO] at ho;subst ho;exact Xo hc zk za zv hv i
  ·exact ih l h
theorem adH {c:Cfg}(hc:c.ok=true)(hi:∀z∈c.init,vT z){aj:Int}(h:0<=aj/\aj < c.bg):pF c (c.first aj):=by
 have B:=EM hc;have hw:=B.dh;unfold Cfg.first
 rw [if_neg (by omega)];refine⟨by rw [zaB,zcL];omega,λv hv=> ?_⟩;obtain⟨j,_,rfl⟩:=zaG.1 hv;rw [zas];cases e:c.init[(aj*c.dh).toNat+j]? with
 | none=> exact⟨by decide,by decide⟩
 | some x=> exact hi x (zav e)
theorem Ig(c:Cfg)(me:Int):∀n:Nat,∀e∈c.nR me n,0<=e.1/\e.1 < n/\e.2.data=c.first e.1
 | 0,e,h=> by cases h
 | n+1,e,h=> by
  simp only [Cfg.nR] at h;have ih:=Ig c me n;split at h
  ·have key:∀(l:List (Int × Row)) (k:Int) (x:Row),e∈lK l k x->e∈l∨(e.1=k/\e.2=x):=by
    intro l
    induction l with
    | nil=>
     intro k x hx;simp only [lK,zaO] at hx;right;rw [hx];exact⟨rfl,rfl⟩
    | cons a l ih=>
     obtain⟨k',v⟩:=a;intro k x hx;simp only [lK] at hx;split at hx
     ·rename_i hk;rcases zaj.1 hx with rfl | hx
      ·exact .inr ⟨by first | rfl | exact hk | exact hk.symm,rfl⟩
      ·exact .inl (za9 _ hx)
     ·rcases zaj.1 hx with rfl | hx
      ·exact .inl (List.mem_cons_self ..)
      ·rcases ih k x hx with hx | hx
       ·exact .inl (za9 _ hx)
       ·exact .inr hx
   rcases key _ _ _ h with h | ⟨h1,h2⟩
   ·have:=ih e h;exact⟨this.1,by omega,this.2.2⟩
   ·exact⟨by omega,by omega,by rw [h2,h1]⟩
  ·have:=ih e h;exact⟨this.1,by omega,this.2.2⟩
theorem af2 {c:Cfg}(hc:c.ok=true)(hi:∀z∈c.init,vT z){ps:List (List Opn)}(hp:c.Wq ps=true)(hv:∀l∈ps,∀o∈l,c.right o=true/\I64 o.value):MX 0 (.new c ps):=by
 have B:=EM hc;have hn:=B.aH;have hb:=B.bg;obtain⟨h1,h2⟩:=acS hp;refine⟨⟨hc,?_,?_,λi n hn=> ?_,?_⟩,aa3 hc ps,DX.new c,λi n hn=> ?_⟩
 ·simp only [bW.new,zdy];exact h1
 ·refine⟨rfl,rfl,?_,λp hp=> ?_⟩
  ·simp only [bW.new,Fab.new,zdj];omega
  ·simp only [bW.new,Fab.new,List.mem_replicate] at hp;rw [hp.2];have:=B.out;have:=B.inn;refine⟨by show((0:Nat):Int)<=c.out;omega,by show((0:Nat):Int)<=c.out;omega,by show((0:Nat):Int)<=c.inn;omega,by show((0:Nat):Int)<=1;omega,λq hq=> by simp [Port.zero] at hq⟩
 ·simp only [bW.new,zbd,zcJ] at hn;obtain⟨l,hl,rfl⟩:=hn;have hm:=zav hl;refine⟨⟨h2 l hm,hv l hm,zaS _,λh=> by cases h⟩,⟨rfl,rfl,List.Pairwise.nil,List.Pairwise.nil,λe he=> (by cases he),λaj=> ?_,zbi 0⟩,λe he=> ?_,⟨⟨List.Pairwise.nil,λe he=> (by cases he),List.Pairwise.nil,λe he=> (by cases he)⟩,λe he=> (by cases he)⟩,λh=> absurd rfl h,zbi 0⟩
  ·have:=B.ways;show(([]:List Ent).length:Int)<=c.ways;simp;omega
  ·obtain⟨r1,r2,r3⟩:=Ig c i _ e he;rw [r3];exact adH hc hi ⟨r1,by omega⟩
 ·have:∀n∈(bW.new c ps).aH,Node.evs n=0:=by
   intro n hn;simp only [bW.new,List.mem_mapIdx] at hn;obtain⟨i,hi,rfl⟩:=hn;rfl
  have h0:∀l:List Node,(∀n∈l,Node.evs n=0)->(l.map Node.evs).sum=0:=by
   intro l
   induction l with
   | nil=> intro _;rfl
   | cons n l ih=>
    intro h;rw [zaz,zbS,h n (by simp),ih λx hx=> h x (by simp [hx])]
  rw [h0 _ this];rfl
 ·simp only [bW.new,zbd,zcJ] at hn;obtain⟨l,hl,rfl⟩:=hn;exact⟨zbi 0,by show(0:Int) < 4096;decide,zaS _,λaj=> zac 0⟩
theorem mO.here {g:bD}{A:Adr}{m:bW}(M:mO g A m){x:Nat}(h:afZ A m.aH.length m.fab.l.length x):∃cs,g x=some cs:=by
 rcases h with⟨i,s,hi,hs,rfl⟩ | ⟨i,s,hi,hs,rfl⟩ | rfl
 ·obtain⟨n,hn⟩:∃n,m.aH[i]?=some n:=⟨_,zab hi⟩
  exact(M.bn i n hn).some hs
 ·exact⟨_,gK (M.fab.port hi) hs⟩
 ·exact⟨_,M.trace⟩
section
variable {b:Nat}{H:ah}{g:bD}{A:Adr}{m:bW}{T:Nat}
theorem MX.fine(X:MX T m):m.fine:=by
 have I:=X.inv;have B:=EM I.ok;have h1:=I.len;have h2:=I.fab.len;have Qy:∀p∈m.fab.l,p.rq.length < 1000/\p.an.length < 1000/\p.rin.length < 1000/\p.ain.length < 1000:=λp hp=> by
  have P:=I.fab.port p hp;have:=P.rq;have:=P.an;have:=P.rin;have:=P.ain;have:=B.out;have:=B.inn;omega
 have hn:∀n∈m.aH,NX T n/\∃i:Nat,Wx m.c i n:=λn hn=> by
  obtain⟨i,hi⟩:=zbs.1 hn;exact⟨X.bn i n hi,i,I.bn i n hi⟩
 refine⟨I.ok,h1,by omega,λn hm=> ?_,λl hl=> ?_,λn hm=> ?_,λp hp=> ⟨(Qy p hp).2.2.1,(Qy p hp).2.2.2⟩⟩
 ·obtain⟨_,i,NI⟩:=hn n hm;have:=NI.bG.most;have:=NI.bG.vals;omega
 ·unfold Fab.jl at hl;obtain⟨p,hp,hl⟩:=za0.1 hl;simp only [zaj,zaw,or_false] at hl;rcases hl with rfl | rfl
  ·exact(Qy p hp).1
  ·exact(Qy p hp).2.1
 ·have:=(hn n hm).1.dat;omega
end
structure TA(b:Nat)(H:ah)(g:bD)(A:Adr)(m:bW)(T:Nat):Prop where
 good:Good b H g
 base:H.base<=b
 zW:mO g A m
 keep:MX T m
section
variable {b:Nat}{H:ah}{g:bD}{A:Adr}{m:bW}{T:Nat}
theorem TA.new(R:TA b H g A m T)(o:fV):TA b (H.new o) g A m T:=⟨R.good.new o,by rw [jC];exact R.base,R.zW,R.keep⟩
theorem TA.do_(R:TA b H g A m T)(hT:T < 999000)(p:Pck)(h64:vT p.at_)(hbit:vT p.bit)(m0:0<=p.mask)(m1:p.mask<=65535):
  ∃H' g',cl 23 [.ref A.zW 0 0,.agg p.av] H=some (B (m.do_ p).2,H')/\TA b H' g' A (m.do_ p).1 (T+1)/\Off (afZ A m.aH.length m.fab.l.length) g g'/\Step b H H':=by
 obtain⟨H',g',e,G,M,O,S⟩:=apt R.good R.base R.zW R.keep hT p h64 hbit m0 m1;exact⟨H',g',e,⟨G,by rw [S.base];exact R.base,M,R.keep.do_ p⟩,O,S⟩
theorem TA.loc(R:TA b H g A m T){ty n:Nat}{xs ys:List AV}(hx:xs.length=n)(hy:ys.length=n)(hn:0 < n)(ax:xs.all AV.aQ=true)(ay:ys.all AV.aQ=true)(ht:ty < gQ:=by decide):
  ∃K,st n (.ref H.next 0 0) (.agg ys) (H.new (.blk 0 ty xs))=some (aZ,K)/\TA b K (upd g H.next (ys.map Cell.av)) A m T/\lda n (.ref H.next 0 0) K=some (.agg ys,K):=by
 have G1:=R.good.newObj (ty:=ty) (xs:=xs) ax ht;obtain⟨K',t1,t2,t3,t4⟩:=G1.stores (by rw [jC];exact R.base) aV (i:=0) (n:=n) (vs:=ys) (by rw [zaB,hx];omega) hy ay;have e:mF (xs.map Cell.av) 0 ys=ys.map Cell.av:=by
  unfold mF;rw [zaQ (by rw [zaB,hx,hy];omega)];simp
 rw [e,oq] at t2;exact⟨K',t1,⟨t2,by rw [t3.base,jC];exact R.base,R.zW.sub ((ru.refl g).more (R.good.isNone (zac _)) _),R.keep⟩,t2.loads aV (i:=0) (n:=n) (xs:=ys) (by rw [zaP,zaA (by simp [hy])]) hy hn⟩
theorem TA.fab(R:TA b H g A m T):ld (.ref A.zW 0 0) H=some (.ref A.fab 0 0,H):=R.good.load R.zW.zW (i:=0) (x:=.ref A.fab 0 0) rfl
theorem TA.trace(R:TA b H g A m T):ld (.ref A.zW 0 1) H=some (.ref A.trace 0 0,H):=R.good.load R.zW.zW (i:=1) (x:=.ref A.trace 0 0) rfl
theorem TA.guard(R:TA b H g A m T):Good b H.guard g/\mO g A m:=⟨R.good.guard,R.zW⟩
end
structure Solo(b:Nat)(H:ah)(g:bD)(S:Iw)(m:bW)(T:Nat):Prop where
 good:Good b H g
 base:H.base<=b
 nw:∃n,m.aH=[n]/\NW g S m.c 0 (n,m.fab,m.trace)
 keep:MX T m
section
variable {b:Nat}{H:ah}{g:bD}{S:Iw}{m:bW}{T:Nat}
theorem Solo.new(R:Solo b H g S m T)(o:fV):Solo b (H.new o) g S m T:=⟨R.good.new o,by rw [jC];exact R.base,R.nw,R.keep⟩
theorem Solo.step(R:Solo b H g S m T)(hT:T < 999000):
  ∃H' g',cl 13 [.ref (S.a 0) 0 0,.ref S.f 0 0,.ref S.t 0 0] H=some (I (m.step 0).2,H')/\Solo b H' g' S (m.step 0).1 (T+1)/\Off (XI S m.fab.l.length) g g'/\Step b H H':=by
 obtain⟨n,hn,N⟩:=R.nw;have hi:m.aH[0]?=some n:=by rw [hn];rfl
 have NX:=R.keep.bn 0 n hi;have NI:=R.keep.inv.bn 0 n hi;have W:=Walk.of R.good R.base N;obtain⟨K',g',e1,W'⟩:=VA W R.keep.inv.ok R.keep.inv.fab NI ⟨NX.Tv,by have:=NX.num1;show n.num < 1000000;omega⟩ (by have:=af0 R.keep.inv;show m.trace.length < 999999;omega) (by have:=NX.dat;show n.aF.data.length < 1000000000;omega) (λaj=> by have:=NX.ws aj;show(n.home.aP.ws aj).length < 1000000;omega);have hst:m.step 0=({ m with aH:=m.aH.set 0 (n.step m.c 0 m.fab m.trace).1.1,fab:=(n.step m.c 0 m.fab m.trace).1.2.1,trace:=(n.step m.c 0 m.fab m.trace).1.2.2 },(n.step m.c 0 m.fab m.trace).2):=by
  unfold bW.step bW.bn;rw [if_pos (by omega),show(0:Int).toNat=0 from rfl,hi]
 refine⟨K',g',?_,⟨W'.loc.out,by rw [W'.step.base];exact R.base,?_,R.keep.step 0⟩,W'.off,W'.step⟩
 ·rw [hst];exact e1
 ·refine⟨(n.step m.c 0 m.fab m.trace).1.1,?_,?_⟩
  ·rw [hst];simp only [hn,zbQ]
  ·rw [hst];exact W'.nw
theorem Solo.deliver(R:Solo b H g S m T){at_ bit mask:Int}(h64:vT at_)(hbit:vT bit)(m0:0<=mask)(m1:mask<=65535):
  ∃H' g',cl 14 [.ref S.f 0 0,I at_,I bit,.s (.int .u16 mask)] H=some (I (m.deliver at_ bit mask).2,H')/\Solo b H' g' S (m.deliver at_ bit mask).1 T/\Off (XI S m.fab.l.length) g g'/\Step b H H':=by
 obtain⟨n,hn,N⟩:=R.nw;have X:=R.keep;have B:=EM X.inv.ok;have h0:m.fab.l.length≠0:=by have:=X.inv.fab.len;have:=B.aH;omega
 obtain⟨H',g',e1,G',F',O',S'⟩:=J3 R.good R.base N.fab N.PU (fok X.inv.ok X.inv.fab) h0 (λp hp=> ⟨⟨(X.inv.fab.pkt hp).ok,(X.inv.fab.pkt hp).num⟩,X.dst.all p hp⟩) h64 hbit m0 m1;have hlen:(m.fab.deliver at_ bit mask).1.l.length=m.fab.l.length:=by
  have h1:=(X.inv.fab.deliver at_ bit mask).len;have h2:=X.inv.fab.len;omega
 exact⟨H',g',e1,⟨G',by rw [S'.base];exact R.base,⟨n,hn,N.net F' hlen O'⟩,X.deliver _ _ _⟩,O'.mono λq h=> .inr (.inl h),S'⟩
end
def J6:Cfg:=⟨1,1,1,1,1,1,1,[5]⟩
theorem amI(H:ah):cl 56 [] H=some (.agg J6.av,H):=by
 have b1:∀H,bs 22 1 [(0,I 5)] H=some (.sl H.next 0 0 1 1 1 true,H.new (.blk 0 3 [I 5])):=λH=> (FZ (by decide)).trans (kV rfl rfl rfl);let cells:List AV:=[I 1,I 1,I 1,I 1,I 1,I 1,I 1,.sl (H.next+1) 0 0 1 1 1 true]
 have ca:cells.all AV.aQ=true:=rfl;have ev:bd 26 [(0,I 1),(1,I 1),(2,I 1),(3,I 1),(4,I 1),(5,I 1),(6,I 1),(7,.sl (H.next+1) 0 0 1 1 1 true)]=some (.agg cells):=by
  simp only [xq_,ai2,kE,gX,agD];rfl
 have cc:(AV.agg cells).cells=cells:=rfl;have cl8:cells.length=8:=rfl;have tk8:cells.take 8=cells:=rfl;have hn:H.guard.next<=H.guard.next+1:=za3 _
 refine ji rfl rfl (aoq _ _ (r:=(.agg cells,(H.guard.new (.blk 0 26 cells)).new (.blk 0 3 [I 5]))) ?_) ?_
 ·simp only [Nat.reduceAdd,aW,xq_,hq_,aj2,b1,ev,ca,cc,cl8,tk8]
 ·have h5:J6.av=[I 1,I 1,I 1,I 1,I 1,I 1,I 1,.vs 1 1 [I 5]]:=rfl;rw [h5];have hsl:bP ((H.guard.new (.blk 0 26 cells)).new (.blk 0 3 [I 5])) H.next 8 (.sl (H.next+1) 0 0 1 1 1 true)=some (.vs 1 1 [I 5]):=by
   refine jP (by omega) (cells:=[I 5]) ?_ rfl;have hs:aN ((H.guard.new (.blk 0 26 cells)).new (.blk 0 3 [I 5])) (.sl (H.next+1) 0 0 1 1 1 true) 1 1 [I 5]:=⟨rfl,rfl,rfl,⟨by rw [fE,fE,RJ];omega,zac _⟩,3,_,bC (by rw [fE,RJ]),zac _,rfl⟩
   exact hs.wE.2
  show bP _ H.next 9 (.agg cells)=_
  rw [bP];simp only [cells,zbm,List.mapM_nil,jq,hsl];rfl
theorem adI {H0 H1 H2 H3:ah}{c:Cfg}{l:List Opn}{f t:Nat}{P:Nat->Nat->Nat}{gf ga:bD}{a:Nat->Nat}(hck:c.ok=true)(h1:c.aH=1)(M1:Made H0 H1 gf)(F:ig gf f P c (.new c))(J:PO P c.aH.toNat)
  (M2:Made H1 H2 (upd vP t (jG []))) (M3:Made H2 H3 ga) (N:rH ga a c 0 (.new c 0 l)) (hb:H0.base<=H0.next) (X:MX 0 (.new c [l])):
  ∃g,Solo H0.next H3 g ⟨a,f,P,t⟩ (.new c [l]) 0/\(∀x,XI ⟨a,f,P,t⟩ 1 x->x < H3.next):=by
 have M12:=M1.add M2;have G:=M12.good.merge M3;have hl:(Fab.new c).l.length=1:=by simp [Fab.new,h1]
 have ht:H1.next<=t:=M2.good.le aV
 have hf:f < H1.next:=M1.good.lt F.1
 have tf:t≠f:=by omega
 have F1:ig (upd gf t (jG [])) f P c (.new c):=F.sub ((ru.refl gf).more (M1.good.isNone ht) _);have F2:=F1.sub (MZ (g':=ga) M12.good rfl);have N2:rH (cup H2.next (upd gf t (jG [])) ga) a c 0 (.new c 0 l):=N.ext λs hs=> by
  obtain⟨cs,e⟩:=N.some hs;rw [e,VG (g:=upd gf t (jG [])) M3.good (zac _) _ _ e]
 have T2:cup H2.next (upd gf t (jG [])) ga t=some (jG []):=MZ (g':=ga) M12.good rfl _ _ aV
 have NW2:NW (cup H2.next (upd gf t (jG [])) ga) ⟨a,f,P,t⟩ c 0 (.new c 0 l,.new c,[]):=⟨N2,F2,T2,by show PO P (Fab.new c).l.length;rw [hl];rw [h1] at J;exact J,tf⟩
 refine⟨_,⟨G,by rw [M3.base,M2.base,M1.base];exact hb,⟨.new c 0 l,rfl,NW2⟩,X⟩,λx hx=> ?_⟩;have hx':XI ⟨a,f,P,t⟩ (Fab.new c).l.length x:=by rw [hl];exact hx
 have:=NW2.here (w:=(.new c 0 l,.new c,[])) hx';cases e:cup H2.next (upd gf t (jG [])) ga x with
 | none=> exact absurd e this
 | some cs=> exact G.lt e
section
variable {b:Nat}{H:ah}{g:bD}{S:Iw}{m:bW}{T:Nat}
theorem Qz {n:Node}(h:m.aH=[n]):m.left=n.bG.left:=by
 unfold bW.left;rw [h];simp
theorem Solo.bG(R:Solo b H g S m T):ld (.ref (S.a 0) 0 1) H=some (.ref (S.a 2) 0 0,H):=by
 obtain⟨n,hn,N⟩:=R.nw;exact R.good.load N.bn.1 (i:=1) (x:=.ref (S.a 2) 0 0) rfl
theorem Solo.aI(R:Solo b H g S m T):ld (.ref (S.a 0) 0 0) H=some (.ref (S.a 1) 0 0,H):=by
 obtain⟨n,hn,N⟩:=R.nw;exact R.good.load N.bn.1 (i:=0) (x:=.ref (S.a 1) 0 0) rfl
theorem Solo.psz(R:Solo b H g S m T){n:Node}(hn:m.aH=[n]):n.bG.ops.length < 1000/\n.bG.bf.length < 1000:=by
 have NI:=R.keep.inv.bn 0 n (by rw [hn];rfl);have:=NI.bG.most;have:=NI.bG.vals;omega
theorem Solo.left(R:Solo b H g S m T):cl 12 [.ref (S.a 2) 0 0] H=some (I m.left,H):=by
 obtain⟨n,hn,N⟩:=R.nw;obtain⟨p1,p2⟩:=R.psz hn;rw [Qz hn];exact MC R.good N.bn.2.2.1 p1 p2
theorem Solo.under(R:Solo b H g S m T):cl 21 [.ref S.f 0 0] H=some (I m.fab.under,H):=by
 obtain⟨n,hn,N⟩:=R.nw;have F:=R.keep.fine;have B:=EM R.keep.inv.ok;have h1:=F.aH;have h2:=F.fab;exact acV R.good N.fab (by have:=B.aH;omega) (by have:=B.aH;omega) F.jl
theorem Solo.aF(R:Solo b H g S m T){n:Node}(hn:m.aH=[n]):cl 20 [.ref (S.a 0) 0 0] H=some (.tup [.agg (if n.aF.step=0 then bJ.zero else n.aF).av,B (!decide (n.aF.step=0))],H):=by
 obtain⟨n',hn',N⟩:=R.nw;rw [hn] at hn';cases hn';exact acT R.good N.bn.1 (R.keep.fine.aF n (by rw [hn];simp))
theorem Solo.bf(R:Solo b H g S m T){n:Node}(hn:m.aH=[n]):∃x,cl 18 [.ref (S.a 2) 0 0] H=some (x,H)/\∀H':ah,aN H' x 1 n.bG.bf.length (n.bG.bf.map I):=by
 obtain⟨n',hn',N⟩:=R.nw;rw [hn] at hn';cases hn';exact WQ R.good N.bn.2.2.1 (R.psz hn).2
end
section
variable {b:Nat}{H:ah}{g:bD}{S:Iw}{m:bW}{T:Nat}
theorem Solo.mono(R:Solo b H g S m T){T':Nat}(h:T<=T'):Solo b H g S m T':=⟨R.good,R.base,R.nw,R.keep.mono h⟩
theorem Solo.loc(R:Solo b H g S m T){ty n:Nat}{xs ys:List AV}(hx:xs.length=n)(hy:ys.length=n)(hn:0 < n)(ax:xs.all AV.aQ=true)(ay:ys.all AV.aQ=true)(ht:ty < gQ:=by decide):
  ∃K,st n (.ref H.next 0 0) (.agg ys) (H.new (.blk 0 ty xs))=some (aZ,K)/\Solo b K (upd g H.next (ys.map Cell.av)) S m T/\lda n (.ref H.next 0 0) K=some (.agg ys,K)/\∀i v,ys[i]?=some v->ld (.ref H.next 0 i) K=some (v,K):=by
 have G1:=R.good.newObj (ty:=ty) (xs:=xs) ax ht;obtain⟨K',t1,t2,t3,t4⟩:=G1.stores (by rw [jC];exact R.base) aV (i:=0) (n:=n) (vs:=ys) (by rw [zaB,hx];omega) hy ay;have e:mF (xs.map Cell.av) 0 ys=ys.map Cell.av:=by
  unfold mF;rw [zaQ (by rw [zaB,hx,hy];omega)];simp
 rw [e,oq] at t2;obtain⟨k,hk,N⟩:=R.nw;refine⟨K',t1,⟨t2,by rw [t3.base,jC];exact R.base,⟨k,hk,N.sub ((ru.refl g).more (R.good.isNone (zac _)) _)⟩,R.keep⟩,t2.loads aV (i:=0) (n:=n) (xs:=ys) (by rw [zaP,zaA (by simp [hy])]) hy hn,λi v hv=> t2.load aV (i:=i) (x:=v) (by rw [zaM,hv];rfl)⟩
end
theorem af4 {l:List Opn}(hp:J6.Wq [l]=true)(hv:∀o∈l,J6.right o=true/\I64 o.value):MX 0 (.new J6 [l]):=
 af2 rfl (λz hz=> by simp only [J6,zaj,zaw,or_false] at hz;subst hz;exact⟨by decide,by decide⟩) hp (λl' hl=> by simp only [zaj,zaw,or_false] at hl;subst hl;exact hv)
theorem J7(H0:ah)(hb:H0.base<=H0.next){c:Cfg}(hck:c.ok=true)(h1:c.aH=1){l:List Opn}(hl:l.length < 1000)(X:MX 0 (.new c [l])):
  ∃H1 f H2 t P,cl 9 [.agg c.av] H0=some (.ref f 0 0,H1)/\cl 10 [] H1=some (.ref t 0 0,H2)/\H0.next<=H2.next/\(∀r,r < H0.next->H2.get r=H0.get r)/\
   (∀r,r < H0.next->H1.get r=H0.get r)/\H0.next<=H1.next/\
   ∀H2':ah,(H2'=H2∨∃o,H2'=H2.new o)->∀x,aN H2' x 3 l.length (l.flatMap Opn.av)->(l=[]->x=zN)->
    ∃H3 a g,cl 11 [.agg c.av,I 0,x] H2'=some (.ref (a 0) 0 0,H3)/\Solo H0.next H3 g ⟨a,f,P,t⟩ (.new c [l]) 0/\∀r,r < H2'.next->H3.get r=H2'.get r:=by
 obtain⟨H1,f,P,gf,e1,M1,F,J⟩:=Z5 H0 hb c hck;obtain⟨H2,t,e2,M2⟩:=acK H1;refine⟨H1,f,H2,t,P,e1,e2,zax M1.next M2.next,λr hr=> by rw [M2.same r (zay hr M1.next),M1.same r hr],M1.same,M1.next,λH2' h2 x hx h0=> ?_⟩;obtain⟨H3,a,ga,e3,M3,N⟩:=Z4 H2' c hck 0 l (by omega) hx h0;have M3':Made H2 H3 ga:=by
  rcases h2 with rfl | ⟨o,rfl⟩
  ·exact M3
  ·exact M3.GV
 obtain⟨g,R,_⟩:=adI hck h1 M1 F J M2 M3' N hb X;exact⟨H3,a,g,e3,R,M3.same⟩
theorem Solo.idle {b:Nat}{H:ah}{g:bD}{S:Iw}{l:List Opn}(R:Solo b H g S (.new J6 [l]) 0)(hbn:H.base<=H.next):
  ∃(H' H'':ah) (a2:Nat->Nat) (g':bD),cl 11 [.agg J6.av,I 0,zN] H=some (.ref (a2 0) 0 0,H')/\cl 13 [.ref (a2 0) 0 0,.ref S.f 0 0,.ref S.t 0 0] H'=some (I 0,H'')/\Solo b H'' g' S (.new J6 [l]) 0:=by
 obtain⟨n,hn,N⟩:=R.nw;obtain⟨H',a2,ga,e1,M,N2⟩:=Z4 H J6 rfl 0 [] (by decide) (x:=zN) aN.nil λ_=> rfl;have G:=R.good.merge M;have sl:=MZ (g':=ga) R.good rfl;have N':=N.sub sl;have hX:MX 0 (.new J6 [[]]):=af4 rfl (λo h=> by cases h);have N2':rH (cup H.next g ga) a2 J6 0 (.new J6 0 []):=N2.ext λs hs=> by
  obtain⟨cs,e⟩:=N2.some hs;rw [e,VG (g:=g) M.good (zac _) _ _ e]
 have R2:Solo b H' (cup H.next g ga) ⟨a2,S.f,S.P,S.t⟩ (.new J6 [[]]) 0:=⟨G,by rw [M.base];exact R.base,⟨.new J6 0 [],rfl,⟨N2',N'.fab,N'.tr,N'.PU,N'.tf⟩⟩,hX⟩
 obtain⟨H'',g',e2,R3,O,_⟩:=R2.step (by decide);have z2:((bW.new J6 [[]]).step 0).2=0:=by kernel_rfl
 have z1:((bW.new J6 [[]]).step 0).1=.new J6 [[]]:=by kernel_rfl
 rw [z2] at e2;rw [z1] at R3;obtain⟨n3,_,N3⟩:=R3.nw;refine⟨H',H'',a2,g',e1,e2,R3.good,R3.base,⟨n,hn,⟨N'.bn.ext λs hs=> ?_,N3.fab,N3.tr,N3.PU,N3.tf⟩⟩,R.keep⟩;refine O _ ?_;rintro(⟨s',hs',e⟩ | h | e)
 ·obtain⟨cs,q1⟩:=N.bn.some hs;obtain⟨cs',q2⟩:=N2.some hs';have:=R.good.lt q1;have:=M.good.le q2;have:S.a s=a2 s':=e;omega
 ·exact(N'.Td h).1 s hs rfl
 ·exact N'.Vx s hs e
def w0:bW:=.new J6 [[⟨1,0,0⟩]]
def w1:bW:=(w0.step 0).1
def w2:bW:=(w1.deliver 0 0 0).1
def w3:bW:=(w2.step 0).1
def w4:bW:=(w3.deliver 0 0 0).1
def w5:bW:=(w4.step 0).1
theorem aia(H:ah):cl 19 [] H=some (B true,H):=by
 have e0:=λH=> amI H;have X:MX 0 w0:=af4 rfl (λo h=> by simp only [zaj,zaw,or_false] at h;subst h;exact⟨rfl,by decide,by decide⟩);obtain⟨H1,f,H2,t,P,e1,e2,_,_,_,_,k⟩:=J7 H.guard (zac _) (c:=J6) rfl rfl (l:=[⟨1,0,0⟩]) (by decide) X;let H2':=H2.new (.blk 0 53 [I 1,I 0,I 0]);have hx:aN H2' (.sl H2.next 0 0 3 1 1 true) 3 1 [I 1,I 0,I 0]:=⟨rfl,rfl,rfl,⟨by rw [fE];omega,zac _⟩,53,_,bC rfl,zac _,rfl⟩
 obtain⟨H3,a,g,e3,R0,_⟩:=k H2' (.inr ⟨_,rfl⟩) _ hx λh=> by cases h
 have hb3:H3.base<=H3.next:=zax R0.base R0.good.1
 obtain⟨H4,H5,a2,g5,i1,i2,R⟩:=R0.idle hb3
 replace R:Solo _ _ _ _ w0 _:=R
 obtain⟨K1,g1,s1,R1,_⟩:=R.step (by decide)
 replace R1:Solo _ _ _ _ w1 _:=R1
 obtain⟨K2,g2,s2,R2,_⟩:=R1.deliver (at_:=0) (bit:=0) (mask:=0) J5 J5 (by decide) (by decide)
 replace R2:Solo _ _ _ _ w2 _:=R2
 obtain⟨K3,g3,s3,R3,_⟩:=R2.step (by decide)
 replace R3:Solo _ _ _ _ w3 _:=R3
 obtain⟨K4,g4,s4,R4,_⟩:=R3.deliver (at_:=0) (bit:=0) (mask:=0) J5 J5 (by decide) (by decide)
 replace R4:Solo _ _ _ _ w4 _:=R4
 obtain⟨K5,g6,s5,R5,_⟩:=R4.step (by decide)
 replace R5:Solo _ _ _ _ w5 _:=R5
 have v1:(w0.step 0).2=4:=by kernel_rfl
 have v2:(w1.deliver 0 0 0).2=0:=by kernel_rfl
 have v3:(w2.step 0).2=3:=by kernel_rfl
 have v4:(w3.deliver 0 0 0).2=0:=by kernel_rfl
 have v5:(w4.step 0).2=1:=by kernel_rfl
 have v6:w5.left=0:=by kernel_rfl
 have v7:∀n,w5.aH=[n]->n.bG.bf=[5]:=λn h=> by
  have:w5.aH.map (λn=> n.bG.bf)=[[5]]:=by kernel_rfl
  rw [h] at this
  simpa using this
 obtain⟨n5,hn5,_⟩:=R5.nw;obtain⟨x,y1,y2⟩:=R5.bf hn5;rw [v7 n5 hn5] at y2;have f5:=R5.bG;have l5:=R5.left;rw [v1] at s1;rw [v2] at s2;rw [v3] at s3;rw [v4] at s4;rw [v5] at s5;rw [v6] at l5;let K6:=K5.new (.blk 0 3 [I 5]);have b5:bs 22 1 [(0,I 5)] K5=some (.sl K5.next 0 0 1 1 1 true,K6):=(FZ (by decide)).trans (kV rfl rfl rfl);have hy:aN K6 (.sl K5.next 0 0 1 1 1 true) 1 1 [I 5]:=⟨rfl,rfl,rfl,⟨by rw [fE];omega,zac _⟩,3,_,bC rfl,zac _,rfl⟩
 have e6:=ahy K6 (l:=[5]) (by decide) (y2 K6) hy;have b1:bd 53 [(0,I 1)]=some (.agg [I 1,I 0,I 0]):=by
  simp only [xq_,Yy,kE,gX,Yx];rfl
 have b2:bs 28 1 [(0,.agg [I 1,I 0,I 0])] H2=some (.sl H2.next 0 0 3 1 1 true,H2'):=(agC (by decide)).trans (kV rfl rfl rfl);have n1:bi .eql 31 (.ref f 0 0) zP=some (B false):=by kernel_rfl
 have n2:bi .eql 33 (.ref t 0 0) zP=some (B false):=by kernel_rfl
 have n3:bi .eql 35 (.ref (a 0) 0 0) zP=some (B false):=by kernel_rfl
 refine dJ rfl rfl (an7 _ _) ?_ iZ;simp only [xq_,ajP,e0,e1,e2,b1,b2,e3,n1,n2,n3,i1,i2,s1,s2,s3,s4,s5,f5,l5,y1,b5,e6,zae]
abbrev tX:=Int->Option Ent
def hdI:List Int->Int->Int
 | [],x=> x
 | i::_,_=> i
def nJ:List Int->Int->Int
 | [],x=> x
 | i::l,_=> nJ l i
def Chn(E:tX):Int->List Int->Int->Prop
 | _,[],_=> True
 | b,i::l,x=> (∃e,E i=some e/\e.back=b/\e.fwd=hdI l x)/\Chn E i l x
def FCh(E:tX):List Int->Prop
 | []=> True
 | i::l=> (∃e,E i=some e/\e.fwd=hdI l (-1))/\FCh E l
def nU(E:tX)(i:Int)(x:Option Ent):tX:=λj=> if j=i then x else E j
theorem fO {E:tX}{i:Int}{x:Option Ent}:nU E i x i=x:=by simp [nU]
theorem fB {E:tX}{i j:Int}{x:Option Ent}(h:j≠i):nU E i x j=E j:=by simp [nU,h]
theorem Xp {l l':List Int}{x:Int}:hdI (l++l') x=hdI l (hdI l' x):=by cases l <;> rfl
theorem DT:∀{l l':List Int} {x:Int},nJ (l++l') x=nJ l' (nJ l x)
 | [],_,_=> rfl
 | i::l,l',x=> by simp only [zbb,nJ];exact DT
theorem Ih:∀{l:List Int} {x:Int},l≠[]->nJ l x∈l
 | [],_,h=> absurd rfl h
 | [i],_,_=> by simp [nJ]
 | i::j::l,x,_=> by
  simp only [nJ];have:=Ih (l:=j::l) (x:=i) (by simp);simp only [nJ] at this;exact za9 _ this
theorem Chn.ext {E E':tX}:∀{l:List Int} {b x:Int},(∀j∈l,E' j=E j)->Chn E b l x->Chn E' b l x
 | [],_,_,_,_=> trivial
 | i::l,b,x,h,⟨⟨e,h1,h2⟩,hc⟩=> ⟨⟨e,by rw [h i (by simp),h1],h2⟩,Chn.ext (λj hj=> h j (by simp [hj])) hc⟩
theorem FCh.ext {E E':tX}:∀{l:List Int},(∀j∈l,E' j=E j)->FCh E l->FCh E' l
 | [],_,_=> trivial
 | i::l,h,⟨⟨e,h1,h2⟩,hc⟩=> ⟨⟨e,by rw [h i (by simp),h1],h2⟩,FCh.ext (λj hj=> h j (by simp [hj])) hc⟩
theorem Chn.fch {E:tX}:∀{l:List Int} {b:Int},Chn E b l (-1)->FCh E l
 | [],_,_=> trivial
 | _::_,_,⟨⟨e,h1,_,h3⟩,hc⟩=> ⟨⟨e,h1,h3⟩,Chn.fch hc⟩
theorem qj {E:tX}:∀{l l':List Int} {b x:Int},Chn E b (l++l') x↔Chn E b l (hdI l' x)/\Chn E (nJ l b) l' x
 | [],_,_,_=> by simp [Chn,nJ]
 | i::l,l',b,x=> by
  simp only [zbb,Chn,nJ,qj (l:=l),Xp,and_assoc]
theorem Chn.mem {E:tX}:∀{l:List Int} {b x:Int},Chn E b l x->∀j∈l,∃e,E j=some e
 | i::l,_,_,⟨⟨e,h1,_⟩,hc⟩,j,hj=> by
  rcases zaj.1 hj with rfl | h
  ·exact⟨e,h1⟩
  ·exact Chn.mem hc j h
theorem FCh.mem {E:tX}:∀{l:List Int},FCh E l->∀j∈l,∃e,E j=some e
 | i::l,⟨⟨e,h1,_⟩,hc⟩,j,hj=> by
  rcases zaj.1 hj with rfl | h
  ·exact⟨e,h1⟩
  ·exact FCh.mem hc j h
theorem Chn.aa5 {E:tX}{i b b' x:Int}{l:List Int}{e:Ent}(h:Chn E b (i::l) x)(hn:i∉l)(he:E i=some e){e':Ent}(hb:e'.back=b')(hf:e'.fwd=e.fwd):Chn (nU E i (some e')) b' (i::l) x:=by
 obtain⟨⟨e0,h1,_,h3⟩,hc⟩:=h;rw [he] at h1;cases h1;exact⟨⟨e',fO,hb,by rw [hf,h3]⟩,hc.ext λj hj=> fB λe=> hn (e ▸ hj)⟩
theorem Chn.amJ {E:tX}{k b x y:Int}{l:List Int}{e:Ent}(h:Chn E b (l++[k]) x)(hn:k∉l)(he:E k=some e){e':Ent}(hb:e'.back=e.back)(hf:e'.fwd=y):Chn (nU E k (some e')) b (l++[k]) y:=by
 obtain⟨h1,h2⟩:=qj.1 h;refine qj.2 ⟨Chn.ext (λj hj=> fB λe=> hn (e ▸ hj)) h1,?_⟩;obtain⟨⟨e0,h3,h4,_⟩,_⟩:=h2;rw [he] at h3;cases h3;exact⟨⟨e',fO,by rw [hb,h4],by rw [hf];rfl⟩,trivial⟩
def Rng(N:Int)(l:List Int):Prop:=l.Nodup/\∀i∈l,0<=i/\i < N
theorem Rng.hd {N:Int}{l:List Int}(h:Rng N l)(hl:l≠[]):hdI l (-1)∈l/\0<=hdI l (-1):=by
 cases l with
 | nil=> exact absurd rfl hl
 | cons i l=> exact⟨by simp [hdI],(h.2 i (by simp)).1⟩
theorem Rng.aa6 {N:Int}{l:List Int}(h:Rng N l):hdI l (-1)=-1↔l=[]:=by
 constructor
 ·intro e;refine Classical.byContradiction λhn=> ?_;have:=(h.hd hn).2;omega
 ·rintro rfl;rfl
structure Wf(N:Int)(E:tX)(r:Row)(v:List Int)(l:List Int):Prop where
 rng:Rng N l
 ch:Chn E (-1) l (-1)
 mem:∀i e,E i=some e->i∈l
 head:r.head=hdI l (-1)
 st:r.aT=0∨r.aT=1∨r.aT=2
 st0:r.aT=0↔l=[]
 st2:r.aT=2->∃i,l=[i]
 cO:∀i e,E i=some e->(e.cO=true↔r.aT=2)
 data:∀i e,E i=some e->e.data=v
 D8:r.aT≠2->r.data=v
structure aib(N:Int)(E:tX)(v:List Int)(i:Int)(R:List Int):Prop where
 rng:Rng N R
 ch:FCh E R
 mem:∀j e,E j=some e->j∈R∨j=i
 data:∀j e,E j=some e->e.data=v
 only:∀j e,E j=some e->e.cO=true->∀k,E k≠none->k=j
structure Mid(N:Int)(E:tX)(r:Row)(v:List Int)(i:Int)(pre post:List Int):Prop where
 rng:Rng N (pre++i::post)
 mem:∀j e,E j=some e->j∈pre++i::post
 ent:∃e,E i=some e
 head:r.head=hdI (pre++i::post) (-1)
 st:r.aT=1
 cO:∀j e,E j=some e->e.cO=false
 data:∀j e,E j=some e->e.data=v
 D8:r.data=v
inductive Out where
 | idle
 | req (p:Pkt)
 | wait
 | ans (p:Pkt)
def iQ(r:Row)(d:bJ):Row:=⟨d.aT,d.head,if d.data=[] then r.data else d.data⟩
inductive Hold (N hm:Int) (E:tX) (r:Row) (v:List Int) (i:Int) (d:bJ):Out->Prop
 | granted {l:List Int}:d.step=1->Wf N E r v l->Hold N hm E r v i d (.ans ⟨7,hm,i,d.id,d.aj,r.head,r.aT,false,r.data⟩)
 | attach {l:List Int}:d.step=2->d.aO=1->l≠[]->d.head=hdI l (-1)->Wf N E r v l->Hold N hm E r v i d (.req (d.ask i hm))
 | attached {l:List Int} {fl:Bool}:d.step=2->d.aO=1->l≠[]->d.head=hdI l (-1)->Rng N l->Chn E i l (-1)->(∀j e,E j=some e->j∈l)->(∀j e,E j=some e->e.cO=false)->(∀j e,E j=some e->e.data=v)->
   (fl=false->r.data=v)->Hold N hm E r v i d (.ans ⟨9,d.head,i,d.id,d.aj,0,0,fl,v⟩)
 | IE {R:List Int}:d.step=3->d.aO=2->aib N E v i (d.next::R)->d.next≠i->(E i≠none->d.data=v)->Hold N hm E r v i d (.req (d.ask i hm))
 | Ii {R:List Int} {fl:Bool}:d.step=3->d.aO=2->aib N E v i R->(∀j e,E j=some e->e.cO=false)->(E i≠none->d.data=v)->Hold N hm E r v i d (.ans ⟨9,d.next,i,d.id,d.aj,hdI R (-1),0,fl,v⟩)
 | front {pre post:List Int}:d.step=4->d.aO=3->Mid N E r v i pre post->pre≠[]->Chn E (-1) (pre++i::post) (-1)->d.head=nJ pre (-1)->d.next=hdI post (-1)->d.told=r.head->Hold N hm E r v i d (.req (d.ask i hm))
 | y9 {pre post:List Int}:d.step=4->d.aO=3->Mid N E r v i pre post->pre≠[]->Chn E (-1) pre (hdI post (-1))->Chn E i post (-1)->d.head=nJ pre (-1)->d.next=hdI post (-1)->d.told=r.head->
   Hold N hm E r v i d (.ans ⟨8,d.head,i,d.id,d.aj,0,0,false,[]⟩)
 | behind {pre post:List Int}:d.step=5->d.aO=3->Mid N E r v i pre post->post≠[]->Chn E (-1) pre (hdI post (-1))->Chn E i post (-1)->d.head=nJ pre (-1)->d.next=hdI post (-1)->d.told=r.head->Hold N hm E r v i d (.req (d.ask i hm))
 | uX {pre post:List Int}:d.step=5->d.aO=3->Mid N E r v i pre post->post≠[]->Chn E (-1) pre (hdI post (-1))->Chn E (nJ pre (-1)) post (-1)->d.head=nJ pre (-1)->d.next=hdI post (-1)->d.told=r.head->
   Hold N hm E r v i d (.ans ⟨8,d.next,i,d.id,d.aj,0,0,false,[]⟩)
 | unlock {l:List Int}:d.step=6->Wf N E (iQ r d) v l->Hold N hm E r v i d (.req (d.ask i hm))
section
variable {N hm:Int}{E:tX}{r:Row}{v:List Int}{i:Int}{d:bJ}
theorem QA {l:List Int}(h1:d.step=2)(h2:d.aO=1)(hl:l≠[])(hh:d.head=hdI l (-1))(W:Wf N E r v l):
  ∃e,E d.head=some e/\Hold N hm (nU E d.head (some { e with cO:=false,back:=i })) r v i d (.ans ⟨9,d.head,i,d.id,d.aj,0,0,e.cO,e.data⟩):=by
 cases l with
 | nil=> exact absurd rfl hl
 | cons k l=>
  have hk:d.head=k:=hh;obtain⟨⟨e,he,_⟩,_⟩:=W.ch;refine⟨e,by rw [hk];exact he,?_⟩;have hz:Out.ans ⟨9,d.head,i,d.id,d.aj,0,0,e.cO,e.data⟩=.ans ⟨9,d.head,i,d.id,d.aj,0,0,e.cO,v⟩:=by rw [W.data k e he]
  rw [hz];have hn:k∉l:=(zaU.1 W.rng.1).1;have nd:∀j e',nU E d.head (some { e with cO:=false,back:=i }) j=some e'->(j=k/\e'={ e with cO:=false,back:=i })∨(j≠k/\E j=some e'):=λj e' hj=> by
   by_cases hjk:j=k
   ·subst hjk;rw [hk,fO] at hj;exact .inl ⟨rfl,(za2 hj).symm⟩
   ·rw [hk,fB hjk] at hj;exact .inr ⟨hjk,hj⟩
  refine .attached (l:=k::l) h1 h2 (by simp) hk W.rng ?_ (λj e' hj=> ?_) (λj e' hj=> ?_) (λj e' hj=> ?_) λhf=> ?_
  ·rw [hk];exact W.ch.aa5 hn he rfl rfl
  ·rcases nd j e' hj with⟨rfl,_⟩ | ⟨_,h⟩
   ·simp
   ·exact W.mem j e' h
  ·rcases nd j e' hj with⟨_,rfl⟩ | ⟨hjk,h⟩
   ·rfl
   ·cases hd:e'.cO with
    | false=> rfl
    | true=>
     obtain⟨q,hq⟩:=W.st2 ((W.cO j e' h).1 hd);have h3:=W.mem j e' h;rw [hq] at h3;simp only [zbJ] at hq;simp only [zaj,zaw,or_false] at h3;exact absurd (h3.trans hq.1.symm) hjk
  ·rcases nd j e' hj with⟨_,rfl⟩ | ⟨_,h⟩
   ·exact W.data k e he
   ·exact W.data j e' h
  ·refine W.D8 λh2=> ?_;have:=(W.cO k e he).2 h2;rw [hf] at this;cases this
theorem TB {R:List Int}(h1:d.step=3)(h2:d.aO=2)(L:aib N E v i (d.next::R))(hne:d.next≠i)(hd:E i≠none->d.data=v):
  ∃e,E d.next=some e/\Hold N hm (nU E d.next none) r v i d (.ans ⟨9,d.next,i,d.id,d.aj,e.fwd,0,e.cO,e.data⟩):=by
 obtain⟨⟨e,he,hf⟩,hc⟩:=L.ch;refine⟨e,he,?_⟩;rw [L.data _ e he,hf];have hn:d.next∉R:=(zaU.1 L.rng.1).1
 have nd:∀j e',nU E d.next none j=some e'->j≠d.next/\E j=some e':=λj e' hj=> by
  by_cases hjk:j=d.next
  ·rw [hjk,fO] at hj;cases hj
  ·rw [fB hjk] at hj;exact⟨hjk,hj⟩
 refine .Ii (R:=R) h1 h2 ⟨⟨(zaU.1 L.rng.1).2,λj hj=> L.rng.2 j (by simp [hj])⟩,hc.ext λj hj=> fB λe=> hn (e ▸ hj),λj e' hj=> ?_,λj e' hj=> L.data j e' (nd j e' hj).2,λj e' hj hdj k hk=> ?_⟩ (λj e' hj=> ?_) λh=> hd ?_
 ·obtain⟨h3,h4⟩:=nd j e' hj;rcases L.mem j e' h4 with h | h
  ·rcases zaj.1 h with h | h
   ·exact absurd h h3
   ·exact .inl h
  ·exact .inr h
 ·refine L.only j e' (nd j e' hj).2 hdj k ?_;intro h0;by_cases hk':k=d.next
  ·rw [hk',fO] at hk;exact hk rfl
  ·rw [fB hk',h0] at hk;exact hk rfl
 ·obtain⟨h3,h4⟩:=nd j e' hj;cases hdt:e'.cO with
  | false=> rfl
  | true=> exact absurd (L.only j e' h4 hdt d.next (by rw [he];simp)).symm h3
 ·rw [fB hne.symm] at h;exact h
theorem TD {pre post:List Int}(h1:d.step=4)(h2:d.aO=3)(M:Mid N E r v i pre post)(hp:pre≠[])(C:Chn E (-1) (pre++i::post) (-1))(hh:d.head=nJ pre (-1))(hn:d.next=hdI post (-1))(ht:d.told=r.head):
  ∃e,E d.head=some e/\Hold N hm (nU E d.head (some { e with fwd:=d.next })) r v i d (.ans ⟨8,d.head,i,d.id,d.aj,0,0,false,[]⟩):=by
 obtain⟨p0,k,rfl⟩:∃p0 k,pre=p0++[k]:=⟨pre.dropLast,pre.getLast hp,(List.dropLast_concat_getLast hp).symm⟩
 have hk:d.head=k:=by rw [hh,DT];rfl
 obtain⟨C1,C2⟩:=qj.1 C;obtain⟨e,he⟩:=C1.mem k (by simp);refine⟨e,by rw [hk];exact he,?_⟩;have ndp:=M.rng.1;have hkp:k∉p0/\k≠i/\k∉post:=by
  simp only [zbV,zaU,zaj,za5,zbb,zaK] at ndp;obtain⟨_,⟨h4,h5,h6⟩,h7⟩:=ndp;refine⟨λh=> h7 k h k (.inl rfl) rfl,λh=> h4 (.inl h),λh=> h4 (.inr h)⟩
 have nd:∀j e',nU E d.head (some { e with fwd:=d.next }) j=some e'->(j=k/\e'={ e with fwd:=d.next })∨(j≠k/\E j=some e'):=λj e' hj=> by
  by_cases hjk:j=k
  ·subst hjk;rw [hk,fO] at hj;exact .inl ⟨rfl,(za2 hj).symm⟩
  ·rw [hk,fB hjk] at hj;exact .inr ⟨hjk,hj⟩
 refine .y9 (pre:=p0++[k]) (post:=post) h1 h2 ⟨M.rng,λj e' hj=> ?_,?_,M.head,M.st,λj e' hj=> ?_,λj e' hj=> ?_,M.D8⟩ hp ?_ ?_ hh hn ht
 ·rcases nd j e' hj with⟨rfl,_⟩ | ⟨_,h⟩
  ·simp
  ·exact M.mem j e' h
 ·obtain⟨ei,hi⟩:=M.ent;exact⟨ei,by rw [hk,fB hkp.2.1.symm];exact hi⟩
 ·rcases nd j e' hj with⟨_,rfl⟩ | ⟨_,h⟩
  ·exact M.cO k e he
  ·exact M.cO j e' h
 ·rcases nd j e' hj with⟨_,rfl⟩ | ⟨_,h⟩
  ·exact M.data k e he
  ·exact M.data j e' h
 ·rw [hk];exact C1.amJ hkp.1 he rfl hn
 ·rw [hk];exact C2.2.ext λj hj=> fB λe=> hkp.2.2 (e ▸ hj)
theorem QB {pre post:List Int}(h1:d.step=5)(h2:d.aO=3)(M:Mid N E r v i pre post)(hp:post≠[])(C1:Chn E (-1) pre (hdI post (-1)))(C2:Chn E i post (-1))(hh:d.head=nJ pre (-1))(hn:d.next=hdI post (-1))(ht:d.told=r.head):
  ∃e,E d.next=some e/\Hold N hm (nU E d.next (some { e with back:=d.head })) r v i d (.ans ⟨8,d.next,i,d.id,d.aj,0,0,false,[]⟩):=by
 cases post with
 | nil=> exact absurd rfl hp
 | cons k post=>
  have hk:d.next=k:=hn
  obtain⟨e,he⟩:=C2.mem k (by simp);refine⟨e,by rw [hk];exact he,?_⟩;have ndp:=M.rng.1;have hkp:k∉pre/\k≠i/\k∉post:=by
   simp only [zbV,zaU,zaj] at ndp;obtain⟨_,⟨h4,h5,h6⟩,h7⟩:=ndp;refine⟨λh=> h7 k h k (.inr (.inl rfl)) rfl,λh=> h4 (.inl h.symm),h5⟩
  have nd:∀j e',nU E d.next (some { e with back:=d.head }) j=some e'->(j=k/\e'={ e with back:=d.head })∨(j≠k/\E j=some e'):=λj e' hj=> by
   by_cases hjk:j=k
   ·subst hjk;rw [hk,fO] at hj;exact .inl ⟨rfl,(za2 hj).symm⟩
   ·rw [hk,fB hjk] at hj;exact .inr ⟨hjk,hj⟩
  refine .uX (pre:=pre) (post:=k::post) h1 h2 ⟨M.rng,λj e' hj=> ?_,?_,M.head,M.st,λj e' hj=> ?_,λj e' hj=> ?_,M.D8⟩ hp ?_ ?_ hh hn ht
  ·rcases nd j e' hj with⟨rfl,_⟩ | ⟨_,h⟩
   ·simp
   ·exact M.mem j e' h
  ·obtain⟨ei,hi⟩:=M.ent;exact⟨ei,by rw [hk,fB hkp.2.1.symm];exact hi⟩
  ·rcases nd j e' hj with⟨_,rfl⟩ | ⟨_,h⟩
   ·exact M.cO k e he
   ·exact M.cO j e' h
  ·rcases nd j e' hj with⟨_,rfl⟩ | ⟨_,h⟩
   ·exact M.data k e he
   ·exact M.data j e' h
  ·rw [hk];exact C1.ext λj hj=> fB λe=> hkp.1 (e ▸ hj)
  ·rw [hk];exact C2.aa5 hkp.2.2 he hh rfl
end
section
variable {N hm:Int}{E:tX}{r:Row}{v:List Int}{i:Int}{d:bJ}
theorem Rng.cons {l:List Int}(h:Rng N l)(hi:0<=i/\i < N)(hn:i∉l):Rng N (i::l):=
 ⟨zaU.2 ⟨hn,h.1⟩,λj hj=> by rcases zaj.1 hj with rfl | hj;exact hi;exact h.2 j hj⟩
theorem Rng.mid {pre post:List Int}(h:Rng N (pre++i::post)):i∉pre/\i∉post/\Rng N (pre++post)/\Rng N pre/\Rng N post/\0<=i:=by
 obtain⟨h1,h2⟩:=h;simp only [zbV,zaU,zaj] at h1;obtain⟨a,⟨b,c⟩,e⟩:=h1;refine⟨λh=> e i h i (.inl rfl) rfl,b,⟨?_,λj hj=> h2 j (by rcases zaL.1 hj with h | h <;> simp [h])⟩,⟨a,λj hj=> h2 j (by simp [hj])⟩,⟨c,λj hj=> h2 j (by simp [hj])⟩,(h2 i (by simp)).1⟩;exact zbV.2 ⟨a,c,λx hx y hy=> e x hx y (.inr hy)⟩
theorem Rng.last {l:List Int}(h:Rng N l)(hl:l≠[]):0<=nJ l (-1):=(h.2 _ (Ih hl)).1
theorem jA {x:Option Ent}{j:Int}{e:Ent}(h:nU E i x j=some e):(j=i/\x=some e)∨(j≠i/\E j=some e):=by
 by_cases hj:j=i
 ·rw [hj,fO] at h;exact .inl ⟨hj,h⟩
 ·rw [fB hj] at h;exact .inr ⟨hj,h⟩
theorem Wf.empty {l:List Int}(W:Wf N E r v l)(h:l=[]):∀j,E j=none:=λj=> by
 cases hj:E j with
 | none=> rfl
 | some e=> have:=W.mem j e hj;rw [h] at this;cases this
theorem Wf.alone {e:Ent}(hi:0<=i/\i < N)(hE:∀j,j≠i->E j=none)(he:E i=some e)(hb:e.back=-1)(hf:e.fwd=-1){x:List Int}(hx:e.data=v){st:Int}(hs:(st=1/\e.cO=false/\x=v)∨(st=2/\e.cO=true)):Wf N E ⟨st,i,x⟩ v [i]:=by
 have one:∀j e',E j=some e'->j=i/\e'=e:=λj e' hj=> by
  by_cases hji:j=i
  ·rw [hji,he] at hj;exact⟨hji,(za2 hj).symm⟩
  ·rw [hE j hji] at hj;cases hj
 refine⟨⟨by simp,λj hj=> by simp only [zaj,zaw,or_false] at hj;rw [hj];exact hi⟩,⟨⟨e,he,hb,hf⟩,trivial⟩,λj e' hj=> by simp [(one j e' hj).1],rfl,?_,?_,λ_=> ⟨i,rfl⟩,λj e' hj=> ?_,λj e' hj=> by rw [(one j e' hj).2,hx],λh=> ?_⟩
 ·rcases hs with⟨h,_⟩ | ⟨h,_⟩ <;> simp [h]
 ·rcases hs with⟨h,_⟩ | ⟨h,_⟩ <;> simp [h]
 ·rw [(one j e' hj).2];rcases hs with⟨h,h',_⟩ | ⟨h,h'⟩ <;> simp [h,h']
 ·rcases hs with⟨_,_,h'⟩ | ⟨h',_⟩
  ·exact h'
  ·exact absurd h' h
theorem Nh {l:List Int}(hi:0<=i/\i < N)(W:Wf N E r v l)(hs:r.aT=0){e':Ent}(hb:e'.back=-1)(hf:e'.fwd=-1)(hd:e'.cO=false)(hx:e'.data=r.data){d':bJ}(h6:d'.step=6)(h1:d'.aT=1)(hh:d'.head=i)(hn:d'.data=[]):
  Hold N hm (nU E i (some e')) r v i d' (.req (d'.ask i hm)):=by
 have hr:=W.D8 (by rw [hs];decide);have h0:=W.empty (W.st0.1 hs);refine .unlock (l:=[i]) h6 ?_;have:iQ r d'=⟨1,i,r.data⟩:=by simp only [iQ,h1,hh,hn,if_true]
 rw [this];exact Wf.alone hi (λj hj=> by rw [fB hj];exact h0 j) fO hb hf (by rw [hx,hr]) (.inl ⟨rfl,hd,hr⟩)
theorem Ij {l:List Int}(hk:d.aO=1)(W:Wf N E r v l)(hs:r.aT≠0)(h2:d.step=2)(hh:d.head=r.head):Hold N hm E r v i d (.req (d.ask i hm)):=
 .attach (l:=l) h2 hk (λh=> hs (W.st0.2 h)) (by rw [hh,W.head]) W
theorem Nk {l:List Int}{fl:Bool}(hi:0<=i/\i < N)(hE:E i=none)(hl:l≠[])(hh:d.head=hdI l (-1))(R:Rng N l)(C:Chn E i l (-1))(hm':∀j e,E j=some e->j∈l)(hc:∀j e,E j=some e->e.cO=false)(hd:∀j e,E j=some e->e.data=v)(hf:fl=false->r.data=v)(hv:v≠[])
  {e':Ent} (hb:e'.back=-1) (hw:e'.fwd=d.head) (hdt:e'.cO=false) (hx:e'.data=v) {d':bJ} (h6:d'.step=6) (h1:d'.aT=1) (hdh:d'.head=i) (hn:d'.data=if fl then v else []):
  Hold N hm (nU E i (some e')) r v i d' (.req (d'.ask i hm)):=by
 have hil:i∉l:=λh=> by obtain⟨e,he⟩:=C.mem i h;rw [hE] at he;cases he
 have hr:(iQ r d').data=v:=by
  simp only [iQ,hn];cases fl with
  | true=> simp [hv]
  | false=> simp [hf rfl]
 refine .unlock (l:=i::l) h6 ⟨R.cons hi hil,⟨⟨e',fO,hb,by rw [hw,hh]⟩,C.ext λj hj=> fB λe=> hil (e ▸ hj)⟩,λj e hj=> ?_,hdh,.inr (.inl h1),?_,λh=> ?_,λj e hj=> ?_,λj e hj=> ?_,λ_=> hr⟩
 ·rcases jA hj with⟨h,_⟩ | ⟨_,h⟩
  ·simp [h]
  ·exact za9 _ (hm' j e h)
 ·simp only [iQ,h1];simp
 ·simp only [iQ,h1] at h;cases h
 ·simp only [iQ,h1];rcases jA hj with⟨_,h⟩ | ⟨_,h⟩
  ·cases h;simp [hdt]
  ·simp [hc j e h]
 ·rcases jA hj with⟨_,h⟩ | ⟨_,h⟩
  ·cases h;exact hx
  ·exact hd j e h
theorem Wf.left {l:List Int}(W:Wf N E r v l):aib N E v i l:=
 ⟨W.rng,W.ch.fch,λj e hj=> .inl (W.mem j e hj),W.data,λj e hj hd k hk=> by
  obtain⟨q,hq⟩:=W.st2 ((W.cO j e hj).1 hd);have h1:=W.mem j e hj;cases hk':E k with
  | none=> exact absurd hk' hk
  | some e'=>
   have h2:=W.mem k e' hk';rw [hq] at h1 h2;simp only [zaj,zaw,or_false] at h1 h2;rw [h1,h2]⟩
theorem aic(hi0:0<=i){R:List Int}(L:aib N E v i R)(hd1:E i≠none->d.data=v)(hd2:R=[]->d.data=v)(hn:d.next=hdI R (-1)){x:Int}(hx:x=match E i with
   | some own=> if d.next=i then own.fwd else d.next
   | none=> d.next) (hk:d.aO=2):
  (x≠-1/\∀d':bJ,d'.step=3->d'.aO=2->d'.next=x->d'.data=d.data->Hold N hm E r v i d' (.req (d'.ask i hm)))∨(x=-1/\d.data=v/\∀j,j≠i->E j=none):=by
 have go:∀R':List Int,aib N E v i R'->x=hdI R' (-1)->(R'≠[]->hdI R' (-1)≠i)->(R'=[]->d.data=v)->(x≠-1/\∀d':bJ,d'.step=3->d'.aO=2->d'.next=x->d'.data=d.data->Hold N hm E r v i d' (.req (d'.ask i hm)))∨(x=-1/\d.data=v/\∀j,j≠i->E j=none):=by
  intro R' L' hx' hi' hd';cases R' with
  | nil=>
   refine .inr ⟨hx',hd' rfl,λj hj=> ?_⟩;cases h:E j with
   | none=> rfl
   | some e=> rcases L'.mem j e h with h' | h';cases h';exact absurd h' hj
  | cons k R'=>
   have h0:=(L'.rng.2 k (by simp)).1;refine .inl ⟨by rw [hx'];show k≠-1;omega,λd' a b c e=> ?_⟩;have hk':d'.next=k:=c.trans hx'
   exact .IE (R:=R') a b (by rw [hk'];exact L') (by rw [hk'];exact hi' (by simp)) λh=> by rw [e];exact hd1 h
 cases hE:E i with
 | none=>
  rw [hE] at hx;simp only at hx;refine go R L (hx.trans hn) (λhR h=> ?_) hd2;obtain⟨e,he⟩:=L.ch.mem _ (L.rng.hd hR).1;rw [h,hE] at he;cases he
 | some own=>
  rw [hE] at hx;simp only at hx;have hdv:=hd1 (by rw [hE];simp);by_cases hni:d.next=i
  ·rw [if_pos hni] at hx;cases R with
   | nil=>
    have h1:d.next=-1:=hn
    omega
   | cons k R=>
    have hk':k=i:=by rw [<-hni,hn];rfl
    subst hk';obtain⟨⟨e,he,hf⟩,hc⟩:=L.ch;rw [hE] at he;cases he;have hkR:=(zaU.1 L.rng.1).1;refine go R ⟨⟨(zaU.1 L.rng.1).2,λj hj=> L.rng.2 j (by simp [hj])⟩,hc,λj e hj=> ?_,L.data,L.only⟩ (hx.trans hf) (λhR h=> ?_) λ_=> hdv
    ·rcases L.mem j e hj with h | h
     ·rcases zaj.1 h with h | h
      ·exact .inr h
      ·exact .inl h
     ·exact .inr h
    ·apply hkR
     rw [<-h];cases R with
     | nil=> exact absurd rfl hR
     | cons a R=> simp [hdI]
  ·rw [if_neg hni] at hx;exact go R L (hx.trans hn) (λhR h=> hni (hn.trans h)) λ_=> hdv
theorem Ik(hi:0<=i/\i < N)(h0:∀j,j≠i->E j=none){e':Ent}(hb:e'.back=-1)(hf:e'.fwd=-1)(hd:e'.cO=true){d':bJ}(h6:d'.step=6)(h1:d'.aT=2)(hh:d'.head=i):Hold N hm (nU E i (some e')) r e'.data i d' (.req (d'.ask i hm)):=by
 refine .unlock (l:=[i]) h6 ?_;have:iQ r d'=⟨2,i,if d'.data=[] then r.data else d'.data⟩:=by simp only [iQ,h1,hh]
 rw [this];exact Wf.alone hi (λj hj=> by rw [fB hj];exact h0 j hj) fO hb hf rfl (.inr ⟨rfl,hd⟩)
theorem Nl {l:List Int}(W:Wf N E r v l)(h6:d.step=6)(hs:d.aT=r.aT)(hh:d.head=r.head)(hn:d.data=[]):Hold N hm E r v i d (.req (d.ask i hm)):=by
 refine .unlock (l:=l) h6 ?_;have:iQ r d=r:=by simp only [iQ,hs,hh,hn,if_true]
 rw [this];exact W
theorem Wf.split {l:List Int}(W:Wf N E r v l){e:Ent}(he:E i=some e):∃pre post,l=pre++i::post/\e.back=nJ pre (-1)/\e.fwd=hdI post (-1):=by
 obtain⟨pre,post,rfl⟩:=List.append_of_mem (W.mem i e he);obtain⟨_,⟨⟨e',h1,h2,h3⟩,_⟩⟩:=qj.1 W.ch;rw [he] at h1;cases h1;exact⟨pre,post,rfl,h2,h3⟩
theorem Wf.mid {pre post:List Int}(W:Wf N E r v (pre++i::post)){e:Ent}(he:E i=some e)(hne:pre≠[]∨post≠[]):Mid N E r v i pre post:=by
 have h2:r.aT≠2:=λh=> by
  obtain⟨q,hq⟩:=W.st2 h;have:=congrArg List.length hq;simp only [zao,zal,zan] at this;rcases hne with h | h
  ·have:=zdq.2 h;omega
  ·have:=zdq.2 h;omega
 have h1:r.aT=1:=by
  rcases W.st with h | h | h
  ·have:=W.st0.1 h;simp at this
  ·exact h
  ·exact absurd h h2
 exact⟨W.rng,W.mem,⟨e,he⟩,W.head,h1,λj e' hj=> by
  cases hd:e'.cO with
  | false=> rfl
  | true=> exact absurd ((W.cO j e' hj).1 hd) h2,W.data,W.D8 h2⟩
theorem IG {l:List Int}(W:Wf N E r v l)(hv:v≠[]){e:Ent}(he:E i=some e)(hb:e.back=-1)(hf:e.fwd=-1)(h6:d.step=6)(hs:d.aT=0)(hh:d.head=-1)(hn:d.data=if e.cO then e.data else []):Hold N hm (nU E i none) r v i d (.req (d.ask i hm)):=by
 obtain⟨pre,post,rfl,h1,h2⟩:=W.split he;obtain⟨p1,p2,p3,p4,p5,p6⟩:=W.rng.mid;have e1:pre=[]:=Classical.byContradiction λh=> by have:=p4.last h;omega
 have e2:post=[]:=Classical.byContradiction λh=> by have:=(p5.hd h).2;omega
 subst e1;subst e2;have none_:∀j,nU E i none j=none:=λj=> by
  cases hj:nU E i none j with
  | none=> rfl
  | some e'=>
   rcases jA hj with⟨_,h⟩ | ⟨hji,h⟩
   ·cases h
   ·have:=W.mem j e' h;simp only [zaK,zaj,zaw,or_false] at this;exact absurd this hji
 have hd:(iQ r d).data=v:=by
  simp only [iQ,hn];cases hdt:e.cO with
  | true=> simp [W.data i e he,hv]
  | false=>
   have:r.aT≠2:=λh=> by rw [(W.cO i e he).2 h] at hdt;cases hdt
   simp [W.D8 this]
 refine .unlock (l:=[]) h6 ⟨⟨zc1,λj hj=> by cases hj⟩,trivial,λj e' hj=> ?_,hh,.inl hs,by simp [iQ,hs],λh=> ?_,λj e' hj=> ?_,λj e' hj=> ?_,λ_=> hd⟩
 ·rw [none_ j] at hj;cases hj
 ·simp only [iQ,hs] at h;cases h
 ·rw [none_ j] at hj;cases hj
 ·rw [none_ j] at hj;cases hj
theorem II {l:List Int}(W:Wf N E r v l){e:Ent}(he:E i=some e)(hb:e.back=-1)(hf:e.fwd≠-1)(h5:d.step=5)(hk:d.aO=3)(hh:d.head=-1)(hn:d.next=e.fwd)(ht:d.told=r.head):Hold N hm E r v i d (.req (d.ask i hm)):=by
 obtain⟨pre,post,rfl,h1,h2⟩:=W.split he;obtain⟨p1,p2,p3,p4,p5,p6⟩:=W.rng.mid;have e1:pre=[]:=Classical.byContradiction λh=> by have:=p4.last h;omega
 subst e1;have hp:post≠[]:=λh=> hf (by rw [h2,h];rfl);exact .behind (pre:=[]) (post:=post) h5 hk (W.mid he (.inr hp)) hp trivial W.ch.2 hh (hn.trans h2) ht
theorem IJ {l:List Int}(W:Wf N E r v l){e:Ent}(he:E i=some e)(hb:e.back≠-1)(h4:d.step=4)(hk:d.aO=3)(hh:d.head=e.back)(hn:d.next=e.fwd)(ht:d.told=r.head):Hold N hm E r v i d (.req (d.ask i hm)):=by
 obtain⟨pre,post,rfl,h1,h2⟩:=W.split he;have hp:pre≠[]:=λh=> hb (by rw [h1,h];rfl);exact .front (pre:=pre) (post:=post) h4 hk (W.mid he (.inl hp)) hp W.ch (hh.trans h1) (hn.trans h2) ht
theorem Mid.out {pre post:List Int}(M:Mid N E r v i pre post)(hne:pre++post≠[])(C1:Chn E (-1) pre (hdI post (-1)))(C2:Chn E (nJ pre (-1)) post (-1))(h6:d.step=6)(hs:d.aT=1)(hh:d.head=hdI (pre++post) (-1))(hn:d.data=[]):Hold N hm (nU E i none) r v i d (.req (d.ask i hm)):=by
 obtain⟨p1,p2,p3,p4,p5,p6⟩:=M.rng.mid;have hu:iQ r d=⟨1,hdI (pre++post) (-1),r.data⟩:=by simp only [iQ,hs,hh,hn,if_true]
 refine .unlock (l:=pre++post) h6 ?_;rw [hu];refine⟨p3,qj.2 ⟨C1.ext λj hj=> fB λe=> p1 (e ▸ hj),C2.ext λj hj=> fB λe=> p2 (e ▸ hj)⟩,λj e hj=> ?_,rfl,.inr (.inl rfl),by simpa using hne,λh=> (by cases h),λj e hj=> ?_,λj e hj=> ?_,λ_=> M.D8⟩
 ·rcases jA hj with⟨_,h⟩ | ⟨hji,h⟩
  ·cases h
  ·have:=M.mem j e h;simp only [zaL,zaj] at this ⊢;rcases this with h | h | h
   ·exact .inl h
   ·exact absurd h hji
   ·exact .inr h
 ·rcases jA hj with⟨_,h⟩ | ⟨_,h⟩
  ·cases h
  ·simp [M.cO j e h]
 ·rcases jA hj with⟨_,h⟩ | ⟨_,h⟩
  ·cases h
  ·exact M.data j e h
theorem Il {pre post:List Int}(M:Mid N E r v i pre post)(hp:pre≠[])(C1:Chn E (-1) pre (hdI post (-1)))(hq:post=[])(h6:d.step=6)(hs:d.aT=1)(hh:d.head=r.head)(hn:d.data=[]):Hold N hm (nU E i none) r v i d (.req (d.ask i hm)):=by
 subst hq;refine M.out (by simpa using hp) C1 trivial h6 hs ?_ hn;rw [hh,M.head,za8];cases pre with
 | nil=> exact absurd rfl hp
 | cons a pre=> rfl
theorem IK {pre post:List Int}(M:Mid N E r v i pre post)(hp:post≠[])(C1:Chn E (-1) pre (hdI post (-1)))(C2:Chn E i post (-1))(h5:d.step=5)(hk:d.aO=3)(hh:d.head=nJ pre (-1))(hn:d.next=hdI post (-1))(ht:d.told=r.head):Hold N hm E r v i d (.req (d.ask i hm)):=
 .behind (pre:=pre) (post:=post) h5 hk M hp C1 C2 hh hn ht
theorem DU {pre post:List Int}(M:Mid N E r v i pre post)(hp:post≠[])(C1:Chn E (-1) pre (hdI post (-1)))(C2:Chn E (nJ pre (-1)) post (-1)){h0 nx:Int}(hh0:h0=nJ pre (-1))(hnx:nx=hdI post (-1))(h6:d.step=6)(hs:d.aT=1)(hh:d.head=if h0=-1 then nx else r.head)(hn:d.data=[]):Hold N hm (nU E i none) r v i d (.req (d.ask i hm)):=by
 obtain⟨p1,p2,p3,p4,p5,p6⟩:=M.rng.mid;refine M.out (by simp [hp]) C1 C2 h6 hs ?_ hn;cases pre with
 | nil=>
  have:h0=-1:=hh0;rw [hh,if_pos this,hnx];rfl
 | cons a pre=>
  have h1:=p4.last (l:=a::pre) (by simp);rw [hh,if_neg (by omega),M.head];rfl
end
structure Abs where
 ent:Int->tX
 row:Int->Row
 own:Int->Int
 ws:Int->List (Int × Int)
 aF:Int->bJ
 msg:Int->Out
 val:Int->List Int
def Abs.holds(c:Cfg)(a:Abs)(L:Int):Prop:=Hold c.aH (c.aX L) (a.ent L) (a.row L) (a.val L) (a.own L) (a.aF (a.own L)) (a.msg (a.own L))
def af5(c:Cfg)(a:Abs)(L:Int):Prop:=
 (a.own L=-1/\∃l,Wf c.aH (a.ent L) (a.row L) (a.val L) l)∨(0<=a.own L/\a.own L < c.aH/\(a.aF (a.own L)).aj=L/\a.holds c L)
def amK(c:Cfg)(a:Abs)(L:Int):Prop:=
 ((a.ws L).map (·.1)).Nodup/\∀w∈a.ws L,0<=w.1/\w.1 < c.aH/\a.msg w.1=.wait/\(a.aF w.1).aj=L/\(a.aF w.1).id=w.2/\(a.aF w.1).step=1
def adJ(c:Cfg)(d:bJ)(i:Int):Pkt:=⟨8,c.aX d.aj,i,d.id,d.aj,0,0,false,[]⟩
def aq8(c:Cfg)(a:Abs)(i:Int):Prop:=(a.aF i).step=1/\a.own (a.aF i).aj≠i/\(a.msg i=.req ((a.aF i).ask i (c.aX (a.aF i).aj))∨(a.msg i=.wait/\(i,(a.aF i).id)∈a.ws (a.aF i).aj))
def apu(c:Cfg)(a:Abs)(i:Int):Prop:=(a.aF i).step=6/\a.own (a.aF i).aj≠i/\a.msg i=.ans (adJ c (a.aF i) i)
structure aie(c:Cfg)(a:Abs)(i:Int):Prop where
 step:(a.aF i).step≠0
 aj:0<=(a.aF i).aj/\(a.aF i).aj < c.bg
 aO:1<=(a.aF i).aO/\(a.aF i).aO<=3
 idr:0<=(a.aF i).id/\(a.aF i).id < 4096
 miss:(a.aF i).aO=1->(a.aF i).step=1∨(a.aF i).step=2->a.ent (a.aF i).aj i=none
 at_:aq8 c a i∨a.own (a.aF i).aj=i∨apu c a i
def af6(c:Cfg)(a:Abs)(i:Int):Prop:=((a.aF i).step=0/\a.msg i=.idle)∨aie c a i
structure nV(c:Cfg)(a:Abs):Prop where
 aj:∀L,0<=L->L < c.bg->af5 c a L
 bn:∀i,0<=i->i < c.aH->af6 c a i
 ws:∀L,amK c a L
 val:∀L,0<=L->L < c.bg->a.val L≠[]
 out:∀L,¬(0<=L/\L < c.bg)->a.own L=-1
section
variable {c:Cfg}{a a':Abs}{i L:Int}
theorem Hold.Np {N hm:Int}{E:tX}{r:Row}{v:List Int}{i:Int}{d:bJ}{o:Out}(h:Hold N hm E r v i d o):d.step≠0:=by
 cases h <;> omega
theorem Hold.aa7 {N hm:Int}{E:tX}{r:Row}{v:List Int}{i:Int}{d:bJ}{o:Out}(h:Hold N hm E r v i d o):(∃p,o=.req p/\d.step≠1)∨∃p,o=.ans p:=by
 cases h
 all_goals first | exact .inr ⟨_,rfl⟩ | exact .inl ⟨_,rfl,by omega⟩
theorem nV.holder(I:nV c a)(hL:0<=L/\L < c.bg)(h:a.own L=i)(hi:0<=i):(a.aF i).aj=L/\Hold c.aH (c.aX L) (a.ent L) (a.row L) (a.val L) i (a.aF i) (a.msg i):=by
 rcases I.aj L hL.1 hL.2 with⟨h1,_⟩ | ⟨_,_,h3,h4⟩
 ·omega
 ·unfold Abs.holds at h4;rw [h] at h3 h4;exact⟨h3,h4⟩
theorem nV.upd(I:nV c a)(i L:Int)(hi:0<=i)(e1:∀L',L'≠L->a'.ent L'=a.ent L')(r1:∀L',L'≠L->a'.row L'=a.row L')(o1:∀L',L'≠L->a'.own L'=a.own L')(w1:∀L',L'≠L->a'.ws L'=a.ws L')(v1:∀L',L'≠L->a'.val L'=a.val L')
  (d1:∀j,j≠i->a'.aF j=a.aF j) (m1:∀j,j≠i->a'.msg j=a.msg j) (e2:∀j,j≠i->a.ent L j=none->a'.ent L j=none)
  (o2:∀j,0<=j->j≠i->(a'.own L=j↔a.own L=j)) (w2:∀j k,j≠i->(j,k)∈a.ws L->(j,k)∈a'.ws L)
  (h6:∀L',L'≠L->a.own L'≠i) (h7:∀L',L'≠L->∀k,(i,k)∉a.ws L') (hL:0<=L/\L < c.bg)
  (nl:af5 c a' L) (nn:af6 c a' i) (nw:amK c a' L) (nv:a'.val L≠[]):nV c a':=by
 refine⟨λL' h0 h1=> ?_,λj h0 h1=> ?_,λL'=> ?_,λL' h0 h1=> ?_,λL' h=> ?_⟩
 ·by_cases h:L'=L
  ·rw [h];exact nl
  ·have hne:=h6 L' h;rcases I.aj L' h0 h1 with⟨a1,l,a2⟩ | ⟨a1,a2,a3,a4⟩
   ·exact .inl ⟨by rw [o1 L' h];exact a1,l,by rw [e1 L' h,r1 L' h,v1 L' h];exact a2⟩
   ·refine .inr ⟨by rw [o1 L' h];exact a1,by rw [o1 L' h];exact a2,by rw [o1 L' h,d1 _ hne];exact a3,?_⟩;unfold Abs.holds at a4 ⊢;rw [o1 L' h,d1 _ hne,m1 _ hne,e1 L' h,r1 L' h,v1 L' h];exact a4
 ·by_cases h:j=i
  ·rw [h];exact nn
  ·rcases I.bn j h0 h1 with⟨a1,a2⟩ | O
   ·exact .inl ⟨by rw [d1 j h];exact a1,by rw [m1 j h];exact a2⟩
   ·have od:∀M:Int,a'.own M=j↔a.own M=j:=λM=> by
     by_cases hM:M=L
     ·rw [hM];exact o2 j h0 h
     ·rw [o1 M hM]
    refine .inr ⟨by rw [d1 j h];exact O.step,by rw [d1 j h];exact O.aj,by rw [d1 j h];exact O.aO,by rw [d1 j h];exact O.idr,?_,?_⟩
    ·rw [d1 j h];intro hk hs;have:=O.miss hk hs;by_cases hM:(a.aF j).aj=L
     ·rw [hM] at this ⊢;exact e2 j h this
     ·rw [e1 _ hM];exact this
    ·rcases O.at_ with⟨b1,b2,b3⟩ | b | ⟨b1,b2,b3⟩
     ·refine .inl ⟨by rw [d1 j h];exact b1,?_,?_⟩
      ·rw [d1 j h];exact λe=> b2 ((od _).1 e)
      ·rw [d1 j h,m1 j h];rcases b3 with b3 | ⟨b3,b4⟩
       ·exact .inl b3
       ·refine .inr ⟨b3,?_⟩;by_cases hM:(a.aF j).aj=L
        ·rw [hM] at b4 ⊢;exact w2 j _ h b4
        ·rw [w1 _ hM];exact b4
     ·exact .inr (.inl (by rw [d1 j h];exact(od _).2 b))
     ·refine .inr (.inr ⟨by rw [d1 j h];exact b1,?_,by rw [m1 j h,d1 j h];exact b3⟩);rw [d1 j h];exact λe=> b2 ((od _).1 e)
 ·by_cases h:L'=L
  ·rw [h];exact nw
  ·obtain⟨b1,b2⟩:=I.ws L';refine⟨by rw [w1 L' h];exact b1,λw hw=> ?_⟩;rw [w1 L' h] at hw;have hne:w.1≠i:=λe=> h7 L' h w.2 (by rw [<-e];exact hw);rw [d1 _ hne,m1 _ hne];exact b2 w hw
 ·by_cases h:L'=L
  ·rw [h];exact nv
  ·rw [v1 L' h];exact I.val L' h0 h1
 ·by_cases hM:L'=L
  ·rw [hM] at h;exact absurd hL h
  ·rw [o1 L' hM];exact I.out L' h
theorem nV.only(I:nV c a)(hi:0<=i)(L':Int)(h:a.own L'=i):(a.aF i).aj=L'/\(a.aF i).step≠0:=by
 by_cases hL:0<=L'/\L' < c.bg
 ·obtain⟨h1,h2⟩:=I.holder hL h hi;exact⟨h1,h2.Np⟩
 ·have:=I.out L' hL;omega
theorem nV.aif(I:nV c a)(hi:0<=i)(h:(a.aF i).aj=L∨(a.aF i).step=0):∀L',L'≠L->a.own L'≠i:=λL' hne e=> by
 obtain⟨h1,h2⟩:=I.only hi L' e;rcases h with h | h
 ·exact hne (h1.symm.trans h)
 ·exact h2 h
theorem nV.ws7(I:nV c a)(h:(a.aF i).aj=L∨(a.aF i).step=0):∀L',L'≠L->∀k,(i,k)∉a.ws L':=λL' hne k hk=> by
 obtain⟨_,_,_,h4,_,h6⟩:=(I.ws L').2 _ hk;rcases h with h | h
 ·exact hne (h4.symm.trans h)
 ·simp only at h6;omega
theorem amK.same(W:amK c a L)(hw:a'.ws L=a.ws L)(h:∀k,(i,k)∉a.ws L)(d1:∀j,j≠i->a'.aF j=a.aF j)(m1:∀j,j≠i->a'.msg j=a.msg j):amK c a' L:=by
 obtain⟨b1,b2⟩:=W;refine⟨by rw [hw];exact b1,λw hx=> ?_⟩;rw [hw] at hx;have hne:w.1≠i:=λe=> h w.2 (by rw [<-e];exact hx);rw [d1 _ hne,m1 _ hne];exact b2 w hx
theorem nV.QC(I:nV c a)(h:a.msg i≠.wait):∀L k,(i,k)∉a.ws L:=λL k hk=> h ((I.ws L).2 _ hk).2.2.1
def dH {α:Type}(f:Int->α)(i:Int)(x:α):Int->α:=λj=> if j=i then x else f j
theorem aJ {α:Type}{f:Int->α}{i:Int}{x:α}:dH f i x i=x:=by simp [dH]
theorem aU {α:Type}{f:Int->α}{i j:Int}{x:α}(h:j≠i):dH f i x j=f j:=by simp [dH,h]
theorem nV.begin_(I:nV c a)(hi:0<=i/\i < c.aH)(h0:(a.aF i).step=0){k id:Int}(hk:1<=k/\k<=3)(hid:0<=id/\id < 4096)(hL:0<=L/\L < c.bg)(hm:k=1->a.ent L i=none):
  nV c { a with aF:=dH a.aF i (.begin k L id),msg:=dH a.msg i (.req ((bJ.begin k L id).ask i (c.aX L))) }:=by
 have hown:∀L',a.own L'≠i:=λL' e=> (I.only hi.1 L' e).2 h0;have amL:a.msg i≠.wait:=λe=> by
  rcases I.bn i hi.1 hi.2 with⟨_,h⟩ | O
  ·rw [h] at e;cases e
  ·exact O.step h0
 have hws:=I.QC amL;refine I.upd i L hi.1 (λ_ _=> rfl) (λ_ _=> rfl) (λ_ _=> rfl) (λ_ _=> rfl) (λ_ _=> rfl) (λj hj=> aU hj) (λj hj=> aU hj) (λ_ _ h=> h) (λ_ _ _=> Iff.rfl) (λ_ _ _ h=> h) (λL' _=> hown L') (λL' _=> hws L') hL ?_ ?_ ?_ (I.val L hL.1 hL.2)
 ·rcases I.aj L hL.1 hL.2 with h | ⟨b1,b2,b3,b4⟩
  ·exact .inl h
  ·refine .inr ⟨b1,b2,?_,?_⟩
   ·show(dH a.aF i _ (a.own L)).aj=L;rw [aU (hown L)];exact b3
   ·unfold Abs.holds at b4 ⊢;show Hold _ _ _ _ _ _ (dH a.aF i _ (a.own L)) (dH a.msg i _ (a.own L));rw [aU (hown L),aU (hown L)];exact b4
 ·have hd:dH a.aF i (.begin k L id) i=bJ.begin k L id:=aJ;refine .inr ⟨?_,?_,?_,by show 0<=(dH a.aF i _ i).id/\(dH a.aF i _ i).id < 4096;rw [hd];exact hid,?_,.inl ⟨?_,?_,.inl ?_⟩⟩
  ·show(dH a.aF i _ i).step≠0;rw [hd];show(1:Int)≠0;decide
  ·show 0<=(dH a.aF i _ i).aj/\(dH a.aF i _ i).aj < c.bg;rw [hd];exact hL
  ·show 1<=(dH a.aF i _ i).aO/\(dH a.aF i _ i).aO<=3;rw [hd];exact hk
  ·show(dH a.aF i _ i).aO=1->(dH a.aF i _ i).step=1∨(dH a.aF i _ i).step=2->a.ent (dH a.aF i _ i).aj i=none;rw [hd];exact λh _=> hm h
  ·show(dH a.aF i _ i).step=1;rw [hd];rfl
  ·show a.own (dH a.aF i _ i).aj≠i;exact hown _
  ·show dH a.msg i _ i=.req ((dH a.aF i _ i).ask i (c.aX (dH a.aF i _ i).aj));rw [hd,aJ];rfl
 ·exact(I.ws L).same (i:=i) rfl (hws L) (λj hj=> aU hj) (λj hj=> aU hj)
theorem kP {d:bJ}{hm:Int}(h:1<=d.step/\d.step<=6):(d.ask i hm).aO=zS d.step/\(d.ask i hm).src=i/\(d.ask i hm).id=d.id/\(d.ask i hm).aj=d.aj:=by
 have:d.step=1∨d.step=2∨d.step=3∨d.step=4∨d.step=5∨d.step=6:=by omega
 unfold bJ.ask zS;rcases this with h | h | h | h | h | h <;> simp [h]
theorem Hold.req {N hm:Int}{E:tX}{r:Row}{v:List Int}{d:bJ}{p:Pkt}(h:Hold N hm E r v i d (.req p)):p=d.ask i hm/\2<=d.step/\d.step<=6:=by
 cases h <;> exact⟨rfl,by omega,by omega⟩
theorem Hold.ans {N hm:Int}{E:tX}{r:Row}{v:List Int}{d:bJ}{p:Pkt}(h:Hold N hm E r v i d (.ans p)):p.dst=i/\p.id=d.id/\p.aj=d.aj/\p.aO=BK (zS d.step)/\1<=d.step/\d.step<=5:=by
 cases h
 all_goals (rename_i hs;first | skip)
 all_goals (refine⟨rfl,rfl,rfl,?_,by omega,by omega⟩;simp [*,zS,BK])
theorem Hold.unl {N hm:Int}{E:tX}{r:Row}{v:List Int}{d:bJ}{p:Pkt}(h:Hold N hm E r v i d (.req p))(h6:d.step=6):∃l,Wf N E (iQ r d) v l:=by
 cases h
 all_goals first | (exfalso;omega) | exact⟨_,by assumption⟩
theorem nV.req(I:nV c a)(hi:0<=i/\i < c.aH){p:Pkt}(hp:a.msg i=.req p):
  aie c a i/\p=(a.aF i).ask i (c.aX p.aj)/\(a.aF i).aj=p.aj/\(1<=(a.aF i).step/\(a.aF i).step<=6)/\
  (((a.aF i).step=1/\a.own p.aj≠i)∨(2<=(a.aF i).step/\a.own p.aj=i/\Hold c.aH (c.aX p.aj) (a.ent p.aj) (a.row p.aj) (a.val p.aj) i (a.aF i) (.req p))):=by
 rcases I.bn i hi.1 hi.2 with⟨_,h⟩ | O
 ·rw [h] at hp;cases hp
 ·rcases O.at_ with⟨b1,b2,b3⟩ | b | ⟨_,_,b3⟩
  ·rcases b3 with b3 | ⟨b3,_⟩
   ·rw [b3] at hp;have hp:=(Out.req.inj hp).symm;have hl:p.aj=(a.aF i).aj:=by rw [hp];exact(kP (by omega)).2.2.2
    rw [hl];exact⟨O,hp,rfl,by omega,.inl ⟨b1,b2⟩⟩
   ·rw [b3] at hp;cases hp
  ·obtain⟨_,H⟩:=I.holder O.aj b hi.1;rw [hp] at H;obtain⟨h1,h2,h3⟩:=H.req;have hl:p.aj=(a.aF i).aj:=by rw [h1];exact(kP (by omega)).2.2.2
   rw [hl];exact⟨O,h1,rfl,by omega,.inr ⟨h2,b,H⟩⟩
  ·rw [b3] at hp;cases hp
theorem nV.lock(I:nV c a)(hi:0<=i/\i < c.aH){p:Pkt}(hp:a.msg i=.req p)(hk:p.aO=1)(hf:a.own p.aj=-1):
  nV c { a with own:=dH a.own p.aj i,msg:=dH a.msg i (.ans ⟨7,c.aX p.aj,i,p.id,p.aj,(a.row p.aj).head,(a.row p.aj).aT,false,(a.row p.aj).data⟩) }:=by
 obtain⟨O,h1,h2,h3,h4⟩:=I.req hi hp;have hpk:p.aO=zS (a.aF i).step:=by rw [h1];exact(kP h3).1
 have hpi:p.id=(a.aF i).id:=by rw [h1];exact(kP h3).2.2.1
 have hst:(a.aF i).step=1:=by
  rcases h4 with h | ⟨h,h',_⟩
  ·exact h.1
  ·omega
 have hL:=O.aj;rw [h2] at hL;have hws:=I.QC (i:=i) (by rw [hp];exact λe=> by cases e);have hms:dH a.msg i (.ans ⟨7,c.aX p.aj,i,p.id,p.aj,(a.row p.aj).head,(a.row p.aj).aT,false,(a.row p.aj).data⟩) i=.ans ⟨7,c.aX p.aj,i,p.id,p.aj,(a.row p.aj).head,(a.row p.aj).aT,false,(a.row p.aj).data⟩:=aJ;refine I.upd i p.aj hi.1 (λ_ _=> rfl) (λ_ _=> rfl) (λ_ h=> aU h) (λ_ _=> rfl) (λ_ _=> rfl) (λ_ _=> rfl) (λj hj=> aU hj) (λ_ _ h=> h) (λj h0 hj=> ?_) (λ_ _ _ h=> h) (I.aif hi.1 (.inl h2)) (λL' _=> hws L') hL ?_ ?_ ?_ (I.val _ hL.1 hL.2)
 ·show dH a.own p.aj i p.aj=j↔_;rw [aJ,hf];exact⟨λe=> absurd e.symm hj,λe=> by omega⟩
 ·have ho:dH a.own p.aj i p.aj=i:=aJ;refine .inr ?_;show 0<=dH a.own p.aj i p.aj/\dH a.own p.aj i p.aj < c.aH/\(a.aF (dH a.own p.aj i p.aj)).aj=p.aj/\Hold _ _ _ _ _ (dH a.own p.aj i p.aj) (a.aF (dH a.own p.aj i p.aj)) (dH a.msg i _ (dH a.own p.aj i p.aj));rw [ho,hms];refine⟨hi.1,hi.2,h2,?_⟩;rcases I.aj p.aj hL.1 hL.2 with⟨_,l,W⟩ | ⟨b1,_⟩
  ·have:=Hold.granted (hm:=c.aX p.aj) (i:=i) (d:=a.aF i) hst W;rw [h2] at this;rw [hpi];exact this
  ·omega
 ·refine .inr ⟨O.step,O.aj,O.aO,O.idr,O.miss,.inr (.inl ?_)⟩;show dH a.own p.aj i (a.aF i).aj=i;rw [h2,aJ]
 ·exact(I.ws _).same (i:=i) rfl (hws _) (λ_ _=> rfl) (λj hj=> aU hj)
theorem nV.wait(I:nV c a)(hi:0<=i/\i < c.aH){p:Pkt}(hp:a.msg i=.req p)(hk:p.aO=1):
  nV c { a with ws:=dH a.ws p.aj (a.ws p.aj++[(i,p.id)]),msg:=dH a.msg i .wait }:=by
 obtain⟨O,h1,h2,h3,h4⟩:=I.req hi hp;have hpk:p.aO=zS (a.aF i).step:=by rw [h1];exact(kP h3).1
 have hpi:p.id=(a.aF i).id:=by rw [h1];exact(kP h3).2.2.1
 have hst:(a.aF i).step=1/\a.own p.aj≠i:=by
  rcases h4 with h | ⟨h,_,h'⟩
  ·exact h
  ·exfalso;have:(a.aF i).step=2∨(a.aF i).step=3∨(a.aF i).step=4∨(a.aF i).step=5∨(a.aF i).step=6:=by omega
   rw [hk] at hpk;rcases this with h | h | h | h | h <;> simp [h,zS] at hpk
 have hL:=O.aj;rw [h2] at hL;have hws:=I.QC (i:=i) (by rw [hp];exact λe=> by cases e);refine I.upd i p.aj hi.1 (λ_ _=> rfl) (λ_ _=> rfl) (λ_ _=> rfl) (λ_ h=> aU h) (λ_ _=> rfl) (λ_ _=> rfl) (λj hj=> aU hj) (λ_ _ h=> h) (λj h0 hj=> Iff.rfl) (λj k hj h=> ?_) (I.aif hi.1 (.inl h2)) (λL' _=> hws L') hL ?_ ?_ ?_ (I.val _ hL.1 hL.2)
 ·show(j,k)∈dH a.ws p.aj _ p.aj;rw [aJ];exact zcv _ h
 ·rcases I.aj p.aj hL.1 hL.2 with h | ⟨b1,b2,b3,b4⟩
  ·exact .inl h
  ·refine .inr ⟨b1,b2,b3,?_⟩;unfold Abs.holds at b4 ⊢;show Hold _ _ _ _ _ _ _ (dH a.msg i _ (a.own p.aj));rw [aU hst.2];exact b4
 ·refine .inr ⟨O.step,O.aj,O.aO,O.idr,O.miss,.inl ⟨hst.1,?_,.inr ⟨aJ,?_⟩⟩⟩
  ·show a.own (a.aF i).aj≠i;rw [h2];exact hst.2
  ·show(i,(a.aF i).id)∈dH a.ws p.aj _ (a.aF i).aj;rw [h2,aJ,hpi];simp
 ·obtain⟨b1,b2⟩:=I.ws p.aj;have hw:dH a.ws p.aj (a.ws p.aj++[(i,p.id)]) p.aj=a.ws p.aj++[(i,p.id)]:=aJ;refine⟨?_,λw hx=> ?_⟩
  ·show((dH a.ws p.aj _ p.aj).map (·.1)).Nodup;rw [hw,zbK,zbV];refine⟨b1,by simp,λx hx y hy=> ?_⟩;simp only [zaz,zbO,zaj,zaw,or_false] at hy;obtain⟨w,hw1,rfl⟩:=zaG.1 hx;rw [hy];exact λe=> hws p.aj w.2 (by rw [<-e];exact hw1)
  ·replace hx:w∈dH a.ws p.aj (a.ws p.aj++[(i,p.id)]) p.aj:=hx
   rw [hw] at hx;show 0<=w.1/\w.1 < c.aH/\dH a.msg i .wait w.1=.wait/\(a.aF w.1).aj=p.aj/\(a.aF w.1).id=w.2/\(a.aF w.1).step=1;rcases zaL.1 hx with hx | hx
   ·have hne:w.1≠i:=λe=> hws p.aj w.2 (by rw [<-e];exact hx);rw [aU hne];exact b2 w hx
   ·simp only [zaj,zaw,or_false] at hx;subst hx;exact⟨hi.1,hi.2,aJ,h2,hpi.symm,hst.1⟩
theorem nV.grant(I:nV c a)(hL:0<=L/\L < c.bg)(hf:a.own L=-1){w:Int × Int}{ws:List (Int × Int)}(hw:a.ws L=w::ws):
  (0<=w.1/\w.1 < c.aH)/\a.msg w.1=.wait/\
  nV c { a with own:=dH a.own L w.1,ws:=dH a.ws L ws,msg:=dH a.msg w.1 (.ans ⟨7,c.aX L,w.1,w.2,L,(a.row L).head,(a.row L).aT,false,(a.row L).data⟩) }:=by
 obtain⟨b1,b2⟩:=I.ws L;obtain⟨hi0,hi1,hmw,hdl,hid,hst⟩:=b2 w (by rw [hw];simp);rw [hw] at b1;simp only [zaz,zaU] at b1;have nws:∀k,(w.1,k)∉ws:=λk hk=> b1.1 (zaG.2 ⟨_,hk,rfl⟩);refine⟨⟨hi0,hi1⟩,hmw,?_⟩;have O:aie c a w.1:=by
  rcases I.bn w.1 hi0 hi1 with⟨h,_⟩ | O
  ·omega
  ·exact O
 refine I.upd w.1 L hi0 (λ_ _=> rfl) (λ_ _=> rfl) (λ_ h=> aU h) (λ_ h=> aU h) (λ_ _=> rfl) (λ_ _=> rfl) (λj hj=> aU hj) (λ_ _ h=> h) (λj h0 hj=> ?_) (λj k hj h=> ?_) (I.aif hi0 (.inl hdl)) (I.ws7 (.inl hdl)) hL ?_ ?_ ?_ (I.val _ hL.1 hL.2)
 ·show dH a.own L w.1 L=j↔_;rw [aJ,hf];exact⟨λe=> absurd e.symm hj,λe=> by omega⟩
 ·show(j,k)∈dH a.ws L ws L;rw [aJ];rw [hw] at h;rcases zaj.1 h with h | h
  ·exact absurd (congrArg Prod.fst h) hj
  ·exact h
 ·have ho:dH a.own L w.1 L=w.1:=aJ;refine .inr ?_;show 0<=dH a.own L w.1 L/\dH a.own L w.1 L < c.aH/\(a.aF (dH a.own L w.1 L)).aj=L/\Hold _ _ _ _ _ (dH a.own L w.1 L) (a.aF (dH a.own L w.1 L)) (dH a.msg w.1 _ (dH a.own L w.1 L));rw [ho,aJ];refine⟨hi0,hi1,hdl,?_⟩;rcases I.aj L hL.1 hL.2 with⟨_,l,W⟩ | ⟨b1,_⟩
  ·have:=Hold.granted (hm:=c.aX L) (i:=w.1) (d:=a.aF w.1) hst W;rw [hdl,hid] at this;exact this
  ·omega
 ·refine .inr ⟨O.step,O.aj,O.aO,O.idr,O.miss,.inr (.inl ?_)⟩;show dH a.own L w.1 (a.aF w.1).aj=w.1;rw [hdl,aJ]
 ·have hw':dH a.ws L ws L=ws:=aJ;refine⟨?_,λx hx=> ?_⟩
  ·show((dH a.ws L ws L).map (·.1)).Nodup;rw [hw'];exact b1.2
  ·replace hx:x∈dH a.ws L ws L:=hx
   rw [hw'] at hx;have hne:x.1≠w.1:=λe=> nws x.2 (by rw [<-e];exact hx);show 0<=x.1/\x.1 < c.aH/\dH a.msg w.1 _ x.1=.wait/\_;rw [aU hne];exact b2 x (by rw [hw];simp [hx])
theorem nV.unlock(I:nV c a)(hi:0<=i/\i < c.aH){p:Pkt}(hp:a.msg i=.req p)(hk:p.aO=2):
  a.own p.aj=i/\(p.aT=0∨p.aT=1∨p.aT=2)/\(∃l,Wf c.aH (a.ent p.aj) (iQ (a.row p.aj) (a.aF i)) (a.val p.aj) l)/\p=(a.aF i).ask i (c.aX p.aj)/\(a.aF i).step=6/\
  nV c { a with row:=dH a.row p.aj (iQ (a.row p.aj) (a.aF i)),own:=dH a.own p.aj (-1),msg:=dH a.msg i (.ans ⟨8,c.aX p.aj,i,p.id,p.aj,0,0,false,[]⟩) }:=by
 obtain⟨O,h1,h2,h3,h4⟩:=I.req hi hp;have hpk:p.aO=zS (a.aF i).step:=by rw [h1];exact(kP h3).1
 have hpi:p.id=(a.aF i).id:=by rw [h1];exact(kP h3).2.2.1
 have hst:(a.aF i).step=6:=by
  have:(a.aF i).step=1∨(a.aF i).step=2∨(a.aF i).step=3∨(a.aF i).step=4∨(a.aF i).step=5∨(a.aF i).step=6:=by omega
  rw [hk] at hpk;rcases this with h | h | h | h | h | h
  all_goals first | exact h | (exfalso;simp [h,zS] at hpk)
 have hh:a.own p.aj=i/\Hold c.aH (c.aX p.aj) (a.ent p.aj) (a.row p.aj) (a.val p.aj) i (a.aF i) (.req p):=by
  rcases h4 with⟨h,_⟩ | ⟨_,h,h'⟩
  ·omega
  ·exact⟨h,h'⟩
 obtain⟨ho,H⟩:=hh;have hW:∃l,Wf c.aH (a.ent p.aj) (iQ (a.row p.aj) (a.aF i)) (a.val p.aj) l:=by
  exact H.unl hst
 obtain⟨l,W⟩:=hW;have hps:p.aT=(a.aF i).aT:=by rw [h1];unfold bJ.ask;simp [hst]
 have hL:=O.aj;rw [h2] at hL;have hws:=I.QC (i:=i) (by rw [hp];exact λe=> by cases e);refine⟨ho,by rw [hps];exact W.st,⟨l,W⟩,h1,hst,?_⟩;refine I.upd i p.aj hi.1 (λ_ _=> rfl) (λ_ h=> aU h) (λ_ h=> aU h) (λ_ _=> rfl) (λ_ _=> rfl) (λ_ _=> rfl) (λj hj=> aU hj) (λ_ _ h=> h) (λj h0 hj=> ?_) (λ_ _ _ h=> h) (I.aif hi.1 (.inl h2)) (λL' _=> hws L') hL ?_ ?_ ?_ (I.val _ hL.1 hL.2)
 ·show dH a.own p.aj (-1) p.aj=j↔_;rw [aJ,ho];exact⟨λe=> by omega,λe=> absurd e.symm hj⟩
 ·refine .inl ⟨aJ,l,?_⟩;show Wf _ _ (dH a.row p.aj _ p.aj) _ _;rw [aJ];exact W
 ·refine .inr ⟨O.step,O.aj,O.aO,O.idr,O.miss,.inr (.inr ⟨hst,?_,?_⟩)⟩
  ·show dH a.own p.aj (-1) (a.aF i).aj≠i;rw [h2,aJ];omega
  ·show dH a.msg i _ i=.ans (adJ c (a.aF i) i);rw [aJ,adJ,h2,hpi]
 ·exact(I.ws _).same (i:=i) rfl (hws _) (λ_ _=> rfl) (λj hj=> aU hj)
theorem nV.served(I:nV c a)(hi:0<=i/\i < c.aH)(hL:0<=L/\L < c.bg)(ho:a.own L=i){E:tX}{q:Pkt}(hE:∀j,a.ent L j=none->E j=none)(H:Hold c.aH (c.aX L) E (a.row L) (a.val L) i (a.aF i) (.ans q))(hm:a.msg i≠.wait):
  nV c { a with ent:=dH a.ent L E,msg:=dH a.msg i (.ans q) }:=by
 obtain⟨h2,H0⟩:=I.holder hL ho hi.1;have O:aie c a i:=by
  rcases I.bn i hi.1 hi.2 with⟨h,_⟩ | O
  ·exact absurd h H0.Np
  ·exact O
 have hws:=I.QC hm;refine I.upd i L hi.1 (λ_ h=> aU h) (λ_ _=> rfl) (λ_ _=> rfl) (λ_ _=> rfl) (λ_ _=> rfl) (λ_ _=> rfl) (λj hj=> aU hj) (λj _ h=> ?_) (λj h0 hj=> Iff.rfl) (λ_ _ _ h=> h) (I.aif hi.1 (.inl h2)) (λL' _=> hws L') hL ?_ ?_ ?_ (I.val _ hL.1 hL.2)
 ·show dH a.ent L E L j=none;rw [aJ];exact hE j h
 ·refine .inr ?_;show 0<=a.own L/\a.own L < c.aH/\(a.aF (a.own L)).aj=L/\Hold _ _ (dH a.ent L E L) _ _ (a.own L) (a.aF (a.own L)) (dH a.msg i _ (a.own L));rw [ho,aJ,aJ];exact⟨hi.1,hi.2,h2,H⟩
 ·refine .inr ⟨O.step,O.aj,O.aO,O.idr,λh h'=> ?_,.inr (.inl ?_)⟩
  ·show dH a.ent L E (a.aF i).aj i=none;have:=O.miss h h';rw [h2] at this ⊢;rw [aJ];exact hE i this
  ·show a.own (a.aF i).aj=i;rw [h2];exact ho
 ·exact(I.ws _).same (i:=i) rfl (hws _) (λ_ _=> rfl) (λj hj=> aU hj)
theorem nV.goes(I:nV c a)(hi:0<=i/\i < c.aH)(hL:0<=L/\L < c.bg)(ho:a.own L=i)(hm:a.msg i≠.wait){x:Option Ent}{v:List Int}{d:bJ}(hv:v≠[])(hd:d.aj=L)(hk:d.aO=(a.aF i).aO)(hid:d.id=(a.aF i).id)(hmiss:d.aO=1->d.step=1∨d.step=2->x=none)
  (H:Hold c.aH (c.aX L) (nU (a.ent L) i x) (a.row L) v i d (.req (d.ask i (c.aX L)))):
  nV c { a with ent:=dH a.ent L (nU (a.ent L) i x),val:=dH a.val L v,aF:=dH a.aF i d,msg:=dH a.msg i (.req (d.ask i (c.aX L))) }:=by
 obtain⟨h2,H0⟩:=I.holder hL ho hi.1;have O:aie c a i:=by
  rcases I.bn i hi.1 hi.2 with⟨h,_⟩ | O
  ·exact absurd h H0.Np
  ·exact O
 have hws:=I.QC hm;refine I.upd i L hi.1 (λ_ h=> aU h) (λ_ _=> rfl) (λ_ _=> rfl) (λ_ _=> rfl) (λ_ h=> aU h) (λj hj=> aU hj) (λj hj=> aU hj) (λj hj h=> ?_) (λj h0 hj=> Iff.rfl) (λ_ _ _ h=> h) (I.aif hi.1 (.inl h2)) (λL' _=> hws L') hL ?_ ?_ ?_ ?_
 ·show dH a.ent L _ L j=none;rw [aJ,fB hj];exact h
 ·refine .inr ?_;show 0<=a.own L/\a.own L < c.aH/\(dH a.aF i d (a.own L)).aj=L/\Hold _ _ (dH a.ent L _ L) _ (dH a.val L v L) (a.own L) (dH a.aF i d (a.own L)) (dH a.msg i _ (a.own L));rw [ho,aJ,aJ,aJ,aJ];exact⟨hi.1,hi.2,hd,H⟩
 ·have hd':dH a.aF i d i=d:=aJ;refine .inr ⟨?_,?_,?_,by show 0<=(dH a.aF i d i).id/\(dH a.aF i d i).id < 4096;rw [hd',hid];exact O.idr,?_,.inr (.inl ?_)⟩
  ·show(dH a.aF i d i).step≠0;rw [hd'];exact H.Np
  ·show 0<=(dH a.aF i d i).aj/\(dH a.aF i d i).aj < c.bg;rw [hd',hd];exact hL
  ·show 1<=(dH a.aF i d i).aO/\(dH a.aF i d i).aO<=3;rw [hd',hk];exact O.aO
  ·show(dH a.aF i d i).aO=1->_->dH a.ent L _ (dH a.aF i d i).aj i=none;rw [hd',hd,aJ,fO];intro h h';refine hmiss h ?_;have h'':(dH a.aF i d i).step=1∨(dH a.aF i d i).step=2:=h';rw [hd'] at h'';exact h''
  ·show a.own (dH a.aF i d i).aj=i;rw [hd',hd];exact ho
 ·exact(I.ws _).same (i:=i) rfl (hws _) (λj hj=> aU hj) (λj hj=> aU hj)
 ·show dH a.val L v L≠[];rw [aJ];exact hv
theorem nV.over(I:nV c a)(hi:0<=i/\i < c.aH)(F:apu c a i){d:bJ}(hd:d.step=0):nV c { a with aF:=dH a.aF i d,msg:=dH a.msg i .idle }:=by
 obtain⟨f1,f2,f3⟩:=F;have O:aie c a i:=by
  rcases I.bn i hi.1 hi.2 with⟨h,_⟩ | O
  ·omega
  ·exact O
 have hws:=I.QC (i:=i) (by rw [f3];exact λe=> by cases e);have hL:=O.aj;refine I.upd i (a.aF i).aj hi.1 (λ_ _=> rfl) (λ_ _=> rfl) (λ_ _=> rfl) (λ_ _=> rfl) (λ_ _=> rfl) (λj hj=> aU hj) (λj hj=> aU hj) (λ_ _ h=> h) (λj h0 hj=> Iff.rfl) (λ_ _ _ h=> h) (I.aif hi.1 (.inl rfl)) (λL' _=> hws L') hL ?_ ?_ ?_ (I.val _ hL.1 hL.2)
 ·rcases I.aj _ hL.1 hL.2 with h | ⟨b1,b2,b3,b4⟩
  ·exact .inl h
  ·refine .inr ?_;show 0<=a.own (a.aF i).aj/\a.own (a.aF i).aj < c.aH/\(dH a.aF i d (a.own (a.aF i).aj)).aj=(a.aF i).aj/\Hold _ _ _ _ _ _ (dH a.aF i d (a.own (a.aF i).aj)) (dH a.msg i _ (a.own (a.aF i).aj));rw [aU f2,aU f2];exact⟨b1,b2,b3,b4⟩
 ·refine .inl ⟨?_,aJ⟩;show(dH a.aF i d i).step=0;rw [aJ];exact hd
 ·exact(I.ws _).same (i:=i) rfl (hws _) (λj hj=> aU hj) (λj hj=> aU hj)
theorem Wf.touch {N:Int}{E:tX}{r:Row}{v v':List Int}{l:List Int}(W:Wf N E r v l){e e':Ent}(he:E i=some e)(hb:e'.back=e.back)(hf:e'.fwd=e.fwd)(hd:e'.cO=e.cO)(hv:(e'.data=e.data/\v'=v)∨(e.cO=true/\e'.data=v')):Wf N (nU E i (some e')) r v' l:=by
 have ch:Chn (nU E i (some e')) (-1) l (-1):=by
  have key:∀(l:List Int) (b x:Int),Chn E b l x->Chn (nU E i (some e')) b l x:=by
   intro l
   induction l with
   | nil=> intro b x _;trivial
   | cons j l ih=>
    intro b x h;obtain⟨⟨e0,h1,h2,h3⟩,hc⟩:=h;refine⟨?_,ih j x hc⟩;by_cases hj:j=i
    ·subst hj;rw [he] at h1;cases h1;exact⟨e',fO,by rw [hb,h2],by rw [hf,h3]⟩
    ·exact⟨e0,by rw [fB hj];exact h1,h2,h3⟩
  exact key l _ _ W.ch
 refine⟨W.rng,ch,λj x hj=> ?_,W.head,W.st,W.st0,W.st2,λj x hj=> ?_,λj x hj=> ?_,λh2=> ?_⟩
 ·rcases jA hj with⟨h,_⟩ | ⟨_,h⟩
  ·rw [h];exact W.mem i e he
  ·exact W.mem j x h
 ·rcases jA hj with⟨h,h'⟩ | ⟨_,h⟩
  ·cases h';rw [hd];exact W.cO i e he
  ·exact W.cO j x h
 ·rcases jA hj with⟨h,h'⟩ | ⟨hji,h⟩
  ·cases h';rcases hv with⟨a1,a2⟩ | ⟨_,a2⟩
   ·rw [a1,a2];exact W.data i e he
   ·exact a2
  ·rcases hv with⟨_,a2⟩ | ⟨a1,_⟩
   ·rw [a2];exact W.data j x h
   ·obtain⟨q,hq⟩:=W.st2 ((W.cO i e he).1 a1);have h1:=W.mem i e he;have h2:=W.mem j x h;rw [hq] at h1 h2;simp only [zaj,zaw,or_false] at h1 h2;exact absurd (h2.trans h1.symm) hji
 ·rcases hv with⟨_,a2⟩ | ⟨a1,_⟩
  ·rw [a2];exact W.D8 h2
  ·exact absurd ((W.cO i e he).1 a1) h2
theorem Io {E:tX}{e e':Ent}(he:E i=some e)(hf:e'.fwd=e.fwd):∀{l:List Int},FCh E l->FCh (nU E i (some e')) l
 | [],_=> trivial
 | j::l,⟨⟨e0,h1,h2⟩,hc⟩=> by
  refine⟨?_,Io he hf hc⟩;by_cases hj:j=i
  ·subst hj;rw [he] at h1;cases h1;exact⟨e',fO,by rw [hf,h2]⟩
  ·exact⟨e0,by rw [fB hj];exact h1,h2⟩
theorem nK {E:tX}{e e':Ent}(he:E i=some e)(hb:e'.back=e.back)(hf:e'.fwd=e.fwd):∀{l:List Int} {b x:Int},Chn E b l x->Chn (nU E i (some e')) b l x
 | [],_,_,_=> trivial
 | j::l,b,x,⟨⟨e0,h1,h2,h3⟩,hc⟩=> by
  refine⟨?_,nK he hb hf hc⟩;by_cases hj:j=i
  ·subst hj;rw [he] at h1;cases h1;exact⟨e',fO,by rw [hb,h2],by rw [hf,h3]⟩
  ·exact⟨e0,by rw [fB hj];exact h1,h2,h3⟩
theorem Hold.touch {N hm:Int}{E:tX}{r:Row}{v v':List Int}{k:Int}{d:bJ}{o:Out}(H:Hold N hm E r v k d o)(hik:i≠k){e e':Ent}(he:E i=some e)(hb:e'.back=e.back)(hf:e'.fwd=e.fwd)(hd:e'.cO=e.cO)(hv:(e'.data=e.data/\v'=v)∨(e.cO=true/\e'.data=v')):Hold N hm (nU E i (some e')) r v' k d o:=by
 have some_:∀j x,nU E i (some e') j=some x->∃y,E j=some y/\x.cO=y.cO:=λj x hj=> by
  rcases jA hj with⟨h,h'⟩ | ⟨_,h⟩
  ·cases h';rw [h];exact⟨e,he,hd⟩
  ·exact⟨x,h,rfl⟩
 -- where nothing is cO the dh are as they were
 have clean:(∀j x,E j=some x->x.cO=false)->(∀j x,E j=some x->x.data=v)->v'=v/\∀j x,nU E i (some e') j=some x->x.data=v:=λhc hdt=> by
  have h0:=hc i e he;rcases hv with⟨a1,a2⟩ | ⟨a1,_⟩
  ·refine⟨a2,λj x hj=> ?_⟩;rcases jA hj with⟨_,h'⟩ | ⟨_,h⟩
   ·cases h';rw [a1];exact hdt i e he
   ·exact hdt j x h
  ·rw [h0] at a1;cases a1
 have mid:∀{pre post:List Int},Mid N E r v k pre post->v'=v/\Mid N (nU E i (some e')) r v k pre post:=λM=> by
  obtain⟨c1,c2⟩:=clean M.cO M.data;obtain⟨ek,hk⟩:=M.ent;refine⟨c1,M.rng,λj x hj=> ?_,⟨ek,by rw [fB hik.symm];exact hk⟩,M.head,M.st,λj x hj=> ?_,c2,M.D8⟩
  ·obtain⟨y,hy,_⟩:=some_ j x hj;exact M.mem j y hy
  ·obtain⟨y,hy,h⟩:=some_ j x hj;rw [h];exact M.cO j y hy
 cases H with
 | granted h1 W=> exact .granted h1 (W.touch he hb hf hd hv)
 | attach h1 h2 h3 h4 W=> exact .attach h1 h2 h3 h4 (W.touch he hb hf hd hv)
 | attached h1 h2 h3 h4 R C M D X F=>
  obtain⟨c1,c2⟩:=clean D X;subst c1;exact .attached h1 h2 h3 h4 R (nK he hb hf C) (λj x hj=> by obtain⟨y,hy,_⟩:=some_ j x hj;exact M j y hy) (λj x hj=> by obtain⟨y,hy,h⟩:=some_ j x hj;rw [h];exact D j y hy) c2 F
 | IE h1 h2 L h3 h4=>
  have amM:E k≠none->v'=v:=λhk=> by
   rcases hv with⟨_,a2⟩ | ⟨a1,_⟩
   ·exact a2
   ·exact absurd (L.only i e he a1 k hk) hik.symm
  refine .IE h1 h2 ⟨L.rng,Io he hf L.ch,λj x hj=> ?_,λj x hj=> ?_,λj x hj hdj q hq=> ?_⟩ h3 λhk=> ?_
  ·obtain⟨y,hy,_⟩:=some_ j x hj;exact L.mem j y hy
  ·rcases jA hj with⟨_,h'⟩ | ⟨hji,h⟩
   ·cases h';rcases hv with⟨a1,a2⟩ | ⟨_,a2⟩
    ·rw [a1,a2];exact L.data i e he
    ·exact a2
   ·rcases hv with⟨_,a2⟩ | ⟨a1,_⟩
    ·rw [a2];exact L.data j x h
    ·exact absurd (L.only i e he a1 j (by rw [h];simp)) hji
  ·obtain⟨y,hy,hyd⟩:=some_ j x hj;refine L.only j y hy (by rw [<-hyd];exact hdj) q ?_;intro hq0;by_cases hqi:q=i
   ·rw [hqi,he] at hq0;cases hq0
   ·rw [fB hqi] at hq;exact hq hq0
  ·rw [fB hik.symm] at hk;rw [amM hk];exact h4 hk
 | Ii h1 h2 L h3 h4=>
  obtain⟨c1,c2⟩:=clean h3 L.data;subst c1;refine .Ii h1 h2 ⟨L.rng,Io he hf L.ch,λj x hj=> ?_,c2,λj x hj hdj q hq=> ?_⟩ (λj x hj=> ?_) λhk=> ?_
  ·obtain⟨y,hy,_⟩:=some_ j x hj;exact L.mem j y hy
  ·obtain⟨y,hy,hyd⟩:=some_ j x hj;rw [hyd,h3 j y hy] at hdj;cases hdj
  ·obtain⟨y,hy,hyd⟩:=some_ j x hj;rw [hyd];exact h3 j y hy
  ·rw [fB hik.symm] at hk;exact h4 hk
 | front h1 h2 M h3 C h4 h5 h6=>
  obtain⟨c1,c2⟩:=mid M;subst c1;exact .front h1 h2 c2 h3 (nK he hb hf C) h4 h5 h6
 | y9 h1 h2 M h3 C C' h4 h5 h6=>
  obtain⟨c1,c2⟩:=mid M;subst c1;exact .y9 h1 h2 c2 h3 (nK he hb hf C) (nK he hb hf C') h4 h5 h6
 | behind h1 h2 M h3 C C' h4 h5 h6=>
  obtain⟨c1,c2⟩:=mid M;subst c1;exact .behind h1 h2 c2 h3 (nK he hb hf C) (nK he hb hf C') h4 h5 h6
 | uX h1 h2 M h3 C C' h4 h5 h6=>
  obtain⟨c1,c2⟩:=mid M;subst c1;exact .uX h1 h2 c2 h3 (nK he hb hf C) (nK he hb hf C') h4 h5 h6
 | unlock h1 W=> exact .unlock h1 (W.touch he hb hf hd hv)
theorem nV.hit(I:nV c a)(hi:0<=i/\i < c.aH)(h0:(a.aF i).step=0)(hL:0<=L/\L < c.bg){e e':Ent}{v':List Int}(he:a.ent L i=some e)(hb:e'.back=e.back)(hf:e'.fwd=e.fwd)(hd:e'.cO=e.cO)(hv:(e'.data=e.data/\v'=a.val L)∨(e.cO=true/\e'.data=v'))(hn:v'≠[]):
  nV c { a with ent:=dH a.ent L (nU (a.ent L) i (some e')),val:=dH a.val L v' }:=by
 have hown:∀L',a.own L'≠i:=λL' e=> (I.only hi.1 L' e).2 h0;have hno:(a.aF i).step=0/\a.msg i=.idle:=by
  rcases I.bn i hi.1 hi.2 with h | O
  ·exact h
  ·exact absurd h0 O.step
 have hws:=I.QC (i:=i) (by rw [hno.2];exact λe=> by cases e);refine I.upd i L hi.1 (λ_ h=> aU h) (λ_ _=> rfl) (λ_ _=> rfl) (λ_ _=> rfl) (λ_ h=> aU h) (λ_ _=> rfl) (λ_ _=> rfl) (λj hj h=> ?_) (λ_ _ _=> Iff.rfl) (λ_ _ _ h=> h) (λL' _=> hown L') (λL' _=> hws L') hL ?_ (.inl hno) ?_ ?_
 ·show dH a.ent L _ L j=none;rw [aJ,fB hj];exact h
 ·rcases I.aj L hL.1 hL.2 with⟨b1,l,W⟩ | ⟨b1,b2,b3,b4⟩
  ·refine .inl ⟨b1,l,?_⟩;show Wf _ (dH a.ent L _ L) _ (dH a.val L v' L) l;rw [aJ,aJ];exact W.touch he hb hf hd hv
  ·refine .inr ⟨b1,b2,b3,?_⟩;unfold Abs.holds at b4 ⊢;show Hold _ _ (dH a.ent L _ L) _ (dH a.val L v' L) _ _ _;rw [aJ,aJ];exact b4.touch (hown L).symm he hb hf hd hv
 ·exact(I.ws L).same (i:=i) rfl (hws L) (λ_ _=> rfl) (λ_ _=> rfl)
 ·show dH a.val L v' L≠[];rw [aJ];exact hn
end
def uY(p:Port):List Pkt:=p.rq++p.rin
def uZ(p:Port):List Pkt:=p.an++p.ain
def xO(f:Fab):List Pkt:=f.l.flatMap uY
def xP(f:Fab):List Pkt:=f.l.flatMap uZ
structure Nq(msg:Int->Out)(k:Int)(q:Port):Prop where
 rq:∀p∈q.rq,p.src=k/\oW p.aO=true/\msg k=.req p
 rin:∀p∈q.rin,p.dst=k/\oW p.aO=true/\msg p.src=.req p
 an:∀p∈q.an,p.src=k/\oW p.aO=false/\msg p.dst=.ans p
 ain:∀p∈q.ain,p.dst=k/\oW p.aO=false/\msg k=.ans p
structure pI(f:Fab)(msg:Int->Out):Prop where
 port:∀(k:Nat) q,f.l[k]?=some q->Nq msg k q
 rn:((xO f).map (·.src)).Nodup
 an:((xP f).map (·.dst)).Nodup
 rc:∀i p,msg i=.req p->p∈xO f
 ac:∀i p,msg i=.ans p->p∈xP f
 src:∀i p,msg i=.req p->p.src=i
 dst:∀i p,msg i=.ans p->p.dst=i
 rg:∀i p,msg i=.req p∨msg i=.ans p->f.is i=true
theorem jf {g:Port->List Pkt}{q q':Port}:∀{l:List Port} {k:Nat},l[k]?=some q->∀{x y:List Pkt},(x++g q').Perm (y++g q)->(x++(l.set k q').flatMap g).Perm (y++l.flatMap g)
 | [],k,h,_,_,_=> by simp at h
 | p::l,0,h,x,y,hp=> by
  simp only [zaR,zaa] at h;subst h;simp only [zbQ,zaE,<-za5];exact hp.append_right _
 | p::l,k+1,h,x,y,hp=> by
  simp only [zbg] at h;have ih:=jf h hp;simp only [zb4,zaE];have c1:(x++(g p++(l.set k q').flatMap g)).Perm (g p++(x++(l.set k q').flatMap g)):=by
   rw [<-za5,<-za5];exact List.perm_append_comm.append_right _
  have c2:(g p++(y++l.flatMap g)).Perm (y++(g p++l.flatMap g)):=by
   rw [<-za5,<-za5];exact List.perm_append_comm.append_right _
  exact c1.trans ((ih.append_left _).trans c2)
theorem fA {f:Fab}{i:Int}(h:f.is i=true):f.l[i.toNat]?=some (f.port i):=by
 unfold Fab.is at h;simp only [zah,decide_eq_true_eq] at h;unfold Fab.port;rw [zas,zab (by omega),zat]
theorem su {f:Fab}{i:Int}{q:Port}(h:f.is i=true){k:Nat}{q':Port}(hk:(f.put i q).l[k]?=some q'):(k=i.toNat/\q'=q)∨(k≠i.toNat/\f.l[k]?=some q'):=by
 simp only [Fab.put] at hk;by_cases e:i.toNat=k
 ·rw [e] at hk;have hlt:k < f.l.length:=by
   unfold Fab.is at h;simp only [zah,decide_eq_true_eq] at h;omega
  rw [za7 hlt] at hk;exact .inl ⟨e.symm,(za2 hk).symm⟩
 ·rw [zbc e] at hk;exact .inr ⟨λh=> e h.symm,hk⟩
theorem vg {f:Fab}{i:Int}(h:f.is i=true):((i.toNat:Nat):Int)=i:=by
 unfold Fab.is at h;simp only [zah,decide_eq_true_eq] at h;omega
section
variable {f:Fab}{msg:Int->Out}{i:Int}{p:Pkt}
theorem pI.at_(R:pI f msg)(h:f.is i=true):Nq msg i (f.port i):=by
 have:=R.port _ _ (fA h);rw [vg h] at this;exact this
theorem A8 {k:Nat}{q:Port}(h:f.l[k]?=some q)(hp:p∈q.rq∨p∈q.rin):p∈xO f:=za0.2 ⟨q,zav h,zaL.2 hp⟩
theorem Ba {k:Nat}{q:Port}(h:f.l[k]?=some q)(hp:p∈q.an∨p∈q.ain):p∈xP f:=za0.2 ⟨q,zav h,zaL.2 hp⟩
theorem pI.req(R:pI f msg)(h:p∈xO f):msg p.src=.req p:=by
 obtain⟨q,hq,hp⟩:=za0.1 h;obtain⟨k,hk⟩:=zbs.1 hq;rcases zaL.1 hp with hp | hp
 ·obtain⟨a,_,b⟩:=(R.port k q hk).rq p hp;rw [a];exact b
 ·exact((R.port k q hk).rin p hp).2.2
theorem pI.ans(R:pI f msg)(h:p∈xP f):msg p.dst=.ans p:=by
 obtain⟨q,hq,hp⟩:=za0.1 h;obtain⟨k,hk⟩:=zbs.1 hq;rcases zaL.1 hp with hp | hp
 ·exact((R.port k q hk).an p hp).2.2
 ·obtain⟨a,_,b⟩:=(R.port k q hk).ain p hp;rw [a];exact b
theorem pI.aii(R:pI f msg)(h0:∀q,msg p.src≠.req q)(h1:∀q,msg p.src≠.ans q)(hok:p.ok=true)(hk:oW p.aO=true)(hs:f.is p.src=true)(hd:f.is p.dst=true)(ho:1<=f.out):
  (f.send p).2=0/\pI (f.send p).1 (dH msg p.src (.req p)):=by
 have P:=R.at_ hs;have he:(f.port p.src).rq=[]:=by
  cases e:(f.port p.src).rq with
  | nil=> rfl
  | cons q l=> exact absurd (P.rq q (by rw [e];simp)).2.2 (h0 q)
 have hsend:f.send p=(f.put p.src { f.port p.src with rq:=[p] },0):=by
  unfold Fab.send;simp only [hok,hs,hd,hk,Port.sort,Port.jE,if_true,he,zan,zaK,zae,Bool.or_self,zaf,if_false];rw [if_neg (by omega)]
 rw [hsend];refine⟨rfl,?_⟩;have pr:(xO (f.put p.src { f.port p.src with rq:=[p] })).Perm (p::xO f):=by
  have:=jf (g:=uY) (fA hs) (q':={ f.port p.src with rq:=[p] }) (x:=[]) (y:=[p]) (by simp [uY,he])
  simpa [xO,Fab.put] using this
 have pa:(xP (f.put p.src { f.port p.src with rq:=[p] })).Perm (xP f):=by
  have:=jf (g:=uZ) (fA hs) (q':={ f.port p.src with rq:=[p] }) (x:=[]) (y:=[]) (by simp [uZ])
  simpa [xP,Fab.put] using this
 have mne:∀j q,msg j=.req q∨msg j=.ans q->dH msg p.src (.req p) j=msg j:=λj q h=> aU λe=> by
  subst e;rcases h with h | h
  ·exact h0 q h
  ·exact h1 q h
 refine⟨λk q hk'=> ?_,?_,?_,λj q hj=> ?_,λj q hj=> ?_,λj q hj=> ?_,λj q hj=> ?_,λj q hj=> ?_⟩
 ·rcases su hs hk' with⟨e,rfl⟩ | ⟨_,h⟩
  ·have e':(k:Int)=p.src:=by rw [e];exact vg hs
   rw [e'];refine⟨λq hq=> ?_,λq hq=> ?_,λq hq=> ?_,λq hq=> ?_⟩
   ·simp only [zaj,zaw,or_false] at hq;subst hq;exact⟨rfl,hk,aJ⟩
   ·obtain⟨a,b,c⟩:=P.rin q hq;exact⟨a,b,by rw [mne _ _ (.inl c)];exact c⟩
   ·obtain⟨a,b,c⟩:=P.an q hq;exact⟨a,b,by rw [mne _ _ (.inr c)];exact c⟩
   ·obtain⟨a,b,c⟩:=P.ain q hq;exact⟨a,b,by rw [mne _ _ (.inr c)];exact c⟩
  ·have Q:=R.port k q h;refine⟨λq hq=> ?_,λq hq=> ?_,λq hq=> ?_,λq hq=> ?_⟩
   ·obtain⟨a,b,c⟩:=Q.rq q hq;exact⟨a,b,by rw [mne _ _ (.inl c)];exact c⟩
   ·obtain⟨a,b,c⟩:=Q.rin q hq;exact⟨a,b,by rw [mne _ _ (.inl c)];exact c⟩
   ·obtain⟨a,b,c⟩:=Q.an q hq;exact⟨a,b,by rw [mne _ _ (.inr c)];exact c⟩
   ·obtain⟨a,b,c⟩:=Q.ain q hq;exact⟨a,b,by rw [mne _ _ (.inr c)];exact c⟩
 ·refine((pr.map _).nodup_iff).2 (zaU.2 ⟨λhm=> ?_,R.rn⟩);obtain⟨q,hq,e⟩:=zaG.1 hm;have:=R.req hq;simp only at e;rw [e] at this;exact h0 q this
 ·exact((pa.map _).nodup_iff).2 R.an
 ·by_cases e:j=p.src
  ·rw [e,aJ] at hj;cases hj;exact pr.mem_iff.2 (by simp)
  ·rw [aU e] at hj;exact pr.mem_iff.2 (za9 _ (R.rc j q hj))
 ·by_cases e:j=p.src
  ·rw [e,aJ] at hj;cases hj
  ·rw [aU e] at hj;exact pa.mem_iff.2 (R.ac j q hj)
 ·by_cases e:j=p.src
  ·rw [e,aJ] at hj;cases hj;exact e.symm
  ·rw [aU e] at hj;exact R.src j q hj
 ·by_cases e:j=p.src
  ·rw [e,aJ] at hj;cases hj
  ·rw [aU e] at hj;exact R.dst j q hj
 ·have hl:(f.put p.src { f.port p.src with rq:=[p] }).is j=f.is j:=by simp [Fab.is,Fab.put]
  rw [hl];by_cases e:j=p.src
  ·rw [e];exact hs
  ·rw [aU e] at hj;exact R.rg j q hj
theorem pI.Xq(R:pI f msg)(h0:∀q,msg p.dst≠.req q)(h1:∀q,msg p.dst≠.ans q)(hok:p.ok=true)(hk:oW p.aO=false)(hs:f.is p.src=true)(hd:f.is p.dst=true)(ho:f.roomOf p.src false > 0):
  (f.send p).2=0/\pI (f.send p).1 (dH msg p.dst (.ans p)):=by
 have P:=R.at_ hs;have hsend:f.send p=(f.put p.src { f.port p.src with an:=(f.port p.src).an++[p] },0):=by
  unfold Fab.send;unfold Fab.roomOf at ho;rw [if_pos hs] at ho;simp only [Port.sort,zaf,if_false] at ho;simp only [hok,hs,hd,hk,Port.sort,Port.jE,zae,Bool.or_self,zaf,if_false];rw [if_neg (by omega)]
 rw [hsend];refine⟨rfl,?_⟩;have pa:(xP (f.put p.src { f.port p.src with an:=(f.port p.src).an++[p] })).Perm (p::xP f):=by
  have:=jf (g:=uZ) (fA hs) (q':={ f.port p.src with an:=(f.port p.src).an++[p] }) (x:=[]) (y:=[p]) (by
   simp only [uZ,zaK,za5,zcp];exact zde)
  simpa [xP,Fab.put] using this
 have pr:(xO (f.put p.src { f.port p.src with an:=(f.port p.src).an++[p] })).Perm (xO f):=by
  have:=jf (g:=uY) (fA hs) (q':={ f.port p.src with an:=(f.port p.src).an++[p] }) (x:=[]) (y:=[]) (by simp [uY])
  simpa [xO,Fab.put] using this
 have mne:∀j q,msg j=.req q∨msg j=.ans q->dH msg p.dst (.ans p) j=msg j:=λj q h=> aU λe=> by
  subst e;rcases h with h | h
  ·exact h0 q h
  ·exact h1 q h
 refine⟨λk q hk'=> ?_,?_,?_,λj q hj=> ?_,λj q hj=> ?_,λj q hj=> ?_,λj q hj=> ?_,λj q hj=> ?_⟩
 ·rcases su hs hk' with⟨e,rfl⟩ | ⟨_,h⟩
  ·have e':(k:Int)=p.src:=by rw [e];exact vg hs
   rw [e'];refine⟨λq hq=> ?_,λq hq=> ?_,λq hq=> ?_,λq hq=> ?_⟩
   ·obtain⟨a,b,c⟩:=P.rq q hq;exact⟨a,b,by rw [mne _ _ (.inl c)];exact c⟩
   ·obtain⟨a,b,c⟩:=P.rin q hq;exact⟨a,b,by rw [mne _ _ (.inl c)];exact c⟩
   ·rcases zaL.1 hq with hq | hq
    ·obtain⟨a,b,c⟩:=P.an q hq;exact⟨a,b,by rw [mne _ _ (.inr c)];exact c⟩
    ·simp only [zaj,zaw,or_false] at hq;subst hq;exact⟨rfl,hk,aJ⟩
   ·obtain⟨a,b,c⟩:=P.ain q hq;exact⟨a,b,by rw [mne _ _ (.inr c)];exact c⟩
  ·have Q:=R.port k q h;refine⟨λq hq=> ?_,λq hq=> ?_,λq hq=> ?_,λq hq=> ?_⟩
   ·obtain⟨a,b,c⟩:=Q.rq q hq;exact⟨a,b,by rw [mne _ _ (.inl c)];exact c⟩
   ·obtain⟨a,b,c⟩:=Q.rin q hq;exact⟨a,b,by rw [mne _ _ (.inl c)];exact c⟩
   ·obtain⟨a,b,c⟩:=Q.an q hq;exact⟨a,b,by rw [mne _ _ (.inr c)];exact c⟩
   ·obtain⟨a,b,c⟩:=Q.ain q hq;exact⟨a,b,by rw [mne _ _ (.inr c)];exact c⟩
 ·exact((pr.map _).nodup_iff).2 R.rn
 ·refine((pa.map _).nodup_iff).2 (zaU.2 ⟨λhm=> ?_,R.an⟩);obtain⟨q,hq,e⟩:=zaG.1 hm;have:=R.ans hq;simp only at e;rw [e] at this;exact h1 q this
 ·by_cases e:j=p.dst
  ·rw [e,aJ] at hj;cases hj
  ·rw [aU e] at hj;exact pr.mem_iff.2 (R.rc j q hj)
 ·by_cases e:j=p.dst
  ·rw [e,aJ] at hj;cases hj;exact pa.mem_iff.2 (by simp)
  ·rw [aU e] at hj;exact pa.mem_iff.2 (za9 _ (R.ac j q hj))
 ·by_cases e:j=p.dst
  ·rw [e,aJ] at hj;cases hj
  ·rw [aU e] at hj;exact R.src j q hj
 ·by_cases e:j=p.dst
  ·rw [e,aJ] at hj;cases hj;exact e.symm
  ·rw [aU e] at hj;exact R.dst j q hj
 ·have hl:(f.put p.src { f.port p.src with an:=(f.port p.src).an++[p] }).is j=f.is j:=by simp [Fab.is,Fab.put]
  rw [hl];by_cases e:j=p.dst
  ·rw [e];exact hd
  ·rw [aU e] at hj;exact R.rg j q hj
theorem pI.takeA(R:pI f msg){f':Fab}(h:f.take i false=(f',some p)):f.is i=true/\p.dst=i/\oW p.aO=false/\msg i=.ans p/\pI f' (dH msg i .idle)/\f'.out=f.out/\f'.l.length=f.l.length:=by
 unfold Fab.take at h;split at h
 case isFalse=> cases h
 rename_i hs;split at h
 ·cases h
 rename_i p' l hl;simp only [zad,zaa] at h;obtain⟨rfl,rfl⟩:=h;simp only [Port.pz,zaf,if_false] at hl;have P:=R.at_ hs;obtain⟨b1,b2,b3⟩:=P.ain p' (by rw [hl];simp);refine⟨hs,b1,b2,b3,?_,rfl,by simp [Fab.put]⟩;have hset:(f.port i).kL false l={ f.port i with ain:=l }:=by simp [Port.kL]
 rw [hset];have pa:(p'::xP (f.put i { f.port i with ain:=l })).Perm (xP f):=by
  have:=jf (g:=uZ) (fA hs) (q':={ f.port i with ain:=l }) (x:=[p']) (y:=[]) (by
   simp only [uZ,zaK,hl,zcp];exact zde.symm)
  simpa [xP,Fab.put] using this
 have pr:(xO (f.put i { f.port i with ain:=l })).Perm (xO f):=by
  have:=jf (g:=uY) (fA hs) (q':={ f.port i with ain:=l }) (x:=[]) (y:=[]) (by simp [uY])
  simpa [xO,Fab.put] using this
 have nd:(p'.dst::(xP (f.put i { f.port i with ain:=l })).map (·.dst)).Nodup:=((pa.map Pkt.dst).nodup_iff).2 R.an;have gone:∀q∈xP (f.put i { f.port i with ain:=l }),q.dst≠i:=λq hq e=> (zaU.1 nd).1 (zaG.2 ⟨q,hq,e.trans b1.symm⟩);have ang:∀q∈xO f,q.src≠i:=λq hq e=> by
  have:=R.req hq;rw [e,b3] at this;cases this
 refine⟨λk q hk'=> ?_,?_,?_,λj q hj=> ?_,λj q hj=> ?_,λj q hj=> ?_,λj q hj=> ?_,λj q hj=> ?_⟩
 ·have hmem:∀x,(x∈q.an∨x∈q.ain)->x.dst≠i:=λx hx=> gone x (Ba hk' hx);rcases su hs hk' with⟨e,rfl⟩ | ⟨_,h⟩
  ·have e':(k:Int)=i:=by rw [e];exact vg hs
   rw [e'];refine⟨λq hq=> ?_,λq hq=> ?_,λq hq=> ?_,λq hq=> ?_⟩
   ·exact absurd ((P.rq q hq).1) (ang q (A8 (fA hs) (.inl hq)))
   ·obtain⟨a,b,c⟩:=P.rin q hq;exact⟨a,b,by rw [aU (ang q (A8 (fA hs) (.inr hq)))];exact c⟩
   ·obtain⟨a,b,c⟩:=P.an q hq;exact⟨a,b,by rw [aU (hmem q (.inl hq))];exact c⟩
   ·have:=hmem q (.inr hq);exact absurd (P.ain q (by rw [hl];exact za9 _ hq)).1 this
  ·have Q:=R.port k q h;refine⟨λx hx=> ?_,λx hx=> ?_,λx hx=> ?_,λx hx=> ?_⟩
   ·obtain⟨a,b,c⟩:=Q.rq x hx;have:=ang x (A8 h (.inl hx));exact⟨a,b,by rw [aU (by omega)];exact c⟩
   ·obtain⟨a,b,c⟩:=Q.rin x hx;exact⟨a,b,by rw [aU (ang x (A8 h (.inr hx)))];exact c⟩
   ·obtain⟨a,b,c⟩:=Q.an x hx;exact⟨a,b,by rw [aU (hmem x (.inl hx))];exact c⟩
   ·obtain⟨a,b,c⟩:=Q.ain x hx;have:=hmem x (.inr hx);exact⟨a,b,by rw [aU (by omega)];exact c⟩
 ·exact((pr.map _).nodup_iff).2 R.rn
 ·exact(zaU.1 nd).2
 ·by_cases e:j=i
  ·rw [e,aJ] at hj;cases hj
  ·rw [aU e] at hj;exact pr.mem_iff.2 (R.rc j q hj)
 ·by_cases e:j=i
  ·rw [e,aJ] at hj;cases hj
  ·rw [aU e] at hj;rcases zaj.1 (pa.mem_iff.2 (R.ac j q hj)) with h | h
   ·have:=R.dst j q hj;rw [h,b1] at this;exact absurd this.symm e
   ·exact h
 ·by_cases e:j=i
  ·rw [e,aJ] at hj;cases hj
  ·rw [aU e] at hj;exact R.src j q hj
 ·by_cases e:j=i
  ·rw [e,aJ] at hj;cases hj
  ·rw [aU e] at hj;exact R.dst j q hj
 ·have hl:(f.put i { f.port i with ain:=l }).is j=f.is j:=by simp [Fab.is,Fab.put]
  rw [hl];by_cases e:j=i
  ·rw [e];exact hs
  ·rw [aU e] at hj;exact R.rg j q hj
theorem pI.apv(R:pI f msg){f':Fab}(h:f.take i true=(f',some p)):f.is i=true/\p.dst=i/\oW p.aO=true/\msg p.src=.req p/\pI f' (dH msg p.src .idle)/\f'.out=f.out/\f'.l.length=f.l.length/\(∀k,f'.roomOf k false=f.roomOf k false):=by
 unfold Fab.take at h;split at h
 case isFalse=> cases h
 rename_i hs;split at h
 ·cases h
 rename_i p' l hl;simp only [zad,zaa] at h;obtain⟨rfl,rfl⟩:=h;simp only [Port.pz,if_true] at hl;have P:=R.at_ hs;obtain⟨b1,b2,b3⟩:=P.rin p' (by rw [hl];simp);have hset:(f.port i).kL true l={ f.port i with rin:=l }:=by simp [Port.kL]
 rw [hset];refine⟨hs,b1,b2,b3,?_,rfl,by simp [Fab.put],λk=> ?_⟩;rotate_left
 ·have hp:=hs;unfold Fab.is at hp;simp only [zah,decide_eq_true_eq] at hp;unfold Fab.roomOf Fab.is Fab.port Fab.put;simp only [zbY,zas];by_cases e:i.toNat=k.toNat
  ·rw [<-e,za7 (by omega)];simp only [zat,Port.sort,zaf,if_false]
  ·rw [zbc e]
 have pr:(p'::xO (f.put i { f.port i with rin:=l })).Perm (xO f):=by
  have:=jf (g:=uY) (fA hs) (q':={ f.port i with rin:=l }) (x:=[p']) (y:=[]) (by
   simp only [uY,zaK,hl,zcp];exact zde.symm)
  simpa [xO,Fab.put] using this
 have pa:(xP (f.put i { f.port i with rin:=l })).Perm (xP f):=by
  have:=jf (g:=uZ) (fA hs) (q':={ f.port i with rin:=l }) (x:=[]) (y:=[]) (by simp [uZ])
  simpa [xP,Fab.put] using this
 have nd:(p'.src::(xO (f.put i { f.port i with rin:=l })).map (·.src)).Nodup:=((pr.map Pkt.src).nodup_iff).2 R.rn;have gone:∀q∈xO (f.put i { f.port i with rin:=l }),q.src≠p'.src:=λq hq e=> (zaU.1 nd).1 (zaG.2 ⟨q,hq,e⟩);have anh:∀q∈xP f,q.dst≠p'.src:=λq hq e=> by
  have:=R.ans hq;rw [e,b3] at this;cases this
 refine⟨λk q hk'=> ?_,?_,?_,λj q hj=> ?_,λj q hj=> ?_,λj q hj=> ?_,λj q hj=> ?_,λj q hj=> ?_⟩
 ·have hmem:∀x,(x∈q.rq∨x∈q.rin)->x.src≠p'.src:=λx hx=> gone x (A8 hk' hx);rcases su hs hk' with⟨e,rfl⟩ | ⟨_,h⟩
  ·have e':(k:Int)=i:=by rw [e];exact vg hs
   rw [e'];refine⟨λq hq=> ?_,λq hq=> ?_,λq hq=> ?_,λq hq=> ?_⟩
   ·obtain⟨a,b,c⟩:=P.rq q hq;have:=hmem q (.inl hq);exact⟨a,b,by rw [aU (by omega)];exact c⟩
   ·obtain⟨a,b,c⟩:=P.rin q (by rw [hl];exact za9 _ hq);exact⟨a,b,by rw [aU (hmem q (.inr hq))];exact c⟩
   ·obtain⟨a,b,c⟩:=P.an q hq;exact⟨a,b,by rw [aU (anh q (Ba (fA hs) (.inl hq)))];exact c⟩
   ·obtain⟨a,b,c⟩:=P.ain q hq;have:=anh q (Ba (fA hs) (.inr hq));exact⟨a,b,by rw [aU (by omega)];exact c⟩
  ·have Q:=R.port k q h;refine⟨λx hx=> ?_,λx hx=> ?_,λx hx=> ?_,λx hx=> ?_⟩
   ·obtain⟨a,b,c⟩:=Q.rq x hx;have:=hmem x (.inl hx);exact⟨a,b,by rw [aU (by omega)];exact c⟩
   ·obtain⟨a,b,c⟩:=Q.rin x hx;exact⟨a,b,by rw [aU (hmem x (.inr hx))];exact c⟩
   ·obtain⟨a,b,c⟩:=Q.an x hx;exact⟨a,b,by rw [aU (anh x (Ba h (.inl hx)))];exact c⟩
   ·obtain⟨a,b,c⟩:=Q.ain x hx;have:=anh x (Ba h (.inr hx));exact⟨a,b,by rw [aU (by omega)];exact c⟩
 ·exact(zaU.1 nd).2
 ·exact((pa.map _).nodup_iff).2 R.an
 ·by_cases e:j=p'.src
  ·rw [e,aJ] at hj;cases hj
  ·rw [aU e] at hj;rcases zaj.1 (pr.mem_iff.2 (R.rc j q hj)) with h | h
   ·have:=R.src j q hj;rw [h] at this;exact absurd this.symm e
   ·exact h
 ·by_cases e:j=p'.src
  ·rw [e,aJ] at hj;cases hj
  ·rw [aU e] at hj;exact pa.mem_iff.2 (R.ac j q hj)
 ·by_cases e:j=p'.src
  ·rw [e,aJ] at hj;cases hj
  ·rw [aU e] at hj;exact R.src j q hj
 ·by_cases e:j=p'.src
  ·rw [e,aJ] at hj;cases hj
  ·rw [aU e] at hj;exact R.dst j q hj
 ·have hl:(f.put i { f.port i with rin:=l }).is j=f.is j:=by simp [Fab.is,Fab.put]
  rw [hl];by_cases e:j=p'.src
  ·rw [e];exact R.rg _ p' (.inl b3)
  ·rw [aU e] at hj;exact R.rg j q hj
theorem vk {p:Pkt}:∀{l:List Port} {i0 k:Nat},(l.flatMap λq=> q.rq++q.an)[k]?=some p->∃i req k' q,zT l i0 k=some (i0+i,req,k')/\l[i]?=some q/\(q.sort req)[k']?=some p
 | [],_,_,h=> by simp at h
 | q::l,i0,k,h=> by
  simp only [zaE] at h;unfold zT;by_cases h1:k < q.rq.length
  ·rw [if_pos h1];rw [za5,zaV h1] at h;exact⟨0,true,k,q,rfl,rfl,h⟩
  ·rw [if_neg h1];by_cases h2:k < q.rq.length+q.an.length
   ·rw [if_pos h2];rw [za5,zaX (by omega),zaV (by omega)] at h;exact⟨0,false,k - q.rq.length,q,rfl,rfl,h⟩
   ·rw [if_neg h2];rw [zaX (by rw [zao];omega),zao] at h;obtain⟨i,req,k',q',e1,e2,e3⟩:=vk (i0:=i0+1) h;exact⟨i+1,req,k',q',by rw [e1];simp only [zb1,Nat.add_comm 1 i],e2,e3⟩
theorem CZ {k:Nat}{q q':Port}:∀{l:List Port},l[k]?=some q->q'.rq=q.rq->q'.an=q.an->(l.set k q').flatMap (λq=> q.rq++q.an)=l.flatMap (λq=> q.rq++q.an):=by
 induction k with
 | zero=>
  intro l h a b;cases l with
  | nil=> simp at h
  | cons x l=>
   simp only [zaR,zaa] at h;subst h;simp [a,b]
 | succ k ih=>
  intro l h a b;cases l with
  | nil=> simp at h
  | cons x l=>
   simp only [zbg] at h;simp only [zb4,zaE,ih h a b]
theorem J8 {k:Nat}:∀{l:List Pkt},l[k]?=some p->(p::l.eraseIdx k).Perm l:=by
 induction k with
 | zero=>
  intro l h;cases l with
  | nil=> simp at h
  | cons x l=>
   simp only [zaR,zaa] at h;subst h;exact .refl _
 | succ k ih=>
  intro l h;cases l with
  | nil=> simp at h
  | cons x l=>
   simp only [zbg] at h;simp only [zc2];exact(List.Perm.swap _ _ _).trans ((ih h).cons _)
theorem vw {f:Fab}{i:Nat}{q:Port}(h:f.l[i]?=some q):f.port i=q:=by
 unfold Fab.port;rw [zaq,zas,h,zat]
theorem DV {f:Fab}{i:Nat}{q:Port}(h:f.l[i]?=some q):f.is i=true:=by
 have:=(zai.1 h).1;unfold Fab.is;simp only [zah,decide_eq_true_eq];exact⟨by omega,by omega⟩
theorem pI.deliver(R:pI f msg)(hin:∀p∈f.all,f.is p.dst=true)(a b m:Int):pI (f.deliver a b m).1 msg:=by
 unfold Fab.deliver;split
 ·exact R
 split
 ·exact R
 rename_i p hp;have hd:=hin p (zav hp);split
 ·exact R
 split
 ·exact R
 rename_i hr;simp only;cases hk:oW p.aO with
 | true=>
  have hset:(f.port p.dst).kL true ((f.port p.dst).pz true++[p])=(⟨(f.port p.dst).rq,(f.port p.dst).rin++[p],(f.port p.dst).an,(f.port p.dst).ain⟩:Port):=by simp [Port.kL,Port.pz]
  rw [hset];have hall:(f.put p.dst (⟨(f.port p.dst).rq,(f.port p.dst).rin++[p],(f.port p.dst).an,(f.port p.dst).ain⟩:Port)).all[a.toNat]?=some p:=by
   unfold Fab.all Fab.put;rw [CZ (q':=(⟨(f.port p.dst).rq,(f.port p.dst).rin++[p],(f.port p.dst).an,(f.port p.dst).ain⟩:Port)) (fA hd) rfl rfl];exact hp
  obtain⟨i,req,k',q,f1,f2,f3⟩:=vk (i0:=0) hall;rw [zaW] at f1
  -- the aqa port,as it was
  have hq:∃q0,f.l[i]?=some q0/\q.rq=q0.rq/\q.an=q0.an:=by
   rcases su hd f2 with⟨e,rfl⟩ | ⟨_,h⟩
   ·exact⟨f.port p.dst,by rw [e];exact fA hd,rfl,rfl⟩
   ·exact⟨q,h,rfl,rfl⟩
  obtain⟨q0,g1,g2,g3⟩:=hq;have amN:req=true:=by
   cases req with
   | true=> rfl
   | false=>
    have hm:p∈q.an:=zav f3;rw [g3] at hm;have:=((R.port i q0 g1).an p hm).2.1;rw [hk] at this;cases this
  subst amN;have hm:p∈q0.rq:=by rw [<-g2];exact zav f3
  have hsrc:=((R.port i q0 g1).rq p hm).1;have amL:=((R.port i q0 g1).rq p hm).2.2;have ah1:(f.put p.dst (⟨(f.port p.dst).rq,(f.port p.dst).rin++[p],(f.port p.dst).an,(f.port p.dst).ain⟩:Port)).remove a.toNat=(f.put p.dst (⟨(f.port p.dst).rq,(f.port p.dst).rin++[p],(f.port p.dst).an,(f.port p.dst).ain⟩:Port)).put i (⟨q.rq.eraseIdx k',q.rin,q.an,q.ain⟩:Port):=by
   have hpq:(f.put p.dst (⟨(f.port p.dst).rq,(f.port p.dst).rin++[p],(f.port p.dst).an,(f.port p.dst).ain⟩:Port)).port i=q:=vw f2;unfold Fab.remove;rw [f1];simp only [hpq,Port.drop,Port.jE,Port.sort,if_true]
  rw [ah1];have hi1:(f.put p.dst (⟨(f.port p.dst).rq,(f.port p.dst).rin++[p],(f.port p.dst).an,(f.port p.dst).ain⟩:Port)).is i=true:=DV f2;have p1:(xO (f.put p.dst (⟨(f.port p.dst).rq,(f.port p.dst).rin++[p],(f.port p.dst).an,(f.port p.dst).ain⟩:Port))).Perm (p::xO f):=by
   have:=jf (g:=uY) (fA hd) (q':=(⟨(f.port p.dst).rq,(f.port p.dst).rin++[p],(f.port p.dst).an,(f.port p.dst).ain⟩:Port)) (x:=[]) (y:=[p]) (by
    simp only [uY,zaK,<-za5];exact zdi)
   simpa [xO,Fab.put] using this
  have p2:(p::xO ((f.put p.dst (⟨(f.port p.dst).rq,(f.port p.dst).rin++[p],(f.port p.dst).an,(f.port p.dst).ain⟩:Port)).put i (⟨q.rq.eraseIdx k',q.rin,q.an,q.ain⟩:Port))).Perm (xO (f.put p.dst (⟨(f.port p.dst).rq,(f.port p.dst).rin++[p],(f.port p.dst).an,(f.port p.dst).ain⟩:Port))):=by
   have:=jf (g:=uY) f2 (q':=(⟨q.rq.eraseIdx k',q.rin,q.an,q.ain⟩:Port)) (x:=[p]) (y:=[]) (by
    simp only [uY,zaK,zcp,<-zbb];exact(J8 f3).append_right _)
   simpa [xO,Fab.put] using this
  have pr:=(List.perm_cons p).1 (p2.trans p1);have pa:(xP ((f.put p.dst (⟨(f.port p.dst).rq,(f.port p.dst).rin++[p],(f.port p.dst).an,(f.port p.dst).ain⟩:Port)).put i (⟨q.rq.eraseIdx k',q.rin,q.an,q.ain⟩:Port))).Perm (xP f):=by
   have h1:=jf (g:=uZ) (fA hd) (q':=(⟨(f.port p.dst).rq,(f.port p.dst).rin++[p],(f.port p.dst).an,(f.port p.dst).ain⟩:Port)) (x:=[]) (y:=[]) (by simp [uZ]);have h2:=jf (g:=uZ) f2 (q':=(⟨q.rq.eraseIdx k',q.rin,q.an,q.ain⟩:Port)) (x:=[]) (y:=[]) (by simp [uZ]);have h3:=h2.trans h1
   simpa [xP,Fab.put] using h3
  have mid:∀(k:Nat) x,(f.put p.dst (⟨(f.port p.dst).rq,(f.port p.dst).rin++[p],(f.port p.dst).an,(f.port p.dst).ain⟩:Port)).l[k]?=some x->Nq msg k x:=λk x hx=> by
   rcases su hd hx with⟨e,rfl⟩ | ⟨_,h⟩
   ·have e':(k:Int)=p.dst:=by rw [e];exact vg hd
    rw [e'];have P:=R.at_ hd;refine⟨P.rq,λy hy=> ?_,P.an,P.ain⟩;rcases zaL.1 hy with hy | hy
    ·exact P.rin y hy
    ·simp only [zaj,zaw,or_false] at hy;subst hy;exact⟨rfl,hk,by rw [hsrc];exact amL⟩
   ·exact R.port k x h
  refine⟨λk x hx=> ?_,((pr.map _).nodup_iff).2 R.rn,((pa.map _).nodup_iff).2 R.an,λj y hj=> pr.mem_iff.2 (R.rc j y hj),λj y hj=> pa.mem_iff.2 (R.ac j y hj),R.src,R.dst,λj y hj=> by have:=R.rg j y hj;simpa [Fab.is,Fab.put] using this⟩;rcases su hi1 hx with⟨e,rfl⟩ | ⟨_,h⟩
  ·have Q:=mid i q f2;rw [zaq] at e;subst e;exact⟨λy hy=> Q.rq y (zcz hy),Q.rin,Q.an,Q.ain⟩
  ·exact mid k x h
 | false=>
  have hset:(f.port p.dst).kL false ((f.port p.dst).pz false++[p])=(⟨(f.port p.dst).rq,(f.port p.dst).rin,(f.port p.dst).an,(f.port p.dst).ain++[p]⟩:Port):=by simp [Port.kL,Port.pz]
  rw [hset];have hall:(f.put p.dst (⟨(f.port p.dst).rq,(f.port p.dst).rin,(f.port p.dst).an,(f.port p.dst).ain++[p]⟩:Port)).all[a.toNat]?=some p:=by
   unfold Fab.all Fab.put;rw [CZ (q':=(⟨(f.port p.dst).rq,(f.port p.dst).rin,(f.port p.dst).an,(f.port p.dst).ain++[p]⟩:Port)) (fA hd) rfl rfl];exact hp
  obtain⟨i,req,k',q,f1,f2,f3⟩:=vk (i0:=0) hall;rw [zaW] at f1;have hq:∃q0,f.l[i]?=some q0/\q.rq=q0.rq/\q.an=q0.an:=by
   rcases su hd f2 with⟨e,rfl⟩ | ⟨_,h⟩
   ·exact⟨f.port p.dst,by rw [e];exact fA hd,rfl,rfl⟩
   ·exact⟨q,h,rfl,rfl⟩
  obtain⟨q0,g1,g2,g3⟩:=hq;have amN:req=false:=by
   cases req with
   | false=> rfl
   | true=>
    have hm:p∈q.rq:=zav f3;rw [g2] at hm;have:=((R.port i q0 g1).rq p hm).2.1;rw [hk] at this;cases this
  subst amN;have hm:p∈q0.an:=by rw [<-g3];exact zav f3
  have amL:=((R.port i q0 g1).an p hm).2.2;have ah1:(f.put p.dst (⟨(f.port p.dst).rq,(f.port p.dst).rin,(f.port p.dst).an,(f.port p.dst).ain++[p]⟩:Port)).remove a.toNat=(f.put p.dst (⟨(f.port p.dst).rq,(f.port p.dst).rin,(f.port p.dst).an,(f.port p.dst).ain++[p]⟩:Port)).put i (⟨q.rq,q.rin,q.an.eraseIdx k',q.ain⟩:Port):=by
   have hpq:(f.put p.dst (⟨(f.port p.dst).rq,(f.port p.dst).rin,(f.port p.dst).an,(f.port p.dst).ain++[p]⟩:Port)).port i=q:=vw f2;unfold Fab.remove;rw [f1];simp only [hpq,Port.drop,Port.jE,Port.sort,zaf,if_false]
  rw [ah1];have hi1:(f.put p.dst (⟨(f.port p.dst).rq,(f.port p.dst).rin,(f.port p.dst).an,(f.port p.dst).ain++[p]⟩:Port)).is i=true:=DV f2;have p1:(xP (f.put p.dst (⟨(f.port p.dst).rq,(f.port p.dst).rin,(f.port p.dst).an,(f.port p.dst).ain++[p]⟩:Port))).Perm (p::xP f):=by
   have:=jf (g:=uZ) (fA hd) (q':=(⟨(f.port p.dst).rq,(f.port p.dst).rin,(f.port p.dst).an,(f.port p.dst).ain++[p]⟩:Port)) (x:=[]) (y:=[p]) (by
    simp only [uZ,zaK,<-za5];exact zdi)
   simpa [xP,Fab.put] using this
  have p2:(p::xP ((f.put p.dst (⟨(f.port p.dst).rq,(f.port p.dst).rin,(f.port p.dst).an,(f.port p.dst).ain++[p]⟩:Port)).put i (⟨q.rq,q.rin,q.an.eraseIdx k',q.ain⟩:Port))).Perm (xP (f.put p.dst (⟨(f.port p.dst).rq,(f.port p.dst).rin,(f.port p.dst).an,(f.port p.dst).ain++[p]⟩:Port))):=by
   have:=jf (g:=uZ) f2 (q':=(⟨q.rq,q.rin,q.an.eraseIdx k',q.ain⟩:Port)) (x:=[p]) (y:=[]) (by
    simp only [uZ,zaK,zcp,<-zbb];exact(J8 f3).append_right _)
   simpa [xP,Fab.put] using this
  have pa:=(List.perm_cons p).1 (p2.trans p1);have pr:(xO ((f.put p.dst (⟨(f.port p.dst).rq,(f.port p.dst).rin,(f.port p.dst).an,(f.port p.dst).ain++[p]⟩:Port)).put i (⟨q.rq,q.rin,q.an.eraseIdx k',q.ain⟩:Port))).Perm (xO f):=by
   have h1:=jf (g:=uY) (fA hd) (q':=(⟨(f.port p.dst).rq,(f.port p.dst).rin,(f.port p.dst).an,(f.port p.dst).ain++[p]⟩:Port)) (x:=[]) (y:=[]) (by simp [uY]);have h2:=jf (g:=uY) f2 (q':=(⟨q.rq,q.rin,q.an.eraseIdx k',q.ain⟩:Port)) (x:=[]) (y:=[]) (by simp [uY]);have h3:=h2.trans h1
   simpa [xO,Fab.put] using h3
  have mid:∀(k:Nat) x,(f.put p.dst (⟨(f.port p.dst).rq,(f.port p.dst).rin,(f.port p.dst).an,(f.port p.dst).ain++[p]⟩:Port)).l[k]?=some x->Nq msg k x:=λk x hx=> by
   rcases su hd hx with⟨e,rfl⟩ | ⟨_,h⟩
   ·have e':(k:Int)=p.dst:=by rw [e];exact vg hd
    rw [e'];have P:=R.at_ hd;refine⟨P.rq,P.rin,P.an,λy hy=> ?_⟩;rcases zaL.1 hy with hy | hy
    ·exact P.ain y hy
    ·simp only [zaj,zaw,or_false] at hy;subst hy;exact⟨rfl,hk,amL⟩
   ·exact R.port k x h
  refine⟨λk x hx=> ?_,((pr.map _).nodup_iff).2 R.rn,((pa.map _).nodup_iff).2 R.an,λj y hj=> pr.mem_iff.2 (R.rc j y hj),λj y hj=> pa.mem_iff.2 (R.ac j y hj),R.src,R.dst,λj y hj=> by have:=R.rg j y hj;simpa [Fab.is,Fab.put] using this⟩;rcases su hi1 hx with⟨e,rfl⟩ | ⟨_,h⟩
  ·have Q:=mid i q f2;rw [zaq] at e;subst e;exact⟨Q.rq,Q.rin,λy hy=> Q.an y (zcz hy),Q.ain⟩
  ·exact mid k x h
end
section
variable {c:Cache}{aj L:Int}{e x:Ent}
theorem QD(h:c.find aj=some e):e.aj=aj:=by
 unfold Cache.find at h;have:=zbX h
 simpa using this
theorem xQ(hl:Lines c.l)(h0:0<=e.aj)(h:c.find e.aj=some x)(L:Int):(c.put e).1.find L=if L=e.aj then some { e with used:=x.used } else c.find L:=by
 rw [lC hl h0 h];unfold Cache.find;simp only [List.find?_map];have hf:((λy:Ent=> decide (y.aj=L)) ∘ λy:Ent=> if y.aj=e.aj then { e with used:=x.used } else y)=λy=> decide (y.aj=L):=by
  funext y
  simp only [Function.comp];by_cases hy:y.aj=e.aj
  ·simp [hy]
  ·simp [hy]
 rw [hf];by_cases hL:L=e.aj
 ·rw [if_pos hL,hL];unfold Cache.find at h;rw [h];have:=zbX h;simp only [decide_eq_true_eq] at this;simp [this]
 ·rw [if_neg hL];cases hq:c.l.find? λy=> decide (y.aj=L) with
  | none=> rfl
  | some y=>
   have:=zbX hq;simp only [decide_eq_true_eq] at this;have hne:¬y.aj=e.aj:=λh=> hL (this.symm.trans h);simp [hne]
theorem QE(hl:Lines c.l)(h0:0<=e.aj)(hn:c.find e.aj=none)(hf:c.full e.aj=false):∃u,∀L,(c.put e).1.find L=if L=e.aj then some { e with used:=u } else c.find L:=by
 refine⟨c.bZ+1,λL=> ?_⟩;have h1:=yV.2 hn;unfold Cache.put;rw [if_neg (by omega),h1];simp only [hf,zaf,if_false];unfold Cache.find at hn ⊢;rw [zdB];by_cases hL:L=e.aj
 ·rw [if_pos hL,hL,hn];simp
 ·rw [if_neg hL];have:¬e.aj=L:=λh=> hL h.symm;simp [this]
theorem Bc(hl:Lines c.l)(L:Int):(c.drop aj).find L=if L=aj then none else c.find L:=by
 rw [Gt hl];unfold Cache.find;simp only [List.find?_filter];by_cases hL:L=aj
 ·rw [if_pos hL,zbD];intro y _;simp only [decide_eq_true_eq,ne_eq,decide_not,zaY,decide_eq_false_iff_not];rintro⟨h1,h2⟩;exact h1 (h2.trans hL)
 ·rw [if_neg hL]
  congr 1
  funext y
  by_cases hy:y.aj=L
  ·simp [hy,hL]
  ·simp [hy]
theorem Xr(hl:Lines c.l)(h:c.find aj=some e)(L:Int):(c.touch aj).find L=if L=aj then some { e with used:=c.bZ+1 } else c.find L:=by
 have he:=QD h;rw [xw hl h];unfold Cache.find;simp only [List.find?_map];have hf:((λy:Ent=> decide (y.aj=L)) ∘ λy:Ent=> if y.aj=aj then { e with used:=c.bZ+1 } else y)=λy=> decide (y.aj=L):=by
  funext y
  simp only [Function.comp];by_cases hy:y.aj=aj
  ·simp [hy,he]
  ·simp [hy]
 rw [hf];by_cases hL:L=aj
 ·rw [if_pos hL,hL];unfold Cache.find at h;rw [h];simp [he]
 ·rw [if_neg hL];cases hq:c.l.find? λy=> decide (y.aj=L) with
  | none=> rfl
  | some y=>
   have:=zbX hq;simp only [decide_eq_true_eq] at this;have hne:¬y.aj=aj:=λh=> hL (this.symm.trans h);simp [hne]
end
section
variable {t:Turns}{aj who id L:Int}
theorem IL(h:Gx t)(h0:0<=who)(ho:t.owner aj=-1)(hw:t.ws aj=[]):(t.ask aj who id).2=true/\(∀L,(t.ask aj who id).1.owner L=if L=aj then who else t.owner L)/\∀L,(t.ask aj who id).1.ws L=t.ws L:=by
 have hd:t.owned aj=false:=by
  cases e:t.owned aj with
  | false=> rfl
  | true=> exact absurd ho ((h.owned aj).1 e)
 have ht:t.ask aj who id=({ t with fU:=lK t.fU aj who },true):=by
  unfold Turns.ask;rw [if_neg (by omega)];simp [hd,hw]
 rw [ht];refine⟨rfl,λL=> ?_,λL=> rfl⟩;unfold Turns.owner;simp only [iw];by_cases hL:L=aj
 ·simp [hL]
 ·rw [if_neg hL,if_neg (λh=> hL h.symm)]
theorem IQ(h:Gx t)(h0:0<=who)(ho:t.owner aj≠-1∨t.ws aj≠[]):(t.ask aj who id).2=false/\(∀L,(t.ask aj who id).1.owner L=t.owner L)/\∀L,(t.ask aj who id).1.ws L=if L=aj then t.ws aj++[(who,id)] else t.ws L:=by
 have ht:t.ask aj who id=({ t with wait:=lK t.wait aj (t.ws aj++[(who,id)]) },false):=by
  unfold Turns.ask;rw [if_neg (by omega),if_pos];rcases ho with ho | ho
  ·rw [(h.owned aj).2 ho];simp
  ·simp [ho]
 rw [ht];refine⟨rfl,λL=> rfl,λL=> ?_⟩;unfold Turns.ws;simp only [iw];by_cases hL:L=aj
 ·simp [hL]
 ·rw [if_neg hL,if_neg (λh=> hL h.symm)]
theorem Xt(h:Gx t)(ho:t.owner aj=-1){w:Int × Int}{ws:List (Int × Int)}(hw:t.ws aj=w::ws):(t.next aj).2=some w/\(∀L,(t.next aj).1.owner L=if L=aj then w.1 else t.owner L)/\∀L,(t.next aj).1.ws L=if L=aj then ws else t.ws L:=by
 have hd:t.owned aj=false:=by
  cases e:t.owned aj with
  | false=> rfl
  | true=> exact absurd ho ((h.owned aj).1 e)
 have ht:t.next aj=({ fU:=lK t.fU aj w.1,wait:=lK t.wait aj ws },some w):=by
  unfold Turns.next
  simp [hd,hw]
 rw [ht];refine⟨rfl,λL=> ?_,λL=> ?_⟩
 ·unfold Turns.owner;simp only [iw];by_cases hL:L=aj
  ·simp [hL]
  ·rw [if_neg hL,if_neg (λh=> hL h.symm)]
 ·unfold Turns.ws;simp only [iw];by_cases hL:L=aj
  ·simp [hL]
  ·rw [if_neg hL,if_neg (λh=> hL h.symm)]
theorem Nr(h:Gx t)(h0:0<=who)(ho:t.owner aj=who):(t.release aj who).2=0/\(∀L,(t.release aj who).1.owner L=if L=aj then -1 else t.owner L)/\∀L,(t.release aj who).1.ws L=t.ws L:=by
 have ha:jh t.fU aj=some who:=by
  unfold Turns.owner at ho;cases e:jh t.fU aj with
  | none=> rw [e] at ho;simp at ho;omega
  | some v=> rw [e] at ho;simp only [zat] at ho;rw [ho]
 have ht:t.release aj who=({ t with fU:=xY t.fU aj },0):=by
  unfold Turns.release;rw [if_pos ha]
 rw [ht];refine⟨rfl,λL=> ?_,λL=> rfl⟩;unfold Turns.owner;simp only [BR h.ok];by_cases hL:L=aj
 ·simp [hL]
 ·rw [if_neg hL,if_neg (λh=> hL h.symm)]
end
theorem J9 {dD:Rows}{aj:Int}{r:Row}(L:Int):jc (lK dD aj r) L=if L=aj then r else jc dD L:=by
 unfold jc;rw [iw];by_cases hL:L=aj
 ·simp [hL]
 ·rw [if_neg hL,if_neg (λh=> hL h.symm)]
def apw(s:Int):Nat:=if s=1 then 9 else if s=4 then 6 else if s=6 then 0 else 3
def loc(s:Int):Out->Nat
 | .idle=> 0
 | .req _=> 3
 | .wait=> 2
 | .ans _=> if s=3 then 4 else 1
def Dp(d:bJ)(o:Out):Nat:=if d.step=0 then 13 else apw d.step+loc d.step o+if d.aO=3∨d.step=6 then 13 else 0
def wt(d:bJ)(L:Int)(x:Option Ent):Nat:=if x=none then 0 else if d.aO=3/\d.step≠0/\d.step≠6/\d.aj=L then 3 else 16
theorem aij {d:bJ}{L:Int}{x:Option Ent}:wt d L x<=16:=by
 unfold wt;split
 ·omega
 ·split <;> omega
theorem aa8 {d:bJ}{L:Int}:wt d L none=0:=rfl
theorem amO {d:bJ}{L:Int}{e:Ent}:3<=wt d L (some e):=by
 unfold wt;rw [if_neg (zdr e)];split <;> omega
theorem aik {d:bJ}{L:Int}{e e':Ent}:wt d L (some e)=wt d L (some e'):=by
 unfold wt;simp
theorem wV {d:bJ}{L:Int}{x:Option Ent}(h:d.step=0∨d.step=6∨d.aj≠L∨d.aO≠3):wt d L x=if x=none then 0 else 16:=by
 unfold wt;split
 ·rfl
 ·rw [if_neg (by omega)]
def apx(s s':Int):Bool:=decide (apw s'+3 < apw s+if s=3 then 4 else 1)
theorem sD {d d':bJ}{x y:Option Ent}{p q:Pkt}{L:Int}(hk:d'.aO=d.aO)(hl:d'.aj=d.aj)(h0:d.step≠0)(h6:d.step≠6)(hs:apx d.step d'.step=true)(hx:(d'.step≠6/\d'.step≠0/\y=x)∨(d'.step=6/\d.aO=3/\y=none)):Dp d' (.req q)+wt d' L y < Dp d (.ans p)+wt d L x:=by
 have hs:=of_decide_eq_true hs;have e1:loc d'.step (.req q)=3:=rfl;have e2:loc d.step (.ans p)=if d.step=3 then 4 else 1:=rfl;rcases hx with⟨h1,h2,rfl⟩ | ⟨h1,h2,rfl⟩
 ·have hw:wt d' L y=wt d L y:=by
   unfold wt;rw [hk,hl];simp only [h0,h6,h1,h2,ne_eq,not_false_eq_true,true_and]
  rw [hw];unfold Dp;rw [if_neg h0,if_neg h2,hk];simp only [h1,h6,or_false];rw [e1,e2];omega
 ·rw [aa8];unfold Dp;rw [if_neg h0,if_neg (by omega),if_pos (.inr h1),if_pos (.inl h2)];rw [e1,e2];omega
def zf(n:Int)(f:Int->Nat):Nat:=((List.range n.toNat).map λj:Nat=> f j).sum
theorem aa9 {f g:Nat->Nat}{i:Nat}:∀{n:Nat},i < n->(∀j,j≠i->g j=f j)->((List.range n).map g).sum+f i=((List.range n).map f).sum+g i
 | 0,h,_=> absurd h (Nat.not_lt_zero i)
 | n+1,h,hf=> by
  simp only [zcE,zbK,List.sum_append,zaz,zbO,zbS,List.sum_nil];by_cases e:i=n
  ·subst e;have:(List.range i).map g=(List.range i).map f:=zbr λj hj=> hf j (by have:=za4.1 hj;omega);rw [this];omega
  ·have:=aa9 (f:=f) (g:=g) (n:=n) (by omega) hf;have:=hf n λh=> e h.symm;omega
theorem Ip {n i:Int}{f g:Int->Nat}(hi:0<=i/\i < n)(h:∀j,j≠i->g j=f j):zf n g+f i=zf n f+g i:=by
 obtain⟨k,rfl⟩:∃k:Nat,i=k:=⟨i.toNat,by omega⟩
 exact aa9 (f:=λj=> f j) (g:=λj=> g j) (i:=k) (by omega) λj hj=> h j (by omega)
def pot(c:Cfg)(lf:Int->Nat)(a:Abs):Nat:=zf c.aH (λj=> 33*lf j+Dp (a.aF j) (a.msg j))+zf c.aH λj=> zf c.bg λL=> wt (a.aF j) L (a.ent L j)
theorem TF {c:Cfg}{lf lf':Int->Nat}{a a':Abs}{i k L:Int}(hi:0<=i/\i < c.aH)(hk:0<=k/\k < c.aH)(hL:0<=L/\L < c.bg)(h1:∀j,j≠i->lf' j=lf j/\a'.aF j=a.aF j/\a'.msg j=a.msg j)(h2:∀j L',j≠k∨L'≠L->wt (a'.aF j) L' (a'.ent L' j)=wt (a.aF j) L' (a.ent L' j))
  (h3:33*lf' i+Dp (a'.aF i) (a'.msg i)+wt (a'.aF k) L (a'.ent L k) < 33*lf i+Dp (a.aF i) (a.msg i)+wt (a.aF k) L (a.ent L k)):pot c lf' a' < pot c lf a:=by
 have e1:=Ip (f:=λj=> 33*lf j+Dp (a.aF j) (a.msg j)) (g:=λj=> 33*lf' j+Dp (a'.aF j) (a'.msg j)) hi λj hj=> by
  obtain⟨b1,b2,b3⟩:=h1 j hj;simp only [b1,b2,b3]
 have e2:=Ip (f:=λj=> zf c.bg λL=> wt (a.aF j) L (a.ent L j)) (g:=λj=> zf c.bg λL=> wt (a'.aF j) L (a'.ent L j)) hk λj hj=> by
  have:(λL=> wt (a'.aF j) L (a'.ent L j))=λL=> wt (a.aF j) L (a.ent L j):=funext λL'=> h2 j L' (.inl hj);simp only [this]
 have e3:=Ip (f:=λL=> wt (a.aF k) L (a.ent L k)) (g:=λL=> wt (a'.aF k) L (a'.ent L k)) hL λL' h=> h2 k L' (.inr h);unfold pot;omega
theorem lH {E:tX}{i:Int}:nU E i (E i)=E:=by
 funext j
 by_cases h:j=i
 ·rw [h,fO]
 ·rw [fB h]
theorem abb {d:bJ}{p:Pkt}(hk:p.aO=BK (zS d.step))(hid:p.id=d.id)(hl:p.aj=d.aj)(hs:1<=d.step/\d.step<=6):d.fits p=true:=by
 have:d.step=1∨d.step=2∨d.step=3∨d.step=4∨d.step=5∨d.step=6:=by omega
 unfold bJ.fits;simp only [hk,hid,hl,decide_true,zc7,decide_eq_true_eq];rcases this with h | h | h | h | h | h <;> simp [h,BK,zS]
structure amP(c:Cfg)(N hm:Int)(E:tX)(r:Row)(v:List Int)(i:Int)(n:Node)(ca:Cache)(d':bJ):Prop where
 aj:d'.aj=n.aF.aj
 aO:d'.aO=n.aF.aO
 id:d'.id=n.aF.id
 step:d'.step≠0
 fall:∀p q,¬(d'.step=6/\d'.aO≠3)->Dp d' (.req q)+wt d' n.aF.aj (ca.find n.aF.aj) < Dp n.aF (.ans p)+wt n.aF n.aF.aj (n.aI.find n.aF.aj)
 other:∀L,L≠n.aF.aj->ca.find L=n.aI.find L
 miss:d'.aO=1->d'.step=1∨d'.step=2->ca.find n.aF.aj=none
 next:(¬(d'.step=6/\d'.aO≠3)/\Hold N hm (nU E i (ca.find n.aF.aj)) r v i d' (.req (d'.ask i hm)))∨
  (d'.step=6/\d'.aO≠3/\∃e,ca.find n.aF.aj=some e/\e.data=v/\
   ((n.aF.aO=1/\Hold N hm (nU E i (some e)) r v i d' (.req (d'.ask i hm)))∨
    (n.aF.aO=2/\e.cO=true/\∀e':Ent,e'.back=e.back->e'.fwd=e.fwd->e'.cO=e.cO->Hold N hm (nU E i (some e')) r e'.data i d' (.req (d'.ask i hm)))))
section
variable {c:Cfg}{N hm:Int}{E:tX}{r:Row}{v:List Int}{i:Int}{n:Node}
theorem TG {ca:Cache}(hl:Lines ca.l){e:Ent}(h0:0<=e.aj)(hf:ca.full e.aj=false):∃u,∀L,(ca.put e).1.find L=if L=e.aj then some { e with used:=u } else ca.find L:=by
 cases h:ca.find e.aj with
 | none=> exact QE hl h0 h hf
 | some x=> exact⟨x.used,λL=> xQ hl h0 h L⟩
theorem QF {d:bJ}{me:Int}{ca:Cache}{x:Int}(hx:x=match ca.find d.aj with
   | some own=> if d.next=me then own.fwd else d.next
   | none=> d.next):bT d me ca=if x≠-1 then(ca,{ d with next:=x,step:=3 }) else((ca.put ⟨-1,-1,d.aj,0,true,d.data⟩).1,{ d with next:=x,step:=6,aT:=2,head:=me,data:=[] }):=by
 unfold bT;cases hc:ca.find d.aj with
 | none=>
  rw [hc] at hx;simp only at hx;subst hx;rfl
 | some own=>
  rw [hc] at hx;simp only at hx;by_cases h:d.next=me
  ·rw [if_pos h] at hx;simp only [if_pos h];subst hx;rfl
  ·rw [if_neg h] at hx;simp only [if_neg h];subst hx;rfl
theorem QG(hl:Lines n.aI.l)(hi:0<=i/\i < N)(hE:E i=n.aI.find n.aF.aj)(h0:0<=n.aF.aj)(hfull:n.aI.full n.aF.aj=false)(hk2:n.aF.aO=2)(hst:n.aF.step=1∨n.aF.step=3){d1:bJ}(k1:d1.aO=2)(k2:d1.aj=n.aF.aj)(k3:d1.id=n.aF.id){R:List Int}(L:aib N E v i R)(hd1:E i≠none->d1.data=v)(hd2:R=[]->d1.data=v)(hn:d1.next=hdI R (-1)):
  amP c N hm E r v i n (bT d1 i n.aI).1 (bT d1 i n.aI).2:=by
 obtain⟨x,hx⟩:∃x,x=match E i with
   | some own=> if d1.next=i then own.fwd else d1.next
   | none=> d1.next:=⟨_,rfl⟩
 have hx':=hx;rw [hE,<-k2] at hx';rw [QF hx'];rcases aic (hm:=hm) (r:=r) hi.1 L hd1 hd2 hn hx k1 with⟨hx1,H⟩ | ⟨hx1,hdv,hall⟩
 ·rw [if_pos hx1];refine⟨k2,k1.trans hk2.symm,k3,(by decide:(3:Int)≠0),λ_ _ _=> sD (k1.trans hk2.symm) k2 (by omega) (by omega) (by rcases hst with h | h <;> rw [h] <;> rfl) (.inl ⟨(by decide:(3:Int)≠6),(by decide:(3:Int)≠0),rfl⟩),λ_ _=> rfl,λh=> absurd (show d1.aO=1 from h) (by omega),.inl ⟨λh=> absurd (show(3:Int)=6 from h.1) (by decide),?_⟩⟩;rw [<-hE,lH];exact H _ rfl k1 rfl rfl
 ·rw [if_neg (by rw [hx1];decide)];obtain⟨u,hu⟩:=TG (ca:=n.aI) hl (e:=⟨-1,-1,d1.aj,0,true,d1.data⟩) (by rw [k2];exact h0) (by rw [k2];exact hfull);simp only at hu;refine⟨k2,k1.trans hk2.symm,k3,(by decide:(6:Int)≠0),λ_ _ h=> absurd ⟨rfl,(show d1.aO≠3 by omega)⟩ h,λL hL=> by rw [hu,if_neg (by rw [k2];exact hL)],λh=> absurd (show d1.aO=1 from h) (by omega),.inr ⟨rfl,by show d1.aO≠3;omega,⟨-1,-1,d1.aj,u,true,d1.data⟩,by rw [hu,if_pos k2.symm],hdv,.inr ⟨hk2,rfl,λe' a b c'=> ?_⟩⟩⟩;exact Ik hi hall a b c' rfl rfl rfl
theorem Xu(hl:Lines n.aI.l)(hi:0<=i/\i < N)(hv:v≠[])(hE:E i=n.aI.find n.aF.aj)(h0:0<=n.aF.aj)(hfull:n.aF.aO≠3->n.aI.full n.aF.aj=false)(hkr:1<=n.aF.aO/\n.aF.aO<=3)(hmiss:n.aF.aO=1->n.aF.step=1∨n.aF.step=2->E i=none){p:Pkt}(H:Hold N hm E r v i n.aF (.ans p)):
  ∃ca d',n.after i p=(ca,d',true)/\amP c N hm E r v i n ca d':=by
 obtain⟨f1,f2,f3,f4,f5,f6⟩:=H.ans;have hfit:=abb f4 f2 f3 (by omega);have one:=hkr;unfold Node.after;have hh:∃q,Out.ans p=q/\Hold N hm E r v i n.aF q:=⟨_,rfl,H⟩
 obtain⟨q,hq,H⟩:=hh;cases H with
 | granted h1 W=>
  cases hq;have hk3:n.aF.aO=1∨n.aF.aO=2∨n.aF.aO=3:=by omega
  rcases hk3 with hk | hk | hk
  ·rw [if_pos hk];unfold dQ;rw [if_neg (by rw [hk,hfit];simp),if_pos h1];simp only;have hEn:=hmiss hk (.inl h1);by_cases hs:r.aT≠0
   ·rw [if_pos hs];refine⟨_,_,rfl,rfl,rfl,rfl,(by decide:(2:Int)≠0),λ_ _ _=> sD rfl rfl (by omega) (by omega) (by rw [h1];rfl) (.inl ⟨(by decide:(2:Int)≠6),(by decide:(2:Int)≠0),rfl⟩),λ_ _=> rfl,λ_ _=> by rw [<-hE];exact hEn,.inl ⟨λh=> absurd (show(2:Int)=6 from h.1) (by decide),?_⟩⟩;rw [<-hE,lH];exact Ij (d:={ n.aF with aT:=r.aT,head:=r.head,told:=r.head,data:=r.data,step:=2 }) hk W hs rfl rfl
   ·rw [if_neg hs];obtain⟨u,hu⟩:=TG (ca:=n.aI) hl (e:=⟨-1,-1,n.aF.aj,0,false,r.data⟩) h0 (hfull (by omega));simp only at hu;have hr0:r.aT=0:=Classical.not_not.1 hs;refine⟨_,_,rfl,rfl,rfl,rfl,(by decide:(6:Int)≠0),λ_ _ h=> absurd ⟨rfl,(show n.aF.aO≠3 by omega)⟩ h,λL hL=> by rw [hu,if_neg hL],λ_ h=> (h.elim (λh=> absurd (show(6:Int)=1 from h) (by decide)) λh=> absurd (show(6:Int)=2 from h) (by decide)),.inr ⟨rfl,by show n.aF.aO≠3;omega,⟨-1,-1,n.aF.aj,u,false,r.data⟩,by rw [hu,if_pos rfl],W.D8 (by rw [hr0];decide),.inl ⟨hk,?_⟩⟩⟩;exact Nh hi W hr0 rfl rfl rfl rfl rfl rfl rfl rfl
  ·rw [if_neg (by omega),if_pos hk];unfold dS;rw [if_neg (by rw [hk,hfit];simp),if_pos h1];simp only;refine⟨_,_,rfl,?_⟩;refine QG hl hi hE h0 (hfull (by omega)) hk (.inl h1) hk rfl rfl (Wf.left (i:=i) W) (λhe=> ?_) (λhl0=> ?_) W.head
   ·simp only [<-hE];cases hei:E i with
    | none=> exact absurd hei he
    | some own=> exact W.data i own hei
   ·simp only [<-hE];rw [W.empty hl0 i];exact W.D8 (by rw [W.st0.2 hl0];decide)
  ·rw [if_neg (by omega),if_neg (by omega),if_pos hk];unfold eF;rw [if_neg (by rw [hk,hfit];simp),if_pos h1];simp only;cases hc:n.aI.find n.aF.aj with
   | none=>
    simp only;refine⟨_,_,rfl,rfl,rfl,rfl,(by decide:(6:Int)≠0),λ_ _ _=> sD rfl rfl (by omega) (by omega) (by rw [h1];rfl) (.inr ⟨rfl,hk,hc⟩),λ_ _=> rfl,λh=> absurd (show n.aF.aO=1 from h) (by omega),.inl ⟨λh=> h.2 hk,?_⟩⟩;rw [<-hE,lH];exact Nl W rfl rfl rfl rfl
   | some e=>
    have hei:E i=some e:=hE.trans hc;simp only;by_cases hb:e.back=-1/\e.fwd=-1
    ·rw [if_pos hb];have hdr:=Bc (aj:=n.aF.aj) hl;refine⟨_,_,rfl,rfl,rfl,rfl,(by decide:(6:Int)≠0),λ_ _ _=> sD rfl rfl (by omega) (by omega) (by rw [h1];rfl) (.inr ⟨rfl,hk,by rw [hdr,if_pos rfl]⟩),λL hL=> by rw [hdr,if_neg hL],λh=> absurd (show n.aF.aO=1 from h) (by omega),.inl ⟨λh=> h.2 hk,?_⟩⟩;rw [hdr,if_pos rfl];exact IG W hv hei hb.1 hb.2 rfl rfl rfl rfl
    ·rw [if_neg hb];by_cases hb1:e.back=-1
     ·rw [if_pos hb1];refine⟨_,_,rfl,rfl,rfl,rfl,(by decide:(5:Int)≠0),λ_ _ _=> sD rfl rfl (by omega) (by omega) (by rw [h1];rfl) (.inl ⟨(by decide:(5:Int)≠6),(by decide:(5:Int)≠0),rfl⟩),λ_ _=> rfl,λh=> absurd (show n.aF.aO=1 from h) (by omega),.inl ⟨λh=> h.2 hk,?_⟩⟩;rw [<-hE,lH];exact II W hei hb1 (λh=> hb ⟨hb1,h⟩) rfl hk rfl rfl rfl
     ·rw [if_neg hb1];refine⟨_,_,rfl,rfl,rfl,rfl,(by decide:(4:Int)≠0),λ_ _ _=> sD rfl rfl (by omega) (by omega) (by rw [h1];rfl) (.inl ⟨(by decide:(4:Int)≠6),(by decide:(4:Int)≠0),rfl⟩),λ_ _=> rfl,λh=> absurd (show n.aF.aO=1 from h) (by omega),.inl ⟨λh=> h.2 hk,?_⟩⟩;rw [<-hE,lH];exact IJ W hei hb1 rfl hk rfl rfl rfl
 | attached h1 h2 h3 h4 R C M D X F=>
  cases hq;rw [if_pos h2];unfold dQ;rw [if_neg (by rw [h2,hfit];simp),if_neg (by omega),if_pos h1];simp only;have hEn:=hmiss h2 (.inr h1);obtain⟨u,hu⟩:=TG (ca:=n.aI) hl (e:=⟨n.aF.head,-1,n.aF.aj,0,false,v⟩) h0 (hfull (by omega));simp only at hu;refine⟨_,_,rfl,rfl,rfl,rfl,(by decide:(6:Int)≠0),λ_ _ h=> absurd ⟨rfl,(show n.aF.aO≠3 by omega)⟩ h,λL hL=> by rw [hu,if_neg hL],λ_ h=> (h.elim (λh=> absurd (show(6:Int)=1 from h) (by decide)) λh=> absurd (show(6:Int)=2 from h) (by decide)),.inr ⟨rfl,by show n.aF.aO≠3;omega,⟨n.aF.head,-1,n.aF.aj,u,false,v⟩,by rw [hu,if_pos rfl],rfl,.inl ⟨h2,?_⟩⟩⟩;exact Nk hi hEn h3 h4 R C M D X F hv rfl rfl rfl rfl rfl rfl rfl rfl
 | Ii h1 h2 L hcl h3=>
  cases hq;rw [if_neg (by omega),if_pos h2];unfold dS;rw [if_neg (by rw [h2,hfit];simp),if_neg (by omega),if_pos h1];simp only;refine⟨_,_,rfl,?_⟩;refine QG hl hi hE h0 (hfull (by omega)) h2 (.inr h1) h2 rfl rfl L (λhe=> ?_) (λ_=> ?_) rfl
  ·simp only [<-hE];cases hei:E i with
   | none=> exact absurd hei he
   | some own=> exact h3 he
  ·simp only [<-hE];cases hei:E i with
   | none=> rfl
   | some own=> exact h3 (by rw [hei];simp)
 | y9 h1 h2 M h3 C C' h4 h5 h6=>
  cases hq;rw [if_neg (by omega),if_neg (by omega),if_pos h2];unfold eF;rw [if_neg (by rw [h2,hfit];simp),if_neg (by omega),if_pos h1];by_cases hn:n.aF.next=-1
  ·rw [if_pos hn];unfold gJ;have hdr:=Bc (aj:=n.aF.aj) hl;have hpost:=(M.rng.mid.2.2.2.2.1.aa6).1 (h5.symm.trans hn);refine⟨_,_,rfl,rfl,rfl,rfl,(by decide:(6:Int)≠0),λ_ _ _=> sD rfl rfl (by omega) (by omega) (by rw [h1];rfl) (.inr ⟨rfl,h2,by rw [hdr,if_pos rfl]⟩),λL hL=> by rw [hdr,if_neg hL],λh=> absurd (show n.aF.aO=1 from h) (by omega),.inl ⟨λh=> h.2 h2,?_⟩⟩;rw [hdr,if_pos rfl];exact Il M h3 C hpost rfl rfl h6 rfl
  ·rw [if_neg hn];refine⟨_,_,rfl,rfl,rfl,rfl,(by decide:(5:Int)≠0),λ_ _ _=> sD rfl rfl (by omega) (by omega) (by rw [h1];rfl) (.inl ⟨(by decide:(5:Int)≠6),(by decide:(5:Int)≠0),rfl⟩),λ_ _=> rfl,λh=> absurd (show n.aF.aO=1 from h) (by omega),.inl ⟨λh=> h.2 h2,?_⟩⟩;rw [<-hE,lH];exact IK (d:={ n.aF with step:=5 }) M (λh=> hn (by rw [h5,h];rfl)) C C' rfl h2 h4 h5 h6
 | uX h1 h2 M h3 C C' h4 h5 h6=>
  cases hq;rw [if_neg (by omega),if_neg (by omega),if_pos h2];unfold eF;rw [if_neg (by rw [h2,hfit];simp),if_neg (by omega),if_neg (by omega),if_pos h1];have hdr:=Bc (aj:=n.aF.aj) hl;by_cases hh:n.aF.head=-1
  ·rw [if_pos hh];unfold gJ;refine⟨_,_,rfl,rfl,rfl,rfl,(by decide:(6:Int)≠0),λ_ _ _=> sD rfl rfl (by omega) (by omega) (by rw [h1];rfl) (.inr ⟨rfl,h2,by rw [hdr,if_pos rfl]⟩),λL hL=> by rw [hdr,if_neg hL],λh=> absurd (show n.aF.aO=1 from h) (by omega),.inl ⟨λh=> h.2 h2,?_⟩⟩;rw [hdr,if_pos rfl];exact DU (h0:=n.aF.head) (nx:=n.aF.next) M h3 C C' h4 h5 rfl rfl (by rw [if_pos hh]) rfl
  ·rw [if_neg hh];unfold gJ;refine⟨_,_,rfl,rfl,rfl,rfl,(by decide:(6:Int)≠0),λ_ _ _=> sD rfl rfl (by omega) (by omega) (by rw [h1];rfl) (.inr ⟨rfl,h2,by rw [hdr,if_pos rfl]⟩),λL hL=> by rw [hdr,if_neg hL],λh=> absurd (show n.aF.aO=1 from h) (by omega),.inl ⟨λh=> h.2 h2,?_⟩⟩;rw [hdr,if_pos rfl];exact DU (h0:=n.aF.head) (nx:=n.aF.next) M h3 C C' h4 h5 rfl rfl (by rw [if_neg hh];exact h6) rfl
 | attach _ _ _ _ _=> cases hq
 | IE _ _ _ _ _=> cases hq
 | front _ _ _ _ _ _ _ _=> cases hq
 | behind _ _ _ _ _ _ _ _ _=> cases hq
 | unlock _ _=> cases hq
end
end
end Go.Proofs.YtljogojaihgdlaaGreat
