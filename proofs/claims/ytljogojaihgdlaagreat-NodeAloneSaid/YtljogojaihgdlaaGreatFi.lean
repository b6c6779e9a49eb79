/-
  Own work: an interpreter over named blocks, its soundness, and what the functions of this seat compute (part 9 of 11).
  Conditions: those of the statement alone.
-/
import Derived.Test.YtljogojaihgdlaaGreatFh
set_option linter.all false
set_option linter.unusedSectionVars false
set_option linter.unusedVariables false
set_option linter.unusedSimpArgs false
namespace Go.Proofs.YtljogojaihgdlaaGreat
noncomputable section
section
variable {b:Nat}{H:ah}{g0:bF}{S:IG}{c:Cfg}{me:Int}{k:Nat}{K K':ah}{g:bF}{ls:Lcl}{w w':NFT}
theorem VK(f:Fab)(i:Int)(req:Bool):(f.take i req).1.l.length=f.l.length:=by
 unfold Fab.take;split
 ·split
  ·rfl
  ·simp [Fab.put]
 ·rfl
theorem Walk.CZ(W:Walk b H g0 S c me k K g ls w)(F:FOk c w.2.1):∃K' g',cl 82 [.ref S.f 0 0,I me] K=some (iE (w.2.1.take me true).2,K')/\Walk b H g0 S c me k K' g' ls (w.1,(w.2.1.take me true).1,w.2.2):=by
 obtain⟨K',g1,h1,h2,h3,h4,h5⟩:=Proofs.YtljogojaihgdlaaGreat.CZ W.loc.good W.base W.Qz.fab W.nw.Qc F me;obtain⟨g',W'⟩:=W.net h2 h3 (VK _ _ _) h4 h5;exact⟨K',g',h1,W'⟩
theorem Walk.MZ(W:Walk b H g0 S c me k K g ls w)(F:FOk c w.2.1):∃K' g',cl 72 [.ref S.f 0 0,I me] K=some (iE (w.2.1.take me false).2,K')/\Walk b H g0 S c me k K' g' ls (w.1,(w.2.1.take me false).1,w.2.2):=by
 obtain⟨K',g1,h1,h2,h3,h4,h5⟩:=Proofs.YtljogojaihgdlaaGreat.MZ W.loc.good W.base W.Qz.fab W.nw.Qc F me;obtain⟨g',W'⟩:=W.net h2 h3 (VK _ _ _) h4 h5;exact⟨K',g',h1,W'⟩
theorem Walk.room(W:Walk b H g0 S c me k K g ls w)(F:FOk c w.2.1)(req:Bool):∃K',cl 79 [.ref S.f 0 0,I me,B req] K=some (I (w.2.1.roomOf me req),K')/\Walk b H g0 S c me k K' g ls w:=by
 obtain⟨K',h1,h2,h3⟩:=aia W.loc.good W.base W.Qz.fab F me req;exact⟨K',h1,W.same h2 h3⟩
theorem TP(W:Walk b H g0 S c me k K g ls w)(hc:c.ok=true)(F:vU c w.2.1)(C:COk w.1.aG)(Z:HSz w.1.home):
  ∃K' g',match(if w.2.1.roomOf me false=0 then(w.2.1,none) else w.2.1.take me true) with
   | (f',some p)=> cl 45 [.ref (S.a 0) 0 0,.ref S.f 0 0] K=some (B true,K')/\Walk b H g0 S c me k K' g' ls ((w.1.asked c me f' p).1,(w.1.asked c me f' p).2,w.2.2)
   | (_,none)=> cl 45 [.ref (S.a 0) 0 0,.ref S.f 0 0] K=some (B false,K')/\Walk b H g0 S c me k K' g' ls w:=by
 have W0:=Walk.of W.loc.good W.base W.Qz;have li:=W0.ldN (i:=10) (v:=I me) rfl;obtain⟨K1,a1,W1⟩:=W0.room (fok hc F) false;by_cases hr:w.2.1.roomOf me false=0
 ·simp only [if_pos hr];rw [hr] at a1;obtain⟨g',W'⟩:=W.app (K':=K1) (w':=w) (by
   have:=W1.res;rw [W.len] at this;exact this)
  refine⟨K1,g',bI rfl rfl (acT _ _ _ _ ?_),W'⟩;simp only [xq_,Zo,li,a1]
 ·simp only [if_neg hr];have li1:=W1.ldN (i:=10) (v:=I me) rfl;obtain⟨K2,g2,b1,W2⟩:=W1.CZ (fok hc F);obtain⟨F2,Q2⟩:=F.take me true;have W3:=W2.newL (ty:=112) (xs:=zP9) (r:=K2.next) rfl rfl;cases ht:w.2.1.take me true with
  | mk f' po=>
   rw [ht] at b1 W2 W3 F2 Q2;simp only at b1 W2 W3 F2 Q2;obtain⟨K4,u1,u2,W4⟩:=W3.whole ak (n:=9) (vs:=(po.getD .zero).av) rfl (bV _) (by decide) (aT _);simp only [iE] at b1;cases po with
   | none=>
    simp only [za2,zaJ] at b1 u1 u2;have hf':f'=w.2.1:=by
     have:=QB (f:=w.2.1) (i:=me) (req:=true) (by rw [ht]);rw [ht] at this;exact this
    subst hf';obtain⟨g',W'⟩:=W.app (K':=K4) (w':=w) (by
     have:=W4.res;rw [W.len] at this;exact this)
    refine⟨K4,g',bI rfl rfl (acT _ _ _ _ ?_),W'⟩;simp only [xq_,Zo,li,a1,hr,li1,b1,u1,zaq]
   | some p=>
    simp only [zav,zaK] at b1 u1 u2;have Q:=Q2 p rfl;obtain⟨K5,g5,c1,W5⟩:=aa7 W4 hc C Z p (QC Q);have W6:=W5.newL (ty:=112) (xs:=zP9) (r:=K5.next) rfl rfl;obtain⟨K7,u3,u4,W7⟩:=W6.whole ak (n:=9) (vs:=(nK c me w.1 p).2.1.av) rfl (bV _) (by decide) (aT _);simp only [adS];cases hok:(nK c me w.1 p).2.2 with
    | false=>
     rw [hok] at c1;obtain⟨g',W'⟩:=W.app (K':=K7) (w':=((nK c me w.1 p).1,f',w.2.2)) (by
      have:=W7.res;rw [W.len] at this;exact this)
     refine⟨K7,g',bI rfl rfl (acT _ _ _ _ ?_),by simpa using W'⟩;simp only [xq_,Zo,LU,li,a1,hr,li1,b1,u1,u2,zah,c1,u3]
    | true=>
     rw [hok] at c1;obtain⟨K8,g8,d1,W8⟩:=W7.send (fok hc F2) (nK c me w.1 p).2.1 (QE C Z p);obtain⟨g',W'⟩:=W.app (K':=K8) (w':=((nK c me w.1 p).1,(f'.send (nK c me w.1 p).2.1).1,w.2.2)) (by
      have:=W8.res;rw [W.len] at this;exact this)
     refine⟨K8,g',bI rfl rfl (acT _ _ _ _ ?_),by simpa using W'⟩;simp only [xq_,Zo,LU,li,a1,hr,li1,b1,u1,u2,zah,c1,u3,u4,d1]
theorem aa8(W:Walk b H g0 S c me k K g ls w)(hc:c.ok=true)(F:vU c w.2.1)(Z:HSz w.1.home):
  ∃K' g',if w.1.home.ready≠[]/\w.2.1.roomOf me false≠0 then
    cl 44 [.ref (S.a 0) 0 0,.ref S.f 0 0] K=some (B true,K')/\Walk b H g0 S c me k K' g' ls ({ w.1 with home:=(w.1.home.grant me).1 },(w.2.1.send (w.1.home.grant me).2.1).1,w.2.2)
   else cl 44 [.ref (S.a 0) 0 0,.ref S.f 0 0] K=some (B false,K')/\Walk b H g0 S c me k K' g' ls w:=by
 have W0:=Walk.of W.loc.good W.base W.Qz;have lh:=W0.ldN (i:=11) (v:=.ref (S.a 3) 0 0) rfl;have li:=W0.ldN (i:=10) (v:=I me) rfl;have e1:=Xr W0.loc.good W0.Qz.bD.2.2.2 Z.t;by_cases h1:w.1.home.ready=[]
 ·simp only [if_neg (show¬(w.1.home.ready≠[]/\w.2.1.roomOf me false≠0) from λh=> h.1 h1)];have hd:decide (w.1.home.ready≠[])=false:=by rw [decide_eq_false];exact λh=> h h1
  rw [hd] at e1;refine⟨K,g,bI rfl rfl (ahl _ _ _ _ ?_),W⟩;simp only [xq_,acS,lh,e1,zaq]
 ·have hd:decide (w.1.home.ready≠[])=true:=decide_eq_true h1;rw [hd] at e1;obtain⟨K1,a1,W1⟩:=W0.room (fok hc F) false;by_cases hr:w.2.1.roomOf me false=0
  ·simp only [if_neg (show¬(w.1.home.ready≠[]/\w.2.1.roomOf me false≠0) from λh=> h.2 hr)];rw [hr] at a1;obtain⟨g',W'⟩:=W.app (K':=K1) (w':=w) (by
    have:=W1.res;rw [W.len] at this;exact this)
   refine⟨K1,g',bI rfl rfl (ahl _ _ _ _ ?_),W'⟩;simp only [xq_,acS,lh,e1,zah,li,a1]
  ·simp only [if_pos (show w.1.home.ready≠[]/\w.2.1.roomOf me false≠0 from⟨h1,hr⟩)];have lh1:=W1.ldN (i:=11) (v:=.ref (S.a 3) 0 0) rfl;obtain⟨K2,b1,b2,b3⟩:=adO W1.loc.good W1.base W1.Qz.bD.2.2.2 Z.t Z.r;have W2:=W1.home b2 b3;have W3:=W2.newL (ty:=112) (xs:=zP9) (r:=K2.next) rfl rfl;obtain⟨K4,u1,u2,W4⟩:=W3.whole ak (n:=9) (vs:=(w.1.home.grant me).2.1.av) rfl (bV _) (by decide) (aT _);have hsm:(w.1.home.grant me).2.1.data.length < 1000000000:=by
    have z0:(0:Nat) < 1000000000:=by decide
    unfold Home.grant
    repeat' split
    all_goals first | exact z0 | exact QD Z.r _
   obtain⟨K5,g5,d1,W5⟩:=W4.send (fok hc F) (w.1.home.grant me).2.1 hsm;obtain⟨g',W'⟩:=W.app (K':=K5) (w':=({ w.1 with home:=(w.1.home.grant me).1 },(w.2.1.send (w.1.home.grant me).2.1).1,w.2.2)) (by
    have:=W5.res;rw [W.len] at this;exact this)
   refine⟨K5,g',bI rfl rfl (ahl _ _ _ _ ?_),W'⟩;simp only [xq_,acS,lh,e1,zah,li,a1,hr,lh1,b1,u1,u2,d1]
theorem Walk.aa9(W:Walk b H g0 S c me k K g ls w)(d:bP):∃K' g',st 9 (.ref (S.a 0) 0 12) (.agg d.av) K=some (bf,K')/\Walk b H g0 S c me k K' g' ls ({ w.1 with aI:=d },w.2):=by
 obtain⟨K',h1,h2,h3,_⟩:=W.loc.good.stores W.base (W.loc.obj W.nw.bD.1) (i:=12) (n:=9) (vs:=d.av) (by rw [gX];decide) rfl (bH d);have e:nP (yh S.a c me w.1.aI w.1.num) 12 d.av=yh S.a c me d w.1.num:=rfl;rw [e] at h2;exact⟨K',_,h1,W.own h2 h3⟩
theorem Walk.am0(W:Walk b H g0 S c me k K g ls w)(z:Int):∃K' g',st 1 (.ref (S.a 0) 0 21) (I z) K=some (bf,K')/\Walk b H g0 S c me k K' g' ls ({ w.1 with num:=z },w.2):=by
 obtain⟨K',h1,h2,h3,_⟩:=W.loc.good.store W.base (W.loc.obj W.nw.bD.1) (i:=21) (v:=I z) (by rw [gX];decide) dN;have e:(yh S.a c me w.1.aI w.1.num).set 21 (.av (I z))=yh S.a c me w.1.aI z:=rfl;rw [e] at h2;exact⟨K',_,h1,W.own h2 h3⟩
theorem AY(W:Walk b H g0 S c me k K g ls w)(hc:c.ok=true)(F:vU c w.2.1)(hn:0<=w.1.num/\w.1.num < 1000000)(aO aj:Int):
  ∃K' g',cl 88 [.ref (S.a 0) 0 0,.ref S.f 0 0,I aO,I aj] K=some (.tup [],K')/\Walk b H g0 S c me k K' g' ls ((w.1.begin_ c me w.2.1 aO aj).1,(w.1.begin_ c me w.2.1 aO aj).2,w.2.2):=by
 have ln:=W.ldN (i:=21) (v:=I w.1.num) rfl;have e1:=adK K aO aj w.1.num;obtain⟨K1,g1,a1,W1⟩:=W.aa9 (.begin aO aj w.1.num);have ln1:=W1.ldN (i:=21) (v:=I w.1.num) rfl;have w1:=wrap_i64 (a:=w.1.num+1) (by omega) (by omega);have air:=BH (P:=Tryz.prog) (k:=.i64) (t:=3) (a:=w.1.num+1) (b:=4096) (by decide);obtain⟨K2,g2,b1,W2⟩:=W1.am0 ((w.1.num+1).tmod 4096);obtain⟨K3,g3,d1,W3⟩:=TL W2 hc (fok hc F) (show(0:Nat) < 1000000000 by decide);refine⟨K3,g3,bI rfl rfl (ape _ _ _ _ _ _ ?_),W3⟩;simp only [xq_,akN,ln,e1,a1,ln1,dG,w1,air,b1,d1]
end
theorem adT:∀(n:Nat) (l:List Int),l.Nodup->(∀x∈l,0<=x/\x < n)->l.length<=n
 | 0,[],_,_=> zac _
 | 0,x::l,_,h=> by have:=h x (by simp);omega
 | n+1,l,hd,h=> by
  by_cases hm:(n:Int)∈l
  ·have h1:=adT n (l.erase n) (hd.erase (n:Int)) λx hx=> by
    have:=(hd.mem_erase_iff).1 hx;have:=h x this.2;omega
   rw [List.length_erase_of_mem hm] at h1;omega
  ·have:=adT n l hd λx hx=> by
    have:=h x hx;have:x≠n:=λe=> hm (e ▸ hx);omega
   omega
theorem cok {c:Cfg}(hc:c.ok=true){ca:Cache}(I:Ez c ca)(hk:ca.bW < 1000000000):COk ca:=by
 have B:=DY hc;refine⟨?_,by rw [I.sets];exact B.sets.1,⟨I.ag7,hk⟩,λe he=> ?_,λe he=> ?_⟩
 ·have h1:(ca.l.map (·.aj)).Nodup:=zct.2 I.aY;have:=adT c.aY.toNat _ h1 λx hx=> by
   obtain⟨e,he,rfl⟩:=zaG.1 hx;have E:=I.ent e he;have h1:=E.lo;have h2:=E.hi;omega
  rw [zaB] at this;have:=B.aY;omega
 ·have:=(I.ent e he).dat.1;have:=B.bn;omega
 ·have:=I.ent e he;exact⟨this.u0,by have:=this.used;omega⟩
theorem psz {c:Cfg}{p:Proc}(I:ag9 c p):PSz p:=⟨by have:=I.most;omega,I.vals⟩
theorem hsz {c:Cfg}(hc:c.ok=true){me:Int}{n:Node}(I:WQ c me n)(hw:∀aj,(n.home.aP.ws aj).length < 1000000):HSz n.home:=by
 have B:=DY hc;have hk:∀e∈n.home.aP.wait,0<=e.1/\e.1 < c.aY:=λe he=> by
  have:=I.home.here e he;unfold kQ at this;simp only [zaf,decide_eq_true_eq] at this;omega
 refine⟨⟨I.home.aP.wk,λe he=> by have:=hk e he;have:=B.aY;omega,?_,hw⟩,λe he=> by have:=(I.dD e he).1;have:=B.bn;omega⟩;have:=adT c.aY.toNat _ I.home.aP.wk λx hx=> by
  obtain⟨e,he,rfl⟩:=zaG.1 hx;have:=hk e he;omega
 rw [zaB] at this;have:=B.aY;omega
section
variable {b:Nat}{H:ah}{g0:bF}{S:IG}{c:Cfg}{me:Int}{k:Nat}{K K':ah}{g:bF}{ls:Lcl}{w w':NFT}
def ais(c:Cfg)(me:Int)(n:Node)(f:Fab)(t:List Evn)(o:Opn):NFT:=
 let aj:=c.bU o.addr;let e:=n.aG.find aj
 if o.aO=4/\e=none then((n.done me t 0).1,f,(n.done me t 0).2)
 else if o.aO=4 then((n.begin_ c me f 3 aj).1,(n.begin_ c me f 3 aj).2,t)
 else if e.isSome=true/\(o.aO=1∨(e.getD .zero).bZ=true) then
  let n:={ n with aG:=n.aG.touch aj }
  ((n.effect c me t).1,f,(n.effect c me t).2)
 else if n.aG.full aj=true then((n.begin_ c me f 3 ((n.aG.nR aj).getD 0)).1,(n.begin_ c me f 3 ((n.aG.nR aj).getD 0)).2,t)
 else if o.aO=1 then((n.begin_ c me f 1 aj).1,(n.begin_ c me f 1 aj).2,t)
 else((n.begin_ c me f 2 aj).1,(n.begin_ c me f 2 aj).2,t)
theorem ait(n:Node)(f:Fab)(t:List Evn)(o:Opn):n.work c me f t o=ais c me { n with bG:={ n.bG with dU:=true } } f (if n.bG.dU then t else t++[⟨me,n.bG.aZ.length,false,0⟩]) o:=rfl
theorem VL(W:Walk b H g0 S c me k K g ls w)(hc:c.ok=true)(F:vU c w.2.1)(hp:PSz w.1.bG)(CI:Ez c w.1.aG)(hk:w.1.aG.bW < 1000)(hn:0<=w.1.num/\w.1.num < 1000000)(hl:w.2.2.length < 1000000){r7:Nat}{o:Opn}(h7:ls r7=some o.av):
  ∃K' g',pI cl (.ref (S.a 0) 0 0) (.ref S.f 0 0) (.ref S.t 0 0) (.ref r7 0 0) K=some (B true,K')/\Walk b H g0 S c me k K' g' ls (ais c me w.1 w.2.1 w.2.2 o):=by
 have C:=cok hc CI (by omega);have W0:=Walk.of W.loc.good W.base W.Qz;have lc:=W.amX (i:=2) (n:=8) (ys:=c.av) rfl rfl (by decide);have la:=W.loc.ld h7 (i:=1) (v:=I o.addr) rfl;obtain⟨aj,adU⟩:∃aj,c.bU o.addr=aj:=⟨_,rfl⟩
 have el:=P5 K c hc o.addr;rw [adU] at el;have l0:=W.ldN (i:=0) (v:=.ref (S.a 1) 0 0) rfl;have ef:=W.find C aj;obtain⟨fo,hfo⟩:∃fo,w.1.aG.find aj=fo:=⟨_,rfl⟩
 rw [hfo] at ef;simp only [oZ] at ef;have hr7:r7 < K.next:=W.loc.good.lt (pR h7)
 have W1:=W.newL (ty:=166) (xs:=zE6) (r:=K.next) rfl rfl;obtain⟨K2,u1,u2,W2⟩:=W1.whole ak (n:=6) (vs:=(fo.getD .zero).av) rfl rfl (by decide) (lg _);have k7:iF (iF ls K.next zE6) K.next (fo.getD .zero).av r7=some o.av:=by rw [aB (by omega),aB (by omega)];exact h7
 have lk:=W2.loc.ld k7 (i:=0) (v:=I o.aO) rfl;have ldd:=W2.loc.ld (r:=K.next) (xs:=(fo.getD .zero).av) ak (i:=4) (v:=B (fo.getD .zero).bZ) rfl;have l02:=W2.ldN (i:=0) (v:=.ref (S.a 1) 0 0) rfl;have TQ:=Qm W2.loc.good (W2.loc.obj W2.nw.bD.2.1) C.len C.sets aj;have aqu:=Tv W2.loc.good (W2.loc.obj W2.nw.bD.2.1) C.len C.sets C.used aj
 -- what is called is called of the bD
 have back:∀{K3:ah} {g3:bF} {w3:NFT},Walk b H g0 S c me k K3 g3 (iF (iF ls K.next zE6) K.next (fo.getD .zero).av) w3->∃g',Walk b H g0 S c me k K3 g' ls w3:=by
  intro K3 g3 w3 W3;refine⟨g3,W3.hb,⟨W3.loc.good.sub λq cs hq=> ?_,λr hr=> ?_⟩,W3.nw,W3.off,W3.step,W3.len⟩
  ·unfold lay at hq ⊢;by_cases hqr:q=K.next
   ·subst hqr;have hnone:ls K.next=none:=by
     cases e:ls K.next with
     | none=> rfl
     | some xs=>
      have:=W.loc.good.lt (pR (g:=g) e);omega
    rw [hnone] at hq;simp only at hq;have:=W3.loc.free K.next (by rw [ak];simp)
    rw [this] at hq;cases hq
   ·rw [aB hqr,aB hqr];exact hq
  ·refine W3.loc.free r ?_;have hne:r≠K.next:=λe=> by
    subst e;cases e2:ls K.next with
    | none=> exact hr e2
    | some xs=>
     have:=W.loc.good.lt (pR (g:=g) e2);omega
   rw [aB hne,aB hne];exact hr
 unfold ais;simp only [adU,hfo];by_cases h4:o.aO=4
 ·rw [h4] at lk;cases fo with
  | none=>
   rw [if_pos ⟨h4,rfl⟩];obtain⟨K3,g3,a1,W3⟩:=aa3 W2 hp hl 0;obtain⟨g',W'⟩:=back W3;refine⟨K3,g',?_,W'⟩;simp only [xq_,pI,mJ,lc,la,el,l0,ef,u1,lk,zaJ,zaq,a1]
  | some e=>
   rw [if_neg (by simp),if_pos h4];obtain⟨K3,g3,a1,W3⟩:=AY W2 hc F hn 3 aj;obtain⟨g',W'⟩:=back W3;refine⟨K3,g',?_,W'⟩;simp only [Int.reduceEq,xq_,pI,mJ,lc,la,el,l0,ef,u1,lk,zaK,zah,a1]
 ·rw [if_neg (λh=> h4 h.1),if_neg h4];by_cases hd:fo.isSome=true/\(o.aO=1∨(fo.getD .zero).bZ=true)
  ·rw [if_pos hd];obtain⟨e,rfl⟩:=zc4.1 hd.1;obtain⟨K3,a1,a2,a3⟩:=Xj W2.loc.good W2.base (W2.loc.obj W2.nw.bD.2.1) C.len C.clk aj;have W3:=W2.aG a2 a3;have hC:COk (w.1.aG.touch aj):=cok hc (CI.touch hfo) (by rw [Il CI.aY hfo];omega);obtain⟨K4,g4,b1,W4⟩:=QA W3 hc hp hC hl;obtain⟨g',W'⟩:=back W4;refine⟨K4,g',?_,W'⟩;by_cases h1:o.aO=1
   ·rw [h1] at lk;simp only [Int.reduceEq,xq_,pI,mJ,lc,la,el,l0,ef,u1,lk,zaK,a1,l02,b1]
   ·have hdd:=hd.2.resolve_left h1;rw [hdd] at ldd;simp only [xq_,pI,mJ,lc,la,el,l0,ef,u1,lk,h4,h1,ldd,zaK,a1,l02,b1]
  ·rw [if_neg hd]
   -- the condition
   have hcond:∀(X Y:Option (AV × ah)),(fo.isSome=false)∨(fo.isSome=true/\¬o.aO=1/\(fo.getD .zero).bZ=false):=λ_ _=> by
    cases h:fo.isSome with
    | false=> exact .inl rfl
    | true=>
     refine .inr ⟨rfl,λh1=> hd ⟨h,.inl h1⟩,?_⟩;cases h2:(fo.getD .zero).bZ with
     | false=> rfl
     | true=> exact absurd ⟨h,.inr h2⟩ hd
   have hcond:=hcond none none;by_cases hfl:w.1.aG.full aj=true
   ·rw [if_pos hfl];rw [hfl] at TQ;obtain⟨K3,g3,a1,W3⟩:=AY W2 hc F hn 3 ((w.1.aG.nR aj).getD 0);obtain⟨g',W'⟩:=back W3;refine⟨K3,g',?_,W'⟩;rcases hcond with hs | ⟨hs,h1,h2⟩
    ·rw [hs] at ef;simp only [xq_,pI,mJ,lc,la,el,l0,ef,u1,lk,h4,l02,TQ,aqu,a1]
    ·rw [hs] at ef;rw [h2] at ldd;simp only [xq_,pI,mJ,lc,la,el,l0,ef,u1,lk,h4,h1,ldd,l02,TQ,aqu,a1]
   ·rw [if_neg hfl];have hff:w.1.aG.full aj=false:=by cases h:w.1.aG.full aj <;> simp_all
    rw [hff] at TQ;by_cases h1:o.aO=1
    ·rw [if_pos h1];obtain⟨K3,g3,a1,W3⟩:=AY W2 hc F hn 1 aj;obtain⟨g',W'⟩:=back W3;refine⟨K3,g',?_,W'⟩;have hs:fo.isSome=false:=hcond.resolve_right λh=> h.2.1 h1;rw [hs] at ef;rw [h1] at lk;simp only [Int.reduceEq,xq_,pI,mJ,lc,la,el,l0,ef,u1,lk,l02,TQ,a1]
    ·rw [if_neg h1];obtain⟨K3,g3,a1,W3⟩:=AY W2 hc F hn 2 aj;obtain⟨g',W'⟩:=back W3;refine⟨K3,g',?_,W'⟩;rcases hcond with hs | ⟨hs,_,h2⟩
     ·rw [hs] at ef;simp only [xq_,pI,mJ,lc,la,el,l0,ef,u1,lk,h4,h1,l02,TQ,a1]
     ·rw [hs] at ef;rw [h2] at ldd;simp only [xq_,pI,mJ,lc,la,el,l0,ef,u1,lk,h4,h1,ldd,l02,TQ,a1]
end
section
variable {b:Nat}{H:ah}{g0:bF}{S:IG}{c:Cfg}{me:Int}{k:Nat}{K K':ah}{g:bF}{ls:Lcl}{w w':NFT}
theorem Walk.to(W:Walk b H g0 S c me k K g ls w){K':ah}{g1:bF}{l1:Lcl}(W1:Walk b K (lay g ls) S c me w.2.1.l.length K' g1 l1 w'):∃g',Walk b H g0 S c me k K' g' ls w':=
 W.app (by have:=W1.res;rw [W.len] at this;exact this)
theorem abb(W:Walk b H g0 S c me k K g ls w)(hc:c.ok=true)(F:vU c w.2.1)(NI:WQ c me w.1)(hn:0<=w.1.num/\w.1.num < 1000000)(hl:w.2.2.length < 999999):
  ∃K' g',match w.1.bG.cur with
   | some o=> if w.1.aI.step=0 then cl 46 [.ref (S.a 0) 0 0,.ref S.f 0 0,.ref S.t 0 0] K=some (B true,K')/\Walk b H g0 S c me k K' g' ls (w.1.work c me w.2.1 w.2.2 o)
     else cl 46 [.ref (S.a 0) 0 0,.ref S.f 0 0,.ref S.t 0 0] K=some (B false,K')/\Walk b H g0 S c me k K' g' ls w
   | none=> cl 46 [.ref (S.a 0) 0 0,.ref S.f 0 0,.ref S.t 0 0] K=some (B false,K')/\Walk b H g0 S c me k K' g' ls w:=by
 have P:=psz NI.bG;have anG:w.1.aG.bW < 1000:=by have:=NI.clk;have:=NI.bG.vals;have:=NI.bG.most;omega
 have W0:=Walk.of W.loc.good W.base W.Qz;have l1:=W0.ldN (i:=1) (v:=.ref (S.a 2) 0 0) rfl;obtain⟨K1,a1,W1⟩:=W0.cur P;have W2:=W1.newL (ty:=53) (xs:=[zI,zI,zI]) (r:=K1.next) rfl rfl;obtain⟨K3,b1,b2,W3⟩:=W2.whole ak (n:=3) (vs:=w.1.bG.op.av) rfl (eU _) (by decide) (rZ _);have k7:iF (iF noL K1.next [zI,zI,zI]) K1.next w.1.bG.op.av K1.next=some w.1.bG.op.av:=ak
 have ls3:=W3.ldN (i:=15) (v:=I w.1.aI.step) rfl;cases hcur:w.1.bG.cur with
 | none=>
  rw [hcur] at a1;simp only [zaJ] at a1;obtain⟨g',W'⟩:=W.to W3;refine⟨K3,g',bI rfl rfl (acU _ _ _ _ _ ?_),W'⟩;simp only [xq_,Zp,l1,a1,b1,zaq]
 | some o=>
  rw [hcur] at a1;simp only [zaK] at a1;by_cases hs:w.1.aI.step=0;rotate_left
  ·simp only [if_neg hs];obtain⟨g',W'⟩:=W.to W3;refine⟨K3,g',bI rfl rfl (acU _ _ _ _ _ ?_),W'⟩;simp only [Nat.reduceAdd,xq_,Zp,l1,a1,b1,zah,zaq,ls3,hs]
  ·simp only [if_pos hs];rw [hs] at ls3;have hop:w.1.bG.op=o:=by simp only [Proc.op,hcur,zav]
   have hidx:w.1.bG.idx=w.1.bG.aZ.length:=by simp only [Proc.idx,hcur]
   have lp:=W3.ldN (i:=1) (v:=.ref (S.a 2) 0 0) rfl;have eb:=aar W3.loc.good (W3.loc.obj W3.nw.bD.2.2.1);rw [ait];cases hbg:w.1.bG.dU with
   | true=>
    rw [hbg] at eb;have he:({ w.1 with bG:={ w.1.bG with dU:=true } }:Node)=w.1:=by
     rcases hw:w.1 with⟨ca,pr,ho,de,nu⟩
     rw [hw] at hbg;simp only at hbg;rcases pr with⟨x1,x2,x3⟩
     simp only at hbg;subst hbg;rfl
    rw [he];simp only [if_true];obtain⟨K4,g4,c1,W4⟩:=VL W3 hc F P NI.aG anG hn (by omega) (o:=w.1.bG.op) k7;rw [hop] at W4;obtain⟨g',W'⟩:=W.to W4;refine⟨K4,g',bI rfl rfl (acU _ _ _ _ _ ?_),W'⟩;simp only [Nat.reduceAdd,xq_,Zp,l1,a1,b1,zah,ls3,lp,eb,c1]
   | false=>
    rw [hbg] at eb;simp only [zae,if_false];obtain⟨v,K4,d1,d2,d3⟩:=aa0 W3.loc.good W3.base (W3.loc.obj W3.nw.bD.2.2.1) P.ops (by have:=P.ops;have:=P.vals;omega) P.vals;have hbp:w.1.bG.zZ={ w.1.bG with dU:=true }:=by
     unfold Proc.zZ;rw [if_neg (by rw [hbg,hcur];simp)]
    rw [hbp] at d2;have W4:=W3.bG d2 d3;have li:=W4.ldN (i:=10) (v:=I me) rfl;obtain⟨K5,g5,e1,W5⟩:=W4.amY (show w.2.2.length < 1000000 by omega) me w.1.bG.idx;obtain⟨K6,g6,c1,W6⟩:=VL W5 hc F (show PSz ({ w.1.bG with dU:=true }:Proc) from⟨P.ops,P.vals⟩) NI.aG anG hn (by simp only [zan,zal,zam];omega) (o:=w.1.bG.op) k7;rw [hop,hidx] at W6;obtain⟨g',W'⟩:=W.to W6;refine⟨K6,g',bI rfl rfl (acU _ _ _ _ _ ?_),W'⟩;simp only [Nat.reduceAdd,xq_,Zp,l1,a1,b1,zah,zaq,ls3,lp,eb,d1,li,e1,c1]
theorem Xv(W:Walk b H g0 S c me k K g ls w)(hc:c.ok=true)(F:vU c w.2.1)(NI:WQ c me w.1)(hl:w.2.2.length < 999999)(hdd:w.1.aI.data.length < 1000000000):
  ∃K' g',match w.2.1.take me false with
   | (f',some p)=> cl 43 [.ref (S.a 0) 0 0,.ref S.f 0 0,.ref S.t 0 0] K=some (B true,K')/\Walk b H g0 S c me k K' g' ls (w.1.answered c me f' w.2.2 p)
   | (_,none)=> cl 43 [.ref (S.a 0) 0 0,.ref S.f 0 0,.ref S.t 0 0] K=some (B false,K')/\Walk b H g0 S c me k K' g' ls w:=by
 have P:=psz NI.bG;have Bd:=DY hc;have anG:w.1.aG.bW < 1000:=by have:=NI.clk;have:=NI.bG.vals;have:=NI.bG.most;omega
 have C:=cok hc NI.aG (by omega);have W0:=Walk.of W.loc.good W.base W.Qz;have li:=W0.ldN (i:=10) (v:=I me) rfl;obtain⟨K1,g1,a1,W1⟩:=W0.MZ (fok hc F);obtain⟨F1,Q1⟩:=F.take me false;have W2:=W1.newL (ty:=112) (xs:=zP9) (r:=K1.next) rfl rfl;cases ht:w.2.1.take me false with
 | mk f' po=>
  rw [ht] at a1 W1 W2 F1 Q1;simp only at a1 W1 W2 F1 Q1;obtain⟨K3,u1,u2,W3⟩:=W2.whole ak (n:=9) (vs:=(po.getD .zero).av) rfl (bV _) (by decide) (aT _);simp only [iE] at a1;cases po with
  | none=>
   simp only [za2,zaJ] at a1 u1 u2;have hf':f'=w.2.1:=by
    have:=QB (f:=w.2.1) (i:=me) (req:=false) (by rw [ht]);rw [ht] at this;exact this
   subst hf';obtain⟨g',W'⟩:=W.to W3;refine⟨K3,g',bI rfl rfl (WW _ _ _ _ _ ?_),W'⟩;simp only [xq_,LQ,li,a1,u1,zaq]
  | some p=>
   simp only [zav,zaK] at a1 u1 u2;have Q:=Q1 p rfl;obtain⟨K4,g4,b1,W4⟩:=adP W3 C hdd p (QC Q);unfold Node.answered;obtain⟨ca,d,ok,hA⟩:∃ca d ok,w.1.after me p=(ca,d,ok):=⟨_,_,_,rfl⟩
   rw [hA] at b1 W4;simp only [tZ] at b1 W4;simp only [hA];have W5:=W4.newL (ty:=44) (xs:=zD9) (r:=K4.next) rfl rfl;obtain⟨K6,u3,u4,W6⟩:=W5.whole ak (n:=9) (vs:=d.av) rfl rfl (by decide) (bH d);cases ok with
   | false=>
    simp only [if_true];obtain⟨g',W'⟩:=W.to W6;refine⟨K6,g',bI rfl rfl (WW _ _ _ _ _ ?_),W'⟩;simp only [xq_,LQ,li,a1,u1,u2,zah,b1,u3,zaq]
   | true=>
    simp only [zbK,if_false];have hs:w.1.aI.step≠0:=λh0=> by
     have hf:w.1.aI.fits p=false:=by unfold bP.fits;rw [h0];simp [zU,BN]
     rw [rU,AX hf] at hA;simp [vT] at hA
    have NX:=Np NI.aG (NI.aI hs) hs Q (by rw [<-rU];exact hA);have hd2:d.data.length < 1000000000:=by
     rcases NX.dat with h | h
     ·rw [h];decide
     ·have:=h.1;have:=Bd.bn;omega
    have hck:ca.bW < 1000000000:=by rcases NX.clk with h | h <;> omega
    have C2:COk ca:=cok hc NX.inv hck;obtain⟨K7,g7,c1,W7⟩:=W6.aa9 d;have lp:=W7.ldN (i:=1) (v:=.ref (S.a 2) 0 0) rfl;obtain⟨K8,d1,W8⟩:=W7.cur P;have W9:=W8.newL (ty:=53) (xs:=[zI,zI,zI]) (r:=K8.next) rfl rfl;obtain⟨K10,u5,u6,W10⟩:=W9.whole ak (n:=3) (vs:=w.1.bG.op.av) rfl (eU _) (by decide) (rZ _);have hlt:K4.next < K8.next:=W8.loc.good.lt (q:=K4.next) (pR (g:=g7) ak)
    have k9:iF (iF (iF (iF (iF (iF noL K1.next zP9) K1.next p.av) K4.next zD9) K4.next d.av) K8.next [zI,zI,zI]) K8.next w.1.bG.op.av K4.next=some d.av:=by
     rw [aB (by omega),aB (by omega),ak]
    have l3:=W10.loc.ld k9 (i:=3) (v:=I d.step) rfl;have l0:=W10.loc.ld k9 (i:=0) (v:=I d.aO) rfl;have lo:=W10.loc.ld (r:=K8.next) (xs:=w.1.bG.op.av) ak (i:=0) (v:=I w.1.bG.op.aO) rfl;by_cases h0:d.step=0
    ·simp only [if_pos h0];rw [h0] at l3;by_cases hf:d.aO=3/\w.1.bG.op.aO=4
     ·simp only [if_pos hf];rw [hf.1] at l0;rw [hf.2] at lo;obtain⟨K11,g11,e1,W11⟩:=aa3 W10 P (show w.2.2.length < 1000000 by omega) 0;obtain⟨g',W'⟩:=W.to W11;refine⟨K11,g',bI rfl rfl (WW _ _ _ _ _ ?_),W'⟩;simp only [Int.reduceEq,xq_,LQ,li,a1,u1,u2,zah,b1,u3,u4,c1,lp,d1,u5,l3,l0,lo,e1]
     ·simp only [if_neg hf];obtain⟨g',W'⟩:=W.to W10;refine⟨K10,g',bI rfl rfl (WW _ _ _ _ _ ?_),W'⟩;by_cases hk:d.aO=3
      ·have ho:¬w.1.bG.op.aO=4:=λh=> hf ⟨hk,h⟩;rw [hk] at l0;simp only [Int.reduceEq,xq_,LQ,li,a1,u1,u2,zah,b1,u3,u4,c1,lp,d1,u5,l3,l0,lo,ho]
      ·simp only [Int.reduceEq,xq_,LQ,li,a1,u1,u2,zah,b1,u3,u4,c1,lp,d1,u5,l3,l0,hk]
    ·simp only [if_neg h0];by_cases h6:d.step=6/\d.aO≠3
     ·simp only [if_pos h6];rw [h6.1] at l3;have hk:=h6.2;simp only [ne_eq] at hk;obtain⟨K11,g11,e1,W11⟩:=QA W10 hc P C2 (show w.2.2.length < 1000000 by omega);obtain⟨K12,g12,e2,W12⟩:=TL W11 hc (fok hc F1) hd2;obtain⟨g',W'⟩:=W.to W12;refine⟨K12,g',bI rfl rfl (WW _ _ _ _ _ ?_),W'⟩;simp only [Int.reduceEq,xq_,LQ,G8,li,a1,u1,u2,zah,b1,u3,u4,c1,lp,d1,u5,l3,l0,hk,zaq,e1,e2]
     ·simp only [if_neg h6];obtain⟨K12,g12,e2,W12⟩:=TL W10 hc (fok hc F1) hd2;obtain⟨g',W'⟩:=W.to W12;refine⟨K12,g',bI rfl rfl (WW _ _ _ _ _ ?_),W'⟩;by_cases h66:d.step=6
      ·have hk:d.aO=3:=Classical.byContradiction λh=> h6 ⟨h66,h⟩;rw [h66] at l3;rw [hk] at l0;simp only [Int.reduceEq,xq_,LQ,G8,li,a1,u1,u2,zah,b1,u3,u4,c1,lp,d1,u5,l3,l0,zah,e2]
      ·simp only [xq_,LQ,G8,li,a1,u1,u2,zah,b1,u3,u4,c1,lp,d1,u5,l3,h0,h66,e2]
theorem VN(W:Walk b H g0 S c me k K g ls w)(hc:c.ok=true)(F:vU c w.2.1)(NI:WQ c me w.1)(hn:0<=w.1.num/\w.1.num < 1000000)(hl:w.2.2.length < 999999)(hdd:w.1.aI.data.length < 1000000000)(hw:∀aj,(w.1.home.aP.ws aj).length < 1000000):
  ∃K' g',cl 13 [.ref (S.a 0) 0 0,.ref S.f 0 0,.ref S.t 0 0] K=some (I (w.1.step c me w.2.1 w.2.2).2,K')/\Walk b H g0 S c me k K' g' ls (w.1.step c me w.2.1 w.2.2).1:=by
 have Z:=hsz hc NI hw;have C:=cok hc NI.aG (by have:=NI.clk;have:=NI.bG.vals;have:=NI.bG.most;omega);unfold Node.step;obtain⟨K1,g1,h1⟩:=Xv W hc F NI hl hdd;cases ht:w.2.1.take me false with
 | mk f' po=>
  rw [ht] at h1;cases po with
  | some p=>
   obtain⟨a1,W1⟩:=h1;refine⟨K1,g1,bI rfl rfl (WU _ _ _ _ _ ?_),W1⟩;simp only [xq_,SX,a1]
  | none=>
   obtain⟨a1,W1⟩:=h1;simp only;obtain⟨K2,g2,h2⟩:=aa8 W1 hc F Z;by_cases hg:w.1.home.ready≠[]/\w.2.1.roomOf me false≠0
   ·rw [if_pos hg] at h2 ⊢;obtain⟨a2,W2⟩:=h2;refine⟨K2,g2,bI rfl rfl (WU _ _ _ _ _ ?_),W2⟩;simp only [xq_,SX,a1,a2]
   ·rw [if_neg hg] at h2 ⊢;obtain⟨a2,W2⟩:=h2;obtain⟨K3,g3,h3⟩:=TP W2 hc F C Z;cases hr:(if w.2.1.roomOf me false=0 then(w.2.1,none) else w.2.1.take me true) with
    | mk f2 po2=>
     rw [hr] at h3;cases po2 with
     | some p=>
      obtain⟨a3,W3⟩:=h3;refine⟨K3,g3,bI rfl rfl (WU _ _ _ _ _ ?_),W3⟩;simp only [xq_,SX,a1,a2,a3]
     | none=>
      obtain⟨a3,W3⟩:=h3;simp only;obtain⟨K4,g4,h4⟩:=abb W3 hc F NI hn hl;cases hcu:w.1.bG.cur with
      | none=>
       rw [hcu] at h4;obtain⟨a4,W4⟩:=h4;refine⟨K4,g4,bI rfl rfl (WU _ _ _ _ _ ?_),W4⟩;simp only [xq_,SX,a1,a2,a3,a4]
      | some o=>
       rw [hcu] at h4;simp only at h4 ⊢;by_cases hs:w.1.aI.step=0
       ·rw [if_pos hs] at h4 ⊢;obtain⟨a4,W4⟩:=h4;refine⟨K4,g4,bI rfl rfl (WU _ _ _ _ _ ?_),W4⟩;simp only [xq_,SX,a1,a2,a3,a4]
       ·rw [if_neg hs] at h4 ⊢;obtain⟨a4,W4⟩:=h4;refine⟨K4,g4,bI rfl rfl (WU _ _ _ _ _ ?_),W4⟩;simp only [xq_,SX,a1,a2,a3,a4]
end
theorem adV {H:ah}{r:Nat}{o:fZ}(h:H.get r=o):H.put r o=H:=by
 subst h;unfold ah.put;have:(λx=> if x=r then H.get r else H.get x)=H.get:=by
  funext x
  split
  ·rename_i e;rw [e]
  ·rfl
 rw [this]
theorem aiu {H:ah}{r:Nat}{o o':fZ}:(H.put r o).put r o'=H.put r o':=by
 unfold ah.put
 congr 1
 funext x
 simp only;split <;> rfl
def sF(bit mask:Int)(i:Nat)(l:List By):List By:=l.mapIdx λj c=> if j < i then c ^^^ uQ bit mask j else c
theorem qO(bit mask:Int)(i:Nat)(l:List By):(sF bit mask i l).length=l.length:=by simp [sF]
theorem Xw(bit mask:Int)(l:List By):sF bit mask 0 l=l:=by
 unfold sF
 apply zbd
 intro i;rw [zbf];cases l[i]? <;> simp
theorem abd(bit mask:Int)(l:List By):sF bit mask l.length l=qG bit mask l:=by
 unfold sF qG
 apply zbd
 intro i;rw [zbf,zbf];cases h:l[i]? with
 | none=> rfl
 | some c=> simp [(zai.1 h).1]
theorem QF(bit mask:Int){i:Nat}{l:List By}{c:By}(h:l[i]?=some c):(sF bit mask i l)[i]?=some c:=by
 unfold sF;rw [zbf,h];simp
theorem J7(bit mask:Int){i:Nat}{l:List By}{c:By}(h:l[i]?=some c):sF bit mask (i+1) l=(sF bit mask i l).set i (c ^^^ uQ bit mask i):=by
 apply zbd
 intro j;have hi:=(zai.1 h).1;unfold sF;rw [zbf,zcs,zbf,zdE];by_cases e:i=j
 ·subst e;rw [if_pos rfl,if_pos hi,h];simp
 ·rw [if_neg e];cases hj:l[j]? with
  | none=> rfl
  | some d=>
   simp only [zak]
   congr 1
   by_cases h1:j < i
   ·rw [if_pos h1,if_pos (by omega)]
   ·rw [if_neg h1,if_neg (by omega)]
theorem Dh(bit mask:Int){i:Nat}{l:List By}{c:By}(h:l[i]?=some c)(hm:uQ bit mask i=0#8):sF bit mask (i+1) l=sF bit mask i l:=by
 rw [J7 bit mask h,hm,zdq]
 apply zbd
 intro j;rw [zcs];split
 ·rename_i e;subst e;split
  ·rw [QF bit mask h]
  ·rename_i hh;rw [zaH (by omega)]
 ·rfl
theorem Xx {K0:ah}{r n:Nat}{l:List By}{bit mask:Int}(hb:vX bit)(h0:0<=mask)(h1:mask<=65535)(hs:l.length < 1000)(hr:r < K0.next)(hbase:K0.base<=r):
  ∀(k i:Nat),i+k=l.length->Me cl0 [I bit,.s (.int .u16 mask),.sl r 0 0 1 l.length l.length false,I l.length,I i] (K0.put r (.blk 0 (5+gY) ((sF bit mask i l).map Y)))
   =some (.sl r 0 0 1 l.length l.length false,K0.put r (.blk 0 (5+gY) ((sF bit mask l.length l).map Y))):=by
 obtain⟨hb1,hb2⟩:=hb;intro k
 induction k with
 | zero=>
  intro i hi;have h1:¬((i:Int) < l.length):=by omega
  obtain rfl:i=l.length:=by omega
  rw [Zz];simp only [Int.reduceNeg,xq_,h1]
 | succ k ih=>
  intro i hi;have h2:(i:Int) < l.length:=by omega
  have h6:(i:Int)+1=((i+1:Nat):Int):=by omega
  have h7:=wrap_i64 (a:=((i+1:Nat):Int)) (by omega) (by omega);obtain⟨c,hc⟩:∃c,l[i]?=some c:=⟨_,zab (by omega)⟩
  have w8:=wrap_i64 (a:=8*(i:Int)) (by omega) (by omega);have ihn:=ih (i+1) (by omega);rw [Zz];by_cases hov:8*(i:Int) - bit < 9223372036854775808
  ·have wd:=wrap_i64 (a:=8*(i:Int) - bit) (by omega) (by omega);by_cases hA:8*(i:Int) - bit<=-8
   ·have hm:uQ bit mask i=0#8:=by unfold uQ;rw [if_pos (.inl hA)]
    rw [Dh bit mask hc hm] at ihn;simp only [Int.reduceNeg,xq_,h2,nD,w8,kY,wd,hA,Cm,dG,h6,h7,ihn]
   by_cases hB:16<=8*(i:Int) - bit
   ·have hm:uQ bit mask i=0#8:=by unfold uQ;rw [if_pos (.inr hB)]
    rw [Dh bit mask hc hm] at ihn;simp only [Int.reduceNeg,xq_,h2,nD,w8,kY,wd,hA,hB,Cm,dG,h6,h7,ihn]
   have hd:∃d:Int,8*(i:Int) - bit=d/\-8 < d/\d < 16:=⟨_,rfl,by omega,by omega⟩
   obtain⟨d,hd,hd1,hd2⟩:=hd;have wd8:=wrap_i64 (a:=d+8) (by omega) (by omega);have wdd:=wrap_i64 (a:=d) (by omega) (by omega);have ds:¬(d<=-8):=by omega
   have db:¬(16<=d):=by omega
   obtain⟨m,rfl⟩:∃m:Nat,mask=m:=⟨mask.toNat,by omega⟩
   have arM:AV.s (.int .u16 (m:Int))=U16 (BitVec.ofNat 16 m):=by
    have hv:(((BitVec.ofNat 16 m).toNat:Nat):Int)=m:=by rw [zcm,zch (by omega)]
    show AV.s (.int .u16 (m:Int))=AV.s (.int .u16 (((BitVec.ofNat 16 m).toNat:Nat):Int));rw [hv]
   let K:ah:=K0.put r (.blk 0 (5+gY) ((sF bit m i l).map Y));have byK:dF K (.sl r 0 0 1 l.length l.length false) (sF bit m i l):=by
    refine⟨⟨by simp,rfl,(qO ..).symm,⟨hr,zac _⟩,_,_,tV,?_,?_⟩,by rw [qO];exact hs⟩
    ·rw [zaB,qO];omega
    ·rw [qO,zbH,zaQ,zaw (by rw [zaB,qO];exact zac _)]
   have s1:ix 1 (.sl r 0 0 1 l.length l.length false) (I i) K=some (.ref r 0 i,K):=by
    have:=byK.ix (i:=i) (by rw [qO];omega)
    simpa [eG] using this
   have s2:ld (.ref r 0 i) K=some (Y c,K):=by
    have:=byK.ld (QF bit m hc)
    simpa [eG] using this
   have e1:cv 50 234 (.s (.int .u16 (m:Int))) K=some (U32 (BitVec.ofNat 32 m),K):=by
    refine(YP (k:=.u16) (n:=(m:Int)) (H:=K)).trans ?_;rw [Ak (k:=.u32) rfl];rfl
   let u1:BitVec 32:=BitVec.ofNat 32 m <<< 8;let u2:BitVec 32:=u1 <<< (d+8).toNat;have e2:bi .shl 234 (U32 (BitVec.ofNat 32 m)) (.s (.int .u64 8))=some (U32 u1):=Zi (k:=.u32) rfl _ 8 (by decide) (by decide);have e3:bi .shl 234 (U32 u1) (I (d+8))=some (U32 u2):=Zi (k:=.u32) rfl u1 (d+8) (by omega) (show d+8<=(32:Int) by omega);have e4:bi .shr 234 (U32 u2) (.s (.int .u64 24))=some (U32 (u2 >>> 24)):=ahd (k:=.u32) u2 24 (by decide) (by decide);have e5:cv 234 5 (U32 (u2 >>> 24)) K=some (Y ((u2 >>> 24).setWidth 8),K):=
    (acB (k:=.u32) (n:=((u2 >>> 24).toNat:Int)) (H:=K)).trans (congrArg (λv=> some (v,K)) (aj1 (k:=.u32) (k':=.u8) rfl _))
   have hm:(u2 >>> 24).setWidth 8=uQ bit m i:=by
    unfold uQ;rw [if_neg (by rw [hd];omega),hd];rfl
   rw [hm] at e5;have e6:bi .xor 5 (Y c) (Y (uQ bit m i))=some (Y (c ^^^ uQ bit m i)):=ahc (k:=.u8) rfl _ _;have e7:st 1 (.ref r 0 i) (Y (c ^^^ uQ bit m i)) K=some (bf,K0.put r (.blk 0 (5+gY) ((sF bit m (i+1) l).map Y))):=by
    refine(O9 (H:=K) (r:=r) (gg:=0) (off:=i) (ty:=5+gY) (xs:=(sF bit m i l).map Y) (v:=Y (c ^^^ uQ bit m i)) dN tV hbase (by rw [zaB,qO];omega)).trans ?_;show some (bf,(K0.put r _).put r _)=_;rw [aiu,J7 bit m hc,zdu]
   simp only [K] at s1 s2 e1 e5 e7;simp only [Int.reduceNeg,xq_,h2,nD,w8,kY,hd,wdd,ds,db,s1,s2,e1,e2,e3,e4,e5,e6,e7,wd8,Cm,dG,h6,h7,ihn]
  ·have wd:IntKind.i64.wrap (8*(i:Int) - bit)=8*(i:Int) - bit - 18446744073709551616:=by
    simp only [IntKind.wrap,IntKind.signed,IntKind.bits];simp;omega
   have hA:8*(i:Int) - bit - 18446744073709551616<=-8:=by omega
   have hm:uQ bit mask i=0#8:=by unfold uQ;rw [if_pos (.inr (by omega))]
   rw [Dh bit mask hc hm] at ihn;simp only [Int.reduceNeg,xq_,h2,nD,w8,kY,wd,hA,Cm,dG,h6,h7,ihn]
theorem am1 {H:ah}(hb:H.base<=H.next){x:AV}{l:List By}(hx:dF H x l)(hl:l≠[]){bit mask:Int}(hbit:vX bit)(h0:0<=mask)(h1:mask<=65535):
  ∃r H',cl0 95 [x,I bit,.s (.int .u16 mask)] H=some (.sl r 0 0 1 l.length l.length false,H')/\Gro H H'/\dF H' (.sl r 0 0 1 l.length l.length false) (qG bit mask l)/\H'.base<=H'.next:=by
 let H1:=H.new (.blk 0 5 []);let K0:=H1.new (.blk 0 (5+gY) (l.map Y));have e1:=aak hx hl;have n1:H1.next=H.next+1:=fE
 have n2:K0.next=H.next+1+1:=by simp only [K0,fE,n1]
 have g:Gro H K0:=(Gro.new H 0 _ _).trans (Gro.new H1 0 _ _);have at_:K0.get (H.next+1)=.blk 0 (5+gY) (l.map Y):=bC n1.symm;have ps:K0.put (H.next+1) (.blk 0 (5+gY) ((sF bit mask 0 l).map Y))=K0:=by rw [Xw];exact adV at_
 have lp:=Xx (K0:=K0) (r:=H.next+1) (n:=0) (l:=l) hbit h0 h1 hx.small (by omega) (by rw [g.base];omega) l.length 0 (by omega);rw [ps] at lp;have ln:lnS (.sl (H.next+1) 0 0 1 l.length l.length false) K0=some (I l.length,K0):=rfl;refine⟨H.next+1,K0.put (H.next+1) (.blk 0 (5+gY) ((sF bit mask l.length l).map Y)),iH (apq _ _ _ _ _ ?_),g.put (by omega),?_,by show K0.base<=K0.next;rw [g.base];omega⟩
 ·simp only [xq_,akS,e1];exact lp
 ·rw [abd];refine⟨⟨by simp,rfl,(je ..).symm,⟨by show H.next+1 < K0.next;omega,zac _⟩,_,_,tV,?_,?_⟩,by rw [je];exact hx.small⟩
  ·rw [zaB,je];omega
  ·rw [je,zbH,zaQ,zaw (by rw [zaB,je];exact zac _)]
theorem apQ(c:By):yOf (Y c)=some c:=by
 have h:=c.isLt;show(if(0:Int)<=(c.toNat:Int)/\(c.toNat:Int) < 256 then some (BitVec.ofInt 8 (c.toNat:Int)) else none)=some c;rw [if_pos ⟨by omega,by omega⟩,qH]
theorem agj:∀l:List By,(l.map Y).mapM yOf=some l
 | []=> rfl
 | c::l=> by rw [zaA,zbn,apQ,agj l];rfl
theorem Xy {H:ah}{r n:Nat}{l:List By}(hn:l.length=n)(h:dF H (.sl r 0 0 1 n n false) l)(h0:0 < n)(h8:n<=800):GU (.sl r 0 0 1 n n false) H=some l:=by
 subst hn;obtain⟨⟨hl,_,_,⟨hr,_⟩,ty,all,h2,h3,h4⟩,hs⟩:=h;rw [zbH] at h4 h3;simp only [GU,h2];rw [if_pos ⟨trivial,trivial,h3,h0,h8⟩,<-h4];exact agj l
theorem QG(p:Pkt):(sD p).length=12+8*p.data.length:=by
 rw [rG];rfl
theorem abe {H:ah}{r:Nat}{p:Pkt}(hp:p.fit){bit mask:Int}(h0:0<=mask)(h1:mask<=65535){n:Nat}(hn:n=(sD p).length)(h:dF H (.sl r 0 0 1 n n false) (qG bit mask (sD p))):
  cl 94 [.sl r 0 0 1 n n false] H=some (if aP p.bytes bit mask=true then .tup [.agg Pkt.zero.av,I 2] else .tup [.agg p.av,I 0],H):=by
 refine FY (p:=Cj) rfl ?_;have ok:=hp.ok;simp only [Pkt.ok,zaf,decide_eq_true_eq] at ok;have hlen:=QG p;unfold Cj;simp only [Xy (by rw [je,hn]) h (by omega) (by omega)];by_cases ht:aP p.bytes bit mask=true
 ·rw [if_pos ht];have hne:∀y,qG bit mask (sD p)≠jH y:=λy=> SS h0 h1 (by
   have:(jH (fH p)).length=p.bytes:=rG p;rw [this];exact ht)
  rw [dif_neg (λ⟨q,_,hq⟩=> hne _ hq.symm),if_pos hne]
 ·rw [if_neg ht];have he:qG bit mask (sD p)=sD p:=WT h0 h1 (by rw [rG];simpa using ht);have hex:∃q:Pkt,q.fit/\sD q=qG bit mask (sD p):=⟨p,hp,he.symm⟩
  rw [dif_pos hex];have hs:=Classical.choose_spec hex;have:Classical.choose hex=p:=adC hs.1 hp (hs.2.trans he);rw [this]
theorem VO(p:Pkt)(n:Int):Frz 9 (.tup [.agg p.av,I n]):=uM λx hx=> by
 simp only [zaj,zay,or_false] at hx;rcases hx with rfl | rfl
 ·exact nI λx hx=> by
   simp only [Pkt.av,zaj,zay,or_false] at hx;rcases hx with rfl | rfl | rfl | rfl | rfl | rfl | rfl | rfl | rfl <;> first | exact jc | exact uN
 ·exact jc
theorem aiv(H:ah){p:Pkt}(hp:p.fit){bit mask:Int}(hbit:vX bit)(h0:0<=mask)(h1:mask<=65535):
  cl 48 [.agg p.av,I bit,.s (.int .u16 mask)] H=some (if aP p.bytes bit mask=true then .tup [.agg Pkt.zero.av,I 2] else .tup [.agg p.av,I 0],H):=by
 have ax:p.av=p.avx (dat p.data):=rfl;let o1:fZ:=.blk 0 112 p.av;let o2:fZ:=.blk 0 112 zPk;let K:=(H.guard.new o1).new o2;have hlen:=QG p;have hK:K.base<=K.next:=by simp only [K,ji,fE];exact(by omega:H.next<=H.next+1+1)
 obtain⟨y,K1,e1,g1,b1,hb1⟩:=amB hK p (qc K p.data) hp.ok;rw [<-ax] at e1;have e1':cl 93 [.agg p.av] K=some (.tup [y,I 0],K1):=FY (p:=cl0 93) rfl e1;obtain⟨r,K2,e2,g2,b2,hb2⟩:=am1 hb1 b1 (bit:=bit) (mask:=mask) (λe=> by rw [e] at hlen;simp at hlen;omega) hbit h0 h1;have e2':cl 95 [y,I bit,.s (.int .u16 mask)] K1=some (_,K2):=FY (p:=cl0 95) rfl e2;have e3:=abe hp h0 h1 rfl b2;have hR:K2.get (H.next+1)=o2:=by
  rw [g2.same _ (zaz (show H.next+1 < K.next by simp only [K,fE];exact zdc _) g1.next),g1.same _ (by simp only [K,fE];exact zdc _)];exact bC rfl
 have hbase:K2.base<=H.next+1:=by
  rw [g2.base,g1.base];exact za0 _
 have key:∀q:Pkt,st 9 (.ref (H.next+1) 0 0) (.agg q.av) K2=some (bf,K2.put (H.next+1) (.blk 0 112 q.av))/\lda 9 (.ref (H.next+1) 0 0) (K2.put (H.next+1) (.blk 0 112 q.av))=some (.agg q.av,K2.put (H.next+1) (.blk 0 112 q.av)):=λq=> by
  refine⟨?_,(gJ (off:=0) (n:=9) tV (zac _)).trans rfl⟩;rw [UN (aT _) (show q.av.length=9 from rfl) hR hbase (by decide)];rfl
 have l1:lda 9 (.ref H.next 0 0) K=some (.agg p.av,K):=by
  have:K.get H.next=.blk 0 112 p.av:=by
   simp only [K];rw [dS (by rw [fE];exact zdc _)];exact bC rfl
  exact(gJ (off:=0) (n:=9) this (zac _)).trans rfl
 by_cases ht:aP p.bytes bit mask=true
 ·rw [if_pos ht] at e3 ⊢;refine dJ rfl rfl (akn _ _ _ _ _) ?_ (VO _ _);obtain⟨k1,k2⟩:=key .zero;simp only [K,o1,o2] at e1' l1;have n1:H.guard.next=H.next:=rfl
  simp only [Nat.reduceLT,xq_,hq_,ahn,aF,l1,e1',e2',e3,k1,k2,zah]
 ·rw [if_neg ht] at e3 ⊢;refine dJ rfl rfl (akn _ _ _ _ _) ?_ (VO _ _);obtain⟨k1,k2⟩:=key p;simp only [K,o1,o2] at e1' l1;have n1:H.guard.next=H.next:=rfl
  simp only [Nat.reduceLT,xq_,hq_,ahn,aF,l1,e1',e2',e3,k1,k2,zah]
theorem VP:∀(l:List Port) (i:Nat) (k:Nat) {j:Nat} {k':Int},wX (l.flatMap λp=> [p.rq,p.an]) (2*i) (k:Int)=some (j,k')->zV l i k=some (j / 2,decide (j % 2=0),k'.toNat)
 | [],i,k,j,k',h=> by cases h
 | p::l,i,k,j,k',h=> by
  simp only [zaE,za5,zaL,wX] at h;simp only [zV];by_cases h1:k < p.rq.length
  ·rw [if_pos ⟨by omega,by omega⟩] at h;cases h;rw [if_pos h1,show 2*i / 2=i by omega,show 2*i % 2=0 by omega];rfl
  ·rw [if_neg (λhh=> h1 (by omega))] at h;rw [if_neg h1];by_cases h2:k < p.rq.length+p.an.length
   ·rw [if_pos ⟨by omega,by omega⟩] at h;cases h;rw [if_pos h2,show(2*i+1) / 2=i by omega,show(2*i+1) % 2=1 by omega];simp only [zaa,zad,true_and];exact⟨by simp,by omega⟩
   ·rw [if_neg (λhh=> h2 (by omega))] at h;rw [if_neg h2];rw [show(k:Int) - p.rq.length - p.an.length=((k - (p.rq.length+p.an.length):Nat):Int) by omega,show 2*i+1+1=2*(i+1) by omega] at h;exact VP l (i+1) _ h
theorem arq {b:Nat}{K:ah}{gk:bF}{r:Nat}{ys:List AV}(Gk:Good b K gk)(hk:K.base<=b)(hz:gk r=some (ys.map Cell.av))(hy:ys.length=2){y:List AV}(h9:y.length=2)(ha:y.all AV.aQ=true):
  ∃K',st 2 (.ref r 0 0) (.agg y) K=some (bf,K')/\Good b K' (upd gk r (y.map Cell.av))/\Step b K K':=by
 obtain⟨K',t1,t2,t3,t4⟩:=Gk.stores hk hz (i:=0) (n:=2) (vs:=y) (by simp [hy]) h9 ha;have e:nP (ys.map Cell.av) 0 y=y.map Cell.av:=by
  unfold nP;rw [zaS (by simp [h9,hy])];simp
 rw [e] at t2;exact⟨K',t1,t2,t3⟩
theorem abf {fab:Fab}{d:Nat}{req:Bool}{l:List Pkt}:(fab.put d ((fab.port d).kN req l)).jm=fab.jm:=by
 unfold Fab.jm Fab.put;rw [zar];have key:∀(ls:List Port) (d:Nat),((ls.set d ((ls.getD d .zero).kN req l)).flatMap λp=> [p.rq,p.an])=ls.flatMap λp=> [p.rq,p.an]:=by
  intro ls
  induction ls with
  | nil=> intro d;rfl
  | cons p ls ih=>
   intro d;cases d with
   | zero=> cases req <;> simp [Port.kN]
   | succ d=> simpa using ih d
 have:=key fab.l d;unfold Fab.port;rw [zar];exact this
theorem VQ:∀(ls:List Port) (j:Nat) {l:List Pkt},(ls.flatMap λp=> [p.rq,p.an])[j]?=some l->(ls.getD (j / 2) .zero).sort (decide (j % 2=0))=l
 | [],j,l,h=> by simp at h
 | p::ls,0,l,h=> by simpa [Port.sort] using h
 | p::ls,1,l,h=> by simpa [Port.sort] using h
 | p::ls,j+2,l,h=> by
  have h':(ls.flatMap λp=> [p.rq,p.an])[j]?=some l:=by simpa using h
  have:=VQ ls j h';rw [show(j+2) / 2=j / 2+1 by omega,show(j+2) % 2=j % 2 by omega]
  simpa using this
section
variable {b:Nat}{H:ah}{g:bF}{f:Nat}{P:Nat->Nat->Nat}{c:Cfg}{fab:Fab}
theorem J8(G:Good b H g)(hb:H.base<=b)(F:iq g f P c fab)(J:Qa P fab.l.length)(K:FOk c fab)(h0:fab.l.length≠0)(hfit:∀p∈fab.all,p.fit/\fab.is p.dst=true){at_ bit mask:Int}(h64:vX at_)(hbit:vX bit)(m0:0<=mask)(m1:mask<=65535):
  ∃H' g',cl 14 [.ref f 0 0,I at_,I bit,.s (.int .u16 mask)] H=some (I (fab.deliver at_ bit mask).2,H')/\Good b H' g'/\iq g' f P c (fab.deliver at_ bit mask).1/\Off (N7 P fab.l.length) g g'/\Step b H H':=by
 have hb0:H.base<=H.next:=zax hb G.1
 have abg:∀l∈fab.jm,l.length < 1000/\∀p∈l,p.data.length < 1000000000:=by
  intro l hl;unfold Fab.jm at hl;obtain⟨p,hp,hl⟩:=za1.1 hl;simp only [zaj,zay,or_false] at hl;rcases hl with rfl | rfl
  ·exact⟨K.small hp (s:=0) (by decide),K.dat p hp 0 (by decide)⟩
  ·exact⟨K.small hp (s:=2) (by decide),K.dat p hp 2 (by decide)⟩
 have e1:=aaF G F K.len h0 abg at_ h64;have hn0:g H.next=none:=G.isNone (zac _)
 have G1:=G.newObj (ty:=112) (xs:=zP9) rfl;obtain⟨K1,s1,l1,G2,S2⟩:=aic G1 (by rw [ji];exact hb) aW rfl (y:=((fab.pkt at_).getD .zero).av) (bV _) (aT _);rw [pz] at G2;have S02:=(Step.new (.blk 0 112 zP9) G.1).trans S2;cases hp:fab.pkt at_ with
 | none=>
  have hd:fab.deliver at_ bit mask=(fab,3):=by
   unfold Fab.deliver;unfold Fab.pkt at hp;split at hp
   ·rename_i h;rw [if_pos h]
   ·rename_i h;rw [if_neg h,hp]
  rw [hd];rw [hp] at e1 s1;refine⟨K1,g,bI rfl rfl (acP _ _ _ _ _ _ ?_),G2.sub ((su.refl g).more hn0 _),F,Off.refl _ _,S02⟩;simp only [iE,za2,zaJ] at e1 s1;simp only [xq_,Zj,e1,s1,zaq]
 | some p=>
  rw [hp] at e1 s1 l1 G2;simp only [iE,zav,zaK] at e1 s1 l1 G2;have hat:¬at_ < 0:=by
   intro h;unfold Fab.pkt at hp;rw [if_pos h] at hp;cases hp
  have hall:fab.all[at_.toNat]?=some p:=by
   unfold Fab.pkt at hp
   rwa [if_neg hat] at hp
  obtain⟨pf,pd⟩:=hfit p (zau hall);have e2:=aiv K1 pf hbit m0 m1;have hd:fab.deliver at_ bit mask=if aP p.bytes bit mask=true then(fab,2) else
    if fab.room (pV p.aO)<=((fab.port p.dst).pF (pV p.aO)).length then(fab,5) else
    ((fab.put p.dst ((fab.port p.dst).kN (pV p.aO) ((fab.port p.dst).pF (pV p.aO)++[p]))).remove at_.toNat,0):=by
   unfold Fab.deliver;rw [if_neg hat,hall]
  have hk1:K1.base<=b:=by rw [S02.base];exact hb
  by_cases ht:aP p.bytes bit mask=true
  ·rw [if_pos ht] at e2 hd;rw [hd];obtain⟨K2,s3,l3,G3,S3⟩:=aic G2 hk1 aW (bV _) (y:=Pkt.zero.av) (bV _) (aT _);rw [pz] at G3;refine⟨K2,g,bI rfl rfl (acP _ _ _ _ _ _ ?_),G3.sub ((su.refl g).more hn0 _),F,Off.refl _ _,S02.trans S3⟩;simp only [Int.reduceEq,xq_,Zj,e1,s1,zah,l1,e2,s3,zaq]
  rw [if_neg ht] at e2 hd;rw [hd];obtain⟨K2,s3,l3,G3,S3⟩:=aic G2 hk1 aW (bV _) (y:=p.av) (bV _) (aT _);rw [pz] at G3;have S03:=S02.trans S3;have F3:=F.sub ((su.refl g).more hn0 (p.av.map Cell.av));obtain⟨d,hdd,hdl⟩:=AO pd;obtain⟨x,r,gg,o,h1,h2,h3⟩:=AP G3 F3 hdl;have hdst:ld (.ref H.next 0 2) K2=some (I p.dst,K2):=G3.load aW (i:=2) rfl;have hkind:ld (.ref H.next 0 0) K2=some (I p.aO,K2):=G3.load aW (i:=0) rfl;let req:=pV p.aO;have rq:=JX K2.guard p.aO;obtain⟨K3,t1,t2⟩:=E8 K2.guard (zac _) (P d) req;obtain⟨K3,t1,t2⟩:=drawn t1 t2;have G4:=G3.ext t2.next t2.same
  have hk3:K3.base<=b:=by rw [t2.base,S03.base];exact hb
  have S34:Step b K2 K3:=⟨t2.base,t2.next,λr hr=> t2.same r (zaz hr G3.1)⟩
  have l9:lda 9 (.ref H.next 0 0) K3=some (.agg p.av,K3):=G4.loads aW (i:=0) (n:=9) (xs:=p.av) rfl rfl (by decide);have hbx:=gU (F3.port hdl) (rQ req);have hR:=J5 K.ok (iIx req);obtain⟨K4,q1,q2,q3⟩:=ac3 G4 hk3 hbx hR.1 hR.2 (K.small (Fab.uY hdl) (rQ req)) p (by have:=pf.ok;simp only [Pkt.ok,zaf,decide_eq_true_eq] at this;omega);rw [Ii] at q1 q2;have hroom:N8 c (iIx req)=fab.room req:=by
   have aqv:fab.inn=c.inn:=F.2.2.2;unfold Fab.room;cases req <;> simp [iIx,N8,aqv]
  have hle:=K.box _ (Fab.uY hdl) _ (rQ req);rw [Ii] at hle;have f1:(adJ (P d) req)[1]?=some (.ref (P d (iIx req)) 0 0):=rfl;have S04:=(S03.trans S34).trans q3;have hk4:K4.base<=b:=by rw [S04.base];exact hb
  have hdp:p.dst=(d:Int):=hdd;have hpn:P d (iIx req)≠H.next:=λe=> F.TG G ⟨d,iIx req,hdl,rQ req,e.symm⟩
  by_cases hfull:N8 c (iIx req)=(((fab.port d).pF req).length:Int)
  ·rw [if_pos hfull] at q1 q2;rw [if_pos (show fab.room (pV p.aO)<=((fab.port p.dst).pF (pV p.aO)).length by rw [hdp];show fab.room req<=_;rw [<-hroom];exact Int.le_of_eq hfull)];rw [fK (by rw [hbx,Ii])] at q2;refine⟨K4,g,bI rfl rfl (acP _ _ _ _ _ _ ?_),q2.sub ((su.refl g).more hn0 _),F,Off.refl _ _,S04⟩;rw [hdp] at hdst;simp only [req] at rq t1 f1 q1;simp only [Int.reduceEq,xq_,Zj,e1,s1,zah,l1,e2,s3,h1,hdst,h2,h3,hkind,rq,t1,f1,l9,q1,zaq]
  ·rw [if_neg hfull] at q1 q2;rw [if_neg (show¬fab.room (pV p.aO)<=((fab.port p.dst).pF (pV p.aO)).length by rw [hdp];show¬fab.room req<=_;rw [<-hroom];exact λh=> hfull (Int.le_antisymm h hle))];have F4:=F3.fill J hdl (rQ req) (p':=(fab.port d).kN req ((fab.port d).pF req++[p])) (l:=(fab.port d).pF req++[p]) (CY _ _ _);rw [hdp];show∃H' g',_/\_/\iq g' f P c ((fab.put d ((fab.port d).kN req ((fab.port d).pF req++[p]))).remove at_.toNat)/\_/\_;generalize aiw:fab.put d ((fab.port d).kN req ((fab.port d).pF req++[p]))=Nr at*;have am2:Nr.jm=fab.jm:=by rw [<-aiw];exact abf
   have hlen1:Nr.l.length=fab.l.length:=by rw [<-aiw];simp [Fab.put]
   have e5:=aaE q2 F4 (by rw [hlen1];exact K.len) (by rw [hlen1];exact h0) (λl hl=> (abg l (by rw [<-am2];exact hl)).1) at_ h64;rw [am2] at e5;cases hf:wX fab.jm 0 at_ with
   | none=>
    exfalso;have:=CU hf;rw [show fab.jm.flatten=fab.all from CV fab.l] at this;have h2:=(zai.1 hall).1;omega
   | some jk=>
    obtain⟨j,k⟩:=jk;rw [hf] at e5;obtain⟨_,l,z2,z3,z4,z5,z6⟩:=tN hf;rw [Nat.sub_zero] at z2;have hj:j < 2*fab.l.length:=by
     have:=(zai.1 z2).1
     rwa [Fab.jm,qI] at this
    have hj2:j / 2 < Nr.l.length:=by rw [hlen1];omega
    obtain⟨kn,rfl⟩:∃kn:Nat,k=kn:=⟨k.toNat,by omega⟩
    have hfa:zV Nr.l 0 at_.toNat=some (j / 2,decide (j % 2=0),kn):=by
     have hh:=VP Nr.l 0 at_.toNat (j:=j) (k':=kn) (by
      show wX Nr.jm 0 _=_;rw [am2,zcf (by omega)];exact hf)
     simpa using hh
    have ex1:wY P (some (j,(kn:Int)))=.tup [.agg (kJ P j),I kn,B true]:=rfl;rw [ex1] at e5;let rq2:Bool:=decide (j % 2=0);have hP:(if j % 2=0 then 0 else 2)=oIx rq2:=by
     by_cases h:j % 2=0 <;> simp [rq2,h,oIx]
    have hp3:=aaD F4 (j:=j) (l:=l) (by rw [am2];exact z2);rw [hP] at hp3;have hq4:=gU (F4.port hj2) (tY rq2);have hl:(Nr.port (j / 2:Nat)).sort rq2=l:=by
     have:=VQ Nr.l j (show Nr.jm[j]?=some l by rw [am2];exact z2);unfold Fab.port;rw [zar];exact this
    have hkl:kn < l.length:=by omega
    obtain⟨hl3,hd3⟩:=abg l (zau z2);have n4:(upd (upd g H.next (p.av.map Cell.av)) (P d (iIx req)) (nO ((fab.port d).pF req++[p]) (N8 c (iIx req)))) K4.next=none:=q2.isNone (zac _)
    have G5:=q2.newObj (ty:=99) (xs:=[zP,zP]) rfl;obtain⟨K5,u1,G6,S6⟩:=arq G5 (by rw [ji];exact hk4) aW rfl (y:=kJ P j) rfl rfl;rw [pz] at G6;have u2:ld (.ref K4.next 0 0) K5=some (.ref (P (j / 2) (oIx rq2)) 0 0,K5):=by
     refine G6.load aW (i:=0) ?_;rw [<-hP];rfl
    have S05:=(S04.trans (Step.new _ q2.1)).trans S6;have hk5:K5.base<=b:=by rw [S05.base];exact hb
    have hne:P (j / 2) (oIx rq2)≠K4.next:=λe=> by rw [e,n4] at hp3;cases hp3
    obtain⟨v,K6,y1,G7,S7⟩:=Xn G6 hk5 (by rw [bJ hne];exact hp3) hl3 hd3 kn hkl;have hJ1:Qa P Nr.l.length:=by rw [hlen1];exact J
    have F7:=F4.fill hJ1 hj2 (tY rq2) (p':=(Nr.port (j / 2:Nat)).drop rq2 kn) (l:=l.eraseIdx kn) (by
     intro t ht;have:=zf (Nr.port (j / 2:Nat)) rq2 (l.eraseIdx kn) t ht;unfold Port.drop;rw [hl];exact this)
    have air:Nr.remove at_.toNat=Nr.put (j / 2:Nat) ((Nr.port (j / 2:Nat)).drop rq2 kn):=by
     unfold Fab.remove;rw [hfa]
    rw [air];rw [rP] at F7;let g':=upd (upd g (P d (iIx req)) (nO ((fab.port d).pF req++[p]) (N8 c (iIx req)))) (P (j / 2) (oIx rq2)) (nO (l.eraseIdx kn) c.out);have ne2:P (j / 2) (oIx rq2)≠H.next:=λe=> F.TG G ⟨j / 2,oIx rq2,by omega,tY rq2,e.symm⟩
    have ars:su g' (upd (upd (upd g H.next (p.av.map Cell.av)) (P d (iIx req)) (nO ((fab.port d).pF req++[p]) (N8 c (iIx req)))) (P (j / 2) (oIx rq2)) (nO (l.eraseIdx kn) c.out)):=(((su.refl g).more hn0 _).both _ _).both _ _;have F8:iq g' f P c (Nr.put (j / 2:Nat) ((Nr.port (j / 2:Nat)).drop rq2 kn)):=by
     have hJ:Qa P fab.l.length:=J;have A:=F.fill J hdl (rQ req) (p':=(fab.port d).kN req ((fab.port d).pF req++[p])) (l:=(fab.port d).pF req++[p]) (CY _ _ _);rw [aiw] at A;have B:=A.fill hJ1 hj2 (tY rq2) (p':=(Nr.port (j / 2:Nat)).drop rq2 kn) (l:=l.eraseIdx kn) (by
      intro t ht;have:=zf (Nr.port (j / 2:Nat)) rq2 (l.eraseIdx kn) t ht;unfold Port.drop;rw [hl];exact this)
     rw [rP] at B;exact B
    refine⟨K6,g',bI rfl rfl (acP _ _ _ _ _ _ ?_),G7.sub λq cs hq=> ?_,F8,(Off.upd ⟨d,iIx req,hdl,rQ req,rfl⟩).trans (Off.upd ⟨j / 2,oIx rq2,by omega,tY rq2,rfl⟩),S05.trans S7⟩
    ·rw [hdp] at hdst;simp only [req] at rq t1 f1 q1;simp only [xq_,Zj,e1,s1,zah,l1,e2,s3,h1,hdst,h2,h3,hkind,rq,t1,f1,l9,q1,e5,u1,u2,y1]
    ·have:=ars q cs hq;by_cases e:q=P (j / 2) (oIx rq2)
     ·subst e;rw [aW] at this ⊢;exact this
     ·rw [bJ e] at this ⊢;have h4:q≠K4.next:=λe'=> by rw [e',n4] at this;cases this
      rw [bJ h4];exact this
end
theorem GI.ask {t:Turns}(h:GI t)(aj who id:Int):GI (t.ask aj who id).1:=by
 unfold Turns.ask;split
 ·exact h
 split
 ·refine⟨h.ok,h.oge,mQ h.wk _ _,λe he w hw=> ?_⟩;rcases lX he with rfl | he
  ·rcases zaM.1 hw with hw | hw
   ·unfold Turns.ws at hw;cases ha:jl t.wait aj with
    | none=> rw [ha] at hw;cases hw
    | some ws=> rw [ha] at hw;exact h.wge _ (lW ha) w hw
   ·simp only [zaN] at hw;subst hw;simp only;omega
  ·exact h.wge e he w hw
 ·refine⟨mQ h.ok _ _,λe he=> ?_,h.wk,h.wge⟩;rcases lX he with rfl | he
  ·simp only;omega
  ·exact h.oge e he
theorem GI.release {t:Turns}(h:GI t)(aj who:Int):GI (t.release aj who).1:=by
 unfold Turns.release;split
 ·refine⟨?_,λe he=> h.oge e (GH he),h.wk,h.wge⟩;show((x9 t.fV aj).map (·.1)).Nodup;rw [BX];exact h.ok.erase _
 ·exact h
theorem GI.next {t:Turns}(h:GI t)(aj:Int):GI (t.next aj).1:=by
 unfold Turns.next
 split
 ·exact h
 split
 ·exact h
 ·rename_i w ws hw;have hge:∀x∈w::ws,0<=x.1:=by
   unfold Turns.ws at hw;cases e:jl t.wait aj with
   | none=> rw [e] at hw;cases hw
   | some l=>
    rw [e] at hw;rw [show l=w::ws from hw] at e;exact h.wge _ (lW e)
  refine⟨mQ h.ok _ _,λe he=> ?_,mQ h.wk _ _,λe he x hx=> ?_⟩
  ·rcases lX he with rfl | he
   ·exact hge w (by simp)
   ·exact h.oge e he
  ·rcases lX he with rfl | he
   ·exact hge x (zba _ hx)
   ·exact h.wge e he x hx
def yj(c:Cfg)(me:Int)(h:Home):Prop:=∀aj,kQ c me aj=true->∃row,jl h.dD aj=some row
theorem adW {c:Cfg}{dD:Rows}{aj aU head:Int}{data:List Int}{m:Int}(h:∃row,jl dD m=some row):∃row,jl (iD c dD aj aU head data).1 m=some row:=by
 unfold iD;cases jl dD aj with
 | none=> exact h
 | some r=>
  simp only;split
  ·exact h
  split
  ·exact h
  ·rw [iy];split
   ·exact⟨_,rfl⟩
   ·exact h
section
variable {c:Cfg}{me:Int}{h:Home}
theorem Xz(hc:c.ok=true)(I:XU c me h)(R:yj c me h)(p:Pkt):XU c me (h.handle c me p).1/\yj c me (h.handle c me p).1:=by
 unfold Home.handle;split
 ·exact⟨I,R⟩
 rename_i h1;have hl0:0<=p.aj:=by
  simp only [zbh,za3,not_or,zcu,zaf] at h1;have:=h1.1.1.1;simp only [Pkt.ok,zaf,decide_eq_true_eq] at this;omega
 split
 ·exact⟨I,R⟩
 rename_i h2;have hh:kQ c me p.aj=true:=by
  cases e:kQ c me p.aj with
  | true=> rfl
  | false=> exact absurd ((Ad hc hl0).2 e) h2
 split
 ·have key:XU c me { h with aP:=(h.aP.ask p.aj p.src p.id).1 }/\yj c me { h with aP:=(h.aP.ask p.aj p.src p.id).1 }:=⟨⟨I.aP.ask _ _ _,λe he=> by
   rcases UZ he with h | h
   ·rw [h];exact hh
   ·exact I.here e h⟩,R⟩
  simp only;split <;> exact key
 ·have key:XU c me (h.unlock c p).1/\yj c me (h.unlock c p).1:=by
   unfold Home.unlock;generalize (if p.flag=true then p.data else [])=dat;split
   ·exact⟨I,R⟩
   ·simp only;split
    ·exact⟨⟨I.aP.release _ _,by simp only [DJ];exact I.here⟩,λaj hl=> adW (R aj hl)⟩
    ·exact⟨I,R⟩
  simp only;split <;> exact key
theorem abh(I:XU c me h)(R:yj c me h):XU c me (h.grant me).1/\yj c me (h.grant me).1:=by
 unfold Home.grant;cases hr:h.ready with
 | nil=> exact⟨I,R⟩
 | cons aj l=>
  obtain⟨m1,m2,m3⟩:=wQ hr;have hh:kQ c me aj=true:=by
   obtain⟨e,he,rfl⟩:=zaG.1 m3;exact I.here e he
  have LG:∀e∈(h.aP.next aj).1.wait,kQ c me e.1=true:=λe he=> by
   rcases Py he with h | h
   ·exact I.here e h
   ·rw [h.1];exact hh
  have hT:=I.aP.next aj
  simp only;cases ha:h.aP.next aj with
  | mk t o=>
   rw [ha] at LG hT;cases o with
   | none=> exact⟨I,R⟩
   | some w=> exact⟨⟨hT,LG⟩,R⟩
theorem Io(R:yj c me h)(hr:∀e∈h.dD,pG c e.2.data){aj:Int}(hl:kQ c me aj=true)(who id:Int):(granted h.dD me aj who id).ok=true->yc c (granted h.dD me aj who id):=by
 intro hk;obtain⟨row,h1⟩:=R aj hl;have hd:pG c (jd h.dD aj).data:=by
  unfold jd;rw [h1];exact hr _ (lW h1)
 exact⟨hk,λ_=> hd,hd.2⟩
theorem XA(hc:c.ok=true)(R:yj c me h)(hr:∀e∈h.dD,pG c e.2.data)(p:Pkt):(h.handle c me p).2.1.ok=true->yc c (h.handle c me p).2.1:=by
 unfold Home.handle;have z:Pkt.zero.ok=true->yc c Pkt.zero:=xQ rfl (by simp [Pkt.zero]);split
 ·exact z
 rename_i h1;have hl0:0<=p.aj:=by
  simp only [zbh,za3,not_or,zcu,zaf] at h1;have:=h1.1.1.1;simp only [Pkt.ok,zaf,decide_eq_true_eq] at this;omega
 split
 ·exact z
 rename_i h2;have hh:kQ c me p.aj=true:=by
  cases e:kQ c me p.aj with
  | true=> rfl
  | false=> exact absurd ((Ad hc hl0).2 e) h2
 split
 ·simp only;split
  ·exact Io R hr hh _ _
  ·exact z
 ·simp only;split
  ·exact xQ rfl (by simp)
  ·exact z
end
structure agk(c:Cfg)(me:Int)(n:Node)(t:List Evn)(A:NFT):Prop where
 inv:WQ c me A.1
 dD:yj c me A.1.home
 fab:vU c A.2.1
 evs:A.2.2.length+n.evs=t.length+A.1.evs
section
variable {c:Cfg}{me:Int}{n:Node}{f:Fab}{t:List Evn}{o:Opn}{e:Ent}
theorem QH(ho:n.bG.cur=some o)(hb:n.bG.dU=true)(he:n.aG.find (c.bU o.addr)=some e):
  n.effect c me t=({ n with aG:=(n.aG.put (eP e o (c.dh o.addr))).1,bG:=⟨n.bG.ops,n.bG.aZ++[if o.aO=2 then 0 else e.word (c.dh o.addr)],false⟩ },t++[⟨me,n.bG.aZ.length,true,if o.aO=2 then 0 else e.word (c.dh o.addr)⟩]):=by
 have hop:n.bG.op=o:=by unfold Proc.op;rw [ho];rfl
 have hidx:n.bG.idx=n.bG.aZ.length:=by unfold Proc.idx;rw [ho]
 unfold Node.effect;simp only [hop,he,zav];unfold Node.done;simp only [Proc.yC,hb,if_true,hidx]
theorem J9(I:Ez c n.aG)(hov:I64 o.value)(he:n.aG.find (c.bU o.addr)=some e):Ez c (n.aG.put (eP e o (c.dh o.addr))).1/\(n.aG.put (eP e o (c.dh o.addr))).1.bW=n.aG.bW:=by
 obtain⟨hem,hel⟩:=(iC I.aY).1 he;have E:=I.ent e hem;obtain⟨y1,_⟩:=qN e o (c.dh o.addr);refine⟨I.put (by rw [y1];exact E.lo) (by rw [y1];exact E.hi) (Xt E.dat hov),?_⟩;rw [lH I.aY (x:=e) (by rw [y1];exact E.lo) (by rw [y1,hel];exact he)]
theorem adX {p:Proc}{v:Int}(P:ag9 c p)(hb:p.dU=true):ag9 c ⟨p.ops,p.aZ++[v],false⟩:=by
 have:=P.dU hb;exact⟨P.most,P.right,by simp only [zan,zal,zam];omega,λh=> by cases h⟩
theorem XB {ca:Cache}{d:bP}{p:Pkt}(hA:DK n.aI me n.aG p=(ca,d,false)):ca=n.aG:=by
 cases hfit:n.aI.fits p with
 | false=> rw [AX hfit] at hA;simp only [vT,zad] at hA;exact hA.1.symm
 | true=>
  unfold DK at hA
  repeat' split at hA
  ·unfold dW at hA
   repeat' split at hA
   all_goals (simp only [vT,zad,zbK,and_false] at hA)
   all_goals exact hA.1.symm
  ·unfold dX at hA
   repeat' split at hA
   all_goals (simp only [vT,zad,zbK,and_false] at hA)
   all_goals exact hA.1.symm
  ·unfold eH at hA;split at hA
   ·simp only [vT,zad] at hA;exact hA.1.symm
   ·split at hA
    ·exfalso;cases hfd:n.aG.find n.aI.aj with
     | none=> simp [hfd] at hA
     | some e=>
      simp only [hfd] at hA
      repeat' split at hA
      all_goals simp at hA
    ·unfold gQ at hA
     repeat' split at hA
     all_goals (simp only [vT,zad,zbK,and_false] at hA)
     all_goals exact hA.1.symm
  ·simp only [vT,zad] at hA;exact hA.1.symm
theorem Ns {p:Proc}{v:Int}{n':Node}(hb:n.bG.dU=true)(h:n'.bG=⟨n.bG.ops,n.bG.aZ++[v],false⟩):t.length+1+n.evs=t.length+n'.evs:=by
 unfold Node.evs;rw [h,hb];simp only [if_true,zan,zal,zam,zae,if_false];omega
theorem QI(hc:c.ok=true)(I:WQ c me n)(R:yj c me n.home)(F:vU c f){p:Pkt}(Q:yc c p):agk c me n t (n.answered c me f t p):=by
 have hsame:agk c me n t (n,f,t):=⟨I,R,F,rfl⟩
 unfold Node.answered;rw [rU];by_cases hs:n.aI.step=0
 ·have hf:n.aI.fits p=false:=by
   unfold bP.fits;rw [hs];simp [zU,BN]
  rw [AX hf];simp only [vT,if_true];exact hsame
 have D:=I.aI hs;cases hA:DK n.aI me n.aG p with
 | mk ca dk=>
  obtain⟨d,ok⟩:=dk;cases ok with
  | false=>
   rw [XB hA];simp only [if_true];exact hsame
  | true=>
   simp only [zbK,if_false];have N:=Np I.aG D hs Q hA;by_cases h0:d.step=0
   ·rw [if_pos h0];rcases N.way with⟨w1,_,w3⟩ | ⟨w1,_⟩
    rotate_left
    ·exact absurd h0 w1
    subst w3;by_cases k3:d.aO=3/\n.bG.op.aO=4
    ·rw [if_pos k3];have hb:=D.roll (by rw [<-N.aO];exact k3.1);have hlt:=I.bG.dU hb;have he:n.bG.yC 0=⟨n.bG.ops,n.bG.aZ++[0],false⟩:=by unfold Proc.yC;rw [if_pos hb]
     simp only [Node.done,he];refine⟨⟨adX I.bG hb,I.aG,I.dD,I.home,λh=> absurd h0 h,?_⟩,R,F,?_⟩
     ·have:=I.clk;simp only [zan,zal,zam];omega
     ·simp only [zan,zal,zam];exact Ns (p:=n.bG) hb rfl
    ·rw [if_neg k3];exact⟨⟨I.bG,I.aG,I.dD,I.home,λh=> absurd h0 h,I.clk⟩,R,F,rfl⟩
   ·rw [if_neg h0];rcases N.way with⟨_,w2,_⟩ | ⟨_,w2,w3⟩
    ·exact absurd w2 h0
    have hl0:0<=d.aj:=by rw [N.aj];exact D.lo
    by_cases h6:d.step=6/\d.aO≠3
    ·simp only [if_pos h6];have k3:n.aI.aO≠3:=by rw [<-N.aO];exact h6.2
     have W:=D.work k3 w2;obtain⟨o,ho,hol,hk1,hk2⟩:=W.op;have hmem:o∈n.bG.ops:=zau ho;obtain⟨e,he,_⟩:∃e,ca.find n.aI.aj=some e/\(n.aI.aO=2->e.bZ=true):=by
      rcases w3 k3 with⟨w,_⟩ | ⟨_,w⟩
      ·exact absurd h6.1 w
      ·exact w
     have he':({ n with aG:=ca,aI:=d }:Node).aG.find (c.bU o.addr)=some e:=by show ca.find _=_;rw [hol];exact he
     rw [QH (n:={ n with aG:=ca,aI:=d }) (e:=e) ho W.dU he'];obtain⟨p1,p2⟩:=J9 (n:={ n with aG:=ca,aI:=d }) N.inv (I.bG.right o hmem).2 he';have hlt:=I.bG.dU W.dU;have anG:ca.bW<=n.bG.aZ.length+1:=by
      have:=I.clk;rcases N.clk with h | ⟨_,_,h⟩ <;> omega
     refine⟨⟨adX I.bG W.dU,p1,I.dD,I.home,λ_=> ?_,?_⟩,R,F.send (aa4 N.dat _ _),?_⟩
     ·exact⟨hl0,by rw [N.aj];exact D.hi,by rw [N.aO];exact D.aO,N.dat,N.ag8,λh=> absurd h h6.2,λ_ h=> absurd h6.1 h,λ_ _=> rfl⟩
     ·simp only [zan,zal,zam];rw [p2];show ca.bW<=_;omega
     ·simp only [zan,zal,zam];exact Ns (p:=n.bG) W.dU rfl
    ·simp only [if_neg h6];refine⟨⟨I.bG,N.inv,I.dD,I.home,λ_=> ⟨hl0,by rw [N.aj];exact D.hi,by rw [N.aO];exact D.aO,N.dat,N.ag8,λh=> D.roll (by rw [<-N.aO];exact h),λk3 k6=> ?_,λk3 k6=> absurd ⟨k6,k3⟩ h6⟩,?_⟩,R,F.send (aa4 N.dat _ _),rfl⟩
     ·have k3':n.aI.aO≠3:=by rw [<-N.aO];exact k3
      have W:=D.work k3' w2;rcases w3 k3' with⟨_,w⟩ | ⟨w,_⟩
      ·subst w;obtain⟨o,ho,hol,hk1,hk2⟩:=W.op;exact⟨W.dU,⟨o,ho,by rw [hol];exact N.aj.symm,by rw [N.aO];exact hk1,by rw [N.aO];exact hk2⟩,by simp only;rw [N.aj];exact W.full⟩
      ·exact absurd w k6
     ·have:=I.clk;rcases N.clk with h | ⟨k3,k6,_⟩
      ·simp only;omega
      ·exact absurd ⟨k6,by rw [N.aO];exact k3⟩ h6
theorem AZ(I:WQ c me n)(R:yj c me n.home)(F:vU c f){k l:Int}(hk:1<=k/\k<=3)(h0:0<=l)(h1:l < c.aY)(hb:n.bG.dU=true)
  (hw:k≠3->(∃o,n.bG.cur=some o/\c.bU o.addr=l/\(k=1->o.aO=1)/\(k=2->o.aO=2∨o.aO=3))/\n.aG.full l=false):agk c me n t ((n.begin_ c me f k l).1,(n.begin_ c me f k l).2,t):=by
 refine⟨⟨I.bG,I.aG,I.dD,I.home,λ_=> ⟨h0,h1,hk,.inl rfl,λ_ h=> absurd (show(1:Int)=3 from h) (by decide),λ_=> hb,λk3 _=> ?_,λ_ h=> absurd (show(1:Int)=6 from h) (by decide)⟩,I.clk⟩,R,F.send (aa4 (.inl rfl) _ _),rfl⟩;obtain⟨⟨o,q1,q2,q3,q4⟩,q5⟩:=hw k3;exact⟨hb,⟨o,q1,q2,q3,q4⟩,q5⟩
theorem adY(hc:c.ok=true)(I:WQ c me n)(R:yj c me n.home)(F:vU c f)(ho:n.bG.cur=some o)(hd:n.aI.step=0):agk c me n t (n.work c me f t o):=by
 have hmem:o∈n.bG.ops:=zau ho;have hlt:n.bG.aZ.length < n.bG.ops.length:=(zai.1 ho).1;have Rr:=I.bG.right o hmem;have O:=anE hc Rr.1;obtain⟨n1,hn1⟩:∃n1:Node,n1={ n with bG:={ n.bG with dU:=true } }:=⟨_,rfl⟩
 have I1:WQ c me n1:=by rw [hn1];exact⟨⟨I.bG.most,I.bG.right,I.bG.vals,λ_=> hlt⟩,I.aG,I.dD,I.home,λh=> absurd hd h,I.clk⟩
 have R1:yj c me n1.home:=by rw [hn1];exact R
 have ho1:n1.bG.cur=some o:=by rw [hn1];exact ho
 have hb1:n1.bG.dU=true:=by rw [hn1]
 have hc1:n1.aG=n.aG:=by rw [hn1]
 have hd1:n1.aI.step=0:=by rw [hn1];exact hd
 obtain⟨t1,ht1⟩:∃t1,t1=if n.bG.dU=true then t else t++[⟨me,n.bG.aZ.length,false,0⟩]:=⟨_,rfl⟩
 have hev:t1.length+n.evs=t.length+n1.evs:=by
  rw [ht1,hn1];unfold Node.evs;cases n.bG.dU
  ·simp only [zae,if_false,zan,zal,zam,if_true];omega
  ·simp only [if_true]
 have lift:∀{A:NFT},agk c me n1 t1 A->agk c me n t A:=λ{A} h=> ⟨h.inv,h.dD,h.fab,by have:=h.evs;omega⟩
 unfold Node.work;simp only;rw [<-hn1,<-ht1,<-hc1];by_cases c1:o.aO=4/\n1.aG.find (c.bU o.addr)=none
 ·rw [if_pos c1];refine lift ?_;have he:n1.bG.yC 0=⟨n1.bG.ops,n1.bG.aZ++[0],false⟩:=by unfold Proc.yC;rw [if_pos hb1]
  simp only [Node.done,he];refine⟨⟨adX I1.bG hb1,I1.aG,I1.dD,I1.home,λh=> absurd hd1 h,?_⟩,R1,F,?_⟩
  ·have:=I1.clk;simp only [zan,zal,zam];omega
  ·simp only [zan,zal,zam];exact Ns (p:=n1.bG) hb1 rfl
 rw [if_neg c1];by_cases c2:o.aO=4
 ·rw [if_pos c2];exact lift (AZ I1 R1 F ⟨by decide,by decide⟩ O.lo O.hi hb1 λh=> absurd rfl h)
 rw [if_neg c2];by_cases c3:(n1.aG.find (c.bU o.addr)).isSome=true/\(o.aO=1∨((n1.aG.find (c.bU o.addr)).getD .zero).bZ=true)
 ·rw [if_pos c3];obtain⟨e,he⟩:=zc4.1 c3.1;have T:=I1.aG.touch he;have hf:=Xu I1.aG.aY he;refine lift ?_;obtain⟨e2,he2⟩:∃e2:Ent,e2={ e with used:=n1.aG.bW+1 }:=⟨_,rfl⟩
  rw [<-he2] at hf;have hnn:({ aG:=n1.aG.touch (c.bU o.addr),bG:={ ops:=n.bG.ops,aZ:=n.bG.aZ,dU:=true },home:=n.home,aI:=n.aI,num:=n.num }:Node)={ n1 with aG:=n1.aG.touch (c.bU o.addr) }:=by rw [hn1]
  have hE:=QH (me:=me) (t:=t1) (n:={ n1 with aG:=n1.aG.touch (c.bU o.addr) }) (e:=e2) ho1 hb1 hf;obtain⟨p1,p2⟩:=J9 (n:={ n1 with aG:=n1.aG.touch (c.bU o.addr) }) T Rr.2 hf;rw [hnn,hE];refine⟨⟨adX I1.bG hb1,p1,I1.dD,I1.home,λh=> absurd hd1 h,?_⟩,R1,F,?_⟩
  ·have:=I1.clk;have hk:=Il I1.aG.aY he;simp only [zan,zal,zam];rw [p2];show(n1.aG.touch _).bW<=_;omega
  ·simp only [zan,zal,zam];exact Ns (p:=n1.bG) hb1 rfl
 rw [if_neg c3];by_cases c4:n1.aG.full (c.bU o.addr)=true
 ·rw [if_pos c4];have hset:n1.aG.oD (c.bU o.addr)≠[]:=by
   intro e;unfold Cache.full at c4;simp only [e,zam,zaf,decide_eq_true_eq] at c4;have:=(lI hc).2.2.2.2.1;rw [I1.aG.ways] at c4;omega
  obtain⟨e,he⟩:∃e,nJ (n1.aG.oD (c.bU o.addr))=some e:=by
   cases h:n1.aG.oD (c.bU o.addr) with
   | nil=> exact absurd h hset
   | cons a l=> exact⟨_,rfl⟩
  have hv:n1.aG.nR (c.bU o.addr)=some e.aj:=by unfold Cache.nR;rw [he];rfl
  have hem:e∈n1.aG.l:=by
   have:=(rD he).1;unfold Cache.oD at this;exact(zbk.1 this).1
  have E:=I1.aG.ent e hem;rw [hv];simp only [zav];exact lift (AZ I1 R1 F ⟨by decide,by decide⟩ E.lo E.hi hb1 λh=> absurd rfl h)
 rw [if_neg c4];have c4':n1.aG.full (c.bU o.addr)=false:=by simpa using c4
 by_cases c5:o.aO=1
 ·rw [if_pos c5];exact lift (AZ I1 R1 F ⟨by decide,by decide⟩ O.lo O.hi hb1 λ_=> ⟨⟨o,ho1,rfl,λ_=> c5,λh=> by omega⟩,c4'⟩)
 ·rw [if_neg c5];have k1:=O.k1;have k4:=O.k4;exact lift (AZ I1 R1 F ⟨by decide,by decide⟩ O.lo O.hi hb1 λ_=> ⟨⟨o,ho1,rfl,λh=> by omega,λ_=> by omega⟩,c4'⟩)
theorem abj(hc:c.ok=true)(I:WQ c me n)(R:yj c me n.home)(F:vU c f){p:Pkt}(Q:yc c p):agk c me n t ((n.asked c me f p).1,(n.asked c me f p).2,t):=by
 unfold Node.asked;by_cases hk:p.aO=1∨p.aO=2
 ·rw [if_pos hk];have h3:=Xz hc I.home R p;have hr:=TM (c:=c) (me:=me) I.dD Q.num;have hok:=XA hc R I.dD p;cases hA:n.home.handle c me p with
  | mk h x=>
   rw [hA] at h3 hr hok;obtain⟨out,ok,e⟩:=x;simp only at h3 hr hok ⊢;refine⟨⟨I.bG,I.aG,hr,h3.1,λhs=> ?_,I.clk⟩,h3.2,?_,rfl⟩
   ·have D:=I.aI hs;exact⟨D.lo,D.hi,D.aO,D.dat,D.ag8,D.roll,λa b=> by have W:=D.work a b;exact⟨W.dU,W.op,W.full⟩,D.rest⟩
   ·simp only;split
    ·exact F.send hok
    ·exact F
 ·rw [if_neg hk];obtain⟨i1,i2,i3,i4⟩:=aa5 I.aG p;cases hA:fM n.aG p with
  | mk ca x=>
   rw [hA] at i1 i2 i3 i4;obtain⟨out,e⟩:=x;simp only at i1 i2 i3 i4 ⊢;refine⟨⟨I.bG,i1,I.dD,I.home,λhs=> ?_,by simp only;rw [i3];exact I.clk⟩,R,?_,rfl⟩
   ·have D:=I.aI hs;exact⟨D.lo,D.hi,D.aO,D.dat,D.ag8,D.roll,λa b=> by have W:=D.work a b;exact⟨W.dU,W.op,i4 _ hc W.full⟩,D.rest⟩
   ·simp only;split
    ·exact F.send i2
    ·exact F
theorem adZ(hc:c.ok=true)(I:WQ c me n)(R:yj c me n.home)(F:vU c f):agk c me n t (n.step c me f t).1:=by
 unfold Node.step;obtain⟨t1,t2⟩:=F.take me false;cases h1:f.take me false with
 | mk f' x=>
  rw [h1] at t1 t2;cases x with
  | some p=> exact QI hc I R t1 (t2 p rfl)
  | none=>
   simp only;by_cases hg:n.home.ready≠[]/\f.roomOf me false≠0
   ·rw [if_pos hg];obtain⟨g3,g4⟩:=abh I.home R;refine⟨⟨I.bG,I.aG,?_,g3,λhs=> ?_,I.clk⟩,g4,F.send ?_,rfl⟩
    ·have:(n.home.grant me).1.dD=n.home.dD:=by
      unfold Home.grant;cases n.home.ready with
      | nil=> rfl
      | cons aj l=>
       simp only;cases n.home.aP.next aj with
       | mk tt w=> cases w <;> rfl
     simp only;rw [this];exact I.dD
    ·have D:=I.aI hs;exact⟨D.lo,D.hi,D.aO,D.dat,D.ag8,D.roll,λa b=> by have W:=D.work a b;exact⟨W.dU,W.op,W.full⟩,D.rest⟩
    ·unfold Home.grant;cases hr:n.home.ready with
     | nil=> exact absurd hr hg.1
     | cons aj l=>
      have hm:=(wQ hr).2.2;have hh:kQ c me aj=true:=by
       obtain⟨e,he,rfl⟩:=zaG.1 hm;exact I.home.here e he
      simp only;cases n.home.aP.next aj with
      | mk tt w=>
       cases w with
       | none=> exact xQ rfl (by simp [Pkt.zero])
       | some w=> exact Io R I.dD hh _ _
   ·rw [if_neg hg];obtain⟨u1,u2⟩:=F.take me true;cases hx:(if f.roomOf me false=0 then(f,none) else f.take me true:Fab × Option Pkt) with
    | mk f2 y=>
     cases y with
     | some p=>
      simp only;have ht:f.take me true=(f2,some p):=by
       split at hx
       ·cases hx
       ·exact hx
      rw [ht] at u1 u2;exact abj hc I R u1 (u2 p rfl)
     | none=>
      simp only;cases hcu:n.bG.cur with
      | none=> exact⟨I,R,F,rfl⟩
      | some o=>
       simp only;by_cases hd:n.aI.step=0
       ·rw [if_pos hd];exact adY hc I R F hcu hd
       ·rw [if_neg hd];exact⟨I,R,F,rfl⟩
end
def ad1(m:cZ):Prop:=∀(i:Nat) n,m.aH[i]?=some n->yj m.c i n.home
theorem abk {m:cZ}(I:adR m)(R:ad1 m)(i:Int):adR (m.step i).1/\ad1 (m.step i).1:=by
 unfold cZ.step cZ.bD;by_cases h0:0<=i
 ·rw [if_pos h0];cases hn:m.aH[i.toNat]? with
  | none=> exact⟨I,R⟩
  | some n=>
   have hi:=(zai.1 hn).1;have hii:((i.toNat:Nat):Int)=i:=by omega
   have NI:=I.bD i.toNat n hn;have NR:=R i.toNat n hn;rw [hii] at NI NR;have b1:=adZ (t:=m.trace) I.ok NI NR I.fab;simp only;generalize n.step m.c i m.fab m.trace=r at b1;obtain⟨⟨n',f',t'⟩,k⟩:=r;refine⟨⟨I.ok,by simp only [zbp];exact I.len,b1.fab,λj a ha=> ?_,?_⟩,λj a ha=> ?_⟩
   ·simp only at ha ⊢;by_cases hj:j=i.toNat
    ·subst hj;rw [za7 hi] at ha;cases ha;rw [hii];exact b1.inv
    ·rw [zbe (λe=> hj e.symm)] at ha;exact I.bD j a ha
   ·have e1:=TN Node.evs (a':=n') hn;have e2:=b1.evs;have e3:=I.evs;simp only at e2 ⊢;omega
   ·simp only at ha ⊢;by_cases hj:j=i.toNat
    ·subst hj;rw [za7 hi] at ha;cases ha;rw [hii];exact b1.dD
    ·rw [zbe (λe=> hj e.symm)] at ha;exact R j a ha
 ·rw [if_neg h0];exact⟨I,R⟩
theorem QJ {m:cZ}(I:adR m)(a b k:Int):adR (m.deliver a b k).1:=⟨I.ok,I.len,I.fab.deliver a b k,I.bD,I.evs⟩
def DX(f:Fab):Prop:=∀p∈f.l,∀q,q∈p.rq∨q∈p.an->f.is q.dst=true
theorem am3(f:Fab)(i:Int)(p:Port)(k:Int):(f.put i p).is k=f.is k:=by
 unfold Fab.is Fab.put;simp
theorem DX.put {f:Fab}(D:DX f)(i:Int){p:Port}(h:∀q,q∈p.rq∨q∈p.an->f.is q.dst=true):DX (f.put i p):=by
 intro x hx q hq;rw [am3];unfold Fab.put at hx;rcases zbC hx with hx | rfl
 ·exact D x hx q hq
 ·exact h q hq
theorem DX.at {f:Fab}(D:DX f)(i:Int):∀q,q∈(f.port i).rq∨q∈(f.port i).an->f.is q.dst=true:=by
 intro q hq;unfold Fab.port at hq;rw [zao] at hq;cases h:f.l[i.toNat]? with
 | none=> rw [h] at hq;simp [Port.zero] at hq
 | some p=> rw [h] at hq;exact D p (zau h) q hq
theorem DX.send {f:Fab}(D:DX f)(p:Pkt):DX (f.send p).1:=by
 unfold Fab.send;split
 ·exact D
 ·rename_i hc;split
  ·exact D
  ·refine D.put _ λq hq=> ?_;have hd:f.is p.dst=true:=by
    cases h:f.is p.dst with
    | true=> rfl
    | false=> simp [h] at hc
   cases hk:pV p.aO with
   | true=>
    rw [hk] at hq;simp only [Port.jX,Port.sort,if_true,zaM,zaN] at hq;rcases hq with(hq | rfl) | hq
    ·exact D.at _ q (.inl hq)
    ·exact hd
    ·exact D.at _ q (.inr hq)
   | false=>
    rw [hk] at hq;simp only [Port.jX,Port.sort,zae,if_false,zaM,zaN] at hq;rcases hq with hq | hq | rfl
    ·exact D.at _ q (.inl hq)
    ·exact D.at _ q (.inr hq)
    ·exact hd
theorem DX.kN {f:Fab}(D:DX f)(i:Int)(req:Bool)(l:List Pkt):DX (f.put i ((f.port i).kN req l)):=by
 refine D.put _ λq hq=> D.at i q ?_;cases req <;> exact hq
theorem DX.take {f:Fab}(D:DX f)(i:Int)(req:Bool):DX (f.take i req).1:=by
 unfold Fab.take;split
 ·split
  ·exact D
  ·exact D.kN _ _ _
 ·exact D
theorem DX.remove {f:Fab}(D:DX f)(k:Nat):DX (f.remove k):=by
 unfold Fab.remove;split
 ·refine D.put _ λq hq=> ?_;rename_i i req k' _;refine D.at i q ?_;cases req with
  | true=>
   simp only [Port.drop,Port.jX,Port.sort,if_true] at hq;exact hq.imp zcD id
  | false=>
   simp only [Port.drop,Port.jX,Port.sort,zae,if_false] at hq;exact hq.imp id zcD
 ·exact D
theorem DX.deliver {f:Fab}(D:DX f)(a b k:Int):DX (f.deliver a b k).1:=by
 unfold Fab.deliver;split
 ·exact D
 split
 ·exact D
 split
 ·exact D
 split
 ·exact D
 ·exact(D.kN _ _ _).remove _
theorem DX.all {f:Fab}(D:DX f):∀p∈f.all,f.is p.dst=true:=by
 intro p hp;unfold Fab.all at hp;obtain⟨q,hq,hp⟩:=za1.1 hp;rcases zaM.1 hp with hp | hp
 ·exact D q hq p (.inl hp)
 ·exact D q hq p (.inr hp)
theorem DX.new(c:Cfg):DX (.new c):=by
 intro p hp q hq;rw [Fab.new,List.mem_replicate] at hp;rw [hp.2] at hq;simp [Port.zero] at hq
theorem A8(c:Cfg)(me aj:Int):∀n:Nat,jl (c.nS me n) aj=if 0<=aj/\aj < n/\c.bg aj=me then some ⟨0,-1,c.first aj⟩ else none
 | 0=> by
  have:¬(0<=aj/\aj < ((0:Nat):Int)/\c.bg aj=me):=by omega
  rw [if_neg this];rfl
 | n+1=> by
  simp only [Cfg.nS];by_cases h:c.bg n=me
  ·rw [if_pos h,iy,A8 c me aj n];by_cases e:(n:Int)=aj
   ·subst e;rw [if_pos rfl,if_pos ⟨by omega,by omega,h⟩]
   ·rw [if_neg e];by_cases h2:0<=aj/\aj < n/\c.bg aj=me
    ·rw [if_pos h2,if_pos ⟨h2.1,by omega,h2.2.2⟩]
    ·rw [if_neg h2,if_neg (λh3=> h2 ⟨h3.1,by omega,h3.2.2⟩)]
  ·rw [if_neg h,A8 c me aj n];by_cases h2:0<=aj/\aj < n/\c.bg aj=me
   ·rw [if_pos h2,if_pos ⟨h2.1,by omega,h2.2.2⟩]
   ·rw [if_neg h2,if_neg (λh3=> h2 ⟨h3.1,(by
     have:aj≠n:=λe=> h (by rw [<-e];exact h3.2.2);omega),h3.2.2⟩)]
structure NX(T:Nat)(n:Node):Prop where
 VR:0<=n.num
 num1:n.num < 4096
 dat:n.aI.data.length<=4
 ws:∀aj,(n.home.aP.ws aj).length<=T
theorem NX.mono {T T':Nat}{n:Node}(h:NX T n)(hT:T<=T'):NX T' n:=⟨h.VR,h.num1,h.dat,λl=> zax (h.ws l) hT⟩
section
variable {d:bP}{ca:Cache}{p:Pkt}{me:Int}
theorem agl(hc:∀e∈ca.l,e.data.length<=4){aj:Int}{e:Ent}(h:ca.find aj=some e):e.data.length<=4:=by
 unfold Cache.find at h;exact hc e (zbc h)
theorem abl(hd:d.data.length<=4)(hp:p.data.length<=4):(dW d me ca p).2.1.data.length<=4:=by
 unfold dW vT
 repeat' split
 all_goals first
  | exact hd
  | exact hp
  | exact zaR _
  | (show List.length (if _ then _ else _)<=4;split <;> first | exact hp | exact zaR _)
theorem D7(hd:d.data.length<=4):(dn d me ca).2.data.length<=4:=by
 unfold dn;simp only
 repeat' split
 all_goals first
  | exact hd
  | exact zaR _
theorem ad2(hc:∀e∈ca.l,e.data.length<=4)(hd:d.data.length<=4)(hp:p.data.length<=4):(dX d me ca p).2.1.data.length<=4:=by
 unfold dX vT;split
 ·exact zaR _
 split
 ·refine D7 ?_;cases h:ca.find d.aj with
  | none=> exact hp
  | some e=> exact agl hc h
 split
 ·refine D7 ?_;cases h:ca.find d.aj with
  | none=> exact hp
  | some e=> exact hd
 split
 ·exact hd
 ·exact zaR _
theorem aix(hc:∀e∈ca.l,e.data.length<=4)(hd:d.data.length<=4):(eH d ca p).2.1.data.length<=4:=by
 unfold eH vT gQ;split
 ·exact zaR _
 split
 ·simp only;split
  ·exact zaR _
  ·rename_i e h;split
   ·show List.length (if e.bZ=true then e.data else [])<=4;split
    ·exact agl hc h
    ·exact zaR _
   ·split <;> exact zaR _
 repeat' split
 all_goals first
  | exact hd
  | exact zaR _
end
section
variable {T:Nat}{n:Node}{c:Cfg}{me:Int}{f:Fab}{t:List Evn}
theorem abm(h:NX T n)(v:Int):NX T (n.done me t v).1:=⟨h.VR,h.num1,h.dat,h.ws⟩
theorem QK(h:NX T n):NX T (n.effect c me t).1:=⟨h.VR,h.num1,h.dat,h.ws⟩
theorem E9(h:NX T n)(aO aj:Int):NX T (n.begin_ c me f aO aj).1:=by
 have h0:=h.VR;have h1:(n.num+1).tmod 4096=(n.num+1) % 4096:=zcr (by omega);refine⟨?_,?_,zaR _,h.ws⟩
 ·show 0<=(n.num+1).tmod 4096;omega
 ·show(n.num+1).tmod 4096 < 4096;omega
theorem Fa {n:Node}(h:DX f)(aO aj:Int):DX (n.begin_ c me f aO aj).2:=h.send _
theorem abn {n:Node}(h:DX f):DX (n.acF c me f):=h.send _
theorem VT(hc:∀e∈n.aG.l,e.data.length<=4)(h:NX T n){p:Pkt}(hp:p.data.length<=4):(n.after me p).2.1.data.length<=4:=by
 unfold Node.after vT
 repeat' split
 ·exact abl h.dat hp
 ·exact ad2 hc h.dat hp
 ·exact aix hc h.dat
 ·exact zaR _
theorem XC(hc:∀e∈n.aG.l,e.data.length<=4)(h:NX T n)(D:DX f){p:Pkt}(hp:p.data.length<=4):NX T (n.answered c me f t p).1/\DX (n.answered c me f t p).2.1:=by
 have hd:=VT (me:=me) hc h hp;unfold Node.answered;split;rename_i ca d ok e;rw [e] at hd;have h1:NX T { n with aG:=ca,aI:=d }:=⟨h.VR,h.num1,hd,h.ws⟩
 split
 ·exact⟨⟨h.VR,h.num1,h.dat,h.ws⟩,D⟩
 ·simp only;split
  ·split
   ·exact⟨abm (me:=me) (t:=t) h1 0,D⟩
   ·exact⟨h1,D⟩
  ·split
   ·exact⟨QK (c:=c) (me:=me) (t:=t) h1,abn D⟩
   ·exact⟨h1,abn D⟩
theorem agm {t:Turns}(h:∀aj,(t.ws aj).length<=T)(aj who id:Int):∀l,((t.ask aj who id).1.ws l).length<=T+1:=by
 intro l;unfold Turns.ask;split
 ·exact zb0 (h l)
 split
 ·unfold Turns.ws;simp only;rw [iy];split
  ·rw [zav,zan];exact Nat.succ_le_succ (h aj)
  ·exact zb0 (h l)
 ·exact zb0 (h l)
theorem XD {t:Turns}(h:∀aj,(t.ws aj).length<=T)(aj who:Int):∀l,((t.release aj who).1.ws l).length<=T:=by
 intro l;unfold Turns.release;split <;> exact h l
theorem aiy {t:Turns}(h:∀aj,(t.ws aj).length<=T)(aj:Int):∀l,((t.next aj).1.ws l).length<=T:=by
 intro l;unfold Turns.next
 split
 ·exact h l
 split
 ·exact h l
 ·rename_i w ws e;have hh:=h aj;rw [e] at hh;unfold Turns.ws;simp only;rw [iy];split
  ·rw [zav];exact Nat.le_of_succ_le hh
  ·exact h l
theorem abo {hm:Home}(h:∀aj,(hm.aP.ws aj).length<=T)(p:Pkt):∀l,((hm.handle c me p).1.aP.ws l).length<=T+1:=by
 have h':∀l,(hm.aP.ws l).length<=T+1:=λl=> zb0 (h l);unfold Home.handle;split
 ·exact h'
 split
 ·exact h'
 split
 ·simp only;split
  ·exact agm h _ _ _
  ·exact agm h _ _ _
 ·have hu:∀l,((hm.unlock c p).1.aP.ws l).length<=T+1:=by
   unfold Home.unlock;split
   ·exact h'
   ·simp only;generalize iD c hm.dD p.aj p.aU p.ptr (if p.flag then p.data else [])=r;split
    ·exact λl=> zb0 (XD h _ _ l)
    ·exact h'
  simp only;split <;> exact hu
theorem ad3 {hm:Home}(h:∀aj,(hm.aP.ws aj).length<=T):∀l,((hm.grant me).1.aP.ws l).length<=T:=by
 unfold Home.grant;split
 ·exact h
 ·rename_i aj _ _;have hn:=aiy h aj;split
  ·rename_i e;rw [e] at hn;exact hn
  ·exact h
theorem aiz(h:NX T n)(D:DX f)(p:Pkt):NX (T+1) (n.asked c me f p).1/\DX (n.asked c me f p).2:=by
 unfold Node.asked;split
 ·have hw:=abo (c:=c) (me:=me) h.ws p;split;rename_i hm out ok e he;rw [he] at hw;refine⟨⟨h.VR,h.num1,h.dat,hw⟩,?_⟩;simp only;split
  ·exact D.send _
  ·exact D
 ·split;refine⟨⟨h.VR,h.num1,h.dat,λl=> zb0 (h.ws l)⟩,?_⟩;simp only;split
  ·exact D.send _
  ·exact D
theorem am4(h:NX T n)(D:DX f)(o:Opn):NX T (n.work c me f t o).1/\DX (n.work c me f t o).2.1:=by
 have h1:NX T { n with bG:={ n.bG with dU:=true } }:=⟨h.VR,h.num1,h.dat,h.ws⟩
 unfold Node.work;simp only;split
 ·exact⟨abm (me:=me) (t:=t) h1 0,D⟩
 split
 ·exact⟨E9 (c:=c) (me:=me) (f:=f) h1 _ _,Fa D _ _⟩
 split
 ·exact⟨QK (c:=c) (me:=me) (t:=if n.bG.dU then t else t++[⟨me,n.bG.aZ.length,false,0⟩]) ⟨h.VR,h.num1,h.dat,h.ws⟩,D⟩
 split
 ·exact⟨E9 (c:=c) (me:=me) (f:=f) h1 _ _,Fa D _ _⟩
 split
 ·exact⟨E9 (c:=c) (me:=me) (f:=f) h1 _ _,Fa D _ _⟩
 ·exact⟨E9 (c:=c) (me:=me) (f:=f) h1 _ _,Fa D _ _⟩
theorem agn(hc:∀e∈n.aG.l,e.data.length<=4)(hf:∀i req p,(f.take i req).2=some p->p.data.length<=4)(h:NX T n)(D:DX f):NX (T+1) (n.step c me f t).1.1/\DX (n.step c me f t).1.2.1:=by
 have h':=h.mono (za0 T);unfold Node.step;split
 ·rename_i f' p e;have D':=D.take me false;have hp:=hf me false p (by rw [e]);rw [e] at D';obtain⟨a,b⟩:=XC (c:=c) (me:=me) (t:=t) hc h' D' hp;exact⟨a,b⟩
 ·split
  ·exact⟨⟨h.VR,h.num1,h.dat,λl=> zb0 (ad3 h.ws l)⟩,D.send _⟩
  ·split
   ·rename_i f' p e;have D':DX f':=by
     split at e
     ·cases e
     ·have:=D.take me true;rw [e] at this;exact this
    exact aiz h D' p
   ·split
    ·split
     ·exact am4 h' D _
     ·exact⟨h',D⟩
    ·exact⟨h',D⟩
end
structure MX(T:Nat)(m:cZ):Prop where
 inv:adR m
 dD:ad1 m
 dst:DX m.fab
 bD:∀(i:Nat) n,m.aH[i]?=some n->NX T n
theorem MX.mono {T T':Nat}{m:cZ}(h:MX T m)(hT:T<=T'):MX T' m:=⟨h.inv,h.dD,h.dst,λi n hn=> (h.bD i n hn).mono hT⟩
theorem Ez.le {c:Cfg}(hc:c.ok=true){ca:Cache}(I:Ez c ca):∀e∈ca.l,e.data.length<=4:=by
 intro e he;have h1:=(I.ent e he).dat;have h2:=(lI hc).2.2.1;have:=h1.1;omega
theorem MX.step {T:Nat}{m:cZ}(X:MX T m)(i:Int):MX (T+1) (m.step i).1:=by
 obtain⟨h1,h2⟩:=abk X.inv X.dD i;refine⟨h1,h2,?_,?_⟩
 ·unfold cZ.step;split
  ·exact X.dst
  ·rename_i n hn;split;rename_i n' f t k e;unfold cZ.bD at hn;split at hn
   ·rename_i hi;have NI:=X.inv.bD _ n hn;have:=(agn (c:=m.c) (me:=i) (t:=m.trace) (NI.aG.le X.inv.ok) (λi req p hp=> by
     have:=((X.inv.fab.take i req).2 p hp).ok;simp only [Pkt.ok,zaf,decide_eq_true_eq] at this;omega) (X.bD _ n hn) X.dst).2
    rw [e] at this;exact this
   ·cases hn
 ·intro j n hj;unfold cZ.step at hj;split at hj
  ·exact(X.bD j n hj).mono (za0 T)
  ·rename_i n0 hn;split at hj;rename_i n' f t k e;unfold cZ.bD at hn;split at hn
   ·rename_i hi;simp only at hj;rw [zcs] at hj;split at hj
    ·split at hj
     ·cases hj;have NI:=X.inv.bD _ n0 hn;have:=(agn (c:=m.c) (me:=i) (t:=m.trace) (NI.aG.le X.inv.ok) (λi req p hp=> by
       have:=((X.inv.fab.take i req).2 p hp).ok;simp only [Pkt.ok,zaf,decide_eq_true_eq] at this;omega) (X.bD _ n0 hn) X.dst).1
      rw [e] at this;exact this
     ·cases hj
    ·exact(X.bD j n hj).mono (za0 T)
   ·cases hn
theorem MX.deliver {T:Nat}{m:cZ}(X:MX T m)(a b k:Int):MX T (m.deliver a b k).1:=by
 exact⟨QJ X.inv a b k,X.dD,X.dst.deliver a b k,X.bD⟩
theorem MX.do_ {T:Nat}{m:cZ}(X:MX T m)(p:Pck):MX (T+1) (m.do_ p).1:=by
 unfold cZ.do_;split
 ·exact(X.deliver _ _ _).mono (za0 T)
 ·exact X.step _
theorem abp {c:Cfg}(hc:c.ok=true)(ps:List (List Opn)):ad1 (.new c ps):=λi n hn aj hl=> by
 simp only [cZ.new,zbf,zcO] at hn;obtain⟨l,_,rfl⟩:=hn;unfold kQ at hl;simp only [zaf,decide_eq_true_eq] at hl;have h1:=(lI hc).1;have h2:aj < c.aY:=hl.1.2;refine⟨⟨0,-1,c.first aj⟩,?_⟩;show jl (c.nS i c.aY.toNat) aj=_;rw [A8,if_pos ⟨hl.1.1,by omega,by unfold Cfg.bg yB;rw [if_neg (by omega)];exact hl.2⟩]
theorem apR {g:bF}{x y:Nat}{A B:List Cell}(k:Nat)(h:g x=some A)(h':g y=some B)(hl:A[k]?≠B[k]?):x≠y:=λe=> by
 subst e;rw [h] at h';exact hl (by rw [zaY h'])
def agp(A:Adr)(k n:Nat)(q:Nat):Prop:=(∃i s,i < k/\s < 6/\q=A.N i s)∨N7 A.P n q∨q=A.trace
section
variable {b:Nat}{H:ah}{g g':bF}{A:Adr}{m:cZ}{T:Nat}
theorem agq {m:cZ}(I:adR m):m.trace.length<=1000:=by
 have B:=DY I.ok;have hl:=I.len;have:∀(l:List Node),(∀n∈l,Node.evs n<=49)->(l.map Node.evs).sum<=49*l.length:=by
  intro l
  induction l with
  | nil=> intro _;simp
  | cons n l ih=>
   intro h;have h1:=h n (by simp);have h2:=ih λx hx=> h x (by simp [hx]);simp only [zaA,zbW,zal];omega
 have h1:=this m.aH λn hn=> by
  obtain⟨i,hi⟩:=zbw.1 hn;have P:=(I.bD i n hi).bG;have:=P.most;have:=P.vals;unfold Node.evs;split <;> omega
 rw [I.evs];have:=B.aH;omega
def apS(A:Adr)(i:Nat):IG:=⟨A.N i,A.fab,A.P,A.trace⟩
theorem mV.nw(M:mV g A m){i:Nat}{n:Node}(hi:m.aH[i]?=some n):NW g (apS A i) m.c i (n,m.fab,m.trace):=⟨M.bD i n hi,M.fab,M.trace,M.Qc,M.tf⟩
theorem mV.abq(M:mV g A m){q:Nat}(h:agp A m.aH.length m.fab.l.length q):A.zY≠q:=by
 have hm:=M.zY;rcases h with⟨i,s,hi,hs,rfl⟩ | ⟨i,s,hi,hs,rfl⟩ | rfl
 ·obtain⟨n,hn⟩:∃n,m.aH[i]?=some n:=⟨_,zab hi⟩
  obtain⟨h0,h1,h2,h3,h4,h5⟩:=M.bD i n hn;have l11:(Tj A m.c m.aH.length).length=11:=by simp [Tj,aaq,Cfg.av]
  match s,hs with
  | 0,_=> exact jA hm h0 (by rw [l11];simp only [gX];decide)
  | 1,_=> exact jA hm h1 (by rw [l11];simp only [gy];decide)
  | 2,_=> exact jA hm h2 (by rw [l11];simp only [iL];decide)
  | 3,_=> exact apR 10 hm h3 (by simp [Tj,aaq,Cfg.av,Hq])
  | 4,_=> exact jA hm h4 (by rw [l11];simp only [jU];decide)
  | 5,_=> exact jA hm h5 (by rw [l11];simp only [gB];decide)
 ·exact jA hm (gU (M.fab.port hi) hs) (by simp [Tj,aaq,Cfg.av,nO])
 ·exact jA hm M.trace (by simp [Tj,aaq,Cfg.av,jE])
theorem mV.len(M:mV g A m)(I:adR m):m.aH.length=m.fab.l.length:=by
 have:=I.len;have:=I.fab.len;omega
theorem ad4(G:Good b H g)(hb:H.base<=b)(M:mV g A m)(X:MX T m)(hT:T < 999000){i:Nat}{n:Node}(hi:m.aH[i]?=some n):
  ∃H' g',cl 13 [.ref (A.N i 0) 0 0,.ref A.fab 0 0,.ref A.trace 0 0] H=some (I (m.step i).2,H')/\Good b H' g'/\mV g' A (m.step i).1/\Off (agp A m.aH.length m.fab.l.length) g g'/\Step b H H':=by
 have N:=M.nw hi;have NX:=X.bD i n hi;have NI:=X.inv.bD i n hi;have hil:i < m.aH.length:=(zai.1 hi).1;have W:=Walk.of G hb N;obtain⟨K',g',e1,W'⟩:=VN W X.inv.ok X.inv.fab NI ⟨NX.VR,by have:=NX.num1;show n.num < 1000000;omega⟩ (by have:=agq X.inv;show m.trace.length < 999999;omega) (by have:=NX.dat;show n.aI.data.length < 1000000000;omega) (λaj=> by have:=NX.ws aj;show(n.home.aP.ws aj).length < 1000000;omega);have hst:m.step i=({ m with aH:=m.aH.set i (n.step m.c i m.fab m.trace).1.1,fab:=(n.step m.c i m.fab m.trace).1.2.1,trace:=(n.step m.c i m.fab m.trace).1.2.2 },(n.step m.c i m.fab m.trace).2):=by
  unfold cZ.step cZ.bD;rw [if_pos (by omega),zar,hi]
 rw [hst];have hO:Off (X0 (apS A i) m.fab.l.length) g g':=W'.off;have hsub:∀q,X0 (apS A i) m.fab.l.length q->agp A m.aH.length m.fab.l.length q:=by
  rintro q (⟨s,hs,rfl⟩ | h | rfl)
  ·exact .inl ⟨i,s,hil,hs,rfl⟩
  ·exact .inr (.inl h)
  ·exact .inr (.inr rfl)
 have hN':=W'.nw;have hlen':=W'.len;refine⟨K',g',e1,W'.loc.out,⟨?_,hN'.tr,hN'.fab,λj n' hj=> ?_,?_,?_,M.tf⟩,hO.mono hsub,W'.step⟩
 ·show g' A.zY=some (Tj A m.c (m.aH.set i _).length);rw [zbp,hO A.zY λh=> M.abq (hsub _ h) rfl];exact M.zY
 ·simp only at hj;by_cases hij:i=j
  ·subst hij;rw [za7 hil] at hj;cases hj;exact hN'.bD
  ·rw [zbe hij] at hj;have hjl:j < m.aH.length:=(zai.1 hj).1;have Nj:=M.nw hj;refine(M.bD j n' hj).ext λs hs=> hO _ ?_;rintro(⟨t,ht,e⟩ | h | e)
   ·exact hij (M.anA _ _ _ _ hjl hil hs ht e).1.symm
   ·exact(Nj.TK h).1 s hs rfl
   ·exact Nj.VJ s hs e
 ·show Qa A.P _;have:(n.step m.c i m.fab m.trace).1.2.1.l.length=m.fab.l.length:=hlen';rw [this];exact M.Qc
 ·show aqr A.N (m.aH.set i _).length;rw [zbp];exact M.anA
theorem TS(G:Good b H g)(hb:H.base<=b)(M:mV g A m)(X:MX T m){at_ bit mask:Int}(h64:vX at_)(hbit:vX bit)(m0:0<=mask)(m1:mask<=65535):
  ∃H' g',cl 14 [.ref A.fab 0 0,I at_,I bit,.s (.int .u16 mask)] H=some (I (m.deliver at_ bit mask).2,H')/\Good b H' g'/\mV g' A (m.deliver at_ bit mask).1/\Off (agp A m.aH.length m.fab.l.length) g g'/\Step b H H':=by
 have B:=DY X.inv.ok;have h0:m.fab.l.length≠0:=by have:=X.inv.fab.len;have:=B.aH;omega
 obtain⟨H',g',e1,G',F',O',S'⟩:=J8 G hb M.fab M.Qc (fok X.inv.ok X.inv.fab) h0 (λp hp=> ⟨⟨(X.inv.fab.pkt hp).ok,(X.inv.fab.pkt hp).num⟩,X.dst.all p hp⟩) h64 hbit m0 m1;have hsub:∀q,N7 A.P m.fab.l.length q->agp A m.aH.length m.fab.l.length q:=λq h=> .inr (.inl h);have hlen:(m.fab.deliver at_ bit mask).1.l.length=m.fab.l.length:=by
  have h1:=(X.inv.fab.deliver at_ bit mask).len;have h2:=X.inv.fab.len;omega
 refine⟨H',g',e1,G',⟨?_,?_,F',λj n' hj=> ?_,?_,M.anA,M.tf⟩,O'.mono hsub,S'⟩
 ·rw [O' A.zY λh=> M.abq (hsub _ h) rfl];exact M.zY
 ·rw [O' A.trace λ⟨i,s,hi,hs,e⟩=> by
   have:=gU (M.fab.port hi) hs;exact jA M.trace this (by simp [jE,nO]) e]
  exact M.trace
 ·exact(M.bD j n' hj).ext λs hs=> O' _ λh=> ((M.nw hj).TK h).1 s hs rfl
 ·show Qa A.P (m.fab.deliver at_ bit mask).1.l.length;rw [hlen];exact M.Qc
theorem apT(G:Good b H g)(hb:H.base<=b)(M:mV g A m)(X:MX T m)(hT:T < 999000)(p:Pck)(h64:vX p.at_)(hbit:vX p.bit)(m0:0<=p.mask)(m1:p.mask<=65535):
  ∃H' g',cl 23 [.ref A.zY 0 0,.agg p.av] H=some (B (m.do_ p).2,H')/\Good b H' g'/\mV g' A (m.do_ p).1/\Off (agp A m.aH.length m.fab.l.length) g g'/\Step b H H':=by
 let H1:=H.new (.blk 0 68 p.av);have G1:Good b H1 g:=G.new _;have g1:H1.get H.next=.blk 0 68 p.av:=bC rfl
 have l0:ld (.ref H.next 0 0) H1=some (B p.deliver,H1):=by rw [fD g1];rfl
 have l1:ld (.ref H.next 0 1) H1=some (I p.at_,H1):=by rw [fD g1];rfl
 have l2:ld (.ref H.next 0 2) H1=some (I p.bit,H1):=by rw [fD g1];rfl
 have l3:ld (.ref H.next 0 3) H1=some (.s (.int .u16 p.mask),H1):=by rw [fD g1];rfl
 have f0:=G1.load M.zY (i:=0) (x:=.ref A.fab 0 0) rfl;have f1:=G1.load M.zY (i:=1) (x:=.ref A.trace 0 0) rfl;have S1:Step b H H1:=Step.new _ G.1;have hb1:H1.base<=b:=by simp only [H1,ji];exact hb
 have B:=DY X.inv.ok;cases hd:p.deliver with
 | true=>
  rw [hd] at l0;obtain⟨H',g',e1,G',M',O',S'⟩:=TS G1 hb1 M X h64 hbit m0 m1;have hdo:m.do_ p=((m.deliver p.at_ p.bit p.mask).1,decide ((m.deliver p.at_ p.bit p.mask).2=0)):=by
   unfold cZ.do_;rw [hd];rfl
  rw [hdo];refine⟨H',g',bI rfl rfl (ahj _ _ _ _ ?_),G',M',O',S1.trans S'⟩;simp only [H1] at l0 l1 l2 l3 f0 f1 e1;simp only [Nat.reduceLT,xq_,hq_,acQ,aF (Gp p),l0,l1,l2,l3,f0,e1]
 | false=>
  rw [hd] at l0;have hdo:m.do_ p=((m.step p.at_).1,decide ((m.step p.at_).2≠0)):=by
   unfold cZ.do_;rw [hd];rfl
  rw [hdo];have e0:=adx G1 M (by have:=X.inv.len;have:=B.aH;omega) p.at_;by_cases hi:0<=p.at_/\p.at_ < m.aH.length
  ·rw [if_pos hi] at e0;obtain⟨i,hii⟩:∃i:Nat,p.at_=i:=⟨p.at_.toNat,by omega⟩
   rw [hii] at e0 hi l1;rw [hii];rw [zar] at e0;obtain⟨n,hn⟩:∃n,m.aH[i]?=some n:=⟨_,zab (by omega)⟩
   obtain⟨H',g',e1,G',M',O',S'⟩:=ad4 G1 hb1 M X hT hn;refine⟨H',g',bI rfl rfl (ahj _ _ _ _ ?_),G',M',O',S1.trans S'⟩;have nn:bi .neq 35 (.ref (A.N i 0) 0 0) zP=some (.s (.bool true)):=by kernel_rfl
   simp only [H1] at l0 l1 f0 f1 e0 e1;simp only [Nat.reduceLT,xq_,hq_,acQ,aF (Gp p),l0,l1,f0,f1,e0,nn,e1];simp
  ·rw [if_neg hi] at e0;have hst:m.step p.at_=(m,0):=by
    unfold cZ.step cZ.bD;by_cases h0:0<=p.at_
    ·rw [if_pos h0,zaH (by omega)]
    ·rw [if_neg h0]
   rw [hst];refine⟨H1,g,bI rfl rfl (ahj _ _ _ _ ?_),G1,M,Off.refl _ _,S1⟩;have nn:bi .neq 35 zP zP=some (.s (.bool false)):=by kernel_rfl
   simp only [H1] at l0 l1 e0;simp only [Nat.reduceLT,xq_,hq_,acQ,aF (Gp p),l0,l1,e0,nn]
   try rfl
end
theorem Good.low {b:Nat}{H H':ah}{g:bF}(G:Good b H g)(hn:H.next<=H'.next)(hg:∀r,b<=r->H'.get r=H.get r):Good b H' g:=by
 obtain⟨h0,τ,h1⟩:=G;have os:∀{T x m cells},OS b H τ T x m cells->OS b H' τ T x m cells:=by
  intro T x m cells ho;rcases ho with ho | ⟨r,g,off,n,cap,ex,ty,all,h2,h3,h4,h5,h6,h7,h8⟩
  ·exact .inl ho
  ·exact .inr ⟨r,g,off,n,cap,ex,ty,all,h2,h3,h4,by omega,h6,by rw [hg r h4];exact h7,h8⟩
 have om:∀{T x k es},OM b H τ T x k es->OM b H' τ T x k es:=by
  intro T x k es ⟨r,h2,h3,h4,h5,h6⟩;exact⟨r,h2,h3,h4,by omega,by rw [hg r h4];exact h6⟩
 refine⟨by omega,τ,λq cs hq=> ?_⟩;have R:=h1 q cs hq;have lo:=R.lo;obtain⟨ty,xs,k1,k2,k3,k4⟩:=R.blk;refine⟨R.tag,R.lo,by have:=R.hi;omega,wH (by rw [hg q lo];exact k1) (R.tyl _ _ _ k1),ty,xs,by rw [hg q lo];exact k1,k2,k3,λi c x hc hx=> ?_⟩;have:=k4 i c x hc hx;cases c with
 | av _=> exact this
 | seq _ _=> exact os this
 | map _ _=> exact om this
 | maps _ _ _=>
  obtain⟨aes,a1,a2,a3⟩:=this;exact⟨aes,om a1,a2,λj n cells x hj hx=> os (a3 j n cells x hj hx)⟩
 | aeR _ _ _=>
  obtain⟨ys,a1,a2,a3⟩:=this;exact⟨ys,os a1,a2,λj cells x hj hx=> os (a3 j cells x hj hx)⟩
theorem mV.sub {g g':bF}{A:Adr}{m:cZ}(h:mV g A m)(hg:su g g'):mV g' A m:=by
 refine⟨hg _ _ h.zY,hg _ _ h.trace,⟨hg _ _ h.fab.1,λi p hp=> ?_,h.fab.2.2⟩,λi n hn=> ?_,h.Qc,h.anA,h.tf⟩
 ·obtain⟨a,b,c,d⟩:=h.fab.2.1 i p hp;exact⟨hg _ _ a,hg _ _ b,hg _ _ c,hg _ _ d⟩
 ·obtain⟨a,b,c,d,e,f⟩:=h.bD i n hn;exact⟨hg _ _ a,hg _ _ b,hg _ _ c,hg _ _ d,hg _ _ e,hg _ _ f⟩
theorem SI.sub {g g':bF}{q f:Nat}{N:Nat->Nat->Nat}{m:kP}(h:SI g q f N m)(hg:su g g'):SI g' q f N m:=by
 have hd:∀{x l},tu g x l->tu g' x l:=λh=> h.sub λq cs hq _=> hg q cs hq;obtain⟨ls,f1,f2,f3⟩:=h.fab;refine⟨hg _ _ h.zY,⟨ls,hg _ _ f1,f2,λi l cells hl hc=> (f3 i l cells hl hc).mono λp cs _ ⟨x,a,b⟩=> ⟨x,hd a,b⟩⟩,λi n hn=> ?_,h.inj⟩;obtain⟨⟨d,⟨x,d1,d2⟩,h0⟩,⟨cells,k,h1⟩,⟨dD,r,h2⟩⟩:=h.bD i n hn;exact⟨⟨d,⟨x,hd d1,d2⟩,hg _ _ h0⟩,⟨cells,k.mono λe cs _ ⟨x,a,b⟩=> ⟨x,hd a,b⟩,hg _ _ h1⟩,⟨dD,r.mono λe cs _ ⟨x,a,b⟩=> ⟨x,hd a,b⟩,hg _ _ h2⟩⟩
theorem Nu {b n:Nat}{H1:ah}{g g':bF}(G:Good b H1 g)(hn:H1.next=n):su g (cup n g g'):=λq cs hq=> lY G hq hn
theorem VU {b n:Nat}{H1:ah}{g g':bF}(G:Good b H1 g')(hn:n<=b):su g' (cup n g g'):=λq cs hq=> oV G hq hn
theorem Ko:vX 0:=⟨by decide,by decide⟩
theorem am5 {l:List Int}(h:∀z∈l,vX z)(i:Int):vX (atM l i):=by
 unfold atM;split
 ·rw [zao];cases e:l[i.toNat]? with
  | none=> exact⟨by decide,by decide⟩
  | some v=> exact h v (zau e)
 ·exact⟨by decide,by decide⟩
theorem XE {c:Cfg}(hc:c.ok=true)(zk za zv:List Int)(hv:∀z∈zv,vX z)(i:Nat):c.right (aay c zk za zv i)=true/\I64 (aay c zk za zv i).value:=by
 have B:=DY hc;have hw:=B.bn;have hl:=B.aY;have h1:1<=oW (atM zk i)/\oW (atM zk i)<=4:=by have:=Xa (atM zk i);omega
 have h0:1<=c.aY*c.bn:=by
  have:=zck hl.1 hw.1 (by decide) (by omega);omega
 have h2:=qJ (v:=atM za i) h0;unfold aay;refine⟨?_,?_⟩
 ·unfold Cfg.right;simp only [zaf,decide_eq_true_eq,zbh];refine⟨⟨⟨h1.1,h1.2⟩,?_⟩,?_⟩
  ·unfold Cfg.bU Cfg.kC;rw [if_neg (by omega)];have:=zc3 h2.1 (show 0<=c.bn by omega);omega
  ·split
   ·rename_i h;rcases h with h | h
    ·exact .inl (.inr h)
    ·exact .inr h
   ·exact .inl (.inl rfl)
 ·simp only;split
  ·exact am5 hv i
  ·exact⟨by decide,by decide⟩
theorem Ba {c:Cfg}(hc:c.ok=true)(zw zk za zv:List Int)(hv:∀z∈zv,vX z):∀i,∀l∈kH c zw zk za zv i,∀o∈l,c.right o=true/\I64 o.value
 | 0,l,h=> by
  rw [zcb h];intro o ho;cases ho
 | i+1,l,h=> by
  have ih:=Ba hc zw zk za zv hv i;simp only [kH,jv] at h;split at h
  ·rcases zbC h with h | rfl
   ·exact ih l h
   ·intro o ho;rcases zaM.1 ho with ho | ho
    ·rw [zao] at ho;cases e:(kH c zw zk za zv i)[(dQ (atM zw i) c.aH).toNat]? with
     | none=> rw [e] at ho;cases ho
     | some l'=> rw [e] at ho;exact ih l' (zau e) o ho
    ·rw [zaN] at ho;subst ho;exact XE hc zk za zv hv i
  ·exact ih l h
theorem ad5 {c:Cfg}(hc:c.ok=true)(hi:∀z∈c.init,vX z){aj:Int}(h:0<=aj/\aj < c.aY):pG c (c.first aj):=by
 have B:=DY hc;have hw:=B.bn;unfold Cfg.first
 rw [if_neg (by omega)];refine⟨by rw [zaB,zcv];omega,λv hv=> ?_⟩;obtain⟨j,_,rfl⟩:=zaG.1 hv;rw [zao];cases e:c.init[(aj*c.bn).toNat+j]? with
 | none=> exact⟨by decide,by decide⟩
 | some x=> exact hi x (zau e)
theorem Ip(c:Cfg)(me:Int):∀n:Nat,∀e∈c.nS me n,0<=e.1/\e.1 < n/\e.2.data=c.first e.1
 | 0,e,h=> by cases h
 | n+1,e,h=> by
  simp only [Cfg.nS] at h;have ih:=Ip c me n;split at h
  ·have key:∀(l:List (Int × Row)) (k:Int) (x:Row),e∈lT l k x->e∈l∨(e.1=k/\e.2=x):=by
    intro l
    induction l with
    | nil=>
     intro k x hx;simp only [lT,zaN] at hx;right;rw [hx];exact⟨rfl,rfl⟩
    | cons a l ih=>
     obtain⟨k',v⟩:=a;intro k x hx;simp only [lT] at hx;split at hx
     ·rename_i hk;rcases zaj.1 hx with rfl | hx
      ·exact .inr ⟨by first | rfl | exact hk | exact hk.symm,rfl⟩
      ·exact .inl (zba _ hx)
     ·rcases zaj.1 hx with rfl | hx
      ·exact .inl (List.mem_cons_self ..)
      ·rcases ih k x hx with hx | hx
       ·exact .inl (zba _ hx)
       ·exact .inr hx
   rcases key _ _ _ h with h | ⟨h1,h2⟩
   ·have:=ih e h;exact⟨this.1,by omega,this.2.2⟩
   ·exact⟨by omega,by omega,by rw [h2,h1]⟩
  ·have:=ih e h;exact⟨this.1,by omega,this.2.2⟩
theorem ags {c:Cfg}(hc:c.ok=true)(hi:∀z∈c.init,vX z){ps:List (List Opn)}(hp:c.WJ ps=true)(hv:∀l∈ps,∀o∈l,c.right o=true/\I64 o.value):MX 0 (.new c ps):=by
 have B:=DY hc;have hn:=B.aH;have hb:=B.aY;obtain⟨h1,h2⟩:=adk hp;refine⟨⟨hc,?_,?_,λi n hn=> ?_,?_⟩,abp hc ps,DX.new c,λi n hn=> ?_⟩
 ·simp only [cZ.new,zdE];exact h1
 ·refine⟨rfl,rfl,?_,λp hp=> ?_⟩
  ·simp only [cZ.new,Fab.new,zdn];omega
  ·simp only [cZ.new,Fab.new,List.mem_replicate] at hp;rw [hp.2];have:=B.out;have:=B.inn;refine⟨by show((0:Nat):Int)<=c.out;omega,by show((0:Nat):Int)<=c.out;omega,by show((0:Nat):Int)<=c.inn;omega,by show((0:Nat):Int)<=1;omega,λq hq=> by simp [Port.zero] at hq⟩
 ·simp only [cZ.new,zbf,zcO] at hn;obtain⟨l,hl,rfl⟩:=hn;have hm:=zau hl;refine⟨⟨h2 l hm,hv l hm,zaR _,λh=> by cases h⟩,⟨rfl,rfl,List.Pairwise.nil,List.Pairwise.nil,λe he=> (by cases he),λaj=> ?_,zbr 0⟩,λe he=> ?_,⟨⟨List.Pairwise.nil,λe he=> (by cases he),List.Pairwise.nil,λe he=> (by cases he)⟩,λe he=> (by cases he)⟩,λh=> absurd rfl h,zbr 0⟩
  ·have:=B.ways;show(([]:List Ent).length:Int)<=c.ways;simp;omega
  ·obtain⟨r1,r2,r3⟩:=Ip c i _ e he;rw [r3];exact ad5 hc hi ⟨r1,by omega⟩
 ·have:∀n∈(cZ.new c ps).aH,Node.evs n=0:=by
   intro n hn;simp only [cZ.new,List.mem_mapIdx] at hn;obtain⟨i,hi,rfl⟩:=hn;rfl
  have h0:∀l:List Node,(∀n∈l,Node.evs n=0)->(l.map Node.evs).sum=0:=by
   intro l
   induction l with
   | nil=> intro _;rfl
   | cons n l ih=>
    intro h;rw [zaA,zbW,h n (by simp),ih λx hx=> h x (by simp [hx])]
  rw [h0 _ this];rfl
 ·simp only [cZ.new,zbf,zcO] at hn;obtain⟨l,hl,rfl⟩:=hn;exact⟨zbr 0,by show(0:Int) < 4096;decide,zaR _,λaj=> zac 0⟩
theorem mV.here {g:bF}{A:Adr}{m:cZ}(M:mV g A m){x:Nat}(h:agp A m.aH.length m.fab.l.length x):∃cs,g x=some cs:=by
 rcases h with⟨i,s,hi,hs,rfl⟩ | ⟨i,s,hi,hs,rfl⟩ | rfl
 ·obtain⟨n,hn⟩:∃n,m.aH[i]?=some n:=⟨_,zab hi⟩
  exact(M.bD i n hn).some hs
 ·exact⟨_,gU (M.fab.port hi) hs⟩
 ·exact⟨_,M.trace⟩
section
variable {b:Nat}{H:ah}{g:bF}{A:Adr}{m:cZ}{T:Nat}
theorem MX.fine(X:MX T m):m.fine:=by
 have I:=X.inv;have B:=DY I.ok;have h1:=I.len;have h2:=I.fab.len;have QL:∀p∈m.fab.l,p.rq.length < 1000/\p.an.length < 1000/\p.rin.length < 1000/\p.ain.length < 1000:=λp hp=> by
  have P:=I.fab.port p hp;have:=P.rq;have:=P.an;have:=P.rin;have:=P.ain;have:=B.out;have:=B.inn;omega
 have hn:∀n∈m.aH,NX T n/\∃i:Nat,WQ m.c i n:=λn hn=> by
  obtain⟨i,hi⟩:=zbw.1 hn;exact⟨X.bD i n hi,i,I.bD i n hi⟩
 refine⟨I.ok,h1,by omega,λn hm=> ?_,λl hl=> ?_,λn hm=> ?_,λp hp=> ⟨(QL p hp).2.2.1,(QL p hp).2.2.2⟩⟩
 ·obtain⟨_,i,NI⟩:=hn n hm;have:=NI.bG.most;have:=NI.bG.vals;omega
 ·unfold Fab.jm at hl;obtain⟨p,hp,hl⟩:=za1.1 hl;simp only [zaj,zay,or_false] at hl;rcases hl with rfl | rfl
  ·exact(QL p hp).1
  ·exact(QL p hp).2.1
 ·have:=(hn n hm).1.dat;omega
end
structure TT(b:Nat)(H:ah)(g:bF)(A:Adr)(m:cZ)(T:Nat):Prop where
 good:Good b H g
 base:H.base<=b
 zY:mV g A m
 keep:MX T m
section
variable {b:Nat}{H:ah}{g:bF}{A:Adr}{m:cZ}{T:Nat}
theorem TT.new(R:TT b H g A m T)(o:fZ):TT b (H.new o) g A m T:=⟨R.good.new o,by rw [ji];exact R.base,R.zY,R.keep⟩
theorem TT.do_(R:TT b H g A m T)(hT:T < 999000)(p:Pck)(h64:vX p.at_)(hbit:vX p.bit)(m0:0<=p.mask)(m1:p.mask<=65535):
  ∃H' g',cl 23 [.ref A.zY 0 0,.agg p.av] H=some (B (m.do_ p).2,H')/\TT b H' g' A (m.do_ p).1 (T+1)/\Off (agp A m.aH.length m.fab.l.length) g g'/\Step b H H':=by
 obtain⟨H',g',e,G,M,O,S⟩:=apT R.good R.base R.zY R.keep hT p h64 hbit m0 m1;exact⟨H',g',e,⟨G,by rw [S.base];exact R.base,M,R.keep.do_ p⟩,O,S⟩
theorem TT.loc(R:TT b H g A m T){ty n:Nat}{xs ys:List AV}(hx:xs.length=n)(hy:ys.length=n)(hn:0 < n)(ax:xs.all AV.aQ=true)(ay:ys.all AV.aQ=true)(ht:ty < gY:=by decide):
  ∃K,st n (.ref H.next 0 0) (.agg ys) (H.new (.blk 0 ty xs))=some (bf,K)/\TT b K (upd g H.next (ys.map Cell.av)) A m T/\lda n (.ref H.next 0 0) K=some (.agg ys,K):=by
 have G1:=R.good.newObj (ty:=ty) (xs:=xs) ax ht;obtain⟨K',t1,t2,t3,t4⟩:=G1.stores (by rw [ji];exact R.base) aW (i:=0) (n:=n) (vs:=ys) (by rw [zaB,hx];omega) hy ay;have e:nP (xs.map Cell.av) 0 ys=ys.map Cell.av:=by
  unfold nP;rw [zaS (by rw [zaB,hx,hy];omega)];simp
 rw [e,pz] at t2;exact⟨K',t1,⟨t2,by rw [t3.base,ji];exact R.base,R.zY.sub ((su.refl g).more (R.good.isNone (zac _)) _),R.keep⟩,t2.loads aW (i:=0) (n:=n) (xs:=ys) (by rw [zaQ,zaw (by simp [hy])]) hy hn⟩
theorem TT.fab(R:TT b H g A m T):ld (.ref A.zY 0 0) H=some (.ref A.fab 0 0,H):=R.good.load R.zY.zY (i:=0) (x:=.ref A.fab 0 0) rfl
theorem TT.trace(R:TT b H g A m T):ld (.ref A.zY 0 1) H=some (.ref A.trace 0 0,H):=R.good.load R.zY.zY (i:=1) (x:=.ref A.trace 0 0) rfl
theorem TT.guard(R:TT b H g A m T):Good b H.guard g/\mV g A m:=⟨R.good.guard,R.zY⟩
end
structure Solo(b:Nat)(H:ah)(g:bF)(S:IG)(m:cZ)(T:Nat):Prop where
 good:Good b H g
 base:H.base<=b
 nw:∃n,m.aH=[n]/\NW g S m.c 0 (n,m.fab,m.trace)
 keep:MX T m
section
variable {b:Nat}{H:ah}{g:bF}{S:IG}{m:cZ}{T:Nat}
theorem Solo.new(R:Solo b H g S m T)(o:fZ):Solo b (H.new o) g S m T:=⟨R.good.new o,by rw [ji];exact R.base,R.nw,R.keep⟩
theorem Solo.step(R:Solo b H g S m T)(hT:T < 999000):
  ∃H' g',cl 13 [.ref (S.a 0) 0 0,.ref S.f 0 0,.ref S.t 0 0] H=some (I (m.step 0).2,H')/\Solo b H' g' S (m.step 0).1 (T+1)/\Off (X0 S m.fab.l.length) g g'/\Step b H H':=by
 obtain⟨n,hn,N⟩:=R.nw;have hi:m.aH[0]?=some n:=by rw [hn];rfl
 have NX:=R.keep.bD 0 n hi;have NI:=R.keep.inv.bD 0 n hi;have W:=Walk.of R.good R.base N;obtain⟨K',g',e1,W'⟩:=VN W R.keep.inv.ok R.keep.inv.fab NI ⟨NX.VR,by have:=NX.num1;show n.num < 1000000;omega⟩ (by have:=agq R.keep.inv;show m.trace.length < 999999;omega) (by have:=NX.dat;show n.aI.data.length < 1000000000;omega) (λaj=> by have:=NX.ws aj;show(n.home.aP.ws aj).length < 1000000;omega);have hst:m.step 0=({ m with aH:=m.aH.set 0 (n.step m.c 0 m.fab m.trace).1.1,fab:=(n.step m.c 0 m.fab m.trace).1.2.1,trace:=(n.step m.c 0 m.fab m.trace).1.2.2 },(n.step m.c 0 m.fab m.trace).2):=by
  unfold cZ.step cZ.bD;rw [if_pos (by omega),show(0:Int).toNat=0 from rfl,hi]
 refine⟨K',g',?_,⟨W'.loc.out,by rw [W'.step.base];exact R.base,?_,R.keep.step 0⟩,W'.off,W'.step⟩
 ·rw [hst];exact e1
 ·refine⟨(n.step m.c 0 m.fab m.trace).1.1,?_,?_⟩
  ·rw [hst];simp only [hn,zbU]
  ·rw [hst];exact W'.nw
theorem Solo.deliver(R:Solo b H g S m T){at_ bit mask:Int}(h64:vX at_)(hbit:vX bit)(m0:0<=mask)(m1:mask<=65535):
  ∃H' g',cl 14 [.ref S.f 0 0,I at_,I bit,.s (.int .u16 mask)] H=some (I (m.deliver at_ bit mask).2,H')/\Solo b H' g' S (m.deliver at_ bit mask).1 T/\Off (X0 S m.fab.l.length) g g'/\Step b H H':=by
 obtain⟨n,hn,N⟩:=R.nw;have X:=R.keep;have B:=DY X.inv.ok;have h0:m.fab.l.length≠0:=by have:=X.inv.fab.len;have:=B.aH;omega
 obtain⟨H',g',e1,G',F',O',S'⟩:=J8 R.good R.base N.fab N.Qc (fok X.inv.ok X.inv.fab) h0 (λp hp=> ⟨⟨(X.inv.fab.pkt hp).ok,(X.inv.fab.pkt hp).num⟩,X.dst.all p hp⟩) h64 hbit m0 m1;have hlen:(m.fab.deliver at_ bit mask).1.l.length=m.fab.l.length:=by
  have h1:=(X.inv.fab.deliver at_ bit mask).len;have h2:=X.inv.fab.len;omega
 exact⟨H',g',e1,⟨G',by rw [S'.base];exact R.base,⟨n,hn,N.net F' hlen O'⟩,X.deliver _ _ _⟩,O'.mono λq h=> .inr (.inl h),S'⟩
end
def Kq:Cfg:=⟨1,1,1,1,1,1,1,[5]⟩
theorem am6(H:ah):cl 56 [] H=some (.agg Kq.av,H):=by
 have b1:∀H,bs 22 1 [(0,I 5)] H=some (.sl H.next 0 0 1 1 1 true,H.new (.blk 0 3 [I 5])):=λH=> (BJ (by decide)).trans (jS rfl rfl rfl);let cells:List AV:=[I 1,I 1,I 1,I 1,I 1,I 1,I 1,.sl (H.next+1) 0 0 1 1 1 true]
 have ca:cells.all AV.aQ=true:=rfl;have ev:bd 26 [(0,I 1),(1,I 1),(2,I 1),(3,I 1),(4,I 1),(5,I 1),(6,I 1),(7,.sl (H.next+1) 0 0 1 1 1 true)]=some (.agg cells):=by
  simp only [xq_,ajm,kG,gZ,agZ];rfl
 have cc:(AV.agg cells).cells=cells:=rfl;have cl8:cells.length=8:=rfl;have tk8:cells.take 8=cells:=rfl;have hn:H.guard.next<=H.guard.next+1:=za0 _
 refine iU rfl rfl (aoP _ _ (r:=(.agg cells,(H.guard.new (.blk 0 26 cells)).new (.blk 0 3 [I 5]))) ?_) ?_
 ·simp only [Nat.reduceAdd,aV,xq_,hq_,akt,b1,ev,ca,cc,cl8,tk8]
 ·have h5:Kq.av=[I 1,I 1,I 1,I 1,I 1,I 1,I 1,.vs 1 1 [I 5]]:=rfl;rw [h5];have hsl:bQ ((H.guard.new (.blk 0 26 cells)).new (.blk 0 3 [I 5])) H.next 8 (.sl (H.next+1) 0 0 1 1 1 true)=some (.vs 1 1 [I 5]):=by
   refine jM (by omega) (cells:=[I 5]) ?_ rfl;have hs:aN ((H.guard.new (.blk 0 26 cells)).new (.blk 0 3 [I 5])) (.sl (H.next+1) 0 0 1 1 1 true) 1 1 [I 5]:=⟨rfl,rfl,rfl,⟨by rw [fE,fE,SB];omega,zac _⟩,3,_,bC (by rw [fE,SB]),zac _,rfl⟩
   exact hs.wI.2
  show bQ _ H.next 9 (.agg cells)=_
  rw [bQ];simp only [cells,zbn,List.mapM_nil,jr,hsl];rfl
theorem ad6 {H0 H1 H2 H3:ah}{c:Cfg}{l:List Opn}{f t:Nat}{P:Nat->Nat->Nat}{gf ga:bF}{a:Nat->Nat}(hck:c.ok=true)(h1:c.aH=1)(M1:Made H0 H1 gf)(F:iq gf f P c (.new c))(J:Qa P c.aH.toNat)
  (M2:Made H1 H2 (upd vV t (jE []))) (M3:Made H2 H3 ga) (N:rJ ga a c 0 (.new c 0 l)) (hb:H0.base<=H0.next) (X:MX 0 (.new c [l])):
  ∃g,Solo H0.next H3 g ⟨a,f,P,t⟩ (.new c [l]) 0/\(∀x,X0 ⟨a,f,P,t⟩ 1 x->x < H3.next):=by
 have M12:=M1.add M2;have G:=M12.good.merge M3;have hl:(Fab.new c).l.length=1:=by simp [Fab.new,h1]
 have ht:H1.next<=t:=M2.good.le aW
 have hf:f < H1.next:=M1.good.lt F.1
 have tf:t≠f:=by omega
 have F1:iq (upd gf t (jE [])) f P c (.new c):=F.sub ((su.refl gf).more (M1.good.isNone ht) _);have F2:=F1.sub (Nu (g':=ga) M12.good rfl);have N2:rJ (cup H2.next (upd gf t (jE [])) ga) a c 0 (.new c 0 l):=N.ext λs hs=> by
  obtain⟨cs,e⟩:=N.some hs;rw [e,VU (g:=upd gf t (jE [])) M3.good (zac _) _ _ e]
 have T2:cup H2.next (upd gf t (jE [])) ga t=some (jE []):=Nu (g':=ga) M12.good rfl _ _ aW
 have NW2:NW (cup H2.next (upd gf t (jE [])) ga) ⟨a,f,P,t⟩ c 0 (.new c 0 l,.new c,[]):=⟨N2,F2,T2,by show Qa P (Fab.new c).l.length;rw [hl];rw [h1] at J;exact J,tf⟩
 refine⟨_,⟨G,by rw [M3.base,M2.base,M1.base];exact hb,⟨.new c 0 l,rfl,NW2⟩,X⟩,λx hx=> ?_⟩;have hx':X0 ⟨a,f,P,t⟩ (Fab.new c).l.length x:=by rw [hl];exact hx
 have:=NW2.here (w:=(.new c 0 l,.new c,[])) hx';cases e:cup H2.next (upd gf t (jE [])) ga x with
 | none=> exact absurd e this
 | some cs=> exact G.lt e
section
variable {b:Nat}{H:ah}{g:bF}{S:IG}{m:cZ}{T:Nat}
theorem QM {n:Node}(h:m.aH=[n]):m.left=n.bG.left:=by
 unfold cZ.left;rw [h];simp
theorem Solo.bG(R:Solo b H g S m T):ld (.ref (S.a 0) 0 1) H=some (.ref (S.a 2) 0 0,H):=by
 obtain⟨n,hn,N⟩:=R.nw;exact R.good.load N.bD.1 (i:=1) (x:=.ref (S.a 2) 0 0) rfl
theorem Solo.aG(R:Solo b H g S m T):ld (.ref (S.a 0) 0 0) H=some (.ref (S.a 1) 0 0,H):=by
 obtain⟨n,hn,N⟩:=R.nw;exact R.good.load N.bD.1 (i:=0) (x:=.ref (S.a 1) 0 0) rfl
theorem Solo.psz(R:Solo b H g S m T){n:Node}(hn:m.aH=[n]):n.bG.ops.length < 1000/\n.bG.aZ.length < 1000:=by
 have NI:=R.keep.inv.bD 0 n (by rw [hn];rfl);have:=NI.bG.most;have:=NI.bG.vals;omega
theorem Solo.left(R:Solo b H g S m T):cl 12 [.ref (S.a 2) 0 0] H=some (I m.left,H):=by
 obtain⟨n,hn,N⟩:=R.nw;obtain⟨p1,p2⟩:=R.psz hn;rw [QM hn];exact MP R.good N.bD.2.2.1 p1 p2
theorem Solo.under(R:Solo b H g S m T):cl 21 [.ref S.f 0 0] H=some (I m.fab.under,H):=by
 obtain⟨n,hn,N⟩:=R.nw;have F:=R.keep.fine;have B:=DY R.keep.inv.ok;have h1:=F.aH;have h2:=F.fab;exact ado R.good N.fab (by have:=B.aH;omega) (by have:=B.aH;omega) F.jm
theorem Solo.aI(R:Solo b H g S m T){n:Node}(hn:m.aH=[n]):cl 20 [.ref (S.a 0) 0 0] H=some (.tup [.agg (if n.aI.step=0 then bP.zero else n.aI).av,B (!decide (n.aI.step=0))],H):=by
 obtain⟨n',hn',N⟩:=R.nw;rw [hn] at hn';cases hn';exact adl R.good N.bD.1 (R.keep.fine.aI n (by rw [hn];simp))
theorem Solo.aZ(R:Solo b H g S m T){n:Node}(hn:m.aH=[n]):∃x,cl 18 [.ref (S.a 2) 0 0] H=some (x,H)/\∀H':ah,aN H' x 1 n.bG.aZ.length (n.bG.aZ.map I):=by
 obtain⟨n',hn',N⟩:=R.nw;rw [hn] at hn';cases hn';exact Xf R.good N.bD.2.2.1 (R.psz hn).2
end
section
variable {b:Nat}{H:ah}{g:bF}{S:IG}{m:cZ}{T:Nat}
theorem Solo.mono(R:Solo b H g S m T){T':Nat}(h:T<=T'):Solo b H g S m T':=⟨R.good,R.base,R.nw,R.keep.mono h⟩
theorem Solo.loc(R:Solo b H g S m T){ty n:Nat}{xs ys:List AV}(hx:xs.length=n)(hy:ys.length=n)(hn:0 < n)(ax:xs.all AV.aQ=true)(ay:ys.all AV.aQ=true)(ht:ty < gY:=by decide):
  ∃K,st n (.ref H.next 0 0) (.agg ys) (H.new (.blk 0 ty xs))=some (bf,K)/\Solo b K (upd g H.next (ys.map Cell.av)) S m T/\lda n (.ref H.next 0 0) K=some (.agg ys,K)/\∀i v,ys[i]?=some v->ld (.ref H.next 0 i) K=some (v,K):=by
 have G1:=R.good.newObj (ty:=ty) (xs:=xs) ax ht;obtain⟨K',t1,t2,t3,t4⟩:=G1.stores (by rw [ji];exact R.base) aW (i:=0) (n:=n) (vs:=ys) (by rw [zaB,hx];omega) hy ay;have e:nP (xs.map Cell.av) 0 ys=ys.map Cell.av:=by
  unfold nP;rw [zaS (by rw [zaB,hx,hy];omega)];simp
 rw [e,pz] at t2;obtain⟨k,hk,N⟩:=R.nw;refine⟨K',t1,⟨t2,by rw [t3.base,ji];exact R.base,⟨k,hk,N.sub ((su.refl g).more (R.good.isNone (zac _)) _)⟩,R.keep⟩,t2.loads aW (i:=0) (n:=n) (xs:=ys) (by rw [zaQ,zaw (by simp [hy])]) hy hn,λi v hv=> t2.load aW (i:=i) (x:=v) (by rw [zaI,hv];rfl)⟩
end
theorem agt {l:List Opn}(hp:Kq.WJ [l]=true)(hv:∀o∈l,Kq.right o=true/\I64 o.value):MX 0 (.new Kq [l]):=
 ags rfl (λz hz=> by simp only [Kq,zaj,zay,or_false] at hz;subst hz;exact⟨by decide,by decide⟩) hp (λl' hl=> by simp only [zaj,zay,or_false] at hl;subst hl;exact hv)
theorem Kr(H0:ah)(hb:H0.base<=H0.next){c:Cfg}(hck:c.ok=true)(h1:c.aH=1){l:List Opn}(hl:l.length < 1000)(X:MX 0 (.new c [l])):
  ∃H1 f H2 t P,cl 9 [.agg c.av] H0=some (.ref f 0 0,H1)/\cl 10 [] H1=some (.ref t 0 0,H2)/\H0.next<=H2.next/\(∀r,r < H0.next->H2.get r=H0.get r)/\
   (∀r,r < H0.next->H1.get r=H0.get r)/\H0.next<=H1.next/\
   ∀H2':ah,(H2'=H2∨∃o,H2'=H2.new o)->∀x,aN H2' x 3 l.length (l.flatMap Opn.av)->(l=[]->x=zN)->
    ∃H3 a g,cl 11 [.agg c.av,I 0,x] H2'=some (.ref (a 0) 0 0,H3)/\Solo H0.next H3 g ⟨a,f,P,t⟩ (.new c [l]) 0/\∀r,r < H2'.next->H3.get r=H2'.get r:=by
 obtain⟨H1,f,P,gf,e1,M1,F,J⟩:=aap H0 hb c hck;obtain⟨H2,t,e2,M2⟩:=ada H1;refine⟨H1,f,H2,t,P,e1,e2,zax M1.next M2.next,λr hr=> by rw [M2.same r (zaz hr M1.next),M1.same r hr],M1.same,M1.next,λH2' h2 x hx h0=> ?_⟩;obtain⟨H3,a,ga,e3,M3,N⟩:=aao H2' c hck 0 l (by omega) hx h0;have M3':Made H2 H3 ga:=by
  rcases h2 with rfl | ⟨o,rfl⟩
  ·exact M3
  ·exact M3.Hl
 obtain⟨g,R,_⟩:=ad6 hck h1 M1 F J M2 M3' N hb X;exact⟨H3,a,g,e3,R,M3.same⟩
theorem Solo.idle {b:Nat}{H:ah}{g:bF}{S:IG}{l:List Opn}(R:Solo b H g S (.new Kq [l]) 0)(hbn:H.base<=H.next):
  ∃(H' H'':ah) (a2:Nat->Nat) (g':bF),cl 11 [.agg Kq.av,I 0,zN] H=some (.ref (a2 0) 0 0,H')/\cl 13 [.ref (a2 0) 0 0,.ref S.f 0 0,.ref S.t 0 0] H'=some (I 0,H'')/\Solo b H'' g' S (.new Kq [l]) 0:=by
 obtain⟨n,hn,N⟩:=R.nw;obtain⟨H',a2,ga,e1,M,N2⟩:=aao H Kq rfl 0 [] (by decide) (x:=zN) aN.nil λ_=> rfl;have G:=R.good.merge M;have sl:=Nu (g':=ga) R.good rfl;have N':=N.sub sl;have hX:MX 0 (.new Kq [[]]):=agt rfl (λo h=> by cases h);have N2':rJ (cup H.next g ga) a2 Kq 0 (.new Kq 0 []):=N2.ext λs hs=> by
  obtain⟨cs,e⟩:=N2.some hs;rw [e,VU (g:=g) M.good (zac _) _ _ e]
 have R2:Solo b H' (cup H.next g ga) ⟨a2,S.f,S.P,S.t⟩ (.new Kq [[]]) 0:=⟨G,by rw [M.base];exact R.base,⟨.new Kq 0 [],rfl,⟨N2',N'.fab,N'.tr,N'.Qc,N'.tf⟩⟩,hX⟩
 obtain⟨H'',g',e2,R3,O,_⟩:=R2.step (by decide);have z2:((cZ.new Kq [[]]).step 0).2=0:=by kernel_rfl
 have z1:((cZ.new Kq [[]]).step 0).1=.new Kq [[]]:=by kernel_rfl
 rw [z2] at e2;rw [z1] at R3;obtain⟨n3,_,N3⟩:=R3.nw;refine⟨H',H'',a2,g',e1,e2,R3.good,R3.base,⟨n,hn,⟨N'.bD.ext λs hs=> ?_,N3.fab,N3.tr,N3.Qc,N3.tf⟩⟩,R.keep⟩;refine O _ ?_;rintro(⟨s',hs',e⟩ | h | e)
 ·obtain⟨cs,q1⟩:=N.bD.some hs;obtain⟨cs',q2⟩:=N2.some hs';have:=R.good.lt q1;have:=M.good.le q2;have:S.a s=a2 s':=e;omega
 ·exact(N'.TK h).1 s hs rfl
 ·exact N'.VJ s hs e
def w0:cZ:=.new Kq [[⟨1,0,0⟩]]
def w1:cZ:=(w0.step 0).1
def w2:cZ:=(w1.deliver 0 0 0).1
def w3:cZ:=(w2.step 0).1
def w4:cZ:=(w3.deliver 0 0 0).1
def w5:cZ:=(w4.step 0).1
theorem aiA(H:ah):cl 19 [] H=some (B true,H):=by
 have e0:=λH=> am6 H;have X:MX 0 w0:=agt rfl (λo h=> by simp only [zaj,zay,or_false] at h;subst h;exact⟨rfl,by decide,by decide⟩);obtain⟨H1,f,H2,t,P,e1,e2,_,_,_,_,k⟩:=Kr H.guard (zac _) (c:=Kq) rfl rfl (l:=[⟨1,0,0⟩]) (by decide) X;let H2':=H2.new (.blk 0 53 [I 1,I 0,I 0]);have hx:aN H2' (.sl H2.next 0 0 3 1 1 true) 3 1 [I 1,I 0,I 0]:=⟨rfl,rfl,rfl,⟨by rw [fE];omega,zac _⟩,53,_,bC rfl,zac _,rfl⟩
 obtain⟨H3,a,g,e3,R0,_⟩:=k H2' (.inr ⟨_,rfl⟩) _ hx λh=> by cases h
 have hb3:H3.base<=H3.next:=zax R0.base R0.good.1
 obtain⟨H4,H5,a2,g5,i1,i2,R⟩:=R0.idle hb3
 replace R:Solo _ _ _ _ w0 _:=R
 obtain⟨K1,g1,s1,R1,_⟩:=R.step (by decide)
 replace R1:Solo _ _ _ _ w1 _:=R1
 obtain⟨K2,g2,s2,R2,_⟩:=R1.deliver (at_:=0) (bit:=0) (mask:=0) Ko Ko (by decide) (by decide)
 replace R2:Solo _ _ _ _ w2 _:=R2
 obtain⟨K3,g3,s3,R3,_⟩:=R2.step (by decide)
 replace R3:Solo _ _ _ _ w3 _:=R3
 obtain⟨K4,g4,s4,R4,_⟩:=R3.deliver (at_:=0) (bit:=0) (mask:=0) Ko Ko (by decide) (by decide)
 replace R4:Solo _ _ _ _ w4 _:=R4
 obtain⟨K5,g6,s5,R5,_⟩:=R4.step (by decide)
 replace R5:Solo _ _ _ _ w5 _:=R5
 have v1:(w0.step 0).2=4:=by kernel_rfl
 have v2:(w1.deliver 0 0 0).2=0:=by kernel_rfl
 have v3:(w2.step 0).2=3:=by kernel_rfl
 have v4:(w3.deliver 0 0 0).2=0:=by kernel_rfl
 have v5:(w4.step 0).2=1:=by kernel_rfl
 have v6:w5.left=0:=by kernel_rfl
 have v7:∀n,w5.aH=[n]->n.bG.aZ=[5]:=λn h=> by
  have:w5.aH.map (λn=> n.bG.aZ)=[[5]]:=by kernel_rfl
  rw [h] at this
  simpa using this
 obtain⟨n5,hn5,_⟩:=R5.nw;obtain⟨x,y1,y2⟩:=R5.aZ hn5;rw [v7 n5 hn5] at y2;have f5:=R5.bG;have l5:=R5.left;rw [v1] at s1;rw [v2] at s2;rw [v3] at s3;rw [v4] at s4;rw [v5] at s5;rw [v6] at l5;let K6:=K5.new (.blk 0 3 [I 5]);have b5:bs 22 1 [(0,I 5)] K5=some (.sl K5.next 0 0 1 1 1 true,K6):=(BJ (by decide)).trans (jS rfl rfl rfl);have hy:aN K6 (.sl K5.next 0 0 1 1 1 true) 1 1 [I 5]:=⟨rfl,rfl,rfl,⟨by rw [fE];omega,zac _⟩,3,_,bC rfl,zac _,rfl⟩
 have e6:=aaB K6 (l:=[5]) (by decide) (y2 K6) hy;have b1:bd 53 [(0,I 1)]=some (.agg [I 1,I 0,I 0]):=by
  simp only [xq_,YN,kG,gZ,YM];rfl
 have b2:bs 28 1 [(0,.agg [I 1,I 0,I 0])] H2=some (.sl H2.next 0 0 3 1 1 true,H2'):=(agY (by decide)).trans (jS rfl rfl rfl);have n1:bi .eql 31 (.ref f 0 0) zP=some (B false):=by kernel_rfl
 have n2:bi .eql 33 (.ref t 0 0) zP=some (B false):=by kernel_rfl
 have n3:bi .eql 35 (.ref (a 0) 0 0) zP=some (B false):=by kernel_rfl
 refine dJ rfl rfl (aou _ _) ?_ jc;simp only [xq_,akd,e0,e1,e2,b1,b2,e3,n1,n2,n3,i1,i2,s1,s2,s3,s4,s5,f5,l5,y1,b5,e6,zah]
abbrev uf:=Int->Option Ent
def hdI:List Int->Int->Int
 | [],x=> x
 | i::_,_=> i
def nM:List Int->Int->Int
 | [],x=> x
 | i::l,_=> nM l i
def Chn(E:uf):Int->List Int->Int->Prop
 | _,[],_=> True
 | b,i::l,x=> (∃e,E i=some e/\e.back=b/\e.fwd=hdI l x)/\Chn E i l x
def FCh(E:uf):List Int->Prop
 | []=> True
 | i::l=> (∃e,E i=some e/\e.fwd=hdI l (-1))/\FCh E l
def nV(E:uf)(i:Int)(x:Option Ent):uf:=λj=> if j=i then x else E j
theorem fP {E:uf}{i:Int}{x:Option Ent}:nV E i x i=x:=by simp [nV]
theorem fC {E:uf}{i j:Int}{x:Option Ent}(h:j≠i):nV E i x j=E j:=by simp [nV,h]
theorem XF {l l':List Int}{x:Int}:hdI (l++l') x=hdI l (hdI l' x):=by cases l <;> rfl
theorem D8:∀{l l':List Int} {x:Int},nM (l++l') x=nM l' (nM l x)
 | [],_,_=> rfl
 | i::l,l',x=> by simp only [za5,nM];exact D8
theorem Iq:∀{l:List Int} {x:Int},l≠[]->nM l x∈l
 | [],_,h=> absurd rfl h
 | [i],_,_=> by simp [nM]
 | i::j::l,x,_=> by
  simp only [nM];have:=Iq (l:=j::l) (x:=i) (by simp);simp only [nM] at this;exact zba _ this
theorem Chn.ext {E E':uf}:∀{l:List Int} {b x:Int},(∀j∈l,E' j=E j)->Chn E b l x->Chn E' b l x
 | [],_,_,_,_=> trivial
 | i::l,b,x,h,⟨⟨e,h1,h2⟩,hc⟩=> ⟨⟨e,by rw [h i (by simp),h1],h2⟩,Chn.ext (λj hj=> h j (by simp [hj])) hc⟩
theorem FCh.ext {E E':uf}:∀{l:List Int},(∀j∈l,E' j=E j)->FCh E l->FCh E' l
 | [],_,_=> trivial
 | i::l,h,⟨⟨e,h1,h2⟩,hc⟩=> ⟨⟨e,by rw [h i (by simp),h1],h2⟩,FCh.ext (λj hj=> h j (by simp [hj])) hc⟩
theorem Chn.fch {E:uf}:∀{l:List Int} {b:Int},Chn E b l (-1)->FCh E l
 | [],_,_=> trivial
 | _::_,_,⟨⟨e,h1,_,h3⟩,hc⟩=> ⟨⟨e,h1,h3⟩,Chn.fch hc⟩
theorem qm {E:uf}:∀{l l':List Int} {b x:Int},Chn E b (l++l') x↔Chn E b l (hdI l' x)/\Chn E (nM l b) l' x
 | [],_,_,_=> by simp [Chn,nM]
 | i::l,l',b,x=> by
  simp only [za5,Chn,nM,qm (l:=l),XF,and_assoc]
theorem Chn.mem {E:uf}:∀{l:List Int} {b x:Int},Chn E b l x->∀j∈l,∃e,E j=some e
 | i::l,_,_,⟨⟨e,h1,_⟩,hc⟩,j,hj=> by
  rcases zaj.1 hj with rfl | h
  ·exact⟨e,h1⟩
  ·exact Chn.mem hc j h
theorem FCh.mem {E:uf}:∀{l:List Int},FCh E l->∀j∈l,∃e,E j=some e
 | i::l,⟨⟨e,h1,_⟩,hc⟩,j,hj=> by
  rcases zaj.1 hj with rfl | h
  ·exact⟨e,h1⟩
  ·exact FCh.mem hc j h
theorem Chn.abr {E:uf}{i b b' x:Int}{l:List Int}{e:Ent}(h:Chn E b (i::l) x)(hn:i∉l)(he:E i=some e){e':Ent}(hb:e'.back=b')(hf:e'.fwd=e.fwd):Chn (nV E i (some e')) b' (i::l) x:=by
 obtain⟨⟨e0,h1,_,h3⟩,hc⟩:=h;rw [he] at h1;cases h1;exact⟨⟨e',fP,hb,by rw [hf,h3]⟩,hc.ext λj hj=> fC λe=> hn (e ▸ hj)⟩
theorem Chn.am7 {E:uf}{k b x y:Int}{l:List Int}{e:Ent}(h:Chn E b (l++[k]) x)(hn:k∉l)(he:E k=some e){e':Ent}(hb:e'.back=e.back)(hf:e'.fwd=y):Chn (nV E k (some e')) b (l++[k]) y:=by
 obtain⟨h1,h2⟩:=qm.1 h;refine qm.2 ⟨Chn.ext (λj hj=> fC λe=> hn (e ▸ hj)) h1,?_⟩;obtain⟨⟨e0,h3,h4,_⟩,_⟩:=h2;rw [he] at h3;cases h3;exact⟨⟨e',fP,by rw [hb,h4],by rw [hf];rfl⟩,trivial⟩
def Rng(N:Int)(l:List Int):Prop:=l.Nodup/\∀i∈l,0<=i/\i < N
theorem Rng.hd {N:Int}{l:List Int}(h:Rng N l)(hl:l≠[]):hdI l (-1)∈l/\0<=hdI l (-1):=by
 cases l with
 | nil=> exact absurd rfl hl
 | cons i l=> exact⟨by simp [hdI],(h.2 i (by simp)).1⟩
theorem Rng.abt {N:Int}{l:List Int}(h:Rng N l):hdI l (-1)=-1↔l=[]:=by
 constructor
 ·intro e;refine Classical.byContradiction λhn=> ?_;have:=(h.hd hn).2;omega
 ·rintro rfl;rfl
structure Wf(N:Int)(E:uf)(r:Row)(v:List Int)(l:List Int):Prop where
 rng:Rng N l
 ch:Chn E (-1) l (-1)
 mem:∀i e,E i=some e->i∈l
 head:r.head=hdI l (-1)
 st:r.aU=0∨r.aU=1∨r.aU=2
 st0:r.aU=0↔l=[]
 st2:r.aU=2->∃i,l=[i]
 bZ:∀i e,E i=some e->(e.bZ=true↔r.aU=2)
 data:∀i e,E i=some e->e.data=v
 Ef:r.aU≠2->r.data=v
structure aiB(N:Int)(E:uf)(v:List Int)(i:Int)(R:List Int):Prop where
 rng:Rng N R
 ch:FCh E R
 mem:∀j e,E j=some e->j∈R∨j=i
 data:∀j e,E j=some e->e.data=v
 only:∀j e,E j=some e->e.bZ=true->∀k,E k≠none->k=j
structure Mid(N:Int)(E:uf)(r:Row)(v:List Int)(i:Int)(pre post:List Int):Prop where
 rng:Rng N (pre++i::post)
 mem:∀j e,E j=some e->j∈pre++i::post
 ent:∃e,E i=some e
 head:r.head=hdI (pre++i::post) (-1)
 st:r.aU=1
 bZ:∀j e,E j=some e->e.bZ=false
 data:∀j e,E j=some e->e.data=v
 Ef:r.data=v
inductive Out where
 | idle
 | req (p:Pkt)
 | wait
 | ans (p:Pkt)
def iQ(r:Row)(d:bP):Row:=⟨d.aU,d.head,if d.data=[] then r.data else d.data⟩
inductive Hold (N hm:Int) (E:uf) (r:Row) (v:List Int) (i:Int) (d:bP):Out->Prop
 | granted {l:List Int}:d.step=1->Wf N E r v l->Hold N hm E r v i d (.ans ⟨7,hm,i,d.id,d.aj,r.head,r.aU,false,r.data⟩)
 | attach {l:List Int}:d.step=2->d.aO=1->l≠[]->d.head=hdI l (-1)->Wf N E r v l->Hold N hm E r v i d (.req (d.ask i hm))
 | attached {l:List Int} {fl:Bool}:d.step=2->d.aO=1->l≠[]->d.head=hdI l (-1)->Rng N l->Chn E i l (-1)->(∀j e,E j=some e->j∈l)->(∀j e,E j=some e->e.bZ=false)->(∀j e,E j=some e->e.data=v)->
   (fl=false->r.data=v)->Hold N hm E r v i d (.ans ⟨9,d.head,i,d.id,d.aj,0,0,fl,v⟩)
 | IQ {R:List Int}:d.step=3->d.aO=2->aiB N E v i (d.next::R)->d.next≠i->(E i≠none->d.data=v)->Hold N hm E r v i d (.req (d.ask i hm))
 | Ir {R:List Int} {fl:Bool}:d.step=3->d.aO=2->aiB N E v i R->(∀j e,E j=some e->e.bZ=false)->(E i≠none->d.data=v)->Hold N hm E r v i d (.ans ⟨9,d.next,i,d.id,d.aj,hdI R (-1),0,fl,v⟩)
 | front {pre post:List Int}:d.step=4->d.aO=3->Mid N E r v i pre post->pre≠[]->Chn E (-1) (pre++i::post) (-1)->d.head=nM pre (-1)->d.next=hdI post (-1)->d.told=r.head->Hold N hm E r v i d (.req (d.ask i hm))
 | zh {pre post:List Int}:d.step=4->d.aO=3->Mid N E r v i pre post->pre≠[]->Chn E (-1) pre (hdI post (-1))->Chn E i post (-1)->d.head=nM pre (-1)->d.next=hdI post (-1)->d.told=r.head->
   Hold N hm E r v i d (.ans ⟨8,d.head,i,d.id,d.aj,0,0,false,[]⟩)
 | behind {pre post:List Int}:d.step=5->d.aO=3->Mid N E r v i pre post->post≠[]->Chn E (-1) pre (hdI post (-1))->Chn E i post (-1)->d.head=nM pre (-1)->d.next=hdI post (-1)->d.told=r.head->Hold N hm E r v i d (.req (d.ask i hm))
 | vw {pre post:List Int}:d.step=5->d.aO=3->Mid N E r v i pre post->post≠[]->Chn E (-1) pre (hdI post (-1))->Chn E (nM pre (-1)) post (-1)->d.head=nM pre (-1)->d.next=hdI post (-1)->d.told=r.head->
   Hold N hm E r v i d (.ans ⟨8,d.next,i,d.id,d.aj,0,0,false,[]⟩)
 | unlock {l:List Int}:d.step=6->Wf N E (iQ r d) v l->Hold N hm E r v i d (.req (d.ask i hm))
section
variable {N hm:Int}{E:uf}{r:Row}{v:List Int}{i:Int}{d:bP}
theorem QN {l:List Int}(h1:d.step=2)(h2:d.aO=1)(hl:l≠[])(hh:d.head=hdI l (-1))(W:Wf N E r v l):
  ∃e,E d.head=some e/\Hold N hm (nV E d.head (some { e with bZ:=false,back:=i })) r v i d (.ans ⟨9,d.head,i,d.id,d.aj,0,0,e.bZ,e.data⟩):=by
 cases l with
 | nil=> exact absurd rfl hl
 | cons k l=>
  have hk:d.head=k:=hh;obtain⟨⟨e,he,_⟩,_⟩:=W.ch;refine⟨e,by rw [hk];exact he,?_⟩;have hz:Out.ans ⟨9,d.head,i,d.id,d.aj,0,0,e.bZ,e.data⟩=.ans ⟨9,d.head,i,d.id,d.aj,0,0,e.bZ,v⟩:=by rw [W.data k e he]
  rw [hz];have hn:k∉l:=(zaU.1 W.rng.1).1;have nd:∀j e',nV E d.head (some { e with bZ:=false,back:=i }) j=some e'->(j=k/\e'={ e with bZ:=false,back:=i })∨(j≠k/\E j=some e'):=λj e' hj=> by
   by_cases hjk:j=k
   ·subst hjk;rw [hk,fP] at hj;exact .inl ⟨rfl,(zaY hj).symm⟩
   ·rw [hk,fC hjk] at hj;exact .inr ⟨hjk,hj⟩
  refine .attached (l:=k::l) h1 h2 (by simp) hk W.rng ?_ (λj e' hj=> ?_) (λj e' hj=> ?_) (λj e' hj=> ?_) λhf=> ?_
  ·rw [hk];exact W.ch.abr hn he rfl rfl
  ·rcases nd j e' hj with⟨rfl,_⟩ | ⟨_,h⟩
   ·simp
   ·exact W.mem j e' h
  ·rcases nd j e' hj with⟨_,rfl⟩ | ⟨hjk,h⟩
   ·rfl
   ·cases hd:e'.bZ with
    | false=> rfl
    | true=>
     obtain⟨q,hq⟩:=W.st2 ((W.bZ j e' h).1 hd);have h3:=W.mem j e' h;rw [hq] at h3;simp only [zbG] at hq;simp only [zaj,zay,or_false] at h3;exact absurd (h3.trans hq.1.symm) hjk
  ·rcases nd j e' hj with⟨_,rfl⟩ | ⟨_,h⟩
   ·exact W.data k e he
   ·exact W.data j e' h
  ·refine W.Ef λh2=> ?_;have:=(W.bZ k e he).2 h2;rw [hf] at this;cases this
theorem TU {R:List Int}(h1:d.step=3)(h2:d.aO=2)(L:aiB N E v i (d.next::R))(hne:d.next≠i)(hd:E i≠none->d.data=v):
  ∃e,E d.next=some e/\Hold N hm (nV E d.next none) r v i d (.ans ⟨9,d.next,i,d.id,d.aj,e.fwd,0,e.bZ,e.data⟩):=by
 obtain⟨⟨e,he,hf⟩,hc⟩:=L.ch;refine⟨e,he,?_⟩;rw [L.data _ e he,hf];have hn:d.next∉R:=(zaU.1 L.rng.1).1
 have nd:∀j e',nV E d.next none j=some e'->j≠d.next/\E j=some e':=λj e' hj=> by
  by_cases hjk:j=d.next
  ·rw [hjk,fP] at hj;cases hj
  ·rw [fC hjk] at hj;exact⟨hjk,hj⟩
 refine .Ir (R:=R) h1 h2 ⟨⟨(zaU.1 L.rng.1).2,λj hj=> L.rng.2 j (by simp [hj])⟩,hc.ext λj hj=> fC λe=> hn (e ▸ hj),λj e' hj=> ?_,λj e' hj=> L.data j e' (nd j e' hj).2,λj e' hj hdj k hk=> ?_⟩ (λj e' hj=> ?_) λh=> hd ?_
 ·obtain⟨h3,h4⟩:=nd j e' hj;rcases L.mem j e' h4 with h | h
  ·rcases zaj.1 h with h | h
   ·exact absurd h h3
   ·exact .inl h
  ·exact .inr h
 ·refine L.only j e' (nd j e' hj).2 hdj k ?_;intro h0;by_cases hk':k=d.next
  ·rw [hk',fP] at hk;exact hk rfl
  ·rw [fC hk',h0] at hk;exact hk rfl
 ·obtain⟨h3,h4⟩:=nd j e' hj;cases hdt:e'.bZ with
  | false=> rfl
  | true=> exact absurd (L.only j e' h4 hdt d.next (by rw [he];simp)).symm h3
 ·rw [fC hne.symm] at h;exact h
theorem TV {pre post:List Int}(h1:d.step=4)(h2:d.aO=3)(M:Mid N E r v i pre post)(hp:pre≠[])(C:Chn E (-1) (pre++i::post) (-1))(hh:d.head=nM pre (-1))(hn:d.next=hdI post (-1))(ht:d.told=r.head):
  ∃e,E d.head=some e/\Hold N hm (nV E d.head (some { e with fwd:=d.next })) r v i d (.ans ⟨8,d.head,i,d.id,d.aj,0,0,false,[]⟩):=by
 obtain⟨p0,k,rfl⟩:∃p0 k,pre=p0++[k]:=⟨pre.dropLast,pre.getLast hp,(List.dropLast_concat_getLast hp).symm⟩
 have hk:d.head=k:=by rw [hh,D8];rfl
 obtain⟨C1,C2⟩:=qm.1 C;obtain⟨e,he⟩:=C1.mem k (by simp);refine⟨e,by rw [hk];exact he,?_⟩;have ndp:=M.rng.1;have hkp:k∉p0/\k≠i/\k∉post:=by
  simp only [zbZ,zaU,zaj,za4,za5,zaL] at ndp;obtain⟨_,⟨h4,h5,h6⟩,h7⟩:=ndp;refine⟨λh=> h7 k h k (.inl rfl) rfl,λh=> h4 (.inl h),λh=> h4 (.inr h)⟩
 have nd:∀j e',nV E d.head (some { e with fwd:=d.next }) j=some e'->(j=k/\e'={ e with fwd:=d.next })∨(j≠k/\E j=some e'):=λj e' hj=> by
  by_cases hjk:j=k
  ·subst hjk;rw [hk,fP] at hj;exact .inl ⟨rfl,(zaY hj).symm⟩
  ·rw [hk,fC hjk] at hj;exact .inr ⟨hjk,hj⟩
 refine .zh (pre:=p0++[k]) (post:=post) h1 h2 ⟨M.rng,λj e' hj=> ?_,?_,M.head,M.st,λj e' hj=> ?_,λj e' hj=> ?_,M.Ef⟩ hp ?_ ?_ hh hn ht
 ·rcases nd j e' hj with⟨rfl,_⟩ | ⟨_,h⟩
  ·simp
  ·exact M.mem j e' h
 ·obtain⟨ei,hi⟩:=M.ent;exact⟨ei,by rw [hk,fC hkp.2.1.symm];exact hi⟩
 ·rcases nd j e' hj with⟨_,rfl⟩ | ⟨_,h⟩
  ·exact M.bZ k e he
  ·exact M.bZ j e' h
 ·rcases nd j e' hj with⟨_,rfl⟩ | ⟨_,h⟩
  ·exact M.data k e he
  ·exact M.data j e' h
 ·rw [hk];exact C1.am7 hkp.1 he rfl hn
 ·rw [hk];exact C2.2.ext λj hj=> fC λe=> hkp.2.2 (e ▸ hj)
theorem QO {pre post:List Int}(h1:d.step=5)(h2:d.aO=3)(M:Mid N E r v i pre post)(hp:post≠[])(C1:Chn E (-1) pre (hdI post (-1)))(C2:Chn E i post (-1))(hh:d.head=nM pre (-1))(hn:d.next=hdI post (-1))(ht:d.told=r.head):
  ∃e,E d.next=some e/\Hold N hm (nV E d.next (some { e with back:=d.head })) r v i d (.ans ⟨8,d.next,i,d.id,d.aj,0,0,false,[]⟩):=by
 cases post with
 | nil=> exact absurd rfl hp
 | cons k post=>
  have hk:d.next=k:=hn
  obtain⟨e,he⟩:=C2.mem k (by simp);refine⟨e,by rw [hk];exact he,?_⟩;have ndp:=M.rng.1;have hkp:k∉pre/\k≠i/\k∉post:=by
   simp only [zbZ,zaU,zaj] at ndp;obtain⟨_,⟨h4,h5,h6⟩,h7⟩:=ndp;refine⟨λh=> h7 k h k (.inr (.inl rfl)) rfl,λh=> h4 (.inl h.symm),h5⟩
  have nd:∀j e',nV E d.next (some { e with back:=d.head }) j=some e'->(j=k/\e'={ e with back:=d.head })∨(j≠k/\E j=some e'):=λj e' hj=> by
   by_cases hjk:j=k
   ·subst hjk;rw [hk,fP] at hj;exact .inl ⟨rfl,(zaY hj).symm⟩
   ·rw [hk,fC hjk] at hj;exact .inr ⟨hjk,hj⟩
  refine .vw (pre:=pre) (post:=k::post) h1 h2 ⟨M.rng,λj e' hj=> ?_,?_,M.head,M.st,λj e' hj=> ?_,λj e' hj=> ?_,M.Ef⟩ hp ?_ ?_ hh hn ht
  ·rcases nd j e' hj with⟨rfl,_⟩ | ⟨_,h⟩
   ·simp
   ·exact M.mem j e' h
  ·obtain⟨ei,hi⟩:=M.ent;exact⟨ei,by rw [hk,fC hkp.2.1.symm];exact hi⟩
  ·rcases nd j e' hj with⟨_,rfl⟩ | ⟨_,h⟩
   ·exact M.bZ k e he
   ·exact M.bZ j e' h
  ·rcases nd j e' hj with⟨_,rfl⟩ | ⟨_,h⟩
   ·exact M.data k e he
   ·exact M.data j e' h
  ·rw [hk];exact C1.ext λj hj=> fC λe=> hkp.1 (e ▸ hj)
  ·rw [hk];exact C2.abr hkp.2.2 he hh rfl
end
section
variable {N hm:Int}{E:uf}{r:Row}{v:List Int}{i:Int}{d:bP}
theorem Rng.cons {l:List Int}(h:Rng N l)(hi:0<=i/\i < N)(hn:i∉l):Rng N (i::l):=
 ⟨zaU.2 ⟨hn,h.1⟩,λj hj=> by rcases zaj.1 hj with rfl | hj;exact hi;exact h.2 j hj⟩
theorem Rng.mid {pre post:List Int}(h:Rng N (pre++i::post)):i∉pre/\i∉post/\Rng N (pre++post)/\Rng N pre/\Rng N post/\0<=i:=by
 obtain⟨h1,h2⟩:=h;simp only [zbZ,zaU,zaj] at h1;obtain⟨a,⟨b,c⟩,e⟩:=h1;refine⟨λh=> e i h i (.inl rfl) rfl,b,⟨?_,λj hj=> h2 j (by rcases zaM.1 hj with h | h <;> simp [h])⟩,⟨a,λj hj=> h2 j (by simp [hj])⟩,⟨c,λj hj=> h2 j (by simp [hj])⟩,(h2 i (by simp)).1⟩;exact zbZ.2 ⟨a,c,λx hx y hy=> e x hx y (.inr hy)⟩
theorem Rng.last {l:List Int}(h:Rng N l)(hl:l≠[]):0<=nM l (-1):=(h.2 _ (Iq hl)).1
theorem jB {x:Option Ent}{j:Int}{e:Ent}(h:nV E i x j=some e):(j=i/\x=some e)∨(j≠i/\E j=some e):=by
 by_cases hj:j=i
 ·rw [hj,fP] at h;exact .inl ⟨hj,h⟩
 ·rw [fC hj] at h;exact .inr ⟨hj,h⟩
theorem Wf.empty {l:List Int}(W:Wf N E r v l)(h:l=[]):∀j,E j=none:=λj=> by
 cases hj:E j with
 | none=> rfl
 | some e=> have:=W.mem j e hj;rw [h] at this;cases this
theorem Wf.alone {e:Ent}(hi:0<=i/\i < N)(hE:∀j,j≠i->E j=none)(he:E i=some e)(hb:e.back=-1)(hf:e.fwd=-1){x:List Int}(hx:e.data=v){st:Int}(hs:(st=1/\e.bZ=false/\x=v)∨(st=2/\e.bZ=true)):Wf N E ⟨st,i,x⟩ v [i]:=by
 have one:∀j e',E j=some e'->j=i/\e'=e:=λj e' hj=> by
  by_cases hji:j=i
  ·rw [hji,he] at hj;exact⟨hji,(zaY hj).symm⟩
  ·rw [hE j hji] at hj;cases hj
 refine⟨⟨by simp,λj hj=> by simp only [zaj,zay,or_false] at hj;rw [hj];exact hi⟩,⟨⟨e,he,hb,hf⟩,trivial⟩,λj e' hj=> by simp [(one j e' hj).1],rfl,?_,?_,λ_=> ⟨i,rfl⟩,λj e' hj=> ?_,λj e' hj=> by rw [(one j e' hj).2,hx],λh=> ?_⟩
 ·rcases hs with⟨h,_⟩ | ⟨h,_⟩ <;> simp [h]
 ·rcases hs with⟨h,_⟩ | ⟨h,_⟩ <;> simp [h]
 ·rw [(one j e' hj).2];rcases hs with⟨h,h',_⟩ | ⟨h,h'⟩ <;> simp [h,h']
 ·rcases hs with⟨_,_,h'⟩ | ⟨h',_⟩
  ·exact h'
  ·exact absurd h' h
theorem Nv {l:List Int}(hi:0<=i/\i < N)(W:Wf N E r v l)(hs:r.aU=0){e':Ent}(hb:e'.back=-1)(hf:e'.fwd=-1)(hd:e'.bZ=false)(hx:e'.data=r.data){d':bP}(h6:d'.step=6)(h1:d'.aU=1)(hh:d'.head=i)(hn:d'.data=[]):
  Hold N hm (nV E i (some e')) r v i d' (.req (d'.ask i hm)):=by
 have hr:=W.Ef (by rw [hs];decide);have h0:=W.empty (W.st0.1 hs);refine .unlock (l:=[i]) h6 ?_;have:iQ r d'=⟨1,i,r.data⟩:=by simp only [iQ,h1,hh,hn,if_true]
 rw [this];exact Wf.alone hi (λj hj=> by rw [fC hj];exact h0 j) fP hb hf (by rw [hx,hr]) (.inl ⟨rfl,hd,hr⟩)
theorem Iu {l:List Int}(hk:d.aO=1)(W:Wf N E r v l)(hs:r.aU≠0)(h2:d.step=2)(hh:d.head=r.head):Hold N hm E r v i d (.req (d.ask i hm)):=
 .attach (l:=l) h2 hk (λh=> hs (W.st0.2 h)) (by rw [hh,W.head]) W
theorem Nw {l:List Int}{fl:Bool}(hi:0<=i/\i < N)(hE:E i=none)(hl:l≠[])(hh:d.head=hdI l (-1))(R:Rng N l)(C:Chn E i l (-1))(hm':∀j e,E j=some e->j∈l)(hc:∀j e,E j=some e->e.bZ=false)(hd:∀j e,E j=some e->e.data=v)(hf:fl=false->r.data=v)(hv:v≠[])
  {e':Ent} (hb:e'.back=-1) (hw:e'.fwd=d.head) (hdt:e'.bZ=false) (hx:e'.data=v) {d':bP} (h6:d'.step=6) (h1:d'.aU=1) (hdh:d'.head=i) (hn:d'.data=if fl then v else []):
  Hold N hm (nV E i (some e')) r v i d' (.req (d'.ask i hm)):=by
 have hil:i∉l:=λh=> by obtain⟨e,he⟩:=C.mem i h;rw [hE] at he;cases he
 have hr:(iQ r d').data=v:=by
  simp only [iQ,hn];cases fl with
  | true=> simp [hv]
  | false=> simp [hf rfl]
 refine .unlock (l:=i::l) h6 ⟨R.cons hi hil,⟨⟨e',fP,hb,by rw [hw,hh]⟩,C.ext λj hj=> fC λe=> hil (e ▸ hj)⟩,λj e hj=> ?_,hdh,.inr (.inl h1),?_,λh=> ?_,λj e hj=> ?_,λj e hj=> ?_,λ_=> hr⟩
 ·rcases jB hj with⟨h,_⟩ | ⟨_,h⟩
  ·simp [h]
  ·exact zba _ (hm' j e h)
 ·simp only [iQ,h1];simp
 ·simp only [iQ,h1] at h;cases h
 ·simp only [iQ,h1];rcases jB hj with⟨_,h⟩ | ⟨_,h⟩
  ·cases h;simp [hdt]
  ·simp [hc j e h]
 ·rcases jB hj with⟨_,h⟩ | ⟨_,h⟩
  ·cases h;exact hx
  ·exact hd j e h
theorem Wf.left {l:List Int}(W:Wf N E r v l):aiB N E v i l:=
 ⟨W.rng,W.ch.fch,λj e hj=> .inl (W.mem j e hj),W.data,λj e hj hd k hk=> by
  obtain⟨q,hq⟩:=W.st2 ((W.bZ j e hj).1 hd);have h1:=W.mem j e hj;cases hk':E k with
  | none=> exact absurd hk' hk
  | some e'=>
   have h2:=W.mem k e' hk';rw [hq] at h1 h2;simp only [zaj,zay,or_false] at h1 h2;rw [h1,h2]⟩
theorem aiC(hi0:0<=i){R:List Int}(L:aiB N E v i R)(hd1:E i≠none->d.data=v)(hd2:R=[]->d.data=v)(hn:d.next=hdI R (-1)){x:Int}(hx:x=match E i with
   | some own=> if d.next=i then own.fwd else d.next
   | none=> d.next) (hk:d.aO=2):
  (x≠-1/\∀d':bP,d'.step=3->d'.aO=2->d'.next=x->d'.data=d.data->Hold N hm E r v i d' (.req (d'.ask i hm)))∨(x=-1/\d.data=v/\∀j,j≠i->E j=none):=by
 have go:∀R':List Int,aiB N E v i R'->x=hdI R' (-1)->(R'≠[]->hdI R' (-1)≠i)->(R'=[]->d.data=v)->(x≠-1/\∀d':bP,d'.step=3->d'.aO=2->d'.next=x->d'.data=d.data->Hold N hm E r v i d' (.req (d'.ask i hm)))∨(x=-1/\d.data=v/\∀j,j≠i->E j=none):=by
  intro R' L' hx' hi' hd';cases R' with
  | nil=>
   refine .inr ⟨hx',hd' rfl,λj hj=> ?_⟩;cases h:E j with
   | none=> rfl
   | some e=> rcases L'.mem j e h with h' | h';cases h';exact absurd h' hj
  | cons k R'=>
   have h0:=(L'.rng.2 k (by simp)).1;refine .inl ⟨by rw [hx'];show k≠-1;omega,λd' a b c e=> ?_⟩;have hk':d'.next=k:=c.trans hx'
   exact .IQ (R:=R') a b (by rw [hk'];exact L') (by rw [hk'];exact hi' (by simp)) λh=> by rw [e];exact hd1 h
 cases hE:E i with
 | none=>
  rw [hE] at hx;simp only at hx;refine go R L (hx.trans hn) (λhR h=> ?_) hd2;obtain⟨e,he⟩:=L.ch.mem _ (L.rng.hd hR).1;rw [h,hE] at he;cases he
 | some own=>
  rw [hE] at hx;simp only at hx;have hdv:=hd1 (by rw [hE];simp);by_cases hni:d.next=i
  ·rw [if_pos hni] at hx;cases R with
   | nil=>
    have h1:d.next=-1:=hn
    omega
   | cons k R=>
    have hk':k=i:=by rw [<-hni,hn];rfl
    subst hk';obtain⟨⟨e,he,hf⟩,hc⟩:=L.ch;rw [hE] at he;cases he;have hkR:=(zaU.1 L.rng.1).1;refine go R ⟨⟨(zaU.1 L.rng.1).2,λj hj=> L.rng.2 j (by simp [hj])⟩,hc,λj e hj=> ?_,L.data,L.only⟩ (hx.trans hf) (λhR h=> ?_) λ_=> hdv
    ·rcases L.mem j e hj with h | h
     ·rcases zaj.1 h with h | h
      ·exact .inr h
      ·exact .inl h
     ·exact .inr h
    ·apply hkR
     rw [<-h];cases R with
     | nil=> exact absurd rfl hR
     | cons a R=> simp [hdI]
  ·rw [if_neg hni] at hx;exact go R L (hx.trans hn) (λhR h=> hni (hn.trans h)) λ_=> hdv
theorem Iw(hi:0<=i/\i < N)(h0:∀j,j≠i->E j=none){e':Ent}(hb:e'.back=-1)(hf:e'.fwd=-1)(hd:e'.bZ=true){d':bP}(h6:d'.step=6)(h1:d'.aU=2)(hh:d'.head=i):Hold N hm (nV E i (some e')) r e'.data i d' (.req (d'.ask i hm)):=by
 refine .unlock (l:=[i]) h6 ?_;have:iQ r d'=⟨2,i,if d'.data=[] then r.data else d'.data⟩:=by simp only [iQ,h1,hh]
 rw [this];exact Wf.alone hi (λj hj=> by rw [fC hj];exact h0 j hj) fP hb hf rfl (.inr ⟨rfl,hd⟩)
theorem Ny {l:List Int}(W:Wf N E r v l)(h6:d.step=6)(hs:d.aU=r.aU)(hh:d.head=r.head)(hn:d.data=[]):Hold N hm E r v i d (.req (d.ask i hm)):=by
 refine .unlock (l:=l) h6 ?_;have:iQ r d=r:=by simp only [iQ,hs,hh,hn,if_true]
 rw [this];exact W
theorem Wf.split {l:List Int}(W:Wf N E r v l){e:Ent}(he:E i=some e):∃pre post,l=pre++i::post/\e.back=nM pre (-1)/\e.fwd=hdI post (-1):=by
 obtain⟨pre,post,rfl⟩:=List.append_of_mem (W.mem i e he);obtain⟨_,⟨⟨e',h1,h2,h3⟩,_⟩⟩:=qm.1 W.ch;rw [he] at h1;cases h1;exact⟨pre,post,rfl,h2,h3⟩
theorem Wf.mid {pre post:List Int}(W:Wf N E r v (pre++i::post)){e:Ent}(he:E i=some e)(hne:pre≠[]∨post≠[]):Mid N E r v i pre post:=by
 have h2:r.aU≠2:=λh=> by
  obtain⟨q,hq⟩:=W.st2 h;have:=congrArg List.length hq;simp only [zan,zal,zam] at this;rcases hne with h | h
  ·have:=zdx.2 h;omega
  ·have:=zdx.2 h;omega
 have h1:r.aU=1:=by
  rcases W.st with h | h | h
  ·have:=W.st0.1 h;simp at this
  ·exact h
  ·exact absurd h h2
 exact⟨W.rng,W.mem,⟨e,he⟩,W.head,h1,λj e' hj=> by
  cases hd:e'.bZ with
  | false=> rfl
  | true=> exact absurd ((W.bZ j e' hj).1 hd) h2,W.data,W.Ef h2⟩
theorem IU {l:List Int}(W:Wf N E r v l)(hv:v≠[]){e:Ent}(he:E i=some e)(hb:e.back=-1)(hf:e.fwd=-1)(h6:d.step=6)(hs:d.aU=0)(hh:d.head=-1)(hn:d.data=if e.bZ then e.data else []):Hold N hm (nV E i none) r v i d (.req (d.ask i hm)):=by
 obtain⟨pre,post,rfl,h1,h2⟩:=W.split he;obtain⟨p1,p2,p3,p4,p5,p6⟩:=W.rng.mid;have e1:pre=[]:=Classical.byContradiction λh=> by have:=p4.last h;omega
 have e2:post=[]:=Classical.byContradiction λh=> by have:=(p5.hd h).2;omega
 subst e1;subst e2;have none_:∀j,nV E i none j=none:=λj=> by
  cases hj:nV E i none j with
  | none=> rfl
  | some e'=>
   rcases jB hj with⟨_,h⟩ | ⟨hji,h⟩
   ·cases h
   ·have:=W.mem j e' h;simp only [zaL,zaj,zay,or_false] at this;exact absurd this hji
 have hd:(iQ r d).data=v:=by
  simp only [iQ,hn];cases hdt:e.bZ with
  | true=> simp [W.data i e he,hv]
  | false=>
   have:r.aU≠2:=λh=> by rw [(W.bZ i e he).2 h] at hdt;cases hdt
   simp [W.Ef this]
 refine .unlock (l:=[]) h6 ⟨⟨zc5,λj hj=> by cases hj⟩,trivial,λj e' hj=> ?_,hh,.inl hs,by simp [iQ,hs],λh=> ?_,λj e' hj=> ?_,λj e' hj=> ?_,λ_=> hd⟩
 ·rw [none_ j] at hj;cases hj
 ·simp only [iQ,hs] at h;cases h
 ·rw [none_ j] at hj;cases hj
 ·rw [none_ j] at hj;cases hj
theorem IV {l:List Int}(W:Wf N E r v l){e:Ent}(he:E i=some e)(hb:e.back=-1)(hf:e.fwd≠-1)(h5:d.step=5)(hk:d.aO=3)(hh:d.head=-1)(hn:d.next=e.fwd)(ht:d.told=r.head):Hold N hm E r v i d (.req (d.ask i hm)):=by
 obtain⟨pre,post,rfl,h1,h2⟩:=W.split he;obtain⟨p1,p2,p3,p4,p5,p6⟩:=W.rng.mid;have e1:pre=[]:=Classical.byContradiction λh=> by have:=p4.last h;omega
 subst e1;have hp:post≠[]:=λh=> hf (by rw [h2,h];rfl);exact .behind (pre:=[]) (post:=post) h5 hk (W.mid he (.inr hp)) hp trivial W.ch.2 hh (hn.trans h2) ht
theorem IW {l:List Int}(W:Wf N E r v l){e:Ent}(he:E i=some e)(hb:e.back≠-1)(h4:d.step=4)(hk:d.aO=3)(hh:d.head=e.back)(hn:d.next=e.fwd)(ht:d.told=r.head):Hold N hm E r v i d (.req (d.ask i hm)):=by
 obtain⟨pre,post,rfl,h1,h2⟩:=W.split he;have hp:pre≠[]:=λh=> hb (by rw [h1,h];rfl);exact .front (pre:=pre) (post:=post) h4 hk (W.mid he (.inl hp)) hp W.ch (hh.trans h1) (hn.trans h2) ht
theorem Mid.out {pre post:List Int}(M:Mid N E r v i pre post)(hne:pre++post≠[])(C1:Chn E (-1) pre (hdI post (-1)))(C2:Chn E (nM pre (-1)) post (-1))(h6:d.step=6)(hs:d.aU=1)(hh:d.head=hdI (pre++post) (-1))(hn:d.data=[]):Hold N hm (nV E i none) r v i d (.req (d.ask i hm)):=by
 obtain⟨p1,p2,p3,p4,p5,p6⟩:=M.rng.mid;have hu:iQ r d=⟨1,hdI (pre++post) (-1),r.data⟩:=by simp only [iQ,hs,hh,hn,if_true]
 refine .unlock (l:=pre++post) h6 ?_;rw [hu];refine⟨p3,qm.2 ⟨C1.ext λj hj=> fC λe=> p1 (e ▸ hj),C2.ext λj hj=> fC λe=> p2 (e ▸ hj)⟩,λj e hj=> ?_,rfl,.inr (.inl rfl),by simpa using hne,λh=> (by cases h),λj e hj=> ?_,λj e hj=> ?_,λ_=> M.Ef⟩
 ·rcases jB hj with⟨_,h⟩ | ⟨hji,h⟩
  ·cases h
  ·have:=M.mem j e h;simp only [zaM,zaj] at this ⊢;rcases this with h | h | h
   ·exact .inl h
   ·exact absurd h hji
   ·exact .inr h
 ·rcases jB hj with⟨_,h⟩ | ⟨_,h⟩
  ·cases h
  ·simp [M.bZ j e h]
 ·rcases jB hj with⟨_,h⟩ | ⟨_,h⟩
  ·cases h
  ·exact M.data j e h
theorem Iy {pre post:List Int}(M:Mid N E r v i pre post)(hp:pre≠[])(C1:Chn E (-1) pre (hdI post (-1)))(hq:post=[])(h6:d.step=6)(hs:d.aU=1)(hh:d.head=r.head)(hn:d.data=[]):Hold N hm (nV E i none) r v i d (.req (d.ask i hm)):=by
 subst hq;refine M.out (by simpa using hp) C1 trivial h6 hs ?_ hn;rw [hh,M.head,za8];cases pre with
 | nil=> exact absurd rfl hp
 | cons a pre=> rfl
theorem IX {pre post:List Int}(M:Mid N E r v i pre post)(hp:post≠[])(C1:Chn E (-1) pre (hdI post (-1)))(C2:Chn E i post (-1))(h5:d.step=5)(hk:d.aO=3)(hh:d.head=nM pre (-1))(hn:d.next=hdI post (-1))(ht:d.told=r.head):Hold N hm E r v i d (.req (d.ask i hm)):=
 .behind (pre:=pre) (post:=post) h5 hk M hp C1 C2 hh hn ht
theorem D9 {pre post:List Int}(M:Mid N E r v i pre post)(hp:post≠[])(C1:Chn E (-1) pre (hdI post (-1)))(C2:Chn E (nM pre (-1)) post (-1)){h0 nx:Int}(hh0:h0=nM pre (-1))(hnx:nx=hdI post (-1))(h6:d.step=6)(hs:d.aU=1)(hh:d.head=if h0=-1 then nx else r.head)(hn:d.data=[]):Hold N hm (nV E i none) r v i d (.req (d.ask i hm)):=by
 obtain⟨p1,p2,p3,p4,p5,p6⟩:=M.rng.mid;refine M.out (by simp [hp]) C1 C2 h6 hs ?_ hn;cases pre with
 | nil=>
  have:h0=-1:=hh0;rw [hh,if_pos this,hnx];rfl
 | cons a pre=>
  have h1:=p4.last (l:=a::pre) (by simp);rw [hh,if_neg (by omega),M.head];rfl
end
structure Abs where
 ent:Int->uf
 row:Int->Row
 own:Int->Int
 ws:Int->List (Int × Int)
 aI:Int->bP
 msg:Int->Out
 val:Int->List Int
def Abs.holds(c:Cfg)(a:Abs)(L:Int):Prop:=Hold c.aH (c.bg L) (a.ent L) (a.row L) (a.val L) (a.own L) (a.aI (a.own L)) (a.msg (a.own L))
def agu(c:Cfg)(a:Abs)(L:Int):Prop:=
 (a.own L=-1/\∃l,Wf c.aH (a.ent L) (a.row L) (a.val L) l)∨(0<=a.own L/\a.own L < c.aH/\(a.aI (a.own L)).aj=L/\a.holds c L)
def am8(c:Cfg)(a:Abs)(L:Int):Prop:=
 ((a.ws L).map (·.1)).Nodup/\∀w∈a.ws L,0<=w.1/\w.1 < c.aH/\a.msg w.1=.wait/\(a.aI w.1).aj=L/\(a.aI w.1).id=w.2/\(a.aI w.1).step=1
def ad7(c:Cfg)(d:bP)(i:Int):Pkt:=⟨8,c.bg d.aj,i,d.id,d.aj,0,0,false,[]⟩
def aru(c:Cfg)(a:Abs)(i:Int):Prop:=(a.aI i).step=1/\a.own (a.aI i).aj≠i/\(a.msg i=.req ((a.aI i).ask i (c.bg (a.aI i).aj))∨(a.msg i=.wait/\(i,(a.aI i).id)∈a.ws (a.aI i).aj))
def apU(c:Cfg)(a:Abs)(i:Int):Prop:=(a.aI i).step=6/\a.own (a.aI i).aj≠i/\a.msg i=.ans (ad7 c (a.aI i) i)
structure aiD(c:Cfg)(a:Abs)(i:Int):Prop where
 step:(a.aI i).step≠0
 aj:0<=(a.aI i).aj/\(a.aI i).aj < c.aY
 aO:1<=(a.aI i).aO/\(a.aI i).aO<=3
 idr:0<=(a.aI i).id/\(a.aI i).id < 4096
 miss:(a.aI i).aO=1->(a.aI i).step=1∨(a.aI i).step=2->a.ent (a.aI i).aj i=none
 at_:aru c a i∨a.own (a.aI i).aj=i∨apU c a i
def agv(c:Cfg)(a:Abs)(i:Int):Prop:=((a.aI i).step=0/\a.msg i=.idle)∨aiD c a i
structure nX(c:Cfg)(a:Abs):Prop where
 aj:∀L,0<=L->L < c.aY->agu c a L
 bD:∀i,0<=i->i < c.aH->agv c a i
 ws:∀L,am8 c a L
 val:∀L,0<=L->L < c.aY->a.val L≠[]
 out:∀L,¬(0<=L/\L < c.aY)->a.own L=-1
section
variable {c:Cfg}{a a':Abs}{i L:Int}
theorem Hold.Nz {N hm:Int}{E:uf}{r:Row}{v:List Int}{i:Int}{d:bP}{o:Out}(h:Hold N hm E r v i d o):d.step≠0:=by
 cases h <;> omega
theorem Hold.abu {N hm:Int}{E:uf}{r:Row}{v:List Int}{i:Int}{d:bP}{o:Out}(h:Hold N hm E r v i d o):(∃p,o=.req p/\d.step≠1)∨∃p,o=.ans p:=by
 cases h
 all_goals first | exact .inr ⟨_,rfl⟩ | exact .inl ⟨_,rfl,by omega⟩
theorem nX.holder(I:nX c a)(hL:0<=L/\L < c.aY)(h:a.own L=i)(hi:0<=i):(a.aI i).aj=L/\Hold c.aH (c.bg L) (a.ent L) (a.row L) (a.val L) i (a.aI i) (a.msg i):=by
 rcases I.aj L hL.1 hL.2 with⟨h1,_⟩ | ⟨_,_,h3,h4⟩
 ·omega
 ·unfold Abs.holds at h4;rw [h] at h3 h4;exact⟨h3,h4⟩
theorem nX.upd(I:nX c a)(i L:Int)(hi:0<=i)(e1:∀L',L'≠L->a'.ent L'=a.ent L')(r1:∀L',L'≠L->a'.row L'=a.row L')(o1:∀L',L'≠L->a'.own L'=a.own L')(w1:∀L',L'≠L->a'.ws L'=a.ws L')(v1:∀L',L'≠L->a'.val L'=a.val L')
  (d1:∀j,j≠i->a'.aI j=a.aI j) (m1:∀j,j≠i->a'.msg j=a.msg j) (e2:∀j,j≠i->a.ent L j=none->a'.ent L j=none)
  (o2:∀j,0<=j->j≠i->(a'.own L=j↔a.own L=j)) (w2:∀j k,j≠i->(j,k)∈a.ws L->(j,k)∈a'.ws L)
  (h6:∀L',L'≠L->a.own L'≠i) (h7:∀L',L'≠L->∀k,(i,k)∉a.ws L') (hL:0<=L/\L < c.aY)
  (nl:agu c a' L) (nn:agv c a' i) (nw:am8 c a' L) (nv:a'.val L≠[]):nX c a':=by
 refine⟨λL' h0 h1=> ?_,λj h0 h1=> ?_,λL'=> ?_,λL' h0 h1=> ?_,λL' h=> ?_⟩
 ·by_cases h:L'=L
  ·rw [h];exact nl
  ·have hne:=h6 L' h;rcases I.aj L' h0 h1 with⟨a1,l,a2⟩ | ⟨a1,a2,a3,a4⟩
   ·exact .inl ⟨by rw [o1 L' h];exact a1,l,by rw [e1 L' h,r1 L' h,v1 L' h];exact a2⟩
   ·refine .inr ⟨by rw [o1 L' h];exact a1,by rw [o1 L' h];exact a2,by rw [o1 L' h,d1 _ hne];exact a3,?_⟩;unfold Abs.holds at a4 ⊢;rw [o1 L' h,d1 _ hne,m1 _ hne,e1 L' h,r1 L' h,v1 L' h];exact a4
 ·by_cases h:j=i
  ·rw [h];exact nn
  ·rcases I.bD j h0 h1 with⟨a1,a2⟩ | O
   ·exact .inl ⟨by rw [d1 j h];exact a1,by rw [m1 j h];exact a2⟩
   ·have od:∀M:Int,a'.own M=j↔a.own M=j:=λM=> by
     by_cases hM:M=L
     ·rw [hM];exact o2 j h0 h
     ·rw [o1 M hM]
    refine .inr ⟨by rw [d1 j h];exact O.step,by rw [d1 j h];exact O.aj,by rw [d1 j h];exact O.aO,by rw [d1 j h];exact O.idr,?_,?_⟩
    ·rw [d1 j h];intro hk hs;have:=O.miss hk hs;by_cases hM:(a.aI j).aj=L
     ·rw [hM] at this ⊢;exact e2 j h this
     ·rw [e1 _ hM];exact this
    ·rcases O.at_ with⟨b1,b2,b3⟩ | b | ⟨b1,b2,b3⟩
     ·refine .inl ⟨by rw [d1 j h];exact b1,?_,?_⟩
      ·rw [d1 j h];exact λe=> b2 ((od _).1 e)
      ·rw [d1 j h,m1 j h];rcases b3 with b3 | ⟨b3,b4⟩
       ·exact .inl b3
       ·refine .inr ⟨b3,?_⟩;by_cases hM:(a.aI j).aj=L
        ·rw [hM] at b4 ⊢;exact w2 j _ h b4
        ·rw [w1 _ hM];exact b4
     ·exact .inr (.inl (by rw [d1 j h];exact(od _).2 b))
     ·refine .inr (.inr ⟨by rw [d1 j h];exact b1,?_,by rw [m1 j h,d1 j h];exact b3⟩);rw [d1 j h];exact λe=> b2 ((od _).1 e)
 ·by_cases h:L'=L
  ·rw [h];exact nw
  ·obtain⟨b1,b2⟩:=I.ws L';refine⟨by rw [w1 L' h];exact b1,λw hw=> ?_⟩;rw [w1 L' h] at hw;have hne:w.1≠i:=λe=> h7 L' h w.2 (by rw [<-e];exact hw);rw [d1 _ hne,m1 _ hne];exact b2 w hw
 ·by_cases h:L'=L
  ·rw [h];exact nv
  ·rw [v1 L' h];exact I.val L' h0 h1
 ·by_cases hM:L'=L
  ·rw [hM] at h;exact absurd hL h
  ·rw [o1 L' hM];exact I.out L' h
theorem nX.only(I:nX c a)(hi:0<=i)(L':Int)(h:a.own L'=i):(a.aI i).aj=L'/\(a.aI i).step≠0:=by
 by_cases hL:0<=L'/\L' < c.aY
 ·obtain⟨h1,h2⟩:=I.holder hL h hi;exact⟨h1,h2.Nz⟩
 ·have:=I.out L' hL;omega
theorem nX.aiE(I:nX c a)(hi:0<=i)(h:(a.aI i).aj=L∨(a.aI i).step=0):∀L',L'≠L->a.own L'≠i:=λL' hne e=> by
 obtain⟨h1,h2⟩:=I.only hi L' e;rcases h with h | h
 ·exact hne (h1.symm.trans h)
 ·exact h2 h
theorem nX.ws7(I:nX c a)(h:(a.aI i).aj=L∨(a.aI i).step=0):∀L',L'≠L->∀k,(i,k)∉a.ws L':=λL' hne k hk=> by
 obtain⟨_,_,_,h4,_,h6⟩:=(I.ws L').2 _ hk;rcases h with h | h
 ·exact hne (h4.symm.trans h)
 ·simp only at h6;omega
theorem am8.same(W:am8 c a L)(hw:a'.ws L=a.ws L)(h:∀k,(i,k)∉a.ws L)(d1:∀j,j≠i->a'.aI j=a.aI j)(m1:∀j,j≠i->a'.msg j=a.msg j):am8 c a' L:=by
 obtain⟨b1,b2⟩:=W;refine⟨by rw [hw];exact b1,λw hx=> ?_⟩;rw [hw] at hx;have hne:w.1≠i:=λe=> h w.2 (by rw [<-e];exact hx);rw [d1 _ hne,m1 _ hne];exact b2 w hx
theorem nX.QS(I:nX c a)(h:a.msg i≠.wait):∀L k,(i,k)∉a.ws L:=λL k hk=> h ((I.ws L).2 _ hk).2.2.1
def dH {α:Type}(f:Int->α)(i:Int)(x:α):Int->α:=λj=> if j=i then x else f j
theorem aJ {α:Type}{f:Int->α}{i:Int}{x:α}:dH f i x i=x:=by simp [dH]
theorem aS {α:Type}{f:Int->α}{i j:Int}{x:α}(h:j≠i):dH f i x j=f j:=by simp [dH,h]
theorem nX.begin_(I:nX c a)(hi:0<=i/\i < c.aH)(h0:(a.aI i).step=0){k id:Int}(hk:1<=k/\k<=3)(hid:0<=id/\id < 4096)(hL:0<=L/\L < c.aY)(hm:k=1->a.ent L i=none):
  nX c { a with aI:=dH a.aI i (.begin k L id),msg:=dH a.msg i (.req ((bP.begin k L id).ask i (c.bg L))) }:=by
 have hown:∀L',a.own L'≠i:=λL' e=> (I.only hi.1 L' e).2 h0;have am9:a.msg i≠.wait:=λe=> by
  rcases I.bD i hi.1 hi.2 with⟨_,h⟩ | O
  ·rw [h] at e;cases e
  ·exact O.step h0
 have hws:=I.QS am9;refine I.upd i L hi.1 (λ_ _=> rfl) (λ_ _=> rfl) (λ_ _=> rfl) (λ_ _=> rfl) (λ_ _=> rfl) (λj hj=> aS hj) (λj hj=> aS hj) (λ_ _ h=> h) (λ_ _ _=> Iff.rfl) (λ_ _ _ h=> h) (λL' _=> hown L') (λL' _=> hws L') hL ?_ ?_ ?_ (I.val L hL.1 hL.2)
 ·rcases I.aj L hL.1 hL.2 with h | ⟨b1,b2,b3,b4⟩
  ·exact .inl h
  ·refine .inr ⟨b1,b2,?_,?_⟩
   ·show(dH a.aI i _ (a.own L)).aj=L;rw [aS (hown L)];exact b3
   ·unfold Abs.holds at b4 ⊢;show Hold _ _ _ _ _ _ (dH a.aI i _ (a.own L)) (dH a.msg i _ (a.own L));rw [aS (hown L),aS (hown L)];exact b4
 ·have hd:dH a.aI i (.begin k L id) i=bP.begin k L id:=aJ;refine .inr ⟨?_,?_,?_,by show 0<=(dH a.aI i _ i).id/\(dH a.aI i _ i).id < 4096;rw [hd];exact hid,?_,.inl ⟨?_,?_,.inl ?_⟩⟩
  ·show(dH a.aI i _ i).step≠0;rw [hd];show(1:Int)≠0;decide
  ·show 0<=(dH a.aI i _ i).aj/\(dH a.aI i _ i).aj < c.aY;rw [hd];exact hL
  ·show 1<=(dH a.aI i _ i).aO/\(dH a.aI i _ i).aO<=3;rw [hd];exact hk
  ·show(dH a.aI i _ i).aO=1->(dH a.aI i _ i).step=1∨(dH a.aI i _ i).step=2->a.ent (dH a.aI i _ i).aj i=none;rw [hd];exact λh _=> hm h
  ·show(dH a.aI i _ i).step=1;rw [hd];rfl
  ·show a.own (dH a.aI i _ i).aj≠i;exact hown _
  ·show dH a.msg i _ i=.req ((dH a.aI i _ i).ask i (c.bg (dH a.aI i _ i).aj));rw [hd,aJ];rfl
 ·exact(I.ws L).same (i:=i) rfl (hws L) (λj hj=> aS hj) (λj hj=> aS hj)
theorem kR {d:bP}{hm:Int}(h:1<=d.step/\d.step<=6):(d.ask i hm).aO=zU d.step/\(d.ask i hm).src=i/\(d.ask i hm).id=d.id/\(d.ask i hm).aj=d.aj:=by
 have:d.step=1∨d.step=2∨d.step=3∨d.step=4∨d.step=5∨d.step=6:=by omega
 unfold bP.ask zU;rcases this with h | h | h | h | h | h <;> simp [h]
theorem Hold.req {N hm:Int}{E:uf}{r:Row}{v:List Int}{d:bP}{p:Pkt}(h:Hold N hm E r v i d (.req p)):p=d.ask i hm/\2<=d.step/\d.step<=6:=by
 cases h <;> exact⟨rfl,by omega,by omega⟩
theorem Hold.ans {N hm:Int}{E:uf}{r:Row}{v:List Int}{d:bP}{p:Pkt}(h:Hold N hm E r v i d (.ans p)):p.dst=i/\p.id=d.id/\p.aj=d.aj/\p.aO=BN (zU d.step)/\1<=d.step/\d.step<=5:=by
 cases h
 all_goals (rename_i hs;first | skip)
 all_goals (refine⟨rfl,rfl,rfl,?_,by omega,by omega⟩;simp [*,zU,BN])
theorem Hold.unl {N hm:Int}{E:uf}{r:Row}{v:List Int}{d:bP}{p:Pkt}(h:Hold N hm E r v i d (.req p))(h6:d.step=6):∃l,Wf N E (iQ r d) v l:=by
 cases h
 all_goals first | (exfalso;omega) | exact⟨_,by assumption⟩
theorem nX.req(I:nX c a)(hi:0<=i/\i < c.aH){p:Pkt}(hp:a.msg i=.req p):
  aiD c a i/\p=(a.aI i).ask i (c.bg p.aj)/\(a.aI i).aj=p.aj/\(1<=(a.aI i).step/\(a.aI i).step<=6)/\
  (((a.aI i).step=1/\a.own p.aj≠i)∨(2<=(a.aI i).step/\a.own p.aj=i/\Hold c.aH (c.bg p.aj) (a.ent p.aj) (a.row p.aj) (a.val p.aj) i (a.aI i) (.req p))):=by
 rcases I.bD i hi.1 hi.2 with⟨_,h⟩ | O
 ·rw [h] at hp;cases hp
 ·rcases O.at_ with⟨b1,b2,b3⟩ | b | ⟨_,_,b3⟩
  ·rcases b3 with b3 | ⟨b3,_⟩
   ·rw [b3] at hp;have hp:=(Out.req.inj hp).symm;have hl:p.aj=(a.aI i).aj:=by rw [hp];exact(kR (by omega)).2.2.2
    rw [hl];exact⟨O,hp,rfl,by omega,.inl ⟨b1,b2⟩⟩
   ·rw [b3] at hp;cases hp
  ·obtain⟨_,H⟩:=I.holder O.aj b hi.1;rw [hp] at H;obtain⟨h1,h2,h3⟩:=H.req;have hl:p.aj=(a.aI i).aj:=by rw [h1];exact(kR (by omega)).2.2.2
   rw [hl];exact⟨O,h1,rfl,by omega,.inr ⟨h2,b,H⟩⟩
  ·rw [b3] at hp;cases hp
theorem nX.lock(I:nX c a)(hi:0<=i/\i < c.aH){p:Pkt}(hp:a.msg i=.req p)(hk:p.aO=1)(hf:a.own p.aj=-1):
  nX c { a with own:=dH a.own p.aj i,msg:=dH a.msg i (.ans ⟨7,c.bg p.aj,i,p.id,p.aj,(a.row p.aj).head,(a.row p.aj).aU,false,(a.row p.aj).data⟩) }:=by
 obtain⟨O,h1,h2,h3,h4⟩:=I.req hi hp;have hpk:p.aO=zU (a.aI i).step:=by rw [h1];exact(kR h3).1
 have hpi:p.id=(a.aI i).id:=by rw [h1];exact(kR h3).2.2.1
 have hst:(a.aI i).step=1:=by
  rcases h4 with h | ⟨h,h',_⟩
  ·exact h.1
  ·omega
 have hL:=O.aj;rw [h2] at hL;have hws:=I.QS (i:=i) (by rw [hp];exact λe=> by cases e);have hms:dH a.msg i (.ans ⟨7,c.bg p.aj,i,p.id,p.aj,(a.row p.aj).head,(a.row p.aj).aU,false,(a.row p.aj).data⟩) i=.ans ⟨7,c.bg p.aj,i,p.id,p.aj,(a.row p.aj).head,(a.row p.aj).aU,false,(a.row p.aj).data⟩:=aJ;refine I.upd i p.aj hi.1 (λ_ _=> rfl) (λ_ _=> rfl) (λ_ h=> aS h) (λ_ _=> rfl) (λ_ _=> rfl) (λ_ _=> rfl) (λj hj=> aS hj) (λ_ _ h=> h) (λj h0 hj=> ?_) (λ_ _ _ h=> h) (I.aiE hi.1 (.inl h2)) (λL' _=> hws L') hL ?_ ?_ ?_ (I.val _ hL.1 hL.2)
 ·show dH a.own p.aj i p.aj=j↔_;rw [aJ,hf];exact⟨λe=> absurd e.symm hj,λe=> by omega⟩
 ·have ho:dH a.own p.aj i p.aj=i:=aJ;refine .inr ?_;show 0<=dH a.own p.aj i p.aj/\dH a.own p.aj i p.aj < c.aH/\(a.aI (dH a.own p.aj i p.aj)).aj=p.aj/\Hold _ _ _ _ _ (dH a.own p.aj i p.aj) (a.aI (dH a.own p.aj i p.aj)) (dH a.msg i _ (dH a.own p.aj i p.aj));rw [ho,hms];refine⟨hi.1,hi.2,h2,?_⟩;rcases I.aj p.aj hL.1 hL.2 with⟨_,l,W⟩ | ⟨b1,_⟩
  ·have:=Hold.granted (hm:=c.bg p.aj) (i:=i) (d:=a.aI i) hst W;rw [h2] at this;rw [hpi];exact this
  ·omega
 ·refine .inr ⟨O.step,O.aj,O.aO,O.idr,O.miss,.inr (.inl ?_)⟩;show dH a.own p.aj i (a.aI i).aj=i;rw [h2,aJ]
 ·exact(I.ws _).same (i:=i) rfl (hws _) (λ_ _=> rfl) (λj hj=> aS hj)
theorem nX.wait(I:nX c a)(hi:0<=i/\i < c.aH){p:Pkt}(hp:a.msg i=.req p)(hk:p.aO=1):
  nX c { a with ws:=dH a.ws p.aj (a.ws p.aj++[(i,p.id)]),msg:=dH a.msg i .wait }:=by
 obtain⟨O,h1,h2,h3,h4⟩:=I.req hi hp;have hpk:p.aO=zU (a.aI i).step:=by rw [h1];exact(kR h3).1
 have hpi:p.id=(a.aI i).id:=by rw [h1];exact(kR h3).2.2.1
 have hst:(a.aI i).step=1/\a.own p.aj≠i:=by
  rcases h4 with h | ⟨h,_,h'⟩
  ·exact h
  ·exfalso;have:(a.aI i).step=2∨(a.aI i).step=3∨(a.aI i).step=4∨(a.aI i).step=5∨(a.aI i).step=6:=by omega
   rw [hk] at hpk;rcases this with h | h | h | h | h <;> simp [h,zU] at hpk
 have hL:=O.aj;rw [h2] at hL;have hws:=I.QS (i:=i) (by rw [hp];exact λe=> by cases e);refine I.upd i p.aj hi.1 (λ_ _=> rfl) (λ_ _=> rfl) (λ_ _=> rfl) (λ_ h=> aS h) (λ_ _=> rfl) (λ_ _=> rfl) (λj hj=> aS hj) (λ_ _ h=> h) (λj h0 hj=> Iff.rfl) (λj k hj h=> ?_) (I.aiE hi.1 (.inl h2)) (λL' _=> hws L') hL ?_ ?_ ?_ (I.val _ hL.1 hL.2)
 ·show(j,k)∈dH a.ws p.aj _ p.aj;rw [aJ];exact zcy _ h
 ·rcases I.aj p.aj hL.1 hL.2 with h | ⟨b1,b2,b3,b4⟩
  ·exact .inl h
  ·refine .inr ⟨b1,b2,b3,?_⟩;unfold Abs.holds at b4 ⊢;show Hold _ _ _ _ _ _ _ (dH a.msg i _ (a.own p.aj));rw [aS hst.2];exact b4
 ·refine .inr ⟨O.step,O.aj,O.aO,O.idr,O.miss,.inl ⟨hst.1,?_,.inr ⟨aJ,?_⟩⟩⟩
  ·show a.own (a.aI i).aj≠i;rw [h2];exact hst.2
  ·show(i,(a.aI i).id)∈dH a.ws p.aj _ (a.aI i).aj;rw [h2,aJ,hpi];simp
 ·obtain⟨b1,b2⟩:=I.ws p.aj;have hw:dH a.ws p.aj (a.ws p.aj++[(i,p.id)]) p.aj=a.ws p.aj++[(i,p.id)]:=aJ;refine⟨?_,λw hx=> ?_⟩
  ·show((dH a.ws p.aj _ p.aj).map (·.1)).Nodup;rw [hw,zbo,zbZ];refine⟨b1,by simp,λx hx y hy=> ?_⟩;simp only [zaA,zbS,zaj,zay,or_false] at hy;obtain⟨w,hw1,rfl⟩:=zaG.1 hx;rw [hy];exact λe=> hws p.aj w.2 (by rw [<-e];exact hw1)
  ·replace hx:w∈dH a.ws p.aj (a.ws p.aj++[(i,p.id)]) p.aj:=hx
   rw [hw] at hx;show 0<=w.1/\w.1 < c.aH/\dH a.msg i .wait w.1=.wait/\(a.aI w.1).aj=p.aj/\(a.aI w.1).id=w.2/\(a.aI w.1).step=1;rcases zaM.1 hx with hx | hx
   ·have hne:w.1≠i:=λe=> hws p.aj w.2 (by rw [<-e];exact hx);rw [aS hne];exact b2 w hx
   ·simp only [zaj,zay,or_false] at hx;subst hx;exact⟨hi.1,hi.2,aJ,h2,hpi.symm,hst.1⟩
theorem nX.grant(I:nX c a)(hL:0<=L/\L < c.aY)(hf:a.own L=-1){w:Int × Int}{ws:List (Int × Int)}(hw:a.ws L=w::ws):
  (0<=w.1/\w.1 < c.aH)/\a.msg w.1=.wait/\
  nX c { a with own:=dH a.own L w.1,ws:=dH a.ws L ws,msg:=dH a.msg w.1 (.ans ⟨7,c.bg L,w.1,w.2,L,(a.row L).head,(a.row L).aU,false,(a.row L).data⟩) }:=by
 obtain⟨b1,b2⟩:=I.ws L;obtain⟨hi0,hi1,hmw,hdl,hid,hst⟩:=b2 w (by rw [hw];simp);rw [hw] at b1;simp only [zaA,zaU] at b1;have nws:∀k,(w.1,k)∉ws:=λk hk=> b1.1 (zaG.2 ⟨_,hk,rfl⟩);refine⟨⟨hi0,hi1⟩,hmw,?_⟩;have O:aiD c a w.1:=by
  rcases I.bD w.1 hi0 hi1 with⟨h,_⟩ | O
  ·omega
  ·exact O
 refine I.upd w.1 L hi0 (λ_ _=> rfl) (λ_ _=> rfl) (λ_ h=> aS h) (λ_ h=> aS h) (λ_ _=> rfl) (λ_ _=> rfl) (λj hj=> aS hj) (λ_ _ h=> h) (λj h0 hj=> ?_) (λj k hj h=> ?_) (I.aiE hi0 (.inl hdl)) (I.ws7 (.inl hdl)) hL ?_ ?_ ?_ (I.val _ hL.1 hL.2)
 ·show dH a.own L w.1 L=j↔_;rw [aJ,hf];exact⟨λe=> absurd e.symm hj,λe=> by omega⟩
 ·show(j,k)∈dH a.ws L ws L;rw [aJ];rw [hw] at h;rcases zaj.1 h with h | h
  ·exact absurd (congrArg Prod.fst h) hj
  ·exact h
 ·have ho:dH a.own L w.1 L=w.1:=aJ;refine .inr ?_;show 0<=dH a.own L w.1 L/\dH a.own L w.1 L < c.aH/\(a.aI (dH a.own L w.1 L)).aj=L/\Hold _ _ _ _ _ (dH a.own L w.1 L) (a.aI (dH a.own L w.1 L)) (dH a.msg w.1 _ (dH a.own L w.1 L));rw [ho,aJ];refine⟨hi0,hi1,hdl,?_⟩;rcases I.aj L hL.1 hL.2 with⟨_,l,W⟩ | ⟨b1,_⟩
  ·have:=Hold.granted (hm:=c.bg L) (i:=w.1) (d:=a.aI w.1) hst W;rw [hdl,hid] at this;exact this
  ·omega
 ·refine .inr ⟨O.step,O.aj,O.aO,O.idr,O.miss,.inr (.inl ?_)⟩;show dH a.own L w.1 (a.aI w.1).aj=w.1;rw [hdl,aJ]
 ·have hw':dH a.ws L ws L=ws:=aJ;refine⟨?_,λx hx=> ?_⟩
  ·show((dH a.ws L ws L).map (·.1)).Nodup;rw [hw'];exact b1.2
  ·replace hx:x∈dH a.ws L ws L:=hx
   rw [hw'] at hx;have hne:x.1≠w.1:=λe=> nws x.2 (by rw [<-e];exact hx);show 0<=x.1/\x.1 < c.aH/\dH a.msg w.1 _ x.1=.wait/\_;rw [aS hne];exact b2 x (by rw [hw];simp [hx])
theorem nX.unlock(I:nX c a)(hi:0<=i/\i < c.aH){p:Pkt}(hp:a.msg i=.req p)(hk:p.aO=2):
  a.own p.aj=i/\(p.aU=0∨p.aU=1∨p.aU=2)/\(∃l,Wf c.aH (a.ent p.aj) (iQ (a.row p.aj) (a.aI i)) (a.val p.aj) l)/\p=(a.aI i).ask i (c.bg p.aj)/\(a.aI i).step=6/\
  nX c { a with row:=dH a.row p.aj (iQ (a.row p.aj) (a.aI i)),own:=dH a.own p.aj (-1),msg:=dH a.msg i (.ans ⟨8,c.bg p.aj,i,p.id,p.aj,0,0,false,[]⟩) }:=by
 obtain⟨O,h1,h2,h3,h4⟩:=I.req hi hp;have hpk:p.aO=zU (a.aI i).step:=by rw [h1];exact(kR h3).1
 have hpi:p.id=(a.aI i).id:=by rw [h1];exact(kR h3).2.2.1
 have hst:(a.aI i).step=6:=by
  have:(a.aI i).step=1∨(a.aI i).step=2∨(a.aI i).step=3∨(a.aI i).step=4∨(a.aI i).step=5∨(a.aI i).step=6:=by omega
  rw [hk] at hpk;rcases this with h | h | h | h | h | h
  all_goals first | exact h | (exfalso;simp [h,zU] at hpk)
 have hh:a.own p.aj=i/\Hold c.aH (c.bg p.aj) (a.ent p.aj) (a.row p.aj) (a.val p.aj) i (a.aI i) (.req p):=by
  rcases h4 with⟨h,_⟩ | ⟨_,h,h'⟩
  ·omega
  ·exact⟨h,h'⟩
 obtain⟨ho,H⟩:=hh;have hW:∃l,Wf c.aH (a.ent p.aj) (iQ (a.row p.aj) (a.aI i)) (a.val p.aj) l:=by
  exact H.unl hst
 obtain⟨l,W⟩:=hW;have hps:p.aU=(a.aI i).aU:=by rw [h1];unfold bP.ask;simp [hst]
 have hL:=O.aj;rw [h2] at hL;have hws:=I.QS (i:=i) (by rw [hp];exact λe=> by cases e);refine⟨ho,by rw [hps];exact W.st,⟨l,W⟩,h1,hst,?_⟩;refine I.upd i p.aj hi.1 (λ_ _=> rfl) (λ_ h=> aS h) (λ_ h=> aS h) (λ_ _=> rfl) (λ_ _=> rfl) (λ_ _=> rfl) (λj hj=> aS hj) (λ_ _ h=> h) (λj h0 hj=> ?_) (λ_ _ _ h=> h) (I.aiE hi.1 (.inl h2)) (λL' _=> hws L') hL ?_ ?_ ?_ (I.val _ hL.1 hL.2)
 ·show dH a.own p.aj (-1) p.aj=j↔_;rw [aJ,ho];exact⟨λe=> by omega,λe=> absurd e.symm hj⟩
 ·refine .inl ⟨aJ,l,?_⟩;show Wf _ _ (dH a.row p.aj _ p.aj) _ _;rw [aJ];exact W
 ·refine .inr ⟨O.step,O.aj,O.aO,O.idr,O.miss,.inr (.inr ⟨hst,?_,?_⟩)⟩
  ·show dH a.own p.aj (-1) (a.aI i).aj≠i;rw [h2,aJ];omega
  ·show dH a.msg i _ i=.ans (ad7 c (a.aI i) i);rw [aJ,ad7,h2,hpi]
 ·exact(I.ws _).same (i:=i) rfl (hws _) (λ_ _=> rfl) (λj hj=> aS hj)
theorem nX.served(I:nX c a)(hi:0<=i/\i < c.aH)(hL:0<=L/\L < c.aY)(ho:a.own L=i){E:uf}{q:Pkt}(hE:∀j,a.ent L j=none->E j=none)(H:Hold c.aH (c.bg L) E (a.row L) (a.val L) i (a.aI i) (.ans q))(hm:a.msg i≠.wait):
  nX c { a with ent:=dH a.ent L E,msg:=dH a.msg i (.ans q) }:=by
 obtain⟨h2,H0⟩:=I.holder hL ho hi.1;have O:aiD c a i:=by
  rcases I.bD i hi.1 hi.2 with⟨h,_⟩ | O
  ·exact absurd h H0.Nz
  ·exact O
 have hws:=I.QS hm;refine I.upd i L hi.1 (λ_ h=> aS h) (λ_ _=> rfl) (λ_ _=> rfl) (λ_ _=> rfl) (λ_ _=> rfl) (λ_ _=> rfl) (λj hj=> aS hj) (λj _ h=> ?_) (λj h0 hj=> Iff.rfl) (λ_ _ _ h=> h) (I.aiE hi.1 (.inl h2)) (λL' _=> hws L') hL ?_ ?_ ?_ (I.val _ hL.1 hL.2)
 ·show dH a.ent L E L j=none;rw [aJ];exact hE j h
 ·refine .inr ?_;show 0<=a.own L/\a.own L < c.aH/\(a.aI (a.own L)).aj=L/\Hold _ _ (dH a.ent L E L) _ _ (a.own L) (a.aI (a.own L)) (dH a.msg i _ (a.own L));rw [ho,aJ,aJ];exact⟨hi.1,hi.2,h2,H⟩
 ·refine .inr ⟨O.step,O.aj,O.aO,O.idr,λh h'=> ?_,.inr (.inl ?_)⟩
  ·show dH a.ent L E (a.aI i).aj i=none;have:=O.miss h h';rw [h2] at this ⊢;rw [aJ];exact hE i this
  ·show a.own (a.aI i).aj=i;rw [h2];exact ho
 ·exact(I.ws _).same (i:=i) rfl (hws _) (λ_ _=> rfl) (λj hj=> aS hj)
theorem nX.goes(I:nX c a)(hi:0<=i/\i < c.aH)(hL:0<=L/\L < c.aY)(ho:a.own L=i)(hm:a.msg i≠.wait){x:Option Ent}{v:List Int}{d:bP}(hv:v≠[])(hd:d.aj=L)(hk:d.aO=(a.aI i).aO)(hid:d.id=(a.aI i).id)(hmiss:d.aO=1->d.step=1∨d.step=2->x=none)
  (H:Hold c.aH (c.bg L) (nV (a.ent L) i x) (a.row L) v i d (.req (d.ask i (c.bg L)))):
  nX c { a with ent:=dH a.ent L (nV (a.ent L) i x),val:=dH a.val L v,aI:=dH a.aI i d,msg:=dH a.msg i (.req (d.ask i (c.bg L))) }:=by
 obtain⟨h2,H0⟩:=I.holder hL ho hi.1;have O:aiD c a i:=by
  rcases I.bD i hi.1 hi.2 with⟨h,_⟩ | O
  ·exact absurd h H0.Nz
  ·exact O
 have hws:=I.QS hm;refine I.upd i L hi.1 (λ_ h=> aS h) (λ_ _=> rfl) (λ_ _=> rfl) (λ_ _=> rfl) (λ_ h=> aS h) (λj hj=> aS hj) (λj hj=> aS hj) (λj hj h=> ?_) (λj h0 hj=> Iff.rfl) (λ_ _ _ h=> h) (I.aiE hi.1 (.inl h2)) (λL' _=> hws L') hL ?_ ?_ ?_ ?_
 ·show dH a.ent L _ L j=none;rw [aJ,fC hj];exact h
 ·refine .inr ?_;show 0<=a.own L/\a.own L < c.aH/\(dH a.aI i d (a.own L)).aj=L/\Hold _ _ (dH a.ent L _ L) _ (dH a.val L v L) (a.own L) (dH a.aI i d (a.own L)) (dH a.msg i _ (a.own L));rw [ho,aJ,aJ,aJ,aJ];exact⟨hi.1,hi.2,hd,H⟩
 ·have hd':dH a.aI i d i=d:=aJ;refine .inr ⟨?_,?_,?_,by show 0<=(dH a.aI i d i).id/\(dH a.aI i d i).id < 4096;rw [hd',hid];exact O.idr,?_,.inr (.inl ?_)⟩
  ·show(dH a.aI i d i).step≠0;rw [hd'];exact H.Nz
  ·show 0<=(dH a.aI i d i).aj/\(dH a.aI i d i).aj < c.aY;rw [hd',hd];exact hL
  ·show 1<=(dH a.aI i d i).aO/\(dH a.aI i d i).aO<=3;rw [hd',hk];exact O.aO
  ·show(dH a.aI i d i).aO=1->_->dH a.ent L _ (dH a.aI i d i).aj i=none;rw [hd',hd,aJ,fP];intro h h';refine hmiss h ?_;have h'':(dH a.aI i d i).step=1∨(dH a.aI i d i).step=2:=h';rw [hd'] at h'';exact h''
  ·show a.own (dH a.aI i d i).aj=i;rw [hd',hd];exact ho
 ·exact(I.ws _).same (i:=i) rfl (hws _) (λj hj=> aS hj) (λj hj=> aS hj)
 ·show dH a.val L v L≠[];rw [aJ];exact hv
theorem nX.over(I:nX c a)(hi:0<=i/\i < c.aH)(F:apU c a i){d:bP}(hd:d.step=0):nX c { a with aI:=dH a.aI i d,msg:=dH a.msg i .idle }:=by
 obtain⟨f1,f2,f3⟩:=F;have O:aiD c a i:=by
  rcases I.bD i hi.1 hi.2 with⟨h,_⟩ | O
  ·omega
  ·exact O
 have hws:=I.QS (i:=i) (by rw [f3];exact λe=> by cases e);have hL:=O.aj;refine I.upd i (a.aI i).aj hi.1 (λ_ _=> rfl) (λ_ _=> rfl) (λ_ _=> rfl) (λ_ _=> rfl) (λ_ _=> rfl) (λj hj=> aS hj) (λj hj=> aS hj) (λ_ _ h=> h) (λj h0 hj=> Iff.rfl) (λ_ _ _ h=> h) (I.aiE hi.1 (.inl rfl)) (λL' _=> hws L') hL ?_ ?_ ?_ (I.val _ hL.1 hL.2)
 ·rcases I.aj _ hL.1 hL.2 with h | ⟨b1,b2,b3,b4⟩
  ·exact .inl h
  ·refine .inr ?_;show 0<=a.own (a.aI i).aj/\a.own (a.aI i).aj < c.aH/\(dH a.aI i d (a.own (a.aI i).aj)).aj=(a.aI i).aj/\Hold _ _ _ _ _ _ (dH a.aI i d (a.own (a.aI i).aj)) (dH a.msg i _ (a.own (a.aI i).aj));rw [aS f2,aS f2];exact⟨b1,b2,b3,b4⟩
 ·refine .inl ⟨?_,aJ⟩;show(dH a.aI i d i).step=0;rw [aJ];exact hd
 ·exact(I.ws _).same (i:=i) rfl (hws _) (λj hj=> aS hj) (λj hj=> aS hj)
theorem Wf.touch {N:Int}{E:uf}{r:Row}{v v':List Int}{l:List Int}(W:Wf N E r v l){e e':Ent}(he:E i=some e)(hb:e'.back=e.back)(hf:e'.fwd=e.fwd)(hd:e'.bZ=e.bZ)(hv:(e'.data=e.data/\v'=v)∨(e.bZ=true/\e'.data=v')):Wf N (nV E i (some e')) r v' l:=by
 have ch:Chn (nV E i (some e')) (-1) l (-1):=by
  have key:∀(l:List Int) (b x:Int),Chn E b l x->Chn (nV E i (some e')) b l x:=by
   intro l
   induction l with
   | nil=> intro b x _;trivial
   | cons j l ih=>
    intro b x h;obtain⟨⟨e0,h1,h2,h3⟩,hc⟩:=h;refine⟨?_,ih j x hc⟩;by_cases hj:j=i
    ·subst hj;rw [he] at h1;cases h1;exact⟨e',fP,by rw [hb,h2],by rw [hf,h3]⟩
    ·exact⟨e0,by rw [fC hj];exact h1,h2,h3⟩
  exact key l _ _ W.ch
 refine⟨W.rng,ch,λj x hj=> ?_,W.head,W.st,W.st0,W.st2,λj x hj=> ?_,λj x hj=> ?_,λh2=> ?_⟩
 ·rcases jB hj with⟨h,_⟩ | ⟨_,h⟩
  ·rw [h];exact W.mem i e he
  ·exact W.mem j x h
 ·rcases jB hj with⟨h,h'⟩ | ⟨_,h⟩
  ·cases h';rw [hd];exact W.bZ i e he
  ·exact W.bZ j x h
 ·rcases jB hj with⟨h,h'⟩ | ⟨hji,h⟩
  ·cases h';rcases hv with⟨a1,a2⟩ | ⟨_,a2⟩
   ·rw [a1,a2];exact W.data i e he
   ·exact a2
  ·rcases hv with⟨_,a2⟩ | ⟨a1,_⟩
   ·rw [a2];exact W.data j x h
   ·obtain⟨q,hq⟩:=W.st2 ((W.bZ i e he).1 a1);have h1:=W.mem i e he;have h2:=W.mem j x h;rw [hq] at h1 h2;simp only [zaj,zay,or_false] at h1 h2;exact absurd (h2.trans h1.symm) hji
 ·rcases hv with⟨_,a2⟩ | ⟨a1,_⟩
  ·rw [a2];exact W.Ef h2
  ·exact absurd ((W.bZ i e he).1 a1) h2
theorem Iz {E:uf}{e e':Ent}(he:E i=some e)(hf:e'.fwd=e.fwd):∀{l:List Int},FCh E l->FCh (nV E i (some e')) l
 | [],_=> trivial
 | j::l,⟨⟨e0,h1,h2⟩,hc⟩=> by
  refine⟨?_,Iz he hf hc⟩;by_cases hj:j=i
  ·subst hj;rw [he] at h1;cases h1;exact⟨e',fP,by rw [hf,h2]⟩
  ·exact⟨e0,by rw [fC hj];exact h1,h2⟩
theorem nN {E:uf}{e e':Ent}(he:E i=some e)(hb:e'.back=e.back)(hf:e'.fwd=e.fwd):∀{l:List Int} {b x:Int},Chn E b l x->Chn (nV E i (some e')) b l x
 | [],_,_,_=> trivial
 | j::l,b,x,⟨⟨e0,h1,h2,h3⟩,hc⟩=> by
  refine⟨?_,nN he hb hf hc⟩;by_cases hj:j=i
  ·subst hj;rw [he] at h1;cases h1;exact⟨e',fP,by rw [hb,h2],by rw [hf,h3]⟩
  ·exact⟨e0,by rw [fC hj];exact h1,h2,h3⟩
theorem Hold.touch {N hm:Int}{E:uf}{r:Row}{v v':List Int}{k:Int}{d:bP}{o:Out}(H:Hold N hm E r v k d o)(hik:i≠k){e e':Ent}(he:E i=some e)(hb:e'.back=e.back)(hf:e'.fwd=e.fwd)(hd:e'.bZ=e.bZ)(hv:(e'.data=e.data/\v'=v)∨(e.bZ=true/\e'.data=v')):Hold N hm (nV E i (some e')) r v' k d o:=by
 have some_:∀j x,nV E i (some e') j=some x->∃y,E j=some y/\x.bZ=y.bZ:=λj x hj=> by
  rcases jB hj with⟨h,h'⟩ | ⟨_,h⟩
  ·cases h';rw [h];exact⟨e,he,hd⟩
  ·exact⟨x,h,rfl⟩
 -- where nothing is bZ the bn are as they were
 have clean:(∀j x,E j=some x->x.bZ=false)->(∀j x,E j=some x->x.data=v)->v'=v/\∀j x,nV E i (some e') j=some x->x.data=v:=λhc hdt=> by
  have h0:=hc i e he;rcases hv with⟨a1,a2⟩ | ⟨a1,_⟩
  ·refine⟨a2,λj x hj=> ?_⟩;rcases jB hj with⟨_,h'⟩ | ⟨_,h⟩
   ·cases h';rw [a1];exact hdt i e he
   ·exact hdt j x h
  ·rw [h0] at a1;cases a1
 have mid:∀{pre post:List Int},Mid N E r v k pre post->v'=v/\Mid N (nV E i (some e')) r v k pre post:=λM=> by
  obtain⟨c1,c2⟩:=clean M.bZ M.data;obtain⟨ek,hk⟩:=M.ent;refine⟨c1,M.rng,λj x hj=> ?_,⟨ek,by rw [fC hik.symm];exact hk⟩,M.head,M.st,λj x hj=> ?_,c2,M.Ef⟩
  ·obtain⟨y,hy,_⟩:=some_ j x hj;exact M.mem j y hy
  ·obtain⟨y,hy,h⟩:=some_ j x hj;rw [h];exact M.bZ j y hy
 cases H with
 | granted h1 W=> exact .granted h1 (W.touch he hb hf hd hv)
 | attach h1 h2 h3 h4 W=> exact .attach h1 h2 h3 h4 (W.touch he hb hf hd hv)
 | attached h1 h2 h3 h4 R C M D X F=>
  obtain⟨c1,c2⟩:=clean D X;subst c1;exact .attached h1 h2 h3 h4 R (nN he hb hf C) (λj x hj=> by obtain⟨y,hy,_⟩:=some_ j x hj;exact M j y hy) (λj x hj=> by obtain⟨y,hy,h⟩:=some_ j x hj;rw [h];exact D j y hy) c2 F
 | IQ h1 h2 L h3 h4=>
  have ana:E k≠none->v'=v:=λhk=> by
   rcases hv with⟨_,a2⟩ | ⟨a1,_⟩
   ·exact a2
   ·exact absurd (L.only i e he a1 k hk) hik.symm
  refine .IQ h1 h2 ⟨L.rng,Iz he hf L.ch,λj x hj=> ?_,λj x hj=> ?_,λj x hj hdj q hq=> ?_⟩ h3 λhk=> ?_
  ·obtain⟨y,hy,_⟩:=some_ j x hj;exact L.mem j y hy
  ·rcases jB hj with⟨_,h'⟩ | ⟨hji,h⟩
   ·cases h';rcases hv with⟨a1,a2⟩ | ⟨_,a2⟩
    ·rw [a1,a2];exact L.data i e he
    ·exact a2
   ·rcases hv with⟨_,a2⟩ | ⟨a1,_⟩
    ·rw [a2];exact L.data j x h
    ·exact absurd (L.only i e he a1 j (by rw [h];simp)) hji
  ·obtain⟨y,hy,hyd⟩:=some_ j x hj;refine L.only j y hy (by rw [<-hyd];exact hdj) q ?_;intro hq0;by_cases hqi:q=i
   ·rw [hqi,he] at hq0;cases hq0
   ·rw [fC hqi] at hq;exact hq hq0
  ·rw [fC hik.symm] at hk;rw [ana hk];exact h4 hk
 | Ir h1 h2 L h3 h4=>
  obtain⟨c1,c2⟩:=clean h3 L.data;subst c1;refine .Ir h1 h2 ⟨L.rng,Iz he hf L.ch,λj x hj=> ?_,c2,λj x hj hdj q hq=> ?_⟩ (λj x hj=> ?_) λhk=> ?_
  ·obtain⟨y,hy,_⟩:=some_ j x hj;exact L.mem j y hy
  ·obtain⟨y,hy,hyd⟩:=some_ j x hj;rw [hyd,h3 j y hy] at hdj;cases hdj
  ·obtain⟨y,hy,hyd⟩:=some_ j x hj;rw [hyd];exact h3 j y hy
  ·rw [fC hik.symm] at hk;exact h4 hk
 | front h1 h2 M h3 C h4 h5 h6=>
  obtain⟨c1,c2⟩:=mid M;subst c1;exact .front h1 h2 c2 h3 (nN he hb hf C) h4 h5 h6
 | zh h1 h2 M h3 C C' h4 h5 h6=>
  obtain⟨c1,c2⟩:=mid M;subst c1;exact .zh h1 h2 c2 h3 (nN he hb hf C) (nN he hb hf C') h4 h5 h6
 | behind h1 h2 M h3 C C' h4 h5 h6=>
  obtain⟨c1,c2⟩:=mid M;subst c1;exact .behind h1 h2 c2 h3 (nN he hb hf C) (nN he hb hf C') h4 h5 h6
 | vw h1 h2 M h3 C C' h4 h5 h6=>
  obtain⟨c1,c2⟩:=mid M;subst c1;exact .vw h1 h2 c2 h3 (nN he hb hf C) (nN he hb hf C') h4 h5 h6
 | unlock h1 W=> exact .unlock h1 (W.touch he hb hf hd hv)
theorem nX.hit(I:nX c a)(hi:0<=i/\i < c.aH)(h0:(a.aI i).step=0)(hL:0<=L/\L < c.aY){e e':Ent}{v':List Int}(he:a.ent L i=some e)(hb:e'.back=e.back)(hf:e'.fwd=e.fwd)(hd:e'.bZ=e.bZ)(hv:(e'.data=e.data/\v'=a.val L)∨(e.bZ=true/\e'.data=v'))(hn:v'≠[]):
  nX c { a with ent:=dH a.ent L (nV (a.ent L) i (some e')),val:=dH a.val L v' }:=by
 have hown:∀L',a.own L'≠i:=λL' e=> (I.only hi.1 L' e).2 h0;have hno:(a.aI i).step=0/\a.msg i=.idle:=by
  rcases I.bD i hi.1 hi.2 with h | O
  ·exact h
  ·exact absurd h0 O.step
 have hws:=I.QS (i:=i) (by rw [hno.2];exact λe=> by cases e);refine I.upd i L hi.1 (λ_ h=> aS h) (λ_ _=> rfl) (λ_ _=> rfl) (λ_ _=> rfl) (λ_ h=> aS h) (λ_ _=> rfl) (λ_ _=> rfl) (λj hj h=> ?_) (λ_ _ _=> Iff.rfl) (λ_ _ _ h=> h) (λL' _=> hown L') (λL' _=> hws L') hL ?_ (.inl hno) ?_ ?_
 ·show dH a.ent L _ L j=none;rw [aJ,fC hj];exact h
 ·rcases I.aj L hL.1 hL.2 with⟨b1,l,W⟩ | ⟨b1,b2,b3,b4⟩
  ·refine .inl ⟨b1,l,?_⟩;show Wf _ (dH a.ent L _ L) _ (dH a.val L v' L) l;rw [aJ,aJ];exact W.touch he hb hf hd hv
  ·refine .inr ⟨b1,b2,b3,?_⟩;unfold Abs.holds at b4 ⊢;show Hold _ _ (dH a.ent L _ L) _ (dH a.val L v' L) _ _ _;rw [aJ,aJ];exact b4.touch (hown L).symm he hb hf hd hv
 ·exact(I.ws L).same (i:=i) rfl (hws L) (λ_ _=> rfl) (λ_ _=> rfl)
 ·show dH a.val L v' L≠[];rw [aJ];exact hn
end
def vC(p:Port):List Pkt:=p.rq++p.rin
def vF(p:Port):List Pkt:=p.an++p.ain
def xR(f:Fab):List Pkt:=f.l.flatMap vC
def xU(f:Fab):List Pkt:=f.l.flatMap vF
structure NC(msg:Int->Out)(k:Int)(q:Port):Prop where
 rq:∀p∈q.rq,p.src=k/\pV p.aO=true/\msg k=.req p
 rin:∀p∈q.rin,p.dst=k/\pV p.aO=true/\msg p.src=.req p
 an:∀p∈q.an,p.src=k/\pV p.aO=false/\msg p.dst=.ans p
 ain:∀p∈q.ain,p.dst=k/\pV p.aO=false/\msg k=.ans p
structure pJ(f:Fab)(msg:Int->Out):Prop where
 port:∀(k:Nat) q,f.l[k]?=some q->NC msg k q
 rn:((xR f).map (·.src)).Nodup
 an:((xU f).map (·.dst)).Nodup
 rc:∀i p,msg i=.req p->p∈xR f
 ac:∀i p,msg i=.ans p->p∈xU f
 src:∀i p,msg i=.req p->p.src=i
 dst:∀i p,msg i=.ans p->p.dst=i
 rg:∀i p,msg i=.req p∨msg i=.ans p->f.is i=true
theorem jg {g:Port->List Pkt}{q q':Port}:∀{l:List Port} {k:Nat},l[k]?=some q->∀{x y:List Pkt},(x++g q').Perm (y++g q)->(x++(l.set k q').flatMap g).Perm (y++l.flatMap g)
 | [],k,h,_,_,_=> by simp at h
 | p::l,0,h,x,y,hp=> by
  simp only [zaP,zaa] at h;subst h;simp only [zbU,zaE,<-za4];exact hp.append_right _
 | p::l,k+1,h,x,y,hp=> by
  simp only [zbb] at h;have ih:=jg h hp;simp only [zb6,zaE];have c1:(x++(g p++(l.set k q').flatMap g)).Perm (g p++(x++(l.set k q').flatMap g)):=by
   rw [<-za4,<-za4];exact List.perm_append_comm.append_right _
  have c2:(g p++(y++l.flatMap g)).Perm (y++(g p++l.flatMap g)):=by
   rw [<-za4,<-za4];exact List.perm_append_comm.append_right _
  exact c1.trans ((ih.append_left _).trans c2)
theorem fB {f:Fab}{i:Int}(h:f.is i=true):f.l[i.toNat]?=some (f.port i):=by
 unfold Fab.is at h;simp only [zaf,decide_eq_true_eq] at h;unfold Fab.port;rw [zao,zab (by omega),zav]
theorem sG {f:Fab}{i:Int}{q:Port}(h:f.is i=true){k:Nat}{q':Port}(hk:(f.put i q).l[k]?=some q'):(k=i.toNat/\q'=q)∨(k≠i.toNat/\f.l[k]?=some q'):=by
 simp only [Fab.put] at hk;by_cases e:i.toNat=k
 ·rw [e] at hk;have hlt:k < f.l.length:=by
   unfold Fab.is at h;simp only [zaf,decide_eq_true_eq] at h;omega
  rw [za7 hlt] at hk;exact .inl ⟨e.symm,(zaY hk).symm⟩
 ·rw [zbe e] at hk;exact .inr ⟨λh=> e h.symm,hk⟩
theorem vG {f:Fab}{i:Int}(h:f.is i=true):((i.toNat:Nat):Int)=i:=by
 unfold Fab.is at h;simp only [zaf,decide_eq_true_eq] at h;omega
section
variable {f:Fab}{msg:Int->Out}{i:Int}{p:Pkt}
theorem pJ.at_(R:pJ f msg)(h:f.is i=true):NC msg i (f.port i):=by
 have:=R.port _ _ (fB h);rw [vG h] at this;exact this
theorem Bc {k:Nat}{q:Port}(h:f.l[k]?=some q)(hp:p∈q.rq∨p∈q.rin):p∈xR f:=za1.2 ⟨q,zau h,zaM.2 hp⟩
theorem Bf {k:Nat}{q:Port}(h:f.l[k]?=some q)(hp:p∈q.an∨p∈q.ain):p∈xU f:=za1.2 ⟨q,zau h,zaM.2 hp⟩
theorem pJ.req(R:pJ f msg)(h:p∈xR f):msg p.src=.req p:=by
 obtain⟨q,hq,hp⟩:=za1.1 h;obtain⟨k,hk⟩:=zbw.1 hq;rcases zaM.1 hp with hp | hp
 ·obtain⟨a,_,b⟩:=(R.port k q hk).rq p hp;rw [a];exact b
 ·exact((R.port k q hk).rin p hp).2.2
theorem pJ.ans(R:pJ f msg)(h:p∈xU f):msg p.dst=.ans p:=by
 obtain⟨q,hq,hp⟩:=za1.1 h;obtain⟨k,hk⟩:=zbw.1 hq;rcases zaM.1 hp with hp | hp
 ·exact((R.port k q hk).an p hp).2.2
 ·obtain⟨a,_,b⟩:=(R.port k q hk).ain p hp;rw [a];exact b
theorem pJ.anb(R:pJ f msg)(h0:∀q,msg p.src≠.req q)(h1:∀q,msg p.src≠.ans q)(hok:p.ok=true)(hk:pV p.aO=true)(hs:f.is p.src=true)(hd:f.is p.dst=true)(ho:1<=f.out):
  (f.send p).2=0/\pJ (f.send p).1 (dH msg p.src (.req p)):=by
 have P:=R.at_ hs;have he:(f.port p.src).rq=[]:=by
  cases e:(f.port p.src).rq with
  | nil=> rfl
  | cons q l=> exact absurd (P.rq q (by rw [e];simp)).2.2 (h0 q)
 have hsend:f.send p=(f.put p.src { f.port p.src with rq:=[p] },0):=by
  unfold Fab.send;simp only [hok,hs,hd,hk,Port.sort,Port.jX,if_true,he,zam,zaL,zah,Bool.or_self,zae,if_false];rw [if_neg (by omega)]
 rw [hsend];refine⟨rfl,?_⟩;have pr:(xR (f.put p.src { f.port p.src with rq:=[p] })).Perm (p::xR f):=by
  have:=jg (g:=vC) (fB hs) (q':={ f.port p.src with rq:=[p] }) (x:=[]) (y:=[p]) (by simp [vC,he])
  simpa [xR,Fab.put] using this
 have pa:(xU (f.put p.src { f.port p.src with rq:=[p] })).Perm (xU f):=by
  have:=jg (g:=vF) (fB hs) (q':={ f.port p.src with rq:=[p] }) (x:=[]) (y:=[]) (by simp [vF])
  simpa [xU,Fab.put] using this
 have mne:∀j q,msg j=.req q∨msg j=.ans q->dH msg p.src (.req p) j=msg j:=λj q h=> aS λe=> by
  subst e;rcases h with h | h
  ·exact h0 q h
  ·exact h1 q h
 refine⟨λk q hk'=> ?_,?_,?_,λj q hj=> ?_,λj q hj=> ?_,λj q hj=> ?_,λj q hj=> ?_,λj q hj=> ?_⟩
 ·rcases sG hs hk' with⟨e,rfl⟩ | ⟨_,h⟩
  ·have e':(k:Int)=p.src:=by rw [e];exact vG hs
   rw [e'];refine⟨λq hq=> ?_,λq hq=> ?_,λq hq=> ?_,λq hq=> ?_⟩
   ·simp only [zaj,zay,or_false] at hq;subst hq;exact⟨rfl,hk,aJ⟩
   ·obtain⟨a,b,c⟩:=P.rin q hq;exact⟨a,b,by rw [mne _ _ (.inl c)];exact c⟩
   ·obtain⟨a,b,c⟩:=P.an q hq;exact⟨a,b,by rw [mne _ _ (.inr c)];exact c⟩
   ·obtain⟨a,b,c⟩:=P.ain q hq;exact⟨a,b,by rw [mne _ _ (.inr c)];exact c⟩
  ·have Q:=R.port k q h;refine⟨λq hq=> ?_,λq hq=> ?_,λq hq=> ?_,λq hq=> ?_⟩
   ·obtain⟨a,b,c⟩:=Q.rq q hq;exact⟨a,b,by rw [mne _ _ (.inl c)];exact c⟩
   ·obtain⟨a,b,c⟩:=Q.rin q hq;exact⟨a,b,by rw [mne _ _ (.inl c)];exact c⟩
   ·obtain⟨a,b,c⟩:=Q.an q hq;exact⟨a,b,by rw [mne _ _ (.inr c)];exact c⟩
   ·obtain⟨a,b,c⟩:=Q.ain q hq;exact⟨a,b,by rw [mne _ _ (.inr c)];exact c⟩
 ·refine((pr.map _).nodup_iff).2 (zaU.2 ⟨λhm=> ?_,R.rn⟩);obtain⟨q,hq,e⟩:=zaG.1 hm;have:=R.req hq;simp only at e;rw [e] at this;exact h0 q this
 ·exact((pa.map _).nodup_iff).2 R.an
 ·by_cases e:j=p.src
  ·rw [e,aJ] at hj;cases hj;exact pr.mem_iff.2 (by simp)
  ·rw [aS e] at hj;exact pr.mem_iff.2 (zba _ (R.rc j q hj))
 ·by_cases e:j=p.src
  ·rw [e,aJ] at hj;cases hj
  ·rw [aS e] at hj;exact pa.mem_iff.2 (R.ac j q hj)
 ·by_cases e:j=p.src
  ·rw [e,aJ] at hj;cases hj;exact e.symm
  ·rw [aS e] at hj;exact R.src j q hj
 ·by_cases e:j=p.src
  ·rw [e,aJ] at hj;cases hj
  ·rw [aS e] at hj;exact R.dst j q hj
 ·have hl:(f.put p.src { f.port p.src with rq:=[p] }).is j=f.is j:=by simp [Fab.is,Fab.put]
  rw [hl];by_cases e:j=p.src
  ·rw [e];exact hs
  ·rw [aS e] at hj;exact R.rg j q hj
theorem pJ.XG(R:pJ f msg)(h0:∀q,msg p.dst≠.req q)(h1:∀q,msg p.dst≠.ans q)(hok:p.ok=true)(hk:pV p.aO=false)(hs:f.is p.src=true)(hd:f.is p.dst=true)(ho:f.roomOf p.src false > 0):
  (f.send p).2=0/\pJ (f.send p).1 (dH msg p.dst (.ans p)):=by
 have P:=R.at_ hs;have hsend:f.send p=(f.put p.src { f.port p.src with an:=(f.port p.src).an++[p] },0):=by
  unfold Fab.send;unfold Fab.roomOf at ho;rw [if_pos hs] at ho;simp only [Port.sort,zae,if_false] at ho;simp only [hok,hs,hd,hk,Port.sort,Port.jX,zah,Bool.or_self,zae,if_false];rw [if_neg (by omega)]
 rw [hsend];refine⟨rfl,?_⟩;have pa:(xU (f.put p.src { f.port p.src with an:=(f.port p.src).an++[p] })).Perm (p::xU f):=by
  have:=jg (g:=vF) (fB hs) (q':={ f.port p.src with an:=(f.port p.src).an++[p] }) (x:=[]) (y:=[p]) (by
   simp only [vF,zaL,za4,zcp];exact zdi)
  simpa [xU,Fab.put] using this
 have pr:(xR (f.put p.src { f.port p.src with an:=(f.port p.src).an++[p] })).Perm (xR f):=by
  have:=jg (g:=vC) (fB hs) (q':={ f.port p.src with an:=(f.port p.src).an++[p] }) (x:=[]) (y:=[]) (by simp [vC])
  simpa [xR,Fab.put] using this
 have mne:∀j q,msg j=.req q∨msg j=.ans q->dH msg p.dst (.ans p) j=msg j:=λj q h=> aS λe=> by
  subst e;rcases h with h | h
  ·exact h0 q h
  ·exact h1 q h
 refine⟨λk q hk'=> ?_,?_,?_,λj q hj=> ?_,λj q hj=> ?_,λj q hj=> ?_,λj q hj=> ?_,λj q hj=> ?_⟩
 ·rcases sG hs hk' with⟨e,rfl⟩ | ⟨_,h⟩
  ·have e':(k:Int)=p.src:=by rw [e];exact vG hs
   rw [e'];refine⟨λq hq=> ?_,λq hq=> ?_,λq hq=> ?_,λq hq=> ?_⟩
   ·obtain⟨a,b,c⟩:=P.rq q hq;exact⟨a,b,by rw [mne _ _ (.inl c)];exact c⟩
   ·obtain⟨a,b,c⟩:=P.rin q hq;exact⟨a,b,by rw [mne _ _ (.inl c)];exact c⟩
   ·rcases zaM.1 hq with hq | hq
    ·obtain⟨a,b,c⟩:=P.an q hq;exact⟨a,b,by rw [mne _ _ (.inr c)];exact c⟩
    ·simp only [zaj,zay,or_false] at hq;subst hq;exact⟨rfl,hk,aJ⟩
   ·obtain⟨a,b,c⟩:=P.ain q hq;exact⟨a,b,by rw [mne _ _ (.inr c)];exact c⟩
  ·have Q:=R.port k q h;refine⟨λq hq=> ?_,λq hq=> ?_,λq hq=> ?_,λq hq=> ?_⟩
   ·obtain⟨a,b,c⟩:=Q.rq q hq;exact⟨a,b,by rw [mne _ _ (.inl c)];exact c⟩
   ·obtain⟨a,b,c⟩:=Q.rin q hq;exact⟨a,b,by rw [mne _ _ (.inl c)];exact c⟩
   ·obtain⟨a,b,c⟩:=Q.an q hq;exact⟨a,b,by rw [mne _ _ (.inr c)];exact c⟩
   ·obtain⟨a,b,c⟩:=Q.ain q hq;exact⟨a,b,by rw [mne _ _ (.inr c)];exact c⟩
 ·exact((pr.map _).nodup_iff).2 R.rn
 ·refine((pa.map _).nodup_iff).2 (zaU.2 ⟨λhm=> ?_,R.an⟩);obtain⟨q,hq,e⟩:=zaG.1 hm;have:=R.ans hq;simp only at e;rw [e] at this;exact h1 q this
 ·by_cases e:j=p.dst
  ·rw [e,aJ] at hj;cases hj
  ·rw [aS e] at hj;exact pr.mem_iff.2 (R.rc j q hj)
 ·by_cases e:j=p.dst
  ·rw [e,aJ] at hj;cases hj;exact pa.mem_iff.2 (by simp)
  ·rw [aS e] at hj;exact pa.mem_iff.2 (zba _ (R.ac j q hj))
 ·by_cases e:j=p.dst
  ·rw [e,aJ] at hj;cases hj
  ·rw [aS e] at hj;exact R.src j q hj
 ·by_cases e:j=p.dst
  ·rw [e,aJ] at hj;cases hj;exact e.symm
  ·rw [aS e] at hj;exact R.dst j q hj
 ·have hl:(f.put p.src { f.port p.src with an:=(f.port p.src).an++[p] }).is j=f.is j:=by simp [Fab.is,Fab.put]
  rw [hl];by_cases e:j=p.dst
  ·rw [e];exact hd
  ·rw [aS e] at hj;exact R.rg j q hj
theorem pJ.takeA(R:pJ f msg){f':Fab}(h:f.take i false=(f',some p)):f.is i=true/\p.dst=i/\pV p.aO=false/\msg i=.ans p/\pJ f' (dH msg i .idle)/\f'.out=f.out/\f'.l.length=f.l.length:=by
 unfold Fab.take at h;split at h
 case isFalse=> cases h
 rename_i hs;split at h
 ·cases h
 rename_i p' l hl;simp only [zad,zaa] at h;obtain⟨rfl,rfl⟩:=h;simp only [Port.pF,zae,if_false] at hl;have P:=R.at_ hs;obtain⟨b1,b2,b3⟩:=P.ain p' (by rw [hl];simp);refine⟨hs,b1,b2,b3,?_,rfl,by simp [Fab.put]⟩;have hset:(f.port i).kN false l={ f.port i with ain:=l }:=by simp [Port.kN]
 rw [hset];have pa:(p'::xU (f.put i { f.port i with ain:=l })).Perm (xU f):=by
  have:=jg (g:=vF) (fB hs) (q':={ f.port i with ain:=l }) (x:=[p']) (y:=[]) (by
   simp only [vF,zaL,hl,zcp];exact zdi.symm)
  simpa [xU,Fab.put] using this
 have pr:(xR (f.put i { f.port i with ain:=l })).Perm (xR f):=by
  have:=jg (g:=vC) (fB hs) (q':={ f.port i with ain:=l }) (x:=[]) (y:=[]) (by simp [vC])
  simpa [xR,Fab.put] using this
 have nd:(p'.dst::(xU (f.put i { f.port i with ain:=l })).map (·.dst)).Nodup:=((pa.map Pkt.dst).nodup_iff).2 R.an;have gone:∀q∈xU (f.put i { f.port i with ain:=l }),q.dst≠i:=λq hq e=> (zaU.1 nd).1 (zaG.2 ⟨q,hq,e.trans b1.symm⟩);have anH:∀q∈xR f,q.src≠i:=λq hq e=> by
  have:=R.req hq;rw [e,b3] at this;cases this
 refine⟨λk q hk'=> ?_,?_,?_,λj q hj=> ?_,λj q hj=> ?_,λj q hj=> ?_,λj q hj=> ?_,λj q hj=> ?_⟩
 ·have hmem:∀x,(x∈q.an∨x∈q.ain)->x.dst≠i:=λx hx=> gone x (Bf hk' hx);rcases sG hs hk' with⟨e,rfl⟩ | ⟨_,h⟩
  ·have e':(k:Int)=i:=by rw [e];exact vG hs
   rw [e'];refine⟨λq hq=> ?_,λq hq=> ?_,λq hq=> ?_,λq hq=> ?_⟩
   ·exact absurd ((P.rq q hq).1) (anH q (Bc (fB hs) (.inl hq)))
   ·obtain⟨a,b,c⟩:=P.rin q hq;exact⟨a,b,by rw [aS (anH q (Bc (fB hs) (.inr hq)))];exact c⟩
   ·obtain⟨a,b,c⟩:=P.an q hq;exact⟨a,b,by rw [aS (hmem q (.inl hq))];exact c⟩
   ·have:=hmem q (.inr hq);exact absurd (P.ain q (by rw [hl];exact zba _ hq)).1 this
  ·have Q:=R.port k q h;refine⟨λx hx=> ?_,λx hx=> ?_,λx hx=> ?_,λx hx=> ?_⟩
   ·obtain⟨a,b,c⟩:=Q.rq x hx;have:=anH x (Bc h (.inl hx));exact⟨a,b,by rw [aS (by omega)];exact c⟩
   ·obtain⟨a,b,c⟩:=Q.rin x hx;exact⟨a,b,by rw [aS (anH x (Bc h (.inr hx)))];exact c⟩
   ·obtain⟨a,b,c⟩:=Q.an x hx;exact⟨a,b,by rw [aS (hmem x (.inl hx))];exact c⟩
   ·obtain⟨a,b,c⟩:=Q.ain x hx;have:=hmem x (.inr hx);exact⟨a,b,by rw [aS (by omega)];exact c⟩
 ·exact((pr.map _).nodup_iff).2 R.rn
 ·exact(zaU.1 nd).2
 ·by_cases e:j=i
  ·rw [e,aJ] at hj;cases hj
  ·rw [aS e] at hj;exact pr.mem_iff.2 (R.rc j q hj)
 ·by_cases e:j=i
  ·rw [e,aJ] at hj;cases hj
  ·rw [aS e] at hj;rcases zaj.1 (pa.mem_iff.2 (R.ac j q hj)) with h | h
   ·have:=R.dst j q hj;rw [h,b1] at this;exact absurd this.symm e
   ·exact h
 ·by_cases e:j=i
  ·rw [e,aJ] at hj;cases hj
  ·rw [aS e] at hj;exact R.src j q hj
 ·by_cases e:j=i
  ·rw [e,aJ] at hj;cases hj
  ·rw [aS e] at hj;exact R.dst j q hj
 ·have hl:(f.put i { f.port i with ain:=l }).is j=f.is j:=by simp [Fab.is,Fab.put]
  rw [hl];by_cases e:j=i
  ·rw [e];exact hs
  ·rw [aS e] at hj;exact R.rg j q hj
theorem pJ.apV(R:pJ f msg){f':Fab}(h:f.take i true=(f',some p)):f.is i=true/\p.dst=i/\pV p.aO=true/\msg p.src=.req p/\pJ f' (dH msg p.src .idle)/\f'.out=f.out/\f'.l.length=f.l.length/\(∀k,f'.roomOf k false=f.roomOf k false):=by
 unfold Fab.take at h;split at h
 case isFalse=> cases h
 rename_i hs;split at h
 ·cases h
 rename_i p' l hl;simp only [zad,zaa] at h;obtain⟨rfl,rfl⟩:=h;simp only [Port.pF,if_true] at hl;have P:=R.at_ hs;obtain⟨b1,b2,b3⟩:=P.rin p' (by rw [hl];simp);have hset:(f.port i).kN true l={ f.port i with rin:=l }:=by simp [Port.kN]
 rw [hset];refine⟨hs,b1,b2,b3,?_,rfl,by simp [Fab.put],λk=> ?_⟩;rotate_left
 ·have hp:=hs;unfold Fab.is at hp;simp only [zaf,decide_eq_true_eq] at hp;unfold Fab.roomOf Fab.is Fab.port Fab.put;simp only [zbp,zao];by_cases e:i.toNat=k.toNat
  ·rw [<-e,za7 (by omega)];simp only [zav,Port.sort,zae,if_false]
  ·rw [zbe e]
 have pr:(p'::xR (f.put i { f.port i with rin:=l })).Perm (xR f):=by
  have:=jg (g:=vC) (fB hs) (q':={ f.port i with rin:=l }) (x:=[p']) (y:=[]) (by
   simp only [vC,zaL,hl,zcp];exact zdi.symm)
  simpa [xR,Fab.put] using this
 have pa:(xU (f.put i { f.port i with rin:=l })).Perm (xU f):=by
  have:=jg (g:=vF) (fB hs) (q':={ f.port i with rin:=l }) (x:=[]) (y:=[]) (by simp [vF])
  simpa [xU,Fab.put] using this
 have nd:(p'.src::(xR (f.put i { f.port i with rin:=l })).map (·.src)).Nodup:=((pr.map Pkt.src).nodup_iff).2 R.rn;have gone:∀q∈xR (f.put i { f.port i with rin:=l }),q.src≠p'.src:=λq hq e=> (zaU.1 nd).1 (zaG.2 ⟨q,hq,e⟩);have anI:∀q∈xU f,q.dst≠p'.src:=λq hq e=> by
  have:=R.ans hq;rw [e,b3] at this;cases this
 refine⟨λk q hk'=> ?_,?_,?_,λj q hj=> ?_,λj q hj=> ?_,λj q hj=> ?_,λj q hj=> ?_,λj q hj=> ?_⟩
 ·have hmem:∀x,(x∈q.rq∨x∈q.rin)->x.src≠p'.src:=λx hx=> gone x (Bc hk' hx);rcases sG hs hk' with⟨e,rfl⟩ | ⟨_,h⟩
  ·have e':(k:Int)=i:=by rw [e];exact vG hs
   rw [e'];refine⟨λq hq=> ?_,λq hq=> ?_,λq hq=> ?_,λq hq=> ?_⟩
   ·obtain⟨a,b,c⟩:=P.rq q hq;have:=hmem q (.inl hq);exact⟨a,b,by rw [aS (by omega)];exact c⟩
   ·obtain⟨a,b,c⟩:=P.rin q (by rw [hl];exact zba _ hq);exact⟨a,b,by rw [aS (hmem q (.inr hq))];exact c⟩
   ·obtain⟨a,b,c⟩:=P.an q hq;exact⟨a,b,by rw [aS (anI q (Bf (fB hs) (.inl hq)))];exact c⟩
   ·obtain⟨a,b,c⟩:=P.ain q hq;have:=anI q (Bf (fB hs) (.inr hq));exact⟨a,b,by rw [aS (by omega)];exact c⟩
  ·have Q:=R.port k q h;refine⟨λx hx=> ?_,λx hx=> ?_,λx hx=> ?_,λx hx=> ?_⟩
   ·obtain⟨a,b,c⟩:=Q.rq x hx;have:=hmem x (.inl hx);exact⟨a,b,by rw [aS (by omega)];exact c⟩
   ·obtain⟨a,b,c⟩:=Q.rin x hx;exact⟨a,b,by rw [aS (hmem x (.inr hx))];exact c⟩
   ·obtain⟨a,b,c⟩:=Q.an x hx;exact⟨a,b,by rw [aS (anI x (Bf h (.inl hx)))];exact c⟩
   ·obtain⟨a,b,c⟩:=Q.ain x hx;have:=anI x (Bf h (.inr hx));exact⟨a,b,by rw [aS (by omega)];exact c⟩
 ·exact(zaU.1 nd).2
 ·exact((pa.map _).nodup_iff).2 R.an
 ·by_cases e:j=p'.src
  ·rw [e,aJ] at hj;cases hj
  ·rw [aS e] at hj;rcases zaj.1 (pr.mem_iff.2 (R.rc j q hj)) with h | h
   ·have:=R.src j q hj;rw [h] at this;exact absurd this.symm e
   ·exact h
 ·by_cases e:j=p'.src
  ·rw [e,aJ] at hj;cases hj
  ·rw [aS e] at hj;exact pa.mem_iff.2 (R.ac j q hj)
 ·by_cases e:j=p'.src
  ·rw [e,aJ] at hj;cases hj
  ·rw [aS e] at hj;exact R.src j q hj
 ·by_cases e:j=p'.src
  ·rw [e,aJ] at hj;cases hj
  ·rw [aS e] at hj;exact R.dst j q hj
 ·have hl:(f.put i { f.port i with rin:=l }).is j=f.is j:=by simp [Fab.is,Fab.put]
  rw [hl];by_cases e:j=p'.src
  ·rw [e];exact R.rg _ p' (.inl b3)
  ·rw [aS e] at hj;exact R.rg j q hj
theorem vH {p:Pkt}:∀{l:List Port} {i0 k:Nat},(l.flatMap λq=> q.rq++q.an)[k]?=some p->∃i req k' q,zV l i0 k=some (i0+i,req,k')/\l[i]?=some q/\(q.sort req)[k']?=some p
 | [],_,_,h=> by simp at h
 | q::l,i0,k,h=> by
  simp only [zaE] at h;unfold zV;by_cases h1:k < q.rq.length
  ·rw [if_pos h1];rw [za4,zaV h1] at h;exact⟨0,true,k,q,rfl,rfl,h⟩
  ·rw [if_neg h1];by_cases h2:k < q.rq.length+q.an.length
   ·rw [if_pos h2];rw [za4,zaZ (by omega),zaV (by omega)] at h;exact⟨0,false,k - q.rq.length,q,rfl,rfl,h⟩
   ·rw [if_neg h2];rw [zaZ (by rw [zan];omega),zan] at h;obtain⟨i,req,k',q',e1,e2,e3⟩:=vH (i0:=i0+1) h;exact⟨i+1,req,k',q',by rw [e1];simp only [zb3,Nat.add_comm 1 i],e2,e3⟩
theorem Di {k:Nat}{q q':Port}:∀{l:List Port},l[k]?=some q->q'.rq=q.rq->q'.an=q.an->(l.set k q').flatMap (λq=> q.rq++q.an)=l.flatMap (λq=> q.rq++q.an):=by
 induction k with
 | zero=>
  intro l h a b;cases l with
  | nil=> simp at h
  | cons x l=>
   simp only [zaP,zaa] at h;subst h;simp [a,b]
 | succ k ih=>
  intro l h a b;cases l with
  | nil=> simp at h
  | cons x l=>
   simp only [zbb] at h;simp only [zb6,zaE,ih h a b]
theorem Kt {k:Nat}:∀{l:List Pkt},l[k]?=some p->(p::l.eraseIdx k).Perm l:=by
 induction k with
 | zero=>
  intro l h;cases l with
  | nil=> simp at h
  | cons x l=>
   simp only [zaP,zaa] at h;subst h;exact .refl _
 | succ k ih=>
  intro l h;cases l with
  | nil=> simp at h
  | cons x l=>
   simp only [zbb] at h;simp only [zc6];exact(List.Perm.swap _ _ _).trans ((ih h).cons _)
theorem vI {f:Fab}{i:Nat}{q:Port}(h:f.l[i]?=some q):f.port i=q:=by
 unfold Fab.port;rw [zar,zao,h,zav]
theorem Ea {f:Fab}{i:Nat}{q:Port}(h:f.l[i]?=some q):f.is i=true:=by
 have:=(zai.1 h).1;unfold Fab.is;simp only [zaf,decide_eq_true_eq];exact⟨by omega,by omega⟩
theorem pJ.deliver(R:pJ f msg)(hin:∀p∈f.all,f.is p.dst=true)(a b m:Int):pJ (f.deliver a b m).1 msg:=by
 unfold Fab.deliver;split
 ·exact R
 split
 ·exact R
 rename_i p hp;have hd:=hin p (zau hp);split
 ·exact R
 split
 ·exact R
 rename_i hr;simp only;cases hk:pV p.aO with
 | true=>
  have hset:(f.port p.dst).kN true ((f.port p.dst).pF true++[p])=(⟨(f.port p.dst).rq,(f.port p.dst).rin++[p],(f.port p.dst).an,(f.port p.dst).ain⟩:Port):=by simp [Port.kN,Port.pF]
  rw [hset];have hall:(f.put p.dst (⟨(f.port p.dst).rq,(f.port p.dst).rin++[p],(f.port p.dst).an,(f.port p.dst).ain⟩:Port)).all[a.toNat]?=some p:=by
   unfold Fab.all Fab.put;rw [Di (q':=(⟨(f.port p.dst).rq,(f.port p.dst).rin++[p],(f.port p.dst).an,(f.port p.dst).ain⟩:Port)) (fB hd) rfl rfl];exact hp
  obtain⟨i,req,k',q,f1,f2,f3⟩:=vH (i0:=0) hall;rw [zaW] at f1
  -- the aqw port,as it was
  have hq:∃q0,f.l[i]?=some q0/\q.rq=q0.rq/\q.an=q0.an:=by
   rcases sG hd f2 with⟨e,rfl⟩ | ⟨_,h⟩
   ·exact⟨f.port p.dst,by rw [e];exact fB hd,rfl,rfl⟩
   ·exact⟨q,h,rfl,rfl⟩
  obtain⟨q0,g1,g2,g3⟩:=hq;have anc:req=true:=by
   cases req with
   | true=> rfl
   | false=>
    have hm:p∈q.an:=zau f3;rw [g3] at hm;have:=((R.port i q0 g1).an p hm).2.1;rw [hk] at this;cases this
  subst anc;have hm:p∈q0.rq:=by rw [<-g2];exact zau f3
  have hsrc:=((R.port i q0 g1).rq p hm).1;have am9:=((R.port i q0 g1).rq p hm).2.2;have air:(f.put p.dst (⟨(f.port p.dst).rq,(f.port p.dst).rin++[p],(f.port p.dst).an,(f.port p.dst).ain⟩:Port)).remove a.toNat=(f.put p.dst (⟨(f.port p.dst).rq,(f.port p.dst).rin++[p],(f.port p.dst).an,(f.port p.dst).ain⟩:Port)).put i (⟨q.rq.eraseIdx k',q.rin,q.an,q.ain⟩:Port):=by
   have hpq:(f.put p.dst (⟨(f.port p.dst).rq,(f.port p.dst).rin++[p],(f.port p.dst).an,(f.port p.dst).ain⟩:Port)).port i=q:=vI f2;unfold Fab.remove;rw [f1];simp only [hpq,Port.drop,Port.jX,Port.sort,if_true]
  rw [air];have hi1:(f.put p.dst (⟨(f.port p.dst).rq,(f.port p.dst).rin++[p],(f.port p.dst).an,(f.port p.dst).ain⟩:Port)).is i=true:=Ea f2;have p1:(xR (f.put p.dst (⟨(f.port p.dst).rq,(f.port p.dst).rin++[p],(f.port p.dst).an,(f.port p.dst).ain⟩:Port))).Perm (p::xR f):=by
   have:=jg (g:=vC) (fB hd) (q':=(⟨(f.port p.dst).rq,(f.port p.dst).rin++[p],(f.port p.dst).an,(f.port p.dst).ain⟩:Port)) (x:=[]) (y:=[p]) (by
    simp only [vC,zaL,<-za4];exact zdm)
   simpa [xR,Fab.put] using this
  have p2:(p::xR ((f.put p.dst (⟨(f.port p.dst).rq,(f.port p.dst).rin++[p],(f.port p.dst).an,(f.port p.dst).ain⟩:Port)).put i (⟨q.rq.eraseIdx k',q.rin,q.an,q.ain⟩:Port))).Perm (xR (f.put p.dst (⟨(f.port p.dst).rq,(f.port p.dst).rin++[p],(f.port p.dst).an,(f.port p.dst).ain⟩:Port))):=by
   have:=jg (g:=vC) f2 (q':=(⟨q.rq.eraseIdx k',q.rin,q.an,q.ain⟩:Port)) (x:=[p]) (y:=[]) (by
    simp only [vC,zaL,zcp,<-za5];exact(Kt f3).append_right _)
   simpa [xR,Fab.put] using this
  have pr:=(List.perm_cons p).1 (p2.trans p1);have pa:(xU ((f.put p.dst (⟨(f.port p.dst).rq,(f.port p.dst).rin++[p],(f.port p.dst).an,(f.port p.dst).ain⟩:Port)).put i (⟨q.rq.eraseIdx k',q.rin,q.an,q.ain⟩:Port))).Perm (xU f):=by
   have h1:=jg (g:=vF) (fB hd) (q':=(⟨(f.port p.dst).rq,(f.port p.dst).rin++[p],(f.port p.dst).an,(f.port p.dst).ain⟩:Port)) (x:=[]) (y:=[]) (by simp [vF]);have h2:=jg (g:=vF) f2 (q':=(⟨q.rq.eraseIdx k',q.rin,q.an,q.ain⟩:Port)) (x:=[]) (y:=[]) (by simp [vF]);have h3:=h2.trans h1
   simpa [xU,Fab.put] using h3
  have mid:∀(k:Nat) x,(f.put p.dst (⟨(f.port p.dst).rq,(f.port p.dst).rin++[p],(f.port p.dst).an,(f.port p.dst).ain⟩:Port)).l[k]?=some x->NC msg k x:=λk x hx=> by
   rcases sG hd hx with⟨e,rfl⟩ | ⟨_,h⟩
   ·have e':(k:Int)=p.dst:=by rw [e];exact vG hd
    rw [e'];have P:=R.at_ hd;refine⟨P.rq,λy hy=> ?_,P.an,P.ain⟩;rcases zaM.1 hy with hy | hy
    ·exact P.rin y hy
    ·simp only [zaj,zay,or_false] at hy;subst hy;exact⟨rfl,hk,by rw [hsrc];exact am9⟩
   ·exact R.port k x h
  refine⟨λk x hx=> ?_,((pr.map _).nodup_iff).2 R.rn,((pa.map _).nodup_iff).2 R.an,λj y hj=> pr.mem_iff.2 (R.rc j y hj),λj y hj=> pa.mem_iff.2 (R.ac j y hj),R.src,R.dst,λj y hj=> by have:=R.rg j y hj;simpa [Fab.is,Fab.put] using this⟩;rcases sG hi1 hx with⟨e,rfl⟩ | ⟨_,h⟩
  ·have Q:=mid i q f2;rw [zar] at e;subst e;exact⟨λy hy=> Q.rq y (zcD hy),Q.rin,Q.an,Q.ain⟩
  ·exact mid k x h
 | false=>
  have hset:(f.port p.dst).kN false ((f.port p.dst).pF false++[p])=(⟨(f.port p.dst).rq,(f.port p.dst).rin,(f.port p.dst).an,(f.port p.dst).ain++[p]⟩:Port):=by simp [Port.kN,Port.pF]
  rw [hset];have hall:(f.put p.dst (⟨(f.port p.dst).rq,(f.port p.dst).rin,(f.port p.dst).an,(f.port p.dst).ain++[p]⟩:Port)).all[a.toNat]?=some p:=by
   unfold Fab.all Fab.put;rw [Di (q':=(⟨(f.port p.dst).rq,(f.port p.dst).rin,(f.port p.dst).an,(f.port p.dst).ain++[p]⟩:Port)) (fB hd) rfl rfl];exact hp
  obtain⟨i,req,k',q,f1,f2,f3⟩:=vH (i0:=0) hall;rw [zaW] at f1;have hq:∃q0,f.l[i]?=some q0/\q.rq=q0.rq/\q.an=q0.an:=by
   rcases sG hd f2 with⟨e,rfl⟩ | ⟨_,h⟩
   ·exact⟨f.port p.dst,by rw [e];exact fB hd,rfl,rfl⟩
   ·exact⟨q,h,rfl,rfl⟩
  obtain⟨q0,g1,g2,g3⟩:=hq;have anc:req=false:=by
   cases req with
   | false=> rfl
   | true=>
    have hm:p∈q.rq:=zau f3;rw [g2] at hm;have:=((R.port i q0 g1).rq p hm).2.1;rw [hk] at this;cases this
  subst anc;have hm:p∈q0.an:=by rw [<-g3];exact zau f3
  have am9:=((R.port i q0 g1).an p hm).2.2;have air:(f.put p.dst (⟨(f.port p.dst).rq,(f.port p.dst).rin,(f.port p.dst).an,(f.port p.dst).ain++[p]⟩:Port)).remove a.toNat=(f.put p.dst (⟨(f.port p.dst).rq,(f.port p.dst).rin,(f.port p.dst).an,(f.port p.dst).ain++[p]⟩:Port)).put i (⟨q.rq,q.rin,q.an.eraseIdx k',q.ain⟩:Port):=by
   have hpq:(f.put p.dst (⟨(f.port p.dst).rq,(f.port p.dst).rin,(f.port p.dst).an,(f.port p.dst).ain++[p]⟩:Port)).port i=q:=vI f2;unfold Fab.remove;rw [f1];simp only [hpq,Port.drop,Port.jX,Port.sort,zae,if_false]
  rw [air];have hi1:(f.put p.dst (⟨(f.port p.dst).rq,(f.port p.dst).rin,(f.port p.dst).an,(f.port p.dst).ain++[p]⟩:Port)).is i=true:=Ea f2;have p1:(xU (f.put p.dst (⟨(f.port p.dst).rq,(f.port p.dst).rin,(f.port p.dst).an,(f.port p.dst).ain++[p]⟩:Port))).Perm (p::xU f):=by
   have:=jg (g:=vF) (fB hd) (q':=(⟨(f.port p.dst).rq,(f.port p.dst).rin,(f.port p.dst).an,(f.port p.dst).ain++[p]⟩:Port)) (x:=[]) (y:=[p]) (by
    simp only [vF,zaL,<-za4];exact zdm)
   simpa [xU,Fab.put] using this
  have p2:(p::xU ((f.put p.dst (⟨(f.port p.dst).rq,(f.port p.dst).rin,(f.port p.dst).an,(f.port p.dst).ain++[p]⟩:Port)).put i (⟨q.rq,q.rin,q.an.eraseIdx k',q.ain⟩:Port))).Perm (xU (f.put p.dst (⟨(f.port p.dst).rq,(f.port p.dst).rin,(f.port p.dst).an,(f.port p.dst).ain++[p]⟩:Port))):=by
   have:=jg (g:=vF) f2 (q':=(⟨q.rq,q.rin,q.an.eraseIdx k',q.ain⟩:Port)) (x:=[p]) (y:=[]) (by
    simp only [vF,zaL,zcp,<-za5];exact(Kt f3).append_right _)
   simpa [xU,Fab.put] using this
  have pa:=(List.perm_cons p).1 (p2.trans p1);have pr:(xR ((f.put p.dst (⟨(f.port p.dst).rq,(f.port p.dst).rin,(f.port p.dst).an,(f.port p.dst).ain++[p]⟩:Port)).put i (⟨q.rq,q.rin,q.an.eraseIdx k',q.ain⟩:Port))).Perm (xR f):=by
   have h1:=jg (g:=vC) (fB hd) (q':=(⟨(f.port p.dst).rq,(f.port p.dst).rin,(f.port p.dst).an,(f.port p.dst).ain++[p]⟩:Port)) (x:=[]) (y:=[]) (by simp [vC]);have h2:=jg (g:=vC) f2 (q':=(⟨q.rq,q.rin,q.an.eraseIdx k',q.ain⟩:Port)) (x:=[]) (y:=[]) (by simp [vC]);have h3:=h2.trans h1
   simpa [xR,Fab.put] using h3
  have mid:∀(k:Nat) x,(f.put p.dst (⟨(f.port p.dst).rq,(f.port p.dst).rin,(f.port p.dst).an,(f.port p.dst).ain++[p]⟩:Port)).l[k]?=some x->NC msg k x:=λk x hx=> by
   rcases sG hd hx with⟨e,rfl⟩ | ⟨_,h⟩
   ·have e':(k:Int)=p.dst:=by rw [e];exact vG hd
    rw [e'];have P:=R.at_ hd;refine⟨P.rq,P.rin,P.an,λy hy=> ?_⟩;rcases zaM.1 hy with hy | hy
    ·exact P.ain y hy
    ·simp only [zaj,zay,or_false] at hy;subst hy;exact⟨rfl,hk,am9⟩
   ·exact R.port k x h
  refine⟨λk x hx=> ?_,((pr.map _).nodup_iff).2 R.rn,((pa.map _).nodup_iff).2 R.an,λj y hj=> pr.mem_iff.2 (R.rc j y hj),λj y hj=> pa.mem_iff.2 (R.ac j y hj),R.src,R.dst,λj y hj=> by have:=R.rg j y hj;simpa [Fab.is,Fab.put] using this⟩;rcases sG hi1 hx with⟨e,rfl⟩ | ⟨_,h⟩
  ·have Q:=mid i q f2;rw [zar] at e;subst e;exact⟨Q.rq,Q.rin,λy hy=> Q.an y (zcD hy),Q.ain⟩
  ·exact mid k x h
end
section
variable {c:Cache}{aj L:Int}{e x:Ent}
theorem QT(h:c.find aj=some e):e.aj=aj:=by
 unfold Cache.find at h;have:=zb1 h
 simpa using this
theorem xW(hl:Lines c.l)(h0:0<=e.aj)(h:c.find e.aj=some x)(L:Int):(c.put e).1.find L=if L=e.aj then some { e with used:=x.used } else c.find L:=by
 rw [lH hl h0 h];unfold Cache.find;simp only [List.find?_map];have hf:((λy:Ent=> decide (y.aj=L)) ∘ λy:Ent=> if y.aj=e.aj then { e with used:=x.used } else y)=λy=> decide (y.aj=L):=by
  funext y
  simp only [Function.comp];by_cases hy:y.aj=e.aj
  ·simp [hy]
  ·simp [hy]
 rw [hf];by_cases hL:L=e.aj
 ·rw [if_pos hL,hL];unfold Cache.find at h;rw [h];have:=zb1 h;simp only [decide_eq_true_eq] at this;simp [this]
 ·rw [if_neg hL];cases hq:c.l.find? λy=> decide (y.aj=L) with
  | none=> rfl
  | some y=>
   have:=zb1 hq;simp only [decide_eq_true_eq] at this;have hne:¬y.aj=e.aj:=λh=> hL (this.symm.trans h);simp [hne]
theorem QU(hl:Lines c.l)(h0:0<=e.aj)(hn:c.find e.aj=none)(hf:c.full e.aj=false):∃u,∀L,(c.put e).1.find L=if L=e.aj then some { e with used:=u } else c.find L:=by
 refine⟨c.bW+1,λL=> ?_⟩;have h1:=yY.2 hn;unfold Cache.put;rw [if_neg (by omega),h1];simp only [hf,zae,if_false];unfold Cache.find at hn ⊢;rw [zdH];by_cases hL:L=e.aj
 ·rw [if_pos hL,hL,hn];simp
 ·rw [if_neg hL];have:¬e.aj=L:=λh=> hL h.symm;simp [this]
theorem Bg(hl:Lines c.l)(L:Int):(c.drop aj).find L=if L=aj then none else c.find L:=by
 rw [Gx hl];unfold Cache.find;simp only [List.find?_filter];by_cases hL:L=aj
 ·rw [if_pos hL,zbJ];intro y _;simp only [decide_eq_true_eq,ne_eq,decide_not,za3,decide_eq_false_iff_not];rintro⟨h1,h2⟩;exact h1 (h2.trans hL)
 ·rw [if_neg hL]
  congr 1
  funext y
  by_cases hy:y.aj=L
  ·simp [hy,hL]
  ·simp [hy]
theorem XH(hl:Lines c.l)(h:c.find aj=some e)(L:Int):(c.touch aj).find L=if L=aj then some { e with used:=c.bW+1 } else c.find L:=by
 have he:=QT h;rw [xH hl h];unfold Cache.find;simp only [List.find?_map];have hf:((λy:Ent=> decide (y.aj=L)) ∘ λy:Ent=> if y.aj=aj then { e with used:=c.bW+1 } else y)=λy=> decide (y.aj=L):=by
  funext y
  simp only [Function.comp];by_cases hy:y.aj=aj
  ·simp [hy,he]
  ·simp [hy]
 rw [hf];by_cases hL:L=aj
 ·rw [if_pos hL,hL];unfold Cache.find at h;rw [h];simp [he]
 ·rw [if_neg hL];cases hq:c.l.find? λy=> decide (y.aj=L) with
  | none=> rfl
  | some y=>
   have:=zb1 hq;simp only [decide_eq_true_eq] at this;have hne:¬y.aj=aj:=λh=> hL (this.symm.trans h);simp [hne]
end
section
variable {t:Turns}{aj who id L:Int}
theorem IY(h:GI t)(h0:0<=who)(ho:t.owner aj=-1)(hw:t.ws aj=[]):(t.ask aj who id).2=true/\(∀L,(t.ask aj who id).1.owner L=if L=aj then who else t.owner L)/\∀L,(t.ask aj who id).1.ws L=t.ws L:=by
 have hd:t.owned aj=false:=by
  cases e:t.owned aj with
  | false=> rfl
  | true=> exact absurd ho ((h.owned aj).1 e)
 have ht:t.ask aj who id=({ t with fV:=lT t.fV aj who },true):=by
  unfold Turns.ask;rw [if_neg (by omega)];simp [hd,hw]
 rw [ht];refine⟨rfl,λL=> ?_,λL=> rfl⟩;unfold Turns.owner;simp only [iy];by_cases hL:L=aj
 ·simp [hL]
 ·rw [if_neg hL,if_neg (λh=> hL h.symm)]
theorem IZ(h:GI t)(h0:0<=who)(ho:t.owner aj≠-1∨t.ws aj≠[]):(t.ask aj who id).2=false/\(∀L,(t.ask aj who id).1.owner L=t.owner L)/\∀L,(t.ask aj who id).1.ws L=if L=aj then t.ws aj++[(who,id)] else t.ws L:=by
 have ht:t.ask aj who id=({ t with wait:=lT t.wait aj (t.ws aj++[(who,id)]) },false):=by
  unfold Turns.ask;rw [if_neg (by omega),if_pos];rcases ho with ho | ho
  ·rw [(h.owned aj).2 ho];simp
  ·simp [ho]
 rw [ht];refine⟨rfl,λL=> rfl,λL=> ?_⟩;unfold Turns.ws;simp only [iy];by_cases hL:L=aj
 ·simp [hL]
 ·rw [if_neg hL,if_neg (λh=> hL h.symm)]
theorem XI(h:GI t)(ho:t.owner aj=-1){w:Int × Int}{ws:List (Int × Int)}(hw:t.ws aj=w::ws):(t.next aj).2=some w/\(∀L,(t.next aj).1.owner L=if L=aj then w.1 else t.owner L)/\∀L,(t.next aj).1.ws L=if L=aj then ws else t.ws L:=by
 have hd:t.owned aj=false:=by
  cases e:t.owned aj with
  | false=> rfl
  | true=> exact absurd ho ((h.owned aj).1 e)
 have ht:t.next aj=({ fV:=lT t.fV aj w.1,wait:=lT t.wait aj ws },some w):=by
  unfold Turns.next
  simp [hd,hw]
 rw [ht];refine⟨rfl,λL=> ?_,λL=> ?_⟩
 ·unfold Turns.owner;simp only [iy];by_cases hL:L=aj
  ·simp [hL]
  ·rw [if_neg hL,if_neg (λh=> hL h.symm)]
 ·unfold Turns.ws;simp only [iy];by_cases hL:L=aj
  ·simp [hL]
  ·rw [if_neg hL,if_neg (λh=> hL h.symm)]
theorem ND(h:GI t)(h0:0<=who)(ho:t.owner aj=who):(t.release aj who).2=0/\(∀L,(t.release aj who).1.owner L=if L=aj then -1 else t.owner L)/\∀L,(t.release aj who).1.ws L=t.ws L:=by
 have ha:jl t.fV aj=some who:=by
  unfold Turns.owner at ho;cases e:jl t.fV aj with
  | none=> rw [e] at ho;simp at ho;omega
  | some v=> rw [e] at ho;simp only [zav] at ho;rw [ho]
 have ht:t.release aj who=({ t with fV:=x9 t.fV aj },0):=by
  unfold Turns.release;rw [if_pos ha]
 rw [ht];refine⟨rfl,λL=> ?_,λL=> rfl⟩;unfold Turns.owner;simp only [BZ h.ok];by_cases hL:L=aj
 ·simp [hL]
 ·rw [if_neg hL,if_neg (λh=> hL h.symm)]
end
theorem Ku {dD:Rows}{aj:Int}{r:Row}(L:Int):jd (lT dD aj r) L=if L=aj then r else jd dD L:=by
 unfold jd;rw [iy];by_cases hL:L=aj
 ·simp [hL]
 ·rw [if_neg hL,if_neg (λh=> hL h.symm)]
def apW(s:Int):Nat:=if s=1 then 9 else if s=4 then 6 else if s=6 then 0 else 3
def loc(s:Int):Out->Nat
 | .idle=> 0
 | .req _=> 3
 | .wait=> 2
 | .ans _=> if s=3 then 4 else 1
def Dp(d:bP)(o:Out):Nat:=if d.step=0 then 13 else apW d.step+loc d.step o+if d.aO=3∨d.step=6 then 13 else 0
def wt(d:bP)(L:Int)(x:Option Ent):Nat:=if x=none then 0 else if d.aO=3/\d.step≠0/\d.step≠6/\d.aj=L then 3 else 16
theorem aiF {d:bP}{L:Int}{x:Option Ent}:wt d L x<=16:=by
 unfold wt;split
 ·omega
 ·split <;> omega
theorem abv {d:bP}{L:Int}:wt d L none=0:=rfl
theorem ane {d:bP}{L:Int}{e:Ent}:3<=wt d L (some e):=by
 unfold wt;rw [if_neg (zdy e)];split <;> omega
theorem aiG {d:bP}{L:Int}{e e':Ent}:wt d L (some e)=wt d L (some e'):=by
 unfold wt;simp
theorem xg {d:bP}{L:Int}{x:Option Ent}(h:d.step=0∨d.step=6∨d.aj≠L∨d.aO≠3):wt d L x=if x=none then 0 else 16:=by
 unfold wt;split
 ·rfl
 ·rw [if_neg (by omega)]
def apX(s s':Int):Bool:=decide (apW s'+3 < apW s+if s=3 then 4 else 1)
theorem sH {d d':bP}{x y:Option Ent}{p q:Pkt}{L:Int}(hk:d'.aO=d.aO)(hl:d'.aj=d.aj)(h0:d.step≠0)(h6:d.step≠6)(hs:apX d.step d'.step=true)(hx:(d'.step≠6/\d'.step≠0/\y=x)∨(d'.step=6/\d.aO=3/\y=none)):Dp d' (.req q)+wt d' L y < Dp d (.ans p)+wt d L x:=by
 have hs:=of_decide_eq_true hs;have e1:loc d'.step (.req q)=3:=rfl;have e2:loc d.step (.ans p)=if d.step=3 then 4 else 1:=rfl;rcases hx with⟨h1,h2,rfl⟩ | ⟨h1,h2,rfl⟩
 ·have hw:wt d' L y=wt d L y:=by
   unfold wt;rw [hk,hl];simp only [h0,h6,h1,h2,ne_eq,not_false_eq_true,true_and]
  rw [hw];unfold Dp;rw [if_neg h0,if_neg h2,hk];simp only [h1,h6,or_false];rw [e1,e2];omega
 ·rw [abv];unfold Dp;rw [if_neg h0,if_neg (by omega),if_pos (.inr h1),if_pos (.inl h2)];rw [e1,e2];omega
def zl(n:Int)(f:Int->Nat):Nat:=((List.range n.toNat).map λj:Nat=> f j).sum
theorem abw {f g:Nat->Nat}{i:Nat}:∀{n:Nat},i < n->(∀j,j≠i->g j=f j)->((List.range n).map g).sum+f i=((List.range n).map f).sum+g i
 | 0,h,_=> absurd h (Nat.not_lt_zero i)
 | n+1,h,hf=> by
  simp only [zcJ,zbo,List.sum_append,zaA,zbS,zbW,List.sum_nil];by_cases e:i=n
  ·subst e;have:(List.range i).map g=(List.range i).map f:=zbq λj hj=> hf j (by have:=za9.1 hj;omega);rw [this];omega
  ·have:=abw (f:=f) (g:=g) (n:=n) (by omega) hf;have:=hf n λh=> e h.symm;omega
theorem IB {n i:Int}{f g:Int->Nat}(hi:0<=i/\i < n)(h:∀j,j≠i->g j=f j):zl n g+f i=zl n f+g i:=by
 obtain⟨k,rfl⟩:∃k:Nat,i=k:=⟨i.toNat,by omega⟩
 exact abw (f:=λj=> f j) (g:=λj=> g j) (i:=k) (by omega) λj hj=> h j (by omega)
def pot(c:Cfg)(lf:Int->Nat)(a:Abs):Nat:=zl c.aH (λj=> 33*lf j+Dp (a.aI j) (a.msg j))+zl c.aH λj=> zl c.aY λL=> wt (a.aI j) L (a.ent L j)
theorem TW {c:Cfg}{lf lf':Int->Nat}{a a':Abs}{i k L:Int}(hi:0<=i/\i < c.aH)(hk:0<=k/\k < c.aH)(hL:0<=L/\L < c.aY)(h1:∀j,j≠i->lf' j=lf j/\a'.aI j=a.aI j/\a'.msg j=a.msg j)(h2:∀j L',j≠k∨L'≠L->wt (a'.aI j) L' (a'.ent L' j)=wt (a.aI j) L' (a.ent L' j))
  (h3:33*lf' i+Dp (a'.aI i) (a'.msg i)+wt (a'.aI k) L (a'.ent L k) < 33*lf i+Dp (a.aI i) (a.msg i)+wt (a.aI k) L (a.ent L k)):pot c lf' a' < pot c lf a:=by
 have e1:=IB (f:=λj=> 33*lf j+Dp (a.aI j) (a.msg j)) (g:=λj=> 33*lf' j+Dp (a'.aI j) (a'.msg j)) hi λj hj=> by
  obtain⟨b1,b2,b3⟩:=h1 j hj;simp only [b1,b2,b3]
 have e2:=IB (f:=λj=> zl c.aY λL=> wt (a.aI j) L (a.ent L j)) (g:=λj=> zl c.aY λL=> wt (a'.aI j) L (a'.ent L j)) hk λj hj=> by
  have:(λL=> wt (a'.aI j) L (a'.ent L j))=λL=> wt (a.aI j) L (a.ent L j):=funext λL'=> h2 j L' (.inl hj);simp only [this]
 have e3:=IB (f:=λL=> wt (a.aI k) L (a.ent L k)) (g:=λL=> wt (a'.aI k) L (a'.ent L k)) hL λL' h=> h2 k L' (.inr h);unfold pot;omega
theorem lN {E:uf}{i:Int}:nV E i (E i)=E:=by
 funext j
 by_cases h:j=i
 ·rw [h,fP]
 ·rw [fC h]
theorem abx {d:bP}{p:Pkt}(hk:p.aO=BN (zU d.step))(hid:p.id=d.id)(hl:p.aj=d.aj)(hs:1<=d.step/\d.step<=6):d.fits p=true:=by
 have:d.step=1∨d.step=2∨d.step=3∨d.step=4∨d.step=5∨d.step=6:=by omega
 unfold bP.fits;simp only [hk,hid,hl,decide_true,zdb,decide_eq_true_eq];rcases this with h | h | h | h | h | h <;> simp [h,BN,zU]
structure anf(c:Cfg)(N hm:Int)(E:uf)(r:Row)(v:List Int)(i:Int)(n:Node)(ca:Cache)(d':bP):Prop where
 aj:d'.aj=n.aI.aj
 aO:d'.aO=n.aI.aO
 id:d'.id=n.aI.id
 step:d'.step≠0
 fall:∀p q,¬(d'.step=6/\d'.aO≠3)->Dp d' (.req q)+wt d' n.aI.aj (ca.find n.aI.aj) < Dp n.aI (.ans p)+wt n.aI n.aI.aj (n.aG.find n.aI.aj)
 other:∀L,L≠n.aI.aj->ca.find L=n.aG.find L
 miss:d'.aO=1->d'.step=1∨d'.step=2->ca.find n.aI.aj=none
 next:(¬(d'.step=6/\d'.aO≠3)/\Hold N hm (nV E i (ca.find n.aI.aj)) r v i d' (.req (d'.ask i hm)))∨
  (d'.step=6/\d'.aO≠3/\∃e,ca.find n.aI.aj=some e/\e.data=v/\
   ((n.aI.aO=1/\Hold N hm (nV E i (some e)) r v i d' (.req (d'.ask i hm)))∨
    (n.aI.aO=2/\e.bZ=true/\∀e':Ent,e'.back=e.back->e'.fwd=e.fwd->e'.bZ=e.bZ->Hold N hm (nV E i (some e')) r e'.data i d' (.req (d'.ask i hm)))))
section
variable {c:Cfg}{N hm:Int}{E:uf}{r:Row}{v:List Int}{i:Int}{n:Node}
theorem TY {ca:Cache}(hl:Lines ca.l){e:Ent}(h0:0<=e.aj)(hf:ca.full e.aj=false):∃u,∀L,(ca.put e).1.find L=if L=e.aj then some { e with used:=u } else ca.find L:=by
 cases h:ca.find e.aj with
 | none=> exact QU hl h0 h hf
 | some x=> exact⟨x.used,λL=> xW hl h0 h L⟩
theorem QV {d:bP}{me:Int}{ca:Cache}{x:Int}(hx:x=match ca.find d.aj with
   | some own=> if d.next=me then own.fwd else d.next
   | none=> d.next):dn d me ca=if x≠-1 then(ca,{ d with next:=x,step:=3 }) else((ca.put ⟨-1,-1,d.aj,0,true,d.data⟩).1,{ d with next:=x,step:=6,aU:=2,head:=me,data:=[] }):=by
 unfold dn;cases hc:ca.find d.aj with
 | none=>
  rw [hc] at hx;simp only at hx;subst hx;rfl
 | some own=>
  rw [hc] at hx;simp only at hx;by_cases h:d.next=me
  ·rw [if_pos h] at hx;simp only [if_pos h];subst hx;rfl
  ·rw [if_neg h] at hx;simp only [if_neg h];subst hx;rfl
theorem QW(hl:Lines n.aG.l)(hi:0<=i/\i < N)(hE:E i=n.aG.find n.aI.aj)(h0:0<=n.aI.aj)(hfull:n.aG.full n.aI.aj=false)(hk2:n.aI.aO=2)(hst:n.aI.step=1∨n.aI.step=3){d1:bP}(k1:d1.aO=2)(k2:d1.aj=n.aI.aj)(k3:d1.id=n.aI.id){R:List Int}(L:aiB N E v i R)(hd1:E i≠none->d1.data=v)(hd2:R=[]->d1.data=v)(hn:d1.next=hdI R (-1)):
  anf c N hm E r v i n (dn d1 i n.aG).1 (dn d1 i n.aG).2:=by
 obtain⟨x,hx⟩:∃x,x=match E i with
   | some own=> if d1.next=i then own.fwd else d1.next
   | none=> d1.next:=⟨_,rfl⟩
 have hx':=hx;rw [hE,<-k2] at hx';rw [QV hx'];rcases aiC (hm:=hm) (r:=r) hi.1 L hd1 hd2 hn hx k1 with⟨hx1,H⟩ | ⟨hx1,hdv,hall⟩
 ·rw [if_pos hx1];refine⟨k2,k1.trans hk2.symm,k3,(by decide:(3:Int)≠0),λ_ _ _=> sH (k1.trans hk2.symm) k2 (by omega) (by omega) (by rcases hst with h | h <;> rw [h] <;> rfl) (.inl ⟨(by decide:(3:Int)≠6),(by decide:(3:Int)≠0),rfl⟩),λ_ _=> rfl,λh=> absurd (show d1.aO=1 from h) (by omega),.inl ⟨λh=> absurd (show(3:Int)=6 from h.1) (by decide),?_⟩⟩;rw [<-hE,lN];exact H _ rfl k1 rfl rfl
 ·rw [if_neg (by rw [hx1];decide)];obtain⟨u,hu⟩:=TY (ca:=n.aG) hl (e:=⟨-1,-1,d1.aj,0,true,d1.data⟩) (by rw [k2];exact h0) (by rw [k2];exact hfull);simp only at hu;refine⟨k2,k1.trans hk2.symm,k3,(by decide:(6:Int)≠0),λ_ _ h=> absurd ⟨rfl,(show d1.aO≠3 by omega)⟩ h,λL hL=> by rw [hu,if_neg (by rw [k2];exact hL)],λh=> absurd (show d1.aO=1 from h) (by omega),.inr ⟨rfl,by show d1.aO≠3;omega,⟨-1,-1,d1.aj,u,true,d1.data⟩,by rw [hu,if_pos k2.symm],hdv,.inr ⟨hk2,rfl,λe' a b c'=> ?_⟩⟩⟩;exact Iw hi hall a b c' rfl rfl rfl
theorem XJ(hl:Lines n.aG.l)(hi:0<=i/\i < N)(hv:v≠[])(hE:E i=n.aG.find n.aI.aj)(h0:0<=n.aI.aj)(hfull:n.aI.aO≠3->n.aG.full n.aI.aj=false)(hkr:1<=n.aI.aO/\n.aI.aO<=3)(hmiss:n.aI.aO=1->n.aI.step=1∨n.aI.step=2->E i=none){p:Pkt}(H:Hold N hm E r v i n.aI (.ans p)):
  ∃ca d',n.after i p=(ca,d',true)/\anf c N hm E r v i n ca d':=by
 obtain⟨f1,f2,f3,f4,f5,f6⟩:=H.ans;have hfit:=abx f4 f2 f3 (by omega);have one:=hkr;unfold Node.after;have hh:∃q,Out.ans p=q/\Hold N hm E r v i n.aI q:=⟨_,rfl,H⟩
 obtain⟨q,hq,H⟩:=hh;cases H with
 | granted h1 W=>
  cases hq;have hk3:n.aI.aO=1∨n.aI.aO=2∨n.aI.aO=3:=by omega
  rcases hk3 with hk | hk | hk
  ·rw [if_pos hk];unfold dW;rw [if_neg (by rw [hk,hfit];simp),if_pos h1];simp only;have hEn:=hmiss hk (.inl h1);by_cases hs:r.aU≠0
   ·rw [if_pos hs];refine⟨_,_,rfl,rfl,rfl,rfl,(by decide:(2:Int)≠0),λ_ _ _=> sH rfl rfl (by omega) (by omega) (by rw [h1];rfl) (.inl ⟨(by decide:(2:Int)≠6),(by decide:(2:Int)≠0),rfl⟩),λ_ _=> rfl,λ_ _=> by rw [<-hE];exact hEn,.inl ⟨λh=> absurd (show(2:Int)=6 from h.1) (by decide),?_⟩⟩;rw [<-hE,lN];exact Iu (d:={ n.aI with aU:=r.aU,head:=r.head,told:=r.head,data:=r.data,step:=2 }) hk W hs rfl rfl
   ·rw [if_neg hs];obtain⟨u,hu⟩:=TY (ca:=n.aG) hl (e:=⟨-1,-1,n.aI.aj,0,false,r.data⟩) h0 (hfull (by omega));simp only at hu;have hr0:r.aU=0:=Classical.not_not.1 hs;refine⟨_,_,rfl,rfl,rfl,rfl,(by decide:(6:Int)≠0),λ_ _ h=> absurd ⟨rfl,(show n.aI.aO≠3 by omega)⟩ h,λL hL=> by rw [hu,if_neg hL],λ_ h=> (h.elim (λh=> absurd (show(6:Int)=1 from h) (by decide)) λh=> absurd (show(6:Int)=2 from h) (by decide)),.inr ⟨rfl,by show n.aI.aO≠3;omega,⟨-1,-1,n.aI.aj,u,false,r.data⟩,by rw [hu,if_pos rfl],W.Ef (by rw [hr0];decide),.inl ⟨hk,?_⟩⟩⟩;exact Nv hi W hr0 rfl rfl rfl rfl rfl rfl rfl rfl
  ·rw [if_neg (by omega),if_pos hk];unfold dX;rw [if_neg (by rw [hk,hfit];simp),if_pos h1];simp only;refine⟨_,_,rfl,?_⟩;refine QW hl hi hE h0 (hfull (by omega)) hk (.inl h1) hk rfl rfl (Wf.left (i:=i) W) (λhe=> ?_) (λhl0=> ?_) W.head
   ·simp only [<-hE];cases hei:E i with
    | none=> exact absurd hei he
    | some own=> exact W.data i own hei
   ·simp only [<-hE];rw [W.empty hl0 i];exact W.Ef (by rw [W.st0.2 hl0];decide)
  ·rw [if_neg (by omega),if_neg (by omega),if_pos hk];unfold eH;rw [if_neg (by rw [hk,hfit];simp),if_pos h1];simp only;cases hc:n.aG.find n.aI.aj with
   | none=>
    simp only;refine⟨_,_,rfl,rfl,rfl,rfl,(by decide:(6:Int)≠0),λ_ _ _=> sH rfl rfl (by omega) (by omega) (by rw [h1];rfl) (.inr ⟨rfl,hk,hc⟩),λ_ _=> rfl,λh=> absurd (show n.aI.aO=1 from h) (by omega),.inl ⟨λh=> h.2 hk,?_⟩⟩;rw [<-hE,lN];exact Ny W rfl rfl rfl rfl
   | some e=>
    have hei:E i=some e:=hE.trans hc;simp only;by_cases hb:e.back=-1/\e.fwd=-1
    ·rw [if_pos hb];have hdr:=Bg (aj:=n.aI.aj) hl;refine⟨_,_,rfl,rfl,rfl,rfl,(by decide:(6:Int)≠0),λ_ _ _=> sH rfl rfl (by omega) (by omega) (by rw [h1];rfl) (.inr ⟨rfl,hk,by rw [hdr,if_pos rfl]⟩),λL hL=> by rw [hdr,if_neg hL],λh=> absurd (show n.aI.aO=1 from h) (by omega),.inl ⟨λh=> h.2 hk,?_⟩⟩;rw [hdr,if_pos rfl];exact IU W hv hei hb.1 hb.2 rfl rfl rfl rfl
    ·rw [if_neg hb];by_cases hb1:e.back=-1
     ·rw [if_pos hb1];refine⟨_,_,rfl,rfl,rfl,rfl,(by decide:(5:Int)≠0),λ_ _ _=> sH rfl rfl (by omega) (by omega) (by rw [h1];rfl) (.inl ⟨(by decide:(5:Int)≠6),(by decide:(5:Int)≠0),rfl⟩),λ_ _=> rfl,λh=> absurd (show n.aI.aO=1 from h) (by omega),.inl ⟨λh=> h.2 hk,?_⟩⟩;rw [<-hE,lN];exact IV W hei hb1 (λh=> hb ⟨hb1,h⟩) rfl hk rfl rfl rfl
     ·rw [if_neg hb1];refine⟨_,_,rfl,rfl,rfl,rfl,(by decide:(4:Int)≠0),λ_ _ _=> sH rfl rfl (by omega) (by omega) (by rw [h1];rfl) (.inl ⟨(by decide:(4:Int)≠6),(by decide:(4:Int)≠0),rfl⟩),λ_ _=> rfl,λh=> absurd (show n.aI.aO=1 from h) (by omega),.inl ⟨λh=> h.2 hk,?_⟩⟩;rw [<-hE,lN];exact IW W hei hb1 rfl hk rfl rfl rfl
 | attached h1 h2 h3 h4 R C M D X F=>
  cases hq;rw [if_pos h2];unfold dW;rw [if_neg (by rw [h2,hfit];simp),if_neg (by omega),if_pos h1];simp only;have hEn:=hmiss h2 (.inr h1);obtain⟨u,hu⟩:=TY (ca:=n.aG) hl (e:=⟨n.aI.head,-1,n.aI.aj,0,false,v⟩) h0 (hfull (by omega));simp only at hu;refine⟨_,_,rfl,rfl,rfl,rfl,(by decide:(6:Int)≠0),λ_ _ h=> absurd ⟨rfl,(show n.aI.aO≠3 by omega)⟩ h,λL hL=> by rw [hu,if_neg hL],λ_ h=> (h.elim (λh=> absurd (show(6:Int)=1 from h) (by decide)) λh=> absurd (show(6:Int)=2 from h) (by decide)),.inr ⟨rfl,by show n.aI.aO≠3;omega,⟨n.aI.head,-1,n.aI.aj,u,false,v⟩,by rw [hu,if_pos rfl],rfl,.inl ⟨h2,?_⟩⟩⟩;exact Nw hi hEn h3 h4 R C M D X F hv rfl rfl rfl rfl rfl rfl rfl rfl
 | Ir h1 h2 L hcl h3=>
  cases hq;rw [if_neg (by omega),if_pos h2];unfold dX;rw [if_neg (by rw [h2,hfit];simp),if_neg (by omega),if_pos h1];simp only;refine⟨_,_,rfl,?_⟩;refine QW hl hi hE h0 (hfull (by omega)) h2 (.inr h1) h2 rfl rfl L (λhe=> ?_) (λ_=> ?_) rfl
  ·simp only [<-hE];cases hei:E i with
   | none=> exact absurd hei he
   | some own=> exact h3 he
  ·simp only [<-hE];cases hei:E i with
   | none=> rfl
   | some own=> exact h3 (by rw [hei];simp)
 | zh h1 h2 M h3 C C' h4 h5 h6=>
  cases hq;rw [if_neg (by omega),if_neg (by omega),if_pos h2];unfold eH;rw [if_neg (by rw [h2,hfit];simp),if_neg (by omega),if_pos h1];by_cases hn:n.aI.next=-1
  ·rw [if_pos hn];unfold gQ;have hdr:=Bg (aj:=n.aI.aj) hl;have hpost:=(M.rng.mid.2.2.2.2.1.abt).1 (h5.symm.trans hn);refine⟨_,_,rfl,rfl,rfl,rfl,(by decide:(6:Int)≠0),λ_ _ _=> sH rfl rfl (by omega) (by omega) (by rw [h1];rfl) (.inr ⟨rfl,h2,by rw [hdr,if_pos rfl]⟩),λL hL=> by rw [hdr,if_neg hL],λh=> absurd (show n.aI.aO=1 from h) (by omega),.inl ⟨λh=> h.2 h2,?_⟩⟩;rw [hdr,if_pos rfl];exact Iy M h3 C hpost rfl rfl h6 rfl
  ·rw [if_neg hn];refine⟨_,_,rfl,rfl,rfl,rfl,(by decide:(5:Int)≠0),λ_ _ _=> sH rfl rfl (by omega) (by omega) (by rw [h1];rfl) (.inl ⟨(by decide:(5:Int)≠6),(by decide:(5:Int)≠0),rfl⟩),λ_ _=> rfl,λh=> absurd (show n.aI.aO=1 from h) (by omega),.inl ⟨λh=> h.2 h2,?_⟩⟩;rw [<-hE,lN];exact IX (d:={ n.aI with step:=5 }) M (λh=> hn (by rw [h5,h];rfl)) C C' rfl h2 h4 h5 h6
 | vw h1 h2 M h3 C C' h4 h5 h6=>
  cases hq;rw [if_neg (by omega),if_neg (by omega),if_pos h2];unfold eH;rw [if_neg (by rw [h2,hfit];simp),if_neg (by omega),if_neg (by omega),if_pos h1];have hdr:=Bg (aj:=n.aI.aj) hl;by_cases hh:n.aI.head=-1
  ·rw [if_pos hh];unfold gQ;refine⟨_,_,rfl,rfl,rfl,rfl,(by decide:(6:Int)≠0),λ_ _ _=> sH rfl rfl (by omega) (by omega) (by rw [h1];rfl) (.inr ⟨rfl,h2,by rw [hdr,if_pos rfl]⟩),λL hL=> by rw [hdr,if_neg hL],λh=> absurd (show n.aI.aO=1 from h) (by omega),.inl ⟨λh=> h.2 h2,?_⟩⟩;rw [hdr,if_pos rfl];exact D9 (h0:=n.aI.head) (nx:=n.aI.next) M h3 C C' h4 h5 rfl rfl (by rw [if_pos hh]) rfl
  ·rw [if_neg hh];unfold gQ;refine⟨_,_,rfl,rfl,rfl,rfl,(by decide:(6:Int)≠0),λ_ _ _=> sH rfl rfl (by omega) (by omega) (by rw [h1];rfl) (.inr ⟨rfl,h2,by rw [hdr,if_pos rfl]⟩),λL hL=> by rw [hdr,if_neg hL],λh=> absurd (show n.aI.aO=1 from h) (by omega),.inl ⟨λh=> h.2 h2,?_⟩⟩;rw [hdr,if_pos rfl];exact D9 (h0:=n.aI.head) (nx:=n.aI.next) M h3 C C' h4 h5 rfl rfl (by rw [if_neg hh];exact h6) rfl
 | attach _ _ _ _ _=> cases hq
 | IQ _ _ _ _ _=> cases hq
 | front _ _ _ _ _ _ _ _=> cases hq
 | behind _ _ _ _ _ _ _ _ _=> cases hq
 | unlock _ _=> cases hq
end
end
end Go.Proofs.YtljogojaihgdlaaGreat
