/-
  Own work: an interpreter over named blocks, its soundness, and what the functions of this seat compute (part 10 of 11).
  Conditions: those of the statement alone.
-/
import Derived.Test.YtmdbbfoefdjgoaaGreatXi
set_option linter.all false
set_option linter.unusedSectionVars false
set_option linter.unusedVariables false
set_option linter.unusedSimpArgs false
namespace Go.Proofs.YtmdbbfoefdjgoaaGreat
noncomputable section
def tV(all:List Int)(w i:Nat):List Int:=(all.drop (i*w)).take w
def dG.valuesB(m:dG)(all:List Int):Bool:=(List.range m.c.aW.toNat).all λi=> m.zl i (tV all m.c.aQ.toNat i)
def dG.Ii(m:dG):Bool:=(List.range m.c.aW.toNat).all λi=> m.single i && (!decide (m.owner i=-1) || m.Fb i)
theorem Ij {n i:Nat}(h:i < n):(List.range n).drop i=i::(List.range n).drop (i+1):=by
 rw [zaR (by simpa using h)];simp
theorem alX {n:Nat}{cells:List AV}{lo hi:Int}(h0:0<=lo)(h1:lo<=hi)(h2:hi<=n):slS 1 (.vs n 1 cells) (some (I lo)) (some (I hi)) none=some (.vs (hi.toNat - lo.toNat) 1 ((cells.drop lo.toNat).take (hi.toNat - lo.toNat))):=by
 have h3:0<=hi:=by omega
 simp only [slS,iO,h0,h3,if_true];rw [if_pos ⟨trivial,by omega,by omega⟩];simp
section
variable {b:Nat}{H:ah}{g:bg}{A:Adr}{m:dG}{T:Nat}
theorem ag3 {i:Nat}(h:(i:Int) < m.c.aW):m.isL i=true:=by
 unfold dG.isL;rw [decide_eq_true (by omega),decide_eq_true h];rfl
theorem MX.trl(X:MX T m):m.trace.length < 1000000:=by
 have:=X.inv.evs;have hk:=ZJ X.inv;omega
theorem Ik(G:Good b H g)(M:fZ g A m)(X:MX T m){p:AV}{all:List Int}(hl:(all.length:Int)=m.c.iF)
  (hA:∀H1 ev,Step H.next H.guard H1->aH H1 ev 4 m.trace.length (m.trace.flatMap Evn.av)->cl 26 [.agg m.c.av,p,ev] H1=some (dat all,H1)):cl 8 [.ref A.jc 0 0,p] H=some (B (m.valuesB all),H):=by
 refine aV rfl rfl (ao0 _ _ _ _) ?_ dQ;have Bd:=uN X.inv.ok;have hw:=Bd.aQ;have hln:=Bd.aW;have had:=Bd.iF;have hne:all≠[]:=λe=> by rw [e] at hl;simp only [zam] at hl;unfold Cfg.iF at hl;omega
 have hwn:(m.c.aQ.toNat:Int)=m.c.aQ:=zbl (by omega);have apY:all.length=m.c.aW.toNat*m.c.aQ.toNat:=by
  have:((m.c.aW.toNat*m.c.aQ.toNat:Nat):Int)=m.c.aW*m.c.aQ:=by
   rw [zcH,hwn,zbl (by omega)]
  unfold Cfg.iF at hl;omega
 let H1:=H.guard.new (.blk 0 24 m.c.av);have s1:Step H.next H.guard H1:=Step.new _ (zac _)
 have G1:Good b H1 g:=G.guard.new _;have g1:H1.get H.next=.blk 0 24 m.c.av:=aJ rfl
 have e0:=mM G.guard M X.inv.ok;have hbn:H.guard.base<=H.guard.next:=zac _
 have st8:st 8 (.ref H.next 0 0) (.agg m.c.av) (H.guard.new (.blk 0 24 [zI,zI,zI,zI,zI,zI,zI,zN]))=some (aO,H1):=by
  have alY:=eu m.c;show st 8 (.ref H.guard.next 0 0) _ _=_;rw [lS rfl];have cc:(AV.agg m.c.av).cells=m.c.av:=rfl;have lc:m.c.av.length=8:=rfl;rw [cc,lc,if_pos ⟨hbn,rfl,alY,zac _⟩];rfl
 have l8:=iH g1;have lt:=G1.load M.jc (i:=1) (x:=.ref A.trace 0 0) rfl;obtain⟨ev,e1,hev⟩:=xJ G1.guard M.trace X.trl;have e2:=hA H1 ev s1 (hev H1);have e3:=(gI H1 all).lnS;have e4:=JD H1 m.c X.inv.ok;rw [<-hl] at e4;have l1:ld (.ref H.next 0 1) H1=some (I m.c.aW,H1):=by rw [dR g1];rfl
 have l2:ld (.ref H.next 0 2) H1=some (I m.c.aQ,H1):=by rw [dR g1];rfl
 have key:∀k i,i+k=m.c.aW.toNat->MK cl [.ref A.jc 0 0,.ref H.next 0 0,dat all,I m.c.aW,I i] H1=some (B (((List.range m.c.aW.toNat).drop i).all λi=> m.zl i (tV all m.c.aQ.toNat i)),H1):=by
  intro k
  induction k with
  | zero=>
   intro i hi;have h1:¬(i:Int) < m.c.aW:=by omega
   rw [zaF (by simp;omega),adw];simp only [zcv];simp only [xq_,h1]
  | succ k ih=>
   intro i hi;have h1:(i:Int) < m.c.aW:=by omega
   have r:=ih (i+1) (by omega);rw [Ij (by omega),zb2];have hiw:i*m.c.aQ.toNat<=8*4:=zdu (by omega) (by omega);have ap9:(i+1)*m.c.aQ.toNat<=m.c.aW.toNat*m.c.aQ.toNat:=zaz _ (by omega);have hmul:(i:Int)*m.c.aQ=((i*m.c.aQ.toNat:Nat):Int):=by rw [zcH,hwn]
   have alZ:((i+1:Nat):Int)*m.c.aQ=(((i+1)*m.c.aQ.toNat:Nat):Int):=by rw [zcH,hwn]
   have hs1:(i+1)*m.c.aQ.toNat=i*m.c.aQ.toNat+m.c.aQ.toNat:=zbz _ _;have w1:=wrap_i64 (a:=((i*m.c.aQ.toNat:Nat):Int)) (by omega) (by omega);have w2:=wrap_i64 (a:=(((i+1)*m.c.aQ.toNat:Nat):Int)) (by omega) (by omega);have h6:(i:Int)+1=((i+1:Nat):Int):=by omega
   have h7:=wrap_i64 (a:=((i+1:Nat):Int)) (by omega) (by omega);have hsl:=alX (n:=all.length) (cells:=all.map I) (lo:=((i*m.c.aQ.toNat:Nat):Int)) (hi:=(((i+1)*m.c.aQ.toNat:Nat):Int)) (by omega) (by omega) (by omega);rw [zao,zao,show(i+1)*m.c.aQ.toNat - i*m.c.aQ.toNat=m.c.aQ.toNat by omega] at hsl;have hrl:(tV all m.c.aQ.toNat i).length=m.c.aQ.toNat:=by
    unfold tV;rw [zav,zaN];omega
   have e5:=ZQ G1 M X (ag3 h1) (x:=.vs m.c.aQ.toNat 1 (((all.map I).drop (i*m.c.aQ.toNat)).take m.c.aQ.toNat)) (ws:=tV all m.c.aQ.toNat i) (λH' _ _=> by
    have:((all.map I).drop (i*m.c.aQ.toNat)).take m.c.aQ.toNat=(tV all m.c.aQ.toNat i).map I:=by unfold tV;rw [zcz,zdd]
    rw [this,hrl];exact aH.vs (by rw [zax,hrl,zbi])) (by omega)
   rw [qW hne] at r ⊢;rw [adw];cases hr:m.zl i (tV all m.c.aQ.toNat i) with
   | true=>
    rw [hr] at e5;rw [zaI];simp only [xq_,h1,l2,lY,bI,hmul,h6,h7,alZ,w1,w2,hsl,e5,zad,r]
   | false=>
    rw [hr] at e5;rw [zaL];simp only [xq_,h1,l2,lY,bI,hmul,h6,h7,alZ,w1,w2,hsl,e5,zaf]
 have r:=key m.c.aW.toNat 0 (by omega);rw [zaO] at r
 replace r:MK cl [.ref A.jc 0 0,.ref H.next 0 0,dat all,I m.c.aW,I 0] H1=some (B (m.valuesB all),H1):=r
 simp only [xq_,amU,e0,st8,l8,lt,e1,e2,e3,e4,eq_self,zad,l1,r]
theorem Oz(G:Good b H g)(M:fZ g A m)(X:MX T m){p:AV}{lg vb:Bool}(hs:∀L w,m.walk L=some w->Ih w)
  (hL:∀H1 ev,Step H.next H.guard H1->aH H1 ev 4 m.trace.length (m.trace.flatMap Evn.av)->cl 24 [.agg m.c.av,p,ev] H1=some (B lg,H1))
  (hV:∀H1,Step H.next H.guard H1->cl 8 [.ref A.jc 0 0,p] H1=some (B vb,H1)):cl 7 [.ref A.jc 0 0,p] H=some (B (m.Ii && (lg && vb)),H):=by
 refine aV rfl rfl (apn _ _ _ _) ?_ dQ;have Bd:=uN X.inv.ok;have hln:=Bd.aW;let H1:=H.guard.new (.blk 0 24 m.c.av);have s1:Step H.next H.guard H1:=Step.new _ (zac _)
 have G1:Good b H1 g:=G.guard.new _;have g1:H1.get H.next=.blk 0 24 m.c.av:=aJ rfl
 have e0:=mM G.guard M X.inv.ok;have hbn:H.guard.base<=H.guard.next:=zac _
 have st8:st 8 (.ref H.next 0 0) (.agg m.c.av) (H.guard.new (.blk 0 24 [zI,zI,zI,zI,zI,zI,zI,zN]))=some (aO,H1):=by
  have alY:=eu m.c;show st 8 (.ref H.guard.next 0 0) _ _=_;rw [lS rfl];have cc:(AV.agg m.c.av).cells=m.c.av:=rfl;have lc:m.c.av.length=8:=rfl;rw [cc,lc,if_pos ⟨hbn,rfl,alY,zac _⟩];rfl
 have l8:=iH g1;have lt:=G1.load M.jc (i:=1) (x:=.ref A.trace 0 0) rfl;obtain⟨ev,e1,hev⟩:=xJ G1.guard M.trace X.trl;have e2:=hL H1 ev s1 (hev H1);have e3:=hV H1 s1;have l1:ld (.ref H.next 0 1) H1=some (I m.c.aW,H1):=by rw [dR g1];rfl
 have key:∀k i,i+k=m.c.aW.toNat->MJ cl [.ref A.jc 0 0,p,.ref H.next 0 0,I m.c.aW,I i] H1=some (B ((((List.range m.c.aW.toNat).drop i).all λi=> m.single i && (!decide (m.owner i=-1) || m.Fb i)) && (lg && vb)),H1):=by
  intro k
  induction k with
  | zero=>
   intro i hi;have h1:¬(i:Int) < m.c.aW:=by omega
   rw [zaF (by simp;omega),adv];simp only [zcv,zaI];cases lg with
   | true=> simp only [Int.reduceNeg,xq_,h1,l8,lt,e1,e2,e3,zaI]
   | false=> simp only [Int.reduceNeg,xq_,h1,l8,lt,e1,e2,zaL]
  | succ k ih=>
   intro i hi;have h1:(i:Int) < m.c.aW:=by omega
   have r:=ih (i+1) (by omega);have h6:(i:Int)+1=((i+1:Nat):Int):=by omega
   have h7:=wrap_i64 (a:=((i+1:Nat):Int)) (by omega) (by omega);have e4:=Vx G1 M X (i:Int);have e5:=Ol G1 M X (i:Int);have e6:=acn G1 M X (i:Int) (hs _);rw [Ij (by omega),zb2,adv];cases h2:m.single i with
   | false=>
    rw [h2] at e4;rw [zaL,zaL,zaL];simp only [Int.reduceNeg,xq_,h1,e4,zaf]
   | true=>
    rw [h2] at e4;rw [zaI];by_cases h3:m.owner i=-1
    ·rw [h3] at e5;rw [decide_eq_true h3,zad,zbN];cases h4:m.Fb i with
     | true=>
      rw [h4] at e6;rw [zaI];simp only [Int.reduceNeg,xq_,h1,e4,zad,e5,e6,bI,h6,h7,r]
     | false=>
      rw [h4] at e6;rw [zaL,zaL];simp only [Int.reduceNeg,xq_,h1,e4,zad,e5,e6,zaf]
    ·rw [decide_eq_false h3,zaf,zbT,zaI];simp only [Int.reduceNeg,xq_,h1,e4,zad,e5,h3,bI,h6,h7,r]
 have r:=key m.c.aW.toNat 0 (by omega);rw [zaO] at r
 replace r:MJ cl [.ref A.jc 0 0,p,.ref H.next 0 0,I m.c.aW,I 0] H1=some (B (m.Ii && (lg && vb)),H1):=r
 simp only [xq_,aoY,e0,st8,l1,r]
end
section
variable {c:Cfg}{ps:List (List Opn)}{L:Int}
theorem Ub(j:Int):(∃l,(dG.new c ps).bn j=some (.new c j l))∨(dG.new c ps).bn j=none:=by
 unfold dG.bn dG.new;by_cases h0:0<=j
 ·rw [if_pos h0];simp only [za1];cases h:ps[j.toNat]? with
  | none=> exact .inr rfl
  | some l=> exact .inl ⟨l,by rw [zai,zbl h0]⟩
 ·rw [if_neg h0];exact .inr rfl
theorem JZ(j:Int):(dG.new c ps).kZ L j=none:=by
 unfold dG.kZ;rcases Ub (c:=c) (ps:=ps) j with⟨l,h⟩ | h
 ·rw [h];rfl
 ·rw [h];rfl
theorem Il:(dG.new c ps).copies L=[]:=by
 unfold dG.copies;rw [List.filter_eq_nil_iff];intro i _;rw [JZ];simp
theorem Uc(hc:c.ok=true)(hp:(ps.length:Int)=c.aP)(h:(dG.new c ps).isL L=true):(dG.new c ps).tX L=⟨0,-1,c.first L⟩:=by
 unfold dG.isL at h;simp only [zaj,decide_eq_true_eq] at h;obtain⟨h0,h1⟩:=h;have hh:=Vu hc h0;have hn:∃l,(dG.new c ps).bn (c.fA L)=some (.new c (c.fA L) l):=by
  rcases Ub (c:=c) (ps:=ps) (c.fA L) with h | h
  ·exact h
  ·unfold dG.bn dG.new at h;rw [if_pos hh.1] at h;simp only [za1,Option.map_eq_none_iff,List.getElem?_eq_none_iff] at h;omega
 obtain⟨l,hn⟩:=hn;unfold dG.tX dG.Vt;have hcc:(dG.new c ps).c=c:=rfl;rw [hcc,hn];unfold oL;show(jM (c.nG (c.fA L) c.aW.toNat) L).getD .zero=_;have h1':L < c.aW:=h1;rw [zk,if_pos ⟨h0,by omega,rfl⟩];rfl
theorem aeI(hc:c.ok=true)(hp:(ps.length:Int)=c.aP)(h:(dG.new c ps).isL L=true):Wf (dG.new c ps).c.aP ((dG.new c ps).kZ L) ((dG.new c ps).tX L) (c.first L) []:=by
 rw [Uc hc hp h];exact⟨⟨List.nodup_nil,λj hj=> (by cases hj)⟩,trivial,λj e h=> (by rw [JZ] at h;cases h),rfl,.inl rfl,(by simp),λh=> absurd (show(0:Int)=2 from h) (by decide),λj e h=> (by rw [JZ] at h;cases h),λj e h=> (by rw [JZ] at h;cases h),λ_=> rfl⟩
theorem aco(hc:c.ok=true)(hp:(ps.length:Int)=c.aP):(dG.new c ps).Fb L=true:=by
 by_cases h:(dG.new c ps).isL L=true
 ·exact(aeI hc hp h).Fb
 ·unfold dG.Fb;rw [if_pos (by simpa using h)]
theorem Ud(hc:c.ok=true)(hp:(ps.length:Int)=c.aP):(dG.new c ps).walk L=if(dG.new c ps).isL L=true then some [] else none:=by
 by_cases h:(dG.new c ps).isL L=true
 ·rw [if_pos h];exact(aeI hc hp h).walk h
 ·rw [if_neg h];unfold dG.walk;rw [if_neg h]
theorem VD:(dG.new c ps).single L=true:=by
 unfold dG.single;rw [Il];rfl
theorem ZX(hc:c.ok=true)(hp:(ps.length:Int)=c.aP)(h:(dG.new c ps).isL L=true):(dG.new c ps).zl L (c.first L)=true:=by
 unfold dG.zl;rw [Il,Uc hc hp h];simp
end
theorem OB {c:Cfg}{n i:Nat}(hi:i < n)(hn:(n:Int)<=c.aW)(hw:0<=c.aQ):tV (gW c n) c.aQ.toNat i=c.first i:=by
 have h1:(i+1)*c.aQ.toNat<=n*c.aQ.toNat:=zaz _ (by omega);have h2:(i+1)*c.aQ.toNat=i*c.aQ.toNat+c.aQ.toNat:=zbz _ _;refine zbg λj=> ?_;unfold tV;rw [zay];by_cases hj:j < c.aQ.toNat
 ·rw [if_pos hj,zaA];unfold gW;rw [zaD,zba (by omega),YO (by omega) (by omega) hj];have:((i:Int)*c.aQ).toNat=i*c.aQ.toNat:=by
   obtain⟨w,hw'⟩:=Int.eq_ofNat_of_zero_le hw;rw [hw'];simp only [zao];rw [<-zcH,zao]
  rw [this];rfl
 ·rw [if_neg hj,zaK];rw [Ns (by omega) (by omega)];omega
def zy:Cfg:=⟨2,1,1,1,1,1,1,[]⟩
theorem ag4(H:ah):cl 9 [] H=some (B true,H):=by
 have hc:zy.ok=true:=by decide
 have hp:zy.mF [[],[]]=true:=by decide
 have hpl:(([[],[]]:List (List Opn)).length:Int)=zy.aP:=rfl;have hav:zy.av=[I 2,I 1,I 1,I 1,I 1,I 1,I 1,zN]:=by simp [zy,Cfg.av,dat,gB]
 let H2:=H.guard.new (.blk 0 27 [zN,zN]);have hps:∀K:ah,Bv (K.new (.blk 0 27 [zN,zN])) (.sl K.next 0 0 1 2 2 true) [[],[]]:=λK=> ⟨[zN,zN],jI (n:=2) (m:=1) (l:=[zN,zN]) rfl,λi v l a b=> by
  match i with
  | 0=> cases a;cases b;exact⟨aH.nil,λ_=> rfl⟩
  | 1=> cases a;cases b;exact⟨aH.nil,λ_=> rfl⟩
  | i+2=> cases a⟩
 have apZ:Bv H2 (.sl H.next 0 0 1 2 2 true) [[],[]]:=hps H.guard;obtain⟨H3,A,g,e1,M,MI⟩:=UZ H2 (by simp only [H2,iC,dL,adi,tZ];omega) zy hc apZ hp;have X:MX 0 (.new zy [[],[]]):=aeF hc (λz h=> by cases h) hp (λl hl o ho=> by
  simp only [zar,zaH,or_false,or_self] at hl;subst hl;cases ho)
 have e2:=TV M.good MI X 0;rw [Ud hc hpl] at e2
 replace e2:cl 29 [.ref A.jc 0 0,I 0] H3=some (.tup [dat [],B true],H3):=e2
 let H4:=H3.new (.blk 0 27 [zN,zN]);have G4:Good H2.next H4 g:=M.good.new _
 have hwk:∀L w,(dG.new zy [[],[]]).walk L=some w->Ih w:=λL w h=> by
  rw [Ud hc hpl] at h;split at h
  ·cases h;exact Ou
  ·cases h
 have hl:((gW zy zy.aW.toNat).length:Int)=(dG.new zy [[],[]]).c.iF:=rfl;have pst:∀H1,Step H4.next H4.guard H1->Bv H1 (.sl H3.next 0 0 1 2 2 true) [[],[]]:=λH1 s=> (hps H3).fV (zas (zac _) s.next) λr hr=> s.low r hr
 have tr0:(dG.new zy [[],[]]).trace=[]:=rfl;have eL:=λ(H1:ah) (ev:AV) (s:Step H4.next H4.guard H1) (h:aH H1 ev 4 0 [])=> Vz H1 hc (pst H1 s) hp h;have eV:∀K,Step H4.next H4.guard K->cl 8 [.ref A.jc 0 0,.sl H3.next 0 0 1 2 2 true] K=some (B ((dG.new zy [[],[]]).valuesB (gW zy zy.aW.toNat)),K):=λK s=> by
  have GK:Good H2.next K g:=G4.guard.ext s.next s.low
  exact Ik GK MI X (p:=.sl H3.next 0 0 1 2 2 true) (all:=gW zy zy.aW.toNat) hl λH1 ev s1 h=> VA H1 hc ((pst K s).fV s1.next λr hr=> s1.low r hr) hp h
 have vt:(dG.new zy [[],[]]).valuesB (gW zy zy.aW.toNat)=true:=by
  unfold dG.valuesB;rw [zaZ];intro i hi;have hi':i < 1:=zaY.1 hi;show(dG.new zy [[],[]]).zl i (tV (gW zy zy.aW.toNat) zy.aQ.toNat i)=true;rw [OB (c:=zy) (n:=zy.aW.toNat) hi' (zby _) (by decide)];exact ZX hc hpl (by
   obtain rfl:i=0:=by omega
   decide)
 rw [vt] at eV;have e3:=Oz G4 MI X (p:=.sl H3.next 0 0 1 2 2 true) (lg:=true) (vb:=true) hwk eL eV;have hlb:(dG.new zy [[],[]]).Ii=true:=by
  unfold dG.Ii;rw [zaZ];intro i hi;rw [VD,aco hc hpl];simp
 rw [hlb] at e3;have ev:bd 24 [(0,I 2),(1,I 1),(2,I 1),(3,I 1),(4,I 1),(5,I 1),(6,I 1)]=some (.agg zy.av):=by
  rw [hav];simp only [xq_,ahI,jo,fJ,afa];rfl
 have b0:bi .neq 29 (I 0) (I 0)=some (B false):=by kernel_rfl
 have en:bi .eql 28 (.ref A.jc 0 0) zP=some (B false):=by kernel_rfl
 have es:∀H,bs 40 2 [(0,zN),(1,zN)] H=some (.sl H.next 0 0 1 2 2 true,H.new (.blk 0 27 [zN,zN])):=λH=> by
  exact(ae9 (by decide)).trans rfl
 have d0:=(gI H4 []).lnS
 replace d0:lnS (dat []) H4=some (I 0,H4):=d0
 refine iG rfl rfl (apo _ _ (r:=(B true,H4)) ?_) jg;simp only [H2] at e1;simp only [zcA] at e3;have es3:bs 40 2 [(0,zN),(1,zN)] H3=some (.sl H3.next 0 0 1 2 2 true,H4):=es H3;simp only [xq_,ao1,ev,es H.guard,es3,e1,e2,e3,b0,en,d0]
theorem ZY {w:List Int}(hw:w.length<=1000):Ih w:=λH=> by
 by_cases h0:w=[]
 ·rw [h0];exact Ou H
 let H1:=H.new (.blk 0 22 [dat w]);have g1:H1.get H.next=.blk 0 22 [dat w]:=aJ rfl
 refine⟨.fn (.func 108) [] [.ref H.next 0 0],H1,aX rfl rfl (ai2 _ _ _ ?_),?_,Step.new _ (zac _)⟩
 ·have eb:fM 22 (dat w) H=some (.ref H.next 0 0,H1):=by
   have h1:=qE (l:=w);rw [Rl (by rw [h1.1];simp [h1.2]) (by decide),h1.1]
  simp only [xq_,afK,eb]
  try rfl
 ·refine wZ (p:=qG wP pX) rfl ?_;rw [qW h0] at g1;have hc:True/\22 < fQ/\108≠0/\108∈pX/\True/\w.length<=1000:=⟨trivial,by unfold fQ;decide,by decide,by simp [pX],trivial,hw⟩
  unfold qG;simp only [g1,Ej];rw [if_pos hc,TD]
def dG.acp(m:dG)(ps:List (List Opn)):Bool:=match vg m.c ps m.trace with
 | none=> false
 | some ws=> m.valuesB ws
section
variable {b:Nat}{H:ah}{g:bg}{A:Adr}{m:dG}{T:Nat}
theorem VE(X:MX T m)(L:Int)(w:List Int)(h:m.walk L=some w):Ih w:=by
 by_cases hL:m.isL L=true
 ·refine ZY ?_;obtain⟨h1,h2⟩:=ZN h;have:=zo (N:=m.aP.length) h1 λi hi=> by
   obtain⟨e,he⟩:=(vZ hL).1 (h2 i hi);exact Fe he
  have:=X.len.2;omega
 ·unfold dG.walk at h;rw [if_neg hL] at h;cases h
theorem Fj {ps:List (List Opn)}:∀{l:List Evn} {ws ws':List Int},JY ps l ws=some ws'->ws'.length=ws.length
 | [],_,_,h=> by cases h;rfl
 | e::l,ws,ws',h=> by
  unfold JY at h;split at h
  ·cases h
  ·split at h
   ·exact Fj h
   ·split at h
    ·rw [Fj h,Ov]
    ·cases h
theorem Z4 {c:Cfg}(hc:c.ok=true){ps:List (List Opn)}{l:List Evn}{ws:List Int}(h:vg c ps l=some ws):(ws.length:Int)=c.iF:=by
 unfold vg at h;split at h
 ·rw [Fj h];exact(Fh hc).len
 ·cases h
theorem Ue(X:MX T m):m.trace.length<=100000:=by
 have:=ZJ X.inv;omega
theorem AA(G:Good b H g)(M:fZ g A m)(X:MX T m){p:AV}{ps:List (List Opn)}(hpn:ps.length < 1000)(hpl:∀l∈ps,l.length < 1000)(hp:∀K:ah,H.next<=K.next->(∀r,r < H.next->K.get r=H.get r)->Bv K p ps):cl 8 [.ref A.jc 0 0,p] H=some (B (m.acp ps),H):=by
 have hA:∀H1 ev,Step H.next H.guard H1->aH H1 ev 4 m.trace.length (m.trace.flatMap Evn.av)->cl 26 [.agg m.c.av,p,ev] H1=some (dat ((vg m.c ps m.trace).getD []),H1):=λH1 ev s hev=> ZW H1 X.inv.ok (hp H1 s.next s.low) hpn hpl hev (Ue X)
 unfold dG.acp;cases hf:vg m.c ps m.trace with
 | some ws=>
  rw [hf] at hA;exact Ik G M X (Z4 X.inv.ok hf) hA
 | none=>
  rw [hf] at hA;refine aV rfl rfl (ao0 _ _ _ _) ?_ dQ;have Bd:=uN X.inv.ok;have had:=Bd.iF;let H1:=H.guard.new (.blk 0 24 m.c.av);have s1:Step H.next H.guard H1:=Step.new _ (zac _)
  have G1:Good b H1 g:=G.guard.new _;have g1:H1.get H.next=.blk 0 24 m.c.av:=aJ rfl
  have e0:=mM G.guard M X.inv.ok;have hbn:H.guard.base<=H.guard.next:=zac _
  have st8:st 8 (.ref H.next 0 0) (.agg m.c.av) (H.guard.new (.blk 0 24 [zI,zI,zI,zI,zI,zI,zI,zN]))=some (aO,H1):=by
   have alY:=eu m.c;show st 8 (.ref H.guard.next 0 0) _ _=_;rw [lS rfl];have cc:(AV.agg m.c.av).cells=m.c.av:=rfl;have lc:m.c.av.length=8:=rfl;rw [cc,lc,if_pos ⟨hbn,rfl,alY,zac _⟩];rfl
  have l8:=iH g1;have lt:=G1.load M.jc (i:=1) (x:=.ref A.trace 0 0) rfl;obtain⟨ev,e1,hev⟩:=xJ G1.guard M.trace X.trl;have e2:=hA H1 ev s1 (hev H1);have e3:lnS (dat (([]:List Int))) H1=some (I 0,H1):=(gI H1 []).lnS;have e4:=JD H1 m.c X.inv.ok;have hz:¬(0:Int)=m.c.iF:=by unfold Cfg.iF;omega
  rw [zaT] at e2;simp only [xq_,amU,e0,st8,l8,lt,e1,e2,e3,e4,hz,zaf]
theorem zx(G:Good b H g)(M:fZ g A m)(X:MX T m){p:AV}{ps:List (List Opn)}(hpn:ps.length < 1000)(hpl:∀l∈ps,l.length < 1000)(hp:∀K:ah,H.next<=K.next->(∀r,r < H.next->K.get r=H.get r)->Bv K p ps):cl 7 [.ref A.jc 0 0,p] H=some (B (m.Ii && ((vg m.c ps m.trace).isSome && m.acp ps)),H):=
 Oz G M X (VE X) (λH1 ev s hev=> ZV H1 X.inv.ok (hp H1 s.next s.low) hpn hpl hev (Ue X)) λH1 s=>
  AA (G.guard.ext s.next s.low) M X hpn hpl λK n' l'=> hp K (zas s.next n') λr hr=> (l' r (zau hr s.next)).trans (s.low r hr)
end
def FH:Cfg:=⟨1,1,1,1,1,1,1,[7]⟩
def vk:Nat->dG
 | 0=> .new FH [[⟨1,0,0⟩]]
 | i+1=> (((vk i).do_ ⟨false,0,0,0⟩).1.do_ ⟨true,0,0,0⟩).1
theorem Z5:(vk 12).left=0/\(vk 12).Ii=true/\vg (vk 12).c [[⟨1,0,0⟩]] (vk 12).trace=some [7]/\(vk 12).valuesB [7]=true/\vg (vk 12).c [] (vk 12).trace=none:=⟨by kernel_rfl,by kernel_rfl,by kernel_rfl,by kernel_rfl,by kernel_rfl⟩
theorem aoG:(vk 12).c=FH:=by kernel_rfl
theorem al0:(vk 12).trace=[⟨0,0,false,0⟩,⟨0,0,true,7⟩]:=by kernel_rfl
theorem ag5(k v:Int)(hk:k=2∨k=3):FH.mF [[⟨k,0,v⟩]]=true:=by
 have hr:FH.right ⟨k,0,v⟩=true:=by
  have hl:FH.dS 0≠-1:=by decide
  unfold Cfg.right;simp only [zaj,zbs,decide_eq_true_eq];rcases hk with rfl | rfl
  ·exact⟨⟨⟨by decide,by decide⟩,hl⟩,.inl (.inr rfl)⟩
  ·exact⟨⟨⟨by decide,by decide⟩,hl⟩,.inr rfl⟩
 unfold Cfg.mF;simp only [zb2,zcv,hr,zde,zah,zam];rfl
theorem Uf(k v:Int)(hk:k=2∨k=3):vg (vk 12).c [[⟨k,0,v⟩]] (vk 12).trace=JY [[⟨k,0,v⟩]] [⟨0,0,false,0⟩,⟨0,0,true,7⟩] [7]:=by
 rw [aoG,al0];unfold vg;have hr:rE FH.aP [] [⟨0,0,false,0⟩,⟨0,0,true,7⟩]=true:=by kernel_rfl
 have hf:gW FH FH.aW.toNat=[7]:=by kernel_rfl
 rw [ag5 k v hk,hr,if_pos (show(true && true)=true from rfl),hf]
theorem OC(v:Int):vg (vk 12).c [[⟨2,0,v⟩]] (vk 12).trace=none:=by
 rw [Uf 2 v (.inl rfl)]
 kernel_rfl
theorem Z7(v:Int):vg (vk 12).c [[⟨3,0,v⟩]] (vk 12).trace=some [w64 (7+v)]:=by
 rw [Uf 3 v (.inr rfl)]
 kernel_rfl
theorem ag6(z:Int):(vk 12).valuesB [z]=decide (z=7):=by
 have hc:(vk 12).copies 0=[0]:=by kernel_rfl
 have hd:(((vk 12).kZ 0 0).getD .zero).data=[7]:=by kernel_rfl
 have hr:(vk 12).tX 0=⟨1,0,[7]⟩:=by kernel_rfl
 have ho:(vk 12).owner 0=-1:=by kernel_rfl
 have hl:(List.range (vk 12).c.aW.toNat)=[0]:=by kernel_rfl
 have hw:(vk 12).c.aQ.toNat=1:=by kernel_rfl
 have hrow:tV [z] 1 0=[z]:=rfl;unfold dG.valuesB;rw [hl,hw];simp only [zb2,zcv,zde,hrow];unfold dG.zl;have hz:((0:Nat):Int)=0:=rfl;rw [hz,hc,hr,ho];simp only [zb2,zcv,zde,hd];by_cases h:z=7
 ·subst h;rfl
 ·have h7:¬([7]:List Int)=[z]:=λe=> h (List.cons.inj e).1.symm;rw [decide_eq_false h7,decide_eq_false h];rfl
theorem acr {v:Int}(hv:BZ v):decide (w64 (7+v)=7)=decide (v=0):=by
 rw [decide_eq_decide];have h1:=hv.1;have h2:=hv.2;show IntKind.wrap .i64 (7+v)=7↔v=0;simp only [IntKind.wrap,IntKind.bits,IntKind.signed];simp;split <;> constructor <;> intro h <;> omega
section
variable {b:Nat}{H:ah}{g:bg}{A:Adr}{T:Nat}
theorem OD(K:ah){t:AV}{o:Opn}(ht:∀K':ah,K.next<=K'.next->(∀r,r < K.next->K'.get r=K.get r)->aH K' t 3 1 o.av):∀K':ah,K.next+1<=K'.next->(∀r,r < K.next+1->K'.get r=(K.new (.blk 0 27 [t])).get r)->Bv K' (.sl K.next 0 0 1 1 1 true) [[o]]:=λK' n l=> by
 have g1:K'.get K.next=.blk 0 27 [t]:=by rw [l _ (by omega)];exact aJ rfl
 refine⟨[t],⟨rfl,rfl,rfl,⟨by omega,zac _⟩,27,_,g1,zac _,rfl⟩,λi v l' a b=> ?_⟩
 match i with
 | 0=>
  cases a;cases b;have:=ht K' (by omega) λr hr=> by rw [l r (by omega)];exact aS hr
  refine⟨by simpa using this,λh=> by cases h⟩
 | i+1=> cases a
theorem OE(v:Int)(hv:BZ v)(R:QF b H g A (vk 12) T){t4:AV}(ht:∀K:ah,H.next<=K.next->(∀r,r < H.next->K.get r=H.get r)->aH K t4 3 1 [I 1,I 0,I 0]):
  ∃H',RN cl (I v) t4 (.ref A.jc 0 0) H=some (B true,H'):=by
 obtain⟨f1,f2,f3,f4,f5⟩:=Z5;have X:=R.keep;let K1:=H.new (.blk 0 26 [I 3,I 0,I v]);let K2:=K1.new (.blk 0 26 [I 2,I 0,I v]);let K3:=K2.new (.blk 0 27 [t4]);let K4:=K3.new (.blk 0 27 [t4]);let K5:=K4.new (.blk 0 27 [.sl K1.next 0 0 3 1 1 true]);let K6:=K5.new (.blk 0 27 [.sl K1.next 0 0 3 1 1 true]);let K7:=K6.new (.blk 0 27 [.sl H.next 0 0 3 1 1 true]);have n1:K1.next=H.next+1:=rfl
 have n2:K2.next=H.next+2:=rfl
 have n3:K3.next=H.next+3:=rfl
 have n4:K4.next=H.next+4:=rfl
 have n5:K5.next=H.next+5:=rfl
 have n6:K6.next=H.next+6:=rfl
 have R2:QF b K2 g A (vk 12) T:=(R.new _).new _;have R3:QF b K3 g A (vk 12) T:=R2.new _;have R4:QF b K4 g A (vk 12) T:=R3.new _;have R5:QF b K5 g A (vk 12) T:=R4.new _;have R6:QF b K6 g A (vk 12) T:=R5.new _;have R7:QF b K7 g A (vk 12) T:=R6.new _;have lo:∀r,r < H.next+2->K3.get r=K2.get r/\K4.get r=K2.get r/\K5.get r=K2.get r/\K6.get r=K2.get r:=λr hr=> by
  have a3:K3.get r=K2.get r:=aS (by rw [n2];omega);have a4:K4.get r=K2.get r:=(aS (by rw [n3];omega)).trans a3;have a5:K5.get r=K2.get r:=(aS (by rw [n4];omega)).trans a4;exact⟨a3,a4,a5,(aS (by rw [n5];omega)).trans a5⟩
 have gH:∀r,r < H.next->K2.get r=H.get r:=λr hr=> (aS (by rw [n1];omega)).trans (aS hr)
 have g0:K2.get H.next=.blk 0 26 [I 3,I 0,I v]:=(aS (by rw [n1];omega)).trans (aJ rfl)
 have g1:K2.get (H.next+1)=.blk 0 26 [I 2,I 0,I v]:=aJ rfl;have ht2:∀K:ah,K2.next<=K.next->(∀r,r < K2.next->K.get r=K2.get r)->aH K t4 3 1 [I 1,I 0,I 0]:=λK n l=> ht K (by omega) λr hr=> (l r (by omega)).trans (gH r hr)
 have ht3:∀K:ah,K3.next<=K.next->(∀r,r < K3.next->K.get r=K3.get r)->aH K t4 3 1 [I 1,I 0,I 0]:=λK n l=> ht2 K (by omega) λr hr=> (l r (by omega)).trans (lo r (by omega)).1
 have hst:∀K:ah,H.next+2<=K.next->(∀r,r < H.next+2->K.get r=K2.get r)->aH K (.sl K1.next 0 0 3 1 1 true) 3 1 [I 2,I 0,I v]:=λK n l=> ⟨rfl,rfl,rfl,⟨by rw [n1];omega,zac _⟩,26,_,by rw [n1,l _ (by omega)];exact g1,zac _,rfl⟩
 have had:∀K:ah,H.next+2<=K.next->(∀r,r < H.next+2->K.get r=K2.get r)->aH K (.sl H.next 0 0 3 1 1 true) 3 1 [I 3,I 0,I v]:=λK n l=> ⟨rfl,rfl,rfl,⟨by omega,zac _⟩,26,_,by rw [l _ (by omega)];exact g0,zac _,rfl⟩
 have p3:=OD K2 (o:=⟨1,0,0⟩) ht2;have p4:=OD K3 (o:=⟨1,0,0⟩) ht3;have p5:=OD K4 (t:=.sl K1.next 0 0 3 1 1 true) (o:=⟨2,0,v⟩) λK n l=> hst K (by omega) λr hr=> (l r (by omega)).trans (lo r hr).2.1;have p6:=OD K5 (t:=.sl K1.next 0 0 3 1 1 true) (o:=⟨2,0,v⟩) λK n l=> hst K (by omega) λr hr=> (l r (by omega)).trans (lo r hr).2.2.1;have p7:=OD K6 (t:=.sl H.next 0 0 3 1 1 true) (o:=⟨3,0,v⟩) λK n l=> had K (by omega) λr hr=> (l r (by omega)).trans (lo r hr).2.2.2;have l1:∀o:Opn,∀l∈[[o]],l.length < 1000:=λo l h=> by rw [zaM.1 h];simp
 have e1:=agd R2.good R2.jc X.fine;rw [f1] at e1;have s3:=zx R3.good R3.jc X (p:=.sl K2.next 0 0 1 1 1 true) (ps:=[[⟨1,0,0⟩]]) (by decide) (l1 _) p3;have v4:=AA R4.good R4.jc X (p:=.sl K3.next 0 0 1 1 1 true) (ps:=[[⟨1,0,0⟩]]) (by decide) (l1 _) p4;have s5:=zx R5.good R5.jc X (p:=.sl K4.next 0 0 1 1 1 true) (ps:=[[⟨2,0,v⟩]]) (by simp) (l1 _) p5;have v6:=AA R6.good R6.jc X (p:=.sl K5.next 0 0 1 1 1 true) (ps:=[[⟨2,0,v⟩]]) (by simp) (l1 _) p6;have s7:=zx R7.good R7.jc X (p:=.sl K6.next 0 0 1 1 1 true) (ps:=[[⟨3,0,v⟩]]) (by simp) (l1 _) p7;have s8:=zx R7.good R7.jc X (p:=zN) (ps:=[]) (by decide) (λl h=> by cases h) (λK _ _=> Bv.zN);have q1:(vk 12).acp [[⟨1,0,0⟩]]=true:=by unfold dG.acp;rw [f3];exact f4
 have q2:(vk 12).acp [[⟨2,0,v⟩]]=false:=by unfold dG.acp;rw [OC]
 have q3:(vk 12).acp [[⟨3,0,v⟩]]=decide (v=0):=by unfold dG.acp;rw [Z7];exact(ag6 _).trans (acr hv)
 rw [f2,f3,q1] at s3;rw [q1] at v4;rw [f2,OC,q2] at s5;rw [q2] at v6;rw [f2,Z7,q3] at s7;rw [f2,f5] at s8;simp only [zaG,zaB,zaI,zaL] at s3 s5 s7 s8;have wk:=ag4 K7;have ea:bd 26 [(0,I 3),(2,I v)]=some (.agg [I 3,I 0,I v]):=by
  simp only [xq_,aaP,jo,fJ,aaO];rfl
 have es:bd 26 [(0,I 2),(2,I v)]=some (.agg [I 2,I 0,I v]):=by
  simp only [xq_,aaP,jo,fJ,aaO];rfl
 have b1:bs 27 1 [(0,.agg [I 3,I 0,I v])] H=some (.sl H.next 0 0 3 1 1 true,K1):=(WT (by decide)).trans (gZ rfl rfl rfl);have b2:bs 27 1 [(0,.agg [I 2,I 0,I v])] K1=some (.sl K1.next 0 0 3 1 1 true,K2):=(WT (by decide)).trans (gZ rfl rfl rfl);have ht4:One t4:=by
  obtain⟨_,h⟩:=ht H (zac _) λ_ _=> rfl;cases t4 with
  | sl r g o m n c ex=> exact mZ
  | vs n m l=> exact⟨rfl,rfl⟩
  | s v=>
   cases v with
   | slice a b c=>
    cases a with
    | none=> exact⟨rfl,rfl⟩
    | some a=> exact h.elim
   | _=> exact h.elim
  | _=> exact h.elim
 have bo:∀(K:ah) (t:AV),One t->bs 40 1 [(0,t)] K=some (.sl K.next 0 0 1 1 1 true,K.new (.blk 0 27 [t])):=λK t h=> by
  have:=(ae9 (by decide)).trans (gZ (e:=27) (m:=1) (z:=[zN]) (v:=t) (H:=K) rfl (by rw [h.1];rfl) (by rw [h.1];simp [h.2]));rw [h.1] at this;exact this
 have b3:bs 40 1 [(0,t4)] K2=some (.sl K2.next 0 0 1 1 1 true,K3):=bo _ _ ht4;have b4:bs 40 1 [(0,t4)] K3=some (.sl K3.next 0 0 1 1 1 true,K4):=bo _ _ ht4;have b5:bs 40 1 [(0,.sl K1.next 0 0 3 1 1 true)] K4=some (.sl K4.next 0 0 1 1 1 true,K5):=bo _ _ mZ;have b6:bs 40 1 [(0,.sl K1.next 0 0 3 1 1 true)] K5=some (.sl K5.next 0 0 1 1 1 true,K6):=bo _ _ mZ;have b7:bs 40 1 [(0,.sl H.next 0 0 3 1 1 true)] K6=some (.sl K6.next 0 0 1 1 1 true,K7):=bo _ _ mZ;have nb:∀q:Bool,bi .eql 4 (B q) (B q)=some (B true):=λq=> by cases q <;> kernel_rfl
 refine⟨K7,?_⟩;simp only [xq_,RN,ea,b1,es,b2,e1,eq_self,b3,s3,b4,v4,b5,s5,zaf,b6,v6,b7,s7,nb,s8,wk]
theorem acs(v:Int)(hv:BZ v){B0:ah}(hB:B0.next<=b){t4:AV}(ht:∀K:ah,B0.next<=K.next->(∀r,r < B0.next->K.get r=B0.get r)->aH K t4 3 1 [I 1,I 0,I 0]):∀k (i:Nat) {H:ah} {g:bg} {T:Nat},i+k=12->QF b H g A (vk i) T->T+2*k < 999000->Step b B0 H->
  ∃H',MF cl [I v,t4,.ref A.jc 0 0,I i] H=some (B true,H'):=by
 intro k
 induction k with
 | zero=>
  intro i H g T hi R hT s;obtain rfl:i=12:=by omega
  have h1:¬((12:Nat):Int) < 12:=by decide
  have hts:∀K:ah,H.next<=K.next->(∀r,r < H.next->K.get r=H.get r)->aH K t4 3 1 [I 1,I 0,I 0]:=λK n l=> ht K (zas s.next n) λr hr=> (l r (zau hr s.next)).trans (s.low r (by omega))
  by_cases h7:v=7
  ·obtain⟨H',e⟩:=OE 8 ⟨by decide,by decide⟩ R hts;refine⟨H',?_⟩;rw [Xz,h7];simp only [xq_,h1,eq_self,e]
  ·obtain⟨H',e⟩:=OE v hv R hts;refine⟨H',?_⟩;rw [Xz];simp only [xq_,h1,h7,e]
 | succ k ih=>
  intro i H g T hi R hT s;have h1:(i:Int) < 12:=by omega
  have h6:(i:Int)+1=((i+1:Nat):Int):=by omega
  have h7:=wrap_i64 (a:=((i+1:Nat):Int)) (by omega) (by omega);obtain⟨K1,g1,a1,R1,_,s1⟩:=R.do_ (by omega) ⟨false,0,0,0⟩ TQ TQ (by decide) (by decide);obtain⟨K2,g2,a2,R2,_,s2⟩:=R1.do_ (by omega) ⟨true,0,0,0⟩ TQ TQ (by decide) (by decide);obtain⟨H',e⟩:=ih (i+1) (by omega) (T:=T+1+1) R2 (by omega) (s.trans (s1.trans s2));have p1:bd 35 []=some (.agg (Pck.av ⟨false,0,0,0⟩)):=by
   simp only [xq_,ahK,jo,fJ]
   try rfl
  have p2:bd 35 [(0,B true)]=some (.agg (Pck.av ⟨true,0,0,0⟩)):=by
   simp only [xq_,ahK,jo,fJ,ahJ];rfl
  refine⟨H',?_⟩;rw [Xz];simp only [xq_,h1,p1,a1,p2,a2,bI,h6,h7,e]
end
theorem FI(v:Int)(hv:BZ v):∃H',cl 3 [I v] ah.empty=some (B true,H'):=by
 have hc:FH.ok=true:=by kernel_rfl
 have hp:FH.mF [[⟨1,0,0⟩]]=true:=by kernel_rfl
 let H1:=ah.empty.new (.blk 0 3 [I 7]);let y:AV:=.sl ah.empty.next 0 0 1 1 1 true
 let H2:=H1.new (.blk 0 24 (FH.avx y));let H3:=H2.new (.blk 0 26 [I 1,I 0,I 0]);let H4:=H3.new (.blk 0 27 [.sl H2.next 0 0 3 1 1 true]);have hy1:jR H1 y [7]:=⟨jI (n:=1) (m:=1) (l:=[I 7]) rfl,mZ,λh=> by cases h⟩
 have hy:jR H4 y FH.init:=((hy1.new _).new _).new _;have hs3:aH H3 (.sl H2.next 0 0 3 1 1 true) 3 1 [I 1,I 0,I 0]:=jI (n:=1) (m:=3) (l:=[I 1,I 0,I 0]) rfl;have hx:Bv H4 (.sl H3.next 0 0 1 1 1 true) [[⟨1,0,0⟩]]:=⟨[.sl H2.next 0 0 3 1 1 true],jI (n:=1) (m:=1) (l:=[.sl H2.next 0 0 3 1 1 true]) rfl,λi v l a b=> by
  match i with
  | 0=> cases a;cases b;exact⟨hs3.new _,λh=> by cases h⟩
  | i+1=> cases a⟩
 obtain⟨H5,A,g,e1,M,MI⟩:=Qx H4 (zaV _) FH hc hy hx hp;have X:MX 0 (.new FH [[⟨1,0,0⟩]]):=aeF hc (λz h=> by rw [zaM.1 h];exact⟨by decide,by decide⟩) hp (λl hl o ho=> by
  rw [zaM.1 hl] at ho;rw [zaM.1 ho];exact⟨by kernel_rfl,by decide,by decide⟩)
 have R:QF H4.next H5 g A (vk 0) 0:=⟨M.good,by rw [M.base];exact zaV _,MI,X⟩
 obtain⟨H',r⟩:=acs v hv (B0:=H4) (b:=H4.next) (zac _) (t4:=.sl H2.next 0 0 3 1 1 true) (λK n l=> (hs3.new _).fV n λr _ hr=> l r hr) 12 0 (by decide) R (by decide) ⟨M.base,M.next,M.same⟩
 replace r:MF cl [I v,.sl H2.next 0 0 3 1 1 true,.ref A.jc 0 0,I 0] H5=some (B true,H'):=r
 have eb1:bs 22 1 [(0,I 7)] ah.empty=some (y,H1):=(LD (by decide)).trans (gZ rfl rfl rfl);have ev:bd 24 [(0,I 1),(1,I 1),(2,I 1),(3,I 1),(4,I 1),(5,I 1),(6,I 1),(7,y)]=some (.agg (FH.avx y)):=by
  simp only [xq_,ahI,jo,fJ,afa];rfl
 have eo:bd 26 [(0,I 1)]=some (.agg [I 1,I 0,I 0]):=by
  simp only [xq_,aaP,jo,fJ,aaO];rfl
 have st8:st 8 (.ref H1.next 0 0) (.agg (FH.avx y)) (H1.new (.blk 0 24 [zI,zI,zI,zI,zI,zI,zI,zN]))=some (aO,H2):=by
  rw [lS rfl];have cc:(AV.agg (FH.avx y)).cells=FH.avx y:=rfl;rw [cc,kT,if_pos ⟨zaV _,rfl,ji FH mZ,zac _⟩];rfl
 have l8:lda 8 (.ref H1.next 0 0) H3=some (.agg (FH.avx y),H3):=(fO (off:=0) (n:=8) (xs:=FH.avx y) ((aS (zcu _)).trans (aJ rfl)) (zac 8)).trans rfl;have eb2:bs 27 1 [(0,.agg [I 1,I 0,I 0])] H2=some (.sl H2.next 0 0 3 1 1 true,H3):=(WT (by decide)).trans (gZ rfl rfl rfl);have eb3:bs 40 1 [(0,.sl H2.next 0 0 3 1 1 true)] H3=some (.sl H3.next 0 0 1 1 1 true,H4):=(ae9 (by decide)).trans (gZ rfl rfl rfl);have b0:bi .neq 29 (I 0) (I 0)=some (B false):=by kernel_rfl
 have en:bi .eql 28 (.ref A.jc 0 0) zP=some (B false):=by kernel_rfl
 refine⟨H',aX rfl rfl (apk _ _ _ ?_)⟩;simp only [xq_,aoS,eb1,ev,st8,eo,eb2,l8,eb3,e1,b0,en,r]
end
end Go.Proofs.YtmdbbfoefdjgoaaGreat
