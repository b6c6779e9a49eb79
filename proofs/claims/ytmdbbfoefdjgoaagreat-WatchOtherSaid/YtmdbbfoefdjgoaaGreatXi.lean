/-
  Own work: an interpreter over named blocks, its soundness, and what the functions of this seat compute (part 9 of 11).
  Conditions: those of the statement alone.
-/
import Derived.Test.YtmdbbfoefdjgoaaGreatXh
set_option linter.all false
set_option linter.unusedSectionVars false
set_option linter.unusedVariables false
set_option linter.unusedSimpArgs false
namespace Go.Proofs.YtmdbbfoefdjgoaaGreat
noncomputable section
theorem agK {n:Nat}{x v r:AV}{H H':ah}(h:st n x v H=some (r,H')):H'.next=H.next:=by
 unfold st at h;split at h
 ·split at h
  ·split at h
   ·cases h;rfl
   ·cases h
  ·cases h
 ·cases h
theorem is0(H:ah)(e:Ent)(w:Int):cl0 167 [.agg e.av,I w] H=some (B (decide (0<=w/\w < e.data.length)),H.new (.blk 0 117 e.av)):=by
 refine iq (aef _ _ _ _ ?_);have e1:=λH=> (gI H e.data).lnS;by_cases h0:0<=w
 ·simp only [Nat.reduceLT,xq_,hq_,MR,aC,Ent.av,h0,e1]
 ·simp only [Nat.reduceLT,xq_,hq_,MR,aC,Ent.av,h0,false_and]
theorem alK(H:ah)(l:List Int)(h:l≠[])(hl:l.length < 1000000000):cl0 12 [dat l] H=some (.sl (H.next+1) 0 0 1 l.length l.length false,(H.new (.blk 0 3 [])).new (.blk 0 (3+fQ) (l.map I))):=by
 have h0:l.length≠0:=λe=> h (zan e);have e2:=qQ (e:=3) (by_:=8) (r:=H.next) (H:=H.new (.blk 0 3 [])) oK (gI _ l) (yR l) h0 (by unfold most;omega) (by unfold most;omega);simp only [dL] at e2;have e1:bi .eql 22 (dat l) zN=some (B false):=by rw [qW h];exact qR Tryz.underlying22
 refine iq (aa4 _ _ _ ?_);simp only [xq_,XA,e1,LD,xE,e2,zbe,zaV]
section
variable {b:Nat}{H:ah}{g0:bg}{S:OJ}{c:Cfg}{me:Int}{k:Nat}{K K':ah}{g:bg}{ls:Lcl}{w w':NFT}
theorem Walk.new(W:Walk b H g0 S c me k K g ls w)(o:fD):Walk b H g0 S c me k (K.new o) g ls w:=⟨W.hb,W.loc.new o,W.nw,W.off,W.step.trans (Step.new _ W.loc.good.1),W.len⟩
theorem JQ {args:List AV}{r:AV × ah}(h:cl0 134 args K=some r):cl 134 args K=some r:=wZ (p:=cl0 134) rfl h
theorem Walk.write(W:Walk b H g0 S c me k K g ls w){r:Nat}{e:Ent}(h:ls r=some e.av)(he:e.data.length < 1000000000)(i v:Int):
  ∃res K' x,cl 134 [.ref r 0 0,I i,I v] K=some (res,K')/\jR K' x (e.write i v).data/\Walk b H g0 S c me k K' g (gV ls r ((e.write i v).avx x)) w:=by
 have same:gV ls r e.av=ls:=by
  funext x;simp only [gV];split
  ·rename_i hx;rw [hx,h]
  ·rfl
 have hr:r < K.next:=W.loc.good.lt (nU h)
 have l4:=W.loc.ld h (i:=4) (v:=B e.fB) rfl;cases hd:e.fB with
 | false=>
  have hm:e.write i v=e:=by unfold Ent.write;rw [if_neg (by simp [hd])]
  rw [hm];rw [hd] at l4;refine⟨B false,K,dat e.data,JQ (iq (Yb _ _ _ _ _ ?_)),oh _ _,by
   have:e.avx (dat e.data)=e.av:=rfl;rw [this,same];exact W⟩
  simp only [xq_,Sj,l4,zaf]
 | true=>
  rw [hd] at l4;have la:=W.loc.lda h (i:=0) (n:=6) (ys:=e.av) rfl rfl (by decide);have e1:=is0 K e i;have W1:=W.new (.blk 0 117 e.av);by_cases hi:0<=i/\i < e.data.length
  ·have hm:e.write i v={ e with data:=e.data.set i.toNat v }:=by unfold Ent.write;rw [if_pos ⟨hd,hi⟩]
   have hne:e.data≠[]:=λh0=> by rw [h0] at hi;simp at hi;omega
   have e2:=alK (K.new (.blk 0 117 e.av)) e.data hne he;simp only [dL] at e2;have l5:=W1.loc.ld h (i:=5) (v:=dat e.data) rfl;let y:AV:=.sl (K.next+1+1) 0 0 1 e.data.length e.data.length false;obtain⟨K3,u1,L3,s3⟩:=W.loc.st W.base h (i:=5) (v:=y) (by simp [Ent.av]) mZ;have nx:=agK u1;let o1:fD:=.blk 0 117 e.av;let o2:fD:=.blk 0 3 [];let o3:fD:=.blk 0 (3+fQ) (e.data.map I);have u2:st 1 (.ref r 0 5) y (((K.new o1).new o2).new o3)=some (aO,((K3.new o1).new o2).new o3):=by
    rw [LP (by rw [dL,dL];omega),LP (by rw [dL];omega),LP hr,u1];rfl
   have L4:=((L3.new o1).new o2).new o3;have l5':=L4.ld aj (i:=5) (v:=y) (by simp [Ent.av]);have hn2:((K3.new o1).new o2).next=K.next+1+1:=by rw [dL,dL,nx]
   have hs:aH (((K3.new o1).new o2).new o3) y 1 e.data.length (e.data.map I):=by
    have:=jI (e:=3+fQ) (m:=1) (n:=e.data.length) (l:=e.data.map I) (H:=(K3.new o1).new o2) (ex:=false) (by simp);rw [hn2] at this;exact this
   have ex:=hs.ix (k:=.i64) (i:=i) hi.1 hi.2;have ep:dW y i.toNat=.ref (K.next+1+1) 0 i.toNat:=by simp [y,dW]
   rw [ep] at ex;have u3:st 1 (.ref (K.next+1+1) 0 i.toNat) (I v) (((K3.new o1).new o2).new o3)=some (aO,((K3.new o1).new o2).new (.blk 0 (3+fQ) ((e.data.set i.toNat v).map I))):=by
    rw [lS hn2.symm];have hbK:((K3.new o1).new o2).base<=K.next+1+1:=by
     rw [iC,iC,s3.base];have:=W.base;have:=W.loc.good.1;omega
    have hset:aG (e.data.map I) i.toNat (I v).cells=(e.data.set i.toNat v).map I:=by
     rw [show(I v).cells=[I v] from rfl];have hlt:i.toNat < (e.data.map I).length:=by simp;omega
     unfold aG;rw [List.map_set,zdb,if_pos hlt];simp
    rw [hset,if_pos ⟨hbK,rfl,rfl,by rw [show(I v).cells=[I v] from rfl];simp only [zax,zah,zam];omega⟩]
   refine⟨B true,((K3.new o1).new o2).new (.blk 0 (3+fQ) ((e.data.set i.toNat v).map I)),y,JQ (iq (Yb _ _ _ _ _ ?_)),?_,?_⟩;rotate_left
   ·rw [hm];have:=jI (e:=3+fQ) (m:=1) (n:=(e.data.set i.toNat v).length) (l:=(e.data.set i.toNat v).map I) (H:=(K3.new o1).new o2) (ex:=false) (by simp);rw [hn2] at this;rw [zbV] at this;refine⟨?_,mZ,λh0=> ?_⟩
    ·simp only [zbV];exact this
    ·have:=congrArg List.length h0;simp at this;exact absurd this hne
   ·rw [hm];have L5:=((L3.new o1).new o2).new (.blk 0 (3+fQ) ((e.data.set i.toNat v).map I));have hx:(e.av.set 5 y)=({ e with data:=e.data.set i.toNat v }:Ent).avx y:=rfl;rw [hx] at L5;exact⟨W.hb,L5,W.nw,W.off,((((W.step.trans s3).trans (Step.new _ L3.good.1)).trans (Step.new _ (L3.new o1).good.1)).trans (Step.new _ ((L3.new o1).new o2).good.1)),W.len⟩
   ·simp only [o1,o2,o3,y] at u2 l5' ex u3;rw [decide_eq_true hi] at e1;simp only [xq_,Sj,l4,la,e1,zad,l5,e2,u2,l5',ex,u3];rfl
  ·have hm:e.write i v=e:=by unfold Ent.write;rw [if_neg (λh=> hi h.2)]
   rw [hm];refine⟨B false,_,dat e.data,JQ (iq (Yb _ _ _ _ _ ?_)),oh _ _,by
    have:e.avx (dat e.data)=e.av:=rfl;rw [this,same];exact W1⟩
   rw [decide_eq_false hi] at e1;simp only [xq_,Sj,l4,la,e1,zad,zaf]
end
section
variable {b:Nat}{H:ah}{g0:bg}{S:OJ}{c:Cfg}{me:Int}{k:Nat}{K K':ah}{g:bg}{ls:Lcl}{w w':NFT}
theorem agL(W:Walk b H g0 S c me k K g ls w)(hp:PSz w.1.dK)(C:COk w.1.aT)(hl:w.2.2.length < 1000000){r4 r9:Nat}{o:Opn}{e:Ent}{x:AV}(h4:ls r4=some o.av)(h9:ls r9=some (e.avx x))(he:e.data.length < 1000000000)(hx:jR K x e.data)(was:Int):
  ∃K' g',xI cl (.ref (S.a 0) 0 0) (.ref S.t 0 0) (.ref r4 0 0) (.ref r9 0 0) (I was) K=some (.tup [],K')/\
   Walk b H g0 S c me k K' g' ls ((({ w.1 with aT:=(w.1.aT.put e).1 }:Node).done me w.2.2 (if o.bf=2 then 0 else was)).1,w.2.1,(({ w.1 with aT:=(w.1.aT.put e).1 }:Node).done me w.2.2 (if o.bf=2 then 0 else was)).2):=by
 have l1:=W.ldN (i:=0) (v:=.ref (S.a 1) 0 0) rfl;have l2:=W.loc.lda h9 (i:=0) (n:=6) (ys:=e.avx x) rfl rfl (by decide);obtain⟨K1,g1,a1,W1⟩:=W.apU C e he hx;have l3:=W1.loc.ld h4 (i:=0) (v:=I o.bf) rfl;obtain⟨K2,g2,b1,W2⟩:=Zm W1 hp hl (if o.bf=2 then 0 else was);refine⟨K2,g2,?_,W2⟩;by_cases h2:o.bf=2
 ·rw [h2] at l3;rw [if_pos h2] at b1;simp only [xq_,xI,Js,l1,l2,a1,l3,b1]
 ·rw [if_neg h2] at b1;simp only [xq_,xI,Js,l1,l2,a1,l3,h2,b1]
theorem NZ(W:Walk b H g0 S c me k K g ls w)(hc:c.ok=true)(hp:PSz w.1.dK)(C:COk w.1.aT)(hl:w.2.2.length < 1000000):
  ∃K' g',cl 87 [.ref (S.a 0) 0 0,.ref S.t 0 0] K=some (.tup [],K')/\Walk b H g0 S c me k K' g' ls ((w.1.effect c me w.2.2).1,w.2.1,(w.1.effect c me w.2.2).2):=by
 have W0:=Walk.of W.loc.good W.base W.NY;obtain⟨o,ho⟩:∃o,w.1.dK.op=o:=⟨_,rfl⟩
 obtain⟨wi,hwi⟩:∃wi,c.jJ o.addr=wi:=⟨_,rfl⟩
 obtain⟨e,hee⟩:∃e,(w.1.aT.find (c.dS o.addr)).getD .zero=e:=⟨_,rfl⟩
 have hed:e.data.length < 1000000000:=by
  rw [<-hee];cases hf:w.1.aT.find (c.dS o.addr) with
  | none=> exact(show(0:Nat) < 1000000000 by decide)
  | some e'=> exact C.dat e' (zbh hf)
 have l1:=W0.ldN (i:=1) (v:=.ref (S.a 2) 0 0) rfl;obtain⟨K1,a1,W1⟩:=W0.cur hp;have W2:=W1.newL (ty:=26) (xs:=[zI,zI,zI]) (r:=K1.next) rfl rfl;obtain⟨K3,b1,b2,W3⟩:=W2.whole aj (n:=3) (vs:=o.av) rfl (fH _) (by decide) (nK _);have lc:=W3.alI (i:=2) (n:=8) (ys:=c.av) rfl rfl (by decide);have k3:gV (gV noL K1.next [zI,zI,zI]) K1.next o.av K1.next=some o.av:=aj
 have la:=W3.loc.ld k3 (i:=1) (v:=I o.addr) rfl;have el:=EF K3 c hc o.addr;rw [hwi] at el;have l0:=W3.ldN (i:=0) (v:=.ref (S.a 1) 0 0) rfl;have ef:=W3.find C (c.dS o.addr);simp only [iV] at ef;rw [hee] at ef;have n3:K1.next < K3.next:=W3.loc.good.lt (nU (g:=lay g ls) k3)
 have W4:=W3.newL (ty:=117) (xs:=[zI,zI,zI,zI,zB,zN]) (r:=K3.next) rfl rfl;obtain⟨K5,c1,c2,W5⟩:=W4.whole aj (n:=6) (vs:=e.av) rfl rfl (by decide) (jf e);have ew:=agi K5 e wi;have k9:gV (gV (gV (gV noL K1.next [zI,zI,zI]) K1.next o.av) K3.next [zI,zI,zI,zI,zB,zN]) K3.next e.av K3.next=some e.av:=aj
 have k4:gV (gV (gV (gV noL K1.next [zI,zI,zI]) K1.next o.av) K3.next [zI,zI,zI,zI,zB,zN]) K3.next e.av K1.next=some o.av:=by rw [ay (by omega),ay (by omega)];exact k3
 have lk:=W5.loc.ld k4 (i:=0) (v:=I o.bf) rfl;have lv:=W5.loc.ld k4 (i:=2) (v:=I o.value) rfl;have hm:w.1.effect c me w.2.2=({ w.1 with aT:=(w.1.aT.put (kV e o wi)).1 }:Node).done me w.2.2 (if o.bf=2 then 0 else e.word wi):=by
  simp only [Node.effect,ho,hee,hwi]
 rw [ho] at a1
 -- a word is written,or none
 have key:∀{K6:ah} {ls6:Lcl} {x:AV},Walk b K (lay g ls) S c me w.2.1.l.length K6 (lay g ls) ls6 w->ls6 K1.next=some o.av->ls6 K3.next=some ((kV e o wi).avx x)->jR K6 x (kV e o wi).data->
   ∃K' g',xI cl (.ref (S.a 0) 0 0) (.ref S.t 0 0) (.ref K1.next 0 0) (.ref K3.next 0 0) (I (e.word wi)) K6=some (.tup [],K')/\Walk b H g0 S c me k K' g' ls ((w.1.effect c me w.2.2).1,w.2.1,(w.1.effect c me w.2.2).2):=by
  intro K6 ls6 x W6 h4 h9 hx;obtain⟨K7,g7,r1,W7⟩:=agL W6 hp C hl h4 h9 (by rw [(xO e o wi).2.2.2];exact hed) hx (e.word wi);rw [<-hm] at W7;obtain⟨g',W'⟩:=W.app (K':=K7) (w':=((w.1.effect c me w.2.2).1,w.2.1,(w.1.effect c me w.2.2).2)) (by
   have:=W7.res;rw [W.len] at this;exact this)
  exact⟨K7,g',r1,W'⟩
 by_cases h2:o.bf=2
 ·obtain⟨res,K6,x,d1,hx,W6⟩:=W5.write k9 hed wi o.value;have he:kV e o wi=e.write wi o.value:=by unfold kV;rw [if_pos h2]
  obtain⟨K7,g',r1,W'⟩:=key W6 (by rw [ay (by omega)];exact k4) (by rw [aj,he]) (by rw [he];exact hx);refine⟨K7,g',aX rfl rfl (afR _ _ _ _ ?_),W'⟩;rw [h2] at lk;simp only [Int.reduceEq,xq_,abj,l1,a1,b1,lc,la,el,l0,ef,c1,c2,ew,lk,lv,d1,r1]
 ·by_cases h3:o.bf=3
  ·obtain⟨res,K6,x,d1,hx,W6⟩:=W5.write k9 hed wi (w64 (e.word wi+o.value));have he:kV e o wi=e.write wi (w64 (e.word wi+o.value)):=by unfold kV;rw [if_neg h2,if_pos h3]
   obtain⟨K7,g',r1,W'⟩:=key W6 (by rw [ay (by omega)];exact k4) (by rw [aj,he]) (by rw [he];exact hx);refine⟨K7,g',aX rfl rfl (afR _ _ _ _ ?_),W'⟩;rw [h3] at lk;simp only [w64] at d1;simp only [Int.reduceEq,xq_,abj,l1,a1,b1,lc,la,el,l0,ef,c1,c2,ew,lk,lv,bI,d1,r1]
  ·have he:kV e o wi=e:=by unfold kV;rw [if_neg h2,if_neg h3]
   obtain⟨K7,g',r1,W'⟩:=key (x:=dat e.data) W5 k4 (by rw [he];exact k9) (by rw [he];exact oh _ _);refine⟨K7,g',aX rfl rfl (afR _ _ _ _ ?_),W'⟩;simp only [xq_,abj,l1,a1,b1,lc,la,el,l0,ef,c1,c2,ew,lk,h2,h3,r1]
theorem abV(W:Walk b H g0 S c me k K g ls w)(C:COk w.1.aT)(hd:w.1.dO.data.length < 1000000000)(p:Pkt)(hpl:p.data.length < 1000000000):
  ∃K' g',cl 84 [.ref (S.a 0) 0 0,.agg p.av] K=some (rG (w.1.after me p),K')/\Walk b H g0 S c me k K' g' ls ({ w.1 with aT:=(w.1.after me p).1 },w.2):=by
 have W0:=Walk.of W.loc.good W.base W.NY;have W1:=W0.newL (ty:=99) (xs:=p.av) (r:=K.next) (aK p) rfl;have W2:=W1.newL (ty:=62) (xs:=zD9) (r:=K.next+1) rfl (by rw [dL]);have k3:gV (gV noL K.next p.av) (K.next+1) zD9 K.next=some p.av:=by rw [ay (by omega),aj]
 have lk:=W2.ldN (i:=12) (v:=I w.1.dO.bf) rfl;have ld:=W2.alI (i:=12) (n:=9) (ys:=w.1.dO.av) rfl rfl (by decide);have li:=W2.ldN (i:=10) (v:=I me) rfl;have lc:=W2.ldN (i:=0) (v:=.ref (S.a 1) 0 0) rfl;have lp:=W2.loc.lda k3 (i:=0) (n:=9) (ys:=p.av) rfl rfl (by decide);have hcache:=W2.loc.obj W2.nw.bn.2.1
 -- the end
 have fin:∀{K3:ah} {r:Nxt},Good b K3 (upd (lay (lay g ls) (gV (gV noL K.next p.av) (K.next+1) zD9)) (S.a 1) (bJ r.1))->Step b ((K.new (.blk 0 99 p.av)).new (.blk 0 62 zD9)) K3->w.1.after me p=r->
   ∃K' g',st 9 (.ref (K.next+1) 0 0) (.agg r.2.1.av) K3=some (aO,K')/\lda 9 (.ref (K.next+1) 0 0) K'=some (.agg r.2.1.av,K')/\Walk b H g0 S c me k K' g' ls ({ w.1 with aT:=(w.1.after me p).1 },w.2):=by
  intro K3 r G s hr;have W3:=W2.aT G s;obtain⟨K4,u1,u2,W4⟩:=W3.whole (r:=K.next+1) (xs:=zD9) aj (n:=9) (vs:=r.2.1.av) rfl rfl (by decide) (aZ _);obtain⟨g',W'⟩:=W.app (K':=K4) (w':=({ w.1 with aT:=(w.1.after me p).1 },w.2)) (by
   have:=W4.res;rw [W.len] at this;rw [hr];exact this)
  exact⟨K4,g',u1,u2,W'⟩
 by_cases h1:w.1.dO.bf=1
 ·have hm:w.1.after me p=dN w.1.dO me w.1.aT p:=by unfold Node.after;rw [if_pos h1]
  obtain⟨K3,a1,a2,a3⟩:=Zg W2.loc.good W2.base hcache C w.1.dO me p hpl;obtain⟨K4,g',u1,u2,W'⟩:=fin a2 a3 hm;refine⟨K4,g',aX rfl rfl (abh _ _ _ _ ?_),W'⟩;rw [h1] at lk;rw [hm];simp only [rG] at a1 ⊢;simp only [Nat.reduceLT,Int.reduceEq,xq_,XQ,aC (aK p),lk,ld,li,lc,lp,a1,u1,u2]
 ·by_cases h2:w.1.dO.bf=2
  ·have hm:w.1.after me p=dM w.1.dO me w.1.aT p:=by unfold Node.after;rw [if_neg h1,if_pos h2]
   obtain⟨K3,a1,a2,a3⟩:=abR W2.loc.good W2.base hcache C w.1.dO me p hd hpl;obtain⟨K4,g',u1,u2,W'⟩:=fin a2 a3 hm;refine⟨K4,g',aX rfl rfl (abh _ _ _ _ ?_),W'⟩;rw [h2] at lk;rw [hm];simp only [rG] at a1 ⊢;simp only [Nat.reduceLT,Int.reduceEq,xq_,XQ,aC (aK p),lk,ld,li,lc,lp,a1,u1,u2]
  ·by_cases h3:w.1.dO.bf=3
   ·have hm:w.1.after me p=dX w.1.dO w.1.aT p:=by unfold Node.after;rw [if_neg h1,if_neg h2,if_pos h3]
    obtain⟨K3,a1,a2,a3⟩:=agH W2.loc.good W2.base hcache C w.1.dO p me;obtain⟨K4,g',u1,u2,W'⟩:=fin a2 a3 hm;refine⟨K4,g',aX rfl rfl (abh _ _ _ _ ?_),W'⟩;rw [h3] at lk;rw [hm];simp only [rG] at a1 ⊢;simp only [Nat.reduceLT,Int.reduceEq,xq_,XQ,aC (aK p),lk,ld,li,lc,lp,a1,u1,u2]
   ·have hm:w.1.after me p=wB w.1.aT:=by unfold Node.after;rw [if_neg h1,if_neg h2,if_neg h3]
    obtain⟨K4,g',u1,u2,W'⟩:=fin (r:=wB w.1.aT) (by rw [show(wB w.1.aT).1=w.1.aT from rfl,eU hcache];exact W2.loc.good) (Step.refl _ _) hm;refine⟨K4,g',aX rfl rfl (abh _ _ _ _ ?_),W'⟩;rw [hm];have ez:bd 62 []=some (.agg zD9):=by simp only [xq_,WV,jo,dH]
    have hz:(wB w.1.aT).2.1.av=zD9:=kJ;rw [hz] at u1 u2;simp only [rG,hz];simp only [Nat.reduceLT,xq_,XQ,aC (aK p),lk,h1,h2,h3,ez,u1,u2];rfl
end
def Node.evs(n:Node):Nat:=2*n.dK.dP.length+(if n.dK.gK then 1 else 0)
theorem Zn {c:Cfg}{d:dF}(h:d.data=[]∨nO c d.data)(me home:Int):(d.ask me home).ok=true->wC c (d.ask me home):=by
 intro hk;have num:∀v∈d.data,I64 v:=by
  rcases h with h | h
  ·rw [h];intro v hv;cases hv
  ·exact h.2
 refine⟨hk,?_,?_⟩
 ·unfold dF.ask
  repeat' split
  all_goals (simp [Pkt.zero])
 ·unfold dF.ask
  repeat' split
  all_goals first | exact num | (intro v hv;cases hv)
theorem vW {c:Cfg}{p:Pkt}(hd:p.data=[])(hk:¬(p.bf=7∨p.bf=9)):p.ok=true->wC c p:=λh=> ⟨h,λe=> absurd e hk,by rw [hd];intro v hv;cases hv⟩
theorem abW {c:Cfg}{eF:Rows}(hr:∀e∈eF,nO c e.2.data){aB state head:Int}{data:List Int}(hd:∀v∈data,I64 v):∀e∈(iY c eF aB state head data).1,nO c e.2.data:=by
 unfold iY;cases ha:jM eF aB with
 | none=> exact hr
 | some r=>
  simp only;split
  ·exact hr
  ·split
   ·exact hr
   ·rename_i h1 h2;intro e he;rcases pU he with rfl | he
    ·simp only;split
     ·exact hr _ (vM ha)
     ·rename_i h0;simp only [zbs,zaj,decide_eq_true_eq,not_or,not_and,Decidable.not_not] at h2;exact⟨h2.2 h0,hd⟩
    ·exact hr e he
theorem QB {c:Cfg}{me:Int}{h:Home}(hr:∀e∈h.eF,nO c e.2.data){p:Pkt}(hd:∀v∈p.data,I64 v):∀e∈(h.handle c me p).1.eF,nO c e.2.data:=by
 unfold Home.handle;split
 ·exact hr
 split
 ·exact hr
 split
 ·simp only;split <;> exact hr
 ·have key:∀e∈(h.unlock c p).1.eF,nO c e.2.data:=by
   unfold Home.unlock;have hd':∀v∈(if p.flag=true then p.data else []),I64 v:=by
    split
    ·exact hd
    ·intro v hv;cases hv
   generalize (if p.flag=true then p.data else [])=dat at hd' ⊢;split
   ·exact hr
   ·simp only;split
    ·exact abW hr hd'
    ·exact hr
  simp only;split <;> exact key
theorem Zo {c:Cfg}{ca:Cache}(I:Cb c ca)(p:Pkt):Cb c (fP ca p).1/\((fP ca p).2.1.ok=true->wC c (fP ca p).2.1)/\(fP ca p).1.dD=ca.dD/\∀(aB:Int),c.ok=true->ca.full aB=false->(fP ca p).1.full aB=false:=by
 unfold fP;have z:Pkt.zero.ok=true->wC c Pkt.zero:=vW rfl (by simp [Pkt.zero]);split
 ·exact⟨I,z,rfl,λ_ _ h=> h⟩
 rename_i h1;cases hf:ca.find p.aB with
 | none=> exact⟨I,z,rfl,λ_ _ h=> h⟩
 | some e=>
  obtain⟨he,hl⟩:=(jW I.aW).1 hf;have E:=I.ent e he;simp only [zbs,zbf,not_or,zc6,decide_eq_true_eq] at h1;have put:∀e':Ent,e'.aB=e.aB->e'.data=e.data->Cb c (ca.put e').1/\(ca.put e').1.dD=ca.dD/\∀aB,ca.full aB=false->(ca.put e').1.full aB=false:=λe' h2 h3=> by
   have hf':ca.find e'.aB=some e:=by rw [h2,hl];exact hf
   refine⟨I.put (by rw [h2];exact E.lo) (by rw [h2];exact E.hi) (by rw [h3];exact E.dat),by rw [uI I.aW (by rw [h2];exact E.lo) hf'],λaB h=> ?_⟩;rw [aaX I.aW (by rw [h2];exact E.lo) hf'];exact h
  simp only;split
  ·rename_i k;have u:=put { e with fB:=false,back:=p.ptr } rfl rfl;exact⟨u.1,λh=> ⟨h,λ_=> E.dat,E.dat.2⟩,u.2.1,λl _ h=> u.2.2 l h⟩
  split
  ·rename_i k;have u:=put { e with fwd:=p.ptr } rfl rfl;exact⟨u.1,vW rfl (by simp only [k];decide),u.2.1,λl _ h=> u.2.2 l h⟩
  split
  ·rename_i k;have u:=put { e with back:=p.ptr } rfl rfl;exact⟨u.1,vW rfl (by simp only [k];decide),u.2.1,λl _ h=> u.2.2 l h⟩
  ·exact⟨I.drop _,λh=> ⟨h,λ_=> E.dat,E.dat.2⟩,Aq _ _,λl hc h=> Xo hc I h⟩
theorem Vg {ca:Cache}(hl:Lines ca.l){aB:Int}{e:Ent}(h:ca.find aB=some e):(ca.touch aB).find aB=some { e with used:=ca.dD+1 }:=by
 obtain⟨he,hel⟩:=(jW hl).1 h;rw [I9 hl h];unfold Cache.find;rw [jW (yC hl λy _=> by
  split
  ·rename_i h;rw [h];exact hel
  ·rfl)]
 exact⟨zaS.2 ⟨e,he,by rw [if_pos hel]⟩,hel⟩
theorem EZ {ca:Cache}(hl:Lines ca.l){aB:Int}{e:Ent}(h:ca.find aB=some e):(ca.touch aB).dD=ca.dD+1:=by rw [I9 hl h]
theorem N7 {f:Fab}{i:Int}{req:Bool}(h:(f.take i req).2=none):(f.take i req).1=f:=by
 unfold Fab.take at h ⊢;split
 ·rename_i hi;rw [if_pos hi] at h;cases hl:(f.port i).vI req with
  | nil=> rfl
  | cons p l=> rw [hl] at h;cases h
 ·rfl
structure ahe(m:dG):Prop where
 ok:m.c.ok=true
 len:(m.aP.length:Int)=m.c.aP
 fab:uJ m.c m.fab
 bn:∀(i:Nat) n,m.aP[i]?=some n->UH m.c i n
 evs:m.trace.length=(m.aP.map Node.evs).sum
theorem Zp {α:Type}(f:α->Nat):∀{l:List α} {i:Nat} {a a':α},l[i]?=some a->((l.set i a').map f).sum+f a=(l.map f).sum+f a'
 | [],i,a,a',h=> by simp at h
 | x::l,0,a,a',h=> by
  simp only [za2,zaa] at h;subst h;simp only [zcD,zaC,zcV];omega
 | x::l,i+1,a,a',h=> by
  simp only [zbo] at h;have:=Zp f (a':=a') h;simp only [zc0,zaC,zcV];omega
section
variable {b:Nat}{H:ah}{g:bg}{q:Nat}{ca:Cache}
theorem Zq(G:Good b H g)(hb:H.base<=b)(h:g q=some (bJ ca))(C:COk ca)(p:Pkt):
  ∃H',cl 144 [.ref q 0 0,.agg p.av] H=some (VL (fP ca p),H')/\Good b H' (upd g q (bJ (fP ca p).1))/\Step b H H':=by
 by_cases hx:(!p.ok || decide (p.bf < 3) || decide (6 < p.bf))=true
 ·exact NU G hb h C p (.inl hx)
 ·cases hf:ca.find p.aB with
  | none=> exact NU G hb h C p (.inr hf)
  | some e=> exact abT G hb h C p hx hf
end
theorem fok {c:Cfg}(hc:c.ok=true){f:Fab}(F:uJ c f):FOk c f:=by
 have B:=uN hc;refine⟨hc,by have:=F.len;have:=B.aP;omega,λp hp s hs=> ?_,λp hp s hs q hq=> ?_⟩
 ·have P:=F.port p hp
  match s,hs with
  | 0,_=> exact P.rq
  | 1,_=> exact P.rin
  | 2,_=> exact P.an
  | 3,_=> exact P.ain
 ·have P:=F.port p hp;have Q:wC c q:=by
   match s,hs with
   | 0,_=> exact P.pkt q (.inl hq)
   | 1,_=> exact P.pkt q (.inr (.inr (.inl hq)))
   | 2,_=> exact P.pkt q (.inr (.inl hq))
   | 3,_=> exact P.pkt q (.inr (.inr (.inr hq)))
  have:=Q.ok;simp only [Pkt.ok,zaj,decide_eq_true_eq] at this;omega
theorem N8 {c:Cfg}{p:Pkt}(Q:wC c p):p.data.length < 1000000000:=by
 have:=Q.ok;simp only [Pkt.ok,zaj,decide_eq_true_eq] at this;omega
structure HSz(h:Home):Prop where
 t:TOk h.bV
 r:∀e∈h.eF,e.2.data.length < 1000000000
theorem N9 {h:Home}(hr:∀e∈h.eF,e.2.data.length < 1000000000)(aB:Int):(oL h.eF aB).data.length < 1000000000:=by
 unfold oL;cases ha:jM h.eF aB with
 | none=> exact(show(0:Nat) < 1000000000 by decide)
 | some r=> exact hr _ (vM ha)
def lN(c:Cfg)(me:Int)(n:Node)(p:Pkt):Node × Pkt × Bool:=
 if p.bf=1∨p.bf=2 then({ n with home:=(n.home.handle c me p).1 },(n.home.handle c me p).2.1,(n.home.handle c me p).2.2.1 && decide ((n.home.handle c me p).2.2.2=0))
 else({ n with aT:=(fP n.aT p).1 },(fP n.aT p).2.1,decide ((fP n.aT p).2.2=0))
theorem abX(c:Cfg)(me:Int)(n:Node)(f:Fab)(p:Pkt):n.asked c me f p=((lN c me n p).1,if(lN c me n p).2.2=true then(f.send (lN c me n p).2.1).1 else f):=by
 unfold Node.asked lN;split
 ·rcases h:n.home.handle c me p with⟨h1,o,ok,e⟩
  simp
 ·rcases h:fP n.aT p with⟨h1,o,e⟩
  simp
theorem Oa {c:Cfg}{me:Int}{n:Node}(C:COk n.aT)(Z:HSz n.home)(p:Pkt):(lN c me n p).2.1.data.length < 1000000000:=by
 have z0:(0:Nat) < 1000000000:=by decide
 unfold lN;split
 ·simp only [Home.handle]
  repeat' split
  all_goals first | exact z0 | exact N9 Z.r _
 ·simp only [fP];split
  ·exact z0
  ·cases hf:n.aT.find p.aB with
   | none=> exact z0
   | some e=>
    have he:=C.dat e (zbh hf);simp only
    repeat' split
    all_goals first | exact z0 | exact he
section
variable {b:Nat}{H:ah}{g0:bg}{S:OJ}{c:Cfg}{me:Int}{k:Nat}{K K':ah}{g:bg}{ls:Lcl}{w w':NFT}
theorem Zr(W:Walk b H g0 S c me k K g ls w)(hc:c.ok=true)(C:COk w.1.aT)(Z:HSz w.1.home)(p:Pkt)(hpl:p.data.length < 1000000000):
  ∃K' g',cl 94 [.ref (S.a 0) 0 0,.agg p.av] K=some (.tup [.agg (lN c me w.1 p).2.1.av,B (lN c me w.1 p).2.2],K')/\Walk b H g0 S c me k K' g' ls ((lN c me w.1 p).1,w.2):=by
 have W0:=Walk.of W.loc.good W.base W.NY;have W1:=W0.newL (ty:=99) (xs:=p.av) (r:=K.next) (aK p) rfl;have W2:=W1.newL (ty:=99) (xs:=zP9) (r:=K.next+1) rfl (by rw [dL]);have W3:=W2.newL (ty:=99) (xs:=zP9) (r:=K.next+1+1) rfl (by rw [dL,dL]);have k2:gV (gV noL K.next p.av) (K.next+1) zP9 K.next=some p.av:=by rw [ay (by omega),aj]
 have k3:gV (gV (gV noL K.next p.av) (K.next+1) zP9) (K.next+1+1) zP9 K.next=some p.av:=by rw [ay (by omega)];exact k2
 have k4:gV (gV (gV noL K.next p.av) (K.next+1) zP9) (K.next+1+1) zP9 (K.next+1)=some zP9:=by rw [ay (by omega),aj]
 have k5:gV (gV (gV noL K.next p.av) (K.next+1) zP9) (K.next+1+1) zP9 (K.next+1+1)=some zP9:=aj;have lk:=W2.loc.ld k2 (i:=0) (v:=I p.bf) rfl;have lp:=W3.loc.lda k3 (i:=0) (n:=9) (ys:=p.av) rfl rfl (by decide);have lh:=W3.ldN (i:=11) (v:=.ref (S.a 3) 0 0) rfl;have lc:=W3.ldN (i:=0) (v:=.ref (S.a 1) 0 0) rfl
 -- the end
 have fin:∀{K4:ah} {g4:bg} {n':Node} {out:Pkt} {v:AV},Walk b K (lay g ls) S c me w.2.1.l.length K4 g4 (gV (gV (gV noL K.next p.av) (K.next+1) zP9) (K.next+1+1) zP9) (n',w.2)->
   (∀f args,cl f args (((K.new (.blk 0 99 p.av)).new (.blk 0 99 zP9)).new (.blk 0 99 zP9))=some (v,K4)->
   (∀{β:Type} (kk:Option β),ckR (K.next+1+1) (K.next+1+1+1) (((K.new (.blk 0 99 p.av)).new (.blk 0 99 zP9)).new (.blk 0 99 zP9)) K4 kk=kk)/\
   ∃K5 K6 g',st 9 (.ref (K.next+1+1) 0 0) (.agg out.av) K4=some (aO,K5)/\lda 9 (.ref (K.next+1+1) 0 0) K5=some (.agg out.av,K5)/\st 9 (.ref (K.next+1) 0 0) (.agg out.av) K5=some (aO,K6)/\lda 9 (.ref (K.next+1) 0 0) K6=some (.agg out.av,K6)/\Walk b H g0 S c me k K6 g' ls (n',w.2)):=by
  intro K4 g4 n' out v W4 f args hcl;refine⟨λkk=> alG λr h1 h2=> ?_,?_⟩
  ·obtain rfl:r=K.next+1+1:=by omega
   exact TF W3.loc.good W4.loc.good (Tz _ _ _ _ _ hcl) (nU k5) (nU k5)
  ·obtain⟨K5,u1,u2,W5⟩:=W4.whole k5 (n:=9) (vs:=out.av) rfl (bH _) (by decide) (aK _);obtain⟨K6,u3,u4,W6⟩:=W5.whole (r:=K.next+1) (xs:=zP9) (by rw [ay (by omega)];exact k4) (n:=9) (vs:=out.av) rfl (bH _) (by decide) (aK _);obtain⟨g',W'⟩:=W.app (K':=K6) (w':=(n',w.2)) (by
    have:=W6.res;rw [W.len] at this;exact this)
   exact⟨K5,K6,g',u1,u2,u3,u4,W'⟩
 by_cases hk:p.bf=1∨p.bf=2
 ·have hm:lN c me w.1 p=({ w.1 with home:=(w.1.home.handle c me p).1 },(w.1.home.handle c me p).2.1,(w.1.home.handle c me p).2.2.1 && decide ((w.1.home.handle c me p).2.2.2=0)):=by unfold lN;rw [if_pos hk]
  rw [hm];have HI:=W3.NY.bn.2.2.2;obtain⟨K4,a1,a2,a3⟩:=Y8 W3.loc.good W3.base HI hc Z.t.nd Z.t.ws Z.r p hpl;have W4:=W3.home a2 a3;obtain⟨ck,K5,K6,g',u1,u2,u3,u4,W'⟩:=fin W4 _ _ a1 (out:=(w.1.home.handle c me p).2.1);refine⟨K6,g',aX rfl rfl (ajy _ _ _ _ ?_),W'⟩;simp only [TB] at a1;obtain⟨ok,hok⟩:∃ok,(w.1.home.handle c me p).2.2.1=ok:=⟨_,rfl⟩
  rw [hok] at a1 ⊢;have cR:∀{β:Type} (kk:Option β),ckR ((K.new (.blk 0 99 p.av)).new (.blk 0 99 zP9)).next (((K.new (.blk 0 99 p.av)).new (.blk 0 99 zP9)).new (.blk 0 99 zP9)).next (((K.new (.blk 0 99 p.av)).new (.blk 0 99 zP9)).new (.blk 0 99 zP9)) K4 kk=kk:=by
   intro β kk;simp only [dL];exact ck kk
  rcases hk with h1 | h1
  ·rw [h1] at lk;cases ok with
   | true=> simp only [Nat.reduceLT,xq_,UU,aC (aK p),lk,lh,lp,a1,ck,u1,u2,u3,u4,zaI]
   | false=> simp only [Nat.reduceLT,xq_,UU,aC (aK p),lk,lh,lp,a1,ck,u1,u2,u3,u4,zaL]
  ·rw [h1] at lk;cases ok with
   | true=> simp only [Nat.reduceLT,Int.reduceEq,xq_,UU,aC (aK p),lk,lh,lp,a1,ck,u1,u2,u3,u4,zaI]
   | false=> simp only [Nat.reduceLT,Int.reduceEq,xq_,UU,aC (aK p),lk,lh,lp,a1,ck,u1,u2,u3,u4,zaL]
 ·have hm:lN c me w.1 p=({ w.1 with aT:=(fP w.1.aT p).1 },(fP w.1.aT p).2.1,decide ((fP w.1.aT p).2.2=0)):=by unfold lN;rw [if_neg hk]
  rw [hm];obtain⟨K4,a1,a2,a3⟩:=Zq W3.loc.good W3.base (W3.loc.obj W3.nw.bn.2.1) C p;have W4:=W3.aT a2 a3;obtain⟨ck,K5,K6,g',u1,u2,u3,u4,W'⟩:=fin W4 _ _ a1 (out:=(fP w.1.aT p).2.1);refine⟨K6,g',aX rfl rfl (ajy _ _ _ _ ?_),W'⟩;have h1:¬p.bf=1:=λh=> hk (.inl h);have h2:¬p.bf=2:=λh=> hk (.inr h);simp only [VL] at a1;simp only [Nat.reduceLT,xq_,UU,aC (aK p),lk,h1,h2,lc,lp,a1,ck,u1,u2,u3,u4]
end
section
variable {b:Nat}{H:ah}{g0:bg}{S:OJ}{c:Cfg}{me:Int}{k:Nat}{K K':ah}{g:bg}{ls:Lcl}{w w':NFT}
theorem TJ(f:Fab)(i:Int)(req:Bool):(f.take i req).1.l.length=f.l.length:=by
 unfold Fab.take;split
 ·split
  ·rfl
  ·simp [Fab.put]
 ·rfl
theorem Walk.Am(W:Walk b H g0 S c me k K g ls w)(F:FOk c w.2.1):∃K' g',cl 93 [.ref S.f 0 0,I me] K=some (gQ (w.2.1.take me true).2,K')/\Walk b H g0 S c me k K' g' ls (w.1,(w.2.1.take me true).1,w.2.2):=by
 obtain⟨K',g1,h1,h2,h3,h4,h5⟩:=Proofs.YtmdbbfoefdjgoaaGreat.Am W.loc.good W.base W.NY.fab W.nw.UY F me;obtain⟨g',W'⟩:=W.net h2 h3 (TJ _ _ _) h4 h5;exact⟨K',g',h1,W'⟩
theorem Walk.JK(W:Walk b H g0 S c me k K g ls w)(F:FOk c w.2.1):∃K' g',cl 83 [.ref S.f 0 0,I me] K=some (gQ (w.2.1.take me false).2,K')/\Walk b H g0 S c me k K' g' ls (w.1,(w.2.1.take me false).1,w.2.2):=by
 obtain⟨K',g1,h1,h2,h3,h4,h5⟩:=Proofs.YtmdbbfoefdjgoaaGreat.JK W.loc.good W.base W.NY.fab W.nw.UY F me;obtain⟨g',W'⟩:=W.net h2 h3 (TJ _ _ _) h4 h5;exact⟨K',g',h1,W'⟩
theorem Walk.room(W:Walk b H g0 S c me k K g ls w)(F:FOk c w.2.1)(req:Bool):∃K',cl 90 [.ref S.f 0 0,I me,B req] K=some (I (w.2.1.roomOf me req),K')/\Walk b H g0 S c me k K' g ls w:=by
 obtain⟨K',h1,h2,h3⟩:=agz W.loc.good W.base W.NY.fab F me req;exact⟨K',h1,W.same h2 h3⟩
theorem QC(W:Walk b H g0 S c me k K g ls w)(hc:c.ok=true)(F:uJ c w.2.1)(C:COk w.1.aT)(Z:HSz w.1.home):
  ∃K' g',match(if w.2.1.roomOf me false=0 then(w.2.1,none) else w.2.1.take me true) with
   | (f',some p)=> cl 50 [.ref (S.a 0) 0 0,.ref S.f 0 0] K=some (B true,K')/\Walk b H g0 S c me k K' g' ls ((w.1.asked c me f' p).1,(w.1.asked c me f' p).2,w.2.2)
   | (_,none)=> cl 50 [.ref (S.a 0) 0 0,.ref S.f 0 0] K=some (B false,K')/\Walk b H g0 S c me k K' g' ls w:=by
 have W0:=Walk.of W.loc.good W.base W.NY;have li:=W0.ldN (i:=10) (v:=I me) rfl;obtain⟨K1,a1,W1⟩:=W0.room (fok hc F) false;by_cases hr:w.2.1.roomOf me false=0
 ·simp only [if_pos hr];rw [hr] at a1;obtain⟨g',W'⟩:=W.app (K':=K1) (w':=w) (by
   have:=W1.res;rw [W.len] at this;exact this)
  refine⟨K1,g',aX rfl rfl (abd _ _ _ _ ?_),W'⟩;simp only [xq_,XG,li,a1]
 ·simp only [if_neg hr];have li1:=W1.ldN (i:=10) (v:=I me) rfl;obtain⟨K2,g2,b1,W2⟩:=W1.Am (fok hc F);obtain⟨F2,Q2⟩:=F.take me true;have W3:=W2.newL (ty:=99) (xs:=zP9) (r:=K2.next) rfl rfl;cases ht:w.2.1.take me true with
  | mk f' po=>
   rw [ht] at b1 W2 W3 F2 Q2;simp only at b1 W2 W3 F2 Q2;obtain⟨K4,u1,u2,W4⟩:=W3.whole aj (n:=9) (vs:=(po.getD .zero).av) rfl (bH _) (by decide) (aK _);simp only [gQ] at b1;cases po with
   | none=>
    simp only [zaT,zaB] at b1 u1 u2;have hf':f'=w.2.1:=by
     have:=N7 (f:=w.2.1) (i:=me) (req:=true) (by rw [ht]);rw [ht] at this;exact this
    subst hf';obtain⟨g',W'⟩:=W.app (K':=K4) (w':=w) (by
     have:=W4.res;rw [W.len] at this;exact this)
    refine⟨K4,g',aX rfl rfl (abd _ _ _ _ ?_),W'⟩;simp only [xq_,XG,li,a1,hr,li1,b1,u1,zaf]
   | some p=>
    simp only [zat,zaG] at b1 u1 u2;have Q:=Q2 p rfl;obtain⟨K5,g5,c1,W5⟩:=Zr W4 hc C Z p (N8 Q);have W6:=W5.newL (ty:=99) (xs:=zP9) (r:=K5.next) rfl rfl;obtain⟨K7,u3,u4,W7⟩:=W6.whole aj (n:=9) (vs:=(lN c me w.1 p).2.1.av) rfl (bH _) (by decide) (aK _);simp only [abX];cases hok:(lN c me w.1 p).2.2 with
    | false=>
     rw [hok] at c1;obtain⟨g',W'⟩:=W.app (K':=K7) (w':=((lN c me w.1 p).1,f',w.2.2)) (by
      have:=W7.res;rw [W.len] at this;exact this)
     refine⟨K7,g',aX rfl rfl (abd _ _ _ _ ?_),by simpa using W'⟩;simp only [xq_,XG,Ji,li,a1,hr,li1,b1,u1,u2,zad,c1,u3]
    | true=>
     rw [hok] at c1;obtain⟨K8,g8,d1,W8⟩:=W7.send (fok hc F2) (lN c me w.1 p).2.1 (Oa C Z p);obtain⟨g',W'⟩:=W.app (K':=K8) (w':=((lN c me w.1 p).1,(f'.send (lN c me w.1 p).2.1).1,w.2.2)) (by
      have:=W8.res;rw [W.len] at this;exact this)
     refine⟨K8,g',aX rfl rfl (abd _ _ _ _ ?_),by simpa using W'⟩;simp only [xq_,XG,Ji,li,a1,hr,li1,b1,u1,u2,zad,c1,u3,u4,d1]
theorem Zt(W:Walk b H g0 S c me k K g ls w)(hc:c.ok=true)(F:uJ c w.2.1)(Z:HSz w.1.home):
  ∃K' g',if w.1.home.ready≠[]/\w.2.1.roomOf me false≠0 then
    cl 49 [.ref (S.a 0) 0 0,.ref S.f 0 0] K=some (B true,K')/\Walk b H g0 S c me k K' g' ls ({ w.1 with home:=(w.1.home.grant me).1 },(w.2.1.send (w.1.home.grant me).2.1).1,w.2.2)
   else cl 49 [.ref (S.a 0) 0 0,.ref S.f 0 0] K=some (B false,K')/\Walk b H g0 S c me k K' g' ls w:=by
 have W0:=Walk.of W.loc.good W.base W.NY;have lh:=W0.ldN (i:=11) (v:=.ref (S.a 3) 0 0) rfl;have li:=W0.ldN (i:=10) (v:=I me) rfl;have e1:=Vd W0.loc.good W0.NY.bn.2.2.2 Z.t;by_cases h1:w.1.home.ready=[]
 ·simp only [if_neg (show¬(w.1.home.ready≠[]/\w.2.1.roomOf me false≠0) from λh=> h.1 h1)];have hd:decide (w.1.home.ready≠[])=false:=by rw [decide_eq_false];exact λh=> h h1
  rw [hd] at e1;refine⟨K,g,aX rfl rfl (afF _ _ _ _ ?_),W⟩;simp only [xq_,abb,lh,e1,zaf]
 ·have hd:decide (w.1.home.ready≠[])=true:=decide_eq_true h1;rw [hd] at e1;obtain⟨K1,a1,W1⟩:=W0.room (fok hc F) false;by_cases hr:w.2.1.roomOf me false=0
  ·simp only [if_neg (show¬(w.1.home.ready≠[]/\w.2.1.roomOf me false≠0) from λh=> h.2 hr)];rw [hr] at a1;obtain⟨g',W'⟩:=W.app (K':=K1) (w':=w) (by
    have:=W1.res;rw [W.len] at this;exact this)
   refine⟨K1,g',aX rfl rfl (afF _ _ _ _ ?_),W'⟩;simp only [xq_,abb,lh,e1,zad,li,a1]
  ·simp only [if_pos (show w.1.home.ready≠[]/\w.2.1.roomOf me false≠0 from⟨h1,hr⟩)];have lh1:=W1.ldN (i:=11) (v:=.ref (S.a 3) 0 0) rfl;obtain⟨K2,b1,b2,b3⟩:=abU W1.loc.good W1.base W1.NY.bn.2.2.2 Z.t Z.r;have W2:=W1.home b2 b3;have W3:=W2.newL (ty:=99) (xs:=zP9) (r:=K2.next) rfl rfl;obtain⟨K4,u1,u2,W4⟩:=W3.whole aj (n:=9) (vs:=(w.1.home.grant me).2.1.av) rfl (bH _) (by decide) (aK _);have hsm:(w.1.home.grant me).2.1.data.length < 1000000000:=by
    have z0:(0:Nat) < 1000000000:=by decide
    unfold Home.grant
    repeat' split
    all_goals first | exact z0 | exact N9 Z.r _
   obtain⟨K5,g5,d1,W5⟩:=W4.send (fok hc F) (w.1.home.grant me).2.1 hsm;obtain⟨g',W'⟩:=W.app (K':=K5) (w':=({ w.1 with home:=(w.1.home.grant me).1 },(w.2.1.send (w.1.home.grant me).2.1).1,w.2.2)) (by
    have:=W5.res;rw [W.len] at this;exact this)
   refine⟨K5,g',aX rfl rfl (afF _ _ _ _ ?_),W'⟩;simp only [xq_,abb,lh,e1,zad,li,a1,hr,lh1,b1,u1,u2,d1]
theorem Walk.Zu(W:Walk b H g0 S c me k K g ls w)(d:dF):∃K' g',st 9 (.ref (S.a 0) 0 12) (.agg d.av) K=some (aO,K')/\Walk b H g0 S c me k K' g' ls ({ w.1 with dO:=d },w.2):=by
 obtain⟨K',h1,h2,h3,_⟩:=W.loc.good.stores W.base (W.loc.obj W.nw.bn.1) (i:=12) (n:=9) (vs:=d.av) (by rw [gu];decide) rfl (aZ d);have e:pO (uP S.a c me w.1.dO w.1.num) 12 d.av=uP S.a c me d w.1.num:=rfl;rw [e] at h2;exact⟨K',_,h1,W.own h2 h3⟩
theorem Walk.alL(W:Walk b H g0 S c me k K g ls w)(z:Int):∃K' g',st 1 (.ref (S.a 0) 0 21) (I z) K=some (aO,K')/\Walk b H g0 S c me k K' g' ls ({ w.1 with num:=z },w.2):=by
 obtain⟨K',h1,h2,h3,_⟩:=W.loc.good.store W.base (W.loc.obj W.nw.bn.1) (i:=21) (v:=I z) (by rw [gu];decide) dw;have e:(uP S.a c me w.1.dO w.1.num).set 21 (.av (I z))=uP S.a c me w.1.dO z:=rfl;rw [e] at h2;exact⟨K',_,h1,W.own h2 h3⟩
theorem zh(W:Walk b H g0 S c me k K g ls w)(hc:c.ok=true)(F:uJ c w.2.1)(hn:0<=w.1.num/\w.1.num < 1000000)(bf aB:Int):
  ∃K' g',cl 99 [.ref (S.a 0) 0 0,.ref S.f 0 0,I bf,I aB] K=some (.tup [],K')/\Walk b H g0 S c me k K' g' ls ((w.1.begin_ c me w.2.1 bf aB).1,(w.1.begin_ c me w.2.1 bf aB).2,w.2.2):=by
 have ln:=W.ldN (i:=21) (v:=I w.1.num) rfl;have e1:=abQ K bf aB w.1.num;obtain⟨K1,g1,a1,W1⟩:=W.Zu (.begin bf aB w.1.num);have ln1:=W1.ldN (i:=21) (v:=I w.1.num) rfl;have w1:=wrap_i64 (a:=w.1.num+1) (by omega) (by omega);have aow:=qA (P:=Tryz.prog) (k:=.i64) (t:=3) (a:=w.1.num+1) (b:=4096) (by decide);obtain⟨K2,g2,b1,W2⟩:=W1.alL ((w.1.num+1).tmod 4096);obtain⟨K3,g3,d1,W3⟩:=QA W2 hc (fok hc F) (show(0:Nat) < 1000000000 by decide);refine⟨K3,g3,aX rfl rfl (aoc _ _ _ _ _ _ ?_),W3⟩;simp only [xq_,ajB,ln,e1,a1,ln1,bI,w1,aow,b1,d1]
end
theorem abY:∀(n:Nat) (l:List Int),l.Nodup->(∀x∈l,0<=x/\x < n)->l.length<=n
 | 0,[],_,_=> zac _
 | 0,x::l,_,h=> by have:=h x (by simp);omega
 | n+1,l,hd,h=> by
  by_cases hm:(n:Int)∈l
  ·have h1:=abY n (l.erase n) (hd.erase (n:Int)) λx hx=> by
    have:=(hd.mem_erase_iff).1 hx;have:=h x this.2;omega
   rw [zc3 hm] at h1;omega
  ·have:=abY n l hd λx hx=> by
    have:=h x hx;have:x≠n:=λe=> hm (e ▸ hx);omega
   omega
theorem cok {c:Cfg}(hc:c.ok=true){ca:Cache}(I:Cb c ca)(hk:ca.dD < 1000000000):COk ca:=by
 have B:=uN hc;refine⟨?_,by rw [I.sets];exact B.sets.1,⟨I.afh,hk⟩,λe he=> ?_,λe he=> ?_⟩
 ·have h1:(ca.l.map (·.aB)).Nodup:=zb1.2 I.aW;have:=abY c.aW.toNat _ h1 λx hx=> by
   obtain⟨e,he,rfl⟩:=zaS.1 hx;have E:=I.ent e he;have h1:=E.lo;have h2:=E.hi;omega
  rw [zax] at this;have:=B.aW;omega
 ·have:=(I.ent e he).dat.1;have:=B.aQ;omega
 ·have:=I.ent e he;exact⟨this.u0,by have:=this.used;omega⟩
theorem psz {c:Cfg}{p:Proc}(I:amb c p):PSz p:=⟨by have:=I.most;omega,I.vals⟩
theorem hsz {c:Cfg}(hc:c.ok=true){me:Int}{n:Node}(I:UH c me n)(hw:∀aB,(n.home.bV.ws aB).length < 1000000):HSz n.home:=by
 have B:=uN hc;have hk:∀e∈n.home.bV.wait,0<=e.1/\e.1 < c.aW:=λe he=> by
  have:=I.home.here e he;unfold yw at this;simp only [zaj,decide_eq_true_eq] at this;omega
 refine⟨⟨I.home.bV.wk,λe he=> by have:=hk e he;have:=B.aW;omega,?_,hw⟩,λe he=> by have:=(I.eF e he).1;have:=B.aQ;omega⟩;have:=abY c.aW.toNat _ I.home.bV.wk λx hx=> by
  obtain⟨e,he,rfl⟩:=zaS.1 hx;have:=hk e he;omega
 rw [zax] at this;have:=B.aW;omega
section
variable {b:Nat}{H:ah}{g0:bg}{S:OJ}{c:Cfg}{me:Int}{k:Nat}{K K':ah}{g:bg}{ls:Lcl}{w w':NFT}
def agM(c:Cfg)(me:Int)(n:Node)(f:Fab)(t:List Evn)(o:Opn):NFT:=
 let aB:=c.dS o.addr;let e:=n.aT.find aB
 if o.bf=4/\e=none then((n.done me t 0).1,f,(n.done me t 0).2)
 else if o.bf=4 then((n.begin_ c me f 3 aB).1,(n.begin_ c me f 3 aB).2,t)
 else if e.isSome=true/\(o.bf=1∨(e.getD .zero).fB=true) then
  let n:={ n with aT:=n.aT.touch aB }
  ((n.effect c me t).1,f,(n.effect c me t).2)
 else if n.aT.full aB=true then((n.begin_ c me f 3 ((n.aT.qU aB).getD 0)).1,(n.begin_ c me f 3 ((n.aT.qU aB).getD 0)).2,t)
 else if o.bf=1 then((n.begin_ c me f 1 aB).1,(n.begin_ c me f 1 aB).2,t)
 else((n.begin_ c me f 2 aB).1,(n.begin_ c me f 2 aB).2,t)
theorem agN(n:Node)(f:Fab)(t:List Evn)(o:Opn):n.work c me f t o=agM c me { n with dK:={ n.dK with gK:=true } } f (if n.dK.gK then t else t++[⟨me,n.dK.dP.length,false,0⟩]) o:=rfl
theorem TK(W:Walk b H g0 S c me k K g ls w)(hc:c.ok=true)(F:uJ c w.2.1)(hp:PSz w.1.dK)(CI:Cb c w.1.aT)(hk:w.1.aT.dD < 1000)(hn:0<=w.1.num/\w.1.num < 1000000)(hl:w.2.2.length < 1000000){r7:Nat}{o:Opn}(h7:ls r7=some o.av):
  ∃K' g',nP cl (.ref (S.a 0) 0 0) (.ref S.f 0 0) (.ref S.t 0 0) (.ref r7 0 0) K=some (B true,K')/\Walk b H g0 S c me k K' g' ls (agM c me w.1 w.2.1 w.2.2 o):=by
 have C:=cok hc CI (by omega);have W0:=Walk.of W.loc.good W.base W.NY;have lc:=W.alI (i:=2) (n:=8) (ys:=c.av) rfl rfl (by decide);have la:=W.loc.ld h7 (i:=1) (v:=I o.addr) rfl;obtain⟨aB,alM⟩:∃aB,c.dS o.addr=aB:=⟨_,rfl⟩
 have el:=EF K c hc o.addr;rw [alM] at el;have l0:=W.ldN (i:=0) (v:=.ref (S.a 1) 0 0) rfl;have ef:=W.find C aB;obtain⟨fo,hfo⟩:∃fo,w.1.aT.find aB=fo:=⟨_,rfl⟩
 rw [hfo] at ef;simp only [iV] at ef;have hr7:r7 < K.next:=W.loc.good.lt (nU h7)
 have W1:=W.newL (ty:=117) (xs:=zE6) (r:=K.next) rfl rfl;obtain⟨K2,u1,u2,W2⟩:=W1.whole aj (n:=6) (vs:=(fo.getD .zero).av) rfl rfl (by decide) (jf _);have k7:gV (gV ls K.next zE6) K.next (fo.getD .zero).av r7=some o.av:=by rw [ay (by omega),ay (by omega)];exact h7
 have lk:=W2.loc.ld k7 (i:=0) (v:=I o.bf) rfl;have ldd:=W2.loc.ld (r:=K.next) (xs:=(fo.getD .zero).av) aj (i:=4) (v:=B (fo.getD .zero).fB) rfl;have l02:=W2.ldN (i:=0) (v:=.ref (S.a 1) 0 0) rfl;have QD:=Nw W2.loc.good (W2.loc.obj W2.nw.bn.2.1) C.len C.sets aB;have ao8:=Qn W2.loc.good (W2.loc.obj W2.nw.bn.2.1) C.len C.sets C.used aB
 -- what is called is called of the bn
 have back:∀{K3:ah} {g3:bg} {w3:NFT},Walk b H g0 S c me k K3 g3 (gV (gV ls K.next zE6) K.next (fo.getD .zero).av) w3->∃g',Walk b H g0 S c me k K3 g' ls w3:=by
  intro K3 g3 w3 W3;refine⟨g3,W3.hb,⟨W3.loc.good.sub λq cs hq=> ?_,λr hr=> ?_⟩,W3.nw,W3.off,W3.step,W3.len⟩
  ·unfold lay at hq ⊢;by_cases hqr:q=K.next
   ·subst hqr;have hnone:ls K.next=none:=by
     cases e:ls K.next with
     | none=> rfl
     | some xs=>
      have:=W.loc.good.lt (nU (g:=g) e);omega
    rw [hnone] at hq;simp only at hq;have:=W3.loc.free K.next (by rw [aj];simp)
    rw [this] at hq;cases hq
   ·rw [ay hqr,ay hqr];exact hq
  ·refine W3.loc.free r ?_;have hne:r≠K.next:=λe=> by
    subst e;cases e2:ls K.next with
    | none=> exact hr e2
    | some xs=>
     have:=W.loc.good.lt (nU (g:=g) e2);omega
   rw [ay hne,ay hne];exact hr
 unfold agM;simp only [alM,hfo];by_cases h4:o.bf=4
 ·rw [h4] at lk;cases fo with
  | none=>
   rw [if_pos ⟨h4,rfl⟩];obtain⟨K3,g3,a1,W3⟩:=Zm W2 hp hl 0;obtain⟨g',W'⟩:=back W3;refine⟨K3,g',?_,W'⟩;simp only [xq_,nP,kS,lc,la,el,l0,ef,u1,lk,zaB,zaf,a1]
  | some e=>
   rw [if_neg (by simp),if_pos h4];obtain⟨K3,g3,a1,W3⟩:=zh W2 hc F hn 3 aB;obtain⟨g',W'⟩:=back W3;refine⟨K3,g',?_,W'⟩;simp only [Int.reduceEq,xq_,nP,kS,lc,la,el,l0,ef,u1,lk,zaG,zad,a1]
 ·rw [if_neg (λh=> h4 h.1),if_neg h4];by_cases hd:fo.isSome=true/\(o.bf=1∨(fo.getD .zero).fB=true)
  ·rw [if_pos hd];obtain⟨e,rfl⟩:=zc4.1 hd.1;obtain⟨K3,a1,a2,a3⟩:=U1 W2.loc.good W2.base (W2.loc.obj W2.nw.bn.2.1) C.len C.clk aB;have W3:=W2.aT a2 a3;have hC:COk (w.1.aT.touch aB):=cok hc (CI.touch hfo) (by rw [EZ CI.aW hfo];omega);obtain⟨K4,g4,b1,W4⟩:=NZ W3 hc hp hC hl;obtain⟨g',W'⟩:=back W4;refine⟨K4,g',?_,W'⟩;by_cases h1:o.bf=1
   ·rw [h1] at lk;simp only [Int.reduceEq,xq_,nP,kS,lc,la,el,l0,ef,u1,lk,zaG,a1,l02,b1]
   ·have hdd:=hd.2.resolve_left h1;rw [hdd] at ldd;simp only [xq_,nP,kS,lc,la,el,l0,ef,u1,lk,h4,h1,ldd,zaG,a1,l02,b1]
  ·rw [if_neg hd]
   -- the condition
   have hcond:∀(X Y:Option (AV × ah)),(fo.isSome=false)∨(fo.isSome=true/\¬o.bf=1/\(fo.getD .zero).fB=false):=λ_ _=> by
    cases h:fo.isSome with
    | false=> exact .inl rfl
    | true=>
     refine .inr ⟨rfl,λh1=> hd ⟨h,.inl h1⟩,?_⟩;cases h2:(fo.getD .zero).fB with
     | false=> rfl
     | true=> exact absurd ⟨h,.inr h2⟩ hd
   have hcond:=hcond none none;by_cases hfl:w.1.aT.full aB=true
   ·rw [if_pos hfl];rw [hfl] at QD;obtain⟨K3,g3,a1,W3⟩:=zh W2 hc F hn 3 ((w.1.aT.qU aB).getD 0);obtain⟨g',W'⟩:=back W3;refine⟨K3,g',?_,W'⟩;rcases hcond with hs | ⟨hs,h1,h2⟩
    ·rw [hs] at ef;simp only [xq_,nP,kS,lc,la,el,l0,ef,u1,lk,h4,l02,QD,ao8,a1]
    ·rw [hs] at ef;rw [h2] at ldd;simp only [xq_,nP,kS,lc,la,el,l0,ef,u1,lk,h4,h1,ldd,l02,QD,ao8,a1]
   ·rw [if_neg hfl];have hff:w.1.aT.full aB=false:=by cases h:w.1.aT.full aB <;> simp_all
    rw [hff] at QD;by_cases h1:o.bf=1
    ·rw [if_pos h1];obtain⟨K3,g3,a1,W3⟩:=zh W2 hc F hn 1 aB;obtain⟨g',W'⟩:=back W3;refine⟨K3,g',?_,W'⟩;have hs:fo.isSome=false:=hcond.resolve_right λh=> h.2.1 h1;rw [hs] at ef;rw [h1] at lk;simp only [Int.reduceEq,xq_,nP,kS,lc,la,el,l0,ef,u1,lk,l02,QD,a1]
    ·rw [if_neg h1];obtain⟨K3,g3,a1,W3⟩:=zh W2 hc F hn 2 aB;obtain⟨g',W'⟩:=back W3;refine⟨K3,g',?_,W'⟩;rcases hcond with hs | ⟨hs,_,h2⟩
     ·rw [hs] at ef;simp only [xq_,nP,kS,lc,la,el,l0,ef,u1,lk,h4,h1,l02,QD,a1]
     ·rw [hs] at ef;rw [h2] at ldd;simp only [xq_,nP,kS,lc,la,el,l0,ef,u1,lk,h4,h1,ldd,l02,QD,a1]
end
section
variable {b:Nat}{H:ah}{g0:bg}{S:OJ}{c:Cfg}{me:Int}{k:Nat}{K K':ah}{g:bg}{ls:Lcl}{w w':NFT}
theorem Walk.to(W:Walk b H g0 S c me k K g ls w){K':ah}{g1:bg}{l1:Lcl}(W1:Walk b K (lay g ls) S c me w.2.1.l.length K' g1 l1 w'):∃g',Walk b H g0 S c me k K' g' ls w':=
 W.app (by have:=W1.res;rw [W.len] at this;exact this)
theorem Zv(W:Walk b H g0 S c me k K g ls w)(hc:c.ok=true)(F:uJ c w.2.1)(NI:UH c me w.1)(hn:0<=w.1.num/\w.1.num < 1000000)(hl:w.2.2.length < 999999):
  ∃K' g',match w.1.dK.cur with
   | some o=> if w.1.dO.step=0 then cl 51 [.ref (S.a 0) 0 0,.ref S.f 0 0,.ref S.t 0 0] K=some (B true,K')/\Walk b H g0 S c me k K' g' ls (w.1.work c me w.2.1 w.2.2 o)
     else cl 51 [.ref (S.a 0) 0 0,.ref S.f 0 0,.ref S.t 0 0] K=some (B false,K')/\Walk b H g0 S c me k K' g' ls w
   | none=> cl 51 [.ref (S.a 0) 0 0,.ref S.f 0 0,.ref S.t 0 0] K=some (B false,K')/\Walk b H g0 S c me k K' g' ls w:=by
 have P:=psz NI.dK;have amj:w.1.aT.dD < 1000:=by have:=NI.clk;have:=NI.dK.vals;have:=NI.dK.most;omega
 have W0:=Walk.of W.loc.good W.base W.NY;have l1:=W0.ldN (i:=1) (v:=.ref (S.a 2) 0 0) rfl;obtain⟨K1,a1,W1⟩:=W0.cur P;have W2:=W1.newL (ty:=26) (xs:=[zI,zI,zI]) (r:=K1.next) rfl rfl;obtain⟨K3,b1,b2,W3⟩:=W2.whole aj (n:=3) (vs:=w.1.dK.op.av) rfl (fH _) (by decide) (nK _);have k7:gV (gV noL K1.next [zI,zI,zI]) K1.next w.1.dK.op.av K1.next=some w.1.dK.op.av:=aj
 have ls3:=W3.ldN (i:=15) (v:=I w.1.dO.step) rfl;cases hcur:w.1.dK.cur with
 | none=>
  rw [hcur] at a1;simp only [zaB] at a1;obtain⟨g',W'⟩:=W.to W3;refine⟨K3,g',aX rfl rfl (abe _ _ _ _ _ ?_),W'⟩;simp only [xq_,XH,l1,a1,b1,zaf]
 | some o=>
  rw [hcur] at a1;simp only [zaG] at a1;by_cases hs:w.1.dO.step=0;rotate_left
  ·simp only [if_neg hs];obtain⟨g',W'⟩:=W.to W3;refine⟨K3,g',aX rfl rfl (abe _ _ _ _ _ ?_),W'⟩;simp only [Nat.reduceAdd,xq_,XH,l1,a1,b1,zad,zaf,ls3,hs]
  ·simp only [if_pos hs];rw [hs] at ls3;have hop:w.1.dK.op=o:=by simp only [Proc.op,hcur,zat]
   have hidx:w.1.dK.idx=w.1.dK.dP.length:=by simp only [Proc.idx,hcur]
   have lp:=W3.ldN (i:=1) (v:=.ref (S.a 2) 0 0) rfl;have eb:=YL W3.loc.good (W3.loc.obj W3.nw.bn.2.2.1);rw [agN];cases hbg:w.1.dK.gK with
   | true=>
    rw [hbg] at eb;have he:({ w.1 with dK:={ w.1.dK with gK:=true } }:Node)=w.1:=by
     rcases hw:w.1 with⟨ca,pr,ho,de,nu⟩
     rw [hw] at hbg;simp only at hbg;rcases pr with⟨x1,x2,x3⟩
     simp only at hbg;subst hbg;rfl
    rw [he];simp only [if_true];obtain⟨K4,g4,c1,W4⟩:=TK W3 hc F P NI.aT amj hn (by omega) (o:=w.1.dK.op) k7;rw [hop] at W4;obtain⟨g',W'⟩:=W.to W4;refine⟨K4,g',aX rfl rfl (abe _ _ _ _ _ ?_),W'⟩;simp only [Nat.reduceAdd,xq_,XH,l1,a1,b1,zad,ls3,lp,eb,c1]
   | false=>
    rw [hbg] at eb;simp only [zal,if_false];obtain⟨v,K4,d1,d2,d3⟩:=Zi W3.loc.good W3.base (W3.loc.obj W3.nw.bn.2.2.1) P.ops (by have:=P.ops;have:=P.vals;omega) P.vals;have hbp:w.1.dK.yu={ w.1.dK with gK:=true }:=by
     unfold Proc.yu;rw [if_neg (by rw [hbg,hcur];simp)]
    rw [hbp] at d2;have W4:=W3.dK d2 d3;have li:=W4.ldN (i:=10) (v:=I me) rfl;obtain⟨K5,g5,e1,W5⟩:=W4.alJ (show w.2.2.length < 1000000 by omega) me w.1.dK.idx;obtain⟨K6,g6,c1,W6⟩:=TK W5 hc F (show PSz ({ w.1.dK with gK:=true }:Proc) from⟨P.ops,P.vals⟩) NI.aT amj hn (by simp only [zaq,zah,zam];omega) (o:=w.1.dK.op) k7;rw [hop,hidx] at W6;obtain⟨g',W'⟩:=W.to W6;refine⟨K6,g',aX rfl rfl (abe _ _ _ _ _ ?_),W'⟩;simp only [Nat.reduceAdd,xq_,XH,l1,a1,b1,zad,zaf,ls3,lp,eb,d1,li,e1,c1]
theorem Vh(W:Walk b H g0 S c me k K g ls w)(hc:c.ok=true)(F:uJ c w.2.1)(NI:UH c me w.1)(hl:w.2.2.length < 999999)(hdd:w.1.dO.data.length < 1000000000):
  ∃K' g',match w.2.1.take me false with
   | (f',some p)=> cl 48 [.ref (S.a 0) 0 0,.ref S.f 0 0,.ref S.t 0 0] K=some (B true,K')/\Walk b H g0 S c me k K' g' ls (w.1.answered c me f' w.2.2 p)
   | (_,none)=> cl 48 [.ref (S.a 0) 0 0,.ref S.f 0 0,.ref S.t 0 0] K=some (B false,K')/\Walk b H g0 S c me k K' g' ls w:=by
 have P:=psz NI.dK;have Bd:=uN hc;have amj:w.1.aT.dD < 1000:=by have:=NI.clk;have:=NI.dK.vals;have:=NI.dK.most;omega
 have C:=cok hc NI.aT (by omega);have W0:=Walk.of W.loc.good W.base W.NY;have li:=W0.ldN (i:=10) (v:=I me) rfl;obtain⟨K1,g1,a1,W1⟩:=W0.JK (fok hc F);obtain⟨F1,Q1⟩:=F.take me false;have W2:=W1.newL (ty:=99) (xs:=zP9) (r:=K1.next) rfl rfl;cases ht:w.2.1.take me false with
 | mk f' po=>
  rw [ht] at a1 W1 W2 F1 Q1;simp only at a1 W1 W2 F1 Q1;obtain⟨K3,u1,u2,W3⟩:=W2.whole aj (n:=9) (vs:=(po.getD .zero).av) rfl (bH _) (by decide) (aK _);simp only [gQ] at a1;cases po with
  | none=>
   simp only [zaT,zaB] at a1 u1 u2;have hf':f'=w.2.1:=by
    have:=N7 (f:=w.2.1) (i:=me) (req:=false) (by rw [ht]);rw [ht] at this;exact this
   subst hf';obtain⟨g',W'⟩:=W.to W3;refine⟨K3,g',aX rfl rfl (UQ _ _ _ _ _ ?_),W'⟩;simp only [xq_,Jh,li,a1,u1,zaf]
  | some p=>
   simp only [zat,zaG] at a1 u1 u2;have Q:=Q1 p rfl;obtain⟨K4,g4,b1,W4⟩:=abV W3 C hdd p (N8 Q);unfold Node.answered;obtain⟨ca,d,ok,hA⟩:∃ca d ok,w.1.after me p=(ca,d,ok):=⟨_,_,_,rfl⟩
   rw [hA] at b1 W4;simp only [rG] at b1 W4;simp only [hA];have W5:=W4.newL (ty:=62) (xs:=zD9) (r:=K4.next) rfl rfl;obtain⟨K6,u3,u4,W6⟩:=W5.whole aj (n:=9) (vs:=d.av) rfl rfl (by decide) (aZ d);cases ok with
   | false=>
    simp only [if_true];obtain⟨g',W'⟩:=W.to W6;refine⟨K6,g',aX rfl rfl (UQ _ _ _ _ _ ?_),W'⟩;simp only [xq_,Jh,li,a1,u1,u2,zad,b1,u3,zaf]
   | true=>
    simp only [zcG,if_false];have hs:w.1.dO.step≠0:=λh0=> by
     have hf:w.1.dO.fits p=false:=by unfold dF.fits;rw [h0];simp [OH,J5]
     rw [uX,zf hf] at hA;simp [wB] at hA
    have NX:=TI NI.aT (NI.dO hs) hs Q (by rw [<-uX];exact hA);have hd2:d.data.length < 1000000000:=by
     rcases NX.dat with h | h
     ·rw [h];decide
     ·have:=h.1;have:=Bd.aQ;omega
    have hck:ca.dD < 1000000000:=by rcases NX.clk with h | h <;> omega
    have C2:COk ca:=cok hc NX.inv hck;obtain⟨K7,g7,c1,W7⟩:=W6.Zu d;have lp:=W7.ldN (i:=1) (v:=.ref (S.a 2) 0 0) rfl;obtain⟨K8,d1,W8⟩:=W7.cur P;have W9:=W8.newL (ty:=26) (xs:=[zI,zI,zI]) (r:=K8.next) rfl rfl;obtain⟨K10,u5,u6,W10⟩:=W9.whole aj (n:=3) (vs:=w.1.dK.op.av) rfl (fH _) (by decide) (nK _);have hlt:K4.next < K8.next:=W8.loc.good.lt (q:=K4.next) (nU (g:=g7) aj)
    have k9:gV (gV (gV (gV (gV (gV noL K1.next zP9) K1.next p.av) K4.next zD9) K4.next d.av) K8.next [zI,zI,zI]) K8.next w.1.dK.op.av K4.next=some d.av:=by
     rw [ay (by omega),ay (by omega),aj]
    have l3:=W10.loc.ld k9 (i:=3) (v:=I d.step) rfl;have l0:=W10.loc.ld k9 (i:=0) (v:=I d.bf) rfl;have lo:=W10.loc.ld (r:=K8.next) (xs:=w.1.dK.op.av) aj (i:=0) (v:=I w.1.dK.op.bf) rfl;by_cases h0:d.step=0
    ·simp only [if_pos h0];rw [h0] at l3;by_cases hf:d.bf=3/\w.1.dK.op.bf=4
     ·simp only [if_pos hf];rw [hf.1] at l0;rw [hf.2] at lo;obtain⟨K11,g11,e1,W11⟩:=Zm W10 P (show w.2.2.length < 1000000 by omega) 0;obtain⟨g',W'⟩:=W.to W11;refine⟨K11,g',aX rfl rfl (UQ _ _ _ _ _ ?_),W'⟩;simp only [Int.reduceEq,xq_,Jh,li,a1,u1,u2,zad,b1,u3,u4,c1,lp,d1,u5,l3,l0,lo,e1]
     ·simp only [if_neg hf];obtain⟨g',W'⟩:=W.to W10;refine⟨K10,g',aX rfl rfl (UQ _ _ _ _ _ ?_),W'⟩;by_cases hk:d.bf=3
      ·have ho:¬w.1.dK.op.bf=4:=λh=> hf ⟨hk,h⟩;rw [hk] at l0;simp only [Int.reduceEq,xq_,Jh,li,a1,u1,u2,zad,b1,u3,u4,c1,lp,d1,u5,l3,l0,lo,ho]
      ·simp only [Int.reduceEq,xq_,Jh,li,a1,u1,u2,zad,b1,u3,u4,c1,lp,d1,u5,l3,l0,hk]
    ·simp only [if_neg h0];by_cases h6:d.step=6/\d.bf≠3
     ·simp only [if_pos h6];rw [h6.1] at l3;have hk:=h6.2;simp only [ne_eq] at hk;obtain⟨K11,g11,e1,W11⟩:=NZ W10 hc P C2 (show w.2.2.length < 1000000 by omega);obtain⟨K12,g12,e2,W12⟩:=QA W11 hc (fok hc F1) hd2;obtain⟨g',W'⟩:=W.to W12;refine⟨K12,g',aX rfl rfl (UQ _ _ _ _ _ ?_),W'⟩;simp only [Int.reduceEq,xq_,Jh,Ew,li,a1,u1,u2,zad,b1,u3,u4,c1,lp,d1,u5,l3,l0,hk,zaf,e1,e2]
     ·simp only [if_neg h6];obtain⟨K12,g12,e2,W12⟩:=QA W10 hc (fok hc F1) hd2;obtain⟨g',W'⟩:=W.to W12;refine⟨K12,g',aX rfl rfl (UQ _ _ _ _ _ ?_),W'⟩;by_cases h66:d.step=6
      ·have hk:d.bf=3:=Classical.byContradiction λh=> h6 ⟨h66,h⟩;rw [h66] at l3;rw [hk] at l0;simp only [Int.reduceEq,xq_,Jh,Ew,li,a1,u1,u2,zad,b1,u3,u4,c1,lp,d1,u5,l3,l0,zad,e2]
      ·simp only [xq_,Jh,Ew,li,a1,u1,u2,zad,b1,u3,u4,c1,lp,d1,u5,l3,h0,h66,e2]
theorem abZ(W:Walk b H g0 S c me k K g ls w)(hc:c.ok=true)(F:uJ c w.2.1)(NI:UH c me w.1)(hn:0<=w.1.num/\w.1.num < 1000000)(hl:w.2.2.length < 999999)(hdd:w.1.dO.data.length < 1000000000)(hw:∀aB,(w.1.home.bV.ws aB).length < 1000000):
  ∃K' g',cl 18 [.ref (S.a 0) 0 0,.ref S.f 0 0,.ref S.t 0 0] K=some (I (w.1.step c me w.2.1 w.2.2).2,K')/\Walk b H g0 S c me k K' g' ls (w.1.step c me w.2.1 w.2.2).1:=by
 have Z:=hsz hc NI hw;have C:=cok hc NI.aT (by have:=NI.clk;have:=NI.dK.vals;have:=NI.dK.most;omega);unfold Node.step;obtain⟨K1,g1,h1⟩:=Vh W hc F NI hl hdd;cases ht:w.2.1.take me false with
 | mk f' po=>
  rw [ht] at h1;cases po with
  | some p=>
   obtain⟨a1,W1⟩:=h1;refine⟨K1,g1,aX rfl rfl (UM _ _ _ _ _ ?_),W1⟩;simp only [xq_,P7,a1]
  | none=>
   obtain⟨a1,W1⟩:=h1;simp only;obtain⟨K2,g2,h2⟩:=Zt W1 hc F Z;by_cases hg:w.1.home.ready≠[]/\w.2.1.roomOf me false≠0
   ·rw [if_pos hg] at h2 ⊢;obtain⟨a2,W2⟩:=h2;refine⟨K2,g2,aX rfl rfl (UM _ _ _ _ _ ?_),W2⟩;simp only [xq_,P7,a1,a2]
   ·rw [if_neg hg] at h2 ⊢;obtain⟨a2,W2⟩:=h2;obtain⟨K3,g3,h3⟩:=QC W2 hc F C Z;cases hr:(if w.2.1.roomOf me false=0 then(w.2.1,none) else w.2.1.take me true) with
    | mk f2 po2=>
     rw [hr] at h3;cases po2 with
     | some p=>
      obtain⟨a3,W3⟩:=h3;refine⟨K3,g3,aX rfl rfl (UM _ _ _ _ _ ?_),W3⟩;simp only [xq_,P7,a1,a2,a3]
     | none=>
      obtain⟨a3,W3⟩:=h3;simp only;obtain⟨K4,g4,h4⟩:=Zv W3 hc F NI hn hl;cases hcu:w.1.dK.cur with
      | none=>
       rw [hcu] at h4;obtain⟨a4,W4⟩:=h4;refine⟨K4,g4,aX rfl rfl (UM _ _ _ _ _ ?_),W4⟩;simp only [xq_,P7,a1,a2,a3,a4]
      | some o=>
       rw [hcu] at h4;simp only at h4 ⊢;by_cases hs:w.1.dO.step=0
       ·rw [if_pos hs] at h4 ⊢;obtain⟨a4,W4⟩:=h4;refine⟨K4,g4,aX rfl rfl (UM _ _ _ _ _ ?_),W4⟩;simp only [xq_,P7,a1,a2,a3,a4]
       ·rw [if_neg hs] at h4 ⊢;obtain⟨a4,W4⟩:=h4;refine⟨K4,g4,aX rfl rfl (UM _ _ _ _ _ ?_),W4⟩;simp only [xq_,P7,a1,a2,a3,a4]
end
theorem ab1 {H:ah}{r:Nat}{o:fD}(h:H.get r=o):H.put r o=H:=by
 subst h;unfold ah.put;have:(λx=> if x=r then H.get r else H.get x)=H.get:=by
  funext x
  split
  ·rename_i e;rw [e]
  ·rfl
 rw [this]
theorem agO {H:ah}{r:Nat}{o o':fD}:(H.put r o).put r o'=H.put r o':=by
 unfold ah.put
 congr 1
 funext x
 simp only;split <;> rfl
def qI(bit mask:Int)(i:Nat)(l:List By):List By:=l.mapIdx λj c=> if j < i then c ^^^ sN bit mask j else c
theorem oV(bit mask:Int)(i:Nat)(l:List By):(qI bit mask i l).length=l.length:=by simp [qI]
theorem Vj(bit mask:Int)(l:List By):qI bit mask 0 l=l:=by
 unfold qI
 apply zbg
 intro i;rw [za1];cases l[i]? <;> simp
theorem Zw(bit mask:Int)(l:List By):qI bit mask l.length l=oN bit mask l:=by
 unfold qI oN
 apply zbg
 intro i;rw [za1,za1];cases h:l[i]? with
 | none=> rfl
 | some c=> simp [(zak.1 h).1]
theorem Ob(bit mask:Int){i:Nat}{l:List By}{c:By}(h:l[i]?=some c):(qI bit mask i l)[i]?=some c:=by
 unfold qI;rw [za1,h];simp
theorem Ic(bit mask:Int){i:Nat}{l:List By}{c:By}(h:l[i]?=some c):qI bit mask (i+1) l=(qI bit mask i l).set i (c ^^^ sN bit mask i):=by
 apply zbg
 intro j;have hi:=(zak.1 h).1;unfold qI;rw [za1,zcJ,za1,zcg];by_cases e:i=j
 ·subst e;rw [if_pos rfl,if_pos hi,h];simp
 ·rw [if_neg e];cases hj:l[j]? with
  | none=> rfl
  | some d=>
   simp only [zai]
   congr 1
   by_cases h1:j < i
   ·rw [if_pos h1,if_pos (by omega)]
   ·rw [if_neg h1,if_neg (by omega)]
theorem Au(bit mask:Int){i:Nat}{l:List By}{c:By}(h:l[i]?=some c)(hm:sN bit mask i=0#8):qI bit mask (i+1) l=qI bit mask i l:=by
 rw [Ic bit mask h,hm,zdn]
 apply zbg
 intro j;rw [zcJ];split
 ·rename_i e;subst e;split
  ·rw [Ob bit mask h]
  ·rename_i hh;rw [zaK (by omega)]
 ·rfl
theorem Vk {K0:ah}{r n:Nat}{l:List By}{bit mask:Int}(hb:BZ bit)(h0:0<=mask)(h1:mask<=65535)(hs:l.length < 1000)(hr:r < K0.next)(hbase:K0.base<=r):
  ∀(k i:Nat),i+k=l.length->Jq cl0 [I bit,.s (.int .u16 mask),.sl r 0 0 1 l.length l.length false,I l.length,I i] (K0.put r (.blk 0 (5+fQ) ((qI bit mask i l).map Y)))
   =some (.sl r 0 0 1 l.length l.length false,K0.put r (.blk 0 (5+fQ) ((qI bit mask l.length l).map Y))):=by
 obtain⟨hb1,hb2⟩:=hb;intro k
 induction k with
 | zero=>
  intro i hi;have h1:¬((i:Int) < l.length):=by omega
  obtain rfl:i=l.length:=by omega
  rw [XO];simp only [Int.reduceNeg,xq_,h1]
 | succ k ih=>
  intro i hi;have h2:(i:Int) < l.length:=by omega
  have h6:(i:Int)+1=((i+1:Nat):Int):=by omega
  have h7:=wrap_i64 (a:=((i+1:Nat):Int)) (by omega) (by omega);obtain⟨c,hc⟩:∃c,l[i]?=some c:=⟨_,zab (by omega)⟩
  have w8:=wrap_i64 (a:=8*(i:Int)) (by omega) (by omega);have ihn:=ih (i+1) (by omega);rw [XO];by_cases hov:8*(i:Int) - bit < 9223372036854775808
  ·have wd:=wrap_i64 (a:=8*(i:Int) - bit) (by omega) (by omega);by_cases hA:8*(i:Int) - bit<=-8
   ·have hm:sN bit mask i=0#8:=by unfold sN;rw [if_pos (.inl hA)]
    rw [Au bit mask hc hm] at ihn;simp only [Int.reduceNeg,xq_,h2,lY,w8,ku,wd,hA,zZ,bI,h6,h7,ihn]
   by_cases hB:16<=8*(i:Int) - bit
   ·have hm:sN bit mask i=0#8:=by unfold sN;rw [if_pos (.inr hB)]
    rw [Au bit mask hc hm] at ihn;simp only [Int.reduceNeg,xq_,h2,lY,w8,ku,wd,hA,hB,zZ,bI,h6,h7,ihn]
   have hd:∃d:Int,8*(i:Int) - bit=d/\-8 < d/\d < 16:=⟨_,rfl,by omega,by omega⟩
   obtain⟨d,hd,hd1,hd2⟩:=hd;have wd8:=wrap_i64 (a:=d+8) (by omega) (by omega);have wdd:=wrap_i64 (a:=d) (by omega) (by omega);have ds:¬(d<=-8):=by omega
   have db:¬(16<=d):=by omega
   obtain⟨m,rfl⟩:∃m:Nat,mask=m:=⟨mask.toNat,by omega⟩
   have ap8:AV.s (.int .u16 (m:Int))=U16 (BitVec.ofNat 16 m):=by
    have hv:(((BitVec.ofNat 16 m).toNat:Nat):Int)=m:=by rw [zce,zct (by omega)]
    show AV.s (.int .u16 (m:Int))=AV.s (.int .u16 (((BitVec.ofNat 16 m).toNat:Nat):Int));rw [hv]
   let K:ah:=K0.put r (.blk 0 (5+fQ) ((qI bit m i l).map Y));have byK:bU K (.sl r 0 0 1 l.length l.length false) (qI bit m i l):=by
    refine⟨⟨by simp,rfl,(oV ..).symm,⟨hr,zac _⟩,_,_,qZ,?_,?_⟩,by rw [oV];exact hs⟩
    ·rw [zax,oV];omega
    ·rw [oV,zbi,zaO,zaE (by rw [zax,oV];exact zac _)]
   have s1:ix 1 (.sl r 0 0 1 l.length l.length false) (I i) K=some (.ref r 0 i,K):=by
    have:=byK.ix (i:=i) (by rw [oV];omega)
    simpa [dW] using this
   have s2:ld (.ref r 0 i) K=some (Y c,K):=by
    have:=byK.ld (Ob bit m hc)
    simpa [dW] using this
   have e1:cv 33 216 (.s (.int .u16 (m:Int))) K=some (U32 (BitVec.ofNat 32 m),K):=by
    refine(WZ (k:=.u16) (n:=(m:Int)) (H:=K)).trans ?_;rw [yG (k:=.u32) rfl];rfl
   let u1:BitVec 32:=BitVec.ofNat 32 m <<< 8;let u2:BitVec 32:=u1 <<< (d+8).toNat;have e2:bi .shl 216 (U32 (BitVec.ofNat 32 m)) (.s (.int .u64 8))=some (U32 u1):=Xy (k:=.u32) rfl _ 8 (by decide) (by decide);have e3:bi .shl 216 (U32 u1) (I (d+8))=some (U32 u2):=Xy (k:=.u32) rfl u1 (d+8) (by omega) (show d+8<=(32:Int) by omega);have e4:bi .shr 216 (U32 u2) (.s (.int .u64 24))=some (U32 (u2 >>> 24)):=afm (k:=.u32) u2 24 (by decide) (by decide);have e5:cv 216 5 (U32 (u2 >>> 24)) K=some (Y ((u2 >>> 24).setWidth 8),K):=
    (aaR (k:=.u32) (n:=((u2 >>> 24).toNat:Int)) (H:=K)).trans (congrArg (λv=> some (v,K)) (aiq (k:=.u32) (k':=.u8) rfl _))
   have hm:(u2 >>> 24).setWidth 8=sN bit m i:=by
    unfold sN;rw [if_neg (by rw [hd];omega),hd];rfl
   rw [hm] at e5;have e6:bi .xor 5 (Y c) (Y (sN bit m i))=some (Y (c ^^^ sN bit m i)):=afl (k:=.u8) rfl _ _;have e7:st 1 (.ref r 0 i) (Y (c ^^^ sN bit m i)) K=some (aO,K0.put r (.blk 0 (5+fQ) ((qI bit m (i+1) l).map Y))):=by
    refine(LG (H:=K) (r:=r) (gg:=0) (off:=i) (ty:=5+fQ) (xs:=(qI bit m i l).map Y) (v:=Y (c ^^^ sN bit m i)) dw qZ hbase (by rw [zax,oV];omega)).trans ?_;show some (aO,(K0.put r _).put r _)=_;rw [agO,Ic bit m hc,List.map_set]
   simp only [K] at s1 s2 e1 e5 e7;simp only [Int.reduceNeg,xq_,h2,lY,w8,ku,hd,wdd,ds,db,s1,s2,e1,e2,e3,e4,e5,e6,e7,wd8,zZ,bI,h6,h7,ihn]
  ·have wd:IntKind.i64.wrap (8*(i:Int) - bit)=8*(i:Int) - bit - 18446744073709551616:=by
    simp only [IntKind.wrap,IntKind.signed,IntKind.bits];simp;omega
   have hA:8*(i:Int) - bit - 18446744073709551616<=-8:=by omega
   have hm:sN bit mask i=0#8:=by unfold sN;rw [if_pos (.inr (by omega))]
   rw [Au bit mask hc hm] at ihn;simp only [Int.reduceNeg,xq_,h2,lY,w8,ku,wd,hA,zZ,bI,h6,h7,ihn]
theorem alN {H:ah}(hb:H.base<=H.next){x:AV}{l:List By}(hx:bU H x l)(hl:l≠[]){bit mask:Int}(hbit:BZ bit)(h0:0<=mask)(h1:mask<=65535):
  ∃r H',cl0 77 [x,I bit,.s (.int .u16 mask)] H=some (.sl r 0 0 1 l.length l.length false,H')/\Gro H H'/\bU H' (.sl r 0 0 1 l.length l.length false) (oN bit mask l)/\H'.base<=H'.next:=by
 let H1:=H.new (.blk 0 5 []);let K0:=H1.new (.blk 0 (5+fQ) (l.map Y));have e1:=YE hx hl;have n1:H1.next=H.next+1:=dL
 have n2:K0.next=H.next+1+1:=by simp only [K0,dL,n1]
 have g:Gro H K0:=(Gro.new H 0 _ _).trans (Gro.new H1 0 _ _);have at_:K0.get (H.next+1)=.blk 0 (5+fQ) (l.map Y):=aJ n1.symm;have ps:K0.put (H.next+1) (.blk 0 (5+fQ) ((qI bit mask 0 l).map Y))=K0:=by rw [Vj];exact ab1 at_
 have lp:=Vk (K0:=K0) (r:=H.next+1) (n:=0) (l:=l) hbit h0 h1 hx.small (by omega) (by rw [g.base];omega) l.length 0 (by omega);rw [ps] at lp;have ln:lnS (.sl (H.next+1) 0 0 1 l.length l.length false) K0=some (I l.length,K0):=rfl;refine⟨H.next+1,K0.put (H.next+1) (.blk 0 (5+fQ) ((qI bit mask l.length l).map Y)),iq (anM _ _ _ _ _ ?_),g.put (by omega),?_,by show K0.base<=K0.next;rw [g.base];omega⟩
 ·simp only [xq_,ajj,e1];exact lp
 ·rw [Zw];refine⟨⟨by simp,rfl,(iK ..).symm,⟨by show H.next+1 < K0.next;omega,zac _⟩,_,_,qZ,?_,?_⟩,by rw [iK];exact hx.small⟩
  ·rw [zax,iK];omega
  ·rw [iK,zbi,zaO,zaE (by rw [zax,iK];exact zac _)]
theorem aox(c:By):yOf (Y c)=some c:=by
 have h:=c.isLt;show(if(0:Int)<=(c.toNat:Int)/\(c.toNat:Int) < 256 then some (BitVec.ofInt 8 (c.toNat:Int)) else none)=some c;rw [if_pos ⟨by omega,by omega⟩,oO]
theorem aeB:∀l:List By,(l.map Y).mapM yOf=some l
 | []=> rfl
 | c::l=> by rw [zaC,zbv,aox,aeB l];rfl
theorem Vl {H:ah}{r n:Nat}{l:List By}(hn:l.length=n)(h:bU H (.sl r 0 0 1 n n false) l)(h0:0 < n)(h8:n<=800):Et (.sl r 0 0 1 n n false) H=some l:=by
 subst hn;obtain⟨⟨hl,_,_,⟨hr,_⟩,ty,all,h2,h3,h4⟩,hs⟩:=h;rw [zbi] at h4 h3;simp only [Et,h2];rw [if_pos ⟨trivial,trivial,h3,h0,h8⟩,<-h4];exact aeB l
theorem Oc(p:Pkt):(qH p).length=12+8*p.data.length:=by
 rw [pW];rfl
theorem Zx {H:ah}{r:Nat}{p:Pkt}(hp:p.fit){bit mask:Int}(h0:0<=mask)(h1:mask<=65535){n:Nat}(hn:n=(qH p).length)(h:bU H (.sl r 0 0 1 n n false) (oN bit mask (qH p))):
  cl 76 [.sl r 0 0 1 n n false] H=some (if bV p.bytes bit mask=true then .tup [.agg Pkt.zero.av,I 2] else .tup [.agg p.av,I 0],H):=by
 refine wZ (p:=zX) rfl ?_;have ok:=hp.ok;simp only [Pkt.ok,zaj,decide_eq_true_eq] at ok;have hlen:=Oc p;unfold zX;simp only [Vl (by rw [iK,hn]) h (by omega) (by omega)];by_cases ht:bV p.bytes bit mask=true
 ·rw [if_pos ht];have hne:∀y,oN bit mask (qH p)≠jh y:=λy=> PZ h0 h1 (by
   have:(jh (eG p)).length=p.bytes:=pW p;rw [this];exact ht)
  rw [dif_neg (λ⟨q,_,hq⟩=> hne _ hq.symm),if_pos hne]
 ·rw [if_neg ht];have he:oN bit mask (qH p)=qH p:=UL h0 h1 (by rw [pW];simpa using ht);have hex:∃q:Pkt,q.fit/\qH q=oN bit mask (qH p):=⟨p,hp,he.symm⟩
  rw [dif_pos hex];have hs:=Classical.choose_spec hex;have:Classical.choose hex=p:=abJ hs.1 hp (hs.2.trans he);rw [this]
theorem TL(p:Pkt)(n:Int):Frz 9 (.tup [.agg p.av,I n]):=sH λx hx=> by
 simp only [zar,zaH,or_false] at hx;rcases hx with rfl | rfl
 ·exact lI λx hx=> by
   simp only [Pkt.av,zar,zaH,or_false] at hx;rcases hx with rfl | rfl | rfl | rfl | rfl | rfl | rfl | rfl | rfl <;> first | exact dQ | exact nM
 ·exact dQ
theorem agP(H:ah){p:Pkt}(hp:p.fit){bit mask:Int}(hbit:BZ bit)(h0:0<=mask)(h1:mask<=65535):
  cl 42 [.agg p.av,I bit,.s (.int .u16 mask)] H=some (if bV p.bytes bit mask=true then .tup [.agg Pkt.zero.av,I 2] else .tup [.agg p.av,I 0],H):=by
 have ax:p.av=p.avx (dat p.data):=rfl;let o1:fD:=.blk 0 99 p.av;let o2:fD:=.blk 0 99 zPk;let K:=(H.guard.new o1).new o2;have hlen:=Oc p;have hK:K.base<=K.next:=by simp only [K,iC,dL];exact(by omega:H.next<=H.next+1+1)
 obtain⟨y,K1,e1,g1,b1,hb1⟩:=alm hK p (oh K p.data) hp.ok;rw [<-ax] at e1;have e1':cl 75 [.agg p.av] K=some (.tup [y,I 0],K1):=wZ (p:=cl0 75) rfl e1;obtain⟨r,K2,e2,g2,b2,hb2⟩:=alN hb1 b1 (bit:=bit) (mask:=mask) (λe=> by rw [e] at hlen;simp at hlen;omega) hbit h0 h1;have e2':cl 77 [y,I bit,.s (.int .u16 mask)] K1=some (_,K2):=wZ (p:=cl0 77) rfl e2;have e3:=Zx hp h0 h1 rfl b2;have hR:K2.get (H.next+1)=o2:=by
  rw [g2.same _ (zau (show H.next+1 < K.next by simp only [K,dL];exact zcu _) g1.next),g1.same _ (by simp only [K,dL];exact zcu _)];exact aJ rfl
 have hbase:K2.base<=H.next+1:=by
  rw [g2.base,g1.base];exact za8 _
 have key:∀q:Pkt,st 9 (.ref (H.next+1) 0 0) (.agg q.av) K2=some (aO,K2.put (H.next+1) (.blk 0 99 q.av))/\lda 9 (.ref (H.next+1) 0 0) (K2.put (H.next+1) (.blk 0 99 q.av))=some (.agg q.av,K2.put (H.next+1) (.blk 0 99 q.av)):=λq=> by
  refine⟨?_,(fO (off:=0) (n:=9) qZ (zac _)).trans rfl⟩;rw [RD (aK _) (show q.av.length=9 from rfl) hR hbase (by decide)];rfl
 have l1:lda 9 (.ref H.next 0 0) K=some (.agg p.av,K):=by
  have:K.get H.next=.blk 0 99 p.av:=by
   simp only [K];rw [aS (by rw [dL];exact zcu _)];exact aJ rfl
  exact(fO (off:=0) (n:=9) this (zac _)).trans rfl
 by_cases ht:bV p.bytes bit mask=true
 ·rw [if_pos ht] at e3 ⊢;refine aV rfl rfl (aiR _ _ _ _ _) ?_ (TL _ _);obtain⟨k1,k2⟩:=key .zero;simp only [K,o1,o2] at e1' l1;have n1:H.guard.next=H.next:=rfl
  simp only [Nat.reduceLT,xq_,hq_,afB,aC,l1,e1',e2',e3,k1,k2,zad]
 ·rw [if_neg ht] at e3 ⊢;refine aV rfl rfl (aiR _ _ _ _ _) ?_ (TL _ _);obtain⟨k1,k2⟩:=key p;simp only [K,o1,o2] at e1' l1;have n1:H.guard.next=H.next:=rfl
  simp only [Nat.reduceLT,xq_,hq_,afB,aC,l1,e1',e2',e3,k1,k2,zad]
theorem TM:∀(l:List Port) (i:Nat) (k:Nat) {j:Nat} {k':Int},uT (l.flatMap λp=> [p.rq,p.an]) (2*i) (k:Int)=some (j,k')->Eh l i k=some (j / 2,decide (j % 2=0),k'.toNat)
 | [],i,k,j,k',h=> by cases h
 | p::l,i,k,j,k',h=> by
  simp only [zaQ,zbc,zaU,uT] at h;simp only [Eh];by_cases h1:k < p.rq.length
  ·rw [if_pos ⟨by omega,by omega⟩] at h;cases h;rw [if_pos h1,show 2*i / 2=i by omega,show 2*i % 2=0 by omega];rfl
  ·rw [if_neg (λhh=> h1 (by omega))] at h;rw [if_neg h1];by_cases h2:k < p.rq.length+p.an.length
   ·rw [if_pos ⟨by omega,by omega⟩] at h;cases h;rw [if_pos h2,show(2*i+1) / 2=i by omega,show(2*i+1) % 2=1 by omega];simp only [zaa,zae,true_and];exact⟨by simp,by omega⟩
   ·rw [if_neg (λhh=> h2 (by omega))] at h;rw [if_neg h2];rw [show(k:Int) - p.rq.length - p.an.length=((k - (p.rq.length+p.an.length):Nat):Int) by omega,show 2*i+1+1=2*(i+1) by omega] at h;exact TM l (i+1) _ h
theorem apV {b:Nat}{K:ah}{gk:bg}{r:Nat}{ys:List AV}(Gk:Good b K gk)(hk:K.base<=b)(hz:gk r=some (ys.map Cell.av))(hy:ys.length=2){y:List AV}(h9:y.length=2)(ha:y.all AV.aU=true):
  ∃K',st 2 (.ref r 0 0) (.agg y) K=some (aO,K')/\Good b K' (upd gk r (y.map Cell.av))/\Step b K K':=by
 obtain⟨K',t1,t2,t3,t4⟩:=Gk.stores hk hz (i:=0) (n:=2) (vs:=y) (by simp [hy]) h9 ha;have e:pO (ys.map Cell.av) 0 y=y.map Cell.av:=by
  unfold pO;rw [zaF (by simp [h9,hy])];simp
 rw [e] at t2;exact⟨K',t1,t2,t3⟩
theorem Zy {fab:Fab}{d:Nat}{req:Bool}{l:List Pkt}:(fab.put d ((fab.port d).nN req l)).kR=fab.kR:=by
 unfold Fab.kR Fab.put;rw [zao];have key:∀(ls:List Port) (d:Nat),((ls.set d ((ls.getD d .zero).nN req l)).flatMap λp=> [p.rq,p.an])=ls.flatMap λp=> [p.rq,p.an]:=by
  intro ls
  induction ls with
  | nil=> intro d;rfl
  | cons p ls ih=>
   intro d;cases d with
   | zero=> cases req <;> simp [Port.nN]
   | succ d=> simpa using ih d
 have:=key fab.l d;unfold Fab.port;rw [zao];exact this
theorem TN:∀(ls:List Port) (j:Nat) {l:List Pkt},(ls.flatMap λp=> [p.rq,p.an])[j]?=some l->(ls.getD (j / 2) .zero).sort (decide (j % 2=0))=l
 | [],j,l,h=> by simp at h
 | p::ls,0,l,h=> by simpa [Port.sort] using h
 | p::ls,1,l,h=> by simpa [Port.sort] using h
 | p::ls,j+2,l,h=> by
  have h':(ls.flatMap λp=> [p.rq,p.an])[j]?=some l:=by simpa using h
  have:=TN ls j h';rw [show(j+2) / 2=j / 2+1 by omega,show(j+2) % 2=j % 2 by omega]
  simpa using this
section
variable {b:Nat}{H:ah}{g:bg}{f:Nat}{P:Nat->Nat->Nat}{c:Cfg}{fab:Fab}
theorem Vm(G:Good b H g)(hb:H.base<=b)(F:gY g f P c fab)(J:Qk P fab.l.length)(K:FOk c fab)(h0:fab.l.length≠0)(hfit:∀p∈fab.all,p.fit/\fab.is p.dst=true){at_ bit mask:Int}(h64:BZ at_)(hbit:BZ bit)(m0:0<=mask)(m1:mask<=65535):
  ∃H' g',cl 16 [.ref f 0 0,I at_,I bit,.s (.int .u16 mask)] H=some (I (fab.deliver at_ bit mask).2,H')/\Good b H' g'/\gY g' f P c (fab.deliver at_ bit mask).1/\Off (J6 P fab.l.length) g g'/\Step b H H':=by
 have hb0:H.base<=H.next:=zas hb G.1
 have Zz:∀l∈fab.kR,l.length < 1000/\∀p∈l,p.data.length < 1000000000:=by
  intro l hl;unfold Fab.kR at hl;obtain⟨p,hp,hl⟩:=zbd.1 hl;simp only [zar,zaH,or_false] at hl;rcases hl with rfl | rfl
  ·exact⟨K.small hp (s:=0) (by decide),K.dat p hp 0 (by decide)⟩
  ·exact⟨K.small hp (s:=2) (by decide),K.dat p hp 2 (by decide)⟩
 have e1:=YT G F K.len h0 Zz at_ h64;have hn0:g H.next=none:=G.isNone (zac _)
 have G1:=G.newObj (ty:=99) (xs:=zP9) rfl;obtain⟨K1,s1,l1,G2,S2⟩:=agC G1 (by rw [iC];exact hb) aN rfl (y:=((fab.pkt at_).getD .zero).av) (bH _) (aK _);rw [qB] at G2;have S02:=(Step.new (.blk 0 99 zP9) G.1).trans S2;cases hp:fab.pkt at_ with
 | none=>
  have hd:fab.deliver at_ bit mask=(fab,3):=by
   unfold Fab.deliver;unfold Fab.pkt at hp;split at hp
   ·rename_i h;rw [if_pos h]
   ·rename_i h;rw [if_neg h,hp]
  rw [hd];rw [hp] at e1 s1;refine⟨K1,g,aX rfl rfl (aa5 _ _ _ _ _ _ ?_),G2.sub ((uf.refl g).more hn0 _),F,Off.refl _ _,S02⟩;simp only [gQ,zaT,zaB] at e1 s1;simp only [xq_,XC,e1,s1,zaf]
 | some p=>
  rw [hp] at e1 s1 l1 G2;simp only [gQ,zat,zaG] at e1 s1 l1 G2;have hat:¬at_ < 0:=by
   intro h;unfold Fab.pkt at hp;rw [if_pos h] at hp;cases hp
  have hall:fab.all[at_.toNat]?=some p:=by
   unfold Fab.pkt at hp
   rwa [if_neg hat] at hp
  obtain⟨pf,pd⟩:=hfit p (zaw hall);have e2:=agP K1 pf hbit m0 m1;have hd:fab.deliver at_ bit mask=if bV p.bytes bit mask=true then(fab,2) else
    if fab.room (Ef p.bf)<=((fab.port p.dst).vI (Ef p.bf)).length then(fab,5) else
    ((fab.put p.dst ((fab.port p.dst).nN (Ef p.bf) ((fab.port p.dst).vI (Ef p.bf)++[p]))).remove at_.toNat,0):=by
   unfold Fab.deliver;rw [if_neg hat,hall]
  have hk1:K1.base<=b:=by rw [S02.base];exact hb
  by_cases ht:bV p.bytes bit mask=true
  ·rw [if_pos ht] at e2 hd;rw [hd];obtain⟨K2,s3,l3,G3,S3⟩:=agC G2 hk1 aN (bH _) (y:=Pkt.zero.av) (bH _) (aK _);rw [qB] at G3;refine⟨K2,g,aX rfl rfl (aa5 _ _ _ _ _ _ ?_),G3.sub ((uf.refl g).more hn0 _),F,Off.refl _ _,S02.trans S3⟩;simp only [Int.reduceEq,xq_,XC,e1,s1,zad,l1,e2,s3,zaf]
  rw [if_neg ht] at e2 hd;rw [hd];obtain⟨K2,s3,l3,G3,S3⟩:=agC G2 hk1 aN (bH _) (y:=p.av) (bH _) (aK _);rw [qB] at G3;have S03:=S02.trans S3;have F3:=F.sub ((uf.refl g).more hn0 (p.av.map Cell.av));obtain⟨d,hdd,hdl⟩:=yZ pd;obtain⟨x,r,gg,o,h1,h2,h3⟩:=y7 G3 F3 hdl;have hdst:ld (.ref H.next 0 2) K2=some (I p.dst,K2):=G3.load aN (i:=2) rfl;have hkind:ld (.ref H.next 0 0) K2=some (I p.bf,K2):=G3.load aN (i:=0) rfl;let req:=Ef p.bf;have rq:=Hq K2.guard p.bf;obtain⟨K3,t1,t2⟩:=Di K2.guard (zac _) (P d) req;obtain⟨K3,t1,t2⟩:=drawn t1 t2;have G4:=G3.ext t2.next t2.same
  have hk3:K3.base<=b:=by rw [t2.base,S03.base];exact hb
  have S34:Step b K2 K3:=⟨t2.base,t2.next,λr hr=> t2.same r (zau hr G3.1)⟩
  have l9:lda 9 (.ref H.next 0 0) K3=some (.agg p.av,K3):=G4.loads aN (i:=0) (n:=9) (xs:=p.av) rfl rfl (by decide);have hbx:=gJ (F3.port hdl) (qo req);have hR:=HY K.ok (iIx req);obtain⟨K4,q1,q2,q3⟩:=abl G4 hk3 hbx hR.1 hR.2 (K.small (Fab.sU hdl) (qo req)) p (by have:=pf.ok;simp only [Pkt.ok,zaj,decide_eq_true_eq] at this;omega);rw [EU] at q1 q2;have hroom:J7 c (iIx req)=fab.room req:=by
   have apW:fab.inn=c.inn:=F.2.2.2;unfold Fab.room;cases req <;> simp [iIx,J7,apW]
  have hle:=K.box _ (Fab.sU hdl) _ (qo req);rw [EU] at hle;have f1:(abP (P d) req)[1]?=some (.ref (P d (iIx req)) 0 0):=rfl;have S04:=(S03.trans S34).trans q3;have hk4:K4.base<=b:=by rw [S04.base];exact hb
  have hdp:p.dst=(d:Int):=hdd;have hpn:P d (iIx req)≠H.next:=λe=> F.Qy G ⟨d,iIx req,hdl,qo req,e.symm⟩
  by_cases hfull:J7 c (iIx req)=(((fab.port d).vI req).length:Int)
  ·rw [if_pos hfull] at q1 q2;rw [if_pos (show fab.room (Ef p.bf)<=((fab.port p.dst).vI (Ef p.bf)).length by rw [hdp];show fab.room req<=_;rw [<-hroom];exact Int.le_of_eq hfull)];rw [eU (by rw [hbx,EU])] at q2;refine⟨K4,g,aX rfl rfl (aa5 _ _ _ _ _ _ ?_),q2.sub ((uf.refl g).more hn0 _),F,Off.refl _ _,S04⟩;rw [hdp] at hdst;simp only [req] at rq t1 f1 q1;simp only [Int.reduceEq,xq_,XC,e1,s1,zad,l1,e2,s3,h1,hdst,h2,h3,hkind,rq,t1,f1,l9,q1,zaf]
  ·rw [if_neg hfull] at q1 q2;rw [if_neg (show¬fab.room (Ef p.bf)<=((fab.port p.dst).vI (Ef p.bf)).length by rw [hdp];show¬fab.room req<=_;rw [<-hroom];exact λh=> hfull (Int.le_antisymm h hle))];have F4:=F3.fill J hdl (qo req) (p':=(fab.port d).nN req ((fab.port d).vI req++[p])) (l:=(fab.port d).vI req++[p]) (Ak _ _ _);rw [hdp];show∃H' g',_/\_/\gY g' f P c ((fab.put d ((fab.port d).nN req ((fab.port d).vI req++[p]))).remove at_.toNat)/\_/\_;generalize agQ:fab.put d ((fab.port d).nN req ((fab.port d).vI req++[p]))=JR at*;have alO:JR.kR=fab.kR:=by rw [<-agQ];exact Zy
   have hlen1:JR.l.length=fab.l.length:=by rw [<-agQ];simp [Fab.put]
   have e5:=YS q2 F4 (by rw [hlen1];exact K.len) (by rw [hlen1];exact h0) (λl hl=> (Zz l (by rw [<-alO];exact hl)).1) at_ h64;rw [alO] at e5;cases hf:uT fab.kR 0 at_ with
   | none=>
    exfalso;have:=Af hf;rw [show fab.kR.flatten=fab.all from Ah fab.l] at this;have h2:=(zak.1 hall).1;omega
   | some jk=>
    obtain⟨j,k⟩:=jk;rw [hf] at e5;obtain⟨_,l,z2,z3,z4,z5,z6⟩:=qY hf;rw [Nat.sub_zero] at z2;have hj:j < 2*fab.l.length:=by
     have:=(zak.1 z2).1
     rwa [Fab.kR,sQ] at this
    have hj2:j / 2 < JR.l.length:=by rw [hlen1];omega
    obtain⟨kn,rfl⟩:∃kn:Nat,k=kn:=⟨k.toNat,by omega⟩
    have hfa:Eh JR.l 0 at_.toNat=some (j / 2,decide (j % 2=0),kn):=by
     have hh:=TM JR.l 0 at_.toNat (j:=j) (k':=kn) (by
      show uT JR.kR 0 _=_;rw [alO,zbl (by omega)];exact hf)
     simpa using hh
    have ex1:uU P (some (j,(kn:Int)))=.tup [.agg (jS P j),I kn,B true]:=rfl;rw [ex1] at e5;let rq2:Bool:=decide (j % 2=0);have hP:(if j % 2=0 then 0 else 2)=oIx rq2:=by
     by_cases h:j % 2=0 <;> simp [rq2,h,oIx]
    have hp3:=YR F4 (j:=j) (l:=l) (by rw [alO];exact z2);rw [hP] at hp3;have hq4:=gJ (F4.port hj2) (rC rq2);have hl:(JR.port (j / 2:Nat)).sort rq2=l:=by
     have:=TN JR.l j (show JR.kR[j]?=some l by rw [alO];exact z2);unfold Fab.port;rw [zao];exact this
    have hkl:kn < l.length:=by omega
    obtain⟨hl3,hd3⟩:=Zz l (zaw z2);have n4:(upd (upd g H.next (p.av.map Cell.av)) (P d (iIx req)) (lQ ((fab.port d).vI req++[p]) (J7 c (iIx req)))) K4.next=none:=q2.isNone (zac _)
    have G5:=q2.newObj (ty:=90) (xs:=[zP,zP]) rfl;obtain⟨K5,u1,G6,S6⟩:=apV G5 (by rw [iC];exact hk4) aN rfl (y:=jS P j) rfl rfl;rw [qB] at G6;have u2:ld (.ref K4.next 0 0) K5=some (.ref (P (j / 2) (oIx rq2)) 0 0,K5):=by
     refine G6.load aN (i:=0) ?_;rw [<-hP];rfl
    have S05:=(S04.trans (Step.new _ q2.1)).trans S6;have hk5:K5.base<=b:=by rw [S05.base];exact hb
    have hne:P (j / 2) (oIx rq2)≠K4.next:=λe=> by rw [e,n4] at hp3;cases hp3
    obtain⟨v,K6,y1,G7,S7⟩:=U8 G6 hk5 (by rw [aY hne];exact hp3) hl3 hd3 kn hkl;have hJ1:Qk P JR.l.length:=by rw [hlen1];exact J
    have F7:=F4.fill hJ1 hj2 (rC rq2) (p':=(JR.port (j / 2:Nat)).drop rq2 kn) (l:=l.eraseIdx kn) (by
     intro t ht;have:=xM (JR.port (j / 2:Nat)) rq2 (l.eraseIdx kn) t ht;unfold Port.drop;rw [hl];exact this)
    have aow:JR.remove at_.toNat=JR.put (j / 2:Nat) ((JR.port (j / 2:Nat)).drop rq2 kn):=by
     unfold Fab.remove;rw [hfa]
    rw [aow];rw [qm] at F7;let g':=upd (upd g (P d (iIx req)) (lQ ((fab.port d).vI req++[p]) (J7 c (iIx req)))) (P (j / 2) (oIx rq2)) (lQ (l.eraseIdx kn) c.out);have ne2:P (j / 2) (oIx rq2)≠H.next:=λe=> F.Qy G ⟨j / 2,oIx rq2,by omega,rC rq2,e.symm⟩
    have apX:uf g' (upd (upd (upd g H.next (p.av.map Cell.av)) (P d (iIx req)) (lQ ((fab.port d).vI req++[p]) (J7 c (iIx req)))) (P (j / 2) (oIx rq2)) (lQ (l.eraseIdx kn) c.out)):=(((uf.refl g).more hn0 _).both _ _).both _ _;have F8:gY g' f P c (JR.put (j / 2:Nat) ((JR.port (j / 2:Nat)).drop rq2 kn)):=by
     have hJ:Qk P fab.l.length:=J;have A:=F.fill J hdl (qo req) (p':=(fab.port d).nN req ((fab.port d).vI req++[p])) (l:=(fab.port d).vI req++[p]) (Ak _ _ _);rw [agQ] at A;have B:=A.fill hJ1 hj2 (rC rq2) (p':=(JR.port (j / 2:Nat)).drop rq2 kn) (l:=l.eraseIdx kn) (by
      intro t ht;have:=xM (JR.port (j / 2:Nat)) rq2 (l.eraseIdx kn) t ht;unfold Port.drop;rw [hl];exact this)
     rw [qm] at B;exact B
    refine⟨K6,g',aX rfl rfl (aa5 _ _ _ _ _ _ ?_),G7.sub λq cs hq=> ?_,F8,(Off.upd ⟨d,iIx req,hdl,qo req,rfl⟩).trans (Off.upd ⟨j / 2,oIx rq2,by omega,rC rq2,rfl⟩),S05.trans S7⟩
    ·rw [hdp] at hdst;simp only [req] at rq t1 f1 q1;simp only [xq_,XC,e1,s1,zad,l1,e2,s3,h1,hdst,h2,h3,hkind,rq,t1,f1,l9,q1,e5,u1,u2,y1]
    ·have:=apX q cs hq;by_cases e:q=P (j / 2) (oIx rq2)
     ·subst e;rw [aN] at this ⊢;exact this
     ·rw [aY e] at this ⊢;have h4:q≠K4.next:=λe'=> by rw [e',n4] at this;cases this
      rw [aY h4];exact this
end
theorem aad.ask {t:Turns}(h:aad t)(aB who id:Int):aad (t.ask aB who id).1:=by
 unfold Turns.ask;split
 ·exact h
 split
 ·refine⟨h.ok,h.oge,vK h.wk _ _,λe he w hw=> ?_⟩;rcases pU he with rfl | he
  ·rcases za3.1 hw with hw | hw
   ·unfold Turns.ws at hw;cases ha:jM t.wait aB with
    | none=> rw [ha] at hw;cases hw
    | some ws=> rw [ha] at hw;exact h.wge _ (vM ha) w hw
   ·simp only [zaM] at hw;subst hw;simp only;omega
  ·exact h.wge e he w hw
 ·refine⟨vK h.ok _ _,λe he=> ?_,h.wk,h.wge⟩;rcases pU he with rfl | he
  ·simp only;omega
  ·exact h.oge e he
theorem aad.release {t:Turns}(h:aad t)(aB who:Int):aad (t.release aB who).1:=by
 unfold Turns.release;split
 ·refine⟨?_,λe he=> h.oge e (LZ he),h.wk,h.wge⟩;show((FB t.jQ aB).map (·.1)).Nodup;rw [GL];exact h.ok.erase _
 ·exact h
theorem aad.next {t:Turns}(h:aad t)(aB:Int):aad (t.next aB).1:=by
 unfold Turns.next
 split
 ·exact h
 split
 ·exact h
 ·rename_i w ws hw;have hge:∀x∈w::ws,0<=x.1:=by
   unfold Turns.ws at hw;cases e:jM t.wait aB with
   | none=> rw [e] at hw;cases hw
   | some l=>
    rw [e] at hw;rw [show l=w::ws from hw] at e;exact h.wge _ (vM e)
  refine⟨vK h.ok _ _,λe he=> ?_,vK h.wk _ _,λe he x hx=> ?_⟩
  ·rcases pU he with rfl | he
   ·exact hge w (by simp)
   ·exact h.oge e he
  ·rcases pU he with rfl | he
   ·exact hge x (zbH _ hx)
   ·exact h.wge e he x hx
def wG(c:Cfg)(me:Int)(h:Home):Prop:=∀aB,yw c me aB=true->∃row,jM h.eF aB=some row
theorem ab2 {c:Cfg}{eF:Rows}{aB state head:Int}{data:List Int}{m:Int}(h:∃row,jM eF m=some row):∃row,jM (iY c eF aB state head data).1 m=some row:=by
 unfold iY;cases jM eF aB with
 | none=> exact h
 | some r=>
  simp only;split
  ·exact h
  split
  ·exact h
  ·rw [oM];split
   ·exact⟨_,rfl⟩
   ·exact h
section
variable {c:Cfg}{me:Int}{h:Home}
theorem Vo(hc:c.ok=true)(I:afg c me h)(R:wG c me h)(p:Pkt):afg c me (h.handle c me p).1/\wG c me (h.handle c me p).1:=by
 unfold Home.handle;split
 ·exact⟨I,R⟩
 rename_i h1;have hl0:0<=p.aB:=by
  simp only [zbs,zbf,not_or,zc6,zaj] at h1;have:=h1.1.1.1;simp only [Pkt.ok,zaj,decide_eq_true_eq] at this;omega
 split
 ·exact⟨I,R⟩
 rename_i h2;have hh:yw c me p.aB=true:=by
  cases e:yw c me p.aB with
  | true=> rfl
  | false=> exact absurd ((L8 hc hl0).2 e) h2
 split
 ·have key:afg c me { h with bV:=(h.bV.ask p.aB p.src p.id).1 }/\wG c me { h with bV:=(h.bV.ask p.aB p.src p.id).1 }:=⟨⟨I.bV.ask _ _ _,λe he=> by
   rcases aaV he with h | h
   ·rw [h];exact hh
   ·exact I.here e h⟩,R⟩
  simp only;split <;> exact key
 ·have key:afg c me (h.unlock c p).1/\wG c me (h.unlock c p).1:=by
   unfold Home.unlock;generalize (if p.flag=true then p.data else [])=dat;split
   ·exact⟨I,R⟩
   ·simp only;split
    ·exact⟨⟨I.bV.release _ _,by simp only [L6];exact I.here⟩,λaB hl=> ab2 (R aB hl)⟩
    ·exact⟨I,R⟩
  simp only;split <;> exact key
theorem ZA(I:afg c me h)(R:wG c me h):afg c me (h.grant me).1/\wG c me (h.grant me).1:=by
 unfold Home.grant;cases hr:h.ready with
 | nil=> exact⟨I,R⟩
 | cons aB l=>
  obtain⟨m1,m2,m3⟩:=En hr;have hh:yw c me aB=true:=by
   obtain⟨e,he,rfl⟩:=zaS.1 m3;exact I.here e he
  have alP:∀e∈(h.bV.next aB).1.wait,yw c me e.1=true:=λe he=> by
   rcases Xm he with h | h
   ·exact I.here e h
   ·rw [h.1];exact hh
  have hT:=I.bV.next aB
  simp only;cases ha:h.bV.next aB with
  | mk t o=>
   rw [ha] at alP hT;cases o with
   | none=> exact⟨I,R⟩
   | some w=> exact⟨⟨hT,alP⟩,R⟩
theorem E8(R:wG c me h)(hr:∀e∈h.eF,nO c e.2.data){aB:Int}(hl:yw c me aB=true)(who id:Int):(qF h.eF me aB who id).ok=true->wC c (qF h.eF me aB who id):=by
 intro hk;obtain⟨row,h1⟩:=R aB hl;have hd:nO c (oL h.eF aB).data:=by
  unfold oL;rw [h1];exact hr _ (vM h1)
 exact⟨hk,λ_=> hd,hd.2⟩
theorem Vp(hc:c.ok=true)(R:wG c me h)(hr:∀e∈h.eF,nO c e.2.data)(p:Pkt):(h.handle c me p).2.1.ok=true->wC c (h.handle c me p).2.1:=by
 unfold Home.handle;have z:Pkt.zero.ok=true->wC c Pkt.zero:=vW rfl (by simp [Pkt.zero]);split
 ·exact z
 rename_i h1;have hl0:0<=p.aB:=by
  simp only [zbs,zbf,not_or,zc6,zaj] at h1;have:=h1.1.1.1;simp only [Pkt.ok,zaj,decide_eq_true_eq] at this;omega
 split
 ·exact z
 rename_i h2;have hh:yw c me p.aB=true:=by
  cases e:yw c me p.aB with
  | true=> rfl
  | false=> exact absurd ((L8 hc hl0).2 e) h2
 split
 ·simp only;split
  ·exact E8 R hr hh _ _
  ·exact z
 ·simp only;split
  ·exact vW rfl (by simp)
  ·exact z
end
structure aeC(c:Cfg)(me:Int)(n:Node)(t:List Evn)(A:NFT):Prop where
 inv:UH c me A.1
 eF:wG c me A.1.home
 fab:uJ c A.2.1
 evs:A.2.2.length+n.evs=t.length+A.1.evs
section
variable {c:Cfg}{me:Int}{n:Node}{f:Fab}{t:List Evn}{o:Opn}{e:Ent}
theorem Oe(ho:n.dK.cur=some o)(hb:n.dK.gK=true)(he:n.aT.find (c.dS o.addr)=some e):
  n.effect c me t=({ n with aT:=(n.aT.put (kV e o (c.jJ o.addr))).1,dK:=⟨n.dK.ops,n.dK.dP++[if o.bf=2 then 0 else e.word (c.jJ o.addr)],false⟩ },t++[⟨me,n.dK.dP.length,true,if o.bf=2 then 0 else e.word (c.jJ o.addr)⟩]):=by
 have hop:n.dK.op=o:=by unfold Proc.op;rw [ho];rfl
 have hidx:n.dK.idx=n.dK.dP.length:=by unfold Proc.idx;rw [ho]
 unfold Node.effect;simp only [hop,he,zat];unfold Node.done;simp only [Proc.VH,hb,if_true,hidx]
theorem Ie(I:Cb c n.aT)(hov:I64 o.value)(he:n.aT.find (c.dS o.addr)=some e):Cb c (n.aT.put (kV e o (c.jJ o.addr))).1/\(n.aT.put (kV e o (c.jJ o.addr))).1.dD=n.aT.dD:=by
 obtain⟨hem,hel⟩:=(jW I.aW).1 he;have E:=I.ent e hem;obtain⟨y1,_⟩:=xO e o (c.jJ o.addr);refine⟨I.put (by rw [y1];exact E.lo) (by rw [y1];exact E.hi) (Ve E.dat hov),?_⟩;rw [uI I.aW (x:=e) (by rw [y1];exact E.lo) (by rw [y1,hel];exact he)]
theorem ab3 {p:Proc}{v:Int}(P:amb c p)(hb:p.gK=true):amb c ⟨p.ops,p.dP++[v],false⟩:=by
 have:=P.gK hb;exact⟨P.most,P.right,by simp only [zaq,zah,zam];omega,λh=> by cases h⟩
theorem Vq {ca:Cache}{d:dF}{p:Pkt}(hA:Ba n.dO me n.aT p=(ca,d,false)):ca=n.aT:=by
 cases hfit:n.dO.fits p with
 | false=> rw [zf hfit] at hA;simp only [wB,zae] at hA;exact hA.1.symm
 | true=>
  unfold Ba at hA
  repeat' split at hA
  ·unfold dN at hA
   repeat' split at hA
   all_goals (simp only [wB,zae,zcG,and_false] at hA)
   all_goals exact hA.1.symm
  ·unfold dM at hA
   repeat' split at hA
   all_goals (simp only [wB,zae,zcG,and_false] at hA)
   all_goals exact hA.1.symm
  ·unfold dX at hA;split at hA
   ·simp only [wB,zae] at hA;exact hA.1.symm
   ·split at hA
    ·exfalso;cases hfd:n.aT.find n.dO.aB with
     | none=> simp [hfd] at hA
     | some e=>
      simp only [hfd] at hA
      repeat' split at hA
      all_goals simp at hA
    ·unfold ig at hA
     repeat' split at hA
     all_goals (simp only [wB,zae,zcG,and_false] at hA)
     all_goals exact hA.1.symm
  ·simp only [wB,zae] at hA;exact hA.1.symm
theorem JU {p:Proc}{v:Int}{n':Node}(hb:n.dK.gK=true)(h:n'.dK=⟨n.dK.ops,n.dK.dP++[v],false⟩):t.length+1+n.evs=t.length+n'.evs:=by
 unfold Node.evs;rw [h,hb];simp only [if_true,zaq,zah,zam,zal,if_false];omega
theorem Og(hc:c.ok=true)(I:UH c me n)(R:wG c me n.home)(F:uJ c f){p:Pkt}(Q:wC c p):aeC c me n t (n.answered c me f t p):=by
 have hsame:aeC c me n t (n,f,t):=⟨I,R,F,rfl⟩
 unfold Node.answered;rw [uX];by_cases hs:n.dO.step=0
 ·have hf:n.dO.fits p=false:=by
   unfold dF.fits;rw [hs];simp [OH,J5]
  rw [zf hf];simp only [wB,if_true];exact hsame
 have D:=I.dO hs;cases hA:Ba n.dO me n.aT p with
 | mk ca dk=>
  obtain⟨d,ok⟩:=dk;cases ok with
  | false=>
   rw [Vq hA];simp only [if_true];exact hsame
  | true=>
   simp only [zcG,if_false];have N:=TI I.aT D hs Q hA;by_cases h0:d.step=0
   ·rw [if_pos h0];rcases N.way with⟨w1,_,w3⟩ | ⟨w1,_⟩
    rotate_left
    ·exact absurd h0 w1
    subst w3;by_cases k3:d.bf=3/\n.dK.op.bf=4
    ·rw [if_pos k3];have hb:=D.roll (by rw [<-N.bf];exact k3.1);have hlt:=I.dK.gK hb;have he:n.dK.VH 0=⟨n.dK.ops,n.dK.dP++[0],false⟩:=by unfold Proc.VH;rw [if_pos hb]
     simp only [Node.done,he];refine⟨⟨ab3 I.dK hb,I.aT,I.eF,I.home,λh=> absurd h0 h,?_⟩,R,F,?_⟩
     ·have:=I.clk;simp only [zaq,zah,zam];omega
     ·simp only [zaq,zah,zam];exact JU (p:=n.dK) hb rfl
    ·rw [if_neg k3];exact⟨⟨I.dK,I.aT,I.eF,I.home,λh=> absurd h0 h,I.clk⟩,R,F,rfl⟩
   ·rw [if_neg h0];rcases N.way with⟨_,w2,_⟩ | ⟨_,w2,w3⟩
    ·exact absurd w2 h0
    have hl0:0<=d.aB:=by rw [N.aB];exact D.lo
    by_cases h6:d.step=6/\d.bf≠3
    ·simp only [if_pos h6];have k3:n.dO.bf≠3:=by rw [<-N.bf];exact h6.2
     have W:=D.work k3 w2;obtain⟨o,ho,hol,hk1,hk2⟩:=W.op;have hmem:o∈n.dK.ops:=zaw ho;obtain⟨e,he,_⟩:∃e,ca.find n.dO.aB=some e/\(n.dO.bf=2->e.fB=true):=by
      rcases w3 k3 with⟨w,_⟩ | ⟨_,w⟩
      ·exact absurd h6.1 w
      ·exact w
     have he':({ n with aT:=ca,dO:=d }:Node).aT.find (c.dS o.addr)=some e:=by show ca.find _=_;rw [hol];exact he
     rw [Oe (n:={ n with aT:=ca,dO:=d }) (e:=e) ho W.gK he'];obtain⟨p1,p2⟩:=Ie (n:={ n with aT:=ca,dO:=d }) N.inv (I.dK.right o hmem).2 he';have hlt:=I.dK.gK W.gK;have amj:ca.dD<=n.dK.dP.length+1:=by
      have:=I.clk;rcases N.clk with h | ⟨_,_,h⟩ <;> omega
     refine⟨⟨ab3 I.dK W.gK,p1,I.eF,I.home,λ_=> ?_,?_⟩,R,F.send (Zn N.dat _ _),?_⟩
     ·exact⟨hl0,by rw [N.aB];exact D.hi,by rw [N.bf];exact D.bf,N.dat,N.afi,λh=> absurd h h6.2,λ_ h=> absurd h6.1 h,λ_ _=> rfl⟩
     ·simp only [zaq,zah,zam];rw [p2];show ca.dD<=_;omega
     ·simp only [zaq,zah,zam];exact JU (p:=n.dK) W.gK rfl
    ·simp only [if_neg h6];refine⟨⟨I.dK,N.inv,I.eF,I.home,λ_=> ⟨hl0,by rw [N.aB];exact D.hi,by rw [N.bf];exact D.bf,N.dat,N.afi,λh=> D.roll (by rw [<-N.bf];exact h),λk3 k6=> ?_,λk3 k6=> absurd ⟨k6,k3⟩ h6⟩,?_⟩,R,F.send (Zn N.dat _ _),rfl⟩
     ·have k3':n.dO.bf≠3:=by rw [<-N.bf];exact k3
      have W:=D.work k3' w2;rcases w3 k3' with⟨_,w⟩ | ⟨w,_⟩
      ·subst w;obtain⟨o,ho,hol,hk1,hk2⟩:=W.op;exact⟨W.gK,⟨o,ho,by rw [hol];exact N.aB.symm,by rw [N.bf];exact hk1,by rw [N.bf];exact hk2⟩,by simp only;rw [N.aB];exact W.full⟩
      ·exact absurd w k6
     ·have:=I.clk;rcases N.clk with h | ⟨k3,k6,_⟩
      ·simp only;omega
      ·exact absurd ⟨k6,by rw [N.bf];exact k3⟩ h6
theorem zi(I:UH c me n)(R:wG c me n.home)(F:uJ c f){k l:Int}(hk:1<=k/\k<=3)(h0:0<=l)(h1:l < c.aW)(hb:n.dK.gK=true)
  (hw:k≠3->(∃o,n.dK.cur=some o/\c.dS o.addr=l/\(k=1->o.bf=1)/\(k=2->o.bf=2∨o.bf=3))/\n.aT.full l=false):aeC c me n t ((n.begin_ c me f k l).1,(n.begin_ c me f k l).2,t):=by
 refine⟨⟨I.dK,I.aT,I.eF,I.home,λ_=> ⟨h0,h1,hk,.inl rfl,λ_ h=> absurd (show(1:Int)=3 from h) (by decide),λ_=> hb,λk3 _=> ?_,λ_ h=> absurd (show(1:Int)=6 from h) (by decide)⟩,I.clk⟩,R,F.send (Zn (.inl rfl) _ _),rfl⟩;obtain⟨⟨o,q1,q2,q3,q4⟩,q5⟩:=hw k3;exact⟨hb,⟨o,q1,q2,q3,q4⟩,q5⟩
theorem ab4(hc:c.ok=true)(I:UH c me n)(R:wG c me n.home)(F:uJ c f)(ho:n.dK.cur=some o)(hd:n.dO.step=0):aeC c me n t (n.work c me f t o):=by
 have hmem:o∈n.dK.ops:=zaw ho;have hlt:n.dK.dP.length < n.dK.ops.length:=(zak.1 ho).1;have Rr:=I.dK.right o hmem;have O:=apT hc Rr.1;obtain⟨n1,hn1⟩:∃n1:Node,n1={ n with dK:={ n.dK with gK:=true } }:=⟨_,rfl⟩
 have I1:UH c me n1:=by rw [hn1];exact⟨⟨I.dK.most,I.dK.right,I.dK.vals,λ_=> hlt⟩,I.aT,I.eF,I.home,λh=> absurd hd h,I.clk⟩
 have R1:wG c me n1.home:=by rw [hn1];exact R
 have ho1:n1.dK.cur=some o:=by rw [hn1];exact ho
 have hb1:n1.dK.gK=true:=by rw [hn1]
 have hc1:n1.aT=n.aT:=by rw [hn1]
 have hd1:n1.dO.step=0:=by rw [hn1];exact hd
 obtain⟨t1,ht1⟩:∃t1,t1=if n.dK.gK=true then t else t++[⟨me,n.dK.dP.length,false,0⟩]:=⟨_,rfl⟩
 have hev:t1.length+n.evs=t.length+n1.evs:=by
  rw [ht1,hn1];unfold Node.evs;cases n.dK.gK
  ·simp only [zal,if_false,zaq,zah,zam,if_true];omega
  ·simp only [if_true]
 have lift:∀{A:NFT},aeC c me n1 t1 A->aeC c me n t A:=λ{A} h=> ⟨h.inv,h.eF,h.fab,by have:=h.evs;omega⟩
 unfold Node.work;simp only;rw [<-hn1,<-ht1,<-hc1];by_cases c1:o.bf=4/\n1.aT.find (c.dS o.addr)=none
 ·rw [if_pos c1];refine lift ?_;have he:n1.dK.VH 0=⟨n1.dK.ops,n1.dK.dP++[0],false⟩:=by unfold Proc.VH;rw [if_pos hb1]
  simp only [Node.done,he];refine⟨⟨ab3 I1.dK hb1,I1.aT,I1.eF,I1.home,λh=> absurd hd1 h,?_⟩,R1,F,?_⟩
  ·have:=I1.clk;simp only [zaq,zah,zam];omega
  ·simp only [zaq,zah,zam];exact JU (p:=n1.dK) hb1 rfl
 rw [if_neg c1];by_cases c2:o.bf=4
 ·rw [if_pos c2];exact lift (zi I1 R1 F ⟨by decide,by decide⟩ O.lo O.hi hb1 λh=> absurd rfl h)
 rw [if_neg c2];by_cases c3:(n1.aT.find (c.dS o.addr)).isSome=true/\(o.bf=1∨((n1.aT.find (c.dS o.addr)).getD .zero).fB=true)
 ·rw [if_pos c3];obtain⟨e,he⟩:=zc4.1 c3.1;have T:=I1.aT.touch he;have hf:=Vg I1.aT.aW he;refine lift ?_;obtain⟨e2,he2⟩:∃e2:Ent,e2={ e with used:=n1.aT.dD+1 }:=⟨_,rfl⟩
  rw [<-he2] at hf;have hnn:({ aT:=n1.aT.touch (c.dS o.addr),dK:={ ops:=n.dK.ops,dP:=n.dK.dP,gK:=true },home:=n.home,dO:=n.dO,num:=n.num }:Node)={ n1 with aT:=n1.aT.touch (c.dS o.addr) }:=by rw [hn1]
  have hE:=Oe (me:=me) (t:=t1) (n:={ n1 with aT:=n1.aT.touch (c.dS o.addr) }) (e:=e2) ho1 hb1 hf;obtain⟨p1,p2⟩:=Ie (n:={ n1 with aT:=n1.aT.touch (c.dS o.addr) }) T Rr.2 hf;rw [hnn,hE];refine⟨⟨ab3 I1.dK hb1,p1,I1.eF,I1.home,λh=> absurd hd1 h,?_⟩,R1,F,?_⟩
  ·have:=I1.clk;have hk:=EZ I1.aT.aW he;simp only [zaq,zah,zam];rw [p2];show(n1.aT.touch _).dD<=_;omega
  ·simp only [zaq,zah,zam];exact JU (p:=n1.dK) hb1 rfl
 rw [if_neg c3];by_cases c4:n1.aT.full (c.dS o.addr)=true
 ·rw [if_pos c4];have hset:n1.aT.uG (c.dS o.addr)≠[]:=by
   intro e;unfold Cache.full at c4;simp only [e,zam,zaj,decide_eq_true_eq] at c4;have:=(wO hc).2.2.2.2.1;rw [I1.aT.ways] at c4;omega
  obtain⟨e,he⟩:∃e,zT (n1.aT.uG (c.dS o.addr))=some e:=by
   cases h:n1.aT.uG (c.dS o.addr) with
   | nil=> exact absurd h hset
   | cons a l=> exact⟨_,rfl⟩
  have hv:n1.aT.qU (c.dS o.addr)=some e.aB:=by unfold Cache.qU;rw [he];rfl
  have hem:e∈n1.aT.l:=by
   have:=(LX he).1;unfold Cache.uG at this;exact(zbt.1 this).1
  have E:=I1.aT.ent e hem;rw [hv];simp only [zat];exact lift (zi I1 R1 F ⟨by decide,by decide⟩ E.lo E.hi hb1 λh=> absurd rfl h)
 rw [if_neg c4];have c4':n1.aT.full (c.dS o.addr)=false:=by simpa using c4
 by_cases c5:o.bf=1
 ·rw [if_pos c5];exact lift (zi I1 R1 F ⟨by decide,by decide⟩ O.lo O.hi hb1 λ_=> ⟨⟨o,ho1,rfl,λ_=> c5,λh=> by omega⟩,c4'⟩)
 ·rw [if_neg c5];have k1:=O.k1;have k4:=O.k4;exact lift (zi I1 R1 F ⟨by decide,by decide⟩ O.lo O.hi hb1 λ_=> ⟨⟨o,ho1,rfl,λh=> by omega,λ_=> by omega⟩,c4'⟩)
theorem ZB(hc:c.ok=true)(I:UH c me n)(R:wG c me n.home)(F:uJ c f){p:Pkt}(Q:wC c p):aeC c me n t ((n.asked c me f p).1,(n.asked c me f p).2,t):=by
 unfold Node.asked;by_cases hk:p.bf=1∨p.bf=2
 ·rw [if_pos hk];have h3:=Vo hc I.home R p;have hr:=QB (c:=c) (me:=me) I.eF Q.num;have hok:=Vp hc R I.eF p;cases hA:n.home.handle c me p with
  | mk h x=>
   rw [hA] at h3 hr hok;obtain⟨out,ok,e⟩:=x;simp only at h3 hr hok ⊢;refine⟨⟨I.dK,I.aT,hr,h3.1,λhs=> ?_,I.clk⟩,h3.2,?_,rfl⟩
   ·have D:=I.dO hs;exact⟨D.lo,D.hi,D.bf,D.dat,D.afi,D.roll,λa b=> by have W:=D.work a b;exact⟨W.gK,W.op,W.full⟩,D.rest⟩
   ·simp only;split
    ·exact F.send hok
    ·exact F
 ·rw [if_neg hk];obtain⟨i1,i2,i3,i4⟩:=Zo I.aT p;cases hA:fP n.aT p with
  | mk ca x=>
   rw [hA] at i1 i2 i3 i4;obtain⟨out,e⟩:=x;simp only at i1 i2 i3 i4 ⊢;refine⟨⟨I.dK,i1,I.eF,I.home,λhs=> ?_,by simp only;rw [i3];exact I.clk⟩,R,?_,rfl⟩
   ·have D:=I.dO hs;exact⟨D.lo,D.hi,D.bf,D.dat,D.afi,D.roll,λa b=> by have W:=D.work a b;exact⟨W.gK,W.op,i4 _ hc W.full⟩,D.rest⟩
   ·simp only;split
    ·exact F.send i2
    ·exact F
theorem ab5(hc:c.ok=true)(I:UH c me n)(R:wG c me n.home)(F:uJ c f):aeC c me n t (n.step c me f t).1:=by
 unfold Node.step;obtain⟨t1,t2⟩:=F.take me false;cases h1:f.take me false with
 | mk f' x=>
  rw [h1] at t1 t2;cases x with
  | some p=> exact Og hc I R t1 (t2 p rfl)
  | none=>
   simp only;by_cases hg:n.home.ready≠[]/\f.roomOf me false≠0
   ·rw [if_pos hg];obtain⟨g3,g4⟩:=ZA I.home R;refine⟨⟨I.dK,I.aT,?_,g3,λhs=> ?_,I.clk⟩,g4,F.send ?_,rfl⟩
    ·have:(n.home.grant me).1.eF=n.home.eF:=by
      unfold Home.grant;cases n.home.ready with
      | nil=> rfl
      | cons aB l=>
       simp only;cases n.home.bV.next aB with
       | mk tt w=> cases w <;> rfl
     simp only;rw [this];exact I.eF
    ·have D:=I.dO hs;exact⟨D.lo,D.hi,D.bf,D.dat,D.afi,D.roll,λa b=> by have W:=D.work a b;exact⟨W.gK,W.op,W.full⟩,D.rest⟩
    ·unfold Home.grant;cases hr:n.home.ready with
     | nil=> exact absurd hr hg.1
     | cons aB l=>
      have hm:=(En hr).2.2;have hh:yw c me aB=true:=by
       obtain⟨e,he,rfl⟩:=zaS.1 hm;exact I.home.here e he
      simp only;cases n.home.bV.next aB with
      | mk tt w=>
       cases w with
       | none=> exact vW rfl (by simp [Pkt.zero])
       | some w=> exact E8 R I.eF hh _ _
   ·rw [if_neg hg];obtain⟨u1,u2⟩:=F.take me true;cases hx:(if f.roomOf me false=0 then(f,none) else f.take me true:Fab × Option Pkt) with
    | mk f2 y=>
     cases y with
     | some p=>
      simp only;have ht:f.take me true=(f2,some p):=by
       split at hx
       ·cases hx
       ·exact hx
      rw [ht] at u1 u2;exact ZB hc I R u1 (u2 p rfl)
     | none=>
      simp only;cases hcu:n.dK.cur with
      | none=> exact⟨I,R,F,rfl⟩
      | some o=>
       simp only;by_cases hd:n.dO.step=0
       ·rw [if_pos hd];exact ab4 hc I R F hcu hd
       ·rw [if_neg hd];exact⟨I,R,F,rfl⟩
end
def ab6(m:dG):Prop:=∀(i:Nat) n,m.aP[i]?=some n->wG m.c i n.home
theorem ZC {m:dG}(I:ahe m)(R:ab6 m)(i:Int):ahe (m.step i).1/\ab6 (m.step i).1:=by
 unfold dG.step dG.bn;by_cases h0:0<=i
 ·rw [if_pos h0];cases hn:m.aP[i.toNat]? with
  | none=> exact⟨I,R⟩
  | some n=>
   have hi:=(zak.1 hn).1;have hii:((i.toNat:Nat):Int)=i:=by omega
   have NI:=I.bn i.toNat n hn;have NR:=R i.toNat n hn;rw [hii] at NI NR;have b1:=ab5 (t:=m.trace) I.ok NI NR I.fab;simp only;generalize n.step m.c i m.fab m.trace=r at b1;obtain⟨⟨n',f',t'⟩,k⟩:=r;refine⟨⟨I.ok,by simp only [zbV];exact I.len,b1.fab,λj a ha=> ?_,?_⟩,λj a ha=> ?_⟩
   ·simp only at ha ⊢;by_cases hj:j=i.toNat
    ·subst hj;rw [zcb hi] at ha;cases ha;rw [hii];exact b1.inv
    ·rw [zcm (λe=> hj e.symm)] at ha;exact I.bn j a ha
   ·have e1:=Zp Node.evs (a':=n') hn;have e2:=b1.evs;have e3:=I.evs;simp only at e2 ⊢;omega
   ·simp only at ha ⊢;by_cases hj:j=i.toNat
    ·subst hj;rw [zcb hi] at ha;cases ha;rw [hii];exact b1.eF
    ·rw [zcm (λe=> hj e.symm)] at ha;exact R j a ha
 ·rw [if_neg h0];exact⟨I,R⟩
theorem Oh {m:dG}(I:ahe m)(a b k:Int):ahe (m.deliver a b k).1:=⟨I.ok,I.len,I.fab.deliver a b k,I.bn,I.evs⟩
def DX(f:Fab):Prop:=∀p∈f.l,∀q,q∈p.rq∨q∈p.an->f.is q.dst=true
theorem alQ(f:Fab)(i:Int)(p:Port)(k:Int):(f.put i p).is k=f.is k:=by
 unfold Fab.is Fab.put;simp
theorem DX.put {f:Fab}(D:DX f)(i:Int){p:Port}(h:∀q,q∈p.rq∨q∈p.an->f.is q.dst=true):DX (f.put i p):=by
 intro x hx q hq;rw [alQ];unfold Fab.put at hx;rcases zcn hx with hx | rfl
 ·exact D x hx q hq
 ·exact h q hq
theorem DX.at {f:Fab}(D:DX f)(i:Int):∀q,q∈(f.port i).rq∨q∈(f.port i).an->f.is q.dst=true:=by
 intro q hq;unfold Fab.port at hq;rw [zaJ] at hq;cases h:f.l[i.toNat]? with
 | none=> rw [h] at hq;simp [Port.zero] at hq
 | some p=> rw [h] at hq;exact D p (zaw h) q hq
theorem DX.send {f:Fab}(D:DX f)(p:Pkt):DX (f.send p).1:=by
 unfold Fab.send;split
 ·exact D
 ·rename_i hc;split
  ·exact D
  ·refine D.put _ λq hq=> ?_;have hd:f.is p.dst=true:=by
    cases h:f.is p.dst with
    | true=> rfl
    | false=> simp [h] at hc
   cases hk:Ef p.bf with
   | true=>
    rw [hk] at hq;simp only [Port.nD,Port.sort,if_true,za3,zaM] at hq;rcases hq with(hq | rfl) | hq
    ·exact D.at _ q (.inl hq)
    ·exact hd
    ·exact D.at _ q (.inr hq)
   | false=>
    rw [hk] at hq;simp only [Port.nD,Port.sort,zal,if_false,za3,zaM] at hq;rcases hq with hq | hq | rfl
    ·exact D.at _ q (.inl hq)
    ·exact D.at _ q (.inr hq)
    ·exact hd
theorem DX.nN {f:Fab}(D:DX f)(i:Int)(req:Bool)(l:List Pkt):DX (f.put i ((f.port i).nN req l)):=by
 refine D.put _ λq hq=> D.at i q ?_;cases req <;> exact hq
theorem DX.take {f:Fab}(D:DX f)(i:Int)(req:Bool):DX (f.take i req).1:=by
 unfold Fab.take;split
 ·split
  ·exact D
  ·exact D.nN _ _ _
 ·exact D
theorem DX.remove {f:Fab}(D:DX f)(k:Nat):DX (f.remove k):=by
 unfold Fab.remove;split
 ·refine D.put _ λq hq=> ?_;rename_i i req k' _;refine D.at i q ?_;cases req with
  | true=>
   simp only [Port.drop,Port.nD,Port.sort,if_true] at hq;exact hq.imp List.mem_of_mem_eraseIdx id
  | false=>
   simp only [Port.drop,Port.nD,Port.sort,zal,if_false] at hq;exact hq.imp id List.mem_of_mem_eraseIdx
 ·exact D
theorem DX.deliver {f:Fab}(D:DX f)(a b k:Int):DX (f.deliver a b k).1:=by
 unfold Fab.deliver;split
 ·exact D
 split
 ·exact D
 split
 ·exact D
 split
 ·exact D
 ·exact(D.nN _ _ _).remove _
theorem DX.all {f:Fab}(D:DX f):∀p∈f.all,f.is p.dst=true:=by
 intro p hp;unfold Fab.all at hp;obtain⟨q,hq,hp⟩:=zbd.1 hp;rcases za3.1 hp with hp | hp
 ·exact D q hq p (.inl hp)
 ·exact D q hq p (.inr hp)
theorem DX.new(c:Cfg):DX (.new c):=by
 intro p hp q hq;rw [Fab.new,zdz] at hp;rw [hp.2] at hq;simp [Port.zero] at hq
theorem zk(c:Cfg)(me aB:Int):∀n:Nat,jM (c.nG me n) aB=if 0<=aB/\aB < n/\c.fA aB=me then some ⟨0,-1,c.first aB⟩ else none
 | 0=> by
  have:¬(0<=aB/\aB < ((0:Nat):Int)/\c.fA aB=me):=by omega
  rw [if_neg this];rfl
 | n+1=> by
  simp only [Cfg.nG];by_cases h:c.fA n=me
  ·rw [if_pos h,oM,zk c me aB n];by_cases e:(n:Int)=aB
   ·subst e;rw [if_pos rfl,if_pos ⟨by omega,by omega,h⟩]
   ·rw [if_neg e];by_cases h2:0<=aB/\aB < n/\c.fA aB=me
    ·rw [if_pos h2,if_pos ⟨h2.1,by omega,h2.2.2⟩]
    ·rw [if_neg h2,if_neg (λh3=> h2 ⟨h3.1,by omega,h3.2.2⟩)]
  ·rw [if_neg h,zk c me aB n];by_cases h2:0<=aB/\aB < n/\c.fA aB=me
   ·rw [if_pos h2,if_pos ⟨h2.1,by omega,h2.2.2⟩]
   ·rw [if_neg h2,if_neg (λh3=> h2 ⟨h3.1,(by
     have:aB≠n:=λe=> h (by rw [<-e];exact h3.2.2);omega),h3.2.2⟩)]
structure NX(T:Nat)(n:Node):Prop where
 VN:0<=n.num
 num1:n.num < 4096
 dat:n.dO.data.length<=4
 ws:∀aB,(n.home.bV.ws aB).length<=T
theorem NX.mono {T T':Nat}{n:Node}(h:NX T n)(hT:T<=T'):NX T' n:=⟨h.VN,h.num1,h.dat,λl=> zas (h.ws l) hT⟩
section
variable {d:dF}{ca:Cache}{p:Pkt}{me:Int}
theorem TP(hc:∀e∈ca.l,e.data.length<=4){aB:Int}{e:Ent}(h:ca.find aB=some e):e.data.length<=4:=by
 unfold Cache.find at h;exact hc e (zbh h)
theorem ZE(hd:d.data.length<=4)(hp:p.data.length<=4):(dN d me ca p).2.1.data.length<=4:=by
 unfold dN wB
 repeat' split
 all_goals first
  | exact hd
  | exact hp
  | exact zaV _
  | (show List.length (if _ then _ else _)<=4;split <;> first | exact hp | exact zaV _)
theorem BA(hd:d.data.length<=4):(bP d me ca).2.data.length<=4:=by
 unfold bP;simp only
 repeat' split
 all_goals first
  | exact hd
  | exact zaV _
theorem ab7(hc:∀e∈ca.l,e.data.length<=4)(hd:d.data.length<=4)(hp:p.data.length<=4):(dM d me ca p).2.1.data.length<=4:=by
 unfold dM wB;split
 ·exact zaV _
 split
 ·refine BA ?_;cases h:ca.find d.aB with
  | none=> exact hp
  | some e=> exact TP hc h
 split
 ·refine BA ?_;cases h:ca.find d.aB with
  | none=> exact hp
  | some e=> exact hd
 split
 ·exact hd
 ·exact zaV _
theorem agR(hc:∀e∈ca.l,e.data.length<=4)(hd:d.data.length<=4):(dX d ca p).2.1.data.length<=4:=by
 unfold dX wB ig;split
 ·exact zaV _
 split
 ·simp only;split
  ·exact zaV _
  ·rename_i e h;split
   ·show List.length (if e.fB=true then e.data else [])<=4;split
    ·exact TP hc h
    ·exact zaV _
   ·split <;> exact zaV _
 repeat' split
 all_goals first
  | exact hd
  | exact zaV _
end
section
variable {T:Nat}{n:Node}{c:Cfg}{me:Int}{f:Fab}{t:List Evn}
theorem ZF(h:NX T n)(v:Int):NX T (n.done me t v).1:=⟨h.VN,h.num1,h.dat,h.ws⟩
theorem Oi(h:NX T n):NX T (n.effect c me t).1:=⟨h.VN,h.num1,h.dat,h.ws⟩
theorem Dj(h:NX T n)(bf aB:Int):NX T (n.begin_ c me f bf aB).1:=by
 have h0:=h.VN;have h1:(n.num+1).tmod 4096=(n.num+1) % 4096:=zbB (by omega);refine⟨?_,?_,zaV _,h.ws⟩
 ·show 0<=(n.num+1).tmod 4096;omega
 ·show(n.num+1).tmod 4096 < 4096;omega
theorem Dk {n:Node}(h:DX f)(bf aB:Int):DX (n.begin_ c me f bf aB).2:=h.send _
theorem ZG {n:Node}(h:DX f):DX (n.ail c me f):=h.send _
theorem ab8(hc:∀e∈n.aT.l,e.data.length<=4)(h:NX T n){p:Pkt}(hp:p.data.length<=4):(n.after me p).2.1.data.length<=4:=by
 unfold Node.after wB
 repeat' split
 ·exact ZE h.dat hp
 ·exact ab7 hc h.dat hp
 ·exact agR hc h.dat
 ·exact zaV _
theorem Vr(hc:∀e∈n.aT.l,e.data.length<=4)(h:NX T n)(D:DX f){p:Pkt}(hp:p.data.length<=4):NX T (n.answered c me f t p).1/\DX (n.answered c me f t p).2.1:=by
 have hd:=ab8 (me:=me) hc h hp;unfold Node.answered;split;rename_i ca d ok e;rw [e] at hd;have h1:NX T { n with aT:=ca,dO:=d }:=⟨h.VN,h.num1,hd,h.ws⟩
 split
 ·exact⟨⟨h.VN,h.num1,h.dat,h.ws⟩,D⟩
 ·simp only;split
  ·split
   ·exact⟨ZF (me:=me) (t:=t) h1 0,D⟩
   ·exact⟨h1,D⟩
  ·split
   ·exact⟨Oi (c:=c) (me:=me) (t:=t) h1,ZG D⟩
   ·exact⟨h1,ZG D⟩
theorem aeD {t:Turns}(h:∀aB,(t.ws aB).length<=T)(aB who id:Int):∀l,((t.ask aB who id).1.ws l).length<=T+1:=by
 intro l;unfold Turns.ask;split
 ·exact zbD (h l)
 split
 ·unfold Turns.ws;simp only;rw [oM];split
  ·rw [zat,zaq];exact Nat.succ_le_succ (h aB)
  ·exact zbD (h l)
 ·exact zbD (h l)
theorem Vs {t:Turns}(h:∀aB,(t.ws aB).length<=T)(aB who:Int):∀l,((t.release aB who).1.ws l).length<=T:=by
 intro l;unfold Turns.release;split <;> exact h l
theorem agS {t:Turns}(h:∀aB,(t.ws aB).length<=T)(aB:Int):∀l,((t.next aB).1.ws l).length<=T:=by
 intro l;unfold Turns.next
 split
 ·exact h l
 split
 ·exact h l
 ·rename_i w ws e;have hh:=h aB;rw [e] at hh;unfold Turns.ws;simp only;rw [oM];split
  ·rw [zat];exact Nat.le_of_succ_le hh
  ·exact h l
theorem ZH {hm:Home}(h:∀aB,(hm.bV.ws aB).length<=T)(p:Pkt):∀l,((hm.handle c me p).1.bV.ws l).length<=T+1:=by
 have h':∀l,(hm.bV.ws l).length<=T+1:=λl=> zbD (h l);unfold Home.handle;split
 ·exact h'
 split
 ·exact h'
 split
 ·simp only;split
  ·exact aeD h _ _ _
  ·exact aeD h _ _ _
 ·have hu:∀l,((hm.unlock c p).1.bV.ws l).length<=T+1:=by
   unfold Home.unlock;split
   ·exact h'
   ·simp only;generalize iY c hm.eF p.aB p.state p.ptr (if p.flag then p.data else [])=r;split
    ·exact λl=> zbD (Vs h _ _ l)
    ·exact h'
  simp only;split <;> exact hu
theorem ab9 {hm:Home}(h:∀aB,(hm.bV.ws aB).length<=T):∀l,((hm.grant me).1.bV.ws l).length<=T:=by
 unfold Home.grant;split
 ·exact h
 ·rename_i aB _ _;have hn:=agS h aB;split
  ·rename_i e;rw [e] at hn;exact hn
  ·exact h
theorem agT(h:NX T n)(D:DX f)(p:Pkt):NX (T+1) (n.asked c me f p).1/\DX (n.asked c me f p).2:=by
 unfold Node.asked;split
 ·have hw:=ZH (c:=c) (me:=me) h.ws p;split;rename_i hm out ok e he;rw [he] at hw;refine⟨⟨h.VN,h.num1,h.dat,hw⟩,?_⟩;simp only;split
  ·exact D.send _
  ·exact D
 ·split;refine⟨⟨h.VN,h.num1,h.dat,λl=> zbD (h.ws l)⟩,?_⟩;simp only;split
  ·exact D.send _
  ·exact D
theorem alR(h:NX T n)(D:DX f)(o:Opn):NX T (n.work c me f t o).1/\DX (n.work c me f t o).2.1:=by
 have h1:NX T { n with dK:={ n.dK with gK:=true } }:=⟨h.VN,h.num1,h.dat,h.ws⟩
 unfold Node.work;simp only;split
 ·exact⟨ZF (me:=me) (t:=t) h1 0,D⟩
 split
 ·exact⟨Dj (c:=c) (me:=me) (f:=f) h1 _ _,Dk D _ _⟩
 split
 ·exact⟨Oi (c:=c) (me:=me) (t:=if n.dK.gK then t else t++[⟨me,n.dK.dP.length,false,0⟩]) ⟨h.VN,h.num1,h.dat,h.ws⟩,D⟩
 split
 ·exact⟨Dj (c:=c) (me:=me) (f:=f) h1 _ _,Dk D _ _⟩
 split
 ·exact⟨Dj (c:=c) (me:=me) (f:=f) h1 _ _,Dk D _ _⟩
 ·exact⟨Dj (c:=c) (me:=me) (f:=f) h1 _ _,Dk D _ _⟩
theorem aeE(hc:∀e∈n.aT.l,e.data.length<=4)(hf:∀i req p,(f.take i req).2=some p->p.data.length<=4)(h:NX T n)(D:DX f):NX (T+1) (n.step c me f t).1.1/\DX (n.step c me f t).1.2.1:=by
 have h':=h.mono (za8 T);unfold Node.step;split
 ·rename_i f' p e;have D':=D.take me false;have hp:=hf me false p (by rw [e]);rw [e] at D';obtain⟨a,b⟩:=Vr (c:=c) (me:=me) (t:=t) hc h' D' hp;exact⟨a,b⟩
 ·split
  ·exact⟨⟨h.VN,h.num1,h.dat,λl=> zbD (ab9 h.ws l)⟩,D.send _⟩
  ·split
   ·rename_i f' p e;have D':DX f':=by
     split at e
     ·cases e
     ·have:=D.take me true;rw [e] at this;exact this
    exact agT h D' p
   ·split
    ·split
     ·exact alR h' D _
     ·exact⟨h',D⟩
    ·exact⟨h',D⟩
end
structure MX(T:Nat)(m:dG):Prop where
 inv:ahe m
 eF:ab6 m
 dst:DX m.fab
 bn:∀(i:Nat) n,m.aP[i]?=some n->NX T n
theorem MX.mono {T T':Nat}{m:dG}(h:MX T m)(hT:T<=T'):MX T' m:=⟨h.inv,h.eF,h.dst,λi n hn=> (h.bn i n hn).mono hT⟩
theorem Cb.le {c:Cfg}(hc:c.ok=true){ca:Cache}(I:Cb c ca):∀e∈ca.l,e.data.length<=4:=by
 intro e he;have h1:=(I.ent e he).dat;have h2:=(wO hc).2.2.1;have:=h1.1;omega
theorem MX.step {T:Nat}{m:dG}(X:MX T m)(i:Int):MX (T+1) (m.step i).1:=by
 obtain⟨h1,h2⟩:=ZC X.inv X.eF i;refine⟨h1,h2,?_,?_⟩
 ·unfold dG.step;split
  ·exact X.dst
  ·rename_i n hn;split;rename_i n' f t k e;unfold dG.bn at hn;split at hn
   ·rename_i hi;have NI:=X.inv.bn _ n hn;have:=(aeE (c:=m.c) (me:=i) (t:=m.trace) (NI.aT.le X.inv.ok) (λi req p hp=> by
     have:=((X.inv.fab.take i req).2 p hp).ok;simp only [Pkt.ok,zaj,decide_eq_true_eq] at this;omega) (X.bn _ n hn) X.dst).2
    rw [e] at this;exact this
   ·cases hn
 ·intro j n hj;unfold dG.step at hj;split at hj
  ·exact(X.bn j n hj).mono (za8 T)
  ·rename_i n0 hn;split at hj;rename_i n' f t k e;unfold dG.bn at hn;split at hn
   ·rename_i hi;simp only at hj;rw [zcJ] at hj;split at hj
    ·split at hj
     ·cases hj;have NI:=X.inv.bn _ n0 hn;have:=(aeE (c:=m.c) (me:=i) (t:=m.trace) (NI.aT.le X.inv.ok) (λi req p hp=> by
       have:=((X.inv.fab.take i req).2 p hp).ok;simp only [Pkt.ok,zaj,decide_eq_true_eq] at this;omega) (X.bn _ n0 hn) X.dst).1
      rw [e] at this;exact this
     ·cases hj
    ·exact(X.bn j n hj).mono (za8 T)
   ·cases hn
theorem MX.deliver {T:Nat}{m:dG}(X:MX T m)(a b k:Int):MX T (m.deliver a b k).1:=by
 exact⟨Oh X.inv a b k,X.eF,X.dst.deliver a b k,X.bn⟩
theorem MX.do_ {T:Nat}{m:dG}(X:MX T m)(p:Pck):MX (T+1) (m.do_ p).1:=by
 unfold dG.do_;split
 ·exact(X.deliver _ _ _).mono (za8 T)
 ·exact X.step _
theorem ZI {c:Cfg}(hc:c.ok=true)(ps:List (List Opn)):ab6 (.new c ps):=λi n hn aB hl=> by
 simp only [dG.new,za1,zbM] at hn;obtain⟨l,_,rfl⟩:=hn;unfold yw at hl;simp only [zaj,decide_eq_true_eq] at hl;have h1:=(wO hc).1;have h2:aB < c.aW:=hl.1.2;refine⟨⟨0,-1,c.first aB⟩,?_⟩;show jM (c.nG i c.aW.toNat) aB=_;rw [zk,if_pos ⟨hl.1.1,by omega,by unfold Cfg.fA AY;rw [if_neg (by omega)];exact hl.2⟩]
theorem aoy {g:bg}{x y:Nat}{A B:List Cell}(k:Nat)(h:g x=some A)(h':g y=some B)(hl:A[k]?≠B[k]?):x≠y:=λe=> by
 subst e;rw [h] at h';exact hl (by rw [zaX h'])
def agU(A:Adr)(k n:Nat)(q:Nat):Prop:=(∃i s,i < k/\s < 6/\q=A.N i s)∨J6 A.P n q∨q=A.trace
section
variable {b:Nat}{H:ah}{g g':bg}{A:Adr}{m:dG}{T:Nat}
theorem ZJ {m:dG}(I:ahe m):m.trace.length<=1000:=by
 have B:=uN I.ok;have hl:=I.len;have:∀(l:List Node),(∀n∈l,Node.evs n<=49)->(l.map Node.evs).sum<=49*l.length:=by
  intro l
  induction l with
  | nil=> intro _;simp
  | cons n l ih=>
   intro h;have h1:=h n (by simp);have h2:=ih λx hx=> h x (by simp [hx]);simp only [zaC,zcV,zah];omega
 have h1:=this m.aP λn hn=> by
  obtain⟨i,hi⟩:=List.mem_iff_getElem?.1 hn;have P:=(I.bn i n hi).dK;have:=P.most;have:=P.vals;unfold Node.evs;split <;> omega
 rw [I.evs];have:=B.aP;omega
def aoz(A:Adr)(i:Nat):OJ:=⟨A.N i,A.fab,A.P,A.trace⟩
theorem fZ.nw(M:fZ g A m){i:Nat}{n:Node}(hi:m.aP[i]?=some n):NW g (aoz A i) m.c i (n,m.fab,m.trace):=⟨M.bn i n hi,M.fab,M.trace,M.UY,M.tf⟩
theorem fZ.ZK(M:fZ g A m){q:Nat}(h:agU A m.aP.length m.fab.l.length q):A.jc≠q:=by
 have hm:=M.jc;rcases h with⟨i,s,hi,hs,rfl⟩ | ⟨i,s,hi,hs,rfl⟩ | rfl
 ·obtain⟨n,hn⟩:∃n,m.aP[i]?=some n:=⟨_,zab hi⟩
  obtain⟨h0,h1,h2,h3,h4,h5⟩:=M.bn i n hn;have l11:(nI A m.c m.aP.length).length=11:=by simp [nI,yT,Cfg.av]
  match s,hs with
  | 0,_=> exact iW hm h0 (by rw [l11];simp only [gu];decide)
  | 1,_=> exact iW hm h1 (by rw [l11];simp only [fF];decide)
  | 2,_=> exact iW hm h2 (by rw [l11];simp only [iD];decide)
  | 3,_=> exact aoy 10 hm h3 (by simp [nI,yT,Cfg.av,Ae])
  | 4,_=> exact iW hm h4 (by rw [l11];simp only [jF];decide)
  | 5,_=> exact iW hm h5 (by rw [l11];simp only [fG];decide)
 ·exact iW hm (gJ (M.fab.port hi) hs) (by simp [nI,yT,Cfg.av,lQ])
 ·exact iW hm M.trace (by simp [nI,yT,Cfg.av,kH])
theorem acd(G:Good b H g)(hb:H.base<=b)(M:fZ g A m)(X:MX T m)(hT:T < 999000){i:Nat}{n:Node}(hi:m.aP[i]?=some n):
  ∃H' g',cl 18 [.ref (A.N i 0) 0 0,.ref A.fab 0 0,.ref A.trace 0 0] H=some (I (m.step i).2,H')/\Good b H' g'/\fZ g' A (m.step i).1/\Off (agU A m.aP.length m.fab.l.length) g g'/\Step b H H':=by
 have N:=M.nw hi;have NX:=X.bn i n hi;have NI:=X.inv.bn i n hi;have hil:i < m.aP.length:=(zak.1 hi).1;have W:=Walk.of G hb N;obtain⟨K',g',e1,W'⟩:=abZ W X.inv.ok X.inv.fab NI ⟨NX.VN,by have:=NX.num1;show n.num < 1000000;omega⟩ (by have:=ZJ X.inv;show m.trace.length < 999999;omega) (by have:=NX.dat;show n.dO.data.length < 1000000000;omega) (λaB=> by have:=NX.ws aB;show(n.home.bV.ws aB).length < 1000000;omega);have hst:m.step i=({ m with aP:=m.aP.set i (n.step m.c i m.fab m.trace).1.1,fab:=(n.step m.c i m.fab m.trace).1.2.1,trace:=(n.step m.c i m.fab m.trace).1.2.2 },(n.step m.c i m.fab m.trace).2):=by
  unfold dG.step dG.bn;rw [if_pos (by omega),zao,hi]
 rw [hst];have hO:Off (aeA (aoz A i) m.fab.l.length) g g':=W'.off;have hsub:∀q,aeA (aoz A i) m.fab.l.length q->agU A m.aP.length m.fab.l.length q:=by
  rintro q (⟨s,hs,rfl⟩ | h | rfl)
  ·exact .inl ⟨i,s,hil,hs,rfl⟩
  ·exact .inr (.inl h)
  ·exact .inr (.inr rfl)
 have hN':=W'.nw;have hlen':=W'.len;refine⟨K',g',e1,W'.loc.out,⟨?_,hN'.tr,hN'.fab,λj n' hj=> ?_,?_,?_,M.tf⟩,hO.mono hsub,W'.step⟩
 ·show g' A.jc=some (nI A m.c (m.aP.set i _).length);rw [zbV,hO A.jc λh=> M.ZK (hsub _ h) rfl];exact M.jc
 ·simp only at hj;by_cases hij:i=j
  ·subst hij;rw [zcb hil] at hj;cases hj;exact hN'.bn
  ·rw [zcm hij] at hj;have hjl:j < m.aP.length:=(zak.1 hj).1;have Nj:=M.nw hj;refine(M.bn j n' hj).ext λs hs=> hO _ ?_;rintro(⟨t,ht,e⟩ | h | e)
   ·exact hij (M.aoh _ _ _ _ hjl hil hs ht e).1.symm
   ·exact(Nj.Vf h).1 s hs rfl
   ·exact Nj.Zl s hs e
 ·show Qk A.P _;have:(n.step m.c i m.fab m.trace).1.2.1.l.length=m.fab.l.length:=hlen';rw [this];exact M.UY
 ·show ahd A.N (m.aP.set i _).length;rw [zbV];exact M.aoh
theorem QE(G:Good b H g)(hb:H.base<=b)(M:fZ g A m)(X:MX T m){at_ bit mask:Int}(h64:BZ at_)(hbit:BZ bit)(m0:0<=mask)(m1:mask<=65535):
  ∃H' g',cl 16 [.ref A.fab 0 0,I at_,I bit,.s (.int .u16 mask)] H=some (I (m.deliver at_ bit mask).2,H')/\Good b H' g'/\fZ g' A (m.deliver at_ bit mask).1/\Off (agU A m.aP.length m.fab.l.length) g g'/\Step b H H':=by
 have B:=uN X.inv.ok;have h0:m.fab.l.length≠0:=by have:=X.inv.fab.len;have:=B.aP;omega
 obtain⟨H',g',e1,G',F',O',S'⟩:=Vm G hb M.fab M.UY (fok X.inv.ok X.inv.fab) h0 (λp hp=> ⟨⟨(X.inv.fab.pkt hp).ok,(X.inv.fab.pkt hp).num⟩,X.dst.all p hp⟩) h64 hbit m0 m1;have hsub:∀q,J6 A.P m.fab.l.length q->agU A m.aP.length m.fab.l.length q:=λq h=> .inr (.inl h);have hlen:(m.fab.deliver at_ bit mask).1.l.length=m.fab.l.length:=by
  have h1:=(X.inv.fab.deliver at_ bit mask).len;have h2:=X.inv.fab.len;omega
 refine⟨H',g',e1,G',⟨?_,?_,F',λj n' hj=> ?_,?_,M.aoh,M.tf⟩,O'.mono hsub,S'⟩
 ·rw [O' A.jc λh=> M.ZK (hsub _ h) rfl];exact M.jc
 ·rw [O' A.trace λ⟨i,s,hi,hs,e⟩=> by
   have:=gJ (M.fab.port hi) hs;exact iW M.trace this (by simp [kH,lQ]) e]
  exact M.trace
 ·exact(M.bn j n' hj).ext λs hs=> O' _ λh=> ((M.nw hj).Vf h).1 s hs rfl
 ·show Qk A.P (m.fab.deliver at_ bit mask).1.l.length;rw [hlen];exact M.UY
theorem aoA(G:Good b H g)(hb:H.base<=b)(M:fZ g A m)(X:MX T m)(hT:T < 999000)(p:Pck)(h64:BZ p.at_)(hbit:BZ p.bit)(m0:0<=p.mask)(m1:p.mask<=65535):
  ∃H' g',cl 5 [.ref A.jc 0 0,.agg p.av] H=some (B (m.do_ p).2,H')/\Good b H' g'/\fZ g' A (m.do_ p).1/\Off (agU A m.aP.length m.fab.l.length) g g'/\Step b H H':=by
 let H1:=H.new (.blk 0 35 p.av);have G1:Good b H1 g:=G.new _;have g1:H1.get H.next=.blk 0 35 p.av:=aJ rfl
 have l0:ld (.ref H.next 0 0) H1=some (B p.deliver,H1):=by rw [dR g1];rfl
 have l1:ld (.ref H.next 0 1) H1=some (I p.at_,H1):=by rw [dR g1];rfl
 have l2:ld (.ref H.next 0 2) H1=some (I p.bit,H1):=by rw [dR g1];rfl
 have l3:ld (.ref H.next 0 3) H1=some (.s (.int .u16 p.mask),H1):=by rw [dR g1];rfl
 have f0:=G1.load M.jc (i:=0) (x:=.ref A.fab 0 0) rfl;have f1:=G1.load M.jc (i:=1) (x:=.ref A.trace 0 0) rfl;have S1:Step b H H1:=Step.new _ G.1;have hb1:H1.base<=b:=by simp only [H1,iC];exact hb
 have B:=uN X.inv.ok;cases hd:p.deliver with
 | true=>
  rw [hd] at l0;obtain⟨H',g',e1,G',M',O',S'⟩:=QE G1 hb1 M X h64 hbit m0 m1;have hdo:m.do_ p=((m.deliver p.at_ p.bit p.mask).1,decide ((m.deliver p.at_ p.bit p.mask).2=0)):=by
   unfold dG.do_;rw [hd];rfl
  rw [hdo];refine⟨H',g',aX rfl rfl (amT _ _ _ _ ?_),G',M',O',S1.trans S'⟩;simp only [H1] at l0 l1 l2 l3 f0 f1 e1;simp only [Nat.reduceLT,xq_,hq_,amc,aC (Ed p),l0,l1,l2,l3,f0,e1]
 | false=>
  rw [hd] at l0;have hdo:m.do_ p=((m.step p.at_).1,decide ((m.step p.at_).2≠0)):=by
   unfold dG.do_;rw [hd];rfl
  rw [hdo];have e0:=Df G1 M (by have:=X.inv.len;have:=B.aP;omega) p.at_;by_cases hi:0<=p.at_/\p.at_ < m.aP.length
  ·rw [if_pos hi] at e0;obtain⟨i,hii⟩:∃i:Nat,p.at_=i:=⟨p.at_.toNat,by omega⟩
   rw [hii] at e0 hi l1;rw [hii];rw [zao] at e0;obtain⟨n,hn⟩:∃n,m.aP[i]?=some n:=⟨_,zab (by omega)⟩
   obtain⟨H',g',e1,G',M',O',S'⟩:=acd G1 hb1 M X hT hn;refine⟨H',g',aX rfl rfl (amT _ _ _ _ ?_),G',M',O',S1.trans S'⟩;have nn:bi .neq 51 (.ref (A.N i 0) 0 0) zP=some (.s (.bool true)):=by kernel_rfl
   simp only [H1] at l0 l1 f0 f1 e0 e1;simp only [Nat.reduceLT,xq_,hq_,amc,aC (Ed p),l0,l1,f0,f1,e0,nn,e1];simp
  ·rw [if_neg hi] at e0;have hst:m.step p.at_=(m,0):=by
    unfold dG.step dG.bn;by_cases h0:0<=p.at_
    ·rw [if_pos h0,zaK (by omega)]
    ·rw [if_neg h0]
   rw [hst];refine⟨H1,g,aX rfl rfl (amT _ _ _ _ ?_),G1,M,Off.refl _ _,S1⟩;have nn:bi .neq 51 zP zP=some (.s (.bool false)):=by kernel_rfl
   simp only [H1] at l0 l1 e0;simp only [Nat.reduceLT,xq_,hq_,amc,aC (Ed p),l0,l1,e0,nn]
   try rfl
end
theorem TQ:BZ 0:=⟨by decide,by decide⟩
theorem ace {c:Cfg}(hc:c.ok=true)(hi:∀z∈c.init,BZ z){aB:Int}(h:0<=aB/\aB < c.aW):nO c (c.first aB):=by
 have B:=uN hc;have hw:=B.aQ;unfold Cfg.first
 rw [if_neg (by omega)];refine⟨by rw [zax,zcK];omega,λv hv=> ?_⟩;obtain⟨j,_,rfl⟩:=zaS.1 hv;rw [zaJ];cases e:c.init[(aB*c.aQ).toNat+j]? with
 | none=> exact⟨by decide,by decide⟩
 | some x=> exact hi x (zaw e)
theorem E9(c:Cfg)(me:Int):∀n:Nat,∀e∈c.nG me n,0<=e.1/\e.1 < n/\e.2.data=c.first e.1
 | 0,e,h=> by cases h
 | n+1,e,h=> by
  simp only [Cfg.nG] at h;have ih:=E9 c me n;split at h
  ·have key:∀(l:List (Int × Row)) (k:Int) (x:Row),e∈nC l k x->e∈l∨(e.1=k/\e.2=x):=by
    intro l
    induction l with
    | nil=>
     intro k x hx;simp only [nC,zaM] at hx;right;rw [hx];exact⟨rfl,rfl⟩
    | cons a l ih=>
     obtain⟨k',v⟩:=a;intro k x hx;simp only [nC] at hx;split at hx
     ·rename_i hk;rcases zar.1 hx with rfl | hx
      ·exact .inr ⟨by first | rfl | exact hk | exact hk.symm,rfl⟩
      ·exact .inl (zbH _ hx)
     ·rcases zar.1 hx with rfl | hx
      ·exact .inl (List.mem_cons_self ..)
      ·rcases ih k x hx with hx | hx
       ·exact .inl (zbH _ hx)
       ·exact .inr hx
   rcases key _ _ _ h with h | ⟨h1,h2⟩
   ·have:=ih e h;exact⟨this.1,by omega,this.2.2⟩
   ·exact⟨by omega,by omega,by rw [h2,h1]⟩
  ·have:=ih e h;exact⟨this.1,by omega,this.2.2⟩
theorem aeF {c:Cfg}(hc:c.ok=true)(hi:∀z∈c.init,BZ z){ps:List (List Opn)}(hp:c.mF ps=true)(hv:∀l∈ps,∀o∈l,c.right o=true/\I64 o.value):MX 0 (.new c ps):=by
 have B:=uN hc;have hn:=B.aP;have hb:=B.aW;obtain⟨h1,h2⟩:=yU hp;refine⟨⟨hc,?_,?_,λi n hn=> ?_,?_⟩,ZI hc ps,DX.new c,λi n hn=> ?_⟩
 ·simp only [dG.new,zcg];exact h1
 ·refine⟨rfl,rfl,?_,λp hp=> ?_⟩
  ·simp only [dG.new,Fab.new,za6];omega
  ·simp only [dG.new,Fab.new,zdz] at hp;rw [hp.2];have:=B.out;have:=B.inn;refine⟨by show((0:Nat):Int)<=c.out;omega,by show((0:Nat):Int)<=c.out;omega,by show((0:Nat):Int)<=c.inn;omega,by show((0:Nat):Int)<=1;omega,λq hq=> by simp [Port.zero] at hq⟩
 ·simp only [dG.new,za1,zbM] at hn;obtain⟨l,hl,rfl⟩:=hn;have hm:=zaw hl;refine⟨⟨h2 l hm,hv l hm,zaV _,λh=> by cases h⟩,⟨rfl,rfl,List.Pairwise.nil,List.Pairwise.nil,λe he=> (by cases he),λaB=> ?_,zby 0⟩,λe he=> ?_,⟨⟨List.Pairwise.nil,λe he=> (by cases he),List.Pairwise.nil,λe he=> (by cases he)⟩,λe he=> (by cases he)⟩,λh=> absurd rfl h,zby 0⟩
  ·have:=B.ways;show(([]:List Ent).length:Int)<=c.ways;simp;omega
  ·obtain⟨r1,r2,r3⟩:=E9 c i _ e he;rw [r3];exact ace hc hi ⟨r1,by omega⟩
 ·have:∀n∈(dG.new c ps).aP,Node.evs n=0:=by
   intro n hn;simp only [dG.new,List.mem_mapIdx] at hn;obtain⟨i,hi,rfl⟩:=hn;rfl
  have h0:∀l:List Node,(∀n∈l,Node.evs n=0)->(l.map Node.evs).sum=0:=by
   intro l
   induction l with
   | nil=> intro _;rfl
   | cons n l ih=>
    intro h;rw [zaC,zcV,h n (by simp),ih λx hx=> h x (by simp [hx])]
  rw [h0 _ this];rfl
 ·simp only [dG.new,za1,zbM] at hn;obtain⟨l,hl,rfl⟩:=hn;exact⟨zby 0,by show(0:Int) < 4096;decide,zaV _,λaB=> zac 0⟩
section
variable {b:Nat}{H:ah}{g:bg}{A:Adr}{m:dG}{T:Nat}
theorem MX.fine(X:MX T m):m.fine:=by
 have I:=X.inv;have B:=uN I.ok;have h1:=I.len;have h2:=I.fab.len;have acf:∀p∈m.fab.l,p.rq.length < 1000/\p.an.length < 1000/\p.rin.length < 1000/\p.ain.length < 1000:=λp hp=> by
  have P:=I.fab.port p hp;have:=P.rq;have:=P.an;have:=P.rin;have:=P.ain;have:=B.out;have:=B.inn;omega
 have hn:∀n∈m.aP,NX T n/\∃i:Nat,UH m.c i n:=λn hn=> by
  obtain⟨i,hi⟩:=List.mem_iff_getElem?.1 hn;exact⟨X.bn i n hi,i,I.bn i n hi⟩
 refine⟨I.ok,h1,by omega,λn hm=> ?_,λl hl=> ?_,λn hm=> ?_,λp hp=> ⟨(acf p hp).2.2.1,(acf p hp).2.2.2⟩⟩
 ·obtain⟨_,i,NI⟩:=hn n hm;have:=NI.dK.most;have:=NI.dK.vals;omega
 ·unfold Fab.kR at hl;obtain⟨p,hp,hl⟩:=zbd.1 hl;simp only [zar,zaH,or_false] at hl;rcases hl with rfl | rfl
  ·exact(acf p hp).1
  ·exact(acf p hp).2.1
 ·have:=(hn n hm).1.dat;omega
theorem mM(G:Good b H g)(M:fZ g A m)(hc:m.c.ok=true):cl 20 [.ref A.jc 0 0] H=some (.agg m.c.av,H):=by
 have B:=uN hc;refine aV rfl rfl (am3 _ _ _) ?_ (agf _);have l1:=λo=> (G.guard.new o).loads M.jc (i:=2) (n:=8) (xs:=m.c.av) (by simp [nI,yT,Cfg.av]) rfl (by decide);have e1:=λH=> jy H m.c.init (by have:=B.init;have:=B.iF;omega);have hav:m.c.av=[I m.c.aP,I m.c.aW,I m.c.aQ,I m.c.sets,I m.c.ways,I m.c.out,I m.c.inn,dat m.c.init]:=rfl;have cc:(AV.agg m.c.av).cells=m.c.av:=rfl;have lc:m.c.av.length=8:=rfl;have l7:m.c.av[7]?=some (dat m.c.init):=rfl;have all:=eu m.c;rw [hav] at l1 all ⊢;simp only [Nat.reduceAdd,aG,xq_,hq_,aiy,l1,e1,all]
end
structure QF(b:Nat)(H:ah)(g:bg)(A:Adr)(m:dG)(T:Nat):Prop where
 good:Good b H g
 base:H.base<=b
 jc:fZ g A m
 keep:MX T m
section
variable {b:Nat}{H:ah}{g:bg}{A:Adr}{m:dG}{T:Nat}
theorem QF.new(R:QF b H g A m T)(o:fD):QF b (H.new o) g A m T:=⟨R.good.new o,by rw [iC];exact R.base,R.jc,R.keep⟩
theorem QF.do_(R:QF b H g A m T)(hT:T < 999000)(p:Pck)(h64:BZ p.at_)(hbit:BZ p.bit)(m0:0<=p.mask)(m1:p.mask<=65535):
  ∃H' g',cl 5 [.ref A.jc 0 0,.agg p.av] H=some (B (m.do_ p).2,H')/\QF b H' g' A (m.do_ p).1 (T+1)/\Off (agU A m.aP.length m.fab.l.length) g g'/\Step b H H':=by
 obtain⟨H',g',e,G,M,O,S⟩:=aoA R.good R.base R.jc R.keep hT p h64 hbit m0 m1;exact⟨H',g',e,⟨G,by rw [S.base];exact R.base,M,R.keep.do_ p⟩,O,S⟩
end
theorem JV:∀(n:Nat) (l:List Nat),l.Nodup->(∀x∈l,x < n)->l.length<=n
 | 0,[],_,_=> zac _
 | 0,x::l,_,h=> absurd (h x (by simp)) (Nat.not_lt_zero x)
 | n+1,l,hn,h=> by
  by_cases hm:n∈l
  ·have h1:=JV n (l.erase n) (hn.erase n) λx hx=> by
    have h2:=(hn.mem_erase_iff).1 hx;have:=h x h2.2;have:=h2.1;omega
   rw [zc3 hm] at h1;omega
  ·have:=JV n l hn λx hx=> by
    have:=h x hx;have:x≠n:=λe=> hm (by rw [<-e];exact hx);omega
   omega
theorem acg {c:Cfg}(hc:c.ok=true){ca:Cache}(I:Cb c ca):ca.l.length<=12:=by
 have h8:=(wO hc).2.1;have h:=JV 8 (ca.l.map λe=> e.aB.toNat) (by
  unfold List.Nodup;rw [zb1];refine I.aW.imp_of_mem λ{a b} ha hb hab e=> hab ?_;have:=(I.ent a ha).lo;have:=(I.ent b hb).lo;omega) λx hx=> by
   obtain⟨e,he,rfl⟩:=zaS.1 hx;have:=(I.ent e he).lo;have:=(I.ent e he).hi;omega
 rw [zax] at h;omega
abbrev aeG:=Int->Option Ent
def hdI:List Int->Int->Int
 | [],x=> x
 | i::_,_=> i
def Chn(E:aeG):Int->List Int->Int->Prop
 | _,[],_=> True
 | b,i::l,x=> (∃e,E i=some e/\e.back=b/\e.fwd=hdI l x)/\Chn E i l x
theorem Chn.mem {E:aeG}:∀{l:List Int} {b x:Int},Chn E b l x->∀j∈l,∃e,E j=some e
 | i::l,_,_,⟨⟨e,h1,_⟩,hc⟩,j,hj=> by
  rcases zar.1 hj with rfl | h
  ·exact⟨e,h1⟩
  ·exact Chn.mem hc j h
def Rng(N:Int)(l:List Int):Prop:=l.Nodup/\∀i∈l,0<=i/\i < N
structure Wf(N:Int)(E:aeG)(r:Row)(v:List Int)(l:List Int):Prop where
 rng:Rng N l
 ch:Chn E (-1) l (-1)
 mem:∀i e,E i=some e->i∈l
 head:r.head=hdI l (-1)
 st:r.state=0∨r.state=1∨r.state=2
 st0:r.state=0↔l=[]
 st2:r.state=2->∃i,l=[i]
 fB:∀i e,E i=some e->(e.fB=true↔r.state=2)
 data:∀i e,E i=some e->e.data=v
 aoB:r.state≠2->r.data=v
inductive Out where
 | idle
 | req (p:Pkt)
 | wait
 | ans (p:Pkt)
structure Abs where
 ent:Int->aeG
 row:Int->Row
 own:Int->Int
 ws:Int->List (Int × Int)
 dO:Int->dF
 msg:Int->Out
 val:Int->List Int
def loc(s:Int):Out->Nat
 | .idle=> 0
 | .req _=> 3
 | .wait=> 2
 | .ans _=> if s=3 then 4 else 1
def dG.kZ(m:dG)(L:Int):aeG:=λj=> (m.bn j).bind λn=> n.aT.find L
def dG.Vt(m:dG)(L:Int):Home:=match m.bn (m.c.fA L) with
 | some n=> n.home
 | none=> ⟨[],⟨[],[]⟩⟩
theorem Vu {c:Cfg}(hc:c.ok=true){L:Int}(hL:0<=L):0<=c.fA L/\c.fA L < c.aP:=by
 obtain⟨h1,_⟩:=wO hc;unfold Cfg.fA AY;rw [if_neg (by omega)];exact⟨zcF _ (by omega),zc2 _ (by omega)⟩
def dG.isL(m:dG)(L:Int):Bool:=decide (0<=L) && decide (L < m.c.aW)
def dG.ids(m:dG):List Int:=(List.range m.aP.length).map λi:Nat=> (i:Int)
def dG.copies(m:dG)(L:Int):List Int:=m.ids.filter λi=> (m.kZ L i).isSome && m.isL L
def dG.tX(m:dG)(L:Int):Row:=oL (m.Vt L).eF L
def rD(E:aeG):Nat->Int->List Int->Option (List Int)
 | 0,_,_=> none
 | k+1,at_,out=> if at_=-1 then some out else match E at_ with
  | none=> none
  | some e=> if at_∈out then none else rD E k e.fwd (out++[at_])
def dG.walk(m:dG)(L:Int):Option (List Int):=if m.isL L=true then rD (m.kZ L) (m.aP.length+1) (m.tX L).head [] else none
def dG.owner(m:dG)(L:Int):Int:=if m.isL L=true then(m.Vt L).bV.owner L else -1
def Fa:List Ent->Bool
 | [e]=> e.fB
 | _=> false
def vX(r:Row)(l:List Ent):Bool:=
 if r.state=0 then decide (l=[]) else if r.state=1 then decide (l≠[]) && !l.any (λe=> e.fB || decide (e.data≠r.data)) else
 Fa l
def tN(E:aeG):Int->List Int->Option (List Ent)
 | _,[]=> some []
 | b,i::l=> if((E i).getD .zero).back≠b then none else(tN E i l).map λes=> (E i).getD .zero::es
def dG.Fb(m:dG)(L:Int):Bool:=
 if m.isL L=false then true else match m.walk L with
 | none=> false
 | some w=> if srt [] w≠m.copies L then false else match tN (m.kZ L) (-1) w with
  | none=> false
  | some es=> vX (m.tX L) es
def dG.single(m:dG)(L:Int):Bool:=!(m.copies L).any (λi=> ((m.kZ L i).getD .zero).fB) || decide ((m.copies L).length=1)
def dG.zl(m:dG)(L:Int)(w:List Int):Bool:=
 (m.copies L).all (λi=> decide (((m.kZ L i).getD .zero).data=w)) && (decide ((m.tX L).state=2) || decide (m.owner L≠-1) || decide ((m.tX L).data=w))
section
variable {E:aeG}{N:Int}
theorem TS:∀{k:Nat} {a:Int} {out w:List Int},rD E k a out=some w->out.Nodup->(∀i∈out,∃e,E i=some e)->w.Nodup/\∀i∈w,∃e,E i=some e
 | 0,_,_,_,h,_,_=> by cases h
 | k+1,a,out,w,h,hn,he=> by
  unfold rD at h;split at h
  ·cases h;exact⟨hn,he⟩
  ·split at h
   ·cases h
   ·rename_i e h1;split at h
    ·cases h
    ·rename_i h2;refine TS h (zcI.2 ⟨hn,by simp,λx hx y hy=> ?_⟩) λi hi=> ?_
     ·rw [zaM.1 hy];intro e;exact h2 (e ▸ hx)
     ·rcases za3.1 hi with h' | h'
      ·exact he i h'
      ·rw [zaM.1 h'];exact⟨e,h1⟩
theorem Oj:∀{l:List Int} {k:Nat} {b:Int} {out:List Int},Chn E b l (-1)->(∀i∈l,i≠-1)->(out++l).Nodup->l.length < k->rD E k (hdI l (-1)) out=some (out++l)
 | [],0,_,_,_,_,_,h=> by simp at h
 | [],k+1,_,_,_,_,_,_=> by simp [rD,hdI]
 | i::l,0,_,_,_,_,_,h=> by simp at h
 | i::l,k+1,b,out,⟨⟨e,h1,_,h3⟩,hc⟩,hn,hd,hk=> by
  have hi:=hn i (by simp);have hm:i∉out:=λh=> (zcI.1 hd).2.2 i h i (by simp) rfl;show rD E (k+1) i out=_;unfold rD;rw [if_neg hi];simp only [h1];rw [if_neg hm,h3,Oj hc (λj hj=> hn j (by simp [hj])) (by simpa using hd) (by simpa using hk)];simp
theorem Ig:∀{l:List Int} {b x:Int},Chn E b l x->tN E b l=some (l.map λi=> (E i).getD .zero)
 | [],_,_,_=> rfl
 | i::l,b,x,⟨⟨e,h1,h2,_⟩,hc⟩=> by
  unfold tN;rw [h1,zat,if_neg (by simp [h2]),Ig hc];simp [h1]
end
section
variable {b:Nat}{H:ah}{g:bg}{A:Adr}{m:dG}{T:Nat}
structure aoC(n:Node):Prop where
 aT:n.aT.l.length < 1000000
 ents:∀e∈n.aT.l,e.data.length < 1000000000
 eF:∀e∈n.home.eF,e.2.data.length < 1000000000
theorem MX.ZL(X:MX T m){i:Nat}{n:Node}(hn:m.aP[i]?=some n):aoC n:=by
 have I:=X.inv.bn i n hn;have h1:=acg X.inv.ok I.aT;have h2:=I.aT.le X.inv.ok;refine⟨by omega,λe he=> by have:=h2 e he;omega,λe he=> ?_⟩;have:=(I.eF e he).1;have:=(wO X.inv.ok).2.2.1;omega
theorem MX.len(X:MX T m):(m.aP.length:Int)=m.c.aP/\m.aP.length < 1000:=by
 have:=X.inv.len;have:=(uN X.inv.ok).aP;omega
theorem TT(G:Good b H g)(M:fZ g A m)(X:MX T m)(L:Int):cl 56 [.ref A.jc 0 0,I L] H=some (B (m.isL L),H):=by
 refine aV rfl rfl (anv _ _ _ _) ?_ dQ;have e1:=mM G.guard M X.inv.ok;have l1:m.c.av[1]?=some (I m.c.aW):=rfl;unfold dG.isL;by_cases h0:0<=L
 ·simp only [xq_,afI,h0,e1,l1,zaI]
 ·simp only [xq_,afI,h0,zaL]
theorem ZM(X:MX T m){L:Int}(h:m.isL L=true):0<=m.c.fA L/\m.c.fA L < m.aP.length/\0<=L/\L < m.c.aW:=by
 unfold dG.isL at h;simp only [zaj,decide_eq_true_eq] at h;have B_:=(uN X.inv.ok).aP;have hl:=X.inv.len;unfold Cfg.fA AY;rw [if_neg (by omega)];have h1:=zcF L (by omega:m.c.aP≠0);have h2:=zc2 L (by omega:0 < m.c.aP);omega
theorem JW(G:Good b H g)(M:fZ g A m)(X:MX T m){L:Int}(h:m.isL L=true):∃n,m.aP[(m.c.fA L).toNat]?=some n/\m.Vt L=n.home/\cl 17 [.ref A.jc 0 0,I (m.c.fA L)] H=some (.ref (A.N (m.c.fA L).toNat 0) 0 0,H):=by
 obtain⟨h0,h1,_,_⟩:=ZM X h;obtain⟨n,hn⟩:∃n,m.aP[(m.c.fA L).toNat]?=some n:=⟨_,zab (by omega)⟩
 have e:=Df G M X.len.2 (m.c.fA L);rw [if_pos ⟨h0,h1⟩] at e;refine⟨n,hn,?_,e⟩;unfold dG.Vt dG.bn;rw [if_pos h0,hn]
theorem TU {i:Int}{L:Int}{n:Node}(h0:0<=i)(hn:m.aP[i.toNat]?=some n):m.kZ L i=n.aT.find L:=by
 unfold dG.kZ dG.bn;rw [if_pos h0,hn];rfl
theorem agV {i:Int}{L:Int}(h:¬(0<=i/\i < m.aP.length)):m.kZ L i=none:=by
 unfold dG.kZ dG.bn;by_cases h0:0<=i
 ·rw [if_pos h0,zaK (by omega)];rfl
 ·rw [if_neg h0];rfl
theorem QG(G:Good b H g)(M:fZ g A m)(X:MX T m){L:Int}(h:m.isL L=true):cl 63 [.ref A.jc 0 0,I L] H=some (.agg (m.tX L).av,H):=by
 refine aV rfl rfl (anB _ _ _ _) ?_ (lI (Ql _));let H1:=H.guard.new (.blk 0 130 [zI,zI,zN]);have G1:Good b H1 g:=G.guard.new _;obtain⟨n,hn,hh,e3⟩:=JW G1 M X h;have e1:=mM G1 M X.inv.ok;have e2:=uO H1 m.c X.inv.ok L;have N:=M.bn _ n hn;have e4:=agh G1 N (X.ZL hn).eF L;rw [<-hh] at e4;have e5:oL (m.Vt L).eF L=m.tX L:=rfl;rw [e5] at e4;simp only [H1] at e1 e2 e3 e4;simp only [Nat.reduceAdd,aG,xq_,hq_,ai3,e1,e2,e3,e4]
 try rfl
theorem Ol(G:Good b H g)(M:fZ g A m)(X:MX T m)(L:Int):cl 22 [.ref A.jc 0 0,I L] H=some (I (m.owner L),H):=by
 refine aV rfl rfl (am5 _ _ _ _) ?_ dQ;have e0:=TT G.guard M X L;unfold dG.owner;cases h:m.isL L with
 | false=>
  rw [h] at e0;simp only [Int.reduceNeg,xq_,afr,e0,zaf]
 | true=>
  rw [h] at e0;obtain⟨n,hn,hh,e3⟩:=JW G.guard M X h;have e1:=mM G.guard M X.inv.ok;have e2:=uO H.guard m.c X.inv.ok L;have e4:=YQ G.guard (M.bn _ n hn) L;rw [<-hh] at e4;simp only [Int.reduceNeg,xq_,afr,e0,zad,e1,e2,e3,e4]
theorem Dl(G:Good b H g)(M:fZ g A m)(X:MX T m)(i L:Int):cl 55 [.ref A.jc 0 0,I i,I L] H=some (iV (m.kZ L i),H):=by
 refine aV rfl rfl (anu _ _ _ _ _) ?_ (G9 _);let H1:=H.guard.new (.blk 0 117 [zI,zI,zI,zI,zB,zN]);have G1:Good b H1 g:=G.guard.new _;have e3:=Df G1 M X.len.2 i;by_cases hi:0<=i/\i < m.aP.length
 ·obtain⟨n,hn⟩:∃n,m.aP[i.toNat]?=some n:=⟨_,zab (by omega)⟩
  rw [if_pos hi] at e3;have N:=M.bn _ n hn;have l1:=G1.load N.1 (i:=0) (x:=.ref (A.N i.toNat 1) 0 0) rfl;have e4:=lM G1 N.2.1 (X.ZL hn).aT (X.ZL hn).ents L;rw [<-TU hi.1 hn] at e4;have z1:bi .eql 51 (.ref (A.N i.toNat 0) 0 0) zP=some (B false):=by kernel_rfl
  simp only [H1,iV] at l1 e3 e4;simp only [Nat.reduceAdd,aG,xq_,hq_,afH,e3,z1,l1,e4,iV,Ent.av]
  try rfl
 ·rw [if_neg hi] at e3;have z1:bi .eql 51 zP zP=some (B true):=by kernel_rfl
  rw [agV hi];simp only [H1] at e3;simp only [Nat.reduceAdd,aG,xq_,hq_,afH,e3,z1,WW,jo,dH,iV,qh,zaT,zaB]
  try rfl
def Dn(b:Nat)(H:ah)(x:AV)(l:List Int):Prop:=Own b H x 1 (l.map I)/\(l=[]->x=zN)
theorem Dn.nil(b:Nat)(H:ah):Dn b H zN []:=⟨.inl ⟨rfl,rfl⟩,λ_=> rfl⟩
theorem Dn.freeze {n:Nat}{H:ah}{x:AV}{l:List Int}(O:Dn n H x l):bF H n 9 x=some (dat l):=by
 by_cases h:l=[]
 ·rw [O.2 h,h,dat,gB];exact jg
 ·rw [qW h];exact vU O.1 (by decide) (by simp) (λy hy=> vS _ y hy _ _) λe=> h (zan e)
theorem Dn.new {n:Nat}{H:ah}{x:AV}{l:List Int}(O:Dn n H x l)(o:fD):Dn n (H.new o) x l:=⟨O.1.new o,O.2⟩
theorem Dn.push {n:Nat}{H:ah}{x:AV}{l:List Int}(O:Dn n H x l)(hn:n<=H.next)(hb:H.base<=n)(hl:l.length < 1000)(v:Int):
  ∃y K,bs 22 1 [(0,I v)] H=some (.sl H.next 0 0 1 1 1 true,H.new (.blk 0 3 [I v]))/\app 3 1 8 x (.sl H.next 0 0 1 1 1 true) (H.new (.blk 0 3 [I v]))=some (y,K)/\Dn n K y (l++[v])/\Step n H K/\∀r,r < H.next->iP x≠some r->K.get r=H.get r:=by
 have O1:=O.1.new (.blk 0 3 [I v]);have hx:aH (H.new (.blk 0 3 [I v])) (.sl H.next 0 0 1 1 1 true) 1 1 [I v]:=jI rfl;have h1:l.length+1<=most:=by unfold most;omega
 have h2:(l.length+1)*8<=most:=by unfold most;omega
 obtain⟨y,K,c1,c2,c3⟩:=O1.step (n:=l.length) (k:=1) (e:=3) (by_:=8) (by rw [dL];omega) (by rw [iC];exact hb) (by decide) (by rw [zax,zbi]) hx rfl h1 h2;obtain⟨y2,K2,d1,_,_,_,d5⟩:=O1.app (n:=l.length) (k:=1) (e:=3) (by_:=8) (by rw [iC];exact hb) (by decide) (by rw [zax,zbi]) hx rfl h1 h2;rw [c1] at d1;cases d1;exact⟨y,K,(LD (by decide)).trans (gZ rfl rfl rfl),c1,⟨by rw [zbr];exact c2,λh=> by simp at h⟩,(Step.new _ hn).trans c3,λr hr hne=> (d5 r (by rw [dL];omega) hne).trans (aS hr)⟩
def qp(m:dG)(L:Int)(j:Nat):List Int:=((List.range j).map λi:Nat=> (i:Int)).filter λi=> (m.kZ L i).isSome && m.isL L
theorem uY(m:dG)(L:Int):qp m L m.aP.length=m.copies L:=rfl
theorem JX(m:dG)(L:Int)(j:Nat):qp m L (j+1)=qp m L j++if((m.kZ L j).isSome && m.isL L)=true then [(j:Int)] else []:=by
 unfold qp;rw [zch,zbr,zcc]
 congr 1
 simp only [zaC,zbG,zbP,List.filter_nil]
theorem vY(m:dG)(L:Int)(j:Nat):(qp m L j).length<=j:=by
 unfold qp;refine zas (zbS _ _) ?_;simp
theorem Aw(G:Good b H g)(M:fZ g A m)(X:MX T m)(L:Int):cl 52 [.ref A.jc 0 0,I L] H=some (dat (m.copies L),H):=by
 have hl:=X.len;have key:∀k j,j+k=m.aP.length->∀(H1:ah) (x:AV),Step H.next H.guard H1->Dn H.next H1 x (qp m L j)->
   ∃H2 y,Ey cl [.ref A.jc 0 0,I L,x,I m.c.aP,I j] H1=some (y,H2)/\Dn H.next H2 y (m.copies L):=by
  intro k
  induction k with
  | zero=>
   intro j hj H1 x s O;have hlt:¬(j:Int) < m.c.aP:=by omega
   obtain rfl:j=m.aP.length:=by omega
   refine⟨H1,x,?_,O⟩;rw [Qa];simp only [xq_,hlt]
  | succ k ih=>
   intro j hj H1 x s O;have hlt:(j:Int) < m.c.aP:=by omega
   have G1:Good b H1 g:=G.guard.ext s.next s.low
   have hb1:H1.base=H.next:=s.base
   have hn1:H.next<=H1.next:=s.next
   obtain⟨n,hn⟩:∃n,m.aP[j]?=some n:=⟨_,zab (by omega)⟩
   have e3:=Df G1 M hl.2 (j:Int);rw [if_pos (by omega),zao] at e3;have N:=M.bn _ n hn;have l1:=G1.load N.1 (i:=0) (x:=.ref (A.N j 1) 0 0) rfl;have e4:=lM G1 N.2.1 (X.ZL hn).aT (X.ZL hn).ents L;rw [<-TU (i:=(j:Int)) (by omega) (by rw [zao];exact hn)] at e4;let H3:=H1.new (.blk 0 117 ((m.kZ L j).getD .zero).av);have G3:Good b H3 g:=G1.new _;have e5:=TT G3 M X L;have h6:(j:Int)+1=((j+1:Nat):Int):=by omega
   have h7:=wrap_i64 (a:=((j+1:Nat):Int)) (by omega) (by omega);have O3:Dn H.next H3 x (qp m L j):=O.new _
   have s3:Step H.next H.guard H3:=s.trans (Step.new _ hn1)
   have hbn:H1.base<=H1.next:=by omega
   have st6:st 6 (.ref H1.next 0 0) (.agg ((m.kZ L j).getD .zero).av) (H1.new (.blk 0 117 [zI,zI,zI,zI,zB,zN]))=some (aO,H3):=by
    rw [lS rfl];simp only [Nat.reduceAdd,aG,xq_,hq_,Ent.av,hbn];rfl
   have hcl:=JX m L j;cases hs:(m.kZ L j).isSome && m.isL L with
   | false=>
    rw [hs,if_neg (by decide),zbb] at hcl;obtain⟨H2,y,r,O2⟩:=ih (j+1) (by omega) H3 x s3 (by rw [hcl];exact O3);refine⟨H2,y,?_,O2⟩;rw [Qa];cases hi:(m.kZ L j).isSome with
    | false=>
     rw [iV,hi] at e4;simp only [xq_,hlt,e3,l1,e4,st6,Ez,bI,h6,h7,r]
    | true=>
     rw [hi,zaI] at hs;rw [hs] at e5;rw [iV,hi] at e4;simp only [xq_,hlt,e3,l1,e4,st6,e5,Ez,bI,h6,h7,r]
   | true=>
    rw [hs,if_pos rfl] at hcl;obtain⟨hi,hL⟩:=(zaj _ _).mp hs;rw [hL] at e5;rw [iV,hi] at e4;have cl_:=vY m L j;obtain⟨y',H4,eb,c1,c2,c3,_⟩:=O3.push s3.next (by rw [s3.base];exact zac _) (by omega) (j:Int)
    rw [<-hcl] at c2;obtain⟨H2,y,r,O2⟩:=ih (j+1) (by omega) H4 y' (s3.trans c3) c2;refine⟨H2,y,?_,O2⟩;rw [Qa];simp only [xq_,hlt,e3,l1,e4,st6,e5,eb,c1,Ez,bI,h6,h7,r]
 obtain⟨H2,y,r,O⟩:=key m.aP.length 0 (by omega) H.guard zN (Step.refl _ _) (Dn.nil _ _)
 replace r:Ey cl [.ref A.jc 0 0,I L,zN,I m.c.aP,I 0] H.guard=some (y,H2):=r
 have e1:=mM G.guard M X.inv.ok;have l0:m.c.av[0]?=some (I m.c.aP):=rfl;refine iG rfl rfl (anq _ _ _ _ (r:=(y,H2)) ?_) O.freeze;simp only [xq_,aiX,e1,l0,r]
end
theorem zo {N:Nat}{l:List Int}(hn:l.Nodup)(h:∀i∈l,0<=i/\i < N):l.length<=N:=by
 have e:∀(n:Nat) (l:List Int),l.Nodup->(∀x∈l,0<=x/\x < n)->l.length<=n:=by
  intro n
  induction n with
  | zero=>
   intro l _ h;cases l with
   | nil=> simp
   | cons a l=> have:=h a (by simp);omega
  | succ n ih=>
   intro l hn h;have h1:=ih (l.filter λx=> decide (x < n)) (hn.filter _) λx hx=> by
    have h2:=zbt.1 hx;have:=h x h2.1;have:=of_decide_eq_true h2.2;omega
   by_cases hm:(n:Int)∈l
   ·have h1:=ih (l.erase (n:Int)) (hn.erase _) λx hx=> by
     have h2:=(hn.mem_erase_iff).1 hx;have:=h x h2.2;have:=h2.1;omega
    rw [zc3 hm] at h1;omega
   ·have:=ih l hn λx hx=> by
     have:=h x hx;have:x≠(n:Int):=λe=> hm (by rw [<-e];exact hx);omega
    omega
 exact e N l hn h
section
variable {m:dG}{L:Int}{v l:List Int}
theorem agW {i:Int}:i∈m.ids↔0<=i/\i < m.aP.length:=by
 unfold dG.ids;rw [zaS];constructor
 ·rintro⟨k,hk,rfl⟩;have:=zaY.1 hk;omega
 ·intro h;exact⟨i.toNat,zaY.2 (by omega),by omega⟩
theorem alS:m.ids.Pairwise (· < ·):=by
 unfold dG.ids;rw [zb1];exact(List.pairwise_lt_range).imp λh=> by omega
theorem Fe {i:Int}{e:Ent}(h:m.kZ L i=some e):0<=i/\i < m.aP.length:=by
 unfold dG.kZ dG.bn at h;split at h
 ·cases hg:m.aP[i.toNat]? with
  | none=> rw [hg] at h;cases h
  | some n=> have:=(zak.1 hg).1;omega
 ·cases h
theorem vZ(hL:m.isL L=true){i:Int}:i∈m.copies L↔∃e,m.kZ L i=some e:=by
 unfold dG.copies;rw [zbt,hL,zde,zc4];exact⟨λh=> h.2,λh=> ⟨agW.2 (Fe h.choose_spec),h⟩⟩
theorem Om:(m.copies L).Pairwise (· < ·):=alS.sublist List.filter_sublist
theorem Oo:(m.copies L).Nodup:=Om.imp λh=> by omega
theorem ZN {w:List Int}(h:m.walk L=some w):w.Nodup/\∀i∈w,i∈m.copies L:=by
 unfold dG.walk at h;split at h
 ·rename_i hL;obtain⟨h1,h2⟩:=TS h (by simp) (by simp);exact⟨h1,λi hi=> (vZ hL).2 (h2 i hi)⟩
 ·cases h
theorem agX(w:List Int):(srt [] w).length=w.length:=by
 have:=(vJ w [] (by simp)).1.length_eq
 simpa using this
theorem Wf.walk(W:Wf m.c.aP (m.kZ L) (m.tX L) v l)(hL:m.isL L=true):m.walk L=some l:=by
 unfold dG.walk;rw [if_pos hL,W.head];have:=Oj (k:=m.aP.length+1) (out:=[]) W.ch (λi hi=> by have:=(W.rng.2 i hi).1;omega) (by simpa using W.rng.1) (by
  have:=zo (N:=m.aP.length) W.rng.1 λi hi=> by
   obtain⟨e,he⟩:=Chn.mem W.ch i hi;exact Fe he
  omega)
 simpa using this
theorem Wf.perm(W:Wf m.c.aP (m.kZ L) (m.tX L) v l)(hL:m.isL L=true):l.Perm (m.copies L):=by
 refine(List.perm_ext_iff_of_nodup W.rng.1 Oo).2 λi=> ?_;rw [vZ hL];exact⟨Chn.mem W.ch i,λ⟨e,he⟩=> W.mem i e he⟩
theorem Wf.Fb(W:Wf m.c.aP (m.kZ L) (m.tX L) v l):m.Fb L=true:=by
 unfold dG.Fb;by_cases hL:m.isL L=true
 ·rw [if_neg (by simp [hL]),W.walk hL];simp only;have hs:srt [] l=m.copies L:=adp (W.perm hL) (Om.imp λh=> by omega);rw [if_neg (by simp [hs]),Ig W.ch];simp only;have hE:∀i∈l,∃e,m.kZ L i=some e:=Chn.mem W.ch;unfold vX;rcases W.st with h | h | h
  ·rw [if_pos h,W.st0.1 h];rfl
  ·have hl:l≠[]:=λe=> by have:=W.st0.2 e;omega
   rw [if_neg (by omega),if_pos h];have h1:(l.map λi=> (m.kZ L i).getD .zero).any (λe=> e.fB || decide (e.data≠(m.tX L).data))=false:=by
    rw [List.any_eq_false];intro e he;obtain⟨i,hi,rfl⟩:=zaS.1 he;obtain⟨e,he⟩:=hE i hi;rw [he,zat];have h2:=W.fB i e he;have h3:=W.data i e he;have h4:=W.aoB (by omega);have h5:e.fB=false:=by
     cases hd:e.fB with
     | false=> rfl
     | true=> have:=h2.1 hd;omega
    simp [h5,h3,h4]
   rw [h1];simp [hl]
  ·obtain⟨i,rfl⟩:=W.st2 h;obtain⟨e,he⟩:=hE i (by simp);rw [if_neg (by omega),if_neg (by omega)];simp only [zaC,zbG,he,zat];exact(W.fB i e he).2 h
 ·rw [if_pos (by simpa using hL)]
end
theorem ZO(H:ah){x:AV}{l:List Int}(hx:aH H x 1 l.length (l.map I))(hl:l.length < 1000000)(v:Int):∃z:Int,cl 115 [x,I v] H=some (I z,H)/\(0<=z↔v∈l):=by
 have hg:=hx.guard;have key:∀k i,i+k=l.length->∃z:Int,yJ cl [x,I v,I l.length,I i] H.guard=some (I z,H.guard)/\(0<=z↔v∈l.drop i):=by
  intro k
  induction k with
  | zero=>
   intro i hi;have h1:¬(i:Int) < l.length:=by omega
   refine⟨-1,?_,?_⟩
   ·rw [Jt];simp only [Int.reduceNeg,xq_,h1]
   ·rw [zaF (by omega)];simp
  | succ k ih=>
   intro i hi;have h1:(i:Int) < l.length:=by omega
   have h6:(i:Int)+1=((i+1:Nat):Int):=by omega
   have h7:=wrap_i64 (a:=((i+1:Nat):Int)) (by omega) (by omega);have s1:=hg.ix (k:=.i64) (i:=(i:Int)) (by omega) h1;rw [zao] at s1;have t1:=hg.ld (i:=i) (by omega);rw [zaD,zab (show i < l.length by omega)] at t1;have hd:l.drop i=l[i]::l.drop (i+1):=zaR (by omega);by_cases hv:v=l[i]
   ·refine⟨i,?_,by rw [hd,<-hv];simp⟩;rw [<-hv] at t1;rw [Jt];simp only [Int.reduceNeg,xq_,h1,s1,t1]
   ·obtain⟨z,r,hz⟩:=ih (i+1) (by omega);refine⟨z,?_,by rw [hz,hd,zar];simp [hv]⟩;rw [Jt];simp only [Int.reduceNeg,xq_,h1,s1,t1,hv,bI,h6,h7,r]
 obtain⟨z,r,hz⟩:=key l.length 0 (by omega)
 replace r:yJ cl [x,I v,I l.length,I 0] H.guard=some (I z,H.guard):=r
 have e1:=hg.lnS;refine⟨z,aV rfl rfl (ajP _ _ _ _) ?_ dQ,hz⟩;simp only [xq_,adF,e1,r]
theorem Oq(H:ah){x:AV}{l:List Int}(hx:aH H x 1 l.length (l.map I))(hl:l.length < 1000000)(v:Int):cl 67 [x,I v] H=some (B (decide (v∈l)),H):=by
 refine aV rfl rfl (anC _ _ _ _) ?_ dQ;obtain⟨z,e,hz⟩:=ZO H.guard hx.guard hl v;rw [show decide (v∈l)=decide (0<=z) by rw [decide_eq_decide];exact hz.symm];by_cases h0:0<=z
 ·simp only [xq_,afN,e,h0]
 ·simp only [xq_,afN,e,h0]
theorem zq(H:ah){x y:AV}{l l':List Int}(hx:aH H x 1 l.length (l.map I))(hy:aH H y 1 l'.length (l'.map I))(hl:l.length < 1000000)(hl':l'.length < 1000000):cl 59 [x,y] H=some (B (decide (l=l')),H):=by
 refine aV rfl rfl (anz _ _ _ _) ?_ dQ;have e1:=hx.guard.lnS;have e2:=hy.guard.lnS;by_cases hn:l.length=l'.length
 ·have key:∀k i,i+k=l.length->EC cl [x,y,I l.length,I i] H.guard=some (B (decide (l.drop i=l'.drop i)),H.guard):=by
   intro k
   induction k with
   | zero=>
    intro i hi;have h1:¬(i:Int) < l.length:=by omega
    rw [Qb,zaF (by omega),zaF (by omega)];simp only [xq_,h1]
   | succ k ih=>
    intro i hi;have h1:(i:Int) < l.length:=by omega
    have h6:(i:Int)+1=((i+1:Nat):Int):=by omega
    have h7:=wrap_i64 (a:=((i+1:Nat):Int)) (by omega) (by omega);have s1:=hx.guard.ix (k:=.i64) (i:=(i:Int)) (by omega) h1;have s2:=hy.guard.ix (k:=.i64) (i:=(i:Int)) (by omega) (by omega);rw [zao] at s1 s2;have t1:=hx.guard.ld (i:=i) (by omega);have t2:=hy.guard.ld (i:=i) (by omega);rw [zaD,zab (show i < l.length by omega)] at t1;rw [zaD,zab (show i < l'.length by omega)] at t2;have hd:l.drop i=l[i]::l.drop (i+1):=zaR (by omega);have hd':l'.drop i=l'[i]::l'.drop (i+1):=zaR (by omega);have r1:=ih (i+1) (by omega);rw [hd,hd'];by_cases hv:l[i]=l'[i]
    ·have hh:decide (l[i]::l.drop (i+1)=l'[i]::l'.drop (i+1))=decide (l.drop (i+1)=l'.drop (i+1)):=by
      rw [decide_eq_decide];exact⟨λe=> (List.cons.inj e).2,λe=> by rw [hv,e]⟩
     rw [hh,Qb];simp only [xq_,h1,s1,s2,t1,t2,hv,eq_self,zad,bI,h6,h7,r1]
    ·have hh:decide (l[i]::l.drop (i+1)=l'[i]::l'.drop (i+1))=false:=decide_eq_false λe=> hv (List.cons.inj e).1;rw [hh,Qb];simp only [xq_,h1,s1,s2,t1,t2,hv,zaf]
  have r1:=key l.length 0 (by omega)
  replace r1:EC cl [x,y,I l.length,I 0] H.guard=some (B (decide (l=l')),H.guard):=r1
  have hn':(l.length:Int)=(l'.length:Int):=by omega
  rw [<-hn'] at e2;simp only [xq_,afJ,e1,e2,eq_self,zad,r1]
 ·have hh:decide (l=l')=false:=decide_eq_false λe=> hn (by rw [e]);have hn':¬(l.length:Int)=(l'.length:Int):=by omega
  rw [hh];simp only [xq_,afJ,e1,e2,hn',zaf]
section
variable {b:Nat}{H:ah}{g:bg}{A:Adr}{m:dG}{T:Nat}
theorem Dn.is {n:Nat}{H:ah}{x:AV}{l:List Int}(O:Dn n H x l):aH H x 1 l.length (l.map I):=O.1.is (by decide) (by simp)
theorem BD {H:ah}{n d:Nat}{x v:AV}{z:Value}(h:bF H n (d+1) x=some v):bF H n (d+2) (.tup [x,.s z])=some (.tup [v,.s z]):=by
 have h2:bF H n (d+1) (.s z)=some (.s z):=jg;rw [bF];simp only [zbv,List.mapM_nil,h,h2,zbK,za0,zci,zai]
theorem Dn.agY {n:Nat}{H:ah}{x:AV}{l:List Int}(O:Dn n H x l):bF H n 8 x=some (dat l):=by
 by_cases h:l=[]
 ·rw [O.2 h,h,dat,gB];exact jg
 ·rw [qW h];exact vU O.1 (by decide) (by simp) (λy hy=> vS _ y hy _ _) λe=> h (zan e)
def aoD(o:Option (List Int)):AV:=.tup [dat (o.getD []),B o.isSome]
theorem agZ(G:Good b H g)(M:fZ g A m)(X:MX T m){L:Int}:∀k {a:Int} {out:List Int} {H1:ah} {x:AV},m.aP.length < k+out.length->out.Nodup->(∀i∈out,0<=i/\i < m.aP.length)->Step H.next H.guard H1->Dn H.next H1 x out->
  ∃H2 y,Je cl [.ref A.jc 0 0,I L,x,I a] H1=some (.tup [y,B (rD (m.kZ L) k a out).isSome],H2)/\Dn H.next H2 y ((rD (m.kZ L) k a out).getD []):=by
 intro k;have hl:=X.len
 induction k with
 | zero=>
  intro a out H1 x hk hn hr s O;have:=zo hn hr;omega
 | succ k ih=>
  intro a out H1 x hk hn hr s O;have hol:=zo hn hr;by_cases ha:a=-1
  ·refine⟨H1,x,?_,by unfold rD;rw [if_pos ha];exact O⟩;rw [Jf];unfold rD;rw [if_pos ha];simp only [Int.reduceNeg,xq_,ha,eq_self,zad,zaG]
  ·have G1:Good b H1 g:=G.guard.ext s.next s.low
   have hbn:H1.base<=H1.next:=by rw [s.base];exact s.next
   have e1:=Dl G1 M X a L;let H3:=H1.new (.blk 0 117 ((m.kZ L a).getD .zero).av);have s3:Step H.next H.guard H3:=s.trans (Step.new _ s.next)
   have O3:Dn H.next H3 x out:=O.new _
   have st6:st 6 (.ref H1.next 0 0) (.agg ((m.kZ L a).getD .zero).av) (H1.new (.blk 0 117 [zI,zI,zI,zI,zB,zN]))=some (aO,H3):=by
    rw [lS rfl];simp only [Nat.reduceAdd,aG,xq_,hq_,Ent.av,hbn];rfl
   cases he:m.kZ L a with
   | none=>
    have hw:rD (m.kZ L) (k+1) a out=none:=by
     unfold rD;rw [if_neg ha,he]
    refine⟨H3,zN,?_,by rw [hw];exact Dn.nil _ _⟩;rw [hw,Jf];rw [he] at e1;simp only [he,zaT] at st6;have:iV none=.tup [.agg Ent.zero.av,B false]:=rfl;rw [this] at e1;simp only [Int.reduceNeg,xq_,ha,e1,st6,zaf,zaB]
    try rfl
   | some e=>
    rw [he] at e1;simp only [he,zat] at st6;have:iV (some e)=.tup [.agg e.av,B true]:=rfl;rw [this] at e1;have e2:=Oq H3 O3.is (by omega) a;have ao9:st 6 (.ref H1.next 0 0) (.agg e.av) (H1.new (.blk 0 117 [zI,zI,zI,zI,zB,zN]))=some (aO,H3):=by rw [st6]
    by_cases hm:a∈out
    ·have hw:rD (m.kZ L) (k+1) a out=none:=by
      unfold rD;rw [if_neg ha,he];simp only;rw [if_pos hm]
     rw [decide_eq_true hm] at e2;refine⟨H3,zN,?_,by rw [hw];exact Dn.nil _ _⟩;rw [hw,Jf];simp only [Int.reduceNeg,xq_,ha,e1,ao9,zad,zaf,e2,zaB]
    ·have hw:rD (m.kZ L) (k+1) a out=rD (m.kZ L) k e.fwd (out++[a]):=by
      rw [rD,if_neg ha,he];simp only;rw [if_neg hm]
     rw [decide_eq_false hm] at e2;obtain⟨y,H4,eb,c1,c2,c3,c4⟩:=O3.push s3.next (by rw [s3.base];exact zac _) (by omega) a
     have hin:=Fe he;obtain⟨H2,z,r,O2⟩:=ih (a:=e.fwd) (H1:=H4) (x:=y) (by rw [zaq];simp only [zah,zam];omega) (zcI.2 ⟨hn,by simp,λu hu w hw'=> by
      rw [zaM.1 hw'];intro e;exact hm (e ▸ hu)⟩) (λi hi=> by
      rcases za3.1 hi with h | h
      ·exact hr i h
      ·rw [zaM.1 h];exact hin) (s3.trans c3) c2
     have g3:H3.get H1.next=.blk 0 117 e.av:=by simp only [H3,he,zat];exact aJ rfl
     have g4:H4.get H1.next=.blk 0 117 e.av:=by
      rw [c4 H1.next (by simp only [H3,dL];omega) (λe=> by have:=(O.1.name e).2;omega)];exact g3
     have l0:ld (.ref H1.next 0 0) H4=some (I e.fwd,H4):=by rw [dR g4];rfl
     rw [hw];refine⟨H2,z,?_,O2⟩;rw [Jf];simp only [Int.reduceNeg,xq_,ha,e1,ao9,zad,zaf,e2,eb,c1,l0,r]
theorem TV(G:Good b H g)(M:fZ g A m)(X:MX T m)(L:Int):cl 29 [.ref A.jc 0 0,I L] H=some (aoD (m.walk L),H):=by
 have e0:=TT G.guard M X L;cases h:m.isL L with
 | false=>
  rw [h] at e0;have hw:m.walk L=none:=by unfold dG.walk;rw [if_neg (by rw [h];decide)]
  rw [hw];refine iG rfl rfl (aiG _ _ _ _ (r:=(.tup [zN,B false],H.guard)) ?_) (BD (d:=7) jg);simp only [xq_,afv,e0,zaf]
 | true=>
  rw [h] at e0;have e1:=QG G.guard M X h;obtain⟨H2,y,r,O⟩:=agZ G M X (L:=L) (m.aP.length+1) (a:=(m.tX L).head) (out:=[]) (H1:=H.guard) (x:=zN) (by simp) (by simp) (λi hi=> by cases hi) (Step.refl _ _) (Dn.nil _ _);have hw:m.walk L=rD (m.kZ L) (m.aP.length+1) (m.tX L).head []:=by unfold dG.walk;rw [if_pos h]
  rw [<-hw] at r O;have l1:(m.tX L).av[1]?=some (I (m.tX L).head):=rfl;refine iG rfl rfl (aiG _ _ _ _ (r:=(.tup [y,B (m.walk L).isSome],H2)) ?_) (BD (d:=7) O.agY);simp only [xq_,afv,e0,zad,e1,l1,r]
end
theorem TW {α:Type}{p:α->Bool}(l:List α):decide (wF (l.findIdx? p)≥0)=l.any p:=by
 rw [<-zcp];cases l.findIdx? p with
 | none=> rfl
 | some i=> exact decide_eq_true (by simp only [wF];omega)
theorem QH(H:ah){x f:AV}{l:List Ent}(hx:aH H x 6 l.length (l.flatMap Ent.av))(hl:l.length < 1000000)(p:Ent->Bool)(hp:∀a∈l,oH Tryz.prog cl f [.agg a.av] H.guard=some (B (p a),H.guard)):cl 109 [x,f] H=some (B (l.any p),H):=by
 refine aV rfl rfl (ajK _ _ _ _) ?_ dQ;have e:=Bq H.guard (enc:=Ent.av) bT (f:=f) hx.guard (by omega) p hp;rw [<-TW];by_cases h0:wF (l.findIdx? p)≥0
 ·simp only [xq_,X0,e,h0]
 ·simp only [xq_,X0,e,h0]
theorem Ot(H:ah){x f:AV}{l:List Int}(hx:aH H x 1 l.length (l.map I))(hl:l.length < 1000000)(p:Int->Bool)
  (hp:∀a∈l,oH Tryz.prog cl f [I a] H.guard=some (B (p a),H.guard)):cl 103 [x,f] H=some (I (wF (l.findIdx? p)),H):=by
 have hg:=hx.guard;have e1:=hg.lnS;refine aV rfl rfl (ajH _ _ _ _) ?_ dQ;have key:∀k i,i+k=l.length->(∀j a,j < i->l[j]?=some a->p a=false)->yH cl [x,f,I l.length,I i] H.guard=some (I (wF (l.findIdx? p)),H.guard):=by
  intro k
  induction k with
  | zero=>
   intro i hi hf;have h1:¬(i:Int) < l.length:=by omega
   have h2:l.findIdx? p=none:=by rw [kW l i hf,zaF (by omega)];rfl
   rw [RS];simp only [Int.reduceNeg,xq_,h1,h2,wF]
  | succ k ih=>
   intro i hi hf;have h1:(i:Int) < l.length:=by omega
   have h3:=hg.ix (k:=.i64) (i:=(i:Int)) (by omega) h1;have h4:=hg.ld (i:=i) (by omega);rw [zao] at h3;rw [zaD,zab (show i < l.length by omega)] at h4;have h5:=hp l[i] (zdf _);rw [RS];cases hpa:p l[i] with
   | true=>
    have h2:l.findIdx? p=some i:=by
     rw [kW l i hf,zaR (by omega),zcf,hpa];simp
    rw [hpa] at h5;simp only [Int.reduceNeg,xq_,h1,h2,h3,h4,h5,wF]
   | false=>
    rw [hpa] at h5;have h6:(i:Int)+1=((i+1:Nat):Int):=by omega
    have h7:=wrap_i64 (a:=((i+1:Nat):Int)) (by omega) (by omega);have:=ih (i+1) (by omega) λj b hj hb=> by
     by_cases hji:j=i
     ·subst hji;rw [zab (by omega)] at hb;rw [<-zaX hb];exact hpa
     ·exact hf j b (by omega) hb
    simp only [Int.reduceNeg,xq_,h1,h3,h4,h5,bI,h6,h7,this]
 have:=key l.length 0 (by omega) λj a hj=> by omega
 replace this:yH cl [x,f,I l.length,I 0] H.guard=some (I (wF (l.findIdx? p)),H.guard):=this
 simp only [xq_,ady,e1,this]
theorem QI(H:ah){x f:AV}{l:List Int}(hx:aH H x 1 l.length (l.map I))(hl:l.length < 1000000)(p:Int->Bool)(hp:∀a∈l,oH Tryz.prog cl f [I a] H.guard.guard=some (B (p a),H.guard.guard)):cl 53 [x,f] H=some (B (l.any p),H):=by
 refine aV rfl rfl (anr _ _ _ _) ?_ dQ;have e:=Ot H.guard (f:=f) hx.guard hl p hp;rw [<-TW];by_cases h0:wF (l.findIdx? p)≥0
 ·simp only [xq_,afG,e,h0]
 ·simp only [xq_,afG,e,h0]
theorem ZP {H:ah}{q:Nat}{r:Row}(hlt:q < H.next)(hq:H.get q=.blk 0 130 r.av)(hr:r.data.length < 1000000)(e:Ent)(he:e.data.length < 1000000):cl 110 [.agg e.av,.ref q 0 0] H=some (B (e.fB || decide (e.data≠r.data)),H):=by
 refine aV rfl rfl (ajL _ _ _ _) ?_ dQ;let H1:=H.guard.new (.blk 0 117 e.av);have all:e.av.all AV.aU=true:=jf e;have g1:H1.get H.next=.blk 0 117 e.av:=aJ rfl
 have l4:ld (.ref H.next 0 4) H1=some (B e.fB,H1):=by rw [dR g1];rfl
 have l5:ld (.ref H.next 0 5) H1=some (dat e.data,H1):=by rw [dR g1];rfl
 have g2:H1.get q=.blk 0 130 r.av:=by rw [<-hq];exact aS hlt
 have l2:ld (.ref q 0 2) H1=some (dat r.data,H1):=by rw [dR g2];rfl
 have e1:=zq H1 (gI H1 e.data) (gI H1 r.data) he hr;have hd:decide (e.data≠r.data)=!decide (e.data=r.data):=by
  by_cases h:e.data=r.data <;> simp [h]
 simp only [H1] at l4 l5 l2 e1;rw [hd];cases hdi:e.fB with
 | true=>
  rw [hdi] at l4;simp only [Nat.reduceLT,xq_,X3,aC all,l4,zbT]
 | false=>
  rw [hdi] at l4;simp only [Nat.reduceLT,xq_,X3,aC all,l4,l5,l2,e1,zbN]
theorem ach(H:ah){x:AV}{r:Row}{es:List Ent}(hx:aH H x 6 es.length (es.flatMap Ent.av))(hl:es.length < 1000000)(hr:r.data.length < 1000000)(he:∀e∈es,e.data.length < 1000000):cl 62 [.agg r.av,x] H=some (B (vX r es),H):=by
 refine aV rfl rfl (anA _ _ _ _) ?_ dQ;let H1:=H.guard.new (.blk 0 130 r.av);have g1:H1.get H.next=.blk 0 130 r.av:=aJ rfl
 have all:r.av.all AV.aU=true:=PL r;have l0:ld (.ref H.next 0 0) H1=some (I r.state,H1):=by rw [dR g1];rfl
 have hx1:aH H1 x 6 es.length (es.flatMap Ent.av):=hx.guard.new _;have e1:=hx1.lnS;have hn:∀n:Nat,((es.length:Int)=n)=(es.length=n):=λn=> propext ⟨λh=> by omega,λh=> by omega⟩;unfold vX;by_cases h0:r.state=0
 ·rw [if_pos h0];have hd:decide (es=[])=decide ((es.length:Int)=0):=by
   cases es with
   | nil=> rfl
   | cons a l=> simp only [zah,reduceCtorEq,decide_false];exact(decide_eq_false (by omega)).symm
  rw [hd];simp only [H1] at l0 e1;by_cases hz:(es.length:Int)=0
  ·simp only [Nat.reduceLT,Int.reduceLT,Int.reduceEq,xq_,Qc,aC all,l0,h0,e1,hz]
  ·simp only [Nat.reduceLT,Int.reduceEq,xq_,Qc,aC all,l0,h0,e1,hz]
 by_cases h1:r.state=1
 ·rw [if_neg h0,if_pos h1];have e2:=QH H1 (f:=.fn (.func 110) [] [.ref H.next 0 0]) hx1 hl (λe=> e.fB || decide (e.data≠r.data)) λe hm=> by
   rw [ny (by kernel_rfl)];exact ZP (H:=H1.guard) (q:=H.next) (by rw [tZ];exact zcu _) (by rw [Xe];exact g1) hr e (he e hm)
  simp only [H1] at l0 e1 e2;by_cases hz:(es.length:Int) > 0
  ·have hne:es≠[]:=λe=> by rw [e] at hz;simp at hz
   rw [decide_eq_true hne,zaI];simp only [Nat.reduceLT,Int.reduceEq,xq_,Qc,aC all,l0,h1,e1,hz,e2]
  ·have hne:es=[]:=zan (by omega);have hd:(decide (es≠[]) && !es.any λe=> e.fB || decide (e.data≠r.data))=false:=by rw [hne];rfl
   rw [hd];simp only [Nat.reduceLT,Int.reduceEq,xq_,Qc,aC all,l0,h1,e1,hz]
 ·rw [if_neg h0,if_neg h1];by_cases hz:(es.length:Int)=1
  ·obtain⟨e,rfl⟩:=List.length_eq_one_iff.1 (show es.length=1 by omega);have s1:=hx1.ix (k:=.i64) (i:=0) (by omega) (by simp);have s2:=hx1.acZ (i:=0) (o:=4) (by simp) (by decide);simp only [H1] at l0 e1 s1 s2;obtain⟨p,p1,p2⟩:=Option.bind_eq_some_iff.1 s2
   replace s1:ix 6 x (I 0) (H.guard.new (.blk 0 130 r.av))=some (dW x 0,H.guard.new (.blk 0 130 r.av)):=s1
   have hd:Fa [e]=e.fB:=rfl;rw [hd];simp only [Nat.reduceLT,Int.reduceLT,Int.reduceEq,xq_,Qc,aC all,l0,h0,h1,e1,hz,s1,p1,p2]
  ·have hd:Fa es=false:=by
    clear hx hl he hx1 e1 hn
    match es,hz with
    | [],_=> rfl
    | [a],h=> simp at h
    | a::b::l,_=> rfl
   rw [hd];simp only [H1] at l0 e1;simp only [Nat.reduceLT,xq_,Qc,aC all,l0,h0,h1,e1,hz]
section
variable {b:Nat}{H:ah}{g:bg}{A:Adr}{m:dG}{T:Nat}
theorem Vw(G:Good b H g)(M:fZ g A m)(X:MX T m){p q:Nat}{L:Int}(hp:p < H.next)(hq:q < H.next)(gp:H.get p=.blk 0 28 [.ref A.jc 0 0])(gq:H.get q=.blk 0 3 [I L])(i:Int):cl 54 [I i,.ref p 0 0,.ref q 0 0] H=some (B ((m.kZ L i).getD .zero).fB,H):=by
 refine aV rfl rfl (ant _ _ _ _ _) ?_ dQ;have l1:ld (.ref p 0 0) H.guard=some (.ref A.jc 0 0,H.guard):=by rw [dR (by rw [Xe];exact gp)];rfl
 have l2:ld (.ref q 0 0) H.guard=some (I L,H.guard):=by rw [dR (by rw [Xe];exact gq)];rfl
 have e1:=Dl G.guard M X i L;let e:=(m.kZ L i).getD .zero;let H3:=H.guard.new (.blk 0 117 e.av);have st6:st 6 (.ref H.next 0 0) (.agg e.av) (H.guard.new (.blk 0 117 [zI,zI,zI,zI,zB,zN]))=some (aO,H3):=by
  have hbn:H.guard.base<=H.guard.next:=zac _
  show st 6 (.ref H.guard.next 0 0) (.agg e.av) (H.guard.new (.blk 0 117 [zI,zI,zI,zI,zB,zN]))=some (aO,H3);rw [lS rfl];simp only [Nat.reduceAdd,aG,xq_,hq_,Ent.av];rfl
 have g3:H3.get H.next=.blk 0 117 e.av:=aJ rfl
 have l4:ld (.ref H.next 0 4) H3=some (B e.fB,H3):=by rw [dR g3];rfl
 have e1':cl 55 [.ref A.jc 0 0,I i,I L] H.guard=some (.tup [.agg e.av,B (m.kZ L i).isSome],H.guard):=e1;simp only [xq_,aiY,l1,l2,e1',st6,l4]
 try rfl
theorem Vx(G:Good b H g)(M:fZ g A m)(X:MX T m)(L:Int):cl 21 [.ref A.jc 0 0,I L] H=some (B (m.single L),H):=by
 refine aV rfl rfl (am4 _ _ _ _) ?_ dQ;let H1:=H.guard.new (.blk 0 28 [.ref A.jc 0 0]);let H2:=H1.new (.blk 0 3 [I L]);have G2:Good b H2 g:=(G.guard.new _).new _;have n1:H1.next=H.next+1:=rfl
 have n2:H2.next=H.next+1+1:=rfl
 have gp:H2.get H.next=.blk 0 28 [.ref A.jc 0 0]:=by
  simp only [H2];rw [aS (by rw [n1];omega)];exact aJ rfl
 have gq:H2.get (H.next+1)=.blk 0 3 [I L]:=aJ n1.symm;have l1:ld (.ref H.next 0 0) H2=some (.ref A.jc 0 0,H2):=by rw [dR gp];rfl
 have l2:ld (.ref (H.next+1) 0 0) H2=some (I L,H2):=by rw [dR gq];rfl
 have e1:=Aw G2 M X L;have hcl:(m.copies L).length<=1000:=by
  have:=vY m L m.aP.length;rw [uY] at this;have:=X.len.2;omega
 have G4:Good b H2.guard.guard g:=G2.guard.guard;have e2:=QI H2 (f:=.fn (.func 54) [] [.ref H.next 0 0,.ref (H.next+1) 0 0]) (gI H2 (m.copies L)) (by omega) (λi=> ((m.kZ L i).getD .zero).fB) λi _=> by
  rw [ny (by kernel_rfl)];exact Vw G4 M X (p:=H.next) (q:=H.next+1) (by rw [tZ,tZ,n2];omega) (by rw [tZ,tZ,n2];omega) (by rw [Xe,Xe];exact gp) (by rw [Xe,Xe];exact gq) i
 have e3:=(gI H2 (m.copies L)).lnS;have b1:fM 28 (.ref A.jc 0 0) H.guard=some (.ref H.next 0 0,H1):=rfl;have b2:fM 3 (I L) H1=some (.ref (H.next+1) 0 0,H2):=rfl;unfold dG.single;cases ha:(m.copies L).any (λi=> ((m.kZ L i).getD .zero).fB) with
 | false=>
  rw [ha] at e2;simp only [xq_,aa7,b1,b2,l1,l2,e1,e2,zaf,zbT]
 | true=>
  rw [ha] at e2;rw [show decide ((m.copies L).length=1)=decide (((m.copies L).length:Int)=1) by rw [decide_eq_decide];omega,zad,zbN];by_cases hz:((m.copies L).length:Int)=1
  ·simp only [xq_,aa7,b1,b2,l1,l2,e1,e2,zad,e3,hz]
  ·simp only [xq_,aa7,b1,b2,l1,l2,e1,e2,zad,e3,hz]
theorem ZQ(G:Good b H g)(M:fZ g A m)(X:MX T m){L:Int}(hL:m.isL L=true){x:AV}{ws:List Int}(hx:∀H':ah,H.next<=H'.next->(∀r,r < H.next->H'.get r=H.get r)->aH H' x 1 ws.length (ws.map I))(hw:ws.length < 1000):cl 28 [.ref A.jc 0 0,I L,x] H=some (B (m.zl L ws),H):=by
 refine aV rfl rfl (am8 _ _ _ _ _) ?_ dQ;have hxs:∀H1:ah,Step H.next H.guard H1->aH H1 x 1 ws.length (ws.map I):=λH1 s=> hx H1 s.next s.low
 have hent:∀i e,m.kZ L i=some e->e.data.length < 1000000:=λi e h=> by
  obtain⟨h0,h1⟩:=Fe h;obtain⟨n,hn⟩:∃n,m.aP[i.toNat]?=some n:=⟨_,zab (by omega)⟩
  rw [TU h0 hn] at h;have:=TP ((X.inv.bn _ n hn).aT.le X.inv.ok) h;omega
 have hel:∀i,((m.kZ L i).getD .zero).data.length < 1000000:=λi=> by
  cases h:m.kZ L i with
  | none=> simp [Ent.zero]
  | some e=> exact hent i e h
 have hrl:(m.tX L).data.length < 1000000:=by
  obtain⟨n,hn,hh,_⟩:=JW G M X hL;unfold dG.tX oL;rw [hh];cases ha:jM n.home.eF L with
  | none=> simp [Row.zero]
  | some w=>
   obtain⟨j,hj,_⟩:=Dc ha;have:(w.data.length:Int)=m.c.aQ:=((X.inv.bn _ n hn).eF _ (zaw hj)).1;have:=(wO X.inv.ok).2.2.1;simp only [zat];omega
 have hcl:(m.copies L).length<=1000:=by
  have:=vY m L m.aP.length;rw [uY] at this;have:=X.len.2;omega
 have e0:=Aw G.guard M X L;have e0l:=(gI H.guard (m.copies L)).lnS;have key:∀k i,i+k=(m.copies L).length->∀H1,Step H.next H.guard H1->(Eu cl [.ref A.jc 0 0,I L,x,dat (m.copies L),I (m.copies L).length,I i] H1).map Prod.fst=some (B (((m.copies L).drop i).all (λi=> decide (((m.kZ L i).getD .zero).data=ws)) && (decide ((m.tX L).state=2) || decide (m.owner L≠-1) || decide ((m.tX L).data=ws)))):=by
  intro k
  induction k with
  | zero=>
   intro i hi H1 s;have h1:¬(i:Int) < (m.copies L).length:=by omega
   have G1:Good b H1 g:=G.guard.ext s.next s.low
   have hbn:H1.base<=H1.next:=by rw [s.base];exact s.next
   have e1:=QG G1 M X hL;let H2:=H1.new (.blk 0 130 (m.tX L).av);have G2:Good b H2 g:=G1.new _;have st3:st 3 (.ref H1.next 0 0) (.agg (m.tX L).av) (H1.new (.blk 0 130 [zI,zI,zN]))=some (aO,H2):=by
    rw [lS rfl];simp only [Nat.reduceAdd,aG,xq_,hq_,Row.av,hbn];rfl
   have g2:H2.get H1.next=.blk 0 130 (m.tX L).av:=aJ rfl
   have l0:ld (.ref H1.next 0 0) H2=some (I (m.tX L).state,H2):=by rw [dR g2];rfl
   have l2:ld (.ref H1.next 0 2) H2=some (dat (m.tX L).data,H2):=by rw [dR g2];rfl
   have e2:=Ol G2 M X L;have e3:=zq H2 (gI H2 (m.tX L).data) (hxs H2 (s.trans (Step.new _ s.next))) hrl (by omega);rw [zaF (by omega),zcv,zaI,XD];by_cases q2:(m.tX L).state=2
   ·simp only [Int.reduceNeg,xq_,h1,e1,st3,l0,q2,eq_self,zbT]
   ·by_cases q3:m.owner L=-1
    ·have:decide (m.owner L≠-1)=false:=decide_eq_false λh=> h q3;rw [this,decide_eq_false q2,zbN,zbN];rw [q3] at e2;simp only [Int.reduceNeg,xq_,h1,e1,st3,l0,q2,e2,eq_self,zad,l2,e3]
    ·have:decide (m.owner L≠-1)=true:=decide_eq_true q3;rw [this,zcO,zbT];simp only [Int.reduceNeg,xq_,h1,e1,st3,l0,q2,e2,q3,zaf]
  | succ k ih=>
   intro i hi H1 s;have h1:(i:Int) < (m.copies L).length:=by omega
   have G1:Good b H1 g:=G.guard.ext s.next s.low
   have hbn:H1.base<=H1.next:=by rw [s.base];exact s.next
   have hS:=gI H1 (m.copies L);have s1:=hS.ix (k:=.i64) (i:=(i:Int)) (by omega) h1;rw [zao] at s1;have t1:=hS.ld (i:=i) (by omega);rw [zaD,zab (show i < (m.copies L).length by omega)] at t1;obtain⟨at_,hat⟩:∃a,a=(m.copies L)[i]:=⟨_,rfl⟩
   rw [<-hat] at t1;have e1:=Dl G1 M X at_ L;let e:=(m.kZ L at_).getD .zero;let H3:=H1.new (.blk 0 117 e.av);have st6:st 6 (.ref H1.next 0 0) (.agg e.av) (H1.new (.blk 0 117 [zI,zI,zI,zI,zB,zN]))=some (aO,H3):=by
    rw [lS rfl];simp only [Nat.reduceAdd,aG,xq_,hq_,Ent.av,hbn];rfl
   have g3:H3.get H1.next=.blk 0 117 e.av:=aJ rfl
   have l5:ld (.ref H1.next 0 5) H3=some (dat e.data,H3):=by rw [dR g3];rfl
   have e1':cl 55 [.ref A.jc 0 0,I at_,I L] H1=some (.tup [.agg e.av,B (m.kZ L at_).isSome],H1):=e1;have s3:Step H.next H.guard H3:=s.trans (Step.new _ s.next)
   have e2:=zq H3 (gI H3 e.data) (hxs H3 s3) (hel at_) (by omega);have h6:(i:Int)+1=((i+1:Nat):Int):=by omega
   have h7:=wrap_i64 (a:=((i+1:Nat):Int)) (by omega) (by omega);have r:=ih (i+1) (by omega) H3 s3;have hd:(m.copies L).drop i=at_::(m.copies L).drop (i+1):=by rw [hat];exact zaR (by omega)
   rw [hd,zb2,XD];by_cases hq:e.data=ws
   ·rw [decide_eq_true hq] at e2;rw [show decide (((m.kZ L at_).getD .zero).data=ws)=true from decide_eq_true hq,zaI];simp only [Int.reduceNeg,xq_,h1,s1,t1,e1',st6,l5,e2,zad,bI,h6,h7,r]
   ·rw [decide_eq_false hq] at e2;rw [show decide (((m.kZ L at_).getD .zero).data=ws)=false from decide_eq_false hq,zaL,zaL];simp only [Int.reduceNeg,xq_,h1,s1,t1,e1',st6,l5,e2,zaf]
 have r:=key (m.copies L).length 0 (by omega) H.guard (Step.refl _ _);rw [zaO] at r
 replace r:(Eu cl [.ref A.jc 0 0,I L,x,dat (m.copies L),I (m.copies L).length,I 0] H.guard).map Prod.fst=some (B (m.zl L ws)):=r
 simp only [xq_,aiE,e0,e0l,r]
end
def Ih(w:List Int):Prop:=∀H:ah,∃f K,cl 61 [dat w] H=some (f,K)/\cl 60 [f] K=some (dat (srt [] w),K)/\Step H.next H K
theorem Ou:Ih []:=λH=> by
 let H1:=H.new (.blk 0 22 [zN]);have g1:H1.get H.next=.blk 0 22 [zN]:=aJ rfl
 have d0:dat ([]:List Int)=zN:=by simp [dat,gB]
 refine⟨.fn (.func 108) [] [.ref H.next 0 0],H1,aX rfl rfl (ai2 _ _ _ ?_),?_,Step.new _ (zac _)⟩
 ·have eb:fM 22 zN H=some (.ref H.next 0 0,H1):=rfl;rw [d0];simp only [xq_,afK,eb]
  try rfl
 ·refine wZ (p:=qG wP pX) rfl ?_;have hc:True/\22 < fQ/\108≠0/\108∈pX:=⟨trivial,by unfold fQ;decide,by decide,by simp [pX]⟩
  have hs:dat (srt [] ([]:List Int))=aaU:=by simp [srt,dat,gB,aaU]
  rw [hs];unfold qG;simp only [g1];rw [if_pos hc]
def Fg(r:Row)(es0:List Ent):Option (List Ent)->Bool
 | none=> false
 | some es=> vX r (es0++es)
section
variable {b:Nat}{H:ah}{g:bg}{A:Adr}{m:dG}{T:Nat}
theorem aci(X:MX T m)(L i:Int):((m.kZ L i).getD .zero).data.length < 1000000:=by
 cases h:m.kZ L i with
 | none=> simp [Ent.zero]
 | some e=>
  obtain⟨h0,h1⟩:=Fe h;obtain⟨n,hn⟩:∃n,m.aP[i.toNat]?=some n:=⟨_,zab (by omega)⟩
  rw [TU h0 hn] at h;have:=TP ((X.inv.bn _ n hn).aT.le X.inv.ok) h;simp only [zat];omega
theorem acj(G:Good b H g)(M:fZ g A m)(X:MX T m){L:Int}(hL:m.isL L=true):(m.tX L).data.length < 1000000:=by
 obtain⟨n,hn,hh,_⟩:=JW G M X hL;unfold dG.tX oL;rw [hh];cases ha:jM n.home.eF L with
 | none=> simp [Row.zero]
 | some w=>
  obtain⟨j,hj,_⟩:=Dc ha;have:(w.data.length:Int)=m.c.aQ:=((X.inv.bn _ n hn).eF _ (zaw hj)).1;have:=(wO X.inv.ok).2.2.1;simp only [zat];omega
theorem ag0(G:Good b H g)(M:fZ g A m)(X:MX T m){L:Int}(hL:m.isL L=true){w:List Int}(hw:w.length<=1000):∀k i {bk:Int} {es0:List Ent} {H1:ah} {x:AV},i+k=w.length->Step H.next H.guard H1->Own H.next H1 x 6 (es0.flatMap Ent.av)->es0.length=i->(∀e∈es0,e.data.length < 1000000)->
  (xG cl [.ref A.jc 0 0,I L,x,I bk,dat w,I w.length,I i] H1).map Prod.fst=some (B (Fg (m.tX L) es0 (tN (m.kZ L) bk (w.drop i)))):=by
 intro k
 induction k with
 | zero=>
  intro i bk es0 H1 x hi s O hl he;have h1:¬(i:Int) < w.length:=by omega
  have G1:Good b H1 g:=G.guard.ext s.next s.low
  have e1:=QG G1 M X hL;have e2:=ach H1 (r:=m.tX L) (O.is (n:=es0.length) (by decide) (dh bT es0)) (by omega) (acj G M X hL) he;rw [zaF (by omega),P8];simp only [tN,Fg,zbb];simp only [xq_,h1,e1,e2]
 | succ k ih=>
  intro i bk es0 H1 x hi s O hl he;have h1:(i:Int) < w.length:=by omega
  have G1:Good b H1 g:=G.guard.ext s.next s.low
  have hbn:H1.base<=H1.next:=by rw [s.base];exact s.next
  have hS:=gI H1 w;have s1:=hS.ix (k:=.i64) (i:=(i:Int)) (by omega) h1;rw [zao] at s1;have t1:=hS.ld (i:=i) (by omega);rw [zaD,zab (show i < w.length by omega)] at t1;obtain⟨a,ha⟩:∃a,a=w[i]:=⟨_,rfl⟩
  rw [<-ha] at t1;have e1:=Dl G1 M X a L;obtain⟨e,hed⟩:∃e,e=(m.kZ L a).getD .zero:=⟨_,rfl⟩
  let H3:=H1.new (.blk 0 117 e.av);have st6:st 6 (.ref H1.next 0 0) (.agg e.av) (H1.new (.blk 0 117 [zI,zI,zI,zI,zB,zN]))=some (aO,H3):=by
   rw [lS rfl];simp only [Nat.reduceAdd,aG,xq_,hq_,Ent.av,hbn];rfl
  have g3:H3.get H1.next=.blk 0 117 e.av:=aJ rfl
  have l1:ld (.ref H1.next 0 1) H3=some (I e.back,H3):=by rw [dR g3];rfl
  have l6:lda 6 (.ref H1.next 0 0) H3=some (.agg e.av,H3):=(fO (off:=0) (n:=6) g3 (zac 6)).trans rfl;have e1':cl 55 [.ref A.jc 0 0,I a,I L] H1=some (.tup [.agg e.av,B (m.kZ L a).isSome],H1):=by rw [e1,iV,hed]
  have s3:Step H.next H.guard H3:=s.trans (Step.new _ s.next)
  have hd:w.drop i=a::w.drop (i+1):=by rw [ha];exact zaR (by omega)
  have h6:(i:Int)+1=((i+1:Nat):Int):=by omega
  have h7:=wrap_i64 (a:=((i+1:Nat):Int)) (by omega) (by omega);rw [hd];unfold tN;rw [<-hed];by_cases hb:e.back=bk
  ·rw [if_neg (by simp [hb])];have eb:bs 127 1 [(0,.agg e.av)] H3=some (.sl H3.next 0 0 6 1 1 true,H3.new (.blk 0 117 e.av)):=(WU (by decide)).trans (gZ rfl rfl (jf e));have O3:Own H.next H3 x 6 (es0.flatMap Ent.av):=O.new _
   obtain⟨y,K,c1,c2,c3⟩:=(O3.new (.blk 0 117 e.av)).step (n:=i) (k:=1) (e:=117) (by_:=64) (y:=.sl H3.next 0 0 6 1 1 true) (new:=e.av) (by rw [dL];exact zbD s3.next) (by rw [iC,s3.base];exact zac _) (by decide) (by rw [dh bT,hl]) (jI rfl) (jf e) (by unfold most;omega) (by unfold most;omega);have hf:es0.flatMap Ent.av++e.av=(es0++[e]).flatMap Ent.av:=by simp [zbE]
   rw [hf] at c2;have s4:Step H.next H.guard K:=s3.trans ((Step.new _ s3.next).trans c3)
   have r:=ih (i+1) (bk:=a) (es0:=es0++[e]) (by omega) s4 c2 (by simp [hl]) (λe' h=> by
    rcases za3.1 h with h | h
    ·exact he e' h
    ·rw [zaM.1 h,hed];exact aci X L a)
   have hx:Fg (m.tX L) es0 ((tN (m.kZ L) a (w.drop (i+1))).map λes=> e::es)=Fg (m.tX L) (es0++[e]) (tN (m.kZ L) a (w.drop (i+1))):=by
    cases tN (m.kZ L) a (w.drop (i+1)) with
    | none=> rfl
    | some es=> simp only [zai,Fg,zdC,zbc,zaU]
   rw [hx,P8];simp only [xq_,h1,s1,t1,e1',st6,l1,hb,eq_self,zad,l6,eb,c1,bI,h6,h7,r]
  ·rw [if_pos hb,P8];simp only [Fg];simp only [xq_,h1,s1,t1,e1',st6,l1,hb,zaf]
theorem acn(G:Good b H g)(M:fZ g A m)(X:MX T m)(L:Int)(hs:∀w,m.walk L=some w->Ih w):cl 23 [.ref A.jc 0 0,I L] H=some (B (m.Fb L),H):=by
 refine aV rfl rfl (am6 _ _ _ _) ?_ dQ;have e0:=TT G.guard M X L;unfold dG.Fb;cases hL:m.isL L with
 | false=>
  rw [hL] at e0;rw [if_pos rfl];simp only [Int.reduceNeg,xq_,UN,e0,zaf]
 | true=>
  rw [hL] at e0;rw [if_neg (by decide)];have e1:=TV G.guard M X L;cases hw:m.walk L with
  | none=>
   rw [hw] at e1
   replace e1:cl 29 [.ref A.jc 0 0,I L] H.guard=some (.tup [dat [],B false],H.guard):=e1
   simp only [Int.reduceNeg,xq_,UN,e0,zad,e1,zaf]
  | some w=>
   rw [hw] at e1
   replace e1:cl 29 [.ref A.jc 0 0,I L] H.guard=some (.tup [dat w,B true],H.guard):=e1
   obtain⟨f,K,a1,a2,a3⟩:=hs w hw H.guard
   replace a3:Step H.next H.guard K:=a3
   have GK:Good b K g:=G.guard.ext a3.next a3.low
   have e2:=Aw GK M X L;have hwl:w.length<=1000:=by
    obtain⟨h1,h2⟩:=ZN hw;have:=zo (N:=m.aP.length) h1 λi hi=> by
     obtain⟨e,he⟩:=(vZ hL).1 (h2 i hi);exact Fe he
    have:=X.len.2;omega
   have hcl:(m.copies L).length<=1000:=by
    have:=vY m L m.aP.length;rw [uY] at this;have:=X.len.2;omega
   have e3:=zq K (gI K (srt [] w)) (gI K (m.copies L)) (by rw [agX];omega) (by omega);simp only;by_cases hq:srt [] w=m.copies L
   ·rw [if_neg (by simp [hq])];rw [decide_eq_true hq] at e3;have ln:=(gI K w).lnS;have r:=ag0 G M X hL hwl w.length 0 (bk:=-1) (es0:=[]) (H1:=K) (x:=zN) (by omega) a3 (.inl ⟨rfl,rfl⟩) rfl (λe h=> by cases h);rw [zaO] at r
    replace r:(xG cl [.ref A.jc 0 0,I L,zN,I (-1),dat w,I w.length,I 0] K).map Prod.fst=some (B (Fg (m.tX L) [] (tN (m.kZ L) (-1) w))):=r
    cases hbk:tN (m.kZ L) (-1) w with
    | none=>
     rw [hbk] at r
     replace r:(xG cl [.ref A.jc 0 0,I L,zN,I (-1),dat w,I w.length,I 0] K).map Prod.fst=some (B false):=r
     simp only;simp only [Int.reduceNeg,xq_,UN,e0,zad,e1,a1,a2,e2,e3,ln,r]
    | some es=>
     rw [hbk] at r
     replace r:(xG cl [.ref A.jc 0 0,I L,zN,I (-1),dat w,I w.length,I 0] K).map Prod.fst=some (B (vX (m.tX L) es)):=r
     simp only;simp only [Int.reduceNeg,xq_,UN,e0,zad,e1,a1,a2,e2,e3,ln,r]
   ·rw [if_pos hq];rw [decide_eq_false hq] at e3;simp only [Int.reduceNeg,xq_,UN,e0,zad,e1,a1,a2,e2,e3,zaf]
end
def alT(me:Int):Nat->List Int->List Evn
 | _,[]=> []
 | k,v::l=> ⟨me,k,false,0⟩::⟨me,k,true,v⟩::alT me (k+1) l
def told(me:Int)(n:Node):List Evn:=alT me 0 n.dK.dP++if n.dK.gK=true then [⟨me,n.dK.dP.length,false,0⟩] else []
def uZ(ws:List Int)(o:Opn):List Int × Int:=
 if o.bf=2 then(ws.set o.addr.toNat o.value,0) else if o.bf=3 then(ws.set o.addr.toNat (w64 (ws.getD o.addr.toNat 0+o.value)),ws.getD o.addr.toNat 0)
 else if o.bf=4 then(ws,0) else(ws,ws.getD o.addr.toNat 0)
theorem Ov {ws:List Int}{o:Opn}:(uZ ws o).1.length=ws.length:=by
 unfold uZ;by_cases h2:o.bf=2
 ·rw [if_pos h2];exact zbV
 by_cases h3:o.bf=3
 ·rw [if_neg h2,if_pos h3];exact zbV
 by_cases h4:o.bf=4
 ·rw [if_neg h2,if_neg h3,if_pos h4]
 ·rw [if_neg h2,if_neg h3,if_neg h4]
structure aoE(c:Cfg)(v:Int->List Int)(ws:List Int):Prop where
 len:(ws.length:Int)=c.iF
 row:∀L,0<=L->L < c.aW->((v L).length:Int)=c.aQ
 get:∀a,0<=a->a < c.iF->ws.getD a.toNat 0=(v (a / c.aQ)).getD (a % c.aQ).toNat 0
section
variable {c:Cfg}{v:Int->List Int}{ws:List Int}{o:Opn}
theorem ag1(h:c.right o=true):0<=o.addr/\o.addr < c.iF/\c.dS o.addr=o.addr / c.aQ/\c.jJ o.addr=o.addr % c.aQ/\1<=o.bf/\o.bf<=4:=by
 unfold Cfg.right at h;simp only [zaj,decide_eq_true_eq] at h;obtain⟨⟨⟨k1,k2⟩,hl⟩,_⟩:=h;unfold Cfg.dS at hl;by_cases ha:o.addr < 0∨c.iF<=o.addr
 ·rw [if_pos ha] at hl;exact absurd rfl hl
 ·unfold Cfg.dS Cfg.jJ;rw [if_neg ha,if_neg ha];exact⟨by omega,by omega,rfl,rfl,k1,k2⟩
end
def gW(c:Cfg)(i:Nat):List Int:=(List.range (i*c.aQ.toNat)).map λa=> c.init.getD a 0
theorem QJ {c:Cfg}{i:Nat}(hi:(i:Int) < c.aW)(hw:0<=c.aQ):gW c (i+1)=gW c i++c.first i:=by
 unfold gW Cfg.first
 rw [if_neg (by omega),zbz,List.range_add,zbr,zcN]
 congr 1
 refine zbk λj _=> ?_;have:((i:Int)*c.aQ).toNat=i*c.aQ.toNat:=by
  obtain⟨w,hw'⟩:=Int.eq_ofNat_of_zero_le hw;rw [hw'];simp only [zao];rw [<-zcH,zao]
 rw [this];rfl
theorem Az(c:Cfg)(i:Nat):(gW c i).length=i*c.aQ.toNat:=by simp [gW]
theorem Fh {c:Cfg}(hc:c.ok=true):aoE c c.first (gW c c.aW.toNat):=by
 have P:=wO hc;have hw:0 < c.aQ:=by omega
 have hlen:((gW c c.aW.toNat).length:Int)=c.iF:=by
  rw [Az,zcH];unfold Cfg.iF;rw [zbl (by omega),zbl (by omega)]
 refine⟨hlen,λL h0 h1=> ?_,λa h0 h1=> ?_⟩
 ·unfold Cfg.first
  rw [if_neg (by omega)];simp only [zax,zcK];omega
 ·have q0:=zdp h0 (by omega:0<=c.aQ);have q1:a / c.aQ < c.aW:=Int.ediv_lt_of_lt_mul hw (by unfold Cfg.iF at h1;exact h1);have r0:=zcF a (by omega:c.aQ≠0);have r1:=zc2 a hw;have e1:(gW c c.aW.toNat).getD a.toNat 0=c.init.getD a.toNat 0:=by
   rw [zaJ];unfold gW;rw [zaD,zba (by rw [Az] at hlen;omega)];rfl
  have e2:(c.first (a / c.aQ)).getD (a % c.aQ).toNat 0=c.init.getD ((a / c.aQ*c.aQ).toNat+(a % c.aQ).toNat) 0:=by
   rw [zaJ];unfold Cfg.first
   rw [if_neg (by omega),zaD,zba (by omega)];rfl
  have e3:a=a / c.aQ*c.aQ+a % c.aQ:=by rw [Int.mul_comm];exact(Int.mul_ediv_add_emod a c.aQ).symm
  have e4:=zcs q0 (by omega:0<=c.aQ);have e5:(a / c.aQ*c.aQ).toNat+(a % c.aQ).toNat=a.toNat:=by omega
  rw [e1,e2,e5]
def xQ(c:Cfg)(ws:List Int):List Cell:=c.av.map .av++[.seq 1 (ws.map I)]
theorem TY {c:Cfg}{ws ws':List Int}:(xQ c ws).set 8 (.seq 1 (ws'.map I))=xQ c ws':=rfl
theorem aeH(H:ah)(hb:H.base<=H.next){c:Cfg}(hc:c.ok=true):∃H' q,cl 113 [.agg c.av] H=some (.ref q 0 0,H')/\Made H H' (upd oW q (xQ c (gW c c.aW.toNat))):=by
 have Bd:=uN hc;have hw:=Bd.aQ;have hln:=Bd.aW;let H1:=H.new (.blk 0 24 c.av);let xs:=c.av++[zN]
 have lt1:H.next < H1.next:=by simp only [H1,dL];omega
 have g1:H1.get H.next=.blk 0 24 c.av:=aJ rfl
 have hall:xs.all AV.aU=true:=by simp only [xs,zbF,eu];rfl
 have M0:Made H1 (H1.new (.blk 0 195 xs)) (upd oW H1.next (xQ c [])):=by
  refine lJ hall (by simp [xs,xQ]) λi cc y hcc hy=> ?_;simp only [xQ] at hcc;have hlen:c.av.length=8:=rfl;by_cases hi:i < 8
  ·left;rw [zaP (by rw [zax];exact hi),zaD] at hcc;rw [zaP hi] at hy;rw [hy] at hcc;exact(zaX hcc).symm
  ·right;have:i=8:=by
    have:=(zak.1 hy).1;simp only [xs,zaq,zah,zam] at this;omega
   subst this;cases hcc;cases hy;exact⟨rfl,1,rfl⟩
 have key:∀k i,i+k=c.aW.toNat->∀Hi,Made H1 Hi (upd oW H1.next (xQ c (gW c i)))->
   ∃H',yI cl [.ref H.next 0 0,.ref H1.next 0 0,I c.aW,I i] Hi=some (.ref H1.next 0 0,H')/\Made H1 H' (upd oW H1.next (xQ c (gW c c.aW.toNat))):=by
  intro k
  induction k with
  | zero=>
   intro i hi Hi M;have h1:¬(i:Int) < c.aW:=by omega
   rw [show i=c.aW.toNat by omega] at M;refine⟨Hi,?_,M⟩;rw [RU];simp only [xq_,h1]
  | succ k ih=>
   intro i hi Hi M;have h1:(i:Int) < c.aW:=by omega
   have h6:(i:Int)+1=((i+1:Nat):Int):=by omega
   have h7:=wrap_i64 (a:=((i+1:Nat):Int)) (by omega) (by omega);have fl:=Ns (c:=c) (aB:=i) (by omega) h1;have hwl:i*c.aQ.toNat<=8*4:=zdu (by omega) (by omega);have l8:=iH (H:=Hi) (by rw [M.same _ lt1];exact g1);have e1:=SY Hi.guard c hc i (by omega) h1;obtain⟨y,hy,cy⟩:=M.good.seq (q:=H1.next) aN (i:=8) (m:=1) (l:=(gW c i).map I) rfl;obtain⟨y',He,Hf,t1,t2,t3,t4⟩:=M.good.append (e:=3) (by_:=8) (by rw [M.base];simp only [H1,iC,dL];omega) aN (i:=8) rfl (by decide) (n:=i*c.aQ.toNat) (by rw [zax,Az,zbi]) cy (gI Hi (c.first i)) (yR _) (by unfold most;omega) (by unfold most;omega);rw [<-zbr,<-QJ h1 (by omega),qB,TY] at t3;have M':Made H1 Hf (upd oW H1.next (xQ c (gW c (i+1)))):=by
    exact M.step t3 t4
   obtain⟨H',r,M''⟩:=ih (i+1) (by omega) Hf M';refine⟨H',?_,M''⟩;rw [RU];simp only [xq_,h1,hy,l8,e1,t1,t2,bI,h6,h7,r]
 have e0:gW c 0=[]:=by unfold gW;rw [zbe];rfl
 obtain⟨H',r,M⟩:=key c.aW.toNat 0 (by omega) _ (by rw [e0];exact M0)
 replace r:yI cl [.ref H.next 0 0,.ref H1.next 0 0,I c.aW,I 0] (H1.new (.blk 0 195 xs))=some (.ref H1.next 0 0,H'):=r
 refine⟨H',H1.next,aX rfl rfl (ajN _ _ _ ?_),M.wS⟩;have b1:=iH g1;have em:bd 195 [(0,.agg c.av)]=some (.agg xs):=by
  simp only [xq_,ah0,jo,fJ,acT,Cfg.av,eH];rfl
 have g3:(H1.new (.blk 0 195 xs)).get H.next=.blk 0 24 c.av:=by rw [aS lt1];exact g1
 have l1:ld (.ref H.next 0 1) (H1.new (.blk 0 195 xs))=some (I c.aW,H1.new (.blk 0 195 xs)):=by rw [dR g3];rfl
 have bx1:fM 24 (.agg c.av) H=some (.ref H.next 0 0,H1):=aC (eu c) (by decide);have bx2:fM 195 (.agg xs) H1=some (.ref H1.next 0 0,H1.new (.blk 0 195 xs)):=aC hall (by decide);simp only [xq_,adD,bx1,b1,em,bx2,l1,r]
theorem Vy(H:ah){x:AV}(hx:aH H x 4 0 [])(n:Int):cl 112 [I n,x] H=some (B true,H):=by
 refine aV rfl rfl (adB _ _ _ _) ?_ dQ;have e1:=(hx.guard.new (.map .i64 [])).lnS;have h1:¬((0:Nat):Int) < ((0:Nat):Int):=by omega
 have r:pY cl [I n,.mp H.next,x,I ((0:Nat):Int),I 0] (H.guard.new (.map .i64 []))=some (B true,H.guard.new (.map .i64 [])):=by
  rw [nZ];have:¬(0:Int) < ((0:Nat):Int):=by omega
  simp only [xq_,this]
 simp only [xq_,X4,e1,r]
 try rfl
theorem Ox(H:ah)(hb:H.base<=H.next){c:Cfg}(hc:c.ok=true){p x:AV}{ps:List (List Opn)}(hp:Bv H p ps)(ho:c.mF ps=true)(hx:aH H x 4 0 []):
  ∃H' q,cl 64 [.agg c.av,p,x] H=some (.tup [.ref q 0 0,B true],H')/\Made H H' (upd oW q (xQ c (gW c c.aW.toNat))):=by
 let H1:=H.new (.blk 0 24 c.av);have g1:H1.get H.next=.blk 0 24 c.av:=aJ rfl
 have lt1:H.next < H1.next:=by simp only [H1,dL];omega
 obtain⟨hp1,hp2⟩:=yU ho;have Bd:=uN hc;have hn:=Bd.aP;have l8:=iH g1;have l0:ld (.ref H.next 0 0) H1=some (I c.aP,H1):=by rw [dR g1];rfl
 have e1:=SX H1 c hc (hp.fV (H':=H1) (by omega) λr hr=> aS hr) (by omega) λl hl=> by have:=hp2 l hl;omega
 rw [if_pos ho] at e1;have hx1:aH H1 x 4 0 []:=hx.new _;have e2:=Vy H1 hx1 c.aP;obtain⟨H',q,e3,M⟩:=aeH H1 (by simp only [H1,iC,dL];omega) hc;have hx2:aH H' x 4 0 []:=hx1.fV M.next λr _ hr=> M.same r hr
 have e4:=hx2.lnS;have b0:bi .neq 29 (I 0) (I 0)=some (B false):=by kernel_rfl
 have bx:fM 24 (.agg c.av) H=some (.ref H.next 0 0,H1):=aC (eu c) (by decide);have h1:¬(0:Int) < ((0:Nat):Int):=by omega
 have r:nR cl [p,.ref q 0 0,x,I ((0:Nat):Int),I 0] H'=some (.tup [.ref q 0 0,B true],H'):=by
  rw [zY];simp only [xq_,h1]
 refine⟨H',q,aX rfl rfl (XI _ _ _ _ _ ?_),M.wS⟩;simp only [xq_,UR,bx,l8,e1,b0,l0,e2,zad,e3,e4,r]
theorem Vz(H:ah){c:Cfg}(hc:c.ok=true){p x:AV}{ps:List (List Opn)}(hp:Bv H p ps)(ho:c.mF ps=true)(hx:aH H x 4 0 []):cl 24 [.agg c.av,p,x] H=some (B true,H):=by
 refine aV rfl rfl (aiA _ _ _ _ _) ?_ dQ;let H1:=H.guard.new (.blk 0 24 c.av);have g1:H1.get H.next=.blk 0 24 c.av:=aJ rfl
 have l8:=iH g1;obtain⟨H',q,e,_⟩:=Ox H1 (by simp only [H1,iC,dL,adi,tZ];omega) hc (hp.fV (H':=H1) (by simp only [H1,dL,tZ];omega) λr hr=> aS hr) ho (hx.guard.new _);have bx:fM 24 (.agg c.av) H.guard=some (.ref H.next 0 0,H1):=aC (eu c) (by decide);simp only [xq_,aa8,bx,l8,e]
theorem VA(H:ah){c:Cfg}(hc:c.ok=true){p x:AV}{ps:List (List Opn)}(hp:Bv H p ps)(ho:c.mF ps=true)(hx:aH H x 4 0 []):cl 26 [.agg c.av,p,x] H=some (dat (gW c c.aW.toNat),H):=by
 let H1:=H.guard.new (.blk 0 24 c.av);have g1:H1.get H.next=.blk 0 24 c.av:=aJ rfl
 have l8:=iH g1;obtain⟨H',q,e,M⟩:=Ox H1 (by simp only [H1,iC,dL,adi,tZ];omega) hc (hp.fV (H':=H1) (by simp only [H1,dL,tZ];omega) λr hr=> aS hr) ho (hx.guard.new _);have bx:fM 24 (.agg c.av) H.guard=some (.ref H.next 0 0,H1):=aC (eu c) (by decide);have ml:=(Fh hc).len;have Bd:=uN hc;have e5:cl 66 [.ref q 0 0] H'=some (dat (gW c c.aW.toNat),H'):=by
  have hbd:=Bd.iF;have G:=M.good;obtain⟨y,hy,cy⟩:=G.guard.seq (q:=q) aN (i:=8) (m:=1) (l:=(gW c c.aW.toNat).map I) rfl;have hs:jR H'.guard y (gW c c.aW.toNat):=⟨cy.is (by decide) (by simp),cy.one,λe=> by
   rw [e] at ml;simp only [zam] at ml;unfold Cfg.iF at ml;omega⟩
  have e6:=uQ H'.guard (by unfold Cfg.iF at ml;omega) hs;refine aV rfl rfl (ai5 _ _ _) ?_ nM;simp only [xq_,afM,hy,e6]
 refine iG rfl rfl (afs _ _ _ _ _ (r:=(dat (gW c c.aW.toNat),H')) ?_) (nM _ _);simp only [xq_,aa9,bx,l8,e,zad,e5]
def ZR(N n:Int)(e:Evn):Bool:=!(decide (e.bn < 0) || decide (N<=e.bn)) && decide (e.index=n / 2) && decide (e.done=decide (n % 2=1)) && (e.done || decide (e.value=0))
def rE(N:Int):List (Int × Int)->List Evn->Bool
 | _,[]=> true
 | es,e::l=> if ZR N ((jM es e.bn).getD 0) e=true then rE N (nC es e.bn ((jM es e.bn).getD 0+1)) l else false
def JY(ps:List (List Opn)):List Evn->List Int->Option (List Int)
 | [],ws=> some ws
 | e::l,ws=> if(((ps.getD e.bn.toNat []).length:Nat):Int)<=e.index then none else if e.done=false then JY ps l ws else
  if(uZ ws ((ps.getD e.bn.toNat []).getD e.index.toNat .zero)).2=e.value then JY ps l (uZ ws ((ps.getD e.bn.toNat []).getD e.index.toNat .zero)).1 else none
def vg(c:Cfg)(ps:List (List Opn))(l:List Evn):Option (List Int):=
 if(c.mF ps && rE c.aP [] l)=true then JY ps l (gW c c.aW.toNat) else none
def apa(N:Int)(e:Evn):Prop:=0<=e.bn/\e.bn < N/\0<=e.index
theorem Oy {N:Int}:∀{l:List Evn} {es:List (Int × Int)},(∀k v,jM es k=some v->0<=v)->rE N es l=true->∀e∈l,apa N e
 | [],_,_,_,e,he=> by cases he
 | x::l,es,hes,h,e,he=> by
  unfold rE at h;have hn:0<=(jM es x.bn).getD 0:=by
   cases hg:jM es x.bn with
   | none=> exact zby 0
   | some v=> exact hes _ _ hg
  split at h
  ·rename_i hx;rcases zar.1 he with rfl | he
   ·unfold ZR at hx;simp only [zaj,zbf,Bool.or_eq_false_iff,decide_eq_false_iff_not,decide_eq_true_eq] at hx;obtain⟨⟨⟨⟨h1,h2⟩,h3⟩,_⟩,_⟩:=hx;exact⟨by omega,by omega,by rw [h3];omega⟩
   ·refine Oy (λk v hk=> ?_) h e he;rw [oM] at hk;split at hk
    ·cases hk;omega
    ·exact hes k v hk
  ·cases h
theorem ZT {c:Cfg}(hc:1<=c.aP){o:Opn}(h:c.right o=true):c.mF ([o]::List.replicate (c.aP.toNat - 1) [])=true:=by
 unfold Cfg.mF;simp only [zb2,zah,zam,zcv,h,za6,zde,zaj,decide_eq_true_eq,zaZ,zdz];refine⟨⟨by omega,λl hl=> ?_⟩,by omega⟩;rw [hl.2];exact⟨by simp,λo ho=> by cases ho⟩
theorem alU {b:Nat}{H:ah}{g:bg}{q:Nat}{c:Cfg}{ws:List Int}(G:Good b H g)(hb:H.base<=b)(h:g q=some (xQ c ws))(hc:c.ok=true)(hl:(ws.length:Int)=c.iF){o:Opn}(ho:c.right o=true):
  ∃H',cl 114 [.ref q 0 0,.agg o.av] H=some (.tup [I (uZ ws o).2,I 0],H')/\Good b H' (upd g q (xQ c (uZ ws o).1))/\Step b H H':=by
 have Bd:=uN hc;have hn:=Bd.aP;have had:=Bd.iF;obtain⟨a0,a1,_,_,k1,k2⟩:=ag1 ho;let n:=c.aP.toNat;have hnn:(n:Int)=c.aP:=zbl (by omega);let H1:=H.new (.blk 0 26 o.av);let H2:=H1.new (.blk 0 27 (dI [zN] n));let H3:=H2.new (.blk 0 26 o.av);let H4:=H3.put (H.next+1) (.blk 0 27 (.sl (H.next+1+1) 0 0 3 1 1 true::List.replicate (n - 1) zN));have n1:H1.next=H.next+1:=rfl
 have n2:H2.next=H.next+1+1:=rfl
 have n3:H3.next=H.next+1+1+1:=rfl
 have n4:H4.next=H.next+1+1+1:=rfl
 have hq:=G.lt h;have hbn:=G.1;have s4:Step b H H4:=((Step.new _ G.1).trans ((Step.new _ (by rw [n1];omega)).trans (Step.new _ (by rw [n2];omega)))).trans (Step.put _ (by omega));have low4:∀r,r < H.next->H4.get r=H.get r:=λr hr=> by
  simp only [H4,bQ];rw [if_neg (by omega)];simp only [H3,H2,H1];rw [aS (by rw [dL,dL];omega),aS (by rw [dL];omega),aS hr]
 have G1:Good b H1 g:=G.new _;have G4:Good b H4 g:=G.ext (by rw [n4];omega) low4;have gb1:H1.get H.next=.blk 0 26 o.av:=aJ rfl
 have gb4:H4.get H.next=.blk 0 26 o.av:=by
  simp only [H4,bQ];rw [if_neg (by omega)];simp only [H3,H2];rw [aS (by rw [dL,n1];omega),aS (by rw [n1];omega)];exact gb1
 have bx:fM 26 (.agg o.av) H=some (.ref H.next 0 0,H1):=aC (nK o) (by decide);have l0:=G1.load h (i:=0) (x:=I c.aP) rfl;have e1:mks 27 1 24 [zN] (I c.aP) (I c.aP) H1=some (.sl (H.next+1) 0 0 1 n n true,H2):=ado (e:=27) (m:=1) (by_:=24) (z:=[zN]) (n:=c.aP) (H:=H1) rfl rfl (by omega) (by omega) (by decide);have l3:lda 3 (.ref H.next 0 0) H2=some (.agg o.av,H2):=(fO (off:=0) (n:=3) (xs:=o.av) (by simp only [H2];rw [aS (by rw [n1];omega)];exact gb1) (zac 3)).trans rfl;have eb:bs 27 1 [(0,.agg o.av)] H2=some (.sl (H.next+1+1) 0 0 3 1 1 true,H3):=(WT (by decide)).trans (gZ rfl rfl (nK o));have g3:H3.get (H.next+1)=.blk 0 27 (List.replicate n zN):=by
  simp only [H3];rw [aS (by rw [n2];omega),<-oC];exact aJ n1.symm
 have e2:ix 1 (.sl (H.next+1) 0 0 1 n n true) (I 0) H3=some (.ref (H.next+1) 0 0,H3):=(alf (k:=.i64) (j:=0) g3 (by omega)).trans rfl;have hset:(List.replicate n zN).set 0 (.sl (H.next+1+1) 0 0 3 1 1 true)=.sl (H.next+1+1) 0 0 3 1 1 true::List.replicate (n - 1) zN:=by
  obtain⟨k,hk⟩:∃k,n=k+1:=⟨n - 1,by omega⟩
  rw [hk];rfl
 have e3:st 1 (.ref (H.next+1) 0 0) (.sl (H.next+1+1) 0 0 3 1 1 true) H3=some (aO,H4):=by
  have:=LG (v:=.sl (H.next+1+1) 0 0 3 1 1 true) (off:=0) mZ g3 (by simp only [H3,H2,H1,iC];omega) (by rw [za6];omega);rw [hset] at this;exact this
 have l8:lda 8 (.ref q 0 0) H4=some (.agg c.av,H4):=G4.loads h (i:=0) (n:=8) (xs:=c.av) rfl rfl (by decide);have hps:Bv H4 (.sl (H.next+1) 0 0 1 n n true) ([o]::List.replicate (n - 1) []):=by
  have hlen:([o]::List.replicate (n - 1) ([]:List Opn)).length=n:=by simp only [zah,za6];omega
  refine⟨.sl (H.next+1+1) 0 0 3 1 1 true::List.replicate (n - 1) zN,?_,λi v l hv hl=> ?_⟩
  ·rw [hlen];refine⟨by simp only [zah,za6];omega,rfl,rfl,⟨by rw [n4];omega,zac _⟩,27,_,by simp only [H4,bQ,if_true];rfl,by simp only [zah,za6];omega,?_⟩;rw [zaO,zaE (by simp only [zah,za6];omega)]
  ·match i with
   | 0=>
    cases hv;cases hl;refine⟨⟨rfl,rfl,rfl,⟨by rw [n4];omega,zac _⟩,26,o.av,?_,zac _,rfl⟩,λh=> by cases h⟩;simp only [H4,bQ];rw [if_neg (by omega)];exact aJ n2.symm
   | i+1=>
    simp only [zbo,zcw] at hv hl;split at hv
    ·cases hv;rename_i hi;rw [if_pos hi] at hl;cases hl;exact⟨aH.nil,λ_=> rfl⟩
    ·cases hv
 have e4:=SX H4 c hc hps (by simp only [zah,za6];omega) (λl hl=> by
  rcases zar.1 hl with rfl | hl
  ·simp
  ·rw [List.eq_of_mem_replicate hl];simp)
 rw [if_pos (ZT (by omega) ho)] at e4;have b0:bi .neq 29 (I 0) (I 0)=some (B false):=by kernel_rfl
 obtain⟨x,hx,cx⟩:=G4.seq h (i:=8) (m:=1) (l:=ws.map I) rfl;have O:=cx.is (n:=ws.length) (by decide) (by simp);have hf:∀K:ah,K=H4->ld (.ref H.next 0 0) K=some (I o.bf,K)/\ld (.ref H.next 0 1) K=some (I o.addr,K)/\ld (.ref H.next 0 2) K=some (I o.value,K):=λK e=> by
  subst e;exact⟨by rw [dR gb4];rfl,by rw [dR gb4];rfl,by rw [dR gb4];rfl⟩
 obtain⟨f0,f1,f2⟩:=hf H4 rfl;have i1:=O.ix (k:=.i64) (i:=o.addr) a0 (by omega);have d1:=O.ld (i:=o.addr.toNat) (by omega);have hg:ws[o.addr.toNat]?=some (ws.getD o.addr.toNat 0):=by
  rw [zaJ,zab (by omega)];rfl
 rw [zaD,hg,zai,zai] at d1;have wr:∀v:Int,∃H',st 1 (dW x o.addr.toNat) (I v) H4=some (aO,H')/\Good b H' (upd g q (xQ c (ws.set o.addr.toNat v)))/\Step b H H':=λv=> by
  obtain⟨r,gg,off,p1,p2⟩:=G4.elem (by rw [s4.base];exact hb) h (i:=8) (m:=1) (n:=ws.length) (l:=ws.map I) rfl (by decide) (by simp) cx (j:=o.addr.toNat) (by omega);obtain⟨H',q1,q2,q3,_⟩:=p2 1 0 (I v) rfl rfl (zac 1);refine⟨H',by rw [p1];exact q1,?_,s4.trans q3⟩;have:aG (ws.map I) (o.addr.toNat*1+0) (I v).cells=(ws.set o.addr.toNat v).map I:=by
   rw [zbi,zbp,show(I v).cells=[I v] from rfl,D9 (by rw [zax];omega),List.map_set]
  rw [this,TY] at q2;exact q2
 have same:Good b H4 (upd g q (xQ c ws)):=by
  have:upd g q (xQ c ws)=g:=by
   funext k
   by_cases hk:k=q
   ·rw [hk,aN,h]
   ·rw [aY hk]
  rw [this];exact G4
 have go:Cc cl H4=some (.tup [I 0,I 0],H4):=rfl;by_cases h1:o.bf=1
 ·have ha:uZ ws o=(ws,ws.getD o.addr.toNat 0):=by unfold uZ;rw [if_neg (by omega),if_neg (by omega),if_neg (by omega)]
  rw [ha];refine⟨H4,aX rfl rfl (RX _ _ _ _ ?_),same,s4⟩;simp only [Int.reduceEq,xq_,ML,bx,l0,e1,l3,eb,e2,e3,l8,e4,b0,hx,f1,i1,d1,f0,h1]
 by_cases h2:o.bf=2
 ·have ha:uZ ws o=(ws.set o.addr.toNat o.value,0):=by unfold uZ;rw [if_pos h2]
  rw [ha];obtain⟨H',w1,w2,w3⟩:=wr o.value;have go':Cc cl H'=some (.tup [I 0,I 0],H'):=rfl;refine⟨H',aX rfl rfl (RX _ _ _ _ ?_),w2,w3⟩;simp only [Int.reduceEq,xq_,ML,bx,l0,e1,l3,eb,e2,e3,l8,e4,b0,hx,f1,i1,d1,f0,f2,h2,Int.reduceEq,w1,go']
 by_cases h3:o.bf=3
 ·have ha:uZ ws o=(ws.set o.addr.toNat (w64 (ws.getD o.addr.toNat 0+o.value)),ws.getD o.addr.toNat 0):=by unfold uZ;rw [if_neg h2,if_pos h3]
  rw [ha];obtain⟨H',w1,w2,w3⟩:=wr (w64 (ws.getD o.addr.toNat 0+o.value));simp only [w64] at w1;refine⟨H',aX rfl rfl (RX _ _ _ _ ?_),w2,w3⟩;simp only [Int.reduceEq,xq_,ML,bx,l0,e1,l3,eb,e2,e3,l8,e4,b0,hx,f1,i1,d1,f0,f2,h3,Int.reduceEq,bI,w1]
 ·have ha:uZ ws o=(ws,0):=by unfold uZ;rw [if_neg h2,if_neg h3,if_pos (by omega)]
  rw [ha];refine⟨H4,aX rfl rfl (RX _ _ _ _ ?_),same,s4⟩;simp only [xq_,ML,bx,l0,e1,l3,eb,e2,e3,l8,e4,b0,hx,f1,i1,d1,f0,h1,h2,h3,go]
theorem aoF {H:ah}{r:Nat}{es:List (Int × Int)}(h:H.get r=.map .i64 (LQ I es))(n:Int):lk .i64 (.int .i64 0) (.mp r) (I n) false H=some (I ((jM es n).getD 0),H):=by
 have hf:=sJ I es n;show(lkO .i64 (.int .i64 0) (.mp r) (I n) false (some (H.get r))).map (λv=> (v,H))=_;rw [h];simp only [lkO,hf];rw [if_pos ⟨trivial,trivial⟩];cases jM es n with
 | none=> rfl
 | some v=> rfl
theorem alV {H:ah}{r:Nat}{es:List (Int × Int)}(h:H.get r=.map .i64 (LQ I es))(hb:H.base<=r)(n v:Int):mup .i64 (.mp r) (I n) (I v) H=some (aO,H.put r (.map .i64 (LQ I (nC es n v)))):=by
 simp only [mup,h];rw [if_pos ⟨trivial,trivial,hb⟩,zS]
theorem VB(H:ah){x:AV}{l:List Evn}(hx:aH H x 4 l.length (l.flatMap Evn.av))(hl:l.length<=100000)(N:Int):cl 112 [I N,x] H=some (B (rE N [] l),H):=by
 refine aV rfl rfl (adB _ _ _ _) ?_ dQ;let H1:=H.guard.new (.map .i64 []);have hxs:∀K,Step H.next H.guard K->aH K x 4 l.length (l.flatMap Evn.av):=λK s=> hx.fV (H':=K) s.next λr _ hr=> s.low r hr
 have key:∀k j,j+k=l.length->∀(es:List (Int × Int)) K,Step H.next H.guard K->H.next < K.next->K.get H.next=.map .i64 (LQ I es)->(∀n v,jM es n=some v->0<=v/\v<=j)->
   (pY cl [I N,.mp H.next,x,I l.length,I j] K).map Prod.fst=some (B (rE N es (l.drop j))):=by
  intro k
  induction k with
  | zero=>
   intro j hj es K s hK hm he;have h1:¬(j:Int) < l.length:=by omega
   rw [zaF (by omega),nZ];simp only [rE];simp only [xq_,h1]
  | succ k ih=>
   intro j hj es K s hK hm he;have h1:(j:Int) < l.length:=by omega
   obtain⟨e,hje⟩:∃e,l[j]?=some e:=⟨_,zab (by omega)⟩
   have hS:=hxs K s;have s1:=hS.ix (k:=.i64) (i:=(j:Int)) (by omega) h1;rw [zao] at s1;have t1:=jX mg hS hje;have hbn:K.base<=K.next:=by rw [s.base];exact s.next
   let K1:=K.new (.blk 0 137 e.av);have st4:st 4 (.ref K.next 0 0) (.agg e.av) (K.new (.blk 0 137 [zI,zI,zB,zI]))=some (aO,K1):=by
    rw [lS rfl];simp only [Nat.reduceAdd,aG,xq_,hq_,Evn.av,hbn];rfl
   have g1:K1.get K.next=.blk 0 137 e.av:=aJ rfl
   have gm:K1.get H.next=.map .i64 (LQ I es):=by simp only [K1];rw [aS hK];exact hm
   have l0:ld (.ref K.next 0 0) K1=some (I e.bn,K1):=by rw [dR g1];rfl
   have l1:ld (.ref K.next 0 1) K1=some (I e.index,K1):=by rw [dR g1];rfl
   have l2:ld (.ref K.next 0 2) K1=some (B e.done,K1):=by rw [dR g1];rfl
   have l3:ld (.ref K.next 0 3) K1=some (I e.value,K1):=by rw [dR g1];rfl
   obtain⟨n,hn⟩:∃n,n=(jM es e.bn).getD 0:=⟨_,rfl⟩
   have hnb:0<=n/\n<=j:=by
    rw [hn];cases hg:jM es e.bn with
    | none=> simp only [zaT];omega
    | some v=> exact he _ _ hg
   have e1:=aoF gm e.bn;rw [<-hn] at e1;have q:n.tdiv 2=n / 2:=zcj hnb.1;have r:n.tmod 2=n % 2:=zbB hnb.1;have w:=wrap_i64 (a:=n / 2) (by omega) (by omega);have w1:=wrap_i64 (a:=n+1) (by omega) (by omega);have z:(2:Int)≠0:=by decide
   have hd:l.drop j=e::l.drop (j+1):=by
    rw [zaR (by omega)];rw [zab (by omega)] at hje;rw [zaX hje]
   have h6:(j:Int)+1=((j+1:Nat):Int):=by omega
   have h7:=wrap_i64 (a:=((j+1:Nat):Int)) (by omega) (by omega);have e2:=alV gm (by simp only [K1,iC];rw [s.base];exact zac _) e.bn (n+1);let K2:=K1.put H.next (.map .i64 (LQ I (nC es e.bn (n+1))))
   have s2:Step H.next H.guard K2:=(s.trans (Step.new _ s.next)).trans (Step.put _ (zac _))
   have rr:=ih (j+1) (by omega) (nC es e.bn (n+1)) K2 s2 (by simp only [K2,K1,amM,dL];omega) (by simp only [K2,bQ,if_true]) (λm v hm=> by
    rw [oM] at hm;split at hm
    ·cases hm;omega
    ·have:=he m v hm;omega)
   simp only [K2] at rr;rw [hd];unfold rE;rw [<-hn];have fin:∀ok:Bool,ZR N n e=ok->(pY cl [I N,.mp H.next,x,I l.length,I j] K).map Prod.fst=some (B (if ok=true then rE N (nC es e.bn (n+1)) (l.drop (j+1)) else false))->(pY cl [I N,.mp H.next,x,I l.length,I j] K).map Prod.fst=some (B (if ZR N n e=true then rE N (nC es e.bn (n+1)) (l.drop (j+1)) else false)):=λok h1 h2=> by rw [h1];exact h2
   by_cases c1:e.bn < 0
   ·refine fin false (by unfold ZR;rw [decide_eq_true c1];rfl) ?_;rw [nZ,if_neg (by decide)];simp only [xq_,h1,s1,t1,st4,l0,e1,c1]
   by_cases c2:e.bn≥N
   ·refine fin false (by unfold ZR;rw [decide_eq_true (show N<=e.bn from c2),zcO];rfl) ?_;rw [nZ,if_neg (by decide)];simp only [xq_,h1,s1,t1,st4,l0,e1,c1,c2]
   by_cases c3:e.index=n / 2;rotate_left
   ·refine fin false (by unfold ZR;rw [decide_eq_false c3];simp) ?_;rw [nZ,if_neg (by decide)];simp only [xq_,h1,s1,t1,st4,l0,l1,e1,c1,c2,xg z,q,w,c3,zaf]
   have nbq:bi .neq 4 (B e.done) (B (decide (n % 2=1)))=some (B (!decide (e.done=decide (n % 2=1)))):=S9 _ _;by_cases c4:e.done=decide (n % 2=1);rotate_left
   ·refine fin false (by unfold ZR;rw [decide_eq_false c4];simp) ?_;rw [decide_eq_false c4] at nbq;rw [nZ,if_neg (by decide)];simp only [xq_,h1,s1,t1,st4,l0,l1,l2,e1,c1,c2,xg z,qA z,q,r,w,c3,eq_self,zad,zaf,nbq]
   rw [decide_eq_true c4] at nbq;have d1:decide (e.bn < 0)=false:=decide_eq_false c1;have d2:decide (N<=e.bn)=false:=decide_eq_false c2;cases c5:e.done with
   | true=>
    rw [c5] at l2 nbq c4;refine fin true (by unfold ZR;rw [d1,d2,decide_eq_true c3,c5,decide_eq_true c4];rfl) ?_;rw [nZ,if_pos rfl];simp only [xq_,h1,s1,t1,st4,l0,l1,l2,e1,c1,c2,xg z,qA z,q,r,w,c3,eq_self,zad,nbq,bI,w1,e2,h6,h7,rr]
   | false=>
    rw [c5] at l2 nbq c4;by_cases c6:e.value=0
    ·refine fin true (by unfold ZR;rw [d1,d2,decide_eq_true c3,c5,decide_eq_true c4,decide_eq_true c6];rfl) ?_;rw [nZ,if_pos rfl];simp only [xq_,h1,s1,t1,st4,l0,l1,l2,l3,e1,c1,c2,xg z,qA z,q,r,w,c3,eq_self,zad,zaf,nbq,c6,bI,w1,e2,h6,h7,rr]
    ·refine fin false (by unfold ZR;rw [decide_eq_false c6,c5];simp) ?_;rw [nZ,if_neg (by decide)];simp only [xq_,h1,s1,t1,st4,l0,l1,l2,l3,e1,c1,c2,xg z,qA z,q,r,w,c3,eq_self,zad,zaf,nbq,c6]
 have e1:=(hxs H1 (Step.new _ (zac _))).lnS;have r:=key l.length 0 (by omega) [] H1 (Step.new _ (zac _)) (by simp only [H1,dL,tZ];omega) (aJ rfl) (λn v h=> by cases h);rw [zaO] at r
 replace r:(pY cl [I N,.mp H.next,x,I l.length,I 0] H1).map Prod.fst=some (B (rE N [] l)):=r
 simp only [H1] at e1 r;simp only [xq_,X4,e1,r]
theorem ZU {c:Cfg}{ps:List (List Opn)}(h:c.mF ps=true):∀l∈ps,∀o∈l,c.right o=true:=by
 unfold Cfg.mF at h;simp only [zaj,decide_eq_true_eq,zaZ] at h;exact λl hl=> (h.1 l hl).2
theorem ag2 {c:Cfg}(hc:c.ok=true){ps:List (List Opn)}(ho:c.mF ps=true){l:List Evn}(hl:l.length<=100000)(hin:∀e∈l,apa c.aP e){b:Nat}{p x:AV}{B0:ah}(hp:∀K,Step b B0 K->Bv K p ps)(hx:∀K,Step b B0 K->aH K x 4 l.length (l.flatMap Evn.av)){q:Nat}:
  ∀k j,j+k=l.length->∀{K:ah} {ws:List Int},K.base<=b->Step b B0 K->Good b K (upd oW q (xQ c ws))->(ws.length:Int)=c.iF->
   ∃K',Step b B0 K'/\((JY ps (l.drop j) ws=none/\nR cl [p,.ref q 0 0,x,I l.length,I j] K=some (.tup [zP,B false],K'))∨∃ws',JY ps (l.drop j) ws=some ws'/\nR cl [p,.ref q 0 0,x,I l.length,I j] K=some (.tup [.ref q 0 0,B true],K')/\Good b K' (upd oW q (xQ c ws'))/\(ws'.length:Int)=c.iF):=by
 intro k;obtain⟨hp1,hp2⟩:=yU ho;have Bd:=uN hc;have hnodes:=Bd.aP
 induction k with
 | zero=>
  intro j hj K ws hb s G hw;have h1:¬(j:Int) < l.length:=by omega
  refine⟨K,s,.inr ⟨ws,by rw [zaF (by omega)];rfl,?_,G,hw⟩⟩;rw [zY];simp only [xq_,h1]
 | succ k ih=>
  intro j hj K ws hb s G hw;have h1:(j:Int) < l.length:=by omega
  obtain⟨e,hje⟩:∃e,l[j]?=some e:=⟨_,zab (by omega)⟩
  have ein:=hin e (zaw hje);have hS:=hx K s;have s1:=hS.ix (k:=.i64) (i:=(j:Int)) (by omega) h1;rw [zao] at s1;have t1:=jX mg hS hje;have hbn:K.base<=K.next:=zas hb G.1
  let K1:=K.new (.blk 0 137 e.av);have st4:st 4 (.ref K.next 0 0) (.agg e.av) (K.new (.blk 0 137 [zI,zI,zB,zI]))=some (aO,K1):=by
   rw [lS rfl];simp only [Nat.reduceAdd,aG,xq_,hq_,Evn.av,hbn];rfl
  have q0:(upd oW q (xQ c ws)) q=some (xQ c ws):=aN;have hqK:=G.lt q0;have G1:Good b K1 (upd (upd oW q (xQ c ws)) K.next (e.av.map .av)):=G.newObj (ty:=137) (xs:=e.av) (xB e);have sK1:Step b B0 K1:=s.trans (Step.new _ G.1);have ev0:(upd (upd oW q (xQ c ws)) K.next (e.av.map .av)) K.next=some (e.av.map .av):=aN
  have l0:=G1.load ev0 (i:=0) (x:=I e.bn) rfl;have l1:=G1.load ev0 (i:=1) (x:=I e.index) rfl;have l2:=G1.load ev0 (i:=2) (x:=B e.done) rfl;obtain⟨cells,x1,x2⟩:=hp K1 sK1;have hcl:cells.length=ps.length:=by have:=x1.1;omega
  have alW:e.bn.toNat < ps.length:=by have:=ein.1;have:=ein.2.1;omega
  have i1:=x1.ix (k:=.i64) (i:=e.bn) ein.1 (by have:=ein.2.1;omega);have d1:=x1.ld (i:=e.bn.toNat) alW;obtain⟨v,hv⟩:∃v,cells[e.bn.toNat]?=some v:=⟨_,zab (by omega)⟩
  obtain⟨pl,hpl⟩:∃pl,ps[e.bn.toNat]?=some pl:=⟨_,zab alW⟩
  have hgd:ps.getD e.bn.toNat []=pl:=by rw [zaJ,hpl];rfl
  rw [hv] at d1;obtain⟨v1,_⟩:=x2 _ v pl hv hpl;have ln:=v1.lnS;have hd:l.drop j=e::l.drop (j+1):=by
   rw [zaR (by omega)];rw [zab (by omega)] at hje;rw [zaX hje]
  have h6:(j:Int)+1=((j+1:Nat):Int):=by omega
  have h7:=wrap_i64 (a:=((j+1:Nat):Int)) (by omega) (by omega);rw [hd];unfold JY;rw [hgd];have back:∀{K2:ah} {ws2:List Int},Good b K2 (upd (upd (upd oW q (xQ c ws)) K.next (e.av.map .av)) q (xQ c ws2))->Good b K2 (upd oW q (xQ c ws2)):=λG2=> G2.sub λk cs hk=> by
   by_cases hkq:k=q
   ·rw [hkq,aN] at hk ⊢;exact hk
   ·rw [aY hkq] at hk;cases hk
  by_cases c1:e.index≥(pl.length:Int)
  ·rw [if_pos (show((pl.length:Nat):Int)<=e.index from c1)];refine⟨K1,sK1,.inl ⟨rfl,?_⟩⟩;rw [zY];simp only [xq_,h1,s1,t1,st4,l0,l1,i1,d1,ln,c1]
  have c1':¬((pl.length:Nat):Int)<=e.index:=c1;rw [if_neg c1'];cases c2:e.done with
  | false=>
   rw [c2] at l2;rw [if_pos rfl];have G1':Good b K1 (upd oW q (xQ c ws)):=G.new _;obtain⟨K',s',r⟩:=ih (j+1) (by omega) (K:=K1) (ws:=ws) (by simp only [K1,iC];exact hb) sK1 G1' hw;refine⟨K',s',?_⟩;have go:nR cl [p,.ref q 0 0,x,I l.length,I j] K=nR cl [p,.ref q 0 0,x,I l.length,I (j+1:Nat)] K1:=by
    rw [zY];simp only [xq_,h1,s1,t1,st4,l0,l1,l2,i1,d1,ln,c1,zaf,Jj,bI,h6,h7]
   rw [go];exact r
  | true=>
   rw [c2] at l2;rw [if_neg (by decide)];have hix:e.index.toNat < pl.length:=by have:=ein.2.2;omega
   obtain⟨o,hoo⟩:∃o,pl[e.index.toNat]?=some o:=⟨_,zab hix⟩
   have hgo:pl.getD e.index.toNat .zero=o:=by rw [zaJ,hoo];rfl
   rw [hgo];have i2:=v1.ix (k:=.i64) (i:=e.index) ein.2.2 (by omega);have d2:=jX fH v1 hoo;have hne:q≠K.next:=by omega
   have hq1:(upd (upd oW q (xQ c ws)) K.next (e.av.map .av)) q=some (xQ c ws):=by rw [aY hne];exact aN
   obtain⟨K2,a1,G2,s2⟩:=alU G1 (by simp only [K1,iC];exact hb) hq1 hc hw (ZU ho pl (zaw hpl) o (zaw hoo));have ev2:(upd (upd (upd oW q (xQ c ws)) K.next (e.av.map .av)) q (xQ c (uZ ws o).1)) K.next=some (e.av.map .av):=by rw [aY (Ne.symm hne)];exact aN
   have l3:=G2.load ev2 (i:=3) (x:=I e.value) rfl;have b0:bi .neq 29 (I 0) (I 0)=some (B false):=by kernel_rfl
   by_cases c3:(uZ ws o).2=e.value
   ·rw [if_pos c3];obtain⟨K',s',r⟩:=ih (j+1) (by omega) (K:=K2) (ws:=(uZ ws o).1) (by rw [s2.base];simp only [K1,iC];exact hb) (sK1.trans s2) (back G2) (by rw [Ov];exact hw);refine⟨K',s',?_⟩;have go:nR cl [p,.ref q 0 0,x,I l.length,I j] K=nR cl [p,.ref q 0 0,x,I l.length,I (j+1:Nat)] K2:=by
     rw [zY];rw [c3] at a1;simp only [xq_,h1,s1,t1,st4,l0,l1,l2,i1,d1,ln,c1,zad,i2,d2,a1,b0,l3,eq_self,Jj,bI,h6,h7]
    rw [go];exact r
   ·rw [if_neg c3];refine⟨K2,sK1.trans s2,.inl ⟨rfl,?_⟩⟩;rw [zY];simp only [xq_,h1,s1,t1,st4,l0,l1,l2,i1,d1,ln,c1,zad,zaf,i2,d2,a1,b0,l3,c3]
theorem Ua(H:ah)(hb:H.base<=H.next){c:Cfg}(hc:c.ok=true){p x:AV}{ps:List (List Opn)}(hp:Bv H p ps)(hpn:ps.length < 1000)(hpl:∀l∈ps,l.length < 1000){l:List Evn}(hx:aH H x 4 l.length (l.flatMap Evn.av))(hl:l.length<=100000):
  ∃H',Step H.next H H'/\((vg c ps l=none/\cl 64 [.agg c.av,p,x] H=some (.tup [zP,B false],H'))∨∃ws q,vg c ps l=some ws/\cl 64 [.agg c.av,p,x] H=some (.tup [.ref q 0 0,B true],H')/\Good H.next H' (upd oW q (xQ c ws))/\(ws.length:Int)=c.iF):=by
 let H1:=H.new (.blk 0 24 c.av);have s1:Step H.next H H1:=Step.new _ (zac _)
 have g1:H1.get H.next=.blk 0 24 c.av:=aJ rfl
 have l8:=iH g1;have l0:ld (.ref H.next 0 0) H1=some (I c.aP,H1):=by rw [dR g1];rfl
 have hp1:Bv H1 p ps:=hp.fV s1.next λr hr=> s1.low r hr
 have hx1:aH H1 x 4 l.length (l.flatMap Evn.av):=hx.new _;have e1:=SX H1 c hc hp1 (by omega) λl hl=> by have:=hpl l hl;omega
 have e2:=VB H1 hx1 hl c.aP;have bx:fM 24 (.agg c.av) H=some (.ref H.next 0 0,H1):=aC (eu c) (by decide);have b0:bi .neq 29 (I 0) (I 0)=some (B false):=by kernel_rfl
 have b1:bi .neq 29 (I 1) (I 0)=some (B true):=by kernel_rfl
 unfold vg;cases ho:c.mF ps with
 | false=>
  rw [if_neg (by rw [ho];decide)] at e1;refine⟨H1,s1,.inl ⟨by rw [if_neg (by simp)],aX rfl rfl (XI _ _ _ _ _ ?_)⟩⟩;simp only [xq_,UR,bx,l8,e1,b1]
 | true=>
  rw [if_pos ho] at e1;cases hr:rE c.aP [] l with
  | false=>
   rw [hr] at e2;refine⟨H1,s1,.inl ⟨by rw [if_neg (by simp)],aX rfl rfl (XI _ _ _ _ _ ?_)⟩⟩;simp only [xq_,UR,bx,l8,e1,b0,l0,e2,zaf]
  | true=>
   rw [hr] at e2;rw [if_pos (show(true && true)=true from rfl)];obtain⟨H2,q,e3,M⟩:=aeH H1 (by simp only [H1,iC,dL];omega) hc;have s12:Step H.next H H2:=s1.trans ⟨M.base,M.next,λr hr=> M.same r (by simp only [H1,dL];omega)⟩
   have hx2:aH H2 x 4 l.length (l.flatMap Evn.av):=hx1.fV M.next λr _ hr=> M.same r hr
   have e4:=hx2.lnS;have ml:=(Fh hc).len;obtain⟨K',s',r⟩:=ag2 hc ho hl (Oy (λk v h=> by cases h) hr) (b:=H1.next) (p:=p) (x:=x) (B0:=H2) (λK s=> hp1.fV (zas M.next s.next) λr hr=> by rw [s.low r hr,M.same r hr]) (λK s=> hx1.fV (zas M.next s.next) λr _ hr=> by rw [s.low r hr,M.same r hr]) (q:=q) l.length 0 (by omega) (K:=H2) (ws:=gW c c.aW.toNat) (by rw [M.base];simp only [H1,iC,dL];omega) (Step.refl _ _) M.good ml;rw [zaO] at r;have sA:Step H.next H K':=s12.trans ⟨s'.base,s'.next,λr hr=> s'.low r (by simp only [H1,dL];omega)⟩
   rcases r with⟨r1,r2⟩ | ⟨ws',r1,r2,r3,r4⟩
   ·replace r2:nR cl [p,.ref q 0 0,x,I l.length,I 0] H2=some (.tup [zP,B false],K'):=r2
    refine⟨K',sA,.inl ⟨r1,aX rfl rfl (XI _ _ _ _ _ ?_)⟩⟩;simp only [xq_,UR,bx,l8,e1,b0,l0,e2,zad,e3,e4,r2]
   ·replace r2:nR cl [p,.ref q 0 0,x,I l.length,I 0] H2=some (.tup [.ref q 0 0,B true],K'):=r2
    refine⟨K',sA,.inr ⟨ws',q,r1,aX rfl rfl (XI _ _ _ _ _ ?_),r3.weak (by simp only [H1,dL];omega),r4⟩⟩;simp only [xq_,UR,bx,l8,e1,b0,l0,e2,zad,e3,e4,r2]
theorem ZV(H:ah){c:Cfg}(hc:c.ok=true){p x:AV}{ps:List (List Opn)}(hp:Bv H p ps)(hpn:ps.length < 1000)(hpl:∀l∈ps,l.length < 1000){l:List Evn}(hx:aH H x 4 l.length (l.flatMap Evn.av))(hl:l.length<=100000):cl 24 [.agg c.av,p,x] H=some (B (vg c ps l).isSome,H):=by
 refine aV rfl rfl (aiA _ _ _ _ _) ?_ dQ;let H1:=H.guard.new (.blk 0 24 c.av);have g1:H1.get H.next=.blk 0 24 c.av:=aJ rfl
 have l8:=iH g1;have bx:fM 24 (.agg c.av) H.guard=some (.ref H.next 0 0,H1):=aC (eu c) (by decide);obtain⟨H',_,r⟩:=Ua H1 (by simp only [H1,iC,dL,adi,tZ];omega) hc (hp.fV (H':=H1) (by simp only [H1,dL,tZ];omega) λr hr=> aS hr) hpn hpl (hx.guard.new _) hl;rcases r with⟨r1,r2⟩ | ⟨ws,q,r1,r2,_⟩
 ·rw [r1];simp only [xq_,aa8,bx,l8,r2,zaB]
 ·rw [r1];simp only [xq_,aa8,bx,l8,r2,zaG]
theorem ZW(H:ah){c:Cfg}(hc:c.ok=true){p x:AV}{ps:List (List Opn)}(hp:Bv H p ps)(hpn:ps.length < 1000)(hpl:∀l∈ps,l.length < 1000){l:List Evn}(hx:aH H x 4 l.length (l.flatMap Evn.av))(hl:l.length<=100000):cl 26 [.agg c.av,p,x] H=some (dat ((vg c ps l).getD []),H):=by
 let H1:=H.guard.new (.blk 0 24 c.av);have g1:H1.get H.next=.blk 0 24 c.av:=aJ rfl
 have l8:=iH g1;have bx:fM 24 (.agg c.av) H.guard=some (.ref H.next 0 0,H1):=aC (eu c) (by decide);have Bd:=uN hc;have hbd:=Bd.iF;obtain⟨H',_,r⟩:=Ua H1 (by simp only [H1,iC,dL,adi,tZ];omega) hc (hp.fV (H':=H1) (by simp only [H1,dL,tZ];omega) λr hr=> aS hr) hpn hpl (hx.guard.new _) hl;rcases r with⟨r1,r2⟩ | ⟨ws,q,r1,r2,G,ml⟩
 ·rw [r1];have d0:dat (([]:List Int))=zN:=by simp [dat,gB]
  rw [zaT,d0];refine iG rfl rfl (afs _ _ _ _ _ (r:=(zN,H')) ?_) jg;simp only [xq_,aa9,bx,l8,r2,zaf]
 ·rw [r1,zat];have e5:cl 66 [.ref q 0 0] H'=some (dat ws,H'):=by
   obtain⟨y,hy,cy⟩:=G.guard.seq (q:=q) aN (i:=8) (m:=1) (l:=ws.map I) rfl;have hs:jR H'.guard y ws:=⟨cy.is (by decide) (by simp),cy.one,λe=> by
    rw [e] at ml;simp only [zam] at ml;unfold Cfg.iF at ml;omega⟩
   have e6:=uQ H'.guard (by unfold Cfg.iF at ml;omega) hs;refine aV rfl rfl (ai5 _ _ _) ?_ nM;simp only [xq_,afM,hy,e6]
  refine iG rfl rfl (afs _ _ _ _ _ (r:=(dat ws,H')) ?_) (nM _ _);simp only [xq_,aa9,bx,l8,r2,zad,e5]
end
end Go.Proofs.YtmdbbfoefdjgoaaGreat
