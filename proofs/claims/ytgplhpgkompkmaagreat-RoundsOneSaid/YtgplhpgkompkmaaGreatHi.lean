/-
  Own work: an interpreter over named blocks, its soundness, and what the functions of this seat compute (part 9 of 11).
  Conditions: those of the statement alone.
-/
import Derived.Test.YtgplhpgkompkmaaGreatHh
set_option linter.all false
set_option linter.unusedSectionVars false
set_option linter.unusedVariables false
set_option linter.unusedSimpArgs false
namespace Go.Proofs.YtgplhpgkompkmaaGreat
noncomputable section
section
variable {b:Nat}{H:ah}{g0:bD}{S:QO}{c:Cfg}{me:Int}{k:Nat}{K K':ah}{g:bD}{ls:Lcl}{w w':NFT}
theorem aiE(W:Walk b H g0 S c me k K g ls w)(hp:PSz w.1.bP)(C:COk w.1.aH)(hl:w.2.2.length < 1000000){r4 r9:Nat}{o:Opn}{e:Ent}{x:AV}(h4:ls r4=some o.av)(h9:ls r9=some (e.avx x))(he:e.data.length < 1000000000)(hx:kE K x e.data)(was:Int):
  ∃K' g',uP cl (.ref (S.a 0) 0 0) (.ref S.t 0 0) (.ref r4 0 0) (.ref r9 0 0) (I was) K=some (.tup [],K')/\
   Walk b H g0 S c me k K' g' ls ((({ w.1 with aH:=(w.1.aH.put e).1 }:Node).done me w.2.2 (if o.aO=2 then 0 else was)).1,w.2.1,(({ w.1 with aH:=(w.1.aH.put e).1 }:Node).done me w.2.2 (if o.aO=2 then 0 else was)).2):=by
 have l1:=W.ldN (i:=0) (v:=.ref (S.a 1) 0 0) rfl;have l2:=W.loc.lda h9 (i:=0) (n:=6) (ys:=e.avx x) rfl rfl (by decide);obtain⟨K1,g1,a1,W1⟩:=W.ard C e he hx;have l3:=W1.loc.ld h4 (i:=0) (v:=I o.aO) rfl;obtain⟨K2,g2,b1,W2⟩:=aa3 W1 hp hl (if o.aO=2 then 0 else was);refine⟨K2,g2,?_,W2⟩;by_cases h2:o.aO=2
 ·rw [h2] at l3;rw [if_pos h2] at b1;simp only [xq_,uP,Ep,l1,l2,a1,l3,b1]
 ·rw [if_neg h2] at b1;simp only [xq_,uP,Ep,l1,l2,a1,l3,h2,b1]
theorem Qp(W:Walk b H g0 S c me k K g ls w)(hc:c.ok=true)(hp:PSz w.1.bP)(C:COk w.1.aH)(hl:w.2.2.length < 1000000):
  ∃K' g',cl 138 [.ref (S.a 0) 0 0,.ref S.t 0 0] K=some (.tup [],K')/\Walk b H g0 S c me k K' g' ls ((w.1.effect c me w.2.2).1,w.2.1,(w.1.effect c me w.2.2).2):=by
 have W0:=Walk.of W.loc.good W.base W.Qo;obtain⟨o,ho⟩:∃o,w.1.bP.op=o:=⟨_,rfl⟩
 obtain⟨wi,hwi⟩:∃wi,c.dh o.addr=wi:=⟨_,rfl⟩
 obtain⟨e,hee⟩:∃e,(w.1.aH.find (c.bM o.addr)).getD .zero=e:=⟨_,rfl⟩
 have hed:e.data.length < 1000000000:=by
  rw [<-hee];cases hf:w.1.aH.find (c.bM o.addr) with
  | none=> exact(show(0:Nat) < 1000000000 by decide)
  | some e'=> exact C.dat e' (za7 hf)
 have l1:=W0.ldN (i:=1) (v:=.ref (S.a 2) 0 0) rfl;obtain⟨K1,a1,W1⟩:=W0.cur hp;have W2:=W1.newL (ty:=61) (xs:=[zI,zI,zI]) (r:=K1.next) rfl rfl;obtain⟨K3,b1,b2,W3⟩:=W2.whole ak (n:=3) (vs:=o.av) rfl (gK _) (by decide) (rX _);have lc:=W3.anE (i:=2) (n:=8) (ys:=c.av) rfl rfl (by decide);have k3:iD (iD noL K1.next [zI,zI,zI]) K1.next o.av K1.next=some o.av:=ak
 have la:=W3.loc.ld k3 (i:=1) (v:=I o.addr) rfl;have el:=GR K3 c hc o.addr;rw [hwi] at el;have l0:=W3.ldN (i:=0) (v:=.ref (S.a 1) 0 0) rfl;have ef:=W3.find C (c.bM o.addr);simp only [oP] at ef;rw [hee] at ef;have n3:K1.next < K3.next:=W3.loc.good.lt (pK (g:=lay g ls) k3)
 have W4:=W3.newL (ty:=100) (xs:=[zI,zI,zI,zI,zB,zN]) (r:=K3.next) rfl rfl;obtain⟨K5,c1,c2,W5⟩:=W4.whole ak (n:=6) (vs:=e.av) rfl rfl (by decide) (kV e);have ew:=aia K5 e wi;have k9:iD (iD (iD (iD noL K1.next [zI,zI,zI]) K1.next o.av) K3.next [zI,zI,zI,zI,zB,zN]) K3.next e.av K3.next=some e.av:=ak
 have k4:iD (iD (iD (iD noL K1.next [zI,zI,zI]) K1.next o.av) K3.next [zI,zI,zI,zI,zB,zN]) K3.next e.av K1.next=some o.av:=by rw [aB (by omega),aB (by omega)];exact k3
 have lk:=W5.loc.ld k4 (i:=0) (v:=I o.aO) rfl;have lv:=W5.loc.ld k4 (i:=2) (v:=I o.value) rfl;have hm:w.1.effect c me w.2.2=({ w.1 with aH:=(w.1.aH.put (eG e o wi)).1 }:Node).done me w.2.2 (if o.aO=2 then 0 else e.word wi):=by
  simp only [Node.effect,ho,hee,hwi]
 rw [ho] at a1
 -- a word is written,or none
 have key:∀{K6:ah} {ls6:Lcl} {x:AV},Walk b K (lay g ls) S c me w.2.1.l.length K6 (lay g ls) ls6 w->ls6 K1.next=some o.av->ls6 K3.next=some ((eG e o wi).avx x)->kE K6 x (eG e o wi).data->
   ∃K' g',uP cl (.ref (S.a 0) 0 0) (.ref S.t 0 0) (.ref K1.next 0 0) (.ref K3.next 0 0) (I (e.word wi)) K6=some (.tup [],K')/\Walk b H g0 S c me k K' g' ls ((w.1.effect c me w.2.2).1,w.2.1,(w.1.effect c me w.2.2).2):=by
  intro K6 ls6 x W6 h4 h9 hx;obtain⟨K7,g7,r1,W7⟩:=aiE W6 hp C hl h4 h9 (by rw [(qH e o wi).2.2.2];exact hed) hx (e.word wi);rw [<-hm] at W7;obtain⟨g',W'⟩:=W.app (K':=K7) (w':=((w.1.effect c me w.2.2).1,w.2.1,(w.1.effect c me w.2.2).2)) (by
   have:=W7.res;rw [W.len] at this;exact this)
  exact⟨K7,g',r1,W'⟩
 by_cases h2:o.aO=2
 ·obtain⟨res,K6,x,d1,hx,W6⟩:=W5.write k9 hed wi o.value;have he:eG e o wi=e.write wi o.value:=by unfold eG;rw [if_pos h2]
  obtain⟨K7,g',r1,W'⟩:=key W6 (by rw [aB (by omega)];exact k4) (by rw [ak,he]) (by rw [he];exact hx);refine⟨K7,g',bg rfl rfl (ZA _ _ _ _ ?_),W'⟩;rw [h2] at lk;simp only [Int.reduceEq,xq_,UZ,l1,a1,b1,lc,la,el,l0,ef,c1,c2,ew,lk,lv,d1,r1]
 ·by_cases h3:o.aO=3
  ·obtain⟨res,K6,x,d1,hx,W6⟩:=W5.write k9 hed wi (w64 (e.word wi+o.value));have he:eG e o wi=e.write wi (w64 (e.word wi+o.value)):=by unfold eG;rw [if_neg h2,if_pos h3]
   obtain⟨K7,g',r1,W'⟩:=key W6 (by rw [aB (by omega)];exact k4) (by rw [ak,he]) (by rw [he];exact hx);refine⟨K7,g',bg rfl rfl (ZA _ _ _ _ ?_),W'⟩;rw [h3] at lk;simp only [w64] at d1;simp only [Int.reduceEq,xq_,UZ,l1,a1,b1,lc,la,el,l0,ef,c1,c2,ew,lk,lv,dF,d1,r1]
  ·have he:eG e o wi=e:=by unfold eG;rw [if_neg h2,if_neg h3]
   obtain⟨K7,g',r1,W'⟩:=key (x:=dat e.data) W5 k4 (by rw [he];exact k9) (by rw [he];exact pV _ _);refine⟨K7,g',bg rfl rfl (ZA _ _ _ _ ?_),W'⟩;simp only [xq_,UZ,l1,a1,b1,lc,la,el,l0,ef,c1,c2,ew,lk,h2,h3,r1]
theorem adG(W:Walk b H g0 S c me k K g ls w)(C:COk w.1.aH)(hd:w.1.aI.data.length < 1000000000)(p:Pkt)(hpl:p.data.length < 1000000000):
  ∃K' g',cl 135 [.ref (S.a 0) 0 0,.agg p.av] K=some (uf (w.1.after me p),K')/\Walk b H g0 S c me k K' g' ls ({ w.1 with aH:=(w.1.after me p).1 },w.2):=by
 have W0:=Walk.of W.loc.good W.base W.Qo;have W1:=W0.newL (ty:=81) (xs:=p.av) (r:=K.next) (aP p) rfl;have W2:=W1.newL (ty:=73) (xs:=zD9) (r:=K.next+1) rfl (by rw [fA]);have k3:iD (iD noL K.next p.av) (K.next+1) zD9 K.next=some p.av:=by rw [aB (by omega),ak]
 have lk:=W2.ldN (i:=12) (v:=I w.1.aI.aO) rfl;have ld:=W2.anE (i:=12) (n:=9) (ys:=w.1.aI.av) rfl rfl (by decide);have li:=W2.ldN (i:=10) (v:=I me) rfl;have lc:=W2.ldN (i:=0) (v:=.ref (S.a 1) 0 0) rfl;have lp:=W2.loc.lda k3 (i:=0) (n:=9) (ys:=p.av) rfl rfl (by decide);have hcache:=W2.loc.obj W2.nw.bG.2.1
 -- the end
 have fin:∀{K3:ah} {r:Nxt},Good b K3 (upd (lay (lay g ls) (iD (iD noL K.next p.av) (K.next+1) zD9)) (S.a 1) (dn r.1))->Step b ((K.new (.blk 0 81 p.av)).new (.blk 0 73 zD9)) K3->w.1.after me p=r->
   ∃K' g',st 9 (.ref (K.next+1) 0 0) (.agg r.2.1.av) K3=some (aY,K')/\lda 9 (.ref (K.next+1) 0 0) K'=some (.agg r.2.1.av,K')/\Walk b H g0 S c me k K' g' ls ({ w.1 with aH:=(w.1.after me p).1 },w.2):=by
  intro K3 r G s hr;have W3:=W2.aH G s;obtain⟨K4,u1,u2,W4⟩:=W3.whole (r:=K.next+1) (xs:=zD9) ak (n:=9) (vs:=r.2.1.av) rfl rfl (by decide) (bC _);obtain⟨g',W'⟩:=W.app (K':=K4) (w':=({ w.1 with aH:=(w.1.after me p).1 },w.2)) (by
   have:=W4.res;rw [W.len] at this;rw [hr];exact this)
  exact⟨K4,g',u1,u2,W'⟩
 by_cases h1:w.1.aI.aO=1
 ·have hm:w.1.after me p=dU w.1.aI me w.1.aH p:=by unfold Node.after;rw [if_pos h1]
  obtain⟨K3,a1,a2,a3⟩:=aaX W2.loc.good W2.base hcache C w.1.aI me p hpl;obtain⟨K4,g',u1,u2,W'⟩:=fin a2 a3 hm;refine⟨K4,g',bg rfl rfl (UY _ _ _ _ ?_),W'⟩;rw [h1] at lk;rw [hm];simp only [uf] at a1 ⊢;simp only [Nat.reduceLT,Int.reduceEq,xq_,Pz,aF (aP p),lk,ld,li,lc,lp,a1,u1,u2]
 ·by_cases h2:w.1.aI.aO=2
  ·have hm:w.1.after me p=dV w.1.aI me w.1.aH p:=by unfold Node.after;rw [if_neg h1,if_pos h2]
   obtain⟨K3,a1,a2,a3⟩:=adC W2.loc.good W2.base hcache C w.1.aI me p hd hpl;obtain⟨K4,g',u1,u2,W'⟩:=fin a2 a3 hm;refine⟨K4,g',bg rfl rfl (UY _ _ _ _ ?_),W'⟩;rw [h2] at lk;rw [hm];simp only [uf] at a1 ⊢;simp only [Nat.reduceLT,Int.reduceEq,xq_,Pz,aF (aP p),lk,ld,li,lc,lp,a1,u1,u2]
  ·by_cases h3:w.1.aI.aO=3
   ·have hm:w.1.after me p=eu w.1.aI w.1.aH p:=by unfold Node.after;rw [if_neg h1,if_neg h2,if_pos h3]
    obtain⟨K3,a1,a2,a3⟩:=aiA W2.loc.good W2.base hcache C w.1.aI p me;obtain⟨K4,g',u1,u2,W'⟩:=fin a2 a3 hm;refine⟨K4,g',bg rfl rfl (UY _ _ _ _ ?_),W'⟩;rw [h3] at lk;rw [hm];simp only [uf] at a1 ⊢;simp only [Nat.reduceLT,Int.reduceEq,xq_,Pz,aF (aP p),lk,ld,li,lc,lp,a1,u1,u2]
   ·have hm:w.1.after me p=vO w.1.aH:=by unfold Node.after;rw [if_neg h1,if_neg h2,if_neg h3]
    obtain⟨K4,g',u1,u2,W'⟩:=fin (r:=vO w.1.aH) (by rw [show(vO w.1.aH).1=w.1.aH from rfl,fF hcache];exact W2.loc.good) (Step.refl _ _) hm;refine⟨K4,g',bg rfl rfl (UY _ _ _ _ ?_),W'⟩;rw [hm];have ez:bd 73 []=some (.agg zD9):=by simp only [xq_,Wx,jX,dX]
    have hz:(vO w.1.aH).2.1.av=zD9:=lC;rw [hz] at u1 u2;simp only [uf,hz];simp only [Nat.reduceLT,xq_,Pz,aF (aP p),lk,h1,h2,h3,ez,u1,u2];rfl
end
def Node.evs(n:Node):Nat:=2*n.bP.bH.length+(if n.bP.eF then 1 else 0)
theorem aa4 {c:Cfg}{d:bJ}(h:d.data=[]∨oW c d.data)(me home:Int):(d.ask me home).ok=true->xZ c (d.ask me home):=by
 intro hk;have num:∀v∈d.data,I64 v:=by
  rcases h with h | h
  ·rw [h];intro v hv;cases hv
  ·exact h.2
 refine⟨hk,?_,?_⟩
 ·unfold bJ.ask
  repeat' split
  all_goals (simp [Pkt.zero])
 ·unfold bJ.ask
  repeat' split
  all_goals first | exact num | (intro v hv;cases hv)
theorem xO {c:Cfg}{p:Pkt}(hd:p.data=[])(hk:¬(p.aO=7∨p.aO=9)):p.ok=true->xZ c p:=λh=> ⟨h,λe=> absurd e hk,by rw [hd];intro v hv;cases hv⟩
theorem adH {c:Cfg}{dH:Rows}(hr:∀e∈dH,oW c e.2.data){aj aQ head:Int}{data:List Int}(hd:∀v∈data,I64 v):∀e∈(iw c dH aj aQ head data).1,oW c e.2.data:=by
 unfold iw;cases ha:jg dH aj with
 | none=> exact hr
 | some r=>
  simp only;split
  ·exact hr
  ·split
   ·exact hr
   ·rename_i h1 h2;intro e he;rcases lJ he with rfl | he
    ·simp only;split
     ·exact hr _ (mY ha)
     ·rename_i h0;simp only [zbk,zaf,decide_eq_true_eq,not_or,not_and,Decidable.not_not] at h2;exact⟨h2.2 h0,hd⟩
    ·exact hr e he
theorem TB {c:Cfg}{me:Int}{h:Home}(hr:∀e∈h.dH,oW c e.2.data){p:Pkt}(hd:∀v∈p.data,I64 v):∀e∈(h.handle c me p).1.dH,oW c e.2.data:=by
 unfold Home.handle;split
 ·exact hr
 split
 ·exact hr
 split
 ·simp only;split <;> exact hr
 ·have key:∀e∈(h.unlock c p).1.dH,oW c e.2.data:=by
   unfold Home.unlock;have hd':∀v∈(if p.flag=true then p.data else []),I64 v:=by
    split
    ·exact hd
    ·intro v hv;cases hv
   generalize (if p.flag=true then p.data else [])=dat at hd' ⊢;split
   ·exact hr
   ·simp only;split
    ·exact adH hr hd'
    ·exact hr
  simp only;split <;> exact key
theorem aa5 {c:Cfg}{ca:Cache}(I:Ej c ca)(p:Pkt):Ej c (fG ca p).1/\((fG ca p).2.1.ok=true->xZ c (fG ca p).2.1)/\(fG ca p).1.bW=ca.bW/\∀(aj:Int),c.ok=true->ca.full aj=false->(fG ca p).1.full aj=false:=by
 unfold fG;have z:Pkt.zero.ok=true->xZ c Pkt.zero:=xO rfl (by simp [Pkt.zero]);split
 ·exact⟨I,z,rfl,λ_ _ h=> h⟩
 rename_i h1;cases hf:ca.find p.aj with
 | none=> exact⟨I,z,rfl,λ_ _ h=> h⟩
 | some e=>
  obtain⟨he,hl⟩:=(ig I.bn).1 hf;have E:=I.ent e he;simp only [zbk,za8,not_or,zcr,decide_eq_true_eq] at h1;have put:∀e':Ent,e'.aj=e.aj->e'.data=e.data->Ej c (ca.put e').1/\(ca.put e').1.bW=ca.bW/\∀aj,ca.full aj=false->(ca.put e').1.full aj=false:=λe' h2 h3=> by
   have hf':ca.find e'.aj=some e:=by rw [h2,hl];exact hf
   refine⟨I.put (by rw [h2];exact E.lo) (by rw [h2];exact E.hi) (by rw [h3];exact E.dat),by rw [lu I.bn (by rw [h2];exact E.lo) hf'],λaj h=> ?_⟩;rw [acE I.bn (by rw [h2];exact E.lo) hf'];exact h
  simp only;split
  ·rename_i k;have u:=put { e with bZ:=false,back:=p.ptr } rfl rfl;exact⟨u.1,λh=> ⟨h,λ_=> E.dat,E.dat.2⟩,u.2.1,λl _ h=> u.2.2 l h⟩
  split
  ·rename_i k;have u:=put { e with fwd:=p.ptr } rfl rfl;exact⟨u.1,xO rfl (by simp only [k];decide),u.2.1,λl _ h=> u.2.2 l h⟩
  split
  ·rename_i k;have u:=put { e with back:=p.ptr } rfl rfl;exact⟨u.1,xO rfl (by simp only [k];decide),u.2.1,λl _ h=> u.2.2 l h⟩
  ·exact⟨I.drop _,λh=> ⟨h,λ_=> E.dat,E.dat.2⟩,CU _ _,λl hc h=> Y2 hc I h⟩
theorem Eff.evs {c:Cfg}{me:Int}{n:Node}{r:jK}{t:List Evn}{A:NT}{B:RNT}(E:Eff c me n r t A B)(hb:n.bP.eF=true):A.2.length+n.evs=t.length+A.1.evs:=by
 have h1:A.1.bP=⟨n.bP.ops,n.bP.bH++[A.2.getLast?.elim 0 (·.value)],false⟩:=by rw [E.apN]
 have h2:=E.len;unfold Node.evs;rw [h1,hb];simp only [zao,zam,zan,if_true,zah,if_false];omega
theorem Xo {ca:Cache}(hl:Lines ca.l){aj:Int}{e:Ent}(h:ca.find aj=some e):(ca.touch aj).find aj=some { e with used:=ca.bW+1 }:=by
 obtain⟨he,hel⟩:=(ig hl).1 h;rw [xB hl h];unfold Cache.find;rw [ig (zU hl λy _=> by
  split
  ·rename_i h;rw [h];exact hel
  ·rfl)]
 exact⟨zaH.2 ⟨e,he,by rw [if_pos hel]⟩,hel⟩
theorem Ig {ca:Cache}(hl:Lines ca.l){aj:Int}{e:Ent}(h:ca.find aj=some e):(ca.touch aj).bW=ca.bW+1:=by rw [xB hl h]
theorem Qq {f:Fab}{i:Int}{req:Bool}(h:(f.take i req).2=none):(f.take i req).1=f:=by
 unfold Fab.take at h ⊢;split
 ·rename_i hi;rw [if_pos hi] at h;cases hl:(f.port i).qL req with
  | nil=> rfl
  | cons p l=> rw [hl] at h;cases h
 ·rfl
structure aiF(m:dZ):Prop where
 ok:m.c.ok=true
 len:(m.aG.length:Int)=m.c.aG
 fab:vP m.c m.fab
 bG:∀(i:Nat) n,m.aG[i]?=some n->WC m.c i n
 evs:m.trace.length=(m.aG.map Node.evs).sum
theorem aa6 {α:Type}(f:α->Nat):∀{l:List α} {i:Nat} {a a':α},l[i]?=some a->((l.set i a').map f).sum+f a=(l.map f).sum+f a'
 | [],i,a,a',h=> by simp at h
 | x::l,0,a,a',h=> by
  simp only [zaP,zaa] at h;subst h;simp only [zb2,zaw,zbX];omega
 | x::l,i+1,a,a',h=> by
  simp only [zbb] at h;have:=aa6 f (a':=a') h;simp only [zb3,zaw,zbX];omega
section
variable {b:Nat}{H:ah}{g:bD}{q:Nat}{ca:Cache}
theorem aa7(G:Good b H g)(hb:H.base<=b)(h:g q=some (dn ca))(C:COk ca)(p:Pkt):
  ∃H',cl 199 [.ref q 0 0,.agg p.av] H=some (XV (fG ca p),H')/\Good b H' (upd g q (dn (fG ca p).1))/\Step b H H':=by
 by_cases hx:(!p.ok || decide (p.aO < 3) || decide (6 < p.aO))=true
 ·exact Qn G hb h C p (.inl hx)
 ·cases hf:ca.find p.aj with
  | none=> exact Qn G hb h C p (.inr hf)
  | some e=> exact adE G hb h C p hx hf
end
theorem fok {c:Cfg}(hc:c.ok=true){f:Fab}(F:vP c f):FOk c f:=by
 have B:=Ak hc;refine⟨hc,by have:=F.len;have:=B.aG;omega,λp hp s hs=> ?_,λp hp s hs q hq=> ?_⟩
 ·have P:=F.port p hp
  match s,hs with
  | 0,_=> exact P.rq
  | 1,_=> exact P.rin
  | 2,_=> exact P.an
  | 3,_=> exact P.ain
 ·have P:=F.port p hp;have Q:xZ c q:=by
   match s,hs with
   | 0,_=> exact P.pkt q (.inl hq)
   | 1,_=> exact P.pkt q (.inr (.inr (.inl hq)))
   | 2,_=> exact P.pkt q (.inr (.inl hq))
   | 3,_=> exact P.pkt q (.inr (.inr (.inr hq)))
  have:=Q.ok;simp only [Pkt.ok,zaf,decide_eq_true_eq] at this;omega
theorem Qr {c:Cfg}{p:Pkt}(Q:xZ c p):p.data.length < 1000000000:=by
 have:=Q.ok;simp only [Pkt.ok,zaf,decide_eq_true_eq] at this;omega
structure HSz(h:Home):Prop where
 t:TOk h.aT
 r:∀e∈h.dH,e.2.data.length < 1000000000
theorem Qs {h:Home}(hr:∀e∈h.dH,e.2.data.length < 1000000000)(aj:Int):(jo h.dH aj).data.length < 1000000000:=by
 unfold jo;cases ha:jg h.dH aj with
 | none=> exact(show(0:Nat) < 1000000000 by decide)
 | some r=> exact hr _ (mY ha)
def ny(c:Cfg)(me:Int)(n:Node)(p:Pkt):Node × Pkt × Bool:=
 if p.aO=1∨p.aO=2 then({ n with home:=(n.home.handle c me p).1 },(n.home.handle c me p).2.1,(n.home.handle c me p).2.2.1 && decide ((n.home.handle c me p).2.2.2=0))
 else({ n with aH:=(fG n.aH p).1 },(fG n.aH p).2.1,decide ((fG n.aH p).2.2=0))
theorem adI(c:Cfg)(me:Int)(n:Node)(f:Fab)(p:Pkt):n.asked c me f p=((ny c me n p).1,if(ny c me n p).2.2=true then(f.send (ny c me n p).2.1).1 else f):=by
 unfold Node.asked ny;split
 ·rcases h:n.home.handle c me p with⟨h1,o,ok,e⟩
  simp
 ·rcases h:fG n.aH p with⟨h1,o,e⟩
  simp
theorem Qu {c:Cfg}{me:Int}{n:Node}(C:COk n.aH)(Z:HSz n.home)(p:Pkt):(ny c me n p).2.1.data.length < 1000000000:=by
 have z0:(0:Nat) < 1000000000:=by decide
 unfold ny;split
 ·simp only [Home.handle]
  repeat' split
  all_goals first | exact z0 | exact Qs Z.r _
 ·simp only [fG];split
  ·exact z0
  ·cases hf:n.aH.find p.aj with
   | none=> exact z0
   | some e=>
    have he:=C.dat e (za7 hf);simp only
    repeat' split
    all_goals first | exact z0 | exact he
section
variable {b:Nat}{H:ah}{g0:bD}{S:QO}{c:Cfg}{me:Int}{k:Nat}{K K':ah}{g:bD}{ls:Lcl}{w w':NFT}
theorem aa8(W:Walk b H g0 S c me k K g ls w)(hc:c.ok=true)(C:COk w.1.aH)(Z:HSz w.1.home)(p:Pkt)(hpl:p.data.length < 1000000000):
  ∃K' g',cl 145 [.ref (S.a 0) 0 0,.agg p.av] K=some (.tup [.agg (ny c me w.1 p).2.1.av,B (ny c me w.1 p).2.2],K')/\Walk b H g0 S c me k K' g' ls ((ny c me w.1 p).1,w.2):=by
 have W0:=Walk.of W.loc.good W.base W.Qo;have W1:=W0.newL (ty:=81) (xs:=p.av) (r:=K.next) (aP p) rfl;have W2:=W1.newL (ty:=81) (xs:=zP9) (r:=K.next+1) rfl (by rw [fA]);have W3:=W2.newL (ty:=81) (xs:=zP9) (r:=K.next+1+1) rfl (by rw [fA,fA]);have k2:iD (iD noL K.next p.av) (K.next+1) zP9 K.next=some p.av:=by rw [aB (by omega),ak]
 have k3:iD (iD (iD noL K.next p.av) (K.next+1) zP9) (K.next+1+1) zP9 K.next=some p.av:=by rw [aB (by omega)];exact k2
 have k4:iD (iD (iD noL K.next p.av) (K.next+1) zP9) (K.next+1+1) zP9 (K.next+1)=some zP9:=by rw [aB (by omega),ak]
 have k5:iD (iD (iD noL K.next p.av) (K.next+1) zP9) (K.next+1+1) zP9 (K.next+1+1)=some zP9:=ak;have lk:=W2.loc.ld k2 (i:=0) (v:=I p.aO) rfl;have lp:=W3.loc.lda k3 (i:=0) (n:=9) (ys:=p.av) rfl rfl (by decide);have lh:=W3.ldN (i:=11) (v:=.ref (S.a 3) 0 0) rfl;have lc:=W3.ldN (i:=0) (v:=.ref (S.a 1) 0 0) rfl
 -- the end
 have fin:∀{K4:ah} {g4:bD} {n':Node} {out:Pkt} {v:AV},Walk b K (lay g ls) S c me w.2.1.l.length K4 g4 (iD (iD (iD noL K.next p.av) (K.next+1) zP9) (K.next+1+1) zP9) (n',w.2)->
   (∀f args,cl f args (((K.new (.blk 0 81 p.av)).new (.blk 0 81 zP9)).new (.blk 0 81 zP9))=some (v,K4)->
   (∀{β:Type} (kk:Option β),ckR (K.next+1+1) (K.next+1+1+1) (((K.new (.blk 0 81 p.av)).new (.blk 0 81 zP9)).new (.blk 0 81 zP9)) K4 kk=kk)/\
   ∃K5 K6 g',st 9 (.ref (K.next+1+1) 0 0) (.agg out.av) K4=some (aY,K5)/\lda 9 (.ref (K.next+1+1) 0 0) K5=some (.agg out.av,K5)/\st 9 (.ref (K.next+1) 0 0) (.agg out.av) K5=some (aY,K6)/\lda 9 (.ref (K.next+1) 0 0) K6=some (.agg out.av,K6)/\Walk b H g0 S c me k K6 g' ls (n',w.2)):=by
  intro K4 g4 n' out v W4 f args hcl;refine⟨λkk=> anC λr h1 h2=> ?_,?_⟩
  ·obtain rfl:r=K.next+1+1:=by omega
   exact VH W3.loc.good W4.loc.good (VE _ _ _ _ _ hcl) (pK k5) (pK k5)
  ·obtain⟨K5,u1,u2,W5⟩:=W4.whole k5 (n:=9) (vs:=out.av) rfl (bT _) (by decide) (aP _);obtain⟨K6,u3,u4,W6⟩:=W5.whole (r:=K.next+1) (xs:=zP9) (by rw [aB (by omega)];exact k4) (n:=9) (vs:=out.av) rfl (bT _) (by decide) (aP _);obtain⟨g',W'⟩:=W.app (K':=K6) (w':=(n',w.2)) (by
    have:=W6.res;rw [W.len] at this;exact this)
   exact⟨K5,K6,g',u1,u2,u3,u4,W'⟩
 by_cases hk:p.aO=1∨p.aO=2
 ·have hm:ny c me w.1 p=({ w.1 with home:=(w.1.home.handle c me p).1 },(w.1.home.handle c me p).2.1,(w.1.home.handle c me p).2.2.1 && decide ((w.1.home.handle c me p).2.2.2=0)):=by unfold ny;rw [if_pos hk]
  rw [hm];have HI:=W3.Qo.bG.2.2.2;obtain⟨K4,a1,a2,a3⟩:=aaP W3.loc.good W3.base HI hc Z.t.nd Z.t.ws Z.r p hpl;have W4:=W3.home a2 a3;obtain⟨ck,K5,K6,g',u1,u2,u3,u4,W'⟩:=fin W4 _ _ a1 (out:=(w.1.home.handle c me p).2.1);refine⟨K6,g',bg rfl rfl (afA _ _ _ _ ?_),W'⟩;simp only [VG] at a1;obtain⟨ok,hok⟩:∃ok,(w.1.home.handle c me p).2.2.1=ok:=⟨_,rfl⟩
  rw [hok] at a1 ⊢;have cR:∀{β:Type} (kk:Option β),ckR ((K.new (.blk 0 81 p.av)).new (.blk 0 81 zP9)).next (((K.new (.blk 0 81 p.av)).new (.blk 0 81 zP9)).new (.blk 0 81 zP9)).next (((K.new (.blk 0 81 p.av)).new (.blk 0 81 zP9)).new (.blk 0 81 zP9)) K4 kk=kk:=by
   intro β kk;simp only [fA];exact ck kk
  rcases hk with h1 | h1
  ·rw [h1] at lk;cases ok with
   | true=> simp only [Nat.reduceLT,xq_,JI,aF (aP p),lk,lh,lp,a1,ck,u1,u2,u3,u4,zaU]
   | false=> simp only [Nat.reduceLT,xq_,JI,aF (aP p),lk,lh,lp,a1,ck,u1,u2,u3,u4,zaV]
  ·rw [h1] at lk;cases ok with
   | true=> simp only [Nat.reduceLT,Int.reduceEq,xq_,JI,aF (aP p),lk,lh,lp,a1,ck,u1,u2,u3,u4,zaU]
   | false=> simp only [Nat.reduceLT,Int.reduceEq,xq_,JI,aF (aP p),lk,lh,lp,a1,ck,u1,u2,u3,u4,zaV]
 ·have hm:ny c me w.1 p=({ w.1 with aH:=(fG w.1.aH p).1 },(fG w.1.aH p).2.1,decide ((fG w.1.aH p).2.2=0)):=by unfold ny;rw [if_neg hk]
  rw [hm];obtain⟨K4,a1,a2,a3⟩:=aa7 W3.loc.good W3.base (W3.loc.obj W3.nw.bG.2.1) C p;have W4:=W3.aH a2 a3;obtain⟨ck,K5,K6,g',u1,u2,u3,u4,W'⟩:=fin W4 _ _ a1 (out:=(fG w.1.aH p).2.1);refine⟨K6,g',bg rfl rfl (afA _ _ _ _ ?_),W'⟩;have h1:¬p.aO=1:=λh=> hk (.inl h);have h2:¬p.aO=2:=λh=> hk (.inr h);simp only [XV] at a1;simp only [Nat.reduceLT,xq_,JI,aF (aP p),lk,h1,h2,lc,lp,a1,ck,u1,u2,u3,u4]
end
section
variable {b:Nat}{H:ah}{g0:bD}{S:QO}{c:Cfg}{me:Int}{k:Nat}{K K':ah}{g:bD}{ls:Lcl}{w w':NFT}
theorem VJ(f:Fab)(i:Int)(req:Bool):(f.take i req).1.l.length=f.l.length:=by
 unfold Fab.take;split
 ·split
  ·rfl
  ·simp [Fab.put]
 ·rfl
theorem Walk.CQ(W:Walk b H g0 S c me k K g ls w)(F:FOk c w.2.1):∃K' g',cl 144 [.ref S.f 0 0,I me] K=some (iy (w.2.1.take me true).2,K')/\Walk b H g0 S c me k K' g' ls (w.1,(w.2.1.take me true).1,w.2.2):=by
 obtain⟨K',g1,h1,h2,h3,h4,h5⟩:=Proofs.YtgplhpgkompkmaaGreat.CQ W.loc.good W.base W.Qo.fab W.nw.SV F me;obtain⟨g',W'⟩:=W.net h2 h3 (VJ _ _ _) h4 h5;exact⟨K',g',h1,W'⟩
theorem Walk.MS(W:Walk b H g0 S c me k K g ls w)(F:FOk c w.2.1):∃K' g',cl 134 [.ref S.f 0 0,I me] K=some (iy (w.2.1.take me false).2,K')/\Walk b H g0 S c me k K' g' ls (w.1,(w.2.1.take me false).1,w.2.2):=by
 obtain⟨K',g1,h1,h2,h3,h4,h5⟩:=Proofs.YtgplhpgkompkmaaGreat.MS W.loc.good W.base W.Qo.fab W.nw.SV F me;obtain⟨g',W'⟩:=W.net h2 h3 (VJ _ _ _) h4 h5;exact⟨K',g',h1,W'⟩
theorem Walk.room(W:Walk b H g0 S c me k K g ls w)(F:FOk c w.2.1)(req:Bool):∃K',cl 141 [.ref S.f 0 0,I me,B req] K=some (I (w.2.1.roomOf me req),K')/\Walk b H g0 S c me k K' g ls w:=by
 obtain⟨K',h1,h2,h3⟩:=ait W.loc.good W.base W.Qo.fab F me req;exact⟨K',h1,W.same h2 h3⟩
theorem TD(W:Walk b H g0 S c me k K g ls w)(hc:c.ok=true)(F:vP c w.2.1)(C:COk w.1.aH)(Z:HSz w.1.home):
  ∃K' g',match(if w.2.1.roomOf me false=0 then(w.2.1,none) else w.2.1.take me true) with
   | (f',some p)=> cl 97 [.ref (S.a 0) 0 0,.ref S.f 0 0] K=some (B true,K')/\Walk b H g0 S c me k K' g' ls ((w.1.asked c me f' p).1,(w.1.asked c me f' p).2,w.2.2)
   | (_,none)=> cl 97 [.ref (S.a 0) 0 0,.ref S.f 0 0] K=some (B false,K')/\Walk b H g0 S c me k K' g' ls w:=by
 have W0:=Walk.of W.loc.good W.base W.Qo;have li:=W0.ldN (i:=10) (v:=I me) rfl;obtain⟨K1,a1,W1⟩:=W0.room (fok hc F) false;by_cases hr:w.2.1.roomOf me false=0
 ·simp only [if_pos hr];rw [hr] at a1;obtain⟨g',W'⟩:=W.app (K':=K1) (w':=w) (by
   have:=W1.res;rw [W.len] at this;exact this)
  refine⟨K1,g',bg rfl rfl (acQ _ _ _ _ ?_),W'⟩;simp only [xq_,Zp,li,a1]
 ·simp only [if_neg hr];have li1:=W1.ldN (i:=10) (v:=I me) rfl;obtain⟨K2,g2,b1,W2⟩:=W1.CQ (fok hc F);obtain⟨F2,Q2⟩:=F.take me true;have W3:=W2.newL (ty:=81) (xs:=zP9) (r:=K2.next) rfl rfl;cases ht:w.2.1.take me true with
  | mk f' po=>
   rw [ht] at b1 W2 W3 F2 Q2;simp only at b1 W2 W3 F2 Q2;obtain⟨K4,u1,u2,W4⟩:=W3.whole ak (n:=9) (vs:=(po.getD .zero).av) rfl (bT _) (by decide) (aP _);simp only [iy] at b1;cases po with
   | none=>
    simp only [za1,zaG] at b1 u1 u2;have hf':f'=w.2.1:=by
     have:=Qq (f:=w.2.1) (i:=me) (req:=true) (by rw [ht]);rw [ht] at this;exact this
    subst hf';obtain⟨g',W'⟩:=W.app (K':=K4) (w':=w) (by
     have:=W4.res;rw [W.len] at this;exact this)
    refine⟨K4,g',bg rfl rfl (acQ _ _ _ _ ?_),W'⟩;simp only [xq_,Zp,li,a1,hr,li1,b1,u1,zal]
   | some p=>
    simp only [zar,zaI] at b1 u1 u2;have Q:=Q2 p rfl;obtain⟨K5,g5,c1,W5⟩:=aa8 W4 hc C Z p (Qr Q);have W6:=W5.newL (ty:=81) (xs:=zP9) (r:=K5.next) rfl rfl;obtain⟨K7,u3,u4,W7⟩:=W6.whole ak (n:=9) (vs:=(ny c me w.1 p).2.1.av) rfl (bT _) (by decide) (aP _);simp only [adI];cases hok:(ny c me w.1 p).2.2 with
    | false=>
     rw [hok] at c1;obtain⟨g',W'⟩:=W.app (K':=K7) (w':=((ny c me w.1 p).1,f',w.2.2)) (by
      have:=W7.res;rw [W.len] at this;exact this)
     refine⟨K7,g',bg rfl rfl (acQ _ _ _ _ ?_),by simpa using W'⟩;simp only [xq_,Zp,LV,li,a1,hr,li1,b1,u1,u2,zae,c1,u3]
    | true=>
     rw [hok] at c1;obtain⟨K8,g8,d1,W8⟩:=W7.send (fok hc F2) (ny c me w.1 p).2.1 (Qu C Z p);obtain⟨g',W'⟩:=W.app (K':=K8) (w':=((ny c me w.1 p).1,(f'.send (ny c me w.1 p).2.1).1,w.2.2)) (by
      have:=W8.res;rw [W.len] at this;exact this)
     refine⟨K8,g',bg rfl rfl (acQ _ _ _ _ ?_),by simpa using W'⟩;simp only [xq_,Zp,LV,li,a1,hr,li1,b1,u1,u2,zae,c1,u3,u4,d1]
theorem aa9(W:Walk b H g0 S c me k K g ls w)(hc:c.ok=true)(F:vP c w.2.1)(Z:HSz w.1.home):
  ∃K' g',if w.1.home.ready≠[]/\w.2.1.roomOf me false≠0 then
    cl 96 [.ref (S.a 0) 0 0,.ref S.f 0 0] K=some (B true,K')/\Walk b H g0 S c me k K' g' ls ({ w.1 with home:=(w.1.home.grant me).1 },(w.2.1.send (w.1.home.grant me).2.1).1,w.2.2)
   else cl 96 [.ref (S.a 0) 0 0,.ref S.f 0 0] K=some (B false,K')/\Walk b H g0 S c me k K' g' ls w:=by
 have W0:=Walk.of W.loc.good W.base W.Qo;have lh:=W0.ldN (i:=11) (v:=.ref (S.a 3) 0 0) rfl;have li:=W0.ldN (i:=10) (v:=I me) rfl;have e1:=Xl W0.loc.good W0.Qo.bG.2.2.2 Z.t;by_cases h1:w.1.home.ready=[]
 ·simp only [if_neg (show¬(w.1.home.ready≠[]/\w.2.1.roomOf me false≠0) from λh=> h.1 h1)];have hd:decide (w.1.home.ready≠[])=false:=by rw [decide_eq_false];exact λh=> h h1
  rw [hd] at e1;refine⟨K,g,bg rfl rfl (ahM _ _ _ _ ?_),W⟩;simp only [xq_,acP,lh,e1,zal]
 ·have hd:decide (w.1.home.ready≠[])=true:=decide_eq_true h1;rw [hd] at e1;obtain⟨K1,a1,W1⟩:=W0.room (fok hc F) false;by_cases hr:w.2.1.roomOf me false=0
  ·simp only [if_neg (show¬(w.1.home.ready≠[]/\w.2.1.roomOf me false≠0) from λh=> h.2 hr)];rw [hr] at a1;obtain⟨g',W'⟩:=W.app (K':=K1) (w':=w) (by
    have:=W1.res;rw [W.len] at this;exact this)
   refine⟨K1,g',bg rfl rfl (ahM _ _ _ _ ?_),W'⟩;simp only [xq_,acP,lh,e1,zae,li,a1]
  ·simp only [if_pos (show w.1.home.ready≠[]/\w.2.1.roomOf me false≠0 from⟨h1,hr⟩)];have lh1:=W1.ldN (i:=11) (v:=.ref (S.a 3) 0 0) rfl;obtain⟨K2,b1,b2,b3⟩:=adF W1.loc.good W1.base W1.Qo.bG.2.2.2 Z.t Z.r;have W2:=W1.home b2 b3;have W3:=W2.newL (ty:=81) (xs:=zP9) (r:=K2.next) rfl rfl;obtain⟨K4,u1,u2,W4⟩:=W3.whole ak (n:=9) (vs:=(w.1.home.grant me).2.1.av) rfl (bT _) (by decide) (aP _);have hsm:(w.1.home.grant me).2.1.data.length < 1000000000:=by
    have z0:(0:Nat) < 1000000000:=by decide
    unfold Home.grant
    repeat' split
    all_goals first | exact z0 | exact Qs Z.r _
   obtain⟨K5,g5,d1,W5⟩:=W4.send (fok hc F) (w.1.home.grant me).2.1 hsm;obtain⟨g',W'⟩:=W.app (K':=K5) (w':=({ w.1 with home:=(w.1.home.grant me).1 },(w.2.1.send (w.1.home.grant me).2.1).1,w.2.2)) (by
    have:=W5.res;rw [W.len] at this;exact this)
   refine⟨K5,g',bg rfl rfl (ahM _ _ _ _ ?_),W'⟩;simp only [xq_,acP,lh,e1,zae,li,a1,hr,lh1,b1,u1,u2,d1]
theorem Walk.abb(W:Walk b H g0 S c me k K g ls w)(d:bJ):∃K' g',st 9 (.ref (S.a 0) 0 12) (.agg d.av) K=some (aY,K')/\Walk b H g0 S c me k K' g' ls ({ w.1 with aI:=d },w.2):=by
 obtain⟨K',h1,h2,h3,_⟩:=W.loc.good.stores W.base (W.loc.obj W.nw.bG.1) (i:=12) (n:=9) (vs:=d.av) (by rw [gQ];decide) rfl (bC d);have e:pG (vS S.a c me w.1.aI w.1.num) 12 d.av=vS S.a c me d w.1.num:=rfl;rw [e] at h2;exact⟨K',_,h1,W.own h2 h3⟩
theorem Walk.anH(W:Walk b H g0 S c me k K g ls w)(z:Int):∃K' g',st 1 (.ref (S.a 0) 0 21) (I z) K=some (aY,K')/\Walk b H g0 S c me k K' g' ls ({ w.1 with num:=z },w.2):=by
 obtain⟨K',h1,h2,h3,_⟩:=W.loc.good.store W.base (W.loc.obj W.nw.bG.1) (i:=21) (v:=I z) (by rw [gQ];decide) dJ;have e:(vS S.a c me w.1.aI w.1.num).set 21 (.av (I z))=vS S.a c me w.1.aI z:=rfl;rw [e] at h2;exact⟨K',_,h1,W.own h2 h3⟩
theorem AP(W:Walk b H g0 S c me k K g ls w)(hc:c.ok=true)(F:vP c w.2.1)(hn:0<=w.1.num/\w.1.num < 1000000)(aO aj:Int):
  ∃K' g',cl 149 [.ref (S.a 0) 0 0,.ref S.f 0 0,I aO,I aj] K=some (.tup [],K')/\Walk b H g0 S c me k K' g' ls ((w.1.begin_ c me w.2.1 aO aj).1,(w.1.begin_ c me w.2.1 aO aj).2,w.2.2):=by
 have ln:=W.ldN (i:=21) (v:=I w.1.num) rfl;have e1:=adB K aO aj w.1.num;obtain⟨K1,g1,a1,W1⟩:=W.abb (.begin aO aj w.1.num);have ln1:=W1.ldN (i:=21) (v:=I w.1.num) rfl;have w1:=wrap_i64 (a:=w.1.num+1) (by omega) (by omega);have aiG:=wC (P:=Tryz.prog) (k:=.i64) (t:=3) (a:=w.1.num+1) (b:=4096) (by decide);obtain⟨K2,g2,b1,W2⟩:=W1.anH ((w.1.num+1).tmod 4096);obtain⟨K3,g3,d1,W3⟩:=TA W2 hc (fok hc F) (show(0:Nat) < 1000000000 by decide);refine⟨K3,g3,bg rfl rfl (alJ _ _ _ _ _ _ ?_),W3⟩;simp only [xq_,afD,ln,e1,a1,ln1,dF,w1,aiG,b1,d1]
end
theorem adJ:∀(n:Nat) (l:List Int),l.Nodup->(∀x∈l,0<=x/\x < n)->l.length<=n
 | 0,[],_,_=> zac _
 | 0,x::l,_,h=> by have:=h x (by simp);omega
 | n+1,l,hd,h=> by
  by_cases hm:(n:Int)∈l
  ·have h1:=adJ n (l.erase n) (hd.erase (n:Int)) λx hx=> by
    have:=(hd.mem_erase_iff).1 hx;have:=h x this.2;omega
   rw [List.length_erase_of_mem hm] at h1;omega
  ·have:=adJ n l hd λx hx=> by
    have:=h x hx;have:x≠n:=λe=> hm (e ▸ hx);omega
   omega
theorem cok {c:Cfg}(hc:c.ok=true){ca:Cache}(I:Ej c ca)(hk:ca.bW < 1000000000):COk ca:=by
 have B:=Ak hc;refine⟨?_,by rw [I.sets];exact B.sets.1,⟨I.ahl,hk⟩,λe he=> ?_,λe he=> ?_⟩
 ·have h1:(ca.l.map (·.aj)).Nodup:=zcq.2 I.bn;have:=adJ c.bn.toNat _ h1 λx hx=> by
   obtain⟨e,he,rfl⟩:=zaH.1 hx;have E:=I.ent e he;have h1:=E.lo;have h2:=E.hi;omega
  rw [zaD] at this;have:=B.bn;omega
 ·have:=(I.ent e he).dat.1;have:=B.cO;omega
 ·have:=I.ent e he;exact⟨this.u0,by have:=this.used;omega⟩
theorem psz {c:Cfg}{p:Proc}(I:aob c p):PSz p:=⟨by have:=I.most;omega,I.vals⟩
theorem hsz {c:Cfg}(hc:c.ok=true){me:Int}{n:Node}(I:WC c me n)(hw:∀aj,(n.home.aT.ws aj).length < 1000000):HSz n.home:=by
 have B:=Ak hc;have hk:∀e∈n.home.aT.wait,0<=e.1/\e.1 < c.bn:=λe he=> by
  have:=I.home.here e he;unfold kP at this;simp only [zaf,decide_eq_true_eq] at this;omega
 refine⟨⟨I.home.aT.wk,λe he=> by have:=hk e he;have:=B.bn;omega,?_,hw⟩,λe he=> by have:=(I.dH e he).1;have:=B.cO;omega⟩;have:=adJ c.bn.toNat _ I.home.aT.wk λx hx=> by
  obtain⟨e,he,rfl⟩:=zaH.1 hx;have:=hk e he;omega
 rw [zaD] at this;have:=B.bn;omega
section
variable {b:Nat}{H:ah}{g0:bD}{S:QO}{c:Cfg}{me:Int}{k:Nat}{K K':ah}{g:bD}{ls:Lcl}{w w':NFT}
def aiH(c:Cfg)(me:Int)(n:Node)(f:Fab)(t:List Evn)(o:Opn):NFT:=
 let aj:=c.bM o.addr;let e:=n.aH.find aj
 if o.aO=4/\e=none then((n.done me t 0).1,f,(n.done me t 0).2)
 else if o.aO=4 then((n.begin_ c me f 3 aj).1,(n.begin_ c me f 3 aj).2,t)
 else if e.isSome=true/\(o.aO=1∨(e.getD .zero).bZ=true) then
  let n:={ n with aH:=n.aH.touch aj }
  ((n.effect c me t).1,f,(n.effect c me t).2)
 else if n.aH.full aj=true then((n.begin_ c me f 3 ((n.aH.nH aj).getD 0)).1,(n.begin_ c me f 3 ((n.aH.nH aj).getD 0)).2,t)
 else if o.aO=1 then((n.begin_ c me f 1 aj).1,(n.begin_ c me f 1 aj).2,t)
 else((n.begin_ c me f 2 aj).1,(n.begin_ c me f 2 aj).2,t)
theorem aiI(n:Node)(f:Fab)(t:List Evn)(o:Opn):n.work c me f t o=aiH c me { n with bP:={ n.bP with eF:=true } } f (if n.bP.eF then t else t++[⟨me,n.bP.bH.length,false,0⟩]) o:=rfl
theorem VK(W:Walk b H g0 S c me k K g ls w)(hc:c.ok=true)(F:vP c w.2.1)(hp:PSz w.1.bP)(CI:Ej c w.1.aH)(hk:w.1.aH.bW < 1000)(hn:0<=w.1.num/\w.1.num < 1000000)(hl:w.2.2.length < 1000000){r7:Nat}{o:Opn}(h7:ls r7=some o.av):
  ∃K' g',oZ cl (.ref (S.a 0) 0 0) (.ref S.f 0 0) (.ref S.t 0 0) (.ref r7 0 0) K=some (B true,K')/\Walk b H g0 S c me k K' g' ls (aiH c me w.1 w.2.1 w.2.2 o):=by
 have C:=cok hc CI (by omega);have W0:=Walk.of W.loc.good W.base W.Qo;have lc:=W.anE (i:=2) (n:=8) (ys:=c.av) rfl rfl (by decide);have la:=W.loc.ld h7 (i:=1) (v:=I o.addr) rfl;obtain⟨aj,adK⟩:∃aj,c.bM o.addr=aj:=⟨_,rfl⟩
 have el:=GR K c hc o.addr;rw [adK] at el;have l0:=W.ldN (i:=0) (v:=.ref (S.a 1) 0 0) rfl;have ef:=W.find C aj;obtain⟨fo,hfo⟩:∃fo,w.1.aH.find aj=fo:=⟨_,rfl⟩
 rw [hfo] at ef;simp only [oP] at ef;have hr7:r7 < K.next:=W.loc.good.lt (pK h7)
 have W1:=W.newL (ty:=100) (xs:=zE6) (r:=K.next) rfl rfl;obtain⟨K2,u1,u2,W2⟩:=W1.whole ak (n:=6) (vs:=(fo.getD .zero).av) rfl rfl (by decide) (kV _);have k7:iD (iD ls K.next zE6) K.next (fo.getD .zero).av r7=some o.av:=by rw [aB (by omega),aB (by omega)];exact h7
 have lk:=W2.loc.ld k7 (i:=0) (v:=I o.aO) rfl;have ldd:=W2.loc.ld (r:=K.next) (xs:=(fo.getD .zero).av) ak (i:=4) (v:=B (fo.getD .zero).bZ) rfl;have l02:=W2.ldN (i:=0) (v:=.ref (S.a 1) 0 0) rfl;have TF:=Qa W2.loc.good (W2.loc.obj W2.nw.bG.2.1) C.len C.sets aj;have aqr:=Tc W2.loc.good (W2.loc.obj W2.nw.bG.2.1) C.len C.sets C.used aj
 -- what is called is called of the bG
 have back:∀{K3:ah} {g3:bD} {w3:NFT},Walk b H g0 S c me k K3 g3 (iD (iD ls K.next zE6) K.next (fo.getD .zero).av) w3->∃g',Walk b H g0 S c me k K3 g' ls w3:=by
  intro K3 g3 w3 W3;refine⟨g3,W3.hb,⟨W3.loc.good.sub λq cs hq=> ?_,λr hr=> ?_⟩,W3.nw,W3.off,W3.step,W3.len⟩
  ·unfold lay at hq ⊢;by_cases hqr:q=K.next
   ·subst hqr;have hnone:ls K.next=none:=by
     cases e:ls K.next with
     | none=> rfl
     | some xs=>
      have:=W.loc.good.lt (pK (g:=g) e);omega
    rw [hnone] at hq;simp only at hq;have:=W3.loc.free K.next (by rw [ak];simp)
    rw [this] at hq;cases hq
   ·rw [aB hqr,aB hqr];exact hq
  ·refine W3.loc.free r ?_;have hne:r≠K.next:=λe=> by
    subst e;cases e2:ls K.next with
    | none=> exact hr e2
    | some xs=>
     have:=W.loc.good.lt (pK (g:=g) e2);omega
   rw [aB hne,aB hne];exact hr
 unfold aiH;simp only [adK,hfo];by_cases h4:o.aO=4
 ·rw [h4] at lk;cases fo with
  | none=>
   rw [if_pos ⟨h4,rfl⟩];obtain⟨K3,g3,a1,W3⟩:=aa3 W2 hp hl 0;obtain⟨g',W'⟩:=back W3;refine⟨K3,g',?_,W'⟩;simp only [xq_,oZ,lU,lc,la,el,l0,ef,u1,lk,zaG,zal,a1]
  | some e=>
   rw [if_neg (by simp),if_pos h4];obtain⟨K3,g3,a1,W3⟩:=AP W2 hc F hn 3 aj;obtain⟨g',W'⟩:=back W3;refine⟨K3,g',?_,W'⟩;simp only [Int.reduceEq,xq_,oZ,lU,lc,la,el,l0,ef,u1,lk,zaI,zae,a1]
 ·rw [if_neg (λh=> h4 h.1),if_neg h4];by_cases hd:fo.isSome=true/\(o.aO=1∨(fo.getD .zero).bZ=true)
  ·rw [if_pos hd];obtain⟨e,rfl⟩:=zc3.1 hd.1;obtain⟨K3,a1,a2,a3⟩:=Xb W2.loc.good W2.base (W2.loc.obj W2.nw.bG.2.1) C.len C.clk aj;have W3:=W2.aH a2 a3;have hC:COk (w.1.aH.touch aj):=cok hc (CI.touch hfo) (by rw [Ig CI.bn hfo];omega);obtain⟨K4,g4,b1,W4⟩:=Qp W3 hc hp hC hl;obtain⟨g',W'⟩:=back W4;refine⟨K4,g',?_,W'⟩;by_cases h1:o.aO=1
   ·rw [h1] at lk;simp only [Int.reduceEq,xq_,oZ,lU,lc,la,el,l0,ef,u1,lk,zaI,a1,l02,b1]
   ·have hdd:=hd.2.resolve_left h1;rw [hdd] at ldd;simp only [xq_,oZ,lU,lc,la,el,l0,ef,u1,lk,h4,h1,ldd,zaI,a1,l02,b1]
  ·rw [if_neg hd]
   -- the condition
   have hcond:∀(X Y:Option (AV × ah)),(fo.isSome=false)∨(fo.isSome=true/\¬o.aO=1/\(fo.getD .zero).bZ=false):=λ_ _=> by
    cases h:fo.isSome with
    | false=> exact .inl rfl
    | true=>
     refine .inr ⟨rfl,λh1=> hd ⟨h,.inl h1⟩,?_⟩;cases h2:(fo.getD .zero).bZ with
     | false=> rfl
     | true=> exact absurd ⟨h,.inr h2⟩ hd
   have hcond:=hcond none none;by_cases hfl:w.1.aH.full aj=true
   ·rw [if_pos hfl];rw [hfl] at TF;obtain⟨K3,g3,a1,W3⟩:=AP W2 hc F hn 3 ((w.1.aH.nH aj).getD 0);obtain⟨g',W'⟩:=back W3;refine⟨K3,g',?_,W'⟩;rcases hcond with hs | ⟨hs,h1,h2⟩
    ·rw [hs] at ef;simp only [xq_,oZ,lU,lc,la,el,l0,ef,u1,lk,h4,l02,TF,aqr,a1]
    ·rw [hs] at ef;rw [h2] at ldd;simp only [xq_,oZ,lU,lc,la,el,l0,ef,u1,lk,h4,h1,ldd,l02,TF,aqr,a1]
   ·rw [if_neg hfl];have hff:w.1.aH.full aj=false:=by cases h:w.1.aH.full aj <;> simp_all
    rw [hff] at TF;by_cases h1:o.aO=1
    ·rw [if_pos h1];obtain⟨K3,g3,a1,W3⟩:=AP W2 hc F hn 1 aj;obtain⟨g',W'⟩:=back W3;refine⟨K3,g',?_,W'⟩;have hs:fo.isSome=false:=hcond.resolve_right λh=> h.2.1 h1;rw [hs] at ef;rw [h1] at lk;simp only [Int.reduceEq,xq_,oZ,lU,lc,la,el,l0,ef,u1,lk,l02,TF,a1]
    ·rw [if_neg h1];obtain⟨K3,g3,a1,W3⟩:=AP W2 hc F hn 2 aj;obtain⟨g',W'⟩:=back W3;refine⟨K3,g',?_,W'⟩;rcases hcond with hs | ⟨hs,_,h2⟩
     ·rw [hs] at ef;simp only [xq_,oZ,lU,lc,la,el,l0,ef,u1,lk,h4,h1,l02,TF,a1]
     ·rw [hs] at ef;rw [h2] at ldd;simp only [xq_,oZ,lU,lc,la,el,l0,ef,u1,lk,h4,h1,ldd,l02,TF,a1]
end
section
variable {b:Nat}{H:ah}{g0:bD}{S:QO}{c:Cfg}{me:Int}{k:Nat}{K K':ah}{g:bD}{ls:Lcl}{w w':NFT}
theorem Walk.to(W:Walk b H g0 S c me k K g ls w){K':ah}{g1:bD}{l1:Lcl}(W1:Walk b K (lay g ls) S c me w.2.1.l.length K' g1 l1 w'):∃g',Walk b H g0 S c me k K' g' ls w':=
 W.app (by have:=W1.res;rw [W.len] at this;exact this)
theorem abd(W:Walk b H g0 S c me k K g ls w)(hc:c.ok=true)(F:vP c w.2.1)(NI:WC c me w.1)(hn:0<=w.1.num/\w.1.num < 1000000)(hl:w.2.2.length < 999999):
  ∃K' g',match w.1.bP.cur with
   | some o=> if w.1.aI.step=0 then cl 98 [.ref (S.a 0) 0 0,.ref S.f 0 0,.ref S.t 0 0] K=some (B true,K')/\Walk b H g0 S c me k K' g' ls (w.1.work c me w.2.1 w.2.2 o)
     else cl 98 [.ref (S.a 0) 0 0,.ref S.f 0 0,.ref S.t 0 0] K=some (B false,K')/\Walk b H g0 S c me k K' g' ls w
   | none=> cl 98 [.ref (S.a 0) 0 0,.ref S.f 0 0,.ref S.t 0 0] K=some (B false,K')/\Walk b H g0 S c me k K' g' ls w:=by
 have P:=psz NI.bP;have aoj:w.1.aH.bW < 1000:=by have:=NI.clk;have:=NI.bP.vals;have:=NI.bP.most;omega
 have W0:=Walk.of W.loc.good W.base W.Qo;have l1:=W0.ldN (i:=1) (v:=.ref (S.a 2) 0 0) rfl;obtain⟨K1,a1,W1⟩:=W0.cur P;have W2:=W1.newL (ty:=61) (xs:=[zI,zI,zI]) (r:=K1.next) rfl rfl;obtain⟨K3,b1,b2,W3⟩:=W2.whole ak (n:=3) (vs:=w.1.bP.op.av) rfl (gK _) (by decide) (rX _);have k7:iD (iD noL K1.next [zI,zI,zI]) K1.next w.1.bP.op.av K1.next=some w.1.bP.op.av:=ak
 have ls3:=W3.ldN (i:=15) (v:=I w.1.aI.step) rfl;cases hcur:w.1.bP.cur with
 | none=>
  rw [hcur] at a1;simp only [zaG] at a1;obtain⟨g',W'⟩:=W.to W3;refine⟨K3,g',bg rfl rfl (acR _ _ _ _ _ ?_),W'⟩;simp only [xq_,Zq,l1,a1,b1,zal]
 | some o=>
  rw [hcur] at a1;simp only [zaI] at a1;by_cases hs:w.1.aI.step=0;rotate_left
  ·simp only [if_neg hs];obtain⟨g',W'⟩:=W.to W3;refine⟨K3,g',bg rfl rfl (acR _ _ _ _ _ ?_),W'⟩;simp only [Nat.reduceAdd,xq_,Zq,l1,a1,b1,zae,zal,ls3,hs]
  ·simp only [if_pos hs];rw [hs] at ls3;have hop:w.1.bP.op=o:=by simp only [Proc.op,hcur,zar]
   have hidx:w.1.bP.idx=w.1.bP.bH.length:=by simp only [Proc.idx,hcur]
   have lp:=W3.ldN (i:=1) (v:=.ref (S.a 2) 0 0) rfl;have eb:=P5 W3.loc.good (W3.loc.obj W3.nw.bG.2.2.1);rw [aiI];cases hbg:w.1.bP.eF with
   | true=>
    rw [hbg] at eb;have he:({ w.1 with bP:={ w.1.bP with eF:=true } }:Node)=w.1:=by
     rcases hw:w.1 with⟨ca,pr,ho,de,nu⟩
     rw [hw] at hbg;simp only at hbg;rcases pr with⟨x1,x2,x3⟩
     simp only at hbg;subst hbg;rfl
    rw [he];simp only [if_true];obtain⟨K4,g4,c1,W4⟩:=VK W3 hc F P NI.aH aoj hn (by omega) (o:=w.1.bP.op) k7;rw [hop] at W4;obtain⟨g',W'⟩:=W.to W4;refine⟨K4,g',bg rfl rfl (acR _ _ _ _ _ ?_),W'⟩;simp only [Nat.reduceAdd,xq_,Zq,l1,a1,b1,zae,ls3,lp,eb,c1]
   | false=>
    rw [hbg] at eb;simp only [zah,if_false];obtain⟨v,K4,d1,d2,d3⟩:=aaZ W3.loc.good W3.base (W3.loc.obj W3.nw.bG.2.2.1) P.ops (by have:=P.ops;have:=P.vals;omega) P.vals;have hbp:w.1.bP.zL={ w.1.bP with eF:=true }:=by
     unfold Proc.zL;rw [if_neg (by rw [hbg,hcur];simp)]
    rw [hbp] at d2;have W4:=W3.bP d2 d3;have li:=W4.ldN (i:=10) (v:=I me) rfl;obtain⟨K5,g5,e1,W5⟩:=W4.anF (show w.2.2.length < 1000000 by omega) me w.1.bP.idx;obtain⟨K6,g6,c1,W6⟩:=VK W5 hc F (show PSz ({ w.1.bP with eF:=true }:Proc) from⟨P.ops,P.vals⟩) NI.aH aoj hn (by simp only [zao,zam,zan];omega) (o:=w.1.bP.op) k7;rw [hop,hidx] at W6;obtain⟨g',W'⟩:=W.to W6;refine⟨K6,g',bg rfl rfl (acR _ _ _ _ _ ?_),W'⟩;simp only [Nat.reduceAdd,xq_,Zq,l1,a1,b1,zae,zal,ls3,lp,eb,d1,li,e1,c1]
theorem Xp(W:Walk b H g0 S c me k K g ls w)(hc:c.ok=true)(F:vP c w.2.1)(NI:WC c me w.1)(hl:w.2.2.length < 999999)(hdd:w.1.aI.data.length < 1000000000):
  ∃K' g',match w.2.1.take me false with
   | (f',some p)=> cl 95 [.ref (S.a 0) 0 0,.ref S.f 0 0,.ref S.t 0 0] K=some (B true,K')/\Walk b H g0 S c me k K' g' ls (w.1.answered c me f' w.2.2 p)
   | (_,none)=> cl 95 [.ref (S.a 0) 0 0,.ref S.f 0 0,.ref S.t 0 0] K=some (B false,K')/\Walk b H g0 S c me k K' g' ls w:=by
 have P:=psz NI.bP;have Bd:=Ak hc;have aoj:w.1.aH.bW < 1000:=by have:=NI.clk;have:=NI.bP.vals;have:=NI.bP.most;omega
 have C:=cok hc NI.aH (by omega);have W0:=Walk.of W.loc.good W.base W.Qo;have li:=W0.ldN (i:=10) (v:=I me) rfl;obtain⟨K1,g1,a1,W1⟩:=W0.MS (fok hc F);obtain⟨F1,Q1⟩:=F.take me false;have W2:=W1.newL (ty:=81) (xs:=zP9) (r:=K1.next) rfl rfl;cases ht:w.2.1.take me false with
 | mk f' po=>
  rw [ht] at a1 W1 W2 F1 Q1;simp only at a1 W1 W2 F1 Q1;obtain⟨K3,u1,u2,W3⟩:=W2.whole ak (n:=9) (vs:=(po.getD .zero).av) rfl (bT _) (by decide) (aP _);simp only [iy] at a1;cases po with
  | none=>
   simp only [za1,zaG] at a1 u1 u2;have hf':f'=w.2.1:=by
    have:=Qq (f:=w.2.1) (i:=me) (req:=false) (by rw [ht]);rw [ht] at this;exact this
   subst hf';obtain⟨g',W'⟩:=W.to W3;refine⟨K3,g',bg rfl rfl (WL _ _ _ _ _ ?_),W'⟩;simp only [xq_,LU,li,a1,u1,zal]
  | some p=>
   simp only [zar,zaI] at a1 u1 u2;have Q:=Q1 p rfl;obtain⟨K4,g4,b1,W4⟩:=adG W3 C hdd p (Qr Q);unfold Node.answered;obtain⟨ca,d,ok,hA⟩:∃ca d ok,w.1.after me p=(ca,d,ok):=⟨_,_,_,rfl⟩
   rw [hA] at b1 W4;simp only [uf] at b1 W4;simp only [hA];have W5:=W4.newL (ty:=73) (xs:=zD9) (r:=K4.next) rfl rfl;obtain⟨K6,u3,u4,W6⟩:=W5.whole ak (n:=9) (vs:=d.av) rfl rfl (by decide) (bC d);cases ok with
   | false=>
    simp only [if_true];obtain⟨g',W'⟩:=W.to W6;refine⟨K6,g',bg rfl rfl (WL _ _ _ _ _ ?_),W'⟩;simp only [xq_,LU,li,a1,u1,u2,zae,b1,u3,zal]
   | true=>
    simp only [zbG,if_false];have hs:w.1.aI.step≠0:=λh0=> by
     have hf:w.1.aI.fits p=false:=by unfold bJ.fits;rw [h0];simp [zD,BI]
     rw [rM,AO hf] at hA;simp [vO] at hA
    have NX:=Nh NI.aH (NI.aI hs) hs Q (by rw [<-rM];exact hA);have hd2:d.data.length < 1000000000:=by
     rcases NX.dat with h | h
     ·rw [h];decide
     ·have:=h.1;have:=Bd.cO;omega
    have hck:ca.bW < 1000000000:=by rcases NX.clk with h | h <;> omega
    have C2:COk ca:=cok hc NX.inv hck;obtain⟨K7,g7,c1,W7⟩:=W6.abb d;have lp:=W7.ldN (i:=1) (v:=.ref (S.a 2) 0 0) rfl;obtain⟨K8,d1,W8⟩:=W7.cur P;have W9:=W8.newL (ty:=61) (xs:=[zI,zI,zI]) (r:=K8.next) rfl rfl;obtain⟨K10,u5,u6,W10⟩:=W9.whole ak (n:=3) (vs:=w.1.bP.op.av) rfl (gK _) (by decide) (rX _);have hlt:K4.next < K8.next:=W8.loc.good.lt (q:=K4.next) (pK (g:=g7) ak)
    have k9:iD (iD (iD (iD (iD (iD noL K1.next zP9) K1.next p.av) K4.next zD9) K4.next d.av) K8.next [zI,zI,zI]) K8.next w.1.bP.op.av K4.next=some d.av:=by
     rw [aB (by omega),aB (by omega),ak]
    have l3:=W10.loc.ld k9 (i:=3) (v:=I d.step) rfl;have l0:=W10.loc.ld k9 (i:=0) (v:=I d.aO) rfl;have lo:=W10.loc.ld (r:=K8.next) (xs:=w.1.bP.op.av) ak (i:=0) (v:=I w.1.bP.op.aO) rfl;by_cases h0:d.step=0
    ·simp only [if_pos h0];rw [h0] at l3;by_cases hf:d.aO=3/\w.1.bP.op.aO=4
     ·simp only [if_pos hf];rw [hf.1] at l0;rw [hf.2] at lo;obtain⟨K11,g11,e1,W11⟩:=aa3 W10 P (show w.2.2.length < 1000000 by omega) 0;obtain⟨g',W'⟩:=W.to W11;refine⟨K11,g',bg rfl rfl (WL _ _ _ _ _ ?_),W'⟩;simp only [Int.reduceEq,xq_,LU,li,a1,u1,u2,zae,b1,u3,u4,c1,lp,d1,u5,l3,l0,lo,e1]
     ·simp only [if_neg hf];obtain⟨g',W'⟩:=W.to W10;refine⟨K10,g',bg rfl rfl (WL _ _ _ _ _ ?_),W'⟩;by_cases hk:d.aO=3
      ·have ho:¬w.1.bP.op.aO=4:=λh=> hf ⟨hk,h⟩;rw [hk] at l0;simp only [Int.reduceEq,xq_,LU,li,a1,u1,u2,zae,b1,u3,u4,c1,lp,d1,u5,l3,l0,lo,ho]
      ·simp only [Int.reduceEq,xq_,LU,li,a1,u1,u2,zae,b1,u3,u4,c1,lp,d1,u5,l3,l0,hk]
    ·simp only [if_neg h0];by_cases h6:d.step=6/\d.aO≠3
     ·simp only [if_pos h6];rw [h6.1] at l3;have hk:=h6.2;simp only [ne_eq] at hk;obtain⟨K11,g11,e1,W11⟩:=Qp W10 hc P C2 (show w.2.2.length < 1000000 by omega);obtain⟨K12,g12,e2,W12⟩:=TA W11 hc (fok hc F1) hd2;obtain⟨g',W'⟩:=W.to W12;refine⟨K12,g',bg rfl rfl (WL _ _ _ _ _ ?_),W'⟩;simp only [Int.reduceEq,xq_,LU,GI,li,a1,u1,u2,zae,b1,u3,u4,c1,lp,d1,u5,l3,l0,hk,zal,e1,e2]
     ·simp only [if_neg h6];obtain⟨K12,g12,e2,W12⟩:=TA W10 hc (fok hc F1) hd2;obtain⟨g',W'⟩:=W.to W12;refine⟨K12,g',bg rfl rfl (WL _ _ _ _ _ ?_),W'⟩;by_cases h66:d.step=6
      ·have hk:d.aO=3:=Classical.byContradiction λh=> h6 ⟨h66,h⟩;rw [h66] at l3;rw [hk] at l0;simp only [Int.reduceEq,xq_,LU,GI,li,a1,u1,u2,zae,b1,u3,u4,c1,lp,d1,u5,l3,l0,zae,e2]
      ·simp only [xq_,LU,GI,li,a1,u1,u2,zae,b1,u3,u4,c1,lp,d1,u5,l3,h0,h66,e2]
theorem adL(W:Walk b H g0 S c me k K g ls w)(hc:c.ok=true)(F:vP c w.2.1)(NI:WC c me w.1)(hn:0<=w.1.num/\w.1.num < 1000000)(hl:w.2.2.length < 999999)(hdd:w.1.aI.data.length < 1000000000)(hw:∀aj,(w.1.home.aT.ws aj).length < 1000000):
  ∃K' g',cl 49 [.ref (S.a 0) 0 0,.ref S.f 0 0,.ref S.t 0 0] K=some (I (w.1.step c me w.2.1 w.2.2).2,K')/\Walk b H g0 S c me k K' g' ls (w.1.step c me w.2.1 w.2.2).1:=by
 have Z:=hsz hc NI hw;have C:=cok hc NI.aH (by have:=NI.clk;have:=NI.bP.vals;have:=NI.bP.most;omega);unfold Node.step;obtain⟨K1,g1,h1⟩:=Xp W hc F NI hl hdd;cases ht:w.2.1.take me false with
 | mk f' po=>
  rw [ht] at h1;cases po with
  | some p=>
   obtain⟨a1,W1⟩:=h1;refine⟨K1,g1,bg rfl rfl (WI _ _ _ _ _ ?_),W1⟩;simp only [xq_,Sr,a1]
  | none=>
   obtain⟨a1,W1⟩:=h1;simp only;obtain⟨K2,g2,h2⟩:=aa9 W1 hc F Z;by_cases hg:w.1.home.ready≠[]/\w.2.1.roomOf me false≠0
   ·rw [if_pos hg] at h2 ⊢;obtain⟨a2,W2⟩:=h2;refine⟨K2,g2,bg rfl rfl (WI _ _ _ _ _ ?_),W2⟩;simp only [xq_,Sr,a1,a2]
   ·rw [if_neg hg] at h2 ⊢;obtain⟨a2,W2⟩:=h2;obtain⟨K3,g3,h3⟩:=TD W2 hc F C Z;cases hr:(if w.2.1.roomOf me false=0 then(w.2.1,none) else w.2.1.take me true) with
    | mk f2 po2=>
     rw [hr] at h3;cases po2 with
     | some p=>
      obtain⟨a3,W3⟩:=h3;refine⟨K3,g3,bg rfl rfl (WI _ _ _ _ _ ?_),W3⟩;simp only [xq_,Sr,a1,a2,a3]
     | none=>
      obtain⟨a3,W3⟩:=h3;simp only;obtain⟨K4,g4,h4⟩:=abd W3 hc F NI hn hl;cases hcu:w.1.bP.cur with
      | none=>
       rw [hcu] at h4;obtain⟨a4,W4⟩:=h4;refine⟨K4,g4,bg rfl rfl (WI _ _ _ _ _ ?_),W4⟩;simp only [xq_,Sr,a1,a2,a3,a4]
      | some o=>
       rw [hcu] at h4;simp only at h4 ⊢;by_cases hs:w.1.aI.step=0
       ·rw [if_pos hs] at h4 ⊢;obtain⟨a4,W4⟩:=h4;refine⟨K4,g4,bg rfl rfl (WI _ _ _ _ _ ?_),W4⟩;simp only [xq_,Sr,a1,a2,a3,a4]
       ·rw [if_neg hs] at h4 ⊢;obtain⟨a4,W4⟩:=h4;refine⟨K4,g4,bg rfl rfl (WI _ _ _ _ _ ?_),W4⟩;simp only [xq_,Sr,a1,a2,a3,a4]
end
theorem adM {H:ah}{r:Nat}{o:fU}(h:H.get r=o):H.put r o=H:=by
 subst h;unfold ah.put;have:(λx=> if x=r then H.get r else H.get x)=H.get:=by
  funext x
  split
  ·rename_i e;rw [e]
  ·rfl
 rw [this]
theorem aiJ {H:ah}{r:Nat}{o o':fU}:(H.put r o).put r o'=H.put r o':=by
 unfold ah.put
 congr 1
 funext x
 simp only;split <;> rfl
def su(bit mask:Int)(i:Nat)(l:List By):List By:=l.mapIdx λj c=> if j < i then c ^^^ uO bit mask j else c
theorem qI(bit mask:Int)(i:Nat)(l:List By):(su bit mask i l).length=l.length:=by simp [su]
theorem Xq(bit mask:Int)(l:List By):su bit mask 0 l=l:=by
 unfold su
 apply zbg
 intro i;rw [zbf];cases l[i]? <;> simp
theorem abe(bit mask:Int)(l:List By):su bit mask l.length l=qw bit mask l:=by
 unfold su qw
 apply zbg
 intro i;rw [zbf,zbf];cases h:l[i]? with
 | none=> rfl
 | some c=> simp [(zai.1 h).1]
theorem Qv(bit mask:Int){i:Nat}{l:List By}{c:By}(h:l[i]?=some c):(su bit mask i l)[i]?=some c:=by
 unfold su;rw [zbf,h];simp
theorem J7(bit mask:Int){i:Nat}{l:List By}{c:By}(h:l[i]?=some c):su bit mask (i+1) l=(su bit mask i l).set i (c ^^^ uO bit mask i):=by
 apply zbg
 intro j;have hi:=(zai.1 h).1;unfold su;rw [zbf,zcI,zbf,zbP];by_cases e:i=j
 ·subst e;rw [if_pos rfl,if_pos hi,h];simp
 ·rw [if_neg e];cases hj:l[j]? with
  | none=> rfl
  | some d=>
   simp only [zak]
   congr 1
   by_cases h1:j < i
   ·rw [if_pos h1,if_pos (by omega)]
   ·rw [if_neg h1,if_neg (by omega)]
theorem CW(bit mask:Int){i:Nat}{l:List By}{c:By}(h:l[i]?=some c)(hm:uO bit mask i=0#8):su bit mask (i+1) l=su bit mask i l:=by
 rw [J7 bit mask h,hm,zdo]
 apply zbg
 intro j;rw [zcI];split
 ·rename_i e;subst e;split
  ·rw [Qv bit mask h]
  ·rename_i hh;rw [zaK (by omega)]
 ·rfl
theorem Xr {K0:ah}{r n:Nat}{l:List By}{bit mask:Int}(hb:zH bit)(h0:0<=mask)(h1:mask<=65535)(hs:l.length < 1000)(hr:r < K0.next)(hbase:K0.base<=r):
  ∀(k i:Nat),i+k=l.length->Eo cl0 [I bit,.s (.int .u16 mask),.sl r 0 0 1 l.length l.length false,I l.length,I i] (K0.put r (.blk 0 (5+gV) ((su bit mask i l).map Y)))
   =some (.sl r 0 0 1 l.length l.length false,K0.put r (.blk 0 (5+gV) ((su bit mask l.length l).map Y))):=by
 obtain⟨hb1,hb2⟩:=hb;intro k
 induction k with
 | zero=>
  intro i hi;have h1:¬((i:Int) < l.length):=by omega
  obtain rfl:i=l.length:=by omega
  rw [UW];simp only [Int.reduceNeg,xq_,h1]
 | succ k ih=>
  intro i hi;have h2:(i:Int) < l.length:=by omega
  have h6:(i:Int)+1=((i+1:Nat):Int):=by omega
  have h7:=wrap_i64 (a:=((i+1:Nat):Int)) (by omega) (by omega);obtain⟨c,hc⟩:∃c,l[i]?=some c:=⟨_,zab (by omega)⟩
  have w8:=wrap_i64 (a:=8*(i:Int)) (by omega) (by omega);have ihn:=ih (i+1) (by omega);rw [UW];by_cases hov:8*(i:Int) - bit < 9223372036854775808
  ·have wd:=wrap_i64 (a:=8*(i:Int) - bit) (by omega) (by omega);by_cases hA:8*(i:Int) - bit<=-8
   ·have hm:uO bit mask i=0#8:=by unfold uO;rw [if_pos (.inl hA)]
    rw [CW bit mask hc hm] at ihn;simp only [Int.reduceNeg,xq_,h2,oU,w8,jR,wd,hA,xG,dF,h6,h7,ihn]
   by_cases hB:16<=8*(i:Int) - bit
   ·have hm:uO bit mask i=0#8:=by unfold uO;rw [if_pos (.inr hB)]
    rw [CW bit mask hc hm] at ihn;simp only [Int.reduceNeg,xq_,h2,oU,w8,jR,wd,hA,hB,xG,dF,h6,h7,ihn]
   have hd:∃d:Int,8*(i:Int) - bit=d/\-8 < d/\d < 16:=⟨_,rfl,by omega,by omega⟩
   obtain⟨d,hd,hd1,hd2⟩:=hd;have wd8:=wrap_i64 (a:=d+8) (by omega) (by omega);have wdd:=wrap_i64 (a:=d) (by omega) (by omega);have ds:¬(d<=-8):=by omega
   have db:¬(16<=d):=by omega
   obtain⟨m,rfl⟩:∃m:Nat,mask=m:=⟨mask.toNat,by omega⟩
   have arE:AV.s (.int .u16 (m:Int))=U16 (BitVec.ofNat 16 m):=by
    have hv:(((BitVec.ofNat 16 m).toNat:Nat):Int)=m:=by rw [zci,zcx (by omega)]
    show AV.s (.int .u16 (m:Int))=AV.s (.int .u16 (((BitVec.ofNat 16 m).toNat:Nat):Int));rw [hv]
   let K:ah:=K0.put r (.blk 0 (5+gV) ((su bit m i l).map Y));have byK:dI K (.sl r 0 0 1 l.length l.length false) (su bit m i l):=by
    refine⟨⟨by simp,rfl,(qI ..).symm,⟨hr,zac _⟩,_,_,tX,?_,?_⟩,by rw [qI];exact hs⟩
    ·rw [zaD,qI];omega
    ·rw [qI,zbI,zaQ,zaz (by rw [zaD,qI];exact zac _)]
   have s1:ix 1 (.sl r 0 0 1 l.length l.length false) (I i) K=some (.ref r 0 i,K):=by
    have:=byK.ix (i:=i) (by rw [qI];omega)
    simpa [eU] using this
   have s2:ld (.ref r 0 i) K=some (Y c,K):=by
    have:=byK.ld (Qv bit m hc)
    simpa [eU] using this
   have e1:cv 42 260 (.s (.int .u16 (m:Int))) K=some (U32 (BitVec.ofNat 32 m),K):=by
    refine(YJ (k:=.u16) (n:=(m:Int)) (H:=K)).trans ?_;rw [zY (k:=.u32) rfl];rfl
   let u1:BitVec 32:=BitVec.ofNat 32 m <<< 8;let u2:BitVec 32:=u1 <<< (d+8).toNat;have e2:bi .shl 260 (U32 (BitVec.ofNat 32 m)) (.s (.int .u64 8))=some (U32 u1):=Zb (k:=.u32) rfl _ 8 (by decide) (by decide);have e3:bi .shl 260 (U32 u1) (I (d+8))=some (U32 u2):=Zb (k:=.u32) rfl u1 (d+8) (by omega) (show d+8<=(32:Int) by omega);have e4:bi .shr 260 (U32 u2) (.s (.int .u64 24))=some (U32 (u2 >>> 24)):=ahq (k:=.u32) u2 24 (by decide) (by decide);have e5:cv 260 5 (U32 (u2 >>> 24)) K=some (Y ((u2 >>> 24).setWidth 8),K):=
    (acy (k:=.u32) (n:=((u2 >>> 24).toNat:Int)) (H:=K)).trans (congrArg (λv=> some (v,K)) (ako (k:=.u32) (k':=.u8) rfl _))
   have hm:(u2 >>> 24).setWidth 8=uO bit m i:=by
    unfold uO;rw [if_neg (by rw [hd];omega),hd];rfl
   rw [hm] at e5;have e6:bi .xor 5 (Y c) (Y (uO bit m i))=some (Y (c ^^^ uO bit m i)):=ahp (k:=.u8) rfl _ _;have e7:st 1 (.ref r 0 i) (Y (c ^^^ uO bit m i)) K=some (aY,K0.put r (.blk 0 (5+gV) ((su bit m (i+1) l).map Y))):=by
    refine(UF (H:=K) (r:=r) (gg:=0) (off:=i) (ty:=5+gV) (xs:=(su bit m i l).map Y) (v:=Y (c ^^^ uO bit m i)) dJ tX hbase (by rw [zaD,qI];omega)).trans ?_;show some (aY,(K0.put r _).put r _)=_;rw [aiJ,J7 bit m hc,List.map_set]
   simp only [K] at s1 s2 e1 e5 e7;simp only [Int.reduceNeg,xq_,h2,oU,w8,jR,hd,wdd,ds,db,s1,s2,e1,e2,e3,e4,e5,e6,e7,wd8,xG,dF,h6,h7,ihn]
  ·have wd:IntKind.i64.wrap (8*(i:Int) - bit)=8*(i:Int) - bit - 18446744073709551616:=by
    simp only [IntKind.wrap,IntKind.signed,IntKind.bits];simp;omega
   have hA:8*(i:Int) - bit - 18446744073709551616<=-8:=by omega
   have hm:uO bit mask i=0#8:=by unfold uO;rw [if_pos (.inr (by omega))]
   rw [CW bit mask hc hm] at ihn;simp only [Int.reduceNeg,xq_,h2,oU,w8,jR,wd,hA,xG,dF,h6,h7,ihn]
theorem anI {H:ah}(hb:H.base<=H.next){x:AV}{l:List By}(hx:dI H x l)(hl:l≠[]){bit mask:Int}(hbit:zH bit)(h0:0<=mask)(h1:mask<=65535):
  ∃r H',cl0 130 [x,I bit,.s (.int .u16 mask)] H=some (.sl r 0 0 1 l.length l.length false,H')/\Gro H H'/\dI H' (.sl r 0 0 1 l.length l.length false) (qw bit mask l)/\H'.base<=H'.next:=by
 let H1:=H.new (.blk 0 5 []);let K0:=H1.new (.blk 0 (5+gV) (l.map Y));have e1:=aal hx hl;have n1:H1.next=H.next+1:=fA
 have n2:K0.next=H.next+1+1:=by simp only [K0,fA,n1]
 have g:Gro H K0:=(Gro.new H 0 _ _).trans (Gro.new H1 0 _ _);have at_:K0.get (H.next+1)=.blk 0 (5+gV) (l.map Y):=bF n1.symm;have ps:K0.put (H.next+1) (.blk 0 (5+gV) ((su bit mask 0 l).map Y))=K0:=by rw [Xq];exact adM at_
 have lp:=Xr (K0:=K0) (r:=H.next+1) (n:=0) (l:=l) hbit h0 h1 hx.small (by omega) (by rw [g.base];omega) l.length 0 (by omega);rw [ps] at lp;have ln:lnS (.sl (H.next+1) 0 0 1 l.length l.length false) K0=some (I l.length,K0):=rfl;refine⟨H.next+1,K0.put (H.next+1) (.blk 0 (5+gV) ((su bit mask l.length l).map Y)),iG (ali _ _ _ _ _ ?_),g.put (by omega),?_,by show K0.base<=K0.next;rw [g.base];omega⟩
 ·simp only [xq_,afp,e1];exact lp
 ·rw [abe];refine⟨⟨by simp,rfl,(iW ..).symm,⟨by show H.next+1 < K0.next;omega,zac _⟩,_,_,tX,?_,?_⟩,by rw [iW];exact hx.small⟩
  ·rw [zaD,iW];omega
  ·rw [iW,zbI,zaQ,zaz (by rw [zaD,iW];exact zac _)]
theorem apR(c:By):yOf (Y c)=some c:=by
 have h:=c.isLt;show(if(0:Int)<=(c.toNat:Int)/\(c.toNat:Int) < 256 then some (BitVec.ofInt 8 (c.toNat:Int)) else none)=some c;rw [if_pos ⟨by omega,by omega⟩,qx]
theorem agD:∀l:List By,(l.map Y).mapM yOf=some l
 | []=> rfl
 | c::l=> by rw [zaw,zbw,apR,agD l];rfl
theorem Xt {H:ah}{r n:Nat}{l:List By}(hn:l.length=n)(h:dI H (.sl r 0 0 1 n n false) l)(h0:0 < n)(h8:n<=800):Gx (.sl r 0 0 1 n n false) H=some l:=by
 subst hn;obtain⟨⟨hl,_,_,⟨hr,_⟩,ty,all,h2,h3,h4⟩,hs⟩:=h;rw [zbI] at h4 h3;simp only [Gx,h2];rw [if_pos ⟨trivial,trivial,h3,h0,h8⟩,<-h4];exact agD l
theorem Qw(p:Pkt):(rZ p).length=12+8*p.data.length:=by
 rw [rC];rfl
theorem abf {H:ah}{r:Nat}{p:Pkt}(hp:p.fit){bit mask:Int}(h0:0<=mask)(h1:mask<=65535){n:Nat}(hn:n=(rZ p).length)(h:dI H (.sl r 0 0 1 n n false) (qw bit mask (rZ p))):
  cl 129 [.sl r 0 0 1 n n false] H=some (if aT p.bytes bit mask=true then .tup [.agg Pkt.zero.av,I 2] else .tup [.agg p.av,I 0],H):=by
 refine FT (p:=BZ) rfl ?_;have ok:=hp.ok;simp only [Pkt.ok,zaf,decide_eq_true_eq] at ok;have hlen:=Qw p;unfold BZ;simp only [Xt (by rw [iW,hn]) h (by omega) (by omega)];by_cases ht:aT p.bytes bit mask=true
 ·rw [if_pos ht];have hne:∀y,qw bit mask (rZ p)≠jD y:=λy=> Sj h0 h1 (by
   have:(jD (fD p)).length=p.bytes:=rC p;rw [this];exact ht)
  rw [dif_neg (λ⟨q,_,hq⟩=> hne _ hq.symm),if_pos hne]
 ·rw [if_neg ht];have he:qw bit mask (rZ p)=rZ p:=WH h0 h1 (by rw [rC];simpa using ht);have hex:∃q:Pkt,q.fit/\rZ q=qw bit mask (rZ p):=⟨p,hp,he.symm⟩
  rw [dif_pos hex];have hs:=Classical.choose_spec hex;have:Classical.choose hex=p:=adu hs.1 hp (hs.2.trans he);rw [this]
theorem VL(p:Pkt)(n:Int):Frz 9 (.tup [.agg p.av,I n]):=rY λx hx=> by
 simp only [zaj,zay,or_false] at hx;rcases hx with rfl | rfl
 ·exact mW λx hx=> by
   simp only [Pkt.av,zaj,zay,or_false] at hx;rcases hx with rfl | rfl | rfl | rfl | rfl | rfl | rfl | rfl | rfl <;> first | exact gq | exact uM
 ·exact gq
theorem aiK(H:ah){p:Pkt}(hp:p.fit){bit mask:Int}(hbit:zH bit)(h0:0<=mask)(h1:mask<=65535):
  cl 90 [.agg p.av,I bit,.s (.int .u16 mask)] H=some (if aT p.bytes bit mask=true then .tup [.agg Pkt.zero.av,I 2] else .tup [.agg p.av,I 0],H):=by
 have ax:p.av=p.avx (dat p.data):=rfl;let o1:fU:=.blk 0 81 p.av;let o2:fU:=.blk 0 81 zPk;let K:=(H.guard.new o1).new o2;have hlen:=Qw p;have hK:K.base<=K.next:=by simp only [K,jy,fA];exact(by omega:H.next<=H.next+1+1)
 obtain⟨y,K1,e1,g1,b1,hb1⟩:=ang hK p (pV K p.data) hp.ok;rw [<-ax] at e1;have e1':cl 128 [.agg p.av] K=some (.tup [y,I 0],K1):=FT (p:=cl0 128) rfl e1;obtain⟨r,K2,e2,g2,b2,hb2⟩:=anI hb1 b1 (bit:=bit) (mask:=mask) (λe=> by rw [e] at hlen;simp at hlen;omega) hbit h0 h1;have e2':cl 130 [y,I bit,.s (.int .u16 mask)] K1=some (_,K2):=FT (p:=cl0 130) rfl e2;have e3:=abf hp h0 h1 rfl b2;have hR:K2.get (H.next+1)=o2:=by
  rw [g2.same _ (zav (show H.next+1 < K.next by simp only [K,fA];exact zdd _) g1.next),g1.same _ (by simp only [K,fA];exact zdd _)];exact bF rfl
 have hbase:K2.base<=H.next+1:=by
  rw [g2.base,g1.base];exact za6 _
 have key:∀q:Pkt,st 9 (.ref (H.next+1) 0 0) (.agg q.av) K2=some (aY,K2.put (H.next+1) (.blk 0 81 q.av))/\lda 9 (.ref (H.next+1) 0 0) (K2.put (H.next+1) (.blk 0 81 q.av))=some (.agg q.av,K2.put (H.next+1) (.blk 0 81 q.av)):=λq=> by
  refine⟨?_,(gy (off:=0) (n:=9) tX (zac _)).trans rfl⟩;rw [UG (aP _) (show q.av.length=9 from rfl) hR hbase (by decide)];rfl
 have l1:lda 9 (.ref H.next 0 0) K=some (.agg p.av,K):=by
  have:K.get H.next=.blk 0 81 p.av:=by
   simp only [K];rw [cZ (by rw [fA];exact zdd _)];exact bF rfl
  exact(gy (off:=0) (n:=9) this (zac _)).trans rfl
 by_cases ht:aT p.bytes bit mask=true
 ·rw [if_pos ht] at e3 ⊢;refine bU rfl rfl (akY _ _ _ _ _) ?_ (VL _ _);obtain⟨k1,k2⟩:=key .zero;simp only [K,o1,o2] at e1' l1;have n1:H.guard.next=H.next:=rfl
  simp only [Nat.reduceLT,xq_,hq_,ahI,aF,l1,e1',e2',e3,k1,k2,zae]
 ·rw [if_neg ht] at e3 ⊢;refine bU rfl rfl (akY _ _ _ _ _) ?_ (VL _ _);obtain⟨k1,k2⟩:=key p;simp only [K,o1,o2] at e1' l1;have n1:H.guard.next=H.next:=rfl
  simp only [Nat.reduceLT,xq_,hq_,ahI,aF,l1,e1',e2',e3,k1,k2,zae]
theorem VN:∀(l:List Port) (i:Nat) (k:Nat) {j:Nat} {k':Int},wR (l.flatMap λp=> [p.rq,p.an]) (2*i) (k:Int)=some (j,k')->zF l i k=some (j / 2,decide (j % 2=0),k'.toNat)
 | [],i,k,j,k',h=> by cases h
 | p::l,i,k,j,k',h=> by
  simp only [zaE,zbe,zaJ,wR] at h;simp only [zF];by_cases h1:k < p.rq.length
  ·rw [if_pos ⟨by omega,by omega⟩] at h;cases h;rw [if_pos h1,show 2*i / 2=i by omega,show 2*i % 2=0 by omega];rfl
  ·rw [if_neg (λhh=> h1 (by omega))] at h;rw [if_neg h1];by_cases h2:k < p.rq.length+p.an.length
   ·rw [if_pos ⟨by omega,by omega⟩] at h;cases h;rw [if_pos h2,show(2*i+1) / 2=i by omega,show(2*i+1) % 2=1 by omega];simp only [zaa,zad,true_and];exact⟨by simp,by omega⟩
   ·rw [if_neg (λhh=> h2 (by omega))] at h;rw [if_neg h2];rw [show(k:Int) - p.rq.length - p.an.length=((k - (p.rq.length+p.an.length):Nat):Int) by omega,show 2*i+1+1=2*(i+1) by omega] at h;exact VN l (i+1) _ h
theorem arf {b:Nat}{K:ah}{gk:bD}{r:Nat}{ys:List AV}(Gk:Good b K gk)(hk:K.base<=b)(hz:gk r=some (ys.map Cell.av))(hy:ys.length=2){y:List AV}(h9:y.length=2)(ha:y.all AV.aX=true):
  ∃K',st 2 (.ref r 0 0) (.agg y) K=some (aY,K')/\Good b K' (upd gk r (y.map Cell.av))/\Step b K K':=by
 obtain⟨K',t1,t2,t3,t4⟩:=Gk.stores hk hz (i:=0) (n:=2) (vs:=y) (by simp [hy]) h9 ha;have e:pG (ys.map Cell.av) 0 y=y.map Cell.av:=by
  unfold pG;rw [zaS (by simp [h9,hy])];simp
 rw [e] at t2;exact⟨K',t1,t2,t3⟩
theorem abg {fab:Fab}{d:Nat}{req:Bool}{l:List Pkt}:(fab.put d ((fab.port d).kM req l)).iV=fab.iV:=by
 unfold Fab.iV Fab.put;rw [zat];have key:∀(ls:List Port) (d:Nat),((ls.set d ((ls.getD d .zero).kM req l)).flatMap λp=> [p.rq,p.an])=ls.flatMap λp=> [p.rq,p.an]:=by
  intro ls
  induction ls with
  | nil=> intro d;rfl
  | cons p ls ih=>
   intro d;cases d with
   | zero=> cases req <;> simp [Port.kM]
   | succ d=> simpa using ih d
 have:=key fab.l d;unfold Fab.port;rw [zat];exact this
theorem VO:∀(ls:List Port) (j:Nat) {l:List Pkt},(ls.flatMap λp=> [p.rq,p.an])[j]?=some l->(ls.getD (j / 2) .zero).sort (decide (j % 2=0))=l
 | [],j,l,h=> by simp at h
 | p::ls,0,l,h=> by simpa [Port.sort] using h
 | p::ls,1,l,h=> by simpa [Port.sort] using h
 | p::ls,j+2,l,h=> by
  have h':(ls.flatMap λp=> [p.rq,p.an])[j]?=some l:=by simpa using h
  have:=VO ls j h';rw [show(j+2) / 2=j / 2+1 by omega,show(j+2) % 2=j % 2 by omega]
  simpa using this
section
variable {b:Nat}{H:ah}{g:bD}{f:Nat}{P:Nat->Nat->Nat}{c:Cfg}{fab:Fab}
theorem Xu(G:Good b H g)(hb:H.base<=b)(F:gY g f P c fab)(J:SS P fab.l.length)(K:FOk c fab)(h0:fab.l.length≠0)(hfit:∀p∈fab.all,p.fit/\fab.is p.dst=true){at_ bit mask:Int}(h64:zH at_)(hbit:zH bit)(m0:0<=mask)(m1:mask<=65535):
  ∃H' g',cl 48 [.ref f 0 0,I at_,I bit,.s (.int .u16 mask)] H=some (I (fab.deliver at_ bit mask).2,H')/\Good b H' g'/\gY g' f P c (fab.deliver at_ bit mask).1/\Off (NY P fab.l.length) g g'/\Step b H H':=by
 have hb0:H.base<=H.next:=zau hb G.1
 have abh:∀l∈fab.iV,l.length < 1000/\∀p∈l,p.data.length < 1000000000:=by
  intro l hl;unfold Fab.iV at hl;obtain⟨p,hp,hl⟩:=za9.1 hl;simp only [zaj,zay,or_false] at hl;rcases hl with rfl | rfl
  ·exact⟨K.small hp (s:=0) (by decide),K.dat p hp 0 (by decide)⟩
  ·exact⟨K.small hp (s:=2) (by decide),K.dat p hp 2 (by decide)⟩
 have e1:=aaA G F K.len h0 abh at_ h64;have hn0:g H.next=none:=G.isNone (zac _)
 have G1:=G.newObj (ty:=81) (xs:=zP9) rfl;obtain⟨K1,s1,l1,G2,S2⟩:=aiv G1 (by rw [jy];exact hb) aU rfl (y:=((fab.pkt at_).getD .zero).av) (bT _) (aP _);rw [rV] at G2;have S02:=(Step.new (.blk 0 81 zP9) G.1).trans S2;cases hp:fab.pkt at_ with
 | none=>
  have hd:fab.deliver at_ bit mask=(fab,3):=by
   unfold Fab.deliver;unfold Fab.pkt at hp;split at hp
   ·rename_i h;rw [if_pos h]
   ·rename_i h;rw [if_neg h,hp]
  rw [hd];rw [hp] at e1 s1;refine⟨K1,g,bg rfl rfl (acN _ _ _ _ _ _ ?_),G2.sub ((sW.refl g).more hn0 _),F,Off.refl _ _,S02⟩;simp only [iy,za1,zaG] at e1 s1;simp only [xq_,Zj,e1,s1,zal]
 | some p=>
  rw [hp] at e1 s1 l1 G2;simp only [iy,zar,zaI] at e1 s1 l1 G2;have hat:¬at_ < 0:=by
   intro h;unfold Fab.pkt at hp;rw [if_pos h] at hp;cases hp
  have hall:fab.all[at_.toNat]?=some p:=by
   unfold Fab.pkt at hp
   rwa [if_neg hat] at hp
  obtain⟨pf,pd⟩:=hfit p (zaq hall);have e2:=aiK K1 pf hbit m0 m1;have hd:fab.deliver at_ bit mask=if aT p.bytes bit mask=true then(fab,2) else
    if fab.room (qK p.aO)<=((fab.port p.dst).qL (qK p.aO)).length then(fab,5) else
    ((fab.put p.dst ((fab.port p.dst).kM (qK p.aO) ((fab.port p.dst).qL (qK p.aO)++[p]))).remove at_.toNat,0):=by
   unfold Fab.deliver;rw [if_neg hat,hall]
  have hk1:K1.base<=b:=by rw [S02.base];exact hb
  by_cases ht:aT p.bytes bit mask=true
  ·rw [if_pos ht] at e2 hd;rw [hd];obtain⟨K2,s3,l3,G3,S3⟩:=aiv G2 hk1 aU (bT _) (y:=Pkt.zero.av) (bT _) (aP _);rw [rV] at G3;refine⟨K2,g,bg rfl rfl (acN _ _ _ _ _ _ ?_),G3.sub ((sW.refl g).more hn0 _),F,Off.refl _ _,S02.trans S3⟩;simp only [Int.reduceEq,xq_,Zj,e1,s1,zae,l1,e2,s3,zal]
  rw [if_neg ht] at e2 hd;rw [hd];obtain⟨K2,s3,l3,G3,S3⟩:=aiv G2 hk1 aU (bT _) (y:=p.av) (bT _) (aP _);rw [rV] at G3;have S03:=S02.trans S3;have F3:=F.sub ((sW.refl g).more hn0 (p.av.map Cell.av));obtain⟨d,hdd,hdl⟩:=Az pd;obtain⟨x,r,gg,o,h1,h2,h3⟩:=AA G3 F3 hdl;have hdst:ld (.ref H.next 0 2) K2=some (I p.dst,K2):=G3.load aU (i:=2) rfl;have hkind:ld (.ref H.next 0 0) K2=some (I p.aO,K2):=G3.load aU (i:=0) rfl;let req:=qK p.aO;have rq:=JX K2.guard p.aO;obtain⟨K3,t1,t2⟩:=EX K2.guard (zac _) (P d) req;obtain⟨K3,t1,t2⟩:=drawn t1 t2;have G4:=G3.ext t2.next t2.same
  have hk3:K3.base<=b:=by rw [t2.base,S03.base];exact hb
  have S34:Step b K2 K3:=⟨t2.base,t2.next,λr hr=> t2.same r (zav hr G3.1)⟩
  have l9:lda 9 (.ref H.next 0 0) K3=some (.agg p.av,K3):=G4.loads aU (i:=0) (n:=9) (xs:=p.av) rfl rfl (by decide);have hbx:=gG (F3.port hdl) (rJ req);have hR:=J5 K.ok (iIx req);obtain⟨K4,q1,q2,q3⟩:=acS G4 hk3 hbx hR.1 hR.2 (K.small (Fab.uV hdl) (rJ req)) p (by have:=pf.ok;simp only [Pkt.ok,zaf,decide_eq_true_eq] at this;omega);rw [Ib] at q1 q2;have hroom:NZ c (iIx req)=fab.room req:=by
   have arh:fab.inn=c.inn:=F.2.2.2;unfold Fab.room;cases req <;> simp [iIx,NZ,arh]
  have hle:=K.box _ (Fab.uV hdl) _ (rJ req);rw [Ib] at hle;have f1:(adA (P d) req)[1]?=some (.ref (P d (iIx req)) 0 0):=rfl;have S04:=(S03.trans S34).trans q3;have hk4:K4.base<=b:=by rw [S04.base];exact hb
  have hdp:p.dst=(d:Int):=hdd;have hpn:P d (iIx req)≠H.next:=λe=> F.Tv G ⟨d,iIx req,hdl,rJ req,e.symm⟩
  by_cases hfull:NZ c (iIx req)=(((fab.port d).qL req).length:Int)
  ·rw [if_pos hfull] at q1 q2;rw [if_pos (show fab.room (qK p.aO)<=((fab.port p.dst).qL (qK p.aO)).length by rw [hdp];show fab.room req<=_;rw [<-hroom];exact Int.le_of_eq hfull)];rw [fF (by rw [hbx,Ib])] at q2;refine⟨K4,g,bg rfl rfl (acN _ _ _ _ _ _ ?_),q2.sub ((sW.refl g).more hn0 _),F,Off.refl _ _,S04⟩;rw [hdp] at hdst;simp only [req] at rq t1 f1 q1;simp only [Int.reduceEq,xq_,Zj,e1,s1,zae,l1,e2,s3,h1,hdst,h2,h3,hkind,rq,t1,f1,l9,q1,zal]
  ·rw [if_neg hfull] at q1 q2;rw [if_neg (show¬fab.room (qK p.aO)<=((fab.port p.dst).qL (qK p.aO)).length by rw [hdp];show¬fab.room req<=_;rw [<-hroom];exact λh=> hfull (Int.le_antisymm h hle))];have F4:=F3.fill J hdl (rJ req) (p':=(fab.port d).kM req ((fab.port d).qL req++[p])) (l:=(fab.port d).qL req++[p]) (CO _ _ _);rw [hdp];show∃H' g',_/\_/\gY g' f P c ((fab.put d ((fab.port d).kM req ((fab.port d).qL req++[p]))).remove at_.toNat)/\_/\_;generalize aiL:fab.put d ((fab.port d).kM req ((fab.port d).qL req++[p]))=Nl at*;have anJ:Nl.iV=fab.iV:=by rw [<-aiL];exact abg
   have hlen1:Nl.l.length=fab.l.length:=by rw [<-aiL];simp [Fab.put]
   have e5:=aaz q2 F4 (by rw [hlen1];exact K.len) (by rw [hlen1];exact h0) (λl hl=> (abh l (by rw [<-anJ];exact hl)).1) at_ h64;rw [anJ] at e5;cases hf:wR fab.iV 0 at_ with
   | none=>
    exfalso;have:=Cm hf;rw [show fab.iV.flatten=fab.all from CB fab.l] at this;have h2:=(zai.1 hall).1;omega
   | some jk=>
    obtain⟨j,k⟩:=jk;rw [hf] at e5;obtain⟨_,l,z2,z3,z4,z5,z6⟩:=tV hf;rw [Nat.sub_zero] at z2;have hj:j < 2*fab.l.length:=by
     have:=(zai.1 z2).1
     rwa [Fab.iV,qE] at this
    have hj2:j / 2 < Nl.l.length:=by rw [hlen1];omega
    obtain⟨kn,rfl⟩:∃kn:Nat,k=kn:=⟨k.toNat,by omega⟩
    have hfa:zF Nl.l 0 at_.toNat=some (j / 2,decide (j % 2=0),kn):=by
     have hh:=VN Nl.l 0 at_.toNat (j:=j) (k':=kn) (by
      show wR Nl.iV 0 _=_;rw [anJ,zcZ (by omega)];exact hf)
     simpa using hh
    have ex1:wS P (some (j,(kn:Int)))=.tup [.agg (kJ P j),I kn,B true]:=rfl;rw [ex1] at e5;let rq2:Bool:=decide (j % 2=0);have hP:(if j % 2=0 then 0 else 2)=oIx rq2:=by
     by_cases h:j % 2=0 <;> simp [rq2,h,oIx]
    have hp3:=aay F4 (j:=j) (l:=l) (by rw [anJ];exact z2);rw [hP] at hp3;have hq4:=gG (F4.port hj2) (tZ rq2);have hl:(Nl.port (j / 2:Nat)).sort rq2=l:=by
     have:=VO Nl.l j (show Nl.iV[j]?=some l by rw [anJ];exact z2);unfold Fab.port;rw [zat];exact this
    have hkl:kn < l.length:=by omega
    obtain⟨hl3,hd3⟩:=abh l (zaq z2);have n4:(upd (upd g H.next (p.av.map Cell.av)) (P d (iIx req)) (mZ ((fab.port d).qL req++[p]) (NZ c (iIx req)))) K4.next=none:=q2.isNone (zac _)
    have G5:=q2.newObj (ty:=121) (xs:=[zP,zP]) rfl;obtain⟨K5,u1,G6,S6⟩:=arf G5 (by rw [jy];exact hk4) aU rfl (y:=kJ P j) rfl rfl;rw [rV] at G6;have u2:ld (.ref K4.next 0 0) K5=some (.ref (P (j / 2) (oIx rq2)) 0 0,K5):=by
     refine G6.load aU (i:=0) ?_;rw [<-hP];rfl
    have S05:=(S04.trans (Step.new _ q2.1)).trans S6;have hk5:K5.base<=b:=by rw [S05.base];exact hb
    have hne:P (j / 2) (oIx rq2)≠K4.next:=λe=> by rw [e,n4] at hp3;cases hp3
    obtain⟨v,K6,y1,G7,S7⟩:=Xh G6 hk5 (by rw [aZ hne];exact hp3) hl3 hd3 kn hkl;have hJ1:SS P Nl.l.length:=by rw [hlen1];exact J
    have F7:=F4.fill hJ1 hj2 (tZ rq2) (p':=(Nl.port (j / 2:Nat)).drop rq2 kn) (l:=l.eraseIdx kn) (by
     intro t ht;have:=yX (Nl.port (j / 2:Nat)) rq2 (l.eraseIdx kn) t ht;unfold Port.drop;rw [hl];exact this)
    have aiG:Nl.remove at_.toNat=Nl.put (j / 2:Nat) ((Nl.port (j / 2:Nat)).drop rq2 kn):=by
     unfold Fab.remove;rw [hfa]
    rw [aiG];rw [rH] at F7;let g':=upd (upd g (P d (iIx req)) (mZ ((fab.port d).qL req++[p]) (NZ c (iIx req)))) (P (j / 2) (oIx rq2)) (mZ (l.eraseIdx kn) c.out);have ne2:P (j / 2) (oIx rq2)≠H.next:=λe=> F.Tv G ⟨j / 2,oIx rq2,by omega,tZ rq2,e.symm⟩
    have ari:sW g' (upd (upd (upd g H.next (p.av.map Cell.av)) (P d (iIx req)) (mZ ((fab.port d).qL req++[p]) (NZ c (iIx req)))) (P (j / 2) (oIx rq2)) (mZ (l.eraseIdx kn) c.out)):=(((sW.refl g).more hn0 _).both _ _).both _ _;have F8:gY g' f P c (Nl.put (j / 2:Nat) ((Nl.port (j / 2:Nat)).drop rq2 kn)):=by
     have hJ:SS P fab.l.length:=J;have A:=F.fill J hdl (rJ req) (p':=(fab.port d).kM req ((fab.port d).qL req++[p])) (l:=(fab.port d).qL req++[p]) (CO _ _ _);rw [aiL] at A;have B:=A.fill hJ1 hj2 (tZ rq2) (p':=(Nl.port (j / 2:Nat)).drop rq2 kn) (l:=l.eraseIdx kn) (by
      intro t ht;have:=yX (Nl.port (j / 2:Nat)) rq2 (l.eraseIdx kn) t ht;unfold Port.drop;rw [hl];exact this)
     rw [rH] at B;exact B
    refine⟨K6,g',bg rfl rfl (acN _ _ _ _ _ _ ?_),G7.sub λq cs hq=> ?_,F8,(Off.upd ⟨d,iIx req,hdl,rJ req,rfl⟩).trans (Off.upd ⟨j / 2,oIx rq2,by omega,tZ rq2,rfl⟩),S05.trans S7⟩
    ·rw [hdp] at hdst;simp only [req] at rq t1 f1 q1;simp only [xq_,Zj,e1,s1,zae,l1,e2,s3,h1,hdst,h2,h3,hkind,rq,t1,f1,l9,q1,e5,u1,u2,y1]
    ·have:=ari q cs hq;by_cases e:q=P (j / 2) (oIx rq2)
     ·subst e;rw [aU] at this ⊢;exact this
     ·rw [aZ e] at this ⊢;have h4:q≠K4.next:=λe'=> by rw [e',n4] at this;cases this
      rw [aZ h4];exact this
end
theorem Gs.ask {t:Turns}(h:Gs t)(aj who id:Int):Gs (t.ask aj who id).1:=by
 unfold Turns.ask;split
 ·exact h
 split
 ·refine⟨h.ok,h.oge,lX h.wk _ _,λe he w hw=> ?_⟩;rcases lJ he with rfl | he
  ·rcases zaO.1 hw with hw | hw
   ·unfold Turns.ws at hw;cases ha:jg t.wait aj with
    | none=> rw [ha] at hw;cases hw
    | some ws=> rw [ha] at hw;exact h.wge _ (mY ha) w hw
   ·simp only [zaM] at hw;subst hw;simp only;omega
  ·exact h.wge e he w hw
 ·refine⟨lX h.ok _ _,λe he=> ?_,h.wk,h.wge⟩;rcases lJ he with rfl | he
  ·simp only;omega
  ·exact h.oge e he
theorem Gs.release {t:Turns}(h:Gs t)(aj who:Int):Gs (t.release aj who).1:=by
 unfold Turns.release;split
 ·refine⟨?_,λe he=> h.oge e (Gq he),h.wk,h.wge⟩;show((xX t.fP aj).map (·.1)).Nodup;rw [BO];exact h.ok.erase _
 ·exact h
theorem Gs.next {t:Turns}(h:Gs t)(aj:Int):Gs (t.next aj).1:=by
 unfold Turns.next
 split
 ·exact h
 split
 ·exact h
 ·rename_i w ws hw;have hge:∀x∈w::ws,0<=x.1:=by
   unfold Turns.ws at hw;cases e:jg t.wait aj with
   | none=> rw [e] at hw;cases hw
   | some l=>
    rw [e] at hw;rw [show l=w::ws from hw] at e;exact h.wge _ (mY e)
  refine⟨lX h.ok _ _,λe he=> ?_,lX h.wk _ _,λe he x hx=> ?_⟩
  ·rcases lJ he with rfl | he
   ·exact hge w (by simp)
   ·exact h.oge e he
  ·rcases lJ he with rfl | he
   ·exact hge x (za5 _ hx)
   ·exact h.wge e he x hx
def x9(c:Cfg)(me:Int)(h:Home):Prop:=∀aj,kP c me aj=true->∃row,jg h.dH aj=some row
theorem adN {c:Cfg}{dH:Rows}{aj aQ head:Int}{data:List Int}{m:Int}(h:∃row,jg dH m=some row):∃row,jg (iw c dH aj aQ head data).1 m=some row:=by
 unfold iw;cases jg dH aj with
 | none=> exact h
 | some r=>
  simp only;split
  ·exact h
  split
  ·exact h
  ·rw [gX];split
   ·exact⟨_,rfl⟩
   ·exact h
section
variable {c:Cfg}{me:Int}{h:Home}
theorem Xv(hc:c.ok=true)(I:XQ c me h)(R:x9 c me h)(p:Pkt):XQ c me (h.handle c me p).1/\x9 c me (h.handle c me p).1:=by
 unfold Home.handle;split
 ·exact⟨I,R⟩
 rename_i h1;have hl0:0<=p.aj:=by
  simp only [zbk,za8,not_or,zcr,zaf] at h1;have:=h1.1.1.1;simp only [Pkt.ok,zaf,decide_eq_true_eq] at this;omega
 split
 ·exact⟨I,R⟩
 rename_i h2;have hh:kP c me p.aj=true:=by
  cases e:kP c me p.aj with
  | true=> rfl
  | false=> exact absurd ((zS hc hl0).2 e) h2
 split
 ·have key:XQ c me { h with aT:=(h.aT.ask p.aj p.src p.id).1 }/\x9 c me { h with aT:=(h.aT.ask p.aj p.src p.id).1 }:=⟨⟨I.aT.ask _ _ _,λe he=> by
   rcases UM he with h | h
   ·rw [h];exact hh
   ·exact I.here e h⟩,R⟩
  simp only;split <;> exact key
 ·have key:XQ c me (h.unlock c p).1/\x9 c me (h.unlock c p).1:=by
   unfold Home.unlock;generalize (if p.flag=true then p.data else [])=dat;split
   ·exact⟨I,R⟩
   ·simp only;split
    ·exact⟨⟨I.aT.release _ _,by simp only [Du];exact I.here⟩,λaj hl=> adN (R aj hl)⟩
    ·exact⟨I,R⟩
  simp only;split <;> exact key
theorem abj(I:XQ c me h)(R:x9 c me h):XQ c me (h.grant me).1/\x9 c me (h.grant me).1:=by
 unfold Home.grant;cases hr:h.ready with
 | nil=> exact⟨I,R⟩
 | cons aj l=>
  obtain⟨m1,m2,m3⟩:=wK hr;have hh:kP c me aj=true:=by
   obtain⟨e,he,rfl⟩:=zaH.1 m3;exact I.here e he
  have Lp:∀e∈(h.aT.next aj).1.wait,kP c me e.1=true:=λe he=> by
   rcases Pm he with h | h
   ·exact I.here e h
   ·rw [h.1];exact hh
  have hT:=I.aT.next aj
  simp only;cases ha:h.aT.next aj with
  | mk t o=>
   rw [ha] at Lp hT;cases o with
   | none=> exact⟨I,R⟩
   | some w=> exact⟨⟨hT,Lp⟩,R⟩
theorem Ih(R:x9 c me h)(hr:∀e∈h.dH,oW c e.2.data){aj:Int}(hl:kP c me aj=true)(who id:Int):(granted h.dH me aj who id).ok=true->xZ c (granted h.dH me aj who id):=by
 intro hk;obtain⟨row,h1⟩:=R aj hl;have hd:oW c (jo h.dH aj).data:=by
  unfold jo;rw [h1];exact hr _ (mY h1)
 exact⟨hk,λ_=> hd,hd.2⟩
theorem Xw(hc:c.ok=true)(R:x9 c me h)(hr:∀e∈h.dH,oW c e.2.data)(p:Pkt):(h.handle c me p).2.1.ok=true->xZ c (h.handle c me p).2.1:=by
 unfold Home.handle;have z:Pkt.zero.ok=true->xZ c Pkt.zero:=xO rfl (by simp [Pkt.zero]);split
 ·exact z
 rename_i h1;have hl0:0<=p.aj:=by
  simp only [zbk,za8,not_or,zcr,zaf] at h1;have:=h1.1.1.1;simp only [Pkt.ok,zaf,decide_eq_true_eq] at this;omega
 split
 ·exact z
 rename_i h2;have hh:kP c me p.aj=true:=by
  cases e:kP c me p.aj with
  | true=> rfl
  | false=> exact absurd ((zS hc hl0).2 e) h2
 split
 ·simp only;split
  ·exact Ih R hr hh _ _
  ·exact z
 ·simp only;split
  ·exact xO rfl (by simp)
  ·exact z
end
structure agE(c:Cfg)(me:Int)(n:Node)(t:List Evn)(A:NFT):Prop where
 inv:WC c me A.1
 dH:x9 c me A.1.home
 fab:vP c A.2.1
 evs:A.2.2.length+n.evs=t.length+A.1.evs
section
variable {c:Cfg}{me:Int}{n:Node}{f:Fab}{t:List Evn}{o:Opn}{e:Ent}
theorem Qx(ho:n.bP.cur=some o)(hb:n.bP.eF=true)(he:n.aH.find (c.bM o.addr)=some e):
  n.effect c me t=({ n with aH:=(n.aH.put (eG e o (c.dh o.addr))).1,bP:=⟨n.bP.ops,n.bP.bH++[if o.aO=2 then 0 else e.word (c.dh o.addr)],false⟩ },t++[⟨me,n.bP.bH.length,true,if o.aO=2 then 0 else e.word (c.dh o.addr)⟩]):=by
 have hop:n.bP.op=o:=by unfold Proc.op;rw [ho];rfl
 have hidx:n.bP.idx=n.bP.bH.length:=by unfold Proc.idx;rw [ho]
 unfold Node.effect;simp only [hop,he,zar];unfold Node.done;simp only [Proc.BL,hb,if_true,hidx]
theorem J8(I:Ej c n.aH)(hov:I64 o.value)(he:n.aH.find (c.bM o.addr)=some e):Ej c (n.aH.put (eG e o (c.dh o.addr))).1/\(n.aH.put (eG e o (c.dh o.addr))).1.bW=n.aH.bW:=by
 obtain⟨hem,hel⟩:=(ig I.bn).1 he;have E:=I.ent e hem;obtain⟨y1,_⟩:=qH e o (c.dh o.addr);refine⟨I.put (by rw [y1];exact E.lo) (by rw [y1];exact E.hi) (Xm E.dat hov),?_⟩;rw [lu I.bn (x:=e) (by rw [y1];exact E.lo) (by rw [y1,hel];exact he)]
theorem adO {p:Proc}{v:Int}(P:aob c p)(hb:p.eF=true):aob c ⟨p.ops,p.bH++[v],false⟩:=by
 have:=P.eF hb;exact⟨P.most,P.right,by simp only [zao,zam,zan];omega,λh=> by cases h⟩
theorem Xx {ca:Cache}{d:bJ}{p:Pkt}(hA:Dv n.aI me n.aH p=(ca,d,false)):ca=n.aH:=by
 cases hfit:n.aI.fits p with
 | false=> rw [AO hfit] at hA;simp only [vO,zad] at hA;exact hA.1.symm
 | true=>
  unfold Dv at hA
  repeat' split at hA
  ·unfold dU at hA
   repeat' split at hA
   all_goals (simp only [vO,zad,zbG,and_false] at hA)
   all_goals exact hA.1.symm
  ·unfold dV at hA
   repeat' split at hA
   all_goals (simp only [vO,zad,zbG,and_false] at hA)
   all_goals exact hA.1.symm
  ·unfold eu at hA;split at hA
   ·simp only [vO,zad] at hA;exact hA.1.symm
   ·split at hA
    ·exfalso;cases hfd:n.aH.find n.aI.aj with
     | none=> simp [hfd] at hA
     | some e=>
      simp only [hfd] at hA
      repeat' split at hA
      all_goals simp at hA
    ·unfold gB at hA
     repeat' split at hA
     all_goals (simp only [vO,zad,zbG,and_false] at hA)
     all_goals exact hA.1.symm
  ·simp only [vO,zad] at hA;exact hA.1.symm
theorem Np {p:Proc}{v:Int}{n':Node}(hb:n.bP.eF=true)(h:n'.bP=⟨n.bP.ops,n.bP.bH++[v],false⟩):t.length+1+n.evs=t.length+n'.evs:=by
 unfold Node.evs;rw [h,hb];simp only [if_true,zao,zam,zan,zah,if_false];omega
theorem Qy(hc:c.ok=true)(I:WC c me n)(R:x9 c me n.home)(F:vP c f){p:Pkt}(Q:xZ c p):agE c me n t (n.answered c me f t p):=by
 have hsame:agE c me n t (n,f,t):=⟨I,R,F,rfl⟩
 unfold Node.answered;rw [rM];by_cases hs:n.aI.step=0
 ·have hf:n.aI.fits p=false:=by
   unfold bJ.fits;rw [hs];simp [zD,BI]
  rw [AO hf];simp only [vO,if_true];exact hsame
 have D:=I.aI hs;cases hA:Dv n.aI me n.aH p with
 | mk ca dk=>
  obtain⟨d,ok⟩:=dk;cases ok with
  | false=>
   rw [Xx hA];simp only [if_true];exact hsame
  | true=>
   simp only [zbG,if_false];have N:=Nh I.aH D hs Q hA;by_cases h0:d.step=0
   ·rw [if_pos h0];rcases N.way with⟨w1,_,w3⟩ | ⟨w1,_⟩
    rotate_left
    ·exact absurd h0 w1
    subst w3;by_cases k3:d.aO=3/\n.bP.op.aO=4
    ·rw [if_pos k3];have hb:=D.roll (by rw [<-N.aO];exact k3.1);have hlt:=I.bP.eF hb;have he:n.bP.BL 0=⟨n.bP.ops,n.bP.bH++[0],false⟩:=by unfold Proc.BL;rw [if_pos hb]
     simp only [Node.done,he];refine⟨⟨adO I.bP hb,I.aH,I.dH,I.home,λh=> absurd h0 h,?_⟩,R,F,?_⟩
     ·have:=I.clk;simp only [zao,zam,zan];omega
     ·simp only [zao,zam,zan];exact Np (p:=n.bP) hb rfl
    ·rw [if_neg k3];exact⟨⟨I.bP,I.aH,I.dH,I.home,λh=> absurd h0 h,I.clk⟩,R,F,rfl⟩
   ·rw [if_neg h0];rcases N.way with⟨_,w2,_⟩ | ⟨_,w2,w3⟩
    ·exact absurd w2 h0
    have hl0:0<=d.aj:=by rw [N.aj];exact D.lo
    by_cases h6:d.step=6/\d.aO≠3
    ·simp only [if_pos h6];have k3:n.aI.aO≠3:=by rw [<-N.aO];exact h6.2
     have W:=D.work k3 w2;obtain⟨o,ho,hol,hk1,hk2⟩:=W.op;have hmem:o∈n.bP.ops:=zaq ho;obtain⟨e,he,_⟩:∃e,ca.find n.aI.aj=some e/\(n.aI.aO=2->e.bZ=true):=by
      rcases w3 k3 with⟨w,_⟩ | ⟨_,w⟩
      ·exact absurd h6.1 w
      ·exact w
     have he':({ n with aH:=ca,aI:=d }:Node).aH.find (c.bM o.addr)=some e:=by show ca.find _=_;rw [hol];exact he
     rw [Qx (n:={ n with aH:=ca,aI:=d }) (e:=e) ho W.eF he'];obtain⟨p1,p2⟩:=J8 (n:={ n with aH:=ca,aI:=d }) N.inv (I.bP.right o hmem).2 he';have hlt:=I.bP.eF W.eF;have aoj:ca.bW<=n.bP.bH.length+1:=by
      have:=I.clk;rcases N.clk with h | ⟨_,_,h⟩ <;> omega
     refine⟨⟨adO I.bP W.eF,p1,I.dH,I.home,λ_=> ?_,?_⟩,R,F.send (aa4 N.dat _ _),?_⟩
     ·exact⟨hl0,by rw [N.aj];exact D.hi,by rw [N.aO];exact D.aO,N.dat,N.ahm,λh=> absurd h h6.2,λ_ h=> absurd h6.1 h,λ_ _=> rfl⟩
     ·simp only [zao,zam,zan];rw [p2];show ca.bW<=_;omega
     ·simp only [zao,zam,zan];exact Np (p:=n.bP) W.eF rfl
    ·simp only [if_neg h6];refine⟨⟨I.bP,N.inv,I.dH,I.home,λ_=> ⟨hl0,by rw [N.aj];exact D.hi,by rw [N.aO];exact D.aO,N.dat,N.ahm,λh=> D.roll (by rw [<-N.aO];exact h),λk3 k6=> ?_,λk3 k6=> absurd ⟨k6,k3⟩ h6⟩,?_⟩,R,F.send (aa4 N.dat _ _),rfl⟩
     ·have k3':n.aI.aO≠3:=by rw [<-N.aO];exact k3
      have W:=D.work k3' w2;rcases w3 k3' with⟨_,w⟩ | ⟨w,_⟩
      ·subst w;obtain⟨o,ho,hol,hk1,hk2⟩:=W.op;exact⟨W.eF,⟨o,ho,by rw [hol];exact N.aj.symm,by rw [N.aO];exact hk1,by rw [N.aO];exact hk2⟩,by simp only;rw [N.aj];exact W.full⟩
      ·exact absurd w k6
     ·have:=I.clk;rcases N.clk with h | ⟨k3,k6,_⟩
      ·simp only;omega
      ·exact absurd ⟨k6,by rw [N.aO];exact k3⟩ h6
theorem AQ(I:WC c me n)(R:x9 c me n.home)(F:vP c f){k l:Int}(hk:1<=k/\k<=3)(h0:0<=l)(h1:l < c.bn)(hb:n.bP.eF=true)
  (hw:k≠3->(∃o,n.bP.cur=some o/\c.bM o.addr=l/\(k=1->o.aO=1)/\(k=2->o.aO=2∨o.aO=3))/\n.aH.full l=false):agE c me n t ((n.begin_ c me f k l).1,(n.begin_ c me f k l).2,t):=by
 refine⟨⟨I.bP,I.aH,I.dH,I.home,λ_=> ⟨h0,h1,hk,.inl rfl,λ_ h=> absurd (show(1:Int)=3 from h) (by decide),λ_=> hb,λk3 _=> ?_,λ_ h=> absurd (show(1:Int)=6 from h) (by decide)⟩,I.clk⟩,R,F.send (aa4 (.inl rfl) _ _),rfl⟩;obtain⟨⟨o,q1,q2,q3,q4⟩,q5⟩:=hw k3;exact⟨hb,⟨o,q1,q2,q3,q4⟩,q5⟩
theorem adP(hc:c.ok=true)(I:WC c me n)(R:x9 c me n.home)(F:vP c f)(ho:n.bP.cur=some o)(hd:n.aI.step=0):agE c me n t (n.work c me f t o):=by
 have hmem:o∈n.bP.ops:=zaq ho;have hlt:n.bP.bH.length < n.bP.ops.length:=(zai.1 ho).1;have Rr:=I.bP.right o hmem;have O:=aoh hc Rr.1;obtain⟨n1,hn1⟩:∃n1:Node,n1={ n with bP:={ n.bP with eF:=true } }:=⟨_,rfl⟩
 have I1:WC c me n1:=by rw [hn1];exact⟨⟨I.bP.most,I.bP.right,I.bP.vals,λ_=> hlt⟩,I.aH,I.dH,I.home,λh=> absurd hd h,I.clk⟩
 have R1:x9 c me n1.home:=by rw [hn1];exact R
 have ho1:n1.bP.cur=some o:=by rw [hn1];exact ho
 have hb1:n1.bP.eF=true:=by rw [hn1]
 have hc1:n1.aH=n.aH:=by rw [hn1]
 have hd1:n1.aI.step=0:=by rw [hn1];exact hd
 obtain⟨t1,ht1⟩:∃t1,t1=if n.bP.eF=true then t else t++[⟨me,n.bP.bH.length,false,0⟩]:=⟨_,rfl⟩
 have hev:t1.length+n.evs=t.length+n1.evs:=by
  rw [ht1,hn1];unfold Node.evs;cases n.bP.eF
  ·simp only [zah,if_false,zao,zam,zan,if_true];omega
  ·simp only [if_true]
 have lift:∀{A:NFT},agE c me n1 t1 A->agE c me n t A:=λ{A} h=> ⟨h.inv,h.dH,h.fab,by have:=h.evs;omega⟩
 unfold Node.work;simp only;rw [<-hn1,<-ht1,<-hc1];by_cases c1:o.aO=4/\n1.aH.find (c.bM o.addr)=none
 ·rw [if_pos c1];refine lift ?_;have he:n1.bP.BL 0=⟨n1.bP.ops,n1.bP.bH++[0],false⟩:=by unfold Proc.BL;rw [if_pos hb1]
  simp only [Node.done,he];refine⟨⟨adO I1.bP hb1,I1.aH,I1.dH,I1.home,λh=> absurd hd1 h,?_⟩,R1,F,?_⟩
  ·have:=I1.clk;simp only [zao,zam,zan];omega
  ·simp only [zao,zam,zan];exact Np (p:=n1.bP) hb1 rfl
 rw [if_neg c1];by_cases c2:o.aO=4
 ·rw [if_pos c2];exact lift (AQ I1 R1 F ⟨by decide,by decide⟩ O.lo O.hi hb1 λh=> absurd rfl h)
 rw [if_neg c2];by_cases c3:(n1.aH.find (c.bM o.addr)).isSome=true/\(o.aO=1∨((n1.aH.find (c.bM o.addr)).getD .zero).bZ=true)
 ·rw [if_pos c3];obtain⟨e,he⟩:=zc3.1 c3.1;have T:=I1.aH.touch he;have hf:=Xo I1.aH.bn he;refine lift ?_;obtain⟨e2,he2⟩:∃e2:Ent,e2={ e with used:=n1.aH.bW+1 }:=⟨_,rfl⟩
  rw [<-he2] at hf;have hnn:({ aH:=n1.aH.touch (c.bM o.addr),bP:={ ops:=n.bP.ops,bH:=n.bP.bH,eF:=true },home:=n.home,aI:=n.aI,num:=n.num }:Node)={ n1 with aH:=n1.aH.touch (c.bM o.addr) }:=by rw [hn1]
  have hE:=Qx (me:=me) (t:=t1) (n:={ n1 with aH:=n1.aH.touch (c.bM o.addr) }) (e:=e2) ho1 hb1 hf;obtain⟨p1,p2⟩:=J8 (n:={ n1 with aH:=n1.aH.touch (c.bM o.addr) }) T Rr.2 hf;rw [hnn,hE];refine⟨⟨adO I1.bP hb1,p1,I1.dH,I1.home,λh=> absurd hd1 h,?_⟩,R1,F,?_⟩
  ·have:=I1.clk;have hk:=Ig I1.aH.bn he;simp only [zao,zam,zan];rw [p2];show(n1.aH.touch _).bW<=_;omega
  ·simp only [zao,zam,zan];exact Np (p:=n1.bP) hb1 rfl
 rw [if_neg c3];by_cases c4:n1.aH.full (c.bM o.addr)=true
 ·rw [if_pos c4];have hset:n1.aH.nT (c.bM o.addr)≠[]:=by
   intro e;unfold Cache.full at c4;simp only [e,zan,zaf,decide_eq_true_eq] at c4;have:=(qp hc).2.2.2.2.1;rw [I1.aH.ways] at c4;omega
  obtain⟨e,he⟩:∃e,mX (n1.aH.nT (c.bM o.addr))=some e:=by
   cases h:n1.aH.nT (c.bM o.addr) with
   | nil=> exact absurd h hset
   | cons a l=> exact⟨_,rfl⟩
  have hv:n1.aH.nH (c.bM o.addr)=some e.aj:=by unfold Cache.nH;rw [he];rfl
  have hem:e∈n1.aH.l:=by
   have:=(qZ he).1;unfold Cache.nT at this;exact(zbn.1 this).1
  have E:=I1.aH.ent e hem;rw [hv];simp only [zar];exact lift (AQ I1 R1 F ⟨by decide,by decide⟩ E.lo E.hi hb1 λh=> absurd rfl h)
 rw [if_neg c4];have c4':n1.aH.full (c.bM o.addr)=false:=by simpa using c4
 by_cases c5:o.aO=1
 ·rw [if_pos c5];exact lift (AQ I1 R1 F ⟨by decide,by decide⟩ O.lo O.hi hb1 λ_=> ⟨⟨o,ho1,rfl,λ_=> c5,λh=> by omega⟩,c4'⟩)
 ·rw [if_neg c5];have k1:=O.k1;have k4:=O.k4;exact lift (AQ I1 R1 F ⟨by decide,by decide⟩ O.lo O.hi hb1 λ_=> ⟨⟨o,ho1,rfl,λh=> by omega,λ_=> by omega⟩,c4'⟩)
theorem abk(hc:c.ok=true)(I:WC c me n)(R:x9 c me n.home)(F:vP c f){p:Pkt}(Q:xZ c p):agE c me n t ((n.asked c me f p).1,(n.asked c me f p).2,t):=by
 unfold Node.asked;by_cases hk:p.aO=1∨p.aO=2
 ·rw [if_pos hk];have h3:=Xv hc I.home R p;have hr:=TB (c:=c) (me:=me) I.dH Q.num;have hok:=Xw hc R I.dH p;cases hA:n.home.handle c me p with
  | mk h x=>
   rw [hA] at h3 hr hok;obtain⟨out,ok,e⟩:=x;simp only at h3 hr hok ⊢;refine⟨⟨I.bP,I.aH,hr,h3.1,λhs=> ?_,I.clk⟩,h3.2,?_,rfl⟩
   ·have D:=I.aI hs;exact⟨D.lo,D.hi,D.aO,D.dat,D.ahm,D.roll,λa b=> by have W:=D.work a b;exact⟨W.eF,W.op,W.full⟩,D.rest⟩
   ·simp only;split
    ·exact F.send hok
    ·exact F
 ·rw [if_neg hk];obtain⟨i1,i2,i3,i4⟩:=aa5 I.aH p;cases hA:fG n.aH p with
  | mk ca x=>
   rw [hA] at i1 i2 i3 i4;obtain⟨out,e⟩:=x;simp only at i1 i2 i3 i4 ⊢;refine⟨⟨I.bP,i1,I.dH,I.home,λhs=> ?_,by simp only;rw [i3];exact I.clk⟩,R,?_,rfl⟩
   ·have D:=I.aI hs;exact⟨D.lo,D.hi,D.aO,D.dat,D.ahm,D.roll,λa b=> by have W:=D.work a b;exact⟨W.eF,W.op,i4 _ hc W.full⟩,D.rest⟩
   ·simp only;split
    ·exact F.send i2
    ·exact F
theorem adQ(hc:c.ok=true)(I:WC c me n)(R:x9 c me n.home)(F:vP c f):agE c me n t (n.step c me f t).1:=by
 unfold Node.step;obtain⟨t1,t2⟩:=F.take me false;cases h1:f.take me false with
 | mk f' x=>
  rw [h1] at t1 t2;cases x with
  | some p=> exact Qy hc I R t1 (t2 p rfl)
  | none=>
   simp only;by_cases hg:n.home.ready≠[]/\f.roomOf me false≠0
   ·rw [if_pos hg];obtain⟨g3,g4⟩:=abj I.home R;refine⟨⟨I.bP,I.aH,?_,g3,λhs=> ?_,I.clk⟩,g4,F.send ?_,rfl⟩
    ·have:(n.home.grant me).1.dH=n.home.dH:=by
      unfold Home.grant;cases n.home.ready with
      | nil=> rfl
      | cons aj l=>
       simp only;cases n.home.aT.next aj with
       | mk tt w=> cases w <;> rfl
     simp only;rw [this];exact I.dH
    ·have D:=I.aI hs;exact⟨D.lo,D.hi,D.aO,D.dat,D.ahm,D.roll,λa b=> by have W:=D.work a b;exact⟨W.eF,W.op,W.full⟩,D.rest⟩
    ·unfold Home.grant;cases hr:n.home.ready with
     | nil=> exact absurd hr hg.1
     | cons aj l=>
      have hm:=(wK hr).2.2;have hh:kP c me aj=true:=by
       obtain⟨e,he,rfl⟩:=zaH.1 hm;exact I.home.here e he
      simp only;cases n.home.aT.next aj with
      | mk tt w=>
       cases w with
       | none=> exact xO rfl (by simp [Pkt.zero])
       | some w=> exact Ih R I.dH hh _ _
   ·rw [if_neg hg];obtain⟨u1,u2⟩:=F.take me true;cases hx:(if f.roomOf me false=0 then(f,none) else f.take me true:Fab × Option Pkt) with
    | mk f2 y=>
     cases y with
     | some p=>
      simp only;have ht:f.take me true=(f2,some p):=by
       split at hx
       ·cases hx
       ·exact hx
      rw [ht] at u1 u2;exact abk hc I R u1 (u2 p rfl)
     | none=>
      simp only;cases hcu:n.bP.cur with
      | none=> exact⟨I,R,F,rfl⟩
      | some o=>
       simp only;by_cases hd:n.aI.step=0
       ·rw [if_pos hd];exact adP hc I R F hcu hd
       ·rw [if_neg hd];exact⟨I,R,F,rfl⟩
end
def adR(m:dZ):Prop:=∀(i:Nat) n,m.aG[i]?=some n->x9 m.c i n.home
theorem abl {m:dZ}(I:aiF m)(R:adR m)(i:Int):aiF (m.step i).1/\adR (m.step i).1:=by
 unfold dZ.step dZ.bG;by_cases h0:0<=i
 ·rw [if_pos h0];cases hn:m.aG[i.toNat]? with
  | none=> exact⟨I,R⟩
  | some n=>
   have hi:=(zai.1 hn).1;have hii:((i.toNat:Nat):Int)=i:=by omega
   have NI:=I.bG i.toNat n hn;have NR:=R i.toNat n hn;rw [hii] at NI NR;have b1:=adQ (t:=m.trace) I.ok NI NR I.fab;simp only;generalize n.step m.c i m.fab m.trace=r at b1;obtain⟨⟨n',f',t'⟩,k⟩:=r;refine⟨⟨I.ok,by simp only [zcm];exact I.len,b1.fab,λj a ha=> ?_,?_⟩,λj a ha=> ?_⟩
   ·simp only at ha ⊢;by_cases hj:j=i.toNat
    ·subst hj;rw [zbd hi] at ha;cases ha;rw [hii];exact b1.inv
    ·rw [zbm (λe=> hj e.symm)] at ha;exact I.bG j a ha
   ·have e1:=aa6 Node.evs (a':=n') hn;have e2:=b1.evs;have e3:=I.evs;simp only at e2 ⊢;omega
   ·simp only at ha ⊢;by_cases hj:j=i.toNat
    ·subst hj;rw [zbd hi] at ha;cases ha;rw [hii];exact b1.dH
    ·rw [zbm (λe=> hj e.symm)] at ha;exact R j a ha
 ·rw [if_neg h0];exact⟨I,R⟩
theorem Qz {m:dZ}(I:aiF m)(a b k:Int):aiF (m.deliver a b k).1:=⟨I.ok,I.len,I.fab.deliver a b k,I.bG,I.evs⟩
def DX(f:Fab):Prop:=∀p∈f.l,∀q,q∈p.rq∨q∈p.an->f.is q.dst=true
theorem anK(f:Fab)(i:Int)(p:Port)(k:Int):(f.put i p).is k=f.is k:=by
 unfold Fab.is Fab.put;simp
theorem DX.put {f:Fab}(D:DX f)(i:Int){p:Port}(h:∀q,q∈p.rq∨q∈p.an->f.is q.dst=true):DX (f.put i p):=by
 intro x hx q hq;rw [anK];unfold Fab.put at hx;rcases zct hx with hx | rfl
 ·exact D x hx q hq
 ·exact h q hq
theorem DX.at {f:Fab}(D:DX f)(i:Int):∀q,q∈(f.port i).rq∨q∈(f.port i).an->f.is q.dst=true:=by
 intro q hq;unfold Fab.port at hq;rw [zaF] at hq;cases h:f.l[i.toNat]? with
 | none=> rw [h] at hq;simp [Port.zero] at hq
 | some p=> rw [h] at hq;exact D p (zaq h) q hq
theorem DX.send {f:Fab}(D:DX f)(p:Pkt):DX (f.send p).1:=by
 unfold Fab.send;split
 ·exact D
 ·rename_i hc;split
  ·exact D
  ·refine D.put _ λq hq=> ?_;have hd:f.is p.dst=true:=by
    cases h:f.is p.dst with
    | true=> rfl
    | false=> simp [h] at hc
   cases hk:qK p.aO with
   | true=>
    rw [hk] at hq;simp only [Port.kC,Port.sort,if_true,zaO,zaM] at hq;rcases hq with(hq | rfl) | hq
    ·exact D.at _ q (.inl hq)
    ·exact hd
    ·exact D.at _ q (.inr hq)
   | false=>
    rw [hk] at hq;simp only [Port.kC,Port.sort,zah,if_false,zaO,zaM] at hq;rcases hq with hq | hq | rfl
    ·exact D.at _ q (.inl hq)
    ·exact D.at _ q (.inr hq)
    ·exact hd
theorem DX.kM {f:Fab}(D:DX f)(i:Int)(req:Bool)(l:List Pkt):DX (f.put i ((f.port i).kM req l)):=by
 refine D.put _ λq hq=> D.at i q ?_;cases req <;> exact hq
theorem DX.take {f:Fab}(D:DX f)(i:Int)(req:Bool):DX (f.take i req).1:=by
 unfold Fab.take;split
 ·split
  ·exact D
  ·exact D.kM _ _ _
 ·exact D
theorem DX.remove {f:Fab}(D:DX f)(k:Nat):DX (f.remove k):=by
 unfold Fab.remove;split
 ·refine D.put _ λq hq=> ?_;rename_i i req k' _;refine D.at i q ?_;cases req with
  | true=>
   simp only [Port.drop,Port.kC,Port.sort,if_true] at hq;exact hq.imp zcy id
  | false=>
   simp only [Port.drop,Port.kC,Port.sort,zah,if_false] at hq;exact hq.imp id zcy
 ·exact D
theorem DX.deliver {f:Fab}(D:DX f)(a b k:Int):DX (f.deliver a b k).1:=by
 unfold Fab.deliver;split
 ·exact D
 split
 ·exact D
 split
 ·exact D
 split
 ·exact D
 ·exact(D.kM _ _ _).remove _
theorem DX.all {f:Fab}(D:DX f):∀p∈f.all,f.is p.dst=true:=by
 intro p hp;unfold Fab.all at hp;obtain⟨q,hq,hp⟩:=za9.1 hp;rcases zaO.1 hp with hp | hp
 ·exact D q hq p (.inl hp)
 ·exact D q hq p (.inr hp)
theorem DX.new(c:Cfg):DX (.new c):=by
 intro p hp q hq;rw [Fab.new,List.mem_replicate] at hp;rw [hp.2] at hq;simp [Port.zero] at hq
theorem Ii(c:Cfg)(me aj:Int):∀n:Nat,jg (c.oN me n) aj=if 0<=aj/\aj < n/\c.bf aj=me then some ⟨0,-1,c.first aj⟩ else none
 | 0=> by
  have:¬(0<=aj/\aj < ((0:Nat):Int)/\c.bf aj=me):=by omega
  rw [if_neg this];rfl
 | n+1=> by
  simp only [Cfg.oN];by_cases h:c.bf n=me
  ·rw [if_pos h,gX,Ii c me aj n];by_cases e:(n:Int)=aj
   ·subst e;rw [if_pos rfl,if_pos ⟨by omega,by omega,h⟩]
   ·rw [if_neg e];by_cases h2:0<=aj/\aj < n/\c.bf aj=me
    ·rw [if_pos h2,if_pos ⟨h2.1,by omega,h2.2.2⟩]
    ·rw [if_neg h2,if_neg (λh3=> h2 ⟨h3.1,by omega,h3.2.2⟩)]
  ·rw [if_neg h,Ii c me aj n];by_cases h2:0<=aj/\aj < n/\c.bf aj=me
   ·rw [if_pos h2,if_pos ⟨h2.1,by omega,h2.2.2⟩]
   ·rw [if_neg h2,if_neg (λh3=> h2 ⟨h3.1,(by
     have:aj≠n:=λe=> h (by rw [<-e];exact h3.2.2);omega),h3.2.2⟩)]
structure NX(T:Nat)(n:Node):Prop where
 Xy:0<=n.num
 num1:n.num < 4096
 dat:n.aI.data.length<=4
 ws:∀aj,(n.home.aT.ws aj).length<=T
theorem NX.mono {T T':Nat}{n:Node}(h:NX T n)(hT:T<=T'):NX T' n:=⟨h.Xy,h.num1,h.dat,λl=> zau (h.ws l) hT⟩
section
variable {d:bJ}{ca:Cache}{p:Pkt}{me:Int}
theorem agF(hc:∀e∈ca.l,e.data.length<=4){aj:Int}{e:Ent}(h:ca.find aj=some e):e.data.length<=4:=by
 unfold Cache.find at h;exact hc e (za7 h)
theorem abm(hd:d.data.length<=4)(hp:p.data.length<=4):(dU d me ca p).2.1.data.length<=4:=by
 unfold dU vO
 repeat' split
 all_goals first
  | exact hd
  | exact hp
  | exact zaT _
  | (show List.length (if _ then _ else _)<=4;split <;> first | exact hp | exact zaT _)
theorem DL(hd:d.data.length<=4):(dD d me ca).2.data.length<=4:=by
 unfold dD;simp only
 repeat' split
 all_goals first
  | exact hd
  | exact zaT _
theorem adS(hc:∀e∈ca.l,e.data.length<=4)(hd:d.data.length<=4)(hp:p.data.length<=4):(dV d me ca p).2.1.data.length<=4:=by
 unfold dV vO;split
 ·exact zaT _
 split
 ·refine DL ?_;cases h:ca.find d.aj with
  | none=> exact hp
  | some e=> exact agF hc h
 split
 ·refine DL ?_;cases h:ca.find d.aj with
  | none=> exact hp
  | some e=> exact hd
 split
 ·exact hd
 ·exact zaT _
theorem aiM(hc:∀e∈ca.l,e.data.length<=4)(hd:d.data.length<=4):(eu d ca p).2.1.data.length<=4:=by
 unfold eu vO gB;split
 ·exact zaT _
 split
 ·simp only;split
  ·exact zaT _
  ·rename_i e h;split
   ·show List.length (if e.bZ=true then e.data else [])<=4;split
    ·exact agF hc h
    ·exact zaT _
   ·split <;> exact zaT _
 repeat' split
 all_goals first
  | exact hd
  | exact zaT _
end
section
variable {T:Nat}{n:Node}{c:Cfg}{me:Int}{f:Fab}{t:List Evn}
theorem abn(h:NX T n)(v:Int):NX T (n.done me t v).1:=⟨h.Xy,h.num1,h.dat,h.ws⟩
theorem QA(h:NX T n):NX T (n.effect c me t).1:=⟨h.Xy,h.num1,h.dat,h.ws⟩
theorem EY(h:NX T n)(aO aj:Int):NX T (n.begin_ c me f aO aj).1:=by
 have h0:=h.Xy;have h1:(n.num+1).tmod 4096=(n.num+1) % 4096:=zby (by omega);refine⟨?_,?_,zaT _,h.ws⟩
 ·show 0<=(n.num+1).tmod 4096;omega
 ·show(n.num+1).tmod 4096 < 4096;omega
theorem EZ {n:Node}(h:DX f)(aO aj:Int):DX (n.begin_ c me f aO aj).2:=h.send _
theorem abo {n:Node}(h:DX f):DX (n.acB c me f):=h.send _
theorem VP(hc:∀e∈n.aH.l,e.data.length<=4)(h:NX T n){p:Pkt}(hp:p.data.length<=4):(n.after me p).2.1.data.length<=4:=by
 unfold Node.after vO
 repeat' split
 ·exact abm h.dat hp
 ·exact adS hc h.dat hp
 ·exact aiM hc h.dat
 ·exact zaT _
theorem Xz(hc:∀e∈n.aH.l,e.data.length<=4)(h:NX T n)(D:DX f){p:Pkt}(hp:p.data.length<=4):NX T (n.answered c me f t p).1/\DX (n.answered c me f t p).2.1:=by
 have hd:=VP (me:=me) hc h hp;unfold Node.answered;split;rename_i ca d ok e;rw [e] at hd;have h1:NX T { n with aH:=ca,aI:=d }:=⟨h.Xy,h.num1,hd,h.ws⟩
 split
 ·exact⟨⟨h.Xy,h.num1,h.dat,h.ws⟩,D⟩
 ·simp only;split
  ·split
   ·exact⟨abn (me:=me) (t:=t) h1 0,D⟩
   ·exact⟨h1,D⟩
  ·split
   ·exact⟨QA (c:=c) (me:=me) (t:=t) h1,abo D⟩
   ·exact⟨h1,abo D⟩
theorem agG {t:Turns}(h:∀aj,(t.ws aj).length<=T)(aj who id:Int):∀l,((t.ask aj who id).1.ws l).length<=T+1:=by
 intro l;unfold Turns.ask;split
 ·exact zbR (h l)
 split
 ·unfold Turns.ws;simp only;rw [gX];split
  ·rw [zar,zao];exact Nat.succ_le_succ (h aj)
  ·exact zbR (h l)
 ·exact zbR (h l)
theorem XA {t:Turns}(h:∀aj,(t.ws aj).length<=T)(aj who:Int):∀l,((t.release aj who).1.ws l).length<=T:=by
 intro l;unfold Turns.release;split <;> exact h l
theorem aiN {t:Turns}(h:∀aj,(t.ws aj).length<=T)(aj:Int):∀l,((t.next aj).1.ws l).length<=T:=by
 intro l;unfold Turns.next
 split
 ·exact h l
 split
 ·exact h l
 ·rename_i w ws e;have hh:=h aj;rw [e] at hh;unfold Turns.ws;simp only;rw [gX];split
  ·rw [zar];exact Nat.le_of_succ_le hh
  ·exact h l
theorem abp {hm:Home}(h:∀aj,(hm.aT.ws aj).length<=T)(p:Pkt):∀l,((hm.handle c me p).1.aT.ws l).length<=T+1:=by
 have h':∀l,(hm.aT.ws l).length<=T+1:=λl=> zbR (h l);unfold Home.handle;split
 ·exact h'
 split
 ·exact h'
 split
 ·simp only;split
  ·exact agG h _ _ _
  ·exact agG h _ _ _
 ·have hu:∀l,((hm.unlock c p).1.aT.ws l).length<=T+1:=by
   unfold Home.unlock;split
   ·exact h'
   ·simp only;generalize iw c hm.dH p.aj p.aQ p.ptr (if p.flag then p.data else [])=r;split
    ·exact λl=> zbR (XA h _ _ l)
    ·exact h'
  simp only;split <;> exact hu
theorem adT {hm:Home}(h:∀aj,(hm.aT.ws aj).length<=T):∀l,((hm.grant me).1.aT.ws l).length<=T:=by
 unfold Home.grant;split
 ·exact h
 ·rename_i aj _ _;have hn:=aiN h aj;split
  ·rename_i e;rw [e] at hn;exact hn
  ·exact h
theorem aiO(h:NX T n)(D:DX f)(p:Pkt):NX (T+1) (n.asked c me f p).1/\DX (n.asked c me f p).2:=by
 unfold Node.asked;split
 ·have hw:=abp (c:=c) (me:=me) h.ws p;split;rename_i hm out ok e he;rw [he] at hw;refine⟨⟨h.Xy,h.num1,h.dat,hw⟩,?_⟩;simp only;split
  ·exact D.send _
  ·exact D
 ·split;refine⟨⟨h.Xy,h.num1,h.dat,λl=> zbR (h.ws l)⟩,?_⟩;simp only;split
  ·exact D.send _
  ·exact D
theorem anL(h:NX T n)(D:DX f)(o:Opn):NX T (n.work c me f t o).1/\DX (n.work c me f t o).2.1:=by
 have h1:NX T { n with bP:={ n.bP with eF:=true } }:=⟨h.Xy,h.num1,h.dat,h.ws⟩
 unfold Node.work;simp only;split
 ·exact⟨abn (me:=me) (t:=t) h1 0,D⟩
 split
 ·exact⟨EY (c:=c) (me:=me) (f:=f) h1 _ _,EZ D _ _⟩
 split
 ·exact⟨QA (c:=c) (me:=me) (t:=if n.bP.eF then t else t++[⟨me,n.bP.bH.length,false,0⟩]) ⟨h.Xy,h.num1,h.dat,h.ws⟩,D⟩
 split
 ·exact⟨EY (c:=c) (me:=me) (f:=f) h1 _ _,EZ D _ _⟩
 split
 ·exact⟨EY (c:=c) (me:=me) (f:=f) h1 _ _,EZ D _ _⟩
 ·exact⟨EY (c:=c) (me:=me) (f:=f) h1 _ _,EZ D _ _⟩
theorem agH(hc:∀e∈n.aH.l,e.data.length<=4)(hf:∀i req p,(f.take i req).2=some p->p.data.length<=4)(h:NX T n)(D:DX f):NX (T+1) (n.step c me f t).1.1/\DX (n.step c me f t).1.2.1:=by
 have h':=h.mono (za6 T);unfold Node.step;split
 ·rename_i f' p e;have D':=D.take me false;have hp:=hf me false p (by rw [e]);rw [e] at D';obtain⟨a,b⟩:=Xz (c:=c) (me:=me) (t:=t) hc h' D' hp;exact⟨a,b⟩
 ·split
  ·exact⟨⟨h.Xy,h.num1,h.dat,λl=> zbR (adT h.ws l)⟩,D.send _⟩
  ·split
   ·rename_i f' p e;have D':DX f':=by
     split at e
     ·cases e
     ·have:=D.take me true;rw [e] at this;exact this
    exact aiO h D' p
   ·split
    ·split
     ·exact anL h' D _
     ·exact⟨h',D⟩
    ·exact⟨h',D⟩
end
structure MX(T:Nat)(m:dZ):Prop where
 inv:aiF m
 dH:adR m
 dst:DX m.fab
 bG:∀(i:Nat) n,m.aG[i]?=some n->NX T n
theorem MX.mono {T T':Nat}{m:dZ}(h:MX T m)(hT:T<=T'):MX T' m:=⟨h.inv,h.dH,h.dst,λi n hn=> (h.bG i n hn).mono hT⟩
theorem Ej.le {c:Cfg}(hc:c.ok=true){ca:Cache}(I:Ej c ca):∀e∈ca.l,e.data.length<=4:=by
 intro e he;have h1:=(I.ent e he).dat;have h2:=(qp hc).2.2.1;have:=h1.1;omega
theorem MX.step {T:Nat}{m:dZ}(X:MX T m)(i:Int):MX (T+1) (m.step i).1:=by
 obtain⟨h1,h2⟩:=abl X.inv X.dH i;refine⟨h1,h2,?_,?_⟩
 ·unfold dZ.step;split
  ·exact X.dst
  ·rename_i n hn;split;rename_i n' f t k e;unfold dZ.bG at hn;split at hn
   ·rename_i hi;have NI:=X.inv.bG _ n hn;have:=(agH (c:=m.c) (me:=i) (t:=m.trace) (NI.aH.le X.inv.ok) (λi req p hp=> by
     have:=((X.inv.fab.take i req).2 p hp).ok;simp only [Pkt.ok,zaf,decide_eq_true_eq] at this;omega) (X.bG _ n hn) X.dst).2
    rw [e] at this;exact this
   ·cases hn
 ·intro j n hj;unfold dZ.step at hj;split at hj
  ·exact(X.bG j n hj).mono (za6 T)
  ·rename_i n0 hn;split at hj;rename_i n' f t k e;unfold dZ.bG at hn;split at hn
   ·rename_i hi;simp only at hj;rw [zcI] at hj;split at hj
    ·split at hj
     ·cases hj;have NI:=X.inv.bG _ n0 hn;have:=(agH (c:=m.c) (me:=i) (t:=m.trace) (NI.aH.le X.inv.ok) (λi req p hp=> by
       have:=((X.inv.fab.take i req).2 p hp).ok;simp only [Pkt.ok,zaf,decide_eq_true_eq] at this;omega) (X.bG _ n0 hn) X.dst).1
      rw [e] at this;exact this
     ·cases hj
    ·exact(X.bG j n hj).mono (za6 T)
   ·cases hn
theorem MX.deliver {T:Nat}{m:dZ}(X:MX T m)(a b k:Int):MX T (m.deliver a b k).1:=by
 exact⟨Qz X.inv a b k,X.dH,X.dst.deliver a b k,X.bG⟩
theorem MX.do_ {T:Nat}{m:dZ}(X:MX T m)(p:Pck):MX (T+1) (m.do_ p).1:=by
 unfold dZ.do_;split
 ·exact(X.deliver _ _ _).mono (za6 T)
 ·exact X.step _
theorem abq {c:Cfg}(hc:c.ok=true)(ps:List (List Opn)):adR (.new c ps):=λi n hn aj hl=> by
 simp only [dZ.new,zbf,zbV] at hn;obtain⟨l,_,rfl⟩:=hn;unfold kP at hl;simp only [zaf,decide_eq_true_eq] at hl;have h1:=(qp hc).1;have h2:aj < c.bn:=hl.1.2;refine⟨⟨0,-1,c.first aj⟩,?_⟩;show jg (c.oN i c.bn.toNat) aj=_;rw [Ii,if_pos ⟨hl.1.1,by omega,by unfold Cfg.bf yw;rw [if_neg (by omega)];exact hl.2⟩]
theorem apS {g:bD}{x y:Nat}{A B:List Cell}(k:Nat)(h:g x=some A)(h':g y=some B)(hl:A[k]?≠B[k]?):x≠y:=λe=> by
 subst e;rw [h] at h';exact hl (by rw [zaZ h'])
def TG(A:Adr)(k n:Nat)(q:Nat):Prop:=(∃i s,i < k/\s < 6/\q=A.N i s)∨NY A.P n q∨q=A.trace
section
variable {b:Nat}{H:ah}{g g':bD}{A:Adr}{m:dZ}{T:Nat}
theorem anM {m:dZ}(I:aiF m):m.trace.length<=1000:=by
 have B:=Ak I.ok;have hl:=I.len;have:∀(l:List Node),(∀n∈l,Node.evs n<=49)->(l.map Node.evs).sum<=49*l.length:=by
  intro l
  induction l with
  | nil=> intro _;simp
  | cons n l ih=>
   intro h;have h1:=h n (by simp);have h2:=ih λx hx=> h x (by simp [hx]);simp only [zaw,zbX,zam];omega
 have h1:=this m.aG λn hn=> by
  obtain⟨i,hi⟩:=zcN.1 hn;have P:=(I.bG i n hi).bP;have:=P.most;have:=P.vals;unfold Node.evs;split <;> omega
 rw [I.evs];have:=B.aG;omega
def apT(A:Adr)(i:Nat):QO:=⟨A.N i,A.fab,A.P,A.trace⟩
theorem iM.nw(M:iM g A m){i:Nat}{n:Node}(hi:m.aG[i]?=some n):NW g (apT A i) m.c i (n,m.fab,m.trace):=⟨M.bG i n hi,M.fab,M.trace,M.SV,M.tf⟩
theorem iM.abr(M:iM g A m){q:Nat}(h:TG A m.aG.length m.fab.l.length q):A.je≠q:=by
 have hm:=M.je;rcases h with⟨i,s,hi,hs,rfl⟩ | ⟨i,s,hi,hs,rfl⟩ | rfl
 ·obtain⟨n,hn⟩:∃n,m.aG[i]?=some n:=⟨_,zab hi⟩
  obtain⟨h0,h1,h2,h3,h4,h5⟩:=M.bG i n hn;have l11:(oO A m.c m.aG.length).length=11:=by simp [oO,Ap,Cfg.av]
  match s,hs with
  | 0,_=> exact jr hm h0 (by rw [l11];simp only [gQ];decide)
  | 1,_=> exact jr hm h1 (by rw [l11];simp only [fV];decide)
  | 2,_=> exact jr hm h2 (by rw [l11];simp only [iK];decide)
  | 3,_=> exact apS 10 hm h3 (by simp [oO,Ap,Cfg.av,Cj])
  | 4,_=> exact jr hm h4 (by rw [l11];simp only [jU];decide)
  | 5,_=> exact jr hm h5 (by rw [l11];simp only [fZ];decide)
 ·exact jr hm (gG (M.fab.port hi) hs) (by simp [oO,Ap,Cfg.av,mZ])
 ·exact jr hm M.trace (by simp [oO,Ap,Cfg.av,lY])
theorem iM.len(M:iM g A m)(I:aiF m):m.aG.length=m.fab.l.length:=by
 have:=I.len;have:=I.fab.len;omega
theorem adU(G:Good b H g)(hb:H.base<=b)(M:iM g A m)(X:MX T m)(hT:T < 999000){i:Nat}{n:Node}(hi:m.aG[i]?=some n):
  ∃H' g',cl 49 [.ref (A.N i 0) 0 0,.ref A.fab 0 0,.ref A.trace 0 0] H=some (I (m.step i).2,H')/\Good b H' g'/\iM g' A (m.step i).1/\Off (TG A m.aG.length m.fab.l.length) g g'/\Step b H H':=by
 have N:=M.nw hi;have NX:=X.bG i n hi;have NI:=X.inv.bG i n hi;have hil:i < m.aG.length:=(zai.1 hi).1;have W:=Walk.of G hb N;obtain⟨K',g',e1,W'⟩:=adL W X.inv.ok X.inv.fab NI ⟨NX.Xy,by have:=NX.num1;show n.num < 1000000;omega⟩ (by have:=anM X.inv;show m.trace.length < 999999;omega) (by have:=NX.dat;show n.aI.data.length < 1000000000;omega) (λaj=> by have:=NX.ws aj;show(n.home.aT.ws aj).length < 1000000;omega);have hst:m.step i=({ m with aG:=m.aG.set i (n.step m.c i m.fab m.trace).1.1,fab:=(n.step m.c i m.fab m.trace).1.2.1,trace:=(n.step m.c i m.fab m.trace).1.2.2 },(n.step m.c i m.fab m.trace).2):=by
  unfold dZ.step dZ.bG;rw [if_pos (by omega),zat,hi]
 rw [hst];have hO:Off (agC (apT A i) m.fab.l.length) g g':=W'.off;have hsub:∀q,agC (apT A i) m.fab.l.length q->TG A m.aG.length m.fab.l.length q:=by
  rintro q (⟨s,hs,rfl⟩ | h | rfl)
  ·exact .inl ⟨i,s,hil,hs,rfl⟩
  ·exact .inr (.inl h)
  ·exact .inr (.inr rfl)
 have hN':=W'.nw;have hlen':=W'.len;refine⟨K',g',e1,W'.loc.out,⟨?_,hN'.tr,hN'.fab,λj n' hj=> ?_,?_,?_,M.tf⟩,hO.mono hsub,W'.step⟩
 ·show g' A.je=some (oO A m.c (m.aG.set i _).length);rw [zcm,hO A.je λh=> M.abr (hsub _ h) rfl];exact M.je
 ·simp only at hj;by_cases hij:i=j
  ·subst hij;rw [zbd hil] at hj;cases hj;exact hN'.bG
  ·rw [zbm hij] at hj;have hjl:j < m.aG.length:=(zai.1 hj).1;have Nj:=M.nw hj;refine(M.bG j n' hj).ext λs hs=> hO _ ?_;rintro(⟨t,ht,e⟩ | h | e)
   ·exact hij (M.am7 _ _ _ _ hjl hil hs ht e).1.symm
   ·exact(Nj.Xn h).1 s hs rfl
   ·exact Nj.aa2 s hs e
 ·show SS A.P _;have:(n.step m.c i m.fab m.trace).1.2.1.l.length=m.fab.l.length:=hlen';rw [this];exact M.SV
 ·show ai5 A.N (m.aG.set i _).length;rw [zcm];exact M.am7
theorem TJ(G:Good b H g)(hb:H.base<=b)(M:iM g A m)(X:MX T m){at_ bit mask:Int}(h64:zH at_)(hbit:zH bit)(m0:0<=mask)(m1:mask<=65535):
  ∃H' g',cl 48 [.ref A.fab 0 0,I at_,I bit,.s (.int .u16 mask)] H=some (I (m.deliver at_ bit mask).2,H')/\Good b H' g'/\iM g' A (m.deliver at_ bit mask).1/\Off (TG A m.aG.length m.fab.l.length) g g'/\Step b H H':=by
 have B:=Ak X.inv.ok;have h0:m.fab.l.length≠0:=by have:=X.inv.fab.len;have:=B.aG;omega
 obtain⟨H',g',e1,G',F',O',S'⟩:=Xu G hb M.fab M.SV (fok X.inv.ok X.inv.fab) h0 (λp hp=> ⟨⟨(X.inv.fab.pkt hp).ok,(X.inv.fab.pkt hp).num⟩,X.dst.all p hp⟩) h64 hbit m0 m1;have hsub:∀q,NY A.P m.fab.l.length q->TG A m.aG.length m.fab.l.length q:=λq h=> .inr (.inl h);have hlen:(m.fab.deliver at_ bit mask).1.l.length=m.fab.l.length:=by
  have h1:=(X.inv.fab.deliver at_ bit mask).len;have h2:=X.inv.fab.len;omega
 refine⟨H',g',e1,G',⟨?_,?_,F',λj n' hj=> ?_,?_,M.am7,M.tf⟩,O'.mono hsub,S'⟩
 ·rw [O' A.je λh=> M.abr (hsub _ h) rfl];exact M.je
 ·rw [O' A.trace λ⟨i,s,hi,hs,e⟩=> by
   have:=gG (M.fab.port hi) hs;exact jr M.trace this (by simp [lY,mZ]) e]
  exact M.trace
 ·exact(M.bG j n' hj).ext λs hs=> O' _ λh=> ((M.nw hj).Xn h).1 s hs rfl
 ·show SS A.P (m.fab.deliver at_ bit mask).1.l.length;rw [hlen];exact M.SV
theorem apU(G:Good b H g)(hb:H.base<=b)(M:iM g A m)(X:MX T m)(hT:T < 999000)(p:Pck)(h64:zH p.at_)(hbit:zH p.bit)(m0:0<=p.mask)(m1:p.mask<=65535):
  ∃H' g',cl 15 [.ref A.je 0 0,.agg p.av] H=some (B (m.do_ p).2,H')/\Good b H' g'/\iM g' A (m.do_ p).1/\Off (TG A m.aG.length m.fab.l.length) g g'/\Step b H H':=by
 let H1:=H.new (.blk 0 44 p.av);have G1:Good b H1 g:=G.new _;have g1:H1.get H.next=.blk 0 44 p.av:=bF rfl
 have l0:ld (.ref H.next 0 0) H1=some (B p.deliver,H1):=by rw [kS g1];rfl
 have l1:ld (.ref H.next 0 1) H1=some (I p.at_,H1):=by rw [kS g1];rfl
 have l2:ld (.ref H.next 0 2) H1=some (I p.bit,H1):=by rw [kS g1];rfl
 have l3:ld (.ref H.next 0 3) H1=some (.s (.int .u16 p.mask),H1):=by rw [kS g1];rfl
 have f0:=G1.load M.je (i:=0) (x:=.ref A.fab 0 0) rfl;have f1:=G1.load M.je (i:=1) (x:=.ref A.trace 0 0) rfl;have S1:Step b H H1:=Step.new _ G.1;have hb1:H1.base<=b:=by simp only [H1,jy];exact hb
 have B:=Ak X.inv.ok;cases hd:p.deliver with
 | true=>
  rw [hd] at l0;obtain⟨H',g',e1,G',M',O',S'⟩:=TJ G1 hb1 M X h64 hbit m0 m1;have hdo:m.do_ p=((m.deliver p.at_ p.bit p.mask).1,decide ((m.deliver p.at_ p.bit p.mask).2=0)):=by
   unfold dZ.do_;rw [hd];rfl
  rw [hdo];refine⟨H',g',bg rfl rfl (ahu _ _ _ _ ?_),G',M',O',S1.trans S'⟩;simp only [H1] at l0 l1 l2 l3 f0 f1 e1;simp only [Nat.reduceLT,xq_,hq_,acL,aF (yP p),l0,l1,l2,l3,f0,e1]
 | false=>
  rw [hd] at l0;have hdo:m.do_ p=((m.step p.at_).1,decide ((m.step p.at_).2≠0)):=by
   unfold dZ.do_;rw [hd];rfl
  rw [hdo];have e0:=Vw G1 M (by have:=X.inv.len;have:=B.aG;omega) p.at_;by_cases hi:0<=p.at_/\p.at_ < m.aG.length
  ·rw [if_pos hi] at e0;obtain⟨i,hii⟩:∃i:Nat,p.at_=i:=⟨p.at_.toNat,by omega⟩
   rw [hii] at e0 hi l1;rw [hii];rw [zat] at e0;obtain⟨n,hn⟩:∃n,m.aG[i]?=some n:=⟨_,zab (by omega)⟩
   obtain⟨H',g',e1,G',M',O',S'⟩:=adU G1 hb1 M X hT hn;refine⟨H',g',bg rfl rfl (ahu _ _ _ _ ?_),G',M',O',S1.trans S'⟩;have nn:bi .neq 64 (.ref (A.N i 0) 0 0) zP=some (.s (.bool true)):=by kernel_rfl
   simp only [H1] at l0 l1 f0 f1 e0 e1;simp only [Nat.reduceLT,xq_,hq_,acL,aF (yP p),l0,l1,f0,f1,e0,nn,e1];simp
  ·rw [if_neg hi] at e0;have hst:m.step p.at_=(m,0):=by
    unfold dZ.step dZ.bG;by_cases h0:0<=p.at_
    ·rw [if_pos h0,zaK (by omega)]
    ·rw [if_neg h0]
   rw [hst];refine⟨H1,g,bg rfl rfl (ahu _ _ _ _ ?_),G1,M,Off.refl _ _,S1⟩;have nn:bi .neq 64 zP zP=some (.s (.bool false)):=by kernel_rfl
   simp only [H1] at l0 l1 e0;simp only [Nat.reduceLT,xq_,hq_,acL,aF (yP p),l0,l1,e0,nn]
   try rfl
end
theorem iM.sub {g g':bD}{A:Adr}{m:dZ}(h:iM g A m)(hg:sW g g'):iM g' A m:=by
 refine⟨hg _ _ h.je,hg _ _ h.trace,⟨hg _ _ h.fab.1,λi p hp=> ?_,h.fab.2.2⟩,λi n hn=> ?_,h.SV,h.am7,h.tf⟩
 ·obtain⟨a,b,c,d⟩:=h.fab.2.1 i p hp;exact⟨hg _ _ a,hg _ _ b,hg _ _ c,hg _ _ d⟩
 ·obtain⟨a,b,c,d,e,f⟩:=h.bG i n hn;exact⟨hg _ _ a,hg _ _ b,hg _ _ c,hg _ _ d,hg _ _ e,hg _ _ f⟩
theorem RU.sub {g g':bD}{q f:Nat}{N:Nat->Nat->Nat}{m:kN}(h:RU g q f N m)(hg:sW g g'):RU g' q f N m:=by
 have hd:∀{x l},tu g x l->tu g' x l:=λh=> h.sub λq cs hq _=> hg q cs hq;obtain⟨ls,f1,f2,f3⟩:=h.fab;refine⟨hg _ _ h.je,⟨ls,hg _ _ f1,f2,λi l cells hl hc=> (f3 i l cells hl hc).mono λp cs _ ⟨x,a,b⟩=> ⟨x,hd a,b⟩⟩,λi n hn=> ?_,h.inj⟩;obtain⟨⟨d,⟨x,d1,d2⟩,h0⟩,⟨cells,k,h1⟩,⟨dH,r,h2⟩⟩:=h.bG i n hn;exact⟨⟨d,⟨x,hd d1,d2⟩,hg _ _ h0⟩,⟨cells,k.mono λe cs _ ⟨x,a,b⟩=> ⟨x,hd a,b⟩,hg _ _ h1⟩,⟨dH,r.mono λe cs _ ⟨x,a,b⟩=> ⟨x,hd a,b⟩,hg _ _ h2⟩⟩
theorem J9 {n:Int}:(AV.s (.int .u16 n)).cells=[.s (.int .u16 n)]:=rfl
theorem Ij {n:Int}:(AV.s (.int .u16 n)).aX=true:=rfl
theorem agI:zH 0:=⟨by decide,by decide⟩
theorem adV {c:Cfg}(hc:c.ok=true)(hi:∀z∈c.init,zH z){aj:Int}(h:0<=aj/\aj < c.bn):oW c (c.first aj):=by
 have B:=Ak hc;have hw:=B.cO;unfold Cfg.first
 rw [if_neg (by omega)];refine⟨by rw [zaD,zc9];omega,λv hv=> ?_⟩;obtain⟨j,_,rfl⟩:=zaH.1 hv;rw [zaF];cases e:c.init[(aj*c.cO).toNat+j]? with
 | none=> exact⟨by decide,by decide⟩
 | some x=> exact hi x (zaq e)
theorem Ik(c:Cfg)(me:Int):∀n:Nat,∀e∈c.oN me n,0<=e.1/\e.1 < n/\e.2.data=c.first e.1
 | 0,e,h=> by cases h
 | n+1,e,h=> by
  simp only [Cfg.oN] at h;have ih:=Ik c me n;split at h
  ·have key:∀(l:List (Int × Row)) (k:Int) (x:Row),e∈lG l k x->e∈l∨(e.1=k/\e.2=x):=by
    intro l
    induction l with
    | nil=>
     intro k x hx;simp only [lG,zaM] at hx;right;rw [hx];exact⟨rfl,rfl⟩
    | cons a l ih=>
     obtain⟨k',v⟩:=a;intro k x hx;simp only [lG] at hx;split at hx
     ·rename_i hk;rcases zaj.1 hx with rfl | hx
      ·exact .inr ⟨by first | rfl | exact hk | exact hk.symm,rfl⟩
      ·exact .inl (za5 _ hx)
     ·rcases zaj.1 hx with rfl | hx
      ·exact .inl (List.mem_cons_self ..)
      ·rcases ih k x hx with hx | hx
       ·exact .inl (za5 _ hx)
       ·exact .inr hx
   rcases key _ _ _ h with h | ⟨h1,h2⟩
   ·have:=ih e h;exact⟨this.1,by omega,this.2.2⟩
   ·exact⟨by omega,by omega,by rw [h2,h1]⟩
  ·have:=ih e h;exact⟨this.1,by omega,this.2.2⟩
theorem anN {c:Cfg}(hc:c.ok=true)(hi:∀z∈c.init,zH z){ps:List (List Opn)}(hp:c.xY ps=true)(hv:∀l∈ps,∀o∈l,c.right o=true/\I64 o.value):MX 0 (.new c ps):=by
 have B:=Ak hc;have hn:=B.aG;have hb:=B.bn;obtain⟨h1,h2⟩:=ES hp;refine⟨⟨hc,?_,?_,λi n hn=> ?_,?_⟩,abq hc ps,DX.new c,λi n hn=> ?_⟩
 ·simp only [dZ.new,zbP];exact h1
 ·refine⟨rfl,rfl,?_,λp hp=> ?_⟩
  ·simp only [dZ.new,Fab.new,zb4];omega
  ·simp only [dZ.new,Fab.new,List.mem_replicate] at hp;rw [hp.2];have:=B.out;have:=B.inn;refine⟨by show((0:Nat):Int)<=c.out;omega,by show((0:Nat):Int)<=c.out;omega,by show((0:Nat):Int)<=c.inn;omega,by show((0:Nat):Int)<=1;omega,λq hq=> by simp [Port.zero] at hq⟩
 ·simp only [dZ.new,zbf,zbV] at hn;obtain⟨l,hl,rfl⟩:=hn;have hm:=zaq hl;refine⟨⟨h2 l hm,hv l hm,zaT _,λh=> by cases h⟩,⟨rfl,rfl,List.Pairwise.nil,List.Pairwise.nil,λe he=> (by cases he),λaj=> ?_,zba 0⟩,λe he=> ?_,⟨⟨List.Pairwise.nil,λe he=> (by cases he),List.Pairwise.nil,λe he=> (by cases he)⟩,λe he=> (by cases he)⟩,λh=> absurd rfl h,zba 0⟩
  ·have:=B.ways;show(([]:List Ent).length:Int)<=c.ways;simp;omega
  ·obtain⟨r1,r2,r3⟩:=Ik c i _ e he;rw [r3];exact adV hc hi ⟨r1,by omega⟩
 ·have:∀n∈(dZ.new c ps).aG,Node.evs n=0:=by
   intro n hn;simp only [dZ.new,List.mem_mapIdx] at hn;obtain⟨i,hi,rfl⟩:=hn;rfl
  have h0:∀l:List Node,(∀n∈l,Node.evs n=0)->(l.map Node.evs).sum=0:=by
   intro l
   induction l with
   | nil=> intro _;rfl
   | cons n l ih=>
    intro h;rw [zaw,zbX,h n (by simp),ih λx hx=> h x (by simp [hx])]
  rw [h0 _ this];rfl
 ·simp only [dZ.new,zbf,zbV] at hn;obtain⟨l,hl,rfl⟩:=hn;exact⟨zba 0,by show(0:Int) < 4096;decide,zaT _,λaj=> zac 0⟩
theorem iM.here {g:bD}{A:Adr}{m:dZ}(M:iM g A m){x:Nat}(h:TG A m.aG.length m.fab.l.length x):∃cs,g x=some cs:=by
 rcases h with⟨i,s,hi,hs,rfl⟩ | ⟨i,s,hi,hs,rfl⟩ | rfl
 ·obtain⟨n,hn⟩:∃n,m.aG[i]?=some n:=⟨_,zab hi⟩
  exact(M.bG i n hn).some hs
 ·exact⟨_,gG (M.fab.port hi) hs⟩
 ·exact⟨_,M.trace⟩
section
variable {b:Nat}{H:ah}{g:bD}{A:Adr}{m:dZ}{T:Nat}
theorem MX.fine(X:MX T m):m.fine:=by
 have I:=X.inv;have B:=Ak I.ok;have h1:=I.len;have h2:=I.fab.len;have adW:∀p∈m.fab.l,p.rq.length < 1000/\p.an.length < 1000/\p.rin.length < 1000/\p.ain.length < 1000:=λp hp=> by
  have P:=I.fab.port p hp;have:=P.rq;have:=P.an;have:=P.rin;have:=P.ain;have:=B.out;have:=B.inn;omega
 have hn:∀n∈m.aG,NX T n/\∃i:Nat,WC m.c i n:=λn hn=> by
  obtain⟨i,hi⟩:=zcN.1 hn;exact⟨X.bG i n hi,i,I.bG i n hi⟩
 refine⟨I.ok,h1,by omega,λn hm=> ?_,λl hl=> ?_,λn hm=> ?_,λp hp=> ⟨(adW p hp).2.2.1,(adW p hp).2.2.2⟩⟩
 ·obtain⟨_,i,NI⟩:=hn n hm;have:=NI.bP.most;have:=NI.bP.vals;omega
 ·unfold Fab.iV at hl;obtain⟨p,hp,hl⟩:=za9.1 hl;simp only [zaj,zay,or_false] at hl;rcases hl with rfl | rfl
  ·exact(adW p hp).1
  ·exact(adW p hp).2.1
 ·have:=(hn n hm).1.dat;omega
theorem XB(G:Good b H g)(M:iM g A m)(hc:m.c.ok=true):cl 9 [.ref A.je 0 0] H=some (.agg m.c.av,H):=by
 have B:=Ak hc;refine bU rfl rfl (aqH _ _ _) ?_ (ah6 _);have l1:=λo=> (G.guard.new o).loads M.je (i:=2) (n:=8) (xs:=m.c.av) (by simp [oO,Ap,Cfg.av]) rfl (by decide);have e1:=λH=> jL H m.c.init (by have:=B.init;have:=B.tq;omega);have hav:m.c.av=[I m.c.aG,I m.c.bn,I m.c.cO,I m.c.sets,I m.c.ways,I m.c.out,I m.c.inn,dat m.c.init]:=rfl;have cc:(AV.agg m.c.av).cells=m.c.av:=rfl;have lc:m.c.av.length=8:=rfl;have l7:m.c.av[7]?=some (dat m.c.init):=rfl;have all:=iF m.c;rw [hav] at l1 all ⊢;simp only [Nat.reduceAdd,aN,xq_,hq_,aqj,l1,e1,all]
theorem abt(G:Good b H g)(M:iM g A m)(X:MX T m):cl 17 [.ref A.fab 0 0] H=some (I m.fab.under,H):=by
 have F:=X.fine;have B:=Ak X.inv.ok;have h1:=F.aG;have h2:=F.fab;exact Vs G M.fab (by have:=B.aG;omega) (by have:=B.aG;omega) F.iV
theorem VQ(X:MX T m):m.fab.under<=96:=by
 have I:=X.inv;have B:=Ak I.ok;have h2:=I.fab.len;have:∀l:List Port,(∀p∈l,p.rq.length+p.an.length<=16)->(l.flatMap λp=> p.rq++p.an).length<=16*l.length:=by
  intro l
  induction l with
  | nil=> intro _;simp
  | cons p l ih=>
   intro h;have h1:=h p (by simp);have h2:=ih λx hx=> h x (by simp [hx]);simp only [zaE,zao,zam];omega
 have:=this m.fab.l λp hp=> by
  have P:=I.fab.port p hp;have:=P.rq;have:=P.an;have:=B.out;omega
 unfold Fab.under Fab.all;have:=B.aG;omega
theorem anO(m:dZ)(i:Int):(m.step i).1.c=m.c:=by
 unfold dZ.step;split
 ·rfl
 ·split;rfl
theorem arj(m:dZ)(p:Pck):(m.do_ p).1.c=m.c:=by
 unfold dZ.do_;split
 ·rfl
 ·exact anO m _
theorem abu(X:MX T m)(p:Pck):(m.do_ p).1.aG.length=m.aG.length/\(m.do_ p).1.fab.l.length=m.fab.l.length:=by
 have I:=X.inv;have I':=(X.do_ p).inv;have h1:=I.len;have h2:=I.fab.len;have h3:=I'.len;have h4:=I'.fab.len;have:=arj m p;rw [this] at h3 h4;omega
end
structure rO(b:Nat)(H:ah)(g:bD)(A:Adr)(m:dZ)(T:Nat):Prop where
 good:Good b H g
 base:H.base<=b
 je:iM g A m
 keep:MX T m
section
variable {b:Nat}{H:ah}{g:bD}{A:Adr}{m:dZ}{T:Nat}
theorem rO.new(R:rO b H g A m T)(o:fU):rO b (H.new o) g A m T:=⟨R.good.new o,by rw [jy];exact R.base,R.je,R.keep⟩
theorem rO.do_(R:rO b H g A m T)(hT:T < 999000)(p:Pck)(h64:zH p.at_)(hbit:zH p.bit)(m0:0<=p.mask)(m1:p.mask<=65535):
  ∃H' g',cl 15 [.ref A.je 0 0,.agg p.av] H=some (B (m.do_ p).2,H')/\rO b H' g' A (m.do_ p).1 (T+1)/\Off (TG A m.aG.length m.fab.l.length) g g'/\Step b H H':=by
 obtain⟨H',g',e,G,M,O,S⟩:=apU R.good R.base R.je R.keep hT p h64 hbit m0 m1;exact⟨H',g',e,⟨G,by rw [S.base];exact R.base,M,R.keep.do_ p⟩,O,S⟩
theorem rO.fresh(R:rO b H g A m T){q:Nat}(hq:H.next<=q):¬TG A m.aG.length m.fab.l.length q:=λh=> by
 obtain⟨cs,e⟩:=R.je.here h;rw [R.good.isNone hq] at e;cases e
theorem rO.loc(R:rO b H g A m T){ty n:Nat}{xs ys:List AV}(hx:xs.length=n)(hy:ys.length=n)(hn:0 < n)(ax:xs.all AV.aX=true)(ay:ys.all AV.aX=true)(ht:ty < gV:=by decide):
  ∃K,st n (.ref H.next 0 0) (.agg ys) (H.new (.blk 0 ty xs))=some (aY,K)/\rO b K (upd g H.next (ys.map Cell.av)) A m T/\lda n (.ref H.next 0 0) K=some (.agg ys,K):=by
 have G1:=R.good.newObj (ty:=ty) (xs:=xs) ax ht;obtain⟨K',t1,t2,t3,t4⟩:=G1.stores (by rw [jy];exact R.base) aU (i:=0) (n:=n) (vs:=ys) (by rw [zaD,hx];omega) hy ay;have e:pG (xs.map Cell.av) 0 ys=ys.map Cell.av:=by
  unfold pG;rw [zaS (by rw [zaD,hx,hy];omega)];simp
 rw [e,rV] at t2;exact⟨K',t1,⟨t2,by rw [t3.base,jy];exact R.base,R.je.sub ((sW.refl g).more (R.good.isNone (zac _)) _),R.keep⟩,t2.loads aU (i:=0) (n:=n) (xs:=ys) (by rw [zaQ,zaz (by simp [hy])]) hy hn⟩
theorem rO.fab(R:rO b H g A m T):ld (.ref A.je 0 0) H=some (.ref A.fab 0 0,H):=R.good.load R.je.je (i:=0) (x:=.ref A.fab 0 0) rfl
theorem rO.trace(R:rO b H g A m T):ld (.ref A.je 0 1) H=some (.ref A.trace 0 0,H):=R.good.load R.je.je (i:=1) (x:=.ref A.trace 0 0) rfl
end
def abv(A:Adr)(k n q:Nat):Prop:=q≠A.je/\q≠A.fab/\¬TG A k n q
section
variable {b:Nat}{H:ah}{g g':bD}{A:Adr}{m:dZ}{T q:Nat}
theorem iM.same(M:iM g A m)(hl:m.aG.length=m.fab.l.length)(h:∀x,¬abv A m.aG.length m.fab.l.length x->g' x=g x):iM g' A m:=by
 have h1:∀x,TG A m.aG.length m.fab.l.length x->g' x=g x:=λx hx=> h x λf=> f.2.2 hx;refine⟨?_,?_,M.fab.same (h _ λf=> f.2.1 rfl) (λq hq=> h1 q (.inr (.inl hq))),λi n hn=> ?_,M.SV,M.am7,M.tf⟩
 ·rw [h _ λf=> f.1 rfl];exact M.je
 ·rw [h1 _ (.inr (.inr rfl))];exact M.trace
 ·exact(M.bG i n hn).ext λs hs=> h1 _ (.inl ⟨i,s,(zai.1 hn).1,hs,rfl⟩)
theorem rO.len(R:rO b H g A m T):m.aG.length=m.fab.l.length:=R.je.len R.keep.inv
theorem rO.free(R:rO b H g A m T)(hq:H.next<=q):abv A m.aG.length m.fab.l.length q:=
 ⟨λe=> by have:=R.good.lt R.je.je;omega,λe=> by have:=R.good.lt R.je.fab.1;omega,R.fresh hq⟩
theorem rO.obj(R:rO b H g A m T){ty:TypeId}{xs:List AV}(ax:xs.all AV.aX=true)(ht:ty < gV:=by decide):rO b (H.new (.blk 0 ty xs)) (upd g H.next (xs.map Cell.av)) A m T:=
 ⟨R.good.newObj ax ht,by rw [jy];exact R.base,R.je.sub ((sW.refl g).more (R.good.isNone (zac _)) _),R.keep⟩
theorem rO.cell(R:rO b H g A m T){cs:List Cell}(h:g q=some cs)(hf:abv A m.aG.length m.fab.l.length q){i:Nat}(hi:i < cs.length){v:AV}(hv:One v):
  ∃K,st 1 (.ref q 0 i) v H=some (aY,K)/\rO b K (upd g q (cs.set i (.av v))) A m T/\Step b H K:=by
 obtain⟨K,a,G,S,_⟩:=R.good.store R.base h hi hv;exact⟨K,a,⟨G,by rw [S.base];exact R.base,R.je.same R.len (λx hx=> aZ λe=> by subst e;exact hx hf),R.keep⟩,S⟩
theorem rO.drop(R:rO b H g A m T)(hs:sW g' g)(h:∀x,¬abv A m.aG.length m.fab.l.length x->g' x=g x):rO b H g' A m T:=
 ⟨R.good.sub hs,R.base,R.je.same R.len h,R.keep⟩
theorem QB(R:rO b H g A m T)(hT:T < 999000){r1 r2:Nat}(h1:g r1=some [.av (.ref A.je 0 0)])(f1:abv A m.aG.length m.fab.l.length r1)(f2:abv A m.aG.length m.fab.l.length r2)(hne:r1≠r2){d:Int}(hd:-9000<=d/\d<=9000)(h2:g r2=some [.av (I d)])
  (p:Pck) (h64:zH p.at_) (hbit:zH p.bit) (m0:0<=p.mask) (m1:p.mask<=65535):
  ∃K g',cl 65 [.agg p.av,.ref r1 0 0,.ref r2 0 0] H=some (.tup [],K)/\rO b K g' A (tally (m,d) p).1 (T+1)/\g' r1=some [.av (.ref A.je 0 0)]/\g' r2=some [.av (I (tally (m,d) p).2)]/\
   Off (λx=> TG A m.aG.length m.fab.l.length x∨x=r2) g g'/\Step b H K:=by
 have R0:=R.new (.blk 0 44 p.av);have ga:(H.new (.blk 0 44 p.av)).get H.next=.blk 0 44 p.av:=bF rfl
 have lp:lda 4 (.ref H.next 0 0) (H.new (.blk 0 44 p.av))=some (.agg p.av,H.new (.blk 0 44 p.av)):=(gy (off:=0) (n:=4) ga (zac 4)).trans rfl;have lm:=R0.good.load h1 (i:=0) (x:=.ref A.je 0 0) rfl;obtain⟨K1,g1,e1,R1,O1,S1⟩:=R0.do_ hT p h64 hbit m0 m1;have q1:g1 r1=some [.av (.ref A.je 0 0)]:=by rw [O1 r1 f1.2.2];exact h1
 have q2:g1 r2=some [.av (I d)]:=by rw [O1 r2 f2.2.2];exact h2
 have S0:Step b H (H.new (.blk 0 44 p.av)):=Step.new _ R.good.1;have ln:=abu R.keep p;cases hb:(m.do_ p).2 with
 | false=>
  rw [hb] at e1;have ht:tally (m,d) p=((m.do_ p).1,d):=by simp only [tally,hb];rfl
  rw [ht];refine⟨K1,g1,bg rfl rfl (akO _ _ _ _ _ ?_),R1,q1,q2,O1.mono λx h=> .inl h,S0.trans S1⟩;simp only [Nat.reduceLT,xq_,ahD,aF (yP p),lm,lp,e1]
 | true=>
  rw [hb] at e1;have ht:tally (m,d) p=((m.do_ p).1,d+1):=by simp only [tally,hb];rfl
  rw [ht];have f2':abv A (m.do_ p).1.aG.length (m.do_ p).1.fab.l.length r2:=by rw [ln.1,ln.2];exact f2
  have l2:=R1.good.load q2 (i:=0) (x:=I d) rfl;obtain⟨K2,c1,R2,S2⟩:=R1.cell q2 f2' (i:=0) (Nat.zero_lt_one) (v:=I (d+1)) dJ;have w:=wrap_i64 (a:=d+1) (by omega) (by omega);refine⟨K2,_,bg rfl rfl (akO _ _ _ _ _ ?_),R2,by rw [aZ hne];exact q1,aU,?_,(S0.trans S1).trans S2⟩
  ·simp only [Nat.reduceLT,xq_,ahD,aF (yP p),lm,lp,e1,l2,dF,w,c1]
  ·exact(O1.mono λx h=> .inl h).trans (Off.upd (.inr rfl))
theorem abw(x:dZ × Int)(p:Pck):x.2<=(tally x p).2/\(tally x p).2<=x.2+1:=by
 unfold tally;simp only;split <;> omega
theorem adX {r1 r2:Nat}(hne:r1≠r2){k n:Int}(hk:0<=k/\k < n)(hn:n<=6):
  ∀(j i:Nat) {H:ah} {g:bD} {x:dZ × Int} {T:Nat},(i:Int)+j=n->rO b H g A x.1 T->T+j < 999000->g r1=some [.av (.ref A.je 0 0)]->abv A x.1.aG.length x.1.fab.l.length r1->abv A x.1.aG.length x.1.fab.l.length r2->0<=x.2->x.2<=i->g r2=some [.av (I x.2)]->
   ∃K g',LH cl [I k,.ref r1 0 0,.ref r2 0 0,.fn (.func 65) [] [.ref r1 0 0,.ref r2 0 0],I n,I n,I i] H=Gz cl [.ref r2 0 0,.fn (.func 65) [] [.ref r1 0 0,.ref r2 0 0],I ((pI k n j i x).1.fab.under - 1)] K/\
    rO b K g' A (pI k n j i x).1 (T+j)/\g' r1=some [.av (.ref A.je 0 0)]/\g' r2=some [.av (I (pI k n j i x).2)]/\Off (λy=> TG A x.1.aG.length x.1.fab.l.length y∨y=r2) g g'/\Step b H K/\
    (pI k n j i x).1.aG.length=x.1.aG.length/\(pI k n j i x).1.fab.l.length=x.1.fab.l.length/\0<=(pI k n j i x).2/\(pI k n j i x).2<=n:=by
 intro j
 induction j with
 | zero=>
  intro i H g x T hi R hT h1 f1 f2 d0 d1 h2;have hlt:¬(i:Int) < n:=by omega
  have lm:=R.good.load h1 (i:=0) (x:=.ref A.je 0 0) rfl;have lf:=R.fab;have e1:=abt R.good R.je R.keep;have hu:=VQ R.keep;have w:=wrap_i64 (a:=(x.1.fab.under:Int) - 1) (by omega) (by omega);refine⟨H,g,?_,R,h1,h2,Off.refl _ _,Step.refl _ _,rfl,rfl,d0,by show x.2<=n;omega⟩;rw [Ze];simp only [xq_,hlt,lm,lf,e1,jR,w,pI]
 | succ j ih=>
  intro i H g x T hi R hT h1 f1 f2 d0 d1 h2;have hlt:(i:Int) < n:=by omega
  have w1:=wrap_i64 (a:=k+(i:Int)) (by omega) (by omega);have hr0:0<=(k+(i:Int)).tmod n:=Int.tmod_nonneg _ (by omega);have hr1:(k+(i:Int)).tmod n < n:=zdB _ (by omega);have bdp:bd 44 [(1,I ((k+(i:Int)).tmod n))]=some (.agg (Pck.av ⟨false,(k+(i:Int)).tmod n,0,0⟩)):=by
   simp only [ajD,jX,gI,ahd,Pck.av];rfl
  obtain⟨K1,g1,e1,R1,q1,q2,O1,S1⟩:=QB (m:=x.1) (d:=x.2) R (by omega) h1 f1 f2 hne (by omega) h2 ⟨false,(k+(i:Int)).tmod n,0,0⟩ ⟨by show _<=(k+(i:Int)).tmod n;omega,by show(k+(i:Int)).tmod n<=_;omega⟩ agI (zba 0) (show(0:Int)<=65535 by decide);have ln:=abu R.keep ⟨false,(k+(i:Int)).tmod n,0,0⟩;have h6:(i:Int)+1=((i+1:Nat):Int):=by omega
  have h7:=wrap_i64 (a:=((i+1:Nat):Int)) (by omega) (by omega);have td:=abw x ⟨false,(k+(i:Int)).tmod n,0,0⟩;have ex:tally (x.1,x.2) ⟨false,(k+(i:Int)).tmod n,0,0⟩=tally x ⟨false,(k+(i:Int)).tmod n,0,0⟩:=rfl;rw [ex] at R1 q2;have l1:(tally x ⟨false,(k+(i:Int)).tmod n,0,0⟩).1.aG.length=x.1.aG.length:=ln.1;have l2:(tally x ⟨false,(k+(i:Int)).tmod n,0,0⟩).1.fab.l.length=x.1.fab.l.length:=ln.2;obtain⟨K,g',r,R',q1',q2',O',S',n1,n2,b0,b1⟩:=ih (i+1) (x:=tally x ⟨false,(k+(i:Int)).tmod n,0,0⟩) (by omega) R1 (by omega) q1 (by rw [l1,l2];exact f1) (by rw [l1,l2];exact f2) (by omega) (by omega) q2;have en:mg Tryz.prog 65=true:=by kernel_rfl
  refine⟨K,g',?_,by have:=R';rw [show T+1+j=T+(j+1) by omega] at this;exact this,q1',q2',O1.trans (by rw [l1,l2] at O';exact O'),S1.trans S',n1.trans l1,n2.trans l2,b0,b1⟩;rw [Ze];simp only [xq_,hlt,dF,w1,wC (show n≠0 by omega),bdp,oM en,e1,h6,h7,r,pI]
theorem adY {r1 r2:Nat}(hne:r1≠r2):
  ∀(j:Nat) {H:ah} {g:bD} {x:dZ × Int} {T:Nat},j<=96->rO b H g A x.1 T->T+j < 999000->g r1=some [.av (.ref A.je 0 0)]->abv A x.1.aG.length x.1.fab.l.length r1->abv A x.1.aG.length x.1.fab.l.length r2->0<=x.2->x.2<=1000 - j->g r2=some [.av (I x.2)]->
   ∃K g',Gz cl [.ref r2 0 0,.fn (.func 65) [] [.ref r1 0 0,.ref r2 0 0],I ((j:Int) - 1)] H=some (I (vK j x).2,K)/\rO b K g' A (vK j x).1 (T+j)/\Off (λy=> TG A x.1.aG.length x.1.fab.l.length y∨y=r2) g g'/\Step b H K/\
    (vK j x).1.aG.length=x.1.aG.length/\(vK j x).1.fab.l.length=x.1.fab.l.length:=by
 intro j
 induction j with
 | zero=>
  intro H g x T hj R hT h1 f1 f2 d0 d1 h2;have l2:=R.good.load h2 (i:=0) (x:=I x.2) rfl;have e:(((0:Nat):Int) - 1)=-1:=rfl;refine⟨H,g,?_,R,Off.refl _ _,Step.refl _ _,rfl,rfl⟩;rw [Zf,e];simp only [Int.reduceLE,Int.reduceNeg,xq_,Int.reduceNeg,Int.reduceLE,l2,vK]
 | succ j ih=>
  intro H g x T hj R hT h1 f1 f2 d0 d1 h2;have ej:(((j+1:Nat):Int) - 1)=(j:Int):=by omega
  have hge:(0:Int)<=(j:Int):=by omega
  have bdp:bd 44 [(0,B true),(1,I (j:Int))]=some (.agg (Pck.av ⟨true,j,0,0⟩)):=by
   simp only [xq_,ajD,jX,gI,ahd,Pck.av];rfl
  obtain⟨K1,g1,e1,R1,q1,q2,O1,S1⟩:=QB (m:=x.1) (d:=x.2) R (by omega) h1 f1 f2 hne (by omega) h2 ⟨true,j,0,0⟩ ⟨by show _<=(j:Int);omega,by show(j:Int)<=_;omega⟩ agI (zba 0) (show(0:Int)<=65535 by decide);have ln:=abu R.keep ⟨true,j,0,0⟩;have w:=wrap_i64 (a:=(j:Int) - 1) (by omega) (by omega);have td:=abw x ⟨true,j,0,0⟩;have ex:tally (x.1,x.2) ⟨true,j,0,0⟩=tally x ⟨true,j,0,0⟩:=rfl;rw [ex] at R1 q2;have l1:(tally x ⟨true,j,0,0⟩).1.aG.length=x.1.aG.length:=ln.1;have l2:(tally x ⟨true,j,0,0⟩).1.fab.l.length=x.1.fab.l.length:=ln.2;obtain⟨K,g',r,R',O',S',n1,n2⟩:=ih (x:=tally x ⟨true,j,0,0⟩) (by omega) R1 (by omega) q1 (by rw [l1,l2];exact f1) (by rw [l1,l2];exact f2) (by omega) (by omega) q2;have en:mg Tryz.prog 65=true:=by kernel_rfl
  refine⟨K,g',?_,by have:=R';rw [show T+1+j=T+(j+1) by omega] at this;exact this,O1.trans (by rw [l1,l2] at O';exact O'),S1.trans S',n1.trans l1,n2.trans l2⟩;rw [Zf,ej];simp only [xq_,hge,bdp,oM en,e1,jR,w,r];rfl
theorem VR(R:rO b H g A m T)(hT:T < 900000){first:Int}(h64:zH first):
  ∃K g',cl 22 [.ref A.je 0 0,I first] H=some (I (m.round first).2,K)/\rO b K g' A (m.round first).1 (T+102)/\Off (TG A m.aG.length m.fab.l.length) g g'/\Step b H K/\
   (m.round first).1.aG.length=m.aG.length/\(m.round first).1.fab.l.length=m.fab.l.length:=by
 have Bd:=Ak R.keep.inv.ok;have hn:=Bd.aG;let H1:=H.new (.blk 0 25 [.ref A.je 0 0]);have R1:rO b H1 (upd g H.next [.av (.ref A.je 0 0)]) A m T:=R.obj (ty:=25) (xs:=[.ref A.je 0 0]) rfl;have n1:H1.next=H.next+1:=fA
 let H2:=H1.new (.blk 0 3 [zI]);have R2:rO b H2 (upd (upd g H.next [.av (.ref A.je 0 0)]) (H.next+1) [.av zI]) A m T:=by
  have:=R1.obj (ty:=3) (xs:=[zI]) rfl;rw [n1] at this;exact this
 have f1:=R.free (q:=H.next) (zac _);have f2:=R.free (q:=H.next+1) (by omega);obtain⟨K0,c1,R3,S3⟩:=R2.cell aU f2 (i:=0) (by decide) (v:=I 0) dJ;have hne:H.next≠H.next+1:=by omega
 have e1:=XB R3.good R3.je R.keep.inv.ok;have w0:first.tmod m.c.aG < m.c.aG:=zdB _ (by omega)
 have w00:-m.c.aG < first.tmod m.c.aG:=Int.lt_tmod_of_pos _ (by omega)
 have w1:=wrap_i64 (a:=first.tmod m.c.aG+m.c.aG) (by omega) (by omega);have k0:0<=nU m.c.aG first:=Int.tmod_nonneg _ (by omega)
 have k1:nU m.c.aG first < m.c.aG:=zdB _ (by omega)
 have lc:m.c.av[0]?=some (I m.c.aG):=rfl;have lm:=R3.good.load (q:=H.next) (cs:=[.av (.ref A.je 0 0)]) (by rw [aZ hne,aZ hne,aU]) (i:=0) (x:=.ref A.je 0 0) rfl;have S0:Step b H H2:=(Step.new _ R.good.1).trans (Step.new _ R1.good.1);have h1':upd (upd (upd g H.next [.av (.ref A.je 0 0)]) (H.next+1) [.av zI]) (H.next+1) ([.av zI].set 0 (.av (I 0))) H.next=some [.av (.ref A.je 0 0)]:=by rw [aZ hne,aZ hne,aU]
 obtain⟨K1,g1,s1,R4,q1,q2,O1,S1,n3,n4,b0,b1⟩:=adX (b:=b) (A:=A) hne (k:=nU m.c.aG first) (n:=m.c.aG) ⟨k0,k1⟩ hn.2 m.c.aG.toNat 0 (x:=(m,0)) (by omega) R3 (by omega) h1' f1 f2 (zba _) (zba _) aU;generalize hx:pI (nU m.c.aG first) m.c.aG m.c.aG.toNat 0 (m,0)=x at s1 R4 q2 n3 n4 b0 b1;have hmr:m.round first=vK x.1.fab.under x:=by unfold dZ.round;rw [<-hx]
 have hu:=VQ R4.keep;obtain⟨K2,g2,s2,R5,O2,S2,n5,n6⟩:=adY (b:=b) (A:=A) hne x.1.fab.under (x:=x) hu R4 (by omega) q1 (by rw [n3,n4];exact f1) (by rw [n3,n4];exact f2) b0 (by omega) q2;rw [<-hmr] at s2 R5 n5 n6;have n5':(m.round first).1.aG.length=m.aG.length:=n5.trans n3;have n6':(m.round first).1.fab.l.length=m.fab.l.length:=n6.trans n4;rw [n3,n4] at O2;have z0:((0:Nat):Int)=0:=rfl;rw [z0] at s1;have O3:=O1.trans O2;let g3:bD:=λy=> if y=H.next∨y=H.next+1 then none else g2 y
 have R6:rO b K2 g3 A (m.round first).1 (T+102):=by
  have R5':rO b K2 g2 A (m.round first).1 (T+102):=⟨R5.good,R5.base,R5.je,R5.keep.mono (by omega)⟩
  refine R5'.drop (λy cs hy=> ?_) λy hy=> ?_
  ·simp only [g3] at hy;split at hy
   ·cases hy
   ·exact hy
  ·rw [n5',n6'] at hy;have:¬(y=H.next∨y=H.next+1):=by
    rintro(rfl | rfl)
    ·exact hy f1
    ·exact hy f2
   simp only [g3,if_neg this]
 refine⟨K2,g3,bg rfl rfl (aoU _ _ _ _ ?_),R6,λy hy=> ?_,(S0.trans S3).trans (S1.trans S2),n5',n6'⟩
 ·simp only [H1,H2] at c1;have bx:jc 25 (.ref A.je 0 0) H=some (.ref H.next 0 0,H.new (.blk 0 25 [.ref A.je 0 0])):=Ut rfl (by decide);have n1':(H.new (.blk 0 25 [.ref A.je 0 0])).next=H.next+1:=fA
  simp only [xq_,akv,bx,c1,lm,e1,lc,wC (show m.c.aG≠0 by omega),dF,w1];rw [show((first.tmod m.c.aG+m.c.aG).tmod m.c.aG)=nU m.c.aG first from rfl,s1];exact s2
 ·by_cases h:y=H.next∨y=H.next+1
  ·simp only [g3,if_pos h];exact(R.good.isNone (by omega)).symm
  ·simp only [g3,if_neg h];rw [O3 y (by rintro(h' | h');exact hy h';exact h (.inr h')),aZ (λe=> h (.inr e)),aZ (λe=> h (.inr e)),aZ (λe=> h (.inl e))]
end
abbrev vg:=Int->Option Ent
def hdI:List Int->Int->Int
 | [],x=> x
 | i::_,_=> i
def nC:List Int->Int->Int
 | [],x=> x
 | i::l,_=> nC l i
def Chn(E:vg):Int->List Int->Int->Prop
 | _,[],_=> True
 | b,i::l,x=> (∃e,E i=some e/\e.back=b/\e.fwd=hdI l x)/\Chn E i l x
def FCh(E:vg):List Int->Prop
 | []=> True
 | i::l=> (∃e,E i=some e/\e.fwd=hdI l (-1))/\FCh E l
def nK(E:vg)(i:Int)(x:Option Ent):vg:=λj=> if j=i then x else E j
theorem fK {E:vg}{i:Int}{x:Option Ent}:nK E i x i=x:=by simp [nK]
theorem eX {E:vg}{i j:Int}{x:Option Ent}(h:j≠i):nK E i x j=E j:=by simp [nK,h]
theorem XC {l l':List Int}{x:Int}:hdI (l++l') x=hdI l (hdI l' x):=by cases l <;> rfl
theorem DN:∀{l l':List Int} {x:Int},nC (l++l') x=nC l' (nC l x)
 | [],_,_=> rfl
 | i::l,l',x=> by simp only [zbe,nC];exact DN
theorem Il:∀{l:List Int} {x:Int},l≠[]->nC l x∈l
 | [],_,h=> absurd rfl h
 | [i],_,_=> by simp [nC]
 | i::j::l,x,_=> by
  simp only [nC];have:=Il (l:=j::l) (x:=i) (by simp);simp only [nC] at this;exact za5 _ this
theorem Chn.ext {E E':vg}:∀{l:List Int} {b x:Int},(∀j∈l,E' j=E j)->Chn E b l x->Chn E' b l x
 | [],_,_,_,_=> trivial
 | i::l,b,x,h,⟨⟨e,h1,h2⟩,hc⟩=> ⟨⟨e,by rw [h i (by simp),h1],h2⟩,Chn.ext (λj hj=> h j (by simp [hj])) hc⟩
theorem FCh.ext {E E':vg}:∀{l:List Int},(∀j∈l,E' j=E j)->FCh E l->FCh E' l
 | [],_,_=> trivial
 | i::l,h,⟨⟨e,h1,h2⟩,hc⟩=> ⟨⟨e,by rw [h i (by simp),h1],h2⟩,FCh.ext (λj hj=> h j (by simp [hj])) hc⟩
theorem Chn.fch {E:vg}:∀{l:List Int} {b:Int},Chn E b l (-1)->FCh E l
 | [],_,_=> trivial
 | _::_,_,⟨⟨e,h1,_,h3⟩,hc⟩=> ⟨⟨e,h1,h3⟩,Chn.fch hc⟩
theorem qg {E:vg}:∀{l l':List Int} {b x:Int},Chn E b (l++l') x↔Chn E b l (hdI l' x)/\Chn E (nC l b) l' x
 | [],_,_,_=> by simp [Chn,nC]
 | i::l,l',b,x=> by
  simp only [zbe,Chn,nC,qg (l:=l),XC,and_assoc]
theorem Chn.mem {E:vg}:∀{l:List Int} {b x:Int},Chn E b l x->∀j∈l,∃e,E j=some e
 | i::l,_,_,⟨⟨e,h1,_⟩,hc⟩,j,hj=> by
  rcases zaj.1 hj with rfl | h
  ·exact⟨e,h1⟩
  ·exact Chn.mem hc j h
theorem FCh.mem {E:vg}:∀{l:List Int},FCh E l->∀j∈l,∃e,E j=some e
 | i::l,⟨⟨e,h1,_⟩,hc⟩,j,hj=> by
  rcases zaj.1 hj with rfl | h
  ·exact⟨e,h1⟩
  ·exact FCh.mem hc j h
theorem Chn.abx {E:vg}{i b b' x:Int}{l:List Int}{e:Ent}(h:Chn E b (i::l) x)(hn:i∉l)(he:E i=some e){e':Ent}(hb:e'.back=b')(hf:e'.fwd=e.fwd):Chn (nK E i (some e')) b' (i::l) x:=by
 obtain⟨⟨e0,h1,_,h3⟩,hc⟩:=h;rw [he] at h1;cases h1;exact⟨⟨e',fK,hb,by rw [hf,h3]⟩,hc.ext λj hj=> eX λe=> hn (e ▸ hj)⟩
theorem Chn.anP {E:vg}{k b x y:Int}{l:List Int}{e:Ent}(h:Chn E b (l++[k]) x)(hn:k∉l)(he:E k=some e){e':Ent}(hb:e'.back=e.back)(hf:e'.fwd=y):Chn (nK E k (some e')) b (l++[k]) y:=by
 obtain⟨h1,h2⟩:=qg.1 h;refine qg.2 ⟨Chn.ext (λj hj=> eX λe=> hn (e ▸ hj)) h1,?_⟩;obtain⟨⟨e0,h3,h4,_⟩,_⟩:=h2;rw [he] at h3;cases h3;exact⟨⟨e',fK,by rw [hb,h4],by rw [hf];rfl⟩,trivial⟩
def Rng(N:Int)(l:List Int):Prop:=l.Nodup/\∀i∈l,0<=i/\i < N
theorem Rng.hd {N:Int}{l:List Int}(h:Rng N l)(hl:l≠[]):hdI l (-1)∈l/\0<=hdI l (-1):=by
 cases l with
 | nil=> exact absurd rfl hl
 | cons i l=> exact⟨by simp [hdI],(h.2 i (by simp)).1⟩
theorem Rng.aby {N:Int}{l:List Int}(h:Rng N l):hdI l (-1)=-1↔l=[]:=by
 constructor
 ·intro e;refine Classical.byContradiction λhn=> ?_;have:=(h.hd hn).2;omega
 ·rintro rfl;rfl
structure Wf(N:Int)(E:vg)(r:Row)(v:List Int)(l:List Int):Prop where
 rng:Rng N l
 ch:Chn E (-1) l (-1)
 mem:∀i e,E i=some e->i∈l
 head:r.head=hdI l (-1)
 st:r.aQ=0∨r.aQ=1∨r.aQ=2
 st0:r.aQ=0↔l=[]
 st2:r.aQ=2->∃i,l=[i]
 bZ:∀i e,E i=some e->(e.bZ=true↔r.aQ=2)
 data:∀i e,E i=some e->e.data=v
 DZ:r.aQ≠2->r.data=v
structure aiP(N:Int)(E:vg)(v:List Int)(i:Int)(R:List Int):Prop where
 rng:Rng N R
 ch:FCh E R
 mem:∀j e,E j=some e->j∈R∨j=i
 data:∀j e,E j=some e->e.data=v
 only:∀j e,E j=some e->e.bZ=true->∀k,E k≠none->k=j
structure Mid(N:Int)(E:vg)(r:Row)(v:List Int)(i:Int)(pre post:List Int):Prop where
 rng:Rng N (pre++i::post)
 mem:∀j e,E j=some e->j∈pre++i::post
 ent:∃e,E i=some e
 head:r.head=hdI (pre++i::post) (-1)
 st:r.aQ=1
 bZ:∀j e,E j=some e->e.bZ=false
 data:∀j e,E j=some e->e.data=v
 DZ:r.data=v
inductive Out where
 | idle
 | req (p:Pkt)
 | wait
 | ans (p:Pkt)
def iO(r:Row)(d:bJ):Row:=⟨d.aQ,d.head,if d.data=[] then r.data else d.data⟩
inductive Hold (N hm:Int) (E:vg) (r:Row) (v:List Int) (i:Int) (d:bJ):Out->Prop
 | granted {l:List Int}:d.step=1->Wf N E r v l->Hold N hm E r v i d (.ans ⟨7,hm,i,d.id,d.aj,r.head,r.aQ,false,r.data⟩)
 | attach {l:List Int}:d.step=2->d.aO=1->l≠[]->d.head=hdI l (-1)->Wf N E r v l->Hold N hm E r v i d (.req (d.ask i hm))
 | attached {l:List Int} {fl:Bool}:d.step=2->d.aO=1->l≠[]->d.head=hdI l (-1)->Rng N l->Chn E i l (-1)->(∀j e,E j=some e->j∈l)->(∀j e,E j=some e->e.bZ=false)->(∀j e,E j=some e->e.data=v)->
   (fl=false->r.data=v)->Hold N hm E r v i d (.ans ⟨9,d.head,i,d.id,d.aj,0,0,fl,v⟩)
 | IL {R:List Int}:d.step=3->d.aO=2->aiP N E v i (d.next::R)->d.next≠i->(E i≠none->d.data=v)->Hold N hm E r v i d (.req (d.ask i hm))
 | Io {R:List Int} {fl:Bool}:d.step=3->d.aO=2->aiP N E v i R->(∀j e,E j=some e->e.bZ=false)->(E i≠none->d.data=v)->Hold N hm E r v i d (.ans ⟨9,d.next,i,d.id,d.aj,hdI R (-1),0,fl,v⟩)
 | front {pre post:List Int}:d.step=4->d.aO=3->Mid N E r v i pre post->pre≠[]->Chn E (-1) (pre++i::post) (-1)->d.head=nC pre (-1)->d.next=hdI post (-1)->d.told=r.head->Hold N hm E r v i d (.req (d.ask i hm))
 | yY {pre post:List Int}:d.step=4->d.aO=3->Mid N E r v i pre post->pre≠[]->Chn E (-1) pre (hdI post (-1))->Chn E i post (-1)->d.head=nC pre (-1)->d.next=hdI post (-1)->d.told=r.head->
   Hold N hm E r v i d (.ans ⟨8,d.head,i,d.id,d.aj,0,0,false,[]⟩)
 | behind {pre post:List Int}:d.step=5->d.aO=3->Mid N E r v i pre post->post≠[]->Chn E (-1) pre (hdI post (-1))->Chn E i post (-1)->d.head=nC pre (-1)->d.next=hdI post (-1)->d.told=r.head->Hold N hm E r v i d (.req (d.ask i hm))
 | vk {pre post:List Int}:d.step=5->d.aO=3->Mid N E r v i pre post->post≠[]->Chn E (-1) pre (hdI post (-1))->Chn E (nC pre (-1)) post (-1)->d.head=nC pre (-1)->d.next=hdI post (-1)->d.told=r.head->
   Hold N hm E r v i d (.ans ⟨8,d.next,i,d.id,d.aj,0,0,false,[]⟩)
 | unlock {l:List Int}:d.step=6->Wf N E (iO r d) v l->Hold N hm E r v i d (.req (d.ask i hm))
section
variable {N hm:Int}{E:vg}{r:Row}{v:List Int}{i:Int}{d:bJ}
theorem QC {l:List Int}(h1:d.step=2)(h2:d.aO=1)(hl:l≠[])(hh:d.head=hdI l (-1))(W:Wf N E r v l):
  ∃e,E d.head=some e/\Hold N hm (nK E d.head (some { e with bZ:=false,back:=i })) r v i d (.ans ⟨9,d.head,i,d.id,d.aj,0,0,e.bZ,e.data⟩):=by
 cases l with
 | nil=> exact absurd rfl hl
 | cons k l=>
  have hk:d.head=k:=hh;obtain⟨⟨e,he,_⟩,_⟩:=W.ch;refine⟨e,by rw [hk];exact he,?_⟩;have hz:Out.ans ⟨9,d.head,i,d.id,d.aj,0,0,e.bZ,e.data⟩=.ans ⟨9,d.head,i,d.id,d.aj,0,0,e.bZ,v⟩:=by rw [W.data k e he]
  rw [hz];have hn:k∉l:=(zaY.1 W.rng.1).1;have nd:∀j e',nK E d.head (some { e with bZ:=false,back:=i }) j=some e'->(j=k/\e'={ e with bZ:=false,back:=i })∨(j≠k/\E j=some e'):=λj e' hj=> by
   by_cases hjk:j=k
   ·subst hjk;rw [hk,fK] at hj;exact .inl ⟨rfl,(zaZ hj).symm⟩
   ·rw [hk,eX hjk] at hj;exact .inr ⟨hjk,hj⟩
  refine .attached (l:=k::l) h1 h2 (by simp) hk W.rng ?_ (λj e' hj=> ?_) (λj e' hj=> ?_) (λj e' hj=> ?_) λhf=> ?_
  ·rw [hk];exact W.ch.abx hn he rfl rfl
  ·rcases nd j e' hj with⟨rfl,_⟩ | ⟨_,h⟩
   ·simp
   ·exact W.mem j e' h
  ·rcases nd j e' hj with⟨_,rfl⟩ | ⟨hjk,h⟩
   ·rfl
   ·cases hd:e'.bZ with
    | false=> rfl
    | true=>
     obtain⟨q,hq⟩:=W.st2 ((W.bZ j e' h).1 hd);have h3:=W.mem j e' h;rw [hq] at h3;simp only [zbK] at hq;simp only [zaj,zay,or_false] at h3;exact absurd (h3.trans hq.1.symm) hjk
  ·rcases nd j e' hj with⟨_,rfl⟩ | ⟨_,h⟩
   ·exact W.data k e he
   ·exact W.data j e' h
  ·refine W.DZ λh2=> ?_;have:=(W.bZ k e he).2 h2;rw [hf] at this;cases this
theorem TK {R:List Int}(h1:d.step=3)(h2:d.aO=2)(L:aiP N E v i (d.next::R))(hne:d.next≠i)(hd:E i≠none->d.data=v):
  ∃e,E d.next=some e/\Hold N hm (nK E d.next none) r v i d (.ans ⟨9,d.next,i,d.id,d.aj,e.fwd,0,e.bZ,e.data⟩):=by
 obtain⟨⟨e,he,hf⟩,hc⟩:=L.ch;refine⟨e,he,?_⟩;rw [L.data _ e he,hf];have hn:d.next∉R:=(zaY.1 L.rng.1).1
 have nd:∀j e',nK E d.next none j=some e'->j≠d.next/\E j=some e':=λj e' hj=> by
  by_cases hjk:j=d.next
  ·rw [hjk,fK] at hj;cases hj
  ·rw [eX hjk] at hj;exact⟨hjk,hj⟩
 refine .Io (R:=R) h1 h2 ⟨⟨(zaY.1 L.rng.1).2,λj hj=> L.rng.2 j (by simp [hj])⟩,hc.ext λj hj=> eX λe=> hn (e ▸ hj),λj e' hj=> ?_,λj e' hj=> L.data j e' (nd j e' hj).2,λj e' hj hdj k hk=> ?_⟩ (λj e' hj=> ?_) λh=> hd ?_
 ·obtain⟨h3,h4⟩:=nd j e' hj;rcases L.mem j e' h4 with h | h
  ·rcases zaj.1 h with h | h
   ·exact absurd h h3
   ·exact .inl h
  ·exact .inr h
 ·refine L.only j e' (nd j e' hj).2 hdj k ?_;intro h0;by_cases hk':k=d.next
  ·rw [hk',fK] at hk;exact hk rfl
  ·rw [eX hk',h0] at hk;exact hk rfl
 ·obtain⟨h3,h4⟩:=nd j e' hj;cases hdt:e'.bZ with
  | false=> rfl
  | true=> exact absurd (L.only j e' h4 hdt d.next (by rw [he];simp)).symm h3
 ·rw [eX hne.symm] at h;exact h
theorem TL {pre post:List Int}(h1:d.step=4)(h2:d.aO=3)(M:Mid N E r v i pre post)(hp:pre≠[])(C:Chn E (-1) (pre++i::post) (-1))(hh:d.head=nC pre (-1))(hn:d.next=hdI post (-1))(ht:d.told=r.head):
  ∃e,E d.head=some e/\Hold N hm (nK E d.head (some { e with fwd:=d.next })) r v i d (.ans ⟨8,d.head,i,d.id,d.aj,0,0,false,[]⟩):=by
 obtain⟨p0,k,rfl⟩:∃p0 k,pre=p0++[k]:=⟨pre.dropLast,pre.getLast hp,(List.dropLast_concat_getLast hp).symm⟩
 have hk:d.head=k:=by rw [hh,DN];rfl
 obtain⟨C1,C2⟩:=qg.1 C;obtain⟨e,he⟩:=C1.mem k (by simp);refine⟨e,by rw [hk];exact he,?_⟩;have ndp:=M.rng.1;have hkp:k∉p0/\k≠i/\k∉post:=by
  simp only [zbQ,zaY,zaj,zbh,zbe,zaJ] at ndp;obtain⟨_,⟨h4,h5,h6⟩,h7⟩:=ndp;refine⟨λh=> h7 k h k (.inl rfl) rfl,λh=> h4 (.inl h),λh=> h4 (.inr h)⟩
 have nd:∀j e',nK E d.head (some { e with fwd:=d.next }) j=some e'->(j=k/\e'={ e with fwd:=d.next })∨(j≠k/\E j=some e'):=λj e' hj=> by
  by_cases hjk:j=k
  ·subst hjk;rw [hk,fK] at hj;exact .inl ⟨rfl,(zaZ hj).symm⟩
  ·rw [hk,eX hjk] at hj;exact .inr ⟨hjk,hj⟩
 refine .yY (pre:=p0++[k]) (post:=post) h1 h2 ⟨M.rng,λj e' hj=> ?_,?_,M.head,M.st,λj e' hj=> ?_,λj e' hj=> ?_,M.DZ⟩ hp ?_ ?_ hh hn ht
 ·rcases nd j e' hj with⟨rfl,_⟩ | ⟨_,h⟩
  ·simp
  ·exact M.mem j e' h
 ·obtain⟨ei,hi⟩:=M.ent;exact⟨ei,by rw [hk,eX hkp.2.1.symm];exact hi⟩
 ·rcases nd j e' hj with⟨_,rfl⟩ | ⟨_,h⟩
  ·exact M.bZ k e he
  ·exact M.bZ j e' h
 ·rcases nd j e' hj with⟨_,rfl⟩ | ⟨_,h⟩
  ·exact M.data k e he
  ·exact M.data j e' h
 ·rw [hk];exact C1.anP hkp.1 he rfl hn
 ·rw [hk];exact C2.2.ext λj hj=> eX λe=> hkp.2.2 (e ▸ hj)
theorem QD {pre post:List Int}(h1:d.step=5)(h2:d.aO=3)(M:Mid N E r v i pre post)(hp:post≠[])(C1:Chn E (-1) pre (hdI post (-1)))(C2:Chn E i post (-1))(hh:d.head=nC pre (-1))(hn:d.next=hdI post (-1))(ht:d.told=r.head):
  ∃e,E d.next=some e/\Hold N hm (nK E d.next (some { e with back:=d.head })) r v i d (.ans ⟨8,d.next,i,d.id,d.aj,0,0,false,[]⟩):=by
 cases post with
 | nil=> exact absurd rfl hp
 | cons k post=>
  have hk:d.next=k:=hn
  obtain⟨e,he⟩:=C2.mem k (by simp);refine⟨e,by rw [hk];exact he,?_⟩;have ndp:=M.rng.1;have hkp:k∉pre/\k≠i/\k∉post:=by
   simp only [zbQ,zaY,zaj] at ndp;obtain⟨_,⟨h4,h5,h6⟩,h7⟩:=ndp;refine⟨λh=> h7 k h k (.inr (.inl rfl)) rfl,λh=> h4 (.inl h.symm),h5⟩
  have nd:∀j e',nK E d.next (some { e with back:=d.head }) j=some e'->(j=k/\e'={ e with back:=d.head })∨(j≠k/\E j=some e'):=λj e' hj=> by
   by_cases hjk:j=k
   ·subst hjk;rw [hk,fK] at hj;exact .inl ⟨rfl,(zaZ hj).symm⟩
   ·rw [hk,eX hjk] at hj;exact .inr ⟨hjk,hj⟩
  refine .vk (pre:=pre) (post:=k::post) h1 h2 ⟨M.rng,λj e' hj=> ?_,?_,M.head,M.st,λj e' hj=> ?_,λj e' hj=> ?_,M.DZ⟩ hp ?_ ?_ hh hn ht
  ·rcases nd j e' hj with⟨rfl,_⟩ | ⟨_,h⟩
   ·simp
   ·exact M.mem j e' h
  ·obtain⟨ei,hi⟩:=M.ent;exact⟨ei,by rw [hk,eX hkp.2.1.symm];exact hi⟩
  ·rcases nd j e' hj with⟨_,rfl⟩ | ⟨_,h⟩
   ·exact M.bZ k e he
   ·exact M.bZ j e' h
  ·rcases nd j e' hj with⟨_,rfl⟩ | ⟨_,h⟩
   ·exact M.data k e he
   ·exact M.data j e' h
  ·rw [hk];exact C1.ext λj hj=> eX λe=> hkp.1 (e ▸ hj)
  ·rw [hk];exact C2.abx hkp.2.2 he hh rfl
end
section
variable {N hm:Int}{E:vg}{r:Row}{v:List Int}{i:Int}{d:bJ}
theorem Rng.cons {l:List Int}(h:Rng N l)(hi:0<=i/\i < N)(hn:i∉l):Rng N (i::l):=
 ⟨zaY.2 ⟨hn,h.1⟩,λj hj=> by rcases zaj.1 hj with rfl | hj;exact hi;exact h.2 j hj⟩
theorem Rng.mid {pre post:List Int}(h:Rng N (pre++i::post)):i∉pre/\i∉post/\Rng N (pre++post)/\Rng N pre/\Rng N post/\0<=i:=by
 obtain⟨h1,h2⟩:=h;simp only [zbQ,zaY,zaj] at h1;obtain⟨a,⟨b,c⟩,e⟩:=h1;refine⟨λh=> e i h i (.inl rfl) rfl,b,⟨?_,λj hj=> h2 j (by rcases zaO.1 hj with h | h <;> simp [h])⟩,⟨a,λj hj=> h2 j (by simp [hj])⟩,⟨c,λj hj=> h2 j (by simp [hj])⟩,(h2 i (by simp)).1⟩;exact zbQ.2 ⟨a,c,λx hx y hy=> e x hx y (.inr hy)⟩
theorem Rng.last {l:List Int}(h:Rng N l)(hl:l≠[]):0<=nC l (-1):=(h.2 _ (Il hl)).1
theorem jv {x:Option Ent}{j:Int}{e:Ent}(h:nK E i x j=some e):(j=i/\x=some e)∨(j≠i/\E j=some e):=by
 by_cases hj:j=i
 ·rw [hj,fK] at h;exact .inl ⟨hj,h⟩
 ·rw [eX hj] at h;exact .inr ⟨hj,h⟩
theorem Wf.empty {l:List Int}(W:Wf N E r v l)(h:l=[]):∀j,E j=none:=λj=> by
 cases hj:E j with
 | none=> rfl
 | some e=> have:=W.mem j e hj;rw [h] at this;cases this
theorem Wf.alone {e:Ent}(hi:0<=i/\i < N)(hE:∀j,j≠i->E j=none)(he:E i=some e)(hb:e.back=-1)(hf:e.fwd=-1){x:List Int}(hx:e.data=v){st:Int}(hs:(st=1/\e.bZ=false/\x=v)∨(st=2/\e.bZ=true)):Wf N E ⟨st,i,x⟩ v [i]:=by
 have one:∀j e',E j=some e'->j=i/\e'=e:=λj e' hj=> by
  by_cases hji:j=i
  ·rw [hji,he] at hj;exact⟨hji,(zaZ hj).symm⟩
  ·rw [hE j hji] at hj;cases hj
 refine⟨⟨by simp,λj hj=> by simp only [zaj,zay,or_false] at hj;rw [hj];exact hi⟩,⟨⟨e,he,hb,hf⟩,trivial⟩,λj e' hj=> by simp [(one j e' hj).1],rfl,?_,?_,λ_=> ⟨i,rfl⟩,λj e' hj=> ?_,λj e' hj=> by rw [(one j e' hj).2,hx],λh=> ?_⟩
 ·rcases hs with⟨h,_⟩ | ⟨h,_⟩ <;> simp [h]
 ·rcases hs with⟨h,_⟩ | ⟨h,_⟩ <;> simp [h]
 ·rw [(one j e' hj).2];rcases hs with⟨h,h',_⟩ | ⟨h,h'⟩ <;> simp [h,h']
 ·rcases hs with⟨_,_,h'⟩ | ⟨h',_⟩
  ·exact h'
  ·exact absurd h' h
theorem Nq {l:List Int}(hi:0<=i/\i < N)(W:Wf N E r v l)(hs:r.aQ=0){e':Ent}(hb:e'.back=-1)(hf:e'.fwd=-1)(hd:e'.bZ=false)(hx:e'.data=r.data){d':bJ}(h6:d'.step=6)(h1:d'.aQ=1)(hh:d'.head=i)(hn:d'.data=[]):
  Hold N hm (nK E i (some e')) r v i d' (.req (d'.ask i hm)):=by
 have hr:=W.DZ (by rw [hs];decide);have h0:=W.empty (W.st0.1 hs);refine .unlock (l:=[i]) h6 ?_;have:iO r d'=⟨1,i,r.data⟩:=by simp only [iO,h1,hh,hn,if_true]
 rw [this];exact Wf.alone hi (λj hj=> by rw [eX hj];exact h0 j) fK hb hf (by rw [hx,hr]) (.inl ⟨rfl,hd,hr⟩)
theorem Ip {l:List Int}(hk:d.aO=1)(W:Wf N E r v l)(hs:r.aQ≠0)(h2:d.step=2)(hh:d.head=r.head):Hold N hm E r v i d (.req (d.ask i hm)):=
 .attach (l:=l) h2 hk (λh=> hs (W.st0.2 h)) (by rw [hh,W.head]) W
theorem Nr {l:List Int}{fl:Bool}(hi:0<=i/\i < N)(hE:E i=none)(hl:l≠[])(hh:d.head=hdI l (-1))(R:Rng N l)(C:Chn E i l (-1))(hm':∀j e,E j=some e->j∈l)(hc:∀j e,E j=some e->e.bZ=false)(hd:∀j e,E j=some e->e.data=v)(hf:fl=false->r.data=v)(hv:v≠[])
  {e':Ent} (hb:e'.back=-1) (hw:e'.fwd=d.head) (hdt:e'.bZ=false) (hx:e'.data=v) {d':bJ} (h6:d'.step=6) (h1:d'.aQ=1) (hdh:d'.head=i) (hn:d'.data=if fl then v else []):
  Hold N hm (nK E i (some e')) r v i d' (.req (d'.ask i hm)):=by
 have hil:i∉l:=λh=> by obtain⟨e,he⟩:=C.mem i h;rw [hE] at he;cases he
 have hr:(iO r d').data=v:=by
  simp only [iO,hn];cases fl with
  | true=> simp [hv]
  | false=> simp [hf rfl]
 refine .unlock (l:=i::l) h6 ⟨R.cons hi hil,⟨⟨e',fK,hb,by rw [hw,hh]⟩,C.ext λj hj=> eX λe=> hil (e ▸ hj)⟩,λj e hj=> ?_,hdh,.inr (.inl h1),?_,λh=> ?_,λj e hj=> ?_,λj e hj=> ?_,λ_=> hr⟩
 ·rcases jv hj with⟨h,_⟩ | ⟨_,h⟩
  ·simp [h]
  ·exact za5 _ (hm' j e h)
 ·simp only [iO,h1];simp
 ·simp only [iO,h1] at h;cases h
 ·simp only [iO,h1];rcases jv hj with⟨_,h⟩ | ⟨_,h⟩
  ·cases h;simp [hdt]
  ·simp [hc j e h]
 ·rcases jv hj with⟨_,h⟩ | ⟨_,h⟩
  ·cases h;exact hx
  ·exact hd j e h
theorem Wf.left {l:List Int}(W:Wf N E r v l):aiP N E v i l:=
 ⟨W.rng,W.ch.fch,λj e hj=> .inl (W.mem j e hj),W.data,λj e hj hd k hk=> by
  obtain⟨q,hq⟩:=W.st2 ((W.bZ j e hj).1 hd);have h1:=W.mem j e hj;cases hk':E k with
  | none=> exact absurd hk' hk
  | some e'=>
   have h2:=W.mem k e' hk';rw [hq] at h1 h2;simp only [zaj,zay,or_false] at h1 h2;rw [h1,h2]⟩
theorem aiQ(hi0:0<=i){R:List Int}(L:aiP N E v i R)(hd1:E i≠none->d.data=v)(hd2:R=[]->d.data=v)(hn:d.next=hdI R (-1)){x:Int}(hx:x=match E i with
   | some own=> if d.next=i then own.fwd else d.next
   | none=> d.next) (hk:d.aO=2):
  (x≠-1/\∀d':bJ,d'.step=3->d'.aO=2->d'.next=x->d'.data=d.data->Hold N hm E r v i d' (.req (d'.ask i hm)))∨(x=-1/\d.data=v/\∀j,j≠i->E j=none):=by
 have go:∀R':List Int,aiP N E v i R'->x=hdI R' (-1)->(R'≠[]->hdI R' (-1)≠i)->(R'=[]->d.data=v)->(x≠-1/\∀d':bJ,d'.step=3->d'.aO=2->d'.next=x->d'.data=d.data->Hold N hm E r v i d' (.req (d'.ask i hm)))∨(x=-1/\d.data=v/\∀j,j≠i->E j=none):=by
  intro R' L' hx' hi' hd';cases R' with
  | nil=>
   refine .inr ⟨hx',hd' rfl,λj hj=> ?_⟩;cases h:E j with
   | none=> rfl
   | some e=> rcases L'.mem j e h with h' | h';cases h';exact absurd h' hj
  | cons k R'=>
   have h0:=(L'.rng.2 k (by simp)).1;refine .inl ⟨by rw [hx'];show k≠-1;omega,λd' a b c e=> ?_⟩;have hk':d'.next=k:=c.trans hx'
   exact .IL (R:=R') a b (by rw [hk'];exact L') (by rw [hk'];exact hi' (by simp)) λh=> by rw [e];exact hd1 h
 cases hE:E i with
 | none=>
  rw [hE] at hx;simp only at hx;refine go R L (hx.trans hn) (λhR h=> ?_) hd2;obtain⟨e,he⟩:=L.ch.mem _ (L.rng.hd hR).1;rw [h,hE] at he;cases he
 | some own=>
  rw [hE] at hx;simp only at hx;have hdv:=hd1 (by rw [hE];simp);by_cases hni:d.next=i
  ·rw [if_pos hni] at hx;cases R with
   | nil=>
    have h1:d.next=-1:=hn
    omega
   | cons k R=>
    have hk':k=i:=by rw [<-hni,hn];rfl
    subst hk';obtain⟨⟨e,he,hf⟩,hc⟩:=L.ch;rw [hE] at he;cases he;have hkR:=(zaY.1 L.rng.1).1;refine go R ⟨⟨(zaY.1 L.rng.1).2,λj hj=> L.rng.2 j (by simp [hj])⟩,hc,λj e hj=> ?_,L.data,L.only⟩ (hx.trans hf) (λhR h=> ?_) λ_=> hdv
    ·rcases L.mem j e hj with h | h
     ·rcases zaj.1 h with h | h
      ·exact .inr h
      ·exact .inl h
     ·exact .inr h
    ·apply hkR
     rw [<-h];cases R with
     | nil=> exact absurd rfl hR
     | cons a R=> simp [hdI]
  ·rw [if_neg hni] at hx;exact go R L (hx.trans hn) (λhR h=> hni (hn.trans h)) λ_=> hdv
theorem Iq(hi:0<=i/\i < N)(h0:∀j,j≠i->E j=none){e':Ent}(hb:e'.back=-1)(hf:e'.fwd=-1)(hd:e'.bZ=true){d':bJ}(h6:d'.step=6)(h1:d'.aQ=2)(hh:d'.head=i):Hold N hm (nK E i (some e')) r e'.data i d' (.req (d'.ask i hm)):=by
 refine .unlock (l:=[i]) h6 ?_;have:iO r d'=⟨2,i,if d'.data=[] then r.data else d'.data⟩:=by simp only [iO,h1,hh]
 rw [this];exact Wf.alone hi (λj hj=> by rw [eX hj];exact h0 j hj) fK hb hf rfl (.inr ⟨rfl,hd⟩)
theorem Ns {l:List Int}(W:Wf N E r v l)(h6:d.step=6)(hs:d.aQ=r.aQ)(hh:d.head=r.head)(hn:d.data=[]):Hold N hm E r v i d (.req (d.ask i hm)):=by
 refine .unlock (l:=l) h6 ?_;have:iO r d=r:=by simp only [iO,hs,hh,hn,if_true]
 rw [this];exact W
theorem Wf.split {l:List Int}(W:Wf N E r v l){e:Ent}(he:E i=some e):∃pre post,l=pre++i::post/\e.back=nC pre (-1)/\e.fwd=hdI post (-1):=by
 obtain⟨pre,post,rfl⟩:=List.append_of_mem (W.mem i e he);obtain⟨_,⟨⟨e',h1,h2,h3⟩,_⟩⟩:=qg.1 W.ch;rw [he] at h1;cases h1;exact⟨pre,post,rfl,h2,h3⟩
theorem Wf.mid {pre post:List Int}(W:Wf N E r v (pre++i::post)){e:Ent}(he:E i=some e)(hne:pre≠[]∨post≠[]):Mid N E r v i pre post:=by
 have h2:r.aQ≠2:=λh=> by
  obtain⟨q,hq⟩:=W.st2 h;have:=congrArg List.length hq;simp only [zao,zam,zan] at this;rcases hne with h | h
  ·have:=zdu.2 h;omega
  ·have:=zdu.2 h;omega
 have h1:r.aQ=1:=by
  rcases W.st with h | h | h
  ·have:=W.st0.1 h;simp at this
  ·exact h
  ·exact absurd h h2
 exact⟨W.rng,W.mem,⟨e,he⟩,W.head,h1,λj e' hj=> by
  cases hd:e'.bZ with
  | false=> rfl
  | true=> exact absurd ((W.bZ j e' hj).1 hd) h2,W.data,W.DZ h2⟩
theorem IQ {l:List Int}(W:Wf N E r v l)(hv:v≠[]){e:Ent}(he:E i=some e)(hb:e.back=-1)(hf:e.fwd=-1)(h6:d.step=6)(hs:d.aQ=0)(hh:d.head=-1)(hn:d.data=if e.bZ then e.data else []):Hold N hm (nK E i none) r v i d (.req (d.ask i hm)):=by
 obtain⟨pre,post,rfl,h1,h2⟩:=W.split he;obtain⟨p1,p2,p3,p4,p5,p6⟩:=W.rng.mid;have e1:pre=[]:=Classical.byContradiction λh=> by have:=p4.last h;omega
 have e2:post=[]:=Classical.byContradiction λh=> by have:=(p5.hd h).2;omega
 subst e1;subst e2;have none_:∀j,nK E i none j=none:=λj=> by
  cases hj:nK E i none j with
  | none=> rfl
  | some e'=>
   rcases jv hj with⟨_,h⟩ | ⟨hji,h⟩
   ·cases h
   ·have:=W.mem j e' h;simp only [zaJ,zaj,zay,or_false] at this;exact absurd this hji
 have hd:(iO r d).data=v:=by
  simp only [iO,hn];cases hdt:e.bZ with
  | true=> simp [W.data i e he,hv]
  | false=>
   have:r.aQ≠2:=λh=> by rw [(W.bZ i e he).2 h] at hdt;cases hdt
   simp [W.DZ this]
 refine .unlock (l:=[]) h6 ⟨⟨List.nodup_nil,λj hj=> by cases hj⟩,trivial,λj e' hj=> ?_,hh,.inl hs,by simp [iO,hs],λh=> ?_,λj e' hj=> ?_,λj e' hj=> ?_,λ_=> hd⟩
 ·rw [none_ j] at hj;cases hj
 ·simp only [iO,hs] at h;cases h
 ·rw [none_ j] at hj;cases hj
 ·rw [none_ j] at hj;cases hj
theorem IU {l:List Int}(W:Wf N E r v l){e:Ent}(he:E i=some e)(hb:e.back=-1)(hf:e.fwd≠-1)(h5:d.step=5)(hk:d.aO=3)(hh:d.head=-1)(hn:d.next=e.fwd)(ht:d.told=r.head):Hold N hm E r v i d (.req (d.ask i hm)):=by
 obtain⟨pre,post,rfl,h1,h2⟩:=W.split he;obtain⟨p1,p2,p3,p4,p5,p6⟩:=W.rng.mid;have e1:pre=[]:=Classical.byContradiction λh=> by have:=p4.last h;omega
 subst e1;have hp:post≠[]:=λh=> hf (by rw [h2,h];rfl);exact .behind (pre:=[]) (post:=post) h5 hk (W.mid he (.inr hp)) hp trivial W.ch.2 hh (hn.trans h2) ht
theorem IV {l:List Int}(W:Wf N E r v l){e:Ent}(he:E i=some e)(hb:e.back≠-1)(h4:d.step=4)(hk:d.aO=3)(hh:d.head=e.back)(hn:d.next=e.fwd)(ht:d.told=r.head):Hold N hm E r v i d (.req (d.ask i hm)):=by
 obtain⟨pre,post,rfl,h1,h2⟩:=W.split he;have hp:pre≠[]:=λh=> hb (by rw [h1,h];rfl);exact .front (pre:=pre) (post:=post) h4 hk (W.mid he (.inl hp)) hp W.ch (hh.trans h1) (hn.trans h2) ht
theorem Mid.out {pre post:List Int}(M:Mid N E r v i pre post)(hne:pre++post≠[])(C1:Chn E (-1) pre (hdI post (-1)))(C2:Chn E (nC pre (-1)) post (-1))(h6:d.step=6)(hs:d.aQ=1)(hh:d.head=hdI (pre++post) (-1))(hn:d.data=[]):Hold N hm (nK E i none) r v i d (.req (d.ask i hm)):=by
 obtain⟨p1,p2,p3,p4,p5,p6⟩:=M.rng.mid;have hu:iO r d=⟨1,hdI (pre++post) (-1),r.data⟩:=by simp only [iO,hs,hh,hn,if_true]
 refine .unlock (l:=pre++post) h6 ?_;rw [hu];refine⟨p3,qg.2 ⟨C1.ext λj hj=> eX λe=> p1 (e ▸ hj),C2.ext λj hj=> eX λe=> p2 (e ▸ hj)⟩,λj e hj=> ?_,rfl,.inr (.inl rfl),by simpa using hne,λh=> (by cases h),λj e hj=> ?_,λj e hj=> ?_,λ_=> M.DZ⟩
 ·rcases jv hj with⟨_,h⟩ | ⟨hji,h⟩
  ·cases h
  ·have:=M.mem j e h;simp only [zaO,zaj] at this ⊢;rcases this with h | h | h
   ·exact .inl h
   ·exact absurd h hji
   ·exact .inr h
 ·rcases jv hj with⟨_,h⟩ | ⟨_,h⟩
  ·cases h
  ·simp [M.bZ j e h]
 ·rcases jv hj with⟨_,h⟩ | ⟨_,h⟩
  ·cases h
  ·exact M.data j e h
theorem Ir {pre post:List Int}(M:Mid N E r v i pre post)(hp:pre≠[])(C1:Chn E (-1) pre (hdI post (-1)))(hq:post=[])(h6:d.step=6)(hs:d.aQ=1)(hh:d.head=r.head)(hn:d.data=[]):Hold N hm (nK E i none) r v i d (.req (d.ask i hm)):=by
 subst hq;refine M.out (by simpa using hp) C1 trivial h6 hs ?_ hn;rw [hh,M.head,zbl];cases pre with
 | nil=> exact absurd rfl hp
 | cons a pre=> rfl
theorem IW {pre post:List Int}(M:Mid N E r v i pre post)(hp:post≠[])(C1:Chn E (-1) pre (hdI post (-1)))(C2:Chn E i post (-1))(h5:d.step=5)(hk:d.aO=3)(hh:d.head=nC pre (-1))(hn:d.next=hdI post (-1))(ht:d.told=r.head):Hold N hm E r v i d (.req (d.ask i hm)):=
 .behind (pre:=pre) (post:=post) h5 hk M hp C1 C2 hh hn ht
theorem DR {pre post:List Int}(M:Mid N E r v i pre post)(hp:post≠[])(C1:Chn E (-1) pre (hdI post (-1)))(C2:Chn E (nC pre (-1)) post (-1)){h0 nx:Int}(hh0:h0=nC pre (-1))(hnx:nx=hdI post (-1))(h6:d.step=6)(hs:d.aQ=1)(hh:d.head=if h0=-1 then nx else r.head)(hn:d.data=[]):Hold N hm (nK E i none) r v i d (.req (d.ask i hm)):=by
 obtain⟨p1,p2,p3,p4,p5,p6⟩:=M.rng.mid;refine M.out (by simp [hp]) C1 C2 h6 hs ?_ hn;cases pre with
 | nil=>
  have:h0=-1:=hh0;rw [hh,if_pos this,hnx];rfl
 | cons a pre=>
  have h1:=p4.last (l:=a::pre) (by simp);rw [hh,if_neg (by omega),M.head];rfl
end
structure Abs where
 ent:Int->vg
 row:Int->Row
 own:Int->Int
 ws:Int->List (Int × Int)
 aI:Int->bJ
 msg:Int->Out
 val:Int->List Int
def Abs.holds(c:Cfg)(a:Abs)(L:Int):Prop:=Hold c.aG (c.bf L) (a.ent L) (a.row L) (a.val L) (a.own L) (a.aI (a.own L)) (a.msg (a.own L))
def agJ(c:Cfg)(a:Abs)(L:Int):Prop:=
 (a.own L=-1/\∃l,Wf c.aG (a.ent L) (a.row L) (a.val L) l)∨(0<=a.own L/\a.own L < c.aG/\(a.aI (a.own L)).aj=L/\a.holds c L)
def anQ(c:Cfg)(a:Abs)(L:Int):Prop:=
 ((a.ws L).map (·.1)).Nodup/\∀w∈a.ws L,0<=w.1/\w.1 < c.aG/\a.msg w.1=.wait/\(a.aI w.1).aj=L/\(a.aI w.1).id=w.2/\(a.aI w.1).step=1
def adZ(c:Cfg)(d:bJ)(i:Int):Pkt:=⟨8,c.bf d.aj,i,d.id,d.aj,0,0,false,[]⟩
def ark(c:Cfg)(a:Abs)(i:Int):Prop:=(a.aI i).step=1/\a.own (a.aI i).aj≠i/\(a.msg i=.req ((a.aI i).ask i (c.bf (a.aI i).aj))∨(a.msg i=.wait/\(i,(a.aI i).id)∈a.ws (a.aI i).aj))
def apV(c:Cfg)(a:Abs)(i:Int):Prop:=(a.aI i).step=6/\a.own (a.aI i).aj≠i/\a.msg i=.ans (adZ c (a.aI i) i)
structure aiR(c:Cfg)(a:Abs)(i:Int):Prop where
 step:(a.aI i).step≠0
 aj:0<=(a.aI i).aj/\(a.aI i).aj < c.bn
 aO:1<=(a.aI i).aO/\(a.aI i).aO<=3
 idr:0<=(a.aI i).id/\(a.aI i).id < 4096
 miss:(a.aI i).aO=1->(a.aI i).step=1∨(a.aI i).step=2->a.ent (a.aI i).aj i=none
 at_:ark c a i∨a.own (a.aI i).aj=i∨apV c a i
def agK(c:Cfg)(a:Abs)(i:Int):Prop:=((a.aI i).step=0/\a.msg i=.idle)∨aiR c a i
structure nM(c:Cfg)(a:Abs):Prop where
 aj:∀L,0<=L->L < c.bn->agJ c a L
 bG:∀i,0<=i->i < c.aG->agK c a i
 ws:∀L,anQ c a L
 val:∀L,0<=L->L < c.bn->a.val L≠[]
 out:∀L,¬(0<=L/\L < c.bn)->a.own L=-1
section
variable {c:Cfg}{a a':Abs}{i L:Int}
theorem Hold.Nu {N hm:Int}{E:vg}{r:Row}{v:List Int}{i:Int}{d:bJ}{o:Out}(h:Hold N hm E r v i d o):d.step≠0:=by
 cases h <;> omega
theorem nM.holder(I:nM c a)(hL:0<=L/\L < c.bn)(h:a.own L=i)(hi:0<=i):(a.aI i).aj=L/\Hold c.aG (c.bf L) (a.ent L) (a.row L) (a.val L) i (a.aI i) (a.msg i):=by
 rcases I.aj L hL.1 hL.2 with⟨h1,_⟩ | ⟨_,_,h3,h4⟩
 ·omega
 ·unfold Abs.holds at h4;rw [h] at h3 h4;exact⟨h3,h4⟩
theorem nM.upd(I:nM c a)(i L:Int)(hi:0<=i)(e1:∀L',L'≠L->a'.ent L'=a.ent L')(r1:∀L',L'≠L->a'.row L'=a.row L')(o1:∀L',L'≠L->a'.own L'=a.own L')(w1:∀L',L'≠L->a'.ws L'=a.ws L')(v1:∀L',L'≠L->a'.val L'=a.val L')
  (d1:∀j,j≠i->a'.aI j=a.aI j) (m1:∀j,j≠i->a'.msg j=a.msg j) (e2:∀j,j≠i->a.ent L j=none->a'.ent L j=none)
  (o2:∀j,0<=j->j≠i->(a'.own L=j↔a.own L=j)) (w2:∀j k,j≠i->(j,k)∈a.ws L->(j,k)∈a'.ws L)
  (h6:∀L',L'≠L->a.own L'≠i) (h7:∀L',L'≠L->∀k,(i,k)∉a.ws L') (hL:0<=L/\L < c.bn)
  (nl:agJ c a' L) (nn:agK c a' i) (nw:anQ c a' L) (nv:a'.val L≠[]):nM c a':=by
 refine⟨λL' h0 h1=> ?_,λj h0 h1=> ?_,λL'=> ?_,λL' h0 h1=> ?_,λL' h=> ?_⟩
 ·by_cases h:L'=L
  ·rw [h];exact nl
  ·have hne:=h6 L' h;rcases I.aj L' h0 h1 with⟨a1,l,a2⟩ | ⟨a1,a2,a3,a4⟩
   ·exact .inl ⟨by rw [o1 L' h];exact a1,l,by rw [e1 L' h,r1 L' h,v1 L' h];exact a2⟩
   ·refine .inr ⟨by rw [o1 L' h];exact a1,by rw [o1 L' h];exact a2,by rw [o1 L' h,d1 _ hne];exact a3,?_⟩;unfold Abs.holds at a4 ⊢;rw [o1 L' h,d1 _ hne,m1 _ hne,e1 L' h,r1 L' h,v1 L' h];exact a4
 ·by_cases h:j=i
  ·rw [h];exact nn
  ·rcases I.bG j h0 h1 with⟨a1,a2⟩ | O
   ·exact .inl ⟨by rw [d1 j h];exact a1,by rw [m1 j h];exact a2⟩
   ·have od:∀M:Int,a'.own M=j↔a.own M=j:=λM=> by
     by_cases hM:M=L
     ·rw [hM];exact o2 j h0 h
     ·rw [o1 M hM]
    refine .inr ⟨by rw [d1 j h];exact O.step,by rw [d1 j h];exact O.aj,by rw [d1 j h];exact O.aO,by rw [d1 j h];exact O.idr,?_,?_⟩
    ·rw [d1 j h];intro hk hs;have:=O.miss hk hs;by_cases hM:(a.aI j).aj=L
     ·rw [hM] at this ⊢;exact e2 j h this
     ·rw [e1 _ hM];exact this
    ·rcases O.at_ with⟨b1,b2,b3⟩ | b | ⟨b1,b2,b3⟩
     ·refine .inl ⟨by rw [d1 j h];exact b1,?_,?_⟩
      ·rw [d1 j h];exact λe=> b2 ((od _).1 e)
      ·rw [d1 j h,m1 j h];rcases b3 with b3 | ⟨b3,b4⟩
       ·exact .inl b3
       ·refine .inr ⟨b3,?_⟩;by_cases hM:(a.aI j).aj=L
        ·rw [hM] at b4 ⊢;exact w2 j _ h b4
        ·rw [w1 _ hM];exact b4
     ·exact .inr (.inl (by rw [d1 j h];exact(od _).2 b))
     ·refine .inr (.inr ⟨by rw [d1 j h];exact b1,?_,by rw [m1 j h,d1 j h];exact b3⟩);rw [d1 j h];exact λe=> b2 ((od _).1 e)
 ·by_cases h:L'=L
  ·rw [h];exact nw
  ·obtain⟨b1,b2⟩:=I.ws L';refine⟨by rw [w1 L' h];exact b1,λw hw=> ?_⟩;rw [w1 L' h] at hw;have hne:w.1≠i:=λe=> h7 L' h w.2 (by rw [<-e];exact hw);rw [d1 _ hne,m1 _ hne];exact b2 w hw
 ·by_cases h:L'=L
  ·rw [h];exact nv
  ·rw [v1 L' h];exact I.val L' h0 h1
 ·by_cases hM:L'=L
  ·rw [hM] at h;exact absurd hL h
  ·rw [o1 L' hM];exact I.out L' h
theorem nM.only(I:nM c a)(hi:0<=i)(L':Int)(h:a.own L'=i):(a.aI i).aj=L'/\(a.aI i).step≠0:=by
 by_cases hL:0<=L'/\L' < c.bn
 ·obtain⟨h1,h2⟩:=I.holder hL h hi;exact⟨h1,h2.Nu⟩
 ·have:=I.out L' hL;omega
theorem nM.aiS(I:nM c a)(hi:0<=i)(h:(a.aI i).aj=L∨(a.aI i).step=0):∀L',L'≠L->a.own L'≠i:=λL' hne e=> by
 obtain⟨h1,h2⟩:=I.only hi L' e;rcases h with h | h
 ·exact hne (h1.symm.trans h)
 ·exact h2 h
theorem nM.ws7(I:nM c a)(h:(a.aI i).aj=L∨(a.aI i).step=0):∀L',L'≠L->∀k,(i,k)∉a.ws L':=λL' hne k hk=> by
 obtain⟨_,_,_,h4,_,h6⟩:=(I.ws L').2 _ hk;rcases h with h | h
 ·exact hne (h4.symm.trans h)
 ·simp only at h6;omega
theorem anQ.same(W:anQ c a L)(hw:a'.ws L=a.ws L)(h:∀k,(i,k)∉a.ws L)(d1:∀j,j≠i->a'.aI j=a.aI j)(m1:∀j,j≠i->a'.msg j=a.msg j):anQ c a' L:=by
 obtain⟨b1,b2⟩:=W;refine⟨by rw [hw];exact b1,λw hx=> ?_⟩;rw [hw] at hx;have hne:w.1≠i:=λe=> h w.2 (by rw [<-e];exact hx);rw [d1 _ hne,m1 _ hne];exact b2 w hx
theorem nM.QE(I:nM c a)(h:a.msg i≠.wait):∀L k,(i,k)∉a.ws L:=λL k hk=> h ((I.ws L).2 _ hk).2.2.1
def dK {α:Type}(f:Int->α)(i:Int)(x:α):Int->α:=λj=> if j=i then x else f j
theorem aK {α:Type}{f:Int->α}{i:Int}{x:α}:dK f i x i=x:=by simp [dK]
theorem aS {α:Type}{f:Int->α}{i j:Int}{x:α}(h:j≠i):dK f i x j=f j:=by simp [dK,h]
theorem nM.begin_(I:nM c a)(hi:0<=i/\i < c.aG)(h0:(a.aI i).step=0){k id:Int}(hk:1<=k/\k<=3)(hid:0<=id/\id < 4096)(hL:0<=L/\L < c.bn)(hm:k=1->a.ent L i=none):
  nM c { a with aI:=dK a.aI i (.begin k L id),msg:=dK a.msg i (.req ((bJ.begin k L id).ask i (c.bf L))) }:=by
 have hown:∀L',a.own L'≠i:=λL' e=> (I.only hi.1 L' e).2 h0;have anR:a.msg i≠.wait:=λe=> by
  rcases I.bG i hi.1 hi.2 with⟨_,h⟩ | O
  ·rw [h] at e;cases e
  ·exact O.step h0
 have hws:=I.QE anR;refine I.upd i L hi.1 (λ_ _=> rfl) (λ_ _=> rfl) (λ_ _=> rfl) (λ_ _=> rfl) (λ_ _=> rfl) (λj hj=> aS hj) (λj hj=> aS hj) (λ_ _ h=> h) (λ_ _ _=> Iff.rfl) (λ_ _ _ h=> h) (λL' _=> hown L') (λL' _=> hws L') hL ?_ ?_ ?_ (I.val L hL.1 hL.2)
 ·rcases I.aj L hL.1 hL.2 with h | ⟨b1,b2,b3,b4⟩
  ·exact .inl h
  ·refine .inr ⟨b1,b2,?_,?_⟩
   ·show(dK a.aI i _ (a.own L)).aj=L;rw [aS (hown L)];exact b3
   ·unfold Abs.holds at b4 ⊢;show Hold _ _ _ _ _ _ (dK a.aI i _ (a.own L)) (dK a.msg i _ (a.own L));rw [aS (hown L),aS (hown L)];exact b4
 ·have hd:dK a.aI i (.begin k L id) i=bJ.begin k L id:=aK;refine .inr ⟨?_,?_,?_,by show 0<=(dK a.aI i _ i).id/\(dK a.aI i _ i).id < 4096;rw [hd];exact hid,?_,.inl ⟨?_,?_,.inl ?_⟩⟩
  ·show(dK a.aI i _ i).step≠0;rw [hd];show(1:Int)≠0;decide
  ·show 0<=(dK a.aI i _ i).aj/\(dK a.aI i _ i).aj < c.bn;rw [hd];exact hL
  ·show 1<=(dK a.aI i _ i).aO/\(dK a.aI i _ i).aO<=3;rw [hd];exact hk
  ·show(dK a.aI i _ i).aO=1->(dK a.aI i _ i).step=1∨(dK a.aI i _ i).step=2->a.ent (dK a.aI i _ i).aj i=none;rw [hd];exact λh _=> hm h
  ·show(dK a.aI i _ i).step=1;rw [hd];rfl
  ·show a.own (dK a.aI i _ i).aj≠i;exact hown _
  ·show dK a.msg i _ i=.req ((dK a.aI i _ i).ask i (c.bf (dK a.aI i _ i).aj));rw [hd,aK];rfl
 ·exact(I.ws L).same (i:=i) rfl (hws L) (λj hj=> aS hj) (λj hj=> aS hj)
theorem kQ {d:bJ}{hm:Int}(h:1<=d.step/\d.step<=6):(d.ask i hm).aO=zD d.step/\(d.ask i hm).src=i/\(d.ask i hm).id=d.id/\(d.ask i hm).aj=d.aj:=by
 have:d.step=1∨d.step=2∨d.step=3∨d.step=4∨d.step=5∨d.step=6:=by omega
 unfold bJ.ask zD;rcases this with h | h | h | h | h | h <;> simp [h]
theorem Hold.req {N hm:Int}{E:vg}{r:Row}{v:List Int}{d:bJ}{p:Pkt}(h:Hold N hm E r v i d (.req p)):p=d.ask i hm/\2<=d.step/\d.step<=6:=by
 cases h <;> exact⟨rfl,by omega,by omega⟩
theorem Hold.ans {N hm:Int}{E:vg}{r:Row}{v:List Int}{d:bJ}{p:Pkt}(h:Hold N hm E r v i d (.ans p)):p.dst=i/\p.id=d.id/\p.aj=d.aj/\p.aO=BI (zD d.step)/\1<=d.step/\d.step<=5:=by
 cases h
 all_goals (rename_i hs;first | skip)
 all_goals (refine⟨rfl,rfl,rfl,?_,by omega,by omega⟩;simp [*,zD,BI])
theorem Hold.unl {N hm:Int}{E:vg}{r:Row}{v:List Int}{d:bJ}{p:Pkt}(h:Hold N hm E r v i d (.req p))(h6:d.step=6):∃l,Wf N E (iO r d) v l:=by
 cases h
 all_goals first | (exfalso;omega) | exact⟨_,by assumption⟩
theorem nM.req(I:nM c a)(hi:0<=i/\i < c.aG){p:Pkt}(hp:a.msg i=.req p):
  aiR c a i/\p=(a.aI i).ask i (c.bf p.aj)/\(a.aI i).aj=p.aj/\(1<=(a.aI i).step/\(a.aI i).step<=6)/\
  (((a.aI i).step=1/\a.own p.aj≠i)∨(2<=(a.aI i).step/\a.own p.aj=i/\Hold c.aG (c.bf p.aj) (a.ent p.aj) (a.row p.aj) (a.val p.aj) i (a.aI i) (.req p))):=by
 rcases I.bG i hi.1 hi.2 with⟨_,h⟩ | O
 ·rw [h] at hp;cases hp
 ·rcases O.at_ with⟨b1,b2,b3⟩ | b | ⟨_,_,b3⟩
  ·rcases b3 with b3 | ⟨b3,_⟩
   ·rw [b3] at hp;have hp:=(Out.req.inj hp).symm;have hl:p.aj=(a.aI i).aj:=by rw [hp];exact(kQ (by omega)).2.2.2
    rw [hl];exact⟨O,hp,rfl,by omega,.inl ⟨b1,b2⟩⟩
   ·rw [b3] at hp;cases hp
  ·obtain⟨_,H⟩:=I.holder O.aj b hi.1;rw [hp] at H;obtain⟨h1,h2,h3⟩:=H.req;have hl:p.aj=(a.aI i).aj:=by rw [h1];exact(kQ (by omega)).2.2.2
   rw [hl];exact⟨O,h1,rfl,by omega,.inr ⟨h2,b,H⟩⟩
  ·rw [b3] at hp;cases hp
theorem nM.lock(I:nM c a)(hi:0<=i/\i < c.aG){p:Pkt}(hp:a.msg i=.req p)(hk:p.aO=1)(hf:a.own p.aj=-1):
  nM c { a with own:=dK a.own p.aj i,msg:=dK a.msg i (.ans ⟨7,c.bf p.aj,i,p.id,p.aj,(a.row p.aj).head,(a.row p.aj).aQ,false,(a.row p.aj).data⟩) }:=by
 obtain⟨O,h1,h2,h3,h4⟩:=I.req hi hp;have hpk:p.aO=zD (a.aI i).step:=by rw [h1];exact(kQ h3).1
 have hpi:p.id=(a.aI i).id:=by rw [h1];exact(kQ h3).2.2.1
 have hst:(a.aI i).step=1:=by
  rcases h4 with h | ⟨h,h',_⟩
  ·exact h.1
  ·omega
 have hL:=O.aj;rw [h2] at hL;have hws:=I.QE (i:=i) (by rw [hp];exact λe=> by cases e);have hms:dK a.msg i (.ans ⟨7,c.bf p.aj,i,p.id,p.aj,(a.row p.aj).head,(a.row p.aj).aQ,false,(a.row p.aj).data⟩) i=.ans ⟨7,c.bf p.aj,i,p.id,p.aj,(a.row p.aj).head,(a.row p.aj).aQ,false,(a.row p.aj).data⟩:=aK;refine I.upd i p.aj hi.1 (λ_ _=> rfl) (λ_ _=> rfl) (λ_ h=> aS h) (λ_ _=> rfl) (λ_ _=> rfl) (λ_ _=> rfl) (λj hj=> aS hj) (λ_ _ h=> h) (λj h0 hj=> ?_) (λ_ _ _ h=> h) (I.aiS hi.1 (.inl h2)) (λL' _=> hws L') hL ?_ ?_ ?_ (I.val _ hL.1 hL.2)
 ·show dK a.own p.aj i p.aj=j↔_;rw [aK,hf];exact⟨λe=> absurd e.symm hj,λe=> by omega⟩
 ·have ho:dK a.own p.aj i p.aj=i:=aK;refine .inr ?_;show 0<=dK a.own p.aj i p.aj/\dK a.own p.aj i p.aj < c.aG/\(a.aI (dK a.own p.aj i p.aj)).aj=p.aj/\Hold _ _ _ _ _ (dK a.own p.aj i p.aj) (a.aI (dK a.own p.aj i p.aj)) (dK a.msg i _ (dK a.own p.aj i p.aj));rw [ho,hms];refine⟨hi.1,hi.2,h2,?_⟩;rcases I.aj p.aj hL.1 hL.2 with⟨_,l,W⟩ | ⟨b1,_⟩
  ·have:=Hold.granted (hm:=c.bf p.aj) (i:=i) (d:=a.aI i) hst W;rw [h2] at this;rw [hpi];exact this
  ·omega
 ·refine .inr ⟨O.step,O.aj,O.aO,O.idr,O.miss,.inr (.inl ?_)⟩;show dK a.own p.aj i (a.aI i).aj=i;rw [h2,aK]
 ·exact(I.ws _).same (i:=i) rfl (hws _) (λ_ _=> rfl) (λj hj=> aS hj)
theorem nM.wait(I:nM c a)(hi:0<=i/\i < c.aG){p:Pkt}(hp:a.msg i=.req p)(hk:p.aO=1):
  nM c { a with ws:=dK a.ws p.aj (a.ws p.aj++[(i,p.id)]),msg:=dK a.msg i .wait }:=by
 obtain⟨O,h1,h2,h3,h4⟩:=I.req hi hp;have hpk:p.aO=zD (a.aI i).step:=by rw [h1];exact(kQ h3).1
 have hpi:p.id=(a.aI i).id:=by rw [h1];exact(kQ h3).2.2.1
 have hst:(a.aI i).step=1/\a.own p.aj≠i:=by
  rcases h4 with h | ⟨h,_,h'⟩
  ·exact h
  ·exfalso;have:(a.aI i).step=2∨(a.aI i).step=3∨(a.aI i).step=4∨(a.aI i).step=5∨(a.aI i).step=6:=by omega
   rw [hk] at hpk;rcases this with h | h | h | h | h <;> simp [h,zD] at hpk
 have hL:=O.aj;rw [h2] at hL;have hws:=I.QE (i:=i) (by rw [hp];exact λe=> by cases e);refine I.upd i p.aj hi.1 (λ_ _=> rfl) (λ_ _=> rfl) (λ_ _=> rfl) (λ_ h=> aS h) (λ_ _=> rfl) (λ_ _=> rfl) (λj hj=> aS hj) (λ_ _ h=> h) (λj h0 hj=> Iff.rfl) (λj k hj h=> ?_) (I.aiS hi.1 (.inl h2)) (λL' _=> hws L') hL ?_ ?_ ?_ (I.val _ hL.1 hL.2)
 ·show(j,k)∈dK a.ws p.aj _ p.aj;rw [aK];exact zcR _ h
 ·rcases I.aj p.aj hL.1 hL.2 with h | ⟨b1,b2,b3,b4⟩
  ·exact .inl h
  ·refine .inr ⟨b1,b2,b3,?_⟩;unfold Abs.holds at b4 ⊢;show Hold _ _ _ _ _ _ _ (dK a.msg i _ (a.own p.aj));rw [aS hst.2];exact b4
 ·refine .inr ⟨O.step,O.aj,O.aO,O.idr,O.miss,.inl ⟨hst.1,?_,.inr ⟨aK,?_⟩⟩⟩
  ·show a.own (a.aI i).aj≠i;rw [h2];exact hst.2
  ·show(i,(a.aI i).id)∈dK a.ws p.aj _ (a.aI i).aj;rw [h2,aK,hpi];simp
 ·obtain⟨b1,b2⟩:=I.ws p.aj;have hw:dK a.ws p.aj (a.ws p.aj++[(i,p.id)]) p.aj=a.ws p.aj++[(i,p.id)]:=aK;refine⟨?_,λw hx=> ?_⟩
  ·show((dK a.ws p.aj _ p.aj).map (·.1)).Nodup;rw [hw,zbj,zbQ];refine⟨b1,by simp,λx hx y hy=> ?_⟩;simp only [zaw,zbC,zaj,zay,or_false] at hy;obtain⟨w,hw1,rfl⟩:=zaH.1 hx;rw [hy];exact λe=> hws p.aj w.2 (by rw [<-e];exact hw1)
  ·replace hx:w∈dK a.ws p.aj (a.ws p.aj++[(i,p.id)]) p.aj:=hx
   rw [hw] at hx;show 0<=w.1/\w.1 < c.aG/\dK a.msg i .wait w.1=.wait/\(a.aI w.1).aj=p.aj/\(a.aI w.1).id=w.2/\(a.aI w.1).step=1;rcases zaO.1 hx with hx | hx
   ·have hne:w.1≠i:=λe=> hws p.aj w.2 (by rw [<-e];exact hx);rw [aS hne];exact b2 w hx
   ·simp only [zaj,zay,or_false] at hx;subst hx;exact⟨hi.1,hi.2,aK,h2,hpi.symm,hst.1⟩
theorem nM.grant(I:nM c a)(hL:0<=L/\L < c.bn)(hf:a.own L=-1){w:Int × Int}{ws:List (Int × Int)}(hw:a.ws L=w::ws):
  (0<=w.1/\w.1 < c.aG)/\a.msg w.1=.wait/\
  nM c { a with own:=dK a.own L w.1,ws:=dK a.ws L ws,msg:=dK a.msg w.1 (.ans ⟨7,c.bf L,w.1,w.2,L,(a.row L).head,(a.row L).aQ,false,(a.row L).data⟩) }:=by
 obtain⟨b1,b2⟩:=I.ws L;obtain⟨hi0,hi1,hmw,hdl,hid,hst⟩:=b2 w (by rw [hw];simp);rw [hw] at b1;simp only [zaw,zaY] at b1;have nws:∀k,(w.1,k)∉ws:=λk hk=> b1.1 (zaH.2 ⟨_,hk,rfl⟩);refine⟨⟨hi0,hi1⟩,hmw,?_⟩;have O:aiR c a w.1:=by
  rcases I.bG w.1 hi0 hi1 with⟨h,_⟩ | O
  ·omega
  ·exact O
 refine I.upd w.1 L hi0 (λ_ _=> rfl) (λ_ _=> rfl) (λ_ h=> aS h) (λ_ h=> aS h) (λ_ _=> rfl) (λ_ _=> rfl) (λj hj=> aS hj) (λ_ _ h=> h) (λj h0 hj=> ?_) (λj k hj h=> ?_) (I.aiS hi0 (.inl hdl)) (I.ws7 (.inl hdl)) hL ?_ ?_ ?_ (I.val _ hL.1 hL.2)
 ·show dK a.own L w.1 L=j↔_;rw [aK,hf];exact⟨λe=> absurd e.symm hj,λe=> by omega⟩
 ·show(j,k)∈dK a.ws L ws L;rw [aK];rw [hw] at h;rcases zaj.1 h with h | h
  ·exact absurd (congrArg Prod.fst h) hj
  ·exact h
 ·have ho:dK a.own L w.1 L=w.1:=aK;refine .inr ?_;show 0<=dK a.own L w.1 L/\dK a.own L w.1 L < c.aG/\(a.aI (dK a.own L w.1 L)).aj=L/\Hold _ _ _ _ _ (dK a.own L w.1 L) (a.aI (dK a.own L w.1 L)) (dK a.msg w.1 _ (dK a.own L w.1 L));rw [ho,aK];refine⟨hi0,hi1,hdl,?_⟩;rcases I.aj L hL.1 hL.2 with⟨_,l,W⟩ | ⟨b1,_⟩
  ·have:=Hold.granted (hm:=c.bf L) (i:=w.1) (d:=a.aI w.1) hst W;rw [hdl,hid] at this;exact this
  ·omega
 ·refine .inr ⟨O.step,O.aj,O.aO,O.idr,O.miss,.inr (.inl ?_)⟩;show dK a.own L w.1 (a.aI w.1).aj=w.1;rw [hdl,aK]
 ·have hw':dK a.ws L ws L=ws:=aK;refine⟨?_,λx hx=> ?_⟩
  ·show((dK a.ws L ws L).map (·.1)).Nodup;rw [hw'];exact b1.2
  ·replace hx:x∈dK a.ws L ws L:=hx
   rw [hw'] at hx;have hne:x.1≠w.1:=λe=> nws x.2 (by rw [<-e];exact hx);show 0<=x.1/\x.1 < c.aG/\dK a.msg w.1 _ x.1=.wait/\_;rw [aS hne];exact b2 x (by rw [hw];simp [hx])
theorem nM.unlock(I:nM c a)(hi:0<=i/\i < c.aG){p:Pkt}(hp:a.msg i=.req p)(hk:p.aO=2):
  a.own p.aj=i/\(p.aQ=0∨p.aQ=1∨p.aQ=2)/\(∃l,Wf c.aG (a.ent p.aj) (iO (a.row p.aj) (a.aI i)) (a.val p.aj) l)/\p=(a.aI i).ask i (c.bf p.aj)/\(a.aI i).step=6/\
  nM c { a with row:=dK a.row p.aj (iO (a.row p.aj) (a.aI i)),own:=dK a.own p.aj (-1),msg:=dK a.msg i (.ans ⟨8,c.bf p.aj,i,p.id,p.aj,0,0,false,[]⟩) }:=by
 obtain⟨O,h1,h2,h3,h4⟩:=I.req hi hp;have hpk:p.aO=zD (a.aI i).step:=by rw [h1];exact(kQ h3).1
 have hpi:p.id=(a.aI i).id:=by rw [h1];exact(kQ h3).2.2.1
 have hst:(a.aI i).step=6:=by
  have:(a.aI i).step=1∨(a.aI i).step=2∨(a.aI i).step=3∨(a.aI i).step=4∨(a.aI i).step=5∨(a.aI i).step=6:=by omega
  rw [hk] at hpk;rcases this with h | h | h | h | h | h
  all_goals first | exact h | (exfalso;simp [h,zD] at hpk)
 have hh:a.own p.aj=i/\Hold c.aG (c.bf p.aj) (a.ent p.aj) (a.row p.aj) (a.val p.aj) i (a.aI i) (.req p):=by
  rcases h4 with⟨h,_⟩ | ⟨_,h,h'⟩
  ·omega
  ·exact⟨h,h'⟩
 obtain⟨ho,H⟩:=hh;have hW:∃l,Wf c.aG (a.ent p.aj) (iO (a.row p.aj) (a.aI i)) (a.val p.aj) l:=by
  exact H.unl hst
 obtain⟨l,W⟩:=hW;have hps:p.aQ=(a.aI i).aQ:=by rw [h1];unfold bJ.ask;simp [hst]
 have hL:=O.aj;rw [h2] at hL;have hws:=I.QE (i:=i) (by rw [hp];exact λe=> by cases e);refine⟨ho,by rw [hps];exact W.st,⟨l,W⟩,h1,hst,?_⟩;refine I.upd i p.aj hi.1 (λ_ _=> rfl) (λ_ h=> aS h) (λ_ h=> aS h) (λ_ _=> rfl) (λ_ _=> rfl) (λ_ _=> rfl) (λj hj=> aS hj) (λ_ _ h=> h) (λj h0 hj=> ?_) (λ_ _ _ h=> h) (I.aiS hi.1 (.inl h2)) (λL' _=> hws L') hL ?_ ?_ ?_ (I.val _ hL.1 hL.2)
 ·show dK a.own p.aj (-1) p.aj=j↔_;rw [aK,ho];exact⟨λe=> by omega,λe=> absurd e.symm hj⟩
 ·refine .inl ⟨aK,l,?_⟩;show Wf _ _ (dK a.row p.aj _ p.aj) _ _;rw [aK];exact W
 ·refine .inr ⟨O.step,O.aj,O.aO,O.idr,O.miss,.inr (.inr ⟨hst,?_,?_⟩)⟩
  ·show dK a.own p.aj (-1) (a.aI i).aj≠i;rw [h2,aK];omega
  ·show dK a.msg i _ i=.ans (adZ c (a.aI i) i);rw [aK,adZ,h2,hpi]
 ·exact(I.ws _).same (i:=i) rfl (hws _) (λ_ _=> rfl) (λj hj=> aS hj)
theorem nM.served(I:nM c a)(hi:0<=i/\i < c.aG)(hL:0<=L/\L < c.bn)(ho:a.own L=i){E:vg}{q:Pkt}(hE:∀j,a.ent L j=none->E j=none)(H:Hold c.aG (c.bf L) E (a.row L) (a.val L) i (a.aI i) (.ans q))(hm:a.msg i≠.wait):
  nM c { a with ent:=dK a.ent L E,msg:=dK a.msg i (.ans q) }:=by
 obtain⟨h2,H0⟩:=I.holder hL ho hi.1;have O:aiR c a i:=by
  rcases I.bG i hi.1 hi.2 with⟨h,_⟩ | O
  ·exact absurd h H0.Nu
  ·exact O
 have hws:=I.QE hm;refine I.upd i L hi.1 (λ_ h=> aS h) (λ_ _=> rfl) (λ_ _=> rfl) (λ_ _=> rfl) (λ_ _=> rfl) (λ_ _=> rfl) (λj hj=> aS hj) (λj _ h=> ?_) (λj h0 hj=> Iff.rfl) (λ_ _ _ h=> h) (I.aiS hi.1 (.inl h2)) (λL' _=> hws L') hL ?_ ?_ ?_ (I.val _ hL.1 hL.2)
 ·show dK a.ent L E L j=none;rw [aK];exact hE j h
 ·refine .inr ?_;show 0<=a.own L/\a.own L < c.aG/\(a.aI (a.own L)).aj=L/\Hold _ _ (dK a.ent L E L) _ _ (a.own L) (a.aI (a.own L)) (dK a.msg i _ (a.own L));rw [ho,aK,aK];exact⟨hi.1,hi.2,h2,H⟩
 ·refine .inr ⟨O.step,O.aj,O.aO,O.idr,λh h'=> ?_,.inr (.inl ?_)⟩
  ·show dK a.ent L E (a.aI i).aj i=none;have:=O.miss h h';rw [h2] at this ⊢;rw [aK];exact hE i this
  ·show a.own (a.aI i).aj=i;rw [h2];exact ho
 ·exact(I.ws _).same (i:=i) rfl (hws _) (λ_ _=> rfl) (λj hj=> aS hj)
theorem nM.goes(I:nM c a)(hi:0<=i/\i < c.aG)(hL:0<=L/\L < c.bn)(ho:a.own L=i)(hm:a.msg i≠.wait){x:Option Ent}{v:List Int}{d:bJ}(hv:v≠[])(hd:d.aj=L)(hk:d.aO=(a.aI i).aO)(hid:d.id=(a.aI i).id)(hmiss:d.aO=1->d.step=1∨d.step=2->x=none)
  (H:Hold c.aG (c.bf L) (nK (a.ent L) i x) (a.row L) v i d (.req (d.ask i (c.bf L)))):
  nM c { a with ent:=dK a.ent L (nK (a.ent L) i x),val:=dK a.val L v,aI:=dK a.aI i d,msg:=dK a.msg i (.req (d.ask i (c.bf L))) }:=by
 obtain⟨h2,H0⟩:=I.holder hL ho hi.1;have O:aiR c a i:=by
  rcases I.bG i hi.1 hi.2 with⟨h,_⟩ | O
  ·exact absurd h H0.Nu
  ·exact O
 have hws:=I.QE hm;refine I.upd i L hi.1 (λ_ h=> aS h) (λ_ _=> rfl) (λ_ _=> rfl) (λ_ _=> rfl) (λ_ h=> aS h) (λj hj=> aS hj) (λj hj=> aS hj) (λj hj h=> ?_) (λj h0 hj=> Iff.rfl) (λ_ _ _ h=> h) (I.aiS hi.1 (.inl h2)) (λL' _=> hws L') hL ?_ ?_ ?_ ?_
 ·show dK a.ent L _ L j=none;rw [aK,eX hj];exact h
 ·refine .inr ?_;show 0<=a.own L/\a.own L < c.aG/\(dK a.aI i d (a.own L)).aj=L/\Hold _ _ (dK a.ent L _ L) _ (dK a.val L v L) (a.own L) (dK a.aI i d (a.own L)) (dK a.msg i _ (a.own L));rw [ho,aK,aK,aK,aK];exact⟨hi.1,hi.2,hd,H⟩
 ·have hd':dK a.aI i d i=d:=aK;refine .inr ⟨?_,?_,?_,by show 0<=(dK a.aI i d i).id/\(dK a.aI i d i).id < 4096;rw [hd',hid];exact O.idr,?_,.inr (.inl ?_)⟩
  ·show(dK a.aI i d i).step≠0;rw [hd'];exact H.Nu
  ·show 0<=(dK a.aI i d i).aj/\(dK a.aI i d i).aj < c.bn;rw [hd',hd];exact hL
  ·show 1<=(dK a.aI i d i).aO/\(dK a.aI i d i).aO<=3;rw [hd',hk];exact O.aO
  ·show(dK a.aI i d i).aO=1->_->dK a.ent L _ (dK a.aI i d i).aj i=none;rw [hd',hd,aK,fK];intro h h';refine hmiss h ?_;have h'':(dK a.aI i d i).step=1∨(dK a.aI i d i).step=2:=h';rw [hd'] at h'';exact h''
  ·show a.own (dK a.aI i d i).aj=i;rw [hd',hd];exact ho
 ·exact(I.ws _).same (i:=i) rfl (hws _) (λj hj=> aS hj) (λj hj=> aS hj)
 ·show dK a.val L v L≠[];rw [aK];exact hv
theorem nM.over(I:nM c a)(hi:0<=i/\i < c.aG)(F:apV c a i){d:bJ}(hd:d.step=0):nM c { a with aI:=dK a.aI i d,msg:=dK a.msg i .idle }:=by
 obtain⟨f1,f2,f3⟩:=F;have O:aiR c a i:=by
  rcases I.bG i hi.1 hi.2 with⟨h,_⟩ | O
  ·omega
  ·exact O
 have hws:=I.QE (i:=i) (by rw [f3];exact λe=> by cases e);have hL:=O.aj;refine I.upd i (a.aI i).aj hi.1 (λ_ _=> rfl) (λ_ _=> rfl) (λ_ _=> rfl) (λ_ _=> rfl) (λ_ _=> rfl) (λj hj=> aS hj) (λj hj=> aS hj) (λ_ _ h=> h) (λj h0 hj=> Iff.rfl) (λ_ _ _ h=> h) (I.aiS hi.1 (.inl rfl)) (λL' _=> hws L') hL ?_ ?_ ?_ (I.val _ hL.1 hL.2)
 ·rcases I.aj _ hL.1 hL.2 with h | ⟨b1,b2,b3,b4⟩
  ·exact .inl h
  ·refine .inr ?_;show 0<=a.own (a.aI i).aj/\a.own (a.aI i).aj < c.aG/\(dK a.aI i d (a.own (a.aI i).aj)).aj=(a.aI i).aj/\Hold _ _ _ _ _ _ (dK a.aI i d (a.own (a.aI i).aj)) (dK a.msg i _ (a.own (a.aI i).aj));rw [aS f2,aS f2];exact⟨b1,b2,b3,b4⟩
 ·refine .inl ⟨?_,aK⟩;show(dK a.aI i d i).step=0;rw [aK];exact hd
 ·exact(I.ws _).same (i:=i) rfl (hws _) (λj hj=> aS hj) (λj hj=> aS hj)
theorem Wf.touch {N:Int}{E:vg}{r:Row}{v v':List Int}{l:List Int}(W:Wf N E r v l){e e':Ent}(he:E i=some e)(hb:e'.back=e.back)(hf:e'.fwd=e.fwd)(hd:e'.bZ=e.bZ)(hv:(e'.data=e.data/\v'=v)∨(e.bZ=true/\e'.data=v')):Wf N (nK E i (some e')) r v' l:=by
 have ch:Chn (nK E i (some e')) (-1) l (-1):=by
  have key:∀(l:List Int) (b x:Int),Chn E b l x->Chn (nK E i (some e')) b l x:=by
   intro l
   induction l with
   | nil=> intro b x _;trivial
   | cons j l ih=>
    intro b x h;obtain⟨⟨e0,h1,h2,h3⟩,hc⟩:=h;refine⟨?_,ih j x hc⟩;by_cases hj:j=i
    ·subst hj;rw [he] at h1;cases h1;exact⟨e',fK,by rw [hb,h2],by rw [hf,h3]⟩
    ·exact⟨e0,by rw [eX hj];exact h1,h2,h3⟩
  exact key l _ _ W.ch
 refine⟨W.rng,ch,λj x hj=> ?_,W.head,W.st,W.st0,W.st2,λj x hj=> ?_,λj x hj=> ?_,λh2=> ?_⟩
 ·rcases jv hj with⟨h,_⟩ | ⟨_,h⟩
  ·rw [h];exact W.mem i e he
  ·exact W.mem j x h
 ·rcases jv hj with⟨h,h'⟩ | ⟨_,h⟩
  ·cases h';rw [hd];exact W.bZ i e he
  ·exact W.bZ j x h
 ·rcases jv hj with⟨h,h'⟩ | ⟨hji,h⟩
  ·cases h';rcases hv with⟨a1,a2⟩ | ⟨_,a2⟩
   ·rw [a1,a2];exact W.data i e he
   ·exact a2
  ·rcases hv with⟨_,a2⟩ | ⟨a1,_⟩
   ·rw [a2];exact W.data j x h
   ·obtain⟨q,hq⟩:=W.st2 ((W.bZ i e he).1 a1);have h1:=W.mem i e he;have h2:=W.mem j x h;rw [hq] at h1 h2;simp only [zaj,zay,or_false] at h1 h2;exact absurd (h2.trans h1.symm) hji
 ·rcases hv with⟨_,a2⟩ | ⟨a1,_⟩
  ·rw [a2];exact W.DZ h2
  ·exact absurd ((W.bZ i e he).1 a1) h2
theorem Iu {E:vg}{e e':Ent}(he:E i=some e)(hf:e'.fwd=e.fwd):∀{l:List Int},FCh E l->FCh (nK E i (some e')) l
 | [],_=> trivial
 | j::l,⟨⟨e0,h1,h2⟩,hc⟩=> by
  refine⟨?_,Iu he hf hc⟩;by_cases hj:j=i
  ·subst hj;rw [he] at h1;cases h1;exact⟨e',fK,by rw [hf,h2]⟩
  ·exact⟨e0,by rw [eX hj];exact h1,h2⟩
theorem nD {E:vg}{e e':Ent}(he:E i=some e)(hb:e'.back=e.back)(hf:e'.fwd=e.fwd):∀{l:List Int} {b x:Int},Chn E b l x->Chn (nK E i (some e')) b l x
 | [],_,_,_=> trivial
 | j::l,b,x,⟨⟨e0,h1,h2,h3⟩,hc⟩=> by
  refine⟨?_,nD he hb hf hc⟩;by_cases hj:j=i
  ·subst hj;rw [he] at h1;cases h1;exact⟨e',fK,by rw [hb,h2],by rw [hf,h3]⟩
  ·exact⟨e0,by rw [eX hj];exact h1,h2,h3⟩
theorem Hold.touch {N hm:Int}{E:vg}{r:Row}{v v':List Int}{k:Int}{d:bJ}{o:Out}(H:Hold N hm E r v k d o)(hik:i≠k){e e':Ent}(he:E i=some e)(hb:e'.back=e.back)(hf:e'.fwd=e.fwd)(hd:e'.bZ=e.bZ)(hv:(e'.data=e.data/\v'=v)∨(e.bZ=true/\e'.data=v')):Hold N hm (nK E i (some e')) r v' k d o:=by
 have some_:∀j x,nK E i (some e') j=some x->∃y,E j=some y/\x.bZ=y.bZ:=λj x hj=> by
  rcases jv hj with⟨h,h'⟩ | ⟨_,h⟩
  ·cases h';rw [h];exact⟨e,he,hd⟩
  ·exact⟨x,h,rfl⟩
 -- where nothing is bZ the cO are as they were
 have clean:(∀j x,E j=some x->x.bZ=false)->(∀j x,E j=some x->x.data=v)->v'=v/\∀j x,nK E i (some e') j=some x->x.data=v:=λhc hdt=> by
  have h0:=hc i e he;rcases hv with⟨a1,a2⟩ | ⟨a1,_⟩
  ·refine⟨a2,λj x hj=> ?_⟩;rcases jv hj with⟨_,h'⟩ | ⟨_,h⟩
   ·cases h';rw [a1];exact hdt i e he
   ·exact hdt j x h
  ·rw [h0] at a1;cases a1
 have mid:∀{pre post:List Int},Mid N E r v k pre post->v'=v/\Mid N (nK E i (some e')) r v k pre post:=λM=> by
  obtain⟨c1,c2⟩:=clean M.bZ M.data;obtain⟨ek,hk⟩:=M.ent;refine⟨c1,M.rng,λj x hj=> ?_,⟨ek,by rw [eX hik.symm];exact hk⟩,M.head,M.st,λj x hj=> ?_,c2,M.DZ⟩
  ·obtain⟨y,hy,_⟩:=some_ j x hj;exact M.mem j y hy
  ·obtain⟨y,hy,h⟩:=some_ j x hj;rw [h];exact M.bZ j y hy
 cases H with
 | granted h1 W=> exact .granted h1 (W.touch he hb hf hd hv)
 | attach h1 h2 h3 h4 W=> exact .attach h1 h2 h3 h4 (W.touch he hb hf hd hv)
 | attached h1 h2 h3 h4 R C M D X F=>
  obtain⟨c1,c2⟩:=clean D X;subst c1;exact .attached h1 h2 h3 h4 R (nD he hb hf C) (λj x hj=> by obtain⟨y,hy,_⟩:=some_ j x hj;exact M j y hy) (λj x hj=> by obtain⟨y,hy,h⟩:=some_ j x hj;rw [h];exact D j y hy) c2 F
 | IL h1 h2 L h3 h4=>
  have anS:E k≠none->v'=v:=λhk=> by
   rcases hv with⟨_,a2⟩ | ⟨a1,_⟩
   ·exact a2
   ·exact absurd (L.only i e he a1 k hk) hik.symm
  refine .IL h1 h2 ⟨L.rng,Iu he hf L.ch,λj x hj=> ?_,λj x hj=> ?_,λj x hj hdj q hq=> ?_⟩ h3 λhk=> ?_
  ·obtain⟨y,hy,_⟩:=some_ j x hj;exact L.mem j y hy
  ·rcases jv hj with⟨_,h'⟩ | ⟨hji,h⟩
   ·cases h';rcases hv with⟨a1,a2⟩ | ⟨_,a2⟩
    ·rw [a1,a2];exact L.data i e he
    ·exact a2
   ·rcases hv with⟨_,a2⟩ | ⟨a1,_⟩
    ·rw [a2];exact L.data j x h
    ·exact absurd (L.only i e he a1 j (by rw [h];simp)) hji
  ·obtain⟨y,hy,hyd⟩:=some_ j x hj;refine L.only j y hy (by rw [<-hyd];exact hdj) q ?_;intro hq0;by_cases hqi:q=i
   ·rw [hqi,he] at hq0;cases hq0
   ·rw [eX hqi] at hq;exact hq hq0
  ·rw [eX hik.symm] at hk;rw [anS hk];exact h4 hk
 | Io h1 h2 L h3 h4=>
  obtain⟨c1,c2⟩:=clean h3 L.data;subst c1;refine .Io h1 h2 ⟨L.rng,Iu he hf L.ch,λj x hj=> ?_,c2,λj x hj hdj q hq=> ?_⟩ (λj x hj=> ?_) λhk=> ?_
  ·obtain⟨y,hy,_⟩:=some_ j x hj;exact L.mem j y hy
  ·obtain⟨y,hy,hyd⟩:=some_ j x hj;rw [hyd,h3 j y hy] at hdj;cases hdj
  ·obtain⟨y,hy,hyd⟩:=some_ j x hj;rw [hyd];exact h3 j y hy
  ·rw [eX hik.symm] at hk;exact h4 hk
 | front h1 h2 M h3 C h4 h5 h6=>
  obtain⟨c1,c2⟩:=mid M;subst c1;exact .front h1 h2 c2 h3 (nD he hb hf C) h4 h5 h6
 | yY h1 h2 M h3 C C' h4 h5 h6=>
  obtain⟨c1,c2⟩:=mid M;subst c1;exact .yY h1 h2 c2 h3 (nD he hb hf C) (nD he hb hf C') h4 h5 h6
 | behind h1 h2 M h3 C C' h4 h5 h6=>
  obtain⟨c1,c2⟩:=mid M;subst c1;exact .behind h1 h2 c2 h3 (nD he hb hf C) (nD he hb hf C') h4 h5 h6
 | vk h1 h2 M h3 C C' h4 h5 h6=>
  obtain⟨c1,c2⟩:=mid M;subst c1;exact .vk h1 h2 c2 h3 (nD he hb hf C) (nD he hb hf C') h4 h5 h6
 | unlock h1 W=> exact .unlock h1 (W.touch he hb hf hd hv)
theorem nM.hit(I:nM c a)(hi:0<=i/\i < c.aG)(h0:(a.aI i).step=0)(hL:0<=L/\L < c.bn){e e':Ent}{v':List Int}(he:a.ent L i=some e)(hb:e'.back=e.back)(hf:e'.fwd=e.fwd)(hd:e'.bZ=e.bZ)(hv:(e'.data=e.data/\v'=a.val L)∨(e.bZ=true/\e'.data=v'))(hn:v'≠[]):
  nM c { a with ent:=dK a.ent L (nK (a.ent L) i (some e')),val:=dK a.val L v' }:=by
 have hown:∀L',a.own L'≠i:=λL' e=> (I.only hi.1 L' e).2 h0;have hno:(a.aI i).step=0/\a.msg i=.idle:=by
  rcases I.bG i hi.1 hi.2 with h | O
  ·exact h
  ·exact absurd h0 O.step
 have hws:=I.QE (i:=i) (by rw [hno.2];exact λe=> by cases e);refine I.upd i L hi.1 (λ_ h=> aS h) (λ_ _=> rfl) (λ_ _=> rfl) (λ_ _=> rfl) (λ_ h=> aS h) (λ_ _=> rfl) (λ_ _=> rfl) (λj hj h=> ?_) (λ_ _ _=> Iff.rfl) (λ_ _ _ h=> h) (λL' _=> hown L') (λL' _=> hws L') hL ?_ (.inl hno) ?_ ?_
 ·show dK a.ent L _ L j=none;rw [aK,eX hj];exact h
 ·rcases I.aj L hL.1 hL.2 with⟨b1,l,W⟩ | ⟨b1,b2,b3,b4⟩
  ·refine .inl ⟨b1,l,?_⟩;show Wf _ (dK a.ent L _ L) _ (dK a.val L v' L) l;rw [aK,aK];exact W.touch he hb hf hd hv
  ·refine .inr ⟨b1,b2,b3,?_⟩;unfold Abs.holds at b4 ⊢;show Hold _ _ (dK a.ent L _ L) _ (dK a.val L v' L) _ _ _;rw [aK,aK];exact b4.touch (hown L).symm he hb hf hd hv
 ·exact(I.ws L).same (i:=i) rfl (hws L) (λ_ _=> rfl) (λ_ _=> rfl)
 ·show dK a.val L v' L≠[];rw [aK];exact hn
end
def wV(p:Port):List Pkt:=p.rq++p.rin
def wW(p:Port):List Pkt:=p.an++p.ain
def Bc(f:Fab):List Pkt:=f.l.flatMap wV
def Bf(f:Fab):List Pkt:=f.l.flatMap wW
structure Nv(msg:Int->Out)(k:Int)(q:Port):Prop where
 rq:∀p∈q.rq,p.src=k/\qK p.aO=true/\msg k=.req p
 rin:∀p∈q.rin,p.dst=k/\qK p.aO=true/\msg p.src=.req p
 an:∀p∈q.an,p.src=k/\qK p.aO=false/\msg p.dst=.ans p
 ain:∀p∈q.ain,p.dst=k/\qK p.aO=false/\msg k=.ans p
structure pz(f:Fab)(msg:Int->Out):Prop where
 port:∀(k:Nat) q,f.l[k]?=some q->Nv msg k q
 rn:((Bc f).map (·.src)).Nodup
 an:((Bf f).map (·.dst)).Nodup
 rc:∀i p,msg i=.req p->p∈Bc f
 ac:∀i p,msg i=.ans p->p∈Bf f
 src:∀i p,msg i=.req p->p.src=i
 dst:∀i p,msg i=.ans p->p.dst=i
 rg:∀i p,msg i=.req p∨msg i=.ans p->f.is i=true
theorem iZ {g:Port->List Pkt}{q q':Port}:∀{l:List Port} {k:Nat},l[k]?=some q->∀{x y:List Pkt},(x++g q').Perm (y++g q)->(x++(l.set k q').flatMap g).Perm (y++l.flatMap g)
 | [],k,h,_,_,_=> by simp at h
 | p::l,0,h,x,y,hp=> by
  simp only [zaP,zaa] at h;subst h;simp only [zb2,zaE,<-zbh];exact hp.append_right _
 | p::l,k+1,h,x,y,hp=> by
  simp only [zbb] at h;have ih:=iZ h hp;simp only [zb3,zaE];have c1:(x++(g p++(l.set k q').flatMap g)).Perm (g p++(x++(l.set k q').flatMap g)):=by
   rw [<-zbh,<-zbh];exact List.perm_append_comm.append_right _
  have c2:(g p++(y++l.flatMap g)).Perm (y++(g p++l.flatMap g)):=by
   rw [<-zbh,<-zbh];exact List.perm_append_comm.append_right _
  exact c1.trans ((ih.append_left _).trans c2)
theorem fM {f:Fab}{i:Int}(h:f.is i=true):f.l[i.toNat]?=some (f.port i):=by
 unfold Fab.is at h;simp only [zaf,decide_eq_true_eq] at h;unfold Fab.port;rw [zaF,zab (by omega),zar]
theorem sD {f:Fab}{i:Int}{q:Port}(h:f.is i=true){k:Nat}{q':Port}(hk:(f.put i q).l[k]?=some q'):(k=i.toNat/\q'=q)∨(k≠i.toNat/\f.l[k]?=some q'):=by
 simp only [Fab.put] at hk;by_cases e:i.toNat=k
 ·rw [e] at hk;have hlt:k < f.l.length:=by
   unfold Fab.is at h;simp only [zaf,decide_eq_true_eq] at h;omega
  rw [zbd hlt] at hk;exact .inl ⟨e.symm,(zaZ hk).symm⟩
 ·rw [zbm e] at hk;exact .inr ⟨λh=> e h.symm,hk⟩
theorem vw {f:Fab}{i:Int}(h:f.is i=true):((i.toNat:Nat):Int)=i:=by
 unfold Fab.is at h;simp only [zaf,decide_eq_true_eq] at h;omega
section
variable {f:Fab}{msg:Int->Out}{i:Int}{p:Pkt}
theorem pz.at_(R:pz f msg)(h:f.is i=true):Nv msg i (f.port i):=by
 have:=R.port _ _ (fM h);rw [vw h] at this;exact this
theorem AU {k:Nat}{q:Port}(h:f.l[k]?=some q)(hp:p∈q.rq∨p∈q.rin):p∈Bc f:=za9.2 ⟨q,zaq h,zaO.2 hp⟩
theorem AX {k:Nat}{q:Port}(h:f.l[k]?=some q)(hp:p∈q.an∨p∈q.ain):p∈Bf f:=za9.2 ⟨q,zaq h,zaO.2 hp⟩
theorem pz.req(R:pz f msg)(h:p∈Bc f):msg p.src=.req p:=by
 obtain⟨q,hq,hp⟩:=za9.1 h;obtain⟨k,hk⟩:=zcN.1 hq;rcases zaO.1 hp with hp | hp
 ·obtain⟨a,_,b⟩:=(R.port k q hk).rq p hp;rw [a];exact b
 ·exact((R.port k q hk).rin p hp).2.2
theorem pz.ans(R:pz f msg)(h:p∈Bf f):msg p.dst=.ans p:=by
 obtain⟨q,hq,hp⟩:=za9.1 h;obtain⟨k,hk⟩:=zcN.1 hq;rcases zaO.1 hp with hp | hp
 ·exact((R.port k q hk).an p hp).2.2
 ·obtain⟨a,_,b⟩:=(R.port k q hk).ain p hp;rw [a];exact b
theorem pz.anT(R:pz f msg)(h0:∀q,msg p.src≠.req q)(h1:∀q,msg p.src≠.ans q)(hok:p.ok=true)(hk:qK p.aO=true)(hs:f.is p.src=true)(hd:f.is p.dst=true)(ho:1<=f.out):
  (f.send p).2=0/\pz (f.send p).1 (dK msg p.src (.req p)):=by
 have P:=R.at_ hs;have he:(f.port p.src).rq=[]:=by
  cases e:(f.port p.src).rq with
  | nil=> rfl
  | cons q l=> exact absurd (P.rq q (by rw [e];simp)).2.2 (h0 q)
 have hsend:f.send p=(f.put p.src { f.port p.src with rq:=[p] },0):=by
  unfold Fab.send;simp only [hok,hs,hd,hk,Port.sort,Port.kC,if_true,he,zan,zaJ,zae,Bool.or_self,zah,if_false];rw [if_neg (by omega)]
 rw [hsend];refine⟨rfl,?_⟩;have pr:(Bc (f.put p.src { f.port p.src with rq:=[p] })).Perm (p::Bc f):=by
  have:=iZ (g:=wV) (fM hs) (q':={ f.port p.src with rq:=[p] }) (x:=[]) (y:=[p]) (by simp [wV,he])
  simpa [Bc,Fab.put] using this
 have pa:(Bf (f.put p.src { f.port p.src with rq:=[p] })).Perm (Bf f):=by
  have:=iZ (g:=wW) (fM hs) (q':={ f.port p.src with rq:=[p] }) (x:=[]) (y:=[]) (by simp [wW])
  simpa [Bf,Fab.put] using this
 have mne:∀j q,msg j=.req q∨msg j=.ans q->dK msg p.src (.req p) j=msg j:=λj q h=> aS λe=> by
  subst e;rcases h with h | h
  ·exact h0 q h
  ·exact h1 q h
 refine⟨λk q hk'=> ?_,?_,?_,λj q hj=> ?_,λj q hj=> ?_,λj q hj=> ?_,λj q hj=> ?_,λj q hj=> ?_⟩
 ·rcases sD hs hk' with⟨e,rfl⟩ | ⟨_,h⟩
  ·have e':(k:Int)=p.src:=by rw [e];exact vw hs
   rw [e'];refine⟨λq hq=> ?_,λq hq=> ?_,λq hq=> ?_,λq hq=> ?_⟩
   ·simp only [zaj,zay,or_false] at hq;subst hq;exact⟨rfl,hk,aK⟩
   ·obtain⟨a,b,c⟩:=P.rin q hq;exact⟨a,b,by rw [mne _ _ (.inl c)];exact c⟩
   ·obtain⟨a,b,c⟩:=P.an q hq;exact⟨a,b,by rw [mne _ _ (.inr c)];exact c⟩
   ·obtain⟨a,b,c⟩:=P.ain q hq;exact⟨a,b,by rw [mne _ _ (.inr c)];exact c⟩
  ·have Q:=R.port k q h;refine⟨λq hq=> ?_,λq hq=> ?_,λq hq=> ?_,λq hq=> ?_⟩
   ·obtain⟨a,b,c⟩:=Q.rq q hq;exact⟨a,b,by rw [mne _ _ (.inl c)];exact c⟩
   ·obtain⟨a,b,c⟩:=Q.rin q hq;exact⟨a,b,by rw [mne _ _ (.inl c)];exact c⟩
   ·obtain⟨a,b,c⟩:=Q.an q hq;exact⟨a,b,by rw [mne _ _ (.inr c)];exact c⟩
   ·obtain⟨a,b,c⟩:=Q.ain q hq;exact⟨a,b,by rw [mne _ _ (.inr c)];exact c⟩
 ·refine((pr.map _).nodup_iff).2 (zaY.2 ⟨λhm=> ?_,R.rn⟩);obtain⟨q,hq,e⟩:=zaH.1 hm;have:=R.req hq;simp only at e;rw [e] at this;exact h0 q this
 ·exact((pa.map _).nodup_iff).2 R.an
 ·by_cases e:j=p.src
  ·rw [e,aK] at hj;cases hj;exact pr.mem_iff.2 (by simp)
  ·rw [aS e] at hj;exact pr.mem_iff.2 (za5 _ (R.rc j q hj))
 ·by_cases e:j=p.src
  ·rw [e,aK] at hj;cases hj
  ·rw [aS e] at hj;exact pa.mem_iff.2 (R.ac j q hj)
 ·by_cases e:j=p.src
  ·rw [e,aK] at hj;cases hj;exact e.symm
  ·rw [aS e] at hj;exact R.src j q hj
 ·by_cases e:j=p.src
  ·rw [e,aK] at hj;cases hj
  ·rw [aS e] at hj;exact R.dst j q hj
 ·have hl:(f.put p.src { f.port p.src with rq:=[p] }).is j=f.is j:=by simp [Fab.is,Fab.put]
  rw [hl];by_cases e:j=p.src
  ·rw [e];exact hs
  ·rw [aS e] at hj;exact R.rg j q hj
theorem pz.XD(R:pz f msg)(h0:∀q,msg p.dst≠.req q)(h1:∀q,msg p.dst≠.ans q)(hok:p.ok=true)(hk:qK p.aO=false)(hs:f.is p.src=true)(hd:f.is p.dst=true)(ho:f.roomOf p.src false > 0):
  (f.send p).2=0/\pz (f.send p).1 (dK msg p.dst (.ans p)):=by
 have P:=R.at_ hs;have hsend:f.send p=(f.put p.src { f.port p.src with an:=(f.port p.src).an++[p] },0):=by
  unfold Fab.send;unfold Fab.roomOf at ho;rw [if_pos hs] at ho;simp only [Port.sort,zah,if_false] at ho;simp only [hok,hs,hd,hk,Port.sort,Port.kC,zae,Bool.or_self,zah,if_false];rw [if_neg (by omega)]
 rw [hsend];refine⟨rfl,?_⟩;have pa:(Bf (f.put p.src { f.port p.src with an:=(f.port p.src).an++[p] })).Perm (p::Bf f):=by
  have:=iZ (g:=wW) (fM hs) (q':={ f.port p.src with an:=(f.port p.src).an++[p] }) (x:=[]) (y:=[p]) (by
   simp only [wW,zaJ,zbh,zco];exact zdi)
  simpa [Bf,Fab.put] using this
 have pr:(Bc (f.put p.src { f.port p.src with an:=(f.port p.src).an++[p] })).Perm (Bc f):=by
  have:=iZ (g:=wV) (fM hs) (q':={ f.port p.src with an:=(f.port p.src).an++[p] }) (x:=[]) (y:=[]) (by simp [wV])
  simpa [Bc,Fab.put] using this
 have mne:∀j q,msg j=.req q∨msg j=.ans q->dK msg p.dst (.ans p) j=msg j:=λj q h=> aS λe=> by
  subst e;rcases h with h | h
  ·exact h0 q h
  ·exact h1 q h
 refine⟨λk q hk'=> ?_,?_,?_,λj q hj=> ?_,λj q hj=> ?_,λj q hj=> ?_,λj q hj=> ?_,λj q hj=> ?_⟩
 ·rcases sD hs hk' with⟨e,rfl⟩ | ⟨_,h⟩
  ·have e':(k:Int)=p.src:=by rw [e];exact vw hs
   rw [e'];refine⟨λq hq=> ?_,λq hq=> ?_,λq hq=> ?_,λq hq=> ?_⟩
   ·obtain⟨a,b,c⟩:=P.rq q hq;exact⟨a,b,by rw [mne _ _ (.inl c)];exact c⟩
   ·obtain⟨a,b,c⟩:=P.rin q hq;exact⟨a,b,by rw [mne _ _ (.inl c)];exact c⟩
   ·rcases zaO.1 hq with hq | hq
    ·obtain⟨a,b,c⟩:=P.an q hq;exact⟨a,b,by rw [mne _ _ (.inr c)];exact c⟩
    ·simp only [zaj,zay,or_false] at hq;subst hq;exact⟨rfl,hk,aK⟩
   ·obtain⟨a,b,c⟩:=P.ain q hq;exact⟨a,b,by rw [mne _ _ (.inr c)];exact c⟩
  ·have Q:=R.port k q h;refine⟨λq hq=> ?_,λq hq=> ?_,λq hq=> ?_,λq hq=> ?_⟩
   ·obtain⟨a,b,c⟩:=Q.rq q hq;exact⟨a,b,by rw [mne _ _ (.inl c)];exact c⟩
   ·obtain⟨a,b,c⟩:=Q.rin q hq;exact⟨a,b,by rw [mne _ _ (.inl c)];exact c⟩
   ·obtain⟨a,b,c⟩:=Q.an q hq;exact⟨a,b,by rw [mne _ _ (.inr c)];exact c⟩
   ·obtain⟨a,b,c⟩:=Q.ain q hq;exact⟨a,b,by rw [mne _ _ (.inr c)];exact c⟩
 ·exact((pr.map _).nodup_iff).2 R.rn
 ·refine((pa.map _).nodup_iff).2 (zaY.2 ⟨λhm=> ?_,R.an⟩);obtain⟨q,hq,e⟩:=zaH.1 hm;have:=R.ans hq;simp only at e;rw [e] at this;exact h1 q this
 ·by_cases e:j=p.dst
  ·rw [e,aK] at hj;cases hj
  ·rw [aS e] at hj;exact pr.mem_iff.2 (R.rc j q hj)
 ·by_cases e:j=p.dst
  ·rw [e,aK] at hj;cases hj;exact pa.mem_iff.2 (by simp)
  ·rw [aS e] at hj;exact pa.mem_iff.2 (za5 _ (R.ac j q hj))
 ·by_cases e:j=p.dst
  ·rw [e,aK] at hj;cases hj
  ·rw [aS e] at hj;exact R.src j q hj
 ·by_cases e:j=p.dst
  ·rw [e,aK] at hj;cases hj;exact e.symm
  ·rw [aS e] at hj;exact R.dst j q hj
 ·have hl:(f.put p.src { f.port p.src with an:=(f.port p.src).an++[p] }).is j=f.is j:=by simp [Fab.is,Fab.put]
  rw [hl];by_cases e:j=p.dst
  ·rw [e];exact hd
  ·rw [aS e] at hj;exact R.rg j q hj
theorem pz.takeA(R:pz f msg){f':Fab}(h:f.take i false=(f',some p)):f.is i=true/\p.dst=i/\qK p.aO=false/\msg i=.ans p/\pz f' (dK msg i .idle)/\f'.out=f.out/\f'.l.length=f.l.length:=by
 unfold Fab.take at h;split at h
 case isFalse=> cases h
 rename_i hs;split at h
 ·cases h
 rename_i p' l hl;simp only [zad,zaa] at h;obtain⟨rfl,rfl⟩:=h;simp only [Port.qL,zah,if_false] at hl;have P:=R.at_ hs;obtain⟨b1,b2,b3⟩:=P.ain p' (by rw [hl];simp);refine⟨hs,b1,b2,b3,?_,rfl,by simp [Fab.put]⟩;have hset:(f.port i).kM false l={ f.port i with ain:=l }:=by simp [Port.kM]
 rw [hset];have pa:(p'::Bf (f.put i { f.port i with ain:=l })).Perm (Bf f):=by
  have:=iZ (g:=wW) (fM hs) (q':={ f.port i with ain:=l }) (x:=[p']) (y:=[]) (by
   simp only [wW,zaJ,hl,zco];exact zdi.symm)
  simpa [Bf,Fab.put] using this
 have pr:(Bc (f.put i { f.port i with ain:=l })).Perm (Bc f):=by
  have:=iZ (g:=wV) (fM hs) (q':={ f.port i with ain:=l }) (x:=[]) (y:=[]) (by simp [wV])
  simpa [Bc,Fab.put] using this
 have nd:(p'.dst::(Bf (f.put i { f.port i with ain:=l })).map (·.dst)).Nodup:=((pa.map Pkt.dst).nodup_iff).2 R.an;have gone:∀q∈Bf (f.put i { f.port i with ain:=l }),q.dst≠i:=λq hq e=> (zaY.1 nd).1 (zaH.2 ⟨q,hq,e.trans b1.symm⟩);have aok:∀q∈Bc f,q.src≠i:=λq hq e=> by
  have:=R.req hq;rw [e,b3] at this;cases this
 refine⟨λk q hk'=> ?_,?_,?_,λj q hj=> ?_,λj q hj=> ?_,λj q hj=> ?_,λj q hj=> ?_,λj q hj=> ?_⟩
 ·have hmem:∀x,(x∈q.an∨x∈q.ain)->x.dst≠i:=λx hx=> gone x (AX hk' hx);rcases sD hs hk' with⟨e,rfl⟩ | ⟨_,h⟩
  ·have e':(k:Int)=i:=by rw [e];exact vw hs
   rw [e'];refine⟨λq hq=> ?_,λq hq=> ?_,λq hq=> ?_,λq hq=> ?_⟩
   ·exact absurd ((P.rq q hq).1) (aok q (AU (fM hs) (.inl hq)))
   ·obtain⟨a,b,c⟩:=P.rin q hq;exact⟨a,b,by rw [aS (aok q (AU (fM hs) (.inr hq)))];exact c⟩
   ·obtain⟨a,b,c⟩:=P.an q hq;exact⟨a,b,by rw [aS (hmem q (.inl hq))];exact c⟩
   ·have:=hmem q (.inr hq);exact absurd (P.ain q (by rw [hl];exact za5 _ hq)).1 this
  ·have Q:=R.port k q h;refine⟨λx hx=> ?_,λx hx=> ?_,λx hx=> ?_,λx hx=> ?_⟩
   ·obtain⟨a,b,c⟩:=Q.rq x hx;have:=aok x (AU h (.inl hx));exact⟨a,b,by rw [aS (by omega)];exact c⟩
   ·obtain⟨a,b,c⟩:=Q.rin x hx;exact⟨a,b,by rw [aS (aok x (AU h (.inr hx)))];exact c⟩
   ·obtain⟨a,b,c⟩:=Q.an x hx;exact⟨a,b,by rw [aS (hmem x (.inl hx))];exact c⟩
   ·obtain⟨a,b,c⟩:=Q.ain x hx;have:=hmem x (.inr hx);exact⟨a,b,by rw [aS (by omega)];exact c⟩
 ·exact((pr.map _).nodup_iff).2 R.rn
 ·exact(zaY.1 nd).2
 ·by_cases e:j=i
  ·rw [e,aK] at hj;cases hj
  ·rw [aS e] at hj;exact pr.mem_iff.2 (R.rc j q hj)
 ·by_cases e:j=i
  ·rw [e,aK] at hj;cases hj
  ·rw [aS e] at hj;rcases zaj.1 (pa.mem_iff.2 (R.ac j q hj)) with h | h
   ·have:=R.dst j q hj;rw [h,b1] at this;exact absurd this.symm e
   ·exact h
 ·by_cases e:j=i
  ·rw [e,aK] at hj;cases hj
  ·rw [aS e] at hj;exact R.src j q hj
 ·by_cases e:j=i
  ·rw [e,aK] at hj;cases hj
  ·rw [aS e] at hj;exact R.dst j q hj
 ·have hl:(f.put i { f.port i with ain:=l }).is j=f.is j:=by simp [Fab.is,Fab.put]
  rw [hl];by_cases e:j=i
  ·rw [e];exact hs
  ·rw [aS e] at hj;exact R.rg j q hj
theorem pz.apW(R:pz f msg){f':Fab}(h:f.take i true=(f',some p)):f.is i=true/\p.dst=i/\qK p.aO=true/\msg p.src=.req p/\pz f' (dK msg p.src .idle)/\f'.out=f.out/\f'.l.length=f.l.length/\(∀k,f'.roomOf k false=f.roomOf k false):=by
 unfold Fab.take at h;split at h
 case isFalse=> cases h
 rename_i hs;split at h
 ·cases h
 rename_i p' l hl;simp only [zad,zaa] at h;obtain⟨rfl,rfl⟩:=h;simp only [Port.qL,if_true] at hl;have P:=R.at_ hs;obtain⟨b1,b2,b3⟩:=P.rin p' (by rw [hl];simp);have hset:(f.port i).kM true l={ f.port i with rin:=l }:=by simp [Port.kM]
 rw [hset];refine⟨hs,b1,b2,b3,?_,rfl,by simp [Fab.put],λk=> ?_⟩;rotate_left
 ·have hp:=hs;unfold Fab.is at hp;simp only [zaf,decide_eq_true_eq] at hp;unfold Fab.roomOf Fab.is Fab.port Fab.put;simp only [zcm,zaF];by_cases e:i.toNat=k.toNat
  ·rw [<-e,zbd (by omega)];simp only [zar,Port.sort,zah,if_false]
  ·rw [zbm e]
 have pr:(p'::Bc (f.put i { f.port i with rin:=l })).Perm (Bc f):=by
  have:=iZ (g:=wV) (fM hs) (q':={ f.port i with rin:=l }) (x:=[p']) (y:=[]) (by
   simp only [wV,zaJ,hl,zco];exact zdi.symm)
  simpa [Bc,Fab.put] using this
 have pa:(Bf (f.put i { f.port i with rin:=l })).Perm (Bf f):=by
  have:=iZ (g:=wW) (fM hs) (q':={ f.port i with rin:=l }) (x:=[]) (y:=[]) (by simp [wW])
  simpa [Bf,Fab.put] using this
 have nd:(p'.src::(Bc (f.put i { f.port i with rin:=l })).map (·.src)).Nodup:=((pr.map Pkt.src).nodup_iff).2 R.rn;have gone:∀q∈Bc (f.put i { f.port i with rin:=l }),q.src≠p'.src:=λq hq e=> (zaY.1 nd).1 (zaH.2 ⟨q,hq,e⟩);have aol:∀q∈Bf f,q.dst≠p'.src:=λq hq e=> by
  have:=R.ans hq;rw [e,b3] at this;cases this
 refine⟨λk q hk'=> ?_,?_,?_,λj q hj=> ?_,λj q hj=> ?_,λj q hj=> ?_,λj q hj=> ?_,λj q hj=> ?_⟩
 ·have hmem:∀x,(x∈q.rq∨x∈q.rin)->x.src≠p'.src:=λx hx=> gone x (AU hk' hx);rcases sD hs hk' with⟨e,rfl⟩ | ⟨_,h⟩
  ·have e':(k:Int)=i:=by rw [e];exact vw hs
   rw [e'];refine⟨λq hq=> ?_,λq hq=> ?_,λq hq=> ?_,λq hq=> ?_⟩
   ·obtain⟨a,b,c⟩:=P.rq q hq;have:=hmem q (.inl hq);exact⟨a,b,by rw [aS (by omega)];exact c⟩
   ·obtain⟨a,b,c⟩:=P.rin q (by rw [hl];exact za5 _ hq);exact⟨a,b,by rw [aS (hmem q (.inr hq))];exact c⟩
   ·obtain⟨a,b,c⟩:=P.an q hq;exact⟨a,b,by rw [aS (aol q (AX (fM hs) (.inl hq)))];exact c⟩
   ·obtain⟨a,b,c⟩:=P.ain q hq;have:=aol q (AX (fM hs) (.inr hq));exact⟨a,b,by rw [aS (by omega)];exact c⟩
  ·have Q:=R.port k q h;refine⟨λx hx=> ?_,λx hx=> ?_,λx hx=> ?_,λx hx=> ?_⟩
   ·obtain⟨a,b,c⟩:=Q.rq x hx;have:=hmem x (.inl hx);exact⟨a,b,by rw [aS (by omega)];exact c⟩
   ·obtain⟨a,b,c⟩:=Q.rin x hx;exact⟨a,b,by rw [aS (hmem x (.inr hx))];exact c⟩
   ·obtain⟨a,b,c⟩:=Q.an x hx;exact⟨a,b,by rw [aS (aol x (AX h (.inl hx)))];exact c⟩
   ·obtain⟨a,b,c⟩:=Q.ain x hx;have:=aol x (AX h (.inr hx));exact⟨a,b,by rw [aS (by omega)];exact c⟩
 ·exact(zaY.1 nd).2
 ·exact((pa.map _).nodup_iff).2 R.an
 ·by_cases e:j=p'.src
  ·rw [e,aK] at hj;cases hj
  ·rw [aS e] at hj;rcases zaj.1 (pr.mem_iff.2 (R.rc j q hj)) with h | h
   ·have:=R.src j q hj;rw [h] at this;exact absurd this.symm e
   ·exact h
 ·by_cases e:j=p'.src
  ·rw [e,aK] at hj;cases hj
  ·rw [aS e] at hj;exact pa.mem_iff.2 (R.ac j q hj)
 ·by_cases e:j=p'.src
  ·rw [e,aK] at hj;cases hj
  ·rw [aS e] at hj;exact R.src j q hj
 ·by_cases e:j=p'.src
  ·rw [e,aK] at hj;cases hj
  ·rw [aS e] at hj;exact R.dst j q hj
 ·have hl:(f.put i { f.port i with rin:=l }).is j=f.is j:=by simp [Fab.is,Fab.put]
  rw [hl];by_cases e:j=p'.src
  ·rw [e];exact R.rg _ p' (.inl b3)
  ·rw [aS e] at hj;exact R.rg j q hj
theorem vC {p:Pkt}:∀{l:List Port} {i0 k:Nat},(l.flatMap λq=> q.rq++q.an)[k]?=some p->∃i req k' q,zF l i0 k=some (i0+i,req,k')/\l[i]?=some q/\(q.sort req)[k']?=some p
 | [],_,_,h=> by simp at h
 | q::l,i0,k,h=> by
  simp only [zaE] at h;unfold zF;by_cases h1:k < q.rq.length
  ·rw [if_pos h1];rw [zbh,zaN h1] at h;exact⟨0,true,k,q,rfl,rfl,h⟩
  ·rw [if_neg h1];by_cases h2:k < q.rq.length+q.an.length
   ·rw [if_pos h2];rw [zbh,za0 (by omega),zaN (by omega)] at h;exact⟨0,false,k - q.rq.length,q,rfl,rfl,h⟩
   ·rw [if_neg h2];rw [za0 (by rw [zao];omega),zao] at h;obtain⟨i,req,k',q',e1,e2,e3⟩:=vC (i0:=i0+1) h;exact⟨i+1,req,k',q',by rw [e1];simp only [zb9,Nat.add_comm 1 i],e2,e3⟩
theorem CX {k:Nat}{q q':Port}:∀{l:List Port},l[k]?=some q->q'.rq=q.rq->q'.an=q.an->(l.set k q').flatMap (λq=> q.rq++q.an)=l.flatMap (λq=> q.rq++q.an):=by
 induction k with
 | zero=>
  intro l h a b;cases l with
  | nil=> simp at h
  | cons x l=>
   simp only [zaP,zaa] at h;subst h;simp [a,b]
 | succ k ih=>
  intro l h a b;cases l with
  | nil=> simp at h
  | cons x l=>
   simp only [zbb] at h;simp only [zb3,zaE,ih h a b]
theorem Ko {k:Nat}:∀{l:List Pkt},l[k]?=some p->(p::l.eraseIdx k).Perm l:=by
 induction k with
 | zero=>
  intro l h;cases l with
  | nil=> simp at h
  | cons x l=>
   simp only [zaP,zaa] at h;subst h;exact .refl _
 | succ k ih=>
  intro l h;cases l with
  | nil=> simp at h
  | cons x l=>
   simp only [zbb] at h;simp only [zc4];exact(List.Perm.swap _ _ _).trans ((ih h).cons _)
theorem Nw {f:Fab}{i:Nat}{q:Port}(h:f.l[i]?=some q):f.port i=q:=by
 unfold Fab.port;rw [zat,zaF,h,zar]
theorem abz {f:Fab}{i:Nat}{q:Port}(h:f.l[i]?=some q):f.is i=true:=by
 have:=(zai.1 h).1;unfold Fab.is;simp only [zaf,decide_eq_true_eq];exact⟨by omega,by omega⟩
theorem pz.deliver(R:pz f msg)(hin:∀p∈f.all,f.is p.dst=true)(a b m:Int):pz (f.deliver a b m).1 msg:=by
 unfold Fab.deliver;split
 ·exact R
 split
 ·exact R
 rename_i p hp;have hd:=hin p (zaq hp);split
 ·exact R
 split
 ·exact R
 rename_i hr;simp only;cases hk:qK p.aO with
 | true=>
  have hset:(f.port p.dst).kM true ((f.port p.dst).qL true++[p])=(⟨(f.port p.dst).rq,(f.port p.dst).rin++[p],(f.port p.dst).an,(f.port p.dst).ain⟩:Port):=by simp [Port.kM,Port.qL]
  rw [hset];have hall:(f.put p.dst (⟨(f.port p.dst).rq,(f.port p.dst).rin++[p],(f.port p.dst).an,(f.port p.dst).ain⟩:Port)).all[a.toNat]?=some p:=by
   unfold Fab.all Fab.put;rw [CX (q':=(⟨(f.port p.dst).rq,(f.port p.dst).rin++[p],(f.port p.dst).an,(f.port p.dst).ain⟩:Port)) (fM hd) rfl rfl];exact hp
  obtain⟨i,req,k',q,f1,f2,f3⟩:=vC (i0:=0) hall;rw [za3] at f1
  -- the aqs port,as it was
  have hq:∃q0,f.l[i]?=some q0/\q.rq=q0.rq/\q.an=q0.an:=by
   rcases sD hd f2 with⟨e,rfl⟩ | ⟨_,h⟩
   ·exact⟨f.port p.dst,by rw [e];exact fM hd,rfl,rfl⟩
   ·exact⟨q,h,rfl,rfl⟩
  obtain⟨q0,g1,g2,g3⟩:=hq;have apX:req=true:=by
   cases req with
   | true=> rfl
   | false=>
    have hm:p∈q.an:=zaq f3;rw [g3] at hm;have:=((R.port i q0 g1).an p hm).2.1;rw [hk] at this;cases this
  subst apX;have hm:p∈q0.rq:=by rw [<-g2];exact zaq f3
  have hsrc:=((R.port i q0 g1).rq p hm).1;have anR:=((R.port i q0 g1).rq p hm).2.2;have aiG:(f.put p.dst (⟨(f.port p.dst).rq,(f.port p.dst).rin++[p],(f.port p.dst).an,(f.port p.dst).ain⟩:Port)).remove a.toNat=(f.put p.dst (⟨(f.port p.dst).rq,(f.port p.dst).rin++[p],(f.port p.dst).an,(f.port p.dst).ain⟩:Port)).put i (⟨q.rq.eraseIdx k',q.rin,q.an,q.ain⟩:Port):=by
   have hpq:(f.put p.dst (⟨(f.port p.dst).rq,(f.port p.dst).rin++[p],(f.port p.dst).an,(f.port p.dst).ain⟩:Port)).port i=q:=Nw f2;unfold Fab.remove;rw [f1];simp only [hpq,Port.drop,Port.kC,Port.sort,if_true]
  rw [aiG];have hi1:(f.put p.dst (⟨(f.port p.dst).rq,(f.port p.dst).rin++[p],(f.port p.dst).an,(f.port p.dst).ain⟩:Port)).is i=true:=abz f2;have p1:(Bc (f.put p.dst (⟨(f.port p.dst).rq,(f.port p.dst).rin++[p],(f.port p.dst).an,(f.port p.dst).ain⟩:Port))).Perm (p::Bc f):=by
   have:=iZ (g:=wV) (fM hd) (q':=(⟨(f.port p.dst).rq,(f.port p.dst).rin++[p],(f.port p.dst).an,(f.port p.dst).ain⟩:Port)) (x:=[]) (y:=[p]) (by
    simp only [wV,zaJ,<-zbh];exact zdm)
   simpa [Bc,Fab.put] using this
  have p2:(p::Bc ((f.put p.dst (⟨(f.port p.dst).rq,(f.port p.dst).rin++[p],(f.port p.dst).an,(f.port p.dst).ain⟩:Port)).put i (⟨q.rq.eraseIdx k',q.rin,q.an,q.ain⟩:Port))).Perm (Bc (f.put p.dst (⟨(f.port p.dst).rq,(f.port p.dst).rin++[p],(f.port p.dst).an,(f.port p.dst).ain⟩:Port))):=by
   have:=iZ (g:=wV) f2 (q':=(⟨q.rq.eraseIdx k',q.rin,q.an,q.ain⟩:Port)) (x:=[p]) (y:=[]) (by
    simp only [wV,zaJ,zco,<-zbe];exact(Ko f3).append_right _)
   simpa [Bc,Fab.put] using this
  have pr:=(List.perm_cons p).1 (p2.trans p1);have pa:(Bf ((f.put p.dst (⟨(f.port p.dst).rq,(f.port p.dst).rin++[p],(f.port p.dst).an,(f.port p.dst).ain⟩:Port)).put i (⟨q.rq.eraseIdx k',q.rin,q.an,q.ain⟩:Port))).Perm (Bf f):=by
   have h1:=iZ (g:=wW) (fM hd) (q':=(⟨(f.port p.dst).rq,(f.port p.dst).rin++[p],(f.port p.dst).an,(f.port p.dst).ain⟩:Port)) (x:=[]) (y:=[]) (by simp [wW]);have h2:=iZ (g:=wW) f2 (q':=(⟨q.rq.eraseIdx k',q.rin,q.an,q.ain⟩:Port)) (x:=[]) (y:=[]) (by simp [wW]);have h3:=h2.trans h1
   simpa [Bf,Fab.put] using h3
  have mid:∀(k:Nat) x,(f.put p.dst (⟨(f.port p.dst).rq,(f.port p.dst).rin++[p],(f.port p.dst).an,(f.port p.dst).ain⟩:Port)).l[k]?=some x->Nv msg k x:=λk x hx=> by
   rcases sD hd hx with⟨e,rfl⟩ | ⟨_,h⟩
   ·have e':(k:Int)=p.dst:=by rw [e];exact vw hd
    rw [e'];have P:=R.at_ hd;refine⟨P.rq,λy hy=> ?_,P.an,P.ain⟩;rcases zaO.1 hy with hy | hy
    ·exact P.rin y hy
    ·simp only [zaj,zay,or_false] at hy;subst hy;exact⟨rfl,hk,by rw [hsrc];exact anR⟩
   ·exact R.port k x h
  refine⟨λk x hx=> ?_,((pr.map _).nodup_iff).2 R.rn,((pa.map _).nodup_iff).2 R.an,λj y hj=> pr.mem_iff.2 (R.rc j y hj),λj y hj=> pa.mem_iff.2 (R.ac j y hj),R.src,R.dst,λj y hj=> by have:=R.rg j y hj;simpa [Fab.is,Fab.put] using this⟩;rcases sD hi1 hx with⟨e,rfl⟩ | ⟨_,h⟩
  ·have Q:=mid i q f2;rw [zat] at e;subst e;exact⟨λy hy=> Q.rq y (zcy hy),Q.rin,Q.an,Q.ain⟩
  ·exact mid k x h
 | false=>
  have hset:(f.port p.dst).kM false ((f.port p.dst).qL false++[p])=(⟨(f.port p.dst).rq,(f.port p.dst).rin,(f.port p.dst).an,(f.port p.dst).ain++[p]⟩:Port):=by simp [Port.kM,Port.qL]
  rw [hset];have hall:(f.put p.dst (⟨(f.port p.dst).rq,(f.port p.dst).rin,(f.port p.dst).an,(f.port p.dst).ain++[p]⟩:Port)).all[a.toNat]?=some p:=by
   unfold Fab.all Fab.put;rw [CX (q':=(⟨(f.port p.dst).rq,(f.port p.dst).rin,(f.port p.dst).an,(f.port p.dst).ain++[p]⟩:Port)) (fM hd) rfl rfl];exact hp
  obtain⟨i,req,k',q,f1,f2,f3⟩:=vC (i0:=0) hall;rw [za3] at f1;have hq:∃q0,f.l[i]?=some q0/\q.rq=q0.rq/\q.an=q0.an:=by
   rcases sD hd f2 with⟨e,rfl⟩ | ⟨_,h⟩
   ·exact⟨f.port p.dst,by rw [e];exact fM hd,rfl,rfl⟩
   ·exact⟨q,h,rfl,rfl⟩
  obtain⟨q0,g1,g2,g3⟩:=hq;have apX:req=false:=by
   cases req with
   | false=> rfl
   | true=>
    have hm:p∈q.rq:=zaq f3;rw [g2] at hm;have:=((R.port i q0 g1).rq p hm).2.1;rw [hk] at this;cases this
  subst apX;have hm:p∈q0.an:=by rw [<-g3];exact zaq f3
  have anR:=((R.port i q0 g1).an p hm).2.2;have aiG:(f.put p.dst (⟨(f.port p.dst).rq,(f.port p.dst).rin,(f.port p.dst).an,(f.port p.dst).ain++[p]⟩:Port)).remove a.toNat=(f.put p.dst (⟨(f.port p.dst).rq,(f.port p.dst).rin,(f.port p.dst).an,(f.port p.dst).ain++[p]⟩:Port)).put i (⟨q.rq,q.rin,q.an.eraseIdx k',q.ain⟩:Port):=by
   have hpq:(f.put p.dst (⟨(f.port p.dst).rq,(f.port p.dst).rin,(f.port p.dst).an,(f.port p.dst).ain++[p]⟩:Port)).port i=q:=Nw f2;unfold Fab.remove;rw [f1];simp only [hpq,Port.drop,Port.kC,Port.sort,zah,if_false]
  rw [aiG];have hi1:(f.put p.dst (⟨(f.port p.dst).rq,(f.port p.dst).rin,(f.port p.dst).an,(f.port p.dst).ain++[p]⟩:Port)).is i=true:=abz f2;have p1:(Bf (f.put p.dst (⟨(f.port p.dst).rq,(f.port p.dst).rin,(f.port p.dst).an,(f.port p.dst).ain++[p]⟩:Port))).Perm (p::Bf f):=by
   have:=iZ (g:=wW) (fM hd) (q':=(⟨(f.port p.dst).rq,(f.port p.dst).rin,(f.port p.dst).an,(f.port p.dst).ain++[p]⟩:Port)) (x:=[]) (y:=[p]) (by
    simp only [wW,zaJ,<-zbh];exact zdm)
   simpa [Bf,Fab.put] using this
  have p2:(p::Bf ((f.put p.dst (⟨(f.port p.dst).rq,(f.port p.dst).rin,(f.port p.dst).an,(f.port p.dst).ain++[p]⟩:Port)).put i (⟨q.rq,q.rin,q.an.eraseIdx k',q.ain⟩:Port))).Perm (Bf (f.put p.dst (⟨(f.port p.dst).rq,(f.port p.dst).rin,(f.port p.dst).an,(f.port p.dst).ain++[p]⟩:Port))):=by
   have:=iZ (g:=wW) f2 (q':=(⟨q.rq,q.rin,q.an.eraseIdx k',q.ain⟩:Port)) (x:=[p]) (y:=[]) (by
    simp only [wW,zaJ,zco,<-zbe];exact(Ko f3).append_right _)
   simpa [Bf,Fab.put] using this
  have pa:=(List.perm_cons p).1 (p2.trans p1);have pr:(Bc ((f.put p.dst (⟨(f.port p.dst).rq,(f.port p.dst).rin,(f.port p.dst).an,(f.port p.dst).ain++[p]⟩:Port)).put i (⟨q.rq,q.rin,q.an.eraseIdx k',q.ain⟩:Port))).Perm (Bc f):=by
   have h1:=iZ (g:=wV) (fM hd) (q':=(⟨(f.port p.dst).rq,(f.port p.dst).rin,(f.port p.dst).an,(f.port p.dst).ain++[p]⟩:Port)) (x:=[]) (y:=[]) (by simp [wV]);have h2:=iZ (g:=wV) f2 (q':=(⟨q.rq,q.rin,q.an.eraseIdx k',q.ain⟩:Port)) (x:=[]) (y:=[]) (by simp [wV]);have h3:=h2.trans h1
   simpa [Bc,Fab.put] using h3
  have mid:∀(k:Nat) x,(f.put p.dst (⟨(f.port p.dst).rq,(f.port p.dst).rin,(f.port p.dst).an,(f.port p.dst).ain++[p]⟩:Port)).l[k]?=some x->Nv msg k x:=λk x hx=> by
   rcases sD hd hx with⟨e,rfl⟩ | ⟨_,h⟩
   ·have e':(k:Int)=p.dst:=by rw [e];exact vw hd
    rw [e'];have P:=R.at_ hd;refine⟨P.rq,P.rin,P.an,λy hy=> ?_⟩;rcases zaO.1 hy with hy | hy
    ·exact P.ain y hy
    ·simp only [zaj,zay,or_false] at hy;subst hy;exact⟨rfl,hk,anR⟩
   ·exact R.port k x h
  refine⟨λk x hx=> ?_,((pr.map _).nodup_iff).2 R.rn,((pa.map _).nodup_iff).2 R.an,λj y hj=> pr.mem_iff.2 (R.rc j y hj),λj y hj=> pa.mem_iff.2 (R.ac j y hj),R.src,R.dst,λj y hj=> by have:=R.rg j y hj;simpa [Fab.is,Fab.put] using this⟩;rcases sD hi1 hx with⟨e,rfl⟩ | ⟨_,h⟩
  ·have Q:=mid i q f2;rw [zat] at e;subst e;exact⟨Q.rq,Q.rin,λy hy=> Q.an y (zcy hy),Q.ain⟩
  ·exact mid k x h
end
end
end Go.Proofs.YtgplhpgkompkmaaGreat
