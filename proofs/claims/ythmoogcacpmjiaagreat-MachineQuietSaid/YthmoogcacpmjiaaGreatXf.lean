/-
  Own work: an interpreter over named blocks, its soundness, and what the functions of this seat compute (part 6 of 11).
  Conditions: those of the statement alone.
-/
import Derived.Test.YthmoogcacpmjiaaGreatXe
set_option linter.all false
set_option linter.unusedSectionVars false
set_option linter.unusedVariables false
set_option linter.unusedSimpArgs false
namespace Go.Proofs.YthmoogcacpmjiaaGreat
noncomputable section
abbrev zC(t:Turns):List (Int × List AV):=t.wait.map λe=> (e.1,e.2.flatMap EO)
theorem zD(t:Turns):(zC t).map (·.1)=t.wait.map (·.1):=by simp [zC]
theorem Et(t:Turns)(line:Int):(iV (zC t) line).getD []=(t.ws line).flatMap EO:=by
 rw [zC,Js (λl:List (Int × Int)=> l.flatMap EO)];unfold Turns.ws;cases iV t.wait line <;> rfl
theorem MW(w:List (Int × List (Int × Int)))(line:Int)(l:List (Int × Int)):mF (w.map λe=> (e.1,e.2.flatMap EO)) line (l.flatMap EO)=(mF w line l).map λe=> (e.1,e.2.flatMap EO):=by
 induction w with
 | nil=> rfl
 | cons e w ih=>
  obtain⟨k,v⟩:=e;simp only [zaA,mF];split
  ·rfl
  ·rw [ih];rfl
section
variable {b:Nat}{H:aj}{g:Store}{q:Nat}
theorem aa7(G:Good b H g)(hb:H.base<=b){t:Turns}(h:g q=some (fP t))(hw:(t.wait.map (·.1)).Nodup)(line who id:Int)(hl:(t.ws line).length < 1000000):
  ∃H',cl 195 [.ref q 0 0,I line,I who,I id] H=some (B (t.ask line who id).2,H')/\Good b H' (upd g q (fP (t.ask line who id).1))/\Step b H H':=by
 refine ji rfl rfl (akx _ _ _ _ _ _) ?_;have e1:=uT G h line;have e2:=um G h line;by_cases hneg:who < 0
 ·have hp:t.ask line who id=(t,false):=by simp only [Turns.ask];rw [if_pos hneg]
  rw [hp];refine⟨H,?_,by rw [dN h];exact G,Step.refl _ _⟩;simp -implicitDefEqProofs only [xq_,LV,hneg]
 ·by_cases hc:(t.owned line || !(t.ws line).isEmpty)=true
  ·have hp:t.ask line who id=({ t with wait:=mF t.wait line (t.ws line++[(who,id)]) },false):=by simp only [Turns.ask];rw [if_neg hneg,if_pos hc]
   rw [hp];obtain⟨r,x,f1,f2,f3,f4,f5,f6,f7⟩:=G.Jv h (i:=1) rfl (by rw [show t.wait.map (λe=> (e.1,e.2.flatMap λw=> [I w.1,I w.2]))=zC t from rfl,zD];exact hw) line;rw [show t.wait.map (λe=> (e.1,e.2.flatMap λw=> [I w.1,I w.2]))=zC t from rfl,Et] at f3;let o:dQ:=.blk 0 293 [I who,I id];obtain⟨x',H1,a1,a2,a3,a4,a5⟩:=(f3.new o).app (e:=293) (by_:=16) (n:=(t.ws line).length) (by rw [bNew];exact hb) (by decide) (bn (enc:=EO) (λ_=> rfl) _) (jy (ex:=true) (n:=1) (m:=2) (l:=[I who,I id]) rfl) rfl (by unfold most;omega) (by unfold most;omega);have a2':Fit H H1 x x' 2 ((t.ws line++[(who,id)]).flatMap EO):=by
    rw [zbA];rcases a2 with a2 | ⟨r0,gg,off,n',cap,ex,ty,all,k0,k1,k2⟩
    ·exact .inl a2
    ·exact .inr ⟨r0,gg,off,n',cap,ex,ty,all,k0,k1.imp (λh=> h) λh=> zay (zba _) h,k2⟩
   have a5':∀r',r' < H.next->nameOf x≠some r'->H1.get r'=H.get r':=λr' hr hne=> by rw [a5 r' (zax hr (zba _)) hne,aP hr]
   obtain⟨H',m1,m2,m3,m4⟩:=f7 H1 x' _ (zay (zba _) a3) (by rw [a4,bNew];exact hb) a5' a2';have hgq:H1.get q=(H.new o).get q:=by rw [a5' q f5 f4,aP f5]
   refine⟨H',?_,?_,Step.trans ⟨by rw [a4,bNew],zay (zba _) a3,λr' hr=> a5' r' (zax hr G.1) λe=> by have:=f6 r' e;omega⟩ m3⟩
   ·have ck1:∀{β:Type} (k:Option β),ck (aS (.ref q 0 1)) (H.new o) H1 k=k:=λk=> Ul λr' hr=> by
     simp only [aS,zaa] at hr;subst hr;exact hgq
    have ed:bd 293 [(0,I who),(1,I id)]=some (.agg [I who,I id]):=by
     simp -implicitDefEqProofs only [xq_,ahE,gJ,dL,acy];rfl
    have eb:=jw (e:=293) (m:=2) (z:=[zI,zI]) (v:=.agg [I who,I id]) (H:=H) rfl rfl rfl;simp only [dD] at eb;simp only [o] at a1 ck1;cases ho:t.owned line with
    | true=>
     rw [ho] at e1;simp -implicitDefEqProofs only [xq_,LV,hneg,e1,f1,f2,ed,ab6,zbd,Nat.reduceLeDiff,eb,a1,m1,ck1]
    | false=>
     rw [ho] at e1 hc;have hgt:(0:Int) < (t.ws line).length:=by
      cases hz:t.ws line with
      | nil=> rw [hz] at hc;simp at hc
      | cons a l=> simp only [zal];omega
     simp -implicitDefEqProofs only [xq_,LV,hneg,e1,e2,hgt,f1,f2,ed,ab6,zbd,Nat.reduceLeDiff,eb,a1,m1,ck1]
   ·have:fP { t with wait:=mF t.wait line (t.ws line++[(who,id)]) }=(fP t).set 1 (.maps .i64 2 (mF (zC t) line ((t.ws line++[(who,id)]).flatMap EO))):=by
     rw [MW];rfl
    rw [this];exact m2
  ·have hp:t.ask line who id=({ t with gY:=mF t.gY line who },true):=by simp only [Turns.ask];rw [if_neg hneg,if_neg hc]
   rw [hp];have ho:t.owned line=false:=by cases h1:t.owned line <;> simp_all
   have hz:t.ws line=[]:=by
    rw [ho] at hc;cases hz:t.ws line with
    | nil=> rfl
    | cons a l=> rw [hz] at hc;simp at hc
   rw [ho] at e1;rw [hz] at e2;obtain⟨r,f1,_,_,f2⟩:=G.map h (i:=0) rfl;obtain⟨H',m1,m2,m3,m4⟩:=(f2 hb).1 line (I who);refine⟨H',?_,?_,m3⟩
   ·have hgt:¬(0:Int) < (0:Nat):=by decide
    simp -implicitDefEqProofs only [xq_,LV,hneg,e1,e2,zau,hgt,f1,m1]
   ·rw [DI (λn=> I n)] at m2;exact m2
theorem MZ(G:Good b H g)(hb:H.base<=b){t:Turns}(h:g q=some (fP t))(line who:Int):
  ∃H',cl 210 [.ref q 0 0,I line,I who] H=some (I (t.release line who).2,H')/\Good b H' (upd g q (fP (t.release line who).1))/\Step b H H':=by
 refine ji rfl rfl (akJ _ _ _ _ _) ?_;have e1:=uT G h line;obtain⟨r,f1,f3,_,f2⟩:=G.map h (i:=0) rfl;have f4:=f3 (.int .i64 0) line false;rw [uI] at f4;cases hr:iV t.gY line with
 | none=>
  have hp:t.release line who=(t,6):=by simp only [Turns.release,hr];rw [if_neg (by simp)]
  have ho:t.owned line=false:=by simp [Turns.owned,hr]
  rw [hp];rw [ho] at e1;refine⟨H,?_,by rw [dN h];exact G,Step.refl _ _⟩;simp -implicitDefEqProofs only [xq_,RD,e1,zak]
 | some w=>
  have ho:t.owned line=true:=by simp [Turns.owned,hr]
  rw [ho] at e1;simp only [hr,zai,zah,if_false] at f4;by_cases hw:w=who
  ·have hp:t.release line who=({ t with gY:=xw t.gY line },0):=by simp only [Turns.release,hr];rw [if_pos (by rw [hw])]
   rw [hp];obtain⟨H',m1,m2,m3,m4⟩:=(f2 hb).2 line;refine⟨H',?_,?_,m3⟩
   ·simp -implicitDefEqProofs only [xq_,RD,e1,zae,f1,f4,hw,m1]
   ·rw [QO (λn=> I n)] at m2;exact m2
  ·have hp:t.release line who=(t,6):=by simp only [Turns.release,hr];rw [if_neg (by simpa using hw)]
   rw [hp];refine⟨H,?_,by rw [dN h];exact G,Step.refl _ _⟩;simp -implicitDefEqProofs only [xq_,RD,e1,zae,zak,f1,f4,hw]
def ak2(o:Option (Int × Int)):AV:=.tup [I (o.getD (0,0)).1,I (o.getD (0,0)).2,B o.isSome]
theorem Yu(G:Good b H g)(hb:H.base<=b){t:Turns}(h:g q=some (fP t))(hw:(t.wait.map (·.1)).Nodup)(line:Int)(hl:(t.ws line).length < 1000000):
  ∃H',cl 161 [.ref q 0 0,I line] H=some (ak2 (t.next line).2,H')/\Good b H' (upd g q (fP (t.next line).1))/\Step b H H':=by
 refine ji rfl rfl (ajZ _ _ _ _) ?_;have e1:=uT G h line;have e2:=um G h line;cases ho:t.owned line with
 | true=>
  have hp:t.next line=(t,none):=by simp only [Turns.next,ho,if_true]
  rw [hp];rw [ho] at e1;refine⟨H,?_,by rw [dN h];exact G,Step.refl _ _⟩;simp -implicitDefEqProofs only [xq_,Rt,e1,ak2,zaY,zaL]
 | false=>
  rw [ho] at e1;cases hz:t.ws line with
  | nil=>
   have hp:t.next line=(t,none):=by simp only [Turns.next,ho,hz,zah,if_false]
   rw [hp];rw [hz] at e2;refine⟨H,?_,by rw [dN h];exact G,Step.refl _ _⟩;simp -implicitDefEqProofs only [xq_,Rt,e1,e2,zau,Int.ofNat_zero,ak2,zaY,zaL]
  | cons w l=>
   have hp:t.next line=(⟨mF t.gY line w.1,mF t.wait line l⟩,some w):=by simp only [Turns.next,ho,hz,zah,if_false]
   rw [hp];rw [hz] at e2;obtain⟨r,x,f1,f2,f3,f4,f5,f6,f7⟩:=G.Jv h (i:=1) rfl (by rw [show t.wait.map (λe=> (e.1,e.2.flatMap λw=> [I w.1,I w.2]))=zC t from rfl,zD];exact hw) line;rw [show t.wait.map (λe=> (e.1,e.2.flatMap λw=> [I w.1,I w.2]))=zC t from rfl,Et,hz] at f3;have hs:=f3.is (n:=(w::l).length) (by decide) (bn (enc:=EO) (λ_=> rfl) _);have s1:=hs.ix (k:=.i64) (i:=(0:Int)) (by omega) (by simp only [zal];omega);rw [show((0:Int).toNat)=0 from rfl] at s1;have s2:=jG (enc:=EO) (λ_=> rfl) hs (i:=0) (a:=w) rfl;have G1:=G.newObj (ty:=293) (xs:=[I w.1,I w.2]) rfl;have hqn:q≠H.next:=G.ne h
   have h1:upd g H.next ([I w.1,I w.2].map .av) q=some (fP t):=by rw [upd_ne hqn];exact h
   obtain⟨r',x',f1',f2',f3',f4',f5',f6',f7'⟩:=G1.Jv h1 (i:=1) rfl (by rw [show t.wait.map (λe=> (e.1,e.2.flatMap λw=> [I w.1,I w.2]))=zC t from rfl,zD];exact hw) line;rw [show t.wait.map (λe=> (e.1,e.2.flatMap λw=> [I w.1,I w.2]))=zC t from rfl,Et,hz] at f3';have hln:=f3'.is (n:=(w::l).length) (by decide) (bn (enc:=EO) (λ_=> rfl) _);rcases f3' with⟨_,f3'⟩ | ⟨r0,gg,off,n',cap,ex,ty,all,rfl,k2,k3,k4,k5,k6,k7,k8⟩
   ·simp [EO] at f3'
   have hn':n'=l.length+1:=by have:=hln.2.2.1;simp only [zal] at this;omega
   subst hn';have sl:=Bf (r:=r0) (gg:=gg) (off:=off) (m:=2) (len:=l.length+1) (cap:=cap) (ex:=ex) (k1:=.i64) (lo:=1) (by decide) (by omega) k4;have t1:(1:Int).toNat=1:=rfl;rw [t1,zbd,Nat.add_sub_cancel] at sl;have hle:(l.length+1)*2<=cap*2:=zaC _ k4;have hfit:Fit (H.new (.blk 0 293 [I w.1,I w.2])) (H.new (.blk 0 293 [I w.1,I w.2])) (.sl r0 gg off 2 (l.length+1) cap ex) (.sl r0 gg (off+2) 2 l.length (cap - 1) ex) 2 (l.flatMap EO):=by
    refine .inr ⟨r0,gg,off+2,l.length,cap - 1,ex,ty,all,rfl,.inl rfl,k3,by omega,k5,by rw [Nat.sub_mul];omega,k7,?_⟩;have:=congrArg (List.drop 2) k8;rw [zaH,List.drop_append_of_le_length (by simp [EO]),show(EO w).drop 2=[] from rfl,zaX,zcg,zbE] at this;rw [this]
    congr 1
    omega
   obtain⟨H2,m1,G2,m3,m4⟩:=f7' (H.new (.blk 0 293 [I w.1,I w.2])) _ _ (zac _) (by rw [bNew];exact hb) (λ_ _ _=> rfl) hfit;have e3:(fP t).set 1 (.maps .i64 2 (mF (zC t) line (l.flatMap EO)))=fP ⟨t.gY,mF t.wait line l⟩:=by
    rw [MW];rfl
   rw [show(List.map (λe=> (e.1,List.flatMap (λw=> [I w.1,I w.2]) e.2)) t.wait)=zC t from rfl,e3] at G2;obtain⟨ro,o1,_,_,o2⟩:=G2.map upd_same (i:=0) rfl;have hb2:H2.base<=b:=by rw [m3.base,bNew];exact hb
   obtain⟨H3,p1,G3,p3,p4⟩:=(o2 hb2).1 line (I w.1);have j2:∀cs,upd (upd g H.next ([I w.1,I w.2].map .av)) q cs H.next=some ([I w.1,I w.2].map .av):=λcs=> by rw [upd_ne hqn.symm,upd_same]
   have v1:=G2.load (j2 _) (i:=0) (x:=I w.1) rfl;rw [nI] at G3;have v2:=G3.load (j2 _) (i:=0) (x:=I w.1) rfl;have v3:=G3.load (j2 _) (i:=1) (x:=I w.2) rfl;refine⟨H3,?_,?_,((Step.new _ G.1).trans m3).trans p3⟩
   ·have hne:¬((l.length+1:Nat):Int)=0:=by omega
    have hbn:H.base<=H.next:=zay hb G.1
    simp only [EO] at s2;simp -implicitDefEqProofs only [Nat.reduceAdd,setAt,xq_,hq_,Rt,e1,e2,hne,f1,f2,s1,s2,hbn,f1',f2',sl,m1,o1,v1,p1,v2,v3,ak2,zaz,zaM]
   ·rw [DI (λn=> I n)] at G3;refine G3.sub ?_;exact((qg.refl g).more (G.isNone (zac _)) _).both q _
end
abbrev blw(n lo hi:Int):Bool:=decide (lo<=n) && decide (n < hi)
theorem aa8(H:aj)(n lo hi:Int):cl 179 [I n,I lo,I hi] H=some (B (blw n lo hi),H):=by
 refine aN rfl rfl (adT _ _ _ _ _ ?_);by_cases h:lo<=n
 ·simp -implicitDefEqProofs only [xq_,LQ,h,blw,zaK]
 ·simp -implicitDefEqProofs only [xq_,LQ,h,blw,zaN]
theorem three(a b c:Bool):a=false∨(a=true/\b=false)∨(a=true/\b=true/\c=false)∨(a=true/\b=true/\c=true):=by revert a b c;decide
theorem Pkt.ok_eq(p:Pkt):p.ok=(blw p.src 0 6 && blw p.dst 0 6 && blw p.id 0 4096 && (blw p.kind 1 10 && blw p.line 0 8 && blw p.ptr (-1) 6) && blw p.state 0 3 && !decide ((4:Int) < p.data.length)):=by
 have:decide (p.data.length<=4)=!decide ((4:Int) < p.data.length):=by
  by_cases h:p.data.length<=4
  ·have:¬(4:Int) < p.data.length:=by omega
   simp [h,this]
  ·have:(4:Int) < p.data.length:=by omega
   simp [h,this]
 unfold Pkt.ok;rw [this];simp only [blw,Bool.and_assoc]
theorem yh(H:aj)(p:Pkt):cl 141 [.agg p.av] H=some (I (if p.ok=true then 0 else 1),H):=by
 refine aX rfl rfl (ads _ _ _) ?_ eu;have e1:=λH n lo hi=> aa8 H n lo hi;have e2:=λH=> (jh H p.data).lnS;rw [p.ok_eq];generalize a1:blw p.src 0 6=b1;generalize a2:blw p.dst 0 6=b2;generalize a3:blw p.id 0 4096=b3;generalize a4:blw p.kind 1 10=b4;generalize a5:blw p.line 0 8=b5;generalize a6:blw p.ptr (-1) 6=b6;generalize a7:blw p.state 0 3=b7;by_cases h8:(4:Int) < p.data.length
 all_goals rcases three b1 b2 b3 with rfl | ⟨rfl,rfl⟩ | ⟨rfl,rfl,rfl⟩ | ⟨rfl,rfl,rfl⟩
 all_goals rcases three b4 b5 b6 with rfl | ⟨rfl,rfl⟩ | ⟨rfl,rfl,rfl⟩ | ⟨rfl,rfl,rfl⟩
 all_goals cases b7
 all_goals simp -implicitDefEqProofs only [Nat.reduceLT,Int.reduceNeg,xq_,hq_,Xt,aA,Pkt.av,e1,e2,a1,a2,a3,a4,a5,a6,a7,h8,zae,zak,zaN,zb0]
theorem Gv(H:aj)(k:Int):cl 64 [I k] H=some (B (DJ k),H):=by
 refine aX rfl rfl (anl _ _ _) ?_ eu;by_cases h:1<=k
 ·simp -implicitDefEqProofs only [xq_,afk,h,DJ,zaK]
 ·simp -implicitDefEqProofs only [xq_,afk,h,DJ,zaN]
theorem Nh(H:aj)(k:Int):cl 197 [I k] H=some (I (Iw k),H):=by
 refine aX rfl rfl (akA _ _ _) ?_ eu;by_cases h1:k=1
 ·simp -implicitDefEqProofs only [Int.reduceEq,xq_,Ai,h1,Iw]
 ·by_cases h2:k=2
  ·simp -implicitDefEqProofs only [Int.reduceEq,xq_,Ai,mW,h2,Iw,true_or]
  ·by_cases h4:k=4
   ·simp -implicitDefEqProofs only [Int.reduceEq,xq_,Ai,mW,h4,Iw,true_or,or_true]
   ·by_cases h5:k=5
    ·simp -implicitDefEqProofs only [Int.reduceEq,xq_,Ai,mW,h5,Iw,or_true]
    ·by_cases h3:k=3
     ·simp -implicitDefEqProofs only [Int.reduceEq,xq_,Ai,mW,x9,h3,Iw,true_or,false_or]
     ·by_cases h6:k=6
      ·simp -implicitDefEqProofs only [Int.reduceEq,xq_,Ai,mW,x9,h6,Iw,or_true,false_or]
      ·simp -implicitDefEqProofs only [xq_,Ai,mW,x9,h1,h2,h3,h4,h5,h6,Iw,false_or]
theorem lH(z:Int):((by8 z).toNat:Int)=z % 256:=by
 unfold by8;have h:(BitVec.ofInt 8 z).toNat=(z % ((2 ^ 8:Nat):Int)).toNat:=BitVec.toNat_ofInt z;have h2:(0:Int)<=z % 256:=Int.emod_nonneg _ (by decide);rw [h,show((2 ^ 8:Nat):Int)=256 from rfl,Int.toNat_of_nonneg h2]
theorem SB(z:Int):(AV.s (.int .u8 (IntKind.wrap .u8 z)))=Y (by8 z):=by
 show _=AV.s (.int .u8 ((by8 z).toNat:Int));rw [lH,acV rfl];rfl
theorem an5(H:aj)(f:Bool):cl0 142 [B f] H=some (Y (by8 (if f then 1 else 0)),H):=by
 refine fM (ajF _ _ _ ?_);cases f
 ·simp -implicitDefEqProofs only [xq_,Xu];rfl
 ·simp -implicitDefEqProofs only [xq_,Xu];rfl
def apk(H0 H:aj)(x:AV)(l:List AV):Prop:=
 (x=zN/\l=[])∨(∃r g ty,x=.sl r g 0 1 l.length l.length false/\H0.next<=r/\r < H.next/\H.get r=.blk g ty l)∨(∃r ty,x=.sl r 0 0 1 l.length l.length true/\H0.next<=r/\r < H.next/\H.get r=.blk 0 ty l)
structure Acc(H0 H:aj)(x:AV)(l:List AV):Prop where
 gro:Gro H0 H
 base:H.base<=H0.next
 x:apk H0 H x l
theorem Acc.is {H0 H:aj}{x:AV}{l:List AV}(a:Acc H0 H x l):aF H x 1 l.length l:=by
 refine⟨by omega,?_⟩;rcases a.x with⟨rfl,rfl⟩ | ⟨r,g,ty,rfl,h1,h2,h3⟩ | ⟨r,ty,rfl,h0',h1,h2⟩
 ·exact⟨rfl,rfl,rfl⟩
 ·exact⟨rfl,rfl,⟨h2,zac _⟩,ty,l,h3,by omega,by simp⟩
 ·exact⟨rfl,rfl,⟨h1,zac _⟩,ty,l,h2,by omega,by simp⟩
theorem Acc.one {H0 H:aj}{x:AV}{l:List AV}(a:Acc H0 H x l):One x:=by
 rcases a.x with⟨rfl,rfl⟩ | ⟨r,g,ty,rfl,h1,h2,h3⟩ | ⟨r,ty,rfl,h0',h1,h2⟩
 ·exact mD
 ·exact pW
 ·exact pW
theorem Acc.an6 {H0 H H':aj}{x:AV}{l:List AV}(a:Acc H0 H x l)(g:Gro H H'):Acc H0 H' x l:=by
 refine⟨a.gro.trans g,by rw [g.base];exact a.base,?_⟩;rcases a.x with h | ⟨r,g',ty,h0,h1,h2,h3⟩ | ⟨r,ty,h0,h0',h1,h2⟩
 ·exact .inl h
 ·exact .inr (.inl ⟨r,g',ty,h0,h1,zax h2 g.next,by rw [g.same r h2];exact h3⟩)
 ·exact .inr (.inr ⟨r,ty,h0,h0',zax h1 g.next,by rw [g.same r h1];exact h2⟩)
theorem Gro.put {H0 H:aj}{r g ty:Nat}{xs:List AV}(G:Gro H0 H)(hr:H0.next<=r):Gro H0 (H.put r (.blk g ty xs)):=
 ⟨G.next,G.base,λx hx=> by
  have:(H.put r (.blk g ty xs)).get x=H.get x:=by simp only [aj.put];rw [if_neg (by omega)]
  rw [this];exact G.same x hx,λh x k es=> by
  simp only [aj.put];split
  ·simp
  ·exact G.LY h x k es⟩
theorem Acc.app {H0 H:aj}{x:AV}{l:List AV}(a:Acc H0 H x l){e by_ n:Nat}{y:AV}{new:List AV}(hy:aF H y 1 n new)(hc:new.all AV.aG=true)(hn:n≠0)(hs:l.length+n < 1000)(hby:by_<=16):
  ∃x' H',app e 1 by_ x y H=some (x',H')/\Acc H0 H' x' (l++new):=by
 have hnew:new.length=n:=by have:=hy.1;omega
 obtain⟨c1,c2⟩:=hy.sV;have hb1:n*by_<=most:=by
  have:n*by_<=1000*16:=Nat.mul_le_mul (by omega) hby;unfold most;omega
 have hb2:(l.length+n)*by_<=most:=by
  have:(l.length+n)*by_<=1000*16:=Nat.mul_le_mul (by omega) hby;unfold most;omega
 have hm1:n<=most:=by unfold most;omega
 have hm2:l.length+n<=most:=by unfold most;omega
 rcases a.x with⟨rfl,rfl⟩ | ⟨r,g,ty,rfl,h1,h2,h3⟩ | ⟨r,ty,rfl,h0',h1,h2⟩
 ·refine⟨_,_,Iu hy hc hn hm1 hb1,a.gro.trans (Gro.new _ _ _ _),by rw [bNew];exact a.base,.inr (.inl ⟨H.next,0,e+fA,?_,a.gro.next,by rw [nNew];omega,?_⟩)⟩
  ·simp only [zaX,hnew]
  ·rw [aJ rfl,zaX]
 ·refine⟨.sl r (g+1) 0 1 (l.length+n) (l.length+n) false,H.put r (.blk (g+1) (grT e ty 0) (l++new)),?_,a.gro.put h1,a.base,.inr (.inl ⟨r,g+1,grT e ty 0,?_,h1,h2,?_⟩)⟩
  ·simp only [Proofs.YthmoogcacpmjiaaGreat.app,c1,c2];unfold bQ;rw [if_pos ⟨hy.1,hc⟩];simp only [h3];rw [if_pos ⟨trivial,trivial,by omega⟩,if_neg hn,if_neg (by omega),if_pos ⟨hm2,hb2⟩];simp only [zah,if_false,zaR];rw [if_pos (zay a.base h1)];simp
  ·simp only [zan,hnew]
  ·simp only [aj.put,if_true]
 ·refine⟨.sl H.next 0 0 1 (l.length+n) (l.length+n) false,H.new (.blk 0 (e+fA) (l++new)),?_,a.gro.trans (Gro.new _ _ _ _),by rw [bNew];exact a.base,.inr (.inl ⟨H.next,0,e+fA,?_,a.gro.next,by rw [nNew];omega,aJ rfl⟩)⟩
  ·simp only [Proofs.YthmoogcacpmjiaaGreat.app,c1,c2];unfold bQ;rw [if_pos ⟨hy.1,hc⟩];simp only [h2];rw [if_pos ⟨trivial,trivial,by omega⟩,if_neg hn,if_neg (by omega),if_pos ⟨hm2,hb2⟩];simp
  ·simp only [zan,hnew]
theorem Yv(n:Int):∀k,k < 8->(nX n).drop (8 - (k+1))=by8 (n.fdiv (2 ^ (8*k)))::(nX n).drop (8 - k)
 | 0,_ | 1,_ | 2,_ | 3,_ | 4,_ | 5,_ | 6,_ | 7,_=> rfl
 | k+8,h=> absurd h (by omega)
theorem an7(H:aj)(hb:H.base<=H.next)(n:Int):∃y H',cl0 143 [I n] H=some (y,H')/\Acc H H' y ((nX n).map Y):=by
 have key:∀k:Nat,k<=8->∀(x:AV) (K:aj) (l:List By),Acc H K x (l.map Y)->l.length+k=8->∃y H',Bv cl0 [I n,x,I (8*(k:Int) - 8)] K=some (y,H')/\Acc H H' y ((l++(nX n).drop (8 - k)).map Y):=by
  intro k
  induction k with
  | zero=>
   intro hk x K l a hl;have h1:¬((0:Int)<=8*((0:Nat):Int) - 8):=by omega
   refine⟨x,K,?_,by rw [show(nX n).drop (8 - 0)=[] from rfl,zbh];exact a⟩;rw [Rk];simp -implicitDefEqProofs only [xq_,h1]
  | succ k ih=>
   intro hk x K l a hl;have h0:8*((k+1:Nat):Int) - 8=((8*k:Nat):Int):=by omega
   have h1:(0:Int)<=((8*k:Nat):Int):=by omega
   have e1:bi .shr 3 (I n) (I ((8*k:Nat):Int))=some (I (n.fdiv (2 ^ (8*k)))):=by
    have:=Pg (P:=Tryz.prog) (t:=3) (k:=.i64) (k':=.i64) (a:=n) h1;rw [zar,show min (8*k) (IntKind.bits .i64)=8*k from zbf (show 8*k<=64 by omega)] at this;exact this
   have e2:cv 3 5 (I (n.fdiv (2 ^ (8*k)))) K=some (Y (by8 (n.fdiv (2 ^ (8*k)))),K):=by rw [<-SB];exact acz
   obtain⟨c,hc⟩:∃c,by8 (n.fdiv (2 ^ (8*k)))=c:=⟨_,rfl⟩
   rw [hc] at e2;have b1:bs 180 1 [(0,Y c)] K=some (.sl K.next 0 0 1 1 1 true,K.new (.blk 0 5 [Y c])):=(QJ (by decide)).trans (jw rfl rfl rfl);have a1:=a.an6 (Gro.new K 0 5 [Y c]);obtain⟨x',K',p1,a2⟩:=a1.app (e:=5) (by_:=1) (n:=1) (jy (e:=5) (H:=K) (ex:=true) (n:=1) (m:=1) (l:=[Y c]) rfl) rfl (by decide) (by simp;omega) (by decide);have h2:((8*k:Nat):Int) - 8=8*(k:Int) - 8:=by omega
   have w:=wrap_i64 (a:=8*(k:Int) - 8) (by omega) (by omega);obtain⟨y,H',r1,r2⟩:=ih (by omega) x' K' (l++[c]) (by simpa using a2) (by simp;omega);refine⟨y,H',?_,?_⟩
   ·rw [Rk,h0];simp -implicitDefEqProofs only [xq_,h1,e1,e2,b1,p1,jq,h2,w,r1]
   ·rw [Yv n k (by omega),hc]
    simpa using r2
 obtain⟨y,H',r1,r2⟩:=key 8 (zac _) zN H [] ⟨Gro.refl H,hb,.inl ⟨rfl,rfl⟩⟩ rfl;refine⟨y,H',fM (ajG _ _ _ ?_),by simpa using r2⟩;have:(8*((8:Nat):Int) - 8)=56:=rfl;rw [this] at r1;simp -implicitDefEqProofs only [adu,r1]
theorem Gw {z:AV}:∀(rest pre:List AV),(∀x∈rest,One x)->dL (λi=> some (i*1,1)) (pre++bG [z] rest.length) ((rest.zipIdx pre.length).map λp=> (p.2,p.1))=some (pre++rest)
 | [],pre,_=> by simp [bG,bW]
 | x::rest,pre,h=> by
  rw [List.zipIdx_cons,zaA,DF (off:=pre.length) (by simp) (h x (by simp)).1 (by simp [bG])];have e:(pre++bG [z] (x::rest).length).set pre.length x=(pre++[x])++bG [z] rest.length:=by
   show(pre++([z]++bG [z] rest.length)).set pre.length x=_;rw [List.set_append_right _ _ (zac _),Nat.sub_self];simp
  rw [e];have ih:=Gw (z:=z) rest (pre++[x]) λy hy=> h y (by simp [hy]);rw [zan,zal,zau,za8] at ih;rw [ih];simp
theorem aa9 {e:Nat}{z:AV}{l:List AV}{H:aj}(h:∀x∈l,One x):bsl e 1 [z] l.length ((l.zipIdx 0).map λp=> (p.2,p.1)) H=some (.sl H.next 0 0 1 l.length l.length true,H.new (.blk 0 e l)):=by
 have:=Gw (z:=z) l [] h;simp only [zaX,zau] at this;unfold bsl;rw [this];have ha:l.all AV.aG=true:=zaV.2 λx hx=> (h x hx).2;simp only [ha,if_true]
theorem ak3(H:aj)(n lo hi:Int):cl0 179 [I n,I lo,I hi] H=some (B (blw n lo hi),H):=by
 refine fM (adT _ _ _ _ _ ?_);by_cases h:lo<=n
 ·simp -implicitDefEqProofs only [xq_,LQ,h,blw,zaK]
 ·simp -implicitDefEqProofs only [xq_,LQ,h,blw,zaN]
theorem ak4(H:aj)(p:Pkt){x:AV}(hx:jT H x p.data)(hok:p.ok=true):cl0 141 [.agg (p.avx x)] H=some (I 0,H.new (.blk 0 70 (p.avx x))):=by
 refine fM (ads _ _ _ ?_);have e1:=λH n lo hi=> ak3 H n lo hi;have e2:=(hx.is.new (.blk 0 70 (p.avx x))).lnS;rw [p.ok_eq] at hok;generalize a1:blw p.src 0 6=b1 at hok;generalize a2:blw p.dst 0 6=b2 at hok;generalize a3:blw p.id 0 4096=b3 at hok;generalize a4:blw p.kind 1 10=b4 at hok;generalize a5:blw p.line 0 8=b5 at hok;generalize a6:blw p.ptr (-1) 6=b6 at hok;generalize a7:blw p.state 0 3=b7 at hok;simp only [zaj] at hok;obtain⟨⟨⟨⟨⟨rfl,rfl⟩,rfl⟩,⟨⟨rfl,rfl⟩,rfl⟩⟩,rfl⟩,a8⟩:=hok;have h8:¬(4:Int) < p.data.length:=by simpa using a8
 have ax:=BZ (p:=p) hx.one;simp only [Pkt.avx] at e2 ax ⊢;simp -implicitDefEqProofs only [Nat.reduceLT,Int.reduceNeg,xq_,hq_,Xt,aA ax,e1,e2,a1,a2,a3,a4,a5,a6,a7,h8,zae]
theorem nS:∀l:List Int,(l.flatMap nX).length=l.length*8
 | []=> rfl
 | v::l=> by rw [zaH,zan,nS l,iK,zal];omega
theorem ak5 {H:aj}(hb:H.base<=H.next)(p:Pkt){x:AV}(hx:jT H x p.data)(hok:p.ok=true):
  ∃y H',cl0 94 [.agg (p.avx x)] H=some (.tup [y,I 0],H')/\Gro H H'/\bF H' y (pF p)/\H'.base<=H'.next:=by
 have hok2:=hok;simp only [Pkt.ok,zaj,decide_eq_true_eq] at hok2;have ax:=BZ (p:=p) hx.one;let o:dQ:=.blk 0 70 (p.avx x);let H1:=H.new o;let H2:=H1.new o;have g1:Gro H H1:=Gro.new H 0 _ _;have g2:Gro H1 H2:=Gro.new H1 0 _ _;have hb2:H2.base<=H2.next:=by simp only [H2,H1,bNew,nNew];omega
 have ck:=ak4 H1 p (hx.new o) hok;have at1:H1.get H.next=.blk 0 70 (p.avx x):=aJ rfl
 have at2:H2.get H.next=.blk 0 70 (p.avx x):=by rw [g2.same _ (by simp only [H1,nNew];omega)];exact at1
 have lx:(p.avx x).length=9:=rfl;have l1:lda 9 (.ref H.next 0 0) H1=some (.agg (p.avx x),H1):=(fJ (off:=0) (n:=9) at1 (by rw [lx];exact zac _)).trans rfl;have lds:∀i v,(p.avx x)[i]?=some v->ld (.ref H.next 0 i) H2=some (v,H2):=λi v hv=> by rw [dJ at2,hv];rfl
 have p0:=lds 0 (I p.kind) rfl;have p1:=lds 1 (I p.src) rfl;have p2:=lds 2 (I p.dst) rfl;have p3:=lds 3 (I p.id) rfl;have p4:=lds 4 (I p.line) rfl;have p5:=lds 5 (I p.ptr) rfl;have p6:=lds 6 (I p.state) rfl;have p7:=lds 7 (B p.flag) rfl;have p8:=lds 8 x rfl;have cv1:∀z H,cv 3 5 (I z) H=some (Y (by8 z),H):=λz H=> by rw [<-SB];exact acz
 have sh1:bi .shr 3 (I p.id) (.s (.int .u64 8))=some (I (p.id.fdiv 256)):=Pg (P:=Tryz.prog) (t:=3) (k:=.i64) (k':=.u64) (a:=p.id) (n:=8) (by decide);have w1:=wrap_i64 (a:=p.ptr+1) (by omega) (by omega);have fl:=λH=> an5 H p.flag;have hx2:=(hx.new o).new o;have ln2:=hx2.is.lnS;let hd:List By:=[by8 p.kind,by8 p.src,by8 p.dst,by8 (p.id.fdiv 256),by8 p.id,by8 p.line,by8 (p.ptr+1),by8 p.state,by8 (if p.flag then 1 else 0),by8 p.data.length]
 have bsH:bs 180 10 [(0,Y (by8 p.kind)),(1,Y (by8 p.src)),(2,Y (by8 p.dst)),(3,Y (by8 (p.id.fdiv 256))),(4,Y (by8 p.id)),(5,Y (by8 p.line)),(6,Y (by8 (p.ptr+1))),(7,Y (by8 p.state)),(8,Y (by8 (if p.flag then 1 else 0))),(9,Y (by8 p.data.length))] H2=some (.sl H2.next 0 0 1 10 10 true,H2.new (.blk 0 5 (hd.map Y))):=
  (QJ (by decide)).trans (aa9 (l:=hd.map Y) λy hy=> by
   obtain⟨c,_,rfl⟩:=zaO.1 hy;exact afB)
 let H3:=H2.new (.blk 0 5 (hd.map Y));have g3:Gro H2 H3:=Gro.new H2 0 _ _;have l3:ld (.ref H.next 0 8) H3=some (x,H3):=by
  rw [dJ (by rw [g3.same _ (by simp only [H2,H1,nNew];omega)];exact at2)];rfl
 have ln3:=(hx2.new (.blk 0 5 (hd.map Y))).is.lnS;have acc0:Acc H2 H3 (.sl H2.next 0 0 1 10 10 true) (hd.map Y):=⟨g3,by simp only [H3,bNew];exact hb2,.inr (.inr ⟨H2.next,5,rfl,zac _,by simp only [H3,nNew];omega,aJ rfl⟩)⟩
 have key:∀k i,i+k=p.data.length->∀a K,Acc H2 K a ((hd++(p.data.take i).flatMap nX).map Y)->
   ∃y H',Ja cl0 [a,x,I p.data.length,I i] K=some (.tup [y,I 0],H')/\Gro H2 H'/\bF H' y (pF p)/\H'.base<=H'.next:=by
  intro k
  induction k with
  | zero=>
   intro i hi a K ac;have h1:¬((i:Int) < p.data.length):=by omega
   rw [zas (by omega)] at ac;have hlen:(dK p).length < 900:=by
    have h2:=oN p;unfold pF iP at h2;simp only [zan,zal,zau,Pkt.bytes] at h2;omega
   have hbK:K.base<=K.next:=zay ac.base ac.gro.next
   have bK:bF K a (dK p):=by
    have:=ac.is;rw [zaF] at this;exact⟨this,by omega⟩
   obtain⟨y,H',e1,g',b',hb'⟩:=afC hbK bK hlen;refine⟨y,H',?_,ac.gro.trans g',b',hb'⟩;rw [Xf];simp -implicitDefEqProofs only [xq_,h1,e1]
  | succ k ih=>
   intro i hi a K ac;have h1:(i:Int) < p.data.length:=by omega
   have h6:(i:Int)+1=((i+1:Nat):Int):=by omega
   have h7:=wrap_i64 (a:=((i+1:Nat):Int)) (by omega) (by omega);obtain⟨v,hv⟩:∃v,p.data[i]?=some v:=⟨_,zab (by omega)⟩
   have hxK:=hx2.is.gV ac.gro.next λr _ hr=> ac.gro.same r hr
   have s1:=hxK.ix (k:=.i64) (i:=(i:Int)) (by omega) h1;rw [zar] at s1;have s2:ld (bZ x i) K=some (I v,K):=by rw [hxK.ld (by omega),zaE,hv];rfl
   have hbK:K.base<=K.next:=zay ac.base ac.gro.next
   obtain⟨y,K1,e1,aw⟩:=an7 K hbK v;have ac1:=ac.an6 aw.gro;have hy:=aw.is;have hlt:(p.data.take i).length=i:=by rw [zat];omega
   obtain⟨a2,K2,e2,ac2⟩:=ac1.app (e:=5) (by_:=1) (n:=8) (by have h:=hy;rw [zaF,iK] at h;exact h) (aaq _) (by decide) (by
    simp only [zaF,zan];have:((p.data.take i).flatMap nX).length=i*8:=by rw [nS,hlt]
    rw [this];simp only [hd,zal,zau];omega) (by decide)
   have hap:((hd++(p.data.take i).flatMap nX).map Y)++(nX v).map Y=(hd++(p.data.take (i+1)).flatMap nX).map Y:=by
    rw [List.take_add_one,hv];simp
   rw [hap] at ac2;obtain⟨y',H',r1,r2,r3,r4⟩:=ih (i+1) (by omega) a2 K2 ac2;refine⟨y',H',?_,r2,r3,r4⟩;rw [Xf];simp -implicitDefEqProofs only [xq_,h1,s1,s2,e1,e2,aW,h6,h7,r1]
 obtain⟨y,H',r1,r2,r3,r4⟩:=key p.data.length 0 (by omega) _ H3 (by simpa using acc0);refine⟨y,H',fM (anP _ _ _ ?_),(g1.trans g2).trans r2,r3,r4⟩;have z0:((0:Nat):Int)=0:=rfl;rw [z0] at r1;simp only [H1,H2,H3,o,nNew] at ck l1 p0 p1 p2 p3 p4 p5 p6 p7 p8 ln2 bsH l3 ln3 r1;simp -implicitDefEqProofs only [Nat.reduceLT,xq_,aiZ,aA ax,l1,ck,p0,p1,p2,p3,p4,p5,p6,p7,p8,cv1,sh1,aW,w1,fl,ln2,bsH,l3,ln3,zae,r1]
def nmS(s:BitVec 64)(l:List By):BitVec 64:=l.foldl (λs c=> (s <<< 8) ||| c.setWidth 64) s
def nmV(l:List By):Int:=(nmS 0#64 l).toInt
theorem wrap_toInt(s:BitVec 64):IntKind.wrap .i64 (s.toNat:Int)=s.toInt:=by
 have h:=s.isLt;simp only [IntKind.wrap,IntKind.bits,IntKind.signed,BitVec.toInt_eq_toNat_cond,zaK,decide_eq_true_eq,ge_iff_le];split <;> split <;> omega
theorem afW {H:aj}{y:AV}{l:List By}(hx:bF H y l):cl0 147 [y] H=some (I (nmV l),H):=by
 have key:∀(k i:Nat),i+k=l.length->∀s:BitVec 64,Bz cl0 [U64 s,y,I l.length,I i] H=some (I (nmS s (l.drop i)).toInt,H):=by
  intro k
  induction k with
  | zero=>
   intro i hi s;have h1:¬((i:Int) < l.length):=by omega
   have e1:cv 232 3 (U64 s) H=some (I s.toInt,H):=by rw [<-wrap_toInt];exact aae (k:=.u64)
   rw [Rn,zaU (by omega)];simp -implicitDefEqProofs only [xq_,h1,e1]
   try rfl
  | succ k ih=>
   intro i hi s;have h1:(i:Int) < l.length:=by omega
   have h6:(i:Int)+1=((i+1:Nat):Int):=by omega
   have h7:=wrap_i64 (a:=((i+1:Nat):Int)) (by have:=hx.small;omega) (by have:=hx.small;omega);obtain⟨c,hc⟩:∃c,l[i]?=some c:=⟨_,zab (by omega)⟩
   have s1:=hx.ix (i:=i) (by omega);have s2:=hx.ld hc;have e1:cv 5 232 (Y c) H=some (U64 (c.setWidth 64),H):=
    (aac (k:=.u8) (n:=(c.toNat:Int)) (H:=H)).trans (congrArg (λv=> some (v,H)) (ah0 (k:=.u8) (k':=.u64) rfl c))
   have e2:bi .shl 232 (U64 s) (.s (.int .u64 8))=some (U64 (s <<< 8)):=WL (k:=.u64) rfl s 8 (by decide) (by decide);have e3:bi .or 232 (U64 (s <<< 8)) (U64 (c.setWidth 64))=some (U64 ((s <<< 8) ||| c.setWidth 64)):=aoU (k:=.u64) rfl _ _;have hd:l.drop i=c::l.drop (i+1):=by
    rw [zbo (by omega)];rw [zab (by omega)] at hc;rw [za2 hc]
   have ih1:=ih (i+1) (by omega) ((s <<< 8) ||| c.setWidth 64);have e5:nmS s (c::l.drop (i+1))=nmS ((s <<< 8) ||| c.setWidth 64) (l.drop (i+1)):=rfl;rw [Rn,hd,e5,<-ih1];simp -implicitDefEqProofs only [xq_,h1,s1,s2,e1,e2,e3,aW,h6,h7]
   try rfl
 refine fM (ajJ _ _ _ ?_);have s0:=hx.is.lnS;have k0:=key l.length 0 (by omega) 0#64;rw [zaR] at k0;simp -implicitDefEqProofs only [xq_,ady,s0];exact k0
theorem or8 {s:BitVec 64}(c:By)(h:s.toNat < 2 ^ 56):((s <<< 8) ||| c.setWidth 64).toNat=s.toNat*256+c.toNat:=by
 have hc:=c.isLt;have h1:(s <<< 8).toNat=s.toNat <<< 8:=by
  rw [BitVec.toNat_shiftLeft,zcf];rw [Nat.shiftLeft_eq];omega
 have h2:(c.setWidth 64).toNat=c.toNat:=by rw [BitVec.toNat_setWidth,zcf (by omega)]
 rw [BitVec.toNat_or,h1,h2,<-Nat.shiftLeft_add_eq_or_of_lt hc,Nat.shiftLeft_eq]
theorem oQ {N b:Nat}{s:BitVec 64}{c:By}(hs:s.toNat=N / (b*256))(hc:c.toNat=N / b % 256)(hN:N < 2 ^ 64)(hb:0 < b):((s <<< 8) ||| c.setWidth 64).toNat=N / b:=by
 have h0:N / (b*256)=N / b / 256:=(Nat.div_div_eq_div_mul N b 256).symm;have h1:N / b<=N:=Nat.div_le_self N b;rw [or8 c (by rw [hs,h0];omega),hs,hc,h0];omega
theorem Yw(n:Int)(j:Nat)(hj:j+8<=64):(n / 2 ^ j) % 256=((n % 18446744073709551616) / 2 ^ j) % 256:=by
 have h64:(18446744073709551616:Int)=2 ^ j*2 ^ (64 - j):=by
  rw [<-Int.pow_add,show j+(64 - j)=64 by omega];rfl
 have h256:(2:Int) ^ (64 - j)=256*2 ^ (56 - j):=by
  rw [show 64 - j=8+(56 - j) by omega,Int.pow_add];rfl
 have hne:(2:Int) ^ j≠0:=Int.pow_ne_zero (by decide);have hq:n=n % 18446744073709551616+2 ^ j*(2 ^ (64 - j)*(n / 18446744073709551616)):=by
  rw [<-Int.mul_assoc,<-h64];exact(Int.emod_add_mul_ediv n 18446744073709551616).symm
 obtain⟨r,hr⟩:∃r,n % 18446744073709551616=r:=⟨_,rfl⟩
 obtain⟨q,hqq⟩:∃q,n / 18446744073709551616=q:=⟨_,rfl⟩
 rw [hr,hqq] at hq;rw [hr,hq,Int.add_mul_ediv_left _ _ hne,h256,Int.mul_assoc,Int.add_mul_emod_self_left]
theorem Yx(n:Int)(k:Nat)(hk:k < 8){N:Nat}(hN:(N:Int)=n % 18446744073709551616):(by8 (n.fdiv (2 ^ (8*k)))).toNat=N / 2 ^ (8*k) % 256:=by
 have h:=lH (n.fdiv (2 ^ (8*k)));have hp:(0:Int)<=2 ^ (8*k):=Int.pow_nonneg (by decide);rw [zbZ _ hp] at h ⊢;rw [Yw n (8*k) (by omega),<-hN] at h;have h2:((N:Int) / 2 ^ (8*k)) % 256=((N / 2 ^ (8*k) % 256:Nat):Int):=by
  rw [Int.natCast_emod,Int.natCast_ediv,Int.natCast_pow];rfl
 rw [h2] at h;exact Int.ofNat_inj.1 h
theorem Jw {n:Int}(h:I64 n):nmV (nX n)=n:=by
 obtain⟨h1,h2⟩:=h;obtain⟨N,hN⟩:∃N:Nat,(N:Int)=n % 18446744073709551616:=⟨(n % 18446744073709551616).toNat,Int.toNat_of_nonneg (Int.emod_nonneg _ (by decide))⟩
 have hlt:N < 2 ^ 64:=by omega
 have w:=λk hk=> Yx n k hk hN;have s7:=oQ (N:=N) (b:=2 ^ 56) (s:=0#64) (by rw [Nat.div_eq_of_lt (by omega)];rfl) (w 7 (by decide)) hlt (by decide);have s6:=oQ (b:=2 ^ 48) s7 (w 6 (by decide)) hlt (by decide);have s5:=oQ (b:=2 ^ 40) s6 (w 5 (by decide)) hlt (by decide);have s4:=oQ (b:=2 ^ 32) s5 (w 4 (by decide)) hlt (by decide);have s3:=oQ (b:=2 ^ 24) s4 (w 3 (by decide)) hlt (by decide);have s2:=oQ (b:=2 ^ 16) s3 (w 2 (by decide)) hlt (by decide);have s1:=oQ (b:=2 ^ 8) s2 (w 1 (by decide)) hlt (by decide);have s0:=oQ (b:=1) s1 (w 0 (by decide)) hlt (by decide);have e:(nmS 0#64 (nX n)).toNat=N / 1:=s0;unfold nmV;rw [BitVec.toInt_eq_toNat_cond,e];split <;> omega
theorem rG {a b:Int}(h:by8 a=by8 b):a % 256=b % 256:=by
 have:=congrArg (λc:By=> (c.toNat:Int)) h;simp only [lH] at this;exact this
theorem Nk:∀{l m:List Int},(∀v∈l,I64 v)->(∀v∈m,I64 v)->l.flatMap nX=m.flatMap nX->l=m
 | [],[],_,_,_=> rfl
 | [],b::m,_,_,h=> by have:=congrArg List.length h;rw [nS,nS] at this;simp at this
 | a::l,[],_,_,h=> by have:=congrArg List.length h;rw [nS,nS] at this;simp at this
 | a::l,b::m,hl,hm,h=> by
  rw [zaH,zaH] at h;obtain⟨h1,h2⟩:=List.append_inj h rfl;have h3:=congrArg nmV h1;rw [Jw (hl a (by simp)),Jw (hm b (by simp))] at h3;rw [h3,Nk (λv hv=> hl v (by simp [hv])) (λv hv=> hm v (by simp [hv])) h2]
theorem pack_inj {p q:Pkt}(hp:p.fit)(hq:q.fit)(h:pF p=pF q):p=q:=by
 unfold pF iP at h;have hlen:(dK p).length=(dK q).length:=by
  have:=congrArg List.length h;simp only [zan,zal,zau] at this;omega
 obtain⟨h1,_⟩:=List.append_inj h hlen;unfold dK at h1;obtain⟨h2,h3⟩:=List.append_inj h1 rfl;have hd:=Nk hp.num hq.num h3;have a:=hp.ok;have b:=hq.ok;simp only [Pkt.ok,zaj,decide_eq_true_eq] at a b;simp only [zbX,and_true] at h2;obtain⟨e1,e2,e3,e4,e5,e6,e7,e8,e9,_⟩:=h2;have i1:=rG e1;have i2:=rG e2;have i3:=rG e3;have i4:=rG e4;have i5:=rG e5;have i6:=rG e6;have i7:=rG e7;have i8:=rG e8;have i9:=rG e9;rw [zbZ _ (by decide),zbZ _ (by decide)] at i4;rcases p with⟨p1,p2,p3,p4,p5,p6,p7,p8,p9⟩
 rcases q with⟨q1,q2,q3,q4,q5,q6,q7,q8,q9⟩
 simp only at*;have f8:p8=q8:=by
  cases p8 <;> cases q8 <;> first | rfl | (simp at i9)
 subst hd;subst f8;have:p1=q1/\p2=q2/\p3=q3/\p4=q4/\p5=q5/\p6=q6/\p7=q7:=by omega
 obtain⟨rfl,rfl,rfl,rfl,rfl,rfl,rfl⟩:=this;rfl
end
end Go.Proofs.YthmoogcacpmjiaaGreat
