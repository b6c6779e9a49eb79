/-
  Own work: an interpreter over named blocks, its soundness, and what the functions of this seat compute (part 8 of 12).
  Conditions: those of the statement alone.
-/
import Derived.RangeFuncLeaves
import Derived.Test.YtgplhpgkompkmaaGreatJg
set_option linter.all false
set_option linter.unusedSectionVars false
set_option linter.unusedVariables false
set_option linter.unusedSimpArgs false
namespace Go.Proofs.YtgplhpgkompkmaaGreat
noncomputable section
abbrev zPk:List AV:=[zI,zI,zI,zI,zI,zI,zI,zB,zN]
def cvI(c:By)(H:ah):cv 5 3 (Y c) H=some (I (c.toNat:Int),H):=by
 have h:=c.isLt;have:=anf (k:=.u8) (n:=(c.toNat:Int)) (H:=H);rw[wrap_i64 V V]at this;exact this
def auq {z:Int}(h0:0<=z)(e:z<4096):(BitVec.ofInt 64 (z / 256*256) ||| BitVec.ofInt 64 (z % 256)).toNat=z.toNat:=by
 obtain⟨N,rfl⟩:∃N:Nat,z=N:=⟨z.toNat,V⟩
 have b:((N:Int) / 256*256)=((N / 256*256:Nat):Int):=V
 have d:((N:Int) % 256)=((N % 256:Nat):Int):=V
 rw[b,d,zdy,zdy,BitVec.toNat_or,zct,zct,zcq V,zcq V,zam];have:=Nat.shiftLeft_add_eq_or_of_lt (show N % 256<2 ^ 8 by omega) (N / 256);rw[zds]at this;rw[show N / 256*256=N / 256*2 ^ 8 from rfl,<-this];omega
def ajs(H:ah)(b:AV)(h:One b):cl0 179 [b,I 8] H=some (.fn (.func 214) [] [.ref H.next 0 0,.ref (H.next+1) 0 0],(H.new (.blk 0 220 [b])).new (.blk 0 3 [I 8])):=by
 refine iR (apC _ _ _ _ ?_);have d:fM 220 b H=some (.ref H.next 0 0,H.new (.blk 0 220 [b])):=by
  have:=V5 (t:=220) (v:=b) (H:=H) (by rw[h.1];simp[h.2]) J;rw[h.1]at this;exact this
 have e:∀H,fM 3 (I 8) H=some (.ref H.next 0 0,H.new (.blk 0 3 [I 8])):=λH=>V5 (t:=3) (v:=I 8) (H:=H) rfl J;simp only[Int.reduceLT,xq_,hq_,aiJ,Om,d,e]
structure PcA(H HA:ah)(p:Pkt)(r6 r8 ry:Nat):Prop where
 gro:Gro H HA
 six:HA.get r6=.blk 0 81 (p.avx zN)
 lo:H.next<r6
 ry6:ry<r6
 hi:r6<r8
 top:HA.next=r8+1+1
 ar0:HA.get r8=.blk 0 220 [.sl ry 0 10 1 (8*p.data.length) (8*p.data.length) false]
 ar1:HA.get (r8+1)=.blk 0 3 [I 8]
 by_:dJ HA (.sl ry 0 0 1 (fG p).length (fG p).length false) (fG p)
 two:HA.get H.next=.blk 0 81 zPk
def Jg(p:Pkt):(fG p).length=10+8*p.data.length:=by
 unfold fG;rw[zar,qL];simp only[zak,zan];omega
def aqT {H:ah}(hb:H.base<=H.next){x:AV}{p:Pkt}(hp:p.fit)(hx:dJ H x (sS p)):
  ∃r6 rs ry HA,UK cl0 x H=some ([x,.ref H.next 0 0,.ref r6 0 0,.fn (.func 214) [] [.ref rs 0 0,.ref (rs+1) 0 0]],HA)/\PcA H HA p r6 rs ry:=by
 have ok:=hp.ok;simp only[Pkt.ok,zah,decide_eq_true_eq]at ok;have hlen:=Jg p;have hl:(fG p).length<800:=by omega
 have h0:fG p≠[]:=λe=>by rw[e]at hlen;simp at hlen;omega
 let H1:=H.new (.blk 0 81 zPk);have g1:Gro H H1:=Gro.new H 0 _ _;have hb1:H1.base<=H1.next:=by simp only[H1,jh,eF];omega
 obtain⟨y,H2,e1,g2,by2,ry,rfl⟩:=akY hb1 (m:=fG p) (hx.gro g1) hl h0;have ln:=by2.is.lnS;have at_:∀(i:Nat) (c:By),(fG p)[i]?=some c->ix 1 (.sl ry 0 0 1 (fG p).length (fG p).length false) (I i) H2=some (eP (.sl ry 0 0 1 (fG p).length (fG p).length false) i,H2)/\ld (eP (.sl ry 0 0 1 (fG p).length (fG p).length false) i) H2=some (Y c,H2):=λi c hc=>⟨by2.ix (zaf.1 hc).1,by2.ld hc⟩
 obtain⟨i9,l9⟩:=at_ 9 (by8 p.data.length) rfl;have hry:=by2.is.2.2.2.1.1;have b9:((by8 (p.data.length:Int)).toNat:Int)=p.data.length:=by rw[oH];omega
 have q1:¬(10+8*(p.data.length:Int)<10):=by omega
 have w1:=wrap_i64 (a:=8*(p.data.length:Int)) (by omega) (by omega);have w2:=wrap_i64 (a:=10+8*(p.data.length:Int)) (by omega) (by omega);have q2:((fG p).length:Int)=10+8*(p.data.length:Int):=by omega
 let zz:gB:=.blk 0 81 zPk;let H3:=H2.new zz;have g3:Gro H2 H3:=Gro.new H2 0 _ _;have by3:=by2.gro g3;have at3:∀(i:Nat) (c:By),(fG p)[i]?=some c->ix 1 (.sl ry 0 0 1 (fG p).length (fG p).length false) (I i) H3=some (eP (.sl ry 0 0 1 (fG p).length (fG p).length false) i,H3)/\ld (eP (.sl ry 0 0 1 (fG p).length (fG p).length false) i) H3=some (Y c,H3):=λi c hc=>⟨by3.ix (zaf.1 hc).1,by3.ld hc⟩
 obtain⟨i0,l0⟩:=at3 0 (by8 p.aU) rfl;obtain⟨i1,l1⟩:=at3 1 (by8 p.src) rfl;obtain⟨i2,l2⟩:=at3 2 (by8 p.dst) rfl;obtain⟨i3,l3⟩:=at3 3 (by8 (p.id.fdiv 256)) rfl;obtain⟨i4,l4⟩:=at3 4 (by8 p.id) rfl;obtain⟨i5,l5⟩:=at3 5 (by8 p.ak) rfl;obtain⟨i6,l6⟩:=at3 6 (by8 (p.ptr+1)) rfl;obtain⟨i7,l7⟩:=at3 7 (by8 p.state) rfl;obtain⟨i8,l8⟩:=at3 8 (by8 (if p.flag then 1 else 0)) rfl;have f0:((by8 p.aU).toNat:Int)=p.aU:=by rw[oH];omega
 have f1:((by8 p.src).toNat:Int)=p.src:=by rw[oH];omega
 have f2:((by8 p.dst).toNat:Int)=p.dst:=by rw[oH];omega
 have f3:((by8 (p.id.fdiv 256)).toNat:Int)=p.id / 256:=by rw[oH,zb1 _ (by decide)];omega
 have f4:((by8 p.id).toNat:Int)=p.id % 256:=by rw[oH]
 have f5:((by8 p.ak).toNat:Int)=p.ak:=by rw[oH];omega
 have f6:((by8 (p.ptr+1)).toNat:Int)=p.ptr+1:=by rw[oH];omega
 have f7:((by8 p.state).toNat:Int)=p.state:=by rw[oH];omega
 have sh:bi .shl 3 (I (p.id / 256)) (.s (.int .u64 8))=some (I (p.id / 256*256)):=by
  have:=aa3 (P:=Tryz.prog) (t:=3) (k:=.i64) (k':=.u64) (a:=p.id / 256) (n:=8) (by decide);rw[show(p.id / 256*2 ^ (min (8:Int).toNat (IntKind.bits .i64)):Int)=p.id / 256*256 from rfl,wrap_i64 (by omega) (by omega)]at this;exact this
 have eo:bi .or 3 (I (p.id / 256*256)) (I (p.id % 256))=some (I p.id):=by
  have:=ahC (P:=Tryz.prog) (t:=3) (k:=.i64) (a:=p.id / 256*256) (b:=p.id % 256);rw[show(BitVec.ofInt (IntKind.bits .i64) (p.id / 256*256) ||| BitVec.ofInt (IntKind.bits .i64) (p.id % 256)).toNat=p.id.toNat from auq (by omega) (by omega),zbH (by omega),wrap_i64 (by omega) (by omega)]at this;exact this
 have s6:p.ptr+1-1=p.ptr:=by omega
 have w6:=wrap_i64 (a:=p.ptr) (by omega) (by omega);have e8:bi .eql 5 (Y (by8 (if p.flag then 1 else 0))) (.s (.int .u8 1))=some (B p.flag):=by
  cases p.flag <;> kernel_rfl
 have ebd:bd 81 [(0,I p.aU),(1,I p.src),(2,I p.dst),(3,I p.id),(4,I p.ak),(5,I p.ptr),(6,I p.state),(7,B p.flag)]=some (.agg (p.avx zN)):=by
  simp only[xq_,zC,jg,fK,Ue,Pkt.avx];rfl
 have aqU:H2.base<=H2.next:=by rw[g2.base];exact zav hb1 g2.next
 have st1:st 9 (.ref H2.next 0 0) (.agg (p.avx zN)) H3=some (aY,H2.new (.blk 0 81 (p.avx zN))):=by
  rw[uf rfl,if_pos ⟨aqU,rfl,FZ qx,show 0+9<=9 by omega⟩];rfl
 let H4:=H2.new (.blk 0 81 (p.avx zN));have s10:slS 1 (.sl ry 0 0 1 (fG p).length (fG p).length false) (some (I 10)) none none=some (.sl ry 0 10 1 (8*p.data.length) (8*p.data.length) false):=by
  rw[EX (by decide) (by omega) (zac _)];have e10:(10:Int).toNat=10:=rfl;have q3:(fG p).length-10=8*p.data.length:=by omega
  rw[e10,q3]
 let sv:AV:=.sl ry 0 10 1 (8*p.data.length) (8*p.data.length) false;have ec:=ajs H4 sv wU;have g4:Gro H2 H4:=Gro.new H2 0 _ _;let H5:=H4.new (.blk 0 220 [sv]);let H6:=H5.new (.blk 0 3 [I 8]);have g5:Gro H4 H5:=Gro.new H4 0 _ _;have g6:Gro H5 H6:=Gro.new H5 0 _ _;have n4:H4.next=H2.next+1:=eF
 have n5:H5.next=H2.next+1+1:=by simp only[H5,eF,n4]
 have n6:H6.next=H2.next+1+1+1:=by simp only[H6,eF,n5]
 have l2n:=g2.next
 have l1n:H1.next=H.next+1:=eF
 refine⟨H2.next,H4.next,ry,H6,?_,?_⟩
 ·simp only[H1,H3,zz]at e1 i0 l0 i1 l1 i2 l2 i3 l3 i4 l4 i5 l5 i6 l6 i7 l7 i8 l8 st1;have i9:ix 1 (.sl ry 0 0 1 (fG p).length (fG p).length false) (I 9) H2=_:=i9;have i0:ix 1 (.sl ry 0 0 1 (fG p).length (fG p).length false) (I 0) (H2.new (.blk 0 81 zPk))=_:=i0;have i1:ix 1 (.sl ry 0 0 1 (fG p).length (fG p).length false) (I 1) (H2.new (.blk 0 81 zPk))=_:=i1;have i2:ix 1 (.sl ry 0 0 1 (fG p).length (fG p).length false) (I 2) (H2.new (.blk 0 81 zPk))=_:=i2;have i3:ix 1 (.sl ry 0 0 1 (fG p).length (fG p).length false) (I 3) (H2.new (.blk 0 81 zPk))=_:=i3;have i4:ix 1 (.sl ry 0 0 1 (fG p).length (fG p).length false) (I 4) (H2.new (.blk 0 81 zPk))=_:=i4;have i5:ix 1 (.sl ry 0 0 1 (fG p).length (fG p).length false) (I 5) (H2.new (.blk 0 81 zPk))=_:=i5;have i6:ix 1 (.sl ry 0 0 1 (fG p).length (fG p).length false) (I 6) (H2.new (.blk 0 81 zPk))=_:=i6;have i7:ix 1 (.sl ry 0 0 1 (fG p).length (fG p).length false) (I 7) (H2.new (.blk 0 81 zPk))=_:=i7;have i8:ix 1 (.sl ry 0 0 1 (fG p).length (fG p).length false) (I 8) (H2.new (.blk 0 81 zPk))=_:=i8;simp only[xq_,UK,e1,zae,ln,q1,i9,l9,cvI,b9,iM,w1,bI,w2,q2,i0,l0,i1,l1,i2,l2,i3,l3,i4,l4,i5,l5,i6,l6,i7,l7,i8,l8,f0,f1,f2,f3,f4,f5,f6,f7,sh,eo,lH,s6,w6,e8,ebd,st1,s10];have ec2:=ajs (H2.new (.blk 0 81 (p.avx zN))) (.sl ry 0 10 1 (8*p.data.length) (8*p.data.length) false) wU;rw[ec2];rfl
 ·have by6:=((by2.gro g4).gro g5).gro g6;refine⟨(((g1.trans g2).trans g4).trans g5).trans g6,?_,by omega,hry,by omega,by omega,?_,?_,by6,?_⟩
  ·rw[g6.same _ (by omega),g5.same _ (by omega)];exact aP rfl
  ·rw[g6.same _ (by omega)];exact aP rfl
  ·exact aP (by omega)
  ·rw[g6.same _ (by omega),g5.same _ (by omega),g4.same _ (by omega),g2.same _ (by omega)];exact aP rfl
def XC:∀(l:List Int) (i:Nat) (v:Int),l[i]?=some v->((l.flatMap qR).drop (8*i)).take 8=qR v
 |[],i,v,h=>by simp at h
 |a::l,0,v,h=>by
  simp only[zaY,zaa]at h;subst h;rw[zaE,Nat.mul_zero,zaS,zcl (by rw[jK];exact zac _),zay (by rw[jK];exact zac _)]
 |a::l,i+1,v,h=>by
  rw[zaE,show 8*(i+1)=8+8*i by omega,<-zbN,List.drop_left' (jK a)];exact XC l i v (by simpa using h)
def ali {p:Pkt}{i:Nat}{v:Int}(h:p.data[i]?=some v):((fG p).drop (10+8*i)).take 8=qR v:=by
 unfold fG;rw[<-zbN,List.drop_left' (i:=10) O];exact XC _ _ _ h
abbrev Jh(ry i:Nat):AV:=.sl ry 0 (10+8*i) 1 8 8 true
def alj {K:ah}{p:Pkt}{b i:Nat}{v:Int}(hb:dJ K (.sl b 0 0 1 (fG p).length (fG p).length false) (fG p))(h:p.data[i]?=some v):dJ K (Jh b i) (qR v):=by
 obtain⟨⟨n,_,_,⟨g,_⟩,j,all,k,m,d⟩,o⟩:=hb;have hi:=(zaf.1 h).1;have e:=Jg p;rw[zaS,zby]at d;rw[za7,zby]at m;refine⟨⟨O,rfl,rfl,⟨g,zac _⟩,j,all,k,by rw[jK];omega,?_⟩,by rw[jK];decide⟩;rw[jK,<-ali h,zcy,zdo,d,zcI,zb4,zbm V]
def ajt(b:ah)(p:Pkt)(r6:Nat)(pre:List (Fin p.data.length))(K:ah):Prop:=
 ∃z,Acc (b.put r6 (.blk 0 81 (p.avx z))) K z (pre.map λx=>I (p.data.getD x.val 0))/\(pre=[]->z=zN)
def uz {H:ah}{r:Nat}{o:gB}:(H.put r o).get r=o:=by simp[ah.put]
def xJ {H:ah}{r x:Nat}{o:gB}(h:x≠r):(H.put r o).get x=H.get x:=by simp[ah.put,h]
def xu.put {H:ah}(h:xu H)(r g ty:Nat)(xs:List AV):xu (H.put r (.blk g ty xs)):=λx k b=>by
 by_cases e:x=r
 ·subst e;rw[uz];simp
 ·rw[xJ e];exact h x k b
def aqV {H HA:ah}(hb:H.base<=H.next)(hn0:xu HA){p:Pkt}(hp:p.fit){r6 r8 ry:Nat}(A:PcA H HA p r6 r8 ry){pre:List (Fin p.data.length)}{K:ah}(hi:ajt HA p r6 pre K)(hl:pre.length<p.data.length)(x:Fin p.data.length):
  ∃K',UL cl0 (.ref r6 0 0) (Jh ry x.val) K=some ([],K')/\ajt HA p r6 (pre++[x]) K':=by
 have ok:=hp.ok;simp only[Pkt.ok,zah,decide_eq_true_eq]at ok;obtain⟨z,ac,_⟩:=hi;have h6:r6<HA.next:=by have:=A.hi;have:=A.top;omega
 have g0:=ac.gro;have at6:K.get r6=.blk 0 81 (p.avx z):=by rw[g0.same r6 h6,uz]
 obtain⟨v,hv⟩:∃v,p.data[x.val]?=some v:=⟨_,zab x.isLt⟩
 have hvd:p.data.getD x.val 0=v:=by rw[zaA,hv];rfl
 have byK:dJ K (.sl ry 0 0 1 (fG p).length (fG p).length false) (fG p):=by
  refine⟨A.by_.is.iQ g0.next λr hr hlt=>?_,A.by_.small⟩;have:r=ry:=(zaW hr).symm;subst this;rw[g0.same _ hlt,xJ (by have:=A.ry6;omega)]
 have cb:=alj byK hv;have num:=alg (H:=K.guard) ⟨cb.is.guard,cb.small⟩;rw[OJ (hp.num v (zas hv))]at num;have l8:ld (.ref r6 0 8) K=some (z,K):=by rw[dU at6];rfl
 have b1:bs 22 1 [(0,I v)] K=some (.sl K.next 0 0 1 1 1 true,K.new (.blk 0 3 [I v])):=(Nz (by decide)).trans (jP rfl rfl rfl);have a1:=ac.auo (Gro.new K 0 3 [I v]);obtain⟨z',K2,e2,a2⟩:=a1.app (e:=3) (by_:=8) (n:=1) (jX (e:=3) (H:=K) (ex:=true) (n:=1) (m:=1) (l:=[I v]) rfl) rfl (by decide) (by rw[zaz];omega) (by decide);have avY:K2.get r6=.blk 0 81 (p.avx z):=by rw[a2.gro.same r6 h6,uz]
 have hbase:K2.base<=r6:=by
  rw[a2.gro.base];show HA.base<=r6;rw[A.gro.base];have:=A.lo;omega
 have e3:st 1 (.ref r6 0 8) z' K2=some (aY,K2.put r6 (.blk 0 81 (p.avx z'))):=Ws (a2.one) avY hbase (show 8<9 by decide);refine⟨K2.put r6 (.blk 0 81 (p.avx z')),?_,z',⟨⟨a2.gro.next,a2.gro.base,λr hr=>?_,λh=>?_⟩,a2.base,?_⟩,λh=>by simp at h⟩
 ·simp only[xq_,UL,l8,num,b1,e2,e3]
 ·by_cases e:r=r6
  ·subst e;rw[uz,uz]
  ·rw[xJ e,xJ e,a2.gro.same r hr,xJ e]
 ·exact(a2.gro.Q8 (hn0.put _ _ _ _)).put _ _ _ _
 ·have hcells:(pre.map λx=>I (p.data.getD x.val 0))++[I v]=(pre++[x]).map λx=>I (p.data.getD x.val 0):=by
   rw[zbn,zaD,zbT,hvd]
  rw[<-hcells];rcases a2.x with h|⟨r,g,ty,h0,h1,h2,h3⟩|⟨r,ty,h0,h1,h2,h3⟩
  ·exact .inl h
  ·exact .inr (.inl ⟨r,g,ty,h0,h1,h2,by rw[xJ (by have:HA.next<=r:=h1;omega)];exact h3⟩)
  ·exact .inr (.inr ⟨r,ty,h0,h1,h2,by rw[xJ (by have:HA.next<=r:=h1;omega)];exact h3⟩)
def afK {p:Pkt}{pre:List (Fin p.data.length)}(h:pre.map (λx=>x.val)=List.range p.data.length):(pre.map λx=>I (p.data.getD x.val 0))=p.data.map I:=by
 have:(pre.map λx=>I (p.data.getD x.val 0))=(pre.map λx=>x.val).map λi=>I (p.data.getD i 0):=by rw[zcZ];rfl
 rw[this,h]
 apply zbc
 intro i;rw[zaw,zaw];by_cases hi:i<p.data.length
 ·rw[zbi hi,zab hi];simp only[zaj,zaA,zab hi,zat]
 ·rw[zaI (by simpa using hi),zaI V];rfl
def aqW {H HA:ah}(hb:H.base<=H.next)(hn0:xu HA){x:AV}{p:Pkt}(hp:p.fit)(hx:dJ H x (sS p))(hx0:∀r,iE x≠some r){r6 r8 ry:Nat}(A:PcA H HA p r6 r8 ry)(h2:HA.get H.next=.blk 0 81 zPk){pre:List (Fin p.data.length)}{K:ah}(hi:ajt HA p r6 pre K)(hall:pre.map (λx=>x.val)=List.range p.data.length):
  ∃z K',UM cl0 x (.ref H.next 0 0) (.ref r6 0 0) K=some (.tup [.agg (p.avx z),I 0],K')/\xu K'/\((z=zN/\p.data=[])∨(p.data≠[]/\∃r g ex ty,z=.sl r g 0 1 p.data.length p.data.length ex/\K'.get r=.blk g ty (p.data.map I))):=by
 obtain⟨z,ac,hz⟩:=hi;rw[afK hall]at ac;have h6:r6<HA.next:=by have:=A.hi;have:=A.top;omega
 have g0:=ac.gro;have hnx:H.next<HA.next:=by have:=A.lo;omega
 have at6:K.get r6=.blk 0 81 (p.avx z):=by rw[g0.same r6 h6,uz]
 have at0:K.get H.next=.blk 0 81 zPk:=by rw[g0.same _ hnx,xJ (by have:=A.lo;omega)];exact h2
 have hbK:K.base<=K.next:=zav ac.base g0.next
 have hnil:p.data=[]->z=zN:=λh=>hz (by
  have:=congrArg List.length hall;rw[zaz,zcB]at this;have h2:p.data.length=0:=by rw[h];rfl
  exact zaq (by omega))
 have hnz:nH K z p.data:=⟨by have:=ac.is;rwa [zaz]at this,ac.one,hnil⟩
 have lx:∀z,(p.avx z).length=9:=λ_=>rfl;have l6:lda 9 (.ref r6 0 0) K=some (.agg (p.avx z),K):=(iP (off:=0) (n:=9) at6 (by rw[lx];exact zac _)).trans rfl;obtain⟨y,K1,e1,g1,b1,hb1⟩:=aqS hbK p hnz hp.ok;have hx1:dJ K1 x (sS p):=by
  refine⟨hx.is.iQ ?_ λr hr _=>absurd hr (hx0 r),hx.small⟩;exact zav (Nat.le_of_lt hnx) (zav g0.next g1.next)
 have e2:=ab8 b1 hx1;rw[decide_eq_true rfl]at e2;have l6':lda 9 (.ref r6 0 0) K1=some (.agg (p.avx z),K1):=(iP (off:=0) (n:=9) (by rw[g1.same _ (zax h6 g0.next)];exact at6) (by rw[lx];exact zac _)).trans rfl;have avZ:K1.get H.next=.blk 0 81 zPk:=by rw[g1.same _ (zax hnx g0.next)];exact at0
 have hbase:K1.base<=H.next:=by
  rw[g1.base,g0.base];show HA.base<=H.next
  rw[A.gro.base];exact hb
 have e3:st 9 (.ref H.next 0 0) (.agg (p.avx z)) K1=some (aY,K1.put H.next (.blk 0 81 (p.avx z))):=by
  rw[Wu (FZ ac.one) (lx z) avZ hbase (by decide)];rfl
 have e4:lda 9 (.ref H.next 0 0) (K1.put H.next (.blk 0 81 (p.avx z)))=some (.agg (p.avx z),K1.put H.next (.blk 0 81 (p.avx z))):=(iP (off:=0) (n:=9) uz (by rw[lx];exact zac _)).trans rfl;refine⟨z,K1.put H.next (.blk 0 81 (p.avx z)),?_,(g1.Q8 (g0.Q8 (hn0.put _ _ _ _))).put _ _ _ _,?_⟩
 ·simp only[xq_,UM,l6,e1,e2,zae,l6',e3,e4]
 ·have keep:∀r,HA.next<=r->r<K.next->(K1.put H.next (.blk 0 81 (p.avx z))).get r=K.get r:=λr h1 h2=>by
   rw[xJ (by omega),g1.same r h2]
  by_cases hd:p.data=[]
  ·exact .inl ⟨hnil hd,hd⟩
  rcases ac.x with⟨h,h'⟩|⟨r,g,ty,h0,h1,h2,h3⟩|⟨r,ty,h0,h1,h2,h3⟩
  ·exact .inl ⟨h,by simpa using h'⟩
  ·exact .inr ⟨hd,r,g,false,ty,by simpa using h0,by rw[keep r h1 h2];exact h3⟩
  ·exact .inr ⟨hd,r,0,true,ty,by simpa using h0,by rw[keep r h1 h2];exact h3⟩
open Go.RowKit
def Ji:qQ Tryz.prog cl0/\kQ cl0:=callω_ok (P:=Tryz.prog) (L:=asK) (λf p h=>by cases h) Z
abbrev noR:Ren:=λ_=>none
def afL {ρ:Ren}{H:ah}{w:World}(R:Rel ρ H w):Rel noR ah.empty w:=
 ⟨λr _=>⟨rfl,rfl⟩,λr b d h=>(nomatch h),λr r' b d e h=>(nomatch h),⟨λb hb=>⟨(R.gl.1 b hb).1,λr d h=>(nomatch h)⟩,R.gl.2⟩⟩
def RF {ρ:Ren}{H H1:ah}{w w1:World}(E:Ext noR H w ρ H1 w1):Below w.heap.size w w1:=
 { size:=E.size,block:=λb hb=>E.frame b hb λr d h=>(nomatch h),os:=E.os,tape:=E.tape,output:=E.output }
section
variable {ρ ρ':Ren}{G G':Nat->Nat}{w w':World}
def U7:∀{cells:List AV} {b o i:Nat} {x:AV},RVc ρ G w cells b o->cells[i]?=some x->∃v,w.cell? ⟨b,o+i,none⟩=some v/\RV ρ G w x v
 |[],_,_,_,_,_,h=>by simp at h
 |y::l,b,o,0,x,h,d=>by
  simp only[zaY,zaa]at d;subst d;simp only[RVc]at h;exact h.1
 |y::l,b,o,i+1,x,h,d=>by
  simp only[RVc]at h;have:=U7 h.2 (by simpa using d)
  rwa [show o+1+i=o+(i+1) by omega]at this
def acP:∀{cells:List AV} {b o:Nat},(∀i x,cells[i]?=some x->∃v,w.cell? ⟨b,o+i,none⟩=some v/\RV ρ G w x v)->RVc ρ G w cells b o
 |[],_,_,_=>by simp only[RVc]
 |y::l,b,o,h=>by
  simp only[RVc];refine⟨h 0 y rfl,acP λi x d=>?_⟩;rw[show o+1+i=o+(i+1) by omega];exact h (i+1) x (by simpa using d)
def XD:∀{cs:List AV} {l:List By},cs.mapM yOf=some l->cs=l.map Y
 |[],l,h=>by simp at h;subst h;rfl
 |x::cs,l,h=>by
  rw[zbC]at h;cases b:yOf x with
  |none=>rw[b]at h;simp at h
  |some c=>
   rw[b]at h;cases d:cs.mapM yOf with
   |none=>rw[d]at h;simp at h
   |some m=>
    rw[d]at h;simp at h;subst h;rw[XD d,zaD]
    congr 1
    unfold yOf at b;split at b
    ·rename_i n;split at b
     ·rename_i e;simp only[zaa]at b;subst b;show AV.s (.int .u8 n)=AV.s (.int .u8 ((by8 n).toNat:Int));rw[oH]
      congr 2
      omega
     ·cases b
    ·cases b
def acQ {H:ah}{x:AV}{l:List By}{z:Value}(R:Rel ρ H w)(F:RV ρ H.gen w x z)(h:IE x H=some l):
  RV noR ah.empty.gen w (.vs l.length 1 (l.map Y)) z/\0<l.length/\l.length<=800:=by
 unfold IE at h;split at h;rotate_left
 ·cases h
 rename_i r g off G n K ex;split at h;rotate_left
 ·cases h
 rename_i g' ty cells A;split at h;rotate_left
 ·cases h
 rename_i hc;obtain⟨rfl,rfl,h2,h3,h4⟩:=hc;have hm:=XD h;have d:l.length=n:=by
  have:=congrArg List.length hm;rw[zaz,zau,zaR]at this;omega
 obtain⟨b,o,c,rfl,k1,k2,k3,k4,L⟩:=(by simpa only[RV]using F)
 have j:H.gen r=g':=by simp[ah.gen,A,gB.gen]
 obtain⟨k,e,m,M,Q,q3,q4⟩:=L j;have C:=R.obj r b k M;simp only[yR,A]at C;obtain⟨cs,e',T,p2,W,_⟩:=C;have u:o=k+off:=Q V;refine⟨?_,V,V⟩;simp only[RV];refine⟨b,o,c,by rw[d],V,O,(zbg.1 T).1,λr k h=>(nomatch h),acP λi y q=>?_⟩;have hi:i<n:=by have:=(zaf.1 q).1;rw[zaz]at this;omega
 rw[<-hm,zaC,if_pos hi,zaH]at q;obtain⟨v,X,D⟩:=U7 W q;refine⟨v,by rw[u,show k+off+i=k+(off+i) by omega];exact X,?_⟩;have:∃c:By,y=Y c:=by
  have p:(l.map Y)[i]?=some y:=by rw[<-hm,zaC,if_pos hi,zaH];exact q
  rw[zaw]at p;cases E:l[i]? with
  |none=>rw[E]at p;cases p
  |some c=>rw[E]at p;exact⟨c,(zaW p).symm⟩
 obtain⟨c,rfl⟩:=this;simp only[Y,U,RV]at D ⊢;exact D
def XE:∀{l:List AV} {z b:AV} {cs:List Value},(∀x∈l,∃v,x=.s v)->RVs ρ G w (l++[z]) cs->(∀c,RV ρ G w z c->RV ρ' G' w' b c)->RVs ρ' G' w' (l++[b]) cs
 |[],z,b,cs,_,h,d=>by
  simp only[zaN,RVs]at h ⊢;obtain⟨y,g,e,i,j⟩:=h;exact⟨y,g,e,d y i,j⟩
 |x::l,z,b,cs,k,h,d=>by
  obtain⟨y,g,e,i,j⟩:=(by simpa only[za3,RVs]using h)
  simp only[za3,RVs];obtain⟨v,rfl⟩:=k x O;exact⟨y,g,e,by simpa only[RV]using i,XE (λx m=>k x (by simp[m])) j d⟩
end
def RG {ρ ρ1:Ren}{H j:ah}{w w1:World}(R:Rel ρ H w)(M:Rel ρ1 j w1)(E:Ext noR ah.empty w ρ1 j w1){p:Pkt}{z:AV}{v:Value}{e:Int}
  (Q:(z=zN/\p.data=[])∨(p.data≠[]/\∃r g ex ty,z=.sl r g 0 1 p.data.length p.data.length ex/\j.get r=.blk g ty (p.data.map I))) (hv:RV ρ1 j.gen w1 (.tup [.agg (p.avx z),I e]) v):
  RV ρ H.gen w1 (.tup [.agg p.av,I e]) v:=by
 simp only[RV,RVs]at hv ⊢;obtain⟨cs,rfl,y,T,W,q,X⟩:=hv;obtain⟨u,rfl,q⟩:=q;refine⟨cs,rfl,_,T,W,⟨u,rfl,?_⟩,X⟩;have e1:p.avx z=[I p.aU,I p.src,I p.dst,I p.id,I p.ak,I p.ptr,I p.state,B p.flag]++[z]:=rfl;have e2:p.av=[I p.aU,I p.src,I p.dst,I p.id,I p.ak,I p.ptr,I p.state,B p.flag]++[dat p.data]:=rfl;rw[e1]at q;rw[e2];refine XE (λx C=>?_) q λc hc=>?_
 ·simp only[zao,zaB,or_false]at C;rcases C with rfl|rfl|rfl|rfl|rfl|rfl|rfl|rfl <;> exact⟨_,rfl⟩
 ·rcases Q with⟨rfl,D⟩|⟨hd,r,g,ex,ty,rfl,F⟩
  ·rw[D,dat,gI]
   simpa only[RV]using hc
  ·obtain⟨b,o,k,rfl,k1,k2,k3,k4,k5⟩:=(by simpa only[RV]using hc)
   obtain⟨A,e,m,G,q2,q3,q4⟩:=k5 (by simp[ah.gen,F,gB.gen]);have K:=M.obj r b A G;simp only[yR,F]at K;obtain⟨aa,e',p1,p2,p3,_⟩:=K;have hb:w.heap.size<=b:=by
    rcases E.range r b A G with h|⟨_,h⟩
    ·exact h
    ·cases h
   ·rw[qH hd];simp only[RV];have D:0<p.data.length:=zdD.2 hd;refine⟨b,o,k,rfl,V,O,(zbg.1 p1).1,QD R hb,acP λi y d=>?_⟩;obtain⟨v,v1,v2⟩:=U7 p3 d;have:o=A+0:=q2 V;refine⟨v,by rw[this];exact v1,?_⟩;rw[zaw]at d;cases L:p.data[i]? with
    |none=>rw[L]at d;cases d
    |some n=>
     rw[L]at d;cases d
     simpa only[RV]using v2
open Go.RowKit
def afM {l:List By}(h:l.length<=800):dJ ah.empty (.vs l.length 1 (l.map Y)) l:=⟨⟨O,rfl,rfl,rfl⟩,V⟩
def YU {H:ah}(hb:H.base<=H.next){x:AV}{l:List By}(hx:dJ H x l)(hl:l.length<900)(hn:∀m,l≠jQ m):
  ∃K,cl0 129 [x] H=some (.tup [.agg zPk,I 2],K):=by
 let H1:=H.new (.blk 0 81 zPk);have g1:Gro H H1:=Gro.new H 0 _ _;have hb1:H1.base<=H1.next:=by simp only[H1,jh,eF];omega
 obtain⟨H2,e1,g2⟩:=afk hb1 (hx.gro g1) hl hn;have at0:H2.get H.next=.blk 0 81 zPk:=by rw[g2.same _ (by simp only[H1,eF];omega)];exact aP rfl
 have hbase:H2.base<=H.next:=by rw[g2.base];simp only[H1,jh];exact hb
 have all:zPk.all AV.aS=true:=rfl;have e3:st 9 (.ref H.next 0 0) (.agg zPk) H2=some (aY,H2.put H.next (.blk 0 81 zPk)):=by
  rw[Wu all (show zPk.length=9 from rfl) at0 hbase (by decide)];rfl
 have e4:lda 9 (.ref H.next 0 0) (H2.put H.next (.blk 0 81 zPk))=some (.agg zPk,H2.put H.next (.blk 0 81 zPk)):=(iP (off:=0) (n:=9) uz (zac _)).trans rfl;have ebd:bd 81 []=some (.agg zPk):=by
  simp only[xq_,zC,jg,fK]
 refine⟨H2.put H.next (.blk 0 81 zPk),iR (aoS _ _ _ ?_)⟩;simp only[H1]at e1;simp only[xq_,ah5,e1,ebd,e3,e4,zai]
def uD {r:Res}{g:Run}{b:gG}{H1:ah}(h:sH r g=some (.normal,b,H1)):∃d e,r=some (.normal,d,e)/\g d e=some (.normal,b,H1):=by
 unfold sH at h;split at h
 ·exact⟨_,_,rfl,h⟩
 ·cases h
 ·cases h
 ·cases h
def Jj {c d:Code}{t e:gG}{H b:ah}(g:fF Tryz.prog cl0 c t H=some (.normal,e,b)){ρ:Ren}{w:World}{a:Act}(R:Rel ρ H w)(T:TOn ρ H.gen w (λ_=>True) t a){Q:Exit->Act->World->Prop}
  (h:∀a' ρ' w',Rel ρ' b w'->TOn ρ' b.gen w' (λ_=>True) e a'->Ext ρ H w ρ' b w'->a'.defers=a.defers->d.wp Tryz.prog Q a' w'):(Code.seq c d).wp Tryz.prog Q a w:=
 wp_seq (Cj Ji.1 Ji.2 Z c t H _ e b g ρ w a R T _ λa' ρ' w' i j k m=>h a' ρ' w' i j k m)
def afN:∃a b c d e f id j h g i ty pos k,Tryz.f129.body=some (.seq a (.seq b (.seq c (.seq d (.seq (.seq e (.block id (.rangeFunc (.tmp 76) #[77] (.region i #[{ dst:=some 7,op:=.assign (.tmp 77),type:=ty,pos:=pos,after:=k,guard:=none }] false) (.block j (.region h g true))))) f)))))
  /\UJ=.seq a (.seq b (.seq c (.seq d (.seq e .skip))))/\Ox=.block j (.region h g true)/\Oy=f/\g.all Dc=true:=
 ⟨_,_,_,_,_,_,_,_,_,_,_,_,_,_,rfl,Z,Z,Z,Z⟩
def aqX:zA xw Ox (pU []) (λ_=>0) 0=192:=Z
def aqY:zA xw Oy (Tc Tryz.f129.results.toList) (λ_=>0) (Tc Tryz.f129.results.toList)=69:=Z
def aqZ:∀i,i<100->Nat.testBit 192 i=true->i=6∨i=7:=J
def aq0:∀i,i<100->Nat.testBit 69 i=true->i=0∨i=2∨i=6:=J
def aur:Qu xw 100 UJ (pU [0,2,6,76]) (λ_=>0) 0=true:=Z
def aus:Qu xw 100 Ox (pU []) (λ_=>0) 0=true:=Z
def aut:Qu xw 100 Oy (Tc Tryz.f129.results.toList) (λ_=>0) (Tc Tryz.f129.results.toList)=true:=Z
def alk {g:ah}{p:Pkt}{r6 r8 d:Nat}{H:ah}(A:PcA H g p r6 r8 d){ρ:Ren}{w:World}{i j by_ k:Nat}(L:ρ r8=some (i,0))(M:ρ (r8+1)=some (j,0))(Q:ρ d=some (by_,k))
  {pre:List (Fin p.data.length)} {K:ah} {ρ1:Ren} {W:World} (hi:ajt g p r6 pre K) (R:Rel ρ1 K W) (E:Ext ρ g w ρ1 K W):alh i j by_ (k+10) p.data.length W:=by
 obtain⟨z,ac,_⟩:=hi;have top:=A.top;have hi:=A.hi;have ry6:=A.ry6;have key:∀r,r<g.next->r≠r6->K.get r=g.get r:=λr T h=>by rw[ac.gro.same r T,xJ h]
 have n:K.get r8=_:=(key r8 V V).trans A.ar0;have q:K.get (r8+1)=_:=(key (r8+1) V V).trans A.ar1;obtain⟨⟨hl,_,_,⟨X,_⟩,ty,all,h,h3,h4⟩,hs⟩:=A.by_;have u:K.get d=_:=(key d X V).trans h;have p8:ρ1 r8=some (i,0):=E.same r8 _ L (by simp only[ah.gen,n,A.ar0]);have p9:ρ1 (r8+1)=some (j,0):=E.same (r8+1) _ M (by simp only[ah.gen,q,A.ar1]);have py:ρ1 d=some (by_,k):=E.same d _ Q (by simp only[ah.gen,u,h]);have v:=R.obj _ _ _ p8;have y:=R.obj _ _ _ p9;rw[n]at v;rw[q]at y;obtain⟨aa,e8,u1,u2,C,u4⟩:=v;obtain⟨ab,e9,v1,v2,D,v4⟩:=y;simp only[RVc]at C D;obtain⟨⟨s8,c8,d8⟩,_⟩:=C;obtain⟨⟨s9,c9,F⟩,_⟩:=D;obtain⟨b,o,c,rfl,g1,g2,g3,g4,g5⟩:=(by simpa only[RV]using d8)
 obtain⟨sh,e,m,G,f2,f3,f4⟩:=g5 (by simp[ah.gen,u,gB.gen]);rw[py]at G;cases G;simp only[RV]at F;subst F;exact⟨⟨o,c,λhN=>f2 V,g2,c8⟩,c9⟩
set_option maxHeartbeats 1000000 in
theorem U8 {p:Pkt}(hp:p.fit){w:World}{cx:Value}(R0:Rel noR ah.empty w){x:AV}(hx:dJ ah.empty x (sS p))(hx0:∀r,iE x≠some r)(hcx:RV noR ah.empty.gen w x cx):
  Calls Tryz.prog 129 #[cx] w λe w'=>∃cv ρ1 KF z,e=.returned cv/\Rel ρ1 KF w'/\Ext noR ah.empty w ρ1 KF w'/\((z=zN/\p.data=[])∨(p.data≠[]/\∃r g ex ty,z=.sl r g 0 1 p.data.length p.data.length ex/\KF.get r=.blk g ty (p.data.map I)))/\RV ρ1 KF.gen w' (.tup [.agg (p.avx z),I 0]) cv:=by
 obtain⟨a,b,c,d,e,f,id,j,id7,ops7,ida,ty,pos,aft,hbody,hA,hB,hC,hno⟩:=afN;have ok:=hp.ok;simp only[Pkt.ok,zah,decide_eq_true_eq]at ok;have nm0:xu ah.empty:=λr k es h=>(nomatch h)
 obtain⟨r6,r8,ry,HA,eA,A⟩:=aqT (H:=ah.empty) (zac 0) hp hx;have nmA:xu HA:=A.gro.Q8 nm0;rw[<-akS]at eA;obtain⟨tA,xA,eA1,agA,pj⟩:=Ll (t:=[x]++List.replicate 99 aY) aur ⟨by simp,λi hn _=>by
  have:=Ny 100 [x] 0 i hn
  rwa [za7]at this⟩ eA
 simp only[yI,zbQ,and_true]at pj;obtain⟨j0,j2,j6,j76⟩:=pj;have get:∀i,i<100->(pU [0,2,6,76]).testBit i=true->tA.getD i aY=Pz eA1 i:=agA.get;have t0:=(get 0 (by decide) (by decide)).trans j0;have t2:=(get 2 (by decide) (by decide)).trans j2;have t6:=(get 6 (by decide) (by decide)).trans j6;have t76:=(get 76 (by decide) (by decide)).trans j76;rw[hA]at xA;simp only[fF]at xA;obtain⟨ta,Ha,xa,xA⟩:=uD xA;obtain⟨tb,Hb,xb,xA⟩:=uD xA;obtain⟨tc,Hc,xc,xA⟩:=uD xA;obtain⟨td,Hd,xd,xA⟩:=uD xA;obtain⟨te,He,xe,xA⟩:=uD xA;simp only[zaa,zad,true_and]at xA;obtain⟨rfl,rfl⟩:=xA;refine(callsIn_wide (n:=9)).1 (callsIn_of_wp_marks Tryz.func129 hbody trivial ?_ rfl);refine wpIn_wide.2 ?_;have T0:TOn noR ah.empty.gen w (λ_=>True) ([x]++List.replicate 99 aY) { tmps:=#[cx]++Array.replicate (Tryz.f129.ntmps - #[cx].size) undef,defers:=[] }:=aac (args:=[x]) (m:=100) (by simp only[RVs];exact⟨_,_,rfl,hcx,rfl⟩);refine Jj xa R0 T0 λa1 ρ1 w1 R1 T1 E1 D1=>?_;refine Jj xb R1 T1 λa2 ρ2 w2 R2 T2 E2 D2=>?_;refine Jj xc R2 T2 λa3 ρ3 w3 R3 T3 E3 D3=>?_;refine Jj xd R3 T3 λa4 ρ4 w4 R4 T4 E4 D4=>?_;refine wp_seq ?_;refine Jj xe R4 T4 λa5 ρ w5 R T E5 D5=>?_;have E:Ext noR ah.empty w ρ He w5:=(((E1.trans E2).trans E3).trans E4).trans E5;have hdef:a5.defers=[]:=D5.trans (D4.trans (D3.trans (D2.trans D1)))
 -- the iterator's alk
 have tv:=T.any 76 trivial;rw[t76]at tv;obtain⟨af,cf,hf,hf1,hf2⟩:=(by simpa only[RV]using tv)
 simp only[RVs]at hf1 hf2;obtain⟨v8,l8,hl8,hv8,v9,l9,rfl,hv9,rfl⟩:=hf2;have top:=A.top;have lo:=A.lo;obtain⟨p8,e8,g8,n8⟩:=(by simpa only[RV]using hv8)
 obtain⟨b8,s8,q8,rfl⟩:=n8 (by simp[ah.gen,A.ar0,gB.gen]);obtain⟨p9,e9,g9,n9⟩:=(by simpa only[RV]using hv9)
 obtain⟨b9,s9,q9,rfl⟩:=n9 (by simp[ah.gen,A.ar1,gB.gen]);have o8:=R.obj _ _ _ q8;have o9:=R.obj _ _ _ q9;rw[A.ar0]at o8;rw[A.ar1]at o9;obtain⟨cs8,ee8,u1,u2,u3,u4⟩:=o8;obtain⟨cs9,ee9,m1,m2,m3,m4⟩:=o9;obtain⟨_,rfl,_⟩:=u4.1 (by decide);obtain⟨_,rfl,_⟩:=m4.1 (by decide);simp only[RVc]at u3;obtain⟨⟨sv,c8,d8⟩,_⟩:=u3;obtain⟨bY,oY,cY,rfl,z1,z2,z3,z4,z5⟩:=(by simpa only[RV]using d8)
 obtain⟨⟨hyl,_,_,⟨hry,_⟩,tyY,awr,y2,y3,y4⟩,ys⟩:=A.by_;obtain⟨sY,eY,nY,qy,_,y5,_⟩:=z5 (by simp[ah.gen,y2,gB.gen]);have oy:=R.obj _ _ _ qy;rw[y2]at oy;obtain⟨csY,eY',k1,k2,k3,k4⟩:=oy;have hN:(fG p).length=10+8*p.data.length:=Jg p;have hev:a5.eval (.tmp 76)=.func (.func 214) #[] #[.pointer (some ⟨b8,0,none⟩),.pointer (some ⟨b9,0,none⟩)]:=by
  have e1:af=#[]:=zcp.1 hf1;have e2:cf=#[.pointer (some ⟨b8,0,none⟩),.pointer (some ⟨b9,0,none⟩)]:=zcp.1 (by rw[hl8,e8,e9]);show a5.tmps.getD 76 undef=_;rw[hf,e1,e2]
 have hrun:∀(pre:List (Fin p.data.length)) (x':Fin p.data.length) (K:ah),ajt He p r6 pre K->pre.length<p.data.length->∃t2 H2,fF Tryz.prog cl0 (.block j (.region id7 ops7 true)) (wF (wF te (some 77) (Jh ry x'.val)) (some 7) (Jh ry x'.val)) K=some (.normal,t2,H2)/\ajt He p r6 (pre++[x']) H2:=by
  intro pre x' K hi hl;obtain⟨K',e1,i1⟩:=aqV (zac 0) nmA hp A hi hl x';rw[<-akT]at e1;obtain⟨t3,x3,_⟩:=Ll (t:=wF (wF te (some 77) (Jh ry x'.val)) (some 7) (Jh ry x'.val)) aus ⟨by rw[mD,mD];exact agA.len,λi hn hb=>by
   rw[aqX]at hb;rcases aqZ i hn hb with rfl|rfl
   ·simpa [wF,List.getD,zcV,Pz]using t6
   ·have:te.length=100:=agA.len;simp[wF,List.getD,Pz,this];rfl⟩ e1
  rw[hB]at x3;exact⟨t3,K',x3,i1⟩
 refine wp_block ?_;have aq1:b8<w5.heap.size:=R.block q8;have aq2:b9<w5.heap.size:=R.block q9;have inv0:ajt He p r6 [] He:=by
  refine⟨zN,⟨⟨zac _,rfl,λr _=>?_,λ_=>nmA⟩,?_,.inl ⟨rfl,rfl⟩⟩,λ_=>rfl⟩
  ·by_cases h:r=r6
   ·subst h;rw[uz,A.six]
   ·rw[xJ h]
  ·show He.base<=He.next
   rw[A.gro.base];exact zaX _
 refine afj (by kernel_rfl) R T (p:=77) (d:=7) (show 77<List.length te by rw[agA.len];decide) (by decide) hev (enters_of Tryz.func214 (by kernel_rfl) rfl)
  (N:=p.data.length) (λx'=>Jh ry x'.val) (λx'=>.slice (some ⟨bY,sY+10+8*x'.val,none⟩) 8 8) ?hv (alh b8 b9 bY (sY+10) p.data.length) ?hL (λn hn=>U6 n hn b8 b9 bY (sY+10) p.data.length (by omega) w5 aq1 aq2 ?hCh)
  (ajt He p r6) inv0 ?hnm (λpre K ρ' W hi R' E'=>alk A q8 q9 qy hi R' E') hrun (UH (UG Ji.1 Ji.2 (by kernel_rfl) (λo ho=>by simpa using(zcP.1 hno) o ho))) ?hQ
 case hv=>
  intro x';have:=x'.isLt;simp only[RV];refine⟨bY,sY+10+8*x'.val,8,rfl,zac _,zac _,λ_=>rfl,zaX _,λ_=>⟨sY,eY',csY.size,qy,λ_=>by omega,by rw[fE,k1];rfl,by omega⟩⟩
 case hL=>
  rintro W l o o' hl ho hc ⟨⟨o1,c1,h1,h2,h3⟩,h4⟩;have n8:b8≠l:=by omega
  have n9:b9≠l:=by omega
  exact⟨⟨o1,c1,h1,h2,(World.cell?_of_block (World.putObj_heap_other n8)).trans h3⟩,(World.cell?_of_block (World.putObj_heap_other n9)).trans h4⟩
 case hCh=>exact alk A q8 q9 qy inv0 R (Ext.refl _ _ _)
 case hnm=>
  rintro pre K ⟨z,ac,_⟩;exact ac.gro.Q8 (nmA.put _ _ _ _)
 case hQ=>
  intro xs K D W ρ1' hall hi RW EW hD hDi hDs;obtain⟨z,K',eC,nmK,hz⟩:=aqW (zac 0) nmA hp hx hx0 A A.two hi hall;rw[<-akU]at eC;obtain⟨ex,tF,hex,xC,hres⟩:=ab4 (t:=te) aut ⟨agA.len,λi hn hb=>by
   rw[aqY]at hb;rcases aq0 i hn hb with rfl|rfl|rfl
   ·exact t0
   ·exact t2
   ·exact t6⟩ eC
  rw[hC]at xC;show f.wp Tryz.prog _ _ W;refine Cj Ji.1 Ji.2 (by kernel_rfl) f te K ex tF K' xC ρ1' W { a5 with defers:={ target:=.collected D,args:=#[] }::a5.defers } RW ⟨(T.keep EW).size,(T.keep EW).get⟩ _ λa6 ρ6 w6 R6 T6 E6 D6=>?_;have hD6:w6.heap[D]?=some (.deferred (some [])):=by rw[E6.frame D (zbg.1 hD).1 hDi];exact hD
  have auu:a6.defers=[{ target:=.collected D,args:=#[] }]:=by rw[D6];show _::a5.defers=_;rw[hdef]
  have av1:=(E.trans EW).trans E6;have hr6:∀r,some D=some r->w.heap.size<=r/\∃o:Obj,w6.heap[r]?=some o/\o.isCells=false:=λr e=>by
   cases e;exact⟨zav E.size hDs,_,hD6,rfl⟩
  obtain⟨R7,G7⟩:=nmK.grown R6 (grownBy_putObj' w6 D (.deferred none)) hr6 λb hb=>(R0.gl.1 b hb).1;have T7:TOn ρ6 K'.gen (w6.putObj D (.deferred none)) (λ_=>True) tF a6:=⟨T6.size,λd hd hl=>RV.grn G7 _ _ (T6.get d hd hl)⟩
  have E7:=av1.grown (grownBy_putObj' w6 D (.deferred none)) λr e=>(hr6 r e).1;obtain⟨cv,c1,c2⟩:=Kt (P:=Tryz.prog) (fn:=Tryz.f129) R7 T7 hres;have fin:LeavesInM Fence.wide 9 Tryz.prog Tryz.f129 a6.tmps (λe w'=>∃cv ρ1 KF z,e=.returned cv/\Rel ρ1 KF w'/\Ext noR ah.empty w ρ1 KF w'/\((z=zN/\p.data=[])∨(p.data≠[]/\∃r g ex ty,z=.sl r g 0 1 p.data.length p.data.length ex/\KF.get r=.blk g ty (p.data.map I)))/\RV ρ1 KF.gen w' (.tup [.agg (p.avx z),I 0]) cv) a6.defers .returning w6:=by
   rw[auu];refine⟨by simp,.inl ⟨D,_,rfl,run_takeDeferred hD6,?_⟩⟩;exact⟨cv,c1,cv,ρ6,K',z,rfl,R7,E7,hz,c2⟩
  rcases hex with rfl|rfl
  ·exact fin
  ·exact fin
open Classical in
def U9:WC 129 CY:=by
 refine⟨KT λd H v H' h ρ w G R ha=>?_,λd H v H' h=>?_⟩
 ·unfold CY at h;split at h;rotate_left
  ·cases h
  rename_i x;obtain⟨u,rfl,y⟩:=Um ha;split at h;rotate_left
  ·cases h
  rename_i l A;obtain⟨hv,L,C⟩:=acQ R y A;have o:=afL R;have hb:=afM C;split at h
  ·rename_i q;simp only[zaa,zad]at h;obtain⟨rfl,rfl⟩:=h;obtain⟨g,j⟩:=Classical.choose_spec q;generalize Classical.choose q=p at*;subst j;refine(U8 g o hb (λr e=>by cases e) hv).mono ?_;rintro e w' ⟨cv,ρ1,M,z,rfl,k,i,D,b⟩;obtain⟨m,n⟩:=wY R (RF i);exact⟨cv,ρ,rfl,m,RG R k i D b,n⟩
  ·split at h;rotate_left
   ·cases h
   rename_i E;simp only[zaa,zad]at h;obtain⟨rfl,rfl⟩:=h;obtain⟨K,F⟩:=YU (H:=ah.empty) (zac 0) hb V E;refine(Ji.1 _ _ _ _ _ F noR w #[u] o (by simp only[RVs];exact⟨_,_,rfl,hv,rfl⟩)).mono ?_;rintro e w' ⟨cv,ρ1,rfl,k,b,i⟩;obtain⟨m,n⟩:=wY R (RF i);refine⟨cv,ρ,rfl,m,?_,n⟩;exact RG (p:=Pkt.zero) (z:=zN) R k i (.inl ⟨rfl,rfl⟩) b
 ·unfold CY at h;have:H'=H:=by
   repeat' split at h
   all_goals first
    |(cases h;done)
    |(simp only[zaa,zad]at h;exact h.2.symm)
  subst this;exact Keeps.refl _
end
end Go.Proofs.YtgplhpgkompkmaaGreat
