/-
  Own work: an interpreter over named blocks, its soundness, and what the functions of this seat compute (part 7 of 11).
  Conditions: those of the statement alone.
-/
import Derived.RangeFuncLeaves
import Derived.Test.YtmdbbfoefdjgoaaGreatXf
set_option linter.all false
set_option linter.unusedSectionVars false
set_option linter.unusedVariables false
set_option linter.unusedSimpArgs false
namespace Go.Proofs.YtmdbbfoefdjgoaaGreat
noncomputable section
abbrev zPk:List AV:=[zI,zI,zI,zI,zI,zI,zI,zB,zN]
theorem cvI(c:By)(H:ah):cv 5 3 (Y c) H=some (I (c.toNat:Int),H):=by
 have h:=c.isLt;have:=ah4 (k:=.u8) (n:=(c.toNat:Int)) (H:=H);rw [wrap_i64 (by omega) (by omega)] at this;exact this
theorem aom {z:Int}(h0:0<=z)(h1:z < 4096):(BitVec.ofInt 64 (z / 256*256) ||| BitVec.ofInt 64 (z % 256)).toNat=z.toNat:=by
 obtain⟨N,rfl⟩:∃N:Nat,z=N:=⟨z.toNat,by omega⟩
 have e1:((N:Int) / 256*256)=((N / 256*256:Nat):Int):=by omega
 have e2:((N:Int) % 256)=((N % 256:Nat):Int):=by omega
 rw [e1,e2,zdo,zdo,BitVec.toNat_or,zce,zce,zct (by omega),zct (by omega),zao];have:=Nat.shiftLeft_add_eq_or_of_lt (show N % 256 < 2 ^ 8 by omega) (N / 256);rw [zdj] at this;rw [show N / 256*256=N / 256*2 ^ 8 from rfl,<-this];omega
theorem aex(H:ah)(sv:AV)(h:One sv):cl0 123 [sv,I 8] H=some (.fn (.func 159) [] [.ref H.next 0 0,.ref (H.next+1) 0 0],(H.new (.blk 0 158 [sv])).new (.blk 0 3 [I 8])):=by
 refine iq (ajV _ _ _ _ ?_);have b1:fM 158 sv H=some (.ref H.next 0 0,H.new (.blk 0 158 [sv])):=by
  have:=Rl (t:=158) (v:=sv) (H:=H) (by rw [h.1];simp [h.2]) (by decide);rw [h.1] at this;exact this
 have b2:∀H,fM 3 (I 8) H=some (.ref H.next 0 0,H.new (.blk 0 3 [I 8])):=λH=> Rl (t:=3) (v:=I 8) (H:=H) rfl (by decide);simp only [Int.reduceLT,xq_,hq_,adM,Ju,b1,b2]
structure PcA(H HA:ah)(p:Pkt)(r6 r8 ry:Nat):Prop where
 gro:Gro H HA
 six:HA.get r6=.blk 0 99 (p.avx zN)
 lo:H.next < r6
 ry6:ry < r6
 hi:r6 < r8
 top:HA.next=r8+1+1
 amf:HA.get r8=.blk 0 158 [.sl ry 0 10 1 (8*p.data.length) (8*p.data.length) false]
 amg:HA.get (r8+1)=.blk 0 3 [I 8]
 by_:bU HA (.sl ry 0 0 1 (eG p).length (eG p).length false) (eG p)
 two:HA.get H.next=.blk 0 99 zPk
theorem EP(p:Pkt):(eG p).length=10+8*p.data.length:=by
 unfold eG;rw [zaq,oU];simp only [zah,zam];omega
theorem aln {H:ah}(hb:H.base<=H.next){x:AV}{p:Pkt}(hp:p.fit)(hx:bU H x (qH p)):
  ∃r6 rs ry HA,Yx cl0 x H=some ([x,.ref H.next 0 0,.ref r6 0 0,.fn (.func 159) [] [.ref rs 0 0,.ref (rs+1) 0 0]],HA)/\PcA H HA p r6 rs ry:=by
 have ok:=hp.ok;simp only [Pkt.ok,zaj,decide_eq_true_eq] at ok;have hlen:=EP p;have hl:(eG p).length < 800:=by omega
 have h0:eG p≠[]:=λe=> by rw [e] at hlen;simp at hlen;omega
 let H1:=H.new (.blk 0 99 zPk);have g1:Gro H H1:=Gro.new H 0 _ _;have hb1:H1.base<=H1.next:=by simp only [H1,iC,dL];omega
 obtain⟨y,H2,e1,g2,by2,ry,rfl⟩:=af5 hb1 (m:=eG p) (hx.gro g1) hl h0;have ln:=by2.is.lnS;have at_:∀(i:Nat) (c:By),(eG p)[i]?=some c->ix 1 (.sl ry 0 0 1 (eG p).length (eG p).length false) (I i) H2=some (dW (.sl ry 0 0 1 (eG p).length (eG p).length false) i,H2)/\ld (dW (.sl ry 0 0 1 (eG p).length (eG p).length false) i) H2=some (Y c,H2):=λi c hc=> ⟨by2.ix (zak.1 hc).1,by2.ld hc⟩
 obtain⟨i9,l9⟩:=at_ 9 (by8 p.data.length) rfl;have hry:=by2.is.2.2.2.1.1;have b9:((by8 (p.data.length:Int)).toNat:Int)=p.data.length:=by rw [mJ];omega
 have q1:¬(10+8*(p.data.length:Int) < 10):=by omega
 have w1:=wrap_i64 (a:=8*(p.data.length:Int)) (by omega) (by omega);have w2:=wrap_i64 (a:=10+8*(p.data.length:Int)) (by omega) (by omega);have q2:((eG p).length:Int)=10+8*(p.data.length:Int):=by omega
 let zz:fD:=.blk 0 99 zPk;let H3:=H2.new zz;have g3:Gro H2 H3:=Gro.new H2 0 _ _;have by3:=by2.gro g3;have at3:∀(i:Nat) (c:By),(eG p)[i]?=some c->ix 1 (.sl ry 0 0 1 (eG p).length (eG p).length false) (I i) H3=some (dW (.sl ry 0 0 1 (eG p).length (eG p).length false) i,H3)/\ld (dW (.sl ry 0 0 1 (eG p).length (eG p).length false) i) H3=some (Y c,H3):=λi c hc=> ⟨by3.ix (zak.1 hc).1,by3.ld hc⟩
 obtain⟨i0,l0⟩:=at3 0 (by8 p.bf) rfl;obtain⟨i1,l1⟩:=at3 1 (by8 p.src) rfl;obtain⟨i2,l2⟩:=at3 2 (by8 p.dst) rfl;obtain⟨i3,l3⟩:=at3 3 (by8 (p.id.fdiv 256)) rfl;obtain⟨i4,l4⟩:=at3 4 (by8 p.id) rfl;obtain⟨i5,l5⟩:=at3 5 (by8 p.aB) rfl;obtain⟨i6,l6⟩:=at3 6 (by8 (p.ptr+1)) rfl;obtain⟨i7,l7⟩:=at3 7 (by8 p.state) rfl;obtain⟨i8,l8⟩:=at3 8 (by8 (if p.flag then 1 else 0)) rfl;have f0:((by8 p.bf).toNat:Int)=p.bf:=by rw [mJ];omega
 have f1:((by8 p.src).toNat:Int)=p.src:=by rw [mJ];omega
 have f2:((by8 p.dst).toNat:Int)=p.dst:=by rw [mJ];omega
 have f3:((by8 (p.id.fdiv 256)).toNat:Int)=p.id / 256:=by rw [mJ,zbO _ (by decide)];omega
 have f4:((by8 p.id).toNat:Int)=p.id % 256:=by rw [mJ]
 have f5:((by8 p.aB).toNat:Int)=p.aB:=by rw [mJ];omega
 have f6:((by8 (p.ptr+1)).toNat:Int)=p.ptr+1:=by rw [mJ];omega
 have f7:((by8 p.state).toNat:Int)=p.state:=by rw [mJ];omega
 have sh:bi .shl 3 (I (p.id / 256)) (.s (.int .u64 8))=some (I (p.id / 256*256)):=by
  have:=Xx (P:=Tryz.prog) (t:=3) (k:=.i64) (k':=.u64) (a:=p.id / 256) (n:=8) (by decide);rw [show(p.id / 256*2 ^ (min (8:Int).toNat (IntKind.bits .i64)):Int)=p.id / 256*256 from rfl,wrap_i64 (by omega) (by omega)] at this;exact this
 have eo:bi .or 3 (I (p.id / 256*256)) (I (p.id % 256))=some (I p.id):=by
  have:=ads (P:=Tryz.prog) (t:=3) (k:=.i64) (a:=p.id / 256*256) (b:=p.id % 256);rw [show(BitVec.ofInt (IntKind.bits .i64) (p.id / 256*256) ||| BitVec.ofInt (IntKind.bits .i64) (p.id % 256)).toNat=p.id.toNat from aom (by omega) (by omega),zbl (by omega),wrap_i64 (by omega) (by omega)] at this;exact this
 have s6:p.ptr+1 - 1=p.ptr:=by omega
 have w6:=wrap_i64 (a:=p.ptr) (by omega) (by omega);have e8:bi .eql 5 (Y (by8 (if p.flag then 1 else 0))) (.s (.int .u8 1))=some (B p.flag):=by
  cases p.flag <;> kernel_rfl
 have ebd:bd 99 [(0,I p.bf),(1,I p.src),(2,I p.dst),(3,I p.id),(4,I p.aB),(5,I p.ptr),(6,I p.state),(7,B p.flag)]=some (.agg (p.avx zN)):=by
  simp only [xq_,xw,jo,fJ,PG,Pkt.avx];rfl
 have alo:H2.base<=H2.next:=by rw [g2.base];exact zas hb1 g2.next
 have st1:st 9 (.ref H2.next 0 0) (.agg (p.avx zN)) H3=some (aO,H2.new (.blk 0 99 (p.avx zN))):=by
  rw [lS rfl,if_pos ⟨alo,rfl,C9 qC,show 0+9<=9 by omega⟩];rfl
 let H4:=H2.new (.blk 0 99 (p.avx zN));have s10:slS 1 (.sl ry 0 0 1 (eG p).length (eG p).length false) (some (I 10)) none none=some (.sl ry 0 10 1 (8*p.data.length) (8*p.data.length) false):=by
  rw [BX (by decide) (by omega) (zac _)];have e10:(10:Int).toNat=10:=rfl;have q3:(eG p).length - 10=8*p.data.length:=by omega
  rw [e10,q3]
 let sv:AV:=.sl ry 0 10 1 (8*p.data.length) (8*p.data.length) false;have ec:=aex H4 sv mZ;have g4:Gro H2 H4:=Gro.new H2 0 _ _;let H5:=H4.new (.blk 0 158 [sv]);let H6:=H5.new (.blk 0 3 [I 8]);have g5:Gro H4 H5:=Gro.new H4 0 _ _;have g6:Gro H5 H6:=Gro.new H5 0 _ _;have n4:H4.next=H2.next+1:=dL
 have n5:H5.next=H2.next+1+1:=by simp only [H5,dL,n4]
 have n6:H6.next=H2.next+1+1+1:=by simp only [H6,dL,n5]
 have l2n:=g2.next
 have l1n:H1.next=H.next+1:=dL
 refine⟨H2.next,H4.next,ry,H6,?_,?_⟩
 ·simp only [H1,H3,zz] at e1 i0 l0 i1 l1 i2 l2 i3 l3 i4 l4 i5 l5 i6 l6 i7 l7 i8 l8 st1;have i9:ix 1 (.sl ry 0 0 1 (eG p).length (eG p).length false) (I 9) H2=_:=i9;have i0:ix 1 (.sl ry 0 0 1 (eG p).length (eG p).length false) (I 0) (H2.new (.blk 0 99 zPk))=_:=i0;have i1:ix 1 (.sl ry 0 0 1 (eG p).length (eG p).length false) (I 1) (H2.new (.blk 0 99 zPk))=_:=i1;have i2:ix 1 (.sl ry 0 0 1 (eG p).length (eG p).length false) (I 2) (H2.new (.blk 0 99 zPk))=_:=i2;have i3:ix 1 (.sl ry 0 0 1 (eG p).length (eG p).length false) (I 3) (H2.new (.blk 0 99 zPk))=_:=i3;have i4:ix 1 (.sl ry 0 0 1 (eG p).length (eG p).length false) (I 4) (H2.new (.blk 0 99 zPk))=_:=i4;have i5:ix 1 (.sl ry 0 0 1 (eG p).length (eG p).length false) (I 5) (H2.new (.blk 0 99 zPk))=_:=i5;have i6:ix 1 (.sl ry 0 0 1 (eG p).length (eG p).length false) (I 6) (H2.new (.blk 0 99 zPk))=_:=i6;have i7:ix 1 (.sl ry 0 0 1 (eG p).length (eG p).length false) (I 7) (H2.new (.blk 0 99 zPk))=_:=i7;have i8:ix 1 (.sl ry 0 0 1 (eG p).length (eG p).length false) (I 8) (H2.new (.blk 0 99 zPk))=_:=i8;simp only [xq_,Yx,e1,zad,ln,q1,i9,l9,cvI,b9,lY,w1,bI,w2,q2,i0,l0,i1,l1,i2,l2,i3,l3,i4,l4,i5,l5,i6,l6,i7,l7,i8,l8,f0,f1,f2,f3,f4,f5,f6,f7,sh,eo,ku,s6,w6,e8,ebd,st1,s10];have ec2:=aex (H2.new (.blk 0 99 (p.avx zN))) (.sl ry 0 10 1 (8*p.data.length) (8*p.data.length) false) mZ;rw [ec2];rfl
 ·have by6:=((by2.gro g4).gro g5).gro g6;refine⟨(((g1.trans g2).trans g4).trans g5).trans g6,?_,by omega,hry,by omega,by omega,?_,?_,by6,?_⟩
  ·rw [g6.same _ (by omega),g5.same _ (by omega)];exact aJ rfl
  ·rw [g6.same _ (by omega)];exact aJ rfl
  ·exact aJ (by omega)
  ·rw [g6.same _ (by omega),g5.same _ (by omega),g4.same _ (by omega),g2.same _ (by omega)];exact aJ rfl
theorem Tn:∀(l:List Int) (i:Nat) (v:Int),l[i]?=some v->((l.flatMap pq).drop (8*i)).take 8=pq v
 | [],i,v,h=> by simp at h
 | a::l,0,v,h=> by
  simp only [za2,zaa] at h;subst h;rw [zaQ,Nat.mul_zero,zaO,zb3 (by rw [iZ];exact zac _),zaE (by rw [iZ];exact zac _)]
 | a::l,i+1,v,h=> by
  rw [zaQ,show 8*(i+1)=8+8*i by omega,<-zbC,List.drop_left' (iZ a)];exact Tn l i v (by simpa using h)
theorem agp {p:Pkt}{i:Nat}{v:Int}(h:p.data[i]?=some v):((eG p).drop (10+8*i)).take 8=pq v:=by
 unfold eG;rw [<-zbC,List.drop_left' (i:=10) (by simp)];exact Tn _ _ _ h
abbrev ER(ry i:Nat):AV:=.sl ry 0 (10+8*i) 1 8 8 true
theorem agq {K:ah}{p:Pkt}{ry i:Nat}{v:Int}(hb:bU K (.sl ry 0 0 1 (eG p).length (eG p).length false) (eG p))(h:p.data[i]?=some v):bU K (ER ry i) (pq v):=by
 obtain⟨⟨hl,_,_,⟨hr,_⟩,ty,all,h2,h3,h4⟩,hs⟩:=hb;have hi:=(zak.1 h).1;have hlen:=EP p;rw [zaO,zbi] at h4;rw [za5,zbi] at h3;refine⟨⟨by simp,rfl,rfl,⟨hr,zac _⟩,ty,all,h2,by rw [iZ];omega,?_⟩,by rw [iZ];decide⟩;rw [iZ,<-agp h,zcz,zdd,h4,zcr,zb9,zbq (by omega)]
def aey(HA:ah)(p:Pkt)(r6:Nat)(pre:List (Fin p.data.length))(K:ah):Prop:=
 ∃z,Acc (HA.put r6 (.blk 0 99 (p.avx z))) K z (pre.map λx=> I (p.data.getD x.val 0))/\(pre=[]->z=zN)
theorem qZ {H:ah}{r:Nat}{o:fD}:(H.put r o).get r=o:=by simp [ah.put]
theorem uV {H:ah}{r x:Nat}{o:fD}(h:x≠r):(H.put r o).get x=H.get x:=by simp [ah.put,h]
theorem uM.put {H:ah}(h:uM H)(r g ty:Nat)(xs:List AV):uM (H.put r (.blk g ty xs)):=λx k es=> by
 by_cases e:x=r
 ·subst e;rw [qZ];simp
 ·rw [uV e];exact h x k es
theorem alp {H HA:ah}(hb:H.base<=H.next)(hn0:uM HA){p:Pkt}(hp:p.fit){r6 r8 ry:Nat}(A:PcA H HA p r6 r8 ry){pre:List (Fin p.data.length)}{K:ah}(hi:aey HA p r6 pre K)(hl:pre.length < p.data.length)(x:Fin p.data.length):
  ∃K',Yy cl0 (.ref r6 0 0) (ER ry x.val) K=some ([],K')/\aey HA p r6 (pre++[x]) K':=by
 have ok:=hp.ok;simp only [Pkt.ok,zaj,decide_eq_true_eq] at ok;obtain⟨z,ac,_⟩:=hi;have h6:r6 < HA.next:=by have:=A.hi;have:=A.top;omega
 have g0:=ac.gro;have at6:K.get r6=.blk 0 99 (p.avx z):=by rw [g0.same r6 h6,qZ]
 obtain⟨v,hv⟩:∃v,p.data[x.val]?=some v:=⟨_,zab x.isLt⟩
 have hvd:p.data.getD x.val 0=v:=by rw [zaJ,hv];rfl
 have byK:bU K (.sl ry 0 0 1 (eG p).length (eG p).length false) (eG p):=by
  refine⟨A.by_.is.fV g0.next λr hr hlt=> ?_,A.by_.small⟩;have:r=ry:=(zaX hr).symm;subst this;rw [g0.same _ hlt,uV (by have:=A.ry6;omega)]
 have cb:=agq byK hv;have num:=agm (H:=K.guard) ⟨cb.is.guard,cb.small⟩;rw [JJ (hp.num v (zaw hv))] at num;have l8:ld (.ref r6 0 8) K=some (z,K):=by rw [dR at6];rfl
 have b1:bs 22 1 [(0,I v)] K=some (.sl K.next 0 0 1 1 1 true,K.new (.blk 0 3 [I v])):=(LD (by decide)).trans (gZ rfl rfl rfl);have a1:=ac.aok (Gro.new K 0 3 [I v]);obtain⟨z',K2,e2,a2⟩:=a1.app (e:=3) (by_:=8) (n:=1) (jI (e:=3) (H:=K) (ex:=true) (n:=1) (m:=1) (l:=[I v]) rfl) rfl (by decide) (by rw [zax];omega) (by decide);have apM:K2.get r6=.blk 0 99 (p.avx z):=by rw [a2.gro.same r6 h6,qZ]
 have hbase:K2.base<=r6:=by
  rw [a2.gro.base];show HA.base<=r6;rw [A.gro.base];have:=A.lo;omega
 have e3:st 1 (.ref r6 0 8) z' K2=some (aO,K2.put r6 (.blk 0 99 (p.avx z'))):=LG (a2.one) apM hbase (show 8 < 9 by decide);refine⟨K2.put r6 (.blk 0 99 (p.avx z')),?_,z',⟨⟨a2.gro.next,a2.gro.base,λr hr=> ?_,λh=> ?_⟩,a2.base,?_⟩,λh=> by simp at h⟩
 ·simp only [xq_,Yy,l8,num,b1,e2,e3]
 ·by_cases e:r=r6
  ·subst e;rw [qZ,qZ]
  ·rw [uV e,uV e,a2.gro.same r hr,uV e]
 ·exact(a2.gro.MZ (hn0.put _ _ _ _)).put _ _ _ _
 ·have hcells:(pre.map λx=> I (p.data.getD x.val 0))++[I v]=(pre++[x]).map λx=> I (p.data.getD x.val 0):=by
   rw [zbr,zaC,zbG,hvd]
  rw [<-hcells];rcases a2.x with h | ⟨r,g,ty,h0,h1,h2,h3⟩ | ⟨r,ty,h0,h1,h2,h3⟩
  ·exact .inl h
  ·exact .inr (.inl ⟨r,g,ty,h0,h1,h2,by rw [uV (by have:HA.next<=r:=h1;omega)];exact h3⟩)
  ·exact .inr (.inr ⟨r,ty,h0,h1,h2,by rw [uV (by have:HA.next<=r:=h1;omega)];exact h3⟩)
theorem abK {p:Pkt}{pre:List (Fin p.data.length)}(h:pre.map (λx=> x.val)=List.range p.data.length):(pre.map λx=> I (p.data.getD x.val 0))=p.data.map I:=by
 have:(pre.map λx=> I (p.data.getD x.val 0))=(pre.map λx=> x.val).map λi=> I (p.data.getD i 0):=by rw [zcN];rfl
 rw [this,h]
 apply zbg
 intro i;rw [zaD,zaD];by_cases hi:i < p.data.length
 ·rw [zba hi,zab hi];simp only [zai,zaJ,zab hi,zat]
 ·rw [zaK (by simpa using hi),zaK (by omega)];rfl
theorem alq {H HA:ah}(hb:H.base<=H.next)(hn0:uM HA){x:AV}{p:Pkt}(hp:p.fit)(hx:bU H x (qH p))(hx0:∀r,iP x≠some r){r6 r8 ry:Nat}(A:PcA H HA p r6 r8 ry)(h2:HA.get H.next=.blk 0 99 zPk){pre:List (Fin p.data.length)}{K:ah}(hi:aey HA p r6 pre K)(hall:pre.map (λx=> x.val)=List.range p.data.length):
  ∃z K',Yz cl0 x (.ref H.next 0 0) (.ref r6 0 0) K=some (.tup [.agg (p.avx z),I 0],K')/\uM K'/\((z=zN/\p.data=[])∨(p.data≠[]/\∃r g ex ty,z=.sl r g 0 1 p.data.length p.data.length ex/\K'.get r=.blk g ty (p.data.map I))):=by
 obtain⟨z,ac,hz⟩:=hi;rw [abK hall] at ac;have h6:r6 < HA.next:=by have:=A.hi;have:=A.top;omega
 have g0:=ac.gro;have hnx:H.next < HA.next:=by have:=A.lo;omega
 have at6:K.get r6=.blk 0 99 (p.avx z):=by rw [g0.same r6 h6,qZ]
 have at0:K.get H.next=.blk 0 99 zPk:=by rw [g0.same _ hnx,uV (by have:=A.lo;omega)];exact h2
 have hbK:K.base<=K.next:=zas ac.base g0.next
 have hnil:p.data=[]->z=zN:=λh=> hz (by
  have:=congrArg List.length hall;rw [zax,zcK] at this;have h2:p.data.length=0:=by rw [h];rfl
  exact zan (by omega))
 have hnz:jR K z p.data:=⟨by have:=ac.is;rwa [zax] at this,ac.one,hnil⟩
 have lx:∀z,(p.avx z).length=9:=λ_=> rfl;have l6:lda 9 (.ref r6 0 0) K=some (.agg (p.avx z),K):=(fO (off:=0) (n:=9) at6 (by rw [lx];exact zac _)).trans rfl;obtain⟨y,K1,e1,g1,b1,hb1⟩:=alm hbK p hnz hp.ok;have hx1:bU K1 x (qH p):=by
  refine⟨hx.is.fV ?_ λr hr _=> absurd hr (hx0 r),hx.small⟩;exact zas (Nat.le_of_lt hnx) (zas g0.next g1.next)
 have e2:=YD b1 hx1;rw [decide_eq_true rfl] at e2;have l6':lda 9 (.ref r6 0 0) K1=some (.agg (p.avx z),K1):=(fO (off:=0) (n:=9) (by rw [g1.same _ (zau h6 g0.next)];exact at6) (by rw [lx];exact zac _)).trans rfl;have apN:K1.get H.next=.blk 0 99 zPk:=by rw [g1.same _ (zau hnx g0.next)];exact at0
 have hbase:K1.base<=H.next:=by
  rw [g1.base,g0.base];show HA.base<=H.next
  rw [A.gro.base];exact hb
 have e3:st 9 (.ref H.next 0 0) (.agg (p.avx z)) K1=some (aO,K1.put H.next (.blk 0 99 (p.avx z))):=by
  rw [RD (C9 ac.one) (lx z) apN hbase (by decide)];rfl
 have e4:lda 9 (.ref H.next 0 0) (K1.put H.next (.blk 0 99 (p.avx z)))=some (.agg (p.avx z),K1.put H.next (.blk 0 99 (p.avx z))):=(fO (off:=0) (n:=9) qZ (by rw [lx];exact zac _)).trans rfl;refine⟨z,K1.put H.next (.blk 0 99 (p.avx z)),?_,(g1.MZ (g0.MZ (hn0.put _ _ _ _))).put _ _ _ _,?_⟩
 ·simp only [xq_,Yz,l6,e1,e2,zad,l6',e3,e4]
 ·have keep:∀r,HA.next<=r->r < K.next->(K1.put H.next (.blk 0 99 (p.avx z))).get r=K.get r:=λr h1 h2=> by
   rw [uV (by omega),g1.same r h2]
  by_cases hd:p.data=[]
  ·exact .inl ⟨hnil hd,hd⟩
  rcases ac.x with⟨h,h'⟩ | ⟨r,g,ty,h0,h1,h2,h3⟩ | ⟨r,ty,h0,h1,h2,h3⟩
  ·exact .inl ⟨h,by simpa using h'⟩
  ·exact .inr ⟨hd,r,g,false,ty,by simpa using h0,by rw [keep r h1 h2];exact h3⟩
  ·exact .inr ⟨hd,r,0,true,ty,by simpa using h0,by rw [keep r h1 h2];exact h3⟩
open Go.RowKit
theorem ES:oZ Tryz.prog cl0/\jO cl0:=callω_ok (P:=Tryz.prog) (L:=amR) (λf p h=> by cases h) (by kernel_rfl)
abbrev noR:Ren:=λ_=> none
theorem abL {ρ:Ren}{H:ah}{w:World}(R:Rel ρ H w):Rel noR ah.empty w:=
 ⟨λr _=> ⟨rfl,rfl⟩,λr b sh h=> (nomatch h),λr r' b sh sh' h=> (nomatch h),⟨λb hb=> ⟨(R.gl.1 b hb).1,λr sh h=> (nomatch h)⟩,R.gl.2⟩⟩
theorem NJ {ρ:Ren}{H H1:ah}{w w1:World}(E:Ext noR H w ρ H1 w1):Below w.heap.size w w1:=
 { size:=E.size,block:=λb hb=> E.frame b hb λr sh h=> (nomatch h),os:=E.os,tape:=E.tape,output:=E.output }
section
variable {ρ ρ':Ren}{G G':Nat->Nat}{w w':World}
theorem Qp:∀{cells:List AV} {b o i:Nat} {x:AV},RVc ρ G w cells b o->cells[i]?=some x->∃v,w.cell? ⟨b,o+i,none⟩=some v/\RV ρ G w x v
 | [],_,_,_,_,_,h=> by simp at h
 | y::l,b,o,0,x,h,hx=> by
  simp only [za2,zaa] at hx;subst hx;simp only [RVc] at h;exact h.1
 | y::l,b,o,i+1,x,h,hx=> by
  simp only [RVc] at h;have:=Qp h.2 (by simpa using hx)
  rwa [show o+1+i=o+(i+1) by omega] at this
theorem Y2:∀{cells:List AV} {b o:Nat},(∀i x,cells[i]?=some x->∃v,w.cell? ⟨b,o+i,none⟩=some v/\RV ρ G w x v)->RVc ρ G w cells b o
 | [],_,_,_=> by simp only [RVc]
 | y::l,b,o,h=> by
  simp only [RVc];refine⟨h 0 y rfl,Y2 λi x hx=> ?_⟩;rw [show o+1+i=o+(i+1) by omega];exact h (i+1) x (by simpa using hx)
theorem Tq:∀{cs:List AV} {l:List By},cs.mapM yOf=some l->cs=l.map Y
 | [],l,h=> by simp at h;subst h;rfl
 | x::cs,l,h=> by
  rw [zbv] at h;cases hx:yOf x with
  | none=> rw [hx] at h;simp at h
  | some c=>
   rw [hx] at h;cases hr:cs.mapM yOf with
   | none=> rw [hr] at h;simp at h
   | some m=>
    rw [hr] at h;simp at h;subst h;rw [Tq hr,zaC]
    congr 1
    unfold yOf at hx;split at hx
    ·rename_i n;split at hx
     ·rename_i hn;simp only [zaa] at hx;subst hx;show AV.s (.int .u8 n)=AV.s (.int .u8 ((by8 n).toNat:Int));rw [mJ]
      congr 2
      omega
     ·cases hx
    ·cases hx
theorem Y3 {H:ah}{x:AV}{l:List By}{cx:Value}(R:Rel ρ H w)(hx:RV ρ H.gen w x cx)(h:Et x H=some l):
  RV noR ah.empty.gen w (.vs l.length 1 (l.map Y)) cx/\0 < l.length/\l.length<=800:=by
 unfold Et at h;split at h;rotate_left
 ·cases h
 rename_i r g off esz n cap ex;split at h;rotate_left
 ·cases h
 rename_i g' ty cells hg;split at h;rotate_left
 ·cases h
 rename_i hc;obtain⟨rfl,rfl,h2,h3,h4⟩:=hc;have hm:=Tq h;have hlen:l.length=n:=by
  have:=congrArg List.length hm;rw [zax,zav,zaN] at this;omega
 obtain⟨b,o,c,rfl,k1,k2,k3,k4,k5⟩:=(by simpa only [RV] using hx)
 have hgen:H.gen r=g':=by simp [ah.gen,hg,fD.gen]
 obtain⟨sh,e,m,q1,q2,q3,q4⟩:=k5 hgen;have ho:=R.obj r b sh q1;simp only [wH,hg] at ho;obtain⟨cs,e',p1,p2,p3,_⟩:=ho;have hoo:o=sh+off:=q2 (by omega);refine⟨?_,by omega,by omega⟩;simp only [RV];refine⟨b,o,c,by rw [hlen],by omega,by simp,(za7.1 p1).1,λr sh h=> (nomatch h),Y2 λi y hy=> ?_⟩;have hi:i < n:=by have:=(zak.1 hy).1;rw [zax] at this;omega
 rw [<-hm,zay,if_pos hi,zaA] at hy;obtain⟨v,v1,v2⟩:=Qp p3 hy;refine⟨v,by rw [hoo,show sh+off+i=sh+(off+i) by omega];exact v1,?_⟩;have:∃c:By,y=Y c:=by
  have h5:(l.map Y)[i]?=some y:=by rw [<-hm,zay,if_pos hi,zaA];exact hy
  rw [zaD] at h5;cases hh:l[i]? with
  | none=> rw [hh] at h5;cases h5
  | some c=> rw [hh] at h5;exact⟨c,(zaX h5).symm⟩
 obtain⟨c,rfl⟩:=this;simp only [Y,U,RV] at v2 ⊢;exact v2
theorem Tt:∀{l:List AV} {z z':AV} {cs:List Value},(∀x∈l,∃v,x=.s v)->RVs ρ G w (l++[z]) cs->(∀c,RV ρ G w z c->RV ρ' G' w' z' c)->RVs ρ' G' w' (l++[z']) cs
 | [],z,z',cs,_,h,hz=> by
  simp only [zaU,RVs] at h ⊢;obtain⟨y,ys,e,h1,h2⟩:=h;exact⟨y,ys,e,hz y h1,h2⟩
 | x::l,z,z',cs,hs,h,hz=> by
  obtain⟨y,ys,e,h1,h2⟩:=(by simpa only [zbc,RVs] using h)
  simp only [zbc,RVs];obtain⟨v,rfl⟩:=hs x (by simp);exact⟨y,ys,e,by simpa only [RV] using h1,Tt (λx hx=> hs x (by simp [hx])) h2 hz⟩
end
theorem NM {ρ ρ1:Ren}{H KF:ah}{w w1:World}(R:Rel ρ H w)(R1:Rel ρ1 KF w1)(E:Ext noR ah.empty w ρ1 KF w1){p:Pkt}{z:AV}{v:Value}{e:Int}
  (hz:(z=zN/\p.data=[])∨(p.data≠[]/\∃r g ex ty,z=.sl r g 0 1 p.data.length p.data.length ex/\KF.get r=.blk g ty (p.data.map I))) (hv:RV ρ1 KF.gen w1 (.tup [.agg (p.avx z),I e]) v):
  RV ρ H.gen w1 (.tup [.agg p.av,I e]) v:=by
 simp only [RV,RVs] at hv ⊢;obtain⟨cs,rfl,y,ys,h1,h2,h3⟩:=hv;obtain⟨cs2,rfl,h2⟩:=h2;refine⟨cs,rfl,_,ys,h1,⟨cs2,rfl,?_⟩,h3⟩;have e1:p.avx z=[I p.bf,I p.src,I p.dst,I p.id,I p.aB,I p.ptr,I p.state,B p.flag]++[z]:=rfl;have e2:p.av=[I p.bf,I p.src,I p.dst,I p.id,I p.aB,I p.ptr,I p.state,B p.flag]++[dat p.data]:=rfl;rw [e1] at h2;rw [e2];refine Tt (λx hx=> ?_) h2 λc hc=> ?_
 ·simp only [zar,zaH,or_false] at hx;rcases hx with rfl | rfl | rfl | rfl | rfl | rfl | rfl | rfl <;> exact⟨_,rfl⟩
 ·rcases hz with⟨rfl,h0⟩ | ⟨hd,r,g,ex,ty,rfl,hg⟩
  ·rw [h0,dat,gB]
   simpa only [RV] using hc
  ·obtain⟨b,o,k,rfl,k1,k2,k3,k4,k5⟩:=(by simpa only [RV] using hc)
   obtain⟨sh,e,m,q1,q2,q3,q4⟩:=k5 (by simp [ah.gen,hg,fD.gen]);have ho:=R1.obj r b sh q1;simp only [wH,hg] at ho;obtain⟨cs',e',p1,p2,p3,_⟩:=ho;have hb:w.heap.size<=b:=by
    rcases E.range r b sh q1 with h | ⟨_,h⟩
    ·exact h
    ·cases h
   ·rw [qW hd];simp only [RV];have h0:0 < p.data.length:=List.length_pos_iff.2 hd;refine⟨b,o,k,rfl,by omega,by simp,(za7.1 p1).1,LU R hb,Y2 λi y hy=> ?_⟩;obtain⟨v,v1,v2⟩:=Qp p3 hy;have:o=sh+0:=q2 (by omega);refine⟨v,by rw [this];exact v1,?_⟩;rw [zaD] at hy;cases hh:p.data[i]? with
    | none=> rw [hh] at hy;cases hy
    | some n=>
     rw [hh] at hy;cases hy
     simpa only [RV] using v2
open Go.RowKit
theorem abM {l:List By}(h:l.length<=800):bU ah.empty (.vs l.length 1 (l.map Y)) l:=⟨⟨by simp,rfl,rfl,rfl⟩,by omega⟩
theorem U3 {H:ah}(hb:H.base<=H.next){x:AV}{l:List By}(hx:bU H x l)(hl:l.length < 900)(hn:∀m,l≠jh m):
  ∃K,cl0 76 [x] H=some (.tup [.agg zPk,I 2],K):=by
 let H1:=H.new (.blk 0 99 zPk);have g1:Gro H H1:=Gro.new H 0 _ _;have hb1:H1.base<=H1.next:=by simp only [H1,iC,dL];omega
 obtain⟨H2,e1,g2⟩:=abp hb1 (hx.gro g1) hl hn;have at0:H2.get H.next=.blk 0 99 zPk:=by rw [g2.same _ (by simp only [H1,dL];omega)];exact aJ rfl
 have hbase:H2.base<=H.next:=by rw [g2.base];simp only [H1,iC];exact hb
 have all:zPk.all AV.aU=true:=rfl;have e3:st 9 (.ref H.next 0 0) (.agg zPk) H2=some (aO,H2.put H.next (.blk 0 99 zPk)):=by
  rw [RD all (show zPk.length=9 from rfl) at0 hbase (by decide)];rfl
 have e4:lda 9 (.ref H.next 0 0) (H2.put H.next (.blk 0 99 zPk))=some (.agg zPk,H2.put H.next (.blk 0 99 zPk)):=(fO (off:=0) (n:=9) qZ (zac _)).trans rfl;have ebd:bd 99 []=some (.agg zPk):=by
  simp only [xq_,xw,jo,fJ]
 refine⟨H2.put H.next (.blk 0 99 zPk),iq (anL _ _ _ ?_)⟩;simp only [H1] at e1;simp only [xq_,ajh,e1,ebd,e3,e4,zaf]
theorem ru {r:Res}{g:Run}{t1:fC}{H1:ah}(h:qx r g=some (.normal,t1,H1)):∃t2 H2,r=some (.normal,t2,H2)/\g t2 H2=some (.normal,t1,H1):=by
 unfold qx at h;split at h
 ·exact⟨_,_,rfl,h⟩
 ·cases h
 ·cases h
 ·cases h
theorem ET {c d:Code}{t t2:fC}{H H2:ah}(hx:dZ Tryz.prog cl0 c t H=some (.normal,t2,H2)){ρ:Ren}{w:World}{a:Act}(R:Rel ρ H w)(T:TOn ρ H.gen w (λ_=> True) t a){Q:Exit->Act->World->Prop}
  (h:∀a' ρ' w',Rel ρ' H2 w'->TOn ρ' H2.gen w' (λ_=> True) t2 a'->Ext ρ H w ρ' H2 w'->a'.defers=a.defers->d.wp Tryz.prog Q a' w'):(Code.seq c d).wp Tryz.prog Q a w:=
 wp_seq (zJ ES.1 ES.2 (by kernel_rfl) c t H _ t2 H2 hx ρ w a R T _ λa' ρ' w' r1 r2 r3 r4=> h a' ρ' w' r1 r2 r3 r4)
theorem abN:∃a b c d e f id j id7 ops7 ida ty pos aft,Tryz.f76.body=some (.seq a (.seq b (.seq c (.seq d (.seq (.seq e (.block id (.rangeFunc (.tmp 76) #[77] (.region ida #[{ dst:=some 7,op:=.assign (.tmp 77),type:=ty,pos:=pos,after:=aft,guard:=none }] false) (.block j (.region id7 ops7 true))))) f)))))
  /\Yw=.seq a (.seq b (.seq c (.seq d (.seq e .skip))))/\SK=.block j (.region id7 ops7 true)/\SL=f/\ops7.all Ac=true:=
 ⟨_,_,_,_,_,_,_,_,_,_,_,_,_,_,rfl,by kernel_rfl,by kernel_rfl,by kernel_rfl,by kernel_rfl⟩
theorem alr:xu Bj SK (nX []) (λ_=> 0) 0=192:=by kernel_rfl
theorem als:xu Bj SL (OG Tryz.f76.results.toList) (λ_=> 0) (OG Tryz.f76.results.toList)=69:=by kernel_rfl
theorem alu:∀i,i < 100->Nat.testBit 192 i=true->i=6∨i=7:=by decide
theorem alv:∀i,i < 100->Nat.testBit 69 i=true->i=0∨i=2∨i=6:=by decide
theorem aon:Ls Bj 100 Yw (nX [0,2,6,76]) (λ_=> 0) 0=true:=by kernel_rfl
theorem aoo:Ls Bj 100 SK (nX []) (λ_=> 0) 0=true:=by kernel_rfl
theorem aop:Ls Bj 100 SL (OG Tryz.f76.results.toList) (λ_=> 0) (OG Tryz.f76.results.toList)=true:=by kernel_rfl
theorem ags {HA:ah}{p:Pkt}{r6 r8 ry:Nat}{H:ah}(A:PcA H HA p r6 r8 ry){ρ:Ren}{w:World}{b8 b9 by_ sy:Nat}(q8:ρ r8=some (b8,0))(q9:ρ (r8+1)=some (b9,0))(qy:ρ ry=some (by_,sy))
  {pre:List (Fin p.data.length)} {K:ah} {ρ1:Ren} {W:World} (hi:aey HA p r6 pre K) (R:Rel ρ1 K W) (E:Ext ρ HA w ρ1 K W):agn b8 b9 by_ (sy+10) p.data.length W:=by
 obtain⟨z,ac,_⟩:=hi;have top:=A.top;have hi:=A.hi;have ry6:=A.ry6;have key:∀r,r < HA.next->r≠r6->K.get r=HA.get r:=λr h1 h2=> by rw [ac.gro.same r h1,uV h2]
 have k8:K.get r8=_:=(key r8 (by omega) (by omega)).trans A.amf;have k9:K.get (r8+1)=_:=(key (r8+1) (by omega) (by omega)).trans A.amg;obtain⟨⟨hl,_,_,⟨hr,_⟩,ty,all,h2,h3,h4⟩,hs⟩:=A.by_;have ky:K.get ry=_:=(key ry hr (by omega)).trans h2;have p8:ρ1 r8=some (b8,0):=E.same r8 _ q8 (by simp only [ah.gen,k8,A.amf]);have p9:ρ1 (r8+1)=some (b9,0):=E.same (r8+1) _ q9 (by simp only [ah.gen,k9,A.amg]);have py:ρ1 ry=some (by_,sy):=E.same ry _ qy (by simp only [ah.gen,ky,h2]);have o8:=R.obj _ _ _ p8;have o9:=R.obj _ _ _ p9;rw [k8] at o8;rw [k9] at o9;obtain⟨cs8,e8,u1,u2,u3,u4⟩:=o8;obtain⟨cs9,e9,v1,v2,v3,v4⟩:=o9;simp only [RVc] at u3 v3;obtain⟨⟨s8,c8,d8⟩,_⟩:=u3;obtain⟨⟨s9,c9,d9⟩,_⟩:=v3;obtain⟨b,o,c,rfl,g1,g2,g3,g4,g5⟩:=(by simpa only [RV] using d8)
 obtain⟨sh,e,m,f1,f2,f3,f4⟩:=g5 (by simp [ah.gen,ky,fD.gen]);rw [py] at f1;cases f1;simp only [RV] at d9;subst d9;exact⟨⟨o,c,λhN=> f2 (by omega),g2,c8⟩,c9⟩
set_option maxHeartbeats 1000000 in
theorem Qq {p:Pkt}(hp:p.fit){w:World}{cx:Value}(R0:Rel noR ah.empty w){x:AV}(hx:bU ah.empty x (qH p))(hx0:∀r,iP x≠some r)(hcx:RV noR ah.empty.gen w x cx):
  Calls Tryz.prog 76 #[cx] w λe w'=>∃cv ρ1 KF z,e=.returned cv/\Rel ρ1 KF w'/\Ext noR ah.empty w ρ1 KF w'/\((z=zN/\p.data=[])∨(p.data≠[]/\∃r g ex ty,z=.sl r g 0 1 p.data.length p.data.length ex/\KF.get r=.blk g ty (p.data.map I)))/\RV ρ1 KF.gen w' (.tup [.agg (p.avx z),I 0]) cv:=by
 obtain⟨a,b,c,d,e,f,id,j,id7,ops7,ida,ty,pos,aft,hbody,hA,hB,hC,hno⟩:=abN;have ok:=hp.ok;simp only [Pkt.ok,zaj,decide_eq_true_eq] at ok;have nm0:uM ah.empty:=λr k es h=> (nomatch h)
 obtain⟨r6,r8,ry,HA,eA,A⟩:=aln (H:=ah.empty) (zac 0) hp hx;have nmA:uM HA:=A.gro.MZ nm0;rw [<-ak6] at eA;obtain⟨tA,xA,eA1,agA,pj⟩:=GY (t:=[x]++List.replicate 99 aO) aon ⟨by simp,λi hn _=> by
  have:=IZ 100 [x] 0 i hn
  rwa [za5] at this⟩ eA
 simp only [wu,zbJ,and_true] at pj;obtain⟨j0,j2,j6,j76⟩:=pj;have get:∀i,i < 100->(nX [0,2,6,76]).testBit i=true->tA.getD i aO=J3 eA1 i:=agA.get;have t0:=(get 0 (by decide) (by decide)).trans j0;have t2:=(get 2 (by decide) (by decide)).trans j2;have t6:=(get 6 (by decide) (by decide)).trans j6;have t76:=(get 76 (by decide) (by decide)).trans j76;rw [hA] at xA;simp only [dZ] at xA;obtain⟨ta,Ha,xa,xA⟩:=ru xA;obtain⟨tb,Hb,xb,xA⟩:=ru xA;obtain⟨tc,Hc,xc,xA⟩:=ru xA;obtain⟨td,Hd,xd,xA⟩:=ru xA;obtain⟨te,He,xe,xA⟩:=ru xA;simp only [zaa,zae,true_and] at xA;obtain⟨rfl,rfl⟩:=xA;refine(callsIn_wide (n:=9)).1 (callsIn_of_wp_marks Tryz.func76 hbody trivial ?_ rfl);refine wpIn_wide.2 ?_;have T0:TOn noR ah.empty.gen w (λ_=> True) ([x]++List.replicate 99 aO) { tmps:=#[cx]++Array.replicate (Tryz.f76.ntmps - #[cx].size) undef,defers:=[] }:=Wp (args:=[x]) (m:=100) (by simp only [RVs];exact⟨_,_,rfl,hcx,rfl⟩);refine ET xa R0 T0 λa1 ρ1 w1 R1 T1 E1 D1=> ?_;refine ET xb R1 T1 λa2 ρ2 w2 R2 T2 E2 D2=> ?_;refine ET xc R2 T2 λa3 ρ3 w3 R3 T3 E3 D3=> ?_;refine ET xd R3 T3 λa4 ρ4 w4 R4 T4 E4 D4=> ?_;refine wp_seq ?_;refine ET xe R4 T4 λa5 ρ w5 R T E5 D5=> ?_;have E:Ext noR ah.empty w ρ He w5:=(((E1.trans E2).trans E3).trans E4).trans E5;have hdef:a5.defers=[]:=D5.trans (D4.trans (D3.trans (D2.trans D1)))
 -- the iterator's ags
 have tv:=T.any 76 trivial;rw [t76] at tv;obtain⟨af,cf,hf,hf1,hf2⟩:=(by simpa only [RV] using tv)
 simp only [RVs] at hf1 hf2;obtain⟨v8,l8,hl8,hv8,v9,l9,rfl,hv9,rfl⟩:=hf2;have top:=A.top;have lo:=A.lo;obtain⟨p8,e8,g8,n8⟩:=(by simpa only [RV] using hv8)
 obtain⟨b8,s8,q8,rfl⟩:=n8 (by simp [ah.gen,A.amf,fD.gen]);obtain⟨p9,e9,g9,n9⟩:=(by simpa only [RV] using hv9)
 obtain⟨b9,s9,q9,rfl⟩:=n9 (by simp [ah.gen,A.amg,fD.gen]);have o8:=R.obj _ _ _ q8;have o9:=R.obj _ _ _ q9;rw [A.amf] at o8;rw [A.amg] at o9;obtain⟨cs8,ee8,u1,u2,u3,u4⟩:=o8;obtain⟨cs9,ee9,m1,m2,m3,m4⟩:=o9;obtain⟨_,rfl,_⟩:=u4.1 (by decide);obtain⟨_,rfl,_⟩:=m4.1 (by decide);simp only [RVc] at u3;obtain⟨⟨sv,c8,d8⟩,_⟩:=u3;obtain⟨bY,oY,cY,rfl,z1,z2,z3,z4,z5⟩:=(by simpa only [RV] using d8)
 obtain⟨⟨hyl,_,_,⟨hry,_⟩,tyY,ap7,y2,y3,y4⟩,ys⟩:=A.by_;obtain⟨sY,eY,nY,qy,_,y5,_⟩:=z5 (by simp [ah.gen,y2,fD.gen]);have oy:=R.obj _ _ _ qy;rw [y2] at oy;obtain⟨csY,eY',k1,k2,k3,k4⟩:=oy;have hN:(eG p).length=10+8*p.data.length:=EP p;have hev:a5.eval (.tmp 76)=.func (.func 159) #[] #[.pointer (some ⟨b8,0,none⟩),.pointer (some ⟨b9,0,none⟩)]:=by
  have e1:af=#[]:=zb7.1 hf1;have e2:cf=#[.pointer (some ⟨b8,0,none⟩),.pointer (some ⟨b9,0,none⟩)]:=zb7.1 (by rw [hl8,e8,e9]);show a5.tmps.getD 76 undef=_;rw [hf,e1,e2]
 have hrun:∀(pre:List (Fin p.data.length)) (x':Fin p.data.length) (K:ah),aey He p r6 pre K->pre.length < p.data.length->∃t2 H2,dZ Tryz.prog cl0 (.block j (.region id7 ops7 true)) (tY (tY te (some 77) (ER ry x'.val)) (some 7) (ER ry x'.val)) K=some (.normal,t2,H2)/\aey He p r6 (pre++[x']) H2:=by
  intro pre x' K hi hl;obtain⟨K',e1,i1⟩:=alp (zac 0) nmA hp A hi hl x';rw [<-ak7] at e1;obtain⟨t3,x3,_⟩:=GY (t:=tY (tY te (some 77) (ER ry x'.val)) (some 7) (ER ry x'.val)) aoo ⟨by rw [kQ,kQ];exact agA.len,λi hn hb=> by
   rw [alr] at hb;rcases alu i hn hb with rfl | rfl
   ·simpa [tY,List.getD,zcJ,J3] using t6
   ·have:te.length=100:=agA.len;simp [tY,List.getD,J3,this];rfl⟩ e1
  rw [hB] at x3;exact⟨t3,K',x3,i1⟩
 refine wp_block ?_;have alx:b8 < w5.heap.size:=R.block q8;have aly:b9 < w5.heap.size:=R.block q9;have inv0:aey He p r6 [] He:=by
  refine⟨zN,⟨⟨zac _,rfl,λr _=> ?_,λ_=> nmA⟩,?_,.inl ⟨rfl,rfl⟩⟩,λ_=> rfl⟩
  ·by_cases h:r=r6
   ·subst h;rw [qZ,A.six]
   ·rw [uV h]
  ·show He.base<=He.next
   rw [A.gro.base];exact zaV _
 refine abo (by kernel_rfl) R T (p:=77) (d:=7) (show 77 < List.length te by rw [agA.len];decide) (by decide) hev (enters_of Tryz.func159 (by kernel_rfl) rfl)
  (N:=p.data.length) (λx'=> ER ry x'.val) (λx'=> .slice (some ⟨bY,sY+10+8*x'.val,none⟩) 8 8) ?hv (agn b8 b9 bY (sY+10) p.data.length) ?hL (λn hn=> Qo n hn b8 b9 bY (sY+10) p.data.length (by omega) w5 alx aly ?hCh)
  (aey He p r6) inv0 ?hnm (λpre K ρ' W hi R' E'=> ags A q8 q9 qy hi R' E') hrun (Qh (Qg ES.1 ES.2 (by kernel_rfl) (λo ho=> by simpa using (zcC.1 hno) o ho))) ?hQ
 case hv=>
  intro x';have:=x'.isLt;simp only [RV];refine⟨bY,sY+10+8*x'.val,8,rfl,zac _,zac _,λ_=> rfl,zaV _,λ_=> ⟨sY,eY',csY.size,qy,λ_=> by omega,by rw [dY,k1];rfl,by omega⟩⟩
 case hL=>
  rintro W l o o' hl ho hc ⟨⟨o1,c1,h1,h2,h3⟩,h4⟩;have n8:b8≠l:=by omega
  have n9:b9≠l:=by omega
  exact⟨⟨o1,c1,h1,h2,(World.cell?_of_block (World.putObj_heap_other n8)).trans h3⟩,(World.cell?_of_block (World.putObj_heap_other n9)).trans h4⟩
 case hCh=> exact ags A q8 q9 qy inv0 R (Ext.refl _ _ _)
 case hnm=>
  rintro pre K ⟨z,ac,_⟩;exact ac.gro.MZ (nmA.put _ _ _ _)
 case hQ=>
  intro xs K D W ρ1' hall hi RW EW hD hDi hDs;obtain⟨z,K',eC,nmK,hz⟩:=alq (zac 0) nmA hp hx hx0 A A.two hi hall;rw [<-ak8] at eC;obtain⟨ex,tF,hex,xC,hres⟩:=Yv (t:=te) aop ⟨agA.len,λi hn hb=> by
   rw [als] at hb;rcases alv i hn hb with rfl | rfl | rfl
   ·exact t0
   ·exact t2
   ·exact t6⟩ eC
  rw [hC] at xC;show f.wp Tryz.prog _ _ W;refine zJ ES.1 ES.2 (by kernel_rfl) f te K ex tF K' xC ρ1' W { a5 with defers:={ target:=.collected D,args:=#[] }::a5.defers } RW ⟨(T.keep EW).size,(T.keep EW).get⟩ _ λa6 ρ6 w6 R6 T6 E6 D6=> ?_;have hD6:w6.heap[D]?=some (.deferred (some [])):=by rw [E6.frame D (za7.1 hD).1 hDi];exact hD
  have aoq:a6.defers=[{ target:=.collected D,args:=#[] }]:=by rw [D6];show _::a5.defers=_;rw [hdef]
  have apO:=(E.trans EW).trans E6;have hr6:∀r,some D=some r->w.heap.size<=r/\∃o:Obj,w6.heap[r]?=some o/\o.isCells=false:=λr e=> by
   cases e;exact⟨zas E.size hDs,_,hD6,rfl⟩
  obtain⟨R7,G7⟩:=nmK.grown R6 (grownBy_putObj' w6 D (.deferred none)) hr6 λb hb=> (R0.gl.1 b hb).1;have T7:TOn ρ6 K'.gen (w6.putObj D (.deferred none)) (λ_=> True) tF a6:=⟨T6.size,λd hd hl=> RV.grn G7 _ _ (T6.get d hd hl)⟩
  have E7:=apO.grown (grownBy_putObj' w6 D (.deferred none)) λr e=> (hr6 r e).1;obtain⟨cv,c1,c2⟩:=F9 (P:=Tryz.prog) (fn:=Tryz.f76) R7 T7 hres;have fin:LeavesInM Fence.wide 9 Tryz.prog Tryz.f76 a6.tmps (λe w'=>∃cv ρ1 KF z,e=.returned cv/\Rel ρ1 KF w'/\Ext noR ah.empty w ρ1 KF w'/\((z=zN/\p.data=[])∨(p.data≠[]/\∃r g ex ty,z=.sl r g 0 1 p.data.length p.data.length ex/\KF.get r=.blk g ty (p.data.map I)))/\RV ρ1 KF.gen w' (.tup [.agg (p.avx z),I 0]) cv) a6.defers .returning w6:=by
   rw [aoq];refine⟨by simp,.inl ⟨D,_,rfl,run_takeDeferred hD6,?_⟩⟩;exact⟨cv,c1,cv,ρ6,K',z,rfl,R7,E7,hz,c2⟩
  rcases hex with rfl | rfl
  ·exact fin
  ·exact fin
open Classical in
theorem Qr:RJ 76 zX:=by
 refine⟨GH λargs H v H' h ρ w jZ R ha=> ?_,λargs H v H' h=> ?_⟩
 ·unfold zX at h;split at h;rotate_left
  ·cases h
  rename_i x;obtain⟨cx,rfl,hx⟩:=PU ha;split at h;rotate_left
  ·cases h
  rename_i l hl;obtain⟨hv,h0,h8⟩:=Y3 R hx hl;have R0:=abL R;have hb:=abM h8;split at h
  ·rename_i hp;simp only [zaa,zae] at h;obtain⟨rfl,rfl⟩:=h;obtain⟨hfit,hpk⟩:=Classical.choose_spec hp;generalize Classical.choose hp=p at*;subst hpk;refine(Qq hfit R0 hb (λr e=> by cases e) hv).mono ?_;rintro e w' ⟨cv,ρ1,KF,z,rfl,R1,E1,hz,hv1⟩;obtain⟨R2,E2⟩:=uH R (NJ E1);exact⟨cv,ρ,rfl,R2,NM R R1 E1 hz hv1,E2⟩
  ·split at h;rotate_left
   ·cases h
   rename_i hs;simp only [zaa,zae] at h;obtain⟨rfl,rfl⟩:=h;obtain⟨K,e1⟩:=U3 (H:=ah.empty) (zac 0) hb (by omega) hs;refine(ES.1 _ _ _ _ _ e1 noR w #[cx] R0 (by simp only [RVs];exact⟨_,_,rfl,hv,rfl⟩)).mono ?_;rintro e w' ⟨cv,ρ1,rfl,R1,hv1,E1⟩;obtain⟨R2,E2⟩:=uH R (NJ E1);refine⟨cv,ρ,rfl,R2,?_,E2⟩;exact NM (p:=Pkt.zero) (z:=zN) R R1 E1 (.inl ⟨rfl,rfl⟩) hv1
 ·unfold zX at h;have:H'=H:=by
   repeat' split at h
   all_goals first
    | (cases h;done)
    | (simp only [zaa,zae] at h;exact h.2.symm)
  subst this;exact Keeps.refl _
end
end Go.Proofs.YtmdbbfoefdjgoaaGreat
