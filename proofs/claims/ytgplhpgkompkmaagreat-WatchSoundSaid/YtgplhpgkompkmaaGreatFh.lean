/-
  Own work, a part.
-/
import Derived.RangeFuncLeaves
import Derived.Test.YtgplhpgkompkmaaGreatFg
set_option linter.all false
namespace Go.Proofs.YtgplhpgkompkmaaGreat
open Option renaming some->ZC,none->Z1
open Bool renaming true->Z0,false->ZV
open Decidable renaming decide->u,decide->YM
noncomputable section
abbrev zPk:List AV:=[zI,zI,zI,zI,zI,zI,zI,zB,zN]
def cvI(c:By)(H:ah):cv 5 3 (Y c) H=ZC (I (c.toNat:Int),H):=by
 have h:=c.isLt;have:=ang (k:=.u8) (n:=(c.toNat:Int)) (H:=H);rw[wrap_i64 V V]at this;exact this
def auf {z:Int}(h0:0<=z)(e:z<4096):(BitVec.ofInt 64 (z / 256*256) ||| BitVec.ofInt 64 (z % 256)).toNat=z.toNat:=by
 obtain⟨N,rfl⟩:∃N:Nat,z=N:=⟨z.toNat,V⟩
 have b:((N:Int) / 256*256)=((N / 256*256:Nat):Int):=V
 have d:((N:Int) % 256)=((N % 256:Nat):Int):=V
 rw[b,d,BitVec.ofInt_natCast,BitVec.ofInt_natCast,BitVec.toNat_or,zay,zay,Nat.mod_eq_of_lt V,Nat.mod_eq_of_lt V,Int.toNat_natCast];have:=Nat.shiftLeft_add_eq_or_of_lt (show N % 256<2 ^ 8 by omega) (N / 256);rw[Nat.shiftLeft_eq]at this;rw[show N / 256*256=N / 256*2 ^ 8 from W,<-this];omega
def ajt(H:ah)(b:AV)(h:One b):cl0 179 [b,I 8] H=ZC (.fn (.func 214) [] [.ref H.next 0 0,.ref (H.next+1) 0 0],(H.new (.blk 0 220 [b])).new (.blk 0 3 [I 8])):=by
 refine iT (apy _ _ _ _ ?_);have d:fK 220 b H=ZC (.ref H.next 0 0,H.new (.blk 0 220 [b])):=by
  have:=V5 (t:=220) (v:=b) (H:=H) (by rw[h.1];simp[h.2]) J;rw[h.1]at this;exact this
 have e:∀H,fK 3 (I 8) H=ZC (.ref H.next 0 0,H.new (.blk 0 3 [I 8])):=λH=>V5 (t:=3) (v:=I 8) (H:=H) W J;simp only[Int.reduceLT,xq_,hq_,aiM,Oq,d,e]
structure PcA(H HA:ah)(p:Pkt)(r6 r8 ry:Nat):Prop where
 gro:Gro H HA
 six:HA.get r6=.blk 0 81 (p.avx zN)
 lo:H.next<r6
 ry6:ry<r6
 hi:r6<r8
 top:HA.next=r8+1+1
 arV:HA.get r8=.blk 0 220 [.sl ry 0 10 1 (8*p.data.length) (8*p.data.length) false]
 arW:HA.get (r8+1)=.blk 0 3 [I 8]
 by_:dL HA (.sl ry 0 0 1 (fH p).length (fH p).length false) (fH p)
 two:HA.get H.next=.blk 0 81 zPk
def Jg(p:Pkt):(fH p).length=10+8*p.data.length:=by
 unfold fH;rw[List.length_append,qR];simp only[List.length_cons,List.length_nil];omega
def aqP {H:ah}(hb:H.base<=H.next){x:AV}{p:Pkt}(hp:p.fit)(hx:dL H x (sZ p)):
  ∃r6 rs ry HA,UQ cl0 x H=ZC ([x,.ref H.next 0 0,.ref r6 0 0,.fn (.func 214) [] [.ref rs 0 0,.ref (rs+1) 0 0]],HA)/\PcA H HA p r6 rs ry:=by
 have ok:=hp.ok;simp only[Pkt.ok,Bool.and_eq_true,zab]at ok;have hlen:=Jg p;have hl:(fH p).length<800:=by omega
 have h0:fH p≠[]:=λe=>by rw[e]at hlen;simp at hlen;omega
 let H1:=H.new (.blk 0 81 zPk);have g1:Gro H H1:=Gro.new H 0 _ _;have hb1:H1.base<=H1.next:=by simp only[H1,iO,eu];omega
 obtain⟨y,H2,e1,g2,by2,ry,rfl⟩:=ak0 hb1 (m:=fH p) (hx.gro g1) hl h0;have ln:=by2.is.lnS;have at_:∀(i:Nat) (c:By),(fH p)[i]?=ZC c->ix 1 (.sl ry 0 0 1 (fH p).length (fH p).length ZV) (I i) H2=ZC (eH (.sl ry 0 0 1 (fH p).length (fH p).length ZV) i,H2)/\ld (eH (.sl ry 0 0 1 (fH p).length (fH p).length ZV) i) H2=ZC (Y c,H2):=λi c hc=>⟨by2.ix (List.getElem?_eq_some_iff.1 hc).1,by2.ld hc⟩
 have⟨i9,l9⟩:=at_ 9 (by8 p.data.length) W;have hry:=by2.is.2.2.2.1.1;have b9:((by8 (p.data.length:Int)).toNat:Int)=p.data.length:=by rw[oJ];omega
 have q1:¬(10+8*(p.data.length:Int)<10):=by omega
 have w1:=wrap_i64 (a:=8*(p.data.length:Int)) (by omega) (by omega);have w2:=wrap_i64 (a:=10+8*(p.data.length:Int)) (by omega) (by omega);have q2:((fH p).length:Int)=10+8*(p.data.length:Int):=by omega
 let zz:gG:=.blk 0 81 zPk;let H3:=H2.new zz;have g3:Gro H2 H3:=Gro.new H2 0 _ _;have by3:=by2.gro g3;have at3:∀(i:Nat) (c:By),(fH p)[i]?=ZC c->ix 1 (.sl ry 0 0 1 (fH p).length (fH p).length ZV) (I i) H3=ZC (eH (.sl ry 0 0 1 (fH p).length (fH p).length ZV) i,H3)/\ld (eH (.sl ry 0 0 1 (fH p).length (fH p).length ZV) i) H3=ZC (Y c,H3):=λi c hc=>⟨by3.ix (List.getElem?_eq_some_iff.1 hc).1,by3.ld hc⟩
 have⟨i0,l0⟩:=at3 0 (by8 p.aW) W;have⟨i1,l1⟩:=at3 1 (by8 p.src) W;have⟨i2,l2⟩:=at3 2 (by8 p.dst) W;have⟨i3,l3⟩:=at3 3 (by8 (p.id.fdiv 256)) W;have⟨i4,l4⟩:=at3 4 (by8 p.id) W;have⟨i5,l5⟩:=at3 5 (by8 p.ak) W;have⟨i6,l6⟩:=at3 6 (by8 (p.ptr+1)) W;have⟨i7,l7⟩:=at3 7 (by8 p.state) W;have⟨i8,l8⟩:=at3 8 (by8 (if p.flag then 1 else 0)) W;have f0:((by8 p.aW).toNat:Int)=p.aW:=by rw[oJ];omega
 have f1:((by8 p.src).toNat:Int)=p.src:=by rw[oJ];omega
 have f2:((by8 p.dst).toNat:Int)=p.dst:=by rw[oJ];omega
 have f3:((by8 (p.id.fdiv 256)).toNat:Int)=p.id / 256:=by rw[oJ,Int.fdiv_eq_ediv_of_nonneg _ (by decide)];omega
 have f4:((by8 p.id).toNat:Int)=p.id % 256:=by rw[oJ]
 have f5:((by8 p.ak).toNat:Int)=p.ak:=by rw[oJ];omega
 have f6:((by8 (p.ptr+1)).toNat:Int)=p.ptr+1:=by rw[oJ];omega
 have f7:((by8 p.state).toNat:Int)=p.state:=by rw[oJ];omega
 have sh:bi .shl 3 (I (p.id / 256)) (.s (.int .u64 8))=ZC (I (p.id / 256*256)):=by
  have:=aa2 (P:=Tryz.prog) (t:=3) (k:=.i64) (k':=.u64) (a:=p.id / 256) (n:=8) (by decide);rw[show(p.id / 256*2 ^ (min (8:Int).toNat (IntKind.bits .i64)):Int)=p.id / 256*256 from W,wrap_i64 (by omega) (by omega)]at this;exact this
 have eo:bi .or 3 (I (p.id / 256*256)) (I (p.id % 256))=ZC (I p.id):=by
  have:=ahJ (P:=Tryz.prog) (t:=3) (k:=.i64) (a:=p.id / 256*256) (b:=p.id % 256);rw[show(BitVec.ofInt (IntKind.bits .i64) (p.id / 256*256) ||| BitVec.ofInt (IntKind.bits .i64) (p.id % 256)).toNat=p.id.toNat from auf (by omega) (by omega),Int.toNat_of_nonneg (by omega),wrap_i64 (by omega) (by omega)]at this;exact this
 have s6:p.ptr+1-1=p.ptr:=by omega
 have w6:=wrap_i64 (a:=p.ptr) (by omega) (by omega);have e8:bi .eql 5 (Y (by8 (if p.flag then 1 else 0))) (.s (.int .u8 1))=ZC (B p.flag):=by
  cases p.flag <;> kernel_rfl
 have ebd:bd 81 [(0,I p.aW),(1,I p.src),(2,I p.dst),(3,I p.id),(4,I p.ak),(5,I p.ptr),(6,I p.state),(7,B p.flag)]=ZC (.agg (p.avx zN)):=by
  simp only[xq_,zC,jf,fO,Uj,Pkt.avx];rfl
 have aqQ:H2.base<=H2.next:=by rw[g2.base];exact Nat.le_trans hb1 g2.next
 have st1:st 9 (.ref H2.next 0 0) (.agg (p.avx zN)) H3=ZC (aX,H2.new (.blk 0 81 (p.avx zN))):=by
  rw[pR W,YY ⟨aqQ,W,Gf qG,show 0+9<=9 by omega⟩];rfl
 let H4:=H2.new (.blk 0 81 (p.avx zN));have s10:slS 1 (.sl ry 0 0 1 (fH p).length (fH p).length ZV) (ZC (I 10)) Z1 Z1=ZC (.sl ry 0 10 1 (8*p.data.length) (8*p.data.length) ZV):=by
  rw[E9 (by decide) (by omega) (Nat.le_refl _)];have e10:(10:Int).toNat=10:=rfl;have q3:(fH p).length-10=8*p.data.length:=by omega
  rw[e10,q3]
 let sv:AV:=.sl ry 0 10 1 (8*p.data.length) (8*p.data.length) ZV;have ec:=ajt H4 sv vZ;have g4:Gro H2 H4:=Gro.new H2 0 _ _;let H5:=H4.new (.blk 0 220 [sv]);let H6:=H5.new (.blk 0 3 [I 8]);have g5:Gro H4 H5:=Gro.new H4 0 _ _;have g6:Gro H5 H6:=Gro.new H5 0 _ _;have n4:H4.next=H2.next+1:=eu
 have n5:H5.next=H2.next+1+1:=by simp only[H5,eu,n4]
 have n6:H6.next=H2.next+1+1+1:=by simp only[H6,eu,n5]
 have l2n:=g2.next
 have l1n:H1.next=H.next+1:=eu
 refine⟨H2.next,H4.next,ry,H6,?_,?_⟩
 ·simp only[H1,H3,zz]at e1 i0 l0 i1 l1 i2 l2 i3 l3 i4 l4 i5 l5 i6 l6 i7 l7 i8 l8 st1;have i9:ix 1 (.sl ry 0 0 1 (fH p).length (fH p).length ZV) (I 9) H2=_:=i9;have i0:ix 1 (.sl ry 0 0 1 (fH p).length (fH p).length ZV) (I 0) (H2.new (.blk 0 81 zPk))=_:=i0;have i1:ix 1 (.sl ry 0 0 1 (fH p).length (fH p).length ZV) (I 1) (H2.new (.blk 0 81 zPk))=_:=i1;have i2:ix 1 (.sl ry 0 0 1 (fH p).length (fH p).length ZV) (I 2) (H2.new (.blk 0 81 zPk))=_:=i2;have i3:ix 1 (.sl ry 0 0 1 (fH p).length (fH p).length ZV) (I 3) (H2.new (.blk 0 81 zPk))=_:=i3;have i4:ix 1 (.sl ry 0 0 1 (fH p).length (fH p).length ZV) (I 4) (H2.new (.blk 0 81 zPk))=_:=i4;have i5:ix 1 (.sl ry 0 0 1 (fH p).length (fH p).length ZV) (I 5) (H2.new (.blk 0 81 zPk))=_:=i5;have i6:ix 1 (.sl ry 0 0 1 (fH p).length (fH p).length ZV) (I 6) (H2.new (.blk 0 81 zPk))=_:=i6;have i7:ix 1 (.sl ry 0 0 1 (fH p).length (fH p).length ZV) (I 7) (H2.new (.blk 0 81 zPk))=_:=i7;have i8:ix 1 (.sl ry 0 0 1 (fH p).length (fH p).length ZV) (I 8) (H2.new (.blk 0 81 zPk))=_:=i8;simp only[xq_,UQ,e1,Bool.not_true,ln,q1,i9,l9,cvI,b9,iP,w1,bM,w2,q2,i0,l0,i1,l1,i2,l2,i3,l3,i4,l4,i5,l5,i6,l6,i7,l7,i8,l8,f0,f1,f2,f3,f4,f5,f6,f7,sh,eo,lF,s6,w6,e8,ebd,st1,s10];have ec2:=ajt (H2.new (.blk 0 81 (p.avx zN))) (.sl ry 0 10 1 (8*p.data.length) (8*p.data.length) ZV) vZ;rw[ec2];rfl
 ·have by6:=((by2.gro g4).gro g5).gro g6;refine⟨(((g1.trans g2).trans g4).trans g5).trans g6,?_,by omega,hry,by omega,by omega,?_,?_,by6,?_⟩
  ·rw[g6.same _ (by omega),g5.same _ (by omega)];exact aK W
  ·rw[g6.same _ (by omega)];exact aK W
  ·exact aK (by omega)
  ·rw[g6.same _ (by omega),g5.same _ (by omega),g4.same _ (by omega),g2.same _ (by omega)];exact aK W
def XD:∀(l:Q Int) (i:Nat) (v:Int),l[i]?=ZC v->((l.flatMap qY).drop (8*i)).take 8=qY v
 |[],i,v,h=>by simp at h
 |a::l,0,v,h=>by
  simp only[List.getElem?_cons_zero,Option.some.injEq]at h;subst h;rw[List.flatMap_cons,Nat.mul_zero,List.drop_zero,List.take_append_of_le_length (by rw[jM];exact Nat.le_refl _),List.take_of_length_le (by rw[jM];exact Nat.le_refl _)]
 |a::l,i+1,v,h=>by
  rw[List.flatMap_cons,show 8*(i+1)=8+8*i by omega,<-List.drop_drop,List.drop_left' (jM a)];exact XD l i v (by simpa using h)
def alk {p:Pkt}{i:Nat}{v:Int}(h:p.data[i]?=ZC v):((fH p).drop (10+8*i)).take 8=qY v:=by
 unfold fH;rw[<-List.drop_drop,List.drop_left' (i:=10) O];exact XD _ _ _ h
abbrev Jh(ry i:Nat):AV:=.sl ry 0 (10+8*i) 1 8 8 true
def alm {K:ah}{p:Pkt}{b i:Nat}{v:Int}(hb:dL K (.sl b 0 0 1 (fH p).length (fH p).length ZV) (fH p))(h:p.data[i]?=ZC v):dL K (Jh b i) (qY v):=by
 have⟨⟨n,_,_,⟨g,_⟩,j,all,k,m,d⟩,o⟩:=hb;have hi:=(List.getElem?_eq_some_iff.1 h).1;have e:=Jg p;rw[List.drop_zero,Nat.mul_one]at d;rw[Nat.zero_add,Nat.mul_one]at m;refine⟨⟨O,W,W,⟨g,Nat.le_refl _⟩,j,all,k,by rw[jM];omega,?_⟩,by rw[jM];decide⟩;rw[jM,<-alk h,List.map_take,List.map_drop,d,List.drop_take,List.take_take,Nat.min_eq_left V]
def aju(b:ah)(p:Pkt)(r6:Nat)(pre:Q (Fin p.data.length))(K:ah):Prop:=
 ∃z,Acc (b.put r6 (.blk 0 81 (p.avx z))) K z (pre.map λx=>I (p.data.getD x.val 0))/\(pre=[]->z=zN)
def uq {H:ah}{r:Nat}{o:gG}:(H.put r o).get r=o:=by simp[ah.put]
def xI {H:ah}{r x:Nat}{o:gG}(h:x≠r):(H.put r o).get x=H.get x:=by simp[ah.put,h]
def xk.put {H:ah}(h:xk H)(r g ty:Nat)(xs:Q AV):xk (H.put r (.blk g ty xs)):=λx k b=>by
 by_cases e:x=r
 ·subst e;rw[uq];simp
 ·rw[xI e];exact h x k b
def aqR {H HA:ah}(hb:H.base<=H.next)(hn0:xk HA){p:Pkt}(hp:p.fit){r6 r8 ry:Nat}(A:PcA H HA p r6 r8 ry){pre:Q (Fin p.data.length)}{K:ah}(hi:aju HA p r6 pre K)(hl:pre.length<p.data.length)(x:Fin p.data.length):
  ∃K',UR cl0 (.ref r6 0 0) (Jh ry x.val) K=ZC ([],K')/\aju HA p r6 (pre++[x]) K':=by
 have ok:=hp.ok;simp only[Pkt.ok,Bool.and_eq_true,zab]at ok;have⟨z,ac,_⟩:=hi;have h6:r6<HA.next:=by have:=A.hi;have:=A.top;omega
 have g0:=ac.gro;have at6:K.get r6=.blk 0 81 (p.avx z):=by rw[g0.same r6 h6,uq]
 have⟨v,hv⟩:∃v,p.data[x.val]?=ZC v:=⟨_,List.getElem?_eq_getElem x.isLt⟩
 have hvd:p.data.getD x.val 0=v:=by rw[List.getD_eq_getElem?_getD,hv];rfl
 have byK:dL K (.sl ry 0 0 1 (fH p).length (fH p).length ZV) (fH p):=by
  refine⟨A.by_.is.iD g0.next λr hr hlt=>?_,A.by_.small⟩;have:r=ry:=(Option.some.inj hr).symm;subst this;rw[g0.same _ hlt,xI (by have:=A.ry6;omega)]
 have cb:=alm byK hv;have num:=ali (H:=K.guard) ⟨cb.is.guard,cb.small⟩;rw[OV (hp.num v (List.mem_of_getElem? hv))]at num;have l8:ld (.ref r6 0 8) K=ZC (z,K):=by rw[dG at6];rfl
 have b1:bs 22 1 [(0,I v)] K=ZC (.sl K.next 0 0 1 1 1 Z0,K.new (.blk 0 3 [I v])):=(ND (by decide)).trans (jE W W W);have a1:=ac.aud (Gro.new K 0 3 [I v]);have⟨z',K2,e2,a2⟩:=a1.app (e:=3) (by_:=8) (n:=1) (jZ (e:=3) (H:=K) (ex:=Z0) (n:=1) (m:=1) (l:=[I v]) W) W (by decide) (by rw[List.length_map];omega) (by decide);have avL:K2.get r6=.blk 0 81 (p.avx z):=by rw[a2.gro.same r6 h6,uq]
 have hbase:K2.base<=r6:=by
  rw[a2.gro.base];show HA.base<=r6;rw[A.gro.base];have:=A.lo;omega
 have e3:st 1 (.ref r6 0 8) z' K2=ZC (aX,K2.put r6 (.blk 0 81 (p.avx z'))):=Qu (a2.one) avL hbase (show 8<9 by decide);refine⟨K2.put r6 (.blk 0 81 (p.avx z')),?_,z',⟨⟨a2.gro.next,a2.gro.base,λr hr=>?_,λh=>?_⟩,a2.base,?_⟩,λh=>by simp at h⟩
 ·simp only[xq_,UR,l8,num,b1,e2,e3]
 ·by_cases e:r=r6
  ·subst e;rw[uq,uq]
  ·rw[xI e,xI e,a2.gro.same r hr,xI e]
 ·exact(a2.gro.Q9 (hn0.put _ _ _ _)).put _ _ _ _
 ·have hcells:(pre.map λx=>I (p.data.getD x.val 0))++[I v]=(pre++[x]).map λx=>I (p.data.getD x.val 0):=by
   rw[List.map_append,List.map_cons,List.map_nil,hvd]
  rw[<-hcells];rcases a2.x with h|⟨r,g,ty,h0,h1,h2,h3⟩|⟨r,ty,h0,h1,h2,h3⟩
  ·exact .inl h
  ·exact .inr (.inl ⟨r,g,ty,h0,h1,h2,by rw[xI (by have:HA.next<=r:=h1;omega)];exact h3⟩)
  ·exact .inr (.inr ⟨r,ty,h0,h1,h2,by rw[xI (by have:HA.next<=r:=h1;omega)];exact h3⟩)
def afK {p:Pkt}{pre:Q (Fin p.data.length)}(h:pre.map (λx=>x.val)=List.range p.data.length):(pre.map λx=>I (p.data.getD x.val 0))=p.data.map I:=by
 have:(pre.map λx=>I (p.data.getD x.val 0))=(pre.map λx=>x.val).map λi=>I (p.data.getD i 0):=by rw[List.map_map];rfl
 rw[this,h]
 apply List.ext_getElem?
 intro i;rw[List.getElem?_map,List.getElem?_map];by_cases hi:i<p.data.length
 ·rw[List.getElem?_range hi,List.getElem?_eq_getElem hi];simp only[Option.map_some,List.getD_eq_getElem?_getD,List.getElem?_eq_getElem hi,Option.getD_some]
 ·rw[List.getElem?_eq_none (by simpa using hi),List.getElem?_eq_none V];rfl
def aqS {H HA:ah}(hb:H.base<=H.next)(hn0:xk HA){x:AV}{p:Pkt}(hp:p.fit)(hx:dL H x (sZ p))(hx0:∀r,iH x≠ZC r){r6 r8 ry:Nat}(A:PcA H HA p r6 r8 ry)(h2:HA.get H.next=.blk 0 81 zPk){pre:Q (Fin p.data.length)}{K:ah}(hi:aju HA p r6 pre K)(hall:pre.map (λx=>x.val)=List.range p.data.length):
  ∃z K',UU cl0 x (.ref H.next 0 0) (.ref r6 0 0) K=ZC (.tup [.agg (p.avx z),I 0],K')/\xk K'/\((z=zN/\p.data=[])∨(p.data≠[]/\∃r g ex ty,z=.sl r g 0 1 p.data.length p.data.length ex/\K'.get r=.blk g ty (p.data.map I))):=by
 have⟨z,ac,hz⟩:=hi;rw[afK hall]at ac;have h6:r6<HA.next:=by have:=A.hi;have:=A.top;omega
 have g0:=ac.gro;have hnx:H.next<HA.next:=by have:=A.lo;omega
 have at6:K.get r6=.blk 0 81 (p.avx z):=by rw[g0.same r6 h6,uq]
 have at0:K.get H.next=.blk 0 81 zPk:=by rw[g0.same _ hnx,xI (by have:=A.lo;omega)];exact h2
 have hbK:K.base<=K.next:=Nat.le_trans ac.base g0.next
 have hnil:p.data=[]->z=zN:=λh=>hz (by
  have:=zaj List.length hall;rw[List.length_map,List.length_range]at this;have h2:p.data.length=0:=by rw[h];rfl
  exact List.eq_nil_of_length_eq_zero (by omega))
 have hnz:nH K z p.data:=⟨by have:=ac.is;rwa [List.length_map]at this,ac.one,hnil⟩
 have lx:∀z,(p.avx z).length=9:=λ_=>rfl;have l6:lda 9 (.ref r6 0 0) K=ZC (.agg (p.avx z),K):=(iE (off:=0) (n:=9) at6 (by rw[lx];exact Nat.le_refl _)).trans W;have⟨y,K1,e1,g1,b1,hb1⟩:=aqO hbK p hnz hp.ok;have hx1:dL K1 x (sZ p):=by
  refine⟨hx.is.iD ?_ λr hr _=>absurd hr (hx0 r),hx.small⟩;exact Nat.le_trans (Nat.le_of_lt hnx) (Nat.le_trans g0.next g1.next)
 have e2:=ab7 b1 hx1;rw[zah W]at e2;have l6':lda 9 (.ref r6 0 0) K1=ZC (.agg (p.avx z),K1):=(iE (off:=0) (n:=9) (by rw[g1.same _ (Nat.lt_of_lt_of_le h6 g0.next)];exact at6) (by rw[lx];exact Nat.le_refl _)).trans W;have avM:K1.get H.next=.blk 0 81 zPk:=by rw[g1.same _ (Nat.lt_of_lt_of_le hnx g0.next)];exact at0
 have hbase:K1.base<=H.next:=by
  rw[g1.base,g0.base];show HA.base<=H.next
  rw[A.gro.base];exact hb
 have e3:st 9 (.ref H.next 0 0) (.agg (p.avx z)) K1=ZC (aX,K1.put H.next (.blk 0 81 (p.avx z))):=by
  rw[Ws (Gf ac.one) (lx z) avM hbase (by decide)];rfl
 have e4:lda 9 (.ref H.next 0 0) (K1.put H.next (.blk 0 81 (p.avx z)))=ZC (.agg (p.avx z),K1.put H.next (.blk 0 81 (p.avx z))):=(iE (off:=0) (n:=9) uq (by rw[lx];exact Nat.le_refl _)).trans W;refine⟨z,K1.put H.next (.blk 0 81 (p.avx z)),?_,(g1.Q9 (g0.Q9 (hn0.put _ _ _ _))).put _ _ _ _,?_⟩
 ·simp only[xq_,UU,l6,e1,e2,Bool.not_true,l6',e3,e4]
 ·have keep:∀r,HA.next<=r->r<K.next->(K1.put H.next (.blk 0 81 (p.avx z))).get r=K.get r:=λr h1 h2=>by
   rw[xI (by omega),g1.same r h2]
  by_cases hd:p.data=[]
  ·exact .inl ⟨hnil hd,hd⟩
  rcases ac.x with⟨h,h'⟩|⟨r,g,ty,h0,h1,h2,h3⟩|⟨r,ty,h0,h1,h2,h3⟩
  ·exact .inl ⟨h,by simpa using h'⟩
  ·exact .inr ⟨hd,r,g,ZV,ty,by simpa using h0,by rw[keep r h1 h2];exact h3⟩
  ·exact .inr ⟨hd,r,0,Z0,ty,by simpa using h0,by rw[keep r h1 h2];exact h3⟩
open Go.RowKit
def Ji:qX Tryz.prog cl0/\kQ cl0:=callω_ok (P:=Tryz.prog) (L:=asH) (λf p h=>by cases h) Z
abbrev noR:Ren:=λ_=>none
def afL {ρ:Ren}{H:ah}{w:Xs}(R:Rel ρ H w):Rel noR ah.empty w:=
 ⟨λr _=>⟨W,W⟩,λr b d h=>(nomatch h),λr r' b d e h=>(nomatch h),⟨λb hb=>⟨(R.gl.1 b hb).1,λr d h=>(nomatch h)⟩,R.gl.2⟩⟩
def RF {ρ:Ren}{H H1:ah}{w w1:Xs}(E:Ext noR H w ρ H1 w1):Below w.heap.size w w1:=
 { size:=E.size,block:=λb hb=>E.frame b hb λr d h=>(nomatch h),os:=E.os,tape:=E.tape,output:=E.output }
section
variable {ρ ρ':Ren}{G G':Nat->Nat}{w w':World}
def Vb:∀{cells:Q AV} {b o i:Nat} {x:AV},RVc ρ G w cells b o->cells[i]?=ZC x->∃v,w.cell? ⟨b,o+i,Z1⟩=ZC v/\RV ρ G w x v
 |[],_,_,_,_,_,h=>by simp at h
 |y::l,b,o,0,x,h,d=>by
  simp only[List.getElem?_cons_zero,Option.some.injEq]at d;subst d;simp only[RVc]at h;exact h.1
 |y::l,b,o,i+1,x,h,d=>by
  simp only[RVc]at h;have:=Vb h.2 (by simpa using d)
  rwa [show o+1+i=o+(i+1) by omega]at this
def acR:∀{cells:Q AV} {b o:Nat},(∀i x,cells[i]?=ZC x->∃v,w.cell? ⟨b,o+i,Z1⟩=ZC v/\RV ρ G w x v)->RVc ρ G w cells b o
 |[],_,_,_=>by simp only[RVc]
 |y::l,b,o,h=>by
  simp only[RVc];refine⟨h 0 y W,acR λi x d=>?_⟩;rw[show o+1+i=o+(i+1) by omega];exact h (i+1) x (by simpa using d)
def XE:∀{cs:List AV} {l:List By},cs.mapM yOf=some l->cs=l.map Y
 |[],l,h=>by simp at h;subst h;rfl
 |x::cs,l,h=>by
  rw[List.mapM_cons]at h;cases b:yOf x with
  |none=>rw[b]at h;simp at h
  |some c=>
   rw[b]at h;cases d:cs.mapM yOf with
   |none=>rw[d]at h;simp at h
   |some m=>
    rw[d]at h;simp at h;subst h;rw[XE d,List.map_cons]
    congr 1
    unfold yOf at b;split at b
    ·rename_i n;split at b
     ·rename_i e;simp only[Option.some.injEq]at b;subst b;show AV.s (.int .u8 n)=AV.s (.int .u8 ((by8 n).toNat:Int));rw[oJ]
      congr 2
      omega
     ·cases b
    ·cases b
def acS {H:ah}{x:AV}{l:Z2 By}{z:XS}(R:Rel ρ H w)(F:RV ρ H.gen w x z)(h:IJ x H=ZC l):
  RV noR ah.empty.gen w (.vs l.length 1 (l.map Y)) z/\0<l.length/\l.length<=800:=by
 unfold IJ at h;split at h;rotate_left
 ·cases h
 rename_i r g off G n K ex;split at h;rotate_left
 ·cases h
 rename_i g' ty cells A;split at h;rotate_left
 ·cases h
 rename_i hc;obtain⟨rfl,rfl,h2,h3,h4⟩:=hc;have hm:=XE h;have d:l.length=n:=by
  have:=zaj List.length hm;rw[List.length_map,List.length_take,List.length_drop]at this;omega
 obtain⟨b,o,c,rfl,k1,k2,k3,k4,L⟩:=(by simpa only[RV]using F)
 have j:H.gen r=g':=by simp[ah.gen,A,gG.gen]
 have⟨k,e,m,M,Q,q3,q4⟩:=L j;have C:=R.obj r b k M;simp only[yP,A]at C;have⟨cs,e',T,p2,W,_⟩:=C;have u:o=k+off:=Q V;refine⟨?_,V,V⟩;simp only[RV];refine⟨b,o,c,by rw[d],V,O,(Array.getElem?_eq_some_iff.1 T).1,λr k h=>(nomatch h),acR λi y q=>?_⟩;have hi:i<n:=by have:=(List.getElem?_eq_some_iff.1 q).1;rw[List.length_map]at this;omega
 rw[<-hm,List.getElem?_take,YY hi,List.getElem?_drop]at q;have⟨v,X,D⟩:=Vb W q;refine⟨v,by rw[u,show k+off+i=k+(off+i) by omega];exact X,?_⟩;have:∃c:By,y=Y c:=by
  have p:(l.map Y)[i]?=ZC y:=by rw[<-hm,List.getElem?_take,YY hi,List.getElem?_drop];exact q
  rw[List.getElem?_map]at p;cases E:l[i]? with
  |none=>rw[E]at p;cases p
  |some c=>rw[E]at p;exact⟨c,(Option.some.inj p).symm⟩
 obtain⟨c,rfl⟩:=this;simp only[Y,U,RV]at D ⊢;exact D
def XF:∀{l:Q AV} {z b:AV} {cs:Q XS},(∀x∈l,∃v,x=.s v)->RVs ρ G w (l++[z]) cs->(∀c,RV ρ G w z c->RV ρ' G' w' b c)->RVs ρ' G' w' (l++[b]) cs
 |[],z,b,cs,_,h,d=>by
  simp only[List.nil_append,RVs]at h ⊢;have⟨y,g,e,i,j⟩:=h;exact⟨y,g,e,d y i,j⟩
 |x::l,z,b,cs,k,h,d=>by
  obtain⟨y,g,e,i,j⟩:=(by simpa only[List.cons_append,RVs]using h)
  simp only[List.cons_append,RVs];obtain⟨v,rfl⟩:=k x O;exact⟨y,g,e,by simpa only[RV]using i,XF (λx m=>k x (by simp[m])) j d⟩
end
def RG {ρ ρ1:Ren}{H j:ah}{w w1:Xs}(R:Rel ρ H w)(M:Rel ρ1 j w1)(E:Ext noR ah.empty w ρ1 j w1){p:Pkt}{z:AV}{v:XS}{e:Int}
  (Q:(z=zN/\p.data=[])∨(p.data≠[]/\∃r g ex ty,z=.sl r g 0 1 p.data.length p.data.length ex/\j.get r=.blk g ty (p.data.map I))) (hv:RV ρ1 j.gen w1 (.tup [.agg (p.avx z),I e]) v):
  RV ρ H.gen w1 (.tup [.agg p.av,I e]) v:=by
 simp only[RV,RVs]at hv ⊢;obtain⟨cs,rfl,y,T,W,q,X⟩:=hv;obtain⟨u,rfl,q⟩:=q;refine⟨cs,Z3,_,T,W,⟨u,Z3,?_⟩,X⟩;have e1:p.avx z=[I p.aW,I p.src,I p.dst,I p.id,I p.ak,I p.ptr,I p.state,B p.flag]++[z]:=rfl;have e2:p.av=[I p.aW,I p.src,I p.dst,I p.id,I p.ak,I p.ptr,I p.state,B p.flag]++[dat p.data]:=rfl;rw[e1]at q;rw[e2];refine XF (λx C=>?_) q λc hc=>?_
 ·simp only[List.mem_cons,List.not_mem_nil,zan]at C;rcases C with rfl|rfl|rfl|rfl|rfl|rfl|rfl|rfl <;> exact⟨_,Z3⟩
 ·rcases Q with⟨rfl,D⟩|⟨hd,r,g,ex,ty,rfl,F⟩
  ·rw[D,dat,gu]
   simpa only[RV]using hc
  ·obtain⟨b,o,k,rfl,k1,k2,k3,k4,k5⟩:=(by simpa only[RV]using hc)
   have⟨A,e,m,G,q2,q3,q4⟩:=k5 (by simp[ah.gen,F,gG.gen]);have K:=M.obj r b A G;simp only[yP,F]at K;have⟨aa,e',p1,p2,p3,_⟩:=K;have hb:w.heap.size<=b:=by
    rcases E.range r b A G with h|⟨_,h⟩
    ·exact h
    ·cases h
   ·rw[qN hd];simp only[RV];have D:0<p.data.length:=List.length_pos_iff.2 hd;refine⟨b,o,k,Z3,V,O,(Array.getElem?_eq_some_iff.1 p1).1,QB R hb,acR λi y d=>?_⟩;have⟨v,v1,v2⟩:=Vb p3 d;have:o=A+0:=q2 V;refine⟨v,by rw[this];exact v1,?_⟩;rw[List.getElem?_map]at d;cases L:p.data[i]? with
    |none=>rw[L]at d;cases d
    |some n=>
     rw[L]at d;cases d
     simpa only[RV]using v2
open Go.RowKit
def afM {l:Q By}(h:l.length<=800):dL ah.empty (.vs l.length 1 (l.map Y)) l:=⟨⟨O,W,W,W⟩,V⟩
def YX {H:ah}(hb:H.base<=H.next){x:AV}{l:Q By}(hx:dL H x l)(hl:l.length<900)(hn:∀m,l≠jS m):
  ∃K,cl0 129 [x] H=ZC (.tup [.agg zPk,I 2],K):=by
 let H1:=H.new (.blk 0 81 zPk);have g1:Gro H H1:=Gro.new H 0 _ _;have hb1:H1.base<=H1.next:=by simp only[H1,iO,eu];omega
 have⟨H2,e1,g2⟩:=afk hb1 (hx.gro g1) hl hn;have at0:H2.get H.next=.blk 0 81 zPk:=by rw[g2.same _ (by simp only[H1,eu];omega)];exact aK W
 have hbase:H2.base<=H.next:=by rw[g2.base];simp only[H1,iO];exact hb
 have all:zPk.all AV.aU=true:=rfl;have e3:st 9 (.ref H.next 0 0) (.agg zPk) H2=ZC (aX,H2.put H.next (.blk 0 81 zPk)):=by
  rw[Ws all (show zPk.length=9 from W) at0 hbase (by decide)];rfl
 have e4:lda 9 (.ref H.next 0 0) (H2.put H.next (.blk 0 81 zPk))=ZC (.agg zPk,H2.put H.next (.blk 0 81 zPk)):=(iE (off:=0) (n:=9) uq (Nat.le_refl _)).trans W;have ebd:bd 81 []=ZC (.agg zPk):=by
  simp only[xq_,zC,jf,fO]
 refine⟨H2.put H.next (.blk 0 81 zPk),iT (aoO _ _ _ ?_)⟩;simp only[H1]at e1;simp only[xq_,ah8,e1,ebd,e3,e4,Bool.not_false]
def uw {r:Res}{g:Run}{b:gB}{H1:ah}(h:sS r g=ZC (.normal,b,H1)):∃d e,r=ZC (.normal,d,e)/\g d e=ZC (.normal,b,H1):=by
 unfold sS at h;split at h
 ·exact⟨_,_,W,h⟩
 ·cases h
 ·cases h
 ·cases h
def Jj {c d:Code}{t e:gB}{H b:ah}(g:fF Tryz.prog cl0 c t H=ZC (.normal,e,b)){ρ:Ren}{w:Xs}{a:Act}(R:Rel ρ H w)(T:TOn ρ H.gen w (λ_=>True) t a){Q:Exit->Act->Xs->Prop}
  (h:∀a' ρ' w',Rel ρ' b w'->TOn ρ' b.gen w' (λ_=>True) e a'->Ext ρ H w ρ' b w'->a'.defers=a.defers->d.wp Tryz.prog Q a' w'):(Code.seq c d).wp Tryz.prog Q a w:=
 wp_seq (CS Ji.1 Ji.2 Z c t H _ e b g ρ w a R T _ λa' ρ' w' i j k m=>h a' ρ' w' i j k m)
def afN:∃a b c d e f id j h g i ty pos k,Tryz.f129.body=ZC (.seq a (.seq b (.seq c (.seq d (.seq (.seq e (.block id (.rangeFunc (.tmp 76) #[77] (.region i #[{ dst:=ZC 7,op:=.assign (.tmp 77),type:=ty,pos:=pos,after:=k,guard:=Z1 }] ZV) (.block j (.region h g Z0))))) f)))))
  /\UO=.seq a (.seq b (.seq c (.seq d (.seq e .skip))))/\Oz=.block j (.region h g Z0)/\OB=f/\g.all Dn=true:=
 ⟨_,_,_,_,_,_,_,_,_,_,_,_,_,_,W,Z,Z,Z,Z⟩
def aqT:zA xq Oz (pW []) (λ_=>0) 0=192:=Z
def aqU:zA xq OB (Tn Tryz.f129.results.toList) (λ_=>0) (Tn Tryz.f129.results.toList)=69:=Z
def aqV:∀i,i<100->Nat.testBit 192 i=Z0->i=6∨i=7:=J
def aqW:∀i,i<100->Nat.testBit 69 i=Z0->i=0∨i=2∨i=6:=J
def aug:Qq xq 100 UO (pW [0,2,6,76]) (λ_=>0) 0=true:=Z
def auh:Qq xq 100 Oz (pW []) (λ_=>0) 0=true:=Z
def aui:Qq xq 100 OB (Tn Tryz.f129.results.toList) (λ_=>0) (Tn Tryz.f129.results.toList)=true:=Z
def aln {g:ah}{p:Pkt}{r6 r8 d:Nat}{H:ah}(A:PcA H g p r6 r8 d){ρ:Ren}{w:Xs}{i j by_ k:Nat}(L:ρ r8=ZC (i,0))(M:ρ (r8+1)=ZC (j,0))(Q:ρ d=ZC (by_,k))
  {pre:Z2 (Fin p.data.length)} {K:ah} {ρ1:Ren} {W:Xs} (hi:aju g p r6 pre K) (R:Rel ρ1 K W) (E:Ext ρ g w ρ1 K W):alj i j by_ (k+10) p.data.length W:=by
 have⟨z,ac,_⟩:=hi;have top:=A.top;have hi:=A.hi;have ry6:=A.ry6;have key:∀r,r<g.next->r≠r6->K.get r=g.get r:=λr T h=>by rw[ac.gro.same r T,xI h]
 have n:K.get r8=_:=(key r8 V V).trans A.arV;have q:K.get (r8+1)=_:=(key (r8+1) V V).trans A.arW;have⟨⟨hl,_,_,⟨X,_⟩,ty,all,h,h3,h4⟩,hs⟩:=A.by_;have u:K.get d=_:=(key d X V).trans h;have p8:ρ1 r8=ZC (i,0):=E.same r8 _ L (by simp only[ah.gen,n,A.arV]);have p9:ρ1 (r8+1)=ZC (j,0):=E.same (r8+1) _ M (by simp only[ah.gen,q,A.arW]);have py:ρ1 d=ZC (by_,k):=E.same d _ Q (by simp only[ah.gen,u,h]);have v:=R.obj _ _ _ p8;have y:=R.obj _ _ _ p9;rw[n]at v;rw[q]at y;have⟨aa,e8,u1,u2,C,u4⟩:=v;have⟨ab,e9,v1,v2,D,v4⟩:=y;simp only[RVc]at C D;have⟨⟨s8,c8,d8⟩,_⟩:=C;have⟨⟨s9,c9,F⟩,_⟩:=D;obtain⟨b,o,c,rfl,g1,g2,g3,g4,g5⟩:=(by simpa only[RV]using d8)
 have⟨sh,e,m,G,f2,f3,f4⟩:=g5 (by simp[ah.gen,u,gG.gen]);rw[py]at G;cases G;simp only[RV]at F;subst F;exact⟨⟨o,c,λhN=>f2 V,g2,c8⟩,c9⟩
set_option maxHeartbeats 1000000 in
theorem Vd {p:Pkt}(hp:p.fit){w:Xs}{cx:XS}(R0:Rel noR ah.empty w){x:AV}(hx:dL ah.empty x (sZ p))(hx0:∀r,iH x≠ZC r)(hcx:RV noR ah.empty.gen w x cx):
  Calls Tryz.prog 129 #[cx] w λe w'=>∃cv ρ1 KF z,e=.returned cv/\Rel ρ1 KF w'/\Ext noR ah.empty w ρ1 KF w'/\((z=zN/\p.data=[])∨(p.data≠[]/\∃r g ex ty,z=.sl r g 0 1 p.data.length p.data.length ex/\KF.get r=.blk g ty (p.data.map I)))/\RV ρ1 KF.gen w' (.tup [.agg (p.avx z),I 0]) cv:=by
 have⟨a,b,c,d,e,f,id,j,id7,ops7,ida,ty,pos,aft,hbody,hA,hB,hC,hno⟩:=afN;have ok:=hp.ok;simp only[Pkt.ok,Bool.and_eq_true,zab]at ok;have nm0:xk ah.empty:=λr k es h=>(nomatch h)
 have⟨r6,r8,ry,HA,eA,A⟩:=aqP (H:=ah.empty) (Nat.le_refl 0) hp hx;have nmA:xk HA:=A.gro.Q9 nm0;rw[<-akU]at eA;have⟨tA,xA,eA1,agA,pj⟩:=Ll (t:=[x]++List.replicate 99 aX) aug ⟨by simp,λi hn _=>by
  have:=NC 100 [x] 0 i hn
  rwa [Nat.zero_add]at this⟩ eA
 simp only[yH,List.cons.injEq,zau]at pj;have⟨j0,j2,j6,j76⟩:=pj;have get:∀i,i<100->(pW [0,2,6,76]).testBit i=Z0->tA.getD i aX=Px eA1 i:=agA.get;have t0:=(get 0 (by decide) (by decide)).trans j0;have t2:=(get 2 (by decide) (by decide)).trans j2;have t6:=(get 6 (by decide) (by decide)).trans j6;have t76:=(get 76 (by decide) (by decide)).trans j76;rw[hA]at xA;simp only[fF]at xA;have⟨ta,Ha,xa,xA⟩:=uw xA;have⟨tb,Hb,xb,xA⟩:=uw xA;have⟨tc,Hc,xc,xA⟩:=uw xA;have⟨td,Hd,xd,xA⟩:=uw xA;have⟨te,He,xe,xA⟩:=uw xA;simp only[Option.some.injEq,zaa,zaD]at xA;obtain⟨rfl,rfl⟩:=xA;refine(callsIn_wide (n:=9)).1 (callsIn_of_wp_marks Tryz.func129 hbody zac ?_ Z3);refine wpIn_wide.2 ?_;have T0:TOn noR ah.empty.gen w (λ_=>True) ([x]++List.replicate 99 aX) { tmps:=#[cx]++Array.replicate (Tryz.f129.ntmps - #[cx].size) undef,defers:=[] }:=aac (args:=[x]) (m:=100) (by simp only[RVs];exact⟨_,_,Z3,hcx,Z3⟩);refine Jj xa R0 T0 λa1 ρ1 w1 R1 T1 E1 D1=>?_;refine Jj xb R1 T1 λa2 ρ2 w2 R2 T2 E2 D2=>?_;refine Jj xc R2 T2 λa3 ρ3 w3 R3 T3 E3 D3=>?_;refine Jj xd R3 T3 λa4 ρ4 w4 R4 T4 E4 D4=>?_;refine wp_seq ?_;refine Jj xe R4 T4 λa5 ρ w5 R T E5 D5=>?_;have E:Ext noR ah.empty w ρ He w5:=(((E1.trans E2).trans E3).trans E4).trans E5;have hdef:a5.defers=[]:=D5.trans (D4.trans (D3.trans (D2.trans D1)))
 -- the iterator's aln
 have tv:=T.any 76 zac;rw[t76]at tv;obtain⟨af,cf,hf,hf1,hf2⟩:=(by simpa only[RV]using tv)
 simp only[RVs]at hf1 hf2;obtain⟨v8,l8,hl8,hv8,v9,l9,rfl,hv9,rfl⟩:=hf2;have top:=A.top;have lo:=A.lo;obtain⟨p8,e8,g8,n8⟩:=(by simpa only[RV]using hv8)
 obtain⟨b8,s8,q8,rfl⟩:=n8 (by simp[ah.gen,A.arV,gG.gen]);obtain⟨p9,e9,g9,n9⟩:=(by simpa only[RV]using hv9)
 obtain⟨b9,s9,q9,rfl⟩:=n9 (by simp[ah.gen,A.arW,gG.gen]);have o8:=R.obj _ _ _ q8;have o9:=R.obj _ _ _ q9;rw[A.arV]at o8;rw[A.arW]at o9;have⟨cs8,ee8,u1,u2,u3,u4⟩:=o8;have⟨cs9,ee9,m1,m2,m3,m4⟩:=o9;obtain⟨_,rfl,_⟩:=u4.1 (by decide);obtain⟨_,rfl,_⟩:=m4.1 (by decide);simp only[RVc]at u3;have⟨⟨sv,c8,d8⟩,_⟩:=u3;obtain⟨bY,oY,cY,rfl,z1,z2,z3,z4,z5⟩:=(by simpa only[RV]using d8)
 have⟨⟨hyl,_,_,⟨hry,_⟩,tyY,awg,y2,y3,y4⟩,ys⟩:=A.by_;have⟨sY,eY,nY,qy,_,y5,_⟩:=z5 (by simp[ah.gen,y2,gG.gen]);have oy:=R.obj _ _ _ qy;rw[y2]at oy;have⟨csY,eY',k1,k2,k3,k4⟩:=oy;have hN:(fH p).length=10+8*p.data.length:=Jg p;have hev:a5.eval (.tmp 76)=.func (.func 214) #[] #[.pointer (ZC ⟨b8,0,Z1⟩),.pointer (ZC ⟨b9,0,Z1⟩)]:=by
  have e1:af=#[]:=Array.toList_inj.1 hf1;have e2:cf=#[.pointer (ZC ⟨b8,0,Z1⟩),.pointer (ZC ⟨b9,0,Z1⟩)]:=Array.toList_inj.1 (by rw[hl8,e8,e9]);show a5.tmps.getD 76 undef=_;rw[hf,e1,e2]
 have hrun:∀(pre:Q (Fin p.data.length)) (x':Fin p.data.length) (K:ah),aju He p r6 pre K->pre.length<p.data.length->∃t2 H2,fF Tryz.prog cl0 (.block j (.region id7 ops7 Z0)) (wC (wC te (ZC 77) (Jh ry x'.val)) (ZC 7) (Jh ry x'.val)) K=ZC (.normal,t2,H2)/\aju He p r6 (pre++[x']) H2:=by
  intro pre x' K hi hl;have⟨K',e1,i1⟩:=aqR (Nat.le_refl 0) nmA hp A hi hl x';rw[<-akV]at e1;have⟨t3,x3,_⟩:=Ll (t:=wC (wC te (ZC 77) (Jh ry x'.val)) (ZC 7) (Jh ry x'.val)) auh ⟨by rw[lZ,lZ];exact agA.len,λi hn hb=>by
   rw[aqT]at hb;rcases aqV i hn hb with rfl|rfl
   ·simpa [wC,List.getD,List.getElem?_set,Px]using t6
   ·have:te.length=100:=agA.len;simp[wC,List.getD,Px,this];rfl⟩ e1
  rw[hB]at x3;exact⟨t3,K',x3,i1⟩
 refine wp_block ?_;have aqX:b8<w5.heap.size:=R.block q8;have aqY:b9<w5.heap.size:=R.block q9;have inv0:aju He p r6 [] He:=by
  refine⟨zN,⟨⟨Nat.le_refl _,Z3,λr _=>?_,λ_=>nmA⟩,?_,.inl ⟨Z3,Z3⟩⟩,λ_=>rfl⟩
  ·by_cases h:r=r6
   ·subst h;rw[uq,A.six]
   ·rw[xI h]
  ·show He.base<=He.next
   rw[A.gro.base];exact Nat.zero_le _
 refine afj (by kernel_rfl) R T (p:=77) (d:=7) (show 77<List.length te by rw[agA.len];decide) (by decide) hev (enters_of Tryz.func214 (by kernel_rfl) Z3)
  (N:=p.data.length) (λx'=>Jh ry x'.val) (λx'=>.slice (ZC ⟨bY,sY+10+8*x'.val,Z1⟩) 8 8) ?hv (alj b8 b9 bY (sY+10) p.data.length) ?hL (λn hn=>Va n hn b8 b9 bY (sY+10) p.data.length (by omega) w5 aqX aqY ?hCh)
  (aju He p r6) inv0 ?hnm (λpre K ρ' W hi R' E'=>aln A q8 q9 qy hi R' E') hrun (UN (UM Ji.1 Ji.2 (by kernel_rfl) (λo ho=>by simpa using(Array.all_eq_true'.1 hno) o ho))) ?hQ
 case hv=>
  intro x';have:=x'.isLt;simp only[RV];refine⟨bY,sY+10+8*x'.val,8,Z3,Nat.le_refl _,Nat.le_refl _,λ_=>rfl,Nat.zero_le _,λ_=>⟨sY,eY',csY.size,qy,λ_=>by omega,by rw[fE,k1];rfl,by omega⟩⟩
 case hL=>
  rintro W l o o' hl ho hc ⟨⟨o1,c1,h1,h2,h3⟩,h4⟩;have n8:b8≠l:=by omega
  have n9:b9≠l:=by omega
  exact⟨⟨o1,c1,h1,h2,(World.cell?_of_block (World.putObj_heap_other n8)).trans h3⟩,(World.cell?_of_block (World.putObj_heap_other n9)).trans h4⟩
 case hCh=>exact aln A q8 q9 qy inv0 R (Ext.refl _ _ _)
 case hnm=>
  rintro pre K ⟨z,ac,_⟩;exact ac.gro.Q9 (nmA.put _ _ _ _)
 case hQ=>
  intro xs K D W ρ1' hall hi RW EW hD hDi hDs;have⟨z,K',eC,nmK,hz⟩:=aqS (Nat.le_refl 0) nmA hp hx hx0 A A.two hi hall;rw[<-akW]at eC;have⟨ex,tF,hex,xC,hres⟩:=ab3 (t:=te) aui ⟨agA.len,λi hn hb=>by
   rw[aqU]at hb;rcases aqW i hn hb with rfl|rfl|rfl
   ·exact t0
   ·exact t2
   ·exact t6⟩ eC
  rw[hC]at xC;show f.wp Tryz.prog _ _ W;refine CS Ji.1 Ji.2 (by kernel_rfl) f te K ex tF K' xC ρ1' W { a5 with defers:={ target:=.collected D,args:=#[] }::a5.defers } RW ⟨(T.keep EW).size,(T.keep EW).get⟩ _ λa6 ρ6 w6 R6 T6 E6 D6=>?_;have hD6:w6.heap[D]?=ZC (.deferred (ZC [])):=by rw[E6.frame D (Array.getElem?_eq_some_iff.1 hD).1 hDi];exact hD
  have auj:a6.defers=[{ target:=.collected D,args:=#[] }]:=by rw[D6];show _::a5.defers=_;rw[hdef]
  have avN:=(E.trans EW).trans E6;have hr6:∀r,ZC D=ZC r->w.heap.size<=r/\∃o:Obj,w6.heap[r]?=ZC o/\o.isCells=false:=λr e=>by
   cases e;exact⟨Nat.le_trans E.size hDs,_,hD6,Z3⟩
  have⟨R7,G7⟩:=nmK.grown R6 (grownBy_putObj' w6 D (.deferred Z1)) hr6 λb hb=>(R0.gl.1 b hb).1;have T7:TOn ρ6 K'.gen (w6.putObj D (.deferred Z1)) (λ_=>True) tF a6:=⟨T6.size,λd hd hl=>RV.grn G7 _ _ (T6.get d hd hl)⟩
  have E7:=avN.grown (grownBy_putObj' w6 D (.deferred Z1)) λr e=>(hr6 r e).1;have⟨cv,c1,c2⟩:=Kt (P:=Tryz.prog) (fn:=Tryz.f129) R7 T7 hres;have fin:LeavesInM Fence.wide 9 Tryz.prog Tryz.f129 a6.tmps (λe w'=>∃cv ρ1 KF z,e=.returned cv/\Rel ρ1 KF w'/\Ext noR ah.empty w ρ1 KF w'/\((z=zN/\p.data=[])∨(p.data≠[]/\∃r g ex ty,z=.sl r g 0 1 p.data.length p.data.length ex/\KF.get r=.blk g ty (p.data.map I)))/\RV ρ1 KF.gen w' (.tup [.agg (p.avx z),I 0]) cv) a6.defers .returning w6:=by
   rw[auj];refine⟨by simp,.inl ⟨D,_,Z3,run_takeDeferred hD6,?_⟩⟩;exact⟨cv,c1,cv,ρ6,K',z,Z3,R7,E7,hz,c2⟩
  rcases hex with rfl|rfl
  ·exact fin
  ·exact fin
open Classical in
def Ve:WC 129 Dj:=by
 refine⟨KT λd H v H' h ρ w G R ha=>?_,λd H v H' h=>?_⟩
 ·unfold Dj at h;split at h;rotate_left
  ·cases h
  rename_i x;obtain⟨u,rfl,y⟩:=Ut ha;split at h;rotate_left
  ·cases h
  rename_i l A;have⟨hv,L,C⟩:=acS R y A;have o:=afL R;have hb:=afM C;split at h
  ·rename_i q;simp only[Option.some.injEq,zaa]at h;obtain⟨rfl,rfl⟩:=h;have⟨g,j⟩:=zaC q;generalize Classical.choose q=p at*;subst j;refine(Vd g o hb (λr e=>by cases e) hv).mono ?_;rintro e w' ⟨cv,ρ1,M,z,rfl,k,i,D,b⟩;have⟨m,n⟩:=wW R (RF i);exact⟨cv,ρ,W,m,RG R k i D b,n⟩
  ·split at h;rotate_left
   ·cases h
   rename_i E;simp only[Option.some.injEq,zaa]at h;obtain⟨rfl,rfl⟩:=h;have⟨K,F⟩:=YX (H:=ah.empty) (Nat.le_refl 0) hb V E;refine(Ji.1 _ _ _ _ _ F noR w #[u] o (by simp only[RVs];exact⟨_,_,W,hv,W⟩)).mono ?_;rintro e w' ⟨cv,ρ1,rfl,k,b,i⟩;have⟨m,n⟩:=wW R (RF i);refine⟨cv,ρ,W,m,?_,n⟩;exact RG (p:=Pkt.zero) (z:=zN) R k i (.inl ⟨W,W⟩) b
 ·unfold Dj at h;have:H'=H:=by
   repeat' split at h
   all_goals first
    |(cases h;done)
    |(simp only[Option.some.injEq,zaa]at h;exact h.2.symm)
  subst this;exact Keeps.refl _
end
end Go.Proofs.YtgplhpgkompkmaaGreat
