/-
  Own work: an interpreter over named blocks, its soundness, and what the functions of this seat compute (part 6 of 12).
  Conditions: those of the statement alone.
-/
import Derived.Test.YtljogojaihgdlaaGreatHe
set_option linter.all false
set_option linter.unusedSectionVars false
set_option linter.unusedVariables false
set_option linter.unusedSimpArgs false
namespace Go.Proofs.YtljogojaihgdlaaGreat
noncomputable section
def LD {z:AV}:∀(rest pre:List AV),(∀x∈rest,One x)->fK (λi=>some (i*1,1)) (pre++dN [z] rest.length) ((rest.zipIdx pre.length).map λp=>(p.2,p.1))=some (pre++rest)
 |[],pre,_=>by simp [dN,eu]
 |x::rest,pre,h=>by
  rw [List.zipIdx_cons,zax,Il (off:=pre.length) O (h x O).1 (by simp [dN])];have e:(pre++dN [z] (x::rest).length).set pre.length x=(pre++[x])++dN [z] rest.length:=by
   show(pre++([z]++dN [z] rest.length)).set pre.length x=_;rw [List.set_append_right _ _ (zac _),Nat.sub_self];simp
  rw [e];have b:=LD (z:=z) rest (pre++[x]) λy d=>h y (by simp [d]);rw [zaq,zal,zao,za6] at b;rw [b];simp
def aeX {e:Nat}{z:AV}{l:List AV}{H:ah}(h:∀x∈l,One x):bsl e 1 [z] l.length ((l.zipIdx 0).map λp=>(p.2,p.1)) H=some (.sl H.next 0 0 1 l.length l.length true,H.new (.blk 0 e l)):=by
 have:=LD (z:=z) l [] h;simp only [zaM,zao] at this;unfold bsl;rw [this];have ha:l.all AV.aP=true:=zaZ.2 λx b=>(h x b).2;simp only [ha,if_true]
def ao2(H:ah)(n lo hi:Int):cl0 168 [I n,I lo,I hi] H=some (B (blw n lo hi),H):=by
 refine iQ (ahA _ _ _ _ _ ?_);by_cases h:lo<=n
 ·simp only [xq_,QZ,h,blw,zaN]
 ·simp only [xq_,QZ,h,blw,zaP]
def ao3(H:ah)(p:Pkt){x:AV}(d:mD H x p.data)(b:p.ok=true):cl0 127 [.agg (p.avx x)] H=some (I 0,H.new (.blk 0 112 (p.avx x))):=by
 refine iQ (ag4 _ _ _ ?_);have h:=λH n lo hi=>ao2 H n lo hi;have e:=(d.is.new (.blk 0 112 (p.avx x))).lnS;rw [p.ok_eq] at b;generalize i:blw p.src 0 6=b1 at b;generalize j:blw p.dst 0 6=b2 at b;generalize k:blw p.id 0 4096=b3 at b;generalize m:blw p.aS 1 10=b4 at b;generalize o:blw p.aj 0 8=b5 at b;generalize q:blw p.ptr (-1) 6=b6 at b;generalize u:blw p.aV 0 3=b7 at b;simp only [zah] at b;obtain⟨⟨⟨⟨⟨rfl,rfl⟩,rfl⟩,⟨⟨rfl,rfl⟩,rfl⟩⟩,rfl⟩,v⟩:=b;have w:¬(4:Int)<p.data.length:=by simpa using v
 have g:=F5 (p:=p) d.one;simp only [Pkt.avx] at e g ⊢;simp only [Nat.reduceLT,Int.reduceNeg,xq_,hq_,aaY,aG g,h,e,i,j,k,m,o,q,u,w,zaf]
def rP:∀l:List Int,(l.flatMap rX).length=l.length*8
 |[]=>rfl
 |v::l=>by rw [zaC,zaq,rP l,jQ,zal];omega
def ao4 {H:ah}(hb:H.base<=H.next)(p:Pkt){x:AV}(hx:mD H x p.data)(hok:p.ok=true):
  ∃y H',cl0 93 [.agg (p.avx x)] H=some (.tup [y,I 0],H')/\Gro H H'/\dL H' y (tX p)/\H'.base<=H'.next:=by
 have hok2:=hok;simp only [Pkt.ok,zah,decide_eq_true_eq] at hok2;have ax:=F5 (p:=p) hx.one;let o:gu:=.blk 0 112 (p.avx x);let H1:=H.new o;let H2:=H1.new o;have g1:Gro H H1:=Gro.new H 0 _ _;have g2:Gro H1 H2:=Gro.new H1 0 _ _;have hb2:H2.base<=H2.next:=by simp only [H2,H1,jB,eX];omega
 have ck:=ao3 H1 p (hx.new o) hok;have at1:H1.get H.next=.blk 0 112 (p.avx x):=aZ rfl
 have at2:H2.get H.next=.blk 0 112 (p.avx x):=by rw [g2.same _ (by simp only [H1,eX];omega)];exact at1
 have lx:(p.avx x).length=9:=rfl;have l1:lda 9 (.ref H.next 0 0) H1=some (.agg (p.avx x),H1):=(iH (off:=0) (n:=9) at1 (by rw [lx];exact zac _)).trans rfl;have lds:∀i v,(p.avx x)[i]?=some v->ld (.ref H.next 0 i) H2=some (v,H2):=λi v hv=>by rw [fJ at2,hv];rfl
 have p0:=lds 0 (I p.aS) rfl;have p1:=lds 1 (I p.src) rfl;have p2:=lds 2 (I p.dst) rfl;have p3:=lds 3 (I p.id) rfl;have p4:=lds 4 (I p.aj) rfl;have p5:=lds 5 (I p.ptr) rfl;have p6:=lds 6 (I p.aV) rfl;have p7:=lds 7 (B p.flag) rfl;have p8:=lds 8 x rfl;have cv1:∀z H,cv 3 5 (I z) H=some (Y (by8 z),H):=λz H=>by rw [<-WX];exact agm
 have sh1:bi .shr 3 (I p.id) (.s (.int .u64 8))=some (I (p.id.fdiv 256)):=Ur (P:=Tryz.prog) (t:=3) (k:=.i64) (k':=.u64) (a:=p.id) (n:=8) (by decide);have w1:=wrap_i64 (a:=p.ptr+1) (by omega) (by omega);have fl:=λH=>asD H p.flag;have hx2:=(hx.new o).new o;have ln2:=hx2.is.lnS;let hd:List By:=[by8 p.aS,by8 p.src,by8 p.dst,by8 (p.id.fdiv 256),by8 p.id,by8 p.aj,by8 (p.ptr+1),by8 p.aV,by8 (if p.flag then 1 else 0),by8 p.data.length]
 have bsH:bs 172 10 [(0,Y (by8 p.aS)),(1,Y (by8 p.src)),(2,Y (by8 p.dst)),(3,Y (by8 (p.id.fdiv 256))),(4,Y (by8 p.id)),(5,Y (by8 p.aj)),(6,Y (by8 (p.ptr+1))),(7,Y (by8 p.aV)),(8,Y (by8 (if p.flag then 1 else 0))),(9,Y (by8 p.data.length))] H2=some (.sl H2.next 0 0 1 10 10 true,H2.new (.blk 0 5 (hd.map Y))):=
  (VL (by decide)).trans (aeX (l:=hd.map Y) λy hy=>by
   obtain⟨c,_,rfl⟩:=zaI.1 hy;exact ajp)
 let H3:=H2.new (.blk 0 5 (hd.map Y));have g3:Gro H2 H3:=Gro.new H2 0 _ _;have l3:ld (.ref H.next 0 8) H3=some (x,H3):=by
  rw [fJ (by rw [g3.same _ (by simp only [H2,H1,eX];omega)];exact at2)];rfl
 have ln3:=(hx2.new (.blk 0 5 (hd.map Y))).is.lnS;have acc0:Acc H2 H3 (.sl H2.next 0 0 1 10 10 true) (hd.map Y):=⟨g3,by simp only [H3,jB];exact hb2,.inr (.inr ⟨H2.next,5,rfl,zac _,by simp only [H3,eX];omega,aZ rfl⟩)⟩
 have key:∀k i,i+k=p.data.length->∀a K,Acc H2 K a ((hd++(p.data.take i).flatMap rX).map Y)->
   ∃y H',Oq cl0 [a,x,I p.data.length,I i] K=some (.tup [y,I 0],H')/\Gro H2 H'/\dL H' y (tX p)/\H'.base<=H'.next:=by
  intro k
  induction k with
  |zero=>
   intro i hi a K ac;have h1:¬((i:Int)<p.data.length):=by omega
   rw [zaw (by omega)] at ac;have hlen:(fM p).length<900:=by
    have h2:=sS p;unfold tX jT at h2;simp only [zaq,zal,zao,Pkt.bytes] at h2;omega
   have hbK:K.base<=K.next:=zaz ac.base ac.gro.next
   have bK:dL K a (fM p):=by
    have:=ac.is;rw [zaE] at this;exact⟨this,by omega⟩
   obtain⟨y,H',e1,g',b',hb'⟩:=ajq hbK bK hlen;refine⟨y,H',?_,ac.gro.trans g',b',hb'⟩;rw [aaN];simp only [xq_,h1,e1]
  |succ k ih=>
   intro i hi a K ac;have h1:(i:Int)<p.data.length:=by omega
   have h6:(i:Int)+1=((i+1:Nat):Int):=by omega
   have h7:=wrap_i64 (a:=((i+1:Nat):Int)) (by omega) (by omega);obtain⟨v,hv⟩:∃v,p.data[i]?=some v:=⟨_,zab (by omega)⟩
   have hxK:=hx2.is.iZ ac.gro.next λr _ hr=>ac.gro.same r hr
   have s1:=hxK.ix (k:=.i64) (i:=(i:Int)) (by omega) h1;rw [zar] at s1;have s2:ld (eH x i) K=some (I v,K):=by rw [hxK.ld (by omega),zaH,hv];rfl
   have hbK:K.base<=K.next:=zaz ac.base ac.gro.next
   obtain⟨y,K1,e1,aw⟩:=asF K hbK v;have ac1:=ac.asE aw.gro;have hy:=aw.is;have hlt:(p.data.take i).length=i:=by rw [zau];omega
   obtain⟨a2,K2,e2,ac2⟩:=ac1.app (e:=5) (by_:=1) (n:=8) (by have h:=hy;rw [zaE,jQ] at h;exact h) (ad7 _) (by decide) (by
    simp only [zaE,zaq];have:((p.data.take i).flatMap rX).length=i*8:=by rw [rP,hlt]
    rw [this];simp only [hd,zal,zao];omega) (by decide)
   have hap:((hd++(p.data.take i).flatMap rX).map Y)++(rX v).map Y=(hd++(p.data.take (i+1)).flatMap rX).map Y:=by
    rw [zcz,hv];simp
   rw [hap] at ac2;obtain⟨y',H',r1,r2,r3,r4⟩:=ih (i+1) (by omega) a2 K2 ac2;refine⟨y',H',?_,r2,r3,r4⟩;rw [aaN];simp only [xq_,h1,s1,s2,e1,e2,cZ,h6,h7,r1]
 obtain⟨y,H',r1,r2,r3,r4⟩:=key p.data.length 0 (by omega) _ H3 (by simpa using acc0);refine⟨y,H',iQ (asf _ _ _ ?_),(g1.trans g2).trans r2,r3,r4⟩;have z0:((0:Nat):Int)=0:=rfl;rw [z0] at r1;simp only [H1,H2,H3,o,eX] at ck l1 p0 p1 p2 p3 p4 p5 p6 p7 p8 ln2 bsH l3 ln3 r1;simp only [Nat.reduceLT,xq_,am3,aG ax,l1,ck,p0,p1,p2,p3,p4,p5,p6,p7,p8,cv1,sh1,cZ,w1,fl,ln2,bsH,l3,ln3,zaf,r1]
def nmS(s:BitVec 64)(l:List By):BitVec 64:=l.foldl (λs c=>(s <<< 8) ||| c.setWidth 64) s
def nmV(l:List By):Int:=(nmS 0#64 l).toInt
def Yq(s:BitVec 64):IntKind.wrap .i64 (s.toNat:Int)=s.toInt:=by
 have h:=s.isLt;simp only [IntKind.wrap,IntKind.bits,IntKind.signed,BitVec.toInt_eq_toNat_cond,zaN,decide_eq_true_eq,ge_iff_le];split <;> split <;> omega
def ajM {H:ah}{y:AV}{l:List By}(b:dL H y l):cl0 144 [y] H=some (I (nmV l),H):=by
 have key:∀(k i:Nat),i+k=l.length->∀s:BitVec 64,FI cl0 [U64 s,y,I l.length,I i] H=some (I (nmS s (l.drop i)).toInt,H):=by
  intro k
  induction k with
  |zero=>
   intro i hi s;have d:¬((i:Int)<l.length):=V
   have e:cv 268 3 (U64 s) H=some (I s.toInt,H):=by rw [<-Yq];exact adV (k:=.u64)
   rw [Wj,zaV V];simp only [xq_,d,e]
   try rfl
  |succ k j=>
   intro i hi s;have d:(i:Int)<l.length:=V
   have m:(i:Int)+1=((i+1:Nat):Int):=V
   have o:=wrap_i64 (a:=((i+1:Nat):Int)) (by have:=b.small;omega) (by have:=b.small;omega);obtain⟨c,hc⟩:∃c,l[i]?=some c:=⟨_,zab V⟩
   have p:=b.ix (i:=i) V;have q:=b.ld hc;have e:cv 5 268 (Y c) H=some (U64 (c.setWidth 64),H):=
    (adT (k:=.u8) (n:=(c.toNat:Int)) (H:=H)).trans (congrArg (λv=>some (v,H)) (al2 (k:=.u8) (k':=.u64) rfl c))
   have u:bi .shl 268 (U64 s) (.s (.int .u64 8))=some (U64 (s <<< 8)):=aar (k:=.u64) rfl s 8 Z Z;have w:bi .or 268 (U64 (s <<< 8)) (U64 (c.setWidth 64))=some (U64 ((s <<< 8) ||| c.setWidth 64)):=atP (k:=.u64) rfl _ _;have hd:l.drop i=c::l.drop (i+1):=by
    rw [zbu V];rw [zab V] at hc;rw [zaX hc]
   have g:=j (i+1) V ((s <<< 8) ||| c.setWidth 64);have z:nmS s (c::l.drop (i+1))=nmS ((s <<< 8) ||| c.setWidth 64) (l.drop (i+1)):=rfl;rw [Wj,hd,z,<-g];simp only [xq_,d,p,q,e,u,w,cZ,m,o]
   try rfl
 refine iQ (an2 _ _ _ ?_);have A:=b.is.lnS;have h:=key l.length 0 V 0#64;rw [zaS] at h;simp only [xq_,ahm,A];exact h
def or8 {s:BitVec 64}(c:By)(h:s.toNat<2 ^ 56):((s <<< 8) ||| c.setWidth 64).toNat=s.toNat*256+c.toNat:=by
 have hc:=c.isLt;have b:(s <<< 8).toNat=s.toNat <<< 8:=by
  rw [BitVec.toNat_shiftLeft,zco];rw [zdu];omega
 have d:(c.setWidth 64).toNat=c.toNat:=by rw [BitVec.toNat_setWidth,zco V]
 rw [BitVec.toNat_or,b,d,<-Nat.shiftLeft_add_eq_or_of_lt hc,zdu]
def sZ {N b:Nat}{s:BitVec 64}{c:By}(hs:s.toNat=N / (b*256))(hc:c.toNat=N / b % 256)(e:N<2 ^ 64)(hb:0<b):((s <<< 8) ||| c.setWidth 64).toNat=N / b:=by
 have d:N / (b*256)=N / b / 256:=(Nat.div_div_eq_div_mul N b 256).symm;have g:N / b<=N:=Nat.div_le_self N b;rw [or8 c (by rw [hs,d];omega),hs,hc,d];omega
def ab2(n:Int)(j:Nat)(k:j+8<=64):(n / 2 ^ j) % 256=((n % 18446744073709551616) / 2 ^ j) % 256:=by
 have d:(18446744073709551616:Int)=2 ^ j*2 ^ (64-j):=by
  rw [<-Int.pow_add,show j+(64-j)=64 by omega];rfl
 have b:(2:Int) ^ (64-j)=256*2 ^ (56-j):=by
  rw [show 64-j=8+(56-j) by omega,Int.pow_add];rfl
 have e:(2:Int) ^ j≠0:=Int.pow_ne_zero Z;have h:n=n % 18446744073709551616+2 ^ j*(2 ^ (64-j)*(n / 18446744073709551616)):=by
  rw [<-Int.mul_assoc,<-d];exact(Int.emod_add_mul_ediv n 18446744073709551616).symm
 obtain⟨r,i⟩:∃r,n % 18446744073709551616=r:=⟨_,rfl⟩
 obtain⟨q,g⟩:∃q,n / 18446744073709551616=q:=⟨_,rfl⟩
 rw [i,g] at h;rw [i,h,Int.add_mul_ediv_left _ _ e,b,Int.mul_assoc,Int.add_mul_emod_self_left]
def ab3(n:Int)(k:Nat)(hk:k<8){N:Nat}(b:(N:Int)=n % 18446744073709551616):(by8 (n.fdiv (2 ^ (8*k)))).toNat=N / 2 ^ (8*k) % 256:=by
 have h:=pI (n.fdiv (2 ^ (8*k)));have d:(0:Int)<=2 ^ (8*k):=Int.pow_nonneg Z;rw [zb7 _ d] at h ⊢;rw [ab2 n (8*k) V,<-b] at h;have e:((N:Int) / 2 ^ (8*k)) % 256=((N / 2 ^ (8*k) % 256:Nat):Int):=by
  rw [Int.natCast_emod,Int.natCast_ediv,Int.natCast_pow];rfl
 rw [e] at h;exact Int.ofNat_inj.1 h
def OX {n:Int}(h:I64 n):nmV (rX n)=n:=by
 obtain⟨y,z⟩:=h;obtain⟨N,g⟩:∃N:Nat,(N:Int)=n % 18446744073709551616:=⟨(n % 18446744073709551616).toNat,zc9 (zch _ Z)⟩
 have d:N<2 ^ 64:=V
 have w:=λk hk=>ab3 n k hk g;have i:=sZ (N:=N) (b:=2 ^ 56) (s:=0#64) (by rw [Nat.div_eq_of_lt V];rfl) (w 7 Z) d Z;have j:=sZ (b:=2 ^ 48) i (w 6 Z) d Z;have m:=sZ (b:=2 ^ 40) j (w 5 Z) d Z;have o:=sZ (b:=2 ^ 32) m (w 4 Z) d Z;have p:=sZ (b:=2 ^ 24) o (w 3 Z) d Z;have q:=sZ (b:=2 ^ 16) p (w 2 Z) d Z;have u:=sZ (b:=2 ^ 8) q (w 1 Z) d Z;have v:=sZ (b:=1) u (w 0 Z) d Z;have e:(nmS 0#64 (rX n)).toNat=N / 1:=v;unfold nmV;rw [BitVec.toInt_eq_toNat_cond,e];split <;> omega
def vY {a b:Int}(h:by8 a=by8 b):a % 256=b % 256:=by
 have:=congrArg (λc:By=>(c.toNat:Int)) h;simp only [pI] at this;exact this
def RJ:∀{l m:List Int},(∀v∈l,I64 v)->(∀v∈m,I64 v)->l.flatMap rX=m.flatMap rX->l=m
 |[],[],_,_,_=>rfl
 |[],b::m,_,_,h=>by have:=congrArg List.length h;rw [rP,rP] at this;simp at this
 |a::l,[],_,_,h=>by have:=congrArg List.length h;rw [rP,rP] at this;simp at this
 |a::l,b::m,d,hm,h=>by
  rw [zaC,zaC] at h;obtain⟨g,i⟩:=List.append_inj h rfl;have e:=congrArg nmV g;rw [OX (d a O),OX (hm b O)] at e;rw [e,RJ (λv hv=>d v (by simp [hv])) (λv hv=>hm v (by simp [hv])) i]
def aeY {p q:Pkt}(e:p.fit)(g:q.fit)(h:tX p=tX q):p=q:=by
 unfold tX jT at h;have d:(fM p).length=(fM q).length:=by
  have:=congrArg List.length h;simp only [zaq,zal,zao] at this;omega
 obtain⟨i,_⟩:=List.append_inj h d;unfold fM at i;obtain⟨j,o⟩:=List.append_inj i rfl;have hd:=RJ e.num g.num o;have a:=e.ok;have b:=g.ok;simp only [Pkt.ok,zah,decide_eq_true_eq] at a b;simp only [zbU,and_true] at j;obtain⟨u,v,w,y,z,A,C,D,E,_⟩:=j;have i1:=vY u;have i2:=vY v;have i3:=vY w;have F:=vY y;have i5:=vY z;have i6:=vY A;have i7:=vY C;have i8:=vY D;have G:=vY E;rw [zb7 _ Z,zb7 _ Z] at F;rcases p with⟨H,K,L,M,Q,R,T,k,p9⟩
 rcases q with⟨W,X,q3,q4,q5,q6,q7,m,q9⟩
 simp only at*;have f8:k=m:=by
  cases k <;> cases m <;> first|rfl|(simp at G)
 subst hd;subst f8;have:H=W/\K=X/\L=q3/\M=q4/\Q=q5/\R=q6/\T=q7:=V
 obtain⟨rfl,rfl,rfl,rfl,rfl,rfl,rfl⟩:=this;rfl
end
end Go.Proofs.YtljogojaihgdlaaGreat
