/-
  Own work, a part.
-/
import Derived.Test.YtgplhpgkompkmaaGreatFe
set_option linter.all false
namespace Go.Proofs.YtgplhpgkompkmaaGreat
open Option renaming some->ZC,none->Z1
open Bool renaming true->Z0,false->ZV
open Decidable renaming decide->u,decide->YM
noncomputable section
def LJ {z:AV}:∀(rest pre:Q AV),(∀x∈rest,One x)->fO (λi=>ZC (i*1,1)) (pre++dM [z] rest.length) ((rest.zipIdx pre.length).map λp=>(p.2,p.1))=ZC (pre++rest)
 |[],pre,_=>by simp[dM,dX]
 |x::rest,pre,h=>by
  rw[List.zipIdx_cons,List.map_cons,Iq (off:=pre.length) O (h x O).1 (by simp[dM])];have e:(pre++dM [z] (x::rest).length).set pre.length x=(pre++[x])++dM [z] rest.length:=by
   show(pre++([z]++dM [z] rest.length)).set pre.length x=_;rw[List.set_append_right _ _ (Nat.le_refl _),Nat.sub_self];simp
  rw[e];have b:=LJ (z:=z) rest (pre++[x]) λy d=>h y (by simp[d]);rw[List.length_append,List.length_cons,List.length_nil,Nat.zero_add]at b;rw[b];simp
def afI {e:Nat}{z:AV}{l:Q AV}{H:ah}(h:∀x∈l,One x):bsl e 1 [z] l.length ((l.zipIdx 0).map λp=>(p.2,p.1)) H=ZC (.sl H.next 0 0 1 l.length l.length Z0,H.new (.blk 0 e l)):=by
 have:=LJ (z:=z) l [] h;simp only[List.nil_append,List.length_nil]at this;unfold bsl;rw[this];have ha:l.all AV.aU=true:=List.all_eq_true.2 λx b=>(h x b).2;simp only[ha,zad]
def aqM(H:ah)(n lo hi:Int):cl0 211 [I n,I lo,I hi] H=ZC (B (blw n lo hi),H):=by
 refine iT (ai7 _ _ _ _ _ ?_);by_cases h:lo<=n
 ·simp only[xq_,QX,h,blw,Bool.true_and]
 ·simp only[xq_,QX,h,blw,Bool.false_and]
def aqN(H:ah)(p:Pkt){x:AV}(d:nH H x p.data)(b:p.ok=Z0):cl0 174 [.agg (p.avx x)] H=ZC (I 0,H.new (.blk 0 81 (p.avx x))):=by
 refine iT (aiI _ _ _ ?_);have h:=λH n lo hi=>aqM H n lo hi;have e:=(d.is.new (.blk 0 81 (p.avx x))).lnS;rw[p.ok_eq]at b;generalize i:blw p.src 0 6=b1 at b;generalize j:blw p.dst 0 6=b2 at b;generalize k:blw p.id 0 4096=b3 at b;generalize m:blw p.aW 1 10=b4 at b;generalize o:blw p.ak 0 8=b5 at b;generalize q:blw p.ptr (-1) 6=b6 at b;generalize u:blw p.state 0 3=b7 at b;simp only[Bool.and_eq_true]at b;obtain⟨⟨⟨⟨⟨rfl,rfl⟩,rfl⟩,⟨⟨rfl,rfl⟩,rfl⟩⟩,rfl⟩,v⟩:=b;have w:¬(4:Int)<p.data.length:=by simpa using v
 have g:=Gf (p:=p) d.one;simp only[Pkt.avx]at e g ⊢;simp only[Nat.reduceLT,Int.reduceNeg,xq_,hq_,abE,aC g,h,e,i,j,k,m,o,q,u,w,Bool.not_true]
def qR:∀l:Q Int,(l.flatMap qY).length=l.length*8
 |[]=>rfl
 |v::l=>by rw[List.flatMap_cons,List.length_append,qR l,jM,List.length_cons];omega
def aqO {H:ah}(hb:H.base<=H.next)(p:Pkt){x:AV}(hx:nH H x p.data)(hok:p.ok=true):
  ∃y H',cl0 128 [.agg (p.avx x)] H=some (.tup [y,I 0],H')/\Gro H H'/\dL H' y (sZ p)/\H'.base<=H'.next:=by
 have hok2:=hok;simp only[Pkt.ok,Bool.and_eq_true,decide_eq_true_eq]at hok2;have ax:=Gf (p:=p) hx.one;let o:gG:=.blk 0 81 (p.avx x);let H1:=H.new o;let H2:=H1.new o;have g1:Gro H H1:=Gro.new H 0 _ _;have g2:Gro H1 H2:=Gro.new H1 0 _ _;have hb2:H2.base<=H2.next:=by simp only[H2,H1,iO,eu];omega
 have ck:=aqN H1 p (hx.new o) hok;have at1:H1.get H.next=.blk 0 81 (p.avx x):=aK rfl
 have at2:H2.get H.next=.blk 0 81 (p.avx x):=by rw[g2.same _ (by simp only[H1,eu];omega)];exact at1
 have lx:(p.avx x).length=9:=rfl;have l1:lda 9 (.ref H.next 0 0) H1=some (.agg (p.avx x),H1):=(iE (off:=0) (n:=9) at1 (by rw[lx];exact Nat.le_refl _)).trans rfl;have lds:∀i v,(p.avx x)[i]?=some v->ld (.ref H.next 0 i) H2=some (v,H2):=λi v hv=>by rw[dG at2,hv];rfl
 have p0:=lds 0 (I p.aW) rfl;have p1:=lds 1 (I p.src) rfl;have p2:=lds 2 (I p.dst) rfl;have p3:=lds 3 (I p.id) rfl;have p4:=lds 4 (I p.ak) rfl;have p5:=lds 5 (I p.ptr) rfl;have p6:=lds 6 (I p.state) rfl;have p7:=lds 7 (B p.flag) rfl;have p8:=lds 8 x rfl;have cv1:∀z H,cv 3 5 (I z) H=some (Y (by8 z),H):=λz H=>by rw[<-XC];exact ahk
 have sh1:bi .shr 3 (I p.id) (.s (.int .u64 8))=some (I (p.id.fdiv 256)):=UC (P:=Tryz.prog) (t:=3) (k:=.i64) (k':=.u64) (a:=p.id) (n:=8) (by decide);have w1:=wrap_i64 (a:=p.ptr+1) (by omega) (by omega);have fl:=λH=>auc H p.flag;have hx2:=(hx.new o).new o;have ln2:=hx2.is.lnS;let hd:List By:=[by8 p.aW,by8 p.src,by8 p.dst,by8 (p.id.fdiv 256),by8 p.id,by8 p.ak,by8 (p.ptr+1),by8 p.state,by8 (if p.flag then 1 else 0),by8 p.data.length]
 have bsH:bs 220 10 [(0,Y (by8 p.aW)),(1,Y (by8 p.src)),(2,Y (by8 p.dst)),(3,Y (by8 (p.id.fdiv 256))),(4,Y (by8 p.id)),(5,Y (by8 p.ak)),(6,Y (by8 (p.ptr+1))),(7,Y (by8 p.state)),(8,Y (by8 (if p.flag then 1 else 0))),(9,Y (by8 p.data.length))] H2=some (.sl H2.next 0 0 1 10 10 true,H2.new (.blk 0 5 (hd.map Y))):=
  (Wq (by decide)).trans (afI (l:=hd.map Y) λy hy=>by
   obtain⟨c,_,rfl⟩:=List.mem_map.1 hy;exact akY)
 let H3:=H2.new (.blk 0 5 (hd.map Y));have g3:Gro H2 H3:=Gro.new H2 0 _ _;have l3:ld (.ref H.next 0 8) H3=some (x,H3):=by
  rw[dG (by rw[g3.same _ (by simp only[H2,H1,eu];omega)];exact at2)];rfl
 have ln3:=(hx2.new (.blk 0 5 (hd.map Y))).is.lnS;have acc0:Acc H2 H3 (.sl H2.next 0 0 1 10 10 true) (hd.map Y):=⟨g3,by simp only[H3,iO];exact hb2,.inr (.inr ⟨H2.next,5,rfl,Nat.le_refl _,by simp only[H3,eu];omega,aK rfl⟩)⟩
 have key:∀k i,i+k=p.data.length->∀a K,Acc H2 K a ((hd++(p.data.take i).flatMap qY).map Y)->
   ∃y H',Fj cl0 [a,x,I p.data.length,I i] K=some (.tup [y,I 0],H')/\Gro H2 H'/\dL H' y (sZ p)/\H'.base<=H'.next:=by
  intro k
  induction k with
  |zero=>
   intro i hi a K ac;have h1:¬((i:Int)<p.data.length):=by omega
   rw[List.take_of_length_le (by omega)]at ac;have hlen:(fH p).length<900:=by
    have h2:=rV p;unfold sZ jS at h2;simp only[List.length_append,List.length_cons,List.length_nil,Pkt.bytes]at h2;omega
   have hbK:K.base<=K.next:=Nat.le_trans ac.base ac.gro.next
   have bK:dL K a (fH p):=by
    have:=ac.is;rw[List.length_map]at this;exact⟨this,by omega⟩
   obtain⟨y,H',e1,g',b',hb'⟩:=akZ hbK bK hlen;refine⟨y,H',?_,ac.gro.trans g',b',hb'⟩;rw[WJ];simp only[xq_,h1,e1]
  |succ k ih=>
   intro i hi a K ac;have h1:(i:Int)<p.data.length:=by omega
   have h6:(i:Int)+1=((i+1:Nat):Int):=by omega
   have h7:=wrap_i64 (a:=((i+1:Nat):Int)) (by omega) (by omega);obtain⟨v,hv⟩:∃v,p.data[i]?=some v:=⟨_,List.getElem?_eq_getElem (by omega)⟩
   have hxK:=hx2.is.iD ac.gro.next λr _ hr=>ac.gro.same r hr
   have s1:=hxK.ix (k:=.i64) (i:=(i:Int)) (by omega) h1;rw[Int.toNat_natCast]at s1;have s2:ld (eH x i) K=some (I v,K):=by rw[hxK.ld (by omega),List.getElem?_map,hv];rfl
   have hbK:K.base<=K.next:=Nat.le_trans ac.base ac.gro.next
   obtain⟨y,K1,e1,aw⟩:=aue K hbK v;have ac1:=ac.aud aw.gro;have hy:=aw.is;have hlt:(p.data.take i).length=i:=by rw[List.length_take];omega
   obtain⟨a2,K2,e2,ac2⟩:=ac1.app (e:=5) (by_:=1) (n:=8) (by have h:=hy;rw[List.length_map,jM]at h;exact h) (ae3 _) (by decide) (by
    simp only[List.length_map,List.length_append];have:((p.data.take i).flatMap qY).length=i*8:=by rw[qR,hlt]
    rw[this];simp only[hd,List.length_cons,List.length_nil];omega) (by decide)
   have hap:((hd++(p.data.take i).flatMap qY).map Y)++(qY v).map Y=(hd++(p.data.take (i+1)).flatMap qY).map Y:=by
    rw[List.take_add_one,hv];simp
   rw[hap]at ac2;obtain⟨y',H',r1,r2,r3,r4⟩:=ih (i+1) (by omega) a2 K2 ac2;refine⟨y',H',?_,r2,r3,r4⟩;rw[WJ];simp only[xq_,h1,s1,s2,e1,e2,bM,h6,h7,r1]
 obtain⟨y,H',r1,r2,r3,r4⟩:=key p.data.length 0 (by omega) _ H3 (by simpa using acc0);refine⟨y,H',iT (aoM _ _ _ ?_),(g1.trans g2).trans r2,r3,r4⟩;have z0:((0:Nat):Int)=0:=rfl;rw[z0]at r1;simp only[H1,H2,H3,o,eu]at ck l1 p0 p1 p2 p3 p4 p5 p6 p7 p8 ln2 bsH l3 ln3 r1;simp only[Nat.reduceLT,xq_,ah7,aC ax,l1,ck,p0,p1,p2,p3,p4,p5,p6,p7,p8,cv1,sh1,bM,w1,fl,ln2,bsH,l3,ln3,Bool.not_true,r1]
def nmS(s:BitVec 64)(l:Q By):BitVec 64:=l.foldl (λs c=>(s <<< 8) ||| c.setWidth 64) s
def nmV(l:Q By):Int:=(nmS 0#64 l).toInt
def YW(s:BitVec 64):IntKind.wrap .i64 (s.toNat:Int)=s.toInt:=by
 have h:=s.isLt;simp only[IntKind.wrap,IntKind.bits,IntKind.signed,BitVec.toInt_eq_toNat_cond,Bool.true_and,zab,ge_iff_le];split <;> split <;> omega
def ali {H:ah}{y:AV}{l:Q By}(b:dL H y l):cl0 180 [y] H=ZC (I (nmV l),H):=by
 have key:∀(k i:Nat),i+k=l.length->∀s:BitVec 64,FM cl0 [U64 s,y,I l.length,I i] H=ZC (I (nmS s (l.drop i)).toInt,H):=by
  intro k
  induction k with
  |zero=>
   intro i hi s;have d:¬((i:Int)<l.length):=V
   have e:cv 262 3 (U64 s) H=ZC (I s.toInt,H):=by rw[<-YW];exact aeR (k:=.u64)
   rw[Xc,List.drop_of_length_le V];simp only[xq_,d,e]
   try rfl
  |succ k j=>
   intro i hi s;have d:(i:Int)<l.length:=V
   have m:(i:Int)+1=((i+1:Nat):Int):=V
   have o:=wrap_i64 (a:=((i+1:Nat):Int)) (by have:=b.small;omega) (by have:=b.small;omega);have⟨c,hc⟩:∃c,l[i]?=ZC c:=⟨_,List.getElem?_eq_getElem V⟩
   have p:=b.ix (i:=i) V;have q:=b.ld hc;have e:cv 5 262 (Y c) H=ZC (U64 (c.setWidth 64),H):=
    (aeP (k:=.u8) (n:=(c.toNat:Int)) (H:=H)).trans (zaj (λv=>ZC (v,H)) (anw (k:=.u8) (k':=.u64) W c))
   have u:bi .shl 262 (U64 s) (.s (.int .u64 8))=ZC (U64 (s <<< 8)):=aa3 (k:=.u64) W s 8 J J;have w:bi .or 262 (U64 (s <<< 8)) (U64 (c.setWidth 64))=ZC (U64 ((s <<< 8) ||| c.setWidth 64)):=avh (k:=.u64) W _ _;have hd:l.drop i=c::l.drop (i+1):=by
    rw[List.drop_eq_getElem_cons V];rw[List.getElem?_eq_getElem V]at hc;rw[Option.some.inj hc]
   have g:=j (i+1) V ((s <<< 8) ||| c.setWidth 64);have z:nmS s (c::l.drop (i+1))=nmS ((s <<< 8) ||| c.setWidth 64) (l.drop (i+1)):=rfl;rw[Xc,hd,z,<-g];simp only[xq_,d,p,q,e,u,w,bM,m,o]
   try rfl
 refine iT (apA _ _ _ ?_);have A:=b.is.lnS;have h:=key l.length 0 V 0#64;rw[List.drop_zero]at h;simp only[xq_,aiO,A];exact h
def or8 {s:BitVec 64}(c:By)(h:s.toNat<2 ^ 56):((s <<< 8) ||| c.setWidth 64).toNat=s.toNat*256+c.toNat:=by
 have hc:=c.isLt;have b:(s <<< 8).toNat=s.toNat <<< 8:=by
  rw[BitVec.toNat_shiftLeft,Nat.mod_eq_of_lt];rw[Nat.shiftLeft_eq];omega
 have d:(c.setWidth 64).toNat=c.toNat:=by rw[BitVec.toNat_setWidth,Nat.mod_eq_of_lt V]
 rw[BitVec.toNat_or,b,d,<-Nat.shiftLeft_add_eq_or_of_lt hc,Nat.shiftLeft_eq]
def sF {N b:Nat}{s:BitVec 64}{c:By}(d:s.toNat=N / (b*256))(hc:c.toNat=N / b % 256)(g:N<2 ^ 64)(hb:0<b):((s <<< 8) ||| c.setWidth 64).toNat=N / b:=by
 have e:N / (b*256)=N / b / 256:=(Nat.div_div_eq_div_mul N b 256).symm;have h:N / b<=N:=Nat.div_le_self N b;rw[or8 c (by rw[d,e];omega),d,hc,e];omega
def acO(n:Int)(j:Nat)(k:j+8<=64):(n / 2 ^ j) % 256=((n % 18446744073709551616) / 2 ^ j) % 256:=by
 have d:(18446744073709551616:Int)=2 ^ j*2 ^ (64-j):=by
  rw[<-Int.pow_add,show j+(64-j)=64 by omega];rfl
 have b:(2:Int) ^ (64-j)=256*2 ^ (56-j):=by
  rw[show 64-j=8+(56-j) by omega,Int.pow_add];rfl
 have e:(2:Int) ^ j≠0:=Int.pow_ne_zero J;have h:n=n % 18446744073709551616+2 ^ j*(2 ^ (64-j)*(n / 18446744073709551616)):=by
  rw[<-Int.mul_assoc,<-d];exact(Int.emod_add_mul_ediv n 18446744073709551616).symm
 have⟨r,i⟩:∃r,n % 18446744073709551616=r:=⟨_,W⟩
 have⟨q,g⟩:∃q,n / 18446744073709551616=q:=⟨_,W⟩
 rw[i,g]at h;rw[i,h,Int.add_mul_ediv_left _ _ e,b,Int.mul_assoc,Int.add_mul_emod_self_left]
def acP(n:Int)(k:Nat)(hk:k<8){N:Nat}(b:(N:Int)=n % 18446744073709551616):(by8 (n.fdiv (2 ^ (8*k)))).toNat=N / 2 ^ (8*k) % 256:=by
 have h:=oJ (n.fdiv (2 ^ (8*k)));have d:(0:Int)<=2 ^ (8*k):=Int.pow_nonneg J;rw[Int.fdiv_eq_ediv_of_nonneg _ d]at h ⊢;rw[acO n (8*k) V,<-b]at h;have e:((N:Int) / 2 ^ (8*k)) % 256=((N / 2 ^ (8*k) % 256:Nat):Int):=by
  rw[Int.natCast_emod,Int.natCast_ediv,Int.natCast_pow];rfl
 rw[e]at h;exact Int.ofNat_inj.1 h
def OV {n:Int}(h:I64 n):nmV (qY n)=n:=by
 have⟨y,z⟩:=h;have⟨N,g⟩:∃N:Nat,(N:Int)=n % 18446744073709551616:=⟨(n % 18446744073709551616).toNat,Int.toNat_of_nonneg (Int.emod_nonneg _ J)⟩
 have d:N<2 ^ 64:=V
 have w:=λk hk=>acP n k hk g;have i:=sF (N:=N) (b:=2 ^ 56) (s:=0#64) (by rw[Nat.div_eq_of_lt V];rfl) (w 7 J) d J;have j:=sF (b:=2 ^ 48) i (w 6 J) d J;have m:=sF (b:=2 ^ 40) j (w 5 J) d J;have o:=sF (b:=2 ^ 32) m (w 4 J) d J;have p:=sF (b:=2 ^ 24) o (w 3 J) d J;have q:=sF (b:=2 ^ 16) p (w 2 J) d J;have u:=sF (b:=2 ^ 8) q (w 1 J) d J;have v:=sF (b:=1) u (w 0 J) d J;have e:(nmS 0#64 (qY n)).toNat=N / 1:=v;unfold nmV;rw[BitVec.toInt_eq_toNat_cond,e];split <;> omega
def vI {a b:Int}(h:by8 a=by8 b):a % 256=b % 256:=by
 have:=zaj (λc:By=>(c.toNat:Int)) h;simp only[oJ]at this;exact this
def RD:∀{l m:Q Int},(∀v∈l,I64 v)->(∀v∈m,I64 v)->l.flatMap qY=m.flatMap qY->l=m
 |[],[],_,_,_=>rfl
 |[],b::m,_,_,h=>by have:=zaj List.length h;rw[qR,qR]at this;simp at this
 |a::l,[],_,_,h=>by have:=zaj List.length h;rw[qR,qR]at this;simp at this
 |a::l,b::m,d,hm,h=>by
  rw[List.flatMap_cons,List.flatMap_cons]at h;have⟨g,i⟩:=List.append_inj h W;have e:=zaj nmV g;rw[OV (d a O),OV (hm b O)]at e;rw[e,RD (λv hv=>d v (by simp[hv])) (λv hv=>hm v (by simp[hv])) i]
def afJ {p q:Pkt}(e:p.fit)(g:q.fit)(h:sZ p=sZ q):p=q:=by
 unfold sZ jS at h;have d:(fH p).length=(fH q).length:=by
  have:=zaj List.length h;simp only[List.length_append,List.length_cons,List.length_nil]at this;omega
 have⟨i,_⟩:=List.append_inj h d;unfold fH at i;have⟨j,n⟩:=List.append_inj i Z3;have hd:=RD e.num g.num n;have a:=e.ok;have b:=g.ok;simp only[Pkt.ok,Bool.and_eq_true,zab]at a b;simp only[List.cons.injEq,zau]at j;have⟨o,u,v,w,y,z,A,C,D,_⟩:=j;have i1:=vI o;have i2:=vI u;have i3:=vI v;have E:=vI w;have i5:=vI y;have i6:=vI z;have i7:=vI A;have i8:=vI C;have F:=vI D;rw[Int.fdiv_eq_ediv_of_nonneg _ J,Int.fdiv_eq_ediv_of_nonneg _ J]at E;rcases p with⟨G,H,K,L,M,Q,R,k,p9⟩
 rcases q with⟨T,W,X,q4,q5,q6,q7,m,q9⟩
 simp only at*;have f8:k=m:=by
  cases k <;> cases m <;> first|rfl|(simp at F)
 subst hd;subst f8;have:G=T/\H=W/\K=X/\L=q4/\M=q5/\Q=q6/\R=q7:=V
 obtain⟨rfl,rfl,rfl,rfl,rfl,rfl,rfl⟩:=this;rfl
end
end Go.Proofs.YtgplhpgkompkmaaGreat
