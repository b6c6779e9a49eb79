/-
  Own work: an interpreter over named blocks, its soundness, and what the functions of this seat compute (part 5 of 11).
  Conditions: those of the statement alone.
-/
import Derived.KernelRfl
import Derived.Test.YtdflddpllngpjaaGreatXd
set_option linter.all false
set_option linter.unusedSectionVars false
set_option linter.unusedVariables false
set_option linter.unusedSimpArgs false
namespace Go.Proofs.YtdflddpllngpjaaGreat
noncomputable section
structure Gro(H H':aj):Prop where
 next:H.next<=H'.next
 base:H'.base=H.base
 same:∀r,r < H.next->H'.get r=H.get r
 LV:uh H->uh H'
theorem Gro.refl(H:aj):Gro H H:=⟨zac _,rfl,λ_ _=> rfl,λh=> h⟩
theorem Gro.trans {H H' H'':aj}(a:Gro H H')(b:Gro H' H''):Gro H H'':=
 ⟨zaz a.next b.next,b.base.trans a.base,λr h=> (b.same r (zax h a.next)).trans (a.same r h),λh=> b.LV (a.LV h)⟩
theorem Gro.new(H:aj)(g ty:Nat)(xs:List AV):Gro H (H.new (.blk g ty xs)):=
 ⟨by rw [nNew];omega,bNew,λr h=> aQ h,λh r k es=> by
  by_cases e:r=H.next
  ·rw [aK e];simp
  ·have:(H.new (.blk g ty xs)).get r=H.get r:=by simp [aj.new,e]
   rw [this];exact h r k es⟩
structure bG(H:aj)(x:AV)(l:List By):Prop where
 is:aG H x 1 l.length (l.map Y)
 small:l.length < 1000
theorem bG.gro {H H':aj}{x:AV}{l:List By}(h:bG H x l)(g:Gro H H'):bG H' x l:=⟨h.is.ig g.next λr _ hr=> g.same r hr,h.small⟩
theorem bG.ix {H:aj}{x:AV}{l:List By}(h:bG H x l){i:Nat}(hi:i < l.length):ix 1 x (I i) H=some (dh x i,H):=by
 have:=h.is.ix (k:=.i64) (i:=(i:Int)) (by omega) (by omega)
 rwa [zaq] at this
theorem bG.ld {H:aj}{x:AV}{l:List By}(h:bG H x l){i:Nat}{c:By}(hi:l[i]?=some c):ld (dh x i) H=some (Y c,H):=by
 rw [h.is.ld (by have:=(zaf.1 hi).1;omega),zaD,hi];rfl
theorem afU(s:S16):(s <<< 1) ^^^ ((s >>> 15)*4129#16)=shS s:=by
 unfold shS
 congr 1
 have hlt:=s.isLt;have h15:s >>> 15=if s.msb then 1#16 else 0#16:=by
  apply BitVec.eq_of_toNat_eq
  rw [BitVec.toNat_ushiftRight,zb1,BitVec.msb_eq_decide];by_cases h:2 ^ (16 - 1)<=s.toNat
  ·simp only [h,decide_true,if_true];show s.toNat / 2 ^ 15=1;omega
  ·simp only [h,decide_false,zai,if_false];show s.toNat / 2 ^ 15=0;omega
 rw [h15];cases s.msb <;> simp
theorem aec {x:AV}{n i:Int}(H:aj):∀(k j:Nat),j+k=8->∀s:S16,BL cl0 [U16 s,x,I n,I i,I j] H=yc cl0 [U16 (shN k s),x,I n,I (IntKind.wrap .i64 (i+1))] H
 | 0,j,hj,s=> by
  have h1:¬((j:Int) < 8):=by omega
  rw [Rn];simp -implicitDefEqProofs only [xq_,h1,bf];rfl
 | k+1,j,hj,s=> by
  have h1:(j:Int) < 8:=by omega
  have h6:(j:Int)+1=((j+1:Nat):Int):=by omega
  have h7:=wrap_i64 (a:=((j+1:Nat):Int)) (by omega) (by omega);have e1:bi .shr 26 (U16 s) (.s (.int .u64 15))=some (U16 (s >>> 15)):=ae8 (k:=.u16) s 15 (by decide) (by decide);have e2:bi .shl 26 (U16 s) (.s (.int .u64 1))=some (U16 (s <<< 1)):=WC (k:=.u16) rfl s 1 (by decide) (by decide);have e3:bi .mul 26 (U16 (s >>> 15)) (.s (.int .u16 4129))=some (U16 ((s >>> 15)*4129#16)):=aoK (k:=.u16) rfl (s >>> 15) 4129#16;have e4:bi .xor 26 (U16 (s <<< 1)) (U16 ((s >>> 15)*4129#16))=some (U16 (shS s)):=by rw [<-afU];exact ae7 (k:=.u16) rfl _ _
  have ih:=aec (x:=x) (n:=n) (i:=i) H k (j+1) (by omega) (shS s);rw [Rn];simp -implicitDefEqProofs only [xq_,h1,e1,e2,e3,e4,bf,h6,h7,ih];rfl
theorem aui {H:aj}{x:AV}{l:List By}(hx:bG H x l):cl0 165 [x] H=some (U16 (rG 0xffff#16 l),H):=by
 have key:∀(k i:Nat),i+k=l.length->∀s:S16,yc cl0 [U16 s,x,I l.length,I i] H=some (U16 (rG s (l.drop i)),H):=by
  intro k
  induction k with
  | zero=>
   intro i hi s;have h1:¬((i:Int) < l.length):=by omega
   rw [Rl,zaS (by omega)];simp -implicitDefEqProofs only [xq_,h1];rfl
  | succ k ih=>
   intro i hi s;have h1:(i:Int) < l.length:=by omega
   have h6:(i:Int)+1=((i+1:Nat):Int):=by omega
   have h7:=wrap_i64 (a:=((i+1:Nat):Int)) (by have:=hx.small;omega) (by have:=hx.small;omega);obtain⟨c,hc⟩:∃c,l[i]?=some c:=⟨_,zab (by omega)⟩
   have s1:=hx.ix (i:=i) (by omega);have s2:=hx.ld hc;have e1:cv 5 26 (Y c) H=some (U16 (c.setWidth 16),H):=
    (aeX (k:=.u8) (n:=(c.toNat:Int)) (H:=H)).trans (congrArg (λv=> some (v,H)) (aij (k:=.u8) (k':=.u16) rfl c))
   have e2:bi .shl 26 (U16 (c.setWidth 16)) (.s (.int .u64 8))=some (U16 (c.setWidth 16 <<< 8)):=WC (k:=.u16) rfl (c.setWidth 16) 8 (by decide) (by decide);have e3:bi .xor 26 (U16 s) (U16 (c.setWidth 16 <<< 8))=some (U16 (s ^^^ (c.setWidth 16 <<< 8))):=ae7 (k:=.u16) rfl _ _;have e4:=aec (x:=x) (n:=(l.length:Int)) (i:=(i:Int)) H 8 0 rfl (s ^^^ (c.setWidth 16 <<< 8));rw [h6,h7] at e4;have hd:l.drop i=c::l.drop (i+1):=by
    rw [zbl (by omega)];rw [zab (by omega)] at hc;rw [za2 hc]
   have ih1:=ih (i+1) (by omega) (UQ s c);have e5:rG s (c::l.drop (i+1))=rG (UQ s c) (l.drop (i+1)):=rfl;rw [Rl,hd,e5,<-ih1];have z0:((0:Nat):Int)=0:=rfl;rw [z0] at e4;simp -implicitDefEqProofs only [xq_,h1,s1,s2,e1,e2,e3,e4];rfl
 refine fV (alu _ _ _ ?_);have s0:=hx.is.lnS;have k0:=key l.length 0 (by omega) 0xffff#16;rw [zaO] at k0;simp -implicitDefEqProofs only [xq_,adU,s0];exact k0
theorem Rz {e:Nat}{z a c:AV}{H:aj}(ha:One a)(hc:One c):bsl e 1 [z] 2 [(0,a),(1,c)] H=some (.sl H.next 0 0 1 2 2 true,H.new (.blk 0 e [a,c])):=by
 have e1:bI [z] 2=[z,z]:=rfl;unfold bsl;rw [e1,DC (off:=0) rfl ha.1 (by simp),DC (off:=1) rfl hc.1 (by simp),cZ];simp only [List.set_cons_zero,List.set_cons_succ];simp only [List.all_cons,ha.2,hc.2,List.all_nil,zb7,if_true]
theorem X4 {e by_ r ty len cap n:Nat}{ex:Bool}{y:AV}{cells new:List AV}{H:aj}(hx:H.get r=.blk 0 ty cells)(hb:H.base<=r)(hy:aG H y 1 n new)(hc:new.all AV.aH=true)(hcap:len+n<=cap)(hl:len+n<=cells.length):
  app e 1 by_ (.sl r 0 0 1 len cap ex) y H=some (.sl r 0 0 1 (len+n) cap ex,H.put r (.blk 0 ty (setAt cells len new))):=by
 obtain⟨c1,c2⟩:=hy.sW;simp only [app,c1,c2];unfold bU;rw [if_pos ⟨hy.1,hc⟩];simp only [hx];rw [if_pos ⟨trivial,trivial,by omega⟩];by_cases hn:n=0
 ·subst hn;have hnew:new=[]:=zao (by have:=hy.1;omega);subst hnew;rw [if_pos rfl];have:setAt cells len []=cells:=by simp [setAt]
  rw [this,zbj];have:H.put r (.blk 0 ty cells)=H:=by
   unfold aj.put;cases H with
   | mk n b g=>
    simp only at hx ⊢
    congr 1
    funext x
    split
    ·rename_i h;rw [h,hx]
    ·rfl
  rw [this]
 ·rw [if_neg hn,if_pos hcap,if_pos ⟨hb,by omega⟩];simp
theorem asu(H:aj)(n:Nat)(h0:0 < n)(h1:n < 10000):cl0 192 [zN,I n] H=some (.sl H.next 0 0 1 0 n false,H.new (.blk 0 (5+fA) (bI [.s (.int .u8 0)] n))):=by
 refine fV (am8 _ _ _ _ ?_);have n0:¬((n:Int) < 0):=by omega
 have cp:abZ Tryz.prog 169 zN=some (I 0):=by kernel_rfl
 have w0:IntKind.wrap .i64 ((0:Int) - 0)=0:=rfl;have w1:IntKind.wrap .i64 ((n:Int) - 0)=n:=by rw [Int.sub_zero];exact wrap_i64 (by omega) (by omega)
 have g0:(0:Int) < n:=by omega
 have s0:slS 1 zN none (some (I 0)) none=some zN:=by kernel_rfl
 have az:apz 5 1 1 [.s (.int .u8 0)] zN (I n) H=some (.sl H.next 0 0 1 n n false,H.new (.blk 0 (5+fA) (bI [.s (.int .u8 0)] n))):=by
  show(if 0<=(n:Int)/\(n:Int)<=most/\(n:Int)*1<=most then bU 5 1 1 zN (n:Int).toNat (bI [.s (.int .u8 0)] (n:Int).toNat) H else none)=_;have hm:(n:Int)<=most:=by unfold most;omega
  rw [if_pos ⟨by omega,hm,by omega⟩,zaq];unfold bU;have hl:(bI [AV.s (.int .u8 0)] n).length=n*1:=by rw [jI];simp
  rw [if_pos ⟨hl,uK rfl n⟩];simp only;rw [if_neg (by omega),if_pos ⟨by unfold most;omega,by unfold most;omega⟩]
 have s1:slS 1 (.sl H.next 0 0 1 n n false) none (some (I 0)) none=some (.sl H.next 0 0 1 0 n false):=QH (by omega) (by omega);have ln0:∀H,lnS zN H=some (I 0,H):=λ_=> rfl;simp -implicitDefEqProofs only [xq_,aeb,Jm,Jl,n0,cp,ln0,jl,w0,w1,g0,s0,az,s1]
theorem afV {c:By}:One (Y c):=⟨rfl,rfl⟩
theorem X5 {H:aj}{x:AV}{l:List By}(h:bG H x l):One x:=by
 obtain⟨_,hh⟩:=h.is;cases x with
 | sl r g off esz len cap ex=> exact qg
 | vs n m l=> exact acI
 | s v=> cases v <;> first | exact hh.elim | exact⟨rfl,rfl⟩
 | _=> exact hh.elim
theorem auj {H:aj}(hb:H.base<=H.next){a x y:AV}{l m:List By}(ha:aG H a 1 2 [x,y])(hx:bG H x l)(hy:bG H y m)(hm:0 < m.length):
  cl0 166 [a] H=some (.sl H.next 0 0 1 (l.length+m.length) (l.length+m.length) false,H.new (.blk 0 (5+fA) ((l++m).map Y))):=by
 have sl:=hx.small;have sm:=hy.small;refine fV (alv _ _ _ ?_);have ln:=ha.lnS;have i0:=ha.ix (k:=.i64) (i:=0) (by decide) (by decide);have i1:=ha.ix (k:=.i64) (i:=1) (by decide) (by decide);have d0:ld (dh a 0) H=some (x,H):=ha.ld (by decide);have d1:ld (dh a 1) H=some (y,H):=ha.ld (by decide);have lx:=hx.is.lnS;have ly:=hy.is.lnS;let Z:aj->List AV->aj:=λH l=> H.new (.blk 0 (5+fA) l)
 obtain⟨n,hn⟩:∃n,n=l.length+m.length:=⟨_,rfl⟩
 have gr:=asu H n (by omega) (by omega);have K:∀cs,Gro H (H.new (.blk 0 (5+fA) cs)):=λcs=> Gro.new H 0 _ cs;have hz:(bI [AV.s (.int .u8 0)] n).length=n:=by rw [jI];simp
 -- behind the first
 let c1:=setAt (bI [AV.s (.int .u8 0)] n) 0 (l.map Y);have a1:=X4 (e:=5) (by_:=1) (r:=H.next) (ex:=false) (cap:=n) (H:=H.new (.blk 0 (5+fA) (bI [.s (.int .u8 0)] n))) (aK rfl) (by rw [bNew];exact hb) (hx.gro (K _)).is (aaq l) (len:=0) (by omega) (by omega);rw [Dz,za6] at a1;have hc1:c1.length=n:=by simp only [c1,setAt,zan,zat,zaR,zaE,hz];omega
 have a2:=X4 (e:=5) (by_:=1) (r:=H.next) (ex:=false) (cap:=n) (H:=H.new (.blk 0 (5+fA) c1)) (aK rfl) (by rw [bNew];exact hb) (hy.gro (K _)).is (aaq m) (len:=l.length) (by omega) (by omega);rw [Dz] at a2;have hc2:setAt c1 l.length (m.map Y)=(l++m).map Y:=by
  simp only [c1,setAt,List.take_zero,zaW,za6,zaE];rw [zbN (by simp),zar (by simp),List.drop_append,zaS (by simp),zbC];rw [zaS (by simp only [hz,zaE];omega)];simp
 rw [hc2] at a2;have ga:=λcs=> (ha.ig (K cs).next λr _ hr=> (K cs).same r hr)
 have li:=λcs=> (ga cs).lnS;have j0:=λcs=> (ga cs).ix (k:=.i64) (i:=0) (by decide) (by decide);have j1:=λcs=> (ga cs).ix (k:=.i64) (i:=1) (by decide) (by decide);have e0:∀cs,ld (dh a 0) (H.new (.blk 0 (5+fA) cs))=some (x,H.new (.blk 0 (5+fA) cs)):=λcs=> (ga cs).ld (by decide);have e1:∀cs,ld (dh a 1) (H.new (.blk 0 (5+fA) cs))=some (y,H.new (.blk 0 (5+fA) cs)):=λcs=> (ga cs).ld (by decide);have t0:((0:Int).toNat)=0:=rfl;have t1:((1:Int).toNat)=1:=rfl;rw [t0] at i0;rw [t1] at i1;have j0:∀cs,ix 1 a (I 0) (H.new (.blk 0 (5+fA) cs))=some (dh a 0,H.new (.blk 0 (5+fA) cs)):=j0;have j1:∀cs,ix 1 a (I 1) (H.new (.blk 0 (5+fA) cs))=some (dh a 1,H.new (.blk 0 (5+fA) cs)):=j1;have w1:IntKind.wrap .i64 ((0:Int)+l.length)=l.length:=by rw [Int.zero_add];exact wrap_i64 (by omega) (by omega)
 have w2:IntKind.wrap .i64 ((l.length:Int)+m.length)=n:=by rw [hn];have:=wrap_i64 (a:=((l.length+m.length:Nat):Int)) (by omega) (by omega);rwa [Int.natCast_add] at this ⊢
 have p1:IntKind.wrap .i64 (1:Int)=1:=rfl;have p2:IntKind.wrap .i64 (2:Int)=2:=rfl;have q1:¬((l.length:Int) < 0):=by omega
 have q2:¬((n:Int) < 0):=by omega
 have z2:((2:Nat):Int)=2:=rfl;rw [z2] at ln;have li:∀cs,lnS a (H.new (.blk 0 (5+fA) cs))=some (I 2,H.new (.blk 0 (5+fA) cs)):=li;rw [<-hn] at a2 ⊢;simp only [c1] at a2;simp -implicitDefEqProofs only [xq_,adV,ln];rw [Jj];simp -implicitDefEqProofs only [Int.reduceLT,Int.reduceAdd,xq_,BM,i0,d0,lx,bf,w1,q1,p1];rw [Jj];simp -implicitDefEqProofs only [Int.reduceLT,Int.reduceAdd,xq_,BM,i1,d1,ly,bf,w2,q2,p2];rw [Jj];simp -implicitDefEqProofs only [Int.reduceLT,xq_,gr,li];rw [Jk];simp -implicitDefEqProofs only [Int.reduceLT,Int.reduceAdd,xq_,j0,e0,a1,bf,p1];rw [Jk];simp -implicitDefEqProofs only [Int.reduceLT,Int.reduceAdd,xq_,j1,e1,a2,bf,p2];rw [Jk];simp -implicitDefEqProofs only [Int.reduceLT,xq_]
theorem bG.made {H:aj}{l:List By}{ty:TypeId}{ex:Bool}(h:l.length < 1000):bG (H.new (.blk 0 ty (l.map Y))) (.sl H.next 0 0 1 l.length l.length ex) l:=
 ⟨jE (by simp),h⟩
theorem afW {H:aj}(hb:H.base<=H.next){x:AV}{l:List By}(hx:bG H x l)(hl:l.length < 900):
  ∃y H',cl0 126 [x] H=some (y,H')/\Gro H H'/\bG H' y (iU l)/\H'.base<=H'.next:=by
 obtain⟨s,hs⟩:∃s,rG 0xffff#16 l=s:=⟨_,rfl⟩
 have e1:=aui hx;rw [hs] at e1;have e2:bi .shr 26 (U16 s) (.s (.int .u64 8))=some (U16 (s >>> 8)):=ae8 (k:=.u16) s 8 (by decide) (by decide);have e3:∀H,cv 26 5 (U16 (s >>> 8)) H=some (Y (UR s),H):=λH=>
  (VL (k:=.u16) (n:=((s >>> 8).toNat:Int)) (H:=H)).trans (congrArg (λv=> some (v,H)) (aij (k:=.u16) (k':=.u8) rfl (s >>> 8)))
 have e4:∀H,cv 26 5 (U16 s) H=some (Y (UU s),H):=λH=>
  (VL (k:=.u16) (n:=(s.toNat:Int)) (H:=H)).trans (congrArg (λv=> some (v,H)) (aij (k:=.u16) (k':=.u8) rfl s))
 let H1:=H.new (.blk 0 5 [Y (UR s),Y (UU s)]);let y1:AV:=.sl H.next 0 0 1 2 2 true
 let H2:=H1.new (.blk 0 169 [x,y1]);have g1:Gro H H1:=Gro.new H 0 _ _;have g2:Gro H1 H2:=Gro.new H1 0 _ _;have by1:bG H1 y1 [UR s,UU s]:=bG.made (l:=[UR s,UU s]) (by simp);have ha:aG H2 (.sl H1.next 0 0 1 2 2 true) 1 2 [x,y1]:=jE rfl;have hb2:H2.base<=H2.next:=by simp only [H2,H1,bNew,nNew];omega
 have ec:=auj hb2 ha (hx.gro (g1.trans g2)) (by1.gro g2) (by simp);have hse:iU l=l++[UR s,UU s]:=by unfold iU;rw [hs]
 have hlen:(iU l).length=l.length+2:=by rw [hse];simp
 have bm:=bG.made (H:=H2) (l:=iU l) (ty:=5+fA) (ex:=false) (by omega);rw [hlen] at bm;have l2:([UR s,UU s]:List By).length=2:=rfl;rw [<-hse,l2] at ec;refine⟨_,_,fV (aj3 _ _ _ (r:=(.sl H2.next 0 0 1 (l.length+2) (l.length+2) false,H2.new (.blk 0 (5+fA) ((iU l).map Y)))) ?_),(g1.trans g2).trans (Gro.new H2 0 _ _),bm,by rw [bNew,nNew];omega⟩;have b1:bs 169 2 [(0,Y (UR s)),(1,Y (UU s))] H=some (y1,H1):=(QC (by decide)).trans (Rz afV afV);have b2:bs 294 2 [(0,x),(1,y1)] H1=some (.sl H1.next 0 0 1 2 2 true,H2):=(aht (by decide)).trans (Rz (X5 hx) qg);simp -implicitDefEqProofs only [xq_,adt,e1,e2,e3,e4,b1,b2,ec]
theorem Ap:∀(ns:List Int) (b:ByteArray),(ns.foldl (λs n=> s.push (UInt8.ofNat n.toNat)) b).data.toList=b.data.toList++ns.map λn=> UInt8.ofNat n.toNat
 | [],b=> by simp
 | n::ns,b=> by
  rw [zbL,Ap ns];simp [ByteArray.push]
theorem X6 {l m:List By}(h:toStr (l.map λc=> (c.toNat:Int))=toStr (m.map λc=> (c.toNat:Int))):l=m:=by
 have h1:=congrArg (λb:ByteArray=> b.data.toList) h;unfold toStr at h1;simp only [Ap,List.map_map] at h1;have h2:l.map (λc:By=> UInt8.ofBitVec c)=m.map (λc:By=> UInt8.ofBitVec c):=by
  have key:∀l:List By,l.map ((λn:Int=> UInt8.ofNat n.toNat) ∘ λc:By=> (c.toNat:Int))=l.map (λc:By=> UInt8.ofBitVec c):=λl=> zby λc _=> by
   simp only [Function.comp,zaq]
   apply UInt8.toBitVec_inj.1
   simp
  rw [<-key,<-key]
  simpa using h1
 exact(List.map_inj_right λa b h=> by simpa using h).1 h2
theorem zC:∀l:List By,lT (l.map Y)=some (l.map λc=> (c.toNat:Int))
 | []=> rfl
 | c::l=> by
  show(match lT (l.map Y) with | some l'=> some ((c.toNat:Int)::l') | none=> none)=_;rw [zC l];rfl
theorem am9 {H:aj}{x:AV}{l:List By}(hx:bG H x l):cv 169 9 x H=some (.s (.string (toStr (l.map λc=> (c.toNat:Int)))),H):=by
 have hbt:Cj Tryz.prog 169 9=true:=by kernel_rfl
 obtain⟨hl,hh⟩:=hx.is;show jw (wV Tryz.prog 169 9 x) x H=_;unfold jw wV;rw [if_pos hbt];cases x with
 | sl r g off esz len cap ex=>
  obtain⟨rfl,rfl,_,ty,all,h2,h3,h4⟩:=hh;simp only [aU,zah,agW,if_true,h2];rw [if_pos ⟨trivial,h3⟩,<-h4,zC];rfl
 | vs n m cs=>
  obtain⟨rfl,rfl,rfl⟩:=hh;simp only [agW,if_true,zC];rfl
 | s v=>
  cases v with
  | slice a b c=>
   cases a with
   | none=>
    obtain⟨rfl,rfl,h3⟩:=(show b=0/\c=0/\l.length=0 from hh)
    have:l=[]:=zao h3;subst this;rfl
   | some a=> exact hh.elim
  | _=> exact hh.elim
 | _=> exact hh.elim
theorem X7 {H:aj}{x y:AV}{l m:List By}(hx:bG H x l)(hy:bG H y m):cl0 130 [x,y] H=some (B (decide (l=m)),H):=by
 refine fV (akf _ _ _ _ ?_);have e1:=am9 hx;have e2:=am9 hy;have e3:∀a c:ByteArray,bi .eql 9 (.s (.string a)) (.s (.string c))=some (B (decide (a=c))):=λa c=> by
  show nG _ _ _ _ _=_;rcases a with⟨a⟩
  rcases c with⟨c⟩
  by_cases h:a=c
  ·simp [nG,AV.val?,eqGuard,binOp,Op.stringOp,bM,h]
  ·have h2:¬a.toList=c.toList:=λe=> h (zcb.1 e);rw [<-ByteArray.toList_eq ⟨a⟩,<-ByteArray.toList_eq ⟨c⟩] at h2;simp [nG,AV.val?,eqGuard,binOp,Op.stringOp,bM,h,h2]
 have e4:decide (toStr (l.map λc=> (c.toNat:Int))=toStr (m.map λc=> (c.toNat:Int)))=decide (l=m):=by
  by_cases h:l=m
  ·rw [h];simp
  ·rw [decide_eq_false h,decide_eq_false λe=> h (X6 e)]
 simp -implicitDefEqProofs only [xq_,adx,e1,e2,e3,e4]
theorem bG.to_ {H:aj}{x:AV}{l:List By}(h:bG H x l){n:Nat}(hn:n<=l.length):∃y,slS 1 x none (some (I n)) none=some y/\bG H y (l.take n):=by
 obtain⟨⟨hl,hh⟩,hs⟩:=h;have ht:(l.take n).length=n:=by rw [zat];omega
 have small:(l.take n).length < 1000:=by omega
 cases x with
 | sl r g off esz len cap ex=>
  obtain⟨rfl,rfl,⟨hr,hc⟩,ty,all,h2,h3,h4⟩:=hh;refine⟨_,QH (by omega) (by omega),⟨⟨by simp,rfl,by rw [ht,zaq],⟨hr,by rw [zaq];omega⟩,ty,all,h2,by rw [ht];omega,?_⟩,small⟩⟩;rw [List.map_take,h4,zbU,ht]
  congr 1
  omega
 | vs k' esz cs=>
  obtain⟨rfl,rfl,rfl⟩:=hh;refine⟨.vs n 1 ((l.take n).map Y),?_,⟨by simp,rfl,by rw [ht],rfl⟩,small⟩;have h0:(0:Int)<=n:=by omega
  simp only [slS,gX,h0,if_true,zaq];rw [if_pos ⟨trivial,by omega,hn⟩];simp
 | s v=>
  cases v with
  | slice a b c=>
   cases a with
   | none=>
    obtain⟨rfl,rfl,h3⟩:=(show b=0/\c=0/\l.length=0 from hh)
    have:l=[]:=zao h3;subst this;have:n=0:=by simpa using hn
    subst this;exact⟨zN,by kernel_rfl,⟨rfl,rfl,rfl,rfl⟩,by decide⟩
   | some a=> exact hh.elim
  | _=> exact hh.elim
 | _=> exact hh.elim
theorem X8 {H:aj}{x:AV}{l:List By}(hx:bG H x l)(hl:l≠[]):cl0 131 [x] H=some (.sl (H.next+1) 0 0 1 l.length l.length false,(H.new (.blk 0 5 [])).new (.blk 0 (5+fA) (l.map Y))):=by
 have h0:l.length≠0:=λe=> hl (zao e);have e2:=qj (e:=5) (by_:=1) (r:=H.next) (H:=H.new (.blk 0 5 [])) nS (hx.gro (Gro.new H 0 _ _)).is (aaq l) h0 (by have:=hx.small;unfold most;omega) (by have:=hx.small;unfold most;omega);simp only [nNew] at e2;have e1:bi .eql 169 x zN=some (B false):=by
  obtain⟨_,hh⟩:=hx.is;cases x with
  | sl r g off esz len cap ex=> exact yU Tryz.underlying169
  | vs n m l=> exact ql Tryz.underlying169
  | s v=>
   cases v with
   | slice a b c=>
    cases a with
    | none=> exact absurd hh.2.2 h0
    | some a=> exact hh.elim
   | _=> exact hh.elim
  | _=> exact hh.elim
 refine fV (aki _ _ _ ?_);simp -implicitDefEqProofs only [xq_,ady,e1,QC,wF,e2,zbk,zaU]
theorem aaO {H:aj}(hb:H.base<=H.next){x:AV}{l:List By}(hx:bG H x l)(hl:l.length < 900)(hn:∀m,l≠iU m):
  ∃H',cl0 127 [x] H=some (.tup [zN,B false],H')/\Gro H H':=by
 have ln:=hx.is.lnS;have w1:=wrap_i64 (a:=(l.length:Int) - 2) (by omega) (by omega);by_cases h2:(l.length:Int) - 2 < 0
 ·refine⟨H,fV (Xq _ _ _ ?_),Gro.refl H⟩;simp -implicitDefEqProofs only [xq_,Q8,ln,jl,w1,h2]
 ·obtain⟨n,hnn⟩:∃n:Nat,(l.length:Int) - 2=n:=⟨l.length - 2,by omega⟩
  rw [hnn] at w1 h2;obtain⟨y,s1,by1⟩:=hx.to_ (n:=n) (by omega);obtain⟨z,H1,e1,g1,bz,_⟩:=afW hb by1 (by rw [zat];omega);have e2:=X7 bz (hx.gro g1);rw [decide_eq_false λe=> hn _ e.symm] at e2;refine⟨H1,fV (Xq _ _ _ ?_),g1⟩;simp -implicitDefEqProofs only [xq_,Q8,ln,jl,hnn,w1,h2,s1,e1,e2,zak]
theorem afX {H:aj}(hb:H.base<=H.next){x:AV}{m:List By}(hx:bG H x (iU m))(hl:m.length < 800)(h0:m≠[]):
  ∃y H',cl0 127 [x] H=some (.tup [y,B true],H')/\Gro H H'/\bG H' y m/\(∃r,y=.sl r 0 0 1 m.length m.length false):=by
 have hlen:(iU m).length=m.length+2:=by unfold iU;simp
 have htake:(iU m).take m.length=m:=by unfold iU;simp
 have ln:=hx.is.lnS;have w0:(((iU m).length:Nat):Int) - 2=(m.length:Int):=by omega
 have w1:=wrap_i64 (a:=(m.length:Int)) (by omega) (by omega);have h2:¬((m.length:Int) < 0):=by omega
 obtain⟨y,s1,by1⟩:=hx.to_ (n:=m.length) (by omega);rw [htake] at by1;obtain⟨z,H1,e1,g1,bz,_⟩:=afW hb by1 (by omega);have e2:=X7 bz (hx.gro g1);rw [decide_eq_true rfl] at e2;have e3:=X8 (by1.gro g1) h0;have gg:Gro H1 ((H1.new (.blk 0 5 [])).new (.blk 0 (5+fA) (m.map Y))):=(Gro.new H1 0 _ _).trans (Gro.new _ 0 _ _);have bm:=bG.made (H:=H1.new (.blk 0 5 [])) (l:=m) (ty:=5+fA) (ex:=false) (by omega);rw [nNew] at bm;refine⟨_,_,fV (Xq _ _ _ (r:=(.tup [.sl (H1.next+1) 0 0 1 m.length m.length false,B true],(H1.new (.blk 0 5 [])).new (.blk 0 (5+fA) (m.map Y)))) ?_),g1.trans gg,bm,_,rfl⟩;simp -implicitDefEqProofs only [xq_,Q8,ln,jl,w0,w1,h2,s1,e1,e2,e3,zae]
abbrev nil0:Store:=λ_=> none
def cup(n:Nat)(g g':Store):Store:=λq=> if q < n then g q else g' q
structure Made(H H':aj)(g':Store):Prop where
 next:H.next<=H'.next
 base:H'.base=H.base
 same:∀r,r < H.next->H'.get r=H.get r
 good:Good H.next H' g'
section
variable {b:Nat}{H H' H'':aj}{g g':Store}{q:Nat}{cs:List Cell}
theorem Good.merge(G:Good b H g)(M:Made H H' g'):Good b H' (cup H.next g g'):=by
 obtain⟨h0,τ,h1⟩:=G;obtain⟨k0,τ',k1⟩:=M.good;have n1:=M.next
 refine⟨by omega,λr=> if r < H.next then τ r else τ' r,λq cs hq=> ?_⟩;unfold cup at hq;split at hq
 ·rename_i hl;exact(h1 q cs hq).keep n1 λr i s t hr ht=> ⟨by rw [if_pos hr];exact ht,M.same r hr⟩
 ·rename_i hl;have R:=k1 q cs hq
  -- all its blocks are new
  have key:∀{T:Tag} {x:AV} {m:Nat} {cells:List AV},OS H.next H' τ' T x m cells->OS b H' (λr=> if r < H.next then τ r else τ' r) T x m cells:=by
   intro T x m cells ho;rcases ho with ho | ⟨r,gg,off,n,cap,ex,ty,all,e,t1,t2,t3,t4⟩
   ·exact .inl ho
   ·exact .inr ⟨r,gg,off,n,cap,ex,ty,all,e,by simp only;rw [if_neg (by omega)];exact t1,by omega,t3,t4⟩
  have atg:∀{T:Tag} {x:AV} {k:IntKind} {es:List (Int × AV)},OM H.next H' τ' T x k es->OM b H' (λr=> if r < H.next then τ r else τ' r) T x k es:=by
   intro T x k es ⟨r,e,t1,t2,t3,t4⟩;exact⟨r,e,by simp only;rw [if_neg (by omega)];exact t1,by omega,t3,t4⟩
  obtain⟨ty,xs,b1,b2,b3,b4⟩:=R.blk;have lo:=R.lo;refine⟨by rw [if_neg hl];exact R.tag,by omega,R.hi,R.tyl,ty,xs,b1,b2,b3,λi c x hc hx=> ?_⟩;have:=b4 i c x hc hx;cases c with
  | av _=> exact this
  | seq _ _=> exact key this
  | map _ _=> exact atg this
  | maps _ _ _=>
   obtain⟨aes,a1,a2,a3⟩:=this;exact⟨aes,atg a1,a2,λj n cells x hj hx=> key (a3 j n cells x hj hx)⟩
  | ahW _ _ _=>
   obtain⟨ys,a1,a2,a3⟩:=this;exact⟨ys,key a1,a2,λj cells x hj hx=> key (a3 j cells x hj hx)⟩
theorem Good.ana(G:Good b H g)(hq:H.next<=q):cup H.next g (upd nil0 q cs)=upd g q cs:=by
 funext x
 unfold cup upd;split
 ·rw [if_neg (by omega)]
 ·split
  ·rfl
  ·exact(G.isNone (by omega)).symm
theorem Made.lt(M:Made H H' g')(h:g' q=some cs):H.next<=q/\q < H'.next:=⟨M.good.le h,M.good.lt h⟩
theorem Made.refl(h:H.base<=H.next):Made H H nil0:=⟨zac _,rfl,λ_ _=> rfl,Good.empty H⟩
theorem Made.trans(M:Made H H' g)(M':Made H' H'' g'):Made H H'' (cup H'.next g g'):=
 ⟨zaz M.next M'.next,M'.base.trans M.base,λr hr=> by rw [M'.same r (zax hr M.next),M.same r hr],M.good.merge M'⟩
theorem Made.new(M:Made H H' g)(o:dV):Made H (H'.new o) g:=
 ⟨by rw [nNew];have:=M.next;omega,by rw [bNew];exact M.base,λr hr=> by rw [aQ (zax hr M.next),M.same r hr],M.good.new o⟩
theorem Made.vU {o:dV}(M:Made (H.new o) H' g):Made H H' g:=
 ⟨by have:=M.next;rw [nNew] at this;omega,by rw [M.base,bNew],λr hr=> by rw [M.same r (by rw [nNew];omega),aQ hr],M.good.weak (by rw [nNew];omega)⟩
theorem Made.aaP(M:Made H.guard H' g):Made H { H' with base:=H.base } g:=
 ⟨M.next,rfl,M.same,M.good.ext (zac _) λ_ _=> rfl⟩
theorem Made.step(M:Made H H' g)(G:Good H.next H'' g')(s:Step H.next H' H''):Made H H'' g':=
 ⟨zaz M.next s.next,s.base.trans M.base,λr hr=> by rw [s.low r hr,M.same r hr],G⟩
theorem Made.as(M:Made H H' g)(h:g'=g):Made H H' g':=h ▸ M
theorem jK {ty:TypeId}{xs:List AV}{cs:List Cell}(hc:xs.all AV.aH=true)(hl:xs.length=cs.length)(h:∀(i:Nat) (c:Cell) (x:AV),cs[i]?=some c->xs[i]?=some x->c=.av x∨(x=zN/\∃m,c=.seq m []))(ht:ty < fA:=by decide):
  Made H (H.new (.blk 0 ty xs)) (upd nil0 H.next cs):=by
 refine⟨za8 _,rfl,λr hr=> aQ hr,by rw [nNew];omega,λr=> if r=H.next then some (r,0,0,0) else none,λq cs' hq=> ?_⟩;unfold upd at hq;split at hq
 ·rename_i e;subst e;cases hq;refine⟨by simp,zac _,by rw [nNew];omega,rY (xs:=xs) (by simp [iE]) ht,ty,xs,by simp [iE],hl,hc,λi c x hci hx=> ?_⟩;rcases h i c x hci hx with rfl | ⟨rfl,m,rfl⟩
  ·exact rfl
  ·exact .inl ⟨rfl,rfl⟩
 ·cases hq
theorem LW {n:Nat}{ty:TypeId}{xs:List AV}{cs:List Cell}(hn:H.next<=n)(hm:H'.next=n)(hb:H'.base=H.base)(hs:∀r,r < H.next->H'.get r=H.get r)(hc:xs.all AV.aH=true)(hl:xs.length=cs.length)(own:Nat->Option Nat)
  (h:∀(i:Nat) (c:Cell) (x:AV),cs[i]?=some c->xs[i]?=some x->c=.av x∨(x=zN/\∃m,c=.seq m [])∨∃r k,x=.mp r/\H.next<=r/\r < n/\own r=some i/\H'.get r=.map k []/\(c=.map k []∨∃m,c=.maps k m [])) (ht:ty < fA:=by decide):
  Made H (H'.new (.blk 0 ty xs)) (upd nil0 n cs):=by
 refine⟨by rw [nNew];omega,hb,λr hr=> by rw [aQ (by omega),hs r hr],by rw [nNew];omega,λr=> if r=n then some (r,0,0,0) else match own r with
  | some i=> some (n,i+1,0,0)
  | none=> none,λq cs' hq=> ?_⟩
 unfold upd at hq;split at hq
 ·rename_i e;subst e;cases hq;refine⟨by simp,hn,by rw [nNew];omega,rY (xs:=xs) (by rw [aK hm.symm]) ht,ty,xs,by rw [aK hm.symm],hl,hc,λi c x hci hx=> ?_⟩;have om:∀r k,H.next<=r->r < q->own r=some i->H'.get r=.map k []->OM H.next (H'.new (.blk 0 ty xs)) (λr=> if r=q then some (r,0,0,0) else match own r with
    | some i=> some (q,i+1,0,0)
    | none=> none) (q,i+1,0,0) (.mp r) k []:=λr k h1 h2 h3 h4=> ⟨r,rfl,by simp only;rw [if_neg (by omega),h3],h1,by rw [nNew];omega,by rw [aQ (by omega)];exact h4⟩
  rcases h i c x hci hx with rfl | ⟨rfl,m,rfl⟩ | ⟨r,k,rfl,h1,h2,h3,h4,rfl | ⟨m,rfl⟩⟩
  ·exact rfl
  ·exact .inl ⟨rfl,rfl⟩
  ·exact om r k h1 h2 h3 h4
  ·exact⟨[],om r k h1 h2 h3 h4,rfl,λj n cells x hj=> by simp at hj⟩
 ·cases hq
end
def bg(c:Cache):List Cell:=[.seq 6 (c.l.flatMap Ent.av),.av (I c.sets),.av (I c.ways),.av (I c.clock)]
def oG(p:Proc):List Cell:=[.av (vsl 3 Opn.av p.ops),.seq 1 (p.values.map I),.av (B p.begun)]
def kN(l:List Evn):List Cell:=[.seq 4 (l.flatMap Evn.av)]
def gu(t:Turns):List Cell:=[.map .i64 (VX (λn=> I n) t.iy),.maps .i64 2 (t.wait.map λe=> (e.1,e.2.flatMap λw=> [I w.1,I w.2]))]
def AB(c:Cfg)(rows:Rows):List Cell:=c.av.map .av++[.map .i64 (VX (λr=> .agg r.av) rows)]
section
variable {H:aj}
theorem X9(H:aj)(room:Int)(h:0<=room):∃H' q,cl 66 [I room] H=some (.ref q 0 0,H')/\Made H H' (upd nil0 q (kZ [] room)):=by
 refine⟨_,H.next,aO rfl rfl (aqX _ _ _ (r:=(_,H.new (.blk 0 143 [zN,I room]))) ?_),jK rfl rfl λi c x hc hx=> ?_⟩
 ·have e:max (0:Int) room=room:=by omega
  simp -implicitDefEqProofs only [Nat.reduceLT,Nat.reduceAdd,setAt,xq_,hq_,ai2,Io,e,ahJ,gK,dM,acu,aB]
 ·match i with
  | 0=> right;cases hc;cases hx;exact⟨rfl,9,rfl⟩
  | 1=> left;cases hc;cases hx;rfl
  | i+2=> cases hc
theorem RD(H:aj)(room:Int)(h:0<=room):∃H' q,cl 67 [I room] H=some (.ref q 0 0,H')/\Made H H' (upd nil0 q (kZ [] room)):=by
 refine⟨_,H.next,aO rfl rfl (aq0 _ _ _ (r:=(_,H.new (.blk 0 175 [zN,I room]))) ?_),jK rfl rfl λi c x hc hx=> ?_⟩
 ·have e:max (0:Int) room=room:=by omega
  simp -implicitDefEqProofs only [Nat.reduceLT,Nat.reduceAdd,setAt,xq_,hq_,ai3,Io,e,ahM,gK,dM,acy,aB]
 ·match i with
  | 0=> right;cases hc;cases hx;exact⟨rfl,9,rfl⟩
  | 1=> left;cases hc;cases hx;rfl
  | i+2=> cases hc
theorem aaQ(H:aj)(sets ways:Int)(h:1<=sets)(h':1<=ways):∃H' q,cl 68 [I sets,I ways] H=some (.ref q 0 0,H')/\Made H H' (upd nil0 q (bg ⟨[],sets,ways,0⟩)):=by
 refine⟨_,H.next,aO rfl rfl (aq3 _ _ _ _ (r:=(_,H.new (.blk 0 108 [zN,I sets,I ways,zI]))) ?_),jK rfl rfl λi c x hc hx=> ?_⟩
 ·have e:max (1:Int) sets=sets:=by omega
  have e':max (1:Int) ways=ways:=by omega
  simp -implicitDefEqProofs only [Nat.reduceLT,Nat.reduceAdd,setAt,xq_,hq_,ai4,Io,e,e',ahC,gK,dM,aci,aB]
 ·match i with
  | 0=> right;cases hc;cases hx;exact⟨rfl,6,rfl⟩
  | 1=> left;cases hc;cases hx;rfl
  | 2=> left;cases hc;cases hx;rfl
  | 3=> left;cases hc;cases hx;rfl
  | i+4=> cases hc
theorem aaR(H:aj):∃H' q,cl 38 [] H=some (.ref q 0 0,H')/\Made H H' (upd nil0 q (kN [])):=by
 refine⟨_,H.next,aO rfl rfl (apL _ _ (r:=(_,H.new (.blk 0 93 [zN]))) ?_),jK rfl rfl λi c x hc hx=> ?_⟩
 ·simp -implicitDefEqProofs only [Nat.reduceLT,xq_,hq_,aiO,aoC,gK,dM,aB]
 ·match i with
  | 0=> right;cases hc;cases hx;exact⟨rfl,4,rfl⟩
  | i+1=> cases hc
theorem aaS(H:aj):∃H' q,cl 110 [] H=some (.ref q 0 0,H')/\Made H H' (upd nil0 q (gu ⟨[],[]⟩)):=by
 refine⟨_,H.next+2,aO rfl rfl (ajT _ _ (r:=(_,((H.new (.map .i64 [])).new (.map .i64 [])).new (.blk 0 264 [.mp H.next,.mp (H.next+1)]))) ?_),LW (H':=(H.new (.map .i64 [])).new (.map .i64 [])) (by omega) (by rw [nNew,nNew]) rfl (λr hr=> by rw [aQ (by rw [nNew];omega),aQ hr]) rfl rfl (λr=> if r=H.next then some 0 else if r=H.next+1 then some 1 else none) λi c x hc hx=> ?_⟩
 ·have e:∀r,(AV.mp r).cells=[.mp r]:=λ_=> rfl;simp -implicitDefEqProofs only [Nat.reduceLT,Nat.reduceAdd,setAt,xq_,hq_,adn,ahT,gK,dM,acF,aB,e,Vz]
 ·match i with
  | 0=> right;right;cases hc;cases hx;exact⟨H.next,.i64,rfl,zac _,by omega,by simp,by rw [aQ (by rw [nNew];omega),aK rfl],.inl rfl⟩
  | 1=> right;right;cases hc;cases hx;exact⟨H.next+1,.i64,rfl,by omega,by omega,by simp,by rw [aK (by rw [nNew])],.inr ⟨2,rfl⟩⟩
  | i+2=> cases hc
end
theorem RF {d:Nat}{α:Type}{enc:α->List AV}(h:∀a,∀x∈enc a,Frz d x)(l:List α):∀x∈l.flatMap enc,Frz d x:=λx hx=> by
 obtain⟨a,_,ha⟩:=za5.1 hx;exact h a x ha
theorem afY(o:Opn):∀x∈o.av,Frz 8 x:=λx hx=> by
 simp only [Opn.av,zam,zaH,or_false] at hx;rcases hx with rfl | rfl | rfl <;> exact eH
theorem Ya(o:Evn):∀x∈o.av,Frz 8 x:=λx hx=> by
 simp only [Evn.av,zam,zaH,or_false] at hx;rcases hx with rfl | rfl | rfl | rfl <;> exact eH
theorem aaT(H:aj)(l:List Opn)(hl:l.length < 1000000000){x:AV}(hx:aG H x 3 l.length (l.flatMap Opn.av))(h0:l=[]->x=zN)(hn:l≠[]->bi .eql 100 x zN=some (B false)):cl 108 [x] H=some (vsl 3 Opn.av l,H):=by
 by_cases h:l=[]
 ·rw [h0 h];subst h;refine fZ rfl rfl (adi _ _ _ (r:=(zN,H.guard)) ?_) (by rw [dU];exact iq);have e:bi .eql 100 zN zN=some (B true):=by kernel_rfl
  simp -implicitDefEqProofs only [xq_,Xk,e]
 ·have h1:l.length≠0:=λe=> h (zao e);have e2:=qj (e:=119) (by_:=24) (r:=H.guard.next) (H:=H.guard.new (.blk 0 119 [])) nS (hx.guard.new _) (xw lI l) h1 (by unfold most;omega) (by unfold most;omega);simp only [yI,nNew] at e2;refine fZ rfl rfl (adi _ _ _ (r:=(.sl (H.next+1) 0 0 3 l.length l.length false,(H.guard.new (.blk 0 119 [])).new (.blk 0 (119+fA) (l.flatMap Opn.av)))) ?_) ?_
  ·simp -implicitDefEqProofs only [xq_,Xk,hn h,ace,wF,e2,zbk,zaU]
  ·rw [Bf h];refine jC (by omega) (cells:=l.flatMap Opn.av) ?_ (fO _ λx hx=> RF afY l x hx _ _);simp only [aZ,iE,nNew,yI,if_true];rw [if_pos (by rw [bn dD,za6];exact⟨trivial,zac _⟩),zaO,zar (by rw [bn dD];exact zac _)]
theorem LX(H:aj)(n m:Int):cl 60 [I n,I m] H=some (B (within n m),H):=by
 refine aO rfl rfl (aqF _ _ _ _ ?_);by_cases h:1<=n
 ·simp -implicitDefEqProofs only [xq_,afC,h,within,zaN]
 ·simp -implicitDefEqProofs only [xq_,afC,h,within,zaP]
theorem RG(H:aj)(c:Cfg)(h:c.ok=true):cl 35 [.agg c.av] H=some (I 0,H):=by
 refine aY rfl rfl (aiL _ _ _) ?_ eH;have w:=λH n m=> LX H n m;have e1:=λH=> (jr H c.init).lnS;simp only [Cfg.ok,zaj,decide_eq_true_eq] at h;obtain⟨⟨⟨⟨⟨⟨⟨a,b⟩,d⟩,f⟩,g⟩,i⟩,j⟩,k⟩:=h;have t:∀n m,1<=n/\n<=m->within n m=true:=λn m h=> by simp [within,h.1,h.2]
 have hm:IntKind.wrap .i64 (c.lines*c.words)=c.lines*c.words:=by
  have:c.lines*c.words<=8*4:=zbV b.2 d.2 (by omega) (by omega);have:0<=c.lines*c.words:=zcg (by omega) (by omega);exact wrap_i64 (by omega) (by omega)
 have k':¬c.lines*c.words < c.init.length:=by omega
 simp -implicitDefEqProofs only [Nat.reduceLT,xq_,hq_,aaB,aB,Cfg.av,w,t _ _ a,t _ _ b,t _ _ d,t _ _ f,t _ _ g,t _ _ i,t _ _ j,e1,gV,hm,k',zae]
theorem aaU(H:aj)(c:Cfg)(h:c.ok=true):cl 150 [.agg c.av] H=some (I c.jy,H):=by
 refine aY rfl rfl (ak7 _ _ _) ?_ eH;simp only [Cfg.ok,zaj,decide_eq_true_eq] at h;obtain⟨⟨⟨⟨⟨⟨⟨a,b⟩,d⟩,f⟩,g⟩,i⟩,j⟩,k⟩:=h;have hm:IntKind.wrap .i64 (c.lines*c.words)=c.lines*c.words:=by
  have:c.lines*c.words<=8*4:=zbV b.2 d.2 (by omega) (by omega);have:0<=c.lines*c.words:=zcg (by omega) (by omega);exact wrap_i64 (by omega) (by omega)
 simp -implicitDefEqProofs only [Nat.reduceLT,xq_,hq_,adJ,aB,Cfg.av,gV,hm,Cfg.jy]
structure auk(c:Cfg):Prop where
 nodes:1<=c.nodes/\c.nodes<=6
 lines:1<=c.lines/\c.lines<=8
 words:1<=c.words/\c.words<=4
 sets:1<=c.sets/\c.sets<=4
 ways:1<=c.ways/\c.ways<=3
 out:1<=c.out/\c.out<=8
 inn:1<=c.inn/\c.inn<=8
 init:(c.init.length:Int)<=c.lines*c.words
 jy:1<=c.lines*c.words/\c.lines*c.words<=32
theorem pR {c:Cfg}(h:c.ok=true):auk c:=by
 simp only [Cfg.ok,zaj,decide_eq_true_eq] at h;obtain⟨⟨⟨⟨⟨⟨⟨a,b⟩,d⟩,f⟩,g⟩,i⟩,j⟩,k⟩:=h;have h1:c.lines*c.words<=8*4:=zbV b.2 d.2 (by omega) (by omega);have h2:1*1<=c.lines*c.words:=zbV b.1 d.1 (by omega) (by omega);exact⟨a,b,d,f,g,i,j,k,by omega,by omega⟩
theorem afZ(H:aj)(n m:Int)(h:1<=m):cl 177 [I n,I m] H=some (I (Ac n m),H):=by
 refine aO rfl rfl (alZ _ _ _ _ ?_);by_cases h0:n < 0
 ·simp -implicitDefEqProofs only [Int.reduceNeg,xq_,XG,h0,Ac]
 ·have e:n.tmod m=n % m:=zbK (by omega);simp -implicitDefEqProofs only [Int.reduceNeg,xq_,XG,h0,qY (show m≠0 by omega),Ac,e]
theorem Ee(H:aj)(c:Cfg)(h:c.ok=true)(line:Int):cl 142 [.agg c.av,I line] H=some (I (c.iw line),H):=by
 have B:=pR h;refine aY rfl rfl (akM _ _ _ _) ?_ eH;have e:=λH=> afZ H line c.nodes B.nodes.1;simp -implicitDefEqProofs only [Nat.reduceLT,xq_,hq_,adC,aB,Cfg.av,e,Cfg.iw]
theorem Ef(H:aj)(c:Cfg)(h:c.ok=true)(a:Int):cl 100 [.agg c.av,I a] H=some (.tup [I (c.dn a),I (c.iK a)],H):=by
 have B:=pR h;refine aY rfl rfl (ajw _ _ _ _) ?_ (rC λx hx=> by
  simp only [zam,zaH,or_false] at hx;rcases hx with rfl | rfl <;> exact eH)
 have e:=λH=> aaU H c h;by_cases h0:a < 0
 ·simp -implicitDefEqProofs only [Nat.reduceLT,Int.reduceNeg,xq_,hq_,QW,aB (dK c),h0,Cfg.dn,Cfg.iK,true_or]
 ·by_cases h1:c.jy<=a
  ·simp -implicitDefEqProofs only [Nat.reduceLT,Int.reduceNeg,xq_,hq_,QW,aB (dK c),h0,h1,Cfg.dn,Cfg.iK,or_true,e]
  ·have q:a.tdiv c.words=a / c.words:=Int.tdiv_eq_ediv_of_nonneg (by omega);have r:a.tmod c.words=a % c.words:=zbK (by omega);have q1:0<=a / c.words:=Int.ediv_nonneg (by omega) (by have:=B.words;omega);have q2:a / c.words<=a:=Int.ediv_le_self _ (by omega);have q3:c.jy<=32:=B.jy.2;have w:=wrap_i64 (a:=a / c.words) (by omega) (by omega);have z:c.words≠0:=by have:=B.words;omega
   have l2:c.av[2]?=some (I c.words):=rfl;simp -implicitDefEqProofs only [Nat.reduceLT,Int.reduceNeg,xq_,hq_,QW,aB (dK c),h0,h1,Cfg.dn,Cfg.iK,or_false,e,l2,aeO z,qY z,q,r,w]
def BU(o:Option Nat):Int:=match o with
 | some i=> (i:Int)
 | none=> -1
theorem nK {α:Type}{p:α->Bool}:∀(l:List α) (i:Nat),(∀j a,j < i->l[j]?=some a->p a=false)->l.findIdx? p=((l.drop i).findIdx? p).map (· +i)
 | l,0,_=> by cases h:l.findIdx? p <;> simp [h]
 | [],i+1,_=> by simp
 | a::l,i+1,h=> by
  have h0:=h 0 a (by omega) rfl;rw [List.findIdx?_cons,h0,List.drop_succ_cons,nK l i λj b hj hb=> h (j+1) b (by omega) hb];simp only [zai,if_false,Option.map_map]
  congr 1
theorem Pj(H:aj){α:Type}{enc:α->List AV}(he:∀a,(enc a).length=3){x f:AV}{l:List α}(hx:aG H x 3 l.length (l.flatMap enc))(hl:l.length < 1000000000)(p:α->Bool)
  (hp:∀a∈l,qI Tryz.prog cl f [.agg (enc a)] H=some (B (p a),H)):cl 107 [x,f] H=some (I (BU (l.findIdx? p)),H):=by
 have e1:=hx.lnS;have e2:∀i a,l[i]?=some a->lda 3 (dh x i) H=some (.agg (enc a),H):=λi a hi=> jJ he hx hi;refine aO rfl rfl (ajN _ _ _ _ ?_);have key:∀k i,i+k=l.length->(∀j a,j < i->l[j]?=some a->p a=false)->Bl cl [x,f,I l.length,I i] H=some (I (BU (l.findIdx? p)),H):=by
  intro k
  induction k with
  | zero=>
   intro i hi hf;have h1:¬(i:Int) < l.length:=by omega
   have h2:l.findIdx? p=none:=by rw [nK l i hf,zaS (by omega)];rfl
   rw [QY];simp -implicitDefEqProofs only [Int.reduceNeg,xq_,h1,h2,BU]
  | succ k ih=>
   intro i hi hf;have h1:(i:Int) < l.length:=by omega
   have h3:=hx.ix (k:=.i64) (i:=(i:Int)) (by omega) h1;obtain⟨a,ha⟩:∃a,l[i]?=some a:=⟨_,zab (by omega)⟩
   have h4:=e2 i a ha;have h5:=hp a (zas ha);rw [zaq] at h3;rw [QY];cases hpa:p a with
   | true=>
    have h2:l.findIdx? p=some i:=by
     rw [nK l i hf,zbl (by omega),List.findIdx?_cons];rw [zab (by omega)] at ha;simp only [zaa] at ha;rw [ha,hpa];simp
    rw [hpa] at h5;simp -implicitDefEqProofs only [Int.reduceNeg,xq_,h1,h2,h3,h4,h5,BU]
   | false=>
    rw [hpa] at h5;have h6:(i:Int)+1=((i+1:Nat):Int):=by omega
    have h7:=wrap_i64 (a:=((i+1:Nat):Int)) (by omega) (by omega);have:=ih (i+1) (by omega) λj b hj hb=> by
     by_cases hji:j=i
     ·subst hji;rw [ha] at hb;cases hb;exact hpa
     ·exact hf j b (by omega) hb
    simp -implicitDefEqProofs only [Int.reduceNeg,xq_,h1,h3,h4,h5,bf,h6,h7,this]
 have:=key l.length 0 (by omega) (λj a hj=> by omega);simp -implicitDefEqProofs only [xq_,adh,e1];exact this
theorem LY(H:aj){α:Type}{enc:α->List AV}(he:∀a,(enc a).length=6){x f:AV}{l:List α}(hx:aG H x 6 l.length (l.flatMap enc))(hl:l.length < 1000000000)(p:α->Bool)
  (hp:∀a∈l,qI Tryz.prog cl f [.agg (enc a)] H=some (B (p a),H)):cl 189 [x,f] H=some (I (BU (l.findIdx? p)),H):=by
 have e1:=hx.lnS;have e2:∀i a,l[i]?=some a->lda 6 (dh x i) H=some (.agg (enc a),H):=λi a hi=> jJ he hx hi;refine aO rfl rfl (amw _ _ _ _ ?_);have key:∀k i,i+k=l.length->(∀j a,j < i->l[j]?=some a->p a=false)->BQ cl [x,f,I l.length,I i] H=some (I (BU (l.findIdx? p)),H):=by
  intro k
  induction k with
  | zero=>
   intro i hi hf;have h1:¬(i:Int) < l.length:=by omega
   have h2:l.findIdx? p=none:=by rw [nK l i hf,zaS (by omega)];rfl
   rw [Ro];simp -implicitDefEqProofs only [Int.reduceNeg,xq_,h1,h2,BU]
  | succ k ih=>
   intro i hi hf;have h1:(i:Int) < l.length:=by omega
   have h3:=hx.ix (k:=.i64) (i:=(i:Int)) (by omega) h1;obtain⟨a,ha⟩:∃a,l[i]?=some a:=⟨_,zab (by omega)⟩
   have h4:=e2 i a ha;have h5:=hp a (zas ha);rw [zaq] at h3;rw [Ro];cases hpa:p a with
   | true=>
    have h2:l.findIdx? p=some i:=by
     rw [nK l i hf,zbl (by omega),List.findIdx?_cons];rw [zab (by omega)] at ha;simp only [zaa] at ha;rw [ha,hpa];simp
    rw [hpa] at h5;simp -implicitDefEqProofs only [Int.reduceNeg,xq_,h1,h2,h3,h4,h5,BU]
   | false=>
    rw [hpa] at h5;have h6:(i:Int)+1=((i+1:Nat):Int):=by omega
    have h7:=wrap_i64 (a:=((i+1:Nat):Int)) (by omega) (by omega);have:=ih (i+1) (by omega) λj b hj hb=> by
     by_cases hji:j=i
     ·subst hji;rw [ha] at hb;cases hb;exact hpa
     ·exact hf j b (by omega) hb
    simp -implicitDefEqProofs only [Int.reduceNeg,xq_,h1,h3,h4,h5,bf,h6,h7,this]
 have:=key l.length 0 (by omega) (λj a hj=> by omega);simp -implicitDefEqProofs only [xq_,ad4,e1];exact this
theorem aaV(H:aj)(c:Cfg)(h:c.ok=true)(o:Opn):cl 65 [.agg c.av,.agg o.av] H=some (B (c.right o),H):=by
 refine aY rfl rfl (aqU _ _ _ _) ?_ eH;have e:=λH=> Ef H c h o.addr;have f1:c.right o=(decide (1<=o.kind) && decide (o.kind<=4) && !decide (c.dn o.addr=-1) && (decide (o.value=0) || decide (o.kind=2) || decide (o.kind=3))):=by simp [Cfg.right]
 rw [f1];by_cases a:1<=o.kind;rotate_left
 ·simp -implicitDefEqProofs only [Nat.reduceLT,Int.reduceNeg,xq_,hq_,LC,aB,Opn.av,e,a,zaP]
 by_cases b:o.kind<=4;rotate_left
 ·simp -implicitDefEqProofs only [Nat.reduceLT,Int.reduceNeg,xq_,hq_,LC,aB,Opn.av,e,a,b,zaN,zaP]
 by_cases d:c.dn o.addr=-1
 ·simp -implicitDefEqProofs only [Nat.reduceLT,Int.reduceNeg,xq_,hq_,LC,aB,Opn.av,e,a,b,d,zaN,zaP,zae]
 by_cases f:o.value=0
 ·simp -implicitDefEqProofs only [Nat.reduceLT,Int.reduceNeg,xq_,hq_,LC,aB,Opn.av,e,a,b,d,f,zak,Bool.true_or]
 by_cases g:o.kind=2
 ·simp -implicitDefEqProofs only [Nat.reduceLT,Int.reduceLE,Int.reduceEq,Int.reduceNeg,xq_,hq_,LC,aB,Opn.av,e,d,f,g,zak,Bool.true_or,Bool.or_true]
 by_cases i:o.kind=3
 ·simp -implicitDefEqProofs only [Nat.reduceLT,Int.reduceLE,Int.reduceEq,Int.reduceNeg,xq_,hq_,LC,aB,Opn.av,e,d,f,i,zak,Bool.or_true]
 ·simp -implicitDefEqProofs only [Nat.reduceLT,Int.reduceNeg,xq_,hq_,LC,aB,Opn.av,e,a,b,d,f,g,i,zak,Bool.or_false,zbZ]
theorem Pm(H:aj)(c:Cfg)(h:c.ok=true)(o:Opn){r ty:Nat}(hr:r < H.next)(hg:H.get r=.blk 0 ty c.av):cl 64 [.agg o.av,.ref r 0 0] H=some (B (!c.right o),H):=by
 refine aY rfl rfl (aqR _ _ _ _) ?_ eH;have e:=λH=> aaV H c h o;have e1:lda 8 (.ref r 0 0) (H.guard.new (.blk 0 119 o.av))=some (.agg (c.av.take 8),_):=fP (off:=0) (n:=8) (by rw [aQ (by rw [yI];exact hr),aoE];exact hg) (zac 8);simp -implicitDefEqProofs only [Nat.reduceLT,xq_,hq_,ai1,aB (lI o),e1,e]
theorem Eh {o:Option Nat}:decide (0<=BU o)=o.isSome:=by
 cases o with
 | none=> rfl
 | some i=> simp [BU]
theorem Yb(H:aj)(c:Cfg)(h:c.ok=true){v:AV}{l:List Opn}(hv:aG H v 3 l.length (l.flatMap Opn.av))(hl:l.length < 1000000000){r ty:Nat}(hr:r < H.next)(hg:H.get r=.blk 0 ty c.av):cl 62 [v,.ref r 0 0] H=some (B (!(decide (l.length<=24) && l.all c.right)),H):=by
 refine aY rfl rfl (aqL _ _ _ _) ?_ eH;have e1:=hv.guard.lnS;have e2:=Pj H.guard (enc:=Opn.av) dD (f:=.fn (.func 64) [] [.ref r 0 0]) hv.guard hl (λo=> !c.right o) (λo _=> by
  rw [xB (by kernel_rfl)];exact Pm H.guard c h o hr hg)
 have e3:cl 63 [v,.fn (.func 64) [] [.ref r 0 0]] H.guard=some (B (l.findIdx? λo=> !c.right o).isSome,H.guard):=by
  refine aO rfl rfl (aqO _ _ _ _ ?_);simp -implicitDefEqProofs only [xq_,ai0,e2,Eh]
 have e4:(l.findIdx? λo=> !c.right o).isSome=!l.all c.right:=by
  rw [List.findIdx?_isSome,List.not_all_eq_any_not]
 by_cases h0:l.length<=24
 ·have h1:¬(24:Int) < l.length:=by omega
  simp -implicitDefEqProofs only [xq_,afD,e1,e3,e4,h0,h1,zaN]
 ·have h1:(24:Int) < l.length:=by omega
  simp -implicitDefEqProofs only [xq_,afD,e1,h0,h1,zaP,zak]
def RH(H:aj)(x:AV)(ps:List (List Opn)):Prop:=
 ∃cells:List AV,aG H x 1 ps.length cells/\∀(i:Nat) v l,cells[i]?=some v->ps[i]?=some l->aG H v 3 l.length (l.flatMap Opn.av)/\(l=[]->v=zN)
theorem RH.ig {H H':aj}{x:AV}{ps:List (List Opn)}(h:RH H x ps)(hn:H.next<=H'.next)(hg:∀r,r < H.next->H'.get r=H.get r):RH H' x ps:=by
 obtain⟨cells,h1,h2⟩:=h;exact⟨cells,h1.ig hn λr _ hr=> hg r hr,λi v l a b=> ⟨(h2 i v l a b).1.ig hn λr _ hr=> hg r hr,(h2 i v l a b).2⟩⟩
theorem yj {n:Nat}{p:Nat->Bool}:∀i,i<=n->(∀j,j < i->p j=false)->(List.range n).findIdx? p=((List.range' i (n - i)).findIdx? p).map (· +i):=by
 intro i hi hf;rw [nK (List.range n) i λj a hj ha=> by
  have:a=j:=by
   rw [zbi (by omega)] at ha
   simpa using ha.symm
  rw [this];exact hf j hj]
 congr 2
 rw [List.range_eq_range',List.drop_range'];simp
theorem Pn(H:aj){x f:AV}{n:Nat}{cells:List AV}(hx:aG H x 1 n cells)(hl:n < 1000000000)(p:Nat->Bool)
  (hp:∀i v,cells[i]?=some v->qI Tryz.prog cl f [v] H=some (B (p i),H)):cl 106 [x,f] H=some (I (BU ((List.range n).findIdx? p)),H):=by
 have e1:=hx.lnS;have hcl:cells.length=n:=by have:=hx.1;omega
 refine aO rfl rfl (ajM _ _ _ _ ?_);have key:∀k i,i+k=n->(∀j,j < i->p j=false)->Bj cl [x,f,I n,I i] H=some (I (BU ((List.range n).findIdx? p)),H):=by
  intro k
  induction k with
  | zero=>
   intro i hi hf;have h1:¬(i:Int) < n:=by omega
   have h2:(List.range n).findIdx? p=none:=by rw [yj i (by omega) hf,show n - i=0 by omega];rfl
   rw [QX];simp -implicitDefEqProofs only [Int.reduceNeg,xq_,h1,h2,BU]
  | succ k ih=>
   intro i hi hf;have h1:(i:Int) < n:=by omega
   have h3:=hx.ix (k:=.i64) (i:=(i:Int)) (by omega) h1;obtain⟨v,hv⟩:∃v,cells[i]?=some v:=⟨_,zab (by omega)⟩
   have h4:=hx.ld (i:=i) (by omega);rw [hv] at h4;have h5:=hp i v hv;rw [zaq] at h3;rw [QX];cases hpa:p i with
   | true=>
    have h2:(List.range n).findIdx? p=some i:=by
     rw [yj i (by omega) hf,show n - i=k+1 by omega,List.range'_succ,List.findIdx?_cons,hpa];simp
    rw [hpa] at h5;simp -implicitDefEqProofs only [Int.reduceNeg,xq_,h1,h2,h3,h4,h5,BU]
   | false=>
    rw [hpa] at h5;have h6:(i:Int)+1=((i+1:Nat):Int):=by omega
    have h7:=wrap_i64 (a:=((i+1:Nat):Int)) (by omega) (by omega);have:=ih (i+1) (by omega) λj hj=> by
     by_cases hji:j=i
     ·rw [hji];exact hpa
     ·exact hf j (by omega)
    simp -implicitDefEqProofs only [Int.reduceNeg,xq_,h1,h3,h4,h5,bf,h6,h7,this]
 have:=key n 0 (by omega) (λj hj=> by omega);simp -implicitDefEqProofs only [xq_,adf,e1];exact this
theorem aed(H:aj)(c:Cfg)(h:c.ok=true){x:AV}{ps:List (List Opn)}(hx:RH H x ps)(hn:ps.length < 1000000000)(hl:∀l∈ps,l.length < 1000000000):cl 36 [.agg c.av,x] H=some (I (if c.pJ ps then 0 else 1),H):=by
 refine aY rfl rfl (apH _ _ _ _) ?_ eH;have hx1:=hx.ig (H':=H.guard.new (.blk 0 39 c.av)) (by rw [nNew,yI];omega) λr hr=> by rw [aQ (by rw [yI];exact hr),aoE]
 obtain⟨cells,x1,x2⟩:=hx1;have hcl:cells.length=ps.length:=by have:=x1.1;omega
 let bad:List Opn->Bool:=λl=> !(decide (l.length<=24) && l.all c.right)
 have e2:=Pn (H.guard.new (.blk 0 39 c.av)) (f:=.fn (.func 62) [] [.ref H.next 0 0]) x1 hn (λi=> bad (ps.getD i [])) (λi v hv=> by
  have hi:i < ps.length:=by rw [<-hcl];exact(zaf.1 hv).1
  have hpi:ps[i]?=some (ps.getD i []):=by simp [List.getD,zab hi]
  rw [xB (by kernel_rfl)];exact Yb _ c h (x2 i v _ hv hpi).1 (hl _ (zas hpi)) (by rw [nNew,yI];omega) (aK (by rw [yI])))
 have e4:((List.range ps.length).findIdx? λi=> bad (ps.getD i [])).isSome=!(ps.all λl=> decide (l.length<=24) && l.all c.right):=by
  rw [List.findIdx?_isSome,List.not_all_eq_any_not,Bool.eq_iff_iff,zce,zce];constructor
  ·rintro⟨i,hi,hb⟩;have hi:i < ps.length:=zaV.1 hi;exact⟨ps.getD i [],zas (i:=i) (by simp [List.getD,zab hi]),hb⟩
  ·rintro⟨l,hm,hb⟩;obtain⟨i,hi,he⟩:=List.getElem_of_mem hm;have hg:ps.getD i []=l:=by simp [List.getD,zab hi,he]
   exact⟨i,zaV.2 hi,by rw [hg];exact hb⟩
 have e3:cl 61 [x,.fn (.func 62) [] [.ref H.next 0 0]] (H.guard.new (.blk 0 39 c.av))=some (B (!(ps.all λl=> decide (l.length<=24) && l.all c.right)),H.guard.new (.blk 0 39 c.av)):=by
  refine aO rfl rfl (aqI _ _ _ _ ?_);simp -implicitDefEqProofs only [xq_,aiZ,e2,Eh,e4]
 have l0:c.av[0]?=some (I c.nodes):=rfl;have e5:=x1.lnS;cases hb:ps.all λl=> decide (l.length<=24) && l.all c.right with
 | false=> simp -implicitDefEqProofs only [Nat.reduceLT,xq_,hq_,aaC,aB (dK c),e3,hb,zak,Cfg.pJ,zaP]
 | true=>
  by_cases hc:(ps.length:Int)=c.nodes
  ·simp -implicitDefEqProofs only [Nat.reduceLT,xq_,hq_,aaC,aB (dK c),e3,e5,hb,l0,zae,Cfg.pJ,hc]
  ·simp -implicitDefEqProofs only [Nat.reduceLT,xq_,hq_,aaC,aB (dK c),e3,e5,hb,l0,zae,zak,Cfg.pJ,zaN,hc]
theorem Jo {c:Cfg}(h:c.ok=true){line:Int}(h0:0<=line)(h1:line < c.lines):c.first line≠[]:=by
 have B:=pR h;unfold Cfg.first
 rw [if_neg (by omega)];intro e;have:=congrArg List.length e;simp only [zaE,List.length_range,zaw] at this;have:=B.words;omega
theorem Po {c:Cfg}(h:c.ok=true){line:Int}(h0:0<=line)(h1:line < c.lines){from_:Nat}(hf:(from_:Int)=min (line*c.words) c.init.length):
  setAt (List.replicate c.words.toNat zI) 0 (((c.init.map I).drop from_).take (min (c.init.length - from_) c.words.toNat))=(c.first line).map I:=by
 have B:=pR h;have hw:=B.words;have hlw:0<=line*c.words:=zcg h0 (by omega);unfold Cfg.first
 rw [if_neg (by omega)]
 apply zbb
 intro i;have hlen:(((c.init.map I).drop from_).take (min (c.init.length - from_) c.words.toNat)).length=min (c.init.length - from_) c.words.toNat:=by
  rw [zat,zaR,zaE];omega
 rw [kW (by rw [hlen,zb0];omega),hlen];rcases zaQ i c.words.toNat with hi | hi
 ·simp only [zaD,zbi hi,zah];by_cases hc:i < c.init.length - from_
  ·rw [if_pos (by omega),Nat.sub_zero,zaA,if_pos (by omega),zaF,zaD];have e:from_=(line*c.words).toNat:=by omega
   rw [e];have hlt:(line*c.words).toNat+i < c.init.length:=by omega
   simp [List.getD,zab hlt]
  ·rw [if_neg (by omega),zbs,if_pos hi];have hge:c.init.length<=(line*c.words).toNat+i:=by omega
   simp [List.getD,zaG hge]
 ·rw [if_neg (by omega),zaG (by simp;omega),zaG (by simp;omega)]
theorem aaW(H:aj)(c:Cfg)(h:c.ok=true)(line:Int)(h0:0<=line)(h1:line < c.lines):cl 157 [.agg c.av,I line] H=some (dat (c.first line),H):=by
 have B:=pR h;have hw:=B.words;have hlw:0<=line*c.words:=zcg h0 (by omega);have aul:line*c.words<=8*4:=zbV (by have:=B.lines;omega) hw.2 (by omega) (by omega);have w:=wrap_i64 (a:=line*c.words) (by omega) (by omega);have l1:c.av[1]?=some (I c.lines):=rfl;have l2:c.av[2]?=some (I c.words):=rfl;have l7:c.av[7]?=some (dat c.init):=rfl;let H1:=(H.guard.new (.blk 0 39 c.av)).new (.blk 0 3 (bI [zI] c.words.toNat));have e1:=VW (e:=3) (m:=1) (by_:=8) (z:=[zI]) (n:=c.words) (H:=H.guard.new (.blk 0 39 c.av)) rfl rfl (by omega) (by omega) (by decide);have e2:=λH=> (jr H c.init).lnS;have hm:0<=min (line*c.words) (c.init.length:Int):=by omega
 obtain⟨y,e3,e4⟩:=(jr H1 c.init).from_ (k:=.i64) (lo:=min (line*c.words) (c.init.length:Int)) hm (by omega);obtain⟨H2,e5,e6,e7,e8,e9⟩:=ah8 (H:=H1) (r:=H.next+1) (g:=0) (off:=0) (m:=1) (len:=c.words.toNat) (cap:=c.words.toNat) (ex:=true) (ty:=3) (aK (by rw [nNew,yI])) (by show H.next<=_;omega) (by rw [jI];simp) e4 (xu (uT _) _);refine fZ rfl rfl (alq _ _ _ _ (r:=(.sl (H.next+1) 0 0 1 c.words.toNat c.words.toNat true,H2)) ?_) ?_
 ·have n0:¬line < 0:=by omega
  have n1:¬c.lines<=line:=by omega
  simp only [nNew,yI] at e1;simp -implicitDefEqProofs only [Nat.reduceLT,xq_,hq_,adS,aB (dK c),n0,n1,l1,l2,l7,e1,e2,gV,w,Vx,e3,e5,H1]
 ·rw [ug (Jo h h0 h1)];have hf:=Po h h0 h1 (from_:=(min (line*c.words) (c.init.length:Int)).toNat) (by omega);rw [jI,zbE,zbE,hf] at e6;have hlen:(c.first line).length=c.words.toNat:=by
   unfold Cfg.first
   rw [if_neg (by omega)];simp
  rw [hlen];refine jC (by omega) (cells:=(c.first line).map I) ?_ (fO _ λx hx=> uU _ x hx _ _);simp only [aZ,e6];rw [if_pos ⟨trivial,by simp [hlen]⟩,zaO,zar (by simp [hlen])]
theorem aaX(c:Cfg)(rows:Rows)(n:Int)(r:Row):(AB c rows).set 8 (.map .i64 (GZ (VX (λr=> .agg r.av) rows) n (.agg r.av)))=AB c (mQ rows n r):=by
 have:=DF (f:=λr:Row=> AV.agg r.av) rows n r;rw [this];rfl
theorem Yc(H:aj)(hb:H.base<=H.next)(c:Cfg)(h:c.ok=true)(me:Int):∃H' q,cl 109 [.agg c.av,I me] H=some (.ref q 0 0,H')/\Made H H' (upd nil0 q (AB c (c.iO me c.lines.toNat))):=by
 have B:=pR h;let Hb:=H.new (.blk 0 39 c.av);let Hm:=Hb.new (.map .i64 []);let H0:=Hm.new (.blk 0 259 (c.av++[.mp (H.next+1)]));have M0:Made Hb H0 (upd nil0 (H.next+2) (AB c [])):=by
  refine LW (H':=Hm) (by simp only [Hb,nNew];omega) (by simp only [Hm,Hb,nNew]) rfl (λr hr=> aQ hr) (by rw [za9,dK];rfl) (by simp [AB]) (λr=> if r=H.next+1 then some 8 else none) λi cc x hc hx=> ?_;by_cases hi:i < 8
  ·left;simp only [AB] at hc;rw [zaK (by simp [Cfg.av];omega),zaD] at hc;rw [zaK (by simp [Cfg.av];omega)] at hx;rw [hx] at hc;exact(za2 hc).symm
  ·have:i=8:=by
    have:=(zaf.1 hx).1;simp [Cfg.av] at this;omega
   subst this;right;right;cases hc;cases hx;exact⟨H.next+1,.i64,rfl,by simp only [Hb,nNew];omega,by omega,by simp,aK (by simp only [Hb,nNew]),.inl rfl⟩
 have key:∀k i,i+k=c.lines.toNat->∀Hi,Made Hb Hi (upd nil0 (H.next+2) (AB c (c.iO me i)))->∃H',Bo cl [I me,.ref H.next 0 0,.ref (H.next+2) 0 0,I c.lines,I i] Hi=some (.ref (H.next+2) 0 0,H')/\Made Hb H' (upd nil0 (H.next+2) (AB c (c.iO me c.lines.toNat))):=by
  intro k
  induction k with
  | zero=>
   intro i hi Hi M;have h1:¬(i:Int) < c.lines:=by omega
   rw [QZ];refine⟨Hi,?_,by rw [show c.lines.toNat=i by omega];exact M⟩;simp -implicitDefEqProofs only [Int.reduceNeg,xq_,h1]
  | succ k ih=>
   intro i hi Hi M;have h1:(i:Int) < c.lines:=by omega
   have hbx:Hi.get H.next=.blk 0 39 c.av:=by rw [M.same _ (by simp only [Hb,nNew];omega)];exact aK rfl
   have hbn:H.next < Hi.next:=zax (by simp only [Hb,nNew];omega) M.next
   have e1:lda 8 (.ref H.next 0 0) Hi=some (.agg c.av,Hi):=(fP (off:=0) (n:=8) hbx (zac 8)).trans rfl;have e2:=Ee Hi c h i;have h6:(i:Int)+1=((i+1:Nat):Int):=by omega
   have h7:=wrap_i64 (a:=((i+1:Nat):Int)) (by have:=B.lines;omega) (by have:=B.lines;omega);have tail:∀Hj,Made Hb Hj (upd nil0 (H.next+2) (AB c (c.iO me (i+1))))->∃H',Bq cl (I me) (.ref H.next 0 0) (.ref (H.next+2) 0 0) (I c.lines) (I i) Hj=some (.ref (H.next+2) 0 0,H')/\Made Hb H' (upd nil0 (H.next+2) (AB c (c.iO me c.lines.toNat))):=by
    intro Hj Mj;obtain⟨H',a1,a2⟩:=ih (i+1) (by omega) Hj Mj;refine⟨H',?_,a2⟩;simp -implicitDefEqProofs only [xq_,Bq,bf,h6,h7,a1]
   rw [QZ];by_cases hm:c.iw i=me
   ·obtain⟨r,f1,f2,f3,f4⟩:=M.good.map (q:=H.next+2) upd_same (i:=8) rfl;obtain⟨H',g1,g2,g3,g4⟩:=(f4 (by rw [M.base];simp only [Hb,bNew,nNew];omega)).1 i (.agg (Row.av ⟨0,-1,c.first i⟩));simp only [Row.av] at g1;have e3:=aaW Hi.guard c h i (by omega) h1;have Mj:Made Hb H' (upd nil0 (H.next+2) (AB c (c.iO me (i+1)))):=by
     refine(M.step g2 g3).as ?_;rw [mO,aaX];simp only [Cfg.iO,hm,if_true]
    obtain⟨H2,t1,t2⟩:=tail H' Mj;refine⟨H2,?_,t2⟩;simp -implicitDefEqProofs only [Int.reduceNeg,Nat.reduceAdd,setAt,xq_,hq_,h1,e1,e2,hm,f1,e3,ahS,gK,dM,acE,g1,t1]
   ·have hm':¬(c.iw i=me):=hm;obtain⟨H2,t1,t2⟩:=tail Hi (M.as (by simp only [Cfg.iO,hm,if_false]));refine⟨H2,?_,t2⟩;simp -implicitDefEqProofs only [Int.reduceNeg,xq_,h1,e1,e2,hm,t1]
 obtain⟨H',a1,a2⟩:=key c.lines.toNat 0 (by omega) H0 M0;refine⟨H',H.next+2,aO rfl rfl (ajQ _ _ _ _ (r:=(_,H')) ?_),a2.vU⟩;have l1:c.av[1]?=some (I c.lines):=rfl;have e:∀r,bd 259 [(0,.agg c.av),(1,.mp r)]=some (.agg (c.av++[.mp r])):=λr=> by
  simp -implicitDefEqProofs only [xq_,ahR,gK,dM,acD,Cfg.av,dG];rfl
 have e2:∀r,(c.av++[AV.mp r]).all AV.aH=true:=λr=> by rw [za9,dK];rfl
 simp -implicitDefEqProofs only [Nat.reduceLT,xq_,hq_,adl,aB (dK c),e,aB (e2 _),l1];exact a1
theorem iV {b n:Nat}{H1:aj}{g g':Store}{q:Nat}{cs:List Cell}(G:Good b H1 g)(h:g q=some cs)(hn:H1.next=n):cup n g g' q=some cs:=by
 unfold cup;rw [if_pos (by have:=G.lt h;omega),h]
theorem jV {b n:Nat}{H1:aj}{g g':Store}{q:Nat}{cs:List Cell}(G:Good b H1 g')(h:g' q=some cs)(hn:n<=b):cup n g g' q=some cs:=by
 unfold cup;rw [if_neg (by have:=G.le h;omega),h]
theorem drawn {H H':aj}{x:Option (AV × aj)}{v:AV}{g:Store}(e:x=some (v,H'))(M:Made H.guard H' g):∃H2,unG H x=some (v,H2)/\Made H H2 g:=
 ⟨_,by rw [e];rfl,M.aaP⟩
theorem iL {H:aj}{r:Nat}{ty:TypeId}{c:Cfg}(h:H.get r=.blk 0 ty c.av):lda 8 (.ref r 0 0) H=some (.agg c.av,H):=(fP (off:=0) (n:=8) h (zac 8)).trans rfl
theorem aG.Yd {P:Program}{t e:TypeId}(h:P.underlying t=some (.slice e)){H:aj}{x:AV}{m n:Nat}{cells:List AV}(hx:aG H x m n cells)(hn:n≠0):nG P .eql t x (.s (.slice none 0 0))=some (B false):=by
 obtain⟨_,hx⟩:=hx;cases x with
 | sl r g o m n c ex=> exact yU h
 | vs n m l=> exact ql h
 | s v=>
  cases v with
  | slice a b c=>
   cases a with
   | none=> exact absurd hx.2.2 hn
   | some a=> exact hx.elim
  | _=> exact hx.elim
 | _=> exact hx.elim
def AL(d t:Nat)(c:Cfg)(me:Int):List Cell:=[.av (.ref d 0 0),.av (.ref t 0 0)]++c.av.map .av++[.av (I me)]
def lC(g:Store)(q d t:Nat)(c:Cfg)(me:Int)(h:Home):Prop:=g q=some (AL d t c me)/\g d=some (AB c h.rows)/\g t=some (gu h.turns)
theorem LZ {xs:List AV}{cs:List Cell}(h:cs=xs.map .av):∀(i:Nat) (c:Cell) (x:AV),cs[i]?=some c->xs[i]?=some x->c=.av x∨(x=zN/\∃m,c=.seq m []):=by
 subst h;intro i c x hc hx;rw [zaD,hx] at hc;exact .inl (za2 hc).symm
theorem af0(H:aj)(hb:H.base<=H.next)(c:Cfg)(h:c.ok=true)(me:Int):∃H' q d t g',cl 70 [.agg c.av,I me] H=some (.ref q 0 0,H')/\Made H H' g'/\lC g' q d t c me (.new c me):=by
 let H1:=H.new (.blk 0 39 c.av);obtain⟨H2',d,e1,M1⟩:=Yc H1.guard (zac _) c h me;obtain⟨H2,e1,M1⟩:=drawn e1 M1;obtain⟨H3',t,e2,M2⟩:=aaS H2.guard;obtain⟨H3,e2,M2⟩:=drawn e2 M2;let xs:List AV:=[.ref d 0 0,.ref t 0 0]++c.av++[I me]
 have hall:xs.all AV.aH=true:=by
  simp only [xs,za9,dK];rfl
 have M3:Made H3 (H3.new (.blk 0 202 xs)) (upd nil0 H3.next (AL d t c me)):=jK hall (by simp [xs,AL]) (LZ (by simp [xs,AL]));have g1:H1.get H.next=.blk 0 39 c.av:=aK rfl
 have l1:H.next < H1.next:=by simp only [H1,nNew];omega
 have b1:=iL g1;have g2:H2.get H.next=.blk 0 39 c.av:=by rw [M1.same _ l1,g1]
 have g3:H3.get H.next=.blk 0 39 c.av:=by rw [M2.same _ (zax l1 M1.next),g2]
 have b3:=iL g3;refine⟨_,H3.next,d,t,_,aO rfl rfl (aq9 _ _ _ _ (r:=(_,H3.new (.blk 0 202 xs))) ?_),((M1.trans M2).trans M3).vU,?_⟩
 ·have e:bd 202 [(0,.ref d 0 0),(1,.ref t 0 0),(2,.agg c.av),(3,I me)]=some (.agg xs):=by
   simp -implicitDefEqProofs only [xq_,ahN,gK,dM,acz,Cfg.av,dG];rfl
  simp only [H1] at e1 b1;simp -implicitDefEqProofs only [Nat.reduceLT,xq_,hq_,ai6,aB (dK c),b1,e1,e2,b3,e,aB hall]
 ·refine⟨jV M3.good upd_same (zac _),iV (M1.good.merge M2) (iV M1.good upd_same rfl) rfl,iV (M1.good.merge M2) (jV M2.good upd_same (zac _)) rfl⟩
theorem af2(H:aj)(l:List Opn)(hl:l.length < 1000000000){x:AV}(hx:aG H x 3 l.length (l.flatMap Opn.av))(h0:l=[]->x=zN):∃H' q,cl 69 [x] H=some (.ref q 0 0,H')/\Made H H' (upd nil0 q (oG ⟨l,[],false⟩)):=by
 have e1:=aaT H l hl hx h0 λhn=> hx.Yd Tryz.underlying100 λe=> hn (zao e);have hc:(vsl 3 Opn.av l).cells=[vsl 3 Opn.av l]:=Dx;refine⟨_,H.next,aO rfl rfl (aq6 _ _ _ (r:=(_,H.new (.blk 0 115 [vsl 3 Opn.av l,zN,zB]))) ?_),jK ?_ rfl λi c x hc hx=> ?_⟩
 ·simp -implicitDefEqProofs only [Nat.reduceLT,Nat.reduceAdd,setAt,xq_,hq_,ai5,e1,ahE,gK,dM,acp,aB]
 ·simp -implicitDefEqProofs only [hq_]
 ·match i with
  | 0=> left;cases hc;cases hx;rfl
  | 1=> right;cases hc;cases hx;exact⟨rfl,1,rfl⟩
  | 2=> left;cases hc;cases hx;rfl
  | i+3=> cases hc
theorem Made.add {H H1 H2:aj}{g:Store}{q:Nat}{cs:List Cell}(M:Made H H1 g)(M':Made H1 H2 (upd nil0 q cs)):Made H H2 (upd g q cs):=
 (M.trans M').as ((M.good.ana (M'.lt upd_same).1).symm)
def Jp(a:Nat->Nat)(c:Cfg)(me:Int)(d:bD)(num:Int):List AV:=[.ref (a 1) 0 0,.ref (a 2) 0 0]++c.av++[I me,.ref (a 3) 0 0]++d.av++[I num]
def uj(a:Nat->Nat)(c:Cfg)(me:Int)(d:bD)(num:Int):List Cell:=(Jp a c me d num).map .av
def qx(g:Store)(a:Nat->Nat)(c:Cfg)(me:Int)(n:Node):Prop:=
 g (a 0)=some (uj a c me n.deal n.num)/\g (a 1)=some (bg n.cache)/\g (a 2)=some (oG n.proc)/\lC g (a 3) (a 4) (a 5) c me n.home
theorem L6 {a:Nat->Nat}{c:Cfg}{me:Int}{d:bD}{num:Int}:(Jp a c me d num).all AV.aH=true:=by
 simp only [Jp,za9,dK,aP];rfl
def six(x0 x1 x2 x3 x4 x5:Nat):Nat->Nat
 | 0=> x0
 | 1=> x1
 | 2=> x2
 | 3=> x3
 | 4=> x4
 | _=> x5
theorem af4(H:aj)(c:Cfg)(h:c.ok=true)(me:Int)(l:List Opn)(hl:l.length < 1000000000){x:AV}(hx:aG H x 3 l.length (l.flatMap Opn.av))(h0:l=[]->x=zN):
  ∃H' a g',cl 39 [.agg c.av,I me,x] H=some (.ref (a 0) 0 0,H')/\Made H H' g'/\qx g' a c me (.new c me l):=by
 have Bd:=pR h;let H1:=H.new (.blk 0 39 c.av);obtain⟨H2',q1,e1,M1⟩:=aaQ H1.guard c.sets c.ways Bd.sets.1 Bd.ways.1;obtain⟨H2,e1,M1⟩:=drawn e1 M1;have hx2:aG H2 x 3 l.length (l.flatMap Opn.av):=(hx.new (.blk 0 39 c.av)).ig M1.next λr _ hr=> M1.same r hr
 obtain⟨H3',q2,e2,M2⟩:=af2 H2.guard l hl hx2.guard h0;obtain⟨H3,e2,M2⟩:=drawn e2 M2;obtain⟨H4',q3,q4,q5,g4,e3,M3,I3⟩:=af0 H3.guard (zac _) c h me;obtain⟨H4,e3,M3⟩:=drawn e3 M3;let a:=six H4.next q1 q2 q3 q4 q5
 let xs:=Jp a c me .zero 0;have M4:Made H4 (H4.new (.blk 0 76 xs)) (upd nil0 H4.next (uj a c me .zero 0)):=jK L6 (by simp [xs,uj]) (LZ rfl);have g1:H1.get H.next=.blk 0 39 c.av:=aK rfl
 have l1:H.next < H1.next:=by simp only [H1,nNew];omega
 have l3:H.next < H3.next:=zax l1 (zaz M1.next M2.next)
 have b1:=iL g1;have g2:H2.get H.next=.blk 0 39 c.av:=by rw [M1.same _ l1,g1]
 have g3:H3.get H.next=.blk 0 39 c.av:=by rw [M2.same _ (zax l1 M1.next),g2]
 have b3:=iL g3;have G12:=M1.good.merge M2;have anb:=G12.merge M3;refine⟨_,a,_,aO rfl rfl (apO _ _ _ _ _ (r:=(_,H4.new (.blk 0 76 xs))) ?_),(((M1.trans M2).trans M3).trans M4).vU,?_⟩
 ·have e:bd 76 [(0,.ref q1 0 0),(1,.ref q2 0 0),(2,.agg c.av),(3,I me),(4,.agg [.ref q3 0 0])]=some (.agg xs):=by
   simp -implicitDefEqProofs only [xq_,aoB,gK,dM,ahy,Cfg.av,dG];rfl
  have l3:c.av[3]?=some (I c.sets):=rfl;have l4:c.av[4]?=some (I c.ways):=rfl;have bx:∀r,(AV.ref r 0 0).cells=[.ref r 0 0]:=λ_=> rfl;have eb:∀r,bd 72 [(0,.ref r 0 0)]=some (.agg [.ref r 0 0]):=λr=> by
   simp -implicitDefEqProofs only [xq_,aoA,gK,dM,ahw];rfl
  simp only [H1] at e1 b1;simp -implicitDefEqProofs only [Nat.reduceLT,xq_,hq_,aiP,aB (dK c),l3,l4,e1,e2,e3,b3,eb,e,aB L6,xs];rfl
 ·refine⟨jV M4.good upd_same (zac _),iV anb (iV G12 (iV M1.good upd_same rfl) rfl) rfl,iV anb (iV G12 (jV M2.good upd_same (zac _)) rfl) rfl,?_⟩;obtain⟨i1,i2,i3⟩:=I3;exact⟨iV anb (jV M3.good i1 (zac _)) rfl,iV anb (jV M3.good i2 (zac _)) rfl,iV anb (jV M3.good i3 (zac _)) rfl⟩
def lN(a:Nat->Nat):List AV:=[.ref (a 0) 0 0,.ref (a 1) 0 0,.ref (a 2) 0 0,.ref (a 3) 0 0]
def aaY(P:Nat->Nat->Nat)(n:Nat):List Cell:=[.seq 4 ((List.range n).flatMap λi=> lN (P i))]
def rZ(g:Store)(a:Nat->Nat)(c:Cfg)(p:Port):Prop:=
 g (a 0)=some (kZ p.rq c.out)/\g (a 1)=some (kZ p.rin c.inn)/\g (a 2)=some (kZ p.an c.out)/\g (a 3)=some (kZ p.ain 1)
def Pq(P:Nat->Nat->Nat)(n:Nat):Prop:=∀i j s t,i < n->j < n->s < 4->t < 4->P i s=P j t->i=j/\s=t
def fH(g:Store)(f:Nat)(P:Nat->Nat->Nat)(c:Cfg)(fab:Fab):Prop:=
 g f=some (aaY P fab.l.length)/\(∀i p,fab.l[i]?=some p->rZ g (P i) c p)/\fab.out=c.out/\fab.inn=c.inn
def four(x0 x1 x2 x3:Nat):Nat->Nat
 | 0=> x0
 | 1=> x1
 | 2=> x2
 | _=> x3
theorem Gt {P P':Nat->Nat->Nat}:∀n,(∀i,i < n->P' i=P i)->(List.range n).flatMap (λi=> lN (P' i))=(List.range n).flatMap λi=> lN (P i)
 | 0,_=> rfl
 | n+1,h=> by
  rw [zck,zbz,zbz,Gt n λi hi=> h i (by omega)];simp only [zaI,List.flatMap_nil,h n (by omega)]
theorem lY(P:Nat->Nat->Nat)(n:Nat):((List.range n).flatMap λi=> lN (P i)).length=n*4:=by
 rw [bn (m:=4) (λ_=> rfl),List.length_range]
theorem rZ.ext {g g':Store}{a:Nat->Nat}{c:Cfg}{p:Port}(h:rZ g a c p)(hg:∀s,s < 4->g' (a s)=g (a s)):rZ g' a c p:=by
 obtain⟨h0,h1,h2,h3⟩:=h;exact⟨by rw [hg 0 (by omega),h0],by rw [hg 1 (by omega),h1],by rw [hg 2 (by omega),h2],by rw [hg 3 (by omega),h3]⟩
theorem rZ.some {g:Store}{a:Nat->Nat}{c:Cfg}{p:Port}(h:rZ g a c p){s:Nat}(hs:s < 4):∃l r,g (a s)=some (kZ l r):=by
 obtain⟨h0,h1,h2,h3⟩:=h
 match s,hs with
 | 0,_=> exact⟨_,_,h0⟩
 | 1,_=> exact⟨_,_,h1⟩
 | 2,_=> exact⟨_,_,h2⟩
 | 3,_=> exact⟨_,_,h3⟩
theorem Ye(H:aj)(hb:H.base<=H.next)(c:Cfg)(h:c.ok=true):∃H' f P g',cl 37 [.agg c.av] H=some (.ref f 0 0,H')/\Made H H' g'/\fH g' f P c (.new c)/\Pq P c.nodes.toNat:=by
 have Bd:=pR h;let H1:=H.new (.blk 0 39 c.av);let H2:=H1.new (.blk 0 135 [zN]);let f:=H.next+1
 have M0:Made H1 H2 (upd nil0 f (aaY (λ_ _=> 0) 0)):=jK rfl rfl λi c x hc hx=> by
  match i with
  | 0=> right;cases hc;cases hx;exact⟨rfl,4,rfl⟩
  | i+1=> cases hc
 have l0:c.av[0]?=some (I c.nodes):=rfl;have l5:c.av[5]?=some (I c.out):=rfl;have l6:c.av[6]?=some (I c.inn):=rfl;have key:∀k i,i+k=c.nodes.toNat->∀Hi gi P,Made H1 Hi gi->gi f=some (aaY P i)->(∀j,j < i->rZ gi (P j) c .zero)->Pq P i->
   ∃H' g' P',I4 cl [.ref H.next 0 0,.ref f 0 0,I c.nodes,I i] Hi=some (.ref f 0 0,H')/\Made H1 H' g'/\g' f=some (aaY P' c.nodes.toNat)/\(∀j,j < c.nodes.toNat->rZ g' (P' j) c .zero)/\Pq P' c.nodes.toNat:=by
  intro k
  induction k with
  | zero=>
   intro i hi Hi gi P M hf hp hj;have h1:¬(i:Int) < c.nodes:=by omega
   have hi':c.nodes.toNat=i:=by omega
   rw [WT];refine⟨Hi,gi,P,?_,M,by rw [hi'];exact hf,by rw [hi'];exact hp,by rw [hi'];exact hj⟩;simp -implicitDefEqProofs only [xq_,h1]
  | succ k ih=>
   intro i hi Hi gi P M hf hp hj;have h1:(i:Int) < c.nodes:=by omega
   have h6:(i:Int)+1=((i+1:Nat):Int):=by omega
   have h7:=wrap_i64 (a:=((i+1:Nat):Int)) (by have:=Bd.nodes;omega) (by have:=Bd.nodes;omega);have lt1:H.next < H1.next:=by simp only [H1,nNew];omega
   have bx:∀H':aj,(∀r,r < H1.next->H'.get r=H1.get r)->H'.get H.next=.blk 0 39 c.av:=λH' hs=> by rw [hs _ lt1];exact aK rfl
   have ld5:∀H':aj,(∀r,r < H1.next->H'.get r=H1.get r)->ld (.ref H.next 0 5) H'=some (I c.out,H'):=λH' hs=> by rw [dJ (bx H' hs),l5];rfl
   have ld6:∀H':aj,(∀r,r < H1.next->H'.get r=H1.get r)->ld (.ref H.next 0 6) H'=some (I c.inn,H'):=λH' hs=> by rw [dJ (bx H' hs),l6];rfl
   obtain⟨x,hx,cx⟩:=M.good.seq hf (i:=0) rfl;obtain⟨Ha',q1,a1,Ma⟩:=X9 Hi.guard c.out (by have:=Bd.out;omega);obtain⟨Ha,a1,Ma⟩:=drawn a1 Ma;have Na:=M.add Ma;obtain⟨Hb',q2,a2,Mb⟩:=RD Ha.guard c.inn (by have:=Bd.inn;omega);obtain⟨Hb,a2,Mb⟩:=drawn a2 Mb;have Nb:=Na.add Mb;obtain⟨Hc',q3,a3,Mc⟩:=X9 Hb.guard c.out (by have:=Bd.out;omega);obtain⟨Hc,a3,Mc⟩:=drawn a3 Mc;have Nc:=Nb.add Mc;obtain⟨Hd',q4,a4,Md⟩:=RD Hc.guard 1 (by omega);obtain⟨Hd,a4,Md⟩:=drawn a4 Md;have Nd:=Nc.add Md;have o1:=Ma.lt upd_same;have o2:=Mb.lt upd_same;have o3:=Mc.lt upd_same;have o4:=Md.lt upd_same;have hfl:=M.good.lt hf;have cd:Cur H1.next Hd f 0 x 4 _:=(((cx.ext Ma.next Ma.same).ext Mb.next Mb.same).ext Mc.next Mc.same).ext Md.next Md.same
   let a:=four q1 q2 q3 q4;let o:dV:=.blk 0 132 (lN a);let g4:=upd (upd (upd (upd gi q1 (kZ [] c.out)) q2 (kZ [] c.inn)) q3 (kZ [] c.out)) q4 (kZ [] 1);have low:∀q,q < Hi.next->g4 q=gi q:=λq hq=> by
    simp only [g4];rw [upd_ne (by omega),upd_ne (by omega),upd_ne (by omega),upd_ne (by omega)]
   have hf4:g4 f=some (aaY P i):=by rw [low f hfl,hf]
   obtain⟨x',He,Hf,t1,t2,t3,t4⟩:=(Nd.good.new o).append (e:=132) (by_:=32) (by rw [bNew,Nd.base];simp only [H1,bNew,nNew];omega) hf4 (i:=0) rfl (by decide) (lY P i) (cd.new o) (jE (ex:=true) (n:=1) (m:=4) (l:=lN a) rfl) rfl (by have:=Bd.nodes;unfold most;omega) (by have:=Bd.nodes;unfold most;omega);let P':Nat->Nat->Nat:=λj=> if j=i then a else P j
   have hP:∀j,j < i->P' j=P j:=λj hj=> by simp only [P'];rw [if_neg (by omega)]
   have hPi:P' i=a:=by simp only [P',if_true]
   have Mf:Made H1 Hf (upd g4 f (aaY P' (i+1))):=by
    refine((Nd.new o).step t3 t4).as ?_
    congr 1
    simp only [aaY,List.set_cons_zero];rw [zck,zbz,Gt i hP,zaI,List.flatMap_nil,zbf,hPi]
   have hq:∀s,s < 4->Hi.next<=a s:=λs hs=> by
    match s,hs with
    | 0,_=> exact o1.1
    | 1,_=> exact zaz Ma.next o2.1
    | 2,_=> exact zaz Ma.next (zaz Mb.next o3.1)
    | 3,_=> exact zaz Ma.next (zaz Mb.next (zaz Mc.next o4.1))
   have hpl:∀j,j < i->∀s,s < 4->P j s < Hi.next:=λj hji s hs=> by
    obtain⟨l,r,hg⟩:=(hp j hji).some hs;exact M.good.lt hg
   obtain⟨H',g',P'',r1,r2⟩:=ih (i+1) (by omega) Hf _ P' Mf upd_same (λj hj1=> by
    by_cases hji:j=i
    ·subst hji;rw [hPi];have h4:∀s,s < 4->a s≠f:=λs hs=> by have:=hq s hs;omega
     refine rZ.ext (g:=g4) ⟨?_,?_,?_,?_⟩ λs hs=> upd_ne (h4 s hs)
     ·show g4 q1=_;simp only [g4];rw [upd_ne (by omega),upd_ne (by omega),upd_ne (by omega),upd_same];rfl
     ·show g4 q2=_;simp only [g4];rw [upd_ne (by omega),upd_ne (by omega),upd_same];rfl
     ·show g4 q3=_;simp only [g4];rw [upd_ne (by omega),upd_same];rfl
     ·show g4 q4=_;simp only [g4];rw [upd_same];rfl
    ·rw [hP j (by omega)];refine(hp j (by omega)).ext λs hs=> ?_;have hlt:=hpl j (by omega) s hs;obtain⟨l,r,hg⟩:=(hp j (by omega)).some hs;have:P j s≠f:=λe=> by rw [e,hf] at hg;cases hg
     rw [upd_ne this,low _ hlt]) (λj k s t hj1 hk1 hs ht e=> by
    by_cases hji:j=i
    ·by_cases hki:k=i
     ·subst hji;subst hki;refine⟨rfl,?_⟩;rw [hPi] at e
      match s,hs,t,ht with
      | 0,_,0,_ | 1,_,1,_ | 2,_,2,_ | 3,_,3,_=> rfl
      | 0,_,1,_ | 0,_,2,_ | 0,_,3,_ | 1,_,0,_ | 1,_,2,_ | 1,_,3,_ | 2,_,0,_ | 2,_,1,_ | 2,_,3,_ | 3,_,0,_ | 3,_,1,_ | 3,_,2,_=> simp only [a,four] at e;omega
     ·subst hji;rw [hPi,hP k (by omega)] at e;have:=hq s hs;have:=hpl k (by omega) t ht;omega
    ·by_cases hki:k=i
     ·subst hki;rw [hPi,hP j (by omega)] at e;have:=hq t ht;have:=hpl j (by omega) s hs;omega
     ·rw [hP j (by omega),hP k (by omega)] at e;exact hj j k s t (by omega) (by omega) hs ht e)
   refine⟨H',g',P'',?_,r2⟩;rw [WT];have s1:=ld5 Hi M.same;have s2:=ld6 Ha Na.same;have s3:=ld5 Hb Nb.same;have ep:∀r r',bd 90 [(0,.ref r 0 0),(1,.ref r' 0 0)]=some (.agg [.ref r 0 0,.ref r' 0 0]):=λr r'=> by
    simp -implicitDefEqProofs only [xq_,ahA,gK,dM,ahz];rfl
   have eq:∀r r' r2 r3,bd 132 [(0,.agg [.ref r 0 0,.ref r' 0 0]),(1,.agg [.ref r2 0 0,.ref r3 0 0])]=some (.agg [.ref r 0 0,.ref r' 0 0,.ref r2 0 0,.ref r3 0 0]):=λr r' r2 r3=> by
    simp -implicitDefEqProofs only [xq_,ahG,gK,dM,acs];rfl
   have eb:=jD (e:=132) (m:=4) (z:=[zP,zP,zP,zP]) (v:=.agg [.ref q1 0 0,.ref q2 0 0,.ref q3 0 0,.ref q4 0 0]) (H:=Hd) rfl rfl rfl;simp only [dG] at eb;simp only [o,a,lN,four,f] at t1 t2 r1 hx;simp -implicitDefEqProofs only [Nat.reduceLeDiff,xq_,hq_,h1,f,hx,s1,s2,s3,a1,a2,a3,a4,ep,eq,ahr,zbc,eb,t1,t2,bf,h6,h7,r1]
 obtain⟨H',g',P,r1,r2,r3,r4,r5⟩:=key c.nodes.toNat 0 (by omega) H2 _ _ M0 upd_same (λj hj=> by omega) (λi j s t hi=> by omega);refine⟨H',f,P,g',aO rfl rfl (apI _ _ _ (r:=(_,H')) ?_),r2.vU,⟨?_,?_,rfl,rfl⟩,r5⟩
 ·have e0:bd 135 []=some (.agg [zN]):=by
   simp -implicitDefEqProofs only [xq_,ahI,gK,dM]
  have a0:([zN]:List AV).all AV.aH=true:=rfl;simp -implicitDefEqProofs only [Nat.reduceLT,xq_,hq_,aiN,aB (dK c),e0,aB a0,l0];exact r1
 ·rw [r3];simp only [Fab.new,zb0]
 ·intro i p hp;simp only [Fab.new] at hp;rw [zbs] at hp;split at hp
  ·cases hp;exact r4 i (by omega)
  ·cases hp
structure Adr where
 jY:Nat
 fab:Nat
 trace:Nat
 N:Nat->Nat->Nat
 P:Nat->Nat->Nat
def ER(A:Adr)(c:Cfg):List AV:=[.ref A.fab 0 0,.ref A.trace 0 0]++c.av
def mG(N:Nat->Nat->Nat)(n:Nat):List AV:=(List.range n).map λi=> .ref (N i 0) 0 0
def um(A:Adr)(c:Cfg)(n:Nat):List Cell:=(ER A c).map .av++[.seq 1 (mG A.N n)]
def aoc(N:Nat->Nat->Nat)(n:Nat):Prop:=∀i j s t,i < n->j < n->s < 6->t < 6->N i s=N j t->i=j/\s=t
structure iQ(g:Store)(A:Adr)(m:fJ):Prop where
 jY:g A.jY=some (um A m.c m.nodes.length)
 trace:g A.trace=some (kN m.trace)
 fab:fH g A.fab A.P m.c m.fab
 node:∀(i:Nat) n,m.nodes[i]?=some n->qx g (A.N i) m.c i n
 RI:Pq A.P m.fab.l.length
 aod:aoc A.N m.nodes.length
 tf:A.trace≠A.fab
theorem qx.some {g:Store}{a:Nat->Nat}{c:Cfg}{me:Int}{n:Node}(h:qx g a c me n){s:Nat}(hs:s < 6):∃l,g (a s)=some l:=by
 obtain⟨h0,h1,h2,h3,h4,h5⟩:=h
 match s,hs with
 | 0,_=> exact⟨_,h0⟩
 | 1,_=> exact⟨_,h1⟩
 | 2,_=> exact⟨_,h2⟩
 | 3,_=> exact⟨_,h3⟩
 | 4,_=> exact⟨_,h4⟩
 | 5,_=> exact⟨_,h5⟩
theorem qx.ext {g g':Store}{a:Nat->Nat}{c:Cfg}{me:Int}{n:Node}(h:qx g a c me n)(hg:∀s,s < 6->g' (a s)=g (a s)):qx g' a c me n:=by
 obtain⟨h0,h1,h2,h3,h4,h5⟩:=h;exact⟨by rw [hg 0 (by omega),h0],by rw [hg 1 (by omega),h1],by rw [hg 2 (by omega),h2],by rw [hg 3 (by omega),h3],by rw [hg 4 (by omega),h4],by rw [hg 5 (by omega),h5]⟩
theorem qx.inj {g:Store}{a:Nat->Nat}{c:Cfg}{me:Int}{n:Node}(h:qx g a c me n){s t:Nat}(hs:s < 6)(ht:t < 6)(e:a s=a t):s=t:=by
 obtain⟨h0,h1,h2,h3,h4,h5⟩:=h;have hh:(g (a s)).map List.length=(g (a t)).map List.length:=by rw [e]
 match s,hs,t,ht with
 | 0,_,0,_ | 1,_,1,_ | 2,_,2,_ | 3,_,3,_ | 4,_,4,_ | 5,_,5,_=> rfl
 | 0,_,1,_ | 0,_,2,_ | 0,_,3,_ | 0,_,4,_ | 0,_,5,_ | 1,_,0,_ | 1,_,2,_ | 1,_,3,_ | 1,_,4,_ | 1,_,5,_ | 2,_,0,_ | 2,_,1,_ | 2,_,3,_ | 2,_,4,_ | 2,_,5,_ | 3,_,0,_ | 3,_,1,_ | 3,_,2,_ | 3,_,4,_ | 3,_,5,_ | 4,_,0,_ | 4,_,1,_ | 4,_,2,_ | 4,_,3,_ | 4,_,5,_ | 5,_,0,_ | 5,_,1,_ | 5,_,2,_ | 5,_,3,_ | 5,_,4,_=>
  simp [h0,h1,h2,h3,h4,h5,uj,Jp,Cfg.av,bD.av,bg,oG,AL,AB,gu] at hh
theorem Ei {N N':Nat->Nat->Nat}{n:Nat}(h:∀i,i < n->N' i=N i):mG N' (n+1)=mG N n++[.ref (N' n 0) 0 0]:=by
 unfold mG;rw [zck,zbu]
 congr 1
 refine zby λi hi=> ?_;rw [h i (zaV.1 hi)]
theorem BX {c:Cfg}{ps:List (List Opn)}(h:c.pJ ps=true):(ps.length:Int)=c.nodes/\∀l∈ps,l.length<=24:=by
 simp only [Cfg.pJ,zaj,decide_eq_true_eq,zaX] at h;exact⟨h.2,λl hl=> (h.1 l hl).1⟩
theorem Gu(H:aj)(hb:H.base<=H.next)(c:Cfg)(h:c.ok=true){x:AV}{ps:List (List Opn)}(hx:RH H x ps)(hp:c.pJ ps=true):∃H' A g',cl 16 [.agg c.av,x] H=some (.tup [.ref A.jY 0 0,I 0],H')/\Made H H' g'/\iQ g' A (.new c ps):=by
 have Bd:=pR h;obtain⟨hp1,hp2⟩:=BX hp;have hn:=Bd.nodes;let H1:=H.new (.blk 0 39 c.av);have lt1:H.next < H1.next:=by simp only [H1,nNew];omega
 have g1:H1.get H.next=.blk 0 39 c.av:=aK rfl
 have b1:=iL g1;have e1:=RG H1 c h;have e2:=aed H1 c h (hx.ig (H':=H1) (by omega) λr hr=> aQ hr) (by omega) λl hl=> by have:=hp2 l hl;omega
 rw [hp] at e2;have e3:=jd H1 c.init (by have:=Bd.init;have:=Bd.jy;omega);obtain⟨H2',f,P,gf,e4,M1,F1,J1⟩:=Ye H1.guard (zac _) c h;obtain⟨H2,e4,M1⟩:=drawn e4 M1;obtain⟨H3',t,e5,M2⟩:=aaR H2.guard;obtain⟨H3,e5,M2⟩:=drawn e5 M2;let A0:Adr:=⟨H3.next,f,t,λ_ _=> 0,P⟩
 have bx:∀H':aj,(∀r,r < H1.next->H'.get r=H1.get r)->H'.get H.next=.blk 0 39 c.av:=λH' hs=> by rw [hs _ lt1,g1]
 have M12:=M1.add M2;have b3:=iL (bx H3 M12.same);have b2:=iL (bx H2 M1.same);let xs:=ER A0 c++[zN]
 have hall:xs.all AV.aH=true:=by simp only [xs,ER,za9,dK];rfl
 have M3:Made H3 (H3.new (.blk 0 46 xs)) (upd nil0 H3.next (um A0 c 0)):=by
  refine jK hall (by simp [xs,um]) λi cc y hc hy=> ?_;simp only [um] at hc;by_cases hi:i < (ER A0 c).length
  ·left;rw [zaK (by rw [zaE];exact hi),zaD] at hc;rw [zaK hi] at hy;rw [hy] at hc;exact(za2 hc).symm
  ·right;have hlen:(ER A0 c).length=10:=rfl;have:i=10:=by
    have:=(zaf.1 hy).1;simp only [xs,zan,zal,zaw] at this;omega
   subst this;cases hc;cases hy;exact⟨rfl,1,rfl⟩
 have M0:=M12.add M3;let g0:=upd (upd gf t (kN [])) H3.next (um A0 c 0)
 let K:=H3.next
 have key:∀k i,i+k=ps.length->∀Hi gi N,Made H1 Hi gi->gi K=some (um { A0 with N:=N } c i)->(∀q,q < K->gi q=g0 q)->(∀(j:Nat) l,j < i->ps[j]?=some l->qx gi (N j) c j (.new c j l))->aoc N i->
   ∃H' g' N',IV cl [.ref H.next 0 0,.ref K 0 0,x,I ps.length,I i] Hi=some (.tup [.ref K 0 0,I 0],H')/\Made H1 H' g'/\g' K=some (um { A0 with N:=N' } c ps.length)/\(∀q,q < K->g' q=g0 q)/\(∀(j:Nat) l,j < ps.length->ps[j]?=some l->qx g' (N' j) c j (.new c j l))/\aoc N' ps.length:=by
  intro k
  induction k with
  | zero=>
   intro i hi Hi gi N M hm hl hnd hj;have h1:¬(i:Int) < ps.length:=by omega
   have hi':ps.length=i:=by omega
   rw [WI];refine⟨Hi,gi,N,?_,M,by rw [hi'];exact hm,hl,by rw [hi'];exact hnd,by rw [hi'];exact hj⟩;simp -implicitDefEqProofs only [xq_,h1]
  | succ k ih=>
   intro i hi Hi gi N M hm hlow hnd hj;have h1:(i:Int) < ps.length:=by omega
   have h6:(i:Int)+1=((i+1:Nat):Int):=by omega
   have h7:=wrap_i64 (a:=((i+1:Nat):Int)) (by omega) (by omega);have hxi:=hx.ig (H':=Hi) (zaz (Nat.le_of_lt lt1) M.next) λr hr=> by rw [M.same r (by omega)];exact aQ hr
   obtain⟨cells,x1,x2⟩:=hxi;have hcl:cells.length=ps.length:=by have:=x1.1;omega
   have s1:=x1.ix (k:=.i64) (i:=(i:Int)) (by omega) h1;rw [zaq] at s1;have s2:=x1.ld (i:=i) (by omega);obtain⟨v,hv⟩:∃v,cells[i]?=some v:=⟨_,zab (by omega)⟩
   obtain⟨l,hl⟩:∃l,ps[i]?=some l:=⟨_,zab (by omega)⟩
   rw [hv] at s2;obtain⟨v1,v2⟩:=x2 i v l hv hl;have s4:=iL (bx Hi M.same);obtain⟨y,hy,cy⟩:=M.good.seq hm (i:=10) (m:=1) (l:=mG N i) rfl;obtain⟨Ha',a,ga,a1,Ma,Ia⟩:=af4 Hi.guard c h i l (by have:=hp2 l (zas hl);omega) v1.guard v2;obtain⟨Ha,a1,Ma⟩:=drawn a1 Ma;have Na:=M.trans Ma;let ga':=cup Hi.next gi ga
   have hK:=M.good.lt hm;have aee:∀q,q < Hi.next->ga' q=gi q:=λq hq=> by simp only [ga',cup,hq,if_true]
   have hma:ga' K=some (um { A0 with N:=N } c i):=by rw [aee K hK,hm]
   let o:dV:=.blk 0 64 [.ref (a 0) 0 0];have hnl:(mG N i).length=i*1:=by simp [mG]
   obtain⟨y',He,Hf,t1,t2,t3,t4⟩:=(Na.good.new o).append (e:=64) (by_:=8) (by rw [bNew,Na.base];simp only [H1,bNew,nNew];omega) hma (i:=10) rfl (by decide) hnl ((cy.ext Ma.next Ma.same).new o) (jE (ex:=true) (n:=1) (m:=1) (l:=[.ref (a 0) 0 0]) rfl) rfl (by unfold most;omega) (by unfold most;omega);let N':Nat->Nat->Nat:=λj=> if j=i then a else N j
   have hN:∀j,j < i->N' j=N j:=λj hj=> by simp only [N'];rw [if_neg (by omega)]
   have hNi:N' i=a:=by simp only [N',if_true]
   have Mf:Made H1 Hf (upd ga' K (um { A0 with N:=N' } c (i+1))):=by
    refine((Na.new o).step t3 t4).as ?_
    congr 1
    simp only [um];rw [Ei hN,hNi];rfl
   have hal:∀s,s < 6->Hi.next<=a s/\ga' (a s)=ga (a s):=λs hs=> by
    obtain⟨l,hg⟩:=Ia.some hs;have:=(Ma.lt hg).1;exact⟨this,by simp only [ga',cup];rw [if_neg (by omega)]⟩
   have hNl:∀j,j < i->∀s,s < 6->N j s < Hi.next:=λj hji s hs=> by
    obtain⟨lj,hlj⟩:∃l,ps[j]?=some l:=⟨_,zab (by omega)⟩
    obtain⟨l,hg⟩:=(hnd j lj hji hlj).some hs;exact M.good.lt hg
   obtain⟨H',g',N'',r1,r2⟩:=ih (i+1) (by omega) Hf _ N' Mf upd_same (λq hq=> by
    rw [upd_ne (by omega),aee q (by omega),hlow q hq]) (λj lj hj1 hlj=> by
    by_cases hji:j=i
    ·subst hji;rw [hl] at hlj;cases hlj;rw [hNi];exact Ia.ext λs hs=> by
      obtain⟨h1,h2⟩:=hal s hs;rw [upd_ne (by omega),h2]
    ·rw [hN j (by omega)];refine(hnd j lj (by omega) hlj).ext λs hs=> ?_;have hlt:=hNl j (by omega) s hs;have hne:N j s≠K:=λe=> by
      have I:=hnd j lj (by omega) hlj;obtain⟨l',hg⟩:=I.some hs;obtain⟨h0,h1,h2,h3,h4,h5⟩:=I;have hh:(gi (N j s)).map (λl=> l[10]?)=some (some (.seq 1 (mG N i))):=by rw [e,hm];rfl
      match s,hs with
      | 0,_=> rw [h0] at hh;simp [uj,Jp,Cfg.av,bD.av] at hh
      | 1,_=> rw [h1] at hh;simp [bg] at hh
      | 2,_=> rw [h2] at hh;simp [oG] at hh
      | 3,_=> rw [h3] at hh;simp [AL,Cfg.av] at hh
      | 4,_=> rw [h4] at hh;simp [AB,Cfg.av] at hh
      | 5,_=> rw [h5] at hh;simp [gu] at hh
     rw [upd_ne hne,aee _ hlt]) (λj k s t hj1 hk1 hs ht e=> by
    by_cases hji:j=i
    ·by_cases hki:k=i
     ·subst hji;subst hki;rw [hNi] at e;exact⟨rfl,Ia.inj hs ht e⟩
     ·subst hji;rw [hNi,hN k (by omega)] at e;have:=(hal s hs).1;have:=hNl k (by omega) t ht;omega
    ·by_cases hki:k=i
     ·subst hki;rw [hNi,hN j (by omega)] at e;have:=(hal t ht).1;have:=hNl j (by omega) s hs;omega
     ·rw [hN j (by omega),hN k (by omega)] at e;exact hj j k s t (by omega) (by omega) hs ht e)
   refine⟨H',g',N'',?_,r2⟩;rw [WI];have eb:=jD (e:=64) (m:=1) (z:=[zP]) (v:=.ref (a 0) 0 0) (H:=Ha) rfl rfl rfl;have ec:(AV.ref (a 0) 0 0).cells=[.ref (a 0) 0 0]:=rfl;rw [ec] at eb;simp only [o] at t1 t2;simp -implicitDefEqProofs only [Nat.reduceLeDiff,xq_,hq_,h1,s1,s2,s4,hy,a1,aow,zbc,eb,t1,t2,bf,h6,h7,r1]
 have hfl:f < H2.next:=M1.good.lt F1.1
 have ht:=M2.lt upd_same;obtain⟨H',g',N,r1,r2,r3,r4,r5,r6⟩:=key ps.length 0 (by omega) _ g0 (λ_ _=> 0) M0 upd_same (λq hq=> rfl) (λj l hj=> by omega) (λi j s t hi=> by omega);have hg0:∀q,q < H2.next->g0 q=gf q:=λq hq=> by simp only [g0];rw [upd_ne (by omega),upd_ne (by omega)]
 refine⟨H',{ A0 with N:=N },g',aO rfl rfl (aiz _ _ _ _ (r:=(_,H')) ?_),r2.vU,?_⟩
 ·have l7:c.av[7]?=some (dat c.init):=rfl;have b0:nG Tryz.prog .neq 58 (I 0) (I 0)=some (B false):=by kernel_rfl
  have st7:st 1 (.ref H.next 0 7) (dat c.init) H1=some (aN,H1):=by
   simp only [H1];rw [KR rfl];simp -implicitDefEqProofs only [Nat.reduceAdd,setAt,xq_,hq_,Cfg.av,hb]
  have em:bd 46 [(0,.ref f 0 0),(1,.ref t 0 0),(2,.agg c.av)]=some (.agg xs):=by
   simp -implicitDefEqProofs only [xq_,aoz,gK,dM,ahu,Cfg.av,dG];rfl
  have el:=(hx.ig (H':=H3.new (.blk 0 46 xs)) (by have:=M12.next;simp only [nNew];omega) λr hr=> by rw [M0.same r (by omega)];exact aQ hr)
  obtain⟨cells,x1,_⟩:=el;have el:=x1.lnS;simp only [H1] at b1 e1 e2 e3 e4 e5 st7;simp -implicitDefEqProofs only [Nat.reduceLT,xq_,hq_,aav,aB (dK c),b1,e1,b0,e2,e3,l7,st7,e4,e5,b3,em,aB hall,el];exact r1
 ·refine⟨?_,?_,⟨?_,?_,rfl,rfl⟩,?_,?_,?_,?_⟩
  ·rw [r3];simp only [fJ.new,zcj]
  ·rw [r4 t ht.2];simp only [g0];rw [upd_ne (by omega),upd_same];rfl
  ·show g' f=_;rw [r4 f (by have:=M2.next;omega),hg0 f hfl,F1.1];rfl
  ·intro i p hp;have I:=F1.2.1 i p hp;exact I.ext λs hs=> by
    obtain⟨l,r,hg⟩:=I.some hs;have:=M1.good.lt hg;rw [r4 _ (by have:=M2.next;omega),hg0 _ this]
  ·intro i n hi;simp only [fJ.new,zba,zbm] at hi;obtain⟨l,hl,rfl⟩:=hi;exact r5 i l (zaf.1 hl).1 hl
  ·simp only [fJ.new,Fab.new,zb0];exact J1
  ·simp only [fJ.new,zcj];exact r6
  ·show t≠f;omega
section
variable {b:Nat}{H:aj}{g:Store}{q:Nat}
theorem Jq(G:Good b H g){p:Proc}(h:g q=some (oG p))(h1:p.ops.length < 1000)(h2:p.values.length < 1000):cl 32 [.ref q 0 0] H=some (I p.left,H):=by
 refine aO rfl rfl (apx _ _ _ ?_);have e1:=G.load h (i:=0) rfl;have e2:=(Du dD H p.ops).lnS;obtain⟨x,hx,c⟩:=G.seq h (i:=1) rfl;have e3:=(c.is (n:=p.values.length) (by decide) (by simp)).lnS;simp -implicitDefEqProofs only [xq_,aiJ,e1,e2,hx,e3,jl,Proc.left];rw [wrap_i64 (by omega) (by omega)]
theorem L8(G:Good b H g){p:Proc}(h:g q=some (oG p)):cl 42 [.ref q 0 0] H=some (B p.begun,H):=by
 refine aO rfl rfl (apW _ _ _ ?_);have e1:=G.load h (i:=2) rfl;simp -implicitDefEqProofs only [xq_,aiQ,e1]
theorem Yf(G:Good b H g){l:List Pkt}{room:Int}(h:g q=some (kZ l room)):cl 30 [.ref q 0 0] H=some (I l.length,H):=by
 refine aO rfl rfl (aps _ _ _ ?_);obtain⟨x,hx,c⟩:=G.seq h (i:=0) rfl;have e2:=(c.is (by decide) (bn aT l)).lnS;simp -implicitDefEqProofs only [xq_,aiI,hx,e2]
theorem RJ(G:Good b H g){l:List Pkt}{room:Int}(h:g q=some (kZ l room)):cl 72 [.ref q 0 0] H=some (I l.length,H):=by
 refine aO rfl rfl (ari _ _ _ ?_);obtain⟨x,hx,c⟩:=G.seq h (i:=0) rfl;have e2:=(c.is (by decide) (bn aT l)).lnS;simp -implicitDefEqProofs only [xq_,ai7,hx,e2]
theorem Yg {H:aj}(l:List Int)(h:l.length < 1000000000):app 3 1 8 zN (dat l) H=some (if l=[] then(zN,H) else(.sl H.next 0 0 1 l.length l.length false,H.new (.blk 0 (3+fA) (l.map I)))):=by
 by_cases h0:l=[]
 ·subst h0;simp only [dat,dU,if_true];rfl
 ·rw [if_neg h0];exact Iz (jr _ l) (uT l) (λe=> h0 (zao e)) (by unfold most;omega) (by unfold most;omega)
theorem Gv {H:aj}{s d r:Nat}{l:List Int}(hl:l≠[])(hr:s<=r){ty:TypeId}(hg:H.get r=.blk 0 ty (l.map I)){ex:Bool}:aX H s (d+2) (.sl r 0 0 1 l.length l.length ex)=some (dat l):=by
 rw [ug hl];refine jC hr (cells:=l.map I) ?_ (fO _ λx hx=> uU _ x hx _ _);simp only [aZ,hg];rw [if_pos ⟨trivial,by simp⟩,zaO,zar (by simp)]
theorem aaZ(G:Good b H g){a:Nat->Nat}{c:Cfg}{me:Int}{d:bD}{num:Int}(h:g q=some (uj a c me d num))(hd:d.data.length < 1000000000):
  cl 40 [.ref q 0 0] H=some (.tup [.agg (if d.step=0 then bD.zero else d).av,B (!decide (d.step=0))],H):=by
 have zd:bD.zero.av=[zI,zI,zI,zI,zI,zI,zN,zI,zI]:=by simp [bD.zero,bD.av,dat,dU]
 have G1:=G.guard.new (.blk 0 74 [zI,zI,zI,zI,zI,zI,zN,zI,zI]);have e1:=G1.load h (i:=15) (x:=I d.step) rfl;have ez:bd 74 []=some (.agg [zI,zI,zI,zI,zI,zI,zN,zI,zI]):=by simp -implicitDefEqProofs only [xq_,TJ,gK,dM]
 by_cases h0:d.step=0
 ·refine aY rfl rfl (afr _ _ _) ?_ ?_
  ·simp -implicitDefEqProofs only [Nat.reduceAdd,setAt,xq_,hq_,WU,e1,h0,ez,zd,zae]
  ·rw [if_pos h0,zd];refine rC λx hx=> ?_;simp only [zam,zaH,or_false] at hx;rcases hx with rfl | rfl
   ·refine kF λx hx=> ?_;simp only [zam,zaH,or_false] at hx;rcases hx with rfl | rfl | rfl | rfl | rfl | rfl | rfl | rfl | rfl <;> exact eH
   ·exact eH
 ·have e2:=G1.loads h (i:=12) (n:=9) (xs:=d.av) rfl rfl (by decide);by_cases hl:d.data=[]
  ·refine aY rfl rfl (afr _ _ _) (v:=.tup [.agg d.av,B true]) ?_ ?_ |>.trans ?_
   ·have e3:=λH=> Yg (H:=H) d.data hd;have hz:dat ([]:List Int)=zN:=by simp [dat,dU]
    simp only [hl,if_true,hz] at e3;have zc:zN.cells=[zN]:=rfl;simp -implicitDefEqProofs only [Nat.reduceAdd,setAt,xq_,hq_,WU,e1,h0,e2,bD.av,hl,e3,hz,zc]
   ·refine rC λx hx=> ?_;simp only [zam,zaH,or_false] at hx;rcases hx with rfl | rfl
    ·refine kF λx hx=> ?_;simp only [bD.av,zam,zaH,or_false] at hx;rcases hx with rfl | rfl | rfl | rfl | rfl | rfl | rfl | rfl | rfl <;> first | exact eH | exact rD
    ·exact eH
   ·simp only [h0,if_false,decide_false,zak]
  ·let Hr:=H.next+2
   have e3:=λH=> Yg (H:=H) d.data hd;simp only [hl,if_false] at e3;have key:∃Hz,WU cl (.ref q 0 0) H.guard=some (.tup [.agg [I d.kind,I d.line,I d.id,I d.step,I d.state,I d.head,.sl (H.next+2) 0 0 1 d.data.length d.data.length false,I d.next,I d.told],B true],Hz)/\Hz.get (H.next+2)=.blk 0 (3+fA) (d.data.map I):=by
    have cs:∀r n m,(AV.sl r 0 0 1 n m false).cells=[.sl r 0 0 1 n m false]:=λ_ _ _=> rfl;have ic:∀r n m,AV.aH (.sl r 0 0 1 n m false)=true:=λ_ _ _=> rfl;simp -implicitDefEqProofs only [Nat.reduceAdd,setAt,xq_,hq_,zaa,zad,exists_eq_left',WU,e1,h0,e2,bD.av,e3,cs,ic];exact aK (by first | rfl | simp only [nNew,yI])
   obtain⟨Hz,k1,k2⟩:=key;refine fZ rfl rfl (afr _ _ _ k1) ?_;have f:=Gv (s:=H.next) (d:=5) (ex:=false) hl (by omega) k2;have f':∀v,aX Hz H.next 7 (.s v)=some (.s v):=λv=> iq
   have f'':∀v,aX Hz H.next 8 (.s v)=some (.s v):=λv=> iq
   rw [aX,zbn,aX];simp only [zbn,List.mapM_nil,f,f',f'',h0,if_false,decide_false,zak,bD.av];rfl
end
section
variable {b:Nat}{H:aj}{g:Store}{q f:Nat}{P:Nat->Nat->Nat}{c:Cfg}{fab:Fab}
theorem Cur.elemAt {i m n:Nat}{x:AV}{l:List AV}(cu:Cur b H q i x m l)(hm:0 < m)(hl:l.length=n*m){j:Nat}(hj:j < n):
  ∃r gg o,(∀k:IntKind,ix m x (.s (.int k j)) H=some (.ref r gg o,H))/\(∀k,k < m->ld (.ref r gg (o+k)) H=(l[j*m+k]?).map λv=> (v,H))/\lda m (.ref r gg o) H=some (.agg ((l.drop (j*m)).take m),H):=by
 have hs:=cu.is hm hl;have hjm:(j+1)*m<=n*m:=zaC _ (by omega);rw [zbq,zbc] at hjm;rcases cu.length hm hl with⟨_,h0⟩ | ⟨r,gg,off,cap,ex,ty,all,rfl,k1,k2,k3,k4,k5,k6,k7,k8⟩
 ·omega
 have hcm:n*m<=cap*m:=zaC _ k4;refine⟨r,gg,off+j*m,λk=> ?_,λk hk=> ?_,?_⟩
 ·have:=hs.ix (k:=k) (i:=(j:Int)) (by omega) (by omega);rw [zaq] at this;exact this
 ·rw [dJ k5,k8,zaA,if_pos (by omega),zaF,zb6]
 ·rw [fP k5 (by omega),k8]
  congr 3
  rw [zcf,zbC,zbU,zbe (by omega)]
theorem Ej {α:Type}{enc:α->List AV}{m:Nat}(he:∀a,(enc a).length=m)(l:List α)(i:Nat)(a:α)(hi:l[i]?=some a){k:Nat}(hk:k < m):(l.flatMap enc)[i*m+k]?=(enc a)[k]?:=by
 have:=flat_get he l i a hi;rw [<-this,zaA,if_pos hk,zaF]
theorem yt(G:Good b H g)(F:fH g f P c fab)(hn:fab.l.length < 1000)(i:Int):cl 71 [.ref f 0 0,I i] H=some (B (fab.is i),H):=by
 refine aO rfl rfl (ard _ _ _ _ ?_);obtain⟨x,hx,cu⟩:=G.seq F.1 (i:=0) rfl;have e2:=(cu.is (by decide) (lY P _)).lnS;by_cases h0:0<=i
 ·simp -implicitDefEqProofs only [xq_,afE,h0,hx,e2,Fab.is,zaN]
 ·simp -implicitDefEqProofs only [xq_,afE,h0,Fab.is,zaP]
theorem fH.port(F:fH g f P c fab){i:Nat}(hi:i < fab.l.length):rZ g (P i) c (fab.port i):=by
 have:=F.2.1 i (fab.l[i]) (zab hi);unfold Fab.port;rw [zaq,zay,zab hi];exact this
theorem Ud(G:Good b H g)(F:fH g f P c fab)(hn:fab.l.length < 1000)(i:Int):
  cl 41 [.ref f 0 0,I i] H=some (.tup [I (fab.waiting i true),I (fab.waiting i false)],H):=by
 refine aO rfl rfl (apT _ _ _ _ ?_);have e1:=yt G F hn i;cases hi:fab.is i with
 | false=>
  rw [hi] at e1;simp -implicitDefEqProofs only [xq_,afs,e1,zak,Fab.waiting,hi];rfl
 | true=>
  rw [hi] at e1;simp only [Fab.is,zaj,decide_eq_true_eq] at hi;obtain⟨n,rfl⟩:∃n:Nat,i=n:=⟨i.toNat,by omega⟩
  have hl:n < fab.l.length:=by omega
  obtain⟨x,hx,cu⟩:=G.seq F.1 (i:=0) rfl;obtain⟨r,gg,o,a1,a2,_⟩:=cu.elemAt (by decide) (lY P _) hl;have hr:(List.range fab.l.length)[n]?=some n:=zbi hl;have l1:=a2 1 (by decide);rw [Ej (m:=4) (λ_=> rfl) _ n n hr (by decide)] at l1;have l3:=a2 3 (by decide);rw [Ej (m:=4) (λ_=> rfl) _ n n hr (by decide)] at l3;have hp:=F.port hl;have q1:=RJ G.guard hp.2.1;have q3:=RJ G hp.2.2.2;have l1':ld (.ref r gg (o+1)) H=some (.ref (P n 1) 0 0,H):=l1;have l3':ld (.ref r gg (o+2+1)) H=some (.ref (P n 3) 0 0,H):=l3;have a1':=a1 .i64;have w:∀req,fab.waiting n req=((fab.port n).rE req).length:=λreq=> by
   unfold Fab.waiting;rw [if_pos (by simp only [Fab.is,zaj,decide_eq_true_eq];omega)]
  simp -implicitDefEqProofs only [xq_,afs,e1,zae,hx,a1',l1',l3',q1,q3,w,Port.rE]
end
section
variable {b:Nat}{H:aj}{g:Store}{q f:Nat}{P:Nat->Nat->Nat}{c:Cfg}{fab:Fab}
theorem af5 {e:TypeId}{H:aj}{a b c d:Nat}:bsl e 2 [zP,zP] 2 [(0,.agg [.ref a 0 0,.ref b 0 0]),(1,.agg [.ref c 0 0,.ref d 0 0])] H=some (.sl H.next 0 0 2 2 2 true,H.new (.blk 0 e [.ref a 0 0,.ref b 0 0,.ref c 0 0,.ref d 0 0])):=rfl
def gy(P:Nat->Nat->Nat)(n:Nat):List AV:=(List.range n).flatMap λi=> lN (P i)
theorem fH.lt(G:Good b H g)(F:fH g f P c fab){i s:Nat}(hi:i < fab.l.length)(hs:s < 4):P i s < H.next:=by
 obtain⟨l,r,h⟩:=(F.port hi).some hs;exact G.lt h
theorem RN(G:Good b H g)(F:fH g f P c fab)(hn:fab.l.length < 1000)(h0:fab.l.length≠0):
  cl 29 [.ref f 0 0] H=some (.vs (2*fab.l.length) 2 (gy P fab.l.length),H):=by
 obtain⟨x,hx,cu⟩:=G.guard.seq F.1 (i:=0) rfl;have e2:=(cu.is (by decide) (lY P _)).lnS;have hfr:∀d,∀y∈gy P fab.l.length,∀Hz,aX Hz H.next (d+1) y=some y:=λd y hy Hz=> by
  obtain⟨i,hi,hy⟩:=za5.1 hy;have hi:=zaV.1 hi;simp only [lN,zam,zaH,or_false] at hy;rcases hy with rfl | rfl | rfl | rfl <;> · rw [aX];exact if_pos (F.lt G hi (by omega))
 have key:∀k i,i+k=fab.l.length->∀Hi t,Own H.next Hi t 2 (gy P i)->Step H.next H.guard Hi->
   ∃v Hz,IY cl [t,x,I fab.l.length,I i] Hi=some (v,Hz)/\Own H.next Hz v 2 (gy P fab.l.length):=by
  intro k
  induction k with
  | zero=>
   intro i hi Hi t o s;have h1:¬(i:Int) < fab.l.length:=by omega
   rw [WR];refine⟨t,Hi,?_,by rw [show fab.l.length=i by omega];exact o⟩;simp -implicitDefEqProofs only [xq_,h1]
  | succ k ih=>
   intro i hi Hi t o s;have h1:(i:Int) < fab.l.length:=by omega
   have h6:(i:Int)+1=((i+1:Nat):Int):=by omega
   have h7:=wrap_i64 (a:=((i+1:Nat):Int)) (by omega) (by omega);obtain⟨r,gg,off,a1,_,a3⟩:=(cu.ext s.next s.low).elemAt (by decide) (lY P _) (j:=i) (by omega);have a1:=a1 .i64;rw [flat_get (m:=4) (λ_=> rfl) _ i i (zbi (by omega))] at a3;let H1:=Hi.new (.blk 0 132 (lN (P i)));have hpl:(gy P i).length=(2*i)*2:=by
    rw [gy,lY];omega
   have sb:Hi.base=H.next:=s.base
   have sn:H.next<=Hi.next:=s.next
   obtain⟨v',Hj,t1,t2,t3⟩:=((o.new (.blk 0 132 (lN (P i)))).new (.blk 0 90 (lN (P i)))).step (e:=90) (by_:=16) (by simp only [nNew];omega) (by simp only [bNew];omega) (by decide) hpl (jE (ex:=true) (n:=2) (m:=2) (l:=lN (P i)) rfl) rfl (by unfold most;omega) (by unfold most;omega);have hs:gy P (i+1)=gy P i++lN (P i):=by
    simp only [gy];rw [zck,zbz,zaI,List.flatMap_nil,zbf]
   rw [<-hs] at t2;obtain⟨v,Hz,r1,r2⟩:=ih (i+1) (by omega) Hj v' t2 ((s.trans ((Step.new _ (by omega)).trans (Step.new _ (by simp only [nNew];omega)))).trans t3);refine⟨v,Hz,?_,r2⟩;rw [WR];have ca:∀a b c d,(AV.agg [.ref a 0 0,.ref b 0 0,.ref c 0 0,.ref d 0 0]).cells=[.ref a 0 0,.ref b 0 0,.ref c 0 0,.ref d 0 0]:=λ_ _ _ _=> rfl;have hbase:Hi.base<=Hi.next:=by omega
   simp only [lN,nNew] at a3 t1;simp -implicitDefEqProofs only [Nat.reduceAdd,Nat.reduceLeDiff,setAt,xq_,hq_,h1,a1,a3,hbase,aoy,Nat.reduceMul,af5,t1,bf,h6,h7,r1]
 obtain⟨v,Hz,r1,r2⟩:=key fab.l.length 0 (by omega) H.guard zN (.inl ⟨rfl,rfl⟩) (Step.refl _ _);refine fZ rfl rfl (apo _ _ _ (r:=(v,Hz)) ?_) ?_
 ·simp -implicitDefEqProofs only [xq_,aiH,hx,e2];exact r1
 ·have hpl:(gy P fab.l.length).length=(2*fab.l.length)*2:=by
   rw [gy,lY];omega
  have hs:=r2.is (by decide) hpl;obtain⟨c1,c2⟩:=hs.sW;rcases r2 with⟨rfl,e⟩ | ⟨r,gg,off,n',cap,ex,ty,all,rfl,k2,k3,k4,k5,k6,k7,k8⟩
  ·rw [e] at hpl;simp only [zaw] at hpl;omega
  ·have hn':n'=2*fab.l.length:=by
    have:=hs.2.2.1;exact this
   subst hn';exact jC k2 c2 (fO _ λy hy=> hfr _ y hy _)
theorem Yh {α β:Type}{u v:α->β}:∀(l:List α) (i:Nat),(l.flatMap λp=> [u p,v p])[2*i]?=l[i]?.map u/\(l.flatMap λp=> [u p,v p])[2*i+1]?=l[i]?.map v
 | [],i=> by simp
 | a::l,0=> by simp
 | a::l,i+1=> by
  have:=Yh (u:=u) (v:=v) l i;rw [show 2*(i+1)=2*i+1+1 by omega]
  simpa using this
theorem fH.aef(F:fH g f P c fab){j:Nat}(hj:j < 2*fab.l.length):
  ∃l a a',fab.fU[j]?=some l/\((gy P fab.l.length).drop (j*2)).take 2=[.ref a 0 0,.ref a' 0 0]/\g a=some (kZ l c.out):=by
 have hi:j / 2 < fab.l.length:=by omega
 have hp:=F.port hi;have hg:fab.l[j / 2]?=some (fab.port (j / 2:Nat)):=by
  unfold Fab.port;rw [zaq,zay,zab hi];rfl
 have hfl:=flat_get (m:=4) (enc:=λi=> lN (P i)) (λ_=> rfl) (List.range fab.l.length) (j / 2) (j / 2) (zbi hi);have h2:=Yh (u:=Port.rq) (v:=Port.an) fab.l (j / 2);rw [hg] at h2;rcases Nat.mod_two_eq_zero_or_one j with h | h
 ·refine⟨_,P (j / 2) 0,P (j / 2) 1,?_,?_,hp.1⟩
  ·have:=h2.1;rw [show 2*(j / 2)=j by omega] at this;exact this
  ·have e:((gy P fab.l.length).drop (j*2)).take 2=(((gy P fab.l.length).drop (j / 2*4)).take 4).take 2:=by
    rw [zbU,show j / 2*4=j*2 by omega];rfl
   rw [e];exact(congrArg (List.take 2) hfl).trans rfl
 ·refine⟨_,P (j / 2) 2,P (j / 2) 3,?_,?_,hp.2.2.1⟩
  ·have:=h2.2;rw [show 2*(j / 2)+1=j by omega] at this;exact this
  ·have e:((gy P fab.l.length).drop (j*2)).take 2=((((gy P fab.l.length).drop (j / 2*4)).take 4).drop 2).take 2:=by
    rw [zcf,zbC,zbU,show j / 2*4+2=j*2 by omega];rfl
   rw [e];exact(congrArg (λl=> (List.drop 2 l).take 2) hfl).trans rfl
end
section
variable {b:Nat}{H:aj}{g:Store}{q f:Nat}{P:Nat->Nat->Nat}{c:Cfg}{fab:Fab}
theorem aa0 {ls:List (List Pkt)}{j:Nat}{l:List Pkt}(h:ls[j]?=some l):((ls.take (j+1)).map List.length).sum=((ls.take j).map List.length).sum+l.length:=by
 rw [List.take_succ,h];simp
theorem L9:∀l:List Port,((l.flatMap λp=> [p.rq,p.an]).map List.length).sum=(l.flatMap λp=> p.rq++p.an).length
 | []=> rfl
 | p::l=> by
  have:=L9 l;simp only [zaI,zbu,List.sum_append,zan,this];simp
theorem nX:∀l:List Port,(l.flatMap λp=> [p.rq,p.an]).length=2*l.length
 | []=> rfl
 | p::l=> by
  have:=nX l;simp only [zaI,zan,this,zal,zaw];omega
theorem anc {ls:List (List Pkt)}{m:Nat}(h:∀l∈ls,l.length<=m):(ls.map List.length).sum<=ls.length*m:=by
 induction ls with
 | nil=> simp
 | cons l ls ih=>
  have h1:=h l (by simp);have:=ih λl' hl'=> h l' (by simp [hl']);simp only [zaB,zcl,zal,zbq,zbc];omega
theorem RP(G:Good b H g)(F:fH g f P c fab)(hn:fab.l.length < 1000)(h0:fab.l.length≠0)(hr:∀l∈fab.fU,l.length < 1000):
  cl 9 [.ref f 0 0] H=some (I fab.under,H):=by
 have e1:=RN G.guard F hn h0;have hpl:(gy P fab.l.length).length=(2*fab.l.length)*2:=by
  rw [gy,lY];omega
 have hsl:∀H,aG H (.vs (2*fab.l.length) 2 (gy P fab.l.length)) 2 (2*fab.l.length) (gy P fab.l.length):=λH=> aG.vs hpl;have e2:=(hsl H.guard).lnS;have hcnt:fab.fU.length=2*fab.l.length:=nX fab.l;have key:∀k j,j+k=2*fab.l.length->∀Hi,Step H.next H.guard Hi->
   ∃Hz,QV cl [I ((fab.fU.take j).map List.length).sum,.vs (2*fab.l.length) 2 (gy P fab.l.length),I (2*fab.l.length:Nat),I j] Hi=some (I fab.under,Hz):=by
  intro k
  induction k with
  | zero=>
   intro j hj Hi s;have h1:¬(j:Int) < (2*fab.l.length:Nat):=by omega
   rw [ada];refine⟨Hi,?_⟩;have h2:((fab.fU.take j).map List.length).sum=fab.under:=by
    rw [zar (by omega)];exact L9 fab.l
   simp -implicitDefEqProofs only [xq_,h1,h2]
  | succ k ih=>
   intro j hj Hi s;have h1:(j:Int) < (2*fab.l.length:Nat):=by omega
   have h6:(j:Int)+1=((j+1:Nat):Int):=by omega
   have h7:=wrap_i64 (a:=((j+1:Nat):Int)) (by omega) (by omega);have a1:=(hsl Hi).ix (k:=.i64) (i:=(j:Int)) (by omega) h1;rw [zaq] at a1;have a3:=(hsl Hi).lda (i:=j) (by omega);obtain⟨l,a,a',p1,p2,p3⟩:=F.aef (j:=j) (by omega);rw [p2] at a3;have hsn:=aa0 p1;have hln:((fab.fU.take (j+1)).map List.length).sum<=(fab.fU.take (j+1)).length*1000:=anc λl hl=> Nat.le_of_lt (hr l (List.mem_of_mem_take hl));have hlt:(fab.fU.take (j+1)).length<=2*fab.l.length:=by rw [zat];omega
   have h8:((((fab.fU.take j).map List.length).sum:Nat):Int)+(l.length:Int)=((((fab.fU.take (j+1)).map List.length).sum:Nat):Int):=by omega
   have h9:=wrap_i64 (a:=((((fab.fU.take (j+1)).map List.length).sum:Nat):Int)) (by omega) (by omega);have G1:Good b (Hi.new (.blk 0 90 [.ref a 0 0,.ref a' 0 0])) g:=(G.guard.ext s.next s.low).new _;have e3:=Yf G1 p3;have aum:H.next<=Hi.next:=s.next
   have sb:Hi.base=H.next:=s.base
   have hbase:Hi.base<=Hi.next:=by omega
   obtain⟨Hz,r1⟩:=ih (j+1) (by omega) _ (s.trans (Step.new (.blk 0 90 [.ref a 0 0,.ref a' 0 0]) aum));refine⟨Hz,?_⟩;rw [ada];simp -implicitDefEqProofs only [Nat.reduceAdd,setAt,xq_,hq_,h1,a1,a3,hbase,e3,bf,h8,h9,h6,h7,r1]
 obtain⟨Hz,r1⟩:=key (2*fab.l.length) 0 (by omega) H.guard (Step.refl _ _);refine fZ rfl rfl (at7 _ _ _ (r:=(I fab.under,Hz)) ?_) iq;simp -implicitDefEqProofs only [xq_,atd,e1,e2];exact r1
end
section
variable {b:Nat}{H:aj}{g:Store}{A:Adr}{m:fJ}
structure fJ.fine(m:fJ):Prop where
 ok:m.c.ok=true
 nodes:(m.nodes.length:Int)=m.c.nodes
 fab:m.fab.l.length=m.nodes.length
 ops:∀n∈m.nodes,n.proc.ops.length < 1000/\n.proc.values.length < 1000
 fU:∀l∈m.fab.fU,l.length < 1000
 deal:∀n∈m.nodes,n.deal.data.length < 1000000000
 ins:∀p∈m.fab.l,p.rin.length < 1000/\p.ain.length < 1000
def fJ.left(m:fJ):Int:=(m.nodes.map λn=> n.proc.left).sum
theorem uo(N:Nat->Nat->Nat)(n:Nat):(mG N n).length=n*1:=by simp [mG]
theorem Em {N:Nat->Nat->Nat}{n i:Nat}(h:i < n):(mG N n)[i]?=some (.ref (N i 0) 0 0):=by
 simp [mG,zbi h]
theorem Pv(G:Good b H g)(M:iQ g A m)(hm:m.fine):cl 11 [.ref A.jY 0 0] H=some (I m.left,H):=by
 have Bd:=pR hm.ok;refine aO rfl rfl (aoX _ _ _ ?_);obtain⟨x,hx,cu⟩:=G.seq M.jY (i:=10) rfl;have e2:=(cu.is (by decide) (uo _ _)).lnS;have hbd:∀j,j<=m.nodes.length->-(j*1000:Int)<=((m.nodes.take j).map λn=> n.proc.left).sum/\((m.nodes.take j).map λn=> n.proc.left).sum<=j*1000:=by
  intro j
  induction j with
  | zero=> intro _;simp
  | succ j ih=>
   intro hj;have i1:=ih (by omega);have hg:m.nodes[j]?=some (m.nodes[j]'(by omega)):=zab (by omega);have i2:=hm.ops _ (zas hg);have i3:-1000<=(m.nodes[j]'(by omega)).proc.left/\(m.nodes[j]'(by omega)).proc.left<=1000:=by
    unfold Proc.left;omega
   rw [List.take_succ,hg];simp only [Option.toList_some,zbu,zaB,zbX,List.sum_append,zcl,List.sum_nil];omega
 have key:∀k j,j+k=m.nodes.length->IQ cl [I ((m.nodes.take j).map λn=> n.proc.left).sum,x,I m.nodes.length,I j] H=some (I m.left,H):=by
  intro k
  induction k with
  | zero=>
   intro j hj;have h1:¬(j:Int) < m.nodes.length:=by omega
   rw [WG];have h2:((m.nodes.take j).map λn=> n.proc.left).sum=m.left:=by
    rw [zar (by omega)];rfl
   simp -implicitDefEqProofs only [xq_,h1,h2]
  | succ k ih=>
   intro j hj;have h1:(j:Int) < m.nodes.length:=by omega
   have hn:=hm.nodes;have hBn:=Bd.nodes;have h6:(j:Int)+1=((j+1:Nat):Int):=by omega
   have h7:=wrap_i64 (a:=((j+1:Nat):Int)) (by omega) (by omega);obtain⟨r,gg,o,a1,a2,_⟩:=cu.elemAt (by decide) (uo _ _) (j:=j) (by omega);have a1:=a1 .i64;have a2:=a2 0 (by decide);rw [zbE,zbj,zbj,Em (by omega)] at a2;have hg:m.nodes[j]?=some (m.nodes[j]'(by omega)):=zab (by omega);have Nj:=M.node j _ hg;have ho:=hm.ops _ (zas hg);have e3:=G.load Nj.1 (i:=1) rfl;have e4:=Jq G Nj.2.2.1 ho.1 ho.2;have h8:((m.nodes.take j).map λn=> n.proc.left).sum+(m.nodes[j]'(by omega)).proc.left=((m.nodes.take (j+1)).map λn=> n.proc.left).sum:=by
    rw [List.take_succ,hg];simp only [Option.toList_some,zbu,zaB,zbX,List.sum_append,zcl,List.sum_nil,Int.add_zero]
   have hb1:=hbd (j+1) (by omega);have h9:=wrap_i64 (a:=((m.nodes.take (j+1)).map λn=> n.proc.left).sum) (by omega) (by omega);have r1:=ih (j+1) (by omega);rw [WG];simp -implicitDefEqProofs only [xq_,h1,a1,a2,e3,e4,bf,h8,h9,h6,h7,r1]
 have r1:=key m.nodes.length 0 (by omega);simp -implicitDefEqProofs only [xq_,aiu,hx,e2];exact r1
end
def fJ.busy(m:fJ)(i:Nat):Bool:=match m.nodes[i]? with
 | some n=> !decide (n.deal.step=0) || n.proc.begun || decide (0 < m.fab.waiting i true+m.fab.waiting i false)
 | none=> false
def fJ.quiet(m:fJ):Bool:=(List.range m.nodes.length).all (λi=> !m.busy i) && decide (m.fab.under=0)
theorem ES {n:Nat}{p:Nat->Bool}{i:Nat}(hi:i < n)(h:∀j,j < i->p j=true)(hp:p i=false):(List.range n).all p=false:=by
 rw [List.all_eq_false];exact⟨i,zaV.2 hi,by rw [hp];simp⟩
theorem Jr {n:Nat}{p:Nat->Bool}(h:∀j,j < n->p j=true):(List.range n).all p=true:=by
 rw [zaX];exact λi hi=> h i (zaV.1 hi)
section
variable {b:Nat}{H:aj}{g:Store}{A:Adr}{m:fJ}
theorem Yi(hm:m.fine)(i:Int)(req:Bool):m.fab.waiting i req < 1000:=by
 unfold Fab.waiting;split
 ·rename_i h;simp only [Fab.is,zaj,decide_eq_true_eq] at h;have hl:i.toNat < m.fab.l.length:=by omega
  have e:m.fab.port i=m.fab.l[i.toNat]:=by
   unfold Fab.port;rw [zay,zab hl];rfl
  have:=hm.ins _ (List.getElem_mem hl);rw [e];cases req
  ·exact this.2
  ·exact this.1
 ·omega
theorem aa1(G:Good b H g)(M:iQ g A m)(hm:m.fine):cl 18 [.ref A.jY 0 0] H=some (B m.quiet,H):=by
 have Bd:=pR hm.ok;have hn:=hm.nodes;have hBn:=Bd.nodes;have hfl:=hm.fab;obtain⟨x,hx,cu⟩:=G.guard.seq M.jY (i:=10) rfl;have e2:=(cu.is (by decide) (uo _ _)).lnS;have key:∀k j,j+k=m.nodes.length->(∀i,i < j->(!m.busy i)=true)->∀Hi,Step H.next H.guard Hi->
   ∃Hz,zo cl [.ref A.jY 0 0,x,I m.nodes.length,I j] Hi=some (B m.quiet,Hz):=by
  intro k
  induction k with
  | zero=>
   intro j hj hf Hi s;have h1:¬(j:Int) < m.nodes.length:=by omega
   have Gi:=G.guard.ext s.next s.low
   have e1:=Gi.load M.jY (i:=0) rfl;have e3:=RP Gi M.fab (by omega) (by omega) hm.fU;have hq:m.quiet=decide (m.fab.under=0):=by
    unfold fJ.quiet;rw [Jr λi hi=> hf i (by omega),zaN]
   have hz:decide ((m.fab.under:Int)=0)=decide (m.fab.under=0):=by simp
   rw [WJ];refine⟨Hi,?_⟩;simp -implicitDefEqProofs only [xq_,h1,e1,e3,hq,hz]
  | succ k ih=>
   intro j hj hf Hi s;have h1:(j:Int) < m.nodes.length:=by omega
   have h6:(j:Int)+1=((j+1:Nat):Int):=by omega
   have h7:=wrap_i64 (a:=((j+1:Nat):Int)) (by omega) (by omega);have Gi:=G.guard.ext s.next s.low
   obtain⟨r,gg,o,a1,a2,_⟩:=(cu.ext s.next s.low).elemAt (by decide) (uo _ _) (j:=j) (by omega);have a1:=a1 .i64;have a2:=a2 0 (by decide);rw [zbE,zbj,zbj,Em (by omega)] at a2;obtain⟨n,hg⟩:∃n,m.nodes[j]?=some n:=⟨_,zab (by omega)⟩
   have Nj:=M.node j _ hg;have hnm:=zas hg;have e3:=aaZ Gi Nj.1 (hm.deal _ hnm);obtain⟨dl,hdl⟩:∃dl:bD,dl=if n.deal.step=0 then bD.zero else n.deal:=⟨_,rfl⟩
   rw [<-hdl] at e3;let dv:=dl.av;have sn:H.next<=Hi.next:=s.next
   have sb:Hi.base=H.next:=s.base
   have hbase:Hi.base<=Hi.next:=by omega
   have Gj:=Gi.new (.blk 0 74 dv);have sj:=s.trans (Step.new (.blk 0 74 dv) sn);have e4:=Gj.load M.jY (i:=0) rfl;have e5:=Ud Gj M.fab (by omega) j;have e6:=Gj.load Nj.1 (i:=1) rfl;have e7:=L8 Gj Nj.2.2.1;have w1:=Yi hm j true;have w2:=Yi hm j false;have h9:=wrap_i64 (a:=((m.fab.waiting j true+m.fab.waiting j false:Nat):Int)) (by omega) (by omega);have h8:(m.fab.waiting j true:Int)+(m.fab.waiting j false:Int)=((m.fab.waiting j true+m.fab.waiting j false:Nat):Int):=by omega
   have hb:m.busy j=(!decide (n.deal.step=0) || n.proc.begun || decide (0 < m.fab.waiting j true+m.fab.waiting j false)):=by
    unfold fJ.busy;rw [hg]
   have cd:(AV.agg dv).cells=dv:=rfl;have ad:dv.all AV.aH=true:=aP _;have ld9:dv.length=9:=rfl;have E:zo cl [.ref A.jY 0 0,x,I m.nodes.length,I j] Hi=if m.busy j=true then some (B false,Hi.new (.blk 0 74 dv)) else zo cl [.ref A.jY 0 0,x,I m.nodes.length,I (j+1:Nat)] (Hi.new (.blk 0 74 dv)):=by
    rw [WJ,hb];simp only [dv] at e4 e5 e6 e7;by_cases d0:n.deal.step=0
    ·cases pb:n.proc.begun with
     | true=>
      rw [pb] at e7;simp -implicitDefEqProofs only [Nat.reduceAdd,setAt,xq_,hq_,h1,a1,a2,e3,d0,zae,hbase,e4,e5,e6,e7,dv,zbI,Bool.true_or]
     | false=>
      rw [pb] at e7;by_cases hw:0 < m.fab.waiting j true+m.fab.waiting j false
      ·have hw':(0:Int) < ((m.fab.waiting j true+m.fab.waiting j false:Nat):Int):=by omega
       simp -implicitDefEqProofs only [Nat.reduceAdd,setAt,xq_,hq_,h1,a1,a2,e3,d0,zae,hbase,e4,e5,e6,e7,dv,zbI,hw,hw',bf,h8,h9]
      ·have hw':¬(0:Int) < ((m.fab.waiting j true+m.fab.waiting j false:Nat):Int):=by omega
       simp -implicitDefEqProofs only [Nat.reduceAdd,setAt,xq_,hq_,h1,a1,a2,e3,d0,zae,hbase,e4,e5,e6,e7,dv,zbI,hw,hw',bf,h8,h9,h6,h7]
    ·simp -implicitDefEqProofs only [Nat.reduceAdd,setAt,xq_,hq_,h1,a1,a2,e3,d0,zak,hbase,e4,e5,dv,Bool.true_or]
   rw [E];cases hbz:m.busy j with
   | true=>
    have hq:m.quiet=false:=by
     unfold fJ.quiet;rw [ES (i:=j) (by omega) hf (by rw [hbz];rfl),zaP]
    exact⟨_,by rw [hq];rfl⟩
   | false=>
    obtain⟨Hz,r1⟩:=ih (j+1) (by omega) (λi hi=> by
     by_cases hij:i=j
     ·subst hij;rw [hbz];rfl
     ·exact hf i (by omega)) _ sj
    exact⟨Hz,r1⟩
 obtain⟨Hz,r1⟩:=key m.nodes.length 0 (by omega) (λi hi=> by omega) H.guard (Step.refl _ _);refine fZ rfl rfl (ao8 _ _ _ (r:=(B m.quiet,Hz)) ?_) iq;simp -implicitDefEqProofs only [xq_,aiB,hx,e2];exact r1
end
theorem RH.zN {H:aj}:RH H zN []:=⟨[],aG.nil,λi v l h=> by simp at h⟩
theorem aa2 {c:Cfg}(h:c.ok=true){ps:List (List Opn)}(hp:c.pJ ps=true):(fJ.new c ps).fine:=by
 have Bd:=pR h;obtain⟨h1,h2⟩:=BX hp;have node:∀n∈(fJ.new c ps).nodes,∃i l,l∈ps/\n=.new c i l:=λn hn=> by
  simp only [fJ.new,List.mem_mapIdx] at hn;obtain⟨i,hi,rfl⟩:=hn;exact⟨i,_,List.getElem_mem hi,rfl⟩
 have af6:∀p∈(fJ.new c ps).fab.l,p=.zero:=λp hp=> by
  simp only [fJ.new,Fab.new] at hp;exact List.eq_of_mem_replicate hp
 refine⟨h,?_,?_,λn hn=> ?_,λl hl=> ?_,λn hn=> ?_,λp hp=> ?_⟩
 ·simp only [fJ.new,zcj];exact h1
 ·simp only [fJ.new,Fab.new,zcj,zb0];omega
 ·obtain⟨i,l,hl,rfl⟩:=node n hn;have:=h2 l hl;exact⟨by show l.length < 1000;omega,by show(0:Nat) < 1000;omega⟩
 ·simp only [Fab.fU,za5] at hl;obtain⟨p,hp,hl⟩:=hl;rw [af6 p hp] at hl;simp only [Port.zero,zam,zaH,or_false,or_self] at hl;rw [hl];decide
 ·obtain⟨i,l,hl,rfl⟩:=node n hn;show(0:Nat) < _;omega
 ·rw [af6 p hp];exact⟨by decide,by decide⟩
def aeg:Cfg:=⟨1,1,1,1,1,1,1,[]⟩
def aW(v n:Int):Int:=if n < 1 then 0 else v % n
def atM(l:List Int)(i:Int):Int:=if i < l.length then l.getD i.toNat 0 else 0
theorem kH {v n:Int}(h:1<=n):0<=aW v n/\aW v n < n:=by
 unfold aW;rw [if_neg (by omega)];exact⟨Int.emod_nonneg _ (by omega),Int.emod_lt_of_pos _ (by omega)⟩
theorem aa3(v n:Int)(h:1<=n):v % n=if v.tmod n < 0 then v.tmod n+n else v.tmod n:=by
 have h1:=Int.tmod_eq_emod (a:=v) (b:=n);have h2:=Int.emod_nonneg v (b:=n) (by omega);have h3:=Int.emod_lt_of_pos v (b:=n) (by omega);rw [h1];rcases Decidable.em (0<=v∨n ∣ v) with hv | hv
 ·rw [if_pos hv];split <;> omega
 ·rw [if_neg hv];split <;> omega
theorem aa4(v n:Int)(h:1<=n):-n < v.tmod n/\v.tmod n < n:=by
 have h1:=Int.tmod_eq_emod (a:=v) (b:=n);have h2:=Int.emod_nonneg v (b:=n) (by omega);have h3:=Int.emod_lt_of_pos v (b:=n) (by omega);rw [h1];rcases Decidable.em (0<=v∨n ∣ v) with hv | hv
 ·rw [if_pos hv];omega
 ·rw [if_neg hv];omega
theorem lg(H:aj)(v n:Int)(hn:n<=9223372036854775807):cl 13 [I v,I n] H=some (I (aW v n),H):=by
 refine aO rfl rfl (ao3 _ _ _ _ ?_);by_cases h1:n < 1
 ·simp -implicitDefEqProofs only [xq_,aau,h1,aW]
 ·have e1:=λ(k:IntKind) (t:TypeId)=> qY (P:=Tryz.prog) (k:=k) (t:=t) (a:=v) (b:=n) (by omega);have e2:=aa3 v n (by omega);have e3:=aa4 v n (by omega);by_cases h2:v.tmod n < 0
  ·have w:=wrap_i64 (a:=v.tmod n+n) (by omega) (by omega);rw [if_pos h2] at e2;simp -implicitDefEqProofs only [xq_,aau,IU,h1,e1,h2,bf,w,aW,e2]
  ·rw [if_neg h2] at e2;simp -implicitDefEqProofs only [xq_,aau,IU,h1,e1,h2,aW,e2]
theorem af7(H:aj){x:AV}{l:List Int}(hx:aG H x 1 l.length (l.map I)){i:Int}(h0:0<=i):cl 45 [x,I i] H=some (I (atM l i),H):=by
 refine aO rfl rfl (ap2 _ _ _ _ ?_);have e1:=hx.lnS;by_cases h:i < l.length
 ·have a1:=hx.ix (k:=.i64) h0 h;have a2:=hx.ld (i:=i.toNat) (by omega);have hlt:i.toNat < l.length:=by omega
  rw [zaD,zab hlt] at a2;have a2':ld (dh x i.toNat) H=some (I l[i.toNat],H):=a2;have e:atM l i=l[i.toNat]:=by
   unfold atM;rw [if_pos h,zay,zab hlt];rfl
  simp -implicitDefEqProofs only [xq_,afu,e1,h,a1,a2',e]
 ·simp -implicitDefEqProofs only [xq_,afu,e1,h,atM]
theorem aG.upto {H:aj}{x:AV}{m n:Nat}{cells:List AV}(h:aG H x m n cells){k:IntKind}{hi:Int}(h0:0<=hi)(h1:hi<=n):∃y,slS m x none (some (.s (.int k hi))) none=some y/\aG H y m hi.toNat (cells.take (hi.toNat*m)):=by
 obtain⟨hl,h⟩:=h;have hlm:hi.toNat*m<=n*m:=zaC _ (by omega);cases x with
 | sl r g off esz len cap ex=>
  obtain⟨rfl,rfl,⟨hr,hc⟩,ty,all,h2,h3,h4⟩:=h;refine⟨_,QH h0 (by omega),by rw [zat,hl];omega,rfl,rfl,⟨hr,by omega⟩,ty,all,h2,by omega,?_⟩;rw [h4,zbU,zbe hlm]
 | vs k' esz cs=>
  obtain⟨rfl,rfl,rfl⟩:=h;refine⟨.vs hi.toNat esz (cs.take (hi.toNat*esz)),?_,by rw [zat,hl];omega,rfl,rfl,rfl⟩;simp only [slS,gX,h0,if_true];rw [if_pos ⟨trivial,zaU _,by omega⟩];simp
 | s v=>
  cases v with
  | slice a b c=>
   cases a with
   | none=>
    obtain⟨rfl,rfl,rfl⟩:=h;have h3:hi=0:=by omega
    subst h3;refine⟨zN,by simp [slS,gX],?_⟩;refine⟨?_,rfl,rfl,rfl⟩;simp
   | some a=> exact h.elim
  | _=> exact h.elim
 | _=> exact h.elim
theorem af8(H:aj){x:AV}{l:List Int}(hx:aG H x 1 l.length (l.map I))(hl:l.length < 1000000000):cl 75 [x] H=some (dat l,H):=by
 by_cases h0:l=[]
 ·subst h0;have e1:app 3 1 8 zN x H.guard=some (zN,H.guard):=by
   obtain⟨c1,c2⟩:=hx.guard.sW;simp only [app,c1,c2];rfl
  refine fZ rfl rfl (ai8 _ _ _ (r:=(zN,H.guard)) ?_) (by rw [dat,dU];exact iq);simp -implicitDefEqProofs only [xq_,afF,e1]
 ·have e1:=Iz (e:=3) (by_:=8) hx.guard (uT l) (λe=> h0 (zao e)) (by unfold most;omega) (by unfold most;omega);refine fZ rfl rfl (ai8 _ _ _ (r:=(.sl H.next 0 0 1 l.length l.length false,H.guard.new (.blk 0 (3+fA) (l.map I)))) ?_) (Gv h0 (zac _) (aK rfl));simp -implicitDefEqProofs only [xq_,afF,e1]
theorem ane(H:aj){x:AV}{l:List Int}(hx:aG H x 1 l.length (l.map I)){n:Int}(h0:0<=n)(hn:n < 1000000000):cl 44 [x,I n] H=some (dat (l.take n.toNat),H):=by
 refine aO rfl rfl (apZ _ _ _ _ ?_);have e1:=hx.lnS;obtain⟨y,e2,e3⟩:=hx.upto (k:=.i64) (hi:=min (l.length:Int) n) (by omega) (by omega);have ht:(min (l.length:Int) n).toNat=(l.take n.toNat).length:=by rw [zat];omega
 rw [ht,zbE,<-List.map_take,zat] at e3;have hm:l.take (min n.toNat l.length)=l.take n.toNat:=by
  rcases Nat.le_total n.toNat l.length with h | h
  ·rw [zbe h]
  ·rw [Nat.min_eq_right h,zar (zac _),zar h]
 rw [hm,<-zat] at e3;have e4:=af8 H e3 (by rw [zat];omega);simp -implicitDefEqProofs only [xq_,aiR,e1,Vx,e2,e4]
def jF.cfg(s:jF)(zi:List Int):Cfg:=
 ⟨1+aW s.nodes 4,1+aW s.lines 4,1+aW s.words 2,1+aW s.sets 2,1+aW s.ways 2,1+aW s.out 3,1+aW s.inn 3,zi.take ((1+aW s.lines 4)*(1+aW s.words 2)).toNat⟩
theorem uq {x:AV}{l:List Int}(h:aG aj.empty x 1 l.length (l.map I))(H:aj):aG H x 1 l.length (l.map I):=
 h.ig (zaU _) λr _ hr=> absurd hr (Nat.not_lt_zero r)
theorem fD(v:Int){n:Int}(h:1<=n)(h':n<=1000):1<=1+aW v n/\1+aW v n<=n/\IntKind.wrap .i64 (1+aW v n)=1+aW v n:=by
 have:=kH (v:=v) h;exact⟨by omega,by omega,wrap_i64 (by omega) (by omega)⟩
theorem aeh(s:jF)(zi:List Int):(s.cfg zi).ok=true:=by
 have a1:=fD s.nodes (n:=4) (by omega) (by omega);have a2:=fD s.lines (n:=4) (by omega) (by omega);have a3:=fD s.words (n:=2) (by omega) (by omega);have a4:=fD s.sets (n:=2) (by omega) (by omega);have a5:=fD s.ways (n:=2) (by omega) (by omega);have a6:=fD s.out (n:=3) (by omega) (by omega);have a7:=fD s.inn (n:=3) (by omega) (by omega);have hm:0<=(1+aW s.lines 4)*(1+aW s.words 2):=zcg (by omega) (by omega);simp only [Cfg.ok,jF.cfg,zaj,zat];obtain⟨b1,c1,_⟩:=a1;obtain⟨b2,c2,_⟩:=a2;obtain⟨b3,c3,_⟩:=a3;obtain⟨b4,c4,_⟩:=a4;obtain⟨b5,c5,_⟩:=a5;obtain⟨b6,c6,_⟩:=a6;obtain⟨b7,c7,_⟩:=a7;generalize (1+aW s.lines 4)*(1+aW s.words 2)=z at hm ⊢;exact⟨⟨⟨⟨⟨⟨⟨⟨decide_eq_true b1,decide_eq_true (by omega)⟩,⟨decide_eq_true b2,decide_eq_true (by omega)⟩⟩,⟨decide_eq_true b3,decide_eq_true (by omega)⟩⟩,⟨decide_eq_true b4,decide_eq_true (by omega)⟩⟩,⟨decide_eq_true b5,decide_eq_true (by omega)⟩⟩,⟨decide_eq_true b6,decide_eq_true (by omega)⟩⟩,⟨decide_eq_true b7,decide_eq_true (by omega)⟩⟩,decide_eq_true (by omega)⟩
theorem Yj(c:Cfg):Frz 9 (.agg c.av):=kF λx hx=> by
 simp only [Cfg.av,zam,zaH,or_false] at hx;rcases hx with rfl | rfl | rfl | rfl | rfl | rfl | rfl | rfl <;> first | exact eH | exact rD
theorem Me(H:aj){s:jF}{zi zw zk za zv:List Int}(h:s.Ok zi zw zk za zv)(hi:aG aj.empty s.init 1 zi.length (zi.map I))(hc:s.init.aH=true/\s.who.aH=true/\s.kinds.aH=true/\s.jy.aH=true/\s.values.aH=true):
  cl 23 [.agg s.cells] H=some (.agg (s.cfg zi).av,H):=by
 refine aY rfl rfl (ape _ _ _) ?_ (Yj _);have a1:=fD s.nodes (n:=4) (by omega) (by omega);have a2:=fD s.lines (n:=4) (by omega) (by omega);have a3:=fD s.words (n:=2) (by omega) (by omega);have a4:=fD s.sets (n:=2) (by omega) (by omega);have a5:=fD s.ways (n:=2) (by omega) (by omega);have a6:=fD s.out (n:=3) (by omega) (by omega);have a7:=fD s.inn (n:=3) (by omega) (by omega);have hm:0<=(1+aW s.lines 4)*(1+aW s.words 2):=zcg (by omega) (by omega);have hm2:(1+aW s.lines 4)*(1+aW s.words 2)<=4*2:=zbV (by omega) (by omega) (by omega) (by omega);have w:=wrap_i64 (a:=(1+aW s.lines 4)*(1+aW s.words 2)) (by omega) (by omega);have e1:=λH v=> lg H v 4 (by omega);have e2:=λH v=> lg H v 2 (by omega);have e3:=λH v=> lg H v 3 (by omega);have e4:=λH=> ane H (uq hi H) hm (by omega);have hall:s.cells.all AV.aH=true:=by
  simp only [jF.cells,List.all_cons,List.all_nil,hc,Bool.and_true];rfl
 simp only [jF.cells] at hall;have ev:∀a b c d e f k:Int,bd 39 [(0,I a),(1,I b),(2,I c),(3,I d),(4,I e),(5,I f),(6,I k)]=some (.agg [I a,I b,I c,I d,I e,I f,I k,zN]):=λ_ _ _ _ _ _ _=> by
  simp -implicitDefEqProofs only [xq_,aeV,gK,dM,aeU];rfl
 have zc:zN.cells=[zN]:=rfl;have zi':zN.aH=true:=rfl;simp -implicitDefEqProofs only [Nat.reduceLT,Nat.reduceAdd,setAt,xq_,hq_,aiC,aB hall,jF.cells,e1,e2,e3,bf,a1,a2,a3,a4,a5,a6,a7,ev,gV,w,e4,zi'];rfl
def kindOf(z:Int):Int:=[1,2,3,1,2,1,4].getD (aW z 7).toNat 0
def Yk(c:Cfg)(zk za zv:List Int)(i:Nat):Opn:=
 ⟨kindOf (atM zk i),aW (atM za i) (c.lines*c.words),if kindOf (atM zk i)=2∨kindOf (atM zk i)=3 then atM zv i else 0⟩
def iI(c:Cfg)(zw zk za zv:List Int)(ps:List (List Opn))(i:Nat):List (List Opn):=
 let n:=(aW (atM zw i) c.nodes).toNat
 if(ps.getD n []).length < 24 then ps.set n (ps.getD n []++[Yk c zk za zv i]) else ps
def kJ(c:Cfg)(zw zk za zv:List Int):Nat->List (List Opn)
 | 0=> List.replicate c.nodes.toNat []
 | i+1=> iI c zw zk za zv (kJ c zw zk za zv i) i
def mY(c:Cfg)(zw zk za zv:List Int)(most:Nat):List (List Opn):=kJ c zw zk za zv (min zw.length most)
def MB(ps:List (List Opn)):List Cell:=ps.map λl=> .seq 3 (l.flatMap Opn.av)
theorem nZ(c:Cfg)(zw zk za zv:List Int):∀i,(kJ c zw zk za zv i).length=c.nodes.toNat
 | 0=> by simp [kJ]
 | i+1=> by
  simp only [kJ,iI];split
  ·rw [zb3,nZ c zw zk za zv i]
  ·exact nZ c zw zk za zv i
theorem aei {H:aj}{r n j:Nat}{ty:TypeId}{xs:List AV}(hg:H.get r=.blk 0 ty xs)(h:j < n){k:IntKind}:ix 1 (.sl r 0 0 1 n n true) (.s (.int k j)) H=some (.ref r 0 j,H):=by
 have h1:(0:Int)<=j/\(j:Int) < n:=by omega
 simp [ix,jw,ixO,h,aU,hg,ag4,dV.gen]
theorem Ue(z:Int):kindOf z=1∨kindOf z=2∨kindOf z=3∨kindOf z=4:=by
 have h:=kH (v:=z) (n:=7) (by omega);unfold kindOf;generalize hk:(aW z 7).toNat=k;have:k < 7:=by omega
 match k,this with
 | 0,_ | 1,_ | 2,_ | 3,_ | 4,_ | 5,_ | 6,_=> simp
theorem RQ {ps:List (List Opn)}{j:Nat}(h:j < ps.length):(MB ps)[j]?=some (.seq 3 ((ps.getD j []).flatMap Opn.av)):=by
 simp [MB,zay,zab h]
theorem aa5 {ps:List (List Opn)}{j:Nat}{l:List Opn}:(MB ps).set j (.seq 3 (l.flatMap Opn.av))=MB (ps.set j l):=by
 simp [MB,List.map_set]
section
variable {H:aj}{s:jF}{zi zw zk za zv:List Int}
theorem Px {C:Callee}(hCa:C 45=cl 45)(hCw:C 13=cl 13)(h:s.Ok zi zw zk za zv)(hi:aG aj.empty s.init 1 zi.length (zi.map I))(hw:aG aj.empty s.who 1 zw.length (zw.map I))(hk:aG aj.empty s.kinds 1 zk.length (zk.map I))(ha:aG aj.empty s.jy 1 za.length (za.map I))(hv:aG aj.empty s.values 1 zv.length (zv.map I))
  {c:Cfg} (hc:c.ok=true) {p q r n:Nat} {ty ty':TypeId} (hp:p < H.next) (hq:q < H.next) (gp:H.get p=.blk 0 ty s.cells) (gq:H.get q=.blk 0 ty' c.av) {b:Nat} {ps:List (List Opn)} (G:Good b H (upd nil0 r (MB ps))) (hb:H.base<=b) (hn:ps.length=n) (hnc:(n:Int)=c.nodes)
  {i:Nat} {mo:Int} (him:(i:Int) < mo) (hm:mo<=1000) (hil:i < zw.length) (hz:∀j,j < n->ps.getD j []=[]->ld (.ref r 0 j) H=some (zN,H)):
  ∃H',wM C [I mo,.ref p 0 0,.ref q 0 0,.sl r 0 0 1 n n true,I i] H=wM C [I mo,.ref p 0 0,.ref q 0 0,.sl r 0 0 1 n n true,I (i+1:Nat)] H'/\Good b H' (upd nil0 r (MB (iI c zw zk za zv ps i)))/\Step b H H'/\(∀j,j < n->(iI c zw zk za zv ps i).getD j []=[]->ld (.ref r 0 j) H'=some (zN,H')):=by
 have Bd:=pR hc;have e8:ld (.ref p 0 8) H=some (s.who,H):=by rw [dJ gp];rfl
 have e9:ld (.ref p 0 9) H=some (s.kinds,H):=by rw [dJ gp];rfl
 have e10:ld (.ref p 0 10) H=some (s.jy,H):=by rw [dJ gp];rfl
 have e11:ld (.ref p 0 11) H=some (s.values,H):=by rw [dJ gp];rfl
 have f0:ld (.ref q 0 0) H=some (I c.nodes,H):=by rw [dJ gq];rfl
 have f1:ld (.ref q 0 1) H=some (I c.lines,H):=by rw [dJ gq];rfl
 have f2:ld (.ref q 0 2) H=some (I c.words,H):=by rw [dJ gq];rfl
 have w0:=λH=> (uq hw H).lnS;have h1:(i:Int) < zw.length:=by omega
 have a1:=λH=> af7 H (uq hk H) (i:=(i:Int)) (by omega);have a2:=λH=> af7 H (uq ha H) (i:=(i:Int)) (by omega);have a3:=λH=> af7 H (uq hv H) (i:=(i:Int)) (by omega);have k1:=λH v=> lg H v 7 (by omega);have hlw:=Bd.jy;have w:=wrap_i64 (a:=c.lines*c.words) (by omega) (by omega);have k2:=λH v=> lg H v (c.lines*c.words) (by omega);have k3:=λH v=> lg H v c.nodes (by have:=Bd.nodes;omega);rw [<-hCa] at a1 a2 a3;rw [<-hCw] at k1 k2 k3;have eb7:∀H,bs 22 7 [(0,I 1),(1,I 2),(2,I 3),(3,I 1),(4,I 2),(5,I 1),(6,I 4)] H=some (.sl H.next 0 0 1 7 7 true,H.new (.blk 0 3 [I 1,I 2,I 3,I 1,I 2,I 1,I 4])):=λH=>
  (KJ (by decide)).trans rfl
 let b7:dV:=.blk 0 3 [I 1,I 2,I 3,I 1,I 2,I 1,I 4];let Hc:=(H.new b7).new (.blk 0 119 [zI,zI,zI]);have hK:=kH (v:=atM zk i) (n:=7) (by omega);have s7:aG Hc (.sl H.next 0 0 1 7 7 true) 1 7 [I 1,I 2,I 3,I 1,I 2,I 1,I 4]:=(jE (n:=7) (m:=1) rfl).new _;have i7:=s7.ix (k:=.i64) hK.1 hK.2;have l7:=s7.ld (i:=(aW (atM zk i) 7).toNat) (by omega);have l7':ld (dh (.sl H.next 0 0 1 7 7 true) (aW (atM zk i) 7).toNat) Hc=some (I (kindOf (atM zk i)),Hc):=by
  rw [l7];unfold kindOf;generalize hk':(aW (atM zk i) 7).toNat=kk;have:kk < 7:=by omega
  match kk,this with
  | 0,_ | 1,_ | 2,_ | 3,_ | 4,_ | 5,_ | 6,_=> rfl
 obtain⟨o,ho⟩:∃o:Opn,o=Yk c zk za zv i:=⟨_,rfl⟩
 let Hd:=(H.new b7).new (.blk 0 119 o.av);have hcn:=kH (v:=atM zw i) (n:=c.nodes) (by have:=Bd.nodes;omega);obtain⟨j,hj⟩:∃j:Nat,aW (atM zw i) c.nodes=j:=⟨(aW (atM zw i) c.nodes).toNat,by omega⟩
 have hjn:j < n:=by omega
 have wi:=λH=> (uq hw H).ix (k:=.i64) (i:=(i:Int)) (by omega) h1;have wl:∀H,ld (dh s.who (i:Int).toNat) H=some (I (atM zw i),H):=λH=> by
  rw [zaq,(uq hw H).ld hil,zaD,zab hil];unfold atM;rw [if_pos h1,zaq,zay,zab hil];rfl
 have G1:Good b Hd (upd nil0 r (MB ps)):=(G.new _).new _;have og:=RQ (ps:=ps) (j:=j) (by omega);obtain⟨x,hx,cu⟩:=G1.seq upd_same og;have hlen:=(cu.is (by decide) (bn dD _)).lnS;have hg:∃ty xs,Hd.get r=.blk 0 ty xs:=by
  obtain⟨_,τ,hR⟩:=G1;obtain⟨ty,xs,hg,_⟩:=(hR r _ upd_same).blk;exact⟨ty,xs,hg⟩
 obtain⟨rty,rxs,hg⟩:=hg;have ix1:=aei (k:=.i64) hg hjn;have h6:(i:Int)+1=((i+1:Nat):Int):=by omega
 have h7:=wrap_i64 (a:=((i+1:Nat):Int)) (by omega) (by omega);have f0':ld (.ref q 0 0) Hd=some (I c.nodes,Hd):=by
  simp only [Hd];rw [Aa (by rw [nNew];omega),Aa hq,f0];rfl
 have e8':ld (.ref p 0 8) Hd=some (s.who,Hd):=by
  simp only [Hd];rw [Aa (by rw [nNew];omega),Aa hp,e8];rfl
 have hzd:∀j,j < n->ps.getD j []=[]->ld (.ref r 0 j) Hd=some (zN,Hd):=λj' h1 h2=> by
  simp only [Hd];rw [Aa (by rw [nNew];have:=G.lt upd_same;omega),Aa (G.lt upd_same),hz j' h1 h2];rfl
 have sd:Step b H Hd:=(Step.new _ G.1).trans (Step.new _ (G.new _).1);have tail:∃H',Eb C (I mo) (.ref p 0 0) (.ref q 0 0) (.sl r 0 0 1 n n true) (I i) (.ref (H.next+1) 0 0) Hd=wM C [I mo,.ref p 0 0,.ref q 0 0,.sl r 0 0 1 n n true,I (i+1:Nat)] H'/\Good b H' (upd nil0 r (MB (iI c zw zk za zv ps i)))/\Step b H H'/\(∀j,j < n->(iI c zw zk za zv ps i).getD j []=[]->ld (.ref r 0 j) H'=some (zN,H')):=by
  by_cases hl:(ps.getD j []).length < 24
  ·have hl':((ps.getD j []).length:Int) < 24:=by omega
   obtain⟨x',Hf,t1,fit,n1,b1,k1'⟩:=(cu.new (.blk 0 119 o.av)).app (e:=119) (by_:=24) (by rw [bNew];exact hb) (by decide) (bn dD _) (jE (ex:=true) (n:=1) (m:=3) (l:=o.av) rfl) (lI o) (by unfold most;omega) (by unfold most;omega);have hrl:r < Hd.next:=G1.lt upd_same
   have hxr:nameOf x≠some r:=by
    rcases cu.own with⟨rfl,_⟩ | ⟨r',gg,off,n',cap,ex,ty2,all,rfl,kr,_⟩
    ·intro e;cases e
    ·intro e;simp only [nameOf,zaa] at e;exact kr e
   have hgf:Hf.get r=.blk 0 rty rxs:=by
    rw [k1' r (by rw [nNew];omega) hxr,aQ hrl,hg]
   have ix2:=aei (k:=.i64) hgf hjn;obtain⟨Hg,t2,G2,s2,n2⟩:=(G1.new (.blk 0 119 o.av)).seat upd_same og (cu.new _) n1 (by rw [b1,bNew];exact hb) k1' fit;have hfs:Step b (Hd.new (.blk 0 119 o.av)) Hf:=⟨b1,n1,λr' hr'=> k1' r' (by have:=G1.1;rw [nNew];omega) (cu.low hr')⟩
   refine⟨Hg,?_,?_,((sd.trans (Step.new _ G1.1)).trans hfs).trans s2,?_⟩
   ·have ldo:lda 3 (.ref (H.next+1) 0 0) Hd=some (.agg o.av,Hd):=(fP (off:=0) (n:=3) (xs:=o.av) (aK (by rw [nNew])) (zac 3)).trans rfl;have eb:=jD (e:=119) (m:=3) (z:=[zI,zI,zI]) (v:=.agg o.av) (H:=Hd) rfl rfl (lI o);simp only [dG] at eb;simp -implicitDefEqProofs only [xq_,Eb,IW,e8',wi,wl,f0',k3,hj,ix1,hx,hlen,hl',ldo,ace,zbc,Nat.reduceLeDiff,eb,t1,ix2,t2,bf,h6,h7]
   ·rw [mO] at G2;have e:iI c zw zk za zv ps i=ps.set j (ps.getD j []++[o]):=by
     simp only [iI,hj,zaq];rw [if_pos hl,ho]
    rw [e,<-aa5,zbz,zaI,List.flatMap_nil,zbf];exact G2
   ·have e:iI c zw zk za zv ps i=ps.set j (ps.getD j []++[o]):=by
     simp only [iI,hj,zaq];rw [if_pos hl,ho]
    intro j' hj' hem;rw [e] at hem;have hne:j'≠j:=λe'=> by
     subst e';rw [zay,zbw (by omega)] at hem;simp at hem
    have aun:ps.getD j' []=[]:=by
     rw [zay,zbT (by omega)] at hem;rw [zay];exact hem
    have l0:=hzd j' hj' aun;rw [dJ hg] at l0;have hxj:rxs[j']?=some zN:=by
     cases hx':rxs[j']? with
     | none=> rw [hx'] at l0;cases l0
     | some v=> rw [hx'] at l0;simp only [zah,zaa,zad] at l0;rw [l0.1]
    rw [Iy] at t2;simp only [hgf] at t2;split at t2
    ·rename_i hc';simp only [zaa,zad,true_and] at t2;subst t2;obtain⟨_,_,hx1,_,hx5⟩:=hc';rw [dJ (Dy),kW hx5,if_neg (by omega),hxj];rfl
    ·cases t2
  ·have hl':¬((ps.getD j []).length:Int) < 24:=by omega
   refine⟨Hd,?_,?_,sd,?_⟩
   ·simp -implicitDefEqProofs only [xq_,Eb,IW,e8',wi,wl,f0',k3,hj,ix1,hx,hlen,hl',bf,h6,h7]
   ·have e:iI c zw zk za zv ps i=ps:=by
     simp only [iI,hj,zaq];rw [if_neg hl]
    rw [e];exact G1
   ·have e:iI c zw zk za zv ps i=ps:=by
     simp only [iI,hj,zaq];rw [if_neg hl]
    rw [e];exact hzd
 obtain⟨H',t1,t2⟩:=tail;refine⟨H',?_,t2⟩;simp only [Hd,Hc,b7] at t1 i7 l7';have hb0:H.base<=H.next:=zaz hb G.1
 have hb1:H.base<=H.next+1:=by omega
 rw [WL,<-t1,ho];by_cases c2:kindOf (atM zk i)=2
 ·have oe:(Yk c zk za zv i).av=[I (kindOf (atM zk i)),I (aW (atM za i) (c.lines*c.words)),I (atM zv i)]:=by simp [Yk,Opn.av,c2]
  simp -implicitDefEqProofs only [Nat.reduceAdd,setAt,xq_,hq_,hp,hq,e8,e9,e10,e11,f1,f2,w0,h1,him,eb7,a1,a2,a3,k1,k2,i7,l7',gV,w,QE,gK,dM,QD,hb1,c2,oe]
 ·by_cases c3:kindOf (atM zk i)=3
  ·have oe:(Yk c zk za zv i).av=[I (kindOf (atM zk i)),I (aW (atM za i) (c.lines*c.words)),I (atM zv i)]:=by simp [Yk,Opn.av,c3]
   simp -implicitDefEqProofs only [Int.reduceEq,Nat.reduceAdd,setAt,xq_,hq_,hp,hq,e8,e9,e10,e11,f1,f2,w0,h1,him,eb7,a1,a2,a3,k1,k2,i7,l7',gV,w,QE,gK,dM,QD,hb1,c3,oe]
  ·have oe:(Yk c zk za zv i).av=[I (kindOf (atM zk i)),I (aW (atM za i) (c.lines*c.words)),I 0]:=by simp [Yk,Opn.av,c2,c3]
   simp -implicitDefEqProofs only [Nat.reduceAdd,setAt,xq_,hq_,hp,hq,e8,e9,e10,e11,f1,f2,w0,h1,him,eb7,a1,a2,a3,k1,k2,i7,l7',gV,w,QE,gK,dM,QD,hb1,c2,c3,oe]
end
theorem Yl {α β:Type}{f:α->Option β}:∀(xs:List α) (ys:List β),xs.length=ys.length->(∀(i:Nat) x y,xs[i]?=some x->ys[i]?=some y->f x=some y)->xs.mapM f=some ys
 | [],[],_,_=> rfl
 | x::xs,y::ys,hl,h=> by
  have h0:=h 0 x y rfl rfl;have:=Yl (f:=f) xs ys (by simpa using hl) λi a b ha hb=> h (i+1) a b ha hb;rw [zbn,h0,this];rfl
 | [],_::_,hl,_=> by simp at hl
 | _::_,[],hl,_=> by simp at hl
theorem Uf {b r n sN:Nat}{H:aj}{ps:List (List Opn)}(G:Good b H (upd nil0 r (MB ps)))(hs:sN<=b)(hn:ps.length=n)(hz:∀j,j < n->ps.getD j []=[]->ld (.ref r 0 j) H=some (zN,H)):
  aX H sN 9 (.sl r 0 0 1 n n true)=some (.vs n 1 (ps.map (vsl 3 Opn.av))):=by
 have hg:∃ty xs,H.get r=.blk 0 ty xs/\xs.length=n:=by
  obtain⟨_,τ,hR⟩:=G;obtain⟨ty,xs,hg,hl,_⟩:=(hR r _ upd_same).blk;exact⟨ty,xs,hg,by rw [hl];simp [MB,hn]⟩
 obtain⟨ty,xs,hg,hl⟩:=hg;have hbr:b<=r:=G.le upd_same;refine jC (by omega) (cells:=xs) ?_ (Yl _ _ (by rw [hl,zaE,hn]) λi x y hx hy=> ?_)
 ·simp only [aZ,hg];rw [if_pos ⟨trivial,by omega⟩,zaO,zar (by omega)]
 ·rw [zaD,zbm] at hy;obtain⟨l,hpl,rfl⟩:=hy;have hi:i < n:=by have:=(zaf.1 hpl).1;omega
  have hgd:ps.getD i []=l:=by rw [zay,hpl];rfl
  by_cases h0:l=[]
  ·have e:=hz i hi (by rw [hgd,h0]);rw [dJ hg,hx] at e;simp only [zah,zaa,zad,and_true] at e;rw [e,h0,dU];exact iq
  ·obtain⟨x',hx',cu⟩:=G.seq upd_same (RQ (ps:=ps) (j:=i) (by omega));rw [dJ hg,hx] at hx';simp only [zah,zaa,zad,and_true] at hx';subst hx';rw [hgd] at cu;have hs':=cu.is (by decide) (bn dD l);obtain⟨c1,c2⟩:=hs'.sW;rcases cu.own with⟨_,e⟩ | ⟨r',gg,off,n',cap,ex,ty2,all,rfl,kr,kb,_⟩
   ·have:=congrArg List.length e;rw [bn dD] at this;simp only [zaw] at this;exact absurd (zao (by omega)) h0
   ·have hn':n'=l.length:=hs'.2.2.1;subst hn';rw [Bf h0];refine jC (by omega) c2 (fO _ λy hy=> ?_);obtain⟨o,_,ho⟩:=za5.1 hy;simp only [Opn.av,zam,zaH,or_false] at ho;rcases ho with rfl | rfl | rfl <;> exact iq
theorem anf(H:aj)(ps:List (List Opn)):RH H (.vs ps.length 1 (ps.map (vsl 3 Opn.av))) ps:=
 ⟨_,aG.vs (by simp),λi v l h1 h2=> by
  rw [zaD,h2] at h1;cases h1;exact⟨Du dD H l,λh=> by rw [h,dU]⟩⟩
section
variable {H:aj}{s:jF}{zi zw zk za zv:List Int}
theorem MC {C:Callee}(hCa:C 45=cl 45)(hCw:C 13=cl 13)(hCc:C 23=cl 23)(H:aj)(hbn:H.base<=H.next)(h:s.Ok zi zw zk za zv)(hi:aG aj.empty s.init 1 zi.length (zi.map I))(hw:aG aj.empty s.who 1 zw.length (zw.map I))(hk:aG aj.empty s.kinds 1 zk.length (zk.map I))(ha:aG aj.empty s.jy 1 za.length (za.map I))(hv:aG aj.empty s.values 1 zv.length (zv.map I))
  (hc:s.init.aH=true/\s.who.aH=true/\s.kinds.aH=true/\s.jy.aH=true/\s.values.aH=true) {mo:Nat} (hm:mo<=1000):
  ∃Hz r,r=H.next+2/\afl C (.agg s.cells) (I mo) H=some (.sl r 0 0 1 (s.cfg zi).nodes.toNat (s.cfg zi).nodes.toNat true,Hz)/\Good (H.next+2) Hz (upd nil0 r (MB (mY (s.cfg zi) zw zk za zv mo)))/\Step H.next H Hz/\(∀j,j < (s.cfg zi).nodes.toNat->(mY (s.cfg zi) zw zk za zv mo).getD j []=[]->ld (.ref r 0 j) Hz=some (zN,Hz)):=by
 let c:=s.cfg zi;have hck:c.ok=true:=aeh s zi;have Bd:=pR hck;let n:=c.nodes.toNat;let H1:=H.new (.blk 0 24 s.cells);let H2:=H1.new (.blk 0 39 c.av);let H3:=H2.new (.blk 0 100 (bI [zN] n));let r:=H.next+2
 have hall:s.cells.all AV.aH=true:=by
  simp only [jF.cells,List.all_cons,List.all_nil,hc,Bool.and_true];rfl
 have M0:Made H2 H3 (upd nil0 r (MB (kJ c zw zk za zv 0))):=by
  refine jK ?_ ?_ λi cc x hcc hx=> ?_
  ·rw [jI];simp;right;rfl
  ·rw [jI];simp [MB,kJ,n]
  ·rw [jI,zbs] at hx;simp only [MB,kJ,List.map_replicate,zbs] at hcc;by_cases hin:i < n
   ·rw [if_pos hin] at hx hcc;simp only [zaa] at hx hcc;subst hx;subst hcc;exact .inr ⟨rfl,3,rfl⟩
   ·rw [if_neg hin] at hx;cases hx
 have gp:H2.get H.next=.blk 0 24 s.cells:=by
  simp only [H2];rw [aQ (by simp only [H1,nNew];omega)];exact aK rfl
 have gq:H2.get (H.next+1)=.blk 0 39 c.av:=aK rfl;have b2:H2.base=H.base:=rfl;have n2:H2.next=H.next+2:=rfl
 have key:∀k i,i+k=min zw.length mo->∀Hi,Good H2.next Hi (upd nil0 r (MB (kJ c zw zk za zv i)))->Step H2.next H2 Hi->(∀j,j < n->(kJ c zw zk za zv i).getD j []=[]->ld (.ref r 0 j) Hi=some (zN,Hi))->
   ∃Hz,Step H2.next H2 Hz/\wM C [I mo,.ref H.next 0 0,.ref (H.next+1) 0 0,.sl r 0 0 1 n n true,I i] Hi=some (.sl r 0 0 1 n n true,Hz)/\Good H2.next Hz (upd nil0 r (MB (mY c zw zk za zv mo)))/\(∀j,j < n->(mY c zw zk za zv mo).getD j []=[]->ld (.ref r 0 j) Hz=some (zN,Hz)):=by
  intro k
  induction k with
  | zero=>
   intro i hik Hi G st hz;have e8:ld (.ref H.next 0 8) Hi=some (s.who,Hi):=by rw [dJ (by rw [st.low _ (by omega)];exact gp)];rfl
   have w0:=λH=> (uq hw H).lnS;have hi':min zw.length mo=i:=by omega
   refine⟨Hi,st,?_,by rw [mY,hi'];exact G,by rw [mY,hi'];exact hz⟩;rw [WL];by_cases h1:(i:Int) < zw.length
   ·have h2:¬(i:Int) < mo:=by omega
    simp -implicitDefEqProofs only [xq_,e8,w0,h1,h2]
   ·simp -implicitDefEqProofs only [xq_,e8,w0,h1]
  | succ k ih=>
   intro i hik Hi G st hz;obtain⟨H',t1,t2,t3,t4⟩:=Px hCa hCw h hi hw hk ha hv hck (p:=H.next) (q:=H.next+1) (r:=r) (n:=n) (by have:=st.next;omega) (by have:=st.next;omega) (by rw [st.low _ (by omega)];exact gp) (by rw [st.low _ (by omega)];exact gq) G (by rw [st.base,b2,n2];omega) (nZ _ _ _ _ _ _) (by have:=Bd.nodes;omega) (i:=i) (mo:=mo) (by omega) (by omega) (by omega) hz;rw [t1];exact ih (i+1) (by omega) H' t2 (st.trans t3) t4
 have g3:H3.get r=.blk 0 100 (bI [zN] n):=aK n2.symm;obtain⟨Hz,r0,r1,r2,r3⟩:=key (min zw.length mo) 0 (by omega) H3 M0.good (Step.new _ (zac _)) (λj hj _=> by
  rw [dJ g3,jI,zbs,if_pos hj];rfl)
 have hs:Step H.next H Hz:=(Step.new _ (zac _)).trans ((Step.new _ (za8 _)).trans ⟨r0.base,r0.next,λr hr=> r0.low r (by omega)⟩)
 refine⟨Hz,r,rfl,?_,r2,hs,r3⟩;have e1:=λH=> Me H h hi hc;rw [<-hCc] at e1;have hn:=Bd.nodes;have e2:=VW (e:=100) (m:=1) (by_:=24) (z:=[zN]) (n:=c.nodes) (H:=H2) rfl rfl (by omega) (by omega) (by decide);have ls:s.cells.length=12:=rfl;have lt:s.cells.take 12=s.cells:=rfl;have l0:c.av[0]?=some (I c.nodes):=rfl;have cc:(AV.agg c.av).cells=c.av:=rfl;have lc:c.av.length=8:=rfl;rw [n2] at e2;simp only [H2,H1] at e2;have hnn:c.nodes.toNat=n:=rfl;rw [hnn] at e2;simp only [c] at e2 l0;have hb1:H.base<=H.next+1:=by omega
 simp -implicitDefEqProofs only [Nat.reduceLT,Nat.reduceAdd,setAt,xq_,hq_,afl,aB hall,ls,lt,e1,l0,e2,hb1];exact r1
theorem Py(H:aj)(h:s.Ok zi zw zk za zv)(hi:aG aj.empty s.init 1 zi.length (zi.map I))(hw:aG aj.empty s.who 1 zw.length (zw.map I))(hk:aG aj.empty s.kinds 1 zk.length (zk.map I))(ha:aG aj.empty s.jy 1 za.length (za.map I))(hv:aG aj.empty s.values 1 zv.length (zv.map I))
  (hc:s.init.aH=true/\s.who.aH=true/\s.kinds.aH=true/\s.jy.aH=true/\s.values.aH=true) {mo:Nat} (hm:mo<=1000):
  ∃ps,ps=mY (s.cfg zi) zw zk za zv mo/\cl 24 [.agg s.cells,I mo] H=some (.vs ps.length 1 (ps.map (vsl 3 Opn.av)),H):=by
 refine⟨_,rfl,?_⟩;obtain⟨Hz,r,hr,e,G,st,hz⟩:=MC (C:=cl) rfl rfl rfl H.guard (zac _) h hi hw hk ha hv hc hm;have hlen:(mY (s.cfg zi) zw zk za zv mo).length=(s.cfg zi).nodes.toNat:=nZ _ _ _ _ _ _;have fz:=Uf (sN:=H.next) G (by simp only [yI];omega) hlen hz;exact fZ rfl rfl (apf _ _ _ _ e) (by rw [fz,hlen])
end
theorem zD(c:Cfg)(zw zk za zv:List Int):∀i,∀l∈kJ c zw zk za zv i,l.length<=24
 | 0,l,h=> by
  rw [List.eq_of_mem_replicate h];decide
 | i+1,l,h=> by
  simp only [kJ,iI] at h;split at h
  ·rename_i hl;rcases zbM h with h | rfl
   ·exact zD c zw zk za zv i l h
   ·rw [zan];simp only [zal,zaw];omega
  ·exact zD c zw zk za zv i l h
theorem Ug(H:aj)(n m:Int):cl 76 [I n,I m] H=some (B (within n m),H):=by
 refine aY rfl rfl (aro _ _ _ _) ?_ eH;by_cases h:1<=n
 ·simp -implicitDefEqProofs only [xq_,afG,h,within,zaN]
 ·simp -implicitDefEqProofs only [xq_,afG,h,within,zaP]
theorem ang {c:Cfg}(h1:within c.lines 8=true)(h2:within c.words 4=true):IntKind.wrap .i64 (c.lines*c.words)=c.lines*c.words:=by
 simp only [within,zaj,decide_eq_true_eq] at h1 h2;have:c.lines*c.words<=8*4:=zbV h1.2 h2.2 (by omega) (by omega);have:0<=c.lines*c.words:=zcg (by omega) (by omega);exact wrap_i64 (by omega) (by omega)
theorem Ym(H:aj)(c:Cfg):cl 46 [.agg c.av] H=some (B c.ok,H):=by
 refine aY rfl rfl (ap5 _ _ _) ?_ eH;have w:=λH n m=> Ug H n m;have e1:=λH=> (jr H c.init).lnS;cases h1:within c.nodes 6
 ·simp -implicitDefEqProofs only [Nat.reduceLT,xq_,hq_,I5,aB,Cfg.av,Cfg.ok,w,h1,zaP]
 cases h2:within c.lines 8
 ·simp -implicitDefEqProofs only [Nat.reduceLT,xq_,hq_,I5,aB,Cfg.av,Cfg.ok,w,h1,h2,zaP,zaN]
 cases h3:within c.words 4
 ·simp -implicitDefEqProofs only [Nat.reduceLT,xq_,hq_,I5,aB,Cfg.av,Cfg.ok,w,h1,h2,h3,zaP,zaN]
 cases h4:within c.sets 4
 ·simp -implicitDefEqProofs only [Nat.reduceLT,xq_,hq_,I5,aB,Cfg.av,Cfg.ok,w,h1,h2,h3,h4,zaP,zaN]
 cases h5:within c.ways 3
 ·simp -implicitDefEqProofs only [Nat.reduceLT,xq_,hq_,I5,aB,Cfg.av,Cfg.ok,w,h1,h2,h3,h4,h5,zaP,zaN]
 cases h6:within c.out 8
 ·simp -implicitDefEqProofs only [Nat.reduceLT,xq_,hq_,I5,aB,Cfg.av,Cfg.ok,w,h1,h2,h3,h4,h5,h6,zaP,zaN]
 cases h7:within c.inn 8
 ·simp -implicitDefEqProofs only [Nat.reduceLT,xq_,hq_,I5,aB,Cfg.av,Cfg.ok,w,h1,h2,h3,h4,h5,h6,h7,zaP,zaN]
 have hm:=ang h2 h3;simp -implicitDefEqProofs only [Nat.reduceLT,xq_,hq_,I5,aB,Cfg.av,Cfg.ok,w,h1,h2,h3,h4,h5,h6,h7,e1,gV,hm,zaN]
theorem aa6(H:aj)(c:Cfg):cl 35 [.agg c.av] H=some (I (if c.ok=true then 0 else 1),H):=by
 by_cases h:c.ok=true
 ·rw [if_pos h];exact RG H c h
 rw [if_neg h];refine aY rfl rfl (aiL _ _ _) ?_ eH;have w:=λH n m=> LX H n m;have e1:=λH=> (jr H c.init).lnS;have two:∀b:Bool,b=false∨b=true:=λb=> by cases b <;> simp
 have hs:within c.nodes 6=false∨(within c.nodes 6=true/\within c.lines 8=false)∨(within c.nodes 6=true/\within c.lines 8=true/\within c.words 4=false)∨(within c.nodes 6=true/\within c.lines 8=true/\within c.words 4=true):=by
  rcases two (within c.nodes 6) with a | a <;> rcases two (within c.lines 8) with b | b <;> rcases two (within c.words 4) with d | d <;> simp only [a,b,d,true_and,and_true,or_true,and_self,or_false,zbR,zai]
 have hc:within c.sets 4=false∨(within c.sets 4=true/\within c.ways 3=false)∨(within c.sets 4=true/\within c.ways 3=true):=by
  rcases two (within c.sets 4) with a | a <;> rcases two (within c.ways 3) with b | b <;> simp only [a,b,true_and,and_true,or_true,and_self,or_false,zbR,zai]
 have hr:within c.out 8=false∨(within c.out 8=true/\within c.inn 8=false)∨(within c.out 8=true/\within c.inn 8=true):=by
  rcases two (within c.out 8) with a | a <;> rcases two (within c.inn 8) with b | b <;> simp only [a,b,true_and,and_true,or_true,and_self,or_false,zbR,zai]
 by_cases hall:within c.nodes 6=true/\within c.lines 8=true/\within c.words 4=true/\within c.sets 4=true/\within c.ways 3=true/\within c.out 8=true/\within c.inn 8=true
 ·obtain⟨h1,h2,h3,h4,h5,h6,h7⟩:=hall;have hm:=ang h2 h3;have k:c.lines*c.words < c.init.length:=by
   simp only [Cfg.ok,h1,h2,h3,h4,h5,h6,h7,zaN,decide_eq_true_eq] at h;omega
  simp -implicitDefEqProofs only [Nat.reduceLT,xq_,hq_,aaB,aB,Cfg.av,w,h1,h2,h3,h4,h5,h6,h7,e1,gV,hm,k,zae]
 ·rcases hs with h1 | ⟨h1,h2⟩ | ⟨h1,h2,h3⟩ | ⟨h1,h2,h3⟩ <;> rcases hc with h4 | ⟨h4,h5⟩ | ⟨h4,h5⟩ <;> rcases hr with h6 | ⟨h6,h7⟩ | ⟨h6,h7⟩ <;>
   first
   | (simp -implicitDefEqProofs only [Nat.reduceLT,xq_,hq_,aaB,aB,Cfg.av, *,zae,zak];done)
   | exact absurd ⟨h1,h2,h3,h4,h5,h6,h7⟩ hall
theorem Yn {c:Cfg}(h:c.ok=true)(a:Int):decide (c.dn a≠-1)=(decide (0<=a) && decide (a < c.lines*c.words)):=by
 have Bd:=pR h;have hw:=Bd.words;by_cases h0:0<=a
 ·by_cases h1:a < c.lines*c.words
  ·have:0<=a / c.words:=Int.ediv_nonneg h0 (by omega);have:¬(a < 0∨c.lines*c.words<=a):=by omega
   simp only [Cfg.dn,Cfg.jy,this,if_false,h0,h1,decide_true,zb7,decide_eq_true_eq];omega
  ·have:a < 0∨c.lines*c.words<=a:=by omega
   simp [Cfg.dn,Cfg.jy,this,h1]
 ·have:a < 0∨c.lines*c.words<=a:=by omega
  simp [Cfg.dn,Cfg.jy,this,h0]
theorem Pz(H:aj)(c:Cfg)(h:c.ok=true)(o:Opn):cl 77 [.agg c.av,.agg o.av] H=some (B (c.right o),H):=by
 refine aY rfl rfl (ars _ _ _ _) ?_ eH;have hl:=Yn h o.addr;have Bd:=pR h;have hm:=wrap_i64 (a:=c.lines*c.words) (by have:=Bd.jy;omega) (by have:=Bd.jy;omega);rw [Cfg.right,hl];have b1:c.av[1]?=some (I c.lines):=rfl;have b2:c.av[2]?=some (I c.words):=rfl;by_cases a:1<=o.kind;rotate_left
 ·simp -implicitDefEqProofs only [Nat.reduceLT,xq_,hq_,Ja,aB,Opn.av,a,zaP]
 by_cases b:o.kind<=4;rotate_left
 ·simp -implicitDefEqProofs only [Nat.reduceLT,xq_,hq_,Ja,aB,Opn.av,a,b,zaP,zaN]
 by_cases d:0<=o.addr;rotate_left
 ·simp -implicitDefEqProofs only [Nat.reduceLT,xq_,hq_,Ja,aB,Opn.av,a,b,d,zaP,zaN]
 by_cases e:o.addr < c.lines*c.words;rotate_left
 ·simp -implicitDefEqProofs only [Nat.reduceLT,xq_,hq_,Ja,aB,Opn.av,b1,b2,a,b,d,e,gV,hm,zaP,zaN]
 by_cases f:o.value=0
 ·simp -implicitDefEqProofs only [Nat.reduceLT,xq_,hq_,Ja,aB,Opn.av,b1,b2,a,b,d,e,f,gV,hm,Bool.true_or]
 by_cases g:o.kind=2
 ·simp -implicitDefEqProofs only [Nat.reduceLT,Int.reduceLE,Int.reduceEq,xq_,hq_,Ja,aB,Opn.av,b1,b2,d,e,f,g,gV,hm,Bool.true_or,zbI]
 by_cases i:o.kind=3
 ·simp -implicitDefEqProofs only [Nat.reduceLT,Int.reduceLE,Int.reduceEq,xq_,hq_,Ja,aB,Opn.av,b1,b2,d,e,f,i,gV,hm,zbI]
 ·simp -implicitDefEqProofs only [Nat.reduceLT,xq_,hq_,Ja,aB,Opn.av,b1,b2,a,b,d,e,f,g,i,gV,hm,zaN,zbI]
def aej(c:Cfg)(l:List Opn):Bool:=decide (l.length<=24) && l.all c.right
theorem af9(H:aj)(c:Cfg)(h:c.ok=true){x:AV}{ps:List (List Opn)}(hx:RH H x ps)(hn:ps.length < 1000000000)(hl:∀l∈ps,l.length < 1000000000):cl 47 [.agg c.av,x] H=some (B (c.pJ ps),H):=by
 refine aY rfl rfl (ap6 _ _ _ _) ?_ eH;let H0:=H.guard.new (.blk 0 39 c.av);have n0:H0.next=H.next+1:=rfl
 have hx1:=hx.ig (H':=H0) (by rw [n0];omega) λr hr=> by simp only [H0];rw [aQ (by rw [yI];exact hr),aoE]
 -- what a memory is that has gone on from there
 have keep:∀{H1:aj},H0.next<=H1.next->(∀r,r < H0.next->H1.get r=H0.get r)->RH H1 x ps/\lda 8 (.ref H.next 0 0) H1=some (.agg c.av,H1)/\ld (.ref H.next 0 0) H1=some (I c.nodes,H1):=by
  intro H1 a b;have g:H1.get H.next=.blk 0 39 c.av:=by rw [b _ (by omega)];exact aK rfl
  exact⟨hx1.ig a b,iL g,by rw [dJ g];rfl⟩
 have l0:c.av[0]?=some (I c.nodes):=rfl;obtain⟨ath,x0,_⟩:=hx1;have e1:=x0.lnS;by_cases hc:(ps.length:Int)=c.nodes;rotate_left
 ·simp only [H0] at e1;simp -implicitDefEqProofs only [Nat.reduceLT,xq_,hq_,afw,aB (dK c),e1,l0,hc,Cfg.pJ,zbZ,zak]
 -- the operations of one program
 have inner:∀(i:Nat) (l:List Opn),ps[i]?=some l->l.length < 1000000000->∀k j,j+k=l.length->(l.take j).all c.right=true->∀H1:aj,H.next<=H1.base->H0.next<=H1.next->(∀r,r < H0.next->H1.get r=H0.get r)->H1.base<=H1.next->∀(u v:AV),aG H0 v 3 l.length (l.flatMap Opn.av)->
   (l.all c.right=false->(uf cl [.ref H.next 0 0,x,I ps.length,I i,v,I l.length,I j] H1).map Prod.fst=some (B false))/\
   (l.all c.right=true->∃H2,H.next<=H2.base/\H0.next<=H2.next/\(∀r,r < H0.next->H2.get r=H0.get r)/\H2.base<=H2.next/\uf cl [.ref H.next 0 0,x,I ps.length,I i,v,I l.length,I j] H1=zq cl [.ref H.next 0 0,x,I ps.length,I (i+1:Nat)] H2):=by
  intro i l hi hll k;have hip:i < ps.length:=(zaf.1 hi).1
  induction k with
  | zero=>
   intro j hj hall H1 b0 b1 b2 b3 u v hv;have h1:¬(j:Int) < l.length:=by omega
   have hal:l.all c.right=true:=by rw [zar (by omega)] at hall;exact hall
   have h6:(i:Int)+1=((i+1:Nat):Int):=by omega
   have h7:=wrap_i64 (a:=((i+1:Nat):Int)) (by omega) (by omega);refine⟨λh=> (by rw [hal] at h;cases h),λ_=> ⟨H1,b0,b1,b2,b3,?_⟩⟩;rw [O7];simp -implicitDefEqProofs only [Nat.reduceAdd,setAt,xq_,hq_,h1,bf,h6,h7]
  | succ k ih=>
   intro j hj hall H1 b0 b1 b2 b3 u v hv;have h1:(j:Int) < l.length:=by omega
   have hv1:=hv.ig (H':=H1) b1 λr _ hr=> b2 r hr;have h3:=hv1.ix (k:=.i64) (i:=(j:Int)) (by omega) h1;rw [zaq] at h3;obtain⟨o,ho⟩:∃o,l[j]?=some o:=⟨_,zab (by omega)⟩
   have h4:=jJ dD hv1 ho;obtain⟨_,k2,_⟩:=keep b1 b2;have h5:=λH=> Pz H c h o;have lt0:H.next < H1.next:=by omega
   have h6:(j:Int)+1=((j+1:Nat):Int):=by omega
   have h7:=wrap_i64 (a:=((j+1:Nat):Int)) (by omega) (by omega);have hz:H1.base<=H1.next:=b3
   cases hr:c.right o with
   | false=>
    have hal:l.all c.right=false:=by
     rw [List.all_eq_false];exact⟨o,zas ho,by simp [hr]⟩
    refine⟨λ_=> ?_,λh=> (by rw [hal] at h;cases h)⟩;rw [O7];simp -implicitDefEqProofs only [Nat.reduceAdd,setAt,xq_,hq_,h1,h3,h4,k2,h5,lt0,hr,hz,zak]
   | true=>
    have hall':(l.take (j+1)).all c.right=true:=by
     rw [List.take_add_one,ho,za9,hall];simp [hr]
    have key:=ih (j+1) (by omega) hall' (H1.new (.blk 0 119 o.av)) b0 (zbA b1) (λr hr=> by rw [aQ (by omega)];exact b2 r hr) (zbA b3) u v hv;have step:uf cl [.ref H.next 0 0,x,I ps.length,I i,v,I l.length,I j] H1=uf cl [.ref H.next 0 0,x,I ps.length,I i,v,I l.length,I (j+1:Nat)] (H1.new (.blk 0 119 o.av)):=by
     rw [O7];simp -implicitDefEqProofs only [Nat.reduceAdd,setAt,xq_,hq_,h1,h3,h4,k2,h5,lt0,hr,hz,zae,bf,h6,h7]
    rw [step];exact key
 have outer:∀k i,i+k=ps.length->(ps.take i).all (aej c)=true->∀H1:aj,H.next<=H1.base->H0.next<=H1.next->(∀r,r < H0.next->H1.get r=H0.get r)->H1.base<=H1.next->(zq cl [.ref H.next 0 0,x,I ps.length,I i] H1).map Prod.fst=some (B (ps.all (aej c))):=by
  intro k
  induction k with
  | zero=>
   intro i hi hall H1 b0 b1 b2 b3;have h1:¬(i:Int) < ps.length:=by omega
   rw [zar (by omega)] at hall;rw [hall,I7];simp -implicitDefEqProofs only [xq_,h1]
  | succ k ih=>
   intro i hi hall H1 b0 b1 b2 b3;have h1:(i:Int) < ps.length:=by omega
   obtain⟨⟨cells,x1,x2⟩,_,_⟩:=keep b1 b2;have hcl:cells.length=ps.length:=by have:=x1.1;omega
   have h3:=x1.ix (k:=.i64) (i:=(i:Int)) (by omega) h1;rw [zaq] at h3;obtain⟨v,hv⟩:∃v,cells[i]?=some v:=⟨_,zab (by omega)⟩
   obtain⟨l,hpl⟩:∃l,ps[i]?=some l:=⟨_,zab (by omega)⟩
   have h4:=x1.ld (i:=i) (by omega);rw [hv] at h4;obtain⟨y1,_⟩:=x2 i v l hv hpl;have h5:=y1.lnS;have hll:=hl l (zas hpl)
   -- the same slice,at first
   have y0:aG H0 v 3 l.length (l.flatMap Opn.av):=by
    obtain⟨⟨cells',z1,z2⟩,_,_⟩:=keep (H1:=H0) (zac _) λ_ _=> rfl;have hv':cells'[i]?=some v:=by
     have:=(z1.ig (H':=H1) b1 λr _ hr=> b2 r hr).ld (i:=i) (by omega);rw [h4] at this;cases hc':cells'[i]? with
     | none=> rw [hc'] at this;cases this
     | some w=> rw [hc'] at this;simp only [zah,zaa,zad,and_true] at this;rw [this]
    exact(z2 i v l hv' hpl).1
   by_cases hlen:l.length<=24
   ·have h24:¬(24:Int) < l.length:=by omega
    have:=inner i l hpl hll l.length 0 (by omega) (by simp) H1 b0 b1 b2 b3 v v y0;cases hr:l.all c.right with
    | false=>
     have hal:ps.all (aej c)=false:=by
      rw [List.all_eq_false];exact⟨l,zas hpl,by simp [aej,hr]⟩
     have t:=this.1 hr;rw [hal,I7];simp -implicitDefEqProofs only [xq_,h1,h3,h4,h5,h24];exact t
    | true=>
     obtain⟨H2,c0,c1,c2,c3,t⟩:=this.2 hr;have:=ih (i+1) (by omega) (by rw [List.take_add_one,hpl,za9,hall];simp [aej,hlen,hr]) H2 c0 c1 c2 c3;rw [I7];simp -implicitDefEqProofs only [xq_,h1,h3,h4,h5,h24];have t':uf cl [.ref H.next 0 0,x,I ps.length,I i,v,I l.length,I 0] H1=zq cl [.ref H.next 0 0,x,I ps.length,I (i+1:Nat)] H2:=t;rw [t'];exact this
   ·have h24:(24:Int) < l.length:=by omega
    have hal:ps.all (aej c)=false:=by
     rw [List.all_eq_false];exact⟨l,zas hpl,by simp [aej,hlen]⟩
    rw [hal,I7];simp -implicitDefEqProofs only [xq_,h1,h3,h4,h5,h24]
 have fin:=outer ps.length 0 (by omega) (by simp) H0 (zac _) (zac _) (λ_ _=> rfl) (by rw [n0];show H.next<=_;omega);have eo:c.pJ ps=ps.all (aej c):=by simp only [Cfg.pJ,hc,decide_true,Bool.and_true];rfl
 rw [eo];simp only [H0] at e1 fin;simp -implicitDefEqProofs only [Nat.reduceLT,xq_,hq_,afw,aB (dK c),e1,l0,hc];rw [<-hc];exact fin
theorem Uh {β:Type}{w:Option Nat}{H H':aj}{k:Option β}(h:∀r,w=some r->H'.get r=H.get r):ck w H H' k=k:=if_pos h
theorem zF {H1:aj}{n d m k:Nat}{x:AV}{cells:List AV}(c:Own n H1 x m cells)(hm:0 < m)(hl:cells.length=k*m)(hz:∀y∈cells,aX H1 n d y=some y)(hk:k≠0):aX H1 n (d+1) x=some (.vs k m cells):=by
 rcases c with⟨rfl,rfl⟩ | ⟨r,g,off,n',cap,ex,ty,all,rfl,k2,k3,k4,k5,k6,k7,rfl⟩
 ·simp only [zaw] at hl;rcases Nat.mul_eq_zero.1 hl.symm with h | h <;> omega
 ·have hcm:n'*m<=cap*m:=zaC _ k4;rw [zat,zaR,zbe (by omega)] at hl;have:n'=k:=zbJ hm hl;subst this;exact jC k2 (cells:=(all.drop off).take (n'*m)) (by simp only [aZ,k5];rw [if_pos ⟨trivial,by omega⟩]) (fO _ hz)
theorem Yo {c:Cfg}{line:Int}(h0:0<=line)(h1:line < c.lines){i:Nat}(hi:i < c.words.toNat):(c.first line)[i]?=some (c.init.getD ((line*c.words).toNat+i) 0):=by
 unfold Cfg.first
 rw [if_neg (by omega),zaD,zbi hi];rfl
theorem MF {c:Cfg}{line:Int}(h0:0<=line)(h1:line < c.lines):(c.first line).length=c.words.toNat:=by
 unfold Cfg.first
 rw [if_neg (by omega)];simp
theorem Ui(H:aj)(c:Cfg)(h:c.ok=true)(line:Int)(h0:0<=line)(h1:line < c.lines):cl 122 [.agg c.av,I line] H=some (dat (c.first line),H):=by
 have Bd:=pR h;have hw:=Bd.words;have hlw:0<=line*c.words:=zcg h0 (by omega);have aul:line*c.words<=8*4:=zbV (by have:=Bd.lines;omega) hw.2 (by omega) (by omega);have w:=wrap_i64 (a:=line*c.words) (by omega) (by omega);let H0:=H.guard.new (.blk 0 39 c.av);have g0:H0.get H.next=.blk 0 39 c.av:=aK rfl
 have key:∀k i,i+k=c.words.toNat->∀(H1:aj) (x:AV),H.next<=H1.next->H1.base=H.next->H1.get H.next=.blk 0 39 c.av->Own (H.next+1) H1 x 1 (((c.first line).take i).map I)->H.next+1<=H1.next->
   ∃H2 y,Bv cl [I line,.ref H.next 0 0,x,I i] H1=some (y,H2)/\Own (H.next+1) H2 y 1 ((c.first line).map I):=by
  intro k
  induction k with
  | zero=>
   intro i hi H1 x n1 b1 g1 O n2;have l2:ld (.ref H.next 0 2) H1=some (I c.words,H1):=by rw [dJ g1];rfl
   have hn:¬(i:Int) < c.words:=by omega
   rw [zar (by rw [MF h0 h1];omega)] at O;refine⟨H1,x,?_,O⟩;rw [Q5];simp -implicitDefEqProofs only [xq_,l2,hn]
  | succ k ih=>
   intro i hi H1 x n1 b1 g1 O n2;have l2:ld (.ref H.next 0 2) H1=some (I c.words,H1):=by rw [dJ g1];rfl
   have l7:ld (.ref H.next 0 7) H1=some (dat c.init,H1):=by rw [dJ g1];rfl
   have hn:(i:Int) < c.words:=by omega
   have e1:=(jr H1 c.init).lnS;have w2:=wrap_i64 (a:=line*c.words+i) (by omega) (by omega);have h6:(i:Int)+1=((i+1:Nat):Int):=by omega
   have h7:=wrap_i64 (a:=((i+1:Nat):Int)) (by omega) (by omega);have hg:=Yo (c:=c) (line:=line) h0 h1 (i:=i) (by omega);have tail:∀v:Int,v=c.init.getD ((line*c.words).toNat+i) 0->∃H2 y,Bz cl (I line) (.ref H.next 0 0) x (I i) (I v) H1=some (y,H2)/\Own (H.next+1) H2 y 1 ((c.first line).map I):=by
    intro v hv;have eb:bs 22 1 [(0,I v)] H1=some (.sl H1.next 0 0 1 1 1 true,H1.new (.blk 0 3 [I v])):=(KJ (by decide)).trans (jD rfl rfl rfl);obtain⟨x',H2,a1,a2,a3⟩:=(O.new (.blk 0 3 [I v])).step (n:=i) (k:=1) (e:=3) (by_:=8) (y:=.sl H1.next 0 0 1 1 1 true) (new:=[I v]) (by rw [nNew];omega) (by rw [bNew,b1];omega) (by decide) (by rw [zaE,zat,MF h0 h1];omega) (jE rfl) rfl (by unfold most;omega) (by unfold most;omega);have O2:Own (H.next+1) H2 x' 1 (((c.first line).take (i+1)).map I):=by
     rw [List.take_add_one,hg,zbu];rw [hv] at a2;exact a2
    obtain⟨H3,y,r1,r2⟩:=ih (i+1) (by omega) H2 x' (by have:=a3.next;rw [nNew] at this;omega) (by rw [a3.base,bNew,b1]) (by rw [a3.low _ (by omega),aQ (by omega),g1]) O2 (by have:=a3.next;rw [nNew] at this;omega);refine⟨H3,y,?_,r2⟩;simp -implicitDefEqProofs only [xq_,Bz,eb,a1,bf,h6,h7,r1]
   rw [Q5];by_cases hc:line*c.words+i < c.init.length
   ·have e2:=(jr H1 c.init).ix (k:=.i64) (i:=line*c.words+i) (by omega) hc;have e3:=(jr H1 c.init).ld (i:=(line*c.words+i).toNat) (by omega);have e4:(c.init.map I)[(line*c.words+i).toNat]?=some (I (c.init.getD ((line*c.words).toNat+i) 0)):=by
     have:(line*c.words+i).toNat=(line*c.words).toNat+i:=by omega
     rw [this,zaD,zab (by omega)];simp [List.getD,zab (show(line*c.words).toNat+i < c.init.length by omega)]
    rw [e4] at e3;obtain⟨H2,y,r1,r2⟩:=tail _ rfl;refine⟨H2,y,?_,r2⟩;simp -implicitDefEqProofs only [xq_,l2,hn,gV,w,bf,w2,l7,e1,hc,e2,e3,r1]
   ·obtain⟨H2,y,r1,r2⟩:=tail 0 (by
     have:c.init.length<=(line*c.words).toNat+i:=by omega
     simp [List.getD,zaG this])
    refine⟨H2,y,?_,r2⟩;simp -implicitDefEqProofs only [xq_,l2,hn,gV,w,bf,w2,l7,e1,hc,r1]
 obtain⟨H2,y,r1,r2⟩:=key c.words.toNat 0 (by omega) H0 zN (by show H.next<=H.next+1;omega) rfl g0 (.inl ⟨rfl,by simp⟩) (zac _);refine fZ rfl rfl (ajU _ _ _ _ (r:=(y,H2)) ?_) ?_
 ·have n0:¬line < 0:=by omega
  have n1:¬c.lines<=line:=by omega
  have l1:c.av[1]?=some (I c.lines):=rfl;simp -implicitDefEqProofs only [Nat.reduceLT,xq_,hq_,adp,aB (dK c),n0,n1,l1];exact r1
 ·rw [ug (Jo h h0 h1)];have r3:Own H.next H2 y 1 ((c.first line).map I):=by
   rcases r2 with r2 | ⟨r,g,off,n,cap,ex,ty,all,a0,a1,a2⟩
   ·exact .inl r2
   ·exact .inr ⟨r,g,off,n,cap,ex,ty,all,a0,by omega,a2⟩
  exact zF r3 (by decide) (by simp) (λy hy=> uU _ y hy _ _) (λe=> Jo h h0 h1 (zao e))
theorem Yp(H:aj)(sets ways:Int)(h:1<=sets)(h':1<=ways):∃H' q,cl 78 [I sets,I ways] H=some (.ref q 0 0,H')/\Made H H' (upd nil0 q (yX ⟨[],sets,ways,0⟩ [])):=by
 refine⟨_,H.next,aO rfl rfl (arw _ _ _ _ (r:=(_,H.new (.blk 0 216 [I sets,I ways,zI,zN]))) ?_),jK rfl rfl λi c x hc hx=> ?_⟩
 ·have e:max sets (1:Int)=sets:=by omega
  have e':max ways (1:Int)=ways:=by omega
  simp -implicitDefEqProofs only [Nat.reduceLT,Nat.reduceAdd,Nat.reduceLeDiff,setAt,xq_,hq_,ai9,Io,e,e',ahO,gK,dM,acA,aB]
 ·match i with
  | 0=> left;cases hc;cases hx;rfl
  | 1=> left;cases hc;cases hx;rfl
  | 2=> left;cases hc;cases hx;rfl
  | 3=> right;cases hc;cases hx;exact⟨rfl,6,rfl⟩
  | i+4=> cases hc
theorem aga(H:aj)(c:Cfg)(h:c.ok=true):∃H' f,cl 48 [.agg c.av] H=some (.ref f 0 0,H')/\Made H H' (upd nil0 f (TN c (List.replicate (4*c.nodes.toNat) []))):=by
 have Bd:=pR h;have hn:=Bd.nodes;let H1:=H.new (.blk 0 39 c.av);let H2:=H1.new (.blk 0 319 (bI [zN,zN,zN,zN] c.nodes.toNat));let S:AV:=.sl (H.next+1) 0 0 4 c.nodes.toNat c.nodes.toNat true;let H3:=H2.new (.blk 0 161 (c.av++[S]));have e1:=VW (e:=319) (m:=4) (by_:=96) (z:=[zN,zN,zN,zN]) (n:=c.nodes) (H:=H1) rfl rfl (by omega) (by omega) (by decide);have l0:c.av[0]?=some (I c.nodes):=rfl;have zl:∀n,(bI [zN,zN,zN,zN] n).length=n*4/\∀(j:Nat) x,(bI [zN,zN,zN,zN] n)[j]?=some x->x=zN:=by
  intro n
  induction n with
  | zero=> exact⟨rfl,λj x hx=> by simp [bI] at hx⟩
  | succ n ih=>
   refine⟨by rw [bI,zan,ih.1];simp;omega,λj x hx=> ?_⟩;rw [bI] at hx;have:=zas hx;rcases za1.1 this with hm | hm
   ·simpa using hm
   ·obtain⟨k,hk,hk2⟩:=List.getElem_of_mem hm;exact ih.2 k x (by rw [zab hk,hk2])
 refine⟨H3,H.next+2,aO rfl rfl (ap9 _ _ _ (r:=(_,H3)) ?_),⟨by show H.next<=H.next+3;omega,rfl,λr hr=> ?_,by show H.next<=H.next+3;omega,λr=> if r=H.next+2 then some (r,0,0,0) else if r=H.next+1 then some (H.next+2,9,0,0) else none,λq cs hq=> ?_⟩⟩
 ·have e:bd 161 [(0,.agg c.av),(1,S)]=some (.agg (c.av++[S])):=by
   simp -implicitDefEqProofs only [xq_,ahK,gK,dM,acv,Cfg.av,dG];rfl
  have ea:(c.av++[S]).all AV.aH=true:=by rw [za9,dK];rfl
  have e0:=iL (H:=H1) (r:=H.next) (c:=c) (aK rfl);have s1:H1.next=H.next+1:=rfl
  simp only [s1] at e1;simp only [H1] at e1 e0;simp -implicitDefEqProofs only [Nat.reduceLT,xq_,hq_,aiS,aB (dK c),l0,e1,e,aB ea,S];rfl
 ·simp only [H3,H2,H1];rw [aQ (by simp only [nNew];omega),aQ (by simp only [nNew];omega),aQ hr]
 ·unfold upd at hq;split at hq
  ·rename_i e;subst e;cases hq;refine⟨by simp,by omega,by show _ < H.next+3;omega,rY (ty:=161) (xs:=c.av++[S]) (aK rfl) (by decide),161,c.av++[S],aK rfl,by simp [TN,Cfg.av],by rw [za9,dK];rfl,λi cc x hc hx=> ?_⟩;rcases zaQ i 8 with hi | hi
   ·rw [TN,zaK (by simp [Cfg.av];omega),zaD] at hc;rw [zaK (by simp [Cfg.av];omega)] at hx;rw [hx] at hc;cases hc;exact rfl
   ·have hi8:i=8:=by
     have:=(zaf.1 hx).1;simp [Cfg.av] at this;omega
    subst hi8;cases hc;cases hx;refine⟨bI [zN,zN,zN,zN] c.nodes.toNat,.inr ⟨H.next+1,0,0,c.nodes.toNat,c.nodes.toNat,true,319,_,rfl,by simp,by omega,by show _ < H.next+3;omega,zac _,by simp only [H3];rw [aQ (by show _ < H.next+2;omega)];exact aK rfl,by rw [(zl _).1];omega,uK rfl _,?_⟩,by rw [(zl _).1,zb0];omega,λj cells y hj hy=> ?_⟩
    ·rw [zaO,zar (by rw [(zl _).1];omega)]
    ·rw [zbs] at hj;split at hj
     ·cases hj;exact .inl ⟨(zl _).2 _ _ hy,rfl⟩
     ·cases hj
  ·cases hq
def iO(c:Cfg)(n:Nat):List Row:=(List.range n).map λ(i:Nat)=> (⟨0,-1,c.first (i:Int)⟩:Row)
theorem PD(c:Cfg)(n:Nat):iO c (n+1)=iO c n++[⟨0,-1,c.first n⟩]:=by
 simp [iO,zck]
theorem Yq(H:aj)(hb:H.base<=H.next)(c:Cfg)(h:c.ok=true)(me:Int):∃H' q,cl 79 [.agg c.av,I me] H=some (.ref q 0 0,H')/\Made H H' (upd nil0 q (mW c me ((eF.new c).rows.flatMap Row.av) ⟨[],[]⟩)):=by
 have Bd:=pR h;have hl:=Bd.lines;let H1:=H.new (.blk 0 39 c.av);let xs:List AV:=c.av++[I me,zN,zN,zN]
 let H2:=H1.new (.blk 0 223 xs);let f:=H.next+1
 have ax:xs.all AV.aH=true:=by simp only [xs,za9,dK];rfl
 have M0:Made H1 H2 (upd nil0 f (mW c me [] ⟨[],[]⟩)):=jK ax (by simp [xs,mW]) λi cc x hc hx=> by
  rcases zaQ i 8 with hi | hi
  ·left;rw [mW,zaK (by simp [Cfg.av];omega),zaD] at hc;rw [zaK (by simp [Cfg.av];omega)] at hx;rw [hx] at hc;exact(za2 hc).symm
  ·obtain⟨j,rfl⟩:∃j,i=8+j:=⟨i - 8,by omega⟩
   match j with
   | 0=> left;cases hc;cases hx;rfl
   | 1=> right;cases hc;cases hx;exact⟨rfl,3,rfl⟩
   | 2=> right;cases hc;cases hx;exact⟨rfl,2,rfl⟩
   | 3=> right;cases hc;cases hx;exact⟨rfl,3,rfl⟩
   | j+4=> exfalso;have:=(zaf.1 hx).1;simp [xs,Cfg.av] at this;omega
 have key:∀k i,i+k=c.lines.toNat->∀Hi,Made H1 Hi (upd nil0 f (mW c me ((iO c i).flatMap Row.av) ⟨[],[]⟩))->
   ∃H',Jb cl [.ref H.next 0 0,.ref f 0 0,I i] Hi=some (.ref f 0 0,H')/\Made H1 H' (upd nil0 f (mW c me ((iO c c.lines.toNat).flatMap Row.av) ⟨[],[]⟩)):=by
  intro k
  induction k with
  | zero=>
   intro i hi Hi M;have h1:¬(i:Int) < c.lines:=by omega
   have g:Hi.get H.next=.blk 0 39 c.av:=by rw [M.same _ (by show H.next < H.next+1;omega)];exact aK rfl
   have l1:ld (.ref H.next 0 1) Hi=some (I c.lines,Hi):=by rw [dJ g];rfl
   rw [WY];refine⟨Hi,?_,by rw [show c.lines.toNat=i by omega];exact M⟩;simp -implicitDefEqProofs only [Int.reduceNeg,xq_,l1,h1]
  | succ k ih=>
   intro i hi Hi M;have h1:(i:Int) < c.lines:=by omega
   have h6:(i:Int)+1=((i+1:Nat):Int):=by omega
   have h7:=wrap_i64 (a:=((i+1:Nat):Int)) (by omega) (by omega);have n1:H1.next=H.next+1:=rfl
   have g:Hi.get H.next=.blk 0 39 c.av:=by rw [M.same _ (by omega)];exact aK rfl
   have l1:ld (.ref H.next 0 1) Hi=some (I c.lines,Hi):=by rw [dJ g];rfl
   have l8:=iL g;obtain⟨x,hx,cx⟩:=M.good.seq upd_same (i:=9) rfl;have e1:=Ui Hi.guard c h i (by omega) h1;let r:Row:=⟨0,-1,c.first i⟩
   have hlen:((iO c i).flatMap Row.av).length=i*3:=by rw [bn yS];simp [iO]
   have eb:=jD (e:=226) (m:=3) (z:=[zI,zI,zN]) (v:=.agg r.av) (H:=Hi) rfl rfl (Iw r);simp only [dG] at eb;obtain⟨x',He,Hf,t1,t2,t3,t4⟩:=(M.good.new (.blk 0 226 r.av)).append (e:=226) (by_:=40) (by rw [bNew,M.base,n1];simp only [H1,bNew];omega) upd_same (i:=9) rfl (by decide) hlen (cx.new _) (jE (ex:=true) (n:=1) (m:=3) (l:=r.av) rfl) (Iw r) (by unfold most;omega) (by unfold most;omega);have Mf:Made H1 Hf (upd nil0 f (mW c me ((iO c (i+1)).flatMap Row.av) ⟨[],[]⟩)):=by
    refine((M.new _).step t3 t4).as ?_;rw [mO,PD,zbz]
    congr 1
   obtain⟨H',r1,r2⟩:=ih (i+1) (by omega) Hf Mf;refine⟨H',?_,r2⟩;rw [WY];have er:bd 226 [(0,I 0),(1,I (-1)),(2,dat (c.first i))]=some (.agg r.av):=by
    simp -implicitDefEqProofs only [Int.reduceNeg,xq_,ahQ,gK,dM,acC,Dw];rfl
   simp -implicitDefEqProofs only [Int.reduceNeg,Nat.reduceLeDiff,xq_,hq_,l1,h1,hx,l8,e1,er,ahs,zbc,eb,t1,t2,bf,h6,h7,r1]
 obtain⟨H',r1,r2⟩:=key c.lines.toNat 0 (by omega) H2 M0;refine⟨H',f,aO rfl rfl (arx _ _ _ _ (r:=(_,H')) ?_),r2.vU⟩;have e:bd 223 [(0,.agg c.av),(1,I me)]=some (.agg xs):=by
  simp -implicitDefEqProofs only [xq_,ahP,gK,dM,acB,Cfg.av,dG];rfl
 have e0:=iL (H:=H1) (r:=H.next) (c:=c) (aK rfl);simp only [H1] at e0;simp -implicitDefEqProofs only [Nat.reduceLT,xq_,hq_,ajb,aB (dK c),e0,e,aB ax];exact r1
theorem agb {H:aj}{v:AV}{l:List Opn}(hv:aG H v 3 l.length (l.flatMap Opn.av))(hl:l.length < 1000000):
  ∃y H',app 119 3 24 zN v H=some (y,H')/\Own H.next H' y 3 (l.flatMap Opn.av)/\Step H.next H H':=by
 have O:Own H.next H zN 3 []:=.inl ⟨rfl,rfl⟩
 have hz:most=most:=rfl;obtain⟨c1,c2⟩:=hv.sW;by_cases h0:l=[]
 ·subst h0;refine⟨zN,H,?_,.inl ⟨rfl,rfl⟩,Step.refl _ _⟩;simp only [app,c1,c2,bU];rfl
 ·have hn:l.length≠0:=λe=> h0 (zao e);refine⟨_,_,Iz hv (xw lI l) hn (by unfold most;omega) (by unfold most;omega),.inr ⟨H.next,0,0,l.length,l.length,false,119+fA,l.flatMap Opn.av,rfl,zac _,by rw [nNew];omega,zac _,aK rfl,by rw [bn dD];omega,xw lI l,?_⟩,Step.new _ (zac _)⟩;rw [zaO,zar (by rw [bn dD];exact zac _)]
theorem aa7 {H H1:aj}{ty:TypeId}{xs:List AV}{cs:List Cell}{i0 m0:Nat}{l0:List AV}{y:AV}(s:Step H.next H H1)(hc:xs.all AV.aH=true)(hl:xs.length=cs.length)(O:Own H.next H1 y m0 l0)
  (h:∀(i:Nat) (c:Cell) (x:AV),cs[i]?=some c->xs[i]?=some x->c=.av x∨(x=zN/\∃m,c=.seq m [])∨(i=i0/\x=y/\c=.seq m0 l0)) (ht:ty < fA:=by decide):
  Made H (H1.new (.blk 0 ty xs)) (upd nil0 H1.next cs):=by
 have n1:=s.next
 refine⟨by rw [nNew];omega,s.base,λr hr=> by rw [aQ (by omega),s.low r hr],by rw [nNew];omega,λr=> if r=H1.next then some (r,0,0,0) else if nameOf y=some r then some (H1.next,i0+1,0,0) else none,λq cs' hq=> ?_⟩;unfold upd at hq;split at hq
 ·rename_i e;subst e;cases hq;refine⟨by simp,n1,by rw [nNew];omega,rY (xs:=xs) (aK rfl) ht,ty,xs,aK rfl,hl,hc,λi c x hci hx=> ?_⟩;rcases h i c x hci hx with rfl | ⟨rfl,m,rfl⟩ | ⟨rfl,rfl,rfl⟩
  ·exact rfl
  ·exact .inl ⟨rfl,rfl⟩
  ·rcases O with O | ⟨r,g,off,n,cap,ex,ty',all,rfl,k2,k3,k4,k5,k6⟩
   ·exact .inl O
   ·exact .inr ⟨r,g,off,n,cap,ex,ty',all,rfl,by simp only [nameOf];rw [if_neg (by omega),if_pos trivial],k2,by rw [nNew];omega,k4,by rw [aQ k3];exact k5,k6⟩
 ·cases hq
theorem aa8(H:aj)(c:Cfg)(h:c.ok=true)(me:Int)(l:List Opn)(hl:l.length < 1000000){x:AV}(hx:aG H x 3 l.length (l.flatMap Opn.av)):
  ∃H' a g',cl 49 [.agg c.av,I me,x] H=some (.ref (a 0) 0 0,H')/\Made H H' g'/\lK g' a c me (.new c l):=by
 have Bd:=pR h;let H1:=H.new (.blk 0 39 c.av);obtain⟨H2',q1,e1,M1⟩:=Yp H1.guard c.sets c.ways Bd.sets.1 Bd.ways.1;obtain⟨H2,e1,M1⟩:=drawn e1 M1;obtain⟨H3',q2,e2,M2⟩:=Yq H2.guard (zac _) c h me;obtain⟨H3,e2,M2⟩:=drawn e2 M2;have hx3:aG H3 x 3 l.length (l.flatMap Opn.av):=((hx.new (.blk 0 39 c.av)).ig M1.next λr _ hr=> M1.same r hr).ig M2.next λr _ hr=> M2.same r hr
 obtain⟨y,H4,e3,O,s4⟩:=agb hx3 hl;let a:=six H4.next q1 q2 0 0 0
 let xs:List AV:=c.av++[I me,.ref q1 0 0,.ref q2 0 0,y,B false,zN,B false,zI,zI,zI,zI,zI,zI,zN,zI,zI,I 0]
 have hy:One y:=by
  rcases O with⟨rfl,_⟩ | ⟨r,g,off,n,cap,ex,ty',all,rfl,_⟩
  ·exact mP
  ·exact qg
 have ax:xs.all AV.aH=true:=by simp only [xs,za9,dK,List.all_cons,hy.2];rfl
 have M3:Made H3 (H4.new (.blk 0 168 xs)) (upd nil0 H4.next (Ad a c me (.new c l) [zI,zI,zI,zI,zI,zI,zN,zI,zI])):=by
  refine aa7 (i0:=11) (m0:=3) (l0:=l.flatMap Opn.av) (y:=y) s4 ax (by simp [xs,Ad]) O λi cc x hc hx=> ?_;rcases zaQ i 8 with hi | hi
  ·left;rw [Ad,List.append_assoc,List.append_assoc,zaK (by simp [Cfg.av];omega),zaD] at hc;rw [zaK (by simp [Cfg.av];omega)] at hx;rw [hx] at hc;exact(za2 hc).symm
  ·obtain⟨j,rfl⟩:∃j,i=8+j:=⟨i - 8,by omega⟩
   match j with
   | 0 | 1 | 2 | 4 | 6 | 7 | 8 | 9 | 10 | 11 | 12 | 13 | 14 | 15 | 16=> left;cases hc;cases hx;rfl
   | 3=> right;right;cases hc;cases hx;exact⟨rfl,rfl,rfl⟩
   | 5=> right;left;cases hc;cases hx;exact⟨rfl,1,rfl⟩
   | j+17=> exfalso;have:=(zaf.1 hx).1;simp [xs,Cfg.av] at this;omega
 have g1:H1.get H.next=.blk 0 39 c.av:=aK rfl
 have l1:H.next < H1.next:=by simp only [H1,nNew];omega
 have l2:H.next < H2.next:=zax l1 M1.next
 have g2:H2.get H.next=.blk 0 39 c.av:=by rw [M1.same _ l1,g1]
 have g3:H3.get H.next=.blk 0 39 c.av:=by rw [M2.same _ l2,g2]
 have l3:H.next < H3.next:=zax l2 M2.next
 have g4:H4.get H.next=H3.get H.next:=s4.low _ l3
 have b1:=iL g1;have b2:=iL g2;have ec:∀{β:Type} (k:Option β),ck (aU (.ref H.next 0 0)) H3 H4 k=k:=λk=> Uh λr hr=> by cases hr;exact g4
 have G12:=M1.good.merge M2;refine⟨_,a,_,aO rfl rfl (aqc _ _ _ _ _ (r:=(_,H4.new (.blk 0 168 xs))) ?_),((M1.trans M2).trans M3).vU,?_⟩
 ·have e:bd 168 [(0,.agg c.av),(1,I me),(2,.ref q1 0 0),(3,.ref q2 0 0),(4,y)]=some (.agg xs):=by
   simp -implicitDefEqProofs only [xq_,ahL,gK,dM,acw,Cfg.av,dG,hy.1];rfl
  have l3:c.av[3]?=some (I c.sets):=rfl;have l4:c.av[4]?=some (I c.ways):=rfl;simp only [H1] at e1 b1;simp -implicitDefEqProofs only [Nat.reduceLT,xq_,hq_,aiT,aB (dK c),b1,l3,l4,e1,b2,e2,e3,e,aB ax,ec];rfl
 ·have z:wI (aoG (cup H3.next (cup H2.next (upd nil0 q1 (yX ⟨[],c.sets,c.ways,0⟩ [])) (upd nil0 q2 (mW c me ((eF.new c).rows.flatMap Row.av) ⟨[],[]⟩))) (upd nil0 H4.next (Ad a c me (.new c l) [zI,zI,zI,zI,zI,zI,zN,zI,zI])))) (eF.new c).rows ((eF.new c).rows.flatMap Row.av):=wI.of λr _=> ae0 r;exact⟨⟨[zI,zI,zI,zI,zI,zI,zN,zI,zI],⟨zN,.inl (by simp [dF.new,bD.zero,dat,dU]),by simp [dF.new,bD.zero,bD.avx]⟩,jV M3.good upd_same (zac _)⟩,⟨[],.nil,iV G12 (iV M1.good upd_same rfl) rfl⟩,⟨_,z,iV G12 (jV M2.good upd_same (zac _)) rfl⟩⟩
theorem lK.ati {g:Store}{a:Nat->Nat}{c:Cfg}{me:Int}{n:dF}(h:lK g a c me n){s:Nat}(hs:s < 3):∃l,g (a s)=some l:=by
 obtain⟨⟨_,_,h0⟩,⟨_,_,h1⟩,⟨_,_,h2⟩⟩:=h
 match s,hs with
 | 0,_=> exact⟨_,h0⟩
 | 1,_=> exact⟨_,h1⟩
 | 2,_=> exact⟨_,h2⟩
theorem lK.ext {g g':Store}{a:Nat->Nat}{c:Cfg}{me:Int}{n:dF}(h:lK g a c me n)(hd:∀q cs,g q=some cs->¬TM cs->g' q=some cs)(hg:∀s,s < 3->g' (a s)=g (a s)):lK g' a c me n:=by
 obtain⟨⟨d,⟨x,d1,d2⟩,h0⟩,⟨cells,k,h1⟩,⟨rows,r,h2⟩⟩:=h;exact⟨⟨d,⟨x,d1.sub hd,d2⟩,by rw [hg 0 (by omega),h0]⟩,⟨cells,k.mono λe cs _ ⟨x,e1,e2⟩=> ⟨x,e1.sub hd,e2⟩,by rw [hg 1 (by omega),h1]⟩,⟨rows,r.mono λe cs _ ⟨x,e1,e2⟩=> ⟨x,e1.sub hd,e2⟩,by rw [hg 2 (by omega),h2]⟩⟩
theorem lK.inj {g:Store}{a:Nat->Nat}{c:Cfg}{me:Int}{n:dF}(h:lK g a c me n){s t:Nat}(hs:s < 3)(ht:t < 3)(e:a s=a t):s=t:=by
 obtain⟨⟨d,⟨x,_,rfl⟩,h0⟩,⟨_,_,h1⟩,⟨_,_,h2⟩⟩:=h;have hh:(g (a s)).map List.length=(g (a t)).map List.length:=by rw [e]
 match s,hs,t,ht with
 | 0,_,0,_ | 1,_,1,_ | 2,_,2,_=> rfl
 | 0,_,1,_ | 0,_,2,_ | 1,_,0,_ | 1,_,2,_ | 2,_,0,_ | 2,_,1,_=> simp [h0,h1,h2,Ad,yX,mW,bD.avx,Cfg.av] at hh
theorem lK.lens {g:Store}{a:Nat->Nat}{c:Cfg}{me:Int}{n:dF}(h:lK g a c me n){s:Nat}(hs:s < 3):∃l,g (a s)=some l/\TM l/\(l.length=25∨l.length=4∨l.length=12):=by
 obtain⟨⟨d,⟨x,_,rfl⟩,h0⟩,⟨_,_,h1⟩,⟨_,_,h2⟩⟩:=h
 match s,hs with
 | 0,_=> exact⟨_,h0,⟨.av (.ref (a 1) 0 0),by simp [Ad],λn e=> by cases e⟩,by left;simp [Ad,bD.avx,Cfg.av]⟩
 | 1,_=> exact⟨_,h1,⟨.seq 6 _,by simp [yX];rfl,λn e=> by cases e⟩,by right;left;simp [yX]⟩
 | 2,_=> exact⟨_,h2,⟨.seq 3 _,by simp [mW];left;rfl,λn e=> by cases e⟩,by right;right;simp [mW,Cfg.av]⟩
theorem Uj {f:Nat}{N:Nat->Nat->Nat}{c:Cfg}{n:Nat}{ev:List Evn}:TM (nT f N c n ev):=⟨.av (.ref f 0 0),by simp [nT],λn e=> by cases e⟩
theorem PE(H:aj)(hb:H.base<=H.next)(c:Cfg)(h:c.ok=true){x:AV}{ps:List (List Opn)}(hx:RH H x ps)(hp:c.pJ ps=true):
  ∃H' q f N g',cl 25 [.agg c.av,x] H=some (.tup [.ref q 0 0,B true],H')/\Made H H' g'/\DL g' q f N (.new c ps):=by
 have Bd:=pR h;obtain⟨hp1,hp2⟩:=BX hp;have hn:=Bd.nodes;let H1:=H.new (.blk 0 39 c.av);have n1:H1.next=H.next+1:=rfl
 have g1:H1.get H.next=.blk 0 39 c.av:=aK rfl
 have b1:=iL g1;have e1:=Ym H1 c;rw [h] at e1;have e2:=af9 H1 c h (hx.ig (H':=H1) (by omega) λr hr=> aQ hr) (by omega) λl hl=> by have:=hp2 l hl;omega
 rw [hp] at e2;obtain⟨H2',f,e4,M1⟩:=aga H1.guard c h;obtain⟨H2,e4,M1⟩:=drawn e4 M1;let K:=H2.next
 let xs:List AV:=c.av++[.ref f 0 0,zN,zN]
 have hall:xs.all AV.aH=true:=by simp only [xs,za9,dK];rfl
 have bx:∀H':aj,(∀r,r < H1.next->H'.get r=H1.get r)->H'.get H.next=.blk 0 39 c.av:=λH' hs=> by rw [hs _ (by omega),g1]
 have M2:Made H2 (H2.new (.blk 0 126 xs)) (upd nil0 K (nT f (λ_ _=> 0) c 0 [])):=by
  refine jK hall (by simp [xs,nT]) λi cc y hc hy=> ?_;rcases zaQ i 8 with hi | hi
  ·left;rw [nT,zaK (by simp [Cfg.av];omega),zaD] at hc;rw [zaK (by simp [Cfg.av];omega)] at hy;rw [hy] at hc;exact(za2 hc).symm
  ·obtain⟨j,rfl⟩:∃j,i=8+j:=⟨i - 8,by omega⟩
   match j with
   | 0=> left;cases hc;cases hy;rfl
   | 1=> right;cases hc;cases hy;exact⟨rfl,1,rfl⟩
   | 2=> right;cases hc;cases hy;exact⟨rfl,4,rfl⟩
   | j+3=> exfalso;have:=(zaf.1 hy).1;simp [xs,Cfg.av] at this;omega
 have M0:=M1.add M2;let g0:=upd (upd nil0 f (TN c (List.replicate (4*c.nodes.toNat) []))) K (nT f (λ_ _=> 0) c 0 []);have key:∀k i,i+k=ps.length->∀Hi gi N,Made H1 Hi gi->gi K=some (nT f N c i [])->(∀q,q < K->gi q=g0 q)->(∀(j:Nat) l,j < i->ps[j]?=some l->lK gi (N j) c j (.new c l))->aoI N i->
   ∃H' g' N',IX cl [x,.ref H.next 0 0,.ref K 0 0,I i] Hi=some (.tup [.ref K 0 0,B true],H')/\Made H1 H' g'/\g' K=some (nT f N' c ps.length [])/\(∀q,q < K->g' q=g0 q)/\(∀(j:Nat) l,j < ps.length->ps[j]?=some l->lK g' (N' j) c j (.new c l))/\aoI N' ps.length:=by
  intro k
  induction k with
  | zero=>
   intro i hi Hi gi N M hm hlow hnd hj;have l0:ld (.ref H.next 0 0) Hi=some (I c.nodes,Hi):=by rw [dJ (bx Hi M.same)];rfl
   have h1:¬(i:Int) < c.nodes:=by omega
   have hi':ps.length=i:=by omega
   rw [WM];refine⟨Hi,gi,N,?_,M,by rw [hi'];exact hm,hlow,by rw [hi'];exact hnd,by rw [hi'];exact hj⟩;simp -implicitDefEqProofs only [xq_,l0,h1]
  | succ k ih=>
   intro i hi Hi gi N M hm hlow hnd hj;have l0:ld (.ref H.next 0 0) Hi=some (I c.nodes,Hi):=by rw [dJ (bx Hi M.same)];rfl
   have h1:(i:Int) < c.nodes:=by omega
   have h6:(i:Int)+1=((i+1:Nat):Int):=by omega
   have h7:=wrap_i64 (a:=((i+1:Nat):Int)) (by omega) (by omega);have hxi:=hx.ig (H':=Hi) (zaz (by omega) M.next) λr hr=> by rw [M.same r (by omega)];exact aQ hr
   obtain⟨cells,x1,x2⟩:=hxi;have hcl:cells.length=ps.length:=by have:=x1.1;omega
   have s1:=x1.ix (k:=.i64) (i:=(i:Int)) (by omega) (by omega);rw [zaq] at s1;have s2:=x1.ld (i:=i) (by omega);obtain⟨v,hv⟩:∃v,cells[i]?=some v:=⟨_,zab (by omega)⟩
   obtain⟨l,hl⟩:∃l,ps[i]?=some l:=⟨_,zab (by omega)⟩
   rw [hv] at s2;obtain⟨v1,v2⟩:=x2 i v l hv hl;have s4:=iL (bx Hi M.same);obtain⟨y,hy,cy⟩:=M.good.seq hm (i:=9) (m:=1) (l:=mG N i) rfl;obtain⟨Ha',a,ga,a1,Ma,Ia⟩:=aa8 Hi.guard c h i l (by have:=hp2 l (zas hl);omega) v1.guard;obtain⟨Ha,a1,Ma⟩:=drawn a1 Ma;have Na:=M.trans Ma;let ga':=cup Hi.next gi ga
   have hK:=M.good.lt hm;have aee:∀q,q < Hi.next->ga' q=gi q:=λq hq=> by simp only [ga',cup,hq,if_true]
   have asv:∀q cs,ga q=some cs->ga' q=some cs:=λq cs hq=> by
    have:=(Ma.lt hq).1;simp only [ga',cup];rw [if_neg (by omega),hq]
   have hma:ga' K=some (nT f N c i []):=by rw [aee K hK,hm]
   let o:dV:=.blk 0 127 [.ref (a 0) 0 0];have hnl:(mG N i).length=i*1:=by simp [mG]
   obtain⟨y',He,Hf,t1,t2,t3,t4⟩:=(Na.good.new o).append (e:=127) (by_:=8) (by rw [bNew,Na.base,n1];simp only [H1,bNew];omega) hma (i:=9) (l:=mG N i) rfl (by decide) hnl ((cy.ext Ma.next Ma.same).new o) (jE (ex:=true) (n:=1) (m:=1) (l:=[.ref (a 0) 0 0]) rfl) rfl (by unfold most;omega) (by unfold most;omega);let N':Nat->Nat->Nat:=λj=> if j=i then a else N j
   have hN:∀j,j < i->N' j=N j:=λj hj=> by simp only [N'];rw [if_neg (by omega)]
   have hNi:N' i=a:=by simp only [N',if_true]
   have Mf:Made H1 Hf (upd ga' K (nT f N' c (i+1) [])):=by
    refine((Na.new o).step t3 t4).as ?_
    congr 1
    show nT f N' c (i+1) []=_;have:=Ei (N:=N) (N':=N') hN;simp only [mG] at this;simp only [nT];rw [this,hNi];rfl
   have dat:∀q cs,ga' q=some cs->¬TM cs->upd ga' K (nT f N' c (i+1) []) q=some cs:=λq cs hq hd=> by
    rw [upd_ne];exact hq;intro e;subst e;rw [hma] at hq;cases hq;exact hd Uj
   have hal:∀s,s < 3->Hi.next<=a s/\ga' (a s)=ga (a s):=λs hs=> by
    obtain⟨l,hg⟩:=Ia.ati hs;have:=(Ma.lt hg).1;exact⟨this,by simp only [ga',cup];rw [if_neg (by omega)]⟩
   have hNl:∀j,j < i->∀s,s < 3->N j s < Hi.next:=λj hji s hs=> by
    obtain⟨lj,hlj⟩:∃l,ps[j]?=some l:=⟨_,zab (by omega)⟩
    obtain⟨l,hg⟩:=(hnd j lj hji hlj).ati hs;exact M.good.lt hg
   obtain⟨H',g',N'',r1,r2⟩:=ih (i+1) (by omega) Hf _ N' Mf upd_same (λq hq=> by
    rw [upd_ne (by omega),aee q (by omega),hlow q hq]) (λj lj hj1 hlj=> by
    by_cases hji:j=i
    ·subst hji;rw [hl] at hlj;cases hlj;rw [hNi];exact Ia.ext (λq cs hq hd=> dat q cs (asv q cs hq) hd) λs hs=> by
      obtain⟨h1,h2⟩:=hal s hs;rw [upd_ne (by omega),h2]
    ·rw [hN j (by omega)];refine(hnd j lj (by omega) hlj).ext (λq cs hq hd=> dat q cs (by rw [aee q (M.good.lt hq),hq]) hd) λs hs=> ?_;have hlt:=hNl j (by omega) s hs;have hne:N j s≠K:=λe=> by
      obtain⟨l',hg,_,hl'⟩:=(hnd j lj (by omega) hlj).lens hs;rw [e,hm] at hg;cases hg;simp [nT,Cfg.av] at hl'
     rw [upd_ne hne,aee _ hlt]) (λj k s t hj1 hk1 hs ht e=> by
    by_cases hji:j=i
    ·by_cases hki:k=i
     ·subst hji;subst hki;rw [hNi] at e;exact⟨rfl,Ia.inj hs ht e⟩
     ·subst hji;rw [hNi,hN k (by omega)] at e;have:=(hal s hs).1;have:=hNl k (by omega) t ht;omega
    ·by_cases hki:k=i
     ·subst hki;rw [hNi,hN j (by omega)] at e;have:=(hal t ht).1;have:=hNl j (by omega) s hs;omega
     ·rw [hN j (by omega),hN k (by omega)] at e;exact hj j k s t (by omega) (by omega) hs ht e)
   refine⟨H',g',N'',?_,r2⟩;rw [WM];have eb:=jD (e:=127) (m:=1) (z:=[zP]) (v:=.ref (a 0) 0 0) (H:=Ha) rfl rfl rfl;have ec:(AV.ref (a 0) 0 0).cells=[.ref (a 0) 0 0]:=rfl;rw [ec] at eb;simp only [o] at t1 t2;simp -implicitDefEqProofs only [Nat.reduceLeDiff,xq_,hq_,l0,h1,s1,s2,s4,hy,a1,ahq,zbc,eb,t1,t2,bf,h6,h7,r1]
 have hf:=M1.lt upd_same;obtain⟨H',g',N,r1,r2,r3,r4,r5,r6⟩:=key ps.length 0 (by omega) _ g0 (λ_ _=> 0) M0 upd_same (λq hq=> rfl) (λj l hj=> by omega) (λi j s t hi=> by omega);refine⟨H',K,f,N,g',aO rfl rfl (apg _ _ _ _ (r:=(_,H')) ?_),r2.vU,?_⟩
 ·have b2:=iL (bx H2 M1.same);have em:bd 126 [(0,.agg c.av),(1,.ref f 0 0)]=some (.agg xs):=by
   simp -implicitDefEqProofs only [xq_,ahF,gK,dM,acr,Cfg.av,dG];rfl
  simp only [H1] at b1 e1 e2 e4;simp -implicitDefEqProofs only [Nat.reduceLT,xq_,hq_,aiF,aB (dK c),b1,e1,e2,zae,e4,em,aB hall];exact r1
 ·have gf:g' f=some (TN c (List.replicate (4*c.nodes.toNat) [])):=by
   rw [r4 f hf.2];simp only [g0];rw [upd_ne (by omega),upd_same]
  refine⟨by rw [r3];simp [eX.new],⟨_,gf,by simp [eX.new],λi l cells hl hc=> ?_⟩,λi n hi=> ?_,by simp only [eX.new,zaE];exact r6⟩
  ·have h1:l=[]:=by
    have hm:=zas hl;simp only [eX.new,za5] at hm;obtain⟨p,hp,hl2⟩:=hm;rw [List.eq_of_mem_replicate hp] at hl2
    simpa [ac0,Port.zero] using hl2
   rw [zbs] at hc;split at hc
   ·cases hc;rw [h1];exact .nil
   ·cases hc
  ·simp only [eX.new,zaD,zbm] at hi;obtain⟨l,hl,rfl⟩:=hi;exact r5 i l (zaf.1 hl).1 hl
theorem RS(a b:Bool):bi .neq 4 (B a) (B b)=some (B (!decide (a=b))):=by
 cases a <;> cases b <;> kernel_rfl
structure je(H:aj)(x:AV)(l:List Int):Prop where
 is:aG H x 1 l.length (l.map I)
 one:One x
 nil:l=[]->x=zN
theorem lq(H:aj)(l:List Int):je H (dat l) l:=⟨jr H l,pG,λh=> by rw [h,dat,dU]⟩
theorem je.guard {H:aj}{x:AV}{l:List Int}(h:je H x l):je H.guard x l:=⟨h.is.guard,h.one,h.nil⟩
theorem je.new {H:aj}{x:AV}{l:List Int}(h:je H x l)(o:dV):je (H.new o) x l:=⟨h.is.new o,h.one,h.nil⟩
theorem je.ig {H H':aj}{x:AV}{l:List Int}(h:je H x l)(hn:H.next<=H'.next)(hg:∀r,r < H.next->H'.get r=H.get r):je H' x l:=⟨h.is.ig hn λr _ hr=> hg r hr,h.one,h.nil⟩
theorem uX {p:Pkt}{x:AV}(h:One x):(p.avx x).all AV.aH=true:=by simp [Pkt.avx,fM,jB,h.2]
theorem aa9 {p:Ent}{x:AV}(h:One x):(p.avx x).all AV.aH=true:=by simp [Ent.avx,fM,jB,h.2]
theorem agc(H:aj)(p:Pkt){x y:AV}(hl:p.data.length < 1000000000)(hx:je H x p.data)(hy:je H y p.data):cl 14 [.agg (p.avx x),.agg (p.avx y)] H=some (B true,H):=by
 refine aY rfl rfl (ao4 _ _ _ _) ?_ eH;let H2:=(H.guard.new (.blk 0 51 (p.avx x))).new (.blk 0 51 (p.avx y));have hx2:je H2 x p.data:=(hx.guard.new _).new _;have hy2:je H2 y p.data:=(hy.guard.new _).new _;have g1:H2.get H.next=.blk 0 51 (p.avx x):=by simp only [H2];rw [aQ (by rw [nNew,yI];omega)];exact aK rfl
 have g2:H2.get (H.next+1)=.blk 0 51 (p.avx y):=aK rfl;have l1:ld (.ref H.next 0 8) H2=some (x,H2):=by rw [dJ g1];rfl
 have l2:ld (.ref (H.next+1) 0 8) H2=some (y,H2):=by rw [dJ g2];rfl
 have e1:=hx2.is.lnS;have e2:=hy2.is.lnS;have key:∀k i,i+k=p.data.length->Ea cl [.ref H.next 0 0,.ref (H.next+1) 0 0,I p.data.length,I i] H2=some (B true,H2):=by
  intro k
  induction k with
  | zero=>
   intro i hi;have h1:¬(i:Int) < p.data.length:=by omega
   rw [WH];simp -implicitDefEqProofs only [xq_,h1]
  | succ k ih=>
   intro i hi;have h1:(i:Int) < p.data.length:=by omega
   have h6:(i:Int)+1=((i+1:Nat):Int):=by omega
   have h7:=wrap_i64 (a:=((i+1:Nat):Int)) (by omega) (by omega);have s1:=hx2.is.ix (k:=.i64) (i:=(i:Int)) (by omega) h1;have s2:=hy2.is.ix (k:=.i64) (i:=(i:Int)) (by omega) h1;rw [zaq] at s1 s2;have t1:=hx2.is.ld (i:=i) (by omega);have t2:=hy2.is.ld (i:=i) (by omega);rw [zaD,zab (show i < p.data.length by omega)] at t1 t2;have r1:=ih (i+1) (by omega);rw [WH];simp -implicitDefEqProofs only [xq_,h1,l1,l2,s1,s2,t1,t2,eq_self,zae,bf,h6,h7,r1]
 have r1':Ea cl [.ref H.next 0 0,.ref (H.next+1) 0 0,I p.data.length,I 0] H2=some (B true,H2):=key p.data.length 0 (by omega);have lds:∀i v,(p.avx x)[i]?=some v->ld (.ref H.next 0 i) H2=some (v,H2):=λi v hv=> by rw [dJ g1,hv];rfl
 have aek:∀i v,(p.avx y)[i]?=some v->ld (.ref (H.next+1) 0 i) H2=some (v,H2):=λi v hv=> by rw [dJ g2,hv];rfl
 have a0:=lds 0 _ rfl;have a1:=lds 1 _ rfl;have a2:=lds 2 _ rfl;have a3:=lds 3 _ rfl;have a4:=lds 4 _ rfl;have a5:=lds 5 _ rfl;have a6:=lds 6 _ rfl;have a7:=lds 7 _ rfl;have b0:=aek 0 _ rfl;have b1:=aek 1 _ rfl;have b2:=aek 2 _ rfl;have b3:=aek 3 _ rfl;have b4:=aek 4 _ rfl;have b5:=aek 5 _ rfl;have b6:=aek 6 _ rfl;have b7:=aek 7 _ rfl;simp only [H2] at a0 a1 a2 a3 a4 a5 a6 a7 b0 b1 b2 b3 b4 b5 b6 b7 l1 l2 e1 e2 r1';simp -implicitDefEqProofs only [Nat.reduceLT,xq_,aiw,aB (uX hx.one),aB (uX hy.one),a0,a1,a2,a3,a4,a5,a6,a7,b0,b1,b2,b3,b4,b5,b6,b7,l1,l2,e1,e2,eq_self,zae,RS,r1']
section
variable {b:Nat}{H H':aj}{g:Store}{q:Nat}{cs:List Cell}
theorem OS.own {τ:Nat->Option Tag}{T:Tag}{x:AV}{m:Nat}{l:List AV}(h:OS b H τ T x m l):Own b H x m l:=by
 rcases h with h | ⟨r,g,off,n,cap,ex,ty,all,k0,_,k2⟩
 ·exact .inl h
 ·exact .inr ⟨r,g,off,n,cap,ex,ty,all,k0,k2⟩
theorem Own.one {x:AV}{m:Nat}{l:List AV}(h:Own b H x m l):One x:=by
 rcases h with⟨rfl,_⟩ | ⟨r,g,off,n,cap,ex,ty,all,rfl,_⟩
 ·exact mP
 ·exact qg
theorem RU {α:Type}:∀{es:List (Int × α)} {n:Int} {v:α},jc es n=some v->∃j:Nat,es[j]?=some (n,v)/\∀k,k < j->∀e,es[k]?=some e->e.1≠n
 | [],_,_,h=> by cases h
 | (k,w)::es,n,v,h=> by
  simp only [jc] at h;split at h
  ·rename_i e;subst e;cases h;exact⟨0,rfl,λk hk=> by omega⟩
  ·rename_i e;obtain⟨j,h1,h2⟩:=RU h;refine⟨j+1,h1,λk hk x hx=> ?_⟩;cases k with
   | zero=> cases hx;exact e
   | succ k=> exact h2 k (by omega) x (by simpa using hx)
theorem En {α:Type}:∀{es:List (Int × α)} {n:Int},jc es n=none↔n∉es.map (·.1)
 | [],_=> by simp [jc]
 | (k,w)::es,n=> by
  simp only [jc];by_cases e:k=n
  ·simp [e]
  ·simp only [e,if_false,zaB,zam,not_or];rw [En];exact⟨λh=> ⟨λh'=> e h'.symm,h⟩,λh=> h.2⟩
theorem qA:∀(es:List (Int × AV)) (n:Int),nM es n=jc es n
 | [],_=> rfl
 | (k,w)::es,n=> by
  simp only [nM,jc];split
  ·rfl
  ·exact qA es n
theorem MG {α β:Type}:∀{es:List (Int × α)} {az:List (Int × β)} {n:Int},az.map (·.1)=es.map (·.1)->(jc es n=none↔jc az n=none):=by
 intro es az n h;rw [En,En,h]
theorem Eo {α β:Type}:∀{es:List (Int × α)} {az:List (Int × β)} {n:Int} {v:α},az.map (·.1)=es.map (·.1)->jc es n=some v->∃(j:Nat) (w:β),jc az n=some w/\es[j]?=some (n,v)/\az[j]?=some (n,w)
 | [],_,_,_,_,h=> by cases h
 | (k,v0)::es,[],_,_,h,_=> by simp at h
 | (k,v0)::es,(k',w0)::az,n,v,h,h'=> by
  simp only [zaB,zbW] at h;obtain⟨rfl,h⟩:=h;simp only [jc] at h' ⊢;split at h'
  ·rename_i e;subst e;cases h';exact⟨0,w0,by simp,rfl,rfl⟩
  ·rename_i e;obtain⟨j,w,h1,h2,h3⟩:=Eo h h';exact⟨j+1,w,by simp only [e,if_false];exact h1,h2,h3⟩
theorem Good.maps(G:Good b H g)(h:g q=some cs){i m:Nat}{k:IntKind}{es:List (Int × List AV)}(hi:cs[i]?=some (.maps k m es)):
  ∃r,ld (.ref q 0 i) H=some (.mp r,H)/\lnM (.mp r) H=some (I es.length,H)/\∀z n,∃x,(jc es n=none->x=.s z)/\(∀l,jc es n=some l->Own b H x m l)/\∀ok,lk k z (.mp r) (.s (.int k n)) ok H=some ((if ok then .tup [x,B (jc es n).isSome] else x),H):=by
 obtain⟨h0,τ,hR⟩:=G;have R:=hR q cs h;obtain⟨ty,xs,h1,h2,h3,h4⟩:=R.blk;have hlt:i < xs.length:=by rw [h2];exact(zaf.1 hi).1
 have hx:xs[i]?=some (xs[i]'hlt):=zab hlt;have:=h4 i _ _ hi hx;simp only [CR] at this;obtain⟨aes,⟨r,e,t1,t2,t3,t4⟩,a2,a3⟩:=this;rw [e] at hx;refine⟨r,by rw [dJ h1,hx];rfl,?_,λz n=> ?_⟩
 ·simp only [lnM,jw,aU,zah,aou,t4];have:=congrArg List.length a2;simp only [zaE] at this;rw [this]
 ·cases hn:jc es n with
  | none=>
   have hf:nM aes n=none:=by rw [qA];exact(MG a2).1 hn
   refine⟨.s z,λ_=> rfl,λl hl=> (by cases hl),λok=> ?_⟩;simp only [lk,jw,aU,zah,lkO,t4,and_self,if_true,hf];cases ok <;> rfl
  | some l=>
   obtain⟨j,w,b1,b2,b3⟩:=Eo a2 hn;refine⟨w,λh=> (by cases h),λl' hl=> (by cases hl;exact(a3 j n l w b2 b3).own),λok=> ?_⟩;simp only [lk,jw,aU,zah,lkO,t4,and_self,if_true,qA,b1];cases ok <;> rfl
end
theorem MJ(H:aj){l:List Int}(hl:l.length < 1000000000){x:AV}(hx:je H x l):cl 28 [x] H=some (dat l,H):=by
 by_cases h:l=[]
 ·rw [hx.nil h];subst h;have t:=jd H [] (by simp);have z:dat ([]:List Int)=zN:=by simp [dat,dU]
  rw [z] at t ⊢;exact t
 ·have h0:l.length≠0:=λe=> h (zao e);have e2:=qj (e:=3) (by_:=8) (r:=H.guard.next) (H:=H.guard.new (.blk 0 3 [])) nS (hx.is.guard.new _) (uT l) h0 (by unfold most;omega) (by unfold most;omega);simp only [yI,nNew] at e2;refine fZ rfl rfl (aay _ _ _ (r:=(.sl (H.next+1) 0 0 1 l.length l.length false,(H.guard.new (.blk 0 3 [])).new (.blk 0 (3+fA) (l.map I)))) ?_) ?_
  ·have e1:bi .eql 22 x zN=some (B false):=aG.Yd Tryz.underlying22 hx.is h0;simp -implicitDefEqProofs only [xq_,WQ,e1,KJ,wF,e2,zbk,zaU]
  ·rw [ug h];refine jC (by omega) (cells:=l.map I) ?_ (fO _ λx hx=> uU l x hx _ _);simp only [aZ,iE,nNew,yI,if_true];rw [if_pos (by simp),zaO,zar (by simp)]
theorem Js(e:Ent){d:Nat}:∀x∈e.av,Frz (d+2) x:=λx hx=> by
 simp only [Ent.av,zam,zaH,or_false] at hx;rcases hx with rfl | rfl | rfl | rfl | rfl | rfl <;> first | exact eH | exact rD
theorem agd(e:Row){d:Nat}:∀x∈e.av,Frz (d+2) x:=λx hx=> by
 simp only [Row.av,zam,zaH,or_false] at hx;rcases hx with rfl | rfl | rfl <;> first | exact eH | exact rD
theorem rJ:Ent.zero.av=[zI,zI,zI,zI,zB,zN]:=by simp [Ent.zero,Ent.av,dat,dU]
theorem abb:Row.zero.av=[zI,zI,zN]:=by simp [Row.zero,Row.av,dat,dU]
theorem RX(H:aj)(e:Ent){x:AV}(hl:e.data.length < 1000000000)(hx:je H x e.data):cl 152 [.agg (e.avx x)] H=some (.agg e.av,H):=by
 refine aY rfl rfl (ale _ _ _) ?_ (kF (Js e));have e1:=λo o'=> MJ ((H.guard.new o).new o') hl ((hx.guard.new o).new o');simp -implicitDefEqProofs only [Nat.reduceLT,Nat.reduceAdd,setAt,xq_,hq_,adL,aB,hx.one.2,Ent.avx,e1,Ent.av]
section
variable {b:Nat}{H:aj}{g:Store}{q:Nat}
theorem auo(H:aj)(e:Ent){r:Nat}{line:Int}(h:∀H':aj,H'.get=H.get->ld (.ref r 0 0) H'=some (I line,H'))(hr:r < H.next):cl 190 [.agg e.av,.ref r 0 0] H=some (B (decide (e.line=line)),H):=by
 refine aY rfl rfl (amA _ _ _ _) ?_ eH;have e1:=h H.guard rfl;simp -implicitDefEqProofs only [Nat.reduceLT,xq_,hq_,ad5,aB,Ent.av,e1,hr]
theorem Ep(G:Good b H g){c:Cache}(h:g q=some (bg c))(hl:c.l.length < 1000000)(line:Int):cl 151 [.ref q 0 0,I line] H=some (I (BU (c.at_ line)),H):=by
 refine aY rfl rfl (ala _ _ _ _) ?_ eH;have G1:=G.guard.new (.blk 0 3 [I line]);obtain⟨x,hx,c1⟩:=G1.seq h (i:=0) rfl;have hs:=c1.is (by decide) (bn bV c.l);have e2:=LY (H.guard.new (.blk 0 3 [I line])) (enc:=Ent.av) bV (f:=.fn (.func 190) [] [.ref H.next 0 0]) hs (by omega) (λe=> decide (e.line=line)) (λe _=> by
  rw [xB (by kernel_rfl)];exact auo _ e (λH' hg=> by rw [dJ (g:=0) (ty:=3) (xs:=[I line]) (by rw [hg];exact aK rfl)];rfl) (by rw [nNew,yI];omega))
 have eb:eU 3 (I line) H.guard=some (.ref H.next 0 0,H.guard.new (.blk 0 3 [I line])):=rfl;simp -implicitDefEqProofs only [xq_,adK,eb,hx,e2];rfl
theorem oV {α:Type}{p:α->Bool}:∀l:List α,(l.findIdx? p).bind (λi=> l[i]?)=l.find? p
 | []=> rfl
 | a::l=> by
  rw [List.findIdx?_cons,List.find?_cons];cases h:p a with
  | true=> simp
  | false=>
   simp only [zai,if_false];rw [<-oV l];cases l.findIdx? p <;> simp
def mJ(o:Option Ent):AV:=.tup [.agg (o.getD .zero).av,B o.isSome]
theorem Uk(o:Option Ent):Frz 9 (mJ o):=rC λx hx=> by
 simp only [zam,zaH,or_false] at hx;rcases hx with rfl | rfl
 ·exact kF (Js _)
 ·exact eH
theorem oh(G:Good b H g){c:Cache}(h:g q=some (bg c))(hl:c.l.length < 1000000)(hd:∀e∈c.l,e.data.length < 1000000000)(line:Int):cl 101 [.ref q 0 0,I line] H=some (mJ (c.find line),H):=by
 refine aY rfl rfl (ajz _ _ _ _) ?_ (Uk _);have G1:=G.guard.new (.blk 0 112 [zI,zI,zI,zI,zB,zN]);have e1:=Ep G1 h hl line;have hf:c.find line=(c.at_ line).bind λi=> c.l[i]?:=(oV c.l).symm;cases ha:c.at_ line with
 | none=>
  rw [ha] at e1 hf;have hn:BU (none:Option Nat)=-1:=rfl;rw [hn] at e1;simp -implicitDefEqProofs only [Int.reduceLT,Int.reduceNeg,Nat.reduceAdd,setAt,xq_,hq_,Xe,e1,aco,gK,cZ,hf,mJ,rJ,zaY,zaL,Option.bind_none]
 | some i=>
  rw [ha] at e1 hf;have hi:i < c.l.length:=zbv.1 ha |>.1
  obtain⟨e,he⟩:∃e,c.l[i]?=some e:=⟨_,zab hi⟩
  have hn:BU (some i)=(i:Int):=rfl;rw [hn] at e1;have h0:¬(i:Int) < 0:=by omega
  obtain⟨x,hx,c1⟩:=G1.seq h (i:=0) rfl;have hs:=c1.is (by decide) (bn bV c.l);have e3:=hs.ix (k:=.i64) (i:=(i:Int)) (by omega) (by omega);rw [zaq] at e3;have e4:=jJ bV hs he;have e5:=λH=> RX H e (hd e (zas he)) (lq H e.data);have e6:e.avx (dat e.data)=e.av:=rfl;rw [e6] at e5;have hf':c.find line=some e:=by rw [hf];exact he
  simp -implicitDefEqProofs only [Nat.reduceAdd,setAt,xq_,hq_,Xe,e1,h0,hx,e3,e4,e5,hf',mJ,zau,zaJ]
theorem anh(G:Good b H g){c:Cfg}{rows:Rows}(h:g q=some (AB c rows))(hd:∀e∈rows,e.2.data.length < 1000000000)(line:Int):cl 182 [.ref q 0 0,I line] H=some (.tup [.agg (rowOf rows line).av,B (jc rows line).isSome],H):=by
 refine aY rfl rfl (amb _ _ _ _) ?_ (rC λx hx=> ?_)
 ·have G1:=G.guard.new (.blk 0 260 [zI,zI,zN]);obtain⟨r,f1,f2,_⟩:=G1.map h (i:=8) rfl;have f3:=f2 (.agg #[.int .i64 0,.int .i64 0,.slice none 0 0]) line true;rw [uM] at f3;cases hr:jc rows line with
  | none=>
   have e5:=λH=> jd H [] (by simp);have z0:dat ([]:List Int)=zN:=by simp [dat,dU]
   rw [z0] at e5;have zc:AV.cells (.s (.agg #[.int .i64 0,.int .i64 0,.slice none 0 0]))=[zI,zI,zN]:=rfl;simp only [hr,Option.map_none,if_true] at f3;have zn:zN.aH=true:=rfl;have zn':zN.cells=[zN]:=rfl;simp -implicitDefEqProofs only [Nat.reduceAdd,setAt,xq_,hq_,XI,f1,f3,zc,e5,rowOf,hr,abb,zaY,zaL,zn,zn']
  | some w=>
   simp only [hr,zah,if_true] at f3;have hm:w.data.length < 1000000000:=by
    obtain⟨j,hj,_⟩:=RU hr;exact hd _ (zas hj)
   have e5:=λH=> jd H w.data hm;simp -implicitDefEqProofs only [Nat.reduceAdd,setAt,xq_,hq_,XI,f1,f3,Row.av,e5,rowOf,hr,zau,zaJ]
 ·simp only [zam,zaH,or_false] at hx;rcases hx with rfl | rfl
  ·exact kF (agd _)
  ·exact eH
theorem Ul(G:Good b H g){t:Turns}(h:g q=some (gu t))(line:Int):cl 199 [.ref q 0 0,I line] H=some (I (t.owner line),H):=by
 refine aY rfl rfl (amO _ _ _ _) ?_ eH;obtain⟨r,f1,f2,_⟩:=G.guard.map h (i:=0) rfl;have f3:=f2 (.int .i64 0) line true;rw [uM] at f3;cases hr:jc t.iy line with
 | none=>
  simp only [hr,Option.map_none,if_true] at f3;simp -implicitDefEqProofs only [Int.reduceNeg,xq_,XO,f1,f3,Turns.owner,hr,zaY]
 | some w=>
  simp only [hr,zah,if_true] at f3;simp -implicitDefEqProofs only [Int.reduceNeg,xq_,XO,f1,f3,Turns.owner,hr,zau]
theorem uY(G:Good b H g){t:Turns}(h:g q=some (gu t))(line:Int):cl 180 [.ref q 0 0,I line] H=some (B (t.owned line),H):=by
 refine aY rfl rfl (al5 _ _ _ _) ?_ eH;obtain⟨r,f1,f2,_⟩:=G.guard.map h (i:=0) rfl;have f3:=f2 (.int .i64 0) line true;rw [uM] at f3;cases hr:jc t.iy line with
 | none=>
  simp only [hr,Option.map_none,if_true] at f3;simp -implicitDefEqProofs only [xq_,XH,f1,f3,Turns.owned,hr,zaL]
 | some w=>
  simp only [hr,zah,if_true] at f3;simp -implicitDefEqProofs only [xq_,XH,f1,f3,Turns.owned,hr,zaJ]
def ET(w:Int × Int):List AV:=[I w.1,I w.2]
theorem Jt {α β:Type}(f:α->β):∀(es:List (Int × α)) (n:Int),jc (es.map λe=> (e.1,f e.2)) n=(jc es n).map f
 | [],_=> rfl
 | (k,v)::es,n=> by
  simp only [zaB,jc];split
  ·rfl
  ·exact Jt f es n
theorem ani(G:Good b H g){t:Turns}(h:g q=some (gu t))(line:Int):∃r x,ld (.ref q 0 1) H=some (.mp r,H)/\lk .i64 (.slice none 0 0) (.mp r) (I line) false H=some (x,H)/\Own b H x 2 ((t.ws line).flatMap ET):=by
 obtain⟨r,f1,_,f2⟩:=G.maps h (i:=1) rfl;obtain⟨x,x1,x2,x3⟩:=f2 (.slice none 0 0) line;refine⟨r,x,f1,x3 false,?_⟩;rw [Jt (λl:List (Int × Int)=> l.flatMap λw=> [I w.1,I w.2])] at x1 x2;simp only [show(λw:Int × Int=> [I w.1,I w.2])=ET from rfl] at x1 x2;cases hr:jc t.wait line with
 | none=>
  rw [hr] at x1;exact .inl ⟨x1 rfl,by simp [Turns.ws,hr]⟩
 | some w=>
  rw [hr] at x2;have:=x2 _ rfl
  simpa [Turns.ws,hr] using this
theorem uw(G:Good b H g){t:Turns}(h:g q=some (gu t))(line:Int):cl 181 [.ref q 0 0,I line] H=some (I (t.ws line).length,H):=by
 refine aY rfl rfl (al8 _ _ _ _) ?_ eH;obtain⟨r,x,f1,f2,f3⟩:=ani G.guard h line;have e:=(f3.is (n:=(t.ws line).length) (by decide) (bn (enc:=ET) (λ_=> rfl) _)).lnS;simp -implicitDefEqProofs only [xq_,adZ,f1,f2,e]
theorem abd {e m by_ r ty:Nat}{y:AV}{H:aj}(hx:H.get r=.blk 0 ty [])(hy:aG H y m 0 []):app e m by_ (.sl r 0 0 m 0 0 true) y H=some (.sl r 0 0 m 0 0 true,H):=by
 obtain⟨c1,c2⟩:=hy.sW;simp only [app,c1,c2,bU];rw [if_pos ⟨by simp,rfl⟩];simp only [hx];rw [if_pos ⟨trivial,trivial,by simp⟩,if_pos trivial]
theorem PG(H:aj){l:List Evn}(hl:l.length < 1000000000){x:AV}(hx:aG H x 4 l.length (l.flatMap Evn.av))(hf:∀a:Evn,∀z∈Evn.av a,Frz 8 z)(ha:∀a:Evn,(Evn.av a).all AV.aH=true)(hm:∀a:Evn,(Evn.av a).length=4):∃y,cl 31 [x] H=some (y,H)/\∀H':aj,aG H' y 4 l.length (l.flatMap Evn.av):=by
 by_cases hz:x=zN
 ·subst hz;have h0:l=[]:=by
   have h1:=hx.2.2.2;exact zao h1
  subst h0;refine⟨zN,fZ rfl rfl (afo _ _ _ (r:=(zN,H.guard)) ?_) iq,λ_=> aG.nil⟩;have e:bi .eql 47 zN zN=some (B true):=by kernel_rfl
  simp -implicitDefEqProofs only [xq_,aaz,e]
 ·have e1:bi .eql 47 x zN=some (B false):=by
   obtain⟨_,hx⟩:=hx;cases x with
   | sl r g o m n c ex=> exact yU Tryz.underlying47
   | vs n m l=> exact ql Tryz.underlying47
   | s v=>
    cases v with
    | slice a b c=>
     cases a with
     | none=> obtain⟨rfl,rfl,_⟩:=hx;exact absurd rfl hz
     | some a=> exact hx.elim
    | _=> exact hx.elim
   | _=> exact hx.elim
  let H1:=H.guard.new (.blk 0 63 []);have x1:aG H1 x 4 l.length (l.flatMap Evn.av):=hx.guard.new _;by_cases h:l=[]
  ·subst h;have e2:=abd (e:=63) (by_:=32) (r:=H.next) (H:=H1) (aK rfl) x1;refine⟨.vs 0 4 [],fZ rfl rfl (afo _ _ _ (r:=(.sl H.next 0 0 4 0 0 true,H1)) ?_) ?_,λ_=> aG.vs rfl⟩
   ·simp only [H1] at e2;simp -implicitDefEqProofs only [xq_,aaz,e1,Z9,wF,e2,zbk,zaU];rfl
   ·refine jC (zac _) (cells:=[]) ?_ rfl;have:H1.get H.next=.blk 0 63 []:=aK rfl
    simp only [aZ,this];rfl
  ·have h0:l.length≠0:=λe=> h (zao e);have e2:=qj (e:=63) (by_:=32) (r:=H.next) (H:=H1) (aK rfl) x1 (xw ha l) h0 (by unfold most;omega) (by unfold most;omega);refine⟨.vs l.length 4 (l.flatMap Evn.av),fZ rfl rfl (afo _ _ _ (r:=(.sl (H.next+1) 0 0 4 l.length l.length false,H1.new (.blk 0 (63+fA) (l.flatMap Evn.av)))) ?_) ?_,λ_=> aG.vs (bn hm l)⟩
   ·have n1:H1.next=H.next+1:=rfl
    rw [n1] at e2;simp only [H1] at e2;simp -implicitDefEqProofs only [xq_,aaz,e1,Z9,wF,e2,zbk,zaU];rfl
   ·refine jC (by omega) (cells:=l.flatMap Evn.av) ?_ (fO _ λz hz=> RF hf l z hz _ _);have:(H1.new (.blk 0 (63+fA) (l.flatMap Evn.av))).get (H.next+1)=.blk 0 (63+fA) (l.flatMap Evn.av):=aK rfl;simp only [aZ,this];rw [if_pos ⟨trivial,by rw [bn hm];omega⟩,zaO,zar (by rw [bn hm];exact zac _)]
theorem Yr {x:AV}{m n:Nat}{cells:List AV}(h:∀H':aj,aG H' x m n cells)(hz:∀z∈cells,Frz 8 z):Frz 9 x:=by
 have h0:=h aj.empty;obtain⟨hl,h1⟩:=h0;cases x with
 | sl r g o m n c ex=> exact absurd h1.2.2.1.1 (by simp [aj.empty])
 | vs n m l=> obtain⟨_,_,rfl⟩:=h1;exact acP hz
 | s v=> exact eH
 | _=> exact h1.elim
theorem Es(G:Good b H g){l:List Evn}(h:g q=some (kN l))(h2:l.length < 1000000):∃x,cl 10 [.ref q 0 0] H=some (x,H)/\∀H':aj,aG H' x 4 l.length (l.flatMap Evn.av):=by
 obtain⟨x,hx,c⟩:=G.guard.seq h (i:=0) rfl;obtain⟨y,e,hy⟩:=PG H.guard (l:=l) (by omega) (c.is (by decide) (bn qh l)) Ya yT qh;refine⟨y,aY rfl rfl (aoW _ _ _) ?_ (Yr hy λz hz=> ?_),hy⟩
 ·simp -implicitDefEqProofs only [xq_,ais,hx,e]
 ·obtain⟨a,_,ha⟩:=za5.1 hz;exact Ya a z ha
theorem abe(G:Good b H g){A:Adr}{m:fJ}(M:iQ g A m)(hn:m.nodes.length < 1000)(i:Int):cl 19 [.ref A.jY 0 0,I i] H=some (if 0<=i/\i < m.nodes.length then .ref (A.N i.toNat 0) 0 0 else zP,H):=by
 obtain⟨x,hx,c⟩:=G.guard.seq M.jY (i:=10) rfl;have hs:=c.is (n:=m.nodes.length) (by decide) (uo _ _);have e2:=hs.lnS;have hall:aX H.guard H.next 9 (if 0<=i/\i < m.nodes.length then .ref (A.N i.toNat 0) 0 0 else zP)=some (if 0<=i/\i < m.nodes.length then .ref (A.N i.toNat 0) 0 0 else zP):=by
  split
  ·rename_i h;obtain⟨n,hn⟩:∃n,m.nodes[i.toNat]?=some n:=⟨_,zab (by omega)⟩
   have:=G.lt (M.node _ n hn).1;rw [aX];simp only [this,if_true]
  ·exact iq
 refine fZ rfl rfl (apb _ _ _ _ (r:=(_,H.guard)) ?_) hall;by_cases h0:i < 0
 ·have:¬(0<=i/\i < m.nodes.length):=by omega
  rw [if_neg this];simp -implicitDefEqProofs only [xq_,aaw,h0]
 ·by_cases h1:(m.nodes.length:Int)<=i
  ·have:¬(0<=i/\i < m.nodes.length):=by omega
   rw [if_neg this];simp -implicitDefEqProofs only [xq_,aaw,h0,hx,e2,h1]
  ·have:0<=i/\i < m.nodes.length:=by omega
   rw [if_pos this];have e3:=hs.ix (k:=.i64) (i:=i) (by omega) (by omega);have e4:=hs.ld (i:=i.toNat) (by omega);rw [Em (by omega)] at e4;simp -implicitDefEqProofs only [xq_,aaw,h0,hx,e2,h1,e3,e4]
end
def uy:List (List Pkt)->Nat->Int->Option (Nat × Int)
 | [],_,_=> none
 | l::ls,j,at_=> if 0<=at_/\at_ < l.length then some (j,at_) else uy ls (j+1) (at_ - l.length)
theorem qB:∀{ls:List (List Pkt)} {j:Nat} {at_:Int} {j':Nat} {k:Int},uy ls j at_=some (j',k)->j<=j'/\∃l,ls[j' - j]?=some l/\0<=k/\k < l.length/\0<=at_/\ls.flatten[at_.toNat]?=l[k.toNat]?
 | [],_,_,_,_,h=> by cases h
 | l::ls,j,at_,j',k,h=> by
  simp only [uy] at h;split at h
  ·rename_i hc;cases h;refine⟨zac _,l,by simp,hc.1,hc.2,hc.1,?_⟩;rw [List.flatten_cons,zaK (by omega)]
  ·rename_i hc;obtain⟨h1,l',h2,h3,h4,h5,h6⟩:=qB h;refine⟨by omega,l',by rw [show j' - j=(j' - (j+1))+1 by omega];simpa using h2,h3,h4,by omega,?_⟩;rw [List.flatten_cons,za4 (by omega),<-h6]
   congr 1;omega
theorem zG:∀{ls:List (List Pkt)} {j:Nat} {at_:Int},uy ls j at_=none->at_ < 0∨(ls.flatten.length:Int)<=at_
 | [],_,_,_=> by simp;omega
 | l::ls,j,at_,h=> by
  simp only [uy] at h;split at h
  ·cases h
  ·rename_i hc;have:=zG h;rw [List.flatten_cons,zan];omega
theorem uZ:∀l:List Port,(l.flatMap λp=> [p.rq,p.an]).flatten=l.flatMap λp=> p.rq++p.an
 | []=> rfl
 | p::l=> by simp [uZ l]
def jG(P:Nat->Nat->Nat)(j:Nat):List AV:=[.ref (P (j / 2) (if j % 2=0 then 0 else 2)) 0 0,.ref (P (j / 2) (if j % 2=0 then 1 else 3)) 0 0]
theorem MK {P:Nat->Nat->Nat}{n j:Nat}(h:j < 2*n):((gy P n).drop (j*2)).take 2=jG P j:=by
 have hi:j / 2 < n:=by omega
 have hfl:=flat_get (m:=4) (enc:=λi=> lN (P i)) (λ_=> rfl) (List.range n) (j / 2) (j / 2) (zbi hi);rcases Nat.mod_two_eq_zero_or_one j with h0 | h0
 ·have e:((gy P n).drop (j*2)).take 2=(((gy P n).drop (j / 2*4)).take 4).take 2:=by
   rw [zbU,show j / 2*4=j*2 by omega];rfl
  rw [e];refine(congrArg (List.take 2) hfl).trans ?_;simp [jG,h0,lN]
 ·have e:((gy P n).drop (j*2)).take 2=((((gy P n).drop (j / 2*4)).take 4).drop 2).take 2:=by
   rw [zcf,zbC,zbU,show j / 2*4+2=j*2 by omega];rfl
  rw [e];refine(congrArg (λl=> (List.drop 2 l).take 2) hfl).trans ?_;simp [jG,h0,lN]
theorem Yt {g:Store}{f:Nat}{P:Nat->Nat->Nat}{c:Cfg}{fab:Fab}(F:fH g f P c fab){j:Nat}{l:List Pkt}(h:fab.fU[j]?=some l):
  g (P (j / 2) (if j % 2=0 then 0 else 2))=some (kZ l c.out):=by
 have hj:j < 2*fab.l.length:=by
  have:=(zaf.1 h).1
  rwa [Fab.fU,nX] at this
 obtain⟨l',a,a',h1,h2,h3⟩:=F.aef hj;rw [h] at h1;cases h1;rw [MK hj] at h2;simp only [jG,zbW,AV.ref.injEq,and_true] at h2;rw [h2.1];exact h3
section
variable {b:Nat}{H:aj}{g:Store}{f:Nat}{P:Nat->Nat->Nat}{c:Cfg}{fab:Fab}
def uz(P:Nat->Nat->Nat):Option (Nat × Int)->AV
 | some (j,k)=> .tup [.agg (jG P j),I k,B true]
 | none=> .tup [.agg [zP,zP],I 0,B false]
theorem Yu(G:Good b H g)(F:fH g f P c fab)(hn:fab.l.length < 1000)(h0:fab.l.length≠0)(hr:∀l∈fab.fU,l.length < 1000)(at_:Int)(h64:In64 at_):
  cl 33 [.ref f 0 0,I at_] H=some (uz P (uy fab.fU 0 at_),H):=by
 have hpl:fab.fU.length=2*fab.l.length:=nX _;have hpx:(gy P fab.l.length).length=(2*fab.l.length)*2:=by rw [gy,lY];omega
 let H0:=H.guard.new (.blk 0 90 [zP,zP]);have ep:=RN (G.guard.new (.blk 0 90 [zP,zP])) F hn h0;have xs:∀H':aj,aG H' (.vs (2*fab.l.length) 2 (gy P fab.l.length)) 2 (2*fab.l.length) (gy P fab.l.length):=λH'=> aG.vs hpx;let fnd:=uy fab.fU 0 at_;have key:∀k j,j+k=2*fab.l.length->∀(Hi:aj) (a:Int),H0.next<=Hi.next->Hi.base=H.next->(∀r,r < H0.next->Hi.get r=H0.get r)->In64 a->
   ((0<=a/\fnd=uy (fab.fU.drop j) j a)∨((a < 0∨9223372036854775808 - 1000 - 1000*(j:Int)<=a)/\fnd=none))->
   (IZ cl [I a,.ref H.next 0 0,.vs (2*fab.l.length) 2 (gy P fab.l.length),I (2*fab.l.length:Nat),I j] Hi).map Prod.fst=some (uz P fnd):=by
  intro k
  induction k with
  | zero=>
   intro j hj Hi a n1 b1 s1 ha hc;have h1:¬(j:Int) < (2*fab.l.length:Nat):=by omega
   have hf:fnd=none:=by
    rcases hc with⟨_,hc⟩ | ⟨_,hc⟩
    ·rw [hc,zaS (by omega)];rfl
    ·exact hc
   have g0:Hi.get H.next=.blk 0 90 [zP,zP]:=by rw [s1 _ (by show H.next < H.next+1;omega)];exact aK rfl
   have hb1:Hi.base<=H.next:=by omega
   have e0:bd 90 []=some (.agg [zP,zP]):=by simp -implicitDefEqProofs only [xq_,ahA,gK,dM]
   have e1:=acY (H:=Hi) (r:=H.next) (off:=0) (n:=2) (v:=.agg [zP,zP]) g0 hb1 rfl rfl (by decide);rw [hf,WS];have e2:=fP (H:=Hi.put H.next (.blk 0 90 (setAt [zP,zP] 0 [zP,zP]))) (r:=H.next) (off:=0) (n:=2) (g:=0) (ty:=90) (xs:=[zP,zP]) Dy (by decide);have hs:setAt [zP,zP] 0 [zP,zP]=[zP,zP]:=rfl;simp only [dG,hs] at e1 e2;simp -implicitDefEqProofs only [Nat.reduceAdd,setAt,xq_,hq_,h1,e0,e1,e2,uz]
  | succ k ih=>
   intro j hj Hi a n1 b1 s1 ha hc;have h1:(j:Int) < (2*fab.l.length:Nat):=by omega
   have h6:(j:Int)+1=((j+1:Nat):Int):=by omega
   have h7:=wrap_i64 (a:=((j+1:Nat):Int)) (by omega) (by omega);have a1:=(xs Hi).ix (k:=.i64) (i:=(j:Int)) (by omega) h1;rw [zaq] at a1;have a3:=(xs Hi).lda (i:=j) (by omega);rw [MK (by omega)] at a3;obtain⟨l,hl⟩:∃l,fab.fU[j]?=some l:=⟨_,zab (by omega)⟩
   have p3:=Yt F hl;have hlen:=hr l (zas hl);let H1:=Hi.new (.blk 0 90 (jG P j));have G1:Good b H1 g:=(((G.guard.new _).ext n1 s1).new _)
   have e3:=Yf G1 p3;have sb:Hi.base<=Hi.next:=by have:H.next+1<=Hi.next:=n1;omega
   have lt0:H.next < Hi.next:=n1
   have hd:fab.fU.drop j=l::fab.fU.drop (j+1):=by
    rw [zbl (by omega)];rw [zab (by omega)] at hl;rw [za2 hl]
   rw [WS];simp only [H1,jG] at e3;by_cases hin:0<=a/\a < l.length
   ·have hf:fnd=some (j,a):=by
     rcases hc with⟨_,hc⟩ | ⟨hc,_⟩
     ·rw [hc,hd,uy,if_pos hin]
     ·omega
    have g0:Hi.get H.next=.blk 0 90 [zP,zP]:=by rw [s1 _ (by show H.next < H.next+1;omega)];exact aK rfl
    have hb1:Hi.base<=H.next:=by omega
    have e1:=acY (H:=Hi.new (.blk 0 90 (jG P j))) (r:=H.next) (off:=0) (n:=2) (v:=.agg (jG P j)) (by rw [aQ lt0];exact g0) (by rw [bNew];exact hb1) rfl rfl (by decide);have e2:=fP (H:=(Hi.new (.blk 0 90 (jG P j))).put H.next (.blk 0 90 (setAt [zP,zP] 0 (jG P j)))) (r:=H.next) (off:=0) (n:=2) (g:=0) (ty:=90) (xs:=setAt [zP,zP] 0 (jG P j)) Dy (by simp [jG,setAt]);simp only [dG,jG] at e1 e2;have hs:∀x y:AV,setAt [zP,zP] 0 [x,y]=[x,y]:=λ_ _=> rfl;have h0:=hin.1;have h2:=hin.2;rw [hf];simp only [hs] at e1 e2;simp -implicitDefEqProofs only [Nat.reduceAdd,setAt,xq_,hq_,h1,a1,a3,jG,sb,h0,h2,e3,e1,e2,uz]
   ·have hw:∃a',IntKind.wrap .i64 (a - l.length)=a'/\In64 a'/\((0<=a'/\fnd=uy (fab.fU.drop (j+1)) (j+1) a')∨((a' < 0∨9223372036854775808 - 1000 - 1000*((j+1:Nat):Int)<=a')/\fnd=none)):=by
     rcases hc with⟨hc0,hc⟩ | ⟨hc,hn⟩
     ·refine⟨a - l.length,wrap_i64 (by omega) (by have:=ha.2;omega),⟨by omega,by have:=ha.2;omega⟩,.inl ⟨by omega,?_⟩⟩;rw [hc,hd,uy,if_neg hin]
     ·by_cases hlow:-9223372036854775808<=a - l.length
      ·refine⟨a - l.length,wrap_i64 hlow (by have:=ha.2;omega),⟨hlow,by have:=ha.2;omega⟩,.inr ⟨?_,hn⟩⟩;rcases hc with hc | hc
       ·left;omega
       ·right;omega
      ·refine⟨a - l.length+18446744073709551616,?_,⟨by have:=ha.1;omega,by omega⟩,.inr ⟨.inr (by have:=ha.1;omega),hn⟩⟩;have:a - l.length+18446744073709551616=IntKind.wrap .i64 (a - l.length):=by
        simp [IntKind.wrap,IntKind.signed,IntKind.bits];have:=ha.1;omega
       exact this.symm
    obtain⟨a',w1,w2,w3⟩:=hw;have r1:=ih (j+1) (by omega) (Hi.new (.blk 0 90 (jG P j))) a' (zbA n1) b1 (λr hr=> by rw [aQ (by omega)];exact s1 r hr) w2 w3;simp only [jG] at r1;by_cases h0:0<=a
    ·have h2:¬a < l.length:=by omega
     simp -implicitDefEqProofs only [Nat.reduceAdd,setAt,xq_,hq_,h1,a1,a3,jG,sb,h0,h2,e3,jl,w1,bf,h6,h7,r1]
    ·simp -implicitDefEqProofs only [Nat.reduceAdd,setAt,xq_,hq_,h1,a1,a3,jG,sb,h0,e3,jl,w1,bf,h6,h7,r1]
 have r1:=key (2*fab.l.length) 0 (by omega) H0 at_ (zac _) rfl (λ_ _=> rfl) h64 (by
  by_cases h:0<=at_
  ·exact .inl ⟨h,rfl⟩
  ·refine .inr ⟨.inl (by omega),?_⟩;cases hf:uy fab.fU 0 at_ with
   | none=> exact hf
   | some r=>
    obtain⟨j,k⟩:=r;obtain⟨_,l,_,_,_,h5,_⟩:=qB hf;omega)
 have hz:∀Hz,aX Hz H.next 9 (uz P fnd)=some (uz P fnd):=by
  intro Hz;cases hf:fnd with
  | none=> exact rC (λx hx=> by
    simp only [zam,zaH,or_false] at hx;rcases hx with rfl | rfl | rfl
    ·exact kF (λx hx=> by
      simp only [zam,zaH,or_false] at hx;rcases hx with rfl | rfl <;> exact eH)
    ·exact eH
    ·exact eH) Hz _
  | some r=>
   obtain⟨j,k⟩:=r;obtain⟨_,l,hl,_⟩:=qB hf;rw [Nat.sub_zero] at hl;have hj:j / 2 < fab.l.length:=by
    have:=(zaf.1 hl).1;omega
   have l1:=F.lt G (i:=j / 2) (s:=if j % 2=0 then 0 else 2) hj (by split <;> omega);have l2:=F.lt G (i:=j / 2) (s:=if j % 2=0 then 1 else 3) hj (by split <;> omega);refine FX λx hx=> ?_;simp only [zam,zaH,or_false] at hx;rcases hx with rfl | rfl | rfl
   ·refine FW λx hx=> ?_;simp only [jG,zam,zaH,or_false] at hx;rcases hx with rfl | rfl
    ·rw [aX];exact if_pos l1
    ·rw [aX];exact if_pos l2
   ·exact iq
   ·exact iq
 cases hs:TY cl (.ref f 0 0) (I at_) H.guard with
 | none=>
  exfalso;have e2:=(xs H0).lnS;simp only [H0] at ep e2 r1;have:(TY cl (.ref f 0 0) (I at_) H.guard).map Prod.fst=some (uz P fnd):=by
   simp -implicitDefEqProofs only [xq_,TY,ep,e2];exact r1
  rw [hs] at this;cases this
 | some r=>
  have e2:=(xs H0).lnS;simp only [H0] at ep e2 r1;have:(TY cl (.ref f 0 0) (I at_) H.guard).map Prod.fst=some (uz P fnd):=by
   simp -implicitDefEqProofs only [xq_,TY,ep,e2];exact r1
  rw [hs] at this;simp only [zah,zaa] at this;obtain⟨v,Hz⟩:=r;simp only at this;subst this;exact fZ rfl rfl (apy _ _ _ _ hs) (hz Hz)
def Fab.pkt(f:Fab)(at_:Int):Option Pkt:=if at_ < 0 then none else f.all[at_.toNat]?
theorem Et(G:Good b H g)(F:fH g f P c fab)(hn:fab.l.length < 1000)(h0:fab.l.length≠0)(hr:∀l∈fab.fU,l.length < 1000/\∀p∈l,p.data.length < 1000000000)(at_:Int)(h64:In64 at_):
  cl 12 [.ref f 0 0,I at_] H=some (fC (fab.pkt at_),H):=by
 have G1:=G.guard.new (.blk 0 51 [zI,zI,zI,zI,zI,zI,zI,zB,zN]);have e1:=Yu G1 F hn h0 (λl hl=> (hr l hl).1) at_ h64;have hall:fab.fU.flatten=fab.all:=uZ fab.l;refine aY rfl rfl (ao0 _ _ _ _) ?_ (zy _);cases hf:uy fab.fU 0 at_ with
 | none=>
  rw [hf] at e1;have hp:fab.pkt at_=none:=by
   have:=zG hf;rw [hall] at this;unfold Fab.pkt;split
   ·rfl
   ·rw [zaG (by omega)]
  have zc:([zP,zP]:List AV).all AV.aH=true:=rfl;simp -implicitDefEqProofs only [Nat.reduceAdd,setAt,xq_,hq_,afg,e1,uz,zc,wC,gK,cZ,hp,fC,dQ,zaY,zaL,zak]
 | some r=>
  obtain⟨j,k⟩:=r;rw [hf] at e1;obtain⟨_,l,h2,h3,h4,h5,h6⟩:=qB hf;rw [Nat.sub_zero] at h2;have p3:=Yt F h2;have hp:fab.pkt at_=l[k.toNat]?:=by
   unfold Fab.pkt;rw [if_neg (by omega),<-hall,h6]
  have e2:=λo=> XV (G1.new o) p3 (hr l (zas h2)).1 (hr l (zas h2)).2 k;have hk:¬k < 0:=by omega
  have ha:¬at_ < 0:=by omega
  simp only [hk,if_false] at e2;rw [hp];obtain⟨p,hpp⟩:∃p,l[k.toNat]?=some p:=⟨_,zab (by omega)⟩
  rw [hpp] at e2 ⊢;simp -implicitDefEqProofs only [Nat.reduceAdd,setAt,xq_,hq_,afg,e1,uz,jG,ha,e2,fC,zau,zaJ,zae]
end
theorem Own.ref {b:Nat}{H:aj}{x:AV}{m n:Nat}{l:List AV}(o:Own b H x m l)(hm:0 < m)(hl:l.length=n*m){j:Nat}(hj:j < n):
  ∃r gg off,(∀k:IntKind,ix m x (.s (.int k j)) H=some (.ref r gg off,H))/\(∀k,k < m->ld (.ref r gg (off+k)) H=(l[j*m+k]?).map λv=> (v,H))/\lda m (.ref r gg off) H=some (.agg ((l.drop (j*m)).take m),H):=by
 have hs:=o.is hm hl;have hjm:(j+1)*m<=n*m:=zaC _ (by omega);rw [zbq,zbc] at hjm;rcases o with⟨_,h0⟩ | ⟨r,gg,off,n',cap,ex,ty,all,rfl,k2,k3,k4,k5,k6,k7,k8⟩
 ·rw [h0] at hl;simp only [zaw] at hl;omega
 have hn:n'=n:=hs.2.2.1;subst hn;have hcm:n'*m<=cap*m:=zaC _ k4;refine⟨r,gg,off+j*m,λk=> ?_,λk hk=> ?_,?_⟩
 ·have:=hs.ix (k:=k) (i:=(j:Int)) (by omega) (by omega);rw [zaq] at this;exact this
 ·rw [dJ k5,k8,zaA,if_pos (by omega),zaF,zb6]
 ·rw [fP k5 (by omega),k8]
  congr 3
  rw [zcf,zbC,zbU,zbe (by omega)]
theorem Own.name {b:Nat}{H:aj}{m:Nat}{x:AV}{l:List AV}(c:Own b H x m l){r:Nat}(h:nameOf x=some r):b<=r/\r < H.next:=by
 rcases c with⟨rfl,_⟩ | ⟨r',g,off,n',cap,ex,ty,all,rfl,k2,k3,_⟩
 ·cases h
 ·simp only [nameOf,zaa] at h;omega
section
variable {b:Nat}{H:aj}{g:Store}{q f:Nat}{N:Nat->Nat->Nat}{m:eX}
structure eX.fine(m:eX):Prop where
 n:m.nodes.length < 1000
 fab:m.fab.length=m.nodes.length
 af6:∀p∈m.fab,p.rq.length < 1000/\p.an.length < 1000/\p.rin.length < 1000/\p.ain.length < 1000
 ops:∀n∈m.nodes,n.ops.length < 1000/\n.values.length < 1000
end
end
end Go.Proofs.YtdflddpllngpjaaGreat
