/-
  Own work: an interpreter over named blocks, its soundness, and what the functions of this seat compute (part 4 of 12).
  Conditions: those of the statement alone.
-/
import Derived.Test.YtgplhpgkompkmaaGreatProg
import Derived.KernelRfl
import Derived.RangeFuncFrom
import Derived.RangeFuncLeaves
import Derived.RangeFuncCalls
import Derived.OrdersIn
import Derived.Test.YtgplhpgkompkmaaGreatJc
set_option maxRecDepth 100000
set_option linter.all false
set_option linter.unusedSectionVars false
set_option linter.unusedVariables false
set_option linter.unusedSimpArgs false
namespace Go.Proofs.YtgplhpgkompkmaaGreat
noncomputable section
def anz:Ann:=⟨[(6,[1,5,8]),(10,[1,5,8,9]),(15,[1,5,8,9,10,11,12,67,68,69]),(21,[1,5,8,9,10,11,12,15,77,78,79])],[(7,rF 6 (some true::rF 5 (some true::some false::some false::[])))],[]⟩
def IG:=jf Tryz.prog Tryz.f4 131 anz 0
def Ec:=jf Tryz.prog Tryz.f4 131 anz 1
def II:=jf Tryz.prog Tryz.f4 131 anz 2
def IJ:=jf Tryz.prog Tryz.f4 131 anz 3
def au4(C:aA)(a0 h:AV)(H:ah):OA:=
 bnd (fM 24 a0 H) λi H=>
 bnd (lda 12 i H) λe H=>bnd (C 8 [e,(I 16)] H) λb H=>bo (aF b 0) λd=>bo (aF b 1) λj=>bo (aF b 2) λk=>
 bo (bi .eql 25 d (.s (Go.Value.pointer none))) λg=>
 aQ g
 (some ((B false),H))
 (IG C [h,d,(I 0)] H)
def ahF(C:aA)(h d e:AV)(H:ah):IG C [h,d,e] H=
 bnd (lnS h H) λi H=>bo (bi .lss 3 e i) λb=>gl b true (some e) H λj H=>gl b true (bi .lss 3 j (I 60)) H λk H=>bo (bJ b k (B false)) λm=>
 aQ m
 (bnd (ix 4 h e H) λn H=>bnd (lda 4 n H) λo H=>bnd (unG H (C 9 [d] H.guard)) λp H=>bo (fl p 0) λq=>bo (ay d) λu=>fld u 0 H λv H=>bnd (unG H (C 17 [v] H.guard)) λw H=>bnd (C 16 [o,q,w] H) λy H=>bnd (C 15 [d,y] H) λz H=>
  Ec C [h,d,e,(I 0)] H)
 (bnd (C 14 [] H) λg H=>
  some (g,H)):=
 lpE.trans Z
def ahG(C:aA)(h b i d:AV)(H:ah):Ec C [h,b,i,d] H=
 bnd (C 9 [b] H) λj H=>bo (fl j 1) λk=>bo (bi .lss 3 d k) λm=>
 aQ m
 (bnd (C 10 [b,d] H) λe H=>bo (aF e 0) λn=>bo (aF e 1) λo=>
  bnd (mkm .i64 H) λp H=>
  bnd (C 11 [b,d] H) λg H=>bnd (lnS g H) λq H=>
  II C [h,b,i,d,n,o,p,g,q,(I 0)] H)
 (bo (bi .add 3 i (I 1)) λu=>
  IG C [h,b,u] H):=
 lpE.trans Z
def ahH(C:aA)(j k m n b g d h i e:AV)(H:ah):II C [j,k,m,n,b,g,d,h,i,e] H=
 bo (bi .lss 3 e i) λo=>
 aQ o
 (bnd (ix 1 h e H) λp H=>bnd (ld p H) λq H=>
  bnd (mup .i64 d q (B true) H) λ_ H=>
  bo (bi .add 3 e (I 1)) λu=>
  II C [j,k,m,n,b,g,d,h,i,u] H)
 (bnd (mkm .i64 H) λv H=>
  bnd (lnS b H) λw H=>
  IJ C [j,k,m,n,b,g,d,v,b,w,(I 0)] H):=
 lpE.trans Z
def ahI(C:aA)(F v G w i j k m p q n:AV)(H:ah):IJ C [F,v,G,w,i,j,k,m,p,q,n] H=
 bo (bi .lss 3 n q) λK=>
 aQ K
 (bnd (ix 1 p n H) λL H=>bnd (ld L H) λu H=>
  bnd (lk .i64 (.bool false) m u false H) λe H=>gl e false (some k) H λM H=>gl e false (some u) H λQ H=>gdA (some e) false (lk .i64 (.bool false) M Q false H) H λR H=>gl e false (un .not R) H λT H=>bo (bJ e (B true) T) λW=>
  aQ W
  (some ((B false),H))
  (bnd (mup .i64 m u (B true) H) λ_ H=>
  bo (bi .add 3 n (I 1)) λX=>
  IJ C [F,v,G,w,i,j,k,m,p,q,X] H))
 (bo (un .not j) λo=>gl o true (some i) H λaa H=>gdA (some o) true (lnS aa H) H λab H=>gl o true (bi .neq 3 ab (I 0)) H λad H=>bo (bJ o ad (B false)) λy=>gl y false (some v) H λae H=>gl y false (some w) H λaf H=>gdA (some y) false (C 13 [ae,af] H) H λz H=>gl y false (some z) H λg H=>gl g true (some j) H λA H=>gl g true (un .not A) H λag H=>gl g true (some ag) H λd H=>gl d false (some i) H λai H=>gdA (some d) false (lnS ai H) H λal H=>gl d false (some k) H λam H=>gdA (some d) false (lnM am H) H λao H=>gl d false (bi .neq 3 al ao) H λap H=>gl g true (bJ d (B true) ap) H λaq H=>gl y false (bJ g aq (B false)) H λar H=>bo (bJ y (B true) ar) λb=>gl b false (some v) H λaw H=>gl b false (some w) H λax H=>gdA (some b) false (C 12 [aw,ax] H) H λaz H=>gl b false (bi .eql 3 az (I (-1))) H λaD H=>gl b false (some aD) H λh H=>gl h true (some v) H λD H=>gl h true (some w) H λaE H=>gdA (some h) true (C 13 [D,aE] H) H λaL H=>gl h true (un .not aL) H λE H=>gl b false (bJ h E (B false)) H λaM H=>bo (bJ b (B true) aM) λaR=>
  aQ aR
  (some ((B false),H))
  (bo (bi .add 3 w (I 1)) λa0=>
  Ec C [F,v,G,a0] H)):=
 lpE.trans Z
def avE:Rn2 4 au4:=λ_ _ _ _ _ h=>
 rnG anz Tryz.func4 Z Z  h
def au7(C:aA)(a0 F:AV)(H:ah):OA:=
 bnd (fM 24 a0 H) λE H=>
 bnd (lda 12 E H) λj H=>bnd (C 33 [j] H) λk H=>bnd (alc 31 [zI,zI,zI,zI,zI,zI,zI,zN] H) λm H=>bnd (st 8 m k H) λ_ H=>
 bnd (lda 12 E H) λn H=>bnd (C 34 [n,F] H) λb H=>
 bnd (lda 8 m H) λo H=>bnd (C 35 [o,b] H) λg H=>bo (aF g 0) λp=>bo (aF g 1) λq=>
 bnd (lda 8 m H) λu H=>bnd (C 20 [u,b] H) λh H=>bo (aF h 0) λi=>bo (aF h 1) λv=>
 bo (un .not q) λd=>gl d false (some v) H λw H=>gl d false (bi .neq 57 w (I 0)) H λy H=>bo (bJ d (B true) y) λe=>gl e false (some i) H λz H=>gl e false (bi .eql 25 z (.s (Go.Value.pointer none))) H λA H=>bo (bJ e (B true) A) λD=>
 aQ D
 (some (.tup [(.s (Go.Value.pointer none)),(.s (Go.Value.pointer none)),(.s (Go.Value.slice none 0 0))],H))
 (some (.tup [i,p,b],H))
def avF:Rn2 8 au7:=λ_ _ _ _ _ h=>
 rnG an0 Tryz.func8 Z Z  h
def au8(C:aA)(a0:AV)(H:ah):OA:=
 bnd (alc 31 [zI,zI,zI,zI,zI,zI,zI,zN] H) λh H=>
 bo (ay a0) λi=>bo (au i 2) λj=>bnd (lda 8 j H) λk H=>bnd (alc 31 [zI,zI,zI,zI,zI,zI,zI,zN] H) λb H=>bnd (st 8 b k H) λ_ H=>
 fld b 7 H λm H=>bnd (C 36 [m] H) λd H=>bo (au b 7) λe=>bnd (st 1 e d H) λ_ H=>
 bnd (lda 8 b H) λg H=>bnd (st 8 h g H) λ_ H=>
 bnd (lda 8 h H) λn _=>some (n,H)
def avG:Rn1 9 au8:=λ_ _ _ _ h=>
 rnG an0 Tryz.func9 Z Z  h
def anD:Ann:=⟨[(6,[0,1,6,7])],[],[]⟩
def NS:=jf Tryz.prog Tryz.f10 42 anD 0
def akq(C:aA)(a0 b:AV)(H:ah):OA:=
 bnd (C 37 [a0,b] H) λd H=>bo (un .not d) λe=>
 aQ e
 (some (.tup [(.s (Go.Value.slice none 0 0)),(B false)],H))
 (bnd (C 38 [a0,b] H) λg H=>bo (fl g 1) λh=>
  NS C [a0,b,(.s (Go.Value.slice none 0 0)),h] H)
def NU(C:aA)(t0 h g d:AV)(H:ah):NS C [t0,h,g,d] H=
 bo (bi .neq 3 d (I (-1))) λi=>
 aQ i
 (bnd (C 39 [t0,d,h] H) λe H=>bo (aF e 0) λj=>bo (aF e 1) λk=>bnd (alc 100 [zI,zI,zI,zI,zB,zN] H) λy H=>bnd (st 6 y j H) λ_ H=>
  bo (un .not k) λb=>gl b false (some g) H λm H=>gl b false (some d) H λn H=>gdA (some b) false (C 40 [m,n] H) H λo H=>bo (bJ b (B true) o) λp=>
  aQ p
  (some (.tup [(.s (Go.Value.slice none 0 0)),(B false)],H))
  (bnd (bs 22 1 [(0,d)] H) λq H=>bnd (app 3 1 8 g q H) λu H=>
  bo (au y 0) λv=>fld v 0 H λw H=>
  NS C [t0,h,u,w] H))
 (some (.tup [g,(B true)],H)):=
 lpE.trans Z
def anE:Rn2 10 akq:=λ_ _ _ _ _ h=>
 rnG anD Tryz.func10 Z Z  h
def anF:Ann:=⟨[(4,[0,1,5,11,12])],[],[]⟩
def IK:=jf Tryz.prog Tryz.f11 38 anF 0
def IL(C:aA)(t0 g h b d:AV)(H:ah):OA:=
 bo (bi .add 3 d (I 1)) λe=>
 IK C [t0,g,h,b,e] H
def anG(C:aA)(a0 e:AV)(H:ah):OA:=
 bnd (C 9 [a0] H) λb H=>bo (fl b 0) λd=>
 IK C [a0,e,(.s (Go.Value.slice none 0 0)),d,(I 0)] H
def Ux(C:aA)(t0 g i d b:AV)(H:ah):IK C [t0,g,i,d,b] H=
 bo (bi .lss 3 b d) λj=>
 aQ j
 (bnd (C 25 [t0,b] H) λk H=>bo (ay k) λm=>fld m 0 H λn H=>bnd (C 41 [n,g] H) λh H=>bo (aF h 0) λo=>bo (aF h 1) λe=>bnd (alc 100 [zI,zI,zI,zI,zB,zN] H) λz H=>bnd (st 6 z o H) λ_ H=>
  gl e true (some t0) H λp H=>gl e true (some g) H λq H=>gdA (some e) true (C 37 [p,q] H) H λu H=>bo (bJ e u (B false)) λv=>
  aQ v
  (bnd (bs 22 1 [(0,b)] H) λw H=>bnd (app 3 1 8 i w H) λy H=>
  IL C t0 g y d b H)
  (IL C t0 g i d b H))
 (some (i,H)):=
 lpE.trans Z
def asT:Rn2 11 anG:=λ_ _ _ _ _ h=>
 rnG anF Tryz.func11 Z Z  h
def akr(C:aA)(a0 b:AV)(H:ah):OA:=
 bnd (C 37 [a0,b] H) λi H=>bo (un .not i) λj=>
 aQ j
 (some ((I (-1)),H))
 (bnd (C 9 [a0] H) λd H=>bnd (C 42 [d,b] H) λe H=>bnd (C 25 [a0,e] H) λg H=>bnd (C 43 [g,b] H) λh H=>
  some (h,H))
def asU:Rn2 12 akr:=λ_ _ _ _ _ h=>
 rnG an0 Tryz.func12 Z Z  h
def anH:Ann:=⟨[(10,[0,1,7,8,35,36,37])],[],[]⟩
def zK:=jf Tryz.prog Tryz.f13 64 anH 0
def YF(C:aA)(a0 g:AV)(H:ah):OA:=
 bnd (C 37 [a0,g] H) λh H=>bo (un .not h) λi=>
 aQ i
 (some ((B true),H))
 (bnd (C 10 [a0,g] H) λe H=>bo (aF e 0) λd=>bo (aF e 1) λj=>
  bo (un .not j) λb=>gl b false (some d) H λk H=>gdA (some b) false (C 46 [k] H) H λm H=>gdA (some b) false (C 45 [m] H) H λn H=>gl b false (some a0) H λo H=>gl b false (some g) H λp H=>gdA (some b) false (C 11 [o,p] H) H λq H=>gdA (some b) false (C 44 [n,q] H) H λu H=>gl b false (un .not u) H λv H=>bo (bJ b (B true) v) λw=>
  aQ w
  (some ((B false),H))
  (bnd (lnS d H) λy H=>
  zK C [a0,g,(.s (Go.Value.slice none 0 0)),(I (-1)),d,y,(I 0)] H))
def Uy(C:aA)(t0 j k E d e b:AV)(H:ah):zK C [t0,j,k,E,d,e,b] H=
 bo (bi .lss 3 b e) λm=>
 aQ m
 (bnd (ix 1 d b H) λn H=>bnd (ld n H) λh H=>
  bnd (C 39 [t0,h,j] H) λi H=>bo (aF i 0) λo=>bo (aF i 1) λF=>bnd (alc 100 [zI,zI,zI,zI,zB,zN] H) λg H=>bnd (st 6 g o H) λ_ H=>
  bo (au g 0) λp=>fld p 1 H λq H=>bo (bi .neq 3 q E) λu=>
  aQ u
  (some ((B false),H))
  (bnd (lda 6 g H) λv H=>bnd (bs 111 1 [(0,v)] H) λw H=>bnd (app 100 6 64 k w H) λy H=>
  bo (bi .add 3 b (I 1)) λz=>
  zK C [t0,j,y,h,d,e,z] H))
 (bnd (C 38 [t0,j] H) λA H=>bnd (C 47 [A,k] H) λD H=>
  some (D,H)):=
 lpE.trans Z
def asV:Rn2 13 YF:=λ_ _ _ _ _ h=>
 rnG anH Tryz.func13 Z Z  h
def anI(C:aA)(H:ah):OA:=
 bo (bd 31 [(0,(I 2)),(1,(I 1)),(2,(I 1)),(3,(I 1)),(4,(I 1)),(5,(I 1)),(6,(I 1))]) λA=>bnd (bs 27 2 [(0,(.s (Go.Value.slice none 0 0))),(1,(.s (Go.Value.slice none 0 0)))] H) λD H=>bnd (C 20 [A,D] H) λz H=>bo (aF z 0) λh=>bo (aF z 1) λi=>
 bo (bi .neq 57 i (I 0)) λd=>gl d false (some h) H λj H=>gl d false (bi .eql 25 j (.s (Go.Value.pointer none))) H λk H=>bo (bJ d (B true) k) λm=>
 aQ m
 (some ((B false),H))
 (bnd (C 10 [h,(I 0)] H) λe H=>bo (aF e 0) λn=>bo (aF e 1) λo=>
  bnd (bs 27 2 [(0,(.s (Go.Value.slice none 0 0))),(1,(.s (Go.Value.slice none 0 0)))] H) λp H=>bnd (C 18 [h,p] H) λg H=>gl g true (some o) H λq H=>bo (bJ g q (B false)) λb=>gl b true (some n) H λu H=>gdA (some b) true (lnS u H) H λv H=>gl b true (bi .eql 3 v (I 0)) H λw H=>bo (bJ b w (B false)) λy=>
  some (y,H))
def asW:Rn0 14 anI:=λ_ _ _ h=>
 rnG an0 Tryz.func14 Z Z  h
def asX:Ann:=⟨[],[(2,rF 13 []),(4,rF 16 [])],[]⟩
def ae3(C:aA)(a0 G:AV)(H:ah):OA:=
 bnd (fM 44 G H) λd H=>
 fld d 0 H λK H=>
 aQ K
 (bo (ay a0) λL=>fld L 0 H λg H=>fld d 1 H λh H=>fld d 2 H λi H=>fld d 3 H λj H=>bnd (C 48 [g,h,i,j] H) λk H=>bo (bi .eql 57 k (I 0)) λm=>
  some (m,H))
 (fld d 1 H λn H=>bnd (C 25 [a0,n] H) λe H=>
  bo (bi .neq 64 e (.s (Go.Value.pointer none))) λb=>gl b true (some e) H λo H=>gl b true (some a0) H λp H=>gl b true (ay p) H λq H=>gl b true (au q 0) H λu H=>gdA (some b) true (ld u H) H λv H=>gl b true (some a0) H λw H=>gl b true (ay w) H λy H=>gl b true (au y 1) H λz H=>gdA (some b) true (ld z H) H λA H=>gdA (some b) true (C 49 [o,v,A] H) H λD H=>gl b true (bi .neq 3 D (I 0)) H λE H=>bo (bJ b E (B false)) λF=>
  some (F,H))
def aks:Rn2 15 ae3:=λ_ _ _ _ _ h=>
 rnG asX Tryz.func15 Z Z  h
def asY:Ann:=⟨[],[(7,some false::some false::some true::rF 6 [])],[(7,[(4,6)])]⟩
def NY(C:aA)(d e:AV)(H:ah):OA:=
 bnd (lda 4 e H) λb H=>bnd (st 4 d b H) λ_ H=>
 bnd (lda 4 d H) λg _=>some (g,H)
def aa5(C:aA)(a0 a1 a2:AV)(H:ah):OA:=
 bnd (fM 47 a0 H) λb H=>bnd (alc 44 [zB,zI,zI,.s (.int .u16 0)] H) λd H=>
 fld b 0 H λv9 H=>bo (bi .rem 3 v9 (I 23)) λh=>bo (bi .eql 3 h (I 22)) λi=>
 aQ i
 (fld b 2 H λj H=>bo (bi .rem 3 j (I 2)) λk=>bo (bi .eql 3 k (I 0)) λm=>fld b 1 H λn H=>fld b 2 H λo H=>fld b 3 H λp H=>bo (bd 44 [(0,m),(1,n),(2,o),(3,p)]) λq=>bnd (st 4 d q H) λ_ H=>
  bnd (lda 4 d H) λu _=>some (u,H))
 (fld b 0 H λv H=>bnd (C 50 [v,(I 2)] H) λw H=>bo (bi .eql 3 w (I 0)) λy=>
  aQ y
  (fld b 1 H λz H=>bnd (C 50 [z,a1] H) λA H=>bo (bd 44 [(1,A)]) λD=>bnd (st 4 d D H) λ_ H=>
  bnd (lda 4 d H) λu _=>some (u,H))
  (fld b 1 H λE H=>bnd (C 50 [E,a2] H) λF H=>bo (bd 44 [(0,(B true)),(1,F)]) λG=>bnd (alc 44 [zB,zI,zI,.s (.int .u16 0)] H) λe H=>bnd (st 4 e G H) λ_ H=>
  fld b 0 H λK H=>bo (bi .rem 3 K (I 7)) λL=>bo (bi .eql 3 L (I 6)) λM=>
  aQ M
  (fld b 2 H λQ H1=>bnd (unG H1 (C 50 [Q,(I 120)] H1.guard)) λR H2=>bo (au b 3) λg=>bnd (ld g H2) λT H4=>bo (au e 2) λW=>bnd (st 1 W R H4) λ_ H6=>bo (au e 3) λX=>bnd (st 1 X T H6) λ_ H8=>ck (bQ g) H4 H6 <|
   NY C d e H8)
  (NY C d e H)))
def asZ:Rn3 16 aa5:=λ_ _ _ _ _ _ h=>
 rnG asY Tryz.func16 Z Z  h
def anJ:Ann:=⟨[(4,[3,7,8,9])],[],[]⟩
def NZ:=jf Tryz.prog Tryz.f17 20 anJ 0
def anK(C:aA)(a0:AV)(H:ah):OA:=
 bnd (C 51 [a0] H) λb H=>bnd (lnS b H) λd H=>
 NZ C [(I 0),b,d,(I 0)] H
def aa6(C:aA)(d e g b:AV)(H:ah):NZ C [d,e,g,b] H=
 bo (bi .lss 3 b g) λh=>
 aQ h
 (bnd (ix 2 e b H) λi H=>bnd (lda 2 i H) λj H=>bnd (alc 121 [zP,zP] H) λp H=>bnd (st 2 p j H) λ_ H=>
  fld p 0 H λk H=>bnd (C 52 [k] H) λm H=>bo (bi .add 3 d m) λn=>
  bo (bi .add 3 b (I 1)) λo=>
  NZ C [n,e,g,o] H)
 (some (d,H)):=
 lpE.trans Z
def as1:Rn1 17 anK:=λ_ _ _ _ h=>
 rnG anJ Tryz.func17 Z Z  h
def anL:Ann:=⟨[(4,[0,1,5,10,11])],[(8,rF 6 (some true::rF 7 []))],[]⟩
def IQ:=jf Tryz.prog Tryz.f18 44 anL 0
def anM(C:aA)(a0 e:AV)(H:ah):OA:=
 bnd (C 9 [a0] H) λg H=>bnd (alc 31 [zI,zI,zI,zI,zI,zI,zI,zN] H) λb H=>bnd (st 8 b g H) λ_ H=>
 fld b 1 H λd H=>
 IQ C [a0,e,b,d,(I 0)] H
def aa7(C:aA)(t0 i j h d:AV)(H:ah):IQ C [t0,i,j,h,d] H=
 bo (bi .lss 3 d h) λk=>
 aQ k
 (bnd (C 53 [t0,d] H) λm H=>bo (un .not m) λb=>gl b false (some t0) H λn H=>gl b false (some d) H λo H=>gdA (some b) false (C 12 [n,o] H) H λp H=>gl b false (bi .eql 3 p (I (-1))) H λq H=>gl b false (some q) H λe H=>gl e true (some t0) H λu H=>gl e true (some d) H λv H=>gdA (some e) true (C 13 [u,v] H) H λw H=>gl e true (un .not w) H λy H=>gl b false (bJ e y (B false)) H λz H=>bo (bJ b (B true) z) λA=>
  aQ A
  (some ((B false),H))
  (bo (bi .add 3 d (I 1)) λD=>
  IQ C [t0,i,j,h,D] H))
 (bnd (lda 8 j H) λE H=>bo (ay t0) λF=>fld F 1 H λG H=>bnd (unG H (C 55 [G] H.guard)) λK H=>bnd (C 54 [E,i,K] H) λg H=>gl g true (some t0) H λL H=>gl g true (some i) H λM H=>gdA (some g) true (C 19 [L,M] H) H λQ H=>bo (bJ g Q (B false)) λR=>
  some (R,H)):=
 lpE.trans Z
def as2:Rn2 18 anM:=λ_ _ _ _ _ h=>
 rnG anL Tryz.func18 Z Z  h
def anN:Ann:=⟨[(7,[0,5,6,24,25])],[(2,rF 6 (some true::some false::some false::[]))],[]⟩
def IU:=jf Tryz.prog Tryz.f19 44 anN 0
def anO(C:aA)(a0 p:AV)(H:ah):OA:=
 bnd (C 9 [a0] H) λq H=>bnd (alc 31 [zI,zI,zI,zI,zI,zI,zI,zN] H) λb H=>bnd (st 8 b q H) λ_ H=>
 bnd (lda 8 b H) λe H=>bo (ay a0) λg=>fld g 1 H λh H=>bnd (unG H (C 55 [h] H.guard)) λi H=>bnd (C 56 [e,p,i] H) λd H=>
 bnd (lnS d H) λj H=>bnd (lda 8 b H) λk H=>bnd (C 57 [k] H) λm H=>bo (bi .neq 3 j m) λn=>
 aQ n
 (some ((B false),H))
 (fld b 1 H λo H=>
  IU C [a0,b,d,o,(I 0)] H)
def aa8(C:aA)(t0 e g d b:AV)(H:ah):IU C [t0,e,g,d,b] H=
 bo (bi .lss 3 b d) λh=>
 aQ h
 (fld e 2 H λi H=>bo (bi .mul 3 b i) λj=>bo (bi .add 3 b (I 1)) λk=>fld e 2 H λm H=>bo (bi .mul 3 k m) λn=>bo (slS 1 g (some j) (some n) none) λo=>bnd (C 58 [t0,b,o] H) λp H=>bo (un .not p) λq=>
  aQ q
  (some ((B false),H))
  (bo (bi .add 3 b (I 1)) λu=>
  IU C [t0,e,g,d,u] H))
 (some ((B true),H)):=
 lpE.trans Z
def as3:Rn2 19 anO:=λ_ _ _ _ _ h=>
 rnG anN Tryz.func19 Z Z  h
def anP:Ann:=⟨[(11,[2,8,32,33,34])],[(8,some false::some true::some true::rF 4 []),(12,rF 8 (some true::rF 5 []))],[]⟩
def N7:=jf Tryz.prog Tryz.f20 54 anP 0
def anQ(C:aA)(a0 g:AV)(H:ah):OA:=
 bnd (fM 31 a0 H) λb H=>
 bnd (lda 8 b H) λh H=>bnd (C 59 [h] H) λd H=>
 bo (bi .neq 57 d (I 0)) λi=>
 aQ i
 (some (.tup [(.s (Go.Value.pointer none)),d],H))
 (bnd (lda 8 b H) λj H=>bnd (C 60 [j,g] H) λe H=>
  bo (bi .neq 57 e (I 0)) λk=>
  aQ k
  (some (.tup [(.s (Go.Value.pointer none)),e],H))
  (fld b 7 H λm H=>bnd (C 36 [m] H) λn H=>bo (au b 7) λo=>bnd (st 1 o n H) λ_ H=>
  bnd (lda 8 b H) λp H=>bnd (unG H (C 61 [p] H.guard)) λq H=>bnd (unG H (C 62 [] H.guard)) λu H=>bnd (lda 8 b H) λv H=>bo (bd 53 [(0,q),(1,u),(2,v)]) λw=>bnd (fM 53 w H) λy H=>
  bnd (lnS g H) λz H=>
  N7 C [b,y,g,z,(I 0)] H))
def aa9(C:aA)(h g d e b:AV)(H:ah):N7 C [h,g,d,e,b] H=
 bo (bi .lss 3 b e) λi=>
 aQ i
 (bnd (ix 1 d b H) λj H=>bnd (ld j H) λk H=>
  bo (ay g) λm=>fld m 10 H λn H=>bnd (lda 8 h H) λo H=>bnd (unG H (C 63 [o,b,k] H.guard)) λp H=>bnd (bs 51 1 [(0,p)] H) λq H=>bnd (app 64 1 8 n q H) λu H=>bo (ay g) λv=>bo (au v 10) λw=>bnd (st 1 w u H) λ_ H=>
  bo (bi .add 3 b (I 1)) λy=>
  N7 C [h,g,d,e,y] H)
 (some (.tup [g,(I 0)],H)):=
 lpE.trans Z
def as4:Rn2 20 anQ:=λ_ _ _ _ _ h=>
 rnG anP Tryz.func20 Z Z  h
def ae4(C:aA)(a0 d:AV)(H:ah):OA:=
 bo (bi .lss 3 d (I 0)) λb=>gl b false (some d) H λq H=>gl b false (some a0) H λu H=>gl b false (ay u) H λe H=>gl b false (au e 10) H λg H=>gdA (some b) false (ld g H) H λh H=>gdA (some b) false (lnS h H) H λi H=>gl b false (bi .geq 3 q i) H λj H=>bo (bJ b (B true) j) λk=>
 aQ k
 (some ((.s (Go.Value.pointer none)),H))
 (bo (ay a0) λm=>fld m 10 H λn H=>bnd (ix 1 n d H) λo H=>bnd (ld o H) λp H=>
  some (p,H))
def as5:Rn2 25 ae4:=λ_ _ _ _ _ h=>
 rnG an0 Tryz.func25 Z Z  h
def akt(C:aA)(a0 w:AV)(H:ah):OA:=
 bnd (alc 81 [zI,zI,zI,zI,zI,zI,zI,zB,zN] H) λg H=>
 bnd (C 69 [a0,w] H) λb H=>bo (aF b 0) λh=>bo (aF b 1) λi=>bo (aF b 2) λj=>bnd (alc 121 [zP,zP] H) λy H=>bnd (st 2 y h H) λ_ H=>
 bo (un .not j) λd=>gl d false (some w) H λk H=>gl d false (bi .lss 3 k (I 0)) H λm H=>bo (bJ d (B true) m) λn=>
 aQ n
 (bo (bd 81 []) λo=>bnd (st 9 g o H) λ_ H=>
  bnd (lda 9 g H) λp _=>some (.tup [p,(B false)],H))
 (fld y 0 H λq H=>bnd (C 70 [q,i] H) λe H=>bo (aF e 0) λu=>bo (aF e 1) λv=>bnd (st 9 g u H) λ_ H=>
  bnd (lda 9 g H) λp _=>some (.tup [p,v],H))
def as6:Rn2 28 akt:=λ_ _ _ _ _ h=>
 rnG an0 Tryz.func28 Z Z  h
def as7:Ann:=⟨[],[(1,some false::some false::some true::rF 3 (some true::rF 3 (some true::rF 3 (some true::rF 3 (some true::rF 3 (some true::rF 3 (some true::some false::some false::none::some false::[])))))))],[]⟩
def anR(C:aA)(a0:AV)(H:ah):OA:=
 bnd (fM 24 a0 H) λb H=>bnd (alc 31 [zI,zI,zI,zI,zI,zI,zI,zN] H) λR H=>
 bnd (alc 31 [zI,zI,zI,zI,zI,zI,zI,zN] H) λd H=>fld b 0 H λT H=>bnd (unG H (C 50 [T,(I 4)] H.guard)) λW H=>bo (bi .add 3 (I 1) W) λX=>fld b 1 H λv9 H=>bnd (unG H (C 50 [v9,(I 4)] H.guard)) λe H=>bo (bi .add 3 (I 1) e) λg=>fld b 2 H λh H=>bnd (unG H (C 50 [h,(I 2)] H.guard)) λi H=>bo (bi .add 3 (I 1) i) λj=>fld b 3 H λk H=>bnd (unG H (C 50 [k,(I 2)] H.guard)) λm H=>bo (bi .add 3 (I 1) m) λn=>fld b 4 H λo H=>bnd (unG H (C 50 [o,(I 2)] H.guard)) λp H=>bo (bi .add 3 (I 1) p) λq=>fld b 5 H λu H=>bnd (unG H (C 50 [u,(I 3)] H.guard)) λv H=>bo (bi .add 3 (I 1) v) λw=>fld b 6 H λy H=>bnd (unG H (C 50 [y,(I 3)] H.guard)) λz H=>bo (bi .add 3 (I 1) z) λA=>bo (bd 31 [(0,X),(1,g),(2,j),(3,n),(4,q),(5,w),(6,A)]) λD=>bnd (st 8 d D H) λ_ H=>
 fld b 7 H λE H=>fld d 1 H λF H=>fld d 2 H λG H=>bo (bi .mul 3 F G) λK=>bnd (C 74 [E,K] H) λL H=>bo (au d 7) λM=>bnd (st 1 M L H) λ_ H=>
 bnd (lda 8 d H) λQ H=>bnd (st 8 R Q H) λ_ H=>
 bnd (lda 8 R H) λr0 _=>some (r0,H)
def as8:Rn1 33 anR:=λ_ _ _ _ h=>
 rnG as7 Tryz.func33 Z Z  h
def anS:Ann:=⟨[(5,[1,2,5,6,7])],[(6,none::rF 3 (some true::some true::rF 5 (some true::rF 5 (some true::some false::none::some false::[])))),(9,rF 9 []),(11,rF 11 [])],[]⟩
def zL:=jf Tryz.prog Tryz.f34 84 anS 0
def N8(C:aA)(d e g h i:AV)(H:ah):OA:=
 bo (bi .add 3 i (I 1)) λb=>
 zL C [d,e,g,h,b] H
def IV(C:aA)(D e g d h E:AV)(H:ah):OA:=
 fld e 8 H λi H=>bnd (ix 1 i h H) λj H=>bnd (ld j H) λk H=>fld g 0 H λm H=>bnd (C 50 [k,m] H) λb H=>
 bnd (ix 1 d b H) λn H=>bnd (ld n H) λo H=>bnd (lnS o H) λp H=>bo (bi .lss 3 p (I 24)) λq=>
 aQ q
 (bnd (ix 1 d b H) λu H=>bnd (ld u H) λv H=>bnd (lda 3 E H) λw H=>bnd (bs 62 1 [(0,w)] H) λy H=>bnd (app 61 3 24 v y H) λz H=>bnd (ix 1 d b H) λA H=>bnd (st 1 A z H) λ_ H=>
  N8 C D e g d h H)
 (N8 C D e g d h H)
def aku(C:aA)(a0 j:AV)(H:ah):OA:=
 bnd (fM 24 a0 H) λi H=>
 bnd (lda 12 i H) λd H=>bnd (C 33 [d] H) λe H=>bnd (alc 31 [zI,zI,zI,zI,zI,zI,zI,zN] H) λg H=>bnd (st 8 g e H) λ_ H=>
 fld g 0 H λb H=>bnd (mks 62 1 24 [zN] b b H) λh H=>
 zL C [j,i,g,h,(I 0)] H
def abb(C:aA)(j g i k e:AV)(H:ah):zL C [j,g,i,k,e] H=
 fld g 8 H λm H=>bnd (lnS m H) λn H=>bo (bi .lss 3 e n) λb=>gl b true (some e) H λo H=>gl b true (some j) H λp H=>gl b true (bi .lss 3 o p) H λq H=>bo (bJ b q (B false)) λu=>
 aQ u
 (bnd (bs 22 7 [(0,(I 1)),(1,(I 2)),(2,(I 3)),(3,(I 1)),(4,(I 2)),(5,(I 1)),(6,(I 4))] H) λv H=>bnd (alc 61 [zI,zI,zI] H) λh H=>fld g 9 H λw H=>bnd (unG H (C 75 [w,e] H.guard)) λy H=>bnd (unG H (C 50 [y,(I 7)] H.guard)) λz H=>bnd (ix 1 v z H) λA H=>bnd (ld A H) λD H=>fld g 10 H λE H=>bnd (unG H (C 75 [E,e] H.guard)) λF H=>fld i 1 H λG H=>fld i 2 H λK H=>bo (bi .mul 3 G K) λL=>bnd (unG H (C 50 [F,L] H.guard)) λM H=>bo (bd 61 [(0,D),(1,M)]) λQ=>bnd (st 3 h Q H) λ_ H=>
  fld h 0 H λR H=>bo (bi .eql 3 R (I 2)) λd=>gl d false (au h 0) H λT H=>gdA (some d) false (ld T H) H λW H=>gl d false (bi .eql 3 W (I 3)) H λX H=>bo (bJ d (B true) X) λaa=>
  aQ aa
  (fld g 11 H λab H=>bnd (C 75 [ab,e] H) λad H=>bo (au h 2) λae=>bnd (st 1 ae ad H) λ_ H=>
  IV C j g i k e h H)
  (IV C j g i k e h H))
 (some (k,H)):=
 lpE.trans Z
def as9:Rn2 34 aku:=λ_ _ _ _ _ h=>
 rnG anS Tryz.func34 Z Z  h
def anT:Ann:=⟨[(6,[1,2,6,7])],[(3,some false::some false::some true::rF 3 []),(7,rF 11 (some true::rF 5 []))],[]⟩
def N9:=jf Tryz.prog Tryz.f35 45 anT 0
def anU(C:aA)(a0 q:AV)(H:ah):OA:=
 bnd (fM 31 a0 H) λd H=>
 bnd (lda 8 d H) λu H=>bnd (C 76 [u] H) λv H=>bo (un .not v) λb=>gdA (some b) false (lda 8 d H) H λe H=>gl b false (some q) H λg H=>gdA (some b) false (C 77 [e,g] H) H λh H=>gl b false (un .not h) H λi H=>bo (bJ b (B true) i) λj=>
 aQ j
 (some (.tup [(.s (Go.Value.pointer none)),(B false)],H))
 (bnd (lda 8 d H) λk H=>bnd (lda 8 d H) λm H=>bnd (unG H (C 78 [m] H.guard)) λn H=>bo (bd 157 [(0,k),(1,n)]) λo=>bnd (fM 157 o H) λp H=>
  N9 C [q,d,p,(I 0)] H)
def abd(C:aA)(g e b d:AV)(H:ah):N9 C [g,e,b,d] H=
 fld e 0 H λh H=>bo (bi .lss 3 d h) λi=>
 aQ i
 (bo (ay b) λj=>fld j 9 H λk H=>bnd (lda 8 e H) λm H=>bnd (ix 1 g d H) λn H=>bnd (ld n H) λo H=>bnd (unG H (C 79 [m,d,o] H.guard)) λp H=>bnd (bs 155 1 [(0,p)] H) λq H=>bnd (app 158 1 8 k q H) λu H=>bo (ay b) λv=>bo (au v 9) λw=>bnd (st 1 w u H) λ_ H=>
  bo (bi .add 3 d (I 1)) λy=>
  N9 C [g,e,b,y] H)
 (some (.tup [b,(B true)],H)):=
 lpE.trans Z
def ata:Rn2 35 anU:=λ_ _ _ _ _ h=>
 rnG anT Tryz.func35 Z Z  h
def abe(C:aA)(a0:AV)(H:ah):OA:=
 bo (bi .eql 22 a0 (.s (Go.Value.slice none 0 0))) λb=>
 aQ b
 (some ((.s (Go.Value.slice none 0 0)),H))
 (bnd (bs 22 0 [] H) λd H=>bnd (app 3 1 8 d a0 H) λe H=>
  some (e,H))
def ae5:Rn1 36 abe:=λ_ _ _ _ h=>
 rnG an0 Tryz.func36 Z Z  h
def akv(C:aA)(a0 i:AV)(H:ah):OA:=
 bo (bi .geq 3 i (I 0)) λb=>gl b true (some i) H λj H=>gl b true (some a0) H λk H=>gdA (some b) true (C 9 [k] H) H λd H=>gl b true (fl d 1) H λe H=>gl b true (bi .lss 3 j e) H λg H=>bo (bJ b g (B false)) λh=>
 some (h,H)
def atb:Rn2 37 akv:=λ_ _ _ _ _ h=>
 rnG an0 Tryz.func37 Z Z  h
def anV(C:aA)(a0 j:AV)(H:ah):OA:=
 bnd (alc 95 [zI,zI,zN] H) λk H=>
 bnd (C 9 [a0] H) λd H=>bnd (C 42 [d,j] H) λe H=>bnd (C 25 [a0,e] H) λg H=>bnd (C 80 [g,j] H) λb H=>bo (aF b 0) λh=>bo (aF b 1) λn=>bnd (alc 95 [zI,zI,zN] H) λm H=>bnd (st 3 m h H) λ_ H=>
 bnd (lda 3 m H) λi H=>bnd (st 3 k i H) λ_ H=>
 bnd (lda 3 k H) λo _=>some (o,H)
def atc:Rn2 38 anV:=λ_ _ _ _ _ h=>
 rnG an0 Tryz.func38 Z Z  h
def akw(C:aA)(a0 o p:AV)(H:ah):OA:=
 bnd (alc 100 [zI,zI,zI,zI,zB,zN] H) λe H=>
 bnd (C 25 [a0,o] H) λb H=>
 bo (bi .eql 64 b (.s (Go.Value.pointer none))) λg=>
 aQ g
 (bo (bd 100 []) λh=>bnd (st 6 e h H) λ_ H=>
  bnd (lda 6 e H) λi _=>some (.tup [i,(B false)],H))
 (bo (ay b) λj=>fld j 0 H λk H=>bnd (C 41 [k,p] H) λd H=>bo (aF d 0) λm=>bo (aF d 1) λn=>bnd (st 6 e m H) λ_ H=>
  bnd (lda 6 e H) λi _=>some (.tup [i,n],H))
def atd:Rn3 39 akw:=λ_ _ _ _ _ _ h=>
 rnG an0 Tryz.func39 Z Z  h
def akx(C:aA)(a0 b:AV)(H:ah):OA:=
 bnd (C 81 [a0,b] H) λd H=>bo (bi .geq 3 d (I 0)) λe=>
 some (e,H)
def ate:Rn2 40 akx:=λ_ _ _ _ _ h=>
 rnG an0 Tryz.func40 Z Z  h
def aky(C:aA)(a0 o:AV)(H:ah):OA:=
 bnd (alc 100 [zI,zI,zI,zI,zB,zN] H) λb H=>
 bnd (C 82 [a0,o] H) λn H=>
 bo (bi .lss 3 n (I 0)) λd=>
 aQ d
 (bo (bd 100 []) λe=>bnd (st 6 b e H) λ_ H=>
  bnd (lda 6 b H) λg _=>some (.tup [g,(B false)],H))
 (bo (ay a0) λh=>fld h 0 H λi H=>bnd (ix 6 i n H) λj H=>bnd (lda 6 j H) λk H=>bnd (C 83 [k] H) λm H=>bnd (st 6 b m H) λ_ H=>
  bnd (lda 6 b H) λg _=>some (.tup [g,(B true)],H))
def atf:Rn2 41 aky:=λ_ _ _ _ _ h=>
 rnG an0 Tryz.func41 Z Z  h
def anW(C:aA)(a0 b:AV)(H:ah):OA:=
 bnd (fM 31 a0 H) λd H=>
 fld d 0 H λe H=>bnd (C 84 [b,e] H) λg H=>
 some (g,H)
def atg:Rn2 42 anW:=λ_ _ _ _ _ h=>
 rnG an0 Tryz.func42 Z Z  h
def anX(C:aA)(a0 g:AV)(H:ah):OA:=
 bo (ay a0) λh=>bo (au h 11) λi=>fld i 0 H λj H=>bo (ay j) λb=>fld b 1 H λd H=>bnd (C 85 [d,g] H) λe H=>
 some (e,H)
def ath:Rn2 43 anX:=λ_ _ _ _ _ h=>
 rnG an0 Tryz.func43 Z Z  h
def anY:Ann:=⟨[(5,[0,1,12,13])],[(6,rF 9 [])],[]⟩
def IW:=jf Tryz.prog Tryz.f44 26 anY 0
def akz(C:aA)(a0 e:AV)(H:ah):OA:=
 bnd (lnS a0 H) λg H=>bnd (lnS e H) λh H=>bo (bi .neq 3 g h) λb=>
 aQ b
 (some ((B false),H))
 (bnd (lnS a0 H) λd H=>
  IW C [a0,e,d,(I 0)] H)
def Uz(C:aA)(t0 e d b:AV)(H:ah):IW C [t0,e,d,b] H=
 bo (bi .lss 3 b d) λg=>
 aQ g
 (bnd (ix 1 t0 b H) λh H=>bnd (ld h H) λi H=>bnd (ix 1 e b H) λj H=>bnd (ld j H) λk H=>bo (bi .neq 3 i k) λm=>
  aQ m
  (some ((B false),H))
  (bo (bi .add 3 b (I 1)) λn=>
  IW C [t0,e,d,n] H))
 (some ((B true),H)):=
 lpE.trans Z
def ati:Rn2 44 akz:=λ_ _ _ _ _ h=>
 rnG anY Tryz.func44 Z Z  h
def akA(C:aA)(a0:AV)(H:ah):OA:=
 bnd (fM 22 a0 H) λb H=>
 some ((.fn (.func 87) [] [b]),H)
def anZ:Rn1 46 akA:=λ_ _ _ _ h=>
 rnG an0 Tryz.func46 Z Z  h
def UA(C:aA)(a0 e:AV)(H:ah):OA:=
 bnd (fM 95 a0 H) λA H=>
 fld A 0 H λD H=>
 bo (bi .eql 3 D (I 0)) λE=>
 aQ E
 (bnd (lnS e H) λg H=>bo (bi .eql 3 g (I 0)) λh=>
  some (h,H))
 (bo (bi .eql 3 D (I 1)) λi=>
  aQ i
  (bnd (lnS e H) λj H=>bo (bi .gtr 3 j (I 0)) λb=>gl b true (some e) H λk H=>gl b true (some (.fn (.func 89) [] [A])) H λm H=>gdA (some b) true (C 88 [k,m] H) H λn H=>gl b true (un .not n) H λo H=>bo (bJ b o (B false)) λp=>
  some (p,H))
  (bnd (lnS e H) λq H=>bo (bi .eql 3 q (I 1)) λd=>gl d true (some e) H λu H=>gdA (some d) true (ix 6 u (I 0) H) H λv H=>gl d true (au v 4) H λw H=>gdA (some d) true (ld w H) H λy H=>bo (bJ d y (B false)) λz=>
  some (z,H)))
def atj:Rn2 47 UA:=λ_ _ _ _ _ h=>
 rnG an0 Tryz.func47 Z Z  h
def atl:Ann:=⟨[],[(7,rF 10 (some true::some true::rF 4 []))],[]⟩
def abf(C:aA)(a0 R T W:AV)(H:ah):OA:=
 bnd (C 28 [a0,R] H) λe H=>bo (aF e 0) λk=>bo (aF e 1) λm=>bnd (alc 81 [zI,zI,zI,zI,zI,zI,zI,zB,zN] H) λd H=>bnd (st 9 d k H) λ_ H=>
 bo (un .not m) λn=>
 aQ n
 (some ((I 3),H))
 (bnd (lda 9 d H) λo H=>bnd (C 90 [o,T,W] H) λg H=>bo (aF g 0) λp=>bo (aF g 1) λh=>bnd (st 9 d p H) λ_ H=>
  bo (bi .neq 57 h (I 0)) λq=>
  aQ q
  (some (h,H))
  (bo (ay a0) λu=>fld u 0 H λv H=>fld d 2 H λw H=>bnd (ix 4 v w H) λy H=>bnd (lda 4 y H) λz H=>fld d 0 H λA H=>bnd (unG H (C 92 [A] H.guard)) λD H=>bnd (unG H (C 91 [z,D] H.guard)) λE H=>bo (fl E 1) λF=>bnd (lda 9 d H) λG H=>bnd (C 93 [F,G] H) λi H=>
  bo (bi .neq 57 i (I 0)) λK=>
  aQ K
  (some (i,H))
  (bnd (C 69 [a0,R] H) λb H=>bo (aF b 0) λL=>bo (aF b 1) λM=>bo (aF b 2) λX=>bnd (alc 121 [zP,zP] H) λj H=>bnd (st 2 j L H) λ_ H=>
   fld j 0 H λQ H=>bnd (C 94 [Q,M] H) λaa H=>
   some ((I 0),H))))
def ae6:Rn4 48 abf:=λ_ _ _ _ _ _ _ h=>
 rnG atl Tryz.func48 Z Z  h
def UC(C:aA)(a0 b i:AV)(H:ah):OA:=
 bnd (C 95 [a0,b,i] H) λd H=>
 aQ d
 (some ((I 1),H))
 (bnd (C 96 [a0,b] H) λe H=>
  aQ e
  (some ((I 2),H))
  (bnd (C 97 [a0,b] H) λg H=>
  aQ g
  (some ((I 3),H))
  (bnd (C 98 [a0,b,i] H) λh H=>
   aQ h
   (some ((I 4),H))
   (some ((I 0),H)))))
def YG:Rn3 49 UC:=λ_ _ _ _ _ _ h=>
 rnG an0 Tryz.func49 Z Z  h
def Oa(C:aA)(b:AV)(H:ah):OA:=
 some (b,H)
def ae7(C:aA)(a0 d:AV)(H:ah):OA:=
 bo (bi .lss 3 d (I 1)) λh=>
 aQ h
 (some ((I 0),H))
 (bo (bi .rem 3 a0 d) λb=>
  bo (bi .lss 3 b (I 0)) λe=>
  aQ e
  (bo (bi .add 3 b d) λg=>
  Oa C g H)
  (Oa C b H))
def atm:Rn2 50 ae7:=λ_ _ _ _ _ h=>
 rnG an0 Tryz.func50 Z Z  h
def an1:Ann:=⟨[(4,[3,9,10,11])],[],[]⟩
def Ob:=jf Tryz.prog Tryz.f51 24 an1 0
def an2(C:aA)(a0:AV)(H:ah):OA:=
 bo (ay a0) λe=>fld e 0 H λd H=>bnd (lnS d H) λb H=>
 Ob C [(.s (Go.Value.slice none 0 0)),d,b,(I 0)] H
def abg(C:aA)(e g d b:AV)(H:ah):Ob C [e,g,d,b] H=
 bo (bi .lss 3 b d) λh=>
 aQ h
 (bnd (ix 4 g b H) λi H=>bnd (lda 4 i H) λj H=>bnd (alc 142 [zP,zP,zP,zP] H) λk H=>bnd (st 4 k j H) λ_ H=>
  bo (au k 0) λm=>bnd (lda 2 m H) λn H=>bo (au k 2) λo=>bnd (lda 2 o H) λp H=>bnd (bs 116 2 [(0,n),(1,p)] H) λq H=>bnd (app 121 2 16 e q H) λu H=>
  bo (bi .add 3 b (I 1)) λv=>
  Ob C [u,g,d,v] H)
 (some (e,H)):=
 lpE.trans Z
def atn:Rn1 51 an2:=λ_ _ _ _ h=>
 rnG an1 Tryz.func51 Z Z  h
def an3(C:aA)(a0:AV)(H:ah):OA:=
 bo (ay a0) λb=>fld b 0 H λd H=>bnd (lnS d H) λe H=>
 some (e,H)
def ato:Rn1 52 an3:=λ_ _ _ _ h=>
 rnG an0 Tryz.func52 Z Z  h
def ae8(C:aA)(a0 n:AV)(H:ah):OA:=
 bnd (fM 25 a0 H) λj H=>bnd (fM 3 n H) λk H=>
 bnd (ld j H) λo H=>bnd (ld k H) λp H=>bnd (C 11 [o,p] H) λm H=>
 bnd (C 99 [m,(.fn (.func 100) [] [j,k])] H) λd H=>
 bo (un .not d) λb=>gl b false (some m) H λe H=>gdA (some b) false (lnS e H) H λg H=>gl b false (bi .eql 3 g (I 1)) H λh H=>bo (bJ b (B true) h) λi=>
 some (i,H)
def atp:Rn2 53 ae8:=λ_ _ _ _ _ h=>
 rnG an0 Tryz.func53 Z Z  h
def an4(C:aA)(a0 g h:AV)(H:ah):OA:=
 bnd (fM 31 a0 H) λi H=>
 bnd (lda 8 i H) λd H=>bnd (C 101 [d,g,h] H) λb H=>bo (aF b 0) λj=>bo (aF b 1) λe=>
 some (e,H)
def atq:Rn3 54 an4:=λ_ _ _ _ _ _ h=>
 rnG an0 Tryz.func54 Z Z  h
def an5(C:aA)(a0:AV)(H:ah):OA:=
 bo (ay a0) λb=>fld b 0 H λd H=>bnd (C 102 [d] H) λe H=>
 some (e,H)
def atr:Rn1 55 an5:=λ_ _ _ _ h=>
 rnG an0 Tryz.func55 Z Z  h
def an6(C:aA)(a0 j k:AV)(H:ah):OA:=
 bnd (fM 31 a0 H) λm H=>
 bnd (lda 8 m H) λd H=>bnd (C 101 [d,j,k] H) λb H=>bo (aF b 0) λe=>bo (aF b 1) λg=>
 bo (un .not g) λh=>
 aQ h
 (some ((.s (Go.Value.slice none 0 0)),H))
 (bnd (C 103 [e] H) λi H=>
  some (i,H))
def att:Rn3 56 an6:=λ_ _ _ _ _ _ h=>
 rnG an0 Tryz.func56 Z Z  h
def an7(C:aA)(a0:AV)(H:ah):OA:=
 bnd (fM 31 a0 H) λb H=>
 fld b 1 H λd H=>fld b 2 H λe H=>bo (bi .mul 3 d e) λg=>
 some (g,H)
def atu:Rn1 57 an7:=λ_ _ _ _ h=>
 rnG an0 Tryz.func57 Z Z  h
def an8:Ann:=⟨[(3,[0,1,2,14,15,16])],[],[]⟩
def IX:=jf Tryz.prog Tryz.f58 51 an8 0
def an9(C:aA)(a0 e g:AV)(H:ah):OA:=
 bnd (C 11 [a0,e] H) λb H=>bnd (lnS b H) λd H=>
 IX C [a0,e,g,b,d,(I 0)] H
def abh(C:aA)(t0 j m g h e:AV)(H:ah):IX C [t0,j,m,g,h,e] H=
 bo (bi .lss 3 e h) λn=>
 aQ n
 (bnd (ix 1 g e H) λo H=>bnd (ld o H) λp H=>
  bnd (C 39 [t0,p,j] H) λk H=>bo (aF k 0) λq=>bo (aF k 1) λW=>bnd (alc 100 [zI,zI,zI,zI,zB,zN] H) λT H=>bnd (st 6 T q H) λ_ H=>
  fld T 5 H λu H=>bnd (C 44 [u,m] H) λv H=>bo (un .not v) λw=>
  aQ w
  (some ((B false),H))
  (bo (bi .add 3 e (I 1)) λy=>
  IX C [t0,j,m,g,h,y] H))
 (bnd (C 38 [t0,j] H) λz H=>bnd (alc 95 [zI,zI,zN] H) λi H=>bnd (st 3 i z H) λ_ H=>
  fld i 0 H λA H=>bo (bi .eql 3 A (I 2)) λb=>gl b false (some t0) H λD H=>gl b false (some j) H λE H=>gdA (some b) false (C 12 [D,E] H) H λF H=>gl b false (bi .neq 3 F (I (-1))) H λG H=>bo (bJ b (B true) G) λd=>gl d false (au i 2) H λK H=>gdA (some d) false (ld K H) H λL H=>gl d false (some m) H λM H=>gdA (some d) false (C 44 [L,M] H) H λQ H=>bo (bJ d (B true) Q) λR=>
  some (R,H)):=
 lpE.trans Z
def atv:Rn3 58 an9:=λ_ _ _ _ _ _ h=>
 rnG an8 Tryz.func58 Z Z  h
def aoa(C:aA)(a0:AV)(H:ah):OA:=
 bnd (fM 31 a0 H) λd H=>
 fld d 0 H λv7 H=>bnd (C 104 [v7,(I 6)] H) λk H=>gl k true (au d 1) H λm H=>gdA (some k) true (ld m H) H λn H=>gdA (some k) true (C 104 [n,(I 8)] H) H λo H=>bo (bJ k o (B false)) λe=>gl e true (au d 2) H λp H=>gdA (some e) true (ld p H) H λq H=>gdA (some e) true (C 104 [q,(I 4)] H) H λu H=>bo (bJ e u (B false)) λv=>
 fld d 3 H λw H=>bnd (C 104 [w,(I 4)] H) λg H=>gl g true (au d 4) H λy H=>gdA (some g) true (ld y H) H λz H=>gdA (some g) true (C 104 [z,(I 3)] H) H λA H=>bo (bJ g A (B false)) λD=>
 fld d 5 H λE H=>bnd (C 104 [E,(I 8)] H) λh H=>gl h true (au d 6) H λF H=>gdA (some h) true (ld F H) H λG H=>gdA (some h) true (C 104 [G,(I 8)] H) H λK H=>bo (bJ h K (B false)) λL=>
 bo (un .not v) λi=>gl i false (some D) H λM H=>gl i false (un .not M) H λQ H=>bo (bJ i (B true) Q) λj=>gl j false (some L) H λR H=>gl j false (un .not R) H λT H=>bo (bJ j (B true) T) λb=>gl b false (au d 7) H λW H=>gdA (some b) false (ld W H) H λX H=>gdA (some b) false (lnS X H) H λaa H=>gl b false (au d 1) H λab H=>gdA (some b) false (ld ab H) H λad H=>gl b false (au d 2) H λae H=>gdA (some b) false (ld ae H) H λaf H=>gl b false (bi .mul 3 ad af) H λag H=>gl b false (bi .gtr 3 aa ag) H λai H=>bo (bJ b (B true) ai) λal=>
 aQ al
 (some ((I 1),H))
 (some ((I 0),H))
def atw:Rn1 59 aoa:=λ_ _ _ _ h=>
 rnG an0 Tryz.func59 Z Z  h
def ae9(C:aA)(a0 k:AV)(H:ah):OA:=
 bnd (fM 31 a0 H) λm H=>
 bnd (C 105 [k,(.fn (.func 106) [] [m])] H) λb H=>
 gl b false (some k) H λd H=>gdA (some b) false (lnS d H) H λe H=>gl b false (au m 0) H λg H=>gdA (some b) false (ld g H) H λh H=>gl b false (bi .neq 3 e h) H λi H=>bo (bJ b (B true) i) λj=>
 aQ j
 (some ((I 1),H))
 (some ((I 0),H))
def atx:Rn2 60 ae9:=λ_ _ _ _ _ h=>
 rnG an0 Tryz.func60 Z Z  h
def aob:Ann:=⟨[(4,[1,3,7,8])],[(4,rF 7 (some true::some false::some false::some true::rF 3 (some true::some true::rF 7 [])))],[]⟩
def Oc:=jf Tryz.prog Tryz.f61 34 aob 0
def aoc(C:aA)(a0:AV)(H:ah):OA:=
 bnd (fM 31 a0 H) λb H=>
 bo (bd 145 []) λd=>bnd (fM 145 d H) λe H=>
 fld b 0 H λg H=>
 Oc C [b,e,g,(I 0)] H
def abj(C:aA)(b d e g:AV)(H:ah):Oc C [b,d,e,g] H=
 bo (bi .lss 3 g e) λF=>
 aQ F
 (bo (ay d) λh=>fld h 0 H λi H=>fld b 5 H λj H=>bnd (unG H (C 110 [j] H.guard)) λk H=>fld b 6 H λm H=>bnd (unG H (C 111 [m] H.guard)) λn H=>bo (bd 121 [(0,k),(1,n)]) λo=>fld b 5 H λp H=>bnd (unG H (C 110 [p] H.guard)) λq H=>bnd (unG H (C 111 [(I 1)] H.guard)) λu H=>bo (bd 121 [(0,q),(1,u)]) λv=>bo (bd 142 [(0,o),(1,v)]) λw=>bnd (bs 143 1 [(0,w)] H) λy H=>bnd (app 142 4 32 i y H) λz H=>bo (ay d) λA=>bo (au A 0) λD=>bnd (st 1 D z H) λ_ H=>
  bo (bi .add 3 g (I 1)) λE=>
  Oc C [b,d,e,E] H)
 (some (d,H)):=
 lpE.trans Z
def aty:Rn1 61 aoc:=λ_ _ _ _ h=>
 rnG aob Tryz.func61 Z Z  h
def aod(C:aA)(H:ah):OA:=
 bo (bd 186 []) λb=>bnd (fM 186 b H) λd H=>
 some (d,H)
def atz:Rn0 62 aod:=λ_ _ _ h=>
 rnG an0 Tryz.func62 Z Z  h
def atA:Ann:=⟨[],[(1,rF 4 (some true::some false::some true::rF 4 (some true::rF 4 [])))],[]⟩
def aoe(C:aA)(a0 o p:AV)(H:ah):OA:=
 bnd (fM 31 a0 H) λb H=>
 fld b 3 H λq H=>fld b 4 H λd H=>bnd (unG H (C 112 [q,d] H.guard)) λe H=>bnd (unG H (C 113 [p] H.guard)) λg H=>bnd (lda 8 b H) λh H=>bnd (lda 8 b H) λi H=>bnd (unG H (C 114 [i,o] H.guard)) λj H=>bo (bd 71 [(0,j)]) λk=>bo (bd 75 [(0,e),(1,g),(2,h),(3,o),(4,k)]) λm=>bnd (fM 75 m H) λn H=>
 some (n,H)
def atB:Rn3 63 aoe:=λ_ _ _ _ _ _ h=>
 rnG atA Tryz.func63 Z Z  h
def aof(C:aA)(a0:AV)(H:ah):OA:=
 bo (ay a0) λb=>fld b 2 H λd H=>
 some (d,H)
def atC:Rn1 64 aof:=λ_ _ _ _ h=>
 rnG an0 Tryz.func64 Z Z  h
def atD:Ann:=⟨[],[(1,rF 12 [])],[]⟩
def aog(C:aA)(a0:AV)(H:ah):OA:=
 bo (ay a0) λg=>fld g 0 H λh H=>bnd (lnS h H) λi H=>bo (ay a0) λj=>fld j 1 H λb H=>bnd (lnS b H) λd H=>bo (bi .sub 3 i d) λe=>
 some (e,H)
def atE:Rn1 66 aog:=λ_ _ _ _ h=>
 rnG atD Tryz.func66 Z Z  h
def aoh:Ann:=⟨[(3,[1,4,10,11,12])],[],[]⟩
def Oe:=jf Tryz.prog Tryz.f69 34 aoh 0
def YH(C:aA)(a0 e:AV)(H:ah):OA:=
 bnd (alc 121 [zP,zP] H) λg H=>
 bnd (C 51 [a0] H) λb H=>bnd (lnS b H) λd H=>
 Oe C [e,g,b,d,(I 0)] H
def abk(C:aA)(i h e g d:AV)(H:ah):Oe C [i,h,e,g,d] H=
 bo (bi .lss 3 d g) λk=>
 aQ k
 (bnd (ix 2 e d H) λm H=>bnd (lda 2 m H) λn H=>bnd (alc 121 [zP,zP] H) λj H=>bnd (st 2 j n H) λ_ H=>
  bo (bi .geq 3 i (I 0)) λb=>gl b true (some i) H λo H=>gl b true (au j 0) H λp H=>gdA (some b) true (ld p H) H λq H=>gdA (some b) true (C 52 [q] H) H λu H=>gl b true (bi .lss 3 o u) H λv H=>bo (bJ b v (B false)) λw=>
  aQ w
  (bnd (lda 2 j H) λy H=>bnd (st 2 h y H) λ_ H=>
  bnd (lda 2 h H) λz _=>some (.tup [z,i,(B true)],H))
  (fld j 0 H λA H=>bnd (C 52 [A] H) λD H=>bo (bi .sub 3 i D) λE=>
  bo (bi .add 3 d (I 1)) λF=>
  Oe C [E,h,e,g,F] H))
 (bo (bd 121 []) λG=>bnd (st 2 h G H) λ_ H=>
  bnd (lda 2 h H) λz _=>some (.tup [z,(I 0),(B false)],H)):=
 lpE.trans Z
def atF:Rn2 69 YH:=λ_ _ _ _ _ h=>
 rnG aoh Tryz.func69 Z Z  h
def afa(C:aA)(a0 e:AV)(H:ah):OA:=
 bnd (alc 81 [zI,zI,zI,zI,zI,zI,zI,zB,zN] H) λd H=>
 bo (bi .lss 3 e (I 0)) λb=>gl b false (some e) H λz H=>gl b false (some a0) H λg H=>gl b false (ay g) H λh H=>gl b false (au h 0) H λi H=>gdA (some b) false (ld i H) H λj H=>gdA (some b) false (lnS j H) H λk H=>gl b false (bi .geq 3 z k) H λm H=>bo (bJ b (B true) m) λn=>
 aQ n
 (bo (bd 81 []) λo=>bnd (st 9 d o H) λ_ H=>
  bnd (lda 9 d H) λp _=>some (.tup [p,(B false)],H))
 (bo (ay a0) λq=>fld q 0 H λu H=>bnd (ix 9 u e H) λv H=>bnd (lda 9 v H) λw H=>bnd (C 116 [w] H) λy H=>bnd (st 9 d y H) λ_ H=>
  bnd (lda 9 d H) λp _=>some (.tup [p,(B true)],H))
def atG:Rn2 70 afa:=λ_ _ _ _ _ h=>
 rnG an0 Tryz.func70 Z Z  h
def akB(C:aA)(a0 k:AV)(H:ah):OA:=
 bo (bi .geq 3 k (I 0)) λb=>gl b true (some k) H λm H=>gl b true (some a0) H λn H=>gl b true (ay n) H λd H=>gl b true (au d 0) H λe H=>gdA (some b) true (ld e H) H λg H=>gdA (some b) true (lnS g H) H λh H=>gl b true (bi .lss 3 m h) H λi H=>bo (bJ b i (B false)) λj=>
 some (j,H)
def atH:Rn2 71 akB:=λ_ _ _ _ _ h=>
 rnG an0 Tryz.func71 Z Z  h
def aoi(C:aA)(a0 e:AV)(H:ah):OA:=
 bnd (lnS a0 H) λg H=>bnd (fQ (kF Tryz.prog false #[3,3] 3 [g,e]) H) λh H=>bo (slS 1 a0 none (some h) none) λb=>bnd (C 119 [b] H) λd H=>
 some (d,H)
def atI:Rn2 74 aoi:=λ_ _ _ _ _ h=>
 rnG an0 Tryz.func74 Z Z  h
def akC(C:aA)(a0 e:AV)(H:ah):OA:=
 bnd (lnS a0 H) λg H=>bo (bi .lss 3 e g) λh=>
 aQ h
 (bnd (ix 1 a0 e H) λb H=>bnd (ld b H) λd H=>
  some (d,H))
 (some ((I 0),H))
def atJ:Rn2 75 akC:=λ_ _ _ _ _ h=>
 rnG an0 Tryz.func75 Z Z  h
def Og(C:aA)(a0:AV)(H:ah):OA:=
 bnd (fM 31 a0 H) λd H=>
 fld d 0 H λv4 H=>bnd (C 120 [v4,(I 6)] H) λk H=>gl k true (au d 1) H λv7 H=>gdA (some k) true (ld v7 H) H λv8 H=>gdA (some k) true (C 120 [v8,(I 8)] H) H λv9 H=>bo (bJ k v9 (B false)) λe=>gl e true (au d 2) H λm H=>gdA (some e) true (ld m H) H λn H=>gdA (some e) true (C 120 [n,(I 4)] H) H λo H=>bo (bJ e o (B false)) λg=>gl g true (au d 3) H λp H=>gdA (some g) true (ld p H) H λq H=>gdA (some g) true (C 120 [q,(I 4)] H) H λu H=>bo (bJ g u (B false)) λh=>gl h true (au d 4) H λv H=>gdA (some h) true (ld v H) H λw H=>gdA (some h) true (C 120 [w,(I 3)] H) H λy H=>bo (bJ h y (B false)) λi=>gl i true (au d 5) H λz H=>gdA (some i) true (ld z H) H λA H=>gdA (some i) true (C 120 [A,(I 8)] H) H λD H=>bo (bJ i D (B false)) λj=>gl j true (au d 6) H λE H=>gdA (some j) true (ld E H) H λF H=>gdA (some j) true (C 120 [F,(I 8)] H) H λG H=>bo (bJ j G (B false)) λb=>gl b true (au d 7) H λK H=>gdA (some b) true (ld K H) H λL H=>gdA (some b) true (lnS L H) H λM H=>gl b true (au d 1) H λQ H=>gdA (some b) true (ld Q H) H λR H=>gl b true (au d 2) H λT H=>gdA (some b) true (ld T H) H λW H=>gl b true (bi .mul 3 R W) H λX H=>gl b true (bi .leq 3 M X) H λaa H=>bo (bJ b aa (B false)) λab=>
 some (ab,H)
def atK:Rn1 76 Og:=λ_ _ _ _ h=>
 rnG an0 Tryz.func76 Z Z  h
def akD:Ann:=⟨[(5,[2,14,15,16]),(10,[2,14,15,16,23,24,25])],[],[]⟩
def CZ:=jf Tryz.prog Tryz.f77 35 akD 0
def xq:=jf Tryz.prog Tryz.f77 35 akD 1
def akE(C:aA)(a0 b:AV)(H:ah):OA:=
 bnd (fM 31 a0 H) λi H=>
 bnd (lnS b H) λd H=>fld i 0 H λe H=>bo (bi .neq 3 d e) λg=>
 aQ g
 (some ((B false),H))
 (bnd (lnS b H) λh H=>
  CZ C [i,b,h,(I 0)] H)
def Oh(C:aA)(n d e b:AV)(H:ah):CZ C [n,d,e,b] H=
 bo (bi .lss 3 b e) λh=>
 aQ h
 (bnd (ix 1 d b H) λi H=>bnd (ld i H) λg H=>
  bnd (lnS g H) λj H=>bo (bi .gtr 3 j (I 24)) λk=>
  aQ k
  (some ((B false),H))
  (bnd (lnS g H) λm H=>
  xq C [n,d,e,b,g,m,(I 0)] H))
 (some ((B true),H)):=
 lpE.trans Z
def UD(C:aA)(j d e g h i b:AV)(H:ah):xq C [j,d,e,g,h,i,b] H=
 bo (bi .lss 3 b i) λk=>
 aQ k
 (bnd (ix 3 h b H) λm H=>bnd (lda 3 m H) λn H=>bnd (alc 61 [zI,zI,zI] H) λy H=>bnd (st 3 y n H) λ_ H=>
  bnd (lda 8 j H) λo H=>bnd (lda 3 y H) λp H=>bnd (C 121 [o,p] H) λq H=>bo (un .not q) λu=>
  aQ u
  (some ((B false),H))
  (bo (bi .add 3 b (I 1)) λv=>
  xq C [j,d,e,g,h,i,v] H))
 (bo (bi .add 3 g (I 1)) λw=>
  CZ C [j,d,e,w] H):=
 lpE.trans Z
def atL:Rn2 77 akE:=λ_ _ _ _ _ h=>
 rnG akD Tryz.func77 Z Z  h
def atN:Ann:=⟨[],[(1,rF 7 [])],[]⟩
def aoj(C:aA)(a0:AV)(H:ah):OA:=
 bnd (fM 31 a0 H) λb H=>
 bnd (lda 8 b H) λe H=>fld b 0 H λd H=>bnd (mks 350 4 96 [zN,zN,zN,zN] d d H) λg H=>bo (bd 206 [(0,e),(1,g)]) λh=>bnd (fM 206 h H) λi H=>
 some (i,H)
def atO:Rn1 78 aoj:=λ_ _ _ _ h=>
 rnG atN Tryz.func78 Z Z  h
def atP:Ann:=⟨[],[(1,rF 6 (some true::some false::some false::some true::rF 5 []))],[(1,[(0,11)])]⟩
def aok(C:aA)(a0 p w:AV)(H:ah):OA:=
 bnd (fM 31 a0 H) λb H=>
 bnd (lda 8 b H) λy H0=>fld b 3 H0 λe z=>fld b 4 z λg q=>bnd (unG q (C 122 [e,g] q.guard)) λh A=>bnd (lda 8 b A) λi u=>bnd (unG u (C 123 [i,p] u.guard)) λj v=>bnd (app 61 3 24 (.s (Go.Value.slice none 0 0)) w v) λk d=>bo (bd 213 [(0,y),(1,p),(2,h),(3,j),(4,k)]) λm=>bnd (fM 213 m d) λn o=>ck (bQ b) v d <|
 some (n,o)
def atQ:Rn3 79 aok:=λ_ _ _ _ _ _ h=>
 rnG atP Tryz.func79 Z Z  h
def aol(C:aA)(a0 k:AV)(H:ah):OA:=
 bnd (alc 95 [zI,zI,zN] H) λj H=>
 bo (ay a0) λm=>bo (au m 11) λn=>fld n 0 H λd H=>bo (ay d) λe=>fld e 0 H λg H=>bnd (C 124 [g,k] H) λb H=>bo (aF b 0) λh=>bo (aF b 1) λi=>bnd (st 3 j h H) λ_ H=>
 bnd (lda 3 j H) λo _=>some (.tup [o,i],H)
def atS:Rn2 80 aol:=λ_ _ _ _ _ h=>
 rnG an0 Tryz.func80 Z Z  h
def aom:Ann:=⟨[(3,[0,1,7,8])],[],[]⟩
def IY:=jf Tryz.prog Tryz.f81 19 aom 0
def aon(C:aA)(a0 b:AV)(H:ah):OA:=
 bnd (lnS a0 H) λd H=>
 IY C [a0,b,d,(I 0)] H
def UE(C:aA)(t0 d e b:AV)(H:ah):IY C [t0,d,e,b] H=
 bo (bi .lss 3 b e) λk=>
 aQ k
 (bnd (ix 1 t0 b H) λg H=>bnd (ld g H) λh H=>bo (bi .eql 3 d h) λi=>
  aQ i
  (some (b,H))
  (bo (bi .add 3 b (I 1)) λj=>
  IY C [t0,d,e,j] H))
 (some ((I (-1)),H)):=
 lpE.trans Z
def atT:Rn2 81 aon:=λ_ _ _ _ _ h=>
 rnG aom Tryz.func81 Z Z  h
def aoo(C:aA)(a0 d:AV)(H:ah):OA:=
 bnd (fM 3 d H) λe H=>
 bo (ay a0) λg=>fld g 0 H λh H=>bnd (C 125 [h,(.fn (.func 126) [] [e])] H) λb H=>
 some (b,H)
def atU:Rn2 82 aoo:=λ_ _ _ _ _ h=>
 rnG an0 Tryz.func82 Z Z  h
def aop(C:aA)(a0:AV)(H:ah):OA:=
 bnd (fM 100 a0 H) λb H=>bnd (alc 100 [zI,zI,zI,zI,zB,zN] H) λd H=>
 fld b 5 H λe H=>bnd (C 36 [e] H) λg H=>bo (au b 5) λh=>bnd (st 1 h g H) λ_ H=>
 bnd (lda 6 b H) λi H=>bnd (st 6 d i H) λ_ H=>
 bnd (lda 6 d H) λj _=>some (j,H)
def atV:Rn1 83 aop:=λ_ _ _ _ h=>
 rnG an0 Tryz.func83 Z Z  h
def akF(C:aA)(a0 b:AV)(H:ah):OA:=
 bo (bi .lss 3 a0 (I 0)) λd=>
 aQ d
 (some ((I (-1)),H))
 (bo (bi .rem 3 a0 b) λe=>
  some (e,H))
def atW:Rn2 84 akF:=λ_ _ _ _ _ h=>
 rnG an0 Tryz.func84 Z Z  h
def akG(C:aA)(a0 h:AV)(H:ah):OA:=
 bo (ay a0) λi=>fld i 0 H λd H=>bnd (lk .i64 (.int .i64 0) d h true H) λb H=>bo (aF b 0) λe=>bo (aF b 1) λg=>
 aQ g
 (some (e,H))
 (some ((I (-1)),H))
def atX:Rn2 85 akG:=λ_ _ _ _ _ h=>
 rnG an0 Tryz.func85 Z Z  h
def akH(C:aA)(a0 b:AV)(H:ah):OA:=
 bnd (C 125 [a0,b] H) λd H=>bo (bi .geq 3 d (I 0)) λe=>
 some (e,H)
def atY:Rn2 88 akH:=λ_ _ _ _ _ h=>
 rnG an0 Tryz.func88 Z Z  h
def akI(C:aA)(a0 j:AV)(H:ah):OA:=
 bnd (fM 100 a0 H) λi H=>
 fld i 4 H λb H=>gl b false (au i 5) H λk H=>gdA (some b) false (ld k H) H λm H=>gl b false (au j 2) H λn H=>gdA (some b) false (ld n H) H λd H=>gdA (some b) false (C 44 [m,d] H) H λe H=>gl b false (un .not e) H λg H=>bo (bJ b (B true) g) λh=>
 some (h,H)
def atZ:Rn2 89 akI:=λ_ _ _ _ _ h=>
 rnG an0 Tryz.func89 Z Z  h
def akJ(C:aA)(a0 q u:AV)(H:ah):OA:=
 bnd (fM 81 a0 H) λv H=>bnd (alc 81 [zI,zI,zI,zI,zI,zI,zI,zB,zN] H) λe H=>
 bnd (lda 9 v H) λg H=>bnd (C 128 [g] H) λb H=>bo (aF b 0) λh=>bo (aF b 1) λi=>
 bo (bi .neq 57 i (I 0)) λj=>
 aQ j
 (bo (bd 81 []) λk=>bnd (st 9 e k H) λ_ H=>
  bnd (lda 9 e H) λm _=>some (.tup [m,(I 2)],H))
 (bnd (C 130 [h,q,u] H) λn H=>bnd (C 129 [n] H) λd H=>bo (aF d 0) λo=>bo (aF d 1) λp=>bnd (st 9 e o H) λ_ H=>
  bnd (lda 9 e H) λm _=>some (.tup [m,p],H))
def aoq:Rn3 90 akJ:=λ_ _ _ _ _ _ h=>
 rnG an0 Tryz.func90 Z Z  h
def akK(C:aA)(a0 g:AV)(H:ah):OA:=
 bnd (fM 142 a0 H) λe H=>bnd (alc 121 [zP,zP] H) λb H=>
 aQ g
 (bo (au e 0) λh=>bnd (lda 2 h H) λi H=>bnd (st 2 b i H) λ_ H=>
  bnd (lda 2 b H) λd _=>some (d,H))
 (bo (au e 2) λj=>bnd (lda 2 j H) λk H=>bnd (st 2 b k H) λ_ H=>
  bnd (lda 2 b H) λd _=>some (d,H))
def at7:Rn2 91 akK:=λ_ _ _ _ _ h=>
 rnG an0 Tryz.func91 Z Z  h
def akL(C:aA)(a0:AV)(H:ah):OA:=
 bo (bi .geq 3 a0 (I 1)) λb=>gl b true (some a0) H λd H=>gl b true (bi .leq 3 d (I 6)) H λe H=>bo (bJ b e (B false)) λg=>
 some (g,H)
def aua:Rn1 92 akL:=λ_ _ _ _ h=>
 rnG an0 Tryz.func92 Z Z  h
def aub:Ann:=⟨[],[(3,rF 6 (some true::rF 5 []))],[]⟩
def akM(C:aA)(a0 m:AV)(H:ah):OA:=
 bnd (fM 81 m H) λn H=>
 bnd (C 131 [a0] H) λo H=>bo (bi .eql 3 o (I 0)) λp=>
 aQ p
 (some ((I 5),H))
 (bo (ay a0) λb=>fld b 0 H λd H=>bnd (lda 9 n H) λe H=>bnd (unG H (C 132 [e] H.guard)) λg H=>bnd (bs 175 1 [(0,g)] H) λh H=>bnd (app 81 9 88 d h H) λi H=>bo (ay a0) λj=>bo (au j 0) λk=>bnd (st 1 k i H) λ_ H=>
  some ((I 0),H))
def aor:Rn2 93 akM:=λ_ _ _ _ _ h=>
 rnG aub Tryz.func93 Z Z  h
def UF(C:aA)(d e g:AV)(H:ah):OA:=
 bnd (lda 9 e H) λb H=>bnd (st 9 d b H) λ_ H=>
 bnd (lda 9 d H) λh _=>some (.tup [h,g],H)
def aos(C:aA)(a0 e:AV)(H:ah):OA:=
 bnd (alc 81 [zI,zI,zI,zI,zI,zI,zI,zB,zN] H) λp H=>
 bnd (C 70 [a0,e] H) λd H=>bo (aF d 0) λg=>bo (aF d 1) λb=>bnd (alc 81 [zI,zI,zI,zI,zI,zI,zI,zB,zN] H) λh H=>bnd (st 9 h g H) λ_ H=>
 aQ b
 (bo (ay a0) λi=>fld i 0 H λj H=>bo (bi .add 3 e (I 1)) λk=>bnd (C 133 [j,e,k] H) λm H=>bo (ay a0) λn=>bo (au n 0) λo=>bnd (st 1 o m H) λ_ H=>
  UF C p h b H)
 (UF C p h b H)
def auc:Rn2 94 aos:=λ_ _ _ _ _ h=>
 rnG an0 Tryz.func94 Z Z  h
def IZ(C:aA)(t0 b:AV)(H:ah):OA:=
 bnd (C 139 [t0,b] H) λd H=>
 some ((B true),H)
def Oi(C:aA)(a0 m a2:AV)(H:ah):OA:=
 bo (ay a0) λn=>fld n 10 H λo H=>bnd (C 134 [m,o] H) λi H=>bo (aF i 0) λp=>bo (aF i 1) λq=>bnd (alc 81 [zI,zI,zI,zI,zI,zI,zI,zB,zN] H) λv7 H=>bnd (st 9 v7 p H) λ_ H=>
 bo (un .not q) λu=>
 aQ u
 (some ((B false),H))
 (bnd (lda 9 v7 H) λv H=>bnd (C 135 [a0,v] H) λj H=>bo (aF j 0) λw=>bo (aF j 1) λy=>bnd (alc 73 [zI,zI,zI,zI,zI,zI,zN,zI,zI] H) λg H=>bnd (st 9 g w H) λ_ H=>
  bo (un .not y) λz=>
  aQ z
  (some ((B true),H))
  (bnd (lda 9 g H) λA H=>bo (ay a0) λD=>bo (au D 12) λE=>bnd (st 9 E A H) λ_ H=>
  bo (ay a0) λF=>fld F 1 H λG H=>bnd (C 136 [G] H) λh H=>bo (aF h 0) λK=>bo (aF h 1) λam=>bo (aF h 2) λao=>bnd (alc 61 [zI,zI,zI] H) λk H=>bnd (st 3 k K H) λ_ H=>
  fld g 3 H λL H=>bo (bi .eql 3 L (I 0)) λb=>gl b true (au g 0) H λM H=>gdA (some b) true (ld M H) H λQ H=>gl b true (bi .eql 3 Q (I 3)) H λR H=>bo (bJ b R (B false)) λd=>gl d true (au k 0) H λT H=>gdA (some d) true (ld T H) H λW H=>gl d true (bi .eql 3 W (I 4)) H λX H=>bo (bJ d X (B false)) λaa=>
  aQ aa
  (bnd (C 137 [a0,a2,(I 0)] H) λap H=>
   some ((B true),H))
  (fld g 3 H λab H=>bo (bi .eql 3 ab (I 0)) λad=>
   aQ ad
   (some ((B true),H))
   (fld g 3 H λae H=>bo (bi .eql 3 ae (I 6)) λe=>gl e true (au g 0) H λaf H=>gdA (some e) true (ld af H) H λag H=>gl e true (bi .neq 3 ag (I 3)) H λai H=>bo (bJ e ai (B false)) λal=>
   aQ al
   (bnd (C 138 [a0,a2] H) λaq H=>
    IZ C a0 m H)
   (IZ C a0 m H)))))
def YI:Rn3 95 Oi:=λ_ _ _ _ _ _ h=>
 rnG an0 Tryz.func95 Z Z  h
def afb(C:aA)(a0 z:AV)(H:ah):OA:=
 bo (ay a0) λD=>bo (au D 11) λE=>fld E 0 H λe H=>bnd (C 140 [e] H) λg H=>bo (un .not g) λb=>gl b false (some z) H λh H=>gl b false (some a0) H λi H=>gl b false (ay i) H λj H=>gl b false (au j 10) H λk H=>gdA (some b) false (ld k H) H λm H=>gdA (some b) false (C 141 [h,m,(B false)] H) H λn H=>gl b false (bi .eql 3 n (I 0)) H λo H=>bo (bJ b (B true) o) λp=>
 aQ p
 (some ((B false),H))
 (bo (ay a0) λq=>bo (au q 11) λu=>fld u 0 H λv H=>bnd (C 142 [v] H) λd H=>bo (aF d 0) λw=>bo (aF d 1) λF=>bnd (alc 81 [zI,zI,zI,zI,zI,zI,zI,zB,zN] H) λA H=>bnd (st 9 A w H) λ_ H=>
  bnd (lda 9 A H) λy H=>bnd (C 143 [z,y] H) λG H=>
  some ((B true),H))
def akN:Rn2 96 afb:=λ_ _ _ _ _ h=>
 rnG an0 Tryz.func96 Z Z  h
def Oj(C:aA)(H:ah):OA:=
 some ((B true),H)
def abl(C:aA)(a0 e:AV)(H:ah):OA:=
 bo (ay a0) λg=>fld g 10 H λh H=>bnd (C 141 [e,h,(B false)] H) λi H=>bo (bi .eql 3 i (I 0)) λj=>
 aQ j
 (some ((B false),H))
 (bo (ay a0) λk=>fld k 10 H λm H=>bnd (C 144 [e,m] H) λb H=>bo (aF b 0) λn=>bo (aF b 1) λo=>bnd (alc 81 [zI,zI,zI,zI,zI,zI,zI,zB,zN] H) λy H=>bnd (st 9 y n H) λ_ H=>
  bo (un .not o) λp=>
  aQ p
  (some ((B false),H))
  (bnd (lda 9 y H) λq H=>bnd (C 145 [a0,q] H) λd H=>bo (aF d 0) λu=>bo (aF d 1) λv=>bnd (alc 81 [zI,zI,zI,zI,zI,zI,zI,zB,zN] H) λz H=>bnd (st 9 z u H) λ_ H=>
  aQ v
  (bnd (lda 9 z H) λw H=>bnd (C 143 [e,w] H) λA H=>
   Oj C H)
  (Oj C H)))
def afc:Rn2 97 abl:=λ_ _ _ _ _ h=>
 rnG an0 Tryz.func97 Z Z  h
def aud:Ann:=⟨[],[(7,rF 12 [])],[]⟩
def mG(C:aA)(H:ah):OA:=
 some ((B true),H)
def pI(C:aA)(t0 v t2 g:AV)(H:ah):OA:=
 bo (ay t0) λw=>bo (au w 2) λy=>bnd (lda 8 y H) λz H=>fld g 1 H λA H=>bnd (C 148 [z,A] H) λh H=>bo (aF h 0) λb=>bo (aF h 1) λao=>
 bo (ay t0) λD=>fld D 0 H λE H=>bnd (C 41 [E,b] H) λi H=>bo (aF i 0) λF=>bo (aF i 1) λd=>bnd (alc 100 [zI,zI,zI,zI,zB,zN] H) λj H=>bnd (st 6 j F H) λ_ H=>
 fld g 0 H λG H=>bo (bi .eql 3 G (I 4)) λe=>gl e true (some d) H λK H=>gl e true (un .not K) H λL H=>bo (bJ e L (B false)) λM=>
 aQ M
 (bnd (C 137 [t0,t2,(I 0)] H) λap H=>
  mG C H)
 (fld g 0 H λQ H=>bo (bi .eql 3 Q (I 4)) λR=>
  aQ R
  (bnd (C 149 [t0,v,(I 3),b] H) λaq H=>
  mG C H)
  (gl d true (au g 0) H λT H=>gdA (some d) true (ld T H) H λW H=>gl d true (bi .eql 3 W (I 1)) H λX H=>gl d true (some X) H λZG H=>gl ZG false (au j 4) H λaa H=>gdA (some ZG) false (ld aa H) H λab H=>gl d true (bJ ZG (B true) ab) H λad H=>bo (bJ d ad (B false)) λk=>
  aQ k
  (bo (ay t0) λm=>fld m 0 H λn H=>bnd (C 150 [n,b] H) λar H=>
   bnd (C 138 [t0,t2] H) λaw H=>
   mG C H)
  (bo (ay t0) λo=>fld o 0 H λae H=>bnd (C 151 [ae,b] H) λaf H=>
   aQ af
   (bo (ay t0) λp=>fld p 0 H λag H=>bnd (C 152 [ag,b] H) λq H=>bo (aF q 0) λai=>bo (aF q 1) λam=>
   bnd (C 149 [t0,v,(I 3),ai] H) λax H=>
   mG C H)
   (fld g 0 H λal H=>bo (bi .eql 3 al (I 1)) λu=>
   aQ u
   (bnd (C 149 [t0,v,(I 1),b] H) λaz H=>
    mG C H)
   (bnd (C 149 [t0,v,(I 2),b] H) λaD H=>
    mG C H)))))
def abm(C:aA)(a0 L e:AV)(H:ah):OA:=
 bo (ay a0) λg=>fld g 1 H λh H=>bnd (C 136 [h] H) λd H=>bo (aF d 0) λi=>bo (aF d 1) λj=>bo (aF d 2) λk=>bnd (alc 61 [zI,zI,zI] H) λm H=>bnd (st 3 m i H) λ_ H=>
 bo (un .not k) λb=>gl b false (some a0) H λn H=>gl b false (ay n) H λo H=>gl b false (au o 12) H λp H=>gl b false (au p 3) H λq H=>gdA (some b) false (ld q H) H λu H=>gl b false (bi .neq 3 u (I 0)) H λv H=>bo (bJ b (B true) v) λw=>
 aQ w
 (some ((B false),H))
 (bo (ay a0) λy=>fld y 1 H λz H=>bnd (C 64 [z] H) λA H=>bo (un .not A) λD=>
  aQ D
  (bo (ay a0) λE=>fld E 1 H λF H=>bnd (C 146 [F] H) λM H=>
  bo (ay a0) λG=>fld G 10 H λK H=>bnd (C 147 [e,K,j] H) λQ H=>
  pI C a0 L e m H)
  (pI C a0 L e m H))
def afd:Rn3 98 abm:=λ_ _ _ _ _ _ h=>
 rnG aud Tryz.func98 Z Z  h
def akO(C:aA)(a0 b:AV)(H:ah):OA:=
 bnd (C 153 [a0,b] H) λd H=>bo (bi .geq 3 d (I 0)) λe=>
 some (e,H)
def aue:Rn2 99 akO:=λ_ _ _ _ _ h=>
 rnG an0 Tryz.func99 Z Z  h
def ahJ(C:aA)(a0 i j:AV)(H:ah):OA:=
 bnd (ld i H) λk H=>bnd (ld j H) λd H=>bnd (C 39 [k,a0,d] H) λb H=>bo (aF b 0) λe=>bo (aF b 1) λm=>bnd (alc 100 [zI,zI,zI,zI,zB,zN] H) λh H=>bnd (st 6 h e H) λ_ H=>
 fld h 4 H λg H=>
 some (g,H)
def aot:Rn3 100 ahJ:=λ_ _ _ _ _ _ h=>
 rnG an0 Tryz.func100 Z Z  h
def ahK:Ann:=⟨[(6,[1,8,26,27,28])],[(7,rF 9 []),(10,rF 16 [])],[]⟩
def E8:=jf Tryz.prog Tryz.f101 68 ahK 0
def WE(C:aA)(h i b d e:AV)(H:ah):OA:=
 bo (bi .add 3 e (I 1)) λg=>
 E8 C [h,i,b,d,g] H
def ahL(C:aA)(a0 v d:AV)(H:ah):OA:=
 bnd (fM 31 a0 H) λe H=>
 bnd (lda 8 e H) λg H=>bnd (C 60 [g,v] H) λh H=>bo (bi .neq 57 h (I 0)) λb=>gl b false (au e 0) H λi H=>gdA (some b) false (ld i H) H λj H=>gl b false (some d) H λk H=>gdA (some b) false (C 154 [j,k] H) H λm H=>gl b false (un .not m) H λn H=>bo (bJ b (B true) n) λo=>
 aQ o
 (some (.tup [(.s (Go.Value.pointer none)),(B false)],H))
 (bnd (lda 8 e H) λp H=>bnd (C 155 [p] H) λq H=>
  bnd (lnS d H) λu H=>
  E8 C [v,q,d,u,(I 0)] H)
def afe(C:aA)(i j g h d:AV)(H:ah):E8 C [i,j,g,h,d] H=
 bo (bi .lss 3 d h) λm=>
 aQ m
 (bnd (ix 4 g d H) λn H=>bnd (lda 4 n H) λo H=>bnd (alc 184 [zI,zI,zB,zI] H) λb H=>bnd (st 4 b o H) λ_ H=>
  fld b 1 H λp H=>fld b 0 H λq H=>bnd (ix 1 i q H) λu H=>bnd (ld u H) λv H=>bnd (lnS v H) λw H=>bo (bi .geq 3 p w) λy=>
  aQ y
  (some (.tup [(.s (Go.Value.pointer none)),(B false)],H))
  (fld b 2 H λz H=>bo (un .not z) λA=>
  aQ A
  (WE C i j g h d H)
  (fld b 0 H λD H=>bnd (ix 1 i D H) λE H=>bnd (ld E H) λF H=>fld b 1 H λG H=>bnd (ix 3 F G H) λK H=>bnd (lda 3 K H) λL H=>bnd (C 156 [j,L] H) λk H=>bo (aF k 0) λM=>bo (aF k 1) λQ=>
   bo (bi .neq 57 Q (I 0)) λe=>gl e false (some M) H λR H=>gl e false (au b 3) H λT H=>gdA (some e) false (ld T H) H λW H=>gl e false (bi .neq 3 R W) H λX H=>bo (bJ e (B true) X) λaa=>
   aQ aa
   (some (.tup [(.s (Go.Value.pointer none)),(B false)],H))
   (WE C i j g h d H))))
 (some (.tup [j,(B true)],H)):=
 lpE.trans Z
def aou:Rn3 101 ahL:=λ_ _ _ _ _ _ h=>
 rnG ahK Tryz.func101 Z Z  h
def WG(C:aA)(a0:AV)(H:ah):OA:=
 bo (bi .eql 123 a0 (.s (Go.Value.slice none 0 0))) λb=>
 aQ b
 (some ((.s (Go.Value.slice none 0 0)),H))
 (bnd (bs 123 0 [] H) λd H=>bnd (app 184 4 32 d a0 H) λe H=>
  some (e,H))
def abn:Rn1 102 WG:=λ_ _ _ _ h=>
 rnG an0 Tryz.func102 Z Z  h
def ahM(C:aA)(a0:AV)(H:ah):OA:=
 bo (ay a0) λb=>fld b 8 H λd H=>bnd (C 36 [d] H) λe H=>
 some (e,H)
def aov:Rn1 103 ahM:=λ_ _ _ _ h=>
 rnG an0 Tryz.func103 Z Z  h
def abo(C:aA)(a0 g:AV)(H:ah):OA:=
 bo (bi .geq 3 a0 (I 1)) λb=>gl b true (some a0) H λh H=>gl b true (some g) H λi H=>gl b true (bi .leq 3 h i) H λd H=>bo (bJ b d (B false)) λe=>
 some (e,H)
def aow:Rn2 104 abo:=λ_ _ _ _ _ h=>
 rnG an0 Tryz.func104 Z Z  h
def ahN(C:aA)(a0 b:AV)(H:ah):OA:=
 bnd (C 157 [a0,b] H) λd H=>bo (bi .geq 3 d (I 0)) λe=>
 some (e,H)
def aox:Rn2 105 ahN:=λ_ _ _ _ _ h=>
 rnG an0 Tryz.func105 Z Z  h
def abp(C:aA)(a0 g:AV)(H:ah):OA:=
 bnd (lnS a0 H) λh H=>bo (bi .gtr 3 h (I 24)) λb=>gl b false (some a0) H λi H=>gl b false (some (.fn (.func 108) [] [g])) H λj H=>gdA (some b) false (C 107 [i,j] H) H λd H=>bo (bJ b (B true) d) λe=>
 some (e,H)
def aoy:Rn2 106 abp:=λ_ _ _ _ _ h=>
 rnG an0 Tryz.func106 Z Z  h
def ahO(C:aA)(a0 b:AV)(H:ah):OA:=
 bnd (C 158 [a0,b] H) λd H=>bo (bi .geq 3 d (I 0)) λe=>
 some (e,H)
def aoz:Rn2 107 ahO:=λ_ _ _ _ _ h=>
 rnG an0 Tryz.func107 Z Z  h
def ahP(C:aA)(a0 b:AV)(H:ah):OA:=
 bnd (fM 61 a0 H) λd H=>
 bnd (lda 8 b H) λe H=>bnd (lda 3 d H) λg H=>bnd (C 109 [e,g] H) λh H=>bo (un .not h) λi=>
 some (i,H)
def aoA:Rn2 108 ahP:=λ_ _ _ _ _ h=>
 rnG an0 Tryz.func108 Z Z  h
def Ed(C:aA)(a0 R:AV)(H:ah):OA:=
 bnd (fM 31 a0 H) λT H=>bnd (fM 61 R H) λi H=>
 bnd (lda 8 T H) λW H=>fld i 1 H λk H=>bnd (C 148 [W,k] H) λj H=>bo (aF j 0) λm=>bo (aF j 1) λX=>
 fld i 0 H λn H=>bo (bi .geq 3 n (I 1)) λd=>gl d true (au i 0) H λo H=>gdA (some d) true (ld o H) H λp H=>gl d true (bi .leq 3 p (I 4)) H λq H=>bo (bJ d q (B false)) λh=>gl h true (some m) H λu H=>gl h true (bi .neq 3 u (I (-1))) H λv H=>bo (bJ h v (B false)) λb=>gl b true (au i 2) H λw H=>gdA (some b) true (ld w H) H λy H=>gl b true (bi .eql 3 y (I 0)) H λz H=>gl b true (some z) H λe H=>gl e false (au i 0) H λA H=>gdA (some e) false (ld A H) H λD H=>gl e false (bi .eql 3 D (I 2)) H λE H=>gl b true (bJ e (B true) E) H λF H=>gl b true (some F) H λg H=>gl g false (au i 0) H λG H=>gdA (some g) false (ld G H) H λK H=>gl g false (bi .eql 3 K (I 3)) H λL H=>gl b true (bJ g (B true) L) H λM H=>bo (bJ b M (B false)) λQ=>
 some (Q,H)
def aoB:Rn2 109 Ed:=λ_ _ _ _ _ h=>
 rnG an0 Tryz.func109 Z Z  h
def ahQ(C:aA)(a0:AV)(H:ah):OA:=
 bnd (fQ (kF Tryz.prog true #[3,3] 3 [(I 0),a0]) H) λb H=>bo (bd 177 [(1,b)]) λd=>bnd (fM 177 d H) λe H=>
 some (e,H)
def aoC:Rn1 110 ahQ:=λ_ _ _ _ h=>
 rnG an0 Tryz.func110 Z Z  h
def ahR(C:aA)(a0:AV)(H:ah):OA:=
 bnd (fQ (kF Tryz.prog true #[3,3] 3 [(I 0),a0]) H) λb H=>bo (bd 200 [(1,b)]) λd=>bnd (fM 200 d H) λe H=>
 some (e,H)
def aoD:Rn1 111 ahR:=λ_ _ _ _ h=>
 rnG an0 Tryz.func111 Z Z  h
def ahS(C:aA)(a0 d:AV)(H:ah):OA:=
 bnd (fQ (kF Tryz.prog true #[3,3] 3 [(I 1),a0]) H) λe H=>bnd (fQ (kF Tryz.prog true #[3,3] 3 [(I 1),d]) H) λg H=>bo (bd 147 [(1,e),(2,g)]) λh=>bnd (fM 147 h H) λb H=>
 some (b,H)
def aoE:Rn2 112 ahS:=λ_ _ _ _ _ h=>
 rnG an0 Tryz.func112 Z Z  h
def ahT(C:aA)(a0:AV)(H:ah):OA:=
 bnd (C 159 [a0] H) λb H=>bo (bd 135 [(0,b)]) λd=>bnd (fM 135 d H) λe H=>
 some (e,H)
def aoF:Rn1 113 ahT:=λ_ _ _ _ h=>
 rnG an0 Tryz.func113 Z Z  h
def aoG:Ann:=⟨[],[(1,some false::some false::some true::some true::rF 5 [])],[]⟩
def ahU(C:aA)(a0 e:AV)(H:ah):OA:=
 bnd (fM 31 a0 H) λg H=>
 bnd (lda 8 g H) λh H=>bnd (unG H (C 160 [h,e] H.guard)) λi H=>bnd (unG H (C 161 [] H.guard)) λj H=>bnd (lda 8 g H) λk H=>bo (bd 166 [(0,i),(1,j),(2,k),(3,e)]) λb=>bnd (fM 166 b H) λd H=>
 some (d,H)
def aoH:Rn2 114 ahU:=λ_ _ _ _ _ h=>
 rnG aoG Tryz.func114 Z Z  h
def ahV(C:aA)(a0:AV)(H:ah):OA:=
 bnd (fM 81 a0 H) λb H=>bnd (alc 81 [zI,zI,zI,zI,zI,zI,zI,zB,zN] H) λd H=>
 fld b 8 H λe H=>bnd (C 36 [e] H) λg H=>bo (au b 8) λh=>bnd (st 1 h g H) λ_ H=>
 bnd (lda 9 b H) λi H=>bnd (st 9 d i H) λ_ H=>
 bnd (lda 9 d H) λj _=>some (j,H)
def aoI:Rn1 116 ahV:=λ_ _ _ _ h=>
 rnG an0 Tryz.func116 Z Z  h
def abq(C:aA)(a0:AV)(H:ah):OA:=
 bnd (app 3 1 8 (.s (Go.Value.slice none 0 0)) a0 H) λb H=>
 some (b,H)
def ahW:Rn1 119 abq:=λ_ _ _ _ h=>
 rnG an0 Tryz.func119 Z Z  h
def abr(C:aA)(a0 g:AV)(H:ah):OA:=
 bo (bi .geq 3 a0 (I 1)) λb=>gl b true (some a0) H λh H=>gl b true (some g) H λi H=>gl b true (bi .leq 3 h i) H λd H=>bo (bJ b d (B false)) λe=>
 some (e,H)
def aoJ:Rn2 120 abr:=λ_ _ _ _ _ h=>
 rnG an0 Tryz.func120 Z Z  h
def AQ(C:aA)(a0 a1:AV)(H:ah):OA:=
 bnd (fM 31 a0 H) λv2 H=>bnd (fM 61 a1 H) λi H=>
 fld i 0 H λv6 H=>bo (bi .geq 3 v6 (I 1)) λj=>gl j true (au i 0) H λv9 H=>gdA (some j) true (ld v9 H) H λk H=>gl j true (bi .leq 3 k (I 4)) H λm H=>bo (bJ j m (B false)) λe=>gl e true (au i 1) H λn H=>gdA (some e) true (ld n H) H λo H=>gl e true (bi .geq 3 o (I 0)) H λp H=>bo (bJ e p (B false)) λb=>gl b true (au i 1) H λq H=>gdA (some b) true (ld q H) H λu H=>gl b true (au v2 1) H λv H=>gdA (some b) true (ld v H) H λw H=>gl b true (au v2 2) H λy H=>gdA (some b) true (ld y H) H λz H=>gl b true (bi .mul 3 w z) H λA H=>gl b true (bi .lss 3 u A) H λD H=>bo (bJ b D (B false)) λd=>gl d true (au i 2) H λE H=>gdA (some d) true (ld E H) H λF H=>gl d true (bi .eql 3 F (I 0)) H λG H=>gl d true (some G) H λg H=>gl g false (au i 0) H λK H=>gdA (some g) false (ld K H) H λL H=>gl g false (bi .eql 3 L (I 2)) H λM H=>gl d true (bJ g (B true) M) H λQ H=>gl d true (some Q) H λh H=>gl h false (au i 0) H λR H=>gdA (some h) false (ld R H) H λT H=>gl h false (bi .eql 3 T (I 3)) H λW H=>gl d true (bJ h (B true) W) H λX H=>bo (bJ d X (B false)) λaa=>
 some (aa,H)
def aoK:Rn2 121 AQ:=λ_ _ _ _ _ h=>
 rnG an0 Tryz.func121 Z Z  h
def ahX(C:aA)(a0 d:AV)(H:ah):OA:=
 bnd (fQ (kF Tryz.prog true #[3,3] 3 [a0,(I 1)]) H) λe H=>bnd (fQ (kF Tryz.prog true #[3,3] 3 [d,(I 1)]) H) λg H=>bo (bd 265 [(0,e),(1,g)]) λh=>bnd (fM 265 h H) λb H=>
 some (b,H)
def aoL:Rn2 122 ahX:=λ_ _ _ _ _ h=>
 rnG an0 Tryz.func122 Z Z  h
def ahY:Ann:=⟨[(4,[2,5,6])],[(5,rF 7 (some true::rF 6 []))],[]⟩
def E9:=jf Tryz.prog Tryz.f123 31 ahY 0
def ahZ(C:aA)(a0 e:AV)(H:ah):OA:=
 bnd (fM 31 a0 H) λd H=>
 bnd (lda 8 d H) λg H=>bo (bd 272 [(0,g),(1,e)]) λh=>bnd (fM 272 h H) λb H=>
 E9 C [d,b,(I 0)] H
def WH(C:aA)(d b e:AV)(H:ah):E9 C [d,b,e] H=
 fld d 1 H λg H=>bo (bi .lss 3 e g) λh=>
 aQ h
 (bo (ay b) λi=>fld i 9 H λj H=>bnd (lda 8 d H) λk H=>bnd (unG H (C 173 [k,e] H.guard)) λm H=>bo (bd 274 [(0,(I 0)),(1,(I (-1))),(2,m)]) λn=>bnd (bs 266 1 [(0,n)] H) λo H=>bnd (app 274 3 40 j o H) λp H=>bo (ay b) λq=>bo (au q 9) λu=>bnd (st 1 u p H) λ_ H=>
  bo (bi .add 3 e (I 1)) λv=>
  E9 C [d,b,v] H)
 (some (b,H)):=
 lpE.trans Z
def aoM:Rn2 123 ahZ:=λ_ _ _ _ _ h=>
 rnG ahY Tryz.func123 Z Z  h
def abt(C:aA)(a0 p:AV)(H:ah):OA:=
 bnd (alc 95 [zI,zI,zN] H) λo H=>
 bo (ay a0) λe=>fld e 8 H λg H=>bnd (lk .i64 (.agg #[.int .i64 0,.int .i64 0,.slice none 0 0]) g p true H) λb H=>bo (aF b 0) λh=>bo (aF b 1) λi=>bnd (alc 95 [zI,zI,zN] H) λd H=>bnd (st 3 d h H) λ_ H=>
 fld d 2 H λj H=>bnd (C 36 [j] H) λk H=>bo (au d 2) λm=>bnd (st 1 m k H) λ_ H=>
 bnd (lda 3 d H) λn H=>bnd (st 3 o n H) λ_ H=>
 bnd (lda 3 o H) λq _=>some (.tup [q,i],H)
def aoN:Rn2 124 abt:=λ_ _ _ _ _ h=>
 rnG an0 Tryz.func124 Z Z  h
def ah0:Ann:=⟨[(3,[0,1,7,8])],[],[]⟩
def Fa:=jf Tryz.prog Tryz.f125 19 ah0 0
def ah1(C:aA)(a0 b:AV)(H:ah):OA:=
 bnd (lnS a0 H) λd H=>
 Fa C [a0,b,d,(I 0)] H
def WI(C:aA)(t0 d e b:AV)(H:ah):Fa C [t0,d,e,b] H=
 bo (bi .lss 3 b e) λk=>
 aQ k
 (bnd (ix 6 t0 b H) λg H=>bnd (lda 6 g H) λh H=>bnd (qo Tryz.prog C d [h] H) λi H=>
  aQ i
  (some (b,H))
  (bo (bi .add 3 b (I 1)) λj=>
  Fa C [t0,d,e,j] H))
 (some ((I (-1)),H)):=
 lpE.trans Z
def aoO:Rn2 125 ah1:=λ_ _ _ _ _ h=>
 rnG ah0 Tryz.func125 Z Z  h
def ah2(C:aA)(a0 b:AV)(H:ah):OA:=
 bnd (fM 100 a0 H) λd H=>
 fld d 2 H λe H=>bnd (ld b H) λg H=>bo (bi .eql 3 e g) λh=>
 some (h,H)
def aoP:Rn2 126 ah2:=λ_ _ _ _ _ h=>
 rnG an0 Tryz.func126 Z Z  h
def ah3:Ann:=⟨[(7,[5,48,49,50])],[(4,rF 28 (some true::rF 6 []))],[]⟩
def Fb:=jf Tryz.prog Tryz.f128 61 ah3 0
def ah4(C:aA)(a0:AV)(H:ah):OA:=
 bnd (fM 81 a0 H) λb H=>
 bnd (lda 9 b H) λW H=>bnd (C 174 [W] H) λT H=>
 bo (bi .neq 57 T (I 0)) λe=>
 aQ e
 (some (.tup [(.s (Go.Value.slice none 0 0)),T],H))
 (fld b 0 H λg H=>bnd (cv 3 5 g H) λh H=>fld b 1 H λi H=>bnd (cv 3 5 i H) λj H=>fld b 2 H λk H=>bnd (cv 3 5 k H) λm H=>fld b 3 H λn H=>bo (bi .shr 3 n (.s (Go.Value.int Go.IntKind.u64 8))) λo=>bnd (cv 3 5 o H) λp H=>fld b 3 H λq H=>bnd (cv 3 5 q H) λu H=>fld b 4 H λv H=>bnd (cv 3 5 v H) λw H=>fld b 5 H λy H=>bo (bi .add 3 y (I 1)) λz=>bnd (cv 3 5 z H) λA H=>fld b 6 H λD H=>bnd (cv 3 5 D H) λE H=>fld b 7 H λF H=>bnd (unG H (C 175 [F] H.guard)) λG H=>fld b 8 H λK H=>bnd (lnS K H) λL H=>bnd (cv 3 5 L H) λM H=>bnd (bs 220 10 [(0,h),(1,j),(2,m),(3,p),(4,u),(5,w),(6,A),(7,E),(8,G),(9,M)] H) λQ H=>
  fld b 8 H λd H=>bnd (lnS d H) λR H=>
  Fb C [Q,d,R,(I 0)] H)
def WJ(C:aA)(g d e b:AV)(H:ah):Fb C [g,d,e,b] H=
 bo (bi .lss 3 b e) λh=>
 aQ h
 (bnd (ix 1 d b H) λi H=>bnd (ld i H) λj H=>
  bnd (C 176 [j] H) λk H=>bnd (app 5 1 1 g k H) λm H=>
  bo (bi .add 3 b (I 1)) λn=>
  Fb C [m,d,e,n] H)
 (bnd (C 177 [g] H) λo H=>
  some (.tup [o,(I 0)],H)):=
 lpE.trans Z
def aoQ:Rn1 128 ah4:=λ_ _ _ _ h=>
 rnG ah3 Tryz.func128 Z Z  h
def aoR:Ann:=⟨[],[(4,rF 40 (none::some false::[]))],[]⟩
def abu:Code:=Tryz.f129.body.getD .skip
def ah5(C:aA)(a0:AV)(H:ah):OA:=
 bnd (alc 81 [zI,zI,zI,zI,zI,zI,zI,zB,zN] H) λv2 H=>
 bnd (C 178 [a0] H) λg H=>bo (aF g 0) λb=>bo (aF g 1) λh=>
 bo (un .not h) λe=>gl e false (some b) H λi H=>gdA (some e) false (lnS i H) H λj H=>gl e false (bi .lss 3 j (I 10)) H λk H=>bo (bJ e (B true) k) λd=>gl d false (some b) H λm H=>gdA (some d) false (lnS m H) H λn H=>gl d false (some b) H λo H=>gdA (some d) false (ix 1 o (I 9) H) H λp H=>gdA (some d) false (ld p H) H λq H=>gdA (some d) false (cv 5 3 q H) H λu H=>gl d false (bi .mul 3 (I 8) u) H λv H=>gl d false (bi .add 3 (I 10) v) H λw H=>gl d false (bi .neq 3 n w) H λy H=>bo (bJ d (B true) y) λz=>
 aQ z
 (bo (bd 81 []) λA=>bnd (st 9 v2 A H) λ_ H=>
  bnd (lda 9 v2 H) λr0 _=>some (.tup [r0,(I 2)],H))
 (bnd (alc 81 [zI,zI,zI,zI,zI,zI,zI,zB,zN] H) λv6 H=>bnd (ix 1 b (I 0) H) λD H=>bnd (ld D H) λE H=>bnd (cv 5 3 E H) λF H=>bnd (ix 1 b (I 1) H) λG H=>bnd (ld G H) λK H=>bnd (cv 5 3 K H) λL H=>bnd (ix 1 b (I 2) H) λM H=>bnd (ld M H) λQ H=>bnd (cv 5 3 Q H) λR H=>bnd (ix 1 b (I 3) H) λT H=>bnd (ld T H) λW H=>bnd (cv 5 3 W H) λX H=>bo (bi .shl 3 X (.s (Go.Value.int Go.IntKind.u64 8))) λaa=>bnd (ix 1 b (I 4) H) λab H=>bnd (ld ab H) λad H=>bnd (cv 5 3 ad H) λae H=>bo (bi .or 3 aa ae) λaf=>bnd (ix 1 b (I 5) H) λag H=>bnd (ld ag H) λai H=>bnd (cv 5 3 ai H) λal H=>bnd (ix 1 b (I 6) H) λam H=>bnd (ld am H) λao H=>bnd (cv 5 3 ao H) λap H=>bo (bi .sub 3 ap (I 1)) λaq=>bnd (ix 1 b (I 7) H) λar H=>bnd (ld ar H) λaw H=>bnd (cv 5 3 aw H) λax H=>bnd (ix 1 b (I 8) H) λaz H=>bnd (ld az H) λaD H=>bo (bi .eql 5 aD (.s (Go.Value.int Go.IntKind.u8 1))) λaE=>bo (bd 81 [(0,F),(1,L),(2,R),(3,af),(4,al),(5,aq),(6,ax),(7,aE)]) λaL=>bnd (st 9 v6 aL H) λ_ H=>
  bo (slS 1 b (some (I 10)) none none) λaM=>bnd (C 179 [aM,(I 8)] H) λaR H=>
  none)
def aoS:Rn1 129 ah5:=λ_ _ _ _ h=>
 rnG aoR Tryz.func129 Z Z  h
def ah6:Ann:=⟨[(4,[1,2,7,13,14])],[(7,rF 17 [])],[]⟩
def Fe:=jf Tryz.prog Tryz.f130 45 ah6 0
def yg(C:aA)(g h i b d:AV)(H:ah):OA:=
 bo (bi .add 3 d (I 1)) λe=>
 Fe C [g,h,i,b,e] H
def ah7(C:aA)(a0 e g:AV)(H:ah):OA:=
 bnd (C 182 [a0] H) λb H=>
 bnd (lnS b H) λd H=>
 Fe C [e,g,b,d,(I 0)] H
def WL(C:aA)(i j h d b:AV)(H:ah):Fe C [i,j,h,d,b] H=
 bo (bi .lss 3 b d) λk=>
 aQ k
 (bo (bi .mul 3 (I 8) b) λm=>bo (bi .sub 3 m i) λe=>
  bo (bi .leq 3 e (I (-8))) λg=>gl g false (some e) H λn H=>gl g false (bi .geq 3 n (I 16)) H λo H=>bo (bJ g (B true) o) λp=>
  aQ p
  (yg C i j h d b H)
  (bnd (ix 1 h b H) λq H=>bnd (ld q H) λu H=>bnd (cv 42 260 j H) λv H=>bo (bi .shl 260 v (.s (Go.Value.int Go.IntKind.u64 8))) λw=>bo (bi .add 3 e (I 8)) λy=>bo (bi .shl 260 w y) λz=>bo (bi .shr 260 z (.s (Go.Value.int Go.IntKind.u64 24))) λA=>bnd (cv 260 5 A H) λD H=>bo (bi .xor 5 u D) λE=>bnd (ix 1 h b H) λF H=>bnd (st 1 F E H) λ_ H=>
  yg C i j h d b H))
 (some (h,H)):=
 lpE.trans Z
def aoT:Rn3 130 ah7:=λ_ _ _ _ _ _ h=>
 rnG ah6 Tryz.func130 Z Z  h
def aoU:Ann:=⟨[],[(1,rF 11 [])],[]⟩
def ah8(C:aA)(a0:AV)(H:ah):OA:=
 bo (ay a0) λg=>fld g 1 H λh H=>bo (ay a0) λi=>fld i 0 H λb H=>bnd (lnS b H) λd H=>bo (bi .sub 3 h d) λe=>
 some (e,H)
def aoV:Rn1 131 ah8:=λ_ _ _ _ h=>
 rnG aoU Tryz.func131 Z Z  h
def ah9(C:aA)(a0:AV)(H:ah):OA:=
 bnd (fM 81 a0 H) λb H=>bnd (alc 81 [zI,zI,zI,zI,zI,zI,zI,zB,zN] H) λd H=>
 fld b 8 H λe H=>bnd (C 36 [e] H) λg H=>bo (au b 8) λh=>bnd (st 1 h g H) λ_ H=>
 bnd (lda 9 b H) λi H=>bnd (st 9 d i H) λ_ H=>
 bnd (lda 9 d H) λj _=>some (j,H)
def aoW:Rn1 132 ah9:=λ_ _ _ _ h=>
 rnG an0 Tryz.func132 Z Z  h
def aoX:Ann:=⟨[],[(5,rF 8 [])],[]⟩
def aia(C:aA)(a0 d e:AV)(H:ah):OA:=
 bnd (lnS a0 H) λg H=>bo (slS 9 a0 (some d) (some e) (some g)) λo=>
 bo (bi .eql 3 d e) λh=>
 aQ h
 (some (a0,H))
 (bnd (lnS a0 H) λi H=>
  bo (slS 9 a0 none (some d) none) λj=>bo (slS 9 a0 (some e) none none) λk=>bnd (app 81 9 88 j k H) λb H=>
  bnd (lnS b H) λm H=>bo (slS 9 b (some m) (some i) none) λn=>bnd (clr 9 [zI,zI,zI,zI,zI,zI,zI,zB,zN] n H) λ_ H=>
  some (b,H))
def aoY:Rn3 133 aia:=λ_ _ _ _ _ _ h=>
 rnG aoX Tryz.func133 Z Z  h
def aib(C:aA)(a0 g:AV)(H:ah):OA:=
 bnd (alc 81 [zI,zI,zI,zI,zI,zI,zI,zB,zN] H) λd H=>
 bnd (C 183 [a0,g,(B false)] H) λe H=>bo (aF e 0) λh=>bo (aF e 1) λb=>bnd (st 9 d h H) λ_ H=>
 bnd (lda 9 d H) λi _=>some (.tup [i,b],H)
def aoZ:Rn2 134 aib:=λ_ _ _ _ _ h=>
 rnG an0 Tryz.func134 Z Z  h
def ao0:Ann:=⟨[],[(3,rF 18 []),(5,rF 18 []),(7,rF 18 [])],[]⟩
def QT(C:aA)(a0 a1:AV)(H:ah):OA:=
 bnd (fM 81 a1 H) λj H=>bnd (alc 73 [zI,zI,zI,zI,zI,zI,zN,zI,zI] H) λb H=>
 bo (ay a0) λv7=>bo (au v7 12) λv8=>fld v8 0 H λd H=>
 bo (bi .eql 3 d (I 1)) λk=>
 aQ k
 (bo (ay a0) λm=>bo (au m 12) λn=>bnd (lda 9 n H) λo H=>bo (ay a0) λp=>fld p 10 H λq H=>bo (ay a0) λu=>fld u 0 H λv H=>bnd (lda 9 j H) λw H=>bnd (C 184 [o,q,v,w] H) λg H=>bo (aF g 0) λy=>bo (aF g 1) λz=>bnd (st 9 b y H) λ_ H=>
  bnd (lda 9 b H) λe _=>some (.tup [e,z],H))
 (bo (bi .eql 3 d (I 2)) λA=>
  aQ A
  (bo (ay a0) λD=>bo (au D 12) λE=>bnd (lda 9 E H) λF H=>bo (ay a0) λG=>fld G 10 H λK H=>bo (ay a0) λL=>fld L 0 H λM H=>bnd (lda 9 j H) λQ H=>bnd (C 185 [F,K,M,Q] H) λh H=>bo (aF h 0) λR=>bo (aF h 1) λT=>bnd (st 9 b R H) λ_ H=>
  bnd (lda 9 b H) λe _=>some (.tup [e,T],H))
  (bo (bi .eql 3 d (I 3)) λW=>
  aQ W
  (bo (ay a0) λX=>bo (au X 12) λaa=>bnd (lda 9 aa H) λab H=>bo (ay a0) λad=>fld ad 10 H λae H=>bo (ay a0) λaf=>fld af 0 H λag H=>bnd (lda 9 j H) λai H=>bnd (C 186 [ab,ae,ag,ai] H) λi H=>bo (aF i 0) λal=>bo (aF i 1) λam=>bnd (st 9 b al H) λ_ H=>
   bnd (lda 9 b H) λe _=>some (.tup [e,am],H))
  (bo (bd 73 []) λao=>bnd (st 9 b ao H) λ_ H=>
   bnd (lda 9 b H) λe _=>some (.tup [e,(B false)],H))))
def WM:Rn2 135 QT:=λ_ _ _ _ _ h=>
 rnG ao0 Tryz.func135 Z Z  h
def ao1:Ann:=⟨[],[(3,rF 19 [])],[(3,[(14,16),(15,16)])]⟩
def abv(C:aA)(a0:AV)(H:ah):OA:=
 bnd (alc 61 [zI,zI,zI] H) λh H=>
 bnd (C 66 [a0] H) λz H=>bo (bi .eql 3 z (I 0)) λA=>
 aQ A
 (bo (bd 61 []) λD=>bnd (st 3 h D H) λ_ H=>
  bnd (lda 3 h H) λi _=>some (.tup [i,(I 0),(B false)],H))
 (bo (ay a0) λj=>fld j 0 H λk E=>bo (ay a0) λm=>fld m 1 E λn F=>bnd (lnS n F) λo G=>bnd (ix 3 k o G) λp K=>bnd (lda 3 p K) λq u=>bo (ay a0) λv=>bo (au v 1) λe=>bnd (ld e u) λg w=>bnd (lnS g w) λy d=>bnd (st 3 h q d) λ_ b=>ck (bQ e) d b <| ck (bQ g) d b <|
  bnd (lda 3 h b) λi _=>some (.tup [i,y,(B true)],b))
def ao2:Rn1 136 abv:=λ_ _ _ _ h=>
 rnG ao1 Tryz.func136 Z Z  h
def aic(C:aA)(a0 o n:AV)(H:ah):OA:=
 bo (ay a0) λd=>fld d 1 H λe H=>bnd (C 136 [e] H) λb H=>bo (aF b 0) λg=>bo (aF b 1) λh=>bo (aF b 2) λp=>bnd (alc 61 [zI,zI,zI] H) λq H=>bnd (st 3 q g H) λ_ H=>
 bo (ay a0) λi=>fld i 1 H λj H=>bnd (C 187 [j,n] H) λu H=>
 bo (ay a0) λk=>fld k 10 H λm H=>bnd (C 188 [o,m,h,n] H) λv H=>
 some (.tup [],H)
def ao3:Rn3 137 aic:=λ_ _ _ _ _ _ h=>
 rnG an0 Tryz.func137 Z Z  h
def ao4:Ann:=⟨[],[(1,rF 12 []),(9,rF 6 [])],[]⟩
def Fg(C:aA)(t0 d b:AV)(H:ah):OA:=
 bnd (C 137 [t0,d,b] H) λe H=>
 some (.tup [],H)
def vK(C:aA)(t0 j k m b:AV)(H:ah):OA:=
 bo (ay t0) λd=>fld d 0 H λe H=>bnd (lda 6 m H) λg H=>bnd (C 191 [e,g] H) λn H=>
 fld k 0 H λh H=>bo (bi .eql 3 h (I 2)) λi=>
 aQ i
 (Fg C t0 j (I 0) H)
 (Fg C t0 j b H)
def WO(C:aA)(a0 m:AV)(H:ah):OA:=
 bo (ay a0) λn=>fld n 1 H λo H=>bnd (C 136 [o] H) λe H=>bo (aF e 0) λp=>bo (aF e 1) λQ=>bo (aF e 2) λR=>bnd (alc 61 [zI,zI,zI] H) λd H=>bnd (st 3 d p H) λ_ H=>
 bo (ay a0) λq=>bo (au q 2) λu=>bnd (lda 8 u H) λv H=>fld d 1 H λw H=>bnd (C 148 [v,w] H) λi H=>bo (aF i 0) λy=>bo (aF i 1) λg=>
 bo (ay a0) λz=>fld z 0 H λA H=>bnd (C 41 [A,y] H) λj H=>bo (aF j 0) λD=>bo (aF j 1) λT=>bnd (alc 100 [zI,zI,zI,zI,zB,zN] H) λh H=>bnd (st 6 h D H) λ_ H=>
 bnd (lda 6 h H) λE H=>bnd (C 189 [E,g] H) λb H=>
 fld d 0 H λk H=>
 bo (bi .eql 3 k (I 2)) λF=>
 aQ F
 (fld d 2 H λG H=>bnd (C 190 [h,g,G] H) λW H=>
  vK C a0 m d h b H)
 (bo (bi .eql 3 k (I 3)) λK=>
  aQ K
  (fld d 2 H λL H=>bo (bi .add 3 b L) λM=>bnd (C 190 [h,g,M] H) λX H=>
  vK C a0 m d h b H)
  (vK C a0 m d h b H))
def abw:Rn2 138 WO:=λ_ _ _ _ _ h=>
 rnG ao4 Tryz.func138 Z Z  h
def ao5:Ann:=⟨[],[(0,rF 18 (some true::some false::some false::[]))],[]⟩
def aie(C:aA)(a0 o:AV)(H:ah):OA:=
 bo (ay a0) λp=>bo (au p 12) λq=>bnd (lda 9 q H) λu H=>bo (ay a0) λb=>fld b 10 H λd H=>bo (ay a0) λe=>bo (au e 2) λg=>bnd (lda 8 g H) λh H=>bo (ay a0) λi=>bo (au i 12) λj=>fld j 1 H λk H=>bnd (unG H (C 42 [h,k] H.guard)) λm H=>bnd (C 192 [u,d,m] H) λn H=>bnd (C 143 [o,n] H) λv H=>
 some (.tup [],H)
def ao6:Rn2 139 aie:=λ_ _ _ _ _ h=>
 rnG ao5 Tryz.func139 Z Z  h
def abx(C:aA)(a0:AV)(H:ah):OA:=
 bo (ay a0) λb=>fld b 1 H λd H=>bnd (C 193 [d] H) λe H=>bnd (lnS e H) λg H=>bo (bi .gtr 3 g (I 0)) λh=>
 some (h,H)
def ao7:Rn1 140 abx:=λ_ _ _ _ h=>
 rnG an0 Tryz.func140 Z Z  h
def aby(C:aA)(a0 m n:AV)(H:ah):OA:=
 bnd (C 71 [a0,m] H) λo H=>bo (un .not o) λb=>
 aQ b
 (some ((I 0),H))
 (bo (ay a0) λd=>fld d 0 H λe H=>bnd (ix 4 e m H) λg H=>bnd (lda 4 g H) λh H=>bnd (C 91 [h,n] H) λi H=>bo (fl i 0) λj=>bnd (C 194 [j] H) λk H=>
  some (k,H))
def ao8:Rn3 141 aby:=λ_ _ _ _ _ _ h=>
 rnG an0 Tryz.func141 Z Z  h
def aif:Ann:=⟨[(3,[0,2,13,14,15])],[],[]⟩
def Ol:=jf Tryz.prog Tryz.f142 37 aif 0
def abz(C:aA)(a0:AV)(H:ah):OA:=
 bnd (alc 81 [zI,zI,zI,zI,zI,zI,zI,zB,zN] H) λh H=>
 bo (ay a0) λd=>fld d 1 H λe H=>bnd (C 193 [e] H) λb H=>bnd (lnS b H) λg H=>
 Ol C [a0,h,b,g,(I 0)] H
def WQ(C:aA)(t0 h d e b:AV)(H:ah):Ol C [t0,h,d,e,b] H=
 bo (bi .lss 3 b e) λj=>
 aQ j
 (bnd (ix 1 d b H) λk H=>bnd (ld k H) λi H=>
  bo (ay t0) λm=>fld m 1 H λn H=>bnd (C 195 [n,i] H) λg H=>bo (aF g 0) λo=>bo (aF g 1) λp=>bo (aF g 2) λq=>
  aQ q
  (bnd (C 196 [t0,i,o,p] H) λu H=>bnd (st 9 h u H) λ_ H=>
  bnd (lda 9 h H) λv _=>some (.tup [v,(B true)],H))
  (bo (bi .add 3 b (I 1)) λw=>
  Ol C [t0,h,d,e,w] H))
 (bo (bd 81 []) λy=>bnd (st 9 h y H) λ_ H=>
  bnd (lda 9 h H) λv _=>some (.tup [v,(B false)],H)):=
 lpE.trans Z
def ao9:Rn1 142 abz:=λ_ _ _ _ h=>
 rnG aif Tryz.func142 Z Z  h
def apa:Ann:=⟨[],[(3,rF 10 (some true::some true::rF 4 []))],[]⟩
def QU(C:aA)(a0 L:AV)(H:ah):OA:=
 bnd (fM 81 L H) λd H=>
 bnd (lda 9 d H) λM H=>bnd (C 174 [M] H) λQ H=>bo (bi .neq 57 Q (I 0)) λe=>gl e false (some a0) H λR H=>gl e false (au d 1) H λg H=>gdA (some e) false (ld g H) H λh H=>gdA (some e) false (C 71 [R,h] H) H λi H=>gl e false (un .not i) H λj H=>bo (bJ e (B true) j) λb=>gl b false (some a0) H λk H=>gl b false (au d 2) H λm H=>gdA (some b) false (ld m H) H λn H=>gdA (some b) false (C 71 [k,n] H) H λo H=>gl b false (un .not o) H λp H=>bo (bJ b (B true) p) λq=>
 aQ q
 (some ((I 1),H))
 (bo (ay a0) λu=>fld u 0 H λv H=>fld d 1 H λw H=>bnd (ix 4 v w H) λy H=>bnd (lda 4 y H) λz H=>fld d 0 H λA H=>bnd (unG H (C 92 [A] H.guard)) λD H=>bnd (unG H (C 91 [z,D] H.guard)) λE H=>bo (fl E 0) λF=>bnd (lda 9 d H) λG H=>bnd (C 197 [F,G] H) λK H=>
  some (K,H))
def aii:Rn2 143 QU:=λ_ _ _ _ _ h=>
 rnG apa Tryz.func143 Z Z  h
def aij(C:aA)(a0 g:AV)(H:ah):OA:=
 bnd (alc 81 [zI,zI,zI,zI,zI,zI,zI,zB,zN] H) λd H=>
 bnd (C 183 [a0,g,(B true)] H) λe H=>bo (aF e 0) λh=>bo (aF e 1) λb=>bnd (st 9 d h H) λ_ H=>
 bnd (lda 9 d H) λi _=>some (.tup [i,b],H)
def apb:Rn2 144 aij:=λ_ _ _ _ _ h=>
 rnG an0 Tryz.func144 Z Z  h
def apc:Ann:=⟨[],[(2,rF 11 (none::rF 3 [])),(4,rF 9 (none::some false::some false::[]))],[(2,[(11,6)]),(4,[(9,5)])]⟩
def La(C:aA)(a0 a1:AV)(H:ah):OA:=
 bnd (fM 81 a1 H) λo H=>bnd (alc 81 [zI,zI,zI,zI,zI,zI,zI,zB,zN] H) λp H=>
 fld o 0 H λq H=>bo (bi .eql 3 q (I 1)) λd=>gl d false (au o 0) H λu H=>gdA (some d) false (ld u H) H λv H=>gl d false (bi .eql 3 v (I 2)) H λw H=>bo (bJ d (B true) w) λy=>
 aQ y
 (bnd (alc 81 [zI,zI,zI,zI,zI,zI,zI,zB,zN] H) λv6 i=>bo (ay a0) λz=>bo (au z 11) λA=>fld A 0 i λD H4=>bnd (lda 9 o H4) λE H5=>bnd (C 198 [D,E] H5) λe H6=>bo (aF e 0) λF=>bo (aF e 1) λg=>bo (aF e 2) λG=>bnd (st 9 v6 F H6) λ_ b=>ckR H.next i.next H5 H6 <|
  bnd (lda 9 v6 b) λK b=>gl g true (some G) b λL b=>gl g true (bi .eql 57 L (I 0)) b λM b=>bo (bJ g M (B false)) λQ=>bnd (st 9 p K b) λ_ b=>
  bnd (lda 9 p b) λR _=>some (.tup [R,Q],b))
 (bnd (alc 81 [zI,zI,zI,zI,zI,zI,zI,zB,zN] H) λv9 j=>bo (ay a0) λT=>bo (au T 0) λW=>bnd (ld W j) λX aa=>bnd (lda 9 o aa) λab k=>bnd (C 199 [X,ab] k) λm n=>bo (aF m 0) λad=>bo (aF m 1) λae=>bnd (st 9 v9 ad n) λ_ h=>ckR H.next j.next k n <|
  bnd (lda 9 v9 h) λaf h=>bo (bi .eql 57 ae (I 0)) λag=>bnd (st 9 p af h) λ_ h=>
  bnd (lda 9 p h) λR _=>some (.tup [R,ag],h))
def aik:Rn2 145 La:=λ_ _ _ _ _ h=>
 rnG apc Tryz.func145 Z Z  h
def WR(C:aA)(a0:AV)(H:ah):OA:=
 bo (ay a0) λi=>fld i 2 H λb H=>gl b false (some a0) H λj H=>gdA (some b) false (C 66 [j] H) H λk H=>gl b false (bi .eql 3 k (I 0)) H λd H=>bo (bJ b (B true) d) λe=>
 aQ e
 (some ((I 6),H))
 (bo (ay a0) λg=>bo (au g 2) λh=>bnd (st 1 h (B true) H) λ_ H=>
  some ((I 0),H))
def abA:Rn1 146 WR:=λ_ _ _ _ h=>
 rnG an0 Tryz.func146 Z Z  h
def ail(C:aA)(a0 j k:AV)(H:ah):OA:=
 bo (ay a0) λm=>fld m 0 H λb H=>bo (bd 184 [(0,j),(1,k)]) λd=>bnd (bs 123 1 [(0,d)] H) λe H=>bnd (app 184 4 32 b e H) λg H=>bo (ay a0) λh=>bo (au h 0) λi=>bnd (st 1 i g H) λ_ H=>
 some (.tup [],H)
def apf:Rn3 147 ail:=λ_ _ _ _ _ _ h=>
 rnG an0 Tryz.func147 Z Z  h
def apg:Ann:=⟨[],[(3,rF 10 [])],[]⟩
def WS(C:aA)(a0 d:AV)(H:ah):OA:=
 bnd (fM 31 a0 H) λe H=>
 bo (bi .lss 3 d (I 0)) λb=>gl b false (some d) H λp H=>gdA (some b) false (lda 8 e H) H λg H=>gdA (some b) false (C 57 [g] H) H λh H=>gl b false (bi .geq 3 p h) H λi H=>bo (bJ b (B true) i) λj=>
 aQ j
 (some (.tup [(I (-1)),(I 0)],H))
 (fld e 2 H λk H=>bo (bi .quo 3 d k) λm=>fld e 2 H λn H=>bo (bi .rem 3 d n) λo=>
  some (.tup [m,o],H))
def aph:Rn2 148 WS:=λ_ _ _ _ _ h=>
 rnG apg Tryz.func148 Z Z  h
def aio(C:aA)(a0 p q u:AV)(H:ah):OA:=
 bo (ay a0) λb=>fld b 21 H λd H=>bnd (C 200 [q,u,d] H) λe H=>bo (ay a0) λg=>bo (au g 12) λh=>bnd (st 9 h e H) λ_ H=>
 bo (ay a0) λi=>fld i 21 H λj H=>bo (bi .add 3 j (I 1)) λk=>bo (bi .rem 3 k (I 4096)) λm=>bo (ay a0) λn=>bo (au n 21) λo=>bnd (st 1 o m H) λ_ H=>
 bnd (C 139 [a0,p] H) λv H=>
 some (.tup [],H)
def apj:Rn4 149 aio:=λ_ _ _ _ _ _ _ h=>
 rnG an0 Tryz.func149 Z Z  h
def apk:Ann:=⟨[],[(5,rF 12 [])],[]⟩
def abB(C:aA)(a0 u:AV)(H:ah):OA:=
 bnd (C 82 [a0,u] H) λq H=>
 bo (bi .lss 3 q (I 0)) λb=>
 aQ b
 (some ((B false),H))
 (bo (ay a0) λd=>fld d 3 H λe H=>bo (bi .add 3 e (I 1)) λg=>bo (ay a0) λh=>bo (au h 3) λi=>bnd (st 1 i g H) λ_ H=>
  bo (ay a0) λj=>fld j 0 H λk H=>bo (ay a0) λm=>fld m 3 H λn H=>bnd (ix 6 k q H) λo H=>bo (au o 3) λp=>bnd (st 1 p n H) λ_ H=>
  some ((B true),H))
def apl:Rn2 150 abB:=λ_ _ _ _ _ h=>
 rnG apk Tryz.func150 Z Z  h
def apm:Ann:=⟨[],[(1,rF 7 (some true::rF 8 []))],[]⟩
def abC(C:aA)(a0 p:AV)(H:ah):OA:=
 bnd (C 82 [a0,p] H) λq H=>bo (bi .lss 3 q (I 0)) λb=>gl b true (some a0) H λd H=>gl b true (some p) H λe H=>gdA (some b) true (unG H (C 201 [d,e] H.guard)) H λg H=>gdA (some b) true (lnS g H) H λh H=>gl b true (some a0) H λi H=>gl b true (ay i) H λj H=>gl b true (au j 2) H λk H=>gdA (some b) true (ld k H) H λm H=>gl b true (bi .geq 3 h m) H λn H=>bo (bJ b n (B false)) λo=>
 some (o,H)
def apn:Rn2 151 abC:=λ_ _ _ _ _ h=>
 rnG apm Tryz.func151 Z Z  h
def abD(C:aA)(a0 i:AV)(H:ah):OA:=
 bnd (C 201 [a0,i] H) λh H=>
 bnd (lnS h H) λb H=>bo (bi .eql 3 b (I 0)) λd=>
 aQ d
 (some (.tup [(I 0),(B false)],H))
 (bnd (C 202 [h,(.fn (.func 203) [] [])] H) λe H=>bo (fl e 2) λg=>
  some (.tup [g,(B true)],H))
def apo:Rn2 152 abD:=λ_ _ _ _ _ h=>
 rnG an0 Tryz.func152 Z Z  h
def aip:Ann:=⟨[(3,[0,1,7,8])],[],[]⟩
def AU:=jf Tryz.prog Tryz.f153 19 aip 0
def aiq(C:aA)(a0 b:AV)(H:ah):OA:=
 bnd (lnS a0 H) λd H=>
 AU C [a0,b,d,(I 0)] H
def WT(C:aA)(t0 d e b:AV)(H:ah):AU C [t0,d,e,b] H=
 bo (bi .lss 3 b e) λk=>
 aQ k
 (bnd (ix 1 t0 b H) λg H=>bnd (ld g H) λh H=>bnd (qo Tryz.prog C d [h] H) λi H=>
  aQ i
  (some (b,H))
  (bo (bi .add 3 b (I 1)) λj=>
  AU C [t0,d,e,j] H))
 (some ((I (-1)),H)):=
 lpE.trans Z
def apq:Rn2 153 aiq:=λ_ _ _ _ _ h=>
 rnG aip Tryz.func153 Z Z  h
def air:Ann:=⟨[(4,[0,5,10,11,12])],[],[]⟩
def Fh:=jf Tryz.prog Tryz.f154 60 air 0
def ais(C:aA)(a0 d:AV)(H:ah):OA:=
 bnd (mkm .i64 H) λe H=>
 bnd (lnS d H) λb H=>
 Fh C [a0,e,d,b,(I 0)] H
def aff(C:aA)(t0 n k m h:AV)(H:ah):Fh C [t0,n,k,m,h] H=
 bo (bi .lss 3 h m) λq=>
 aQ q
 (bnd (ix 4 k h H) λu H=>bnd (lda 4 u H) λv H=>bnd (alc 184 [zI,zI,zB,zI] H) λi H=>bnd (st 4 i v H) λ_ H=>
  fld i 0 H λw H=>bnd (lk .i64 (.int .i64 0) n w false H) λo H=>
  fld i 0 H λy H=>bo (bi .lss 3 y (I 0)) λg=>gl g false (au i 0) H λz H=>gdA (some g) false (ld z H) H λA H=>gl g false (some t0) H λD H=>gl g false (bi .geq 3 A D) H λE H=>bo (bJ g (B true) E) λd=>gl d false (au i 1) H λF H=>gdA (some d) false (ld F H) H λG H=>gl d false (some o) H λK H=>gl d false (bi .quo 3 K (I 2)) H λL H=>gl d false (bi .neq 3 G L) H λM H=>bo (bJ d (B true) M) λb=>gl b false (au i 2) H λQ H=>gdA (some b) false (ld Q H) H λR H=>gl b false (some o) H λT H=>gl b false (bi .rem 3 T (I 2)) H λW H=>gl b false (bi .eql 3 W (I 1)) H λX H=>gl b false (bi .neq 4 R X) H λaa H=>bo (bJ b (B true) aa) λe=>gl e false (au i 2) H λab H=>gdA (some e) false (ld ab H) H λad H=>gl e false (un .not ad) H λae H=>gl e false (some ae) H λj H=>gl j true (au i 3) H λaf H=>gdA (some j) true (ld af H) H λag H=>gl j true (bi .neq 3 ag (I 0)) H λai H=>gl e false (bJ j ai (B false)) H λal H=>bo (bJ e (B true) al) λam=>
  aQ am
  (some ((B false),H))
  (fld i 0 H λp H=>bnd (lk .i64 (.int .i64 0) n p false H) λao H=>bo (bi .add 3 ao (I 1)) λap=>bnd (mup .i64 n p ap H) λ_ H=>
  bo (bi .add 3 h (I 1)) λaq=>
  Fh C [t0,n,k,m,aq] H))
 (some ((B true),H)):=
 lpE.trans Z
def apr:Rn2 154 ais:=λ_ _ _ _ _ h=>
 rnG air Tryz.func154 Z Z  h
def ait:Ann:=⟨[(4,[1,3,9,10])],[(5,rF 7 (some true::rF 4 []))],[]⟩
def AX:=jf Tryz.prog Tryz.f155 26 ait 0
def aiu(C:aA)(a0:AV)(H:ah):OA:=
 bnd (fM 31 a0 H) λb H=>
 bnd (lda 8 b H) λd H=>bo (bd 246 [(0,d)]) λe=>bnd (fM 246 e H) λg H=>
 fld b 1 H λh H=>
 AX C [b,g,h,(I 0)] H
def WU(C:aA)(e d g b:AV)(H:ah):AX C [e,d,g,b] H=
 bo (bi .lss 3 b g) λh=>
 aQ h
 (bo (ay d) λi=>fld i 8 H λj H=>bnd (lda 8 e H) λk H=>bnd (unG H (C 204 [k,b] H.guard)) λm H=>bnd (app 3 1 8 j m H) λn H=>bo (ay d) λo=>bo (au o 8) λp=>bnd (st 1 p n H) λ_ H=>
  bo (bi .add 3 b (I 1)) λq=>
  AX C [e,d,g,q] H)
 (some (d,H)):=
 lpE.trans Z
def aps:Rn1 155 aiu:=λ_ _ _ _ h=>
 rnG ait Tryz.func155 Z Z  h
def aiv:Ann:=⟨[(3,[0,1,7,8])],[],[]⟩
def Fj:=jf Tryz.prog Tryz.f157 19 aiv 0
def aiw(C:aA)(a0 b:AV)(H:ah):OA:=
 bnd (lnS a0 H) λd H=>
 Fj C [a0,b,d,(I 0)] H
def WV(C:aA)(t0 d e b:AV)(H:ah):Fj C [t0,d,e,b] H=
 bo (bi .lss 3 b e) λk=>
 aQ k
 (bnd (ix 1 t0 b H) λg H=>bnd (ld g H) λh H=>bnd (qo Tryz.prog C d [h] H) λi H=>
  aQ i
  (some (b,H))
  (bo (bi .add 3 b (I 1)) λj=>
  Fj C [t0,d,e,j] H))
 (some ((I (-1)),H)):=
 lpE.trans Z
def apt:Rn2 157 aiw:=λ_ _ _ _ _ h=>
 rnG aiv Tryz.func157 Z Z  h
def aix:Ann:=⟨[(3,[0,1,7,8])],[],[]⟩
def Fp:=jf Tryz.prog Tryz.f158 19 aix 0
def aiy(C:aA)(a0 b:AV)(H:ah):OA:=
 bnd (lnS a0 H) λd H=>
 Fp C [a0,b,d,(I 0)] H
def WW(C:aA)(t0 d e b:AV)(H:ah):Fp C [t0,d,e,b] H=
 bo (bi .lss 3 b e) λk=>
 aQ k
 (bnd (ix 3 t0 b H) λg H=>bnd (lda 3 g H) λh H=>bnd (qo Tryz.prog C d [h] H) λi H=>
  aQ i
  (some (b,H))
  (bo (bi .add 3 b (I 1)) λj=>
  Fp C [t0,d,e,j] H))
 (some ((I (-1)),H)):=
 lpE.trans Z
def apu:Rn2 158 aiy:=λ_ _ _ _ _ h=>
 rnG aix Tryz.func158 Z Z  h
def abE(C:aA)(a0:AV)(H:ah):OA:=
 bo (bi .eql 62 a0 (.s (Go.Value.slice none 0 0))) λb=>
 aQ b
 (some ((.s (Go.Value.slice none 0 0)),H))
 (bnd (bs 62 0 [] H) λd H=>bnd (app 61 3 24 d a0 H) λe H=>
  some (e,H))
def aiz:Rn1 159 abE:=λ_ _ _ _ h=>
 rnG an0 Tryz.func159 Z Z  h
def aiA:Ann:=⟨[(4,[1,2,5,12,13])],[(6,rF 7 (some true::some false::some false::[]))],[]⟩
def Fq:=jf Tryz.prog Tryz.f160 32 aiA 0
def Fv(C:aA)(g h i b d:AV)(H:ah):OA:=
 bo (bi .add 3 d (I 1)) λe=>
 Fq C [g,h,i,b,e] H
def aiB(C:aA)(a0 g:AV)(H:ah):OA:=
 bnd (fM 31 a0 H) λb H=>
 bnd (lda 8 b H) λh H=>bnd (mkm .i64 H) λi H=>bo (bd 277 [(0,h),(1,i)]) λj=>bnd (fM 277 j H) λd H=>
 fld b 1 H λe H=>
 Fq C [g,b,d,e,(I 0)] H
def WX(C:aA)(h e g d b:AV)(H:ah):Fq C [h,e,g,d,b] H=
 bo (bi .lss 3 b d) λi=>
 aQ i
 (bnd (lda 8 e H) λj H=>bnd (C 42 [j,b] H) λk H=>bo (bi .eql 3 k h) λm=>
  aQ m
  (bo (ay g) λn=>fld n 8 H λo H=>bnd (lda 8 e H) λp H=>bnd (unG H (C 204 [p,b] H.guard)) λq H=>bo (bd 95 [(0,(I 0)),(1,(I (-1))),(2,q)]) λu=>bnd (mup .i64 o b u H) λ_ H=>
  Fv C h e g d b H)
  (Fv C h e g d b H))
 (some (g,H)):=
 lpE.trans Z
def apv:Rn2 160 aiB:=λ_ _ _ _ _ h=>
 rnG aiA Tryz.func160 Z Z  h
def aiC(C:aA)(H:ah):OA:=
 bnd (mkm .i64 H) λb H=>bnd (mkm .i64 H) λd H=>bo (bd 218 [(0,b),(1,d)]) λe=>bnd (fM 218 e H) λg H=>
 some (g,H)
def apw:Rn0 161 aiC:=λ_ _ _ h=>
 rnG an0 Tryz.func161 Z Z  h
def aiD:Ann:=⟨[(6,[1,2,5,6])],[],[]⟩
def Fz:=jf Tryz.prog Tryz.f173 44 aiD 0
def FB(C:aA)(g h i j k:AV)(H:ah):OA:=
 bnd (bs 22 1 [(0,k)] H) λb H=>bnd (app 3 1 8 i b H) λd H=>
 bo (bi .add 3 j (I 1)) λe=>
 Fz C [g,h,d,e] H
def aiE(C:aA)(a0 d:AV)(H:ah):OA:=
 bnd (fM 31 a0 H) λk H=>
 bo (bi .lss 3 d (I 0)) λb=>gl b false (some d) H λe H=>gl b false (au k 1) H λg H=>gdA (some b) false (ld g H) H λh H=>gl b false (bi .geq 3 e h) H λi H=>bo (bJ b (B true) i) λj=>
 aQ j
 (some ((.s (Go.Value.slice none 0 0)),H))
 (Fz C [d,k,(.s (Go.Value.slice none 0 0)),(I 0)] H)
def WY(C:aA)(g b h d:AV)(H:ah):Fz C [g,b,h,d] H=
 fld b 2 H λi H=>bo (bi .lss 3 d i) λj=>
 aQ j
 (fld b 2 H λk H=>bo (bi .mul 3 g k) λm=>bo (bi .add 3 m d) λe=>
  fld b 7 H λn H=>bnd (lnS n H) λo H=>bo (bi .lss 3 e o) λp=>
  aQ p
  (fld b 7 H λq H=>bnd (ix 1 q e H) λu H=>bnd (ld u H) λv H=>
  FB C g b h d v H)
  (FB C g b h d (I 0) H))
 (some (h,H)):=
 lpE.trans Z
def apx:Rn2 173 aiE:=λ_ _ _ _ _ h=>
 rnG aiD Tryz.func173 Z Z  h
def abG(C:aA)(a0:AV)(H:ah):OA:=
 bnd (fM 81 a0 H) λi H=>
 fld i 1 H λv6 H=>bnd (C 211 [v6,(I 0),(I 6)] H) λk H=>gl k true (au i 2) H λv9 H=>gdA (some k) true (ld v9 H) H λm H=>gdA (some k) true (C 211 [m,(I 0),(I 6)] H) H λn H=>bo (bJ k n (B false)) λe=>gl e true (au i 3) H λo H=>gdA (some e) true (ld o H) H λp H=>gdA (some e) true (C 211 [p,(I 0),(I 4096)] H) H λq H=>bo (bJ e q (B false)) λu=>
 fld i 0 H λv H=>bnd (C 211 [v,(I 1),(I 10)] H) λg H=>gl g true (au i 4) H λw H=>gdA (some g) true (ld w H) H λy H=>gdA (some g) true (C 211 [y,(I 0),(I 8)] H) H λz H=>bo (bJ g z (B false)) λh=>gl h true (au i 5) H λA H=>gdA (some h) true (ld A H) H λD H=>gdA (some h) true (C 211 [D,(I (-1)),(I 6)] H) H λE H=>bo (bJ h E (B false)) λF=>
 bo (un .not u) λj=>gl j false (some F) H λG H=>gl j false (un .not G) H λK H=>bo (bJ j (B true) K) λb=>gl b false (au i 6) H λL H=>gdA (some b) false (ld L H) H λM H=>gdA (some b) false (C 211 [M,(I 0),(I 3)] H) H λQ H=>gl b false (un .not Q) H λR H=>bo (bJ b (B true) R) λd=>gl d false (au i 8) H λT H=>gdA (some d) false (ld T H) H λW H=>gdA (some d) false (lnS W H) H λX H=>gl d false (bi .gtr 3 X (I 4)) H λaa H=>bo (bJ d (B true) aa) λab=>
 aQ ab
 (some ((I 1),H))
 (some ((I 0),H))
def aiF:Rn1 174 abG:=λ_ _ _ _ h=>
 rnG an0 Tryz.func174 Z Z  h
def abH(C:aA)(a0:AV)(H:ah):OA:=
 aQ a0
 (some ((.s (Go.Value.int Go.IntKind.u8 1)),H))
 (some ((.s (Go.Value.int Go.IntKind.u8 0)),H))
def apy:Rn1 175 abH:=λ_ _ _ _ h=>
 rnG an0 Tryz.func175 Z Z  h
def aiG:Ann:=⟨[(4,[0,3,4])],[],[]⟩
def FC:=jf Tryz.prog Tryz.f176 17 aiG 0
def aiH(C:aA)(a0:AV)(H:ah):OA:=
 FC C [a0,(.s (Go.Value.slice none 0 0)),(I 56)] H
def WZ(C:aA)(t0 d b:AV)(H:ah):FC C [t0,d,b] H=
 bo (bi .geq 3 b (I 0)) λj=>
 aQ j
 (bo (bi .shr 3 t0 b) λe=>bnd (cv 3 5 e H) λg H=>bnd (bs 220 1 [(0,g)] H) λh H=>bnd (app 5 1 1 d h H) λi H=>
  bo (bi .sub 3 b (I 8)) λk=>
  FC C [t0,i,k] H)
 (some (d,H)):=
 lpE.trans Z
def apA:Rn1 176 aiH:=λ_ _ _ _ h=>
 rnG aiG Tryz.func176 Z Z  h
def aiI(C:aA)(a0:AV)(H:ah):OA:=
 bnd (C 212 [a0] H) λh H=>
 bo (bi .shr 42 h (.s (Go.Value.int Go.IntKind.u64 8))) λi=>bnd (cv 42 5 i H) λj H=>bnd (cv 42 5 h H) λb H=>bnd (bs 220 2 [(0,j),(1,b)] H) λd H=>bnd (bs 326 2 [(0,a0),(1,d)] H) λe H=>bnd (C 213 [e] H) λg H=>
 some (g,H)
def apB:Rn1 177 aiI:=λ_ _ _ _ h=>
 rnG an0 Tryz.func177 Z Z  h
def Xa(C:aA)(a0:AV)(H:ah):OA:=
 bnd (lnS a0 H) λq H=>bo (bi .sub 3 q (I 2)) λd=>
 bo (bi .lss 3 d (I 0)) λb=>gl b false (some a0) H λe H=>gl b false (some d) H λg H=>gl b false (slS 1 e none (some g) none) H λh H=>gdA (some b) false (C 177 [h] H) H λi H=>gl b false (some a0) H λj H=>gdA (some b) false (C 181 [i,j] H) H λk H=>gl b false (un .not k) H λm H=>bo (bJ b (B true) m) λn=>
 aQ n
 (some (.tup [(.s (Go.Value.slice none 0 0)),(B false)],H))
 (bo (slS 1 a0 none (some d) none) λo=>bnd (C 182 [o] H) λp H=>
  some (.tup [p,(B true)],H))
def abI:Rn1 178 Xa:=λ_ _ _ _ h=>
 rnG an0 Tryz.func178 Z Z  h
def Om(C:aA)(b d:AV)(H:ah):OA:=
 some ((.fn (.func 214) [] [b,d]),H)
def aiJ(C:aA)(a0 e:AV)(H:ah):OA:=
 bnd (fM 220 a0 H) λd H=>bnd (fM 3 e H) λb H=>
 bnd (ld b H) λg H=>bo (bi .lss 3 g (I 1)) λh=>
 aQ h
 (bnd (stk H) λi H=>bnd (stk H) λ_ H=>
  Om C d b H)
 (Om C d b H)
def apC:Rn2 179 aiJ:=λ_ _ _ _ _ h=>
 rnG an0 Tryz.func179 Z Z  h
def aiK:Ann:=⟨[(4,[3,6,7,8])],[],[]⟩
def FD:=jf Tryz.prog Tryz.f180 20 aiK 0
def aiL(C:aA)(a0:AV)(H:ah):OA:=
 bnd (lnS a0 H) λb H=>
 FD C [(.s (Go.Value.int Go.IntKind.u64 0)),a0,b,(I 0)] H
def Xb(C:aA)(d e g b:AV)(H:ah):FD C [d,e,g,b] H=
 bo (bi .lss 3 b g) λp=>
 aQ p
 (bnd (ix 1 e b H) λh H=>bnd (ld h H) λi H=>
  bo (bi .shl 262 d (.s (Go.Value.int Go.IntKind.u64 8))) λj=>bnd (cv 5 262 i H) λk H=>bo (bi .or 262 j k) λm=>
  bo (bi .add 3 b (I 1)) λn=>
  FD C [m,e,g,n] H)
 (bnd (cv 262 3 d H) λo H=>
  some (o,H)):=
 lpE.trans Z
def apD:Rn1 180 aiL:=λ_ _ _ _ h=>
 rnG aiK Tryz.func180 Z Z  h
def aiM(C:aA)(a0 b:AV)(H:ah):OA:=
 bnd (cv 220 9 a0 H) λd H=>bnd (cv 220 9 b H) λe H=>bo (bi .eql 9 d e) λg=>
 some (g,H)
def apE:Rn2 181 aiM:=λ_ _ _ _ _ h=>
 rnG an0 Tryz.func181 Z Z  h
def aiN(C:aA)(a0:AV)(H:ah):OA:=
 bo (bi .eql 220 a0 (.s (Go.Value.slice none 0 0))) λb=>
 aQ b
 (some ((.s (Go.Value.slice none 0 0)),H))
 (bnd (bs 220 0 [] H) λd H=>bnd (app 5 1 1 d a0 H) λe H=>
  some (e,H))
def apF:Rn1 182 aiN:=λ_ _ _ _ h=>
 rnG an0 Tryz.func182 Z Z  h
def abJ(C:aA)(a0 v w:AV)(H:ah):OA:=
 bnd (alc 81 [zI,zI,zI,zI,zI,zI,zI,zB,zN] H) λd H=>
 bnd (C 71 [a0,v] H) λe H=>bo (un .not e) λg=>
 aQ g
 (bo (bd 81 []) λh=>bnd (st 9 d h H) λ_ H=>
  bnd (lda 9 d H) λi _=>some (.tup [i,(B false)],H))
 (bo (ay a0) λj=>fld j 0 H λk H=>bnd (ix 4 k v H) λm H=>bnd (lda 4 m H) λn H=>bnd (C 91 [n,w] H) λo H=>bo (fl o 1) λp=>bnd (C 215 [p] H) λb H=>bo (aF b 0) λq=>bo (aF b 1) λu=>bnd (st 9 d q H) λ_ H=>
  bnd (lda 9 d H) λi _=>some (.tup [i,u],H))
def aiO:Rn3 183 abJ:=λ_ _ _ _ _ _ h=>
 rnG an0 Tryz.func183 Z Z  h
def I4(C:aA)(a0 W X a3:AV)(H:ah):OA:=
 bnd (fM 73 a0 H) λg H=>bnd (fM 81 a3 H) λk H=>bnd (alc 73 [zI,zI,zI,zI,zI,zI,zN,zI,zI] H) λd H=>
 fld g 0 H λm H=>bo (bi .neq 3 m (I 1)) λb=>gdA (some b) false (lda 9 g H) H λn H=>gdA (some b) false (lda 9 k H) H λo H=>gdA (some b) false (C 216 [n,o] H) H λp H=>gl b false (un .not p) H λq H=>bo (bJ b (B true) q) λu=>
 aQ u
 (bo (bd 73 []) λv=>bnd (st 9 d v H) λ_ H=>
  bnd (lda 9 d H) λe _=>some (.tup [e,(B false)],H))
 (fld g 3 H λh H=>
  bo (bi .eql 3 h (I 1)) λw=>
  aQ w
  (bnd (lda 9 g H) λy H=>bnd (lda 9 k H) λz H=>bnd (C 217 [y,W,X,z] H) λi H=>bo (aF i 0) λA=>bo (aF i 1) λD=>bnd (st 9 d A H) λ_ H=>
  bnd (lda 9 d H) λe _=>some (.tup [e,D],H))
  (bo (bi .eql 3 h (I 2)) λE=>
  aQ E
  (bnd (lda 9 g H) λF H=>bnd (lda 9 k H) λG H=>bnd (C 218 [F,W,X,G] H) λj H=>bo (aF j 0) λK=>bo (aF j 1) λL=>bnd (st 9 d K H) λ_ H=>
   bnd (lda 9 d H) λe _=>some (.tup [e,L],H))
  (bo (bi .eql 3 h (I 6)) λM=>
   aQ M
   (bo (au g 3) λQ=>bnd (st 1 Q (I 0) H) λ_ H=>
   bnd (lda 9 g H) λR H=>bnd (st 9 d R H) λ_ H=>
   bnd (lda 9 d H) λe _=>some (.tup [e,(B true)],H))
   (bo (bd 73 []) λT=>bnd (st 9 d T H) λ_ H=>
   bnd (lda 9 d H) λe _=>some (.tup [e,(B false)],H)))))
def apG:Rn4 184 I4:=λ_ _ _ _ _ _ _ h=>
 rnG an0 Tryz.func184 Z Z  h
def apH:Ann:=⟨[],[(6,rF 8 (some true::rF 8 []))],[(6,[(3,10),(5,10),(5,12)])]⟩
def FH(C:aA)(j k b i:AV)(H:ah):OA:=
 fld b 5 H λd H=>bo (au b 7) λe=>bnd (st 1 e d H) λ_ H=>
 bnd (lda 9 b H) λg H=>bnd (C 219 [g,j,k] H) λh H=>bnd (st 9 i h H) λ_ H=>
 bnd (lda 9 i H) λm _=>some (.tup [m,(B true)],H)
def FI(C:aA)(j k h m i:AV)(H:ah):OA:=
 fld m 5 H λb H=>bo (au h 7) λd=>bnd (st 1 d b H) λ_ H=>
 bnd (lda 9 h H) λe H=>bnd (C 219 [e,j,k] H) λg H=>bnd (st 9 i g H) λ_ H=>
 bnd (lda 9 i H) λn _=>some (.tup [n,(B true)],H)
def AY(C:aA)(a0 w m a3:AV)(H:ah):OA:=
 bnd (fM 73 a0 H) λb H=>bnd (fM 81 a3 H) λi H=>bnd (alc 73 [zI,zI,zI,zI,zI,zI,zN,zI,zI] H) λg H=>
 fld b 0 H λy H=>bo (bi .neq 3 y (I 2)) λe=>gdA (some e) false (lda 9 b H) H λz H=>gdA (some e) false (lda 9 i H) H λA H=>gdA (some e) false (C 216 [z,A] H) H λD H=>gl e false (un .not D) H λE H=>bo (bJ e (B true) E) λF=>
 aQ F
 (bo (bd 73 []) λG=>bnd (st 9 g G H) λ_ H=>
  bnd (lda 9 g H) λn _=>some (.tup [n,(B false)],H))
 (fld b 1 H λK H=>bnd (C 41 [m,K] H) λo H=>bo (aF o 0) λL=>bo (aF o 1) λp=>bnd (alc 100 [zI,zI,zI,zI,zB,zN] H) λq H=>bnd (st 6 q L H) λ_ H=>
  fld b 3 H λj H=>
  bo (bi .eql 3 j (I 1)) λM=>
  aQ M
  (fld i 6 H λQ H1=>bo (au i 5) λu=>bnd (ld u H1) λR H3=>bo (au i 5) λk=>bnd (ld k H3) λT H5=>fld i 8 H5 λW H7=>bnd (unG H7 (C 36 [W] H7.guard)) λX H8=>bo (au b 4) λaa=>bnd (st 1 aa Q H8) λ_ h=>bo (au b 5) λab=>bnd (st 1 ab R h) λ_ v=>bo (au b 8) λad=>bnd (st 1 ad T v) λ_ ae=>bo (au b 6) λaf=>bnd (st 1 af X ae) λ_ d=>ck (bQ u) H8 h <| ck (bQ k) H8 h <| ck (bQ k) h v <|
  aQ p
  (fld q 5 d λag d=>bo (au b 6) λai=>bnd (st 1 ai ag d) λ_ d=>
   FH C w m b g d)
  (FH C w m b g d))
  (bo (bi .eql 3 j (I 3)) λal=>
  aQ al
  (bo (un .not p) λam=>
   aQ am
   (fld i 8 H λao H=>bnd (C 36 [ao] H) λap H=>bo (au b 6) λaq=>bnd (st 1 aq ap H) λ_ H=>
   FI C w m b i g H)
   (FI C w m b i g H))
  (bo (bi .eql 3 j (I 6)) λar=>
   aQ ar
   (bo (au b 3) λaw=>bnd (st 1 aw (I 0) H) λ_ H=>
   bnd (lda 9 b H) λax H=>bnd (st 9 g ax H) λ_ H=>
   bnd (lda 9 g H) λn _=>some (.tup [n,(B true)],H))
   (bo (bd 73 []) λaz=>bnd (st 9 g az H) λ_ H=>
   bnd (lda 9 g H) λn _=>some (.tup [n,(B false)],H)))))
def apI:Rn4 185 AY:=λ_ _ _ _ _ _ _ h=>
 rnG apH Tryz.func185 Z Z  h
def yY(C:aA)(a0 a1 i a3:AV)(H:ah):OA:=
 bnd (fM 73 a0 H) λb H=>bnd (fM 81 a3 H) λv7 H=>bnd (alc 73 [zI,zI,zI,zI,zI,zI,zN,zI,zI] H) λd H=>
 fld b 0 H λj H=>bo (bi .neq 3 j (I 3)) λg=>gdA (some g) false (lda 9 b H) H λk H=>gdA (some g) false (lda 9 v7 H) H λm H=>gdA (some g) false (C 216 [k,m] H) H λn H=>gl g false (un .not n) H λo H=>bo (bJ g (B true) o) λp=>
 aQ p
 (bo (bd 73 []) λq=>bnd (st 9 d q H) λ_ H=>
  bnd (lda 9 d H) λe _=>some (.tup [e,(B false)],H))
 (fld b 3 H λh H=>
  bo (bi .eql 3 h (I 1)) λu=>
  aQ u
  (bnd (lda 9 b H) λv H=>bnd (lda 9 v7 H) λw H=>bnd (C 220 [v,i,w] H) λy H=>bnd (st 9 d y H) λ_ H=>
  bnd (lda 9 d H) λe _=>some (.tup [e,(B true)],H))
  (bo (bi .eql 3 h (I 4)) λz=>
  aQ z
  (fld b 7 H λA H=>bo (bi .eql 3 A (I (-1))) λD=>
   aQ D
   (bnd (lda 9 b H) λE H=>fld b 8 H λF H=>bnd (C 221 [E,i,F] H) λG H=>bnd (st 9 d G H) λ_ H=>
   bnd (lda 9 d H) λe _=>some (.tup [e,(B true)],H))
   (bo (au b 3) λK=>bnd (st 1 K (I 5) H) λ_ H=>
   bnd (lda 9 b H) λL H=>bnd (st 9 d L H) λ_ H=>
   bnd (lda 9 d H) λe _=>some (.tup [e,(B true)],H)))
  (bo (bi .eql 3 h (I 5)) λM=>
   aQ M
   (fld b 5 H λQ H=>bo (bi .eql 3 Q (I (-1))) λR=>
   aQ R
   (bnd (lda 9 b H) λT H=>fld b 7 H λW H=>bnd (C 221 [T,i,W] H) λX H=>bnd (st 9 d X H) λ_ H=>
    bnd (lda 9 d H) λe _=>some (.tup [e,(B true)],H))
   (bnd (lda 9 b H) λaa H=>fld b 8 H λab H=>bnd (C 221 [aa,i,ab] H) λad H=>bnd (st 9 d ad H) λ_ H=>
    bnd (lda 9 d H) λe _=>some (.tup [e,(B true)],H)))
   (bo (bi .eql 3 h (I 6)) λae=>
   aQ ae
   (bo (au b 3) λaf=>bnd (st 1 af (I 0) H) λ_ H=>
    bnd (lda 9 b H) λag H=>bnd (st 9 d ag H) λ_ H=>
    bnd (lda 9 d H) λe _=>some (.tup [e,(B true)],H))
   (bo (bd 73 []) λai=>bnd (st 9 d ai H) λ_ H=>
    bnd (lda 9 d H) λe _=>some (.tup [e,(B false)],H))))))
def apJ:Rn4 186 yY:=λ_ _ _ _ _ _ _ h=>
 rnG an0 Tryz.func186 Z Z  h
def abK(C:aA)(a0 m:AV)(H:ah):OA:=
 bo (ay a0) λn=>fld n 2 H λo H=>bo (un .not o) λp=>
 aQ p
 (some ((I 6),H))
 (bo (ay a0) λb=>fld b 1 H λd H=>bnd (bs 22 1 [(0,m)] H) λe H=>bnd (app 3 1 8 d e H) λg H=>bo (ay a0) λh=>bo (au h 1) λi=>bnd (st 1 i g H) λ_ H=>bo (ay a0) λj=>bo (au j 2) λk=>bnd (st 1 k (B false) H) λ_ H=>
  some ((I 0),H))
def aiP:Rn2 187 abK:=λ_ _ _ _ _ h=>
 rnG an0 Tryz.func187 Z Z  h
def aiQ(C:aA)(a0 k m n:AV)(H:ah):OA:=
 bo (ay a0) λb=>fld b 0 H λd H=>bo (bd 184 [(0,k),(1,m),(2,(B true)),(3,n)]) λe=>bnd (bs 123 1 [(0,e)] H) λg H=>bnd (app 184 4 32 d g H) λh H=>bo (ay a0) λi=>bo (au i 0) λj=>bnd (st 1 j h H) λ_ H=>
 some (.tup [],H)
def apK:Rn4 188 aiQ:=λ_ _ _ _ _ _ _ h=>
 rnG an0 Tryz.func188 Z Z  h
def abL(C:aA)(a0 g:AV)(H:ah):OA:=
 bnd (fM 100 a0 H) λh H=>
 bnd (lda 6 h H) λi H=>bnd (C 222 [i,g] H) λj H=>bo (un .not j) λk=>
 aQ k
 (some ((I 0),H))
 (fld h 5 H λb H=>bnd (ix 1 b g H) λd H=>bnd (ld d H) λe H=>
  some (e,H))
def apL:Rn2 189 abL:=λ_ _ _ _ _ h=>
 rnG an0 Tryz.func189 Z Z  h
def Xc(C:aA)(a0 z A:AV)(H:ah):OA:=
 bo (ay a0) λD=>fld D 4 H λd H=>bo (un .not d) λb=>gl b false (some a0) H λe H=>gl b false (ay e) H λg H=>gdA (some b) false (lda 6 g H) H λh H=>gl b false (some z) H λi H=>gdA (some b) false (C 222 [h,i] H) H λj H=>gl b false (un .not j) H λk H=>bo (bJ b (B true) k) λm=>
 aQ m
 (some ((B false),H))
 (bo (ay a0) λn=>fld n 5 H λo H=>bnd (C 36 [o] H) λp H=>bo (ay a0) λq=>bo (au q 5) λu=>bnd (st 1 u p H) λ_ H=>
  bo (ay a0) λv=>fld v 5 H λw H=>bnd (ix 1 w z H) λy H=>bnd (st 1 y A H) λ_ H=>
  some ((B true),H))
def abM:Rn3 190 Xc:=λ_ _ _ _ _ _ h=>
 rnG an0 Tryz.func190 Z Z  h
def apM:Ann:=⟨[],[(7,rF 8 []),(13,rF 11 [])],[]⟩
def QV(C:aA)(a0 a1:AV)(H:ah):OA:=
 bnd (fM 100 a1 H) λb H=>
 bnd (lda 6 b H) λv6 H=>bnd (C 83 [v6] H) λv7 H=>bnd (st 6 b v7 H) λ_ H=>
 fld b 2 H λv9 H=>bo (bi .lss 3 v9 (I 0)) λe=>
 aQ e
 (some ((I 1),H))
 (fld b 2 H λg H=>bnd (C 82 [a0,g] H) λd H=>
  bo (bi .geq 3 d (I 0)) λh=>
  aQ h
  (bo (ay a0) λi=>fld i 0 H λj H=>bnd (ix 6 j d H) λk H=>fld k 3 H λm H=>bo (au b 3) λn=>bnd (st 1 n m H) λ_ H=>
  bo (ay a0) λo=>fld o 0 H λp H=>bnd (lda 6 b H) λq H=>bnd (ix 6 p d H) λu H=>bnd (st 6 u q H) λ_ H=>
  some ((I 0),H))
  (fld b 2 H λv H=>bnd (C 151 [a0,v] H) λw H=>
  aQ w
  (some ((I 5),H))
  (bo (ay a0) λy=>fld y 3 H λz H=>bo (bi .add 3 z (I 1)) λA=>bo (ay a0) λD=>bo (au D 3) λE=>bnd (st 1 E A H) λ_ H=>
   bo (ay a0) λF=>fld F 3 H λG H=>bo (au b 3) λK=>bnd (st 1 K G H) λ_ H=>
   bo (ay a0) λL=>fld L 0 H λM H=>bnd (lda 6 b H) λQ H=>bnd (bs 111 1 [(0,Q)] H) λR H=>bnd (app 100 6 64 M R H) λT H=>bo (ay a0) λW=>bo (au W 0) λX=>bnd (st 1 X T H) λ_ H=>
   some ((I 0),H))))
def apN:Rn2 191 QV:=λ_ _ _ _ _ h=>
 rnG apM Tryz.func191 Z Z  h
def apO:Ann:=⟨[],[(1,some false::some false::some true::rF 7 (none::some false::[])),(11,rF 8 []),(13,rF 8 []),(15,rF 10 (some true::rF 8 []))],[(11,[(3,5)]),(13,[(3,5)]),(15,[(3,12),(5,12),(5,14),(6,12),(6,14)])]⟩
def oO(C:aA)(d e:AV)(H:ah):OA:=
 bnd (lda 9 e H) λb H=>bnd (st 9 d b H) λ_ H=>
 bnd (lda 9 d H) λg _=>some (g,H)
def Ee(C:aA)(a0 a1 a2:AV)(H:ah):OA:=
 bnd (fM 73 a0 H) λd H=>bnd (alc 81 [zI,zI,zI,zI,zI,zI,zI,zB,zN] H) λh H=>
 bnd (alc 81 [zI,zI,zI,zI,zI,zI,zI,zB,zN] H) λb H=>fld d 3 H λv9 H=>bnd (unG H (C 223 [v9] H.guard)) λv H=>fld d 2 H λw H=>fld d 1 H λy H=>bo (bd 81 [(0,v),(1,a1),(2,a2),(3,w),(4,y)]) λz=>bnd (st 9 b z H) λ_ H=>
 fld d 3 H λe H=>
 bo (bi .eql 3 e (I 1)) λA=>
 aQ A
 (bnd (lda 9 b H) λD H=>bnd (st 9 h D H) λ_ H=>
  bnd (lda 9 h H) λE _=>some (E,H))
 (bo (bi .eql 3 e (I 2)) λF=>
  aQ F
  (fld d 5 H λG H=>bo (au b 2) λK=>bnd (st 1 K G H) λ_ H=>bo (au b 5) λL=>bnd (st 1 L a1 H) λ_ H=>
  oO C h b H)
  (bo (bi .eql 3 e (I 3)) λM=>
  aQ M
  (fld d 7 H λQ H=>bo (au b 2) λR=>bnd (st 1 R Q H) λ_ H=>
   oO C h b H)
  (bo (bi .eql 3 e (I 4)) λT=>
   aQ T
   (fld d 5 H λW H1=>bo (au d 7) λn=>bnd (ld n H1) λX H3=>bo (au b 2) λaa=>bnd (st 1 aa W H3) λ_ H5=>bo (au b 5) λab=>bnd (st 1 ab X H5) λ_ H7=>ck (bQ n) H3 H5 <|
   oO C h b H7)
   (bo (bi .eql 3 e (I 5)) λad=>
   aQ ad
   (fld d 7 H λae af=>bo (au d 5) λo=>bnd (ld o af) λag p=>bo (au b 2) λai=>bnd (st 1 ai ae p) λ_ q=>bo (au b 5) λal=>bnd (st 1 al ag q) λ_ am=>ck (bQ o) p q <|
    oO C h b am)
   (bo (bi .eql 3 e (I 6)) λao=>
    aQ ao
    (fld d 4 H λap aq=>bo (au d 5) λu=>bnd (ld u aq) λar aw=>bo (au d 6) λj=>bnd (ld j aw) λk ax=>bnd (lnS k ax) λaz aD=>bo (bi .gtr 3 az (I 0)) λaE=>bo (au d 6) λaL=>bnd (ld aL aD) λaM H9=>bnd (unG H9 (C 36 [aM] H9.guard)) λaR i=>bo (au b 6) λa3=>bnd (st 1 a3 ap i) λ_ g=>bo (au b 5) λa4=>bnd (st 1 a4 ar g) λ_ m=>bo (au b 7) λa5=>bnd (st 1 a5 aE m) λ_ a6=>bo (au b 8) λa7=>bnd (st 1 a7 aR a6) λ_ a8=>ck (bQ u) i g <| ck (bQ j) i g <| ck (bQ j) g m <| ck (bQ k) i g <| ck (bQ k) g m <|
    oO C h b a8)
    (bo (bd 81 []) λa9=>bnd (st 9 h a9 H) λ_ H=>
    bnd (lda 9 h H) λE _=>some (E,H)))))))
def apP:Rn3 192 Ee:=λ_ _ _ _ _ _ h=>
 rnG apO Tryz.func192 Z Z  h
def aiR:Ann:=⟨[(4,[0,3,11,12,13])],[],[]⟩
def FK:=jf Tryz.prog Tryz.f193 33 aiR 0
def AZ(C:aA)(t0 h b d e:AV)(H:ah):OA:=
 bo (bi .add 3 e (I 1)) λg=>
 FK C [t0,h,b,d,g] H
def aiS(C:aA)(a0:AV)(H:ah):OA:=
 bo (ay a0) λg=>fld g 1 H λh H=>bnd (C 224 [h] H) λd H=>bnd (C 45 [d] H) λb H=>bnd (lnS b H) λe H=>
 FK C [a0,(.s (Go.Value.slice none 0 0)),b,e,(I 0)] H
def Xd(C:aA)(t0 i e g b:AV)(H:ah):FK C [t0,i,e,g,b] H=
 bo (bi .lss 3 b g) λj=>
 aQ j
 (bnd (ix 1 e b H) λk H=>bnd (ld k H) λh H=>
  bnd (C 225 [t0,h] H) λm H=>bo (un .not m) λd=>gl d true (some t0) H λn H=>gl d true (some h) H λo H=>gdA (some d) true (C 226 [n,o] H) H λp H=>gl d true (bi .gtr 3 p (I 0)) H λq H=>bo (bJ d q (B false)) λu=>
  aQ u
  (bnd (bs 22 1 [(0,h)] H) λv H=>bnd (app 3 1 8 i v H) λw H=>
  AZ C t0 w e g b H)
  (AZ C t0 i e g b H))
 (some (i,H)):=
 lpE.trans Z
def apQ:Rn1 193 aiS:=λ_ _ _ _ h=>
 rnG aiR Tryz.func193 Z Z  h
def apR:Ann:=⟨[],[(1,rF 11 [])],[]⟩
def aiT(C:aA)(a0:AV)(H:ah):OA:=
 bo (ay a0) λg=>fld g 1 H λh H=>bo (ay a0) λi=>fld i 0 H λb H=>bnd (lnS b H) λd H=>bo (bi .sub 3 h d) λe=>
 some (e,H)
def apS:Rn1 194 aiT:=λ_ _ _ _ h=>
 rnG apR Tryz.func194 Z Z  h
def apT:Ann:=⟨[],[(4,rF 13 []),(5,rF 8 []),(6,rF 7 [])],[]⟩
def Xe(C:aA)(a0 d:AV)(H:ah):OA:=
 bnd (C 225 [a0,d] H) λb H=>gl b false (some a0) H λg H=>gl b false (some d) H λh H=>gdA (some b) false (C 226 [g,h] H) H λi H=>gl b false (bi .eql 3 i (I 0)) H λj H=>bo (bJ b (B true) j) λk=>
 aQ k
 (some (.tup [(I 0),(I 0),(B false)],H))
 (bo (ay a0) λm=>fld m 1 H λn H=>bnd (lk .i64 (.slice none 0 0) n d false H) λo H=>bnd (ix 2 o (I 0) H) λp H=>bnd (lda 2 p H) λq H=>bnd (alc 322 [zI,zI] H) λe H=>bnd (st 2 e q H) λ_ H=>
  bo (ay a0) λu=>fld u 1 H λv H=>bo (ay a0) λw=>fld w 1 H λy H=>bnd (lk .i64 (.slice none 0 0) y d false H) λz H=>bo (slS 2 z (some (I 1)) none none) λA=>bnd (mup .i64 v d A H) λ_ H=>
  bo (ay a0) λD=>fld D 0 H λE H=>fld e 0 H λF H=>bnd (mup .i64 E d F H) λ_ H=>
  fld e 0 H λG H=>fld e 1 H λK H=>
  some (.tup [G,K,(B true)],H))
def apU:Rn2 195 Xe:=λ_ _ _ _ _ h=>
 rnG apT Tryz.func195 Z Z  h
def apV:Ann:=⟨[],[(2,rF 15 [])],[]⟩
def aiU(C:aA)(a0 p u v:AV)(H:ah):OA:=
 bnd (alc 81 [zI,zI,zI,zI,zI,zI,zI,zB,zN] H) λq H=>
 bo (ay a0) λe=>fld e 0 H λg H=>bnd (C 124 [g,p] H) λb H=>bo (aF b 0) λh=>bo (aF b 1) λw=>bnd (alc 95 [zI,zI,zN] H) λd H=>bnd (st 3 d h H) λ_ H=>
 bo (ay a0) λi=>fld i 10 H λj H=>fld d 0 H λk H=>fld d 1 H λm H=>fld d 2 H λn H=>bo (bd 81 [(0,(I 7)),(1,j),(2,u),(3,v),(4,p),(6,k),(5,m),(8,n)]) λo=>bnd (st 9 q o H) λ_ H=>
 bnd (lda 9 q H) λy _=>some (y,H)
def apW:Rn4 196 aiU:=λ_ _ _ _ _ _ _ h=>
 rnG apV Tryz.func196 Z Z  h
def apX:Ann:=⟨[],[(3,rF 6 (some true::rF 5 []))],[]⟩
def abN(C:aA)(a0 m:AV)(H:ah):OA:=
 bnd (fM 81 m H) λn H=>
 bnd (C 194 [a0] H) λo H=>bo (bi .eql 3 o (I 0)) λp=>
 aQ p
 (some ((I 5),H))
 (bo (ay a0) λb=>fld b 0 H λd H=>bnd (lda 9 n H) λe H=>bnd (unG H (C 116 [e] H.guard)) λg H=>bnd (bs 175 1 [(0,g)] H) λh H=>bnd (app 81 9 88 d h H) λi H=>bo (ay a0) λj=>bo (au j 0) λk=>bnd (st 1 k i H) λ_ H=>
  some ((I 0),H))
def aiV:Rn2 197 abN:=λ_ _ _ _ _ h=>
 rnG apX Tryz.func197 Z Z  h
def apY:Ann:=⟨[],[(1,rF 23 []),(4,rF 6 (some true::rF 15 [])),(7,rF 12 []),(13,rF 14 [])],[]⟩
def uo(C:aA)(a0 a1:AV)(H:ah):OA:=
 bnd (fM 81 a1 H) λe H=>bnd (alc 81 [zI,zI,zI,zI,zI,zI,zI,zB,zN] H) λi H=>
 bnd (lda 9 e H) λv9 H=>bnd (C 174 [v9] H) λp H=>bo (bi .eql 57 p (I 0)) λg=>gl g true (au e 2) H λq H=>gdA (some g) true (ld q H) H λu H=>gl g true (some a0) H λv H=>gl g true (ay v) H λw H=>gl g true (au w 10) H λy H=>gdA (some g) true (ld y H) H λz H=>gl g true (bi .eql 3 u z) H λA H=>bo (bJ g A (B false)) λb=>gl b true (au e 1) H λD H=>gdA (some b) true (ld D H) H λE H=>gl b true (some a0) H λF H=>gl b true (ay F) H λG H=>gl b true (au G 2) H λK H=>gl b true (au K 0) H λL H=>gdA (some b) true (ld L H) H λM H=>gl b true (bi .lss 3 E M) H λQ H=>bo (bJ b Q (B false)) λR=>
 bo (un .not R) λh=>gl h false (au e 0) H λT H=>gdA (some h) false (ld T H) H λW H=>gl h false (bi .neq 3 W (I 1)) H λX H=>gl h false (some X) H λk H=>gl k true (au e 0) H λaa H=>gdA (some k) true (ld aa H) H λab H=>gl k true (bi .neq 3 ab (I 2)) H λad H=>gl h false (bJ k ad (B false)) H λae H=>bo (bJ h (B true) ae) λaf=>
 aQ af
 (bo (bd 81 []) λag=>bnd (st 9 i ag H) λ_ H=>
  bnd (lda 9 i H) λj _=>some (.tup [j,(B false),(I 1)],H))
 (bo (ay a0) λai=>bo (au ai 2) λal=>bnd (lda 8 al H) λam H=>fld e 4 H λao H=>bnd (unG H (C 42 [am,ao] H.guard)) λap H=>bo (ay a0) λaq=>fld aq 10 H λar H=>bo (bi .neq 3 ap ar) λd=>gl d false (au e 4) H λaw H=>gdA (some d) false (ld aw H) H λax H=>gl d false (some a0) H λaz H=>gl d false (ay az) H λaD H=>gl d false (au aD 2) H λaE H=>gl d false (au aE 1) H λaL H=>gdA (some d) false (ld aL H) H λaM H=>gl d false (bi .geq 3 ax aM) H λaR H=>bo (bJ d (B true) aR) λa2=>
  aQ a2
  (bo (bd 81 []) λa3=>bnd (st 9 i a3 H) λ_ H=>
  bnd (lda 9 i H) λj _=>some (.tup [j,(B false),(I 3)],H))
  (fld e 0 H λa4 H=>bo (bi .eql 3 a4 (I 1)) λa5=>
  aQ a5
  (bo (ay a0) λa6=>fld a6 1 H λa7 H=>fld e 4 H λa8 H=>fld e 1 H λa9 H=>fld e 3 H λba H=>bnd (C 227 [a7,a8,a9,ba] H) λbb H=>bo (un .not bb) λbc=>
   aQ bc
   (bo (bd 81 []) λbe=>bnd (st 9 i be H) λ_ H=>
   bnd (lda 9 i H) λj _=>some (.tup [j,(B false),(I 0)],H))
   (fld e 4 H λbh H=>fld e 1 H λbj H=>fld e 3 H λbk H=>bnd (C 196 [a0,bh,bj,bk] H) λbl H=>bnd (st 9 i bl H) λ_ H=>
   bnd (lda 9 i H) λj _=>some (.tup [j,(B true),(I 0)],H)))
  (bnd (lda 9 e H) λbm H=>bnd (C 228 [a0,bm] H) λm H=>
   bo (bi .neq 57 m (I 0)) λbp=>
   aQ bp
   (bo (bd 81 []) λbq=>bnd (st 9 i bq H) λ_ H=>
   bnd (lda 9 i H) λj _=>some (.tup [j,(B false),m],H))
   (bo (ay a0) λbr=>fld br 10 H λZG H=>fld e 1 H λbt H=>fld e 3 H λn H=>fld e 4 H λo H=>bo (bd 81 [(0,(I 8)),(1,ZG),(2,bt),(3,n),(4,o)]) λbu=>bnd (st 9 i bu H) λ_ H=>
   bnd (lda 9 i H) λj _=>some (.tup [j,(B true),(I 0)],H)))))
def apZ:Rn2 198 uo:=λ_ _ _ _ _ h=>
 rnG apY Tryz.func198 Z Z  h
def ap0:Ann:=⟨[],[(6,some false::some false::some true::rF 9 (none::some false::[])),(9,rF 8 []),(17,rF 13 []),(20,rF 6 [])],[(9,[(3,5)]),(17,[(3,8),(6,8),(6,10)]),(20,[(0,3)])]⟩
def yh(C:aA)(t0 g m h:AV)(H:ah):OA:=
 bnd (lda 9 h H) λb H0=>bnd (lda 6 m H0) λd i=>bnd (C 191 [t0,d] i) λe j=>bnd (st 9 g b j) λ_ k=>ck (bQ h) i j <|
 bnd (lda 9 g k) λn _=>some (.tup [n,e],k)
def A8(C:aA)(a0 a1:AV)(H:ah):OA:=
 bnd (fM 81 a1 H) λd H=>bnd (alc 81 [zI,zI,zI,zI,zI,zI,zI,zB,zN] H) λh H=>
 bnd (lda 9 d H) λv9 H=>bnd (C 174 [v9] H) λz H=>bo (bi .neq 57 z (I 0)) λi=>gl i false (au d 0) H λA H=>gdA (some i) false (ld A H) H λD H=>gl i false (bi .lss 3 D (I 3)) H λE H=>bo (bJ i (B true) E) λj=>gl j false (au d 0) H λF H=>gdA (some j) false (ld F H) H λG H=>gl j false (bi .gtr 3 G (I 6)) H λK H=>bo (bJ j (B true) K) λL=>
 aQ L
 (bo (bd 81 []) λM=>bnd (st 9 h M H) λ_ H=>
  bnd (lda 9 h H) λp _=>some (.tup [p,(I 1)],H))
 (fld d 4 H λQ H=>bnd (C 41 [a0,Q] H) λq H=>bo (aF q 0) λR=>bo (aF q 1) λT=>bnd (alc 100 [zI,zI,zI,zI,zB,zN] H) λe H=>bnd (st 6 e R H) λ_ H=>
  bo (un .not T) λW=>
  aQ W
  (bo (bd 81 []) λX=>bnd (st 9 h X H) λ_ H=>
  bnd (lda 9 h H) λp _=>some (.tup [p,(I 3)],H))
  (bnd (alc 81 [zI,zI,zI,zI,zI,zI,zI,zB,zN] H) λg H=>fld d 0 H λaa H=>bnd (unG H (C 229 [aa] H.guard)) λab H=>fld d 2 H λad H=>fld d 1 H λae H=>fld d 3 H λaf H=>fld d 4 H λag H=>bo (bd 81 [(0,ab),(1,ad),(2,ae),(3,af),(4,ag)]) λai=>bnd (st 9 g ai H) λ_ H=>
  fld d 0 H λk H=>
  bo (bi .eql 3 k (I 3)) λal=>
  aQ al
  (fld e 5 H λam H1=>bo (au e 4) λu=>bnd (ld u H1) λao H3=>bo (au g 8) λap=>bnd (st 1 ap am H3) λ_ H5=>bo (au g 7) λaq=>bnd (st 1 aq ao H5) λ_ m=>ck (bQ u) H3 H5 <|
   bo (au e 4) λar=>bnd (st 1 ar (B false) m) λ_ m=>
   bo (au e 0) λaw=>fld d 5 m λax m=>bnd (C 230 [aw,ax] m) λbh m=>
   yh C a0 h e g m)
  (bo (bi .eql 3 k (I 4)) λaz=>
   aQ az
   (bo (au e 0) λaD=>fld d 5 H λaE H=>bnd (C 231 [aD,aE] H) λbj H=>
   yh C a0 h e g H)
   (bo (bi .eql 3 k (I 5)) λaL=>
   aQ aL
   (bo (au e 0) λaM=>fld d 5 H λaR H=>bnd (C 230 [aM,aR] H) λbk H=>
    yh C a0 h e g H)
   (bo (bi .eql 3 k (I 6)) λa2=>
    aQ a2
    (fld e 5 H λa3 a4=>bo (au e 4) λv=>bnd (ld v a4) λa5 a6=>bo (au e 0) λa7=>bo (au a7 0) λn=>bnd (ld n a6) λa8 o=>bo (au g 8) λa9=>bnd (st 1 a9 a3 o) λ_ y=>bo (au g 7) λba=>bnd (st 1 ba a5 y) λ_ w=>bo (au g 5) λbb=>bnd (st 1 bb a8 w) λ_ b=>ck (bQ v) o y <| ck (bQ n) o y <| ck (bQ n) y w <|
    fld d 4 b λbc b=>bnd (C 232 [a0,bc] b) λbl b=>
    bnd (lda 9 g b) λbe b=>bnd (st 9 h be b) λ_ b=>
    bnd (lda 9 h b) λp _=>some (.tup [p,(I 0)],b))
    (yh C a0 h e g H))))))
def aiW:Rn2 199 A8:=λ_ _ _ _ _ h=>
 rnG ap0 Tryz.func199 Z Z  h
def aiX(C:aA)(a0 e g:AV)(H:ah):OA:=
 bnd (alc 73 [zI,zI,zI,zI,zI,zI,zN,zI,zI] H) λd H=>
 bo (bd 73 [(0,a0),(1,e),(2,g),(3,(I 1)),(5,(I (-1))),(7,(I (-1))),(8,(I (-1)))]) λb=>bnd (st 9 d b H) λ_ H=>
 bnd (lda 9 d H) λh _=>some (h,H)
def ap2:Rn3 200 aiX:=λ_ _ _ _ _ _ h=>
 rnG an0 Tryz.func200 Z Z  h
def aiY:Ann:=⟨[(4,[0,1,5,11,12,13])],[(5,rF 18 [])],[]⟩
def FM:=jf Tryz.prog Tryz.f201 41 aiY 0
def Ba(C:aA)(t0 h i b d e:AV)(H:ah):OA:=
 bo (bi .add 3 e (I 1)) λg=>
 FM C [t0,h,i,b,d,g] H
def aiZ(C:aA)(a0 e:AV)(H:ah):OA:=
 bo (ay a0) λg=>fld g 0 H λb H=>bnd (lnS b H) λd H=>
 FM C [a0,e,(.s (Go.Value.slice none 0 0)),b,d,(I 0)] H
def Xf(C:aA)(t0 h i e g d:AV)(H:ah):FM C [t0,h,i,e,g,d] H=
 bo (bi .lss 3 d g) λj=>
 aQ j
 (bnd (ix 6 e d H) λk H=>bnd (lda 6 k H) λm H=>bnd (alc 100 [zI,zI,zI,zI,zB,zN] H) λn H=>bnd (st 6 n m H) λ_ H=>
  bo (bi .geq 3 h (I 0)) λb=>gl b true (au n 2) H λo H=>gdA (some b) true (ld o H) H λp H=>gl b true (some t0) H λq H=>gl b true (ay q) H λu H=>gl b true (au u 1) H λv H=>gdA (some b) true (ld v H) H λw H=>gl b true (bi .rem 3 p w) H λy H=>gl b true (some h) H λz H=>gl b true (some t0) H λA H=>gl b true (ay A) H λD H=>gl b true (au D 1) H λE H=>gdA (some b) true (ld E H) H λF H=>gl b true (bi .rem 3 z F) H λG H=>gl b true (bi .eql 3 y G) H λK H=>bo (bJ b K (B false)) λL=>
  aQ L
  (bnd (lda 6 n H) λM H=>bnd (bs 111 1 [(0,M)] H) λQ H=>bnd (app 100 6 64 i Q H) λR H=>
  Ba C t0 h R e g d H)
  (Ba C t0 h i e g d H))
 (some (i,H)):=
 lpE.trans Z
def ap3:Rn2 201 aiZ:=λ_ _ _ _ _ h=>
 rnG aiY Tryz.func201 Z Z  h
def ai0:Ann:=⟨[(6,[0,1,4,5,6])],[(7,rF 8 [])],[]⟩
def FN:=jf Tryz.prog Tryz.f202 33 ai0 0
def Oo(C:aA)(t0 g h:AV)(H:ah):OA:=
 bnd (ix 6 t0 (I 0) H) λb H=>bnd (lda 6 b H) λd H=>bnd (alc 100 [zI,zI,zI,zI,zB,zN] H) λe H=>bnd (st 6 e d H) λ_ H=>
 FN C [t0,g,h,e,(I 1)] H
def FP(C:aA)(t0 d e g h:AV)(H:ah):OA:=
 bo (bi .add 3 h (I 1)) λb=>
 FN C [t0,d,e,g,b] H
def ai1(C:aA)(a0 b:AV)(H:ah):OA:=
 bnd (alc 100 [zI,zI,zI,zI,zB,zN] H) λd H=>
 bnd (lnS a0 H) λe H=>bo (bi .lss 3 e (I 1)) λg=>
 aQ g
 (bnd (stk H) λh H=>bnd (stk H) λ_ H=>
  Oo C a0 b d H)
 (Oo C a0 b d H)
def Xg(C:aA)(t0 g e b d:AV)(H:ah):FN C [t0,g,e,b,d] H=
 bnd (lnS t0 H) λh H=>bo (bi .lss 3 d h) λi=>
 aQ i
 (bnd (ix 6 t0 d H) λj H=>bnd (lda 6 j H) λk H=>bnd (lda 6 b H) λm H=>bnd (qo Tryz.prog C g [k,m] H) λn H=>bo (bi .lss 3 n (I 0)) λo=>
  aQ o
  (bnd (ix 6 t0 d H) λp H=>bnd (lda 6 p H) λq H=>bnd (st 6 b q H) λ_ H=>
  FP C t0 g e b d H)
  (FP C t0 g e b d H))
 (bnd (lda 6 b H) λu H=>bnd (st 6 e u H) λ_ H=>
  bnd (lda 6 e H) λv _=>some (v,H)):=
 lpE.trans Z
def ap4:Rn2 202 ai1:=λ_ _ _ _ _ h=>
 rnG ai0 Tryz.func202 Z Z  h
def ai2(C:aA)(a0 b:AV)(H:ah):OA:=
 bnd (fM 100 a0 H) λd H=>bnd (fM 100 b H) λe H=>
 fld d 3 H λg H=>fld e 3 H λh H=>bo (bi .sub 3 g h) λi=>
 some (i,H)
def ap5:Rn2 203 ai2:=λ_ _ _ _ _ h=>
 rnG an0 Tryz.func203 Z Z  h
def ai3(C:aA)(a0 h:AV)(H:ah):OA:=
 bnd (fM 31 a0 H) λb H=>
 bo (bi .lss 3 h (I 0)) λd=>gl d false (some h) H λi H=>gl d false (au b 1) H λj H=>gdA (some d) false (ld j H) H λk H=>gl d false (bi .geq 3 i k) H λm H=>bo (bJ d (B true) m) λn=>
 aQ n
 (some ((.s (Go.Value.slice none 0 0)),H))
 (fld b 2 H λe H=>bnd (mks 3 1 8 [zI] e e H) λg H=>
  fld b 2 H λo H=>bo (bi .mul 3 h o) λp=>fld b 7 H λq H=>bnd (lnS q H) λu H=>bnd (fQ (kF Tryz.prog false #[3,3] 3 [p,u]) H) λv H=>
  fld b 7 H λw H=>bo (slS 1 w (some v) none none) λy=>bnd (cpy 1 g y H) λz H=>
  some (g,H))
def ap6:Rn2 204 ai3:=λ_ _ _ _ _ h=>
 rnG an0 Tryz.func204 Z Z  h
def QW(C:aA)(a0 i j:AV)(H:ah):OA:=
 bo (bi .geq 3 a0 i) λb=>gl b true (some a0) H λd H=>gl b true (some j) H λe H=>gl b true (bi .lss 3 d e) H λg H=>bo (bJ b g (B false)) λh=>
 some (h,H)
def ai4:Rn3 211 QW:=λ_ _ _ _ _ _ h=>
 rnG an0 Tryz.func211 Z Z  h
def abO:Ann:=⟨[(4,[3,7,8,9]),(8,[3,7,8,9,18])],[],[]⟩
def Bc:=jf Tryz.prog Tryz.f212 30 abO 0
def FQ:=jf Tryz.prog Tryz.f212 30 abO 1
def ai5(C:aA)(a0:AV)(H:ah):OA:=
 bnd (lnS a0 H) λb H=>
 Bc C [(.s (Go.Value.int Go.IntKind.u16 65535)),a0,b,(I 0)] H
def Xh(C:aA)(d e g b:AV)(H:ah):Bc C [d,e,g,b] H=
 bo (bi .lss 3 b g) λh=>
 aQ h
 (bnd (ix 1 e b H) λi H=>bnd (ld i H) λj H=>
  bnd (cv 5 42 j H) λk H=>bo (bi .shl 42 k (.s (Go.Value.int Go.IntKind.u64 8))) λm=>bo (bi .xor 42 d m) λn=>
  FQ C [n,e,g,b,(I 0)] H)
 (some (d,H)):=
 lpE.trans Z
def Xi(C:aA)(d e g h b:AV)(H:ah):FQ C [d,e,g,h,b] H=
 bo (bi .lss 3 b (I 8)) λi=>
 aQ i
 (bo (bi .shr 42 d (.s (Go.Value.int Go.IntKind.u64 15))) λj=>
  bo (bi .shl 42 d (.s (Go.Value.int Go.IntKind.u64 1))) λk=>bo (bi .mul 42 j (.s (Go.Value.int Go.IntKind.u16 4129))) λm=>bo (bi .xor 42 k m) λn=>
  bo (bi .add 3 b (I 1)) λo=>
  FQ C [n,e,g,h,o] H)
 (bo (bi .add 3 h (I 1)) λp=>
  Bc C [d,e,g,p] H):=
 lpE.trans Z
def ap7:Rn1 212 ai5:=λ_ _ _ _ h=>
 rnG abO Tryz.func212 Z Z  h
def abP:Ann:=⟨[(4,[0,3,9,10,11]),(12,[6,25,26,27])],[],[]⟩
def Oq:=jf Tryz.prog Tryz.f213 36 abP 0
def Ot:=jf Tryz.prog Tryz.f213 36 abP 1
def FT(C:aA)(t0 g h b d:AV)(H:ah):OA:=
 bo (bi .add 3 d (I 1)) λe=>
 Oq C [t0,g,h,b,e] H
def ai6(C:aA)(a0:AV)(H:ah):OA:=
 bnd (lnS a0 H) λb H=>
 Oq C [a0,(I 0),a0,b,(I 0)] H
def Ou(C:aA)(t0 h g d b:AV)(H:ah):Oq C [t0,h,g,d,b] H=
 bo (bi .lss 3 b d) λi=>
 aQ i
 (bnd (ix 1 g b H) λj H=>bnd (ld j H) λk H=>
  bnd (lnS k H) λm H=>bo (bi .add 3 h m) λe=>
  bo (bi .lss 3 e (I 0)) λn=>
  aQ n
  (bnd (stk H) λq H=>bnd (stk H) λ_ H=>
  FT C t0 e g d b H)
  (FT C t0 e g d b H))
 (bnd (C 234 [(.s (Go.Value.slice none 0 0)),h] H) λo H=>
  bnd (lnS t0 H) λp H=>
  Ot C [o,t0,p,(I 0)] H):=
 lpE.trans Z
def Ov(C:aA)(g d e b:AV)(H:ah):Ot C [g,d,e,b] H=
 bo (bi .lss 3 b e) λh=>
 aQ h
 (bnd (ix 1 d b H) λi H=>bnd (ld i H) λj H=>
  bnd (app 5 1 1 g j H) λk H=>
  bo (bi .add 3 b (I 1)) λm=>
  Ot C [k,d,e,m] H)
 (some (g,H)):=
 lpE.trans Z
def ap8:Rn1 213 ai6:=λ_ _ _ _ h=>
 rnG abP Tryz.func213 Z Z  h
def FU(C:aA)(d e g:AV)(H:ah):OA:=
 bnd (lda 9 e H) λb H=>bnd (st 9 d b H) λ_ H=>
 bnd (lda 9 d H) λh _=>some (.tup [h,g],H)
def abQ(C:aA)(a0:AV)(H:ah):OA:=
 bnd (alc 81 [zI,zI,zI,zI,zI,zI,zI,zB,zN] H) λk H=>
 bnd (C 235 [a0] H) λm H=>bo (aF m 0) λn=>bo (aF m 1) λb=>bnd (alc 81 [zI,zI,zI,zI,zI,zI,zI,zB,zN] H) λd H=>bnd (st 9 d n H) λ_ H=>
 aQ b
 (bo (ay a0) λe=>fld e 0 H λg H=>bnd (C 133 [g,(I 0),(I 1)] H) λh H=>bo (ay a0) λi=>bo (au i 0) λj=>bnd (st 1 j h H) λ_ H=>
  FU C k d b H)
 (FU C k d b H)
def ap9:Rn1 215 abQ:=λ_ _ _ _ h=>
 rnG an0 Tryz.func215 Z Z  h
def Lc(C:aA)(a0 F:AV)(H:ah):OA:=
 bnd (fM 73 a0 H) λg H=>bnd (fM 81 F H) λh H=>
 fld g 3 H λG H=>bnd (C 223 [G] H) λK H=>bnd (C 229 [K] H) λE H=>
 bo (bi .neq 3 E (I 0)) λe=>gl e true (au h 0) H λi H=>gdA (some e) true (ld i H) H λj H=>gl e true (some E) H λk H=>gl e true (bi .eql 3 j k) H λm H=>bo (bJ e m (B false)) λb=>gl b true (au h 3) H λn H=>gdA (some b) true (ld n H) H λo H=>gl b true (au g 2) H λp H=>gdA (some b) true (ld p H) H λq H=>gl b true (bi .eql 3 o q) H λu H=>bo (bJ b u (B false)) λd=>gl d true (au h 4) H λv H=>gdA (some d) true (ld v H) H λw H=>gl d true (au g 1) H λy H=>gdA (some d) true (ld y H) H λz H=>gl d true (bi .eql 3 w z) H λA H=>bo (bJ d A (B false)) λD=>
 some (D,H)
def aqa:Rn2 216 Lc:=λ_ _ _ _ _ h=>
 rnG an0 Tryz.func216 Z Z  h
def aqb:Ann:=⟨[],[(1,rF 8 (some true::rF 8 []))],[(1,[(3,10),(5,10),(5,12)])]⟩
def abR(C:aA)(a0 a1 a2 a3:AV)(H:ah):OA:=
 bnd (fM 73 a0 H) λd H=>bnd (fM 81 a3 H) λh H=>bnd (alc 73 [zI,zI,zI,zI,zI,zI,zN,zI,zI] H) λk H=>
 fld h 6 H λm H1=>bo (au h 5) λi=>bnd (ld i H1) λn H3=>bo (au h 5) λg=>bnd (ld g H3) λo H5=>fld h 8 H5 λp H7=>bnd (unG H7 (C 36 [p] H7.guard)) λq u=>bo (au d 4) λv=>bnd (st 1 v m u) λ_ e=>bo (au d 5) λw=>bnd (st 1 w n e) λ_ j=>bo (au d 8) λy=>bnd (st 1 y o j) λ_ z=>bo (au d 6) λA=>bnd (st 1 A q z) λ_ b=>ck (bQ i) u e <| ck (bQ g) u e <| ck (bQ g) e j <|
 fld d 4 b λD b=>bo (bi .neq 3 D (I 0)) λE=>
 aQ E
 (bo (au d 3) λF=>bnd (st 1 F (I 2) b) λ_ b=>
  bnd (lda 9 d b) λG b=>bnd (st 9 k G b) λ_ b=>
  bnd (lda 9 k b) λK _=>some (.tup [K,(B true)],b))
 (fld d 1 b λL b=>fld h 8 b λM b=>bnd (C 236 [L,(I (-1)),(I (-1)),(B false),M] b) λQ b=>bnd (C 191 [a2,Q] b) λab b=>
  bo (au d 3) λR=>bnd (st 1 R (I 6) b) λ_ b=>bo (au d 4) λT=>bnd (st 1 T (I 1) b) λ_ b=>bo (au d 5) λW=>bnd (st 1 W a1 b) λ_ b=>bo (au d 6) λX=>bnd (st 1 X (.s (Go.Value.slice none 0 0)) b) λ_ b=>
  bnd (lda 9 d b) λaa b=>bnd (st 9 k aa b) λ_ b=>
  bnd (lda 9 k b) λK _=>some (.tup [K,(B true)],b))
def aqc:Rn4 217 abR:=λ_ _ _ _ _ _ _ h=>
 rnG aqb Tryz.func217 Z Z  h
def FV(C:aA)(e d:AV)(H:ah):OA:=
 bnd (lda 9 e H) λb H=>bnd (st 9 d b H) λ_ H=>
 bnd (lda 9 d H) λg _=>some (.tup [g,(B true)],H)
def abS(C:aA)(a0 w y z:AV)(H:ah):OA:=
 bnd (fM 73 a0 H) λb H=>bnd (fM 81 z H) λd H=>bnd (alc 73 [zI,zI,zI,zI,zI,zI,zN,zI,zI] H) λv H=>
 fld b 1 H λe H=>fld b 5 H λg H=>fld d 8 H λh H=>bnd (C 236 [e,g,(I (-1)),(B false),h] H) λi H=>bnd (C 191 [y,i] H) λA H=>
 bo (au b 3) λj=>bnd (st 1 j (I 6) H) λ_ H=>bo (au b 4) λk=>bnd (st 1 k (I 1) H) λ_ H=>bo (au b 5) λm=>bnd (st 1 m w H) λ_ H=>bo (au b 6) λn=>bnd (st 1 n (.s (Go.Value.slice none 0 0)) H) λ_ H=>
 fld d 7 H λo H=>
 aQ o
 (fld d 8 H λp H=>bnd (C 36 [p] H) λq H=>bo (au b 6) λu=>bnd (st 1 u q H) λ_ H=>
  FV C b v H)
 (FV C b v H)
def aqd:Rn4 218 abS:=λ_ _ _ _ _ _ _ h=>
 rnG an0 Tryz.func218 Z Z  h
def Bf(C:aA)(w y b d:AV)(H:ah):OA:=
 fld b 7 H λe H=>bo (bi .neq 3 e (I (-1))) λg=>
 aQ g
 (bo (au b 3) λh=>bnd (st 1 h (I 3) H) λ_ H=>
  bnd (lda 9 b H) λi H=>bnd (st 9 d i H) λ_ H=>
  bnd (lda 9 d H) λj _=>some (j,H))
 (fld b 1 H λk H=>fld b 6 H λm H=>bnd (C 236 [k,(I (-1)),(I (-1)),(B true),m] H) λn H=>bnd (C 191 [y,n] H) λz H=>
  bo (au b 3) λo=>bnd (st 1 o (I 6) H) λ_ H=>bo (au b 4) λp=>bnd (st 1 p (I 2) H) λ_ H=>bo (au b 5) λq=>bnd (st 1 q w H) λ_ H=>bo (au b 6) λu=>bnd (st 1 u (.s (Go.Value.slice none 0 0)) H) λ_ H=>
  bnd (lda 9 b H) λv H=>bnd (st 9 d v H) λ_ H=>
  bnd (lda 9 d H) λj _=>some (j,H))
def QX(C:aA)(a0 g h:AV)(H:ah):OA:=
 bnd (fM 73 a0 H) λb H=>bnd (alc 73 [zI,zI,zI,zI,zI,zI,zN,zI,zI] H) λv H=>
 fld b 1 H λi H=>bnd (C 41 [h,i] H) λd H=>bo (aF d 0) λj=>bo (aF d 1) λk=>bnd (alc 100 [zI,zI,zI,zI,zB,zN] H) λw H=>bnd (st 6 w j H) λ_ H=>
 fld b 7 H λm H=>bo (bi .eql 3 m g) λe=>gl e true (some k) H λn H=>bo (bJ e n (B false)) λo=>
 aQ o
 (bo (au w 0) λp=>fld p 0 H λq H=>bo (au b 7) λu=>bnd (st 1 u q H) λ_ H=>
  Bf C g h b v H)
 (Bf C g h b v H)
def aqe:Rn3 219 QX:=λ_ _ _ _ _ _ h=>
 rnG an0 Tryz.func219 Z Z  h
def aqf:Ann:=⟨[],[(1,rF 14 []),(4,rF 12 []),(13,rF 9 [])],[(1,[(3,7),(5,7),(5,9)]),(4,[(5,7)]),(13,[(2,4)])]⟩
def rQ(C:aA)(e d:AV)(H:ah):OA:=
 bnd (lda 9 e H) λb H=>bnd (st 9 d b H) λ_ H=>
 bnd (lda 9 d H) λg _=>some (g,H)
def Ld(C:aA)(a0 a1 a2:AV)(H:ah):OA:=
 bnd (fM 73 a0 H) λd H=>bnd (fM 81 a2 H) λv H=>bnd (alc 73 [zI,zI,zI,zI,zI,zI,zN,zI,zI] H) λh H=>
 fld v 6 H λw H1=>bo (au v 5) λi=>bnd (ld i H1) λy H3=>bo (au v 5) λg=>bnd (ld g H3) λz A=>bo (au d 4) λD=>bnd (st 1 D w A) λ_ u=>bo (au d 5) λE=>bnd (st 1 E y u) λ_ H9=>bo (au d 8) λF=>bnd (st 1 F z H9) λ_ G=>bo (au d 6) λK=>bnd (st 1 K (.s (Go.Value.slice none 0 0)) G) λ_ b=>ck (bQ i) A u <| ck (bQ g) A u <| ck (bQ g) u H9 <|
 bo (au d 3) λL=>bnd (st 1 L (I 6) b) λ_ b=>
 fld d 1 b λM b=>bnd (C 41 [a1,M] b) λj b=>bo (aF j 0) λQ=>bo (aF j 1) λR=>bnd (alc 100 [zI,zI,zI,zI,zB,zN] b) λe b=>bnd (st 6 e Q b) λ_ b=>
 bo (un .not R) λT=>
 aQ T
 (bnd (lda 9 d b) λW b=>bnd (st 9 h W b) λ_ b=>
  bnd (lda 9 h b) λr0 _=>some (r0,b))
 (bo (au e 0) λX=>bnd (lda 2 X b) λaa b=>bnd (C 237 [aa] b) λab b=>
  aQ ab
  (fld d 1 b λad b=>bnd (C 232 [a1,ad] b) λba b=>
  bo (au d 4) λae=>bnd (st 1 ae (I 0) b) λ_ b=>bo (au d 5) λaf=>bnd (st 1 af (I (-1)) b) λ_ b=>
  fld e 4 b λag b=>
  aQ ag
  (fld e 5 b λai b=>bo (au d 6) λal=>bnd (st 1 al ai b) λ_ b=>
   rQ C d h b)
  (rQ C d h b))
  (bo (au e 0) λam=>bnd (lda 2 am b) λao b=>bnd (C 238 [ao] b) λap b=>
  aQ ap
  (bo (au e 0) λaq=>bo (au aq 0) λk=>bnd (ld k b) λar m=>bo (au d 5) λaw=>bnd (st 1 aw (I (-1)) m) λ_ n=>bo (au d 7) λax=>bnd (st 1 ax ar n) λ_ az=>bo (au d 3) λaD=>bnd (st 1 aD (I 5) az) λ_ aE=>ck (bQ k) m n <|
   rQ C d h aE)
  (bo (au e 0) λaL=>fld aL 1 b λaM aR=>bo (au e 0) λa3=>bo (au a3 0) λo=>bnd (ld o aR) λa4 p=>bo (au d 5) λa5=>bnd (st 1 a5 aM p) λ_ q=>bo (au d 7) λa6=>bnd (st 1 a6 a4 q) λ_ a7=>bo (au d 3) λa8=>bnd (st 1 a8 (I 4) a7) λ_ a9=>ck (bQ o) p q <|
   rQ C d h a9)))
def aqg:Rn3 220 Ld:=λ_ _ _ _ _ _ h=>
 rnG aqf Tryz.func220 Z Z  h
def ai7(C:aA)(a0 k m:AV)(H:ah):OA:=
 bnd (fM 73 a0 H) λb H=>bnd (alc 73 [zI,zI,zI,zI,zI,zI,zN,zI,zI] H) λj H=>
 fld b 1 H λn H=>bnd (C 232 [k,n] H) λo H=>
 bo (au b 3) λd=>bnd (st 1 d (I 6) H) λ_ H=>bo (au b 4) λe=>bnd (st 1 e (I 1) H) λ_ H=>bo (au b 5) λg=>bnd (st 1 g m H) λ_ H=>bo (au b 6) λh=>bnd (st 1 h (.s (Go.Value.slice none 0 0)) H) λ_ H=>
 bnd (lda 9 b H) λi H=>bnd (st 9 j i H) λ_ H=>
 bnd (lda 9 j H) λp _=>some (p,H)
def aqh:Rn3 221 ai7:=λ_ _ _ _ _ _ h=>
 rnG an0 Tryz.func221 Z Z  h
def QY(C:aA)(a0 i:AV)(H:ah):OA:=
 bnd (fM 100 a0 H) λj H=>
 bo (bi .geq 3 i (I 0)) λb=>gl b true (some i) H λk H=>gl b true (au j 5) H λm H=>gdA (some b) true (ld m H) H λd H=>gdA (some b) true (lnS d H) H λe H=>gl b true (bi .lss 3 k e) H λg H=>bo (bJ b g (B false)) λh=>
 some (h,H)
def ai8:Rn2 222 QY:=λ_ _ _ _ _ h=>
 rnG an0 Tryz.func222 Z Z  h
def Ef(C:aA)(a0:AV)(H:ah):OA:=
 bo (bi .eql 3 a0 (I 1)) λg=>
 aQ g
 (some ((I 1),H))
 (bo (bi .eql 3 a0 (I 2)) λh=>
  aQ h
  (some ((I 3),H))
  (bo (bi .eql 3 a0 (I 3)) λi=>
  aQ i
  (some ((I 6),H))
  (bo (bi .eql 3 a0 (I 4)) λb=>
   aQ b
   (some ((I 4),H))
   (bo (bi .eql 3 a0 (I 5)) λd=>
   aQ d
   (some ((I 5),H))
   (bo (bi .eql 3 a0 (I 6)) λe=>
    aQ e
    (some ((I 2),H))
    (some ((I 0),H)))))))
def aqi:Rn1 223 Ef:=λ_ _ _ _ h=>
 rnG an0 Tryz.func223 Z Z  h
def ai9(C:aA)(a0:AV)(H:ah):OA:=
 bnd (fM 216 a0 H) λb H=>
 some ((.fn (.func 239) [] [b]),H)
def aqj:Rn1 224 ai9:=λ_ _ _ _ h=>
 rnG an0 Tryz.func224 Z Z  h
def abT(C:aA)(a0 g:AV)(H:ah):OA:=
 bo (ay a0) λh=>fld h 0 H λd H=>bnd (lk .i64 (.int .i64 0) d g true H) λb H=>bo (aF b 0) λi=>bo (aF b 1) λe=>
 some (e,H)
def aqk:Rn2 225 abT:=λ_ _ _ _ _ h=>
 rnG an0 Tryz.func225 Z Z  h
def aja(C:aA)(a0 e:AV)(H:ah):OA:=
 bo (ay a0) λg=>fld g 1 H λh H=>bnd (lk .i64 (.slice none 0 0) h e false H) λb H=>bnd (lnS b H) λd H=>
 some (d,H)
def aql:Rn2 226 aja:=λ_ _ _ _ _ h=>
 rnG an0 Tryz.func226 Z Z  h
def aqm:Ann:=⟨[],[(4,rF 17 [])],[(4,[(3,15)])]⟩
def QZ(C:aA)(a0 d i L:AV)(H:ah):OA:=
 bo (bi .lss 3 i (I 0)) λj=>
 aQ j
 (some ((B false),H))
 (bnd (C 225 [a0,d] H) λb H=>gl b false (some a0) H λk H=>gl b false (some d) H λm H=>gdA (some b) false (C 226 [k,m] H) H λn H=>gl b false (bi .gtr 3 n (I 0)) H λo H=>bo (bJ b (B true) o) λp=>
  aQ p
  (bo (ay a0) λq=>bo (au q 1) λe=>bnd (ld e H) λu M=>bo (ay a0) λv=>fld v 1 M λw Q=>bnd (lk .i64 (.slice none 0 0) w d false Q) λy z=>bo (bd 322 [(0,i),(1,L)]) λA=>bnd (bs 320 1 [(0,A)] z) λD g=>bnd (app 322 2 16 y D g) λE h=>bnd (mup .i64 u d E h) λ_ F=>ck (bQ e) g h <|
  some ((B false),F))
  (bo (ay a0) λG=>fld G 0 H λK H=>bnd (mup .i64 K d i H) λ_ H=>
  some ((B true),H)))
def aqn:Rn4 227 QZ:=λ_ _ _ _ _ _ _ h=>
 rnG aqm Tryz.func227 Z Z  h
def aqo:Ann:=⟨[],[(1,rF 6 (some true::rF 3 [])),(6,rF 13 []),(9,rF 10 [])],[]⟩
def yj(C:aA)(t0 b u:AV)(H:ah):OA:=
 bo (ay t0) λe=>fld e 0 H λg H=>fld b 4 H λh H=>fld b 6 H λi H=>fld b 5 H λj H=>bnd (C 240 [g,h,i,j,u] H) λd H=>
 bo (bi .neq 57 d (I 0)) λk=>
 aQ k
 (some (d,H))
 (bo (ay t0) λm=>fld m 1 H λn H=>fld b 4 H λo H=>fld b 1 H λp H=>bnd (C 241 [n,o,p] H) λq H=>
  some (q,H))
def Lh(C:aA)(a0 m:AV)(H:ah):OA:=
 bnd (fM 81 m H) λb H=>
 bo (ay a0) λn=>fld n 1 H λd H=>fld b 4 H λe H=>bnd (unG H (C 85 [d,e] H.guard)) λg H=>fld b 1 H λh H=>bo (bi .neq 3 g h) λi=>
 aQ i
 (some ((I 6),H))
 (fld b 7 H λj H=>
  aQ j
  (fld b 8 H λk H=>
  yj C a0 b k H)
  (yj C a0 b (.s (Go.Value.slice none 0 0)) H))
def aqp:Rn2 228 Lh:=λ_ _ _ _ _ h=>
 rnG aqo Tryz.func228 Z Z  h
def Bg(C:aA)(b:AV)(H:ah):OA:=
 aQ b
 (some ((I 9),H))
 (some ((I 0),H))
def pV(C:aA)(e g:AV)(H:ah):OA:=
 aQ g
 (some ((I 8),H))
 (bo (bi .eql 3 e (I 3)) λb=>
  aQ b
  (Bg C b H)
  (bo (bi .eql 3 e (I 6)) λd=>
  Bg C d H))
def Eh(C:aA)(a0:AV)(H:ah):OA:=
 bo (bi .eql 3 a0 (I 1)) λe=>
 aQ e
 (some ((I 7),H))
 (bo (bi .eql 3 a0 (I 2)) λb=>
  aQ b
  (pV C a0 b H)
  (bo (bi .eql 3 a0 (I 4)) λd=>
  aQ d
  (pV C a0 d H)
  (bo (bi .eql 3 a0 (I 5)) λg=>
   pV C a0 g H)))
def aqr:Rn1 229 Eh:=λ_ _ _ _ h=>
 rnG an0 Tryz.func229 Z Z  h
def ajb(C:aA)(a0 b:AV)(H:ah):OA:=
 bo (ay a0) λd=>bo (au d 1) λe=>bnd (st 1 e b H) λ_ H=>
 some (.tup [],H)
def aqs:Rn2 230 ajb:=λ_ _ _ _ _ h=>
 rnG an0 Tryz.func230 Z Z  h
def ajc(C:aA)(a0 b:AV)(H:ah):OA:=
 bo (ay a0) λd=>bo (au d 0) λe=>bnd (st 1 e b H) λ_ H=>
 some (.tup [],H)
def aqt:Rn2 231 ajc:=λ_ _ _ _ _ h=>
 rnG an0 Tryz.func231 Z Z  h
def FW(C:aA)(d e g:AV)(H:ah):OA:=
 bnd (lda 6 e H) λb H=>bnd (st 6 d b H) λ_ H=>
 bnd (lda 6 d H) λh _=>some (.tup [h,g],H)
def abU(C:aA)(a0 p:AV)(H:ah):OA:=
 bnd (alc 100 [zI,zI,zI,zI,zB,zN] H) λq H=>
 bnd (C 41 [a0,p] H) λd H=>bo (aF d 0) λg=>bo (aF d 1) λb=>bnd (alc 100 [zI,zI,zI,zI,zB,zN] H) λh H=>bnd (st 6 h g H) λ_ H=>
 aQ b
 (bnd (C 82 [a0,p] H) λe H=>
  bo (ay a0) λi=>fld i 0 H λj H=>bo (bi .add 3 e (I 1)) λk=>bnd (C 242 [j,e,k] H) λm H=>bo (ay a0) λn=>bo (au n 0) λo=>bnd (st 1 o m H) λ_ H=>
  FW C q h b H)
 (FW C q h b H)
def aqu:Rn2 232 abU:=λ_ _ _ _ _ h=>
 rnG an0 Tryz.func232 Z Z  h
def abV(C:aA)(a0:AV)(H:ah):OA:=
 bnd (alc 81 [zI,zI,zI,zI,zI,zI,zI,zB,zN] H) λb H=>
 bo (ay a0) λm=>fld m 0 H λn H=>bnd (lnS n H) λo H=>bo (bi .eql 3 o (I 0)) λp=>
 aQ p
 (bo (bd 81 []) λd=>bnd (st 9 b d H) λ_ H=>
  bnd (lda 9 b H) λe _=>some (.tup [e,(B false)],H))
 (bo (ay a0) λg=>fld g 0 H λh H=>bnd (ix 9 h (I 0) H) λi H=>bnd (lda 9 i H) λj H=>bnd (C 132 [j] H) λk H=>bnd (st 9 b k H) λ_ H=>
  bnd (lda 9 b H) λe _=>some (.tup [e,(B true)],H))
def aqv:Rn1 235 abV:=λ_ _ _ _ h=>
 rnG an0 Tryz.func235 Z Z  h
def ajd(C:aA)(a0 h i j k:AV)(H:ah):OA:=
 bnd (alc 100 [zI,zI,zI,zI,zB,zN] H) λb H=>
 bo (bd 98 [(0,h),(1,i)]) λd=>bnd (C 36 [k] H) λe H=>bo (bd 100 [(0,d),(1,a0),(3,j),(4,e)]) λg=>bnd (st 6 b g H) λ_ H=>
 bnd (lda 6 b H) λm _=>some (m,H)
def aqw:Rn5 236 ajd:=λ_ _ _ _ _ _ _ _ h=>
 rnG an0 Tryz.func236 Z Z  h
def abW(C:aA)(a0:AV)(H:ah):OA:=
 bnd (fM 98 a0 H) λd H=>
 bnd (lda 2 d H) λe H=>bnd (C 238 [e] H) λb H=>gdA (some b) true (lda 2 d H) H λg H=>gdA (some b) true (C 243 [g] H) H λh H=>bo (bJ b h (B false)) λi=>
 some (i,H)
def aje:Rn1 237 abW:=λ_ _ _ _ h=>
 rnG an0 Tryz.func237 Z Z  h
def ajf(C:aA)(a0:AV)(H:ah):OA:=
 bnd (fM 98 a0 H) λb H=>
 fld b 1 H λd H=>bo (bi .eql 3 d (I (-1))) λe=>
 some (e,H)
def aqx:Rn1 238 ajf:=λ_ _ _ _ h=>
 rnG an0 Tryz.func238 Z Z  h
def aqy:Ann:=⟨[],[(11,rF 7 [])],[]⟩
def FX(C:aA)(t0 h b:AV)(H:ah):OA:=
 bo (ay t0) λd=>fld d 8 H λe H=>bnd (lda 3 b H) λg H=>bnd (mup .i64 e h g H) λ_ H=>
 some ((I 0),H)
def yZ(C:aA)(a0 o k m n:AV)(H:ah):OA:=
 bo (ay a0) λp=>fld p 8 H λq H=>bnd (lk .i64 (.agg #[.int .i64 0,.int .i64 0,.slice none 0 0]) q o true H) λj H=>bo (aF j 0) λu=>bo (aF j 1) λv=>bnd (alc 95 [zI,zI,zN] H) λe H=>bnd (st 3 e u H) λ_ H=>
 bo (un .not v) λw=>
 aQ w
 (some ((I 3),H))
 (bo (bi .lss 3 k (I 0)) λh=>gl h false (some k) H λy H=>gl h false (bi .gtr 3 y (I 2)) H λz H=>bo (bJ h (B true) z) λi=>gl i false (some m) H λA H=>gl i false (bi .lss 3 A (I (-1))) H λD H=>bo (bJ i (B true) D) λd=>gl d false (some m) H λE H=>gl d false (some a0) H λF H=>gl d false (ay F) H λG H=>gl d false (au G 0) H λK H=>gl d false (au K 0) H λL H=>gdA (some d) false (ld L H) H λM H=>gl d false (bi .geq 3 E M) H λQ H=>bo (bJ d (B true) Q) λR=>
  aQ R
  (some ((I 1),H))
  (bo (bi .eql 3 m (I (-1))) λT=>bo (bi .eql 3 k (I 0)) λW=>bo (bi .neq 4 T W) λg=>gl g false (some n) H λX H=>gdA (some g) false (lnS X H) H λaa H=>gl g false (bi .neq 3 aa (I 0)) H λab H=>gl g false (some ab) H λb H=>gl b true (some n) H λad H=>gdA (some b) true (lnS ad H) H λae H=>gl b true (some a0) H λaf H=>gl b true (ay af) H λag H=>gl b true (au ag 0) H λai H=>gl b true (au ai 2) H λal H=>gdA (some b) true (ld al H) H λam H=>gl b true (bi .neq 3 ae am) H λao H=>gl g false (bJ b ao (B false)) H λap H=>bo (bJ g (B true) ap) λaq=>
  aQ aq
  (some ((I 1),H))
  (bo (au e 0) λar=>bnd (st 1 ar k H) λ_ H=>bo (au e 1) λaw=>bnd (st 1 aw m H) λ_ H=>
   bnd (lnS n H) λax H=>bo (bi .gtr 3 ax (I 0)) λaz=>
   aQ az
   (bnd (C 36 [n] H) λaD H=>bo (au e 2) λaE=>bnd (st 1 aE aD H) λ_ H=>
   FX C a0 o e H)
   (FX C a0 o e H))))
def aqz:Rn5 240 yZ:=λ_ _ _ _ _ _ _ _ h=>
 rnG aqy Tryz.func240 Z Z  h
def Xj(C:aA)(a0 d u:AV)(H:ah):OA:=
 bnd (C 225 [a0,d] H) λv H=>bo (un .not v) λb=>gl b false (some a0) H λe H=>gl b false (ay e) H λg H=>gl b false (au g 0) H λh H=>gdA (some b) false (ld h H) H λi H=>gl b false (some d) H λj H=>gdA (some b) false (lk .i64 (.int .i64 0) i j false H) H λk H=>gl b false (some u) H λm H=>gl b false (bi .neq 3 k m) H λn H=>bo (bJ b (B true) n) λo=>
 aQ o
 (some ((I 6),H))
 (bo (ay a0) λp=>fld p 0 H λq H=>bnd (del .i64 q d H) λ_ H=>
  some ((I 0),H))
def aqA:Rn3 241 Xj:=λ_ _ _ _ _ _ h=>
 rnG an0 Tryz.func241 Z Z  h
def aqB:Ann:=⟨[],[(5,rF 8 [])],[]⟩
def ajg(C:aA)(a0 d e:AV)(H:ah):OA:=
 bnd (lnS a0 H) λg H=>bo (slS 6 a0 (some d) (some e) (some g)) λo=>
 bo (bi .eql 3 d e) λh=>
 aQ h
 (some (a0,H))
 (bnd (lnS a0 H) λi H=>
  bo (slS 6 a0 none (some d) none) λj=>bo (slS 6 a0 (some e) none none) λk=>bnd (app 100 6 64 j k H) λb H=>
  bnd (lnS b H) λm H=>bo (slS 6 b (some m) (some i) none) λn=>bnd (clr 6 [zI,zI,zI,zI,zB,zN] n H) λ_ H=>
  some (b,H))
def aqC:Rn3 242 ajg:=λ_ _ _ _ _ _ h=>
 rnG aqB Tryz.func242 Z Z  h
def ajh(C:aA)(a0:AV)(H:ah):OA:=
 bnd (fM 98 a0 H) λb H=>
 fld b 0 H λd H=>bo (bi .eql 3 d (I (-1))) λe=>
 some (e,H)
def aqD:Rn1 243 ajh:=λ_ _ _ _ h=>
 rnG an0 Tryz.func243 Z Z  h
def nO(l:List Pkt)(room:Int):List Cell:=[.seq 9 (l.flatMap Pkt.av),.av (I room)]
def yt(l:List Int):(l.map I).all AV.aS=true:=by
 rw[za6];intro x b;obtain⟨z,_,rfl⟩:=zaM.1 b;rfl
def rU(l:List Int){d:Nat}:∀x∈l.map I,Frz (d+1) x:=λx b=>by
 obtain⟨z,_,rfl⟩:=zaM.1 b;exact fC
def qH {l:List Int}(h:l≠[]):dat l=.vs l.length 1 (l.map I):=by
 rw[dat,ET h,Qy]
def ku(H:ah)(l:List Int)(hl:l.length<1000000000):cl 36 [dat l] H=some (dat l,H):=by
 by_cases h:l=[]
 ·subst h;refine iy rfl rfl (ae5 _ _ _ (r:=(zN,H.guard)) ?_) iY;have e:bi .eql 22 zN zN=some (B true):=by kernel_rfl
  simp only[xq_,abe,dat,gI,e]
 ·have h0:l.length≠0:=λe=>h (zaq e);have e2:=ug (e:=3) (by_:=8) (r:=H.guard.next) (H:=H.guard.new (.blk 0 3 [])) qA (fH _ l) (yt l) h0 (by unfold most;omega) (by unfold most;omega);simp only[xY,eF]at e2;refine iy rfl rfl (ae5 _ _ _ (r:=(.sl (H.next+1) 0 0 1 l.length l.length false,(H.guard.new (.blk 0 3 [])).new (.blk 0 (3+gV) (l.map I)))) ?_) ?_
  ·have e1:bi .eql 22 (dat l) zN=some (B false):=by rw[qH h];exact uh Tryz.underlying22
   simp only[xq_,abe,e1,Nz,zD,e2,zbq,zaX]
  ·rw[qH h];refine kS (by omega) (cells:=l.map I) ?_ (iJ _ λx hx=>rU l x hx _ _);simp only[cZ,jw,eF,xY,if_true];rw[if_pos (by simp),zaS,zay (by simp)]
def abX(p:Pkt):Frz 9 (.agg p.av):=mF λx b=>by
 simp only[Pkt.av,zao,zaB,or_false]at b;rcases b with rfl|rfl|rfl|rfl|rfl|rfl|rfl|rfl|rfl <;> first|exact fC|exact sK
def abY(H:ah)(p:Pkt)(b:p.data.length<1000000000):cl 116 [.agg p.av] H=some (.agg p.av,H):=by
 have d:=λH=>ku H p.data b;refine bg rfl rfl (aoI _ _ _) ?_ (abX p);simp only[Nat.reduceLT,Nat.reduceAdd,aN,xq_,hq_,ahV,aC,Pkt.av,d]
def Xk(H:ah)(p:Pkt)(b:p.data.length<1000000000):cl 132 [.agg p.av] H=some (.agg p.av,H):=by
 have d:=λH=>ku H p.data b;refine bg rfl rfl (aoW _ _ _) ?_ (abX p);simp only[Nat.reduceLT,Nat.reduceAdd,aN,xq_,hq_,ah9,aC,Pkt.av,d]
section
variable {b:Nat}{H:ah}{g:bF}{q:Nat}{l:List Pkt}{room:Int}
def Xl(G:Good b H g)(h:g q=some (nO l room))(k:0<=room)(m:room<1000)(n:l.length<1000):
  cl 194 [.ref q 0 0] H=some (I (room-l.length),H):=by
 refine bn rfl rfl (apS _ _ _ ?_);obtain⟨x,d,c⟩:=G.seq h (i:=0) rfl;have e:=G.load h (i:=1) rfl;have j:=(c.is J (dF bZ l)).lnS;simp only[xq_,aiT,d,e,j,lH];rw[wrap_i64 V V]
def akP(G:Good b H g)(hb:H.base<=b)(h:g q=some (nO l room))(h1:0<=room)(h2:room<1000)(h3:l.length<1000)(p:Pkt)(hp:p.data.length<1000000000):
  ∃H',cl 197 [.ref q 0 0,.agg p.av] H=some (I (if room=l.length then 5 else 0),H')/\Good b H' (upd g q (nO (if room=l.length then l else l++[p]) room))/\Step b H H':=by
 have G1:=G.new (.blk 0 81 p.av);have e1:=Xl G1 h h1 h2 h3;by_cases hr:room=l.length
 ·refine⟨_,bn rfl rfl (aiV _ _ _ _ (r:=(_,H.new (.blk 0 81 p.av))) ?_),?_,Step.new _ G.1⟩
  ·simp only[Nat.reduceLT,xq_,hq_,abN,aC (aW p),e1,hr,Int.sub_self]
  ·rw[if_pos hr,fO h];exact G1
 ·have hr':¬room-(l.length:Int)=0:=by omega
  obtain⟨x,hx,c⟩:=G1.seq h (i:=0) rfl;have e2:=iP (H:=H.new (.blk 0 81 p.av)) (r:=H.next) (off:=0) (n:=9) (qA) (by simp[Pkt.av]);have e3:=abY (H.new (.blk 0 81 p.av)).guard p hp;obtain⟨x',H1,H2,a1,a2,a3,a4⟩:=(G1.new (.blk 0 81 p.av)).append (e:=81) (by_:=88) hb h (i:=0) rfl (by decide) (dF bZ l) (c.new _) (jX (ex:=true) (n:=1) (m:=9) (l:=p.av) rfl) (aW p) (by unfold most;omega) (by unfold most;omega);refine⟨H2,bn rfl rfl (aiV _ _ _ _ ?_),?_,(((Step.new _ G.1).trans (Step.new _ (G.new _).1)).trans a4)⟩
  ·simp only[eF]at a1;simp only[Nat.reduceLT,xq_,abN,aC (aW p),e1,hr',hr,hx,e2,zaS,e3,agR,zbk,Nat.reduceLeDiff,Qz,jP (m:=9) (z:=[zI,zI,zI,zI,zI,zI,zI,zB,zN]) (v:=.agg p.av) rfl rfl (aW p),eH,a1,a2]
  ·rw[if_neg hr];have:nO (l++[p]) room=(nO l room).set 0 (.seq 9 (l.flatMap Pkt.av++p.av)):=by simp[nO]
   rw[this];exact a3
def abZ(G:Good b H g)(h:g q=some (nO l room))(k:0<=room)(m:room<1000)(n:l.length<1000):
  cl 131 [.ref q 0 0] H=some (I (room-l.length),H):=by
 refine bn rfl rfl (aoV _ _ _ ?_);obtain⟨x,d,c⟩:=G.seq h (i:=0) rfl;have e:=G.load h (i:=1) rfl;have j:=(c.is J (dF bZ l)).lnS;simp only[xq_,ah8,d,e,j,lH];rw[wrap_i64 V V]
def afg(G:Good b H g)(hb:H.base<=b)(h:g q=some (nO l room))(h1:0<=room)(h2:room<1000)(h3:l.length<1000)(p:Pkt)(hp:p.data.length<1000000000):
  ∃H',cl 93 [.ref q 0 0,.agg p.av] H=some (I (if room=l.length then 5 else 0),H')/\Good b H' (upd g q (nO (if room=l.length then l else l++[p]) room))/\Step b H H':=by
 have G1:=G.new (.blk 0 81 p.av);have e1:=abZ G1 h h1 h2 h3;by_cases hr:room=l.length
 ·refine⟨_,bn rfl rfl (aor _ _ _ _ (r:=(_,H.new (.blk 0 81 p.av))) ?_),?_,Step.new _ G.1⟩
  ·simp only[Nat.reduceLT,xq_,hq_,akM,aC (aW p),e1,hr,Int.sub_self]
  ·rw[if_pos hr,fO h];exact G1
 ·have hr':¬room-(l.length:Int)=0:=by omega
  obtain⟨x,hx,c⟩:=G1.seq h (i:=0) rfl;have e2:=iP (H:=H.new (.blk 0 81 p.av)) (r:=H.next) (off:=0) (n:=9) (qA) (by simp[Pkt.av]);have e3:=Xk (H.new (.blk 0 81 p.av)).guard p hp;obtain⟨x',H1,H2,a1,a2,a3,a4⟩:=(G1.new (.blk 0 81 p.av)).append (e:=81) (by_:=88) hb h (i:=0) rfl (by decide) (dF bZ l) (c.new _) (jX (ex:=true) (n:=1) (m:=9) (l:=p.av) rfl) (aW p) (by unfold most;omega) (by unfold most;omega);refine⟨H2,bn rfl rfl (aor _ _ _ _ ?_),?_,(((Step.new _ G.1).trans (Step.new _ (G.new _).1)).trans a4)⟩
  ·simp only[eF]at a1;simp only[Nat.reduceLT,xq_,akM,aC (aW p),e1,hr',hr,hx,e2,zaS,e3,agR,zbk,Nat.reduceLeDiff,Qz,jP (m:=9) (z:=[zI,zI,zI,zI,zI,zI,zI,zB,zN]) (v:=.agg p.av) rfl rfl (aW p),eH,a1,a2]
  ·rw[if_neg hr];have:nO (l++[p]) room=(nO l room).set 0 (.seq 9 (l.flatMap Pkt.av++p.av)):=by simp[nO]
   rw[this];exact a3
def akQ {i n:Nat}{x:AV}{l:List AV}(c:Cur b H q i x 9 l)(hb:H.base<=b)(g:l.length=n*9)(k:n<1000000000){j:Nat}(m:j<n):
  ∃h H',cl 133 [x,I j,I (j+1)] H=some (h,H')/\Fit H H' x h 9 (l.take (j*9)++l.drop ((j+1)*9))/\H'.next=H.next/\H'.base=H.base/\∀r,iE x≠some r->H'.get r=H.get r:=by
 obtain⟨y,K,L,o,H1,M,p,u,v,w,A,C,D,E,f,n1,F,k1⟩:=Wx c hb J g k m (z:=[zI,zI,zI,zI,zI,zI,zI,zB,zN]) rfl rfl (e:=81) (by_:=88) J;have G:=(c.is J g).lnS;have d:((j:Int)=j+1)=False:=eq_false V;refine⟨o,p,bn rfl rfl (aoY _ _ _ _ _ ?_),f,n1,F,k1⟩;simp only[xq_,aia,G,u,v,w,A,C,D,E,d]
def Q5 {α:Type}{enc:α->List AV}{m:Nat}(b:∀a,(enc a).length=m):∀(l:List α) (j:Nat),(l.flatMap enc).take (j*m)=(l.take j).flatMap enc
 |[],j=>by simp
 |a::l,0=>by simp
 |a::l,j+1=>by
  rw[zaE,List.take_succ_cons,zaE,zbD,Nat.add_comm,List.take_append,b,Nat.add_sub_cancel_left,Q5 b l j,zay (by rw[b];omega)]
def Q7 {α:Type}{enc:α->List AV}{m:Nat}(b:∀a,(enc a).length=m):∀(l:List α) (j:Nat),(l.flatMap enc).drop (j*m)=(l.drop j).flatMap enc
 |[],j=>by simp
 |a::l,0=>by simp
 |a::l,j+1=>by
  rw[zaE,List.drop_succ_cons,zbD,Nat.add_comm,List.drop_append,b,Nat.add_sub_cancel_left,Q7 b l j,zaP (by rw[b];omega),zaN]
def Lj {α:Type}{enc:α->List AV}{m:Nat}(b:∀a,(enc a).length=m)(l:List α)(j:Nat):(l.flatMap enc).take (j*m)++(l.flatMap enc).drop ((j+1)*m)=(l.eraseIdx j).flatMap enc:=by
 rw[Q5 b,Q7 b,List.eraseIdx_eq_take_drop_succ,zbx]
def lX {α:Type}{enc:α->List AV}{m:Nat}(b:∀a,(enc a).length=m){L:List α}{x:AV}(d:aH H x m L.length (L.flatMap enc)){i:Nat}{a:α}(hi:L[i]?=some a):lda m (eP x i) H=some (.agg (enc a),H):=by
 have e:i<L.length:=(zaf.1 hi).1;rw[d.lda e,vF b L i a hi]
def iG(o:Option Pkt):AV:=.tup [.agg (o.getD .zero).av,B o.isSome]
def fJ:Pkt.zero.av=[zI,zI,zI,zI,zI,zI,zI,zB,zN]:=by simp[Pkt.zero,Pkt.av,dat,gI]
def C9(o:Option Pkt):Frz 9 (iG o):=wW λx b=>by
 simp only[zao,zaB,or_false]at b;rcases b with rfl|rfl
 ·refine mF λx b=>?_;simp only[Pkt.av,zao,zaB,or_false]at b;rcases b with rfl|rfl|rfl|rfl|rfl|rfl|rfl|rfl|rfl <;> first|exact fC|exact sK
 ·exact fC
def ab1(G:Good b H g)(h:g q=some (nO l room))(w:l.length<1000)(hd:∀p∈l,p.data.length<1000000000):
  cl 235 [.ref q 0 0] H=some (iG l.head?,H):=by
 refine bg rfl rfl (aqv _ _ _) ?_ (C9 _);have m:=G.guard.new (.blk 0 81 [zI,zI,zI,zI,zI,zI,zI,zB,zN]);obtain⟨x,e,c⟩:=m.seq h (i:=0) rfl;have d:=c.is J (dF bZ l);have j:=d.lnS;cases l with
 |nil=>simp only[Nat.reduceAdd,aN,xq_,hq_,abV,e,j,Int.ofNat_zero,zC,jg,dY,iG,fJ,List.head?_nil,zaZ,zaK]
 |cons p l=>
  have n:=d.ix (k:=.i64) (i:=0) J (by simp only[zak];omega);have o:=lX bZ d (i:=0) (a:=p) rfl;have u:(((l.length+1:Nat):Int)=0)=False:=eq_false V;have v:=λH=>Xk H p (hd p O);simp only[Nat.reduceAdd,aN,xq_,hq_,abV,e,j,u,n,Int.toNat_zero,o,v,iG,List.head?_cons,zat,zaO]
def Xm(G:Good b H g)(hb:H.base<=b)(h:g q=some (nO l room))(A:l.length<1000){j:Nat}(o:j<l.length):
  ∃x e H1 d,ld (.ref q 0 0) H=some (x,H)/\cl 133 [x,I j,I (j+1)] H=some (e,H1)/\st 1 (.ref q 0 0) e H1=some (aY,d)/\Good b d (upd g q (nO (l.eraseIdx j) room))/\Step b H d:=by
 obtain⟨x,p,c⟩:=G.seq h (i:=0) rfl;obtain⟨e,H1,u,m,C,v,n⟩:=akQ c hb (dF bZ l) V o;rw[Lj bZ]at m;obtain⟨d,w,y,z,D⟩:=G.seat h (i:=0) rfl c V V  (λr _ k=>n r k) m;exact⟨x,e,H1,d,p,u,w,y,Step.trans ⟨v,V,λr k=>n r (c.low k)⟩ z⟩
def ab2(G:Good b H g)(hb:H.base<=b)(h:g q=some (nO l room))(h3:l.length<1000)(hd:∀p∈l,p.data.length<1000000000):
  ∃H',cl 215 [.ref q 0 0] H=some (iG l.head?,H')/\Good b H' (upd g q (nO l.tail room))/\Step b H H':=by
 have G1:=G.newObj (ty:=81) (xs:=[zI,zI,zI,zI,zI,zI,zI,zB,zN]) rfl;have hq:=G.lt h;have h1:upd g H.next ([zI,zI,zI,zI,zI,zI,zI,zB,zN].map .av) q=some (nO l room):=by rw[bD (by omega)];exact h
 have e1:=ab1 G1 h1 h3 hd;have hb0:H.base<=H.next:=zav hb G.1
 refine kN rfl rfl (ap9 _ _ _) ?_;cases l with
 |nil=>
  simp only[Nat.reduceAdd,aN,xq_,hq_,zaa,zad,exists_eq_left',abQ,e1,FU,iG,List.head?_nil,zaZ,zaK,fJ,List.tail_nil,hb0];exact⟨(fO h).symm ▸ (G.new _).new _,(Step.new _ G.1).trans (Step.new _ (G.new _).1)⟩
 |cons p l=>
  have hm:=hd p (by simp);let H1:=H.new (.blk 0 81 [zI,zI,zI,zI,zI,zI,zI,zB,zN]);have G2:=G1.newObj (ty:=81) (xs:=p.av) (aW _);have hv2:upd (upd g H.next ([zI,zI,zI,zI,zI,zI,zI,zB,zN].map .av)) (H.next+1) (p.av.map .av) H.next=some ([zI,zI,zI,zI,zI,zI,zI,zB,zN].map .av):=by rw[bD (by omega),aT]
  have h2:upd (upd g H.next ([zI,zI,zI,zI,zI,zI,zI,zB,zN].map .av)) (H.next+1) (p.av.map .av) q=some (nO (p::l) room):=by rw[bD (by omega)];exact h1
  obtain⟨x,x',K1,K2,s1,s2,s3,s4,s5⟩:=Xm G2 (by rw[jh,jh];omega) h2 h3 (j:=0) (by simp);have G3:Good b K2 _:=s4;have q2:upd (upd (upd g H.next ([zI,zI,zI,zI,zI,zI,zI,zB,zN].map .av)) (H.next+1) (p.av.map .av)) q (nO l room) (H.next+1)=some (p.av.map .av):=by rw[bD (by omega),aT]
  have q1:upd (upd (upd g H.next ([zI,zI,zI,zI,zI,zI,zI,zB,zN].map .av)) (H.next+1) (p.av.map .av)) q (nO l room) H.next=some ([zI,zI,zI,zI,zI,zI,zI,zB,zN].map .av):=by rw[bD (by omega),bD (by omega),aT]
  have l2:=G3.loads q2 (i:=0) (n:=9) (xs:=p.av) rfl rfl (by decide);obtain⟨K3,t1,t2,t3,t4⟩:=G3.stores (by rw[s5.base,jh,jh];exact hb) q1 (i:=0) (n:=9) (vs:=p.av) (by decide) rfl (aW _);have l3:=t2.loads aT (i:=0) (n:=9) (xs:=p.av) rfl rfl (by decide);have z1:((0:Nat):Int)=0:=rfl;have z2:((0:Nat):Int)+1=1:=rfl;rw[z2]at s2;simp only[z1]at s2;simp only[Nat.reduceAdd,aN,xq_,hq_,zaa,zad,exists_eq_left',abQ,e1,FU,iG,List.head?_cons,zat,zaO,List.tail_cons,hb0,s1,s2,s3,l2,t1,l3];have n1:g H.next=none:=G.isNone (zac _)
  have n2:g (H.next+1)=none:=G.isNone (by omega);exact⟨t2.sub (((((uJ.refl g).more n1 _).more n2 _).both q _).more (Ah n1 (by omega)) _),(((Step.new _ G.1).trans (Step.new _ (G.new _).1)).trans s5).trans t3⟩
def ab3(G:Good b H g)(h:g q=some (nO l room))(A:l.length<1000)(hd:∀p∈l,p.data.length<1000000000)(at_:Int):
  cl 70 [.ref q 0 0,I at_] H=some (iG (if at_<0 then none else l[at_.toNat]?),H):=by
 refine bg rfl rfl (atG _ _ _ _) ?_ (C9 _);have u:=G.guard.new (.blk 0 81 [zI,zI,zI,zI,zI,zI,zI,zB,zN]);obtain⟨x,n,c⟩:=u.seq h (i:=0) rfl;have j:=c.is J (dF bZ l);have o:=j.lnS;by_cases m:at_<0
 ·simp only[Nat.reduceAdd,aN,xq_,hq_,afa,m,zC,jg,dY,iG,fJ,zaZ,zaK]
 ·by_cases v:at_<l.length
  ·have w:=j.ix (k:=.i64) (i:=at_) V v;obtain⟨p,e⟩:∃p,l[at_.toNat]?=some p:=⟨_,zab V⟩
   have y:=lX bZ j e;have z:=λH=>abY H p (hd p (zas e));have d:¬(l.length:Int)<=at_:=V
   simp only[Nat.reduceAdd,aN,xq_,hq_,afa,n,m,d,o,w,y,z,e,iG,zat,zaO]
  ·have e:l[at_.toNat]?=none:=zaI V;have d:(l.length:Int)<=at_:=V
   simp only[Nat.reduceAdd,aN,xq_,hq_,afa,n,m,d,o,e,zC,jg,dY,iG,fJ,zaZ,zaK]
end
open Go.RowKit
section
variable {P:Program}{C:aA}{A:Ann}{n:Nat}
def Ll {L:List Nat}{c:Code}(hc:Qu A n c (pU L) (λ_=>0) 0=true){t:gG}{e:Env}{H H1:ah}{vs:List AV}(p:Ag n (zA A c (pU L) (λ_=>0) 0) t e)
  (h:kY P C A n c e H (λe H=>some (yI L e,H)) (λ_ _ _=>none) (λ_ _=>none)=some (vs,H1)):
  ∃g,fF P C c t H=some (.normal,g,H1)/\∃d,Ag n (pU L) g d/\yI L d=vs:=by
 open Classical in
 have key:=Ht (P:=P) (C:=C) (β:=List AV × ah) A c (pU L) (λ_=>0) 0 hc
  (λt H=>if j:∃d,Ag n (pU L) t d/\yI L d=vs then(if H=H1 then some (vs,H)else none)else none) (λe H=>if yI L e=vs/\H=H1 then some (vs,H)else none)
  (λ_ _ _=>none) (λ_ _ _=>none) (λ_ _=>none) (λ_ _=>none)
  (λt e H ha r m=>by
   split at m
   ·rename_i o;rw[dif_pos ⟨e,ha,o.1⟩,if_pos o.2];exact m
   ·cases m) (λ_ _ _ _ _=>Le.refl _) (λ_ _ _ _=>Le.refl _) t e H p
 have u:=KI (P:=P) (C:=C) (A:=A) (n:=n) (β:=List AV × ah) c e H (λk e H=>k (yI L e) H) (λ_ _ _ _=>none) (λ_ _ _=>none) (λt H=>aaq _ _) (λ_ _ _=>gZ _) (λ_ _=>gZ _);have v:kY P C A n c e H (λe H=>(λs H=>some (s,H)) (yI L e) H) (λ_ _ _=>none) (λ_ _=>none)=some (vs,H1):=h;have w:kY P C A n c e H (λe H=>if yI L e=vs/\H=H1 then some (vs,H)else none) (λ_ _ _=>none) (λ_ _=>none)=some (vs,H1):=by
  rcases u (λs H=>some (s,H)) _ v with b|⟨s,H',b,y⟩
  ·exact b λs H=>if s=vs/\H=H1 then some (vs,H)else none
  ·cases b;exact y (λs H=>if s=vs/\H=H1 then some (vs,H)else none) O
 have b:=key _ w;cases j:fF P C c t H with
 |none=>rw[j]at b;cases b
 |some q=>
  obtain⟨ex,g,E⟩:=q;rw[j]at b;cases ex with
  |normal=>
   simp only[Qw]at b;split at b
   ·rename_i z;split at b
    ·rename_i D;subst D;exact⟨g,rfl,z⟩
    ·cases b
   ·cases b
  |exit i=>cases b
  |ret=>cases b
def ab4 {c:Code}{d:List ResultVar}(hc:Qu A n c (Tc d) (λ_=>0) (Tc d)=true){t:gG}{e:Env}{H:ah}{r:AV × ah}(p:Ag n (zA A c (Tc d) (λ_=>0) (Tc d)) t e)
  (h:kY P C A n c e H (PD P n d) (λ_ _ _=>none) (PD P n d)=some r):
  ∃ex g,(ex=.normal∨ex=.ret)/\fF P C c t H=some (ex,g,r.2)/\jC P d g r.2=some r.1:=by
 have k:∀t e H,Ag n (Tc d) t e->Le (PD P n d e H) ((jC P d t H).map λv=>(v,H)):=λt e H h=>by
  rw[aaw _ h];exact Le.refl _
 have b:=Ht (P:=P) (C:=C) A c _ _ _ hc _ _ _ _ _ _ k (λ_ _ _ _ _=>Le.refl _) k t e H p r h;cases m:fF P C c t H with
 |none=>rw[m]at b;cases b
 |some q=>
  obtain⟨ex,g,o⟩:=q;rw[m]at b;cases ex with
  |exit i=>cases b
  |normal=>
   simp only[Qw]at b;cases j:jC P d g o with
   |none=>rw[j]at b;cases b
   |some v=>
    rw[j]at b;simp only[zaj,zaa]at b;subst b;exact⟨_,g,.inl rfl,rfl,j⟩
  |ret=>
   simp only[Qw]at b;cases j:jC P d g o with
   |none=>rw[j]at b;cases b
   |some v=>
    rw[j]at b;simp only[zaj,zaa]at b;subst b;exact⟨_,g,.inr rfl,rfl,j⟩
def aqE {o:Oper}{a:Act}{w:World}{K:Act->World->Prop}{Q:Exit->Act->World->Prop}{l m:Nat}(hd:∀c,o.op≠.defer c)(h:o.wp P a w K Q):o.wpIn (Fence.wide.inRound l) m P a w K Q:=by
 unfold Oper.wpIn;refine⟨λ_ _=>trivial,?_⟩;rw[Oper.semAt_eq _ _ _ hd];unfold Oper.wp at h;generalize (execOp a.eval o).run P w=r at*;have b:(Fence.wide.inRound l).depth.isSome=true->1<=m:=λh=>by cases h
 cases r with
 |ok x w'=>
  cases x <;> simp only[Oper.upon,Oper.uponIn]at h ⊢ <;> first
   |exact h
   |exact⟨b,CallsIn.inRound l (callsIn_wide.2 h)⟩
   |exact h.elim
   |skip
  rename_i row d;exact⟨b,λc cs e=>let⟨v,w',r,s⟩:=h c cs;⟨v,w',r,stepsIn_wide.2 s⟩⟩
 |halt x w'=>cases x <;> simp only[Oper.upon,Oper.uponIn]at h ⊢ <;> exact h
def Dc(o:Oper):Bool:=match o.op with
 |.defer _=>false
 |_=>true
def Lm {o:Oper}(h:Dc o=true):∀c,o.op≠.defer c:=λc e=>by rw[Dc,e]at h;cases h
def akR {ops:Array Oper}(hd:∀o∈ops,Dc o=true){Q:Exit->Act->World->Prop}{i:Nat}{K:Act->World->Prop}{a:Act}{w:World}{l m:Nat}(d:¬LetsOut Q)(h:wpOp P ops Q i K a w):wpOpIn (Fence.wide.inRound l) m P ops Q i K a w:=by
 unfold wpOp at h;unfold wpOpIn;split
 ·rename_i b;rw[b]at h;exact h
 ·rename_i o b;rw[b]at h;simp only at h;split
  ·rename_i hw;rw[if_pos hw]at h;exact aqE (Lm (hd o (Array.mem_of_getElem? b))) (h.resolve_right λh=>d h.2)
  ·rename_i hw;rw[if_neg hw]at h;exact⟨λ_ _=>trivial,h⟩
def afh {ops:Array Oper}(hd:∀o∈ops,Dc o=true){Q:Exit->Act->World->Prop}{l m:Nat}{d:Region.Mode}(e:¬LetsOut Q):∀(b:Nat) (listed:Array Bool) (a:Act) (w:World),wpAny P d ops Q b listed a w->wpAnyIn (Fence.wide.inRound l) m P d ops Q b listed a w:=by
 intro b
 induction b with
 |zero=>intro listed a w h;exact h
 |succ b g=>
  intro listed a w h;exact⟨h.1,λi hi=>wpOpIn_mono (λa w h=>g _ a w h) (akR hd e (h.2 i hi))⟩
def yu(P:Program)(C:aA)(c:Code):Prop:=
 ∀l m t H e t' H',fF P C c t H=some (e,t',H')->∀(ρ:Ren) (w:World) (a:Act),Rel ρ H w->TOn ρ H.gen w (λ_=>True) t a->∀Q:Exit->Act->World->Prop,¬LetsOut Q->asl ρ H w a t' H' (Q e.to)->c.wpIn (Fence.wide.inRound l) m P Q a w
def afi {ops:List Oper}{t t':gG}{H H':ah}{ρ:Ren}{w:World}{a:Act}(G:qQ P C)(K:kQ C)(h:y7 P C ops t H=some (t',H'))(R:Rel ρ H w)(L:TOn ρ H.gen w (λ_=>True) t a){Q:Exit->Act->World->Prop}
  (hQ:∀a' ρ' w',Rel ρ' H' w'->TOn ρ' H'.gen w' (λ_=>True) t' a'->Ext ρ H w ρ' H' w'->a'.defers=a.defers->Q .normal a' w'):wpAny P .any ops.toArray Q ops.toArray.size (Array.replicate ops.toArray.size false) a w.drew:=by
 unfold y7 at h;split at h <;> first|(cases h;done)|skip
 rename_i M;split at h <;> first|(cases h;done)|skip
 rename_i t0 H0 v;obtain⟨y,W⟩:fZ P C ops (mX ops) t0 H0=some (t',H')/\∀p∈lW ops,agree P C ops H.next t0 H0 p:=by
  split at h
  ·rename_i he;rw[he];exact⟨h,O⟩
  ·split at h <;> first|(cases h;done)|skip
   rename_i ha;exact⟨h,ha⟩
 have F:=DL M;have b:∀j,j∈oL ops↔j<ops.length/\cst ops j=true:=λj=>by simp[oL,zbv,za0]
 obtain⟨hf,hg,z,nm,vl,h1,h2,h3⟩:=uY (oL ops) t H t0 H0 (List.nodup_range.filter _) (λj n=>((b j).1 n).2)
  (λi _ j _ oi oj d a1 a2 a3 a4=>F.arM i j oi oj d a1 a2 a3 a4) v
 obtain⟨T,Hp,val,S,g,m⟩:=J5 y vl;obtain⟨A,X,aa⟩:=Qh R hf hg;obtain⟨ρ1,w1,a1,g1,g2⟩:=zf G _ _ _ _ _ ρ w a v R L;have D:aer P C ops t H t0 H0 T Hp val nm:={
  facts:=F
  S:=S
  names:=λj n hc=>by
   obtain⟨o,E,q2,q3,q4,q5⟩:=h1 j ((b j).2 ⟨n,hc⟩);exact⟨o,E,q2,q3,by rw[m j hc];exact q4,λd hd q=>by rw[m j hc];exact q5 d hd q⟩
  inj:=λi j hi n ci cj e=>h2 i ((b i).2 ⟨hi,ci⟩) j ((b j).2 ⟨n,cj⟩) e
  rest:=λd hd=>h3 d λj n o ho=>hd j ((b j).1 n).2 o ho
  len:=z
  fresh:=hf
  auV:=hg
  agr:=W
  ghost:=λp hp d=>by
   obtain⟨ρ2,w2,a2,r1,r2⟩:=J6 G S g1 g2 p hp;exact RV.nv r1.out _ _ (r2.any d trivial)
  keeps:=K }
 have e1:T ops.length=t':=by rw[<-Prod.mk.inj g |>.1]
 have e2:Hp ops.length=H':=by rw[<-Prod.mk.inj g |>.2]
 have u:∀j,¬Li (Array.replicate ops.toArray.size false) j:=λj=>by
  unfold Li;simp[Array.getD]
 refine agK G D (a0:=a) (λa' ρ' w' E q2 q3 q4=>hQ a' ρ' w' (by rw[<-e2];exact E) (by rw[<-e1,<-e2];exact q2) (by rw[<-e2];exact q3) q4) ops.toArray.size _ a w.drew 0 ρ (by simp[Aa]) ?_;refine⟨O,λj o _ q=>absurd q (u j),zaX _,λi _ _=>⟨λq=>absurd q (u i),λh=>V⟩,by rw[S.zero.2];exact X.drew,λk hk hc _=>?_,?_,L.size,λd hd=>⟨λj o _ q=>absurd q (u j),λ_=>?_⟩,rfl⟩
 ·obtain⟨_,_,E,_⟩:=D.names k hk hc;exact(R.out _ E).1
 ·rw[S.zero.2];exact aa.trans (Ext.drew ρ H0 w)
 ·rw[S.zero.2,A];exact RV.mono (Ext.drew ρ H w).toMono _ _ (L.get d trivial hd)
def UG(i:qQ P C)(b:kQ C)(hm:P.follows .mixedOrders=true){id:Nat}{ops:Array Oper}(hd:∀o∈ops,Dc o=true):yu P C (.region id ops true):=by
 intro l m t H e t' H' h ρ w a R T Q d j;simp only[fF,if_true]at h;split at h <;> first|(cases h;done)|skip
 rename_i k H1 g;simp only[zaa,zad]at h;obtain⟨rfl,rfl,rfl⟩:=h;have:=afi i b g R T (Q:=Q) j;rw[show ops.toList.toArray=ops from rfl]at this;exact wpIn_region_any hm (afh hd d _ _ _ _ this)
def UH {id:Nat}{c:Code}(hc:yu P C c):yu P C (.block id c):=by
 intro l m t H e t' H' h ρ w a R T Q k j;simp only[fF]at h;refine wpIn_block ?_;unfold DR at h;have n:¬LetsOut (Exit.inBlock id Q):=λ⟨a,w,h⟩=>k ⟨a,w,h⟩;split at h
 ·rename_i i d H1 g;refine hc l m t H _ d H1 g ρ w a R T _ n λo p q u v y z=>?_;simp only[Ex.to,Exit.inBlock];split at h
  ·rename_i b;simp only[zaa,zad]at h;obtain⟨rfl,rfl,rfl⟩:=h;rw[if_pos b];exact j o p q u v y z
  ·rename_i b;simp only[zaa,zad]at h;obtain⟨rfl,rfl,rfl⟩:=h;rw[if_neg b];exact j o p q u v y z
 ·rename_i d H1 g;simp only[zaa,zad]at h;obtain⟨rfl,rfl,rfl⟩:=h;exact hc l m t H _ d H1 g ρ w a R T _ n j
 ·rename_i d H1 g;simp only[zaa,zad]at h;obtain⟨rfl,rfl,rfl⟩:=h;exact hc l m t H _ d H1 g ρ w a R T _ n j
 ·cases h
def xu(H:ah):Prop:=∀r k b,H.get r≠.map k b
def xu.cells {H:ah}(h:xu H){ρ:Ren}{w:World}(R:Rel ρ H w){r b sh:Nat}(i:ρ r=some (b,sh)):∃cs e,w.heap[b]?=some (.cells cs e (0,0)):=by
 have:=R.obj r b sh i;cases d:H.get r with
 |blk g n cells=>
  rw[d]at this;obtain⟨cs,e,j,_⟩:=this;exact⟨cs,e,j⟩
 |map k m=>exact absurd d (h r k m)
def xu.imm {H:ah}(h:xu H){ρ:Ren}{w:World}(R:Rel ρ H w){b:Nat}{o:Obj}(g:w.heap[b]?=some o)(hc:o.isCells=false):Imm ρ b:=λr j i=>by
 obtain⟨cs,e,d⟩:=h.cells R i;rw[g]at d;cases d;cases hc
end
structure Grn(w w':World):Prop where
 size:w.heap.size<=w'.heap.size
 cell:∀b o v,w.cell? ⟨b,o,none⟩=some v->w'.cell? ⟨b,o,none⟩=some v
 shape:∀b e m,w.shape? b=some (e,m)->w'.shape? b=some (e,m)
mutual
def RV.grn {ρ:Ren}{G:Nat->Nat}{w w':World}(M:Grn w w'):∀(x:AV) (v:Value),RV ρ G w x v->RV ρ G w' x v
 |.s _,_,h=>by simpa only[RV]using h
 |.ref r g off,v,h=>by simpa only[RV]using h
 |.sl r g off i len p ex,v,h=>by
  obtain⟨b,o,c,e,k1,j,q,d,n⟩:=(by simpa only[RV]using h)
  simp only[RV];refine⟨b,o,c,e,k1,j,q,d,λu=>?_⟩;obtain⟨y,z,k,A,C,D,E⟩:=n u;exact⟨y,z,k,A,C,M.shape _ _ _ D,E⟩
 |.ip cells,v,h=>by
  obtain⟨b,o,e,hb,hi,d⟩:=(by simpa only[RV]using h)
  simp only[RV];exact⟨b,o,e,zax hb M.size,hi,RVc.grn M cells b o d⟩
 |.vs m i cells,v,h=>by
  obtain⟨b,o,c,e,k1,j,hb,hi,d⟩:=(by simpa only[RV]using h)
  simp only[RV];exact⟨b,o,c,e,k1,j,zax hb M.size,hi,RVc.grn M cells b o d⟩
 |.mp r,v,h=>by simpa only[RV]using h
 |.fn f a c,v,h=>by
  obtain⟨a',c',e,d,n⟩:=(by simpa only[RV]using h)
  simp only[RV];exact⟨a',c',e,RVs.grn M a _ d,RVs.grn M c _ n⟩
 |.agg cells,v,h=>by
  obtain⟨cs,e,d⟩:=(by simpa only[RV]using h)
  simp only[RV];exact⟨cs,e,RVs.grn M cells _ d⟩
 |.tup cells,v,h=>by
  obtain⟨cs,e,d⟩:=(by simpa only[RV]using h)
  simp only[RV];exact⟨cs,e,RVs.grn M cells _ d⟩
def RVs.grn {ρ:Ren}{G:Nat->Nat}{w w':World}(M:Grn w w'):∀(xs:List AV) (l:List Value),RVs ρ G w xs l->RVs ρ G w' xs l
 |[],_,h=>by simpa only[RVs]using h
 |x::xs,l,h=>by
  obtain⟨y,b,e,d,g⟩:=(by simpa only[RVs]using h)
  simp only[RVs];exact⟨y,b,e,RV.grn M x y d,RVs.grn M xs b g⟩
def RVc.grn {ρ:Ren}{G:Nat->Nat}{w w':World}(M:Grn w w'):∀(xs:List AV) (b o:Nat),RVc ρ G w xs b o->RVc ρ G w' xs b o
 |[],_,_,_=>by simp only[RVc]
 |x::xs,b,o,h=>by
  obtain⟨⟨y,e,d⟩,g⟩:=(by simpa only[RVc]using h)
  simp only[RVc];exact⟨⟨y,M.cell _ _ _ e,RV.grn M x y d⟩,RVc.grn M xs b (o+1) g⟩
end
section
variable {P:Program}{C:aA}
def aqF {w w':World}{row:Option Nat}(d:w.grownBy w' row)(g:∀r,row=some r->∃o:Obj,w.heap[r]?=some o/\o.isCells=false):Grn w w':=by
 refine⟨d.size,λb o v h=>cell_kept h d g,λb e m h=>?_⟩;rw[fE]at h ⊢;cases hb:w.heap[b]? with
 |none=>rw[hb]at h;cases h
 |some i=>
  have hc:i.isCells=true:=by
   rw[hb]at h;cases i <;> first|rfl|cases h
  rw[grownBy_keeps_cells d g hb hc];exact h
def xu.grown {H:ah}(h:xu H){ρ:Ren}{w w':World}(R:Rel ρ H w){row:Option Nat}{B:Nat}(i:w.grownBy w' row)(m:∀r,row=some r->B<=r/\∃o:Obj,w.heap[r]?=some o/\o.isCells=false)(q:∀b∈fx.blocks,b<B):Rel ρ H w'/\Grn w w':=by
 have M:=aqF i λr e=>(m r e).2;refine⟨⟨R.out,λr b u d=>?_,R.inj,?_⟩,M⟩
 ·have j:=R.obj r b u d;obtain⟨v,F,n⟩:=h.cells R d;have hk:=grownBy_keeps_cells i (λr e=>(m r e).2) n rfl;cases p:H.get r with
  |blk g G cells=>
   rw[p]at j;obtain⟨cs,e,y,z,A,C⟩:=j;exact⟨cs,e,by rw[hk];exact y,z,RVc.grn M _ _ _ A,C⟩
  |map k D=>exact absurd p (h r k D)
 ·refine⟨λb hb=>?_,fx.frame w w' (λb hb=>?_) R.gl.2⟩
  ·obtain⟨j,E⟩:=R.gl.1 b hb;exact⟨zax j i.size,E⟩
  ·refine i.block b (R.gl.1 b hb).1 λe=>?_;have:=(m b e.symm).1;have:=q b hb;omega
def Ext.grown {ρ ρ1:Ren}{H H1:ah}{w W g:World}(E:Ext ρ H w ρ1 H1 W){row:Option Nat}(d:W.grownBy g row)(i:∀r,row=some r->w.heap.size<=r):Ext ρ H w ρ1 H1 g:=by
 have hb:∀b,b<w.heap.size->g.heap[b]?=W.heap[b]?:=λb hb=>d.block b (zax hb E.size) λe=>by
  have:=i b e.symm;omega
 exact⟨E.next,E.mono,E.same,E.kept,E.range,zav E.size d.size,λb h hi=>(hb b h).trans (E.frame b h hi),λb h=>by rw[<-E.shape b h,fE,fE,hb b h],d.os.trans E.os,d.tape.trans E.tape,d.output.trans E.output⟩
def KpC(b:World->Prop)(A B:World):Prop:=b A->b B
def afj(hm:P.follows .mixedOrders=true){t:gG}{H:ah}{ρ:Ren}{w:World}{a:Act}(R:Rel ρ H w)(T:TOn ρ H.gen w (λ_=>True) t a)
  {g:Operand} {p d:Tmp} (hp:p<t.length) (hpd:p≠d) {ida:Nat} {ty:TypeId} {pos:String} {aft:Array Edge} {body:Code}
  {gf:Nat} {lb:Array Value} (hg:a.eval g=.func (.func gf) #[] lb) (eg:∀args w,(callFunc gf args).run P w=.ok (.enter gf args) w)
  {N:Nat} (vs:Fin N->AV) (cvs:Fin N->Value) (hv:∀x,RV ρ H.gen w (vs x) (cvs x)) (CP:World->Prop) (hL:∀(W:World) (l:Nat) (o o':Obj),w.heap.size<=l->W.heap[l]?=some o->o.isCells=false->CP W->CP (W.putObj l o'))
  (hseq:∀n,1<=n->SeqStopsK Fence.wide n P gf lb (λx=>#[cvs x]) (KpC CP) (λys=>ys.map (λx:Fin N=>x.val)=List.range N) (λ_=>True) N w)
  (Inv:List (Fin N)->ah->Prop) (h0:Inv [] H) (hnm:∀pre H1,Inv pre H1->xu H1)
  (hcell:∀pre H1 ρ1 W,Inv pre H1->Rel ρ1 H1 W->Ext ρ H w ρ1 H1 W->CP W)
  (hrun:∀pre x H1,Inv pre H1->pre.length<N->∃t2 H2,fF P C body (wF (wF t (some p) (vs x)) (some d) (vs x)) H1=some (.normal,t2,H2)/\Inv (pre++[x]) H2)
  (hin:yu P C body) {Q:Exit->Act->World->Prop}
  (hQ:∀xs H1 D W ρ1,xs.map (λx:Fin N=>x.val)=List.range N->Inv xs H1->Rel ρ1 H1 W->Ext ρ H w ρ1 H1 W->W.heap[D]?=some (.deferred (some []))->Imm ρ1 D->w.heap.size<=D->Q .normal { a with defers:={ target:=.collected D,args:=#[] }::a.defers } W):
  (Code.rangeFunc g #[p] (.region ida #[{ dst:=some d,op:=.assign (.tmp p),type:=ty,pos:=pos,after:=aft,guard:=none }] false) body).wp P Q a w:=by
 refine(wpIn_wide (n:=9)).1 ?_;have hpa:p<a.tmps.size:=by rw[T.size];exact hp
 let a0:Fin N->Act:=λx=>{ tmps:=a.tmps.setIfInBounds p (cvs x),defers:=[] }
 let I:List (Fin N)->World->Prop:=λpre W=>∃H1 ρ1,Inv pre H1/\Rel ρ1 H1 W/\Ext ρ H w ρ1 H1 W
 have hfx:∀b∈fx.blocks,b<w.heap.size:=λb hb=>(R.gl.1 b hb).1;refine wpIn_rangeFunc_ownF (F:=Fence.wide) (α:=Fin N) rfl J (gf:=gf) (lb:=lb) hg trivial eg (hseq 8 J) (λh k hx=>k (h hx)) ?hKb (Below.refl _ _) (λ_=>rfl) I (λ_ _ _=>False) ?hI (λ_ _ _ _ _ h _ _=>h) ⟨H,ρ,h0,R,Ext.refl _ _ _⟩ (λx=>(a0 x).put (some d) (cvs x)) ?hassign ?hbody ?hdone (λ_ _ _ _ _ _ h _=>h.elim)
 case hKb=>
  intro W l o o' hl ho hc _ hx;exact hL W l o o' hl ho hc hx
 case hI=>
  rintro pre W W' row ⟨H1,ρ1,i1,i2,i3⟩ hgr hr;obtain⟨r1,_⟩:=(hnm pre H1 i1).grown i2 hgr hr hfx;exact⟨H1,ρ1,i1,r1,i3.grown hgr λr e=>(hr r e).1⟩
 case hassign=>
  intro l x W K hK;refine wpIn_region ?_;have e1:(#[p].zip #[cvs x]).foldl (λt q=>t.setIfInBounds q.1 q.2) a.tmps=a.tmps.setIfInBounds p (cvs x):=O
  have e2:({ tmps:=a.tmps.setIfInBounds p (cvs x),defers:=[] }:Act).eval (.tmp p)=cvs x:=by
   simp[Act.eval,Array.getD,hpa]
  show wpOpsIn _ _ P _ _ [0] _ W;simp only[wpOpsIn,List.getElem?_toArray,zaY,Region.wanted,if_true];refine aqE (Lm rfl) ?_;unfold Oper.wp;have e3:execOp ({ tmps:=a.tmps.setIfInBounds p (cvs x),defers:=[] }:Act).eval { dst:=some d,op:=.assign (.tmp p),type:=ty,pos:=pos,after:=aft,guard:=none }=pure (.value (cvs x)):=by
   show pure (Next.value _)=_;rw[e2]
  have e4:((#[p].zip #[cvs x]).foldl (λt x=>match x with|(p,v)=>t.setIfInBounds p v) a.tmps)=a.tmps.setIfInBounds p (cvs x):=O
  rw[e4,e3];exact hK
 case hbody=>
  rintro l pre x W ⟨H1,ρ1,i1,i2,i3⟩ hlen;obtain⟨t2,H2,r1,r2⟩:=hrun pre x H1 i1 hlen;have hvx:=RV.mono i3.toMono _ _ (hv x);have T0:TOn ρ1 H1.gen W (λ_=>True) (wF t (some p) (vs x)) (a0 x):=⟨((T.keep i3).put (some p) hvx).size,((T.keep i3).put (some p) hvx).get⟩
  have T1:=T0.put (some d) hvx;refine hin l _ _ H1 _ t2 H2 r1 ρ1 W _ i2 T1 _ (λ⟨_,_,h⟩=>h) λa' ρ' w' q1 q2 q3 q4=>?_;refine⟨⟨q3.size,λk o ho hc=>?_⟩,λ_=>hcell _ H2 ρ' w' r2 q1 (i3.trans q3),H2,ρ',r2,q1,i3.trans q3⟩;rw[q3.frame k (zbg.1 ho).1 ((hnm pre H1 i1).imm i2 ho hc)];exact ho
 case hdone=>
  rintro D xs W hD hS ⟨H1,ρ1,i1,i2,i3⟩ hK;exact hQ xs H1 D W ρ1 hS i1 i2 i3 hK ((hnm xs H1 i1).imm i2 hK rfl) hD
end
def apz(e:TypeId)(m by_:Nat)(z:List AV)(x y:AV):AM AV:=λH=>match y with
 |.s (.int _ n)=>if 0<=n/\n<=most/\n*by_<=most then dW e m by_ x n.toNat (dK z n.toNat) H else none
 |_=>none
def xw:Ann:=⟨[],[(4,rF 40 (none::some false::[])),(7,rF 3 (some true::rF 4 []))],[]⟩
def UJ:Code:=match abu with
 |.seq a (.seq b (.seq c (.seq d (.seq (.seq e _) f))))=>.seq a (.seq b (.seq c (.seq d (.seq e .skip))))
 |_=>.skip
def UK(C:aA)(t0:AV)(H:ah):Option (List AV × ah):=
 bnd (alc 81 [zI,zI,zI,zI,zI,zI,zI,zB,zN] H) λv2 H=>
 bnd (C 178 [t0] H) λg H=>bo (aF g 0) λb=>bo (aF g 1) λh=>
 bo (un .not h) λe=>gdA (some e) false (fQ (some b) H) H λi H=>gdA (some e) false (lnS i H) H λj H=>gdA (some e) false (fQ (bi .lss 3 j (I 10)) H) H λk H=>bo (bJ e (B true) k) λd=>gdA (some d) false (fQ (some b) H) H λm H=>gdA (some d) false (lnS m H) H λn H=>gdA (some d) false (fQ (some b) H) H λo H=>gdA (some d) false (ix 1 o (I 9) H) H λp H=>gdA (some d) false (ld p H) H λq H=>gdA (some d) false (cv 5 3 q H) H λu H=>gdA (some d) false (fQ (bi .mul 3 (I 8) u) H) H λv H=>gdA (some d) false (fQ (bi .add 3 (I 10) v) H) H λw H=>gdA (some d) false (fQ (bi .neq 3 n w) H) H λy H=>bo (bJ d (B true) y) λz=>
 aQ z
 (bo (bd 81 []) λA=>bnd (st 9 v2 A H) λ_ H=>
  none)
 (bnd (alc 81 [zI,zI,zI,zI,zI,zI,zI,zB,zN] H) λv6 H=>bnd (ix 1 b (I 0) H) λD H=>bnd (ld D H) λE H=>bnd (cv 5 3 E H) λF H=>bnd (ix 1 b (I 1) H) λG H=>bnd (ld G H) λK H=>bnd (cv 5 3 K H) λL H=>bnd (ix 1 b (I 2) H) λM H=>bnd (ld M H) λQ H=>bnd (cv 5 3 Q H) λR H=>bnd (ix 1 b (I 3) H) λT H=>bnd (ld T H) λW H=>bnd (cv 5 3 W H) λX H=>bo (bi .shl 3 X (.s (Go.Value.int Go.IntKind.u64 8))) λaa=>bnd (ix 1 b (I 4) H) λab H=>bnd (ld ab H) λad H=>bnd (cv 5 3 ad H) λae H=>bo (bi .or 3 aa ae) λaf=>bnd (ix 1 b (I 5) H) λag H=>bnd (ld ag H) λai H=>bnd (cv 5 3 ai H) λal H=>bnd (ix 1 b (I 6) H) λam H=>bnd (ld am H) λao H=>bnd (cv 5 3 ao H) λap H=>bo (bi .sub 3 ap (I 1)) λaq=>bnd (ix 1 b (I 7) H) λar H=>bnd (ld ar H) λaw H=>bnd (cv 5 3 aw H) λax H=>bnd (ix 1 b (I 8) H) λaz H=>bnd (ld az H) λaD H=>bo (bi .eql 5 aD (.s (Go.Value.int Go.IntKind.u8 1))) λaE=>bo (bd 81 [(0,F),(1,L),(2,R),(3,af),(4,al),(5,aq),(6,ax),(7,aE)]) λaL=>bnd (st 9 v6 aL H) λ_ H=>
  bo (slS 1 b (some (I 10)) none none) λaM=>bnd (C 179 [aM,(I 8)] H) λaR H=>
  some ([t0,v2,v6,aR],H))
def akS(C:aA)(t0:AV)(H:ah):kY Tryz.prog C xw 100 UJ [(0,t0)] H (λe H=>some (yI [0,2,6,76] e,H)) (λ_ _ _=>none) (λ_ _=>none)=UK C t0 H:=Z
def Ox:Code:=match abu with
 |.seq a (.seq b (.seq c (.seq d (.seq (.seq e (.block _ (.rangeFunc _ _ _ g))) f))))=>g
 |_=>.skip
def UL(C:aA)(j k:AV)(H:ah):Option (List AV × ah):=
 bo (au j 8) λb=>bnd (ld b H) λd H=>bnd (unG H (C 180 [k] H.guard)) λe H=>bnd (bs 22 1 [(0,e)] H) λg H=>bnd (app 3 1 8 d g H) λh H=>bo (au j 8) λi=>bnd (st 1 i h H) λ_ H=>
 some ([],H)
def akT(C:aA)(b d:AV)(H:ah):kY Tryz.prog C xw 100 Ox [(6,b),(7,d)] H (λe H=>some (yI [] e,H)) (λ_ _ _=>none) (λ_ _=>none)=UL C b d H:=Z
def Oy:Code:=match abu with
 |.seq a (.seq b (.seq c (.seq d (.seq (.seq e _) f))))=>f
 |_=>.skip
def UM(C:aA)(t0 e v:AV)(H:ah):Option (AV × ah):=
 bnd (lda 9 v H) λg H=>bnd (C 128 [g] H) λd H=>bo (aF d 0) λh=>bo (aF d 1) λi=>
 bo (bi .neq 57 i (I 0)) λb=>gdA (some b) false (fQ (some h) H) H λj H=>gdA (some b) false (fQ (some t0) H) H λk H=>gdA (some b) false (C 181 [j,k] H) H λm H=>gdA (some b) false (fQ (un .not m) H) H λn H=>bo (bJ b (B true) n) λo=>
 aQ o
 (bo (bd 81 []) λp=>bnd (st 9 e p H) λ_ H=>
  bnd (lda 9 e H) λq _=>some (.tup [q,(I 2)],H))
 (bnd (lda 9 v H) λu H=>bnd (st 9 e u H) λ_ H=>
  bnd (lda 9 e H) λq _=>some (.tup [q,(I 0)],H))
def akU(C:aA)(t0 b d:AV)(H:ah):kY Tryz.prog C xw 100 Oy [(0,t0),(2,b),(6,d)] H (PD Tryz.prog 100 Tryz.f129.results.toList) (λ_ _ _=>none) (PD Tryz.prog 100 Tryz.f129.results.toList)=UM C t0 b d H:=Z
def Oz(C:aA)(t0:AV)(H:ah):OA:=
 some (t0,H)
def OB(C:aA)(t0 o:AV)(H:ah):OA:=
 bnd (fQ (agF Tryz.prog 220 t0) H) λd H=>bnd (lnS t0 H) λe H=>bo (bi .sub 3 d e) λg=>bo (bi .sub 3 o g) λb=>
 bo (bi .gtr 3 b (I 0)) λh=>
 aQ h
 (bnd (fQ (agF Tryz.prog 220 t0) H) λi H=>bo (slS 1 t0 none (some i) none) λj=>bnd (apz 5 1 1 [.s (.int .u8 0)] j b H) λk H=>bnd (lnS t0 H) λm H=>bo (slS 1 k none (some m) none) λn=>
  Oz C n H)
 (Oz C t0 H)
def aji(C:aA)(a0 b:AV)(H:ah):OA:=
 bo (bi .lss 3 b (I 0)) λd=>
 aQ d
 (bnd (stk H) λe H=>bnd (stk H) λ_ H=>
  OB C a0 b H)
 (OB C a0 b H)
def aqG:Rn2 234 aji:=λ_ _ _ _ _ h=>
 rnG an0 Tryz.func234 Z Z  h
structure Gro(H H':ah):Prop where
 next:H.next<=H'.next
 base:H'.base=H.base
 same:∀r,r<H.next->H'.get r=H.get r
 Q8:xu H->xu H'
def Gro.refl(H:ah):Gro H H:=⟨zac _,rfl,λ_ _=>rfl,λh=>h⟩
def Gro.trans {H H' H'':ah}(a:Gro H H')(b:Gro H' H''):Gro H H'':=
 ⟨zav a.next b.next,b.base.trans a.base,λr h=>(b.same r (zax h a.next)).trans (a.same r h),λh=>b.Q8 (a.Q8 h)⟩
def Gro.new(H:ah)(g ty:Nat)(xs:List AV):Gro H (H.new (.blk g ty xs)):=
 ⟨by rw[eF];omega,jh,λr h=>bC h,λh r k b=>by
  by_cases e:r=H.next
  ·rw[aP e];simp
  ·have:(H.new (.blk g ty xs)).get r=H.get r:=by simp[ah.new,e]
   rw[this];exact h r k b⟩
structure dJ(H:ah)(x:AV)(l:List By):Prop where
 is:aH H x 1 l.length (l.map Y)
 small:l.length<1000
def dJ.gro {H H':ah}{x:AV}{l:List By}(h:dJ H x l)(g:Gro H H'):dJ H' x l:=⟨h.is.iQ g.next λr _ b=>g.same r b,h.small⟩
def dJ.ix {H:ah}{x:AV}{l:List By}(h:dJ H x l){i:Nat}(hi:i<l.length):ix 1 x (I i) H=some (eP x i,H):=by
 have:=h.is.ix (k:=.i64) (i:=(i:Int)) V V
 rwa [zam]at this
def dJ.ld {H:ah}{x:AV}{l:List By}(h:dJ H x l){i:Nat}{c:By}(hi:l[i]?=some c):ld (eP x i) H=some (Y c,H):=by
 rw[h.is.ld (by have:=(zaf.1 hi).1;omega),zaw,hi];rfl
def akV(s:S16):(s <<< 1) ^^^ ((s >>> 15)*4129#16)=shS s:=by
 unfold shS
 congr 1
 have d:=s.isLt;have b:s >>> 15=if s.msb then 1#16 else 0#16:=by
  apply BitVec.eq_of_toNat_eq
  rw[BitVec.toNat_ushiftRight,zcG,BitVec.msb_eq_decide];by_cases h:2 ^ (16-1)<=s.toNat
  ·simp only[h,decide_true,if_true];show s.toNat / 2 ^ 15=1;omega
  ·simp only[h,decide_false,zal,if_false];show s.toNat / 2 ^ 15=0;omega
 rw[b];cases s.msb <;> simp
def ajj {x:AV}{n i:Int}(H:ah):∀(k j:Nat),j+k=8->∀s:S16,FQ cl0 [U16 s,x,I n,I i,I j] H=Bc cl0 [U16 (shN k s),x,I n,I (IntKind.wrap .i64 (i+1))] H
 |0,j,d,s=>by
  have b:¬((j:Int)<8):=V
  rw[Xi];simp only[xq_,b,bI];rfl
 |k+1,j,d,s=>by
  have b:(j:Int)<8:=V
  have e:(j:Int)+1=((j+1:Nat):Int):=V
  have g:=wrap_i64 (a:=((j+1:Nat):Int)) V V;have h:bi .shr 42 (U16 s) (.s (.int .u64 15))=some (U16 (s >>> 15)):=akk (k:=.u16) s 15 J J;have m:bi .shl 42 (U16 s) (.s (.int .u64 1))=some (U16 (s <<< 1)):=aa4 (k:=.u16) rfl s 1 J J;have o:bi .mul 42 (U16 (s >>> 15)) (.s (.int .u16 4129))=some (U16 ((s >>> 15)*4129#16)):=asJ (k:=.u16) rfl (s >>> 15) 4129#16;have p:bi .xor 42 (U16 (s <<< 1)) (U16 ((s >>> 15)*4129#16))=some (U16 (shS s)):=by rw[<-akV];exact akj (k:=.u16) rfl _ _
  have q:=ajj (x:=x) (n:=n) (i:=i) H k (j+1) V (shS s);rw[Xi];simp only[xq_,b,h,m,o,p,bI,e,g,q];rfl
def avP {H:ah}{x:AV}{l:List By}(b:dJ H x l):cl0 212 [x] H=some (U16 (vI 0xffff#16 l),H):=by
 have key:∀(k i:Nat),i+k=l.length->∀s:S16,Bc cl0 [U16 s,x,I l.length,I i] H=some (U16 (vI s (l.drop i)),H):=by
  intro k
  induction k with
  |zero=>
   intro i hi s;have d:¬((i:Int)<l.length):=V
   rw[Xh,zaP V];simp only[xq_,d];rfl
  |succ k j=>
   intro i hi s;have d:(i:Int)<l.length:=V
   have m:(i:Int)+1=((i+1:Nat):Int):=V
   have o:=wrap_i64 (a:=((i+1:Nat):Int)) (by have:=b.small;omega) (by have:=b.small;omega);obtain⟨c,hc⟩:∃c,l[i]?=some c:=⟨_,zab V⟩
   have p:=b.ix (i:=i) V;have q:=b.ld hc;have u:cv 5 42 (Y c) H=some (U16 (c.setWidth 16),H):=
    (aj9 (k:=.u8) (n:=(c.toNat:Int)) (H:=H)).trans (congrArg (λv=>some (v,H)) (anv (k:=.u8) (k':=.u16) rfl c))
   have w:bi .shl 42 (U16 (c.setWidth 16)) (.s (.int .u64 8))=some (U16 (c.setWidth 16 <<< 8)):=aa4 (k:=.u16) rfl (c.setWidth 16) 8 J J;have y:bi .xor 42 (U16 s) (U16 (c.setWidth 16 <<< 8))=some (U16 (s ^^^ (c.setWidth 16 <<< 8))):=akj (k:=.u16) rfl _ _;have e:=ajj (x:=x) (n:=(l.length:Int)) (i:=(i:Int)) H 8 0 rfl (s ^^^ (c.setWidth 16 <<< 8));rw[m,o]at e;have hd:l.drop i=c::l.drop (i+1):=by
    rw[zaT V];rw[zab V]at hc;rw[zaW hc]
   have g:=j (i+1) V (ZC s c);have z:vI s (c::l.drop (i+1))=vI (ZC s c) (l.drop (i+1)):=rfl;rw[Xh,hd,z,<-g];have A:((0:Nat):Int)=0:=rfl;rw[A]at e;simp only[xq_,d,p,q,u,w,y,e];rfl
 refine iR (ap7 _ _ _ ?_);have C:=b.is.lnS;have h:=key l.length 0 V 0xffff#16;rw[zaS]at h;simp only[xq_,ai5,C];exact h
def Xn {e:Nat}{z a c:AV}{H:ah}(ha:One a)(hc:One c):bsl e 1 [z] 2 [(0,a),(1,c)] H=some (.sl H.next 0 0 1 2 2 true,H.new (.blk 0 e [a,c])):=by
 have b:dK [z] 2=[z,z]:=rfl;unfold bsl;rw[b,Ik (off:=0) rfl ha.1 O,Ik (off:=1) rfl hc.1 O,dY];simp only[zb7,zb8];simp only[zb0,ha.2,hc.2,zcJ,zcz,if_true]
def ab5 {e by_ r ty len cap n:Nat}{ex:Bool}{y:AV}{cells new:List AV}{H:ah}(j:H.get r=.blk 0 ty cells)(hb:H.base<=r)(k:aH H y 1 n new)(hc:new.all AV.aS=true)(d:len+n<=cap)(q:len+n<=cells.length):
  app e 1 by_ (.sl r 0 0 1 len cap ex) y H=some (.sl r 0 0 1 (len+n) cap ex,H.put r (.blk 0 ty (aN cells len new))):=by
 obtain⟨o,p⟩:=k.wS;simp only[app,o,p];unfold dW;rw[if_pos ⟨k.1,hc⟩];simp only[j];rw[if_pos ⟨trivial,trivial,V⟩];by_cases m:n=0
 ·subst m;have i:new=[]:=zaq (by have:=k.1;omega);subst i;rw[if_pos rfl];have:aN cells len []=cells:=by simp[aN]
  rw[this,zbL];have:H.put r (.blk 0 ty cells)=H:=by
   unfold ah.put;cases H with
   |mk n b g=>
    simp only at j ⊢
    congr 1
    funext x
    split
    ·rename_i h;rw[h,j]
    ·rfl
  rw[this]
 ·rw[if_neg m,if_pos d,if_pos ⟨hb,V⟩];simp
def auh(H:ah)(n:Nat)(h0:0<n)(k:n<10000):cl0 234 [zN,I n] H=some (.sl H.next 0 0 1 0 n false,H.new (.blk 0 (5+gV) (dK [.s (.int .u8 0)] n))):=by
 refine iR (aqG _ _ _ _ ?_);have d:¬((n:Int)<0):=V
 have e:agF Tryz.prog 220 zN=some (I 0):=Z
 have w0:IntKind.wrap .i64 ((0:Int)-0)=0:=rfl;have w1:IntKind.wrap .i64 ((n:Int)-0)=n:=by rw[Int.sub_zero];exact wrap_i64 V V
 have g0:(0:Int)<n:=V
 have g:slS 1 zN none (some (I 0)) none=some zN:=Z
 have h:apz 5 1 1 [.s (.int .u8 0)] zN (I n) H=some (.sl H.next 0 0 1 n n false,H.new (.blk 0 (5+gV) (dK [.s (.int .u8 0)] n))):=by
  show(if 0<=(n:Int)/\(n:Int)<=most/\(n:Int)*1<=most then dW 5 1 1 zN (n:Int).toNat (dK [.s (.int .u8 0)] (n:Int).toNat) H else none)=_;have hm:(n:Int)<=most:=by unfold most;omega
  rw[if_pos ⟨V,hm,V⟩,zam];unfold dW;have i:(dK [AV.s (.int .u8 0)] n).length=n*1:=by rw[kZ];simp
  rw[if_pos ⟨i,xZ rfl n⟩];simp only;rw[if_neg V,if_pos ⟨by unfold most;omega,by unfold most;omega⟩]
 have j:slS 1 (.sl H.next 0 0 1 n n false) none (some (I 0)) none=some (.sl H.next 0 0 1 0 n false):=Wv V V;have b:∀H,lnS zN H=some (I 0,H):=λ_=>rfl;simp only[xq_,aji,OB,Oz,d,e,b,lH,w0,w1,g0,g,h,j]
def akW {c:By}:One (Y c):=⟨rfl,rfl⟩
def ab6 {H:ah}{x:AV}{l:List By}(h:dJ H x l):One x:=by
 obtain⟨_,b⟩:=h.is;cases x with
 |sl r g off d len e ex=>exact wU
 |vs n m l=>exact ahf
 |s v=>cases v <;> first|exact b.elim|exact⟨rfl,rfl⟩
 |_=>exact b.elim
def avQ {H:ah}(hb:H.base<=H.next){a x y:AV}{l m:List By}(ha:aH H a 1 2 [x,y])(hx:dJ H x l)(hy:dJ H y m)(hm:0<m.length):
  cl0 213 [a] H=some (.sl H.next 0 0 1 (l.length+m.length) (l.length+m.length) false,H.new (.blk 0 (5+gV) ((l++m).map Y))):=by
 have sl:=hx.small;have sm:=hy.small;refine iR (ap8 _ _ _ ?_);have ln:=ha.lnS;have i0:=ha.ix (k:=.i64) (i:=0) (by decide) (by decide);have i1:=ha.ix (k:=.i64) (i:=1) (by decide) (by decide);have d0:ld (eP a 0) H=some (x,H):=ha.ld (by decide);have d1:ld (eP a 1) H=some (y,H):=ha.ld (by decide);have lx:=hx.is.lnS;have ly:=hy.is.lnS;let Z:ah->List AV->ah:=λH l=>H.new (.blk 0 (5+gV) l)
 obtain⟨n,hn⟩:∃n,n=l.length+m.length:=⟨_,rfl⟩
 have gr:=auh H n (by omega) (by omega);have K:∀cs,Gro H (H.new (.blk 0 (5+gV) cs)):=λcs=>Gro.new H 0 _ cs;have hz:(dK [AV.s (.int .u8 0)] n).length=n:=by rw[kZ];simp
 -- behind the first
 let c1:=aN (dK [AV.s (.int .u8 0)] n) 0 (l.map Y);have a1:=ab5 (e:=5) (by_:=1) (r:=H.next) (ex:=false) (cap:=n) (H:=H.new (.blk 0 (5+gV) (dK [.s (.int .u8 0)] n))) (aP rfl) (by rw[jh];exact hb) (hx.gro (K _)).is (ae1 l) (len:=0) (by omega) (by omega);rw[Ij,za7]at a1;have hc1:c1.length=n:=by simp only[c1,aN,zar,zau,zaR,zaz,hz];omega
 have a2:=ab5 (e:=5) (by_:=1) (r:=H.next) (ex:=false) (cap:=n) (H:=H.new (.blk 0 (5+gV) c1)) (aP rfl) (by rw[jh];exact hb) (hy.gro (K _)).is (ae1 m) (len:=l.length) (by omega) (by omega);rw[Ij]at a2;have hc2:aN c1 l.length (m.map Y)=(l++m).map Y:=by
  simp only[c1,aN,zdF,zaN,za7,zaz];rw[zcl (by simp),zay (by simp),List.drop_append,zaP (by simp),zbN];rw[zaP (by simp only[hz,zaz];omega)];simp
 rw[hc2]at a2;have ga:=λcs=>(ha.iQ (K cs).next λr _ hr=>(K cs).same r hr)
 have li:=λcs=>(ga cs).lnS;have j0:=λcs=>(ga cs).ix (k:=.i64) (i:=0) (by decide) (by decide);have j1:=λcs=>(ga cs).ix (k:=.i64) (i:=1) (by decide) (by decide);have e0:∀cs,ld (eP a 0) (H.new (.blk 0 (5+gV) cs))=some (x,H.new (.blk 0 (5+gV) cs)):=λcs=>(ga cs).ld (by decide);have e1:∀cs,ld (eP a 1) (H.new (.blk 0 (5+gV) cs))=some (y,H.new (.blk 0 (5+gV) cs)):=λcs=>(ga cs).ld (by decide);have t0:((0:Int).toNat)=0:=rfl;have t1:((1:Int).toNat)=1:=rfl;rw[t0]at i0;rw[t1]at i1;have j0:∀cs,ix 1 a (I 0) (H.new (.blk 0 (5+gV) cs))=some (eP a 0,H.new (.blk 0 (5+gV) cs)):=j0;have j1:∀cs,ix 1 a (I 1) (H.new (.blk 0 (5+gV) cs))=some (eP a 1,H.new (.blk 0 (5+gV) cs)):=j1;have w1:IntKind.wrap .i64 ((0:Int)+l.length)=l.length:=by rw[Int.zero_add];exact wrap_i64 (by omega) (by omega)
 have w2:IntKind.wrap .i64 ((l.length:Int)+m.length)=n:=by rw[hn];have:=wrap_i64 (a:=((l.length+m.length:Nat):Int)) (by omega) (by omega);rwa [Int.natCast_add]at this ⊢
 have p1:IntKind.wrap .i64 (1:Int)=1:=rfl;have p2:IntKind.wrap .i64 (2:Int)=2:=rfl;have q1:¬((l.length:Int)<0):=by omega
 have q2:¬((n:Int)<0):=by omega
 have z2:((2:Nat):Int)=2:=rfl;rw[z2]at ln;have li:∀cs,lnS a (H.new (.blk 0 (5+gV) cs))=some (I 2,H.new (.blk 0 (5+gV) cs)):=li;rw[<-hn]at a2 ⊢;simp only[c1]at a2;simp only[xq_,ai6,ln];rw[Ou];simp only[Int.reduceLT,Int.reduceAdd,xq_,FT,i0,d0,lx,bI,w1,q1,p1];rw[Ou];simp only[Int.reduceLT,Int.reduceAdd,xq_,FT,i1,d1,ly,bI,w2,q2,p2];rw[Ou];simp only[Int.reduceLT,xq_,gr,li];rw[Ov];simp only[Int.reduceLT,Int.reduceAdd,xq_,j0,e0,a1,bI,p1];rw[Ov];simp only[Int.reduceLT,Int.reduceAdd,xq_,j1,e1,a2,bI,p2];rw[Ov];simp only[Int.reduceLT,xq_]
def dJ.made {H:ah}{l:List By}{ty:TypeId}{ex:Bool}(h:l.length<1000):dJ (H.new (.blk 0 ty (l.map Y))) (.sl H.next 0 0 1 l.length l.length ex) l:=
 ⟨jX O,h⟩
def akX {H:ah}(hb:H.base<=H.next){x:AV}{l:List By}(hx:dJ H x l)(hl:l.length<900):
  ∃y H',cl0 177 [x] H=some (y,H')/\Gro H H'/\dJ H' y (jQ l)/\H'.base<=H'.next:=by
 obtain⟨s,hs⟩:∃s,vI 0xffff#16 l=s:=⟨_,rfl⟩
 have e1:=avP hx;rw[hs]at e1;have e2:bi .shr 42 (U16 s) (.s (.int .u64 8))=some (U16 (s >>> 8)):=akk (k:=.u16) s 8 (by decide) (by decide);have e3:∀H,cv 42 5 (U16 (s >>> 8)) H=some (Y (ZE s),H):=λH=>
  (aaD (k:=.u16) (n:=((s >>> 8).toNat:Int)) (H:=H)).trans (congrArg (λv=>some (v,H)) (anv (k:=.u16) (k':=.u8) rfl (s >>> 8)))
 have e4:∀H,cv 42 5 (U16 s) H=some (Y (ZF s),H):=λH=>
  (aaD (k:=.u16) (n:=(s.toNat:Int)) (H:=H)).trans (congrArg (λv=>some (v,H)) (anv (k:=.u16) (k':=.u8) rfl s))
 let H1:=H.new (.blk 0 5 [Y (ZE s),Y (ZF s)]);let y1:AV:=.sl H.next 0 0 1 2 2 true
 let H2:=H1.new (.blk 0 220 [x,y1]);have g1:Gro H H1:=Gro.new H 0 _ _;have g2:Gro H1 H2:=Gro.new H1 0 _ _;have by1:dJ H1 y1 [ZE s,ZF s]:=dJ.made (l:=[ZE s,ZF s]) (by simp);have ha:aH H2 (.sl H1.next 0 0 1 2 2 true) 1 2 [x,y1]:=jX rfl;have hb2:H2.base<=H2.next:=by simp only[H2,H1,jh,eF];omega
 have ec:=avQ hb2 ha (hx.gro (g1.trans g2)) (by1.gro g2) (by simp);have hse:jQ l=l++[ZE s,ZF s]:=by unfold jQ;rw[hs]
 have hlen:(jQ l).length=l.length+2:=by rw[hse];simp
 have bm:=dJ.made (H:=H2) (l:=jQ l) (ty:=5+gV) (ex:=false) (by omega);rw[hlen]at bm;have l2:([ZE s,ZF s]:List By).length=2:=rfl;rw[<-hse,l2]at ec;refine⟨_,_,iR (apB _ _ _ (r:=(.sl H2.next 0 0 1 (l.length+2) (l.length+2) false,H2.new (.blk 0 (5+gV) ((jQ l).map Y)))) ?_),(g1.trans g2).trans (Gro.new H2 0 _ _),bm,by rw[jh,eF];omega⟩;have b1:bs 220 2 [(0,Y (ZE s)),(1,Y (ZF s))] H=some (y1,H1):=(Wq (by decide)).trans (Xn akW akW);have b2:bs 326 2 [(0,x),(1,y1)] H1=some (.sl H1.next 0 0 1 2 2 true,H2):=(amN (by decide)).trans (Xn (ab6 hx) wU);simp only[xq_,aiI,e1,e2,e3,e4,b1,b2,ec]
def Ei:∀(d:List Int) (b:ByteArray),(d.foldl (λs n=>s.push (UInt8.ofNat n.toNat)) b).data.toList=b.data.toList++d.map λn=>UInt8.ofNat n.toNat
 |[],b=>by simp
 |n::d,b=>by
  rw[zbW,Ei d];simp[ByteArray.push]
def ab7 {l m:List By}(h:PV (l.map λc=>(c.toNat:Int))=PV (m.map λc=>(c.toNat:Int))):l=m:=by
 have h1:=congrArg (λb:ByteArray=>b.data.toList) h;unfold PV at h1;simp only[Ei,zcZ]at h1;have h2:l.map (λc:By=>UInt8.ofBitVec c)=m.map (λc:By=>UInt8.ofBitVec c):=by
  have key:∀l:List By,l.map ((λn:Int=>UInt8.ofNat n.toNat) ∘ λc:By=>(c.toNat:Int))=l.map (λc:By=>UInt8.ofBitVec c):=λl=>zbo λc _=>by
   simp only[Function.comp,zam]
   apply UInt8.toBitVec_inj.1
   simp
  rw[<-key,<-key]
  simpa using h1
 exact(List.map_inj_right λa b h=>by simpa using h).1 h2
def Df:∀l:List By,oK (l.map Y)=some (l.map λc=>(c.toNat:Int))
 |[]=>rfl
 |c::l=>by
  show(match oK (l.map Y)with|some b=>some ((c.toNat:Int)::b)|none=>none)=_;rw[Df l];rfl
def aqH {H:ah}{x:AV}{l:List By}(i:dJ H x l):cv 220 9 x H=some (.s (.string (PV (l.map λc=>(c.toNat:Int)))),H):=by
 have e:Gs Tryz.prog 220 9=true:=Z
 obtain⟨q,d⟩:=i.is;show kV (zW Tryz.prog 220 9 x) x H=_;unfold kV zW;rw[if_pos e];cases x with
 |sl r g off j len k ex=>
  obtain⟨rfl,rfl,_,u,all,o,h,p⟩:=d;simp only[bQ,zaj,al5,if_true,o];rw[if_pos ⟨trivial,h⟩,<-p,Df];rfl
 |vs n m cs=>
  obtain⟨rfl,rfl,rfl⟩:=d;simp only[al5,if_true,Df];rfl
 |s v=>
  cases v with
  |slice a b c=>
   cases a with
   |none=>
    obtain⟨rfl,rfl,h⟩:=(show b=0/\c=0/\l.length=0 from d)
    have:l=[]:=zaq h;subst this;rfl
   |some a=>exact d.elim
  |_=>exact d.elim
 |_=>exact d.elim
def ab8 {H:ah}{x y:AV}{l m:List By}(d:dJ H x l)(g:dJ H y m):cl0 181 [x,y] H=some (B (decide (l=m)),H):=by
 refine iR (apE _ _ _ _ ?_);have i:=aqH d;have j:=aqH g;have k:∀a c:ByteArray,bi .eql 9 (.s (.string a)) (.s (.string c))=some (B (decide (a=c))):=λa c=>by
  show pY _ _ _ _ _=_;rcases a with⟨a⟩
  rcases c with⟨c⟩
  by_cases h:a=c
  ·simp[pY,AV.val?,eqGuard,binOp,Op.stringOp,dO,h]
  ·have b:¬a.toList=c.toList:=λe=>h (zcp.1 e);rw[<-ByteArray.toList_eq ⟨a⟩,<-ByteArray.toList_eq ⟨c⟩]at b;simp[pY,AV.val?,eqGuard,binOp,Op.stringOp,dO,h,b]
 have n:decide (PV (l.map λc=>(c.toNat:Int))=PV (m.map λc=>(c.toNat:Int)))=decide (l=m):=by
  by_cases h:l=m
  ·rw[h];simp
  ·rw[decide_eq_false h,decide_eq_false λe=>h (ab7 e)]
 simp only[xq_,aiM,i,j,k,n]
def dJ.to_ {H:ah}{x:AV}{l:List By}(h:dJ H x l){n:Nat}(j:n<=l.length):∃y,slS 1 x none (some (I n)) none=some y/\dJ H y (l.take n):=by
 obtain⟨⟨z,d⟩,A⟩:=h;have e:(l.take n).length=n:=by rw[zau];omega
 have small:(l.take n).length<1000:=V
 cases x with
 |sl r g off i len m ex=>
  obtain⟨rfl,rfl,⟨o,hc⟩,p,all,q,k,u⟩:=d;refine⟨_,Wv V V,⟨⟨O,rfl,by rw[e,zam],⟨o,by rw[zam];omega⟩,p,all,q,by rw[e];omega,?_⟩,small⟩⟩;rw[zcy,u,zb4,e]
  congr 1
  omega
 |vs k' i cs=>
  obtain⟨rfl,rfl,rfl⟩:=d;refine⟨.vs n 1 ((l.take n).map Y),?_,⟨O,rfl,by rw[e],rfl⟩,small⟩;have w:(0:Int)<=n:=V
  simp only[slS,jc,w,if_true,zam];rw[if_pos ⟨trivial,V,j⟩];simp
 |s v=>
  cases v with
  |slice a b c=>
   cases a with
   |none=>
    obtain⟨rfl,rfl,k⟩:=(show b=0/\c=0/\l.length=0 from d)
    have:l=[]:=zaq k;subst this;have:n=0:=by simpa using j
    subst this;exact⟨zN,Z,⟨rfl,rfl,rfl,rfl⟩,J⟩
   |some a=>exact d.elim
  |_=>exact d.elim
 |_=>exact d.elim
def ab9 {H:ah}{x:AV}{l:List By}(d:dJ H x l)(k:l≠[]):cl0 182 [x] H=some (.sl (H.next+1) 0 0 1 l.length l.length false,(H.new (.blk 0 5 [])).new (.blk 0 (5+gV) (l.map Y))):=by
 have i:l.length≠0:=λe=>k (zaq e);have j:=ug (e:=5) (by_:=1) (r:=H.next) (H:=H.new (.blk 0 5 [])) qA (d.gro (Gro.new H 0 _ _)).is (ae1 l) i (by have:=d.small;unfold most;omega) (by have:=d.small;unfold most;omega);simp only[eF]at j;have o:bi .eql 220 x zN=some (B false):=by
  obtain⟨_,h⟩:=d.is;cases x with
  |sl r g off p len q ex=>exact CO Tryz.underlying220
  |vs n m l=>exact uh Tryz.underlying220
  |s v=>
   cases v with
   |slice a b c=>
    cases a with
    |none=>exact absurd h.2.2 i
    |some a=>exact h.elim
   |_=>exact h.elim
  |_=>exact h.elim
 refine iR (apF _ _ _ ?_);simp only[xq_,aiN,o,Wq,zD,j,zbq,zaX]
def afk {H:ah}(hb:H.base<=H.next){x:AV}{l:List By}(d:dJ H x l)(v:l.length<900)(o:∀m,l≠jQ m):
  ∃H',cl0 178 [x] H=some (.tup [zN,B false],H')/\Gro H H':=by
 have i:=d.is.lnS;have w1:=wrap_i64 (a:=(l.length:Int)-2) V V;by_cases g:(l.length:Int)-2<0
 ·refine⟨H,iR (abI _ _ _ ?_),Gro.refl H⟩;simp only[xq_,Xa,i,lH,w1,g]
 ·obtain⟨n,b⟩:∃n:Nat,(l.length:Int)-2=n:=⟨l.length-2,V⟩
  rw[b]at w1 g;obtain⟨y,p,h⟩:=d.to_ (n:=n) V;obtain⟨z,H1,q,j,u,_⟩:=akX hb h (by rw[zau];omega);have k:=ab8 u (d.gro j);rw[decide_eq_false λe=>o _ e.symm]at k;refine⟨H1,iR (abI _ _ _ ?_),j⟩;simp only[xq_,Xa,i,lH,b,w1,g,p,q,k,zai]
def akY {H:ah}(hb:H.base<=H.next){x:AV}{m:List By}(e:dJ H x (jQ m))(w:m.length<800)(h0:m≠[]):
  ∃y H',cl0 178 [x] H=some (.tup [y,B true],H')/\Gro H H'/\dJ H' y m/\(∃r,y=.sl r 0 0 1 m.length m.length false):=by
 have h:(jQ m).length=m.length+2:=by unfold jQ;simp
 have b:(jQ m).take m.length=m:=by unfold jQ;simp
 have k:=e.is.lnS;have w0:(((jQ m).length:Nat):Int)-2=(m.length:Int):=V
 have w1:=wrap_i64 (a:=(m.length:Int)) V V;have o:¬((m.length:Int)<0):=V
 obtain⟨y,p,d⟩:=e.to_ (n:=m.length) V;rw[b]at d;obtain⟨z,H1,q,g,u,_⟩:=akX hb d V;have i:=ab8 u (e.gro g);rw[decide_eq_true rfl]at i;have v:=ab9 (d.gro g) h0;have gg:Gro H1 ((H1.new (.blk 0 5 [])).new (.blk 0 (5+gV) (m.map Y))):=(Gro.new H1 0 _ _).trans (Gro.new _ 0 _ _);have j:=dJ.made (H:=H1.new (.blk 0 5 [])) (l:=m) (ty:=5+gV) (ex:=false) V;rw[eF]at j;refine⟨_,_,iR (abI _ _ _ (r:=(.tup [.sl (H1.next+1) 0 0 1 m.length m.length false,B true],(H1.new (.blk 0 5 [])).new (.blk 0 (5+gV) (m.map Y)))) ?_),g.trans gg,j,_,rfl⟩;simp only[xq_,Xa,k,lH,w0,w1,o,p,q,i,v,zae]
abbrev nP:bF:=λ_=>none
def cup(n:Nat)(g g':bF):bF:=λq=>if q<n then g q else g' q
structure Made(H H':ah)(g':bF):Prop where
 next:H.next<=H'.next
 base:H'.base=H.base
 same:∀r,r<H.next->H'.get r=H.get r
 good:Good H.next H' g'
section
variable {b:Nat}{H H' H'':ah}{g g':bF}{q:Nat}{cs:List Cell}
def Good.merge(G:Good b H g)(M:Made H H' g'):Good b H' (cup H.next g g'):=by
 obtain⟨h0,τ,X⟩:=G;obtain⟨k0,d,k1⟩:=M.good;have n1:=M.next
 refine⟨V,λr=>if r<H.next then τ r else d r,λq cs p=>?_⟩;unfold cup at p;split at p
 ·rename_i Q;exact(X q cs p).keep n1 λr i s t W ht=>⟨by rw[if_pos W];exact ht,M.same r W⟩
 ·rename_i Q;have R:=k1 q cs p
  -- all its blocks are new
  have key:∀{T:Tag} {x:AV} {m:Nat} {cells:List AV},OS H.next H' d T x m cells->OS b H' (λr=>if r<H.next then τ r else d r) T x m cells:=by
   intro T x m cells u;rcases u with u|⟨r,gg,off,n,v,ex,w,all,e,y,t2,z,A⟩
   ·exact .inl u
   ·exact .inr ⟨r,gg,off,n,v,ex,w,all,e,by simp only;rw[if_neg V];exact y,V,z,A⟩
  have h:∀{T:Tag} {x:AV} {k:IntKind} {C:List (Int × AV)},OM H.next H' d T x k C->OM b H' (λr=>if r<H.next then τ r else d r) T x k C:=by
   intro T x k C ⟨r,e,y,t2,z,A⟩;exact⟨r,e,by simp only;rw[if_neg V];exact y,V,z,A⟩
  obtain⟨w,xs,b1,b2,b3,b4⟩:=R.blk;have lo:=R.lo;refine⟨by rw[if_neg Q];exact R.tag,V,R.hi,R.tyl,w,xs,b1,b2,b3,λi c x hc o=>?_⟩;have:=b4 i c x hc o;cases c with
  |av _=>exact this
  |seq _ _=>exact key this
  |map _ _=>exact h this
  |maps _ _ _=>
   obtain⟨D,E,F,K⟩:=this;exact⟨D,h E,F,λj n cells x L o=>key (K j n cells x L o)⟩
  |ang _ _ _=>
   obtain⟨ys,E,F,K⟩:=this;exact⟨ys,key E,F,λj cells x L o=>key (K j cells x L o)⟩
def Good.aqI(G:Good b H g)(d:H.next<=q):cup H.next g (upd nP q cs)=upd g q cs:=by
 funext x
 unfold cup upd;split
 ·rw[if_neg V]
 ·split
  ·rfl
  ·exact(G.isNone V).symm
def Made.lt(M:Made H H' g')(h:g' q=some cs):H.next<=q/\q<H'.next:=⟨M.good.le h,M.good.lt h⟩
def Made.refl(h:H.base<=H.next):Made H H nP:=⟨zac _,rfl,λ_ _=>rfl,Good.empty H⟩
def Made.trans(M:Made H H' g)(b:Made H' H'' g'):Made H H'' (cup H'.next g g'):=
 ⟨zav M.next b.next,b.base.trans M.base,λr d=>by rw[b.same r (zax d M.next),M.same r d],M.good.merge b⟩
def Made.new(M:Made H H' g)(o:gB):Made H (H'.new o) g:=
 ⟨by rw[eF];have:=M.next;omega,by rw[jh];exact M.base,λr b=>by rw[bC (zax b M.next),M.same r b],M.good.new o⟩
def Made.wz {o:gB}(M:Made (H.new o) H' g):Made H H' g:=
 ⟨by have:=M.next;rw[eF]at this;omega,by rw[M.base,jh],λr b=>by rw[M.same r (by rw[eF];omega),bC b],M.good.weak (by rw[eF];omega)⟩
def Made.afl(M:Made H.guard H' g):Made H { H' with base:=H.base } g:=
 ⟨M.next,rfl,M.same,M.good.ext (zac _) λ_ _=>rfl⟩
def Made.step(M:Made H H' g)(G:Good H.next H'' g')(s:Step H.next H' H''):Made H H'' g':=
 ⟨zav M.next s.next,s.base.trans M.base,λr b=>by rw[s.low r b,M.same r b],G⟩
def Made.as(M:Made H H' g)(h:g'=g):Made H H' g':=h ▸ M
def kP {ty:TypeId}{xs:List AV}{cs:List Cell}(hc:xs.all AV.aS=true)(g:xs.length=cs.length)(h:∀(i:Nat) (c:Cell) (x:AV),cs[i]?=some c->xs[i]?=some x->c=.av x∨(x=zN/\∃m,c=.seq m []))(j:ty<gV:=by decide):
  Made H (H.new (.blk 0 ty xs)) (upd nP H.next cs):=by
 refine⟨za8 _,rfl,λr k=>bC k,by rw[eF];omega,λr=>if r=H.next then some (r,0,0,0)else none,λq n b=>?_⟩;unfold upd at b;split at b
 ·rename_i e;subst e;cases b;refine⟨O,zac _,by rw[eF];omega,wu (xs:=xs) (by simp[jw]) j,ty,xs,by simp[jw],g,hc,λi c x d o=>?_⟩;rcases h i c x d o with rfl|⟨rfl,m,rfl⟩
  ·exact rfl
  ·exact .inl ⟨rfl,rfl⟩
 ·cases b
def Q9 {n:Nat}{ty:TypeId}{xs:List AV}{cs:List Cell}(hn:H.next<=n)(hm:H'.next=n)(hb:H'.base=H.base)(hs:∀r,r<H.next->H'.get r=H.get r)(hc:xs.all AV.aS=true)(hl:xs.length=cs.length)(own:Nat->Option Nat)
  (h:∀(i:Nat) (c:Cell) (x:AV),cs[i]?=some c->xs[i]?=some x->c=.av x∨(x=zN/\∃m,c=.seq m [])∨∃r k,x=.mp r/\H.next<=r/\r<n/\own r=some i/\H'.get r=.map k []/\(c=.map k []∨∃m,c=.maps k m [])) (ht:ty<gV:=by decide):
  Made H (H'.new (.blk 0 ty xs)) (upd nP n cs):=by
 refine⟨by rw[eF];omega,hb,λr hr=>by rw[bC V,hs r hr],by rw[eF];omega,λr=>if r=n then some (r,0,0,0)else match own r with
  |some i=>some (n,i+1,0,0)
  |none=>none,λq cs' hq=>?_⟩
 unfold upd at hq;split at hq
 ·rename_i e;subst e;cases hq;refine⟨O,hn,by rw[eF];omega,wu (xs:=xs) (by rw[aP hm.symm]) ht,ty,xs,by rw[aP hm.symm],hl,hc,λi c x hci hx=>?_⟩;have om:∀r k,H.next<=r->r<q->own r=some i->H'.get r=.map k []->OM H.next (H'.new (.blk 0 ty xs)) (λr=>if r=q then some (r,0,0,0)else match own r with
    |some i=>some (q,i+1,0,0)
    |none=>none) (q,i+1,0,0) (.mp r) k []:=λr k h1 h2 h3 h4=>⟨r,rfl,by simp only;rw[if_neg V,h3],h1,by rw[eF];omega,by rw[bC V];exact h4⟩
  rcases h i c x hci hx with rfl|⟨rfl,m,rfl⟩|⟨r,k,rfl,h1,h2,h3,h4,rfl|⟨m,rfl⟩⟩
  ·exact rfl
  ·exact .inl ⟨rfl,rfl⟩
  ·exact om r k h1 h2 h3 h4
  ·exact⟨[],om r k h1 h2 h3 h4,rfl,λj n cells x hj=>by simp at hj⟩
 ·cases hq
end
def dD(c:Cache):List Cell:=[.seq 6 (c.l.flatMap Ent.av),.av (I c.sets),.av (I c.ways),.av (I c.dM)]
def qU(p:Proc):List Cell:=[.av (vsl 3 Opn.av p.ops),.seq 1 (p.bT.map I),.av (B p.fU)]
def mP(l:List Evn):List Cell:=[.seq 4 (l.flatMap Evn.av)]
def iT(t:Turns):List Cell:=[.map .i64 (Il (λn=>I n) t.iF),.maps .i64 2 (t.wait.map λe=>(e.1,e.2.flatMap λw=>[I w.1,I w.2]))]
def EF(c:Cfg)(dR:Rows):List Cell:=c.av.map .av++[.map .i64 (Il (λr=>.agg r.av) dR)]
section
variable {H:ah}
def acd(H:ah)(room:Int)(h:0<=room):∃H' q,cl 110 [I room] H=some (.ref q 0 0,H')/\Made H H' (upd nP q (nO [] room)):=by
 refine⟨_,H.next,bn rfl rfl (aoC _ _ _ (r:=(_,H.new (.blk 0 177 [zN,I room]))) ?_),kP rfl rfl λi c x hc b=>?_⟩
 ·have e:max (0:Int) room=room:=V
  simp only[Nat.reduceLT,Nat.reduceAdd,aN,xq_,hq_,ahQ,Nu,e,am2,jg,fK,ag1,aC]
 ·match i with
  |0=>right;cases hc;cases b;exact⟨rfl,9,rfl⟩
  |1=>left;cases hc;cases b;rfl
  |i+2=>cases hc
def Xo(H:ah)(room:Int)(h:0<=room):∃H' q,cl 111 [I room] H=some (.ref q 0 0,H')/\Made H H' (upd nP q (nO [] room)):=by
 refine⟨_,H.next,bn rfl rfl (aoD _ _ _ (r:=(_,H.new (.blk 0 200 [zN,I room]))) ?_),kP rfl rfl λi c x hc b=>?_⟩
 ·have e:max (0:Int) room=room:=V
  simp only[Nat.reduceLT,Nat.reduceAdd,aN,xq_,hq_,ahR,Nu,e,am4,jg,fK,ag4,aC]
 ·match i with
  |0=>right;cases hc;cases b;exact⟨rfl,9,rfl⟩
  |1=>left;cases hc;cases b;rfl
  |i+2=>cases hc
def afm(H:ah)(sets ways:Int)(h:1<=sets)(g:1<=ways):∃H' q,cl 112 [I sets,I ways] H=some (.ref q 0 0,H')/\Made H H' (upd nP q (dD ⟨[],sets,ways,0⟩)):=by
 refine⟨_,H.next,bn rfl rfl (aoE _ _ _ _ (r:=(_,H.new (.blk 0 147 [zN,I sets,I ways,zI]))) ?_),kP rfl rfl λi c x hc b=>?_⟩
 ·have e:max (1:Int) sets=sets:=V
  have d:max (1:Int) ways=ways:=V
  simp only[Nat.reduceLT,Nat.reduceAdd,aN,xq_,hq_,ahS,Nu,e,d,amZ,jg,fK,agY,aC]
 ·match i with
  |0=>right;cases hc;cases b;exact⟨rfl,6,rfl⟩
  |1=>left;cases hc;cases b;rfl
  |2=>left;cases hc;cases b;rfl
  |3=>left;cases hc;cases b;rfl
  |i+4=>cases hc
def afn(H:ah):∃H' q,cl 62 [] H=some (.ref q 0 0,H')/\Made H H' (upd nP q (mP [])):=by
 refine⟨_,H.next,bn rfl rfl (atz _ _ (r:=(_,H.new (.blk 0 186 [zN]))) ?_),kP rfl rfl λi c x hc b=>?_⟩
 ·simp only[Nat.reduceLT,xq_,hq_,aod,am3,jg,fK,aC]
 ·match i with
  |0=>right;cases hc;cases b;exact⟨rfl,4,rfl⟩
  |i+1=>cases hc
def afo(H:ah):∃H' q,cl 161 [] H=some (.ref q 0 0,H')/\Made H H' (upd nP q (iT ⟨[],[]⟩)):=by
 refine⟨_,H.next+2,bn rfl rfl (apw _ _ (r:=(_,((H.new (.map .i64 [])).new (.map .i64 [])).new (.blk 0 218 [.mp H.next,.mp (H.next+1)]))) ?_),Q9 (H':=(H.new (.map .i64 [])).new (.map .i64 [])) (by omega) (by rw[eF,eF]) rfl (λr hr=>by rw[bC (by rw[eF];omega),bC hr]) rfl rfl (λr=>if r=H.next then some 0 else if r=H.next+1 then some 1 else none) λi c x hc hx=>?_⟩
 ·have e:∀r,(AV.mp r).cells=[.mp r]:=λ_=>rfl;simp only[Nat.reduceLT,Nat.reduceAdd,aN,xq_,hq_,aiC,am7,jg,fK,ag7,aC,e,aan]
 ·match i with
  |0=>right;right;cases hc;cases hx;exact⟨H.next,.i64,rfl,zac _,by omega,by simp,by rw[bC (by rw[eF];omega),aP rfl],.inl rfl⟩
  |1=>right;right;cases hc;cases hx;exact⟨H.next+1,.i64,rfl,by omega,by omega,by simp,by rw[aP (by rw[eF])],.inr ⟨2,rfl⟩⟩
  |i+2=>cases hc
end
def Xp {d:Nat}{α:Type}{enc:α->List AV}(h:∀a,∀x∈enc a,Frz d x)(l:List α):∀x∈l.flatMap enc,Frz d x:=λx b=>by
 obtain⟨a,_,ha⟩:=za5.1 b;exact h a x ha
def akZ(o:Opn):∀x∈o.av,Frz 8 x:=λx b=>by
 simp only[Opn.av,zao,zaB,or_false]at b;rcases b with rfl|rfl|rfl <;> exact fC
def ace(o:Evn):∀x∈o.av,Frz 8 x:=λx b=>by
 simp only[Evn.av,zao,zaB,or_false]at b;rcases b with rfl|rfl|rfl|rfl <;> exact fC
def afp(H:ah)(l:List Opn)(hl:l.length<1000000000){x:AV}(hx:aH H x 3 l.length (l.flatMap Opn.av))(h0:l=[]->x=zN)(hn:l≠[]->bi .eql 62 x zN=some (B false)):cl 159 [x] H=some (vsl 3 Opn.av l,H):=by
 by_cases h:l=[]
 ·rw[h0 h];subst h;refine iy rfl rfl (aiz _ _ _ (r:=(zN,H.guard)) ?_) (by rw[gI];exact iY);have e:bi .eql 62 zN zN=some (B true):=by kernel_rfl
  simp only[xq_,abE,e]
 ·have h1:l.length≠0:=λe=>h (zaq e);have e2:=ug (e:=61) (by_:=24) (r:=H.guard.next) (H:=H.guard.new (.blk 0 61 [])) qA (hx.guard.new _) (EU oz l) h1 (by unfold most;omega) (by unfold most;omega);simp only[xY,eF]at e2;refine iy rfl rfl (aiz _ _ _ (r:=(.sl (H.next+1) 0 0 3 l.length l.length false,(H.guard.new (.blk 0 61 [])).new (.blk 0 (61+gV) (l.flatMap Opn.av)))) ?_) ?_
  ·simp only[xq_,abE,hn h,amI,zD,e2,zbq,zaX]
  ·rw[ET h];refine kS (by omega) (cells:=l.flatMap Opn.av) ?_ (iJ _ λx hx=>Xp akZ l x hx _ _);simp only[cZ,jw,eF,xY,if_true];rw[if_pos (by rw[dF eU,za7];exact⟨trivial,zac _⟩),zaS,zay (by rw[dF eU];exact zac _)]
def acf(H:ah)(n m:Int):cl 104 [I n,I m] H=some (B (jZ n m),H):=by
 refine bn rfl rfl (aow _ _ _ _ ?_);by_cases h:1<=n
 ·simp only[xq_,abo,h,jZ,zaJ]
 ·simp only[xq_,abo,h,jZ,zaL]
def afq(H:ah)(c:Cfg)(h:c.ok=true):cl 59 [.agg c.av] H=some (I 0,H):=by
 refine bg rfl rfl (atw _ _ _) ?_ fC;have w:=λH n m=>acf H n m;have e:=λH=>(fH H c.init).lnS;simp only[Cfg.ok,zah,decide_eq_true_eq]at h;obtain⟨⟨⟨⟨⟨⟨⟨a,b⟩,d⟩,f⟩,g⟩,i⟩,j⟩,k⟩:=h;have t:∀n m,1<=n/\n<=m->jZ n m=true:=λn m h=>by simp[jZ,h.1,h.2]
 have hm:IntKind.wrap .i64 (c.aO*c.aV)=c.aO*c.aV:=by
  have:c.aO*c.aV<=8*4:=zbV b.2 d.2 V V;have:0<=c.aO*c.aV:=zca V V;exact wrap_i64 V V
 have k':¬c.aO*c.aV<c.init.length:=V
 simp only[Nat.reduceLT,xq_,hq_,aoa,aC,Cfg.av,w,t _ _ a,t _ _ b,t _ _ d,t _ _ f,t _ _ g,t _ _ i,t _ _ j,e,iM,hm,k',zae]
def Xq(H:ah)(c:Cfg)(h:c.ok=true):cl 57 [.agg c.av] H=some (I c.iC,H):=by
 refine bg rfl rfl (atu _ _ _) ?_ fC;simp only[Cfg.ok,zah,decide_eq_true_eq]at h;obtain⟨⟨⟨⟨⟨⟨⟨a,b⟩,d⟩,f⟩,g⟩,i⟩,j⟩,k⟩:=h;have hm:IntKind.wrap .i64 (c.aO*c.aV)=c.aO*c.aV:=by
  have:c.aO*c.aV<=8*4:=zbV b.2 d.2 V V;have:0<=c.aO*c.aV:=zca V V;exact wrap_i64 V V
 simp only[Nat.reduceLT,xq_,hq_,an7,aC,Cfg.av,iM,hm,Cfg.iC]
structure avR(c:Cfg):Prop where
 aG:1<=c.aG/\c.aG<=6
 aO:1<=c.aO/\c.aO<=8
 aV:1<=c.aV/\c.aV<=4
 sets:1<=c.sets/\c.sets<=4
 ways:1<=c.ways/\c.ways<=3
 out:1<=c.out/\c.out<=8
 inn:1<=c.inn/\c.inn<=8
 init:(c.init.length:Int)<=c.aO*c.aV
 iC:1<=c.aO*c.aV/\c.aO*c.aV<=32
def qP {c:Cfg}(h:c.ok=true):avR c:=by
 simp only[Cfg.ok,zah,decide_eq_true_eq]at h;obtain⟨⟨⟨⟨⟨⟨⟨a,b⟩,d⟩,f⟩,g⟩,i⟩,j⟩,k⟩:=h;have e:c.aO*c.aV<=8*4:=zbV b.2 d.2 V V;have m:1*1<=c.aO*c.aV:=zbV b.1 d.1 V V;exact⟨a,b,d,f,g,i,j,k,V,V⟩
def ak0(H:ah)(n m:Int)(h:1<=m):cl 84 [I n,I m] H=some (I (wX n m),H):=by
 refine bn rfl rfl (atW _ _ _ _ ?_);by_cases b:n<0
 ·simp only[Int.reduceNeg,xq_,akF,b,wX]
 ·have e:n.tmod m=n % m:=zcA V;simp only[Int.reduceNeg,xq_,akF,b,vk (show m≠0 by omega),wX,e]
def xB(H:ah)(c:Cfg)(h:c.ok=true)(ak:Int):cl 42 [.agg c.av,I ak] H=some (I (c.aZ ak),H):=by
 have B:=qP h;refine bg rfl rfl (atg _ _ _ _) ?_ fC;have e:=λH=>ak0 H ak c.aG B.aG.1;simp only[Nat.reduceLT,xq_,hq_,anW,aC,Cfg.av,e,Cfg.aZ]
def I5(H:ah)(c:Cfg)(h:c.ok=true)(a:Int):cl 148 [.agg c.av,I a] H=some (.tup [I (c.bW a),I (c.dG a)],H):=by
 have B:=qP h;refine bg rfl rfl (aph _ _ _ _) ?_ (wW λx d=>by
  simp only[zao,zaB,or_false]at d;rcases d with rfl|rfl <;> exact fC)
 have e:=λH=>Xq H c h;by_cases b:a<0
 ·simp only[Nat.reduceLT,Int.reduceNeg,xq_,hq_,WS,aC (eu c),b,Cfg.bW,Cfg.dG,true_or]
 ·by_cases g:c.iC<=a
  ·simp only[Nat.reduceLT,Int.reduceNeg,xq_,hq_,WS,aC (eu c),b,g,Cfg.bW,Cfg.dG,or_true,e]
  ·have q:a.tdiv c.aV=a / c.aV:=Int.tdiv_eq_ediv_of_nonneg V;have r:a.tmod c.aV=a % c.aV:=zcA V;have j:0<=a / c.aV:=zde V (by have:=B.aV;omega);have k:a / c.aV<=a:=Int.ediv_le_self _ V;have m:c.iC<=32:=B.iC.2;have w:=wrap_i64 (a:=a / c.aV) V V;have z:c.aV≠0:=by have:=B.aV;omega
   have i:c.av[2]?=some (I c.aV):=rfl;simp only[Nat.reduceLT,Int.reduceNeg,xq_,hq_,WS,aC (eu c),b,g,Cfg.bW,Cfg.dG,or_false,e,i,aj0 z,vk z,q,r,w]
end
end Go.Proofs.YtgplhpgkompkmaaGreat
