/-
  Own work: an interpreter over named blocks, its soundness, and what the functions of this seat compute (part 4 of 12).
  Conditions: those of the statement alone.
-/
import Derived.Test.YtljogojaihgdlaaGreatProg
import Derived.KernelRfl
import Derived.RangeFuncFrom
import Derived.RangeFuncLeaves
import Derived.RangeFuncCalls
import Derived.OrdersIn
import Derived.Test.YtljogojaihgdlaaGreatHc
set_option maxRecDepth 100000
set_option linter.all false
set_option linter.unusedSectionVars false
set_option linter.unusedVariables false
set_option linter.unusedSimpArgs false
namespace Go.Proofs.YtljogojaihgdlaaGreat
noncomputable section
def atl:Ann:=⟨[(6,[1,2,7,9,10])],[(7,rF 6 (some true::rF 5 (some true::some false::some false::[])))],[]⟩
def QU:=kT Tryz.prog Tryz.f5 86 atl 0
def atm(C:aF)(a0 i j:AV)(H:ah):OA:=
 bnd (gV 24 a0 H) λk H=>
 bnd (lda 12 k H) λe H=>bnd (C 22 [e,(I 16)] H) λb H=>bo (aJ b 0) λd=>bo (aJ b 1) λm=>bo (aJ b 2) λg=>
 bo (bi .eql 62 d (.s (Go.Value.pointer none))) λh=>
 aX h
 (some ((B false),H))
 (QU C [i,j,d,g,(I 0)] H)
def agM(C:aF)(q u d v e:AV)(H:ah):QU C [q,u,d,v,e] H=
 bnd (lnS q H) λw H=>bo (bi .lss 3 e w) λj=>gl j true (some e) H λy H=>gl j true (bi .lss 3 y (I 60)) H λz H=>bo (cO j z (B false)) λA=>
 aX A
 (bnd (ix 4 q e H) λD H=>bnd (lda 4 D H) λE H=>bnd (unG H (C 25 [d] H.guard)) λF H=>bo (fl F 0) λG=>bo (aA d) λK=>fld K 0 H λL H=>bnd (unG H (C 21 [L] H.guard)) λM H=>bnd (C 24 [E,G,M] H) λQ H=>bnd (C 23 [d,Q] H) λaD H=>
  bo (bi .add 3 e (I 1)) λR=>
  QU C [q,u,d,v,R] H)
 (bnd (C 25 [d] H) λT H=>bnd (C 26 [T,v] H) λm H=>
  bnd (C 27 [d,m,u] H) λo H=>
  bo (bi .geq 3 o (I 0)) λg=>gl g true (some o) H λW H=>gl g true (some m) H λX H=>gl g true (bi .leq 3 W X) H λaa H=>bo (cO g aa (B false)) λh=>gl h true (some d) H λab H=>gdA (some h) true (C 28 [ab] H) H λad H=>gl h true (bi .eql 3 ad (I 0)) H λae H=>bo (cO h ae (B false)) λk=>gl k true (some d) H λaf H=>gdA (some k) true (C 29 [af] H) H λag H=>bo (cO k ag (B false)) λb=>gl b true (some d) H λai H=>gl b true (aA ai) H λal H=>gl b true (au al 0) H λam H=>gdA (some b) true (ld am H) H λao H=>gdA (some b) true (C 21 [ao] H) H λap H=>gl b true (bi .eql 3 ap (I 0)) H λaq H=>bo (cO b aq (B false)) λi=>gl i true (some d) H λar H=>gdA (some i) true (C 30 [ar,(I 1)] H) H λaw H=>gl i true (bi .eql 3 aw (I 0)) H λax H=>bo (cO i ax (B false)) λp=>gdA (some p) true (C 31 [] H) H λay H=>bo (cO p ay (B false)) λaz=>
  some (az,H)):=
 lpE.trans J
def atQ:Rn3 5 atm:=λ_ _ _ _ _ _ h=>
 rnG atl Tryz.func5 J J  h
def atS:Ann:=⟨[],[(1,some false::some false::some true::rF 3 (some true::rF 3 (some true::rF 3 (some true::rF 3 (some true::rF 3 (some true::rF 3 (some true::some false::some false::none::some false::[])))))))],[]⟩
def atn(C:aF)(a0:AV)(H:ah):OA:=
 bnd (gV 24 a0 H) λb H=>bnd (alc 26 [zI,zI,zI,zI,zI,zI,zI,zN] H) λT H=>
 bnd (alc 26 [zI,zI,zI,zI,zI,zI,zI,zN] H) λd H=>fld b 0 H λW H=>bnd (unG H (C 33 [W,(I 4)] H.guard)) λX H=>bo (bi .add 3 (I 1) X) λv7=>fld b 1 H λv9 H=>bnd (unG H (C 33 [v9,(I 4)] H.guard)) λe H=>bo (bi .add 3 (I 1) e) λg=>fld b 2 H λh H=>bnd (unG H (C 33 [h,(I 2)] H.guard)) λi H=>bo (bi .add 3 (I 1) i) λj=>fld b 3 H λk H=>bnd (unG H (C 33 [k,(I 2)] H.guard)) λm H=>bo (bi .add 3 (I 1) m) λo=>fld b 4 H λp H=>bnd (unG H (C 33 [p,(I 2)] H.guard)) λq H=>bo (bi .add 3 (I 1) q) λu=>fld b 5 H λv H=>bnd (unG H (C 33 [v,(I 3)] H.guard)) λw H=>bo (bi .add 3 (I 1) w) λy=>fld b 6 H λz H=>bnd (unG H (C 33 [z,(I 3)] H.guard)) λA H=>bo (bi .add 3 (I 1) A) λD=>bo (bd 26 [(0,v7),(1,g),(2,j),(3,o),(4,u),(5,y),(6,D)]) λE=>bnd (st 8 d E H) λ_ H=>
 fld b 7 H λF H=>fld d 1 H λG H=>fld d 2 H λK H=>bo (bi .mul 3 G K) λL=>bnd (C 36 [F,L] H) λM H=>bo (au d 7) λQ=>bnd (st 1 Q M H) λ_ H=>
 bnd (lda 8 d H) λR H=>bnd (st 8 T R H) λ_ H=>
 bnd (lda 8 T H) λr0 _=>some (r0,H)
def atT:Rn1 7 atn:=λ_ _ _ _ h=>
 rnG atS Tryz.func7 J J  h
def ato:Ann:=⟨[(5,[1,2,5,6,7])],[(6,none::rF 3 (some true::some true::rF 5 (some true::rF 5 (some true::some false::none::some false::[])))),(9,rF 9 []),(11,rF 11 [])],[]⟩
def IL:=kT Tryz.prog Tryz.f8 84 ato 0
def V3(C:aF)(d e g h i:AV)(H:ah):OA:=
 bo (bi .add 3 i (I 1)) λb=>
 IL C [d,e,g,h,b] H
def QV(C:aF)(E e g d h F:AV)(H:ah):OA:=
 fld e 8 H λi H=>bnd (ix 1 i h H) λj H=>bnd (ld j H) λk H=>fld g 0 H λm H=>bnd (C 33 [k,m] H) λb H=>
 bnd (ix 1 d b H) λo H=>bnd (ld o H) λp H=>bnd (lnS p H) λq H=>bo (bi .lss 3 q (I 24)) λu=>
 aX u
 (bnd (ix 1 d b H) λv H=>bnd (ld v H) λw H=>bnd (lda 3 F H) λy H=>bnd (bs 28 1 [(0,y)] H) λz H=>bnd (app 53 3 24 w z H) λA H=>bnd (ix 1 d b H) λD H=>bnd (st 1 D A H) λ_ H=>
  V3 C E e g d h H)
 (V3 C E e g d h H)
def aqU(C:aF)(a0 j:AV)(H:ah):OA:=
 bnd (gV 24 a0 H) λi H=>
 bnd (lda 12 i H) λd H=>bnd (C 7 [d] H) λe H=>bnd (alc 26 [zI,zI,zI,zI,zI,zI,zI,zN] H) λg H=>bnd (st 8 g e H) λ_ H=>
 fld g 0 H λb H=>bnd (mks 28 1 24 [zN] b b H) λh H=>
 IL C [j,i,g,h,(I 0)] H
def agN(C:aF)(j g i k e:AV)(H:ah):IL C [j,g,i,k,e] H=
 fld g 8 H λm H=>bnd (lnS m H) λo H=>bo (bi .lss 3 e o) λb=>gl b true (some e) H λp H=>gl b true (some j) H λq H=>gl b true (bi .lss 3 p q) H λu H=>bo (cO b u (B false)) λv=>
 aX v
 (bnd (bs 22 7 [(0,(I 1)),(1,(I 2)),(2,(I 3)),(3,(I 1)),(4,(I 2)),(5,(I 1)),(6,(I 4))] H) λw H=>bnd (alc 53 [zI,zI,zI] H) λh H=>fld g 9 H λy H=>bnd (unG H (C 37 [y,e] H.guard)) λz H=>bnd (unG H (C 33 [z,(I 7)] H.guard)) λA H=>bnd (ix 1 w A H) λD H=>bnd (ld D H) λE H=>fld g 10 H λF H=>bnd (unG H (C 37 [F,e] H.guard)) λG H=>fld i 1 H λK H=>fld i 2 H λL H=>bo (bi .mul 3 K L) λM=>bnd (unG H (C 33 [G,M] H.guard)) λQ H=>bo (bd 53 [(0,E),(1,Q)]) λR=>bnd (st 3 h R H) λ_ H=>
  fld h 0 H λT H=>bo (bi .eql 3 T (I 2)) λd=>gl d false (au h 0) H λW H=>gdA (some d) false (ld W H) H λX H=>gl d false (bi .eql 3 X (I 3)) H λaa H=>bo (cO d (B true) aa) λab=>
  aX ab
  (fld g 11 H λad H=>bnd (C 37 [ad,e] H) λae H=>bo (au h 2) λaf=>bnd (st 1 af ae H) λ_ H=>
  QV C j g i k e h H)
  (QV C j g i k e h H))
 (some (k,H)):=
 lpE.trans J
def atU:Rn2 8 aqU:=λ_ _ _ _ _ h=>
 rnG ato Tryz.func8 J J  h
def atp:Ann:=⟨[(4,[1,3,7,8])],[(4,rF 7 (some true::some false::some false::some true::rF 3 (some true::some true::rF 7 [])))],[]⟩
def V4:=kT Tryz.prog Tryz.f9 34 atp 0
def atq(C:aF)(a0:AV)(H:ah):OA:=
 bnd (gV 26 a0 H) λb H=>
 bo (bd 93 []) λd=>bnd (gV 93 d H) λe H=>
 fld b 0 H λg H=>
 V4 C [b,e,g,(I 0)] H
def agO(C:aF)(b d e g:AV)(H:ah):V4 C [b,d,e,g] H=
 bo (bi .lss 3 g e) λG=>
 aX G
 (bo (aA d) λh=>fld h 0 H λi H=>fld b 5 H λj H=>bnd (unG H (C 38 [j] H.guard)) λk H=>fld b 6 H λm H=>bnd (unG H (C 39 [m] H.guard)) λo H=>bo (bd 99 [(0,k),(1,o)]) λp=>fld b 5 H λq H=>bnd (unG H (C 38 [q] H.guard)) λu H=>bnd (unG H (C 39 [(I 1)] H.guard)) λv H=>bo (bd 99 [(0,u),(1,v)]) λw=>bo (bd 101 [(0,p),(1,w)]) λy=>bnd (bs 91 1 [(0,y)] H) λz H=>bnd (app 101 4 32 i z H) λA H=>bo (aA d) λD=>bo (au D 0) λE=>bnd (st 1 E A H) λ_ H=>
  bo (bi .add 3 g (I 1)) λF=>
  V4 C [b,d,e,F] H)
 (some (d,H)):=
 lpE.trans J
def atV:Rn1 9 atq:=λ_ _ _ _ h=>
 rnG atp Tryz.func9 J J  h
def al5(C:aF)(H:ah):OA:=
 bo (bd 103 []) λb=>bnd (gV 103 b H) λd H=>
 some (d,H)
def aqV:Rn0 10 al5:=λ_ _ _ h=>
 rnG an0 Tryz.func10 J J  h
def aqW:Ann:=⟨[],[(1,rF 4 (some true::some false::some true::rF 4 (some true::rF 4 [])))],[]⟩
def al6(C:aF)(a0 p q:AV)(H:ah):OA:=
 bnd (gV 26 a0 H) λb H=>
 fld b 3 H λu H=>fld b 4 H λd H=>bnd (unG H (C 40 [u,d] H.guard)) λe H=>bnd (unG H (C 41 [q] H.guard)) λg H=>bnd (lda 8 b H) λh H=>bnd (lda 8 b H) λi H=>bnd (unG H (C 42 [i,p] H.guard)) λj H=>bo (bd 42 [(0,j)]) λk=>bo (bd 46 [(0,e),(1,g),(2,h),(3,p),(4,k)]) λm=>bnd (gV 46 m H) λo H=>
 some (o,H)
def aqX:Rn3 11 al6:=λ_ _ _ _ _ _ h=>
 rnG aqW Tryz.func11 J J  h
def aqY:Ann:=⟨[],[(1,rF 12 [])],[]⟩
def al7(C:aF)(a0:AV)(H:ah):OA:=
 bo (aA a0) λg=>fld g 0 H λh H=>bnd (lnS h H) λi H=>bo (aA a0) λj=>fld j 1 H λb H=>bnd (lnS b H) λd H=>bo (bi .sub 3 i d) λe=>
 some (e,H)
def aqZ:Rn1 12 al7:=λ_ _ _ _ h=>
 rnG aqY Tryz.func12 J J  h
def Us(C:aF)(a0 b i:AV)(H:ah):OA:=
 bnd (C 43 [a0,b,i] H) λd H=>
 aX d
 (some ((I 1),H))
 (bnd (C 44 [a0,b] H) λe H=>
  aX e
  (some ((I 2),H))
  (bnd (C 45 [a0,b] H) λg H=>
  aX g
  (some ((I 3),H))
  (bnd (C 46 [a0,b,i] H) λh H=>
   aX h
   (some ((I 4),H))
   (some ((I 0),H)))))
def X6:Rn3 13 Us:=λ_ _ _ _ _ _ h=>
 rnG an0 Tryz.func13 J J  h
def aq0:Ann:=⟨[],[(7,rF 10 (some true::some true::rF 4 []))],[]⟩
def aas(C:aF)(a0 T W X:AV)(H:ah):OA:=
 bnd (C 47 [a0,T] H) λe H=>bo (aJ e 0) λk=>bo (aJ e 1) λm=>bnd (alc 112 [zI,zI,zI,zI,zI,zI,zI,zB,zN] H) λd H=>bnd (st 9 d k H) λ_ H=>
 bo (un .not m) λo=>
 aX o
 (some ((I 3),H))
 (bnd (lda 9 d H) λp H=>bnd (C 48 [p,W,X] H) λg H=>bo (aJ g 0) λq=>bo (aJ g 1) λh=>bnd (st 9 d q H) λ_ H=>
  bo (bi .neq 48 h (I 0)) λu=>
  aX u
  (some (h,H))
  (bo (aA a0) λv=>fld v 0 H λw H=>fld d 2 H λy H=>bnd (ix 4 w y H) λz H=>bnd (lda 4 z H) λA H=>fld d 0 H λD H=>bnd (unG H (C 50 [D] H.guard)) λE H=>bnd (unG H (C 49 [A,E] H.guard)) λF H=>bo (fl F 1) λG=>bnd (lda 9 d H) λK H=>bnd (C 51 [G,K] H) λi H=>
  bo (bi .neq 48 i (I 0)) λL=>
  aX L
  (some (i,H))
  (bnd (C 52 [a0,T] H) λb H=>bo (aJ b 0) λM=>bo (aJ b 1) λQ=>bo (aJ b 2) λaa=>bnd (alc 99 [zP,zP] H) λj H=>bnd (st 2 j M H) λ_ H=>
   fld j 0 H λR H=>bnd (C 53 [R,Q] H) λab H=>
   some ((I 0),H))))
def ad9:Rn4 14 aas:=λ_ _ _ _ _ _ _ h=>
 rnG aq0 Tryz.func14 J J  h
def aat(C:aF)(a0:AV)(H:ah):OA:=
 bnd (alc 44 [zI,zI,zI,zI,zI,zI,zN,zI,zI] H) λb H=>
 bo (aA a0) λu=>bo (au u 12) λv=>fld v 3 H λw H=>bo (bi .eql 3 w (I 0)) λe=>
 aX e
 (bo (bd 44 []) λg=>bnd (st 9 b g H) λ_ H=>
  bnd (lda 9 b H) λh _=>some (.tup [h,(B false)],H))
 (bo (aA a0) λi=>bo (au i 12) λj=>bnd (lda 9 j H) λk H=>bnd (alc 44 [zI,zI,zI,zI,zI,zI,zN,zI,zI] H) λd H=>bnd (st 9 d k H) λ_ H=>
  fld d 6 H λm H=>bnd (app 3 1 8 (.s (Go.Value.slice none 0 0)) m H) λo H=>bo (au d 6) λp=>bnd (st 1 p o H) λ_ H=>
  bnd (lda 9 d H) λq H=>bnd (st 9 b q H) λ_ H=>
  bnd (lda 9 b H) λh _=>some (.tup [h,(B true)],H))
def aiU:Rn1 20 aat:=λ_ _ _ _ h=>
 rnG an0 Tryz.func20 J J  h
def al8:Ann:=⟨[(4,[3,7,8,9])],[],[]⟩
def NM:=kT Tryz.prog Tryz.f21 20 al8 0
def al9(C:aF)(a0:AV)(H:ah):OA:=
 bnd (C 57 [a0] H) λb H=>bnd (lnS b H) λd H=>
 NM C [(I 0),b,d,(I 0)] H
def aau(C:aF)(d e g b:AV)(H:ah):NM C [d,e,g,b] H=
 bo (bi .lss 3 b g) λh=>
 aX h
 (bnd (ix 2 e b H) λi H=>bnd (lda 2 i H) λj H=>bnd (alc 99 [zP,zP] H) λq H=>bnd (st 2 q j H) λ_ H=>
  fld q 0 H λk H=>bnd (C 58 [k] H) λm H=>bo (bi .add 3 d m) λo=>
  bo (bi .add 3 b (I 1)) λp=>
  NM C [o,e,g,p] H)
 (some (d,H)):=
 lpE.trans J
def aq1:Rn1 21 al9:=λ_ _ _ _ h=>
 rnG al8 Tryz.func21 J J  h
def ama(C:aF)(a0 G:AV)(H:ah):OA:=
 bnd (gV 24 a0 H) λF H=>
 bnd (lda 12 F H) λj H=>bnd (C 7 [j] H) λk H=>bnd (alc 26 [zI,zI,zI,zI,zI,zI,zI,zN] H) λm H=>bnd (st 8 m k H) λ_ H=>
 bnd (lda 12 F H) λo H=>bnd (C 8 [o,G] H) λb H=>
 bnd (lda 8 m H) λp H=>bnd (C 59 [p,b] H) λg H=>bo (aJ g 0) λq=>bo (aJ g 1) λu=>
 bnd (lda 8 m H) λv H=>bnd (C 32 [v,b] H) λh H=>bo (aJ h 0) λi=>bo (aJ h 1) λw=>
 bo (un .not u) λd=>gl d false (some w) H λy H=>gl d false (bi .neq 48 y (I 0)) H λz H=>bo (cO d (B true) z) λe=>gl e false (some i) H λA H=>gl e false (bi .eql 62 A (.s (Go.Value.pointer none))) H λD H=>bo (cO e (B true) D) λE=>
 aX E
 (some (.tup [(.s (Go.Value.pointer none)),(.s (Go.Value.pointer none)),(.s (Go.Value.slice none 0 0))],H))
 (some (.tup [i,q,b],H))
def aq2:Rn2 22 ama:=λ_ _ _ _ _ h=>
 rnG an0 Tryz.func22 J J  h
def aq3:Ann:=⟨[],[(2,rF 13 []),(4,rF 16 [])],[]⟩
def aea(C:aF)(a0 K:AV)(H:ah):OA:=
 bnd (gV 68 K H) λd H=>
 fld d 0 H λL H=>
 aX L
 (bo (aA a0) λM=>fld M 0 H λg H=>fld d 1 H λh H=>fld d 2 H λi H=>fld d 3 H λj H=>bnd (C 14 [g,h,i,j] H) λk H=>bo (bi .eql 48 k (I 0)) λm=>
  some (m,H))
 (fld d 1 H λo H=>bnd (C 60 [a0,o] H) λe H=>
  bo (bi .neq 35 e (.s (Go.Value.pointer none))) λb=>gl b true (some e) H λp H=>gl b true (some a0) H λq H=>gl b true (aA q) H λu H=>gl b true (au u 0) H λv H=>gdA (some b) true (ld v H) H λw H=>gl b true (some a0) H λy H=>gl b true (aA y) H λz H=>gl b true (au z 1) H λA H=>gdA (some b) true (ld A H) H λD H=>gdA (some b) true (C 13 [p,w,D] H) H λE H=>gl b true (bi .neq 3 E (I 0)) H λF H=>bo (cO b F (B false)) λG=>
  some (G,H))
def aiV:Rn2 23 aea:=λ_ _ _ _ _ h=>
 rnG aq3 Tryz.func23 J J  h
def aq4:Ann:=⟨[],[(7,some false::some false::some true::rF 6 [])],[(7,[(4,6)])]⟩
def NP(C:aF)(d e:AV)(H:ah):OA:=
 bnd (lda 4 e H) λb H=>bnd (st 4 d b H) λ_ H=>
 bnd (lda 4 d H) λg _=>some (g,H)
def aav(C:aF)(a0 a1 a2:AV)(H:ah):OA:=
 bnd (gV 71 a0 H) λb H=>bnd (alc 68 [zB,zI,zI,.s (.int .u16 0)] H) λd H=>
 fld b 0 H λv9 H=>bo (bi .rem 3 v9 (I 23)) λh=>bo (bi .eql 3 h (I 22)) λi=>
 aX i
 (fld b 2 H λj H=>bo (bi .rem 3 j (I 2)) λk=>bo (bi .eql 3 k (I 0)) λm=>fld b 1 H λo H=>fld b 2 H λp H=>fld b 3 H λq H=>bo (bd 68 [(0,m),(1,o),(2,p),(3,q)]) λu=>bnd (st 4 d u H) λ_ H=>
  bnd (lda 4 d H) λv _=>some (v,H))
 (fld b 0 H λw H=>bnd (C 33 [w,(I 2)] H) λy H=>bo (bi .eql 3 y (I 0)) λz=>
  aX z
  (fld b 1 H λA H=>bnd (C 33 [A,a1] H) λD H=>bo (bd 68 [(1,D)]) λE=>bnd (st 4 d E H) λ_ H=>
  bnd (lda 4 d H) λv _=>some (v,H))
  (fld b 1 H λF H=>bnd (C 33 [F,a2] H) λG H=>bo (bd 68 [(0,(B true)),(1,G)]) λK=>bnd (alc 68 [zB,zI,zI,.s (.int .u16 0)] H) λe H=>bnd (st 4 e K H) λ_ H=>
  fld b 0 H λL H=>bo (bi .rem 3 L (I 7)) λM=>bo (bi .eql 3 M (I 6)) λQ=>
  aX Q
  (fld b 2 H λR H1=>bnd (unG H1 (C 33 [R,(I 120)] H1.guard)) λT H2=>bo (au b 3) λg=>bnd (ld g H2) λW H4=>bo (au e 2) λX=>bnd (st 1 X T H4) λ_ H6=>bo (au e 3) λaa=>bnd (st 1 aa W H6) λ_ H8=>ck (bT g) H4 H6 <|
   NP C d e H8)
  (NP C d e H)))
def aq5:Rn3 24 aav:=λ_ _ _ _ _ _ h=>
 rnG aq4 Tryz.func24 J J  h
def amb(C:aF)(a0:AV)(H:ah):OA:=
 bnd (alc 26 [zI,zI,zI,zI,zI,zI,zI,zN] H) λh H=>
 bo (aA a0) λi=>bo (au i 2) λj=>bnd (lda 8 j H) λk H=>bnd (alc 26 [zI,zI,zI,zI,zI,zI,zI,zN] H) λb H=>bnd (st 8 b k H) λ_ H=>
 fld b 7 H λm H=>bnd (C 55 [m] H) λd H=>bo (au b 7) λe=>bnd (st 1 e d H) λ_ H=>
 bnd (lda 8 b H) λg H=>bnd (st 8 h g H) λ_ H=>
 bnd (lda 8 h H) λo _=>some (o,H)
def aq6:Rn1 25 amb:=λ_ _ _ _ h=>
 rnG an0 Tryz.func25 J J  h
def amc:Ann:=⟨[(4,[2,5,8,9,10])],[],[]⟩
def NQ:=kT Tryz.prog Tryz.f26 26 amc 0
def amd(C:aF)(a0 b:AV)(H:ah):OA:=
 bnd (gV 26 a0 H) λd H=>
 bnd (lnS b H) λe H=>
 NQ C [d,(I 0),b,e,(I 0)] H
def aaw(C:aF)(d e g h b:AV)(H:ah):NQ C [d,e,g,h,b] H=
 bo (bi .lss 3 b h) λi=>
 aX i
 (bnd (ix 1 g b H) λj H=>bnd (ld j H) λk H=>
  bnd (lnS k H) λm H=>bo (bi .add 3 e m) λo=>
  bo (bi .add 3 b (I 1)) λp=>
  NQ C [d,o,g,h,p] H)
 (bo (bi .add 3 e (I 1)) λq=>bo (bi .mul 3 (I 40) q) λu=>fld d 0 H λv H=>bo (bi .add 3 v (I 6)) λw=>bo (bi .mul 3 u w) λy=>
  some (y,H)):=
 lpE.trans J
def aq7:Rn2 26 amd:=λ_ _ _ _ _ h=>
 rnG amc Tryz.func26 J J  h
def ame:Ann:=⟨[(3,[0,1,2,7])],[],[]⟩
def NU:=kT Tryz.prog Tryz.f27 31 ame 0
def NY(C:aF)(t0 d e g h:AV)(H:ah):OA:=
 bnd (C 30 [t0,h] H) λi H=>
 bo (bi .add 3 g (I 1)) λb=>
 NU C [t0,d,e,b] H
def aiW(C:aF)(a0 b d:AV)(H:ah):OA:=
 NU C [a0,b,d,(I 0)] H
def NZ(C:aF)(t0 g e d:AV)(H:ah):NU C [t0,g,e,d] H=
 bo (bi .lss 3 d g) λb=>gl b true (some t0) H λh H=>gdA (some b) true (C 61 [h] H) H λi H=>gl b true (un .not i) H λj H=>bo (cO b j (B false)) λk=>
 aX k
 (bnd (lnS e H) λm H=>bo (bi .lss 3 d m) λo=>
  aX o
  (bnd (ix 1 e d H) λp H=>bnd (ld p H) λq H=>
  NY C t0 g e d q H)
  (NY C t0 g e d (I 0) H))
 (some (d,H)):=
 lpE.trans J
def amf:Rn3 27 aiW:=λ_ _ _ _ _ _ h=>
 rnG ame Tryz.func27 J J  h
def amg:Ann:=⟨[(4,[3,9,10,11])],[],[]⟩
def N7:=kT Tryz.prog Tryz.f28 24 amg 0
def amh(C:aF)(a0:AV)(H:ah):OA:=
 bo (aA a0) λe=>fld e 10 H λd H=>bnd (lnS d H) λb H=>
 N7 C [(I 0),d,b,(I 0)] H
def aax(C:aF)(e g d b:AV)(H:ah):N7 C [e,g,d,b] H=
 bo (bi .lss 3 b d) λh=>
 aX h
 (bnd (ix 1 g b H) λi H=>bnd (ld i H) λj H=>
  bo (aA j) λk=>fld k 1 H λm H=>bnd (C 12 [m] H) λo H=>bo (bi .add 3 e o) λp=>
  bo (bi .add 3 b (I 1)) λq=>
  N7 C [p,g,d,q] H)
 (some (e,H)):=
 lpE.trans J
def aq8:Rn1 28 amh:=λ_ _ _ _ h=>
 rnG amg Tryz.func28 J J  h
def ami:Ann:=⟨[(3,[0,12,13,14])],[],[]⟩
def Dv:=kT Tryz.prog Tryz.f29 54 ami 0
def amj(C:aF)(a0:AV)(H:ah):OA:=
 bo (aA a0) λd=>fld d 10 H λb H=>bnd (lnS b H) λe H=>
 Dv C [a0,b,e,(I 0)] H
def aay(C:aF)(t0 g h d:AV)(H:ah):Dv C [t0,g,h,d] H=
 bo (bi .lss 3 d h) λm=>
 aX m
 (bnd (ix 1 g d H) λo H=>bnd (ld o H) λi H=>
  bnd (C 20 [i] H) λj H=>bo (aJ j 0) λp=>bo (aJ j 1) λb=>bnd (alc 44 [zI,zI,zI,zI,zI,zI,zN,zI,zI] H) λv5 H=>bnd (st 9 v5 p H) λ_ H=>
  bo (aA t0) λq=>fld q 0 H λu H=>bnd (C 62 [u,d] H) λk H=>bo (aJ k 0) λv=>bo (aJ k 1) λw=>
  gl b false (some i) H λy H=>gl b false (aA y) H λz H=>gl b false (au z 1) H λA H=>gdA (some b) false (ld A H) H λD H=>gdA (some b) false (C 63 [D] H) H λE H=>bo (cO b (B true) E) λe=>gl e false (some v) H λF H=>gl e false (some w) H λG H=>gl e false (bi .add 3 F G) H λK H=>gl e false (bi .gtr 3 K (I 0)) H λL H=>bo (cO e (B true) L) λM=>
  aX M
  (some ((B false),H))
  (bo (bi .add 3 d (I 1)) λQ=>
  Dv C [t0,g,h,Q] H))
 (bo (aA t0) λR=>fld R 0 H λT H=>bnd (C 21 [T] H) λW H=>bo (bi .eql 3 W (I 0)) λX=>
  some (X,H)):=
 lpE.trans J
def aq9:Rn1 29 amj:=λ_ _ _ _ h=>
 rnG ami Tryz.func29 J J  h
def aiX:Ann:=⟨[(7,[1,2,5,6,7,21,22]),(12,[5,6,9])],[],[]⟩
def N8:=kT Tryz.prog Tryz.f30 49 aiX 0
def IQ:=kT Tryz.prog Tryz.f30 49 aiX 1
def amk(C:aF)(a0 m:AV)(H:ah):OA:=
 bnd (gV 62 a0 H) λd H=>
 bnd (alc 3 [zI] H) λe H=>bnd (st 1 e (I 0) H) λ_ H=>
 bnd (ld d H) λg H=>bnd (C 25 [g] H) λh H=>bo (fl h 0) λb=>
 bo (bi .rem 3 m b) λi=>bo (bi .add 3 i b) λj=>bo (bi .rem 3 j b) λk=>
 N8 C [k,d,e,(.fn (.func 64) [] [d,e]),b,b,(I 0)] H
def aaz(C:aF)(g h i e j d b:AV)(H:ah):N8 C [g,h,i,e,j,d,b] H=
 bo (bi .lss 3 b d) λk=>
 aX k
 (bo (bi .add 3 g b) λm=>bo (bi .rem 3 m j) λo=>bo (bd 68 [(1,o)]) λp=>bnd (tJ Tryz.prog C e [p] H) λA H=>
  bo (bi .add 3 b (I 1)) λq=>
  N8 C [g,h,i,e,j,d,q] H)
 (bnd (ld h H) λu H=>bo (aA u) λv=>fld v 0 H λw H=>bnd (C 21 [w] H) λy H=>bo (bi .sub 3 y (I 1)) λz=>
  IQ C [i,e,z] H):=
 lpE.trans J
def aaA(C:aF)(d e b:AV)(H:ah):IQ C [d,e,b] H=
 bo (bi .geq 3 b (I 0)) λg=>
 aX g
 (bo (bd 68 [(0,(B true)),(1,b)]) λh=>bnd (tJ Tryz.prog C e [h] H) λk H=>
  bo (bi .sub 3 b (I 1)) λi=>
  IQ C [d,e,i] H)
 (bnd (ld d H) λj H=>
  some (j,H)):=
 lpE.trans J
def ara:Rn2 30 amk:=λ_ _ _ _ _ h=>
 rnG aiX Tryz.func30 J J  h
def aml(C:aF)(H:ah):OA:=
 bo (bd 26 [(0,(I 1)),(1,(I 1)),(2,(I 1)),(3,(I 1)),(4,(I 1)),(5,(I 1)),(6,(I 1))]) λA=>bnd (alc 26 [zI,zI,zI,zI,zI,zI,zI,zN] H) λg H=>bnd (st 8 g A H) λ_ H=>
 bnd (lda 8 g H) λD H=>bnd (bs 29 1 [(0,(.s (Go.Value.slice none 0 0)))] H) λE H=>bnd (C 32 [D,E] H) λy H=>bo (aJ y 0) λz=>bo (aJ y 1) λh=>
 bo (bi .eql 48 h (I 0)) λe=>gl e true (some z) H λi H=>gl e true (bi .neq 62 i (.s (Go.Value.pointer none))) H λj H=>bo (cO e j (B false)) λd=>gl d true (some z) H λk H=>gdA (some d) true (C 27 [k,(I 9),(.s (Go.Value.slice none 0 0))] H) H λm H=>gl d true (bi .eql 3 m (I 0)) H λo H=>bo (cO d o (B false)) λb=>gdA (some b) true (lda 8 g H) H λp H=>gdA (some b) true (bs 29 1 [(0,(.s (Go.Value.slice none 0 0)))] H) H λq H=>gdA (some b) true (C 26 [p,q] H) H λu H=>gl b true (bi .eql 3 u (I 280)) H λv H=>bo (cO b v (B false)) λw=>
 some (w,H)
def arb:Rn0 31 aml:=λ_ _ _ h=>
 rnG an0 Tryz.func31 J J  h
def amm:Ann:=⟨[(11,[2,8,32,33,34])],[(8,some false::some true::some true::rF 4 []),(12,rF 8 (some true::rF 5 []))],[]⟩
def N9:=kT Tryz.prog Tryz.f32 54 amm 0
def amn(C:aF)(a0 g:AV)(H:ah):OA:=
 bnd (gV 26 a0 H) λb H=>
 bnd (lda 8 b H) λh H=>bnd (C 65 [h] H) λd H=>
 bo (bi .neq 48 d (I 0)) λi=>
 aX i
 (some (.tup [(.s (Go.Value.pointer none)),d],H))
 (bnd (lda 8 b H) λj H=>bnd (C 66 [j,g] H) λe H=>
  bo (bi .neq 48 e (I 0)) λk=>
  aX k
  (some (.tup [(.s (Go.Value.pointer none)),e],H))
  (fld b 7 H λm H=>bnd (C 55 [m] H) λo H=>bo (au b 7) λp=>bnd (st 1 p o H) λ_ H=>
  bnd (lda 8 b H) λq H=>bnd (unG H (C 9 [q] H.guard)) λu H=>bnd (unG H (C 10 [] H.guard)) λv H=>bnd (lda 8 b H) λw H=>bo (bd 75 [(0,u),(1,v),(2,w)]) λy=>bnd (gV 75 y H) λz H=>
  bnd (lnS g H) λA H=>
  N9 C [b,z,g,A,(I 0)] H))
def aaB(C:aF)(h g d e b:AV)(H:ah):N9 C [h,g,d,e,b] H=
 bo (bi .lss 3 b e) λi=>
 aX i
 (bnd (ix 1 d b H) λj H=>bnd (ld j H) λk H=>
  bo (aA g) λm=>fld m 10 H λo H=>bnd (lda 8 h H) λp H=>bnd (unG H (C 11 [p,b,k] H.guard)) λq H=>bnd (bs 73 1 [(0,q)] H) λu H=>bnd (app 35 1 8 o u H) λv H=>bo (aA g) λw=>bo (au w 10) λy=>bnd (st 1 y v H) λ_ H=>
  bo (bi .add 3 b (I 1)) λz=>
  N9 C [h,g,d,e,z] H)
 (some (.tup [g,(I 0)],H)):=
 lpE.trans J
def ard:Rn2 32 amn:=λ_ _ _ _ _ h=>
 rnG amm Tryz.func32 J J  h
def Oa(C:aF)(b:AV)(H:ah):OA:=
 some (b,H)
def aeb(C:aF)(a0 d:AV)(H:ah):OA:=
 bo (bi .lss 3 d (I 1)) λh=>
 aX h
 (some ((I 0),H))
 (bo (bi .rem 3 a0 d) λb=>
  bo (bi .lss 3 b (I 0)) λe=>
  aX e
  (bo (bi .add 3 b d) λg=>
  Oa C g H)
  (Oa C b H))
def arf:Rn2 33 aeb:=λ_ _ _ _ _ h=>
 rnG an0 Tryz.func33 J J  h
def amo(C:aF)(a0 e:AV)(H:ah):OA:=
 bnd (lnS a0 H) λg H=>bnd (fU (kG Tryz.prog false #[3,3] 3 [g,e]) H) λh H=>bo (slS 1 a0 none (some h) none) λb=>bnd (C 68 [b] H) λd H=>
 some (d,H)
def arh:Rn2 36 amo:=λ_ _ _ _ _ h=>
 rnG an0 Tryz.func36 J J  h
def aiY(C:aF)(a0 e:AV)(H:ah):OA:=
 bnd (lnS a0 H) λg H=>bo (bi .lss 3 e g) λh=>
 aX h
 (bnd (ix 1 a0 e H) λb H=>bnd (ld b H) λd H=>
  some (d,H))
 (some ((I 0),H))
def ari:Rn2 37 aiY:=λ_ _ _ _ _ h=>
 rnG an0 Tryz.func37 J J  h
def amq(C:aF)(a0:AV)(H:ah):OA:=
 bnd (fU (kG Tryz.prog true #[3,3] 3 [(I 0),a0]) H) λb H=>bo (bd 138 [(1,b)]) λd=>bnd (gV 138 d H) λe H=>
 some (e,H)
def arj:Rn1 38 amq:=λ_ _ _ _ h=>
 rnG an0 Tryz.func38 J J  h
def amr(C:aF)(a0:AV)(H:ah):OA:=
 bnd (fU (kG Tryz.prog true #[3,3] 3 [(I 0),a0]) H) λb H=>bo (bd 140 [(1,b)]) λd=>bnd (gV 140 d H) λe H=>
 some (e,H)
def ark:Rn1 39 amr:=λ_ _ _ _ h=>
 rnG an0 Tryz.func39 J J  h
def ams(C:aF)(a0 d:AV)(H:ah):OA:=
 bnd (fU (kG Tryz.prog true #[3,3] 3 [(I 1),a0]) H) λe H=>bnd (fU (kG Tryz.prog true #[3,3] 3 [(I 1),d]) H) λg H=>bo (bd 143 [(1,e),(2,g)]) λh=>bnd (gV 143 h H) λb H=>
 some (b,H)
def arl:Rn2 40 ams:=λ_ _ _ _ _ h=>
 rnG an0 Tryz.func40 J J  h
def amu(C:aF)(a0:AV)(H:ah):OA:=
 bnd (C 69 [a0] H) λb H=>bo (bd 108 [(0,b)]) λd=>bnd (gV 108 d H) λe H=>
 some (e,H)
def arn:Rn1 41 amu:=λ_ _ _ _ h=>
 rnG an0 Tryz.func41 J J  h
def aro:Ann:=⟨[],[(1,some false::some false::some true::some true::rF 5 [])],[]⟩
def amv(C:aF)(a0 e:AV)(H:ah):OA:=
 bnd (gV 26 a0 H) λg H=>
 bnd (lda 8 g H) λh H=>bnd (unG H (C 70 [h,e] H.guard)) λi H=>bnd (unG H (C 71 [] H.guard)) λj H=>bnd (lda 8 g H) λk H=>bo (bd 150 [(0,i),(1,j),(2,k),(3,e)]) λb=>bnd (gV 150 b H) λd H=>
 some (d,H)
def arp:Rn2 42 amv:=λ_ _ _ _ _ h=>
 rnG aro Tryz.func42 J J  h
def IU(C:aF)(t0 b:AV)(H:ah):OA:=
 bnd (C 77 [t0,b] H) λd H=>
 some ((B true),H)
def Ob(C:aF)(a0 m a2:AV)(H:ah):OA:=
 bo (aA a0) λo=>fld o 10 H λp H=>bnd (C 72 [m,p] H) λi H=>bo (aJ i 0) λq=>bo (aJ i 1) λu=>bnd (alc 112 [zI,zI,zI,zI,zI,zI,zI,zB,zN] H) λv7 H=>bnd (st 9 v7 q H) λ_ H=>
 bo (un .not u) λv=>
 aX v
 (some ((B false),H))
 (bnd (lda 9 v7 H) λw H=>bnd (C 73 [a0,w] H) λj H=>bo (aJ j 0) λy=>bo (aJ j 1) λz=>bnd (alc 44 [zI,zI,zI,zI,zI,zI,zN,zI,zI] H) λg H=>bnd (st 9 g y H) λ_ H=>
  bo (un .not z) λA=>
  aX A
  (some ((B true),H))
  (bnd (lda 9 g H) λD H=>bo (aA a0) λE=>bo (au E 12) λF=>bnd (st 9 F D H) λ_ H=>
  bo (aA a0) λG=>fld G 1 H λK H=>bnd (C 74 [K] H) λh H=>bo (aJ h 0) λL=>bo (aJ h 1) λao=>bo (aJ h 2) λap=>bnd (alc 53 [zI,zI,zI] H) λk H=>bnd (st 3 k L H) λ_ H=>
  fld g 3 H λM H=>bo (bi .eql 3 M (I 0)) λb=>gl b true (au g 0) H λQ H=>gdA (some b) true (ld Q H) H λR H=>gl b true (bi .eql 3 R (I 3)) H λT H=>bo (cO b T (B false)) λd=>gl d true (au k 0) H λW H=>gdA (some d) true (ld W H) H λX H=>gl d true (bi .eql 3 X (I 4)) H λaa H=>bo (cO d aa (B false)) λab=>
  aX ab
  (bnd (C 75 [a0,a2,(I 0)] H) λaq H=>
   some ((B true),H))
  (fld g 3 H λad H=>bo (bi .eql 3 ad (I 0)) λae=>
   aX ae
   (some ((B true),H))
   (fld g 3 H λaf H=>bo (bi .eql 3 af (I 6)) λe=>gl e true (au g 0) H λag H=>gdA (some e) true (ld ag H) H λai H=>gl e true (bi .neq 3 ai (I 3)) H λal H=>bo (cO e al (B false)) λam=>
   aX am
   (bnd (C 76 [a0,a2] H) λar H=>
    IU C a0 m H)
   (IU C a0 m H)))))
def X7:Rn3 43 Ob:=λ_ _ _ _ _ _ h=>
 rnG an0 Tryz.func43 J J  h
def aec(C:aF)(a0 A:AV)(H:ah):OA:=
 bo (aA a0) λE=>bo (au E 11) λF=>fld F 0 H λe H=>bnd (C 78 [e] H) λg H=>bo (un .not g) λb=>gl b false (some A) H λh H=>gl b false (some a0) H λi H=>gl b false (aA i) H λj H=>gl b false (au j 10) H λk H=>gdA (some b) false (ld k H) H λm H=>gdA (some b) false (C 79 [h,m,(B false)] H) H λo H=>gl b false (bi .eql 3 o (I 0)) H λp H=>bo (cO b (B true) p) λq=>
 aX q
 (some ((B false),H))
 (bo (aA a0) λu=>bo (au u 11) λv=>fld v 0 H λw H=>bnd (C 80 [w] H) λd H=>bo (aJ d 0) λy=>bo (aJ d 1) λG=>bnd (alc 112 [zI,zI,zI,zI,zI,zI,zI,zB,zN] H) λD H=>bnd (st 9 D y H) λ_ H=>
  bnd (lda 9 D H) λz H=>bnd (C 81 [A,z] H) λK H=>
  some ((B true),H))
def aiZ:Rn2 44 aec:=λ_ _ _ _ _ h=>
 rnG an0 Tryz.func44 J J  h
def Oc(C:aF)(H:ah):OA:=
 some ((B true),H)
def aaC(C:aF)(a0 e:AV)(H:ah):OA:=
 bo (aA a0) λg=>fld g 10 H λh H=>bnd (C 79 [e,h,(B false)] H) λi H=>bo (bi .eql 3 i (I 0)) λj=>
 aX j
 (some ((B false),H))
 (bo (aA a0) λk=>fld k 10 H λm H=>bnd (C 82 [e,m] H) λb H=>bo (aJ b 0) λo=>bo (aJ b 1) λp=>bnd (alc 112 [zI,zI,zI,zI,zI,zI,zI,zB,zN] H) λz H=>bnd (st 9 z o H) λ_ H=>
  bo (un .not p) λq=>
  aX q
  (some ((B false),H))
  (bnd (lda 9 z H) λu H=>bnd (C 83 [a0,u] H) λd H=>bo (aJ d 0) λv=>bo (aJ d 1) λw=>bnd (alc 112 [zI,zI,zI,zI,zI,zI,zI,zB,zN] H) λA H=>bnd (st 9 A v H) λ_ H=>
  aX w
  (bnd (lda 9 A H) λy H=>bnd (C 81 [e,y] H) λD H=>
   Oc C H)
  (Oc C H)))
def aed:Rn2 45 aaC:=λ_ _ _ _ _ h=>
 rnG an0 Tryz.func45 J J  h
def arq:Ann:=⟨[],[(7,rF 12 [])],[]⟩
def nC(C:aF)(H:ah):OA:=
 some ((B true),H)
def qC(C:aF)(t0 y t2 h:AV)(H:ah):OA:=
 bo (aA t0) λz=>bo (au z 2) λA=>bnd (lda 8 A H) λD H=>fld h 1 H λE H=>bnd (C 86 [D,E] H) λi H=>bo (aJ i 0) λb=>bo (aJ i 1) λaq=>
 bo (aA t0) λF=>fld F 0 H λG H=>bnd (C 87 [G,b] H) λj H=>bo (aJ j 0) λK=>bo (aJ j 1) λd=>bnd (alc 166 [zI,zI,zI,zI,zB,zN] H) λk H=>bnd (st 6 k K H) λ_ H=>
 fld h 0 H λL H=>bo (bi .eql 3 L (I 4)) λe=>gl e true (some d) H λM H=>gl e true (un .not M) H λQ H=>bo (cO e Q (B false)) λR=>
 aX R
 (bnd (C 75 [t0,t2,(I 0)] H) λar H=>
  nC C H)
 (fld h 0 H λT H=>bo (bi .eql 3 T (I 4)) λW=>
  aX W
  (bnd (C 88 [t0,y,(I 3),b] H) λaw H=>
  nC C H)
  (gl d true (au h 0) H λX H=>gdA (some d) true (ld X H) H λaa H=>gl d true (bi .eql 3 aa (I 1)) H λab H=>gl d true (some ab) H λg H=>gl g false (au k 4) H λad H=>gdA (some g) false (ld ad H) H λae H=>gl d true (cO g (B true) ae) H λaf H=>bo (cO d af (B false)) λm=>
  aX m
  (bo (aA t0) λo=>fld o 0 H λp H=>bnd (C 89 [p,b] H) λax H=>
   bnd (C 76 [t0,t2] H) λay H=>
   nC C H)
  (bo (aA t0) λq=>fld q 0 H λag H=>bnd (C 90 [ag,b] H) λai H=>
   aX ai
   (bo (aA t0) λu=>fld u 0 H λal H=>bnd (C 91 [al,b] H) λv H=>bo (aJ v 0) λam=>bo (aJ v 1) λap=>
   bnd (C 88 [t0,y,(I 3),am] H) λaz H=>
   nC C H)
   (fld h 0 H λao H=>bo (bi .eql 3 ao (I 1)) λw=>
   aX w
   (bnd (C 88 [t0,y,(I 1),b] H) λaD H=>
    nC C H)
   (bnd (C 88 [t0,y,(I 2),b] H) λaE H=>
    nC C H)))))
def aaD(C:aF)(a0 M e:AV)(H:ah):OA:=
 bo (aA a0) λg=>fld g 1 H λh H=>bnd (C 74 [h] H) λd H=>bo (aJ d 0) λi=>bo (aJ d 1) λj=>bo (aJ d 2) λk=>bnd (alc 53 [zI,zI,zI] H) λm H=>bnd (st 3 m i H) λ_ H=>
 bo (un .not k) λb=>gl b false (some a0) H λo H=>gl b false (aA o) H λp H=>gl b false (au p 12) H λq H=>gl b false (au q 3) H λu H=>gdA (some b) false (ld u H) H λv H=>gl b false (bi .neq 3 v (I 0)) H λw H=>bo (cO b (B true) w) λy=>
 aX y
 (some ((B false),H))
 (bo (aA a0) λz=>fld z 1 H λA H=>bnd (C 63 [A] H) λD H=>bo (un .not D) λE=>
  aX E
  (bo (aA a0) λF=>fld F 1 H λG H=>bnd (C 84 [G] H) λQ H=>
  bo (aA a0) λK=>fld K 10 H λL H=>bnd (C 85 [e,L,j] H) λR H=>
  qC C a0 M e m H)
  (qC C a0 M e m H))
def aee:Rn3 46 aaD:=λ_ _ _ _ _ _ h=>
 rnG arq Tryz.func46 J J  h
def ai0(C:aF)(a0 y:AV)(H:ah):OA:=
 bnd (alc 112 [zI,zI,zI,zI,zI,zI,zI,zB,zN] H) λg H=>
 bnd (C 52 [a0,y] H) λb H=>bo (aJ b 0) λh=>bo (aJ b 1) λi=>bo (aJ b 2) λj=>bnd (alc 99 [zP,zP] H) λz H=>bnd (st 2 z h H) λ_ H=>
 bo (un .not j) λd=>gl d false (some y) H λk H=>gl d false (bi .lss 3 k (I 0)) H λm H=>bo (cO d (B true) m) λo=>
 aX o
 (bo (bd 112 []) λp=>bnd (st 9 g p H) λ_ H=>
  bnd (lda 9 g H) λq _=>some (.tup [q,(B false)],H))
 (fld z 0 H λu H=>bnd (C 92 [u,i] H) λe H=>bo (aJ e 0) λv=>bo (aJ e 1) λw=>bnd (st 9 g v H) λ_ H=>
  bnd (lda 9 g H) λq _=>some (.tup [q,w],H))
def aru:Rn2 47 ai0:=λ_ _ _ _ _ h=>
 rnG an0 Tryz.func47 J J  h
def ai1(C:aF)(a0 u v:AV)(H:ah):OA:=
 bnd (gV 112 a0 H) λw H=>bnd (alc 112 [zI,zI,zI,zI,zI,zI,zI,zB,zN] H) λe H=>
 bnd (lda 9 w H) λg H=>bnd (C 93 [g] H) λb H=>bo (aJ b 0) λh=>bo (aJ b 1) λi=>
 bo (bi .neq 48 i (I 0)) λj=>
 aX j
 (bo (bd 112 []) λk=>bnd (st 9 e k H) λ_ H=>
  bnd (lda 9 e H) λm _=>some (.tup [m,(I 2)],H))
 (bnd (C 95 [h,u,v] H) λo H=>bnd (C 94 [o] H) λd H=>bo (aJ d 0) λp=>bo (aJ d 1) λq=>bnd (st 9 e p H) λ_ H=>
  bnd (lda 9 e H) λm _=>some (.tup [m,q],H))
def amx:Rn3 48 ai1:=λ_ _ _ _ _ _ h=>
 rnG an0 Tryz.func48 J J  h
def ai2(C:aF)(a0 g:AV)(H:ah):OA:=
 bnd (gV 101 a0 H) λe H=>bnd (alc 99 [zP,zP] H) λb H=>
 aX g
 (bo (au e 0) λh=>bnd (lda 2 h H) λi H=>bnd (st 2 b i H) λ_ H=>
  bnd (lda 2 b H) λd _=>some (d,H))
 (bo (au e 2) λj=>bnd (lda 2 j H) λk H=>bnd (st 2 b k H) λ_ H=>
  bnd (lda 2 b H) λd _=>some (d,H))
def arv:Rn2 49 ai2:=λ_ _ _ _ _ h=>
 rnG an0 Tryz.func49 J J  h
def ai3(C:aF)(a0:AV)(H:ah):OA:=
 bo (bi .geq 3 a0 (I 1)) λb=>gl b true (some a0) H λd H=>gl b true (bi .leq 3 d (I 6)) H λe H=>bo (cO b e (B false)) λg=>
 some (g,H)
def arw:Rn1 50 ai3:=λ_ _ _ _ h=>
 rnG an0 Tryz.func50 J J  h
def arx:Ann:=⟨[],[(3,rF 6 (some true::rF 5 []))],[]⟩
def ai4(C:aF)(a0 m:AV)(H:ah):OA:=
 bnd (gV 112 m H) λo H=>
 bnd (C 96 [a0] H) λp H=>bo (bi .eql 3 p (I 0)) λq=>
 aX q
 (some ((I 5),H))
 (bo (aA a0) λb=>fld b 0 H λd H=>bnd (lda 9 o H) λe H=>bnd (unG H (C 97 [e] H.guard)) λg H=>bnd (bs 136 1 [(0,g)] H) λh H=>bnd (app 112 9 88 d h H) λi H=>bo (aA a0) λj=>bo (au j 0) λk=>bnd (st 1 k i H) λ_ H=>
  some ((I 0),H))
def amy:Rn2 51 ai4:=λ_ _ _ _ _ h=>
 rnG arx Tryz.func51 J J  h
def amA:Ann:=⟨[(3,[1,4,10,11,12])],[],[]⟩
def Oe:=kT Tryz.prog Tryz.f52 34 amA 0
def X8(C:aF)(a0 e:AV)(H:ah):OA:=
 bnd (alc 99 [zP,zP] H) λg H=>
 bnd (C 57 [a0] H) λb H=>bnd (lnS b H) λd H=>
 Oe C [e,g,b,d,(I 0)] H
def aaE(C:aF)(i h e g d:AV)(H:ah):Oe C [i,h,e,g,d] H=
 bo (bi .lss 3 d g) λk=>
 aX k
 (bnd (ix 2 e d H) λm H=>bnd (lda 2 m H) λo H=>bnd (alc 99 [zP,zP] H) λj H=>bnd (st 2 j o H) λ_ H=>
  bo (bi .geq 3 i (I 0)) λb=>gl b true (some i) H λp H=>gl b true (au j 0) H λq H=>gdA (some b) true (ld q H) H λu H=>gdA (some b) true (C 58 [u] H) H λv H=>gl b true (bi .lss 3 p v) H λw H=>bo (cO b w (B false)) λy=>
  aX y
  (bnd (lda 2 j H) λz H=>bnd (st 2 h z H) λ_ H=>
  bnd (lda 2 h H) λA _=>some (.tup [A,i,(B true)],H))
  (fld j 0 H λD H=>bnd (C 58 [D] H) λE H=>bo (bi .sub 3 i E) λF=>
  bo (bi .add 3 d (I 1)) λG=>
  Oe C [F,h,e,g,G] H))
 (bo (bd 99 []) λK=>bnd (st 2 h K H) λ_ H=>
  bnd (lda 2 h H) λA _=>some (.tup [A,(I 0),(B false)],H)):=
 lpE.trans J
def arz:Rn2 52 X8:=λ_ _ _ _ _ h=>
 rnG amA Tryz.func52 J J  h
def Ut(C:aF)(d e g:AV)(H:ah):OA:=
 bnd (lda 9 e H) λb H=>bnd (st 9 d b H) λ_ H=>
 bnd (lda 9 d H) λh _=>some (.tup [h,g],H)
def amB(C:aF)(a0 e:AV)(H:ah):OA:=
 bnd (alc 112 [zI,zI,zI,zI,zI,zI,zI,zB,zN] H) λq H=>
 bnd (C 92 [a0,e] H) λd H=>bo (aJ d 0) λg=>bo (aJ d 1) λb=>bnd (alc 112 [zI,zI,zI,zI,zI,zI,zI,zB,zN] H) λh H=>bnd (st 9 h g H) λ_ H=>
 aX b
 (bo (aA a0) λi=>fld i 0 H λj H=>bo (bi .add 3 e (I 1)) λk=>bnd (C 98 [j,e,k] H) λm H=>bo (aA a0) λo=>bo (au o 0) λp=>bnd (st 1 p m H) λ_ H=>
  Ut C q h b H)
 (Ut C q h b H)
def arA:Rn2 53 amB:=λ_ _ _ _ _ h=>
 rnG an0 Tryz.func53 J J  h
def amC:Ann:=⟨[(6,[1,2,5,6])],[],[]⟩
def Og:=kT Tryz.prog Tryz.f54 44 amC 0
def Oh(C:aF)(g h i j k:AV)(H:ah):OA:=
 bnd (bs 22 1 [(0,k)] H) λb H=>bnd (app 3 1 8 i b H) λd H=>
 bo (bi .add 3 j (I 1)) λe=>
 Og C [g,h,d,e] H
def amD(C:aF)(a0 d:AV)(H:ah):OA:=
 bnd (gV 26 a0 H) λk H=>
 bo (bi .lss 3 d (I 0)) λb=>gl b false (some d) H λe H=>gl b false (au k 1) H λg H=>gdA (some b) false (ld g H) H λh H=>gl b false (bi .geq 3 e h) H λi H=>bo (cO b (B true) i) λj=>
 aX j
 (some ((.s (Go.Value.slice none 0 0)),H))
 (Og C [d,k,(.s (Go.Value.slice none 0 0)),(I 0)] H)
def aaF(C:aF)(g b h d:AV)(H:ah):Og C [g,b,h,d] H=
 fld b 2 H λi H=>bo (bi .lss 3 d i) λj=>
 aX j
 (fld b 2 H λk H=>bo (bi .mul 3 g k) λm=>bo (bi .add 3 m d) λe=>
  fld b 7 H λo H=>bnd (lnS o H) λp H=>bo (bi .lss 3 e p) λq=>
  aX q
  (fld b 7 H λu H=>bnd (ix 1 u e H) λv H=>bnd (ld v H) λw H=>
  Oh C g b h d w H)
  (Oh C g b h d (I 0) H))
 (some (h,H)):=
 lpE.trans J
def arB:Rn2 54 amD:=λ_ _ _ _ _ h=>
 rnG amC Tryz.func54 J J  h
def aaG(C:aF)(a0:AV)(H:ah):OA:=
 bo (bi .eql 22 a0 (.s (Go.Value.slice none 0 0))) λb=>
 aX b
 (some ((.s (Go.Value.slice none 0 0)),H))
 (bnd (bs 22 0 [] H) λd H=>bnd (app 3 1 8 d a0 H) λe H=>
  some (e,H))
def aef:Rn1 55 aaG:=λ_ _ _ _ h=>
 rnG an0 Tryz.func55 J J  h
def amE:Ann:=⟨[(4,[3,9,10,11])],[],[]⟩
def Oi:=kT Tryz.prog Tryz.f57 24 amE 0
def amF(C:aF)(a0:AV)(H:ah):OA:=
 bo (aA a0) λe=>fld e 0 H λd H=>bnd (lnS d H) λb H=>
 Oi C [(.s (Go.Value.slice none 0 0)),d,b,(I 0)] H
def aaH(C:aF)(e g d b:AV)(H:ah):Oi C [e,g,d,b] H=
 bo (bi .lss 3 b d) λh=>
 aX h
 (bnd (ix 4 g b H) λi H=>bnd (lda 4 i H) λj H=>bnd (alc 101 [zP,zP,zP,zP] H) λk H=>bnd (st 4 k j H) λ_ H=>
  bo (au k 0) λm=>bnd (lda 2 m H) λo H=>bo (au k 2) λp=>bnd (lda 2 p H) λq H=>bnd (bs 124 2 [(0,o),(1,q)] H) λu H=>bnd (app 99 2 16 e u H) λv H=>
  bo (bi .add 3 b (I 1)) λw=>
  Oi C [v,g,d,w] H)
 (some (e,H)):=
 lpE.trans J
def arC:Rn1 57 amF:=λ_ _ _ _ h=>
 rnG amE Tryz.func57 J J  h
def amG(C:aF)(a0:AV)(H:ah):OA:=
 bo (aA a0) λb=>fld b 0 H λd H=>bnd (lnS d H) λe H=>
 some (e,H)
def arD:Rn1 58 amG:=λ_ _ _ _ h=>
 rnG an0 Tryz.func58 J J  h
def amH:Ann:=⟨[(6,[1,2,6,7])],[(3,some false::some false::some true::rF 3 []),(7,rF 11 (some true::rF 5 []))],[]⟩
def Oj:=kT Tryz.prog Tryz.f59 45 amH 0
def amI(C:aF)(a0 u:AV)(H:ah):OA:=
 bnd (gV 26 a0 H) λd H=>
 bnd (lda 8 d H) λv H=>bnd (C 99 [v] H) λw H=>bo (un .not w) λb=>gdA (some b) false (lda 8 d H) H λe H=>gl b false (some u) H λg H=>gdA (some b) false (C 100 [e,g] H) H λh H=>gl b false (un .not h) H λi H=>bo (cO b (B true) i) λj=>
 aX j
 (some (.tup [(.s (Go.Value.pointer none)),(B false)],H))
 (bnd (lda 8 d H) λk H=>bnd (lda 8 d H) λm H=>bnd (unG H (C 101 [m] H.guard)) λo H=>bo (bd 185 [(0,k),(1,o)]) λp=>bnd (gV 185 p H) λq H=>
  Oj C [u,d,q,(I 0)] H)
def aaI(C:aF)(g e b d:AV)(H:ah):Oj C [g,e,b,d] H=
 fld e 0 H λh H=>bo (bi .lss 3 d h) λi=>
 aX i
 (bo (aA b) λj=>fld j 9 H λk H=>bnd (lda 8 e H) λm H=>bnd (ix 1 g d H) λo H=>bnd (ld o H) λp H=>bnd (unG H (C 102 [m,d,p] H.guard)) λq H=>bnd (bs 183 1 [(0,q)] H) λu H=>bnd (app 186 1 8 k u H) λv H=>bo (aA b) λw=>bo (au w 9) λy=>bnd (st 1 y v H) λ_ H=>
  bo (bi .add 3 d (I 1)) λz=>
  Oj C [g,e,b,z] H)
 (some (.tup [b,(B true)],H)):=
 lpE.trans J
def arE:Rn2 59 amI:=λ_ _ _ _ _ h=>
 rnG amH Tryz.func59 J J  h
def aeg(C:aF)(a0 d:AV)(H:ah):OA:=
 bo (bi .lss 3 d (I 0)) λb=>gl b false (some d) H λu H=>gl b false (some a0) H λv H=>gl b false (aA v) H λe H=>gl b false (au e 10) H λg H=>gdA (some b) false (ld g H) H λh H=>gdA (some b) false (lnS h H) H λi H=>gl b false (bi .geq 3 u i) H λj H=>bo (cO b (B true) j) λk=>
 aX k
 (some ((.s (Go.Value.pointer none)),H))
 (bo (aA a0) λm=>fld m 10 H λo H=>bnd (ix 1 o d H) λp H=>bnd (ld p H) λq H=>
  some (q,H))
def arF:Rn2 60 aeg:=λ_ _ _ _ _ h=>
 rnG an0 Tryz.func60 J J  h
def ai5(C:aF)(a0:AV)(H:ah):OA:=
 bnd (C 29 [a0] H) λb H=>gl b true (some a0) H λd H=>gdA (some b) true (C 28 [d] H) H λe H=>gl b true (bi .eql 3 e (I 0)) H λg H=>bo (cO b g (B false)) λh=>
 some (h,H)
def arG:Rn1 61 ai5:=λ_ _ _ _ h=>
 rnG an0 Tryz.func61 J J  h
def arH:Ann:=⟨[],[(3,rF 9 (some true::rF 12 []))],[]⟩
def ai6(C:aF)(a0 b:AV)(H:ah):OA:=
 bnd (C 103 [a0,b] H) λv H=>bo (un .not v) λw=>
 aX w
 (some (.tup [(I 0),(I 0)],H))
 (bo (aA a0) λd=>fld d 0 H λe H=>bnd (ix 4 e b H) λg H=>bo (au g 0) λh=>fld h 1 H λi H=>bnd (unG H (C 104 [i] H.guard)) λj H=>bo (aA a0) λk=>fld k 0 H λm H=>bnd (ix 4 m b H) λo H=>bo (au o 2) λp=>fld p 1 H λq H=>bnd (C 104 [q] H) λu H=>
  some (.tup [j,u],H))
def arI:Rn2 62 ai6:=λ_ _ _ _ _ h=>
 rnG arH Tryz.func62 J J  h
def amJ(C:aF)(a0:AV)(H:ah):OA:=
 bo (aA a0) λb=>fld b 2 H λd H=>
 some (d,H)
def arJ:Rn1 63 amJ:=λ_ _ _ _ h=>
 rnG an0 Tryz.func63 J J  h
def ai7(C:aF)(a0 d b:AV)(H:ah):OA:=
 bnd (gV 68 a0 H) λe H=>
 bnd (ld d H) λg H=>bnd (lda 4 e H) λh H=>bnd (C 23 [g,h] H) λi H=>
 aX i
 (bnd (ld b H) λj H=>bo (bi .add 3 j (I 1)) λk=>bnd (st 1 b k H) λ_ H=>
  some (.tup [],H))
 (some (.tup [],H))
def amK:Rn3 64 ai7:=λ_ _ _ _ _ _ h=>
 rnG an0 Tryz.func64 J J  h
def amL(C:aF)(a0:AV)(H:ah):OA:=
 bnd (gV 26 a0 H) λd H=>
 fld d 0 H λv7 H=>bnd (C 105 [v7,(I 6)] H) λk H=>gl k true (au d 1) H λm H=>gdA (some k) true (ld m H) H λo H=>gdA (some k) true (C 105 [o,(I 8)] H) H λp H=>bo (cO k p (B false)) λe=>gl e true (au d 2) H λq H=>gdA (some e) true (ld q H) H λu H=>gdA (some e) true (C 105 [u,(I 4)] H) H λv H=>bo (cO e v (B false)) λw=>
 fld d 3 H λy H=>bnd (C 105 [y,(I 4)] H) λg H=>gl g true (au d 4) H λz H=>gdA (some g) true (ld z H) H λA H=>gdA (some g) true (C 105 [A,(I 3)] H) H λD H=>bo (cO g D (B false)) λE=>
 fld d 5 H λF H=>bnd (C 105 [F,(I 8)] H) λh H=>gl h true (au d 6) H λG H=>gdA (some h) true (ld G H) H λK H=>gdA (some h) true (C 105 [K,(I 8)] H) H λL H=>bo (cO h L (B false)) λM=>
 bo (un .not w) λi=>gl i false (some E) H λQ H=>gl i false (un .not Q) H λR H=>bo (cO i (B true) R) λj=>gl j false (some M) H λT H=>gl j false (un .not T) H λW H=>bo (cO j (B true) W) λb=>gl b false (au d 7) H λX H=>gdA (some b) false (ld X H) H λaa H=>gdA (some b) false (lnS aa H) H λab H=>gl b false (au d 1) H λad H=>gdA (some b) false (ld ad H) H λae H=>gl b false (au d 2) H λaf H=>gdA (some b) false (ld af H) H λag H=>gl b false (bi .mul 3 ae ag) H λai H=>gl b false (bi .gtr 3 ab ai) H λal H=>bo (cO b (B true) al) λam=>
 aX am
 (some ((I 1),H))
 (some ((I 0),H))
def arK:Rn1 65 amL:=λ_ _ _ _ h=>
 rnG an0 Tryz.func65 J J  h
def aeh(C:aF)(a0 k:AV)(H:ah):OA:=
 bnd (gV 26 a0 H) λm H=>
 bnd (C 106 [k,(.fn (.func 107) [] [m])] H) λb H=>
 gl b false (some k) H λd H=>gdA (some b) false (lnS d H) H λe H=>gl b false (au m 0) H λg H=>gdA (some b) false (ld g H) H λh H=>gl b false (bi .neq 3 e h) H λi H=>bo (cO b (B true) i) λj=>
 aX j
 (some ((I 1),H))
 (some ((I 0),H))
def arL:Rn2 66 aeh:=λ_ _ _ _ _ h=>
 rnG an0 Tryz.func66 J J  h
def ai8(C:aF)(a0:AV)(H:ah):OA:=
 bnd (app 3 1 8 (.s (Go.Value.slice none 0 0)) a0 H) λb H=>
 some (b,H)
def amM:Rn1 68 ai8:=λ_ _ _ _ h=>
 rnG an0 Tryz.func68 J J  h
def ai9(C:aF)(a0:AV)(H:ah):OA:=
 bo (bi .eql 28 a0 (.s (Go.Value.slice none 0 0))) λb=>
 aX b
 (some ((.s (Go.Value.slice none 0 0)),H))
 (bnd (bs 28 0 [] H) λd H=>bnd (app 53 3 24 d a0 H) λe H=>
  some (e,H))
def amN:Rn1 69 ai9:=λ_ _ _ _ h=>
 rnG an0 Tryz.func69 J J  h
def amO:Ann:=⟨[(4,[1,2,5,12,13])],[(6,rF 7 (some true::some false::some false::[]))],[]⟩
def Ol:=kT Tryz.prog Tryz.f70 32 amO 0
def Om(C:aF)(g h i b d:AV)(H:ah):OA:=
 bo (bi .add 3 d (I 1)) λe=>
 Ol C [g,h,i,b,e] H
def amP(C:aF)(a0 g:AV)(H:ah):OA:=
 bnd (gV 26 a0 H) λb H=>
 bnd (lda 8 b H) λh H=>bnd (mkm .i64 H) λi H=>bo (bd 196 [(0,h),(1,i)]) λj=>bnd (gV 196 j H) λd H=>
 fld b 1 H λe H=>
 Ol C [g,b,d,e,(I 0)] H
def aaJ(C:aF)(h e g d b:AV)(H:ah):Ol C [h,e,g,d,b] H=
 bo (bi .lss 3 b d) λi=>
 aX i
 (bnd (lda 8 e H) λj H=>bnd (C 111 [j,b] H) λk H=>bo (bi .eql 3 k h) λm=>
  aX m
  (bo (aA g) λo=>fld o 8 H λp H=>bnd (lda 8 e H) λq H=>bnd (unG H (C 112 [q,b] H.guard)) λu H=>bo (bd 199 [(0,(I 0)),(1,(I (-1))),(2,u)]) λv=>bnd (mup .i64 p b v H) λ_ H=>
  Om C h e g d b H)
  (Om C h e g d b H))
 (some (g,H)):=
 lpE.trans J
def arM:Rn2 70 amP:=λ_ _ _ _ _ h=>
 rnG amO Tryz.func70 J J  h
def amQ(C:aF)(H:ah):OA:=
 bnd (mkm .i64 H) λb H=>bnd (mkm .i64 H) λd H=>bo (bd 203 [(0,b),(1,d)]) λe=>bnd (gV 203 e H) λg H=>
 some (g,H)
def arN:Rn0 71 amQ:=λ_ _ _ h=>
 rnG an0 Tryz.func71 J J  h
def amR(C:aF)(a0 g:AV)(H:ah):OA:=
 bnd (alc 112 [zI,zI,zI,zI,zI,zI,zI,zB,zN] H) λd H=>
 bnd (C 113 [a0,g,(B false)] H) λe H=>bo (aJ e 0) λh=>bo (aJ e 1) λb=>bnd (st 9 d h H) λ_ H=>
 bnd (lda 9 d H) λi _=>some (.tup [i,b],H)
def arO:Rn2 72 amR:=λ_ _ _ _ _ h=>
 rnG an0 Tryz.func72 J J  h
def arP:Ann:=⟨[],[(3,rF 18 []),(5,rF 18 []),(7,rF 18 [])],[]⟩
def aaK(C:aF)(a0 a1:AV)(H:ah):OA:=
 bnd (gV 112 a1 H) λj H=>bnd (alc 44 [zI,zI,zI,zI,zI,zI,zN,zI,zI] H) λb H=>
 bo (aA a0) λv7=>bo (au v7 12) λv8=>fld v8 0 H λd H=>
 bo (bi .eql 3 d (I 1)) λk=>
 aX k
 (bo (aA a0) λm=>bo (au m 12) λo=>bnd (lda 9 o H) λp H=>bo (aA a0) λq=>fld q 10 H λu H=>bo (aA a0) λv=>fld v 0 H λw H=>bnd (lda 9 j H) λy H=>bnd (C 114 [p,u,w,y] H) λg H=>bo (aJ g 0) λz=>bo (aJ g 1) λA=>bnd (st 9 b z H) λ_ H=>
  bnd (lda 9 b H) λe _=>some (.tup [e,A],H))
 (bo (bi .eql 3 d (I 2)) λD=>
  aX D
  (bo (aA a0) λE=>bo (au E 12) λF=>bnd (lda 9 F H) λG H=>bo (aA a0) λK=>fld K 10 H λL H=>bo (aA a0) λM=>fld M 0 H λQ H=>bnd (lda 9 j H) λR H=>bnd (C 115 [G,L,Q,R] H) λh H=>bo (aJ h 0) λT=>bo (aJ h 1) λW=>bnd (st 9 b T H) λ_ H=>
  bnd (lda 9 b H) λe _=>some (.tup [e,W],H))
  (bo (bi .eql 3 d (I 3)) λX=>
  aX X
  (bo (aA a0) λaa=>bo (au aa 12) λab=>bnd (lda 9 ab H) λad H=>bo (aA a0) λae=>fld ae 10 H λaf H=>bo (aA a0) λag=>fld ag 0 H λai H=>bnd (lda 9 j H) λal H=>bnd (C 116 [ad,af,ai,al] H) λi H=>bo (aJ i 0) λam=>bo (aJ i 1) λao=>bnd (st 9 b am H) λ_ H=>
   bnd (lda 9 b H) λe _=>some (.tup [e,ao],H))
  (bo (bd 44 []) λap=>bnd (st 9 b ap H) λ_ H=>
   bnd (lda 9 b H) λe _=>some (.tup [e,(B false)],H))))
def aei:Rn2 73 aaK:=λ_ _ _ _ _ h=>
 rnG arP Tryz.func73 J J  h
def arQ:Ann:=⟨[],[(3,rF 19 [])],[(3,[(14,16),(15,16)])]⟩
def aja(C:aF)(a0:AV)(H:ah):OA:=
 bnd (alc 53 [zI,zI,zI] H) λh H=>
 bnd (C 12 [a0] H) λA H=>bo (bi .eql 3 A (I 0)) λD=>
 aX D
 (bo (bd 53 []) λE=>bnd (st 3 h E H) λ_ H=>
  bnd (lda 3 h H) λi _=>some (.tup [i,(I 0),(B false)],H))
 (bo (aA a0) λj=>fld j 0 H λk F=>bo (aA a0) λm=>fld m 1 F λo G=>bnd (lnS o G) λp K=>bnd (ix 3 k p K) λq L=>bnd (lda 3 q L) λu v=>bo (aA a0) λw=>bo (au w 1) λe=>bnd (ld e v) λg y=>bnd (lnS g y) λz d=>bnd (st 3 h u d) λ_ b=>ck (bT e) d b <| ck (bT g) d b <|
  bnd (lda 3 h b) λi _=>some (.tup [i,z,(B true)],b))
def arR:Rn1 74 aja:=λ_ _ _ _ h=>
 rnG arQ Tryz.func74 J J  h
def amS(C:aF)(a0 p o:AV)(H:ah):OA:=
 bo (aA a0) λd=>fld d 1 H λe H=>bnd (C 74 [e] H) λb H=>bo (aJ b 0) λg=>bo (aJ b 1) λh=>bo (aJ b 2) λq=>bnd (alc 53 [zI,zI,zI] H) λu H=>bnd (st 3 u g H) λ_ H=>
 bo (aA a0) λi=>fld i 1 H λj H=>bnd (C 117 [j,o] H) λv H=>
 bo (aA a0) λk=>fld k 10 H λm H=>bnd (C 118 [p,m,h,o] H) λw H=>
 some (.tup [],H)
def arS:Rn3 75 amS:=λ_ _ _ _ _ _ h=>
 rnG an0 Tryz.func75 J J  h
def arT:Ann:=⟨[],[(1,rF 12 []),(9,rF 6 [])],[]⟩
def Oo(C:aF)(t0 d b:AV)(H:ah):OA:=
 bnd (C 75 [t0,d,b] H) λe H=>
 some (.tup [],H)
def Aa(C:aF)(t0 j k m b:AV)(H:ah):OA:=
 bo (aA t0) λd=>fld d 0 H λe H=>bnd (lda 6 m H) λg H=>bnd (C 121 [e,g] H) λo H=>
 fld k 0 H λh H=>bo (bi .eql 3 h (I 2)) λi=>
 aX i
 (Oo C t0 j (I 0) H)
 (Oo C t0 j b H)
def aej(C:aF)(a0 m:AV)(H:ah):OA:=
 bo (aA a0) λo=>fld o 1 H λp H=>bnd (C 74 [p] H) λe H=>bo (aJ e 0) λq=>bo (aJ e 1) λR=>bo (aJ e 2) λT=>bnd (alc 53 [zI,zI,zI] H) λd H=>bnd (st 3 d q H) λ_ H=>
 bo (aA a0) λu=>bo (au u 2) λv=>bnd (lda 8 v H) λw H=>fld d 1 H λy H=>bnd (C 86 [w,y] H) λi H=>bo (aJ i 0) λz=>bo (aJ i 1) λg=>
 bo (aA a0) λA=>fld A 0 H λD H=>bnd (C 87 [D,z] H) λj H=>bo (aJ j 0) λE=>bo (aJ j 1) λW=>bnd (alc 166 [zI,zI,zI,zI,zB,zN] H) λh H=>bnd (st 6 h E H) λ_ H=>
 bnd (lda 6 h H) λF H=>bnd (C 119 [F,g] H) λb H=>
 fld d 0 H λk H=>
 bo (bi .eql 3 k (I 2)) λG=>
 aX G
 (fld d 2 H λK H=>bnd (C 120 [h,g,K] H) λX H=>
  Aa C a0 m d h b H)
 (bo (bi .eql 3 k (I 3)) λL=>
  aX L
  (fld d 2 H λM H=>bo (bi .add 3 b M) λQ=>bnd (C 120 [h,g,Q] H) λaa H=>
  Aa C a0 m d h b H)
  (Aa C a0 m d h b H))
def ajb:Rn2 76 aej:=λ_ _ _ _ _ h=>
 rnG arT Tryz.func76 J J  h
def arU:Ann:=⟨[],[(0,rF 18 (some true::some false::some false::[]))],[]⟩
def amT(C:aF)(a0 p:AV)(H:ah):OA:=
 bo (aA a0) λq=>bo (au q 12) λu=>bnd (lda 9 u H) λv H=>bo (aA a0) λb=>fld b 10 H λd H=>bo (aA a0) λe=>bo (au e 2) λg=>bnd (lda 8 g H) λh H=>bo (aA a0) λi=>bo (au i 12) λj=>fld j 1 H λk H=>bnd (unG H (C 111 [h,k] H.guard)) λm H=>bnd (C 122 [v,d,m] H) λo H=>bnd (C 81 [p,o] H) λw H=>
 some (.tup [],H)
def arV:Rn2 77 amT:=λ_ _ _ _ _ h=>
 rnG arU Tryz.func77 J J  h
def ajc(C:aF)(a0:AV)(H:ah):OA:=
 bo (aA a0) λb=>fld b 1 H λd H=>bnd (C 123 [d] H) λe H=>bnd (lnS e H) λg H=>bo (bi .gtr 3 g (I 0)) λh=>
 some (h,H)
def arW:Rn1 78 ajc:=λ_ _ _ _ h=>
 rnG an0 Tryz.func78 J J  h
def ajd(C:aF)(a0 m o:AV)(H:ah):OA:=
 bnd (C 103 [a0,m] H) λp H=>bo (un .not p) λb=>
 aX b
 (some ((I 0),H))
 (bo (aA a0) λd=>fld d 0 H λe H=>bnd (ix 4 e m H) λg H=>bnd (lda 4 g H) λh H=>bnd (C 49 [h,o] H) λi H=>bo (fl i 0) λj=>bnd (C 124 [j] H) λk H=>
  some (k,H))
def arX:Rn3 79 ajd:=λ_ _ _ _ _ _ h=>
 rnG an0 Tryz.func79 J J  h
def amU:Ann:=⟨[(3,[0,2,13,14,15])],[],[]⟩
def Uu:=kT Tryz.prog Tryz.f80 37 amU 0
def aje(C:aF)(a0:AV)(H:ah):OA:=
 bnd (alc 112 [zI,zI,zI,zI,zI,zI,zI,zB,zN] H) λh H=>
 bo (aA a0) λd=>fld d 1 H λe H=>bnd (C 123 [e] H) λb H=>bnd (lnS b H) λg H=>
 Uu C [a0,h,b,g,(I 0)] H
def aaL(C:aF)(t0 h d e b:AV)(H:ah):Uu C [t0,h,d,e,b] H=
 bo (bi .lss 3 b e) λj=>
 aX j
 (bnd (ix 1 d b H) λk H=>bnd (ld k H) λi H=>
  bo (aA t0) λm=>fld m 1 H λo H=>bnd (C 125 [o,i] H) λg H=>bo (aJ g 0) λp=>bo (aJ g 1) λq=>bo (aJ g 2) λu=>
  aX u
  (bnd (C 126 [t0,i,p,q] H) λv H=>bnd (st 9 h v H) λ_ H=>
  bnd (lda 9 h H) λw _=>some (.tup [w,(B true)],H))
  (bo (bi .add 3 b (I 1)) λy=>
  Uu C [t0,h,d,e,y] H))
 (bo (bd 112 []) λz=>bnd (st 9 h z H) λ_ H=>
  bnd (lda 9 h H) λw _=>some (.tup [w,(B false)],H)):=
 lpE.trans J
def arY:Rn1 80 aje:=λ_ _ _ _ h=>
 rnG amU Tryz.func80 J J  h
def arZ:Ann:=⟨[],[(3,rF 10 (some true::some true::rF 4 []))],[]⟩
def aaM(C:aF)(a0 M:AV)(H:ah):OA:=
 bnd (gV 112 M H) λd H=>
 bnd (lda 9 d H) λQ H=>bnd (C 127 [Q] H) λR H=>bo (bi .neq 48 R (I 0)) λe=>gl e false (some a0) H λT H=>gl e false (au d 1) H λg H=>gdA (some e) false (ld g H) H λh H=>gdA (some e) false (C 103 [T,h] H) H λi H=>gl e false (un .not i) H λj H=>bo (cO e (B true) j) λb=>gl b false (some a0) H λk H=>gl b false (au d 2) H λm H=>gdA (some b) false (ld m H) H λo H=>gdA (some b) false (C 103 [k,o] H) H λp H=>gl b false (un .not p) H λq H=>bo (cO b (B true) q) λu=>
 aX u
 (some ((I 1),H))
 (bo (aA a0) λv=>fld v 0 H λw H=>fld d 1 H λy H=>bnd (ix 4 w y H) λz H=>bnd (lda 4 z H) λA H=>fld d 0 H λD H=>bnd (unG H (C 50 [D] H.guard)) λE H=>bnd (unG H (C 49 [A,E] H.guard)) λF H=>bo (fl F 0) λG=>bnd (lda 9 d H) λK H=>bnd (C 128 [G,K] H) λL H=>
  some (L,H))
def amV:Rn2 81 aaM:=λ_ _ _ _ _ h=>
 rnG arZ Tryz.func81 J J  h
def amW(C:aF)(a0 g:AV)(H:ah):OA:=
 bnd (alc 112 [zI,zI,zI,zI,zI,zI,zI,zB,zN] H) λd H=>
 bnd (C 113 [a0,g,(B true)] H) λe H=>bo (aJ e 0) λh=>bo (aJ e 1) λb=>bnd (st 9 d h H) λ_ H=>
 bnd (lda 9 d H) λi _=>some (.tup [i,b],H)
def ar0:Rn2 82 amW:=λ_ _ _ _ _ h=>
 rnG an0 Tryz.func82 J J  h
def ar1:Ann:=⟨[],[(2,rF 11 (none::rF 3 [])),(4,rF 9 (none::some false::some false::[]))],[(2,[(11,6)]),(4,[(9,5)])]⟩
def X9(C:aF)(a0 a1:AV)(H:ah):OA:=
 bnd (gV 112 a1 H) λp H=>bnd (alc 112 [zI,zI,zI,zI,zI,zI,zI,zB,zN] H) λq H=>
 fld p 0 H λu H=>bo (bi .eql 3 u (I 1)) λd=>gl d false (au p 0) H λv H=>gdA (some d) false (ld v H) H λw H=>gl d false (bi .eql 3 w (I 2)) H λy H=>bo (cO d (B true) y) λz=>
 aX z
 (bnd (alc 112 [zI,zI,zI,zI,zI,zI,zI,zB,zN] H) λv6 i=>bo (aA a0) λA=>bo (au A 11) λD=>fld D 0 i λE H4=>bnd (lda 9 p H4) λF H5=>bnd (C 129 [E,F] H5) λe H6=>bo (aJ e 0) λG=>bo (aJ e 1) λg=>bo (aJ e 2) λK=>bnd (st 9 v6 G H6) λ_ b=>ckR H.next i.next H5 H6 <|
  bnd (lda 9 v6 b) λL b=>gl g true (some K) b λM b=>gl g true (bi .eql 48 M (I 0)) b λQ b=>bo (cO g Q (B false)) λR=>bnd (st 9 q L b) λ_ b=>
  bnd (lda 9 q b) λT _=>some (.tup [T,R],b))
 (bnd (alc 112 [zI,zI,zI,zI,zI,zI,zI,zB,zN] H) λv9 j=>bo (aA a0) λW=>bo (au W 0) λX=>bnd (ld X j) λaa ab=>bnd (lda 9 p ab) λad k=>bnd (C 130 [aa,ad] k) λm o=>bo (aJ m 0) λae=>bo (aJ m 1) λaf=>bnd (st 9 v9 ae o) λ_ h=>ckR H.next j.next k o <|
  bnd (lda 9 v9 h) λag h=>bo (bi .eql 48 af (I 0)) λai=>bnd (st 9 q ag h) λ_ h=>
  bnd (lda 9 q h) λT _=>some (.tup [T,ai],h))
def amZ:Rn2 83 X9:=λ_ _ _ _ _ h=>
 rnG ar1 Tryz.func83 J J  h
def aek(C:aF)(a0:AV)(H:ah):OA:=
 bo (aA a0) λi=>fld i 2 H λb H=>gl b false (some a0) H λj H=>gdA (some b) false (C 12 [j] H) H λk H=>gl b false (bi .eql 3 k (I 0)) H λd H=>bo (cO b (B true) d) λe=>
 aX e
 (some ((I 6),H))
 (bo (aA a0) λg=>bo (au g 2) λh=>bnd (st 1 h (B true) H) λ_ H=>
  some ((I 0),H))
def ajf:Rn1 84 aek:=λ_ _ _ _ h=>
 rnG an0 Tryz.func84 J J  h
def am0(C:aF)(a0 j k:AV)(H:ah):OA:=
 bo (aA a0) λm=>fld m 0 H λb H=>bo (bd 85 [(0,j),(1,k)]) λd=>bnd (bs 86 1 [(0,d)] H) λe H=>bnd (app 85 4 32 b e H) λg H=>bo (aA a0) λh=>bo (au h 0) λi=>bnd (st 1 i g H) λ_ H=>
 some (.tup [],H)
def ar2:Rn3 85 am0:=λ_ _ _ _ _ _ h=>
 rnG an0 Tryz.func85 J J  h
def ar4:Ann:=⟨[],[(3,rF 10 [])],[]⟩
def ael(C:aF)(a0 d:AV)(H:ah):OA:=
 bnd (gV 26 a0 H) λe H=>
 bo (bi .lss 3 d (I 0)) λb=>gl b false (some d) H λq H=>gdA (some b) false (lda 8 e H) H λg H=>gdA (some b) false (C 131 [g] H) H λh H=>gl b false (bi .geq 3 q h) H λi H=>bo (cO b (B true) i) λj=>
 aX j
 (some (.tup [(I (-1)),(I 0)],H))
 (fld e 2 H λk H=>bo (bi .quo 3 d k) λm=>fld e 2 H λo H=>bo (bi .rem 3 d o) λp=>
  some (.tup [m,p],H))
def ar5:Rn2 86 ael:=λ_ _ _ _ _ h=>
 rnG ar4 Tryz.func86 J J  h
def ajg(C:aF)(a0 p:AV)(H:ah):OA:=
 bnd (alc 166 [zI,zI,zI,zI,zB,zN] H) λb H=>
 bnd (C 132 [a0,p] H) λo H=>
 bo (bi .lss 3 o (I 0)) λd=>
 aX d
 (bo (bd 166 []) λe=>bnd (st 6 b e H) λ_ H=>
  bnd (lda 6 b H) λg _=>some (.tup [g,(B false)],H))
 (bo (aA a0) λh=>fld h 0 H λi H=>bnd (ix 6 i o H) λj H=>bnd (lda 6 j H) λk H=>bnd (C 133 [k] H) λm H=>bnd (st 6 b m H) λ_ H=>
  bnd (lda 6 b H) λg _=>some (.tup [g,(B true)],H))
def ar6:Rn2 87 ajg:=λ_ _ _ _ _ h=>
 rnG an0 Tryz.func87 J J  h
def am1(C:aF)(a0 q u v:AV)(H:ah):OA:=
 bo (aA a0) λb=>fld b 21 H λd H=>bnd (C 134 [u,v,d] H) λe H=>bo (aA a0) λg=>bo (au g 12) λh=>bnd (st 9 h e H) λ_ H=>
 bo (aA a0) λi=>fld i 21 H λj H=>bo (bi .add 3 j (I 1)) λk=>bo (bi .rem 3 k (I 4096)) λm=>bo (aA a0) λo=>bo (au o 21) λp=>bnd (st 1 p m H) λ_ H=>
 bnd (C 77 [a0,q] H) λw H=>
 some (.tup [],H)
def ar7:Rn4 88 am1:=λ_ _ _ _ _ _ _ h=>
 rnG an0 Tryz.func88 J J  h
def ar8:Ann:=⟨[],[(5,rF 12 [])],[]⟩
def ajh(C:aF)(a0 v:AV)(H:ah):OA:=
 bnd (C 132 [a0,v] H) λu H=>
 bo (bi .lss 3 u (I 0)) λb=>
 aX b
 (some ((B false),H))
 (bo (aA a0) λd=>fld d 3 H λe H=>bo (bi .add 3 e (I 1)) λg=>bo (aA a0) λh=>bo (au h 3) λi=>bnd (st 1 i g H) λ_ H=>
  bo (aA a0) λj=>fld j 0 H λk H=>bo (aA a0) λm=>fld m 3 H λo H=>bnd (ix 6 k u H) λp H=>bo (au p 3) λq=>bnd (st 1 q o H) λ_ H=>
  some ((B true),H))
def ar9:Rn2 89 ajh:=λ_ _ _ _ _ h=>
 rnG ar8 Tryz.func89 J J  h
def asa:Ann:=⟨[],[(1,rF 7 (some true::rF 8 []))],[]⟩
def aji(C:aF)(a0 q:AV)(H:ah):OA:=
 bnd (C 132 [a0,q] H) λu H=>bo (bi .lss 3 u (I 0)) λb=>gl b true (some a0) H λd H=>gl b true (some q) H λe H=>gdA (some b) true (unG H (C 135 [d,e] H.guard)) H λg H=>gdA (some b) true (lnS g H) H λh H=>gl b true (some a0) H λi H=>gl b true (aA i) H λj H=>gl b true (au j 2) H λk H=>gdA (some b) true (ld k H) H λm H=>gl b true (bi .geq 3 h m) H λo H=>bo (cO b o (B false)) λp=>
 some (p,H)
def asb:Rn2 90 aji:=λ_ _ _ _ _ h=>
 rnG asa Tryz.func90 J J  h
def ajj(C:aF)(a0 i:AV)(H:ah):OA:=
 bnd (C 135 [a0,i] H) λh H=>
 bnd (lnS h H) λb H=>bo (bi .eql 3 b (I 0)) λd=>
 aX d
 (some (.tup [(I 0),(B false)],H))
 (bnd (C 136 [h,(.fn (.func 137) [] [])] H) λe H=>bo (fl e 2) λg=>
  some (.tup [g,(B true)],H))
def asc:Rn2 91 ajj:=λ_ _ _ _ _ h=>
 rnG an0 Tryz.func91 J J  h
def aem(C:aF)(a0 e:AV)(H:ah):OA:=
 bnd (alc 112 [zI,zI,zI,zI,zI,zI,zI,zB,zN] H) λd H=>
 bo (bi .lss 3 e (I 0)) λb=>gl b false (some e) H λA H=>gl b false (some a0) H λg H=>gl b false (aA g) H λh H=>gl b false (au h 0) H λi H=>gdA (some b) false (ld i H) H λj H=>gdA (some b) false (lnS j H) H λk H=>gl b false (bi .geq 3 A k) H λm H=>bo (cO b (B true) m) λo=>
 aX o
 (bo (bd 112 []) λp=>bnd (st 9 d p H) λ_ H=>
  bnd (lda 9 d H) λq _=>some (.tup [q,(B false)],H))
 (bo (aA a0) λu=>fld u 0 H λv H=>bnd (ix 9 v e H) λw H=>bnd (lda 9 w H) λy H=>bnd (C 138 [y] H) λz H=>bnd (st 9 d z H) λ_ H=>
  bnd (lda 9 d H) λq _=>some (.tup [q,(B true)],H))
def ase:Rn2 92 aem:=λ_ _ _ _ _ h=>
 rnG an0 Tryz.func92 J J  h
def am2:Ann:=⟨[(7,[5,48,49,50])],[(4,rF 28 (some true::rF 6 []))],[]⟩
def Oq:=kT Tryz.prog Tryz.f93 61 am2 0
def am3(C:aF)(a0:AV)(H:ah):OA:=
 bnd (gV 112 a0 H) λb H=>
 bnd (lda 9 b H) λX H=>bnd (C 127 [X] H) λW H=>
 bo (bi .neq 48 W (I 0)) λe=>
 aX e
 (some (.tup [(.s (Go.Value.slice none 0 0)),W],H))
 (fld b 0 H λg H=>bnd (cv 3 5 g H) λh H=>fld b 1 H λi H=>bnd (cv 3 5 i H) λj H=>fld b 2 H λk H=>bnd (cv 3 5 k H) λm H=>fld b 3 H λo H=>bo (bi .shr 3 o (.s (Go.Value.int Go.IntKind.u64 8))) λp=>bnd (cv 3 5 p H) λq H=>fld b 3 H λu H=>bnd (cv 3 5 u H) λv H=>fld b 4 H λw H=>bnd (cv 3 5 w H) λy H=>fld b 5 H λz H=>bo (bi .add 3 z (I 1)) λA=>bnd (cv 3 5 A H) λD H=>fld b 6 H λE H=>bnd (cv 3 5 E H) λF H=>fld b 7 H λG H=>bnd (unG H (C 139 [G] H.guard)) λK H=>fld b 8 H λL H=>bnd (lnS L H) λM H=>bnd (cv 3 5 M H) λQ H=>bnd (bs 172 10 [(0,h),(1,j),(2,m),(3,q),(4,v),(5,y),(6,D),(7,F),(8,K),(9,Q)] H) λR H=>
  fld b 8 H λd H=>bnd (lnS d H) λT H=>
  Oq C [R,d,T,(I 0)] H)
def aaN(C:aF)(g d e b:AV)(H:ah):Oq C [g,d,e,b] H=
 bo (bi .lss 3 b e) λh=>
 aX h
 (bnd (ix 1 d b H) λi H=>bnd (ld i H) λj H=>
  bnd (C 140 [j] H) λk H=>bnd (app 5 1 1 g k H) λm H=>
  bo (bi .add 3 b (I 1)) λo=>
  Oq C [m,d,e,o] H)
 (bnd (C 141 [g] H) λp H=>
  some (.tup [p,(I 0)],H)):=
 lpE.trans J
def asf:Rn1 93 am3:=λ_ _ _ _ h=>
 rnG am2 Tryz.func93 J J  h
def asg:Ann:=⟨[],[(4,rF 40 (none::some false::[]))],[]⟩
def ajk:Code:=Tryz.f94.body.getD .skip
def am4(C:aF)(a0:AV)(H:ah):OA:=
 bnd (alc 112 [zI,zI,zI,zI,zI,zI,zI,zB,zN] H) λv2 H=>
 bnd (C 142 [a0] H) λg H=>bo (aJ g 0) λb=>bo (aJ g 1) λh=>
 bo (un .not h) λe=>gl e false (some b) H λi H=>gdA (some e) false (lnS i H) H λj H=>gl e false (bi .lss 3 j (I 10)) H λk H=>bo (cO e (B true) k) λd=>gl d false (some b) H λm H=>gdA (some d) false (lnS m H) H λo H=>gl d false (some b) H λp H=>gdA (some d) false (ix 1 p (I 9) H) H λq H=>gdA (some d) false (ld q H) H λu H=>gdA (some d) false (cv 5 3 u H) H λv H=>gl d false (bi .mul 3 (I 8) v) H λw H=>gl d false (bi .add 3 (I 10) w) H λy H=>gl d false (bi .neq 3 o y) H λz H=>bo (cO d (B true) z) λA=>
 aX A
 (bo (bd 112 []) λD=>bnd (st 9 v2 D H) λ_ H=>
  bnd (lda 9 v2 H) λr0 _=>some (.tup [r0,(I 2)],H))
 (bnd (alc 112 [zI,zI,zI,zI,zI,zI,zI,zB,zN] H) λv6 H=>bnd (ix 1 b (I 0) H) λE H=>bnd (ld E H) λF H=>bnd (cv 5 3 F H) λG H=>bnd (ix 1 b (I 1) H) λK H=>bnd (ld K H) λL H=>bnd (cv 5 3 L H) λM H=>bnd (ix 1 b (I 2) H) λQ H=>bnd (ld Q H) λR H=>bnd (cv 5 3 R H) λT H=>bnd (ix 1 b (I 3) H) λW H=>bnd (ld W H) λX H=>bnd (cv 5 3 X H) λaa H=>bo (bi .shl 3 aa (.s (Go.Value.int Go.IntKind.u64 8))) λab=>bnd (ix 1 b (I 4) H) λad H=>bnd (ld ad H) λae H=>bnd (cv 5 3 ae H) λaf H=>bo (bi .or 3 ab af) λag=>bnd (ix 1 b (I 5) H) λai H=>bnd (ld ai H) λal H=>bnd (cv 5 3 al H) λam H=>bnd (ix 1 b (I 6) H) λao H=>bnd (ld ao H) λap H=>bnd (cv 5 3 ap H) λaq H=>bo (bi .sub 3 aq (I 1)) λar=>bnd (ix 1 b (I 7) H) λaw H=>bnd (ld aw H) λax H=>bnd (cv 5 3 ax H) λay H=>bnd (ix 1 b (I 8) H) λaz H=>bnd (ld az H) λaD H=>bo (bi .eql 5 aD (.s (Go.Value.int Go.IntKind.u8 1))) λaE=>bo (bd 112 [(0,G),(1,M),(2,T),(3,ag),(4,am),(5,ar),(6,ay),(7,aE)]) λaL=>bnd (st 9 v6 aL H) λ_ H=>
  bo (slS 1 b (some (I 10)) none none) λaM=>bnd (C 143 [aM,(I 8)] H) λaR H=>
  none)
def ash:Rn1 94 am4:=λ_ _ _ _ h=>
 rnG asg Tryz.func94 J J  h
def am5:Ann:=⟨[(4,[1,2,7,13,14])],[(7,rF 17 [])],[]⟩
def Ot:=kT Tryz.prog Tryz.f95 45 am5 0
def Dw(C:aF)(g h i b d:AV)(H:ah):OA:=
 bo (bi .add 3 d (I 1)) λe=>
 Ot C [g,h,i,b,e] H
def am6(C:aF)(a0 e g:AV)(H:ah):OA:=
 bnd (C 146 [a0] H) λb H=>
 bnd (lnS b H) λd H=>
 Ot C [e,g,b,d,(I 0)] H
def aaO(C:aF)(i j h d b:AV)(H:ah):Ot C [i,j,h,d,b] H=
 bo (bi .lss 3 b d) λk=>
 aX k
 (bo (bi .mul 3 (I 8) b) λm=>bo (bi .sub 3 m i) λe=>
  bo (bi .leq 3 e (I (-8))) λg=>gl g false (some e) H λo H=>gl g false (bi .geq 3 o (I 16)) H λp H=>bo (cO g (B true) p) λq=>
  aX q
  (Dw C i j h d b H)
  (bnd (ix 1 h b H) λu H=>bnd (ld u H) λv H=>bnd (cv 50 234 j H) λw H=>bo (bi .shl 234 w (.s (Go.Value.int Go.IntKind.u64 8))) λy=>bo (bi .add 3 e (I 8)) λz=>bo (bi .shl 234 y z) λA=>bo (bi .shr 234 A (.s (Go.Value.int Go.IntKind.u64 24))) λD=>bnd (cv 234 5 D H) λE H=>bo (bi .xor 5 v E) λF=>bnd (ix 1 h b H) λG H=>bnd (st 1 G F H) λ_ H=>
  Dw C i j h d b H))
 (some (h,H)):=
 lpE.trans J
def asi:Rn3 95 am6:=λ_ _ _ _ _ _ h=>
 rnG am5 Tryz.func95 J J  h
def asj:Ann:=⟨[],[(1,rF 11 [])],[]⟩
def am7(C:aF)(a0:AV)(H:ah):OA:=
 bo (aA a0) λg=>fld g 1 H λh H=>bo (aA a0) λi=>fld i 0 H λb H=>bnd (lnS b H) λd H=>bo (bi .sub 3 h d) λe=>
 some (e,H)
def asl:Rn1 96 am7:=λ_ _ _ _ h=>
 rnG asj Tryz.func96 J J  h
def am8(C:aF)(a0:AV)(H:ah):OA:=
 bnd (gV 112 a0 H) λb H=>bnd (alc 112 [zI,zI,zI,zI,zI,zI,zI,zB,zN] H) λd H=>
 fld b 8 H λe H=>bnd (C 55 [e] H) λg H=>bo (au b 8) λh=>bnd (st 1 h g H) λ_ H=>
 bnd (lda 9 b H) λi H=>bnd (st 9 d i H) λ_ H=>
 bnd (lda 9 d H) λj _=>some (j,H)
def asn:Rn1 97 am8:=λ_ _ _ _ h=>
 rnG an0 Tryz.func97 J J  h
def aso:Ann:=⟨[],[(5,rF 8 [])],[]⟩
def am9(C:aF)(a0 d e:AV)(H:ah):OA:=
 bnd (lnS a0 H) λg H=>bo (slS 9 a0 (some d) (some e) (some g)) λp=>
 bo (bi .eql 3 d e) λh=>
 aX h
 (some (a0,H))
 (bnd (lnS a0 H) λi H=>
  bo (slS 9 a0 none (some d) none) λj=>bo (slS 9 a0 (some e) none none) λk=>bnd (app 112 9 88 j k H) λb H=>
  bnd (lnS b H) λm H=>bo (slS 9 b (some m) (some i) none) λo=>bnd (clr 9 [zI,zI,zI,zI,zI,zI,zI,zB,zN] o H) λ_ H=>
  some (b,H))
def asq:Rn3 98 am9:=λ_ _ _ _ _ _ h=>
 rnG aso Tryz.func98 J J  h
def Ou(C:aF)(a0:AV)(H:ah):OA:=
 bnd (gV 26 a0 H) λd H=>
 fld d 0 H λv4 H=>bnd (C 147 [v4,(I 6)] H) λk H=>gl k true (au d 1) H λv7 H=>gdA (some k) true (ld v7 H) H λv8 H=>gdA (some k) true (C 147 [v8,(I 8)] H) H λv9 H=>bo (cO k v9 (B false)) λe=>gl e true (au d 2) H λm H=>gdA (some e) true (ld m H) H λo H=>gdA (some e) true (C 147 [o,(I 4)] H) H λp H=>bo (cO e p (B false)) λg=>gl g true (au d 3) H λq H=>gdA (some g) true (ld q H) H λu H=>gdA (some g) true (C 147 [u,(I 4)] H) H λv H=>bo (cO g v (B false)) λh=>gl h true (au d 4) H λw H=>gdA (some h) true (ld w H) H λy H=>gdA (some h) true (C 147 [y,(I 3)] H) H λz H=>bo (cO h z (B false)) λi=>gl i true (au d 5) H λA H=>gdA (some i) true (ld A H) H λD H=>gdA (some i) true (C 147 [D,(I 8)] H) H λE H=>bo (cO i E (B false)) λj=>gl j true (au d 6) H λF H=>gdA (some j) true (ld F H) H λG H=>gdA (some j) true (C 147 [G,(I 8)] H) H λK H=>bo (cO j K (B false)) λb=>gl b true (au d 7) H λL H=>gdA (some b) true (ld L H) H λM H=>gdA (some b) true (lnS M H) H λQ H=>gl b true (au d 1) H λR H=>gdA (some b) true (ld R H) H λT H=>gl b true (au d 2) H λW H=>gdA (some b) true (ld W H) H λX H=>gl b true (bi .mul 3 T X) H λaa H=>gl b true (bi .leq 3 Q aa) H λab H=>bo (cO b ab (B false)) λad=>
 some (ad,H)
def asr:Rn1 99 Ou:=λ_ _ _ _ h=>
 rnG an0 Tryz.func99 J J  h
def aaP:Ann:=⟨[(5,[2,14,15,16]),(10,[2,14,15,16,23,24,25])],[],[]⟩
def yE:=kT Tryz.prog Tryz.f100 35 aaP 0
def sU:=kT Tryz.prog Tryz.f100 35 aaP 1
def aaQ(C:aF)(a0 b:AV)(H:ah):OA:=
 bnd (gV 26 a0 H) λi H=>
 bnd (lnS b H) λd H=>fld i 0 H λe H=>bo (bi .neq 3 d e) λg=>
 aX g
 (some ((B false),H))
 (bnd (lnS b H) λh H=>
  yE C [i,b,h,(I 0)] H)
def Fp(C:aF)(o d e b:AV)(H:ah):yE C [o,d,e,b] H=
 bo (bi .lss 3 b e) λh=>
 aX h
 (bnd (ix 1 d b H) λi H=>bnd (ld i H) λg H=>
  bnd (lnS g H) λj H=>bo (bi .gtr 3 j (I 24)) λk=>
  aX k
  (some ((B false),H))
  (bnd (lnS g H) λm H=>
  sU C [o,d,e,b,g,m,(I 0)] H))
 (some ((B true),H)):=
 lpE.trans J
def Ov(C:aF)(j d e g h i b:AV)(H:ah):sU C [j,d,e,g,h,i,b] H=
 bo (bi .lss 3 b i) λk=>
 aX k
 (bnd (ix 3 h b H) λm H=>bnd (lda 3 m H) λo H=>bnd (alc 53 [zI,zI,zI] H) λz H=>bnd (st 3 z o H) λ_ H=>
  bnd (lda 8 j H) λp H=>bnd (lda 3 z H) λq H=>bnd (C 148 [p,q] H) λu H=>bo (un .not u) λv=>
  aX v
  (some ((B false),H))
  (bo (bi .add 3 b (I 1)) λw=>
  sU C [j,d,e,g,h,i,w] H))
 (bo (bi .add 3 g (I 1)) λy=>
  yE C [j,d,e,y] H):=
 lpE.trans J
def ana:Rn2 100 aaQ:=λ_ _ _ _ _ h=>
 rnG aaP Tryz.func100 J J  h
def anb:Ann:=⟨[],[(1,rF 7 [])],[]⟩
def agP(C:aF)(a0:AV)(H:ah):OA:=
 bnd (gV 26 a0 H) λb H=>
 bnd (lda 8 b H) λe H=>fld b 0 H λd H=>bnd (mks 325 4 96 [zN,zN,zN,zN] d d H) λg H=>bo (bd 237 [(0,e),(1,g)]) λh=>bnd (gV 237 h H) λi H=>
 some (i,H)
def anc:Rn1 101 agP:=λ_ _ _ _ h=>
 rnG anb Tryz.func101 J J  h
def ane:Ann:=⟨[],[(1,rF 6 (some true::some false::some false::some true::rF 5 []))],[(1,[(0,11)])]⟩
def agQ(C:aF)(a0 q y:AV)(H:ah):OA:=
 bnd (gV 26 a0 H) λb H=>
 bnd (lda 8 b H) λz H0=>fld b 3 H0 λe A=>fld b 4 A λg u=>bnd (unG u (C 149 [e,g] u.guard)) λh D=>bnd (lda 8 b D) λi v=>bnd (unG v (C 150 [i,q] v.guard)) λj w=>bnd (app 53 3 24 (.s (Go.Value.slice none 0 0)) y w) λk d=>bo (bd 244 [(0,z),(1,q),(2,h),(3,j),(4,k)]) λm=>bnd (gV 244 m d) λo p=>ck (bT b) w d <|
 some (o,p)
def anf:Rn3 102 agQ:=λ_ _ _ _ _ _ h=>
 rnG ane Tryz.func102 J J  h
def aaR(C:aF)(a0 k:AV)(H:ah):OA:=
 bo (bi .geq 3 k (I 0)) λb=>gl b true (some k) H λm H=>gl b true (some a0) H λo H=>gl b true (aA o) H λd H=>gl b true (au d 0) H λe H=>gdA (some b) true (ld e H) H λg H=>gdA (some b) true (lnS g H) H λh H=>gl b true (bi .lss 3 m h) H λi H=>bo (cO b i (B false)) λj=>
 some (j,H)
def ang:Rn2 103 aaR:=λ_ _ _ _ _ h=>
 rnG an0 Tryz.func103 J J  h
def agR(C:aF)(a0:AV)(H:ah):OA:=
 bo (aA a0) λb=>fld b 0 H λd H=>bnd (lnS d H) λe H=>
 some (e,H)
def anh:Rn1 104 agR:=λ_ _ _ _ h=>
 rnG an0 Tryz.func104 J J  h
def aaS(C:aF)(a0 g:AV)(H:ah):OA:=
 bo (bi .geq 3 a0 (I 1)) λb=>gl b true (some a0) H λh H=>gl b true (some g) H λi H=>gl b true (bi .leq 3 h i) H λd H=>bo (cO b d (B false)) λe=>
 some (e,H)
def ani:Rn2 105 aaS:=λ_ _ _ _ _ h=>
 rnG an0 Tryz.func105 J J  h
def agS(C:aF)(a0 b:AV)(H:ah):OA:=
 bnd (C 151 [a0,b] H) λd H=>bo (bi .geq 3 d (I 0)) λe=>
 some (e,H)
def anj:Rn2 106 agS:=λ_ _ _ _ _ h=>
 rnG an0 Tryz.func106 J J  h
def aaT(C:aF)(a0 g:AV)(H:ah):OA:=
 bnd (lnS a0 H) λh H=>bo (bi .gtr 3 h (I 24)) λb=>gl b false (some a0) H λi H=>gl b false (some (.fn (.func 109) [] [g])) H λj H=>gdA (some b) false (C 108 [i,j] H) H λd H=>bo (cO b (B true) d) λe=>
 some (e,H)
def ank:Rn2 107 aaT:=λ_ _ _ _ _ h=>
 rnG an0 Tryz.func107 J J  h
def agT(C:aF)(a0 b:AV)(H:ah):OA:=
 bnd (C 152 [a0,b] H) λd H=>bo (bi .geq 3 d (I 0)) λe=>
 some (e,H)
def anl:Rn2 108 agT:=λ_ _ _ _ _ h=>
 rnG an0 Tryz.func108 J J  h
def agU(C:aF)(a0 b:AV)(H:ah):OA:=
 bnd (gV 53 a0 H) λd H=>
 bnd (lda 8 b H) λe H=>bnd (lda 3 d H) λg H=>bnd (C 110 [e,g] H) λh H=>bo (un .not h) λi=>
 some (i,H)
def anm:Rn2 109 agU:=λ_ _ _ _ _ h=>
 rnG an0 Tryz.func109 J J  h
def Eu(C:aF)(a0 T:AV)(H:ah):OA:=
 bnd (gV 26 a0 H) λW H=>bnd (gV 53 T H) λi H=>
 bnd (lda 8 W H) λX H=>fld i 1 H λk H=>bnd (C 86 [X,k] H) λj H=>bo (aJ j 0) λm=>bo (aJ j 1) λaa=>
 fld i 0 H λo H=>bo (bi .geq 3 o (I 1)) λd=>gl d true (au i 0) H λp H=>gdA (some d) true (ld p H) H λq H=>gl d true (bi .leq 3 q (I 4)) H λu H=>bo (cO d u (B false)) λh=>gl h true (some m) H λv H=>gl h true (bi .neq 3 v (I (-1))) H λw H=>bo (cO h w (B false)) λb=>gl b true (au i 2) H λy H=>gdA (some b) true (ld y H) H λz H=>gl b true (bi .eql 3 z (I 0)) H λA H=>gl b true (some A) H λe H=>gl e false (au i 0) H λD H=>gdA (some e) false (ld D H) H λE H=>gl e false (bi .eql 3 E (I 2)) H λF H=>gl b true (cO e (B true) F) H λG H=>gl b true (some G) H λg H=>gl g false (au i 0) H λK H=>gdA (some g) false (ld K H) H λL H=>gl g false (bi .eql 3 L (I 3)) H λM H=>gl b true (cO g (B true) M) H λQ H=>bo (cO b Q (B false)) λR=>
 some (R,H)
def ano:Rn2 110 Eu:=λ_ _ _ _ _ h=>
 rnG an0 Tryz.func110 J J  h
def agV(C:aF)(a0 b:AV)(H:ah):OA:=
 bnd (gV 26 a0 H) λd H=>
 fld d 0 H λe H=>bnd (C 153 [b,e] H) λg H=>
 some (g,H)
def anp:Rn2 111 agV:=λ_ _ _ _ _ h=>
 rnG an0 Tryz.func111 J J  h
def agW(C:aF)(a0 h:AV)(H:ah):OA:=
 bnd (gV 26 a0 H) λb H=>
 bo (bi .lss 3 h (I 0)) λd=>gl d false (some h) H λi H=>gl d false (au b 1) H λj H=>gdA (some d) false (ld j H) H λk H=>gl d false (bi .geq 3 i k) H λm H=>bo (cO d (B true) m) λo=>
 aX o
 (some ((.s (Go.Value.slice none 0 0)),H))
 (fld b 2 H λe H=>bnd (mks 3 1 8 [zI] e e H) λg H=>
  fld b 2 H λp H=>bo (bi .mul 3 h p) λq=>fld b 7 H λu H=>bnd (lnS u H) λv H=>bnd (fU (kG Tryz.prog false #[3,3] 3 [q,v]) H) λw H=>
  fld b 7 H λy H=>bo (slS 1 y (some w) none none) λz=>bnd (cpy 1 g z H) λA H=>
  some (g,H))
def anq:Rn2 112 agW:=λ_ _ _ _ _ h=>
 rnG an0 Tryz.func112 J J  h
def aaU(C:aF)(a0 w y:AV)(H:ah):OA:=
 bnd (alc 112 [zI,zI,zI,zI,zI,zI,zI,zB,zN] H) λd H=>
 bnd (C 103 [a0,w] H) λe H=>bo (un .not e) λg=>
 aX g
 (bo (bd 112 []) λh=>bnd (st 9 d h H) λ_ H=>
  bnd (lda 9 d H) λi _=>some (.tup [i,(B false)],H))
 (bo (aA a0) λj=>fld j 0 H λk H=>bnd (ix 4 k w H) λm H=>bnd (lda 4 m H) λo H=>bnd (C 49 [o,y] H) λp H=>bo (fl p 1) λq=>bnd (C 154 [q] H) λb H=>bo (aJ b 0) λu=>bo (aJ b 1) λv=>bnd (st 9 d u H) λ_ H=>
  bnd (lda 9 d H) λi _=>some (.tup [i,v],H))
def agX:Rn3 113 aaU:=λ_ _ _ _ _ _ h=>
 rnG an0 Tryz.func113 J J  h
def IV(C:aF)(a0 X a2 a3:AV)(H:ah):OA:=
 bnd (gV 44 a0 H) λg H=>bnd (gV 112 a3 H) λk H=>bnd (alc 44 [zI,zI,zI,zI,zI,zI,zN,zI,zI] H) λd H=>
 fld g 0 H λm H=>bo (bi .neq 3 m (I 1)) λb=>gdA (some b) false (lda 9 g H) H λo H=>gdA (some b) false (lda 9 k H) H λp H=>gdA (some b) false (C 155 [o,p] H) H λq H=>gl b false (un .not q) H λu H=>bo (cO b (B true) u) λv=>
 aX v
 (bo (bd 44 []) λw=>bnd (st 9 d w H) λ_ H=>
  bnd (lda 9 d H) λe _=>some (.tup [e,(B false)],H))
 (fld g 3 H λh H=>
  bo (bi .eql 3 h (I 1)) λy=>
  aX y
  (bnd (lda 9 g H) λz H=>bnd (lda 9 k H) λA H=>bnd (C 156 [z,X,a2,A] H) λi H=>bo (aJ i 0) λD=>bo (aJ i 1) λE=>bnd (st 9 d D H) λ_ H=>
  bnd (lda 9 d H) λe _=>some (.tup [e,E],H))
  (bo (bi .eql 3 h (I 2)) λF=>
  aX F
  (bnd (lda 9 g H) λG H=>bnd (lda 9 k H) λK H=>bnd (C 157 [G,X,a2,K] H) λj H=>bo (aJ j 0) λL=>bo (aJ j 1) λM=>bnd (st 9 d L H) λ_ H=>
   bnd (lda 9 d H) λe _=>some (.tup [e,M],H))
  (bo (bi .eql 3 h (I 6)) λQ=>
   aX Q
   (bo (au g 3) λR=>bnd (st 1 R (I 0) H) λ_ H=>
   bnd (lda 9 g H) λT H=>bnd (st 9 d T H) λ_ H=>
   bnd (lda 9 d H) λe _=>some (.tup [e,(B true)],H))
   (bo (bd 44 []) λW=>bnd (st 9 d W H) λ_ H=>
   bnd (lda 9 d H) λe _=>some (.tup [e,(B false)],H)))))
def anr:Rn4 114 IV:=λ_ _ _ _ _ _ _ h=>
 rnG an0 Tryz.func114 J J  h
def ant:Ann:=⟨[],[(6,rF 8 (some true::rF 8 []))],[(6,[(3,10),(5,10),(5,12)])]⟩
def Fq(C:aF)(j k b i:AV)(H:ah):OA:=
 fld b 5 H λd H=>bo (au b 7) λe=>bnd (st 1 e d H) λ_ H=>
 bnd (lda 9 b H) λg H=>bnd (C 158 [g,j,k] H) λh H=>bnd (st 9 i h H) λ_ H=>
 bnd (lda 9 i H) λm _=>some (.tup [m,(B true)],H)
def Fv(C:aF)(j k h m i:AV)(H:ah):OA:=
 fld m 5 H λb H=>bo (au h 7) λd=>bnd (st 1 d b H) λ_ H=>
 bnd (lda 9 h H) λe H=>bnd (C 158 [e,j,k] H) λg H=>bnd (st 9 i g H) λ_ H=>
 bnd (lda 9 i H) λo _=>some (.tup [o,(B true)],H)
def Bv(C:aF)(a0 y m a3:AV)(H:ah):OA:=
 bnd (gV 44 a0 H) λb H=>bnd (gV 112 a3 H) λi H=>bnd (alc 44 [zI,zI,zI,zI,zI,zI,zN,zI,zI] H) λg H=>
 fld b 0 H λz H=>bo (bi .neq 3 z (I 2)) λe=>gdA (some e) false (lda 9 b H) H λA H=>gdA (some e) false (lda 9 i H) H λD H=>gdA (some e) false (C 155 [A,D] H) H λE H=>gl e false (un .not E) H λF H=>bo (cO e (B true) F) λG=>
 aX G
 (bo (bd 44 []) λK=>bnd (st 9 g K H) λ_ H=>
  bnd (lda 9 g H) λo _=>some (.tup [o,(B false)],H))
 (fld b 1 H λL H=>bnd (C 87 [m,L] H) λp H=>bo (aJ p 0) λM=>bo (aJ p 1) λq=>bnd (alc 166 [zI,zI,zI,zI,zB,zN] H) λu H=>bnd (st 6 u M H) λ_ H=>
  fld b 3 H λj H=>
  bo (bi .eql 3 j (I 1)) λQ=>
  aX Q
  (fld i 6 H λR H1=>bo (au i 5) λv=>bnd (ld v H1) λT H3=>bo (au i 5) λk=>bnd (ld k H3) λW H5=>fld i 8 H5 λX H7=>bnd (unG H7 (C 55 [X] H7.guard)) λaa H8=>bo (au b 4) λab=>bnd (st 1 ab R H8) λ_ h=>bo (au b 5) λad=>bnd (st 1 ad T h) λ_ w=>bo (au b 8) λae=>bnd (st 1 ae W w) λ_ af=>bo (au b 6) λag=>bnd (st 1 ag aa af) λ_ d=>ck (bT v) H8 h <| ck (bT k) H8 h <| ck (bT k) h w <|
  aX q
  (fld u 5 d λai d=>bo (au b 6) λal=>bnd (st 1 al ai d) λ_ d=>
   Fq C y m b g d)
  (Fq C y m b g d))
  (bo (bi .eql 3 j (I 3)) λam=>
  aX am
  (bo (un .not q) λao=>
   aX ao
   (fld i 8 H λap H=>bnd (C 55 [ap] H) λaq H=>bo (au b 6) λar=>bnd (st 1 ar aq H) λ_ H=>
   Fv C y m b i g H)
   (Fv C y m b i g H))
  (bo (bi .eql 3 j (I 6)) λaw=>
   aX aw
   (bo (au b 3) λax=>bnd (st 1 ax (I 0) H) λ_ H=>
   bnd (lda 9 b H) λay H=>bnd (st 9 g ay H) λ_ H=>
   bnd (lda 9 g H) λo _=>some (.tup [o,(B true)],H))
   (bo (bd 44 []) λaz=>bnd (st 9 g az H) λ_ H=>
   bnd (lda 9 g H) λo _=>some (.tup [o,(B false)],H)))))
def anu:Rn4 115 Bv:=λ_ _ _ _ _ _ _ h=>
 rnG ant Tryz.func115 J J  h
def zq(C:aF)(a0 a1 i a3:AV)(H:ah):OA:=
 bnd (gV 44 a0 H) λb H=>bnd (gV 112 a3 H) λv7 H=>bnd (alc 44 [zI,zI,zI,zI,zI,zI,zN,zI,zI] H) λd H=>
 fld b 0 H λj H=>bo (bi .neq 3 j (I 3)) λg=>gdA (some g) false (lda 9 b H) H λk H=>gdA (some g) false (lda 9 v7 H) H λm H=>gdA (some g) false (C 155 [k,m] H) H λo H=>gl g false (un .not o) H λp H=>bo (cO g (B true) p) λq=>
 aX q
 (bo (bd 44 []) λu=>bnd (st 9 d u H) λ_ H=>
  bnd (lda 9 d H) λe _=>some (.tup [e,(B false)],H))
 (fld b 3 H λh H=>
  bo (bi .eql 3 h (I 1)) λv=>
  aX v
  (bnd (lda 9 b H) λw H=>bnd (lda 9 v7 H) λy H=>bnd (C 159 [w,i,y] H) λz H=>bnd (st 9 d z H) λ_ H=>
  bnd (lda 9 d H) λe _=>some (.tup [e,(B true)],H))
  (bo (bi .eql 3 h (I 4)) λA=>
  aX A
  (fld b 7 H λD H=>bo (bi .eql 3 D (I (-1))) λE=>
   aX E
   (bnd (lda 9 b H) λF H=>fld b 8 H λG H=>bnd (C 160 [F,i,G] H) λK H=>bnd (st 9 d K H) λ_ H=>
   bnd (lda 9 d H) λe _=>some (.tup [e,(B true)],H))
   (bo (au b 3) λL=>bnd (st 1 L (I 5) H) λ_ H=>
   bnd (lda 9 b H) λM H=>bnd (st 9 d M H) λ_ H=>
   bnd (lda 9 d H) λe _=>some (.tup [e,(B true)],H)))
  (bo (bi .eql 3 h (I 5)) λQ=>
   aX Q
   (fld b 5 H λR H=>bo (bi .eql 3 R (I (-1))) λT=>
   aX T
   (bnd (lda 9 b H) λW H=>fld b 7 H λX H=>bnd (C 160 [W,i,X] H) λaa H=>bnd (st 9 d aa H) λ_ H=>
    bnd (lda 9 d H) λe _=>some (.tup [e,(B true)],H))
   (bnd (lda 9 b H) λab H=>fld b 8 H λad H=>bnd (C 160 [ab,i,ad] H) λae H=>bnd (st 9 d ae H) λ_ H=>
    bnd (lda 9 d H) λe _=>some (.tup [e,(B true)],H)))
   (bo (bi .eql 3 h (I 6)) λaf=>
   aX af
   (bo (au b 3) λag=>bnd (st 1 ag (I 0) H) λ_ H=>
    bnd (lda 9 b H) λai H=>bnd (st 9 d ai H) λ_ H=>
    bnd (lda 9 d H) λe _=>some (.tup [e,(B true)],H))
   (bo (bd 44 []) λal=>bnd (st 9 d al H) λ_ H=>
    bnd (lda 9 d H) λe _=>some (.tup [e,(B false)],H))))))
def anv:Rn4 116 zq:=λ_ _ _ _ _ _ _ h=>
 rnG an0 Tryz.func116 J J  h
def aaV(C:aF)(a0 m:AV)(H:ah):OA:=
 bo (aA a0) λo=>fld o 2 H λp H=>bo (un .not p) λq=>
 aX q
 (some ((I 6),H))
 (bo (aA a0) λb=>fld b 1 H λd H=>bnd (bs 22 1 [(0,m)] H) λe H=>bnd (app 3 1 8 d e H) λg H=>bo (aA a0) λh=>bo (au h 1) λi=>bnd (st 1 i g H) λ_ H=>bo (aA a0) λj=>bo (au j 2) λk=>bnd (st 1 k (B false) H) λ_ H=>
  some ((I 0),H))
def agY:Rn2 117 aaV:=λ_ _ _ _ _ h=>
 rnG an0 Tryz.func117 J J  h
def agZ(C:aF)(a0 k m o:AV)(H:ah):OA:=
 bo (aA a0) λb=>fld b 0 H λd H=>bo (bd 85 [(0,k),(1,m),(2,(B true)),(3,o)]) λe=>bnd (bs 86 1 [(0,e)] H) λg H=>bnd (app 85 4 32 d g H) λh H=>bo (aA a0) λi=>bo (au i 0) λj=>bnd (st 1 j h H) λ_ H=>
 some (.tup [],H)
def anw:Rn4 118 agZ:=λ_ _ _ _ _ _ _ h=>
 rnG an0 Tryz.func118 J J  h
def aaW(C:aF)(a0 g:AV)(H:ah):OA:=
 bnd (gV 166 a0 H) λh H=>
 bnd (lda 6 h H) λi H=>bnd (C 161 [i,g] H) λj H=>bo (un .not j) λk=>
 aX k
 (some ((I 0),H))
 (fld h 5 H λb H=>bnd (ix 1 b g H) λd H=>bnd (ld d H) λe H=>
  some (e,H))
def anx:Rn2 119 aaW:=λ_ _ _ _ _ h=>
 rnG an0 Tryz.func119 J J  h
def V5(C:aF)(a0 A D:AV)(H:ah):OA:=
 bo (aA a0) λE=>fld E 4 H λd H=>bo (un .not d) λb=>gl b false (some a0) H λe H=>gl b false (aA e) H λg H=>gdA (some b) false (lda 6 g H) H λh H=>gl b false (some A) H λi H=>gdA (some b) false (C 161 [h,i] H) H λj H=>gl b false (un .not j) H λk H=>bo (cO b (B true) k) λm=>
 aX m
 (some ((B false),H))
 (bo (aA a0) λo=>fld o 5 H λp H=>bnd (C 55 [p] H) λq H=>bo (aA a0) λu=>bo (au u 5) λv=>bnd (st 1 v q H) λ_ H=>
  bo (aA a0) λw=>fld w 5 H λy H=>bnd (ix 1 y A H) λz H=>bnd (st 1 z D H) λ_ H=>
  some ((B true),H))
def aaX:Rn3 120 V5:=λ_ _ _ _ _ _ h=>
 rnG an0 Tryz.func120 J J  h
def anz:Ann:=⟨[],[(7,rF 8 []),(13,rF 11 [])],[]⟩
def QW(C:aF)(a0 a1:AV)(H:ah):OA:=
 bnd (gV 166 a1 H) λb H=>
 bnd (lda 6 b H) λv6 H=>bnd (C 133 [v6] H) λv7 H=>bnd (st 6 b v7 H) λ_ H=>
 fld b 2 H λv9 H=>bo (bi .lss 3 v9 (I 0)) λe=>
 aX e
 (some ((I 1),H))
 (fld b 2 H λg H=>bnd (C 132 [a0,g] H) λd H=>
  bo (bi .geq 3 d (I 0)) λh=>
  aX h
  (bo (aA a0) λi=>fld i 0 H λj H=>bnd (ix 6 j d H) λk H=>fld k 3 H λm H=>bo (au b 3) λo=>bnd (st 1 o m H) λ_ H=>
  bo (aA a0) λp=>fld p 0 H λq H=>bnd (lda 6 b H) λu H=>bnd (ix 6 q d H) λv H=>bnd (st 6 v u H) λ_ H=>
  some ((I 0),H))
  (fld b 2 H λw H=>bnd (C 90 [a0,w] H) λy H=>
  aX y
  (some ((I 5),H))
  (bo (aA a0) λz=>fld z 3 H λA H=>bo (bi .add 3 A (I 1)) λD=>bo (aA a0) λE=>bo (au E 3) λF=>bnd (st 1 F D H) λ_ H=>
   bo (aA a0) λG=>fld G 3 H λK H=>bo (au b 3) λL=>bnd (st 1 L K H) λ_ H=>
   bo (aA a0) λM=>fld M 0 H λQ H=>bnd (lda 6 b H) λR H=>bnd (bs 141 1 [(0,R)] H) λT H=>bnd (app 166 6 64 Q T H) λW H=>bo (aA a0) λX=>bo (au X 0) λaa=>bnd (st 1 aa W H) λ_ H=>
   some ((I 0),H))))
def anA:Rn2 121 QW:=λ_ _ _ _ _ h=>
 rnG anz Tryz.func121 J J  h
def anB:Ann:=⟨[],[(1,some false::some false::some true::rF 7 (none::some false::[])),(11,rF 8 []),(13,rF 8 []),(15,rF 10 (some true::rF 8 []))],[(11,[(3,5)]),(13,[(3,5)]),(15,[(3,12),(5,12),(5,14),(6,12),(6,14)])]⟩
def pX(C:aF)(d e:AV)(H:ah):OA:=
 bnd (lda 9 e H) λb H=>bnd (st 9 d b H) λ_ H=>
 bnd (lda 9 d H) λg _=>some (g,H)
def Ew(C:aF)(a0 a1 a2:AV)(H:ah):OA:=
 bnd (gV 44 a0 H) λd H=>bnd (alc 112 [zI,zI,zI,zI,zI,zI,zI,zB,zN] H) λh H=>
 bnd (alc 112 [zI,zI,zI,zI,zI,zI,zI,zB,zN] H) λb H=>fld d 3 H λv9 H=>bnd (unG H (C 162 [v9] H.guard)) λw H=>fld d 2 H λy H=>fld d 1 H λz H=>bo (bd 112 [(0,w),(1,a1),(2,a2),(3,y),(4,z)]) λA=>bnd (st 9 b A H) λ_ H=>
 fld d 3 H λe H=>
 bo (bi .eql 3 e (I 1)) λD=>
 aX D
 (bnd (lda 9 b H) λE H=>bnd (st 9 h E H) λ_ H=>
  bnd (lda 9 h H) λF _=>some (F,H))
 (bo (bi .eql 3 e (I 2)) λG=>
  aX G
  (fld d 5 H λK H=>bo (au b 2) λL=>bnd (st 1 L K H) λ_ H=>bo (au b 5) λM=>bnd (st 1 M a1 H) λ_ H=>
  pX C h b H)
  (bo (bi .eql 3 e (I 3)) λQ=>
  aX Q
  (fld d 7 H λR H=>bo (au b 2) λT=>bnd (st 1 T R H) λ_ H=>
   pX C h b H)
  (bo (bi .eql 3 e (I 4)) λW=>
   aX W
   (fld d 5 H λX H1=>bo (au d 7) λo=>bnd (ld o H1) λaa H3=>bo (au b 2) λab=>bnd (st 1 ab X H3) λ_ H5=>bo (au b 5) λad=>bnd (st 1 ad aa H5) λ_ H7=>ck (bT o) H3 H5 <|
   pX C h b H7)
   (bo (bi .eql 3 e (I 5)) λae=>
   aX ae
   (fld d 7 H λaf ag=>bo (au d 5) λp=>bnd (ld p ag) λai q=>bo (au b 2) λal=>bnd (st 1 al af q) λ_ u=>bo (au b 5) λam=>bnd (st 1 am ai u) λ_ ao=>ck (bT p) q u <|
    pX C h b ao)
   (bo (bi .eql 3 e (I 6)) λap=>
    aX ap
    (fld d 4 H λaq ar=>bo (au d 5) λv=>bnd (ld v ar) λaw ax=>bo (au d 6) λj=>bnd (ld j ax) λk ay=>bnd (lnS k ay) λaz aD=>bo (bi .gtr 3 az (I 0)) λaE=>bo (au d 6) λaL=>bnd (ld aL aD) λaM H9=>bnd (unG H9 (C 55 [aM] H9.guard)) λaR i=>bo (au b 6) λa3=>bnd (st 1 a3 aq i) λ_ g=>bo (au b 5) λa4=>bnd (st 1 a4 aw g) λ_ m=>bo (au b 7) λa5=>bnd (st 1 a5 aE m) λ_ a6=>bo (au b 8) λa7=>bnd (st 1 a7 aR a6) λ_ a8=>ck (bT v) i g <| ck (bT j) i g <| ck (bT j) g m <| ck (bT k) i g <| ck (bT k) g m <|
    pX C h b a8)
    (bo (bd 112 []) λa9=>bnd (st 9 h a9 H) λ_ H=>
    bnd (lda 9 h H) λF _=>some (F,H)))))))
def anC:Rn3 122 Ew:=λ_ _ _ _ _ _ h=>
 rnG anB Tryz.func122 J J  h
def ag0:Ann:=⟨[(4,[0,3,11,12,13])],[],[]⟩
def Fz:=kT Tryz.prog Tryz.f123 33 ag0 0
def Bz(C:aF)(t0 h b d e:AV)(H:ah):OA:=
 bo (bi .add 3 e (I 1)) λg=>
 Fz C [t0,h,b,d,g] H
def ag1(C:aF)(a0:AV)(H:ah):OA:=
 bo (aA a0) λg=>fld g 1 H λh H=>bnd (C 164 [h] H) λd H=>bnd (C 163 [d] H) λb H=>bnd (lnS b H) λe H=>
 Fz C [a0,(.s (Go.Value.slice none 0 0)),b,e,(I 0)] H
def V6(C:aF)(t0 i e g b:AV)(H:ah):Fz C [t0,i,e,g,b] H=
 bo (bi .lss 3 b g) λj=>
 aX j
 (bnd (ix 1 e b H) λk H=>bnd (ld k H) λh H=>
  bnd (C 165 [t0,h] H) λm H=>bo (un .not m) λd=>gl d true (some t0) H λo H=>gl d true (some h) H λp H=>gdA (some d) true (C 166 [o,p] H) H λq H=>gl d true (bi .gtr 3 q (I 0)) H λu H=>bo (cO d u (B false)) λv=>
  aX v
  (bnd (bs 22 1 [(0,h)] H) λw H=>bnd (app 3 1 8 i w H) λy H=>
  Bz C t0 y e g b H)
  (Bz C t0 i e g b H))
 (some (i,H)):=
 lpE.trans J
def anD:Rn1 123 ag1:=λ_ _ _ _ h=>
 rnG ag0 Tryz.func123 J J  h
def anE:Ann:=⟨[],[(1,rF 11 [])],[]⟩
def ag2(C:aF)(a0:AV)(H:ah):OA:=
 bo (aA a0) λg=>fld g 1 H λh H=>bo (aA a0) λi=>fld i 0 H λb H=>bnd (lnS b H) λd H=>bo (bi .sub 3 h d) λe=>
 some (e,H)
def anF:Rn1 124 ag2:=λ_ _ _ _ h=>
 rnG anE Tryz.func124 J J  h
def anG:Ann:=⟨[],[(4,rF 13 []),(5,rF 8 []),(6,rF 7 [])],[]⟩
def V7(C:aF)(a0 d:AV)(H:ah):OA:=
 bnd (C 165 [a0,d] H) λb H=>gl b false (some a0) H λg H=>gl b false (some d) H λh H=>gdA (some b) false (C 166 [g,h] H) H λi H=>gl b false (bi .eql 3 i (I 0)) H λj H=>bo (cO b (B true) j) λk=>
 aX k
 (some (.tup [(I 0),(I 0),(B false)],H))
 (bo (aA a0) λm=>fld m 1 H λo H=>bnd (lk .i64 (.slice none 0 0) o d false H) λp H=>bnd (ix 2 p (I 0) H) λq H=>bnd (lda 2 q H) λu H=>bnd (alc 258 [zI,zI] H) λe H=>bnd (st 2 e u H) λ_ H=>
  bo (aA a0) λv=>fld v 1 H λw H=>bo (aA a0) λy=>fld y 1 H λz H=>bnd (lk .i64 (.slice none 0 0) z d false H) λA H=>bo (slS 2 A (some (I 1)) none none) λD=>bnd (mup .i64 w d D H) λ_ H=>
  bo (aA a0) λE=>fld E 0 H λF H=>fld e 0 H λG H=>bnd (mup .i64 F d G H) λ_ H=>
  fld e 0 H λK H=>fld e 1 H λL H=>
  some (.tup [K,L,(B true)],H))
def anH:Rn2 125 V7:=λ_ _ _ _ _ h=>
 rnG anG Tryz.func125 J J  h
def anI:Ann:=⟨[],[(2,rF 15 [])],[]⟩
def ag3(C:aF)(a0 q v w:AV)(H:ah):OA:=
 bnd (alc 112 [zI,zI,zI,zI,zI,zI,zI,zB,zN] H) λu H=>
 bo (aA a0) λe=>fld e 0 H λg H=>bnd (C 167 [g,q] H) λb H=>bo (aJ b 0) λh=>bo (aJ b 1) λy=>bnd (alc 199 [zI,zI,zN] H) λd H=>bnd (st 3 d h H) λ_ H=>
 bo (aA a0) λi=>fld i 10 H λj H=>fld d 0 H λk H=>fld d 1 H λm H=>fld d 2 H λo H=>bo (bd 112 [(0,(I 7)),(1,j),(2,v),(3,w),(4,q),(6,k),(5,m),(8,o)]) λp=>bnd (st 9 u p H) λ_ H=>
 bnd (lda 9 u H) λz _=>some (z,H)
def anJ:Rn4 126 ag3:=λ_ _ _ _ _ _ _ h=>
 rnG anI Tryz.func126 J J  h
def aaY(C:aF)(a0:AV)(H:ah):OA:=
 bnd (gV 112 a0 H) λi H=>
 fld i 1 H λv6 H=>bnd (C 168 [v6,(I 0),(I 6)] H) λk H=>gl k true (au i 2) H λv9 H=>gdA (some k) true (ld v9 H) H λm H=>gdA (some k) true (C 168 [m,(I 0),(I 6)] H) H λo H=>bo (cO k o (B false)) λe=>gl e true (au i 3) H λp H=>gdA (some e) true (ld p H) H λq H=>gdA (some e) true (C 168 [q,(I 0),(I 4096)] H) H λu H=>bo (cO e u (B false)) λv=>
 fld i 0 H λw H=>bnd (C 168 [w,(I 1),(I 10)] H) λg H=>gl g true (au i 4) H λy H=>gdA (some g) true (ld y H) H λz H=>gdA (some g) true (C 168 [z,(I 0),(I 8)] H) H λA H=>bo (cO g A (B false)) λh=>gl h true (au i 5) H λD H=>gdA (some h) true (ld D H) H λE H=>gdA (some h) true (C 168 [E,(I (-1)),(I 6)] H) H λF H=>bo (cO h F (B false)) λG=>
 bo (un .not v) λj=>gl j false (some G) H λK H=>gl j false (un .not K) H λL H=>bo (cO j (B true) L) λb=>gl b false (au i 6) H λM H=>gdA (some b) false (ld M H) H λQ H=>gdA (some b) false (C 168 [Q,(I 0),(I 3)] H) H λR H=>gl b false (un .not R) H λT H=>bo (cO b (B true) T) λd=>gl d false (au i 8) H λW H=>gdA (some d) false (ld W H) H λX H=>gdA (some d) false (lnS X H) H λaa H=>gl d false (bi .gtr 3 aa (I 4)) H λab H=>bo (cO d (B true) ab) λad=>
 aX ad
 (some ((I 1),H))
 (some ((I 0),H))
def ag4:Rn1 127 aaY:=λ_ _ _ _ h=>
 rnG an0 Tryz.func127 J J  h
def anK:Ann:=⟨[],[(3,rF 6 (some true::rF 5 []))],[]⟩
def aaZ(C:aF)(a0 m:AV)(H:ah):OA:=
 bnd (gV 112 m H) λo H=>
 bnd (C 124 [a0] H) λp H=>bo (bi .eql 3 p (I 0)) λq=>
 aX q
 (some ((I 5),H))
 (bo (aA a0) λb=>fld b 0 H λd H=>bnd (lda 9 o H) λe H=>bnd (unG H (C 138 [e] H.guard)) λg H=>bnd (bs 136 1 [(0,g)] H) λh H=>bnd (app 112 9 88 d h H) λi H=>bo (aA a0) λj=>bo (au j 0) λk=>bnd (st 1 k i H) λ_ H=>
  some ((I 0),H))
def ag5:Rn2 128 aaZ:=λ_ _ _ _ _ h=>
 rnG anK Tryz.func128 J J  h
def anL:Ann:=⟨[],[(1,rF 23 []),(4,rF 6 (some true::rF 15 [])),(7,rF 12 []),(13,rF 14 [])],[]⟩
def uJ(C:aF)(a0 a1:AV)(H:ah):OA:=
 bnd (gV 112 a1 H) λe H=>bnd (alc 112 [zI,zI,zI,zI,zI,zI,zI,zB,zN] H) λi H=>
 bnd (lda 9 e H) λv9 H=>bnd (C 127 [v9] H) λq H=>bo (bi .eql 48 q (I 0)) λg=>gl g true (au e 2) H λu H=>gdA (some g) true (ld u H) H λv H=>gl g true (some a0) H λw H=>gl g true (aA w) H λy H=>gl g true (au y 10) H λz H=>gdA (some g) true (ld z H) H λA H=>gl g true (bi .eql 3 v A) H λD H=>bo (cO g D (B false)) λb=>gl b true (au e 1) H λE H=>gdA (some b) true (ld E H) H λF H=>gl b true (some a0) H λG H=>gl b true (aA G) H λK H=>gl b true (au K 2) H λL H=>gl b true (au L 0) H λM H=>gdA (some b) true (ld M H) H λQ H=>gl b true (bi .lss 3 F Q) H λR H=>bo (cO b R (B false)) λT=>
 bo (un .not T) λh=>gl h false (au e 0) H λW H=>gdA (some h) false (ld W H) H λX H=>gl h false (bi .neq 3 X (I 1)) H λaa H=>gl h false (some aa) H λk H=>gl k true (au e 0) H λab H=>gdA (some k) true (ld ab H) H λad H=>gl k true (bi .neq 3 ad (I 2)) H λae H=>gl h false (cO k ae (B false)) H λaf H=>bo (cO h (B true) af) λag=>
 aX ag
 (bo (bd 112 []) λai=>bnd (st 9 i ai H) λ_ H=>
  bnd (lda 9 i H) λj _=>some (.tup [j,(B false),(I 1)],H))
 (bo (aA a0) λal=>bo (au al 2) λam=>bnd (lda 8 am H) λao H=>fld e 4 H λap H=>bnd (unG H (C 111 [ao,ap] H.guard)) λaq H=>bo (aA a0) λar=>fld ar 10 H λaw H=>bo (bi .neq 3 aq aw) λd=>gl d false (au e 4) H λax H=>gdA (some d) false (ld ax H) H λay H=>gl d false (some a0) H λaz H=>gl d false (aA az) H λaD H=>gl d false (au aD 2) H λaE H=>gl d false (au aE 1) H λaL H=>gdA (some d) false (ld aL H) H λaM H=>gl d false (bi .geq 3 ay aM) H λaR H=>bo (cO d (B true) aR) λa2=>
  aX a2
  (bo (bd 112 []) λa3=>bnd (st 9 i a3 H) λ_ H=>
  bnd (lda 9 i H) λj _=>some (.tup [j,(B false),(I 3)],H))
  (fld e 0 H λa4 H=>bo (bi .eql 3 a4 (I 1)) λa5=>
  aX a5
  (bo (aA a0) λa6=>fld a6 1 H λa7 H=>fld e 4 H λa8 H=>fld e 1 H λa9 H=>fld e 3 H λba H=>bnd (C 169 [a7,a8,a9,ba] H) λbb H=>bo (un .not bb) λbc=>
   aX bc
   (bo (bd 112 []) λbe=>bnd (st 9 i be H) λ_ H=>
   bnd (lda 9 i H) λj _=>some (.tup [j,(B false),(I 0)],H))
   (fld e 4 H λbh H=>fld e 1 H λbj H=>fld e 3 H λbk H=>bnd (C 126 [a0,bh,bj,bk] H) λbl H=>bnd (st 9 i bl H) λ_ H=>
   bnd (lda 9 i H) λj _=>some (.tup [j,(B true),(I 0)],H)))
  (bnd (lda 9 e H) λbm H=>bnd (C 170 [a0,bm] H) λm H=>
   bo (bi .neq 48 m (I 0)) λbp=>
   aX bp
   (bo (bd 112 []) λbq=>bnd (st 9 i bq H) λ_ H=>
   bnd (lda 9 i H) λj _=>some (.tup [j,(B false),m],H))
   (bo (aA a0) λbr=>fld br 10 H λbt H=>fld e 1 H λbu H=>fld e 3 H λo H=>fld e 4 H λp H=>bo (bd 112 [(0,(I 8)),(1,bt),(2,bu),(3,o),(4,p)]) λbv=>bnd (st 9 i bv H) λ_ H=>
   bnd (lda 9 i H) λj _=>some (.tup [j,(B true),(I 0)],H)))))
def anM:Rn2 129 uJ:=λ_ _ _ _ _ h=>
 rnG anL Tryz.func129 J J  h
def anN:Ann:=⟨[],[(6,some false::some false::some true::rF 9 (none::some false::[])),(9,rF 8 []),(17,rF 13 []),(20,rF 6 [])],[(9,[(3,5)]),(17,[(3,8),(6,8),(6,10)]),(20,[(0,3)])]⟩
def yF(C:aF)(t0 g m h:AV)(H:ah):OA:=
 bnd (lda 9 h H) λb H0=>bnd (lda 6 m H0) λd i=>bnd (C 121 [t0,d] i) λe j=>bnd (st 9 g b j) λ_ k=>ck (bT h) i j <|
 bnd (lda 9 g k) λo _=>some (.tup [o,e],k)
def BA(C:aF)(a0 a1:AV)(H:ah):OA:=
 bnd (gV 112 a1 H) λd H=>bnd (alc 112 [zI,zI,zI,zI,zI,zI,zI,zB,zN] H) λh H=>
 bnd (lda 9 d H) λv9 H=>bnd (C 127 [v9] H) λA H=>bo (bi .neq 48 A (I 0)) λi=>gl i false (au d 0) H λD H=>gdA (some i) false (ld D H) H λE H=>gl i false (bi .lss 3 E (I 3)) H λF H=>bo (cO i (B true) F) λj=>gl j false (au d 0) H λG H=>gdA (some j) false (ld G H) H λK H=>gl j false (bi .gtr 3 K (I 6)) H λL H=>bo (cO j (B true) L) λM=>
 aX M
 (bo (bd 112 []) λQ=>bnd (st 9 h Q H) λ_ H=>
  bnd (lda 9 h H) λq _=>some (.tup [q,(I 1)],H))
 (fld d 4 H λR H=>bnd (C 87 [a0,R] H) λu H=>bo (aJ u 0) λT=>bo (aJ u 1) λW=>bnd (alc 166 [zI,zI,zI,zI,zB,zN] H) λe H=>bnd (st 6 e T H) λ_ H=>
  bo (un .not W) λX=>
  aX X
  (bo (bd 112 []) λaa=>bnd (st 9 h aa H) λ_ H=>
  bnd (lda 9 h H) λq _=>some (.tup [q,(I 3)],H))
  (bnd (alc 112 [zI,zI,zI,zI,zI,zI,zI,zB,zN] H) λg H=>fld d 0 H λab H=>bnd (unG H (C 171 [ab] H.guard)) λad H=>fld d 2 H λae H=>fld d 1 H λaf H=>fld d 3 H λag H=>fld d 4 H λai H=>bo (bd 112 [(0,ad),(1,ae),(2,af),(3,ag),(4,ai)]) λal=>bnd (st 9 g al H) λ_ H=>
  fld d 0 H λk H=>
  bo (bi .eql 3 k (I 3)) λam=>
  aX am
  (fld e 5 H λao H1=>bo (au e 4) λv=>bnd (ld v H1) λap H3=>bo (au g 8) λaq=>bnd (st 1 aq ao H3) λ_ H5=>bo (au g 7) λar=>bnd (st 1 ar ap H5) λ_ m=>ck (bT v) H3 H5 <|
   bo (au e 4) λaw=>bnd (st 1 aw (B false) m) λ_ m=>
   bo (au e 0) λax=>fld d 5 m λay m=>bnd (C 172 [ax,ay] m) λbh m=>
   yF C a0 h e g m)
  (bo (bi .eql 3 k (I 4)) λaz=>
   aX az
   (bo (au e 0) λaD=>fld d 5 H λaE H=>bnd (C 173 [aD,aE] H) λbj H=>
   yF C a0 h e g H)
   (bo (bi .eql 3 k (I 5)) λaL=>
   aX aL
   (bo (au e 0) λaM=>fld d 5 H λaR H=>bnd (C 172 [aM,aR] H) λbk H=>
    yF C a0 h e g H)
   (bo (bi .eql 3 k (I 6)) λa2=>
    aX a2
    (fld e 5 H λa3 a4=>bo (au e 4) λw=>bnd (ld w a4) λa5 a6=>bo (au e 0) λa7=>bo (au a7 0) λo=>bnd (ld o a6) λa8 p=>bo (au g 8) λa9=>bnd (st 1 a9 a3 p) λ_ z=>bo (au g 7) λba=>bnd (st 1 ba a5 z) λ_ y=>bo (au g 5) λbb=>bnd (st 1 bb a8 y) λ_ b=>ck (bT w) p z <| ck (bT o) p z <| ck (bT o) z y <|
    fld d 4 b λbc b=>bnd (C 174 [a0,bc] b) λbl b=>
    bnd (lda 9 g b) λbe b=>bnd (st 9 h be b) λ_ b=>
    bnd (lda 9 h b) λq _=>some (.tup [q,(I 0)],b))
    (yF C a0 h e g H))))))
def ag6:Rn2 130 BA:=λ_ _ _ _ _ h=>
 rnG anN Tryz.func130 J J  h
def ag7(C:aF)(a0:AV)(H:ah):OA:=
 bnd (gV 26 a0 H) λb H=>
 fld b 1 H λd H=>fld b 2 H λe H=>bo (bi .mul 3 d e) λg=>
 some (g,H)
def anP:Rn1 131 ag7:=λ_ _ _ _ h=>
 rnG an0 Tryz.func131 J J  h
def ag8(C:aF)(a0 d:AV)(H:ah):OA:=
 bnd (gV 3 d H) λe H=>
 bo (aA a0) λg=>fld g 0 H λh H=>bnd (C 175 [h,(.fn (.func 176) [] [e])] H) λb H=>
 some (b,H)
def anQ:Rn2 132 ag8:=λ_ _ _ _ _ h=>
 rnG an0 Tryz.func132 J J  h
def ag9(C:aF)(a0:AV)(H:ah):OA:=
 bnd (gV 166 a0 H) λb H=>bnd (alc 166 [zI,zI,zI,zI,zB,zN] H) λd H=>
 fld b 5 H λe H=>bnd (C 55 [e] H) λg H=>bo (au b 5) λh=>bnd (st 1 h g H) λ_ H=>
 bnd (lda 6 b H) λi H=>bnd (st 6 d i H) λ_ H=>
 bnd (lda 6 d H) λj _=>some (j,H)
def anR:Rn1 133 ag9:=λ_ _ _ _ h=>
 rnG an0 Tryz.func133 J J  h
def aha(C:aF)(a0 e g:AV)(H:ah):OA:=
 bnd (alc 44 [zI,zI,zI,zI,zI,zI,zN,zI,zI] H) λd H=>
 bo (bd 44 [(0,a0),(1,e),(2,g),(3,(I 1)),(5,(I (-1))),(7,(I (-1))),(8,(I (-1)))]) λb=>bnd (st 9 d b H) λ_ H=>
 bnd (lda 9 d H) λh _=>some (h,H)
def anS:Rn3 134 aha:=λ_ _ _ _ _ _ h=>
 rnG an0 Tryz.func134 J J  h
def ahb:Ann:=⟨[(4,[0,1,5,11,12,13])],[(5,rF 18 [])],[]⟩
def FB:=kT Tryz.prog Tryz.f135 41 ahb 0
def BD(C:aF)(t0 h i b d e:AV)(H:ah):OA:=
 bo (bi .add 3 e (I 1)) λg=>
 FB C [t0,h,i,b,d,g] H
def ahc(C:aF)(a0 e:AV)(H:ah):OA:=
 bo (aA a0) λg=>fld g 0 H λb H=>bnd (lnS b H) λd H=>
 FB C [a0,e,(.s (Go.Value.slice none 0 0)),b,d,(I 0)] H
def V8(C:aF)(t0 h i e g d:AV)(H:ah):FB C [t0,h,i,e,g,d] H=
 bo (bi .lss 3 d g) λj=>
 aX j
 (bnd (ix 6 e d H) λk H=>bnd (lda 6 k H) λm H=>bnd (alc 166 [zI,zI,zI,zI,zB,zN] H) λo H=>bnd (st 6 o m H) λ_ H=>
  bo (bi .geq 3 h (I 0)) λb=>gl b true (au o 2) H λp H=>gdA (some b) true (ld p H) H λq H=>gl b true (some t0) H λu H=>gl b true (aA u) H λv H=>gl b true (au v 1) H λw H=>gdA (some b) true (ld w H) H λy H=>gl b true (bi .rem 3 q y) H λz H=>gl b true (some h) H λA H=>gl b true (some t0) H λD H=>gl b true (aA D) H λE H=>gl b true (au E 1) H λF H=>gdA (some b) true (ld F H) H λG H=>gl b true (bi .rem 3 A G) H λK H=>gl b true (bi .eql 3 z K) H λL H=>bo (cO b L (B false)) λM=>
  aX M
  (bnd (lda 6 o H) λQ H=>bnd (bs 141 1 [(0,Q)] H) λR H=>bnd (app 166 6 64 i R H) λT H=>
  BD C t0 h T e g d H)
  (BD C t0 h i e g d H))
 (some (i,H)):=
 lpE.trans J
def anT:Rn2 135 ahc:=λ_ _ _ _ _ h=>
 rnG ahb Tryz.func135 J J  h
def ahd:Ann:=⟨[(6,[0,1,4,5,6])],[(7,rF 8 [])],[]⟩
def FC:=kT Tryz.prog Tryz.f136 33 ahd 0
def Ox(C:aF)(t0 g h:AV)(H:ah):OA:=
 bnd (ix 6 t0 (I 0) H) λb H=>bnd (lda 6 b H) λd H=>bnd (alc 166 [zI,zI,zI,zI,zB,zN] H) λe H=>bnd (st 6 e d H) λ_ H=>
 FC C [t0,g,h,e,(I 1)] H
def FD(C:aF)(t0 d e g h:AV)(H:ah):OA:=
 bo (bi .add 3 h (I 1)) λb=>
 FC C [t0,d,e,g,b] H
def ahe(C:aF)(a0 b:AV)(H:ah):OA:=
 bnd (alc 166 [zI,zI,zI,zI,zB,zN] H) λd H=>
 bnd (lnS a0 H) λe H=>bo (bi .lss 3 e (I 1)) λg=>
 aX g
 (bnd (stk H) λh H=>bnd (stk H) λ_ H=>
  Ox C a0 b d H)
 (Ox C a0 b d H)
def V9(C:aF)(t0 g e b d:AV)(H:ah):FC C [t0,g,e,b,d] H=
 bnd (lnS t0 H) λh H=>bo (bi .lss 3 d h) λi=>
 aX i
 (bnd (ix 6 t0 d H) λj H=>bnd (lda 6 j H) λk H=>bnd (lda 6 b H) λm H=>bnd (tJ Tryz.prog C g [k,m] H) λo H=>bo (bi .lss 3 o (I 0)) λp=>
  aX p
  (bnd (ix 6 t0 d H) λq H=>bnd (lda 6 q H) λu H=>bnd (st 6 b u H) λ_ H=>
  FD C t0 g e b d H)
  (FD C t0 g e b d H))
 (bnd (lda 6 b H) λv H=>bnd (st 6 e v H) λ_ H=>
  bnd (lda 6 e H) λw _=>some (w,H)):=
 lpE.trans J
def anU:Rn2 136 ahe:=λ_ _ _ _ _ h=>
 rnG ahd Tryz.func136 J J  h
def ahf(C:aF)(a0 b:AV)(H:ah):OA:=
 bnd (gV 166 a0 H) λd H=>bnd (gV 166 b H) λe H=>
 fld d 3 H λg H=>fld e 3 H λh H=>bo (bi .sub 3 g h) λi=>
 some (i,H)
def anV:Rn2 137 ahf:=λ_ _ _ _ _ h=>
 rnG an0 Tryz.func137 J J  h
def ahg(C:aF)(a0:AV)(H:ah):OA:=
 bnd (gV 112 a0 H) λb H=>bnd (alc 112 [zI,zI,zI,zI,zI,zI,zI,zB,zN] H) λd H=>
 fld b 8 H λe H=>bnd (C 55 [e] H) λg H=>bo (au b 8) λh=>bnd (st 1 h g H) λ_ H=>
 bnd (lda 9 b H) λi H=>bnd (st 9 d i H) λ_ H=>
 bnd (lda 9 d H) λj _=>some (j,H)
def anW:Rn1 138 ahg:=λ_ _ _ _ h=>
 rnG an0 Tryz.func138 J J  h
def aa0(C:aF)(a0:AV)(H:ah):OA:=
 aX a0
 (some ((.s (Go.Value.int Go.IntKind.u8 1)),H))
 (some ((.s (Go.Value.int Go.IntKind.u8 0)),H))
def anX:Rn1 139 aa0:=λ_ _ _ _ h=>
 rnG an0 Tryz.func139 J J  h
def ahh:Ann:=⟨[(4,[0,3,4])],[],[]⟩
def FH:=kT Tryz.prog Tryz.f140 17 ahh 0
def ahi(C:aF)(a0:AV)(H:ah):OA:=
 FH C [a0,(.s (Go.Value.slice none 0 0)),(I 56)] H
def Wh(C:aF)(t0 d b:AV)(H:ah):FH C [t0,d,b] H=
 bo (bi .geq 3 b (I 0)) λj=>
 aX j
 (bo (bi .shr 3 t0 b) λe=>bnd (cv 3 5 e H) λg H=>bnd (bs 172 1 [(0,g)] H) λh H=>bnd (app 5 1 1 d h H) λi H=>
  bo (bi .sub 3 b (I 8)) λk=>
  FH C [t0,i,k] H)
 (some (d,H)):=
 lpE.trans J
def anY:Rn1 140 ahi:=λ_ _ _ _ h=>
 rnG ahh Tryz.func140 J J  h
def ahj(C:aF)(a0:AV)(H:ah):OA:=
 bnd (C 177 [a0] H) λh H=>
 bo (bi .shr 50 h (.s (Go.Value.int Go.IntKind.u64 8))) λi=>bnd (cv 50 5 i H) λj H=>bnd (cv 50 5 h H) λb H=>bnd (bs 172 2 [(0,j),(1,b)] H) λd H=>bnd (bs 286 2 [(0,a0),(1,d)] H) λe H=>bnd (C 178 [e] H) λg H=>
 some (g,H)
def anZ:Rn1 141 ahj:=λ_ _ _ _ h=>
 rnG an0 Tryz.func141 J J  h
def Wi(C:aF)(a0:AV)(H:ah):OA:=
 bnd (lnS a0 H) λu H=>bo (bi .sub 3 u (I 2)) λd=>
 bo (bi .lss 3 d (I 0)) λb=>gl b false (some a0) H λe H=>gl b false (some d) H λg H=>gl b false (slS 1 e none (some g) none) H λh H=>gdA (some b) false (C 141 [h] H) H λi H=>gl b false (some a0) H λj H=>gdA (some b) false (C 145 [i,j] H) H λk H=>gl b false (un .not k) H λm H=>bo (cO b (B true) m) λo=>
 aX o
 (some (.tup [(.s (Go.Value.slice none 0 0)),(B false)],H))
 (bo (slS 1 a0 none (some d) none) λp=>bnd (C 146 [p] H) λq H=>
  some (.tup [q,(B true)],H))
def aa1:Rn1 142 Wi:=λ_ _ _ _ h=>
 rnG an0 Tryz.func142 J J  h
def Oy(C:aF)(b d:AV)(H:ah):OA:=
 some ((.fn (.func 179) [] [b,d]),H)
def ahk(C:aF)(a0 e:AV)(H:ah):OA:=
 bnd (gV 172 a0 H) λd H=>bnd (gV 3 e H) λb H=>
 bnd (ld b H) λg H=>bo (bi .lss 3 g (I 1)) λh=>
 aX h
 (bnd (stk H) λi H=>bnd (stk H) λ_ H=>
  Oy C d b H)
 (Oy C d b H)
def an1:Rn2 143 ahk:=λ_ _ _ _ _ h=>
 rnG an0 Tryz.func143 J J  h
def ahl:Ann:=⟨[(4,[3,6,7,8])],[],[]⟩
def FI:=kT Tryz.prog Tryz.f144 20 ahl 0
def ahm(C:aF)(a0:AV)(H:ah):OA:=
 bnd (lnS a0 H) λb H=>
 FI C [(.s (Go.Value.int Go.IntKind.u64 0)),a0,b,(I 0)] H
def Wj(C:aF)(d e g b:AV)(H:ah):FI C [d,e,g,b] H=
 bo (bi .lss 3 b g) λq=>
 aX q
 (bnd (ix 1 e b H) λh H=>bnd (ld h H) λi H=>
  bo (bi .shl 268 d (.s (Go.Value.int Go.IntKind.u64 8))) λj=>bnd (cv 5 268 i H) λk H=>bo (bi .or 268 j k) λm=>
  bo (bi .add 3 b (I 1)) λo=>
  FI C [m,e,g,o] H)
 (bnd (cv 268 3 d H) λp H=>
  some (p,H)):=
 lpE.trans J
def an2:Rn1 144 ahm:=λ_ _ _ _ h=>
 rnG ahl Tryz.func144 J J  h
def ahn(C:aF)(a0 b:AV)(H:ah):OA:=
 bnd (cv 172 9 a0 H) λd H=>bnd (cv 172 9 b H) λe H=>bo (bi .eql 9 d e) λg=>
 some (g,H)
def an3:Rn2 145 ahn:=λ_ _ _ _ _ h=>
 rnG an0 Tryz.func145 J J  h
def aho(C:aF)(a0:AV)(H:ah):OA:=
 bo (bi .eql 172 a0 (.s (Go.Value.slice none 0 0))) λb=>
 aX b
 (some ((.s (Go.Value.slice none 0 0)),H))
 (bnd (bs 172 0 [] H) λd H=>bnd (app 5 1 1 d a0 H) λe H=>
  some (e,H))
def an4:Rn1 146 aho:=λ_ _ _ _ h=>
 rnG an0 Tryz.func146 J J  h
def aa2(C:aF)(a0 g:AV)(H:ah):OA:=
 bo (bi .geq 3 a0 (I 1)) λb=>gl b true (some a0) H λh H=>gl b true (some g) H λi H=>gl b true (bi .leq 3 h i) H λd H=>bo (cO b d (B false)) λe=>
 some (e,H)
def an5:Rn2 147 aa2:=λ_ _ _ _ _ h=>
 rnG an0 Tryz.func147 J J  h
def BF(C:aF)(a0 a1:AV)(H:ah):OA:=
 bnd (gV 26 a0 H) λv2 H=>bnd (gV 53 a1 H) λi H=>
 fld i 0 H λv6 H=>bo (bi .geq 3 v6 (I 1)) λj=>gl j true (au i 0) H λv9 H=>gdA (some j) true (ld v9 H) H λk H=>gl j true (bi .leq 3 k (I 4)) H λm H=>bo (cO j m (B false)) λe=>gl e true (au i 1) H λo H=>gdA (some e) true (ld o H) H λp H=>gl e true (bi .geq 3 p (I 0)) H λq H=>bo (cO e q (B false)) λb=>gl b true (au i 1) H λu H=>gdA (some b) true (ld u H) H λv H=>gl b true (au v2 1) H λw H=>gdA (some b) true (ld w H) H λy H=>gl b true (au v2 2) H λz H=>gdA (some b) true (ld z H) H λA H=>gl b true (bi .mul 3 y A) H λD H=>gl b true (bi .lss 3 v D) H λE H=>bo (cO b E (B false)) λd=>gl d true (au i 2) H λF H=>gdA (some d) true (ld F H) H λG H=>gl d true (bi .eql 3 G (I 0)) H λK H=>gl d true (some K) H λg H=>gl g false (au i 0) H λL H=>gdA (some g) false (ld L H) H λM H=>gl g false (bi .eql 3 M (I 2)) H λQ H=>gl d true (cO g (B true) Q) H λR H=>gl d true (some R) H λh H=>gl h false (au i 0) H λT H=>gdA (some h) false (ld T H) H λW H=>gl h false (bi .eql 3 W (I 3)) H λX H=>gl d true (cO h (B true) X) H λaa H=>bo (cO d aa (B false)) λab=>
 some (ab,H)
def an6:Rn2 148 BF:=λ_ _ _ _ _ h=>
 rnG an0 Tryz.func148 J J  h
def ahp(C:aF)(a0 d:AV)(H:ah):OA:=
 bnd (fU (kG Tryz.prog true #[3,3] 3 [a0,(I 1)]) H) λe H=>bnd (fU (kG Tryz.prog true #[3,3] 3 [d,(I 1)]) H) λg H=>bo (bd 271 [(0,e),(1,g)]) λh=>bnd (gV 271 h H) λb H=>
 some (b,H)
def an7:Rn2 149 ahp:=λ_ _ _ _ _ h=>
 rnG an0 Tryz.func149 J J  h
def ahq:Ann:=⟨[(4,[2,5,6])],[(5,rF 7 (some true::rF 6 []))],[]⟩
def FK:=kT Tryz.prog Tryz.f150 31 ahq 0
def ahr(C:aF)(a0 e:AV)(H:ah):OA:=
 bnd (gV 26 a0 H) λd H=>
 bnd (lda 8 d H) λg H=>bo (bd 278 [(0,g),(1,e)]) λh=>bnd (gV 278 h H) λb H=>
 FK C [d,b,(I 0)] H
def Wn(C:aF)(d b e:AV)(H:ah):FK C [d,b,e] H=
 fld d 1 H λg H=>bo (bi .lss 3 e g) λh=>
 aX h
 (bo (aA b) λi=>fld i 9 H λj H=>bnd (lda 8 d H) λk H=>bnd (unG H (C 54 [k,e] H.guard)) λm H=>bo (bd 279 [(0,(I 0)),(1,(I (-1))),(2,m)]) λo=>bnd (bs 272 1 [(0,o)] H) λp H=>bnd (app 279 3 40 j p H) λq H=>bo (aA b) λu=>bo (au u 9) λv=>bnd (st 1 v q H) λ_ H=>
  bo (bi .add 3 e (I 1)) λw=>
  FK C [d,b,w] H)
 (some (b,H)):=
 lpE.trans J
def an8:Rn2 150 ahr:=λ_ _ _ _ _ h=>
 rnG ahq Tryz.func150 J J  h
def ahs:Ann:=⟨[(3,[0,1,7,8])],[],[]⟩
def FM:=kT Tryz.prog Tryz.f151 19 ahs 0
def aht(C:aF)(a0 b:AV)(H:ah):OA:=
 bnd (lnS a0 H) λd H=>
 FM C [a0,b,d,(I 0)] H
def Wp(C:aF)(t0 d e b:AV)(H:ah):FM C [t0,d,e,b] H=
 bo (bi .lss 3 b e) λk=>
 aX k
 (bnd (ix 1 t0 b H) λg H=>bnd (ld g H) λh H=>bnd (tJ Tryz.prog C d [h] H) λi H=>
  aX i
  (some (b,H))
  (bo (bi .add 3 b (I 1)) λj=>
  FM C [t0,d,e,j] H))
 (some ((I (-1)),H)):=
 lpE.trans J
def an9:Rn2 151 aht:=λ_ _ _ _ _ h=>
 rnG ahs Tryz.func151 J J  h
def ahu:Ann:=⟨[(3,[0,1,7,8])],[],[]⟩
def FN:=kT Tryz.prog Tryz.f152 19 ahu 0
def ahv(C:aF)(a0 b:AV)(H:ah):OA:=
 bnd (lnS a0 H) λd H=>
 FN C [a0,b,d,(I 0)] H
def Wq(C:aF)(t0 d e b:AV)(H:ah):FN C [t0,d,e,b] H=
 bo (bi .lss 3 b e) λk=>
 aX k
 (bnd (ix 3 t0 b H) λg H=>bnd (lda 3 g H) λh H=>bnd (tJ Tryz.prog C d [h] H) λi H=>
  aX i
  (some (b,H))
  (bo (bi .add 3 b (I 1)) λj=>
  FN C [t0,d,e,j] H))
 (some ((I (-1)),H)):=
 lpE.trans J
def aoa:Rn2 152 ahv:=λ_ _ _ _ _ h=>
 rnG ahu Tryz.func152 J J  h
def aa3(C:aF)(a0 b:AV)(H:ah):OA:=
 bo (bi .lss 3 a0 (I 0)) λd=>
 aX d
 (some ((I (-1)),H))
 (bo (bi .rem 3 a0 b) λe=>
  some (e,H))
def aob:Rn2 153 aa3:=λ_ _ _ _ _ h=>
 rnG an0 Tryz.func153 J J  h
def FP(C:aF)(d e g:AV)(H:ah):OA:=
 bnd (lda 9 e H) λb H=>bnd (st 9 d b H) λ_ H=>
 bnd (lda 9 d H) λh _=>some (.tup [h,g],H)
def aa4(C:aF)(a0:AV)(H:ah):OA:=
 bnd (alc 112 [zI,zI,zI,zI,zI,zI,zI,zB,zN] H) λk H=>
 bnd (C 180 [a0] H) λm H=>bo (aJ m 0) λo=>bo (aJ m 1) λb=>bnd (alc 112 [zI,zI,zI,zI,zI,zI,zI,zB,zN] H) λd H=>bnd (st 9 d o H) λ_ H=>
 aX b
 (bo (aA a0) λe=>fld e 0 H λg H=>bnd (C 98 [g,(I 0),(I 1)] H) λh H=>bo (aA a0) λi=>bo (au i 0) λj=>bnd (st 1 j h H) λ_ H=>
  FP C k d b H)
 (FP C k d b H)
def aoc:Rn1 154 aa4:=λ_ _ _ _ h=>
 rnG an0 Tryz.func154 J J  h
def KZ(C:aF)(a0 G:AV)(H:ah):OA:=
 bnd (gV 44 a0 H) λg H=>bnd (gV 112 G H) λh H=>
 fld g 3 H λK H=>bnd (C 162 [K] H) λL H=>bnd (C 171 [L] H) λF H=>
 bo (bi .neq 3 F (I 0)) λe=>gl e true (au h 0) H λi H=>gdA (some e) true (ld i H) H λj H=>gl e true (some F) H λk H=>gl e true (bi .eql 3 j k) H λm H=>bo (cO e m (B false)) λb=>gl b true (au h 3) H λo H=>gdA (some b) true (ld o H) H λp H=>gl b true (au g 2) H λq H=>gdA (some b) true (ld q H) H λu H=>gl b true (bi .eql 3 p u) H λv H=>bo (cO b v (B false)) λd=>gl d true (au h 4) H λw H=>gdA (some d) true (ld w H) H λy H=>gl d true (au g 1) H λz H=>gdA (some d) true (ld z H) H λA H=>gl d true (bi .eql 3 y A) H λD H=>bo (cO d D (B false)) λE=>
 some (E,H)
def aod:Rn2 155 KZ:=λ_ _ _ _ _ h=>
 rnG an0 Tryz.func155 J J  h
def aoe:Ann:=⟨[],[(1,rF 8 (some true::rF 8 []))],[(1,[(3,10),(5,10),(5,12)])]⟩
def aa5(C:aF)(a0 a1 a2 a3:AV)(H:ah):OA:=
 bnd (gV 44 a0 H) λd H=>bnd (gV 112 a3 H) λh H=>bnd (alc 44 [zI,zI,zI,zI,zI,zI,zN,zI,zI] H) λk H=>
 fld h 6 H λm H1=>bo (au h 5) λi=>bnd (ld i H1) λo H3=>bo (au h 5) λg=>bnd (ld g H3) λp H5=>fld h 8 H5 λq H7=>bnd (unG H7 (C 55 [q] H7.guard)) λu v=>bo (au d 4) λw=>bnd (st 1 w m v) λ_ e=>bo (au d 5) λy=>bnd (st 1 y o e) λ_ j=>bo (au d 8) λz=>bnd (st 1 z p j) λ_ A=>bo (au d 6) λD=>bnd (st 1 D u A) λ_ b=>ck (bT i) v e <| ck (bT g) v e <| ck (bT g) e j <|
 fld d 4 b λE b=>bo (bi .neq 3 E (I 0)) λF=>
 aX F
 (bo (au d 3) λG=>bnd (st 1 G (I 2) b) λ_ b=>
  bnd (lda 9 d b) λK b=>bnd (st 9 k K b) λ_ b=>
  bnd (lda 9 k b) λL _=>some (.tup [L,(B true)],b))
 (fld d 1 b λM b=>fld h 8 b λQ b=>bnd (C 181 [M,(I (-1)),(I (-1)),(B false),Q] b) λR b=>bnd (C 121 [a2,R] b) λad b=>
  bo (au d 3) λT=>bnd (st 1 T (I 6) b) λ_ b=>bo (au d 4) λW=>bnd (st 1 W (I 1) b) λ_ b=>bo (au d 5) λX=>bnd (st 1 X a1 b) λ_ b=>bo (au d 6) λaa=>bnd (st 1 aa (.s (Go.Value.slice none 0 0)) b) λ_ b=>
  bnd (lda 9 d b) λab b=>bnd (st 9 k ab b) λ_ b=>
  bnd (lda 9 k b) λL _=>some (.tup [L,(B true)],b))
def aof:Rn4 156 aa5:=λ_ _ _ _ _ _ _ h=>
 rnG aoe Tryz.func156 J J  h
def FQ(C:aF)(e d:AV)(H:ah):OA:=
 bnd (lda 9 e H) λb H=>bnd (st 9 d b H) λ_ H=>
 bnd (lda 9 d H) λg _=>some (.tup [g,(B true)],H)
def aa6(C:aF)(a0 y z A:AV)(H:ah):OA:=
 bnd (gV 44 a0 H) λb H=>bnd (gV 112 A H) λd H=>bnd (alc 44 [zI,zI,zI,zI,zI,zI,zN,zI,zI] H) λw H=>
 fld b 1 H λe H=>fld b 5 H λg H=>fld d 8 H λh H=>bnd (C 181 [e,g,(I (-1)),(B false),h] H) λi H=>bnd (C 121 [z,i] H) λD H=>
 bo (au b 3) λj=>bnd (st 1 j (I 6) H) λ_ H=>bo (au b 4) λk=>bnd (st 1 k (I 1) H) λ_ H=>bo (au b 5) λm=>bnd (st 1 m y H) λ_ H=>bo (au b 6) λo=>bnd (st 1 o (.s (Go.Value.slice none 0 0)) H) λ_ H=>
 fld d 7 H λp H=>
 aX p
 (fld d 8 H λq H=>bnd (C 55 [q] H) λu H=>bo (au b 6) λv=>bnd (st 1 v u H) λ_ H=>
  FQ C b w H)
 (FQ C b w H)
def aog:Rn4 157 aa6:=λ_ _ _ _ _ _ _ h=>
 rnG an0 Tryz.func157 J J  h
def BG(C:aF)(y z b d:AV)(H:ah):OA:=
 fld b 7 H λe H=>bo (bi .neq 3 e (I (-1))) λg=>
 aX g
 (bo (au b 3) λh=>bnd (st 1 h (I 3) H) λ_ H=>
  bnd (lda 9 b H) λi H=>bnd (st 9 d i H) λ_ H=>
  bnd (lda 9 d H) λj _=>some (j,H))
 (fld b 1 H λk H=>fld b 6 H λm H=>bnd (C 181 [k,(I (-1)),(I (-1)),(B true),m] H) λo H=>bnd (C 121 [z,o] H) λA H=>
  bo (au b 3) λp=>bnd (st 1 p (I 6) H) λ_ H=>bo (au b 4) λq=>bnd (st 1 q (I 2) H) λ_ H=>bo (au b 5) λu=>bnd (st 1 u y H) λ_ H=>bo (au b 6) λv=>bnd (st 1 v (.s (Go.Value.slice none 0 0)) H) λ_ H=>
  bnd (lda 9 b H) λw H=>bnd (st 9 d w H) λ_ H=>
  bnd (lda 9 d H) λj _=>some (j,H))
def QX(C:aF)(a0 g h:AV)(H:ah):OA:=
 bnd (gV 44 a0 H) λb H=>bnd (alc 44 [zI,zI,zI,zI,zI,zI,zN,zI,zI] H) λw H=>
 fld b 1 H λi H=>bnd (C 87 [h,i] H) λd H=>bo (aJ d 0) λj=>bo (aJ d 1) λk=>bnd (alc 166 [zI,zI,zI,zI,zB,zN] H) λy H=>bnd (st 6 y j H) λ_ H=>
 fld b 7 H λm H=>bo (bi .eql 3 m g) λe=>gl e true (some k) H λo H=>bo (cO e o (B false)) λp=>
 aX p
 (bo (au y 0) λq=>fld q 0 H λu H=>bo (au b 7) λv=>bnd (st 1 v u H) λ_ H=>
  BG C g h b w H)
 (BG C g h b w H)
def aoh:Rn3 158 QX:=λ_ _ _ _ _ _ h=>
 rnG an0 Tryz.func158 J J  h
def aoi:Ann:=⟨[],[(1,rF 14 []),(4,rF 12 []),(13,rF 9 [])],[(1,[(3,7),(5,7),(5,9)]),(4,[(5,7)]),(13,[(2,4)])]⟩
def sV(C:aF)(e d:AV)(H:ah):OA:=
 bnd (lda 9 e H) λb H=>bnd (st 9 d b H) λ_ H=>
 bnd (lda 9 d H) λg _=>some (g,H)
def La(C:aF)(a0 a1 a2:AV)(H:ah):OA:=
 bnd (gV 44 a0 H) λd H=>bnd (gV 112 a2 H) λw H=>bnd (alc 44 [zI,zI,zI,zI,zI,zI,zN,zI,zI] H) λh H=>
 fld w 6 H λy H1=>bo (au w 5) λi=>bnd (ld i H1) λz H3=>bo (au w 5) λg=>bnd (ld g H3) λA D=>bo (au d 4) λE=>bnd (st 1 E y D) λ_ v=>bo (au d 5) λF=>bnd (st 1 F z v) λ_ H9=>bo (au d 8) λG=>bnd (st 1 G A H9) λ_ K=>bo (au d 6) λL=>bnd (st 1 L (.s (Go.Value.slice none 0 0)) K) λ_ b=>ck (bT i) D v <| ck (bT g) D v <| ck (bT g) v H9 <|
 bo (au d 3) λM=>bnd (st 1 M (I 6) b) λ_ b=>
 fld d 1 b λQ b=>bnd (C 87 [a1,Q] b) λj b=>bo (aJ j 0) λR=>bo (aJ j 1) λT=>bnd (alc 166 [zI,zI,zI,zI,zB,zN] b) λe b=>bnd (st 6 e R b) λ_ b=>
 bo (un .not T) λW=>
 aX W
 (bnd (lda 9 d b) λX b=>bnd (st 9 h X b) λ_ b=>
  bnd (lda 9 h b) λr0 _=>some (r0,b))
 (bo (au e 0) λaa=>bnd (lda 2 aa b) λab b=>bnd (C 182 [ab] b) λad b=>
  aX ad
  (fld d 1 b λae b=>bnd (C 174 [a1,ae] b) λba b=>
  bo (au d 4) λaf=>bnd (st 1 af (I 0) b) λ_ b=>bo (au d 5) λag=>bnd (st 1 ag (I (-1)) b) λ_ b=>
  fld e 4 b λai b=>
  aX ai
  (fld e 5 b λal b=>bo (au d 6) λam=>bnd (st 1 am al b) λ_ b=>
   sV C d h b)
  (sV C d h b))
  (bo (au e 0) λao=>bnd (lda 2 ao b) λap b=>bnd (C 183 [ap] b) λaq b=>
  aX aq
  (bo (au e 0) λar=>bo (au ar 0) λk=>bnd (ld k b) λaw m=>bo (au d 5) λax=>bnd (st 1 ax (I (-1)) m) λ_ o=>bo (au d 7) λay=>bnd (st 1 ay aw o) λ_ az=>bo (au d 3) λaD=>bnd (st 1 aD (I 5) az) λ_ aE=>ck (bT k) m o <|
   sV C d h aE)
  (bo (au e 0) λaL=>fld aL 1 b λaM aR=>bo (au e 0) λa3=>bo (au a3 0) λp=>bnd (ld p aR) λa4 q=>bo (au d 5) λa5=>bnd (st 1 a5 aM q) λ_ u=>bo (au d 7) λa6=>bnd (st 1 a6 a4 u) λ_ a7=>bo (au d 3) λa8=>bnd (st 1 a8 (I 4) a7) λ_ a9=>ck (bT p) q u <|
   sV C d h a9)))
def aoj:Rn3 159 La:=λ_ _ _ _ _ _ h=>
 rnG aoi Tryz.func159 J J  h
def ahw(C:aF)(a0 k m:AV)(H:ah):OA:=
 bnd (gV 44 a0 H) λb H=>bnd (alc 44 [zI,zI,zI,zI,zI,zI,zN,zI,zI] H) λj H=>
 fld b 1 H λo H=>bnd (C 174 [k,o] H) λp H=>
 bo (au b 3) λd=>bnd (st 1 d (I 6) H) λ_ H=>bo (au b 4) λe=>bnd (st 1 e (I 1) H) λ_ H=>bo (au b 5) λg=>bnd (st 1 g m H) λ_ H=>bo (au b 6) λh=>bnd (st 1 h (.s (Go.Value.slice none 0 0)) H) λ_ H=>
 bnd (lda 9 b H) λi H=>bnd (st 9 j i H) λ_ H=>
 bnd (lda 9 j H) λq _=>some (q,H)
def aok:Rn3 160 ahw:=λ_ _ _ _ _ _ h=>
 rnG an0 Tryz.func160 J J  h
def QY(C:aF)(a0 i:AV)(H:ah):OA:=
 bnd (gV 166 a0 H) λj H=>
 bo (bi .geq 3 i (I 0)) λb=>gl b true (some i) H λk H=>gl b true (au j 5) H λm H=>gdA (some b) true (ld m H) H λd H=>gdA (some b) true (lnS d H) H λe H=>gl b true (bi .lss 3 k e) H λg H=>bo (cO b g (B false)) λh=>
 some (h,H)
def ahx:Rn2 161 QY:=λ_ _ _ _ _ h=>
 rnG an0 Tryz.func161 J J  h
def Ey(C:aF)(a0:AV)(H:ah):OA:=
 bo (bi .eql 3 a0 (I 1)) λg=>
 aX g
 (some ((I 1),H))
 (bo (bi .eql 3 a0 (I 2)) λh=>
  aX h
  (some ((I 3),H))
  (bo (bi .eql 3 a0 (I 3)) λi=>
  aX i
  (some ((I 6),H))
  (bo (bi .eql 3 a0 (I 4)) λb=>
   aX b
   (some ((I 4),H))
   (bo (bi .eql 3 a0 (I 5)) λd=>
   aX d
   (some ((I 5),H))
   (bo (bi .eql 3 a0 (I 6)) λe=>
    aX e
    (some ((I 2),H))
    (some ((I 0),H)))))))
def aol:Rn1 162 Ey:=λ_ _ _ _ h=>
 rnG an0 Tryz.func162 J J  h
def ahy(C:aF)(a0:AV)(H:ah):OA:=
 bnd (gV 201 a0 H) λb H=>
 some ((.fn (.func 186) [] [b]),H)
def aom:Rn1 164 ahy:=λ_ _ _ _ h=>
 rnG an0 Tryz.func164 J J  h
def aa7(C:aF)(a0 g:AV)(H:ah):OA:=
 bo (aA a0) λh=>fld h 0 H λd H=>bnd (lk .i64 (.int .i64 0) d g true H) λb H=>bo (aJ b 0) λi=>bo (aJ b 1) λe=>
 some (e,H)
def aon:Rn2 165 aa7:=λ_ _ _ _ _ h=>
 rnG an0 Tryz.func165 J J  h
def ahz(C:aF)(a0 e:AV)(H:ah):OA:=
 bo (aA a0) λg=>fld g 1 H λh H=>bnd (lk .i64 (.slice none 0 0) h e false H) λb H=>bnd (lnS b H) λd H=>
 some (d,H)
def aoo:Rn2 166 ahz:=λ_ _ _ _ _ h=>
 rnG an0 Tryz.func166 J J  h
def aa8(C:aF)(a0 q:AV)(H:ah):OA:=
 bnd (alc 199 [zI,zI,zN] H) λp H=>
 bo (aA a0) λe=>fld e 8 H λg H=>bnd (lk .i64 (.agg #[.int .i64 0,.int .i64 0,.slice none 0 0]) g q true H) λb H=>bo (aJ b 0) λh=>bo (aJ b 1) λi=>bnd (alc 199 [zI,zI,zN] H) λd H=>bnd (st 3 d h H) λ_ H=>
 fld d 2 H λj H=>bnd (C 55 [j] H) λk H=>bo (au d 2) λm=>bnd (st 1 m k H) λ_ H=>
 bnd (lda 3 d H) λo H=>bnd (st 3 p o H) λ_ H=>
 bnd (lda 3 p H) λu _=>some (.tup [u,i],H)
def aop:Rn2 167 aa8:=λ_ _ _ _ _ h=>
 rnG an0 Tryz.func167 J J  h
def QZ(C:aF)(a0 i j:AV)(H:ah):OA:=
 bo (bi .geq 3 a0 i) λb=>gl b true (some a0) H λd H=>gl b true (some j) H λe H=>gl b true (bi .lss 3 d e) H λg H=>bo (cO b g (B false)) λh=>
 some (h,H)
def ahA:Rn3 168 QZ:=λ_ _ _ _ _ _ h=>
 rnG an0 Tryz.func168 J J  h
def aoq:Ann:=⟨[],[(4,rF 17 [])],[(4,[(3,15)])]⟩
def Q5(C:aF)(a0 d i M:AV)(H:ah):OA:=
 bo (bi .lss 3 i (I 0)) λj=>
 aX j
 (some ((B false),H))
 (bnd (C 165 [a0,d] H) λb H=>gl b false (some a0) H λk H=>gl b false (some d) H λm H=>gdA (some b) false (C 166 [k,m] H) H λo H=>gl b false (bi .gtr 3 o (I 0)) H λp H=>bo (cO b (B true) p) λq=>
  aX q
  (bo (aA a0) λu=>bo (au u 1) λe=>bnd (ld e H) λv Q=>bo (aA a0) λw=>fld w 1 Q λy R=>bnd (lk .i64 (.slice none 0 0) y d false R) λz A=>bo (bd 258 [(0,i),(1,M)]) λD=>bnd (bs 256 1 [(0,D)] A) λE g=>bnd (app 258 2 16 z E g) λF h=>bnd (mup .i64 v d F h) λ_ G=>ck (bT e) g h <|
  some ((B false),G))
  (bo (aA a0) λK=>fld K 0 H λL H=>bnd (mup .i64 L d i H) λ_ H=>
  some ((B true),H)))
def aor:Rn4 169 Q5:=λ_ _ _ _ _ _ _ h=>
 rnG aoq Tryz.func169 J J  h
def aos:Ann:=⟨[],[(1,rF 6 (some true::rF 3 [])),(6,rF 13 []),(9,rF 10 [])],[]⟩
def yG(C:aF)(t0 b v:AV)(H:ah):OA:=
 bo (aA t0) λe=>fld e 0 H λg H=>fld b 4 H λh H=>fld b 6 H λi H=>fld b 5 H λj H=>bnd (C 188 [g,h,i,j,v] H) λd H=>
 bo (bi .neq 48 d (I 0)) λk=>
 aX k
 (some (d,H))
 (bo (aA t0) λm=>fld m 1 H λo H=>fld b 4 H λp H=>fld b 1 H λq H=>bnd (C 189 [o,p,q] H) λu H=>
  some (u,H))
def Lc(C:aF)(a0 m:AV)(H:ah):OA:=
 bnd (gV 112 m H) λb H=>
 bo (aA a0) λo=>fld o 1 H λd H=>fld b 4 H λe H=>bnd (unG H (C 187 [d,e] H.guard)) λg H=>fld b 1 H λh H=>bo (bi .neq 3 g h) λi=>
 aX i
 (some ((I 6),H))
 (fld b 7 H λj H=>
  aX j
  (fld b 8 H λk H=>
  yG C a0 b k H)
  (yG C a0 b (.s (Go.Value.slice none 0 0)) H))
def aot:Rn2 170 Lc:=λ_ _ _ _ _ h=>
 rnG aos Tryz.func170 J J  h
def BH(C:aF)(b:AV)(H:ah):OA:=
 aX b
 (some ((I 9),H))
 (some ((I 0),H))
def qM(C:aF)(e g:AV)(H:ah):OA:=
 aX g
 (some ((I 8),H))
 (bo (bi .eql 3 e (I 3)) λb=>
  aX b
  (BH C b H)
  (bo (bi .eql 3 e (I 6)) λd=>
  BH C d H))
def Ez(C:aF)(a0:AV)(H:ah):OA:=
 bo (bi .eql 3 a0 (I 1)) λe=>
 aX e
 (some ((I 7),H))
 (bo (bi .eql 3 a0 (I 2)) λb=>
  aX b
  (qM C a0 b H)
  (bo (bi .eql 3 a0 (I 4)) λd=>
  aX d
  (qM C a0 d H)
  (bo (bi .eql 3 a0 (I 5)) λg=>
   qM C a0 g H)))
def aou:Rn1 171 Ez:=λ_ _ _ _ h=>
 rnG an0 Tryz.func171 J J  h
def ahB(C:aF)(a0 b:AV)(H:ah):OA:=
 bo (aA a0) λd=>bo (au d 1) λe=>bnd (st 1 e b H) λ_ H=>
 some (.tup [],H)
def aov:Rn2 172 ahB:=λ_ _ _ _ _ h=>
 rnG an0 Tryz.func172 J J  h
def ahC(C:aF)(a0 b:AV)(H:ah):OA:=
 bo (aA a0) λd=>bo (au d 0) λe=>bnd (st 1 e b H) λ_ H=>
 some (.tup [],H)
def aow:Rn2 173 ahC:=λ_ _ _ _ _ h=>
 rnG an0 Tryz.func173 J J  h
def FT(C:aF)(d e g:AV)(H:ah):OA:=
 bnd (lda 6 e H) λb H=>bnd (st 6 d b H) λ_ H=>
 bnd (lda 6 d H) λh _=>some (.tup [h,g],H)
def aa9(C:aF)(a0 q:AV)(H:ah):OA:=
 bnd (alc 166 [zI,zI,zI,zI,zB,zN] H) λu H=>
 bnd (C 87 [a0,q] H) λd H=>bo (aJ d 0) λg=>bo (aJ d 1) λb=>bnd (alc 166 [zI,zI,zI,zI,zB,zN] H) λh H=>bnd (st 6 h g H) λ_ H=>
 aX b
 (bnd (C 132 [a0,q] H) λe H=>
  bo (aA a0) λi=>fld i 0 H λj H=>bo (bi .add 3 e (I 1)) λk=>bnd (C 190 [j,e,k] H) λm H=>bo (aA a0) λo=>bo (au o 0) λp=>bnd (st 1 p m H) λ_ H=>
  FT C u h b H)
 (FT C u h b H)
def aox:Rn2 174 aa9:=λ_ _ _ _ _ h=>
 rnG an0 Tryz.func174 J J  h
def ahD:Ann:=⟨[(3,[0,1,7,8])],[],[]⟩
def FU:=kT Tryz.prog Tryz.f175 19 ahD 0
def ahE(C:aF)(a0 b:AV)(H:ah):OA:=
 bnd (lnS a0 H) λd H=>
 FU C [a0,b,d,(I 0)] H
def Ws(C:aF)(t0 d e b:AV)(H:ah):FU C [t0,d,e,b] H=
 bo (bi .lss 3 b e) λk=>
 aX k
 (bnd (ix 6 t0 b H) λg H=>bnd (lda 6 g H) λh H=>bnd (tJ Tryz.prog C d [h] H) λi H=>
  aX i
  (some (b,H))
  (bo (bi .add 3 b (I 1)) λj=>
  FU C [t0,d,e,j] H))
 (some ((I (-1)),H)):=
 lpE.trans J
def aoy:Rn2 175 ahE:=λ_ _ _ _ _ h=>
 rnG ahD Tryz.func175 J J  h
def ahF(C:aF)(a0 b:AV)(H:ah):OA:=
 bnd (gV 166 a0 H) λd H=>
 fld d 2 H λe H=>bnd (ld b H) λg H=>bo (bi .eql 3 e g) λh=>
 some (h,H)
def aoz:Rn2 176 ahF:=λ_ _ _ _ _ h=>
 rnG an0 Tryz.func176 J J  h
def abb:Ann:=⟨[(4,[3,7,8,9]),(8,[3,7,8,9,18])],[],[]⟩
def BI:=kT Tryz.prog Tryz.f177 30 abb 0
def FV:=kT Tryz.prog Tryz.f177 30 abb 1
def ahG(C:aF)(a0:AV)(H:ah):OA:=
 bnd (lnS a0 H) λb H=>
 BI C [(.s (Go.Value.int Go.IntKind.u16 65535)),a0,b,(I 0)] H
def Wu(C:aF)(d e g b:AV)(H:ah):BI C [d,e,g,b] H=
 bo (bi .lss 3 b g) λh=>
 aX h
 (bnd (ix 1 e b H) λi H=>bnd (ld i H) λj H=>
  bnd (cv 5 50 j H) λk H=>bo (bi .shl 50 k (.s (Go.Value.int Go.IntKind.u64 8))) λm=>bo (bi .xor 50 d m) λo=>
  FV C [o,e,g,b,(I 0)] H)
 (some (d,H)):=
 lpE.trans J
def Wv(C:aF)(d e g h b:AV)(H:ah):FV C [d,e,g,h,b] H=
 bo (bi .lss 3 b (I 8)) λi=>
 aX i
 (bo (bi .shr 50 d (.s (Go.Value.int Go.IntKind.u64 15))) λj=>
  bo (bi .shl 50 d (.s (Go.Value.int Go.IntKind.u64 1))) λk=>bo (bi .mul 50 j (.s (Go.Value.int Go.IntKind.u16 4129))) λm=>bo (bi .xor 50 k m) λo=>
  bo (bi .add 3 b (I 1)) λp=>
  FV C [o,e,g,h,p] H)
 (bo (bi .add 3 h (I 1)) λq=>
  BI C [d,e,g,q] H):=
 lpE.trans J
def aoA:Rn1 177 ahG:=λ_ _ _ _ h=>
 rnG abb Tryz.func177 J J  h
def abd:Ann:=⟨[(4,[0,3,9,10,11]),(12,[6,25,26,27])],[],[]⟩
def Oz:=kT Tryz.prog Tryz.f178 36 abd 0
def OB:=kT Tryz.prog Tryz.f178 36 abd 1
def FW(C:aF)(t0 g h b d:AV)(H:ah):OA:=
 bo (bi .add 3 d (I 1)) λe=>
 Oz C [t0,g,h,b,e] H
def ahH(C:aF)(a0:AV)(H:ah):OA:=
 bnd (lnS a0 H) λb H=>
 Oz C [a0,(I 0),a0,b,(I 0)] H
def OC(C:aF)(t0 h g d b:AV)(H:ah):Oz C [t0,h,g,d,b] H=
 bo (bi .lss 3 b d) λi=>
 aX i
 (bnd (ix 1 g b H) λj H=>bnd (ld j H) λk H=>
  bnd (lnS k H) λm H=>bo (bi .add 3 h m) λe=>
  bo (bi .lss 3 e (I 0)) λo=>
  aX o
  (bnd (stk H) λu H=>bnd (stk H) λ_ H=>
  FW C t0 e g d b H)
  (FW C t0 e g d b H))
 (bnd (C 191 [(.s (Go.Value.slice none 0 0)),h] H) λp H=>
  bnd (lnS t0 H) λq H=>
  OB C [p,t0,q,(I 0)] H):=
 lpE.trans J
def OD(C:aF)(g d e b:AV)(H:ah):OB C [g,d,e,b] H=
 bo (bi .lss 3 b e) λh=>
 aX h
 (bnd (ix 1 d b H) λi H=>bnd (ld i H) λj H=>
  bnd (app 5 1 1 g j H) λk H=>
  bo (bi .add 3 b (I 1)) λm=>
  OB C [k,d,e,m] H)
 (some (g,H)):=
 lpE.trans J
def aoB:Rn1 178 ahH:=λ_ _ _ _ h=>
 rnG abd Tryz.func178 J J  h
def abe(C:aF)(a0:AV)(H:ah):OA:=
 bnd (alc 112 [zI,zI,zI,zI,zI,zI,zI,zB,zN] H) λb H=>
 bo (aA a0) λm=>fld m 0 H λo H=>bnd (lnS o H) λp H=>bo (bi .eql 3 p (I 0)) λq=>
 aX q
 (bo (bd 112 []) λd=>bnd (st 9 b d H) λ_ H=>
  bnd (lda 9 b H) λe _=>some (.tup [e,(B false)],H))
 (bo (aA a0) λg=>fld g 0 H λh H=>bnd (ix 9 h (I 0) H) λi H=>bnd (lda 9 i H) λj H=>bnd (C 97 [j] H) λk H=>bnd (st 9 b k H) λ_ H=>
  bnd (lda 9 b H) λe _=>some (.tup [e,(B true)],H))
def aoC:Rn1 180 abe:=λ_ _ _ _ h=>
 rnG an0 Tryz.func180 J J  h
def ahI(C:aF)(a0 h i j k:AV)(H:ah):OA:=
 bnd (alc 166 [zI,zI,zI,zI,zB,zN] H) λb H=>
 bo (bd 164 [(0,h),(1,i)]) λd=>bnd (C 55 [k] H) λe H=>bo (bd 166 [(0,d),(1,a0),(3,j),(4,e)]) λg=>bnd (st 6 b g H) λ_ H=>
 bnd (lda 6 b H) λm _=>some (m,H)
def aoD:Rn5 181 ahI:=λ_ _ _ _ _ _ _ _ h=>
 rnG an0 Tryz.func181 J J  h
def abf(C:aF)(a0:AV)(H:ah):OA:=
 bnd (gV 164 a0 H) λd H=>
 bnd (lda 2 d H) λe H=>bnd (C 183 [e] H) λb H=>gdA (some b) true (lda 2 d H) H λg H=>gdA (some b) true (C 192 [g] H) H λh H=>bo (cO b h (B false)) λi=>
 some (i,H)
def ahJ:Rn1 182 abf:=λ_ _ _ _ h=>
 rnG an0 Tryz.func182 J J  h
def ahK(C:aF)(a0:AV)(H:ah):OA:=
 bnd (gV 164 a0 H) λb H=>
 fld b 1 H λd H=>bo (bi .eql 3 d (I (-1))) λe=>
 some (e,H)
def aoE:Rn1 183 ahK:=λ_ _ _ _ h=>
 rnG an0 Tryz.func183 J J  h
def abg(C:aF)(a0 h:AV)(H:ah):OA:=
 bo (aA a0) λi=>fld i 0 H λd H=>bnd (lk .i64 (.int .i64 0) d h true H) λb H=>bo (aJ b 0) λe=>bo (aJ b 1) λg=>
 aX g
 (some (e,H))
 (some ((I (-1)),H))
def aoF:Rn2 187 abg:=λ_ _ _ _ _ h=>
 rnG an0 Tryz.func187 J J  h
def aoG:Ann:=⟨[],[(11,rF 7 [])],[]⟩
def FX(C:aF)(t0 h b:AV)(H:ah):OA:=
 bo (aA t0) λd=>fld d 8 H λe H=>bnd (lda 3 b H) λg H=>bnd (mup .i64 e h g H) λ_ H=>
 some ((I 0),H)
def zx(C:aF)(a0 p k m o:AV)(H:ah):OA:=
 bo (aA a0) λq=>fld q 8 H λu H=>bnd (lk .i64 (.agg #[.int .i64 0,.int .i64 0,.slice none 0 0]) u p true H) λj H=>bo (aJ j 0) λv=>bo (aJ j 1) λw=>bnd (alc 199 [zI,zI,zN] H) λe H=>bnd (st 3 e v H) λ_ H=>
 bo (un .not w) λy=>
 aX y
 (some ((I 3),H))
 (bo (bi .lss 3 k (I 0)) λh=>gl h false (some k) H λz H=>gl h false (bi .gtr 3 z (I 2)) H λA H=>bo (cO h (B true) A) λi=>gl i false (some m) H λD H=>gl i false (bi .lss 3 D (I (-1))) H λE H=>bo (cO i (B true) E) λd=>gl d false (some m) H λF H=>gl d false (some a0) H λG H=>gl d false (aA G) H λK H=>gl d false (au K 0) H λL H=>gl d false (au L 0) H λM H=>gdA (some d) false (ld M H) H λQ H=>gl d false (bi .geq 3 F Q) H λR H=>bo (cO d (B true) R) λT=>
  aX T
  (some ((I 1),H))
  (bo (bi .eql 3 m (I (-1))) λW=>bo (bi .eql 3 k (I 0)) λX=>bo (bi .neq 4 W X) λg=>gl g false (some o) H λaa H=>gdA (some g) false (lnS aa H) H λab H=>gl g false (bi .neq 3 ab (I 0)) H λad H=>gl g false (some ad) H λb H=>gl b true (some o) H λae H=>gdA (some b) true (lnS ae H) H λaf H=>gl b true (some a0) H λag H=>gl b true (aA ag) H λai H=>gl b true (au ai 0) H λal H=>gl b true (au al 2) H λam H=>gdA (some b) true (ld am H) H λao H=>gl b true (bi .neq 3 af ao) H λap H=>gl g false (cO b ap (B false)) H λaq H=>bo (cO g (B true) aq) λar=>
  aX ar
  (some ((I 1),H))
  (bo (au e 0) λaw=>bnd (st 1 aw k H) λ_ H=>bo (au e 1) λax=>bnd (st 1 ax m H) λ_ H=>
   bnd (lnS o H) λay H=>bo (bi .gtr 3 ay (I 0)) λaz=>
   aX az
   (bnd (C 55 [o] H) λaD H=>bo (au e 2) λaE=>bnd (st 1 aE aD H) λ_ H=>
   FX C a0 p e H)
   (FX C a0 p e H))))
def aoH:Rn5 188 zx:=λ_ _ _ _ _ _ _ _ h=>
 rnG aoG Tryz.func188 J J  h
def Wx(C:aF)(a0 d v:AV)(H:ah):OA:=
 bnd (C 165 [a0,d] H) λw H=>bo (un .not w) λb=>gl b false (some a0) H λe H=>gl b false (aA e) H λg H=>gl b false (au g 0) H λh H=>gdA (some b) false (ld h H) H λi H=>gl b false (some d) H λj H=>gdA (some b) false (lk .i64 (.int .i64 0) i j false H) H λk H=>gl b false (some v) H λm H=>gl b false (bi .neq 3 k m) H λo H=>bo (cO b (B true) o) λp=>
 aX p
 (some ((I 6),H))
 (bo (aA a0) λq=>fld q 0 H λu H=>bnd (del .i64 u d H) λ_ H=>
  some ((I 0),H))
def aoI:Rn3 189 Wx:=λ_ _ _ _ _ _ h=>
 rnG an0 Tryz.func189 J J  h
def aoJ:Ann:=⟨[],[(5,rF 8 [])],[]⟩
def ahL(C:aF)(a0 d e:AV)(H:ah):OA:=
 bnd (lnS a0 H) λg H=>bo (slS 6 a0 (some d) (some e) (some g)) λp=>
 bo (bi .eql 3 d e) λh=>
 aX h
 (some (a0,H))
 (bnd (lnS a0 H) λi H=>
  bo (slS 6 a0 none (some d) none) λj=>bo (slS 6 a0 (some e) none none) λk=>bnd (app 166 6 64 j k H) λb H=>
  bnd (lnS b H) λm H=>bo (slS 6 b (some m) (some i) none) λo=>bnd (clr 6 [zI,zI,zI,zI,zB,zN] o H) λ_ H=>
  some (b,H))
def aoK:Rn3 190 ahL:=λ_ _ _ _ _ _ h=>
 rnG aoJ Tryz.func190 J J  h
def ahM(C:aF)(a0:AV)(H:ah):OA:=
 bnd (gV 164 a0 H) λb H=>
 fld b 0 H λd H=>bo (bi .eql 3 d (I (-1))) λe=>
 some (e,H)
def aoL:Rn1 192 ahM:=λ_ _ _ _ h=>
 rnG an0 Tryz.func192 J J  h
def oz(l:List Pkt)(room:Int):List Cell:=[.seq 9 (l.flatMap Pkt.av),.av (I room)]
def yH(l:List Int):(l.map I).all AV.aP=true:=by
 rw [zaZ];intro x b;obtain⟨z,_,rfl⟩:=zaI.1 b;rfl
def yI(l:List Int){d:Nat}:∀x∈l.map I,Frz (d+1) x:=λx b=>by
 obtain⟨z,_,rfl⟩:=zaI.1 b;exact iD
def xQ {l:List Int}(h:l≠[]):dat l=.vs l.length 1 (l.map I):=by
 rw [dat,Fg h,QD]
def kC(H:ah)(l:List Int)(hl:l.length<1000000000):cl 55 [dat l] H=some (dat l,H):=by
 by_cases h:l=[]
 ·subst h;refine jD rfl rfl (aef _ _ _ (r:=(zN,H.guard)) ?_) jo;have e:bi .eql 22 zN zN=some (B true):=by kernel_rfl
  simp only [xq_,aaG,dat,gI,e]
 ·have h0:l.length≠0:=λe=>h (zat e);have e2:=xG (e:=3) (by_:=8) (r:=H.guard.next) (H:=H.guard.new (.blk 0 3 [])) rE (kY _ l) (yH l) h0 (by unfold most;omega) (by unfold most;omega);simp only [Ai,eX] at e2;refine jD rfl rfl (aef _ _ _ (r:=(.sl (H.next+1) 0 0 1 l.length l.length false,(H.guard.new (.blk 0 3 [])).new (.blk 0 (3+iC) (l.map I)))) ?_) ?_
  ·have e1:bi .eql 22 (dat l) zN=some (B false):=by rw [xQ h];exact yw Tryz.underlying22
   simp only [xq_,aaG,e1,QB,Io,e2,zbD,zaY]
  ·rw [xQ h];refine oh (by omega) (cells:=l.map I) ?_ (jh _ λx hx=>yI l x hx _ _);simp only [dH,jA,eX,Ai,if_true];rw [if_pos (by simp),zaS,zaw (by simp)]
def abh(p:Pkt):Frz 9 (.agg p.av):=ny λx b=>by
 simp only [Pkt.av,zaj,zaA,or_false] at b;rcases b with rfl|rfl|rfl|rfl|rfl|rfl|rfl|rfl|rfl <;> first|exact iD|exact vS
def abj(H:ah)(p:Pkt)(b:p.data.length<1000000000):cl 138 [.agg p.av] H=some (.agg p.av,H):=by
 have d:=λH=>kC H p.data b;refine dD rfl rfl (anW _ _ _) ?_ (abh p);simp only [Nat.reduceLT,Nat.reduceAdd,aO,xq_,hq_,ahg,aG,Pkt.av,d]
def Wy(H:ah)(p:Pkt)(b:p.data.length<1000000000):cl 97 [.agg p.av] H=some (.agg p.av,H):=by
 have d:=λH=>kC H p.data b;refine dD rfl rfl (asn _ _ _) ?_ (abh p);simp only [Nat.reduceLT,Nat.reduceAdd,aO,xq_,hq_,am8,aG,Pkt.av,d]
section
variable {b:Nat}{H:ah}{g:bD}{q:Nat}{l:List Pkt}{room:Int}
def WA(G:Good b H g)(h:g q=some (oz l room))(k:0<=room)(m:room<1000)(o:l.length<1000):
  cl 124 [.ref q 0 0] H=some (I (room-l.length),H):=by
 refine bC rfl rfl (anF _ _ _ ?_);obtain⟨x,d,c⟩:=G.seq h (i:=0) rfl;have e:=G.load h (i:=1) rfl;have j:=(c.is Z (dM bZ l)).lnS;simp only [xq_,ag2,d,e,j,kH];rw [wrap_i64 V V]
def ajl(G:Good b H g)(hb:H.base<=b)(h:g q=some (oz l room))(h1:0<=room)(h2:room<1000)(h3:l.length<1000)(p:Pkt)(hp:p.data.length<1000000000):
  ∃H',cl 128 [.ref q 0 0,.agg p.av] H=some (I (if room=l.length then 5 else 0),H')/\Good b H' (upd g q (oz (if room=l.length then l else l++[p]) room))/\Step b H H':=by
 have G1:=G.new (.blk 0 112 p.av);have e1:=WA G1 h h1 h2 h3;by_cases hr:room=l.length
 ·refine⟨_,bC rfl rfl (ag5 _ _ _ _ (r:=(_,H.new (.blk 0 112 p.av))) ?_),?_,Step.new _ G.1⟩
  ·simp only [Nat.reduceLT,xq_,hq_,aaZ,aG (aU p),e1,hr,Int.sub_self]
  ·rw [if_pos hr,fP h];exact G1
 ·have hr':¬room-(l.length:Int)=0:=by omega
  obtain⟨x,hx,c⟩:=G1.seq h (i:=0) rfl;have e2:=iH (H:=H.new (.blk 0 112 p.av)) (r:=H.next) (off:=0) (n:=9) (rE) (by simp [Pkt.av]);have e3:=abj (H.new (.blk 0 112 p.av)).guard p hp;obtain⟨x',H1,H2,a1,a2,a3,a4⟩:=(G1.new (.blk 0 112 p.av)).append (e:=112) (by_:=88) hb h (i:=0) rfl (by decide) (dM bZ l) (c.new _) (kN (ex:=true) (n:=1) (m:=9) (l:=p.av) rfl) (aU p) (by unfold most;omega) (by unfold most;omega);refine⟨H2,bC rfl rfl (ag5 _ _ _ _ ?_),?_,(((Step.new _ G.1).trans (Step.new _ (G.new _).1)).trans a4)⟩
  ·simp only [eX] at a1;simp only [Nat.reduceLT,xq_,aaZ,aG (aU p),e1,hr',hr,hx,e2,zaS,e3,afV,zbh,Nat.reduceLeDiff,QE,kZ (m:=9) (z:=[zI,zI,zI,zI,zI,zI,zI,zB,zN]) (v:=.agg p.av) rfl rfl (aU p),fA,a1,a2]
  ·rw [if_neg hr];have:oz (l++[p]) room=(oz l room).set 0 (.seq 9 (l.flatMap Pkt.av++p.av)):=by simp [oz]
   rw [this];exact a3
def abk(G:Good b H g)(h:g q=some (oz l room))(k:0<=room)(m:room<1000)(o:l.length<1000):
  cl 96 [.ref q 0 0] H=some (I (room-l.length),H):=by
 refine bC rfl rfl (asl _ _ _ ?_);obtain⟨x,d,c⟩:=G.seq h (i:=0) rfl;have e:=G.load h (i:=1) rfl;have j:=(c.is Z (dM bZ l)).lnS;simp only [xq_,am7,d,e,j,kH];rw [wrap_i64 V V]
def aen(G:Good b H g)(hb:H.base<=b)(h:g q=some (oz l room))(h1:0<=room)(h2:room<1000)(h3:l.length<1000)(p:Pkt)(hp:p.data.length<1000000000):
  ∃H',cl 51 [.ref q 0 0,.agg p.av] H=some (I (if room=l.length then 5 else 0),H')/\Good b H' (upd g q (oz (if room=l.length then l else l++[p]) room))/\Step b H H':=by
 have G1:=G.new (.blk 0 112 p.av);have e1:=abk G1 h h1 h2 h3;by_cases hr:room=l.length
 ·refine⟨_,bC rfl rfl (amy _ _ _ _ (r:=(_,H.new (.blk 0 112 p.av))) ?_),?_,Step.new _ G.1⟩
  ·simp only [Nat.reduceLT,xq_,hq_,ai4,aG (aU p),e1,hr,Int.sub_self]
  ·rw [if_pos hr,fP h];exact G1
 ·have hr':¬room-(l.length:Int)=0:=by omega
  obtain⟨x,hx,c⟩:=G1.seq h (i:=0) rfl;have e2:=iH (H:=H.new (.blk 0 112 p.av)) (r:=H.next) (off:=0) (n:=9) (rE) (by simp [Pkt.av]);have e3:=Wy (H.new (.blk 0 112 p.av)).guard p hp;obtain⟨x',H1,H2,a1,a2,a3,a4⟩:=(G1.new (.blk 0 112 p.av)).append (e:=112) (by_:=88) hb h (i:=0) rfl (by decide) (dM bZ l) (c.new _) (kN (ex:=true) (n:=1) (m:=9) (l:=p.av) rfl) (aU p) (by unfold most;omega) (by unfold most;omega);refine⟨H2,bC rfl rfl (amy _ _ _ _ ?_),?_,(((Step.new _ G.1).trans (Step.new _ (G.new _).1)).trans a4)⟩
  ·simp only [eX] at a1;simp only [Nat.reduceLT,xq_,ai4,aG (aU p),e1,hr',hr,hx,e2,zaS,e3,afV,zbh,Nat.reduceLeDiff,QE,kZ (m:=9) (z:=[zI,zI,zI,zI,zI,zI,zI,zB,zN]) (v:=.agg p.av) rfl rfl (aU p),fA,a1,a2]
  ·rw [if_neg hr];have:oz (l++[p]) room=(oz l room).set 0 (.seq 9 (l.flatMap Pkt.av++p.av)):=by simp [oz]
   rw [this];exact a3
def ajm {i n:Nat}{x:AV}{l:List AV}(c:Cur b H q i x 9 l)(hb:H.base<=b)(g:l.length=n*9)(k:n<1000000000){j:Nat}(m:j<n):
  ∃h H',cl 98 [x,I j,I (j+1)] H=some (h,H')/\Fit H H' x h 9 (l.take (j*9)++l.drop ((j+1)*9))/\H'.next=H.next/\H'.base=H.base/\∀r,iK x≠some r->H'.get r=H.get r:=by
 obtain⟨y,K,L,o,H1,M,p,u,v,w,A,C,D,E,f,n1,F,k1⟩:=VQ c hb Z g k m (z:=[zI,zI,zI,zI,zI,zI,zI,zB,zN]) rfl rfl (e:=112) (by_:=88) Z;have G:=(c.is Z g).lnS;have d:((j:Int)=j+1)=False:=eq_false V;refine⟨o,p,bC rfl rfl (asq _ _ _ _ _ ?_),f,n1,F,k1⟩;simp only [xq_,am9,G,u,v,w,A,C,D,E,d]
def Q7 {α:Type}{enc:α->List AV}{m:Nat}(b:∀a,(enc a).length=m):∀(l:List α) (j:Nat),(l.flatMap enc).take (j*m)=(l.take j).flatMap enc
 |[],j=>by simp
 |a::l,0=>by simp
 |a::l,j+1=>by
  rw [zaC,List.take_succ_cons,zaC,zbM,Nat.add_comm,List.take_append,b,Nat.add_sub_cancel_left,Q7 b l j,zaw (by rw [b];omega)]
def Q8 {α:Type}{enc:α->List AV}{m:Nat}(b:∀a,(enc a).length=m):∀(l:List α) (j:Nat),(l.flatMap enc).drop (j*m)=(l.drop j).flatMap enc
 |[],j=>by simp
 |a::l,0=>by simp
 |a::l,j+1=>by
  rw [zaC,List.drop_succ_cons,zbM,Nat.add_comm,zdq,b,Nat.add_sub_cancel_left,Q8 b l j,zaV (by rw [b];omega),zaM]
def Ld {α:Type}{enc:α->List AV}{m:Nat}(b:∀a,(enc a).length=m)(l:List α)(j:Nat):(l.flatMap enc).take (j*m)++(l.flatMap enc).drop ((j+1)*m)=(l.eraseIdx j).flatMap enc:=by
 rw [Q7 b,Q8 b,List.eraseIdx_eq_take_drop_succ,zbG]
def mW {α:Type}{enc:α->List AV}{m:Nat}(b:∀a,(enc a).length=m){L:List α}{x:AV}(hs:aN H x m L.length (L.flatMap enc)){i:Nat}{a:α}(hi:L[i]?=some a):lda m (eH x i) H=some (.agg (enc a),H):=by
 have d:i<L.length:=(zae.1 hi).1;rw [hs.lda d,vO b L i a hi]
def iM(o:Option Pkt):AV:=.tup [.agg (o.getD .zero).av,B o.isSome]
def fO:Pkt.zero.av=[zI,zI,zI,zI,zI,zI,zI,zB,zN]:=by simp [Pkt.zero,Pkt.av,dat,gI]
def Dx(o:Option Pkt):Frz 9 (iM o):=vP λx b=>by
 simp only [zaj,zaA,or_false] at b;rcases b with rfl|rfl
 ·refine ny λx b=>?_;simp only [Pkt.av,zaj,zaA,or_false] at b;rcases b with rfl|rfl|rfl|rfl|rfl|rfl|rfl|rfl|rfl <;> first|exact iD|exact vS
 ·exact iD
def abl(G:Good b H g)(h:g q=some (oz l room))(w:l.length<1000)(hd:∀p∈l,p.data.length<1000000000):
  cl 180 [.ref q 0 0] H=some (iM l.head?,H):=by
 refine dD rfl rfl (aoC _ _ _) ?_ (Dx _);have j:=G.guard.new (.blk 0 112 [zI,zI,zI,zI,zI,zI,zI,zB,zN]);obtain⟨x,d,c⟩:=j.seq h (i:=0) rfl;have hs:=c.is Z (dM bZ l);have e:=hs.lnS;cases l with
 |nil=>simp only [Nat.reduceAdd,aO,xq_,hq_,abe,d,e,Int.ofNat_zero,rD,jf,eu,iM,fO,List.head?_nil,za5,zaK]
 |cons p l=>
  have m:=hs.ix (k:=.i64) (i:=0) Z (by simp only [zal];omega);have o:=mW bZ hs (i:=0) (a:=p) rfl;have u:(((l.length+1:Nat):Int)=0)=False:=eq_false V;have v:=λH=>Wy H p (hd p O);simp only [Nat.reduceAdd,aO,xq_,hq_,abe,d,e,u,m,Int.toNat_zero,o,v,iM,List.head?_cons,zav,zaL]
def WB(G:Good b H g)(hb:H.base<=b)(h:g q=some (oz l room))(C:l.length<1000){j:Nat}(p:j<l.length):
  ∃x e H1 d,ld (.ref q 0 0) H=some (x,H)/\cl 98 [x,I j,I (j+1)] H=some (e,H1)/\st 1 (.ref q 0 0) e H1=some (bg,d)/\Good b d (upd g q (oz (l.eraseIdx j) room))/\Step b H d:=by
 obtain⟨x,u,c⟩:=G.seq h (i:=0) rfl;obtain⟨e,H1,v,m,D,w,o⟩:=ajm c hb (dM bZ l) V p;rw [Ld bZ] at m;obtain⟨d,y,z,A,E⟩:=G.seat h (i:=0) rfl c V V  (λr _ k=>o r k) m;exact⟨x,e,H1,d,u,v,y,z,Step.trans ⟨w,V,λr k=>o r (c.low k)⟩ A⟩
def abm(G:Good b H g)(hb:H.base<=b)(h:g q=some (oz l room))(h3:l.length<1000)(hd:∀p∈l,p.data.length<1000000000):
  ∃H',cl 154 [.ref q 0 0] H=some (iM l.head?,H')/\Good b H' (upd g q (oz l.tail room))/\Step b H H':=by
 have G1:=G.newObj (ty:=112) (xs:=[zI,zI,zI,zI,zI,zI,zI,zB,zN]) rfl;have hq:=G.lt h;have h1:upd g H.next ([zI,zI,zI,zI,zI,zI,zI,zB,zN].map .av) q=some (oz l room):=by rw [bn (by omega)];exact h
 have e1:=abl G1 h1 h3 hd;have hb0:H.base<=H.next:=zaz hb G.1
 refine kQ rfl rfl (aoc _ _ _) ?_;cases l with
 |nil=>
  simp only [Nat.reduceAdd,aO,xq_,hq_,zaa,zad,exists_eq_left',aa4,e1,FP,iM,List.head?_nil,za5,zaK,fO,List.tail_nil,hb0];exact⟨(fP h).symm ▸ (G.new _).new _,(Step.new _ G.1).trans (Step.new _ (G.new _).1)⟩
 |cons p l=>
  have hm:=hd p (by simp);let H1:=H.new (.blk 0 112 [zI,zI,zI,zI,zI,zI,zI,zB,zN]);have G2:=G1.newObj (ty:=112) (xs:=p.av) (aU _);have hv2:upd (upd g H.next ([zI,zI,zI,zI,zI,zI,zI,zB,zN].map .av)) (H.next+1) (p.av.map .av) H.next=some ([zI,zI,zI,zI,zI,zI,zI,zB,zN].map .av):=by rw [bn (by omega),aQ]
  have h2:upd (upd g H.next ([zI,zI,zI,zI,zI,zI,zI,zB,zN].map .av)) (H.next+1) (p.av.map .av) q=some (oz (p::l) room):=by rw [bn (by omega)];exact h1
  obtain⟨x,x',K1,K2,s1,s2,s3,s4,s5⟩:=WB G2 (by rw [jB,jB];omega) h2 h3 (j:=0) (by simp);have G3:Good b K2 _:=s4;have q2:upd (upd (upd g H.next ([zI,zI,zI,zI,zI,zI,zI,zB,zN].map .av)) (H.next+1) (p.av.map .av)) q (oz l room) (H.next+1)=some (p.av.map .av):=by rw [bn (by omega),aQ]
  have q1:upd (upd (upd g H.next ([zI,zI,zI,zI,zI,zI,zI,zB,zN].map .av)) (H.next+1) (p.av.map .av)) q (oz l room) H.next=some ([zI,zI,zI,zI,zI,zI,zI,zB,zN].map .av):=by rw [bn (by omega),bn (by omega),aQ]
  have l2:=G3.loads q2 (i:=0) (n:=9) (xs:=p.av) rfl rfl (by decide);obtain⟨K3,t1,t2,t3,t4⟩:=G3.stores (by rw [s5.base,jB,jB];exact hb) q1 (i:=0) (n:=9) (vs:=p.av) (by decide) rfl (aU _);have l3:=t2.loads aQ (i:=0) (n:=9) (xs:=p.av) rfl rfl (by decide);have z1:((0:Nat):Int)=0:=rfl;have z2:((0:Nat):Int)+1=1:=rfl;rw [z2] at s2;simp only [z1] at s2;simp only [Nat.reduceAdd,aO,xq_,hq_,zaa,zad,exists_eq_left',aa4,e1,FP,iM,List.head?_cons,zav,zaL,List.tail_cons,hb0,s1,s2,s3,l2,t1,l3];have n1:g H.next=none:=G.isNone (zac _)
  have n2:g (H.next+1)=none:=G.isNone (by omega);exact⟨t2.sub (((((sK.refl g).more n1 _).more n2 _).both q _).more (AQ n1 (by omega)) _),(((Step.new _ G.1).trans (Step.new _ (G.new _).1)).trans s5).trans t3⟩
def abn(G:Good b H g)(h:g q=some (oz l room))(A:l.length<1000)(hd:∀p∈l,p.data.length<1000000000)(at_:Int):
  cl 92 [.ref q 0 0,I at_] H=some (iM (if at_<0 then none else l[at_.toNat]?),H):=by
 refine dD rfl rfl (ase _ _ _ _) ?_ (Dx _);have u:=G.guard.new (.blk 0 112 [zI,zI,zI,zI,zI,zI,zI,zB,zN]);obtain⟨x,m,c⟩:=u.seq h (i:=0) rfl;have hs:=c.is Z (dM bZ l);have o:=hs.lnS;by_cases j:at_<0
 ·simp only [Nat.reduceAdd,aO,xq_,hq_,aem,j,rD,jf,eu,iM,fO,za5,zaK]
 ·by_cases v:at_<l.length
  ·have w:=hs.ix (k:=.i64) (i:=at_) V v;obtain⟨p,e⟩:∃p,l[at_.toNat]?=some p:=⟨_,zab V⟩
   have y:=mW bZ hs e;have z:=λH=>abj H p (hd p (zan e));have d:¬(l.length:Int)<=at_:=V
   simp only [Nat.reduceAdd,aO,xq_,hq_,aem,m,j,d,o,w,y,z,e,iM,zav,zaL]
  ·have e:l[at_.toNat]?=none:=zaG V;have d:(l.length:Int)<=at_:=V
   simp only [Nat.reduceAdd,aO,xq_,hq_,aem,m,j,d,o,e,rD,jf,eu,iM,fO,za5,zaK]
end
open Go.RowKit
section
variable {P:Program}{C:aF}{A:Ann}{n:Nat}
def Lh {L:List Nat}{c:Code}(hc:Qy A n c (qL L) (λ_=>0) 0=true){t:gB}{e:Env}{H H1:ah}{vs:List AV}(p:Ag n (zO A c (qL L) (λ_=>0) 0) t e)
  (h:lD P C A n c e H (λe H=>some (yS L e,H)) (λ_ _ _=>none) (λ_ _=>none)=some (vs,H1)):
  ∃g,fH P C c t H=some (.normal,g,H1)/\∃d,Ag n (qL L) g d/\yS L d=vs:=by
 open Classical in
 have key:=Hu (P:=P) (C:=C) (β:=List AV × ah) A c (qL L) (λ_=>0) 0 hc
  (λt H=>if j:∃d,Ag n (qL L) t d/\yS L d=vs then(if H=H1 then some (vs,H) else none) else none) (λe H=>if yS L e=vs/\H=H1 then some (vs,H) else none)
  (λ_ _ _=>none) (λ_ _ _=>none) (λ_ _=>none) (λ_ _=>none)
  (λt e H ha r m=>by
   split at m
   ·rename_i o;rw [dif_pos ⟨e,ha,o.1⟩,if_pos o.2];exact m
   ·cases m) (λ_ _ _ _ _=>Le.refl _) (λ_ _ _ _=>Le.refl _) t e H p
 have u:=KD (P:=P) (C:=C) (A:=A) (n:=n) (β:=List AV × ah) c e H (λk e H=>k (yS L e) H) (λ_ _ _ _=>none) (λ_ _ _=>none) (λt H=>ZK _ _) (λ_ _ _=>gY _) (λ_ _=>gY _);have v:lD P C A n c e H (λe H=>(λs H=>some (s,H)) (yS L e) H) (λ_ _ _=>none) (λ_ _=>none)=some (vs,H1):=h;have w:lD P C A n c e H (λe H=>if yS L e=vs/\H=H1 then some (vs,H) else none) (λ_ _ _=>none) (λ_ _=>none)=some (vs,H1):=by
  rcases u (λs H=>some (s,H)) _ v with b|⟨s,H',b,y⟩
  ·exact b λs H=>if s=vs/\H=H1 then some (vs,H) else none
  ·cases b;exact y (λs H=>if s=vs/\H=H1 then some (vs,H) else none) O
 have b:=key _ w;cases j:fH P C c t H with
 |none=>rw [j] at b;cases b
 |some q=>
  obtain⟨ex,g,E⟩:=q;rw [j] at b;cases ex with
  |normal=>
   simp only [QA] at b;split at b
   ·rename_i z;split at b
    ·rename_i D;subst D;exact⟨g,rfl,z⟩
    ·cases b
   ·cases b
  |exit i=>cases b
  |ret=>cases b
def abo {c:Code}{d:List ResultVar}(hc:Qy A n c (SY d) (λ_=>0) (SY d)=true){t:gB}{e:Env}{H:ah}{r:AV × ah}(p:Ag n (zO A c (SY d) (λ_=>0) (SY d)) t e)
  (h:lD P C A n c e H (PL P n d) (λ_ _ _=>none) (PL P n d)=some r):
  ∃ex g,(ex=.normal∨ex=.ret)/\fH P C c t H=some (ex,g,r.2)/\jG P d g r.2=some r.1:=by
 have k:∀t e H,Ag n (SY d) t e->Le (PL P n d e H) ((jG P d t H).map λv=>(v,H)):=λt e H h=>by
  rw [ZQ _ h];exact Le.refl _
 have b:=Hu (P:=P) (C:=C) A c _ _ _ hc _ _ _ _ _ _ k (λ_ _ _ _ _=>Le.refl _) k t e H p r h;cases m:fH P C c t H with
 |none=>rw [m] at b;cases b
 |some q=>
  obtain⟨ex,g,o⟩:=q;rw [m] at b;cases ex with
  |exit i=>cases b
  |normal=>
   simp only [QA] at b;cases j:jG P d g o with
   |none=>rw [j] at b;cases b
   |some v=>
    rw [j] at b;simp only [zak,zaa] at b;subst b;exact⟨_,g,.inl rfl,rfl,j⟩
  |ret=>
   simp only [QA] at b;cases j:jG P d g o with
   |none=>rw [j] at b;cases b
   |some v=>
    rw [j] at b;simp only [zak,zaa] at b;subst b;exact⟨_,g,.inr rfl,rfl,j⟩
def aoM {o:Oper}{a:Act}{w:World}{K:Act->World->Prop}{Q:Exit->Act->World->Prop}{l m:Nat}(hd:∀c,o.op≠.defer c)(h:o.wp P a w K Q):o.wpIn (Fence.wide.inRound l) m P a w K Q:=by
 unfold Oper.wpIn;refine⟨λ_ _=>trivial,?_⟩;rw [Oper.semAt_eq _ _ _ hd];unfold Oper.wp at h;generalize (execOp a.eval o).run P w=r at*;have b:(Fence.wide.inRound l).depth.isSome=true->1<=m:=λh=>by cases h
 cases r with
 |ok x w'=>
  cases x <;> simp only [Oper.upon,Oper.uponIn] at h ⊢ <;> first
   |exact h
   |exact⟨b,CallsIn.inRound l (callsIn_wide.2 h)⟩
   |exact h.elim
   |skip
  rename_i row d;exact⟨b,λc cs e=>let⟨v,w',r,s⟩:=h c cs;⟨v,w',r,stepsIn_wide.2 s⟩⟩
 |halt x w'=>cases x <;> simp only [Oper.upon,Oper.uponIn] at h ⊢ <;> exact h
def Dy(o:Oper):Bool:=match o.op with
 |.defer _=>false
 |_=>true
def Lj {o:Oper}(h:Dy o=true):∀c,o.op≠.defer c:=λc e=>by rw [Dy,e] at h;cases h
def ajn {ops:Array Oper}(hd:∀o∈ops,Dy o=true){Q:Exit->Act->World->Prop}{i:Nat}{K:Act->World->Prop}{a:Act}{w:World}{l m:Nat}(d:¬LetsOut Q)(h:wpOp P ops Q i K a w):wpOpIn (Fence.wide.inRound l) m P ops Q i K a w:=by
 unfold wpOp at h;unfold wpOpIn;split
 ·rename_i b;rw [b] at h;exact h
 ·rename_i o b;rw [b] at h;simp only at h;split
  ·rename_i hw;rw [if_pos hw] at h;exact aoM (Lj (hd o (Array.mem_of_getElem? b))) (h.resolve_right λh=>d h.2)
  ·rename_i hw;rw [if_neg hw] at h;exact⟨λ_ _=>trivial,h⟩
def aeo {ops:Array Oper}(hd:∀o∈ops,Dy o=true){Q:Exit->Act->World->Prop}{l m:Nat}{d:Region.Mode}(e:¬LetsOut Q):∀(b:Nat) (listed:Array Bool) (a:Act) (w:World),wpAny P d ops Q b listed a w->wpAnyIn (Fence.wide.inRound l) m P d ops Q b listed a w:=by
 intro b
 induction b with
 |zero=>intro listed a w h;exact h
 |succ b g=>
  intro listed a w h;exact⟨h.1,λi hi=>wpOpIn_mono (λa w h=>g _ a w h) (ajn hd e (h.2 i hi))⟩
def yJ(P:Program)(C:aF)(c:Code):Prop:=
 ∀l m t H e t' H',fH P C c t H=some (e,t',H')->∀(ρ:Ren) (w:World) (a:Act),Rel ρ H w->TOn ρ H.gen w (λ_=>True) t a->∀Q:Exit->Act->World->Prop,¬LetsOut Q->aqr ρ H w a t' H' (Q e.to)->c.wpIn (Fence.wide.inRound l) m P Q a w
def aep {ops:List Oper}{t t':gB}{H H':ah}{ρ:Ren}{w:World}{a:Act}(K:rW P C)(L:kV C)(h:zC P C ops t H=some (t',H'))(R:Rel ρ H w)(M:TOn ρ H.gen w (λ_=>True) t a){Q:Exit->Act->World->Prop}
  (hQ:∀a' ρ' w',Rel ρ' H' w'->TOn ρ' H'.gen w' (λ_=>True) t' a'->Ext ρ H w ρ' H' w'->a'.defers=a.defers->Q .normal a' w'):wpAny P .any ops.toArray Q ops.toArray.size (Array.replicate ops.toArray.size false) a w.drew:=by
 unfold zC at h;split at h <;> first|(cases h;done)|skip
 rename_i W;split at h <;> first|(cases h;done)|skip
 rename_i t0 H0 y;obtain⟨z,X⟩:fV P C ops (nR ops) t0 H0=some (t',H')/\∀p∈mJ ops,agree P C ops H.next t0 H0 p:=by
  split at h
  ·rename_i he;rw [he];exact⟨h,O⟩
  ·split at h <;> first|(cases h;done)|skip
   rename_i ha;exact⟨h,ha⟩
 have F:=Eb W;have b:∀j,j∈pU ops↔j<ops.length/\cst ops j=true:=λj=>by simp [pU,zbp,zaW]
 obtain⟨hf,hg,A,nm,vl,h1,h2,h3⟩:=vI (pU ops) t H t0 H0 (List.nodup_range.filter _) (λj q=>((b j).1 q).2)
  (λi _ j _ oi oj d a1 a2 a3 a4=>F.apV i j oi oj d a1 a2 a3 a4) y
 obtain⟨T,Hp,val,S,g,m⟩:=J3 z vl;obtain⟨E,aa,ab⟩:=Ql R hf hg;obtain⟨ρ1,w1,a1,g1,g2⟩:=zG K _ _ _ _ _ ρ w a y R M;have D:adA P C ops t H t0 H0 T Hp val nm:={
  facts:=F
  S:=S
  names:=λj q hc=>by
   obtain⟨o,G,q2,q3,q4,q5⟩:=h1 j ((b j).2 ⟨q,hc⟩);exact⟨o,G,q2,q3,by rw [m j hc];exact q4,λd hd u=>by rw [m j hc];exact q5 d hd u⟩
  inj:=λi j hi q ci cj e=>h2 i ((b i).2 ⟨hi,ci⟩) j ((b j).2 ⟨q,cj⟩) e
  rest:=λd hd=>h3 d λj q o ho=>hd j ((b j).1 q).2 o ho
  len:=A
  fresh:=hf
  ata:=hg
  agr:=X
  ghost:=λp hp d=>by
   obtain⟨ρ2,w2,a2,r1,r2⟩:=J4 K S g1 g2 p hp;exact RV.nv r1.out _ _ (r2.any d trivial)
  keeps:=L }
 have e1:T ops.length=t':=by rw [<-Prod.mk.inj g |>.1]
 have e2:Hp ops.length=H':=by rw [<-Prod.mk.inj g |>.2]
 have v:∀j,¬Li (Array.replicate ops.toArray.size false) j:=λj=>by
  unfold Li;simp [Array.getD]
 refine afO K D (a0:=a) (λa' ρ' w' G q2 q3 q4=>hQ a' ρ' w' (by rw [<-e2];exact G) (by rw [<-e1,<-e2];exact q2) (by rw [<-e2];exact q3) q4) ops.toArray.size _ a w.drew 0 ρ (by simp [AA]) ?_;refine⟨O,λj o _ u=>absurd u (v j),zaY _,λi _ _=>⟨λu=>absurd u (v i),λh=>V⟩,by rw [S.zero.2];exact aa.drew,λk hk hc _=>?_,?_,M.size,λd hd=>⟨λj o _ u=>absurd u (v j),λ_=>?_⟩,rfl⟩
 ·obtain⟨_,_,G,_⟩:=D.names k hk hc;exact(R.out _ G).1
 ·rw [S.zero.2];exact ab.trans (Ext.drew ρ H0 w)
 ·rw [S.zero.2,E];exact RV.mono (Ext.drew ρ H w).toMono _ _ (M.get d trivial hd)
def Uw(i:rW P C)(b:kV C)(hm:P.follows .mixedOrders=true){id:Nat}{ops:Array Oper}(hd:∀o∈ops,Dy o=true):yJ P C (.region id ops true):=by
 intro l m t H e t' H' h ρ w a R T Q d j;simp only [fH,if_true] at h;split at h <;> first|(cases h;done)|skip
 rename_i k H1 g;simp only [zaa,zad] at h;obtain⟨rfl,rfl,rfl⟩:=h;have:=aep i b g R T (Q:=Q) j;rw [show ops.toList.toArray=ops from rfl] at this;exact wpIn_region_any hm (aeo hd d _ _ _ _ this)
def Ux {id:Nat}{c:Code}(hc:yJ P C c):yJ P C (.block id c):=by
 intro l m t H e t' H' h ρ w a R T Q k j;simp only [fH] at h;refine wpIn_block ?_;unfold Ed at h;have o:¬LetsOut (Exit.inBlock id Q):=λ⟨a,w,h⟩=>k ⟨a,w,h⟩;split at h
 ·rename_i i d H1 g;refine hc l m t H _ d H1 g ρ w a R T _ o λp q u v y z A=>?_;simp only [Ex.to,Exit.inBlock];split at h
  ·rename_i b;simp only [zaa,zad] at h;obtain⟨rfl,rfl,rfl⟩:=h;rw [if_pos b];exact j p q u v y z A
  ·rename_i b;simp only [zaa,zad] at h;obtain⟨rfl,rfl,rfl⟩:=h;rw [if_neg b];exact j p q u v y z A
 ·rename_i d H1 g;simp only [zaa,zad] at h;obtain⟨rfl,rfl,rfl⟩:=h;exact hc l m t H _ d H1 g ρ w a R T _ o j
 ·rename_i d H1 g;simp only [zaa,zad] at h;obtain⟨rfl,rfl,rfl⟩:=h;exact hc l m t H _ d H1 g ρ w a R T _ o j
 ·cases h
def xR(H:ah):Prop:=∀r k b,H.get r≠.map k b
def xR.cells {H:ah}(h:xR H){ρ:Ren}{w:World}(R:Rel ρ H w){r b sh:Nat}(i:ρ r=some (b,sh)):∃cs e,w.heap[b]?=some (.cells cs e (0,0)):=by
 have:=R.obj r b sh i;cases d:H.get r with
 |blk g o cells=>
  rw [d] at this;obtain⟨cs,e,j,_⟩:=this;exact⟨cs,e,j⟩
 |map k m=>exact absurd d (h r k m)
def xR.imm {H:ah}(h:xR H){ρ:Ren}{w:World}(R:Rel ρ H w){b:Nat}{o:Obj}(g:w.heap[b]?=some o)(hc:o.isCells=false):Imm ρ b:=λr j i=>by
 obtain⟨cs,e,d⟩:=h.cells R i;rw [g] at d;cases d;cases hc
end
structure Grn(w w':World):Prop where
 size:w.heap.size<=w'.heap.size
 cell:∀b o v,w.cell? ⟨b,o,none⟩=some v->w'.cell? ⟨b,o,none⟩=some v
 shape:∀b e m,w.shape? b=some (e,m)->w'.shape? b=some (e,m)
mutual
def RV.grn {ρ:Ren}{G:Nat->Nat}{w w':World}(M:Grn w w'):∀(x:AV) (v:Value),RV ρ G w x v->RV ρ G w' x v
 |.s _,_,h=>by simpa only [RV] using h
 |.ref r g off,v,h=>by simpa only [RV] using h
 |.sl r g off i len q ex,v,h=>by
  obtain⟨b,o,c,e,k1,j,u,d,p⟩:=(by simpa only [RV] using h)
  simp only [RV];refine⟨b,o,c,e,k1,j,u,d,λy=>?_⟩;obtain⟨z,A,k,C,D,E,F⟩:=p y;exact⟨z,A,k,C,D,M.shape _ _ _ E,F⟩
 |.ip cells,v,h=>by
  obtain⟨b,o,e,hb,hi,d⟩:=(by simpa only [RV] using h)
  simp only [RV];exact⟨b,o,e,zay hb M.size,hi,RVc.grn M cells b o d⟩
 |.vs m i cells,v,h=>by
  obtain⟨b,o,c,e,k1,j,hb,hi,d⟩:=(by simpa only [RV] using h)
  simp only [RV];exact⟨b,o,c,e,k1,j,zay hb M.size,hi,RVc.grn M cells b o d⟩
 |.mp r,v,h=>by simpa only [RV] using h
 |.fn f a c,v,h=>by
  obtain⟨a',c',e,d,p⟩:=(by simpa only [RV] using h)
  simp only [RV];exact⟨a',c',e,RVs.grn M a _ d,RVs.grn M c _ p⟩
 |.agg cells,v,h=>by
  obtain⟨cs,e,d⟩:=(by simpa only [RV] using h)
  simp only [RV];exact⟨cs,e,RVs.grn M cells _ d⟩
 |.tup cells,v,h=>by
  obtain⟨cs,e,d⟩:=(by simpa only [RV] using h)
  simp only [RV];exact⟨cs,e,RVs.grn M cells _ d⟩
def RVs.grn {ρ:Ren}{G:Nat->Nat}{w w':World}(M:Grn w w'):∀(xs:List AV) (l:List Value),RVs ρ G w xs l->RVs ρ G w' xs l
 |[],_,h=>by simpa only [RVs] using h
 |x::xs,l,h=>by
  obtain⟨y,b,e,d,g⟩:=(by simpa only [RVs] using h)
  simp only [RVs];exact⟨y,b,e,RV.grn M x y d,RVs.grn M xs b g⟩
def RVc.grn {ρ:Ren}{G:Nat->Nat}{w w':World}(M:Grn w w'):∀(xs:List AV) (b o:Nat),RVc ρ G w xs b o->RVc ρ G w' xs b o
 |[],_,_,_=>by simp only [RVc]
 |x::xs,b,o,h=>by
  obtain⟨⟨y,e,d⟩,g⟩:=(by simpa only [RVc] using h)
  simp only [RVc];exact⟨⟨y,M.cell _ _ _ e,RV.grn M x y d⟩,RVc.grn M xs b (o+1) g⟩
end
section
variable {P:Program}{C:aF}
def aoN {w w':World}{row:Option Nat}(d:w.grownBy w' row)(g:∀r,row=some r->∃o:Obj,w.heap[r]?=some o/\o.isCells=false):Grn w w':=by
 refine⟨d.size,λb o v h=>cell_kept h d g,λb e m h=>?_⟩;rw [fG] at h ⊢;cases hb:w.heap[b]? with
 |none=>rw [hb] at h;cases h
 |some i=>
  have hc:i.isCells=true:=by
   rw [hb] at h;cases i <;> first|rfl|cases h
  rw [grownBy_keeps_cells d g hb hc];exact h
def xR.grown {H:ah}(h:xR H){ρ:Ren}{w w':World}(R:Rel ρ H w){row:Option Nat}{B:Nat}(i:w.grownBy w' row)(m:∀r,row=some r->B<=r/\∃o:Obj,w.heap[r]?=some o/\o.isCells=false)(u:∀b∈fx.blocks,b<B):Rel ρ H w'/\Grn w w':=by
 have M:=aoN i λr e=>(m r e).2;refine⟨⟨R.out,λr b v d=>?_,R.inj,?_⟩,M⟩
 ·have j:=R.obj r b v d;obtain⟨y,G,p⟩:=h.cells R d;have hk:=grownBy_keeps_cells i (λr e=>(m r e).2) p rfl;cases q:H.get r with
  |blk g K cells=>
   rw [q] at j;obtain⟨cs,e,z,A,C,D⟩:=j;exact⟨cs,e,by rw [hk];exact z,A,RVc.grn M _ _ _ C,D⟩
  |map k E=>exact absurd q (h r k E)
 ·refine⟨λb hb=>?_,fx.frame w w' (λb hb=>?_) R.gl.2⟩
  ·obtain⟨j,F⟩:=R.gl.1 b hb;exact⟨zay j i.size,F⟩
  ·refine i.block b (R.gl.1 b hb).1 λe=>?_;have:=(m b e.symm).1;have:=u b hb;omega
def Ext.grown {ρ ρ1:Ren}{H H1:ah}{w W g:World}(E:Ext ρ H w ρ1 H1 W){row:Option Nat}(d:W.grownBy g row)(i:∀r,row=some r->w.heap.size<=r):Ext ρ H w ρ1 H1 g:=by
 have hb:∀b,b<w.heap.size->g.heap[b]?=W.heap[b]?:=λb hb=>d.block b (zay hb E.size) λe=>by
  have:=i b e.symm;omega
 exact⟨E.next,E.mono,E.same,E.kept,E.range,zaz E.size d.size,λb h hi=>(hb b h).trans (E.frame b h hi),λb h=>by rw [<-E.shape b h,fG,fG,hb b h],d.os.trans E.os,d.tape.trans E.tape,d.output.trans E.output⟩
def KpC(b:World->Prop)(A B:World):Prop:=b A->b B
def aer(hm:P.follows .mixedOrders=true){t:gB}{H:ah}{ρ:Ren}{w:World}{a:Act}(R:Rel ρ H w)(T:TOn ρ H.gen w (λ_=>True) t a)
  {g:Operand} {p d:Tmp} (hp:p<t.length) (hpd:p≠d) {ida:Nat} {ty:TypeId} {pos:String} {aft:Array Edge} {body:Code}
  {gf:Nat} {lb:Array Value} (hg:a.eval g=.func (.func gf) #[] lb) (eg:∀args w,(callFunc gf args).run P w=.ok (.enter gf args) w)
  {N:Nat} (vs:Fin N->AV) (cvs:Fin N->Value) (hv:∀x,RV ρ H.gen w (vs x) (cvs x)) (CP:World->Prop) (hL:∀(W:World) (l:Nat) (o o':Obj),w.heap.size<=l->W.heap[l]?=some o->o.isCells=false->CP W->CP (W.putObj l o'))
  (hseq:∀n,1<=n->SeqStopsK Fence.wide n P gf lb (λx=>#[cvs x]) (KpC CP) (λys=>ys.map (λx:Fin N=>x.val)=List.range N) (λ_=>True) N w)
  (Inv:List (Fin N)->ah->Prop) (h0:Inv [] H) (hnm:∀pre H1,Inv pre H1->xR H1)
  (hcell:∀pre H1 ρ1 W,Inv pre H1->Rel ρ1 H1 W->Ext ρ H w ρ1 H1 W->CP W)
  (hrun:∀pre x H1,Inv pre H1->pre.length<N->∃t2 H2,fH P C body (wV (wV t (some p) (vs x)) (some d) (vs x)) H1=some (.normal,t2,H2)/\Inv (pre++[x]) H2)
  (hin:yJ P C body) {Q:Exit->Act->World->Prop}
  (hQ:∀xs H1 D W ρ1,xs.map (λx:Fin N=>x.val)=List.range N->Inv xs H1->Rel ρ1 H1 W->Ext ρ H w ρ1 H1 W->W.heap[D]?=some (.deferred (some []))->Imm ρ1 D->w.heap.size<=D->Q .normal { a with defers:={ target:=.collected D,args:=#[] }::a.defers } W):
  (Code.rangeFunc g #[p] (.region ida #[{ dst:=some d,op:=.assign (.tmp p),type:=ty,pos:=pos,after:=aft,guard:=none }] false) body).wp P Q a w:=by
 refine(wpIn_wide (n:=9)).1 ?_;have hpa:p<a.tmps.size:=by rw [T.size];exact hp
 let a0:Fin N->Act:=λx=>{ tmps:=a.tmps.setIfInBounds p (cvs x),defers:=[] }
 let I:List (Fin N)->World->Prop:=λpre W=>∃H1 ρ1,Inv pre H1/\Rel ρ1 H1 W/\Ext ρ H w ρ1 H1 W
 have hfx:∀b∈fx.blocks,b<w.heap.size:=λb hb=>(R.gl.1 b hb).1;refine wpIn_rangeFunc_ownF (F:=Fence.wide) (α:=Fin N) rfl Z (gf:=gf) (lb:=lb) hg trivial eg (hseq 8 Z) (λh k hx=>k (h hx)) ?hKb (Below.refl _ _) (λ_=>rfl) I (λ_ _ _=>False) ?hI (λ_ _ _ _ _ h _ _=>h) ⟨H,ρ,h0,R,Ext.refl _ _ _⟩ (λx=>(a0 x).put (some d) (cvs x)) ?hassign ?hbody ?hdone (λ_ _ _ _ _ _ h _=>h.elim)
 case hKb=>
  intro W l o o' hl ho hc _ hx;exact hL W l o o' hl ho hc hx
 case hI=>
  rintro pre W W' row ⟨H1,ρ1,i1,i2,i3⟩ hgr hr;obtain⟨r1,_⟩:=(hnm pre H1 i1).grown i2 hgr hr hfx;exact⟨H1,ρ1,i1,r1,i3.grown hgr λr e=>(hr r e).1⟩
 case hassign=>
  intro l x W K hK;refine wpIn_region ?_;have e1:(#[p].zip #[cvs x]).foldl (λt q=>t.setIfInBounds q.1 q.2) a.tmps=a.tmps.setIfInBounds p (cvs x):=O
  have e2:({ tmps:=a.tmps.setIfInBounds p (cvs x),defers:=[] }:Act).eval (.tmp p)=cvs x:=by
   simp [Act.eval,Array.getD,hpa]
  show wpOpsIn _ _ P _ _ [0] _ W;simp only [wpOpsIn,List.getElem?_toArray,zaT,Region.wanted,if_true];refine aoM (Lj rfl) ?_;unfold Oper.wp;have e3:execOp ({ tmps:=a.tmps.setIfInBounds p (cvs x),defers:=[] }:Act).eval { dst:=some d,op:=.assign (.tmp p),type:=ty,pos:=pos,after:=aft,guard:=none }=pure (.value (cvs x)):=by
   show pure (Next.value _)=_;rw [e2]
  have e4:((#[p].zip #[cvs x]).foldl (λt x=>match x with|(p,v)=>t.setIfInBounds p v) a.tmps)=a.tmps.setIfInBounds p (cvs x):=O
  rw [e4,e3];exact hK
 case hbody=>
  rintro l pre x W ⟨H1,ρ1,i1,i2,i3⟩ hlen;obtain⟨t2,H2,r1,r2⟩:=hrun pre x H1 i1 hlen;have hvx:=RV.mono i3.toMono _ _ (hv x);have T0:TOn ρ1 H1.gen W (λ_=>True) (wV t (some p) (vs x)) (a0 x):=⟨((T.keep i3).put (some p) hvx).size,((T.keep i3).put (some p) hvx).get⟩
  have T1:=T0.put (some d) hvx;refine hin l _ _ H1 _ t2 H2 r1 ρ1 W _ i2 T1 _ (λ⟨_,_,h⟩=>h) λa' ρ' w' q1 q2 q3 q4=>?_;refine⟨⟨q3.size,λk o ho hc=>?_⟩,λ_=>hcell _ H2 ρ' w' r2 q1 (i3.trans q3),H2,ρ',r2,q1,i3.trans q3⟩;rw [q3.frame k (zbC.1 ho).1 ((hnm pre H1 i1).imm i2 ho hc)];exact ho
 case hdone=>
  rintro D xs W hD hS ⟨H1,ρ1,i1,i2,i3⟩ hK;exact hQ xs H1 D W ρ1 hS i1 i2 i3 hK ((hnm xs H1 i1).imm i2 hK rfl) hD
end
def apz(e:TypeId)(m by_:Nat)(z:List AV)(x y:AV):AM AV:=λH=>match y with
 |.s (.int _ n)=>if 0<=n/\n<=most/\n*by_<=most then dZ e m by_ x n.toNat (dN z n.toNat) H else none
 |_=>none
def EC:Ann:=⟨[],[(4,rF 40 (none::some false::[])),(7,rF 3 (some true::rF 4 []))],[]⟩
def abp:Code:=match ajk with
 |.seq a (.seq b (.seq c (.seq d (.seq (.seq e _) f))))=>.seq a (.seq b (.seq c (.seq d (.seq e .skip))))
 |_=>.skip
def abq(C:aF)(t0:AV)(H:ah):Option (List AV × ah):=
 bnd (alc 112 [zI,zI,zI,zI,zI,zI,zI,zB,zN] H) λv2 H=>
 bnd (C 142 [t0] H) λg H=>bo (aJ g 0) λb=>bo (aJ g 1) λh=>
 bo (un .not h) λe=>gdA (some e) false (fU (some b) H) H λi H=>gdA (some e) false (lnS i H) H λj H=>gdA (some e) false (fU (bi .lss 3 j (I 10)) H) H λk H=>bo (cO e (B true) k) λd=>gdA (some d) false (fU (some b) H) H λm H=>gdA (some d) false (lnS m H) H λo H=>gdA (some d) false (fU (some b) H) H λp H=>gdA (some d) false (ix 1 p (I 9) H) H λq H=>gdA (some d) false (ld q H) H λu H=>gdA (some d) false (cv 5 3 u H) H λv H=>gdA (some d) false (fU (bi .mul 3 (I 8) v) H) H λw H=>gdA (some d) false (fU (bi .add 3 (I 10) w) H) H λy H=>gdA (some d) false (fU (bi .neq 3 o y) H) H λz H=>bo (cO d (B true) z) λA=>
 aX A
 (bo (bd 112 []) λD=>bnd (st 9 v2 D H) λ_ H=>
  none)
 (bnd (alc 112 [zI,zI,zI,zI,zI,zI,zI,zB,zN] H) λv6 H=>bnd (ix 1 b (I 0) H) λE H=>bnd (ld E H) λF H=>bnd (cv 5 3 F H) λG H=>bnd (ix 1 b (I 1) H) λK H=>bnd (ld K H) λL H=>bnd (cv 5 3 L H) λM H=>bnd (ix 1 b (I 2) H) λQ H=>bnd (ld Q H) λR H=>bnd (cv 5 3 R H) λT H=>bnd (ix 1 b (I 3) H) λW H=>bnd (ld W H) λX H=>bnd (cv 5 3 X H) λaa H=>bo (bi .shl 3 aa (.s (Go.Value.int Go.IntKind.u64 8))) λab=>bnd (ix 1 b (I 4) H) λad H=>bnd (ld ad H) λae H=>bnd (cv 5 3 ae H) λaf H=>bo (bi .or 3 ab af) λag=>bnd (ix 1 b (I 5) H) λai H=>bnd (ld ai H) λal H=>bnd (cv 5 3 al H) λam H=>bnd (ix 1 b (I 6) H) λao H=>bnd (ld ao H) λap H=>bnd (cv 5 3 ap H) λaq H=>bo (bi .sub 3 aq (I 1)) λar=>bnd (ix 1 b (I 7) H) λaw H=>bnd (ld aw H) λax H=>bnd (cv 5 3 ax H) λay H=>bnd (ix 1 b (I 8) H) λaz H=>bnd (ld az H) λaD H=>bo (bi .eql 5 aD (.s (Go.Value.int Go.IntKind.u8 1))) λaE=>bo (bd 112 [(0,G),(1,M),(2,T),(3,ag),(4,am),(5,ar),(6,ay),(7,aE)]) λaL=>bnd (st 9 v6 aL H) λ_ H=>
  bo (slS 1 b (some (I 10)) none none) λaM=>bnd (C 143 [aM,(I 8)] H) λaR H=>
  some ([t0,v2,v6,aR],H))
def aoO(C:aF)(t0:AV)(H:ah):lD Tryz.prog C EC 100 abp [(0,t0)] H (λe H=>some (yS [0,2,6,76] e,H)) (λ_ _ _=>none) (λ_ _=>none)=abq C t0 H:=J
def WC:Code:=match ajk with
 |.seq a (.seq b (.seq c (.seq d (.seq (.seq e (.block _ (.rangeFunc _ _ _ g))) f))))=>g
 |_=>.skip
def abr(C:aF)(j k:AV)(H:ah):Option (List AV × ah):=
 bo (au j 8) λb=>bnd (ld b H) λd H=>bnd (unG H (C 144 [k] H.guard)) λe H=>bnd (bs 22 1 [(0,e)] H) λg H=>bnd (app 3 1 8 d g H) λh H=>bo (au j 8) λi=>bnd (st 1 i h H) λ_ H=>
 some ([],H)
def aoP(C:aF)(b d:AV)(H:ah):lD Tryz.prog C EC 100 WC [(6,b),(7,d)] H (λe H=>some (yS [] e,H)) (λ_ _ _=>none) (λ_ _=>none)=abr C b d H:=J
def WE:Code:=match ajk with
 |.seq a (.seq b (.seq c (.seq d (.seq (.seq e _) f))))=>f
 |_=>.skip
def abt(C:aF)(t0 e w:AV)(H:ah):Option (AV × ah):=
 bnd (lda 9 w H) λg H=>bnd (C 93 [g] H) λd H=>bo (aJ d 0) λh=>bo (aJ d 1) λi=>
 bo (bi .neq 48 i (I 0)) λb=>gdA (some b) false (fU (some h) H) H λj H=>gdA (some b) false (fU (some t0) H) H λk H=>gdA (some b) false (C 145 [j,k] H) H λm H=>gdA (some b) false (fU (un .not m) H) H λo H=>bo (cO b (B true) o) λp=>
 aX p
 (bo (bd 112 []) λq=>bnd (st 9 e q H) λ_ H=>
  bnd (lda 9 e H) λu _=>some (.tup [u,(I 2)],H))
 (bnd (lda 9 w H) λv H=>bnd (st 9 e v H) λ_ H=>
  bnd (lda 9 e H) λu _=>some (.tup [u,(I 0)],H))
def aoQ(C:aF)(t0 b d:AV)(H:ah):lD Tryz.prog C EC 100 WE [(0,t0),(2,b),(6,d)] H (PL Tryz.prog 100 Tryz.f94.results.toList) (λ_ _ _=>none) (PL Tryz.prog 100 Tryz.f94.results.toList)=abt C t0 b d H:=J
def OE(C:aF)(t0:AV)(H:ah):OA:=
 some (t0,H)
def OG(C:aF)(t0 p:AV)(H:ah):OA:=
 bnd (fU (afJ Tryz.prog 172 t0) H) λd H=>bnd (lnS t0 H) λe H=>bo (bi .sub 3 d e) λg=>bo (bi .sub 3 p g) λb=>
 bo (bi .gtr 3 b (I 0)) λh=>
 aX h
 (bnd (fU (afJ Tryz.prog 172 t0) H) λi H=>bo (slS 1 t0 none (some i) none) λj=>bnd (apz 5 1 1 [.s (.int .u8 0)] j b H) λk H=>bnd (lnS t0 H) λm H=>bo (slS 1 k none (some m) none) λo=>
  OE C o H)
 (OE C t0 H)
def ahN(C:aF)(a0 b:AV)(H:ah):OA:=
 bo (bi .lss 3 b (I 0)) λd=>
 aX d
 (bnd (stk H) λe H=>bnd (stk H) λ_ H=>
  OG C a0 b H)
 (OG C a0 b H)
def aoR:Rn2 191 ahN:=λ_ _ _ _ _ h=>
 rnG an0 Tryz.func191 J J  h
structure Gro(H H':ah):Prop where
 next:H.next<=H'.next
 base:H'.base=H.base
 same:∀r,r<H.next->H'.get r=H.get r
 Q9:xR H->xR H'
def Gro.refl(H:ah):Gro H H:=⟨zac _,rfl,λ_ _=>rfl,λh=>h⟩
def Gro.trans {H H' H'':ah}(a:Gro H H')(b:Gro H' H''):Gro H H'':=
 ⟨zaz a.next b.next,b.base.trans a.base,λr h=>(b.same r (zay h a.next)).trans (a.same r h),λh=>b.Q9 (a.Q9 h)⟩
def Gro.new(H:ah)(g ty:Nat)(xs:List AV):Gro H (H.new (.blk g ty xs)):=
 ⟨by rw [eX];omega,jB,λr h=>bJ h,λh r k b=>by
  by_cases e:r=H.next
  ·rw [aZ e];simp
  ·have:(H.new (.blk g ty xs)).get r=H.get r:=by simp [ah.new,e]
   rw [this];exact h r k b⟩
structure dL(H:ah)(x:AV)(l:List By):Prop where
 is:aN H x 1 l.length (l.map Y)
 small:l.length<1000
def dL.gro {H H':ah}{x:AV}{l:List By}(h:dL H x l)(g:Gro H H'):dL H' x l:=⟨h.is.iZ g.next λr _ b=>g.same r b,h.small⟩
def dL.ix {H:ah}{x:AV}{l:List By}(h:dL H x l){i:Nat}(hi:i<l.length):ix 1 x (I i) H=some (eH x i,H):=by
 have:=h.is.ix (k:=.i64) (i:=(i:Int)) V V
 rwa [zar] at this
def dL.ld {H:ah}{x:AV}{l:List By}(h:dL H x l){i:Nat}{c:By}(hi:l[i]?=some c):ld (eH x i) H=some (Y c,H):=by
 rw [h.is.ld (by have:=(zae.1 hi).1;omega),zaH,hi];rfl
def ajo(s:S16):(s <<< 1) ^^^ ((s >>> 15)*4129#16)=shS s:=by
 unfold shS
 congr 1
 have d:=s.isLt;have b:s >>> 15=if s.msb then 1#16 else 0#16:=by
  apply BitVec.eq_of_toNat_eq
  rw [BitVec.toNat_ushiftRight,zcE,BitVec.msb_eq_decide];by_cases h:2 ^ (16-1)<=s.toNat
  ·simp only [h,decide_true,if_true];show s.toNat / 2 ^ 15=1;omega
  ·simp only [h,decide_false,zai,if_false];show s.toNat / 2 ^ 15=0;omega
 rw [b];cases s.msb <;> simp
def ahO {x:AV}{n i:Int}(H:ah):∀(k j:Nat),j+k=8->∀s:S16,FV cl0 [U16 s,x,I n,I i,I j] H=BI cl0 [U16 (shN k s),x,I n,I (IntKind.wrap .i64 (i+1))] H
 |0,j,d,s=>by
  have b:¬((j:Int)<8):=V
  rw [Wv];simp only [xq_,b,cZ];rfl
 |k+1,j,d,s=>by
  have b:(j:Int)<8:=V
  have e:(j:Int)+1=((j+1:Nat):Int):=V
  have g:=wrap_i64 (a:=((j+1:Nat):Int)) V V;have h:bi .shr 50 (U16 s) (.s (.int .u64 15))=some (U16 (s >>> 15)):=aiO (k:=.u16) s 15 Z Z;have m:bi .shl 50 (U16 s) (.s (.int .u64 1))=some (U16 (s <<< 1)):=aar (k:=.u16) rfl s 1 Z Z;have o:bi .mul 50 (U16 (s >>> 15)) (.s (.int .u16 4129))=some (U16 ((s >>> 15)*4129#16)):=aqS (k:=.u16) rfl (s >>> 15) 4129#16;have p:bi .xor 50 (U16 (s <<< 1)) (U16 ((s >>> 15)*4129#16))=some (U16 (shS s)):=by rw [<-ajo];exact aiN (k:=.u16) rfl _ _
  have q:=ahO (x:=x) (n:=n) (i:=i) H k (j+1) V (shS s);rw [Wv];simp only [xq_,b,h,m,o,p,cZ,e,g,q];rfl
def auk {H:ah}{x:AV}{l:List By}(b:dL H x l):cl0 177 [x] H=some (U16 (vV 0xffff#16 l),H):=by
 have key:∀(k i:Nat),i+k=l.length->∀s:S16,BI cl0 [U16 s,x,I l.length,I i] H=some (U16 (vV s (l.drop i)),H):=by
  intro k
  induction k with
  |zero=>
   intro i hi s;have d:¬((i:Int)<l.length):=V
   rw [Wu,zaV V];simp only [xq_,d];rfl
  |succ k j=>
   intro i hi s;have d:(i:Int)<l.length:=V
   have m:(i:Int)+1=((i+1:Nat):Int):=V
   have o:=wrap_i64 (a:=((i+1:Nat):Int)) (by have:=b.small;omega) (by have:=b.small;omega);obtain⟨c,hc⟩:∃c,l[i]?=some c:=⟨_,zab V⟩
   have p:=b.ix (i:=i) V;have q:=b.ld hc;have u:cv 5 50 (Y c) H=some (U16 (c.setWidth 16),H):=
    (aiC (k:=.u8) (n:=(c.toNat:Int)) (H:=H)).trans (congrArg (λv=>some (v,H)) (al2 (k:=.u8) (k':=.u16) rfl c))
   have w:bi .shl 50 (U16 (c.setWidth 16)) (.s (.int .u64 8))=some (U16 (c.setWidth 16 <<< 8)):=aar (k:=.u16) rfl (c.setWidth 16) 8 Z Z;have y:bi .xor 50 (U16 s) (U16 (c.setWidth 16 <<< 8))=some (U16 (s ^^^ (c.setWidth 16 <<< 8))):=aiN (k:=.u16) rfl _ _;have e:=ahO (x:=x) (n:=(l.length:Int)) (i:=(i:Int)) H 8 0 rfl (s ^^^ (c.setWidth 16 <<< 8));rw [m,o] at e;have hd:l.drop i=c::l.drop (i+1):=by
    rw [zbu V];rw [zab V] at hc;rw [zaX hc]
   have g:=j (i+1) V (Y5 s c);have z:vV s (c::l.drop (i+1))=vV (Y5 s c) (l.drop (i+1)):=rfl;rw [Wu,hd,z,<-g];have A:((0:Nat):Int)=0:=rfl;rw [A] at e;simp only [xq_,d,p,q,u,w,y,e];rfl
 refine iQ (aoA _ _ _ ?_);have C:=b.is.lnS;have h:=key l.length 0 V 0xffff#16;rw [zaS] at h;simp only [xq_,ahG,C];exact h
def WG {e:Nat}{z a c:AV}{H:ah}(ha:One a)(hc:One c):bsl e 1 [z] 2 [(0,a),(1,c)] H=some (.sl H.next 0 0 1 2 2 true,H.new (.blk 0 e [a,c])):=by
 have b:dN [z] 2=[z,z]:=rfl;unfold bsl;rw [b,Il (off:=0) rfl ha.1 O,Il (off:=1) rfl hc.1 O,eu];simp only [zb9,zca];simp only [zcK,ha.2,hc.2,zdA,zcj,if_true]
def abu {e by_ r ty len cap n:Nat}{ex:Bool}{y:AV}{cells new:List AV}{H:ah}(j:H.get r=.blk 0 ty cells)(hb:H.base<=r)(k:aN H y 1 n new)(hc:new.all AV.aP=true)(d:len+n<=cap)(q:len+n<=cells.length):
  app e 1 by_ (.sl r 0 0 1 len cap ex) y H=some (.sl r 0 0 1 (len+n) cap ex,H.put r (.blk 0 ty (aO cells len new))):=by
 obtain⟨o,p⟩:=k.zf;simp only [app,o,p];unfold dZ;rw [if_pos ⟨k.1,hc⟩];simp only [j];rw [if_pos ⟨trivial,trivial,V⟩];by_cases m:n=0
 ·subst m;have i:new=[]:=zat (by have:=k.1;omega);subst i;rw [if_pos rfl];have:aO cells len []=cells:=by simp [aO]
  rw [this,zbr];have:H.put r (.blk 0 ty cells)=H:=by
   unfold ah.put;cases H with
   |mk n b g=>
    simp only at j ⊢
    congr 1
    funext x
    split
    ·rename_i h;rw [h,j]
    ·rfl
  rw [this]
 ·rw [if_neg m,if_pos d,if_pos ⟨hb,V⟩];simp
def asw(H:ah)(n:Nat)(h0:0<n)(k:n<10000):cl0 191 [zN,I n] H=some (.sl H.next 0 0 1 0 n false,H.new (.blk 0 (5+iC) (dN [.s (.int .u8 0)] n))):=by
 refine iQ (aoR _ _ _ _ ?_);have d:¬((n:Int)<0):=V
 have e:afJ Tryz.prog 172 zN=some (I 0):=J
 have w0:IntKind.wrap .i64 ((0:Int)-0)=0:=rfl;have w1:IntKind.wrap .i64 ((n:Int)-0)=n:=by rw [Int.sub_zero];exact wrap_i64 V V
 have g0:(0:Int)<n:=V
 have g:slS 1 zN none (some (I 0)) none=some zN:=J
 have h:apz 5 1 1 [.s (.int .u8 0)] zN (I n) H=some (.sl H.next 0 0 1 n n false,H.new (.blk 0 (5+iC) (dN [.s (.int .u8 0)] n))):=by
  show(if 0<=(n:Int)/\(n:Int)<=most/\(n:Int)*1<=most then dZ 5 1 1 zN (n:Int).toNat (dN [.s (.int .u8 0)] (n:Int).toNat) H else none)=_;have hm:(n:Int)<=most:=by unfold most;omega
  rw [if_pos ⟨V,hm,V⟩,zar];unfold dZ;have i:(dN [AV.s (.int .u8 0)] n).length=n*1:=by rw [lF];simp
  rw [if_pos ⟨i,yx rfl n⟩];simp only;rw [if_neg V,if_pos ⟨by unfold most;omega,by unfold most;omega⟩]
 have j:slS 1 (.sl H.next 0 0 1 n n false) none (some (I 0)) none=some (.sl H.next 0 0 1 0 n false):=VP V V;have b:∀H,lnS zN H=some (I 0,H):=λ_=>rfl;simp only [xq_,ahN,OG,OE,d,e,b,kH,w0,w1,g0,g,h,j]
def ajp {c:By}:One (Y c):=⟨rfl,rfl⟩
def abv {H:ah}{x:AV}{l:List By}(h:dL H x l):One x:=by
 obtain⟨_,b⟩:=h.is;cases x with
 |sl r g off d len e ex=>exact uD
 |vs n m l=>exact agn
 |s v=>cases v <;> first|exact b.elim|exact⟨rfl,rfl⟩
 |_=>exact b.elim
def aul {H:ah}(hb:H.base<=H.next){a x y:AV}{l m:List By}(ha:aN H a 1 2 [x,y])(hx:dL H x l)(hy:dL H y m)(hm:0<m.length):
  cl0 178 [a] H=some (.sl H.next 0 0 1 (l.length+m.length) (l.length+m.length) false,H.new (.blk 0 (5+iC) ((l++m).map Y))):=by
 have sl:=hx.small;have sm:=hy.small;refine iQ (aoB _ _ _ ?_);have ln:=ha.lnS;have i0:=ha.ix (k:=.i64) (i:=0) (by decide) (by decide);have i1:=ha.ix (k:=.i64) (i:=1) (by decide) (by decide);have d0:ld (eH a 0) H=some (x,H):=ha.ld (by decide);have d1:ld (eH a 1) H=some (y,H):=ha.ld (by decide);have lx:=hx.is.lnS;have ly:=hy.is.lnS;let Z:ah->List AV->ah:=λH l=>H.new (.blk 0 (5+iC) l)
 obtain⟨n,hn⟩:∃n,n=l.length+m.length:=⟨_,rfl⟩
 have gr:=asw H n (by omega) (by omega);have K:∀cs,Gro H (H.new (.blk 0 (5+iC) cs)):=λcs=>Gro.new H 0 _ cs;have hz:(dN [AV.s (.int .u8 0)] n).length=n:=by rw [lF];simp
 -- behind the first
 let c1:=aO (dN [AV.s (.int .u8 0)] n) 0 (l.map Y);have a1:=abu (e:=5) (by_:=1) (r:=H.next) (ex:=false) (cap:=n) (H:=H.new (.blk 0 (5+iC) (dN [.s (.int .u8 0)] n))) (aZ rfl) (by rw [jB];exact hb) (hx.gro (K _)).is (ad7 l) (len:=0) (by omega) (by omega);rw [Ik,za6] at a1;have hc1:c1.length=n:=by simp only [c1,aO,zaq,zau,zaR,zaE,hz];omega
 have a2:=abu (e:=5) (by_:=1) (r:=H.next) (ex:=false) (cap:=n) (H:=H.new (.blk 0 (5+iC) c1)) (aZ rfl) (by rw [jB];exact hb) (hy.gro (K _)).is (ad7 m) (len:=l.length) (by omega) (by omega);rw [Ik] at a2;have hc2:aO c1 l.length (m.map Y)=(l++m).map Y:=by
  simp only [c1,aO,zdG,zaM,za6,zaE];rw [zbW (by simp),zaw (by simp),zdq,zaV (by simp),zbL];rw [zaV (by simp only [hz,zaE];omega)];simp
 rw [hc2] at a2;have ga:=λcs=>(ha.iZ (K cs).next λr _ hr=>(K cs).same r hr)
 have li:=λcs=>(ga cs).lnS;have j0:=λcs=>(ga cs).ix (k:=.i64) (i:=0) (by decide) (by decide);have j1:=λcs=>(ga cs).ix (k:=.i64) (i:=1) (by decide) (by decide);have e0:∀cs,ld (eH a 0) (H.new (.blk 0 (5+iC) cs))=some (x,H.new (.blk 0 (5+iC) cs)):=λcs=>(ga cs).ld (by decide);have e1:∀cs,ld (eH a 1) (H.new (.blk 0 (5+iC) cs))=some (y,H.new (.blk 0 (5+iC) cs)):=λcs=>(ga cs).ld (by decide);have t0:((0:Int).toNat)=0:=rfl;have t1:((1:Int).toNat)=1:=rfl;rw [t0] at i0;rw [t1] at i1;have j0:∀cs,ix 1 a (I 0) (H.new (.blk 0 (5+iC) cs))=some (eH a 0,H.new (.blk 0 (5+iC) cs)):=j0;have j1:∀cs,ix 1 a (I 1) (H.new (.blk 0 (5+iC) cs))=some (eH a 1,H.new (.blk 0 (5+iC) cs)):=j1;have w1:IntKind.wrap .i64 ((0:Int)+l.length)=l.length:=by rw [Int.zero_add];exact wrap_i64 (by omega) (by omega)
 have w2:IntKind.wrap .i64 ((l.length:Int)+m.length)=n:=by rw [hn];have:=wrap_i64 (a:=((l.length+m.length:Nat):Int)) (by omega) (by omega);rwa [Int.natCast_add] at this ⊢
 have p1:IntKind.wrap .i64 (1:Int)=1:=rfl;have p2:IntKind.wrap .i64 (2:Int)=2:=rfl;have q1:¬((l.length:Int)<0):=by omega
 have q2:¬((n:Int)<0):=by omega
 have z2:((2:Nat):Int)=2:=rfl;rw [z2] at ln;have li:∀cs,lnS a (H.new (.blk 0 (5+iC) cs))=some (I 2,H.new (.blk 0 (5+iC) cs)):=li;rw [<-hn] at a2 ⊢;simp only [c1] at a2;simp only [xq_,ahH,ln];rw [OC];simp only [Int.reduceLT,Int.reduceAdd,xq_,FW,i0,d0,lx,cZ,w1,q1,p1];rw [OC];simp only [Int.reduceLT,Int.reduceAdd,xq_,FW,i1,d1,ly,cZ,w2,q2,p2];rw [OC];simp only [Int.reduceLT,xq_,gr,li];rw [OD];simp only [Int.reduceLT,Int.reduceAdd,xq_,j0,e0,a1,cZ,p1];rw [OD];simp only [Int.reduceLT,Int.reduceAdd,xq_,j1,e1,a2,cZ,p2];rw [OD];simp only [Int.reduceLT,xq_]
def dL.made {H:ah}{l:List By}{ty:TypeId}{ex:Bool}(h:l.length<1000):dL (H.new (.blk 0 ty (l.map Y))) (.sl H.next 0 0 1 l.length l.length ex) l:=
 ⟨kN O,h⟩
def ajq {H:ah}(hb:H.base<=H.next){x:AV}{l:List By}(hx:dL H x l)(hl:l.length<900):
  ∃y H',cl0 141 [x] H=some (y,H')/\Gro H H'/\dL H' y (jT l)/\H'.base<=H'.next:=by
 obtain⟨s,hs⟩:∃s,vV 0xffff#16 l=s:=⟨_,rfl⟩
 have e1:=auk hx;rw [hs] at e1;have e2:bi .shr 50 (U16 s) (.s (.int .u64 8))=some (U16 (s >>> 8)):=aiO (k:=.u16) s 8 (by decide) (by decide);have e3:∀H,cv 50 5 (U16 (s >>> 8)) H=some (Y (Y6 s),H):=λH=>
  (ZT (k:=.u16) (n:=((s >>> 8).toNat:Int)) (H:=H)).trans (congrArg (λv=>some (v,H)) (al2 (k:=.u16) (k':=.u8) rfl (s >>> 8)))
 have e4:∀H,cv 50 5 (U16 s) H=some (Y (Y7 s),H):=λH=>
  (ZT (k:=.u16) (n:=(s.toNat:Int)) (H:=H)).trans (congrArg (λv=>some (v,H)) (al2 (k:=.u16) (k':=.u8) rfl s))
 let H1:=H.new (.blk 0 5 [Y (Y6 s),Y (Y7 s)]);let y1:AV:=.sl H.next 0 0 1 2 2 true
 let H2:=H1.new (.blk 0 172 [x,y1]);have g1:Gro H H1:=Gro.new H 0 _ _;have g2:Gro H1 H2:=Gro.new H1 0 _ _;have by1:dL H1 y1 [Y6 s,Y7 s]:=dL.made (l:=[Y6 s,Y7 s]) (by simp);have ha:aN H2 (.sl H1.next 0 0 1 2 2 true) 1 2 [x,y1]:=kN rfl;have hb2:H2.base<=H2.next:=by simp only [H2,H1,jB,eX];omega
 have ec:=aul hb2 ha (hx.gro (g1.trans g2)) (by1.gro g2) (by simp);have hse:jT l=l++[Y6 s,Y7 s]:=by unfold jT;rw [hs]
 have hlen:(jT l).length=l.length+2:=by rw [hse];simp
 have bm:=dL.made (H:=H2) (l:=jT l) (ty:=5+iC) (ex:=false) (by omega);rw [hlen] at bm;have l2:([Y6 s,Y7 s]:List By).length=2:=rfl;rw [<-hse,l2] at ec;refine⟨_,_,iQ (anZ _ _ _ (r:=(.sl H2.next 0 0 1 (l.length+2) (l.length+2) false,H2.new (.blk 0 (5+iC) ((jT l).map Y)))) ?_),(g1.trans g2).trans (Gro.new H2 0 _ _),bm,by rw [jB,eX];omega⟩;have b1:bs 172 2 [(0,Y (Y6 s)),(1,Y (Y7 s))] H=some (y1,H1):=(VL (by decide)).trans (WG ajp ajp);have b2:bs 286 2 [(0,x),(1,y1)] H1=some (.sl H1.next 0 0 1 2 2 true,H2):=(ald (by decide)).trans (WG (abv hx) uD);simp only [xq_,ahj,e1,e2,e3,e4,b1,b2,ec]
def ED:∀(d:List Int) (b:ByteArray),(d.foldl (λs n=>s.push (UInt8.ofNat n.toNat)) b).data.toList=b.data.toList++d.map λn=>UInt8.ofNat n.toNat
 |[],b=>by simp
 |n::d,b=>by
  rw [zbT,ED d];simp [ByteArray.push]
def abw {l m:List By}(h:PZ (l.map λc=>(c.toNat:Int))=PZ (m.map λc=>(c.toNat:Int))):l=m:=by
 have h1:=congrArg (λb:ByteArray=>b.data.toList) h;unfold PZ at h1;simp only [ED,zc2] at h1;have h2:l.map (λc:By=>UInt8.ofBitVec c)=m.map (λc:By=>UInt8.ofBitVec c):=by
  have key:∀l:List By,l.map ((λn:Int=>UInt8.ofNat n.toNat) ∘ λc:By=>(c.toNat:Int))=l.map (λc:By=>UInt8.ofBitVec c):=λl=>zbt λc _=>by
   simp only [Function.comp,zar]
   apply UInt8.toBitVec_inj.1
   simp
  rw [<-key,<-key]
  simpa using h1
 exact(List.map_inj_right λa b h=>by simpa using h).1 h2
def Dz:∀l:List By,pR (l.map Y)=some (l.map λc=>(c.toNat:Int))
 |[]=>rfl
 |c::l=>by
  show(match pR (l.map Y) with|some b=>some ((c.toNat:Int)::b)|none=>none)=_;rw [Dz l];rfl
def aoS {H:ah}{x:AV}{l:List By}(i:dL H x l):cv 172 9 x H=some (.s (.string (PZ (l.map λc=>(c.toNat:Int)))),H):=by
 have e:Gt Tryz.prog 172 9=true:=J
 obtain⟨q,d⟩:=i.is;show kS (Ar Tryz.prog 172 9 x) x H=_;unfold kS Ar;rw [if_pos e];cases x with
 |sl r g off j len k ex=>
  obtain⟨rfl,rfl,_,u,all,o,h,p⟩:=d;simp only [bT,zak,akz,if_true,o];rw [if_pos ⟨trivial,h⟩,<-p,Dz];rfl
 |vs n m cs=>
  obtain⟨rfl,rfl,rfl⟩:=d;simp only [akz,if_true,Dz];rfl
 |s v=>
  cases v with
  |slice a b c=>
   cases a with
   |none=>
    obtain⟨rfl,rfl,h⟩:=(show b=0/\c=0/\l.length=0 from d)
    have:l=[]:=zat h;subst this;rfl
   |some a=>exact d.elim
  |_=>exact d.elim
 |_=>exact d.elim
def abx {H:ah}{x y:AV}{l m:List By}(d:dL H x l)(g:dL H y m):cl0 145 [x,y] H=some (B (decide (l=m)),H):=by
 refine iQ (an3 _ _ _ _ ?_);have i:=aoS d;have j:=aoS g;have k:∀a c:ByteArray,bi .eql 9 (.s (.string a)) (.s (.string c))=some (B (decide (a=c))):=λa c=>by
  show qH _ _ _ _ _=_;rcases a with⟨a⟩
  rcases c with⟨c⟩
  by_cases h:a=c
  ·simp [qH,AV.val?,eqGuard,binOp,Op.stringOp,dR,h]
  ·have b:¬a.toList=c.toList:=λe=>h (zcn.1 e);rw [<-ByteArray.toList_eq ⟨a⟩,<-ByteArray.toList_eq ⟨c⟩] at b;simp [qH,AV.val?,eqGuard,binOp,Op.stringOp,dR,h,b]
 have o:decide (PZ (l.map λc=>(c.toNat:Int))=PZ (m.map λc=>(c.toNat:Int)))=decide (l=m):=by
  by_cases h:l=m
  ·rw [h];simp
  ·rw [decide_eq_false h,decide_eq_false λe=>h (abw e)]
 simp only [xq_,ahn,i,j,k,o]
def dL.to_ {H:ah}{x:AV}{l:List By}(h:dL H x l){n:Nat}(j:n<=l.length):∃y,slS 1 x none (some (I n)) none=some y/\dL H y (l.take n):=by
 obtain⟨⟨z,d⟩,hs⟩:=h;have e:(l.take n).length=n:=by rw [zau];omega
 have small:(l.take n).length<1000:=V
 cases x with
 |sl r g off i len m ex=>
  obtain⟨rfl,rfl,⟨o,hc⟩,p,all,q,k,u⟩:=d;refine⟨_,VP V V,⟨⟨O,rfl,by rw [e,zar],⟨o,by rw [zar];omega⟩,p,all,q,by rw [e];omega,?_⟩,small⟩⟩;rw [zcJ,u,zbZ,e]
  congr 1
  omega
 |vs k' i cs=>
  obtain⟨rfl,rfl,rfl⟩:=d;refine⟨.vs n 1 ((l.take n).map Y),?_,⟨O,rfl,by rw [e],rfl⟩,small⟩;have w:(0:Int)<=n:=V
  simp only [slS,ji,w,if_true,zar];rw [if_pos ⟨trivial,V,j⟩];simp
 |s v=>
  cases v with
  |slice a b c=>
   cases a with
   |none=>
    obtain⟨rfl,rfl,k⟩:=(show b=0/\c=0/\l.length=0 from d)
    have:l=[]:=zat k;subst this;have:n=0:=by simpa using j
    subst this;exact⟨zN,J,⟨rfl,rfl,rfl,rfl⟩,Z⟩
   |some a=>exact d.elim
  |_=>exact d.elim
 |_=>exact d.elim
def aby {H:ah}{x:AV}{l:List By}(d:dL H x l)(k:l≠[]):cl0 146 [x] H=some (.sl (H.next+1) 0 0 1 l.length l.length false,(H.new (.blk 0 5 [])).new (.blk 0 (5+iC) (l.map Y))):=by
 have i:l.length≠0:=λe=>k (zat e);have j:=xG (e:=5) (by_:=1) (r:=H.next) (H:=H.new (.blk 0 5 [])) rE (d.gro (Gro.new H 0 _ _)).is (ad7 l) i (by have:=d.small;unfold most;omega) (by have:=d.small;unfold most;omega);simp only [eX] at j;have o:bi .eql 172 x zN=some (B false):=by
  obtain⟨_,h⟩:=d.is;cases x with
  |sl r g off p len q ex=>exact KQ Tryz.underlying172
  |vs n m l=>exact yw Tryz.underlying172
  |s v=>
   cases v with
   |slice a b c=>
    cases a with
    |none=>exact absurd h.2.2 i
    |some a=>exact h.elim
   |_=>exact h.elim
  |_=>exact h.elim
 refine iQ (an4 _ _ _ ?_);simp only [xq_,aho,o,VL,Io,j,zbD,zaY]
def aeu {H:ah}(hb:H.base<=H.next){x:AV}{l:List By}(d:dL H x l)(v:l.length<900)(o:∀m,l≠jT m):
  ∃H',cl0 142 [x] H=some (.tup [zN,B false],H')/\Gro H H':=by
 have i:=d.is.lnS;have w1:=wrap_i64 (a:=(l.length:Int)-2) V V;by_cases g:(l.length:Int)-2<0
 ·refine⟨H,iQ (aa1 _ _ _ ?_),Gro.refl H⟩;simp only [xq_,Wi,i,kH,w1,g]
 ·obtain⟨n,b⟩:∃n:Nat,(l.length:Int)-2=n:=⟨l.length-2,V⟩
  rw [b] at w1 g;obtain⟨y,p,h⟩:=d.to_ (n:=n) V;obtain⟨z,H1,q,j,u,_⟩:=ajq hb h (by rw [zau];omega);have k:=abx u (d.gro j);rw [decide_eq_false λe=>o _ e.symm] at k;refine⟨H1,iQ (aa1 _ _ _ ?_),j⟩;simp only [xq_,Wi,i,kH,b,w1,g,p,q,k,zam]
def ajr {H:ah}(hb:H.base<=H.next){x:AV}{m:List By}(e:dL H x (jT m))(w:m.length<800)(h0:m≠[]):
  ∃y H',cl0 142 [x] H=some (.tup [y,B true],H')/\Gro H H'/\dL H' y m/\(∃r,y=.sl r 0 0 1 m.length m.length false):=by
 have h:(jT m).length=m.length+2:=by unfold jT;simp
 have b:(jT m).take m.length=m:=by unfold jT;simp
 have k:=e.is.lnS;have w0:(((jT m).length:Nat):Int)-2=(m.length:Int):=V
 have w1:=wrap_i64 (a:=(m.length:Int)) V V;have o:¬((m.length:Int)<0):=V
 obtain⟨y,p,d⟩:=e.to_ (n:=m.length) V;rw [b] at d;obtain⟨z,H1,q,g,u,_⟩:=ajq hb d V;have i:=abx u (e.gro g);rw [decide_eq_true rfl] at i;have v:=aby (d.gro g) h0;have gg:Gro H1 ((H1.new (.blk 0 5 [])).new (.blk 0 (5+iC) (m.map Y))):=(Gro.new H1 0 _ _).trans (Gro.new _ 0 _ _);have j:=dL.made (H:=H1.new (.blk 0 5 [])) (l:=m) (ty:=5+iC) (ex:=false) V;rw [eX] at j;refine⟨_,_,iQ (aa1 _ _ _ (r:=(.tup [.sl (H1.next+1) 0 0 1 m.length m.length false,B true],(H1.new (.blk 0 5 [])).new (.blk 0 (5+iC) (m.map Y)))) ?_),g.trans gg,j,_,rfl⟩;simp only [xq_,Wi,k,kH,w0,w1,o,p,q,i,v,zaf]
def bW.left(m:bW):Int:=(m.aB.map λn=>n.bQ.left).sum
def bW.busy(m:bW)(i:Nat):Bool:=match m.aB[i]? with
 |some n=>!decide (n.aI.step=0) || n.bQ.eG || decide (0<m.fab.waiting i true+m.fab.waiting i false)
 |none=>false
def bW.quiet(m:bW):Bool:=(List.range m.aB.length).all (λi=>!m.busy i) && decide (m.fab.under=0)
def tally(x:bW × Int)(p:Pck):bW × Int:=((x.1.do_ p).1,if(x.1.do_ p).2=true then x.2+1 else x.2)
def kR(k n:Int):Nat->Nat->bW × Int->bW × Int
 |0,_,x=>x
 |j+1,i,x=>kR k n j (i+1) (tally x ⟨false,(k+i).tmod n,0,0⟩)
def oK:Nat->bW × Int->bW × Int
 |0,x=>x
 |i+1,x=>oK i (tally x ⟨true,i,0,0⟩)
def nD(n first:Int):Int:=(first.tmod n+n).tmod n
def bW.round(m:bW)(first:Int):bW × Int:=
 let a:=kR (nD m.c.aB first) m.c.aB m.c.aB.toNat 0 (m,0)
 oK a.1.fab.under a
def bW.over(m:bW):Bool:=m.quiet && decide (m.left=0)
def iy(firsts:List Int)(most:Int):Nat->Nat->bW->bW × Int
 |0,n,m=>(m,n)
 |k+1,n,m=>if(n:Int)<most/\m.over=false then iy firsts most k (n+1) (m.round (firsts.getD n 0)).1 else(m,n)
abbrev qE:bD:=λ_=>none
def cup(n:Nat)(g g':bD):bD:=λq=>if q<n then g q else g' q
structure Made(H H':ah)(g':bD):Prop where
 next:H.next<=H'.next
 base:H'.base=H.base
 same:∀r,r<H.next->H'.get r=H.get r
 good:Good H.next H' g'
section
variable {b:Nat}{H H' H'':ah}{g g':bD}{q:Nat}{cs:List Cell}
def Good.merge(G:Good b H g)(M:Made H H' g'):Good b H' (cup H.next g g'):=by
 obtain⟨h0,τ,X⟩:=G;obtain⟨k0,d,k1⟩:=M.good;have n1:=M.next
 refine⟨V,λr=>if r<H.next then τ r else d r,λq cs p=>?_⟩;unfold cup at p;split at p
 ·rename_i Q;exact(X q cs p).keep n1 λr i s t W ht=>⟨by rw [if_pos W];exact ht,M.same r W⟩
 ·rename_i Q;have R:=k1 q cs p
  -- all its blocks are new
  have key:∀{T:Tag} {x:AV} {m:Nat} {cells:List AV},OS H.next H' d T x m cells->OS b H' (λr=>if r<H.next then τ r else d r) T x m cells:=by
   intro T x m cells u;rcases u with u|⟨r,gg,off,n,v,ex,w,all,e,y,t2,z,A⟩
   ·exact .inl u
   ·exact .inr ⟨r,gg,off,n,v,ex,w,all,e,by simp only;rw [if_neg V];exact y,V,z,A⟩
  have h:∀{T:Tag} {x:AV} {k:IntKind} {C:List (Int × AV)},OM H.next H' d T x k C->OM b H' (λr=>if r<H.next then τ r else d r) T x k C:=by
   intro T x k C ⟨r,e,y,t2,z,A⟩;exact⟨r,e,by simp only;rw [if_neg V];exact y,V,z,A⟩
  obtain⟨w,xs,b1,b2,b3,b4⟩:=R.blk;have lo:=R.lo;refine⟨by rw [if_neg Q];exact R.tag,V,R.hi,R.tyl,w,xs,b1,b2,b3,λi c x hc o=>?_⟩;have:=b4 i c x hc o;cases c with
  |av _=>exact this
  |seq _ _=>exact key this
  |map _ _=>exact h this
  |maps _ _ _=>
   obtain⟨D,E,F,K⟩:=this;exact⟨D,h E,F,λj n cells x L o=>key (K j n cells x L o)⟩
  |alI _ _ _=>
   obtain⟨ys,E,F,K⟩:=this;exact⟨ys,key E,F,λj cells x L o=>key (K j cells x L o)⟩
def Good.aoT(G:Good b H g)(d:H.next<=q):cup H.next g (upd qE q cs)=upd g q cs:=by
 funext x
 unfold cup upd;split
 ·rw [if_neg V]
 ·split
  ·rfl
  ·exact(G.isNone V).symm
def Made.lt(M:Made H H' g')(h:g' q=some cs):H.next<=q/\q<H'.next:=⟨M.good.le h,M.good.lt h⟩
def Made.refl(h:H.base<=H.next):Made H H qE:=⟨zac _,rfl,λ_ _=>rfl,Good.empty H⟩
def Made.trans(M:Made H H' g)(b:Made H' H'' g'):Made H H'' (cup H'.next g g'):=
 ⟨zaz M.next b.next,b.base.trans M.base,λr d=>by rw [b.same r (zay d M.next),M.same r d],M.good.merge b⟩
def Made.new(M:Made H H' g)(o:gu):Made H (H'.new o) g:=
 ⟨by rw [eX];have:=M.next;omega,by rw [jB];exact M.base,λr b=>by rw [bJ (zay b M.next),M.same r b],M.good.new o⟩
def Made.zy {o:gu}(M:Made (H.new o) H' g):Made H H' g:=
 ⟨by have:=M.next;rw [eX] at this;omega,by rw [M.base,jB],λr b=>by rw [M.same r (by rw [eX];omega),bJ b],M.good.weak (by rw [eX];omega)⟩
def Made.aev(M:Made H.guard H' g):Made H { H' with base:=H.base } g:=
 ⟨M.next,rfl,M.same,M.good.ext (zac _) λ_ _=>rfl⟩
def Made.step(M:Made H H' g)(G:Good H.next H'' g')(s:Step H.next H' H''):Made H H'' g':=
 ⟨zaz M.next s.next,s.base.trans M.base,λr b=>by rw [s.low r b,M.same r b],G⟩
def Made.as(M:Made H H' g)(h:g'=g):Made H H' g':=h ▸ M
def lH {ty:TypeId}{xs:List AV}{cs:List Cell}(hc:xs.all AV.aP=true)(g:xs.length=cs.length)(h:∀(i:Nat) (c:Cell) (x:AV),cs[i]?=some c->xs[i]?=some x->c=.av x∨(x=zN/\∃m,c=.seq m []))(j:ty<iC:=by decide):
  Made H (H.new (.blk 0 ty xs)) (upd qE H.next cs):=by
 refine⟨za8 _,rfl,λr k=>bJ k,by rw [eX];omega,λr=>if r=H.next then some (r,0,0,0) else none,λq o b=>?_⟩;unfold upd at b;split at b
 ·rename_i e;subst e;cases b;refine⟨O,zac _,by rw [eX];omega,wM (xs:=xs) (by simp [jA]) j,ty,xs,by simp [jA],g,hc,λi c x d p=>?_⟩;rcases h i c x d p with rfl|⟨rfl,m,rfl⟩
  ·exact rfl
  ·exact .inl ⟨rfl,rfl⟩
 ·cases b
def Rf {n:Nat}{ty:TypeId}{xs:List AV}{cs:List Cell}(hn:H.next<=n)(hm:H'.next=n)(hb:H'.base=H.base)(hs:∀r,r<H.next->H'.get r=H.get r)(hc:xs.all AV.aP=true)(hl:xs.length=cs.length)(own:Nat->Option Nat)
  (h:∀(i:Nat) (c:Cell) (x:AV),cs[i]?=some c->xs[i]?=some x->c=.av x∨(x=zN/\∃m,c=.seq m [])∨∃r k,x=.mp r/\H.next<=r/\r<n/\own r=some i/\H'.get r=.map k []/\(c=.map k []∨∃m,c=.maps k m [])) (ht:ty<iC:=by decide):
  Made H (H'.new (.blk 0 ty xs)) (upd qE n cs):=by
 refine⟨by rw [eX];omega,hb,λr hr=>by rw [bJ V,hs r hr],by rw [eX];omega,λr=>if r=n then some (r,0,0,0) else match own r with
  |some i=>some (n,i+1,0,0)
  |none=>none,λq cs' hq=>?_⟩
 unfold upd at hq;split at hq
 ·rename_i e;subst e;cases hq;refine⟨O,hn,by rw [eX];omega,wM (xs:=xs) (by rw [aZ hm.symm]) ht,ty,xs,by rw [aZ hm.symm],hl,hc,λi c x hci hx=>?_⟩;have om:∀r k,H.next<=r->r<q->own r=some i->H'.get r=.map k []->OM H.next (H'.new (.blk 0 ty xs)) (λr=>if r=q then some (r,0,0,0) else match own r with
    |some i=>some (q,i+1,0,0)
    |none=>none) (q,i+1,0,0) (.mp r) k []:=λr k h1 h2 h3 h4=>⟨r,rfl,by simp only;rw [if_neg V,h3],h1,by rw [eX];omega,by rw [bJ V];exact h4⟩
  rcases h i c x hci hx with rfl|⟨rfl,m,rfl⟩|⟨r,k,rfl,h1,h2,h3,h4,rfl|⟨m,rfl⟩⟩
  ·exact rfl
  ·exact .inl ⟨rfl,rfl⟩
  ·exact om r k h1 h2 h3 h4
  ·exact⟨[],om r k h1 h2 h3 h4,rfl,λj n cells x hj=>by simp at hj⟩
 ·cases hq
end
def dG(c:Cache):List Cell:=[.seq 6 (c.l.flatMap Ent.av),.av (I c.sets),.av (I c.ways),.av (I c.dh)]
def rY(p:Proc):List Cell:=[.av (vsl 3 Opn.av p.ops),.seq 1 (p.bH.map I),.av (B p.eG)]
def oC(l:List Evn):List Cell:=[.seq 4 (l.flatMap Evn.av)]
def iR(t:Turns):List Cell:=[.map .i64 (Z8 (λn=>I n) t.gG),.maps .i64 2 (t.wait.map λe=>(e.1,e.2.flatMap λw=>[I w.1,I w.2]))]
def EP(c:Cfg)(dJ:Rows):List Cell:=c.av.map .av++[.map .i64 (Z8 (λr=>.agg r.av) dJ)]
section
variable {H:ah}
def abz(H:ah)(room:Int)(h:0<=room):∃H' q,cl 38 [I room] H=some (.ref q 0 0,H')/\Made H H' (upd qE q (oz [] room)):=by
 refine⟨_,H.next,bC rfl rfl (arj _ _ _ (r:=(_,H.new (.blk 0 138 [zN,I room]))) ?_),lH rfl rfl λi c x hc b=>?_⟩
 ·have e:max (0:Int) room=room:=V
  simp only [Nat.reduceLT,Nat.reduceAdd,aO,xq_,hq_,amq,Nk,e,alq,jf,fK,af2,aG]
 ·match i with
  |0=>right;cases hc;cases b;exact⟨rfl,9,rfl⟩
  |1=>left;cases hc;cases b;rfl
  |i+2=>cases hc
def WH(H:ah)(room:Int)(h:0<=room):∃H' q,cl 39 [I room] H=some (.ref q 0 0,H')/\Made H H' (upd qE q (oz [] room)):=by
 refine⟨_,H.next,bC rfl rfl (ark _ _ _ (r:=(_,H.new (.blk 0 140 [zN,I room]))) ?_),lH rfl rfl λi c x hc b=>?_⟩
 ·have e:max (0:Int) room=room:=V
  simp only [Nat.reduceLT,Nat.reduceAdd,aO,xq_,hq_,amr,Nk,e,alr,jf,fK,af4,aG]
 ·match i with
  |0=>right;cases hc;cases b;exact⟨rfl,9,rfl⟩
  |1=>left;cases hc;cases b;rfl
  |i+2=>cases hc
def aew(H:ah)(sets ways:Int)(h:1<=sets)(g:1<=ways):∃H' q,cl 40 [I sets,I ways] H=some (.ref q 0 0,H')/\Made H H' (upd qE q (dG ⟨[],sets,ways,0⟩)):=by
 refine⟨_,H.next,bC rfl rfl (arl _ _ _ _ (r:=(_,H.new (.blk 0 143 [zN,I sets,I ways,zI]))) ?_),lH rfl rfl λi c x hc b=>?_⟩
 ·have e:max (1:Int) sets=sets:=V
  have d:max (1:Int) ways=ways:=V
  simp only [Nat.reduceLT,Nat.reduceAdd,aO,xq_,hq_,ams,Nk,e,d,als,jf,fK,af5,aG]
 ·match i with
  |0=>right;cases hc;cases b;exact⟨rfl,6,rfl⟩
  |1=>left;cases hc;cases b;rfl
  |2=>left;cases hc;cases b;rfl
  |3=>left;cases hc;cases b;rfl
  |i+4=>cases hc
def aex(H:ah):∃H' q,cl 10 [] H=some (.ref q 0 0,H')/\Made H H' (upd qE q (oC [])):=by
 refine⟨_,H.next,bC rfl rfl (aqV _ _ (r:=(_,H.new (.blk 0 103 [zN]))) ?_),lH rfl rfl λi c x hc b=>?_⟩
 ·simp only [Nat.reduceLT,xq_,hq_,al5,alo,jf,fK,aG]
 ·match i with
  |0=>right;cases hc;cases b;exact⟨rfl,4,rfl⟩
  |i+1=>cases hc
def aey(H:ah):∃H' q,cl 71 [] H=some (.ref q 0 0,H')/\Made H H' (upd qE q (iR ⟨[],[]⟩)):=by
 refine⟨_,H.next+2,bC rfl rfl (arN _ _ (r:=(_,((H.new (.map .i64 [])).new (.map .i64 [])).new (.blk 0 203 [.mp H.next,.mp (H.next+1)]))) ?_),Rf (H':=(H.new (.map .i64 [])).new (.map .i64 [])) (by omega) (by rw [eX,eX]) rfl (λr hr=>by rw [bJ (by rw [eX];omega),bJ hr]) rfl rfl (λr=>if r=H.next then some 0 else if r=H.next+1 then some 1 else none) λi c x hc hx=>?_⟩
 ·have e:∀r,(AV.mp r).cells=[.mp r]:=λ_=>rfl;simp only [Nat.reduceLT,Nat.reduceAdd,aO,xq_,hq_,amQ,alA,jf,fK,agd,aG,e,ZH]
 ·match i with
  |0=>right;right;cases hc;cases hx;exact⟨H.next,.i64,rfl,zac _,by omega,by simp,by rw [bJ (by rw [eX];omega),aZ rfl],.inl rfl⟩
  |1=>right;right;cases hc;cases hx;exact⟨H.next+1,.i64,rfl,by omega,by omega,by simp,by rw [aZ (by rw [eX])],.inr ⟨2,rfl⟩⟩
  |i+2=>cases hc
end
def aez {d:Nat}{α:Type}{enc:α->List AV}(h:∀a,∀x∈enc a,Frz d x)(l:List α):∀x∈l.flatMap enc,Frz d x:=λx b=>by
 obtain⟨a,_,ha⟩:=za0.1 b;exact h a x ha
def ajs(o:Opn):∀x∈o.av,Frz 8 x:=λx b=>by
 simp only [Opn.av,zaj,zaA,or_false] at b;rcases b with rfl|rfl|rfl <;> exact iD
def aeA(H:ah)(l:List Opn)(hl:l.length<1000000000){x:AV}(hx:aN H x 3 l.length (l.flatMap Opn.av))(h0:l=[]->x=zN)(hn:l≠[]->bi .eql 28 x zN=some (B false)):cl 69 [x] H=some (vsl 3 Opn.av l,H):=by
 by_cases h:l=[]
 ·rw [h0 h];subst h;refine jD rfl rfl (amN _ _ _ (r:=(zN,H.guard)) ?_) (by rw [gI];exact jo);have e:bi .eql 28 zN zN=some (B true):=by kernel_rfl
  simp only [xq_,ai9,e]
 ·have h1:l.length≠0:=λe=>h (zat e);have e2:=xG (e:=53) (by_:=24) (r:=H.guard.next) (H:=H.guard.new (.blk 0 53 [])) rE (hx.guard.new _) (Nu oZ l) h1 (by unfold most;omega) (by unfold most;omega);simp only [Ai,eX] at e2;refine jD rfl rfl (amN _ _ _ (r:=(.sl (H.next+1) 0 0 3 l.length l.length false,(H.guard.new (.blk 0 53 [])).new (.blk 0 (53+iC) (l.flatMap Opn.av)))) ?_) ?_
  ·simp only [xq_,ai9,hn h,ak7,Io,e2,zbD,zaY]
  ·rw [Fg h];refine oh (by omega) (cells:=l.flatMap Opn.av) ?_ (jh _ λx hx=>aez ajs l x hx _ _);simp only [dH,jA,eX,Ai,if_true];rw [if_pos (by rw [dM eP,za6];exact⟨trivial,zac _⟩),zaS,zaw (by rw [dM eP];exact zac _)]
def abA(H:ah)(n m:Int):cl 105 [I n,I m] H=some (B (ku n m),H):=by
 refine bC rfl rfl (ani _ _ _ _ ?_);by_cases h:1<=n
 ·simp only [xq_,aaS,h,ku,zaN]
 ·simp only [xq_,aaS,h,ku,zaP]
def aeB(H:ah)(c:Cfg)(h:c.ok=true):cl 65 [.agg c.av] H=some (I 0,H):=by
 refine dD rfl rfl (arK _ _ _) ?_ iD;have w:=λH n m=>abA H n m;have e:=λH=>(kY H c.init).lnS;simp only [Cfg.ok,zah,decide_eq_true_eq] at h;obtain⟨⟨⟨⟨⟨⟨⟨a,b⟩,d⟩,f⟩,g⟩,i⟩,j⟩,k⟩:=h;have t:∀n m,1<=n/\n<=m->ku n m=true:=λn m h=>by simp [ku,h.1,h.2]
 have hm:IntKind.wrap .i64 (c.aY*c.bI)=c.aY*c.bI:=by
  have:c.aY*c.bI<=8*4:=zbN b.2 d.2 V V;have:0<=c.aY*c.bI:=zb0 V V;exact wrap_i64 V V
 have k':¬c.aY*c.bI<c.init.length:=V
 simp only [Nat.reduceLT,xq_,hq_,amL,aG,Cfg.av,w,t _ _ a,t _ _ b,t _ _ d,t _ _ f,t _ _ g,t _ _ i,t _ _ j,e,je,hm,k',zaf]
def aeC(H:ah)(c:Cfg)(h:c.ok=true):cl 131 [.agg c.av] H=some (I c.kU,H):=by
 refine dD rfl rfl (anP _ _ _) ?_ iD;simp only [Cfg.ok,zah,decide_eq_true_eq] at h;obtain⟨⟨⟨⟨⟨⟨⟨a,b⟩,d⟩,f⟩,g⟩,i⟩,j⟩,k⟩:=h;have hm:IntKind.wrap .i64 (c.aY*c.bI)=c.aY*c.bI:=by
  have:c.aY*c.bI<=8*4:=zbN b.2 d.2 V V;have:0<=c.aY*c.bI:=zb0 V V;exact wrap_i64 V V
 simp only [Nat.reduceLT,xq_,hq_,ag7,aG,Cfg.av,je,hm,Cfg.kU]
structure aum(c:Cfg):Prop where
 aB:1<=c.aB/\c.aB<=6
 aY:1<=c.aY/\c.aY<=8
 bI:1<=c.bI/\c.bI<=4
 sets:1<=c.sets/\c.sets<=4
 ways:1<=c.ways/\c.ways<=3
 out:1<=c.out/\c.out<=8
 inn:1<=c.inn/\c.inn<=8
 init:(c.init.length:Int)<=c.aY*c.bI
 kU:1<=c.aY*c.bI/\c.aY*c.bI<=32
def uK {c:Cfg}(h:c.ok=true):aum c:=by
 simp only [Cfg.ok,zah,decide_eq_true_eq] at h;obtain⟨⟨⟨⟨⟨⟨⟨a,b⟩,d⟩,f⟩,g⟩,i⟩,j⟩,k⟩:=h;have e:c.aY*c.bI<=8*4:=zbN b.2 d.2 V V;have m:1*1<=c.aY*c.bI:=zbN b.1 d.1 V V;exact⟨a,b,d,f,g,i,j,k,V,V⟩
def ajt(H:ah)(n m:Int)(h:1<=m):cl 153 [I n,I m] H=some (I (xH n m),H):=by
 refine bC rfl rfl (aob _ _ _ _ ?_);by_cases b:n<0
 ·simp only [Int.reduceNeg,xq_,aa3,b,xH]
 ·have e:n.tmod m=n % m:=zbS V;simp only [Int.reduceNeg,xq_,aa3,b,rC (show m≠0 by omega),xH,e]
def IW(H:ah)(c:Cfg)(h:c.ok=true)(aj:Int):cl 111 [.agg c.av,I aj] H=some (I (c.bf aj),H):=by
 have B:=uK h;refine dD rfl rfl (anp _ _ _ _) ?_ iD;have e:=λH=>ajt H aj c.aB B.aB.1;simp only [Nat.reduceLT,xq_,hq_,agV,aG,Cfg.av,e,Cfg.bf]
def IX(H:ah)(c:Cfg)(h:c.ok=true)(a:Int):cl 86 [.agg c.av,I a] H=some (.tup [I (c.bU a),I (c.dI a)],H):=by
 have B:=uK h;refine dD rfl rfl (ar5 _ _ _ _) ?_ (vP λx d=>by
  simp only [zaj,zaA,or_false] at d;rcases d with rfl|rfl <;> exact iD)
 have e:=λH=>aeC H c h;by_cases b:a<0
 ·simp only [Nat.reduceLT,Int.reduceNeg,xq_,hq_,ael,aG (fD c),b,Cfg.bU,Cfg.dI,true_or]
 ·by_cases g:c.kU<=a
  ·simp only [Nat.reduceLT,Int.reduceNeg,xq_,hq_,ael,aG (fD c),b,g,Cfg.bU,Cfg.dI,or_true,e]
  ·have q:a.tdiv c.bI=a / c.bI:=Int.tdiv_eq_ediv_of_nonneg V;have r:a.tmod c.bI=a % c.bI:=zbS V;have j:0<=a / c.bI:=zdB V (by have:=B.bI;omega);have k:a / c.bI<=a:=Int.ediv_le_self _ V;have m:c.kU<=32:=B.kU.2;have w:=wrap_i64 (a:=a / c.bI) V V;have z:c.bI≠0:=by have:=B.bI;omega
   have i:c.av[2]?=some (I c.bI):=rfl;simp only [Nat.reduceLT,Int.reduceNeg,xq_,hq_,ael,aG (fD c),b,g,Cfg.bU,Cfg.dI,or_false,e,i,aiu z,rC z,q,r,w]
def FY(o:Option Nat):Int:=match o with
 |some i=>(i:Int)
 |none=>-1
def qV {α:Type}{p:α->Bool}:∀(l:List α) (i:Nat),(∀j a,j<i->l[j]?=some a->p a=false)->l.findIdx? p=((l.drop i).findIdx? p).map (· +i)
 |l,0,_=>by cases h:l.findIdx? p <;> simp [h]
 |[],i+1,_=>by simp
 |a::l,i+1,h=>by
  have d:=h 0 a V rfl;rw [zcR,d,List.drop_succ_cons,qV l i λj b e hb=>h (j+1) b V hb];simp only [zai,if_false,Option.map_map]
  congr 1
def Uy(H:ah){α:Type}{enc:α->List AV}(w:∀a,(enc a).length=3){x f:AV}{l:List α}(m:aN H x 3 l.length (l.flatMap enc))(G:l.length<1000000000)(p:α->Bool)
  (y:∀a∈l,tJ Tryz.prog cl f [.agg (enc a)] H=some (B (p a),H)):cl 152 [x,f] H=some (I (FY (l.findIdx? p)),H):=by
 have z:=m.lnS;have A:∀i a,l[i]?=some a->lda 3 (eH x i) H=some (.agg (enc a),H):=λi a hi=>mW w m hi;refine bC rfl rfl (aoa _ _ _ _ ?_);have key:∀k i,i+k=l.length->(∀j a,j<i->l[j]?=some a->p a=false)->FN cl [x,f,I l.length,I i] H=some (I (FY (l.findIdx? p)),H):=by
  intro k
  induction k with
  |zero=>
   intro i hi g;have e:¬(i:Int)<l.length:=V
   have o:l.findIdx? p=none:=by rw [qV l i g,zaV V];rfl
   rw [Wq];simp only [Int.reduceNeg,xq_,e,o,FY]
  |succ k C=>
   intro i hi g;have e:(i:Int)<l.length:=V
   have q:=m.ix (k:=.i64) (i:=(i:Int)) V e;obtain⟨a,ha⟩:∃a,l[i]?=some a:=⟨_,zab V⟩
   have v:=A i a ha;have h:=y a (zan ha);rw [zar] at q;rw [Wq];cases d:p a with
   |true=>
    have o:l.findIdx? p=some i:=by
     rw [qV l i g,zbu V,zcR];rw [zab V] at ha;simp only [zaa] at ha;rw [ha,d];simp
    rw [d] at h;simp only [Int.reduceNeg,xq_,e,o,q,v,h,FY]
   |false=>
    rw [d] at h;have D:(i:Int)+1=((i+1:Nat):Int):=V
    have E:=wrap_i64 (a:=((i+1:Nat):Int)) V V;have:=C (i+1) V λj b F hb=>by
     by_cases u:j=i
     ·subst u;rw [ha] at hb;cases hb;exact d
     ·exact g j b V hb
    simp only [Int.reduceNeg,xq_,e,q,v,h,cZ,D,E,this]
 have:=key l.length 0 V (λj a F=>V);simp only [xq_,ahv,z];exact this
def Rh(H:ah){α:Type}{enc:α->List AV}(w:∀a,(enc a).length=6){x f:AV}{l:List α}(m:aN H x 6 l.length (l.flatMap enc))(G:l.length<1000000000)(p:α->Bool)
  (y:∀a∈l,tJ Tryz.prog cl f [.agg (enc a)] H=some (B (p a),H)):cl 175 [x,f] H=some (I (FY (l.findIdx? p)),H):=by
 have z:=m.lnS;have A:∀i a,l[i]?=some a->lda 6 (eH x i) H=some (.agg (enc a),H):=λi a hi=>mW w m hi;refine bC rfl rfl (aoy _ _ _ _ ?_);have key:∀k i,i+k=l.length->(∀j a,j<i->l[j]?=some a->p a=false)->FU cl [x,f,I l.length,I i] H=some (I (FY (l.findIdx? p)),H):=by
  intro k
  induction k with
  |zero=>
   intro i hi g;have e:¬(i:Int)<l.length:=V
   have o:l.findIdx? p=none:=by rw [qV l i g,zaV V];rfl
   rw [Ws];simp only [Int.reduceNeg,xq_,e,o,FY]
  |succ k C=>
   intro i hi g;have e:(i:Int)<l.length:=V
   have q:=m.ix (k:=.i64) (i:=(i:Int)) V e;obtain⟨a,ha⟩:∃a,l[i]?=some a:=⟨_,zab V⟩
   have v:=A i a ha;have h:=y a (zan ha);rw [zar] at q;rw [Ws];cases d:p a with
   |true=>
    have o:l.findIdx? p=some i:=by
     rw [qV l i g,zbu V,zcR];rw [zab V] at ha;simp only [zaa] at ha;rw [ha,d];simp
    rw [d] at h;simp only [Int.reduceNeg,xq_,e,o,q,v,h,FY]
   |false=>
    rw [d] at h;have D:(i:Int)+1=((i+1:Nat):Int):=V
    have E:=wrap_i64 (a:=((i+1:Nat):Int)) V V;have:=C (i+1) V λj b F hb=>by
     by_cases u:j=i
     ·subst u;rw [ha] at hb;cases hb;exact d
     ·exact g j b V hb
    simp only [Int.reduceNeg,xq_,e,q,v,h,cZ,D,E,this]
 have:=key l.length 0 V (λj a F=>V);simp only [xq_,ahE,z];exact this
def aeD(H:ah)(c:Cfg)(h:c.ok=true)(o:Opn):cl 110 [.agg c.av,.agg o.av] H=some (B (c.right o),H):=by
 refine dD rfl rfl (ano _ _ _ _) ?_ iD;have e:=λH=>IX H c h o.addr;have j:c.right o=(decide (1<=o.aS) && decide (o.aS<=4) && !decide (c.bU o.addr=-1) && (decide (o.value=0) || decide (o.aS=2) || decide (o.aS=3))):=by simp [Cfg.right]
 rw [j];by_cases a:1<=o.aS;rotate_left
 ·simp only [Nat.reduceLT,Int.reduceNeg,xq_,hq_,Eu,aG,Opn.av,e,a,zaP]
 by_cases b:o.aS<=4;rotate_left
 ·simp only [Nat.reduceLT,Int.reduceNeg,xq_,hq_,Eu,aG,Opn.av,e,a,b,zaN,zaP]
 by_cases d:c.bU o.addr=-1
 ·simp only [Nat.reduceLT,Int.reduceNeg,xq_,hq_,Eu,aG,Opn.av,e,a,b,d,zaN,zaP,zaf]
 by_cases f:o.value=0
 ·simp only [Nat.reduceLT,Int.reduceNeg,xq_,hq_,Eu,aG,Opn.av,e,a,b,d,f,zam,zc1]
 by_cases g:o.aS=2
 ·simp only [Nat.reduceLT,Int.reduceLE,Int.reduceEq,Int.reduceNeg,xq_,hq_,Eu,aG,Opn.av,e,d,f,g,zam,zc1,Bool.or_true]
 by_cases i:o.aS=3
 ·simp only [Nat.reduceLT,Int.reduceLE,Int.reduceEq,Int.reduceNeg,xq_,hq_,Eu,aG,Opn.av,e,d,f,i,zam,Bool.or_true]
 ·simp only [Nat.reduceLT,Int.reduceNeg,xq_,hq_,Eu,aG,Opn.av,e,a,b,d,f,g,i,zam,zdL,zb8]
def Uz(H:ah)(c:Cfg)(h:c.ok=true)(o:Opn){r ty:Nat}(b:r<H.next)(d:H.get r=.blk 0 ty c.av):cl 109 [.agg o.av,.ref r 0 0] H=some (B (!c.right o),H):=by
 refine dD rfl rfl (anm _ _ _ _) ?_ iD;have e:=λH=>aeD H c h o;have g:lda 8 (.ref r 0 0) (H.guard.new (.blk 0 53 o.av))=some (.agg (c.av.take 8),_):=iH (off:=0) (n:=8) (by rw [bJ (by rw [Ai];exact b),ap4];exact d) (zac 8);simp only [Nat.reduceLT,xq_,hq_,agU,aG (oZ o),g,e]
def IY {o:Option Nat}:decide (0<=FY o)=o.isSome:=by
 cases o with
 |none=>rfl
 |some i=>simp [FY]
def abB(H:ah)(c:Cfg)(h:c.ok=true){v:AV}{l:List Opn}(hv:aN H v 3 l.length (l.flatMap Opn.av))(hl:l.length<1000000000){r ty:Nat}(hr:r<H.next)(hg:H.get r=.blk 0 ty c.av):cl 107 [v,.ref r 0 0] H=some (B (!(decide (l.length<=24) && l.all c.right)),H):=by
 refine dD rfl rfl (ank _ _ _ _) ?_ iD;have e1:=hv.guard.lnS;have e2:=Uy H.guard (enc:=Opn.av) eP (f:=.fn (.func 109) [] [.ref r 0 0]) hv.guard hl (λo=>!c.right o) (λo _=>by
  rw [uF (by kernel_rfl)];exact Uz H.guard c h o hr hg)
 have e3:cl 108 [v,.fn (.func 109) [] [.ref r 0 0]] H.guard=some (B (l.findIdx? λo=>!c.right o).isSome,H.guard):=by
  refine bC rfl rfl (anl _ _ _ _ ?_);simp only [xq_,agT,e2,IY]
 have e4:(l.findIdx? λo=>!c.right o).isSome=!l.all c.right:=by
  rw [List.findIdx?_isSome,List.not_all_eq_any_not]
 by_cases h0:l.length<=24
 ·have h1:¬(24:Int)<l.length:=by omega
  simp only [xq_,aaT,e1,e3,e4,h0,h1,zaN]
 ·have h1:(24:Int)<l.length:=by omega
  simp only [xq_,aaT,e1,h0,h1,zaP,zam]
def WI(H:ah)(x:AV)(ps:List (List Opn)):Prop:=
 ∃cells:List AV,aN H x 1 ps.length cells/\∀(i:Nat) v l,cells[i]?=some v->ps[i]?=some l->aN H v 3 l.length (l.flatMap Opn.av)/\(l=[]->v=zN)
def WI.iZ {H H':ah}{x:AV}{ps:List (List Opn)}(h:WI H x ps)(e:H.next<=H'.next)(g:∀r,r<H.next->H'.get r=H.get r):WI H' x ps:=by
 obtain⟨cells,k,j⟩:=h;exact⟨cells,k.iZ e λr _ d=>g r d,λi v l a b=>⟨(j i v l a b).1.iZ e λr _ d=>g r d,(j i v l a b).2⟩⟩
def BJ {n:Nat}{p:Nat->Bool}:∀i,i<=n->(∀j,j<i->p j=false)->(List.range n).findIdx? p=((List.range' i (n-i)).findIdx? p).map (· +i):=by
 intro i hi b;rw [qV (List.range n) i λj a d ha=>by
  have:a=j:=by
   rw [zbz V] at ha
   simpa using ha.symm
  rw [this];exact b j d]
 congr 2
 rw [zcD,List.drop_range'];simp
def UA(H:ah){x f:AV}{n:Nat}{cells:List AV}(e:aN H x 1 n cells)(F:n<1000000000)(p:Nat->Bool)
  (w:∀i v,cells[i]?=some v->tJ Tryz.prog cl f [v] H=some (B (p i),H)):cl 151 [x,f] H=some (I (FY ((List.range n).findIdx? p)),H):=by
 have y:=e.lnS;have z:cells.length=n:=by have:=e.1;omega
 refine bC rfl rfl (an9 _ _ _ _ ?_);have key:∀k i,i+k=n->(∀j,j<i->p j=false)->FM cl [x,f,I n,I i] H=some (I (FY ((List.range n).findIdx? p)),H):=by
  intro k
  induction k with
  |zero=>
   intro i hi g;have d:¬(i:Int)<n:=V
   have m:(List.range n).findIdx? p=none:=by rw [BJ i V g,show n-i=0 by omega];rfl
   rw [Wp];simp only [Int.reduceNeg,xq_,d,m,FY]
  |succ k A=>
   intro i hi g;have d:(i:Int)<n:=V
   have o:=e.ix (k:=.i64) (i:=(i:Int)) V d;obtain⟨v,hv⟩:∃v,cells[i]?=some v:=⟨_,zab V⟩
   have q:=e.ld (i:=i) V;rw [hv] at q;have h:=w i v hv;rw [zar] at o;rw [Wp];cases b:p i with
   |true=>
    have m:(List.range n).findIdx? p=some i:=by
     rw [BJ i V g,show n-i=k+1 by omega,zc5,zcR,b];simp
    rw [b] at h;simp only [Int.reduceNeg,xq_,d,m,o,q,h,FY]
   |false=>
    rw [b] at h;have C:(i:Int)+1=((i+1:Nat):Int):=V
    have D:=wrap_i64 (a:=((i+1:Nat):Int)) V V;have:=A (i+1) V λj E=>by
     by_cases u:j=i
     ·rw [u];exact b
     ·exact g j V
    simp only [Int.reduceNeg,xq_,d,o,q,h,cZ,C,D,this]
 have:=key n 0 V (λj E=>V);simp only [xq_,aht,y];exact this
def aoU(H:ah)(c:Cfg)(h:c.ok=true){x:AV}{ps:List (List Opn)}(hx:WI H x ps)(hn:ps.length<1000000000)(hl:∀l∈ps,l.length<1000000000):cl 66 [.agg c.av,x] H=some (I (if c.vT ps then 0 else 1),H):=by
 refine dD rfl rfl (arL _ _ _ _) ?_ iD;have hx1:=hx.iZ (H':=H.guard.new (.blk 0 26 c.av)) (by rw [eX,Ai];omega) λr hr=>by rw [bJ (by rw [Ai];exact hr),ap4]
 obtain⟨cells,x1,x2⟩:=hx1;have hcl:cells.length=ps.length:=by have:=x1.1;omega
 let bad:List Opn->Bool:=λl=>!(decide (l.length<=24) && l.all c.right)
 have e2:=UA (H.guard.new (.blk 0 26 c.av)) (f:=.fn (.func 107) [] [.ref H.next 0 0]) x1 hn (λi=>bad (ps.getD i [])) (λi v hv=>by
  have hi:i<ps.length:=by rw [<-hcl];exact(zae.1 hv).1
  have hpi:ps[i]?=some (ps.getD i []):=by simp [List.getD,zab hi]
  rw [uF (by kernel_rfl)];exact abB _ c h (x2 i v _ hv hpi).1 (hl _ (zan hpi)) (by rw [eX,Ai];omega) (aZ (by rw [Ai])))
 have e4:((List.range ps.length).findIdx? λi=>bad (ps.getD i [])).isSome=!(ps.all λl=>decide (l.length<=24) && l.all c.right):=by
  rw [List.findIdx?_isSome,List.not_all_eq_any_not,Bool.eq_iff_iff,zcG,zcG];constructor
  ·rintro⟨i,hi,hb⟩;have hi:i<ps.length:=zaW.1 hi;exact⟨ps.getD i [],zan (i:=i) (by simp [List.getD,zab hi]),hb⟩
  ·rintro⟨l,hm,hb⟩;obtain⟨i,hi,he⟩:=zdC hm;have hg:ps.getD i []=l:=by simp [List.getD,zab hi,he]
   exact⟨i,zaW.2 hi,by rw [hg];exact hb⟩
 have e3:cl 106 [x,.fn (.func 107) [] [.ref H.next 0 0]] (H.guard.new (.blk 0 26 c.av))=some (B (!(ps.all λl=>decide (l.length<=24) && l.all c.right)),H.guard.new (.blk 0 26 c.av)):=by
  refine bC rfl rfl (anj _ _ _ _ ?_);simp only [xq_,agS,e2,IY,e4]
 have l0:c.av[0]?=some (I c.aB):=rfl;have e5:=x1.lnS;cases hb:ps.all λl=>decide (l.length<=24) && l.all c.right with
 |false=>simp only [Nat.reduceLT,xq_,hq_,aeh,aG (fD c),e3,hb,zam,Cfg.vT,zaP]
 |true=>
  by_cases hc:(ps.length:Int)=c.aB
  ·simp only [Nat.reduceLT,xq_,hq_,aeh,aG (fD c),e3,e5,hb,l0,zaf,Cfg.vT,hc]
  ·simp only [Nat.reduceLT,xq_,hq_,aeh,aG (fD c),e3,e5,hb,l0,zaf,zam,Cfg.vT,zaN,hc]
def OH {c:Cfg}(h:c.ok=true){aj:Int}(h0:0<=aj)(b:aj<c.aY):c.first aj≠[]:=by
 have B:=uK h;unfold Cfg.first
 rw [if_neg V];intro e;have:=congrArg List.length e;simp only [zaE,zcX,zao] at this;have:=B.bI;omega
def UC {c:Cfg}(h:c.ok=true){aj:Int}(h0:0<=aj)(k:aj<c.aY){from_:Nat}(m:(from_:Int)=min (aj*c.bI) c.init.length):
  aO (List.replicate c.bI.toNat zI) 0 (((c.init.map I).drop from_).take (min (c.init.length-from_) c.bI.toNat))=(c.first aj).map I:=by
 have B:=uK h;have hw:=B.bI;have j:0<=aj*c.bI:=zb0 h0 V;unfold Cfg.first
 rw [if_neg V]
 apply zbb
 intro i;have b:(((c.init.map I).drop from_).take (min (c.init.length-from_) c.bI.toNat)).length=min (c.init.length-from_) c.bI.toNat:=by
  rw [zau,zaR,zaE];omega
 rw [nZ (by rw [b,zcb];omega),b];rcases zaQ i c.bI.toNat with hi|hi
 ·simp only [zaH,zbz hi,zak];by_cases hc:i<c.init.length-from_
  ·rw [if_pos V,Nat.sub_zero,zaB,if_pos V,zaF,zaH];have e:from_=(aj*c.bI).toNat:=V
   rw [e];have d:(aj*c.bI).toNat+i<c.init.length:=V
   simp [List.getD,zab d]
  ·rw [if_neg V,zbB,if_pos hi];have g:c.init.length<=(aj*c.bI).toNat+i:=V
   simp [List.getD,zaG g]
 ·rw [if_neg V,zaG (by simp;omega),zaG (by simp;omega)]
def aeE(H:ah)(c:Cfg)(h:c.ok=true)(aj:Int)(h0:0<=aj)(h1:aj<c.aY):cl 112 [.agg c.av,I aj] H=some (dat (c.first aj),H):=by
 have B:=uK h;have hw:=B.bI;have hlw:0<=aj*c.bI:=zb0 h0 (by omega);have aun:aj*c.bI<=8*4:=zbN (by have:=B.aY;omega) hw.2 (by omega) (by omega);have w:=wrap_i64 (a:=aj*c.bI) (by omega) (by omega);have l1:c.av[1]?=some (I c.aY):=rfl;have l2:c.av[2]?=some (I c.bI):=rfl;have l7:c.av[7]?=some (dat c.init):=rfl;let H1:=(H.guard.new (.blk 0 26 c.av)).new (.blk 0 3 (dN [zI] c.bI.toNat));have e1:=Z7 (e:=3) (m:=1) (by_:=8) (z:=[zI]) (n:=c.bI) (H:=H.guard.new (.blk 0 26 c.av)) rfl rfl (by omega) (by omega) (by decide);have e2:=λH=>(kY H c.init).lnS;have hm:0<=min (aj*c.bI) (c.init.length:Int):=by omega
 obtain⟨y,e3,e4⟩:=(kY H1 c.init).from_ (k:=.i64) (lo:=min (aj*c.bI) (c.init.length:Int)) hm (by omega);obtain⟨H2,e5,e6,e7,e8,e9⟩:=alU (H:=H1) (r:=H.next+1) (g:=0) (off:=0) (m:=1) (len:=c.bI.toNat) (cap:=c.bI.toNat) (ex:=true) (ty:=3) (aZ (by rw [eX,Ai])) (by show H.next<=_;omega) (by rw [lF];simp) e4 (AP (yH _) _);refine jD rfl rfl (anq _ _ _ _ (r:=(.sl (H.next+1) 0 0 1 c.bI.toNat c.bI.toNat true,H2)) ?_) ?_
 ·have n0:¬aj<0:=by omega
  have n1:¬c.aY<=aj:=by omega
  simp only [eX,Ai] at e1;simp only [Nat.reduceLT,xq_,hq_,agW,aG (fD c),n0,n1,l1,l2,l7,e1,e2,je,w,ZG,e3,e5,H1]
 ·rw [xQ (OH h h0 h1)];have hf:=UC h h0 h1 (from_:=(min (aj*c.bI) (c.init.length:Int)).toNat) (by omega);rw [lF,zbO,zbO,hf] at e6;have hlen:(c.first aj).length=c.bI.toNat:=by
   unfold Cfg.first
   rw [if_neg (by omega)];simp
  rw [hlen];refine oh (by omega) (cells:=(c.first aj).map I) ?_ (jh _ λx hx=>yI _ x hx _ _);simp only [dH,e6];rw [if_pos ⟨trivial,by simp [hlen]⟩,zaS,zaw (by simp [hlen])]
end
end Go.Proofs.YtljogojaihgdlaaGreat
