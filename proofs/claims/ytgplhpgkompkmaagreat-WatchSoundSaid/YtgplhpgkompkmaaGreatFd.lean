/-
  Own work, a part.
-/
import Derived.Test.YtgplhpgkompkmaaGreatProg
import Derived.KernelRfl
import Derived.RangeFuncFrom
import Derived.RangeFuncLeaves
import Derived.RangeFuncCalls
import Derived.OrdersIn
import Derived.Test.YtgplhpgkompkmaaGreatFc
set_option maxRecDepth 100000
set_option linter.all false
namespace Go.Proofs.YtgplhpgkompkmaaGreat
open Option renaming some->ZC,none->Z1
open Bool renaming true->Z0,false->ZV
open Decidable renaming decide->u,decide->YM
noncomputable section
def auR:Ann:=⟨[(6,[1,5,7,8])],[(7,rF 6 (ZC Z0::rF 5 (ZC Z0::ZC ZV::ZC ZV::[])))],[]⟩
def QO:=jv Tryz.prog Tryz.f5 53 auR 0
def auS(C:aA)(a0 i:AV)(H:ah):OA:=bnd (fK 24 a0 H) λj H=>bnd (lda 12 j H) λe H=>bnd (C 8 [e,I 14] H) λb H=>bo (aG b 0) λd=>bo (aG b 1) λk=>bo (aG b 2) λg=>bo (bi .eql 25 d zP) λh=>aN h (ZC (B ZV,H)) (QO C [i,d,g,I 0] H)
def ahM(C:aA)(h d i g:AV)(H:ah):QO C [h,d,i,g] H= bnd (lnS h H) λj H=>bo (bi .lss 3 g j) λe=>gl e Z0 (ZC g) H λk H=>gl e Z0 (bi .lss 3 k (I 80)) H λm H=>bo (bQ e m (B ZV)) λn=>aN n (bnd (ix 4 h g H) λo H=>bnd (lda 4 o H) λp H=>bnd (unG H (C 9 [d] H.guard)) λq H=>bo (fl q 0) λu=>bo (ay d) λv=>fld v 0 H λw H=>bnd (unG H (C 17 [w] H.guard)) λy H=>bnd (C 16 [p,u,y] H) λz H=>bnd (C 15 [d,z] H) λQ H=>bnd (C 18 [d,i] H) λA H=>bo (un .not A) λb=>gl b ZV (ZC d) H λD H=>gl b ZV (ZC i) H λE H=>gdA (ZC b) ZV (C 19 [D,E] H) H λF H=>gl b ZV (un .not F) H λG H=>bo (bQ b (B Z0) G) λK=>aN K (ZC (B ZV,H)) (bo (bi .add 3 g (I 1)) λL=>QO C [h,d,i,L] H)) (bnd (C 14 [] H) λM H=>ZC (M,H)):=lpE.trans Z
def avi:Rn2 5 auS:=λ_ _ _ _ _ h=>rnG auR Tryz.func5 Z Z h
def auT(C:aA)(a0 F:AV)(H:ah):OA:=bnd (fK 24 a0 H) λE H=>bnd (lda 12 E H) λj H=>bnd (C 33 [j] H) λk H=>bnd (alc 31 [zI,zI,zI,zI,zI,zI,zI,zN] H) λm H=>bnd (st 8 m k H) λ_ H=>bnd (lda 12 E H) λn H=>bnd (C 34 [n,F] H) λb H=>bnd (lda 8 m H) λo H=>bnd (C 35 [o,b] H) λg H=>bo (aG g 0) λp=>bo (aG g 1) λq=>bnd (lda 8 m H) λu H=>bnd (C 20 [u,b] H) λh H=>bo (aG h 0) λi=>bo (aG h 1) λv=>bo (un .not q) λd=>gl d ZV (ZC v) H λw H=>gl d ZV (bi .neq 57 w (I 0)) H λy H=>bo (bQ d (B Z0) y) λe=>gl e ZV (ZC i) H λz H=>gl e ZV (bi .eql 25 z zP) H λA H=>bo (bQ e (B Z0) A) λD=>aN D (ZC (.tup [zP,zP,zN],H)) (ZC (.tup [i,p,b],H))
def avj:Rn2 8 auT:=λ_ _ _ _ _ h=>rnG an0 Tryz.func8 Z Z h
def auU(C:aA)(a0:AV)(H:ah):OA:=bnd (alc 31 [zI,zI,zI,zI,zI,zI,zI,zN] H) λh H=>bo (ay a0) λi=>bo (au i 2) λj=>bnd (lda 8 j H) λk H=>bnd (alc 31 [zI,zI,zI,zI,zI,zI,zI,zN] H) λb H=>bnd (st 8 b k H) λ_ H=>fld b 7 H λm H=>bnd (C 36 [m] H) λd H=>bo (au b 7) λe=>bnd (st 1 e d H) λ_ H=>bnd (lda 8 b H) λg H=>bnd (st 8 h g H) λ_ H=>bnd (lda 8 h H) λn _=>ZC (n,H)
def avk:Rn1 9 auU:=λ_ _ _ _ h=>rnG an0 Tryz.func9 Z Z h
def anA:Ann:=⟨[(6,[0,1,6,7])],[],[]⟩
def NY:=jv Tryz.prog Tryz.f10 42 anA 0
def akp(C:aA)(a0 b:AV)(H:ah):OA:=bnd (C 37 [a0,b] H) λd H=>bo (un .not d) λe=>aN e (ZC (.tup [zN,B ZV],H)) (bnd (C 38 [a0,b] H) λg H=>bo (fl g 1) λh=>NY C [a0,b,zN,h] H)
def NZ(C:aA)(t0 h g d:AV)(H:ah):NY C [t0,h,g,d] H= bo (bi .neq 3 d (I (-1))) λi=>aN i (bnd (C 39 [t0,d,h] H) λe H=>bo (aG e 0) λj=>bo (aG e 1) λk=>bnd (alc 100 [zI,zI,zI,zI,zB,zN] H) λy H=>bnd (st 6 y j H) λ_ H=>bo (un .not k) λb=>gl b ZV (ZC g) H λm H=>gl b ZV (ZC d) H λn H=>gdA (ZC b) ZV (C 40 [m,n] H) H λo H=>bo (bQ b (B Z0) o) λp=>aN p (ZC (.tup [zN,B ZV],H)) (bnd (bs 22 1 [(0,d)] H) λq H=>bnd (app 3 1 8 g q H) λu H=>bo (au y 0) λv=>fld v 0 H λw H=>NY C [t0,h,u,w] H)) (ZC (.tup [g,B Z0],H)):=lpE.trans Z
def anB:Rn2 10 akp:=λ_ _ _ _ _ h=>rnG anA Tryz.func10 Z Z h
def anC:Ann:=⟨[(4,[0,1,5,11,12])],[],[]⟩
def IK:=jv Tryz.prog Tryz.f11 38 anC 0
def IL(C:aA)(t0 g h b d:AV)(H:ah):OA:=bo (bi .add 3 d (I 1)) λe=>IK C [t0,g,h,b,e] H
def anD(C:aA)(a0 e:AV)(H:ah):OA:=bnd (C 9 [a0] H) λb H=>bo (fl b 0) λd=>IK C [a0,e,zN,d,I 0] H
def UD(C:aA)(t0 g i d b:AV)(H:ah):IK C [t0,g,i,d,b] H= bo (bi .lss 3 b d) λj=>aN j (bnd (C 25 [t0,b] H) λk H=>bo (ay k) λm=>fld m 0 H λn H=>bnd (C 41 [n,g] H) λh H=>bo (aG h 0) λo=>bo (aG h 1) λe=>bnd (alc 100 [zI,zI,zI,zI,zB,zN] H) λz H=>bnd (st 6 z o H) λ_ H=>gl e Z0 (ZC t0) H λp H=>gl e Z0 (ZC g) H λq H=>gdA (ZC e) Z0 (C 37 [p,q] H) H λu H=>bo (bQ e u (B ZV)) λv=>aN v (bnd (bs 22 1 [(0,b)] H) λw H=>bnd (app 3 1 8 i w H) λy H=>IL C t0 g y d b H) (IL C t0 g i d b H)) (ZC (i,H)):=lpE.trans Z
def asI:Rn2 11 anD:=λ_ _ _ _ _ h=>rnG anC Tryz.func11 Z Z h
def akq(C:aA)(a0 b:AV)(H:ah):OA:=bnd (C 37 [a0,b] H) λi H=>bo (un .not i) λj=>aN j (ZC (I (-1),H)) (bnd (C 9 [a0] H) λd H=>bnd (C 42 [d,b] H) λe H=>bnd (C 25 [a0,e] H) λg H=>bnd (C 43 [g,b] H) λh H=>ZC (h,H))
def asJ:Rn2 12 akq:=λ_ _ _ _ _ h=>rnG an0 Tryz.func12 Z Z h
def anE:Ann:=⟨[(10,[0,1,7,8,35,36,37])],[],[]⟩
def zL:=jv Tryz.prog Tryz.f13 64 anE 0
def YI(C:aA)(a0 g:AV)(H:ah):OA:=bnd (C 37 [a0,g] H) λh H=>bo (un .not h) λi=>aN i (ZC (B Z0,H)) (bnd (C 10 [a0,g] H) λe H=>bo (aG e 0) λd=>bo (aG e 1) λj=>bo (un .not j) λb=>gl b ZV (ZC d) H λk H=>gdA (ZC b) ZV (C 46 [k] H) H λm H=>gdA (ZC b) ZV (C 45 [m] H) H λn H=>gl b ZV (ZC a0) H λo H=>gl b ZV (ZC g) H λp H=>gdA (ZC b) ZV (C 11 [o,p] H) H λq H=>gdA (ZC b) ZV (C 44 [n,q] H) H λu H=>gl b ZV (un .not u) H λv H=>bo (bQ b (B Z0) v) λw=>aN w (ZC (B ZV,H)) (bnd (lnS d H) λy H=>zL C [a0,g,zN,I (-1),d,y,I 0] H))
def UE(C:aA)(t0 j k E d e b:AV)(H:ah):zL C [t0,j,k,E,d,e,b] H= bo (bi .lss 3 b e) λm=>aN m (bnd (ix 1 d b H) λn H=>bnd (ld n H) λh H=>bnd (C 39 [t0,h,j] H) λi H=>bo (aG i 0) λo=>bo (aG i 1) λF=>bnd (alc 100 [zI,zI,zI,zI,zB,zN] H) λg H=>bnd (st 6 g o H) λ_ H=>bo (au g 0) λp=>fld p 1 H λq H=>bo (bi .neq 3 q E) λu=>aN u (ZC (B ZV,H)) (bnd (lda 6 g H) λv H=>bnd (bs 111 1 [(0,v)] H) λw H=>bnd (app 100 6 64 k w H) λy H=>bo (bi .add 3 b (I 1)) λz=>zL C [t0,j,y,h,d,e,z] H)) (bnd (C 38 [t0,j] H) λA H=>bnd (C 47 [A,k] H) λD H=>ZC (D,H)):=lpE.trans Z
def asK:Rn2 13 YI:=λ_ _ _ _ _ h=>rnG anE Tryz.func13 Z Z h
def anF(C:aA)(H:ah):OA:=bo (bd 31 [(0,I 2),(1,I 1),(2,I 1),(3,I 1),(4,I 1),(5,I 1),(6,I 1)]) λA=>bnd (bs 27 2 [(0,zN),(1,zN)] H) λD H=>bnd (C 20 [A,D] H) λz H=>bo (aG z 0) λh=>bo (aG z 1) λi=>bo (bi .neq 57 i (I 0)) λd=>gl d ZV (ZC h) H λj H=>gl d ZV (bi .eql 25 j zP) H λk H=>bo (bQ d (B Z0) k) λm=>aN m (ZC (B ZV,H)) (bnd (C 10 [h,I 0] H) λe H=>bo (aG e 0) λn=>bo (aG e 1) λo=>bnd (bs 27 2 [(0,zN),(1,zN)] H) λp H=>bnd (C 18 [h,p] H) λg H=>gl g Z0 (ZC o) H λq H=>bo (bQ g q (B ZV)) λb=>gl b Z0 (ZC n) H λu H=>gdA (ZC b) Z0 (lnS u H) H λv H=>gl b Z0 (bi .eql 3 v (I 0)) H λw H=>bo (bQ b w (B ZV)) λy=>ZC (y,H))
def asL:Rn0 14 anF:=λ_ _ _ h=>rnG an0 Tryz.func14 Z Z h
def asM:Ann:=⟨[],[(2,rF 13 []),(4,rF 16 [])],[]⟩
def ae5(C:aA)(a0 G:AV)(H:ah):OA:=bnd (fK 44 G H) λd H=>fld d 0 H λK H=>aN K (bo (ay a0) λL=>fld L 0 H λg H=>fld d 1 H λh H=>fld d 2 H λi H=>fld d 3 H λj H=>bnd (C 48 [g,h,i,j] H) λk H=>bo (bi .eql 57 k (I 0)) λm=>ZC (m,H)) (fld d 1 H λn H=>bnd (C 25 [a0,n] H) λe H=>bo (bi .neq 64 e zP) λb=>gl b Z0 (ZC e) H λo H=>gl b Z0 (ZC a0) H λp H=>gl b Z0 (ay p) H λq H=>gl b Z0 (au q 0) H λu H=>gdA (ZC b) Z0 (ld u H) H λv H=>gl b Z0 (ZC a0) H λw H=>gl b Z0 (ay w) H λy H=>gl b Z0 (au y 1) H λz H=>gdA (ZC b) Z0 (ld z H) H λA H=>gdA (ZC b) Z0 (C 49 [o,v,A] H) H λD H=>gl b Z0 (bi .neq 3 D (I 0)) H λE H=>bo (bQ b E (B ZV)) λF=>ZC (F,H))
def akr:Rn2 15 ae5:=λ_ _ _ _ _ h=>rnG asM Tryz.func15 Z Z h
def asN:Ann:=⟨[],[(7,ZC ZV::ZC ZV::ZC Z0::rF 6 [])],[(7,[(4,6)])]⟩
def N7(C:aA)(d e:AV)(H:ah):OA:=bnd (lda 4 e H) λb H=>bnd (st 4 d b H) λ_ H=>bnd (lda 4 d H) λg _=>ZC (g,H)
def aa4(C:aA)(a0 a1 a2:AV)(H:ah):OA:=bnd (fK 47 a0 H) λb H=>bnd (alc 44 [zB,zI,zI,.s (.int .u16 0)] H) λd H=>fld b 0 H λv9 H=>bo (bi .rem 3 v9 (I 23)) λh=>bo (bi .eql 3 h (I 22)) λi=>aN i (fld b 2 H λj H=>bo (bi .rem 3 j (I 2)) λk=>bo (bi .eql 3 k (I 0)) λm=>fld b 1 H λn H=>fld b 2 H λo H=>fld b 3 H λp H=>bo (bd 44 [(0,m),(1,n),(2,o),(3,p)]) λq=>bnd (st 4 d q H) λ_ H=>bnd (lda 4 d H) λu _=>ZC (u,H)) (fld b 0 H λv H=>bnd (C 50 [v,I 2] H) λw H=>bo (bi .eql 3 w (I 0)) λy=>aN y (fld b 1 H λz H=>bnd (C 50 [z,a1] H) λA H=>bo (bd 44 [(1,A)]) λD=>bnd (st 4 d D H) λ_ H=>bnd (lda 4 d H) λu _=>ZC (u,H)) (fld b 1 H λE H=>bnd (C 50 [E,a2] H) λF H=>bo (bd 44 [(0,B Z0),(1,F)]) λG=>bnd (alc 44 [zB,zI,zI,.s (.int .u16 0)] H) λe H=>bnd (st 4 e G H) λ_ H=>fld b 0 H λK H=>bo (bi .rem 3 K (I 7)) λL=>bo (bi .eql 3 L (I 6)) λM=>aN M (fld b 2 H λQ H1=>bnd (unG H1 (C 50 [Q,I 120] H1.guard)) λR H2=>bo (au b 3) λg=>bnd (ld g H2) λT H4=>bo (au e 2) λW=>bnd (st 1 W R H4) λ_ H6=>bo (au e 3) λX=>bnd (st 1 X T H6) λ_ H8=>ck (bT g) H4 H6 <| N7 C d e H8) (N7 C d e H)))
def asO:Rn3 16 aa4:=λ_ _ _ _ _ _ h=>rnG asN Tryz.func16 Z Z h
def anG:Ann:=⟨[(4,[3,7,8,9])],[],[]⟩
def N8:=jv Tryz.prog Tryz.f17 20 anG 0
def anH(C:aA)(a0:AV)(H:ah):OA:=bnd (C 51 [a0] H) λb H=>bnd (lnS b H) λd H=>N8 C [I 0,b,d,I 0] H
def aa5(C:aA)(d e g b:AV)(H:ah):N8 C [d,e,g,b] H= bo (bi .lss 3 b g) λh=>aN h (bnd (ix 2 e b H) λi H=>bnd (lda 2 i H) λj H=>bnd (alc 121 [zP,zP] H) λp H=>bnd (st 2 p j H) λ_ H=>fld p 0 H λk H=>bnd (C 52 [k] H) λm H=>bo (bi .add 3 d m) λn=>bo (bi .add 3 b (I 1)) λo=>N8 C [n,e,g,o] H) (ZC (d,H)):=lpE.trans Z
def asP:Rn1 17 anH:=λ_ _ _ _ h=>rnG anG Tryz.func17 Z Z h
def anI:Ann:=⟨[(4,[0,1,5,10,11])],[(8,rF 6 (ZC Z0::rF 7 []))],[]⟩
def IQ:=jv Tryz.prog Tryz.f18 44 anI 0
def anJ(C:aA)(a0 e:AV)(H:ah):OA:=bnd (C 9 [a0] H) λg H=>bnd (alc 31 [zI,zI,zI,zI,zI,zI,zI,zN] H) λb H=>bnd (st 8 b g H) λ_ H=>fld b 1 H λd H=>IQ C [a0,e,b,d,I 0] H
def aa6(C:aA)(t0 i j h d:AV)(H:ah):IQ C [t0,i,j,h,d] H= bo (bi .lss 3 d h) λk=>aN k (bnd (C 53 [t0,d] H) λm H=>bo (un .not m) λb=>gl b ZV (ZC t0) H λn H=>gl b ZV (ZC d) H λo H=>gdA (ZC b) ZV (C 12 [n,o] H) H λp H=>gl b ZV (bi .eql 3 p (I (-1))) H λq H=>gl b ZV (ZC q) H λe H=>gl e Z0 (ZC t0) H λu H=>gl e Z0 (ZC d) H λv H=>gdA (ZC e) Z0 (C 13 [u,v] H) H λw H=>gl e Z0 (un .not w) H λy H=>gl b ZV (bQ e y (B ZV)) H λz H=>bo (bQ b (B Z0) z) λA=>aN A (ZC (B ZV,H)) (bo (bi .add 3 d (I 1)) λD=>IQ C [t0,i,j,h,D] H)) (bnd (lda 8 j H) λE H=>bo (ay t0) λF=>fld F 1 H λG H=>bnd (unG H (C 55 [G] H.guard)) λK H=>bnd (C 54 [E,i,K] H) λg H=>gl g Z0 (ZC t0) H λL H=>gl g Z0 (ZC i) H λM H=>gdA (ZC g) Z0 (C 19 [L,M] H) H λQ H=>bo (bQ g Q (B ZV)) λR=>ZC (R,H)):=lpE.trans Z
def asQ:Rn2 18 anJ:=λ_ _ _ _ _ h=>rnG anI Tryz.func18 Z Z h
def anK:Ann:=⟨[(7,[0,5,6,24,25])],[(2,rF 6 (ZC Z0::ZC ZV::ZC ZV::[]))],[]⟩
def IU:=jv Tryz.prog Tryz.f19 44 anK 0
def aks(C:aA)(a0 p:AV)(H:ah):OA:=bnd (C 9 [a0] H) λq H=>bnd (alc 31 [zI,zI,zI,zI,zI,zI,zI,zN] H) λb H=>bnd (st 8 b q H) λ_ H=>bnd (lda 8 b H) λe H=>bo (ay a0) λg=>fld g 1 H λh H=>bnd (unG H (C 55 [h] H.guard)) λi H=>bnd (C 56 [e,p,i] H) λd H=>bnd (lnS d H) λj H=>bnd (lda 8 b H) λk H=>bnd (C 57 [k] H) λm H=>bo (bi .neq 3 j m) λn=>aN n (ZC (B ZV,H)) (fld b 1 H λo H=>IU C [a0,b,d,o,I 0] H)
def aa7(C:aA)(t0 e g d b:AV)(H:ah):IU C [t0,e,g,d,b] H= bo (bi .lss 3 b d) λh=>aN h (fld e 2 H λi H=>bo (bi .mul 3 b i) λj=>bo (bi .add 3 b (I 1)) λk=>fld e 2 H λm H=>bo (bi .mul 3 k m) λn=>bo (slS 1 g (ZC j) (ZC n) Z1) λo=>bnd (C 58 [t0,b,o] H) λp H=>bo (un .not p) λq=>aN q (ZC (B ZV,H)) (bo (bi .add 3 b (I 1)) λu=>IU C [t0,e,g,d,u] H)) (ZC (B Z0,H)):=lpE.trans Z
def anL:Rn2 19 aks:=λ_ _ _ _ _ h=>rnG anK Tryz.func19 Z Z h
def anM:Ann:=⟨[(11,[2,8,32,33,34])],[(8,ZC ZV::ZC Z0::ZC Z0::rF 4 []),(12,rF 8 (ZC Z0::rF 5 []))],[]⟩
def N9:=jv Tryz.prog Tryz.f20 54 anM 0
def anN(C:aA)(a0 g:AV)(H:ah):OA:=bnd (fK 31 a0 H) λb H=>bnd (lda 8 b H) λh H=>bnd (C 59 [h] H) λd H=>bo (bi .neq 57 d (I 0)) λi=>aN i (ZC (.tup [zP,d],H)) (bnd (lda 8 b H) λj H=>bnd (C 60 [j,g] H) λe H=>bo (bi .neq 57 e (I 0)) λk=>aN k (ZC (.tup [zP,e],H)) (fld b 7 H λm H=>bnd (C 36 [m] H) λn H=>bo (au b 7) λo=>bnd (st 1 o n H) λ_ H=>bnd (lda 8 b H) λp H=>bnd (unG H (C 61 [p] H.guard)) λq H=>bnd (unG H (C 62 [] H.guard)) λu H=>bnd (lda 8 b H) λv H=>bo (bd 53 [(0,q),(1,u),(2,v)]) λw=>bnd (fK 53 w H) λy H=>bnd (lnS g H) λz H=>N9 C [b,y,g,z,I 0] H))
def aa8(C:aA)(h g d e b:AV)(H:ah):N9 C [h,g,d,e,b] H= bo (bi .lss 3 b e) λi=>aN i (bnd (ix 1 d b H) λj H=>bnd (ld j H) λk H=>bo (ay g) λm=>fld m 10 H λn H=>bnd (lda 8 h H) λo H=>bnd (unG H (C 63 [o,b,k] H.guard)) λp H=>bnd (bs 51 1 [(0,p)] H) λq H=>bnd (app 64 1 8 n q H) λu H=>bo (ay g) λv=>bo (au v 10) λw=>bnd (st 1 w u H) λ_ H=>bo (bi .add 3 b (I 1)) λy=>N9 C [h,g,d,e,y] H) (ZC (.tup [g,I 0],H)):=lpE.trans Z
def asR:Rn2 20 anN:=λ_ _ _ _ _ h=>rnG anM Tryz.func20 Z Z h
def ae6(C:aA)(a0 d:AV)(H:ah):OA:=bo (bi .lss 3 d (I 0)) λb=>gl b ZV (ZC d) H λq H=>gl b ZV (ZC a0) H λu H=>gl b ZV (ay u) H λe H=>gl b ZV (au e 10) H λg H=>gdA (ZC b) ZV (ld g H) H λh H=>gdA (ZC b) ZV (lnS h H) H λi H=>gl b ZV (bi .geq 3 q i) H λj H=>bo (bQ b (B Z0) j) λk=>aN k (ZC (zP,H)) (bo (ay a0) λm=>fld m 10 H λn H=>bnd (ix 1 n d H) λo H=>bnd (ld o H) λp H=>ZC (p,H))
def asT:Rn2 25 ae6:=λ_ _ _ _ _ h=>rnG an0 Tryz.func25 Z Z h
def akt(C:aA)(a0 w:AV)(H:ah):OA:=bnd (alc 81 [zI,zI,zI,zI,zI,zI,zI,zB,zN] H) λg H=>bnd (C 69 [a0,w] H) λb H=>bo (aG b 0) λh=>bo (aG b 1) λi=>bo (aG b 2) λj=>bnd (alc 121 [zP,zP] H) λy H=>bnd (st 2 y h H) λ_ H=>bo (un .not j) λd=>gl d ZV (ZC w) H λk H=>gl d ZV (bi .lss 3 k (I 0)) H λm H=>bo (bQ d (B Z0) m) λn=>aN n (bo (bd 81 []) λo=>bnd (st 9 g o H) λ_ H=>bnd (lda 9 g H) λp _=>ZC (.tup [p,B ZV],H)) (fld y 0 H λq H=>bnd (C 70 [q,i] H) λe H=>bo (aG e 0) λu=>bo (aG e 1) λv=>bnd (st 9 g u H) λ_ H=>bnd (lda 9 g H) λp _=>ZC (.tup [p,v],H))
def asU:Rn2 28 akt:=λ_ _ _ _ _ h=>rnG an0 Tryz.func28 Z Z h
def asV:Ann:=⟨[],[(1,ZC ZV::ZC ZV::ZC Z0::rF 3 (ZC Z0::rF 3 (ZC Z0::rF 3 (ZC Z0::rF 3 (ZC Z0::rF 3 (ZC Z0::rF 3 (ZC Z0::ZC ZV::ZC ZV::Z1::ZC ZV::[])))))))],[]⟩
def anO(C:aA)(a0:AV)(H:ah):OA:=bnd (fK 24 a0 H) λb H=>bnd (alc 31 [zI,zI,zI,zI,zI,zI,zI,zN] H) λR H=>bnd (alc 31 [zI,zI,zI,zI,zI,zI,zI,zN] H) λd H=>fld b 0 H λT H=>bnd (unG H (C 50 [T,I 4] H.guard)) λW H=>bo (bi .add 3 (I 1) W) λX=>fld b 1 H λv9 H=>bnd (unG H (C 50 [v9,I 4] H.guard)) λe H=>bo (bi .add 3 (I 1) e) λg=>fld b 2 H λh H=>bnd (unG H (C 50 [h,I 2] H.guard)) λi H=>bo (bi .add 3 (I 1) i) λj=>fld b 3 H λk H=>bnd (unG H (C 50 [k,I 2] H.guard)) λm H=>bo (bi .add 3 (I 1) m) λn=>fld b 4 H λo H=>bnd (unG H (C 50 [o,I 2] H.guard)) λp H=>bo (bi .add 3 (I 1) p) λq=>fld b 5 H λu H=>bnd (unG H (C 50 [u,I 3] H.guard)) λv H=>bo (bi .add 3 (I 1) v) λw=>fld b 6 H λy H=>bnd (unG H (C 50 [y,I 3] H.guard)) λz H=>bo (bi .add 3 (I 1) z) λA=>bo (bd 31 [(0,X),(1,g),(2,j),(3,n),(4,q),(5,w),(6,A)]) λD=>bnd (st 8 d D H) λ_ H=>fld b 7 H λE H=>fld d 1 H λF H=>fld d 2 H λG H=>bo (bi .mul 3 F G) λK=>bnd (C 74 [E,K] H) λL H=>bo (au d 7) λM=>bnd (st 1 M L H) λ_ H=>bnd (lda 8 d H) λQ H=>bnd (st 8 R Q H) λ_ H=>bnd (lda 8 R H) λr0 _=>ZC (r0,H)
def asW:Rn1 33 anO:=λ_ _ _ _ h=>rnG asV Tryz.func33 Z Z h
def anP:Ann:=⟨[(5,[1,2,5,6,7])],[(6,Z1::rF 3 (ZC Z0::ZC Z0::rF 5 (ZC Z0::rF 5 (ZC Z0::ZC ZV::Z1::ZC ZV::[])))),(9,rF 9 []),(11,rF 11 [])],[]⟩
def zO:=jv Tryz.prog Tryz.f34 84 anP 0
def Oa(C:aA)(d e g h i:AV)(H:ah):OA:=bo (bi .add 3 i (I 1)) λb=>zO C [d,e,g,h,b] H
def IV(C:aA)(D e g d h E:AV)(H:ah):OA:=fld e 8 H λi H=>bnd (ix 1 i h H) λj H=>bnd (ld j H) λk H=>fld g 0 H λm H=>bnd (C 50 [k,m] H) λb H=>bnd (ix 1 d b H) λn H=>bnd (ld n H) λo H=>bnd (lnS o H) λp H=>bo (bi .lss 3 p (I 24)) λq=>aN q (bnd (ix 1 d b H) λu H=>bnd (ld u H) λv H=>bnd (lda 3 E H) λw H=>bnd (bs 62 1 [(0,w)] H) λy H=>bnd (app 61 3 24 v y H) λz H=>bnd (ix 1 d b H) λA H=>bnd (st 1 A z H) λ_ H=>Oa C D e g d h H) (Oa C D e g d h H)
def aku(C:aA)(a0 j:AV)(H:ah):OA:=bnd (fK 24 a0 H) λi H=>bnd (lda 12 i H) λd H=>bnd (C 33 [d] H) λe H=>bnd (alc 31 [zI,zI,zI,zI,zI,zI,zI,zN] H) λg H=>bnd (st 8 g e H) λ_ H=>fld g 0 H λb H=>bnd (mks 62 1 24 [zN] b b H) λh H=>zO C [j,i,g,h,I 0] H
def aa9(C:aA)(j g i k e:AV)(H:ah):zO C [j,g,i,k,e] H= fld g 8 H λm H=>bnd (lnS m H) λn H=>bo (bi .lss 3 e n) λb=>gl b Z0 (ZC e) H λo H=>gl b Z0 (ZC j) H λp H=>gl b Z0 (bi .lss 3 o p) H λq H=>bo (bQ b q (B ZV)) λu=>aN u (bnd (bs 22 7 [(0,I 1),(1,I 2),(2,I 3),(3,I 1),(4,I 2),(5,I 1),(6,I 4)] H) λv H=>bnd (alc 61 [zI,zI,zI] H) λh H=>fld g 9 H λw H=>bnd (unG H (C 75 [w,e] H.guard)) λy H=>bnd (unG H (C 50 [y,I 7] H.guard)) λz H=>bnd (ix 1 v z H) λA H=>bnd (ld A H) λD H=>fld g 10 H λE H=>bnd (unG H (C 75 [E,e] H.guard)) λF H=>fld i 1 H λG H=>fld i 2 H λK H=>bo (bi .mul 3 G K) λL=>bnd (unG H (C 50 [F,L] H.guard)) λM H=>bo (bd 61 [(0,D),(1,M)]) λQ=>bnd (st 3 h Q H) λ_ H=>fld h 0 H λR H=>bo (bi .eql 3 R (I 2)) λd=>gl d ZV (au h 0) H λT H=>gdA (ZC d) ZV (ld T H) H λW H=>gl d ZV (bi .eql 3 W (I 3)) H λX H=>bo (bQ d (B Z0) X) λaa=>aN aa (fld g 11 H λab H=>bnd (C 75 [ab,e] H) λad H=>bo (au h 2) λae=>bnd (st 1 ae ad H) λ_ H=>IV C j g i k e h H) (IV C j g i k e h H)) (ZC (k,H)):=lpE.trans Z
def asX:Rn2 34 aku:=λ_ _ _ _ _ h=>rnG anP Tryz.func34 Z Z h
def anQ:Ann:=⟨[(6,[1,2,6,7])],[(3,ZC ZV::ZC ZV::ZC Z0::rF 3 []),(7,rF 11 (ZC Z0::rF 5 []))],[]⟩
def Ob:=jv Tryz.prog Tryz.f35 45 anQ 0
def anR(C:aA)(a0 q:AV)(H:ah):OA:=bnd (fK 31 a0 H) λd H=>bnd (lda 8 d H) λu H=>bnd (C 76 [u] H) λv H=>bo (un .not v) λb=>gdA (ZC b) ZV (lda 8 d H) H λe H=>gl b ZV (ZC q) H λg H=>gdA (ZC b) ZV (C 77 [e,g] H) H λh H=>gl b ZV (un .not h) H λi H=>bo (bQ b (B Z0) i) λj=>aN j (ZC (.tup [zP,B ZV],H)) (bnd (lda 8 d H) λk H=>bnd (lda 8 d H) λm H=>bnd (unG H (C 78 [m] H.guard)) λn H=>bo (bd 157 [(0,k),(1,n)]) λo=>bnd (fK 157 o H) λp H=>Ob C [q,d,p,I 0] H)
def abb(C:aA)(g e b d:AV)(H:ah):Ob C [g,e,b,d] H= fld e 0 H λh H=>bo (bi .lss 3 d h) λi=>aN i (bo (ay b) λj=>fld j 9 H λk H=>bnd (lda 8 e H) λm H=>bnd (ix 1 g d H) λn H=>bnd (ld n H) λo H=>bnd (unG H (C 79 [m,d,o] H.guard)) λp H=>bnd (bs 155 1 [(0,p)] H) λq H=>bnd (app 158 1 8 k q H) λu H=>bo (ay b) λv=>bo (au v 9) λw=>bnd (st 1 w u H) λ_ H=>bo (bi .add 3 d (I 1)) λy=>Ob C [g,e,b,y] H) (ZC (.tup [b,B Z0],H)):=lpE.trans Z
def asY:Rn2 35 anR:=λ_ _ _ _ _ h=>rnG anQ Tryz.func35 Z Z h
def abd(C:aA)(a0:AV)(H:ah):OA:=bo (bi .eql 22 a0 zN) λb=>aN b (ZC (zN,H)) (bnd (bs 22 0 [] H) λd H=>bnd (app 3 1 8 d a0 H) λe H=>ZC (e,H))
def ae7:Rn1 36 abd:=λ_ _ _ _ h=>rnG an0 Tryz.func36 Z Z h
def akv(C:aA)(a0 i:AV)(H:ah):OA:=bo (bi .geq 3 i (I 0)) λb=>gl b Z0 (ZC i) H λj H=>gl b Z0 (ZC a0) H λk H=>gdA (ZC b) Z0 (C 9 [k] H) H λd H=>gl b Z0 (fl d 1) H λe H=>gl b Z0 (bi .lss 3 j e) H λg H=>bo (bQ b g (B ZV)) λh=>ZC (h,H)
def asZ:Rn2 37 akv:=λ_ _ _ _ _ h=>rnG an0 Tryz.func37 Z Z h
def anS(C:aA)(a0 j:AV)(H:ah):OA:=bnd (alc 95 [zI,zI,zN] H) λk H=>bnd (C 9 [a0] H) λd H=>bnd (C 42 [d,j] H) λe H=>bnd (C 25 [a0,e] H) λg H=>bnd (C 80 [g,j] H) λb H=>bo (aG b 0) λh=>bo (aG b 1) λn=>bnd (alc 95 [zI,zI,zN] H) λm H=>bnd (st 3 m h H) λ_ H=>bnd (lda 3 m H) λi H=>bnd (st 3 k i H) λ_ H=>bnd (lda 3 k H) λo _=>ZC (o,H)
def as1:Rn2 38 anS:=λ_ _ _ _ _ h=>rnG an0 Tryz.func38 Z Z h
def akw(C:aA)(a0 o p:AV)(H:ah):OA:=bnd (alc 100 [zI,zI,zI,zI,zB,zN] H) λe H=>bnd (C 25 [a0,o] H) λb H=>bo (bi .eql 64 b zP) λg=>aN g (bo (bd 100 []) λh=>bnd (st 6 e h H) λ_ H=>bnd (lda 6 e H) λi _=>ZC (.tup [i,B ZV],H)) (bo (ay b) λj=>fld j 0 H λk H=>bnd (C 41 [k,p] H) λd H=>bo (aG d 0) λm=>bo (aG d 1) λn=>bnd (st 6 e m H) λ_ H=>bnd (lda 6 e H) λi _=>ZC (.tup [i,n],H))
def as2:Rn3 39 akw:=λ_ _ _ _ _ _ h=>rnG an0 Tryz.func39 Z Z h
def akx(C:aA)(a0 b:AV)(H:ah):OA:=bnd (C 81 [a0,b] H) λd H=>bo (bi .geq 3 d (I 0)) λe=>ZC (e,H)
def as3:Rn2 40 akx:=λ_ _ _ _ _ h=>rnG an0 Tryz.func40 Z Z h
def aky(C:aA)(a0 o:AV)(H:ah):OA:=bnd (alc 100 [zI,zI,zI,zI,zB,zN] H) λb H=>bnd (C 82 [a0,o] H) λn H=>bo (bi .lss 3 n (I 0)) λd=>aN d (bo (bd 100 []) λe=>bnd (st 6 b e H) λ_ H=>bnd (lda 6 b H) λg _=>ZC (.tup [g,B ZV],H)) (bo (ay a0) λh=>fld h 0 H λi H=>bnd (ix 6 i n H) λj H=>bnd (lda 6 j H) λk H=>bnd (C 83 [k] H) λm H=>bnd (st 6 b m H) λ_ H=>bnd (lda 6 b H) λg _=>ZC (.tup [g,B Z0],H))
def as4:Rn2 41 aky:=λ_ _ _ _ _ h=>rnG an0 Tryz.func41 Z Z h
def anT(C:aA)(a0 b:AV)(H:ah):OA:=bnd (fK 31 a0 H) λd H=>fld d 0 H λe H=>bnd (C 84 [b,e] H) λg H=>ZC (g,H)
def as5:Rn2 42 anT:=λ_ _ _ _ _ h=>rnG an0 Tryz.func42 Z Z h
def anU(C:aA)(a0 g:AV)(H:ah):OA:=bo (ay a0) λh=>bo (au h 11) λi=>fld i 0 H λj H=>bo (ay j) λb=>fld b 1 H λd H=>bnd (C 85 [d,g] H) λe H=>ZC (e,H)
def as6:Rn2 43 anU:=λ_ _ _ _ _ h=>rnG an0 Tryz.func43 Z Z h
def anV:Ann:=⟨[(5,[0,1,12,13])],[(6,rF 9 [])],[]⟩
def IW:=jv Tryz.prog Tryz.f44 26 anV 0
def akz(C:aA)(a0 e:AV)(H:ah):OA:=bnd (lnS a0 H) λg H=>bnd (lnS e H) λh H=>bo (bi .neq 3 g h) λb=>aN b (ZC (B ZV,H)) (bnd (lnS a0 H) λd H=>IW C [a0,e,d,I 0] H)
def UF(C:aA)(t0 e d b:AV)(H:ah):IW C [t0,e,d,b] H= bo (bi .lss 3 b d) λg=>aN g (bnd (ix 1 t0 b H) λh H=>bnd (ld h H) λi H=>bnd (ix 1 e b H) λj H=>bnd (ld j H) λk H=>bo (bi .neq 3 i k) λm=>aN m (ZC (B ZV,H)) (bo (bi .add 3 b (I 1)) λn=>IW C [t0,e,d,n] H)) (ZC (B Z0,H)):=lpE.trans Z
def as7:Rn2 44 akz:=λ_ _ _ _ _ h=>rnG anV Tryz.func44 Z Z h
def akA(C:aA)(a0:AV)(H:ah):OA:=bnd (fK 22 a0 H) λb H=>ZC ((.fn (.func 87) [] [b]),H)
def anW:Rn1 46 akA:=λ_ _ _ _ h=>rnG an0 Tryz.func46 Z Z h
def UG(C:aA)(a0 e:AV)(H:ah):OA:=bnd (fK 95 a0 H) λA H=>fld A 0 H λD H=>bo (bi .eql 3 D (I 0)) λE=>aN E (bnd (lnS e H) λg H=>bo (bi .eql 3 g (I 0)) λh=>ZC (h,H)) (bo (bi .eql 3 D (I 1)) λi=>aN i (bnd (lnS e H) λj H=>bo (bi .gtr 3 j (I 0)) λb=>gl b Z0 (ZC e) H λk H=>gl b Z0 (ZC (.fn (.func 89) [] [A])) H λm H=>gdA (ZC b) Z0 (C 88 [k,m] H) H λn H=>gl b Z0 (un .not n) H λo H=>bo (bQ b o (B ZV)) λp=>ZC (p,H)) (bnd (lnS e H) λq H=>bo (bi .eql 3 q (I 1)) λd=>gl d Z0 (ZC e) H λu H=>gdA (ZC d) Z0 (ix 6 u (I 0) H) H λv H=>gl d Z0 (au v 4) H λw H=>gdA (ZC d) Z0 (ld w H) H λy H=>bo (bQ d y (B ZV)) λz=>ZC (z,H)))
def as8:Rn2 47 UG:=λ_ _ _ _ _ h=>rnG an0 Tryz.func47 Z Z h
def as9:Ann:=⟨[],[(7,rF 10 (ZC Z0::ZC Z0::rF 4 []))],[]⟩
def abe(C:aA)(a0 R T W:AV)(H:ah):OA:=bnd (C 28 [a0,R] H) λe H=>bo (aG e 0) λk=>bo (aG e 1) λm=>bnd (alc 81 [zI,zI,zI,zI,zI,zI,zI,zB,zN] H) λd H=>bnd (st 9 d k H) λ_ H=>bo (un .not m) λn=>aN n (ZC (I 3,H)) (bnd (lda 9 d H) λo H=>bnd (C 90 [o,T,W] H) λg H=>bo (aG g 0) λp=>bo (aG g 1) λh=>bnd (st 9 d p H) λ_ H=>bo (bi .neq 57 h (I 0)) λq=>aN q (ZC (h,H)) (bo (ay a0) λu=>fld u 0 H λv H=>fld d 2 H λw H=>bnd (ix 4 v w H) λy H=>bnd (lda 4 y H) λz H=>fld d 0 H λA H=>bnd (unG H (C 92 [A] H.guard)) λD H=>bnd (unG H (C 91 [z,D] H.guard)) λE H=>bo (fl E 1) λF=>bnd (lda 9 d H) λG H=>bnd (C 93 [F,G] H) λi H=>bo (bi .neq 57 i (I 0)) λK=>aN K (ZC (i,H)) (bnd (C 69 [a0,R] H) λb H=>bo (aG b 0) λL=>bo (aG b 1) λM=>bo (aG b 2) λX=>bnd (alc 121 [zP,zP] H) λj H=>bnd (st 2 j L H) λ_ H=>fld j 0 H λQ H=>bnd (C 94 [Q,M] H) λaa H=>ZC (I 0,H))))
def ae8:Rn4 48 abe:=λ_ _ _ _ _ _ _ h=>rnG as9 Tryz.func48 Z Z h
def UH(C:aA)(a0 b i:AV)(H:ah):OA:=bnd (C 95 [a0,b,i] H) λd H=>aN d (ZC (I 1,H)) (bnd (C 96 [a0,b] H) λe H=>aN e (ZC (I 2,H)) (bnd (C 97 [a0,b] H) λg H=>aN g (ZC (I 3,H)) (bnd (C 98 [a0,b,i] H) λh H=>aN h (ZC (I 4,H)) (ZC (I 0,H)))))
def YJ:Rn3 49 UH:=λ_ _ _ _ _ _ h=>rnG an0 Tryz.func49 Z Z h
def Oc(C:aA)(b:AV)(H:ah):OA:=ZC (b,H)
def ae9(C:aA)(a0 d:AV)(H:ah):OA:=bo (bi .lss 3 d (I 1)) λh=>aN h (ZC (I 0,H)) (bo (bi .rem 3 a0 d) λb=>bo (bi .lss 3 b (I 0)) λe=>aN e (bo (bi .add 3 b d) λg=>Oc C g H) (Oc C b H))
def ata:Rn2 50 ae9:=λ_ _ _ _ _ h=>rnG an0 Tryz.func50 Z Z h
def anX:Ann:=⟨[(4,[3,9,10,11])],[],[]⟩
def Oe:=jv Tryz.prog Tryz.f51 24 anX 0
def anY(C:aA)(a0:AV)(H:ah):OA:=bo (ay a0) λe=>fld e 0 H λd H=>bnd (lnS d H) λb H=>Oe C [zN,d,b,I 0] H
def abf(C:aA)(e g d b:AV)(H:ah):Oe C [e,g,d,b] H= bo (bi .lss 3 b d) λh=>aN h (bnd (ix 4 g b H) λi H=>bnd (lda 4 i H) λj H=>bnd (alc 142 [zP,zP,zP,zP] H) λk H=>bnd (st 4 k j H) λ_ H=>bo (au k 0) λm=>bnd (lda 2 m H) λn H=>bo (au k 2) λo=>bnd (lda 2 o H) λp H=>bnd (bs 116 2 [(0,n),(1,p)] H) λq H=>bnd (app 121 2 16 e q H) λu H=>bo (bi .add 3 b (I 1)) λv=>Oe C [u,g,d,v] H) (ZC (e,H)):=lpE.trans Z
def atb:Rn1 51 anY:=λ_ _ _ _ h=>rnG anX Tryz.func51 Z Z h
def anZ(C:aA)(a0:AV)(H:ah):OA:=bo (ay a0) λb=>fld b 0 H λd H=>bnd (lnS d H) λe H=>ZC (e,H)
def atc:Rn1 52 anZ:=λ_ _ _ _ h=>rnG an0 Tryz.func52 Z Z h
def afa(C:aA)(a0 n:AV)(H:ah):OA:=bnd (fK 25 a0 H) λj H=>bnd (fK 3 n H) λk H=>bnd (ld j H) λo H=>bnd (ld k H) λp H=>bnd (C 11 [o,p] H) λm H=>bnd (C 99 [m,(.fn (.func 100) [] [j,k])] H) λd H=>bo (un .not d) λb=>gl b ZV (ZC m) H λe H=>gdA (ZC b) ZV (lnS e H) H λg H=>gl b ZV (bi .eql 3 g (I 1)) H λh H=>bo (bQ b (B Z0) h) λi=>ZC (i,H)
def atd:Rn2 53 afa:=λ_ _ _ _ _ h=>rnG an0 Tryz.func53 Z Z h
def akB(C:aA)(a0 g h:AV)(H:ah):OA:=bnd (fK 31 a0 H) λi H=>bnd (lda 8 i H) λd H=>bnd (C 101 [d,g,h] H) λb H=>bo (aG b 0) λj=>bo (aG b 1) λe=>ZC (e,H)
def ate:Rn3 54 akB:=λ_ _ _ _ _ _ h=>rnG an0 Tryz.func54 Z Z h
def an1(C:aA)(a0:AV)(H:ah):OA:=bo (ay a0) λb=>fld b 0 H λd H=>bnd (C 102 [d] H) λe H=>ZC (e,H)
def atf:Rn1 55 an1:=λ_ _ _ _ h=>rnG an0 Tryz.func55 Z Z h
def akC(C:aA)(a0 j k:AV)(H:ah):OA:=bnd (fK 31 a0 H) λm H=>bnd (lda 8 m H) λd H=>bnd (C 101 [d,j,k] H) λb H=>bo (aG b 0) λe=>bo (aG b 1) λg=>bo (un .not g) λh=>aN h (ZC (zN,H)) (bnd (C 103 [e] H) λi H=>ZC (i,H))
def an2:Rn3 56 akC:=λ_ _ _ _ _ _ h=>rnG an0 Tryz.func56 Z Z h
def an3(C:aA)(a0:AV)(H:ah):OA:=bnd (fK 31 a0 H) λb H=>fld b 1 H λd H=>fld b 2 H λe H=>bo (bi .mul 3 d e) λg=>ZC (g,H)
def atg:Rn1 57 an3:=λ_ _ _ _ h=>rnG an0 Tryz.func57 Z Z h
def an4:Ann:=⟨[(3,[0,1,2,14,15,16])],[],[]⟩
def IX:=jv Tryz.prog Tryz.f58 51 an4 0
def an5(C:aA)(a0 e g:AV)(H:ah):OA:=bnd (C 11 [a0,e] H) λb H=>bnd (lnS b H) λd H=>IX C [a0,e,g,b,d,I 0] H
def abg(C:aA)(t0 j m g h e:AV)(H:ah):IX C [t0,j,m,g,h,e] H= bo (bi .lss 3 e h) λn=>aN n (bnd (ix 1 g e H) λo H=>bnd (ld o H) λp H=>bnd (C 39 [t0,p,j] H) λk H=>bo (aG k 0) λq=>bo (aG k 1) λW=>bnd (alc 100 [zI,zI,zI,zI,zB,zN] H) λT H=>bnd (st 6 T q H) λ_ H=>fld T 5 H λu H=>bnd (C 44 [u,m] H) λv H=>bo (un .not v) λw=>aN w (ZC (B ZV,H)) (bo (bi .add 3 e (I 1)) λy=>IX C [t0,j,m,g,h,y] H)) (bnd (C 38 [t0,j] H) λz H=>bnd (alc 95 [zI,zI,zN] H) λi H=>bnd (st 3 i z H) λ_ H=>fld i 0 H λA H=>bo (bi .eql 3 A (I 2)) λb=>gl b ZV (ZC t0) H λD H=>gl b ZV (ZC j) H λE H=>gdA (ZC b) ZV (C 12 [D,E] H) H λF H=>gl b ZV (bi .neq 3 F (I (-1))) H λG H=>bo (bQ b (B Z0) G) λd=>gl d ZV (au i 2) H λK H=>gdA (ZC d) ZV (ld K H) H λL H=>gl d ZV (ZC m) H λM H=>gdA (ZC d) ZV (C 44 [L,M] H) H λQ H=>bo (bQ d (B Z0) Q) λR=>ZC (R,H)):=lpE.trans Z
def ath:Rn3 58 an5:=λ_ _ _ _ _ _ h=>rnG an4 Tryz.func58 Z Z h
def an6(C:aA)(a0:AV)(H:ah):OA:=bnd (fK 31 a0 H) λd H=>fld d 0 H λv7 H=>bnd (C 104 [v7,I 6] H) λk H=>gl k Z0 (au d 1) H λm H=>gdA (ZC k) Z0 (ld m H) H λn H=>gdA (ZC k) Z0 (C 104 [n,I 8] H) H λo H=>bo (bQ k o (B ZV)) λe=>gl e Z0 (au d 2) H λp H=>gdA (ZC e) Z0 (ld p H) H λq H=>gdA (ZC e) Z0 (C 104 [q,I 4] H) H λu H=>bo (bQ e u (B ZV)) λv=>fld d 3 H λw H=>bnd (C 104 [w,I 4] H) λg H=>gl g Z0 (au d 4) H λy H=>gdA (ZC g) Z0 (ld y H) H λz H=>gdA (ZC g) Z0 (C 104 [z,I 3] H) H λA H=>bo (bQ g A (B ZV)) λD=>fld d 5 H λE H=>bnd (C 104 [E,I 8] H) λh H=>gl h Z0 (au d 6) H λF H=>gdA (ZC h) Z0 (ld F H) H λG H=>gdA (ZC h) Z0 (C 104 [G,I 8] H) H λK H=>bo (bQ h K (B ZV)) λL=>bo (un .not v) λi=>gl i ZV (ZC D) H λM H=>gl i ZV (un .not M) H λQ H=>bo (bQ i (B Z0) Q) λj=>gl j ZV (ZC L) H λR H=>gl j ZV (un .not R) H λT H=>bo (bQ j (B Z0) T) λb=>gl b ZV (au d 7) H λW H=>gdA (ZC b) ZV (ld W H) H λX H=>gdA (ZC b) ZV (lnS X H) H λaa H=>gl b ZV (au d 1) H λab H=>gdA (ZC b) ZV (ld ab H) H λad H=>gl b ZV (au d 2) H λae H=>gdA (ZC b) ZV (ld ae H) H λaf H=>gl b ZV (bi .mul 3 ad af) H λag H=>gl b ZV (bi .gtr 3 aa ag) H λai H=>bo (bQ b (B Z0) ai) λal=>aN al (ZC (I 1,H)) (ZC (I 0,H))
def ati:Rn1 59 an6:=λ_ _ _ _ h=>rnG an0 Tryz.func59 Z Z h
def afb(C:aA)(a0 k:AV)(H:ah):OA:=bnd (fK 31 a0 H) λm H=>bnd (C 105 [k,(.fn (.func 106) [] [m])] H) λb H=>gl b ZV (ZC k) H λd H=>gdA (ZC b) ZV (lnS d H) H λe H=>gl b ZV (au m 0) H λg H=>gdA (ZC b) ZV (ld g H) H λh H=>gl b ZV (bi .neq 3 e h) H λi H=>bo (bQ b (B Z0) i) λj=>aN j (ZC (I 1,H)) (ZC (I 0,H))
def atj:Rn2 60 afb:=λ_ _ _ _ _ h=>rnG an0 Tryz.func60 Z Z h
def an7:Ann:=⟨[(4,[1,3,7,8])],[(4,rF 7 (ZC Z0::ZC ZV::ZC ZV::ZC Z0::rF 3 (ZC Z0::ZC Z0::rF 7 [])))],[]⟩
def Og:=jv Tryz.prog Tryz.f61 34 an7 0
def an8(C:aA)(a0:AV)(H:ah):OA:=bnd (fK 31 a0 H) λb H=>bo (bd 145 []) λd=>bnd (fK 145 d H) λe H=>fld b 0 H λg H=>Og C [b,e,g,I 0] H
def abh(C:aA)(b d e g:AV)(H:ah):Og C [b,d,e,g] H= bo (bi .lss 3 g e) λF=>aN F (bo (ay d) λh=>fld h 0 H λi H=>fld b 5 H λj H=>bnd (unG H (C 110 [j] H.guard)) λk H=>fld b 6 H λm H=>bnd (unG H (C 111 [m] H.guard)) λn H=>bo (bd 121 [(0,k),(1,n)]) λo=>fld b 5 H λp H=>bnd (unG H (C 110 [p] H.guard)) λq H=>bnd (unG H (C 111 [I 1] H.guard)) λu H=>bo (bd 121 [(0,q),(1,u)]) λv=>bo (bd 142 [(0,o),(1,v)]) λw=>bnd (bs 143 1 [(0,w)] H) λy H=>bnd (app 142 4 32 i y H) λz H=>bo (ay d) λA=>bo (au A 0) λD=>bnd (st 1 D z H) λ_ H=>bo (bi .add 3 g (I 1)) λE=>Og C [b,d,e,E] H) (ZC (d,H)):=lpE.trans Z
def atl:Rn1 61 an8:=λ_ _ _ _ h=>rnG an7 Tryz.func61 Z Z h
def an9(C:aA)(H:ah):OA:=bo (bd 186 []) λb=>bnd (fK 186 b H) λd H=>ZC (d,H)
def atm:Rn0 62 an9:=λ_ _ _ h=>rnG an0 Tryz.func62 Z Z h
def atn:Ann:=⟨[],[(1,rF 4 (ZC Z0::ZC ZV::ZC Z0::rF 4 (ZC Z0::rF 4 [])))],[]⟩
def aoa(C:aA)(a0 o p:AV)(H:ah):OA:=bnd (fK 31 a0 H) λb H=>fld b 3 H λq H=>fld b 4 H λd H=>bnd (unG H (C 112 [q,d] H.guard)) λe H=>bnd (unG H (C 113 [p] H.guard)) λg H=>bnd (lda 8 b H) λh H=>bnd (lda 8 b H) λi H=>bnd (unG H (C 114 [i,o] H.guard)) λj H=>bo (bd 71 [(0,j)]) λk=>bo (bd 75 [(0,e),(1,g),(2,h),(3,o),(4,k)]) λm=>bnd (fK 75 m H) λn H=>ZC (n,H)
def ato:Rn3 63 aoa:=λ_ _ _ _ _ _ h=>rnG atn Tryz.func63 Z Z h
def aob(C:aA)(a0:AV)(H:ah):OA:=bo (ay a0) λb=>fld b 2 H λd H=>ZC (d,H)
def atp:Rn1 64 aob:=λ_ _ _ _ h=>rnG an0 Tryz.func64 Z Z h
def atq:Ann:=⟨[],[(1,rF 12 [])],[]⟩
def aoc(C:aA)(a0:AV)(H:ah):OA:=bo (ay a0) λg=>fld g 0 H λh H=>bnd (lnS h H) λi H=>bo (ay a0) λj=>fld j 1 H λb H=>bnd (lnS b H) λd H=>bo (bi .sub 3 i d) λe=>ZC (e,H)
def atr:Rn1 66 aoc:=λ_ _ _ _ h=>rnG atq Tryz.func66 Z Z h
def aod:Ann:=⟨[(3,[1,4,10,11,12])],[],[]⟩
def Oh:=jv Tryz.prog Tryz.f69 34 aod 0
def YK(C:aA)(a0 e:AV)(H:ah):OA:=bnd (alc 121 [zP,zP] H) λg H=>bnd (C 51 [a0] H) λb H=>bnd (lnS b H) λd H=>Oh C [e,g,b,d,I 0] H
def abj(C:aA)(i h e g d:AV)(H:ah):Oh C [i,h,e,g,d] H= bo (bi .lss 3 d g) λk=>aN k (bnd (ix 2 e d H) λm H=>bnd (lda 2 m H) λn H=>bnd (alc 121 [zP,zP] H) λj H=>bnd (st 2 j n H) λ_ H=>bo (bi .geq 3 i (I 0)) λb=>gl b Z0 (ZC i) H λo H=>gl b Z0 (au j 0) H λp H=>gdA (ZC b) Z0 (ld p H) H λq H=>gdA (ZC b) Z0 (C 52 [q] H) H λu H=>gl b Z0 (bi .lss 3 o u) H λv H=>bo (bQ b v (B ZV)) λw=>aN w (bnd (lda 2 j H) λy H=>bnd (st 2 h y H) λ_ H=>bnd (lda 2 h H) λz _=>ZC (.tup [z,i,B Z0],H)) (fld j 0 H λA H=>bnd (C 52 [A] H) λD H=>bo (bi .sub 3 i D) λE=>bo (bi .add 3 d (I 1)) λF=>Oh C [E,h,e,g,F] H)) (bo (bd 121 []) λG=>bnd (st 2 h G H) λ_ H=>bnd (lda 2 h H) λz _=>ZC (.tup [z,I 0,B ZV],H)):=lpE.trans Z
def att:Rn2 69 YK:=λ_ _ _ _ _ h=>rnG aod Tryz.func69 Z Z h
def afc(C:aA)(a0 e:AV)(H:ah):OA:=bnd (alc 81 [zI,zI,zI,zI,zI,zI,zI,zB,zN] H) λd H=>bo (bi .lss 3 e (I 0)) λb=>gl b ZV (ZC e) H λz H=>gl b ZV (ZC a0) H λg H=>gl b ZV (ay g) H λh H=>gl b ZV (au h 0) H λi H=>gdA (ZC b) ZV (ld i H) H λj H=>gdA (ZC b) ZV (lnS j H) H λk H=>gl b ZV (bi .geq 3 z k) H λm H=>bo (bQ b (B Z0) m) λn=>aN n (bo (bd 81 []) λo=>bnd (st 9 d o H) λ_ H=>bnd (lda 9 d H) λp _=>ZC (.tup [p,B ZV],H)) (bo (ay a0) λq=>fld q 0 H λu H=>bnd (ix 9 u e H) λv H=>bnd (lda 9 v H) λw H=>bnd (C 116 [w] H) λy H=>bnd (st 9 d y H) λ_ H=>bnd (lda 9 d H) λp _=>ZC (.tup [p,B Z0],H))
def atu:Rn2 70 afc:=λ_ _ _ _ _ h=>rnG an0 Tryz.func70 Z Z h
def akD(C:aA)(a0 k:AV)(H:ah):OA:=bo (bi .geq 3 k (I 0)) λb=>gl b Z0 (ZC k) H λm H=>gl b Z0 (ZC a0) H λn H=>gl b Z0 (ay n) H λd H=>gl b Z0 (au d 0) H λe H=>gdA (ZC b) Z0 (ld e H) H λg H=>gdA (ZC b) Z0 (lnS g H) H λh H=>gl b Z0 (bi .lss 3 m h) H λi H=>bo (bQ b i (B ZV)) λj=>ZC (j,H)
def atv:Rn2 71 akD:=λ_ _ _ _ _ h=>rnG an0 Tryz.func71 Z Z h
def aoe(C:aA)(a0 e:AV)(H:ah):OA:=bnd (lnS a0 H) λg H=>bnd (fU (kH Tryz.prog ZV #[3,3] 3 [g,e]) H) λh H=>bo (slS 1 a0 Z1 (ZC h) Z1) λb=>bnd (C 119 [b] H) λd H=>ZC (d,H)
def atw:Rn2 74 aoe:=λ_ _ _ _ _ h=>rnG an0 Tryz.func74 Z Z h
def akE(C:aA)(a0 e:AV)(H:ah):OA:=bnd (lnS a0 H) λg H=>bo (bi .lss 3 e g) λh=>aN h (bnd (ix 1 a0 e H) λb H=>bnd (ld b H) λd H=>ZC (d,H)) (ZC (I 0,H))
def atx:Rn2 75 akE:=λ_ _ _ _ _ h=>rnG an0 Tryz.func75 Z Z h
def Oi(C:aA)(a0:AV)(H:ah):OA:=bnd (fK 31 a0 H) λd H=>fld d 0 H λv4 H=>bnd (C 120 [v4,I 6] H) λk H=>gl k Z0 (au d 1) H λv7 H=>gdA (ZC k) Z0 (ld v7 H) H λv8 H=>gdA (ZC k) Z0 (C 120 [v8,I 8] H) H λv9 H=>bo (bQ k v9 (B ZV)) λe=>gl e Z0 (au d 2) H λm H=>gdA (ZC e) Z0 (ld m H) H λn H=>gdA (ZC e) Z0 (C 120 [n,I 4] H) H λo H=>bo (bQ e o (B ZV)) λg=>gl g Z0 (au d 3) H λp H=>gdA (ZC g) Z0 (ld p H) H λq H=>gdA (ZC g) Z0 (C 120 [q,I 4] H) H λu H=>bo (bQ g u (B ZV)) λh=>gl h Z0 (au d 4) H λv H=>gdA (ZC h) Z0 (ld v H) H λw H=>gdA (ZC h) Z0 (C 120 [w,I 3] H) H λy H=>bo (bQ h y (B ZV)) λi=>gl i Z0 (au d 5) H λz H=>gdA (ZC i) Z0 (ld z H) H λA H=>gdA (ZC i) Z0 (C 120 [A,I 8] H) H λD H=>bo (bQ i D (B ZV)) λj=>gl j Z0 (au d 6) H λE H=>gdA (ZC j) Z0 (ld E H) H λF H=>gdA (ZC j) Z0 (C 120 [F,I 8] H) H λG H=>bo (bQ j G (B ZV)) λb=>gl b Z0 (au d 7) H λK H=>gdA (ZC b) Z0 (ld K H) H λL H=>gdA (ZC b) Z0 (lnS L H) H λM H=>gl b Z0 (au d 1) H λQ H=>gdA (ZC b) Z0 (ld Q H) H λR H=>gl b Z0 (au d 2) H λT H=>gdA (ZC b) Z0 (ld T H) H λW H=>gl b Z0 (bi .mul 3 R W) H λX H=>gl b Z0 (bi .leq 3 M X) H λaa H=>bo (bQ b aa (B ZV)) λab=>ZC (ab,H)
def aty:Rn1 76 Oi:=λ_ _ _ _ h=>rnG an0 Tryz.func76 Z Z h
def akF:Ann:=⟨[(5,[2,14,15,16]),(10,[2,14,15,16,23,24,25])],[],[]⟩
def Dk:=jv Tryz.prog Tryz.f77 35 akF 0
def xg:=jv Tryz.prog Tryz.f77 35 akF 1
def akG(C:aA)(a0 b:AV)(H:ah):OA:=bnd (fK 31 a0 H) λi H=>bnd (lnS b H) λd H=>fld i 0 H λe H=>bo (bi .neq 3 d e) λg=>aN g (ZC (B ZV,H)) (bnd (lnS b H) λh H=>Dk C [i,b,h,I 0] H)
def Oj(C:aA)(n d e b:AV)(H:ah):Dk C [n,d,e,b] H= bo (bi .lss 3 b e) λh=>aN h (bnd (ix 1 d b H) λi H=>bnd (ld i H) λg H=>bnd (lnS g H) λj H=>bo (bi .gtr 3 j (I 24)) λk=>aN k (ZC (B ZV,H)) (bnd (lnS g H) λm H=>xg C [n,d,e,b,g,m,I 0] H)) (ZC (B Z0,H)):=lpE.trans Z
def UJ(C:aA)(j d e g h i b:AV)(H:ah):xg C [j,d,e,g,h,i,b] H= bo (bi .lss 3 b i) λk=>aN k (bnd (ix 3 h b H) λm H=>bnd (lda 3 m H) λn H=>bnd (alc 61 [zI,zI,zI] H) λy H=>bnd (st 3 y n H) λ_ H=>bnd (lda 8 j H) λo H=>bnd (lda 3 y H) λp H=>bnd (C 121 [o,p] H) λq H=>bo (un .not q) λu=>aN u (ZC (B ZV,H)) (bo (bi .add 3 b (I 1)) λv=>xg C [j,d,e,g,h,i,v] H)) (bo (bi .add 3 g (I 1)) λw=>Dk C [j,d,e,w] H):=lpE.trans Z
def atz:Rn2 77 akG:=λ_ _ _ _ _ h=>rnG akF Tryz.func77 Z Z h
def atA:Ann:=⟨[],[(1,rF 7 [])],[]⟩
def aof(C:aA)(a0:AV)(H:ah):OA:=bnd (fK 31 a0 H) λb H=>bnd (lda 8 b H) λe H=>fld b 0 H λd H=>bnd (mks 350 4 96 [zN,zN,zN,zN] d d H) λg H=>bo (bd 206 [(0,e),(1,g)]) λh=>bnd (fK 206 h H) λi H=>ZC (i,H)
def atB:Rn1 78 aof:=λ_ _ _ _ h=>rnG atA Tryz.func78 Z Z h
def atC:Ann:=⟨[],[(1,rF 6 (ZC Z0::ZC ZV::ZC ZV::ZC Z0::rF 5 []))],[(1,[(0,11)])]⟩
def aog(C:aA)(a0 p w:AV)(H:ah):OA:=bnd (fK 31 a0 H) λb H=>bnd (lda 8 b H) λy H0=>fld b 3 H0 λe z=>fld b 4 z λg q=>bnd (unG q (C 122 [e,g] q.guard)) λh A=>bnd (lda 8 b A) λi u=>bnd (unG u (C 123 [i,p] u.guard)) λj v=>bnd (app 61 3 24 zN w v) λk d=>bo (bd 213 [(0,y),(1,p),(2,h),(3,j),(4,k)]) λm=>bnd (fK 213 m d) λn o=>ck (bT b) v d <| ZC (n,o)
def atD:Rn3 79 aog:=λ_ _ _ _ _ _ h=>rnG atC Tryz.func79 Z Z h
def aoh(C:aA)(a0 k:AV)(H:ah):OA:=bnd (alc 95 [zI,zI,zN] H) λj H=>bo (ay a0) λm=>bo (au m 11) λn=>fld n 0 H λd H=>bo (ay d) λe=>fld e 0 H λg H=>bnd (C 124 [g,k] H) λb H=>bo (aG b 0) λh=>bo (aG b 1) λi=>bnd (st 3 j h H) λ_ H=>bnd (lda 3 j H) λo _=>ZC (.tup [o,i],H)
def atE:Rn2 80 aoh:=λ_ _ _ _ _ h=>rnG an0 Tryz.func80 Z Z h
def aoi:Ann:=⟨[(3,[0,1,7,8])],[],[]⟩
def IY:=jv Tryz.prog Tryz.f81 19 aoi 0
def aoj(C:aA)(a0 b:AV)(H:ah):OA:=bnd (lnS a0 H) λd H=>IY C [a0,b,d,I 0] H
def UK(C:aA)(t0 d e b:AV)(H:ah):IY C [t0,d,e,b] H= bo (bi .lss 3 b e) λk=>aN k (bnd (ix 1 t0 b H) λg H=>bnd (ld g H) λh H=>bo (bi .eql 3 d h) λi=>aN i (ZC (b,H)) (bo (bi .add 3 b (I 1)) λj=>IY C [t0,d,e,j] H)) (ZC (I (-1),H)):=lpE.trans Z
def atF:Rn2 81 aoj:=λ_ _ _ _ _ h=>rnG aoi Tryz.func81 Z Z h
def aok(C:aA)(a0 d:AV)(H:ah):OA:=bnd (fK 3 d H) λe H=>bo (ay a0) λg=>fld g 0 H λh H=>bnd (C 125 [h,(.fn (.func 126) [] [e])] H) λb H=>ZC (b,H)
def atG:Rn2 82 aok:=λ_ _ _ _ _ h=>rnG an0 Tryz.func82 Z Z h
def aol(C:aA)(a0:AV)(H:ah):OA:=bnd (fK 100 a0 H) λb H=>bnd (alc 100 [zI,zI,zI,zI,zB,zN] H) λd H=>fld b 5 H λe H=>bnd (C 36 [e] H) λg H=>bo (au b 5) λh=>bnd (st 1 h g H) λ_ H=>bnd (lda 6 b H) λi H=>bnd (st 6 d i H) λ_ H=>bnd (lda 6 d H) λj _=>ZC (j,H)
def atH:Rn1 83 aol:=λ_ _ _ _ h=>rnG an0 Tryz.func83 Z Z h
def akH(C:aA)(a0 b:AV)(H:ah):OA:=bo (bi .lss 3 a0 (I 0)) λd=>aN d (ZC (I (-1),H)) (bo (bi .rem 3 a0 b) λe=>ZC (e,H))
def atI:Rn2 84 akH:=λ_ _ _ _ _ h=>rnG an0 Tryz.func84 Z Z h
def akI(C:aA)(a0 h:AV)(H:ah):OA:=bo (ay a0) λi=>fld i 0 H λd H=>bnd (lk .i64 (.int .i64 0) d h Z0 H) λb H=>bo (aG b 0) λe=>bo (aG b 1) λg=>aN g (ZC (e,H)) (ZC (I (-1),H))
def atJ:Rn2 85 akI:=λ_ _ _ _ _ h=>rnG an0 Tryz.func85 Z Z h
def akJ(C:aA)(a0 b:AV)(H:ah):OA:=bnd (C 125 [a0,b] H) λd H=>bo (bi .geq 3 d (I 0)) λe=>ZC (e,H)
def atK:Rn2 88 akJ:=λ_ _ _ _ _ h=>rnG an0 Tryz.func88 Z Z h
def akK(C:aA)(a0 j:AV)(H:ah):OA:=bnd (fK 100 a0 H) λi H=>fld i 4 H λb H=>gl b ZV (au i 5) H λk H=>gdA (ZC b) ZV (ld k H) H λm H=>gl b ZV (au j 2) H λn H=>gdA (ZC b) ZV (ld n H) H λd H=>gdA (ZC b) ZV (C 44 [m,d] H) H λe H=>gl b ZV (un .not e) H λg H=>bo (bQ b (B Z0) g) λh=>ZC (h,H)
def atL:Rn2 89 akK:=λ_ _ _ _ _ h=>rnG an0 Tryz.func89 Z Z h
def akL(C:aA)(a0 q u:AV)(H:ah):OA:=bnd (fK 81 a0 H) λv H=>bnd (alc 81 [zI,zI,zI,zI,zI,zI,zI,zB,zN] H) λe H=>bnd (lda 9 v H) λg H=>bnd (C 128 [g] H) λb H=>bo (aG b 0) λh=>bo (aG b 1) λi=>bo (bi .neq 57 i (I 0)) λj=>aN j (bo (bd 81 []) λk=>bnd (st 9 e k H) λ_ H=>bnd (lda 9 e H) λm _=>ZC (.tup [m,I 2],H)) (bnd (C 130 [h,q,u] H) λn H=>bnd (C 129 [n] H) λd H=>bo (aG d 0) λo=>bo (aG d 1) λp=>bnd (st 9 e o H) λ_ H=>bnd (lda 9 e H) λm _=>ZC (.tup [m,p],H))
def aom:Rn3 90 akL:=λ_ _ _ _ _ _ h=>rnG an0 Tryz.func90 Z Z h
def akM(C:aA)(a0 g:AV)(H:ah):OA:=bnd (fK 142 a0 H) λe H=>bnd (alc 121 [zP,zP] H) λb H=>aN g (bo (au e 0) λh=>bnd (lda 2 h H) λi H=>bnd (st 2 b i H) λ_ H=>bnd (lda 2 b H) λd _=>ZC (d,H)) (bo (au e 2) λj=>bnd (lda 2 j H) λk H=>bnd (st 2 b k H) λ_ H=>bnd (lda 2 b H) λd _=>ZC (d,H))
def atN:Rn2 91 akM:=λ_ _ _ _ _ h=>rnG an0 Tryz.func91 Z Z h
def akN(C:aA)(a0:AV)(H:ah):OA:=bo (bi .geq 3 a0 (I 1)) λb=>gl b Z0 (ZC a0) H λd H=>gl b Z0 (bi .leq 3 d (I 6)) H λe H=>bo (bQ b e (B ZV)) λg=>ZC (g,H)
def atO:Rn1 92 akN:=λ_ _ _ _ h=>rnG an0 Tryz.func92 Z Z h
def atP:Ann:=⟨[],[(3,rF 6 (ZC Z0::rF 5 []))],[]⟩
def akO(C:aA)(a0 m:AV)(H:ah):OA:=bnd (fK 81 m H) λn H=>bnd (C 131 [a0] H) λo H=>bo (bi .eql 3 o (I 0)) λp=>aN p (ZC (I 5,H)) (bo (ay a0) λb=>fld b 0 H λd H=>bnd (lda 9 n H) λe H=>bnd (unG H (C 132 [e] H.guard)) λg H=>bnd (bs 175 1 [(0,g)] H) λh H=>bnd (app 81 9 88 d h H) λi H=>bo (ay a0) λj=>bo (au j 0) λk=>bnd (st 1 k i H) λ_ H=>ZC (I 0,H))
def aon:Rn2 93 akO:=λ_ _ _ _ _ h=>rnG atP Tryz.func93 Z Z h
def UL(C:aA)(d e g:AV)(H:ah):OA:=bnd (lda 9 e H) λb H=>bnd (st 9 d b H) λ_ H=>bnd (lda 9 d H) λh _=>ZC (.tup [h,g],H)
def aoo(C:aA)(a0 e:AV)(H:ah):OA:=bnd (alc 81 [zI,zI,zI,zI,zI,zI,zI,zB,zN] H) λp H=>bnd (C 70 [a0,e] H) λd H=>bo (aG d 0) λg=>bo (aG d 1) λb=>bnd (alc 81 [zI,zI,zI,zI,zI,zI,zI,zB,zN] H) λh H=>bnd (st 9 h g H) λ_ H=>aN b (bo (ay a0) λi=>fld i 0 H λj H=>bo (bi .add 3 e (I 1)) λk=>bnd (C 133 [j,e,k] H) λm H=>bo (ay a0) λn=>bo (au n 0) λo=>bnd (st 1 o m H) λ_ H=>UL C p h b H) (UL C p h b H)
def atQ:Rn2 94 aoo:=λ_ _ _ _ _ h=>rnG an0 Tryz.func94 Z Z h
def IZ(C:aA)(t0 b:AV)(H:ah):OA:=bnd (C 139 [t0,b] H) λd H=>ZC (B Z0,H)
def Ol(C:aA)(a0 m a2:AV)(H:ah):OA:=bo (ay a0) λn=>fld n 10 H λo H=>bnd (C 134 [m,o] H) λi H=>bo (aG i 0) λp=>bo (aG i 1) λq=>bnd (alc 81 [zI,zI,zI,zI,zI,zI,zI,zB,zN] H) λv7 H=>bnd (st 9 v7 p H) λ_ H=>bo (un .not q) λu=>aN u (ZC (B ZV,H)) (bnd (lda 9 v7 H) λv H=>bnd (C 135 [a0,v] H) λj H=>bo (aG j 0) λw=>bo (aG j 1) λy=>bnd (alc 73 [zI,zI,zI,zI,zI,zI,zN,zI,zI] H) λg H=>bnd (st 9 g w H) λ_ H=>bo (un .not y) λz=>aN z (ZC (B Z0,H)) (bnd (lda 9 g H) λA H=>bo (ay a0) λD=>bo (au D 12) λE=>bnd (st 9 E A H) λ_ H=>bo (ay a0) λF=>fld F 1 H λG H=>bnd (C 136 [G] H) λh H=>bo (aG h 0) λK=>bo (aG h 1) λam=>bo (aG h 2) λao=>bnd (alc 61 [zI,zI,zI] H) λk H=>bnd (st 3 k K H) λ_ H=>fld g 3 H λL H=>bo (bi .eql 3 L (I 0)) λb=>gl b Z0 (au g 0) H λM H=>gdA (ZC b) Z0 (ld M H) H λQ H=>gl b Z0 (bi .eql 3 Q (I 3)) H λR H=>bo (bQ b R (B ZV)) λd=>gl d Z0 (au k 0) H λT H=>gdA (ZC d) Z0 (ld T H) H λW H=>gl d Z0 (bi .eql 3 W (I 4)) H λX H=>bo (bQ d X (B ZV)) λaa=>aN aa (bnd (C 137 [a0,a2,I 0] H) λap H=>ZC (B Z0,H)) (fld g 3 H λab H=>bo (bi .eql 3 ab (I 0)) λad=>aN ad (ZC (B Z0,H)) (fld g 3 H λae H=>bo (bi .eql 3 ae (I 6)) λe=>gl e Z0 (au g 0) H λaf H=>gdA (ZC e) Z0 (ld af H) H λag H=>gl e Z0 (bi .neq 3 ag (I 3)) H λai H=>bo (bQ e ai (B ZV)) λal=>aN al (bnd (C 138 [a0,a2] H) λaq H=>IZ C a0 m H) (IZ C a0 m H)))))
def YL:Rn3 95 Ol:=λ_ _ _ _ _ _ h=>rnG an0 Tryz.func95 Z Z h
def afd(C:aA)(a0 z:AV)(H:ah):OA:=bo (ay a0) λD=>bo (au D 11) λE=>fld E 0 H λe H=>bnd (C 140 [e] H) λg H=>bo (un .not g) λb=>gl b ZV (ZC z) H λh H=>gl b ZV (ZC a0) H λi H=>gl b ZV (ay i) H λj H=>gl b ZV (au j 10) H λk H=>gdA (ZC b) ZV (ld k H) H λm H=>gdA (ZC b) ZV (C 141 [h,m,B ZV] H) H λn H=>gl b ZV (bi .eql 3 n (I 0)) H λo H=>bo (bQ b (B Z0) o) λp=>aN p (ZC (B ZV,H)) (bo (ay a0) λq=>bo (au q 11) λu=>fld u 0 H λv H=>bnd (C 142 [v] H) λd H=>bo (aG d 0) λw=>bo (aG d 1) λF=>bnd (alc 81 [zI,zI,zI,zI,zI,zI,zI,zB,zN] H) λA H=>bnd (st 9 A w H) λ_ H=>bnd (lda 9 A H) λy H=>bnd (C 143 [z,y] H) λG H=>ZC (B Z0,H))
def akP:Rn2 96 afd:=λ_ _ _ _ _ h=>rnG an0 Tryz.func96 Z Z h
def Om(C:aA)(H:ah):OA:=ZC (B Z0,H)
def abk(C:aA)(a0 e:AV)(H:ah):OA:=bo (ay a0) λg=>fld g 10 H λh H=>bnd (C 141 [e,h,B ZV] H) λi H=>bo (bi .eql 3 i (I 0)) λj=>aN j (ZC (B ZV,H)) (bo (ay a0) λk=>fld k 10 H λm H=>bnd (C 144 [e,m] H) λb H=>bo (aG b 0) λn=>bo (aG b 1) λo=>bnd (alc 81 [zI,zI,zI,zI,zI,zI,zI,zB,zN] H) λy H=>bnd (st 9 y n H) λ_ H=>bo (un .not o) λp=>aN p (ZC (B ZV,H)) (bnd (lda 9 y H) λq H=>bnd (C 145 [a0,q] H) λd H=>bo (aG d 0) λu=>bo (aG d 1) λv=>bnd (alc 81 [zI,zI,zI,zI,zI,zI,zI,zB,zN] H) λz H=>bnd (st 9 z u H) λ_ H=>aN v (bnd (lda 9 z H) λw H=>bnd (C 143 [e,w] H) λA H=>Om C H) (Om C H)))
def afe:Rn2 97 abk:=λ_ _ _ _ _ h=>rnG an0 Tryz.func97 Z Z h
def atS:Ann:=⟨[],[(7,rF 12 [])],[]⟩
def mF(C:aA)(H:ah):OA:=ZC (B Z0,H)
def pI(C:aA)(t0 w t2 h:AV)(H:ah):OA:=bo (ay t0) λy=>bo (au y 2) λz=>bnd (lda 8 z H) λA H=>fld h 1 H λD H=>bnd (C 148 [A,D] H) λi H=>bo (aG i 0) λb=>bo (aG i 1) λap=>bo (ay t0) λE=>fld E 0 H λF H=>bnd (C 41 [F,b] H) λj H=>bo (aG j 0) λG=>bo (aG j 1) λd=>bnd (alc 100 [zI,zI,zI,zI,zB,zN] H) λk H=>bnd (st 6 k G H) λ_ H=>fld h 0 H λK H=>bo (bi .eql 3 K (I 4)) λe=>gl e Z0 (ZC d) H λL H=>gl e Z0 (un .not L) H λM H=>bo (bQ e M (B ZV)) λQ=>aN Q (bnd (C 137 [t0,t2,I 0] H) λaq H=>mF C H) (fld h 0 H λR H=>bo (bi .eql 3 R (I 4)) λT=>aN T (bnd (C 149 [t0,w,I 3,b] H) λar H=>mF C H) (gl d Z0 (au h 0) H λW H=>gdA (ZC d) Z0 (ld W H) H λX H=>gl d Z0 (bi .eql 3 X (I 1)) H λaa H=>gl d Z0 (ZC aa) H λg H=>gl g ZV (au k 4) H λab H=>gdA (ZC g) ZV (ld ab H) H λad H=>gl d Z0 (bQ g (B Z0) ad) H λae H=>bo (bQ d ae (B ZV)) λm=>aN m (bo (ay t0) λn=>fld n 0 H λo H=>bnd (C 150 [o,b] H) λaw H=>bnd (C 138 [t0,t2] H) λax H=>mF C H) (bo (ay t0) λp=>fld p 0 H λaf H=>bnd (C 151 [af,b] H) λag H=>aN ag (bo (ay t0) λq=>fld q 0 H λai H=>bnd (C 152 [ai,b] H) λu H=>bo (aG u 0) λal=>bo (aG u 1) λao=>bnd (C 149 [t0,w,I 3,al] H) λaz H=>mF C H) (fld h 0 H λam H=>bo (bi .eql 3 am (I 1)) λv=>aN v (bnd (C 149 [t0,w,I 1,b] H) λaD H=>mF C H) (bnd (C 149 [t0,w,I 2,b] H) λaE H=>mF C H)))))
def abl(C:aA)(a0 L e:AV)(H:ah):OA:=bo (ay a0) λg=>fld g 1 H λh H=>bnd (C 136 [h] H) λd H=>bo (aG d 0) λi=>bo (aG d 1) λj=>bo (aG d 2) λk=>bnd (alc 61 [zI,zI,zI] H) λm H=>bnd (st 3 m i H) λ_ H=>bo (un .not k) λb=>gl b ZV (ZC a0) H λn H=>gl b ZV (ay n) H λo H=>gl b ZV (au o 12) H λp H=>gl b ZV (au p 3) H λq H=>gdA (ZC b) ZV (ld q H) H λu H=>gl b ZV (bi .neq 3 u (I 0)) H λv H=>bo (bQ b (B Z0) v) λw=>aN w (ZC (B ZV,H)) (bo (ay a0) λy=>fld y 1 H λz H=>bnd (C 64 [z] H) λA H=>bo (un .not A) λD=>aN D (bo (ay a0) λE=>fld E 1 H λF H=>bnd (C 146 [F] H) λM H=>bo (ay a0) λG=>fld G 10 H λK H=>bnd (C 147 [e,K,j] H) λQ H=>pI C a0 L e m H) (pI C a0 L e m H))
def aff:Rn3 98 abl:=λ_ _ _ _ _ _ h=>rnG atS Tryz.func98 Z Z h
def akQ(C:aA)(a0 b:AV)(H:ah):OA:=bnd (C 153 [a0,b] H) λd H=>bo (bi .geq 3 d (I 0)) λe=>ZC (e,H)
def atU:Rn2 99 akQ:=λ_ _ _ _ _ h=>rnG an0 Tryz.func99 Z Z h
def ahN(C:aA)(a0 i j:AV)(H:ah):OA:=bnd (ld i H) λk H=>bnd (ld j H) λd H=>bnd (C 39 [k,a0,d] H) λb H=>bo (aG b 0) λe=>bo (aG b 1) λm=>bnd (alc 100 [zI,zI,zI,zI,zB,zN] H) λh H=>bnd (st 6 h e H) λ_ H=>fld h 4 H λg H=>ZC (g,H)
def aoq:Rn3 100 ahN:=λ_ _ _ _ _ _ h=>rnG an0 Tryz.func100 Z Z h
def ahO:Ann:=⟨[(6,[1,8,26,27,28])],[(7,rF 9 []),(10,rF 16 [])],[]⟩
def nG:=jv Tryz.prog Tryz.f101 68 ahO 0
def Fe(C:aA)(h i b d e:AV)(H:ah):OA:=bo (bi .add 3 e (I 1)) λg=>nG C [h,i,b,d,g] H
def QS(C:aA)(a0 v d:AV)(H:ah):OA:=bnd (fK 31 a0 H) λe H=>bnd (lda 8 e H) λg H=>bnd (C 60 [g,v] H) λh H=>bo (bi .neq 57 h (I 0)) λb=>gl b ZV (au e 0) H λi H=>gdA (ZC b) ZV (ld i H) H λj H=>gl b ZV (ZC d) H λk H=>gdA (ZC b) ZV (C 154 [j,k] H) H λm H=>gl b ZV (un .not m) H λn H=>bo (bQ b (B Z0) n) λo=>aN o (ZC (.tup [zP,B ZV],H)) (bnd (lda 8 e H) λp H=>bnd (C 155 [p] H) λq H=>bnd (lnS d H) λu H=>nG C [v,q,d,u,I 0] H)
def A8(C:aA)(i j g h d:AV)(H:ah):nG C [i,j,g,h,d] H= bo (bi .lss 3 d h) λm=>aN m (bnd (ix 4 g d H) λn H=>bnd (lda 4 n H) λo H=>bnd (alc 184 [zI,zI,zB,zI] H) λb H=>bnd (st 4 b o H) λ_ H=>fld b 1 H λp H=>fld b 0 H λq H=>bnd (ix 1 i q H) λu H=>bnd (ld u H) λv H=>bnd (lnS v H) λw H=>bo (bi .geq 3 p w) λy=>aN y (ZC (.tup [zP,B ZV],H)) (fld b 2 H λz H=>bo (un .not z) λA=>aN A (Fe C i j g h d H) (fld b 0 H λD H=>bnd (ix 1 i D H) λE H=>bnd (ld E H) λF H=>fld b 1 H λG H=>bnd (ix 3 F G H) λK H=>bnd (lda 3 K H) λL H=>bnd (C 156 [j,L] H) λk H=>bo (aG k 0) λM=>bo (aG k 1) λQ=>bo (bi .neq 57 Q (I 0)) λe=>gl e ZV (ZC M) H λR H=>gl e ZV (au b 3) H λT H=>gdA (ZC e) ZV (ld T H) H λW H=>gl e ZV (bi .neq 3 R W) H λX H=>bo (bQ e (B Z0) X) λaa=>aN aa (ZC (.tup [zP,B ZV],H)) (Fe C i j g h d H)))) (ZC (.tup [j,B Z0],H)):=lpE.trans Z
def WE:Rn3 101 QS:=λ_ _ _ _ _ _ h=>rnG ahO Tryz.func101 Z Z h
def WG(C:aA)(a0:AV)(H:ah):OA:=bo (bi .eql 123 a0 zN) λb=>aN b (ZC (zN,H)) (bnd (bs 123 0 [] H) λd H=>bnd (app 184 4 32 d a0 H) λe H=>ZC (e,H))
def abm:Rn1 102 WG:=λ_ _ _ _ h=>rnG an0 Tryz.func102 Z Z h
def ahP(C:aA)(a0:AV)(H:ah):OA:=bo (ay a0) λb=>fld b 8 H λd H=>bnd (C 36 [d] H) λe H=>ZC (e,H)
def aor:Rn1 103 ahP:=λ_ _ _ _ h=>rnG an0 Tryz.func103 Z Z h
def abn(C:aA)(a0 g:AV)(H:ah):OA:=bo (bi .geq 3 a0 (I 1)) λb=>gl b Z0 (ZC a0) H λh H=>gl b Z0 (ZC g) H λi H=>gl b Z0 (bi .leq 3 h i) H λd H=>bo (bQ b d (B ZV)) λe=>ZC (e,H)
def aos:Rn2 104 abn:=λ_ _ _ _ _ h=>rnG an0 Tryz.func104 Z Z h
def ahQ(C:aA)(a0 b:AV)(H:ah):OA:=bnd (C 157 [a0,b] H) λd H=>bo (bi .geq 3 d (I 0)) λe=>ZC (e,H)
def aot:Rn2 105 ahQ:=λ_ _ _ _ _ h=>rnG an0 Tryz.func105 Z Z h
def abo(C:aA)(a0 g:AV)(H:ah):OA:=bnd (lnS a0 H) λh H=>bo (bi .gtr 3 h (I 24)) λb=>gl b ZV (ZC a0) H λi H=>gl b ZV (ZC (.fn (.func 108) [] [g])) H λj H=>gdA (ZC b) ZV (C 107 [i,j] H) H λd H=>bo (bQ b (B Z0) d) λe=>ZC (e,H)
def aou:Rn2 106 abo:=λ_ _ _ _ _ h=>rnG an0 Tryz.func106 Z Z h
def ahR(C:aA)(a0 b:AV)(H:ah):OA:=bnd (C 158 [a0,b] H) λd H=>bo (bi .geq 3 d (I 0)) λe=>ZC (e,H)
def aov:Rn2 107 ahR:=λ_ _ _ _ _ h=>rnG an0 Tryz.func107 Z Z h
def ahS(C:aA)(a0 b:AV)(H:ah):OA:=bnd (fK 61 a0 H) λd H=>bnd (lda 8 b H) λe H=>bnd (lda 3 d H) λg H=>bnd (C 109 [e,g] H) λh H=>bo (un .not h) λi=>ZC (i,H)
def aow:Rn2 108 ahS:=λ_ _ _ _ _ h=>rnG an0 Tryz.func108 Z Z h
def Eh(C:aA)(a0 R:AV)(H:ah):OA:=bnd (fK 31 a0 H) λT H=>bnd (fK 61 R H) λi H=>bnd (lda 8 T H) λW H=>fld i 1 H λk H=>bnd (C 148 [W,k] H) λj H=>bo (aG j 0) λm=>bo (aG j 1) λX=>fld i 0 H λn H=>bo (bi .geq 3 n (I 1)) λd=>gl d Z0 (au i 0) H λo H=>gdA (ZC d) Z0 (ld o H) H λp H=>gl d Z0 (bi .leq 3 p (I 4)) H λq H=>bo (bQ d q (B ZV)) λh=>gl h Z0 (ZC m) H λu H=>gl h Z0 (bi .neq 3 u (I (-1))) H λv H=>bo (bQ h v (B ZV)) λb=>gl b Z0 (au i 2) H λw H=>gdA (ZC b) Z0 (ld w H) H λy H=>gl b Z0 (bi .eql 3 y (I 0)) H λz H=>gl b Z0 (ZC z) H λe H=>gl e ZV (au i 0) H λA H=>gdA (ZC e) ZV (ld A H) H λD H=>gl e ZV (bi .eql 3 D (I 2)) H λE H=>gl b Z0 (bQ e (B Z0) E) H λF H=>gl b Z0 (ZC F) H λg H=>gl g ZV (au i 0) H λG H=>gdA (ZC g) ZV (ld G H) H λK H=>gl g ZV (bi .eql 3 K (I 3)) H λL H=>gl b Z0 (bQ g (B Z0) L) H λM H=>bo (bQ b M (B ZV)) λQ=>ZC (Q,H)
def aox:Rn2 109 Eh:=λ_ _ _ _ _ h=>rnG an0 Tryz.func109 Z Z h
def ahT(C:aA)(a0:AV)(H:ah):OA:=bnd (fU (kH Tryz.prog Z0 #[3,3] 3 [I 0,a0]) H) λb H=>bo (bd 177 [(1,b)]) λd=>bnd (fK 177 d H) λe H=>ZC (e,H)
def aoy:Rn1 110 ahT:=λ_ _ _ _ h=>rnG an0 Tryz.func110 Z Z h
def ahU(C:aA)(a0:AV)(H:ah):OA:=bnd (fU (kH Tryz.prog Z0 #[3,3] 3 [I 0,a0]) H) λb H=>bo (bd 200 [(1,b)]) λd=>bnd (fK 200 d H) λe H=>ZC (e,H)
def aoz:Rn1 111 ahU:=λ_ _ _ _ h=>rnG an0 Tryz.func111 Z Z h
def ahV(C:aA)(a0 d:AV)(H:ah):OA:=bnd (fU (kH Tryz.prog Z0 #[3,3] 3 [I 1,a0]) H) λe H=>bnd (fU (kH Tryz.prog Z0 #[3,3] 3 [I 1,d]) H) λg H=>bo (bd 147 [(1,e),(2,g)]) λh=>bnd (fK 147 h H) λb H=>ZC (b,H)
def aoA:Rn2 112 ahV:=λ_ _ _ _ _ h=>rnG an0 Tryz.func112 Z Z h
def ahW(C:aA)(a0:AV)(H:ah):OA:=bnd (C 159 [a0] H) λb H=>bo (bd 135 [(0,b)]) λd=>bnd (fK 135 d H) λe H=>ZC (e,H)
def aoB:Rn1 113 ahW:=λ_ _ _ _ h=>rnG an0 Tryz.func113 Z Z h
def aoC:Ann:=⟨[],[(1,ZC ZV::ZC ZV::ZC Z0::ZC Z0::rF 5 [])],[]⟩
def ahX(C:aA)(a0 e:AV)(H:ah):OA:=bnd (fK 31 a0 H) λg H=>bnd (lda 8 g H) λh H=>bnd (unG H (C 160 [h,e] H.guard)) λi H=>bnd (unG H (C 161 [] H.guard)) λj H=>bnd (lda 8 g H) λk H=>bo (bd 166 [(0,i),(1,j),(2,k),(3,e)]) λb=>bnd (fK 166 b H) λd H=>ZC (d,H)
def aoD:Rn2 114 ahX:=λ_ _ _ _ _ h=>rnG aoC Tryz.func114 Z Z h
def ahY(C:aA)(a0:AV)(H:ah):OA:=bnd (fK 81 a0 H) λb H=>bnd (alc 81 [zI,zI,zI,zI,zI,zI,zI,zB,zN] H) λd H=>fld b 8 H λe H=>bnd (C 36 [e] H) λg H=>bo (au b 8) λh=>bnd (st 1 h g H) λ_ H=>bnd (lda 9 b H) λi H=>bnd (st 9 d i H) λ_ H=>bnd (lda 9 d H) λj _=>ZC (j,H)
def aoE:Rn1 116 ahY:=λ_ _ _ _ h=>rnG an0 Tryz.func116 Z Z h
def abp(C:aA)(a0:AV)(H:ah):OA:=bnd (app 3 1 8 zN a0 H) λb H=>ZC (b,H)
def ahZ:Rn1 119 abp:=λ_ _ _ _ h=>rnG an0 Tryz.func119 Z Z h
def abq(C:aA)(a0 g:AV)(H:ah):OA:=bo (bi .geq 3 a0 (I 1)) λb=>gl b Z0 (ZC a0) H λh H=>gl b Z0 (ZC g) H λi H=>gl b Z0 (bi .leq 3 h i) H λd H=>bo (bQ b d (B ZV)) λe=>ZC (e,H)
def aoF:Rn2 120 abq:=λ_ _ _ _ _ h=>rnG an0 Tryz.func120 Z Z h
def Ba(C:aA)(a0 a1:AV)(H:ah):OA:=bnd (fK 31 a0 H) λv2 H=>bnd (fK 61 a1 H) λi H=>fld i 0 H λv6 H=>bo (bi .geq 3 v6 (I 1)) λj=>gl j Z0 (au i 0) H λv9 H=>gdA (ZC j) Z0 (ld v9 H) H λk H=>gl j Z0 (bi .leq 3 k (I 4)) H λm H=>bo (bQ j m (B ZV)) λe=>gl e Z0 (au i 1) H λn H=>gdA (ZC e) Z0 (ld n H) H λo H=>gl e Z0 (bi .geq 3 o (I 0)) H λp H=>bo (bQ e p (B ZV)) λb=>gl b Z0 (au i 1) H λq H=>gdA (ZC b) Z0 (ld q H) H λu H=>gl b Z0 (au v2 1) H λv H=>gdA (ZC b) Z0 (ld v H) H λw H=>gl b Z0 (au v2 2) H λy H=>gdA (ZC b) Z0 (ld y H) H λz H=>gl b Z0 (bi .mul 3 w z) H λA H=>gl b Z0 (bi .lss 3 u A) H λD H=>bo (bQ b D (B ZV)) λd=>gl d Z0 (au i 2) H λE H=>gdA (ZC d) Z0 (ld E H) H λF H=>gl d Z0 (bi .eql 3 F (I 0)) H λG H=>gl d Z0 (ZC G) H λg H=>gl g ZV (au i 0) H λK H=>gdA (ZC g) ZV (ld K H) H λL H=>gl g ZV (bi .eql 3 L (I 2)) H λM H=>gl d Z0 (bQ g (B Z0) M) H λQ H=>gl d Z0 (ZC Q) H λh H=>gl h ZV (au i 0) H λR H=>gdA (ZC h) ZV (ld R H) H λT H=>gl h ZV (bi .eql 3 T (I 3)) H λW H=>gl d Z0 (bQ h (B Z0) W) H λX H=>bo (bQ d X (B ZV)) λaa=>ZC (aa,H)
def aoG:Rn2 121 Ba:=λ_ _ _ _ _ h=>rnG an0 Tryz.func121 Z Z h
def ah0(C:aA)(a0 d:AV)(H:ah):OA:=bnd (fU (kH Tryz.prog Z0 #[3,3] 3 [a0,I 1]) H) λe H=>bnd (fU (kH Tryz.prog Z0 #[3,3] 3 [d,I 1]) H) λg H=>bo (bd 265 [(0,e),(1,g)]) λh=>bnd (fK 265 h H) λb H=>ZC (b,H)
def aoH:Rn2 122 ah0:=λ_ _ _ _ _ h=>rnG an0 Tryz.func122 Z Z h
def ah1:Ann:=⟨[(4,[2,5,6])],[(5,rF 7 (ZC Z0::rF 6 []))],[]⟩
def Fg:=jv Tryz.prog Tryz.f123 31 ah1 0
def ah2(C:aA)(a0 e:AV)(H:ah):OA:=bnd (fK 31 a0 H) λd H=>bnd (lda 8 d H) λg H=>bo (bd 272 [(0,g),(1,e)]) λh=>bnd (fK 272 h H) λb H=>Fg C [d,b,I 0] H
def WH(C:aA)(d b e:AV)(H:ah):Fg C [d,b,e] H= fld d 1 H λg H=>bo (bi .lss 3 e g) λh=>aN h (bo (ay b) λi=>fld i 9 H λj H=>bnd (lda 8 d H) λk H=>bnd (unG H (C 173 [k,e] H.guard)) λm H=>bo (bd 274 [(0,I 0),(1,I (-1)),(2,m)]) λn=>bnd (bs 266 1 [(0,n)] H) λo H=>bnd (app 274 3 40 j o H) λp H=>bo (ay b) λq=>bo (au q 9) λu=>bnd (st 1 u p H) λ_ H=>bo (bi .add 3 e (I 1)) λv=>Fg C [d,b,v] H) (ZC (b,H)):=lpE.trans Z
def aoI:Rn2 123 ah2:=λ_ _ _ _ _ h=>rnG ah1 Tryz.func123 Z Z h
def abr(C:aA)(a0 p:AV)(H:ah):OA:=bnd (alc 95 [zI,zI,zN] H) λo H=>bo (ay a0) λe=>fld e 8 H λg H=>bnd (lk .i64 (.agg #[.int .i64 0,.int .i64 0,.slice Z1 0 0]) g p Z0 H) λb H=>bo (aG b 0) λh=>bo (aG b 1) λi=>bnd (alc 95 [zI,zI,zN] H) λd H=>bnd (st 3 d h H) λ_ H=>fld d 2 H λj H=>bnd (C 36 [j] H) λk H=>bo (au d 2) λm=>bnd (st 1 m k H) λ_ H=>bnd (lda 3 d H) λn H=>bnd (st 3 o n H) λ_ H=>bnd (lda 3 o H) λq _=>ZC (.tup [q,i],H)
def aoJ:Rn2 124 abr:=λ_ _ _ _ _ h=>rnG an0 Tryz.func124 Z Z h
def ah3:Ann:=⟨[(3,[0,1,7,8])],[],[]⟩
def Fh:=jv Tryz.prog Tryz.f125 19 ah3 0
def ah4(C:aA)(a0 b:AV)(H:ah):OA:=bnd (lnS a0 H) λd H=>Fh C [a0,b,d,I 0] H
def WI(C:aA)(t0 d e b:AV)(H:ah):Fh C [t0,d,e,b] H= bo (bi .lss 3 b e) λk=>aN k (bnd (ix 6 t0 b H) λg H=>bnd (lda 6 g H) λh H=>bnd (qC Tryz.prog C d [h] H) λi H=>aN i (ZC (b,H)) (bo (bi .add 3 b (I 1)) λj=>Fh C [t0,d,e,j] H)) (ZC (I (-1),H)):=lpE.trans Z
def aoK:Rn2 125 ah4:=λ_ _ _ _ _ h=>rnG ah3 Tryz.func125 Z Z h
def ah5(C:aA)(a0 b:AV)(H:ah):OA:=bnd (fK 100 a0 H) λd H=>fld d 2 H λe H=>bnd (ld b H) λg H=>bo (bi .eql 3 e g) λh=>ZC (h,H)
def aoL:Rn2 126 ah5:=λ_ _ _ _ _ h=>rnG an0 Tryz.func126 Z Z h
def ah6:Ann:=⟨[(7,[5,48,49,50])],[(4,rF 28 (ZC Z0::rF 6 []))],[]⟩
def Fj:=jv Tryz.prog Tryz.f128 61 ah6 0
def ah7(C:aA)(a0:AV)(H:ah):OA:=bnd (fK 81 a0 H) λb H=>bnd (lda 9 b H) λW H=>bnd (C 174 [W] H) λT H=>bo (bi .neq 57 T (I 0)) λe=>aN e (ZC (.tup [zN,T],H)) (fld b 0 H λg H=>bnd (cv 3 5 g H) λh H=>fld b 1 H λi H=>bnd (cv 3 5 i H) λj H=>fld b 2 H λk H=>bnd (cv 3 5 k H) λm H=>fld b 3 H λn H=>bo (bi .shr 3 n (.s (Go.Value.int Go.IntKind.u64 8))) λo=>bnd (cv 3 5 o H) λp H=>fld b 3 H λq H=>bnd (cv 3 5 q H) λu H=>fld b 4 H λv H=>bnd (cv 3 5 v H) λw H=>fld b 5 H λy H=>bo (bi .add 3 y (I 1)) λz=>bnd (cv 3 5 z H) λA H=>fld b 6 H λD H=>bnd (cv 3 5 D H) λE H=>fld b 7 H λF H=>bnd (unG H (C 175 [F] H.guard)) λG H=>fld b 8 H λK H=>bnd (lnS K H) λL H=>bnd (cv 3 5 L H) λM H=>bnd (bs 220 10 [(0,h),(1,j),(2,m),(3,p),(4,u),(5,w),(6,A),(7,E),(8,G),(9,M)] H) λQ H=>fld b 8 H λd H=>bnd (lnS d H) λR H=>Fj C [Q,d,R,I 0] H)
def WJ(C:aA)(g d e b:AV)(H:ah):Fj C [g,d,e,b] H= bo (bi .lss 3 b e) λh=>aN h (bnd (ix 1 d b H) λi H=>bnd (ld i H) λj H=>bnd (C 176 [j] H) λk H=>bnd (app 5 1 1 g k H) λm H=>bo (bi .add 3 b (I 1)) λn=>Fj C [m,d,e,n] H) (bnd (C 177 [g] H) λo H=>ZC (.tup [o,I 0],H)):=lpE.trans Z
def aoM:Rn1 128 ah7:=λ_ _ _ _ h=>rnG ah6 Tryz.func128 Z Z h
def aoN:Ann:=⟨[],[(4,rF 40 (Z1::ZC ZV::[]))],[]⟩
def abt:Code:=Tryz.f129.body.getD .skip
def ah8(C:aA)(a0:AV)(H:ah):OA:=bnd (alc 81 [zI,zI,zI,zI,zI,zI,zI,zB,zN] H) λv2 H=>bnd (C 178 [a0] H) λg H=>bo (aG g 0) λb=>bo (aG g 1) λh=>bo (un .not h) λe=>gl e ZV (ZC b) H λi H=>gdA (ZC e) ZV (lnS i H) H λj H=>gl e ZV (bi .lss 3 j (I 10)) H λk H=>bo (bQ e (B Z0) k) λd=>gl d ZV (ZC b) H λm H=>gdA (ZC d) ZV (lnS m H) H λn H=>gl d ZV (ZC b) H λo H=>gdA (ZC d) ZV (ix 1 o (I 9) H) H λp H=>gdA (ZC d) ZV (ld p H) H λq H=>gdA (ZC d) ZV (cv 5 3 q H) H λu H=>gl d ZV (bi .mul 3 (I 8) u) H λv H=>gl d ZV (bi .add 3 (I 10) v) H λw H=>gl d ZV (bi .neq 3 n w) H λy H=>bo (bQ d (B Z0) y) λz=>aN z (bo (bd 81 []) λA=>bnd (st 9 v2 A H) λ_ H=>bnd (lda 9 v2 H) λr0 _=>ZC (.tup [r0,I 2],H)) (bnd (alc 81 [zI,zI,zI,zI,zI,zI,zI,zB,zN] H) λv6 H=>bnd (ix 1 b (I 0) H) λD H=>bnd (ld D H) λE H=>bnd (cv 5 3 E H) λF H=>bnd (ix 1 b (I 1) H) λG H=>bnd (ld G H) λK H=>bnd (cv 5 3 K H) λL H=>bnd (ix 1 b (I 2) H) λM H=>bnd (ld M H) λQ H=>bnd (cv 5 3 Q H) λR H=>bnd (ix 1 b (I 3) H) λT H=>bnd (ld T H) λW H=>bnd (cv 5 3 W H) λX H=>bo (bi .shl 3 X (.s (Go.Value.int Go.IntKind.u64 8))) λaa=>bnd (ix 1 b (I 4) H) λab H=>bnd (ld ab H) λad H=>bnd (cv 5 3 ad H) λae H=>bo (bi .or 3 aa ae) λaf=>bnd (ix 1 b (I 5) H) λag H=>bnd (ld ag H) λai H=>bnd (cv 5 3 ai H) λal H=>bnd (ix 1 b (I 6) H) λam H=>bnd (ld am H) λao H=>bnd (cv 5 3 ao H) λap H=>bo (bi .sub 3 ap (I 1)) λaq=>bnd (ix 1 b (I 7) H) λar H=>bnd (ld ar H) λaw H=>bnd (cv 5 3 aw H) λax H=>bnd (ix 1 b (I 8) H) λaz H=>bnd (ld az H) λaD H=>bo (bi .eql 5 aD (.s (Go.Value.int Go.IntKind.u8 1))) λaE=>bo (bd 81 [(0,F),(1,L),(2,R),(3,af),(4,al),(5,aq),(6,ax),(7,aE)]) λaL=>bnd (st 9 v6 aL H) λ_ H=>bo (slS 1 b (ZC (I 10)) Z1 Z1) λaM=>bnd (C 179 [aM,I 8] H) λaR H=>Z1)
def aoO:Rn1 129 ah8:=λ_ _ _ _ h=>rnG aoN Tryz.func129 Z Z h
def ah9:Ann:=⟨[(4,[1,2,7,13,14])],[(7,rF 17 [])],[]⟩
def Fp:=jv Tryz.prog Tryz.f130 45 ah9 0
def x9(C:aA)(g h i b d:AV)(H:ah):OA:=bo (bi .add 3 d (I 1)) λe=>Fp C [g,h,i,b,e] H
def aia(C:aA)(a0 e g:AV)(H:ah):OA:=bnd (C 182 [a0] H) λb H=>bnd (lnS b H) λd H=>Fp C [e,g,b,d,I 0] H
def WL(C:aA)(i j h d b:AV)(H:ah):Fp C [i,j,h,d,b] H= bo (bi .lss 3 b d) λk=>aN k (bo (bi .mul 3 (I 8) b) λm=>bo (bi .sub 3 m i) λe=>bo (bi .leq 3 e (I (-8))) λg=>gl g ZV (ZC e) H λn H=>gl g ZV (bi .geq 3 n (I 16)) H λo H=>bo (bQ g (B Z0) o) λp=>aN p (x9 C i j h d b H) (bnd (ix 1 h b H) λq H=>bnd (ld q H) λu H=>bnd (cv 42 260 j H) λv H=>bo (bi .shl 260 v (.s (Go.Value.int Go.IntKind.u64 8))) λw=>bo (bi .add 3 e (I 8)) λy=>bo (bi .shl 260 w y) λz=>bo (bi .shr 260 z (.s (Go.Value.int Go.IntKind.u64 24))) λA=>bnd (cv 260 5 A H) λD H=>bo (bi .xor 5 u D) λE=>bnd (ix 1 h b H) λF H=>bnd (st 1 F E H) λ_ H=>x9 C i j h d b H)) (ZC (h,H)):=lpE.trans Z
def aoP:Rn3 130 aia:=λ_ _ _ _ _ _ h=>rnG ah9 Tryz.func130 Z Z h
def aoQ:Ann:=⟨[],[(1,rF 11 [])],[]⟩
def aib(C:aA)(a0:AV)(H:ah):OA:=bo (ay a0) λg=>fld g 1 H λh H=>bo (ay a0) λi=>fld i 0 H λb H=>bnd (lnS b H) λd H=>bo (bi .sub 3 h d) λe=>ZC (e,H)
def aoR:Rn1 131 aib:=λ_ _ _ _ h=>rnG aoQ Tryz.func131 Z Z h
def aic(C:aA)(a0:AV)(H:ah):OA:=bnd (fK 81 a0 H) λb H=>bnd (alc 81 [zI,zI,zI,zI,zI,zI,zI,zB,zN] H) λd H=>fld b 8 H λe H=>bnd (C 36 [e] H) λg H=>bo (au b 8) λh=>bnd (st 1 h g H) λ_ H=>bnd (lda 9 b H) λi H=>bnd (st 9 d i H) λ_ H=>bnd (lda 9 d H) λj _=>ZC (j,H)
def aoS:Rn1 132 aic:=λ_ _ _ _ h=>rnG an0 Tryz.func132 Z Z h
def aoT:Ann:=⟨[],[(5,rF 8 [])],[]⟩
def aie(C:aA)(a0 d e:AV)(H:ah):OA:=bnd (lnS a0 H) λg H=>bo (slS 9 a0 (ZC d) (ZC e) (ZC g)) λo=>bo (bi .eql 3 d e) λh=>aN h (ZC (a0,H)) (bnd (lnS a0 H) λi H=>bo (slS 9 a0 Z1 (ZC d) Z1) λj=>bo (slS 9 a0 (ZC e) Z1 Z1) λk=>bnd (app 81 9 88 j k H) λb H=>bnd (lnS b H) λm H=>bo (slS 9 b (ZC m) (ZC i) Z1) λn=>bnd (clr 9 [zI,zI,zI,zI,zI,zI,zI,zB,zN] n H) λ_ H=>ZC (b,H))
def aoU:Rn3 133 aie:=λ_ _ _ _ _ _ h=>rnG aoT Tryz.func133 Z Z h
def aif(C:aA)(a0 g:AV)(H:ah):OA:=bnd (alc 81 [zI,zI,zI,zI,zI,zI,zI,zB,zN] H) λd H=>bnd (C 183 [a0,g,B ZV] H) λe H=>bo (aG e 0) λh=>bo (aG e 1) λb=>bnd (st 9 d h H) λ_ H=>bnd (lda 9 d H) λi _=>ZC (.tup [i,b],H)
def aoV:Rn2 134 aif:=λ_ _ _ _ _ h=>rnG an0 Tryz.func134 Z Z h
def aoW:Ann:=⟨[],[(3,rF 18 []),(5,rF 18 []),(7,rF 18 [])],[]⟩
def QT(C:aA)(a0 a1:AV)(H:ah):OA:=bnd (fK 81 a1 H) λj H=>bnd (alc 73 [zI,zI,zI,zI,zI,zI,zN,zI,zI] H) λb H=>bo (ay a0) λv7=>bo (au v7 12) λv8=>fld v8 0 H λd H=>bo (bi .eql 3 d (I 1)) λk=>aN k (bo (ay a0) λm=>bo (au m 12) λn=>bnd (lda 9 n H) λo H=>bo (ay a0) λp=>fld p 10 H λq H=>bo (ay a0) λu=>fld u 0 H λv H=>bnd (lda 9 j H) λw H=>bnd (C 184 [o,q,v,w] H) λg H=>bo (aG g 0) λy=>bo (aG g 1) λz=>bnd (st 9 b y H) λ_ H=>bnd (lda 9 b H) λe _=>ZC (.tup [e,z],H)) (bo (bi .eql 3 d (I 2)) λA=>aN A (bo (ay a0) λD=>bo (au D 12) λE=>bnd (lda 9 E H) λF H=>bo (ay a0) λG=>fld G 10 H λK H=>bo (ay a0) λL=>fld L 0 H λM H=>bnd (lda 9 j H) λQ H=>bnd (C 185 [F,K,M,Q] H) λh H=>bo (aG h 0) λR=>bo (aG h 1) λT=>bnd (st 9 b R H) λ_ H=>bnd (lda 9 b H) λe _=>ZC (.tup [e,T],H)) (bo (bi .eql 3 d (I 3)) λW=>aN W (bo (ay a0) λX=>bo (au X 12) λaa=>bnd (lda 9 aa H) λab H=>bo (ay a0) λad=>fld ad 10 H λae H=>bo (ay a0) λaf=>fld af 0 H λag H=>bnd (lda 9 j H) λai H=>bnd (C 186 [ab,ae,ag,ai] H) λi H=>bo (aG i 0) λal=>bo (aG i 1) λam=>bnd (st 9 b al H) λ_ H=>bnd (lda 9 b H) λe _=>ZC (.tup [e,am],H)) (bo (bd 73 []) λao=>bnd (st 9 b ao H) λ_ H=>bnd (lda 9 b H) λe _=>ZC (.tup [e,B ZV],H))))
def WM:Rn2 135 QT:=λ_ _ _ _ _ h=>rnG aoW Tryz.func135 Z Z h
def aoX:Ann:=⟨[],[(3,rF 19 [])],[(3,[(14,16),(15,16)])]⟩
def abu(C:aA)(a0:AV)(H:ah):OA:=bnd (alc 61 [zI,zI,zI] H) λh H=>bnd (C 66 [a0] H) λz H=>bo (bi .eql 3 z (I 0)) λA=>aN A (bo (bd 61 []) λD=>bnd (st 3 h D H) λ_ H=>bnd (lda 3 h H) λi _=>ZC (.tup [i,I 0,B ZV],H)) (bo (ay a0) λj=>fld j 0 H λk E=>bo (ay a0) λm=>fld m 1 E λn F=>bnd (lnS n F) λo G=>bnd (ix 3 k o G) λp K=>bnd (lda 3 p K) λq u=>bo (ay a0) λv=>bo (au v 1) λe=>bnd (ld e u) λg w=>bnd (lnS g w) λy d=>bnd (st 3 h q d) λ_ b=>ck (bT e) d b <| ck (bT g) d b <| bnd (lda 3 h b) λi _=>ZC (.tup [i,y,B Z0],b))
def aoY:Rn1 136 abu:=λ_ _ _ _ h=>rnG aoX Tryz.func136 Z Z h
def aii(C:aA)(a0 o n:AV)(H:ah):OA:=bo (ay a0) λd=>fld d 1 H λe H=>bnd (C 136 [e] H) λb H=>bo (aG b 0) λg=>bo (aG b 1) λh=>bo (aG b 2) λp=>bnd (alc 61 [zI,zI,zI] H) λq H=>bnd (st 3 q g H) λ_ H=>bo (ay a0) λi=>fld i 1 H λj H=>bnd (C 187 [j,n] H) λu H=>bo (ay a0) λk=>fld k 10 H λm H=>bnd (C 188 [o,m,h,n] H) λv H=>ZC (.tup [],H)
def aoZ:Rn3 137 aii:=λ_ _ _ _ _ _ h=>rnG an0 Tryz.func137 Z Z h
def ao0:Ann:=⟨[],[(1,rF 12 []),(9,rF 6 [])],[]⟩
def Fq(C:aA)(t0 d b:AV)(H:ah):OA:=bnd (C 137 [t0,d,b] H) λe H=>ZC (.tup [],H)
def vG(C:aA)(t0 j k m b:AV)(H:ah):OA:=bo (ay t0) λd=>fld d 0 H λe H=>bnd (lda 6 m H) λg H=>bnd (C 191 [e,g] H) λn H=>fld k 0 H λh H=>bo (bi .eql 3 h (I 2)) λi=>aN i (Fq C t0 j (I 0) H) (Fq C t0 j b H)
def WO(C:aA)(a0 m:AV)(H:ah):OA:=bo (ay a0) λn=>fld n 1 H λo H=>bnd (C 136 [o] H) λe H=>bo (aG e 0) λp=>bo (aG e 1) λQ=>bo (aG e 2) λR=>bnd (alc 61 [zI,zI,zI] H) λd H=>bnd (st 3 d p H) λ_ H=>bo (ay a0) λq=>bo (au q 2) λu=>bnd (lda 8 u H) λv H=>fld d 1 H λw H=>bnd (C 148 [v,w] H) λi H=>bo (aG i 0) λy=>bo (aG i 1) λg=>bo (ay a0) λz=>fld z 0 H λA H=>bnd (C 41 [A,y] H) λj H=>bo (aG j 0) λD=>bo (aG j 1) λT=>bnd (alc 100 [zI,zI,zI,zI,zB,zN] H) λh H=>bnd (st 6 h D H) λ_ H=>bnd (lda 6 h H) λE H=>bnd (C 189 [E,g] H) λb H=>fld d 0 H λk H=>bo (bi .eql 3 k (I 2)) λF=>aN F (fld d 2 H λG H=>bnd (C 190 [h,g,G] H) λW H=>vG C a0 m d h b H) (bo (bi .eql 3 k (I 3)) λK=>aN K (fld d 2 H λL H=>bo (bi .add 3 b L) λM=>bnd (C 190 [h,g,M] H) λX H=>vG C a0 m d h b H) (vG C a0 m d h b H))
def abv:Rn2 138 WO:=λ_ _ _ _ _ h=>rnG ao0 Tryz.func138 Z Z h
def ao1:Ann:=⟨[],[(0,rF 18 (ZC Z0::ZC ZV::ZC ZV::[]))],[]⟩
def aij(C:aA)(a0 o:AV)(H:ah):OA:=bo (ay a0) λp=>bo (au p 12) λq=>bnd (lda 9 q H) λu H=>bo (ay a0) λb=>fld b 10 H λd H=>bo (ay a0) λe=>bo (au e 2) λg=>bnd (lda 8 g H) λh H=>bo (ay a0) λi=>bo (au i 12) λj=>fld j 1 H λk H=>bnd (unG H (C 42 [h,k] H.guard)) λm H=>bnd (C 192 [u,d,m] H) λn H=>bnd (C 143 [o,n] H) λv H=>ZC (.tup [],H)
def ao2:Rn2 139 aij:=λ_ _ _ _ _ h=>rnG ao1 Tryz.func139 Z Z h
def abw(C:aA)(a0:AV)(H:ah):OA:=bo (ay a0) λb=>fld b 1 H λd H=>bnd (C 193 [d] H) λe H=>bnd (lnS e H) λg H=>bo (bi .gtr 3 g (I 0)) λh=>ZC (h,H)
def ao3:Rn1 140 abw:=λ_ _ _ _ h=>rnG an0 Tryz.func140 Z Z h
def abx(C:aA)(a0 m n:AV)(H:ah):OA:=bnd (C 71 [a0,m] H) λo H=>bo (un .not o) λb=>aN b (ZC (I 0,H)) (bo (ay a0) λd=>fld d 0 H λe H=>bnd (ix 4 e m H) λg H=>bnd (lda 4 g H) λh H=>bnd (C 91 [h,n] H) λi H=>bo (fl i 0) λj=>bnd (C 194 [j] H) λk H=>ZC (k,H))
def ao4:Rn3 141 abx:=λ_ _ _ _ _ _ h=>rnG an0 Tryz.func141 Z Z h
def aik:Ann:=⟨[(3,[0,2,13,14,15])],[],[]⟩
def Oo:=jv Tryz.prog Tryz.f142 37 aik 0
def aby(C:aA)(a0:AV)(H:ah):OA:=bnd (alc 81 [zI,zI,zI,zI,zI,zI,zI,zB,zN] H) λh H=>bo (ay a0) λd=>fld d 1 H λe H=>bnd (C 193 [e] H) λb H=>bnd (lnS b H) λg H=>Oo C [a0,h,b,g,I 0] H
def WQ(C:aA)(t0 h d e b:AV)(H:ah):Oo C [t0,h,d,e,b] H= bo (bi .lss 3 b e) λj=>aN j (bnd (ix 1 d b H) λk H=>bnd (ld k H) λi H=>bo (ay t0) λm=>fld m 1 H λn H=>bnd (C 195 [n,i] H) λg H=>bo (aG g 0) λo=>bo (aG g 1) λp=>bo (aG g 2) λq=>aN q (bnd (C 196 [t0,i,o,p] H) λu H=>bnd (st 9 h u H) λ_ H=>bnd (lda 9 h H) λv _=>ZC (.tup [v,B Z0],H)) (bo (bi .add 3 b (I 1)) λw=>Oo C [t0,h,d,e,w] H)) (bo (bd 81 []) λy=>bnd (st 9 h y H) λ_ H=>bnd (lda 9 h H) λv _=>ZC (.tup [v,B ZV],H)):=lpE.trans Z
def ao5:Rn1 142 aby:=λ_ _ _ _ h=>rnG aik Tryz.func142 Z Z h
def ao6:Ann:=⟨[],[(3,rF 10 (ZC Z0::ZC Z0::rF 4 []))],[]⟩
def QU(C:aA)(a0 L:AV)(H:ah):OA:=bnd (fK 81 L H) λd H=>bnd (lda 9 d H) λM H=>bnd (C 174 [M] H) λQ H=>bo (bi .neq 57 Q (I 0)) λe=>gl e ZV (ZC a0) H λR H=>gl e ZV (au d 1) H λg H=>gdA (ZC e) ZV (ld g H) H λh H=>gdA (ZC e) ZV (C 71 [R,h] H) H λi H=>gl e ZV (un .not i) H λj H=>bo (bQ e (B Z0) j) λb=>gl b ZV (ZC a0) H λk H=>gl b ZV (au d 2) H λm H=>gdA (ZC b) ZV (ld m H) H λn H=>gdA (ZC b) ZV (C 71 [k,n] H) H λo H=>gl b ZV (un .not o) H λp H=>bo (bQ b (B Z0) p) λq=>aN q (ZC (I 1,H)) (bo (ay a0) λu=>fld u 0 H λv H=>fld d 1 H λw H=>bnd (ix 4 v w H) λy H=>bnd (lda 4 y H) λz H=>fld d 0 H λA H=>bnd (unG H (C 92 [A] H.guard)) λD H=>bnd (unG H (C 91 [z,D] H.guard)) λE H=>bo (fl E 0) λF=>bnd (lda 9 d H) λG H=>bnd (C 197 [F,G] H) λK H=>ZC (K,H))
def ail:Rn2 143 QU:=λ_ _ _ _ _ h=>rnG ao6 Tryz.func143 Z Z h
def aio(C:aA)(a0 g:AV)(H:ah):OA:=bnd (alc 81 [zI,zI,zI,zI,zI,zI,zI,zB,zN] H) λd H=>bnd (C 183 [a0,g,B Z0] H) λe H=>bo (aG e 0) λh=>bo (aG e 1) λb=>bnd (st 9 d h H) λ_ H=>bnd (lda 9 d H) λi _=>ZC (.tup [i,b],H)
def ao7:Rn2 144 aio:=λ_ _ _ _ _ h=>rnG an0 Tryz.func144 Z Z h
def ao8:Ann:=⟨[],[(2,rF 11 (Z1::rF 3 [])),(4,rF 9 (Z1::ZC ZV::ZC ZV::[]))],[(2,[(11,6)]),(4,[(9,5)])]⟩
def La(C:aA)(a0 a1:AV)(H:ah):OA:=bnd (fK 81 a1 H) λo H=>bnd (alc 81 [zI,zI,zI,zI,zI,zI,zI,zB,zN] H) λp H=>fld o 0 H λq H=>bo (bi .eql 3 q (I 1)) λd=>gl d ZV (au o 0) H λu H=>gdA (ZC d) ZV (ld u H) H λv H=>gl d ZV (bi .eql 3 v (I 2)) H λw H=>bo (bQ d (B Z0) w) λy=>aN y (bnd (alc 81 [zI,zI,zI,zI,zI,zI,zI,zB,zN] H) λv6 i=>bo (ay a0) λz=>bo (au z 11) λA=>fld A 0 i λD H4=>bnd (lda 9 o H4) λE H5=>bnd (C 198 [D,E] H5) λe H6=>bo (aG e 0) λF=>bo (aG e 1) λg=>bo (aG e 2) λG=>bnd (st 9 v6 F H6) λ_ b=>ckR H.next i.next H5 H6 <| bnd (lda 9 v6 b) λK b=>gl g Z0 (ZC G) b λL b=>gl g Z0 (bi .eql 57 L (I 0)) b λM b=>bo (bQ g M (B ZV)) λQ=>bnd (st 9 p K b) λ_ b=>bnd (lda 9 p b) λR _=>ZC (.tup [R,Q],b)) (bnd (alc 81 [zI,zI,zI,zI,zI,zI,zI,zB,zN] H) λv9 j=>bo (ay a0) λT=>bo (au T 0) λW=>bnd (ld W j) λX aa=>bnd (lda 9 o aa) λab k=>bnd (C 199 [X,ab] k) λm n=>bo (aG m 0) λad=>bo (aG m 1) λae=>bnd (st 9 v9 ad n) λ_ h=>ckR H.next j.next k n <| bnd (lda 9 v9 h) λaf h=>bo (bi .eql 57 ae (I 0)) λag=>bnd (st 9 p af h) λ_ h=>bnd (lda 9 p h) λR _=>ZC (.tup [R,ag],h))
def aip:Rn2 145 La:=λ_ _ _ _ _ h=>rnG ao8 Tryz.func145 Z Z h
def WR(C:aA)(a0:AV)(H:ah):OA:=bo (ay a0) λi=>fld i 2 H λb H=>gl b ZV (ZC a0) H λj H=>gdA (ZC b) ZV (C 66 [j] H) H λk H=>gl b ZV (bi .eql 3 k (I 0)) H λd H=>bo (bQ b (B Z0) d) λe=>aN e (ZC (I 6,H)) (bo (ay a0) λg=>bo (au g 2) λh=>bnd (st 1 h (B Z0) H) λ_ H=>ZC (I 0,H))
def abz:Rn1 146 WR:=λ_ _ _ _ h=>rnG an0 Tryz.func146 Z Z h
def aiq(C:aA)(a0 j k:AV)(H:ah):OA:=bo (ay a0) λm=>fld m 0 H λb H=>bo (bd 184 [(0,j),(1,k)]) λd=>bnd (bs 123 1 [(0,d)] H) λe H=>bnd (app 184 4 32 b e H) λg H=>bo (ay a0) λh=>bo (au h 0) λi=>bnd (st 1 i g H) λ_ H=>ZC (.tup [],H)
def apb:Rn3 147 aiq:=λ_ _ _ _ _ _ h=>rnG an0 Tryz.func147 Z Z h
def apc:Ann:=⟨[],[(3,rF 10 [])],[]⟩
def WS(C:aA)(a0 d:AV)(H:ah):OA:=bnd (fK 31 a0 H) λe H=>bo (bi .lss 3 d (I 0)) λb=>gl b ZV (ZC d) H λp H=>gdA (ZC b) ZV (lda 8 e H) H λg H=>gdA (ZC b) ZV (C 57 [g] H) H λh H=>gl b ZV (bi .geq 3 p h) H λi H=>bo (bQ b (B Z0) i) λj=>aN j (ZC (.tup [I (-1),I 0],H)) (fld e 2 H λk H=>bo (bi .quo 3 d k) λm=>fld e 2 H λn H=>bo (bi .rem 3 d n) λo=>ZC (.tup [m,o],H))
def apd:Rn2 148 WS:=λ_ _ _ _ _ h=>rnG apc Tryz.func148 Z Z h
def air(C:aA)(a0 p q u:AV)(H:ah):OA:=bo (ay a0) λb=>fld b 21 H λd H=>bnd (C 200 [q,u,d] H) λe H=>bo (ay a0) λg=>bo (au g 12) λh=>bnd (st 9 h e H) λ_ H=>bo (ay a0) λi=>fld i 21 H λj H=>bo (bi .add 3 j (I 1)) λk=>bo (bi .rem 3 k (I 4096)) λm=>bo (ay a0) λn=>bo (au n 21) λo=>bnd (st 1 o m H) λ_ H=>bnd (C 139 [a0,p] H) λv H=>ZC (.tup [],H)
def ape:Rn4 149 air:=λ_ _ _ _ _ _ _ h=>rnG an0 Tryz.func149 Z Z h
def apf:Ann:=⟨[],[(5,rF 12 [])],[]⟩
def abA(C:aA)(a0 u:AV)(H:ah):OA:=bnd (C 82 [a0,u] H) λq H=>bo (bi .lss 3 q (I 0)) λb=>aN b (ZC (B ZV,H)) (bo (ay a0) λd=>fld d 3 H λe H=>bo (bi .add 3 e (I 1)) λg=>bo (ay a0) λh=>bo (au h 3) λi=>bnd (st 1 i g H) λ_ H=>bo (ay a0) λj=>fld j 0 H λk H=>bo (ay a0) λm=>fld m 3 H λn H=>bnd (ix 6 k q H) λo H=>bo (au o 3) λp=>bnd (st 1 p n H) λ_ H=>ZC (B Z0,H))
def apg:Rn2 150 abA:=λ_ _ _ _ _ h=>rnG apf Tryz.func150 Z Z h
def aph:Ann:=⟨[],[(1,rF 7 (ZC Z0::rF 8 []))],[]⟩
def abB(C:aA)(a0 p:AV)(H:ah):OA:=bnd (C 82 [a0,p] H) λq H=>bo (bi .lss 3 q (I 0)) λb=>gl b Z0 (ZC a0) H λd H=>gl b Z0 (ZC p) H λe H=>gdA (ZC b) Z0 (unG H (C 201 [d,e] H.guard)) H λg H=>gdA (ZC b) Z0 (lnS g H) H λh H=>gl b Z0 (ZC a0) H λi H=>gl b Z0 (ay i) H λj H=>gl b Z0 (au j 2) H λk H=>gdA (ZC b) Z0 (ld k H) H λm H=>gl b Z0 (bi .geq 3 h m) H λn H=>bo (bQ b n (B ZV)) λo=>ZC (o,H)
def apj:Rn2 151 abB:=λ_ _ _ _ _ h=>rnG aph Tryz.func151 Z Z h
def abC(C:aA)(a0 i:AV)(H:ah):OA:=bnd (C 201 [a0,i] H) λh H=>bnd (lnS h H) λb H=>bo (bi .eql 3 b (I 0)) λd=>aN d (ZC (.tup [I 0,B ZV],H)) (bnd (C 202 [h,(.fn (.func 203) [] [])] H) λe H=>bo (fl e 2) λg=>ZC (.tup [g,B Z0],H))
def apk:Rn2 152 abC:=λ_ _ _ _ _ h=>rnG an0 Tryz.func152 Z Z h
def ais:Ann:=⟨[(3,[0,1,7,8])],[],[]⟩
def Bc:=jv Tryz.prog Tryz.f153 19 ais 0
def ait(C:aA)(a0 b:AV)(H:ah):OA:=bnd (lnS a0 H) λd H=>Bc C [a0,b,d,I 0] H
def WT(C:aA)(t0 d e b:AV)(H:ah):Bc C [t0,d,e,b] H= bo (bi .lss 3 b e) λk=>aN k (bnd (ix 1 t0 b H) λg H=>bnd (ld g H) λh H=>bnd (qC Tryz.prog C d [h] H) λi H=>aN i (ZC (b,H)) (bo (bi .add 3 b (I 1)) λj=>Bc C [t0,d,e,j] H)) (ZC (I (-1),H)):=lpE.trans Z
def apl:Rn2 153 ait:=λ_ _ _ _ _ h=>rnG ais Tryz.func153 Z Z h
def aiu:Ann:=⟨[(4,[0,5,10,11,12])],[],[]⟩
def vH:=jv Tryz.prog Tryz.f154 60 aiu 0
def aiv(C:aA)(a0 d:AV)(H:ah):OA:=bnd (mkm .i64 H) λe H=>bnd (lnS d H) λb H=>vH C [a0,e,d,b,I 0] H
def rX(C:aA)(t0 n k m h:AV)(H:ah):vH C [t0,n,k,m,h] H= bo (bi .lss 3 h m) λq=>aN q (bnd (ix 4 k h H) λu H=>bnd (lda 4 u H) λv H=>bnd (alc 184 [zI,zI,zB,zI] H) λi H=>bnd (st 4 i v H) λ_ H=>fld i 0 H λw H=>bnd (lk .i64 (.int .i64 0) n w ZV H) λo H=>fld i 0 H λy H=>bo (bi .lss 3 y (I 0)) λg=>gl g ZV (au i 0) H λz H=>gdA (ZC g) ZV (ld z H) H λA H=>gl g ZV (ZC t0) H λD H=>gl g ZV (bi .geq 3 A D) H λE H=>bo (bQ g (B Z0) E) λd=>gl d ZV (au i 1) H λF H=>gdA (ZC d) ZV (ld F H) H λG H=>gl d ZV (ZC o) H λK H=>gl d ZV (bi .quo 3 K (I 2)) H λL H=>gl d ZV (bi .neq 3 G L) H λM H=>bo (bQ d (B Z0) M) λb=>gl b ZV (au i 2) H λQ H=>gdA (ZC b) ZV (ld Q H) H λR H=>gl b ZV (ZC o) H λT H=>gl b ZV (bi .rem 3 T (I 2)) H λW H=>gl b ZV (bi .eql 3 W (I 1)) H λX H=>gl b ZV (bi .neq 4 R X) H λaa H=>bo (bQ b (B Z0) aa) λe=>gl e ZV (au i 2) H λab H=>gdA (ZC e) ZV (ld ab H) H λad H=>gl e ZV (un .not ad) H λae H=>gl e ZV (ZC ae) H λj H=>gl j Z0 (au i 3) H λaf H=>gdA (ZC j) Z0 (ld af H) H λag H=>gl j Z0 (bi .neq 3 ag (I 0)) H λai H=>gl e ZV (bQ j ai (B ZV)) H λal H=>bo (bQ e (B Z0) al) λam=>aN am (ZC (B ZV,H)) (fld i 0 H λp H=>bnd (lk .i64 (.int .i64 0) n p ZV H) λao H=>bo (bi .add 3 ao (I 1)) λap=>bnd (mup .i64 n p ap H) λ_ H=>bo (bi .add 3 h (I 1)) λaq=>vH C [t0,n,k,m,aq] H)) (ZC (B Z0,H)):=lpE.trans Z
def apm:Rn2 154 aiv:=λ_ _ _ _ _ h=>rnG aiu Tryz.func154 Z Z h
def aiw:Ann:=⟨[(4,[1,3,9,10])],[(5,rF 7 (ZC Z0::rF 4 []))],[]⟩
def Bf:=jv Tryz.prog Tryz.f155 26 aiw 0
def aix(C:aA)(a0:AV)(H:ah):OA:=bnd (fK 31 a0 H) λb H=>bnd (lda 8 b H) λd H=>bo (bd 246 [(0,d)]) λe=>bnd (fK 246 e H) λg H=>fld b 1 H λh H=>Bf C [b,g,h,I 0] H
def WU(C:aA)(e d g b:AV)(H:ah):Bf C [e,d,g,b] H= bo (bi .lss 3 b g) λh=>aN h (bo (ay d) λi=>fld i 8 H λj H=>bnd (lda 8 e H) λk H=>bnd (unG H (C 204 [k,b] H.guard)) λm H=>bnd (app 3 1 8 j m H) λn H=>bo (ay d) λo=>bo (au o 8) λp=>bnd (st 1 p n H) λ_ H=>bo (bi .add 3 b (I 1)) λq=>Bf C [e,d,g,q] H) (ZC (d,H)):=lpE.trans Z
def apn:Rn1 155 aix:=λ_ _ _ _ h=>rnG aiw Tryz.func155 Z Z h
def apo:Ann:=⟨[],[(6,rF 9 []),(11,rF 10 []),(13,rF 12 [])],[]⟩
def Fv(C:aA)(H:ah):OA:=ZC (.tup [I 0,I 0],H)
def QV(C:aA)(a0 a1:AV)(H:ah):OA:=bnd (fK 61 a1 H) λb H=>bo (ay a0) λj=>bo (au j 0) λk=>fld k 0 H λg H=>bnd (mks 62 1 24 [zN] g g H) λh H=>bnd (lda 3 b H) λm H=>bnd (bs 62 1 [(0,m)] H) λn H=>bnd (ix 1 h (I 0) H) λo H=>bnd (st 1 o n H) λ_ H=>bo (ay a0) λp=>bo (au p 0) λq=>bnd (lda 8 q H) λu H=>bnd (C 60 [u,h] H) λi H=>bo (bi .neq 57 i (I 0)) λv=>aN v (ZC (.tup [I 0,i],H)) (bo (ay a0) λw=>fld w 8 H λy H=>fld b 1 H λz H=>bnd (ix 1 y z H) λA H=>bnd (ld A H) λd H=>fld b 0 H λe H=>bo (bi .eql 3 e (I 1)) λD=>aN D (ZC (.tup [d,I 0],H)) (bo (bi .eql 3 e (I 2)) λE=>aN E (bo (ay a0) λF=>fld F 8 H λG H=>fld b 1 H λK H=>fld b 2 H λL H=>bnd (ix 1 G K H) λM H=>bnd (st 1 M L H) λ_ H=>Fv C H) (bo (bi .eql 3 e (I 3)) λQ=>aN Q (bo (ay a0) λR=>fld R 8 H λT H=>fld b 1 H λW H=>fld b 2 H λX H=>bo (bi .add 3 d X) λaa=>bnd (ix 1 T W H) λab H=>bnd (st 1 ab aa H) λ_ H=>ZC (.tup [d,I 0],H)) (Fv C H))))
def WV:Rn2 156 QV:=λ_ _ _ _ _ h=>rnG apo Tryz.func156 Z Z h
def aiy:Ann:=⟨[(3,[0,1,7,8])],[],[]⟩
def Fz:=jv Tryz.prog Tryz.f157 19 aiy 0
def aiz(C:aA)(a0 b:AV)(H:ah):OA:=bnd (lnS a0 H) λd H=>Fz C [a0,b,d,I 0] H
def WW(C:aA)(t0 d e b:AV)(H:ah):Fz C [t0,d,e,b] H= bo (bi .lss 3 b e) λk=>aN k (bnd (ix 1 t0 b H) λg H=>bnd (ld g H) λh H=>bnd (qC Tryz.prog C d [h] H) λi H=>aN i (ZC (b,H)) (bo (bi .add 3 b (I 1)) λj=>Fz C [t0,d,e,j] H)) (ZC (I (-1),H)):=lpE.trans Z
def apq:Rn2 157 aiz:=λ_ _ _ _ _ h=>rnG aiy Tryz.func157 Z Z h
def aiA:Ann:=⟨[(3,[0,1,7,8])],[],[]⟩
def FB:=jv Tryz.prog Tryz.f158 19 aiA 0
def aiB(C:aA)(a0 b:AV)(H:ah):OA:=bnd (lnS a0 H) λd H=>FB C [a0,b,d,I 0] H
def WX(C:aA)(t0 d e b:AV)(H:ah):FB C [t0,d,e,b] H= bo (bi .lss 3 b e) λk=>aN k (bnd (ix 3 t0 b H) λg H=>bnd (lda 3 g H) λh H=>bnd (qC Tryz.prog C d [h] H) λi H=>aN i (ZC (b,H)) (bo (bi .add 3 b (I 1)) λj=>FB C [t0,d,e,j] H)) (ZC (I (-1),H)):=lpE.trans Z
def apr:Rn2 158 aiB:=λ_ _ _ _ _ h=>rnG aiA Tryz.func158 Z Z h
def abD(C:aA)(a0:AV)(H:ah):OA:=bo (bi .eql 62 a0 zN) λb=>aN b (ZC (zN,H)) (bnd (bs 62 0 [] H) λd H=>bnd (app 61 3 24 d a0 H) λe H=>ZC (e,H))
def aiC:Rn1 159 abD:=λ_ _ _ _ h=>rnG an0 Tryz.func159 Z Z h
def aiD:Ann:=⟨[(4,[1,2,5,12,13])],[(6,rF 7 (ZC Z0::ZC ZV::ZC ZV::[]))],[]⟩
def FC:=jv Tryz.prog Tryz.f160 32 aiD 0
def FD(C:aA)(g h i b d:AV)(H:ah):OA:=bo (bi .add 3 d (I 1)) λe=>FC C [g,h,i,b,e] H
def aiE(C:aA)(a0 g:AV)(H:ah):OA:=bnd (fK 31 a0 H) λb H=>bnd (lda 8 b H) λh H=>bnd (mkm .i64 H) λi H=>bo (bd 277 [(0,h),(1,i)]) λj=>bnd (fK 277 j H) λd H=>fld b 1 H λe H=>FC C [g,b,d,e,I 0] H
def WY(C:aA)(h e g d b:AV)(H:ah):FC C [h,e,g,d,b] H= bo (bi .lss 3 b d) λi=>aN i (bnd (lda 8 e H) λj H=>bnd (C 42 [j,b] H) λk H=>bo (bi .eql 3 k h) λm=>aN m (bo (ay g) λn=>fld n 8 H λo H=>bnd (lda 8 e H) λp H=>bnd (unG H (C 204 [p,b] H.guard)) λq H=>bo (bd 95 [(0,I 0),(1,I (-1)),(2,q)]) λu=>bnd (mup .i64 o b u H) λ_ H=>FD C h e g d b H) (FD C h e g d b H)) (ZC (g,H)):=lpE.trans Z
def aps:Rn2 160 aiE:=λ_ _ _ _ _ h=>rnG aiD Tryz.func160 Z Z h
def aiF(C:aA)(H:ah):OA:=bnd (mkm .i64 H) λb H=>bnd (mkm .i64 H) λd H=>bo (bd 218 [(0,b),(1,d)]) λe=>bnd (fK 218 e H) λg H=>ZC (g,H)
def apt:Rn0 161 aiF:=λ_ _ _ h=>rnG an0 Tryz.func161 Z Z h
def aiG:Ann:=⟨[(6,[1,2,5,6])],[],[]⟩
def FH:=jv Tryz.prog Tryz.f173 44 aiG 0
def FI(C:aA)(g h i j k:AV)(H:ah):OA:=bnd (bs 22 1 [(0,k)] H) λb H=>bnd (app 3 1 8 i b H) λd H=>bo (bi .add 3 j (I 1)) λe=>FH C [g,h,d,e] H
def aiH(C:aA)(a0 d:AV)(H:ah):OA:=bnd (fK 31 a0 H) λk H=>bo (bi .lss 3 d (I 0)) λb=>gl b ZV (ZC d) H λe H=>gl b ZV (au k 1) H λg H=>gdA (ZC b) ZV (ld g H) H λh H=>gl b ZV (bi .geq 3 e h) H λi H=>bo (bQ b (B Z0) i) λj=>aN j (ZC (zN,H)) (FH C [d,k,zN,I 0] H)
def WZ(C:aA)(g b h d:AV)(H:ah):FH C [g,b,h,d] H= fld b 2 H λi H=>bo (bi .lss 3 d i) λj=>aN j (fld b 2 H λk H=>bo (bi .mul 3 g k) λm=>bo (bi .add 3 m d) λe=>fld b 7 H λn H=>bnd (lnS n H) λo H=>bo (bi .lss 3 e o) λp=>aN p (fld b 7 H λq H=>bnd (ix 1 q e H) λu H=>bnd (ld u H) λv H=>FI C g b h d v H) (FI C g b h d (I 0) H)) (ZC (h,H)):=lpE.trans Z
def apu:Rn2 173 aiH:=λ_ _ _ _ _ h=>rnG aiG Tryz.func173 Z Z h
def abE(C:aA)(a0:AV)(H:ah):OA:=bnd (fK 81 a0 H) λi H=>fld i 1 H λv6 H=>bnd (C 211 [v6,I 0,I 6] H) λk H=>gl k Z0 (au i 2) H λv9 H=>gdA (ZC k) Z0 (ld v9 H) H λm H=>gdA (ZC k) Z0 (C 211 [m,I 0,I 6] H) H λn H=>bo (bQ k n (B ZV)) λe=>gl e Z0 (au i 3) H λo H=>gdA (ZC e) Z0 (ld o H) H λp H=>gdA (ZC e) Z0 (C 211 [p,I 0,I 4096] H) H λq H=>bo (bQ e q (B ZV)) λu=>fld i 0 H λv H=>bnd (C 211 [v,I 1,I 10] H) λg H=>gl g Z0 (au i 4) H λw H=>gdA (ZC g) Z0 (ld w H) H λy H=>gdA (ZC g) Z0 (C 211 [y,I 0,I 8] H) H λz H=>bo (bQ g z (B ZV)) λh=>gl h Z0 (au i 5) H λA H=>gdA (ZC h) Z0 (ld A H) H λD H=>gdA (ZC h) Z0 (C 211 [D,I (-1),I 6] H) H λE H=>bo (bQ h E (B ZV)) λF=>bo (un .not u) λj=>gl j ZV (ZC F) H λG H=>gl j ZV (un .not G) H λK H=>bo (bQ j (B Z0) K) λb=>gl b ZV (au i 6) H λL H=>gdA (ZC b) ZV (ld L H) H λM H=>gdA (ZC b) ZV (C 211 [M,I 0,I 3] H) H λQ H=>gl b ZV (un .not Q) H λR H=>bo (bQ b (B Z0) R) λd=>gl d ZV (au i 8) H λT H=>gdA (ZC d) ZV (ld T H) H λW H=>gdA (ZC d) ZV (lnS W H) H λX H=>gl d ZV (bi .gtr 3 X (I 4)) H λaa H=>bo (bQ d (B Z0) aa) λab=>aN ab (ZC (I 1,H)) (ZC (I 0,H))
def aiI:Rn1 174 abE:=λ_ _ _ _ h=>rnG an0 Tryz.func174 Z Z h
def abG(C:aA)(a0:AV)(H:ah):OA:=aN a0 (ZC ((.s (Go.Value.int Go.IntKind.u8 1)),H)) (ZC ((.s (Go.Value.int Go.IntKind.u8 0)),H))
def apv:Rn1 175 abG:=λ_ _ _ _ h=>rnG an0 Tryz.func175 Z Z h
def aiJ:Ann:=⟨[(4,[0,3,4])],[],[]⟩
def FK:=jv Tryz.prog Tryz.f176 17 aiJ 0
def aiK(C:aA)(a0:AV)(H:ah):OA:=FK C [a0,zN,I 56] H
def Xa(C:aA)(t0 d b:AV)(H:ah):FK C [t0,d,b] H= bo (bi .geq 3 b (I 0)) λj=>aN j (bo (bi .shr 3 t0 b) λe=>bnd (cv 3 5 e H) λg H=>bnd (bs 220 1 [(0,g)] H) λh H=>bnd (app 5 1 1 d h H) λi H=>bo (bi .sub 3 b (I 8)) λk=>FK C [t0,i,k] H) (ZC (d,H)):=lpE.trans Z
def apw:Rn1 176 aiK:=λ_ _ _ _ h=>rnG aiJ Tryz.func176 Z Z h
def aiL(C:aA)(a0:AV)(H:ah):OA:=bnd (C 212 [a0] H) λh H=>bo (bi .shr 42 h (.s (Go.Value.int Go.IntKind.u64 8))) λi=>bnd (cv 42 5 i H) λj H=>bnd (cv 42 5 h H) λb H=>bnd (bs 220 2 [(0,j),(1,b)] H) λd H=>bnd (bs 326 2 [(0,a0),(1,d)] H) λe H=>bnd (C 213 [e] H) λg H=>ZC (g,H)
def apx:Rn1 177 aiL:=λ_ _ _ _ h=>rnG an0 Tryz.func177 Z Z h
def Xb(C:aA)(a0:AV)(H:ah):OA:=bnd (lnS a0 H) λq H=>bo (bi .sub 3 q (I 2)) λd=>bo (bi .lss 3 d (I 0)) λb=>gl b ZV (ZC a0) H λe H=>gl b ZV (ZC d) H λg H=>gl b ZV (slS 1 e Z1 (ZC g) Z1) H λh H=>gdA (ZC b) ZV (C 177 [h] H) H λi H=>gl b ZV (ZC a0) H λj H=>gdA (ZC b) ZV (C 181 [i,j] H) H λk H=>gl b ZV (un .not k) H λm H=>bo (bQ b (B Z0) m) λn=>aN n (ZC (.tup [zN,B ZV],H)) (bo (slS 1 a0 Z1 (ZC d) Z1) λo=>bnd (C 182 [o] H) λp H=>ZC (.tup [p,B Z0],H))
def abH:Rn1 178 Xb:=λ_ _ _ _ h=>rnG an0 Tryz.func178 Z Z h
def Oq(C:aA)(b d:AV)(H:ah):OA:=ZC ((.fn (.func 214) [] [b,d]),H)
def aiM(C:aA)(a0 e:AV)(H:ah):OA:=bnd (fK 220 a0 H) λd H=>bnd (fK 3 e H) λb H=>bnd (ld b H) λg H=>bo (bi .lss 3 g (I 1)) λh=>aN h (bnd (stk H) λi H=>bnd (stk H) λ_ H=>Oq C d b H) (Oq C d b H)
def apy:Rn2 179 aiM:=λ_ _ _ _ _ h=>rnG an0 Tryz.func179 Z Z h
def aiN:Ann:=⟨[(4,[3,6,7,8])],[],[]⟩
def FM:=jv Tryz.prog Tryz.f180 20 aiN 0
def aiO(C:aA)(a0:AV)(H:ah):OA:=bnd (lnS a0 H) λb H=>FM C [(.s (Go.Value.int Go.IntKind.u64 0)),a0,b,I 0] H
def Xc(C:aA)(d e g b:AV)(H:ah):FM C [d,e,g,b] H= bo (bi .lss 3 b g) λp=>aN p (bnd (ix 1 e b H) λh H=>bnd (ld h H) λi H=>bo (bi .shl 262 d (.s (Go.Value.int Go.IntKind.u64 8))) λj=>bnd (cv 5 262 i H) λk H=>bo (bi .or 262 j k) λm=>bo (bi .add 3 b (I 1)) λn=>FM C [m,e,g,n] H) (bnd (cv 262 3 d H) λo H=>ZC (o,H)):=lpE.trans Z
def apA:Rn1 180 aiO:=λ_ _ _ _ h=>rnG aiN Tryz.func180 Z Z h
def aiP(C:aA)(a0 b:AV)(H:ah):OA:=bnd (cv 220 9 a0 H) λd H=>bnd (cv 220 9 b H) λe H=>bo (bi .eql 9 d e) λg=>ZC (g,H)
def apB:Rn2 181 aiP:=λ_ _ _ _ _ h=>rnG an0 Tryz.func181 Z Z h
def aiQ(C:aA)(a0:AV)(H:ah):OA:=bo (bi .eql 220 a0 zN) λb=>aN b (ZC (zN,H)) (bnd (bs 220 0 [] H) λd H=>bnd (app 5 1 1 d a0 H) λe H=>ZC (e,H))
def apC:Rn1 182 aiQ:=λ_ _ _ _ h=>rnG an0 Tryz.func182 Z Z h
def abI(C:aA)(a0 v w:AV)(H:ah):OA:=bnd (alc 81 [zI,zI,zI,zI,zI,zI,zI,zB,zN] H) λd H=>bnd (C 71 [a0,v] H) λe H=>bo (un .not e) λg=>aN g (bo (bd 81 []) λh=>bnd (st 9 d h H) λ_ H=>bnd (lda 9 d H) λi _=>ZC (.tup [i,B ZV],H)) (bo (ay a0) λj=>fld j 0 H λk H=>bnd (ix 4 k v H) λm H=>bnd (lda 4 m H) λn H=>bnd (C 91 [n,w] H) λo H=>bo (fl o 1) λp=>bnd (C 215 [p] H) λb H=>bo (aG b 0) λq=>bo (aG b 1) λu=>bnd (st 9 d q H) λ_ H=>bnd (lda 9 d H) λi _=>ZC (.tup [i,u],H))
def aiR:Rn3 183 abI:=λ_ _ _ _ _ _ h=>rnG an0 Tryz.func183 Z Z h
def I4(C:aA)(a0 W X a3:AV)(H:ah):OA:=bnd (fK 73 a0 H) λg H=>bnd (fK 81 a3 H) λk H=>bnd (alc 73 [zI,zI,zI,zI,zI,zI,zN,zI,zI] H) λd H=>fld g 0 H λm H=>bo (bi .neq 3 m (I 1)) λb=>gdA (ZC b) ZV (lda 9 g H) H λn H=>gdA (ZC b) ZV (lda 9 k H) H λo H=>gdA (ZC b) ZV (C 216 [n,o] H) H λp H=>gl b ZV (un .not p) H λq H=>bo (bQ b (B Z0) q) λu=>aN u (bo (bd 73 []) λv=>bnd (st 9 d v H) λ_ H=>bnd (lda 9 d H) λe _=>ZC (.tup [e,B ZV],H)) (fld g 3 H λh H=>bo (bi .eql 3 h (I 1)) λw=>aN w (bnd (lda 9 g H) λy H=>bnd (lda 9 k H) λz H=>bnd (C 217 [y,W,X,z] H) λi H=>bo (aG i 0) λA=>bo (aG i 1) λD=>bnd (st 9 d A H) λ_ H=>bnd (lda 9 d H) λe _=>ZC (.tup [e,D],H)) (bo (bi .eql 3 h (I 2)) λE=>aN E (bnd (lda 9 g H) λF H=>bnd (lda 9 k H) λG H=>bnd (C 218 [F,W,X,G] H) λj H=>bo (aG j 0) λK=>bo (aG j 1) λL=>bnd (st 9 d K H) λ_ H=>bnd (lda 9 d H) λe _=>ZC (.tup [e,L],H)) (bo (bi .eql 3 h (I 6)) λM=>aN M (bo (au g 3) λQ=>bnd (st 1 Q (I 0) H) λ_ H=>bnd (lda 9 g H) λR H=>bnd (st 9 d R H) λ_ H=>bnd (lda 9 d H) λe _=>ZC (.tup [e,B Z0],H)) (bo (bd 73 []) λT=>bnd (st 9 d T H) λ_ H=>bnd (lda 9 d H) λe _=>ZC (.tup [e,B ZV],H)))))
def apD:Rn4 184 I4:=λ_ _ _ _ _ _ _ h=>rnG an0 Tryz.func184 Z Z h
def apE:Ann:=⟨[],[(6,rF 8 (ZC Z0::rF 8 []))],[(6,[(3,10),(5,10),(5,12)])]⟩
def FN(C:aA)(j k b i:AV)(H:ah):OA:=fld b 5 H λd H=>bo (au b 7) λe=>bnd (st 1 e d H) λ_ H=>bnd (lda 9 b H) λg H=>bnd (C 219 [g,j,k] H) λh H=>bnd (st 9 i h H) λ_ H=>bnd (lda 9 i H) λm _=>ZC (.tup [m,B Z0],H)
def FP(C:aA)(j k h m i:AV)(H:ah):OA:=fld m 5 H λb H=>bo (au h 7) λd=>bnd (st 1 d b H) λ_ H=>bnd (lda 9 h H) λe H=>bnd (C 219 [e,j,k] H) λg H=>bnd (st 9 i g H) λ_ H=>bnd (lda 9 i H) λn _=>ZC (.tup [n,B Z0],H)
def Bg(C:aA)(a0 w m a3:AV)(H:ah):OA:=bnd (fK 73 a0 H) λb H=>bnd (fK 81 a3 H) λi H=>bnd (alc 73 [zI,zI,zI,zI,zI,zI,zN,zI,zI] H) λg H=>fld b 0 H λy H=>bo (bi .neq 3 y (I 2)) λe=>gdA (ZC e) ZV (lda 9 b H) H λz H=>gdA (ZC e) ZV (lda 9 i H) H λA H=>gdA (ZC e) ZV (C 216 [z,A] H) H λD H=>gl e ZV (un .not D) H λE H=>bo (bQ e (B Z0) E) λF=>aN F (bo (bd 73 []) λG=>bnd (st 9 g G H) λ_ H=>bnd (lda 9 g H) λn _=>ZC (.tup [n,B ZV],H)) (fld b 1 H λK H=>bnd (C 41 [m,K] H) λo H=>bo (aG o 0) λL=>bo (aG o 1) λp=>bnd (alc 100 [zI,zI,zI,zI,zB,zN] H) λq H=>bnd (st 6 q L H) λ_ H=>fld b 3 H λj H=>bo (bi .eql 3 j (I 1)) λM=>aN M (fld i 6 H λQ H1=>bo (au i 5) λu=>bnd (ld u H1) λR H3=>bo (au i 5) λk=>bnd (ld k H3) λT H5=>fld i 8 H5 λW H7=>bnd (unG H7 (C 36 [W] H7.guard)) λX H8=>bo (au b 4) λaa=>bnd (st 1 aa Q H8) λ_ h=>bo (au b 5) λab=>bnd (st 1 ab R h) λ_ v=>bo (au b 8) λad=>bnd (st 1 ad T v) λ_ ae=>bo (au b 6) λaf=>bnd (st 1 af X ae) λ_ d=>ck (bT u) H8 h <| ck (bT k) H8 h <| ck (bT k) h v <| aN p (fld q 5 d λag d=>bo (au b 6) λai=>bnd (st 1 ai ag d) λ_ d=>FN C w m b g d) (FN C w m b g d)) (bo (bi .eql 3 j (I 3)) λal=>aN al (bo (un .not p) λam=>aN am (fld i 8 H λao H=>bnd (C 36 [ao] H) λap H=>bo (au b 6) λaq=>bnd (st 1 aq ap H) λ_ H=>FP C w m b i g H) (FP C w m b i g H)) (bo (bi .eql 3 j (I 6)) λar=>aN ar (bo (au b 3) λaw=>bnd (st 1 aw (I 0) H) λ_ H=>bnd (lda 9 b H) λax H=>bnd (st 9 g ax H) λ_ H=>bnd (lda 9 g H) λn _=>ZC (.tup [n,B Z0],H)) (bo (bd 73 []) λaz=>bnd (st 9 g az H) λ_ H=>bnd (lda 9 g H) λn _=>ZC (.tup [n,B ZV],H)))))
def apF:Rn4 185 Bg:=λ_ _ _ _ _ _ _ h=>rnG apE Tryz.func185 Z Z h
def yV(C:aA)(a0 a1 i a3:AV)(H:ah):OA:=bnd (fK 73 a0 H) λb H=>bnd (fK 81 a3 H) λv7 H=>bnd (alc 73 [zI,zI,zI,zI,zI,zI,zN,zI,zI] H) λd H=>fld b 0 H λj H=>bo (bi .neq 3 j (I 3)) λg=>gdA (ZC g) ZV (lda 9 b H) H λk H=>gdA (ZC g) ZV (lda 9 v7 H) H λm H=>gdA (ZC g) ZV (C 216 [k,m] H) H λn H=>gl g ZV (un .not n) H λo H=>bo (bQ g (B Z0) o) λp=>aN p (bo (bd 73 []) λq=>bnd (st 9 d q H) λ_ H=>bnd (lda 9 d H) λe _=>ZC (.tup [e,B ZV],H)) (fld b 3 H λh H=>bo (bi .eql 3 h (I 1)) λu=>aN u (bnd (lda 9 b H) λv H=>bnd (lda 9 v7 H) λw H=>bnd (C 220 [v,i,w] H) λy H=>bnd (st 9 d y H) λ_ H=>bnd (lda 9 d H) λe _=>ZC (.tup [e,B Z0],H)) (bo (bi .eql 3 h (I 4)) λz=>aN z (fld b 7 H λA H=>bo (bi .eql 3 A (I (-1))) λD=>aN D (bnd (lda 9 b H) λE H=>fld b 8 H λF H=>bnd (C 221 [E,i,F] H) λG H=>bnd (st 9 d G H) λ_ H=>bnd (lda 9 d H) λe _=>ZC (.tup [e,B Z0],H)) (bo (au b 3) λK=>bnd (st 1 K (I 5) H) λ_ H=>bnd (lda 9 b H) λL H=>bnd (st 9 d L H) λ_ H=>bnd (lda 9 d H) λe _=>ZC (.tup [e,B Z0],H))) (bo (bi .eql 3 h (I 5)) λM=>aN M (fld b 5 H λQ H=>bo (bi .eql 3 Q (I (-1))) λR=>aN R (bnd (lda 9 b H) λT H=>fld b 7 H λW H=>bnd (C 221 [T,i,W] H) λX H=>bnd (st 9 d X H) λ_ H=>bnd (lda 9 d H) λe _=>ZC (.tup [e,B Z0],H)) (bnd (lda 9 b H) λaa H=>fld b 8 H λab H=>bnd (C 221 [aa,i,ab] H) λad H=>bnd (st 9 d ad H) λ_ H=>bnd (lda 9 d H) λe _=>ZC (.tup [e,B Z0],H))) (bo (bi .eql 3 h (I 6)) λae=>aN ae (bo (au b 3) λaf=>bnd (st 1 af (I 0) H) λ_ H=>bnd (lda 9 b H) λag H=>bnd (st 9 d ag H) λ_ H=>bnd (lda 9 d H) λe _=>ZC (.tup [e,B Z0],H)) (bo (bd 73 []) λai=>bnd (st 9 d ai H) λ_ H=>bnd (lda 9 d H) λe _=>ZC (.tup [e,B ZV],H))))))
def apG:Rn4 186 yV:=λ_ _ _ _ _ _ _ h=>rnG an0 Tryz.func186 Z Z h
def abJ(C:aA)(a0 m:AV)(H:ah):OA:=bo (ay a0) λn=>fld n 2 H λo H=>bo (un .not o) λp=>aN p (ZC (I 6,H)) (bo (ay a0) λb=>fld b 1 H λd H=>bnd (bs 22 1 [(0,m)] H) λe H=>bnd (app 3 1 8 d e H) λg H=>bo (ay a0) λh=>bo (au h 1) λi=>bnd (st 1 i g H) λ_ H=>bo (ay a0) λj=>bo (au j 2) λk=>bnd (st 1 k (B ZV) H) λ_ H=>ZC (I 0,H))
def aiS:Rn2 187 abJ:=λ_ _ _ _ _ h=>rnG an0 Tryz.func187 Z Z h
def aiT(C:aA)(a0 k m n:AV)(H:ah):OA:=bo (ay a0) λb=>fld b 0 H λd H=>bo (bd 184 [(0,k),(1,m),(2,B Z0),(3,n)]) λe=>bnd (bs 123 1 [(0,e)] H) λg H=>bnd (app 184 4 32 d g H) λh H=>bo (ay a0) λi=>bo (au i 0) λj=>bnd (st 1 j h H) λ_ H=>ZC (.tup [],H)
def apH:Rn4 188 aiT:=λ_ _ _ _ _ _ _ h=>rnG an0 Tryz.func188 Z Z h
def abK(C:aA)(a0 g:AV)(H:ah):OA:=bnd (fK 100 a0 H) λh H=>bnd (lda 6 h H) λi H=>bnd (C 222 [i,g] H) λj H=>bo (un .not j) λk=>aN k (ZC (I 0,H)) (fld h 5 H λb H=>bnd (ix 1 b g H) λd H=>bnd (ld d H) λe H=>ZC (e,H))
def apI:Rn2 189 abK:=λ_ _ _ _ _ h=>rnG an0 Tryz.func189 Z Z h
def Xd(C:aA)(a0 z A:AV)(H:ah):OA:=bo (ay a0) λD=>fld D 4 H λd H=>bo (un .not d) λb=>gl b ZV (ZC a0) H λe H=>gl b ZV (ay e) H λg H=>gdA (ZC b) ZV (lda 6 g H) H λh H=>gl b ZV (ZC z) H λi H=>gdA (ZC b) ZV (C 222 [h,i] H) H λj H=>gl b ZV (un .not j) H λk H=>bo (bQ b (B Z0) k) λm=>aN m (ZC (B ZV,H)) (bo (ay a0) λn=>fld n 5 H λo H=>bnd (C 36 [o] H) λp H=>bo (ay a0) λq=>bo (au q 5) λu=>bnd (st 1 u p H) λ_ H=>bo (ay a0) λv=>fld v 5 H λw H=>bnd (ix 1 w z H) λy H=>bnd (st 1 y A H) λ_ H=>ZC (B Z0,H))
def abL:Rn3 190 Xd:=λ_ _ _ _ _ _ h=>rnG an0 Tryz.func190 Z Z h
def apJ:Ann:=⟨[],[(7,rF 8 []),(13,rF 11 [])],[]⟩
def QW(C:aA)(a0 a1:AV)(H:ah):OA:=bnd (fK 100 a1 H) λb H=>bnd (lda 6 b H) λv6 H=>bnd (C 83 [v6] H) λv7 H=>bnd (st 6 b v7 H) λ_ H=>fld b 2 H λv9 H=>bo (bi .lss 3 v9 (I 0)) λe=>aN e (ZC (I 1,H)) (fld b 2 H λg H=>bnd (C 82 [a0,g] H) λd H=>bo (bi .geq 3 d (I 0)) λh=>aN h (bo (ay a0) λi=>fld i 0 H λj H=>bnd (ix 6 j d H) λk H=>fld k 3 H λm H=>bo (au b 3) λn=>bnd (st 1 n m H) λ_ H=>bo (ay a0) λo=>fld o 0 H λp H=>bnd (lda 6 b H) λq H=>bnd (ix 6 p d H) λu H=>bnd (st 6 u q H) λ_ H=>ZC (I 0,H)) (fld b 2 H λv H=>bnd (C 151 [a0,v] H) λw H=>aN w (ZC (I 5,H)) (bo (ay a0) λy=>fld y 3 H λz H=>bo (bi .add 3 z (I 1)) λA=>bo (ay a0) λD=>bo (au D 3) λE=>bnd (st 1 E A H) λ_ H=>bo (ay a0) λF=>fld F 3 H λG H=>bo (au b 3) λK=>bnd (st 1 K G H) λ_ H=>bo (ay a0) λL=>fld L 0 H λM H=>bnd (lda 6 b H) λQ H=>bnd (bs 111 1 [(0,Q)] H) λR H=>bnd (app 100 6 64 M R H) λT H=>bo (ay a0) λW=>bo (au W 0) λX=>bnd (st 1 X T H) λ_ H=>ZC (I 0,H))))
def apK:Rn2 191 QW:=λ_ _ _ _ _ h=>rnG apJ Tryz.func191 Z Z h
def apL:Ann:=⟨[],[(1,ZC ZV::ZC ZV::ZC Z0::rF 7 (Z1::ZC ZV::[])),(11,rF 8 []),(13,rF 8 []),(15,rF 10 (ZC Z0::rF 8 []))],[(11,[(3,5)]),(13,[(3,5)]),(15,[(3,12),(5,12),(5,14),(6,12),(6,14)])]⟩
def oP(C:aA)(d e:AV)(H:ah):OA:=bnd (lda 9 e H) λb H=>bnd (st 9 d b H) λ_ H=>bnd (lda 9 d H) λg _=>ZC (g,H)
def Ei(C:aA)(a0 a1 a2:AV)(H:ah):OA:=bnd (fK 73 a0 H) λd H=>bnd (alc 81 [zI,zI,zI,zI,zI,zI,zI,zB,zN] H) λh H=>bnd (alc 81 [zI,zI,zI,zI,zI,zI,zI,zB,zN] H) λb H=>fld d 3 H λv9 H=>bnd (unG H (C 223 [v9] H.guard)) λv H=>fld d 2 H λw H=>fld d 1 H λy H=>bo (bd 81 [(0,v),(1,a1),(2,a2),(3,w),(4,y)]) λz=>bnd (st 9 b z H) λ_ H=>fld d 3 H λe H=>bo (bi .eql 3 e (I 1)) λA=>aN A (bnd (lda 9 b H) λD H=>bnd (st 9 h D H) λ_ H=>bnd (lda 9 h H) λE _=>ZC (E,H)) (bo (bi .eql 3 e (I 2)) λF=>aN F (fld d 5 H λG H=>bo (au b 2) λK=>bnd (st 1 K G H) λ_ H=>bo (au b 5) λL=>bnd (st 1 L a1 H) λ_ H=>oP C h b H) (bo (bi .eql 3 e (I 3)) λM=>aN M (fld d 7 H λQ H=>bo (au b 2) λR=>bnd (st 1 R Q H) λ_ H=>oP C h b H) (bo (bi .eql 3 e (I 4)) λT=>aN T (fld d 5 H λW H1=>bo (au d 7) λn=>bnd (ld n H1) λX H3=>bo (au b 2) λaa=>bnd (st 1 aa W H3) λ_ H5=>bo (au b 5) λab=>bnd (st 1 ab X H5) λ_ H7=>ck (bT n) H3 H5 <| oP C h b H7) (bo (bi .eql 3 e (I 5)) λad=>aN ad (fld d 7 H λae af=>bo (au d 5) λo=>bnd (ld o af) λag p=>bo (au b 2) λai=>bnd (st 1 ai ae p) λ_ q=>bo (au b 5) λal=>bnd (st 1 al ag q) λ_ am=>ck (bT o) p q <| oP C h b am) (bo (bi .eql 3 e (I 6)) λao=>aN ao (fld d 4 H λap aq=>bo (au d 5) λu=>bnd (ld u aq) λar aw=>bo (au d 6) λj=>bnd (ld j aw) λk ax=>bnd (lnS k ax) λaz aD=>bo (bi .gtr 3 az (I 0)) λaE=>bo (au d 6) λaL=>bnd (ld aL aD) λaM H9=>bnd (unG H9 (C 36 [aM] H9.guard)) λaR i=>bo (au b 6) λa3=>bnd (st 1 a3 ap i) λ_ g=>bo (au b 5) λa4=>bnd (st 1 a4 ar g) λ_ m=>bo (au b 7) λa5=>bnd (st 1 a5 aE m) λ_ a6=>bo (au b 8) λa7=>bnd (st 1 a7 aR a6) λ_ a8=>ck (bT u) i g <| ck (bT j) i g <| ck (bT j) g m <| ck (bT k) i g <| ck (bT k) g m <| oP C h b a8) (bo (bd 81 []) λa9=>bnd (st 9 h a9 H) λ_ H=>bnd (lda 9 h H) λE _=>ZC (E,H)))))))
def apM:Rn3 192 Ei:=λ_ _ _ _ _ _ h=>rnG apL Tryz.func192 Z Z h
def aiU:Ann:=⟨[(4,[0,3,11,12,13])],[],[]⟩
def FQ:=jv Tryz.prog Tryz.f193 33 aiU 0
def Bh(C:aA)(t0 h b d e:AV)(H:ah):OA:=bo (bi .add 3 e (I 1)) λg=>FQ C [t0,h,b,d,g] H
def aiV(C:aA)(a0:AV)(H:ah):OA:=bo (ay a0) λg=>fld g 1 H λh H=>bnd (C 224 [h] H) λd H=>bnd (C 45 [d] H) λb H=>bnd (lnS b H) λe H=>FQ C [a0,zN,b,e,I 0] H
def Xe(C:aA)(t0 i e g b:AV)(H:ah):FQ C [t0,i,e,g,b] H= bo (bi .lss 3 b g) λj=>aN j (bnd (ix 1 e b H) λk H=>bnd (ld k H) λh H=>bnd (C 225 [t0,h] H) λm H=>bo (un .not m) λd=>gl d Z0 (ZC t0) H λn H=>gl d Z0 (ZC h) H λo H=>gdA (ZC d) Z0 (C 226 [n,o] H) H λp H=>gl d Z0 (bi .gtr 3 p (I 0)) H λq H=>bo (bQ d q (B ZV)) λu=>aN u (bnd (bs 22 1 [(0,h)] H) λv H=>bnd (app 3 1 8 i v H) λw H=>Bh C t0 w e g b H) (Bh C t0 i e g b H)) (ZC (i,H)):=lpE.trans Z
def apN:Rn1 193 aiV:=λ_ _ _ _ h=>rnG aiU Tryz.func193 Z Z h
def apO:Ann:=⟨[],[(1,rF 11 [])],[]⟩
def aiW(C:aA)(a0:AV)(H:ah):OA:=bo (ay a0) λg=>fld g 1 H λh H=>bo (ay a0) λi=>fld i 0 H λb H=>bnd (lnS b H) λd H=>bo (bi .sub 3 h d) λe=>ZC (e,H)
def apP:Rn1 194 aiW:=λ_ _ _ _ h=>rnG apO Tryz.func194 Z Z h
def apQ:Ann:=⟨[],[(4,rF 13 []),(5,rF 8 []),(6,rF 7 [])],[]⟩
def Xf(C:aA)(a0 d:AV)(H:ah):OA:=bnd (C 225 [a0,d] H) λb H=>gl b ZV (ZC a0) H λg H=>gl b ZV (ZC d) H λh H=>gdA (ZC b) ZV (C 226 [g,h] H) H λi H=>gl b ZV (bi .eql 3 i (I 0)) H λj H=>bo (bQ b (B Z0) j) λk=>aN k (ZC (.tup [I 0,I 0,B ZV],H)) (bo (ay a0) λm=>fld m 1 H λn H=>bnd (lk .i64 (.slice Z1 0 0) n d ZV H) λo H=>bnd (ix 2 o (I 0) H) λp H=>bnd (lda 2 p H) λq H=>bnd (alc 322 [zI,zI] H) λe H=>bnd (st 2 e q H) λ_ H=>bo (ay a0) λu=>fld u 1 H λv H=>bo (ay a0) λw=>fld w 1 H λy H=>bnd (lk .i64 (.slice Z1 0 0) y d ZV H) λz H=>bo (slS 2 z (ZC (I 1)) Z1 Z1) λA=>bnd (mup .i64 v d A H) λ_ H=>bo (ay a0) λD=>fld D 0 H λE H=>fld e 0 H λF H=>bnd (mup .i64 E d F H) λ_ H=>fld e 0 H λG H=>fld e 1 H λK H=>ZC (.tup [G,K,B Z0],H))
def apR:Rn2 195 Xf:=λ_ _ _ _ _ h=>rnG apQ Tryz.func195 Z Z h
def apS:Ann:=⟨[],[(2,rF 15 [])],[]⟩
def aiX(C:aA)(a0 p u v:AV)(H:ah):OA:=bnd (alc 81 [zI,zI,zI,zI,zI,zI,zI,zB,zN] H) λq H=>bo (ay a0) λe=>fld e 0 H λg H=>bnd (C 124 [g,p] H) λb H=>bo (aG b 0) λh=>bo (aG b 1) λw=>bnd (alc 95 [zI,zI,zN] H) λd H=>bnd (st 3 d h H) λ_ H=>bo (ay a0) λi=>fld i 10 H λj H=>fld d 0 H λk H=>fld d 1 H λm H=>fld d 2 H λn H=>bo (bd 81 [(0,I 7),(1,j),(2,u),(3,v),(4,p),(6,k),(5,m),(8,n)]) λo=>bnd (st 9 q o H) λ_ H=>bnd (lda 9 q H) λy _=>ZC (y,H)
def apT:Rn4 196 aiX:=λ_ _ _ _ _ _ _ h=>rnG apS Tryz.func196 Z Z h
def apU:Ann:=⟨[],[(3,rF 6 (ZC Z0::rF 5 []))],[]⟩
def abM(C:aA)(a0 m:AV)(H:ah):OA:=bnd (fK 81 m H) λn H=>bnd (C 194 [a0] H) λo H=>bo (bi .eql 3 o (I 0)) λp=>aN p (ZC (I 5,H)) (bo (ay a0) λb=>fld b 0 H λd H=>bnd (lda 9 n H) λe H=>bnd (unG H (C 116 [e] H.guard)) λg H=>bnd (bs 175 1 [(0,g)] H) λh H=>bnd (app 81 9 88 d h H) λi H=>bo (ay a0) λj=>bo (au j 0) λk=>bnd (st 1 k i H) λ_ H=>ZC (I 0,H))
def aiY:Rn2 197 abM:=λ_ _ _ _ _ h=>rnG apU Tryz.func197 Z Z h
def apV:Ann:=⟨[],[(1,rF 23 []),(4,rF 6 (ZC Z0::rF 15 [])),(7,rF 12 []),(13,rF 14 [])],[]⟩
def uh(C:aA)(a0 a1:AV)(H:ah):OA:=bnd (fK 81 a1 H) λe H=>bnd (alc 81 [zI,zI,zI,zI,zI,zI,zI,zB,zN] H) λi H=>bnd (lda 9 e H) λv9 H=>bnd (C 174 [v9] H) λp H=>bo (bi .eql 57 p (I 0)) λg=>gl g Z0 (au e 2) H λq H=>gdA (ZC g) Z0 (ld q H) H λu H=>gl g Z0 (ZC a0) H λv H=>gl g Z0 (ay v) H λw H=>gl g Z0 (au w 10) H λy H=>gdA (ZC g) Z0 (ld y H) H λz H=>gl g Z0 (bi .eql 3 u z) H λA H=>bo (bQ g A (B ZV)) λb=>gl b Z0 (au e 1) H λD H=>gdA (ZC b) Z0 (ld D H) H λE H=>gl b Z0 (ZC a0) H λF H=>gl b Z0 (ay F) H λG H=>gl b Z0 (au G 2) H λK H=>gl b Z0 (au K 0) H λL H=>gdA (ZC b) Z0 (ld L H) H λM H=>gl b Z0 (bi .lss 3 E M) H λQ H=>bo (bQ b Q (B ZV)) λR=>bo (un .not R) λh=>gl h ZV (au e 0) H λT H=>gdA (ZC h) ZV (ld T H) H λW H=>gl h ZV (bi .neq 3 W (I 1)) H λX H=>gl h ZV (ZC X) H λk H=>gl k Z0 (au e 0) H λaa H=>gdA (ZC k) Z0 (ld aa H) H λab H=>gl k Z0 (bi .neq 3 ab (I 2)) H λad H=>gl h ZV (bQ k ad (B ZV)) H λae H=>bo (bQ h (B Z0) ae) λaf=>aN af (bo (bd 81 []) λag=>bnd (st 9 i ag H) λ_ H=>bnd (lda 9 i H) λj _=>ZC (.tup [j,B ZV,I 1],H)) (bo (ay a0) λai=>bo (au ai 2) λal=>bnd (lda 8 al H) λam H=>fld e 4 H λao H=>bnd (unG H (C 42 [am,ao] H.guard)) λap H=>bo (ay a0) λaq=>fld aq 10 H λar H=>bo (bi .neq 3 ap ar) λd=>gl d ZV (au e 4) H λaw H=>gdA (ZC d) ZV (ld aw H) H λax H=>gl d ZV (ZC a0) H λaz H=>gl d ZV (ay az) H λaD H=>gl d ZV (au aD 2) H λaE H=>gl d ZV (au aE 1) H λaL H=>gdA (ZC d) ZV (ld aL H) H λaM H=>gl d ZV (bi .geq 3 ax aM) H λaR H=>bo (bQ d (B Z0) aR) λa2=>aN a2 (bo (bd 81 []) λa3=>bnd (st 9 i a3 H) λ_ H=>bnd (lda 9 i H) λj _=>ZC (.tup [j,B ZV,I 3],H)) (fld e 0 H λa4 H=>bo (bi .eql 3 a4 (I 1)) λa5=>aN a5 (bo (ay a0) λa6=>fld a6 1 H λa7 H=>fld e 4 H λa8 H=>fld e 1 H λa9 H=>fld e 3 H λba H=>bnd (C 227 [a7,a8,a9,ba] H) λbb H=>bo (un .not bb) λbc=>aN bc (bo (bd 81 []) λbe=>bnd (st 9 i be H) λ_ H=>bnd (lda 9 i H) λj _=>ZC (.tup [j,B ZV,I 0],H)) (fld e 4 H λbh H=>fld e 1 H λbj H=>fld e 3 H λbk H=>bnd (C 196 [a0,bh,bj,bk] H) λbl H=>bnd (st 9 i bl H) λ_ H=>bnd (lda 9 i H) λj _=>ZC (.tup [j,B Z0,I 0],H))) (bnd (lda 9 e H) λbm H=>bnd (C 228 [a0,bm] H) λm H=>bo (bi .neq 57 m (I 0)) λbp=>aN bp (bo (bd 81 []) λbq=>bnd (st 9 i bq H) λ_ H=>bnd (lda 9 i H) λj _=>ZC (.tup [j,B ZV,m],H)) (bo (ay a0) λbr=>fld br 10 H λbt H=>fld e 1 H λbu H=>fld e 3 H λn H=>fld e 4 H λo H=>bo (bd 81 [(0,I 8),(1,bt),(2,bu),(3,n),(4,o)]) λbv=>bnd (st 9 i bv H) λ_ H=>bnd (lda 9 i H) λj _=>ZC (.tup [j,B Z0,I 0],H)))))
def apW:Rn2 198 uh:=λ_ _ _ _ _ h=>rnG apV Tryz.func198 Z Z h
def apX:Ann:=⟨[],[(6,ZC ZV::ZC ZV::ZC Z0::rF 9 (Z1::ZC ZV::[])),(9,rF 8 []),(17,rF 13 []),(20,rF 6 [])],[(9,[(3,5)]),(17,[(3,8),(6,8),(6,10)]),(20,[(0,3)])]⟩
def yc(C:aA)(t0 g m h:AV)(H:ah):OA:=bnd (lda 9 h H) λb H0=>bnd (lda 6 m H0) λd i=>bnd (C 191 [t0,d] i) λe j=>bnd (st 9 g b j) λ_ k=>ck (bT h) i j <| bnd (lda 9 g k) λn _=>ZC (.tup [n,e],k)
def Bj(C:aA)(a0 a1:AV)(H:ah):OA:=bnd (fK 81 a1 H) λd H=>bnd (alc 81 [zI,zI,zI,zI,zI,zI,zI,zB,zN] H) λh H=>bnd (lda 9 d H) λv9 H=>bnd (C 174 [v9] H) λz H=>bo (bi .neq 57 z (I 0)) λi=>gl i ZV (au d 0) H λA H=>gdA (ZC i) ZV (ld A H) H λD H=>gl i ZV (bi .lss 3 D (I 3)) H λE H=>bo (bQ i (B Z0) E) λj=>gl j ZV (au d 0) H λF H=>gdA (ZC j) ZV (ld F H) H λG H=>gl j ZV (bi .gtr 3 G (I 6)) H λK H=>bo (bQ j (B Z0) K) λL=>aN L (bo (bd 81 []) λM=>bnd (st 9 h M H) λ_ H=>bnd (lda 9 h H) λp _=>ZC (.tup [p,I 1],H)) (fld d 4 H λQ H=>bnd (C 41 [a0,Q] H) λq H=>bo (aG q 0) λR=>bo (aG q 1) λT=>bnd (alc 100 [zI,zI,zI,zI,zB,zN] H) λe H=>bnd (st 6 e R H) λ_ H=>bo (un .not T) λW=>aN W (bo (bd 81 []) λX=>bnd (st 9 h X H) λ_ H=>bnd (lda 9 h H) λp _=>ZC (.tup [p,I 3],H)) (bnd (alc 81 [zI,zI,zI,zI,zI,zI,zI,zB,zN] H) λg H=>fld d 0 H λaa H=>bnd (unG H (C 229 [aa] H.guard)) λab H=>fld d 2 H λad H=>fld d 1 H λae H=>fld d 3 H λaf H=>fld d 4 H λag H=>bo (bd 81 [(0,ab),(1,ad),(2,ae),(3,af),(4,ag)]) λai=>bnd (st 9 g ai H) λ_ H=>fld d 0 H λk H=>bo (bi .eql 3 k (I 3)) λal=>aN al (fld e 5 H λam H1=>bo (au e 4) λu=>bnd (ld u H1) λao H3=>bo (au g 8) λap=>bnd (st 1 ap am H3) λ_ H5=>bo (au g 7) λaq=>bnd (st 1 aq ao H5) λ_ m=>ck (bT u) H3 H5 <| bo (au e 4) λar=>bnd (st 1 ar (B ZV) m) λ_ m=>bo (au e 0) λaw=>fld d 5 m λax m=>bnd (C 230 [aw,ax] m) λbh m=>yc C a0 h e g m) (bo (bi .eql 3 k (I 4)) λaz=>aN az (bo (au e 0) λaD=>fld d 5 H λaE H=>bnd (C 231 [aD,aE] H) λbj H=>yc C a0 h e g H) (bo (bi .eql 3 k (I 5)) λaL=>aN aL (bo (au e 0) λaM=>fld d 5 H λaR H=>bnd (C 230 [aM,aR] H) λbk H=>yc C a0 h e g H) (bo (bi .eql 3 k (I 6)) λa2=>aN a2 (fld e 5 H λa3 a4=>bo (au e 4) λv=>bnd (ld v a4) λa5 a6=>bo (au e 0) λa7=>bo (au a7 0) λn=>bnd (ld n a6) λa8 o=>bo (au g 8) λa9=>bnd (st 1 a9 a3 o) λ_ y=>bo (au g 7) λba=>bnd (st 1 ba a5 y) λ_ w=>bo (au g 5) λbb=>bnd (st 1 bb a8 w) λ_ b=>ck (bT v) o y <| ck (bT n) o y <| ck (bT n) y w <| fld d 4 b λbc b=>bnd (C 232 [a0,bc] b) λbl b=>bnd (lda 9 g b) λbe b=>bnd (st 9 h be b) λ_ b=>bnd (lda 9 h b) λp _=>ZC (.tup [p,I 0],b)) (yc C a0 h e g H))))))
def aiZ:Rn2 199 Bj:=λ_ _ _ _ _ h=>rnG apX Tryz.func199 Z Z h
def ai0(C:aA)(a0 e g:AV)(H:ah):OA:=bnd (alc 73 [zI,zI,zI,zI,zI,zI,zN,zI,zI] H) λd H=>bo (bd 73 [(0,a0),(1,e),(2,g),(3,I 1),(5,I (-1)),(7,I (-1)),(8,I (-1))]) λb=>bnd (st 9 d b H) λ_ H=>bnd (lda 9 d H) λh _=>ZC (h,H)
def apZ:Rn3 200 ai0:=λ_ _ _ _ _ _ h=>rnG an0 Tryz.func200 Z Z h
def ai1:Ann:=⟨[(4,[0,1,5,11,12,13])],[(5,rF 18 [])],[]⟩
def FT:=jv Tryz.prog Tryz.f201 41 ai1 0
def Bl(C:aA)(t0 h i b d e:AV)(H:ah):OA:=bo (bi .add 3 e (I 1)) λg=>FT C [t0,h,i,b,d,g] H
def ai2(C:aA)(a0 e:AV)(H:ah):OA:=bo (ay a0) λg=>fld g 0 H λb H=>bnd (lnS b H) λd H=>FT C [a0,e,zN,b,d,I 0] H
def Xg(C:aA)(t0 h i e g d:AV)(H:ah):FT C [t0,h,i,e,g,d] H= bo (bi .lss 3 d g) λj=>aN j (bnd (ix 6 e d H) λk H=>bnd (lda 6 k H) λm H=>bnd (alc 100 [zI,zI,zI,zI,zB,zN] H) λn H=>bnd (st 6 n m H) λ_ H=>bo (bi .geq 3 h (I 0)) λb=>gl b Z0 (au n 2) H λo H=>gdA (ZC b) Z0 (ld o H) H λp H=>gl b Z0 (ZC t0) H λq H=>gl b Z0 (ay q) H λu H=>gl b Z0 (au u 1) H λv H=>gdA (ZC b) Z0 (ld v H) H λw H=>gl b Z0 (bi .rem 3 p w) H λy H=>gl b Z0 (ZC h) H λz H=>gl b Z0 (ZC t0) H λA H=>gl b Z0 (ay A) H λD H=>gl b Z0 (au D 1) H λE H=>gdA (ZC b) Z0 (ld E H) H λF H=>gl b Z0 (bi .rem 3 z F) H λG H=>gl b Z0 (bi .eql 3 y G) H λK H=>bo (bQ b K (B ZV)) λL=>aN L (bnd (lda 6 n H) λM H=>bnd (bs 111 1 [(0,M)] H) λQ H=>bnd (app 100 6 64 i Q H) λR H=>Bl C t0 h R e g d H) (Bl C t0 h i e g d H)) (ZC (i,H)):=lpE.trans Z
def ap0:Rn2 201 ai2:=λ_ _ _ _ _ h=>rnG ai1 Tryz.func201 Z Z h
def ai3:Ann:=⟨[(6,[0,1,4,5,6])],[(7,rF 8 [])],[]⟩
def FU:=jv Tryz.prog Tryz.f202 33 ai3 0
def Ot(C:aA)(t0 g h:AV)(H:ah):OA:=bnd (ix 6 t0 (I 0) H) λb H=>bnd (lda 6 b H) λd H=>bnd (alc 100 [zI,zI,zI,zI,zB,zN] H) λe H=>bnd (st 6 e d H) λ_ H=>FU C [t0,g,h,e,I 1] H
def FV(C:aA)(t0 d e g h:AV)(H:ah):OA:=bo (bi .add 3 h (I 1)) λb=>FU C [t0,d,e,g,b] H
def ai4(C:aA)(a0 b:AV)(H:ah):OA:=bnd (alc 100 [zI,zI,zI,zI,zB,zN] H) λd H=>bnd (lnS a0 H) λe H=>bo (bi .lss 3 e (I 1)) λg=>aN g (bnd (stk H) λh H=>bnd (stk H) λ_ H=>Ot C a0 b d H) (Ot C a0 b d H)
def Xh(C:aA)(t0 g e b d:AV)(H:ah):FU C [t0,g,e,b,d] H= bnd (lnS t0 H) λh H=>bo (bi .lss 3 d h) λi=>aN i (bnd (ix 6 t0 d H) λj H=>bnd (lda 6 j H) λk H=>bnd (lda 6 b H) λm H=>bnd (qC Tryz.prog C g [k,m] H) λn H=>bo (bi .lss 3 n (I 0)) λo=>aN o (bnd (ix 6 t0 d H) λp H=>bnd (lda 6 p H) λq H=>bnd (st 6 b q H) λ_ H=>FV C t0 g e b d H) (FV C t0 g e b d H)) (bnd (lda 6 b H) λu H=>bnd (st 6 e u H) λ_ H=>bnd (lda 6 e H) λv _=>ZC (v,H)):=lpE.trans Z
def ap1:Rn2 202 ai4:=λ_ _ _ _ _ h=>rnG ai3 Tryz.func202 Z Z h
def ai5(C:aA)(a0 b:AV)(H:ah):OA:=bnd (fK 100 a0 H) λd H=>bnd (fK 100 b H) λe H=>fld d 3 H λg H=>fld e 3 H λh H=>bo (bi .sub 3 g h) λi=>ZC (i,H)
def ap2:Rn2 203 ai5:=λ_ _ _ _ _ h=>rnG an0 Tryz.func203 Z Z h
def ai6(C:aA)(a0 h:AV)(H:ah):OA:=bnd (fK 31 a0 H) λb H=>bo (bi .lss 3 h (I 0)) λd=>gl d ZV (ZC h) H λi H=>gl d ZV (au b 1) H λj H=>gdA (ZC d) ZV (ld j H) H λk H=>gl d ZV (bi .geq 3 i k) H λm H=>bo (bQ d (B Z0) m) λn=>aN n (ZC (zN,H)) (fld b 2 H λe H=>bnd (mks 3 1 8 [zI] e e H) λg H=>fld b 2 H λo H=>bo (bi .mul 3 h o) λp=>fld b 7 H λq H=>bnd (lnS q H) λu H=>bnd (fU (kH Tryz.prog ZV #[3,3] 3 [p,u]) H) λv H=>fld b 7 H λw H=>bo (slS 1 w (ZC v) Z1 Z1) λy=>bnd (cpy 1 g y H) λz H=>ZC (g,H))
def ap3:Rn2 204 ai6:=λ_ _ _ _ _ h=>rnG an0 Tryz.func204 Z Z h
def QX(C:aA)(a0 i j:AV)(H:ah):OA:=bo (bi .geq 3 a0 i) λb=>gl b Z0 (ZC a0) H λd H=>gl b Z0 (ZC j) H λe H=>gl b Z0 (bi .lss 3 d e) H λg H=>bo (bQ b g (B ZV)) λh=>ZC (h,H)
def ai7:Rn3 211 QX:=λ_ _ _ _ _ _ h=>rnG an0 Tryz.func211 Z Z h
def abN:Ann:=⟨[(4,[3,7,8,9]),(8,[3,7,8,9,18])],[],[]⟩
def Bo:=jv Tryz.prog Tryz.f212 30 abN 0
def FW:=jv Tryz.prog Tryz.f212 30 abN 1
def ai8(C:aA)(a0:AV)(H:ah):OA:=bnd (lnS a0 H) λb H=>Bo C [(.s (Go.Value.int Go.IntKind.u16 65535)),a0,b,I 0] H
def Xi(C:aA)(d e g b:AV)(H:ah):Bo C [d,e,g,b] H= bo (bi .lss 3 b g) λh=>aN h (bnd (ix 1 e b H) λi H=>bnd (ld i H) λj H=>bnd (cv 5 42 j H) λk H=>bo (bi .shl 42 k (.s (Go.Value.int Go.IntKind.u64 8))) λm=>bo (bi .xor 42 d m) λn=>FW C [n,e,g,b,I 0] H) (ZC (d,H)):=lpE.trans Z
def Xj(C:aA)(d e g h b:AV)(H:ah):FW C [d,e,g,h,b] H= bo (bi .lss 3 b (I 8)) λi=>aN i (bo (bi .shr 42 d (.s (Go.Value.int Go.IntKind.u64 15))) λj=>bo (bi .shl 42 d (.s (Go.Value.int Go.IntKind.u64 1))) λk=>bo (bi .mul 42 j (.s (Go.Value.int Go.IntKind.u16 4129))) λm=>bo (bi .xor 42 k m) λn=>bo (bi .add 3 b (I 1)) λo=>FW C [n,e,g,h,o] H) (bo (bi .add 3 h (I 1)) λp=>Bo C [d,e,g,p] H):=lpE.trans Z
def ap4:Rn1 212 ai8:=λ_ _ _ _ h=>rnG abN Tryz.func212 Z Z h
def abO:Ann:=⟨[(4,[0,3,9,10,11]),(12,[6,25,26,27])],[],[]⟩
def Ou:=jv Tryz.prog Tryz.f213 36 abO 0
def Ov:=jv Tryz.prog Tryz.f213 36 abO 1
def FX(C:aA)(t0 g h b d:AV)(H:ah):OA:=bo (bi .add 3 d (I 1)) λe=>Ou C [t0,g,h,b,e] H
def ai9(C:aA)(a0:AV)(H:ah):OA:=bnd (lnS a0 H) λb H=>Ou C [a0,I 0,a0,b,I 0] H
def Ox(C:aA)(t0 h g d b:AV)(H:ah):Ou C [t0,h,g,d,b] H= bo (bi .lss 3 b d) λi=>aN i (bnd (ix 1 g b H) λj H=>bnd (ld j H) λk H=>bnd (lnS k H) λm H=>bo (bi .add 3 h m) λe=>bo (bi .lss 3 e (I 0)) λn=>aN n (bnd (stk H) λq H=>bnd (stk H) λ_ H=>FX C t0 e g d b H) (FX C t0 e g d b H)) (bnd (C 234 [zN,h] H) λo H=>bnd (lnS t0 H) λp H=>Ov C [o,t0,p,I 0] H):=lpE.trans Z
def Oy(C:aA)(g d e b:AV)(H:ah):Ov C [g,d,e,b] H= bo (bi .lss 3 b e) λh=>aN h (bnd (ix 1 d b H) λi H=>bnd (ld i H) λj H=>bnd (app 5 1 1 g j H) λk H=>bo (bi .add 3 b (I 1)) λm=>Ov C [k,d,e,m] H) (ZC (g,H)):=lpE.trans Z
def ap5:Rn1 213 ai9:=λ_ _ _ _ h=>rnG abO Tryz.func213 Z Z h
def FY(C:aA)(d e g:AV)(H:ah):OA:=bnd (lda 9 e H) λb H=>bnd (st 9 d b H) λ_ H=>bnd (lda 9 d H) λh _=>ZC (.tup [h,g],H)
def abP(C:aA)(a0:AV)(H:ah):OA:=bnd (alc 81 [zI,zI,zI,zI,zI,zI,zI,zB,zN] H) λk H=>bnd (C 235 [a0] H) λm H=>bo (aG m 0) λn=>bo (aG m 1) λb=>bnd (alc 81 [zI,zI,zI,zI,zI,zI,zI,zB,zN] H) λd H=>bnd (st 9 d n H) λ_ H=>aN b (bo (ay a0) λe=>fld e 0 H λg H=>bnd (C 133 [g,I 0,I 1] H) λh H=>bo (ay a0) λi=>bo (au i 0) λj=>bnd (st 1 j h H) λ_ H=>FY C k d b H) (FY C k d b H)
def ap6:Rn1 215 abP:=λ_ _ _ _ h=>rnG an0 Tryz.func215 Z Z h
def Lc(C:aA)(a0 F:AV)(H:ah):OA:=bnd (fK 73 a0 H) λg H=>bnd (fK 81 F H) λh H=>fld g 3 H λG H=>bnd (C 223 [G] H) λK H=>bnd (C 229 [K] H) λE H=>bo (bi .neq 3 E (I 0)) λe=>gl e Z0 (au h 0) H λi H=>gdA (ZC e) Z0 (ld i H) H λj H=>gl e Z0 (ZC E) H λk H=>gl e Z0 (bi .eql 3 j k) H λm H=>bo (bQ e m (B ZV)) λb=>gl b Z0 (au h 3) H λn H=>gdA (ZC b) Z0 (ld n H) H λo H=>gl b Z0 (au g 2) H λp H=>gdA (ZC b) Z0 (ld p H) H λq H=>gl b Z0 (bi .eql 3 o q) H λu H=>bo (bQ b u (B ZV)) λd=>gl d Z0 (au h 4) H λv H=>gdA (ZC d) Z0 (ld v H) H λw H=>gl d Z0 (au g 1) H λy H=>gdA (ZC d) Z0 (ld y H) H λz H=>gl d Z0 (bi .eql 3 w z) H λA H=>bo (bQ d A (B ZV)) λD=>ZC (D,H)
def ap7:Rn2 216 Lc:=λ_ _ _ _ _ h=>rnG an0 Tryz.func216 Z Z h
def ap8:Ann:=⟨[],[(1,rF 8 (ZC Z0::rF 8 []))],[(1,[(3,10),(5,10),(5,12)])]⟩
def abQ(C:aA)(a0 a1 a2 a3:AV)(H:ah):OA:=bnd (fK 73 a0 H) λd H=>bnd (fK 81 a3 H) λh H=>bnd (alc 73 [zI,zI,zI,zI,zI,zI,zN,zI,zI] H) λk H=>fld h 6 H λm H1=>bo (au h 5) λi=>bnd (ld i H1) λn H3=>bo (au h 5) λg=>bnd (ld g H3) λo H5=>fld h 8 H5 λp H7=>bnd (unG H7 (C 36 [p] H7.guard)) λq u=>bo (au d 4) λv=>bnd (st 1 v m u) λ_ e=>bo (au d 5) λw=>bnd (st 1 w n e) λ_ j=>bo (au d 8) λy=>bnd (st 1 y o j) λ_ z=>bo (au d 6) λA=>bnd (st 1 A q z) λ_ b=>ck (bT i) u e <| ck (bT g) u e <| ck (bT g) e j <| fld d 4 b λD b=>bo (bi .neq 3 D (I 0)) λE=>aN E (bo (au d 3) λF=>bnd (st 1 F (I 2) b) λ_ b=>bnd (lda 9 d b) λG b=>bnd (st 9 k G b) λ_ b=>bnd (lda 9 k b) λK _=>ZC (.tup [K,B Z0],b)) (fld d 1 b λL b=>fld h 8 b λM b=>bnd (C 236 [L,I (-1),I (-1),B ZV,M] b) λQ b=>bnd (C 191 [a2,Q] b) λab b=>bo (au d 3) λR=>bnd (st 1 R (I 6) b) λ_ b=>bo (au d 4) λT=>bnd (st 1 T (I 1) b) λ_ b=>bo (au d 5) λW=>bnd (st 1 W a1 b) λ_ b=>bo (au d 6) λX=>bnd (st 1 X zN b) λ_ b=>bnd (lda 9 d b) λaa b=>bnd (st 9 k aa b) λ_ b=>bnd (lda 9 k b) λK _=>ZC (.tup [K,B Z0],b))
def ap9:Rn4 217 abQ:=λ_ _ _ _ _ _ _ h=>rnG ap8 Tryz.func217 Z Z h
def FZ(C:aA)(e d:AV)(H:ah):OA:=bnd (lda 9 e H) λb H=>bnd (st 9 d b H) λ_ H=>bnd (lda 9 d H) λg _=>ZC (.tup [g,B Z0],H)
def abR(C:aA)(a0 w y z:AV)(H:ah):OA:=bnd (fK 73 a0 H) λb H=>bnd (fK 81 z H) λd H=>bnd (alc 73 [zI,zI,zI,zI,zI,zI,zN,zI,zI] H) λv H=>fld b 1 H λe H=>fld b 5 H λg H=>fld d 8 H λh H=>bnd (C 236 [e,g,I (-1),B ZV,h] H) λi H=>bnd (C 191 [y,i] H) λA H=>bo (au b 3) λj=>bnd (st 1 j (I 6) H) λ_ H=>bo (au b 4) λk=>bnd (st 1 k (I 1) H) λ_ H=>bo (au b 5) λm=>bnd (st 1 m w H) λ_ H=>bo (au b 6) λn=>bnd (st 1 n zN H) λ_ H=>fld d 7 H λo H=>aN o (fld d 8 H λp H=>bnd (C 36 [p] H) λq H=>bo (au b 6) λu=>bnd (st 1 u q H) λ_ H=>FZ C b v H) (FZ C b v H)
def aqa:Rn4 218 abR:=λ_ _ _ _ _ _ _ h=>rnG an0 Tryz.func218 Z Z h
def Bq(C:aA)(w y b d:AV)(H:ah):OA:=fld b 7 H λe H=>bo (bi .neq 3 e (I (-1))) λg=>aN g (bo (au b 3) λh=>bnd (st 1 h (I 3) H) λ_ H=>bnd (lda 9 b H) λi H=>bnd (st 9 d i H) λ_ H=>bnd (lda 9 d H) λj _=>ZC (j,H)) (fld b 1 H λk H=>fld b 6 H λm H=>bnd (C 236 [k,I (-1),I (-1),B Z0,m] H) λn H=>bnd (C 191 [y,n] H) λz H=>bo (au b 3) λo=>bnd (st 1 o (I 6) H) λ_ H=>bo (au b 4) λp=>bnd (st 1 p (I 2) H) λ_ H=>bo (au b 5) λq=>bnd (st 1 q w H) λ_ H=>bo (au b 6) λu=>bnd (st 1 u zN H) λ_ H=>bnd (lda 9 b H) λv H=>bnd (st 9 d v H) λ_ H=>bnd (lda 9 d H) λj _=>ZC (j,H))
def QY(C:aA)(a0 g h:AV)(H:ah):OA:=bnd (fK 73 a0 H) λb H=>bnd (alc 73 [zI,zI,zI,zI,zI,zI,zN,zI,zI] H) λv H=>fld b 1 H λi H=>bnd (C 41 [h,i] H) λd H=>bo (aG d 0) λj=>bo (aG d 1) λk=>bnd (alc 100 [zI,zI,zI,zI,zB,zN] H) λw H=>bnd (st 6 w j H) λ_ H=>fld b 7 H λm H=>bo (bi .eql 3 m g) λe=>gl e Z0 (ZC k) H λn H=>bo (bQ e n (B ZV)) λo=>aN o (bo (au w 0) λp=>fld p 0 H λq H=>bo (au b 7) λu=>bnd (st 1 u q H) λ_ H=>Bq C g h b v H) (Bq C g h b v H)
def aqb:Rn3 219 QY:=λ_ _ _ _ _ _ h=>rnG an0 Tryz.func219 Z Z h
def aqc:Ann:=⟨[],[(1,rF 14 []),(4,rF 12 []),(13,rF 9 [])],[(1,[(3,7),(5,7),(5,9)]),(4,[(5,7)]),(13,[(2,4)])]⟩
def rY(C:aA)(e d:AV)(H:ah):OA:=bnd (lda 9 e H) λb H=>bnd (st 9 d b H) λ_ H=>bnd (lda 9 d H) λg _=>ZC (g,H)
def Ld(C:aA)(a0 a1 a2:AV)(H:ah):OA:=bnd (fK 73 a0 H) λd H=>bnd (fK 81 a2 H) λv H=>bnd (alc 73 [zI,zI,zI,zI,zI,zI,zN,zI,zI] H) λh H=>fld v 6 H λw H1=>bo (au v 5) λi=>bnd (ld i H1) λy H3=>bo (au v 5) λg=>bnd (ld g H3) λz A=>bo (au d 4) λD=>bnd (st 1 D w A) λ_ u=>bo (au d 5) λE=>bnd (st 1 E y u) λ_ H9=>bo (au d 8) λF=>bnd (st 1 F z H9) λ_ G=>bo (au d 6) λK=>bnd (st 1 K zN G) λ_ b=>ck (bT i) A u <| ck (bT g) A u <| ck (bT g) u H9 <| bo (au d 3) λL=>bnd (st 1 L (I 6) b) λ_ b=>fld d 1 b λM b=>bnd (C 41 [a1,M] b) λj b=>bo (aG j 0) λQ=>bo (aG j 1) λR=>bnd (alc 100 [zI,zI,zI,zI,zB,zN] b) λe b=>bnd (st 6 e Q b) λ_ b=>bo (un .not R) λT=>aN T (bnd (lda 9 d b) λW b=>bnd (st 9 h W b) λ_ b=>bnd (lda 9 h b) λr0 _=>ZC (r0,b)) (bo (au e 0) λX=>bnd (lda 2 X b) λaa b=>bnd (C 237 [aa] b) λab b=>aN ab (fld d 1 b λad b=>bnd (C 232 [a1,ad] b) λba b=>bo (au d 4) λae=>bnd (st 1 ae (I 0) b) λ_ b=>bo (au d 5) λaf=>bnd (st 1 af (I (-1)) b) λ_ b=>fld e 4 b λag b=>aN ag (fld e 5 b λai b=>bo (au d 6) λal=>bnd (st 1 al ai b) λ_ b=>rY C d h b) (rY C d h b)) (bo (au e 0) λam=>bnd (lda 2 am b) λao b=>bnd (C 238 [ao] b) λap b=>aN ap (bo (au e 0) λaq=>bo (au aq 0) λk=>bnd (ld k b) λar m=>bo (au d 5) λaw=>bnd (st 1 aw (I (-1)) m) λ_ n=>bo (au d 7) λax=>bnd (st 1 ax ar n) λ_ az=>bo (au d 3) λaD=>bnd (st 1 aD (I 5) az) λ_ aE=>ck (bT k) m n <| rY C d h aE) (bo (au e 0) λaL=>fld aL 1 b λaM aR=>bo (au e 0) λa3=>bo (au a3 0) λo=>bnd (ld o aR) λa4 p=>bo (au d 5) λa5=>bnd (st 1 a5 aM p) λ_ q=>bo (au d 7) λa6=>bnd (st 1 a6 a4 q) λ_ a7=>bo (au d 3) λa8=>bnd (st 1 a8 (I 4) a7) λ_ a9=>ck (bT o) p q <| rY C d h a9)))
def aqd:Rn3 220 Ld:=λ_ _ _ _ _ _ h=>rnG aqc Tryz.func220 Z Z h
def aja(C:aA)(a0 k m:AV)(H:ah):OA:=bnd (fK 73 a0 H) λb H=>bnd (alc 73 [zI,zI,zI,zI,zI,zI,zN,zI,zI] H) λj H=>fld b 1 H λn H=>bnd (C 232 [k,n] H) λo H=>bo (au b 3) λd=>bnd (st 1 d (I 6) H) λ_ H=>bo (au b 4) λe=>bnd (st 1 e (I 1) H) λ_ H=>bo (au b 5) λg=>bnd (st 1 g m H) λ_ H=>bo (au b 6) λh=>bnd (st 1 h zN H) λ_ H=>bnd (lda 9 b H) λi H=>bnd (st 9 j i H) λ_ H=>bnd (lda 9 j H) λp _=>ZC (p,H)
def aqe:Rn3 221 aja:=λ_ _ _ _ _ _ h=>rnG an0 Tryz.func221 Z Z h
def QZ(C:aA)(a0 i:AV)(H:ah):OA:=bnd (fK 100 a0 H) λj H=>bo (bi .geq 3 i (I 0)) λb=>gl b Z0 (ZC i) H λk H=>gl b Z0 (au j 5) H λm H=>gdA (ZC b) Z0 (ld m H) H λd H=>gdA (ZC b) Z0 (lnS d H) H λe H=>gl b Z0 (bi .lss 3 k e) H λg H=>bo (bQ b g (B ZV)) λh=>ZC (h,H)
def ajb:Rn2 222 QZ:=λ_ _ _ _ _ h=>rnG an0 Tryz.func222 Z Z h
def Ej(C:aA)(a0:AV)(H:ah):OA:=bo (bi .eql 3 a0 (I 1)) λg=>aN g (ZC (I 1,H)) (bo (bi .eql 3 a0 (I 2)) λh=>aN h (ZC (I 3,H)) (bo (bi .eql 3 a0 (I 3)) λi=>aN i (ZC (I 6,H)) (bo (bi .eql 3 a0 (I 4)) λb=>aN b (ZC (I 4,H)) (bo (bi .eql 3 a0 (I 5)) λd=>aN d (ZC (I 5,H)) (bo (bi .eql 3 a0 (I 6)) λe=>aN e (ZC (I 2,H)) (ZC (I 0,H)))))))
def aqf:Rn1 223 Ej:=λ_ _ _ _ h=>rnG an0 Tryz.func223 Z Z h
def ajc(C:aA)(a0:AV)(H:ah):OA:=bnd (fK 216 a0 H) λb H=>ZC ((.fn (.func 239) [] [b]),H)
def aqg:Rn1 224 ajc:=λ_ _ _ _ h=>rnG an0 Tryz.func224 Z Z h
def abS(C:aA)(a0 g:AV)(H:ah):OA:=bo (ay a0) λh=>fld h 0 H λd H=>bnd (lk .i64 (.int .i64 0) d g Z0 H) λb H=>bo (aG b 0) λi=>bo (aG b 1) λe=>ZC (e,H)
def aqh:Rn2 225 abS:=λ_ _ _ _ _ h=>rnG an0 Tryz.func225 Z Z h
def ajd(C:aA)(a0 e:AV)(H:ah):OA:=bo (ay a0) λg=>fld g 1 H λh H=>bnd (lk .i64 (.slice Z1 0 0) h e ZV H) λb H=>bnd (lnS b H) λd H=>ZC (d,H)
def aqi:Rn2 226 ajd:=λ_ _ _ _ _ h=>rnG an0 Tryz.func226 Z Z h
def aqj:Ann:=⟨[],[(4,rF 17 [])],[(4,[(3,15)])]⟩
def Q5(C:aA)(a0 d i L:AV)(H:ah):OA:=bo (bi .lss 3 i (I 0)) λj=>aN j (ZC (B ZV,H)) (bnd (C 225 [a0,d] H) λb H=>gl b ZV (ZC a0) H λk H=>gl b ZV (ZC d) H λm H=>gdA (ZC b) ZV (C 226 [k,m] H) H λn H=>gl b ZV (bi .gtr 3 n (I 0)) H λo H=>bo (bQ b (B Z0) o) λp=>aN p (bo (ay a0) λq=>bo (au q 1) λe=>bnd (ld e H) λu M=>bo (ay a0) λv=>fld v 1 M λw Q=>bnd (lk .i64 (.slice Z1 0 0) w d ZV Q) λy z=>bo (bd 322 [(0,i),(1,L)]) λA=>bnd (bs 320 1 [(0,A)] z) λD g=>bnd (app 322 2 16 y D g) λE h=>bnd (mup .i64 u d E h) λ_ F=>ck (bT e) g h <| ZC (B ZV,F)) (bo (ay a0) λG=>fld G 0 H λK H=>bnd (mup .i64 K d i H) λ_ H=>ZC (B Z0,H)))
def aqk:Rn4 227 Q5:=λ_ _ _ _ _ _ _ h=>rnG aqj Tryz.func227 Z Z h
def aql:Ann:=⟨[],[(1,rF 6 (ZC Z0::rF 3 [])),(6,rF 13 []),(9,rF 10 [])],[]⟩
def yg(C:aA)(t0 b u:AV)(H:ah):OA:=bo (ay t0) λe=>fld e 0 H λg H=>fld b 4 H λh H=>fld b 6 H λi H=>fld b 5 H λj H=>bnd (C 240 [g,h,i,j,u] H) λd H=>bo (bi .neq 57 d (I 0)) λk=>aN k (ZC (d,H)) (bo (ay t0) λm=>fld m 1 H λn H=>fld b 4 H λo H=>fld b 1 H λp H=>bnd (C 241 [n,o,p] H) λq H=>ZC (q,H))
def Lh(C:aA)(a0 m:AV)(H:ah):OA:=bnd (fK 81 m H) λb H=>bo (ay a0) λn=>fld n 1 H λd H=>fld b 4 H λe H=>bnd (unG H (C 85 [d,e] H.guard)) λg H=>fld b 1 H λh H=>bo (bi .neq 3 g h) λi=>aN i (ZC (I 6,H)) (fld b 7 H λj H=>aN j (fld b 8 H λk H=>yg C a0 b k H) (yg C a0 b zN H))
def aqm:Rn2 228 Lh:=λ_ _ _ _ _ h=>rnG aql Tryz.func228 Z Z h
def Bv(C:aA)(b:AV)(H:ah):OA:=aN b (ZC (I 9,H)) (ZC (I 0,H))
def pX(C:aA)(e g:AV)(H:ah):OA:=aN g (ZC (I 8,H)) (bo (bi .eql 3 e (I 3)) λb=>aN b (Bv C b H) (bo (bi .eql 3 e (I 6)) λd=>Bv C d H))
def Em(C:aA)(a0:AV)(H:ah):OA:=bo (bi .eql 3 a0 (I 1)) λe=>aN e (ZC (I 7,H)) (bo (bi .eql 3 a0 (I 2)) λb=>aN b (pX C a0 b H) (bo (bi .eql 3 a0 (I 4)) λd=>aN d (pX C a0 d H) (bo (bi .eql 3 a0 (I 5)) λg=>pX C a0 g H)))
def aqn:Rn1 229 Em:=λ_ _ _ _ h=>rnG an0 Tryz.func229 Z Z h
def aje(C:aA)(a0 b:AV)(H:ah):OA:=bo (ay a0) λd=>bo (au d 1) λe=>bnd (st 1 e b H) λ_ H=>ZC (.tup [],H)
def aqo:Rn2 230 aje:=λ_ _ _ _ _ h=>rnG an0 Tryz.func230 Z Z h
def ajf(C:aA)(a0 b:AV)(H:ah):OA:=bo (ay a0) λd=>bo (au d 0) λe=>bnd (st 1 e b H) λ_ H=>ZC (.tup [],H)
def aqp:Rn2 231 ajf:=λ_ _ _ _ _ h=>rnG an0 Tryz.func231 Z Z h
def F5(C:aA)(d e g:AV)(H:ah):OA:=bnd (lda 6 e H) λb H=>bnd (st 6 d b H) λ_ H=>bnd (lda 6 d H) λh _=>ZC (.tup [h,g],H)
def abT(C:aA)(a0 p:AV)(H:ah):OA:=bnd (alc 100 [zI,zI,zI,zI,zB,zN] H) λq H=>bnd (C 41 [a0,p] H) λd H=>bo (aG d 0) λg=>bo (aG d 1) λb=>bnd (alc 100 [zI,zI,zI,zI,zB,zN] H) λh H=>bnd (st 6 h g H) λ_ H=>aN b (bnd (C 82 [a0,p] H) λe H=>bo (ay a0) λi=>fld i 0 H λj H=>bo (bi .add 3 e (I 1)) λk=>bnd (C 242 [j,e,k] H) λm H=>bo (ay a0) λn=>bo (au n 0) λo=>bnd (st 1 o m H) λ_ H=>F5 C q h b H) (F5 C q h b H)
def aqr:Rn2 232 abT:=λ_ _ _ _ _ h=>rnG an0 Tryz.func232 Z Z h
def abU(C:aA)(a0:AV)(H:ah):OA:=bnd (alc 81 [zI,zI,zI,zI,zI,zI,zI,zB,zN] H) λb H=>bo (ay a0) λm=>fld m 0 H λn H=>bnd (lnS n H) λo H=>bo (bi .eql 3 o (I 0)) λp=>aN p (bo (bd 81 []) λd=>bnd (st 9 b d H) λ_ H=>bnd (lda 9 b H) λe _=>ZC (.tup [e,B ZV],H)) (bo (ay a0) λg=>fld g 0 H λh H=>bnd (ix 9 h (I 0) H) λi H=>bnd (lda 9 i H) λj H=>bnd (C 132 [j] H) λk H=>bnd (st 9 b k H) λ_ H=>bnd (lda 9 b H) λe _=>ZC (.tup [e,B Z0],H))
def aqs:Rn1 235 abU:=λ_ _ _ _ h=>rnG an0 Tryz.func235 Z Z h
def ajg(C:aA)(a0 h i j k:AV)(H:ah):OA:=bnd (alc 100 [zI,zI,zI,zI,zB,zN] H) λb H=>bo (bd 98 [(0,h),(1,i)]) λd=>bnd (C 36 [k] H) λe H=>bo (bd 100 [(0,d),(1,a0),(3,j),(4,e)]) λg=>bnd (st 6 b g H) λ_ H=>bnd (lda 6 b H) λm _=>ZC (m,H)
def aqt:Rn5 236 ajg:=λ_ _ _ _ _ _ _ _ h=>rnG an0 Tryz.func236 Z Z h
def abV(C:aA)(a0:AV)(H:ah):OA:=bnd (fK 98 a0 H) λd H=>bnd (lda 2 d H) λe H=>bnd (C 238 [e] H) λb H=>gdA (ZC b) Z0 (lda 2 d H) H λg H=>gdA (ZC b) Z0 (C 243 [g] H) H λh H=>bo (bQ b h (B ZV)) λi=>ZC (i,H)
def ajh:Rn1 237 abV:=λ_ _ _ _ h=>rnG an0 Tryz.func237 Z Z h
def aji(C:aA)(a0:AV)(H:ah):OA:=bnd (fK 98 a0 H) λb H=>fld b 1 H λd H=>bo (bi .eql 3 d (I (-1))) λe=>ZC (e,H)
def aqu:Rn1 238 aji:=λ_ _ _ _ h=>rnG an0 Tryz.func238 Z Z h
def aqv:Ann:=⟨[],[(11,rF 7 [])],[]⟩
def F6(C:aA)(t0 h b:AV)(H:ah):OA:=bo (ay t0) λd=>fld d 8 H λe H=>bnd (lda 3 b H) λg H=>bnd (mup .i64 e h g H) λ_ H=>ZC (I 0,H)
def yX(C:aA)(a0 o k m n:AV)(H:ah):OA:=bo (ay a0) λp=>fld p 8 H λq H=>bnd (lk .i64 (.agg #[.int .i64 0,.int .i64 0,.slice Z1 0 0]) q o Z0 H) λj H=>bo (aG j 0) λu=>bo (aG j 1) λv=>bnd (alc 95 [zI,zI,zN] H) λe H=>bnd (st 3 e u H) λ_ H=>bo (un .not v) λw=>aN w (ZC (I 3,H)) (bo (bi .lss 3 k (I 0)) λh=>gl h ZV (ZC k) H λy H=>gl h ZV (bi .gtr 3 y (I 2)) H λz H=>bo (bQ h (B Z0) z) λi=>gl i ZV (ZC m) H λA H=>gl i ZV (bi .lss 3 A (I (-1))) H λD H=>bo (bQ i (B Z0) D) λd=>gl d ZV (ZC m) H λE H=>gl d ZV (ZC a0) H λF H=>gl d ZV (ay F) H λG H=>gl d ZV (au G 0) H λK H=>gl d ZV (au K 0) H λL H=>gdA (ZC d) ZV (ld L H) H λM H=>gl d ZV (bi .geq 3 E M) H λQ H=>bo (bQ d (B Z0) Q) λR=>aN R (ZC (I 1,H)) (bo (bi .eql 3 m (I (-1))) λT=>bo (bi .eql 3 k (I 0)) λW=>bo (bi .neq 4 T W) λg=>gl g ZV (ZC n) H λX H=>gdA (ZC g) ZV (lnS X H) H λaa H=>gl g ZV (bi .neq 3 aa (I 0)) H λab H=>gl g ZV (ZC ab) H λb H=>gl b Z0 (ZC n) H λad H=>gdA (ZC b) Z0 (lnS ad H) H λae H=>gl b Z0 (ZC a0) H λaf H=>gl b Z0 (ay af) H λag H=>gl b Z0 (au ag 0) H λai H=>gl b Z0 (au ai 2) H λal H=>gdA (ZC b) Z0 (ld al H) H λam H=>gl b Z0 (bi .neq 3 ae am) H λao H=>gl g ZV (bQ b ao (B ZV)) H λap H=>bo (bQ g (B Z0) ap) λaq=>aN aq (ZC (I 1,H)) (bo (au e 0) λar=>bnd (st 1 ar k H) λ_ H=>bo (au e 1) λaw=>bnd (st 1 aw m H) λ_ H=>bnd (lnS n H) λax H=>bo (bi .gtr 3 ax (I 0)) λaz=>aN az (bnd (C 36 [n] H) λaD H=>bo (au e 2) λaE=>bnd (st 1 aE aD H) λ_ H=>F6 C a0 o e H) (F6 C a0 o e H))))
def aqw:Rn5 240 yX:=λ_ _ _ _ _ _ _ _ h=>rnG aqv Tryz.func240 Z Z h
def Xk(C:aA)(a0 d u:AV)(H:ah):OA:=bnd (C 225 [a0,d] H) λv H=>bo (un .not v) λb=>gl b ZV (ZC a0) H λe H=>gl b ZV (ay e) H λg H=>gl b ZV (au g 0) H λh H=>gdA (ZC b) ZV (ld h H) H λi H=>gl b ZV (ZC d) H λj H=>gdA (ZC b) ZV (lk .i64 (.int .i64 0) i j ZV H) H λk H=>gl b ZV (ZC u) H λm H=>gl b ZV (bi .neq 3 k m) H λn H=>bo (bQ b (B Z0) n) λo=>aN o (ZC (I 6,H)) (bo (ay a0) λp=>fld p 0 H λq H=>bnd (del .i64 q d H) λ_ H=>ZC (I 0,H))
def aqx:Rn3 241 Xk:=λ_ _ _ _ _ _ h=>rnG an0 Tryz.func241 Z Z h
def aqy:Ann:=⟨[],[(5,rF 8 [])],[]⟩
def ajj(C:aA)(a0 d e:AV)(H:ah):OA:=bnd (lnS a0 H) λg H=>bo (slS 6 a0 (ZC d) (ZC e) (ZC g)) λo=>bo (bi .eql 3 d e) λh=>aN h (ZC (a0,H)) (bnd (lnS a0 H) λi H=>bo (slS 6 a0 Z1 (ZC d) Z1) λj=>bo (slS 6 a0 (ZC e) Z1 Z1) λk=>bnd (app 100 6 64 j k H) λb H=>bnd (lnS b H) λm H=>bo (slS 6 b (ZC m) (ZC i) Z1) λn=>bnd (clr 6 [zI,zI,zI,zI,zB,zN] n H) λ_ H=>ZC (b,H))
def aqz:Rn3 242 ajj:=λ_ _ _ _ _ _ h=>rnG aqy Tryz.func242 Z Z h
def ajk(C:aA)(a0:AV)(H:ah):OA:=bnd (fK 98 a0 H) λb H=>fld b 0 H λd H=>bo (bi .eql 3 d (I (-1))) λe=>ZC (e,H)
def aqA:Rn1 243 ajk:=λ_ _ _ _ h=>rnG an0 Tryz.func243 Z Z h
def nP(l:Q Pkt)(room:Int):Q Cell:=[.seq 9 (l.flatMap Pkt.av),.av (I room)]
def yh(l:Q Int):(l.map I).all AV.aU=true:=by
 rw[List.all_eq_true];intro x b;obtain⟨z,_,rfl⟩:=List.mem_map.1 b;rfl
def rZ(l:Q Int){d:Nat}:∀x∈l.map I,Frz (d+1) x:=λx b=>by
 obtain⟨z,_,rfl⟩:=List.mem_map.1 b;exact fC
def qN {l:Q Int}(h:l≠[]):dat l=.vs l.length 1 (l.map I):=by
 rw[dat,EZ h,Qv]
def kC(H:ah)(l:Q Int)(hl:l.length<1000000000):cl 36 [dat l] H=ZC (dat l,H):=by
 by_cases h:l=[]
 ·subst h;refine gY W W (ae7 _ _ _ (r:=(zN,H.guard)) ?_) iF;have e:bi .eql 22 zN zN=ZC (B Z0):=by kernel_rfl
  simp only[xq_,abd,dat,gu,e]
 ·have h0:l.length≠0:=λe=>h (List.eq_nil_of_length_eq_zero e);have e2:=tZ (e:=3) (by_:=8) (r:=H.guard.next) (H:=H.guard.new (.blk 0 3 [])) qH (gJ _ l) (yh l) h0 (by unfold most;omega) (by unfold most;omega);simp only[wU,eu]at e2;refine gY W W (ae7 _ _ _ (r:=(.sl (H.next+1) 0 0 1 l.length l.length ZV,(H.guard.new (.blk 0 3 [])).new (.blk 0 (3+gW) (l.map I)))) ?_) ?_
  ·have e1:bi .eql 22 (dat l) zN=ZC (B ZV):=by rw[qN h];exact uf Tryz.underlying22
   simp only[xq_,abd,e1,ND,zF,e2,Nat.zero_mul,Nat.zero_le]
  ·rw[qN h];refine kS (by omega) (cells:=l.map I) ?_ (iM _ λx hx=>rZ l x hx _ _);simp only[cZ,jq,eu,wU,zad];rw[y (by simp),List.drop_zero,List.take_of_length_le (by simp)]
def abW(p:Pkt):Frz 9 (.agg p.av):=mD λx b=>by
 simp only[Pkt.av,List.mem_cons,List.not_mem_nil,zan]at b;rcases b with rfl|rfl|rfl|rfl|rfl|rfl|rfl|rfl|rfl <;> first|exact fC|exact sV
def abX(H:ah)(p:Pkt)(b:p.data.length<1000000000):cl 116 [.agg p.av] H=ZC (.agg p.av,H):=by
 have d:=λH=>kC H p.data b;refine bD W W (aoE _ _ _) ?_ (abW p);simp only[Nat.reduceLT,Nat.reduceAdd,aI,xq_,hq_,ahY,aC,Pkt.av,d]
def Xl(H:ah)(p:Pkt)(b:p.data.length<1000000000):cl 132 [.agg p.av] H=ZC (.agg p.av,H):=by
 have d:=λH=>kC H p.data b;refine bD W W (aoS _ _ _) ?_ (abW p);simp only[Nat.reduceLT,Nat.reduceAdd,aI,xq_,hq_,aic,aC,Pkt.av,d]
section
variable {b:Nat}{H:ah}{g:bG}{q:Nat}{l:List Pkt}{room:Int}
def Xm(G:Good b H g)(h:g q=ZC (nP l room))(k:0<=room)(m:room<1000)(n:l.length<1000):
  cl 194 [.ref q 0 0] H=ZC (I (room-l.length),H):=by
 refine bg W W (apP _ _ _ ?_);have⟨x,d,c⟩:=G.seq h (i:=0) W;have e:=G.load h (i:=1) W;have j:=(c.is J (dF cO l)).lnS;simp only[xq_,aiW,d,e,j,lF];rw[wrap_i64 V V]
def akR(G:Good b H g)(hb:H.base<=b)(h:g q=ZC (nP l room))(h1:0<=room)(h2:room<1000)(h3:l.length<1000)(p:Pkt)(hp:p.data.length<1000000000):
  ∃H',cl 197 [.ref q 0 0,.agg p.av] H=ZC (I (if room=l.length then 5 else 0),H')/\Good b H' (upd g q (nP (if room=l.length then l else l++[p]) room))/\Step b H H':=by
 have G1:=G.new (.blk 0 81 p.av);have e1:=Xm G1 h h1 h2 h3;by_cases hr:room=l.length
 ·refine⟨_,bg W W (aiY _ _ _ _ (r:=(_,H.new (.blk 0 81 p.av))) ?_),?_,Step.new _ G.1⟩
  ·simp only[Nat.reduceLT,xq_,hq_,abM,aC (aV p),e1,hr,Int.sub_self]
  ·rw[y hr,fP h];exact G1
 ·have hr':¬room-(l.length:Int)=0:=by omega
  have⟨x,hx,c⟩:=G1.seq h (i:=0) W;have e2:=iE (H:=H.new (.blk 0 81 p.av)) (r:=H.next) (off:=0) (n:=9) (qH) (by simp[Pkt.av]);have e3:=abX (H.new (.blk 0 81 p.av)).guard p hp;have⟨x',H1,H2,a1,a2,a3,a4⟩:=(G1.new (.blk 0 81 p.av)).append (e:=81) (by_:=88) hb h (i:=0) W (by decide) (dF cO l) (c.new _) (jZ (ex:=Z0) (n:=1) (m:=9) (l:=p.av) W) (aV p) (by unfold most;omega) (by unfold most;omega);refine⟨H2,bg W W (aiY _ _ _ _ ?_),?_,(((Step.new _ G.1).trans (Step.new _ (G.new _).1)).trans a4)⟩
  ·simp only[eu]at a1;simp only[Nat.reduceLT,xq_,abM,aC (aV p),e1,hr',hr,hx,e2,List.drop_zero,e3,agX,Nat.one_mul,Nat.reduceLeDiff,Qw,jE (m:=9) (z:=[zI,zI,zI,zI,zI,zI,zI,zB,zN]) (v:=.agg p.av) W W (aV p),eU,a1,a2]
  ·rw[F hr];have:nP (l++[p]) room=(nP l room).set 0 (.seq 9 (l.flatMap Pkt.av++p.av)):=by simp[nP]
   rw[this];exact a3
def abY(G:Good b H g)(h:g q=ZC (nP l room))(k:0<=room)(m:room<1000)(n:l.length<1000):
  cl 131 [.ref q 0 0] H=ZC (I (room-l.length),H):=by
 refine bg W W (aoR _ _ _ ?_);have⟨x,d,c⟩:=G.seq h (i:=0) W;have e:=G.load h (i:=1) W;have j:=(c.is J (dF cO l)).lnS;simp only[xq_,aib,d,e,j,lF];rw[wrap_i64 V V]
def afg(G:Good b H g)(hb:H.base<=b)(h:g q=ZC (nP l room))(h1:0<=room)(h2:room<1000)(h3:l.length<1000)(p:Pkt)(hp:p.data.length<1000000000):
  ∃H',cl 93 [.ref q 0 0,.agg p.av] H=ZC (I (if room=l.length then 5 else 0),H')/\Good b H' (upd g q (nP (if room=l.length then l else l++[p]) room))/\Step b H H':=by
 have G1:=G.new (.blk 0 81 p.av);have e1:=abY G1 h h1 h2 h3;by_cases hr:room=l.length
 ·refine⟨_,bg W W (aon _ _ _ _ (r:=(_,H.new (.blk 0 81 p.av))) ?_),?_,Step.new _ G.1⟩
  ·simp only[Nat.reduceLT,xq_,hq_,akO,aC (aV p),e1,hr,Int.sub_self]
  ·rw[y hr,fP h];exact G1
 ·have hr':¬room-(l.length:Int)=0:=by omega
  have⟨x,hx,c⟩:=G1.seq h (i:=0) W;have e2:=iE (H:=H.new (.blk 0 81 p.av)) (r:=H.next) (off:=0) (n:=9) (qH) (by simp[Pkt.av]);have e3:=Xl (H.new (.blk 0 81 p.av)).guard p hp;have⟨x',H1,H2,a1,a2,a3,a4⟩:=(G1.new (.blk 0 81 p.av)).append (e:=81) (by_:=88) hb h (i:=0) W (by decide) (dF cO l) (c.new _) (jZ (ex:=Z0) (n:=1) (m:=9) (l:=p.av) W) (aV p) (by unfold most;omega) (by unfold most;omega);refine⟨H2,bg W W (aon _ _ _ _ ?_),?_,(((Step.new _ G.1).trans (Step.new _ (G.new _).1)).trans a4)⟩
  ·simp only[eu]at a1;simp only[Nat.reduceLT,xq_,akO,aC (aV p),e1,hr',hr,hx,e2,List.drop_zero,e3,agX,Nat.one_mul,Nat.reduceLeDiff,Qw,jE (m:=9) (z:=[zI,zI,zI,zI,zI,zI,zI,zB,zN]) (v:=.agg p.av) W W (aV p),eU,a1,a2]
  ·rw[F hr];have:nP (l++[p]) room=(nP l room).set 0 (.seq 9 (l.flatMap Pkt.av++p.av)):=by simp[nP]
   rw[this];exact a3
def akS {i n:Nat}{x:AV}{l:Q AV}(c:Cur b H q i x 9 l)(hb:H.base<=b)(g:l.length=n*9)(k:n<1000000000){j:Nat}(m:j<n):
  ∃h H',cl 133 [x,I j,I (j+1)] H=ZC (h,H')/\Fit H H' x h 9 (l.take (j*9)++l.drop ((j+1)*9))/\H'.next=H.next/\H'.base=H.base/\∀r,iH x≠ZC r->H'.get r=H.get r:=by
 have⟨y,K,L,o,H1,M,p,u,v,w,A,C,D,E,f,n1,F,k1⟩:=Wv c hb J g k m (z:=[zI,zI,zI,zI,zI,zI,zI,zB,zN]) W W (e:=81) (by_:=88) J;have G:=(c.is J g).lnS;have d:((j:Int)=j+1)=False:=zaG V;refine⟨o,p,bg W W (aoU _ _ _ _ _ ?_),f,n1,F,k1⟩;simp only[xq_,aie,G,u,v,w,A,C,D,E,d]
def Q7 {α:Type}{enc:α->Q AV}{m:Nat}(b:∀a,(enc a).length=m):∀(l:Q α) (j:Nat),(l.flatMap enc).take (j*m)=(l.take j).flatMap enc
 |[],j=>by simp
 |a::l,0=>by simp
 |a::l,j+1=>by
  rw[List.flatMap_cons,List.take_succ_cons,List.flatMap_cons,Nat.succ_mul,Nat.add_comm,List.take_append,b,Nat.add_sub_cancel_left,Q7 b l j,List.take_of_length_le (by rw[b];omega)]
def Q8 {α:Type}{enc:α->Q AV}{m:Nat}(b:∀a,(enc a).length=m):∀(l:Q α) (j:Nat),(l.flatMap enc).drop (j*m)=(l.drop j).flatMap enc
 |[],j=>by simp
 |a::l,0=>by simp
 |a::l,j+1=>by
  rw[List.flatMap_cons,List.drop_succ_cons,Nat.succ_mul,Nat.add_comm,List.drop_append,b,Nat.add_sub_cancel_left,Q8 b l j,List.drop_of_length_le (by rw[b];omega),List.nil_append]
def Lj {α:Type}{enc:α->Q AV}{m:Nat}(b:∀a,(enc a).length=m)(l:Q α)(j:Nat):(l.flatMap enc).take (j*m)++(l.flatMap enc).drop ((j+1)*m)=(l.eraseIdx j).flatMap enc:=by
 rw[Q7 b,Q8 b,List.eraseIdx_eq_take_drop_succ,List.flatMap_append]
def jT {α:Type}{enc:α->Q AV}{m:Nat}(b:∀a,(enc a).length=m){L:Q α}{x:AV}(d:aH H x m L.length (L.flatMap enc)){i:Nat}{a:α}(hi:L[i]?=ZC a):lda m (eH x i) H=ZC (.agg (enc a),H):=by
 have e:i<L.length:=(List.getElem?_eq_some_iff.1 hi).1;rw[d.lda e,vg b L i a hi]
def iJ(o:M Pkt):AV:=.tup [.agg (o.getD .zero).av,B o.isSome]
def fM:Pkt.zero.av=[zI,zI,zI,zI,zI,zI,zI,zB,zN]:=by simp[Pkt.zero,Pkt.av,dat,gu]
def Dl(o:M Pkt):Frz 9 (iJ o):=wS λx b=>by
 simp only[List.mem_cons,List.not_mem_nil,zan]at b;rcases b with rfl|rfl
 ·refine mD λx b=>?_;simp only[Pkt.av,List.mem_cons,List.not_mem_nil,zan]at b;rcases b with rfl|rfl|rfl|rfl|rfl|rfl|rfl|rfl|rfl <;> first|exact fC|exact sV
 ·exact fC
def abZ(G:Good b H g)(h:g q=ZC (nP l room))(w:l.length<1000)(hd:∀p∈l,p.data.length<1000000000):
  cl 235 [.ref q 0 0] H=ZC (iJ l.head?,H):=by
 refine bD W W (aqs _ _ _) ?_ (Dl _);have m:=G.guard.new (.blk 0 81 [zI,zI,zI,zI,zI,zI,zI,zB,zN]);have⟨x,e,c⟩:=m.seq h (i:=0) W;have d:=c.is J (dF cO l);have j:=d.lnS;cases l with
 |nil=>simp only[Nat.reduceAdd,aI,xq_,hq_,abU,e,j,Int.ofNat_zero,zC,jf,dX,iJ,fM,List.head?_nil,Option.getD_none,Option.isSome_none]
 |cons p l=>
  have n:=d.ix (k:=.i64) (i:=0) J (by simp only[List.length_cons];omega);have o:=jT cO d (i:=0) (a:=p) W;have u:(((l.length+1:Nat):Int)=0)=False:=zaG V;have v:=λH=>Xl H p (hd p O);simp only[Nat.reduceAdd,aI,xq_,hq_,abU,e,j,u,n,Int.toNat_zero,o,v,iJ,List.head?_cons,Option.getD_some,Option.isSome_some]
def Xn(G:Good b H g)(hb:H.base<=b)(h:g q=ZC (nP l room))(A:l.length<1000){j:Nat}(o:j<l.length):
  ∃x e H1 d,ld (.ref q 0 0) H=ZC (x,H)/\cl 133 [x,I j,I (j+1)] H=ZC (e,H1)/\st 1 (.ref q 0 0) e H1=ZC (aX,d)/\Good b d (upd g q (nP (l.eraseIdx j) room))/\Step b H d:=by
 have⟨x,p,c⟩:=G.seq h (i:=0) W;have⟨e,H1,u,m,C,v,n⟩:=akS c hb (dF cO l) V o;rw[Lj cO]at m;have⟨d,w,y,z,D⟩:=G.seat h (i:=0) W c V V (λr _ k=>n r k) m;exact⟨x,e,H1,d,p,u,w,y,Step.trans ⟨v,V,λr k=>n r (c.low k)⟩ z⟩
def ab1(G:Good b H g)(hb:H.base<=b)(h:g q=ZC (nP l room))(h3:l.length<1000)(hd:∀p∈l,p.data.length<1000000000):
  ∃H',cl 215 [.ref q 0 0] H=ZC (iJ l.head?,H')/\Good b H' (upd g q (nP l.tail room))/\Step b H H':=by
 have G1:=G.newObj (ty:=81) (xs:=[zI,zI,zI,zI,zI,zI,zI,zB,zN]) W;have hq:=G.lt h;have h1:upd g H.next ([zI,zI,zI,zI,zI,zI,zI,zB,zN].map .av) q=ZC (nP l room):=by rw[bF (by omega)];exact h
 have e1:=abZ G1 h1 h3 hd;have hb0:H.base<=H.next:=Nat.le_trans hb G.1
 refine kN W W (ap6 _ _ _) ?_;cases l with
 |nil=>
  simp only[Nat.reduceAdd,aI,xq_,hq_,Option.some.injEq,zaa,zaJ,abP,e1,FY,iJ,List.head?_nil,Option.getD_none,Option.isSome_none,fM,List.tail_nil,hb0];exact⟨(fP h).symm ▸ (G.new _).new _,(Step.new _ G.1).trans (Step.new _ (G.new _).1)⟩
 |cons p l=>
  have hm:=hd p (by simp);let H1:=H.new (.blk 0 81 [zI,zI,zI,zI,zI,zI,zI,zB,zN]);have G2:=G1.newObj (ty:=81) (xs:=p.av) (aV _);have hv2:upd (upd g H.next ([zI,zI,zI,zI,zI,zI,zI,zB,zN].map .av)) (H.next+1) (p.av.map .av) H.next=ZC ([zI,zI,zI,zI,zI,zI,zI,zB,zN].map .av):=by rw[bF (by omega),aQ]
  have h2:upd (upd g H.next ([zI,zI,zI,zI,zI,zI,zI,zB,zN].map .av)) (H.next+1) (p.av.map .av) q=ZC (nP (p::l) room):=by rw[bF (by omega)];exact h1
  have⟨x,x',K1,K2,s1,s2,s3,s4,s5⟩:=Xn G2 (by rw[iO,iO];omega) h2 h3 (j:=0) (by simp);have G3:Good b K2 _:=s4;have q2:upd (upd (upd g H.next ([zI,zI,zI,zI,zI,zI,zI,zB,zN].map .av)) (H.next+1) (p.av.map .av)) q (nP l room) (H.next+1)=ZC (p.av.map .av):=by rw[bF (by omega),aQ]
  have q1:upd (upd (upd g H.next ([zI,zI,zI,zI,zI,zI,zI,zB,zN].map .av)) (H.next+1) (p.av.map .av)) q (nP l room) H.next=ZC ([zI,zI,zI,zI,zI,zI,zI,zB,zN].map .av):=by rw[bF (by omega),bF (by omega),aQ]
  have l2:=G3.loads q2 (i:=0) (n:=9) (xs:=p.av) W W (by decide);have⟨K3,t1,t2,t3,t4⟩:=G3.stores (by rw[s5.base,iO,iO];exact hb) q1 (i:=0) (n:=9) (vs:=p.av) (by decide) W (aV _);have l3:=t2.loads aQ (i:=0) (n:=9) (xs:=p.av) W W (by decide);have z1:((0:Nat):Int)=0:=rfl;have z2:((0:Nat):Int)+1=1:=rfl;rw[z2]at s2;simp only[z1]at s2;simp only[Nat.reduceAdd,aI,xq_,hq_,Option.some.injEq,zaa,zaJ,abP,e1,FY,iJ,List.head?_cons,Option.getD_some,Option.isSome_some,List.tail_cons,hb0,s1,s2,s3,l2,t1,l3];have n1:g H.next=none:=G.isNone (Nat.le_refl _)
  have n2:g (H.next+1)=none:=G.isNone (by omega);exact⟨t2.sub (((((uF.refl g).more n1 _).more n2 _).both q _).more (Ap n1 (by omega)) _),(((Step.new _ G.1).trans (Step.new _ (G.new _).1)).trans s5).trans t3⟩
def ab2(G:Good b H g)(h:g q=ZC (nP l room))(A:l.length<1000)(hd:∀p∈l,p.data.length<1000000000)(at_:Int):
  cl 70 [.ref q 0 0,I at_] H=ZC (iJ (if at_<0 then Z1 else l[at_.toNat]?),H):=by
 refine bD W W (atu _ _ _ _) ?_ (Dl _);have u:=G.guard.new (.blk 0 81 [zI,zI,zI,zI,zI,zI,zI,zB,zN]);have⟨x,n,c⟩:=u.seq h (i:=0) W;have j:=c.is J (dF cO l);have o:=j.lnS;by_cases m:at_<0
 ·simp only[Nat.reduceAdd,aI,xq_,hq_,afc,m,zC,jf,dX,iJ,fM,Option.getD_none,Option.isSome_none]
 ·by_cases v:at_<l.length
  ·have w:=j.ix (k:=.i64) (i:=at_) V v;have⟨p,e⟩:∃p,l[at_.toNat]?=ZC p:=⟨_,List.getElem?_eq_getElem V⟩
   have y:=jT cO j e;have z:=λH=>abX H p (hd p (List.mem_of_getElem? e));have d:¬(l.length:Int)<=at_:=V
   simp only[Nat.reduceAdd,aI,xq_,hq_,afc,n,m,d,o,w,y,z,e,iJ,Option.getD_some,Option.isSome_some]
  ·have e:l[at_.toNat]?=none:=List.getElem?_eq_none V;have d:(l.length:Int)<=at_:=V
   simp only[Nat.reduceAdd,aI,xq_,hq_,afc,n,m,d,o,e,zC,jf,dX,iJ,fM,Option.getD_none,Option.isSome_none]
end
open Go.RowKit
section
variable {P:Program}{C:aA}{A:Ann}{n:Nat}
def Ll {L:Q Nat}{c:Code}(hc:Qq A n c (pW L) (λ_=>0) 0=Z0){t:gB}{e:Env}{H H1:ah}{vs:Q AV}(p:Ag n (zA A c (pW L) (λ_=>0) 0) t e)
  (h:kY P C A n c e H (λe H=>ZC (yH L e,H)) (λ_ _ _=>Z1) (λ_ _=>Z1)=ZC (vs,H1)):
  ∃g,fF P C c t H=ZC (.normal,g,H1)/\∃d,Ag n (pW L) g d/\yH L d=vs:=by
 open Classical in
 have key:=HY (P:=P) (C:=C) (β:=Q AV × ah) A c (pW L) (λ_=>0) 0 hc
  (λt H=>if j:∃d,Ag n (pW L) t d/\yH L d=vs then(if H=H1 then ZC (vs,H)else Z1)else Z1) (λe H=>if yH L e=vs/\H=H1 then ZC (vs,H)else Z1)
  (λ_ _ _=>Z1) (λ_ _ _=>Z1) (λ_ _=>Z1) (λ_ _=>Z1)
  (λt e H ha r m=>by
   split at m
   ·rename_i o;rw[dif_pos ⟨e,ha,o.1⟩,YY o.2];exact m
   ·cases m) (λ_ _ _ _ _=>Le.refl _) (λ_ _ _ _=>Le.refl _) t e H p
 have u:=KI (P:=P) (C:=C) (A:=A) (n:=n) (β:=Q AV × ah) c e H (λk e H=>k (yH L e) H) (λ_ _ _ _=>Z1) (λ_ _ _=>Z1) (λt H=>aaq _ _) (λ_ _ _=>iq _) (λ_ _=>iq _);have v:kY P C A n c e H (λe H=>(λs H=>ZC (s,H)) (yH L e) H) (λ_ _ _=>Z1) (λ_ _=>Z1)=ZC (vs,H1):=h;have w:kY P C A n c e H (λe H=>if yH L e=vs/\H=H1 then ZC (vs,H)else Z1) (λ_ _ _=>Z1) (λ_ _=>Z1)=ZC (vs,H1):=by
  rcases u (λs H=>ZC (s,H)) _ v with b|⟨s,H',b,y⟩
  ·exact b λs H=>if s=vs/\H=H1 then ZC (vs,H)else Z1
  ·cases b;exact y (λs H=>if s=vs/\H=H1 then ZC (vs,H)else Z1) O
 have b:=key _ w;cases j:fF P C c t H with
 |none=>rw[j]at b;cases b
 |some q=>
  have⟨ex,g,E⟩:=q;rw[j]at b;cases ex with
  |normal=>
   simp only[Qs]at b;split at b
   ·rename_i z;split at b
    ·rename_i D;subst D;exact⟨g,W,z⟩
    ·cases b
   ·cases b
  |exit i=>cases b
  |ret=>cases b
def ab3 {c:Code}{d:Q ResultVar}(hc:Qq A n c (Tn d) (λ_=>0) (Tn d)=Z0){t:gB}{e:Env}{H:ah}{r:AV × ah}(p:Ag n (zA A c (Tn d) (λ_=>0) (Tn d)) t e)
  (h:kY P C A n c e H (Py P n d) (λ_ _ _=>Z1) (Py P n d)=ZC r):
  ∃ex g,(ex=.normal∨ex=.ret)/\fF P C c t H=ZC (ex,g,r.2)/\jB P d g r.2=ZC r.1:=by
 have k:∀t e H,Ag n (Tn d) t e->Le (Py P n d e H) ((jB P d t H).map λv=>(v,H)):=λt e H h=>by
  rw[aaw _ h];exact Le.refl _
 have b:=HY (P:=P) (C:=C) A c _ _ _ hc _ _ _ _ _ _ k (λ_ _ _ _ _=>Le.refl _) k t e H p r h;cases m:fF P C c t H with
 |none=>rw[m]at b;cases b
 |some q=>
  have⟨ex,g,o⟩:=q;rw[m]at b;cases ex with
  |exit i=>cases b
  |normal=>
   simp only[Qs]at b;cases j:jB P d g o with
   |none=>rw[j]at b;cases b
   |some v=>
    rw[j]at b;simp only[Option.map_some,Option.some.injEq]at b;subst b;exact⟨_,g,.inl W,W,j⟩
  |ret=>
   simp only[Qs]at b;cases j:jB P d g o with
   |none=>rw[j]at b;cases b
   |some v=>
    rw[j]at b;simp only[Option.map_some,Option.some.injEq]at b;subst b;exact⟨_,g,.inr W,W,j⟩
def aqB {o:Oper}{a:Act}{w:Xs}{K:Act->Xs->Prop}{Q:Exit->Act->Xs->Prop}{l m:Nat}(hd:∀c,o.op≠.defer c)(h:o.wp P a w K Q):o.wpIn (Fence.wide.inRound l) m P a w K Q:=by
 unfold Oper.wpIn;refine⟨λ_ _=>zac,?_⟩;rw[Oper.semAt_eq _ _ _ hd];unfold Oper.wp at h;generalize (execOp a.eval o).run P w=r at*;have b:(Fence.wide.inRound l).depth.isSome=Z0->1<=m:=λh=>by cases h
 cases r with
 |ok x w'=>
  cases x <;> simp only[Oper.upon,Oper.uponIn]at h ⊢ <;> first
   |exact h
   |exact⟨b,CallsIn.inRound l (callsIn_wide.2 h)⟩
   |exact h.elim
   |skip
  rename_i row d;exact⟨b,λc cs e=>let⟨v,w',r,s⟩:=h c cs;⟨v,w',r,stepsIn_wide.2 s⟩⟩
 |halt x w'=>cases x <;> simp only[Oper.upon,Oper.uponIn]at h ⊢ <;> exact h
def Dn(o:Oper):Bool:=match o.op with
 |.defer _=>ZV
 |_=>Z0
def Lm {o:Oper}(h:Dn o=Z0):∀c,o.op≠.defer c:=λc e=>by rw[Dn,e]at h;cases h
def akT {ops:Array Oper}(hd:∀o∈ops,Dn o=Z0){Q:Exit->Act->Xs->Prop}{i:Nat}{K:Act->Xs->Prop}{a:Act}{w:Xs}{l m:Nat}(d:¬LetsOut Q)(h:wpOp P ops Q i K a w):wpOpIn (Fence.wide.inRound l) m P ops Q i K a w:=by
 unfold wpOp at h;unfold wpOpIn;split
 ·rename_i b;rw[b]at h;exact h
 ·rename_i o b;rw[b]at h;simp only at h;split
  ·rename_i hw;rw[y hw]at h;exact aqB (Lm (hd o (Array.mem_of_getElem? b))) (h.resolve_right λh=>d h.2)
  ·rename_i hw;rw[F hw]at h;exact⟨λ_ _=>zac,h⟩
def afh {ops:Array Oper}(hd:∀o∈ops,Dn o=Z0){Q:Exit->Act->Xs->Prop}{l m:Nat}{d:Region.Mode}(e:¬LetsOut Q):∀(b:Nat) (listed:Array Bool) (a:Act) (w:Xs),wpAny P d ops Q b listed a w->wpAnyIn (Fence.wide.inRound l) m P d ops Q b listed a w:=by
 intro b
 induction b with
 |zero=>intro listed a w h;exact h
 |succ b g=>
  intro listed a w h;exact⟨h.1,λi hi=>wpOpIn_mono (λa w h=>g _ a w h) (akT hd e (h.2 i hi))⟩
def yj(P:XX)(C:aA)(c:Code):Prop:=∀l m t H e t' H',fF P C c t H=ZC (e,t',H')->∀(ρ:Ren) (w:Xs) (a:Act),Rel ρ H w->TOn ρ H.gen w (λ_=>True) t a->∀Q:Exit->Act->Xs->Prop,¬LetsOut Q->asf ρ H w a t' H' (Q e.to)->c.wpIn (Fence.wide.inRound l) m P Q a w
def afi {ops:Z2 Oper}{t t':gB}{H H':ah}{ρ:Ren}{w:Xs}{a:Act}(G:qX P C)(K:kQ C)(h:y7 P C ops t H=ZC (t',H'))(R:Rel ρ H w)(L:TOn ρ H.gen w (λ_=>True) t a){Q:Exit->Act->Xs->Prop}
  (hQ:∀a' ρ' w',Rel ρ' H' w'->TOn ρ' H'.gen w' (λ_=>True) t' a'->Ext ρ H w ρ' H' w'->a'.defers=a.defers->Q .normal a' w'):wpAny P .any ops.toArray Q ops.toArray.size (Array.replicate ops.toArray.size ZV) a w.drew:=by
 unfold y7 at h;split at h <;> try(cases h;done)
 rename_i M;split at h <;> try(cases h;done)
 rename_i t0 H0 v;have⟨y,W⟩:fZ P C ops (mW ops) t0 H0=ZC (t',H')/\∀p∈lV ops,agree P C ops H.next t0 H0 p:=by
  split at h
  ·rename_i he;rw[he];exact⟨h,O⟩
  ·split at h <;> try(cases h;done)
   rename_i ha;exact⟨h,ha⟩
 have F:=DU M;have b:∀j,j∈oM ops↔j<ops.length/\cst ops j=true:=λj=>by simp[oM,List.mem_filter,List.mem_range]
 have⟨hf,hg,z,nm,vl,h1,h2,h3⟩:=uU (oM ops) t H t0 H0 (List.nodup_range.filter _) (λj n=>((b j).1 n).2)
  (λi _ j _ oi oj d a1 a2 a3 a4=>F.arJ i j oi oj d a1 a2 a3 a4) v
 have⟨T,Hp,val,S,g,m⟩:=J5 y vl;have⟨A,X,aa⟩:=Qd R hf hg;have⟨ρ1,w1,a1,g1,g2⟩:=zf G _ _ _ _ _ ρ w a v R L;have D:aev P C ops t H t0 H0 T Hp val nm:={
  facts:=F
  S:=S
  names:=λj n hc=>by
   have⟨o,E,q2,q3,q4,q5⟩:=h1 j ((b j).2 ⟨n,hc⟩);exact⟨o,E,q2,q3,by rw[m j hc];exact q4,λd hd q=>by rw[m j hc];exact q5 d hd q⟩
  inj:=λi j hi n ci cj e=>h2 i ((b i).2 ⟨hi,ci⟩) j ((b j).2 ⟨n,cj⟩) e
  rest:=λd hd=>h3 d λj n o ho=>hd j ((b j).1 n).2 o ho
  len:=z
  fresh:=hf
  auI:=hg
  agr:=W
  ghost:=λp hp d=>by
   have⟨ρ2,w2,a2,r1,r2⟩:=J6 G S g1 g2 p hp;exact RV.nv r1.out _ _ (r2.any d zac)
  keeps:=K }
 have e1:T ops.length=t':=by rw[<-Prod.mk.inj g |>.1]
 have e2:Hp ops.length=H':=by rw[<-Prod.mk.inj g |>.2]
 have u:∀j,¬Li (Array.replicate ops.toArray.size ZV) j:=λj=>by
  unfold Li;simp[Array.getD]
 refine agQ G D (a0:=a) (λa' ρ' w' E q2 q3 q4=>hQ a' ρ' w' (by rw[<-e2];exact E) (by rw[<-e1,<-e2];exact q2) (by rw[<-e2];exact q3) q4) ops.toArray.size _ a w.drew 0 ρ (by simp[Ah]) ?_;refine⟨O,λj o _ q=>absurd q (u j),Nat.zero_le _,λi _ _=>⟨λq=>absurd q (u i),λh=>V⟩,by rw[S.zero.2];exact X.drew,λk hk hc _=>?_,?_,L.size,λd hd=>⟨λj o _ q=>absurd q (u j),λ_=>?_⟩,Z3⟩
 ·have⟨_,_,E,_⟩:=D.names k hk hc;exact(R.out _ E).1
 ·rw[S.zero.2];exact aa.trans (Ext.drew ρ H0 w)
 ·rw[S.zero.2,A];exact RV.mono (Ext.drew ρ H w).toMono _ _ (L.get d zac hd)
def UM(i:qX P C)(b:kQ C)(hm:P.follows .mixedOrders=Z0){id:Nat}{ops:Array Oper}(hd:∀o∈ops,Dn o=Z0):yj P C (.region id ops Z0):=by
 intro l m t H e t' H' h ρ w a R T Q d j;simp only[fF,zad]at h;split at h <;> try(cases h;done)
 rename_i k H1 g;simp only[Option.some.injEq,zaa]at h;obtain⟨rfl,rfl,rfl⟩:=h;have:=afi i b g R T (Q:=Q) j;rw[show ops.toList.toArray=ops from W]at this;exact wpIn_region_any hm (afh hd d _ _ _ _ this)
def UN {id:Nat}{c:Code}(hc:yj P C c):yj P C (.block id c):=by
 intro l m t H e t' H' h ρ w a R T Q k j;simp only[fF]at h;refine wpIn_block ?_;unfold DW at h;have n:¬LetsOut (Exit.inBlock id Q):=λ⟨a,w,h⟩=>k ⟨a,w,h⟩;split at h
 ·rename_i i d H1 g;refine hc l m t H _ d H1 g ρ w a R T _ n λo p q u v y z=>?_;simp only[Ex.to,Exit.inBlock];split at h
  ·rename_i b;simp only[Option.some.injEq,zaa]at h;obtain⟨rfl,rfl,rfl⟩:=h;rw[YY b];exact j o p q u v y z
  ·rename_i b;simp only[Option.some.injEq,zaa]at h;obtain⟨rfl,rfl,rfl⟩:=h;rw[F b];exact j o p q u v y z
 ·rename_i d H1 g;simp only[Option.some.injEq,zaa]at h;obtain⟨rfl,rfl,rfl⟩:=h;exact hc l m t H _ d H1 g ρ w a R T _ n j
 ·rename_i d H1 g;simp only[Option.some.injEq,zaa]at h;obtain⟨rfl,rfl,rfl⟩:=h;exact hc l m t H _ d H1 g ρ w a R T _ n j
 ·cases h
def xk(H:ah):Prop:=∀r k b,H.get r≠.map k b
def xk.cells {H:ah}(h:xk H){ρ:Ren}{w:Xs}(R:Rel ρ H w){r b sh:Nat}(i:ρ r=ZC (b,sh)):∃cs e,w.heap[b]?=ZC (.cells cs e (0,0)):=by
 have:=R.obj r b sh i;cases d:H.get r with
 |blk g n cells=>
  rw[d]at this;have⟨cs,e,j,_⟩:=this;exact⟨cs,e,j⟩
 |map k m=>exact absurd d (h r k m)
def xk.imm {H:ah}(h:xk H){ρ:Ren}{w:Xs}(R:Rel ρ H w){b:Nat}{o:Obj}(g:w.heap[b]?=ZC o)(hc:o.isCells=ZV):Imm ρ b:=λr j i=>by
 have⟨cs,e,d⟩:=h.cells R i;rw[g]at d;cases d;cases hc
end
structure Grn(w w':World):Prop where
 size:w.heap.size<=w'.heap.size
 cell:∀b o v,w.cell? ⟨b,o,none⟩=some v->w'.cell? ⟨b,o,none⟩=some v
 shape:∀b e m,w.shape? b=some (e,m)->w'.shape? b=some (e,m)
mutual
def RV.grn {ρ:Ren}{G:Nat->Nat}{w w':Xs}(M:Grn w w'):∀(x:AV) (v:XS),RV ρ G w x v->RV ρ G w' x v
 |.s _,_,h=>by simpa only[RV]using h
 |.ref r g off,v,h=>by simpa only[RV]using h
 |.sl r g off i len p ex,v,h=>by
  obtain⟨b,o,c,e,k1,j,q,d,n⟩:=(by simpa only[RV]using h)
  simp only[RV];refine⟨b,o,c,e,k1,j,q,d,λu=>?_⟩;have⟨y,z,k,A,C,D,E⟩:=n u;exact⟨y,z,k,A,C,M.shape _ _ _ D,E⟩
 |.ip cells,v,h=>by
  obtain⟨b,o,e,hb,hi,d⟩:=(by simpa only[RV]using h)
  simp only[RV];exact⟨b,o,e,Nat.lt_of_lt_of_le hb M.size,hi,RVc.grn M cells b o d⟩
 |.vs m i cells,v,h=>by
  obtain⟨b,o,c,e,k1,j,hb,hi,d⟩:=(by simpa only[RV]using h)
  simp only[RV];exact⟨b,o,c,e,k1,j,Nat.lt_of_lt_of_le hb M.size,hi,RVc.grn M cells b o d⟩
 |.mp r,v,h=>by simpa only[RV]using h
 |.fn f a c,v,h=>by
  obtain⟨a',c',e,d,n⟩:=(by simpa only[RV]using h)
  simp only[RV];exact⟨a',c',e,RVs.grn M a _ d,RVs.grn M c _ n⟩
 |.agg cells,v,h=>by
  obtain⟨cs,e,d⟩:=(by simpa only[RV]using h)
  simp only[RV];exact⟨cs,e,RVs.grn M cells _ d⟩
 |.tup cells,v,h=>by
  obtain⟨cs,e,d⟩:=(by simpa only[RV]using h)
  simp only[RV];exact⟨cs,e,RVs.grn M cells _ d⟩
def RVs.grn {ρ:Ren}{G:Nat->Nat}{w w':Xs}(M:Grn w w'):∀(xs:Q AV) (l:Q XS),RVs ρ G w xs l->RVs ρ G w' xs l
 |[],_,h=>by simpa only[RVs]using h
 |x::xs,l,h=>by
  obtain⟨y,b,e,d,g⟩:=(by simpa only[RVs]using h)
  simp only[RVs];exact⟨y,b,e,RV.grn M x y d,RVs.grn M xs b g⟩
def RVc.grn {ρ:Ren}{G:Nat->Nat}{w w':Xs}(M:Grn w w'):∀(xs:Q AV) (b o:Nat),RVc ρ G w xs b o->RVc ρ G w' xs b o
 |[],_,_,_=>by simp only[RVc]
 |x::xs,b,o,h=>by
  obtain⟨⟨y,e,d⟩,g⟩:=(by simpa only[RVc]using h)
  simp only[RVc];exact⟨⟨y,M.cell _ _ _ e,RV.grn M x y d⟩,RVc.grn M xs b (o+1) g⟩
end
section
variable {P:Program}{C:aA}
def aqC {w w':Xs}{row:M Nat}(d:w.grownBy w' row)(g:∀r,row=ZC r->∃o:Obj,w.heap[r]?=ZC o/\o.isCells=ZV):Grn w w':=by
 refine⟨d.size,λb o v h=>cell_kept h d g,λb e m h=>?_⟩;rw[fE]at h ⊢;cases hb:w.heap[b]? with
 |none=>rw[hb]at h;cases h
 |some i=>
  have hc:i.isCells=true:=by
   rw[hb]at h;cases i <;> first|rfl|cases h
  rw[grownBy_keeps_cells d g hb hc];exact h
def xk.grown {H:ah}(h:xk H){ρ:Ren}{w w':Xs}(R:Rel ρ H w){row:Z6 Nat}{B:Nat}(i:w.grownBy w' row)(m:∀r,row=ZC r->B<=r/\∃o:Obj,w.heap[r]?=ZC o/\o.isCells=ZV)(q:∀b∈fx.blocks,b<B):Rel ρ H w'/\Grn w w':=by
 have M:=aqC i λr e=>(m r e).2;refine⟨⟨R.out,λr b u d=>?_,R.inj,?_⟩,M⟩
 ·have j:=R.obj r b u d;have⟨v,F,n⟩:=h.cells R d;have hk:=grownBy_keeps_cells i (λr e=>(m r e).2) n W;cases p:H.get r with
  |blk g G cells=>
   rw[p]at j;have⟨cs,e,y,z,A,C⟩:=j;exact⟨cs,e,by rw[hk];exact y,z,RVc.grn M _ _ _ A,C⟩
  |map k D=>exact absurd p (h r k D)
 ·refine⟨λb hb=>?_,fx.frame w w' (λb hb=>?_) R.gl.2⟩
  ·have⟨j,E⟩:=R.gl.1 b hb;exact⟨Nat.lt_of_lt_of_le j i.size,E⟩
  ·refine i.block b (R.gl.1 b hb).1 λe=>?_;have:=(m b e.symm).1;have:=q b hb;omega
def Ext.grown {ρ ρ1:Ren}{H H1:ah}{w W g:Xs}(E:Ext ρ H w ρ1 H1 W){row:M Nat}(d:W.grownBy g row)(i:∀r,row=ZC r->w.heap.size<=r):Ext ρ H w ρ1 H1 g:=by
 have hb:∀b,b<w.heap.size->g.heap[b]?=W.heap[b]?:=λb hb=>d.block b (Nat.lt_of_lt_of_le hb E.size) λe=>by
  have:=i b e.symm;omega
 exact⟨E.next,E.mono,E.same,E.kept,E.range,Nat.le_trans E.size d.size,λb h hi=>(hb b h).trans (E.frame b h hi),λb h=>by rw[<-E.shape b h,fE,fE,hb b h],d.os.trans E.os,d.tape.trans E.tape,d.output.trans E.output⟩
def KpC(b:Xs->Prop)(A B:Xs):Prop:=b A->b B
def afj(hm:P.follows .mixedOrders=Z0){t:gB}{H:ah}{ρ:Ren}{w:Xs}{a:Act}(R:Rel ρ H w)(T:TOn ρ H.gen w (λ_=>True) t a)
  {g:Operand} {p d:Tmp} (hp:p<t.length) (hpd:p≠d) {ida:Nat} {ty:XN} {pos:String} {aft:Array Edge} {body:Code}
  {gf:Nat} {lb:Array XS} (hg:a.eval g=.func (.func gf) #[] lb) (eg:∀args w,(callFunc gf args).run P w=.ok (.enter gf args) w)
  {N:Nat} (vs:Fin N->AV) (cvs:Fin N->XS) (hv:∀x,RV ρ H.gen w (vs x) (cvs x)) (CP:Xs->Prop) (hL:∀(W:Xs) (l:Nat) (o o':Obj),w.heap.size<=l->W.heap[l]?=ZC o->o.isCells=ZV->CP W->CP (W.putObj l o'))
  (hseq:∀n,1<=n->SeqStopsK Fence.wide n P gf lb (λx=>#[cvs x]) (KpC CP) (λys=>ys.map (λx:Fin N=>x.val)=List.range N) (λ_=>True) N w)
  (Inv:Z2 (Fin N)->ah->Prop) (h0:Inv [] H) (hnm:∀pre H1,Inv pre H1->xk H1)
  (hcell:∀pre H1 ρ1 W,Inv pre H1->Rel ρ1 H1 W->Ext ρ H w ρ1 H1 W->CP W)
  (hrun:∀pre x H1,Inv pre H1->pre.length<N->∃t2 H2,fF P C body (wC (wC t (ZC p) (vs x)) (ZC d) (vs x)) H1=ZC (.normal,t2,H2)/\Inv (pre++[x]) H2)
  (hin:yj P C body) {Q:Exit->Act->Xs->Prop}
  (hQ:∀xs H1 D W ρ1,xs.map (λx:Fin N=>x.val)=List.range N->Inv xs H1->Rel ρ1 H1 W->Ext ρ H w ρ1 H1 W->W.heap[D]?=ZC (.deferred (ZC []))->Imm ρ1 D->w.heap.size<=D->Q .normal { a with defers:={ target:=.collected D,args:=#[] }::a.defers } W):
  (Code.rangeFunc g #[p] (.region ida #[{ dst:=ZC d,op:=.assign (.tmp p),type:=ty,pos:=pos,after:=aft,guard:=Z1 }] ZV) body).wp P Q a w:=by
 refine(wpIn_wide (n:=9)).1 ?_;have hpa:p<a.tmps.size:=by rw[T.size];exact hp
 let a0:Fin N->Act:=λx=>{ tmps:=a.tmps.setIfInBounds p (cvs x),defers:=[] }
 let I:Z2 (Fin N)->Xs->Prop:=λpre W=>∃H1 ρ1,Inv pre H1/\Rel ρ1 H1 W/\Ext ρ H w ρ1 H1 W
 have hfx:∀b∈fx.blocks,b<w.heap.size:=λb hb=>(R.gl.1 b hb).1;refine wpIn_rangeFunc_ownF (F:=Fence.wide) (α:=Fin N) Z3 J (gf:=gf) (lb:=lb) hg zac eg (hseq 8 J) (λh k hx=>k (h hx)) ?hKb (Below.refl _ _) (λ_=>rfl) I (λ_ _ _=>False) ?hI (λ_ _ _ _ _ h _ _=>h) ⟨H,ρ,h0,R,Ext.refl _ _ _⟩ (λx=>(a0 x).put (ZC d) (cvs x)) ?hassign ?hbody ?hdone (λ_ _ _ _ _ _ h _=>h.elim)
 case hKb=>
  intro W l o o' hl ho hc _ hx;exact hL W l o o' hl ho hc hx
 case hI=>
  rintro pre W W' row ⟨H1,ρ1,i1,i2,i3⟩ hgr hr;have⟨r1,_⟩:=(hnm pre H1 i1).grown i2 hgr hr hfx;exact⟨H1,ρ1,i1,r1,i3.grown hgr λr e=>(hr r e).1⟩
 case hassign=>
  intro l x W K hK;refine wpIn_region ?_;have e1:(#[p].zip #[cvs x]).foldl (λt q=>t.setIfInBounds q.1 q.2) a.tmps=a.tmps.setIfInBounds p (cvs x):=O
  have e2:({ tmps:=a.tmps.setIfInBounds p (cvs x),defers:=[] }:Act).eval (.tmp p)=cvs x:=by
   simp[Act.eval,Array.getD,hpa]
  show wpOpsIn _ _ P _ _ [0] _ W;simp only[wpOpsIn,List.getElem?_toArray,List.getElem?_cons_zero,Region.wanted,zad];refine aqB (Lm Z3) ?_;unfold Oper.wp;have e3:execOp ({ tmps:=a.tmps.setIfInBounds p (cvs x),defers:=[] }:Act).eval { dst:=ZC d,op:=.assign (.tmp p),type:=ty,pos:=pos,after:=aft,guard:=Z1 }=pure (.value (cvs x)):=by
   show pure (Next.value _)=_;rw[e2]
  have e4:((#[p].zip #[cvs x]).foldl (λt x=>match x with|(p,v)=>t.setIfInBounds p v) a.tmps)=a.tmps.setIfInBounds p (cvs x):=O
  rw[e4,e3];exact hK
 case hbody=>
  rintro l pre x W ⟨H1,ρ1,i1,i2,i3⟩ hlen;have⟨t2,H2,r1,r2⟩:=hrun pre x H1 i1 hlen;have hvx:=RV.mono i3.toMono _ _ (hv x);have T0:TOn ρ1 H1.gen W (λ_=>True) (wC t (ZC p) (vs x)) (a0 x):=⟨((T.keep i3).put (ZC p) hvx).size,((T.keep i3).put (ZC p) hvx).get⟩
  have T1:=T0.put (ZC d) hvx;refine hin l _ _ H1 _ t2 H2 r1 ρ1 W _ i2 T1 _ (λ⟨_,_,h⟩=>h) λa' ρ' w' q1 q2 q3 q4=>?_;refine⟨⟨q3.size,λk o ho hc=>?_⟩,λ_=>hcell _ H2 ρ' w' r2 q1 (i3.trans q3),H2,ρ',r2,q1,i3.trans q3⟩;rw[q3.frame k (Array.getElem?_eq_some_iff.1 ho).1 ((hnm pre H1 i1).imm i2 ho hc)];exact ho
 case hdone=>
  rintro D xs W hD hS ⟨H1,ρ1,i1,i2,i3⟩ hK;exact hQ xs H1 D W ρ1 hS i1 i2 i3 hK ((hnm xs H1 i1).imm i2 hK Z3) hD
end
def apz(e:XN)(m by_:Nat)(z:Q AV)(x y:AV):AM AV:=λH=>match y with
 |.s (.int _ n)=>if 0<=n/\n<=most/\n*by_<=most then dV e m by_ x n.toNat (dM z n.toNat) H else Z1
 |_=>Z1
def xq:Ann:=⟨[],[(4,rF 40 (Z1::ZC ZV::[])),(7,rF 3 (ZC Z0::rF 4 []))],[]⟩
def UO:Code:=match abt with
 |.seq a (.seq b (.seq c (.seq d (.seq (.seq e _) f))))=>.seq a (.seq b (.seq c (.seq d (.seq e .skip))))
 |_=>.skip
def UQ(C:aA)(t0:AV)(H:ah):Z6 (Z2 AV × ah):=bnd (alc 81 [zI,zI,zI,zI,zI,zI,zI,zB,zN] H) λv2 H=>bnd (C 178 [t0] H) λg H=>bo (aG g 0) λb=>bo (aG g 1) λh=>bo (un .not h) λe=>gdA (ZC e) ZV (fU (ZC b) H) H λi H=>gdA (ZC e) ZV (lnS i H) H λj H=>gdA (ZC e) ZV (fU (bi .lss 3 j (I 10)) H) H λk H=>bo (bQ e (B Z0) k) λd=>gdA (ZC d) ZV (fU (ZC b) H) H λm H=>gdA (ZC d) ZV (lnS m H) H λn H=>gdA (ZC d) ZV (fU (ZC b) H) H λo H=>gdA (ZC d) ZV (ix 1 o (I 9) H) H λp H=>gdA (ZC d) ZV (ld p H) H λq H=>gdA (ZC d) ZV (cv 5 3 q H) H λu H=>gdA (ZC d) ZV (fU (bi .mul 3 (I 8) u) H) H λv H=>gdA (ZC d) ZV (fU (bi .add 3 (I 10) v) H) H λw H=>gdA (ZC d) ZV (fU (bi .neq 3 n w) H) H λy H=>bo (bQ d (B Z0) y) λz=>aN z (bo (bd 81 []) λA=>bnd (st 9 v2 A H) λ_ H=>Z1) (bnd (alc 81 [zI,zI,zI,zI,zI,zI,zI,zB,zN] H) λv6 H=>bnd (ix 1 b (I 0) H) λD H=>bnd (ld D H) λE H=>bnd (cv 5 3 E H) λF H=>bnd (ix 1 b (I 1) H) λG H=>bnd (ld G H) λK H=>bnd (cv 5 3 K H) λL H=>bnd (ix 1 b (I 2) H) λM H=>bnd (ld M H) λQ H=>bnd (cv 5 3 Q H) λR H=>bnd (ix 1 b (I 3) H) λT H=>bnd (ld T H) λW H=>bnd (cv 5 3 W H) λX H=>bo (bi .shl 3 X (.s (Go.Value.int Go.IntKind.u64 8))) λaa=>bnd (ix 1 b (I 4) H) λab H=>bnd (ld ab H) λad H=>bnd (cv 5 3 ad H) λae H=>bo (bi .or 3 aa ae) λaf=>bnd (ix 1 b (I 5) H) λag H=>bnd (ld ag H) λai H=>bnd (cv 5 3 ai H) λal H=>bnd (ix 1 b (I 6) H) λam H=>bnd (ld am H) λao H=>bnd (cv 5 3 ao H) λap H=>bo (bi .sub 3 ap (I 1)) λaq=>bnd (ix 1 b (I 7) H) λar H=>bnd (ld ar H) λaw H=>bnd (cv 5 3 aw H) λax H=>bnd (ix 1 b (I 8) H) λaz H=>bnd (ld az H) λaD H=>bo (bi .eql 5 aD (.s (Go.Value.int Go.IntKind.u8 1))) λaE=>bo (bd 81 [(0,F),(1,L),(2,R),(3,af),(4,al),(5,aq),(6,ax),(7,aE)]) λaL=>bnd (st 9 v6 aL H) λ_ H=>bo (slS 1 b (ZC (I 10)) Z1 Z1) λaM=>bnd (C 179 [aM,I 8] H) λaR H=>ZC ([t0,v2,v6,aR],H))
def akU(C:aA)(t0:AV)(H:ah):kY Tryz.prog C xq 100 UO [(0,t0)] H (λe H=>ZC (yH [0,2,6,76] e,H)) (λ_ _ _=>Z1) (λ_ _=>Z1)=UQ C t0 H:=Z
def Oz:Code:=match abt with
 |.seq a (.seq b (.seq c (.seq d (.seq (.seq e (.block _ (.rangeFunc _ _ _ g))) f))))=>g
 |_=>.skip
def UR(C:aA)(j k:AV)(H:ah):M (Q AV × ah):=bo (au j 8) λb=>bnd (ld b H) λd H=>bnd (unG H (C 180 [k] H.guard)) λe H=>bnd (bs 22 1 [(0,e)] H) λg H=>bnd (app 3 1 8 d g H) λh H=>bo (au j 8) λi=>bnd (st 1 i h H) λ_ H=>ZC ([],H)
def akV(C:aA)(b d:AV)(H:ah):kY Tryz.prog C xq 100 Oz [(6,b),(7,d)] H (λe H=>ZC (yH [] e,H)) (λ_ _ _=>Z1) (λ_ _=>Z1)=UR C b d H:=Z
def OB:Code:=match abt with
 |.seq a (.seq b (.seq c (.seq d (.seq (.seq e _) f))))=>f
 |_=>.skip
def UU(C:aA)(t0 e v:AV)(H:ah):M (AV × ah):=bnd (lda 9 v H) λg H=>bnd (C 128 [g] H) λd H=>bo (aG d 0) λh=>bo (aG d 1) λi=>bo (bi .neq 57 i (I 0)) λb=>gdA (ZC b) ZV (fU (ZC h) H) H λj H=>gdA (ZC b) ZV (fU (ZC t0) H) H λk H=>gdA (ZC b) ZV (C 181 [j,k] H) H λm H=>gdA (ZC b) ZV (fU (un .not m) H) H λn H=>bo (bQ b (B Z0) n) λo=>aN o (bo (bd 81 []) λp=>bnd (st 9 e p H) λ_ H=>bnd (lda 9 e H) λq _=>ZC (.tup [q,I 2],H)) (bnd (lda 9 v H) λu H=>bnd (st 9 e u H) λ_ H=>bnd (lda 9 e H) λq _=>ZC (.tup [q,I 0],H))
def akW(C:aA)(t0 b d:AV)(H:ah):kY Tryz.prog C xq 100 OB [(0,t0),(2,b),(6,d)] H (Py Tryz.prog 100 Tryz.f129.results.toList) (λ_ _ _=>Z1) (Py Tryz.prog 100 Tryz.f129.results.toList)=UU C t0 b d H:=Z
def OC(C:aA)(t0:AV)(H:ah):OA:=ZC (t0,H)
def OD(C:aA)(t0 o:AV)(H:ah):OA:=bnd (fU (agL Tryz.prog 220 t0) H) λd H=>bnd (lnS t0 H) λe H=>bo (bi .sub 3 d e) λg=>bo (bi .sub 3 o g) λb=>bo (bi .gtr 3 b (I 0)) λh=>aN h (bnd (fU (agL Tryz.prog 220 t0) H) λi H=>bo (slS 1 t0 Z1 (ZC i) Z1) λj=>bnd (apz 5 1 1 [.s (.int .u8 0)] j b H) λk H=>bnd (lnS t0 H) λm H=>bo (slS 1 k Z1 (ZC m) Z1) λn=>OC C n H) (OC C t0 H)
def ajl(C:aA)(a0 b:AV)(H:ah):OA:=bo (bi .lss 3 b (I 0)) λd=>aN d (bnd (stk H) λe H=>bnd (stk H) λ_ H=>OD C a0 b H) (OD C a0 b H)
def aqD:Rn2 234 ajl:=λ_ _ _ _ _ h=>rnG an0 Tryz.func234 Z Z h
structure Gro(H H':ah):Prop where
 next:H.next<=H'.next
 base:H'.base=H.base
 same:∀r,r<H.next->H'.get r=H.get r
 Q9:xk H->xk H'
def Gro.refl(H:ah):Gro H H:=⟨Nat.le_refl _,W,λ_ _=>rfl,λh=>h⟩
def Gro.trans {H H' H'':ah}(a:Gro H H')(b:Gro H' H''):Gro H H'':=⟨Nat.le_trans a.next b.next,b.base.trans a.base,λr h=>(b.same r (Nat.lt_of_lt_of_le h a.next)).trans (a.same r h),λh=>b.Q9 (a.Q9 h)⟩
def Gro.new(H:ah)(g ty:Nat)(xs:Q AV):Gro H (H.new (.blk g ty xs)):=
 ⟨by rw[eu];omega,iO,λr h=>aZ h,λh r k b=>by
  by_cases e:r=H.next
  ·rw[aK e];simp
  ·have:(H.new (.blk g ty xs)).get r=H.get r:=by simp[ah.new,e]
   rw[this];exact h r k b⟩
structure dL(H:ah)(x:AV)(l:List By):Prop where
 is:aH H x 1 l.length (l.map Y)
 small:l.length<1000
def dL.gro {H H':ah}{x:AV}{l:Q By}(h:dL H x l)(g:Gro H H'):dL H' x l:=⟨h.is.iD g.next λr _ b=>g.same r b,h.small⟩
def dL.ix {H:ah}{x:AV}{l:Q By}(h:dL H x l){i:Nat}(hi:i<l.length):ix 1 x (I i) H=ZC (eH x i,H):=by
 have:=h.is.ix (k:=.i64) (i:=(i:Int)) V V
 rwa [Int.toNat_natCast]at this
def dL.ld {H:ah}{x:AV}{l:Q By}(h:dL H x l){i:Nat}{c:By}(hi:l[i]?=ZC c):ld (eH x i) H=ZC (Y c,H):=by
 rw[h.is.ld (by have:=(List.getElem?_eq_some_iff.1 hi).1;omega),List.getElem?_map,hi];rfl
def akX(s:S16):(s <<< 1) ^^^ ((s >>> 15)*4129#16)=shS s:=by
 unfold shS
 congr 1
 have d:=s.isLt;have b:s >>> 15=if s.msb then 1#16 else 0#16:=by
  apply BitVec.eq_of_toNat_eq
  rw[BitVec.toNat_ushiftRight,Nat.shiftRight_eq_div_pow,BitVec.msb_eq_decide];by_cases h:2 ^ (16-1)<=s.toNat
  ·simp only[h,decide_true,if_true];show s.toNat / 2 ^ 15=1;omega
  ·simp only[h,decide_false,Bool.false_eq_true,if_false];show s.toNat / 2 ^ 15=0;omega
 rw[b];cases s.msb <;> simp
def ajm {x:AV}{n i:Int}(H:ah):∀(k j:Nat),j+k=8->∀s:S16,FW cl0 [U16 s,x,I n,I i,I j] H=Bo cl0 [U16 (shN k s),x,I n,I (IntKind.wrap .i64 (i+1))] H
 |0,j,d,s=>by
  have b:¬((j:Int)<8):=V
  rw[Xj];simp only[xq_,b,bM];rfl
 |k+1,j,d,s=>by
  have b:(j:Int)<8:=V
  have e:(j:Int)+1=((j+1:Nat):Int):=V
  have g:=wrap_i64 (a:=((j+1:Nat):Int)) V V;have h:bi .shr 42 (U16 s) (.s (.int .u64 15))=ZC (U16 (s >>> 15)):=akj (k:=.u16) s 15 J J;have m:bi .shl 42 (U16 s) (.s (.int .u64 1))=ZC (U16 (s <<< 1)):=aa3 (k:=.u16) W s 1 J J;have o:bi .mul 42 (U16 (s >>> 15)) (.s (.int .u16 4129))=ZC (U16 ((s >>> 15)*4129#16)):=asG (k:=.u16) W (s >>> 15) 4129#16;have p:bi .xor 42 (U16 (s <<< 1)) (U16 ((s >>> 15)*4129#16))=ZC (U16 (shS s)):=by rw[<-akX];exact aki (k:=.u16) W _ _
  have q:=ajm (x:=x) (n:=n) (i:=i) H k (j+1) V (shS s);rw[Xj];simp only[xq_,b,h,m,o,p,bM,e,g,q];rfl
def avC {H:ah}{x:AV}{l:Q By}(b:dL H x l):cl0 212 [x] H=ZC (U16 (vC 0xffff#16 l),H):=by
 have key:∀(k i:Nat),i+k=l.length->∀s:S16,Bo cl0 [U16 s,x,I l.length,I i] H=ZC (U16 (vC s (l.drop i)),H):=by
  intro k
  induction k with
  |zero=>
   intro i hi s;have d:¬((i:Int)<l.length):=V
   rw[Xi,List.drop_of_length_le V];simp only[xq_,d];rfl
  |succ k j=>
   intro i hi s;have d:(i:Int)<l.length:=V
   have m:(i:Int)+1=((i+1:Nat):Int):=V
   have o:=wrap_i64 (a:=((i+1:Nat):Int)) (by have:=b.small;omega) (by have:=b.small;omega);have⟨c,hc⟩:∃c,l[i]?=ZC c:=⟨_,List.getElem?_eq_getElem V⟩
   have p:=b.ix (i:=i) V;have q:=b.ld hc;have u:cv 5 42 (Y c) H=ZC (U16 (c.setWidth 16),H):=
    (aj8 (k:=.u8) (n:=(c.toNat:Int)) (H:=H)).trans (zaj (λv=>ZC (v,H)) (anw (k:=.u8) (k':=.u16) W c))
   have w:bi .shl 42 (U16 (c.setWidth 16)) (.s (.int .u64 8))=ZC (U16 (c.setWidth 16 <<< 8)):=aa3 (k:=.u16) W (c.setWidth 16) 8 J J;have y:bi .xor 42 (U16 s) (U16 (c.setWidth 16 <<< 8))=ZC (U16 (s ^^^ (c.setWidth 16 <<< 8))):=aki (k:=.u16) W _ _;have e:=ajm (x:=x) (n:=(l.length:Int)) (i:=(i:Int)) H 8 0 W (s ^^^ (c.setWidth 16 <<< 8));rw[m,o]at e;have hd:l.drop i=c::l.drop (i+1):=by
    rw[List.drop_eq_getElem_cons V];rw[List.getElem?_eq_getElem V]at hc;rw[Option.some.inj hc]
   have g:=j (i+1) V (ZE s c);have z:vC s (c::l.drop (i+1))=vC (ZE s c) (l.drop (i+1)):=rfl;rw[Xi,hd,z,<-g];have A:((0:Nat):Int)=0:=rfl;rw[A]at e;simp only[xq_,d,p,q,u,w,y,e];rfl
 refine iT (ap4 _ _ _ ?_);have C:=b.is.lnS;have h:=key l.length 0 V 0xffff#16;rw[List.drop_zero]at h;simp only[xq_,ai8,C];exact h
def Xo {e:Nat}{z a c:AV}{H:ah}(ha:One a)(hc:One c):bsl e 1 [z] 2 [(0,a),(1,c)] H=ZC (.sl H.next 0 0 1 2 2 Z0,H.new (.blk 0 e [a,c])):=by
 have b:dM [z] 2=[z,z]:=rfl;unfold bsl;rw[b,Iq (off:=0) W ha.1 O,Iq (off:=1) W hc.1 O,dX];simp only[List.set_cons_zero,List.set_cons_succ];simp only[List.all_cons,ha.2,hc.2,List.all_nil,Bool.and_self,zad]
def ab4 {e by_ r ty len cap n:Nat}{ex:Bool}{y:AV}{cells new:List AV}{H:ah}(j:H.get r=.blk 0 ty cells)(hb:H.base<=r)(k:aH H y 1 n new)(hc:new.all AV.aU=true)(d:len+n<=cap)(q:len+n<=cells.length):
  app e 1 by_ (.sl r 0 0 1 len cap ex) y H=some (.sl r 0 0 1 (len+n) cap ex,H.put r (.blk 0 ty (aI cells len new))):=by
 obtain⟨o,p⟩:=k.wQ;simp only[app,o,p];unfold dV;rw[if_pos ⟨k.1,hc⟩];simp only[j];rw[if_pos ⟨trivial,trivial,V⟩];by_cases m:n=0
 ·subst m;have i:new=[]:=List.eq_nil_of_length_eq_zero (by have:=k.1;omega);subst i;rw[if_pos rfl];have:aI cells len []=cells:=by simp[aI]
  rw[this,Nat.add_zero];have:H.put r (.blk 0 ty cells)=H:=by
   unfold ah.put;cases H with
   |mk n b g=>
    simp only at j ⊢
    congr 1
    funext x
    split
    ·rename_i h;rw[h,j]
    ·rfl
  rw[this]
 ·rw[if_neg m,if_pos d,if_pos ⟨hb,V⟩];simp
def atX(H:ah)(n:Nat)(h0:0<n)(k:n<10000):cl0 234 [zN,I n] H=ZC (.sl H.next 0 0 1 0 n ZV,H.new (.blk 0 (5+gW) (dM [.s (.int .u8 0)] n))):=by
 refine iT (aqD _ _ _ _ ?_);have d:¬((n:Int)<0):=V
 have e:agL Tryz.prog 220 zN=ZC (I 0):=Z
 have w0:IntKind.wrap .i64 ((0:Int)-0)=0:=rfl;have w1:IntKind.wrap .i64 ((n:Int)-0)=n:=by rw[Int.sub_zero];exact wrap_i64 V V
 have g0:(0:Int)<n:=V
 have g:slS 1 zN Z1 (ZC (I 0)) Z1=ZC zN:=Z
 have h:apz 5 1 1 [.s (.int .u8 0)] zN (I n) H=ZC (.sl H.next 0 0 1 n n ZV,H.new (.blk 0 (5+gW) (dM [.s (.int .u8 0)] n))):=by
  show(if 0<=(n:Int)/\(n:Int)<=most/\(n:Int)*1<=most then dV 5 1 1 zN (n:Int).toNat (dM [.s (.int .u8 0)] (n:Int).toNat) H else Z1)=_;have hm:(n:Int)<=most:=by unfold most;omega
  rw[y ⟨V,hm,V⟩,Int.toNat_natCast];unfold dV;have i:(dM [AV.s (.int .u8 0)] n).length=n*1:=by rw[kG];simp
  rw[y ⟨i,xX W n⟩];simp only;rw[F V,y ⟨by unfold most;omega,by unfold most;omega⟩]
 have j:slS 1 (.sl H.next 0 0 1 n n ZV) Z1 (ZC (I 0)) Z1=ZC (.sl H.next 0 0 1 0 n ZV):=Wu V V;have b:∀H,lnS zN H=ZC (I 0,H):=λ_=>rfl;simp only[xq_,ajl,OD,OC,d,e,b,lF,w0,w1,g0,g,h,j]
def akY {c:By}:One (Y c):=⟨W,W⟩
def ab5 {H:ah}{x:AV}{l:Q By}(h:dL H x l):One x:=by
 have⟨_,b⟩:=h.is;cases x with
 |sl r g off d len e ex=>exact vZ
 |vs n m l=>exact ahl
 |s v=>cases v <;> first|exact b.elim|exact⟨W,W⟩
 |_=>exact b.elim
def avD {H:ah}(hb:H.base<=H.next){a x y:AV}{l m:Q By}(ha:aH H a 1 2 [x,y])(hx:dL H x l)(hy:dL H y m)(hm:0<m.length):
  cl0 213 [a] H=ZC (.sl H.next 0 0 1 (l.length+m.length) (l.length+m.length) ZV,H.new (.blk 0 (5+gW) ((l++m).map Y))):=by
 have sl:=hx.small;have sm:=hy.small;refine iT (ap5 _ _ _ ?_);have ln:=ha.lnS;have i0:=ha.ix (k:=.i64) (i:=0) (by decide) (by decide);have i1:=ha.ix (k:=.i64) (i:=1) (by decide) (by decide);have d0:ld (eH a 0) H=ZC (x,H):=ha.ld (by decide);have d1:ld (eH a 1) H=ZC (y,H):=ha.ld (by decide);have lx:=hx.is.lnS;have ly:=hy.is.lnS;let Z:ah->Q AV->ah:=λH l=>H.new (.blk 0 (5+gW) l)
 have⟨n,hn⟩:∃n,n=l.length+m.length:=⟨_,W⟩
 have gr:=atX H n (by omega) (by omega);have K:∀cs,Gro H (H.new (.blk 0 (5+gW) cs)):=λcs=>Gro.new H 0 _ cs;have hz:(dM [AV.s (.int .u8 0)] n).length=n:=by rw[kG];simp
 -- behind the first
 let c1:=aI (dM [AV.s (.int .u8 0)] n) 0 (l.map Y);have a1:=ab4 (e:=5) (by_:=1) (r:=H.next) (ex:=ZV) (cap:=n) (H:=H.new (.blk 0 (5+gW) (dM [.s (.int .u8 0)] n))) (aK W) (by rw[iO];exact hb) (hx.gro (K _)).is (ae3 l) (len:=0) (by omega) (by omega);rw[Ip,Nat.zero_add]at a1;have hc1:c1.length=n:=by simp only[c1,aI,List.length_append,List.length_take,List.length_drop,List.length_map,hz];omega
 have a2:=ab4 (e:=5) (by_:=1) (r:=H.next) (ex:=ZV) (cap:=n) (H:=H.new (.blk 0 (5+gW) c1)) (aK W) (by rw[iO];exact hb) (hy.gro (K _)).is (ae3 m) (len:=l.length) (by omega) (by omega);rw[Ip]at a2;have hc2:aI c1 l.length (m.map Y)=(l++m).map Y:=by
  simp only[c1,aI,List.take_zero,List.nil_append,Nat.zero_add,List.length_map];rw[List.take_append_of_le_length (by simp),List.take_of_length_le (by simp),List.drop_append,List.drop_of_length_le (by simp),List.drop_drop];rw[List.drop_of_length_le (by simp only[hz,List.length_map];omega)];simp
 rw[hc2]at a2;have ga:=λcs=>(ha.iD (K cs).next λr _ hr=>(K cs).same r hr)
 have li:=λcs=>(ga cs).lnS;have j0:=λcs=>(ga cs).ix (k:=.i64) (i:=0) (by decide) (by decide);have j1:=λcs=>(ga cs).ix (k:=.i64) (i:=1) (by decide) (by decide);have e0:∀cs,ld (eH a 0) (H.new (.blk 0 (5+gW) cs))=ZC (x,H.new (.blk 0 (5+gW) cs)):=λcs=>(ga cs).ld (by decide);have e1:∀cs,ld (eH a 1) (H.new (.blk 0 (5+gW) cs))=ZC (y,H.new (.blk 0 (5+gW) cs)):=λcs=>(ga cs).ld (by decide);have t0:((0:Int).toNat)=0:=rfl;have t1:((1:Int).toNat)=1:=rfl;rw[t0]at i0;rw[t1]at i1;have j0:∀cs,ix 1 a (I 0) (H.new (.blk 0 (5+gW) cs))=ZC (eH a 0,H.new (.blk 0 (5+gW) cs)):=j0;have j1:∀cs,ix 1 a (I 1) (H.new (.blk 0 (5+gW) cs))=ZC (eH a 1,H.new (.blk 0 (5+gW) cs)):=j1;have w1:IntKind.wrap .i64 ((0:Int)+l.length)=l.length:=by rw[Int.zero_add];exact wrap_i64 (by omega) (by omega)
 have w2:IntKind.wrap .i64 ((l.length:Int)+m.length)=n:=by rw[hn];have:=wrap_i64 (a:=((l.length+m.length:Nat):Int)) (by omega) (by omega);rwa [Int.natCast_add]at this ⊢
 have p1:IntKind.wrap .i64 (1:Int)=1:=rfl;have p2:IntKind.wrap .i64 (2:Int)=2:=rfl;have q1:¬((l.length:Int)<0):=by omega
 have q2:¬((n:Int)<0):=by omega
 have z2:((2:Nat):Int)=2:=rfl;rw[z2]at ln;have li:∀cs,lnS a (H.new (.blk 0 (5+gW) cs))=ZC (I 2,H.new (.blk 0 (5+gW) cs)):=li;rw[<-hn]at a2 ⊢;simp only[c1]at a2;simp only[xq_,ai9,ln];rw[Ox];simp only[Int.reduceLT,Int.reduceAdd,xq_,FX,i0,d0,lx,bM,w1,q1,p1];rw[Ox];simp only[Int.reduceLT,Int.reduceAdd,xq_,FX,i1,d1,ly,bM,w2,q2,p2];rw[Ox];simp only[Int.reduceLT,xq_,gr,li];rw[Oy];simp only[Int.reduceLT,Int.reduceAdd,xq_,j0,e0,a1,bM,p1];rw[Oy];simp only[Int.reduceLT,Int.reduceAdd,xq_,j1,e1,a2,bM,p2];rw[Oy];simp only[Int.reduceLT,xq_]
def dL.made {H:ah}{l:Q By}{ty:XN}{ex:Bool}(h:l.length<1000):dL (H.new (.blk 0 ty (l.map Y))) (.sl H.next 0 0 1 l.length l.length ex) l:=⟨jZ O,h⟩
def akZ {H:ah}(hb:H.base<=H.next){x:AV}{l:Q By}(hx:dL H x l)(hl:l.length<900):
  ∃y H',cl0 177 [x] H=ZC (y,H')/\Gro H H'/\dL H' y (jS l)/\H'.base<=H'.next:=by
 have⟨s,hs⟩:∃s,vC 0xffff#16 l=s:=⟨_,W⟩
 have e1:=avC hx;rw[hs]at e1;have e2:bi .shr 42 (U16 s) (.s (.int .u64 8))=ZC (U16 (s >>> 8)):=akj (k:=.u16) s 8 (by decide) (by decide);have e3:∀H,cv 42 5 (U16 (s >>> 8)) H=ZC (Y (ZF s),H):=λH=>
  (aaD (k:=.u16) (n:=((s >>> 8).toNat:Int)) (H:=H)).trans (zaj (λv=>ZC (v,H)) (anw (k:=.u16) (k':=.u8) W (s >>> 8)))
 have e4:∀H,cv 42 5 (U16 s) H=ZC (Y (ZG s),H):=λH=>
  (aaD (k:=.u16) (n:=(s.toNat:Int)) (H:=H)).trans (zaj (λv=>ZC (v,H)) (anw (k:=.u16) (k':=.u8) W s))
 let H1:=H.new (.blk 0 5 [Y (ZF s),Y (ZG s)]);let y1:AV:=.sl H.next 0 0 1 2 2 Z0
 let H2:=H1.new (.blk 0 220 [x,y1]);have g1:Gro H H1:=Gro.new H 0 _ _;have g2:Gro H1 H2:=Gro.new H1 0 _ _;have by1:dL H1 y1 [ZF s,ZG s]:=dL.made (l:=[ZF s,ZG s]) (by simp);have ha:aH H2 (.sl H1.next 0 0 1 2 2 Z0) 1 2 [x,y1]:=jZ W;have hb2:H2.base<=H2.next:=by simp only[H2,H1,iO,eu];omega
 have ec:=avD hb2 ha (hx.gro (g1.trans g2)) (by1.gro g2) (by simp);have hse:jS l=l++[ZF s,ZG s]:=by unfold jS;rw[hs]
 have hlen:(jS l).length=l.length+2:=by rw[hse];simp
 have bm:=dL.made (H:=H2) (l:=jS l) (ty:=5+gW) (ex:=ZV) (by omega);rw[hlen]at bm;have l2:([ZF s,ZG s]:Q By).length=2:=rfl;rw[<-hse,l2]at ec;refine⟨_,_,iT (apx _ _ _ (r:=(.sl H2.next 0 0 1 (l.length+2) (l.length+2) ZV,H2.new (.blk 0 (5+gW) ((jS l).map Y)))) ?_),(g1.trans g2).trans (Gro.new H2 0 _ _),bm,by rw[iO,eu];omega⟩;have b1:bs 220 2 [(0,Y (ZF s)),(1,Y (ZG s))] H=ZC (y1,H1):=(Wq (by decide)).trans (Xo akY akY);have b2:bs 326 2 [(0,x),(1,y1)] H1=ZC (.sl H1.next 0 0 1 2 2 Z0,H2):=(amO (by decide)).trans (Xo (ab5 hx) vZ);simp only[xq_,aiL,e1,e2,e3,e4,b1,b2,ec]
def En:∀(d:Q Int) (b:ByteArray),(d.foldl (λs n=>s.push (UInt8.ofNat n.toNat)) b).data.toList=b.data.toList++d.map λn=>UInt8.ofNat n.toNat
 |[],b=>by simp
 |n::d,b=>by
  rw[List.foldl_cons,En d];simp[ByteArray.push]
def ab6 {l m:Q By}(h:PO (l.map λc=>(c.toNat:Int))=PO (m.map λc=>(c.toNat:Int))):l=m:=by
 have h1:=zaj (λb:ByteArray=>b.data.toList) h;unfold PO at h1;simp only[En,List.map_map]at h1;have h2:l.map (λc:By=>UInt8.ofBitVec c)=m.map (λc:By=>UInt8.ofBitVec c):=by
  have key:∀l:Q By,l.map ((λn:Int=>UInt8.ofNat n.toNat) ∘ λc:By=>(c.toNat:Int))=l.map (λc:By=>UInt8.ofBitVec c):=λl=>List.map_congr_left λc _=>by
   simp only[Function.comp,Int.toNat_natCast]
   apply UInt8.toBitVec_inj.1
   simp
  rw[<-key,<-key]
  simpa using h1
 exact(List.map_inj_right λa b h=>by simpa using h).1 h2
def Dp:∀l:Q By,oL (l.map Y)=ZC (l.map λc=>(c.toNat:Int))
 |[]=>rfl
 |c::l=>by
  show(match oL (l.map Y)with|some b=>ZC ((c.toNat:Int)::b)|none=>Z1)=_;rw[Dp l];rfl
def aqE {H:ah}{x:AV}{l:Q By}(i:dL H x l):cv 220 9 x H=ZC (.s (.string (PO (l.map λc=>(c.toNat:Int)))),H):=by
 have e:Gw Tryz.prog 220 9=true:=Z
 have⟨q,d⟩:=i.is;show kV (Ac Tryz.prog 220 9 x) x H=_;unfold kV Ac;rw[y e];cases x with
 |sl r g off j len k ex=>
  obtain⟨rfl,rfl,_,u,all,o,h,p⟩:=d;simp only[bT,Option.map_some,al9,zad,o];rw[y ⟨zac,h⟩,<-p,Dp];rfl
 |vs n m cs=>
  obtain⟨rfl,rfl,rfl⟩:=d;simp only[al9,zad,Dp];rfl
 |s v=>
  cases v with
  |slice a b c=>
   cases a with
   |none=>
    obtain⟨rfl,rfl,h⟩:=(show b=0/\c=0/\l.length=0 from d)
    have:l=[]:=List.eq_nil_of_length_eq_zero h;subst this;rfl
   |some a=>exact d.elim
  |_=>exact d.elim
 |_=>exact d.elim
def ab7 {H:ah}{x y:AV}{l m:Q By}(d:dL H x l)(g:dL H y m):cl0 181 [x,y] H=ZC (B (u (l=m)),H):=by
 refine iT (apB _ _ _ _ ?_);have i:=aqE d;have j:=aqE g;have k:∀a c:ByteArray,bi .eql 9 (.s (.string a)) (.s (.string c))=ZC (B (u (a=c))):=λa c=>by
  show qj _ _ _ _ _=_;rcases a with⟨a⟩
  rcases c with⟨c⟩
  by_cases h:a=c
  ·simp[qj,AV.val?,eqGuard,binOp,Op.stringOp,dP,h]
  ·have b:¬a.toList=c.toList:=λe=>h (Array.toList_inj.1 e);rw[<-ByteArray.toList_eq ⟨a⟩,<-ByteArray.toList_eq ⟨c⟩]at b;simp[qj,AV.val?,eqGuard,binOp,Op.stringOp,dP,h,b]
 have n:u (PO (l.map λc=>(c.toNat:Int))=PO (m.map λc=>(c.toNat:Int)))=u (l=m):=by
  by_cases h:l=m
  ·rw[h];simp
  ·rw[zam h,zam λe=>h (ab6 e)]
 simp only[xq_,aiP,i,j,k,n]
def dL.to_ {H:ah}{x:AV}{l:List By}(h:dL H x l){n:Nat}(j:n<=l.length):∃y,slS 1 x none (some (I n)) none=some y/\dL H y (l.take n):=by
 obtain⟨⟨z,d⟩,A⟩:=h;have e:(l.take n).length=n:=by rw[List.length_take];omega
 have small:(l.take n).length<1000:=V
 cases x with
 |sl r g off i len m ex=>
  obtain⟨rfl,rfl,⟨o,hc⟩,p,all,q,k,u⟩:=d;refine⟨_,Wu V V,⟨⟨O,rfl,by rw[e,Int.toNat_natCast],⟨o,by rw[Int.toNat_natCast];omega⟩,p,all,q,by rw[e];omega,?_⟩,small⟩⟩;rw[List.map_take,u,List.take_take,e]
  congr 1
  omega
 |vs k' i cs=>
  obtain⟨rfl,rfl,rfl⟩:=d;refine⟨.vs n 1 ((l.take n).map Y),?_,⟨O,rfl,by rw[e],rfl⟩,small⟩;have w:(0:Int)<=n:=V
  simp only[slS,jc,w,if_true,Int.toNat_natCast];rw[if_pos ⟨trivial,V,j⟩];simp
 |s v=>
  cases v with
  |slice a b c=>
   cases a with
   |none=>
    obtain⟨rfl,rfl,k⟩:=(show b=0/\c=0/\l.length=0 from d)
    have:l=[]:=List.eq_nil_of_length_eq_zero k;subst this;have:n=0:=by simpa using j
    subst this;exact⟨zN,Z,⟨rfl,rfl,rfl,rfl⟩,J⟩
   |some a=>exact d.elim
  |_=>exact d.elim
 |_=>exact d.elim
def ab8 {H:ah}{x:AV}{l:Q By}(d:dL H x l)(k:l≠[]):cl0 182 [x] H=ZC (.sl (H.next+1) 0 0 1 l.length l.length ZV,(H.new (.blk 0 5 [])).new (.blk 0 (5+gW) (l.map Y))):=by
 have i:l.length≠0:=λe=>k (List.eq_nil_of_length_eq_zero e);have j:=tZ (e:=5) (by_:=1) (r:=H.next) (H:=H.new (.blk 0 5 [])) qH (d.gro (Gro.new H 0 _ _)).is (ae3 l) i (by have:=d.small;unfold most;omega) (by have:=d.small;unfold most;omega);simp only[eu]at j;have o:bi .eql 220 x zN=ZC (B ZV):=by
  have⟨_,h⟩:=d.is;cases x with
  |sl r g off p len q ex=>exact CY Tryz.underlying220
  |vs n m l=>exact uf Tryz.underlying220
  |s v=>
   cases v with
   |slice a b c=>
    cases a with
    |none=>exact absurd h.2.2 i
    |some a=>exact h.elim
   |_=>exact h.elim
  |_=>exact h.elim
 refine iT (apC _ _ _ ?_);simp only[xq_,aiQ,o,Wq,zF,j,Nat.zero_mul,Nat.zero_le]
def afk {H:ah}(hb:H.base<=H.next){x:AV}{l:Q By}(d:dL H x l)(v:l.length<900)(o:∀m,l≠jS m):
  ∃H',cl0 178 [x] H=ZC (.tup [zN,B ZV],H')/\Gro H H':=by
 have i:=d.is.lnS;have w1:=wrap_i64 (a:=(l.length:Int)-2) V V;by_cases g:(l.length:Int)-2<0
 ·refine⟨H,iT (abH _ _ _ ?_),Gro.refl H⟩;simp only[xq_,Xb,i,lF,w1,g]
 ·have⟨n,b⟩:∃n:Nat,(l.length:Int)-2=n:=⟨l.length-2,V⟩
  rw[b]at w1 g;have⟨y,p,h⟩:=d.to_ (n:=n) V;have⟨z,H1,q,j,u,_⟩:=akZ hb h (by rw[List.length_take];omega);have k:=ab7 u (d.gro j);rw[zam λe=>o _ e.symm]at k;refine⟨H1,iT (abH _ _ _ ?_),j⟩;simp only[xq_,Xb,i,lF,b,w1,g,p,q,k,Bool.not_false]
def ak0 {H:ah}(hb:H.base<=H.next){x:AV}{m:Q By}(e:dL H x (jS m))(w:m.length<800)(h0:m≠[]):
  ∃y H',cl0 178 [x] H=ZC (.tup [y,B Z0],H')/\Gro H H'/\dL H' y m/\(∃r,y=.sl r 0 0 1 m.length m.length ZV):=by
 have h:(jS m).length=m.length+2:=by unfold jS;simp
 have b:(jS m).take m.length=m:=by unfold jS;simp
 have k:=e.is.lnS;have w0:(((jS m).length:Nat):Int)-2=(m.length:Int):=V
 have w1:=wrap_i64 (a:=(m.length:Int)) V V;have o:¬((m.length:Int)<0):=V
 have⟨y,p,d⟩:=e.to_ (n:=m.length) V;rw[b]at d;have⟨z,H1,q,g,u,_⟩:=akZ hb d V;have i:=ab7 u (e.gro g);rw[zah W]at i;have v:=ab8 (d.gro g) h0;have gg:Gro H1 ((H1.new (.blk 0 5 [])).new (.blk 0 (5+gW) (m.map Y))):=(Gro.new H1 0 _ _).trans (Gro.new _ 0 _ _);have j:=dL.made (H:=H1.new (.blk 0 5 [])) (l:=m) (ty:=5+gW) (ex:=ZV) V;rw[eu]at j;refine⟨_,_,iT (abH _ _ _ (r:=(.tup [.sl (H1.next+1) 0 0 1 m.length m.length ZV,B Z0],(H1.new (.blk 0 5 [])).new (.blk 0 (5+gW) (m.map Y)))) ?_),g.trans gg,j,_,W⟩;simp only[xq_,Xb,k,lF,w0,w1,o,p,q,i,v,Bool.not_true]
abbrev lH:bG:=λ_=>none
def cup(n:Nat)(g g':bG):bG:=λq=>if q<n then g q else g' q
structure Made(H H':ah)(g':bG):Prop where
 next:H.next<=H'.next
 base:H'.base=H.base
 same:∀r,r<H.next->H'.get r=H.get r
 good:Good H.next H' g'
section
variable {b:Nat}{H H' H'':ah}{g g':bG}{q:Nat}{cs:List Cell}
def Good.merge(G:Good b H g)(M:Made H H' g'):Good b H' (cup H.next g g'):=by
 have⟨h0,τ,X⟩:=G;have⟨k0,d,k1⟩:=M.good;have n1:=M.next
 refine⟨V,λr=>if r<H.next then τ r else d r,λq cs p=>?_⟩;unfold cup at p;split at p
 ·rename_i Q;exact(X q cs p).keep n1 λr i s t W ht=>⟨by rw[YY W];exact ht,M.same r W⟩
 ·rename_i Q;have R:=k1 q cs p
  -- all its blocks are new
  have key:∀{T:Tag} {x:AV} {m:Nat} {cells:Z2 AV},OS H.next H' d T x m cells->OS b H' (λr=>if r<H.next then τ r else d r) T x m cells:=by
   intro T x m cells u;rcases u with u|⟨r,gg,off,n,v,ex,w,all,e,y,t2,z,A⟩
   ·exact .inl u
   ·exact .inr ⟨r,gg,off,n,v,ex,w,all,e,by simp only;rw[Ys V];exact y,V,z,A⟩
  have h:∀{T:Tag} {x:AV} {k:IntKind} {C:Z2 (Int × AV)},OM H.next H' d T x k C->OM b H' (λr=>if r<H.next then τ r else d r) T x k C:=by
   intro T x k C ⟨r,e,y,t2,z,A⟩;exact⟨r,e,by simp only;rw[Ys V];exact y,V,z,A⟩
  have⟨w,xs,b1,b2,b3,b4⟩:=R.blk;have lo:=R.lo;refine⟨by rw[Ys Q];exact R.tag,V,R.hi,R.tyl,w,xs,b1,b2,b3,λi c x hc o=>?_⟩;have:=b4 i c x hc o;cases c with
  |av _=>exact this
  |seq _ _=>exact key this
  |map _ _=>exact h this
  |maps _ _ _=>
   have⟨D,E,F,K⟩:=this;exact⟨D,h E,F,λj n cells x L o=>key (K j n cells x L o)⟩
  |anh _ _ _=>
   have⟨ys,E,F,K⟩:=this;exact⟨ys,key E,F,λj cells x L o=>key (K j cells x L o)⟩
def Good.aqF(G:Good b H g)(d:H.next<=q):cup H.next g (upd lH q cs)=upd g q cs:=by
 funext x
 unfold cup upd;split
 ·rw[if_neg V]
 ·split
  ·rfl
  ·exact(G.isNone V).symm
def Made.lt(M:Made H H' g')(h:g' q=ZC cs):H.next<=q/\q<H'.next:=⟨M.good.le h,M.good.lt h⟩
def Made.refl(h:H.base<=H.next):Made H H lH:=⟨Nat.le_refl _,W,λ_ _=>rfl,Good.empty H⟩
def Made.trans(M:Made H H' g)(b:Made H' H'' g'):Made H H'' (cup H'.next g g'):=⟨Nat.le_trans M.next b.next,b.base.trans M.base,λr d=>by rw[b.same r (Nat.lt_of_lt_of_le d M.next),M.same r d],M.good.merge b⟩
def Made.new(M:Made H H' g)(o:gG):Made H (H'.new o) g:=⟨by rw[eu];have:=M.next;omega,by rw[iO];exact M.base,λr b=>by rw[aZ (Nat.lt_of_lt_of_le b M.next),M.same r b],M.good.new o⟩
def Made.xu {o:gG}(M:Made (H.new o) H' g):Made H H' g:=⟨by have:=M.next;rw[eu]at this;omega,by rw[M.base,iO],λr b=>by rw[M.same r (by rw[eu];omega),aZ b],M.good.weak (by rw[eu];omega)⟩
def Made.afl(M:Made H.guard H' g):Made H { H' with base:=H.base } g:=
 ⟨M.next,W,M.same,M.good.ext (Nat.le_refl _) λ_ _=>rfl⟩
def Made.step(M:Made H H' g)(G:Good H.next H'' g')(s:Step H.next H' H''):Made H H'' g':=⟨Nat.le_trans M.next s.next,s.base.trans M.base,λr b=>by rw[s.low r b,M.same r b],G⟩
def Made.as(M:Made H H' g)(h:g'=g):Made H H' g':=h ▸ M
def kP {ty:XN}{xs:Q AV}{cs:Q Cell}(hc:xs.all AV.aU=Z0)(g:xs.length=cs.length)(h:∀(i:Nat) (c:Cell) (x:AV),cs[i]?=ZC c->xs[i]?=ZC x->c=.av x∨(x=zN/\∃m,c=.seq m []))(j:ty<gW:=by decide):
  Made H (H.new (.blk 0 ty xs)) (upd lH H.next cs):=by
 refine⟨Nat.le_succ _,W,λr k=>aZ k,by rw[eu];omega,λr=>if r=H.next then ZC (r,0,0,0)else Z1,λq n b=>?_⟩;unfold upd at b;split at b
 ·rename_i e;subst e;cases b;refine⟨O,Nat.le_refl _,by rw[eu];omega,vY (xs:=xs) (by simp[jq]) j,ty,xs,by simp[jq],g,hc,λi c x d o=>?_⟩;rcases h i c x d o with rfl|⟨rfl,m,rfl⟩
  ·exact W
  ·exact .inl ⟨W,W⟩
 ·cases b
def Rf {n:Nat}{ty:XN}{xs:Q AV}{cs:Q Cell}(hn:H.next<=n)(hm:H'.next=n)(hb:H'.base=H.base)(hs:∀r,r<H.next->H'.get r=H.get r)(hc:xs.all AV.aU=Z0)(hl:xs.length=cs.length)(own:Nat->M Nat)
  (h:∀(i:Nat) (c:Cell) (x:AV),cs[i]?=ZC c->xs[i]?=ZC x->c=.av x∨(x=zN/\∃m,c=.seq m [])∨∃r k,x=.mp r/\H.next<=r/\r<n/\own r=ZC i/\H'.get r=.map k []/\(c=.map k []∨∃m,c=.maps k m [])) (ht:ty<gW:=by decide):
  Made H (H'.new (.blk 0 ty xs)) (upd lH n cs):=by
 refine⟨by rw[eu];omega,hb,λr hr=>by rw[aZ V,hs r hr],by rw[eu];omega,λr=>if r=n then ZC (r,0,0,0)else match own r with
  |some i=>ZC (n,i+1,0,0)
  |none=>Z1,λq cs' hq=>?_⟩
 unfold upd at hq;split at hq
 ·rename_i e;subst e;cases hq;refine⟨O,hn,by rw[eu];omega,vY (xs:=xs) (by rw[aK hm.symm]) ht,ty,xs,by rw[aK hm.symm],hl,hc,λi c x hci hx=>?_⟩;have om:∀r k,H.next<=r->r<q->own r=ZC i->H'.get r=.map k []->OM H.next (H'.new (.blk 0 ty xs)) (λr=>if r=q then ZC (r,0,0,0)else match own r with
    |some i=>ZC (q,i+1,0,0)
    |none=>Z1) (q,i+1,0,0) (.mp r) k []:=λr k h1 h2 h3 h4=>⟨r,W,by simp only;rw[F V,h3],h1,by rw[eu];omega,by rw[aZ V];exact h4⟩
  rcases h i c x hci hx with rfl|⟨rfl,m,rfl⟩|⟨r,k,rfl,h1,h2,h3,h4,rfl|⟨m,rfl⟩⟩
  ·exact W
  ·exact .inl ⟨W,W⟩
  ·exact om r k h1 h2 h3 h4
  ·exact⟨[],om r k h1 h2 h3 h4,W,λj n cells x hj=>by simp at hj⟩
 ·cases hq
end
def dD(c:Cache):Q Cell:=[.seq 6 (c.l.flatMap Ent.av),.av (I c.sets),.av (I c.ways),.av (I c.dN)]
def qZ(p:Proc):Q Cell:=[.av (vsl 3 Opn.av p.ops),.seq 1 (p.bI.map I),.av (B p.fD)]
def mM(l:Q Evn):Q Cell:=[.seq 4 (l.flatMap Evn.av)]
def iU(t:Turns):Q Cell:=[.map .i64 (Qy (λn=>I n) t.iI),.maps .i64 2 (t.wait.map λe=>(e.1,e.2.flatMap λw=>[I w.1,I w.2]))]
def EH(c:Cfg)(dS:Rows):Q Cell:=c.av.map .av++[.map .i64 (Qy (λr=>.agg r.av) dS)]
section
variable {H:ah}
def ab9(H:ah)(room:Int)(h:0<=room):∃H' q,cl 110 [I room] H=ZC (.ref q 0 0,H')/\Made H H' (upd lH q (nP [] room)):=by
 refine⟨_,H.next,bg W W (aoy _ _ _ (r:=(_,H.new (.blk 0 177 [zN,I room]))) ?_),kP W W λi c x hc b=>?_⟩
 ·have e:max (0:Int) room=room:=V
  simp only[Nat.reduceLT,Nat.reduceAdd,aI,xq_,hq_,ahT,Nw,e,am3,jf,fO,ag7,aC]
 ·match i with
  |0=>right;cases hc;cases b;exact⟨W,9,W⟩
  |1=>left;cases hc;cases b;rfl
  |i+2=>cases hc
def Xp(H:ah)(room:Int)(h:0<=room):∃H' q,cl 111 [I room] H=ZC (.ref q 0 0,H')/\Made H H' (upd lH q (nP [] room)):=by
 refine⟨_,H.next,bg W W (aoz _ _ _ (r:=(_,H.new (.blk 0 200 [zN,I room]))) ?_),kP W W λi c x hc b=>?_⟩
 ·have e:max (0:Int) room=room:=V
  simp only[Nat.reduceLT,Nat.reduceAdd,aI,xq_,hq_,ahU,Nw,e,am5,jf,fO,aha,aC]
 ·match i with
  |0=>right;cases hc;cases b;exact⟨W,9,W⟩
  |1=>left;cases hc;cases b;rfl
  |i+2=>cases hc
def afm(H:ah)(sets ways:Int)(h:1<=sets)(g:1<=ways):∃H' q,cl 112 [I sets,I ways] H=ZC (.ref q 0 0,H')/\Made H H' (upd lH q (dD ⟨[],sets,ways,0⟩)):=by
 refine⟨_,H.next,bg W W (aoA _ _ _ _ (r:=(_,H.new (.blk 0 147 [zN,I sets,I ways,zI]))) ?_),kP W W λi c x hc b=>?_⟩
 ·have e:max (1:Int) sets=sets:=V
  have d:max (1:Int) ways=ways:=V
  simp only[Nat.reduceLT,Nat.reduceAdd,aI,xq_,hq_,ahV,Nw,e,d,am0,jf,fO,ag4,aC]
 ·match i with
  |0=>right;cases hc;cases b;exact⟨W,6,W⟩
  |1=>left;cases hc;cases b;rfl
  |2=>left;cases hc;cases b;rfl
  |3=>left;cases hc;cases b;rfl
  |i+4=>cases hc
def afn(H:ah):∃H' q,cl 62 [] H=ZC (.ref q 0 0,H')/\Made H H' (upd lH q (mM [])):=by
 refine⟨_,H.next,bg W W (atm _ _ (r:=(_,H.new (.blk 0 186 [zN]))) ?_),kP W W λi c x hc b=>?_⟩
 ·simp only[Nat.reduceLT,xq_,hq_,an9,am4,jf,fO,aC]
 ·match i with
  |0=>right;cases hc;cases b;exact⟨W,4,W⟩
  |i+1=>cases hc
def afo(H:ah):∃H' q,cl 161 [] H=ZC (.ref q 0 0,H')/\Made H H' (upd lH q (iU ⟨[],[]⟩)):=by
 refine⟨_,H.next+2,bg W W (apt _ _ (r:=(_,((H.new (.map .i64 [])).new (.map .i64 [])).new (.blk 0 218 [.mp H.next,.mp (H.next+1)]))) ?_),Rf (H':=(H.new (.map .i64 [])).new (.map .i64 [])) (by omega) (by rw[eu,eu]) W (λr hr=>by rw[aZ (by rw[eu];omega),aZ hr]) W W (λr=>if r=H.next then ZC 0 else if r=H.next+1 then ZC 1 else Z1) λi c x hc hx=>?_⟩
 ·have e:∀r,(AV.mp r).cells=[.mp r]:=λ_=>rfl;simp only[Nat.reduceLT,Nat.reduceAdd,aI,xq_,hq_,aiF,am8,jf,fO,ahd,aC,e,aan]
 ·match i with
  |0=>right;right;cases hc;cases hx;exact⟨H.next,.i64,W,Nat.le_refl _,by omega,by simp,by rw[aZ (by rw[eu];omega),aK W],.inl W⟩
  |1=>right;right;cases hc;cases hx;exact⟨H.next+1,.i64,W,by omega,by omega,by simp,by rw[aK (by rw[eu])],.inr ⟨2,W⟩⟩
  |i+2=>cases hc
end
def Xq {d:Nat}{α:Type}{enc:α->Q AV}(h:∀a,∀x∈enc a,Frz d x)(l:Q α):∀x∈l.flatMap enc,Frz d x:=λx b=>by
 have⟨a,_,ha⟩:=List.mem_flatMap.1 b;exact h a x ha
def ak1(o:Opn):∀x∈o.av,Frz 8 x:=λx b=>by
 simp only[Opn.av,List.mem_cons,List.not_mem_nil,zan]at b;rcases b with rfl|rfl|rfl <;> exact fC
def acd(o:Evn):∀x∈o.av,Frz 8 x:=λx b=>by
 simp only[Evn.av,List.mem_cons,List.not_mem_nil,zan]at b;rcases b with rfl|rfl|rfl|rfl <;> exact fC
def afp(H:ah)(l:Q Opn)(hl:l.length<1000000000){x:AV}(hx:aH H x 3 l.length (l.flatMap Opn.av))(h0:l=[]->x=zN)(hn:l≠[]->bi .eql 62 x zN=ZC (B ZV)):cl 159 [x] H=ZC (vsl 3 Opn.av l,H):=by
 by_cases h:l=[]
 ·rw[h0 h];subst h;refine gY W W (aiC _ _ _ (r:=(zN,H.guard)) ?_) (by rw[gu];exact iF);have e:bi .eql 62 zN zN=ZC (B Z0):=by kernel_rfl
  simp only[xq_,abD,e]
 ·have h1:l.length≠0:=λe=>h (List.eq_nil_of_length_eq_zero e);have e2:=tZ (e:=61) (by_:=24) (r:=H.guard.next) (H:=H.guard.new (.blk 0 61 [])) qH (hx.guard.new _) (E8 mg l) h1 (by unfold most;omega) (by unfold most;omega);simp only[wU,eu]at e2;refine gY W W (aiC _ _ _ (r:=(.sl (H.next+1) 0 0 3 l.length l.length ZV,(H.guard.new (.blk 0 61 [])).new (.blk 0 (61+gW) (l.flatMap Opn.av)))) ?_) ?_
  ·simp only[xq_,abD,hn h,aj6,zF,e2,Nat.zero_mul,Nat.zero_le]
  ·rw[EZ h];refine kS (by omega) (cells:=l.flatMap Opn.av) ?_ (iM _ λx hx=>Xq ak1 l x hx _ _);simp only[cZ,jq,eu,wU,zad];rw[y (by rw[dF eG,Nat.zero_add];exact⟨zac,Nat.le_refl _⟩),List.drop_zero,List.take_of_length_le (by rw[dF eG];exact Nat.le_refl _)]
def ace(H:ah)(n m:Int):cl 104 [I n,I m] H=ZC (B (ku n m),H):=by
 refine bg W W (aos _ _ _ _ ?_);by_cases h:1<=n
 ·simp only[xq_,abn,h,ku,Bool.true_and]
 ·simp only[xq_,abn,h,ku,Bool.false_and]
def afq(H:ah)(c:Cfg)(h:c.ok=Z0):cl 59 [.agg c.av] H=ZC (I 0,H):=by
 refine bD W W (ati _ _ _) ?_ fC;have w:=λH n m=>ace H n m;have e:=λH=>(gJ H c.init).lnS;simp only[Cfg.ok,Bool.and_eq_true,zab]at h;have⟨⟨⟨⟨⟨⟨⟨a,b⟩,d⟩,f⟩,g⟩,i⟩,j⟩,k⟩:=h;have t:∀n m,1<=n/\n<=m->ku n m=true:=λn m h=>by simp[ku,h.1,h.2]
 have hm:IntKind.wrap .i64 (c.aT*c.aP)=c.aT*c.aP:=by
  have:c.aT*c.aP<=8*4:=Int.mul_le_mul b.2 d.2 V V;have:0<=c.aT*c.aP:=Int.mul_nonneg V V;exact wrap_i64 V V
 have k':¬c.aT*c.aP<c.init.length:=V
 simp only[Nat.reduceLT,xq_,hq_,an6,aC,Cfg.av,w,t _ _ a,t _ _ b,t _ _ d,t _ _ f,t _ _ g,t _ _ i,t _ _ j,e,iP,hm,k',Bool.not_true]
def OE(H:ah)(c:Cfg)(h:c.ok=Z0):cl 57 [.agg c.av] H=ZC (I c.fG,H):=by
 refine bD W W (atg _ _ _) ?_ fC;simp only[Cfg.ok,Bool.and_eq_true,zab]at h;have⟨⟨⟨⟨⟨⟨⟨a,b⟩,d⟩,f⟩,g⟩,i⟩,j⟩,k⟩:=h;have hm:IntKind.wrap .i64 (c.aT*c.aP)=c.aT*c.aP:=by
  have:c.aT*c.aP<=8*4:=Int.mul_le_mul b.2 d.2 V V;have:0<=c.aT*c.aP:=Int.mul_nonneg V V;exact wrap_i64 V V
 simp only[Nat.reduceLT,xq_,hq_,an3,aC,Cfg.av,iP,hm,Cfg.fG]
structure avE(c:Cfg):Prop where
 aF:1<=c.aF/\c.aF<=6
 aT:1<=c.aT/\c.aT<=8
 aP:1<=c.aP/\c.aP<=4
 sets:1<=c.sets/\c.sets<=4
 ways:1<=c.ways/\c.ways<=3
 out:1<=c.out/\c.out<=8
 inn:1<=c.inn/\c.inn<=8
 init:(c.init.length:Int)<=c.aT*c.aP
 fG:1<=c.aT*c.aP/\c.aT*c.aP<=32
def qp {c:Cfg}(h:c.ok=Z0):avE c:=by
 simp only[Cfg.ok,Bool.and_eq_true,zab]at h;have⟨⟨⟨⟨⟨⟨⟨a,b⟩,d⟩,f⟩,g⟩,i⟩,j⟩,k⟩:=h;have e:c.aT*c.aP<=8*4:=Int.mul_le_mul b.2 d.2 V V;have m:1*1<=c.aT*c.aP:=Int.mul_le_mul b.1 d.1 V V;exact⟨a,b,d,f,g,i,j,k,V,V⟩
def ak2(H:ah)(n m:Int)(h:1<=m):cl 84 [I n,I m] H=ZC (I (wV n m),H):=by
 refine bg W W (atI _ _ _ _ ?_);by_cases b:n<0
 ·simp only[Int.reduceNeg,xq_,akH,b,wV]
 ·have e:n.tmod m=n % m:=Int.tmod_eq_emod_of_nonneg V;simp only[Int.reduceNeg,xq_,akH,b,oq (show m≠0 by omega),wV,e]
def xw(H:ah)(c:Cfg)(h:c.ok=Z0)(ak:Int):cl 42 [.agg c.av,I ak] H=ZC (I (c.bf ak),H):=by
 have B:=qp h;refine bD W W (as5 _ _ _ _) ?_ fC;have e:=λH=>ak2 H ak c.aF B.aF.1;simp only[Nat.reduceLT,xq_,hq_,anT,aC,Cfg.av,e,Cfg.bf]
def I5(H:ah)(c:Cfg)(h:c.ok=Z0)(a:Int):cl 148 [.agg c.av,I a] H=ZC (.tup [I (c.bZ a),I (c.dH a)],H):=by
 have B:=qp h;refine bD W W (apd _ _ _ _) ?_ (wS λx d=>by
  simp only[List.mem_cons,List.not_mem_nil,zan]at d;rcases d with rfl|rfl <;> exact fC)
 have e:=λH=>OE H c h;by_cases b:a<0
 ·simp only[Nat.reduceLT,Int.reduceNeg,xq_,hq_,WS,aC (eF c),b,Cfg.bZ,Cfg.dH,true_or]
 ·by_cases g:c.fG<=a
  ·simp only[Nat.reduceLT,Int.reduceNeg,xq_,hq_,WS,aC (eF c),b,g,Cfg.bZ,Cfg.dH,or_true,e]
  ·have q:a.tdiv c.aP=a / c.aP:=Int.tdiv_eq_ediv_of_nonneg V;have r:a.tmod c.aP=a % c.aP:=Int.tmod_eq_emod_of_nonneg V;have j:0<=a / c.aP:=Int.ediv_nonneg V (by have:=B.aP;omega);have k:a / c.aP<=a:=Int.ediv_le_self _ V;have m:c.fG<=32:=B.fG.2;have w:=wrap_i64 (a:=a / c.aP) V V;have z:c.aP≠0:=by have:=B.aP;omega
   have i:c.av[2]?=ZC (I c.aP):=rfl;simp only[Nat.reduceLT,Int.reduceNeg,xq_,hq_,WS,aC (eF c),b,g,Cfg.bZ,Cfg.dH,zan,e,i,CV z,oq z,q,r,w]
end
end Go.Proofs.YtgplhpgkompkmaaGreat
