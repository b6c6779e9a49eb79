/-
  Own work: an interpreter over named blocks, its soundness, and what the functions of this seat compute (part 4 of 11).
  Conditions: those of the statement alone.
-/
import Derived.Test.YthmoogcacpmjiaaGreatProg
import Derived.KernelRfl
import Derived.RangeFuncFrom
import Derived.RangeFuncLeaves
import Derived.RangeFuncCalls
import Derived.OrdersIn
import Derived.Test.YthmoogcacpmjiaaGreatXc
set_option maxRecDepth 100000
set_option linter.all false
set_option linter.unusedSectionVars false
set_option linter.unusedVariables false
set_option linter.unusedSimpArgs false
namespace Go.Proofs.YthmoogcacpmjiaaGreat
noncomputable section
def anm:Ann:=⟨[(9,[1,5,8,10]),(17,[5,8,12])],[(10,rF 5 (some true::rF 5 (some true::some true::none::some false::[]))),(11,rF 7 []),(13,rF 4 (some true::rF 12 (some true::rF 21 []))),(19,rF 11 (some true::rF 13 (some true::rF 8 [])))],[(11,[(4,2)])]⟩
def LX:=iU Tryz.prog Tryz.f5 153 anm 0
def Rk:=iU Tryz.prog Tryz.f5 153 anm 1
def aps(C:Callee)(a0 a1:AV)(H:aj):OA:=
 bnd (fA 24 a0 H) λv2 H=>
 bnd (lda 12 v2 H) λv16 H=> bnd (C 9 [v16,(I 16)] H) λv17 H=> bo (aF v17 0) λv18=> bo (aF v17 1) λv19=> bo (aF v17 2) λv20=>
 bo (bi .eql 26 v18 (.s (Go.Value.pointer none))) λv22=>
 aI v22
 (some ((B false),H))
 (bnd (C 13 [v18] H) λv25 H=> bnd (C 25 [v25,v20] H) λv27 H=> bo (aF v27 0) λv28=> bo (aF v27 1) λv29=>
  bo (bi .neq 76 v29 (I 0)) λv31=> gdA (some v31) false (aC (some v28) H) H λv33 H=> gdA (some v31) false (aC (bi .eql 26 v33 (.s (Go.Value.pointer none))) H) H λv34 H=> bo (aU v31 (B true) v34) λv35=>
  aI v35
  (some ((B false),H))
  (LX C [a1,v18,v28,(I 0)] H))
theorem adp(C:Callee)(t1 t5 t8 t10:AV)(H:aj):LX C [t1,t5,t8,t10] H=
 bnd (lnS t1 H) λv38 H=> bo (bi .lss 3 t10 v38) λv39=> gdA (some v39) true (aC (some t10) H) H λv41 H=> gdA (some v39) true (aC (bi .lss 3 v41 (I 80)) H) H λv42 H=> bo (aU v39 v42 (B false)) λv43=>
 aI v43
 (bnd (alc 35 [zB,zI,zI,.s (.int .u16 0)] H) λv11 H=> bnd (ix 4 t1 t10 H) λv48 H=> bnd (lda 4 v48 H) λv49 H=> bnd (unG H (C 13 [t5] H.guard)) λv51 H=> bo (fl v51 0) λv52=> bo (au t5) λv54=> bo (ah v54 0) λv55=> bnd (ld v55 H) λv56 H=> bnd (unG H (C 14 [v56] H.guard)) λv57 H=> bnd (unG H (C 12 [v49,v52,v57] H.guard)) λv58 H=> bnd (st 4 v11 v58 H) λ_ H=>
  bnd (lda 4 v11 H) λv60 H1=> bnd (C 11 [t5,v60] H1) λv61 H2=> bnd (lda 4 v11 H2) λv63 H4=> bnd (C 11 [t8,v63] H4) λv64 H5=> bo (bi .neq 4 v61 v64) λv65=> ck (aT v11) H1 H2 <|
  aI v65
  (some ((B false),H5))
  (bo (bi .add 3 t10 (I 1)) λv45=>
  LX C [t1,t5,t8,v45] H5))
 (bo (au t5) λv67=> bo (ah v67 1) λv68=> bnd (ld v68 H) λv69 H=> bnd (unG H (C 15 [v69] H.guard)) λv70 H=> bo (au t8) λv72=> bo (ah v72 1) λv73=> bnd (ld v73 H) λv74 H=> bnd (C 15 [v74] H) λv75 H=> bnd (C 26 [v70,v75] H) λv76 H=> bo (un .not v76) λv77=> gdA (some v77) false (aC (some t5) H) H λv79 H=> gdA (some v77) false (aC (au v79) H) H λv80 H=> gdA (some v77) false (aC (ah v80 0) H) H λv81 H=> gdA (some v77) false (ld v81 H) H λv82 H=> gdA (some v77) false (unG H (C 14 [v82] H.guard)) H λv83 H=> gdA (some v77) false (aC (some t8) H) H λv84 H=> gdA (some v77) false (aC (au v84) H) H λv85 H=> gdA (some v77) false (aC (ah v85 0) H) H λv86 H=> gdA (some v77) false (ld v86 H) H λv87 H=> gdA (some v77) false (C 14 [v87] H) H λv88 H=> gdA (some v77) false (aC (bi .neq 3 v83 v88) H) H λv89 H=> bo (aU v77 (B true) v89) λv90=> gdA (some v90) false (aC (some t5) H) H λv92 H=> gdA (some v90) false (C 20 [v92] H) H λv93 H=> gdA (some v90) false (aC (some t8) H) H λv94 H=> gdA (some v90) false (C 20 [v94] H) H λv95 H=> gdA (some v90) false (aC (bi .neq 3 v93 v95) H) H λv96 H=> bo (aU v90 (B true) v96) λv97=> gdA (some v97) false (aC (some t5) H) H λv99 H=> gdA (some v97) false (C 10 [v99] H) H λVj H=> gdA (some v97) false (aC (some t8) H) H λZN H=> gdA (some v97) false (C 10 [ZN] H) H λaiD H=> gdA (some v97) false (aC (bi .neq 4 Vj aiD) H) H λaiE H=> bo (aU v97 (B true) aiE) λaiF=>
  aI aiF
  (some ((B false),H))
  (Rk C [t5,t8,(I 0)] H)):=
 lpE.trans (by kernel_rfl)
theorem adq(C:Callee)(t5 t8 t12:AV)(H:aj):Rk C [t5,t8,t12] H=
 bnd (C 13 [t5] H) λv107 H=> bo (fl v107 0) λadr=> bo (bi .lss 3 t12 adr) λv109=>
 aI v109
 (bnd (C 17 [t5,t12] H) λamH H=> bnd (C 17 [t8,t12] H) λv117 H=>
  bo (bi .eql 54 amH (.s (Go.Value.pointer none))) λaiG=> gdA (some aiG) false (aC (some v117) H) H λamI H=> gdA (some aiG) false (aC (bi .eql 54 amI (.s (Go.Value.pointer none))) H) H λapQ H=> bo (aU aiG (B true) apQ) λPy=> gdA (some Py) false (aC (some amH) H) H λano H=> gdA (some Py) false (aC (au ano) H) H λaiH H=> gdA (some Py) false (aC (ah aiH 0) H) H λv127 H=> gdA (some Py) false (ld v127 H) H λamJ H=> gdA (some Py) false (unG H (C 28 [amJ] H.guard)) H λaiI H=> gdA (some Py) false (aC (some v117) H) H λv130 H=> gdA (some Py) false (aC (au v130) H) H λv131 H=> gdA (some Py) false (aC (ah v131 0) H) H λapt H=> gdA (some Py) false (ld apt H) H λapR H=> gdA (some Py) false (C 28 [apR] H) H λapu H=> gdA (some Py) false (C 27 [aiI,apu] H) H λapS H=> gdA (some Py) false (aC (un .not apS) H) H λanp H=> bo (aU Py (B true) anp) λPz=> gdA (some Pz) false (aC (some amH) H) H λv139 H=> gdA (some Pz) false (aC (au v139) H) H λapT H=> gdA (some Pz) false (aC (ah apT 1) H) H λv141 H=> gdA (some Pz) false (ld v141 H) H λapv H=> gdA (some Pz) false (unG H (C 29 [apv] H.guard)) H λv143 H=> gdA (some Pz) false (aC (some v117) H) H λapU H=> gdA (some Pz) false (aC (au apU) H) H λv145 H=> gdA (some Pz) false (aC (ah v145 1) H) H λv146 H=> gdA (some Pz) false (ld v146 H) H λapV H=> gdA (some Pz) false (C 29 [apV] H) H λv148 H=> gdA (some Pz) false (C 27 [v143,v148] H) H λapW H=> gdA (some Pz) false (aC (un .not apW) H) H λapX H=> bo (aU Pz (B true) apX) λapY=>
  aI apY
  (some ((B false),H))
  (bo (bi .add 3 t12 (I 1)) λapw=>
  Rk C [t5,t8,apw] H))
 (bnd (C 21 [] H) λv152 H=>
  some (v152,H)):=
 lpE.trans (by kernel_rfl)
theorem apZ:Rn2 5 aps:=λ_ _ _ _ _ h=>
 rnG anm Tryz.func5 (by kernel_rfl) (by kernel_rfl) h
def apx(C:Callee)(a0 a1:AV)(H:aj):OA:=
 bnd (fA 24 a0 H) λv2 H=>
 bnd (lda 12 v2 H) λv13 H=> bnd (C 42 [v13] H) λv14 H=> bnd (alc 40 [zI,zI,zI,zI,zI,zI,zI,zN] H) λv7 H=> bnd (st 8 v7 v14 H) λ_ H=>
 bnd (lda 12 v2 H) λv15 H=> bnd (C 43 [v15,a1] H) λv17 H=>
 bnd (lda 8 v7 H) λv19 H=> bnd (C 44 [v19,v17] H) λv21 H=> bo (aF v21 0) λv22=> bo (aF v21 1) λv23=>
 bnd (lda 8 v7 H) λv25 H=> bnd (C 25 [v25,v17] H) λv27 H=> bo (aF v27 0) λv28=> bo (aF v27 1) λv29=>
 bo (un .not v23) λv31=> gdA (some v31) false (aC (some v29) H) H λv33 H=> gdA (some v31) false (aC (bi .neq 76 v33 (I 0)) H) H λv34 H=> bo (aU v31 (B true) v34) λv35=> gdA (some v35) false (aC (some v28) H) H λv37 H=> gdA (some v35) false (aC (bi .eql 26 v37 (.s (Go.Value.pointer none))) H) H λv38 H=> bo (aU v35 (B true) v38) λv39=>
 aI v39
 (some (.tup [(.s (Go.Value.pointer none)),(.s (Go.Value.pointer none)),(.s (Go.Value.slice none 0 0))],H))
 (some (.tup [v28,v22,v17],H))
theorem ap0:Rn2 9 apx:=λ_ _ _ _ _ h=>
 rnG an0 Tryz.func9 (by kernel_rfl) (by kernel_rfl) h
def aiJ:Ann:=⟨[(3,[0,12,13,14])],[],[]⟩
def zo:=iU Tryz.prog Tryz.f10 54 aiJ 0
def aiK(C:Callee)(a0:AV)(H:aj):OA:=
 bo (au a0) λv10=> bo (ah v10 10) λv11=> bnd (ld v11 H) λv12 H=> bnd (lnS v12 H) λv13 H=>
 zo C [a0,v12,v13,(I 0)] H
theorem Xc(C:Callee)(t0 t12 t13 t14:AV)(H:aj):zo C [t0,t12,t13,t14] H=
 bo (bi .lss 3 t14 t13) λv15=>
 aI v15
 (bnd (ix 1 t12 t14 H) λv17 H=> bnd (ld v17 H) λv18 H=>
  bnd (C 18 [v18] H) λv21 H=> bo (aF v21 0) λv22=> bo (aF v21 1) λv23=> bnd (alc 57 [zI,zI,zI,zI,zI,zI,zN,zI,zI] H) λv5 H=> bnd (st 9 v5 v22 H) λ_ H=>
  bo (au t0) λv26=> bo (ah v26 0) λv27=> bnd (ld v27 H) λv28 H=> bnd (C 16 [v28,t14] H) λv30 H=> bo (aF v30 0) λv31=> bo (aF v30 1) λv32=>
  gdA (some v23) false (aC (some v18) H) H λv35 H=> gdA (some v23) false (aC (au v35) H) H λv36 H=> gdA (some v23) false (aC (ah v36 1) H) H λv37 H=> gdA (some v23) false (ld v37 H) H λv38 H=> gdA (some v23) false (C 45 [v38] H) H λv39 H=> bo (aU v23 (B true) v39) λv40=> gdA (some v40) false (aC (some v31) H) H λv42 H=> gdA (some v40) false (aC (some v32) H) H λv43 H=> gdA (some v40) false (aC (bi .add 3 v42 v43) H) H λv44 H=> gdA (some v40) false (aC (bi .gtr 3 v44 (I 0)) H) H λv45 H=> bo (aU v40 (B true) v45) λv46=>
  aI v46
  (some ((B false),H))
  (bo (bi .add 3 t14 (I 1)) λv47=>
  zo C [t0,t12,t13,v47] H))
 (bo (au t0) λv49=> bo (ah v49 0) λv50=> bnd (ld v50 H) λv51 H=> bnd (C 14 [v51] H) λv52 H=> bo (bi .eql 3 v52 (I 0)) λv53=>
  some (v53,H)):=
 lpE.trans (by kernel_rfl)
theorem anq:Rn1 10 aiK:=λ_ _ _ _ h=>
 rnG aiJ Tryz.func10 (by kernel_rfl) (by kernel_rfl) h
def anr:Ann:=⟨[],[(2,rF 13 []),(4,rF 16 [])],[]⟩
def aaS(C:Callee)(a0 a1:AV)(H:aj):OA:=
 bnd (fA 35 a1 H) λv3 H=>
 bo (ah v3 0) λv6=> bnd (ld v6 H) λv7 H=>
 aI v7
 (bo (au a0) λv9=> bo (ah v9 0) λv10=> bnd (ld v10 H) λv11 H=> bo (ah v3 1) λv12=> bnd (ld v12 H) λv13 H=> bo (ah v3 2) λv14=> bnd (ld v14 H) λv15 H=> bo (ah v3 3) λv16=> bnd (ld v16 H) λv17 H=> bnd (C 35 [v11,v13,v15,v17] H) λv18 H=> bo (bi .eql 76 v18 (I 0)) λv19=>
  some (v19,H))
 (bo (ah v3 1) λv21=> bnd (ld v21 H) λv22 H=> bnd (C 17 [a0,v22] H) λv23 H=>
  bo (bi .neq 54 v23 (.s (Go.Value.pointer none))) λv25=> gdA (some v25) true (aC (some v23) H) H λv27 H=> gdA (some v25) true (aC (some a0) H) H λv28 H=> gdA (some v25) true (aC (au v28) H) H λv29 H=> gdA (some v25) true (aC (ah v29 0) H) H λv30 H=> gdA (some v25) true (ld v30 H) H λv31 H=> gdA (some v25) true (aC (some a0) H) H λv32 H=> gdA (some v25) true (aC (au v32) H) H λv33 H=> gdA (some v25) true (aC (ah v33 1) H) H λv34 H=> gdA (some v25) true (ld v34 H) H λv35 H=> gdA (some v25) true (C 36 [v27,v31,v35] H) H λv36 H=> gdA (some v25) true (aC (bi .neq 3 v36 (I 0)) H) H λv37 H=> bo (aU v25 v37 (B false)) λv38=>
  some (v38,H))
theorem afB:Rn2 11 aaS:=λ_ _ _ _ _ h=>
 rnG anr Tryz.func11 (by kernel_rfl) (by kernel_rfl) h
def ant:Ann:=⟨[],[(7,some false::some false::some true::rF 6 [])],[(7,[(4,6)])]⟩
def IU(C:Callee)(t6 t7:AV)(H:aj):OA:=
 bnd (lda 4 t7 H) λv48 H=> bnd (st 4 t6 v48 H) λ_ H=>
 bnd (lda 4 t6 H) λr0 _=> some (r0,H)
def Xd(C:Callee)(a0 a1 a2:AV)(H:aj):OA:=
 bnd (fA 38 a0 H) λv3 H=> bnd (alc 35 [zB,zI,zI,.s (.int .u16 0)] H) λv6 H=>
 bo (ah v3 0) λv8=> bnd (ld v8 H) λv9 H=> bo (bi .rem 3 v9 (I 23)) λv10=> bo (bi .eql 3 v10 (I 22)) λv11=>
 aI v11
 (bo (ah v3 2) λv12=> bnd (ld v12 H) λv13 H=> bo (bi .rem 3 v13 (I 2)) λv14=> bo (bi .eql 3 v14 (I 0)) λv15=> bo (ah v3 1) λv16=> bnd (ld v16 H) λv17 H=> bo (ah v3 2) λv18=> bnd (ld v18 H) λv19 H=> bo (ah v3 3) λv20=> bnd (ld v20 H) λv21 H=> bo (bd 35 [(0,v15),(1,v17),(2,v19),(3,v21)]) λv22=> bnd (st 4 v6 v22 H) λ_ H=>
  bnd (lda 4 v6 H) λr0 _=> some (r0,H))
 (bo (ah v3 0) λv23=> bnd (ld v23 H) λv24 H=> bnd (C 23 [v24,(I 2)] H) λv25 H=> bo (bi .eql 3 v25 (I 0)) λv26=>
  aI v26
  (bo (ah v3 1) λv27=> bnd (ld v27 H) λv28 H=> bnd (C 23 [v28,a1] H) λv30 H=> bo (bd 35 [(1,v30)]) λv31=> bnd (st 4 v6 v31 H) λ_ H=>
  bnd (lda 4 v6 H) λr0 _=> some (r0,H))
  (bo (ah v3 1) λv32=> bnd (ld v32 H) λv33 H=> bnd (C 23 [v33,a2] H) λv35 H=> bo (bd 35 [(0,(B true)),(1,v35)]) λv36=> bnd (alc 35 [zB,zI,zI,.s (.int .u16 0)] H) λv7 H=> bnd (st 4 v7 v36 H) λ_ H=>
  bo (ah v3 0) λv37=> bnd (ld v37 H) λv38 H=> bo (bi .rem 3 v38 (I 7)) λv39=> bo (bi .eql 3 v39 (I 6)) λv40=>
  aI v40
  (bo (ah v3 2) λv41=> bnd (ld v41 H) λv42 H1=> bnd (unG H1 (C 23 [v42,(I 120)] H1.guard)) λv43 H2=> bo (ah v3 3) λv44=> bnd (ld v44 H2) λv45 H4=> bo (ah v7 2) λv46=> bnd (st 1 v46 v43 H4) λ_ H6=> bo (ah v7 3) λv47=> bnd (st 1 v47 v45 H6) λ_ H8=> ck (aT v44) H4 H6 <|
   IU C v6 v7 H8)
  (IU C v6 v7 H)))
theorem anu:Rn3 12 Xd:=λ_ _ _ _ _ _ h=>
 rnG ant Tryz.func12 (by kernel_rfl) (by kernel_rfl) h
def aiL(C:Callee)(a0:AV)(H:aj):OA:=
 bnd (alc 40 [zI,zI,zI,zI,zI,zI,zI,zN] H) λv2 H=>
 bo (au a0) λv5=> bo (ah v5 2) λv6=> bnd (lda 8 v6 H) λv7 H=> bnd (alc 40 [zI,zI,zI,zI,zI,zI,zI,zN] H) λv3 H=> bnd (st 8 v3 v7 H) λ_ H=>
 bo (ah v3 7) λv8=> bnd (ld v8 H) λv9 H=> bnd (C 46 [v9] H) λv10 H=> bo (ah v3 7) λv11=> bnd (st 1 v11 v10 H) λ_ H=>
 bnd (lda 8 v3 H) λv12 H=> bnd (st 8 v2 v12 H) λ_ H=>
 bnd (lda 8 v2 H) λr0 _=> some (r0,H)
theorem anv:Rn1 13 aiL:=λ_ _ _ _ h=>
 rnG an0 Tryz.func13 (by kernel_rfl) (by kernel_rfl) h
def aiM:Ann:=⟨[(4,[3,7,8,9])],[],[]⟩
def IV:=iU Tryz.prog Tryz.f14 20 aiM 0
def aiN(C:Callee)(a0:AV)(H:aj):OA:=
 bnd (C 47 [a0] H) λv7 H=> bnd (lnS v7 H) λv8 H=>
 IV C [(I 0),v7,v8,(I 0)] H
theorem Xe(C:Callee)(t3 t7 t8 t9:AV)(H:aj):IV C [t3,t7,t8,t9] H=
 bo (bi .lss 3 t9 t8) λv10=>
 aI v10
 (bnd (ix 2 t7 t9 H) λv11 H=> bnd (lda 2 v11 H) λv12 H=> bnd (alc 115 [zP,zP] H) λv5 H=> bnd (st 2 v5 v12 H) λ_ H=>
  bo (ah v5 0) λv14=> bnd (ld v14 H) λv15 H=> bnd (C 48 [v15] H) λv16 H=> bo (bi .add 3 t3 v16) λv17=>
  bo (bi .add 3 t9 (I 1)) λv18=>
  IV C [v17,t7,t8,v18] H)
 (some (t3,H)):=
 lpE.trans (by kernel_rfl)
theorem anw:Rn1 14 aiN:=λ_ _ _ _ h=>
 rnG aiM Tryz.func14 (by kernel_rfl) (by kernel_rfl) h
def aiO(C:Callee)(a0:AV)(H:aj):OA:=
 bo (au a0) λv4=> bo (ah v4 0) λv5=> bnd (ld v5 H) λv6 H=> bnd (C 49 [v6] H) λv7 H=>
 some (v7,H)
theorem anx:Rn1 15 aiO:=λ_ _ _ _ h=>
 rnG an0 Tryz.func15 (by kernel_rfl) (by kernel_rfl) h
def anz:Ann:=⟨[],[(3,rF 9 (some true::rF 12 []))],[]⟩
def afC(C:Callee)(a0 a1:AV)(H:aj):OA:=
 bnd (C 50 [a0,a1] H) λv8 H=> bo (un .not v8) λv9=>
 aI v9
 (some (.tup [(I 0),(I 0)],H))
 (bo (au a0) λv11=> bo (ah v11 0) λv12=> bnd (ld v12 H) λv13 H=> bnd (ix 4 v13 a1 H) λv15 H=> bo (ah v15 0) λv16=> bo (ah v16 1) λv17=> bnd (ld v17 H) λv18 H=> bnd (unG H (C 51 [v18] H.guard)) λv19 H=> bo (au a0) λv21=> bo (ah v21 0) λv22=> bnd (ld v22 H) λv23 H=> bnd (ix 4 v23 a1 H) λv25 H=> bo (ah v25 2) λv26=> bo (ah v26 1) λv27=> bnd (ld v27 H) λv28 H=> bnd (C 51 [v28] H) λv29 H=>
  some (.tup [v19,v29],H))
theorem anA:Rn2 16 afC:=λ_ _ _ _ _ h=>
 rnG anz Tryz.func16 (by kernel_rfl) (by kernel_rfl) h
def aaT(C:Callee)(a0 a1:AV)(H:aj):OA:=
 bo (bi .lss 3 a1 (I 0)) λv6=> gdA (some v6) false (aC (some a1) H) H λv8 H=> gdA (some v6) false (aC (some a0) H) H λv9 H=> gdA (some v6) false (aC (au v9) H) H λv10 H=> gdA (some v6) false (aC (ah v10 10) H) H λv11 H=> gdA (some v6) false (ld v11 H) H λv12 H=> gdA (some v6) false (lnS v12 H) H λv13 H=> gdA (some v6) false (aC (bi .geq 3 v8 v13) H) H λv14 H=> bo (aU v6 (B true) v14) λv15=>
 aI v15
 (some ((.s (Go.Value.pointer none)),H))
 (bo (au a0) λv17=> bo (ah v17 10) λv18=> bnd (ld v18 H) λv19 H=> bnd (ix 1 v19 a1 H) λv21 H=> bnd (ld v21 H) λv22 H=>
  some (v22,H))
theorem anB:Rn2 17 aaT:=λ_ _ _ _ _ h=>
 rnG an0 Tryz.func17 (by kernel_rfl) (by kernel_rfl) h
def Xf(C:Callee)(a0:AV)(H:aj):OA:=
 bnd (alc 57 [zI,zI,zI,zI,zI,zI,zN,zI,zI] H) λv2 H=>
 bo (au a0) λv6=> bo (ah v6 12) λv7=> bo (ah v7 3) λv8=> bnd (ld v8 H) λv9 H=> bo (bi .eql 3 v9 (I 0)) λv10=>
 aI v10
 (bo (bd 57 []) λv11=> bnd (st 9 v2 v11 H) λ_ H=>
  bnd (lda 9 v2 H) λr0 _=> some (.tup [r0,(B false)],H))
 (bo (au a0) λv13=> bo (ah v13 12) λv14=> bnd (lda 9 v14 H) λv15 H=> bnd (alc 57 [zI,zI,zI,zI,zI,zI,zN,zI,zI] H) λv4 H=> bnd (st 9 v4 v15 H) λ_ H=>
  bo (ah v4 6) λv16=> bnd (ld v16 H) λv17 H=> bnd (app 3 1 8 (.s (Go.Value.slice none 0 0)) v17 H) λv18 H=> bo (ah v4 6) λv19=> bnd (st 1 v19 v18 H) λ_ H=>
  bnd (lda 9 v4 H) λv20 H=> bnd (st 9 v2 v20 H) λ_ H=>
  bnd (lda 9 v2 H) λr0 _=> some (.tup [r0,(B true)],H))
theorem afD:Rn1 18 Xf:=λ_ _ _ _ h=>
 rnG an0 Tryz.func18 (by kernel_rfl) (by kernel_rfl) h
def anC:Ann:=⟨[],[(1,rF 12 [])],[]⟩
def aiP(C:Callee)(a0:AV)(H:aj):OA:=
 bo (au a0) λv4=> bo (ah v4 0) λv5=> bnd (ld v5 H) λv6 H=> bnd (lnS v6 H) λv7 H=> bo (au a0) λv9=> bo (ah v9 1) λv10=> bnd (ld v10 H) λv11 H=> bnd (lnS v11 H) λv12 H=> bo (bi .sub 3 v7 v12) λv13=>
 some (v13,H)
theorem anD:Rn1 19 aiP:=λ_ _ _ _ h=>
 rnG anC Tryz.func19 (by kernel_rfl) (by kernel_rfl) h
def aiQ:Ann:=⟨[(4,[3,9,10,11])],[],[]⟩
def IW:=iU Tryz.prog Tryz.f20 24 aiQ 0
def aiR(C:Callee)(a0:AV)(H:aj):OA:=
 bo (au a0) λv7=> bo (ah v7 10) λv8=> bnd (ld v8 H) λv9 H=> bnd (lnS v9 H) λv10 H=>
 IW C [(I 0),v9,v10,(I 0)] H
theorem Xg(C:Callee)(t3 t9 t10 t11:AV)(H:aj):IW C [t3,t9,t10,t11] H=
 bo (bi .lss 3 t11 t10) λv12=>
 aI v12
 (bnd (ix 1 t9 t11 H) λv13 H=> bnd (ld v13 H) λv14 H=>
  bo (au v14) λv17=> bo (ah v17 1) λv18=> bnd (ld v18 H) λv19 H=> bnd (C 19 [v19] H) λv20 H=> bo (bi .add 3 t3 v20) λv21=>
  bo (bi .add 3 t11 (I 1)) λv22=>
  IW C [v21,t9,t10,v22] H)
 (some (t3,H)):=
 lpE.trans (by kernel_rfl)
theorem anE:Rn1 20 aiR:=λ_ _ _ _ h=>
 rnG aiQ Tryz.func20 (by kernel_rfl) (by kernel_rfl) h
def aiS(C:Callee)(H:aj):OA:=
 bo (bd 40 [(0,(I 1)),(1,(I 1)),(2,(I 1)),(3,(I 1)),(4,(I 1)),(5,(I 1)),(6,(I 1))]) λv6=> bnd (bs 28 1 [(0,(.s (Go.Value.slice none 0 0)))] H) λv7 H=> bnd (C 25 [v6,v7] H) λv8 H=> bo (aF v8 0) λv9=> bo (aF v8 1) λv10=>
 bo (bd 40 []) λv12=> bnd (C 25 [v12,(.s (Go.Value.slice none 0 0))] H) λv13 H=> bo (aF v13 0) λv14=> bo (aF v13 1) λv15=>
 bo (bi .eql 76 v10 (I 0)) λv17=> gdA (some v17) true (aC (some v9) H) H λv19 H=> gdA (some v17) true (aC (bi .neq 26 v19 (.s (Go.Value.pointer none))) H) H λv20 H=> bo (aU v17 v20 (B false)) λv21=> gdA (some v21) true (aC (some v9) H) H λv23 H=> gdA (some v21) true (C 10 [v23] H) H λv24 H=> bo (aU v21 v24 (B false)) λv25=> gdA (some v25) true (aC (some v9) H) H λv27 H=> gdA (some v25) true (C 20 [v27] H) H λv28 H=> gdA (some v25) true (aC (bi .eql 3 v28 (I 0)) H) H λv29 H=> bo (aU v25 v29 (B false)) λv30=> gdA (some v30) true (aC (some v15) H) H λv32 H=> gdA (some v30) true (aC (bi .eql 76 v32 (I 1)) H) H λv33 H=> bo (aU v30 v33 (B false)) λv34=> gdA (some v34) true (aC (some v14) H) H λv36 H=> gdA (some v34) true (aC (bi .eql 26 v36 (.s (Go.Value.pointer none))) H) H λv37 H=> bo (aU v34 v37 (B false)) λv38=>
 some (v38,H)
theorem anF:Rn0 21 aiS:=λ_ _ _ h=>
 rnG an0 Tryz.func21 (by kernel_rfl) (by kernel_rfl) h
def afE(C:Callee)(a0 a1:AV)(H:aj):OA:=
 bnd (alc 70 [zI,zI,zI,zI,zI,zI,zI,zB,zN] H) λv4 H=>
 bnd (C 52 [a0,a1] H) λv12 H=> bo (aF v12 0) λv13=> bo (aF v12 1) λv14=> bo (aF v12 2) λv15=> bnd (alc 115 [zP,zP] H) λv6 H=> bnd (st 2 v6 v13 H) λ_ H=>
 bo (un .not v15) λv17=> gdA (some v17) false (aC (some a1) H) H λv19 H=> gdA (some v17) false (aC (bi .lss 3 v19 (I 0)) H) H λv20 H=> bo (aU v17 (B true) v20) λv21=>
 aI v21
 (bo (bd 70 []) λv22=> bnd (st 9 v4 v22 H) λ_ H=>
  bnd (lda 9 v4 H) λr0 _=> some (.tup [r0,(B false)],H))
 (bo (ah v6 0) λv23=> bnd (ld v23 H) λv24 H=> bnd (C 53 [v24,v14] H) λv26 H=> bo (aF v26 0) λv27=> bo (aF v26 1) λv28=> bnd (st 9 v4 v27 H) λ_ H=>
  bnd (lda 9 v4 H) λr0 _=> some (.tup [r0,v28],H))
theorem anG:Rn2 22 afE:=λ_ _ _ _ _ h=>
 rnG an0 Tryz.func22 (by kernel_rfl) (by kernel_rfl) h
def IX(C:Callee)(t5:AV)(H:aj):OA:=
 some (t5,H)
def aaU(C:Callee)(a0 a1:AV)(H:aj):OA:=
 bo (bi .lss 3 a1 (I 1)) λv7=>
 aI v7
 (some ((I 0),H))
 (bo (bi .rem 3 a0 a1) λv10=>
  bo (bi .lss 3 v10 (I 0)) λv12=>
  aI v12
  (bo (bi .add 3 v10 a1) λv15=>
  IX C v15 H)
  (IX C v10 H))
theorem anH:Rn2 23 aaU:=λ_ _ _ _ _ h=>
 rnG an0 Tryz.func23 (by kernel_rfl) (by kernel_rfl) h
def aiT:Ann:=⟨[(11,[2,8,32,33,34])],[(8,some false::some true::some true::rF 4 []),(12,rF 8 (some true::rF 5 []))],[]⟩
def IY:=iU Tryz.prog Tryz.f25 54 aiT 0
def aaV(C:Callee)(a0 a1:AV)(H:aj):OA:=
 bnd (fA 40 a0 H) λv2 H=>
 bnd (lda 8 v2 H) λv11 H=> bnd (C 54 [v11] H) λv12 H=>
 bo (bi .neq 76 v12 (I 0)) λv14=>
 aI v14
 (some (.tup [(.s (Go.Value.pointer none)),v12],H))
 (bnd (lda 8 v2 H) λv16 H=> bnd (C 55 [v16,a1] H) λv18 H=>
  bo (bi .neq 76 v18 (I 0)) λv20=>
  aI v20
  (some (.tup [(.s (Go.Value.pointer none)),v18],H))
  (bo (ah v2 7) λv22=> bnd (ld v22 H) λv23 H=> bnd (C 46 [v23] H) λv24 H=> bo (ah v2 7) λv25=> bnd (st 1 v25 v24 H) λ_ H=>
  bnd (lda 8 v2 H) λv26 H=> bnd (unG H (C 30 [v26] H.guard)) λv27 H=> bnd (unG H (C 32 [] H.guard)) λv28 H=> bnd (lda 8 v2 H) λv29 H=> bo (bd 47 [(0,v27),(1,v28),(2,v29)]) λv30=> bnd (fA 47 v30 H) λv31 H=>
  bnd (lnS a1 H) λv33 H=>
  IY C [v2,v31,a1,v33,(I 0)] H))
theorem Xh(C:Callee)(t2 t8 t32 t33 t34:AV)(H:aj):IY C [t2,t8,t32,t33,t34] H=
 bo (bi .lss 3 t34 t33) λv35=>
 aI v35
 (bnd (ix 1 t32 t34 H) λv37 H=> bnd (ld v37 H) λv38 H=>
  bo (au t8) λv41=> bo (ah v41 10) λv42=> bnd (ld v42 H) λv43 H=> bnd (lda 8 t2 H) λv44 H=> bnd (unG H (C 33 [v44,t34,v38] H.guard)) λv47 H=> bnd (bs 45 1 [(0,v47)] H) λv48 H=> bnd (app 54 1 8 v43 v48 H) λv49 H=> bo (au t8) λv50=> bo (ah v50 10) λv51=> bnd (st 1 v51 v49 H) λ_ H=>
  bo (bi .add 3 t34 (I 1)) λv52=>
  IY C [t2,t8,t32,t33,v52] H)
 (some (.tup [t8,(I 0)],H)):=
 lpE.trans (by kernel_rfl)
theorem aiU:Rn2 25 aaV:=λ_ _ _ _ _ h=>
 rnG aiT Tryz.func25 (by kernel_rfl) (by kernel_rfl) h
def aiV:Ann:=⟨[(5,[0,1,5])],[(6,rF 9 [])],[]⟩
def Ee:=iU Tryz.prog Tryz.f26 26 aiV 0
def aiW(C:Callee)(a0 a1:AV)(H:aj):OA:=
 bnd (lnS a0 H) λv7 H=> bnd (lnS a1 H) λv9 H=> bo (bi .neq 3 v7 v9) λv10=>
 aI v10
 (some ((B false),H))
 (Ee C [a0,a1,(I 0)] H)
theorem Xi(C:Callee)(t0 t1 t5:AV)(H:aj):Ee C [t0,t1,t5] H=
 bnd (lnS t0 H) λv13 H=> bo (bi .lss 3 t5 v13) λv14=>
 aI v14
 (bnd (ix 4 t0 t5 H) λv19 H=> bnd (lda 4 v19 H) λv20 H=> bnd (ix 4 t1 t5 H) λv23 H=> bnd (lda 4 v23 H) λv24 H=> bo (bi .neq 51 v20 v24) λv25=>
  aI v25
  (some ((B false),H))
  (bo (bi .add 3 t5 (I 1)) λv16=>
  Ee C [t0,t1,v16] H))
 (some ((B true),H)):=
 lpE.trans (by kernel_rfl)
theorem anI:Rn2 26 aiW:=λ_ _ _ _ _ h=>
 rnG aiV Tryz.func26 (by kernel_rfl) (by kernel_rfl) h
def aiX:Ann:=⟨[(5,[0,1,5])],[(6,rF 9 [])],[]⟩
def Ef:=iU Tryz.prog Tryz.f27 26 aiX 0
def aiY(C:Callee)(a0 a1:AV)(H:aj):OA:=
 bnd (lnS a0 H) λv7 H=> bnd (lnS a1 H) λv9 H=> bo (bi .neq 3 v7 v9) λv10=>
 aI v10
 (some ((B false),H))
 (Ef C [a0,a1,(I 0)] H)
theorem Xj(C:Callee)(t0 t1 t5:AV)(H:aj):Ef C [t0,t1,t5] H=
 bnd (lnS t0 H) λv13 H=> bo (bi .lss 3 t5 v13) λv14=>
 aI v14
 (bnd (ix 1 t0 t5 H) λv19 H=> bnd (ld v19 H) λv20 H=> bnd (ix 1 t1 t5 H) λv23 H=> bnd (ld v23 H) λv24 H=> bo (bi .neq 3 v20 v24) λv25=>
  aI v25
  (some ((B false),H))
  (bo (bi .add 3 t5 (I 1)) λv16=>
  Ef C [t0,t1,v16] H))
 (some ((B true),H)):=
 lpE.trans (by kernel_rfl)
theorem anJ:Rn2 27 aiY:=λ_ _ _ _ _ h=>
 rnG aiX Tryz.func27 (by kernel_rfl) (by kernel_rfl) h
def aiZ:Ann:=⟨[(4,[3,9,10,11])],[],[]⟩
def IZ:=iU Tryz.prog Tryz.f28 24 aiZ 0
def ai0(C:Callee)(a0:AV)(H:aj):OA:=
 bo (au a0) λv7=> bo (ah v7 0) λv8=> bnd (ld v8 H) λv9 H=> bnd (lnS v9 H) λv10 H=>
 IZ C [(.s (Go.Value.slice none 0 0)),v9,v10,(I 0)] H
theorem Xk(C:Callee)(t3 t9 t10 t11:AV)(H:aj):IZ C [t3,t9,t10,t11] H=
 bo (bi .lss 3 t11 t10) λv12=>
 aI v12
 (bnd (ix 6 t9 t11 H) λv13 H=> bnd (lda 6 v13 H) λv14 H=> bnd (alc 93 [zI,zI,zI,zI,zB,zN] H) λv5 H=> bnd (st 6 v5 v14 H) λ_ H=>
  bo (ah v5 2) λv16=> bnd (ld v16 H) λv17 H=> bnd (bs 22 1 [(0,v17)] H) λv18 H=> bnd (app 3 1 8 t3 v18 H) λv19 H=>
  bo (bi .add 3 t11 (I 1)) λv20=>
  IZ C [v19,t9,t10,v20] H)
 (bnd (C 56 [t3] H) λv22 H=>
  some (t3,H)):=
 lpE.trans (by kernel_rfl)
theorem anK:Rn1 28 ai0:=λ_ _ _ _ h=>
 rnG aiZ Tryz.func28 (by kernel_rfl) (by kernel_rfl) h
def ai1(C:Callee)(a0:AV)(H:aj):OA:=
 bo (au a0) λv4=> bo (ah v4 1) λv5=> bnd (ld v5 H) λv6 H=> bnd (C 46 [v6] H) λv7 H=>
 some (v7,H)
theorem anL:Rn1 29 ai1:=λ_ _ _ _ h=>
 rnG an0 Tryz.func29 (by kernel_rfl) (by kernel_rfl) h
def ai2:Ann:=⟨[(4,[1,3,7,8])],[(4,rF 7 (some true::some false::some false::some true::rF 3 (some true::some true::rF 7 [])))],[]⟩
def I4:=iU Tryz.prog Tryz.f30 34 ai2 0
def ai3(C:Callee)(a0:AV)(H:aj):OA:=
 bnd (fA 40 a0 H) λv1 H=>
 bo (bd 124 []) λv4=> bnd (fA 124 v4 H) λv5 H=>
 bo (ah v1 0) λv6=> bnd (ld v6 H) λv7 H=>
 I4 C [v1,v5,v7,(I 0)] H
theorem Xl(C:Callee)(t1 t3 t7 t8:AV)(H:aj):I4 C [t1,t3,t7,t8] H=
 bo (bi .lss 3 t8 t7) λv9=>
 aI v9
 (bo (au t3) λv12=> bo (ah v12 0) λv13=> bnd (ld v13 H) λv14 H=> bo (ah t1 5) λv15=> bnd (ld v15 H) λv16 H=> bnd (unG H (C 57 [v16] H.guard)) λv17 H=> bo (ah t1 6) λv18=> bnd (ld v18 H) λv19 H=> bnd (unG H (C 58 [v19] H.guard)) λv20 H=> bo (bd 115 [(0,v17),(1,v20)]) λv21=> bo (ah t1 5) λv22=> bnd (ld v22 H) λv23 H=> bnd (unG H (C 57 [v23] H.guard)) λv24 H=> bnd (unG H (C 58 [(I 1)] H.guard)) λv25 H=> bo (bd 115 [(0,v24),(1,v25)]) λv26=> bo (bd 121 [(0,v21),(1,v26)]) λv27=> bnd (bs 122 1 [(0,v27)] H) λv28 H=> bnd (app 121 4 32 v14 v28 H) λv29 H=> bo (au t3) λv30=> bo (ah v30 0) λv31=> bnd (st 1 v31 v29 H) λ_ H=>
  bo (bi .add 3 t8 (I 1)) λv32=>
  I4 C [t1,t3,t7,v32] H)
 (some (t3,H)):=
 lpE.trans (by kernel_rfl)
theorem anM:Rn1 30 ai3:=λ_ _ _ _ h=>
 rnG ai2 Tryz.func30 (by kernel_rfl) (by kernel_rfl) h
def ai4(C:Callee)(H:aj):OA:=
 bo (bd 118 []) λv1=> bnd (fA 118 v1 H) λv2 H=>
 some (v2,H)
theorem anN:Rn0 32 ai4:=λ_ _ _ h=>
 rnG an0 Tryz.func32 (by kernel_rfl) (by kernel_rfl) h
def anO:Ann:=⟨[],[(1,rF 4 (some true::some false::some true::rF 4 (some true::rF 4 [])))],[]⟩
def ai5(C:Callee)(a0 a1 a2:AV)(H:aj):OA:=
 bnd (fA 40 a0 H) λv3 H=>
 bo (ah v3 3) λv7=> bnd (ld v7 H) λv8 H=> bo (ah v3 4) λv9=> bnd (ld v9 H) λv10 H=> bnd (unG H (C 59 [v8,v10] H.guard)) λv11 H=> bnd (unG H (C 60 [a2] H.guard)) λv13 H=> bnd (lda 8 v3 H) λv14 H=> bnd (lda 8 v3 H) λv16 H=> bnd (unG H (C 61 [v16,a1] H.guard)) λv18 H=> bo (bd 64 [(0,v18)]) λv19=> bo (bd 66 [(0,v11),(1,v13),(2,v14),(3,a1),(4,v19)]) λv20=> bnd (fA 66 v20 H) λv21 H=>
 some (v21,H)
theorem anP:Rn3 33 ai5:=λ_ _ _ _ _ _ h=>
 rnG anO Tryz.func33 (by kernel_rfl) (by kernel_rfl) h
def anQ:Ann:=⟨[],[(7,rF 10 (some true::some true::rF 4 []))],[]⟩
def Xm(C:Callee)(a0 a1 a2 a3:AV)(H:aj):OA:=
 bnd (C 22 [a0,a1] H) λv19 H=> bo (aF v19 0) λv20=> bo (aF v19 1) λv21=> bnd (alc 70 [zI,zI,zI,zI,zI,zI,zI,zB,zN] H) λv9 H=> bnd (st 9 v9 v20 H) λ_ H=>
 bo (un .not v21) λv23=>
 aI v23
 (some ((I 3),H))
 (bnd (lda 9 v9 H) λv25 H=> bnd (C 62 [v25,a2,a3] H) λv28 H=> bo (aF v28 0) λv29=> bo (aF v28 1) λv30=> bnd (st 9 v9 v29 H) λ_ H=>
  bo (bi .neq 76 v30 (I 0)) λv32=>
  aI v32
  (some (v30,H))
  (bo (au a0) λv35=> bo (ah v35 0) λv36=> bnd (ld v36 H) λv37 H=> bo (ah v9 2) λv38=> bnd (ld v38 H) λv39 H=> bnd (ix 4 v37 v39 H) λv40 H=> bnd (lda 4 v40 H) λv41 H=> bo (ah v9 0) λv42=> bnd (ld v42 H) λv43 H=> bnd (unG H (C 64 [v43] H.guard)) λv44 H=> bnd (unG H (C 63 [v41,v44] H.guard)) λv45 H=> bo (fl v45 1) λv46=> bnd (lda 9 v9 H) λv47 H=> bnd (C 65 [v46,v47] H) λv48 H=>
  bo (bi .neq 76 v48 (I 0)) λv50=>
  aI v50
  (some (v48,H))
  (bnd (C 52 [a0,a1] H) λv55 H=> bo (aF v55 0) λv56=> bo (aF v55 1) λv57=> bo (aF v55 2) λv58=> bnd (alc 115 [zP,zP] H) λv13 H=> bnd (st 2 v13 v56 H) λ_ H=>
   bo (ah v13 0) λv59=> bnd (ld v59 H) λv60 H=> bnd (C 66 [v60,v57] H) λv62 H=>
   some ((I 0),H))))
theorem aaW:Rn4 35 Xm:=λ_ _ _ _ _ _ _ h=>
 rnG anQ Tryz.func35 (by kernel_rfl) (by kernel_rfl) h
def PD(C:Callee)(a0 a1 a2:AV)(H:aj):OA:=
 bnd (C 67 [a0,a1,a2] H) λv11 H=>
 aI v11
 (some ((I 1),H))
 (bnd (C 68 [a0,a1] H) λv15 H=>
  aI v15
  (some ((I 2),H))
  (bnd (C 69 [a0,a1] H) λv19 H=>
  aI v19
  (some ((I 3),H))
  (bnd (C 70 [a0,a1,a2] H) λv24 H=>
   aI v24
   (some ((I 4),H))
   (some ((I 0),H)))))
theorem Ut:Rn3 36 PD:=λ_ _ _ _ _ _ h=>
 rnG an0 Tryz.func36 (by kernel_rfl) (by kernel_rfl) h
def afF(C:Callee)(a0 a1:AV)(H:aj):OA:=
 bnd (alc 93 [zI,zI,zI,zI,zB,zN] H) λv4 H=>
 bnd (C 71 [a0,a1] H) λv9 H=>
 bo (bi .lss 3 v9 (I 0)) λv11=>
 aI v11
 (bo (bd 93 []) λv12=> bnd (st 6 v4 v12 H) λ_ H=>
  bnd (lda 6 v4 H) λr0 _=> some (.tup [r0,(B false)],H))
 (bo (au a0) λv14=> bo (ah v14 0) λv15=> bnd (ld v15 H) λv16 H=> bnd (ix 6 v16 v9 H) λv18 H=> bnd (lda 6 v18 H) λv19 H=> bnd (C 72 [v19] H) λv20 H=> bnd (st 6 v4 v20 H) λ_ H=>
  bnd (lda 6 v4 H) λr0 _=> some (.tup [r0,(B true)],H))
theorem anR:Rn2 37 afF:=λ_ _ _ _ _ h=>
 rnG an0 Tryz.func37 (by kernel_rfl) (by kernel_rfl) h
def afG(C:Callee)(a0 a1:AV)(H:aj):OA:=
 bnd (fA 93 a0 H) λv2 H=>
 bnd (lda 6 v2 H) λv5 H=> bnd (C 73 [v5,a1] H) λv7 H=> bo (un .not v7) λv8=>
 aI v8
 (some ((I 0),H))
 (bo (ah v2 5) λv9=> bnd (ld v9 H) λv10 H=> bnd (ix 1 v10 a1 H) λv12 H=> bnd (ld v12 H) λv13 H=>
  some (v13,H))
theorem anS:Rn2 38 afG:=λ_ _ _ _ _ h=>
 rnG an0 Tryz.func38 (by kernel_rfl) (by kernel_rfl) h
def anT:Ann:=⟨[],[(1,some false::some false::some true::rF 3 (some true::rF 3 (some true::rF 3 (some true::rF 3 (some true::rF 3 (some true::rF 3 (some true::some false::some false::none::some false::[])))))))],[]⟩
def ai6(C:Callee)(a0:AV)(H:aj):OA:=
 bnd (fA 24 a0 H) λv1 H=> bnd (alc 40 [zI,zI,zI,zI,zI,zI,zI,zN] H) λv2 H=>
 bnd (alc 40 [zI,zI,zI,zI,zI,zI,zI,zN] H) λv3 H=> bo (ah v1 0) λv4=> bnd (ld v4 H) λv5 H=> bnd (unG H (C 23 [v5,(I 4)] H.guard)) λv6 H=> bo (bi .add 3 (I 1) v6) λv7=> bo (ah v1 1) λv8=> bnd (ld v8 H) λv9 H=> bnd (unG H (C 23 [v9,(I 4)] H.guard)) λv10 H=> bo (bi .add 3 (I 1) v10) λv11=> bo (ah v1 2) λv12=> bnd (ld v12 H) λv13 H=> bnd (unG H (C 23 [v13,(I 2)] H.guard)) λv14 H=> bo (bi .add 3 (I 1) v14) λv15=> bo (ah v1 3) λv16=> bnd (ld v16 H) λv17 H=> bnd (unG H (C 23 [v17,(I 2)] H.guard)) λv18 H=> bo (bi .add 3 (I 1) v18) λv19=> bo (ah v1 4) λv20=> bnd (ld v20 H) λv21 H=> bnd (unG H (C 23 [v21,(I 2)] H.guard)) λv22 H=> bo (bi .add 3 (I 1) v22) λv23=> bo (ah v1 5) λv24=> bnd (ld v24 H) λv25 H=> bnd (unG H (C 23 [v25,(I 3)] H.guard)) λv26 H=> bo (bi .add 3 (I 1) v26) λv27=> bo (ah v1 6) λv28=> bnd (ld v28 H) λv29 H=> bnd (unG H (C 23 [v29,(I 3)] H.guard)) λv30 H=> bo (bi .add 3 (I 1) v30) λv31=> bo (bd 40 [(0,v7),(1,v11),(2,v15),(3,v19),(4,v23),(5,v27),(6,v31)]) λv32=> bnd (st 8 v3 v32 H) λ_ H=>
 bo (ah v1 7) λv33=> bnd (ld v33 H) λv34 H=> bo (ah v3 1) λv35=> bnd (ld v35 H) λv36 H=> bo (ah v3 2) λv37=> bnd (ld v37 H) λv38 H=> bo (bi .mul 3 v36 v38) λv39=> bnd (C 76 [v34,v39] H) λv40 H=> bo (ah v3 7) λv41=> bnd (st 1 v41 v40 H) λ_ H=>
 bnd (lda 8 v3 H) λv42 H=> bnd (st 8 v2 v42 H) λ_ H=>
 bnd (lda 8 v2 H) λr0 _=> some (r0,H)
theorem anU:Rn1 42 ai6:=λ_ _ _ _ h=>
 rnG anT Tryz.func42 (by kernel_rfl) (by kernel_rfl) h
def ai7:Ann:=⟨[(5,[1,2,5,6,7])],[(6,none::rF 3 (some true::some true::rF 5 (some true::rF 5 (some true::some false::none::some false::[])))),(9,rF 9 []),(11,rF 11 [])],[]⟩
def wL:=iU Tryz.prog Tryz.f43 84 ai7 0
def I5(C:Callee)(t1 t2 t5 t6 t7:AV)(H:aj):OA:=
 bo (bi .add 3 t7 (I 1)) λv26=>
 wL C [t1,t2,t5,t6,v26] H
def Eh(C:Callee)(t1 t2 t5 t6 t7 t8:AV)(H:aj):OA:=
 bo (ah t2 8) λv59=> bnd (ld v59 H) λv60 H=> bnd (ix 1 v60 t7 H) λv62 H=> bnd (ld v62 H) λv63 H=> bo (ah t5 0) λv64=> bnd (ld v64 H) λv65 H=> bnd (C 23 [v63,v65] H) λv66 H=>
 bnd (ix 1 t6 v66 H) λv69 H=> bnd (ld v69 H) λv70 H=> bnd (lnS v70 H) λv71 H=> bo (bi .lss 3 v71 (I 24)) λv72=>
 aI v72
 (bnd (ix 1 t6 v66 H) λv77 H=> bnd (ld v77 H) λv78 H=> bnd (lda 3 t8 H) λv79 H=> bnd (bs 98 1 [(0,v79)] H) λv80 H=> bnd (app 86 3 24 v78 v80 H) λv81 H=> bnd (ix 1 t6 v66 H) λv82 H=> bnd (st 1 v82 v81 H) λ_ H=>
  I5 C t1 t2 t5 t6 t7 H)
 (I5 C t1 t2 t5 t6 t7 H)
def afH(C:Callee)(a0 a1:AV)(H:aj):OA:=
 bnd (fA 24 a0 H) λv2 H=>
 bnd (lda 12 v2 H) λv10 H=> bnd (C 42 [v10] H) λv11 H=> bnd (alc 40 [zI,zI,zI,zI,zI,zI,zI,zN] H) λv5 H=> bnd (st 8 v5 v11 H) λ_ H=>
 bo (ah v5 0) λv12=> bnd (ld v12 H) λv13 H=> bnd (mks 98 1 24 [zN] v13 v13 H) λv14 H=>
 wL C [a1,v2,v5,v14,(I 0)] H
theorem Xn(C:Callee)(t1 t2 t5 t6 t7:AV)(H:aj):wL C [t1,t2,t5,t6,t7] H=
 bo (ah t2 8) λv16=> bnd (ld v16 H) λv17 H=> bnd (lnS v17 H) λv18 H=> bo (bi .lss 3 t7 v18) λv19=> gdA (some v19) true (aC (some t7) H) H λv21 H=> gdA (some v19) true (aC (some t1) H) H λv22 H=> gdA (some v19) true (aC (bi .lss 3 v21 v22) H) H λv23 H=> bo (aU v19 v23 (B false)) λv24=>
 aI v24
 (bnd (bs 22 7 [(0,(I 1)),(1,(I 2)),(2,(I 3)),(3,(I 1)),(4,(I 2)),(5,(I 1)),(6,(I 4))] H) λv27 H=> bnd (alc 86 [zI,zI,zI] H) λv8 H=> bo (ah t2 9) λv28=> bnd (ld v28 H) λv29 H=> bnd (unG H (C 77 [v29,t7] H.guard)) λv31 H=> bnd (unG H (C 23 [v31,(I 7)] H.guard)) λv32 H=> bnd (ix 1 v27 v32 H) λv33 H=> bnd (ld v33 H) λv34 H=> bo (ah t2 10) λv35=> bnd (ld v35 H) λv36 H=> bnd (unG H (C 77 [v36,t7] H.guard)) λv38 H=> bo (ah t5 1) λv39=> bnd (ld v39 H) λv40 H=> bo (ah t5 2) λv41=> bnd (ld v41 H) λv42 H=> bo (bi .mul 3 v40 v42) λv43=> bnd (unG H (C 23 [v38,v43] H.guard)) λv44 H=> bo (bd 86 [(0,v34),(1,v44)]) λv45=> bnd (st 3 v8 v45 H) λ_ H=>
  bo (ah v8 0) λv46=> bnd (ld v46 H) λv47 H=> bo (bi .eql 3 v47 (I 2)) λv48=> gdA (some v48) false (aC (ah v8 0) H) H λv50 H=> gdA (some v48) false (ld v50 H) H λv51 H=> gdA (some v48) false (aC (bi .eql 3 v51 (I 3)) H) H λv52 H=> bo (aU v48 (B true) v52) λv53=>
  aI v53
  (bo (ah t2 11) λv54=> bnd (ld v54 H) λv55 H=> bnd (C 77 [v55,t7] H) λv57 H=> bo (ah v8 2) λv58=> bnd (st 1 v58 v57 H) λ_ H=>
  Eh C t1 t2 t5 t6 t7 v8 H)
  (Eh C t1 t2 t5 t6 t7 v8 H))
 (some (t6,H)):=
 lpE.trans (by kernel_rfl)
theorem anV:Rn2 43 afH:=λ_ _ _ _ _ h=>
 rnG ai7 Tryz.func43 (by kernel_rfl) (by kernel_rfl) h
def ai8:Ann:=⟨[(6,[1,2,6,7])],[(3,some false::some false::some true::rF 3 []),(7,rF 11 (some true::rF 5 []))],[]⟩
def I7:=iU Tryz.prog Tryz.f44 45 ai8 0
def ai9(C:Callee)(a0 a1:AV)(H:aj):OA:=
 bnd (fA 40 a0 H) λv2 H=>
 bnd (lda 8 v2 H) λv8 H=> bnd (C 78 [v8] H) λv9 H=> bo (un .not v9) λv10=> gdA (some v10) false (lda 8 v2 H) H λv12 H=> gdA (some v10) false (aC (some a1) H) H λv13 H=> gdA (some v10) false (C 79 [v12,v13] H) H λv14 H=> gdA (some v10) false (aC (un .not v14) H) H λv15 H=> bo (aU v10 (B true) v15) λv16=>
 aI v16
 (some (.tup [(.s (Go.Value.pointer none)),(B false)],H))
 (bnd (lda 8 v2 H) λv17 H=> bnd (lda 8 v2 H) λv18 H=> bnd (unG H (C 80 [v18] H.guard)) λv19 H=> bo (bd 159 [(0,v17),(1,v19)]) λv20=> bnd (fA 159 v20 H) λv21 H=>
  I7 C [a1,v2,v21,(I 0)] H)
theorem Xo(C:Callee)(t1 t2 t6 t7:AV)(H:aj):I7 C [t1,t2,t6,t7] H=
 bo (ah t2 0) λv23=> bnd (ld v23 H) λv24 H=> bo (bi .lss 3 t7 v24) λv25=>
 aI v25
 (bo (au t6) λv30=> bo (ah v30 9) λv31=> bnd (ld v31 H) λv32 H=> bnd (lda 8 t2 H) λv33 H=> bnd (ix 1 t1 t7 H) λv37 H=> bnd (ld v37 H) λv38 H=> bnd (unG H (C 81 [v33,t7,v38] H.guard)) λv39 H=> bnd (bs 157 1 [(0,v39)] H) λv40 H=> bnd (app 160 1 8 v32 v40 H) λv41 H=> bo (au t6) λv42=> bo (ah v42 9) λv43=> bnd (st 1 v43 v41 H) λ_ H=>
  bo (bi .add 3 t7 (I 1)) λv27=>
  I7 C [t1,t2,t6,v27] H)
 (some (.tup [t6,(B true)],H)):=
 lpE.trans (by kernel_rfl)
theorem anW:Rn2 44 ai9:=λ_ _ _ _ _ h=>
 rnG ai8 Tryz.func44 (by kernel_rfl) (by kernel_rfl) h
def aja(C:Callee)(a0:AV)(H:aj):OA:=
 bo (au a0) λv4=> bo (ah v4 2) λv5=> bnd (ld v5 H) λv6 H=>
 some (v6,H)
theorem anX:Rn1 45 aja:=λ_ _ _ _ h=>
 rnG an0 Tryz.func45 (by kernel_rfl) (by kernel_rfl) h
def LY(C:Callee)(a0:AV)(H:aj):OA:=
 bo (bi .eql 22 a0 (.s (Go.Value.slice none 0 0))) λv4=>
 aI v4
 (some ((.s (Go.Value.slice none 0 0)),H))
 (bnd (bs 22 0 [] H) λv5 H=> bnd (app 3 1 8 v5 a0 H) λv7 H=>
  some (v7,H))
theorem PE:Rn1 46 LY:=λ_ _ _ _ h=>
 rnG an0 Tryz.func46 (by kernel_rfl) (by kernel_rfl) h
def ajb:Ann:=⟨[(4,[3,9,10,11])],[],[]⟩
def I8:=iU Tryz.prog Tryz.f47 24 ajb 0
def ajc(C:Callee)(a0:AV)(H:aj):OA:=
 bo (au a0) λv7=> bo (ah v7 0) λv8=> bnd (ld v8 H) λv9 H=> bnd (lnS v9 H) λv10 H=>
 I8 C [(.s (Go.Value.slice none 0 0)),v9,v10,(I 0)] H
theorem Xp(C:Callee)(t3 t9 t10 t11:AV)(H:aj):I8 C [t3,t9,t10,t11] H=
 bo (bi .lss 3 t11 t10) λv12=>
 aI v12
 (bnd (ix 4 t9 t11 H) λv13 H=> bnd (lda 4 v13 H) λv14 H=> bnd (alc 121 [zP,zP,zP,zP] H) λv5 H=> bnd (st 4 v5 v14 H) λ_ H=>
  bo (ah v5 0) λv16=> bnd (lda 2 v16 H) λv17 H=> bo (ah v5 2) λv18=> bnd (lda 2 v18 H) λv19 H=> bnd (bs 110 2 [(0,v17),(1,v19)] H) λv20 H=> bnd (app 115 2 16 t3 v20 H) λv21 H=>
  bo (bi .add 3 t11 (I 1)) λv22=>
  I8 C [v21,t9,t10,v22] H)
 (some (t3,H)):=
 lpE.trans (by kernel_rfl)
theorem anY:Rn1 47 ajc:=λ_ _ _ _ h=>
 rnG ajb Tryz.func47 (by kernel_rfl) (by kernel_rfl) h
def ajd(C:Callee)(a0:AV)(H:aj):OA:=
 bo (au a0) λv4=> bo (ah v4 0) λv5=> bnd (ld v5 H) λv6 H=> bnd (lnS v6 H) λv7 H=>
 some (v7,H)
theorem anZ:Rn1 48 ajd:=λ_ _ _ _ h=>
 rnG an0 Tryz.func48 (by kernel_rfl) (by kernel_rfl) h
def aaX(C:Callee)(a0:AV)(H:aj):OA:=
 bo (bi .eql 48 a0 (.s (Go.Value.slice none 0 0))) λv4=>
 aI v4
 (some ((.s (Go.Value.slice none 0 0)),H))
 (bnd (bs 48 0 [] H) λv5 H=> bnd (app 51 4 32 v5 a0 H) λv7 H=>
  some (v7,H))
theorem afI:Rn1 49 aaX:=λ_ _ _ _ h=>
 rnG an0 Tryz.func49 (by kernel_rfl) (by kernel_rfl) h
def afJ(C:Callee)(a0 a1:AV)(H:aj):OA:=
 bo (bi .geq 3 a1 (I 0)) λv6=> gdA (some v6) true (aC (some a1) H) H λv8 H=> gdA (some v6) true (aC (some a0) H) H λv9 H=> gdA (some v6) true (aC (au v9) H) H λv10 H=> gdA (some v6) true (aC (ah v10 0) H) H λv11 H=> gdA (some v6) true (ld v11 H) H λv12 H=> gdA (some v6) true (lnS v12 H) H λv13 H=> gdA (some v6) true (aC (bi .lss 3 v8 v13) H) H λv14 H=> bo (aU v6 v14 (B false)) λv15=>
 some (v15,H)
theorem an1:Rn2 50 afJ:=λ_ _ _ _ _ h=>
 rnG an0 Tryz.func50 (by kernel_rfl) (by kernel_rfl) h
def aje(C:Callee)(a0:AV)(H:aj):OA:=
 bo (au a0) λv4=> bo (ah v4 0) λv5=> bnd (ld v5 H) λv6 H=> bnd (lnS v6 H) λv7 H=>
 some (v7,H)
theorem an2:Rn1 51 aje:=λ_ _ _ _ h=>
 rnG an0 Tryz.func51 (by kernel_rfl) (by kernel_rfl) h
def ajf:Ann:=⟨[(3,[1,4,10,11,12])],[],[]⟩
def I9:=iU Tryz.prog Tryz.f52 34 ajf 0
def Uu(C:Callee)(a0 a1:AV)(H:aj):OA:=
 bnd (alc 115 [zP,zP] H) λv4 H=>
 bnd (C 47 [a0] H) λv10 H=> bnd (lnS v10 H) λv11 H=>
 I9 C [a1,v4,v10,v11,(I 0)] H
theorem Xq(C:Callee)(t1 t4 t10 t11 t12:AV)(H:aj):I9 C [t1,t4,t10,t11,t12] H=
 bo (bi .lss 3 t12 t11) λv13=>
 aI v13
 (bnd (ix 2 t10 t12 H) λv14 H=> bnd (lda 2 v14 H) λv15 H=> bnd (alc 115 [zP,zP] H) λv8 H=> bnd (st 2 v8 v15 H) λ_ H=>
  bo (bi .geq 3 t1 (I 0)) λv17=> gdA (some v17) true (aC (some t1) H) H λv19 H=> gdA (some v17) true (aC (ah v8 0) H) H λv20 H=> gdA (some v17) true (ld v20 H) H λv21 H=> gdA (some v17) true (C 48 [v21] H) H λv22 H=> gdA (some v17) true (aC (bi .lss 3 v19 v22) H) H λv23 H=> bo (aU v17 v23 (B false)) λv24=>
  aI v24
  (bnd (lda 2 v8 H) λv25 H=> bnd (st 2 t4 v25 H) λ_ H=>
  bnd (lda 2 t4 H) λr0 _=> some (.tup [r0,t1,(B true)],H))
  (bo (ah v8 0) λv28=> bnd (ld v28 H) λv29 H=> bnd (C 48 [v29] H) λv30 H=> bo (bi .sub 3 t1 v30) λv31=>
  bo (bi .add 3 t12 (I 1)) λv32=>
  I9 C [v31,t4,t10,t11,v32] H))
 (bo (bd 115 []) λv33=> bnd (st 2 t4 v33 H) λ_ H=>
  bnd (lda 2 t4 H) λr0 _=> some (.tup [r0,(I 0),(B false)],H)):=
 lpE.trans (by kernel_rfl)
theorem an3:Rn2 52 Uu:=λ_ _ _ _ _ h=>
 rnG ajf Tryz.func52 (by kernel_rfl) (by kernel_rfl) h
def aaY(C:Callee)(a0 a1:AV)(H:aj):OA:=
 bnd (alc 70 [zI,zI,zI,zI,zI,zI,zI,zB,zN] H) λv4 H=>
 bo (bi .lss 3 a1 (I 0)) λv7=> gdA (some v7) false (aC (some a1) H) H λv9 H=> gdA (some v7) false (aC (some a0) H) H λv10 H=> gdA (some v7) false (aC (au v10) H) H λv11 H=> gdA (some v7) false (aC (ah v11 0) H) H λv12 H=> gdA (some v7) false (ld v12 H) H λv13 H=> gdA (some v7) false (lnS v13 H) H λv14 H=> gdA (some v7) false (aC (bi .geq 3 v9 v14) H) H λv15 H=> bo (aU v7 (B true) v15) λv16=>
 aI v16
 (bo (bd 70 []) λv17=> bnd (st 9 v4 v17 H) λ_ H=>
  bnd (lda 9 v4 H) λr0 _=> some (.tup [r0,(B false)],H))
 (bo (au a0) λv19=> bo (ah v19 0) λv20=> bnd (ld v20 H) λv21 H=> bnd (ix 9 v21 a1 H) λv23 H=> bnd (lda 9 v23 H) λv24 H=> bnd (C 82 [v24] H) λv25 H=> bnd (st 9 v4 v25 H) λ_ H=>
  bnd (lda 9 v4 H) λr0 _=> some (.tup [r0,(B true)],H))
theorem an4:Rn2 53 aaY:=λ_ _ _ _ _ h=>
 rnG an0 Tryz.func53 (by kernel_rfl) (by kernel_rfl) h
def aaZ(C:Callee)(a0:AV)(H:aj):OA:=
 bnd (fA 40 a0 H) λv1 H=>
 bo (ah v1 0) λv6=> bnd (ld v6 H) λv7 H=> bnd (C 83 [v7,(I 6)] H) λv8 H=> gdA (some v8) true (aC (ah v1 1) H) H λv10 H=> gdA (some v8) true (ld v10 H) H λv11 H=> gdA (some v8) true (C 83 [v11,(I 8)] H) H λv12 H=> bo (aU v8 v12 (B false)) λv13=> gdA (some v13) true (aC (ah v1 2) H) H λv15 H=> gdA (some v13) true (ld v15 H) H λv16 H=> gdA (some v13) true (C 83 [v16,(I 4)] H) H λv17 H=> bo (aU v13 v17 (B false)) λv18=>
 bo (ah v1 3) λv19=> bnd (ld v19 H) λv20 H=> bnd (C 83 [v20,(I 4)] H) λv21 H=> gdA (some v21) true (aC (ah v1 4) H) H λv23 H=> gdA (some v21) true (ld v23 H) H λv24 H=> gdA (some v21) true (C 83 [v24,(I 3)] H) H λv25 H=> bo (aU v21 v25 (B false)) λv26=>
 bo (ah v1 5) λv27=> bnd (ld v27 H) λv28 H=> bnd (C 83 [v28,(I 8)] H) λv29 H=> gdA (some v29) true (aC (ah v1 6) H) H λv31 H=> gdA (some v29) true (ld v31 H) H λv32 H=> gdA (some v29) true (C 83 [v32,(I 8)] H) H λv33 H=> bo (aU v29 v33 (B false)) λv34=>
 bo (un .not v18) λv36=> gdA (some v36) false (aC (some v26) H) H λv38 H=> gdA (some v36) false (aC (un .not v38) H) H λv39 H=> bo (aU v36 (B true) v39) λv40=> gdA (some v40) false (aC (some v34) H) H λv42 H=> gdA (some v40) false (aC (un .not v42) H) H λv43 H=> bo (aU v40 (B true) v43) λv44=> gdA (some v44) false (aC (ah v1 7) H) H λv46 H=> gdA (some v44) false (ld v46 H) H λv47 H=> gdA (some v44) false (lnS v47 H) H λv48 H=> gdA (some v44) false (aC (ah v1 1) H) H λv49 H=> gdA (some v44) false (ld v49 H) H λv50 H=> gdA (some v44) false (aC (ah v1 2) H) H λv51 H=> gdA (some v44) false (ld v51 H) H λv52 H=> gdA (some v44) false (aC (bi .mul 3 v50 v52) H) H λv53 H=> gdA (some v44) false (aC (bi .gtr 3 v48 v53) H) H λv54 H=> bo (aU v44 (B true) v54) λv55=>
 aI v55
 (some ((I 1),H))
 (some ((I 0),H))
theorem ajg:Rn1 54 aaZ:=λ_ _ _ _ h=>
 rnG an0 Tryz.func54 (by kernel_rfl) (by kernel_rfl) h
def aa0(C:Callee)(a0 a1:AV)(H:aj):OA:=
 bnd (fA 40 a0 H) λv2 H=>
 bnd (C 84 [a1,(.fn (.func 85) [] [v2])] H) λv8 H=>
 gdA (some v8) false (aC (some a1) H) H λv11 H=> gdA (some v8) false (lnS v11 H) H λv12 H=> gdA (some v8) false (aC (ah v2 0) H) H λv13 H=> gdA (some v8) false (ld v13 H) H λv14 H=> gdA (some v8) false (aC (bi .neq 3 v12 v14) H) H λv15 H=> bo (aU v8 (B true) v15) λv16=>
 aI v16
 (some ((I 1),H))
 (some ((I 0),H))
theorem an5:Rn2 55 aa0:=λ_ _ _ _ _ h=>
 rnG an0 Tryz.func55 (by kernel_rfl) (by kernel_rfl) h
def ajh(C:Callee)(a0:AV)(H:aj):OA:=
 bnd (lnS a0 H) λv4 H=>
 bnd (cv 3 176 v4 H) λv8 H=> bnd (C 90 [v8] H) λv9 H=> bnd (C 89 [a0,(I 0),v4,v9] H) λv10 H=>
 some (.tup [],H)
theorem an6:Rn1 56 ajh:=λ_ _ _ _ h=>
 rnG an0 Tryz.func56 (by kernel_rfl) (by kernel_rfl) h
def aji(C:Callee)(a0:AV)(H:aj):OA:=
 bnd (aC (jl Tryz.prog true #[3,3] 3 [(I 0),a0]) H) λv4 H=> bo (bd 164 [(1,v4)]) λv5=> bnd (fA 164 v5 H) λv6 H=>
 some (v6,H)
theorem an7:Rn1 57 aji:=λ_ _ _ _ h=>
 rnG an0 Tryz.func57 (by kernel_rfl) (by kernel_rfl) h
def ajj(C:Callee)(a0:AV)(H:aj):OA:=
 bnd (aC (jl Tryz.prog true #[3,3] 3 [(I 0),a0]) H) λv4 H=> bo (bd 166 [(1,v4)]) λv5=> bnd (fA 166 v5 H) λv6 H=>
 some (v6,H)
theorem an8:Rn1 58 ajj:=λ_ _ _ _ h=>
 rnG an0 Tryz.func58 (by kernel_rfl) (by kernel_rfl) h
def ajk(C:Callee)(a0 a1:AV)(H:aj):OA:=
 bnd (aC (jl Tryz.prog true #[3,3] 3 [(I 1),a0]) H) λv6 H=> bnd (aC (jl Tryz.prog true #[3,3] 3 [(I 1),a1]) H) λv8 H=> bo (bd 133 [(1,v6),(2,v8)]) λv9=> bnd (fA 133 v9 H) λv10 H=>
 some (v10,H)
theorem an9:Rn2 59 ajk:=λ_ _ _ _ _ h=>
 rnG an0 Tryz.func59 (by kernel_rfl) (by kernel_rfl) h
def ajl(C:Callee)(a0:AV)(H:aj):OA:=
 bnd (C 91 [a0] H) λv4 H=> bo (bd 126 [(0,v4)]) λv5=> bnd (fA 126 v5 H) λv6 H=>
 some (v6,H)
theorem aoa:Rn1 60 ajl:=λ_ _ _ _ h=>
 rnG an0 Tryz.func60 (by kernel_rfl) (by kernel_rfl) h
def aob:Ann:=⟨[],[(1,some false::some false::some true::some true::rF 5 [])],[]⟩
def ajm(C:Callee)(a0 a1:AV)(H:aj):OA:=
 bnd (fA 40 a0 H) λv2 H=>
 bnd (lda 8 v2 H) λv5 H=> bnd (unG H (C 92 [v5,a1] H.guard)) λv7 H=> bnd (unG H (C 93 [] H.guard)) λv8 H=> bnd (lda 8 v2 H) λv9 H=> bo (bd 150 [(0,v7),(1,v8),(2,v9),(3,a1)]) λv11=> bnd (fA 150 v11 H) λv12 H=>
 some (v12,H)
theorem aoc:Rn2 61 ajm:=λ_ _ _ _ _ h=>
 rnG aob Tryz.func61 (by kernel_rfl) (by kernel_rfl) h
def afK(C:Callee)(a0 a1 a2:AV)(H:aj):OA:=
 bnd (fA 70 a0 H) λv3 H=> bnd (alc 70 [zI,zI,zI,zI,zI,zI,zI,zB,zN] H) λv6 H=>
 bnd (lda 9 v3 H) λv11 H=> bnd (C 94 [v11] H) λv12 H=> bo (aF v12 0) λv13=> bo (aF v12 1) λv14=>
 bo (bi .neq 76 v14 (I 0)) λv16=>
 aI v16
 (bo (bd 70 []) λv17=> bnd (st 9 v6 v17 H) λ_ H=>
  bnd (lda 9 v6 H) λr0 _=> some (.tup [r0,(I 2)],H))
 (bnd (C 96 [v13,a1,a2] H) λv21 H=> bnd (C 95 [v21] H) λv22 H=> bo (aF v22 0) λv23=> bo (aF v22 1) λv24=> bnd (st 9 v6 v23 H) λ_ H=>
  bnd (lda 9 v6 H) λr0 _=> some (.tup [r0,v24],H))
theorem ajn:Rn3 62 afK:=λ_ _ _ _ _ _ h=>
 rnG an0 Tryz.func62 (by kernel_rfl) (by kernel_rfl) h
def afL(C:Callee)(a0 a1:AV)(H:aj):OA:=
 bnd (fA 121 a0 H) λv2 H=> bnd (alc 115 [zP,zP] H) λv4 H=>
 aI a1
 (bo (ah v2 0) λv6=> bnd (lda 2 v6 H) λv7 H=> bnd (st 2 v4 v7 H) λ_ H=>
  bnd (lda 2 v4 H) λr0 _=> some (r0,H))
 (bo (ah v2 2) λv8=> bnd (lda 2 v8 H) λv9 H=> bnd (st 2 v4 v9 H) λ_ H=>
  bnd (lda 2 v4 H) λr0 _=> some (r0,H))
theorem aod:Rn2 63 afL:=λ_ _ _ _ _ h=>
 rnG an0 Tryz.func63 (by kernel_rfl) (by kernel_rfl) h
def afM(C:Callee)(a0:AV)(H:aj):OA:=
 bo (bi .geq 3 a0 (I 1)) λv4=> gdA (some v4) true (aC (some a0) H) H λv6 H=> gdA (some v4) true (aC (bi .leq 3 v6 (I 6)) H) H λv7 H=> bo (aU v4 v7 (B false)) λv8=>
 some (v8,H)
theorem aoe:Rn1 64 afM:=λ_ _ _ _ h=>
 rnG an0 Tryz.func64 (by kernel_rfl) (by kernel_rfl) h
def aof:Ann:=⟨[],[(3,rF 6 (some true::rF 5 []))],[]⟩
def afN(C:Callee)(a0 a1:AV)(H:aj):OA:=
 bnd (fA 70 a1 H) λv3 H=>
 bnd (C 97 [a0] H) λv6 H=> bo (bi .eql 3 v6 (I 0)) λv7=>
 aI v7
 (some ((I 5),H))
 (bo (au a0) λv10=> bo (ah v10 0) λv11=> bnd (ld v11 H) λv12 H=> bnd (lda 9 v3 H) λv13 H=> bnd (unG H (C 98 [v13] H.guard)) λv14 H=> bnd (bs 162 1 [(0,v14)] H) λv15 H=> bnd (app 70 9 88 v12 v15 H) λv16 H=> bo (au a0) λv17=> bo (ah v17 0) λv18=> bnd (st 1 v18 v16 H) λ_ H=>
  some ((I 0),H))
theorem ajo:Rn2 65 afN:=λ_ _ _ _ _ h=>
 rnG aof Tryz.func65 (by kernel_rfl) (by kernel_rfl) h
def PG(C:Callee)(t4 t6 t7:AV)(H:aj):OA:=
 bnd (lda 9 t6 H) λv26 H=> bnd (st 9 t4 v26 H) λ_ H=>
 bnd (lda 9 t4 H) λr0 _=> some (.tup [r0,t7],H)
def ajp(C:Callee)(a0 a1:AV)(H:aj):OA:=
 bnd (alc 70 [zI,zI,zI,zI,zI,zI,zI,zB,zN] H) λv4 H=>
 bnd (C 53 [a0,a1] H) λv11 H=> bo (aF v11 0) λv12=> bo (aF v11 1) λv13=> bnd (alc 70 [zI,zI,zI,zI,zI,zI,zI,zB,zN] H) λv6 H=> bnd (st 9 v6 v12 H) λ_ H=>
 aI v13
 (bo (au a0) λv17=> bo (ah v17 0) λv18=> bnd (ld v18 H) λv19 H=> bo (bi .add 3 a1 (I 1)) λv22=> bnd (C 99 [v19,a1,v22] H) λv23 H=> bo (au a0) λv24=> bo (ah v24 0) λv25=> bnd (st 1 v25 v23 H) λ_ H=>
  PG C v4 v6 v13 H)
 (PG C v4 v6 v13 H)
theorem aog:Rn2 66 ajp:=λ_ _ _ _ _ h=>
 rnG an0 Tryz.func66 (by kernel_rfl) (by kernel_rfl) h
def Ei(C:Callee)(t0 t1:AV)(H:aj):OA:=
 bnd (C 105 [t0,t1] H) λv81 H=>
 some ((B true),H)
def Ja(C:Callee)(a0 a1 a2:AV)(H:aj):OA:=
 bo (au a0) λv17=> bo (ah v17 10) λv18=> bnd (ld v18 H) λv19 H=> bnd (C 100 [a1,v19] H) λv20 H=> bo (aF v20 0) λv21=> bo (aF v20 1) λv22=> bnd (alc 70 [zI,zI,zI,zI,zI,zI,zI,zB,zN] H) λv7 H=> bnd (st 9 v7 v21 H) λ_ H=>
 bo (un .not v22) λv24=>
 aI v24
 (some ((B false),H))
 (bnd (lda 9 v7 H) λv27 H=> bnd (C 101 [a0,v27] H) λv28 H=> bo (aF v28 0) λv29=> bo (aF v28 1) λv30=> bnd (alc 57 [zI,zI,zI,zI,zI,zI,zN,zI,zI] H) λv9 H=> bnd (st 9 v9 v29 H) λ_ H=>
  bo (un .not v30) λv32=>
  aI v32
  (some ((B true),H))
  (bnd (lda 9 v9 H) λv34 H=> bo (au a0) λv35=> bo (ah v35 12) λv36=> bnd (st 9 v36 v34 H) λ_ H=>
  bo (au a0) λv39=> bo (ah v39 1) λv40=> bnd (ld v40 H) λv41 H=> bnd (C 102 [v41] H) λv42 H=> bo (aF v42 0) λv43=> bo (aF v42 1) λv44=> bo (aF v42 2) λv45=> bnd (alc 86 [zI,zI,zI] H) λv11 H=> bnd (st 3 v11 v43 H) λ_ H=>
  bo (ah v9 3) λv47=> bnd (ld v47 H) λv48 H=> bo (bi .eql 3 v48 (I 0)) λv49=> gdA (some v49) true (aC (ah v9 0) H) H λv51 H=> gdA (some v49) true (ld v51 H) H λv52 H=> gdA (some v49) true (aC (bi .eql 3 v52 (I 3)) H) H λv53 H=> bo (aU v49 v53 (B false)) λv54=> gdA (some v54) true (aC (ah v11 0) H) H λv56 H=> gdA (some v54) true (ld v56 H) H λv57 H=> gdA (some v54) true (aC (bi .eql 3 v57 (I 4)) H) H λv58 H=> bo (aU v54 v58 (B false)) λv59=>
  aI v59
  (bnd (C 103 [a0,a2,(I 0)] H) λv62 H=>
   some ((B true),H))
  (bo (ah v9 3) λv64=> bnd (ld v64 H) λv65 H=> bo (bi .eql 3 v65 (I 0)) λv66=>
   aI v66
   (some ((B true),H))
   (bo (ah v9 3) λv68=> bnd (ld v68 H) λv69 H=> bo (bi .eql 3 v69 (I 6)) λv70=> gdA (some v70) true (aC (ah v9 0) H) H λv72 H=> gdA (some v70) true (ld v72 H) H λv73 H=> gdA (some v70) true (aC (bi .neq 3 v73 (I 3)) H) H λv74 H=> bo (aU v70 v74 (B false)) λv75=>
   aI v75
   (bnd (C 104 [a0,a2] H) λv78 H=>
    Ei C a0 a1 H)
   (Ei C a0 a1 H)))))
theorem Uw:Rn3 67 Ja:=λ_ _ _ _ _ _ h=>
 rnG an0 Tryz.func67 (by kernel_rfl) (by kernel_rfl) h
def aa1(C:Callee)(a0 a1:AV)(H:aj):OA:=
 bo (au a0) λv8=> bo (ah v8 11) λv9=> bo (ah v9 0) λv10=> bnd (ld v10 H) λv11 H=> bnd (C 106 [v11] H) λv12 H=> bo (un .not v12) λv13=> gdA (some v13) false (aC (some a1) H) H λv15 H=> gdA (some v13) false (aC (some a0) H) H λv16 H=> gdA (some v13) false (aC (au v16) H) H λv17 H=> gdA (some v13) false (aC (ah v17 10) H) H λv18 H=> gdA (some v13) false (ld v18 H) H λv19 H=> gdA (some v13) false (C 107 [v15,v19,(B false)] H) H λv20 H=> gdA (some v13) false (aC (bi .eql 3 v20 (I 0)) H) H λv21 H=> bo (aU v13 (B true) v21) λv22=>
 aI v22
 (some ((B false),H))
 (bo (au a0) λv25=> bo (ah v25 11) λv26=> bo (ah v26 0) λv27=> bnd (ld v27 H) λv28 H=> bnd (C 108 [v28] H) λv29 H=> bo (aF v29 0) λv30=> bo (aF v29 1) λv31=> bnd (alc 70 [zI,zI,zI,zI,zI,zI,zI,zB,zN] H) λv5 H=> bnd (st 9 v5 v30 H) λ_ H=>
  bnd (lda 9 v5 H) λv33 H=> bnd (C 109 [a1,v33] H) λv34 H=>
  some ((B true),H))
theorem afO:Rn2 68 aa1:=λ_ _ _ _ _ h=>
 rnG an0 Tryz.func68 (by kernel_rfl) (by kernel_rfl) h
def Jb(C:Callee)(H:aj):OA:=
 some ((B true),H)
def Xr(C:Callee)(a0 a1:AV)(H:aj):OA:=
 bo (au a0) λv11=> bo (ah v11 10) λv12=> bnd (ld v12 H) λv13 H=> bnd (C 107 [a1,v13,(B false)] H) λv14 H=> bo (bi .eql 3 v14 (I 0)) λv15=>
 aI v15
 (some ((B false),H))
 (bo (au a0) λv19=> bo (ah v19 10) λv20=> bnd (ld v20 H) λv21 H=> bnd (C 110 [a1,v21] H) λv22 H=> bo (aF v22 0) λv23=> bo (aF v22 1) λv24=> bnd (alc 70 [zI,zI,zI,zI,zI,zI,zI,zB,zN] H) λv5 H=> bnd (st 9 v5 v23 H) λ_ H=>
  bo (un .not v24) λv26=>
  aI v26
  (some ((B false),H))
  (bnd (lda 9 v5 H) λv29 H=> bnd (C 111 [a0,v29] H) λv30 H=> bo (aF v30 0) λv31=> bo (aF v30 1) λv32=> bnd (alc 70 [zI,zI,zI,zI,zI,zI,zI,zB,zN] H) λv7 H=> bnd (st 9 v7 v31 H) λ_ H=>
  aI v32
  (bnd (lda 9 v7 H) λv35 H=> bnd (C 109 [a1,v35] H) λv36 H=>
   Jb C H)
  (Jb C H)))
theorem aa2:Rn2 69 Xr:=λ_ _ _ _ _ h=>
 rnG an0 Tryz.func69 (by kernel_rfl) (by kernel_rfl) h
def aoh:Ann:=⟨[],[(7,rF 12 [])],[]⟩
def kE(C:Callee)(H:aj):OA:=
 some ((B true),H)
def mQ(C:Callee)(t0 t1 t2 t7:AV)(H:aj):OA:=
 bo (au t0) λv55=> bo (ah v55 2) λv56=> bnd (lda 8 v56 H) λv57 H=> bo (ah t7 1) λv58=> bnd (ld v58 H) λv59 H=> bnd (C 114 [v57,v59] H) λv60 H=> bo (aF v60 0) λv61=> bo (aF v60 1) λv62=>
 bo (au t0) λv65=> bo (ah v65 0) λv66=> bnd (ld v66 H) λv67 H=> bnd (C 37 [v67,v61] H) λv69 H=> bo (aF v69 0) λv70=> bo (aF v69 1) λv71=> bnd (alc 93 [zI,zI,zI,zI,zB,zN] H) λv12 H=> bnd (st 6 v12 v70 H) λ_ H=>
 bo (ah t7 0) λv77=> bnd (ld v77 H) λv78 H=> bo (bi .eql 3 v78 (I 4)) λv79=> gdA (some v79) true (aC (some v71) H) H λv81 H=> gdA (some v79) true (aC (un .not v81) H) H λv82 H=> bo (aU v79 v82 (B false)) λv83=>
 aI v83
 (bnd (C 103 [t0,t2,(I 0)] H) λv86 H=>
  kE C H)
 (bo (ah t7 0) λv88=> bnd (ld v88 H) λv89 H=> bo (bi .eql 3 v89 (I 4)) λv90=>
  aI v90
  (bnd (C 115 [t0,t1,(I 3),v61] H) λv94 H=>
  kE C H)
  (gdA (some v71) true (aC (ah t7 0) H) H λv98 H=> gdA (some v71) true (ld v98 H) H λv99 H=> gdA (some v71) true (aC (bi .eql 3 v99 (I 1)) H) H λVj H=> gdA (some v71) true (aC (some Vj) H) H λZN H=> gdA (some ZN) false (aC (ah v12 4) H) H λaiD H=> gdA (some ZN) false (ld aiD H) H λaiE H=> gdA (some v71) true (aC (aU ZN (B true) aiE) H) H λaiF H=> bo (aU v71 aiF (B false)) λv105=>
  aI v105
  (bo (au t0) λv107=> bo (ah v107 0) λadr=> bnd (ld adr H) λv109 H=> bnd (C 116 [v109,v61] H) λapw H=>
   bnd (C 104 [t0,t2] H) λamH H=>
   kE C H)
  (bo (au t0) λv117=> bo (ah v117 0) λap1=> bnd (ld ap1 H) λaiG H=> bnd (C 117 [aiG,v61] H) λamI H=>
   aI amI
   (bo (au t0) λv124=> bo (ah v124 0) λano=> bnd (ld ano H) λaiH H=> bnd (C 118 [aiH,v61] H) λamJ H=> bo (aF amJ 0) λaiI=> bo (aF amJ 1) λv130=>
   bnd (C 115 [t0,t1,(I 3),aiI] H) λapu H=>
   kE C H)
   (bo (ah t7 0) λanp=> bnd (ld anp H) λPz H=> bo (bi .eql 3 Pz (I 1)) λv138=>
   aI v138
   (bnd (C 115 [t0,t1,(I 1),v61] H) λapv H=>
    kE C H)
   (bnd (C 115 [t0,t1,(I 2),v61] H) λv75 H=>
    kE C H)))))
def Xt(C:Callee)(a0 a1 a2:AV)(H:aj):OA:=
 bo (au a0) λv18=> bo (ah v18 1) λv19=> bnd (ld v19 H) λv20 H=> bnd (C 102 [v20] H) λv21 H=> bo (aF v21 0) λv22=> bo (aF v21 1) λv23=> bo (aF v21 2) λv24=> bnd (alc 86 [zI,zI,zI] H) λv7 H=> bnd (st 3 v7 v22 H) λ_ H=>
 bo (un .not v24) λv26=> gdA (some v26) false (aC (some a0) H) H λv28 H=> gdA (some v26) false (aC (au v28) H) H λv29 H=> gdA (some v26) false (aC (ah v29 12) H) H λv30 H=> gdA (some v26) false (aC (ah v30 3) H) H λv31 H=> gdA (some v26) false (ld v31 H) H λv32 H=> gdA (some v26) false (aC (bi .neq 3 v32 (I 0)) H) H λv33 H=> bo (aU v26 (B true) v33) λv34=>
 aI v34
 (some ((B false),H))
 (bo (au a0) λv36=> bo (ah v36 1) λv37=> bnd (ld v37 H) λv38 H=> bnd (C 45 [v38] H) λv39 H=> bo (un .not v39) λv40=>
  aI v40
  (bo (au a0) λv42=> bo (ah v42 1) λv43=> bnd (ld v43 H) λv44 H=> bnd (C 112 [v44] H) λv45 H=>
  bo (au a0) λv48=> bo (ah v48 10) λv49=> bnd (ld v49 H) λv50 H=> bnd (C 113 [a2,v50,v23] H) λv52 H=>
  mQ C a0 a1 a2 v7 H)
  (mQ C a0 a1 a2 v7 H))
theorem aa3:Rn3 70 Xt:=λ_ _ _ _ _ _ h=>
 rnG aoh Tryz.func70 (by kernel_rfl) (by kernel_rfl) h
def ajq(C:Callee)(a0 a1:AV)(H:aj):OA:=
 bnd (fA 3 a1 H) λv3 H=>
 bo (au a0) λv6=> bo (ah v6 0) λv7=> bnd (ld v7 H) λv8 H=> bnd (C 119 [v8,(.fn (.func 120) [] [v3])] H) λv10 H=>
 some (v10,H)
theorem aoi:Rn2 71 ajq:=λ_ _ _ _ _ h=>
 rnG an0 Tryz.func71 (by kernel_rfl) (by kernel_rfl) h
def ajr(C:Callee)(a0:AV)(H:aj):OA:=
 bnd (fA 93 a0 H) λv1 H=> bnd (alc 93 [zI,zI,zI,zI,zB,zN] H) λv2 H=>
 bo (ah v1 5) λv3=> bnd (ld v3 H) λv4 H=> bnd (C 46 [v4] H) λv5 H=> bo (ah v1 5) λv6=> bnd (st 1 v6 v5 H) λ_ H=>
 bnd (lda 6 v1 H) λv7 H=> bnd (st 6 v2 v7 H) λ_ H=>
 bnd (lda 6 v2 H) λr0 _=> some (r0,H)
theorem aoj:Rn1 72 ajr:=λ_ _ _ _ h=>
 rnG an0 Tryz.func72 (by kernel_rfl) (by kernel_rfl) h
def Xu(C:Callee)(a0 a1:AV)(H:aj):OA:=
 bnd (fA 93 a0 H) λv2 H=>
 bo (bi .geq 3 a1 (I 0)) λv6=> gdA (some v6) true (aC (some a1) H) H λv8 H=> gdA (some v6) true (aC (ah v2 5) H) H λv9 H=> gdA (some v6) true (ld v9 H) H λv10 H=> gdA (some v6) true (lnS v10 H) H λv11 H=> gdA (some v6) true (aC (bi .lss 3 v8 v11) H) H λv12 H=> bo (aU v6 v12 (B false)) λv13=>
 some (v13,H)
theorem ajs:Rn2 73 Xu:=λ_ _ _ _ _ h=>
 rnG an0 Tryz.func73 (by kernel_rfl) (by kernel_rfl) h
def afP(C:Callee)(a0 a1:AV)(H:aj):OA:=
 bnd (alc 100 [zI,zI,zN] H) λv4 H=>
 bo (au a0) λv10=> bo (ah v10 8) λv11=> bnd (ld v11 H) λv12 H=> bnd (lk .i64 (.agg #[.int .i64 0,.int .i64 0,.slice none 0 0]) v12 a1 true H) λv14 H=> bo (aF v14 0) λv15=> bo (aF v14 1) λv16=> bnd (alc 100 [zI,zI,zN] H) λv6 H=> bnd (st 3 v6 v15 H) λ_ H=>
 bo (ah v6 2) λv17=> bnd (ld v17 H) λv18 H=> bnd (C 46 [v18] H) λv19 H=> bo (ah v6 2) λv20=> bnd (st 1 v20 v19 H) λ_ H=>
 bnd (lda 3 v6 H) λv21 H=> bnd (st 3 v4 v21 H) λ_ H=>
 bnd (lda 3 v4 H) λr0 _=> some (.tup [r0,v16],H)
theorem aok:Rn2 74 afP:=λ_ _ _ _ _ h=>
 rnG an0 Tryz.func74 (by kernel_rfl) (by kernel_rfl) h
def afQ(C:Callee)(a0 a1:AV)(H:aj):OA:=
 bo (au a0) λv9=> bo (ah v9 0) λv10=> bnd (ld v10 H) λv11 H=> bnd (lk .i64 (.int .i64 0) v11 a1 true H) λv13 H=> bo (aF v13 0) λv14=> bo (aF v13 1) λv15=>
 aI v15
 (some (v14,H))
 (some ((I (-1)),H))
theorem aol:Rn2 75 afQ:=λ_ _ _ _ _ h=>
 rnG an0 Tryz.func75 (by kernel_rfl) (by kernel_rfl) h
def ajt(C:Callee)(a0 a1:AV)(H:aj):OA:=
 bnd (lnS a0 H) λv7 H=> bnd (aC (jl Tryz.prog false #[3,3] 3 [v7,a1]) H) λv9 H=> bo (slS 1 a0 none (some v9) none) λv10=> bnd (C 121 [v10] H) λv11 H=>
 some (v11,H)
theorem aom:Rn2 76 ajt:=λ_ _ _ _ _ h=>
 rnG an0 Tryz.func76 (by kernel_rfl) (by kernel_rfl) h
def afR(C:Callee)(a0 a1:AV)(H:aj):OA:=
 bnd (lnS a0 H) λv7 H=> bo (bi .lss 3 a1 v7) λv8=>
 aI v8
 (bnd (ix 1 a0 a1 H) λv11 H=> bnd (ld v11 H) λv12 H=>
  some (v12,H))
 (some ((I 0),H))
theorem aon:Rn2 77 afR:=λ_ _ _ _ _ h=>
 rnG an0 Tryz.func77 (by kernel_rfl) (by kernel_rfl) h
def Jc(C:Callee)(a0:AV)(H:aj):OA:=
 bnd (fA 40 a0 H) λv1 H=>
 bo (ah v1 0) λv3=> bnd (ld v3 H) λv4 H=> bnd (C 122 [v4,(I 6)] H) λv5 H=> gdA (some v5) true (aC (ah v1 1) H) H λv7 H=> gdA (some v5) true (ld v7 H) H λv8 H=> gdA (some v5) true (C 122 [v8,(I 8)] H) H λv9 H=> bo (aU v5 v9 (B false)) λv10=> gdA (some v10) true (aC (ah v1 2) H) H λv12 H=> gdA (some v10) true (ld v12 H) H λv13 H=> gdA (some v10) true (C 122 [v13,(I 4)] H) H λv14 H=> bo (aU v10 v14 (B false)) λv15=> gdA (some v15) true (aC (ah v1 3) H) H λv17 H=> gdA (some v15) true (ld v17 H) H λv18 H=> gdA (some v15) true (C 122 [v18,(I 4)] H) H λv19 H=> bo (aU v15 v19 (B false)) λv20=> gdA (some v20) true (aC (ah v1 4) H) H λv22 H=> gdA (some v20) true (ld v22 H) H λv23 H=> gdA (some v20) true (C 122 [v23,(I 3)] H) H λv24 H=> bo (aU v20 v24 (B false)) λv25=> gdA (some v25) true (aC (ah v1 5) H) H λv27 H=> gdA (some v25) true (ld v27 H) H λv28 H=> gdA (some v25) true (C 122 [v28,(I 8)] H) H λv29 H=> bo (aU v25 v29 (B false)) λv30=> gdA (some v30) true (aC (ah v1 6) H) H λv32 H=> gdA (some v30) true (ld v32 H) H λv33 H=> gdA (some v30) true (C 122 [v33,(I 8)] H) H λv34 H=> bo (aU v30 v34 (B false)) λv35=> gdA (some v35) true (aC (ah v1 7) H) H λv37 H=> gdA (some v35) true (ld v37 H) H λv38 H=> gdA (some v35) true (lnS v38 H) H λv39 H=> gdA (some v35) true (aC (ah v1 1) H) H λv40 H=> gdA (some v35) true (ld v40 H) H λv41 H=> gdA (some v35) true (aC (ah v1 2) H) H λv42 H=> gdA (some v35) true (ld v42 H) H λv43 H=> gdA (some v35) true (aC (bi .mul 3 v41 v43) H) H λv44 H=> gdA (some v35) true (aC (bi .leq 3 v39 v44) H) H λv45 H=> bo (aU v35 v45 (B false)) λv46=>
 some (v46,H)
theorem aoo:Rn1 78 Jc:=λ_ _ _ _ h=>
 rnG an0 Tryz.func78 (by kernel_rfl) (by kernel_rfl) h
def afS:Ann:=⟨[(5,[2,14,15,16]),(10,[2,14,15,16,23,24,25])],[],[]⟩
def zq:=iU Tryz.prog Tryz.f79 35 afS 0
def um:=iU Tryz.prog Tryz.f79 35 afS 1
def afT(C:Callee)(a0 a1:AV)(H:aj):OA:=
 bnd (fA 40 a0 H) λv2 H=>
 bnd (lnS a1 H) λv10 H=> bo (ah v2 0) λv11=> bnd (ld v11 H) λv12 H=> bo (bi .neq 3 v10 v12) λv13=>
 aI v13
 (some ((B false),H))
 (bnd (lnS a1 H) λv15 H=>
  zq C [v2,a1,v15,(I 0)] H)
theorem Jd(C:Callee)(t2 t14 t15 t16:AV)(H:aj):zq C [t2,t14,t15,t16] H=
 bo (bi .lss 3 t16 t15) λv17=>
 aI v17
 (bnd (ix 1 t14 t16 H) λv18 H=> bnd (ld v18 H) λv19 H=>
  bnd (lnS v19 H) λv21 H=> bo (bi .gtr 3 v21 (I 24)) λv22=>
  aI v22
  (some ((B false),H))
  (bnd (lnS v19 H) λv24 H=>
  um C [t2,t14,t15,t16,v19,v24,(I 0)] H))
 (some ((B true),H)):=
 lpE.trans (by kernel_rfl)
theorem PI(C:Callee)(t2 t14 t15 t16 t23 t24 t25:AV)(H:aj):um C [t2,t14,t15,t16,t23,t24,t25] H=
 bo (bi .lss 3 t25 t24) λv26=>
 aI v26
 (bnd (ix 3 t23 t25 H) λv27 H=> bnd (lda 3 v27 H) λv28 H=> bnd (alc 86 [zI,zI,zI] H) λv8 H=> bnd (st 3 v8 v28 H) λ_ H=>
  bnd (lda 8 t2 H) λv29 H=> bnd (lda 3 v8 H) λv30 H=> bnd (C 123 [v29,v30] H) λv31 H=> bo (un .not v31) λv32=>
  aI v32
  (some ((B false),H))
  (bo (bi .add 3 t25 (I 1)) λv33=>
  um C [t2,t14,t15,t16,t23,t24,v33] H))
 (bo (bi .add 3 t16 (I 1)) λv34=>
  zq C [t2,t14,t15,v34] H):=
 lpE.trans (by kernel_rfl)
theorem aop:Rn2 79 afT:=λ_ _ _ _ _ h=>
 rnG afS Tryz.func79 (by kernel_rfl) (by kernel_rfl) h
def aoq:Ann:=⟨[],[(1,rF 7 [])],[]⟩
def aju(C:Callee)(a0:AV)(H:aj):OA:=
 bnd (fA 40 a0 H) λv1 H=>
 bnd (lda 8 v1 H) λv3 H=> bo (ah v1 0) λv4=> bnd (ld v4 H) λv5 H=> bnd (mks 322 4 96 [zN,zN,zN,zN] v5 v5 H) λv6 H=> bo (bd 212 [(0,v3),(1,v6)]) λv7=> bnd (fA 212 v7 H) λv8 H=>
 some (v8,H)
theorem aor:Rn1 80 aju:=λ_ _ _ _ h=>
 rnG aoq Tryz.func80 (by kernel_rfl) (by kernel_rfl) h
def aos:Ann:=⟨[],[(1,rF 6 (some true::some false::some false::some true::rF 5 []))],[(1,[(0,11)])]⟩
def ajv(C:Callee)(a0 a1 a2:AV)(H:aj):OA:=
 bnd (fA 40 a0 H) λv3 H=>
 bnd (lda 8 v3 H) λv7 H0=> bo (ah v3 3) λv9=> bnd (ld v9 H0) λv10 H3=> bo (ah v3 4) λv11=> bnd (ld v11 H3) λv12 H5=> bnd (unG H5 (C 124 [v10,v12] H5.guard)) λv13 H6=> bnd (lda 8 v3 H6) λv14 H7=> bnd (unG H7 (C 125 [v14,a1] H7.guard)) λv16 H9=> bnd (app 86 3 24 (.s (Go.Value.slice none 0 0)) a2 H9) λv18 H11=> bo (bd 219 [(0,v7),(1,a1),(2,v13),(3,v16),(4,v18)]) λv19=> bnd (fA 219 v19 H11) λv20 H13=> ck (aT v3) H9 H11 <|
 some (v20,H13)
theorem aot:Rn3 81 ajv:=λ_ _ _ _ _ _ h=>
 rnG aos Tryz.func81 (by kernel_rfl) (by kernel_rfl) h
def ajw(C:Callee)(a0:AV)(H:aj):OA:=
 bnd (fA 70 a0 H) λv1 H=> bnd (alc 70 [zI,zI,zI,zI,zI,zI,zI,zB,zN] H) λv2 H=>
 bo (ah v1 8) λv3=> bnd (ld v3 H) λv4 H=> bnd (C 46 [v4] H) λv5 H=> bo (ah v1 8) λv6=> bnd (st 1 v6 v5 H) λ_ H=>
 bnd (lda 9 v1 H) λv7 H=> bnd (st 9 v2 v7 H) λ_ H=>
 bnd (lda 9 v2 H) λr0 _=> some (r0,H)
theorem aou:Rn1 82 ajw:=λ_ _ _ _ h=>
 rnG an0 Tryz.func82 (by kernel_rfl) (by kernel_rfl) h
def afU(C:Callee)(a0 a1:AV)(H:aj):OA:=
 bo (bi .geq 3 a0 (I 1)) λv6=> gdA (some v6) true (aC (some a0) H) H λv8 H=> gdA (some v6) true (aC (some a1) H) H λv9 H=> gdA (some v6) true (aC (bi .leq 3 v8 v9) H) H λv10 H=> bo (aU v6 v10 (B false)) λv11=>
 some (v11,H)
theorem aov:Rn2 83 afU:=λ_ _ _ _ _ h=>
 rnG an0 Tryz.func83 (by kernel_rfl) (by kernel_rfl) h
def ajx(C:Callee)(a0 a1:AV)(H:aj):OA:=
 bnd (C 126 [a0,a1] H) λv7 H=> bo (bi .geq 3 v7 (I 0)) λv8=>
 some (v8,H)
theorem aow:Rn2 84 ajx:=λ_ _ _ _ _ h=>
 rnG an0 Tryz.func84 (by kernel_rfl) (by kernel_rfl) h
def afV(C:Callee)(a0 a1:AV)(H:aj):OA:=
 bnd (lnS a0 H) λv5 H=> bo (bi .gtr 3 v5 (I 24)) λv6=> gdA (some v6) false (aC (some a0) H) H λv8 H=> gdA (some v6) false (aC (some (.fn (.func 87) [] [a1])) H) H λv9 H=> gdA (some v6) false (C 86 [v8,v9] H) H λv10 H=> bo (aU v6 (B true) v10) λv11=>
 some (v11,H)
theorem aox:Rn2 85 afV:=λ_ _ _ _ _ h=>
 rnG an0 Tryz.func85 (by kernel_rfl) (by kernel_rfl) h
def ajy(C:Callee)(a0 a1:AV)(H:aj):OA:=
 bnd (C 127 [a0,a1] H) λv7 H=> bo (bi .geq 3 v7 (I 0)) λv8=>
 some (v8,H)
theorem aoy:Rn2 86 ajy:=λ_ _ _ _ _ h=>
 rnG an0 Tryz.func86 (by kernel_rfl) (by kernel_rfl) h
def ajz(C:Callee)(a0 a1:AV)(H:aj):OA:=
 bnd (fA 86 a0 H) λv2 H=>
 bnd (lda 8 a1 H) λv4 H=> bnd (lda 3 v2 H) λv5 H=> bnd (C 88 [v4,v5] H) λv6 H=> bo (un .not v6) λv7=>
 some (v7,H)
theorem aoz:Rn2 87 ajz:=λ_ _ _ _ _ h=>
 rnG an0 Tryz.func87 (by kernel_rfl) (by kernel_rfl) h
def LZ(C:Callee)(a0 a1:AV)(H:aj):OA:=
 bnd (fA 40 a0 H) λv2 H=> bnd (fA 86 a1 H) λv3 H=>
 bnd (lda 8 v2 H) λv8 H=> bo (ah v3 1) λv9=> bnd (ld v9 H) λv10 H=> bnd (C 114 [v8,v10] H) λv11 H=> bo (aF v11 0) λv12=> bo (aF v11 1) λv13=>
 bo (ah v3 0) λv14=> bnd (ld v14 H) λv15 H=> bo (bi .geq 3 v15 (I 1)) λv16=> gdA (some v16) true (aC (ah v3 0) H) H λv18 H=> gdA (some v16) true (ld v18 H) H λv19 H=> gdA (some v16) true (aC (bi .leq 3 v19 (I 4)) H) H λv20 H=> bo (aU v16 v20 (B false)) λv21=> gdA (some v21) true (aC (some v12) H) H λv23 H=> gdA (some v21) true (aC (bi .neq 3 v23 (I (-1))) H) H λv24 H=> bo (aU v21 v24 (B false)) λv25=> gdA (some v25) true (aC (ah v3 2) H) H λv27 H=> gdA (some v25) true (ld v27 H) H λv28 H=> gdA (some v25) true (aC (bi .eql 3 v28 (I 0)) H) H λv29 H=> gdA (some v25) true (aC (some v29) H) H λv30 H=> gdA (some v30) false (aC (ah v3 0) H) H λv31 H=> gdA (some v30) false (ld v31 H) H λv32 H=> gdA (some v30) false (aC (bi .eql 3 v32 (I 2)) H) H λv33 H=> gdA (some v25) true (aC (aU v30 (B true) v33) H) H λv34 H=> gdA (some v25) true (aC (some v34) H) H λv35 H=> gdA (some v35) false (aC (ah v3 0) H) H λv36 H=> gdA (some v35) false (ld v36 H) H λv37 H=> gdA (some v35) false (aC (bi .eql 3 v37 (I 3)) H) H λv38 H=> gdA (some v25) true (aC (aU v35 (B true) v38) H) H λv39 H=> bo (aU v25 v39 (B false)) λv40=>
 some (v40,H)
theorem aoA:Rn2 88 LZ:=λ_ _ _ _ _ h=>
 rnG an0 Tryz.func88 (by kernel_rfl) (by kernel_rfl) h
def ajA:Ann:=⟨[(3,[0,1,2,3,8,9])],[(17,rF 15 [])],[]⟩
def Je:=iU Tryz.prog Tryz.f89 134 ajA 0
def PK(C:Callee)(t0 t1 t2 t3 t8 t9:AV)(H:aj):OA:=
 Je C [t0,t1,t2,t3,t8,t9] H
def Xv(C:Callee)(t0 t1 t2 t3 t8 t9 t10 t11:AV)(H:aj):OA:=
 bo (bi .gtr 3 t1 (I 0)) λv74=> gdA (some v74) true (aC (some t0) H) H λv76 H=> gdA (some v74) true (aC (some t1) H) H λv77 H=> gdA (some v74) true (aC (bi .sub 3 v77 (I 1)) H) H λv78 H=> gdA (some v74) true (ix 1 v76 v78 H) H λv79 H=> gdA (some v74) true (ld v79 H) H λv80 H=> gdA (some v74) true (aC (some t0) H) H λv81 H=> gdA (some v74) true (aC (some t11) H) H λv82 H=> gdA (some v74) true (ix 1 v81 v82 H) H λv83 H=> gdA (some v74) true (ld v83 H) H λv84 H=> gdA (some v74) true (C 134 [v80,v84] H) H λv85 H=> gdA (some v74) true (aC (un .not v85) H) H λv86 H=> bo (aU v74 v86 (B false)) λv87=>
 aI v87
 (bnd (C 135 [t0,t1,t2,t11] H) λv92 H=>
  PK C t0 v92 t2 t3 t8 t9 H)
 (bnd (C 136 [t0,t1,t2,t11] H) λv99 H=> bo (aF v99 0) λVj=> bo (aF v99 1) λZN=>
  bo (bi .sub 3 Vj t1) λv105=> bo (bi .sub 3 t2 Vj) λadr=>
  bo (bi .quo 3 t10 (I 8)) λapy=>
  bo (bi .lss 3 v105 adr) λap2=>
  aI ap2
  (bo (bi .geq 3 v105 apy) λap3=>
  bnd (C 89 [t0,t1,Vj,t3] H) λamI H=>
  bo (bi .add 3 Vj (I 1)) λPy=>
  PK C t0 Py t2 t3 ap3 ZN H)
  (bo (bi .geq 3 adr apy) λaiH=>
  bo (bi .add 3 Vj (I 1)) λaiI=> bnd (C 89 [t0,aiI,t2,t3] H) λapt H=>
  PK C t0 t1 Vj t3 aiH ZN H))
def Xw(C:Callee)(t0 t1 t2 t3 t8 t9 t10 t11 t12:AV)(H:aj):OA:=
 gdA (some t8) true (aC (some t9) H) H λv63 H=> bo (aU t8 v63 (B false)) λv64=> gdA (some v64) true (aC (some t12) H) H λv66 H=> gdA (some v64) true (aC (bi .eql 223 v66 (I 1)) H) H λv67 H=> bo (aU v64 v67 (B false)) λv68=>
 aI v68
 (bnd (C 133 [t0,t1,t2] H) λv72 H=>
  aI v72
  (some (.tup [],H))
  (Xv C t0 t1 t2 t3 t8 t9 t10 t11 H))
 (Xv C t0 t1 t2 t3 t8 t9 t10 t11 H)
def Xx(C:Callee)(t0 t1 t2 t3 t8 t9 t10:AV)(H:aj):OA:=
 bnd (C 131 [t0,t1,t2] H) λv46 H=> bo (aF v46 0) λv47=> bo (aF v46 1) λv48=>
 bo (bi .eql 223 v48 (I 2)) λv50=>
 aI v50
 (bnd (C 132 [t0,t1,t2] H) λv54 H=>
  bo (bi .sub 3 t2 (I 1)) λv56=> bo (bi .sub 3 v47 t1) λv59=> bo (bi .sub 3 v56 v59) λv60=>
  Xw C t0 t1 t2 t3 t8 t9 t10 v60 (I 1) H)
 (Xw C t0 t1 t2 t3 t8 t9 t10 v47 v48 H)
def ajB(C:Callee)(a0 a1 a2 a3:AV)(H:aj):OA:=
 Je C [a0,a1,a2,a3,(B true),(B true)] H
theorem afW(C:Callee)(t0 t1 t2 t3 t8 t9:AV)(H:aj):Je C [t0,t1,t2,t3,t8,t9] H=
 bo (bi .sub 3 t2 t1) λv21=>
 bo (bi .leq 3 v21 (I 12)) λv23=>
 aI v23
 (bnd (C 128 [t0,t1,t2] H) λv27 H=>
  some (.tup [],H))
 (bo (bi .eql 3 t3 (I 0)) λv29=>
  aI v29
  (bnd (C 129 [t0,t1,t2] H) λv33 H=>
  some (.tup [],H))
  (bo (un .not t8) λv35=>
  aI v35
  (bnd (C 130 [t0,t1,t2] H) λv39 H=>
   bo (bi .sub 3 t3 (I 1)) λv41=>
   Xx C t0 t1 t2 v41 t8 t9 v21 H)
  (Xx C t0 t1 t2 t3 t8 t9 v21 H))):=
 lpE.trans (by kernel_rfl)
theorem aoB:Rn4 89 ajB:=λ_ _ _ _ _ _ _ h=>
 rnG ajA Tryz.func89 (by kernel_rfl) (by kernel_rfl) h
def ajC(C:Callee)(a0:AV)(H:aj):OA:=
 aI (B false)
 (bnd (cv 176 230 a0 H) λv4 H=> bnd (C 137 [v4] H) λv5 H=>
  some (v5,H))
 (bnd (C 138 [a0] H) λv7 H=>
  some (v7,H))
theorem aoC:Rn1 90 ajC:=λ_ _ _ _ h=>
 rnG an0 Tryz.func90 (by kernel_rfl) (by kernel_rfl) h
def afX(C:Callee)(a0:AV)(H:aj):OA:=
 bo (bi .eql 98 a0 (.s (Go.Value.slice none 0 0))) λv4=>
 aI v4
 (some ((.s (Go.Value.slice none 0 0)),H))
 (bnd (bs 98 0 [] H) λv5 H=> bnd (app 86 3 24 v5 a0 H) λv7 H=>
  some (v7,H))
theorem ajD:Rn1 91 afX:=λ_ _ _ _ h=>
 rnG an0 Tryz.func91 (by kernel_rfl) (by kernel_rfl) h
def ajE:Ann:=⟨[(4,[1,2,5,12,13])],[(6,rF 7 (some true::some false::some false::[]))],[]⟩
def Jf:=iU Tryz.prog Tryz.f92 32 ajE 0
def Jg(C:Callee)(t1 t2 t5 t12 t13:AV)(H:aj):OA:=
 bo (bi .add 3 t13 (I 1)) λv30=>
 Jf C [t1,t2,t5,t12,v30] H
def ajF(C:Callee)(a0 a1:AV)(H:aj):OA:=
 bnd (fA 40 a0 H) λv2 H=>
 bnd (lda 8 v2 H) λv7 H=> bnd (mkm .i64 H) λv8 H=> bo (bd 205 [(0,v7),(1,v8)]) λv9=> bnd (fA 205 v9 H) λv10 H=>
 bo (ah v2 1) λv11=> bnd (ld v11 H) λv12 H=>
 Jf C [a1,v2,v10,v12,(I 0)] H
theorem Xy(C:Callee)(t1 t2 t5 t12 t13:AV)(H:aj):Jf C [t1,t2,t5,t12,t13] H=
 bo (bi .lss 3 t13 t12) λv14=>
 aI v14
 (bnd (lda 8 t2 H) λv16 H=> bnd (C 139 [v16,t13] H) λv18 H=> bo (bi .eql 3 v18 t1) λv20=>
  aI v20
  (bo (au t5) λv22=> bo (ah v22 8) λv23=> bnd (ld v23 H) λv24 H=> bnd (lda 8 t2 H) λv26 H=> bnd (unG H (C 140 [v26,t13] H.guard)) λv28 H=> bo (bd 100 [(0,(I 0)),(1,(I (-1))),(2,v28)]) λv29=> bnd (mup .i64 v24 t13 v29 H) λ_ H=>
  Jg C t1 t2 t5 t12 t13 H)
  (Jg C t1 t2 t5 t12 t13 H))
 (some (t5,H)):=
 lpE.trans (by kernel_rfl)
theorem aoD:Rn2 92 ajF:=λ_ _ _ _ _ h=>
 rnG ajE Tryz.func92 (by kernel_rfl) (by kernel_rfl) h
def ajG(C:Callee)(H:aj):OA:=
 bnd (mkm .i64 H) λv1 H=> bnd (mkm .i64 H) λv2 H=> bo (bd 209 [(0,v1),(1,v2)]) λv3=> bnd (fA 209 v3 H) λv4 H=>
 some (v4,H)
theorem aoE:Rn0 93 ajG:=λ_ _ _ h=>
 rnG an0 Tryz.func93 (by kernel_rfl) (by kernel_rfl) h
def ajH:Ann:=⟨[(7,[5,48,49,50])],[(4,rF 28 (some true::rF 6 []))],[]⟩
def Jh:=iU Tryz.prog Tryz.f94 61 ajH 0
def ajI(C:Callee)(a0:AV)(H:aj):OA:=
 bnd (fA 70 a0 H) λv1 H=>
 bnd (lda 9 v1 H) λv8 H=> bnd (C 141 [v8] H) λv9 H=>
 bo (bi .neq 76 v9 (I 0)) λv11=>
 aI v11
 (some (.tup [(.s (Go.Value.slice none 0 0)),v9],H))
 (bo (ah v1 0) λv13=> bnd (ld v13 H) λv14 H=> bnd (cv 3 5 v14 H) λv15 H=> bo (ah v1 1) λv16=> bnd (ld v16 H) λv17 H=> bnd (cv 3 5 v17 H) λv18 H=> bo (ah v1 2) λv19=> bnd (ld v19 H) λv20 H=> bnd (cv 3 5 v20 H) λv21 H=> bo (ah v1 3) λv22=> bnd (ld v22 H) λv23 H=> bo (bi .shr 3 v23 (.s (Go.Value.int Go.IntKind.u64 8))) λv24=> bnd (cv 3 5 v24 H) λv25 H=> bo (ah v1 3) λv26=> bnd (ld v26 H) λv27 H=> bnd (cv 3 5 v27 H) λv28 H=> bo (ah v1 4) λv29=> bnd (ld v29 H) λv30 H=> bnd (cv 3 5 v30 H) λv31 H=> bo (ah v1 5) λv32=> bnd (ld v32 H) λv33 H=> bo (bi .add 3 v33 (I 1)) λv34=> bnd (cv 3 5 v34 H) λv35 H=> bo (ah v1 6) λv36=> bnd (ld v36 H) λv37 H=> bnd (cv 3 5 v37 H) λv38 H=> bo (ah v1 7) λv39=> bnd (ld v39 H) λv40 H=> bnd (unG H (C 142 [v40] H.guard)) λv41 H=> bo (ah v1 8) λv42=> bnd (ld v42 H) λv43 H=> bnd (lnS v43 H) λv44 H=> bnd (cv 3 5 v44 H) λv45 H=> bnd (bs 180 10 [(0,v15),(1,v18),(2,v21),(3,v25),(4,v28),(5,v31),(6,v35),(7,v38),(8,v41),(9,v45)] H) λv46 H=>
  bo (ah v1 8) λv47=> bnd (ld v47 H) λv48 H=> bnd (lnS v48 H) λv49 H=>
  Jh C [v46,v48,v49,(I 0)] H)
theorem Xz(C:Callee)(t5 t48 t49 t50:AV)(H:aj):Jh C [t5,t48,t49,t50] H=
 bo (bi .lss 3 t50 t49) λv51=>
 aI v51
 (bnd (ix 1 t48 t50 H) λv52 H=> bnd (ld v52 H) λv53 H=>
  bnd (C 143 [v53] H) λv56 H=> bnd (app 5 1 1 t5 v56 H) λv57 H=>
  bo (bi .add 3 t50 (I 1)) λv58=>
  Jh C [v57,t48,t49,v58] H)
 (bnd (C 144 [t5] H) λv60 H=>
  some (.tup [v60,(I 0)],H)):=
 lpE.trans (by kernel_rfl)
theorem aoF:Rn1 94 ajI:=λ_ _ _ _ h=>
 rnG ajH Tryz.func94 (by kernel_rfl) (by kernel_rfl) h
def aoG:Ann:=⟨[],[(4,rF 40 (none::some false::[]))],[]⟩
def afY:Code:=Tryz.f95.body.getD .skip
def ajJ(C:Callee)(a0:AV)(H:aj):OA:=
 bnd (alc 70 [zI,zI,zI,zI,zI,zI,zI,zB,zN] H) λv2 H=>
 bnd (C 145 [a0] H) λv12 H=> bo (aF v12 0) λv13=> bo (aF v12 1) λv14=>
 bo (un .not v14) λv16=> gdA (some v16) false (aC (some v13) H) H λv18 H=> gdA (some v16) false (lnS v18 H) H λv19 H=> gdA (some v16) false (aC (bi .lss 3 v19 (I 10)) H) H λv20 H=> bo (aU v16 (B true) v20) λv21=> gdA (some v21) false (aC (some v13) H) H λv23 H=> gdA (some v21) false (lnS v23 H) H λv24 H=> gdA (some v21) false (aC (some v13) H) H λv25 H=> gdA (some v21) false (ix 1 v25 (I 9) H) H λv26 H=> gdA (some v21) false (ld v26 H) H λv27 H=> gdA (some v21) false (cv 5 3 v27 H) H λv28 H=> gdA (some v21) false (aC (bi .mul 3 (I 8) v28) H) H λv29 H=> gdA (some v21) false (aC (bi .add 3 (I 10) v29) H) H λv30 H=> gdA (some v21) false (aC (bi .neq 3 v24 v30) H) H λv31 H=> bo (aU v21 (B true) v31) λv32=>
 aI v32
 (bo (bd 70 []) λv33=> bnd (st 9 v2 v33 H) λ_ H=>
  bnd (lda 9 v2 H) λr0 _=> some (.tup [r0,(I 2)],H))
 (bnd (alc 70 [zI,zI,zI,zI,zI,zI,zI,zB,zN] H) λv6 H=> bnd (ix 1 v13 (I 0) H) λv35 H=> bnd (ld v35 H) λv36 H=> bnd (cv 5 3 v36 H) λv37 H=> bnd (ix 1 v13 (I 1) H) λv39 H=> bnd (ld v39 H) λv40 H=> bnd (cv 5 3 v40 H) λv41 H=> bnd (ix 1 v13 (I 2) H) λv43 H=> bnd (ld v43 H) λv44 H=> bnd (cv 5 3 v44 H) λv45 H=> bnd (ix 1 v13 (I 3) H) λv47 H=> bnd (ld v47 H) λv48 H=> bnd (cv 5 3 v48 H) λv49 H=> bo (bi .shl 3 v49 (.s (Go.Value.int Go.IntKind.u64 8))) λv50=> bnd (ix 1 v13 (I 4) H) λv52 H=> bnd (ld v52 H) λv53 H=> bnd (cv 5 3 v53 H) λv54 H=> bo (bi .or 3 v50 v54) λv55=> bnd (ix 1 v13 (I 5) H) λv57 H=> bnd (ld v57 H) λv58 H=> bnd (cv 5 3 v58 H) λv59 H=> bnd (ix 1 v13 (I 6) H) λv61 H=> bnd (ld v61 H) λv62 H=> bnd (cv 5 3 v62 H) λv63 H=> bo (bi .sub 3 v63 (I 1)) λv64=> bnd (ix 1 v13 (I 7) H) λv66 H=> bnd (ld v66 H) λv67 H=> bnd (cv 5 3 v67 H) λv68 H=> bnd (ix 1 v13 (I 8) H) λv70 H=> bnd (ld v70 H) λv71 H=> bo (bi .eql 5 v71 (.s (Go.Value.int Go.IntKind.u8 1))) λv72=> bo (bd 70 [(0,v37),(1,v41),(2,v45),(3,v55),(4,v59),(5,v64),(6,v68),(7,v72)]) λv73=> bnd (st 9 v6 v73 H) λ_ H=>
  bo (slS 1 v13 (some (I 10)) none none) λv75=> bnd (C 146 [v75,(I 8)] H) λv76 H=>
  none)
theorem aoH:Rn1 95 ajJ:=λ_ _ _ _ h=>
 rnG aoG Tryz.func95 (by kernel_rfl) (by kernel_rfl) h
def ajK:Ann:=⟨[(4,[1,2,7,13,14])],[(7,rF 17 [])],[]⟩
def Ji:=iU Tryz.prog Tryz.f96 45 ajK 0
def zx(C:Callee)(t1 t2 t7 t13 t14:AV)(H:aj):OA:=
 bo (bi .add 3 t14 (I 1)) λv43=>
 Ji C [t1,t2,t7,t13,v43] H
def ajL(C:Callee)(a0 a1 a2:AV)(H:aj):OA:=
 bnd (C 149 [a0] H) λv11 H=>
 bnd (lnS v11 H) λv13 H=>
 Ji C [a1,a2,v11,v13,(I 0)] H
theorem XA(C:Callee)(t1 t2 t7 t13 t14:AV)(H:aj):Ji C [t1,t2,t7,t13,t14] H=
 bo (bi .lss 3 t14 t13) λv15=>
 aI v15
 (bo (bi .mul 3 (I 8) t14) λv18=> bo (bi .sub 3 v18 t1) λv20=>
  bo (bi .leq 3 v20 (I (-8))) λv22=> gdA (some v22) false (aC (some v20) H) H λv24 H=> gdA (some v22) false (aC (bi .geq 3 v24 (I 16)) H) H λv25 H=> bo (aU v22 (B true) v25) λv26=>
  aI v26
  (zx C t1 t2 t7 t13 t14 H)
  (bnd (ix 1 t7 t14 H) λv31 H=> bnd (ld v31 H) λv32 H=> bnd (cv 33 230 t2 H) λv34 H=> bo (bi .shl 230 v34 (.s (Go.Value.int Go.IntKind.u64 8))) λv35=> bo (bi .add 3 v20 (I 8)) λv37=> bo (bi .shl 230 v35 v37) λv38=> bo (bi .shr 230 v38 (.s (Go.Value.int Go.IntKind.u64 24))) λv39=> bnd (cv 230 5 v39 H) λv40 H=> bo (bi .xor 5 v32 v40) λv41=> bnd (ix 1 t7 t14 H) λv42 H=> bnd (st 1 v42 v41 H) λ_ H=>
  zx C t1 t2 t7 t13 t14 H))
 (some (t7,H)):=
 lpE.trans (by kernel_rfl)
theorem aoI:Rn3 96 ajL:=λ_ _ _ _ _ _ h=>
 rnG ajK Tryz.func96 (by kernel_rfl) (by kernel_rfl) h
def aoJ:Ann:=⟨[],[(1,rF 11 [])],[]⟩
def ajM(C:Callee)(a0:AV)(H:aj):OA:=
 bo (au a0) λv4=> bo (ah v4 1) λv5=> bnd (ld v5 H) λv6 H=> bo (au a0) λv8=> bo (ah v8 0) λv9=> bnd (ld v9 H) λv10 H=> bnd (lnS v10 H) λv11 H=> bo (bi .sub 3 v6 v11) λv12=>
 some (v12,H)
theorem aoK:Rn1 97 ajM:=λ_ _ _ _ h=>
 rnG aoJ Tryz.func97 (by kernel_rfl) (by kernel_rfl) h
def ajN(C:Callee)(a0:AV)(H:aj):OA:=
 bnd (fA 70 a0 H) λv1 H=> bnd (alc 70 [zI,zI,zI,zI,zI,zI,zI,zB,zN] H) λv2 H=>
 bo (ah v1 8) λv3=> bnd (ld v3 H) λv4 H=> bnd (C 46 [v4] H) λv5 H=> bo (ah v1 8) λv6=> bnd (st 1 v6 v5 H) λ_ H=>
 bnd (lda 9 v1 H) λv7 H=> bnd (st 9 v2 v7 H) λ_ H=>
 bnd (lda 9 v2 H) λr0 _=> some (r0,H)
theorem aoL:Rn1 98 ajN:=λ_ _ _ _ h=>
 rnG an0 Tryz.func98 (by kernel_rfl) (by kernel_rfl) h
def aoM:Ann:=⟨[],[(5,rF 8 [])],[]⟩
def ajO(C:Callee)(a0 a1 a2:AV)(H:aj):OA:=
 bnd (lnS a0 H) λv12 H=> bo (slS 9 a0 (some a1) (some a2) (some v12)) λv13=>
 bo (bi .eql 3 a1 a2) λv16=>
 aI v16
 (some (a0,H))
 (bnd (lnS a0 H) λv19 H=>
  bo (slS 9 a0 none (some a1) none) λv22=> bo (slS 9 a0 (some a2) none none) λv25=> bnd (app 70 9 88 v22 v25 H) λv26 H=>
  bnd (lnS v26 H) λv29 H=> bo (slS 9 v26 (some v29) (some v19) none) λv31=> bnd (clr 9 [zI,zI,zI,zI,zI,zI,zI,zB,zN] v31 H) λ_ H=>
  some (v26,H))
theorem aoN:Rn3 99 ajO:=λ_ _ _ _ _ _ h=>
 rnG aoM Tryz.func99 (by kernel_rfl) (by kernel_rfl) h
def ads(C:Callee)(a0 a1:AV)(H:aj):OA:=
 bnd (alc 70 [zI,zI,zI,zI,zI,zI,zI,zB,zN] H) λv4 H=>
 bnd (C 150 [a0,a1,(B false)] H) λv8 H=> bo (aF v8 0) λv9=> bo (aF v8 1) λv10=> bnd (st 9 v4 v9 H) λ_ H=>
 bnd (lda 9 v4 H) λr0 _=> some (.tup [r0,v10],H)
theorem ajP:Rn2 100 ads:=λ_ _ _ _ _ h=>
 rnG an0 Tryz.func100 (by kernel_rfl) (by kernel_rfl) h
def ajQ:Ann:=⟨[],[(3,rF 18 []),(5,rF 18 []),(7,rF 18 [])],[]⟩
def L6(C:Callee)(a0 a1:AV)(H:aj):OA:=
 bnd (fA 70 a1 H) λv3 H=> bnd (alc 57 [zI,zI,zI,zI,zI,zI,zN,zI,zI] H) λv4 H=>
 bo (au a0) λv7=> bo (ah v7 12) λv8=> bo (ah v8 0) λv9=> bnd (ld v9 H) λv10 H=>
 bo (bi .eql 3 v10 (I 1)) λv12=>
 aI v12
 (bo (au a0) λv14=> bo (ah v14 12) λv15=> bnd (lda 9 v15 H) λv16 H=> bo (au a0) λv18=> bo (ah v18 10) λv19=> bnd (ld v19 H) λv20 H=> bo (au a0) λv22=> bo (ah v22 0) λv23=> bnd (ld v23 H) λv24 H=> bnd (lda 9 v3 H) λv25 H=> bnd (C 151 [v16,v20,v24,v25] H) λv26 H=> bo (aF v26 0) λv27=> bo (aF v26 1) λv28=> bnd (st 9 v4 v27 H) λ_ H=>
  bnd (lda 9 v4 H) λr0 _=> some (.tup [r0,v28],H))
 (bo (bi .eql 3 v10 (I 2)) λv30=>
  aI v30
  (bo (au a0) λv32=> bo (ah v32 12) λv33=> bnd (lda 9 v33 H) λv34 H=> bo (au a0) λv36=> bo (ah v36 10) λv37=> bnd (ld v37 H) λv38 H=> bo (au a0) λv40=> bo (ah v40 0) λv41=> bnd (ld v41 H) λv42 H=> bnd (lda 9 v3 H) λv43 H=> bnd (C 152 [v34,v38,v42,v43] H) λv44 H=> bo (aF v44 0) λv45=> bo (aF v44 1) λv46=> bnd (st 9 v4 v45 H) λ_ H=>
  bnd (lda 9 v4 H) λr0 _=> some (.tup [r0,v46],H))
  (bo (bi .eql 3 v10 (I 3)) λv48=>
  aI v48
  (bo (au a0) λv50=> bo (ah v50 12) λv51=> bnd (lda 9 v51 H) λv52 H=> bo (au a0) λv54=> bo (ah v54 10) λv55=> bnd (ld v55 H) λv56 H=> bo (au a0) λv58=> bo (ah v58 0) λv59=> bnd (ld v59 H) λv60 H=> bnd (lda 9 v3 H) λv61 H=> bnd (C 153 [v52,v56,v60,v61] H) λv62 H=> bo (aF v62 0) λv63=> bo (aF v62 1) λv64=> bnd (st 9 v4 v63 H) λ_ H=>
   bnd (lda 9 v4 H) λr0 _=> some (.tup [r0,v64],H))
  (bo (bd 57 []) λv65=> bnd (st 9 v4 v65 H) λ_ H=>
   bnd (lda 9 v4 H) λr0 _=> some (.tup [r0,(B false)],H))))
theorem Rl:Rn2 101 L6:=λ_ _ _ _ _ h=>
 rnG ajQ Tryz.func101 (by kernel_rfl) (by kernel_rfl) h
def ajR:Ann:=⟨[],[(3,rF 19 [])],[(3,[(14,16),(15,16)])]⟩
def XB(C:Callee)(a0:AV)(H:aj):OA:=
 bnd (alc 86 [zI,zI,zI] H) λv2 H=>
 bnd (C 19 [a0] H) λv6 H=> bo (bi .eql 3 v6 (I 0)) λv7=>
 aI v7
 (bo (bd 86 []) λv8=> bnd (st 3 v2 v8 H) λ_ H=>
  bnd (lda 3 v2 H) λr0 _=> some (.tup [r0,(I 0),(B false)],H))
 (bo (au a0) λv10=> bo (ah v10 0) λv11=> bnd (ld v11 H) λv12 H3=> bo (au a0) λv14=> bo (ah v14 1) λv15=> bnd (ld v15 H3) λv16 H7=> bnd (lnS v16 H7) λv17 H8=> bnd (ix 3 v12 v17 H8) λv18 H9=> bnd (lda 3 v18 H9) λv19 H10=> bo (au a0) λv21=> bo (ah v21 1) λv22=> bnd (ld v22 H10) λv23 H14=> bnd (lnS v23 H14) λv24 H15=> bnd (st 3 v2 v19 H15) λ_ H16=> ck (aT v22) H15 H16 <| ck (aT v23) H15 H16 <|
  bnd (lda 3 v2 H16) λr0 _=> some (.tup [r0,v24,(B true)],H16))
theorem ajS:Rn1 102 XB:=λ_ _ _ _ h=>
 rnG ajR Tryz.func102 (by kernel_rfl) (by kernel_rfl) h
def adt(C:Callee)(a0 a1 a2:AV)(H:aj):OA:=
 bo (au a0) λv11=> bo (ah v11 1) λv12=> bnd (ld v12 H) λv13 H=> bnd (C 102 [v13] H) λv14 H=> bo (aF v14 0) λv15=> bo (aF v14 1) λv16=> bo (aF v14 2) λv17=> bnd (alc 86 [zI,zI,zI] H) λv6 H=> bnd (st 3 v6 v15 H) λ_ H=>
 bo (au a0) λv19=> bo (ah v19 1) λv20=> bnd (ld v20 H) λv21 H=> bnd (C 154 [v21,a2] H) λv23 H=>
 bo (au a0) λv26=> bo (ah v26 10) λv27=> bnd (ld v27 H) λv28 H=> bnd (C 155 [a1,v28,v16,a2] H) λv31 H=>
 some (.tup [],H)
theorem ajT:Rn3 103 adt:=λ_ _ _ _ _ _ h=>
 rnG an0 Tryz.func103 (by kernel_rfl) (by kernel_rfl) h
def ajU:Ann:=⟨[],[(1,rF 12 []),(9,rF 6 [])],[]⟩
def Bq(C:Callee)(t0 t1 t11:AV)(H:aj):OA:=
 bnd (C 103 [t0,t1,t11] H) λv71 H=>
 some (.tup [],H)
def rP(C:Callee)(t0 t1 t4 t9 t11:AV)(H:aj):OA:=
 bo (au t0) λv60=> bo (ah v60 0) λv61=> bnd (ld v61 H) λv62 H=> bnd (lda 6 t9 H) λv63 H=> bnd (C 157 [v62,v63] H) λv64 H=>
 bo (ah t4 0) λv65=> bnd (ld v65 H) λv66 H=> bo (bi .eql 3 v66 (I 2)) λv67=>
 aI v67
 (Bq C t0 t1 (I 0) H)
 (Bq C t0 t1 t11 H)
def Rn(C:Callee)(a0 a1:AV)(H:aj):OA:=
 bo (au a0) λv14=> bo (ah v14 1) λv15=> bnd (ld v15 H) λv16 H=> bnd (C 102 [v16] H) λv17 H=> bo (aF v17 0) λv18=> bo (aF v17 1) λv19=> bo (aF v17 2) λv20=> bnd (alc 86 [zI,zI,zI] H) λv4 H=> bnd (st 3 v4 v18 H) λ_ H=>
 bo (au a0) λv23=> bo (ah v23 2) λv24=> bnd (lda 8 v24 H) λv25 H=> bo (ah v4 1) λv26=> bnd (ld v26 H) λv27 H=> bnd (C 114 [v25,v27] H) λv28 H=> bo (aF v28 0) λv29=> bo (aF v28 1) λv30=>
 bo (au a0) λv33=> bo (ah v33 0) λv34=> bnd (ld v34 H) λv35 H=> bnd (C 37 [v35,v29] H) λv37 H=> bo (aF v37 0) λv38=> bo (aF v37 1) λv39=> bnd (alc 93 [zI,zI,zI,zI,zB,zN] H) λv9 H=> bnd (st 6 v9 v38 H) λ_ H=>
 bnd (lda 6 v9 H) λv40 H=> bnd (C 38 [v40,v30] H) λv42 H=>
 bo (ah v4 0) λv43=> bnd (ld v43 H) λv44 H=>
 bo (bi .eql 3 v44 (I 2)) λv46=>
 aI v46
 (bo (ah v4 2) λv48=> bnd (ld v48 H) λv49 H=> bnd (C 156 [v9,v30,v49] H) λv50 H=>
  rP C a0 a1 v4 v9 v42 H)
 (bo (bi .eql 3 v44 (I 3)) λv52=>
  aI v52
  (bo (ah v4 2) λv55=> bnd (ld v55 H) λv56 H=> bo (bi .add 3 v42 v56) λv57=> bnd (C 156 [v9,v30,v57] H) λv58 H=>
  rP C a0 a1 v4 v9 v42 H)
  (rP C a0 a1 v4 v9 v42 H))
theorem XC:Rn2 104 Rn:=λ_ _ _ _ _ h=>
 rnG ajU Tryz.func104 (by kernel_rfl) (by kernel_rfl) h
def ajV:Ann:=⟨[],[(0,rF 18 (some true::some false::some false::[]))],[]⟩
def adu(C:Callee)(a0 a1:AV)(H:aj):OA:=
 bo (au a0) λv6=> bo (ah v6 12) λv7=> bnd (lda 9 v7 H) λv8 H=> bo (au a0) λv10=> bo (ah v10 10) λv11=> bnd (ld v11 H) λv12 H=> bo (au a0) λv14=> bo (ah v14 2) λv15=> bnd (lda 8 v15 H) λv16 H=> bo (au a0) λv18=> bo (ah v18 12) λv19=> bo (ah v19 1) λv20=> bnd (ld v20 H) λv21 H=> bnd (unG H (C 139 [v16,v21] H.guard)) λv22 H=> bnd (C 158 [v8,v12,v22] H) λv23 H=> bnd (C 109 [a1,v23] H) λv24 H=>
 some (.tup [],H)
theorem ajW:Rn2 105 adu:=λ_ _ _ _ _ h=>
 rnG ajV Tryz.func105 (by kernel_rfl) (by kernel_rfl) h
def XD(C:Callee)(a0:AV)(H:aj):OA:=
 bo (au a0) λv4=> bo (ah v4 1) λv5=> bnd (ld v5 H) λv6 H=> bnd (C 159 [v6] H) λv7 H=> bnd (lnS v7 H) λv8 H=> bo (bi .gtr 3 v8 (I 0)) λv9=>
 some (v9,H)
theorem ajX:Rn1 106 XD:=λ_ _ _ _ h=>
 rnG an0 Tryz.func106 (by kernel_rfl) (by kernel_rfl) h
def XE(C:Callee)(a0 a1 a2:AV)(H:aj):OA:=
 bnd (C 50 [a0,a1] H) λv9 H=> bo (un .not v9) λv10=>
 aI v10
 (some ((I 0),H))
 (bo (au a0) λv12=> bo (ah v12 0) λv13=> bnd (ld v13 H) λv14 H=> bnd (ix 4 v14 a1 H) λv16 H=> bnd (lda 4 v16 H) λv17 H=> bnd (C 63 [v17,a2] H) λv19 H=> bo (fl v19 0) λv20=> bnd (C 160 [v20] H) λv21 H=>
  some (v21,H))
theorem ajY:Rn3 107 XE:=λ_ _ _ _ _ _ h=>
 rnG an0 Tryz.func107 (by kernel_rfl) (by kernel_rfl) h
def adv:Ann:=⟨[(3,[0,2,13,14,15])],[],[]⟩
def Jj:=iU Tryz.prog Tryz.f108 37 adv 0
def XF(C:Callee)(a0:AV)(H:aj):OA:=
 bnd (alc 70 [zI,zI,zI,zI,zI,zI,zI,zB,zN] H) λv2 H=>
 bo (au a0) λv10=> bo (ah v10 1) λv11=> bnd (ld v11 H) λv12 H=> bnd (C 159 [v12] H) λv13 H=> bnd (lnS v13 H) λv14 H=>
 Jj C [a0,v2,v13,v14,(I 0)] H
theorem Ro(C:Callee)(t0 t2 t13 t14 t15:AV)(H:aj):Jj C [t0,t2,t13,t14,t15] H=
 bo (bi .lss 3 t15 t14) λv16=>
 aI v16
 (bnd (ix 1 t13 t15 H) λv17 H=> bnd (ld v17 H) λv18 H=>
  bo (au t0) λv21=> bo (ah v21 1) λv22=> bnd (ld v22 H) λv23 H=> bnd (C 161 [v23,v18] H) λv25 H=> bo (aF v25 0) λv26=> bo (aF v25 1) λv27=> bo (aF v25 2) λv28=>
  aI v28
  (bnd (C 162 [t0,v18,v26,v27] H) λv34 H=> bnd (st 9 t2 v34 H) λ_ H=>
  bnd (lda 9 t2 H) λr0 _=> some (.tup [r0,(B true)],H))
  (bo (bi .add 3 t15 (I 1)) λv35=>
  Jj C [t0,t2,t13,t14,v35] H))
 (bo (bd 70 []) λv36=> bnd (st 9 t2 v36 H) λ_ H=>
  bnd (lda 9 t2 H) λr0 _=> some (.tup [r0,(B false)],H)):=
 lpE.trans (by kernel_rfl)
theorem ajZ:Rn1 108 XF:=λ_ _ _ _ h=>
 rnG adv Tryz.func108 (by kernel_rfl) (by kernel_rfl) h
def aj0:Ann:=⟨[],[(3,rF 10 (some true::some true::rF 4 []))],[]⟩
def L8(C:Callee)(a0 a1:AV)(H:aj):OA:=
 bnd (fA 70 a1 H) λv3 H=>
 bnd (lda 9 v3 H) λv5 H=> bnd (C 141 [v5] H) λv6 H=> bo (bi .neq 76 v6 (I 0)) λv7=> gdA (some v7) false (aC (some a0) H) H λv9 H=> gdA (some v7) false (aC (ah v3 1) H) H λv10 H=> gdA (some v7) false (ld v10 H) H λv11 H=> gdA (some v7) false (C 50 [v9,v11] H) H λv12 H=> gdA (some v7) false (aC (un .not v12) H) H λv13 H=> bo (aU v7 (B true) v13) λv14=> gdA (some v14) false (aC (some a0) H) H λv16 H=> gdA (some v14) false (aC (ah v3 2) H) H λv17 H=> gdA (some v14) false (ld v17 H) H λv18 H=> gdA (some v14) false (C 50 [v16,v18] H) H λv19 H=> gdA (some v14) false (aC (un .not v19) H) H λv20 H=> bo (aU v14 (B true) v20) λv21=>
 aI v21
 (some ((I 1),H))
 (bo (au a0) λv23=> bo (ah v23 0) λv24=> bnd (ld v24 H) λv25 H=> bo (ah v3 1) λv26=> bnd (ld v26 H) λv27 H=> bnd (ix 4 v25 v27 H) λv28 H=> bnd (lda 4 v28 H) λv29 H=> bo (ah v3 0) λv30=> bnd (ld v30 H) λv31 H=> bnd (unG H (C 64 [v31] H.guard)) λv32 H=> bnd (unG H (C 63 [v29,v32] H.guard)) λv33 H=> bo (fl v33 0) λv34=> bnd (lda 9 v3 H) λv35 H=> bnd (C 163 [v34,v35] H) λv36 H=>
  some (v36,H))
theorem adw:Rn2 109 L8:=λ_ _ _ _ _ h=>
 rnG aj0 Tryz.func109 (by kernel_rfl) (by kernel_rfl) h
def adx(C:Callee)(a0 a1:AV)(H:aj):OA:=
 bnd (alc 70 [zI,zI,zI,zI,zI,zI,zI,zB,zN] H) λv4 H=>
 bnd (C 150 [a0,a1,(B true)] H) λv8 H=> bo (aF v8 0) λv9=> bo (aF v8 1) λv10=> bnd (st 9 v4 v9 H) λ_ H=>
 bnd (lda 9 v4 H) λr0 _=> some (.tup [r0,v10],H)
theorem aj1:Rn2 110 adx:=λ_ _ _ _ _ h=>
 rnG an0 Tryz.func110 (by kernel_rfl) (by kernel_rfl) h
def aj2:Ann:=⟨[],[(2,rF 11 (none::rF 3 [])),(4,rF 9 (none::some false::some false::[]))],[(2,[(11,6)]),(4,[(9,5)])]⟩
def Gn(C:Callee)(a0 a1:AV)(H:aj):OA:=
 bnd (fA 70 a1 H) λv3 H=> bnd (alc 70 [zI,zI,zI,zI,zI,zI,zI,zB,zN] H) λv4 H=>
 bo (ah v3 0) λv11=> bnd (ld v11 H) λv12 H=> bo (bi .eql 3 v12 (I 1)) λv13=> gdA (some v13) false (aC (ah v3 0) H) H λv15 H=> gdA (some v13) false (ld v15 H) H λv16 H=> gdA (some v13) false (aC (bi .eql 3 v16 (I 2)) H) H λv17 H=> bo (aU v13 (B true) v17) λv18=>
 aI v18
 (bnd (alc 70 [zI,zI,zI,zI,zI,zI,zI,zB,zN] H) λv6 H11=> bo (au a0) λv21=> bo (ah v21 11) λv22=> bo (ah v22 0) λv23=> bnd (ld v23 H11) λv24 H4=> bnd (lda 9 v3 H4) λv25 H5=> bnd (C 164 [v24,v25] H5) λv26 H6=> bo (aF v26 0) λv27=> bo (aF v26 1) λv28=> bo (aF v26 2) λv29=> bnd (st 9 v6 v27 H6) λ_ H12=> ckR H.next H11.next H5 H6 <|
  bnd (lda 9 v6 H12) λv30 H12=> gdA (some v28) true (aC (some v29) H12) H12 λv33 H12=> gdA (some v28) true (aC (bi .eql 76 v33 (I 0)) H12) H12 λv34 H12=> bo (aU v28 v34 (B false)) λv35=> bnd (st 9 v4 v30 H12) λ_ H12=>
  bnd (lda 9 v4 H12) λr0 _=> some (.tup [r0,v35],H12))
 (bnd (alc 70 [zI,zI,zI,zI,zI,zI,zI,zB,zN] H) λv9 amK=> bo (au a0) λv38=> bo (ah v38 0) λv39=> bnd (ld v39 amK) λv40 ahe=> bnd (lda 9 v3 ahe) λv41 aj3=> bnd (C 165 [v40,v41] aj3) λv42 aj6=> bo (aF v42 0) λv43=> bo (aF v42 1) λv44=> bnd (st 9 v9 v43 aj6) λ_ Ux=> ckR H.next amK.next aj3 aj6 <|
  bnd (lda 9 v9 Ux) λv45 Ux=> bo (bi .eql 76 v44 (I 0)) λv47=> bnd (st 9 v4 v45 Ux) λ_ Ux=>
  bnd (lda 9 v4 Ux) λr0 _=> some (.tup [r0,v47],Ux))
theorem ady:Rn2 111 Gn:=λ_ _ _ _ _ h=>
 rnG aj2 Tryz.func111 (by kernel_rfl) (by kernel_rfl) h
def Rq(C:Callee)(a0:AV)(H:aj):OA:=
 bo (au a0) λv4=> bo (ah v4 2) λv5=> bnd (ld v5 H) λv6 H=> gdA (some v6) false (aC (some a0) H) H λv8 H=> gdA (some v6) false (C 19 [v8] H) H λv9 H=> gdA (some v6) false (aC (bi .eql 3 v9 (I 0)) H) H λv10 H=> bo (aU v6 (B true) v10) λv11=>
 aI v11
 (some ((I 6),H))
 (bo (au a0) λv13=> bo (ah v13 2) λv14=> bnd (st 1 v14 (B true) H) λ_ H=>
  some ((I 0),H))
theorem XG:Rn1 112 Rq:=λ_ _ _ _ h=>
 rnG an0 Tryz.func112 (by kernel_rfl) (by kernel_rfl) h
def adz(C:Callee)(a0 a1 a2:AV)(H:aj):OA:=
 bo (au a0) λv8=> bo (ah v8 0) λv9=> bnd (ld v9 H) λv10 H=> bo (bd 51 [(0,a1),(1,a2)]) λv13=> bnd (bs 48 1 [(0,v13)] H) λv14 H=> bnd (app 51 4 32 v10 v14 H) λv15 H=> bo (au a0) λv16=> bo (ah v16 0) λv17=> bnd (st 1 v17 v15 H) λ_ H=>
 some (.tup [],H)
theorem aj7:Rn3 113 adz:=λ_ _ _ _ _ _ h=>
 rnG an0 Tryz.func113 (by kernel_rfl) (by kernel_rfl) h
def aj8:Ann:=⟨[],[(3,rF 10 [])],[]⟩
def Rt(C:Callee)(a0 a1:AV)(H:aj):OA:=
 bnd (fA 40 a0 H) λv2 H=>
 bo (bi .lss 3 a1 (I 0)) λv7=> gdA (some v7) false (aC (some a1) H) H λv9 H=> gdA (some v7) false (lda 8 v2 H) H λv10 H=> gdA (some v7) false (C 166 [v10] H) H λv11 H=> gdA (some v7) false (aC (bi .geq 3 v9 v11) H) H λv12 H=> bo (aU v7 (B true) v12) λv13=>
 aI v13
 (some (.tup [(I (-1)),(I 0)],H))
 (bo (ah v2 2) λv15=> bnd (ld v15 H) λv16 H=> bo (bi .quo 3 a1 v16) λv17=> bo (ah v2 2) λv19=> bnd (ld v19 H) λv20 H=> bo (bi .rem 3 a1 v20) λv21=>
  some (.tup [v17,v21],H))
theorem aj9:Rn2 114 Rt:=λ_ _ _ _ _ h=>
 rnG aj8 Tryz.func114 (by kernel_rfl) (by kernel_rfl) h
def adA(C:Callee)(a0 a1 a2 a3:AV)(H:aj):OA:=
 bo (au a0) λv12=> bo (ah v12 21) λv13=> bnd (ld v13 H) λv14 H=> bnd (C 167 [a2,a3,v14] H) λv15 H=> bo (au a0) λv16=> bo (ah v16 12) λv17=> bnd (st 9 v17 v15 H) λ_ H=>
 bo (au a0) λv20=> bo (ah v20 21) λv21=> bnd (ld v21 H) λv22 H=> bo (bi .add 3 v22 (I 1)) λv23=> bo (bi .rem 3 v23 (I 4096)) λv24=> bo (au a0) λv25=> bo (ah v25 21) λv26=> bnd (st 1 v26 v24 H) λ_ H=>
 bnd (C 105 [a0,a1] H) λv29 H=>
 some (.tup [],H)
theorem akb:Rn4 115 adA:=λ_ _ _ _ _ _ _ h=>
 rnG an0 Tryz.func115 (by kernel_rfl) (by kernel_rfl) h
def akc:Ann:=⟨[],[(5,rF 12 [])],[]⟩
def XH(C:Callee)(a0 a1:AV)(H:aj):OA:=
 bnd (C 71 [a0,a1] H) λv8 H=>
 bo (bi .lss 3 v8 (I 0)) λv10=>
 aI v10
 (some ((B false),H))
 (bo (au a0) λv12=> bo (ah v12 3) λv13=> bnd (ld v13 H) λv14 H=> bo (bi .add 3 v14 (I 1)) λv15=> bo (au a0) λv16=> bo (ah v16 3) λv17=> bnd (st 1 v17 v15 H) λ_ H=>
  bo (au a0) λv19=> bo (ah v19 0) λv20=> bnd (ld v20 H) λv21 H=> bo (au a0) λv24=> bo (ah v24 3) λv25=> bnd (ld v25 H) λv26 H=> bnd (ix 6 v21 v8 H) λv27 H=> bo (ah v27 3) λv28=> bnd (st 1 v28 v26 H) λ_ H=>
  some ((B true),H))
theorem akd:Rn2 116 XH:=λ_ _ _ _ _ h=>
 rnG akc Tryz.func116 (by kernel_rfl) (by kernel_rfl) h
def ake:Ann:=⟨[],[(1,rF 7 (some true::rF 8 []))],[]⟩
def XI(C:Callee)(a0 a1:AV)(H:aj):OA:=
 bnd (C 71 [a0,a1] H) λv7 H=> bo (bi .lss 3 v7 (I 0)) λv8=> gdA (some v8) true (aC (some a0) H) H λv10 H=> gdA (some v8) true (aC (some a1) H) H λv11 H=> gdA (some v8) true (unG H (C 168 [v10,v11] H.guard)) H λv12 H=> gdA (some v8) true (lnS v12 H) H λv13 H=> gdA (some v8) true (aC (some a0) H) H λv14 H=> gdA (some v8) true (aC (au v14) H) H λv15 H=> gdA (some v8) true (aC (ah v15 2) H) H λv16 H=> gdA (some v8) true (ld v16 H) H λv17 H=> gdA (some v8) true (aC (bi .geq 3 v13 v17) H) H λv18 H=> bo (aU v8 v18 (B false)) λv19=>
 some (v19,H)
theorem akf:Rn2 117 XI:=λ_ _ _ _ _ h=>
 rnG ake Tryz.func117 (by kernel_rfl) (by kernel_rfl) h
def XJ(C:Callee)(a0 a1:AV)(H:aj):OA:=
 bnd (C 168 [a0,a1] H) λv9 H=>
 bnd (lnS v9 H) λv11 H=> bo (bi .eql 3 v11 (I 0)) λv12=>
 aI v12
 (some (.tup [(I 0),(B false)],H))
 (bnd (C 169 [v9,(.fn (.func 170) [] [])] H) λv14 H=> bo (fl v14 2) λv15=>
  some (.tup [v15,(B true)],H))
theorem akg:Rn2 118 XJ:=λ_ _ _ _ _ h=>
 rnG an0 Tryz.func118 (by kernel_rfl) (by kernel_rfl) h
def adB:Ann:=⟨[(3,[0,1,7,8])],[],[]⟩
def Bv:=iU Tryz.prog Tryz.f119 19 adB 0
def adC(C:Callee)(a0 a1:AV)(H:aj):OA:=
 bnd (lnS a0 H) λv7 H=>
 Bv C [a0,a1,v7,(I 0)] H
theorem Ru(C:Callee)(t0 t1 t7 t8:AV)(H:aj):Bv C [t0,t1,t7,t8] H=
 bo (bi .lss 3 t8 t7) λv9=>
 aI v9
 (bnd (ix 6 t0 t8 H) λv14 H=> bnd (lda 6 v14 H) λv15 H=> bnd (qJ Tryz.prog C t1 [v15] H) λv16 H=>
  aI v16
  (some (t8,H))
  (bo (bi .add 3 t8 (I 1)) λv18=>
  Bv C [t0,t1,t7,v18] H))
 (some ((I (-1)),H)):=
 lpE.trans (by kernel_rfl)
theorem akh:Rn2 119 adC:=λ_ _ _ _ _ h=>
 rnG adB Tryz.func119 (by kernel_rfl) (by kernel_rfl) h
def adD(C:Callee)(a0 a1:AV)(H:aj):OA:=
 bnd (fA 93 a0 H) λv2 H=>
 bo (ah v2 2) λv4=> bnd (ld v4 H) λv5 H=> bnd (ld a1 H) λv6 H=> bo (bi .eql 3 v5 v6) λv7=>
 some (v7,H)
theorem aki:Rn2 120 adD:=λ_ _ _ _ _ h=>
 rnG an0 Tryz.func120 (by kernel_rfl) (by kernel_rfl) h
def XK(C:Callee)(a0:AV)(H:aj):OA:=
 bnd (app 3 1 8 (.s (Go.Value.slice none 0 0)) a0 H) λv4 H=>
 some (v4,H)
theorem adE:Rn1 121 XK:=λ_ _ _ _ h=>
 rnG an0 Tryz.func121 (by kernel_rfl) (by kernel_rfl) h
def XL(C:Callee)(a0 a1:AV)(H:aj):OA:=
 bo (bi .geq 3 a0 (I 1)) λv6=> gdA (some v6) true (aC (some a0) H) H λv8 H=> gdA (some v6) true (aC (some a1) H) H λv9 H=> gdA (some v6) true (aC (bi .leq 3 v8 v9) H) H λv10 H=> bo (aU v6 v10 (B false)) λv11=>
 some (v11,H)
theorem akj:Rn2 122 XL:=λ_ _ _ _ _ h=>
 rnG an0 Tryz.func122 (by kernel_rfl) (by kernel_rfl) h
def xY(C:Callee)(a0 a1:AV)(H:aj):OA:=
 bnd (fA 40 a0 H) λv2 H=> bnd (fA 86 a1 H) λv3 H=>
 bo (ah v3 0) λv5=> bnd (ld v5 H) λv6 H=> bo (bi .geq 3 v6 (I 1)) λv7=> gdA (some v7) true (aC (ah v3 0) H) H λv9 H=> gdA (some v7) true (ld v9 H) H λv10 H=> gdA (some v7) true (aC (bi .leq 3 v10 (I 4)) H) H λv11 H=> bo (aU v7 v11 (B false)) λv12=> gdA (some v12) true (aC (ah v3 1) H) H λv14 H=> gdA (some v12) true (ld v14 H) H λv15 H=> gdA (some v12) true (aC (bi .geq 3 v15 (I 0)) H) H λv16 H=> bo (aU v12 v16 (B false)) λv17=> gdA (some v17) true (aC (ah v3 1) H) H λv19 H=> gdA (some v17) true (ld v19 H) H λv20 H=> gdA (some v17) true (aC (ah v2 1) H) H λv21 H=> gdA (some v17) true (ld v21 H) H λv22 H=> gdA (some v17) true (aC (ah v2 2) H) H λv23 H=> gdA (some v17) true (ld v23 H) H λv24 H=> gdA (some v17) true (aC (bi .mul 3 v22 v24) H) H λv25 H=> gdA (some v17) true (aC (bi .lss 3 v20 v25) H) H λv26 H=> bo (aU v17 v26 (B false)) λv27=> gdA (some v27) true (aC (ah v3 2) H) H λv29 H=> gdA (some v27) true (ld v29 H) H λv30 H=> gdA (some v27) true (aC (bi .eql 3 v30 (I 0)) H) H λv31 H=> gdA (some v27) true (aC (some v31) H) H λv32 H=> gdA (some v32) false (aC (ah v3 0) H) H λv33 H=> gdA (some v32) false (ld v33 H) H λv34 H=> gdA (some v32) false (aC (bi .eql 3 v34 (I 2)) H) H λv35 H=> gdA (some v27) true (aC (aU v32 (B true) v35) H) H λv36 H=> gdA (some v27) true (aC (some v36) H) H λv37 H=> gdA (some v37) false (aC (ah v3 0) H) H λv38 H=> gdA (some v37) false (ld v38 H) H λv39 H=> gdA (some v37) false (aC (bi .eql 3 v39 (I 3)) H) H λv40 H=> gdA (some v27) true (aC (aU v37 (B true) v40) H) H λv41 H=> bo (aU v27 v41 (B false)) λv42=>
 some (v42,H)
theorem akk:Rn2 123 xY:=λ_ _ _ _ _ h=>
 rnG an0 Tryz.func123 (by kernel_rfl) (by kernel_rfl) h
def adF(C:Callee)(a0 a1:AV)(H:aj):OA:=
 bnd (aC (jl Tryz.prog true #[3,3] 3 [a0,(I 1)]) H) λv6 H=> bnd (aC (jl Tryz.prog true #[3,3] 3 [a1,(I 1)]) H) λv8 H=> bo (bd 264 [(0,v6),(1,v8)]) λv9=> bnd (fA 264 v9 H) λv10 H=>
 some (v10,H)
theorem akl:Rn2 124 adF:=λ_ _ _ _ _ h=>
 rnG an0 Tryz.func124 (by kernel_rfl) (by kernel_rfl) h
def adG:Ann:=⟨[(4,[2,5,6])],[(5,rF 7 (some true::rF 6 []))],[]⟩
def Bz:=iU Tryz.prog Tryz.f125 31 adG 0
def adH(C:Callee)(a0 a1:AV)(H:aj):OA:=
 bnd (fA 40 a0 H) λv2 H=>
 bnd (lda 8 v2 H) λv7 H=> bo (bd 271 [(0,v7),(1,a1)]) λv9=> bnd (fA 271 v9 H) λv10 H=>
 Bz C [v2,v10,(I 0)] H
theorem Rw(C:Callee)(t2 t5 t6:AV)(H:aj):Bz C [t2,t5,t6] H=
 bo (ah t2 1) λv12=> bnd (ld v12 H) λv13 H=> bo (bi .lss 3 t6 v13) λv14=>
 aI v14
 (bo (au t5) λv19=> bo (ah v19 9) λv20=> bnd (ld v20 H) λv21 H=> bnd (lda 8 t2 H) λv22 H=> bnd (unG H (C 171 [v22,t6] H.guard)) λv24 H=> bo (bd 272 [(0,(I 0)),(1,(I (-1))),(2,v24)]) λv25=> bnd (bs 265 1 [(0,v25)] H) λv26 H=> bnd (app 272 3 40 v21 v26 H) λv27 H=> bo (au t5) λv28=> bo (ah v28 9) λv29=> bnd (st 1 v29 v27 H) λ_ H=>
  bo (bi .add 3 t6 (I 1)) λv16=>
  Bz C [t2,t5,v16] H)
 (some (t5,H)):=
 lpE.trans (by kernel_rfl)
theorem akm:Rn2 125 adH:=λ_ _ _ _ _ h=>
 rnG adG Tryz.func125 (by kernel_rfl) (by kernel_rfl) h
def adI:Ann:=⟨[(3,[0,1,7,8])],[],[]⟩
def BA:=iU Tryz.prog Tryz.f126 19 adI 0
def adJ(C:Callee)(a0 a1:AV)(H:aj):OA:=
 bnd (lnS a0 H) λv7 H=>
 BA C [a0,a1,v7,(I 0)] H
theorem Rx(C:Callee)(t0 t1 t7 t8:AV)(H:aj):BA C [t0,t1,t7,t8] H=
 bo (bi .lss 3 t8 t7) λv9=>
 aI v9
 (bnd (ix 1 t0 t8 H) λv14 H=> bnd (ld v14 H) λv15 H=> bnd (qJ Tryz.prog C t1 [v15] H) λv16 H=>
  aI v16
  (some (t8,H))
  (bo (bi .add 3 t8 (I 1)) λv18=>
  BA C [t0,t1,t7,v18] H))
 (some ((I (-1)),H)):=
 lpE.trans (by kernel_rfl)
theorem akn:Rn2 126 adJ:=λ_ _ _ _ _ h=>
 rnG adI Tryz.func126 (by kernel_rfl) (by kernel_rfl) h
def adK:Ann:=⟨[(3,[0,1,7,8])],[],[]⟩
def BD:=iU Tryz.prog Tryz.f127 19 adK 0
def adL(C:Callee)(a0 a1:AV)(H:aj):OA:=
 bnd (lnS a0 H) λv7 H=>
 BD C [a0,a1,v7,(I 0)] H
theorem Ry(C:Callee)(t0 t1 t7 t8:AV)(H:aj):BD C [t0,t1,t7,t8] H=
 bo (bi .lss 3 t8 t7) λv9=>
 aI v9
 (bnd (ix 3 t0 t8 H) λv14 H=> bnd (lda 3 v14 H) λv15 H=> bnd (qJ Tryz.prog C t1 [v15] H) λv16 H=>
  aI v16
  (some (t8,H))
  (bo (bi .add 3 t8 (I 1)) λv18=>
  BD C [t0,t1,t7,v18] H))
 (some ((I (-1)),H)):=
 lpE.trans (by kernel_rfl)
theorem ako:Rn2 127 adL:=λ_ _ _ _ _ h=>
 rnG adK Tryz.func127 (by kernel_rfl) (by kernel_rfl) h
def XM:Ann:=⟨[(2,[0,1,2,6]),(5,[0,1,2,6,7])],[(4,rF 15 []),(6,rF 18 [])],[]⟩
def rQ:=iU Tryz.prog Tryz.f128 49 XM 0
def BF:=iU Tryz.prog Tryz.f128 49 XM 1
def XO(C:Callee)(a0 a1 a2:AV)(H:aj):OA:=
 bo (bi .add 3 a1 (I 1)) λv9=>
 rQ C [a0,a1,a2,v9] H
theorem Jk(C:Callee)(t0 t1 t2 t6:AV)(H:aj):rQ C [t0,t1,t2,t6] H=
 bo (bi .lss 3 t6 t2) λv12=>
 aI v12
 (BF C [t0,t1,t2,t6,t6] H)
 (some (.tup [],H)):=
 lpE.trans (by kernel_rfl)
theorem Rz(C:Callee)(t0 t1 t2 t6 t7:AV)(H:aj):BF C [t0,t1,t2,t6,t7] H=
 bo (bi .gtr 3 t7 t1) λv18=> gdA (some v18) true (aC (some t0) H) H λv20 H=> gdA (some v18) true (aC (some t7) H) H λv21 H=> gdA (some v18) true (ix 1 v20 v21 H) H λv22 H=> gdA (some v18) true (ld v22 H) H λv23 H=> gdA (some v18) true (aC (some t0) H) H λv24 H=> gdA (some v18) true (aC (some t7) H) H λv25 H=> gdA (some v18) true (aC (bi .sub 3 v25 (I 1)) H) H λv26 H=> gdA (some v18) true (ix 1 v24 v26 H) H λv27 H=> gdA (some v18) true (ld v27 H) H λv28 H=> gdA (some v18) true (C 134 [v23,v28] H) H λv29 H=> bo (aU v18 v29 (B false)) λv30=>
 aI v30
 (bo (bi .sub 3 t7 (I 1)) λv37=> bo (bi .sub 3 t7 (I 1)) λv40=> bnd (ix 1 t0 v40 H) λv41 H=> bnd (ld v41 H) λv42 H=> bnd (ix 1 t0 t7 H) λv45 H=> bnd (ld v45 H) λv46 H=> bnd (ix 1 t0 t7 H) λv47 H=> bnd (st 1 v47 v42 H) λ_ H=> bnd (ix 1 t0 v37 H) λv48 H=> bnd (st 1 v48 v46 H) λ_ H=>
  bo (bi .sub 3 t7 (I 1)) λv32=>
  BF C [t0,t1,t2,t6,v32] H)
 (bo (bi .add 3 t6 (I 1)) λv14=>
  rQ C [t0,t1,t2,v14] H):=
 lpE.trans (by kernel_rfl)
theorem adM:Rn3 128 XO:=λ_ _ _ _ _ _ h=>
 rnG XM Tryz.func128 (by kernel_rfl) (by kernel_rfl) h
def adN(C:Callee)(a0 a1:AV)(H:aj):OA:=
 bnd (C 177 [a0] H) λv6 H=> gdA (some v6) true (aC (some a1) H) H λv8 H=> gdA (some v6) true (C 177 [v8] H) H λv9 H=> gdA (some v6) true (aC (un .not v9) H) H λv10 H=> bo (aU v6 v10 (B false)) λv11=> gdA (some v11) false (aC (some a0) H) H λv13 H=> gdA (some v11) false (aC (some a1) H) H λv14 H=> gdA (some v11) false (aC (bi .lss 3 v13 v14) H) H λv15 H=> bo (aU v11 (B true) v15) λv16=>
 some (v16,H)
theorem akp:Rn2 134 adN:=λ_ _ _ _ _ h=>
 rnG an0 Tryz.func134 (by kernel_rfl) (by kernel_rfl) h
def RD(C:Callee)(t0 t2:AV)(H:aj):OA:=
 bnd (cv 232 5 t0 H) λv21 H=> bo (ixT (.s (Go.Value.string { data:=(([0,1,2,2,3,3,3,3,4,4,4,4,4,4,4,4,5,5,5,5,5,5,5,5,5,5,5,5,5,5,5,5,6,6,6,6,6,6,6,6,6,6,6,6,6,6,6,6,6,6,6,6,6,6,6,6,6,6,6,6,6,6,6,6].append [7,7,7,7,7,7,7,7,7,7,7,7,7,7,7,7,7,7,7,7,7,7,7,7,7,7,7,7,7,7,7,7,7,7,7,7,7,7,7,7,7,7,7,7,7,7,7,7,7,7,7,7,7,7,7,7,7,7,7,7,7,7,7,7]).append ([8,8,8,8,8,8,8,8,8,8,8,8,8,8,8,8,8,8,8,8,8,8,8,8,8,8,8,8,8,8,8,8,8,8,8,8,8,8,8,8,8,8,8,8,8,8,8,8,8,8,8,8,8,8,8,8,8,8,8,8,8,8,8,8].append [8,8,8,8,8,8,8,8,8,8,8,8,8,8,8,8,8,8,8,8,8,8,8,8,8,8,8,8,8,8,8,8,8,8,8,8,8,8,8,8,8,8,8,8,8,8,8,8,8,8,8,8,8,8,8,8,8,8,8,8,8,8,8,8])).toArray })) v21) λv22=> bnd (cv 5 3 v22 H) λv23 H=> bo (bi .add 3 t2 v23) λv24=>
 some (v24,H)
def RF(C:Callee)(t0 t2:AV)(H:aj):OA:=
 bo (bi .geq 232 t0 (.s (Go.Value.int Go.IntKind.u64 256))) λv14=>
 aI v14
 (bo (bi .shr 232 t0 (.s (Go.Value.int Go.IntKind.u64 8))) λv16=>
  bo (bi .add 3 t2 (I 8)) λv18=>
  RD C v16 v18 H)
 (RD C t0 t2 H)
def RG(C:Callee)(t0 t2:AV)(H:aj):OA:=
 bo (bi .geq 232 t0 (.s (Go.Value.int Go.IntKind.u64 65536))) λv8=>
 aI v8
 (bo (bi .shr 232 t0 (.s (Go.Value.int Go.IntKind.u64 16))) λv10=>
  bo (bi .add 3 t2 (I 16)) λv12=>
  RF C v10 v12 H)
 (RF C t0 t2 H)
def akq(C:Callee)(a0:AV)(H:aj):OA:=
 bo (bi .geq 232 a0 (.s (Go.Value.int Go.IntKind.u64 4294967296))) λv4=>
 aI v4
 (bo (bi .shr 232 a0 (.s (Go.Value.int Go.IntKind.u64 32))) λv6=>
  RG C v6 (I 32) H)
 (RG C a0 (I 0) H)
theorem qp:Rn1 138 akq:=λ_ _ _ _ h=>
 rnG an0 Tryz.func138 (by kernel_rfl) (by kernel_rfl) h
def adO(C:Callee)(a0 a1:AV)(H:aj):OA:=
 bnd (fA 40 a0 H) λv2 H=>
 bo (ah v2 0) λv6=> bnd (ld v6 H) λv7 H=> bnd (C 178 [a1,v7] H) λv8 H=>
 some (v8,H)
theorem akr:Rn2 139 adO:=λ_ _ _ _ _ h=>
 rnG an0 Tryz.func139 (by kernel_rfl) (by kernel_rfl) h
def adP(C:Callee)(a0 a1:AV)(H:aj):OA:=
 bnd (fA 40 a0 H) λv2 H=>
 bo (bi .lss 3 a1 (I 0)) λv8=> gdA (some v8) false (aC (some a1) H) H λv10 H=> gdA (some v8) false (aC (ah v2 1) H) H λv11 H=> gdA (some v8) false (ld v11 H) H λv12 H=> gdA (some v8) false (aC (bi .geq 3 v10 v12) H) H λv13 H=> bo (aU v8 (B true) v13) λv14=>
 aI v14
 (some ((.s (Go.Value.slice none 0 0)),H))
 (bo (ah v2 2) λv15=> bnd (ld v15 H) λv16 H=> bnd (mks 3 1 8 [zI] v16 v16 H) λv17 H=>
  bo (ah v2 2) λv19=> bnd (ld v19 H) λv20 H=> bo (bi .mul 3 a1 v20) λv21=> bo (ah v2 7) λv22=> bnd (ld v22 H) λv23 H=> bnd (lnS v23 H) λv24 H=> bnd (aC (jl Tryz.prog false #[3,3] 3 [v21,v24]) H) λv25 H=>
  bo (ah v2 7) λv27=> bnd (ld v27 H) λv28 H=> bo (slS 1 v28 (some v25) none none) λv30=> bnd (cpy 1 v17 v30 H) λv31 H=>
  some (v17,H))
theorem aks:Rn2 140 adP:=λ_ _ _ _ _ h=>
 rnG an0 Tryz.func140 (by kernel_rfl) (by kernel_rfl) h
def XP(C:Callee)(a0:AV)(H:aj):OA:=
 bnd (fA 70 a0 H) λv1 H=>
 bo (ah v1 1) λv5=> bnd (ld v5 H) λv6 H=> bnd (C 179 [v6,(I 0),(I 6)] H) λv7 H=> gdA (some v7) true (aC (ah v1 2) H) H λv9 H=> gdA (some v7) true (ld v9 H) H λv10 H=> gdA (some v7) true (C 179 [v10,(I 0),(I 6)] H) H λv11 H=> bo (aU v7 v11 (B false)) λv12=> gdA (some v12) true (aC (ah v1 3) H) H λv14 H=> gdA (some v12) true (ld v14 H) H λv15 H=> gdA (some v12) true (C 179 [v15,(I 0),(I 4096)] H) H λv16 H=> bo (aU v12 v16 (B false)) λv17=>
 bo (ah v1 0) λv18=> bnd (ld v18 H) λv19 H=> bnd (C 179 [v19,(I 1),(I 10)] H) λv20 H=> gdA (some v20) true (aC (ah v1 4) H) H λv22 H=> gdA (some v20) true (ld v22 H) H λv23 H=> gdA (some v20) true (C 179 [v23,(I 0),(I 8)] H) H λv24 H=> bo (aU v20 v24 (B false)) λv25=> gdA (some v25) true (aC (ah v1 5) H) H λv27 H=> gdA (some v25) true (ld v27 H) H λv28 H=> gdA (some v25) true (C 179 [v28,(I (-1)),(I 6)] H) H λv29 H=> bo (aU v25 v29 (B false)) λv30=>
 bo (un .not v17) λv32=> gdA (some v32) false (aC (some v30) H) H λv34 H=> gdA (some v32) false (aC (un .not v34) H) H λv35 H=> bo (aU v32 (B true) v35) λv36=> gdA (some v36) false (aC (ah v1 6) H) H λv38 H=> gdA (some v36) false (ld v38 H) H λv39 H=> gdA (some v36) false (C 179 [v39,(I 0),(I 3)] H) H λv40 H=> gdA (some v36) false (aC (un .not v40) H) H λv41 H=> bo (aU v36 (B true) v41) λv42=> gdA (some v42) false (aC (ah v1 8) H) H λv44 H=> gdA (some v42) false (ld v44 H) H λv45 H=> gdA (some v42) false (lnS v45 H) H λv46 H=> gdA (some v42) false (aC (bi .gtr 3 v46 (I 4)) H) H λv47 H=> bo (aU v42 (B true) v47) λv48=>
 aI v48
 (some ((I 1),H))
 (some ((I 0),H))
theorem adQ:Rn1 141 XP:=λ_ _ _ _ h=>
 rnG an0 Tryz.func141 (by kernel_rfl) (by kernel_rfl) h
def XQ(C:Callee)(a0:AV)(H:aj):OA:=
 aI a0
 (some ((.s (Go.Value.int Go.IntKind.u8 1)),H))
 (some ((.s (Go.Value.int Go.IntKind.u8 0)),H))
theorem akt:Rn1 142 XQ:=λ_ _ _ _ h=>
 rnG an0 Tryz.func142 (by kernel_rfl) (by kernel_rfl) h
def adR:Ann:=⟨[(4,[0,3,4])],[],[]⟩
def BG:=iU Tryz.prog Tryz.f143 17 adR 0
def adS(C:Callee)(a0:AV)(H:aj):OA:=
 BG C [a0,(.s (Go.Value.slice none 0 0)),(I 56)] H
theorem RH(C:Callee)(t0 t3 t4:AV)(H:aj):BG C [t0,t3,t4] H=
 bo (bi .geq 3 t4 (I 0)) λv6=>
 aI v6
 (bo (bi .shr 3 t0 t4) λv12=> bnd (cv 3 5 v12 H) λv13 H=> bnd (bs 180 1 [(0,v13)] H) λv14 H=> bnd (app 5 1 1 t3 v14 H) λv15 H=>
  bo (bi .sub 3 t4 (I 8)) λv8=>
  BG C [t0,v15,v8] H)
 (some (t3,H)):=
 lpE.trans (by kernel_rfl)
theorem aku:Rn1 143 adS:=λ_ _ _ _ h=>
 rnG adR Tryz.func143 (by kernel_rfl) (by kernel_rfl) h
def adT(C:Callee)(a0:AV)(H:aj):OA:=
 bnd (C 180 [a0] H) λv5 H=>
 bo (bi .shr 33 v5 (.s (Go.Value.int Go.IntKind.u64 8))) λv8=> bnd (cv 33 5 v8 H) λv9 H=> bnd (cv 33 5 v5 H) λv11 H=> bnd (bs 180 2 [(0,v9),(1,v11)] H) λv12 H=> bnd (bs 297 2 [(0,a0),(1,v12)] H) λv13 H=> bnd (C 181 [v13] H) λv14 H=>
 some (v14,H)
theorem akv:Rn1 144 adT:=λ_ _ _ _ h=>
 rnG an0 Tryz.func144 (by kernel_rfl) (by kernel_rfl) h
def RI(C:Callee)(a0:AV)(H:aj):OA:=
 bnd (lnS a0 H) λv6 H=> bo (bi .sub 3 v6 (I 2)) λv7=>
 bo (bi .lss 3 v7 (I 0)) λv9=> gdA (some v9) false (aC (some a0) H) H λv11 H=> gdA (some v9) false (aC (some v7) H) H λv12 H=> gdA (some v9) false (aC (slS 1 v11 none (some v12) none) H) H λv13 H=> gdA (some v9) false (C 144 [v13] H) H λv14 H=> gdA (some v9) false (aC (some a0) H) H λv15 H=> gdA (some v9) false (C 148 [v14,v15] H) H λv16 H=> gdA (some v9) false (aC (un .not v16) H) H λv17 H=> bo (aU v9 (B true) v17) λv18=>
 aI v18
 (some (.tup [(.s (Go.Value.slice none 0 0)),(B false)],H))
 (bo (slS 1 a0 none (some v7) none) λv21=> bnd (C 149 [v21] H) λv22 H=>
  some (.tup [v22,(B true)],H))
theorem XR:Rn1 145 RI:=λ_ _ _ _ h=>
 rnG an0 Tryz.func145 (by kernel_rfl) (by kernel_rfl) h
def Jl(C:Callee)(t2 t3:AV)(H:aj):OA:=
 some ((.fn (.func 182) [] [t2,t3]),H)
def adU(C:Callee)(a0 a1:AV)(H:aj):OA:=
 bnd (fA 180 a0 H) λv2 H=> bnd (fA 3 a1 H) λv3 H=>
 bnd (ld v3 H) λv5 H=> bo (bi .lss 3 v5 (I 1)) λv6=>
 aI v6
 (bnd (stk H) λv7 H=> bnd (stk H) λ_ H=>
  Jl C v2 v3 H)
 (Jl C v2 v3 H)
theorem akw:Rn2 146 adU:=λ_ _ _ _ _ h=>
 rnG an0 Tryz.func146 (by kernel_rfl) (by kernel_rfl) h
def adV:Ann:=⟨[(4,[3,6,7,8])],[],[]⟩
def BH:=iU Tryz.prog Tryz.f147 20 adV 0
def adW(C:Callee)(a0:AV)(H:aj):OA:=
 bnd (lnS a0 H) λv7 H=>
 BH C [(.s (Go.Value.int Go.IntKind.u64 0)),a0,v7,(I 0)] H
theorem RJ(C:Callee)(t3 t6 t7 t8:AV)(H:aj):BH C [t3,t6,t7,t8] H=
 bo (bi .lss 3 t8 t7) λv9=>
 aI v9
 (bnd (ix 1 t6 t8 H) λv10 H=> bnd (ld v10 H) λv11 H=>
  bo (bi .shl 232 t3 (.s (Go.Value.int Go.IntKind.u64 8))) λv13=> bnd (cv 5 232 v11 H) λv15 H=> bo (bi .or 232 v13 v15) λv16=>
  bo (bi .add 3 t8 (I 1)) λv17=>
  BH C [v16,t6,t7,v17] H)
 (bnd (cv 232 3 t3 H) λv19 H=>
  some (v19,H)):=
 lpE.trans (by kernel_rfl)
theorem akx:Rn1 147 adW:=λ_ _ _ _ h=>
 rnG adV Tryz.func147 (by kernel_rfl) (by kernel_rfl) h
def adX(C:Callee)(a0 a1:AV)(H:aj):OA:=
 bnd (cv 180 9 a0 H) λv6 H=> bnd (cv 180 9 a1 H) λv8 H=> bo (bi .eql 9 v6 v8) λv9=>
 some (v9,H)
theorem aky:Rn2 148 adX:=λ_ _ _ _ _ h=>
 rnG an0 Tryz.func148 (by kernel_rfl) (by kernel_rfl) h
def adY(C:Callee)(a0:AV)(H:aj):OA:=
 bo (bi .eql 180 a0 (.s (Go.Value.slice none 0 0))) λv4=>
 aI v4
 (some ((.s (Go.Value.slice none 0 0)),H))
 (bnd (bs 180 0 [] H) λv5 H=> bnd (app 5 1 1 v5 a0 H) λv7 H=>
  some (v7,H))
theorem akz:Rn1 149 adY:=λ_ _ _ _ h=>
 rnG an0 Tryz.func149 (by kernel_rfl) (by kernel_rfl) h
def XT(C:Callee)(a0 a1 a2:AV)(H:aj):OA:=
 bnd (alc 70 [zI,zI,zI,zI,zI,zI,zI,zB,zN] H) λv6 H=>
 bnd (C 50 [a0,a1] H) λv10 H=> bo (un .not v10) λv11=>
 aI v11
 (bo (bd 70 []) λv12=> bnd (st 9 v6 v12 H) λ_ H=>
  bnd (lda 9 v6 H) λr0 _=> some (.tup [r0,(B false)],H))
 (bo (au a0) λv14=> bo (ah v14 0) λv15=> bnd (ld v15 H) λv16 H=> bnd (ix 4 v16 a1 H) λv18 H=> bnd (lda 4 v18 H) λv19 H=> bnd (C 63 [v19,a2] H) λv21 H=> bo (fl v21 1) λv22=> bnd (C 183 [v22] H) λv23 H=> bo (aF v23 0) λv24=> bo (aF v23 1) λv25=> bnd (st 9 v6 v24 H) λ_ H=>
  bnd (lda 9 v6 H) λr0 _=> some (.tup [r0,v25],H))
theorem adZ:Rn3 150 XT:=λ_ _ _ _ _ _ h=>
 rnG an0 Tryz.func150 (by kernel_rfl) (by kernel_rfl) h
def Ej(C:Callee)(a0 a1 a2 a3:AV)(H:aj):OA:=
 bnd (fA 57 a0 H) λv4 H=> bnd (fA 70 a3 H) λv7 H=> bnd (alc 57 [zI,zI,zI,zI,zI,zI,zN,zI,zI] H) λv8 H=>
 bo (ah v4 0) λv10=> bnd (ld v10 H) λv11 H=> bo (bi .neq 3 v11 (I 1)) λv12=> gdA (some v12) false (lda 9 v4 H) H λv14 H=> gdA (some v12) false (lda 9 v7 H) H λv15 H=> gdA (some v12) false (C 184 [v14,v15] H) H λv16 H=> gdA (some v12) false (aC (un .not v16) H) H λv17 H=> bo (aU v12 (B true) v17) λv18=>
 aI v18
 (bo (bd 57 []) λv19=> bnd (st 9 v8 v19 H) λ_ H=>
  bnd (lda 9 v8 H) λr0 _=> some (.tup [r0,(B false)],H))
 (bo (ah v4 3) λv20=> bnd (ld v20 H) λv21 H=>
  bo (bi .eql 3 v21 (I 1)) λv23=>
  aI v23
  (bnd (lda 9 v4 H) λv24 H=> bnd (lda 9 v7 H) λv27 H=> bnd (C 185 [v24,a1,a2,v27] H) λv28 H=> bo (aF v28 0) λv29=> bo (aF v28 1) λv30=> bnd (st 9 v8 v29 H) λ_ H=>
  bnd (lda 9 v8 H) λr0 _=> some (.tup [r0,v30],H))
  (bo (bi .eql 3 v21 (I 2)) λv32=>
  aI v32
  (bnd (lda 9 v4 H) λv33 H=> bnd (lda 9 v7 H) λv36 H=> bnd (C 186 [v33,a1,a2,v36] H) λv37 H=> bo (aF v37 0) λv38=> bo (aF v37 1) λv39=> bnd (st 9 v8 v38 H) λ_ H=>
   bnd (lda 9 v8 H) λr0 _=> some (.tup [r0,v39],H))
  (bo (bi .eql 3 v21 (I 6)) λv41=>
   aI v41
   (bo (ah v4 3) λv42=> bnd (st 1 v42 (I 0) H) λ_ H=>
   bnd (lda 9 v4 H) λv43 H=> bnd (st 9 v8 v43 H) λ_ H=>
   bnd (lda 9 v8 H) λr0 _=> some (.tup [r0,(B true)],H))
   (bo (bd 57 []) λv44=> bnd (st 9 v8 v44 H) λ_ H=>
   bnd (lda 9 v8 H) λr0 _=> some (.tup [r0,(B false)],H)))))
theorem akA:Rn4 151 Ej:=λ_ _ _ _ _ _ _ h=>
 rnG an0 Tryz.func151 (by kernel_rfl) (by kernel_rfl) h
def akB:Ann:=⟨[],[(6,rF 8 (some true::rF 8 []))],[(6,[(3,10),(5,10),(5,12)])]⟩
def BI(C:Callee)(t1 t2 t4 t8:AV)(H:aj):OA:=
 bo (ah t4 5) λv50=> bnd (ld v50 H) λv51 H=> bo (ah t4 7) λv52=> bnd (st 1 v52 v51 H) λ_ H=>
 bnd (lda 9 t4 H) λv53 H=> bnd (C 187 [v53,t1,t2] H) λv56 H=> bnd (st 9 t8 v56 H) λ_ H=>
 bnd (lda 9 t8 H) λr0 _=> some (.tup [r0,(B true)],H)
def BJ(C:Callee)(t1 t2 t4 t7 t8:AV)(H:aj):OA:=
 bo (ah t7 5) λv65=> bnd (ld v65 H) λv66 H=> bo (ah t4 7) λv67=> bnd (st 1 v67 v66 H) λ_ H=>
 bnd (lda 9 t4 H) λv68 H=> bnd (C 187 [v68,t1,t2] H) λv71 H=> bnd (st 9 t8 v71 H) λ_ H=>
 bnd (lda 9 t8 H) λr0 _=> some (.tup [r0,(B true)],H)
def xZ(C:Callee)(a0 a1 a2 a3:AV)(H:aj):OA:=
 bnd (fA 57 a0 H) λv4 H=> bnd (fA 70 a3 H) λv7 H=> bnd (alc 57 [zI,zI,zI,zI,zI,zI,zN,zI,zI] H) λv8 H=>
 bo (ah v4 0) λv12=> bnd (ld v12 H) λv13 H=> bo (bi .neq 3 v13 (I 2)) λv14=> gdA (some v14) false (lda 9 v4 H) H λv16 H=> gdA (some v14) false (lda 9 v7 H) H λv17 H=> gdA (some v14) false (C 184 [v16,v17] H) H λv18 H=> gdA (some v14) false (aC (un .not v18) H) H λv19 H=> bo (aU v14 (B true) v19) λv20=>
 aI v20
 (bo (bd 57 []) λv21=> bnd (st 9 v8 v21 H) λ_ H=>
  bnd (lda 9 v8 H) λr0 _=> some (.tup [r0,(B false)],H))
 (bo (ah v4 1) λv24=> bnd (ld v24 H) λv25 H=> bnd (C 37 [a2,v25] H) λv26 H=> bo (aF v26 0) λv27=> bo (aF v26 1) λv28=> bnd (alc 93 [zI,zI,zI,zI,zB,zN] H) λv10 H=> bnd (st 6 v10 v27 H) λ_ H=>
  bo (ah v4 3) λv29=> bnd (ld v29 H) λv30 H=>
  bo (bi .eql 3 v30 (I 1)) λv32=>
  aI v32
  (bo (ah v7 6) λv33=> bnd (ld v33 H) λv34 H1=> bo (ah v7 5) λv35=> bnd (ld v35 H1) λv36 H3=> bo (ah v7 5) λv37=> bnd (ld v37 H3) λv38 H5=> bo (ah v7 8) λv39=> bnd (ld v39 H5) λv40 H7=> bnd (unG H7 (C 46 [v40] H7.guard)) λv41 H8=> bo (ah v4 4) λv42=> bnd (st 1 v42 v34 H8) λ_ H10=> bo (ah v4 5) λv43=> bnd (st 1 v43 v36 H10) λ_ H12=> bo (ah v4 8) λv44=> bnd (st 1 v44 v38 H12) λ_ H14=> bo (ah v4 6) λv45=> bnd (st 1 v45 v41 H14) λ_ H16=> ck (aT v35) H8 H10 <| ck (aT v37) H8 H10 <| ck (aT v37) H10 H12 <|
  aI v28
  (bo (ah v10 5) λv47=> bnd (ld v47 H16) λv48 H16=> bo (ah v4 6) λv49=> bnd (st 1 v49 v48 H16) λ_ H16=>
   BI C a1 a2 v4 v8 H16)
  (BI C a1 a2 v4 v8 H16))
  (bo (bi .eql 3 v30 (I 3)) λv58=>
  aI v58
  (bo (un .not v28) λv60=>
   aI v60
   (bo (ah v7 8) λv61=> bnd (ld v61 H) λv62 H=> bnd (C 46 [v62] H) λv63 H=> bo (ah v4 6) λv64=> bnd (st 1 v64 v63 H) λ_ H=>
   BJ C a1 a2 v4 v7 v8 H)
   (BJ C a1 a2 v4 v7 v8 H))
  (bo (bi .eql 3 v30 (I 6)) λv73=>
   aI v73
   (bo (ah v4 3) λv74=> bnd (st 1 v74 (I 0) H) λ_ H=>
   bnd (lda 9 v4 H) λv75 H=> bnd (st 9 v8 v75 H) λ_ H=>
   bnd (lda 9 v8 H) λr0 _=> some (.tup [r0,(B true)],H))
   (bo (bd 57 []) λv76=> bnd (st 9 v8 v76 H) λ_ H=>
   bnd (lda 9 v8 H) λr0 _=> some (.tup [r0,(B false)],H)))))
theorem akC:Rn4 152 xZ:=λ_ _ _ _ _ _ _ h=>
 rnG akB Tryz.func152 (by kernel_rfl) (by kernel_rfl) h
def vU(C:Callee)(a0 a1 a2 a3:AV)(H:aj):OA:=
 bnd (fA 57 a0 H) λv4 H=> bnd (fA 70 a3 H) λv7 H=> bnd (alc 57 [zI,zI,zI,zI,zI,zI,zN,zI,zI] H) λv8 H=>
 bo (ah v4 0) λv10=> bnd (ld v10 H) λv11 H=> bo (bi .neq 3 v11 (I 3)) λv12=> gdA (some v12) false (lda 9 v4 H) H λv14 H=> gdA (some v12) false (lda 9 v7 H) H λv15 H=> gdA (some v12) false (C 184 [v14,v15] H) H λv16 H=> gdA (some v12) false (aC (un .not v16) H) H λv17 H=> bo (aU v12 (B true) v17) λv18=>
 aI v18
 (bo (bd 57 []) λv19=> bnd (st 9 v8 v19 H) λ_ H=>
  bnd (lda 9 v8 H) λr0 _=> some (.tup [r0,(B false)],H))
 (bo (ah v4 3) λv20=> bnd (ld v20 H) λv21 H=>
  bo (bi .eql 3 v21 (I 1)) λv23=>
  aI v23
  (bnd (lda 9 v4 H) λv24 H=> bnd (lda 9 v7 H) λv26 H=> bnd (C 188 [v24,a2,v26] H) λv27 H=> bnd (st 9 v8 v27 H) λ_ H=>
  bnd (lda 9 v8 H) λr0 _=> some (.tup [r0,(B true)],H))
  (bo (bi .eql 3 v21 (I 4)) λv29=>
  aI v29
  (bo (ah v4 7) λv30=> bnd (ld v30 H) λv31 H=> bo (bi .eql 3 v31 (I (-1))) λv32=>
   aI v32
   (bnd (lda 9 v4 H) λv33 H=> bo (ah v4 8) λv35=> bnd (ld v35 H) λv36 H=> bnd (C 189 [v33,a2,v36] H) λv37 H=> bnd (st 9 v8 v37 H) λ_ H=>
   bnd (lda 9 v8 H) λr0 _=> some (.tup [r0,(B true)],H))
   (bo (ah v4 3) λv38=> bnd (st 1 v38 (I 5) H) λ_ H=>
   bnd (lda 9 v4 H) λv39 H=> bnd (st 9 v8 v39 H) λ_ H=>
   bnd (lda 9 v8 H) λr0 _=> some (.tup [r0,(B true)],H)))
  (bo (bi .eql 3 v21 (I 5)) λv41=>
   aI v41
   (bo (ah v4 5) λv42=> bnd (ld v42 H) λv43 H=> bo (bi .eql 3 v43 (I (-1))) λv44=>
   aI v44
   (bnd (lda 9 v4 H) λv45 H=> bo (ah v4 7) λv47=> bnd (ld v47 H) λv48 H=> bnd (C 189 [v45,a2,v48] H) λv49 H=> bnd (st 9 v8 v49 H) λ_ H=>
    bnd (lda 9 v8 H) λr0 _=> some (.tup [r0,(B true)],H))
   (bnd (lda 9 v4 H) λv50 H=> bo (ah v4 8) λv52=> bnd (ld v52 H) λv53 H=> bnd (C 189 [v50,a2,v53] H) λv54 H=> bnd (st 9 v8 v54 H) λ_ H=>
    bnd (lda 9 v8 H) λr0 _=> some (.tup [r0,(B true)],H)))
   (bo (bi .eql 3 v21 (I 6)) λv56=>
   aI v56
   (bo (ah v4 3) λv57=> bnd (st 1 v57 (I 0) H) λ_ H=>
    bnd (lda 9 v4 H) λv58 H=> bnd (st 9 v8 v58 H) λ_ H=>
    bnd (lda 9 v8 H) λr0 _=> some (.tup [r0,(B true)],H))
   (bo (bd 57 []) λv59=> bnd (st 9 v8 v59 H) λ_ H=>
    bnd (lda 9 v8 H) λr0 _=> some (.tup [r0,(B false)],H))))))
theorem akD:Rn4 153 vU:=λ_ _ _ _ _ _ _ h=>
 rnG an0 Tryz.func153 (by kernel_rfl) (by kernel_rfl) h
def XU(C:Callee)(a0 a1:AV)(H:aj):OA:=
 bo (au a0) λv6=> bo (ah v6 2) λv7=> bnd (ld v7 H) λv8 H=> bo (un .not v8) λv9=>
 aI v9
 (some ((I 6),H))
 (bo (au a0) λv13=> bo (ah v13 1) λv14=> bnd (ld v14 H) λv15 H=> bnd (bs 22 1 [(0,a1)] H) λv17 H=> bnd (app 3 1 8 v15 v17 H) λv18 H=> bo (au a0) λv19=> bo (ah v19 1) λv20=> bnd (st 1 v20 v18 H) λ_ H=> bo (au a0) λv21=> bo (ah v21 2) λv22=> bnd (st 1 v22 (B false) H) λ_ H=>
  some ((I 0),H))
theorem ad1:Rn2 154 XU:=λ_ _ _ _ _ h=>
 rnG an0 Tryz.func154 (by kernel_rfl) (by kernel_rfl) h
def ad2(C:Callee)(a0 a1 a2 a3:AV)(H:aj):OA:=
 bo (au a0) λv10=> bo (ah v10 0) λv11=> bnd (ld v11 H) λv12 H=> bo (bd 51 [(0,a1),(1,a2),(2,(B true)),(3,a3)]) λv16=> bnd (bs 48 1 [(0,v16)] H) λv17 H=> bnd (app 51 4 32 v12 v17 H) λv18 H=> bo (au a0) λv19=> bo (ah v19 0) λv20=> bnd (st 1 v20 v18 H) λ_ H=>
 some (.tup [],H)
theorem akE:Rn4 155 ad2:=λ_ _ _ _ _ _ _ h=>
 rnG an0 Tryz.func155 (by kernel_rfl) (by kernel_rfl) h
def RN(C:Callee)(a0 a1 a2:AV)(H:aj):OA:=
 bo (au a0) λv8=> bo (ah v8 4) λv9=> bnd (ld v9 H) λv10 H=> bo (un .not v10) λv11=> gdA (some v11) false (aC (some a0) H) H λv13 H=> gdA (some v11) false (aC (au v13) H) H λv14 H=> gdA (some v11) false (lda 6 v14 H) H λv15 H=> gdA (some v11) false (aC (some a1) H) H λv16 H=> gdA (some v11) false (C 73 [v15,v16] H) H λv17 H=> gdA (some v11) false (aC (un .not v17) H) H λv18 H=> bo (aU v11 (B true) v18) λv19=>
 aI v19
 (some ((B false),H))
 (bo (au a0) λv22=> bo (ah v22 5) λv23=> bnd (ld v23 H) λv24 H=> bnd (C 46 [v24] H) λv25 H=> bo (au a0) λv26=> bo (ah v26 5) λv27=> bnd (st 1 v27 v25 H) λ_ H=>
  bo (au a0) λv29=> bo (ah v29 5) λv30=> bnd (ld v30 H) λv31 H=> bnd (ix 1 v31 a1 H) λv34 H=> bnd (st 1 v34 a2 H) λ_ H=>
  some ((B true),H))
theorem XV:Rn3 156 RN:=λ_ _ _ _ _ _ h=>
 rnG an0 Tryz.func156 (by kernel_rfl) (by kernel_rfl) h
def akF:Ann:=⟨[],[(7,rF 8 []),(13,rF 11 [])],[]⟩
def L9(C:Callee)(a0 a1:AV)(H:aj):OA:=
 bnd (fA 93 a1 H) λv3 H=>
 bnd (lda 6 v3 H) λv6 H=> bnd (C 72 [v6] H) λv7 H=> bnd (st 6 v3 v7 H) λ_ H=>
 bo (ah v3 2) λv8=> bnd (ld v8 H) λv9 H=> bo (bi .lss 3 v9 (I 0)) λv10=>
 aI v10
 (some ((I 1),H))
 (bo (ah v3 2) λv12=> bnd (ld v12 H) λv13 H=> bnd (C 71 [a0,v13] H) λv14 H=>
  bo (bi .geq 3 v14 (I 0)) λv16=>
  aI v16
  (bo (au a0) λv18=> bo (ah v18 0) λv19=> bnd (ld v19 H) λv20 H=> bnd (ix 6 v20 v14 H) λv22 H=> bo (ah v22 3) λv23=> bnd (ld v23 H) λv24 H=> bo (ah v3 3) λv25=> bnd (st 1 v25 v24 H) λ_ H=>
  bo (au a0) λv27=> bo (ah v27 0) λv28=> bnd (ld v28 H) λv29 H=> bnd (lda 6 v3 H) λv31 H=> bnd (ix 6 v29 v14 H) λv32 H=> bnd (st 6 v32 v31 H) λ_ H=>
  some ((I 0),H))
  (bo (ah v3 2) λv34=> bnd (ld v34 H) λv35 H=> bnd (C 117 [a0,v35] H) λv36 H=>
  aI v36
  (some ((I 5),H))
  (bo (au a0) λv38=> bo (ah v38 3) λv39=> bnd (ld v39 H) λv40 H=> bo (bi .add 3 v40 (I 1)) λv41=> bo (au a0) λv42=> bo (ah v42 3) λv43=> bnd (st 1 v43 v41 H) λ_ H=>
   bo (au a0) λv45=> bo (ah v45 3) λv46=> bnd (ld v46 H) λv47 H=> bo (ah v3 3) λv48=> bnd (st 1 v48 v47 H) λ_ H=>
   bo (au a0) λv51=> bo (ah v51 0) λv52=> bnd (ld v52 H) λv53 H=> bnd (lda 6 v3 H) λv54 H=> bnd (bs 131 1 [(0,v54)] H) λv55 H=> bnd (app 93 6 64 v53 v55 H) λv56 H=> bo (au a0) λv57=> bo (ah v57 0) λv58=> bnd (st 1 v58 v56 H) λ_ H=>
   some ((I 0),H))))
theorem akG:Rn2 157 L9:=λ_ _ _ _ _ h=>
 rnG akF Tryz.func157 (by kernel_rfl) (by kernel_rfl) h
def akH:Ann:=⟨[],[(1,some false::some false::some true::rF 7 (none::some false::[])),(11,rF 8 []),(13,rF 8 []),(15,rF 10 (some true::rF 8 []))],[(11,[(3,5)]),(13,[(3,5)]),(15,[(3,12),(5,12),(5,14),(6,12),(6,14)])]⟩
def lS(C:Callee)(t6 t7:AV)(H:aj):OA:=
 bnd (lda 9 t7 H) λv69 H=> bnd (st 9 t6 v69 H) λ_ H=>
 bnd (lda 9 t6 H) λr0 _=> some (r0,H)
def Ak(C:Callee)(a0 a1 a2:AV)(H:aj):OA:=
 bnd (fA 57 a0 H) λv3 H=> bnd (alc 70 [zI,zI,zI,zI,zI,zI,zI,zB,zN] H) λv6 H=>
 bnd (alc 70 [zI,zI,zI,zI,zI,zI,zI,zB,zN] H) λv7 H=> bo (ah v3 3) λv8=> bnd (ld v8 H) λv9 H=> bnd (unG H (C 190 [v9] H.guard)) λv10 H=> bo (ah v3 2) λv13=> bnd (ld v13 H) λv14 H=> bo (ah v3 1) λv15=> bnd (ld v15 H) λv16 H=> bo (bd 70 [(0,v10),(1,a1),(2,a2),(3,v14),(4,v16)]) λv17=> bnd (st 9 v7 v17 H) λ_ H=>
 bo (ah v3 3) λv18=> bnd (ld v18 H) λv19 H=>
 bo (bi .eql 3 v19 (I 1)) λv22=>
 aI v22
 (bnd (lda 9 v7 H) λv23 H=> bnd (st 9 v6 v23 H) λ_ H=>
  bnd (lda 9 v6 H) λr0 _=> some (r0,H))
 (bo (bi .eql 3 v19 (I 2)) λv25=>
  aI v25
  (bo (ah v3 5) λv26=> bnd (ld v26 H) λv27 H=> bo (ah v7 2) λv29=> bnd (st 1 v29 v27 H) λ_ H=> bo (ah v7 5) λv30=> bnd (st 1 v30 a1 H) λ_ H=>
  lS C v6 v7 H)
  (bo (bi .eql 3 v19 (I 3)) λv32=>
  aI v32
  (bo (ah v3 7) λv33=> bnd (ld v33 H) λv34 H=> bo (ah v7 2) λv35=> bnd (st 1 v35 v34 H) λ_ H=>
   lS C v6 v7 H)
  (bo (bi .eql 3 v19 (I 4)) λv37=>
   aI v37
   (bo (ah v3 5) λv38=> bnd (ld v38 H) λv39 H1=> bo (ah v3 7) λv40=> bnd (ld v40 H1) λv41 H3=> bo (ah v7 2) λv42=> bnd (st 1 v42 v39 H3) λ_ H5=> bo (ah v7 5) λv43=> bnd (st 1 v43 v41 H5) λ_ H7=> ck (aT v40) H3 H5 <|
   lS C v6 v7 H7)
   (bo (bi .eql 3 v19 (I 5)) λv45=>
   aI v45
   (bo (ah v3 7) λv46=> bnd (ld v46 H) λv47 aoO=> bo (ah v3 5) λv48=> bnd (ld v48 aoO) λv49 ahe=> bo (ah v7 2) λv50=> bnd (st 1 v50 v47 ahe) λ_ aj6=> bo (ah v7 5) λv51=> bnd (st 1 v51 v49 aj6) λ_ ap4=> ck (aT v48) ahe aj6 <|
    lS C v6 v7 ap4)
   (bo (bi .eql 3 v19 (I 6)) λv53=>
    aI v53
    (bo (ah v3 4) λv54=> bnd (ld v54 H) λv55 ap5=> bo (ah v3 5) λv56=> bnd (ld v56 ap5) λv57 ap6=> bo (ah v3 6) λv58=> bnd (ld v58 ap6) λv59 amL=> bnd (lnS v59 amL) λv60 ap7=> bo (bi .gtr 3 v60 (I 0)) λv61=> bo (ah v3 6) λv62=> bnd (ld v62 ap7) λv63 H9=> bnd (unG H9 (C 46 [v63] H9.guard)) λv64 H10=> bo (ah v7 6) λv65=> bnd (st 1 v65 v55 H10) λ_ H12=> bo (ah v7 5) λv66=> bnd (st 1 v66 v57 H12) λ_ H14=> bo (ah v7 7) λv67=> bnd (st 1 v67 v61 H14) λ_ H16=> bo (ah v7 8) λv68=> bnd (st 1 v68 v64 H16) λ_ H18=> ck (aT v56) H10 H12 <| ck (aT v58) H10 H12 <| ck (aT v58) H12 H14 <| ck (aT v59) H10 H12 <| ck (aT v59) H12 H14 <|
    lS C v6 v7 H18)
    (bo (bd 70 []) λv20=> bnd (st 9 v6 v20 H) λ_ H=>
    bnd (lda 9 v6 H) λr0 _=> some (r0,H)))))))
theorem akI:Rn3 158 Ak:=λ_ _ _ _ _ _ h=>
 rnG akH Tryz.func158 (by kernel_rfl) (by kernel_rfl) h
def ad3:Ann:=⟨[(4,[0,3,11,12,13])],[],[]⟩
def BK:=iU Tryz.prog Tryz.f159 33 ad3 0
def x8(C:Callee)(t0 t3 t11 t12 t13:AV)(H:aj):OA:=
 bo (bi .add 3 t13 (I 1)) λv31=>
 BK C [t0,t3,t11,t12,v31] H
def ad4(C:Callee)(a0:AV)(H:aj):OA:=
 bo (au a0) λv7=> bo (ah v7 1) λv8=> bnd (ld v8 H) λv9 H=> bnd (C 192 [v9] H) λv10 H=> bnd (C 191 [v10] H) λv11 H=> bnd (lnS v11 H) λv12 H=>
 BK C [a0,(.s (Go.Value.slice none 0 0)),v11,v12,(I 0)] H
theorem RP(C:Callee)(t0 t3 t11 t12 t13:AV)(H:aj):BK C [t0,t3,t11,t12,t13] H=
 bo (bi .lss 3 t13 t12) λv14=>
 aI v14
 (bnd (ix 1 t11 t13 H) λv15 H=> bnd (ld v15 H) λv16 H=>
  bnd (C 193 [t0,v16] H) λv19 H=> bo (un .not v19) λv20=> gdA (some v20) true (aC (some t0) H) H λv22 H=> gdA (some v20) true (aC (some v16) H) H λv23 H=> gdA (some v20) true (C 194 [v22,v23] H) H λv24 H=> gdA (some v20) true (aC (bi .gtr 3 v24 (I 0)) H) H λv25 H=> bo (aU v20 v25 (B false)) λv26=>
  aI v26
  (bnd (bs 22 1 [(0,v16)] H) λv29 H=> bnd (app 3 1 8 t3 v29 H) λv30 H=>
  x8 C t0 v30 t11 t12 t13 H)
  (x8 C t0 t3 t11 t12 t13 H))
 (some (t3,H)):=
 lpE.trans (by kernel_rfl)
theorem akJ:Rn1 159 ad4:=λ_ _ _ _ h=>
 rnG ad3 Tryz.func159 (by kernel_rfl) (by kernel_rfl) h
def akK:Ann:=⟨[],[(1,rF 11 [])],[]⟩
def ad5(C:Callee)(a0:AV)(H:aj):OA:=
 bo (au a0) λv4=> bo (ah v4 1) λv5=> bnd (ld v5 H) λv6 H=> bo (au a0) λv8=> bo (ah v8 0) λv9=> bnd (ld v9 H) λv10 H=> bnd (lnS v10 H) λv11 H=> bo (bi .sub 3 v6 v11) λv12=>
 some (v12,H)
theorem akL:Rn1 160 ad5:=λ_ _ _ _ h=>
 rnG akK Tryz.func160 (by kernel_rfl) (by kernel_rfl) h
def akM:Ann:=⟨[],[(4,rF 13 []),(5,rF 8 []),(6,rF 7 [])],[]⟩
def RQ(C:Callee)(a0 a1:AV)(H:aj):OA:=
 bnd (C 193 [a0,a1] H) λv10 H=> gdA (some v10) false (aC (some a0) H) H λv12 H=> gdA (some v10) false (aC (some a1) H) H λv13 H=> gdA (some v10) false (C 194 [v12,v13] H) H λv14 H=> gdA (some v10) false (aC (bi .eql 3 v14 (I 0)) H) H λv15 H=> bo (aU v10 (B true) v15) λv16=>
 aI v16
 (some (.tup [(I 0),(I 0),(B false)],H))
 (bo (au a0) λv18=> bo (ah v18 1) λv19=> bnd (ld v19 H) λv20 H=> bnd (lk .i64 (.slice none 0 0) v20 a1 false H) λv22 H=> bnd (ix 2 v22 (I 0) H) λv23 H=> bnd (lda 2 v23 H) λv24 H=> bnd (alc 293 [zI,zI] H) λv7 H=> bnd (st 2 v7 v24 H) λ_ H=>
  bo (au a0) λv26=> bo (ah v26 1) λv27=> bnd (ld v27 H) λv28 H=> bo (au a0) λv31=> bo (ah v31 1) λv32=> bnd (ld v32 H) λv33 H=> bnd (lk .i64 (.slice none 0 0) v33 a1 false H) λv35 H=> bo (slS 2 v35 (some (I 1)) none none) λv36=> bnd (mup .i64 v28 a1 v36 H) λ_ H=>
  bo (au a0) λv38=> bo (ah v38 0) λv39=> bnd (ld v39 H) λv40 H=> bo (ah v7 0) λv42=> bnd (ld v42 H) λv43 H=> bnd (mup .i64 v40 a1 v43 H) λ_ H=>
  bo (ah v7 0) λv44=> bnd (ld v44 H) λv45 H=> bo (ah v7 1) λv46=> bnd (ld v46 H) λv47 H=>
  some (.tup [v45,v47,(B true)],H))
theorem akN:Rn2 161 RQ:=λ_ _ _ _ _ h=>
 rnG akM Tryz.func161 (by kernel_rfl) (by kernel_rfl) h
def akO:Ann:=⟨[],[(2,rF 15 [])],[]⟩
def ad6(C:Callee)(a0 a1 a2 a3:AV)(H:aj):OA:=
 bnd (alc 70 [zI,zI,zI,zI,zI,zI,zI,zB,zN] H) λv8 H=>
 bo (au a0) λv13=> bo (ah v13 0) λv14=> bnd (ld v14 H) λv15 H=> bnd (C 74 [v15,a1] H) λv17 H=> bo (aF v17 0) λv18=> bo (aF v17 1) λv19=> bnd (alc 100 [zI,zI,zN] H) λv9 H=> bnd (st 3 v9 v18 H) λ_ H=>
 bo (au a0) λv21=> bo (ah v21 10) λv22=> bnd (ld v22 H) λv23 H=> bo (ah v9 0) λv27=> bnd (ld v27 H) λv28 H=> bo (ah v9 1) λv29=> bnd (ld v29 H) λv30 H=> bo (ah v9 2) λv31=> bnd (ld v31 H) λv32 H=> bo (bd 70 [(0,(I 7)),(1,v23),(2,a2),(3,a3),(4,a1),(6,v28),(5,v30),(8,v32)]) λv33=> bnd (st 9 v8 v33 H) λ_ H=>
 bnd (lda 9 v8 H) λr0 _=> some (r0,H)
theorem akP:Rn4 162 ad6:=λ_ _ _ _ _ _ _ h=>
 rnG akO Tryz.func162 (by kernel_rfl) (by kernel_rfl) h
def akQ:Ann:=⟨[],[(3,rF 6 (some true::rF 5 []))],[]⟩
def XW(C:Callee)(a0 a1:AV)(H:aj):OA:=
 bnd (fA 70 a1 H) λv3 H=>
 bnd (C 160 [a0] H) λv6 H=> bo (bi .eql 3 v6 (I 0)) λv7=>
 aI v7
 (some ((I 5),H))
 (bo (au a0) λv10=> bo (ah v10 0) λv11=> bnd (ld v11 H) λv12 H=> bnd (lda 9 v3 H) λv13 H=> bnd (unG H (C 82 [v13] H.guard)) λv14 H=> bnd (bs 162 1 [(0,v14)] H) λv15 H=> bnd (app 70 9 88 v12 v15 H) λv16 H=> bo (au a0) λv17=> bo (ah v17 0) λv18=> bnd (st 1 v18 v16 H) λ_ H=>
  some ((I 0),H))
theorem ad7:Rn2 163 XW:=λ_ _ _ _ _ h=>
 rnG akQ Tryz.func163 (by kernel_rfl) (by kernel_rfl) h
def akR:Ann:=⟨[],[(1,rF 23 []),(4,rF 6 (some true::rF 15 [])),(7,rF 12 []),(13,rF 14 [])],[]⟩
def qw(C:Callee)(a0 a1:AV)(H:aj):OA:=
 bnd (fA 70 a1 H) λv3 H=> bnd (alc 70 [zI,zI,zI,zI,zI,zI,zI,zB,zN] H) λv4 H=>
 bnd (lda 9 v3 H) λv9 H=> bnd (C 141 [v9] H) λv10 H=> bo (bi .eql 76 v10 (I 0)) λv11=> gdA (some v11) true (aC (ah v3 2) H) H λv13 H=> gdA (some v11) true (ld v13 H) H λv14 H=> gdA (some v11) true (aC (some a0) H) H λv15 H=> gdA (some v11) true (aC (au v15) H) H λv16 H=> gdA (some v11) true (aC (ah v16 10) H) H λv17 H=> gdA (some v11) true (ld v17 H) H λv18 H=> gdA (some v11) true (aC (bi .eql 3 v14 v18) H) H λv19 H=> bo (aU v11 v19 (B false)) λv20=> gdA (some v20) true (aC (ah v3 1) H) H λv22 H=> gdA (some v20) true (ld v22 H) H λv23 H=> gdA (some v20) true (aC (some a0) H) H λv24 H=> gdA (some v20) true (aC (au v24) H) H λv25 H=> gdA (some v20) true (aC (ah v25 2) H) H λv26 H=> gdA (some v20) true (aC (ah v26 0) H) H λv27 H=> gdA (some v20) true (ld v27 H) H λv28 H=> gdA (some v20) true (aC (bi .lss 3 v23 v28) H) H λv29 H=> bo (aU v20 v29 (B false)) λv30=>
 bo (un .not v30) λv32=> gdA (some v32) false (aC (ah v3 0) H) H λv34 H=> gdA (some v32) false (ld v34 H) H λv35 H=> gdA (some v32) false (aC (bi .neq 3 v35 (I 1)) H) H λv36 H=> gdA (some v32) false (aC (some v36) H) H λv37 H=> gdA (some v37) true (aC (ah v3 0) H) H λv38 H=> gdA (some v37) true (ld v38 H) H λv39 H=> gdA (some v37) true (aC (bi .neq 3 v39 (I 2)) H) H λv40 H=> gdA (some v32) false (aC (aU v37 v40 (B false)) H) H λv41 H=> bo (aU v32 (B true) v41) λv42=>
 aI v42
 (bo (bd 70 []) λv43=> bnd (st 9 v4 v43 H) λ_ H=>
  bnd (lda 9 v4 H) λr0 _=> some (.tup [r0,(B false),(I 1)],H))
 (bo (au a0) λv45=> bo (ah v45 2) λv46=> bnd (lda 8 v46 H) λv47 H=> bo (ah v3 4) λv48=> bnd (ld v48 H) λv49 H=> bnd (unG H (C 139 [v47,v49] H.guard)) λv50 H=> bo (au a0) λv52=> bo (ah v52 10) λv53=> bnd (ld v53 H) λv54 H=> bo (bi .neq 3 v50 v54) λv55=> gdA (some v55) false (aC (ah v3 4) H) H λv57 H=> gdA (some v55) false (ld v57 H) H λv58 H=> gdA (some v55) false (aC (some a0) H) H λv59 H=> gdA (some v55) false (aC (au v59) H) H λv60 H=> gdA (some v55) false (aC (ah v60 2) H) H λv61 H=> gdA (some v55) false (aC (ah v61 1) H) H λv62 H=> gdA (some v55) false (ld v62 H) H λv63 H=> gdA (some v55) false (aC (bi .geq 3 v58 v63) H) H λv64 H=> bo (aU v55 (B true) v64) λv65=>
  aI v65
  (bo (bd 70 []) λv66=> bnd (st 9 v4 v66 H) λ_ H=>
  bnd (lda 9 v4 H) λr0 _=> some (.tup [r0,(B false),(I 3)],H))
  (bo (ah v3 0) λv67=> bnd (ld v67 H) λv68 H=> bo (bi .eql 3 v68 (I 1)) λv69=>
  aI v69
  (bo (au a0) λv71=> bo (ah v71 1) λv72=> bnd (ld v72 H) λv73 H=> bo (ah v3 4) λv74=> bnd (ld v74 H) λv75 H=> bo (ah v3 1) λv76=> bnd (ld v76 H) λv77 H=> bo (ah v3 3) λv78=> bnd (ld v78 H) λv79 H=> bnd (C 195 [v73,v75,v77,v79] H) λv80 H=> bo (un .not v80) λv81=>
   aI v81
   (bo (bd 70 []) λv82=> bnd (st 9 v4 v82 H) λ_ H=>
   bnd (lda 9 v4 H) λr0 _=> some (.tup [r0,(B false),(I 0)],H))
   (bo (ah v3 4) λv84=> bnd (ld v84 H) λv85 H=> bo (ah v3 1) λv86=> bnd (ld v86 H) λv87 H=> bo (ah v3 3) λv88=> bnd (ld v88 H) λv89 H=> bnd (C 162 [a0,v85,v87,v89] H) λv90 H=> bnd (st 9 v4 v90 H) λ_ H=>
   bnd (lda 9 v4 H) λr0 _=> some (.tup [r0,(B true),(I 0)],H)))
  (bnd (lda 9 v3 H) λv92 H=> bnd (C 196 [a0,v92] H) λv93 H=>
   bo (bi .neq 76 v93 (I 0)) λv95=>
   aI v95
   (bo (bd 70 []) λv96=> bnd (st 9 v4 v96 H) λ_ H=>
   bnd (lda 9 v4 H) λr0 _=> some (.tup [r0,(B false),v93],H))
   (bo (au a0) λv99=> bo (ah v99 10) λVj=> bnd (ld Vj H) λZN H=> bo (ah v3 1) λaiD=> bnd (ld aiD H) λaiE H=> bo (ah v3 3) λaiF=> bnd (ld aiF H) λv105 H=> bo (ah v3 4) λap8=> bnd (ld ap8 H) λv107 H=> bo (bd 70 [(0,(I 8)),(1,ZN),(2,aiE),(3,v105),(4,v107)]) λadr=> bnd (st 9 v4 adr H) λ_ H=>
   bnd (lda 9 v4 H) λr0 _=> some (.tup [r0,(B true),(I 0)],H)))))
theorem akS:Rn2 164 qw:=λ_ _ _ _ _ h=>
 rnG akR Tryz.func164 (by kernel_rfl) (by kernel_rfl) h
def akT:Ann:=⟨[],[(6,some false::some false::some true::rF 9 (none::some false::[])),(9,rF 8 []),(17,rF 13 []),(20,rF 6 [])],[(9,[(3,5)]),(17,[(3,8),(6,8),(6,10)]),(20,[(0,3)])]⟩
def uV(C:Callee)(t0 t4 t6 t8:AV)(H:aj):OA:=
 bnd (lda 9 t8 H) λv89 H0=> bnd (lda 6 t6 H0) λv91 H2=> bnd (C 157 [t0,v91] H2) λv92 H3=> bnd (st 9 t4 v89 H3) λ_ H4=> ck (aT t8) H2 H3 <|
 bnd (lda 9 t4 H4) λr0 _=> some (.tup [r0,v92],H4)
def x9(C:Callee)(a0 a1:AV)(H:aj):OA:=
 bnd (fA 70 a1 H) λv3 H=> bnd (alc 70 [zI,zI,zI,zI,zI,zI,zI,zB,zN] H) λv4 H=>
 bnd (lda 9 v3 H) λv9 H=> bnd (C 141 [v9] H) λv10 H=> bo (bi .neq 76 v10 (I 0)) λv11=> gdA (some v11) false (aC (ah v3 0) H) H λv13 H=> gdA (some v11) false (ld v13 H) H λv14 H=> gdA (some v11) false (aC (bi .lss 3 v14 (I 3)) H) H λv15 H=> bo (aU v11 (B true) v15) λv16=> gdA (some v16) false (aC (ah v3 0) H) H λv18 H=> gdA (some v16) false (ld v18 H) H λv19 H=> gdA (some v16) false (aC (bi .gtr 3 v19 (I 6)) H) H λv20 H=> bo (aU v16 (B true) v20) λv21=>
 aI v21
 (bo (bd 70 []) λv22=> bnd (st 9 v4 v22 H) λ_ H=>
  bnd (lda 9 v4 H) λr0 _=> some (.tup [r0,(I 1)],H))
 (bo (ah v3 4) λv25=> bnd (ld v25 H) λv26 H=> bnd (C 37 [a0,v26] H) λv27 H=> bo (aF v27 0) λv28=> bo (aF v27 1) λv29=> bnd (alc 93 [zI,zI,zI,zI,zB,zN] H) λv6 H=> bnd (st 6 v6 v28 H) λ_ H=>
  bo (un .not v29) λv31=>
  aI v31
  (bo (bd 70 []) λv32=> bnd (st 9 v4 v32 H) λ_ H=>
  bnd (lda 9 v4 H) λr0 _=> some (.tup [r0,(I 3)],H))
  (bnd (alc 70 [zI,zI,zI,zI,zI,zI,zI,zB,zN] H) λv8 H=> bo (ah v3 0) λv33=> bnd (ld v33 H) λv34 H=> bnd (unG H (C 197 [v34] H.guard)) λv35 H=> bo (ah v3 2) λv36=> bnd (ld v36 H) λv37 H=> bo (ah v3 1) λv38=> bnd (ld v38 H) λv39 H=> bo (ah v3 3) λv40=> bnd (ld v40 H) λv41 H=> bo (ah v3 4) λv42=> bnd (ld v42 H) λv43 H=> bo (bd 70 [(0,v35),(1,v37),(2,v39),(3,v41),(4,v43)]) λv44=> bnd (st 9 v8 v44 H) λ_ H=>
  bo (ah v3 0) λv45=> bnd (ld v45 H) λv46 H=>
  bo (bi .eql 3 v46 (I 3)) λv48=>
  aI v48
  (bo (ah v6 5) λv49=> bnd (ld v49 H) λv50 H1=> bo (ah v6 4) λv51=> bnd (ld v51 H1) λv52 H3=> bo (ah v8 8) λv53=> bnd (st 1 v53 v50 H3) λ_ H5=> bo (ah v8 7) λv54=> bnd (st 1 v54 v52 H5) λ_ H7=> ck (aT v51) H3 H5 <|
   bo (ah v6 4) λv55=> bnd (st 1 v55 (B false) H7) λ_ H7=>
   bo (ah v6 0) λv56=> bo (ah v3 5) λv57=> bnd (ld v57 H7) λv58 H7=> bnd (C 198 [v56,v58] H7) λv59 H7=>
   uV C a0 v4 v6 v8 H7)
  (bo (bi .eql 3 v46 (I 4)) λv61=>
   aI v61
   (bo (ah v6 0) λv62=> bo (ah v3 5) λv63=> bnd (ld v63 H) λv64 H=> bnd (C 199 [v62,v64] H) λv65 H=>
   uV C a0 v4 v6 v8 H)
   (bo (bi .eql 3 v46 (I 5)) λv67=>
   aI v67
   (bo (ah v6 0) λv68=> bo (ah v3 5) λv69=> bnd (ld v69 H) λv70 H=> bnd (C 198 [v68,v70] H) λv71 H=>
    uV C a0 v4 v6 v8 H)
   (bo (bi .eql 3 v46 (I 6)) λv73=>
    aI v73
    (bo (ah v6 5) λv74=> bnd (ld v74 H) λv75 aoO=> bo (ah v6 4) λv76=> bnd (ld v76 aoO) λv77 ahe=> bo (ah v6 0) λv78=> bo (ah v78 0) λv79=> bnd (ld v79 ahe) λv80 akU=> bo (ah v8 8) λv81=> bnd (st 1 v81 v75 akU) λ_ H8=> bo (ah v8 7) λv82=> bnd (st 1 v82 v77 H8) λ_ H10=> bo (ah v8 5) λv83=> bnd (st 1 v83 v80 H10) λ_ H12=> ck (aT v76) akU H8 <| ck (aT v79) akU H8 <| ck (aT v79) H8 H10 <|
    bo (ah v3 4) λv85=> bnd (ld v85 H12) λv86 H12=> bnd (C 200 [a0,v86] H12) λv87 H12=>
    bnd (lda 9 v8 H12) λv88 H12=> bnd (st 9 v4 v88 H12) λ_ H12=>
    bnd (lda 9 v4 H12) λr0 _=> some (.tup [r0,(I 0)],H12))
    (uV C a0 v4 v6 v8 H))))))
theorem ad8:Rn2 165 x9:=λ_ _ _ _ _ h=>
 rnG akT Tryz.func165 (by kernel_rfl) (by kernel_rfl) h
def ad9(C:Callee)(a0:AV)(H:aj):OA:=
 bnd (fA 40 a0 H) λv1 H=>
 bo (ah v1 1) λv3=> bnd (ld v3 H) λv4 H=> bo (ah v1 2) λv5=> bnd (ld v5 H) λv6 H=> bo (bi .mul 3 v4 v6) λv7=>
 some (v7,H)
theorem akV:Rn1 166 ad9:=λ_ _ _ _ h=>
 rnG an0 Tryz.func166 (by kernel_rfl) (by kernel_rfl) h
def aea(C:Callee)(a0 a1 a2:AV)(H:aj):OA:=
 bnd (alc 57 [zI,zI,zI,zI,zI,zI,zN,zI,zI] H) λv6 H=>
 bo (bd 57 [(0,a0),(1,a1),(2,a2),(3,(I 1)),(5,(I (-1))),(7,(I (-1))),(8,(I (-1)))]) λv10=> bnd (st 9 v6 v10 H) λ_ H=>
 bnd (lda 9 v6 H) λr0 _=> some (r0,H)
theorem akW:Rn3 167 aea:=λ_ _ _ _ _ _ h=>
 rnG an0 Tryz.func167 (by kernel_rfl) (by kernel_rfl) h
def aeb:Ann:=⟨[(4,[0,1,5,11,12,13])],[(5,rF 18 [])],[]⟩
def BL:=iU Tryz.prog Tryz.f168 41 aeb 0
def yc(C:Callee)(t0 t1 t5 t11 t12 t13:AV)(H:aj):OA:=
 bo (bi .add 3 t13 (I 1)) λv39=>
 BL C [t0,t1,t5,t11,t12,v39] H
def aec(C:Callee)(a0 a1:AV)(H:aj):OA:=
 bo (au a0) λv9=> bo (ah v9 0) λv10=> bnd (ld v10 H) λv11 H=> bnd (lnS v11 H) λv12 H=>
 BL C [a0,a1,(.s (Go.Value.slice none 0 0)),v11,v12,(I 0)] H
theorem RS(C:Callee)(t0 t1 t5 t11 t12 t13:AV)(H:aj):BL C [t0,t1,t5,t11,t12,t13] H=
 bo (bi .lss 3 t13 t12) λv14=>
 aI v14
 (bnd (ix 6 t11 t13 H) λv15 H=> bnd (lda 6 v15 H) λv16 H=> bnd (alc 93 [zI,zI,zI,zI,zB,zN] H) λv7 H=> bnd (st 6 v7 v16 H) λ_ H=>
  bo (bi .geq 3 t1 (I 0)) λv18=> gdA (some v18) true (aC (ah v7 2) H) H λv20 H=> gdA (some v18) true (ld v20 H) H λv21 H=> gdA (some v18) true (aC (some t0) H) H λv22 H=> gdA (some v18) true (aC (au v22) H) H λv23 H=> gdA (some v18) true (aC (ah v23 1) H) H λv24 H=> gdA (some v18) true (ld v24 H) H λv25 H=> gdA (some v18) true (aC (bi .rem 3 v21 v25) H) H λv26 H=> gdA (some v18) true (aC (some t1) H) H λv27 H=> gdA (some v18) true (aC (some t0) H) H λv28 H=> gdA (some v18) true (aC (au v28) H) H λv29 H=> gdA (some v18) true (aC (ah v29 1) H) H λv30 H=> gdA (some v18) true (ld v30 H) H λv31 H=> gdA (some v18) true (aC (bi .rem 3 v27 v31) H) H λv32 H=> gdA (some v18) true (aC (bi .eql 3 v26 v32) H) H λv33 H=> bo (aU v18 v33 (B false)) λv34=>
  aI v34
  (bnd (lda 6 v7 H) λv36 H=> bnd (bs 131 1 [(0,v36)] H) λv37 H=> bnd (app 93 6 64 t5 v37 H) λv38 H=>
  yc C t0 t1 v38 t11 t12 t13 H)
  (yc C t0 t1 t5 t11 t12 t13 H))
 (some (t5,H)):=
 lpE.trans (by kernel_rfl)
theorem akX:Rn2 168 aec:=λ_ _ _ _ _ h=>
 rnG aeb Tryz.func168 (by kernel_rfl) (by kernel_rfl) h
def aed:Ann:=⟨[(6,[0,1,4,5,6])],[(7,rF 8 [])],[]⟩
def BM:=iU Tryz.prog Tryz.f169 33 aed 0
def Jm(C:Callee)(t0 t1 t4:AV)(H:aj):OA:=
 bnd (ix 6 t0 (I 0) H) λv12 H=> bnd (lda 6 v12 H) λv13 H=> bnd (alc 93 [zI,zI,zI,zI,zB,zN] H) λv5 H=> bnd (st 6 v5 v13 H) λ_ H=>
 BM C [t0,t1,t4,v5,(I 1)] H
def BN(C:Callee)(t0 t1 t4 t5 t6:AV)(H:aj):OA:=
 bo (bi .add 3 t6 (I 1)) λv19=>
 BM C [t0,t1,t4,t5,v19] H
def aee(C:Callee)(a0 a1:AV)(H:aj):OA:=
 bnd (alc 93 [zI,zI,zI,zI,zB,zN] H) λv4 H=>
 bnd (lnS a0 H) λv8 H=> bo (bi .lss 3 v8 (I 1)) λv9=>
 aI v9
 (bnd (stk H) λv10 H=> bnd (stk H) λ_ H=>
  Jm C a0 a1 v4 H)
 (Jm C a0 a1 v4 H)
theorem RU(C:Callee)(t0 t1 t4 t5 t6:AV)(H:aj):BM C [t0,t1,t4,t5,t6] H=
 bnd (lnS t0 H) λv16 H=> bo (bi .lss 3 t6 v16) λv17=>
 aI v17
 (bnd (ix 6 t0 t6 H) λv23 H=> bnd (lda 6 v23 H) λv24 H=> bnd (lda 6 t5 H) λv25 H=> bnd (qJ Tryz.prog C t1 [v24,v25] H) λv26 H=> bo (bi .lss 3 v26 (I 0)) λv27=>
  aI v27
  (bnd (ix 6 t0 t6 H) λv30 H=> bnd (lda 6 v30 H) λv31 H=> bnd (st 6 t5 v31 H) λ_ H=>
  BN C t0 t1 t4 t5 t6 H)
  (BN C t0 t1 t4 t5 t6 H))
 (bnd (lda 6 t5 H) λv32 H=> bnd (st 6 t4 v32 H) λ_ H=>
  bnd (lda 6 t4 H) λr0 _=> some (r0,H)):=
 lpE.trans (by kernel_rfl)
theorem akY:Rn2 169 aee:=λ_ _ _ _ _ h=>
 rnG aed Tryz.func169 (by kernel_rfl) (by kernel_rfl) h
def aef(C:Callee)(a0 a1:AV)(H:aj):OA:=
 bnd (fA 93 a0 H) λv2 H=> bnd (fA 93 a1 H) λv3 H=>
 bo (ah v2 3) λv5=> bnd (ld v5 H) λv6 H=> bo (ah v3 3) λv7=> bnd (ld v7 H) λv8 H=> bo (bi .sub 3 v6 v8) λv9=>
 some (v9,H)
theorem akZ:Rn2 170 aef:=λ_ _ _ _ _ h=>
 rnG an0 Tryz.func170 (by kernel_rfl) (by kernel_rfl) h
def aeg:Ann:=⟨[(6,[1,2,5,6])],[],[]⟩
def BO:=iU Tryz.prog Tryz.f171 44 aeg 0
def BP(C:Callee)(t1 t2 t5 t6 t7:AV)(H:aj):OA:=
 bnd (bs 22 1 [(0,t7)] H) λv41 H=> bnd (app 3 1 8 t5 v41 H) λv42 H=>
 bo (bi .add 3 t6 (I 1)) λv22=>
 BO C [t1,t2,v42,v22] H
def aeh(C:Callee)(a0 a1:AV)(H:aj):OA:=
 bnd (fA 40 a0 H) λv2 H=>
 bo (bi .lss 3 a1 (I 0)) λv10=> gdA (some v10) false (aC (some a1) H) H λv12 H=> gdA (some v10) false (aC (ah v2 1) H) H λv13 H=> gdA (some v10) false (ld v13 H) H λv14 H=> gdA (some v10) false (aC (bi .geq 3 v12 v14) H) H λv15 H=> bo (aU v10 (B true) v15) λv16=>
 aI v16
 (some ((.s (Go.Value.slice none 0 0)),H))
 (BO C [a1,v2,(.s (Go.Value.slice none 0 0)),(I 0)] H)
theorem RX(C:Callee)(t1 t2 t5 t6:AV)(H:aj):BO C [t1,t2,t5,t6] H=
 bo (ah t2 2) λv18=> bnd (ld v18 H) λv19 H=> bo (bi .lss 3 t6 v19) λv20=>
 aI v20
 (bo (ah t2 2) λv24=> bnd (ld v24 H) λv25 H=> bo (bi .mul 3 t1 v25) λv26=> bo (bi .add 3 v26 t6) λv28=>
  bo (ah t2 7) λv30=> bnd (ld v30 H) λv31 H=> bnd (lnS v31 H) λv32 H=> bo (bi .lss 3 v28 v32) λv33=>
  aI v33
  (bo (ah t2 7) λv34=> bnd (ld v34 H) λv35 H=> bnd (ix 1 v35 v28 H) λv37 H=> bnd (ld v37 H) λv38 H=>
  BP C t1 t2 t5 t6 v38 H)
  (BP C t1 t2 t5 t6 (I 0) H))
 (some (t5,H)):=
 lpE.trans (by kernel_rfl)
theorem ak0:Rn2 171 aeh:=λ_ _ _ _ _ h=>
 rnG aeg Tryz.func171 (by kernel_rfl) (by kernel_rfl) h
def aei(C:Callee)(a0:AV)(H:aj):OA:=
 bo (bi .neq 3 a0 a0) λv5=>
 some (v5,H)
theorem ak1:Rn1 177 aei:=λ_ _ _ _ h=>
 rnG an0 Tryz.func177 (by kernel_rfl) (by kernel_rfl) h
def XY(C:Callee)(a0 a1:AV)(H:aj):OA:=
 bo (bi .lss 3 a0 (I 0)) λv6=>
 aI v6
 (some ((I (-1)),H))
 (bo (bi .rem 3 a0 a1) λv9=>
  some (v9,H))
theorem ak2:Rn2 178 XY:=λ_ _ _ _ _ h=>
 rnG an0 Tryz.func178 (by kernel_rfl) (by kernel_rfl) h
def Me(C:Callee)(a0 a1 a2:AV)(H:aj):OA:=
 bo (bi .geq 3 a0 a1) λv9=> gdA (some v9) true (aC (some a0) H) H λv11 H=> gdA (some v9) true (aC (some a2) H) H λv12 H=> gdA (some v9) true (aC (bi .lss 3 v11 v12) H) H λv13 H=> bo (aU v9 v13 (B false)) λv14=>
 some (v14,H)
theorem aej:Rn3 179 Me:=λ_ _ _ _ _ _ h=>
 rnG an0 Tryz.func179 (by kernel_rfl) (by kernel_rfl) h
def XZ:Ann:=⟨[(4,[3,7,8,9]),(8,[3,7,8,9,18])],[],[]⟩
def yg:=iU Tryz.prog Tryz.f180 30 XZ 0
def BQ:=iU Tryz.prog Tryz.f180 30 XZ 1
def aek(C:Callee)(a0:AV)(H:aj):OA:=
 bnd (lnS a0 H) λv8 H=>
 yg C [(.s (Go.Value.int Go.IntKind.u16 65535)),a0,v8,(I 0)] H
theorem RY(C:Callee)(t3 t7 t8 t9:AV)(H:aj):yg C [t3,t7,t8,t9] H=
 bo (bi .lss 3 t9 t8) λv10=>
 aI v10
 (bnd (ix 1 t7 t9 H) λv11 H=> bnd (ld v11 H) λv12 H=>
  bnd (cv 5 33 v12 H) λv15 H=> bo (bi .shl 33 v15 (.s (Go.Value.int Go.IntKind.u64 8))) λv16=> bo (bi .xor 33 t3 v16) λv17=>
  BQ C [v17,t7,t8,t9,(I 0)] H)
 (some (t3,H)):=
 lpE.trans (by kernel_rfl)
theorem RZ(C:Callee)(t3 t7 t8 t9 t18:AV)(H:aj):BQ C [t3,t7,t8,t9,t18] H=
 bo (bi .lss 3 t18 (I 8)) λv19=>
 aI v19
 (bo (bi .shr 33 t3 (.s (Go.Value.int Go.IntKind.u64 15))) λv21=>
  bo (bi .shl 33 t3 (.s (Go.Value.int Go.IntKind.u64 1))) λv23=> bo (bi .mul 33 v21 (.s (Go.Value.int Go.IntKind.u16 4129))) λv25=> bo (bi .xor 33 v23 v25) λv26=>
  bo (bi .add 3 t18 (I 1)) λv27=>
  BQ C [v26,t7,t8,t9,v27] H)
 (bo (bi .add 3 t9 (I 1)) λv28=>
  yg C [t3,t7,t8,v28] H):=
 lpE.trans (by kernel_rfl)
theorem ak3:Rn1 180 aek:=λ_ _ _ _ h=>
 rnG XZ Tryz.func180 (by kernel_rfl) (by kernel_rfl) h
def X0:Ann:=⟨[(4,[0,3,9,10,11]),(12,[6,25,26,27])],[],[]⟩
def Jo:=iU Tryz.prog Tryz.f181 36 X0 0
def Jp:=iU Tryz.prog Tryz.f181 36 X0 1
def BR(C:Callee)(t0 t3 t9 t10 t11:AV)(H:aj):OA:=
 bo (bi .add 3 t11 (I 1)) λv22=>
 Jo C [t0,t3,t9,t10,v22] H
def ael(C:Callee)(a0:AV)(H:aj):OA:=
 bnd (lnS a0 H) λv10 H=>
 Jo C [a0,(I 0),a0,v10,(I 0)] H
theorem Jq(C:Callee)(t0 t3 t9 t10 t11:AV)(H:aj):Jo C [t0,t3,t9,t10,t11] H=
 bo (bi .lss 3 t11 t10) λv12=>
 aI v12
 (bnd (ix 1 t9 t11 H) λv13 H=> bnd (ld v13 H) λv14 H=>
  bnd (lnS v14 H) λv17 H=> bo (bi .add 3 t3 v17) λv18=>
  bo (bi .lss 3 v18 (I 0)) λv20=>
  aI v20
  (bnd (stk H) λv21 H=> bnd (stk H) λ_ H=>
  BR C t0 v18 t9 t10 t11 H)
  (BR C t0 v18 t9 t10 t11 H))
 (bnd (C 202 [(.s (Go.Value.slice none 0 0)),t3] H) λv24 H=>
  bnd (lnS t0 H) λv26 H=>
  Jp C [v24,t0,v26,(I 0)] H):=
 lpE.trans (by kernel_rfl)
theorem Jr(C:Callee)(t6 t25 t26 t27:AV)(H:aj):Jp C [t6,t25,t26,t27] H=
 bo (bi .lss 3 t27 t26) λv28=>
 aI v28
 (bnd (ix 1 t25 t27 H) λv29 H=> bnd (ld v29 H) λv30 H=>
  bnd (app 5 1 1 t6 v30 H) λv33 H=>
  bo (bi .add 3 t27 (I 1)) λv34=>
  Jp C [v33,t25,t26,v34] H)
 (some (t6,H)):=
 lpE.trans (by kernel_rfl)
theorem ak4:Rn1 181 ael:=λ_ _ _ _ h=>
 rnG X0 Tryz.func181 (by kernel_rfl) (by kernel_rfl) h
def BU(C:Callee)(t2 t4 t5:AV)(H:aj):OA:=
 bnd (lda 9 t4 H) λv20 H=> bnd (st 9 t2 v20 H) λ_ H=>
 bnd (lda 9 t2 H) λr0 _=> some (.tup [r0,t5],H)
def X3(C:Callee)(a0:AV)(H:aj):OA:=
 bnd (alc 70 [zI,zI,zI,zI,zI,zI,zI,zB,zN] H) λv2 H=>
 bnd (C 203 [a0] H) λv8 H=> bo (aF v8 0) λv9=> bo (aF v8 1) λv10=> bnd (alc 70 [zI,zI,zI,zI,zI,zI,zI,zB,zN] H) λv4 H=> bnd (st 9 v4 v9 H) λ_ H=>
 aI v10
 (bo (au a0) λv14=> bo (ah v14 0) λv15=> bnd (ld v15 H) λv16 H=> bnd (C 99 [v16,(I 0),(I 1)] H) λv17 H=> bo (au a0) λv18=> bo (ah v18 0) λv19=> bnd (st 1 v19 v17 H) λ_ H=>
  BU C v2 v4 v10 H)
 (BU C v2 v4 v10 H)
theorem ak5:Rn1 183 X3:=λ_ _ _ _ h=>
 rnG an0 Tryz.func183 (by kernel_rfl) (by kernel_rfl) h
def Gp(C:Callee)(a0 a1:AV)(H:aj):OA:=
 bnd (fA 57 a0 H) λv2 H=> bnd (fA 70 a1 H) λv3 H=>
 bo (ah v2 3) λv6=> bnd (ld v6 H) λv7 H=> bnd (C 190 [v7] H) λv8 H=> bnd (C 197 [v8] H) λv9 H=>
 bo (bi .neq 3 v9 (I 0)) λv11=> gdA (some v11) true (aC (ah v3 0) H) H λv13 H=> gdA (some v11) true (ld v13 H) H λv14 H=> gdA (some v11) true (aC (some v9) H) H λv15 H=> gdA (some v11) true (aC (bi .eql 3 v14 v15) H) H λv16 H=> bo (aU v11 v16 (B false)) λv17=> gdA (some v17) true (aC (ah v3 3) H) H λv19 H=> gdA (some v17) true (ld v19 H) H λv20 H=> gdA (some v17) true (aC (ah v2 2) H) H λv21 H=> gdA (some v17) true (ld v21 H) H λv22 H=> gdA (some v17) true (aC (bi .eql 3 v20 v22) H) H λv23 H=> bo (aU v17 v23 (B false)) λv24=> gdA (some v24) true (aC (ah v3 4) H) H λv26 H=> gdA (some v24) true (ld v26 H) H λv27 H=> gdA (some v24) true (aC (ah v2 1) H) H λv28 H=> gdA (some v24) true (ld v28 H) H λv29 H=> gdA (some v24) true (aC (bi .eql 3 v27 v29) H) H λv30 H=> bo (aU v24 v30 (B false)) λv31=>
 some (v31,H)
theorem ak6:Rn2 184 Gp:=λ_ _ _ _ _ h=>
 rnG an0 Tryz.func184 (by kernel_rfl) (by kernel_rfl) h
def ak7:Ann:=⟨[],[(1,rF 8 (some true::rF 8 []))],[(1,[(3,10),(5,10),(5,12)])]⟩
def X4(C:Callee)(a0 a1 a2 a3:AV)(H:aj):OA:=
 bnd (fA 57 a0 H) λv4 H=> bnd (fA 70 a3 H) λv7 H=> bnd (alc 57 [zI,zI,zI,zI,zI,zI,zN,zI,zI] H) λv8 H=>
 bo (ah v7 6) λv10=> bnd (ld v10 H) λv11 H1=> bo (ah v7 5) λv12=> bnd (ld v12 H1) λv13 H3=> bo (ah v7 5) λv14=> bnd (ld v14 H3) λv15 H5=> bo (ah v7 8) λv16=> bnd (ld v16 H5) λv17 H7=> bnd (unG H7 (C 46 [v17] H7.guard)) λv18 H8=> bo (ah v4 4) λv19=> bnd (st 1 v19 v11 H8) λ_ H10=> bo (ah v4 5) λv20=> bnd (st 1 v20 v13 H10) λ_ H12=> bo (ah v4 8) λv21=> bnd (st 1 v21 v15 H12) λ_ H14=> bo (ah v4 6) λv22=> bnd (st 1 v22 v18 H14) λ_ H16=> ck (aT v12) H8 H10 <| ck (aT v14) H8 H10 <| ck (aT v14) H10 H12 <|
 bo (ah v4 4) λv23=> bnd (ld v23 H16) λv24 H16=> bo (bi .neq 3 v24 (I 0)) λv25=>
 aI v25
 (bo (ah v4 3) λv26=> bnd (st 1 v26 (I 2) H16) λ_ H16=>
  bnd (lda 9 v4 H16) λv27 H16=> bnd (st 9 v8 v27 H16) λ_ H16=>
  bnd (lda 9 v8 H16) λr0 _=> some (.tup [r0,(B true)],H16))
 (bo (ah v4 1) λv29=> bnd (ld v29 H16) λv30 H16=> bo (ah v7 8) λv31=> bnd (ld v31 H16) λv32 H16=> bnd (C 204 [v30,(I (-1)),(I (-1)),(B false),v32] H16) λv33 H16=> bnd (C 157 [a2,v33] H16) λv34 H16=>
  bo (ah v4 3) λv36=> bnd (st 1 v36 (I 6) H16) λ_ H16=> bo (ah v4 4) λv37=> bnd (st 1 v37 (I 1) H16) λ_ H16=> bo (ah v4 5) λv38=> bnd (st 1 v38 a1 H16) λ_ H16=> bo (ah v4 6) λv39=> bnd (st 1 v39 (.s (Go.Value.slice none 0 0)) H16) λ_ H16=>
  bnd (lda 9 v4 H16) λv40 H16=> bnd (st 9 v8 v40 H16) λ_ H16=>
  bnd (lda 9 v8 H16) λr0 _=> some (.tup [r0,(B true)],H16))
theorem ak8:Rn4 185 X4:=λ_ _ _ _ _ _ _ h=>
 rnG ak7 Tryz.func185 (by kernel_rfl) (by kernel_rfl) h
def BX(C:Callee)(t4 t8:AV)(H:aj):OA:=
 bnd (lda 9 t4 H) λv30 H=> bnd (st 9 t8 v30 H) λ_ H=>
 bnd (lda 9 t8 H) λr0 _=> some (.tup [r0,(B true)],H)
def X5(C:Callee)(a0 a1 a2 a3:AV)(H:aj):OA:=
 bnd (fA 57 a0 H) λv4 H=> bnd (fA 70 a3 H) λv7 H=> bnd (alc 57 [zI,zI,zI,zI,zI,zI,zN,zI,zI] H) λv8 H=>
 bo (ah v4 1) λv11=> bnd (ld v11 H) λv12 H=> bo (ah v4 5) λv13=> bnd (ld v13 H) λv14 H=> bo (ah v7 8) λv15=> bnd (ld v15 H) λv16 H=> bnd (C 204 [v12,v14,(I (-1)),(B false),v16] H) λv17 H=> bnd (C 157 [a2,v17] H) λv18 H=>
 bo (ah v4 3) λv20=> bnd (st 1 v20 (I 6) H) λ_ H=> bo (ah v4 4) λv21=> bnd (st 1 v21 (I 1) H) λ_ H=> bo (ah v4 5) λv22=> bnd (st 1 v22 a1 H) λ_ H=> bo (ah v4 6) λv23=> bnd (st 1 v23 (.s (Go.Value.slice none 0 0)) H) λ_ H=>
 bo (ah v7 7) λv24=> bnd (ld v24 H) λv25 H=>
 aI v25
 (bo (ah v7 8) λv26=> bnd (ld v26 H) λv27 H=> bnd (C 46 [v27] H) λv28 H=> bo (ah v4 6) λv29=> bnd (st 1 v29 v28 H) λ_ H=>
  BX C v4 v8 H)
 (BX C v4 v8 H)
theorem ak9:Rn4 186 X5:=λ_ _ _ _ _ _ _ h=>
 rnG an0 Tryz.func186 (by kernel_rfl) (by kernel_rfl) h
def yh(C:Callee)(t1 t2 t3 t6:AV)(H:aj):OA:=
 bo (ah t3 7) λv27=> bnd (ld v27 H) λv28 H=> bo (bi .neq 3 v28 (I (-1))) λv29=>
 aI v29
 (bo (ah t3 3) λv30=> bnd (st 1 v30 (I 3) H) λ_ H=>
  bnd (lda 9 t3 H) λv31 H=> bnd (st 9 t6 v31 H) λ_ H=>
  bnd (lda 9 t6 H) λr0 _=> some (r0,H))
 (bo (ah t3 1) λv33=> bnd (ld v33 H) λv34 H=> bo (ah t3 6) λv35=> bnd (ld v35 H) λv36 H=> bnd (C 204 [v34,(I (-1)),(I (-1)),(B true),v36] H) λv37 H=> bnd (C 157 [t2,v37] H) λv38 H=>
  bo (ah t3 3) λv40=> bnd (st 1 v40 (I 6) H) λ_ H=> bo (ah t3 4) λv41=> bnd (st 1 v41 (I 2) H) λ_ H=> bo (ah t3 5) λv42=> bnd (st 1 v42 t1 H) λ_ H=> bo (ah t3 6) λv43=> bnd (st 1 v43 (.s (Go.Value.slice none 0 0)) H) λ_ H=>
  bnd (lda 9 t3 H) λv44 H=> bnd (st 9 t6 v44 H) λ_ H=>
  bnd (lda 9 t6 H) λr0 _=> some (r0,H))
def MB(C:Callee)(a0 a1 a2:AV)(H:aj):OA:=
 bnd (fA 57 a0 H) λv3 H=> bnd (alc 57 [zI,zI,zI,zI,zI,zI,zN,zI,zI] H) λv6 H=>
 bo (ah v3 1) λv11=> bnd (ld v11 H) λv12 H=> bnd (C 37 [a2,v12] H) λv13 H=> bo (aF v13 0) λv14=> bo (aF v13 1) λv15=> bnd (alc 93 [zI,zI,zI,zI,zB,zN] H) λv7 H=> bnd (st 6 v7 v14 H) λ_ H=>
 bo (ah v3 7) λv16=> bnd (ld v16 H) λv17 H=> bo (bi .eql 3 v17 a1) λv19=> gdA (some v19) true (aC (some v15) H) H λv21 H=> bo (aU v19 v21 (B false)) λv22=>
 aI v22
 (bo (ah v7 0) λv23=> bo (ah v23 0) λv24=> bnd (ld v24 H) λv25 H=> bo (ah v3 7) λv26=> bnd (st 1 v26 v25 H) λ_ H=>
  yh C a1 a2 v3 v6 H)
 (yh C a1 a2 v3 v6 H)
theorem ala:Rn3 187 MB:=λ_ _ _ _ _ _ h=>
 rnG an0 Tryz.func187 (by kernel_rfl) (by kernel_rfl) h
def alb:Ann:=⟨[],[(1,rF 14 []),(4,rF 12 []),(13,rF 9 [])],[(1,[(3,7),(5,7),(5,9)]),(4,[(5,7)]),(13,[(2,4)])]⟩
def oW(C:Callee)(t3 t6:AV)(H:aj):OA:=
 bnd (lda 9 t3 H) λv65 H=> bnd (st 9 t6 v65 H) λ_ H=>
 bnd (lda 9 t6 H) λr0 _=> some (r0,H)
def Gq(C:Callee)(a0 a1 a2:AV)(H:aj):OA:=
 bnd (fA 57 a0 H) λv3 H=> bnd (fA 70 a2 H) λv5 H=> bnd (alc 57 [zI,zI,zI,zI,zI,zI,zN,zI,zI] H) λv6 H=>
 bo (ah v5 6) λv9=> bnd (ld v9 H) λv10 H1=> bo (ah v5 5) λv11=> bnd (ld v11 H1) λv12 H3=> bo (ah v5 5) λv13=> bnd (ld v13 H3) λv14 H5=> bo (ah v3 4) λv15=> bnd (st 1 v15 v10 H5) λ_ H7=> bo (ah v3 5) λv16=> bnd (st 1 v16 v12 H7) λ_ H9=> bo (ah v3 8) λv17=> bnd (st 1 v17 v14 H9) λ_ H11=> bo (ah v3 6) λv18=> bnd (st 1 v18 (.s (Go.Value.slice none 0 0)) H11) λ_ H13=> ck (aT v11) H5 H7 <| ck (aT v13) H5 H7 <| ck (aT v13) H7 H9 <|
 bo (ah v3 3) λv19=> bnd (st 1 v19 (I 6) H13) λ_ H13=>
 bo (ah v3 1) λv22=> bnd (ld v22 H13) λv23 H13=> bnd (C 37 [a1,v23] H13) λv24 H13=> bo (aF v24 0) λv25=> bo (aF v24 1) λv26=> bnd (alc 93 [zI,zI,zI,zI,zB,zN] H13) λv7 H13=> bnd (st 6 v7 v25 H13) λ_ H13=>
 bo (un .not v26) λv38=>
 aI v38
 (bnd (lda 9 v3 H13) λv39 H13=> bnd (st 9 v6 v39 H13) λ_ H13=>
  bnd (lda 9 v6 H13) λr0 _=> some (r0,H13))
 (bo (ah v7 0) λv41=> bnd (lda 2 v41 H13) λv42 H13=> bnd (C 205 [v42] H13) λv43 H13=>
  aI v43
  (bo (ah v3 1) λv45=> bnd (ld v45 H13) λv46 H13=> bnd (C 200 [a1,v46] H13) λv47 H13=>
  bo (ah v3 4) λv48=> bnd (st 1 v48 (I 0) H13) λ_ H13=> bo (ah v3 5) λv49=> bnd (st 1 v49 (I (-1)) H13) λ_ H13=>
  bo (ah v7 4) λv50=> bnd (ld v50 H13) λv51 H13=>
  aI v51
  (bo (ah v7 5) λv52=> bnd (ld v52 H13) λv53 H13=> bo (ah v3 6) λv54=> bnd (st 1 v54 v53 H13) λ_ H13=>
   oW C v3 v6 H13)
  (oW C v3 v6 H13))
  (bo (ah v7 0) λv56=> bnd (lda 2 v56 H13) λv57 H13=> bnd (C 206 [v57] H13) λv58 H13=>
  aI v58
  (bo (ah v7 0) λv59=> bo (ah v59 0) λv60=> bnd (ld v60 H13) λv61 apA=> bo (ah v3 5) λv62=> bnd (st 1 v62 (I (-1)) apA) λ_ aj3=> bo (ah v3 7) λv63=> bnd (st 1 v63 v61 aj3) λ_ akU=> bo (ah v3 3) λv64=> bnd (st 1 v64 (I 5) akU) λ_ ap9=> ck (aT v60) apA aj3 <|
   oW C v3 v6 ap9)
  (bo (ah v7 0) λv27=> bo (ah v27 1) λv28=> bnd (ld v28 H13) λv29 aqa=> bo (ah v7 0) λv30=> bo (ah v30 0) λv31=> bnd (ld v31 aqa) λv32 amL=> bo (ah v3 5) λv33=> bnd (st 1 v33 v29 amL) λ_ apB=> bo (ah v3 7) λv34=> bnd (st 1 v34 v32 apB) λ_ amK=> bo (ah v3 3) λv35=> bnd (st 1 v35 (I 4) amK) λ_ aoP=> ck (aT v31) amL apB <|
   oW C v3 v6 aoP)))
theorem ald:Rn3 188 Gq:=λ_ _ _ _ _ _ h=>
 rnG alb Tryz.func188 (by kernel_rfl) (by kernel_rfl) h
def aem(C:Callee)(a0 a1 a2:AV)(H:aj):OA:=
 bnd (fA 57 a0 H) λv3 H=> bnd (alc 57 [zI,zI,zI,zI,zI,zI,zN,zI,zI] H) λv6 H=>
 bo (ah v3 1) λv8=> bnd (ld v8 H) λv9 H=> bnd (C 200 [a1,v9] H) λv10 H=>
 bo (ah v3 3) λv12=> bnd (st 1 v12 (I 6) H) λ_ H=> bo (ah v3 4) λv13=> bnd (st 1 v13 (I 1) H) λ_ H=> bo (ah v3 5) λv14=> bnd (st 1 v14 a2 H) λ_ H=> bo (ah v3 6) λv15=> bnd (st 1 v15 (.s (Go.Value.slice none 0 0)) H) λ_ H=>
 bnd (lda 9 v3 H) λv16 H=> bnd (st 9 v6 v16 H) λ_ H=>
 bnd (lda 9 v6 H) λr0 _=> some (r0,H)
theorem ale:Rn3 189 aem:=λ_ _ _ _ _ _ h=>
 rnG an0 Tryz.func189 (by kernel_rfl) (by kernel_rfl) h
def Am(C:Callee)(a0:AV)(H:aj):OA:=
 bo (bi .eql 3 a0 (I 1)) λv5=>
 aI v5
 (some ((I 1),H))
 (bo (bi .eql 3 a0 (I 2)) λv7=>
  aI v7
  (some ((I 3),H))
  (bo (bi .eql 3 a0 (I 3)) λv9=>
  aI v9
  (some ((I 6),H))
  (bo (bi .eql 3 a0 (I 4)) λv11=>
   aI v11
   (some ((I 4),H))
   (bo (bi .eql 3 a0 (I 5)) λv13=>
   aI v13
   (some ((I 5),H))
   (bo (bi .eql 3 a0 (I 6)) λv15=>
    aI v15
    (some ((I 2),H))
    (some ((I 0),H)))))))
theorem alf:Rn1 190 Am:=λ_ _ _ _ h=>
 rnG an0 Tryz.func190 (by kernel_rfl) (by kernel_rfl) h
def aen(C:Callee)(a0:AV)(H:aj):OA:=
 bnd (fA 207 a0 H) λv1 H=>
 some ((.fn (.func 208) [] [v1]),H)
theorem alg:Rn1 192 aen:=λ_ _ _ _ h=>
 rnG an0 Tryz.func192 (by kernel_rfl) (by kernel_rfl) h
def X6(C:Callee)(a0 a1:AV)(H:aj):OA:=
 bo (au a0) λv9=> bo (ah v9 0) λv10=> bnd (ld v10 H) λv11 H=> bnd (lk .i64 (.int .i64 0) v11 a1 true H) λv13 H=> bo (aF v13 0) λv14=> bo (aF v13 1) λv15=>
 some (v15,H)
theorem alh:Rn2 193 X6:=λ_ _ _ _ _ h=>
 rnG an0 Tryz.func193 (by kernel_rfl) (by kernel_rfl) h
def aeo(C:Callee)(a0 a1:AV)(H:aj):OA:=
 bo (au a0) λv6=> bo (ah v6 1) λv7=> bnd (ld v7 H) λv8 H=> bnd (lk .i64 (.slice none 0 0) v8 a1 false H) λv10 H=> bnd (lnS v10 H) λv11 H=>
 some (v11,H)
theorem ali:Rn2 194 aeo:=λ_ _ _ _ _ h=>
 rnG an0 Tryz.func194 (by kernel_rfl) (by kernel_rfl) h
def alj:Ann:=⟨[],[(4,rF 17 [])],[(4,[(3,15)])]⟩
def MC(C:Callee)(a0 a1 a2 a3:AV)(H:aj):OA:=
 bo (bi .lss 3 a2 (I 0)) λv10=>
 aI v10
 (some ((B false),H))
 (bnd (C 193 [a0,a1] H) λv13 H=> gdA (some v13) false (aC (some a0) H) H λv15 H=> gdA (some v13) false (aC (some a1) H) H λv16 H=> gdA (some v13) false (C 194 [v15,v16] H) H λv17 H=> gdA (some v13) false (aC (bi .gtr 3 v17 (I 0)) H) H λv18 H=> bo (aU v13 (B true) v18) λv19=>
  aI v19
  (bo (au a0) λv21=> bo (ah v21 1) λv22=> bnd (ld v22 H) λv23 H3=> bo (au a0) λv26=> bo (ah v26 1) λv27=> bnd (ld v27 H3) λv28 H8=> bnd (lk .i64 (.slice none 0 0) v28 a1 false H8) λv30 H10=> bo (bd 293 [(0,a2),(1,a3)]) λv33=> bnd (bs 291 1 [(0,v33)] H10) λv34 H14=> bnd (app 293 2 16 v30 v34 H14) λv35 H15=> bnd (mup .i64 v23 a1 v35 H15) λ_ H16=> ck (aT v22) H14 H15 <|
  some ((B false),H16))
  (bo (au a0) λv37=> bo (ah v37 0) λv38=> bnd (ld v38 H) λv39 H=> bnd (mup .i64 v39 a1 a2 H) λ_ H=>
  some ((B true),H)))
theorem alk:Rn4 195 MC:=λ_ _ _ _ _ _ _ h=>
 rnG alj Tryz.func195 (by kernel_rfl) (by kernel_rfl) h
def alm:Ann:=⟨[],[(1,rF 6 (some true::rF 3 [])),(6,rF 13 []),(9,rF 10 [])],[]⟩
def uX(C:Callee)(t0 t3 t5:AV)(H:aj):OA:=
 bo (au t0) λv22=> bo (ah v22 0) λv23=> bnd (ld v23 H) λv24 H=> bo (ah t3 4) λv25=> bnd (ld v25 H) λv26 H=> bo (ah t3 6) λv27=> bnd (ld v27 H) λv28 H=> bo (ah t3 5) λv29=> bnd (ld v29 H) λv30 H=> bnd (C 209 [v24,v26,v28,v30,t5] H) λv32 H=>
 bo (bi .neq 76 v32 (I 0)) λv34=>
 aI v34
 (some (v32,H))
 (bo (au t0) λv37=> bo (ah v37 1) λv38=> bnd (ld v38 H) λv39 H=> bo (ah t3 4) λv40=> bnd (ld v40 H) λv41 H=> bo (ah t3 1) λv42=> bnd (ld v42 H) λv43 H=> bnd (C 210 [v39,v41,v43] H) λv44 H=>
  some (v44,H))
def Gs(C:Callee)(a0 a1:AV)(H:aj):OA:=
 bnd (fA 70 a1 H) λv3 H=>
 bo (au a0) λv8=> bo (ah v8 1) λv9=> bnd (ld v9 H) λv10 H=> bo (ah v3 4) λv11=> bnd (ld v11 H) λv12 H=> bnd (unG H (C 75 [v10,v12] H.guard)) λv13 H=> bo (ah v3 1) λv14=> bnd (ld v14 H) λv15 H=> bo (bi .neq 3 v13 v15) λv16=>
 aI v16
 (some ((I 6),H))
 (bo (ah v3 7) λv17=> bnd (ld v17 H) λv18 H=>
  aI v18
  (bo (ah v3 8) λv19=> bnd (ld v19 H) λv20 H=>
  uX C a0 v3 v20 H)
  (uX C a0 v3 (.s (Go.Value.slice none 0 0)) H))
theorem aln:Rn2 196 Gs:=λ_ _ _ _ _ h=>
 rnG alm Tryz.func196 (by kernel_rfl) (by kernel_rfl) h
def yj(C:Callee)(t10:AV)(H:aj):OA:=
 aI t10
 (some ((I 9),H))
 (some ((I 0),H))
def ny(C:Callee)(t3 t6:AV)(H:aj):OA:=
 aI t6
 (some ((I 8),H))
 (bo (bi .eql 3 t3 (I 3)) λv11=>
  aI v11
  (yj C v11 H)
  (bo (bi .eql 3 t3 (I 6)) λv12=>
  yj C v12 H))
def Ap(C:Callee)(a0:AV)(H:aj):OA:=
 bo (bi .eql 3 a0 (I 1)) λv5=>
 aI v5
 (some ((I 7),H))
 (bo (bi .eql 3 a0 (I 2)) λv7=>
  aI v7
  (ny C a0 v7 H)
  (bo (bi .eql 3 a0 (I 4)) λv8=>
  aI v8
  (ny C a0 v8 H)
  (bo (bi .eql 3 a0 (I 5)) λv9=>
   ny C a0 v9 H)))
theorem alo:Rn1 197 Ap:=λ_ _ _ _ h=>
 rnG an0 Tryz.func197 (by kernel_rfl) (by kernel_rfl) h
def aep(C:Callee)(a0 a1:AV)(H:aj):OA:=
 bo (au a0) λv6=> bo (ah v6 1) λv7=> bnd (st 1 v7 a1 H) λ_ H=>
 some (.tup [],H)
theorem alp:Rn2 198 aep:=λ_ _ _ _ _ h=>
 rnG an0 Tryz.func198 (by kernel_rfl) (by kernel_rfl) h
def aer(C:Callee)(a0 a1:AV)(H:aj):OA:=
 bo (au a0) λv6=> bo (ah v6 0) λv7=> bnd (st 1 v7 a1 H) λ_ H=>
 some (.tup [],H)
theorem alq:Rn2 199 aer:=λ_ _ _ _ _ h=>
 rnG an0 Tryz.func199 (by kernel_rfl) (by kernel_rfl) h
def BZ(C:Callee)(t4 t6 t7:AV)(H:aj):OA:=
 bnd (lda 6 t6 H) λv30 H=> bnd (st 6 t4 v30 H) λ_ H=>
 bnd (lda 6 t4 H) λr0 _=> some (.tup [r0,t7],H)
def X7(C:Callee)(a0 a1:AV)(H:aj):OA:=
 bnd (alc 93 [zI,zI,zI,zI,zB,zN] H) λv4 H=>
 bnd (C 37 [a0,a1] H) λv12 H=> bo (aF v12 0) λv13=> bo (aF v12 1) λv14=> bnd (alc 93 [zI,zI,zI,zI,zB,zN] H) λv6 H=> bnd (st 6 v6 v13 H) λ_ H=>
 aI v14
 (bnd (C 71 [a0,a1] H) λv18 H=>
  bo (au a0) λv21=> bo (ah v21 0) λv22=> bnd (ld v22 H) λv23 H=> bo (bi .add 3 v18 (I 1)) λv26=> bnd (C 211 [v23,v18,v26] H) λv27 H=> bo (au a0) λv28=> bo (ah v28 0) λv29=> bnd (st 1 v29 v27 H) λ_ H=>
  BZ C v4 v6 v14 H)
 (BZ C v4 v6 v14 H)
theorem alr:Rn2 200 X7:=λ_ _ _ _ _ h=>
 rnG an0 Tryz.func200 (by kernel_rfl) (by kernel_rfl) h
def X8(C:Callee)(a0:AV)(H:aj):OA:=
 bnd (alc 70 [zI,zI,zI,zI,zI,zI,zI,zB,zN] H) λv2 H=>
 bo (au a0) λv5=> bo (ah v5 0) λv6=> bnd (ld v6 H) λv7 H=> bnd (lnS v7 H) λv8 H=> bo (bi .eql 3 v8 (I 0)) λv9=>
 aI v9
 (bo (bd 70 []) λv10=> bnd (st 9 v2 v10 H) λ_ H=>
  bnd (lda 9 v2 H) λr0 _=> some (.tup [r0,(B false)],H))
 (bo (au a0) λv12=> bo (ah v12 0) λv13=> bnd (ld v13 H) λv14 H=> bnd (ix 9 v14 (I 0) H) λv15 H=> bnd (lda 9 v15 H) λv16 H=> bnd (C 98 [v16] H) λv17 H=> bnd (st 9 v2 v17 H) λ_ H=>
  bnd (lda 9 v2 H) λr0 _=> some (.tup [r0,(B true)],H))
theorem als:Rn1 203 X8:=λ_ _ _ _ h=>
 rnG an0 Tryz.func203 (by kernel_rfl) (by kernel_rfl) h
def aeu(C:Callee)(a0 a1 a2 a3 a4:AV)(H:aj):OA:=
 bnd (alc 93 [zI,zI,zI,zI,zB,zN] H) λv10 H=>
 bo (bd 91 [(0,a1),(1,a2)]) λv13=> bnd (C 46 [a4] H) λv17 H=> bo (bd 93 [(0,v13),(1,a0),(3,a3),(4,v17)]) λv18=> bnd (st 6 v10 v18 H) λ_ H=>
 bnd (lda 6 v10 H) λr0 _=> some (r0,H)
theorem alu:Rn5 204 aeu:=λ_ _ _ _ _ _ _ _ h=>
 rnG an0 Tryz.func204 (by kernel_rfl) (by kernel_rfl) h
def X9(C:Callee)(a0:AV)(H:aj):OA:=
 bnd (fA 91 a0 H) λv1 H=>
 bnd (lda 2 v1 H) λv3 H=> bnd (C 206 [v3] H) λv4 H=> gdA (some v4) true (lda 2 v1 H) H λv6 H=> gdA (some v4) true (C 212 [v6] H) H λv7 H=> bo (aU v4 v7 (B false)) λv8=>
 some (v8,H)
theorem aev:Rn1 205 X9:=λ_ _ _ _ h=>
 rnG an0 Tryz.func205 (by kernel_rfl) (by kernel_rfl) h
def aew(C:Callee)(a0:AV)(H:aj):OA:=
 bnd (fA 91 a0 H) λv1 H=>
 bo (ah v1 1) λv3=> bnd (ld v3 H) λv4 H=> bo (bi .eql 3 v4 (I (-1))) λv5=>
 some (v5,H)
theorem alv:Rn1 206 aew:=λ_ _ _ _ h=>
 rnG an0 Tryz.func206 (by kernel_rfl) (by kernel_rfl) h
def alx:Ann:=⟨[],[(11,rF 7 [])],[]⟩
def Cb(C:Callee)(t0 t1 t11:AV)(H:aj):OA:=
 bo (au t0) λv77=> bo (ah v77 8) λv78=> bnd (ld v78 H) λv79 H=> bnd (lda 3 t11 H) λv81 H=> bnd (mup .i64 v79 t1 v81 H) λ_ H=>
 some ((I 0),H)
def vV(C:Callee)(a0 a1 a2 a3 a4:AV)(H:aj):OA:=
 bo (au a0) λv15=> bo (ah v15 8) λv16=> bnd (ld v16 H) λv17 H=> bnd (lk .i64 (.agg #[.int .i64 0,.int .i64 0,.slice none 0 0]) v17 a1 true H) λv19 H=> bo (aF v19 0) λv20=> bo (aF v19 1) λv21=> bnd (alc 100 [zI,zI,zN] H) λv11 H=> bnd (st 3 v11 v20 H) λ_ H=>
 bo (un .not v21) λv24=>
 aI v24
 (some ((I 3),H))
 (bo (bi .lss 3 a2 (I 0)) λv27=> gdA (some v27) false (aC (some a2) H) H λv29 H=> gdA (some v27) false (aC (bi .gtr 3 v29 (I 2)) H) H λv30 H=> bo (aU v27 (B true) v30) λv31=> gdA (some v31) false (aC (some a3) H) H λv33 H=> gdA (some v31) false (aC (bi .lss 3 v33 (I (-1))) H) H λv34 H=> bo (aU v31 (B true) v34) λv35=> gdA (some v35) false (aC (some a3) H) H λv37 H=> gdA (some v35) false (aC (some a0) H) H λv38 H=> gdA (some v35) false (aC (au v38) H) H λv39 H=> gdA (some v35) false (aC (ah v39 0) H) H λv40 H=> gdA (some v35) false (aC (ah v40 0) H) H λv41 H=> gdA (some v35) false (ld v41 H) H λv42 H=> gdA (some v35) false (aC (bi .geq 3 v37 v42) H) H λv43 H=> bo (aU v35 (B true) v43) λv44=>
  aI v44
  (some ((I 1),H))
  (bo (bi .eql 3 a3 (I (-1))) λv47=> bo (bi .eql 3 a2 (I 0)) λv49=> bo (bi .neq 4 v47 v49) λv50=> gdA (some v50) false (aC (some a4) H) H λv52 H=> gdA (some v50) false (lnS v52 H) H λv53 H=> gdA (some v50) false (aC (bi .neq 3 v53 (I 0)) H) H λv54 H=> gdA (some v50) false (aC (some v54) H) H λv55 H=> gdA (some v55) true (aC (some a4) H) H λv56 H=> gdA (some v55) true (lnS v56 H) H λv57 H=> gdA (some v55) true (aC (some a0) H) H λv58 H=> gdA (some v55) true (aC (au v58) H) H λv59 H=> gdA (some v55) true (aC (ah v59 0) H) H λv60 H=> gdA (some v55) true (aC (ah v60 2) H) H λv61 H=> gdA (some v55) true (ld v61 H) H λv62 H=> gdA (some v55) true (aC (bi .neq 3 v57 v62) H) H λv63 H=> gdA (some v50) false (aC (aU v55 v63 (B false)) H) H λv64 H=> bo (aU v50 (B true) v64) λv65=>
  aI v65
  (some ((I 1),H))
  (bo (ah v11 0) λv68=> bnd (st 1 v68 a2 H) λ_ H=> bo (ah v11 1) λv69=> bnd (st 1 v69 a3 H) λ_ H=>
   bnd (lnS a4 H) λv71 H=> bo (bi .gtr 3 v71 (I 0)) λv72=>
   aI v72
   (bnd (C 46 [a4] H) λv74 H=> bo (ah v11 2) λv75=> bnd (st 1 v75 v74 H) λ_ H=>
   Cb C a0 a1 v11 H)
   (Cb C a0 a1 v11 H))))
theorem aly:Rn5 209 vV:=λ_ _ _ _ _ _ _ _ h=>
 rnG alx Tryz.func209 (by kernel_rfl) (by kernel_rfl) h
def Si(C:Callee)(a0 a1 a2:AV)(H:aj):OA:=
 bnd (C 193 [a0,a1] H) λv9 H=> bo (un .not v9) λv10=> gdA (some v10) false (aC (some a0) H) H λv12 H=> gdA (some v10) false (aC (au v12) H) H λv13 H=> gdA (some v10) false (aC (ah v13 0) H) H λv14 H=> gdA (some v10) false (ld v14 H) H λv15 H=> gdA (some v10) false (aC (some a1) H) H λv16 H=> gdA (some v10) false (lk .i64 (.int .i64 0) v15 v16 false H) H λv17 H=> gdA (some v10) false (aC (some a2) H) H λv18 H=> gdA (some v10) false (aC (bi .neq 3 v17 v18) H) H λv19 H=> bo (aU v10 (B true) v19) λv20=>
 aI v20
 (some ((I 6),H))
 (bo (au a0) λv22=> bo (ah v22 0) λv23=> bnd (ld v23 H) λv24 H=> bnd (del .i64 v24 a1 H) λ_ H=>
  some ((I 0),H))
theorem alz:Rn3 210 Si:=λ_ _ _ _ _ _ h=>
 rnG an0 Tryz.func210 (by kernel_rfl) (by kernel_rfl) h
def alA:Ann:=⟨[],[(5,rF 8 [])],[]⟩
def aex(C:Callee)(a0 a1 a2:AV)(H:aj):OA:=
 bnd (lnS a0 H) λv12 H=> bo (slS 6 a0 (some a1) (some a2) (some v12)) λv13=>
 bo (bi .eql 3 a1 a2) λv16=>
 aI v16
 (some (a0,H))
 (bnd (lnS a0 H) λv19 H=>
  bo (slS 6 a0 none (some a1) none) λv22=> bo (slS 6 a0 (some a2) none none) λv25=> bnd (app 93 6 64 v22 v25 H) λv26 H=>
  bnd (lnS v26 H) λv29 H=> bo (slS 6 v26 (some v29) (some v19) none) λv31=> bnd (clr 6 [zI,zI,zI,zI,zB,zN] v31 H) λ_ H=>
  some (v26,H))
theorem alB:Rn3 211 aex:=λ_ _ _ _ _ _ h=>
 rnG alA Tryz.func211 (by kernel_rfl) (by kernel_rfl) h
def aey(C:Callee)(a0:AV)(H:aj):OA:=
 bnd (fA 91 a0 H) λv1 H=>
 bo (ah v1 0) λv3=> bnd (ld v3 H) λv4 H=> bo (bi .eql 3 v4 (I (-1))) λv5=>
 some (v5,H)
theorem alC:Rn1 212 aey:=λ_ _ _ _ h=>
 rnG an0 Tryz.func212 (by kernel_rfl) (by kernel_rfl) h
def kU(l:List Pkt)(room:Int):List Cell:=[.seq 9 (l.flatMap Pkt.av),.av (I room)]
theorem uY(l:List Int):(l.map I).all AV.aH=true:=by
 rw [zaZ];intro x hx;obtain⟨z,_,rfl⟩:=zaN.1 hx;rfl
theorem oZ(l:List Int){d:Nat}:∀x∈l.map I,Frz (d+1) x:=λx hx=> by
 obtain⟨z,_,rfl⟩:=zaN.1 hx;exact dW
theorem uo {l:List Int}(h:l≠[]):dat l=.vs l.length 1 (l.map I):=by
 rw [dat,Bh h,xw]
theorem jf(H:aj)(l:List Int)(hl:l.length < 1000000000):cl 46 [dat l] H=some (dat l,H):=by
 by_cases h:l=[]
 ·subst h;refine eu rfl rfl (PE _ _ _ (r:=(zN,H.guard)) ?_) fJ;have e:bi .eql 22 zN zN=some (B true):=by kernel_rfl
  simp -implicitDefEqProofs only [xq_,LY,dat,dQ,e]
 ·have h0:l.length≠0:=λe=> h (zan e);have e2:=nR (e:=3) (by_:=8) (r:=H.guard.next) (H:=H.guard.new (.blk 0 3 [])) nP (jr _ l) (uY l) h0 (by unfold most;omega) (by unfold most;omega);simp only [yU,nNew] at e2;refine eu rfl rfl (PE _ _ _ (r:=(.sl (H.next+1) 0 0 1 l.length l.length false,(H.guard.new (.blk 0 3 [])).new (.blk 0 (3+eH) (l.map I)))) ?_) ?_
  ·have e1:bi .eql 22 (dat l) zN=some (B false):=by rw [uo h];exact nJ Tryz.underlying22
   simp -implicitDefEqProofs only [xq_,LY,e1,Dx,rG,e2,zba,zaT]
  ·rw [uo h];refine gZ (by omega) (cells:=l.map I) ?_ (dZ _ λx hx=> oZ l x hx _ _);simp only [aX,iD,nNew,yU,if_true];rw [if_pos (by simp),zaP,zas (by simp)]
theorem Ya(p:Pkt):Frz 9 (.agg p.av):=kD λx hx=> by
 simp only [Pkt.av,zam,zaI,or_false] at hx;rcases hx with rfl | rfl | rfl | rfl | rfl | rfl | rfl | rfl | rfl <;> first | exact dW | exact rE
theorem Yb(H:aj)(p:Pkt)(hl:p.data.length < 1000000000):cl 82 [.agg p.av] H=some (.agg p.av,H):=by
 have e1:=λH=> jf H p.data hl;refine aW rfl rfl (aou _ _ _) ?_ (Ya p);simp -implicitDefEqProofs only [Nat.reduceLT,Nat.reduceAdd,setAt,xq_,hq_,ajw,aB,Pkt.av,e1]
theorem Sj(H:aj)(p:Pkt)(hl:p.data.length < 1000000000):cl 98 [.agg p.av] H=some (.agg p.av,H):=by
 have e1:=λH=> jf H p.data hl;refine aW rfl rfl (aoL _ _ _) ?_ (Ya p);simp -implicitDefEqProofs only [Nat.reduceLT,Nat.reduceAdd,setAt,xq_,hq_,ajN,aB,Pkt.av,e1]
section
variable {b:Nat}{H:aj}{g:Store}{q:Nat}{l:List Pkt}{room:Int}
theorem Sl(G:Good b H g)(h:g q=some (kU l room))(h1:0<=room)(h2:room < 1000)(h3:l.length < 1000):
  cl 160 [.ref q 0 0] H=some (I (room - l.length),H):=by
 refine aN rfl rfl (akL _ _ _ ?_);obtain⟨x,hx,c⟩:=G.seq h (i:=0) rfl;have e1:=G.load h (i:=1) rfl;have e2:=(c.is (by decide) (bf aY l)).lnS;simp -implicitDefEqProofs only [xq_,ad5,hx,e1,e2,iT];rw [wrap_i64 (by omega) (by omega)]
theorem afZ(G:Good b H g)(hb:H.base<=b)(h:g q=some (kU l room))(h1:0<=room)(h2:room < 1000)(h3:l.length < 1000)(p:Pkt)(hp:p.data.length < 1000000000):
  ∃H',cl 163 [.ref q 0 0,.agg p.av] H=some (I (if room=l.length then 5 else 0),H')/\Good b H' (upd g q (kU (if room=l.length then l else l++[p]) room))/\Step b H H':=by
 have G1:=G.new (.blk 0 70 p.av);have e1:=Sl G1 h h1 h2 h3;by_cases hr:room=l.length
 ·refine⟨_,aN rfl rfl (ad7 _ _ _ _ (r:=(_,H.new (.blk 0 70 p.av))) ?_),?_,Step.new _ G.1⟩
  ·simp -implicitDefEqProofs only [Nat.reduceLT,xq_,hq_,XW,aB (aJ p),e1,hr,Int.sub_self]
  ·rw [if_pos hr,dO h];exact G1
 ·have hr':¬room - (l.length:Int)=0:=by omega
  obtain⟨x,hx,c⟩:=G1.seq h (i:=0) rfl;have e2:=fQ (H:=H.new (.blk 0 70 p.av)) (r:=H.next) (off:=0) (n:=9) (nP) (by simp [Pkt.av]);have e3:=Yb (H.new (.blk 0 70 p.av)).guard p hp;obtain⟨x',H1,H2,a1,a2,a3,a4⟩:=(G1.new (.blk 0 70 p.av)).append (e:=70) (by_:=88) hb h (i:=0) rfl (by decide) (bf aY l) (c.new _) (jv (ex:=true) (n:=1) (m:=9) (l:=p.av) rfl) (aJ p) (by unfold most;omega) (by unfold most;omega);refine⟨H2,aN rfl rfl (ad7 _ _ _ _ ?_),?_,(((Step.new _ G.1).trans (Step.new _ (G.new _).1)).trans a4)⟩
  ·simp only [nNew] at a1;simp -implicitDefEqProofs only [Nat.reduceLT,xq_,XW,aB (aJ p),e1,hr',hr,hx,e2,zaP,e3,acA,zbd,Nat.reduceLeDiff,Lm,jm (m:=9) (z:=[zI,zI,zI,zI,zI,zI,zI,zB,zN]) (v:=.agg p.av) rfl rfl (aJ p),dF,a1,a2]
  ·rw [if_neg hr];have:kU (l++[p]) room=(kU l room).set 0 (.seq 9 (l.flatMap Pkt.av++p.av)):=by simp [kU]
   rw [this];exact a3
theorem Yc(G:Good b H g)(h:g q=some (kU l room))(h1:0<=room)(h2:room < 1000)(h3:l.length < 1000):
  cl 97 [.ref q 0 0] H=some (I (room - l.length),H):=by
 refine aN rfl rfl (aoK _ _ _ ?_);obtain⟨x,hx,c⟩:=G.seq h (i:=0) rfl;have e1:=G.load h (i:=1) rfl;have e2:=(c.is (by decide) (bf aY l)).lnS;simp -implicitDefEqProofs only [xq_,ajM,hx,e1,e2,iT];rw [wrap_i64 (by omega) (by omega)]
theorem aa4(G:Good b H g)(hb:H.base<=b)(h:g q=some (kU l room))(h1:0<=room)(h2:room < 1000)(h3:l.length < 1000)(p:Pkt)(hp:p.data.length < 1000000000):
  ∃H',cl 65 [.ref q 0 0,.agg p.av] H=some (I (if room=l.length then 5 else 0),H')/\Good b H' (upd g q (kU (if room=l.length then l else l++[p]) room))/\Step b H H':=by
 have G1:=G.new (.blk 0 70 p.av);have e1:=Yc G1 h h1 h2 h3;by_cases hr:room=l.length
 ·refine⟨_,aN rfl rfl (ajo _ _ _ _ (r:=(_,H.new (.blk 0 70 p.av))) ?_),?_,Step.new _ G.1⟩
  ·simp -implicitDefEqProofs only [Nat.reduceLT,xq_,hq_,afN,aB (aJ p),e1,hr,Int.sub_self]
  ·rw [if_pos hr,dO h];exact G1
 ·have hr':¬room - (l.length:Int)=0:=by omega
  obtain⟨x,hx,c⟩:=G1.seq h (i:=0) rfl;have e2:=fQ (H:=H.new (.blk 0 70 p.av)) (r:=H.next) (off:=0) (n:=9) (nP) (by simp [Pkt.av]);have e3:=Sj (H.new (.blk 0 70 p.av)).guard p hp;obtain⟨x',H1,H2,a1,a2,a3,a4⟩:=(G1.new (.blk 0 70 p.av)).append (e:=70) (by_:=88) hb h (i:=0) rfl (by decide) (bf aY l) (c.new _) (jv (ex:=true) (n:=1) (m:=9) (l:=p.av) rfl) (aJ p) (by unfold most;omega) (by unfold most;omega);refine⟨H2,aN rfl rfl (ajo _ _ _ _ ?_),?_,(((Step.new _ G.1).trans (Step.new _ (G.new _).1)).trans a4)⟩
  ·simp only [nNew] at a1;simp -implicitDefEqProofs only [Nat.reduceLT,xq_,afN,aB (aJ p),e1,hr',hr,hx,e2,zaP,e3,acA,zbd,Nat.reduceLeDiff,Lm,jm (m:=9) (z:=[zI,zI,zI,zI,zI,zI,zI,zB,zN]) (v:=.agg p.av) rfl rfl (aJ p),dF,a1,a2]
  ·rw [if_neg hr];have:kU (l++[p]) room=(kU l room).set 0 (.seq 9 (l.flatMap Pkt.av++p.av)):=by simp [kU]
   rw [this];exact a3
theorem af0 {i n:Nat}{x:AV}{l:List AV}(c:Cur b H q i x 9 l)(hb:H.base<=b)(hl:l.length=n*9)(hn:n < 1000000000){j:Nat}(hj:j < n):
  ∃x' H',cl 99 [x,I j,I (j+1)] H=some (x',H')/\Fit H H' x x' 9 (l.take (j*9)++l.drop ((j+1)*9))/\H'.next=H.next/\H'.base=H.base/\∀r,nameOf x≠some r->H'.get r=H.get r:=by
 obtain⟨y,x1,x2,x3,H1,x4,H2,e1,e2,e3,e4,e5,e6,e7,f,n1,b1,k1⟩:=Q7 c hb (by decide) hl hn hj (z:=[zI,zI,zI,zI,zI,zI,zI,zB,zN]) rfl rfl (e:=70) (by_:=88) (by decide);have e0:=(c.is (by decide) hl).lnS;have hne:((j:Int)=j+1)=False:=eq_false (by omega);refine⟨x3,H2,aN rfl rfl (aoN _ _ _ _ _ ?_),f,n1,b1,k1⟩;simp -implicitDefEqProofs only [xq_,ajO,e0,e1,e2,e3,e4,e5,e6,e7,hne]
theorem MF {α:Type}{enc:α->List AV}{m:Nat}(he:∀a,(enc a).length=m):∀(l:List α) (j:Nat),(l.flatMap enc).take (j*m)=(l.take j).flatMap enc
 | [],j=> by simp
 | a::l,0=> by simp
 | a::l,j+1=> by
  rw [zaH,List.take_succ_cons,zaH,zbF,Nat.add_comm,List.take_append,he,Nat.add_sub_cancel_left,MF he l j,zas (by rw [he];omega)]
theorem MG {α:Type}{enc:α->List AV}{m:Nat}(he:∀a,(enc a).length=m):∀(l:List α) (j:Nat),(l.flatMap enc).drop (j*m)=(l.drop j).flatMap enc
 | [],j=> by simp
 | a::l,0=> by simp
 | a::l,j+1=> by
  rw [zaH,List.drop_succ_cons,zbF,Nat.add_comm,List.drop_append,he,Nat.add_sub_cancel_left,MG he l j,zaU (by rw [he];omega),zaX]
theorem Gt {α:Type}{enc:α->List AV}{m:Nat}(he:∀a,(enc a).length=m)(l:List α)(j:Nat):(l.flatMap enc).take (j*m)++(l.flatMap enc).drop ((j+1)*m)=(l.eraseIdx j).flatMap enc:=by
 rw [MF he,MG he,List.eraseIdx_eq_take_drop_succ,zbB]
theorem iW {α:Type}{enc:α->List AV}{m:Nat}(he:∀a,(enc a).length=m){L:List α}{x:AV}(hs:aG H x m L.length (L.flatMap enc)){i:Nat}{a:α}(hi:L[i]?=some a):lda m (cZ x i) H=some (.agg (enc a),H):=by
 have hl:i < L.length:=(zaf.1 hi).1;rw [hs.lda hl,flat_get he L i a hi]
def fM(o:Option Pkt):AV:=.tup [.agg (o.getD .zero).av,B o.isSome]
theorem dN:Pkt.zero.av=[zI,zI,zI,zI,zI,zI,zI,zB,zN]:=by simp [Pkt.zero,Pkt.av,dat,dQ]
theorem zy(o:Option Pkt):Frz 9 (fM o):=rD λx hx=> by
 simp only [zam,zaI,or_false] at hx;rcases hx with rfl | rfl
 ·refine kD λx hx=> ?_;simp only [Pkt.av,zam,zaI,or_false] at hx;rcases hx with rfl | rfl | rfl | rfl | rfl | rfl | rfl | rfl | rfl <;> first | exact dW | exact rE
 ·exact dW
theorem Yd(G:Good b H g)(h:g q=some (kU l room))(h3:l.length < 1000)(hd:∀p∈l,p.data.length < 1000000000):
  cl 203 [.ref q 0 0] H=some (fM l.head?,H):=by
 refine aW rfl rfl (als _ _ _) ?_ (zy _);have G1:=G.guard.new (.blk 0 70 [zI,zI,zI,zI,zI,zI,zI,zB,zN]);obtain⟨x,hx,c⟩:=G1.seq h (i:=0) rfl;have hs:=c.is (by decide) (bf aY l);have e2:=hs.lnS;cases l with
 | nil=> simp -implicitDefEqProofs only [Nat.reduceAdd,setAt,xq_,hq_,X8,hx,e2,Int.ofNat_zero,wF,gV,bZ,fM,dN,List.head?_nil,za0,zaL]
 | cons p l=>
  have e3:=hs.ix (k:=.i64) (i:=0) (by decide) (by simp only [zak];omega);have e4:=iW aY hs (i:=0) (a:=p) rfl;have hz:(((l.length+1:Nat):Int)=0)=False:=eq_false (by omega);have e5:=λH=> Sj H p (hd p (by simp));simp -implicitDefEqProofs only [Nat.reduceAdd,setAt,xq_,hq_,X8,hx,e2,hz,e3,Int.toNat_zero,e4,e5,fM,List.head?_cons,zay,zaM]
theorem Sm(G:Good b H g)(hb:H.base<=b)(h:g q=some (kU l room))(h3:l.length < 1000){j:Nat}(hj:j < l.length):
  ∃x x' H1 H2,ld (.ref q 0 0) H=some (x,H)/\cl 99 [x,I j,I (j+1)] H=some (x',H1)/\st 1 (.ref q 0 0) x' H1=some (aO,H2)/\Good b H2 (upd g q (kU (l.eraseIdx j) room))/\Step b H H2:=by
 obtain⟨x,hx,c⟩:=G.seq h (i:=0) rfl;obtain⟨x',H1,d1,d2,d3,d4,d5⟩:=af0 c hb (bf aY l) (by omega) hj;rw [Gt aY] at d2;obtain⟨H2,s1,s2,s3,s4⟩:=G.seat h (i:=0) rfl c (by omega) (by omega) (λr _ hr=> d5 r hr) d2;exact⟨x,x',H1,H2,hx,d1,s1,s2,Step.trans ⟨d4,by omega,λr hr=> d5 r (c.low hr)⟩ s3⟩
theorem Ye(G:Good b H g)(hb:H.base<=b)(h:g q=some (kU l room))(h3:l.length < 1000)(hd:∀p∈l,p.data.length < 1000000000):
  ∃H',cl 183 [.ref q 0 0] H=some (fM l.head?,H')/\Good b H' (upd g q (kU l.tail room))/\Step b H H':=by
 have G1:=G.newObj (ty:=70) (xs:=[zI,zI,zI,zI,zI,zI,zI,zB,zN]) rfl;have hq:=G.lt h;have h1:upd g H.next ([zI,zI,zI,zI,zI,zI,zI,zB,zN].map .av) q=some (kU l room):=by rw [upd_ne (by omega)];exact h
 have e1:=Yd G1 h1 h3 hd;have hb0:H.base<=H.next:=zaz hb G.1
 refine jw rfl rfl (ak5 _ _ _) ?_;cases l with
 | nil=>
  simp -implicitDefEqProofs only [Nat.reduceAdd,setAt,xq_,hq_,zaa,zad,exists_eq_left',X3,e1,BU,fM,List.head?_nil,za0,zaL,dN,List.tail_nil,hb0];exact⟨(dO h).symm ▸ (G.new _).new _,(Step.new _ G.1).trans (Step.new _ (G.new _).1)⟩
 | cons p l=>
  have hm:=hd p (by simp);let H1:=H.new (.blk 0 70 [zI,zI,zI,zI,zI,zI,zI,zB,zN]);have G2:=G1.newObj (ty:=70) (xs:=p.av) (aJ _);have hv2:upd (upd g H.next ([zI,zI,zI,zI,zI,zI,zI,zB,zN].map .av)) (H.next+1) (p.av.map .av) H.next=some ([zI,zI,zI,zI,zI,zI,zI,zB,zN].map .av):=by rw [upd_ne (by omega),upd_same]
  have h2:upd (upd g H.next ([zI,zI,zI,zI,zI,zI,zI,zB,zN].map .av)) (H.next+1) (p.av.map .av) q=some (kU (p::l) room):=by rw [upd_ne (by omega)];exact h1
  obtain⟨x,x',K1,K2,s1,s2,s3,s4,s5⟩:=Sm G2 (by rw [bNew,bNew];omega) h2 h3 (j:=0) (by simp);have G3:Good b K2 _:=s4;have q2:upd (upd (upd g H.next ([zI,zI,zI,zI,zI,zI,zI,zB,zN].map .av)) (H.next+1) (p.av.map .av)) q (kU l room) (H.next+1)=some (p.av.map .av):=by rw [upd_ne (by omega),upd_same]
  have q1:upd (upd (upd g H.next ([zI,zI,zI,zI,zI,zI,zI,zB,zN].map .av)) (H.next+1) (p.av.map .av)) q (kU l room) H.next=some ([zI,zI,zI,zI,zI,zI,zI,zB,zN].map .av):=by rw [upd_ne (by omega),upd_ne (by omega),upd_same]
  have l2:=G3.loads q2 (i:=0) (n:=9) (xs:=p.av) rfl rfl (by decide);obtain⟨K3,t1,t2,t3,t4⟩:=G3.stores (by rw [s5.base,bNew,bNew];exact hb) q1 (i:=0) (n:=9) (vs:=p.av) (by decide) rfl (aJ _);have l3:=t2.loads upd_same (i:=0) (n:=9) (xs:=p.av) rfl rfl (by decide);have z1:((0:Nat):Int)=0:=rfl;have z2:((0:Nat):Int)+1=1:=rfl;rw [z2] at s2;simp only [z1] at s2;simp -implicitDefEqProofs only [Nat.reduceAdd,setAt,xq_,hq_,zaa,zad,exists_eq_left',X3,e1,BU,fM,List.head?_cons,zay,zaM,List.tail_cons,hb0,s1,s2,s3,l2,t1,l3];have n1:g H.next=none:=G.isNone (zac _)
  have n2:g (H.next+1)=none:=G.isNone (by omega);exact⟨t2.sub (((((pO.refl g).more n1 _).more n2 _).both q _).more (xF n1 (by omega)) _),(((Step.new _ G.1).trans (Step.new _ (G.new _).1)).trans s5).trans t3⟩
theorem Yf(G:Good b H g)(h:g q=some (kU l room))(h3:l.length < 1000)(hd:∀p∈l,p.data.length < 1000000000)(at_:Int):
  cl 53 [.ref q 0 0,I at_] H=some (fM (if at_ < 0 then none else l[at_.toNat]?),H):=by
 refine aW rfl rfl (an4 _ _ _ _) ?_ (zy _);have G1:=G.guard.new (.blk 0 70 [zI,zI,zI,zI,zI,zI,zI,zB,zN]);obtain⟨x,hx,c⟩:=G1.seq h (i:=0) rfl;have hs:=c.is (by decide) (bf aY l);have e2:=hs.lnS;by_cases h0:at_ < 0
 ·simp -implicitDefEqProofs only [Nat.reduceAdd,setAt,xq_,hq_,aaY,h0,wF,gV,bZ,fM,dN,za0,zaL]
 ·by_cases h1:at_ < l.length
  ·have e3:=hs.ix (k:=.i64) (i:=at_) (by omega) h1;obtain⟨p,hp⟩:∃p,l[at_.toNat]?=some p:=⟨_,zab (by omega)⟩
   have e4:=iW aY hs hp;have e5:=λH=> Yb H p (hd p (zau hp));have h1':¬(l.length:Int)<=at_:=by omega
   simp -implicitDefEqProofs only [Nat.reduceAdd,setAt,xq_,hq_,aaY,hx,h0,h1',e2,e3,e4,e5,hp,fM,zay,zaM]
  ·have hp:l[at_.toNat]?=none:=zaG (by omega);have h1':(l.length:Int)<=at_:=by omega
   simp -implicitDefEqProofs only [Nat.reduceAdd,setAt,xq_,hq_,aaY,hx,h0,h1',e2,hp,wF,gV,bZ,fM,dN,za0,zaL]
end
open Go.RowKit
section
variable {P:Program}{C:Callee}{A:Ann}{n:Nat}
theorem Gu {L:List Nat}{c:Code}(hc:Lc A n c (ng L) (λ_=> 0) 0=true){t:dU}{e:Env}{H H1:aj}{vs:List AV}(ht:Ag n (wE A c (ng L) (λ_=> 0) 0) t e)
  (h:jG P C A n c e H (λe H=> some (proj L e,H)) (λ_ _ _=> none) (λ_ _=> none)=some (vs,H1)):
  ∃t1,dJ P C c t H=some (.normal,t1,H1)/\∃e1,Ag n (ng L) t1 e1/\proj L e1=vs:=by
 open Classical in
 have key:=Dv (P:=P) (C:=C) (β:=List AV × aj) A c (ng L) (λ_=> 0) 0 hc
  (λt H=> if hx:∃e1,Ag n (ng L) t e1/\proj L e1=vs then(if H=H1 then some (vs,H) else none) else none) (λe H=> if proj L e=vs/\H=H1 then some (vs,H) else none)
  (λ_ _ _=> none) (λ_ _ _=> none) (λ_ _=> none) (λ_ _=> none)
  (λt e H ha r hr=> by
   split at hr
   ·rename_i hh;rw [dif_pos ⟨e,ha,hh.1⟩,if_pos hh.2];exact hr
   ·cases hr) (λ_ _ _ _ _=> Le.refl _) (λ_ _ _ _=> Le.refl _) t e H ht
 have tl:=FQ (P:=P) (C:=C) (A:=A) (n:=n) (β:=List AV × aj) c e H (λk e H=> k (proj L e) H) (λ_ _ _ _=> none) (λ_ _ _=> none) (λt H=> V4 _ _) (λ_ _ _=> fB _) (λ_ _=> fB _);have h1:jG P C A n c e H (λe H=> (λs H=> some (s,H)) (proj L e) H) (λ_ _ _=> none) (λ_ _=> none)=some (vs,H1):=h;have h2:jG P C A n c e H (λe H=> if proj L e=vs/\H=H1 then some (vs,H) else none) (λ_ _ _=> none) (λ_ _=> none)=some (vs,H1):=by
  rcases tl (λs H=> some (s,H)) _ h1 with h3 | ⟨s,H',h3,h4⟩
  ·exact h3 λs H=> if s=vs/\H=H1 then some (vs,H) else none
  ·cases h3;exact h4 (λs H=> if s=vs/\H=H1 then some (vs,H) else none) (by simp)
 have h3:=key _ h2;cases hx:dJ P C c t H with
 | none=> rw [hx] at h3;cases h3
 | some q=>
  obtain⟨ex,t1,H2⟩:=q;rw [hx] at h3;cases ex with
  | normal=>
   simp only [Lh] at h3;split at h3
   ·rename_i he;split at h3
    ·rename_i hH;subst hH;exact⟨t1,rfl,he⟩
    ·cases h3
   ·cases h3
  | exit i=> cases h3
  | ret=> cases h3
theorem Yg {c:Code}{rs:List ResultVar}(hc:Lc A n c (Og rs) (λ_=> 0) (Og rs)=true){t:dU}{e:Env}{H:aj}{r:AV × aj}(ht:Ag n (wE A c (Og rs) (λ_=> 0) (Og rs)) t e)
  (h:jG P C A n c e H (JX P n rs) (λ_ _ _=> none) (JX P n rs)=some r):
  ∃ex t1,(ex=.normal∨ex=.ret)/\dJ P C c t H=some (ex,t1,r.2)/\iG P rs t1 r.2=some r.1:=by
 have hr:∀t e H,Ag n (Og rs) t e->Le (JX P n rs e H) ((iG P rs t H).map λv=> (v,H)):=λt e H h=> by
  rw [Wh _ h];exact Le.refl _
 have h1:=Dv (P:=P) (C:=C) A c _ _ _ hc _ _ _ _ _ _ hr (λ_ _ _ _ _=> Le.refl _) hr t e H ht r h;cases hx:dJ P C c t H with
 | none=> rw [hx] at h1;cases h1
 | some q=>
  obtain⟨ex,t1,H2⟩:=q;rw [hx] at h1;cases ex with
  | exit i=> cases h1
  | normal=>
   simp only [Lh] at h1;cases hq:iG P rs t1 H2 with
   | none=> rw [hq] at h1;cases h1
   | some v=>
    rw [hq] at h1;simp only [zah,zaa] at h1;subst h1;exact⟨_,t1,.inl rfl,rfl,hq⟩
  | ret=>
   simp only [Lh] at h1;cases hq:iG P rs t1 H2 with
   | none=> rw [hq] at h1;cases h1
   | some v=>
    rw [hq] at h1;simp only [zah,zaa] at h1;subst h1;exact⟨_,t1,.inr rfl,rfl,hq⟩
theorem alD {o:Oper}{a:Act}{w:World}{K:Act->World->Prop}{Q:Exit->Act->World->Prop}{l m:Nat}(hd:∀c,o.op≠.defer c)(h:o.wp P a w K Q):o.wpIn (Fence.wide.inRound l) m P a w K Q:=by
 unfold Oper.wpIn;refine⟨λ_ _=> trivial,?_⟩;rw [Oper.semAt_eq _ _ _ hd];unfold Oper.wp at h;generalize (execOp a.eval o).run P w=r at*;have dp:(Fence.wide.inRound l).depth.isSome=true->1<=m:=λh=> by cases h
 cases r with
 | ok x w'=>
  cases x <;> simp only [Oper.upon,Oper.uponIn] at h ⊢ <;> first
   | exact h
   | exact⟨dp,CallsIn.inRound l (callsIn_wide.2 h)⟩
   | exact h.elim
   | skip
  rename_i row args;exact⟨dp,λc cs hr=> let⟨v,w',r,s⟩:=h c cs;⟨v,w',r,stepsIn_wide.2 s⟩⟩
 | halt x w'=> cases x <;> simp only [Oper.upon,Oper.uponIn] at h ⊢ <;> exact h
def zA(o:Oper):Bool:=match o.op with
 | .defer _=> false
 | _=> true
theorem Gv {o:Oper}(h:zA o=true):∀c,o.op≠.defer c:=λc e=> by rw [zA,e] at h;cases h
theorem af2 {ops:Array Oper}(hd:∀o∈ops,zA o=true){Q:Exit->Act->World->Prop}{i:Nat}{K:Act->World->Prop}{a:Act}{w:World}{l m:Nat}(hq:¬LetsOut Q)(h:wpOp P ops Q i K a w):wpOpIn (Fence.wide.inRound l) m P ops Q i K a w:=by
 unfold wpOp at h;unfold wpOpIn;split
 ·rename_i ho;rw [ho] at h;exact h
 ·rename_i o ho;rw [ho] at h;simp only at h;split
  ·rename_i hw;rw [if_pos hw] at h;exact alD (Gv (hd o (Array.mem_of_getElem? ho))) (h.resolve_right λh=> hq h.2)
  ·rename_i hw;rw [if_neg hw] at h;exact⟨λ_ _=> trivial,h⟩
theorem aa5 {ops:Array Oper}(hd:∀o∈ops,zA o=true){Q:Exit->Act->World->Prop}{l m:Nat}{md:Region.Mode}(hq:¬LetsOut Q):∀(fuel:Nat) (listed:Array Bool) (a:Act) (w:World),wpAny P md ops Q fuel listed a w->wpAnyIn (Fence.wide.inRound l) m P md ops Q fuel listed a w:=by
 intro fuel
 induction fuel with
 | zero=> intro listed a w h;exact h
 | succ fuel ih=>
  intro listed a w h;exact⟨h.1,λi hi=> wpOpIn_mono (λa w h=> ih _ a w h) (af2 hd hq (h.2 i hi))⟩
def uZ(P:Program)(C:Callee)(c:Code):Prop:=
 ∀l m t H e t' H',dJ P C c t H=some (e,t',H')->∀(ρ:Ren) (w:World) (a:Act),Rel ρ H w->TOn ρ H.gen w (λ_=> True) t a->∀Q:Exit->Act->World->Prop,¬LetsOut Q->Post ρ H w a t' H' (Q e.to)->c.wpIn (Fence.wide.inRound l) m P Q a w
theorem aa6 {ops:List Oper}{t t':dU}{H H':aj}{ρ:Ren}{w:World}{a:Act}(hC:Sound P C)(hKC:jB C)(h:vY P C ops t H=some (t',H'))(R:Rel ρ H w)(TR:TOn ρ H.gen w (λ_=> True) t a){Q:Exit->Act->World->Prop}
  (hQ:∀a' ρ' w',Rel ρ' H' w'->TOn ρ' H'.gen w' (λ_=> True) t' a'->Ext ρ H w ρ' H' w'->a'.defers=a.defers->Q .normal a' w'):wpAny P .any ops.toArray Q ops.toArray.size (Array.replicate ops.toArray.size false) a w.drew:=by
 unfold vY at h;split at h <;> first | (cases h;done) | skip
 rename_i hok;split at h <;> first | (cases h;done) | skip
 rename_i t0 H0 hcr;obtain⟨hrun,amZ⟩:dP P C ops (kM ops) t0 H0=some (t',H')/\∀p∈jW ops,agree P C ops H.next t0 H0 p:=by
  split at h
  ·rename_i he;rw [he];exact⟨h,by simp⟩
  ·split at h <;> first | (cases h;done) | skip
   rename_i ha;exact⟨h,ha⟩
 have F:=zY hok;have hmem:∀j,j∈lM ops↔j < ops.length/\cst ops j=true:=λj=> by simp [lM,zbq,zaW]
 obtain⟨hf,hg,hlen,nm,vl,h1,h2,h3⟩:=qW (lM ops) t H t0 H0 (List.nodup_range.filter _) (λj hj=> ((hmem j).1 hj).2)
  (λi _ j _ oi oj d a1 a2 a3 a4=> F.amB i j oi oj d a1 a2 a3 a4) hcr
 obtain⟨T,Hp,val,S,hend,hval⟩:=Fe hrun vl;obtain⟨hgen,RH0,EH0⟩:=KL R hf hg;obtain⟨ρ1,w1,a1,g1,g2⟩:=wu hC _ _ _ _ _ ρ w a hcr R TR;have D:aag P C ops t H t0 H0 T Hp val nm:={
  facts:=F
  S:=S
  names:=λj hj hc=> by
   obtain⟨o,q1,q2,q3,q4,q5⟩:=h1 j ((hmem j).2 ⟨hj,hc⟩);exact⟨o,q1,q2,q3,by rw [hval j hc];exact q4,λd hd hl=> by rw [hval j hc];exact q5 d hd hl⟩
  inj:=λi j hi hj ci cj e=> h2 i ((hmem i).2 ⟨hi,ci⟩) j ((hmem j).2 ⟨hj,cj⟩) e
  rest:=λd hd=> h3 d λj hj o ho=> hd j ((hmem j).1 hj).2 o ho
  len:=hlen
  fresh:=hf
  apf:=hg
  agr:=amZ
  ghost:=λp hp d=> by
   obtain⟨ρ2,w2,a2,r1,r2⟩:=Fg hC S g1 g2 p hp;exact RV.nv r1.out _ _ (r2.any d trivial)
  keeps:=hKC }
 have e1:T ops.length=t':=by rw [<-Prod.mk.inj hend |>.1]
 have e2:Hp ops.length=H':=by rw [<-Prod.mk.inj hend |>.2]
 have hli:∀j,¬Li (Array.replicate ops.toArray.size false) j:=λj=> by
  unfold Li;simp [Array.getD]
 refine acr hC D (a0:=a) (λa' ρ' w' q1 q2 q3 q4=> hQ a' ρ' w' (by rw [<-e2];exact q1) (by rw [<-e1,<-e2];exact q2) (by rw [<-e2];exact q3) q4) ops.toArray.size _ a w.drew 0 ρ (by simp [wY]) ?_;refine⟨by simp,λj o _ hl=> absurd hl (hli j),zaT _,λi _ _=> ⟨λhl=> absurd hl (hli i),λh=> by omega⟩,by rw [S.zero.2];exact RH0.drew,λk hk hc _=> ?_,?_,TR.size,λd hd=> ⟨λj o _ hl=> absurd hl (hli j),λ_=> ?_⟩,rfl⟩
 ·obtain⟨_,_,q1,_⟩:=D.names k hk hc;exact(R.out _ q1).1
 ·rw [S.zero.2];exact EH0.trans (Ext.drew ρ H0 w)
 ·rw [S.zero.2,hgen];exact RV.mono (Ext.drew ρ H w).toMono _ _ (TR.get d trivial hd)
theorem PL(hC:Sound P C)(hKC:jB C)(hm:P.follows .mixedOrders=true){id:Nat}{ops:Array Oper}(hd:∀o∈ops,zA o=true):uZ P C (.region id ops true):=by
 intro l m t H e t' H' h ρ w a R T Q hlo hQ;simp only [dJ,if_true] at h;split at h <;> first | (cases h;done) | skip
 rename_i t1 H1 hdr;simp only [zaa,zad] at h;obtain⟨rfl,rfl,rfl⟩:=h;have:=aa6 hC hKC hdr R T (Q:=Q) hQ;rw [show ops.toList.toArray=ops from rfl] at this;exact wpIn_region_any hm (aa5 hd hlo _ _ _ _ this)
theorem PN {id:Nat}{c:Code}(hc:uZ P C c):uZ P C (.block id c):=by
 intro l m t H e t' H' h ρ w a R T Q hlo hQ;simp only [dJ] at h;refine wpIn_block ?_;unfold Aa at h;have hl:¬LetsOut (Exit.inBlock id Q):=λ⟨a,w,h⟩=> hlo ⟨a,w,h⟩;split at h
 ·rename_i i t1 H1 hf;refine hc l m t H _ t1 H1 hf ρ w a R T _ hl λa2 ρ2 w2 r1 r2 r3 r4=> ?_;simp only [Ex.to,Exit.inBlock];split at h
  ·rename_i hid;simp only [zaa,zad] at h;obtain⟨rfl,rfl,rfl⟩:=h;rw [if_pos hid];exact hQ a2 ρ2 w2 r1 r2 r3 r4
  ·rename_i hid;simp only [zaa,zad] at h;obtain⟨rfl,rfl,rfl⟩:=h;rw [if_neg hid];exact hQ a2 ρ2 w2 r1 r2 r3 r4
 ·rename_i t1 H1 hf;simp only [zaa,zad] at h;obtain⟨rfl,rfl,rfl⟩:=h;exact hc l m t H _ t1 H1 hf ρ w a R T _ hl hQ
 ·rename_i t1 H1 hf;simp only [zaa,zad] at h;obtain⟨rfl,rfl,rfl⟩:=h;exact hc l m t H _ t1 H1 hf ρ w a R T _ hl hQ
 ·cases h
def uq(H:aj):Prop:=∀r k es,H.get r≠.map k es
theorem uq.cells {H:aj}(h:uq H){ρ:Ren}{w:World}(R:Rel ρ H w){r b sh:Nat}(hr:ρ r=some (b,sh)):∃cs e,w.heap[b]?=some (.cells cs e (0,0)):=by
 have:=R.obj r b sh hr;cases hg:H.get r with
 | blk g ty cells=>
  rw [hg] at this;obtain⟨cs,e,h1,_⟩:=this;exact⟨cs,e,h1⟩
 | map k es=> exact absurd hg (h r k es)
theorem uq.imm {H:aj}(h:uq H){ρ:Ren}{w:World}(R:Rel ρ H w){b:Nat}{o:Obj}(ho:w.heap[b]?=some o)(hc:o.isCells=false):Imm ρ b:=λr sh hr=> by
 obtain⟨cs,e,h1⟩:=h.cells R hr;rw [ho] at h1;cases h1;cases hc
end
structure Grn(w w':World):Prop where
 size:w.heap.size<=w'.heap.size
 cell:∀b o v,w.cell? ⟨b,o,none⟩=some v->w'.cell? ⟨b,o,none⟩=some v
 shape:∀b e m,w.shape? b=some (e,m)->w'.shape? b=some (e,m)
mutual
theorem RV.grn {ρ:Ren}{G:Nat->Nat}{w w':World}(M:Grn w w'):∀(x:AV) (v:Value),RV ρ G w x v->RV ρ G w' x v
 | .s _,_,h=> by simpa only [RV] using h
 | .ref r g off,v,h=> by simpa only [RV] using h
 | .sl r g off esz len cap ex,v,h=> by
  obtain⟨b,o,c,e,k1,k2,k3,h1,h2⟩:=(by simpa only [RV] using h)
  simp only [RV];refine⟨b,o,c,e,k1,k2,k3,h1,λhg=> ?_⟩;obtain⟨sh,ty,k,q1,q2,q3,q4⟩:=h2 hg;exact⟨sh,ty,k,q1,q2,M.shape _ _ _ q3,q4⟩
 | .ip cells,v,h=> by
  obtain⟨b,o,e,hb,hi,h1⟩:=(by simpa only [RV] using h)
  simp only [RV];exact⟨b,o,e,zaw hb M.size,hi,RVc.grn M cells b o h1⟩
 | .vs m esz cells,v,h=> by
  obtain⟨b,o,c,e,k1,k2,hb,hi,h1⟩:=(by simpa only [RV] using h)
  simp only [RV];exact⟨b,o,c,e,k1,k2,zaw hb M.size,hi,RVc.grn M cells b o h1⟩
 | .mp r,v,h=> by simpa only [RV] using h
 | .fn f a c,v,h=> by
  obtain⟨a',c',e,h1,h2⟩:=(by simpa only [RV] using h)
  simp only [RV];exact⟨a',c',e,RVs.grn M a _ h1,RVs.grn M c _ h2⟩
 | .agg cells,v,h=> by
  obtain⟨cs,e,h1⟩:=(by simpa only [RV] using h)
  simp only [RV];exact⟨cs,e,RVs.grn M cells _ h1⟩
 | .tup cells,v,h=> by
  obtain⟨cs,e,h1⟩:=(by simpa only [RV] using h)
  simp only [RV];exact⟨cs,e,RVs.grn M cells _ h1⟩
theorem RVs.grn {ρ:Ren}{G:Nat->Nat}{w w':World}(M:Grn w w'):∀(xs:List AV) (l:List Value),RVs ρ G w xs l->RVs ρ G w' xs l
 | [],_,h=> by simpa only [RVs] using h
 | x::xs,l,h=> by
  obtain⟨y,ys,e,h1,h2⟩:=(by simpa only [RVs] using h)
  simp only [RVs];exact⟨y,ys,e,RV.grn M x y h1,RVs.grn M xs ys h2⟩
theorem RVc.grn {ρ:Ren}{G:Nat->Nat}{w w':World}(M:Grn w w'):∀(xs:List AV) (b o:Nat),RVc ρ G w xs b o->RVc ρ G w' xs b o
 | [],_,_,_=> by simp only [RVc]
 | x::xs,b,o,h=> by
  obtain⟨⟨y,e,h1⟩,h2⟩:=(by simpa only [RVc] using h)
  simp only [RVc];exact⟨⟨y,M.cell _ _ _ e,RV.grn M x y h1⟩,RVc.grn M xs b (o+1) h2⟩
end
section
variable {P:Program}{C:Callee}
theorem alE {w w':World}{row:Option Nat}(hg:w.grownBy w' row)(hr:∀r,row=some r->∃o:Obj,w.heap[r]?=some o/\o.isCells=false):Grn w w':=by
 refine⟨hg.size,λb o v h=> cell_kept h hg hr,λb e m h=> ?_⟩;rw [dI] at h ⊢;cases hb:w.heap[b]? with
 | none=> rw [hb] at h;cases h
 | some ob=>
  have hc:ob.isCells=true:=by
   rw [hb] at h;cases ob <;> first | rfl | cases h
  rw [grownBy_keeps_cells hg hr hb hc];exact h
theorem uq.grown {H:aj}(h:uq H){ρ:Ren}{w w':World}(R:Rel ρ H w){row:Option Nat}{B:Nat}(hg:w.grownBy w' row)(hr:∀r,row=some r->B<=r/\∃o:Obj,w.heap[r]?=some o/\o.isCells=false)(hB:∀b∈fx.blocks,b < B):Rel ρ H w'/\Grn w w':=by
 have M:=alE hg λr e=> (hr r e).2;refine⟨⟨R.out,λr b sh hrb=> ?_,R.inj,?_⟩,M⟩
 ·have h1:=R.obj r b sh hrb;obtain⟨cs0,e0,hb0⟩:=h.cells R hrb;have hk:=grownBy_keeps_cells hg (λr e=> (hr r e).2) hb0 rfl;cases ho:H.get r with
  | blk g ty cells=>
   rw [ho] at h1;obtain⟨cs,e,q1,q2,q3,q4⟩:=h1;exact⟨cs,e,by rw [hk];exact q1,q2,RVc.grn M _ _ _ q3,q4⟩
  | map k es=> exact absurd ho (h r k es)
 ·refine⟨λb hb=> ?_,fx.frame w w' (λb hb=> ?_) R.gl.2⟩
  ·obtain⟨h1,h2⟩:=R.gl.1 b hb;exact⟨zaw h1 hg.size,h2⟩
  ·refine hg.block b (R.gl.1 b hb).1 λe=> ?_;have:=(hr b e.symm).1;have:=hB b hb;omega
theorem Ext.grown {ρ ρ1:Ren}{H H1:aj}{w W W':World}(E:Ext ρ H w ρ1 H1 W){row:Option Nat}(hg:W.grownBy W' row)(hr:∀r,row=some r->w.heap.size<=r):Ext ρ H w ρ1 H1 W':=by
 have hb:∀b,b < w.heap.size->W'.heap[b]?=W.heap[b]?:=λb hb=> hg.block b (zaw hb E.size) λe=> by
  have:=hr b e.symm;omega
 exact⟨E.next,E.mono,E.same,E.kept,E.range,zaz E.size hg.size,λb h hi=> (hb b h).trans (E.frame b h hi),λb h=> by rw [<-E.shape b h,dI,dI,hb b h],hg.os.trans E.os,hg.tape.trans E.tape,hg.output.trans E.output⟩
def KpC(CP:World->Prop)(A B:World):Prop:=CP A->CP B
theorem aa7(hm:P.follows .mixedOrders=true){t:dU}{H:aj}{ρ:Ren}{w:World}{a:Act}(R:Rel ρ H w)(T:TOn ρ H.gen w (λ_=> True) t a)
  {g:Operand} {p d:Tmp} (hp:p < t.length) (hpd:p≠d) {ida:Nat} {ty:TypeId} {pos:String} {aft:Array Edge} {body:Code}
  {gf:Nat} {lb:Array Value} (hg:a.eval g=.func (.func gf) #[] lb) (eg:∀args w,(callFunc gf args).run P w=.ok (.enter gf args) w)
  {N:Nat} (vs:Fin N->AV) (cvs:Fin N->Value) (hv:∀x,RV ρ H.gen w (vs x) (cvs x)) (CP:World->Prop) (hL:∀(W:World) (l:Nat) (o o':Obj),w.heap.size<=l->W.heap[l]?=some o->o.isCells=false->CP W->CP (W.putObj l o'))
  (hseq:∀n,1<=n->SeqStopsK Fence.wide n P gf lb (λx=> #[cvs x]) (KpC CP) (λys=> ys.map (λx:Fin N=> x.val)=List.range N) (λ_=> True) N w)
  (Inv:List (Fin N)->aj->Prop) (h0:Inv [] H) (hnm:∀pre H1,Inv pre H1->uq H1)
  (hcell:∀pre H1 ρ1 W,Inv pre H1->Rel ρ1 H1 W->Ext ρ H w ρ1 H1 W->CP W)
  (hrun:∀pre x H1,Inv pre H1->pre.length < N->∃t2 H2,dJ P C body (sS (sS t (some p) (vs x)) (some d) (vs x)) H1=some (.normal,t2,H2)/\Inv (pre++[x]) H2)
  (hin:uZ P C body) {Q:Exit->Act->World->Prop}
  (hQ:∀xs H1 D W ρ1,xs.map (λx:Fin N=> x.val)=List.range N->Inv xs H1->Rel ρ1 H1 W->Ext ρ H w ρ1 H1 W->W.heap[D]?=some (.deferred (some []))->Imm ρ1 D->w.heap.size<=D->Q .normal { a with defers:={ target:=.collected D,args:=#[] }::a.defers } W):
  (Code.rangeFunc g #[p] (.region ida #[{ dst:=some d,op:=.assign (.tmp p),type:=ty,pos:=pos,after:=aft,guard:=none }] false) body).wp P Q a w:=by
 refine(wpIn_wide (n:=9)).1 ?_;have hpa:p < a.tmps.size:=by rw [T.size];exact hp
 let a0:Fin N->Act:=λx=> { tmps:=a.tmps.setIfInBounds p (cvs x),defers:=[] }
 let I:List (Fin N)->World->Prop:=λpre W=>∃H1 ρ1,Inv pre H1/\Rel ρ1 H1 W/\Ext ρ H w ρ1 H1 W
 have hfx:∀b∈fx.blocks,b < w.heap.size:=λb hb=> (R.gl.1 b hb).1;refine wpIn_rangeFunc_ownF (F:=Fence.wide) (α:=Fin N) rfl (by decide) (gf:=gf) (lb:=lb) hg trivial eg (hseq 8 (by decide)) (λh k hx=> k (h hx)) ?hKb (Below.refl _ _) (λ_=> rfl) I (λ_ _ _=> False) ?hI (λ_ _ _ _ _ h _ _=> h) ⟨H,ρ,h0,R,Ext.refl _ _ _⟩ (λx=> (a0 x).put (some d) (cvs x)) ?hassign ?hbody ?hdone (λ_ _ _ _ _ _ h _=> h.elim)
 case hKb=>
  intro W l o o' hl ho hc _ hx;exact hL W l o o' hl ho hc hx
 case hI=>
  rintro pre W W' row ⟨H1,ρ1,i1,i2,i3⟩ hgr hr;obtain⟨r1,_⟩:=(hnm pre H1 i1).grown i2 hgr hr hfx;exact⟨H1,ρ1,i1,r1,i3.grown hgr λr e=> (hr r e).1⟩
 case hassign=>
  intro l x W K hK;refine wpIn_region ?_;have e1:(#[p].zip #[cvs x]).foldl (λt q=> t.setIfInBounds q.1 q.2) a.tmps=a.tmps.setIfInBounds p (cvs x):=by simp
  have e2:({ tmps:=a.tmps.setIfInBounds p (cvs x),defers:=[] }:Act).eval (.tmp p)=cvs x:=by
   simp [Act.eval,Array.getD,hpa]
  show wpOpsIn _ _ P _ _ [0] _ W;simp only [wpOpsIn,List.getElem?_toArray,za1,Region.wanted,if_true];refine alD (Gv rfl) ?_;unfold Oper.wp;have e3:execOp ({ tmps:=a.tmps.setIfInBounds p (cvs x),defers:=[] }:Act).eval { dst:=some d,op:=.assign (.tmp p),type:=ty,pos:=pos,after:=aft,guard:=none }=pure (.value (cvs x)):=by
   show pure (Next.value _)=_;rw [e2]
  have e4:((#[p].zip #[cvs x]).foldl (λt x=> match x with | (p,v)=> t.setIfInBounds p v) a.tmps)=a.tmps.setIfInBounds p (cvs x):=by simp
  rw [e4,e3];exact hK
 case hbody=>
  rintro l pre x W ⟨H1,ρ1,i1,i2,i3⟩ hlen;obtain⟨t2,H2,r1,r2⟩:=hrun pre x H1 i1 hlen;have hvx:=RV.mono i3.toMono _ _ (hv x);have T0:TOn ρ1 H1.gen W (λ_=> True) (sS t (some p) (vs x)) (a0 x):=⟨((T.keep i3).put (some p) hvx).size,((T.keep i3).put (some p) hvx).get⟩
  have T1:=T0.put (some d) hvx;refine hin l _ _ H1 _ t2 H2 r1 ρ1 W _ i2 T1 _ (λ⟨_,_,h⟩=> h) λa' ρ' w' q1 q2 q3 q4=> ?_;refine⟨⟨q3.size,λk o ho hc=> ?_⟩,λ_=> hcell _ H2 ρ' w' r2 q1 (i3.trans q3),H2,ρ',r2,q1,i3.trans q3⟩;rw [q3.frame k (zbw.1 ho).1 ((hnm pre H1 i1).imm i2 ho hc)];exact ho
 case hdone=>
  rintro D xs W hD hS ⟨H1,ρ1,i1,i2,i3⟩ hK;exact hQ xs H1 D W ρ1 hS i1 i2 i3 hK ((hnm xs H1 i1).imm i2 hK rfl) hD
end
def apz(e:TypeId)(m by_:Nat)(z:List AV)(x y:AV):AM AV:=λH=> match y with
 | .s (.int _ n)=> if 0<=n/\n<=most/\n*by_<=most then bU e m by_ x n.toNat (bI z n.toNat) H else none
 | _=> none
def Aq:Ann:=⟨[],[(4,rF 40 (none::some false::[])),(7,rF 3 (some true::rF 4 []))],[]⟩
def Yh:Code:=match afY with
 | .seq a (.seq b (.seq c (.seq d (.seq (.seq e _) f))))=> .seq a (.seq b (.seq c (.seq d (.seq e .skip))))
 | _=> .skip
def Yi(C:Callee)(t0:AV)(H:aj):Option (List AV × aj):=
 bnd (alc 70 [zI,zI,zI,zI,zI,zI,zI,zB,zN] H) λv2 H=>
 bnd (C 145 [t0] H) λv12 H=> bo (aF v12 0) λv13=> bo (aF v12 1) λv14=>
 bo (un .not v14) λv16=> gdA (some v16) false (aC (some v13) H) H λv18 H=> gdA (some v16) false (lnS v18 H) H λv19 H=> gdA (some v16) false (aC (bi .lss 3 v19 (I 10)) H) H λv20 H=> bo (aU v16 (B true) v20) λv21=> gdA (some v21) false (aC (some v13) H) H λv23 H=> gdA (some v21) false (lnS v23 H) H λv24 H=> gdA (some v21) false (aC (some v13) H) H λv25 H=> gdA (some v21) false (ix 1 v25 (I 9) H) H λv26 H=> gdA (some v21) false (ld v26 H) H λv27 H=> gdA (some v21) false (cv 5 3 v27 H) H λv28 H=> gdA (some v21) false (aC (bi .mul 3 (I 8) v28) H) H λv29 H=> gdA (some v21) false (aC (bi .add 3 (I 10) v29) H) H λv30 H=> gdA (some v21) false (aC (bi .neq 3 v24 v30) H) H λv31 H=> bo (aU v21 (B true) v31) λv32=>
 aI v32
 (bo (bd 70 []) λv33=> bnd (st 9 v2 v33 H) λ_ H=>
  none)
 (bnd (alc 70 [zI,zI,zI,zI,zI,zI,zI,zB,zN] H) λv6 H=> bnd (ix 1 v13 (I 0) H) λv35 H=> bnd (ld v35 H) λv36 H=> bnd (cv 5 3 v36 H) λv37 H=> bnd (ix 1 v13 (I 1) H) λv39 H=> bnd (ld v39 H) λv40 H=> bnd (cv 5 3 v40 H) λv41 H=> bnd (ix 1 v13 (I 2) H) λv43 H=> bnd (ld v43 H) λv44 H=> bnd (cv 5 3 v44 H) λv45 H=> bnd (ix 1 v13 (I 3) H) λv47 H=> bnd (ld v47 H) λv48 H=> bnd (cv 5 3 v48 H) λv49 H=> bo (bi .shl 3 v49 (.s (Go.Value.int Go.IntKind.u64 8))) λv50=> bnd (ix 1 v13 (I 4) H) λv52 H=> bnd (ld v52 H) λv53 H=> bnd (cv 5 3 v53 H) λv54 H=> bo (bi .or 3 v50 v54) λv55=> bnd (ix 1 v13 (I 5) H) λv57 H=> bnd (ld v57 H) λv58 H=> bnd (cv 5 3 v58 H) λv59 H=> bnd (ix 1 v13 (I 6) H) λv61 H=> bnd (ld v61 H) λv62 H=> bnd (cv 5 3 v62 H) λv63 H=> bo (bi .sub 3 v63 (I 1)) λv64=> bnd (ix 1 v13 (I 7) H) λv66 H=> bnd (ld v66 H) λv67 H=> bnd (cv 5 3 v67 H) λv68 H=> bnd (ix 1 v13 (I 8) H) λv70 H=> bnd (ld v70 H) λv71 H=> bo (bi .eql 5 v71 (.s (Go.Value.int Go.IntKind.u8 1))) λv72=> bo (bd 70 [(0,v37),(1,v41),(2,v45),(3,v55),(4,v59),(5,v64),(6,v68),(7,v72)]) λv73=> bnd (st 9 v6 v73 H) λ_ H=>
  bo (slS 1 v13 (some (I 10)) none none) λv75=> bnd (C 146 [v75,(I 8)] H) λv76 H=>
  some ([t0,v2,v6,v76],H))
theorem alF(C:Callee)(t0:AV)(H:aj):jG Tryz.prog C Aq 100 Yh [(0,t0)] H (λe H=> some (proj [0,2,6,76] e,H)) (λ_ _ _=> none) (λ_ _=> none)=Yi C t0 H:=by kernel_rfl
def Sr:Code:=match afY with
 | .seq a (.seq b (.seq c (.seq d (.seq (.seq e (.block _ (.rangeFunc _ _ _ g))) f))))=> g
 | _=> .skip
def Yj(C:Callee)(t6 t7:AV)(H:aj):Option (List AV × aj):=
 bo (ah t6 8) λv78=> bnd (ld v78 H) λv79 H=> bnd (unG H (C 147 [t7] H.guard)) λv81 H=> bnd (bs 22 1 [(0,v81)] H) λv82 H=> bnd (app 3 1 8 v79 v82 H) λv83 H=> bo (ah t6 8) λv84=> bnd (st 1 v84 v83 H) λ_ H=>
 some ([],H)
theorem alG(C:Callee)(t6 t7:AV)(H:aj):jG Tryz.prog C Aq 100 Sr [(6,t6),(7,t7)] H (λe H=> some (proj [] e,H)) (λ_ _ _=> none) (λ_ _=> none)=Yj C t6 t7 H:=by kernel_rfl
def Sv:Code:=match afY with
 | .seq a (.seq b (.seq c (.seq d (.seq (.seq e _) f))))=> f
 | _=> .skip
def Yk(C:Callee)(t0 t2 t6:AV)(H:aj):Option (AV × aj):=
 bnd (lda 9 t6 H) λv86 H=> bnd (C 94 [v86] H) λv87 H=> bo (aF v87 0) λv88=> bo (aF v87 1) λv89=>
 bo (bi .neq 76 v89 (I 0)) λv91=> gdA (some v91) false (aC (some v88) H) H λv93 H=> gdA (some v91) false (aC (some t0) H) H λv94 H=> gdA (some v91) false (C 148 [v93,v94] H) H λv95 H=> gdA (some v91) false (aC (un .not v95) H) H λv96 H=> bo (aU v91 (B true) v96) λv97=>
 aI v97
 (bo (bd 70 []) λv98=> bnd (st 9 t2 v98 H) λ_ H=>
  bnd (lda 9 t2 H) λr0 _=> some (.tup [r0,(I 2)],H))
 (bnd (lda 9 t6 H) λv99 H=> bnd (st 9 t2 v99 H) λ_ H=>
  bnd (lda 9 t2 H) λr0 _=> some (.tup [r0,(I 0)],H))
theorem alH(C:Callee)(t0 t2 t6:AV)(H:aj):jG Tryz.prog C Aq 100 Sv [(0,t0),(2,t2),(6,t6)] H (JX Tryz.prog 100 Tryz.f95.results.toList) (λ_ _ _=> none) (JX Tryz.prog 100 Tryz.f95.results.toList)=Yk C t0 t2 t6 H:=by kernel_rfl
def Js(C:Callee)(t0:AV)(H:aj):OA:=
 some (t0,H)
def Jt(C:Callee)(t0 t1:AV)(H:aj):OA:=
 bnd (aC (aci Tryz.prog 180 t0) H) λv10 H=> bnd (lnS t0 H) λv12 H=> bo (bi .sub 3 v10 v12) λv13=> bo (bi .sub 3 t1 v13) λv14=>
 bo (bi .gtr 3 v14 (I 0)) λv16=>
 aI v16
 (bnd (aC (aci Tryz.prog 180 t0) H) λv19 H=> bo (slS 1 t0 none (some v19) none) λv20=> bnd (apz 5 1 1 [.s (.int .u8 0)] v20 v14 H) λv22 H=> bnd (lnS t0 H) λv24 H=> bo (slS 1 v22 none (some v24) none) λv25=>
  Js C v25 H)
 (Js C t0 H)
def aez(C:Callee)(a0 a1:AV)(H:aj):OA:=
 bo (bi .lss 3 a1 (I 0)) λv6=>
 aI v6
 (bnd (stk H) λv7 H=> bnd (stk H) λ_ H=>
  Jt C a0 a1 H)
 (Jt C a0 a1 H)
theorem alI:Rn2 202 aez:=λ_ _ _ _ _ h=>
 rnG an0 Tryz.func202 (by kernel_rfl) (by kernel_rfl) h
structure Gro(H H':aj):Prop where
 next:H.next<=H'.next
 base:H'.base=H.base
 same:∀r,r < H.next->H'.get r=H.get r
 MJ:uq H->uq H'
theorem Gro.refl(H:aj):Gro H H:=⟨zac _,rfl,λ_ _=> rfl,λh=> h⟩
theorem Gro.trans {H H' H'':aj}(a:Gro H H')(b:Gro H' H''):Gro H H'':=
 ⟨zaz a.next b.next,b.base.trans a.base,λr h=> (b.same r (zaw h a.next)).trans (a.same r h),λh=> b.MJ (a.MJ h)⟩
theorem Gro.new(H:aj)(g ty:Nat)(xs:List AV):Gro H (H.new (.blk g ty xs)):=
 ⟨by rw [nNew];omega,bNew,λr h=> aQ h,λh r k es=> by
  by_cases e:r=H.next
  ·rw [aK e];simp
  ·have:(H.new (.blk g ty xs)).get r=H.get r:=by simp [aj.new,e]
   rw [this];exact h r k es⟩
structure bH(H:aj)(x:AV)(l:List By):Prop where
 is:aG H x 1 l.length (l.map Y)
 small:l.length < 1000
theorem bH.gro {H H':aj}{x:AV}{l:List By}(h:bH H x l)(g:Gro H H'):bH H' x l:=⟨h.is.gK g.next λr _ hr=> g.same r hr,h.small⟩
theorem bH.ix {H:aj}{x:AV}{l:List By}(h:bH H x l){i:Nat}(hi:i < l.length):ix 1 x (I i) H=some (cZ x i,H):=by
 have:=h.is.ix (k:=.i64) (i:=(i:Int)) (by omega) (by omega)
 rwa [zar] at this
theorem bH.ld {H:aj}{x:AV}{l:List By}(h:bH H x l){i:Nat}{c:By}(hi:l[i]?=some c):ld (cZ x i) H=some (Y c,H):=by
 rw [h.is.ld (by have:=(zaf.1 hi).1;omega),zaB,hi];rfl
theorem af4(s:S16):(s <<< 1) ^^^ ((s >>> 15)*4129#16)=shS s:=by
 unfold shS
 congr 1
 have hlt:=s.isLt;have h15:s >>> 15=if s.msb then 1#16 else 0#16:=by
  apply BitVec.eq_of_toNat_eq
  rw [BitVec.toNat_ushiftRight,Nat.shiftRight_eq_div_pow,BitVec.msb_eq_decide];by_cases h:2 ^ (16 - 1)<=s.toNat
  ·simp only [h,decide_true,if_true];show s.toNat / 2 ^ 15=1;omega
  ·simp only [h,decide_false,zai,if_false];show s.toNat / 2 ^ 15=0;omega
 rw [h15];cases s.msb <;> simp
theorem aeA {x:AV}{n i:Int}(H:aj):∀(k j:Nat),j+k=8->∀s:S16,BQ cl0 [U16 s,x,I n,I i,I j] H=yg cl0 [U16 (shN k s),x,I n,I (IntKind.wrap .i64 (i+1))] H
 | 0,j,hj,s=> by
  have h1:¬((j:Int) < 8):=by omega
  rw [RZ];simp -implicitDefEqProofs only [xq_,h1,aZ];rfl
 | k+1,j,hj,s=> by
  have h1:(j:Int) < 8:=by omega
  have h6:(j:Int)+1=((j+1:Nat):Int):=by omega
  have h7:=wrap_i64 (a:=((j+1:Nat):Int)) (by omega) (by omega);have e1:bi .shr 33 (U16 s) (.s (.int .u64 15))=some (U16 (s >>> 15)):=afv (k:=.u16) s 15 (by decide) (by decide);have e2:bi .shl 33 (U16 s) (.s (.int .u64 1))=some (U16 (s <<< 1)):=Xb (k:=.u16) rfl s 1 (by decide) (by decide);have e3:bi .mul 33 (U16 (s >>> 15)) (.s (.int .u16 4129))=some (U16 ((s >>> 15)*4129#16)):=ank (k:=.u16) rfl (s >>> 15) 4129#16;have e4:bi .xor 33 (U16 (s <<< 1)) (U16 ((s >>> 15)*4129#16))=some (U16 (shS s)):=by rw [<-af4];exact afu (k:=.u16) rfl _ _
  have ih:=aeA (x:=x) (n:=n) (i:=i) H k (j+1) (by omega) (shS s);rw [RZ];simp -implicitDefEqProofs only [xq_,h1,e1,e2,e3,e4,aZ,h6,h7,ih];rfl
theorem aqb {H:aj}{x:AV}{l:List By}(hx:bH H x l):cl0 180 [x] H=some (U16 (rM 0xffff#16 l),H):=by
 have key:∀(k i:Nat),i+k=l.length->∀s:S16,yg cl0 [U16 s,x,I l.length,I i] H=some (U16 (rM s (l.drop i)),H):=by
  intro k
  induction k with
  | zero=>
   intro i hi s;have h1:¬((i:Int) < l.length):=by omega
   rw [RY,zaU (by omega)];simp -implicitDefEqProofs only [xq_,h1];rfl
  | succ k ih=>
   intro i hi s;have h1:(i:Int) < l.length:=by omega
   have h6:(i:Int)+1=((i+1:Nat):Int):=by omega
   have h7:=wrap_i64 (a:=((i+1:Nat):Int)) (by have:=hx.small;omega) (by have:=hx.small;omega);obtain⟨c,hc⟩:∃c,l[i]?=some c:=⟨_,zab (by omega)⟩
   have s1:=hx.ix (i:=i) (by omega);have s2:=hx.ld hc;have e1:cv 5 33 (Y c) H=some (U16 (c.setWidth 16),H):=
    (afj (k:=.u8) (n:=(c.toNat:Int)) (H:=H)).trans (congrArg (λv=> some (v,H)) (aiA (k:=.u8) (k':=.u16) rfl c))
   have e2:bi .shl 33 (U16 (c.setWidth 16)) (.s (.int .u64 8))=some (U16 (c.setWidth 16 <<< 8)):=Xb (k:=.u16) rfl (c.setWidth 16) 8 (by decide) (by decide);have e3:bi .xor 33 (U16 s) (U16 (c.setWidth 16 <<< 8))=some (U16 (s ^^^ (c.setWidth 16 <<< 8))):=afu (k:=.u16) rfl _ _;have e4:=aeA (x:=x) (n:=(l.length:Int)) (i:=(i:Int)) H 8 0 rfl (s ^^^ (c.setWidth 16 <<< 8));rw [h6,h7] at e4;have hd:l.drop i=c::l.drop (i+1):=by
    rw [zbn (by omega)];rw [zab (by omega)] at hc;rw [za3 hc]
   have ih1:=ih (i+1) (by omega) (Vf s c);have e5:rM s (c::l.drop (i+1))=rM (Vf s c) (l.drop (i+1)):=rfl;rw [RY,hd,e5,<-ih1];have z0:((0:Nat):Int)=0:=rfl;rw [z0] at e4;simp -implicitDefEqProofs only [xq_,h1,s1,s2,e1,e2,e3,e4];rfl
 refine fV (ak3 _ _ _ ?_);have s0:=hx.is.lnS;have k0:=key l.length 0 (by omega) 0xffff#16;rw [zaP] at k0;simp -implicitDefEqProofs only [xq_,aek,s0];exact k0
theorem SA {e:Nat}{z a c:AV}{H:aj}(ha:One a)(hc:One c):bsl e 1 [z] 2 [(0,a),(1,c)] H=some (.sl H.next 0 0 1 2 2 true,H.new (.blk 0 e [a,c])):=by
 have e1:bI [z] 2=[z,z]:=rfl;unfold bsl;rw [e1,DL (off:=0) rfl ha.1 (by simp),DL (off:=1) rfl hc.1 (by simp),bZ];simp only [List.set_cons_zero,List.set_cons_succ];simp only [List.all_cons,ha.2,hc.2,List.all_nil,zb8,if_true]
theorem Yl {e by_ r ty len cap n:Nat}{ex:Bool}{y:AV}{cells new:List AV}{H:aj}(hx:H.get r=.blk 0 ty cells)(hb:H.base<=r)(hy:aG H y 1 n new)(hc:new.all AV.aH=true)(hcap:len+n<=cap)(hl:len+n<=cells.length):
  app e 1 by_ (.sl r 0 0 1 len cap ex) y H=some (.sl r 0 0 1 (len+n) cap ex,H.put r (.blk 0 ty (setAt cells len new))):=by
 obtain⟨c1,c2⟩:=hy.sK;simp only [app,c1,c2];unfold bU;rw [if_pos ⟨hy.1,hc⟩];simp only [hx];rw [if_pos ⟨trivial,trivial,by omega⟩];by_cases hn:n=0
 ·subst hn;have hnew:new=[]:=zan (by have:=hy.1;omega);subst hnew;rw [if_pos rfl];have:setAt cells len []=cells:=by simp [setAt]
  rw [this,zbf];have:H.put r (.blk 0 ty cells)=H:=by
   unfold aj.put;cases H with
   | mk n b g=>
    simp only at hx ⊢
    congr 1
    funext x
    split
    ·rename_i h;rw [h,hx]
    ·rfl
  rw [this]
 ·rw [if_neg hn,if_pos hcap,if_pos ⟨hb,by omega⟩];simp
theorem aoQ(H:aj)(n:Nat)(h0:0 < n)(h1:n < 10000):cl0 202 [zN,I n] H=some (.sl H.next 0 0 1 0 n false,H.new (.blk 0 (5+eH) (bI [.s (.int .u8 0)] n))):=by
 refine fV (alI _ _ _ _ ?_);have n0:¬((n:Int) < 0):=by omega
 have cp:aci Tryz.prog 180 zN=some (I 0):=by kernel_rfl
 have w0:IntKind.wrap .i64 ((0:Int) - 0)=0:=rfl;have w1:IntKind.wrap .i64 ((n:Int) - 0)=n:=by rw [Int.sub_zero];exact wrap_i64 (by omega) (by omega)
 have g0:(0:Int) < n:=by omega
 have s0:slS 1 zN none (some (I 0)) none=some zN:=by kernel_rfl
 have az:apz 5 1 1 [.s (.int .u8 0)] zN (I n) H=some (.sl H.next 0 0 1 n n false,H.new (.blk 0 (5+eH) (bI [.s (.int .u8 0)] n))):=by
  show(if 0<=(n:Int)/\(n:Int)<=most/\(n:Int)*1<=most then bU 5 1 1 zN (n:Int).toNat (bI [.s (.int .u8 0)] (n:Int).toNat) H else none)=_;have hm:(n:Int)<=most:=by unfold most;omega
  rw [if_pos ⟨by omega,hm,by omega⟩,zar];unfold bU;have hl:(bI [AV.s (.int .u8 0)] n).length=n*1:=by rw [jH];simp
  rw [if_pos ⟨hl,uQ rfl n⟩];simp only;rw [if_neg (by omega),if_pos ⟨by unfold most;omega,by unfold most;omega⟩]
 have s1:slS 1 (.sl H.next 0 0 1 n n false) none (some (I 0)) none=some (.sl H.next 0 0 1 0 n false):=Q5 (by omega) (by omega);have ln0:∀H,lnS zN H=some (I 0,H):=λ_=> rfl;simp -implicitDefEqProofs only [xq_,aez,Jt,Js,n0,cp,ln0,iT,w0,w1,g0,s0,az,s1]
theorem af5 {c:By}:One (Y c):=⟨rfl,rfl⟩
theorem Ym {H:aj}{x:AV}{l:List By}(h:bH H x l):One x:=by
 obtain⟨_,hh⟩:=h.is;cases x with
 | sl r g off esz len cap ex=> exact qj
 | vs n m l=> exact acW
 | s v=> cases v <;> first | exact hh.elim | exact⟨rfl,rfl⟩
 | _=> exact hh.elim
theorem aqc {H:aj}(hb:H.base<=H.next){a x y:AV}{l m:List By}(ha:aG H a 1 2 [x,y])(hx:bH H x l)(hy:bH H y m)(hm:0 < m.length):
  cl0 181 [a] H=some (.sl H.next 0 0 1 (l.length+m.length) (l.length+m.length) false,H.new (.blk 0 (5+eH) ((l++m).map Y))):=by
 have sl:=hx.small;have sm:=hy.small;refine fV (ak4 _ _ _ ?_);have ln:=ha.lnS;have i0:=ha.ix (k:=.i64) (i:=0) (by decide) (by decide);have i1:=ha.ix (k:=.i64) (i:=1) (by decide) (by decide);have d0:ld (cZ a 0) H=some (x,H):=ha.ld (by decide);have d1:ld (cZ a 1) H=some (y,H):=ha.ld (by decide);have lx:=hx.is.lnS;have ly:=hy.is.lnS;let Z:aj->List AV->aj:=λH l=> H.new (.blk 0 (5+eH) l)
 obtain⟨n,hn⟩:∃n,n=l.length+m.length:=⟨_,rfl⟩
 have gr:=aoQ H n (by omega) (by omega);have K:∀cs,Gro H (H.new (.blk 0 (5+eH) cs)):=λcs=> Gro.new H 0 _ cs;have hz:(bI [AV.s (.int .u8 0)] n).length=n:=by rw [jH];simp
 -- behind the first
 let c1:=setAt (bI [AV.s (.int .u8 0)] n) 0 (l.map Y);have a1:=Yl (e:=5) (by_:=1) (r:=H.next) (ex:=false) (cap:=n) (H:=H.new (.blk 0 (5+eH) (bI [.s (.int .u8 0)] n))) (aK rfl) (by rw [bNew];exact hb) (hx.gro (K _)).is (aaQ l) (len:=0) (by omega) (by omega);rw [DK,za7] at a1;have hc1:c1.length=n:=by simp only [c1,setAt,zaq,zao,zaK,zaE,hz];omega
 have a2:=Yl (e:=5) (by_:=1) (r:=H.next) (ex:=false) (cap:=n) (H:=H.new (.blk 0 (5+eH) c1)) (aK rfl) (by rw [bNew];exact hb) (hy.gro (K _)).is (aaQ m) (len:=l.length) (by omega) (by omega);rw [DK] at a2;have hc2:setAt c1 l.length (m.map Y)=(l++m).map Y:=by
  simp only [c1,setAt,List.take_zero,zaX,za7,zaE];rw [zbO (by simp),zas (by simp),List.drop_append,zaU (by simp),zbE];rw [zaU (by simp only [hz,zaE];omega)];simp
 rw [hc2] at a2;have ga:=λcs=> (ha.gK (K cs).next λr _ hr=> (K cs).same r hr)
 have li:=λcs=> (ga cs).lnS;have j0:=λcs=> (ga cs).ix (k:=.i64) (i:=0) (by decide) (by decide);have j1:=λcs=> (ga cs).ix (k:=.i64) (i:=1) (by decide) (by decide);have e0:∀cs,ld (cZ a 0) (H.new (.blk 0 (5+eH) cs))=some (x,H.new (.blk 0 (5+eH) cs)):=λcs=> (ga cs).ld (by decide);have e1:∀cs,ld (cZ a 1) (H.new (.blk 0 (5+eH) cs))=some (y,H.new (.blk 0 (5+eH) cs)):=λcs=> (ga cs).ld (by decide);have t0:((0:Int).toNat)=0:=rfl;have t1:((1:Int).toNat)=1:=rfl;rw [t0] at i0;rw [t1] at i1;have j0:∀cs,ix 1 a (I 0) (H.new (.blk 0 (5+eH) cs))=some (cZ a 0,H.new (.blk 0 (5+eH) cs)):=j0;have j1:∀cs,ix 1 a (I 1) (H.new (.blk 0 (5+eH) cs))=some (cZ a 1,H.new (.blk 0 (5+eH) cs)):=j1;have w1:IntKind.wrap .i64 ((0:Int)+l.length)=l.length:=by rw [Int.zero_add];exact wrap_i64 (by omega) (by omega)
 have w2:IntKind.wrap .i64 ((l.length:Int)+m.length)=n:=by rw [hn];have:=wrap_i64 (a:=((l.length+m.length:Nat):Int)) (by omega) (by omega);rwa [Int.natCast_add] at this ⊢
 have p1:IntKind.wrap .i64 (1:Int)=1:=rfl;have p2:IntKind.wrap .i64 (2:Int)=2:=rfl;have q1:¬((l.length:Int) < 0):=by omega
 have q2:¬((n:Int) < 0):=by omega
 have z2:((2:Nat):Int)=2:=rfl;rw [z2] at ln;have li:∀cs,lnS a (H.new (.blk 0 (5+eH) cs))=some (I 2,H.new (.blk 0 (5+eH) cs)):=li;rw [<-hn] at a2 ⊢;simp only [c1] at a2;simp -implicitDefEqProofs only [xq_,ael,ln];rw [Jq];simp -implicitDefEqProofs only [Int.reduceLT,Int.reduceAdd,xq_,BR,i0,d0,lx,aZ,w1,q1,p1];rw [Jq];simp -implicitDefEqProofs only [Int.reduceLT,Int.reduceAdd,xq_,BR,i1,d1,ly,aZ,w2,q2,p2];rw [Jq];simp -implicitDefEqProofs only [Int.reduceLT,xq_,gr,li];rw [Jr];simp -implicitDefEqProofs only [Int.reduceLT,Int.reduceAdd,xq_,j0,e0,a1,aZ,p1];rw [Jr];simp -implicitDefEqProofs only [Int.reduceLT,Int.reduceAdd,xq_,j1,e1,a2,aZ,p2];rw [Jr];simp -implicitDefEqProofs only [Int.reduceLT,xq_]
theorem bH.made {H:aj}{l:List By}{ty:TypeId}{ex:Bool}(h:l.length < 1000):bH (H.new (.blk 0 ty (l.map Y))) (.sl H.next 0 0 1 l.length l.length ex) l:=
 ⟨jv (by simp),h⟩
theorem af6 {H:aj}(hb:H.base<=H.next){x:AV}{l:List By}(hx:bH H x l)(hl:l.length < 900):
  ∃y H',cl0 144 [x] H=some (y,H')/\Gro H H'/\bH H' y (iV l)/\H'.base<=H'.next:=by
 obtain⟨s,hs⟩:∃s,rM 0xffff#16 l=s:=⟨_,rfl⟩
 have e1:=aqb hx;rw [hs] at e1;have e2:bi .shr 33 (U16 s) (.s (.int .u64 8))=some (U16 (s >>> 8)):=afv (k:=.u16) s 8 (by decide) (by decide);have e3:∀H,cv 33 5 (U16 (s >>> 8)) H=some (Y (Vg s),H):=λH=>
  (Wn (k:=.u16) (n:=((s >>> 8).toNat:Int)) (H:=H)).trans (congrArg (λv=> some (v,H)) (aiA (k:=.u16) (k':=.u8) rfl (s >>> 8)))
 have e4:∀H,cv 33 5 (U16 s) H=some (Y (Vh s),H):=λH=>
  (Wn (k:=.u16) (n:=(s.toNat:Int)) (H:=H)).trans (congrArg (λv=> some (v,H)) (aiA (k:=.u16) (k':=.u8) rfl s))
 let H1:=H.new (.blk 0 5 [Y (Vg s),Y (Vh s)]);let y1:AV:=.sl H.next 0 0 1 2 2 true
 let H2:=H1.new (.blk 0 180 [x,y1]);have g1:Gro H H1:=Gro.new H 0 _ _;have g2:Gro H1 H2:=Gro.new H1 0 _ _;have by1:bH H1 y1 [Vg s,Vh s]:=bH.made (l:=[Vg s,Vh s]) (by simp);have ha:aG H2 (.sl H1.next 0 0 1 2 2 true) 1 2 [x,y1]:=jv rfl;have hb2:H2.base<=H2.next:=by simp only [H2,H1,bNew,nNew];omega
 have ec:=aqc hb2 ha (hx.gro (g1.trans g2)) (by1.gro g2) (by simp);have hse:iV l=l++[Vg s,Vh s]:=by unfold iV;rw [hs]
 have hlen:(iV l).length=l.length+2:=by rw [hse];simp
 have bm:=bH.made (H:=H2) (l:=iV l) (ty:=5+eH) (ex:=false) (by omega);rw [hlen] at bm;have l2:([Vg s,Vh s]:List By).length=2:=rfl;rw [<-hse,l2] at ec;refine⟨_,_,fV (akv _ _ _ (r:=(.sl H2.next 0 0 1 (l.length+2) (l.length+2) false,H2.new (.blk 0 (5+eH) ((iV l).map Y)))) ?_),(g1.trans g2).trans (Gro.new H2 0 _ _),bm,by rw [bNew,nNew];omega⟩;have b1:bs 180 2 [(0,Y (Vg s)),(1,Y (Vh s))] H=some (y1,H1):=(QY (by decide)).trans (SA af5 af5);have b2:bs 297 2 [(0,x),(1,y1)] H1=some (.sl H1.next 0 0 1 2 2 true,H2):=(ahI (by decide)).trans (SA (Ym hx) qj);simp -implicitDefEqProofs only [xq_,adT,e1,e2,e3,e4,b1,b2,ec]
theorem Ar:∀(ns:List Int) (b:ByteArray),(ns.foldl (λs n=> s.push (UInt8.ofNat n.toNat)) b).data.toList=b.data.toList++ns.map λn=> UInt8.ofNat n.toNat
 | [],b=> by simp
 | n::ns,b=> by
  rw [zbL,Ar ns];simp [ByteArray.push]
theorem Yn {l m:List By}(h:toStr (l.map λc=> (c.toNat:Int))=toStr (m.map λc=> (c.toNat:Int))):l=m:=by
 have h1:=congrArg (λb:ByteArray=> b.data.toList) h;unfold toStr at h1;simp only [Ar,List.map_map] at h1;have h2:l.map (λc:By=> UInt8.ofBitVec c)=m.map (λc:By=> UInt8.ofBitVec c):=by
  have key:∀l:List By,l.map ((λn:Int=> UInt8.ofNat n.toNat) ∘ λc:By=> (c.toNat:Int))=l.map (λc:By=> UInt8.ofBitVec c):=λl=> zbA λc _=> by
   simp only [Function.comp,zar]
   apply UInt8.toBitVec_inj.1
   simp
  rw [<-key,<-key]
  simpa using h1
 exact(List.map_inj_right λa b h=> by simpa using h).1 h2
theorem zC:∀l:List By,lK (l.map Y)=some (l.map λc=> (c.toNat:Int))
 | []=> rfl
 | c::l=> by
  show(match lK (l.map Y) with | some l'=> some ((c.toNat:Int)::l') | none=> none)=_;rw [zC l];rfl
theorem alJ {H:aj}{x:AV}{l:List By}(hx:bH H x l):cv 180 9 x H=some (.s (.string (toStr (l.map λc=> (c.toNat:Int)))),H):=by
 have hbt:CJ Tryz.prog 180 9=true:=by kernel_rfl
 obtain⟨hl,hh⟩:=hx.is;show jy (wU Tryz.prog 180 9 x) x H=_;unfold jy wU;rw [if_pos hbt];cases x with
 | sl r g off esz len cap ex=>
  obtain⟨rfl,rfl,_,ty,all,h2,h3,h4⟩:=hh;simp only [aT,zah,ag8,if_true,h2];rw [if_pos ⟨trivial,h3⟩,<-h4,zC];rfl
 | vs n m cs=>
  obtain⟨rfl,rfl,rfl⟩:=hh;simp only [ag8,if_true,zC];rfl
 | s v=>
  cases v with
  | slice a b c=>
   cases a with
   | none=>
    obtain⟨rfl,rfl,h3⟩:=(show b=0/\c=0/\l.length=0 from hh)
    have:l=[]:=zan h3;subst this;rfl
   | some a=> exact hh.elim
  | _=> exact hh.elim
 | _=> exact hh.elim
theorem Yo {H:aj}{x y:AV}{l m:List By}(hx:bH H x l)(hy:bH H y m):cl0 148 [x,y] H=some (B (decide (l=m)),H):=by
 refine fV (aky _ _ _ _ ?_);have e1:=alJ hx;have e2:=alJ hy;have e3:∀a c:ByteArray,bi .eql 9 (.s (.string a)) (.s (.string c))=some (B (decide (a=c))):=λa c=> by
  show mZ _ _ _ _ _=_;rcases a with⟨a⟩
  rcases c with⟨c⟩
  by_cases h:a=c
  ·simp [mZ,AV.val?,eqGuard,binOp,Op.stringOp,bg,h]
  ·have h2:¬a.toList=c.toList:=λe=> h (zcc.1 e);rw [<-ByteArray.toList_eq ⟨a⟩,<-ByteArray.toList_eq ⟨c⟩] at h2;simp [mZ,AV.val?,eqGuard,binOp,Op.stringOp,bg,h,h2]
 have e4:decide (toStr (l.map λc=> (c.toNat:Int))=toStr (m.map λc=> (c.toNat:Int)))=decide (l=m):=by
  by_cases h:l=m
  ·rw [h];simp
  ·rw [decide_eq_false h,decide_eq_false λe=> h (Yn e)]
 simp -implicitDefEqProofs only [xq_,adX,e1,e2,e3,e4]
theorem bH.to_ {H:aj}{x:AV}{l:List By}(h:bH H x l){n:Nat}(hn:n<=l.length):∃y,slS 1 x none (some (I n)) none=some y/\bH H y (l.take n):=by
 obtain⟨⟨hl,hh⟩,hs⟩:=h;have ht:(l.take n).length=n:=by rw [zao];omega
 have small:(l.take n).length < 1000:=by omega
 cases x with
 | sl r g off esz len cap ex=>
  obtain⟨rfl,rfl,⟨hr,hc⟩,ty,all,h2,h3,h4⟩:=hh;refine⟨_,Q5 (by omega) (by omega),⟨⟨by simp,rfl,by rw [ht,zar],⟨hr,by rw [zar];omega⟩,ty,all,h2,by rw [ht];omega,?_⟩,small⟩⟩;rw [List.map_take,h4,zbU,ht]
  congr 1
  omega
 | vs k' esz cs=>
  obtain⟨rfl,rfl,rfl⟩:=hh;refine⟨.vs n 1 ((l.take n).map Y),?_,⟨by simp,rfl,by rw [ht],rfl⟩,small⟩;have h0:(0:Int)<=n:=by omega
  simp only [slS,gW,h0,if_true,zar];rw [if_pos ⟨trivial,by omega,hn⟩];simp
 | s v=>
  cases v with
  | slice a b c=>
   cases a with
   | none=>
    obtain⟨rfl,rfl,h3⟩:=(show b=0/\c=0/\l.length=0 from hh)
    have:l=[]:=zan h3;subst this;have:n=0:=by simpa using hn
    subst this;exact⟨zN,by kernel_rfl,⟨rfl,rfl,rfl,rfl⟩,by decide⟩
   | some a=> exact hh.elim
  | _=> exact hh.elim
 | _=> exact hh.elim
theorem Yp {H:aj}{x:AV}{l:List By}(hx:bH H x l)(hl:l≠[]):cl0 149 [x] H=some (.sl (H.next+1) 0 0 1 l.length l.length false,(H.new (.blk 0 5 [])).new (.blk 0 (5+eH) (l.map Y))):=by
 have h0:l.length≠0:=λe=> hl (zan e);have e2:=nR (e:=5) (by_:=1) (r:=H.next) (H:=H.new (.blk 0 5 [])) nP (hx.gro (Gro.new H 0 _ _)).is (aaQ l) h0 (by have:=hx.small;unfold most;omega) (by have:=hx.small;unfold most;omega);simp only [nNew] at e2;have e1:bi .eql 180 x zN=some (B false):=by
  obtain⟨_,hh⟩:=hx.is;cases x with
  | sl r g off esz len cap ex=> exact uP Tryz.underlying180
  | vs n m l=> exact nJ Tryz.underlying180
  | s v=>
   cases v with
   | slice a b c=>
    cases a with
    | none=> exact absurd hh.2.2 h0
    | some a=> exact hh.elim
   | _=> exact hh.elim
  | _=> exact hh.elim
 refine fV (akz _ _ _ ?_);simp -implicitDefEqProofs only [xq_,adY,e1,QY,rG,e2,zba,zaT]
theorem aa8 {H:aj}(hb:H.base<=H.next){x:AV}{l:List By}(hx:bH H x l)(hl:l.length < 900)(hn:∀m,l≠iV m):
  ∃H',cl0 145 [x] H=some (.tup [zN,B false],H')/\Gro H H':=by
 have ln:=hx.is.lnS;have w1:=wrap_i64 (a:=(l.length:Int) - 2) (by omega) (by omega);by_cases h2:(l.length:Int) - 2 < 0
 ·refine⟨H,fV (XR _ _ _ ?_),Gro.refl H⟩;simp -implicitDefEqProofs only [xq_,RI,ln,iT,w1,h2]
 ·obtain⟨n,hnn⟩:∃n:Nat,(l.length:Int) - 2=n:=⟨l.length - 2,by omega⟩
  rw [hnn] at w1 h2;obtain⟨y,s1,by1⟩:=hx.to_ (n:=n) (by omega);obtain⟨z,H1,e1,g1,bz,_⟩:=af6 hb by1 (by rw [zao];omega);have e2:=Yo bz (hx.gro g1);rw [decide_eq_false λe=> hn _ e.symm] at e2;refine⟨H1,fV (XR _ _ _ ?_),g1⟩;simp -implicitDefEqProofs only [xq_,RI,ln,iT,hnn,w1,h2,s1,e1,e2,zal]
theorem af7 {H:aj}(hb:H.base<=H.next){x:AV}{m:List By}(hx:bH H x (iV m))(hl:m.length < 800)(h0:m≠[]):
  ∃y H',cl0 145 [x] H=some (.tup [y,B true],H')/\Gro H H'/\bH H' y m/\(∃r,y=.sl r 0 0 1 m.length m.length false):=by
 have hlen:(iV m).length=m.length+2:=by unfold iV;simp
 have htake:(iV m).take m.length=m:=by unfold iV;simp
 have ln:=hx.is.lnS;have w0:(((iV m).length:Nat):Int) - 2=(m.length:Int):=by omega
 have w1:=wrap_i64 (a:=(m.length:Int)) (by omega) (by omega);have h2:¬((m.length:Int) < 0):=by omega
 obtain⟨y,s1,by1⟩:=hx.to_ (n:=m.length) (by omega);rw [htake] at by1;obtain⟨z,H1,e1,g1,bz,_⟩:=af6 hb by1 (by omega);have e2:=Yo bz (hx.gro g1);rw [decide_eq_true rfl] at e2;have e3:=Yp (by1.gro g1) h0;have gg:Gro H1 ((H1.new (.blk 0 5 [])).new (.blk 0 (5+eH) (m.map Y))):=(Gro.new H1 0 _ _).trans (Gro.new _ 0 _ _);have bm:=bH.made (H:=H1.new (.blk 0 5 [])) (l:=m) (ty:=5+eH) (ex:=false) (by omega);rw [nNew] at bm;refine⟨_,_,fV (XR _ _ _ (r:=(.tup [.sl (H1.next+1) 0 0 1 m.length m.length false,B true],(H1.new (.blk 0 5 [])).new (.blk 0 (5+eH) (m.map Y)))) ?_),g1.trans gg,bm,_,rfl⟩;simp -implicitDefEqProofs only [xq_,RI,ln,iT,w0,w1,h2,s1,e1,e2,e3,zae]
abbrev nil0:Store:=λ_=> none
def cup(n:Nat)(g g':Store):Store:=λq=> if q < n then g q else g' q
structure Made(H H':aj)(g':Store):Prop where
 next:H.next<=H'.next
 base:H'.base=H.base
 same:∀r,r < H.next->H'.get r=H.get r
 good:Good H.next H' g'
section
variable {b:Nat}{H H' H'':aj}{g g':Store}{q:Nat}{cs:List Cell}
theorem Good.merge(G:Good b H g)(M:Made H H' g'):Good b H' (cup H.next g g'):=by
 obtain⟨h0,τ,h1⟩:=G;obtain⟨k0,τ',k1⟩:=M.good;have n1:=M.next
 refine⟨by omega,λr=> if r < H.next then τ r else τ' r,λq cs hq=> ?_⟩;unfold cup at hq;split at hq
 ·rename_i hl;exact(h1 q cs hq).keep n1 λr i s t hr ht=> ⟨by rw [if_pos hr];exact ht,M.same r hr⟩
 ·rename_i hl;have R:=k1 q cs hq
  -- all its blocks are new
  have key:∀{T:Tag} {x:AV} {m:Nat} {cells:List AV},OS H.next H' τ' T x m cells->OS b H' (λr=> if r < H.next then τ r else τ' r) T x m cells:=by
   intro T x m cells ho;rcases ho with ho | ⟨r,gg,off,n,cap,ex,ty,all,e,t1,t2,t3,t4⟩
   ·exact .inl ho
   ·exact .inr ⟨r,gg,off,n,cap,ex,ty,all,e,by simp only;rw [if_neg (by omega)];exact t1,by omega,t3,t4⟩
  have apC:∀{T:Tag} {x:AV} {k:IntKind} {es:List (Int × AV)},OM H.next H' τ' T x k es->OM b H' (λr=> if r < H.next then τ r else τ' r) T x k es:=by
   intro T x k es ⟨r,e,t1,t2,t3,t4⟩;exact⟨r,e,by simp only;rw [if_neg (by omega)];exact t1,by omega,t3,t4⟩
  obtain⟨ty,xs,b1,b2,b3,b4⟩:=R.blk;have lo:=R.lo;refine⟨by rw [if_neg hl];exact R.tag,by omega,R.hi,R.tyl,ty,xs,b1,b2,b3,λi c x hc hx=> ?_⟩;have:=b4 i c x hc hx;cases c with
  | av _=> exact this
  | seq _ _=> exact key this
  | map _ _=> exact apC this
  | maps _ _ _=>
   obtain⟨aes,a1,a2,a3⟩:=this;exact⟨aes,apC a1,a2,λj n cells x hj hx=> key (a3 j n cells x hj hx)⟩
  | aib _ _ _=>
   obtain⟨ys,a1,a2,a3⟩:=this;exact⟨ys,key a1,a2,λj cells x hj hx=> key (a3 j cells x hj hx)⟩
theorem Good.alK(G:Good b H g)(hq:H.next<=q):cup H.next g (upd nil0 q cs)=upd g q cs:=by
 funext x
 unfold cup upd;split
 ·rw [if_neg (by omega)]
 ·split
  ·rfl
  ·exact(G.isNone (by omega)).symm
theorem Made.lt(M:Made H H' g')(h:g' q=some cs):H.next<=q/\q < H'.next:=⟨M.good.le h,M.good.lt h⟩
theorem Made.refl(h:H.base<=H.next):Made H H nil0:=⟨zac _,rfl,λ_ _=> rfl,Good.empty H⟩
theorem Made.trans(M:Made H H' g)(M':Made H' H'' g'):Made H H'' (cup H'.next g g'):=
 ⟨zaz M.next M'.next,M'.base.trans M.base,λr hr=> by rw [M'.same r (zaw hr M.next),M.same r hr],M.good.merge M'⟩
theorem Made.new(M:Made H H' g)(o:dR):Made H (H'.new o) g:=
 ⟨by rw [nNew];have:=M.next;omega,by rw [bNew];exact M.base,λr hr=> by rw [aQ (zaw hr M.next),M.same r hr],M.good.new o⟩
theorem Made.vW {o:dR}(M:Made (H.new o) H' g):Made H H' g:=
 ⟨by have:=M.next;rw [nNew] at this;omega,by rw [M.base,bNew],λr hr=> by rw [M.same r (by rw [nNew];omega),aQ hr],M.good.weak (by rw [nNew];omega)⟩
theorem Made.aa9(M:Made H.guard H' g):Made H { H' with base:=H.base } g:=
 ⟨M.next,rfl,M.same,M.good.ext (zac _) λ_ _=> rfl⟩
theorem Made.step(M:Made H H' g)(G:Good H.next H'' g')(s:Step H.next H' H''):Made H H'' g':=
 ⟨zaz M.next s.next,s.base.trans M.base,λr hr=> by rw [s.low r hr,M.same r hr],G⟩
theorem Made.as(M:Made H H' g)(h:g'=g):Made H H' g':=h ▸ M
theorem jI {ty:TypeId}{xs:List AV}{cs:List Cell}(hc:xs.all AV.aH=true)(hl:xs.length=cs.length)(h:∀(i:Nat) (c:Cell) (x:AV),cs[i]?=some c->xs[i]?=some x->c=.av x∨(x=zN/\∃m,c=.seq m []))(ht:ty < eH:=by decide):
  Made H (H.new (.blk 0 ty xs)) (upd nil0 H.next cs):=by
 refine⟨za9 _,rfl,λr hr=> aQ hr,by rw [nNew];omega,λr=> if r=H.next then some (r,0,0,0) else none,λq cs' hq=> ?_⟩;unfold upd at hq;split at hq
 ·rename_i e;subst e;cases hq;refine⟨by simp,zac _,by rw [nNew];omega,sJ (xs:=xs) (by simp [iD]) ht,ty,xs,by simp [iD],hl,hc,λi c x hci hx=> ?_⟩;rcases h i c x hci hx with rfl | ⟨rfl,m,rfl⟩
  ·exact rfl
  ·exact .inl ⟨rfl,rfl⟩
 ·cases hq
theorem MK {n:Nat}{ty:TypeId}{xs:List AV}{cs:List Cell}(hn:H.next<=n)(hm:H'.next=n)(hb:H'.base=H.base)(hs:∀r,r < H.next->H'.get r=H.get r)(hc:xs.all AV.aH=true)(hl:xs.length=cs.length)(own:Nat->Option Nat)
  (h:∀(i:Nat) (c:Cell) (x:AV),cs[i]?=some c->xs[i]?=some x->c=.av x∨(x=zN/\∃m,c=.seq m [])∨∃r k,x=.mp r/\H.next<=r/\r < n/\own r=some i/\H'.get r=.map k []/\(c=.map k []∨∃m,c=.maps k m [])) (ht:ty < eH:=by decide):
  Made H (H'.new (.blk 0 ty xs)) (upd nil0 n cs):=by
 refine⟨by rw [nNew];omega,hb,λr hr=> by rw [aQ (by omega),hs r hr],by rw [nNew];omega,λr=> if r=n then some (r,0,0,0) else match own r with
  | some i=> some (n,i+1,0,0)
  | none=> none,λq cs' hq=> ?_⟩
 unfold upd at hq;split at hq
 ·rename_i e;subst e;cases hq;refine⟨by simp,hn,by rw [nNew];omega,sJ (xs:=xs) (by rw [aK hm.symm]) ht,ty,xs,by rw [aK hm.symm],hl,hc,λi c x hci hx=> ?_⟩;have om:∀r k,H.next<=r->r < q->own r=some i->H'.get r=.map k []->OM H.next (H'.new (.blk 0 ty xs)) (λr=> if r=q then some (r,0,0,0) else match own r with
    | some i=> some (q,i+1,0,0)
    | none=> none) (q,i+1,0,0) (.mp r) k []:=λr k h1 h2 h3 h4=> ⟨r,rfl,by simp only;rw [if_neg (by omega),h3],h1,by rw [nNew];omega,by rw [aQ (by omega)];exact h4⟩
  rcases h i c x hci hx with rfl | ⟨rfl,m,rfl⟩ | ⟨r,k,rfl,h1,h2,h3,h4,rfl | ⟨m,rfl⟩⟩
  ·exact rfl
  ·exact .inl ⟨rfl,rfl⟩
  ·exact om r k h1 h2 h3 h4
  ·exact⟨[],om r k h1 h2 h3 h4,rfl,λj n cells x hj=> by simp at hj⟩
 ·cases hq
end
def bC(c:Cache):List Cell:=[.seq 6 (c.l.flatMap Ent.av),.av (I c.sets),.av (I c.ways),.av (I c.clock)]
def nX(p:Proc):List Cell:=[.av (vsl 3 Opn.av p.ops),.seq 1 (p.values.map I),.av (B p.begun)]
def kJ(l:List Evn):List Cell:=[.seq 4 (l.flatMap Evn.av)]
def fZ(t:Turns):List Cell:=[.map .i64 (WA (λn=> I n) t.iq),.maps .i64 2 (t.wait.map λe=> (e.1,e.2.flatMap λw=> [I w.1,I w.2]))]
def AL(c:Cfg)(rows:Rows):List Cell:=c.av.map .av++[.map .i64 (WA (λr=> .agg r.av) rows)]
section
variable {H:aj}
theorem Yq(H:aj)(room:Int)(h:0<=room):∃H' q,cl 57 [I room] H=some (.ref q 0 0,H')/\Made H H' (upd nil0 q (kU [] room)):=by
 refine⟨_,H.next,aN rfl rfl (an7 _ _ _ (r:=(_,H.new (.blk 0 164 [zN,I room]))) ?_),jI rfl rfl λi c x hc hx=> ?_⟩
 ·have e:max (0:Int) room=room:=by omega
  simp -implicitDefEqProofs only [Nat.reduceLT,Nat.reduceAdd,setAt,xq_,hq_,aji,Iq,e,ah0,gV,dM,acL,aB]
 ·match i with
  | 0=> right;cases hc;cases hx;exact⟨rfl,9,rfl⟩
  | 1=> left;cases hc;cases hx;rfl
  | i+2=> cases hc
theorem SB(H:aj)(room:Int)(h:0<=room):∃H' q,cl 58 [I room] H=some (.ref q 0 0,H')/\Made H H' (upd nil0 q (kU [] room)):=by
 refine⟨_,H.next,aN rfl rfl (an8 _ _ _ (r:=(_,H.new (.blk 0 166 [zN,I room]))) ?_),jI rfl rfl λi c x hc hx=> ?_⟩
 ·have e:max (0:Int) room=room:=by omega
  simp -implicitDefEqProofs only [Nat.reduceLT,Nat.reduceAdd,setAt,xq_,hq_,ajj,Iq,e,ah1,gV,dM,acM,aB]
 ·match i with
  | 0=> right;cases hc;cases hx;exact⟨rfl,9,rfl⟩
  | 1=> left;cases hc;cases hx;rfl
  | i+2=> cases hc
theorem abb(H:aj)(sets ways:Int)(h:1<=sets)(h':1<=ways):∃H' q,cl 59 [I sets,I ways] H=some (.ref q 0 0,H')/\Made H H' (upd nil0 q (bC ⟨[],sets,ways,0⟩)):=by
 refine⟨_,H.next,aN rfl rfl (an9 _ _ _ _ (r:=(_,H.new (.blk 0 133 [zN,I sets,I ways,zI]))) ?_),jI rfl rfl λi c x hc hx=> ?_⟩
 ·have e:max (1:Int) sets=sets:=by omega
  have e':max (1:Int) ways=ways:=by omega
  simp -implicitDefEqProofs only [Nat.reduceLT,Nat.reduceAdd,setAt,xq_,hq_,ajk,Iq,e,e',ahX,gV,dM,acI,aB]
 ·match i with
  | 0=> right;cases hc;cases hx;exact⟨rfl,6,rfl⟩
  | 1=> left;cases hc;cases hx;rfl
  | 2=> left;cases hc;cases hx;rfl
  | 3=> left;cases hc;cases hx;rfl
  | i+4=> cases hc
theorem abd(H:aj):∃H' q,cl 32 [] H=some (.ref q 0 0,H')/\Made H H' (upd nil0 q (kJ [])):=by
 refine⟨_,H.next,aN rfl rfl (anN _ _ (r:=(_,H.new (.blk 0 118 [zN]))) ?_),jI rfl rfl λi c x hc hx=> ?_⟩
 ·simp -implicitDefEqProofs only [Nat.reduceLT,xq_,hq_,ai4,ahS,gV,dM,aB]
 ·match i with
  | 0=> right;cases hc;cases hx;exact⟨rfl,4,rfl⟩
  | i+1=> cases hc
theorem abe(H:aj):∃H' q,cl 93 [] H=some (.ref q 0 0,H')/\Made H H' (upd nil0 q (fZ ⟨[],[]⟩)):=by
 refine⟨_,H.next+2,aN rfl rfl (aoE _ _ (r:=(_,((H.new (.map .i64 [])).new (.map .i64 [])).new (.blk 0 209 [.mp H.next,.mp (H.next+1)]))) ?_),MK (H':=(H.new (.map .i64 [])).new (.map .i64 [])) (by omega) (by rw [nNew,nNew]) rfl (λr hr=> by rw [aQ (by rw [nNew];omega),aQ hr]) rfl rfl (λr=> if r=H.next then some 0 else if r=H.next+1 then some 1 else none) λi c x hc hx=> ?_⟩
 ·have e:∀r,(AV.mp r).cells=[.mp r]:=λ_=> rfl;simp -implicitDefEqProofs only [Nat.reduceLT,Nat.reduceAdd,setAt,xq_,hq_,ajG,ah3,gV,dM,acO,aB,e,VY]
 ·match i with
  | 0=> right;right;cases hc;cases hx;exact⟨H.next,.i64,rfl,zac _,by omega,by simp,by rw [aQ (by rw [nNew];omega),aK rfl],.inl rfl⟩
  | 1=> right;right;cases hc;cases hx;exact⟨H.next+1,.i64,rfl,by omega,by omega,by simp,by rw [aK (by rw [nNew])],.inr ⟨2,rfl⟩⟩
  | i+2=> cases hc
end
end
end Go.Proofs.YthmoogcacpmjiaaGreat
