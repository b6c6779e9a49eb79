/-
  Own work: an interpreter over named blocks, its soundness, and what the functions of this seat compute (part 4 of 11).
  Conditions: those of the statement alone.
-/
import Derived.Test.YtljogojaihgdlaaGreatProg
import Derived.KernelRfl
import Derived.RangeFuncFrom
import Derived.RangeFuncLeaves
import Derived.RangeFuncCalls
import Derived.OrdersIn
import Derived.Test.YtljogojaihgdlaaGreatJc
set_option maxRecDepth 100000
set_option linter.all false
set_option linter.unusedSectionVars false
set_option linter.unusedVariables false
set_option linter.unusedSimpArgs false
namespace Go.Proofs.YtljogojaihgdlaaGreat
noncomputable section
def apU:Ann:=⟨[(11,[3,4,5,6,7,8,9])],[(4,some false::some false::some true::rF 4 [])],[]⟩
def JC:=qx Tryz.prog Tryz.f4 132 apU 0
def Pg(C:aC)(t3 t4 t5 t6 t7 t8 t9:AV)(H:ah):OA:=
 bnd (C 14 [t4,(I 0),(I 0),(.s (Go.Value.int Go.IntKind.u16 0))] H) λarp H=>
 bo (bi .add 3 t9 (I 1)) λv49=>
 JC C [t3,t4,t5,t6,t7,t8,v49] H
def apV(C:aC)(a0:AV)(H:ah):OA:=
 bnd (jD 24 a0 H) λv1 H=>
 bnd (lda 12 v1 H) λv13 H=> bnd (C 7 [v13] H) λv14 H=> bnd (alc 26 [zI,zI,zI,zI,zI,zI,zI,zN] H) λv3 H=> bnd (st 8 v3 v14 H) λ_ H=>
 bo (au v3 0) λv15=> bnd (st 1 v15 (I 1) H) λ_ H=>
 bnd (lda 8 v3 H) λv16 H=> bnd (C 9 [v16] H) λv17 H=> bnd (C 10 [] H) λv18 H=>
 bnd (lda 8 v3 H) λv19 H=> bnd (lda 12 v1 H) λv20 H=> bnd (unG H (C 8 [v20,(I 16)] H.guard)) λv21 H=> bnd (ix 1 v21 (I 0) H) λv22 H=> bnd (ld v22 H) λv23 H=> bnd (C 11 [v19,(I 0),v23] H) λv24 H=>
 bo (bi .eql 31 v17 (.s (Go.Value.pointer none))) λv26=> gl v26 false (some v18) H λv28 H=> gl v26 false (bi .eql 33 v28 (.s (Go.Value.pointer none))) H λv29 H=> bo (dF v26 (B true) v29) λv30=> gl v30 false (some v24) H λv32 H=> gl v30 false (bi .eql 35 v32 (.s (Go.Value.pointer none))) H λv33 H=> bo (dF v30 (B true) v33) λv34=>
 aY v34
 (some ((B false),H))
 (JC C [v3,v17,v18,v24,(I 0),(B false),(I 0)] H)
theorem Ph(C:aC)(t3 t4 t5 t6 t7 t8 t9:AV)(H:ah):JC C [t3,t4,t5,t6,t7,t8,t9] H=
 bo (bi .lss 3 t9 (I 700)) λv36=> gl v36 true (some t6) H λv38 H=> gl v36 true (aB v38) H λv39 H=> gl v36 true (au v39 1) H λv40 H=> gdA (some v36) true (ld v40 H) H λv41 H=> gdA (some v36) true (C 12 [v41] H) H λv42 H=> gl v36 true (bi .gtr 3 v42 (I 0)) H λv43 H=> gl v36 true (some v43) H λv44 H=> gl v44 false (some t8) H λv45 H=> gl v36 true (dF v44 (B true) v45) H λv46 H=> bo (dF v36 v46 (B false)) λv47=>
 aY v47
 (bnd (C 13 [t6,t4,t5] H) λv53 H=>
  bnd (C 20 [t6] H) λv56 H=> bo (aK v56 0) λv57=> bo (aK v56 1) λv58=> bnd (alc 44 [zI,zI,zI,zI,zI,zI,zN,zI,zI] H) λv11 H=> bnd (st 9 v11 v57 H) λ_ H=>
  bo (bi .eql 3 v53 (I 4)) λv61=> gl v61 true (some v58) H λv63 H=> bo (dF v61 v63 (B false)) λv64=>
  aY v64
  (gl t8 false (au v11 2) H λv67 H=> gdA (some t8) false (ld v67 H) H λv68 H=> gl t8 false (some t7) H λv69 H=> gl t8 false (bi .neq 3 v68 v69) H λv70 H=> bo (dF t8 (B true) v70) λv71=> gl v71 false (au v11 3) H λv73 H=> gdA (some v71) false (ld v73 H) H λv74 H=> gl v71 false (bi .neq 3 v74 (I 1)) H λv75 H=> bo (dF v71 (B true) v75) λv76=> gl v76 false (some t4) H λv78 H=> gdA (some v76) false (C 21 [v78] H) H λv79 H=> gl v76 false (bi .neq 3 v79 (I 1)) H λv80 H=> bo (dF v76 (B true) v80) λv81=>
  aY v81
  (some ((B false),H))
  (bo (bi .add 3 t7 (I 1)) λv83=>
   Pg C t3 t4 t5 t6 v83 (B true) t9 H))
  (bo (bi .eql 3 v53 (I 1)) λv86=> gl v86 true (some v58) H λv88 H=> gl v86 true (un .not v88) H λv89 H=> bo (dF v86 v89 (B false)) λv90=>
  aY v90
  (Pg C t3 t4 t5 t6 t7 (B false) t9 H)
  (bo (bi .neq 4 v58 t8) λv94=> gl v94 false (some v58) H λv96 H=> gl v94 false (some v96) H λv97 H=> gl v97 true (au v11 2) H λv98 H=> gdA (some v97) true (ld v98 H) H λv99 H=> gl v97 true (some t7) H λanT H=> gl v97 true (bi .sub 3 anT (I 1)) H λagV H=> gl v97 true (bi .neq 3 v99 agV) H λanU H=> gl v97 true (some anU) H λaeU H=> gl aeU false (au v11 1) H λanV H=> gdA (some aeU) false (ld anV H) H λv105 H=> gl aeU false (bi .lss 3 v105 (I 0)) H λaqr H=> gl v97 true (dF aeU (B true) aqr) H λv107 H=> gl v97 true (some v107) H λaeV H=> gl aeV false (au v11 1) H λv109 H=> gdA (some aeV) false (ld v109 H) H λaqs H=> gl aeV false (au t3 1) H λapW H=> gdA (some aeV) false (ld apW H) H λaqt H=> gl aeV false (bi .geq 3 aqs aqt) H λaqu H=> gl v97 true (dF aeV (B true) aqu) H λapX H=> gl v94 false (dF v97 apX (B false)) H λaqv H=> bo (dF v94 (B true) aqv) λaqw=>
   aY aqw
   (some ((B false),H))
   (Pg C t3 t4 t5 t6 t7 t8 t9 H))))
 (bo (aB t6) λaqx=> fld aqx 1 H λaqy H=> bnd (C 12 [aqy] H) λaqz H=> bo (bi .eql 3 aqz (I 0)) λv124=> gl v124 true (some t8) H λanW H=> gl v124 true (un .not anW) H λv127 H=> bo (dF v124 v127 (B false)) λajI=> gdA (some ajI) true (C 19 [] H) H λv130 H=> bo (dF ajI v130 (B false)) λv131=>
  some (v131,H)):=
 lpE.trans (by kernel_rfl)
theorem aqA:Rn1 4 apV:=λ_ _ _ _ h=>
 rnG apU Tryz.func4 (by kernel_rfl) (by kernel_rfl) h
def aqB:Ann:=⟨[],[(1,some false::some false::some true::rF 3 (some true::rF 3 (some true::rF 3 (some true::rF 3 (some true::rF 3 (some true::rF 3 (some true::some false::some false::none::some false::[])))))))],[]⟩
def apY(C:aC)(a0:AV)(H:ah):OA:=
 bnd (jD 24 a0 H) λv1 H=> bnd (alc 26 [zI,zI,zI,zI,zI,zI,zI,zN] H) λv2 H=>
 bnd (alc 26 [zI,zI,zI,zI,zI,zI,zI,zN] H) λv3 H=> fld v1 0 H λv5 H=> bnd (unG H (C 33 [v5,(I 4)] H.guard)) λv6 H=> bo (bi .add 3 (I 1) v6) λv7=> fld v1 1 H λv9 H=> bnd (unG H (C 33 [v9,(I 4)] H.guard)) λv10 H=> bo (bi .add 3 (I 1) v10) λv11=> fld v1 2 H λv13 H=> bnd (unG H (C 33 [v13,(I 2)] H.guard)) λv14 H=> bo (bi .add 3 (I 1) v14) λv15=> fld v1 3 H λv17 H=> bnd (unG H (C 33 [v17,(I 2)] H.guard)) λv18 H=> bo (bi .add 3 (I 1) v18) λv19=> fld v1 4 H λv21 H=> bnd (unG H (C 33 [v21,(I 2)] H.guard)) λv22 H=> bo (bi .add 3 (I 1) v22) λv23=> fld v1 5 H λv25 H=> bnd (unG H (C 33 [v25,(I 3)] H.guard)) λv26 H=> bo (bi .add 3 (I 1) v26) λv27=> fld v1 6 H λv29 H=> bnd (unG H (C 33 [v29,(I 3)] H.guard)) λv30 H=> bo (bi .add 3 (I 1) v30) λv31=> bo (bd 26 [(0,v7),(1,v11),(2,v15),(3,v19),(4,v23),(5,v27),(6,v31)]) λv32=> bnd (st 8 v3 v32 H) λ_ H=>
 fld v1 7 H λv34 H=> fld v3 1 H λv36 H=> fld v3 2 H λv38 H=> bo (bi .mul 3 v36 v38) λv39=> bnd (C 36 [v34,v39] H) λv40 H=> bo (au v3 7) λv41=> bnd (st 1 v41 v40 H) λ_ H=>
 bnd (lda 8 v3 H) λv42 H=> bnd (st 8 v2 v42 H) λ_ H=>
 bnd (lda 8 v2 H) λr0 _=> some (r0,H)
theorem aqC:Rn1 7 apY:=λ_ _ _ _ h=>
 rnG aqB Tryz.func7 (by kernel_rfl) (by kernel_rfl) h
def apZ:Ann:=⟨[(5,[1,2,5,6,7])],[(6,none::rF 3 (some true::some true::rF 5 (some true::rF 5 (some true::some false::none::some false::[])))),(9,rF 9 []),(11,rF 11 [])],[]⟩
def GL:=qx Tryz.prog Tryz.f8 84 apZ 0
def UM(C:aC)(t1 t2 t5 t6 t7:AV)(H:ah):OA:=
 bo (bi .add 3 t7 (I 1)) λv26=>
 GL C [t1,t2,t5,t6,v26] H
def Pj(C:aC)(t1 t2 t5 t6 t7 t8:AV)(H:ah):OA:=
 fld t2 8 H λv60 H=> bnd (ix 1 v60 t7 H) λv62 H=> bnd (ld v62 H) λv63 H=> fld t5 0 H λv65 H=> bnd (C 33 [v63,v65] H) λv66 H=>
 bnd (ix 1 t6 v66 H) λv69 H=> bnd (ld v69 H) λv70 H=> bnd (lnS v70 H) λv71 H=> bo (bi .lss 3 v71 (I 24)) λv72=>
 aY v72
 (bnd (ix 1 t6 v66 H) λv77 H=> bnd (ld v77 H) λv78 H=> bnd (lda 3 t8 H) λv79 H=> bnd (bs 28 1 [(0,v79)] H) λv80 H=> bnd (app 53 3 24 v78 v80 H) λv81 H=> bnd (ix 1 t6 v66 H) λv82 H=> bnd (st 1 v82 v81 H) λ_ H=>
  UM C t1 t2 t5 t6 t7 H)
 (UM C t1 t2 t5 t6 t7 H)
def anX(C:aC)(a0 a1:AV)(H:ah):OA:=
 bnd (jD 24 a0 H) λv2 H=>
 bnd (lda 12 v2 H) λv10 H=> bnd (C 7 [v10] H) λv11 H=> bnd (alc 26 [zI,zI,zI,zI,zI,zI,zI,zN] H) λv5 H=> bnd (st 8 v5 v11 H) λ_ H=>
 fld v5 0 H λv13 H=> bnd (mks 28 1 24 [zN] v13 v13 H) λv14 H=>
 GL C [a1,v2,v5,v14,(I 0)] H
theorem aeW(C:aC)(t1 t2 t5 t6 t7:AV)(H:ah):GL C [t1,t2,t5,t6,t7] H=
 fld t2 8 H λv17 H=> bnd (lnS v17 H) λv18 H=> bo (bi .lss 3 t7 v18) λv19=> gl v19 true (some t7) H λv21 H=> gl v19 true (some t1) H λv22 H=> gl v19 true (bi .lss 3 v21 v22) H λv23 H=> bo (dF v19 v23 (B false)) λv24=>
 aY v24
 (bnd (bs 22 7 [(0,(I 1)),(1,(I 2)),(2,(I 3)),(3,(I 1)),(4,(I 2)),(5,(I 1)),(6,(I 4))] H) λv27 H=> bnd (alc 53 [zI,zI,zI] H) λv8 H=> fld t2 9 H λv29 H=> bnd (unG H (C 37 [v29,t7] H.guard)) λv31 H=> bnd (unG H (C 33 [v31,(I 7)] H.guard)) λv32 H=> bnd (ix 1 v27 v32 H) λv33 H=> bnd (ld v33 H) λv34 H=> fld t2 10 H λv36 H=> bnd (unG H (C 37 [v36,t7] H.guard)) λv38 H=> fld t5 1 H λv40 H=> fld t5 2 H λv42 H=> bo (bi .mul 3 v40 v42) λv43=> bnd (unG H (C 33 [v38,v43] H.guard)) λv44 H=> bo (bd 53 [(0,v34),(1,v44)]) λv45=> bnd (st 3 v8 v45 H) λ_ H=>
  fld v8 0 H λv47 H=> bo (bi .eql 3 v47 (I 2)) λv48=> gl v48 false (au v8 0) H λv50 H=> gdA (some v48) false (ld v50 H) H λv51 H=> gl v48 false (bi .eql 3 v51 (I 3)) H λv52 H=> bo (dF v48 (B true) v52) λv53=>
  aY v53
  (fld t2 11 H λv55 H=> bnd (C 37 [v55,t7] H) λv57 H=> bo (au v8 2) λv58=> bnd (st 1 v58 v57 H) λ_ H=>
  Pj C t1 t2 t5 t6 t7 v8 H)
  (Pj C t1 t2 t5 t6 t7 v8 H))
 (some (t6,H)):=
 lpE.trans (by kernel_rfl)
theorem aqD:Rn2 8 anX:=λ_ _ _ _ _ h=>
 rnG apZ Tryz.func8 (by kernel_rfl) (by kernel_rfl) h
def ap0:Ann:=⟨[(4,[1,3,7,8])],[(4,rF 7 (some true::some false::some false::some true::rF 3 (some true::some true::rF 7 [])))],[]⟩
def UN:=qx Tryz.prog Tryz.f9 34 ap0 0
def ap1(C:aC)(a0:AV)(H:ah):OA:=
 bnd (jD 26 a0 H) λv1 H=>
 bo (bd 93 []) λv4=> bnd (jD 93 v4 H) λv5 H=>
 fld v1 0 H λv7 H=>
 UN C [v1,v5,v7,(I 0)] H
theorem aeX(C:aC)(t1 t3 t7 t8:AV)(H:ah):UN C [t1,t3,t7,t8] H=
 bo (bi .lss 3 t8 t7) λv9=>
 aY v9
 (bo (aB t3) λv12=> fld v12 0 H λv14 H=> fld t1 5 H λv16 H=> bnd (unG H (C 38 [v16] H.guard)) λv17 H=> fld t1 6 H λv19 H=> bnd (unG H (C 39 [v19] H.guard)) λv20 H=> bo (bd 99 [(0,v17),(1,v20)]) λv21=> fld t1 5 H λv23 H=> bnd (unG H (C 38 [v23] H.guard)) λv24 H=> bnd (unG H (C 39 [(I 1)] H.guard)) λv25 H=> bo (bd 99 [(0,v24),(1,v25)]) λv26=> bo (bd 101 [(0,v21),(1,v26)]) λv27=> bnd (bs 91 1 [(0,v27)] H) λv28 H=> bnd (app 101 4 32 v14 v28 H) λv29 H=> bo (aB t3) λv30=> bo (au v30 0) λv31=> bnd (st 1 v31 v29 H) λ_ H=>
  bo (bi .add 3 t8 (I 1)) λv32=>
  UN C [t1,t3,t7,v32] H)
 (some (t3,H)):=
 lpE.trans (by kernel_rfl)
theorem aqE:Rn1 9 ap1:=λ_ _ _ _ h=>
 rnG ap0 Tryz.func9 (by kernel_rfl) (by kernel_rfl) h
def ajJ(C:aC)(H:ah):OA:=
 bo (bd 103 []) λv1=> bnd (jD 103 v1 H) λv2 H=>
 some (v2,H)
theorem anY:Rn0 10 ajJ:=λ_ _ _ h=>
 rnG an0 Tryz.func10 (by kernel_rfl) (by kernel_rfl) h
def anZ:Ann:=⟨[],[(1,rF 4 (some true::some false::some true::rF 4 (some true::rF 4 [])))],[]⟩
def ajK(C:aC)(a0 a1 a2:AV)(H:ah):OA:=
 bnd (jD 26 a0 H) λv3 H=>
 fld v3 3 H λv8 H=> fld v3 4 H λv10 H=> bnd (unG H (C 40 [v8,v10] H.guard)) λv11 H=> bnd (unG H (C 41 [a2] H.guard)) λv13 H=> bnd (lda 8 v3 H) λv14 H=> bnd (lda 8 v3 H) λv16 H=> bnd (unG H (C 42 [v16,a1] H.guard)) λv18 H=> bo (bd 42 [(0,v18)]) λv19=> bo (bd 46 [(0,v11),(1,v13),(2,v14),(3,a1),(4,v19)]) λv20=> bnd (jD 46 v20 H) λv21 H=>
 some (v21,H)
theorem an1:Rn3 11 ajK:=λ_ _ _ _ _ _ h=>
 rnG anZ Tryz.func11 (by kernel_rfl) (by kernel_rfl) h
def an2:Ann:=⟨[],[(1,rF 12 [])],[]⟩
def ajL(C:aC)(a0:AV)(H:ah):OA:=
 bo (aB a0) λv4=> fld v4 0 H λv6 H=> bnd (lnS v6 H) λv7 H=> bo (aB a0) λv9=> fld v9 1 H λv11 H=> bnd (lnS v11 H) λv12 H=> bo (bi .sub 3 v7 v12) λv13=>
 some (v13,H)
theorem an3:Rn1 12 ajL:=λ_ _ _ _ h=>
 rnG an2 Tryz.func12 (by kernel_rfl) (by kernel_rfl) h
def Sm(C:aC)(a0 a1 a2:AV)(H:ah):OA:=
 bnd (C 43 [a0,a1,a2] H) λv11 H=>
 aY v11
 (some ((I 1),H))
 (bnd (C 44 [a0,a1] H) λv15 H=>
  aY v15
  (some ((I 2),H))
  (bnd (C 45 [a0,a1] H) λv19 H=>
  aY v19
  (some ((I 3),H))
  (bnd (C 46 [a0,a1,a2] H) λv24 H=>
   aY v24
   (some ((I 4),H))
   (some ((I 0),H)))))
theorem WC:Rn3 13 Sm:=λ_ _ _ _ _ _ h=>
 rnG an0 Tryz.func13 (by kernel_rfl) (by kernel_rfl) h
def an4:Ann:=⟨[],[(7,rF 10 (some true::some true::rF 4 []))],[]⟩
def Y4(C:aC)(a0 a1 a2 a3:AV)(H:ah):OA:=
 bnd (C 47 [a0,a1] H) λv19 H=> bo (aK v19 0) λv20=> bo (aK v19 1) λv21=> bnd (alc 112 [zI,zI,zI,zI,zI,zI,zI,zB,zN] H) λv9 H=> bnd (st 9 v9 v20 H) λ_ H=>
 bo (un .not v21) λv23=>
 aY v23
 (some ((I 3),H))
 (bnd (lda 9 v9 H) λv25 H=> bnd (C 48 [v25,a2,a3] H) λv28 H=> bo (aK v28 0) λv29=> bo (aK v28 1) λv30=> bnd (st 9 v9 v29 H) λ_ H=>
  bo (bi .neq 48 v30 (I 0)) λv32=>
  aY v32
  (some (v30,H))
  (bo (aB a0) λv35=> fld v35 0 H λv37 H=> fld v9 2 H λv39 H=> bnd (ix 4 v37 v39 H) λv40 H=> bnd (lda 4 v40 H) λv41 H=> fld v9 0 H λv43 H=> bnd (unG H (C 50 [v43] H.guard)) λv44 H=> bnd (unG H (C 49 [v41,v44] H.guard)) λv45 H=> bo (fl v45 1) λv46=> bnd (lda 9 v9 H) λv47 H=> bnd (C 51 [v46,v47] H) λv48 H=>
  bo (bi .neq 48 v48 (I 0)) λv50=>
  aY v50
  (some (v48,H))
  (bnd (C 52 [a0,a1] H) λv55 H=> bo (aK v55 0) λv56=> bo (aK v55 1) λv57=> bo (aK v55 2) λv58=> bnd (alc 99 [zP,zP] H) λv13 H=> bnd (st 2 v13 v56 H) λ_ H=>
   fld v13 0 H λv60 H=> bnd (C 53 [v60,v57] H) λv62 H=>
   some ((I 0),H))))
theorem aco:Rn4 14 Y4:=λ_ _ _ _ _ _ _ h=>
 rnG an4 Tryz.func14 (by kernel_rfl) (by kernel_rfl) h
def ajM:Ann:=⟨[(5,[0,1,5])],[(6,rF 9 [])],[]⟩
def GN:=qx Tryz.prog Tryz.f17 26 ajM 0
def ajN(C:aC)(a0 a1:AV)(H:ah):OA:=
 bnd (lnS a0 H) λv7 H=> bnd (lnS a1 H) λv9 H=> bo (bi .neq 3 v7 v9) λv10=>
 aY v10
 (some ((B false),H))
 (GN C [a0,a1,(I 0)] H)
theorem Y5(C:aC)(t0 t1 t5:AV)(H:ah):GN C [t0,t1,t5] H=
 bnd (lnS t0 H) λv13 H=> bo (bi .lss 3 t5 v13) λv14=>
 aY v14
 (bnd (ix 1 t0 t5 H) λv19 H=> bnd (ld v19 H) λv20 H=> bnd (ix 1 t1 t5 H) λv23 H=> bnd (ld v23 H) λv24 H=> bo (bi .neq 3 v20 v24) λv25=>
  aY v25
  (some ((B false),H))
  (bo (bi .add 3 t5 (I 1)) λv16=>
  GN C [t0,t1,v16] H))
 (some ((B true),H)):=
 lpE.trans (by kernel_rfl)
theorem an5:Rn2 17 ajN:=λ_ _ _ _ _ h=>
 rnG ajM Tryz.func17 (by kernel_rfl) (by kernel_rfl) h
def ajO(C:aC)(a0:AV)(H:ah):OA:=
 bo (aB a0) λv4=> fld v4 1 H λv6 H=> bnd (C 55 [v6] H) λv7 H=>
 some (v7,H)
theorem an6:Rn1 18 ajO:=λ_ _ _ _ h=>
 rnG an0 Tryz.func18 (by kernel_rfl) (by kernel_rfl) h
def ajP(C:aC)(H:ah):OA:=
 bnd (C 56 [] H) λv4 H=> bnd (C 9 [v4] H) λv5 H=> bnd (C 10 [] H) λv6 H=>
 bnd (C 56 [] H) λv7 H=> bo (bd 53 [(0,(I 1))]) λv8=> bnd (bs 28 1 [(0,v8)] H) λv9 H=> bnd (C 11 [v7,(I 0),v9] H) λv10 H=>
 bo (bi .eql 31 v5 (.s (Go.Value.pointer none))) λv12=> gl v12 false (some v6) H λv14 H=> gl v12 false (bi .eql 33 v14 (.s (Go.Value.pointer none))) H λv15 H=> bo (dF v12 (B true) v15) λv16=> gl v16 false (some v10) H λv18 H=> gl v16 false (bi .eql 35 v18 (.s (Go.Value.pointer none))) H λv19 H=> bo (dF v16 (B true) v19) λv20=> gdA (some v20) false (C 56 [] H) H λv22 H=> gdA (some v20) false (C 11 [v22,(I 0),(.s (Go.Value.slice none 0 0))] H) H λv23 H=> gl v20 false (some v5) H λv24 H=> gl v20 false (some v6) H λv25 H=> gdA (some v20) false (C 13 [v23,v24,v25] H) H λv26 H=> gl v20 false (bi .neq 3 v26 (I 0)) H λv27 H=> bo (dF v20 (B true) v27) λv28=> gl v28 false (some v10) H λv30 H=> gl v28 false (some v5) H λv31 H=> gl v28 false (some v6) H λv32 H=> gdA (some v28) false (C 13 [v30,v31,v32] H) H λv33 H=> gl v28 false (bi .neq 3 v33 (I 4)) H λv34 H=> bo (dF v28 (B true) v34) λv35=> gl v35 false (some v5) H λv37 H=> gdA (some v35) false (C 14 [v37,(I 0),(I 0),(.s (Go.Value.int Go.IntKind.u16 0))] H) H λv38 H=> gl v35 false (bi .neq 48 v38 (I 0)) H λv39 H=> bo (dF v35 (B true) v39) λv40=> gl v40 false (some v10) H λv42 H=> gl v40 false (some v5) H λv43 H=> gl v40 false (some v6) H λv44 H=> gdA (some v40) false (C 13 [v42,v43,v44] H) H λv45 H=> gl v40 false (bi .neq 3 v45 (I 3)) H λv46 H=> bo (dF v40 (B true) v46) λv47=> gl v47 false (some v5) H λv49 H=> gdA (some v47) false (C 14 [v49,(I 0),(I 0),(.s (Go.Value.int Go.IntKind.u16 0))] H) H λv50 H=> gl v47 false (bi .neq 48 v50 (I 0)) H λv51 H=> bo (dF v47 (B true) v51) λv52=> gl v52 false (some v10) H λv54 H=> gl v52 false (some v5) H λv55 H=> gl v52 false (some v6) H λv56 H=> gdA (some v52) false (C 13 [v54,v55,v56] H) H λv57 H=> gl v52 false (bi .neq 3 v57 (I 1)) H λv58 H=> bo (dF v52 (B true) v58) λv59=>
 aY v59
 (some ((B false),H))
 (bo (aB v10) λv61=> fld v61 1 H λv63 H=> bnd (C 12 [v63] H) λv64 H=> bo (bi .eql 3 v64 (I 0)) λv65=> gl v65 true (some v10) H λv67 H=> gl v65 true (aB v67) H λv68 H=> gl v65 true (au v68 1) H λv69 H=> gdA (some v65) true (ld v69 H) H λv70 H=> gdA (some v65) true (C 18 [v70] H) H λv71 H=> gdA (some v65) true (bs 22 1 [(0,(I 5))] H) H λv72 H=> gdA (some v65) true (C 17 [v71,v72] H) H λv73 H=> bo (dF v65 v73 (B false)) λv74=>
  some (v74,H))
theorem an7:Rn0 19 ajP:=λ_ _ _ h=>
 rnG an0 Tryz.func19 (by kernel_rfl) (by kernel_rfl) h
def Y6(C:aC)(a0:AV)(H:ah):OA:=
 bnd (alc 44 [zI,zI,zI,zI,zI,zI,zN,zI,zI] H) λv2 H=>
 bo (aB a0) λv6=> bo (au v6 12) λv7=> fld v7 3 H λv9 H=> bo (bi .eql 3 v9 (I 0)) λv10=>
 aY v10
 (bo (bd 44 []) λv11=> bnd (st 9 v2 v11 H) λ_ H=>
  bnd (lda 9 v2 H) λr0 _=> some (.tup [r0,(B false)],H))
 (bo (aB a0) λv13=> bo (au v13 12) λv14=> bnd (lda 9 v14 H) λv15 H=> bnd (alc 44 [zI,zI,zI,zI,zI,zI,zN,zI,zI] H) λv4 H=> bnd (st 9 v4 v15 H) λ_ H=>
  fld v4 6 H λv17 H=> bnd (app 3 1 8 (.s (Go.Value.slice none 0 0)) v17 H) λv18 H=> bo (au v4 6) λv19=> bnd (st 1 v19 v18 H) λ_ H=>
  bnd (lda 9 v4 H) λv20 H=> bnd (st 9 v2 v20 H) λ_ H=>
  bnd (lda 9 v2 H) λr0 _=> some (.tup [r0,(B true)],H))
theorem agW:Rn1 20 Y6:=λ_ _ _ _ h=>
 rnG an0 Tryz.func20 (by kernel_rfl) (by kernel_rfl) h
def ajQ:Ann:=⟨[(4,[3,7,8,9])],[],[]⟩
def LC:=qx Tryz.prog Tryz.f21 20 ajQ 0
def ajR(C:aC)(a0:AV)(H:ah):OA:=
 bnd (C 57 [a0] H) λv7 H=> bnd (lnS v7 H) λv8 H=>
 LC C [(I 0),v7,v8,(I 0)] H
theorem Y7(C:aC)(t3 t7 t8 t9:AV)(H:ah):LC C [t3,t7,t8,t9] H=
 bo (bi .lss 3 t9 t8) λv10=>
 aY v10
 (bnd (ix 2 t7 t9 H) λv11 H=> bnd (lda 2 v11 H) λv12 H=> bnd (alc 99 [zP,zP] H) λv5 H=> bnd (st 2 v5 v12 H) λ_ H=>
  fld v5 0 H λv15 H=> bnd (C 58 [v15] H) λv16 H=> bo (bi .add 3 t3 v16) λv17=>
  bo (bi .add 3 t9 (I 1)) λv18=>
  LC C [v17,t7,t8,v18] H)
 (some (t3,H)):=
 lpE.trans (by kernel_rfl)
theorem an8:Rn1 21 ajR:=λ_ _ _ _ h=>
 rnG ajQ Tryz.func21 (by kernel_rfl) (by kernel_rfl) h
def an9:Ann:=⟨[],[(2,rF 13 []),(4,rF 16 [])],[]⟩
def acp(C:aC)(a0 a1:AV)(H:ah):OA:=
 bnd (jD 68 a1 H) λv3 H=>
 fld v3 0 H λv7 H=>
 aY v7
 (bo (aB a0) λv9=> fld v9 0 H λv11 H=> fld v3 1 H λv13 H=> fld v3 2 H λv15 H=> fld v3 3 H λv17 H=> bnd (C 14 [v11,v13,v15,v17] H) λv18 H=> bo (bi .eql 48 v18 (I 0)) λv19=>
  some (v19,H))
 (fld v3 1 H λv22 H=> bnd (C 60 [a0,v22] H) λv23 H=>
  bo (bi .neq 35 v23 (.s (Go.Value.pointer none))) λv25=> gl v25 true (some v23) H λv27 H=> gl v25 true (some a0) H λv28 H=> gl v25 true (aB v28) H λv29 H=> gl v25 true (au v29 0) H λv30 H=> gdA (some v25) true (ld v30 H) H λv31 H=> gl v25 true (some a0) H λv32 H=> gl v25 true (aB v32) H λv33 H=> gl v25 true (au v33 1) H λv34 H=> gdA (some v25) true (ld v34 H) H λv35 H=> gdA (some v25) true (C 13 [v27,v31,v35] H) H λv36 H=> gl v25 true (bi .neq 3 v36 (I 0)) H λv37 H=> bo (dF v25 v37 (B false)) λv38=>
  some (v38,H))
theorem agX:Rn2 23 acp:=λ_ _ _ _ _ h=>
 rnG an9 Tryz.func23 (by kernel_rfl) (by kernel_rfl) h
def LD(C:aC)(t5:AV)(H:ah):OA:=
 some (t5,H)
def acr(C:aC)(a0 a1:AV)(H:ah):OA:=
 bo (bi .lss 3 a1 (I 1)) λv7=>
 aY v7
 (some ((I 0),H))
 (bo (bi .rem 3 a0 a1) λv10=>
  bo (bi .lss 3 v10 (I 0)) λv12=>
  aY v12
  (bo (bi .add 3 v10 a1) λv15=>
  LD C v15 H)
  (LD C v10 H))
theorem aoa:Rn2 33 acr:=λ_ _ _ _ _ h=>
 rnG an0 Tryz.func33 (by kernel_rfl) (by kernel_rfl) h
def ajS(C:aC)(a0 a1:AV)(H:ah):OA:=
 bnd (lnS a0 H) λv7 H=> bnd (fP (kR Tryz.prog false #[3,3] 3 [v7,a1]) H) λv9 H=> bo (slS 1 a0 none (some v9) none) λv10=> bnd (C 68 [v10] H) λv11 H=>
 some (v11,H)
theorem aob:Rn2 36 ajS:=λ_ _ _ _ _ h=>
 rnG an0 Tryz.func36 (by kernel_rfl) (by kernel_rfl) h
def agY(C:aC)(a0 a1:AV)(H:ah):OA:=
 bnd (lnS a0 H) λv7 H=> bo (bi .lss 3 a1 v7) λv8=>
 aY v8
 (bnd (ix 1 a0 a1 H) λv11 H=> bnd (ld v11 H) λv12 H=>
  some (v12,H))
 (some ((I 0),H))
theorem aoc:Rn2 37 agY:=λ_ _ _ _ _ h=>
 rnG an0 Tryz.func37 (by kernel_rfl) (by kernel_rfl) h
def ajT(C:aC)(a0:AV)(H:ah):OA:=
 bnd (fP (kR Tryz.prog true #[3,3] 3 [(I 0),a0]) H) λv4 H=> bo (bd 138 [(1,v4)]) λv5=> bnd (jD 138 v5 H) λv6 H=>
 some (v6,H)
theorem aod:Rn1 38 ajT:=λ_ _ _ _ h=>
 rnG an0 Tryz.func38 (by kernel_rfl) (by kernel_rfl) h
def ajU(C:aC)(a0:AV)(H:ah):OA:=
 bnd (fP (kR Tryz.prog true #[3,3] 3 [(I 0),a0]) H) λv4 H=> bo (bd 140 [(1,v4)]) λv5=> bnd (jD 140 v5 H) λv6 H=>
 some (v6,H)
theorem aoe:Rn1 39 ajU:=λ_ _ _ _ h=>
 rnG an0 Tryz.func39 (by kernel_rfl) (by kernel_rfl) h
def ajV(C:aC)(a0 a1:AV)(H:ah):OA:=
 bnd (fP (kR Tryz.prog true #[3,3] 3 [(I 1),a0]) H) λv6 H=> bnd (fP (kR Tryz.prog true #[3,3] 3 [(I 1),a1]) H) λv8 H=> bo (bd 143 [(1,v6),(2,v8)]) λv9=> bnd (jD 143 v9 H) λv10 H=>
 some (v10,H)
theorem aof:Rn2 40 ajV:=λ_ _ _ _ _ h=>
 rnG an0 Tryz.func40 (by kernel_rfl) (by kernel_rfl) h
def ajW(C:aC)(a0:AV)(H:ah):OA:=
 bnd (C 69 [a0] H) λv4 H=> bo (bd 108 [(0,v4)]) λv5=> bnd (jD 108 v5 H) λv6 H=>
 some (v6,H)
theorem aog:Rn1 41 ajW:=λ_ _ _ _ h=>
 rnG an0 Tryz.func41 (by kernel_rfl) (by kernel_rfl) h
def aoh:Ann:=⟨[],[(1,some false::some false::some true::some true::rF 5 [])],[]⟩
def ajX(C:aC)(a0 a1:AV)(H:ah):OA:=
 bnd (jD 26 a0 H) λv2 H=>
 bnd (lda 8 v2 H) λv5 H=> bnd (unG H (C 70 [v5,a1] H.guard)) λv7 H=> bnd (unG H (C 71 [] H.guard)) λv8 H=> bnd (lda 8 v2 H) λv9 H=> bo (bd 150 [(0,v7),(1,v8),(2,v9),(3,a1)]) λv11=> bnd (jD 150 v11 H) λv12 H=>
 some (v12,H)
theorem aoi:Rn2 42 ajX:=λ_ _ _ _ _ h=>
 rnG aoh Tryz.func42 (by kernel_rfl) (by kernel_rfl) h
def GR(C:aC)(t0 t1:AV)(H:ah):OA:=
 bnd (C 77 [t0,t1] H) λv81 H=>
 some ((B true),H)
def LG(C:aC)(a0 a1 a2:AV)(H:ah):OA:=
 bo (aB a0) λv17=> fld v17 10 H λv19 H=> bnd (C 72 [a1,v19] H) λv20 H=> bo (aK v20 0) λv21=> bo (aK v20 1) λv22=> bnd (alc 112 [zI,zI,zI,zI,zI,zI,zI,zB,zN] H) λv7 H=> bnd (st 9 v7 v21 H) λ_ H=>
 bo (un .not v22) λv24=>
 aY v24
 (some ((B false),H))
 (bnd (lda 9 v7 H) λv27 H=> bnd (C 73 [a0,v27] H) λv28 H=> bo (aK v28 0) λv29=> bo (aK v28 1) λv30=> bnd (alc 44 [zI,zI,zI,zI,zI,zI,zN,zI,zI] H) λv9 H=> bnd (st 9 v9 v29 H) λ_ H=>
  bo (un .not v30) λv32=>
  aY v32
  (some ((B true),H))
  (bnd (lda 9 v9 H) λv34 H=> bo (aB a0) λv35=> bo (au v35 12) λv36=> bnd (st 9 v36 v34 H) λ_ H=>
  bo (aB a0) λv39=> fld v39 1 H λv41 H=> bnd (C 74 [v41] H) λv42 H=> bo (aK v42 0) λv43=> bo (aK v42 1) λv44=> bo (aK v42 2) λv45=> bnd (alc 53 [zI,zI,zI] H) λv11 H=> bnd (st 3 v11 v43 H) λ_ H=>
  fld v9 3 H λv48 H=> bo (bi .eql 3 v48 (I 0)) λv49=> gl v49 true (au v9 0) H λv51 H=> gdA (some v49) true (ld v51 H) H λv52 H=> gl v49 true (bi .eql 3 v52 (I 3)) H λv53 H=> bo (dF v49 v53 (B false)) λv54=> gl v54 true (au v11 0) H λv56 H=> gdA (some v54) true (ld v56 H) H λv57 H=> gl v54 true (bi .eql 3 v57 (I 4)) H λv58 H=> bo (dF v54 v58 (B false)) λv59=>
  aY v59
  (bnd (C 75 [a0,a2,(I 0)] H) λv62 H=>
   some ((B true),H))
  (fld v9 3 H λv65 H=> bo (bi .eql 3 v65 (I 0)) λv66=>
   aY v66
   (some ((B true),H))
   (fld v9 3 H λv69 H=> bo (bi .eql 3 v69 (I 6)) λv70=> gl v70 true (au v9 0) H λv72 H=> gdA (some v70) true (ld v72 H) H λv73 H=> gl v70 true (bi .neq 3 v73 (I 3)) H λv74 H=> bo (dF v70 v74 (B false)) λv75=>
   aY v75
   (bnd (C 76 [a0,a2] H) λv78 H=>
    GR C a0 a1 H)
   (GR C a0 a1 H)))))
theorem WE:Rn3 43 LG:=λ_ _ _ _ _ _ h=>
 rnG an0 Tryz.func43 (by kernel_rfl) (by kernel_rfl) h
def acs(C:aC)(a0 a1:AV)(H:ah):OA:=
 bo (aB a0) λv8=> bo (au v8 11) λv9=> fld v9 0 H λv11 H=> bnd (C 78 [v11] H) λv12 H=> bo (un .not v12) λv13=> gl v13 false (some a1) H λv15 H=> gl v13 false (some a0) H λv16 H=> gl v13 false (aB v16) H λv17 H=> gl v13 false (au v17 10) H λv18 H=> gdA (some v13) false (ld v18 H) H λv19 H=> gdA (some v13) false (C 79 [v15,v19,(B false)] H) H λv20 H=> gl v13 false (bi .eql 3 v20 (I 0)) H λv21 H=> bo (dF v13 (B true) v21) λv22=>
 aY v22
 (some ((B false),H))
 (bo (aB a0) λv25=> bo (au v25 11) λv26=> fld v26 0 H λv28 H=> bnd (C 80 [v28] H) λv29 H=> bo (aK v29 0) λv30=> bo (aK v29 1) λv31=> bnd (alc 112 [zI,zI,zI,zI,zI,zI,zI,zB,zN] H) λv5 H=> bnd (st 9 v5 v30 H) λ_ H=>
  bnd (lda 9 v5 H) λv33 H=> bnd (C 81 [a1,v33] H) λv34 H=>
  some ((B true),H))
theorem agZ:Rn2 44 acs:=λ_ _ _ _ _ h=>
 rnG an0 Tryz.func44 (by kernel_rfl) (by kernel_rfl) h
def LH(C:aC)(H:ah):OA:=
 some ((B true),H)
def Y8(C:aC)(a0 a1:AV)(H:ah):OA:=
 bo (aB a0) λv11=> fld v11 10 H λv13 H=> bnd (C 79 [a1,v13,(B false)] H) λv14 H=> bo (bi .eql 3 v14 (I 0)) λv15=>
 aY v15
 (some ((B false),H))
 (bo (aB a0) λv19=> fld v19 10 H λv21 H=> bnd (C 82 [a1,v21] H) λv22 H=> bo (aK v22 0) λv23=> bo (aK v22 1) λv24=> bnd (alc 112 [zI,zI,zI,zI,zI,zI,zI,zB,zN] H) λv5 H=> bnd (st 9 v5 v23 H) λ_ H=>
  bo (un .not v24) λv26=>
  aY v26
  (some ((B false),H))
  (bnd (lda 9 v5 H) λv29 H=> bnd (C 83 [a0,v29] H) λv30 H=> bo (aK v30 0) λv31=> bo (aK v30 1) λv32=> bnd (alc 112 [zI,zI,zI,zI,zI,zI,zI,zB,zN] H) λv7 H=> bnd (st 9 v7 v31 H) λ_ H=>
  aY v32
  (bnd (lda 9 v7 H) λv35 H=> bnd (C 81 [a1,v35] H) λv36 H=>
   LH C H)
  (LH C H)))
theorem acu:Rn2 45 Y8:=λ_ _ _ _ _ h=>
 rnG an0 Tryz.func45 (by kernel_rfl) (by kernel_rfl) h
def aoj:Ann:=⟨[],[(7,rF 12 [])],[]⟩
def lZ(C:aC)(H:ah):OA:=
 some ((B true),H)
def pG(C:aC)(t0 t1 t2 t7:AV)(H:ah):OA:=
 bo (aB t0) λv55=> bo (au v55 2) λv56=> bnd (lda 8 v56 H) λv57 H=> fld t7 1 H λv59 H=> bnd (C 86 [v57,v59] H) λv60 H=> bo (aK v60 0) λv61=> bo (aK v60 1) λv62=>
 bo (aB t0) λv65=> fld v65 0 H λv67 H=> bnd (C 87 [v67,v61] H) λv69 H=> bo (aK v69 0) λv70=> bo (aK v69 1) λv71=> bnd (alc 166 [zI,zI,zI,zI,zB,zN] H) λv12 H=> bnd (st 6 v12 v70 H) λ_ H=>
 fld t7 0 H λv78 H=> bo (bi .eql 3 v78 (I 4)) λv79=> gl v79 true (some v71) H λv81 H=> gl v79 true (un .not v81) H λv82 H=> bo (dF v79 v82 (B false)) λv83=>
 aY v83
 (bnd (C 75 [t0,t2,(I 0)] H) λv86 H=>
  lZ C H)
 (fld t7 0 H λv89 H=> bo (bi .eql 3 v89 (I 4)) λv90=>
  aY v90
  (bnd (C 88 [t0,t1,(I 3),v61] H) λv94 H=>
  lZ C H)
  (gl v71 true (au t7 0) H λv98 H=> gdA (some v71) true (ld v98 H) H λv99 H=> gl v71 true (bi .eql 3 v99 (I 1)) H λanT H=> gl v71 true (some anT) H λagV H=> gl agV false (au v12 4) H λanU H=> gdA (some agV) false (ld anU H) H λaeU H=> gl v71 true (dF agV (B true) aeU) H λanV H=> bo (dF v71 anV (B false)) λv105=>
  aY v105
  (bo (aB t0) λv107=> fld v107 0 H λv109 H=> bnd (C 89 [v109,v61] H) λapW H=>
   bnd (C 76 [t0,t2] H) λapX H=>
   lZ C H)
  (bo (aB t0) λv117=> fld v117 0 H λaqF H=> bnd (C 90 [aqF,v61] H) λaqG H=>
   aY aqG
   (bo (aB t0) λv124=> fld v124 0 H λanW H=> bnd (C 91 [anW,v61] H) λajI H=> bo (aK ajI 0) λaqH=> bo (aK ajI 1) λv130=>
   bnd (C 88 [t0,t1,(I 3),aqH] H) λarq H=>
   lZ C H)
   (fld t7 0 H λaqI H=> bo (bi .eql 3 aqI (I 1)) λv138=>
   aY v138
   (bnd (C 88 [t0,t1,(I 1),v61] H) λars H=>
    lZ C H)
   (bnd (C 88 [t0,t1,(I 2),v61] H) λv75 H=>
    lZ C H)))))
def Y9(C:aC)(a0 a1 a2:AV)(H:ah):OA:=
 bo (aB a0) λv18=> fld v18 1 H λv20 H=> bnd (C 74 [v20] H) λv21 H=> bo (aK v21 0) λv22=> bo (aK v21 1) λv23=> bo (aK v21 2) λv24=> bnd (alc 53 [zI,zI,zI] H) λv7 H=> bnd (st 3 v7 v22 H) λ_ H=>
 bo (un .not v24) λv26=> gl v26 false (some a0) H λv28 H=> gl v26 false (aB v28) H λv29 H=> gl v26 false (au v29 12) H λv30 H=> gl v26 false (au v30 3) H λv31 H=> gdA (some v26) false (ld v31 H) H λv32 H=> gl v26 false (bi .neq 3 v32 (I 0)) H λv33 H=> bo (dF v26 (B true) v33) λv34=>
 aY v34
 (some ((B false),H))
 (bo (aB a0) λv36=> fld v36 1 H λv38 H=> bnd (C 63 [v38] H) λv39 H=> bo (un .not v39) λv40=>
  aY v40
  (bo (aB a0) λv42=> fld v42 1 H λv44 H=> bnd (C 84 [v44] H) λv45 H=>
  bo (aB a0) λv48=> fld v48 10 H λv50 H=> bnd (C 85 [a2,v50,v23] H) λv52 H=>
  pG C a0 a1 a2 v7 H)
  (pG C a0 a1 a2 v7 H))
theorem acv:Rn3 46 Y9:=λ_ _ _ _ _ _ h=>
 rnG aoj Tryz.func46 (by kernel_rfl) (by kernel_rfl) h
def ag0(C:aC)(a0 a1:AV)(H:ah):OA:=
 bnd (alc 112 [zI,zI,zI,zI,zI,zI,zI,zB,zN] H) λv4 H=>
 bnd (C 52 [a0,a1] H) λv12 H=> bo (aK v12 0) λv13=> bo (aK v12 1) λv14=> bo (aK v12 2) λv15=> bnd (alc 99 [zP,zP] H) λv6 H=> bnd (st 2 v6 v13 H) λ_ H=>
 bo (un .not v15) λv17=> gl v17 false (some a1) H λv19 H=> gl v17 false (bi .lss 3 v19 (I 0)) H λv20 H=> bo (dF v17 (B true) v20) λv21=>
 aY v21
 (bo (bd 112 []) λv22=> bnd (st 9 v4 v22 H) λ_ H=>
  bnd (lda 9 v4 H) λr0 _=> some (.tup [r0,(B false)],H))
 (fld v6 0 H λv24 H=> bnd (C 92 [v24,v14] H) λv26 H=> bo (aK v26 0) λv27=> bo (aK v26 1) λv28=> bnd (st 9 v4 v27 H) λ_ H=>
  bnd (lda 9 v4 H) λr0 _=> some (.tup [r0,v28],H))
theorem aok:Rn2 47 ag0:=λ_ _ _ _ _ h=>
 rnG an0 Tryz.func47 (by kernel_rfl) (by kernel_rfl) h
def ag1(C:aC)(a0 a1 a2:AV)(H:ah):OA:=
 bnd (jD 112 a0 H) λv3 H=> bnd (alc 112 [zI,zI,zI,zI,zI,zI,zI,zB,zN] H) λv6 H=>
 bnd (lda 9 v3 H) λv11 H=> bnd (C 93 [v11] H) λv12 H=> bo (aK v12 0) λv13=> bo (aK v12 1) λv14=>
 bo (bi .neq 48 v14 (I 0)) λv16=>
 aY v16
 (bo (bd 112 []) λv17=> bnd (st 9 v6 v17 H) λ_ H=>
  bnd (lda 9 v6 H) λr0 _=> some (.tup [r0,(I 2)],H))
 (bnd (C 95 [v13,a1,a2] H) λv21 H=> bnd (C 94 [v21] H) λv22 H=> bo (aK v22 0) λv23=> bo (aK v22 1) λv24=> bnd (st 9 v6 v23 H) λ_ H=>
  bnd (lda 9 v6 H) λr0 _=> some (.tup [r0,v24],H))
theorem ajY:Rn3 48 ag1:=λ_ _ _ _ _ _ h=>
 rnG an0 Tryz.func48 (by kernel_rfl) (by kernel_rfl) h
def ag2(C:aC)(a0 a1:AV)(H:ah):OA:=
 bnd (jD 101 a0 H) λv2 H=> bnd (alc 99 [zP,zP] H) λv4 H=>
 aY a1
 (bo (au v2 0) λv6=> bnd (lda 2 v6 H) λv7 H=> bnd (st 2 v4 v7 H) λ_ H=>
  bnd (lda 2 v4 H) λr0 _=> some (r0,H))
 (bo (au v2 2) λv8=> bnd (lda 2 v8 H) λv9 H=> bnd (st 2 v4 v9 H) λ_ H=>
  bnd (lda 2 v4 H) λr0 _=> some (r0,H))
theorem aol:Rn2 49 ag2:=λ_ _ _ _ _ h=>
 rnG an0 Tryz.func49 (by kernel_rfl) (by kernel_rfl) h
def ag3(C:aC)(a0:AV)(H:ah):OA:=
 bo (bi .geq 3 a0 (I 1)) λv4=> gl v4 true (some a0) H λv6 H=> gl v4 true (bi .leq 3 v6 (I 6)) H λv7 H=> bo (dF v4 v7 (B false)) λv8=>
 some (v8,H)
theorem aom:Rn1 50 ag3:=λ_ _ _ _ h=>
 rnG an0 Tryz.func50 (by kernel_rfl) (by kernel_rfl) h
def aon:Ann:=⟨[],[(3,rF 6 (some true::rF 5 []))],[]⟩
def ag4(C:aC)(a0 a1:AV)(H:ah):OA:=
 bnd (jD 112 a1 H) λv3 H=>
 bnd (C 96 [a0] H) λv6 H=> bo (bi .eql 3 v6 (I 0)) λv7=>
 aY v7
 (some ((I 5),H))
 (bo (aB a0) λv10=> fld v10 0 H λv12 H=> bnd (lda 9 v3 H) λv13 H=> bnd (unG H (C 97 [v13] H.guard)) λv14 H=> bnd (bs 136 1 [(0,v14)] H) λv15 H=> bnd (app 112 9 88 v12 v15 H) λv16 H=> bo (aB a0) λv17=> bo (au v17 0) λv18=> bnd (st 1 v18 v16 H) λ_ H=>
  some ((I 0),H))
theorem ajZ:Rn2 51 ag4:=λ_ _ _ _ _ h=>
 rnG aon Tryz.func51 (by kernel_rfl) (by kernel_rfl) h
def aj0:Ann:=⟨[(3,[1,4,10,11,12])],[],[]⟩
def LJ:=qx Tryz.prog Tryz.f52 34 aj0 0
def WG(C:aC)(a0 a1:AV)(H:ah):OA:=
 bnd (alc 99 [zP,zP] H) λv4 H=>
 bnd (C 57 [a0] H) λv10 H=> bnd (lnS v10 H) λv11 H=>
 LJ C [a1,v4,v10,v11,(I 0)] H
theorem Za(C:aC)(t1 t4 t10 t11 t12:AV)(H:ah):LJ C [t1,t4,t10,t11,t12] H=
 bo (bi .lss 3 t12 t11) λv13=>
 aY v13
 (bnd (ix 2 t10 t12 H) λv14 H=> bnd (lda 2 v14 H) λv15 H=> bnd (alc 99 [zP,zP] H) λv8 H=> bnd (st 2 v8 v15 H) λ_ H=>
  bo (bi .geq 3 t1 (I 0)) λv17=> gl v17 true (some t1) H λv19 H=> gl v17 true (au v8 0) H λv20 H=> gdA (some v17) true (ld v20 H) H λv21 H=> gdA (some v17) true (C 58 [v21] H) H λv22 H=> gl v17 true (bi .lss 3 v19 v22) H λv23 H=> bo (dF v17 v23 (B false)) λv24=>
  aY v24
  (bnd (lda 2 v8 H) λv25 H=> bnd (st 2 t4 v25 H) λ_ H=>
  bnd (lda 2 t4 H) λr0 _=> some (.tup [r0,t1,(B true)],H))
  (fld v8 0 H λv29 H=> bnd (C 58 [v29] H) λv30 H=> bo (bi .sub 3 t1 v30) λv31=>
  bo (bi .add 3 t12 (I 1)) λv32=>
  LJ C [v31,t4,t10,t11,v32] H))
 (bo (bd 99 []) λv33=> bnd (st 2 t4 v33 H) λ_ H=>
  bnd (lda 2 t4 H) λr0 _=> some (.tup [r0,(I 0),(B false)],H)):=
 lpE.trans (by kernel_rfl)
theorem aoo:Rn2 52 WG:=λ_ _ _ _ _ h=>
 rnG aj0 Tryz.func52 (by kernel_rfl) (by kernel_rfl) h
def Sr(C:aC)(t4 t6 t7:AV)(H:ah):OA:=
 bnd (lda 9 t6 H) λv26 H=> bnd (st 9 t4 v26 H) λ_ H=>
 bnd (lda 9 t4 H) λr0 _=> some (.tup [r0,t7],H)
def aj1(C:aC)(a0 a1:AV)(H:ah):OA:=
 bnd (alc 112 [zI,zI,zI,zI,zI,zI,zI,zB,zN] H) λv4 H=>
 bnd (C 92 [a0,a1] H) λv11 H=> bo (aK v11 0) λv12=> bo (aK v11 1) λv13=> bnd (alc 112 [zI,zI,zI,zI,zI,zI,zI,zB,zN] H) λv6 H=> bnd (st 9 v6 v12 H) λ_ H=>
 aY v13
 (bo (aB a0) λv17=> fld v17 0 H λv19 H=> bo (bi .add 3 a1 (I 1)) λv22=> bnd (C 98 [v19,a1,v22] H) λv23 H=> bo (aB a0) λv24=> bo (au v24 0) λv25=> bnd (st 1 v25 v23 H) λ_ H=>
  Sr C v4 v6 v13 H)
 (Sr C v4 v6 v13 H)
theorem aop:Rn2 53 aj1:=λ_ _ _ _ _ h=>
 rnG an0 Tryz.func53 (by kernel_rfl) (by kernel_rfl) h
def Pm(C:aC)(a0:AV)(H:ah):OA:=
 bo (bi .eql 22 a0 (.s (Go.Value.slice none 0 0))) λv4=>
 aY v4
 (some ((.s (Go.Value.slice none 0 0)),H))
 (bnd (bs 22 0 [] H) λv5 H=> bnd (app 3 1 8 v5 a0 H) λv7 H=>
  some (v7,H))
theorem SA:Rn1 55 Pm:=λ_ _ _ _ h=>
 rnG an0 Tryz.func55 (by kernel_rfl) (by kernel_rfl) h
def aj2(C:aC)(H:ah):OA:=
 bnd (alc 26 [zI,zI,zI,zI,zI,zI,zI,zN] H) λv0 H=>
 bnd (bs 22 1 [(0,(I 5))] H) λv1 H=> bo (bd 26 [(0,(I 1)),(1,(I 1)),(2,(I 1)),(3,(I 1)),(4,(I 1)),(5,(I 1)),(6,(I 1)),(7,v1)]) λv2=> bnd (st 8 v0 v2 H) λ_ H=>
 bnd (lda 8 v0 H) λr0 _=> some (r0,H)
theorem aoq:Rn0 56 aj2:=λ_ _ _ h=>
 rnG an0 Tryz.func56 (by kernel_rfl) (by kernel_rfl) h
def aj3:Ann:=⟨[(4,[3,9,10,11])],[],[]⟩
def LK:=qx Tryz.prog Tryz.f57 24 aj3 0
def aj6(C:aC)(a0:AV)(H:ah):OA:=
 bo (aB a0) λv7=> fld v7 0 H λv9 H=> bnd (lnS v9 H) λv10 H=>
 LK C [(.s (Go.Value.slice none 0 0)),v9,v10,(I 0)] H
theorem Zb(C:aC)(t3 t9 t10 t11:AV)(H:ah):LK C [t3,t9,t10,t11] H=
 bo (bi .lss 3 t11 t10) λv12=>
 aY v12
 (bnd (ix 4 t9 t11 H) λv13 H=> bnd (lda 4 v13 H) λv14 H=> bnd (alc 101 [zP,zP,zP,zP] H) λv5 H=> bnd (st 4 v5 v14 H) λ_ H=>
  bo (au v5 0) λv16=> bnd (lda 2 v16 H) λv17 H=> bo (au v5 2) λv18=> bnd (lda 2 v18 H) λv19 H=> bnd (bs 124 2 [(0,v17),(1,v19)] H) λv20 H=> bnd (app 99 2 16 t3 v20 H) λv21 H=>
  bo (bi .add 3 t11 (I 1)) λv22=>
  LK C [v21,t9,t10,v22] H)
 (some (t3,H)):=
 lpE.trans (by kernel_rfl)
theorem aor:Rn1 57 aj6:=λ_ _ _ _ h=>
 rnG aj3 Tryz.func57 (by kernel_rfl) (by kernel_rfl) h
def aj7(C:aC)(a0:AV)(H:ah):OA:=
 bo (aB a0) λv4=> fld v4 0 H λv6 H=> bnd (lnS v6 H) λv7 H=>
 some (v7,H)
theorem aos:Rn1 58 aj7:=λ_ _ _ _ h=>
 rnG an0 Tryz.func58 (by kernel_rfl) (by kernel_rfl) h
def acw(C:aC)(a0 a1:AV)(H:ah):OA:=
 bo (bi .lss 3 a1 (I 0)) λv6=> gl v6 false (some a1) H λv8 H=> gl v6 false (some a0) H λv9 H=> gl v6 false (aB v9) H λv10 H=> gl v6 false (au v10 10) H λv11 H=> gdA (some v6) false (ld v11 H) H λv12 H=> gdA (some v6) false (lnS v12 H) H λv13 H=> gl v6 false (bi .geq 3 v8 v13) H λv14 H=> bo (dF v6 (B true) v14) λv15=>
 aY v15
 (some ((.s (Go.Value.pointer none)),H))
 (bo (aB a0) λv17=> fld v17 10 H λv19 H=> bnd (ix 1 v19 a1 H) λv21 H=> bnd (ld v21 H) λv22 H=>
  some (v22,H))
theorem aot:Rn2 60 acw:=λ_ _ _ _ _ h=>
 rnG an0 Tryz.func60 (by kernel_rfl) (by kernel_rfl) h
def aj8(C:aC)(a0:AV)(H:ah):OA:=
 bo (aB a0) λv4=> fld v4 2 H λv6 H=>
 some (v6,H)
theorem aou:Rn1 63 aj8:=λ_ _ _ _ h=>
 rnG an0 Tryz.func63 (by kernel_rfl) (by kernel_rfl) h
def ag5(C:aC)(a0:AV)(H:ah):OA:=
 bnd (app 3 1 8 (.s (Go.Value.slice none 0 0)) a0 H) λv4 H=>
 some (v4,H)
theorem aj9:Rn1 68 ag5:=λ_ _ _ _ h=>
 rnG an0 Tryz.func68 (by kernel_rfl) (by kernel_rfl) h
def ag6(C:aC)(a0:AV)(H:ah):OA:=
 bo (bi .eql 28 a0 (.s (Go.Value.slice none 0 0))) λv4=>
 aY v4
 (some ((.s (Go.Value.slice none 0 0)),H))
 (bnd (bs 28 0 [] H) λv5 H=> bnd (app 53 3 24 v5 a0 H) λv7 H=>
  some (v7,H))
theorem akb:Rn1 69 ag6:=λ_ _ _ _ h=>
 rnG an0 Tryz.func69 (by kernel_rfl) (by kernel_rfl) h
def akc:Ann:=⟨[(4,[1,2,5,12,13])],[(6,rF 7 (some true::some false::some false::[]))],[]⟩
def LM:=qx Tryz.prog Tryz.f70 32 akc 0
def LP(C:aC)(t1 t2 t5 t12 t13:AV)(H:ah):OA:=
 bo (bi .add 3 t13 (I 1)) λv30=>
 LM C [t1,t2,t5,t12,v30] H
def akd(C:aC)(a0 a1:AV)(H:ah):OA:=
 bnd (jD 26 a0 H) λv2 H=>
 bnd (lda 8 v2 H) λv7 H=> bnd (mkm .i64 H) λv8 H=> bo (bd 196 [(0,v7),(1,v8)]) λv9=> bnd (jD 196 v9 H) λv10 H=>
 fld v2 1 H λv12 H=>
 LM C [a1,v2,v10,v12,(I 0)] H
theorem Zc(C:aC)(t1 t2 t5 t12 t13:AV)(H:ah):LM C [t1,t2,t5,t12,t13] H=
 bo (bi .lss 3 t13 t12) λv14=>
 aY v14
 (bnd (lda 8 t2 H) λv16 H=> bnd (C 111 [v16,t13] H) λv18 H=> bo (bi .eql 3 v18 t1) λv20=>
  aY v20
  (bo (aB t5) λv22=> fld v22 8 H λv24 H=> bnd (lda 8 t2 H) λv26 H=> bnd (unG H (C 112 [v26,t13] H.guard)) λv28 H=> bo (bd 199 [(0,(I 0)),(1,(I (-1))),(2,v28)]) λv29=> bnd (mup .i64 v24 t13 v29 H) λ_ H=>
  LP C t1 t2 t5 t12 t13 H)
  (LP C t1 t2 t5 t12 t13 H))
 (some (t5,H)):=
 lpE.trans (by kernel_rfl)
theorem aov:Rn2 70 akd:=λ_ _ _ _ _ h=>
 rnG akc Tryz.func70 (by kernel_rfl) (by kernel_rfl) h
def ake(C:aC)(H:ah):OA:=
 bnd (mkm .i64 H) λv1 H=> bnd (mkm .i64 H) λv2 H=> bo (bd 203 [(0,v1),(1,v2)]) λv3=> bnd (jD 203 v3 H) λv4 H=>
 some (v4,H)
theorem aow:Rn0 71 ake:=λ_ _ _ h=>
 rnG an0 Tryz.func71 (by kernel_rfl) (by kernel_rfl) h
def akf(C:aC)(a0 a1:AV)(H:ah):OA:=
 bnd (alc 112 [zI,zI,zI,zI,zI,zI,zI,zB,zN] H) λv4 H=>
 bnd (C 113 [a0,a1,(B false)] H) λv8 H=> bo (aK v8 0) λv9=> bo (aK v8 1) λv10=> bnd (st 9 v4 v9 H) λ_ H=>
 bnd (lda 9 v4 H) λr0 _=> some (.tup [r0,v10],H)
theorem aox:Rn2 72 akf:=λ_ _ _ _ _ h=>
 rnG an0 Tryz.func72 (by kernel_rfl) (by kernel_rfl) h
def aoy:Ann:=⟨[],[(3,rF 18 []),(5,rF 18 []),(7,rF 18 [])],[]⟩
def Zd(C:aC)(a0 a1:AV)(H:ah):OA:=
 bnd (jD 112 a1 H) λv3 H=> bnd (alc 44 [zI,zI,zI,zI,zI,zI,zN,zI,zI] H) λv4 H=>
 bo (aB a0) λv7=> bo (au v7 12) λv8=> fld v8 0 H λv10 H=>
 bo (bi .eql 3 v10 (I 1)) λv12=>
 aY v12
 (bo (aB a0) λv14=> bo (au v14 12) λv15=> bnd (lda 9 v15 H) λv16 H=> bo (aB a0) λv18=> fld v18 10 H λv20 H=> bo (aB a0) λv22=> fld v22 0 H λv24 H=> bnd (lda 9 v3 H) λv25 H=> bnd (C 114 [v16,v20,v24,v25] H) λv26 H=> bo (aK v26 0) λv27=> bo (aK v26 1) λv28=> bnd (st 9 v4 v27 H) λ_ H=>
  bnd (lda 9 v4 H) λr0 _=> some (.tup [r0,v28],H))
 (bo (bi .eql 3 v10 (I 2)) λv30=>
  aY v30
  (bo (aB a0) λv32=> bo (au v32 12) λv33=> bnd (lda 9 v33 H) λv34 H=> bo (aB a0) λv36=> fld v36 10 H λv38 H=> bo (aB a0) λv40=> fld v40 0 H λv42 H=> bnd (lda 9 v3 H) λv43 H=> bnd (C 115 [v34,v38,v42,v43] H) λv44 H=> bo (aK v44 0) λv45=> bo (aK v44 1) λv46=> bnd (st 9 v4 v45 H) λ_ H=>
  bnd (lda 9 v4 H) λr0 _=> some (.tup [r0,v46],H))
  (bo (bi .eql 3 v10 (I 3)) λv48=>
  aY v48
  (bo (aB a0) λv50=> bo (au v50 12) λv51=> bnd (lda 9 v51 H) λv52 H=> bo (aB a0) λv54=> fld v54 10 H λv56 H=> bo (aB a0) λv58=> fld v58 0 H λv60 H=> bnd (lda 9 v3 H) λv61 H=> bnd (C 116 [v52,v56,v60,v61] H) λv62 H=> bo (aK v62 0) λv63=> bo (aK v62 1) λv64=> bnd (st 9 v4 v63 H) λ_ H=>
   bnd (lda 9 v4 H) λr0 _=> some (.tup [r0,v64],H))
  (bo (bd 44 []) λv65=> bnd (st 9 v4 v65 H) λ_ H=>
   bnd (lda 9 v4 H) λr0 _=> some (.tup [r0,(B false)],H))))
theorem acy:Rn2 73 Zd:=λ_ _ _ _ _ h=>
 rnG aoy Tryz.func73 (by kernel_rfl) (by kernel_rfl) h
def aoz:Ann:=⟨[],[(3,rF 19 [])],[(3,[(14,16),(15,16)])]⟩
def ag7(C:aC)(a0:AV)(H:ah):OA:=
 bnd (alc 53 [zI,zI,zI] H) λv2 H=>
 bnd (C 12 [a0] H) λv6 H=> bo (bi .eql 3 v6 (I 0)) λv7=>
 aY v7
 (bo (bd 53 []) λv8=> bnd (st 3 v2 v8 H) λ_ H=>
  bnd (lda 3 v2 H) λr0 _=> some (.tup [r0,(I 0),(B false)],H))
 (bo (aB a0) λv10=> fld v10 0 H λv12 H3=> bo (aB a0) λv14=> fld v14 1 H3 λv16 H7=> bnd (lnS v16 H7) λv17 H8=> bnd (ix 3 v12 v17 H8) λv18 H9=> bnd (lda 3 v18 H9) λv19 H10=> bo (aB a0) λv21=> bo (au v21 1) λv22=> bnd (ld v22 H10) λv23 H14=> bnd (lnS v23 H14) λv24 H15=> bnd (st 3 v2 v19 H15) λ_ H16=> ck (bQ v22) H15 H16 <| ck (bQ v23) H15 H16 <|
  bnd (lda 3 v2 H16) λr0 _=> some (.tup [r0,v24,(B true)],H16))
theorem aoA:Rn1 74 ag7:=λ_ _ _ _ h=>
 rnG aoz Tryz.func74 (by kernel_rfl) (by kernel_rfl) h
def akg(C:aC)(a0 a1 a2:AV)(H:ah):OA:=
 bo (aB a0) λv11=> fld v11 1 H λv13 H=> bnd (C 74 [v13] H) λv14 H=> bo (aK v14 0) λv15=> bo (aK v14 1) λv16=> bo (aK v14 2) λv17=> bnd (alc 53 [zI,zI,zI] H) λv6 H=> bnd (st 3 v6 v15 H) λ_ H=>
 bo (aB a0) λv19=> fld v19 1 H λv21 H=> bnd (C 117 [v21,a2] H) λv23 H=>
 bo (aB a0) λv26=> fld v26 10 H λv28 H=> bnd (C 118 [a1,v28,v16,a2] H) λv31 H=>
 some (.tup [],H)
theorem aoB:Rn3 75 akg:=λ_ _ _ _ _ _ h=>
 rnG an0 Tryz.func75 (by kernel_rfl) (by kernel_rfl) h
def aoC:Ann:=⟨[],[(1,rF 12 []),(9,rF 6 [])],[]⟩
def LQ(C:aC)(t0 t1 t11:AV)(H:ah):OA:=
 bnd (C 75 [t0,t1,t11] H) λv71 H=>
 some (.tup [],H)
def yZ(C:aC)(t0 t1 t4 t9 t11:AV)(H:ah):OA:=
 bo (aB t0) λv60=> fld v60 0 H λv62 H=> bnd (lda 6 t9 H) λv63 H=> bnd (C 121 [v62,v63] H) λv64 H=>
 fld t4 0 H λv66 H=> bo (bi .eql 3 v66 (I 2)) λv67=>
 aY v67
 (LQ C t0 t1 (I 0) H)
 (LQ C t0 t1 t11 H)
def acz(C:aC)(a0 a1:AV)(H:ah):OA:=
 bo (aB a0) λv14=> fld v14 1 H λv16 H=> bnd (C 74 [v16] H) λv17 H=> bo (aK v17 0) λv18=> bo (aK v17 1) λv19=> bo (aK v17 2) λv20=> bnd (alc 53 [zI,zI,zI] H) λv4 H=> bnd (st 3 v4 v18 H) λ_ H=>
 bo (aB a0) λv23=> bo (au v23 2) λv24=> bnd (lda 8 v24 H) λv25 H=> fld v4 1 H λv27 H=> bnd (C 86 [v25,v27] H) λv28 H=> bo (aK v28 0) λv29=> bo (aK v28 1) λv30=>
 bo (aB a0) λv33=> fld v33 0 H λv35 H=> bnd (C 87 [v35,v29] H) λv37 H=> bo (aK v37 0) λv38=> bo (aK v37 1) λv39=> bnd (alc 166 [zI,zI,zI,zI,zB,zN] H) λv9 H=> bnd (st 6 v9 v38 H) λ_ H=>
 bnd (lda 6 v9 H) λv40 H=> bnd (C 119 [v40,v30] H) λv42 H=>
 fld v4 0 H λv44 H=>
 bo (bi .eql 3 v44 (I 2)) λv46=>
 aY v46
 (fld v4 2 H λv49 H=> bnd (C 120 [v9,v30,v49] H) λv50 H=>
  yZ C a0 a1 v4 v9 v42 H)
 (bo (bi .eql 3 v44 (I 3)) λv52=>
  aY v52
  (fld v4 2 H λv56 H=> bo (bi .add 3 v42 v56) λv57=> bnd (C 120 [v9,v30,v57] H) λv58 H=>
  yZ C a0 a1 v4 v9 v42 H)
  (yZ C a0 a1 v4 v9 v42 H))
theorem ag8:Rn2 76 acz:=λ_ _ _ _ _ h=>
 rnG aoC Tryz.func76 (by kernel_rfl) (by kernel_rfl) h
def aoD:Ann:=⟨[],[(0,rF 18 (some true::some false::some false::[]))],[]⟩
def akh(C:aC)(a0 a1:AV)(H:ah):OA:=
 bo (aB a0) λv6=> bo (au v6 12) λv7=> bnd (lda 9 v7 H) λv8 H=> bo (aB a0) λv10=> fld v10 10 H λv12 H=> bo (aB a0) λv14=> bo (au v14 2) λv15=> bnd (lda 8 v15 H) λv16 H=> bo (aB a0) λv18=> bo (au v18 12) λv19=> fld v19 1 H λv21 H=> bnd (unG H (C 111 [v16,v21] H.guard)) λv22 H=> bnd (C 122 [v8,v12,v22] H) λv23 H=> bnd (C 81 [a1,v23] H) λv24 H=>
 some (.tup [],H)
theorem aoE:Rn2 77 akh:=λ_ _ _ _ _ h=>
 rnG aoD Tryz.func77 (by kernel_rfl) (by kernel_rfl) h
def ag9(C:aC)(a0:AV)(H:ah):OA:=
 bo (aB a0) λv4=> fld v4 1 H λv6 H=> bnd (C 123 [v6] H) λv7 H=> bnd (lnS v7 H) λv8 H=> bo (bi .gtr 3 v8 (I 0)) λv9=>
 some (v9,H)
theorem aoF:Rn1 78 ag9:=λ_ _ _ _ h=>
 rnG an0 Tryz.func78 (by kernel_rfl) (by kernel_rfl) h
def aha(C:aC)(a0 a1 a2:AV)(H:ah):OA:=
 bnd (C 103 [a0,a1] H) λv9 H=> bo (un .not v9) λv10=>
 aY v10
 (some ((I 0),H))
 (bo (aB a0) λv12=> fld v12 0 H λv14 H=> bnd (ix 4 v14 a1 H) λv16 H=> bnd (lda 4 v16 H) λv17 H=> bnd (C 49 [v17,a2] H) λv19 H=> bo (fl v19 0) λv20=> bnd (C 124 [v20] H) λv21 H=>
  some (v21,H))
theorem aoG:Rn3 79 aha:=λ_ _ _ _ _ _ h=>
 rnG an0 Tryz.func79 (by kernel_rfl) (by kernel_rfl) h
def aki:Ann:=⟨[(3,[0,2,13,14,15])],[],[]⟩
def SB:=qx Tryz.prog Tryz.f80 37 aki 0
def ahb(C:aC)(a0:AV)(H:ah):OA:=
 bnd (alc 112 [zI,zI,zI,zI,zI,zI,zI,zB,zN] H) λv2 H=>
 bo (aB a0) λv10=> fld v10 1 H λv12 H=> bnd (C 123 [v12] H) λv13 H=> bnd (lnS v13 H) λv14 H=>
 SB C [a0,v2,v13,v14,(I 0)] H
theorem Ze(C:aC)(t0 t2 t13 t14 t15:AV)(H:ah):SB C [t0,t2,t13,t14,t15] H=
 bo (bi .lss 3 t15 t14) λv16=>
 aY v16
 (bnd (ix 1 t13 t15 H) λv17 H=> bnd (ld v17 H) λv18 H=>
  bo (aB t0) λv21=> fld v21 1 H λv23 H=> bnd (C 125 [v23,v18] H) λv25 H=> bo (aK v25 0) λv26=> bo (aK v25 1) λv27=> bo (aK v25 2) λv28=>
  aY v28
  (bnd (C 126 [t0,v18,v26,v27] H) λv34 H=> bnd (st 9 t2 v34 H) λ_ H=>
  bnd (lda 9 t2 H) λr0 _=> some (.tup [r0,(B true)],H))
  (bo (bi .add 3 t15 (I 1)) λv35=>
  SB C [t0,t2,t13,t14,v35] H))
 (bo (bd 112 []) λv36=> bnd (st 9 t2 v36 H) λ_ H=>
  bnd (lda 9 t2 H) λr0 _=> some (.tup [r0,(B false)],H)):=
 lpE.trans (by kernel_rfl)
theorem aoH:Rn1 80 ahb:=λ_ _ _ _ h=>
 rnG aki Tryz.func80 (by kernel_rfl) (by kernel_rfl) h
def aoI:Ann:=⟨[],[(3,rF 10 (some true::some true::rF 4 []))],[]⟩
def Zf(C:aC)(a0 a1:AV)(H:ah):OA:=
 bnd (jD 112 a1 H) λv3 H=>
 bnd (lda 9 v3 H) λv5 H=> bnd (C 127 [v5] H) λv6 H=> bo (bi .neq 48 v6 (I 0)) λv7=> gl v7 false (some a0) H λv9 H=> gl v7 false (au v3 1) H λv10 H=> gdA (some v7) false (ld v10 H) H λv11 H=> gdA (some v7) false (C 103 [v9,v11] H) H λv12 H=> gl v7 false (un .not v12) H λv13 H=> bo (dF v7 (B true) v13) λv14=> gl v14 false (some a0) H λv16 H=> gl v14 false (au v3 2) H λv17 H=> gdA (some v14) false (ld v17 H) H λv18 H=> gdA (some v14) false (C 103 [v16,v18] H) H λv19 H=> gl v14 false (un .not v19) H λv20 H=> bo (dF v14 (B true) v20) λv21=>
 aY v21
 (some ((I 1),H))
 (bo (aB a0) λv23=> fld v23 0 H λv25 H=> fld v3 1 H λv27 H=> bnd (ix 4 v25 v27 H) λv28 H=> bnd (lda 4 v28 H) λv29 H=> fld v3 0 H λv31 H=> bnd (unG H (C 50 [v31] H.guard)) λv32 H=> bnd (unG H (C 49 [v29,v32] H.guard)) λv33 H=> bo (fl v33 0) λv34=> bnd (lda 9 v3 H) λv35 H=> bnd (C 128 [v34,v35] H) λv36 H=>
  some (v36,H))
theorem akj:Rn2 81 Zf:=λ_ _ _ _ _ h=>
 rnG aoI Tryz.func81 (by kernel_rfl) (by kernel_rfl) h
def akk(C:aC)(a0 a1:AV)(H:ah):OA:=
 bnd (alc 112 [zI,zI,zI,zI,zI,zI,zI,zB,zN] H) λv4 H=>
 bnd (C 113 [a0,a1,(B true)] H) λv8 H=> bo (aK v8 0) λv9=> bo (aK v8 1) λv10=> bnd (st 9 v4 v9 H) λ_ H=>
 bnd (lda 9 v4 H) λr0 _=> some (.tup [r0,v10],H)
theorem aoJ:Rn2 82 akk:=λ_ _ _ _ _ h=>
 rnG an0 Tryz.func82 (by kernel_rfl) (by kernel_rfl) h
def aoK:Ann:=⟨[],[(2,rF 11 (none::rF 3 [])),(4,rF 9 (none::some false::some false::[]))],[(2,[(11,6)]),(4,[(9,5)])]⟩
def WH(C:aC)(a0 a1:AV)(H:ah):OA:=
 bnd (jD 112 a1 H) λv3 H=> bnd (alc 112 [zI,zI,zI,zI,zI,zI,zI,zB,zN] H) λv4 H=>
 fld v3 0 H λv12 H=> bo (bi .eql 3 v12 (I 1)) λv13=> gl v13 false (au v3 0) H λv15 H=> gdA (some v13) false (ld v15 H) H λv16 H=> gl v13 false (bi .eql 3 v16 (I 2)) H λv17 H=> bo (dF v13 (B true) v17) λv18=>
 aY v18
 (bnd (alc 112 [zI,zI,zI,zI,zI,zI,zI,zB,zN] H) λv6 H11=> bo (aB a0) λv21=> bo (au v21 11) λv22=> fld v22 0 H11 λv24 H4=> bnd (lda 9 v3 H4) λv25 H5=> bnd (C 129 [v24,v25] H5) λv26 H6=> bo (aK v26 0) λv27=> bo (aK v26 1) λv28=> bo (aK v26 2) λv29=> bnd (st 9 v6 v27 H6) λ_ H12=> ckR H.next H11.next H5 H6 <|
  bnd (lda 9 v6 H12) λv30 H12=> gl v28 true (some v29) H12 λv33 H12=> gl v28 true (bi .eql 48 v33 (I 0)) H12 λv34 H12=> bo (dF v28 v34 (B false)) λv35=> bnd (st 9 v4 v30 H12) λ_ H12=>
  bnd (lda 9 v4 H12) λr0 _=> some (.tup [r0,v35],H12))
 (bnd (alc 112 [zI,zI,zI,zI,zI,zI,zI,zB,zN] H) λv9 am6=> bo (aB a0) λv38=> bo (au v38 0) λv39=> bnd (ld v39 am6) λv40 aiw=> bnd (lda 9 v3 aiw) λv41 akl=> bnd (C 130 [v40,v41] akl) λv42 akm=> bo (aK v42 0) λv43=> bo (aK v42 1) λv44=> bnd (st 9 v9 v43 akm) λ_ WI=> ckR H.next am6.next akl akm <|
  bnd (lda 9 v9 WI) λv45 WI=> bo (bi .eql 48 v44 (I 0)) λv47=> bnd (st 9 v4 v45 WI) λ_ WI=>
  bnd (lda 9 v4 WI) λr0 _=> some (.tup [r0,v47],WI))
theorem akn:Rn2 83 WH:=λ_ _ _ _ _ h=>
 rnG aoK Tryz.func83 (by kernel_rfl) (by kernel_rfl) h
def acA(C:aC)(a0:AV)(H:ah):OA:=
 bo (aB a0) λv4=> fld v4 2 H λv6 H=> gl v6 false (some a0) H λv8 H=> gdA (some v6) false (C 12 [v8] H) H λv9 H=> gl v6 false (bi .eql 3 v9 (I 0)) H λv10 H=> bo (dF v6 (B true) v10) λv11=>
 aY v11
 (some ((I 6),H))
 (bo (aB a0) λv13=> bo (au v13 2) λv14=> bnd (st 1 v14 (B true) H) λ_ H=>
  some ((I 0),H))
theorem ahc:Rn1 84 acA:=λ_ _ _ _ h=>
 rnG an0 Tryz.func84 (by kernel_rfl) (by kernel_rfl) h
def ako(C:aC)(a0 a1 a2:AV)(H:ah):OA:=
 bo (aB a0) λv8=> fld v8 0 H λv10 H=> bo (bd 85 [(0,a1),(1,a2)]) λv13=> bnd (bs 86 1 [(0,v13)] H) λv14 H=> bnd (app 85 4 32 v10 v14 H) λv15 H=> bo (aB a0) λv16=> bo (au v16 0) λv17=> bnd (st 1 v17 v15 H) λ_ H=>
 some (.tup [],H)
theorem aoL:Rn3 85 ako:=λ_ _ _ _ _ _ h=>
 rnG an0 Tryz.func85 (by kernel_rfl) (by kernel_rfl) h
def aoM:Ann:=⟨[],[(3,rF 10 [])],[]⟩
def acB(C:aC)(a0 a1:AV)(H:ah):OA:=
 bnd (jD 26 a0 H) λv2 H=>
 bo (bi .lss 3 a1 (I 0)) λv7=> gl v7 false (some a1) H λv9 H=> gdA (some v7) false (lda 8 v2 H) H λv10 H=> gdA (some v7) false (C 131 [v10] H) H λv11 H=> gl v7 false (bi .geq 3 v9 v11) H λv12 H=> bo (dF v7 (B true) v12) λv13=>
 aY v13
 (some (.tup [(I (-1)),(I 0)],H))
 (fld v2 2 H λv16 H=> bo (bi .quo 3 a1 v16) λv17=> fld v2 2 H λv20 H=> bo (bi .rem 3 a1 v20) λv21=>
  some (.tup [v17,v21],H))
theorem aoN:Rn2 86 acB:=λ_ _ _ _ _ h=>
 rnG aoM Tryz.func86 (by kernel_rfl) (by kernel_rfl) h
def ahd(C:aC)(a0 a1:AV)(H:ah):OA:=
 bnd (alc 166 [zI,zI,zI,zI,zB,zN] H) λv4 H=>
 bnd (C 132 [a0,a1] H) λv9 H=>
 bo (bi .lss 3 v9 (I 0)) λv11=>
 aY v11
 (bo (bd 166 []) λv12=> bnd (st 6 v4 v12 H) λ_ H=>
  bnd (lda 6 v4 H) λr0 _=> some (.tup [r0,(B false)],H))
 (bo (aB a0) λv14=> fld v14 0 H λv16 H=> bnd (ix 6 v16 v9 H) λv18 H=> bnd (lda 6 v18 H) λv19 H=> bnd (C 133 [v19] H) λv20 H=> bnd (st 6 v4 v20 H) λ_ H=>
  bnd (lda 6 v4 H) λr0 _=> some (.tup [r0,(B true)],H))
theorem aoO:Rn2 87 ahd:=λ_ _ _ _ _ h=>
 rnG an0 Tryz.func87 (by kernel_rfl) (by kernel_rfl) h
def akp(C:aC)(a0 a1 a2 a3:AV)(H:ah):OA:=
 bo (aB a0) λv12=> fld v12 21 H λv14 H=> bnd (C 134 [a2,a3,v14] H) λv15 H=> bo (aB a0) λv16=> bo (au v16 12) λv17=> bnd (st 9 v17 v15 H) λ_ H=>
 bo (aB a0) λv20=> fld v20 21 H λv22 H=> bo (bi .add 3 v22 (I 1)) λv23=> bo (bi .rem 3 v23 (I 4096)) λv24=> bo (aB a0) λv25=> bo (au v25 21) λv26=> bnd (st 1 v26 v24 H) λ_ H=>
 bnd (C 77 [a0,a1] H) λv29 H=>
 some (.tup [],H)
theorem aoP:Rn4 88 akp:=λ_ _ _ _ _ _ _ h=>
 rnG an0 Tryz.func88 (by kernel_rfl) (by kernel_rfl) h
def aoQ:Ann:=⟨[],[(5,rF 12 [])],[]⟩
def ahe(C:aC)(a0 a1:AV)(H:ah):OA:=
 bnd (C 132 [a0,a1] H) λv8 H=>
 bo (bi .lss 3 v8 (I 0)) λv10=>
 aY v10
 (some ((B false),H))
 (bo (aB a0) λv12=> fld v12 3 H λv14 H=> bo (bi .add 3 v14 (I 1)) λv15=> bo (aB a0) λv16=> bo (au v16 3) λv17=> bnd (st 1 v17 v15 H) λ_ H=>
  bo (aB a0) λv19=> fld v19 0 H λv21 H=> bo (aB a0) λv24=> fld v24 3 H λv26 H=> bnd (ix 6 v21 v8 H) λv27 H=> bo (au v27 3) λv28=> bnd (st 1 v28 v26 H) λ_ H=>
  some ((B true),H))
theorem aoR:Rn2 89 ahe:=λ_ _ _ _ _ h=>
 rnG aoQ Tryz.func89 (by kernel_rfl) (by kernel_rfl) h
def aoS:Ann:=⟨[],[(1,rF 7 (some true::rF 8 []))],[]⟩
def ahf(C:aC)(a0 a1:AV)(H:ah):OA:=
 bnd (C 132 [a0,a1] H) λv7 H=> bo (bi .lss 3 v7 (I 0)) λv8=> gl v8 true (some a0) H λv10 H=> gl v8 true (some a1) H λv11 H=> gdA (some v8) true (unG H (C 135 [v10,v11] H.guard)) H λv12 H=> gdA (some v8) true (lnS v12 H) H λv13 H=> gl v8 true (some a0) H λv14 H=> gl v8 true (aB v14) H λv15 H=> gl v8 true (au v15 2) H λv16 H=> gdA (some v8) true (ld v16 H) H λv17 H=> gl v8 true (bi .geq 3 v13 v17) H λv18 H=> bo (dF v8 v18 (B false)) λv19=>
 some (v19,H)
theorem aoT:Rn2 90 ahf:=λ_ _ _ _ _ h=>
 rnG aoS Tryz.func90 (by kernel_rfl) (by kernel_rfl) h
def ahg(C:aC)(a0 a1:AV)(H:ah):OA:=
 bnd (C 135 [a0,a1] H) λv9 H=>
 bnd (lnS v9 H) λv11 H=> bo (bi .eql 3 v11 (I 0)) λv12=>
 aY v12
 (some (.tup [(I 0),(B false)],H))
 (bnd (C 136 [v9,(.fn (.func 137) [] [])] H) λv14 H=> bo (fl v14 2) λv15=>
  some (.tup [v15,(B true)],H))
theorem aoU:Rn2 91 ahg:=λ_ _ _ _ _ h=>
 rnG an0 Tryz.func91 (by kernel_rfl) (by kernel_rfl) h
def acC(C:aC)(a0 a1:AV)(H:ah):OA:=
 bnd (alc 112 [zI,zI,zI,zI,zI,zI,zI,zB,zN] H) λv4 H=>
 bo (bi .lss 3 a1 (I 0)) λv7=> gl v7 false (some a1) H λv9 H=> gl v7 false (some a0) H λv10 H=> gl v7 false (aB v10) H λv11 H=> gl v7 false (au v11 0) H λv12 H=> gdA (some v7) false (ld v12 H) H λv13 H=> gdA (some v7) false (lnS v13 H) H λv14 H=> gl v7 false (bi .geq 3 v9 v14) H λv15 H=> bo (dF v7 (B true) v15) λv16=>
 aY v16
 (bo (bd 112 []) λv17=> bnd (st 9 v4 v17 H) λ_ H=>
  bnd (lda 9 v4 H) λr0 _=> some (.tup [r0,(B false)],H))
 (bo (aB a0) λv19=> fld v19 0 H λv21 H=> bnd (ix 9 v21 a1 H) λv23 H=> bnd (lda 9 v23 H) λv24 H=> bnd (C 138 [v24] H) λv25 H=> bnd (st 9 v4 v25 H) λ_ H=>
  bnd (lda 9 v4 H) λr0 _=> some (.tup [r0,(B true)],H))
theorem aoV:Rn2 92 acC:=λ_ _ _ _ _ h=>
 rnG an0 Tryz.func92 (by kernel_rfl) (by kernel_rfl) h
def akq:Ann:=⟨[(7,[5,48,49,50])],[(4,rF 28 (some true::rF 6 []))],[]⟩
def LU:=qx Tryz.prog Tryz.f93 61 akq 0
def akr(C:aC)(a0:AV)(H:ah):OA:=
 bnd (jD 112 a0 H) λv1 H=>
 bnd (lda 9 v1 H) λv8 H=> bnd (C 127 [v8] H) λv9 H=>
 bo (bi .neq 48 v9 (I 0)) λv11=>
 aY v11
 (some (.tup [(.s (Go.Value.slice none 0 0)),v9],H))
 (fld v1 0 H λv14 H=> bnd (cv 3 5 v14 H) λv15 H=> fld v1 1 H λv17 H=> bnd (cv 3 5 v17 H) λv18 H=> fld v1 2 H λv20 H=> bnd (cv 3 5 v20 H) λv21 H=> fld v1 3 H λv23 H=> bo (bi .shr 3 v23 (.s (Go.Value.int Go.IntKind.u64 8))) λv24=> bnd (cv 3 5 v24 H) λv25 H=> fld v1 3 H λv27 H=> bnd (cv 3 5 v27 H) λv28 H=> fld v1 4 H λv30 H=> bnd (cv 3 5 v30 H) λv31 H=> fld v1 5 H λv33 H=> bo (bi .add 3 v33 (I 1)) λv34=> bnd (cv 3 5 v34 H) λv35 H=> fld v1 6 H λv37 H=> bnd (cv 3 5 v37 H) λv38 H=> fld v1 7 H λv40 H=> bnd (unG H (C 139 [v40] H.guard)) λv41 H=> fld v1 8 H λv43 H=> bnd (lnS v43 H) λv44 H=> bnd (cv 3 5 v44 H) λv45 H=> bnd (bs 172 10 [(0,v15),(1,v18),(2,v21),(3,v25),(4,v28),(5,v31),(6,v35),(7,v38),(8,v41),(9,v45)] H) λv46 H=>
  fld v1 8 H λv48 H=> bnd (lnS v48 H) λv49 H=>
  LU C [v46,v48,v49,(I 0)] H)
theorem Zg(C:aC)(t5 t48 t49 t50:AV)(H:ah):LU C [t5,t48,t49,t50] H=
 bo (bi .lss 3 t50 t49) λv51=>
 aY v51
 (bnd (ix 1 t48 t50 H) λv52 H=> bnd (ld v52 H) λv53 H=>
  bnd (C 140 [v53] H) λv56 H=> bnd (app 5 1 1 t5 v56 H) λv57 H=>
  bo (bi .add 3 t50 (I 1)) λv58=>
  LU C [v57,t48,t49,v58] H)
 (bnd (C 141 [t5] H) λv60 H=>
  some (.tup [v60,(I 0)],H)):=
 lpE.trans (by kernel_rfl)
theorem aoW:Rn1 93 akr:=λ_ _ _ _ h=>
 rnG akq Tryz.func93 (by kernel_rfl) (by kernel_rfl) h
def aoX:Ann:=⟨[],[(4,rF 40 (none::some false::[]))],[]⟩
def ahh:Code:=Tryz.f94.body.getD .skip
def aks(C:aC)(a0:AV)(H:ah):OA:=
 bnd (alc 112 [zI,zI,zI,zI,zI,zI,zI,zB,zN] H) λv2 H=>
 bnd (C 142 [a0] H) λv12 H=> bo (aK v12 0) λv13=> bo (aK v12 1) λv14=>
 bo (un .not v14) λv16=> gl v16 false (some v13) H λv18 H=> gdA (some v16) false (lnS v18 H) H λv19 H=> gl v16 false (bi .lss 3 v19 (I 10)) H λv20 H=> bo (dF v16 (B true) v20) λv21=> gl v21 false (some v13) H λv23 H=> gdA (some v21) false (lnS v23 H) H λv24 H=> gl v21 false (some v13) H λv25 H=> gdA (some v21) false (ix 1 v25 (I 9) H) H λv26 H=> gdA (some v21) false (ld v26 H) H λv27 H=> gdA (some v21) false (cv 5 3 v27 H) H λv28 H=> gl v21 false (bi .mul 3 (I 8) v28) H λv29 H=> gl v21 false (bi .add 3 (I 10) v29) H λv30 H=> gl v21 false (bi .neq 3 v24 v30) H λv31 H=> bo (dF v21 (B true) v31) λv32=>
 aY v32
 (bo (bd 112 []) λv33=> bnd (st 9 v2 v33 H) λ_ H=>
  bnd (lda 9 v2 H) λr0 _=> some (.tup [r0,(I 2)],H))
 (bnd (alc 112 [zI,zI,zI,zI,zI,zI,zI,zB,zN] H) λv6 H=> bnd (ix 1 v13 (I 0) H) λv35 H=> bnd (ld v35 H) λv36 H=> bnd (cv 5 3 v36 H) λv37 H=> bnd (ix 1 v13 (I 1) H) λv39 H=> bnd (ld v39 H) λv40 H=> bnd (cv 5 3 v40 H) λv41 H=> bnd (ix 1 v13 (I 2) H) λv43 H=> bnd (ld v43 H) λv44 H=> bnd (cv 5 3 v44 H) λv45 H=> bnd (ix 1 v13 (I 3) H) λv47 H=> bnd (ld v47 H) λv48 H=> bnd (cv 5 3 v48 H) λv49 H=> bo (bi .shl 3 v49 (.s (Go.Value.int Go.IntKind.u64 8))) λv50=> bnd (ix 1 v13 (I 4) H) λv52 H=> bnd (ld v52 H) λv53 H=> bnd (cv 5 3 v53 H) λv54 H=> bo (bi .or 3 v50 v54) λv55=> bnd (ix 1 v13 (I 5) H) λv57 H=> bnd (ld v57 H) λv58 H=> bnd (cv 5 3 v58 H) λv59 H=> bnd (ix 1 v13 (I 6) H) λv61 H=> bnd (ld v61 H) λv62 H=> bnd (cv 5 3 v62 H) λv63 H=> bo (bi .sub 3 v63 (I 1)) λv64=> bnd (ix 1 v13 (I 7) H) λv66 H=> bnd (ld v66 H) λv67 H=> bnd (cv 5 3 v67 H) λv68 H=> bnd (ix 1 v13 (I 8) H) λv70 H=> bnd (ld v70 H) λv71 H=> bo (bi .eql 5 v71 (.s (Go.Value.int Go.IntKind.u8 1))) λv72=> bo (bd 112 [(0,v37),(1,v41),(2,v45),(3,v55),(4,v59),(5,v64),(6,v68),(7,v72)]) λv73=> bnd (st 9 v6 v73 H) λ_ H=>
  bo (slS 1 v13 (some (I 10)) none none) λv75=> bnd (C 143 [v75,(I 8)] H) λv76 H=>
  none)
theorem aoY:Rn1 94 aks:=λ_ _ _ _ h=>
 rnG aoX Tryz.func94 (by kernel_rfl) (by kernel_rfl) h
def akt:Ann:=⟨[(4,[1,2,7,13,14])],[(7,rF 17 [])],[]⟩
def LV:=qx Tryz.prog Tryz.f95 45 akt 0
def Ce(C:aC)(t1 t2 t7 t13 t14:AV)(H:ah):OA:=
 bo (bi .add 3 t14 (I 1)) λv43=>
 LV C [t1,t2,t7,t13,v43] H
def aku(C:aC)(a0 a1 a2:AV)(H:ah):OA:=
 bnd (C 146 [a0] H) λv11 H=>
 bnd (lnS v11 H) λv13 H=>
 LV C [a1,a2,v11,v13,(I 0)] H
theorem Zh(C:aC)(t1 t2 t7 t13 t14:AV)(H:ah):LV C [t1,t2,t7,t13,t14] H=
 bo (bi .lss 3 t14 t13) λv15=>
 aY v15
 (bo (bi .mul 3 (I 8) t14) λv18=> bo (bi .sub 3 v18 t1) λv20=>
  bo (bi .leq 3 v20 (I (-8))) λv22=> gl v22 false (some v20) H λv24 H=> gl v22 false (bi .geq 3 v24 (I 16)) H λv25 H=> bo (dF v22 (B true) v25) λv26=>
  aY v26
  (Ce C t1 t2 t7 t13 t14 H)
  (bnd (ix 1 t7 t14 H) λv31 H=> bnd (ld v31 H) λv32 H=> bnd (cv 50 234 t2 H) λv34 H=> bo (bi .shl 234 v34 (.s (Go.Value.int Go.IntKind.u64 8))) λv35=> bo (bi .add 3 v20 (I 8)) λv37=> bo (bi .shl 234 v35 v37) λv38=> bo (bi .shr 234 v38 (.s (Go.Value.int Go.IntKind.u64 24))) λv39=> bnd (cv 234 5 v39 H) λv40 H=> bo (bi .xor 5 v32 v40) λv41=> bnd (ix 1 t7 t14 H) λv42 H=> bnd (st 1 v42 v41 H) λ_ H=>
  Ce C t1 t2 t7 t13 t14 H))
 (some (t7,H)):=
 lpE.trans (by kernel_rfl)
theorem aoZ:Rn3 95 aku:=λ_ _ _ _ _ _ h=>
 rnG akt Tryz.func95 (by kernel_rfl) (by kernel_rfl) h
def ao0:Ann:=⟨[],[(1,rF 11 [])],[]⟩
def akv(C:aC)(a0:AV)(H:ah):OA:=
 bo (aB a0) λv4=> fld v4 1 H λv6 H=> bo (aB a0) λv8=> fld v8 0 H λv10 H=> bnd (lnS v10 H) λv11 H=> bo (bi .sub 3 v6 v11) λv12=>
 some (v12,H)
theorem ao1:Rn1 96 akv:=λ_ _ _ _ h=>
 rnG ao0 Tryz.func96 (by kernel_rfl) (by kernel_rfl) h
def akw(C:aC)(a0:AV)(H:ah):OA:=
 bnd (jD 112 a0 H) λv1 H=> bnd (alc 112 [zI,zI,zI,zI,zI,zI,zI,zB,zN] H) λv2 H=>
 fld v1 8 H λv4 H=> bnd (C 55 [v4] H) λv5 H=> bo (au v1 8) λv6=> bnd (st 1 v6 v5 H) λ_ H=>
 bnd (lda 9 v1 H) λv7 H=> bnd (st 9 v2 v7 H) λ_ H=>
 bnd (lda 9 v2 H) λr0 _=> some (r0,H)
theorem ao2:Rn1 97 akw:=λ_ _ _ _ h=>
 rnG an0 Tryz.func97 (by kernel_rfl) (by kernel_rfl) h
def ao3:Ann:=⟨[],[(5,rF 8 [])],[]⟩
def akx(C:aC)(a0 a1 a2:AV)(H:ah):OA:=
 bnd (lnS a0 H) λv12 H=> bo (slS 9 a0 (some a1) (some a2) (some v12)) λv13=>
 bo (bi .eql 3 a1 a2) λv16=>
 aY v16
 (some (a0,H))
 (bnd (lnS a0 H) λv19 H=>
  bo (slS 9 a0 none (some a1) none) λv22=> bo (slS 9 a0 (some a2) none none) λv25=> bnd (app 112 9 88 v22 v25 H) λv26 H=>
  bnd (lnS v26 H) λv29 H=> bo (slS 9 v26 (some v29) (some v19) none) λv31=> bnd (clr 9 [zI,zI,zI,zI,zI,zI,zI,zB,zN] v31 H) λ_ H=>
  some (v26,H))
theorem ao4:Rn3 98 akx:=λ_ _ _ _ _ _ h=>
 rnG ao3 Tryz.func98 (by kernel_rfl) (by kernel_rfl) h
def Zi(C:aC)(a0 a1:AV)(H:ah):OA:=
 bo (bi .geq 3 a1 (I 0)) λv6=> gl v6 true (some a1) H λv8 H=> gl v6 true (some a0) H λv9 H=> gl v6 true (aB v9) H λv10 H=> gl v6 true (au v10 0) H λv11 H=> gdA (some v6) true (ld v11 H) H λv12 H=> gdA (some v6) true (lnS v12 H) H λv13 H=> gl v6 true (bi .lss 3 v8 v13) H λv14 H=> bo (dF v6 v14 (B false)) λv15=>
 some (v15,H)
theorem aky:Rn2 103 Zi:=λ_ _ _ _ _ h=>
 rnG an0 Tryz.func103 (by kernel_rfl) (by kernel_rfl) h
def aeY(C:aC)(a0 a1:AV)(H:ah):OA:=
 bnd (jD 26 a0 H) λv2 H=>
 fld v2 0 H λv7 H=> bnd (C 153 [a1,v7] H) λv8 H=>
 some (v8,H)
theorem akz:Rn2 111 aeY:=λ_ _ _ _ _ h=>
 rnG an0 Tryz.func111 (by kernel_rfl) (by kernel_rfl) h
def aeZ(C:aC)(a0 a1:AV)(H:ah):OA:=
 bnd (jD 26 a0 H) λv2 H=>
 bo (bi .lss 3 a1 (I 0)) λv8=> gl v8 false (some a1) H λv10 H=> gl v8 false (au v2 1) H λv11 H=> gdA (some v8) false (ld v11 H) H λv12 H=> gl v8 false (bi .geq 3 v10 v12) H λv13 H=> bo (dF v8 (B true) v13) λv14=>
 aY v14
 (some ((.s (Go.Value.slice none 0 0)),H))
 (fld v2 2 H λv16 H=> bnd (mks 3 1 8 [zI] v16 v16 H) λv17 H=>
  fld v2 2 H λv20 H=> bo (bi .mul 3 a1 v20) λv21=> fld v2 7 H λv23 H=> bnd (lnS v23 H) λv24 H=> bnd (fP (kR Tryz.prog false #[3,3] 3 [v21,v24]) H) λv25 H=>
  fld v2 7 H λv28 H=> bo (slS 1 v28 (some v25) none none) λv30=> bnd (cpy 1 v17 v30 H) λv31 H=>
  some (v17,H))
theorem akA:Rn2 112 aeZ:=λ_ _ _ _ _ h=>
 rnG an0 Tryz.func112 (by kernel_rfl) (by kernel_rfl) h
def Zj(C:aC)(a0 a1 a2:AV)(H:ah):OA:=
 bnd (alc 112 [zI,zI,zI,zI,zI,zI,zI,zB,zN] H) λv6 H=>
 bnd (C 103 [a0,a1] H) λv10 H=> bo (un .not v10) λv11=>
 aY v11
 (bo (bd 112 []) λv12=> bnd (st 9 v6 v12 H) λ_ H=>
  bnd (lda 9 v6 H) λr0 _=> some (.tup [r0,(B false)],H))
 (bo (aB a0) λv14=> fld v14 0 H λv16 H=> bnd (ix 4 v16 a1 H) λv18 H=> bnd (lda 4 v18 H) λv19 H=> bnd (C 49 [v19,a2] H) λv21 H=> bo (fl v21 1) λv22=> bnd (C 154 [v22] H) λv23 H=> bo (aK v23 0) λv24=> bo (aK v23 1) λv25=> bnd (st 9 v6 v24 H) λ_ H=>
  bnd (lda 9 v6 H) λr0 _=> some (.tup [r0,v25],H))
theorem ae0:Rn3 113 Zj:=λ_ _ _ _ _ _ h=>
 rnG an0 Tryz.func113 (by kernel_rfl) (by kernel_rfl) h
def GU(C:aC)(a0 a1 a2 a3:AV)(H:ah):OA:=
 bnd (jD 44 a0 H) λv4 H=> bnd (jD 112 a3 H) λv7 H=> bnd (alc 44 [zI,zI,zI,zI,zI,zI,zN,zI,zI] H) λv8 H=>
 fld v4 0 H λv11 H=> bo (bi .neq 3 v11 (I 1)) λv12=> gdA (some v12) false (lda 9 v4 H) H λv14 H=> gdA (some v12) false (lda 9 v7 H) H λv15 H=> gdA (some v12) false (C 155 [v14,v15] H) H λv16 H=> gl v12 false (un .not v16) H λv17 H=> bo (dF v12 (B true) v17) λv18=>
 aY v18
 (bo (bd 44 []) λv19=> bnd (st 9 v8 v19 H) λ_ H=>
  bnd (lda 9 v8 H) λr0 _=> some (.tup [r0,(B false)],H))
 (fld v4 3 H λv21 H=>
  bo (bi .eql 3 v21 (I 1)) λv23=>
  aY v23
  (bnd (lda 9 v4 H) λv24 H=> bnd (lda 9 v7 H) λv27 H=> bnd (C 156 [v24,a1,a2,v27] H) λv28 H=> bo (aK v28 0) λv29=> bo (aK v28 1) λv30=> bnd (st 9 v8 v29 H) λ_ H=>
  bnd (lda 9 v8 H) λr0 _=> some (.tup [r0,v30],H))
  (bo (bi .eql 3 v21 (I 2)) λv32=>
  aY v32
  (bnd (lda 9 v4 H) λv33 H=> bnd (lda 9 v7 H) λv36 H=> bnd (C 157 [v33,a1,a2,v36] H) λv37 H=> bo (aK v37 0) λv38=> bo (aK v37 1) λv39=> bnd (st 9 v8 v38 H) λ_ H=>
   bnd (lda 9 v8 H) λr0 _=> some (.tup [r0,v39],H))
  (bo (bi .eql 3 v21 (I 6)) λv41=>
   aY v41
   (bo (au v4 3) λv42=> bnd (st 1 v42 (I 0) H) λ_ H=>
   bnd (lda 9 v4 H) λv43 H=> bnd (st 9 v8 v43 H) λ_ H=>
   bnd (lda 9 v8 H) λr0 _=> some (.tup [r0,(B true)],H))
   (bo (bd 44 []) λv44=> bnd (st 9 v8 v44 H) λ_ H=>
   bnd (lda 9 v8 H) λr0 _=> some (.tup [r0,(B false)],H)))))
theorem akB:Rn4 114 GU:=λ_ _ _ _ _ _ _ h=>
 rnG an0 Tryz.func114 (by kernel_rfl) (by kernel_rfl) h
def akC:Ann:=⟨[],[(6,rF 8 (some true::rF 8 []))],[(6,[(3,10),(5,10),(5,12)])]⟩
def Ep(C:aC)(t1 t2 t4 t8:AV)(H:ah):OA:=
 fld t4 5 H λv51 H=> bo (au t4 7) λv52=> bnd (st 1 v52 v51 H) λ_ H=>
 bnd (lda 9 t4 H) λv53 H=> bnd (C 158 [v53,t1,t2] H) λv56 H=> bnd (st 9 t8 v56 H) λ_ H=>
 bnd (lda 9 t8 H) λr0 _=> some (.tup [r0,(B true)],H)
def Es(C:aC)(t1 t2 t4 t7 t8:AV)(H:ah):OA:=
 fld t7 5 H λv66 H=> bo (au t4 7) λv67=> bnd (st 1 v67 v66 H) λ_ H=>
 bnd (lda 9 t4 H) λv68 H=> bnd (C 158 [v68,t1,t2] H) λv71 H=> bnd (st 9 t8 v71 H) λ_ H=>
 bnd (lda 9 t8 H) λr0 _=> some (.tup [r0,(B true)],H)
def Aj(C:aC)(a0 a1 a2 a3:AV)(H:ah):OA:=
 bnd (jD 44 a0 H) λv4 H=> bnd (jD 112 a3 H) λv7 H=> bnd (alc 44 [zI,zI,zI,zI,zI,zI,zN,zI,zI] H) λv8 H=>
 fld v4 0 H λv13 H=> bo (bi .neq 3 v13 (I 2)) λv14=> gdA (some v14) false (lda 9 v4 H) H λv16 H=> gdA (some v14) false (lda 9 v7 H) H λv17 H=> gdA (some v14) false (C 155 [v16,v17] H) H λv18 H=> gl v14 false (un .not v18) H λv19 H=> bo (dF v14 (B true) v19) λv20=>
 aY v20
 (bo (bd 44 []) λv21=> bnd (st 9 v8 v21 H) λ_ H=>
  bnd (lda 9 v8 H) λr0 _=> some (.tup [r0,(B false)],H))
 (fld v4 1 H λv25 H=> bnd (C 87 [a2,v25] H) λv26 H=> bo (aK v26 0) λv27=> bo (aK v26 1) λv28=> bnd (alc 166 [zI,zI,zI,zI,zB,zN] H) λv10 H=> bnd (st 6 v10 v27 H) λ_ H=>
  fld v4 3 H λv30 H=>
  bo (bi .eql 3 v30 (I 1)) λv32=>
  aY v32
  (fld v7 6 H λv34 H1=> bo (au v7 5) λv35=> bnd (ld v35 H1) λv36 H3=> bo (au v7 5) λv37=> bnd (ld v37 H3) λv38 H5=> fld v7 8 H5 λv40 H7=> bnd (unG H7 (C 55 [v40] H7.guard)) λv41 H8=> bo (au v4 4) λv42=> bnd (st 1 v42 v34 H8) λ_ H10=> bo (au v4 5) λv43=> bnd (st 1 v43 v36 H10) λ_ H12=> bo (au v4 8) λv44=> bnd (st 1 v44 v38 H12) λ_ H14=> bo (au v4 6) λv45=> bnd (st 1 v45 v41 H14) λ_ H16=> ck (bQ v35) H8 H10 <| ck (bQ v37) H8 H10 <| ck (bQ v37) H10 H12 <|
  aY v28
  (fld v10 5 H16 λv48 H16=> bo (au v4 6) λv49=> bnd (st 1 v49 v48 H16) λ_ H16=>
   Ep C a1 a2 v4 v8 H16)
  (Ep C a1 a2 v4 v8 H16))
  (bo (bi .eql 3 v30 (I 3)) λv58=>
  aY v58
  (bo (un .not v28) λv60=>
   aY v60
   (fld v7 8 H λv62 H=> bnd (C 55 [v62] H) λv63 H=> bo (au v4 6) λv64=> bnd (st 1 v64 v63 H) λ_ H=>
   Es C a1 a2 v4 v7 v8 H)
   (Es C a1 a2 v4 v7 v8 H))
  (bo (bi .eql 3 v30 (I 6)) λv73=>
   aY v73
   (bo (au v4 3) λv74=> bnd (st 1 v74 (I 0) H) λ_ H=>
   bnd (lda 9 v4 H) λv75 H=> bnd (st 9 v8 v75 H) λ_ H=>
   bnd (lda 9 v8 H) λr0 _=> some (.tup [r0,(B true)],H))
   (bo (bd 44 []) λv76=> bnd (st 9 v8 v76 H) λ_ H=>
   bnd (lda 9 v8 H) λr0 _=> some (.tup [r0,(B false)],H)))))
theorem akD:Rn4 115 Aj:=λ_ _ _ _ _ _ _ h=>
 rnG akC Tryz.func115 (by kernel_rfl) (by kernel_rfl) h
def yC(C:aC)(a0 a1 a2 a3:AV)(H:ah):OA:=
 bnd (jD 44 a0 H) λv4 H=> bnd (jD 112 a3 H) λv7 H=> bnd (alc 44 [zI,zI,zI,zI,zI,zI,zN,zI,zI] H) λv8 H=>
 fld v4 0 H λv11 H=> bo (bi .neq 3 v11 (I 3)) λv12=> gdA (some v12) false (lda 9 v4 H) H λv14 H=> gdA (some v12) false (lda 9 v7 H) H λv15 H=> gdA (some v12) false (C 155 [v14,v15] H) H λv16 H=> gl v12 false (un .not v16) H λv17 H=> bo (dF v12 (B true) v17) λv18=>
 aY v18
 (bo (bd 44 []) λv19=> bnd (st 9 v8 v19 H) λ_ H=>
  bnd (lda 9 v8 H) λr0 _=> some (.tup [r0,(B false)],H))
 (fld v4 3 H λv21 H=>
  bo (bi .eql 3 v21 (I 1)) λv23=>
  aY v23
  (bnd (lda 9 v4 H) λv24 H=> bnd (lda 9 v7 H) λv26 H=> bnd (C 159 [v24,a2,v26] H) λv27 H=> bnd (st 9 v8 v27 H) λ_ H=>
  bnd (lda 9 v8 H) λr0 _=> some (.tup [r0,(B true)],H))
  (bo (bi .eql 3 v21 (I 4)) λv29=>
  aY v29
  (fld v4 7 H λv31 H=> bo (bi .eql 3 v31 (I (-1))) λv32=>
   aY v32
   (bnd (lda 9 v4 H) λv33 H=> fld v4 8 H λv36 H=> bnd (C 160 [v33,a2,v36] H) λv37 H=> bnd (st 9 v8 v37 H) λ_ H=>
   bnd (lda 9 v8 H) λr0 _=> some (.tup [r0,(B true)],H))
   (bo (au v4 3) λv38=> bnd (st 1 v38 (I 5) H) λ_ H=>
   bnd (lda 9 v4 H) λv39 H=> bnd (st 9 v8 v39 H) λ_ H=>
   bnd (lda 9 v8 H) λr0 _=> some (.tup [r0,(B true)],H)))
  (bo (bi .eql 3 v21 (I 5)) λv41=>
   aY v41
   (fld v4 5 H λv43 H=> bo (bi .eql 3 v43 (I (-1))) λv44=>
   aY v44
   (bnd (lda 9 v4 H) λv45 H=> fld v4 7 H λv48 H=> bnd (C 160 [v45,a2,v48] H) λv49 H=> bnd (st 9 v8 v49 H) λ_ H=>
    bnd (lda 9 v8 H) λr0 _=> some (.tup [r0,(B true)],H))
   (bnd (lda 9 v4 H) λv50 H=> fld v4 8 H λv53 H=> bnd (C 160 [v50,a2,v53] H) λv54 H=> bnd (st 9 v8 v54 H) λ_ H=>
    bnd (lda 9 v8 H) λr0 _=> some (.tup [r0,(B true)],H)))
   (bo (bi .eql 3 v21 (I 6)) λv56=>
   aY v56
   (bo (au v4 3) λv57=> bnd (st 1 v57 (I 0) H) λ_ H=>
    bnd (lda 9 v4 H) λv58 H=> bnd (st 9 v8 v58 H) λ_ H=>
    bnd (lda 9 v8 H) λr0 _=> some (.tup [r0,(B true)],H))
   (bo (bd 44 []) λv59=> bnd (st 9 v8 v59 H) λ_ H=>
    bnd (lda 9 v8 H) λr0 _=> some (.tup [r0,(B false)],H))))))
theorem akE:Rn4 116 yC:=λ_ _ _ _ _ _ _ h=>
 rnG an0 Tryz.func116 (by kernel_rfl) (by kernel_rfl) h
def Zk(C:aC)(a0 a1:AV)(H:ah):OA:=
 bo (aB a0) λv6=> fld v6 2 H λv8 H=> bo (un .not v8) λv9=>
 aY v9
 (some ((I 6),H))
 (bo (aB a0) λv13=> fld v13 1 H λv15 H=> bnd (bs 22 1 [(0,a1)] H) λv17 H=> bnd (app 3 1 8 v15 v17 H) λv18 H=> bo (aB a0) λv19=> bo (au v19 1) λv20=> bnd (st 1 v20 v18 H) λ_ H=> bo (aB a0) λv21=> bo (au v21 2) λv22=> bnd (st 1 v22 (B false) H) λ_ H=>
  some ((I 0),H))
theorem ae1:Rn2 117 Zk:=λ_ _ _ _ _ h=>
 rnG an0 Tryz.func117 (by kernel_rfl) (by kernel_rfl) h
def ae2(C:aC)(a0 a1 a2 a3:AV)(H:ah):OA:=
 bo (aB a0) λv10=> fld v10 0 H λv12 H=> bo (bd 85 [(0,a1),(1,a2),(2,(B true)),(3,a3)]) λv16=> bnd (bs 86 1 [(0,v16)] H) λv17 H=> bnd (app 85 4 32 v12 v17 H) λv18 H=> bo (aB a0) λv19=> bo (au v19 0) λv20=> bnd (st 1 v20 v18 H) λ_ H=>
 some (.tup [],H)
theorem akF:Rn4 118 ae2:=λ_ _ _ _ _ _ _ h=>
 rnG an0 Tryz.func118 (by kernel_rfl) (by kernel_rfl) h
def Zl(C:aC)(a0 a1:AV)(H:ah):OA:=
 bnd (jD 166 a0 H) λv2 H=>
 bnd (lda 6 v2 H) λv5 H=> bnd (C 161 [v5,a1] H) λv7 H=> bo (un .not v7) λv8=>
 aY v8
 (some ((I 0),H))
 (fld v2 5 H λv10 H=> bnd (ix 1 v10 a1 H) λv12 H=> bnd (ld v12 H) λv13 H=>
  some (v13,H))
theorem akG:Rn2 119 Zl:=λ_ _ _ _ _ h=>
 rnG an0 Tryz.func119 (by kernel_rfl) (by kernel_rfl) h
def UO(C:aC)(a0 a1 a2:AV)(H:ah):OA:=
 bo (aB a0) λv8=> fld v8 4 H λv10 H=> bo (un .not v10) λv11=> gl v11 false (some a0) H λv13 H=> gl v11 false (aB v13) H λv14 H=> gdA (some v11) false (lda 6 v14 H) H λv15 H=> gl v11 false (some a1) H λv16 H=> gdA (some v11) false (C 161 [v15,v16] H) H λv17 H=> gl v11 false (un .not v17) H λv18 H=> bo (dF v11 (B true) v18) λv19=>
 aY v19
 (some ((B false),H))
 (bo (aB a0) λv22=> fld v22 5 H λv24 H=> bnd (C 55 [v24] H) λv25 H=> bo (aB a0) λv26=> bo (au v26 5) λv27=> bnd (st 1 v27 v25 H) λ_ H=>
  bo (aB a0) λv29=> fld v29 5 H λv31 H=> bnd (ix 1 v31 a1 H) λv34 H=> bnd (st 1 v34 a2 H) λ_ H=>
  some ((B true),H))
theorem Zm:Rn3 120 UO:=λ_ _ _ _ _ _ h=>
 rnG an0 Tryz.func120 (by kernel_rfl) (by kernel_rfl) h
def akH:Ann:=⟨[],[(7,rF 8 []),(13,rF 11 [])],[]⟩
def Pn(C:aC)(a0 a1:AV)(H:ah):OA:=
 bnd (jD 166 a1 H) λv3 H=>
 bnd (lda 6 v3 H) λv6 H=> bnd (C 133 [v6] H) λv7 H=> bnd (st 6 v3 v7 H) λ_ H=>
 fld v3 2 H λv9 H=> bo (bi .lss 3 v9 (I 0)) λv10=>
 aY v10
 (some ((I 1),H))
 (fld v3 2 H λv13 H=> bnd (C 132 [a0,v13] H) λv14 H=>
  bo (bi .geq 3 v14 (I 0)) λv16=>
  aY v16
  (bo (aB a0) λv18=> fld v18 0 H λv20 H=> bnd (ix 6 v20 v14 H) λv22 H=> fld v22 3 H λv24 H=> bo (au v3 3) λv25=> bnd (st 1 v25 v24 H) λ_ H=>
  bo (aB a0) λv27=> fld v27 0 H λv29 H=> bnd (lda 6 v3 H) λv31 H=> bnd (ix 6 v29 v14 H) λv32 H=> bnd (st 6 v32 v31 H) λ_ H=>
  some ((I 0),H))
  (fld v3 2 H λv35 H=> bnd (C 90 [a0,v35] H) λv36 H=>
  aY v36
  (some ((I 5),H))
  (bo (aB a0) λv38=> fld v38 3 H λv40 H=> bo (bi .add 3 v40 (I 1)) λv41=> bo (aB a0) λv42=> bo (au v42 3) λv43=> bnd (st 1 v43 v41 H) λ_ H=>
   bo (aB a0) λv45=> fld v45 3 H λv47 H=> bo (au v3 3) λv48=> bnd (st 1 v48 v47 H) λ_ H=>
   bo (aB a0) λv51=> fld v51 0 H λv53 H=> bnd (lda 6 v3 H) λv54 H=> bnd (bs 141 1 [(0,v54)] H) λv55 H=> bnd (app 166 6 64 v53 v55 H) λv56 H=> bo (aB a0) λv57=> bo (au v57 0) λv58=> bnd (st 1 v58 v56 H) λ_ H=>
   some ((I 0),H))))
theorem akI:Rn2 121 Pn:=λ_ _ _ _ _ h=>
 rnG akH Tryz.func121 (by kernel_rfl) (by kernel_rfl) h
def akJ:Ann:=⟨[],[(1,some false::some false::some true::rF 7 (none::some false::[])),(11,rF 8 []),(13,rF 8 []),(15,rF 10 (some true::rF 8 []))],[(11,[(3,5)]),(13,[(3,5)]),(15,[(3,12),(5,12),(5,14),(6,12),(6,14)])]⟩
def oO(C:aC)(t6 t7:AV)(H:ah):OA:=
 bnd (lda 9 t7 H) λv69 H=> bnd (st 9 t6 v69 H) λ_ H=>
 bnd (lda 9 t6 H) λr0 _=> some (r0,H)
def DF(C:aC)(a0 a1 a2:AV)(H:ah):OA:=
 bnd (jD 44 a0 H) λv3 H=> bnd (alc 112 [zI,zI,zI,zI,zI,zI,zI,zB,zN] H) λv6 H=>
 bnd (alc 112 [zI,zI,zI,zI,zI,zI,zI,zB,zN] H) λv7 H=> fld v3 3 H λv9 H=> bnd (unG H (C 162 [v9] H.guard)) λv10 H=> fld v3 2 H λv14 H=> fld v3 1 H λv16 H=> bo (bd 112 [(0,v10),(1,a1),(2,a2),(3,v14),(4,v16)]) λv17=> bnd (st 9 v7 v17 H) λ_ H=>
 fld v3 3 H λv19 H=>
 bo (bi .eql 3 v19 (I 1)) λv22=>
 aY v22
 (bnd (lda 9 v7 H) λv23 H=> bnd (st 9 v6 v23 H) λ_ H=>
  bnd (lda 9 v6 H) λr0 _=> some (r0,H))
 (bo (bi .eql 3 v19 (I 2)) λv25=>
  aY v25
  (fld v3 5 H λv27 H=> bo (au v7 2) λv29=> bnd (st 1 v29 v27 H) λ_ H=> bo (au v7 5) λv30=> bnd (st 1 v30 a1 H) λ_ H=>
  oO C v6 v7 H)
  (bo (bi .eql 3 v19 (I 3)) λv32=>
  aY v32
  (fld v3 7 H λv34 H=> bo (au v7 2) λv35=> bnd (st 1 v35 v34 H) λ_ H=>
   oO C v6 v7 H)
  (bo (bi .eql 3 v19 (I 4)) λv37=>
   aY v37
   (fld v3 5 H λv39 H1=> bo (au v3 7) λv40=> bnd (ld v40 H1) λv41 H3=> bo (au v7 2) λv42=> bnd (st 1 v42 v39 H3) λ_ H5=> bo (au v7 5) λv43=> bnd (st 1 v43 v41 H5) λ_ H7=> ck (bQ v40) H3 H5 <|
   oO C v6 v7 H7)
   (bo (bi .eql 3 v19 (I 5)) λv45=>
   aY v45
   (fld v3 7 H λv47 ao5=> bo (au v3 5) λv48=> bnd (ld v48 ao5) λv49 aiw=> bo (au v7 2) λv50=> bnd (st 1 v50 v47 aiw) λ_ akm=> bo (au v7 5) λv51=> bnd (st 1 v51 v49 akm) λ_ aqJ=> ck (bQ v48) aiw akm <|
    oO C v6 v7 aqJ)
   (bo (bi .eql 3 v19 (I 6)) λv53=>
    aY v53
    (fld v3 4 H λv55 aqK=> bo (au v3 5) λv56=> bnd (ld v56 aqK) λv57 aqL=> bo (au v3 6) λv58=> bnd (ld v58 aqL) λv59 am7=> bnd (lnS v59 am7) λv60 aqM=> bo (bi .gtr 3 v60 (I 0)) λv61=> bo (au v3 6) λv62=> bnd (ld v62 aqM) λv63 H9=> bnd (unG H9 (C 55 [v63] H9.guard)) λv64 H10=> bo (au v7 6) λv65=> bnd (st 1 v65 v55 H10) λ_ H12=> bo (au v7 5) λv66=> bnd (st 1 v66 v57 H12) λ_ H14=> bo (au v7 7) λv67=> bnd (st 1 v67 v61 H14) λ_ H16=> bo (au v7 8) λv68=> bnd (st 1 v68 v64 H16) λ_ H18=> ck (bQ v56) H10 H12 <| ck (bQ v58) H10 H12 <| ck (bQ v58) H12 H14 <| ck (bQ v59) H10 H12 <| ck (bQ v59) H12 H14 <|
    oO C v6 v7 H18)
    (bo (bd 112 []) λv20=> bnd (st 9 v6 v20 H) λ_ H=>
    bnd (lda 9 v6 H) λr0 _=> some (r0,H)))))))
theorem akK:Rn3 122 DF:=λ_ _ _ _ _ _ h=>
 rnG akJ Tryz.func122 (by kernel_rfl) (by kernel_rfl) h
def ae3:Ann:=⟨[(4,[0,3,11,12,13])],[],[]⟩
def Et:=qx Tryz.prog Tryz.f123 33 ae3 0
def Ak(C:aC)(t0 t3 t11 t12 t13:AV)(H:ah):OA:=
 bo (bi .add 3 t13 (I 1)) λv31=>
 Et C [t0,t3,t11,t12,v31] H
def ae4(C:aC)(a0:AV)(H:ah):OA:=
 bo (aB a0) λv7=> fld v7 1 H λv9 H=> bnd (C 164 [v9] H) λv10 H=> bnd (C 163 [v10] H) λv11 H=> bnd (lnS v11 H) λv12 H=>
 Et C [a0,(.s (Go.Value.slice none 0 0)),v11,v12,(I 0)] H
theorem UQ(C:aC)(t0 t3 t11 t12 t13:AV)(H:ah):Et C [t0,t3,t11,t12,t13] H=
 bo (bi .lss 3 t13 t12) λv14=>
 aY v14
 (bnd (ix 1 t11 t13 H) λv15 H=> bnd (ld v15 H) λv16 H=>
  bnd (C 165 [t0,v16] H) λv19 H=> bo (un .not v19) λv20=> gl v20 true (some t0) H λv22 H=> gl v20 true (some v16) H λv23 H=> gdA (some v20) true (C 166 [v22,v23] H) H λv24 H=> gl v20 true (bi .gtr 3 v24 (I 0)) H λv25 H=> bo (dF v20 v25 (B false)) λv26=>
  aY v26
  (bnd (bs 22 1 [(0,v16)] H) λv29 H=> bnd (app 3 1 8 t3 v29 H) λv30 H=>
  Ak C t0 v30 t11 t12 t13 H)
  (Ak C t0 t3 t11 t12 t13 H))
 (some (t3,H)):=
 lpE.trans (by kernel_rfl)
theorem akL:Rn1 123 ae4:=λ_ _ _ _ h=>
 rnG ae3 Tryz.func123 (by kernel_rfl) (by kernel_rfl) h
def akM:Ann:=⟨[],[(1,rF 11 [])],[]⟩
def ae5(C:aC)(a0:AV)(H:ah):OA:=
 bo (aB a0) λv4=> fld v4 1 H λv6 H=> bo (aB a0) λv8=> fld v8 0 H λv10 H=> bnd (lnS v10 H) λv11 H=> bo (bi .sub 3 v6 v11) λv12=>
 some (v12,H)
theorem akN:Rn1 124 ae5:=λ_ _ _ _ h=>
 rnG akM Tryz.func124 (by kernel_rfl) (by kernel_rfl) h
def akO:Ann:=⟨[],[(4,rF 13 []),(5,rF 8 []),(6,rF 7 [])],[]⟩
def UR(C:aC)(a0 a1:AV)(H:ah):OA:=
 bnd (C 165 [a0,a1] H) λv10 H=> gl v10 false (some a0) H λv12 H=> gl v10 false (some a1) H λv13 H=> gdA (some v10) false (C 166 [v12,v13] H) H λv14 H=> gl v10 false (bi .eql 3 v14 (I 0)) H λv15 H=> bo (dF v10 (B true) v15) λv16=>
 aY v16
 (some (.tup [(I 0),(I 0),(B false)],H))
 (bo (aB a0) λv18=> fld v18 1 H λv20 H=> bnd (lk .i64 (.slice none 0 0) v20 a1 false H) λv22 H=> bnd (ix 2 v22 (I 0) H) λv23 H=> bnd (lda 2 v23 H) λv24 H=> bnd (alc 258 [zI,zI] H) λv7 H=> bnd (st 2 v7 v24 H) λ_ H=>
  bo (aB a0) λv26=> fld v26 1 H λv28 H=> bo (aB a0) λv31=> fld v31 1 H λv33 H=> bnd (lk .i64 (.slice none 0 0) v33 a1 false H) λv35 H=> bo (slS 2 v35 (some (I 1)) none none) λv36=> bnd (mup .i64 v28 a1 v36 H) λ_ H=>
  bo (aB a0) λv38=> fld v38 0 H λv40 H=> fld v7 0 H λv43 H=> bnd (mup .i64 v40 a1 v43 H) λ_ H=>
  fld v7 0 H λv45 H=> fld v7 1 H λv47 H=>
  some (.tup [v45,v47,(B true)],H))
theorem akP:Rn2 125 UR:=λ_ _ _ _ _ h=>
 rnG akO Tryz.func125 (by kernel_rfl) (by kernel_rfl) h
def akQ:Ann:=⟨[],[(2,rF 15 [])],[]⟩
def ae6(C:aC)(a0 a1 a2 a3:AV)(H:ah):OA:=
 bnd (alc 112 [zI,zI,zI,zI,zI,zI,zI,zB,zN] H) λv8 H=>
 bo (aB a0) λv13=> fld v13 0 H λv15 H=> bnd (C 167 [v15,a1] H) λv17 H=> bo (aK v17 0) λv18=> bo (aK v17 1) λv19=> bnd (alc 199 [zI,zI,zN] H) λv9 H=> bnd (st 3 v9 v18 H) λ_ H=>
 bo (aB a0) λv21=> fld v21 10 H λv23 H=> fld v9 0 H λv28 H=> fld v9 1 H λv30 H=> fld v9 2 H λv32 H=> bo (bd 112 [(0,(I 7)),(1,v23),(2,a2),(3,a3),(4,a1),(6,v28),(5,v30),(8,v32)]) λv33=> bnd (st 9 v8 v33 H) λ_ H=>
 bnd (lda 9 v8 H) λr0 _=> some (r0,H)
theorem akR:Rn4 126 ae6:=λ_ _ _ _ _ _ _ h=>
 rnG akQ Tryz.func126 (by kernel_rfl) (by kernel_rfl) h
def Zn(C:aC)(a0:AV)(H:ah):OA:=
 bnd (jD 112 a0 H) λv1 H=>
 fld v1 1 H λv6 H=> bnd (C 168 [v6,(I 0),(I 6)] H) λv7 H=> gl v7 true (au v1 2) H λv9 H=> gdA (some v7) true (ld v9 H) H λv10 H=> gdA (some v7) true (C 168 [v10,(I 0),(I 6)] H) H λv11 H=> bo (dF v7 v11 (B false)) λv12=> gl v12 true (au v1 3) H λv14 H=> gdA (some v12) true (ld v14 H) H λv15 H=> gdA (some v12) true (C 168 [v15,(I 0),(I 4096)] H) H λv16 H=> bo (dF v12 v16 (B false)) λv17=>
 fld v1 0 H λv19 H=> bnd (C 168 [v19,(I 1),(I 10)] H) λv20 H=> gl v20 true (au v1 4) H λv22 H=> gdA (some v20) true (ld v22 H) H λv23 H=> gdA (some v20) true (C 168 [v23,(I 0),(I 8)] H) H λv24 H=> bo (dF v20 v24 (B false)) λv25=> gl v25 true (au v1 5) H λv27 H=> gdA (some v25) true (ld v27 H) H λv28 H=> gdA (some v25) true (C 168 [v28,(I (-1)),(I 6)] H) H λv29 H=> bo (dF v25 v29 (B false)) λv30=>
 bo (un .not v17) λv32=> gl v32 false (some v30) H λv34 H=> gl v32 false (un .not v34) H λv35 H=> bo (dF v32 (B true) v35) λv36=> gl v36 false (au v1 6) H λv38 H=> gdA (some v36) false (ld v38 H) H λv39 H=> gdA (some v36) false (C 168 [v39,(I 0),(I 3)] H) H λv40 H=> gl v36 false (un .not v40) H λv41 H=> bo (dF v36 (B true) v41) λv42=> gl v42 false (au v1 8) H λv44 H=> gdA (some v42) false (ld v44 H) H λv45 H=> gdA (some v42) false (lnS v45 H) H λv46 H=> gl v42 false (bi .gtr 3 v46 (I 4)) H λv47 H=> bo (dF v42 (B true) v47) λv48=>
 aY v48
 (some ((I 1),H))
 (some ((I 0),H))
theorem ae7:Rn1 127 Zn:=λ_ _ _ _ h=>
 rnG an0 Tryz.func127 (by kernel_rfl) (by kernel_rfl) h
def akS:Ann:=⟨[],[(3,rF 6 (some true::rF 5 []))],[]⟩
def Zo(C:aC)(a0 a1:AV)(H:ah):OA:=
 bnd (jD 112 a1 H) λv3 H=>
 bnd (C 124 [a0] H) λv6 H=> bo (bi .eql 3 v6 (I 0)) λv7=>
 aY v7
 (some ((I 5),H))
 (bo (aB a0) λv10=> fld v10 0 H λv12 H=> bnd (lda 9 v3 H) λv13 H=> bnd (unG H (C 138 [v13] H.guard)) λv14 H=> bnd (bs 136 1 [(0,v14)] H) λv15 H=> bnd (app 112 9 88 v12 v15 H) λv16 H=> bo (aB a0) λv17=> bo (au v17 0) λv18=> bnd (st 1 v18 v16 H) λ_ H=>
  some ((I 0),H))
theorem ae8:Rn2 128 Zo:=λ_ _ _ _ _ h=>
 rnG akS Tryz.func128 (by kernel_rfl) (by kernel_rfl) h
def akT:Ann:=⟨[],[(1,rF 23 []),(4,rF 6 (some true::rF 15 [])),(7,rF 12 []),(13,rF 14 [])],[]⟩
def tq(C:aC)(a0 a1:AV)(H:ah):OA:=
 bnd (jD 112 a1 H) λv3 H=> bnd (alc 112 [zI,zI,zI,zI,zI,zI,zI,zB,zN] H) λv4 H=>
 bnd (lda 9 v3 H) λv9 H=> bnd (C 127 [v9] H) λv10 H=> bo (bi .eql 48 v10 (I 0)) λv11=> gl v11 true (au v3 2) H λv13 H=> gdA (some v11) true (ld v13 H) H λv14 H=> gl v11 true (some a0) H λv15 H=> gl v11 true (aB v15) H λv16 H=> gl v11 true (au v16 10) H λv17 H=> gdA (some v11) true (ld v17 H) H λv18 H=> gl v11 true (bi .eql 3 v14 v18) H λv19 H=> bo (dF v11 v19 (B false)) λv20=> gl v20 true (au v3 1) H λv22 H=> gdA (some v20) true (ld v22 H) H λv23 H=> gl v20 true (some a0) H λv24 H=> gl v20 true (aB v24) H λv25 H=> gl v20 true (au v25 2) H λv26 H=> gl v20 true (au v26 0) H λv27 H=> gdA (some v20) true (ld v27 H) H λv28 H=> gl v20 true (bi .lss 3 v23 v28) H λv29 H=> bo (dF v20 v29 (B false)) λv30=>
 bo (un .not v30) λv32=> gl v32 false (au v3 0) H λv34 H=> gdA (some v32) false (ld v34 H) H λv35 H=> gl v32 false (bi .neq 3 v35 (I 1)) H λv36 H=> gl v32 false (some v36) H λv37 H=> gl v37 true (au v3 0) H λv38 H=> gdA (some v37) true (ld v38 H) H λv39 H=> gl v37 true (bi .neq 3 v39 (I 2)) H λv40 H=> gl v32 false (dF v37 v40 (B false)) H λv41 H=> bo (dF v32 (B true) v41) λv42=>
 aY v42
 (bo (bd 112 []) λv43=> bnd (st 9 v4 v43 H) λ_ H=>
  bnd (lda 9 v4 H) λr0 _=> some (.tup [r0,(B false),(I 1)],H))
 (bo (aB a0) λv45=> bo (au v45 2) λv46=> bnd (lda 8 v46 H) λv47 H=> fld v3 4 H λv49 H=> bnd (unG H (C 111 [v47,v49] H.guard)) λv50 H=> bo (aB a0) λv52=> fld v52 10 H λv54 H=> bo (bi .neq 3 v50 v54) λv55=> gl v55 false (au v3 4) H λv57 H=> gdA (some v55) false (ld v57 H) H λv58 H=> gl v55 false (some a0) H λv59 H=> gl v55 false (aB v59) H λv60 H=> gl v55 false (au v60 2) H λv61 H=> gl v55 false (au v61 1) H λv62 H=> gdA (some v55) false (ld v62 H) H λv63 H=> gl v55 false (bi .geq 3 v58 v63) H λv64 H=> bo (dF v55 (B true) v64) λv65=>
  aY v65
  (bo (bd 112 []) λv66=> bnd (st 9 v4 v66 H) λ_ H=>
  bnd (lda 9 v4 H) λr0 _=> some (.tup [r0,(B false),(I 3)],H))
  (fld v3 0 H λv68 H=> bo (bi .eql 3 v68 (I 1)) λv69=>
  aY v69
  (bo (aB a0) λv71=> fld v71 1 H λv73 H=> fld v3 4 H λv75 H=> fld v3 1 H λv77 H=> fld v3 3 H λv79 H=> bnd (C 169 [v73,v75,v77,v79] H) λv80 H=> bo (un .not v80) λv81=>
   aY v81
   (bo (bd 112 []) λv82=> bnd (st 9 v4 v82 H) λ_ H=>
   bnd (lda 9 v4 H) λr0 _=> some (.tup [r0,(B false),(I 0)],H))
   (fld v3 4 H λv85 H=> fld v3 1 H λv87 H=> fld v3 3 H λv89 H=> bnd (C 126 [a0,v85,v87,v89] H) λv90 H=> bnd (st 9 v4 v90 H) λ_ H=>
   bnd (lda 9 v4 H) λr0 _=> some (.tup [r0,(B true),(I 0)],H)))
  (bnd (lda 9 v3 H) λv92 H=> bnd (C 170 [a0,v92] H) λv93 H=>
   bo (bi .neq 48 v93 (I 0)) λv95=>
   aY v95
   (bo (bd 112 []) λv96=> bnd (st 9 v4 v96 H) λ_ H=>
   bnd (lda 9 v4 H) λr0 _=> some (.tup [r0,(B false),v93],H))
   (bo (aB a0) λv99=> fld v99 10 H λagV H=> fld v3 1 H λaeU H=> fld v3 3 H λv105 H=> fld v3 4 H λv107 H=> bo (bd 112 [(0,(I 8)),(1,agV),(2,aeU),(3,v105),(4,v107)]) λaeV=> bnd (st 9 v4 aeV H) λ_ H=>
   bnd (lda 9 v4 H) λr0 _=> some (.tup [r0,(B true),(I 0)],H)))))
theorem akU:Rn2 129 tq:=λ_ _ _ _ _ h=>
 rnG akT Tryz.func129 (by kernel_rfl) (by kernel_rfl) h
def akV:Ann:=⟨[],[(6,some false::some false::some true::rF 9 (none::some false::[])),(9,rF 8 []),(17,rF 13 []),(20,rF 6 [])],[(9,[(3,5)]),(17,[(3,8),(6,8),(6,10)]),(20,[(0,3)])]⟩
def xE(C:aC)(t0 t4 t6 t8:AV)(H:ah):OA:=
 bnd (lda 9 t8 H) λv89 H0=> bnd (lda 6 t6 H0) λv91 H2=> bnd (C 121 [t0,v91] H2) λv92 H3=> bnd (st 9 t4 v89 H3) λ_ H4=> ck (bQ t8) H2 H3 <|
 bnd (lda 9 t4 H4) λr0 _=> some (.tup [r0,v92],H4)
def Am(C:aC)(a0 a1:AV)(H:ah):OA:=
 bnd (jD 112 a1 H) λv3 H=> bnd (alc 112 [zI,zI,zI,zI,zI,zI,zI,zB,zN] H) λv4 H=>
 bnd (lda 9 v3 H) λv9 H=> bnd (C 127 [v9] H) λv10 H=> bo (bi .neq 48 v10 (I 0)) λv11=> gl v11 false (au v3 0) H λv13 H=> gdA (some v11) false (ld v13 H) H λv14 H=> gl v11 false (bi .lss 3 v14 (I 3)) H λv15 H=> bo (dF v11 (B true) v15) λv16=> gl v16 false (au v3 0) H λv18 H=> gdA (some v16) false (ld v18 H) H λv19 H=> gl v16 false (bi .gtr 3 v19 (I 6)) H λv20 H=> bo (dF v16 (B true) v20) λv21=>
 aY v21
 (bo (bd 112 []) λv22=> bnd (st 9 v4 v22 H) λ_ H=>
  bnd (lda 9 v4 H) λr0 _=> some (.tup [r0,(I 1)],H))
 (fld v3 4 H λv26 H=> bnd (C 87 [a0,v26] H) λv27 H=> bo (aK v27 0) λv28=> bo (aK v27 1) λv29=> bnd (alc 166 [zI,zI,zI,zI,zB,zN] H) λv6 H=> bnd (st 6 v6 v28 H) λ_ H=>
  bo (un .not v29) λv31=>
  aY v31
  (bo (bd 112 []) λv32=> bnd (st 9 v4 v32 H) λ_ H=>
  bnd (lda 9 v4 H) λr0 _=> some (.tup [r0,(I 3)],H))
  (bnd (alc 112 [zI,zI,zI,zI,zI,zI,zI,zB,zN] H) λv8 H=> fld v3 0 H λv34 H=> bnd (unG H (C 171 [v34] H.guard)) λv35 H=> fld v3 2 H λv37 H=> fld v3 1 H λv39 H=> fld v3 3 H λv41 H=> fld v3 4 H λv43 H=> bo (bd 112 [(0,v35),(1,v37),(2,v39),(3,v41),(4,v43)]) λv44=> bnd (st 9 v8 v44 H) λ_ H=>
  fld v3 0 H λv46 H=>
  bo (bi .eql 3 v46 (I 3)) λv48=>
  aY v48
  (fld v6 5 H λv50 H1=> bo (au v6 4) λv51=> bnd (ld v51 H1) λv52 H3=> bo (au v8 8) λv53=> bnd (st 1 v53 v50 H3) λ_ H5=> bo (au v8 7) λv54=> bnd (st 1 v54 v52 H5) λ_ H7=> ck (bQ v51) H3 H5 <|
   bo (au v6 4) λv55=> bnd (st 1 v55 (B false) H7) λ_ H7=>
   bo (au v6 0) λv56=> fld v3 5 H7 λv58 H7=> bnd (C 172 [v56,v58] H7) λv59 H7=>
   xE C a0 v4 v6 v8 H7)
  (bo (bi .eql 3 v46 (I 4)) λv61=>
   aY v61
   (bo (au v6 0) λv62=> fld v3 5 H λv64 H=> bnd (C 173 [v62,v64] H) λv65 H=>
   xE C a0 v4 v6 v8 H)
   (bo (bi .eql 3 v46 (I 5)) λv67=>
   aY v67
   (bo (au v6 0) λv68=> fld v3 5 H λv70 H=> bnd (C 172 [v68,v70] H) λv71 H=>
    xE C a0 v4 v6 v8 H)
   (bo (bi .eql 3 v46 (I 6)) λv73=>
    aY v73
    (fld v6 5 H λv75 ao5=> bo (au v6 4) λv76=> bnd (ld v76 ao5) λv77 aiw=> bo (au v6 0) λv78=> bo (au v78 0) λv79=> bnd (ld v79 aiw) λv80 akW=> bo (au v8 8) λv81=> bnd (st 1 v81 v75 akW) λ_ H8=> bo (au v8 7) λv82=> bnd (st 1 v82 v77 H8) λ_ H10=> bo (au v8 5) λv83=> bnd (st 1 v83 v80 H10) λ_ H12=> ck (bQ v76) akW H8 <| ck (bQ v79) akW H8 <| ck (bQ v79) H8 H10 <|
    fld v3 4 H12 λv86 H12=> bnd (C 174 [a0,v86] H12) λv87 H12=>
    bnd (lda 9 v8 H12) λv88 H12=> bnd (st 9 v4 v88 H12) λ_ H12=>
    bnd (lda 9 v4 H12) λr0 _=> some (.tup [r0,(I 0)],H12))
    (xE C a0 v4 v6 v8 H))))))
theorem ae9:Rn2 130 Am:=λ_ _ _ _ _ h=>
 rnG akV Tryz.func130 (by kernel_rfl) (by kernel_rfl) h
def afa(C:aC)(a0:AV)(H:ah):OA:=
 bnd (jD 26 a0 H) λv1 H=>
 fld v1 1 H λv4 H=> fld v1 2 H λv6 H=> bo (bi .mul 3 v4 v6) λv7=>
 some (v7,H)
theorem akX:Rn1 131 afa:=λ_ _ _ _ h=>
 rnG an0 Tryz.func131 (by kernel_rfl) (by kernel_rfl) h
def afb(C:aC)(a0 a1:AV)(H:ah):OA:=
 bnd (jD 3 a1 H) λv3 H=>
 bo (aB a0) λv6=> fld v6 0 H λv8 H=> bnd (C 175 [v8,(.fn (.func 176) [] [v3])] H) λv10 H=>
 some (v10,H)
theorem akY:Rn2 132 afb:=λ_ _ _ _ _ h=>
 rnG an0 Tryz.func132 (by kernel_rfl) (by kernel_rfl) h
def afc(C:aC)(a0:AV)(H:ah):OA:=
 bnd (jD 166 a0 H) λv1 H=> bnd (alc 166 [zI,zI,zI,zI,zB,zN] H) λv2 H=>
 fld v1 5 H λv4 H=> bnd (C 55 [v4] H) λv5 H=> bo (au v1 5) λv6=> bnd (st 1 v6 v5 H) λ_ H=>
 bnd (lda 6 v1 H) λv7 H=> bnd (st 6 v2 v7 H) λ_ H=>
 bnd (lda 6 v2 H) λr0 _=> some (r0,H)
theorem akZ:Rn1 133 afc:=λ_ _ _ _ h=>
 rnG an0 Tryz.func133 (by kernel_rfl) (by kernel_rfl) h
def afd(C:aC)(a0 a1 a2:AV)(H:ah):OA:=
 bnd (alc 44 [zI,zI,zI,zI,zI,zI,zN,zI,zI] H) λv6 H=>
 bo (bd 44 [(0,a0),(1,a1),(2,a2),(3,(I 1)),(5,(I (-1))),(7,(I (-1))),(8,(I (-1)))]) λv10=> bnd (st 9 v6 v10 H) λ_ H=>
 bnd (lda 9 v6 H) λr0 _=> some (r0,H)
theorem ak0:Rn3 134 afd:=λ_ _ _ _ _ _ h=>
 rnG an0 Tryz.func134 (by kernel_rfl) (by kernel_rfl) h
def afe:Ann:=⟨[(4,[0,1,5,11,12,13])],[(5,rF 18 [])],[]⟩
def Eu:=qx Tryz.prog Tryz.f135 41 afe 0
def Ap(C:aC)(t0 t1 t5 t11 t12 t13:AV)(H:ah):OA:=
 bo (bi .add 3 t13 (I 1)) λv39=>
 Eu C [t0,t1,t5,t11,t12,v39] H
def aff(C:aC)(a0 a1:AV)(H:ah):OA:=
 bo (aB a0) λv9=> fld v9 0 H λv11 H=> bnd (lnS v11 H) λv12 H=>
 Eu C [a0,a1,(.s (Go.Value.slice none 0 0)),v11,v12,(I 0)] H
theorem UU(C:aC)(t0 t1 t5 t11 t12 t13:AV)(H:ah):Eu C [t0,t1,t5,t11,t12,t13] H=
 bo (bi .lss 3 t13 t12) λv14=>
 aY v14
 (bnd (ix 6 t11 t13 H) λv15 H=> bnd (lda 6 v15 H) λv16 H=> bnd (alc 166 [zI,zI,zI,zI,zB,zN] H) λv7 H=> bnd (st 6 v7 v16 H) λ_ H=>
  bo (bi .geq 3 t1 (I 0)) λv18=> gl v18 true (au v7 2) H λv20 H=> gdA (some v18) true (ld v20 H) H λv21 H=> gl v18 true (some t0) H λv22 H=> gl v18 true (aB v22) H λv23 H=> gl v18 true (au v23 1) H λv24 H=> gdA (some v18) true (ld v24 H) H λv25 H=> gl v18 true (bi .rem 3 v21 v25) H λv26 H=> gl v18 true (some t1) H λv27 H=> gl v18 true (some t0) H λv28 H=> gl v18 true (aB v28) H λv29 H=> gl v18 true (au v29 1) H λv30 H=> gdA (some v18) true (ld v30 H) H λv31 H=> gl v18 true (bi .rem 3 v27 v31) H λv32 H=> gl v18 true (bi .eql 3 v26 v32) H λv33 H=> bo (dF v18 v33 (B false)) λv34=>
  aY v34
  (bnd (lda 6 v7 H) λv36 H=> bnd (bs 141 1 [(0,v36)] H) λv37 H=> bnd (app 166 6 64 t5 v37 H) λv38 H=>
  Ap C t0 t1 v38 t11 t12 t13 H)
  (Ap C t0 t1 t5 t11 t12 t13 H))
 (some (t5,H)):=
 lpE.trans (by kernel_rfl)
theorem ak1:Rn2 135 aff:=λ_ _ _ _ _ h=>
 rnG afe Tryz.func135 (by kernel_rfl) (by kernel_rfl) h
def afg:Ann:=⟨[(6,[0,1,4,5,6])],[(7,rF 8 [])],[]⟩
def Ew:=qx Tryz.prog Tryz.f136 33 afg 0
def LW(C:aC)(t0 t1 t4:AV)(H:ah):OA:=
 bnd (ix 6 t0 (I 0) H) λv12 H=> bnd (lda 6 v12 H) λv13 H=> bnd (alc 166 [zI,zI,zI,zI,zB,zN] H) λv5 H=> bnd (st 6 v5 v13 H) λ_ H=>
 Ew C [t0,t1,t4,v5,(I 1)] H
def Ey(C:aC)(t0 t1 t4 t5 t6:AV)(H:ah):OA:=
 bo (bi .add 3 t6 (I 1)) λv19=>
 Ew C [t0,t1,t4,t5,v19] H
def afh(C:aC)(a0 a1:AV)(H:ah):OA:=
 bnd (alc 166 [zI,zI,zI,zI,zB,zN] H) λv4 H=>
 bnd (lnS a0 H) λv8 H=> bo (bi .lss 3 v8 (I 1)) λv9=>
 aY v9
 (bnd (stk H) λv10 H=> bnd (stk H) λ_ H=>
  LW C a0 a1 v4 H)
 (LW C a0 a1 v4 H)
theorem UW(C:aC)(t0 t1 t4 t5 t6:AV)(H:ah):Ew C [t0,t1,t4,t5,t6] H=
 bnd (lnS t0 H) λv16 H=> bo (bi .lss 3 t6 v16) λv17=>
 aY v17
 (bnd (ix 6 t0 t6 H) λv23 H=> bnd (lda 6 v23 H) λv24 H=> bnd (lda 6 t5 H) λv25 H=> bnd (yH Tryz.prog C t1 [v24,v25] H) λv26 H=> bo (bi .lss 3 v26 (I 0)) λv27=>
  aY v27
  (bnd (ix 6 t0 t6 H) λv30 H=> bnd (lda 6 v30 H) λv31 H=> bnd (st 6 t5 v31 H) λ_ H=>
  Ey C t0 t1 t4 t5 t6 H)
  (Ey C t0 t1 t4 t5 t6 H))
 (bnd (lda 6 t5 H) λv32 H=> bnd (st 6 t4 v32 H) λ_ H=>
  bnd (lda 6 t4 H) λr0 _=> some (r0,H)):=
 lpE.trans (by kernel_rfl)
theorem ak2:Rn2 136 afh:=λ_ _ _ _ _ h=>
 rnG afg Tryz.func136 (by kernel_rfl) (by kernel_rfl) h
def afi(C:aC)(a0 a1:AV)(H:ah):OA:=
 bnd (jD 166 a0 H) λv2 H=> bnd (jD 166 a1 H) λv3 H=>
 fld v2 3 H λv6 H=> fld v3 3 H λv8 H=> bo (bi .sub 3 v6 v8) λv9=>
 some (v9,H)
theorem ak3:Rn2 137 afi:=λ_ _ _ _ _ h=>
 rnG an0 Tryz.func137 (by kernel_rfl) (by kernel_rfl) h
def afj(C:aC)(a0:AV)(H:ah):OA:=
 bnd (jD 112 a0 H) λv1 H=> bnd (alc 112 [zI,zI,zI,zI,zI,zI,zI,zB,zN] H) λv2 H=>
 fld v1 8 H λv4 H=> bnd (C 55 [v4] H) λv5 H=> bo (au v1 8) λv6=> bnd (st 1 v6 v5 H) λ_ H=>
 bnd (lda 9 v1 H) λv7 H=> bnd (st 9 v2 v7 H) λ_ H=>
 bnd (lda 9 v2 H) λr0 _=> some (r0,H)
theorem ak4:Rn1 138 afj:=λ_ _ _ _ h=>
 rnG an0 Tryz.func138 (by kernel_rfl) (by kernel_rfl) h
def Zp(C:aC)(a0:AV)(H:ah):OA:=
 aY a0
 (some ((.s (Go.Value.int Go.IntKind.u8 1)),H))
 (some ((.s (Go.Value.int Go.IntKind.u8 0)),H))
theorem ak5:Rn1 139 Zp:=λ_ _ _ _ h=>
 rnG an0 Tryz.func139 (by kernel_rfl) (by kernel_rfl) h
def afk:Ann:=⟨[(4,[0,3,4])],[],[]⟩
def Ez:=qx Tryz.prog Tryz.f140 17 afk 0
def afl(C:aC)(a0:AV)(H:ah):OA:=
 Ez C [a0,(.s (Go.Value.slice none 0 0)),(I 56)] H
theorem UY(C:aC)(t0 t3 t4:AV)(H:ah):Ez C [t0,t3,t4] H=
 bo (bi .geq 3 t4 (I 0)) λv6=>
 aY v6
 (bo (bi .shr 3 t0 t4) λv12=> bnd (cv 3 5 v12 H) λv13 H=> bnd (bs 172 1 [(0,v13)] H) λv14 H=> bnd (app 5 1 1 t3 v14 H) λv15 H=>
  bo (bi .sub 3 t4 (I 8)) λv8=>
  Ez C [t0,v15,v8] H)
 (some (t3,H)):=
 lpE.trans (by kernel_rfl)
theorem ak6:Rn1 140 afl:=λ_ _ _ _ h=>
 rnG afk Tryz.func140 (by kernel_rfl) (by kernel_rfl) h
def afm(C:aC)(a0:AV)(H:ah):OA:=
 bnd (C 177 [a0] H) λv5 H=>
 bo (bi .shr 50 v5 (.s (Go.Value.int Go.IntKind.u64 8))) λv8=> bnd (cv 50 5 v8 H) λv9 H=> bnd (cv 50 5 v5 H) λv11 H=> bnd (bs 172 2 [(0,v9),(1,v11)] H) λv12 H=> bnd (bs 286 2 [(0,a0),(1,v12)] H) λv13 H=> bnd (C 178 [v13] H) λv14 H=>
 some (v14,H)
theorem ak7:Rn1 141 afm:=λ_ _ _ _ h=>
 rnG an0 Tryz.func141 (by kernel_rfl) (by kernel_rfl) h
def UZ(C:aC)(a0:AV)(H:ah):OA:=
 bnd (lnS a0 H) λv6 H=> bo (bi .sub 3 v6 (I 2)) λv7=>
 bo (bi .lss 3 v7 (I 0)) λv9=> gl v9 false (some a0) H λv11 H=> gl v9 false (some v7) H λv12 H=> gl v9 false (slS 1 v11 none (some v12) none) H λv13 H=> gdA (some v9) false (C 141 [v13] H) H λv14 H=> gl v9 false (some a0) H λv15 H=> gdA (some v9) false (C 145 [v14,v15] H) H λv16 H=> gl v9 false (un .not v16) H λv17 H=> bo (dF v9 (B true) v17) λv18=>
 aY v18
 (some (.tup [(.s (Go.Value.slice none 0 0)),(B false)],H))
 (bo (slS 1 a0 none (some v7) none) λv21=> bnd (C 146 [v21] H) λv22 H=>
  some (.tup [v22,(B true)],H))
theorem Zq:Rn1 142 UZ:=λ_ _ _ _ h=>
 rnG an0 Tryz.func142 (by kernel_rfl) (by kernel_rfl) h
def LX(C:aC)(t2 t3:AV)(H:ah):OA:=
 some ((.fn (.func 179) [] [t2,t3]),H)
def afn(C:aC)(a0 a1:AV)(H:ah):OA:=
 bnd (jD 172 a0 H) λv2 H=> bnd (jD 3 a1 H) λv3 H=>
 bnd (ld v3 H) λv5 H=> bo (bi .lss 3 v5 (I 1)) λv6=>
 aY v6
 (bnd (stk H) λv7 H=> bnd (stk H) λ_ H=>
  LX C v2 v3 H)
 (LX C v2 v3 H)
theorem ak8:Rn2 143 afn:=λ_ _ _ _ _ h=>
 rnG an0 Tryz.func143 (by kernel_rfl) (by kernel_rfl) h
def afo:Ann:=⟨[(4,[3,6,7,8])],[],[]⟩
def EC:=qx Tryz.prog Tryz.f144 20 afo 0
def afp(C:aC)(a0:AV)(H:ah):OA:=
 bnd (lnS a0 H) λv7 H=>
 EC C [(.s (Go.Value.int Go.IntKind.u64 0)),a0,v7,(I 0)] H
theorem U0(C:aC)(t3 t6 t7 t8:AV)(H:ah):EC C [t3,t6,t7,t8] H=
 bo (bi .lss 3 t8 t7) λv9=>
 aY v9
 (bnd (ix 1 t6 t8 H) λv10 H=> bnd (ld v10 H) λv11 H=>
  bo (bi .shl 268 t3 (.s (Go.Value.int Go.IntKind.u64 8))) λv13=> bnd (cv 5 268 v11 H) λv15 H=> bo (bi .or 268 v13 v15) λv16=>
  bo (bi .add 3 t8 (I 1)) λv17=>
  EC C [v16,t6,t7,v17] H)
 (bnd (cv 268 3 t3 H) λv19 H=>
  some (v19,H)):=
 lpE.trans (by kernel_rfl)
theorem ak9:Rn1 144 afp:=λ_ _ _ _ h=>
 rnG afo Tryz.func144 (by kernel_rfl) (by kernel_rfl) h
def afq(C:aC)(a0 a1:AV)(H:ah):OA:=
 bnd (cv 172 9 a0 H) λv6 H=> bnd (cv 172 9 a1 H) λv8 H=> bo (bi .eql 9 v6 v8) λv9=>
 some (v9,H)
theorem ala:Rn2 145 afq:=λ_ _ _ _ _ h=>
 rnG an0 Tryz.func145 (by kernel_rfl) (by kernel_rfl) h
def afr(C:aC)(a0:AV)(H:ah):OA:=
 bo (bi .eql 172 a0 (.s (Go.Value.slice none 0 0))) λv4=>
 aY v4
 (some ((.s (Go.Value.slice none 0 0)),H))
 (bnd (bs 172 0 [] H) λv5 H=> bnd (app 5 1 1 v5 a0 H) λv7 H=>
  some (v7,H))
theorem alb:Rn1 146 afr:=λ_ _ _ _ h=>
 rnG an0 Tryz.func146 (by kernel_rfl) (by kernel_rfl) h
def Zr(C:aC)(a0 a1:AV)(H:ah):OA:=
 bo (bi .lss 3 a0 (I 0)) λv6=>
 aY v6
 (some ((I (-1)),H))
 (bo (bi .rem 3 a0 a1) λv9=>
  some (v9,H))
theorem ald:Rn2 153 Zr:=λ_ _ _ _ _ h=>
 rnG an0 Tryz.func153 (by kernel_rfl) (by kernel_rfl) h
def ED(C:aC)(t2 t4 t5:AV)(H:ah):OA:=
 bnd (lda 9 t4 H) λv20 H=> bnd (st 9 t2 v20 H) λ_ H=>
 bnd (lda 9 t2 H) λr0 _=> some (.tup [r0,t5],H)
def Zt(C:aC)(a0:AV)(H:ah):OA:=
 bnd (alc 112 [zI,zI,zI,zI,zI,zI,zI,zB,zN] H) λv2 H=>
 bnd (C 180 [a0] H) λv8 H=> bo (aK v8 0) λv9=> bo (aK v8 1) λv10=> bnd (alc 112 [zI,zI,zI,zI,zI,zI,zI,zB,zN] H) λv4 H=> bnd (st 9 v4 v9 H) λ_ H=>
 aY v10
 (bo (aB a0) λv14=> fld v14 0 H λv16 H=> bnd (C 98 [v16,(I 0),(I 1)] H) λv17 H=> bo (aB a0) λv18=> bo (au v18 0) λv19=> bnd (st 1 v19 v17 H) λ_ H=>
  ED C v2 v4 v10 H)
 (ED C v2 v4 v10 H)
theorem ale:Rn1 154 Zt:=λ_ _ _ _ h=>
 rnG an0 Tryz.func154 (by kernel_rfl) (by kernel_rfl) h
def JD(C:aC)(a0 a1:AV)(H:ah):OA:=
 bnd (jD 44 a0 H) λv2 H=> bnd (jD 112 a1 H) λv3 H=>
 fld v2 3 H λv7 H=> bnd (C 162 [v7] H) λv8 H=> bnd (C 171 [v8] H) λv9 H=>
 bo (bi .neq 3 v9 (I 0)) λv11=> gl v11 true (au v3 0) H λv13 H=> gdA (some v11) true (ld v13 H) H λv14 H=> gl v11 true (some v9) H λv15 H=> gl v11 true (bi .eql 3 v14 v15) H λv16 H=> bo (dF v11 v16 (B false)) λv17=> gl v17 true (au v3 3) H λv19 H=> gdA (some v17) true (ld v19 H) H λv20 H=> gl v17 true (au v2 2) H λv21 H=> gdA (some v17) true (ld v21 H) H λv22 H=> gl v17 true (bi .eql 3 v20 v22) H λv23 H=> bo (dF v17 v23 (B false)) λv24=> gl v24 true (au v3 4) H λv26 H=> gdA (some v24) true (ld v26 H) H λv27 H=> gl v24 true (au v2 1) H λv28 H=> gdA (some v24) true (ld v28 H) H λv29 H=> gl v24 true (bi .eql 3 v27 v29) H λv30 H=> bo (dF v24 v30 (B false)) λv31=>
 some (v31,H)
theorem alf:Rn2 155 JD:=λ_ _ _ _ _ h=>
 rnG an0 Tryz.func155 (by kernel_rfl) (by kernel_rfl) h
def alg:Ann:=⟨[],[(1,rF 8 (some true::rF 8 []))],[(1,[(3,10),(5,10),(5,12)])]⟩
def Zu(C:aC)(a0 a1 a2 a3:AV)(H:ah):OA:=
 bnd (jD 44 a0 H) λv4 H=> bnd (jD 112 a3 H) λv7 H=> bnd (alc 44 [zI,zI,zI,zI,zI,zI,zN,zI,zI] H) λv8 H=>
 fld v7 6 H λv11 H1=> bo (au v7 5) λv12=> bnd (ld v12 H1) λv13 H3=> bo (au v7 5) λv14=> bnd (ld v14 H3) λv15 H5=> fld v7 8 H5 λv17 H7=> bnd (unG H7 (C 55 [v17] H7.guard)) λv18 H8=> bo (au v4 4) λv19=> bnd (st 1 v19 v11 H8) λ_ H10=> bo (au v4 5) λv20=> bnd (st 1 v20 v13 H10) λ_ H12=> bo (au v4 8) λv21=> bnd (st 1 v21 v15 H12) λ_ H14=> bo (au v4 6) λv22=> bnd (st 1 v22 v18 H14) λ_ H16=> ck (bQ v12) H8 H10 <| ck (bQ v14) H8 H10 <| ck (bQ v14) H10 H12 <|
 fld v4 4 H16 λv24 H16=> bo (bi .neq 3 v24 (I 0)) λv25=>
 aY v25
 (bo (au v4 3) λv26=> bnd (st 1 v26 (I 2) H16) λ_ H16=>
  bnd (lda 9 v4 H16) λv27 H16=> bnd (st 9 v8 v27 H16) λ_ H16=>
  bnd (lda 9 v8 H16) λr0 _=> some (.tup [r0,(B true)],H16))
 (fld v4 1 H16 λv30 H16=> fld v7 8 H16 λv32 H16=> bnd (C 181 [v30,(I (-1)),(I (-1)),(B false),v32] H16) λv33 H16=> bnd (C 121 [a2,v33] H16) λv34 H16=>
  bo (au v4 3) λv36=> bnd (st 1 v36 (I 6) H16) λ_ H16=> bo (au v4 4) λv37=> bnd (st 1 v37 (I 1) H16) λ_ H16=> bo (au v4 5) λv38=> bnd (st 1 v38 a1 H16) λ_ H16=> bo (au v4 6) λv39=> bnd (st 1 v39 (.s (Go.Value.slice none 0 0)) H16) λ_ H16=>
  bnd (lda 9 v4 H16) λv40 H16=> bnd (st 9 v8 v40 H16) λ_ H16=>
  bnd (lda 9 v8 H16) λr0 _=> some (.tup [r0,(B true)],H16))
theorem alh:Rn4 156 Zu:=λ_ _ _ _ _ _ _ h=>
 rnG alg Tryz.func156 (by kernel_rfl) (by kernel_rfl) h
def EF(C:aC)(t4 t8:AV)(H:ah):OA:=
 bnd (lda 9 t4 H) λv30 H=> bnd (st 9 t8 v30 H) λ_ H=>
 bnd (lda 9 t8 H) λr0 _=> some (.tup [r0,(B true)],H)
def Zv(C:aC)(a0 a1 a2 a3:AV)(H:ah):OA:=
 bnd (jD 44 a0 H) λv4 H=> bnd (jD 112 a3 H) λv7 H=> bnd (alc 44 [zI,zI,zI,zI,zI,zI,zN,zI,zI] H) λv8 H=>
 fld v4 1 H λv12 H=> fld v4 5 H λv14 H=> fld v7 8 H λv16 H=> bnd (C 181 [v12,v14,(I (-1)),(B false),v16] H) λv17 H=> bnd (C 121 [a2,v17] H) λv18 H=>
 bo (au v4 3) λv20=> bnd (st 1 v20 (I 6) H) λ_ H=> bo (au v4 4) λv21=> bnd (st 1 v21 (I 1) H) λ_ H=> bo (au v4 5) λv22=> bnd (st 1 v22 a1 H) λ_ H=> bo (au v4 6) λv23=> bnd (st 1 v23 (.s (Go.Value.slice none 0 0)) H) λ_ H=>
 fld v7 7 H λv25 H=>
 aY v25
 (fld v7 8 H λv27 H=> bnd (C 55 [v27] H) λv28 H=> bo (au v4 6) λv29=> bnd (st 1 v29 v28 H) λ_ H=>
  EF C v4 v8 H)
 (EF C v4 v8 H)
theorem ali:Rn4 157 Zv:=λ_ _ _ _ _ _ _ h=>
 rnG an0 Tryz.func157 (by kernel_rfl) (by kernel_rfl) h
def Aq(C:aC)(t1 t2 t3 t6:AV)(H:ah):OA:=
 fld t3 7 H λv28 H=> bo (bi .neq 3 v28 (I (-1))) λv29=>
 aY v29
 (bo (au t3 3) λv30=> bnd (st 1 v30 (I 3) H) λ_ H=>
  bnd (lda 9 t3 H) λv31 H=> bnd (st 9 t6 v31 H) λ_ H=>
  bnd (lda 9 t6 H) λr0 _=> some (r0,H))
 (fld t3 1 H λv34 H=> fld t3 6 H λv36 H=> bnd (C 181 [v34,(I (-1)),(I (-1)),(B true),v36] H) λv37 H=> bnd (C 121 [t2,v37] H) λv38 H=>
  bo (au t3 3) λv40=> bnd (st 1 v40 (I 6) H) λ_ H=> bo (au t3 4) λv41=> bnd (st 1 v41 (I 2) H) λ_ H=> bo (au t3 5) λv42=> bnd (st 1 v42 t1 H) λ_ H=> bo (au t3 6) λv43=> bnd (st 1 v43 (.s (Go.Value.slice none 0 0)) H) λ_ H=>
  bnd (lda 9 t3 H) λv44 H=> bnd (st 9 t6 v44 H) λ_ H=>
  bnd (lda 9 t6 H) λr0 _=> some (r0,H))
def Po(C:aC)(a0 a1 a2:AV)(H:ah):OA:=
 bnd (jD 44 a0 H) λv3 H=> bnd (alc 44 [zI,zI,zI,zI,zI,zI,zN,zI,zI] H) λv6 H=>
 fld v3 1 H λv12 H=> bnd (C 87 [a2,v12] H) λv13 H=> bo (aK v13 0) λv14=> bo (aK v13 1) λv15=> bnd (alc 166 [zI,zI,zI,zI,zB,zN] H) λv7 H=> bnd (st 6 v7 v14 H) λ_ H=>
 fld v3 7 H λv17 H=> bo (bi .eql 3 v17 a1) λv19=> gl v19 true (some v15) H λv21 H=> bo (dF v19 v21 (B false)) λv22=>
 aY v22
 (bo (au v7 0) λv23=> fld v23 0 H λv25 H=> bo (au v3 7) λv26=> bnd (st 1 v26 v25 H) λ_ H=>
  Aq C a1 a2 v3 v6 H)
 (Aq C a1 a2 v3 v6 H)
theorem alj:Rn3 158 Po:=λ_ _ _ _ _ _ h=>
 rnG an0 Tryz.func158 (by kernel_rfl) (by kernel_rfl) h
def alk:Ann:=⟨[],[(1,rF 14 []),(4,rF 12 []),(13,rF 9 [])],[(1,[(3,7),(5,7),(5,9)]),(4,[(5,7)]),(13,[(2,4)])]⟩
def rG(C:aC)(t3 t6:AV)(H:ah):OA:=
 bnd (lda 9 t3 H) λv65 H=> bnd (st 9 t6 v65 H) λ_ H=>
 bnd (lda 9 t6 H) λr0 _=> some (r0,H)
def JE(C:aC)(a0 a1 a2:AV)(H:ah):OA:=
 bnd (jD 44 a0 H) λv3 H=> bnd (jD 112 a2 H) λv5 H=> bnd (alc 44 [zI,zI,zI,zI,zI,zI,zN,zI,zI] H) λv6 H=>
 fld v5 6 H λv10 H1=> bo (au v5 5) λv11=> bnd (ld v11 H1) λv12 H3=> bo (au v5 5) λv13=> bnd (ld v13 H3) λv14 H5=> bo (au v3 4) λv15=> bnd (st 1 v15 v10 H5) λ_ H7=> bo (au v3 5) λv16=> bnd (st 1 v16 v12 H7) λ_ H9=> bo (au v3 8) λv17=> bnd (st 1 v17 v14 H9) λ_ H11=> bo (au v3 6) λv18=> bnd (st 1 v18 (.s (Go.Value.slice none 0 0)) H11) λ_ H13=> ck (bQ v11) H5 H7 <| ck (bQ v13) H5 H7 <| ck (bQ v13) H7 H9 <|
 bo (au v3 3) λv19=> bnd (st 1 v19 (I 6) H13) λ_ H13=>
 fld v3 1 H13 λv23 H13=> bnd (C 87 [a1,v23] H13) λv24 H13=> bo (aK v24 0) λv25=> bo (aK v24 1) λv26=> bnd (alc 166 [zI,zI,zI,zI,zB,zN] H13) λv7 H13=> bnd (st 6 v7 v25 H13) λ_ H13=>
 bo (un .not v26) λv38=>
 aY v38
 (bnd (lda 9 v3 H13) λv39 H13=> bnd (st 9 v6 v39 H13) λ_ H13=>
  bnd (lda 9 v6 H13) λr0 _=> some (r0,H13))
 (bo (au v7 0) λv41=> bnd (lda 2 v41 H13) λv42 H13=> bnd (C 182 [v42] H13) λv43 H13=>
  aY v43
  (fld v3 1 H13 λv46 H13=> bnd (C 174 [a1,v46] H13) λv47 H13=>
  bo (au v3 4) λv48=> bnd (st 1 v48 (I 0) H13) λ_ H13=> bo (au v3 5) λv49=> bnd (st 1 v49 (I (-1)) H13) λ_ H13=>
  fld v7 4 H13 λv51 H13=>
  aY v51
  (fld v7 5 H13 λv53 H13=> bo (au v3 6) λv54=> bnd (st 1 v54 v53 H13) λ_ H13=>
   rG C v3 v6 H13)
  (rG C v3 v6 H13))
  (bo (au v7 0) λv56=> bnd (lda 2 v56 H13) λv57 H13=> bnd (C 183 [v57] H13) λv58 H13=>
  aY v58
  (bo (au v7 0) λv59=> bo (au v59 0) λv60=> bnd (ld v60 H13) λv61 ap2=> bo (au v3 5) λv62=> bnd (st 1 v62 (I (-1)) ap2) λ_ akl=> bo (au v3 7) λv63=> bnd (st 1 v63 v61 akl) λ_ akW=> bo (au v3 3) λv64=> bnd (st 1 v64 (I 5) akW) λ_ aqN=> ck (bQ v60) ap2 akl <|
   rG C v3 v6 aqN)
  (bo (au v7 0) λv27=> fld v27 1 H13 λv29 aqO=> bo (au v7 0) λv30=> bo (au v30 0) λv31=> bnd (ld v31 aqO) λv32 am7=> bo (au v3 5) λv33=> bnd (st 1 v33 v29 am7) λ_ ap3=> bo (au v3 7) λv34=> bnd (st 1 v34 v32 ap3) λ_ am6=> bo (au v3 3) λv35=> bnd (st 1 v35 (I 4) am6) λ_ ao6=> ck (bQ v31) am7 ap3 <|
   rG C v3 v6 ao6)))
theorem alm:Rn3 159 JE:=λ_ _ _ _ _ _ h=>
 rnG alk Tryz.func159 (by kernel_rfl) (by kernel_rfl) h
def afs(C:aC)(a0 a1 a2:AV)(H:ah):OA:=
 bnd (jD 44 a0 H) λv3 H=> bnd (alc 44 [zI,zI,zI,zI,zI,zI,zN,zI,zI] H) λv6 H=>
 fld v3 1 H λv9 H=> bnd (C 174 [a1,v9] H) λv10 H=>
 bo (au v3 3) λv12=> bnd (st 1 v12 (I 6) H) λ_ H=> bo (au v3 4) λv13=> bnd (st 1 v13 (I 1) H) λ_ H=> bo (au v3 5) λv14=> bnd (st 1 v14 a2 H) λ_ H=> bo (au v3 6) λv15=> bnd (st 1 v15 (.s (Go.Value.slice none 0 0)) H) λ_ H=>
 bnd (lda 9 v3 H) λv16 H=> bnd (st 9 v6 v16 H) λ_ H=>
 bnd (lda 9 v6 H) λr0 _=> some (r0,H)
theorem aln:Rn3 160 afs:=λ_ _ _ _ _ _ h=>
 rnG an0 Tryz.func160 (by kernel_rfl) (by kernel_rfl) h
def Pq(C:aC)(a0 a1:AV)(H:ah):OA:=
 bnd (jD 166 a0 H) λv2 H=>
 bo (bi .geq 3 a1 (I 0)) λv6=> gl v6 true (some a1) H λv8 H=> gl v6 true (au v2 5) H λv9 H=> gdA (some v6) true (ld v9 H) H λv10 H=> gdA (some v6) true (lnS v10 H) H λv11 H=> gl v6 true (bi .lss 3 v8 v11) H λv12 H=> bo (dF v6 v12 (B false)) λv13=>
 some (v13,H)
theorem afu:Rn2 161 Pq:=λ_ _ _ _ _ h=>
 rnG an0 Tryz.func161 (by kernel_rfl) (by kernel_rfl) h
def DI(C:aC)(a0:AV)(H:ah):OA:=
 bo (bi .eql 3 a0 (I 1)) λv5=>
 aY v5
 (some ((I 1),H))
 (bo (bi .eql 3 a0 (I 2)) λv7=>
  aY v7
  (some ((I 3),H))
  (bo (bi .eql 3 a0 (I 3)) λv9=>
  aY v9
  (some ((I 6),H))
  (bo (bi .eql 3 a0 (I 4)) λv11=>
   aY v11
   (some ((I 4),H))
   (bo (bi .eql 3 a0 (I 5)) λv13=>
   aY v13
   (some ((I 5),H))
   (bo (bi .eql 3 a0 (I 6)) λv15=>
    aY v15
    (some ((I 2),H))
    (some ((I 0),H)))))))
theorem alo:Rn1 162 DI:=λ_ _ _ _ h=>
 rnG an0 Tryz.func162 (by kernel_rfl) (by kernel_rfl) h
def afv(C:aC)(a0:AV)(H:ah):OA:=
 bnd (jD 201 a0 H) λv1 H=>
 some ((.fn (.func 186) [] [v1]),H)
theorem alp:Rn1 164 afv:=λ_ _ _ _ h=>
 rnG an0 Tryz.func164 (by kernel_rfl) (by kernel_rfl) h
def Zw(C:aC)(a0 a1:AV)(H:ah):OA:=
 bo (aB a0) λv9=> fld v9 0 H λv11 H=> bnd (lk .i64 (.int .i64 0) v11 a1 true H) λv13 H=> bo (aK v13 0) λv14=> bo (aK v13 1) λv15=>
 some (v15,H)
theorem alq:Rn2 165 Zw:=λ_ _ _ _ _ h=>
 rnG an0 Tryz.func165 (by kernel_rfl) (by kernel_rfl) h
def afw(C:aC)(a0 a1:AV)(H:ah):OA:=
 bo (aB a0) λv6=> fld v6 1 H λv8 H=> bnd (lk .i64 (.slice none 0 0) v8 a1 false H) λv10 H=> bnd (lnS v10 H) λv11 H=>
 some (v11,H)
theorem alr:Rn2 166 afw:=λ_ _ _ _ _ h=>
 rnG an0 Tryz.func166 (by kernel_rfl) (by kernel_rfl) h
def Zx(C:aC)(a0 a1:AV)(H:ah):OA:=
 bnd (alc 199 [zI,zI,zN] H) λv4 H=>
 bo (aB a0) λv10=> fld v10 8 H λv12 H=> bnd (lk .i64 (.agg #[.int .i64 0,.int .i64 0,.slice none 0 0]) v12 a1 true H) λv14 H=> bo (aK v14 0) λv15=> bo (aK v14 1) λv16=> bnd (alc 199 [zI,zI,zN] H) λv6 H=> bnd (st 3 v6 v15 H) λ_ H=>
 fld v6 2 H λv18 H=> bnd (C 55 [v18] H) λv19 H=> bo (au v6 2) λv20=> bnd (st 1 v20 v19 H) λ_ H=>
 bnd (lda 3 v6 H) λv21 H=> bnd (st 3 v4 v21 H) λ_ H=>
 bnd (lda 3 v4 H) λr0 _=> some (.tup [r0,v16],H)
theorem als:Rn2 167 Zx:=λ_ _ _ _ _ h=>
 rnG an0 Tryz.func167 (by kernel_rfl) (by kernel_rfl) h
def Pv(C:aC)(a0 a1 a2:AV)(H:ah):OA:=
 bo (bi .geq 3 a0 a1) λv9=> gl v9 true (some a0) H λv11 H=> gl v9 true (some a2) H λv12 H=> gl v9 true (bi .lss 3 v11 v12) H λv13 H=> bo (dF v9 v13 (B false)) λv14=>
 some (v14,H)
theorem afx:Rn3 168 Pv:=λ_ _ _ _ _ _ h=>
 rnG an0 Tryz.func168 (by kernel_rfl) (by kernel_rfl) h
def alu:Ann:=⟨[],[(4,rF 17 [])],[(4,[(3,15)])]⟩
def Px(C:aC)(a0 a1 a2 a3:AV)(H:ah):OA:=
 bo (bi .lss 3 a2 (I 0)) λv10=>
 aY v10
 (some ((B false),H))
 (bnd (C 165 [a0,a1] H) λv13 H=> gl v13 false (some a0) H λv15 H=> gl v13 false (some a1) H λv16 H=> gdA (some v13) false (C 166 [v15,v16] H) H λv17 H=> gl v13 false (bi .gtr 3 v17 (I 0)) H λv18 H=> bo (dF v13 (B true) v18) λv19=>
  aY v19
  (bo (aB a0) λv21=> bo (au v21 1) λv22=> bnd (ld v22 H) λv23 H3=> bo (aB a0) λv26=> fld v26 1 H3 λv28 H8=> bnd (lk .i64 (.slice none 0 0) v28 a1 false H8) λv30 H10=> bo (bd 258 [(0,a2),(1,a3)]) λv33=> bnd (bs 256 1 [(0,v33)] H10) λv34 H14=> bnd (app 258 2 16 v30 v34 H14) λv35 H15=> bnd (mup .i64 v23 a1 v35 H15) λ_ H16=> ck (bQ v22) H14 H15 <|
  some ((B false),H16))
  (bo (aB a0) λv37=> fld v37 0 H λv39 H=> bnd (mup .i64 v39 a1 a2 H) λ_ H=>
  some ((B true),H)))
theorem alv:Rn4 169 Px:=λ_ _ _ _ _ _ _ h=>
 rnG alu Tryz.func169 (by kernel_rfl) (by kernel_rfl) h
def alx:Ann:=⟨[],[(1,rF 6 (some true::rF 3 [])),(6,rF 13 []),(9,rF 10 [])],[]⟩
def xF(C:aC)(t0 t3 t5:AV)(H:ah):OA:=
 bo (aB t0) λv22=> fld v22 0 H λv24 H=> fld t3 4 H λv26 H=> fld t3 6 H λv28 H=> fld t3 5 H λv30 H=> bnd (C 188 [v24,v26,v28,v30,t5] H) λv32 H=>
 bo (bi .neq 48 v32 (I 0)) λv34=>
 aY v34
 (some (v32,H))
 (bo (aB t0) λv37=> fld v37 1 H λv39 H=> fld t3 4 H λv41 H=> fld t3 1 H λv43 H=> bnd (C 189 [v39,v41,v43] H) λv44 H=>
  some (v44,H))
def JF(C:aC)(a0 a1:AV)(H:ah):OA:=
 bnd (jD 112 a1 H) λv3 H=>
 bo (aB a0) λv8=> fld v8 1 H λv10 H=> fld v3 4 H λv12 H=> bnd (unG H (C 187 [v10,v12] H.guard)) λv13 H=> fld v3 1 H λv15 H=> bo (bi .neq 3 v13 v15) λv16=>
 aY v16
 (some ((I 6),H))
 (fld v3 7 H λv18 H=>
  aY v18
  (fld v3 8 H λv20 H=>
  xF C a0 v3 v20 H)
  (xF C a0 v3 (.s (Go.Value.slice none 0 0)) H))
theorem aly:Rn2 170 JF:=λ_ _ _ _ _ h=>
 rnG alx Tryz.func170 (by kernel_rfl) (by kernel_rfl) h
def Ar(C:aC)(t10:AV)(H:ah):OA:=
 aY t10
 (some ((I 9),H))
 (some ((I 0),H))
def pU(C:aC)(t3 t6:AV)(H:ah):OA:=
 aY t6
 (some ((I 8),H))
 (bo (bi .eql 3 t3 (I 3)) λv11=>
  aY v11
  (Ar C v11 H)
  (bo (bi .eql 3 t3 (I 6)) λv12=>
  Ar C v12 H))
def DJ(C:aC)(a0:AV)(H:ah):OA:=
 bo (bi .eql 3 a0 (I 1)) λv5=>
 aY v5
 (some ((I 7),H))
 (bo (bi .eql 3 a0 (I 2)) λv7=>
  aY v7
  (pU C a0 v7 H)
  (bo (bi .eql 3 a0 (I 4)) λv8=>
  aY v8
  (pU C a0 v8 H)
  (bo (bi .eql 3 a0 (I 5)) λv9=>
   pU C a0 v9 H)))
theorem alz:Rn1 171 DJ:=λ_ _ _ _ h=>
 rnG an0 Tryz.func171 (by kernel_rfl) (by kernel_rfl) h
def afy(C:aC)(a0 a1:AV)(H:ah):OA:=
 bo (aB a0) λv6=> bo (au v6 1) λv7=> bnd (st 1 v7 a1 H) λ_ H=>
 some (.tup [],H)
theorem alA:Rn2 172 afy:=λ_ _ _ _ _ h=>
 rnG an0 Tryz.func172 (by kernel_rfl) (by kernel_rfl) h
def afz(C:aC)(a0 a1:AV)(H:ah):OA:=
 bo (aB a0) λv6=> bo (au v6 0) λv7=> bnd (st 1 v7 a1 H) λ_ H=>
 some (.tup [],H)
theorem alB:Rn2 173 afz:=λ_ _ _ _ _ h=>
 rnG an0 Tryz.func173 (by kernel_rfl) (by kernel_rfl) h
def EG(C:aC)(t4 t6 t7:AV)(H:ah):OA:=
 bnd (lda 6 t6 H) λv30 H=> bnd (st 6 t4 v30 H) λ_ H=>
 bnd (lda 6 t4 H) λr0 _=> some (.tup [r0,t7],H)
def Zy(C:aC)(a0 a1:AV)(H:ah):OA:=
 bnd (alc 166 [zI,zI,zI,zI,zB,zN] H) λv4 H=>
 bnd (C 87 [a0,a1] H) λv12 H=> bo (aK v12 0) λv13=> bo (aK v12 1) λv14=> bnd (alc 166 [zI,zI,zI,zI,zB,zN] H) λv6 H=> bnd (st 6 v6 v13 H) λ_ H=>
 aY v14
 (bnd (C 132 [a0,a1] H) λv18 H=>
  bo (aB a0) λv21=> fld v21 0 H λv23 H=> bo (bi .add 3 v18 (I 1)) λv26=> bnd (C 190 [v23,v18,v26] H) λv27 H=> bo (aB a0) λv28=> bo (au v28 0) λv29=> bnd (st 1 v29 v27 H) λ_ H=>
  EG C v4 v6 v14 H)
 (EG C v4 v6 v14 H)
theorem alC:Rn2 174 Zy:=λ_ _ _ _ _ h=>
 rnG an0 Tryz.func174 (by kernel_rfl) (by kernel_rfl) h
def afA:Ann:=⟨[(3,[0,1,7,8])],[],[]⟩
def EH:=qx Tryz.prog Tryz.f175 19 afA 0
def afB(C:aC)(a0 a1:AV)(H:ah):OA:=
 bnd (lnS a0 H) λv7 H=>
 EH C [a0,a1,v7,(I 0)] H
theorem U1(C:aC)(t0 t1 t7 t8:AV)(H:ah):EH C [t0,t1,t7,t8] H=
 bo (bi .lss 3 t8 t7) λv9=>
 aY v9
 (bnd (ix 6 t0 t8 H) λv14 H=> bnd (lda 6 v14 H) λv15 H=> bnd (yH Tryz.prog C t1 [v15] H) λv16 H=>
  aY v16
  (some (t8,H))
  (bo (bi .add 3 t8 (I 1)) λv18=>
  EH C [t0,t1,t7,v18] H))
 (some ((I (-1)),H)):=
 lpE.trans (by kernel_rfl)
theorem alD:Rn2 175 afB:=λ_ _ _ _ _ h=>
 rnG afA Tryz.func175 (by kernel_rfl) (by kernel_rfl) h
def afC(C:aC)(a0 a1:AV)(H:ah):OA:=
 bnd (jD 166 a0 H) λv2 H=>
 fld v2 2 H λv5 H=> bnd (ld a1 H) λv6 H=> bo (bi .eql 3 v5 v6) λv7=>
 some (v7,H)
theorem alE:Rn2 176 afC:=λ_ _ _ _ _ h=>
 rnG an0 Tryz.func176 (by kernel_rfl) (by kernel_rfl) h
def Zz:Ann:=⟨[(4,[3,7,8,9]),(8,[3,7,8,9,18])],[],[]⟩
def Au:=qx Tryz.prog Tryz.f177 30 Zz 0
def EI:=qx Tryz.prog Tryz.f177 30 Zz 1
def afD(C:aC)(a0:AV)(H:ah):OA:=
 bnd (lnS a0 H) λv8 H=>
 Au C [(.s (Go.Value.int Go.IntKind.u16 65535)),a0,v8,(I 0)] H
theorem U2(C:aC)(t3 t7 t8 t9:AV)(H:ah):Au C [t3,t7,t8,t9] H=
 bo (bi .lss 3 t9 t8) λv10=>
 aY v10
 (bnd (ix 1 t7 t9 H) λv11 H=> bnd (ld v11 H) λv12 H=>
  bnd (cv 5 50 v12 H) λv15 H=> bo (bi .shl 50 v15 (.s (Go.Value.int Go.IntKind.u64 8))) λv16=> bo (bi .xor 50 t3 v16) λv17=>
  EI C [v17,t7,t8,t9,(I 0)] H)
 (some (t3,H)):=
 lpE.trans (by kernel_rfl)
theorem U3(C:aC)(t3 t7 t8 t9 t18:AV)(H:ah):EI C [t3,t7,t8,t9,t18] H=
 bo (bi .lss 3 t18 (I 8)) λv19=>
 aY v19
 (bo (bi .shr 50 t3 (.s (Go.Value.int Go.IntKind.u64 15))) λv21=>
  bo (bi .shl 50 t3 (.s (Go.Value.int Go.IntKind.u64 1))) λv23=> bo (bi .mul 50 v21 (.s (Go.Value.int Go.IntKind.u16 4129))) λv25=> bo (bi .xor 50 v23 v25) λv26=>
  bo (bi .add 3 t18 (I 1)) λv27=>
  EI C [v26,t7,t8,t9,v27] H)
 (bo (bi .add 3 t9 (I 1)) λv28=>
  Au C [t3,t7,t8,v28] H):=
 lpE.trans (by kernel_rfl)
theorem alF:Rn1 177 afD:=λ_ _ _ _ h=>
 rnG Zz Tryz.func177 (by kernel_rfl) (by kernel_rfl) h
def ZA:Ann:=⟨[(4,[0,3,9,10,11]),(12,[6,25,26,27])],[],[]⟩
def LY:=qx Tryz.prog Tryz.f178 36 ZA 0
def LZ:=qx Tryz.prog Tryz.f178 36 ZA 1
def EJ(C:aC)(t0 t3 t9 t10 t11:AV)(H:ah):OA:=
 bo (bi .add 3 t11 (I 1)) λv22=>
 LY C [t0,t3,t9,t10,v22] H
def afE(C:aC)(a0:AV)(H:ah):OA:=
 bnd (lnS a0 H) λv10 H=>
 LY C [a0,(I 0),a0,v10,(I 0)] H
theorem L6(C:aC)(t0 t3 t9 t10 t11:AV)(H:ah):LY C [t0,t3,t9,t10,t11] H=
 bo (bi .lss 3 t11 t10) λv12=>
 aY v12
 (bnd (ix 1 t9 t11 H) λv13 H=> bnd (ld v13 H) λv14 H=>
  bnd (lnS v14 H) λv17 H=> bo (bi .add 3 t3 v17) λv18=>
  bo (bi .lss 3 v18 (I 0)) λv20=>
  aY v20
  (bnd (stk H) λv21 H=> bnd (stk H) λ_ H=>
  EJ C t0 v18 t9 t10 t11 H)
  (EJ C t0 v18 t9 t10 t11 H))
 (bnd (C 191 [(.s (Go.Value.slice none 0 0)),t3] H) λv24 H=>
  bnd (lnS t0 H) λv26 H=>
  LZ C [v24,t0,v26,(I 0)] H):=
 lpE.trans (by kernel_rfl)
theorem L8(C:aC)(t6 t25 t26 t27:AV)(H:ah):LZ C [t6,t25,t26,t27] H=
 bo (bi .lss 3 t27 t26) λv28=>
 aY v28
 (bnd (ix 1 t25 t27 H) λv29 H=> bnd (ld v29 H) λv30 H=>
  bnd (app 5 1 1 t6 v30 H) λv33 H=>
  bo (bi .add 3 t27 (I 1)) λv34=>
  LZ C [v33,t25,t26,v34] H)
 (some (t6,H)):=
 lpE.trans (by kernel_rfl)
theorem alG:Rn1 178 afE:=λ_ _ _ _ h=>
 rnG ZA Tryz.func178 (by kernel_rfl) (by kernel_rfl) h
def ZB(C:aC)(a0:AV)(H:ah):OA:=
 bnd (alc 112 [zI,zI,zI,zI,zI,zI,zI,zB,zN] H) λv2 H=>
 bo (aB a0) λv5=> fld v5 0 H λv7 H=> bnd (lnS v7 H) λv8 H=> bo (bi .eql 3 v8 (I 0)) λv9=>
 aY v9
 (bo (bd 112 []) λv10=> bnd (st 9 v2 v10 H) λ_ H=>
  bnd (lda 9 v2 H) λr0 _=> some (.tup [r0,(B false)],H))
 (bo (aB a0) λv12=> fld v12 0 H λv14 H=> bnd (ix 9 v14 (I 0) H) λv15 H=> bnd (lda 9 v15 H) λv16 H=> bnd (C 97 [v16] H) λv17 H=> bnd (st 9 v2 v17 H) λ_ H=>
  bnd (lda 9 v2 H) λr0 _=> some (.tup [r0,(B true)],H))
theorem alH:Rn1 180 ZB:=λ_ _ _ _ h=>
 rnG an0 Tryz.func180 (by kernel_rfl) (by kernel_rfl) h
def afF(C:aC)(a0 a1 a2 a3 a4:AV)(H:ah):OA:=
 bnd (alc 166 [zI,zI,zI,zI,zB,zN] H) λv10 H=>
 bo (bd 164 [(0,a1),(1,a2)]) λv13=> bnd (C 55 [a4] H) λv17 H=> bo (bd 166 [(0,v13),(1,a0),(3,a3),(4,v17)]) λv18=> bnd (st 6 v10 v18 H) λ_ H=>
 bnd (lda 6 v10 H) λr0 _=> some (r0,H)
theorem alI:Rn5 181 afF:=λ_ _ _ _ _ _ _ _ h=>
 rnG an0 Tryz.func181 (by kernel_rfl) (by kernel_rfl) h
def ZC(C:aC)(a0:AV)(H:ah):OA:=
 bnd (jD 164 a0 H) λv1 H=>
 bnd (lda 2 v1 H) λv3 H=> bnd (C 183 [v3] H) λv4 H=> gdA (some v4) true (lda 2 v1 H) H λv6 H=> gdA (some v4) true (C 192 [v6] H) H λv7 H=> bo (dF v4 v7 (B false)) λv8=>
 some (v8,H)
theorem afG:Rn1 182 ZC:=λ_ _ _ _ h=>
 rnG an0 Tryz.func182 (by kernel_rfl) (by kernel_rfl) h
def afH(C:aC)(a0:AV)(H:ah):OA:=
 bnd (jD 164 a0 H) λv1 H=>
 fld v1 1 H λv4 H=> bo (bi .eql 3 v4 (I (-1))) λv5=>
 some (v5,H)
theorem alJ:Rn1 183 afH:=λ_ _ _ _ h=>
 rnG an0 Tryz.func183 (by kernel_rfl) (by kernel_rfl) h
def ZE(C:aC)(a0 a1:AV)(H:ah):OA:=
 bo (aB a0) λv9=> fld v9 0 H λv11 H=> bnd (lk .i64 (.int .i64 0) v11 a1 true H) λv13 H=> bo (aK v13 0) λv14=> bo (aK v13 1) λv15=>
 aY v15
 (some (v14,H))
 (some ((I (-1)),H))
theorem alK:Rn2 187 ZE:=λ_ _ _ _ _ h=>
 rnG an0 Tryz.func187 (by kernel_rfl) (by kernel_rfl) h
def alL:Ann:=⟨[],[(11,rF 7 [])],[]⟩
def EK(C:aC)(t0 t1 t11:AV)(H:ah):OA:=
 bo (aB t0) λv77=> fld v77 8 H λv79 H=> bnd (lda 3 t11 H) λv81 H=> bnd (mup .i64 v79 t1 v81 H) λ_ H=>
 some ((I 0),H)
def yD(C:aC)(a0 a1 a2 a3 a4:AV)(H:ah):OA:=
 bo (aB a0) λv15=> fld v15 8 H λv17 H=> bnd (lk .i64 (.agg #[.int .i64 0,.int .i64 0,.slice none 0 0]) v17 a1 true H) λv19 H=> bo (aK v19 0) λv20=> bo (aK v19 1) λv21=> bnd (alc 199 [zI,zI,zN] H) λv11 H=> bnd (st 3 v11 v20 H) λ_ H=>
 bo (un .not v21) λv24=>
 aY v24
 (some ((I 3),H))
 (bo (bi .lss 3 a2 (I 0)) λv27=> gl v27 false (some a2) H λv29 H=> gl v27 false (bi .gtr 3 v29 (I 2)) H λv30 H=> bo (dF v27 (B true) v30) λv31=> gl v31 false (some a3) H λv33 H=> gl v31 false (bi .lss 3 v33 (I (-1))) H λv34 H=> bo (dF v31 (B true) v34) λv35=> gl v35 false (some a3) H λv37 H=> gl v35 false (some a0) H λv38 H=> gl v35 false (aB v38) H λv39 H=> gl v35 false (au v39 0) H λv40 H=> gl v35 false (au v40 0) H λv41 H=> gdA (some v35) false (ld v41 H) H λv42 H=> gl v35 false (bi .geq 3 v37 v42) H λv43 H=> bo (dF v35 (B true) v43) λv44=>
  aY v44
  (some ((I 1),H))
  (bo (bi .eql 3 a3 (I (-1))) λv47=> bo (bi .eql 3 a2 (I 0)) λv49=> bo (bi .neq 4 v47 v49) λv50=> gl v50 false (some a4) H λv52 H=> gdA (some v50) false (lnS v52 H) H λv53 H=> gl v50 false (bi .neq 3 v53 (I 0)) H λv54 H=> gl v50 false (some v54) H λv55 H=> gl v55 true (some a4) H λv56 H=> gdA (some v55) true (lnS v56 H) H λv57 H=> gl v55 true (some a0) H λv58 H=> gl v55 true (aB v58) H λv59 H=> gl v55 true (au v59 0) H λv60 H=> gl v55 true (au v60 2) H λv61 H=> gdA (some v55) true (ld v61 H) H λv62 H=> gl v55 true (bi .neq 3 v57 v62) H λv63 H=> gl v50 false (dF v55 v63 (B false)) H λv64 H=> bo (dF v50 (B true) v64) λv65=>
  aY v65
  (some ((I 1),H))
  (bo (au v11 0) λv68=> bnd (st 1 v68 a2 H) λ_ H=> bo (au v11 1) λv69=> bnd (st 1 v69 a3 H) λ_ H=>
   bnd (lnS a4 H) λv71 H=> bo (bi .gtr 3 v71 (I 0)) λv72=>
   aY v72
   (bnd (C 55 [a4] H) λv74 H=> bo (au v11 2) λv75=> bnd (st 1 v75 v74 H) λ_ H=>
   EK C a0 a1 v11 H)
   (EK C a0 a1 v11 H))))
theorem alM:Rn5 188 yD:=λ_ _ _ _ _ _ _ _ h=>
 rnG alL Tryz.func188 (by kernel_rfl) (by kernel_rfl) h
def U4(C:aC)(a0 a1 a2:AV)(H:ah):OA:=
 bnd (C 165 [a0,a1] H) λv9 H=> bo (un .not v9) λv10=> gl v10 false (some a0) H λv12 H=> gl v10 false (aB v12) H λv13 H=> gl v10 false (au v13 0) H λv14 H=> gdA (some v10) false (ld v14 H) H λv15 H=> gl v10 false (some a1) H λv16 H=> gdA (some v10) false (lk .i64 (.int .i64 0) v15 v16 false H) H λv17 H=> gl v10 false (some a2) H λv18 H=> gl v10 false (bi .neq 3 v17 v18) H λv19 H=> bo (dF v10 (B true) v19) λv20=>
 aY v20
 (some ((I 6),H))
 (bo (aB a0) λv22=> fld v22 0 H λv24 H=> bnd (del .i64 v24 a1 H) λ_ H=>
  some ((I 0),H))
theorem alN:Rn3 189 U4:=λ_ _ _ _ _ _ h=>
 rnG an0 Tryz.func189 (by kernel_rfl) (by kernel_rfl) h
def alO:Ann:=⟨[],[(5,rF 8 [])],[]⟩
def afI(C:aC)(a0 a1 a2:AV)(H:ah):OA:=
 bnd (lnS a0 H) λv12 H=> bo (slS 6 a0 (some a1) (some a2) (some v12)) λv13=>
 bo (bi .eql 3 a1 a2) λv16=>
 aY v16
 (some (a0,H))
 (bnd (lnS a0 H) λv19 H=>
  bo (slS 6 a0 none (some a1) none) λv22=> bo (slS 6 a0 (some a2) none none) λv25=> bnd (app 166 6 64 v22 v25 H) λv26 H=>
  bnd (lnS v26 H) λv29 H=> bo (slS 6 v26 (some v29) (some v19) none) λv31=> bnd (clr 6 [zI,zI,zI,zI,zB,zN] v31 H) λ_ H=>
  some (v26,H))
theorem alP:Rn3 190 afI:=λ_ _ _ _ _ _ h=>
 rnG alO Tryz.func190 (by kernel_rfl) (by kernel_rfl) h
def afJ(C:aC)(a0:AV)(H:ah):OA:=
 bnd (jD 164 a0 H) λv1 H=>
 fld v1 0 H λv4 H=> bo (bi .eql 3 v4 (I (-1))) λv5=>
 some (v5,H)
theorem alQ:Rn1 192 afJ:=λ_ _ _ _ h=>
 rnG an0 Tryz.func192 (by kernel_rfl) (by kernel_rfl) h
def nM(l:List Pkt)(room:Int):List Cell:=[.seq 9 (l.flatMap Pkt.av),.av (I room)]
theorem xG(l:List Int):(l.map I).all AV.aQ=true:=by
 rw [zaZ];intro x hx;obtain⟨z,_,rfl⟩:=zaG.1 hx;rfl
theorem xH(l:List Int){d:Nat}:∀x∈l.map I,Frz (d+1) x:=λx hx=> by
 obtain⟨z,_,rfl⟩:=zaG.1 hx;exact iZ
theorem yE {l:List Int}(h:l≠[]):dat l=.vs l.length 1 (l.map I):=by
 rw [dat,Em h,zO]
theorem lD(H:ah)(l:List Int)(hl:l.length < 1000000000):cl 55 [dat l] H=some (dat l,H):=by
 by_cases h:l=[]
 ·subst h;refine ji rfl rfl (SA _ _ _ (r:=(zN,H.guard)) ?_) jq;have e:bi .eql 22 zN zN=some (B true):=by kernel_rfl
  simp only [xq_,Pm,dat,gI,e]
 ·have h0:l.length≠0:=λe=> h (zar e);have e2:=sU (e:=3) (by_:=8) (r:=H.guard.next) (H:=H.guard.new (.blk 0 3 [])) qE (nN _ l) (xG l) h0 (by unfold most;omega) (by unfold most;omega);simp only [RJ,fE] at e2;refine ji rfl rfl (SA _ _ _ (r:=(.sl (H.next+1) 0 0 1 l.length l.length false,(H.guard.new (.blk 0 3 [])).new (.blk 0 (3+gQ) (l.map I)))) ?_) ?_
  ·have e1:bi .eql 22 (dat l) zN=some (B false):=by rw [yE h];exact sV Tryz.underlying22
   simp only [xq_,Pm,e1,FZ,yR,e2,zbo,zaS]
  ·rw [yE h];refine jP (by omega) (cells:=l.map I) ?_ (iF _ λx hx=> xH l x hx _ _);simp only [cZ,jg,fE,RJ,if_true];rw [if_pos (by simp),zaP,zaA (by simp)]
theorem ZF(p:Pkt):Frz 9 (.agg p.av):=nG λx hx=> by
 simp only [Pkt.av,zaj,zaw,or_false] at hx;rcases hx with rfl | rfl | rfl | rfl | rfl | rfl | rfl | rfl | rfl <;> first | exact iZ | exact uJ
theorem ZG(H:ah)(p:Pkt)(hl:p.data.length < 1000000000):cl 138 [.agg p.av] H=some (.agg p.av,H):=by
 have e1:=λH=> lD H p.data hl;refine dJ rfl rfl (ak4 _ _ _) ?_ (ZF p);simp only [Nat.reduceLT,Nat.reduceAdd,aW,xq_,hq_,afj,aG,Pkt.av,e1]
theorem U5(H:ah)(p:Pkt)(hl:p.data.length < 1000000000):cl 97 [.agg p.av] H=some (.agg p.av,H):=by
 have e1:=λH=> lD H p.data hl;refine dJ rfl rfl (ao2 _ _ _) ?_ (ZF p);simp only [Nat.reduceLT,Nat.reduceAdd,aW,xq_,hq_,akw,aG,Pkt.av,e1]
section
variable {b:Nat}{H:ah}{g:bD}{q:Nat}{l:List Pkt}{room:Int}
theorem U6(G:Good b H g)(h:g q=some (nM l room))(h1:0<=room)(h2:room < 1000)(h3:l.length < 1000):
  cl 124 [.ref q 0 0] H=some (I (room - l.length),H):=by
 refine bI rfl rfl (akN _ _ _ ?_);obtain⟨x,hx,c⟩:=G.seq h (i:=0) rfl;have e1:=G.load h (i:=1) rfl;have e2:=(c.is (by decide) (dI bU l)).lnS;simp only [xq_,ae5,hx,e1,e2,jw];rw [wrap_i64 (by omega) (by omega)]
theorem ahi(G:Good b H g)(hb:H.base<=b)(h:g q=some (nM l room))(h1:0<=room)(h2:room < 1000)(h3:l.length < 1000)(p:Pkt)(hp:p.data.length < 1000000000):
  ∃H',cl 128 [.ref q 0 0,.agg p.av] H=some (I (if room=l.length then 5 else 0),H')/\Good b H' (upd g q (nM (if room=l.length then l else l++[p]) room))/\Step b H H':=by
 have G1:=G.new (.blk 0 112 p.av);have e1:=U6 G1 h h1 h2 h3;by_cases hr:room=l.length
 ·refine⟨_,bI rfl rfl (ae8 _ _ _ _ (r:=(_,H.new (.blk 0 112 p.av))) ?_),?_,Step.new _ G.1⟩
  ·simp only [Nat.reduceLT,xq_,hq_,Zo,aG (aS p),e1,hr,Int.sub_self]
  ·rw [if_pos hr,fJ h];exact G1
 ·have hr':¬room - (l.length:Int)=0:=by omega
  obtain⟨x,hx,c⟩:=G1.seq h (i:=0) rfl;have e2:=gZ (H:=H.new (.blk 0 112 p.av)) (r:=H.next) (off:=0) (n:=9) (qE) (by simp [Pkt.av]);have e3:=ZG (H.new (.blk 0 112 p.av)).guard p hp;obtain⟨x',H1,H2,a1,a2,a3,a4⟩:=(G1.new (.blk 0 112 p.av)).append (e:=112) (by_:=88) hb h (i:=0) rfl (by decide) (dI bU l) (c.new _) (nO (ex:=true) (n:=1) (m:=9) (l:=p.av) rfl) (aS p) (by unfold most;omega) (by unfold most;omega);refine⟨H2,bI rfl rfl (ae8 _ _ _ _ ?_),?_,(((Step.new _ G.1).trans (Step.new _ (G.new _).1)).trans a4)⟩
  ·simp only [fE] at a1;simp only [Nat.reduceLT,xq_,Zo,aG (aS p),e1,hr',hr,hx,e2,zaP,e3,aeb,zbp,Nat.reduceLeDiff,OU,kV (m:=9) (z:=[zI,zI,zI,zI,zI,zI,zI,zB,zN]) (v:=.agg p.av) rfl rfl (aS p),fZ,a1,a2]
  ·rw [if_neg hr];have:nM (l++[p]) room=(nM l room).set 0 (.seq 9 (l.flatMap Pkt.av++p.av)):=by simp [nM]
   rw [this];exact a3
theorem ZH(G:Good b H g)(h:g q=some (nM l room))(h1:0<=room)(h2:room < 1000)(h3:l.length < 1000):
  cl 96 [.ref q 0 0] H=some (I (room - l.length),H):=by
 refine bI rfl rfl (ao1 _ _ _ ?_);obtain⟨x,hx,c⟩:=G.seq h (i:=0) rfl;have e1:=G.load h (i:=1) rfl;have e2:=(c.is (by decide) (dI bU l)).lnS;simp only [xq_,akv,hx,e1,e2,jw];rw [wrap_i64 (by omega) (by omega)]
theorem acD(G:Good b H g)(hb:H.base<=b)(h:g q=some (nM l room))(h1:0<=room)(h2:room < 1000)(h3:l.length < 1000)(p:Pkt)(hp:p.data.length < 1000000000):
  ∃H',cl 51 [.ref q 0 0,.agg p.av] H=some (I (if room=l.length then 5 else 0),H')/\Good b H' (upd g q (nM (if room=l.length then l else l++[p]) room))/\Step b H H':=by
 have G1:=G.new (.blk 0 112 p.av);have e1:=ZH G1 h h1 h2 h3;by_cases hr:room=l.length
 ·refine⟨_,bI rfl rfl (ajZ _ _ _ _ (r:=(_,H.new (.blk 0 112 p.av))) ?_),?_,Step.new _ G.1⟩
  ·simp only [Nat.reduceLT,xq_,hq_,ag4,aG (aS p),e1,hr,Int.sub_self]
  ·rw [if_pos hr,fJ h];exact G1
 ·have hr':¬room - (l.length:Int)=0:=by omega
  obtain⟨x,hx,c⟩:=G1.seq h (i:=0) rfl;have e2:=gZ (H:=H.new (.blk 0 112 p.av)) (r:=H.next) (off:=0) (n:=9) (qE) (by simp [Pkt.av]);have e3:=U5 (H.new (.blk 0 112 p.av)).guard p hp;obtain⟨x',H1,H2,a1,a2,a3,a4⟩:=(G1.new (.blk 0 112 p.av)).append (e:=112) (by_:=88) hb h (i:=0) rfl (by decide) (dI bU l) (c.new _) (nO (ex:=true) (n:=1) (m:=9) (l:=p.av) rfl) (aS p) (by unfold most;omega) (by unfold most;omega);refine⟨H2,bI rfl rfl (ajZ _ _ _ _ ?_),?_,(((Step.new _ G.1).trans (Step.new _ (G.new _).1)).trans a4)⟩
  ·simp only [fE] at a1;simp only [Nat.reduceLT,xq_,ag4,aG (aS p),e1,hr',hr,hx,e2,zaP,e3,aeb,zbp,Nat.reduceLeDiff,OU,kV (m:=9) (z:=[zI,zI,zI,zI,zI,zI,zI,zB,zN]) (v:=.agg p.av) rfl rfl (aS p),fZ,a1,a2]
  ·rw [if_neg hr];have:nM (l++[p]) room=(nM l room).set 0 (.seq 9 (l.flatMap Pkt.av++p.av)):=by simp [nM]
   rw [this];exact a3
theorem ahj {i n:Nat}{x:AV}{l:List AV}(c:Cur b H q i x 9 l)(hb:H.base<=b)(hl:l.length=n*9)(hn:n < 1000000000){j:Nat}(hj:j < n):
  ∃x' H',cl 98 [x,I j,I (j+1)] H=some (x',H')/\Fit H H' x x' 9 (l.take (j*9)++l.drop ((j+1)*9))/\H'.next=H.next/\H'.base=H.base/\∀r,iM x≠some r->H'.get r=H.get r:=by
 obtain⟨y,x1,x2,x3,H1,x4,H2,e1,e2,e3,e4,e5,e6,e7,f,n1,b1,k1⟩:=UE c hb (by decide) hl hn hj (z:=[zI,zI,zI,zI,zI,zI,zI,zB,zN]) rfl rfl (e:=112) (by_:=88) (by decide);have e0:=(c.is (by decide) hl).lnS;have hne:((j:Int)=j+1)=False:=eq_false (by omega);refine⟨x3,H2,bI rfl rfl (ao4 _ _ _ _ _ ?_),f,n1,b1,k1⟩;simp only [xq_,akx,e0,e1,e2,e3,e4,e5,e6,e7,hne]
theorem Py {α:Type}{enc:α->List AV}{m:Nat}(he:∀a,(enc a).length=m):∀(l:List α) (j:Nat),(l.flatMap enc).take (j*m)=(l.take j).flatMap enc
 | [],j=> by simp
 | a::l,0=> by simp
 | a::l,j+1=> by
  rw [zaE,List.take_succ_cons,zaE,zbB,Nat.add_comm,List.take_append,he,Nat.add_sub_cancel_left,Py he l j,zaA (by rw [he];omega)]
theorem Pz {α:Type}{enc:α->List AV}{m:Nat}(he:∀a,(enc a).length=m):∀(l:List α) (j:Nat),(l.flatMap enc).drop (j*m)=(l.drop j).flatMap enc
 | [],j=> by simp
 | a::l,0=> by simp
 | a::l,j+1=> by
  rw [zaE,List.drop_succ_cons,zbB,Nat.add_comm,zdd,he,Nat.add_sub_cancel_left,Pz he l j,zaQ (by rw [he];omega),zaK]
theorem JG {α:Type}{enc:α->List AV}{m:Nat}(he:∀a,(enc a).length=m)(l:List α)(j:Nat):(l.flatMap enc).take (j*m)++(l.flatMap enc).drop ((j+1)*m)=(l.eraseIdx j).flatMap enc:=by
 rw [Py he,Pz he,List.eraseIdx_eq_take_drop_succ,zbG]
theorem pV {α:Type}{enc:α->List AV}{m:Nat}(he:∀a,(enc a).length=m){L:List α}{x:AV}(hs:aN H x m L.length (L.flatMap enc)){i:Nat}{a:α}(hi:L[i]?=some a):lda m (eP x i) H=some (.agg (enc a),H):=by
 have hl:i < L.length:=(zai.1 hi).1;rw [hs.lda hl,uH he L i a hi]
def iD(o:Option Pkt):AV:=.tup [.agg (o.getD .zero).av,B o.isSome]
theorem fH:Pkt.zero.av=[zI,zI,zI,zI,zI,zI,zI,zB,zN]:=by simp [Pkt.zero,Pkt.av,dat,gI]
theorem Ci(o:Option Pkt):Frz 9 (iD o):=uI λx hx=> by
 simp only [zaj,zaw,or_false] at hx;rcases hx with rfl | rfl
 ·refine nG λx hx=> ?_;simp only [Pkt.av,zaj,zaw,or_false] at hx;rcases hx with rfl | rfl | rfl | rfl | rfl | rfl | rfl | rfl | rfl <;> first | exact iZ | exact uJ
 ·exact iZ
theorem ZI(G:Good b H g)(h:g q=some (nM l room))(h3:l.length < 1000)(hd:∀p∈l,p.data.length < 1000000000):
  cl 180 [.ref q 0 0] H=some (iD l.head?,H):=by
 refine dJ rfl rfl (alH _ _ _) ?_ (Ci _);have G1:=G.guard.new (.blk 0 112 [zI,zI,zI,zI,zI,zI,zI,zB,zN]);obtain⟨x,hx,c⟩:=G1.seq h (i:=0) rfl;have hs:=c.is (by decide) (dI bU l);have e2:=hs.lnS;cases l with
 | nil=> simp only [Nat.reduceAdd,aW,xq_,hq_,ZB,hx,e2,Int.ofNat_zero,qA,kE,eu,iD,fH,List.head?_nil,za1,zaI]
 | cons p l=>
  have e3:=hs.ix (k:=.i64) (i:=0) (by decide) (by simp only [zal];omega);have e4:=pV bU hs (i:=0) (a:=p) rfl;have hz:(((l.length+1:Nat):Int)=0)=False:=eq_false (by omega);have e5:=λH=> U5 H p (hd p (by simp));simp only [Nat.reduceAdd,aW,xq_,hq_,ZB,hx,e2,hz,e3,Int.toNat_zero,e4,e5,iD,List.head?_cons,zat,zaJ]
theorem U7(G:Good b H g)(hb:H.base<=b)(h:g q=some (nM l room))(h3:l.length < 1000){j:Nat}(hj:j < l.length):
  ∃x x' H1 H2,ld (.ref q 0 0) H=some (x,H)/\cl 98 [x,I j,I (j+1)] H=some (x',H1)/\st 1 (.ref q 0 0) x' H1=some (aZ,H2)/\Good b H2 (upd g q (nM (l.eraseIdx j) room))/\Step b H H2:=by
 obtain⟨x,hx,c⟩:=G.seq h (i:=0) rfl;obtain⟨x',H1,d1,d2,d3,d4,d5⟩:=ahj c hb (dI bU l) (by omega) hj;rw [JG bU] at d2;obtain⟨H2,s1,s2,s3,s4⟩:=G.seat h (i:=0) rfl c (by omega) (by omega) (λr _ hr=> d5 r hr) d2;exact⟨x,x',H1,H2,hx,d1,s1,s2,Step.trans ⟨d4,by omega,λr hr=> d5 r (c.low hr)⟩ s3⟩
theorem ZJ(G:Good b H g)(hb:H.base<=b)(h:g q=some (nM l room))(h3:l.length < 1000)(hd:∀p∈l,p.data.length < 1000000000):
  ∃H',cl 154 [.ref q 0 0] H=some (iD l.head?,H')/\Good b H' (upd g q (nM l.tail room))/\Step b H H':=by
 have G1:=G.newObj (ty:=112) (xs:=[zI,zI,zI,zI,zI,zI,zI,zB,zN]) rfl;have hq:=G.lt h;have h1:upd g H.next ([zI,zI,zI,zI,zI,zI,zI,zB,zN].map .av) q=some (nM l room):=by rw [bH (by omega)];exact h
 have e1:=ZI G1 h1 h3 hd;have hb0:H.base<=H.next:=zax hb G.1
 refine jY rfl rfl (ale _ _ _) ?_;cases l with
 | nil=>
  simp only [Nat.reduceAdd,aW,xq_,hq_,zaa,zad,exists_eq_left',Zt,e1,ED,iD,List.head?_nil,za1,zaI,fH,List.tail_nil,hb0];exact⟨(fJ h).symm ▸ (G.new _).new _,(Step.new _ G.1).trans (Step.new _ (G.new _).1)⟩
 | cons p l=>
  have hm:=hd p (by simp);let H1:=H.new (.blk 0 112 [zI,zI,zI,zI,zI,zI,zI,zB,zN]);have G2:=G1.newObj (ty:=112) (xs:=p.av) (aS _);have hv2:upd (upd g H.next ([zI,zI,zI,zI,zI,zI,zI,zB,zN].map .av)) (H.next+1) (p.av.map .av) H.next=some ([zI,zI,zI,zI,zI,zI,zI,zB,zN].map .av):=by rw [bH (by omega),aV]
  have h2:upd (upd g H.next ([zI,zI,zI,zI,zI,zI,zI,zB,zN].map .av)) (H.next+1) (p.av.map .av) q=some (nM (p::l) room):=by rw [bH (by omega)];exact h1
  obtain⟨x,x',K1,K2,s1,s2,s3,s4,s5⟩:=U7 G2 (by rw [jC,jC];omega) h2 h3 (j:=0) (by simp);have G3:Good b K2 _:=s4;have q2:upd (upd (upd g H.next ([zI,zI,zI,zI,zI,zI,zI,zB,zN].map .av)) (H.next+1) (p.av.map .av)) q (nM l room) (H.next+1)=some (p.av.map .av):=by rw [bH (by omega),aV]
  have q1:upd (upd (upd g H.next ([zI,zI,zI,zI,zI,zI,zI,zB,zN].map .av)) (H.next+1) (p.av.map .av)) q (nM l room) H.next=some ([zI,zI,zI,zI,zI,zI,zI,zB,zN].map .av):=by rw [bH (by omega),bH (by omega),aV]
  have l2:=G3.loads q2 (i:=0) (n:=9) (xs:=p.av) rfl rfl (by decide);obtain⟨K3,t1,t2,t3,t4⟩:=G3.stores (by rw [s5.base,jC,jC];exact hb) q1 (i:=0) (n:=9) (vs:=p.av) (by decide) rfl (aS _);have l3:=t2.loads aV (i:=0) (n:=9) (xs:=p.av) rfl rfl (by decide);have z1:((0:Nat):Int)=0:=rfl;have z2:((0:Nat):Int)+1=1:=rfl;rw [z2] at s2;simp only [z1] at s2;simp only [Nat.reduceAdd,aW,xq_,hq_,zaa,zad,exists_eq_left',Zt,e1,ED,iD,List.head?_cons,zat,zaJ,List.tail_cons,hb0,s1,s2,s3,l2,t1,l3];have n1:g H.next=none:=G.isNone (zac _)
  have n2:g (H.next+1)=none:=G.isNone (by omega);exact⟨t2.sub (((((ru.refl g).more n1 _).more n2 _).both q _).more (zQ n1 (by omega)) _),(((Step.new _ G.1).trans (Step.new _ (G.new _).1)).trans s5).trans t3⟩
theorem ZK(G:Good b H g)(h:g q=some (nM l room))(h3:l.length < 1000)(hd:∀p∈l,p.data.length < 1000000000)(at_:Int):
  cl 92 [.ref q 0 0,I at_] H=some (iD (if at_ < 0 then none else l[at_.toNat]?),H):=by
 refine dJ rfl rfl (aoV _ _ _ _) ?_ (Ci _);have G1:=G.guard.new (.blk 0 112 [zI,zI,zI,zI,zI,zI,zI,zB,zN]);obtain⟨x,hx,c⟩:=G1.seq h (i:=0) rfl;have hs:=c.is (by decide) (dI bU l);have e2:=hs.lnS;by_cases h0:at_ < 0
 ·simp only [Nat.reduceAdd,aW,xq_,hq_,acC,h0,qA,kE,eu,iD,fH,za1,zaI]
 ·by_cases h1:at_ < l.length
  ·have e3:=hs.ix (k:=.i64) (i:=at_) (by omega) h1;obtain⟨p,hp⟩:∃p,l[at_.toNat]?=some p:=⟨_,zab (by omega)⟩
   have e4:=pV bU hs hp;have e5:=λH=> ZG H p (hd p (zav hp));have h1':¬(l.length:Int)<=at_:=by omega
   simp only [Nat.reduceAdd,aW,xq_,hq_,acC,hx,h0,h1',e2,e3,e4,e5,hp,iD,zat,zaJ]
  ·have hp:l[at_.toNat]?=none:=zaH (by omega);have h1':(l.length:Int)<=at_:=by omega
   simp only [Nat.reduceAdd,aW,xq_,hq_,acC,hx,h0,h1',e2,hp,qA,kE,eu,iD,fH,za1,zaI]
end
open Go.RowKit
section
variable {P:Program}{C:aC}{A:Ann}{n:Nat}
theorem JH {L:List Nat}{c:Code}(hc:OI A n c (pR L) (λ_=> 0) 0=true){t:fQ}{e:Env}{H H1:ah}{vs:List AV}(ht:Ag n (yQ A c (pR L) (λ_=> 0) 0) t e)
  (h:kJ P C A n c e H (λe H=> some (xW L e,H)) (λ_ _ _=> none) (λ_ _=> none)=some (vs,H1)):
  ∃t1,fD P C c t H=some (.normal,t1,H1)/\∃e1,Ag n (pR L) t1 e1/\xW L e1=vs:=by
 open Classical in
 have key:=FX (P:=P) (C:=C) (β:=List AV × ah) A c (pR L) (λ_=> 0) 0 hc
  (λt H=> if hx:∃e1,Ag n (pR L) t e1/\xW L e1=vs then(if H=H1 then some (vs,H) else none) else none) (λe H=> if xW L e=vs/\H=H1 then some (vs,H) else none)
  (λ_ _ _=> none) (λ_ _ _=> none) (λ_ _=> none) (λ_ _=> none)
  (λt e H ha r hr=> by
   split at hr
   ·rename_i hh;rw [dif_pos ⟨e,ha,hh.1⟩,if_pos hh.2];exact hr
   ·cases hr) (λ_ _ _ _ _=> Le.refl _) (λ_ _ _ _=> Le.refl _) t e H ht
 have tl:=Jm (P:=P) (C:=C) (A:=A) (n:=n) (β:=List AV × ah) c e H (λk e H=> k (xW L e) H) (λ_ _ _ _=> none) (λ_ _ _=> none) (λt H=> Yo _ _) (λ_ _ _=> gU _) (λ_ _=> gU _);have h1:kJ P C A n c e H (λe H=> (λs H=> some (s,H)) (xW L e) H) (λ_ _ _=> none) (λ_ _=> none)=some (vs,H1):=h;have h2:kJ P C A n c e H (λe H=> if xW L e=vs/\H=H1 then some (vs,H) else none) (λ_ _ _=> none) (λ_ _=> none)=some (vs,H1):=by
  rcases tl (λs H=> some (s,H)) _ h1 with h3 | ⟨s,H',h3,h4⟩
  ·exact h3 λs H=> if s=vs/\H=H1 then some (vs,H) else none
  ·cases h3;exact h4 (λs H=> if s=vs/\H=H1 then some (vs,H) else none) (by simp)
 have h3:=key _ h2;cases hx:fD P C c t H with
 | none=> rw [hx] at h3;cases h3
 | some q=>
  obtain⟨ex,t1,H2⟩:=q;rw [hx] at h3;cases ex with
  | normal=>
   simp only [OQ] at h3;split at h3
   ·rename_i he;split at h3
    ·rename_i hH;subst hH;exact⟨t1,rfl,he⟩
    ·cases h3
   ·cases h3
  | exit i=> cases h3
  | ret=> cases h3
theorem ZL {c:Code}{rs:List ResultVar}(hc:OI A n c (QM rs) (λ_=> 0) (QM rs)=true){t:fQ}{e:Env}{H:ah}{r:AV × ah}(ht:Ag n (yQ A c (QM rs) (λ_=> 0) (QM rs)) t e)
  (h:kJ P C A n c e H (ND P n rs) (λ_ _ _=> none) (ND P n rs)=some r):
  ∃ex t1,(ex=.normal∨ex=.ret)/\fD P C c t H=some (ex,t1,r.2)/\jo P rs t1 r.2=some r.1:=by
 have hr:∀t e H,Ag n (QM rs) t e->Le (ND P n rs e H) ((jo P rs t H).map λv=> (v,H)):=λt e H h=> by
  rw [Yv _ h];exact Le.refl _
 have h1:=FX (P:=P) (C:=C) A c _ _ _ hc _ _ _ _ _ _ hr (λ_ _ _ _ _=> Le.refl _) hr t e H ht r h;cases hx:fD P C c t H with
 | none=> rw [hx] at h1;cases h1
 | some q=>
  obtain⟨ex,t1,H2⟩:=q;rw [hx] at h1;cases ex with
  | exit i=> cases h1
  | normal=>
   simp only [OQ] at h1;cases hq:jo P rs t1 H2 with
   | none=> rw [hq] at h1;cases h1
   | some v=>
    rw [hq] at h1;simp only [zak,zaa] at h1;subst h1;exact⟨_,t1,.inl rfl,rfl,hq⟩
  | ret=>
   simp only [OQ] at h1;cases hq:jo P rs t1 H2 with
   | none=> rw [hq] at h1;cases h1
   | some v=>
    rw [hq] at h1;simp only [zak,zaa] at h1;subst h1;exact⟨_,t1,.inr rfl,rfl,hq⟩
theorem alR {o:Oper}{a:Act}{w:World}{K:Act->World->Prop}{Q:Exit->Act->World->Prop}{l m:Nat}(hd:∀c,o.op≠.defer c)(h:o.wp P a w K Q):o.wpIn (Fence.wide.inRound l) m P a w K Q:=by
 unfold Oper.wpIn;refine⟨λ_ _=> trivial,?_⟩;rw [Oper.semAt_eq _ _ _ hd];unfold Oper.wp at h;generalize (execOp a.eval o).run P w=r at*;have dp:(Fence.wide.inRound l).depth.isSome=true->1<=m:=λh=> by cases h
 cases r with
 | ok x w'=>
  cases x <;> simp only [Oper.upon,Oper.uponIn] at h ⊢ <;> first
   | exact h
   | exact⟨dp,CallsIn.inRound l (callsIn_wide.2 h)⟩
   | exact h.elim
   | skip
  rename_i row args;exact⟨dp,λc cs hr=> let⟨v,w',r,s⟩:=h c cs;⟨v,w',r,stepsIn_wide.2 s⟩⟩
 | halt x w'=> cases x <;> simp only [Oper.upon,Oper.uponIn] at h ⊢ <;> exact h
def Cj(o:Oper):Bool:=match o.op with
 | .defer _=> false
 | _=> true
theorem JI {o:Oper}(h:Cj o=true):∀c,o.op≠.defer c:=λc e=> by rw [Cj,e] at h;cases h
theorem ahk {ops:Array Oper}(hd:∀o∈ops,Cj o=true){Q:Exit->Act->World->Prop}{i:Nat}{K:Act->World->Prop}{a:Act}{w:World}{l m:Nat}(hq:¬LetsOut Q)(h:wpOp P ops Q i K a w):wpOpIn (Fence.wide.inRound l) m P ops Q i K a w:=by
 unfold wpOp at h;unfold wpOpIn;split
 ·rename_i ho;rw [ho] at h;exact h
 ·rename_i o ho;rw [ho] at h;simp only at h;split
  ·rename_i hw;rw [if_pos hw] at h;exact alR (JI (hd o (Array.mem_of_getElem? ho))) (h.resolve_right λh=> hq h.2)
  ·rename_i hw;rw [if_neg hw] at h;exact⟨λ_ _=> trivial,h⟩
theorem acE {ops:Array Oper}(hd:∀o∈ops,Cj o=true){Q:Exit->Act->World->Prop}{l m:Nat}{md:Region.Mode}(hq:¬LetsOut Q):∀(fuel:Nat) (listed:Array Bool) (a:Act) (w:World),wpAny P md ops Q fuel listed a w->wpAnyIn (Fence.wide.inRound l) m P md ops Q fuel listed a w:=by
 intro fuel
 induction fuel with
 | zero=> intro listed a w h;exact h
 | succ fuel ih=>
  intro listed a w h;exact⟨h.1,λi hi=> wpOpIn_mono (λa w h=> ih _ a w h) (ahk hd hq (h.2 i hi))⟩
def xI(P:Program)(C:aC)(c:Code):Prop:=
 ∀l m t H e t' H',fD P C c t H=some (e,t',H')->∀(ρ:Ren) (w:World) (a:Act),Rel ρ H w->TOn ρ H.gen w (λ_=> True) t a->∀Q:Exit->Act->World->Prop,¬LetsOut Q->anr ρ H w a t' H' (Q e.to)->c.wpIn (Fence.wide.inRound l) m P Q a w
theorem acF {ops:List Oper}{t t':fQ}{H H':ah}{ρ:Ren}{w:World}{a:Act}(hC:qP P C)(hKC:kC C)(h:yI P C ops t H=some (t',H'))(R:Rel ρ H w)(TR:TOn ρ H.gen w (λ_=> True) t a){Q:Exit->Act->World->Prop}
  (hQ:∀a' ρ' w',Rel ρ' H' w'->TOn ρ' H'.gen w' (λ_=> True) t' a'->Ext ρ H w ρ' H' w'->a'.defers=a.defers->Q .normal a' w'):wpAny P .any ops.toArray Q ops.toArray.size (Array.replicate ops.toArray.size false) a w.drew:=by
 unfold yI at h;split at h <;> first | (cases h;done) | skip
 rename_i hok;split at h <;> first | (cases h;done) | skip
 rename_i t0 H0 hcr;obtain⟨hrun,anq⟩:fM P C ops (mW ops) t0 H0=some (t',H')/\∀p∈lJ ops,agree P C ops H.next t0 H0 p:=by
  split at h
  ·rename_i he;rw [he];exact⟨h,by simp⟩
  ·split at h <;> first | (cases h;done) | skip
   rename_i ha;exact⟨h,ha⟩
 have F:=Dj hok;have hmem:∀j,j∈oL ops↔j < ops.length/\cst ops j=true:=λj=> by simp [oL,zbl,za4]
 obtain⟨hf,hg,hlen,nm,vl,h1,h2,h3⟩:=uy (oL ops) t H t0 H0 (List.nodup_range.filter _) (λj hj=> ((hmem j).1 hj).2)
  (λi _ j _ oi oj d a1 a2 a3 a4=> F.amY i j oi oj d a1 a2 a3 a4) hcr
 obtain⟨T,Hp,val,S,hend,hval⟩:=I4 hrun vl;obtain⟨hgen,RH0,EH0⟩:=Ot R hf hg;obtain⟨ρ1,w1,a1,g1,g2⟩:=yL hC _ _ _ _ _ ρ w a hcr R TR;have D:abL P C ops t H t0 H0 T Hp val nm:={
  facts:=F
  S:=S
  names:=λj hj hc=> by
   obtain⟨o,q1,q2,q3,q4,q5⟩:=h1 j ((hmem j).2 ⟨hj,hc⟩);exact⟨o,q1,q2,q3,by rw [hval j hc];exact q4,λd hd hl=> by rw [hval j hc];exact q5 d hd hl⟩
  inj:=λi j hi hj ci cj e=> h2 i ((hmem i).2 ⟨hi,ci⟩) j ((hmem j).2 ⟨hj,cj⟩) e
  rest:=λd hd=> h3 d λj hj o ho=> hd j ((hmem j).1 hj).2 o ho
  len:=hlen
  fresh:=hf
  apK:=hg
  agr:=anq
  ghost:=λp hp d=> by
   obtain⟨ρ2,w2,a2,r1,r2⟩:=I5 hC S g1 g2 p hp;exact RV.nv r1.out _ _ (r2.any d trivial)
  keeps:=hKC }
 have e1:T ops.length=t':=by rw [<-Prod.mk.inj hend |>.1]
 have e2:Hp ops.length=H':=by rw [<-Prod.mk.inj hend |>.2]
 have hli:∀j,¬Li (Array.replicate ops.toArray.size false) j:=λj=> by
  unfold Li;simp [Array.getD]
 refine ad4 hC D (a0:=a) (λa' ρ' w' q1 q2 q3 q4=> hQ a' ρ' w' (by rw [<-e2];exact q1) (by rw [<-e1,<-e2];exact q2) (by rw [<-e2];exact q3) q4) ops.toArray.size _ a w.drew 0 ρ (by simp [zG]) ?_;refine⟨by simp,λj o _ hl=> absurd hl (hli j),zaS _,λi _ _=> ⟨λhl=> absurd hl (hli i),λh=> by omega⟩,by rw [S.zero.2];exact RH0.drew,λk hk hc _=> ?_,?_,TR.size,λd hd=> ⟨λj o _ hl=> absurd hl (hli j),λ_=> ?_⟩,rfl⟩
 ·obtain⟨_,_,q1,_⟩:=D.names k hk hc;exact(R.out _ q1).1
 ·rw [S.zero.2];exact EH0.trans (Ext.drew ρ H0 w)
 ·rw [S.zero.2,hgen];exact RV.mono (Ext.drew ρ H w).toMono _ _ (TR.get d trivial hd)
theorem SC(hC:qP P C)(hKC:kC C)(hm:P.follows .mixedOrders=true){id:Nat}{ops:Array Oper}(hd:∀o∈ops,Cj o=true):xI P C (.region id ops true):=by
 intro l m t H e t' H' h ρ w a R T Q hlo hQ;simp only [fD,if_true] at h;split at h <;> first | (cases h;done) | skip
 rename_i t1 H1 hdr;simp only [zaa,zad] at h;obtain⟨rfl,rfl,rfl⟩:=h;have:=acF hC hKC hdr R T (Q:=Q) hQ;rw [show ops.toList.toArray=ops from rfl] at this;exact wpIn_region_any hm (acE hd hlo _ _ _ _ this)
theorem SE {id:Nat}{c:Code}(hc:xI P C c):xI P C (.block id c):=by
 intro l m t H e t' H' h ρ w a R T Q hlo hQ;simp only [fD] at h;refine wpIn_block ?_;unfold Dl at h;have hl:¬LetsOut (Exit.inBlock id Q):=λ⟨a,w,h⟩=> hlo ⟨a,w,h⟩;split at h
 ·rename_i i t1 H1 hf;refine hc l m t H _ t1 H1 hf ρ w a R T _ hl λa2 ρ2 w2 r1 r2 r3 r4=> ?_;simp only [Ex.to,Exit.inBlock];split at h
  ·rename_i hid;simp only [zaa,zad] at h;obtain⟨rfl,rfl,rfl⟩:=h;rw [if_pos hid];exact hQ a2 ρ2 w2 r1 r2 r3 r4
  ·rename_i hid;simp only [zaa,zad] at h;obtain⟨rfl,rfl,rfl⟩:=h;rw [if_neg hid];exact hQ a2 ρ2 w2 r1 r2 r3 r4
 ·rename_i t1 H1 hf;simp only [zaa,zad] at h;obtain⟨rfl,rfl,rfl⟩:=h;exact hc l m t H _ t1 H1 hf ρ w a R T _ hl hQ
 ·rename_i t1 H1 hf;simp only [zaa,zad] at h;obtain⟨rfl,rfl,rfl⟩:=h;exact hc l m t H _ t1 H1 hf ρ w a R T _ hl hQ
 ·cases h
def wO(H:ah):Prop:=∀r k es,H.get r≠.map k es
theorem wO.cells {H:ah}(h:wO H){ρ:Ren}{w:World}(R:Rel ρ H w){r b sh:Nat}(hr:ρ r=some (b,sh)):∃cs e,w.heap[b]?=some (.cells cs e (0,0)):=by
 have:=R.obj r b sh hr;cases hg:H.get r with
 | blk g ty cells=>
  rw [hg] at this;obtain⟨cs,e,h1,_⟩:=this;exact⟨cs,e,h1⟩
 | map k es=> exact absurd hg (h r k es)
theorem wO.imm {H:ah}(h:wO H){ρ:Ren}{w:World}(R:Rel ρ H w){b:Nat}{o:Obj}(ho:w.heap[b]?=some o)(hc:o.isCells=false):Imm ρ b:=λr sh hr=> by
 obtain⟨cs,e,h1⟩:=h.cells R hr;rw [ho] at h1;cases h1;cases hc
end
structure Grn(w w':World):Prop where
 size:w.heap.size<=w'.heap.size
 cell:∀b o v,w.cell? ⟨b,o,none⟩=some v->w'.cell? ⟨b,o,none⟩=some v
 shape:∀b e m,w.shape? b=some (e,m)->w'.shape? b=some (e,m)
mutual
theorem RV.grn {ρ:Ren}{G:Nat->Nat}{w w':World}(M:Grn w w'):∀(x:AV) (v:Value),RV ρ G w x v->RV ρ G w' x v
 | .s _,_,h=> by simpa only [RV] using h
 | .ref r g off,v,h=> by simpa only [RV] using h
 | .sl r g off esz len cap ex,v,h=> by
  obtain⟨b,o,c,e,k1,k2,k3,h1,h2⟩:=(by simpa only [RV] using h)
  simp only [RV];refine⟨b,o,c,e,k1,k2,k3,h1,λhg=> ?_⟩;obtain⟨sh,ty,k,q1,q2,q3,q4⟩:=h2 hg;exact⟨sh,ty,k,q1,q2,M.shape _ _ _ q3,q4⟩
 | .ip cells,v,h=> by
  obtain⟨b,o,e,hb,hi,h1⟩:=(by simpa only [RV] using h)
  simp only [RV];exact⟨b,o,e,zay hb M.size,hi,RVc.grn M cells b o h1⟩
 | .vs m esz cells,v,h=> by
  obtain⟨b,o,c,e,k1,k2,hb,hi,h1⟩:=(by simpa only [RV] using h)
  simp only [RV];exact⟨b,o,c,e,k1,k2,zay hb M.size,hi,RVc.grn M cells b o h1⟩
 | .mp r,v,h=> by simpa only [RV] using h
 | .fn f a c,v,h=> by
  obtain⟨a',c',e,h1,h2⟩:=(by simpa only [RV] using h)
  simp only [RV];exact⟨a',c',e,RVs.grn M a _ h1,RVs.grn M c _ h2⟩
 | .agg cells,v,h=> by
  obtain⟨cs,e,h1⟩:=(by simpa only [RV] using h)
  simp only [RV];exact⟨cs,e,RVs.grn M cells _ h1⟩
 | .tup cells,v,h=> by
  obtain⟨cs,e,h1⟩:=(by simpa only [RV] using h)
  simp only [RV];exact⟨cs,e,RVs.grn M cells _ h1⟩
theorem RVs.grn {ρ:Ren}{G:Nat->Nat}{w w':World}(M:Grn w w'):∀(xs:List AV) (l:List Value),RVs ρ G w xs l->RVs ρ G w' xs l
 | [],_,h=> by simpa only [RVs] using h
 | x::xs,l,h=> by
  obtain⟨y,ys,e,h1,h2⟩:=(by simpa only [RVs] using h)
  simp only [RVs];exact⟨y,ys,e,RV.grn M x y h1,RVs.grn M xs ys h2⟩
theorem RVc.grn {ρ:Ren}{G:Nat->Nat}{w w':World}(M:Grn w w'):∀(xs:List AV) (b o:Nat),RVc ρ G w xs b o->RVc ρ G w' xs b o
 | [],_,_,_=> by simp only [RVc]
 | x::xs,b,o,h=> by
  obtain⟨⟨y,e,h1⟩,h2⟩:=(by simpa only [RVc] using h)
  simp only [RVc];exact⟨⟨y,M.cell _ _ _ e,RV.grn M x y h1⟩,RVc.grn M xs b (o+1) h2⟩
end
section
variable {P:Program}{C:aC}
theorem alS {w w':World}{row:Option Nat}(hg:w.grownBy w' row)(hr:∀r,row=some r->∃o:Obj,w.heap[r]?=some o/\o.isCells=false):Grn w w':=by
 refine⟨hg.size,λb o v h=> cell_kept h hg hr,λb e m h=> ?_⟩;rw [fC] at h ⊢;cases hb:w.heap[b]? with
 | none=> rw [hb] at h;cases h
 | some ob=>
  have hc:ob.isCells=true:=by
   rw [hb] at h;cases ob <;> first | rfl | cases h
  rw [grownBy_keeps_cells hg hr hb hc];exact h
theorem wO.grown {H:ah}(h:wO H){ρ:Ren}{w w':World}(R:Rel ρ H w){row:Option Nat}{B:Nat}(hg:w.grownBy w' row)(hr:∀r,row=some r->B<=r/\∃o:Obj,w.heap[r]?=some o/\o.isCells=false)(hB:∀b∈fx.blocks,b < B):Rel ρ H w'/\Grn w w':=by
 have M:=alS hg λr e=> (hr r e).2;refine⟨⟨R.out,λr b sh hrb=> ?_,R.inj,?_⟩,M⟩
 ·have h1:=R.obj r b sh hrb;obtain⟨cs0,e0,hb0⟩:=h.cells R hrb;have hk:=grownBy_keeps_cells hg (λr e=> (hr r e).2) hb0 rfl;cases ho:H.get r with
  | blk g ty cells=>
   rw [ho] at h1;obtain⟨cs,e,q1,q2,q3,q4⟩:=h1;exact⟨cs,e,by rw [hk];exact q1,q2,RVc.grn M _ _ _ q3,q4⟩
  | map k es=> exact absurd ho (h r k es)
 ·refine⟨λb hb=> ?_,fx.frame w w' (λb hb=> ?_) R.gl.2⟩
  ·obtain⟨h1,h2⟩:=R.gl.1 b hb;exact⟨zay h1 hg.size,h2⟩
  ·refine hg.block b (R.gl.1 b hb).1 λe=> ?_;have:=(hr b e.symm).1;have:=hB b hb;omega
theorem Ext.grown {ρ ρ1:Ren}{H H1:ah}{w W W':World}(E:Ext ρ H w ρ1 H1 W){row:Option Nat}(hg:W.grownBy W' row)(hr:∀r,row=some r->w.heap.size<=r):Ext ρ H w ρ1 H1 W':=by
 have hb:∀b,b < w.heap.size->W'.heap[b]?=W.heap[b]?:=λb hb=> hg.block b (zay hb E.size) λe=> by
  have:=hr b e.symm;omega
 exact⟨E.next,E.mono,E.same,E.kept,E.range,zax E.size hg.size,λb h hi=> (hb b h).trans (E.frame b h hi),λb h=> by rw [<-E.shape b h,fC,fC,hb b h],hg.os.trans E.os,hg.tape.trans E.tape,hg.output.trans E.output⟩
def KpC(CP:World->Prop)(A B:World):Prop:=CP A->CP B
theorem acG(hm:P.follows .mixedOrders=true){t:fQ}{H:ah}{ρ:Ren}{w:World}{a:Act}(R:Rel ρ H w)(T:TOn ρ H.gen w (λ_=> True) t a)
  {g:Operand} {p d:Tmp} (hp:p < t.length) (hpd:p≠d) {ida:Nat} {ty:TypeId} {pos:String} {aft:Array Edge} {body:Code}
  {gf:Nat} {lb:Array Value} (hg:a.eval g=.func (.func gf) #[] lb) (eg:∀args w,(callFunc gf args).run P w=.ok (.enter gf args) w)
  {N:Nat} (vs:Fin N->AV) (cvs:Fin N->Value) (hv:∀x,RV ρ H.gen w (vs x) (cvs x)) (CP:World->Prop) (hL:∀(W:World) (l:Nat) (o o':Obj),w.heap.size<=l->W.heap[l]?=some o->o.isCells=false->CP W->CP (W.putObj l o'))
  (hseq:∀n,1<=n->SeqStopsK Fence.wide n P gf lb (λx=> #[cvs x]) (KpC CP) (λys=> ys.map (λx:Fin N=> x.val)=List.range N) (λ_=> True) N w)
  (Inv:List (Fin N)->ah->Prop) (h0:Inv [] H) (hnm:∀pre H1,Inv pre H1->wO H1)
  (hcell:∀pre H1 ρ1 W,Inv pre H1->Rel ρ1 H1 W->Ext ρ H w ρ1 H1 W->CP W)
  (hrun:∀pre x H1,Inv pre H1->pre.length < N->∃t2 H2,fD P C body (vS (vS t (some p) (vs x)) (some d) (vs x)) H1=some (.normal,t2,H2)/\Inv (pre++[x]) H2)
  (hin:xI P C body) {Q:Exit->Act->World->Prop}
  (hQ:∀xs H1 D W ρ1,xs.map (λx:Fin N=> x.val)=List.range N->Inv xs H1->Rel ρ1 H1 W->Ext ρ H w ρ1 H1 W->W.heap[D]?=some (.deferred (some []))->Imm ρ1 D->w.heap.size<=D->Q .normal { a with defers:={ target:=.collected D,args:=#[] }::a.defers } W):
  (Code.rangeFunc g #[p] (.region ida #[{ dst:=some d,op:=.assign (.tmp p),type:=ty,pos:=pos,after:=aft,guard:=none }] false) body).wp P Q a w:=by
 refine(wpIn_wide (n:=9)).1 ?_;have hpa:p < a.tmps.size:=by rw [T.size];exact hp
 let a0:Fin N->Act:=λx=> { tmps:=a.tmps.setIfInBounds p (cvs x),defers:=[] }
 let I:List (Fin N)->World->Prop:=λpre W=>∃H1 ρ1,Inv pre H1/\Rel ρ1 H1 W/\Ext ρ H w ρ1 H1 W
 have hfx:∀b∈fx.blocks,b < w.heap.size:=λb hb=> (R.gl.1 b hb).1;refine wpIn_rangeFunc_ownF (F:=Fence.wide) (α:=Fin N) rfl (by decide) (gf:=gf) (lb:=lb) hg trivial eg (hseq 8 (by decide)) (λh k hx=> k (h hx)) ?hKb (Below.refl _ _) (λ_=> rfl) I (λ_ _ _=> False) ?hI (λ_ _ _ _ _ h _ _=> h) ⟨H,ρ,h0,R,Ext.refl _ _ _⟩ (λx=> (a0 x).put (some d) (cvs x)) ?hassign ?hbody ?hdone (λ_ _ _ _ _ _ h _=> h.elim)
 case hKb=>
  intro W l o o' hl ho hc _ hx;exact hL W l o o' hl ho hc hx
 case hI=>
  rintro pre W W' row ⟨H1,ρ1,i1,i2,i3⟩ hgr hr;obtain⟨r1,_⟩:=(hnm pre H1 i1).grown i2 hgr hr hfx;exact⟨H1,ρ1,i1,r1,i3.grown hgr λr e=> (hr r e).1⟩
 case hassign=>
  intro l x W K hK;refine wpIn_region ?_;have e1:(#[p].zip #[cvs x]).foldl (λt q=> t.setIfInBounds q.1 q.2) a.tmps=a.tmps.setIfInBounds p (cvs x):=by simp
  have e2:({ tmps:=a.tmps.setIfInBounds p (cvs x),defers:=[] }:Act).eval (.tmp p)=cvs x:=by
   simp [Act.eval,Array.getD,hpa]
  show wpOpsIn _ _ P _ _ [0] _ W;simp only [wpOpsIn,List.getElem?_toArray,zaR,Region.wanted,if_true];refine alR (JI rfl) ?_;unfold Oper.wp;have e3:execOp ({ tmps:=a.tmps.setIfInBounds p (cvs x),defers:=[] }:Act).eval { dst:=some d,op:=.assign (.tmp p),type:=ty,pos:=pos,after:=aft,guard:=none }=pure (.value (cvs x)):=by
   show pure (Next.value _)=_;rw [e2]
  have e4:((#[p].zip #[cvs x]).foldl (λt x=> match x with | (p,v)=> t.setIfInBounds p v) a.tmps)=a.tmps.setIfInBounds p (cvs x):=by simp
  rw [e4,e3];exact hK
 case hbody=>
  rintro l pre x W ⟨H1,ρ1,i1,i2,i3⟩ hlen;obtain⟨t2,H2,r1,r2⟩:=hrun pre x H1 i1 hlen;have hvx:=RV.mono i3.toMono _ _ (hv x);have T0:TOn ρ1 H1.gen W (λ_=> True) (vS t (some p) (vs x)) (a0 x):=⟨((T.keep i3).put (some p) hvx).size,((T.keep i3).put (some p) hvx).get⟩
  have T1:=T0.put (some d) hvx;refine hin l _ _ H1 _ t2 H2 r1 ρ1 W _ i2 T1 _ (λ⟨_,_,h⟩=> h) λa' ρ' w' q1 q2 q3 q4=> ?_;refine⟨⟨q3.size,λk o ho hc=> ?_⟩,λ_=> hcell _ H2 ρ' w' r2 q1 (i3.trans q3),H2,ρ',r2,q1,i3.trans q3⟩;rw [q3.frame k (zbv.1 ho).1 ((hnm pre H1 i1).imm i2 ho hc)];exact ho
 case hdone=>
  rintro D xs W hD hS ⟨H1,ρ1,i1,i2,i3⟩ hK;exact hQ xs H1 D W ρ1 hS i1 i2 i3 hK ((hnm xs H1 i1).imm i2 hK rfl) hD
end
def apz(e:TypeId)(m by_:Nat)(z:List AV)(x y:AV):AM AV:=λH=> match y with
 | .s (.int _ n)=> if 0<=n/\n<=most/\n*by_<=most then dZ e m by_ x n.toNat (dX z n.toNat) H else none
 | _=> none
def DK:Ann:=⟨[],[(4,rF 40 (none::some false::[])),(7,rF 3 (some true::rF 4 []))],[]⟩
def ZM:Code:=match ahh with
 | .seq a (.seq b (.seq c (.seq d (.seq (.seq e _) f))))=> .seq a (.seq b (.seq c (.seq d (.seq e .skip))))
 | _=> .skip
def ZN(C:aC)(t0:AV)(H:ah):Option (List AV × ah):=
 bnd (alc 112 [zI,zI,zI,zI,zI,zI,zI,zB,zN] H) λv2 H=>
 bnd (C 142 [t0] H) λv12 H=> bo (aK v12 0) λv13=> bo (aK v12 1) λv14=>
 bo (un .not v14) λv16=> gdA (some v16) false (fP (some v13) H) H λv18 H=> gdA (some v16) false (lnS v18 H) H λv19 H=> gdA (some v16) false (fP (bi .lss 3 v19 (I 10)) H) H λv20 H=> bo (dF v16 (B true) v20) λv21=> gdA (some v21) false (fP (some v13) H) H λv23 H=> gdA (some v21) false (lnS v23 H) H λv24 H=> gdA (some v21) false (fP (some v13) H) H λv25 H=> gdA (some v21) false (ix 1 v25 (I 9) H) H λv26 H=> gdA (some v21) false (ld v26 H) H λv27 H=> gdA (some v21) false (cv 5 3 v27 H) H λv28 H=> gdA (some v21) false (fP (bi .mul 3 (I 8) v28) H) H λv29 H=> gdA (some v21) false (fP (bi .add 3 (I 10) v29) H) H λv30 H=> gdA (some v21) false (fP (bi .neq 3 v24 v30) H) H λv31 H=> bo (dF v21 (B true) v31) λv32=>
 aY v32
 (bo (bd 112 []) λv33=> bnd (st 9 v2 v33 H) λ_ H=>
  none)
 (bnd (alc 112 [zI,zI,zI,zI,zI,zI,zI,zB,zN] H) λv6 H=> bnd (ix 1 v13 (I 0) H) λv35 H=> bnd (ld v35 H) λv36 H=> bnd (cv 5 3 v36 H) λv37 H=> bnd (ix 1 v13 (I 1) H) λv39 H=> bnd (ld v39 H) λv40 H=> bnd (cv 5 3 v40 H) λv41 H=> bnd (ix 1 v13 (I 2) H) λv43 H=> bnd (ld v43 H) λv44 H=> bnd (cv 5 3 v44 H) λv45 H=> bnd (ix 1 v13 (I 3) H) λv47 H=> bnd (ld v47 H) λv48 H=> bnd (cv 5 3 v48 H) λv49 H=> bo (bi .shl 3 v49 (.s (Go.Value.int Go.IntKind.u64 8))) λv50=> bnd (ix 1 v13 (I 4) H) λv52 H=> bnd (ld v52 H) λv53 H=> bnd (cv 5 3 v53 H) λv54 H=> bo (bi .or 3 v50 v54) λv55=> bnd (ix 1 v13 (I 5) H) λv57 H=> bnd (ld v57 H) λv58 H=> bnd (cv 5 3 v58 H) λv59 H=> bnd (ix 1 v13 (I 6) H) λv61 H=> bnd (ld v61 H) λv62 H=> bnd (cv 5 3 v62 H) λv63 H=> bo (bi .sub 3 v63 (I 1)) λv64=> bnd (ix 1 v13 (I 7) H) λv66 H=> bnd (ld v66 H) λv67 H=> bnd (cv 5 3 v67 H) λv68 H=> bnd (ix 1 v13 (I 8) H) λv70 H=> bnd (ld v70 H) λv71 H=> bo (bi .eql 5 v71 (.s (Go.Value.int Go.IntKind.u8 1))) λv72=> bo (bd 112 [(0,v37),(1,v41),(2,v45),(3,v55),(4,v59),(5,v64),(6,v68),(7,v72)]) λv73=> bnd (st 9 v6 v73 H) λ_ H=>
  bo (slS 1 v13 (some (I 10)) none none) λv75=> bnd (C 143 [v75,(I 8)] H) λv76 H=>
  some ([t0,v2,v6,v76],H))
theorem alT(C:aC)(t0:AV)(H:ah):kJ Tryz.prog C DK 100 ZM [(0,t0)] H (λe H=> some (xW [0,2,6,76] e,H)) (λ_ _ _=> none) (λ_ _=> none)=ZN C t0 H:=by kernel_rfl
def U8:Code:=match ahh with
 | .seq a (.seq b (.seq c (.seq d (.seq (.seq e (.block _ (.rangeFunc _ _ _ g))) f))))=> g
 | _=> .skip
def ZO(C:aC)(t6 t7:AV)(H:ah):Option (List AV × ah):=
 bo (au t6 8) λv78=> bnd (ld v78 H) λv79 H=> bnd (unG H (C 144 [t7] H.guard)) λv81 H=> bnd (bs 22 1 [(0,v81)] H) λv82 H=> bnd (app 3 1 8 v79 v82 H) λv83 H=> bo (au t6 8) λv84=> bnd (st 1 v84 v83 H) λ_ H=>
 some ([],H)
theorem alU(C:aC)(t6 t7:AV)(H:ah):kJ Tryz.prog C DK 100 U8 [(6,t6),(7,t7)] H (λe H=> some (xW [] e,H)) (λ_ _ _=> none) (λ_ _=> none)=ZO C t6 t7 H:=by kernel_rfl
def U9:Code:=match ahh with
 | .seq a (.seq b (.seq c (.seq d (.seq (.seq e _) f))))=> f
 | _=> .skip
def ZP(C:aC)(t0 t2 t6:AV)(H:ah):Option (AV × ah):=
 bnd (lda 9 t6 H) λv86 H=> bnd (C 93 [v86] H) λv87 H=> bo (aK v87 0) λv88=> bo (aK v87 1) λv89=>
 bo (bi .neq 48 v89 (I 0)) λv91=> gdA (some v91) false (fP (some v88) H) H λv93 H=> gdA (some v91) false (fP (some t0) H) H λv94 H=> gdA (some v91) false (C 145 [v93,v94] H) H λv95 H=> gdA (some v91) false (fP (un .not v95) H) H λv96 H=> bo (dF v91 (B true) v96) λv97=>
 aY v97
 (bo (bd 112 []) λv98=> bnd (st 9 t2 v98 H) λ_ H=>
  bnd (lda 9 t2 H) λr0 _=> some (.tup [r0,(I 2)],H))
 (bnd (lda 9 t6 H) λv99 H=> bnd (st 9 t2 v99 H) λ_ H=>
  bnd (lda 9 t2 H) λr0 _=> some (.tup [r0,(I 0)],H))
theorem alV(C:aC)(t0 t2 t6:AV)(H:ah):kJ Tryz.prog C DK 100 U9 [(0,t0),(2,t2),(6,t6)] H (ND Tryz.prog 100 Tryz.f94.results.toList) (λ_ _ _=> none) (ND Tryz.prog 100 Tryz.f94.results.toList)=ZP C t0 t2 t6 H:=by kernel_rfl
def L9(C:aC)(t0:AV)(H:ah):OA:=
 some (t0,H)
def Me(C:aC)(t0 t1:AV)(H:ah):OA:=
 bnd (fP (adY Tryz.prog 172 t0) H) λv10 H=> bnd (lnS t0 H) λv12 H=> bo (bi .sub 3 v10 v12) λv13=> bo (bi .sub 3 t1 v13) λv14=>
 bo (bi .gtr 3 v14 (I 0)) λv16=>
 aY v16
 (bnd (fP (adY Tryz.prog 172 t0) H) λv19 H=> bo (slS 1 t0 none (some v19) none) λv20=> bnd (apz 5 1 1 [.s (.int .u8 0)] v20 v14 H) λv22 H=> bnd (lnS t0 H) λv24 H=> bo (slS 1 v22 none (some v24) none) λv25=>
  L9 C v25 H)
 (L9 C t0 H)
def afK(C:aC)(a0 a1:AV)(H:ah):OA:=
 bo (bi .lss 3 a1 (I 0)) λv6=>
 aY v6
 (bnd (stk H) λv7 H=> bnd (stk H) λ_ H=>
  Me C a0 a1 H)
 (Me C a0 a1 H)
theorem alW:Rn2 191 afK:=λ_ _ _ _ _ h=>
 rnG an0 Tryz.func191 (by kernel_rfl) (by kernel_rfl) h
structure Gro(H H':ah):Prop where
 next:H.next<=H'.next
 base:H'.base=H.base
 same:∀r,r < H.next->H'.get r=H.get r
 PD:wO H->wO H'
theorem Gro.refl(H:ah):Gro H H:=⟨zac _,rfl,λ_ _=> rfl,λh=> h⟩
theorem Gro.trans {H H' H'':ah}(a:Gro H H')(b:Gro H' H''):Gro H H'':=
 ⟨zax a.next b.next,b.base.trans a.base,λr h=> (b.same r (zay h a.next)).trans (a.same r h),λh=> b.PD (a.PD h)⟩
theorem Gro.new(H:ah)(g ty:Nat)(xs:List AV):Gro H (H.new (.blk g ty xs)):=
 ⟨by rw [fE];omega,jC,λr h=> eG h,λh r k es=> by
  by_cases e:r=H.next
  ·rw [bC e];simp
  ·have:(H.new (.blk g ty xs)).get r=H.get r:=by simp [ah.new,e]
   rw [this];exact h r k es⟩
structure dG(H:ah)(x:AV)(l:List By):Prop where
 is:aN H x 1 l.length (l.map Y)
 small:l.length < 1000
theorem dG.gro {H H':ah}{x:AV}{l:List By}(h:dG H x l)(g:Gro H H'):dG H' x l:=⟨h.is.qB g.next λr _ hr=> g.same r hr,h.small⟩
theorem dG.ix {H:ah}{x:AV}{l:List By}(h:dG H x l){i:Nat}(hi:i < l.length):ix 1 x (I i) H=some (eP x i,H):=by
 have:=h.is.ix (k:=.i64) (i:=(i:Int)) (by omega) (by omega)
 rwa [zaq] at this
theorem dG.ld {H:ah}{x:AV}{l:List By}(h:dG H x l){i:Nat}{c:By}(hi:l[i]?=some c):ld (eP x i) H=some (Y c,H):=by
 rw [h.is.ld (by have:=(zai.1 hi).1;omega),zaM,hi];rfl
theorem ahl(s:S16):(s <<< 1) ^^^ ((s >>> 15)*4129#16)=shS s:=by
 unfold shS
 congr 1
 have hlt:=s.isLt;have h15:s >>> 15=if s.msb then 1#16 else 0#16:=by
  apply BitVec.eq_of_toNat_eq
  rw [BitVec.toNat_ushiftRight,zcw,BitVec.msb_eq_decide];by_cases h:2 ^ (16 - 1)<=s.toNat
  ·simp only [h,decide_true,if_true];show s.toNat / 2 ^ 15=1;omega
  ·simp only [h,decide_false,zaf,if_false];show s.toNat / 2 ^ 15=0;omega
 rw [h15];cases s.msb <;> simp
theorem afL {x:AV}{n i:Int}(H:ah):∀(k j:Nat),j+k=8->∀s:S16,EI cl0 [U16 s,x,I n,I i,I j] H=Au cl0 [U16 (shN k s),x,I n,I (IntKind.wrap .i64 (i+1))] H
 | 0,j,hj,s=> by
  have h1:¬((j:Int) < 8):=by omega
  rw [U3];simp only [xq_,h1,dW];rfl
 | k+1,j,hj,s=> by
  have h1:(j:Int) < 8:=by omega
  have h6:(j:Int)+1=((j+1:Nat):Int):=by omega
  have h7:=wrap_i64 (a:=((j+1:Nat):Int)) (by omega) (by omega);have e1:bi .shr 50 (U16 s) (.s (.int .u64 15))=some (U16 (s >>> 15)):=agR (k:=.u16) s 15 (by decide) (by decide);have e2:bi .shl 50 (U16 s) (.s (.int .u64 1))=some (U16 (s <<< 1)):=Y3 (k:=.u16) rfl s 1 (by decide) (by decide);have e3:bi .mul 50 (U16 (s >>> 15)) (.s (.int .u16 4129))=some (U16 ((s >>> 15)*4129#16)):=anR (k:=.u16) rfl (s >>> 15) 4129#16;have e4:bi .xor 50 (U16 (s <<< 1)) (U16 ((s >>> 15)*4129#16))=some (U16 (shS s)):=by rw [<-ahl];exact agQ (k:=.u16) rfl _ _
  have ih:=afL (x:=x) (n:=n) (i:=i) H k (j+1) (by omega) (shS s);rw [U3];simp only [xq_,h1,e1,e2,e3,e4,dW,h6,h7,ih];rfl
theorem aqP {H:ah}{x:AV}{l:List By}(hx:dG H x l):cl0 177 [x] H=some (U16 (uM 0xffff#16 l),H):=by
 have key:∀(k i:Nat),i+k=l.length->∀s:S16,Au cl0 [U16 s,x,I l.length,I i] H=some (U16 (uM s (l.drop i)),H):=by
  intro k
  induction k with
  | zero=>
   intro i hi s;have h1:¬((i:Int) < l.length):=by omega
   rw [U2,zaQ (by omega)];simp only [xq_,h1];rfl
  | succ k ih=>
   intro i hi s;have h1:(i:Int) < l.length:=by omega
   have h6:(i:Int)+1=((i+1:Nat):Int):=by omega
   have h7:=wrap_i64 (a:=((i+1:Nat):Int)) (by have:=hx.small;omega) (by have:=hx.small;omega);obtain⟨c,hc⟩:∃c,l[i]?=some c:=⟨_,zab (by omega)⟩
   have s1:=hx.ix (i:=i) (by omega);have s2:=hx.ld hc;have e1:cv 5 50 (Y c) H=some (U16 (c.setWidth 16),H):=
    (agF (k:=.u8) (n:=(c.toNat:Int)) (H:=H)).trans (congrArg (λv=> some (v,H)) (ajH (k:=.u8) (k':=.u16) rfl c))
   have e2:bi .shl 50 (U16 (c.setWidth 16)) (.s (.int .u64 8))=some (U16 (c.setWidth 16 <<< 8)):=Y3 (k:=.u16) rfl (c.setWidth 16) 8 (by decide) (by decide);have e3:bi .xor 50 (U16 s) (U16 (c.setWidth 16 <<< 8))=some (U16 (s ^^^ (c.setWidth 16 <<< 8))):=agQ (k:=.u16) rfl _ _;have e4:=afL (x:=x) (n:=(l.length:Int)) (i:=(i:Int)) H 8 0 rfl (s ^^^ (c.setWidth 16 <<< 8));rw [h6,h7] at e4;have hd:l.drop i=c::l.drop (i+1):=by
    rw [zby (by omega)];rw [zab (by omega)] at hc;rw [za2 hc]
   have ih1:=ih (i+1) (by omega) (XE s c);have e5:uM s (c::l.drop (i+1))=uM (XE s c) (l.drop (i+1)):=rfl;rw [U2,hd,e5,<-ih1];have z0:((0:Nat):Int)=0:=rfl;rw [z0] at e4;simp only [xq_,h1,s1,s2,e1,e2,e3,e4];rfl
 refine iG (alF _ _ _ ?_);have s0:=hx.is.lnS;have k0:=key l.length 0 (by omega) 0xffff#16;rw [zaP] at k0;simp only [xq_,afD,s0];exact k0
theorem Va {e:Nat}{z a c:AV}{H:ah}(ha:One a)(hc:One c):bsl e 1 [z] 2 [(0,a),(1,c)] H=some (.sl H.next 0 0 1 2 2 true,H.new (.blk 0 e [a,c])):=by
 have e1:dX [z] 2=[z,z]:=rfl;unfold bsl;rw [e1,Gm (off:=0) rfl ha.1 (by simp),Gm (off:=1) rfl hc.1 (by simp),eu];simp only [zbQ,zb4];simp only [zcT,ha.2,hc.2,zdn,zcq,if_true]
theorem ZQ {e by_ r ty len cap n:Nat}{ex:Bool}{y:AV}{cells new:List AV}{H:ah}(hx:H.get r=.blk 0 ty cells)(hb:H.base<=r)(hy:aN H y 1 n new)(hc:new.all AV.aQ=true)(hcap:len+n<=cap)(hl:len+n<=cells.length):
  app e 1 by_ (.sl r 0 0 1 len cap ex) y H=some (.sl r 0 0 1 (len+n) cap ex,H.put r (.blk 0 ty (aW cells len new))):=by
 obtain⟨c1,c2⟩:=hy.wE;simp only [app,c1,c2];unfold dZ;rw [if_pos ⟨hy.1,hc⟩];simp only [hx];rw [if_pos ⟨trivial,trivial,by omega⟩];by_cases hn:n=0
 ·subst hn;have hnew:new=[]:=zar (by have:=hy.1;omega);subst hnew;rw [if_pos rfl];have:aW cells len []=cells:=by simp [aW]
  rw [this,zbN];have:H.put r (.blk 0 ty cells)=H:=by
   unfold ah.put;cases H with
   | mk n b g=>
    simp only at hx ⊢
    congr 1
    funext x
    split
    ·rename_i h;rw [h,hx]
    ·rfl
  rw [this]
 ·rw [if_neg hn,if_pos hcap,if_pos ⟨hb,by omega⟩];simp
theorem ao7(H:ah)(n:Nat)(h0:0 < n)(h1:n < 10000):cl0 191 [zN,I n] H=some (.sl H.next 0 0 1 0 n false,H.new (.blk 0 (5+gQ) (dX [.s (.int .u8 0)] n))):=by
 refine iG (alW _ _ _ _ ?_);have n0:¬((n:Int) < 0):=by omega
 have cp:adY Tryz.prog 172 zN=some (I 0):=by kernel_rfl
 have w0:IntKind.wrap .i64 ((0:Int) - 0)=0:=rfl;have w1:IntKind.wrap .i64 ((n:Int) - 0)=n:=by rw [Int.sub_zero];exact wrap_i64 (by omega) (by omega)
 have g0:(0:Int) < n:=by omega
 have s0:slS 1 zN none (some (I 0)) none=some zN:=by kernel_rfl
 have az:apz 5 1 1 [.s (.int .u8 0)] zN (I n) H=some (.sl H.next 0 0 1 n n false,H.new (.blk 0 (5+gQ) (dX [.s (.int .u8 0)] n))):=by
  show(if 0<=(n:Int)/\(n:Int)<=most/\(n:Int)*1<=most then dZ 5 1 1 zN (n:Int).toNat (dX [.s (.int .u8 0)] (n:Int).toNat) H else none)=_;have hm:(n:Int)<=most:=by unfold most;omega
  rw [if_pos ⟨by omega,hm,by omega⟩,zaq];unfold dZ;have hl:(dX [AV.s (.int .u8 0)] n).length=n*1:=by rw [kK];simp
  rw [if_pos ⟨hl,BJ rfl n⟩];simp only;rw [if_neg (by omega),if_pos ⟨by unfold most;omega,by unfold most;omega⟩]
 have s1:slS 1 (.sl H.next 0 0 1 n n false) none (some (I 0)) none=some (.sl H.next 0 0 1 0 n false):=UD (by omega) (by omega);have ln0:∀H,lnS zN H=some (I 0,H):=λ_=> rfl;simp only [xq_,afK,Me,L9,n0,cp,ln0,jw,w0,w1,g0,s0,az,s1]
theorem ahm {c:By}:One (Y c):=⟨rfl,rfl⟩
theorem ZR {H:ah}{x:AV}{l:List By}(h:dG H x l):One x:=by
 obtain⟨_,hh⟩:=h.is;cases x with
 | sl r g off esz len cap ex=> exact vJ
 | vs n m l=> exact aex
 | s v=> cases v <;> first | exact hh.elim | exact⟨rfl,rfl⟩
 | _=> exact hh.elim
theorem aqQ {H:ah}(hb:H.base<=H.next){a x y:AV}{l m:List By}(ha:aN H a 1 2 [x,y])(hx:dG H x l)(hy:dG H y m)(hm:0 < m.length):
  cl0 178 [a] H=some (.sl H.next 0 0 1 (l.length+m.length) (l.length+m.length) false,H.new (.blk 0 (5+gQ) ((l++m).map Y))):=by
 have sl:=hx.small;have sm:=hy.small;refine iG (alG _ _ _ ?_);have ln:=ha.lnS;have i0:=ha.ix (k:=.i64) (i:=0) (by decide) (by decide);have i1:=ha.ix (k:=.i64) (i:=1) (by decide) (by decide);have d0:ld (eP a 0) H=some (x,H):=ha.ld (by decide);have d1:ld (eP a 1) H=some (y,H):=ha.ld (by decide);have lx:=hx.is.lnS;have ly:=hy.is.lnS;let Z:ah->List AV->ah:=λH l=> H.new (.blk 0 (5+gQ) l)
 obtain⟨n,hn⟩:∃n,n=l.length+m.length:=⟨_,rfl⟩
 have gr:=ao7 H n (by omega) (by omega);have K:∀cs,Gro H (H.new (.blk 0 (5+gQ) cs)):=λcs=> Gro.new H 0 _ cs;have hz:(dX [AV.s (.int .u8 0)] n).length=n:=by rw [kK];simp
 -- behind the first
 let c1:=aW (dX [AV.s (.int .u8 0)] n) 0 (l.map Y);have a1:=ZQ (e:=5) (by_:=1) (r:=H.next) (ex:=false) (cap:=n) (H:=H.new (.blk 0 (5+gQ) (dX [.s (.int .u8 0)] n))) (bC rfl) (by rw [jC];exact hb) (hx.gro (K _)).is (acn l) (len:=0) (by omega) (by omega);rw [RN,zaW] at a1;have hc1:c1.length=n:=by simp only [c1,aW,zao,zau,zaN,zaB,hz];omega
 have a2:=ZQ (e:=5) (by_:=1) (r:=H.next) (ex:=false) (cap:=n) (H:=H.new (.blk 0 (5+gQ) c1)) (bC rfl) (by rw [jC];exact hb) (hy.gro (K _)).is (acn m) (len:=l.length) (by omega) (by omega);rw [RN] at a2;have hc2:aW c1 l.length (m.map Y)=(l++m).map Y:=by
  simp only [c1,aW,zds,zaK,zaW,zaB];rw [zbM (by simp),zaA (by simp),zdd,zaQ (by simp),zbA];rw [zaQ (by simp only [hz,zaB];omega)];simp
 rw [hc2] at a2;have ga:=λcs=> (ha.qB (K cs).next λr _ hr=> (K cs).same r hr)
 have li:=λcs=> (ga cs).lnS;have j0:=λcs=> (ga cs).ix (k:=.i64) (i:=0) (by decide) (by decide);have j1:=λcs=> (ga cs).ix (k:=.i64) (i:=1) (by decide) (by decide);have e0:∀cs,ld (eP a 0) (H.new (.blk 0 (5+gQ) cs))=some (x,H.new (.blk 0 (5+gQ) cs)):=λcs=> (ga cs).ld (by decide);have e1:∀cs,ld (eP a 1) (H.new (.blk 0 (5+gQ) cs))=some (y,H.new (.blk 0 (5+gQ) cs)):=λcs=> (ga cs).ld (by decide);have t0:((0:Int).toNat)=0:=rfl;have t1:((1:Int).toNat)=1:=rfl;rw [t0] at i0;rw [t1] at i1;have j0:∀cs,ix 1 a (I 0) (H.new (.blk 0 (5+gQ) cs))=some (eP a 0,H.new (.blk 0 (5+gQ) cs)):=j0;have j1:∀cs,ix 1 a (I 1) (H.new (.blk 0 (5+gQ) cs))=some (eP a 1,H.new (.blk 0 (5+gQ) cs)):=j1;have w1:IntKind.wrap .i64 ((0:Int)+l.length)=l.length:=by rw [Int.zero_add];exact wrap_i64 (by omega) (by omega)
 have w2:IntKind.wrap .i64 ((l.length:Int)+m.length)=n:=by rw [hn];have:=wrap_i64 (a:=((l.length+m.length:Nat):Int)) (by omega) (by omega);rwa [Int.natCast_add] at this ⊢
 have p1:IntKind.wrap .i64 (1:Int)=1:=rfl;have p2:IntKind.wrap .i64 (2:Int)=2:=rfl;have q1:¬((l.length:Int) < 0):=by omega
 have q2:¬((n:Int) < 0):=by omega
 have z2:((2:Nat):Int)=2:=rfl;rw [z2] at ln;have li:∀cs,lnS a (H.new (.blk 0 (5+gQ) cs))=some (I 2,H.new (.blk 0 (5+gQ) cs)):=li;rw [<-hn] at a2 ⊢;simp only [c1] at a2;simp only [xq_,afE,ln];rw [L6];simp only [Int.reduceLT,Int.reduceAdd,xq_,EJ,i0,d0,lx,dW,w1,q1,p1];rw [L6];simp only [Int.reduceLT,Int.reduceAdd,xq_,EJ,i1,d1,ly,dW,w2,q2,p2];rw [L6];simp only [Int.reduceLT,xq_,gr,li];rw [L8];simp only [Int.reduceLT,Int.reduceAdd,xq_,j0,e0,a1,dW,p1];rw [L8];simp only [Int.reduceLT,Int.reduceAdd,xq_,j1,e1,a2,dW,p2];rw [L8];simp only [Int.reduceLT,xq_]
theorem dG.made {H:ah}{l:List By}{ty:TypeId}{ex:Bool}(h:l.length < 1000):dG (H.new (.blk 0 ty (l.map Y))) (.sl H.next 0 0 1 l.length l.length ex) l:=
 ⟨nO (by simp),h⟩
theorem ahn {H:ah}(hb:H.base<=H.next){x:AV}{l:List By}(hx:dG H x l)(hl:l.length < 900):
  ∃y H',cl0 141 [x] H=some (y,H')/\Gro H H'/\dG H' y (jJ l)/\H'.base<=H'.next:=by
 obtain⟨s,hs⟩:∃s,uM 0xffff#16 l=s:=⟨_,rfl⟩
 have e1:=aqP hx;rw [hs] at e1;have e2:bi .shr 50 (U16 s) (.s (.int .u64 8))=some (U16 (s >>> 8)):=agR (k:=.u16) s 8 (by decide) (by decide);have e3:∀H,cv 50 5 (U16 (s >>> 8)) H=some (Y (XF s),H):=λH=>
  (Yz (k:=.u16) (n:=((s >>> 8).toNat:Int)) (H:=H)).trans (congrArg (λv=> some (v,H)) (ajH (k:=.u16) (k':=.u8) rfl (s >>> 8)))
 have e4:∀H,cv 50 5 (U16 s) H=some (Y (XG s),H):=λH=>
  (Yz (k:=.u16) (n:=(s.toNat:Int)) (H:=H)).trans (congrArg (λv=> some (v,H)) (ajH (k:=.u16) (k':=.u8) rfl s))
 let H1:=H.new (.blk 0 5 [Y (XF s),Y (XG s)]);let y1:AV:=.sl H.next 0 0 1 2 2 true
 let H2:=H1.new (.blk 0 172 [x,y1]);have g1:Gro H H1:=Gro.new H 0 _ _;have g2:Gro H1 H2:=Gro.new H1 0 _ _;have by1:dG H1 y1 [XF s,XG s]:=dG.made (l:=[XF s,XG s]) (by simp);have ha:aN H2 (.sl H1.next 0 0 1 2 2 true) 1 2 [x,y1]:=nO rfl;have hb2:H2.base<=H2.next:=by simp only [H2,H1,jC,fE];omega
 have ec:=aqQ hb2 ha (hx.gro (g1.trans g2)) (by1.gro g2) (by simp);have hse:jJ l=l++[XF s,XG s]:=by unfold jJ;rw [hs]
 have hlen:(jJ l).length=l.length+2:=by rw [hse];simp
 have bm:=dG.made (H:=H2) (l:=jJ l) (ty:=5+gQ) (ex:=false) (by omega);rw [hlen] at bm;have l2:([XF s,XG s]:List By).length=2:=rfl;rw [<-hse,l2] at ec;refine⟨_,_,iG (ak7 _ _ _ (r:=(.sl H2.next 0 0 1 (l.length+2) (l.length+2) false,H2.new (.blk 0 (5+gQ) ((jJ l).map Y)))) ?_),(g1.trans g2).trans (Gro.new H2 0 _ _),bm,by rw [jC,fE];omega⟩;have b1:bs 172 2 [(0,Y (XF s)),(1,Y (XG s))] H=some (y1,H1):=(Ux (by decide)).trans (Va ahm ahm);have b2:bs 286 2 [(0,x),(1,y1)] H1=some (.sl H1.next 0 0 1 2 2 true,H2):=(ai1 (by decide)).trans (Va (ZR hx) vJ);simp only [xq_,afm,e1,e2,e3,e4,b1,b2,ec]
theorem DL:∀(ns:List Int) (b:ByteArray),(ns.foldl (λs n=> s.push (UInt8.ofNat n.toNat)) b).data.toList=b.data.toList++ns.map λn=> UInt8.ofNat n.toNat
 | [],b=> by simp
 | n::ns,b=> by
  rw [zbI,DL ns];simp [ByteArray.push]
theorem ZT {l m:List By}(h:NZ (l.map λc=> (c.toNat:Int))=NZ (m.map λc=> (c.toNat:Int))):l=m:=by
 have h1:=congrArg (λb:ByteArray=> b.data.toList) h;unfold NZ at h1;simp only [DL,zcO] at h1;have h2:l.map (λc:By=> UInt8.ofBitVec c)=m.map (λc:By=> UInt8.ofBitVec c):=by
  have key:∀l:List By,l.map ((λn:Int=> UInt8.ofNat n.toNat) ∘ λc:By=> (c.toNat:Int))=l.map (λc:By=> UInt8.ofBitVec c):=λl=> zbr λc _=> by
   simp only [Function.comp,zaq]
   apply UInt8.toBitVec_inj.1
   simp
  rw [<-key,<-key]
  simpa using h1
 exact(List.map_inj_right λa b h=> by simpa using h).1 h2
theorem Cm:∀l:List By,oK (l.map Y)=some (l.map λc=> (c.toNat:Int))
 | []=> rfl
 | c::l=> by
  show(match oK (l.map Y) with | some l'=> some ((c.toNat:Int)::l') | none=> none)=_;rw [Cm l];rfl
theorem alX {H:ah}{x:AV}{l:List By}(hx:dG H x l):cv 172 9 x H=some (.s (.string (NZ (l.map λc=> (c.toNat:Int)))),H):=by
 have hbt:Fa Tryz.prog 172 9=true:=by kernel_rfl
 obtain⟨hl,hh⟩:=hx.is;show ku (zA Tryz.prog 172 9 x) x H=_;unfold ku zA;rw [if_pos hbt];cases x with
 | sl r g off esz len cap ex=>
  obtain⟨rfl,rfl,_,ty,all,h2,h3,h4⟩:=hh;simp only [bQ,zak,ais,if_true,h2];rw [if_pos ⟨trivial,h3⟩,<-h4,Cm];rfl
 | vs n m cs=>
  obtain⟨rfl,rfl,rfl⟩:=hh;simp only [ais,if_true,Cm];rfl
 | s v=>
  cases v with
  | slice a b c=>
   cases a with
   | none=>
    obtain⟨rfl,rfl,h3⟩:=(show b=0/\c=0/\l.length=0 from hh)
    have:l=[]:=zar h3;subst this;rfl
   | some a=> exact hh.elim
  | _=> exact hh.elim
 | _=> exact hh.elim
theorem ZU {H:ah}{x y:AV}{l m:List By}(hx:dG H x l)(hy:dG H y m):cl0 145 [x,y] H=some (B (decide (l=m)),H):=by
 refine iG (ala _ _ _ _ ?_);have e1:=alX hx;have e2:=alX hy;have e3:∀a c:ByteArray,bi .eql 9 (.s (.string a)) (.s (.string c))=some (B (decide (a=c))):=λa c=> by
  show ql _ _ _ _ _=_;rcases a with⟨a⟩
  rcases c with⟨c⟩
  by_cases h:a=c
  ·simp [ql,AV.val?,eqGuard,binOp,Op.stringOp,dL,h]
  ·have h2:¬a.toList=c.toList:=λe=> h (zcg.1 e);rw [<-ByteArray.toList_eq ⟨a⟩,<-ByteArray.toList_eq ⟨c⟩] at h2;simp [ql,AV.val?,eqGuard,binOp,Op.stringOp,dL,h,h2]
 have e4:decide (NZ (l.map λc=> (c.toNat:Int))=NZ (m.map λc=> (c.toNat:Int)))=decide (l=m):=by
  by_cases h:l=m
  ·rw [h];simp
  ·rw [decide_eq_false h,decide_eq_false λe=> h (ZT e)]
 simp only [xq_,afq,e1,e2,e3,e4]
theorem dG.to_ {H:ah}{x:AV}{l:List By}(h:dG H x l){n:Nat}(hn:n<=l.length):∃y,slS 1 x none (some (I n)) none=some y/\dG H y (l.take n):=by
 obtain⟨⟨hl,hh⟩,hs⟩:=h;have ht:(l.take n).length=n:=by rw [zau];omega
 have small:(l.take n).length < 1000:=by omega
 cases x with
 | sl r g off esz len cap ex=>
  obtain⟨rfl,rfl,⟨hr,hc⟩,ty,all,h2,h3,h4⟩:=hh;refine⟨_,UD (by omega) (by omega),⟨⟨by simp,rfl,by rw [ht,zaq],⟨hr,by rw [zaq];omega⟩,ty,all,h2,by rw [ht];omega,?_⟩,small⟩⟩;rw [zcA,h4,zbT,ht]
  congr 1
  omega
 | vs k' esz cs=>
  obtain⟨rfl,rfl,rfl⟩:=hh;refine⟨.vs n 1 ((l.take n).map Y),?_,⟨by simp,rfl,by rw [ht],rfl⟩,small⟩;have h0:(0:Int)<=n:=by omega
  simp only [slS,iV,h0,if_true,zaq];rw [if_pos ⟨trivial,by omega,hn⟩];simp
 | s v=>
  cases v with
  | slice a b c=>
   cases a with
   | none=>
    obtain⟨rfl,rfl,h3⟩:=(show b=0/\c=0/\l.length=0 from hh)
    have:l=[]:=zar h3;subst this;have:n=0:=by simpa using hn
    subst this;exact⟨zN,by kernel_rfl,⟨rfl,rfl,rfl,rfl⟩,by decide⟩
   | some a=> exact hh.elim
  | _=> exact hh.elim
 | _=> exact hh.elim
theorem ZV {H:ah}{x:AV}{l:List By}(hx:dG H x l)(hl:l≠[]):cl0 146 [x] H=some (.sl (H.next+1) 0 0 1 l.length l.length false,(H.new (.blk 0 5 [])).new (.blk 0 (5+gQ) (l.map Y))):=by
 have h0:l.length≠0:=λe=> hl (zar e);have e2:=sU (e:=5) (by_:=1) (r:=H.next) (H:=H.new (.blk 0 5 [])) qE (hx.gro (Gro.new H 0 _ _)).is (acn l) h0 (by have:=hx.small;unfold most;omega) (by have:=hx.small;unfold most;omega);simp only [fE] at e2;have e1:bi .eql 172 x zN=some (B false):=by
  obtain⟨_,hh⟩:=hx.is;cases x with
  | sl r g off esz len cap ex=> exact BI Tryz.underlying172
  | vs n m l=> exact sV Tryz.underlying172
  | s v=>
   cases v with
   | slice a b c=>
    cases a with
    | none=> exact absurd hh.2.2 h0
    | some a=> exact hh.elim
   | _=> exact hh.elim
  | _=> exact hh.elim
 refine iG (alb _ _ _ ?_);simp only [xq_,afr,e1,Ux,yR,e2,zbo,zaS]
theorem acH {H:ah}(hb:H.base<=H.next){x:AV}{l:List By}(hx:dG H x l)(hl:l.length < 900)(hn:∀m,l≠jJ m):
  ∃H',cl0 142 [x] H=some (.tup [zN,B false],H')/\Gro H H':=by
 have ln:=hx.is.lnS;have w1:=wrap_i64 (a:=(l.length:Int) - 2) (by omega) (by omega);by_cases h2:(l.length:Int) - 2 < 0
 ·refine⟨H,iG (Zq _ _ _ ?_),Gro.refl H⟩;simp only [xq_,UZ,ln,jw,w1,h2]
 ·obtain⟨n,hnn⟩:∃n:Nat,(l.length:Int) - 2=n:=⟨l.length - 2,by omega⟩
  rw [hnn] at w1 h2;obtain⟨y,s1,by1⟩:=hx.to_ (n:=n) (by omega);obtain⟨z,H1,e1,g1,bz,_⟩:=ahn hb by1 (by rw [zau];omega);have e2:=ZU bz (hx.gro g1);rw [decide_eq_false λe=> hn _ e.symm] at e2;refine⟨H1,iG (Zq _ _ _ ?_),g1⟩;simp only [xq_,UZ,ln,jw,hnn,w1,h2,s1,e1,e2,zam]
theorem aho {H:ah}(hb:H.base<=H.next){x:AV}{m:List By}(hx:dG H x (jJ m))(hl:m.length < 800)(h0:m≠[]):
  ∃y H',cl0 142 [x] H=some (.tup [y,B true],H')/\Gro H H'/\dG H' y m/\(∃r,y=.sl r 0 0 1 m.length m.length false):=by
 have hlen:(jJ m).length=m.length+2:=by unfold jJ;simp
 have htake:(jJ m).take m.length=m:=by unfold jJ;simp
 have ln:=hx.is.lnS;have w0:(((jJ m).length:Nat):Int) - 2=(m.length:Int):=by omega
 have w1:=wrap_i64 (a:=(m.length:Int)) (by omega) (by omega);have h2:¬((m.length:Int) < 0):=by omega
 obtain⟨y,s1,by1⟩:=hx.to_ (n:=m.length) (by omega);rw [htake] at by1;obtain⟨z,H1,e1,g1,bz,_⟩:=ahn hb by1 (by omega);have e2:=ZU bz (hx.gro g1);rw [decide_eq_true rfl] at e2;have e3:=ZV (by1.gro g1) h0;have gg:Gro H1 ((H1.new (.blk 0 5 [])).new (.blk 0 (5+gQ) (m.map Y))):=(Gro.new H1 0 _ _).trans (Gro.new _ 0 _ _);have bm:=dG.made (H:=H1.new (.blk 0 5 [])) (l:=m) (ty:=5+gQ) (ex:=false) (by omega);rw [fE] at bm;refine⟨_,_,iG (Zq _ _ _ (r:=(.tup [.sl (H1.next+1) 0 0 1 m.length m.length false,B true],(H1.new (.blk 0 5 [])).new (.blk 0 (5+gQ) (m.map Y)))) ?_),g1.trans gg,bm,_,rfl⟩;simp only [xq_,UZ,ln,jw,w0,w1,h2,s1,e1,e2,e3,zae]
def bW.left(m:bW):Int:=(m.aH.map λn=> n.bG.left).sum
def bW.busy(m:bW)(i:Nat):Bool:=match m.aH[i]? with
 | some n=> !decide (n.aF.step=0) || n.bG.dU || decide (0 < m.fab.waiting i true+m.fab.waiting i false)
 | none=> false
def bW.quiet(m:bW):Bool:=(List.range m.aH.length).all (λi=> !m.busy i) && decide (m.fab.under=0)
def alY(x:bW × Int)(p:Pck):bW × Int:=((x.1.do_ p).1,if(x.1.do_ p).2=true then x.2+1 else x.2)
def afM(k n:Int):Nat->Nat->bW × Int->bW × Int
 | 0,_,x=> x
 | j+1,i,x=> afM k n j (i+1) (alY x ⟨false,(k+i).tmod n,0,0⟩)
def afN:Nat->bW × Int->bW × Int
 | 0,x=> x
 | i+1,x=> afN i (alY x ⟨true,i,0,0⟩)
def ahp(n first:Int):Int:=(first.tmod n+n).tmod n
def bW.round(m:bW)(first:Int):bW × Int:=
 let a:=afM (ahp m.c.aH first) m.c.aH m.c.aH.toNat 0 (m,0)
 afN a.1.fab.under a
def bW.over(m:bW):Bool:=m.quiet && decide (m.left=0)
abbrev vP:bD:=λ_=> none
def cup(n:Nat)(g g':bD):bD:=λq=> if q < n then g q else g' q
structure Made(H H':ah)(g':bD):Prop where
 next:H.next<=H'.next
 base:H'.base=H.base
 same:∀r,r < H.next->H'.get r=H.get r
 good:Good H.next H' g'
section
variable {b:Nat}{H H' H'':ah}{g g':bD}{q:Nat}{cs:List Cell}
theorem Good.merge(G:Good b H g)(M:Made H H' g'):Good b H' (cup H.next g g'):=by
 obtain⟨h0,τ,h1⟩:=G;obtain⟨k0,τ',k1⟩:=M.good;have n1:=M.next
 refine⟨by omega,λr=> if r < H.next then τ r else τ' r,λq cs hq=> ?_⟩;unfold cup at hq;split at hq
 ·rename_i hl;exact(h1 q cs hq).keep n1 λr i s t hr ht=> ⟨by rw [if_pos hr];exact ht,M.same r hr⟩
 ·rename_i hl;have R:=k1 q cs hq
  -- all its blocks are new
  have key:∀{T:Tag} {x:AV} {m:Nat} {cells:List AV},OS H.next H' τ' T x m cells->OS b H' (λr=> if r < H.next then τ r else τ' r) T x m cells:=by
   intro T x m cells ho;rcases ho with ho | ⟨r,gg,off,n,cap,ex,ty,all,e,t1,t2,t3,t4⟩
   ·exact .inl ho
   ·exact .inr ⟨r,gg,off,n,cap,ex,ty,all,e,by simp only;rw [if_neg (by omega)];exact t1,by omega,t3,t4⟩
  have ap4:∀{T:Tag} {x:AV} {k:IntKind} {es:List (Int × AV)},OM H.next H' τ' T x k es->OM b H' (λr=> if r < H.next then τ r else τ' r) T x k es:=by
   intro T x k es ⟨r,e,t1,t2,t3,t4⟩;exact⟨r,e,by simp only;rw [if_neg (by omega)];exact t1,by omega,t3,t4⟩
  obtain⟨ty,xs,b1,b2,b3,b4⟩:=R.blk;have lo:=R.lo;refine⟨by rw [if_neg hl];exact R.tag,by omega,R.hi,R.tyl,ty,xs,b1,b2,b3,λi c x hc hx=> ?_⟩;have:=b4 i c x hc hx;cases c with
  | av _=> exact this
  | seq _ _=> exact key this
  | map _ _=> exact ap4 this
  | maps _ _ _=>
   obtain⟨aes,a1,a2,a3⟩:=this;exact⟨aes,ap4 a1,a2,λj n cells x hj hx=> key (a3 j n cells x hj hx)⟩
  | aew _ _ _=>
   obtain⟨ys,a1,a2,a3⟩:=this;exact⟨ys,key a1,a2,λj cells x hj hx=> key (a3 j cells x hj hx)⟩
theorem Good.alZ(G:Good b H g)(hq:H.next<=q):cup H.next g (upd vP q cs)=upd g q cs:=by
 funext x
 unfold cup upd;split
 ·rw [if_neg (by omega)]
 ·split
  ·rfl
  ·exact(G.isNone (by omega)).symm
theorem Made.lt(M:Made H H' g')(h:g' q=some cs):H.next<=q/\q < H'.next:=⟨M.good.le h,M.good.lt h⟩
theorem Made.refl(h:H.base<=H.next):Made H H vP:=⟨zac _,rfl,λ_ _=> rfl,Good.empty H⟩
theorem Made.trans(M:Made H H' g)(M':Made H' H'' g'):Made H H'' (cup H'.next g g'):=
 ⟨zax M.next M'.next,M'.base.trans M.base,λr hr=> by rw [M'.same r (zay hr M.next),M.same r hr],M.good.merge M'⟩
theorem Made.new(M:Made H H' g)(o:fV):Made H (H'.new o) g:=
 ⟨by rw [fE];have:=M.next;omega,by rw [jC];exact M.base,λr hr=> by rw [eG (zay hr M.next),M.same r hr],M.good.new o⟩
theorem Made.GV {o:fV}(M:Made (H.new o) H' g):Made H H' g:=
 ⟨by have:=M.next;rw [fE] at this;omega,by rw [M.base,jC],λr hr=> by rw [M.same r (by rw [fE];omega),eG hr],M.good.weak (by rw [fE];omega)⟩
theorem Made.acI(M:Made H.guard H' g):Made H { H' with base:=H.base } g:=
 ⟨M.next,rfl,M.same,M.good.ext (zac _) λ_ _=> rfl⟩
theorem Made.step(M:Made H H' g)(G:Good H.next H'' g')(s:Step H.next H' H''):Made H H'' g':=
 ⟨zax M.next s.next,s.base.trans M.base,λr hr=> by rw [s.low r hr,M.same r hr],G⟩
theorem Made.as(M:Made H H' g)(h:g'=g):Made H H' g':=h ▸ M
theorem pW {ty:TypeId}{xs:List AV}{cs:List Cell}(hc:xs.all AV.aQ=true)(hl:xs.length=cs.length)(h:∀(i:Nat) (c:Cell) (x:AV),cs[i]?=some c->xs[i]?=some x->c=.av x∨(x=zN/\∃m,c=.seq m []))(ht:ty < gQ:=by decide):
  Made H (H.new (.blk 0 ty xs)) (upd vP H.next cs):=by
 refine⟨za3 _,rfl,λr hr=> eG hr,by rw [fE];omega,λr=> if r=H.next then some (r,0,0,0) else none,λq cs' hq=> ?_⟩;unfold upd at hq;split at hq
 ·rename_i e;subst e;cases hq;refine⟨by simp,zac _,by rw [fE];omega,wC (xs:=xs) (by simp [jg]) ht,ty,xs,by simp [jg],hl,hc,λi c x hci hx=> ?_⟩;rcases h i c x hci hx with rfl | ⟨rfl,m,rfl⟩
  ·exact rfl
  ·exact .inl ⟨rfl,rfl⟩
 ·cases hq
theorem PE {n:Nat}{ty:TypeId}{xs:List AV}{cs:List Cell}(hn:H.next<=n)(hm:H'.next=n)(hb:H'.base=H.base)(hs:∀r,r < H.next->H'.get r=H.get r)(hc:xs.all AV.aQ=true)(hl:xs.length=cs.length)(own:Nat->Option Nat)
  (h:∀(i:Nat) (c:Cell) (x:AV),cs[i]?=some c->xs[i]?=some x->c=.av x∨(x=zN/\∃m,c=.seq m [])∨∃r k,x=.mp r/\H.next<=r/\r < n/\own r=some i/\H'.get r=.map k []/\(c=.map k []∨∃m,c=.maps k m [])) (ht:ty < gQ:=by decide):
  Made H (H'.new (.blk 0 ty xs)) (upd vP n cs):=by
 refine⟨by rw [fE];omega,hb,λr hr=> by rw [eG (by omega),hs r hr],by rw [fE];omega,λr=> if r=n then some (r,0,0,0) else match own r with
  | some i=> some (n,i+1,0,0)
  | none=> none,λq cs' hq=> ?_⟩
 unfold upd at hq;split at hq
 ·rename_i e;subst e;cases hq;refine⟨by simp,hn,by rw [fE];omega,wC (xs:=xs) (by rw [bC hm.symm]) ht,ty,xs,by rw [bC hm.symm],hl,hc,λi c x hci hx=> ?_⟩;have om:∀r k,H.next<=r->r < q->own r=some i->H'.get r=.map k []->OM H.next (H'.new (.blk 0 ty xs)) (λr=> if r=q then some (r,0,0,0) else match own r with
    | some i=> some (q,i+1,0,0)
    | none=> none) (q,i+1,0,0) (.mp r) k []:=λr k h1 h2 h3 h4=> ⟨r,rfl,by simp only;rw [if_neg (by omega),h3],h1,by rw [fE];omega,by rw [eG (by omega)];exact h4⟩
  rcases h i c x hci hx with rfl | ⟨rfl,m,rfl⟩ | ⟨r,k,rfl,h1,h2,h3,h4,rfl | ⟨m,rfl⟩⟩
  ·exact rfl
  ·exact .inl ⟨rfl,rfl⟩
  ·exact om r k h1 h2 h3 h4
  ·exact⟨[],om r k h1 h2 h3 h4,rfl,λj n cells x hj=> by simp at hj⟩
 ·cases hq
end
def dn(c:Cache):List Cell:=[.seq 6 (c.l.flatMap Ent.av),.av (I c.sets),.av (I c.ways),.av (I c.bZ)]
def qR(p:Proc):List Cell:=[.av (vsl 3 Opn.av p.ops),.seq 1 (p.bf.map I),.av (B p.dU)]
def jG(l:List Evn):List Cell:=[.seq 4 (l.flatMap Evn.av)]
def iP(t:Turns):List Cell:=[.map .i64 (YI (λn=> I n) t.fU),.maps .i64 2 (t.wait.map λe=> (e.1,e.2.flatMap λw=> [I w.1,I w.2]))]
def EL(c:Cfg)(dD:Rows):List Cell:=c.av.map .av++[.map .i64 (YI (λr=> .agg r.av) dD)]
section
variable {H:ah}
theorem ZW(H:ah)(room:Int)(h:0<=room):∃H' q,cl 38 [I room] H=some (.ref q 0 0,H')/\Made H H' (upd vP q (nM [] room)):=by
 refine⟨_,H.next,bI rfl rfl (aod _ _ _ (r:=(_,H.new (.blk 0 138 [zN,I room]))) ?_),pW rfl rfl λi c x hc hx=> ?_⟩
 ·have e:max (0:Int) room=room:=by omega
  simp only [Nat.reduceLT,Nat.reduceAdd,aW,xq_,hq_,ajT,Rx,e,ajc,kE,gX,aeh,aG]
 ·match i with
  | 0=> right;cases hc;cases hx;exact⟨rfl,9,rfl⟩
  | 1=> left;cases hc;cases hx;rfl
  | i+2=> cases hc
theorem Vb(H:ah)(room:Int)(h:0<=room):∃H' q,cl 39 [I room] H=some (.ref q 0 0,H')/\Made H H' (upd vP q (nM [] room)):=by
 refine⟨_,H.next,bI rfl rfl (aoe _ _ _ (r:=(_,H.new (.blk 0 140 [zN,I room]))) ?_),pW rfl rfl λi c x hc hx=> ?_⟩
 ·have e:max (0:Int) room=room:=by omega
  simp only [Nat.reduceLT,Nat.reduceAdd,aW,xq_,hq_,ajU,Rx,e,ajd,kE,gX,aei,aG]
 ·match i with
  | 0=> right;cases hc;cases hx;exact⟨rfl,9,rfl⟩
  | 1=> left;cases hc;cases hx;rfl
  | i+2=> cases hc
theorem acJ(H:ah)(sets ways:Int)(h:1<=sets)(h':1<=ways):∃H' q,cl 40 [I sets,I ways] H=some (.ref q 0 0,H')/\Made H H' (upd vP q (dn ⟨[],sets,ways,0⟩)):=by
 refine⟨_,H.next,bI rfl rfl (aof _ _ _ _ (r:=(_,H.new (.blk 0 143 [zN,I sets,I ways,zI]))) ?_),pW rfl rfl λi c x hc hx=> ?_⟩
 ·have e:max (1:Int) sets=sets:=by omega
  have e':max (1:Int) ways=ways:=by omega
  simp only [Nat.reduceLT,Nat.reduceAdd,aW,xq_,hq_,ajV,Rx,e,e',aje,kE,gX,aej,aG]
 ·match i with
  | 0=> right;cases hc;cases hx;exact⟨rfl,6,rfl⟩
  | 1=> left;cases hc;cases hx;rfl
  | 2=> left;cases hc;cases hx;rfl
  | 3=> left;cases hc;cases hx;rfl
  | i+4=> cases hc
theorem acK(H:ah):∃H' q,cl 10 [] H=some (.ref q 0 0,H')/\Made H H' (upd vP q (jG [])):=by
 refine⟨_,H.next,bI rfl rfl (anY _ _ (r:=(_,H.new (.blk 0 103 [zN]))) ?_),pW rfl rfl λi c x hc hx=> ?_⟩
 ·simp only [Nat.reduceLT,xq_,hq_,ajJ,aja,kE,gX,aG]
 ·match i with
  | 0=> right;cases hc;cases hx;exact⟨rfl,4,rfl⟩
  | i+1=> cases hc
theorem acL(H:ah):∃H' q,cl 71 [] H=some (.ref q 0 0,H')/\Made H H' (upd vP q (iP ⟨[],[]⟩)):=by
 refine⟨_,H.next+2,bI rfl rfl (aow _ _ (r:=(_,((H.new (.map .i64 [])).new (.map .i64 [])).new (.blk 0 203 [.mp H.next,.mp (H.next+1)]))) ?_),PE (H':=(H.new (.map .i64 [])).new (.map .i64 [])) (by omega) (by rw [fE,fE]) rfl (λr hr=> by rw [eG (by rw [fE];omega),eG hr]) rfl rfl (λr=> if r=H.next then some 0 else if r=H.next+1 then some 1 else none) λi c x hc hx=> ?_⟩
 ·have e:∀r,(AV.mp r).cells=[.mp r]:=λ_=> rfl;simp only [Nat.reduceLT,Nat.reduceAdd,aW,xq_,hq_,ake,ajj,kE,gX,aer,aG,e,Yl]
 ·match i with
  | 0=> right;right;cases hc;cases hx;exact⟨H.next,.i64,rfl,zac _,by omega,by simp,by rw [eG (by rw [fE];omega),bC rfl],.inl rfl⟩
  | 1=> right;right;cases hc;cases hx;exact⟨H.next+1,.i64,rfl,by omega,by omega,by simp,by rw [bC (by rw [fE])],.inr ⟨2,rfl⟩⟩
  | i+2=> cases hc
end
theorem Vd {d:Nat}{α:Type}{enc:α->List AV}(h:∀a,∀x∈enc a,Frz d x)(l:List α):∀x∈l.flatMap enc,Frz d x:=λx hx=> by
 obtain⟨a,_,ha⟩:=za0.1 hx;exact h a x ha
theorem ahq(o:Opn):∀x∈o.av,Frz 8 x:=λx hx=> by
 simp only [Opn.av,zaj,zaw,or_false] at hx;rcases hx with rfl | rfl | rfl <;> exact iZ
theorem acM(H:ah)(l:List Opn)(hl:l.length < 1000000000){x:AV}(hx:aN H x 3 l.length (l.flatMap Opn.av))(h0:l=[]->x=zN)(hn:l≠[]->bi .eql 28 x zN=some (B false)):cl 69 [x] H=some (vsl 3 Opn.av l,H):=by
 by_cases h:l=[]
 ·rw [h0 h];subst h;refine ji rfl rfl (akb _ _ _ (r:=(zN,H.guard)) ?_) (by rw [gI];exact jq);have e:bi .eql 28 zN zN=some (B true):=by kernel_rfl
  simp only [xq_,ag6,e]
 ·have h1:l.length≠0:=λe=> h (zar e);have e2:=sU (e:=53) (by_:=24) (r:=H.guard.next) (H:=H.guard.new (.blk 0 53 [])) qE (hx.guard.new _) (UA rX l) h1 (by unfold most;omega) (by unfold most;omega);simp only [RJ,fE] at e2;refine ji rfl rfl (akb _ _ _ (r:=(.sl (H.next+1) 0 0 3 l.length l.length false,(H.guard.new (.blk 0 53 [])).new (.blk 0 (53+gQ) (l.flatMap Opn.av)))) ?_) ?_
  ·simp only [xq_,ag6,hn h,agC,yR,e2,zbo,zaS]
  ·rw [Em h];refine jP (by omega) (cells:=l.flatMap Opn.av) ?_ (iF _ λx hx=> Vd ahq l x hx _ _);simp only [cZ,jg,fE,RJ,if_true];rw [if_pos (by rw [dI fG,zaW];exact⟨trivial,zac _⟩),zaP,zaA (by rw [dI fG];exact zac _)]
theorem acN(H:ah)(c:Cfg)(h:c.ok=true):cl 131 [.agg c.av] H=some (I c.oD,H):=by
 refine dJ rfl rfl (akX _ _ _) ?_ iZ;simp only [Cfg.ok,zah,decide_eq_true_eq] at h;obtain⟨⟨⟨⟨⟨⟨⟨a,b⟩,d⟩,f⟩,g⟩,i⟩,j⟩,k⟩:=h;have hm:IntKind.wrap .i64 (c.bg*c.dh)=c.bg*c.dh:=by
  have:c.bg*c.dh<=8*4:=zcy b.2 d.2 (by omega) (by omega);have:0<=c.bg*c.dh:=zc0 (by omega) (by omega);exact wrap_i64 (by omega) (by omega)
 simp only [Nat.reduceLT,xq_,hq_,afa,aG,Cfg.av,oZ,hm,Cfg.oD]
structure aqR(c:Cfg):Prop where
 aH:1<=c.aH/\c.aH<=6
 bg:1<=c.bg/\c.bg<=8
 dh:1<=c.dh/\c.dh<=4
 sets:1<=c.sets/\c.sets<=4
 ways:1<=c.ways/\c.ways<=3
 out:1<=c.out/\c.out<=8
 inn:1<=c.inn/\c.inn<=8
 init:(c.init.length:Int)<=c.bg*c.dh
 oD:1<=c.bg*c.dh/\c.bg*c.dh<=32
theorem EM {c:Cfg}(h:c.ok=true):aqR c:=by
 simp only [Cfg.ok,zah,decide_eq_true_eq] at h;obtain⟨⟨⟨⟨⟨⟨⟨a,b⟩,d⟩,f⟩,g⟩,i⟩,j⟩,k⟩:=h;have h1:c.bg*c.dh<=8*4:=zcy b.2 d.2 (by omega) (by omega);have h2:1*1<=c.bg*c.dh:=zcy b.1 d.1 (by omega) (by omega);exact⟨a,b,d,f,g,i,j,k,by omega,by omega⟩
theorem ahr(H:ah)(n m:Int)(h:1<=m):cl 153 [I n,I m] H=some (I (yw n m),H):=by
 refine bI rfl rfl (ald _ _ _ _ ?_);by_cases h0:n < 0
 ·simp only [Int.reduceNeg,xq_,Zr,h0,yw]
 ·have e:n.tmod m=n % m:=zcr (by omega);simp only [Int.reduceNeg,xq_,Zr,h0,BF (show m≠0 by omega),yw,e]
theorem GX(H:ah)(c:Cfg)(h:c.ok=true)(aj:Int):cl 111 [.agg c.av,I aj] H=some (I (c.aX aj),H):=by
 have B:=EM h;refine dJ rfl rfl (akz _ _ _ _) ?_ iZ;have e:=λH=> ahr H aj c.aH B.aH.1;simp only [Nat.reduceLT,xq_,hq_,aeY,aG,Cfg.av,e,Cfg.aX]
theorem PG(H:ah)(c:Cfg)(h:c.ok=true)(a:Int):cl 86 [.agg c.av,I a] H=some (.tup [I (c.bV a),I (c.dw a)],H):=by
 have B:=EM h;refine dJ rfl rfl (aoN _ _ _ _) ?_ (uI λx hx=> by
  simp only [zaj,zaw,or_false] at hx;rcases hx with rfl | rfl <;> exact iZ)
 have e:=λH=> acN H c h;by_cases h0:a < 0
 ·simp only [Nat.reduceLT,Int.reduceNeg,xq_,hq_,acB,aG (nD c),h0,Cfg.bV,Cfg.dw,true_or]
 ·by_cases h1:c.oD<=a
  ·simp only [Nat.reduceLT,Int.reduceNeg,xq_,hq_,acB,aG (nD c),h0,h1,Cfg.bV,Cfg.dw,or_true,e]
  ·have q:a.tdiv c.dh=a / c.dh:=Int.tdiv_eq_ediv_of_nonneg (by omega);have r:a.tmod c.dh=a % c.dh:=zcr (by omega);have q1:0<=a / c.dh:=Int.ediv_nonneg (by omega) (by have:=B.dh;omega);have q2:a / c.dh<=a:=Int.ediv_le_self _ (by omega);have q3:c.oD<=32:=B.oD.2;have w:=wrap_i64 (a:=a / c.dh) (by omega) (by omega);have z:c.dh≠0:=by have:=B.dh;omega
   have l2:c.av[2]?=some (I c.dh):=rfl;simp only [Nat.reduceLT,Int.reduceNeg,xq_,hq_,acB,aG (nD c),h0,h1,Cfg.bV,Cfg.dw,or_false,e,l2,agv z,BF z,q,r,w]
def Ve(o:Option Nat):Int:=match o with
 | some i=> (i:Int)
 | none=> -1
theorem CB {α:Type}{p:α->Bool}:∀(l:List α) (i:Nat),(∀j a,j < i->l[j]?=some a->p a=false)->l.findIdx? p=((l.drop i).findIdx? p).map (· +i)
 | l,0,_=> by cases h:l.findIdx? p <;> simp [h]
 | [],i+1,_=> by simp
 | a::l,i+1,h=> by
  have h0:=h 0 a (by omega) rfl;rw [zdx,h0,List.drop_succ_cons,CB l i λj b hj hb=> h (j+1) b (by omega) hb];simp only [zaf,if_false,Option.map_map]
  congr 1
theorem PI(H:ah){α:Type}{enc:α->List AV}(he:∀a,(enc a).length=6){x f:AV}{l:List α}(hx:aN H x 6 l.length (l.flatMap enc))(hl:l.length < 1000000000)(p:α->Bool)
  (hp:∀a∈l,yH Tryz.prog cl f [.agg (enc a)] H=some (B (p a),H)):cl 175 [x,f] H=some (I (Ve (l.findIdx? p)),H):=by
 have e1:=hx.lnS;have e2:∀i a,l[i]?=some a->lda 6 (eP x i) H=some (.agg (enc a),H):=λi a hi=> pV he hx hi;refine bI rfl rfl (alD _ _ _ _ ?_);have key:∀k i,i+k=l.length->(∀j a,j < i->l[j]?=some a->p a=false)->EH cl [x,f,I l.length,I i] H=some (I (Ve (l.findIdx? p)),H):=by
  intro k
  induction k with
  | zero=>
   intro i hi hf;have h1:¬(i:Int) < l.length:=by omega
   have h2:l.findIdx? p=none:=by rw [CB l i hf,zaQ (by omega)];rfl
   rw [U1];simp only [Int.reduceNeg,xq_,h1,h2,Ve]
  | succ k ih=>
   intro i hi hf;have h1:(i:Int) < l.length:=by omega
   have h3:=hx.ix (k:=.i64) (i:=(i:Int)) (by omega) h1;obtain⟨a,ha⟩:∃a,l[i]?=some a:=⟨_,zab (by omega)⟩
   have h4:=e2 i a ha;have h5:=hp a (zav ha);rw [zaq] at h3;rw [U1];cases hpa:p a with
   | true=>
    have h2:l.findIdx? p=some i:=by
     rw [CB l i hf,zby (by omega),zdx];rw [zab (by omega)] at ha;simp only [zaa] at ha;rw [ha,hpa];simp
    rw [hpa] at h5;simp only [Int.reduceNeg,xq_,h1,h2,h3,h4,h5,Ve]
   | false=>
    rw [hpa] at h5;have h6:(i:Int)+1=((i+1:Nat):Int):=by omega
    have h7:=wrap_i64 (a:=((i+1:Nat):Int)) (by omega) (by omega);have:=ih (i+1) (by omega) λj b hj hb=> by
     by_cases hji:j=i
     ·subst hji;rw [ha] at hb;cases hb;exact hpa
     ·exact hf j b (by omega) hb
    simp only [Int.reduceNeg,xq_,h1,h3,h4,h5,dW,h6,h7,this]
 have:=key l.length 0 (by omega) (λj a hj=> by omega);simp only [xq_,afB,e1];exact this
def al0(H:ah)(x:AV)(ps:List (List Opn)):Prop:=
 ∃cells:List AV,aN H x 1 ps.length cells/\∀(i:Nat) v l,cells[i]?=some v->ps[i]?=some l->aN H v 3 l.length (l.flatMap Opn.av)/\(l=[]->v=zN)
theorem al0.qB {H H':ah}{x:AV}{ps:List (List Opn)}(h:al0 H x ps)(hn:H.next<=H'.next)(hg:∀r,r < H.next->H'.get r=H.get r):al0 H' x ps:=by
 obtain⟨cells,h1,h2⟩:=h;exact⟨cells,h1.qB hn λr _ hr=> hg r hr,λi v l a b=> ⟨(h2 i v l a b).1.qB hn λr _ hr=> hg r hr,(h2 i v l a b).2⟩⟩
theorem acO {c:Cfg}(h:c.ok=true){aj:Int}(h0:0<=aj)(h1:aj < c.bg):c.first aj≠[]:=by
 have B:=EM h;unfold Cfg.first
 rw [if_neg (by omega)];intro e;have:=congrArg List.length e;simp only [zaB,zcL,zan] at this;have:=B.dh;omega
theorem SG {c:Cfg}(h:c.ok=true){aj:Int}(h0:0<=aj)(h1:aj < c.bg){from_:Nat}(hf:(from_:Int)=min (aj*c.dh) c.init.length):
  aW (List.replicate c.dh.toNat zI) 0 (((c.init.map I).drop from_).take (min (c.init.length - from_) c.dh.toNat))=(c.first aj).map I:=by
 have B:=EM h;have hw:=B.dh;have hlw:0<=aj*c.dh:=zc0 h0 (by omega);unfold Cfg.first
 rw [if_neg (by omega)]
 apply zbf
 intro i;have hlen:(((c.init.map I).drop from_).take (min (c.init.length - from_) c.dh.toNat)).length=min (c.init.length - from_) c.dh.toNat:=by
  rw [zau,zaN,zaB];omega
 rw [nC (by rw [hlen,zdj];omega),hlen];rcases zaT i c.dh.toNat with hi | hi
 ·simp only [zaM,zbZ hi,zak];by_cases hc:i < c.init.length - from_
  ·rw [if_pos (by omega),Nat.sub_zero,zaC,if_pos (by omega),zaF,zaM];have e:from_=(aj*c.dh).toNat:=by omega
   rw [e];have hlt:(aj*c.dh).toNat+i < c.init.length:=by omega
   simp [List.getD,zab hlt]
  ·rw [if_neg (by omega),zbU,if_pos hi];have hge:c.init.length<=(aj*c.dh).toNat+i:=by omega
   simp [List.getD,zaH hge]
 ·rw [if_neg (by omega),zaH (by simp;omega),zaH (by simp;omega)]
theorem acP(H:ah)(c:Cfg)(h:c.ok=true)(aj:Int)(h0:0<=aj)(h1:aj < c.bg):cl 112 [.agg c.av,I aj] H=some (dat (c.first aj),H):=by
 have B:=EM h;have hw:=B.dh;have hlw:0<=aj*c.dh:=zc0 h0 (by omega);have aru:aj*c.dh<=8*4:=zcy (by have:=B.bg;omega) hw.2 (by omega) (by omega);have w:=wrap_i64 (a:=aj*c.dh) (by omega) (by omega);have l1:c.av[1]?=some (I c.bg):=rfl;have l2:c.av[2]?=some (I c.dh):=rfl;have l7:c.av[7]?=some (dat c.init):=rfl;let H1:=(H.guard.new (.blk 0 26 c.av)).new (.blk 0 3 (dX [zI] c.dh.toNat));have e1:=aeO (e:=3) (m:=1) (by_:=8) (z:=[zI]) (n:=c.dh) (H:=H.guard.new (.blk 0 26 c.av)) rfl rfl (by omega) (by omega) (by decide);have e2:=λH=> (nN H c.init).lnS;have hm:0<=min (aj*c.dh) (c.init.length:Int):=by omega
 obtain⟨y,e3,e4⟩:=(nN H1 c.init).from_ (k:=.i64) (lo:=min (aj*c.dh) (c.init.length:Int)) hm (by omega);obtain⟨H2,e5,e6,e7,e8,e9⟩:=ajw (H:=H1) (r:=H.next+1) (g:=0) (off:=0) (m:=1) (len:=c.dh.toNat) (cap:=c.dh.toNat) (ex:=true) (ty:=3) (bC (by rw [fE,RJ])) (by show H.next<=_;omega) (by rw [kK];simp) e4 (zL (xG _) _);refine ji rfl rfl (akA _ _ _ _ (r:=(.sl (H.next+1) 0 0 1 c.dh.toNat c.dh.toNat true,H2)) ?_) ?_
 ·have n0:¬aj < 0:=by omega
  have n1:¬c.bg<=aj:=by omega
  simp only [fE,RJ] at e1;simp only [Nat.reduceLT,xq_,hq_,aeZ,aG (nD c),n0,n1,l1,l2,l7,e1,e2,oZ,w,Yj,e3,e5,H1]
 ·rw [yE (acO h h0 h1)];have hf:=SG h h0 h1 (from_:=(min (aj*c.dh) (c.init.length:Int)).toNat) (by omega);rw [kK,zbR,zbR,hf] at e6;have hlen:(c.first aj).length=c.dh.toNat:=by
   unfold Cfg.first
   rw [if_neg (by omega)];simp
  rw [hlen];refine jP (by omega) (cells:=(c.first aj).map I) ?_ (iF _ λx hx=> xH _ x hx _ _);simp only [cZ,e6];rw [if_pos ⟨trivial,by simp [hlen]⟩,zaP,zaA (by simp [hlen])]
theorem acQ(c:Cfg)(dD:Rows)(n:Int)(r:Row):(EL c dD).set 8 (.map .i64 (Kt (YI (λr=> .agg r.av) dD) n (.agg r.av)))=EL c (lK dD n r):=by
 have:=Gn (f:=λr:Row=> AV.agg r.av) dD n r;rw [this];rfl
theorem ZX(H:ah)(hb:H.base<=H.next)(c:Cfg)(h:c.ok=true)(me:Int):∃H' q,cl 70 [.agg c.av,I me] H=some (.ref q 0 0,H')/\Made H H' (upd vP q (EL c (c.nR me c.bg.toNat))):=by
 have B:=EM h;let Hb:=H.new (.blk 0 26 c.av);let Hm:=Hb.new (.map .i64 []);let H0:=Hm.new (.blk 0 196 (c.av++[.mp (H.next+1)]));have M0:Made Hb H0 (upd vP (H.next+2) (EL c [])):=by
  refine PE (H':=Hm) (by simp only [Hb,fE];omega) (by simp only [Hm,Hb,fE]) rfl (λr hr=> eG hr) (by rw [zb5,nD];rfl) (by simp [EL]) (λr=> if r=H.next+1 then some 8 else none) λi cc x hc hx=> ?_;by_cases hi:i < 8
  ·left;simp only [EL] at hc;rw [zaV (by simp [Cfg.av];omega),zaM] at hc;rw [zaV (by simp [Cfg.av];omega)] at hx;rw [hx] at hc;exact(za2 hc).symm
  ·have:i=8:=by
    have:=(zai.1 hx).1;simp [Cfg.av] at this;omega
   subst this;right;right;cases hc;cases hx;exact⟨H.next+1,.i64,rfl,by simp only [Hb,fE];omega,by omega,by simp,bC (by simp only [Hb,fE]),.inl rfl⟩
 have key:∀k i,i+k=c.bg.toNat->∀Hi,Made Hb Hi (upd vP (H.next+2) (EL c (c.nR me i)))->∃H',LM cl [I me,.ref H.next 0 0,.ref (H.next+2) 0 0,I c.bg,I i] Hi=some (.ref (H.next+2) 0 0,H')/\Made Hb H' (upd vP (H.next+2) (EL c (c.nR me c.bg.toNat))):=by
  intro k
  induction k with
  | zero=>
   intro i hi Hi M;have h1:¬(i:Int) < c.bg:=by omega
   rw [Zc];refine⟨Hi,?_,by rw [show c.bg.toNat=i by omega];exact M⟩;simp only [Int.reduceNeg,xq_,h1]
  | succ k ih=>
   intro i hi Hi M;have h1:(i:Int) < c.bg:=by omega
   have hbx:Hi.get H.next=.blk 0 26 c.av:=by rw [M.same _ (by simp only [Hb,fE];omega)];exact bC rfl
   have hbn:H.next < Hi.next:=zay (by simp only [Hb,fE];omega) M.next
   have e1:lda 8 (.ref H.next 0 0) Hi=some (.agg c.av,Hi):=(gZ (off:=0) (n:=8) hbx (zac 8)).trans rfl;have e2:=GX Hi c h i;have h6:(i:Int)+1=((i+1:Nat):Int):=by omega
   have h7:=wrap_i64 (a:=((i+1:Nat):Int)) (by have:=B.bg;omega) (by have:=B.bg;omega);have tail:∀Hj,Made Hb Hj (upd vP (H.next+2) (EL c (c.nR me (i+1))))->∃H',LP cl (I me) (.ref H.next 0 0) (.ref (H.next+2) 0 0) (I c.bg) (I i) Hj=some (.ref (H.next+2) 0 0,H')/\Made Hb H' (upd vP (H.next+2) (EL c (c.nR me c.bg.toNat))):=by
    intro Hj Mj;obtain⟨H',a1,a2⟩:=ih (i+1) (by omega) Hj Mj;refine⟨H',?_,a2⟩;simp only [xq_,LP,dW,h6,h7,a1]
   rw [Zc];by_cases hm:c.aX i=me
   ·obtain⟨r,f1,f2,f3,f4⟩:=M.good.map (q:=H.next+2) aV (i:=8) rfl;obtain⟨H',g1,g2,g3,g4⟩:=(f4 (by rw [M.base];simp only [Hb,jC,fE];omega)).1 i (.agg (Row.av ⟨0,-1,c.first i⟩));simp only [Row.av] at g1;have e3:=acP Hi.guard c h i (by omega) h1;have Mj:Made Hb H' (upd vP (H.next+2) (EL c (c.nR me (i+1)))):=by
     refine(M.step g2 g3).as ?_;rw [oq,acQ];simp only [Cfg.nR,hm,if_true]
    obtain⟨H2,t1,t2⟩:=tail H' Mj;refine⟨H2,?_,t2⟩;simp only [Int.reduceNeg,Nat.reduceAdd,aW,xq_,hq_,h1,e1,e2,hm,f1,e3,aji,kE,gX,aep,g1,t1]
   ·have hm':¬(c.aX i=me):=hm;obtain⟨H2,t1,t2⟩:=tail Hi (M.as (by simp only [Cfg.nR,hm,if_false]));refine⟨H2,?_,t2⟩;simp only [Int.reduceNeg,xq_,h1,e1,e2,hm,t1]
 obtain⟨H',a1,a2⟩:=key c.bg.toNat 0 (by omega) H0 M0;refine⟨H',H.next+2,bI rfl rfl (aov _ _ _ _ (r:=(_,H')) ?_),a2.GV⟩;have l1:c.av[1]?=some (I c.bg):=rfl;have e:∀r,bd 196 [(0,.agg c.av),(1,.mp r)]=some (.agg (c.av++[.mp r])):=λr=> by
  simp only [xq_,ajh,kE,gX,aeo,Cfg.av,fZ];rfl
 have e2:∀r,(c.av++[AV.mp r]).all AV.aQ=true:=λr=> by rw [zb5,nD];rfl
 simp only [Nat.reduceLT,xq_,hq_,akd,aG (nD c),e,aG (e2 _),l1];exact a1
theorem lT {b n:Nat}{H1:ah}{g g':bD}{q:Nat}{cs:List Cell}(G:Good b H1 g)(h:g q=some cs)(hn:H1.next=n):cup n g g' q=some cs:=by
 unfold cup;rw [if_pos (by have:=G.lt h;omega),h]
theorem oQ {b n:Nat}{H1:ah}{g g':bD}{q:Nat}{cs:List Cell}(G:Good b H1 g')(h:g' q=some cs)(hn:n<=b):cup n g g' q=some cs:=by
 unfold cup;rw [if_neg (by have:=G.le h;omega),h]
theorem drawn {H H':ah}{x:Option (AV × ah)}{v:AV}{g:bD}(e:x=some (v,H'))(M:Made H.guard H' g):∃H2,unG H x=some (v,H2)/\Made H H2 g:=
 ⟨_,by rw [e];rfl,M.acI⟩
theorem MB {H:ah}{r:Nat}{ty:TypeId}{c:Cfg}(h:H.get r=.blk 0 ty c.av):lda 8 (.ref r 0 0) H=some (.agg c.av,H):=(gZ (off:=0) (n:=8) h (zac 8)).trans rfl
theorem aN.ZY {P:Program}{t e:TypeId}(h:P.underlying t=some (.slice e)){H:ah}{x:AV}{m n:Nat}{cells:List AV}(hx:aN H x m n cells)(hn:n≠0):ql P .eql t x (.s (.slice none 0 0))=some (B false):=by
 obtain⟨_,hx⟩:=hx;cases x with
 | sl r g o m n c ex=> exact BI h
 | vs n m l=> exact sV h
 | s v=>
  cases v with
  | slice a b c=>
   cases a with
   | none=> exact absurd hx.2.2 hn
   | some a=> exact hx.elim
  | _=> exact hx.elim
 | _=> exact hx.elim
def GY(d t:Nat)(c:Cfg)(me:Int):List Cell:=[.av (.ref d 0 0),.av (.ref t 0 0)]++c.av.map .av++[.av (I me)]
def nS(g:bD)(q d t:Nat)(c:Cfg)(me:Int)(h:Home):Prop:=g q=some (GY d t c me)/\g d=some (EL c h.dD)/\g t=some (iP h.aP)
theorem PK {xs:List AV}{cs:List Cell}(h:cs=xs.map .av):∀(i:Nat) (c:Cell) (x:AV),cs[i]?=some c->xs[i]?=some x->c=.av x∨(x=zN/\∃m,c=.seq m []):=by
 subst h;intro i c x hc hx;rw [zaM,hx] at hc;exact .inl (za2 hc).symm
theorem ahs(H:ah)(hb:H.base<=H.next)(c:Cfg)(h:c.ok=true)(me:Int):∃H' q d t g',cl 42 [.agg c.av,I me] H=some (.ref q 0 0,H')/\Made H H' g'/\nS g' q d t c me (.new c me):=by
 let H1:=H.new (.blk 0 26 c.av);obtain⟨H2',d,e1,M1⟩:=ZX H1.guard (zac _) c h me;obtain⟨H2,e1,M1⟩:=drawn e1 M1;obtain⟨H3',t,e2,M2⟩:=acL H2.guard;obtain⟨H3,e2,M2⟩:=drawn e2 M2;let xs:List AV:=[.ref d 0 0,.ref t 0 0]++c.av++[I me]
 have hall:xs.all AV.aQ=true:=by
  simp only [xs,zb5,nD];rfl
 have M3:Made H3 (H3.new (.blk 0 150 xs)) (upd vP H3.next (GY d t c me)):=pW hall (by simp [xs,GY]) (PK (by simp [xs,GY]));have g1:H1.get H.next=.blk 0 26 c.av:=bC rfl
 have l1:H.next < H1.next:=by simp only [H1,fE];omega
 have b1:=MB g1;have g2:H2.get H.next=.blk 0 26 c.av:=by rw [M1.same _ l1,g1]
 have g3:H3.get H.next=.blk 0 26 c.av:=by rw [M2.same _ (zay l1 M1.next),g2]
 have b3:=MB g3;refine⟨_,H3.next,d,t,_,bI rfl rfl (aoi _ _ _ _ (r:=(_,H3.new (.blk 0 150 xs))) ?_),((M1.trans M2).trans M3).GV,?_⟩
 ·have e:bd 150 [(0,.ref d 0 0),(1,.ref t 0 0),(2,.agg c.av),(3,I me)]=some (.agg xs):=by
   simp only [xq_,ajf,kE,gX,aek,Cfg.av,fZ];rfl
  simp only [H1] at e1 b1;simp only [Nat.reduceLT,xq_,hq_,ajX,aG (nD c),b1,e1,e2,b3,e,aG hall]
 ·refine⟨oQ M3.good aV (zac _),lT (M1.good.merge M2) (lT M1.good aV rfl) rfl,lT (M1.good.merge M2) (oQ M2.good aV (zac _)) rfl⟩
theorem aht(H:ah)(l:List Opn)(hl:l.length < 1000000000){x:AV}(hx:aN H x 3 l.length (l.flatMap Opn.av))(h0:l=[]->x=zN):∃H' q,cl 41 [x] H=some (.ref q 0 0,H')/\Made H H' (upd vP q (qR ⟨l,[],false⟩)):=by
 have e1:=acM H l hl hx h0 λhn=> hx.ZY Tryz.underlying28 λe=> hn (zar e);have hc:(vsl 3 Opn.av l).cells=[vsl 3 Opn.av l]:=Gg;refine⟨_,H.next,bI rfl rfl (aog _ _ _ (r:=(_,H.new (.blk 0 108 [vsl 3 Opn.av l,zN,zB]))) ?_),pW ?_ rfl λi c x hc hx=> ?_⟩
 ·simp only [Nat.reduceLT,Nat.reduceAdd,aW,xq_,hq_,ajW,e1,ajb,kE,gX,aeg,aG]
 ·simp only [hq_]
 ·match i with
  | 0=> left;cases hc;cases hx;rfl
  | 1=> right;cases hc;cases hx;exact⟨rfl,1,rfl⟩
  | 2=> left;cases hc;cases hx;rfl
  | i+3=> cases hc
theorem Made.add {H H1 H2:ah}{g:bD}{q:Nat}{cs:List Cell}(M:Made H H1 g)(M':Made H1 H2 (upd vP q cs)):Made H H2 (upd g q cs):=
 (M.trans M').as ((M.good.alZ (M'.lt aV).1).symm)
def PL(a:Nat->Nat)(c:Cfg)(me:Int)(d:bJ)(num:Int):List AV:=[.ref (a 1) 0 0,.ref (a 2) 0 0]++c.av++[I me,.ref (a 3) 0 0]++d.av++[I num]
def x9(a:Nat->Nat)(c:Cfg)(me:Int)(d:bJ)(num:Int):List Cell:=(PL a c me d num).map .av
def rH(g:bD)(a:Nat->Nat)(c:Cfg)(me:Int)(n:Node):Prop:=
 g (a 0)=some (x9 a c me n.aF n.num)/\g (a 1)=some (dn n.aI)/\g (a 2)=some (qR n.bG)/\nS g (a 3) (a 4) (a 5) c me n.home
theorem PN {a:Nat->Nat}{c:Cfg}{me:Int}{d:bJ}{num:Int}:(PL a c me d num).all AV.aQ=true:=by
 simp only [PL,zb5,nD,bF];rfl
def six(x0 x1 x2 x3 x4 x5:Nat):Nat->Nat
 | 0=> x0
 | 1=> x1
 | 2=> x2
 | 3=> x3
 | 4=> x4
 | _=> x5
theorem Z4(H:ah)(c:Cfg)(h:c.ok=true)(me:Int)(l:List Opn)(hl:l.length < 1000000000){x:AV}(hx:aN H x 3 l.length (l.flatMap Opn.av))(h0:l=[]->x=zN):
  ∃H' a g',cl 11 [.agg c.av,I me,x] H=some (.ref (a 0) 0 0,H')/\Made H H' g'/\rH g' a c me (.new c me l):=by
 have Bd:=EM h;let H1:=H.new (.blk 0 26 c.av);obtain⟨H2',q1,e1,M1⟩:=acJ H1.guard c.sets c.ways Bd.sets.1 Bd.ways.1;obtain⟨H2,e1,M1⟩:=drawn e1 M1;have hx2:aN H2 x 3 l.length (l.flatMap Opn.av):=(hx.new (.blk 0 26 c.av)).qB M1.next λr _ hr=> M1.same r hr
 obtain⟨H3',q2,e2,M2⟩:=aht H2.guard l hl hx2.guard h0;obtain⟨H3,e2,M2⟩:=drawn e2 M2;obtain⟨H4',q3,q4,q5,g4,e3,M3,I3⟩:=ahs H3.guard (zac _) c h me;obtain⟨H4,e3,M3⟩:=drawn e3 M3;let a:=six H4.next q1 q2 q3 q4 q5
 let xs:=PL a c me .zero 0;have M4:Made H4 (H4.new (.blk 0 46 xs)) (upd vP H4.next (x9 a c me .zero 0)):=pW PN (by simp [xs,x9]) (PK rfl);have g1:H1.get H.next=.blk 0 26 c.av:=bC rfl
 have l1:H.next < H1.next:=by simp only [H1,fE];omega
 have l3:H.next < H3.next:=zay l1 (zax M1.next M2.next)
 have b1:=MB g1;have g2:H2.get H.next=.blk 0 26 c.av:=by rw [M1.same _ l1,g1]
 have g3:H3.get H.next=.blk 0 26 c.av:=by rw [M2.same _ (zay l1 M1.next),g2]
 have b3:=MB g3;have G12:=M1.good.merge M2;have al1:=G12.merge M3;refine⟨_,a,_,bI rfl rfl (an1 _ _ _ _ _ (r:=(_,H4.new (.blk 0 46 xs))) ?_),(((M1.trans M2).trans M3).trans M4).GV,?_⟩
 ·have e:bd 46 [(0,.ref q1 0 0),(1,.ref q2 0 0),(2,.agg c.av),(3,I me),(4,.agg [.ref q3 0 0])]=some (.agg xs):=by
   simp only [xq_,anD,kE,gX,ai5,Cfg.av,fZ];rfl
  have l3:c.av[3]?=some (I c.sets):=rfl;have l4:c.av[4]?=some (I c.ways):=rfl;have bx:∀r,(AV.ref r 0 0).cells=[.ref r 0 0]:=λ_=> rfl;have eb:∀r,bd 42 [(0,.ref r 0 0)]=some (.agg [.ref r 0 0]):=λr=> by
   simp only [xq_,anC,kE,gX,ai3];rfl
  simp only [H1] at e1 b1;simp only [Nat.reduceLT,xq_,hq_,ajK,aG (nD c),l3,l4,e1,e2,e3,b3,eb,e,aG PN,xs];rfl
 ·refine⟨oQ M4.good aV (zac _),lT al1 (lT G12 (lT M1.good aV rfl) rfl) rfl,lT al1 (lT G12 (oQ M2.good aV (zac _)) rfl) rfl,?_⟩;obtain⟨i1,i2,i3⟩:=I3;exact⟨lT al1 (oQ M3.good i1 (zac _)) rfl,lT al1 (oQ M3.good i2 (zac _)) rfl,lT al1 (oQ M3.good i3 (zac _)) rfl⟩
def oH(a:Nat->Nat):List AV:=[.ref (a 0) 0 0,.ref (a 1) 0 0,.ref (a 2) 0 0,.ref (a 3) 0 0]
def acR(P:Nat->Nat->Nat)(n:Nat):List Cell:=[.seq 4 ((List.range n).flatMap λi=> oH (P i))]
def vK(g:bD)(a:Nat->Nat)(c:Cfg)(p:Port):Prop:=
 g (a 0)=some (nM p.rq c.out)/\g (a 1)=some (nM p.rin c.inn)/\g (a 2)=some (nM p.an c.out)/\g (a 3)=some (nM p.ain 1)
def PO(P:Nat->Nat->Nat)(n:Nat):Prop:=∀i j s t,i < n->j < n->s < 4->t < 4->P i s=P j t->i=j/\s=t
def ig(g:bD)(f:Nat)(P:Nat->Nat->Nat)(c:Cfg)(fab:Fab):Prop:=
 g f=some (acR P fab.l.length)/\(∀i p,fab.l[i]?=some p->vK g (P i) c p)/\fab.out=c.out/\fab.inn=c.inn
def ao8(x0 x1 x2 x3:Nat):Nat->Nat
 | 0=> x0
 | 1=> x1
 | 2=> x2
 | _=> x3
theorem JJ {P P':Nat->Nat->Nat}:∀n,(∀i,i < n->P' i=P i)->(List.range n).flatMap (λi=> oH (P' i))=(List.range n).flatMap λi=> oH (P i)
 | 0,_=> rfl
 | n+1,h=> by
  rw [zcE,zbG,zbG,JJ n λi hi=> h i (by omega)];simp only [zaE,zdh,h n (by omega)]
theorem pX(P:Nat->Nat->Nat)(n:Nat):((List.range n).flatMap λi=> oH (P i)).length=n*4:=by
 rw [dI (m:=4) (λ_=> rfl),zcL]
theorem vK.ext {g g':bD}{a:Nat->Nat}{c:Cfg}{p:Port}(h:vK g a c p)(hg:∀s,s < 4->g' (a s)=g (a s)):vK g' a c p:=by
 obtain⟨h0,h1,h2,h3⟩:=h;exact⟨by rw [hg 0 (by omega),h0],by rw [hg 1 (by omega),h1],by rw [hg 2 (by omega),h2],by rw [hg 3 (by omega),h3]⟩
theorem vK.some {g:bD}{a:Nat->Nat}{c:Cfg}{p:Port}(h:vK g a c p){s:Nat}(hs:s < 4):∃l r,g (a s)=some (nM l r):=by
 obtain⟨h0,h1,h2,h3⟩:=h
 match s,hs with
 | 0,_=> exact⟨_,_,h0⟩
 | 1,_=> exact⟨_,_,h1⟩
 | 2,_=> exact⟨_,_,h2⟩
 | 3,_=> exact⟨_,_,h3⟩
theorem Z5(H:ah)(hb:H.base<=H.next)(c:Cfg)(h:c.ok=true):∃H' f P g',cl 9 [.agg c.av] H=some (.ref f 0 0,H')/\Made H H' g'/\ig g' f P c (.new c)/\PO P c.aH.toNat:=by
 have Bd:=EM h;let H1:=H.new (.blk 0 26 c.av);let H2:=H1.new (.blk 0 93 [zN]);let f:=H.next+1
 have M0:Made H1 H2 (upd vP f (acR (λ_ _=> 0) 0)):=pW rfl rfl λi c x hc hx=> by
  match i with
  | 0=> right;cases hc;cases hx;exact⟨rfl,4,rfl⟩
  | i+1=> cases hc
 have l0:c.av[0]?=some (I c.aH):=rfl;have l5:c.av[5]?=some (I c.out):=rfl;have l6:c.av[6]?=some (I c.inn):=rfl;have key:∀k i,i+k=c.aH.toNat->∀Hi gi P,Made H1 Hi gi->gi f=some (acR P i)->(∀j,j < i->vK gi (P j) c .zero)->PO P i->
   ∃H' g' P',UN cl [.ref H.next 0 0,.ref f 0 0,I c.aH,I i] Hi=some (.ref f 0 0,H')/\Made H1 H' g'/\g' f=some (acR P' c.aH.toNat)/\(∀j,j < c.aH.toNat->vK g' (P' j) c .zero)/\PO P' c.aH.toNat:=by
  intro k
  induction k with
  | zero=>
   intro i hi Hi gi P M hf hp hj;have h1:¬(i:Int) < c.aH:=by omega
   have hi':c.aH.toNat=i:=by omega
   rw [aeX];refine⟨Hi,gi,P,?_,M,by rw [hi'];exact hf,by rw [hi'];exact hp,by rw [hi'];exact hj⟩;simp only [xq_,h1]
  | succ k ih=>
   intro i hi Hi gi P M hf hp hj;have h1:(i:Int) < c.aH:=by omega
   have h6:(i:Int)+1=((i+1:Nat):Int):=by omega
   have h7:=wrap_i64 (a:=((i+1:Nat):Int)) (by have:=Bd.aH;omega) (by have:=Bd.aH;omega);have lt1:H.next < H1.next:=by simp only [H1,fE];omega
   have bx:∀H':ah,(∀r,r < H1.next->H'.get r=H1.get r)->H'.get H.next=.blk 0 26 c.av:=λH' hs=> by rw [hs _ lt1];exact bC rfl
   have ld5:∀H':ah,(∀r,r < H1.next->H'.get r=H1.get r)->ld (.ref H.next 0 5) H'=some (I c.out,H'):=λH' hs=> by rw [gu (bx H' hs),l5];rfl
   have ld6:∀H':ah,(∀r,r < H1.next->H'.get r=H1.get r)->ld (.ref H.next 0 6) H'=some (I c.inn,H'):=λH' hs=> by rw [gu (bx H' hs),l6];rfl
   obtain⟨x,hx,cx⟩:=M.good.seq hf (i:=0) rfl;obtain⟨Ha',q1,a1,Ma⟩:=ZW Hi.guard c.out (by have:=Bd.out;omega);obtain⟨Ha,a1,Ma⟩:=drawn a1 Ma;have Na:=M.add Ma;obtain⟨Hb',q2,a2,Mb⟩:=Vb Ha.guard c.inn (by have:=Bd.inn;omega);obtain⟨Hb,a2,Mb⟩:=drawn a2 Mb;have Nb:=Na.add Mb;obtain⟨Hc',q3,a3,Mc⟩:=ZW Hb.guard c.out (by have:=Bd.out;omega);obtain⟨Hc,a3,Mc⟩:=drawn a3 Mc;have Nc:=Nb.add Mc;obtain⟨Hd',q4,a4,Md⟩:=Vb Hc.guard 1 (by omega);obtain⟨Hd,a4,Md⟩:=drawn a4 Md;have Nd:=Nc.add Md;have o1:=Ma.lt aV;have o2:=Mb.lt aV;have o3:=Mc.lt aV;have o4:=Md.lt aV;have hfl:=M.good.lt hf;have cd:Cur H1.next Hd f 0 x 4 _:=(((cx.ext Ma.next Ma.same).ext Mb.next Mb.same).ext Mc.next Mc.same).ext Md.next Md.same
   let a:=ao8 q1 q2 q3 q4;let o:fV:=.blk 0 101 (oH a);let g4:=upd (upd (upd (upd gi q1 (nM [] c.out)) q2 (nM [] c.inn)) q3 (nM [] c.out)) q4 (nM [] 1);have low:∀q,q < Hi.next->g4 q=gi q:=λq hq=> by
    simp only [g4];rw [bH (by omega),bH (by omega),bH (by omega),bH (by omega)]
   have hf4:g4 f=some (acR P i):=by rw [low f hfl,hf]
   obtain⟨x',He,Hf,t1,t2,t3,t4⟩:=(Nd.good.new o).append (e:=101) (by_:=32) (by rw [jC,Nd.base];simp only [H1,jC,fE];omega) hf4 (i:=0) rfl (by decide) (pX P i) (cd.new o) (nO (ex:=true) (n:=1) (m:=4) (l:=oH a) rfl) rfl (by have:=Bd.aH;unfold most;omega) (by have:=Bd.aH;unfold most;omega);let P':Nat->Nat->Nat:=λj=> if j=i then a else P j
   have hP:∀j,j < i->P' j=P j:=λj hj=> by simp only [P'];rw [if_neg (by omega)]
   have hPi:P' i=a:=by simp only [P',if_true]
   have Mf:Made H1 Hf (upd g4 f (acR P' (i+1))):=by
    refine((Nd.new o).step t3 t4).as ?_
    congr 1
    simp only [acR,zbQ];rw [zcE,zbG,JJ i hP,zaE,zdh,za8,hPi]
   have hq:∀s,s < 4->Hi.next<=a s:=λs hs=> by
    match s,hs with
    | 0,_=> exact o1.1
    | 1,_=> exact zax Ma.next o2.1
    | 2,_=> exact zax Ma.next (zax Mb.next o3.1)
    | 3,_=> exact zax Ma.next (zax Mb.next (zax Mc.next o4.1))
   have hpl:∀j,j < i->∀s,s < 4->P j s < Hi.next:=λj hji s hs=> by
    obtain⟨l,r,hg⟩:=(hp j hji).some hs;exact M.good.lt hg
   obtain⟨H',g',P'',r1,r2⟩:=ih (i+1) (by omega) Hf _ P' Mf aV (λj hj1=> by
    by_cases hji:j=i
    ·subst hji;rw [hPi];have h4:∀s,s < 4->a s≠f:=λs hs=> by have:=hq s hs;omega
     refine vK.ext (g:=g4) ⟨?_,?_,?_,?_⟩ λs hs=> bH (h4 s hs)
     ·show g4 q1=_;simp only [g4];rw [bH (by omega),bH (by omega),bH (by omega),aV];rfl
     ·show g4 q2=_;simp only [g4];rw [bH (by omega),bH (by omega),aV];rfl
     ·show g4 q3=_;simp only [g4];rw [bH (by omega),aV];rfl
     ·show g4 q4=_;simp only [g4];rw [aV];rfl
    ·rw [hP j (by omega)];refine(hp j (by omega)).ext λs hs=> ?_;have hlt:=hpl j (by omega) s hs;obtain⟨l,r,hg⟩:=(hp j (by omega)).some hs;have:P j s≠f:=λe=> by rw [e,hf] at hg;cases hg
     rw [bH this,low _ hlt]) (λj k s t hj1 hk1 hs ht e=> by
    by_cases hji:j=i
    ·by_cases hki:k=i
     ·subst hji;subst hki;refine⟨rfl,?_⟩;rw [hPi] at e
      match s,hs,t,ht with
      | 0,_,0,_ | 1,_,1,_ | 2,_,2,_ | 3,_,3,_=> rfl
      | 0,_,1,_ | 0,_,2,_ | 0,_,3,_ | 1,_,0,_ | 1,_,2,_ | 1,_,3,_ | 2,_,0,_ | 2,_,1,_ | 2,_,3,_ | 3,_,0,_ | 3,_,1,_ | 3,_,2,_=> simp only [a,ao8] at e;omega
     ·subst hji;rw [hPi,hP k (by omega)] at e;have:=hq s hs;have:=hpl k (by omega) t ht;omega
    ·by_cases hki:k=i
     ·subst hki;rw [hPi,hP j (by omega)] at e;have:=hq t ht;have:=hpl j (by omega) s hs;omega
     ·rw [hP j (by omega),hP k (by omega)] at e;exact hj j k s t (by omega) (by omega) hs ht e)
   refine⟨H',g',P'',?_,r2⟩;rw [aeX];have s1:=ld5 Hi M.same;have s2:=ld6 Ha Na.same;have s3:=ld5 Hb Nb.same;have ep:∀r r',bd 99 [(0,.ref r 0 0),(1,.ref r' 0 0)]=some (.agg [.ref r 0 0,.ref r' 0 0]):=λr r'=> by
    simp only [xq_,ai8,kE,gX,ai7];rfl
   have eq:∀r r' r2 r3,bd 101 [(0,.agg [.ref r 0 0,.ref r' 0 0]),(1,.agg [.ref r2 0 0,.ref r3 0 0])]=some (.agg [.ref r 0 0,.ref r' 0 0,.ref r2 0 0,.ref r3 0 0]):=λr r' r2 r3=> by
    simp only [xq_,ai9,kE,gX,aee];rfl
   have eb:=kV (e:=101) (m:=4) (z:=[zP,zP,zP,zP]) (v:=.agg [.ref q1 0 0,.ref q2 0 0,.ref q3 0 0,.ref q4 0 0]) (H:=Hd) rfl rfl rfl;simp only [fZ] at eb;simp only [o,a,oH,ao8,f] at t1 t2 r1 hx;simp only [Nat.reduceLeDiff,xq_,hq_,h1,f,hx,s1,s2,s3,a1,a2,a3,a4,ep,eq,anB,zbp,eb,t1,t2,dW,h6,h7,r1]
 obtain⟨H',g',P,r1,r2,r3,r4,r5⟩:=key c.aH.toNat 0 (by omega) H2 _ _ M0 aV (λj hj=> by omega) (λi j s t hi=> by omega);refine⟨H',f,P,g',bI rfl rfl (aqE _ _ _ (r:=(_,H')) ?_),r2.GV,⟨?_,?_,rfl,rfl⟩,r5⟩
 ·have e0:bd 93 []=some (.agg [zN]):=by
   simp only [xq_,anF,kE,gX]
  have a0:([zN]:List AV).all AV.aQ=true:=rfl;simp only [Nat.reduceLT,xq_,hq_,ap1,aG (nD c),e0,aG a0,l0];exact r1
 ·rw [r3];simp only [Fab.new,zdj]
 ·intro i p hp;simp only [Fab.new] at hp;rw [zbU] at hp;split at hp
  ·cases hp;exact r4 i (by omega)
  ·cases hp
structure Adr where
 zW:Nat
 fab:Nat
 trace:Nat
 N:Nat->Nat->Nat
 P:Nat->Nat->Nat
def Z7(A:Adr)(c:Cfg):List AV:=[.ref A.fab 0 0,.ref A.trace 0 0]++c.av
def PS(N:Nat->Nat->Nat)(n:Nat):List AV:=(List.range n).map λi=> .ref (N i 0) 0 0
def SH(A:Adr)(c:Cfg)(n:Nat):List Cell:=(Z7 A c).map .av++[.seq 1 (PS A.N n)]
def ap5(N:Nat->Nat->Nat)(n:Nat):Prop:=∀i j s t,i < n->j < n->s < 6->t < 6->N i s=N j t->i=j/\s=t
structure mO(g:bD)(A:Adr)(m:bW):Prop where
 zW:g A.zW=some (SH A m.c m.aH.length)
 trace:g A.trace=some (jG m.trace)
 fab:ig g A.fab A.P m.c m.fab
 bn:∀(i:Nat) n,m.aH[i]?=some n->rH g (A.N i) m.c i n
 PU:PO A.P m.fab.l.length
 am8:ap5 A.N m.aH.length
 tf:A.trace≠A.fab
theorem rH.some {g:bD}{a:Nat->Nat}{c:Cfg}{me:Int}{n:Node}(h:rH g a c me n){s:Nat}(hs:s < 6):∃l,g (a s)=some l:=by
 obtain⟨h0,h1,h2,h3,h4,h5⟩:=h
 match s,hs with
 | 0,_=> exact⟨_,h0⟩
 | 1,_=> exact⟨_,h1⟩
 | 2,_=> exact⟨_,h2⟩
 | 3,_=> exact⟨_,h3⟩
 | 4,_=> exact⟨_,h4⟩
 | 5,_=> exact⟨_,h5⟩
theorem rH.ext {g g':bD}{a:Nat->Nat}{c:Cfg}{me:Int}{n:Node}(h:rH g a c me n)(hg:∀s,s < 6->g' (a s)=g (a s)):rH g' a c me n:=by
 obtain⟨h0,h1,h2,h3,h4,h5⟩:=h;exact⟨by rw [hg 0 (by omega),h0],by rw [hg 1 (by omega),h1],by rw [hg 2 (by omega),h2],by rw [hg 3 (by omega),h3],by rw [hg 4 (by omega),h4],by rw [hg 5 (by omega),h5]⟩
theorem rH.inj {g:bD}{a:Nat->Nat}{c:Cfg}{me:Int}{n:Node}(h:rH g a c me n){s t:Nat}(hs:s < 6)(ht:t < 6)(e:a s=a t):s=t:=by
 obtain⟨h0,h1,h2,h3,h4,h5⟩:=h;have hh:(g (a s)).map List.length=(g (a t)).map List.length:=by rw [e]
 match s,hs,t,ht with
 | 0,_,0,_ | 1,_,1,_ | 2,_,2,_ | 3,_,3,_ | 4,_,4,_ | 5,_,5,_=> rfl
 | 0,_,1,_ | 0,_,2,_ | 0,_,3,_ | 0,_,4,_ | 0,_,5,_ | 1,_,0,_ | 1,_,2,_ | 1,_,3,_ | 1,_,4,_ | 1,_,5,_ | 2,_,0,_ | 2,_,1,_ | 2,_,3,_ | 2,_,4,_ | 2,_,5,_ | 3,_,0,_ | 3,_,1,_ | 3,_,2,_ | 3,_,4,_ | 3,_,5,_ | 4,_,0,_ | 4,_,1,_ | 4,_,2,_ | 4,_,3,_ | 4,_,5,_ | 5,_,0,_ | 5,_,1,_ | 5,_,2,_ | 5,_,3,_ | 5,_,4,_=>
  simp [h0,h1,h2,h3,h4,h5,x9,PL,Cfg.av,bJ.av,dn,qR,GY,EL,iP] at hh
theorem acS {c:Cfg}{ps:List (List Opn)}(h:c.Wq ps=true):(ps.length:Int)=c.aH/\∀l∈ps,l.length<=24:=by
 simp only [Cfg.Wq,zah,decide_eq_true_eq,zaZ] at h;exact⟨h.2,λl hl=> (h.1 l hl).1⟩
section
variable {b:Nat}{H:ah}{g:bD}{q:Nat}
theorem MC(G:Good b H g){p:Proc}(h:g q=some (qR p))(h1:p.ops.length < 1000)(h2:p.bf.length < 1000):cl 12 [.ref q 0 0] H=some (I p.left,H):=by
 refine bI rfl rfl (an3 _ _ _ ?_);have e1:=G.load h (i:=0) rfl;have e2:=(F9 fG H p.ops).lnS;obtain⟨x,hx,c⟩:=G.seq h (i:=1) rfl;have e3:=(c.is (n:=p.bf.length) (by decide) (by simp)).lnS;simp only [xq_,ajL,e1,e2,hx,e3,jw,Proc.left];rw [wrap_i64 (by omega) (by omega)]
theorem Z8(G:Good b H g){p:Proc}(h:g q=some (qR p)):cl 63 [.ref q 0 0] H=some (B p.dU,H):=by
 refine bI rfl rfl (aou _ _ _ ?_);have e1:=G.load h (i:=2) rfl;simp only [xq_,aj8,e1]
theorem Z9(G:Good b H g){l:List Pkt}{room:Int}(h:g q=some (nM l room)):cl 58 [.ref q 0 0] H=some (I l.length,H):=by
 refine bI rfl rfl (aos _ _ _ ?_);obtain⟨x,hx,c⟩:=G.seq h (i:=0) rfl;have e2:=(c.is (by decide) (dI bU l)).lnS;simp only [xq_,aj7,hx,e2]
theorem aac {H:ah}(l:List Int)(h:l.length < 1000000000):app 3 1 8 zN (dat l) H=some (if l=[] then(zN,H) else(.sl H.next 0 0 1 l.length l.length false,H.new (.blk 0 (3+gQ) (l.map I)))):=by
 by_cases h0:l=[]
 ·subst h0;simp only [dat,gI,if_true];rfl
 ·rw [if_neg h0];exact RP (nN _ l) (xG l) (λe=> h0 (zar e)) (by unfold most;omega) (by unfold most;omega)
theorem JK {H:ah}{s d r:Nat}{l:List Int}(hl:l≠[])(hr:s<=r){ty:TypeId}(hg:H.get r=.blk 0 ty (l.map I)){ex:Bool}:bP H s (d+2) (.sl r 0 0 1 l.length l.length ex)=some (dat l):=by
 rw [yE hl];refine jP hr (cells:=l.map I) ?_ (iF _ λx hx=> xH _ x hx _ _);simp only [cZ,hg];rw [if_pos ⟨trivial,by simp⟩,zaP,zaA (by simp)]
theorem acT(G:Good b H g){a:Nat->Nat}{c:Cfg}{me:Int}{d:bJ}{num:Int}(h:g q=some (x9 a c me d num))(hd:d.data.length < 1000000000):
  cl 20 [.ref q 0 0] H=some (.tup [.agg (if d.step=0 then bJ.zero else d).av,B (!decide (d.step=0))],H):=by
 have zd:bJ.zero.av=[zI,zI,zI,zI,zI,zI,zN,zI,zI]:=by simp [bJ.zero,bJ.av,dat,gI]
 have G1:=G.guard.new (.blk 0 44 [zI,zI,zI,zI,zI,zI,zN,zI,zI]);have e1:=G1.load h (i:=15) (x:=I d.step) rfl;have ez:bd 44 []=some (.agg [zI,zI,zI,zI,zI,zI,zN,zI,zI]):=by simp only [xq_,Wn,kE,gX]
 by_cases h0:d.step=0
 ·refine dJ rfl rfl (agW _ _ _) ?_ ?_
  ·simp only [Nat.reduceAdd,aW,xq_,hq_,Y6,e1,h0,ez,zd,zae]
  ·rw [if_pos h0,zd];refine uI λx hx=> ?_;simp only [zaj,zaw,or_false] at hx;rcases hx with rfl | rfl
   ·refine nG λx hx=> ?_;simp only [zaj,zaw,or_false] at hx;rcases hx with rfl | rfl | rfl | rfl | rfl | rfl | rfl | rfl | rfl <;> exact iZ
   ·exact iZ
 ·have e2:=G1.loads h (i:=12) (n:=9) (xs:=d.av) rfl rfl (by decide);by_cases hl:d.data=[]
  ·refine dJ rfl rfl (agW _ _ _) (v:=.tup [.agg d.av,B true]) ?_ ?_ |>.trans ?_
   ·have e3:=λH=> aac (H:=H) d.data hd;have hz:dat ([]:List Int)=zN:=by simp [dat,gI]
    simp only [hl,if_true,hz] at e3;have zc:zN.cells=[zN]:=rfl;simp only [Nat.reduceAdd,aW,xq_,hq_,Y6,e1,h0,e2,bJ.av,hl,e3,hz,zc]
   ·refine uI λx hx=> ?_;simp only [zaj,zaw,or_false] at hx;rcases hx with rfl | rfl
    ·refine nG λx hx=> ?_;simp only [bJ.av,zaj,zaw,or_false] at hx;rcases hx with rfl | rfl | rfl | rfl | rfl | rfl | rfl | rfl | rfl <;> first | exact iZ | exact uJ
    ·exact iZ
   ·simp only [h0,if_false,decide_false,zam]
  ·let Hr:=H.next+2
   have e3:=λH=> aac (H:=H) d.data hd;simp only [hl,if_false] at e3;have key:∃Hz,Y6 cl (.ref q 0 0) H.guard=some (.tup [.agg [I d.aO,I d.aj,I d.id,I d.step,I d.aT,I d.head,.sl (H.next+2) 0 0 1 d.data.length d.data.length false,I d.next,I d.told],B true],Hz)/\Hz.get (H.next+2)=.blk 0 (3+gQ) (d.data.map I):=by
    have cs:∀r n m,(AV.sl r 0 0 1 n m false).cells=[.sl r 0 0 1 n m false]:=λ_ _ _=> rfl;have ic:∀r n m,AV.aQ (.sl r 0 0 1 n m false)=true:=λ_ _ _=> rfl;simp only [Nat.reduceAdd,aW,xq_,hq_,zaa,zad,exists_eq_left',Y6,e1,h0,e2,bJ.av,e3,cs,ic];exact bC (by first | rfl | simp only [fE,RJ])
   obtain⟨Hz,k1,k2⟩:=key;refine ji rfl rfl (agW _ _ _ k1) ?_;have f:=JK (s:=H.next) (d:=5) (ex:=false) hl (by omega) k2;have f':∀v,bP Hz H.next 7 (.s v)=some (.s v):=λv=> jq
   have f'':∀v,bP Hz H.next 8 (.s v)=some (.s v):=λv=> jq
   rw [bP,zbm,bP];simp only [zbm,List.mapM_nil,f,f',f'',h0,if_false,decide_false,zam,bJ.av];rfl
end
section
variable {b:Nat}{H:ah}{g:bD}{q f:Nat}{P:Nat->Nat->Nat}{c:Cfg}{fab:Fab}
theorem Cur.elemAt {i m n:Nat}{x:AV}{l:List AV}(cu:Cur b H q i x m l)(hm:0 < m)(hl:l.length=n*m){j:Nat}(hj:j < n):
  ∃r gg o,(∀k:IntKind,ix m x (.s (.int k j)) H=some (.ref r gg o,H))/\(∀k,k < m->ld (.ref r gg (o+k)) H=(l[j*m+k]?).map λv=> (v,H))/\lda m (.ref r gg o) H=some (.agg ((l.drop (j*m)).take m),H):=by
 have hs:=cu.is hm hl;have hjm:(j+1)*m<=n*m:=zaD _ (by omega);rw [zbt,zbp] at hjm;rcases cu.length hm hl with⟨_,h0⟩ | ⟨r,gg,off,cap,ex,ty,all,rfl,k1,k2,k3,k4,k5,k6,k7,k8⟩
 ·omega
 have hcm:n*m<=cap*m:=zaD _ k4;refine⟨r,gg,off+j*m,λk=> ?_,λk hk=> ?_,?_⟩
 ·have:=hs.ix (k:=k) (i:=(j:Int)) (by omega) (by omega);rw [zaq] at this;exact this
 ·rw [gu k5,k8,zaC,if_pos (by omega),zaF,zb1]
 ·rw [gZ k5 (by omega),k8]
  congr 3
  rw [zcj,zbA,zbT,zbk (by omega)]
theorem aad {α:Type}{enc:α->List AV}{m:Nat}(he:∀a,(enc a).length=m)(l:List α)(i:Nat)(a:α)(hi:l[i]?=some a){k:Nat}(hk:k < m):(l.flatMap enc)[i*m+k]?=(enc a)[k]?:=by
 have:=uH he l i a hi;rw [<-this,zaC,if_pos hk,zaF]
theorem EN(G:Good b H g)(F:ig g f P c fab)(hn:fab.l.length < 1000)(i:Int):cl 103 [.ref f 0 0,I i] H=some (B (fab.is i),H):=by
 refine bI rfl rfl (aky _ _ _ _ ?_);obtain⟨x,hx,cu⟩:=G.seq F.1 (i:=0) rfl;have e2:=(cu.is (by decide) (pX P _)).lnS;by_cases h0:0<=i
 ·simp only [xq_,Zi,h0,hx,e2,Fab.is,zbn]
 ·simp only [xq_,Zi,h0,Fab.is,zbC]
theorem ig.port(F:ig g f P c fab){i:Nat}(hi:i < fab.l.length):vK g (P i) c (fab.port i):=by
 have:=F.2.1 i (fab.l[i]) (zab hi);unfold Fab.port;rw [zaq,zas,zab hi];exact this
end
end
end Go.Proofs.YtljogojaihgdlaaGreat
