/-
  Own work: an interpreter over named blocks, its soundness, and what the functions of this seat compute (part 4 of 10).
  Conditions: those of the statement alone.
-/
import Derived.Test.YtgplhpgkompkmaaGreatProg
import Derived.KernelRfl
import Derived.RangeFuncFrom
import Derived.RangeFuncLeaves
import Derived.RangeFuncCalls
import Derived.OrdersIn
import Derived.Test.YtgplhpgkompkmaaGreatXc
set_option maxRecDepth 100000
set_option linter.all false
set_option linter.unusedSectionVars false
set_option linter.unusedVariables false
set_option linter.unusedSimpArgs false
namespace Go.Proofs.YtgplhpgkompkmaaGreat
noncomputable section
def ak6:Ann:=⟨[(9,[1,5,8,9,10])],[],[]⟩
def KX:=jF Tryz.prog Tryz.f3 108 ak6 0
def Qw(C:ak)(t1 t5:AV)(H:ah):OA:=
 bnd (C 10 [t5,t1] H) λv38 H=> bo (aX v38 0) λv39=> bo (aX v38 1) λv40=>
 KX C [t1,t5,v39,v40,(I 0)] H
def aiD(C:ak)(a0 a1:AV)(H:ah):OA:=
 bnd (iC 24 a0 H) λv2 H=>
 bnd (lda 12 v2 H) λv14 H=> bnd (C 8 [v14,(I 4)] H) λv15 H=> bo (aX v15 0) λv16=> bo (aX v15 1) λv17=> bo (aX v15 2) λv18=>
 bo (bi .eql 25 v16 (.s (Go.Value.pointer none))) λv20=>
 bF v20
 (some ((B false),H))
 (bo (bi .geq 3 a1 (I 0)) λv22=> gl v22 true (some a1) H λv24 H=> gl v22 true (some v16) H λv25 H=> gdA (some v22) true (C 9 [v25] H) H λv26 H=> gl v22 true (fl v26 1) H λv27 H=> gl v22 true (bi .lss 3 v24 v27) H λv28 H=> bo (bQ v22 v28 (B false)) λv29=>
  bF v29
  (bnd (C 9 [v16] H) λv32 H=> bo (fl v32 1) λv33=> bo (bi .add 3 a1 v33) λv34=>
  Qw C v34 v16 H)
  (Qw C a1 v16 H))
theorem aaZ(C:ak)(t1 t5 t8 t9 t10:AV)(H:ah):KX C [t1,t5,t8,t9,t10] H=
 bnd (C 9 [t5] H) λv43 H=> bo (fl v43 1) λv44=> bo (bi .lss 3 t10 v44) λv45=>
 bF v45
 (bnd (C 10 [t5,t10] H) λv51 H=> bo (aX v51 0) λv52=> bo (aX v51 1) λv53=>
  bo (un .not v53) λv55=> gl v55 false (some v52) H λv57 H=> gdA (some v55) false (lnS v57 H) H λv58 H=> gl v55 false (bi .neq 3 v58 (I 0)) H λv59 H=> bo (bQ v55 (B true) v59) λv60=> gl v60 false (some t5) H λv62 H=> gl v60 false (some t10) H λv63 H=> gdA (some v60) false (C 11 [v62,v63] H) H λv64 H=> gdA (some v60) false (lnS v64 H) H λv65 H=> gl v60 false (bi .neq 3 v65 (I 0)) H λv66 H=> bo (bQ v60 (B true) v66) λv67=> gl v67 false (some t5) H λv69 H=> gl v67 false (some t10) H λv70 H=> gdA (some v67) false (C 12 [v69,v70] H) H λv71 H=> gl v67 false (bi .neq 3 v71 (I (-1))) H λv72 H=> bo (bQ v67 (B true) v72) λv73=> gl v73 false (some t5) H λv75 H=> gl v73 false (some t10) H λv76 H=> gdA (some v73) false (C 13 [v75,v76] H) H λv77 H=> gl v73 false (un .not v77) H λv78 H=> bo (bQ v73 (B true) v78) λv79=>
  bF v79
  (some ((B false),H))
  (bo (bi .add 3 t10 (I 1)) λv47=>
  KX C [t1,t5,t8,t9,v47] H))
 (bo (un .not t9) λv81=> gl v81 true (some t8) H λv83 H=> gdA (some v81) true (lnS v83 H) H λv84 H=> gl v81 true (bi .eql 3 v84 (I 0)) H λv85 H=> bo (bQ v81 v85 (B false)) λv86=> gl v86 true (some t5) H λv88 H=> gl v86 true (some t1) H λv89 H=> gdA (some v86) true (C 11 [v88,v89] H) H λv90 H=> gdA (some v86) true (lnS v90 H) H λv91 H=> gl v86 true (bi .eql 3 v91 (I 0)) H λv92 H=> bo (bQ v86 v92 (B false)) λv93=> gl v93 true (some t5) H λv95 H=> gl v93 true (some t1) H λv96 H=> gdA (some v93) true (C 12 [v95,v96] H) H λv97 H=> gl v93 true (bi .eql 3 v97 (I (-1))) H λv98 H=> bo (bQ v93 v98 (B false)) λv99=> gl v99 true (some t5) H λals H=> gl v99 true (some t1) H λalu H=> gdA (some v99) true (C 13 [als,alu] H) H λalv H=> bo (bQ v99 alv (B false)) λak7=> gdA (some ak7) true (C 14 [] H) H λalx H=> bo (bQ ak7 alx (B false)) λv107=>
  some (v107,H)):=
 lpE.trans (by kernel_rfl)
theorem aly:Rn2 3 aiD:=λ_ _ _ _ _ h=>
 rnG ak6 Tryz.func3 (by kernel_rfl) (by kernel_rfl) h
def ak8(C:ak)(a0 a1:AV)(H:ah):OA:=
 bnd (iC 24 a0 H) λv2 H=>
 bnd (lda 12 v2 H) λv13 H=> bnd (C 33 [v13] H) λv14 H=> bnd (alc 31 [zI,zI,zI,zI,zI,zI,zI,zN] H) λv7 H=> bnd (st 8 v7 v14 H) λ_ H=>
 bnd (lda 12 v2 H) λv15 H=> bnd (C 34 [v15,a1] H) λv17 H=>
 bnd (lda 8 v7 H) λv19 H=> bnd (C 35 [v19,v17] H) λv21 H=> bo (aX v21 0) λv22=> bo (aX v21 1) λv23=>
 bnd (lda 8 v7 H) λv25 H=> bnd (C 20 [v25,v17] H) λv27 H=> bo (aX v27 0) λv28=> bo (aX v27 1) λv29=>
 bo (un .not v23) λv31=> gl v31 false (some v29) H λv33 H=> gl v31 false (bi .neq 57 v33 (I 0)) H λv34 H=> bo (bQ v31 (B true) v34) λv35=> gl v35 false (some v28) H λv37 H=> gl v35 false (bi .eql 25 v37 (.s (Go.Value.pointer none))) H λv38 H=> bo (bQ v35 (B true) v38) λv39=>
 bF v39
 (some (.tup [(.s (Go.Value.pointer none)),(.s (Go.Value.pointer none)),(.s (Go.Value.slice none 0 0))],H))
 (some (.tup [v28,v22,v17],H))
theorem alz:Rn2 8 ak8:=λ_ _ _ _ _ h=>
 rnG an0 Tryz.func8 (by kernel_rfl) (by kernel_rfl) h
def ak9(C:ak)(a0:AV)(H:ah):OA:=
 bnd (alc 31 [zI,zI,zI,zI,zI,zI,zI,zN] H) λv2 H=>
 bo (aU a0) λv5=> bo (aN v5 2) λv6=> bnd (lda 8 v6 H) λv7 H=> bnd (alc 31 [zI,zI,zI,zI,zI,zI,zI,zN] H) λv3 H=> bnd (st 8 v3 v7 H) λ_ H=>
 fld v3 7 H λv9 H=> bnd (C 36 [v9] H) λv10 H=> bo (aN v3 7) λv11=> bnd (st 1 v11 v10 H) λ_ H=>
 bnd (lda 8 v3 H) λv12 H=> bnd (st 8 v2 v12 H) λ_ H=>
 bnd (lda 8 v2 H) λr0 _=> some (r0,H)
theorem alA:Rn1 9 ak9:=λ_ _ _ _ h=>
 rnG an0 Tryz.func9 (by kernel_rfl) (by kernel_rfl) h
def afY:Ann:=⟨[(6,[0,1,6,7])],[],[]⟩
def II:=jF Tryz.prog Tryz.f10 42 afY 0
def ac9(C:ak)(a0 a1:AV)(H:ah):OA:=
 bnd (C 37 [a0,a1] H) λv12 H=> bo (un .not v12) λv13=>
 bF v13
 (some (.tup [(.s (Go.Value.slice none 0 0)),(B false)],H))
 (bnd (C 38 [a0,a1] H) λv16 H=> bo (fl v16 1) λv17=>
  II C [a0,a1,(.s (Go.Value.slice none 0 0)),v17] H)
theorem IJ(C:ak)(t0 t1 t6 t7:AV)(H:ah):II C [t0,t1,t6,t7] H=
 bo (bi .neq 3 t7 (I (-1))) λv19=>
 bF v19
 (bnd (C 39 [t0,t7,t1] H) λv24 H=> bo (aX v24 0) λv25=> bo (aX v24 1) λv26=> bnd (alc 100 [zI,zI,zI,zI,zB,zN] H) λv8 H=> bnd (st 6 v8 v25 H) λ_ H=>
  bo (un .not v26) λv28=> gl v28 false (some t6) H λv30 H=> gl v28 false (some t7) H λv31 H=> gdA (some v28) false (C 40 [v30,v31] H) H λv32 H=> bo (bQ v28 (B true) v32) λv33=>
  bF v33
  (some (.tup [(.s (Go.Value.slice none 0 0)),(B false)],H))
  (bnd (bs 22 1 [(0,t7)] H) λv36 H=> bnd (app 3 1 8 t6 v36 H) λv37 H=>
  bo (aN v8 0) λv38=> fld v38 0 H λv40 H=>
  II C [t0,t1,v37,v40] H))
 (some (.tup [t6,(B true)],H)):=
 lpE.trans (by kernel_rfl)
theorem afZ:Rn2 10 ac9:=λ_ _ _ _ _ h=>
 rnG afY Tryz.func10 (by kernel_rfl) (by kernel_rfl) h
def af0:Ann:=⟨[(4,[0,1,5,11,12])],[],[]⟩
def DN:=jF Tryz.prog Tryz.f11 38 af0 0
def DR(C:ak)(t0 t1 t5 t11 t12:AV)(H:ah):OA:=
 bo (bi .add 3 t12 (I 1)) λv36=>
 DN C [t0,t1,t5,t11,v36] H
def af2(C:ak)(a0 a1:AV)(H:ah):OA:=
 bnd (C 9 [a0] H) λv10 H=> bo (fl v10 0) λv11=>
 DN C [a0,a1,(.s (Go.Value.slice none 0 0)),v11,(I 0)] H
theorem Oi(C:ak)(t0 t1 t5 t11 t12:AV)(H:ah):DN C [t0,t1,t5,t11,t12] H=
 bo (bi .lss 3 t12 t11) λv13=>
 bF v13
 (bnd (C 25 [t0,t12] H) λv18 H=> bo (aU v18) λv19=> fld v19 0 H λv21 H=> bnd (C 41 [v21,t1] H) λv23 H=> bo (aX v23 0) λv24=> bo (aX v23 1) λv25=> bnd (alc 100 [zI,zI,zI,zI,zB,zN] H) λv7 H=> bnd (st 6 v7 v24 H) λ_ H=>
  gl v25 true (some t0) H λv28 H=> gl v25 true (some t1) H λv29 H=> gdA (some v25) true (C 37 [v28,v29] H) H λv30 H=> bo (bQ v25 v30 (B false)) λv31=>
  bF v31
  (bnd (bs 22 1 [(0,t12)] H) λv34 H=> bnd (app 3 1 8 t5 v34 H) λv35 H=>
  DR C t0 t1 v35 t11 t12 H)
  (DR C t0 t1 t5 t11 t12 H))
 (some (t5,H)):=
 lpE.trans (by kernel_rfl)
theorem ajk:Rn2 11 af2:=λ_ _ _ _ _ h=>
 rnG af0 Tryz.func11 (by kernel_rfl) (by kernel_rfl) h
def ada(C:ak)(a0 a1:AV)(H:ah):OA:=
 bnd (C 37 [a0,a1] H) λv7 H=> bo (un .not v7) λv8=>
 bF v8
 (some ((I (-1)),H))
 (bnd (C 9 [a0] H) λv11 H=> bnd (C 42 [v11,a1] H) λv13 H=> bnd (C 25 [a0,v13] H) λv14 H=> bnd (C 43 [v14,a1] H) λv16 H=>
  some (v16,H))
theorem ajl:Rn2 12 ada:=λ_ _ _ _ _ h=>
 rnG an0 Tryz.func12 (by kernel_rfl) (by kernel_rfl) h
def af4:Ann:=⟨[(10,[0,1,7,8,35,36,37])],[],[]⟩
def vZ:=jF Tryz.prog Tryz.f13 64 af4 0
def SV(C:ak)(a0 a1:AV)(H:ah):OA:=
 bnd (C 37 [a0,a1] H) λv15 H=> bo (un .not v15) λv16=>
 bF v16
 (some ((B true),H))
 (bnd (C 10 [a0,a1] H) λv20 H=> bo (aX v20 0) λv21=> bo (aX v20 1) λv22=>
  bo (un .not v22) λv24=> gl v24 false (some v21) H λv26 H=> gdA (some v24) false (C 46 [v26] H) H λv27 H=> gdA (some v24) false (C 45 [v27] H) H λv28 H=> gl v24 false (some a0) H λv29 H=> gl v24 false (some a1) H λv30 H=> gdA (some v24) false (C 11 [v29,v30] H) H λv31 H=> gdA (some v24) false (C 44 [v28,v31] H) H λv32 H=> gl v24 false (un .not v32) H λv33 H=> bo (bQ v24 (B true) v33) λv34=>
  bF v34
  (some ((B false),H))
  (bnd (lnS v21 H) λv36 H=>
  vZ C [a0,a1,(.s (Go.Value.slice none 0 0)),(I (-1)),v21,v36,(I 0)] H))
theorem Oj(C:ak)(t0 t1 t7 t8 t35 t36 t37:AV)(H:ah):vZ C [t0,t1,t7,t8,t35,t36,t37] H=
 bo (bi .lss 3 t37 t36) λv38=>
 bF v38
 (bnd (ix 1 t35 t37 H) λv39 H=> bnd (ld v39 H) λv40 H=>
  bnd (C 39 [t0,v40,t1] H) λv45 H=> bo (aX v45 0) λv46=> bo (aX v45 1) λv47=> bnd (alc 100 [zI,zI,zI,zI,zB,zN] H) λv11 H=> bnd (st 6 v11 v46 H) λ_ H=>
  bo (aN v11 0) λv48=> fld v48 1 H λv50 H=> bo (bi .neq 3 v50 t8) λv52=>
  bF v52
  (some ((B false),H))
  (bnd (lda 6 v11 H) λv55 H=> bnd (bs 111 1 [(0,v55)] H) λv56 H=> bnd (app 100 6 64 t7 v56 H) λv57 H=>
  bo (bi .add 3 t37 (I 1)) λv58=>
  vZ C [t0,t1,v57,v40,t35,t36,v58] H))
 (bnd (C 38 [t0,t1] H) λv61 H=> bnd (C 47 [v61,t7] H) λv63 H=>
  some (v63,H)):=
 lpE.trans (by kernel_rfl)
theorem ajm:Rn2 13 SV:=λ_ _ _ _ _ h=>
 rnG af4 Tryz.func13 (by kernel_rfl) (by kernel_rfl) h
def af5(C:ak)(H:ah):OA:=
 bo (bd 31 [(0,(I 2)),(1,(I 1)),(2,(I 1)),(3,(I 1)),(4,(I 1)),(5,(I 1)),(6,(I 1))]) λv6=> bnd (bs 27 2 [(0,(.s (Go.Value.slice none 0 0))),(1,(.s (Go.Value.slice none 0 0)))] H) λv7 H=> bnd (C 20 [v6,v7] H) λv8 H=> bo (aX v8 0) λv9=> bo (aX v8 1) λv10=>
 bo (bi .neq 57 v10 (I 0)) λv12=> gl v12 false (some v9) H λv14 H=> gl v12 false (bi .eql 25 v14 (.s (Go.Value.pointer none))) H λv15 H=> bo (bQ v12 (B true) v15) λv16=>
 bF v16
 (some ((B false),H))
 (bnd (C 10 [v9,(I 0)] H) λv19 H=> bo (aX v19 0) λv20=> bo (aX v19 1) λv21=>
  bnd (bs 27 2 [(0,(.s (Go.Value.slice none 0 0))),(1,(.s (Go.Value.slice none 0 0)))] H) λv23 H=> bnd (C 18 [v9,v23] H) λv24 H=> gl v24 true (some v21) H λv26 H=> bo (bQ v24 v26 (B false)) λv27=> gl v27 true (some v20) H λv29 H=> gdA (some v27) true (lnS v29 H) H λv30 H=> gl v27 true (bi .eql 3 v30 (I 0)) H λv31 H=> bo (bQ v27 v31 (B false)) λv32=>
  some (v32,H))
theorem ajn:Rn0 14 af5:=λ_ _ _ h=>
 rnG an0 Tryz.func14 (by kernel_rfl) (by kernel_rfl) h
def af6:Ann:=⟨[(4,[0,1,5,10,11])],[(8,rF 6 (some true::rF 7 []))],[]⟩
def DT:=jF Tryz.prog Tryz.f18 44 af6 0
def af7(C:ak)(a0 a1:AV)(H:ah):OA:=
 bnd (C 9 [a0] H) λv8 H=> bnd (alc 31 [zI,zI,zI,zI,zI,zI,zI,zN] H) λv5 H=> bnd (st 8 v5 v8 H) λ_ H=>
 fld v5 1 H λv10 H=>
 DT C [a0,a1,v5,v10,(I 0)] H
theorem VG(C:ak)(t0 t1 t5 t10 t11:AV)(H:ah):DT C [t0,t1,t5,t10,t11] H=
 bo (bi .lss 3 t11 t10) λv12=>
 bF v12
 (bnd (C 53 [t0,t11] H) λv16 H=> bo (un .not v16) λv17=> gl v17 false (some t0) H λv19 H=> gl v17 false (some t11) H λv20 H=> gdA (some v17) false (C 12 [v19,v20] H) H λv21 H=> gl v17 false (bi .eql 3 v21 (I (-1))) H λv22 H=> gl v17 false (some v22) H λv23 H=> gl v23 true (some t0) H λv24 H=> gl v23 true (some t11) H λv25 H=> gdA (some v23) true (C 13 [v24,v25] H) H λv26 H=> gl v23 true (un .not v26) H λv27 H=> gl v17 false (bQ v23 v27 (B false)) H λv28 H=> bo (bQ v17 (B true) v28) λv29=>
  bF v29
  (some ((B false),H))
  (bo (bi .add 3 t11 (I 1)) λv30=>
  DT C [t0,t1,t5,t10,v30] H))
 (bnd (lda 8 t5 H) λv31 H=> bo (aU t0) λv34=> fld v34 1 H λv36 H=> bnd (unG H (C 55 [v36] H.guard)) λv37 H=> bnd (C 54 [v31,t1,v37] H) λv38 H=> gl v38 true (some t0) H λv40 H=> gl v38 true (some t1) H λv41 H=> gdA (some v38) true (C 19 [v40,v41] H) H λv42 H=> bo (bQ v38 v42 (B false)) λv43=>
  some (v43,H)):=
 lpE.trans (by kernel_rfl)
theorem ajo:Rn2 18 af7:=λ_ _ _ _ _ h=>
 rnG af6 Tryz.func18 (by kernel_rfl) (by kernel_rfl) h
def af8:Ann:=⟨[(7,[0,5,6,24,25])],[(2,rF 6 (some true::some false::some false::[]))],[]⟩
def DU:=jF Tryz.prog Tryz.f19 44 af8 0
def af9(C:ak)(a0 a1:AV)(H:ah):OA:=
 bnd (C 9 [a0] H) λv9 H=> bnd (alc 31 [zI,zI,zI,zI,zI,zI,zI,zN] H) λv5 H=> bnd (st 8 v5 v9 H) λ_ H=>
 bnd (lda 8 v5 H) λv10 H=> bo (aU a0) λv13=> fld v13 1 H λv15 H=> bnd (unG H (C 55 [v15] H.guard)) λv16 H=> bnd (C 56 [v10,a1,v16] H) λv17 H=>
 bnd (lnS v17 H) λv19 H=> bnd (lda 8 v5 H) λv20 H=> bnd (C 57 [v20] H) λv21 H=> bo (bi .neq 3 v19 v21) λv22=>
 bF v22
 (some ((B false),H))
 (fld v5 1 H λv24 H=>
  DU C [a0,v5,v17,v24,(I 0)] H)
theorem VH(C:ak)(t0 t5 t6 t24 t25:AV)(H:ah):DU C [t0,t5,t6,t24,t25] H=
 bo (bi .lss 3 t25 t24) λv26=>
 bF v26
 (fld t5 2 H λv33 H=> bo (bi .mul 3 t25 v33) λv34=> bo (bi .add 3 t25 (I 1)) λv36=> fld t5 2 H λv38 H=> bo (bi .mul 3 v36 v38) λv39=> bo (slS 1 t6 (some v34) (some v39) none) λv40=> bnd (C 58 [t0,t25,v40] H) λv41 H=> bo (un .not v41) λv42=>
  bF v42
  (some ((B false),H))
  (bo (bi .add 3 t25 (I 1)) λv43=>
  DU C [t0,t5,t6,t24,v43] H))
 (some ((B true),H)):=
 lpE.trans (by kernel_rfl)
theorem ajp:Rn2 19 af9:=λ_ _ _ _ _ h=>
 rnG af8 Tryz.func19 (by kernel_rfl) (by kernel_rfl) h
def aga:Ann:=⟨[(11,[2,8,32,33,34])],[(8,some false::some true::some true::rF 4 []),(12,rF 8 (some true::rF 5 []))],[]⟩
def IK:=jF Tryz.prog Tryz.f20 54 aga 0
def agb(C:ak)(a0 a1:AV)(H:ah):OA:=
 bnd (iC 31 a0 H) λv2 H=>
 bnd (lda 8 v2 H) λv11 H=> bnd (C 59 [v11] H) λv12 H=>
 bo (bi .neq 57 v12 (I 0)) λv14=>
 bF v14
 (some (.tup [(.s (Go.Value.pointer none)),v12],H))
 (bnd (lda 8 v2 H) λv16 H=> bnd (C 60 [v16,a1] H) λv18 H=>
  bo (bi .neq 57 v18 (I 0)) λv20=>
  bF v20
  (some (.tup [(.s (Go.Value.pointer none)),v18],H))
  (fld v2 7 H λv23 H=> bnd (C 36 [v23] H) λv24 H=> bo (aN v2 7) λv25=> bnd (st 1 v25 v24 H) λ_ H=>
  bnd (lda 8 v2 H) λv26 H=> bnd (unG H (C 61 [v26] H.guard)) λv27 H=> bnd (unG H (C 62 [] H.guard)) λv28 H=> bnd (lda 8 v2 H) λv29 H=> bo (bd 53 [(0,v27),(1,v28),(2,v29)]) λv30=> bnd (iC 53 v30 H) λv31 H=>
  bnd (lnS a1 H) λv33 H=>
  IK C [v2,v31,a1,v33,(I 0)] H))
theorem VI(C:ak)(t2 t8 t32 t33 t34:AV)(H:ah):IK C [t2,t8,t32,t33,t34] H=
 bo (bi .lss 3 t34 t33) λv35=>
 bF v35
 (bnd (ix 1 t32 t34 H) λv37 H=> bnd (ld v37 H) λv38 H=>
  bo (aU t8) λv41=> fld v41 10 H λv43 H=> bnd (lda 8 t2 H) λv44 H=> bnd (unG H (C 63 [v44,t34,v38] H.guard)) λv47 H=> bnd (bs 51 1 [(0,v47)] H) λv48 H=> bnd (app 64 1 8 v43 v48 H) λv49 H=> bo (aU t8) λv50=> bo (aN v50 10) λv51=> bnd (st 1 v51 v49 H) λ_ H=>
  bo (bi .add 3 t34 (I 1)) λv52=>
  IK C [t2,t8,t32,t33,v52] H)
 (some (.tup [t8,(I 0)],H)):=
 lpE.trans (by kernel_rfl)
theorem ajq:Rn2 20 agb:=λ_ _ _ _ _ h=>
 rnG aga Tryz.func20 (by kernel_rfl) (by kernel_rfl) h
def YQ(C:ak)(a0 a1:AV)(H:ah):OA:=
 bo (bi .lss 3 a1 (I 0)) λv6=> gl v6 false (some a1) H λv8 H=> gl v6 false (some a0) H λv9 H=> gl v6 false (aU v9) H λv10 H=> gl v6 false (aN v10 10) H λv11 H=> gdA (some v6) false (ld v11 H) H λv12 H=> gdA (some v6) false (lnS v12 H) H λv13 H=> gl v6 false (bi .geq 3 v8 v13) H λv14 H=> bo (bQ v6 (B true) v14) λv15=>
 bF v15
 (some ((.s (Go.Value.pointer none)),H))
 (bo (aU a0) λv17=> fld v17 10 H λv19 H=> bnd (ix 1 v19 a1 H) λv21 H=> bnd (ld v21 H) λv22 H=>
  some (v22,H))
theorem ajr:Rn2 25 YQ:=λ_ _ _ _ _ h=>
 rnG an0 Tryz.func25 (by kernel_rfl) (by kernel_rfl) h
def ajs:Ann:=⟨[],[(1,some false::some false::some true::rF 3 (some true::rF 3 (some true::rF 3 (some true::rF 3 (some true::rF 3 (some true::rF 3 (some true::some false::some false::none::some false::[])))))))],[]⟩
def agc(C:ak)(a0:AV)(H:ah):OA:=
 bnd (iC 24 a0 H) λv1 H=> bnd (alc 31 [zI,zI,zI,zI,zI,zI,zI,zN] H) λv2 H=>
 bnd (alc 31 [zI,zI,zI,zI,zI,zI,zI,zN] H) λv3 H=> fld v1 0 H λv5 H=> bnd (unG H (C 50 [v5,(I 4)] H.guard)) λv6 H=> bo (bi .add 3 (I 1) v6) λv7=> fld v1 1 H λv9 H=> bnd (unG H (C 50 [v9,(I 4)] H.guard)) λv10 H=> bo (bi .add 3 (I 1) v10) λv11=> fld v1 2 H λv13 H=> bnd (unG H (C 50 [v13,(I 2)] H.guard)) λv14 H=> bo (bi .add 3 (I 1) v14) λv15=> fld v1 3 H λv17 H=> bnd (unG H (C 50 [v17,(I 2)] H.guard)) λv18 H=> bo (bi .add 3 (I 1) v18) λv19=> fld v1 4 H λv21 H=> bnd (unG H (C 50 [v21,(I 2)] H.guard)) λv22 H=> bo (bi .add 3 (I 1) v22) λv23=> fld v1 5 H λv25 H=> bnd (unG H (C 50 [v25,(I 3)] H.guard)) λv26 H=> bo (bi .add 3 (I 1) v26) λv27=> fld v1 6 H λv29 H=> bnd (unG H (C 50 [v29,(I 3)] H.guard)) λv30 H=> bo (bi .add 3 (I 1) v30) λv31=> bo (bd 31 [(0,v7),(1,v11),(2,v15),(3,v19),(4,v23),(5,v27),(6,v31)]) λv32=> bnd (st 8 v3 v32 H) λ_ H=>
 fld v1 7 H λv34 H=> fld v3 1 H λv36 H=> fld v3 2 H λv38 H=> bo (bi .mul 3 v36 v38) λv39=> bnd (C 74 [v34,v39] H) λv40 H=> bo (aN v3 7) λv41=> bnd (st 1 v41 v40 H) λ_ H=>
 bnd (lda 8 v3 H) λv42 H=> bnd (st 8 v2 v42 H) λ_ H=>
 bnd (lda 8 v2 H) λr0 _=> some (r0,H)
theorem ajt:Rn1 33 agc:=λ_ _ _ _ h=>
 rnG ajs Tryz.func33 (by kernel_rfl) (by kernel_rfl) h
def agd:Ann:=⟨[(5,[1,2,5,6,7])],[(6,none::rF 3 (some true::some true::rF 5 (some true::rF 5 (some true::some false::none::some false::[])))),(9,rF 9 []),(11,rF 11 [])],[]⟩
def wo:=jF Tryz.prog Tryz.f34 84 agd 0
def IL(C:ak)(t1 t2 t5 t6 t7:AV)(H:ah):OA:=
 bo (bi .add 3 t7 (I 1)) λv26=>
 wo C [t1,t2,t5,t6,v26] H
def DV(C:ak)(t1 t2 t5 t6 t7 t8:AV)(H:ah):OA:=
 fld t2 8 H λv60 H=> bnd (ix 1 v60 t7 H) λv62 H=> bnd (ld v62 H) λv63 H=> fld t5 0 H λv65 H=> bnd (C 50 [v63,v65] H) λv66 H=>
 bnd (ix 1 t6 v66 H) λv69 H=> bnd (ld v69 H) λv70 H=> bnd (lnS v70 H) λv71 H=> bo (bi .lss 3 v71 (I 24)) λv72=>
 bF v72
 (bnd (ix 1 t6 v66 H) λv77 H=> bnd (ld v77 H) λv78 H=> bnd (lda 3 t8 H) λv79 H=> bnd (bs 62 1 [(0,v79)] H) λv80 H=> bnd (app 61 3 24 v78 v80 H) λv81 H=> bnd (ix 1 t6 v66 H) λv82 H=> bnd (st 1 v82 v81 H) λ_ H=>
  IL C t1 t2 t5 t6 t7 H)
 (IL C t1 t2 t5 t6 t7 H)
def adb(C:ak)(a0 a1:AV)(H:ah):OA:=
 bnd (iC 24 a0 H) λv2 H=>
 bnd (lda 12 v2 H) λv10 H=> bnd (C 33 [v10] H) λv11 H=> bnd (alc 31 [zI,zI,zI,zI,zI,zI,zI,zN] H) λv5 H=> bnd (st 8 v5 v11 H) λ_ H=>
 fld v5 0 H λv13 H=> bnd (mks 62 1 24 [zN] v13 v13 H) λv14 H=>
 wo C [a1,v2,v5,v14,(I 0)] H
theorem VJ(C:ak)(t1 t2 t5 t6 t7:AV)(H:ah):wo C [t1,t2,t5,t6,t7] H=
 fld t2 8 H λv17 H=> bnd (lnS v17 H) λv18 H=> bo (bi .lss 3 t7 v18) λv19=> gl v19 true (some t7) H λv21 H=> gl v19 true (some t1) H λv22 H=> gl v19 true (bi .lss 3 v21 v22) H λv23 H=> bo (bQ v19 v23 (B false)) λv24=>
 bF v24
 (bnd (bs 22 7 [(0,(I 1)),(1,(I 2)),(2,(I 3)),(3,(I 1)),(4,(I 2)),(5,(I 1)),(6,(I 4))] H) λv27 H=> bnd (alc 61 [zI,zI,zI] H) λv8 H=> fld t2 9 H λv29 H=> bnd (unG H (C 75 [v29,t7] H.guard)) λv31 H=> bnd (unG H (C 50 [v31,(I 7)] H.guard)) λv32 H=> bnd (ix 1 v27 v32 H) λv33 H=> bnd (ld v33 H) λv34 H=> fld t2 10 H λv36 H=> bnd (unG H (C 75 [v36,t7] H.guard)) λv38 H=> fld t5 1 H λv40 H=> fld t5 2 H λv42 H=> bo (bi .mul 3 v40 v42) λv43=> bnd (unG H (C 50 [v38,v43] H.guard)) λv44 H=> bo (bd 61 [(0,v34),(1,v44)]) λv45=> bnd (st 3 v8 v45 H) λ_ H=>
  fld v8 0 H λv47 H=> bo (bi .eql 3 v47 (I 2)) λv48=> gl v48 false (aN v8 0) H λv50 H=> gdA (some v48) false (ld v50 H) H λv51 H=> gl v48 false (bi .eql 3 v51 (I 3)) H λv52 H=> bo (bQ v48 (B true) v52) λv53=>
  bF v53
  (fld t2 11 H λv55 H=> bnd (C 75 [v55,t7] H) λv57 H=> bo (aN v8 2) λv58=> bnd (st 1 v58 v57 H) λ_ H=>
  DV C t1 t2 t5 t6 t7 v8 H)
  (DV C t1 t2 t5 t6 t7 v8 H))
 (some (t6,H)):=
 lpE.trans (by kernel_rfl)
theorem aju:Rn2 34 adb:=λ_ _ _ _ _ h=>
 rnG agd Tryz.func34 (by kernel_rfl) (by kernel_rfl) h
def agf:Ann:=⟨[(6,[1,2,6,7])],[(3,some false::some false::some true::rF 3 []),(7,rF 11 (some true::rF 5 []))],[]⟩
def IQ:=jF Tryz.prog Tryz.f35 45 agf 0
def agh(C:ak)(a0 a1:AV)(H:ah):OA:=
 bnd (iC 31 a0 H) λv2 H=>
 bnd (lda 8 v2 H) λv8 H=> bnd (C 76 [v8] H) λv9 H=> bo (un .not v9) λv10=> gdA (some v10) false (lda 8 v2 H) H λv12 H=> gl v10 false (some a1) H λv13 H=> gdA (some v10) false (C 77 [v12,v13] H) H λv14 H=> gl v10 false (un .not v14) H λv15 H=> bo (bQ v10 (B true) v15) λv16=>
 bF v16
 (some (.tup [(.s (Go.Value.pointer none)),(B false)],H))
 (bnd (lda 8 v2 H) λv17 H=> bnd (lda 8 v2 H) λv18 H=> bnd (unG H (C 78 [v18] H.guard)) λv19 H=> bo (bd 157 [(0,v17),(1,v19)]) λv20=> bnd (iC 157 v20 H) λv21 H=>
  IQ C [a1,v2,v21,(I 0)] H)
theorem VK(C:ak)(t1 t2 t6 t7:AV)(H:ah):IQ C [t1,t2,t6,t7] H=
 fld t2 0 H λv24 H=> bo (bi .lss 3 t7 v24) λv25=>
 bF v25
 (bo (aU t6) λv30=> fld v30 9 H λv32 H=> bnd (lda 8 t2 H) λv33 H=> bnd (ix 1 t1 t7 H) λv37 H=> bnd (ld v37 H) λv38 H=> bnd (unG H (C 79 [v33,t7,v38] H.guard)) λv39 H=> bnd (bs 155 1 [(0,v39)] H) λv40 H=> bnd (app 158 1 8 v32 v40 H) λv41 H=> bo (aU t6) λv42=> bo (aN v42 9) λv43=> bnd (st 1 v43 v41 H) λ_ H=>
  bo (bi .add 3 t7 (I 1)) λv27=>
  IQ C [t1,t2,t6,v27] H)
 (some (.tup [t6,(B true)],H)):=
 lpE.trans (by kernel_rfl)
theorem ajv:Rn2 35 agh:=λ_ _ _ _ _ h=>
 rnG agf Tryz.func35 (by kernel_rfl) (by kernel_rfl) h
def VL(C:ak)(a0:AV)(H:ah):OA:=
 bo (bi .eql 22 a0 (.s (Go.Value.slice none 0 0))) λv4=>
 bF v4
 (some ((.s (Go.Value.slice none 0 0)),H))
 (bnd (bs 22 0 [] H) λv5 H=> bnd (app 3 1 8 v5 a0 H) λv7 H=>
  some (v7,H))
theorem YR:Rn1 36 VL:=λ_ _ _ _ h=>
 rnG an0 Tryz.func36 (by kernel_rfl) (by kernel_rfl) h
def ade(C:ak)(a0 a1:AV)(H:ah):OA:=
 bo (bi .geq 3 a1 (I 0)) λv6=> gl v6 true (some a1) H λv8 H=> gl v6 true (some a0) H λv9 H=> gdA (some v6) true (C 9 [v9] H) H λv10 H=> gl v6 true (fl v10 1) H λv11 H=> gl v6 true (bi .lss 3 v8 v11) H λv12 H=> bo (bQ v6 v12 (B false)) λv13=>
 some (v13,H)
theorem ajw:Rn2 37 ade:=λ_ _ _ _ _ h=>
 rnG an0 Tryz.func37 (by kernel_rfl) (by kernel_rfl) h
def agi(C:ak)(a0 a1:AV)(H:ah):OA:=
 bnd (alc 95 [zI,zI,zN] H) λv4 H=>
 bnd (C 9 [a0] H) λv10 H=> bnd (C 42 [v10,a1] H) λv12 H=> bnd (C 25 [a0,v12] H) λv13 H=> bnd (C 80 [v13,a1] H) λv15 H=> bo (aX v15 0) λv16=> bo (aX v15 1) λv17=> bnd (alc 95 [zI,zI,zN] H) λv5 H=> bnd (st 3 v5 v16 H) λ_ H=>
 bnd (lda 3 v5 H) λv18 H=> bnd (st 3 v4 v18 H) λ_ H=>
 bnd (lda 3 v4 H) λr0 _=> some (r0,H)
theorem ajx:Rn2 38 agi:=λ_ _ _ _ _ h=>
 rnG an0 Tryz.func38 (by kernel_rfl) (by kernel_rfl) h
def adf(C:ak)(a0 a1 a2:AV)(H:ah):OA:=
 bnd (alc 100 [zI,zI,zI,zI,zB,zN] H) λv6 H=>
 bnd (C 25 [a0,a1] H) λv11 H=>
 bo (bi .eql 64 v11 (.s (Go.Value.pointer none))) λv13=>
 bF v13
 (bo (bd 100 []) λv14=> bnd (st 6 v6 v14 H) λ_ H=>
  bnd (lda 6 v6 H) λr0 _=> some (.tup [r0,(B false)],H))
 (bo (aU v11) λv16=> fld v16 0 H λv18 H=> bnd (C 41 [v18,a2] H) λv20 H=> bo (aX v20 0) λv21=> bo (aX v20 1) λv22=> bnd (st 6 v6 v21 H) λ_ H=>
  bnd (lda 6 v6 H) λr0 _=> some (.tup [r0,v22],H))
theorem ajy:Rn3 39 adf:=λ_ _ _ _ _ _ h=>
 rnG an0 Tryz.func39 (by kernel_rfl) (by kernel_rfl) h
def adg(C:ak)(a0 a1:AV)(H:ah):OA:=
 bnd (C 81 [a0,a1] H) λv7 H=> bo (bi .geq 3 v7 (I 0)) λv8=>
 some (v8,H)
theorem ajz:Rn2 40 adg:=λ_ _ _ _ _ h=>
 rnG an0 Tryz.func40 (by kernel_rfl) (by kernel_rfl) h
def adh(C:ak)(a0 a1:AV)(H:ah):OA:=
 bnd (alc 100 [zI,zI,zI,zI,zB,zN] H) λv4 H=>
 bnd (C 82 [a0,a1] H) λv9 H=>
 bo (bi .lss 3 v9 (I 0)) λv11=>
 bF v11
 (bo (bd 100 []) λv12=> bnd (st 6 v4 v12 H) λ_ H=>
  bnd (lda 6 v4 H) λr0 _=> some (.tup [r0,(B false)],H))
 (bo (aU a0) λv14=> fld v14 0 H λv16 H=> bnd (ix 6 v16 v9 H) λv18 H=> bnd (lda 6 v18 H) λv19 H=> bnd (C 83 [v19] H) λv20 H=> bnd (st 6 v4 v20 H) λ_ H=>
  bnd (lda 6 v4 H) λr0 _=> some (.tup [r0,(B true)],H))
theorem ajA:Rn2 41 adh:=λ_ _ _ _ _ h=>
 rnG an0 Tryz.func41 (by kernel_rfl) (by kernel_rfl) h
def agj(C:ak)(a0 a1:AV)(H:ah):OA:=
 bnd (iC 31 a0 H) λv2 H=>
 fld v2 0 H λv7 H=> bnd (C 84 [a1,v7] H) λv8 H=>
 some (v8,H)
theorem ajB:Rn2 42 agj:=λ_ _ _ _ _ h=>
 rnG an0 Tryz.func42 (by kernel_rfl) (by kernel_rfl) h
def agk(C:ak)(a0 a1:AV)(H:ah):OA:=
 bo (aU a0) λv6=> bo (aN v6 11) λv7=> fld v7 0 H λv9 H=> bo (aU v9) λv10=> fld v10 1 H λv12 H=> bnd (C 85 [v12,a1] H) λv14 H=>
 some (v14,H)
theorem ajC:Rn2 43 agk:=λ_ _ _ _ _ h=>
 rnG an0 Tryz.func43 (by kernel_rfl) (by kernel_rfl) h
def agl:Ann:=⟨[(5,[0,1,12,13])],[(6,rF 9 [])],[]⟩
def DW:=jF Tryz.prog Tryz.f44 26 agl 0
def adi(C:ak)(a0 a1:AV)(H:ah):OA:=
 bnd (lnS a0 H) λv7 H=> bnd (lnS a1 H) λv9 H=> bo (bi .neq 3 v7 v9) λv10=>
 bF v10
 (some ((B false),H))
 (bnd (lnS a0 H) λv12 H=>
  DW C [a0,a1,v12,(I 0)] H)
theorem Ol(C:ak)(t0 t1 t12 t13:AV)(H:ah):DW C [t0,t1,t12,t13] H=
 bo (bi .lss 3 t13 t12) λv14=>
 bF v14
 (bnd (ix 1 t0 t13 H) λv18 H=> bnd (ld v18 H) λv19 H=> bnd (ix 1 t1 t13 H) λv22 H=> bnd (ld v22 H) λv23 H=> bo (bi .neq 3 v19 v23) λv24=>
  bF v24
  (some ((B false),H))
  (bo (bi .add 3 t13 (I 1)) λv25=>
  DW C [t0,t1,t12,v25] H))
 (some ((B true),H)):=
 lpE.trans (by kernel_rfl)
theorem ajD:Rn2 44 adi:=λ_ _ _ _ _ h=>
 rnG agl Tryz.func44 (by kernel_rfl) (by kernel_rfl) h
def agm(C:ak)(a0:AV)(H:ah):OA:=
 bnd (iC 22 a0 H) λv1 H=>
 some ((.fn (.func 87) [] [v1]),H)
theorem ajE:Rn1 46 agm:=λ_ _ _ _ h=>
 rnG an0 Tryz.func46 (by kernel_rfl) (by kernel_rfl) h
def Om(C:ak)(a0 a1:AV)(H:ah):OA:=
 bnd (iC 95 a0 H) λv2 H=>
 fld v2 0 H λv6 H=>
 bo (bi .eql 3 v6 (I 0)) λv8=>
 bF v8
 (bnd (lnS a1 H) λv10 H=> bo (bi .eql 3 v10 (I 0)) λv11=>
  some (v11,H))
 (bo (bi .eql 3 v6 (I 1)) λv13=>
  bF v13
  (bnd (lnS a1 H) λv15 H=> bo (bi .gtr 3 v15 (I 0)) λv16=> gl v16 true (some a1) H λv18 H=> gl v16 true (some (.fn (.func 89) [] [v2])) H λv19 H=> gdA (some v16) true (C 88 [v18,v19] H) H λv20 H=> gl v16 true (un .not v20) H λv21 H=> bo (bQ v16 v21 (B false)) λv22=>
  some (v22,H))
  (bnd (lnS a1 H) λv24 H=> bo (bi .eql 3 v24 (I 1)) λv25=> gl v25 true (some a1) H λv27 H=> gdA (some v25) true (ix 6 v27 (I 0) H) H λv28 H=> gl v25 true (aN v28 4) H λv29 H=> gdA (some v25) true (ld v29 H) H λv30 H=> bo (bQ v25 v30 (B false)) λv31=>
  some (v31,H)))
theorem ajF:Rn2 47 Om:=λ_ _ _ _ _ h=>
 rnG an0 Tryz.func47 (by kernel_rfl) (by kernel_rfl) h
def IU(C:ak)(t5:AV)(H:ah):OA:=
 some (t5,H)
def YS(C:ak)(a0 a1:AV)(H:ah):OA:=
 bo (bi .lss 3 a1 (I 1)) λv7=>
 bF v7
 (some ((I 0),H))
 (bo (bi .rem 3 a0 a1) λv10=>
  bo (bi .lss 3 v10 (I 0)) λv12=>
  bF v12
  (bo (bi .add 3 v10 a1) λv15=>
  IU C v15 H)
  (IU C v10 H))
theorem ajG:Rn2 50 YS:=λ_ _ _ _ _ h=>
 rnG an0 Tryz.func50 (by kernel_rfl) (by kernel_rfl) h
def YT(C:ak)(a0 a1:AV)(H:ah):OA:=
 bnd (iC 25 a0 H) λv2 H=> bnd (iC 3 a1 H) λv3 H=>
 bnd (ld v2 H) λv7 H=> bnd (ld v3 H) λv8 H=> bnd (C 11 [v7,v8] H) λv9 H=>
 bnd (C 99 [v9,(.fn (.func 100) [] [v2,v3])] H) λv12 H=>
 bo (un .not v12) λv14=> gl v14 false (some v9) H λv16 H=> gdA (some v14) false (lnS v16 H) H λv17 H=> gl v14 false (bi .eql 3 v17 (I 1)) H λv18 H=> bo (bQ v14 (B true) v18) λv19=>
 some (v19,H)
theorem ajH:Rn2 53 YT:=λ_ _ _ _ _ h=>
 rnG an0 Tryz.func53 (by kernel_rfl) (by kernel_rfl) h
def agn(C:ak)(a0 a1 a2:AV)(H:ah):OA:=
 bnd (iC 31 a0 H) λv3 H=>
 bnd (lda 8 v3 H) λv10 H=> bnd (C 101 [v10,a1,a2] H) λv13 H=> bo (aX v13 0) λv14=> bo (aX v13 1) λv15=>
 some (v15,H)
theorem ajI:Rn3 54 agn:=λ_ _ _ _ _ _ h=>
 rnG an0 Tryz.func54 (by kernel_rfl) (by kernel_rfl) h
def agp(C:ak)(a0:AV)(H:ah):OA:=
 bo (aU a0) λv4=> fld v4 0 H λv6 H=> bnd (C 102 [v6] H) λv7 H=>
 some (v7,H)
theorem ajJ:Rn1 55 agp:=λ_ _ _ _ h=>
 rnG an0 Tryz.func55 (by kernel_rfl) (by kernel_rfl) h
def agq(C:ak)(a0 a1 a2:AV)(H:ah):OA:=
 bnd (iC 31 a0 H) λv3 H=>
 bnd (lda 8 v3 H) λv10 H=> bnd (C 101 [v10,a1,a2] H) λv13 H=> bo (aX v13 0) λv14=> bo (aX v13 1) λv15=>
 bo (un .not v15) λv17=>
 bF v17
 (some ((.s (Go.Value.slice none 0 0)),H))
 (bnd (C 103 [v14] H) λv19 H=>
  some (v19,H))
theorem ajK:Rn3 56 agq:=λ_ _ _ _ _ _ h=>
 rnG an0 Tryz.func56 (by kernel_rfl) (by kernel_rfl) h
def ags(C:ak)(a0:AV)(H:ah):OA:=
 bnd (iC 31 a0 H) λv1 H=>
 fld v1 1 H λv4 H=> fld v1 2 H λv6 H=> bo (bi .mul 3 v4 v6) λv7=>
 some (v7,H)
theorem ajL:Rn1 57 ags:=λ_ _ _ _ h=>
 rnG an0 Tryz.func57 (by kernel_rfl) (by kernel_rfl) h
def agt:Ann:=⟨[(3,[0,1,2,14,15,16])],[],[]⟩
def DY:=jF Tryz.prog Tryz.f58 51 agt 0
def agu(C:ak)(a0 a1 a2:AV)(H:ah):OA:=
 bnd (C 11 [a0,a1] H) λv14 H=> bnd (lnS v14 H) λv15 H=>
 DY C [a0,a1,a2,v14,v15,(I 0)] H
theorem VN(C:ak)(t0 t1 t2 t14 t15 t16:AV)(H:ah):DY C [t0,t1,t2,t14,t15,t16] H=
 bo (bi .lss 3 t16 t15) λv17=>
 bF v17
 (bnd (ix 1 t14 t16 H) λv18 H=> bnd (ld v18 H) λv19 H=>
  bnd (C 39 [t0,v19,t1] H) λv24 H=> bo (aX v24 0) λv25=> bo (aX v24 1) λv26=> bnd (alc 100 [zI,zI,zI,zI,zB,zN] H) λv9 H=> bnd (st 6 v9 v25 H) λ_ H=>
  fld v9 5 H λv28 H=> bnd (C 44 [v28,t2] H) λv30 H=> bo (un .not v30) λv31=>
  bF v31
  (some ((B false),H))
  (bo (bi .add 3 t16 (I 1)) λv32=>
  DY C [t0,t1,t2,t14,t15,v32] H))
 (bnd (C 38 [t0,t1] H) λv35 H=> bnd (alc 95 [zI,zI,zN] H) λv11 H=> bnd (st 3 v11 v35 H) λ_ H=>
  fld v11 0 H λv37 H=> bo (bi .eql 3 v37 (I 2)) λv38=> gl v38 false (some t0) H λv40 H=> gl v38 false (some t1) H λv41 H=> gdA (some v38) false (C 12 [v40,v41] H) H λv42 H=> gl v38 false (bi .neq 3 v42 (I (-1))) H λv43 H=> bo (bQ v38 (B true) v43) λv44=> gl v44 false (aN v11 2) H λv46 H=> gdA (some v44) false (ld v46 H) H λv47 H=> gl v44 false (some t2) H λv48 H=> gdA (some v44) false (C 44 [v47,v48] H) H λv49 H=> bo (bQ v44 (B true) v49) λv50=>
  some (v50,H)):=
 lpE.trans (by kernel_rfl)
theorem ajM:Rn3 58 agu:=λ_ _ _ _ _ _ h=>
 rnG agt Tryz.func58 (by kernel_rfl) (by kernel_rfl) h
def agv(C:ak)(a0:AV)(H:ah):OA:=
 bnd (iC 31 a0 H) λv1 H=>
 fld v1 0 H λv7 H=> bnd (C 104 [v7,(I 6)] H) λv8 H=> gl v8 true (aN v1 1) H λv10 H=> gdA (some v8) true (ld v10 H) H λv11 H=> gdA (some v8) true (C 104 [v11,(I 8)] H) H λv12 H=> bo (bQ v8 v12 (B false)) λv13=> gl v13 true (aN v1 2) H λv15 H=> gdA (some v13) true (ld v15 H) H λv16 H=> gdA (some v13) true (C 104 [v16,(I 4)] H) H λv17 H=> bo (bQ v13 v17 (B false)) λv18=>
 fld v1 3 H λv20 H=> bnd (C 104 [v20,(I 4)] H) λv21 H=> gl v21 true (aN v1 4) H λv23 H=> gdA (some v21) true (ld v23 H) H λv24 H=> gdA (some v21) true (C 104 [v24,(I 3)] H) H λv25 H=> bo (bQ v21 v25 (B false)) λv26=>
 fld v1 5 H λv28 H=> bnd (C 104 [v28,(I 8)] H) λv29 H=> gl v29 true (aN v1 6) H λv31 H=> gdA (some v29) true (ld v31 H) H λv32 H=> gdA (some v29) true (C 104 [v32,(I 8)] H) H λv33 H=> bo (bQ v29 v33 (B false)) λv34=>
 bo (un .not v18) λv36=> gl v36 false (some v26) H λv38 H=> gl v36 false (un .not v38) H λv39 H=> bo (bQ v36 (B true) v39) λv40=> gl v40 false (some v34) H λv42 H=> gl v40 false (un .not v42) H λv43 H=> bo (bQ v40 (B true) v43) λv44=> gl v44 false (aN v1 7) H λv46 H=> gdA (some v44) false (ld v46 H) H λv47 H=> gdA (some v44) false (lnS v47 H) H λv48 H=> gl v44 false (aN v1 1) H λv49 H=> gdA (some v44) false (ld v49 H) H λv50 H=> gl v44 false (aN v1 2) H λv51 H=> gdA (some v44) false (ld v51 H) H λv52 H=> gl v44 false (bi .mul 3 v50 v52) H λv53 H=> gl v44 false (bi .gtr 3 v48 v53) H λv54 H=> bo (bQ v44 (B true) v54) λv55=>
 bF v55
 (some ((I 1),H))
 (some ((I 0),H))
theorem ajN:Rn1 59 agv:=λ_ _ _ _ h=>
 rnG an0 Tryz.func59 (by kernel_rfl) (by kernel_rfl) h
def YU(C:ak)(a0 a1:AV)(H:ah):OA:=
 bnd (iC 31 a0 H) λv2 H=>
 bnd (C 105 [a1,(.fn (.func 106) [] [v2])] H) λv8 H=>
 gl v8 false (some a1) H λv11 H=> gdA (some v8) false (lnS v11 H) H λv12 H=> gl v8 false (aN v2 0) H λv13 H=> gdA (some v8) false (ld v13 H) H λv14 H=> gl v8 false (bi .neq 3 v12 v14) H λv15 H=> bo (bQ v8 (B true) v15) λv16=>
 bF v16
 (some ((I 1),H))
 (some ((I 0),H))
theorem ajO:Rn2 60 YU:=λ_ _ _ _ _ h=>
 rnG an0 Tryz.func60 (by kernel_rfl) (by kernel_rfl) h
def agw:Ann:=⟨[(4,[1,3,7,8])],[(4,rF 7 (some true::some false::some false::some true::rF 3 (some true::some true::rF 7 [])))],[]⟩
def IV:=jF Tryz.prog Tryz.f61 34 agw 0
def agx(C:ak)(a0:AV)(H:ah):OA:=
 bnd (iC 31 a0 H) λv1 H=>
 bo (bd 145 []) λv4=> bnd (iC 145 v4 H) λv5 H=>
 fld v1 0 H λv7 H=>
 IV C [v1,v5,v7,(I 0)] H
theorem VO(C:ak)(t1 t3 t7 t8:AV)(H:ah):IV C [t1,t3,t7,t8] H=
 bo (bi .lss 3 t8 t7) λv9=>
 bF v9
 (bo (aU t3) λv12=> fld v12 0 H λv14 H=> fld t1 5 H λv16 H=> bnd (unG H (C 110 [v16] H.guard)) λv17 H=> fld t1 6 H λv19 H=> bnd (unG H (C 111 [v19] H.guard)) λv20 H=> bo (bd 121 [(0,v17),(1,v20)]) λv21=> fld t1 5 H λv23 H=> bnd (unG H (C 110 [v23] H.guard)) λv24 H=> bnd (unG H (C 111 [(I 1)] H.guard)) λv25 H=> bo (bd 121 [(0,v24),(1,v25)]) λv26=> bo (bd 142 [(0,v21),(1,v26)]) λv27=> bnd (bs 143 1 [(0,v27)] H) λv28 H=> bnd (app 142 4 32 v14 v28 H) λv29 H=> bo (aU t3) λv30=> bo (aN v30 0) λv31=> bnd (st 1 v31 v29 H) λ_ H=>
  bo (bi .add 3 t8 (I 1)) λv32=>
  IV C [t1,t3,t7,v32] H)
 (some (t3,H)):=
 lpE.trans (by kernel_rfl)
theorem ajP:Rn1 61 agx:=λ_ _ _ _ h=>
 rnG agw Tryz.func61 (by kernel_rfl) (by kernel_rfl) h
def agy(C:ak)(H:ah):OA:=
 bo (bd 186 []) λv1=> bnd (iC 186 v1 H) λv2 H=>
 some (v2,H)
theorem ajQ:Rn0 62 agy:=λ_ _ _ h=>
 rnG an0 Tryz.func62 (by kernel_rfl) (by kernel_rfl) h
def ajR:Ann:=⟨[],[(1,rF 4 (some true::some false::some true::rF 4 (some true::rF 4 [])))],[]⟩
def agz(C:ak)(a0 a1 a2:AV)(H:ah):OA:=
 bnd (iC 31 a0 H) λv3 H=>
 fld v3 3 H λv8 H=> fld v3 4 H λv10 H=> bnd (unG H (C 112 [v8,v10] H.guard)) λv11 H=> bnd (unG H (C 113 [a2] H.guard)) λv13 H=> bnd (lda 8 v3 H) λv14 H=> bnd (lda 8 v3 H) λv16 H=> bnd (unG H (C 114 [v16,a1] H.guard)) λv18 H=> bo (bd 71 [(0,v18)]) λv19=> bo (bd 75 [(0,v11),(1,v13),(2,v14),(3,a1),(4,v19)]) λv20=> bnd (iC 75 v20 H) λv21 H=>
 some (v21,H)
theorem ajS:Rn3 63 agz:=λ_ _ _ _ _ _ h=>
 rnG ajR Tryz.func63 (by kernel_rfl) (by kernel_rfl) h
def ajT:Ann:=⟨[],[(1,rF 12 [])],[]⟩
def agB(C:ak)(a0:AV)(H:ah):OA:=
 bo (aU a0) λv4=> fld v4 0 H λv6 H=> bnd (lnS v6 H) λv7 H=> bo (aU a0) λv9=> fld v9 1 H λv11 H=> bnd (lnS v11 H) λv12 H=> bo (bi .sub 3 v7 v12) λv13=>
 some (v13,H)
theorem ajU:Rn1 66 agB:=λ_ _ _ _ h=>
 rnG ajT Tryz.func66 (by kernel_rfl) (by kernel_rfl) h
def adk(C:ak)(a0 a1:AV)(H:ah):OA:=
 bo (bi .geq 3 a1 (I 0)) λv6=> gl v6 true (some a1) H λv8 H=> gl v6 true (some a0) H λv9 H=> gl v6 true (aU v9) H λv10 H=> gl v6 true (aN v10 0) H λv11 H=> gdA (some v6) true (ld v11 H) H λv12 H=> gdA (some v6) true (lnS v12 H) H λv13 H=> gl v6 true (bi .lss 3 v8 v13) H λv14 H=> bo (bQ v6 v14 (B false)) λv15=>
 some (v15,H)
theorem ajV:Rn2 71 adk:=λ_ _ _ _ _ h=>
 rnG an0 Tryz.func71 (by kernel_rfl) (by kernel_rfl) h
def agC(C:ak)(a0 a1:AV)(H:ah):OA:=
 bnd (lnS a0 H) λv7 H=> bnd (dV (jm Tryz.prog false #[3,3] 3 [v7,a1]) H) λv9 H=> bo (slS 1 a0 none (some v9) none) λv10=> bnd (C 119 [v10] H) λv11 H=>
 some (v11,H)
theorem ajW:Rn2 74 agC:=λ_ _ _ _ _ h=>
 rnG an0 Tryz.func74 (by kernel_rfl) (by kernel_rfl) h
def adl(C:ak)(a0 a1:AV)(H:ah):OA:=
 bnd (lnS a0 H) λv7 H=> bo (bi .lss 3 a1 v7) λv8=>
 bF v8
 (bnd (ix 1 a0 a1 H) λv11 H=> bnd (ld v11 H) λv12 H=>
  some (v12,H))
 (some ((I 0),H))
theorem ajX:Rn2 75 adl:=λ_ _ _ _ _ h=>
 rnG an0 Tryz.func75 (by kernel_rfl) (by kernel_rfl) h
def IW(C:ak)(a0:AV)(H:ah):OA:=
 bnd (iC 31 a0 H) λv1 H=>
 fld v1 0 H λv4 H=> bnd (C 120 [v4,(I 6)] H) λv5 H=> gl v5 true (aN v1 1) H λv7 H=> gdA (some v5) true (ld v7 H) H λv8 H=> gdA (some v5) true (C 120 [v8,(I 8)] H) H λv9 H=> bo (bQ v5 v9 (B false)) λv10=> gl v10 true (aN v1 2) H λv12 H=> gdA (some v10) true (ld v12 H) H λv13 H=> gdA (some v10) true (C 120 [v13,(I 4)] H) H λv14 H=> bo (bQ v10 v14 (B false)) λv15=> gl v15 true (aN v1 3) H λv17 H=> gdA (some v15) true (ld v17 H) H λv18 H=> gdA (some v15) true (C 120 [v18,(I 4)] H) H λv19 H=> bo (bQ v15 v19 (B false)) λv20=> gl v20 true (aN v1 4) H λv22 H=> gdA (some v20) true (ld v22 H) H λv23 H=> gdA (some v20) true (C 120 [v23,(I 3)] H) H λv24 H=> bo (bQ v20 v24 (B false)) λv25=> gl v25 true (aN v1 5) H λv27 H=> gdA (some v25) true (ld v27 H) H λv28 H=> gdA (some v25) true (C 120 [v28,(I 8)] H) H λv29 H=> bo (bQ v25 v29 (B false)) λv30=> gl v30 true (aN v1 6) H λv32 H=> gdA (some v30) true (ld v32 H) H λv33 H=> gdA (some v30) true (C 120 [v33,(I 8)] H) H λv34 H=> bo (bQ v30 v34 (B false)) λv35=> gl v35 true (aN v1 7) H λv37 H=> gdA (some v35) true (ld v37 H) H λv38 H=> gdA (some v35) true (lnS v38 H) H λv39 H=> gl v35 true (aN v1 1) H λv40 H=> gdA (some v35) true (ld v40 H) H λv41 H=> gl v35 true (aN v1 2) H λv42 H=> gdA (some v35) true (ld v42 H) H λv43 H=> gl v35 true (bi .mul 3 v41 v43) H λv44 H=> gl v35 true (bi .leq 3 v39 v44) H λv45 H=> bo (bQ v35 v45 (B false)) λv46=>
 some (v46,H)
theorem ajY:Rn1 76 IW:=λ_ _ _ _ h=>
 rnG an0 Tryz.func76 (by kernel_rfl) (by kernel_rfl) h
def adn:Ann:=⟨[(5,[2,14,15,16]),(10,[2,14,15,16,23,24,25])],[],[]⟩
def yX:=jF Tryz.prog Tryz.f77 35 adn 0
def sZ:=jF Tryz.prog Tryz.f77 35 adn 1
def ado(C:ak)(a0 a1:AV)(H:ah):OA:=
 bnd (iC 31 a0 H) λv2 H=>
 bnd (lnS a1 H) λv10 H=> fld v2 0 H λv12 H=> bo (bi .neq 3 v10 v12) λv13=>
 bF v13
 (some ((B false),H))
 (bnd (lnS a1 H) λv15 H=>
  yX C [v2,a1,v15,(I 0)] H)
theorem IX(C:ak)(t2 t14 t15 t16:AV)(H:ah):yX C [t2,t14,t15,t16] H=
 bo (bi .lss 3 t16 t15) λv17=>
 bF v17
 (bnd (ix 1 t14 t16 H) λv18 H=> bnd (ld v18 H) λv19 H=>
  bnd (lnS v19 H) λv21 H=> bo (bi .gtr 3 v21 (I 24)) λv22=>
  bF v22
  (some ((B false),H))
  (bnd (lnS v19 H) λv24 H=>
  sZ C [t2,t14,t15,t16,v19,v24,(I 0)] H))
 (some ((B true),H)):=
 lpE.trans (by kernel_rfl)
theorem Oo(C:ak)(t2 t14 t15 t16 t23 t24 t25:AV)(H:ah):sZ C [t2,t14,t15,t16,t23,t24,t25] H=
 bo (bi .lss 3 t25 t24) λv26=>
 bF v26
 (bnd (ix 3 t23 t25 H) λv27 H=> bnd (lda 3 v27 H) λv28 H=> bnd (alc 61 [zI,zI,zI] H) λv8 H=> bnd (st 3 v8 v28 H) λ_ H=>
  bnd (lda 8 t2 H) λv29 H=> bnd (lda 3 v8 H) λv30 H=> bnd (C 121 [v29,v30] H) λv31 H=> bo (un .not v31) λv32=>
  bF v32
  (some ((B false),H))
  (bo (bi .add 3 t25 (I 1)) λv33=>
  sZ C [t2,t14,t15,t16,t23,t24,v33] H))
 (bo (bi .add 3 t16 (I 1)) λv34=>
  yX C [t2,t14,t15,v34] H):=
 lpE.trans (by kernel_rfl)
theorem ajZ:Rn2 77 ado:=λ_ _ _ _ _ h=>
 rnG adn Tryz.func77 (by kernel_rfl) (by kernel_rfl) h
def aj0:Ann:=⟨[],[(1,rF 7 [])],[]⟩
def agD(C:ak)(a0:AV)(H:ah):OA:=
 bnd (iC 31 a0 H) λv1 H=>
 bnd (lda 8 v1 H) λv3 H=> fld v1 0 H λv5 H=> bnd (mks 350 4 96 [zN,zN,zN,zN] v5 v5 H) λv6 H=> bo (bd 206 [(0,v3),(1,v6)]) λv7=> bnd (iC 206 v7 H) λv8 H=>
 some (v8,H)
theorem aj1:Rn1 78 agD:=λ_ _ _ _ h=>
 rnG aj0 Tryz.func78 (by kernel_rfl) (by kernel_rfl) h
def aj2:Ann:=⟨[],[(1,rF 6 (some true::some false::some false::some true::rF 5 []))],[(1,[(0,11)])]⟩
def agE(C:ak)(a0 a1 a2:AV)(H:ah):OA:=
 bnd (iC 31 a0 H) λv3 H=>
 bnd (lda 8 v3 H) λv7 H0=> fld v3 3 H0 λv10 H3=> fld v3 4 H3 λv12 H5=> bnd (unG H5 (C 122 [v10,v12] H5.guard)) λv13 H6=> bnd (lda 8 v3 H6) λv14 H7=> bnd (unG H7 (C 123 [v14,a1] H7.guard)) λv16 H9=> bnd (app 61 3 24 (.s (Go.Value.slice none 0 0)) a2 H9) λv18 H11=> bo (bd 213 [(0,v7),(1,a1),(2,v13),(3,v16),(4,v18)]) λv19=> bnd (iC 213 v19 H11) λv20 H13=> ck (dO v3) H9 H11 <|
 some (v20,H13)
theorem aj3:Rn3 79 agE:=λ_ _ _ _ _ _ h=>
 rnG aj2 Tryz.func79 (by kernel_rfl) (by kernel_rfl) h
def agF(C:ak)(a0 a1:AV)(H:ah):OA:=
 bnd (alc 95 [zI,zI,zN] H) λv4 H=>
 bo (aU a0) λv7=> bo (aN v7 11) λv8=> fld v8 0 H λv10 H=> bo (aU v10) λv11=> fld v11 0 H λv13 H=> bnd (C 124 [v13,a1] H) λv15 H=> bo (aX v15 0) λv16=> bo (aX v15 1) λv17=> bnd (st 3 v4 v16 H) λ_ H=>
 bnd (lda 3 v4 H) λr0 _=> some (.tup [r0,v17],H)
theorem aj6:Rn2 80 agF:=λ_ _ _ _ _ h=>
 rnG an0 Tryz.func80 (by kernel_rfl) (by kernel_rfl) h
def agG:Ann:=⟨[(3,[0,1,7,8])],[],[]⟩
def DZ:=jF Tryz.prog Tryz.f81 19 agG 0
def agH(C:ak)(a0 a1:AV)(H:ah):OA:=
 bnd (lnS a0 H) λv7 H=>
 DZ C [a0,a1,v7,(I 0)] H
theorem Oq(C:ak)(t0 t1 t7 t8:AV)(H:ah):DZ C [t0,t1,t7,t8] H=
 bo (bi .lss 3 t8 t7) λv9=>
 bF v9
 (bnd (ix 1 t0 t8 H) λv14 H=> bnd (ld v14 H) λv15 H=> bo (bi .eql 3 t1 v15) λv16=>
  bF v16
  (some (t8,H))
  (bo (bi .add 3 t8 (I 1)) λv18=>
  DZ C [t0,t1,t7,v18] H))
 (some ((I (-1)),H)):=
 lpE.trans (by kernel_rfl)
theorem aj7:Rn2 81 agH:=λ_ _ _ _ _ h=>
 rnG agG Tryz.func81 (by kernel_rfl) (by kernel_rfl) h
def agI(C:ak)(a0 a1:AV)(H:ah):OA:=
 bnd (iC 3 a1 H) λv3 H=>
 bo (aU a0) λv6=> fld v6 0 H λv8 H=> bnd (C 125 [v8,(.fn (.func 126) [] [v3])] H) λv10 H=>
 some (v10,H)
theorem aj8:Rn2 82 agI:=λ_ _ _ _ _ h=>
 rnG an0 Tryz.func82 (by kernel_rfl) (by kernel_rfl) h
def agJ(C:ak)(a0:AV)(H:ah):OA:=
 bnd (iC 100 a0 H) λv1 H=> bnd (alc 100 [zI,zI,zI,zI,zB,zN] H) λv2 H=>
 fld v1 5 H λv4 H=> bnd (C 36 [v4] H) λv5 H=> bo (aN v1 5) λv6=> bnd (st 1 v6 v5 H) λ_ H=>
 bnd (lda 6 v1 H) λv7 H=> bnd (st 6 v2 v7 H) λ_ H=>
 bnd (lda 6 v2 H) λr0 _=> some (r0,H)
theorem aj9:Rn1 83 agJ:=λ_ _ _ _ h=>
 rnG an0 Tryz.func83 (by kernel_rfl) (by kernel_rfl) h
def adp(C:ak)(a0 a1:AV)(H:ah):OA:=
 bo (bi .lss 3 a0 (I 0)) λv6=>
 bF v6
 (some ((I (-1)),H))
 (bo (bi .rem 3 a0 a1) λv9=>
  some (v9,H))
theorem akb:Rn2 84 adp:=λ_ _ _ _ _ h=>
 rnG an0 Tryz.func84 (by kernel_rfl) (by kernel_rfl) h
def adq(C:ak)(a0 a1:AV)(H:ah):OA:=
 bo (aU a0) λv9=> fld v9 0 H λv11 H=> bnd (lk .i64 (.int .i64 0) v11 a1 true H) λv13 H=> bo (aX v13 0) λv14=> bo (aX v13 1) λv15=>
 bF v15
 (some (v14,H))
 (some ((I (-1)),H))
theorem akc:Rn2 85 adq:=λ_ _ _ _ _ h=>
 rnG an0 Tryz.func85 (by kernel_rfl) (by kernel_rfl) h
def adr(C:ak)(a0 a1:AV)(H:ah):OA:=
 bnd (C 125 [a0,a1] H) λv7 H=> bo (bi .geq 3 v7 (I 0)) λv8=>
 some (v8,H)
theorem akd:Rn2 88 adr:=λ_ _ _ _ _ h=>
 rnG an0 Tryz.func88 (by kernel_rfl) (by kernel_rfl) h
def ads(C:ak)(a0 a1:AV)(H:ah):OA:=
 bnd (iC 100 a0 H) λv2 H=>
 fld v2 4 H λv5 H=> gl v5 false (aN v2 5) H λv7 H=> gdA (some v5) false (ld v7 H) H λv8 H=> gl v5 false (aN a1 2) H λv9 H=> gdA (some v5) false (ld v9 H) H λv10 H=> gdA (some v5) false (C 44 [v8,v10] H) H λv11 H=> gl v5 false (un .not v11) H λv12 H=> bo (bQ v5 (B true) v12) λv13=>
 some (v13,H)
theorem ake:Rn2 89 ads:=λ_ _ _ _ _ h=>
 rnG an0 Tryz.func89 (by kernel_rfl) (by kernel_rfl) h
def adt(C:ak)(a0 a1:AV)(H:ah):OA:=
 bnd (iC 142 a0 H) λv2 H=> bnd (alc 121 [zP,zP] H) λv4 H=>
 bF a1
 (bo (aN v2 0) λv6=> bnd (lda 2 v6 H) λv7 H=> bnd (st 2 v4 v7 H) λ_ H=>
  bnd (lda 2 v4 H) λr0 _=> some (r0,H))
 (bo (aN v2 2) λv8=> bnd (lda 2 v8 H) λv9 H=> bnd (st 2 v4 v9 H) λ_ H=>
  bnd (lda 2 v4 H) λr0 _=> some (r0,H))
theorem akf:Rn2 91 adt:=λ_ _ _ _ _ h=>
 rnG an0 Tryz.func91 (by kernel_rfl) (by kernel_rfl) h
def adu(C:ak)(a0:AV)(H:ah):OA:=
 bo (bi .geq 3 a0 (I 1)) λv4=> gl v4 true (some a0) H λv6 H=> gl v4 true (bi .leq 3 v6 (I 6)) H λv7 H=> bo (bQ v4 v7 (B false)) λv8=>
 some (v8,H)
theorem akg:Rn1 92 adu:=λ_ _ _ _ h=>
 rnG an0 Tryz.func92 (by kernel_rfl) (by kernel_rfl) h
def adv(C:ak)(a0 a1:AV)(H:ah):OA:=
 bnd (C 153 [a0,a1] H) λv7 H=> bo (bi .geq 3 v7 (I 0)) λv8=>
 some (v8,H)
theorem akh:Rn2 99 adv:=λ_ _ _ _ _ h=>
 rnG an0 Tryz.func99 (by kernel_rfl) (by kernel_rfl) h
def aa0(C:ak)(a0 a1 a2:AV)(H:ah):OA:=
 bnd (ld a1 H) λv8 H=> bnd (ld a2 H) λv10 H=> bnd (C 39 [v8,a0,v10] H) λv11 H=> bo (aX v11 0) λv12=> bo (aX v11 1) λv13=> bnd (alc 100 [zI,zI,zI,zI,zB,zN] H) λv5 H=> bnd (st 6 v5 v12 H) λ_ H=>
 fld v5 4 H λv15 H=>
 some (v15,H)
theorem agK:Rn3 100 aa0:=λ_ _ _ _ _ _ h=>
 rnG an0 Tryz.func100 (by kernel_rfl) (by kernel_rfl) h
def aa1:Ann:=⟨[(6,[1,8,26,27,28])],[(7,rF 9 []),(10,rF 16 [])],[]⟩
def AY:=jF Tryz.prog Tryz.f101 68 aa1 0
def Qx(C:ak)(t1 t8 t26 t27 t28:AV)(H:ah):OA:=
 bo (bi .add 3 t28 (I 1)) λv66=>
 AY C [t1,t8,t26,t27,v66] H
def aa2(C:ak)(a0 a1 a2:AV)(H:ah):OA:=
 bnd (iC 31 a0 H) λv3 H=>
 bnd (lda 8 v3 H) λv13 H=> bnd (C 60 [v13,a1] H) λv15 H=> bo (bi .neq 57 v15 (I 0)) λv16=> gl v16 false (aN v3 0) H λv18 H=> gdA (some v16) false (ld v18 H) H λv19 H=> gl v16 false (some a2) H λv20 H=> gdA (some v16) false (C 154 [v19,v20] H) H λv21 H=> gl v16 false (un .not v21) H λv22 H=> bo (bQ v16 (B true) v22) λv23=>
 bF v23
 (some (.tup [(.s (Go.Value.pointer none)),(B false)],H))
 (bnd (lda 8 v3 H) λv24 H=> bnd (C 155 [v24] H) λv25 H=>
  bnd (lnS a2 H) λv27 H=>
  AY C [a1,v25,a2,v27,(I 0)] H)
theorem YV(C:ak)(t1 t8 t26 t27 t28:AV)(H:ah):AY C [t1,t8,t26,t27,t28] H=
 bo (bi .lss 3 t28 t27) λv29=>
 bF v29
 (bnd (ix 4 t26 t28 H) λv30 H=> bnd (lda 4 v30 H) λv31 H=> bnd (alc 184 [zI,zI,zB,zI] H) λv10 H=> bnd (st 4 v10 v31 H) λ_ H=>
  fld v10 1 H λv33 H=> fld v10 0 H λv36 H=> bnd (ix 1 t1 v36 H) λv37 H=> bnd (ld v37 H) λv38 H=> bnd (lnS v38 H) λv39 H=> bo (bi .geq 3 v33 v39) λv40=>
  bF v40
  (some (.tup [(.s (Go.Value.pointer none)),(B false)],H))
  (fld v10 2 H λv42 H=> bo (un .not v42) λv43=>
  bF v43
  (Qx C t1 t8 t26 t27 t28 H)
  (fld v10 0 H λv48 H=> bnd (ix 1 t1 v48 H) λv49 H=> bnd (ld v49 H) λv50 H=> fld v10 1 H λv52 H=> bnd (ix 3 v50 v52 H) λv53 H=> bnd (lda 3 v53 H) λv54 H=> bnd (C 156 [t8,v54] H) λv55 H=> bo (aX v55 0) λv56=> bo (aX v55 1) λv57=>
   bo (bi .neq 57 v57 (I 0)) λv59=> gl v59 false (some v56) H λv61 H=> gl v59 false (aN v10 3) H λv62 H=> gdA (some v59) false (ld v62 H) H λv63 H=> gl v59 false (bi .neq 3 v61 v63) H λv64 H=> bo (bQ v59 (B true) v64) λv65=>
   bF v65
   (some (.tup [(.s (Go.Value.pointer none)),(B false)],H))
   (Qx C t1 t8 t26 t27 t28 H))))
 (some (.tup [t8,(B true)],H)):=
 lpE.trans (by kernel_rfl)
theorem agL:Rn3 101 aa2:=λ_ _ _ _ _ _ h=>
 rnG aa1 Tryz.func101 (by kernel_rfl) (by kernel_rfl) h
def Qy(C:ak)(a0:AV)(H:ah):OA:=
 bo (bi .eql 123 a0 (.s (Go.Value.slice none 0 0))) λv4=>
 bF v4
 (some ((.s (Go.Value.slice none 0 0)),H))
 (bnd (bs 123 0 [] H) λv5 H=> bnd (app 184 4 32 v5 a0 H) λv7 H=>
  some (v7,H))
theorem VP:Rn1 102 Qy:=λ_ _ _ _ h=>
 rnG an0 Tryz.func102 (by kernel_rfl) (by kernel_rfl) h
def aa3(C:ak)(a0:AV)(H:ah):OA:=
 bo (aU a0) λv4=> fld v4 8 H λv6 H=> bnd (C 36 [v6] H) λv7 H=>
 some (v7,H)
theorem agM:Rn1 103 aa3:=λ_ _ _ _ h=>
 rnG an0 Tryz.func103 (by kernel_rfl) (by kernel_rfl) h
def VQ(C:ak)(a0 a1:AV)(H:ah):OA:=
 bo (bi .geq 3 a0 (I 1)) λv6=> gl v6 true (some a0) H λv8 H=> gl v6 true (some a1) H λv9 H=> gl v6 true (bi .leq 3 v8 v9) H λv10 H=> bo (bQ v6 v10 (B false)) λv11=>
 some (v11,H)
theorem agN:Rn2 104 VQ:=λ_ _ _ _ _ h=>
 rnG an0 Tryz.func104 (by kernel_rfl) (by kernel_rfl) h
def aa4(C:ak)(a0 a1:AV)(H:ah):OA:=
 bnd (C 157 [a0,a1] H) λv7 H=> bo (bi .geq 3 v7 (I 0)) λv8=>
 some (v8,H)
theorem agO:Rn2 105 aa4:=λ_ _ _ _ _ h=>
 rnG an0 Tryz.func105 (by kernel_rfl) (by kernel_rfl) h
def VR(C:ak)(a0 a1:AV)(H:ah):OA:=
 bnd (lnS a0 H) λv5 H=> bo (bi .gtr 3 v5 (I 24)) λv6=> gl v6 false (some a0) H λv8 H=> gl v6 false (some (.fn (.func 108) [] [a1])) H λv9 H=> gdA (some v6) false (C 107 [v8,v9] H) H λv10 H=> bo (bQ v6 (B true) v10) λv11=>
 some (v11,H)
theorem agP:Rn2 106 VR:=λ_ _ _ _ _ h=>
 rnG an0 Tryz.func106 (by kernel_rfl) (by kernel_rfl) h
def aa5(C:ak)(a0 a1:AV)(H:ah):OA:=
 bnd (C 158 [a0,a1] H) λv7 H=> bo (bi .geq 3 v7 (I 0)) λv8=>
 some (v8,H)
theorem agQ:Rn2 107 aa5:=λ_ _ _ _ _ h=>
 rnG an0 Tryz.func107 (by kernel_rfl) (by kernel_rfl) h
def aa6(C:ak)(a0 a1:AV)(H:ah):OA:=
 bnd (iC 61 a0 H) λv2 H=>
 bnd (lda 8 a1 H) λv4 H=> bnd (lda 3 v2 H) λv5 H=> bnd (C 109 [v4,v5] H) λv6 H=> bo (un .not v6) λv7=>
 some (v7,H)
theorem agR:Rn2 108 aa6:=λ_ _ _ _ _ h=>
 rnG an0 Tryz.func108 (by kernel_rfl) (by kernel_rfl) h
def zV(C:ak)(a0 a1:AV)(H:ah):OA:=
 bnd (iC 31 a0 H) λv2 H=> bnd (iC 61 a1 H) λv3 H=>
 bnd (lda 8 v2 H) λv8 H=> fld v3 1 H λv10 H=> bnd (C 148 [v8,v10] H) λv11 H=> bo (aX v11 0) λv12=> bo (aX v11 1) λv13=>
 fld v3 0 H λv15 H=> bo (bi .geq 3 v15 (I 1)) λv16=> gl v16 true (aN v3 0) H λv18 H=> gdA (some v16) true (ld v18 H) H λv19 H=> gl v16 true (bi .leq 3 v19 (I 4)) H λv20 H=> bo (bQ v16 v20 (B false)) λv21=> gl v21 true (some v12) H λv23 H=> gl v21 true (bi .neq 3 v23 (I (-1))) H λv24 H=> bo (bQ v21 v24 (B false)) λv25=> gl v25 true (aN v3 2) H λv27 H=> gdA (some v25) true (ld v27 H) H λv28 H=> gl v25 true (bi .eql 3 v28 (I 0)) H λv29 H=> gl v25 true (some v29) H λv30 H=> gl v30 false (aN v3 0) H λv31 H=> gdA (some v30) false (ld v31 H) H λv32 H=> gl v30 false (bi .eql 3 v32 (I 2)) H λv33 H=> gl v25 true (bQ v30 (B true) v33) H λv34 H=> gl v25 true (some v34) H λv35 H=> gl v35 false (aN v3 0) H λv36 H=> gdA (some v35) false (ld v36 H) H λv37 H=> gl v35 false (bi .eql 3 v37 (I 3)) H λv38 H=> gl v25 true (bQ v35 (B true) v38) H λv39 H=> bo (bQ v25 v39 (B false)) λv40=>
 some (v40,H)
theorem agS:Rn2 109 zV:=λ_ _ _ _ _ h=>
 rnG an0 Tryz.func109 (by kernel_rfl) (by kernel_rfl) h
def aa7(C:ak)(a0:AV)(H:ah):OA:=
 bnd (dV (jm Tryz.prog true #[3,3] 3 [(I 0),a0]) H) λv4 H=> bo (bd 177 [(1,v4)]) λv5=> bnd (iC 177 v5 H) λv6 H=>
 some (v6,H)
theorem agT:Rn1 110 aa7:=λ_ _ _ _ h=>
 rnG an0 Tryz.func110 (by kernel_rfl) (by kernel_rfl) h
def aa8(C:ak)(a0:AV)(H:ah):OA:=
 bnd (dV (jm Tryz.prog true #[3,3] 3 [(I 0),a0]) H) λv4 H=> bo (bd 200 [(1,v4)]) λv5=> bnd (iC 200 v5 H) λv6 H=>
 some (v6,H)
theorem agU:Rn1 111 aa8:=λ_ _ _ _ h=>
 rnG an0 Tryz.func111 (by kernel_rfl) (by kernel_rfl) h
def aa9(C:ak)(a0 a1:AV)(H:ah):OA:=
 bnd (dV (jm Tryz.prog true #[3,3] 3 [(I 1),a0]) H) λv6 H=> bnd (dV (jm Tryz.prog true #[3,3] 3 [(I 1),a1]) H) λv8 H=> bo (bd 147 [(1,v6),(2,v8)]) λv9=> bnd (iC 147 v9 H) λv10 H=>
 some (v10,H)
theorem agV:Rn2 112 aa9:=λ_ _ _ _ _ h=>
 rnG an0 Tryz.func112 (by kernel_rfl) (by kernel_rfl) h
def abb(C:ak)(a0:AV)(H:ah):OA:=
 bnd (C 159 [a0] H) λv4 H=> bo (bd 135 [(0,v4)]) λv5=> bnd (iC 135 v5 H) λv6 H=>
 some (v6,H)
theorem agW:Rn1 113 abb:=λ_ _ _ _ h=>
 rnG an0 Tryz.func113 (by kernel_rfl) (by kernel_rfl) h
def agX:Ann:=⟨[],[(1,some false::some false::some true::some true::rF 5 [])],[]⟩
def abd(C:ak)(a0 a1:AV)(H:ah):OA:=
 bnd (iC 31 a0 H) λv2 H=>
 bnd (lda 8 v2 H) λv5 H=> bnd (unG H (C 160 [v5,a1] H.guard)) λv7 H=> bnd (unG H (C 161 [] H.guard)) λv8 H=> bnd (lda 8 v2 H) λv9 H=> bo (bd 166 [(0,v7),(1,v8),(2,v9),(3,a1)]) λv11=> bnd (iC 166 v11 H) λv12 H=>
 some (v12,H)
theorem agY:Rn2 114 abd:=λ_ _ _ _ _ h=>
 rnG agX Tryz.func114 (by kernel_rfl) (by kernel_rfl) h
def abe(C:ak)(a0:AV)(H:ah):OA:=
 bnd (iC 81 a0 H) λv1 H=> bnd (alc 81 [zI,zI,zI,zI,zI,zI,zI,zB,zN] H) λv2 H=>
 fld v1 8 H λv4 H=> bnd (C 36 [v4] H) λv5 H=> bo (aN v1 8) λv6=> bnd (st 1 v6 v5 H) λ_ H=>
 bnd (lda 9 v1 H) λv7 H=> bnd (st 9 v2 v7 H) λ_ H=>
 bnd (lda 9 v2 H) λr0 _=> some (r0,H)
theorem agZ:Rn1 116 abe:=λ_ _ _ _ h=>
 rnG an0 Tryz.func116 (by kernel_rfl) (by kernel_rfl) h
def VT(C:ak)(a0:AV)(H:ah):OA:=
 bnd (app 3 1 8 (.s (Go.Value.slice none 0 0)) a0 H) λv4 H=>
 some (v4,H)
theorem abf:Rn1 119 VT:=λ_ _ _ _ h=>
 rnG an0 Tryz.func119 (by kernel_rfl) (by kernel_rfl) h
def VU(C:ak)(a0 a1:AV)(H:ah):OA:=
 bo (bi .geq 3 a0 (I 1)) λv6=> gl v6 true (some a0) H λv8 H=> gl v6 true (some a1) H λv9 H=> gl v6 true (bi .leq 3 v8 v9) H λv10 H=> bo (bQ v6 v10 (B false)) λv11=>
 some (v11,H)
theorem ag0:Rn2 120 VU:=λ_ _ _ _ _ h=>
 rnG an0 Tryz.func120 (by kernel_rfl) (by kernel_rfl) h
def xE(C:ak)(a0 a1:AV)(H:ah):OA:=
 bnd (iC 31 a0 H) λv2 H=> bnd (iC 61 a1 H) λv3 H=>
 fld v3 0 H λv6 H=> bo (bi .geq 3 v6 (I 1)) λv7=> gl v7 true (aN v3 0) H λv9 H=> gdA (some v7) true (ld v9 H) H λv10 H=> gl v7 true (bi .leq 3 v10 (I 4)) H λv11 H=> bo (bQ v7 v11 (B false)) λv12=> gl v12 true (aN v3 1) H λv14 H=> gdA (some v12) true (ld v14 H) H λv15 H=> gl v12 true (bi .geq 3 v15 (I 0)) H λv16 H=> bo (bQ v12 v16 (B false)) λv17=> gl v17 true (aN v3 1) H λv19 H=> gdA (some v17) true (ld v19 H) H λv20 H=> gl v17 true (aN v2 1) H λv21 H=> gdA (some v17) true (ld v21 H) H λv22 H=> gl v17 true (aN v2 2) H λv23 H=> gdA (some v17) true (ld v23 H) H λv24 H=> gl v17 true (bi .mul 3 v22 v24) H λv25 H=> gl v17 true (bi .lss 3 v20 v25) H λv26 H=> bo (bQ v17 v26 (B false)) λv27=> gl v27 true (aN v3 2) H λv29 H=> gdA (some v27) true (ld v29 H) H λv30 H=> gl v27 true (bi .eql 3 v30 (I 0)) H λv31 H=> gl v27 true (some v31) H λv32 H=> gl v32 false (aN v3 0) H λv33 H=> gdA (some v32) false (ld v33 H) H λv34 H=> gl v32 false (bi .eql 3 v34 (I 2)) H λv35 H=> gl v27 true (bQ v32 (B true) v35) H λv36 H=> gl v27 true (some v36) H λv37 H=> gl v37 false (aN v3 0) H λv38 H=> gdA (some v37) false (ld v38 H) H λv39 H=> gl v37 false (bi .eql 3 v39 (I 3)) H λv40 H=> gl v27 true (bQ v37 (B true) v40) H λv41 H=> bo (bQ v27 v41 (B false)) λv42=>
 some (v42,H)
theorem ag1:Rn2 121 xE:=λ_ _ _ _ _ h=>
 rnG an0 Tryz.func121 (by kernel_rfl) (by kernel_rfl) h
def abg(C:ak)(a0 a1:AV)(H:ah):OA:=
 bnd (dV (jm Tryz.prog true #[3,3] 3 [a0,(I 1)]) H) λv6 H=> bnd (dV (jm Tryz.prog true #[3,3] 3 [a1,(I 1)]) H) λv8 H=> bo (bd 265 [(0,v6),(1,v8)]) λv9=> bnd (iC 265 v9 H) λv10 H=>
 some (v10,H)
theorem ag2:Rn2 122 abg:=λ_ _ _ _ _ h=>
 rnG an0 Tryz.func122 (by kernel_rfl) (by kernel_rfl) h
def abh:Ann:=⟨[(4,[2,5,6])],[(5,rF 7 (some true::rF 6 []))],[]⟩
def AZ:=jF Tryz.prog Tryz.f123 31 abh 0
def abj(C:ak)(a0 a1:AV)(H:ah):OA:=
 bnd (iC 31 a0 H) λv2 H=>
 bnd (lda 8 v2 H) λv7 H=> bo (bd 272 [(0,v7),(1,a1)]) λv9=> bnd (iC 272 v9 H) λv10 H=>
 AZ C [v2,v10,(I 0)] H
theorem Qz(C:ak)(t2 t5 t6:AV)(H:ah):AZ C [t2,t5,t6] H=
 fld t2 1 H λv13 H=> bo (bi .lss 3 t6 v13) λv14=>
 bF v14
 (bo (aU t5) λv19=> fld v19 9 H λv21 H=> bnd (lda 8 t2 H) λv22 H=> bnd (unG H (C 173 [v22,t6] H.guard)) λv24 H=> bo (bd 274 [(0,(I 0)),(1,(I (-1))),(2,v24)]) λv25=> bnd (bs 266 1 [(0,v25)] H) λv26 H=> bnd (app 274 3 40 v21 v26 H) λv27 H=> bo (aU t5) λv28=> bo (aN v28 9) λv29=> bnd (st 1 v29 v27 H) λ_ H=>
  bo (bi .add 3 t6 (I 1)) λv16=>
  AZ C [t2,t5,v16] H)
 (some (t5,H)):=
 lpE.trans (by kernel_rfl)
theorem ag3:Rn2 123 abj:=λ_ _ _ _ _ h=>
 rnG abh Tryz.func123 (by kernel_rfl) (by kernel_rfl) h
def VW(C:ak)(a0 a1:AV)(H:ah):OA:=
 bnd (alc 95 [zI,zI,zN] H) λv4 H=>
 bo (aU a0) λv10=> fld v10 8 H λv12 H=> bnd (lk .i64 (.agg #[.int .i64 0,.int .i64 0,.slice none 0 0]) v12 a1 true H) λv14 H=> bo (aX v14 0) λv15=> bo (aX v14 1) λv16=> bnd (alc 95 [zI,zI,zN] H) λv6 H=> bnd (st 3 v6 v15 H) λ_ H=>
 fld v6 2 H λv18 H=> bnd (C 36 [v18] H) λv19 H=> bo (aN v6 2) λv20=> bnd (st 1 v20 v19 H) λ_ H=>
 bnd (lda 3 v6 H) λv21 H=> bnd (st 3 v4 v21 H) λ_ H=>
 bnd (lda 3 v4 H) λr0 _=> some (.tup [r0,v16],H)
theorem ag4:Rn2 124 VW:=λ_ _ _ _ _ h=>
 rnG an0 Tryz.func124 (by kernel_rfl) (by kernel_rfl) h
def abk:Ann:=⟨[(3,[0,1,7,8])],[],[]⟩
def A8:=jF Tryz.prog Tryz.f125 19 abk 0
def abl(C:ak)(a0 a1:AV)(H:ah):OA:=
 bnd (lnS a0 H) λv7 H=>
 A8 C [a0,a1,v7,(I 0)] H
theorem QA(C:ak)(t0 t1 t7 t8:AV)(H:ah):A8 C [t0,t1,t7,t8] H=
 bo (bi .lss 3 t8 t7) λv9=>
 bF v9
 (bnd (ix 6 t0 t8 H) λv14 H=> bnd (lda 6 v14 H) λv15 H=> bnd (oQ Tryz.prog C t1 [v15] H) λv16 H=>
  bF v16
  (some (t8,H))
  (bo (bi .add 3 t8 (I 1)) λv18=>
  A8 C [t0,t1,t7,v18] H))
 (some ((I (-1)),H)):=
 lpE.trans (by kernel_rfl)
theorem ag5:Rn2 125 abl:=λ_ _ _ _ _ h=>
 rnG abk Tryz.func125 (by kernel_rfl) (by kernel_rfl) h
def abm(C:ak)(a0 a1:AV)(H:ah):OA:=
 bnd (iC 100 a0 H) λv2 H=>
 fld v2 2 H λv5 H=> bnd (ld a1 H) λv6 H=> bo (bi .eql 3 v5 v6) λv7=>
 some (v7,H)
theorem ag6:Rn2 126 abm:=λ_ _ _ _ _ h=>
 rnG an0 Tryz.func126 (by kernel_rfl) (by kernel_rfl) h
def abn:Ann:=⟨[(7,[5,48,49,50])],[(4,rF 28 (some true::rF 6 []))],[]⟩
def Ba:=jF Tryz.prog Tryz.f128 61 abn 0
def abo(C:ak)(a0:AV)(H:ah):OA:=
 bnd (iC 81 a0 H) λv1 H=>
 bnd (lda 9 v1 H) λv8 H=> bnd (C 174 [v8] H) λv9 H=>
 bo (bi .neq 57 v9 (I 0)) λv11=>
 bF v11
 (some (.tup [(.s (Go.Value.slice none 0 0)),v9],H))
 (fld v1 0 H λv14 H=> bnd (cv 3 5 v14 H) λv15 H=> fld v1 1 H λv17 H=> bnd (cv 3 5 v17 H) λv18 H=> fld v1 2 H λv20 H=> bnd (cv 3 5 v20 H) λv21 H=> fld v1 3 H λv23 H=> bo (bi .shr 3 v23 (.s (Go.Value.int Go.IntKind.u64 8))) λv24=> bnd (cv 3 5 v24 H) λv25 H=> fld v1 3 H λv27 H=> bnd (cv 3 5 v27 H) λv28 H=> fld v1 4 H λv30 H=> bnd (cv 3 5 v30 H) λv31 H=> fld v1 5 H λv33 H=> bo (bi .add 3 v33 (I 1)) λv34=> bnd (cv 3 5 v34 H) λv35 H=> fld v1 6 H λv37 H=> bnd (cv 3 5 v37 H) λv38 H=> fld v1 7 H λv40 H=> bnd (unG H (C 175 [v40] H.guard)) λv41 H=> fld v1 8 H λv43 H=> bnd (lnS v43 H) λv44 H=> bnd (cv 3 5 v44 H) λv45 H=> bnd (bs 220 10 [(0,v15),(1,v18),(2,v21),(3,v25),(4,v28),(5,v31),(6,v35),(7,v38),(8,v41),(9,v45)] H) λv46 H=>
  fld v1 8 H λv48 H=> bnd (lnS v48 H) λv49 H=>
  Ba C [v46,v48,v49,(I 0)] H)
theorem QB(C:ak)(t5 t48 t49 t50:AV)(H:ah):Ba C [t5,t48,t49,t50] H=
 bo (bi .lss 3 t50 t49) λv51=>
 bF v51
 (bnd (ix 1 t48 t50 H) λv52 H=> bnd (ld v52 H) λv53 H=>
  bnd (C 176 [v53] H) λv56 H=> bnd (app 5 1 1 t5 v56 H) λv57 H=>
  bo (bi .add 3 t50 (I 1)) λv58=>
  Ba C [v57,t48,t49,v58] H)
 (bnd (C 177 [t5] H) λv60 H=>
  some (.tup [v60,(I 0)],H)):=
 lpE.trans (by kernel_rfl)
theorem ag7:Rn1 128 abo:=λ_ _ _ _ h=>
 rnG abn Tryz.func128 (by kernel_rfl) (by kernel_rfl) h
def ag8:Ann:=⟨[],[(4,rF 40 (none::some false::[]))],[]⟩
def VX:Code:=Tryz.f129.body.getD .skip
def abp(C:ak)(a0:AV)(H:ah):OA:=
 bnd (alc 81 [zI,zI,zI,zI,zI,zI,zI,zB,zN] H) λv2 H=>
 bnd (C 178 [a0] H) λv12 H=> bo (aX v12 0) λv13=> bo (aX v12 1) λv14=>
 bo (un .not v14) λv16=> gl v16 false (some v13) H λv18 H=> gdA (some v16) false (lnS v18 H) H λv19 H=> gl v16 false (bi .lss 3 v19 (I 10)) H λv20 H=> bo (bQ v16 (B true) v20) λv21=> gl v21 false (some v13) H λv23 H=> gdA (some v21) false (lnS v23 H) H λv24 H=> gl v21 false (some v13) H λv25 H=> gdA (some v21) false (ix 1 v25 (I 9) H) H λv26 H=> gdA (some v21) false (ld v26 H) H λv27 H=> gdA (some v21) false (cv 5 3 v27 H) H λv28 H=> gl v21 false (bi .mul 3 (I 8) v28) H λv29 H=> gl v21 false (bi .add 3 (I 10) v29) H λv30 H=> gl v21 false (bi .neq 3 v24 v30) H λv31 H=> bo (bQ v21 (B true) v31) λv32=>
 bF v32
 (bo (bd 81 []) λv33=> bnd (st 9 v2 v33 H) λ_ H=>
  bnd (lda 9 v2 H) λr0 _=> some (.tup [r0,(I 2)],H))
 (bnd (alc 81 [zI,zI,zI,zI,zI,zI,zI,zB,zN] H) λv6 H=> bnd (ix 1 v13 (I 0) H) λv35 H=> bnd (ld v35 H) λv36 H=> bnd (cv 5 3 v36 H) λv37 H=> bnd (ix 1 v13 (I 1) H) λv39 H=> bnd (ld v39 H) λv40 H=> bnd (cv 5 3 v40 H) λv41 H=> bnd (ix 1 v13 (I 2) H) λv43 H=> bnd (ld v43 H) λv44 H=> bnd (cv 5 3 v44 H) λv45 H=> bnd (ix 1 v13 (I 3) H) λv47 H=> bnd (ld v47 H) λv48 H=> bnd (cv 5 3 v48 H) λv49 H=> bo (bi .shl 3 v49 (.s (Go.Value.int Go.IntKind.u64 8))) λv50=> bnd (ix 1 v13 (I 4) H) λv52 H=> bnd (ld v52 H) λv53 H=> bnd (cv 5 3 v53 H) λv54 H=> bo (bi .or 3 v50 v54) λv55=> bnd (ix 1 v13 (I 5) H) λv57 H=> bnd (ld v57 H) λv58 H=> bnd (cv 5 3 v58 H) λv59 H=> bnd (ix 1 v13 (I 6) H) λv61 H=> bnd (ld v61 H) λv62 H=> bnd (cv 5 3 v62 H) λv63 H=> bo (bi .sub 3 v63 (I 1)) λv64=> bnd (ix 1 v13 (I 7) H) λv66 H=> bnd (ld v66 H) λv67 H=> bnd (cv 5 3 v67 H) λv68 H=> bnd (ix 1 v13 (I 8) H) λv70 H=> bnd (ld v70 H) λv71 H=> bo (bi .eql 5 v71 (.s (Go.Value.int Go.IntKind.u8 1))) λv72=> bo (bd 81 [(0,v37),(1,v41),(2,v45),(3,v55),(4,v59),(5,v64),(6,v68),(7,v72)]) λv73=> bnd (st 9 v6 v73 H) λ_ H=>
  bo (slS 1 v13 (some (I 10)) none none) λv75=> bnd (C 179 [v75,(I 8)] H) λv76 H=>
  none)
theorem ag9:Rn1 129 abp:=λ_ _ _ _ h=>
 rnG ag8 Tryz.func129 (by kernel_rfl) (by kernel_rfl) h
def aha:Ann:=⟨[],[(3,rF 19 [])],[(3,[(14,16),(15,16)])]⟩
def VY(C:ak)(a0:AV)(H:ah):OA:=
 bnd (alc 61 [zI,zI,zI] H) λv2 H=>
 bnd (C 66 [a0] H) λv6 H=> bo (bi .eql 3 v6 (I 0)) λv7=>
 bF v7
 (bo (bd 61 []) λv8=> bnd (st 3 v2 v8 H) λ_ H=>
  bnd (lda 3 v2 H) λr0 _=> some (.tup [r0,(I 0),(B false)],H))
 (bo (aU a0) λv10=> fld v10 0 H λv12 H3=> bo (aU a0) λv14=> fld v14 1 H3 λv16 H7=> bnd (lnS v16 H7) λv17 H8=> bnd (ix 3 v12 v17 H8) λv18 H9=> bnd (lda 3 v18 H9) λv19 H10=> bo (aU a0) λv21=> bo (aN v21 1) λv22=> bnd (ld v22 H10) λv23 H14=> bnd (lnS v23 H14) λv24 H15=> bnd (st 3 v2 v19 H15) λ_ H16=> ck (dO v22) H15 H16 <| ck (dO v23) H15 H16 <|
  bnd (lda 3 v2 H16) λr0 _=> some (.tup [r0,v24,(B true)],H16))
theorem ahb:Rn1 136 VY:=λ_ _ _ _ h=>
 rnG aha Tryz.func136 (by kernel_rfl) (by kernel_rfl) h
def ahc:Ann:=⟨[],[(3,rF 10 (some true::some true::rF 4 []))],[]⟩
def KY(C:ak)(a0 a1:AV)(H:ah):OA:=
 bnd (iC 81 a1 H) λv3 H=>
 bnd (lda 9 v3 H) λv5 H=> bnd (C 174 [v5] H) λv6 H=> bo (bi .neq 57 v6 (I 0)) λv7=> gl v7 false (some a0) H λv9 H=> gl v7 false (aN v3 1) H λv10 H=> gdA (some v7) false (ld v10 H) H λv11 H=> gdA (some v7) false (C 71 [v9,v11] H) H λv12 H=> gl v7 false (un .not v12) H λv13 H=> bo (bQ v7 (B true) v13) λv14=> gl v14 false (some a0) H λv16 H=> gl v14 false (aN v3 2) H λv17 H=> gdA (some v14) false (ld v17 H) H λv18 H=> gdA (some v14) false (C 71 [v16,v18] H) H λv19 H=> gl v14 false (un .not v19) H λv20 H=> bo (bQ v14 (B true) v20) λv21=>
 bF v21
 (some ((I 1),H))
 (bo (aU a0) λv23=> fld v23 0 H λv25 H=> fld v3 1 H λv27 H=> bnd (ix 4 v25 v27 H) λv28 H=> bnd (lda 4 v28 H) λv29 H=> fld v3 0 H λv31 H=> bnd (unG H (C 92 [v31] H.guard)) λv32 H=> bnd (unG H (C 91 [v29,v32] H.guard)) λv33 H=> bo (fl v33 0) λv34=> bnd (lda 9 v3 H) λv35 H=> bnd (C 197 [v34,v35] H) λv36 H=>
  some (v36,H))
theorem abq:Rn2 143 KY:=λ_ _ _ _ _ h=>
 rnG ahc Tryz.func143 (by kernel_rfl) (by kernel_rfl) h
def ahd:Ann:=⟨[],[(3,rF 10 [])],[]⟩
def QC(C:ak)(a0 a1:AV)(H:ah):OA:=
 bnd (iC 31 a0 H) λv2 H=>
 bo (bi .lss 3 a1 (I 0)) λv7=> gl v7 false (some a1) H λv9 H=> gdA (some v7) false (lda 8 v2 H) H λv10 H=> gdA (some v7) false (C 57 [v10] H) H λv11 H=> gl v7 false (bi .geq 3 v9 v11) H λv12 H=> bo (bQ v7 (B true) v12) λv13=>
 bF v13
 (some (.tup [(I (-1)),(I 0)],H))
 (fld v2 2 H λv16 H=> bo (bi .quo 3 a1 v16) λv17=> fld v2 2 H λv20 H=> bo (bi .rem 3 a1 v20) λv21=>
  some (.tup [v17,v21],H))
theorem ahe:Rn2 148 QC:=λ_ _ _ _ _ h=>
 rnG ahd Tryz.func148 (by kernel_rfl) (by kernel_rfl) h
def abr:Ann:=⟨[(3,[0,1,7,8])],[],[]⟩
def xF:=jF Tryz.prog Tryz.f153 19 abr 0
def abt(C:ak)(a0 a1:AV)(H:ah):OA:=
 bnd (lnS a0 H) λv7 H=>
 xF C [a0,a1,v7,(I 0)] H
theorem QD(C:ak)(t0 t1 t7 t8:AV)(H:ah):xF C [t0,t1,t7,t8] H=
 bo (bi .lss 3 t8 t7) λv9=>
 bF v9
 (bnd (ix 1 t0 t8 H) λv14 H=> bnd (ld v14 H) λv15 H=> bnd (oQ Tryz.prog C t1 [v15] H) λv16 H=>
  bF v16
  (some (t8,H))
  (bo (bi .add 3 t8 (I 1)) λv18=>
  xF C [t0,t1,t7,v18] H))
 (some ((I (-1)),H)):=
 lpE.trans (by kernel_rfl)
theorem ahf:Rn2 153 abt:=λ_ _ _ _ _ h=>
 rnG abr Tryz.func153 (by kernel_rfl) (by kernel_rfl) h
def abu:Ann:=⟨[(4,[0,5,10,11,12])],[],[]⟩
def Bc:=jF Tryz.prog Tryz.f154 60 abu 0
def abv(C:ak)(a0 a1:AV)(H:ah):OA:=
 bnd (mkm .i64 H) λv9 H=>
 bnd (lnS a1 H) λv11 H=>
 Bc C [a0,v9,a1,v11,(I 0)] H
theorem YW(C:ak)(t0 t5 t10 t11 t12:AV)(H:ah):Bc C [t0,t5,t10,t11,t12] H=
 bo (bi .lss 3 t12 t11) λv13=>
 bF v13
 (bnd (ix 4 t10 t12 H) λv14 H=> bnd (lda 4 v14 H) λv15 H=> bnd (alc 184 [zI,zI,zB,zI] H) λv7 H=> bnd (st 4 v7 v15 H) λ_ H=>
  fld v7 0 H λv18 H=> bnd (lk .i64 (.int .i64 0) t5 v18 false H) λv19 H=>
  fld v7 0 H λv21 H=> bo (bi .lss 3 v21 (I 0)) λv22=> gl v22 false (aN v7 0) H λv24 H=> gdA (some v22) false (ld v24 H) H λv25 H=> gl v22 false (some t0) H λv26 H=> gl v22 false (bi .geq 3 v25 v26) H λv27 H=> bo (bQ v22 (B true) v27) λv28=> gl v28 false (aN v7 1) H λv30 H=> gdA (some v28) false (ld v30 H) H λv31 H=> gl v28 false (some v19) H λv32 H=> gl v28 false (bi .quo 3 v32 (I 2)) H λv33 H=> gl v28 false (bi .neq 3 v31 v33) H λv34 H=> bo (bQ v28 (B true) v34) λv35=> gl v35 false (aN v7 2) H λv37 H=> gdA (some v35) false (ld v37 H) H λv38 H=> gl v35 false (some v19) H λv39 H=> gl v35 false (bi .rem 3 v39 (I 2)) H λv40 H=> gl v35 false (bi .eql 3 v40 (I 1)) H λv41 H=> gl v35 false (bi .neq 4 v38 v41) H λv42 H=> bo (bQ v35 (B true) v42) λv43=> gl v43 false (aN v7 2) H λv45 H=> gdA (some v43) false (ld v45 H) H λv46 H=> gl v43 false (un .not v46) H λv47 H=> gl v43 false (some v47) H λv48 H=> gl v48 true (aN v7 3) H λv49 H=> gdA (some v48) true (ld v49 H) H λv50 H=> gl v48 true (bi .neq 3 v50 (I 0)) H λv51 H=> gl v43 false (bQ v48 v51 (B false)) H λv52 H=> bo (bQ v43 (B true) v52) λv53=>
  bF v53
  (some ((B false),H))
  (fld v7 0 H λv56 H=> bnd (lk .i64 (.int .i64 0) t5 v56 false H) λv57 H=> bo (bi .add 3 v57 (I 1)) λv58=> bnd (mup .i64 t5 v56 v58 H) λ_ H=>
  bo (bi .add 3 t12 (I 1)) λv59=>
  Bc C [t0,t5,t10,t11,v59] H))
 (some ((B true),H)):=
 lpE.trans (by kernel_rfl)
theorem ahg:Rn2 154 abv:=λ_ _ _ _ _ h=>
 rnG abu Tryz.func154 (by kernel_rfl) (by kernel_rfl) h
def abw:Ann:=⟨[(4,[1,3,9,10])],[(5,rF 7 (some true::rF 4 []))],[]⟩
def xG:=jF Tryz.prog Tryz.f155 26 abw 0
def abx(C:ak)(a0:AV)(H:ah):OA:=
 bnd (iC 31 a0 H) λv1 H=>
 bnd (lda 8 v1 H) λv5 H=> bo (bd 246 [(0,v5)]) λv6=> bnd (iC 246 v6 H) λv7 H=>
 fld v1 1 H λv9 H=>
 xG C [v1,v7,v9,(I 0)] H
theorem QE(C:ak)(t1 t3 t9 t10:AV)(H:ah):xG C [t1,t3,t9,t10] H=
 bo (bi .lss 3 t10 t9) λv11=>
 bF v11
 (bo (aU t3) λv15=> fld v15 8 H λv17 H=> bnd (lda 8 t1 H) λv18 H=> bnd (unG H (C 204 [v18,t10] H.guard)) λv20 H=> bnd (app 3 1 8 v17 v20 H) λv21 H=> bo (aU t3) λv22=> bo (aN v22 8) λv23=> bnd (st 1 v23 v21 H) λ_ H=>
  bo (bi .add 3 t10 (I 1)) λv24=>
  xG C [t1,t3,t9,v24] H)
 (some (t3,H)):=
 lpE.trans (by kernel_rfl)
theorem ahh:Rn1 155 abx:=λ_ _ _ _ h=>
 rnG abw Tryz.func155 (by kernel_rfl) (by kernel_rfl) h
def aby:Ann:=⟨[(3,[0,1,7,8])],[],[]⟩
def Bf:=jF Tryz.prog Tryz.f157 19 aby 0
def abz(C:ak)(a0 a1:AV)(H:ah):OA:=
 bnd (lnS a0 H) λv7 H=>
 Bf C [a0,a1,v7,(I 0)] H
theorem QF(C:ak)(t0 t1 t7 t8:AV)(H:ah):Bf C [t0,t1,t7,t8] H=
 bo (bi .lss 3 t8 t7) λv9=>
 bF v9
 (bnd (ix 1 t0 t8 H) λv14 H=> bnd (ld v14 H) λv15 H=> bnd (oQ Tryz.prog C t1 [v15] H) λv16 H=>
  bF v16
  (some (t8,H))
  (bo (bi .add 3 t8 (I 1)) λv18=>
  Bf C [t0,t1,t7,v18] H))
 (some ((I (-1)),H)):=
 lpE.trans (by kernel_rfl)
theorem ahi:Rn2 157 abz:=λ_ _ _ _ _ h=>
 rnG aby Tryz.func157 (by kernel_rfl) (by kernel_rfl) h
def abA:Ann:=⟨[(3,[0,1,7,8])],[],[]⟩
def Bg:=jF Tryz.prog Tryz.f158 19 abA 0
def abB(C:ak)(a0 a1:AV)(H:ah):OA:=
 bnd (lnS a0 H) λv7 H=>
 Bg C [a0,a1,v7,(I 0)] H
theorem QG(C:ak)(t0 t1 t7 t8:AV)(H:ah):Bg C [t0,t1,t7,t8] H=
 bo (bi .lss 3 t8 t7) λv9=>
 bF v9
 (bnd (ix 3 t0 t8 H) λv14 H=> bnd (lda 3 v14 H) λv15 H=> bnd (oQ Tryz.prog C t1 [v15] H) λv16 H=>
  bF v16
  (some (t8,H))
  (bo (bi .add 3 t8 (I 1)) λv18=>
  Bg C [t0,t1,t7,v18] H))
 (some ((I (-1)),H)):=
 lpE.trans (by kernel_rfl)
theorem ahj:Rn2 158 abB:=λ_ _ _ _ _ h=>
 rnG abA Tryz.func158 (by kernel_rfl) (by kernel_rfl) h
def VZ(C:ak)(a0:AV)(H:ah):OA:=
 bo (bi .eql 62 a0 (.s (Go.Value.slice none 0 0))) λv4=>
 bF v4
 (some ((.s (Go.Value.slice none 0 0)),H))
 (bnd (bs 62 0 [] H) λv5 H=> bnd (app 61 3 24 v5 a0 H) λv7 H=>
  some (v7,H))
theorem abC:Rn1 159 VZ:=λ_ _ _ _ h=>
 rnG an0 Tryz.func159 (by kernel_rfl) (by kernel_rfl) h
def abD:Ann:=⟨[(4,[1,2,5,12,13])],[(6,rF 7 (some true::some false::some false::[]))],[]⟩
def Bh:=jF Tryz.prog Tryz.f160 32 abD 0
def Bj(C:ak)(t1 t2 t5 t12 t13:AV)(H:ah):OA:=
 bo (bi .add 3 t13 (I 1)) λv30=>
 Bh C [t1,t2,t5,t12,v30] H
def abE(C:ak)(a0 a1:AV)(H:ah):OA:=
 bnd (iC 31 a0 H) λv2 H=>
 bnd (lda 8 v2 H) λv7 H=> bnd (mkm .i64 H) λv8 H=> bo (bd 277 [(0,v7),(1,v8)]) λv9=> bnd (iC 277 v9 H) λv10 H=>
 fld v2 1 H λv12 H=>
 Bh C [a1,v2,v10,v12,(I 0)] H
theorem QH(C:ak)(t1 t2 t5 t12 t13:AV)(H:ah):Bh C [t1,t2,t5,t12,t13] H=
 bo (bi .lss 3 t13 t12) λv14=>
 bF v14
 (bnd (lda 8 t2 H) λv16 H=> bnd (C 42 [v16,t13] H) λv18 H=> bo (bi .eql 3 v18 t1) λv20=>
  bF v20
  (bo (aU t5) λv22=> fld v22 8 H λv24 H=> bnd (lda 8 t2 H) λv26 H=> bnd (unG H (C 204 [v26,t13] H.guard)) λv28 H=> bo (bd 95 [(0,(I 0)),(1,(I (-1))),(2,v28)]) λv29=> bnd (mup .i64 v24 t13 v29 H) λ_ H=>
  Bj C t1 t2 t5 t12 t13 H)
  (Bj C t1 t2 t5 t12 t13 H))
 (some (t5,H)):=
 lpE.trans (by kernel_rfl)
theorem ahk:Rn2 160 abE:=λ_ _ _ _ _ h=>
 rnG abD Tryz.func160 (by kernel_rfl) (by kernel_rfl) h
def abG(C:ak)(H:ah):OA:=
 bnd (mkm .i64 H) λv1 H=> bnd (mkm .i64 H) λv2 H=> bo (bd 218 [(0,v1),(1,v2)]) λv3=> bnd (iC 218 v3 H) λv4 H=>
 some (v4,H)
theorem ahl:Rn0 161 abG:=λ_ _ _ h=>
 rnG an0 Tryz.func161 (by kernel_rfl) (by kernel_rfl) h
def abH:Ann:=⟨[(6,[1,2,5,6])],[],[]⟩
def Bl:=jF Tryz.prog Tryz.f173 44 abH 0
def Bo(C:ak)(t1 t2 t5 t6 t7:AV)(H:ah):OA:=
 bnd (bs 22 1 [(0,t7)] H) λv41 H=> bnd (app 3 1 8 t5 v41 H) λv42 H=>
 bo (bi .add 3 t6 (I 1)) λv22=>
 Bl C [t1,t2,v42,v22] H
def abI(C:ak)(a0 a1:AV)(H:ah):OA:=
 bnd (iC 31 a0 H) λv2 H=>
 bo (bi .lss 3 a1 (I 0)) λv10=> gl v10 false (some a1) H λv12 H=> gl v10 false (aN v2 1) H λv13 H=> gdA (some v10) false (ld v13 H) H λv14 H=> gl v10 false (bi .geq 3 v12 v14) H λv15 H=> bo (bQ v10 (B true) v15) λv16=>
 bF v16
 (some ((.s (Go.Value.slice none 0 0)),H))
 (Bl C [a1,v2,(.s (Go.Value.slice none 0 0)),(I 0)] H)
theorem QI(C:ak)(t1 t2 t5 t6:AV)(H:ah):Bl C [t1,t2,t5,t6] H=
 fld t2 2 H λv19 H=> bo (bi .lss 3 t6 v19) λv20=>
 bF v20
 (fld t2 2 H λv25 H=> bo (bi .mul 3 t1 v25) λv26=> bo (bi .add 3 v26 t6) λv28=>
  fld t2 7 H λv31 H=> bnd (lnS v31 H) λv32 H=> bo (bi .lss 3 v28 v32) λv33=>
  bF v33
  (fld t2 7 H λv35 H=> bnd (ix 1 v35 v28 H) λv37 H=> bnd (ld v37 H) λv38 H=>
  Bo C t1 t2 t5 t6 v38 H)
  (Bo C t1 t2 t5 t6 (I 0) H))
 (some (t5,H)):=
 lpE.trans (by kernel_rfl)
theorem ahm:Rn2 173 abI:=λ_ _ _ _ _ h=>
 rnG abH Tryz.func173 (by kernel_rfl) (by kernel_rfl) h
def V3(C:ak)(a0:AV)(H:ah):OA:=
 bnd (iC 81 a0 H) λv1 H=>
 fld v1 1 H λv6 H=> bnd (C 211 [v6,(I 0),(I 6)] H) λv7 H=> gl v7 true (aN v1 2) H λv9 H=> gdA (some v7) true (ld v9 H) H λv10 H=> gdA (some v7) true (C 211 [v10,(I 0),(I 6)] H) H λv11 H=> bo (bQ v7 v11 (B false)) λv12=> gl v12 true (aN v1 3) H λv14 H=> gdA (some v12) true (ld v14 H) H λv15 H=> gdA (some v12) true (C 211 [v15,(I 0),(I 4096)] H) H λv16 H=> bo (bQ v12 v16 (B false)) λv17=>
 fld v1 0 H λv19 H=> bnd (C 211 [v19,(I 1),(I 10)] H) λv20 H=> gl v20 true (aN v1 4) H λv22 H=> gdA (some v20) true (ld v22 H) H λv23 H=> gdA (some v20) true (C 211 [v23,(I 0),(I 8)] H) H λv24 H=> bo (bQ v20 v24 (B false)) λv25=> gl v25 true (aN v1 5) H λv27 H=> gdA (some v25) true (ld v27 H) H λv28 H=> gdA (some v25) true (C 211 [v28,(I (-1)),(I 6)] H) H λv29 H=> bo (bQ v25 v29 (B false)) λv30=>
 bo (un .not v17) λv32=> gl v32 false (some v30) H λv34 H=> gl v32 false (un .not v34) H λv35 H=> bo (bQ v32 (B true) v35) λv36=> gl v36 false (aN v1 6) H λv38 H=> gdA (some v36) false (ld v38 H) H λv39 H=> gdA (some v36) false (C 211 [v39,(I 0),(I 3)] H) H λv40 H=> gl v36 false (un .not v40) H λv41 H=> bo (bQ v36 (B true) v41) λv42=> gl v42 false (aN v1 8) H λv44 H=> gdA (some v42) false (ld v44 H) H λv45 H=> gdA (some v42) false (lnS v45 H) H λv46 H=> gl v42 false (bi .gtr 3 v46 (I 4)) H λv47 H=> bo (bQ v42 (B true) v47) λv48=>
 bF v48
 (some ((I 1),H))
 (some ((I 0),H))
theorem abJ:Rn1 174 V3:=λ_ _ _ _ h=>
 rnG an0 Tryz.func174 (by kernel_rfl) (by kernel_rfl) h
def V4(C:ak)(a0:AV)(H:ah):OA:=
 bF a0
 (some ((.s (Go.Value.int Go.IntKind.u8 1)),H))
 (some ((.s (Go.Value.int Go.IntKind.u8 0)),H))
theorem ahn:Rn1 175 V4:=λ_ _ _ _ h=>
 rnG an0 Tryz.func175 (by kernel_rfl) (by kernel_rfl) h
def abK:Ann:=⟨[(4,[0,3,4])],[],[]⟩
def Bq:=jF Tryz.prog Tryz.f176 17 abK 0
def abL(C:ak)(a0:AV)(H:ah):OA:=
 Bq C [a0,(.s (Go.Value.slice none 0 0)),(I 56)] H
theorem QJ(C:ak)(t0 t3 t4:AV)(H:ah):Bq C [t0,t3,t4] H=
 bo (bi .geq 3 t4 (I 0)) λv6=>
 bF v6
 (bo (bi .shr 3 t0 t4) λv12=> bnd (cv 3 5 v12 H) λv13 H=> bnd (bs 220 1 [(0,v13)] H) λv14 H=> bnd (app 5 1 1 t3 v14 H) λv15 H=>
  bo (bi .sub 3 t4 (I 8)) λv8=>
  Bq C [t0,v15,v8] H)
 (some (t3,H)):=
 lpE.trans (by kernel_rfl)
theorem aho:Rn1 176 abL:=λ_ _ _ _ h=>
 rnG abK Tryz.func176 (by kernel_rfl) (by kernel_rfl) h
def abM(C:ak)(a0:AV)(H:ah):OA:=
 bnd (C 212 [a0] H) λv5 H=>
 bo (bi .shr 42 v5 (.s (Go.Value.int Go.IntKind.u64 8))) λv8=> bnd (cv 42 5 v8 H) λv9 H=> bnd (cv 42 5 v5 H) λv11 H=> bnd (bs 220 2 [(0,v9),(1,v11)] H) λv12 H=> bnd (bs 326 2 [(0,a0),(1,v12)] H) λv13 H=> bnd (C 213 [v13] H) λv14 H=>
 some (v14,H)
theorem ahp:Rn1 177 abM:=λ_ _ _ _ h=>
 rnG an0 Tryz.func177 (by kernel_rfl) (by kernel_rfl) h
def QK(C:ak)(a0:AV)(H:ah):OA:=
 bnd (lnS a0 H) λv6 H=> bo (bi .sub 3 v6 (I 2)) λv7=>
 bo (bi .lss 3 v7 (I 0)) λv9=> gl v9 false (some a0) H λv11 H=> gl v9 false (some v7) H λv12 H=> gl v9 false (slS 1 v11 none (some v12) none) H λv13 H=> gdA (some v9) false (C 177 [v13] H) H λv14 H=> gl v9 false (some a0) H λv15 H=> gdA (some v9) false (C 181 [v14,v15] H) H λv16 H=> gl v9 false (un .not v16) H λv17 H=> bo (bQ v9 (B true) v17) λv18=>
 bF v18
 (some (.tup [(.s (Go.Value.slice none 0 0)),(B false)],H))
 (bo (slS 1 a0 none (some v7) none) λv21=> bnd (C 182 [v21] H) λv22 H=>
  some (.tup [v22,(B true)],H))
theorem V5:Rn1 178 QK:=λ_ _ _ _ h=>
 rnG an0 Tryz.func178 (by kernel_rfl) (by kernel_rfl) h
def IY(C:ak)(t2 t3:AV)(H:ah):OA:=
 some ((.fn (.func 214) [] [t2,t3]),H)
def abN(C:ak)(a0 a1:AV)(H:ah):OA:=
 bnd (iC 220 a0 H) λv2 H=> bnd (iC 3 a1 H) λv3 H=>
 bnd (ld v3 H) λv5 H=> bo (bi .lss 3 v5 (I 1)) λv6=>
 bF v6
 (bnd (stk H) λv7 H=> bnd (stk H) λ_ H=>
  IY C v2 v3 H)
 (IY C v2 v3 H)
theorem ahq:Rn2 179 abN:=λ_ _ _ _ _ h=>
 rnG an0 Tryz.func179 (by kernel_rfl) (by kernel_rfl) h
def abO:Ann:=⟨[(4,[3,6,7,8])],[],[]⟩
def Bv:=jF Tryz.prog Tryz.f180 20 abO 0
def abP(C:ak)(a0:AV)(H:ah):OA:=
 bnd (lnS a0 H) λv7 H=>
 Bv C [(.s (Go.Value.int Go.IntKind.u64 0)),a0,v7,(I 0)] H
theorem QL(C:ak)(t3 t6 t7 t8:AV)(H:ah):Bv C [t3,t6,t7,t8] H=
 bo (bi .lss 3 t8 t7) λv9=>
 bF v9
 (bnd (ix 1 t6 t8 H) λv10 H=> bnd (ld v10 H) λv11 H=>
  bo (bi .shl 262 t3 (.s (Go.Value.int Go.IntKind.u64 8))) λv13=> bnd (cv 5 262 v11 H) λv15 H=> bo (bi .or 262 v13 v15) λv16=>
  bo (bi .add 3 t8 (I 1)) λv17=>
  Bv C [v16,t6,t7,v17] H)
 (bnd (cv 262 3 t3 H) λv19 H=>
  some (v19,H)):=
 lpE.trans (by kernel_rfl)
theorem ahr:Rn1 180 abP:=λ_ _ _ _ h=>
 rnG abO Tryz.func180 (by kernel_rfl) (by kernel_rfl) h
def abQ(C:ak)(a0 a1:AV)(H:ah):OA:=
 bnd (cv 220 9 a0 H) λv6 H=> bnd (cv 220 9 a1 H) λv8 H=> bo (bi .eql 9 v6 v8) λv9=>
 some (v9,H)
theorem ahs:Rn2 181 abQ:=λ_ _ _ _ _ h=>
 rnG an0 Tryz.func181 (by kernel_rfl) (by kernel_rfl) h
def abR(C:ak)(a0:AV)(H:ah):OA:=
 bo (bi .eql 220 a0 (.s (Go.Value.slice none 0 0))) λv4=>
 bF v4
 (some ((.s (Go.Value.slice none 0 0)),H))
 (bnd (bs 220 0 [] H) λv5 H=> bnd (app 5 1 1 v5 a0 H) λv7 H=>
  some (v7,H))
theorem aht:Rn1 182 abR:=λ_ _ _ _ h=>
 rnG an0 Tryz.func182 (by kernel_rfl) (by kernel_rfl) h
def QM(C:ak)(a0 a1 a2:AV)(H:ah):OA:=
 bo (aU a0) λv8=> fld v8 4 H λv10 H=> bo (un .not v10) λv11=> gl v11 false (some a0) H λv13 H=> gl v11 false (aU v13) H λv14 H=> gdA (some v11) false (lda 6 v14 H) H λv15 H=> gl v11 false (some a1) H λv16 H=> gdA (some v11) false (C 222 [v15,v16] H) H λv17 H=> gl v11 false (un .not v17) H λv18 H=> bo (bQ v11 (B true) v18) λv19=>
 bF v19
 (some ((B false),H))
 (bo (aU a0) λv22=> fld v22 5 H λv24 H=> bnd (C 36 [v24] H) λv25 H=> bo (aU a0) λv26=> bo (aN v26 5) λv27=> bnd (st 1 v27 v25 H) λ_ H=>
  bo (aU a0) λv29=> fld v29 5 H λv31 H=> bnd (ix 1 v31 a1 H) λv34 H=> bnd (st 1 v34 a2 H) λ_ H=>
  some ((B true),H))
theorem V6:Rn3 190 QM:=λ_ _ _ _ _ _ h=>
 rnG an0 Tryz.func190 (by kernel_rfl) (by kernel_rfl) h
def ahu:Ann:=⟨[],[(1,rF 11 [])],[]⟩
def abS(C:ak)(a0:AV)(H:ah):OA:=
 bo (aU a0) λv4=> fld v4 1 H λv6 H=> bo (aU a0) λv8=> fld v8 0 H λv10 H=> bnd (lnS v10 H) λv11 H=> bo (bi .sub 3 v6 v11) λv12=>
 some (v12,H)
theorem ahv:Rn1 194 abS:=λ_ _ _ _ h=>
 rnG ahu Tryz.func194 (by kernel_rfl) (by kernel_rfl) h
def ahw:Ann:=⟨[],[(3,rF 6 (some true::rF 5 []))],[]⟩
def V7(C:ak)(a0 a1:AV)(H:ah):OA:=
 bnd (iC 81 a1 H) λv3 H=>
 bnd (C 194 [a0] H) λv6 H=> bo (bi .eql 3 v6 (I 0)) λv7=>
 bF v7
 (some ((I 5),H))
 (bo (aU a0) λv10=> fld v10 0 H λv12 H=> bnd (lda 9 v3 H) λv13 H=> bnd (unG H (C 116 [v13] H.guard)) λv14 H=> bnd (bs 175 1 [(0,v14)] H) λv15 H=> bnd (app 81 9 88 v12 v15 H) λv16 H=> bo (aU a0) λv17=> bo (aN v17 0) λv18=> bnd (st 1 v18 v16 H) λ_ H=>
  some ((I 0),H))
theorem abT:Rn2 197 V7:=λ_ _ _ _ _ h=>
 rnG ahw Tryz.func197 (by kernel_rfl) (by kernel_rfl) h
def abU(C:ak)(a0 a1:AV)(H:ah):OA:=
 bnd (iC 31 a0 H) λv2 H=>
 bo (bi .lss 3 a1 (I 0)) λv8=> gl v8 false (some a1) H λv10 H=> gl v8 false (aN v2 1) H λv11 H=> gdA (some v8) false (ld v11 H) H λv12 H=> gl v8 false (bi .geq 3 v10 v12) H λv13 H=> bo (bQ v8 (B true) v13) λv14=>
 bF v14
 (some ((.s (Go.Value.slice none 0 0)),H))
 (fld v2 2 H λv16 H=> bnd (mks 3 1 8 [zI] v16 v16 H) λv17 H=>
  fld v2 2 H λv20 H=> bo (bi .mul 3 a1 v20) λv21=> fld v2 7 H λv23 H=> bnd (lnS v23 H) λv24 H=> bnd (dV (jm Tryz.prog false #[3,3] 3 [v21,v24]) H) λv25 H=>
  fld v2 7 H λv28 H=> bo (slS 1 v28 (some v25) none none) λv30=> bnd (cpy 1 v17 v30 H) λv31 H=>
  some (v17,H))
theorem ahx:Rn2 204 abU:=λ_ _ _ _ _ h=>
 rnG an0 Tryz.func204 (by kernel_rfl) (by kernel_rfl) h
def KZ(C:ak)(a0 a1 a2:AV)(H:ah):OA:=
 bo (bi .geq 3 a0 a1) λv9=> gl v9 true (some a0) H λv11 H=> gl v9 true (some a2) H λv12 H=> gl v9 true (bi .lss 3 v11 v12) H λv13 H=> bo (bQ v9 v13 (B false)) λv14=>
 some (v14,H)
theorem abV:Rn3 211 KZ:=λ_ _ _ _ _ _ h=>
 rnG an0 Tryz.func211 (by kernel_rfl) (by kernel_rfl) h
def V8:Ann:=⟨[(4,[3,7,8,9]),(8,[3,7,8,9,18])],[],[]⟩
def xH:=jF Tryz.prog Tryz.f212 30 V8 0
def Bz:=jF Tryz.prog Tryz.f212 30 V8 1
def abW(C:ak)(a0:AV)(H:ah):OA:=
 bnd (lnS a0 H) λv8 H=>
 xH C [(.s (Go.Value.int Go.IntKind.u16 65535)),a0,v8,(I 0)] H
theorem QN(C:ak)(t3 t7 t8 t9:AV)(H:ah):xH C [t3,t7,t8,t9] H=
 bo (bi .lss 3 t9 t8) λv10=>
 bF v10
 (bnd (ix 1 t7 t9 H) λv11 H=> bnd (ld v11 H) λv12 H=>
  bnd (cv 5 42 v12 H) λv15 H=> bo (bi .shl 42 v15 (.s (Go.Value.int Go.IntKind.u64 8))) λv16=> bo (bi .xor 42 t3 v16) λv17=>
  Bz C [v17,t7,t8,t9,(I 0)] H)
 (some (t3,H)):=
 lpE.trans (by kernel_rfl)
theorem QO(C:ak)(t3 t7 t8 t9 t18:AV)(H:ah):Bz C [t3,t7,t8,t9,t18] H=
 bo (bi .lss 3 t18 (I 8)) λv19=>
 bF v19
 (bo (bi .shr 42 t3 (.s (Go.Value.int Go.IntKind.u64 15))) λv21=>
  bo (bi .shl 42 t3 (.s (Go.Value.int Go.IntKind.u64 1))) λv23=> bo (bi .mul 42 v21 (.s (Go.Value.int Go.IntKind.u16 4129))) λv25=> bo (bi .xor 42 v23 v25) λv26=>
  bo (bi .add 3 t18 (I 1)) λv27=>
  Bz C [v26,t7,t8,t9,v27] H)
 (bo (bi .add 3 t9 (I 1)) λv28=>
  xH C [t3,t7,t8,v28] H):=
 lpE.trans (by kernel_rfl)
theorem ahy:Rn1 212 abW:=λ_ _ _ _ h=>
 rnG V8 Tryz.func212 (by kernel_rfl) (by kernel_rfl) h
def V9:Ann:=⟨[(4,[0,3,9,10,11]),(12,[6,25,26,27])],[],[]⟩
def IZ:=jF Tryz.prog Tryz.f213 36 V9 0
def I4:=jF Tryz.prog Tryz.f213 36 V9 1
def BA(C:ak)(t0 t3 t9 t10 t11:AV)(H:ah):OA:=
 bo (bi .add 3 t11 (I 1)) λv22=>
 IZ C [t0,t3,t9,t10,v22] H
def abX(C:ak)(a0:AV)(H:ah):OA:=
 bnd (lnS a0 H) λv10 H=>
 IZ C [a0,(I 0),a0,v10,(I 0)] H
theorem I5(C:ak)(t0 t3 t9 t10 t11:AV)(H:ah):IZ C [t0,t3,t9,t10,t11] H=
 bo (bi .lss 3 t11 t10) λv12=>
 bF v12
 (bnd (ix 1 t9 t11 H) λv13 H=> bnd (ld v13 H) λv14 H=>
  bnd (lnS v14 H) λv17 H=> bo (bi .add 3 t3 v17) λv18=>
  bo (bi .lss 3 v18 (I 0)) λv20=>
  bF v20
  (bnd (stk H) λv21 H=> bnd (stk H) λ_ H=>
  BA C t0 v18 t9 t10 t11 H)
  (BA C t0 v18 t9 t10 t11 H))
 (bnd (C 234 [(.s (Go.Value.slice none 0 0)),t3] H) λv24 H=>
  bnd (lnS t0 H) λv26 H=>
  I4 C [v24,t0,v26,(I 0)] H):=
 lpE.trans (by kernel_rfl)
theorem I7(C:ak)(t6 t25 t26 t27:AV)(H:ah):I4 C [t6,t25,t26,t27] H=
 bo (bi .lss 3 t27 t26) λv28=>
 bF v28
 (bnd (ix 1 t25 t27 H) λv29 H=> bnd (ld v29 H) λv30 H=>
  bnd (app 5 1 1 t6 v30 H) λv33 H=>
  bo (bi .add 3 t27 (I 1)) λv34=>
  I4 C [v33,t25,t26,v34] H)
 (some (t6,H)):=
 lpE.trans (by kernel_rfl)
theorem ahz:Rn1 213 abX:=λ_ _ _ _ h=>
 rnG V9 Tryz.func213 (by kernel_rfl) (by kernel_rfl) h
def Wh(C:ak)(a0 a1:AV)(H:ah):OA:=
 bnd (iC 100 a0 H) λv2 H=>
 bo (bi .geq 3 a1 (I 0)) λv6=> gl v6 true (some a1) H λv8 H=> gl v6 true (aN v2 5) H λv9 H=> gdA (some v6) true (ld v9 H) H λv10 H=> gdA (some v6) true (lnS v10 H) H λv11 H=> gl v6 true (bi .lss 3 v8 v11) H λv12 H=> bo (bQ v6 v12 (B false)) λv13=>
 some (v13,H)
theorem ahA:Rn2 222 Wh:=λ_ _ _ _ _ h=>
 rnG an0 Tryz.func222 (by kernel_rfl) (by kernel_rfl) h
def Aq(l:List Pkt)(room:Int):List Cell:=[.seq 9 (l.flatMap Pkt.av),.av (I room)]
theorem uj(l:List Int):(l.map I).all AV.aJ=true:=by
 rw [za0];intro x hx;obtain⟨z,_,rfl⟩:=zaD.1 hx;rfl
theorem qV(l:List Int){d:Nat}:∀x∈l.map I,Frz (d+1) x:=λx hx=> by
 obtain⟨z,_,rfl⟩:=zaD.1 hx;exact fP
theorem tq {l:List Int}(h:l≠[]):dat l=.vs l.length 1 (l.map I):=by
 rw [dat,Ik h,KL]
theorem qp(H:ah)(l:List Int)(hl:l.length < 1000000000):cl 36 [dat l] H=some (dat l,H):=by
 by_cases h:l=[]
 ·subst h;refine iJ rfl rfl (YR _ _ _ (r:=(zN,H.guard)) ?_) jH;have e:bi .eql 22 zN zN=some (B true):=by kernel_rfl
  simp only [xq_,VL,dat,jo,e]
 ·have h0:l.length≠0:=λe=> h (zan e);have e2:=qg (e:=3) (by_:=8) (r:=H.guard.next) (H:=H.guard.new (.blk 0 3 [])) pY (gW _ l) (uj l) h0 (by unfold most;omega) (by unfold most;omega);simp only [yw,fC] at e2;refine iJ rfl rfl (YR _ _ _ (r:=(.sl (H.next+1) 0 0 1 l.length l.length false,(H.guard.new (.blk 0 3 [])).new (.blk 0 (3+gB) (l.map I)))) ?_) ?_
  ·have e1:bi .eql 22 (dat l) zN=some (B false):=by rw [tq h];exact qh Tryz.underlying22
   simp only [xq_,VL,e1,NU,vO,e2,zbi,zaR]
  ·rw [tq h];refine jW (by omega) (cells:=l.map I) ?_ (gQ _ λx hx=> qV l x hx _ _);simp only [bI,iw,fC,yw,if_true];rw [if_pos (by simp),zaM,zau (by simp)]
theorem adw(p:Pkt):Frz 9 (.agg p.av):=vN λx hx=> by
 simp only [Pkt.av,zai,zaK,or_false] at hx;rcases hx with rfl | rfl | rfl | rfl | rfl | rfl | rfl | rfl | rfl <;> first | exact fP | exact yK
theorem adx(H:ah)(p:Pkt)(hl:p.data.length < 1000000000):cl 116 [.agg p.av] H=some (.agg p.av,H):=by
 have e1:=λH=> qp H p.data hl;refine bC rfl rfl (agZ _ _ _) ?_ (adw p);simp only [Nat.reduceLT,Nat.reduceAdd,aP,xq_,hq_,abe,aO,Pkt.av,e1]
section
variable {b:Nat}{H:ah}{g:bJ}{q:Nat}{l:List Pkt}{room:Int}
theorem YX(G:Good b H g)(h:g q=some (Aq l room))(h1:0<=room)(h2:room < 1000)(h3:l.length < 1000):
  cl 194 [.ref q 0 0] H=some (I (room - l.length),H):=by
 refine dU rfl rfl (ahv _ _ _ ?_);obtain⟨x,hx,c⟩:=G.seq h (i:=0) rfl;have e1:=G.load h (i:=1) rfl;have e2:=(c.is (by decide) (dX pX l)).lnS;simp only [xq_,abS,hx,e1,e2,sG];rw [wrap_i64 (by omega) (by omega)]
theorem ady(G:Good b H g)(hb:H.base<=b)(h:g q=some (Aq l room))(h1:0<=room)(h2:room < 1000)(h3:l.length < 1000)(p:Pkt)(hp:p.data.length < 1000000000):
  ∃H',cl 197 [.ref q 0 0,.agg p.av] H=some (I (if room=l.length then 5 else 0),H')/\Good b H' (upd g q (Aq (if room=l.length then l else l++[p]) room))/\Step b H H':=by
 have G1:=G.new (.blk 0 81 p.av);have e1:=YX G1 h h1 h2 h3;by_cases hr:room=l.length
 ·refine⟨_,dU rfl rfl (abT _ _ _ _ (r:=(_,H.new (.blk 0 81 p.av))) ?_),?_,Step.new _ G.1⟩
  ·simp only [Nat.reduceLT,xq_,hq_,V7,aO (oW p),e1,hr,Int.sub_self]
  ·rw [if_pos hr,aay h];exact G1
 ·have hr':¬room - (l.length:Int)=0:=by omega
  obtain⟨x,hx,c⟩:=G1.seq h (i:=0) rfl;have e2:=jw (H:=H.new (.blk 0 81 p.av)) (r:=H.next) (off:=0) (n:=9) (pY) (by simp [Pkt.av]);have e3:=adx (H.new (.blk 0 81 p.av)).guard p hp;obtain⟨x',H1,H2,a1,a2,a3,a4⟩:=(G1.new (.blk 0 81 p.av)).append (e:=81) (by_:=88) hb h (i:=0) rfl (by decide) (dX pX l) (c.new _) (mJ (ex:=true) (n:=1) (m:=9) (l:=p.av) rfl) (oW p) (by unfold most;omega) (by unfold most;omega);refine⟨H2,dU rfl rfl (abT _ _ _ _ ?_),?_,(((Step.new _ G.1).trans (Step.new _ (G.new _).1)).trans a4)⟩
  ·simp only [fC] at a1;simp only [Nat.reduceLT,xq_,V7,aO (oW p),e1,hr',hr,hx,e2,zaM,e3,afa,zch,Nat.reduceLeDiff,Qn,nT (m:=9) (z:=[zI,zI,zI,zI,zI,zI,zI,zB,zN]) (v:=.agg p.av) rfl rfl (oW p),eH,a1,a2]
  ·rw [if_neg hr];have:Aq (l++[p]) room=(Aq l room).set 0 (.seq 9 (l.flatMap Pkt.av++p.av)):=by simp [Aq]
   rw [this];exact a3
theorem xI {α:Type}{enc:α->List AV}{m:Nat}(he:∀a,(enc a).length=m){L:List α}{x:AV}(hs:aA H x m L.length (L.flatMap enc)){i:Nat}{a:α}(hi:L[i]?=some a):lda m (dM x i) H=some (.agg (enc a),H):=by
 have hl:i < L.length:=(zah.1 hi).1;rw [hs.lda hl,Ih he L i a hi]
end
open Go.RowKit
section
variable {P:Program}{C:ak}{A:Ann}{n:Nat}
theorem Gj {L:List Nat}{c:Code}(hc:KE A n c (nC L) (λ_=> 0) 0=true){t:eu}{e:Env}{H H1:ah}{vs:List AV}(ht:Ag n (vJ A c (nC L) (λ_=> 0) 0) t e)
  (h:jE P C A n c e H (λe H=> some (uI L e,H)) (λ_ _ _=> none) (λ_ _=> none)=some (vs,H1)):
  ∃t1,dQ P C c t H=some (.normal,t1,H1)/\∃e1,Ag n (nC L) t1 e1/\uI L e1=vs:=by
 open Classical in
 have key:=Df (P:=P) (C:=C) (β:=List AV × ah) A c (nC L) (λ_=> 0) 0 hc
  (λt H=> if hx:∃e1,Ag n (nC L) t e1/\uI L e1=vs then(if H=H1 then some (vs,H) else none) else none) (λe H=> if uI L e=vs/\H=H1 then some (vs,H) else none)
  (λ_ _ _=> none) (λ_ _ _=> none) (λ_ _=> none) (λ_ _=> none)
  (λt e H ha r hr=> by
   split at hr
   ·rename_i hh;rw [dif_pos ⟨e,ha,hh.1⟩,if_pos hh.2];exact hr
   ·cases hr) (λ_ _ _ _ _=> Le.refl _) (λ_ _ _ _=> Le.refl _) t e H ht
 have tl:=FX (P:=P) (C:=C) (A:=A) (n:=n) (β:=List AV × ah) c e H (λk e H=> k (uI L e) H) (λ_ _ _ _=> none) (λ_ _ _=> none) (λt H=> U6 _ _) (λ_ _ _=> fE _) (λ_ _=> fE _);have h1:jE P C A n c e H (λe H=> (λs H=> some (s,H)) (uI L e) H) (λ_ _ _=> none) (λ_ _=> none)=some (vs,H1):=h;have h2:jE P C A n c e H (λe H=> if uI L e=vs/\H=H1 then some (vs,H) else none) (λ_ _ _=> none) (λ_ _=> none)=some (vs,H1):=by
  rcases tl (λs H=> some (s,H)) _ h1 with h3 | ⟨s,H',h3,h4⟩
  ·exact h3 λs H=> if s=vs/\H=H1 then some (vs,H) else none
  ·cases h3;exact h4 (λs H=> if s=vs/\H=H1 then some (vs,H) else none) (by simp)
 have h3:=key _ h2;cases hx:dQ P C c t H with
 | none=> rw [hx] at h3;cases h3
 | some q=>
  obtain⟨ex,t1,H2⟩:=q;rw [hx] at h3;cases ex with
  | normal=>
   simp only [KH] at h3;split at h3
   ·rename_i he;split at h3
    ·rename_i hH;subst hH;exact⟨t1,rfl,he⟩
    ·cases h3
   ·cases h3
  | exit i=> cases h3
  | ret=> cases h3
theorem Wi {c:Code}{rs:List ResultVar}(hc:KE A n c (MN rs) (λ_=> 0) (MN rs)=true){t:eu}{e:Env}{H:ah}{r:AV × ah}(ht:Ag n (vJ A c (MN rs) (λ_=> 0) (MN rs)) t e)
  (h:jE P C A n c e H (JG P n rs) (λ_ _ _=> none) (JG P n rs)=some r):
  ∃ex t1,(ex=.normal∨ex=.ret)/\dQ P C c t H=some (ex,t1,r.2)/\iE P rs t1 r.2=some r.1:=by
 have hr:∀t e H,Ag n (MN rs) t e->Le (JG P n rs e H) ((iE P rs t H).map λv=> (v,H)):=λt e H h=> by
  rw [Vd _ h];exact Le.refl _
 have h1:=Df (P:=P) (C:=C) A c _ _ _ hc _ _ _ _ _ _ hr (λ_ _ _ _ _=> Le.refl _) hr t e H ht r h;cases hx:dQ P C c t H with
 | none=> rw [hx] at h1;cases h1
 | some q=>
  obtain⟨ex,t1,H2⟩:=q;rw [hx] at h1;cases ex with
  | exit i=> cases h1
  | normal=>
   simp only [KH] at h1;cases hq:iE P rs t1 H2 with
   | none=> rw [hq] at h1;cases h1
   | some v=>
    rw [hq] at h1;simp only [zaf,zaa] at h1;subst h1;exact⟨_,t1,.inl rfl,rfl,hq⟩
  | ret=>
   simp only [KH] at h1;cases hq:iE P rs t1 H2 with
   | none=> rw [hq] at h1;cases h1
   | some v=>
    rw [hq] at h1;simp only [zaf,zaa] at h1;subst h1;exact⟨_,t1,.inr rfl,rfl,hq⟩
theorem ahB {o:Oper}{a:Act}{w:World}{K:Act->World->Prop}{Q:Exit->Act->World->Prop}{l m:Nat}(hd:∀c,o.op≠.defer c)(h:o.wp P a w K Q):o.wpIn (Fence.wide.inRound l) m P a w K Q:=by
 unfold Oper.wpIn;refine⟨λ_ _=> trivial,?_⟩;rw [Oper.semAt_eq _ _ _ hd];unfold Oper.wp at h;generalize (execOp a.eval o).run P w=r at*;have dp:(Fence.wide.inRound l).depth.isSome=true->1<=m:=λh=> by cases h
 cases r with
 | ok x w'=>
  cases x <;> simp only [Oper.upon,Oper.uponIn] at h ⊢ <;> first
   | exact h
   | exact⟨dp,CallsIn.inRound l (callsIn_wide.2 h)⟩
   | exact h.elim
   | skip
  rename_i row args;exact⟨dp,λc cs hr=> let⟨v,w',r,s⟩:=h c cs;⟨v,w',r,stepsIn_wide.2 s⟩⟩
 | halt x w'=> cases x <;> simp only [Oper.upon,Oper.uponIn] at h ⊢ <;> exact h
def yY(o:Oper):Bool:=match o.op with
 | .defer _=> false
 | _=> true
theorem Gl {o:Oper}(h:yY o=true):∀c,o.op≠.defer c:=λc e=> by rw [yY,e] at h;cases h
theorem adz {ops:Array Oper}(hd:∀o∈ops,yY o=true){Q:Exit->Act->World->Prop}{i:Nat}{K:Act->World->Prop}{a:Act}{w:World}{l m:Nat}(hq:¬LetsOut Q)(h:wpOp P ops Q i K a w):wpOpIn (Fence.wide.inRound l) m P ops Q i K a w:=by
 unfold wpOp at h;unfold wpOpIn;split
 ·rename_i ho;rw [ho] at h;exact h
 ·rename_i o ho;rw [ho] at h;simp only at h;split
  ·rename_i hw;rw [if_pos hw] at h;exact ahB (Gl (hd o (Array.mem_of_getElem? ho))) (h.resolve_right λh=> hq h.2)
  ·rename_i hw;rw [if_neg hw] at h;exact⟨λ_ _=> trivial,h⟩
theorem YZ {ops:Array Oper}(hd:∀o∈ops,yY o=true){Q:Exit->Act->World->Prop}{l m:Nat}{md:Region.Mode}(hq:¬LetsOut Q):∀(fuel:Nat) (listed:Array Bool) (a:Act) (w:World),wpAny P md ops Q fuel listed a w->wpAnyIn (Fence.wide.inRound l) m P md ops Q fuel listed a w:=by
 intro fuel
 induction fuel with
 | zero=> intro listed a w h;exact h
 | succ fuel ih=>
  intro listed a w h;exact⟨h.1,λi hi=> wpOpIn_mono (λa w h=> ih _ a w h) (adz hd hq (h.2 i hi))⟩
def um(P:Program)(C:ak)(c:Code):Prop:=
 ∀l m t H e t' H',dQ P C c t H=some (e,t',H')->∀(ρ:Ren) (w:World) (a:Act),Rel ρ H w->TOn ρ H.gen w (λ_=> True) t a->∀Q:Exit->Act->World->Prop,¬LetsOut Q->aiT ρ H w a t' H' (Q e.to)->c.wpIn (Fence.wide.inRound l) m P Q a w
theorem Y0 {ops:List Oper}{t t':eu}{H H':ah}{ρ:Ren}{w:World}{a:Act}(hC:oC P C)(hKC:jM C)(h:vg P C ops t H=some (t',H'))(R:Rel ρ H w)(TR:TOn ρ H.gen w (λ_=> True) t a){Q:Exit->Act->World->Prop}
  (hQ:∀a' ρ' w',Rel ρ' H' w'->TOn ρ' H'.gen w' (λ_=> True) t' a'->Ext ρ H w ρ' H' w'->a'.defers=a.defers->Q .normal a' w'):wpAny P .any ops.toArray Q ops.toArray.size (Array.replicate ops.toArray.size false) a w.drew:=by
 unfold vg at h;split at h <;> first | (cases h;done) | skip
 rename_i hok;split at h <;> first | (cases h;done) | skip
 rename_i t0 H0 hcr;obtain⟨hrun,aiS⟩:dW P C ops (kY ops) t0 H0=some (t',H')/\∀p∈kD ops,agree P C ops H.next t0 H0 p:=by
  split at h
  ·rename_i he;rw [he];exact⟨h,by simp⟩
  ·split at h <;> first | (cases h;done) | skip
   rename_i ha;exact⟨h,ha⟩
 have F:=zD hok;have hmem:∀j,j∈lZ ops↔j < ops.length/\cst ops j=true:=λj=> by simp [lZ,za6,zaY]
 obtain⟨hf,hg,hlen,nm,vl,h1,h2,h3⟩:=qM (lZ ops) t H t0 H0 (List.nodup_range.filter _) (λj hj=> ((hmem j).1 hj).2)
  (λi _ j _ oi oj d a1 a2 a3 a4=> F.ais i j oi oj d a1 a2 a3 a4) hcr
 obtain⟨T,Hp,val,S,hend,hval⟩:=Fq hrun vl;obtain⟨hgen,RH0,EH0⟩:=Ko R hf hg;obtain⟨ρ1,w1,a1,g1,g2⟩:=vC hC _ _ _ _ _ ρ w a hcr R TR;have D:Yo P C ops t H t0 H0 T Hp val nm:={
  facts:=F
  S:=S
  names:=λj hj hc=> by
   obtain⟨o,q1,q2,q3,q4,q5⟩:=h1 j ((hmem j).2 ⟨hj,hc⟩);exact⟨o,q1,q2,q3,by rw [hval j hc];exact q4,λd hd hl=> by rw [hval j hc];exact q5 d hd hl⟩
  inj:=λi j hi hj ci cj e=> h2 i ((hmem i).2 ⟨hi,ci⟩) j ((hmem j).2 ⟨hj,cj⟩) e
  rest:=λd hd=> h3 d λj hj o ho=> hd j ((hmem j).1 hj).2 o ho
  len:=hlen
  fresh:=hf
  akV:=hg
  agr:=aiS
  ghost:=λp hp d=> by
   obtain⟨ρ2,w2,a2,r1,r2⟩:=Fv hC S g1 g2 p hp;exact RV.nv r1.out _ _ (r2.any d trivial)
  keeps:=hKC }
 have e1:T ops.length=t':=by rw [<-Prod.mk.inj hend |>.1]
 have e2:Hp ops.length=H':=by rw [<-Prod.mk.inj hend |>.2]
 have hli:∀j,¬Li (Array.replicate ops.toArray.size false) j:=λj=> by
  unfold Li;simp [Array.getD]
 refine ZY hC D (a0:=a) (λa' ρ' w' q1 q2 q3 q4=> hQ a' ρ' w' (by rw [<-e2];exact q1) (by rw [<-e1,<-e2];exact q2) (by rw [<-e2];exact q3) q4) ops.toArray.size _ a w.drew 0 ρ (by simp [wJ]) ?_;refine⟨by simp,λj o _ hl=> absurd hl (hli j),zaR _,λi _ _=> ⟨λhl=> absurd hl (hli i),λh=> by omega⟩,by rw [S.zero.2];exact RH0.drew,λk hk hc _=> ?_,?_,TR.size,λd hd=> ⟨λj o _ hl=> absurd hl (hli j),λ_=> ?_⟩,rfl⟩
 ·obtain⟨_,_,q1,_⟩:=D.names k hk hc;exact(R.out _ q1).1
 ·rw [S.zero.2];exact EH0.trans (Ext.drew ρ H0 w)
 ·rw [S.zero.2,hgen];exact RV.mono (Ext.drew ρ H w).toMono _ _ (TR.get d trivial hd)
theorem Ot(hC:oC P C)(hKC:jM C)(hm:P.follows .mixedOrders=true){id:Nat}{ops:Array Oper}(hd:∀o∈ops,yY o=true):um P C (.region id ops true):=by
 intro l m t H e t' H' h ρ w a R T Q hlo hQ;simp only [dQ,if_true] at h;split at h <;> first | (cases h;done) | skip
 rename_i t1 H1 hdr;simp only [zaa,zad] at h;obtain⟨rfl,rfl,rfl⟩:=h;have:=Y0 hC hKC hdr R T (Q:=Q) hQ;rw [show ops.toList.toArray=ops from rfl] at this;exact wpIn_region_any hm (YZ hd hlo _ _ _ _ this)
theorem Ou {id:Nat}{c:Code}(hc:um P C c):um P C (.block id c):=by
 intro l m t H e t' H' h ρ w a R T Q hlo hQ;simp only [dQ] at h;refine wpIn_block ?_;unfold zG at h;have hl:¬LetsOut (Exit.inBlock id Q):=λ⟨a,w,h⟩=> hlo ⟨a,w,h⟩;split at h
 ·rename_i i t1 H1 hf;refine hc l m t H _ t1 H1 hf ρ w a R T _ hl λa2 ρ2 w2 r1 r2 r3 r4=> ?_;simp only [Ex.to,Exit.inBlock];split at h
  ·rename_i hid;simp only [zaa,zad] at h;obtain⟨rfl,rfl,rfl⟩:=h;rw [if_pos hid];exact hQ a2 ρ2 w2 r1 r2 r3 r4
  ·rename_i hid;simp only [zaa,zad] at h;obtain⟨rfl,rfl,rfl⟩:=h;rw [if_neg hid];exact hQ a2 ρ2 w2 r1 r2 r3 r4
 ·rename_i t1 H1 hf;simp only [zaa,zad] at h;obtain⟨rfl,rfl,rfl⟩:=h;exact hc l m t H _ t1 H1 hf ρ w a R T _ hl hQ
 ·rename_i t1 H1 hf;simp only [zaa,zad] at h;obtain⟨rfl,rfl,rfl⟩:=h;exact hc l m t H _ t1 H1 hf ρ w a R T _ hl hQ
 ·cases h
def tu(H:ah):Prop:=∀r k es,H.get r≠.map k es
theorem tu.cells {H:ah}(h:tu H){ρ:Ren}{w:World}(R:Rel ρ H w){r b sh:Nat}(hr:ρ r=some (b,sh)):∃cs e,w.heap[b]?=some (.cells cs e (0,0)):=by
 have:=R.obj r b sh hr;cases hg:H.get r with
 | blk g ty cells=>
  rw [hg] at this;obtain⟨cs,e,h1,_⟩:=this;exact⟨cs,e,h1⟩
 | map k es=> exact absurd hg (h r k es)
theorem tu.imm {H:ah}(h:tu H){ρ:Ren}{w:World}(R:Rel ρ H w){b:Nat}{o:Obj}(ho:w.heap[b]?=some o)(hc:o.isCells=false):Imm ρ b:=λr sh hr=> by
 obtain⟨cs,e,h1⟩:=h.cells R hr;rw [ho] at h1;cases h1;cases hc
end
structure Grn(w w':World):Prop where
 size:w.heap.size<=w'.heap.size
 cell:∀b o v,w.cell? ⟨b,o,none⟩=some v->w'.cell? ⟨b,o,none⟩=some v
 shape:∀b e m,w.shape? b=some (e,m)->w'.shape? b=some (e,m)
mutual
theorem RV.grn {ρ:Ren}{G:Nat->Nat}{w w':World}(M:Grn w w'):∀(x:AV) (v:Value),RV ρ G w x v->RV ρ G w' x v
 | .s _,_,h=> by simpa only [RV] using h
 | .ref r g off,v,h=> by simpa only [RV] using h
 | .sl r g off esz len cap ex,v,h=> by
  obtain⟨b,o,c,e,k1,k2,k3,h1,h2⟩:=(by simpa only [RV] using h)
  simp only [RV];refine⟨b,o,c,e,k1,k2,k3,h1,λhg=> ?_⟩;obtain⟨sh,ty,k,q1,q2,q3,q4⟩:=h2 hg;exact⟨sh,ty,k,q1,q2,M.shape _ _ _ q3,q4⟩
 | .ip cells,v,h=> by
  obtain⟨b,o,e,hb,hi,h1⟩:=(by simpa only [RV] using h)
  simp only [RV];exact⟨b,o,e,zaw hb M.size,hi,RVc.grn M cells b o h1⟩
 | .vs m esz cells,v,h=> by
  obtain⟨b,o,c,e,k1,k2,hb,hi,h1⟩:=(by simpa only [RV] using h)
  simp only [RV];exact⟨b,o,c,e,k1,k2,zaw hb M.size,hi,RVc.grn M cells b o h1⟩
 | .mp r,v,h=> by simpa only [RV] using h
 | .fn f a c,v,h=> by
  obtain⟨a',c',e,h1,h2⟩:=(by simpa only [RV] using h)
  simp only [RV];exact⟨a',c',e,RVs.grn M a _ h1,RVs.grn M c _ h2⟩
 | .agg cells,v,h=> by
  obtain⟨cs,e,h1⟩:=(by simpa only [RV] using h)
  simp only [RV];exact⟨cs,e,RVs.grn M cells _ h1⟩
 | .tup cells,v,h=> by
  obtain⟨cs,e,h1⟩:=(by simpa only [RV] using h)
  simp only [RV];exact⟨cs,e,RVs.grn M cells _ h1⟩
theorem RVs.grn {ρ:Ren}{G:Nat->Nat}{w w':World}(M:Grn w w'):∀(xs:List AV) (l:List Value),RVs ρ G w xs l->RVs ρ G w' xs l
 | [],_,h=> by simpa only [RVs] using h
 | x::xs,l,h=> by
  obtain⟨y,ys,e,h1,h2⟩:=(by simpa only [RVs] using h)
  simp only [RVs];exact⟨y,ys,e,RV.grn M x y h1,RVs.grn M xs ys h2⟩
theorem RVc.grn {ρ:Ren}{G:Nat->Nat}{w w':World}(M:Grn w w'):∀(xs:List AV) (b o:Nat),RVc ρ G w xs b o->RVc ρ G w' xs b o
 | [],_,_,_=> by simp only [RVc]
 | x::xs,b,o,h=> by
  obtain⟨⟨y,e,h1⟩,h2⟩:=(by simpa only [RVc] using h)
  simp only [RVc];exact⟨⟨y,M.cell _ _ _ e,RV.grn M x y h1⟩,RVc.grn M xs b (o+1) h2⟩
end
section
variable {P:Program}{C:ak}
theorem ahC {w w':World}{row:Option Nat}(hg:w.grownBy w' row)(hr:∀r,row=some r->∃o:Obj,w.heap[r]?=some o/\o.isCells=false):Grn w w':=by
 refine⟨hg.size,λb o v h=> cell_kept h hg hr,λb e m h=> ?_⟩;rw [dP] at h ⊢;cases hb:w.heap[b]? with
 | none=> rw [hb] at h;cases h
 | some ob=>
  have hc:ob.isCells=true:=by
   rw [hb] at h;cases ob <;> first | rfl | cases h
  rw [grownBy_keeps_cells hg hr hb hc];exact h
theorem tu.grown {H:ah}(h:tu H){ρ:Ren}{w w':World}(R:Rel ρ H w){row:Option Nat}{B:Nat}(hg:w.grownBy w' row)(hr:∀r,row=some r->B<=r/\∃o:Obj,w.heap[r]?=some o/\o.isCells=false)(hB:∀b∈fx.blocks,b < B):Rel ρ H w'/\Grn w w':=by
 have M:=ahC hg λr e=> (hr r e).2;refine⟨⟨R.out,λr b sh hrb=> ?_,R.inj,?_⟩,M⟩
 ·have h1:=R.obj r b sh hrb;obtain⟨cs0,e0,hb0⟩:=h.cells R hrb;have hk:=grownBy_keeps_cells hg (λr e=> (hr r e).2) hb0 rfl;cases ho:H.get r with
  | blk g ty cells=>
   rw [ho] at h1;obtain⟨cs,e,q1,q2,q3,q4⟩:=h1;exact⟨cs,e,by rw [hk];exact q1,q2,RVc.grn M _ _ _ q3,q4⟩
  | map k es=> exact absurd ho (h r k es)
 ·refine⟨λb hb=> ?_,fx.frame w w' (λb hb=> ?_) R.gl.2⟩
  ·obtain⟨h1,h2⟩:=R.gl.1 b hb;exact⟨zaw h1 hg.size,h2⟩
  ·refine hg.block b (R.gl.1 b hb).1 λe=> ?_;have:=(hr b e.symm).1;have:=hB b hb;omega
theorem Ext.grown {ρ ρ1:Ren}{H H1:ah}{w W W':World}(E:Ext ρ H w ρ1 H1 W){row:Option Nat}(hg:W.grownBy W' row)(hr:∀r,row=some r->w.heap.size<=r):Ext ρ H w ρ1 H1 W':=by
 have hb:∀b,b < w.heap.size->W'.heap[b]?=W.heap[b]?:=λb hb=> hg.block b (zaw hb E.size) λe=> by
  have:=hr b e.symm;omega
 exact⟨E.next,E.mono,E.same,E.kept,E.range,zaC E.size hg.size,λb h hi=> (hb b h).trans (E.frame b h hi),λb h=> by rw [<-E.shape b h,dP,dP,hb b h],hg.os.trans E.os,hg.tape.trans E.tape,hg.output.trans E.output⟩
def KpC(CP:World->Prop)(A B:World):Prop:=CP A->CP B
theorem Y1(hm:P.follows .mixedOrders=true){t:eu}{H:ah}{ρ:Ren}{w:World}{a:Act}(R:Rel ρ H w)(T:TOn ρ H.gen w (λ_=> True) t a)
  {g:Operand} {p d:Tmp} (hp:p < t.length) (hpd:p≠d) {ida:Nat} {ty:TypeId} {pos:String} {aft:Array Edge} {body:Code}
  {gf:Nat} {lb:Array Value} (hg:a.eval g=.func (.func gf) #[] lb) (eg:∀args w,(callFunc gf args).run P w=.ok (.enter gf args) w)
  {N:Nat} (vs:Fin N->AV) (cvs:Fin N->Value) (hv:∀x,RV ρ H.gen w (vs x) (cvs x)) (CP:World->Prop) (hL:∀(W:World) (l:Nat) (o o':Obj),w.heap.size<=l->W.heap[l]?=some o->o.isCells=false->CP W->CP (W.putObj l o'))
  (hseq:∀n,1<=n->SeqStopsK Fence.wide n P gf lb (λx=> #[cvs x]) (KpC CP) (λys=> ys.map (λx:Fin N=> x.val)=List.range N) (λ_=> True) N w)
  (Inv:List (Fin N)->ah->Prop) (h0:Inv [] H) (hnm:∀pre H1,Inv pre H1->tu H1)
  (hcell:∀pre H1 ρ1 W,Inv pre H1->Rel ρ1 H1 W->Ext ρ H w ρ1 H1 W->CP W)
  (hrun:∀pre x H1,Inv pre H1->pre.length < N->∃t2 H2,dQ P C body (rO (rO t (some p) (vs x)) (some d) (vs x)) H1=some (.normal,t2,H2)/\Inv (pre++[x]) H2)
  (hin:um P C body) {Q:Exit->Act->World->Prop}
  (hQ:∀xs H1 D W ρ1,xs.map (λx:Fin N=> x.val)=List.range N->Inv xs H1->Rel ρ1 H1 W->Ext ρ H w ρ1 H1 W->W.heap[D]?=some (.deferred (some []))->Imm ρ1 D->w.heap.size<=D->Q .normal { a with defers:={ target:=.collected D,args:=#[] }::a.defers } W):
  (Code.rangeFunc g #[p] (.region ida #[{ dst:=some d,op:=.assign (.tmp p),type:=ty,pos:=pos,after:=aft,guard:=none }] false) body).wp P Q a w:=by
 refine(wpIn_wide (n:=9)).1 ?_;have hpa:p < a.tmps.size:=by rw [T.size];exact hp
 let a0:Fin N->Act:=λx=> { tmps:=a.tmps.setIfInBounds p (cvs x),defers:=[] }
 let I:List (Fin N)->World->Prop:=λpre W=>∃H1 ρ1,Inv pre H1/\Rel ρ1 H1 W/\Ext ρ H w ρ1 H1 W
 have hfx:∀b∈fx.blocks,b < w.heap.size:=λb hb=> (R.gl.1 b hb).1;refine wpIn_rangeFunc_ownF (F:=Fence.wide) (α:=Fin N) rfl (by decide) (gf:=gf) (lb:=lb) hg trivial eg (hseq 8 (by decide)) (λh k hx=> k (h hx)) ?hKb (Below.refl _ _) (λ_=> rfl) I (λ_ _ _=> False) ?hI (λ_ _ _ _ _ h _ _=> h) ⟨H,ρ,h0,R,Ext.refl _ _ _⟩ (λx=> (a0 x).put (some d) (cvs x)) ?hassign ?hbody ?hdone (λ_ _ _ _ _ _ h _=> h.elim)
 case hKb=>
  intro W l o o' hl ho hc _ hx;exact hL W l o o' hl ho hc hx
 case hI=>
  rintro pre W W' row ⟨H1,ρ1,i1,i2,i3⟩ hgr hr;obtain⟨r1,_⟩:=(hnm pre H1 i1).grown i2 hgr hr hfx;exact⟨H1,ρ1,i1,r1,i3.grown hgr λr e=> (hr r e).1⟩
 case hassign=>
  intro l x W K hK;refine wpIn_region ?_;have e1:(#[p].zip #[cvs x]).foldl (λt q=> t.setIfInBounds q.1 q.2) a.tmps=a.tmps.setIfInBounds p (cvs x):=by simp
  have e2:({ tmps:=a.tmps.setIfInBounds p (cvs x),defers:=[] }:Act).eval (.tmp p)=cvs x:=by
   simp [Act.eval,Array.getD,hpa]
  show wpOpsIn _ _ P _ _ [0] _ W;simp only [wpOpsIn,List.getElem?_toArray,za2,Region.wanted,if_true];refine ahB (Gl rfl) ?_;unfold Oper.wp;have e3:execOp ({ tmps:=a.tmps.setIfInBounds p (cvs x),defers:=[] }:Act).eval { dst:=some d,op:=.assign (.tmp p),type:=ty,pos:=pos,after:=aft,guard:=none }=pure (.value (cvs x)):=by
   show pure (Next.value _)=_;rw [e2]
  have e4:((#[p].zip #[cvs x]).foldl (λt x=> match x with | (p,v)=> t.setIfInBounds p v) a.tmps)=a.tmps.setIfInBounds p (cvs x):=by simp
  rw [e4,e3];exact hK
 case hbody=>
  rintro l pre x W ⟨H1,ρ1,i1,i2,i3⟩ hlen;obtain⟨t2,H2,r1,r2⟩:=hrun pre x H1 i1 hlen;have hvx:=RV.mono i3.toMono _ _ (hv x);have T0:TOn ρ1 H1.gen W (λ_=> True) (rO t (some p) (vs x)) (a0 x):=⟨((T.keep i3).put (some p) hvx).size,((T.keep i3).put (some p) hvx).get⟩
  have T1:=T0.put (some d) hvx;refine hin l _ _ H1 _ t2 H2 r1 ρ1 W _ i2 T1 _ (λ⟨_,_,h⟩=> h) λa' ρ' w' q1 q2 q3 q4=> ?_;refine⟨⟨q3.size,λk o ho hc=> ?_⟩,λ_=> hcell _ H2 ρ' w' r2 q1 (i3.trans q3),H2,ρ',r2,q1,i3.trans q3⟩;rw [q3.frame k (zbp.1 ho).1 ((hnm pre H1 i1).imm i2 ho hc)];exact ho
 case hdone=>
  rintro D xs W hD hS ⟨H1,ρ1,i1,i2,i3⟩ hK;exact hQ xs H1 D W ρ1 hS i1 i2 i3 hK ((hnm xs H1 i1).imm i2 hK rfl) hD
end
def apz(e:TypeId)(m by_:Nat)(z:List AV)(x y:AV):AM AV:=λH=> match y with
 | .s (.int _ n)=> if 0<=n/\n<=most/\n*by_<=most then dD e m by_ x n.toNat (dh z n.toNat) H else none
 | _=> none
def tC:Ann:=⟨[],[(4,rF 40 (none::some false::[])),(7,rF 3 (some true::rF 4 []))],[]⟩
def Ov:Code:=match VX with
 | .seq a (.seq b (.seq c (.seq d (.seq (.seq e _) f))))=> .seq a (.seq b (.seq c (.seq d (.seq e .skip))))
 | _=> .skip
def Ox(C:ak)(t0:AV)(H:ah):Option (List AV × ah):=
 bnd (alc 81 [zI,zI,zI,zI,zI,zI,zI,zB,zN] H) λv2 H=>
 bnd (C 178 [t0] H) λv12 H=> bo (aX v12 0) λv13=> bo (aX v12 1) λv14=>
 bo (un .not v14) λv16=> gdA (some v16) false (dV (some v13) H) H λv18 H=> gdA (some v16) false (lnS v18 H) H λv19 H=> gdA (some v16) false (dV (bi .lss 3 v19 (I 10)) H) H λv20 H=> bo (bQ v16 (B true) v20) λv21=> gdA (some v21) false (dV (some v13) H) H λv23 H=> gdA (some v21) false (lnS v23 H) H λv24 H=> gdA (some v21) false (dV (some v13) H) H λv25 H=> gdA (some v21) false (ix 1 v25 (I 9) H) H λv26 H=> gdA (some v21) false (ld v26 H) H λv27 H=> gdA (some v21) false (cv 5 3 v27 H) H λv28 H=> gdA (some v21) false (dV (bi .mul 3 (I 8) v28) H) H λv29 H=> gdA (some v21) false (dV (bi .add 3 (I 10) v29) H) H λv30 H=> gdA (some v21) false (dV (bi .neq 3 v24 v30) H) H λv31 H=> bo (bQ v21 (B true) v31) λv32=>
 bF v32
 (bo (bd 81 []) λv33=> bnd (st 9 v2 v33 H) λ_ H=>
  none)
 (bnd (alc 81 [zI,zI,zI,zI,zI,zI,zI,zB,zN] H) λv6 H=> bnd (ix 1 v13 (I 0) H) λv35 H=> bnd (ld v35 H) λv36 H=> bnd (cv 5 3 v36 H) λv37 H=> bnd (ix 1 v13 (I 1) H) λv39 H=> bnd (ld v39 H) λv40 H=> bnd (cv 5 3 v40 H) λv41 H=> bnd (ix 1 v13 (I 2) H) λv43 H=> bnd (ld v43 H) λv44 H=> bnd (cv 5 3 v44 H) λv45 H=> bnd (ix 1 v13 (I 3) H) λv47 H=> bnd (ld v47 H) λv48 H=> bnd (cv 5 3 v48 H) λv49 H=> bo (bi .shl 3 v49 (.s (Go.Value.int Go.IntKind.u64 8))) λv50=> bnd (ix 1 v13 (I 4) H) λv52 H=> bnd (ld v52 H) λv53 H=> bnd (cv 5 3 v53 H) λv54 H=> bo (bi .or 3 v50 v54) λv55=> bnd (ix 1 v13 (I 5) H) λv57 H=> bnd (ld v57 H) λv58 H=> bnd (cv 5 3 v58 H) λv59 H=> bnd (ix 1 v13 (I 6) H) λv61 H=> bnd (ld v61 H) λv62 H=> bnd (cv 5 3 v62 H) λv63 H=> bo (bi .sub 3 v63 (I 1)) λv64=> bnd (ix 1 v13 (I 7) H) λv66 H=> bnd (ld v66 H) λv67 H=> bnd (cv 5 3 v67 H) λv68 H=> bnd (ix 1 v13 (I 8) H) λv70 H=> bnd (ld v70 H) λv71 H=> bo (bi .eql 5 v71 (.s (Go.Value.int Go.IntKind.u8 1))) λv72=> bo (bd 81 [(0,v37),(1,v41),(2,v45),(3,v55),(4,v59),(5,v64),(6,v68),(7,v72)]) λv73=> bnd (st 9 v6 v73 H) λ_ H=>
  bo (slS 1 v13 (some (I 10)) none none) λv75=> bnd (C 179 [v75,(I 8)] H) λv76 H=>
  some ([t0,v2,v6,v76],H))
theorem adA(C:ak)(t0:AV)(H:ah):jE Tryz.prog C tC 100 Ov [(0,t0)] H (λe H=> some (uI [0,2,6,76] e,H)) (λ_ _ _=> none) (λ_ _=> none)=Ox C t0 H:=by kernel_rfl
def I8:Code:=match VX with
 | .seq a (.seq b (.seq c (.seq d (.seq (.seq e (.block _ (.rangeFunc _ _ _ g))) f))))=> g
 | _=> .skip
def Oy(C:ak)(t6 t7:AV)(H:ah):Option (List AV × ah):=
 bo (aN t6 8) λv78=> bnd (ld v78 H) λv79 H=> bnd (unG H (C 180 [t7] H.guard)) λv81 H=> bnd (bs 22 1 [(0,v81)] H) λv82 H=> bnd (app 3 1 8 v79 v82 H) λv83 H=> bo (aN t6 8) λv84=> bnd (st 1 v84 v83 H) λ_ H=>
 some ([],H)
theorem adB(C:ak)(t6 t7:AV)(H:ah):jE Tryz.prog C tC 100 I8 [(6,t6),(7,t7)] H (λe H=> some (uI [] e,H)) (λ_ _ _=> none) (λ_ _=> none)=Oy C t6 t7 H:=by kernel_rfl
def I9:Code:=match VX with
 | .seq a (.seq b (.seq c (.seq d (.seq (.seq e _) f))))=> f
 | _=> .skip
def Oz(C:ak)(t0 t2 t6:AV)(H:ah):Option (AV × ah):=
 bnd (lda 9 t6 H) λv86 H=> bnd (C 128 [v86] H) λv87 H=> bo (aX v87 0) λv88=> bo (aX v87 1) λv89=>
 bo (bi .neq 57 v89 (I 0)) λv91=> gdA (some v91) false (dV (some v88) H) H λv93 H=> gdA (some v91) false (dV (some t0) H) H λv94 H=> gdA (some v91) false (C 181 [v93,v94] H) H λv95 H=> gdA (some v91) false (dV (un .not v95) H) H λv96 H=> bo (bQ v91 (B true) v96) λv97=>
 bF v97
 (bo (bd 81 []) λv98=> bnd (st 9 t2 v98 H) λ_ H=>
  bnd (lda 9 t2 H) λr0 _=> some (.tup [r0,(I 2)],H))
 (bnd (lda 9 t6 H) λv99 H=> bnd (st 9 t2 v99 H) λ_ H=>
  bnd (lda 9 t2 H) λr0 _=> some (.tup [r0,(I 0)],H))
theorem adC(C:ak)(t0 t2 t6:AV)(H:ah):jE Tryz.prog C tC 100 I9 [(0,t0),(2,t2),(6,t6)] H (JG Tryz.prog 100 Tryz.f129.results.toList) (λ_ _ _=> none) (JG Tryz.prog 100 Tryz.f129.results.toList)=Oz C t0 t2 t6 H:=by kernel_rfl
def Ja(C:ak)(t0:AV)(H:ah):OA:=
 some (t0,H)
def Jb(C:ak)(t0 t1:AV)(H:ah):OA:=
 bnd (dV (ZT Tryz.prog 220 t0) H) λv10 H=> bnd (lnS t0 H) λv12 H=> bo (bi .sub 3 v10 v12) λv13=> bo (bi .sub 3 t1 v13) λv14=>
 bo (bi .gtr 3 v14 (I 0)) λv16=>
 bF v16
 (bnd (dV (ZT Tryz.prog 220 t0) H) λv19 H=> bo (slS 1 t0 none (some v19) none) λv20=> bnd (apz 5 1 1 [.s (.int .u8 0)] v20 v14 H) λv22 H=> bnd (lnS t0 H) λv24 H=> bo (slS 1 v22 none (some v24) none) λv25=>
  Ja C v25 H)
 (Ja C t0 H)
def abY(C:ak)(a0 a1:AV)(H:ah):OA:=
 bo (bi .lss 3 a1 (I 0)) λv6=>
 bF v6
 (bnd (stk H) λv7 H=> bnd (stk H) λ_ H=>
  Jb C a0 a1 H)
 (Jb C a0 a1 H)
theorem ahD:Rn2 234 abY:=λ_ _ _ _ _ h=>
 rnG an0 Tryz.func234 (by kernel_rfl) (by kernel_rfl) h
structure Gro(H H':ah):Prop where
 next:H.next<=H'.next
 base:H'.base=H.base
 same:∀r,r < H.next->H'.get r=H.get r
 La:tu H->tu H'
theorem Gro.refl(H:ah):Gro H H:=⟨zac _,rfl,λ_ _=> rfl,λh=> h⟩
theorem Gro.trans {H H' H'':ah}(a:Gro H H')(b:Gro H' H''):Gro H H'':=
 ⟨zaC a.next b.next,b.base.trans a.base,λr h=> (b.same r (zaw h a.next)).trans (a.same r h),λh=> b.La (a.La h)⟩
theorem Gro.new(H:ah)(g ty:Nat)(xs:List AV):Gro H (H.new (.blk g ty xs)):=
 ⟨by rw [fC];omega,oD,λr h=> bg h,λh r k es=> by
  by_cases e:r=H.next
  ·rw [aK e];simp
  ·have:(H.new (.blk g ty xs)).get r=H.get r:=by simp [ah.new,e]
   rw [this];exact h r k es⟩
structure dn(H:ah)(x:AV)(l:List By):Prop where
 is:aA H x 1 l.length (l.map Y)
 small:l.length < 1000
theorem dn.gro {H H':ah}{x:AV}{l:List By}(h:dn H x l)(g:Gro H H'):dn H' x l:=⟨h.is.fU g.next λr _ hr=> g.same r hr,h.small⟩
theorem dn.ix {H:ah}{x:AV}{l:List By}(h:dn H x l){i:Nat}(hi:i < l.length):ix 1 x (I i) H=some (dM x i,H):=by
 have:=h.is.ix (k:=.i64) (i:=(i:Int)) (by omega) (by omega)
 rwa [zao] at this
theorem dn.ld {H:ah}{x:AV}{l:List By}(h:dn H x l){i:Nat}{c:By}(hi:l[i]?=some c):ld (dM x i) H=some (Y c,H):=by
 rw [h.is.ld (by have:=(zah.1 hi).1;omega),zas,hi];rfl
theorem adD(s:S16):(s <<< 1) ^^^ ((s >>> 15)*4129#16)=shS s:=by
 unfold shS
 congr 1
 have hlt:=s.isLt;have h15:s >>> 15=if s.msb then 1#16 else 0#16:=by
  apply BitVec.eq_of_toNat_eq
  rw [BitVec.toNat_ushiftRight,Nat.shiftRight_eq_div_pow,BitVec.msb_eq_decide];by_cases h:2 ^ (16 - 1)<=s.toNat
  ·simp only [h,decide_true,if_true];show s.toNat / 2 ^ 15=1;omega
  ·simp only [h,decide_false,zaj,if_false];show s.toNat / 2 ^ 15=0;omega
 rw [h15];cases s.msb <;> simp
theorem abZ {x:AV}{n i:Int}(H:ah):∀(k j:Nat),j+k=8->∀s:S16,Bz cl0 [U16 s,x,I n,I i,I j] H=xH cl0 [U16 (shN k s),x,I n,I (IntKind.wrap .i64 (i+1))] H
 | 0,j,hj,s=> by
  have h1:¬((j:Int) < 8):=by omega
  rw [QO];simp only [xq_,h1,dB];rfl
 | k+1,j,hj,s=> by
  have h1:(j:Int) < 8:=by omega
  have h6:(j:Int)+1=((j+1:Nat):Int):=by omega
  have h7:=wrap_i64 (a:=((j+1:Nat):Int)) (by omega) (by omega);have e1:bi .shr 42 (U16 s) (.s (.int .u64 15))=some (U16 (s >>> 15)):=afX (k:=.u16) s 15 (by decide) (by decide);have e2:bi .shl 42 (U16 s) (.s (.int .u64 1))=some (U16 (s <<< 1)):=ac5 (k:=.u16) rfl s 1 (by decide) (by decide);have e3:bi .mul 42 (U16 (s >>> 15)) (.s (.int .u16 4129))=some (U16 ((s >>> 15)*4129#16)):=aji (k:=.u16) rfl (s >>> 15) 4129#16;have e4:bi .xor 42 (U16 (s <<< 1)) (U16 ((s >>> 15)*4129#16))=some (U16 (shS s)):=by rw [<-adD];exact afW (k:=.u16) rfl _ _
  have ih:=abZ (x:=x) (n:=n) (i:=i) H k (j+1) (by omega) (shS s);rw [QO];simp only [xq_,h1,e1,e2,e3,e4,dB,h6,h7,ih];rfl
theorem alB {H:ah}{x:AV}{l:List By}(hx:dn H x l):cl0 212 [x] H=some (U16 (Oe 0xffff#16 l),H):=by
 have key:∀(k i:Nat),i+k=l.length->∀s:S16,xH cl0 [U16 s,x,I l.length,I i] H=some (U16 (Oe s (l.drop i)),H):=by
  intro k
  induction k with
  | zero=>
   intro i hi s;have h1:¬((i:Int) < l.length):=by omega
   rw [QN,zaJ (by omega)];simp only [xq_,h1];rfl
  | succ k ih=>
   intro i hi s;have h1:(i:Int) < l.length:=by omega
   have h6:(i:Int)+1=((i+1:Nat):Int):=by omega
   have h7:=wrap_i64 (a:=((i+1:Nat):Int)) (by have:=hx.small;omega) (by have:=hx.small;omega);obtain⟨c,hc⟩:∃c,l[i]?=some c:=⟨_,zab (by omega)⟩
   have s1:=hx.ix (i:=i) (by omega);have s2:=hx.ld hc;have e1:cv 5 42 (Y c) H=some (U16 (c.setWidth 16),H):=
    (acT (k:=.u8) (n:=(c.toNat:Int)) (H:=H)).trans (congrArg (λv=> some (v,H)) (aiC (k:=.u8) (k':=.u16) rfl c))
   have e2:bi .shl 42 (U16 (c.setWidth 16)) (.s (.int .u64 8))=some (U16 (c.setWidth 16 <<< 8)):=ac5 (k:=.u16) rfl (c.setWidth 16) 8 (by decide) (by decide);have e3:bi .xor 42 (U16 s) (U16 (c.setWidth 16 <<< 8))=some (U16 (s ^^^ (c.setWidth 16 <<< 8))):=afW (k:=.u16) rfl _ _;have e4:=abZ (x:=x) (n:=(l.length:Int)) (i:=(i:Int)) H 8 0 rfl (s ^^^ (c.setWidth 16 <<< 8));rw [h6,h7] at e4;have hd:l.drop i=c::l.drop (i+1):=by
    rw [zaU (by omega)];rw [zab (by omega)] at hc;rw [zaT hc]
   have ih1:=ih (i+1) (by omega) (ajh s c);have e5:Oe s (c::l.drop (i+1))=Oe (ajh s c) (l.drop (i+1)):=rfl;rw [QN,hd,e5,<-ih1];have z0:((0:Nat):Int)=0:=rfl;rw [z0] at e4;simp only [xq_,h1,s1,s2,e1,e2,e3,e4];rfl
 refine gK (ahy _ _ _ ?_);have s0:=hx.is.lnS;have k0:=key l.length 0 (by omega) 0xffff#16;rw [zaM] at k0;simp only [xq_,abW,s0];exact k0
theorem QS {e:Nat}{z a c:AV}{H:ah}(ha:One a)(hc:One c):bsl e 1 [z] 2 [(0,a),(1,c)] H=some (.sl H.next 0 0 1 2 2 true,H.new (.blk 0 e [a,c])):=by
 have e1:dh [z] 2=[z,z]:=rfl;unfold bsl;rw [e1,Dv (off:=0) rfl ha.1 (by simp),Dv (off:=1) rfl hc.1 (by simp),nS];simp only [zb8,zb9];simp only [zbR,ha.2,hc.2,zck,zcn,if_true]
theorem Wj {e by_ r ty len cap n:Nat}{ex:Bool}{y:AV}{cells new:List AV}{H:ah}(hx:H.get r=.blk 0 ty cells)(hb:H.base<=r)(hy:aA H y 1 n new)(hc:new.all AV.aJ=true)(hcap:len+n<=cap)(hl:len+n<=cells.length):
  app e 1 by_ (.sl r 0 0 1 len cap ex) y H=some (.sl r 0 0 1 (len+n) cap ex,H.put r (.blk 0 ty (aP cells len new))):=by
 obtain⟨c1,c2⟩:=hy.uQ;simp only [app,c1,c2];unfold dD;rw [if_pos ⟨hy.1,hc⟩];simp only [hx];rw [if_pos ⟨trivial,trivial,by omega⟩];by_cases hn:n=0
 ·subst hn;have hnew:new=[]:=zan (by have:=hy.1;omega);subst hnew;rw [if_pos rfl];have:aP cells len []=cells:=by simp [aP]
  rw [this,zbU];have:H.put r (.blk 0 ty cells)=H:=by
   unfold ah.put;cases H with
   | mk n b g=>
    simp only at hx ⊢
    congr 1
    funext x
    split
    ·rename_i h;rw [h,hx]
    ·rfl
  rw [this]
 ·rw [if_neg hn,if_pos hcap,if_pos ⟨hb,by omega⟩];simp
theorem aki(H:ah)(n:Nat)(h0:0 < n)(h1:n < 10000):cl0 234 [zN,I n] H=some (.sl H.next 0 0 1 0 n false,H.new (.blk 0 (5+gB) (dh [.s (.int .u8 0)] n))):=by
 refine gK (ahD _ _ _ _ ?_);have n0:¬((n:Int) < 0):=by omega
 have cp:ZT Tryz.prog 220 zN=some (I 0):=by kernel_rfl
 have w0:IntKind.wrap .i64 ((0:Int) - 0)=0:=rfl;have w1:IntKind.wrap .i64 ((n:Int) - 0)=n:=by rw [Int.sub_zero];exact wrap_i64 (by omega) (by omega)
 have g0:(0:Int) < n:=by omega
 have s0:slS 1 zN none (some (I 0)) none=some zN:=by kernel_rfl
 have az:apz 5 1 1 [.s (.int .u8 0)] zN (I n) H=some (.sl H.next 0 0 1 n n false,H.new (.blk 0 (5+gB) (dh [.s (.int .u8 0)] n))):=by
  show(if 0<=(n:Int)/\(n:Int)<=most/\(n:Int)*1<=most then dD 5 1 1 zN (n:Int).toNat (dh [.s (.int .u8 0)] (n:Int).toNat) H else none)=_;have hm:(n:Int)<=most:=by unfold most;omega
  rw [if_pos ⟨by omega,hm,by omega⟩,zao];unfold dD;have hl:(dh [AV.s (.int .u8 0)] n).length=n*1:=by rw [jI];simp
  rw [if_pos ⟨hl,yM rfl n⟩];simp only;rw [if_neg (by omega),if_pos ⟨by unfold most;omega,by unfold most;omega⟩]
 have s1:slS 1 (.sl H.next 0 0 1 n n false) none (some (I 0)) none=some (.sl H.next 0 0 1 0 n false):=Vs (by omega) (by omega);have ln0:∀H,lnS zN H=some (I 0,H):=λ_=> rfl;simp only [xq_,abY,Jb,Ja,n0,cp,ln0,sG,w0,w1,g0,s0,az,s1]
theorem adE {c:By}:One (Y c):=⟨rfl,rfl⟩
theorem Wn {H:ah}{x:AV}{l:List By}(h:dn H x l):One x:=by
 obtain⟨_,hh⟩:=h.is;cases x with
 | sl r g off esz len cap ex=> exact pW
 | vs n m l=> exact aaz
 | s v=> cases v <;> first | exact hh.elim | exact⟨rfl,rfl⟩
 | _=> exact hh.elim
theorem alC {H:ah}(hb:H.base<=H.next){a x y:AV}{l m:List By}(ha:aA H a 1 2 [x,y])(hx:dn H x l)(hy:dn H y m)(hm:0 < m.length):
  cl0 213 [a] H=some (.sl H.next 0 0 1 (l.length+m.length) (l.length+m.length) false,H.new (.blk 0 (5+gB) ((l++m).map Y))):=by
 have sl:=hx.small;have sm:=hy.small;refine gK (ahz _ _ _ ?_);have ln:=ha.lnS;have i0:=ha.ix (k:=.i64) (i:=0) (by decide) (by decide);have i1:=ha.ix (k:=.i64) (i:=1) (by decide) (by decide);have d0:ld (dM a 0) H=some (x,H):=ha.ld (by decide);have d1:ld (dM a 1) H=some (y,H):=ha.ld (by decide);have lx:=hx.is.lnS;have ly:=hy.is.lnS;let Z:ah->List AV->ah:=λH l=> H.new (.blk 0 (5+gB) l)
 obtain⟨n,hn⟩:∃n,n=l.length+m.length:=⟨_,rfl⟩
 have gr:=aki H n (by omega) (by omega);have K:∀cs,Gro H (H.new (.blk 0 (5+gB) cs)):=λcs=> Gro.new H 0 _ cs;have hz:(dh [AV.s (.int .u8 0)] n).length=n:=by rw [jI];simp
 -- behind the first
 let c1:=aP (dh [AV.s (.int .u8 0)] n) 0 (l.map Y);have a1:=Wj (e:=5) (by_:=1) (r:=H.next) (ex:=false) (cap:=n) (H:=H.new (.blk 0 (5+gB) (dh [.s (.int .u8 0)] n))) (aK rfl) (by rw [oD];exact hb) (hx.gro (K _)).is (YP l) (len:=0) (by omega) (by omega);rw [Du,za4] at a1;have hc1:c1.length=n:=by simp only [c1,aP,zal,zav,zaQ,zay,hz];omega
 have a2:=Wj (e:=5) (by_:=1) (r:=H.next) (ex:=false) (cap:=n) (H:=H.new (.blk 0 (5+gB) c1)) (aK rfl) (by rw [oD];exact hb) (hy.gro (K _)).is (YP m) (len:=l.length) (by omega) (by omega);rw [Du] at a2;have hc2:aP c1 l.length (m.map Y)=(l++m).map Y:=by
  simp only [c1,aP,zdc,zaS,za4,zay];rw [zb2 (by simp),zau (by simp),List.drop_append,zaJ (by simp),zbS];rw [zaJ (by simp only [hz,zay];omega)];simp
 rw [hc2] at a2;have ga:=λcs=> (ha.fU (K cs).next λr _ hr=> (K cs).same r hr)
 have li:=λcs=> (ga cs).lnS;have j0:=λcs=> (ga cs).ix (k:=.i64) (i:=0) (by decide) (by decide);have j1:=λcs=> (ga cs).ix (k:=.i64) (i:=1) (by decide) (by decide);have e0:∀cs,ld (dM a 0) (H.new (.blk 0 (5+gB) cs))=some (x,H.new (.blk 0 (5+gB) cs)):=λcs=> (ga cs).ld (by decide);have e1:∀cs,ld (dM a 1) (H.new (.blk 0 (5+gB) cs))=some (y,H.new (.blk 0 (5+gB) cs)):=λcs=> (ga cs).ld (by decide);have t0:((0:Int).toNat)=0:=rfl;have t1:((1:Int).toNat)=1:=rfl;rw [t0] at i0;rw [t1] at i1;have j0:∀cs,ix 1 a (I 0) (H.new (.blk 0 (5+gB) cs))=some (dM a 0,H.new (.blk 0 (5+gB) cs)):=j0;have j1:∀cs,ix 1 a (I 1) (H.new (.blk 0 (5+gB) cs))=some (dM a 1,H.new (.blk 0 (5+gB) cs)):=j1;have w1:IntKind.wrap .i64 ((0:Int)+l.length)=l.length:=by rw [Int.zero_add];exact wrap_i64 (by omega) (by omega)
 have w2:IntKind.wrap .i64 ((l.length:Int)+m.length)=n:=by rw [hn];have:=wrap_i64 (a:=((l.length+m.length:Nat):Int)) (by omega) (by omega);rwa [Int.natCast_add] at this ⊢
 have p1:IntKind.wrap .i64 (1:Int)=1:=rfl;have p2:IntKind.wrap .i64 (2:Int)=2:=rfl;have q1:¬((l.length:Int) < 0):=by omega
 have q2:¬((n:Int) < 0):=by omega
 have z2:((2:Nat):Int)=2:=rfl;rw [z2] at ln;have li:∀cs,lnS a (H.new (.blk 0 (5+gB) cs))=some (I 2,H.new (.blk 0 (5+gB) cs)):=li;rw [<-hn] at a2 ⊢;simp only [c1] at a2;simp only [xq_,abX,ln];rw [I5];simp only [Int.reduceLT,Int.reduceAdd,xq_,BA,i0,d0,lx,dB,w1,q1,p1];rw [I5];simp only [Int.reduceLT,Int.reduceAdd,xq_,BA,i1,d1,ly,dB,w2,q2,p2];rw [I5];simp only [Int.reduceLT,xq_,gr,li];rw [I7];simp only [Int.reduceLT,Int.reduceAdd,xq_,j0,e0,a1,dB,p1];rw [I7];simp only [Int.reduceLT,Int.reduceAdd,xq_,j1,e1,a2,dB,p2];rw [I7];simp only [Int.reduceLT,xq_]
theorem dn.made {H:ah}{l:List By}{ty:TypeId}{ex:Bool}(h:l.length < 1000):dn (H.new (.blk 0 ty (l.map Y))) (.sl H.next 0 0 1 l.length l.length ex) l:=
 ⟨mJ (by simp),h⟩
theorem adF {H:ah}(hb:H.base<=H.next){x:AV}{l:List By}(hx:dn H x l)(hl:l.length < 900):
  ∃y H',cl0 177 [x] H=some (y,H')/\Gro H H'/\dn H' y (rM l)/\H'.base<=H'.next:=by
 obtain⟨s,hs⟩:∃s,Oe 0xffff#16 l=s:=⟨_,rfl⟩
 have e1:=alB hx;rw [hs] at e1;have e2:bi .shr 42 (U16 s) (.s (.int .u64 8))=some (U16 (s >>> 8)):=afX (k:=.u16) s 8 (by decide) (by decide);have e3:∀H,cv 42 5 (U16 (s >>> 8)) H=some (Y (aaU s),H):=λH=>
  (Vf (k:=.u16) (n:=((s >>> 8).toNat:Int)) (H:=H)).trans (congrArg (λv=> some (v,H)) (aiC (k:=.u16) (k':=.u8) rfl (s >>> 8)))
 have e4:∀H,cv 42 5 (U16 s) H=some (Y (aaV s),H):=λH=>
  (Vf (k:=.u16) (n:=(s.toNat:Int)) (H:=H)).trans (congrArg (λv=> some (v,H)) (aiC (k:=.u16) (k':=.u8) rfl s))
 let H1:=H.new (.blk 0 5 [Y (aaU s),Y (aaV s)]);let y1:AV:=.sl H.next 0 0 1 2 2 true
 let H2:=H1.new (.blk 0 220 [x,y1]);have g1:Gro H H1:=Gro.new H 0 _ _;have g2:Gro H1 H2:=Gro.new H1 0 _ _;have by1:dn H1 y1 [aaU s,aaV s]:=dn.made (l:=[aaU s,aaV s]) (by simp);have ha:aA H2 (.sl H1.next 0 0 1 2 2 true) 1 2 [x,y1]:=mJ rfl;have hb2:H2.base<=H2.next:=by simp only [H2,H1,oD,fC];omega
 have ec:=alC hb2 ha (hx.gro (g1.trans g2)) (by1.gro g2) (by simp);have hse:rM l=l++[aaU s,aaV s]:=by unfold rM;rw [hs]
 have hlen:(rM l).length=l.length+2:=by rw [hse];simp
 have bm:=dn.made (H:=H2) (l:=rM l) (ty:=5+gB) (ex:=false) (by omega);rw [hlen] at bm;have l2:([aaU s,aaV s]:List By).length=2:=rfl;rw [<-hse,l2] at ec;refine⟨_,_,gK (ahp _ _ _ (r:=(.sl H2.next 0 0 1 (l.length+2) (l.length+2) false,H2.new (.blk 0 (5+gB) ((rM l).map Y)))) ?_),(g1.trans g2).trans (Gro.new H2 0 _ _),bm,by rw [oD,fC];omega⟩;have b1:bs 220 2 [(0,Y (aaU s)),(1,Y (aaV s))] H=some (y1,H1):=(Qk (by decide)).trans (QS adE adE);have b2:bs 326 2 [(0,x),(1,y1)] H1=some (.sl H1.next 0 0 1 2 2 true,H2):=(afc (by decide)).trans (QS (Wn hx) pW);simp only [xq_,abM,e1,e2,e3,e4,b1,b2,ec]
theorem zW:∀(ns:List Int) (b:ByteArray),(ns.foldl (λs n=> s.push (UInt8.ofNat n.toNat)) b).data.toList=b.data.toList++ns.map λn=> UInt8.ofNat n.toNat
 | [],b=> by simp
 | n::ns,b=> by
  rw [zcp,zW ns];simp [ByteArray.push]
theorem Wp {l m:List By}(h:JO (l.map λc=> (c.toNat:Int))=JO (m.map λc=> (c.toNat:Int))):l=m:=by
 have h1:=congrArg (λb:ByteArray=> b.data.toList) h;unfold JO at h1;simp only [zW,zcB] at h1;have h2:l.map (λc:By=> UInt8.ofBitVec c)=m.map (λc:By=> UInt8.ofBitVec c):=by
  have key:∀l:List By,l.map ((λn:Int=> UInt8.ofNat n.toNat) ∘ λc:By=> (c.toNat:Int))=l.map (λc:By=> UInt8.ofBitVec c):=λl=> zbd λc _=> by
   simp only [Function.comp,zao]
   apply UInt8.toBitVec_inj.1
   simp
  rw [<-key,<-key]
  simpa using h1
 exact(List.map_inj_right λa b h=> by simpa using h).1 h2
theorem yZ:∀l:List By,lY (l.map Y)=some (l.map λc=> (c.toNat:Int))
 | []=> rfl
 | c::l=> by
  show(match lY (l.map Y) with | some l'=> some ((c.toNat:Int)::l') | none=> none)=_;rw [yZ l];rfl
theorem ahE {H:ah}{x:AV}{l:List By}(hx:dn H x l):cv 220 9 x H=some (.s (.string (JO (l.map λc=> (c.toNat:Int)))),H):=by
 have hbt:BU Tryz.prog 220 9=true:=by kernel_rfl
 obtain⟨hl,hh⟩:=hx.is;show jP (wF Tryz.prog 220 9 x) x H=_;unfold jP wF;rw [if_pos hbt];cases x with
 | sl r g off esz len cap ex=>
  obtain⟨rfl,rfl,_,ty,all,h2,h3,h4⟩:=hh;simp only [dO,zaf,aez,if_true,h2];rw [if_pos ⟨trivial,h3⟩,<-h4,yZ];rfl
 | vs n m cs=>
  obtain⟨rfl,rfl,rfl⟩:=hh;simp only [aez,if_true,yZ];rfl
 | s v=>
  cases v with
  | slice a b c=>
   cases a with
   | none=>
    obtain⟨rfl,rfl,h3⟩:=(show b=0/\c=0/\l.length=0 from hh)
    have:l=[]:=zan h3;subst this;rfl
   | some a=> exact hh.elim
  | _=> exact hh.elim
 | _=> exact hh.elim
theorem Wq {H:ah}{x y:AV}{l m:List By}(hx:dn H x l)(hy:dn H y m):cl0 181 [x,y] H=some (B (decide (l=m)),H):=by
 refine gK (ahs _ _ _ _ ?_);have e1:=ahE hx;have e2:=ahE hy;have e3:∀a c:ByteArray,bi .eql 9 (.s (.string a)) (.s (.string c))=some (B (decide (a=c))):=λa c=> by
  show nH _ _ _ _ _=_;rcases a with⟨a⟩
  rcases c with⟨c⟩
  by_cases h:a=c
  ·simp [nH,AV.val?,eqGuard,binOp,Op.stringOp,bV,h]
  ·have h2:¬a.toList=c.toList:=λe=> h (zb5.1 e);rw [<-ByteArray.toList_eq ⟨a⟩,<-ByteArray.toList_eq ⟨c⟩] at h2;simp [nH,AV.val?,eqGuard,binOp,Op.stringOp,bV,h,h2]
 have e4:decide (JO (l.map λc=> (c.toNat:Int))=JO (m.map λc=> (c.toNat:Int)))=decide (l=m):=by
  by_cases h:l=m
  ·rw [h];simp
  ·rw [decide_eq_false h,decide_eq_false λe=> h (Wp e)]
 simp only [xq_,abQ,e1,e2,e3,e4]
theorem dn.to_ {H:ah}{x:AV}{l:List By}(h:dn H x l){n:Nat}(hn:n<=l.length):∃y,slS 1 x none (some (I n)) none=some y/\dn H y (l.take n):=by
 obtain⟨⟨hl,hh⟩,hs⟩:=h;have ht:(l.take n).length=n:=by rw [zav];omega
 have small:(l.take n).length < 1000:=by omega
 cases x with
 | sl r g off esz len cap ex=>
  obtain⟨rfl,rfl,⟨hr,hc⟩,ty,all,h2,h3,h4⟩:=hh;refine⟨_,Vs (by omega) (by omega),⟨⟨by simp,rfl,by rw [ht,zao],⟨hr,by rw [zao];omega⟩,ty,all,h2,by rw [ht];omega,?_⟩,small⟩⟩;rw [zcm,h4,zcC,ht]
  congr 1
  omega
 | vs k' esz cs=>
  obtain⟨rfl,rfl,rfl⟩:=hh;refine⟨.vs n 1 ((l.take n).map Y),?_,⟨by simp,rfl,by rw [ht],rfl⟩,small⟩;have h0:(0:Int)<=n:=by omega
  simp only [slS,iy,h0,if_true,zao];rw [if_pos ⟨trivial,by omega,hn⟩];simp
 | s v=>
  cases v with
  | slice a b c=>
   cases a with
   | none=>
    obtain⟨rfl,rfl,h3⟩:=(show b=0/\c=0/\l.length=0 from hh)
    have:l=[]:=zan h3;subst this;have:n=0:=by simpa using hn
    subst this;exact⟨zN,by kernel_rfl,⟨rfl,rfl,rfl,rfl⟩,by decide⟩
   | some a=> exact hh.elim
  | _=> exact hh.elim
 | _=> exact hh.elim
theorem adG {H:ah}{x:AV}{l:List By}(hx:dn H x l)(hl:l≠[]):cl0 182 [x] H=some (.sl (H.next+1) 0 0 1 l.length l.length false,(H.new (.blk 0 5 [])).new (.blk 0 (5+gB) (l.map Y))):=by
 have h0:l.length≠0:=λe=> hl (zan e);have e2:=qg (e:=5) (by_:=1) (r:=H.next) (H:=H.new (.blk 0 5 [])) pY (hx.gro (Gro.new H 0 _ _)).is (YP l) h0 (by have:=hx.small;unfold most;omega) (by have:=hx.small;unfold most;omega);simp only [fC] at e2;have e1:bi .eql 220 x zN=some (B false):=by
  obtain⟨_,hh⟩:=hx.is;cases x with
  | sl r g off esz len cap ex=> exact yL Tryz.underlying220
  | vs n m l=> exact qh Tryz.underlying220
  | s v=>
   cases v with
   | slice a b c=>
    cases a with
    | none=> exact absurd hh.2.2 h0
    | some a=> exact hh.elim
   | _=> exact hh.elim
  | _=> exact hh.elim
 refine gK (aht _ _ _ ?_);simp only [xq_,abR,e1,Qk,vO,e2,zbi,zaR]
theorem Y2 {H:ah}(hb:H.base<=H.next){x:AV}{l:List By}(hx:dn H x l)(hl:l.length < 900)(hn:∀m,l≠rM m):
  ∃H',cl0 178 [x] H=some (.tup [zN,B false],H')/\Gro H H':=by
 have ln:=hx.is.lnS;have w1:=wrap_i64 (a:=(l.length:Int) - 2) (by omega) (by omega);by_cases h2:(l.length:Int) - 2 < 0
 ·refine⟨H,gK (V5 _ _ _ ?_),Gro.refl H⟩;simp only [xq_,QK,ln,sG,w1,h2]
 ·obtain⟨n,hnn⟩:∃n:Nat,(l.length:Int) - 2=n:=⟨l.length - 2,by omega⟩
  rw [hnn] at w1 h2;obtain⟨y,s1,by1⟩:=hx.to_ (n:=n) (by omega);obtain⟨z,H1,e1,g1,bz,_⟩:=adF hb by1 (by rw [zav];omega);have e2:=Wq bz (hx.gro g1);rw [decide_eq_false λe=> hn _ e.symm] at e2;refine⟨H1,gK (V5 _ _ _ ?_),g1⟩;simp only [xq_,QK,ln,sG,hnn,w1,h2,s1,e1,e2,zaB]
theorem adH {H:ah}(hb:H.base<=H.next){x:AV}{m:List By}(hx:dn H x (rM m))(hl:m.length < 800)(h0:m≠[]):
  ∃y H',cl0 178 [x] H=some (.tup [y,B true],H')/\Gro H H'/\dn H' y m/\(∃r,y=.sl r 0 0 1 m.length m.length false):=by
 have hlen:(rM m).length=m.length+2:=by unfold rM;simp
 have htake:(rM m).take m.length=m:=by unfold rM;simp
 have ln:=hx.is.lnS;have w0:(((rM m).length:Nat):Int) - 2=(m.length:Int):=by omega
 have w1:=wrap_i64 (a:=(m.length:Int)) (by omega) (by omega);have h2:¬((m.length:Int) < 0):=by omega
 obtain⟨y,s1,by1⟩:=hx.to_ (n:=m.length) (by omega);rw [htake] at by1;obtain⟨z,H1,e1,g1,bz,_⟩:=adF hb by1 (by omega);have e2:=Wq bz (hx.gro g1);rw [decide_eq_true rfl] at e2;have e3:=adG (by1.gro g1) h0;have gg:Gro H1 ((H1.new (.blk 0 5 [])).new (.blk 0 (5+gB) (m.map Y))):=(Gro.new H1 0 _ _).trans (Gro.new _ 0 _ _);have bm:=dn.made (H:=H1.new (.blk 0 5 [])) (l:=m) (ty:=5+gB) (ex:=false) (by omega);rw [fC] at bm;refine⟨_,_,gK (V5 _ _ _ (r:=(.tup [.sl (H1.next+1) 0 0 1 m.length m.length false,B true],(H1.new (.blk 0 5 [])).new (.blk 0 (5+gB) (m.map Y)))) ?_),g1.trans gg,bm,_,rfl⟩;simp only [xq_,QK,ln,sG,w0,w1,h2,s1,e1,e2,e3,zar]
def bH.left(m:bH):Int:=(m.au.map λn=> n.bW.left).sum
def bH.busy(m:bH)(i:Nat):Bool:=match m.au[i]? with
 | some n=> !decide (n.aF.step=0) || n.bW.eG || decide (0 < m.fab.waiting i true+m.fab.waiting i false)
 | none=> false
def bH.quiet(m:bH):Bool:=(List.range m.au.length).all (λi=> !m.busy i) && decide (m.fab.under=0)
def ahF(x:bH × Int)(p:Pck):bH × Int:=((x.1.do_ p).1,if(x.1.do_ p).2=true then x.2+1 else x.2)
def ab1(k n:Int):Nat->Nat->bH × Int->bH × Int
 | 0,_,x=> x
 | j+1,i,x=> ab1 k n j (i+1) (ahF x ⟨false,(k+i).tmod n,0,0⟩)
def ab2:Nat->bH × Int->bH × Int
 | 0,x=> x
 | i+1,x=> ab2 i (ahF x ⟨true,i,0,0⟩)
def adI(n first:Int):Int:=(first.tmod n+n).tmod n
def bH.round(m:bH)(first:Int):bH × Int:=
 let a:=ab1 (adI m.c.au first) m.c.au m.c.au.toNat 0 (m,0)
 ab2 a.1.fab.under a
def bH.over(m:bH):Bool:=m.quiet && decide (m.left=0)
abbrev mM:bJ:=λ_=> none
def cup(n:Nat)(g g':bJ):bJ:=λq=> if q < n then g q else g' q
structure Made(H H':ah)(g':bJ):Prop where
 next:H.next<=H'.next
 base:H'.base=H.base
 same:∀r,r < H.next->H'.get r=H.get r
 good:Good H.next H' g'
section
variable {b:Nat}{H H' H'':ah}{g g':bJ}{q:Nat}{cs:List Cell}
theorem Good.merge(G:Good b H g)(M:Made H H' g'):Good b H' (cup H.next g g'):=by
 obtain⟨h0,τ,h1⟩:=G;obtain⟨k0,τ',k1⟩:=M.good;have n1:=M.next
 refine⟨by omega,λr=> if r < H.next then τ r else τ' r,λq cs hq=> ?_⟩;unfold cup at hq;split at hq
 ·rename_i hl;exact(h1 q cs hq).keep n1 λr i s t hr ht=> ⟨by rw [if_pos hr];exact ht,M.same r hr⟩
 ·rename_i hl;have R:=k1 q cs hq
  -- all its blocks are new
  have key:∀{T:Tag} {x:AV} {m:Nat} {cells:List AV},OS H.next H' τ' T x m cells->OS b H' (λr=> if r < H.next then τ r else τ' r) T x m cells:=by
   intro T x m cells ho;rcases ho with ho | ⟨r,gg,off,n,cap,ex,ty,all,e,t1,t2,t3,t4⟩
   ·exact .inl ho
   ·exact .inr ⟨r,gg,off,n,cap,ex,ty,all,e,by simp only;rw [if_neg (by omega)];exact t1,by omega,t3,t4⟩
  have ala:∀{T:Tag} {x:AV} {k:IntKind} {es:List (Int × AV)},OM H.next H' τ' T x k es->OM b H' (λr=> if r < H.next then τ r else τ' r) T x k es:=by
   intro T x k es ⟨r,e,t1,t2,t3,t4⟩;exact⟨r,e,by simp only;rw [if_neg (by omega)];exact t1,by omega,t3,t4⟩
  obtain⟨ty,xs,b1,b2,b3,b4⟩:=R.blk;have lo:=R.lo;refine⟨by rw [if_neg hl];exact R.tag,by omega,R.hi,R.tyl,ty,xs,b1,b2,b3,λi c x hc hx=> ?_⟩;have:=b4 i c x hc hx;cases c with
  | av _=> exact this
  | seq _ _=> exact key this
  | map _ _=> exact ala this
  | maps _ _ _=>
   obtain⟨aes,a1,a2,a3⟩:=this;exact⟨aes,ala a1,a2,λj n cells x hj hx=> key (a3 j n cells x hj hx)⟩
  | aax _ _ _=>
   obtain⟨ys,a1,a2,a3⟩:=this;exact⟨ys,key a1,a2,λj cells x hj hx=> key (a3 j cells x hj hx)⟩
theorem Good.ahG(G:Good b H g)(hq:H.next<=q):cup H.next g (upd mM q cs)=upd g q cs:=by
 funext x
 unfold cup upd;split
 ·rw [if_neg (by omega)]
 ·split
  ·rfl
  ·exact(G.isNone (by omega)).symm
theorem Made.lt(M:Made H H' g')(h:g' q=some cs):H.next<=q/\q < H'.next:=⟨M.good.le h,M.good.lt h⟩
theorem Made.refl(h:H.base<=H.next):Made H H mM:=⟨zac _,rfl,λ_ _=> rfl,Good.empty H⟩
theorem Made.trans(M:Made H H' g)(M':Made H' H'' g'):Made H H'' (cup H'.next g g'):=
 ⟨zaC M.next M'.next,M'.base.trans M.base,λr hr=> by rw [M'.same r (zaw hr M.next),M.same r hr],M.good.merge M'⟩
theorem Made.new(M:Made H H' g)(o:eP):Made H (H'.new o) g:=
 ⟨by rw [fC];have:=M.next;omega,by rw [oD];exact M.base,λr hr=> by rw [bg (zaw hr M.next),M.same r hr],M.good.new o⟩
theorem Made.uU {o:eP}(M:Made (H.new o) H' g):Made H H' g:=
 ⟨by have:=M.next;rw [fC] at this;omega,by rw [M.base,oD],λr hr=> by rw [M.same r (by rw [fC];omega),bg hr],M.good.weak (by rw [fC];omega)⟩
theorem Made.Y3(M:Made H.guard H' g):Made H { H' with base:=H.base } g:=
 ⟨M.next,rfl,M.same,M.good.ext (zac _) λ_ _=> rfl⟩
theorem Made.step(M:Made H H' g)(G:Good H.next H'' g')(s:Step H.next H' H''):Made H H'' g':=
 ⟨zaC M.next s.next,s.base.trans M.base,λr hr=> by rw [s.low r hr,M.same r hr],G⟩
theorem Made.as(M:Made H H' g)(h:g'=g):Made H H' g':=h ▸ M
theorem jv {ty:TypeId}{xs:List AV}{cs:List Cell}(hc:xs.all AV.aJ=true)(hl:xs.length=cs.length)(h:∀(i:Nat) (c:Cell) (x:AV),cs[i]?=some c->xs[i]?=some x->c=.av x∨(x=zN/\∃m,c=.seq m []))(ht:ty < gB:=by decide):
  Made H (H.new (.blk 0 ty xs)) (upd mM H.next cs):=by
 refine⟨zbk _,rfl,λr hr=> bg hr,by rw [fC];omega,λr=> if r=H.next then some (r,0,0,0) else none,λq cs' hq=> ?_⟩;unfold upd at hq;split at hq
 ·rename_i e;subst e;cases hq;refine⟨by simp,zac _,by rw [fC];omega,sJ (xs:=xs) (by simp [iw]) ht,ty,xs,by simp [iw],hl,hc,λi c x hci hx=> ?_⟩;rcases h i c x hci hx with rfl | ⟨rfl,m,rfl⟩
  ·exact rfl
  ·exact .inl ⟨rfl,rfl⟩
 ·cases hq
theorem Lc {n:Nat}{ty:TypeId}{xs:List AV}{cs:List Cell}(hn:H.next<=n)(hm:H'.next=n)(hb:H'.base=H.base)(hs:∀r,r < H.next->H'.get r=H.get r)(hc:xs.all AV.aJ=true)(hl:xs.length=cs.length)(own:Nat->Option Nat)
  (h:∀(i:Nat) (c:Cell) (x:AV),cs[i]?=some c->xs[i]?=some x->c=.av x∨(x=zN/\∃m,c=.seq m [])∨∃r k,x=.mp r/\H.next<=r/\r < n/\own r=some i/\H'.get r=.map k []/\(c=.map k []∨∃m,c=.maps k m [])) (ht:ty < gB:=by decide):
  Made H (H'.new (.blk 0 ty xs)) (upd mM n cs):=by
 refine⟨by rw [fC];omega,hb,λr hr=> by rw [bg (by omega),hs r hr],by rw [fC];omega,λr=> if r=n then some (r,0,0,0) else match own r with
  | some i=> some (n,i+1,0,0)
  | none=> none,λq cs' hq=> ?_⟩
 unfold upd at hq;split at hq
 ·rename_i e;subst e;cases hq;refine⟨by simp,hn,by rw [fC];omega,sJ (xs:=xs) (by rw [aK hm.symm]) ht,ty,xs,by rw [aK hm.symm],hl,hc,λi c x hci hx=> ?_⟩;have om:∀r k,H.next<=r->r < q->own r=some i->H'.get r=.map k []->OM H.next (H'.new (.blk 0 ty xs)) (λr=> if r=q then some (r,0,0,0) else match own r with
    | some i=> some (q,i+1,0,0)
    | none=> none) (q,i+1,0,0) (.mp r) k []:=λr k h1 h2 h3 h4=> ⟨r,rfl,by simp only;rw [if_neg (by omega),h3],h1,by rw [fC];omega,by rw [bg (by omega)];exact h4⟩
  rcases h i c x hci hx with rfl | ⟨rfl,m,rfl⟩ | ⟨r,k,rfl,h1,h2,h3,h4,rfl | ⟨m,rfl⟩⟩
  ·exact rfl
  ·exact .inl ⟨rfl,rfl⟩
  ·exact om r k h1 h2 h3 h4
  ·exact⟨[],om r k h1 h2 h3 h4,rfl,λj n cells x hj=> by simp at hj⟩
 ·cases hq
end
def uV(c:Cache):List Cell:=[.seq 6 (c.l.flatMap Ent.av),.av (I c.sets),.av (I c.ways),.av (I c.dH)]
def ES(p:Proc):List Cell:=[.av (vsl 3 Opn.av p.ops),.seq 1 (p.bf.map I),.av (B p.eG)]
def xJ(l:List Evn):List Cell:=[.seq 4 (l.flatMap Evn.av)]
def uX(t:Turns):List Cell:=[.map .i64 (aaP (λn=> I n) t.gX),.maps .i64 2 (t.wait.map λe=> (e.1,e.2.flatMap λw=> [I w.1,I w.2]))]
def Gm(c:Cfg)(dF:Rows):List Cell:=c.av.map .av++[.map .i64 (aaP (λr=> .agg r.av) dF)]
section
variable {H:ah}
theorem Ws(H:ah)(room:Int)(h:0<=room):∃H' q,cl 110 [I room] H=some (.ref q 0 0,H')/\Made H H' (upd mM q (Aq [] room)):=by
 refine⟨_,H.next,dU rfl rfl (agT _ _ _ (r:=(_,H.new (.blk 0 177 [zN,I room]))) ?_),jv rfl rfl λi c x hc hx=> ?_⟩
 ·have e:max (0:Int) room=room:=by omega
  simp only [Nat.reduceLT,Nat.reduceAdd,aP,xq_,hq_,aa7,Ib,e,afs,lD,fV,aal,aO]
 ·match i with
  | 0=> right;cases hc;cases hx;exact⟨rfl,9,rfl⟩
  | 1=> left;cases hc;cases hx;rfl
  | i+2=> cases hc
theorem QT(H:ah)(room:Int)(h:0<=room):∃H' q,cl 111 [I room] H=some (.ref q 0 0,H')/\Made H H' (upd mM q (Aq [] room)):=by
 refine⟨_,H.next,dU rfl rfl (agU _ _ _ (r:=(_,H.new (.blk 0 200 [zN,I room]))) ?_),jv rfl rfl λi c x hc hx=> ?_⟩
 ·have e:max (0:Int) room=room:=by omega
  simp only [Nat.reduceLT,Nat.reduceAdd,aP,xq_,hq_,aa8,Ib,e,afv,lD,fV,aan,aO]
 ·match i with
  | 0=> right;cases hc;cases hx;exact⟨rfl,9,rfl⟩
  | 1=> left;cases hc;cases hx;rfl
  | i+2=> cases hc
theorem Y4(H:ah)(sets ways:Int)(h:1<=sets)(h':1<=ways):∃H' q,cl 112 [I sets,I ways] H=some (.ref q 0 0,H')/\Made H H' (upd mM q (uV ⟨[],sets,ways,0⟩)):=by
 refine⟨_,H.next,dU rfl rfl (agV _ _ _ _ (r:=(_,H.new (.blk 0 147 [zN,I sets,I ways,zI]))) ?_),jv rfl rfl λi c x hc hx=> ?_⟩
 ·have e:max (1:Int) sets=sets:=by omega
  have e':max (1:Int) ways=ways:=by omega
  simp only [Nat.reduceLT,Nat.reduceAdd,aP,xq_,hq_,aa9,Ib,e,e',afp,lD,fV,aai,aO]
 ·match i with
  | 0=> right;cases hc;cases hx;exact⟨rfl,6,rfl⟩
  | 1=> left;cases hc;cases hx;rfl
  | 2=> left;cases hc;cases hx;rfl
  | 3=> left;cases hc;cases hx;rfl
  | i+4=> cases hc
theorem Y5(H:ah):∃H' q,cl 62 [] H=some (.ref q 0 0,H')/\Made H H' (upd mM q (xJ [])):=by
 refine⟨_,H.next,dU rfl rfl (ajQ _ _ (r:=(_,H.new (.blk 0 186 [zN]))) ?_),jv rfl rfl λi c x hc hx=> ?_⟩
 ·simp only [Nat.reduceLT,xq_,hq_,agy,afu,lD,fV,aO]
 ·match i with
  | 0=> right;cases hc;cases hx;exact⟨rfl,4,rfl⟩
  | i+1=> cases hc
theorem Y6(H:ah):∃H' q,cl 161 [] H=some (.ref q 0 0,H')/\Made H H' (upd mM q (uX ⟨[],[]⟩)):=by
 refine⟨_,H.next+2,dU rfl rfl (ahl _ _ (r:=(_,((H.new (.map .i64 [])).new (.map .i64 [])).new (.blk 0 218 [.mp H.next,.mp (H.next+1)]))) ?_),Lc (H':=(H.new (.map .i64 [])).new (.map .i64 [])) (by omega) (by rw [fC,fC]) rfl (λr hr=> by rw [bg (by rw [fC];omega),bg hr]) rfl rfl (λr=> if r=H.next then some 0 else if r=H.next+1 then some 1 else none) λi c x hc hx=> ?_⟩
 ·have e:∀r,(AV.mp r).cells=[.mp r]:=λ_=> rfl;simp only [Nat.reduceLT,Nat.reduceAdd,aP,xq_,hq_,abG,afy,lD,fV,aaq,aO,e,U3]
 ·match i with
  | 0=> right;right;cases hc;cases hx;exact⟨H.next,.i64,rfl,zac _,by omega,by simp,by rw [bg (by rw [fC];omega),aK rfl],.inl rfl⟩
  | 1=> right;right;cases hc;cases hx;exact⟨H.next+1,.i64,rfl,by omega,by omega,by simp,by rw [aK (by rw [fC])],.inr ⟨2,rfl⟩⟩
  | i+2=> cases hc
end
theorem QU {d:Nat}{α:Type}{enc:α->List AV}(h:∀a,∀x∈enc a,Frz d x)(l:List α):∀x∈l.flatMap enc,Frz d x:=λx hx=> by
 obtain⟨a,_,ha⟩:=za8.1 hx;exact h a x ha
theorem adJ(o:Opn):∀x∈o.av,Frz 8 x:=λx hx=> by
 simp only [Opn.av,zai,zaK,or_false] at hx;rcases hx with rfl | rfl | rfl <;> exact fP
theorem Wu(o:Evn):∀x∈o.av,Frz 8 x:=λx hx=> by
 simp only [Evn.av,zai,zaK,or_false] at hx;rcases hx with rfl | rfl | rfl | rfl <;> exact fP
theorem Y7(H:ah)(l:List Opn)(hl:l.length < 1000000000){x:AV}(hx:aA H x 3 l.length (l.flatMap Opn.av))(h0:l=[]->x=zN)(hn:l≠[]->bi .eql 62 x zN=some (B false)):cl 159 [x] H=some (vsl 3 Opn.av l,H):=by
 by_cases h:l=[]
 ·rw [h0 h];subst h;refine iJ rfl rfl (abC _ _ _ (r:=(zN,H.guard)) ?_) (by rw [jo];exact jH);have e:bi .eql 62 zN zN=some (B true):=by kernel_rfl
  simp only [xq_,VZ,e]
 ·have h1:l.length≠0:=λe=> h (zan e);have e2:=qg (e:=61) (by_:=24) (r:=H.guard.next) (H:=H.guard.new (.blk 0 61 [])) pY (hx.guard.new _) (AU qR l) h1 (by unfold most;omega) (by unfold most;omega);simp only [yw,fC] at e2;refine iJ rfl rfl (abC _ _ _ (r:=(.sl (H.next+1) 0 0 3 l.length l.length false,(H.guard.new (.blk 0 61 [])).new (.blk 0 (61+gB) (l.flatMap Opn.av)))) ?_) ?_
  ·simp only [xq_,VZ,hn h,ae6,vO,e2,zbi,zaR]
  ·rw [Ik h];refine jW (by omega) (cells:=l.flatMap Opn.av) ?_ (gQ _ λx hx=> QU adJ l x hx _ _);simp only [bI,iw,fC,yw,if_true];rw [if_pos (by rw [dX dR,za4];exact⟨trivial,zac _⟩),zaM,zau (by rw [dX dR];exact zac _)]
theorem Wv(H:ah)(n m:Int):cl 104 [I n,I m] H=some (B (jf n m),H):=by
 refine dU rfl rfl (agN _ _ _ _ ?_);by_cases h:1<=n
 ·simp only [xq_,VQ,h,jf,zaG]
 ·simp only [xq_,VQ,h,jf,zaF]
theorem Y8(H:ah)(c:Cfg)(h:c.ok=true):cl 59 [.agg c.av] H=some (I 0,H):=by
 refine bC rfl rfl (ajN _ _ _) ?_ fP;have w:=λH n m=> Wv H n m;have e1:=λH=> (gW H c.init).lnS;simp only [Cfg.ok,zae,decide_eq_true_eq] at h;obtain⟨⟨⟨⟨⟨⟨⟨a,b⟩,d⟩,f⟩,g⟩,i⟩,j⟩,k⟩:=h;have t:∀n m,1<=n/\n<=m->jf n m=true:=λn m h=> by simp [jf,h.1,h.2]
 have hm:IntKind.wrap .i64 (c.aG*c.aH)=c.aG*c.aH:=by
  have:c.aG*c.aH<=8*4:=zbL b.2 d.2 (by omega) (by omega);have:0<=c.aG*c.aH:=zbT (by omega) (by omega);exact wrap_i64 (by omega) (by omega)
 have k':¬c.aG*c.aH < c.init.length:=by omega
 simp only [Nat.reduceLT,xq_,hq_,agv,aO,Cfg.av,w,t _ _ a,t _ _ b,t _ _ d,t _ _ f,t _ _ g,t _ _ i,t _ _ j,e1,iT,hm,k',zar]
theorem QV(H:ah)(c:Cfg)(h:c.ok=true):cl 57 [.agg c.av] H=some (I c.fK,H):=by
 refine bC rfl rfl (ajL _ _ _) ?_ fP;simp only [Cfg.ok,zae,decide_eq_true_eq] at h;obtain⟨⟨⟨⟨⟨⟨⟨a,b⟩,d⟩,f⟩,g⟩,i⟩,j⟩,k⟩:=h;have hm:IntKind.wrap .i64 (c.aG*c.aH)=c.aG*c.aH:=by
  have:c.aG*c.aH<=8*4:=zbL b.2 d.2 (by omega) (by omega);have:0<=c.aG*c.aH:=zbT (by omega) (by omega);exact wrap_i64 (by omega) (by omega)
 simp only [Nat.reduceLT,xq_,hq_,ags,aO,Cfg.av,iT,hm,Cfg.fK]
structure alD(c:Cfg):Prop where
 au:1<=c.au/\c.au<=6
 aG:1<=c.aG/\c.aG<=8
 aH:1<=c.aH/\c.aH<=4
 sets:1<=c.sets/\c.sets<=4
 ways:1<=c.ways/\c.ways<=3
 out:1<=c.out/\c.out<=8
 inn:1<=c.inn/\c.inn<=8
 init:(c.init.length:Int)<=c.aG*c.aH
 fK:1<=c.aG*c.aH/\c.aG*c.aH<=32
theorem uo {c:Cfg}(h:c.ok=true):alD c:=by
 simp only [Cfg.ok,zae,decide_eq_true_eq] at h;obtain⟨⟨⟨⟨⟨⟨⟨a,b⟩,d⟩,f⟩,g⟩,i⟩,j⟩,k⟩:=h;have h1:c.aG*c.aH<=8*4:=zbL b.2 d.2 (by omega) (by omega);have h2:1*1<=c.aG*c.aH:=zbL b.1 d.1 (by omega) (by omega);exact⟨a,b,d,f,g,i,j,k,by omega,by omega⟩
theorem adK(H:ah)(n m:Int)(h:1<=m):cl 84 [I n,I m] H=some (I (sO n m),H):=by
 refine dU rfl rfl (akb _ _ _ _ ?_);by_cases h0:n < 0
 ·simp only [Int.reduceNeg,xq_,adp,h0,sO]
 ·have e:n.tmod m=n % m:=zcd (by omega);simp only [Int.reduceNeg,xq_,adp,h0,NJ (show m≠0 by omega),sO,e]
theorem D7(H:ah)(c:Cfg)(h:c.ok=true)(aj:Int):cl 42 [.agg c.av,I aj] H=some (I (c.aQ aj),H):=by
 have B:=uo h;refine bC rfl rfl (ajB _ _ _ _) ?_ fP;have e:=λH=> adK H aj c.au B.au.1;simp only [Nat.reduceLT,xq_,hq_,agj,aO,Cfg.av,e,Cfg.aQ]
theorem Wx(H:ah)(c:Cfg)(h:c.ok=true)(a:Int):cl 148 [.agg c.av,I a] H=some (.tup [I (c.bn a),I (c.bM a)],H):=by
 have B:=uo h;refine bC rfl rfl (ahe _ _ _ _) ?_ (Ip λx hx=> by
  simp only [zai,zaK,or_false] at hx;rcases hx with rfl | rfl <;> exact fP)
 have e:=λH=> QV H c h;by_cases h0:a < 0
 ·simp only [Nat.reduceLT,Int.reduceNeg,xq_,hq_,QC,aO (dI c),h0,Cfg.bn,Cfg.bM,true_or]
 ·by_cases h1:c.fK<=a
  ·simp only [Nat.reduceLT,Int.reduceNeg,xq_,hq_,QC,aO (dI c),h0,h1,Cfg.bn,Cfg.bM,or_true,e]
  ·have q:a.tdiv c.aH=a / c.aH:=Int.tdiv_eq_ediv_of_nonneg (by omega);have r:a.tmod c.aH=a % c.aH:=zcd (by omega);have q1:0<=a / c.aH:=zcv (by omega) (by have:=B.aH;omega);have q2:a / c.aH<=a:=Int.ediv_le_self _ (by omega);have q3:c.fK<=32:=B.fK.2;have w:=wrap_i64 (a:=a / c.aH) (by omega) (by omega);have z:c.aH≠0:=by have:=B.aH;omega
   have l2:c.av[2]?=some (I c.aH):=rfl;simp only [Nat.reduceLT,Int.reduceNeg,xq_,hq_,QC,aO (dI c),h0,h1,Cfg.bn,Cfg.bM,or_false,e,l2,acL z,NJ z,q,r,w]
def zX(o:Option Nat):Int:=match o with
 | some i=> (i:Int)
 | none=> -1
theorem kS {α:Type}{p:α->Bool}:∀(l:List α) (i:Nat),(∀j a,j < i->l[j]?=some a->p a=false)->l.findIdx? p=((l.drop i).findIdx? p).map (· +i)
 | l,0,_=> by cases h:l.findIdx? p <;> simp [h]
 | [],i+1,_=> by simp
 | a::l,i+1,h=> by
  have h0:=h 0 a (by omega) rfl;rw [zca,h0,List.drop_succ_cons,kS l i λj b hj hb=> h (j+1) b (by omega) hb];simp only [zaj,if_false,Option.map_map]
  congr 1
theorem OB(H:ah){α:Type}{enc:α->List AV}(he:∀a,(enc a).length=3){x f:AV}{l:List α}(hx:aA H x 3 l.length (l.flatMap enc))(hl:l.length < 1000000000)(p:α->Bool)
  (hp:∀a∈l,oQ Tryz.prog cl f [.agg (enc a)] H=some (B (p a),H)):cl 158 [x,f] H=some (I (zX (l.findIdx? p)),H):=by
 have e1:=hx.lnS;have e2:∀i a,l[i]?=some a->lda 3 (dM x i) H=some (.agg (enc a),H):=λi a hi=> xI he hx hi;refine dU rfl rfl (ahj _ _ _ _ ?_);have key:∀k i,i+k=l.length->(∀j a,j < i->l[j]?=some a->p a=false)->Bg cl [x,f,I l.length,I i] H=some (I (zX (l.findIdx? p)),H):=by
  intro k
  induction k with
  | zero=>
   intro i hi hf;have h1:¬(i:Int) < l.length:=by omega
   have h2:l.findIdx? p=none:=by rw [kS l i hf,zaJ (by omega)];rfl
   rw [QG];simp only [Int.reduceNeg,xq_,h1,h2,zX]
  | succ k ih=>
   intro i hi hf;have h1:(i:Int) < l.length:=by omega
   have h3:=hx.ix (k:=.i64) (i:=(i:Int)) (by omega) h1;obtain⟨a,ha⟩:∃a,l[i]?=some a:=⟨_,zab (by omega)⟩
   have h4:=e2 i a ha;have h5:=hp a (zat ha);rw [zao] at h3;rw [QG];cases hpa:p a with
   | true=>
    have h2:l.findIdx? p=some i:=by
     rw [kS l i hf,zaU (by omega),zca];rw [zab (by omega)] at ha;simp only [zaa] at ha;rw [ha,hpa];simp
    rw [hpa] at h5;simp only [Int.reduceNeg,xq_,h1,h2,h3,h4,h5,zX]
   | false=>
    rw [hpa] at h5;have h6:(i:Int)+1=((i+1:Nat):Int):=by omega
    have h7:=wrap_i64 (a:=((i+1:Nat):Int)) (by omega) (by omega);have:=ih (i+1) (by omega) λj b hj hb=> by
     by_cases hji:j=i
     ·subst hji;rw [ha] at hb;cases hb;exact hpa
     ·exact hf j b (by omega) hb
    simp only [Int.reduceNeg,xq_,h1,h3,h4,h5,dB,h6,h7,this]
 have:=key l.length 0 (by omega) (λj a hj=> by omega);simp only [xq_,abB,e1];exact this
theorem zY(H:ah){α:Type}{enc:α->List AV}(he:∀a,(enc a).length=6){x f:AV}{l:List α}(hx:aA H x 6 l.length (l.flatMap enc))(hl:l.length < 1000000000)(p:α->Bool)
  (hp:∀a∈l,oQ Tryz.prog cl f [.agg (enc a)] H=some (B (p a),H)):cl 125 [x,f] H=some (I (zX (l.findIdx? p)),H):=by
 have e1:=hx.lnS;have e2:∀i a,l[i]?=some a->lda 6 (dM x i) H=some (.agg (enc a),H):=λi a hi=> xI he hx hi;refine dU rfl rfl (ag5 _ _ _ _ ?_);have key:∀k i,i+k=l.length->(∀j a,j < i->l[j]?=some a->p a=false)->A8 cl [x,f,I l.length,I i] H=some (I (zX (l.findIdx? p)),H):=by
  intro k
  induction k with
  | zero=>
   intro i hi hf;have h1:¬(i:Int) < l.length:=by omega
   have h2:l.findIdx? p=none:=by rw [kS l i hf,zaJ (by omega)];rfl
   rw [QA];simp only [Int.reduceNeg,xq_,h1,h2,zX]
  | succ k ih=>
   intro i hi hf;have h1:(i:Int) < l.length:=by omega
   have h3:=hx.ix (k:=.i64) (i:=(i:Int)) (by omega) h1;obtain⟨a,ha⟩:∃a,l[i]?=some a:=⟨_,zab (by omega)⟩
   have h4:=e2 i a ha;have h5:=hp a (zat ha);rw [zao] at h3;rw [QA];cases hpa:p a with
   | true=>
    have h2:l.findIdx? p=some i:=by
     rw [kS l i hf,zaU (by omega),zca];rw [zab (by omega)] at ha;simp only [zaa] at ha;rw [ha,hpa];simp
    rw [hpa] at h5;simp only [Int.reduceNeg,xq_,h1,h2,h3,h4,h5,zX]
   | false=>
    rw [hpa] at h5;have h6:(i:Int)+1=((i+1:Nat):Int):=by omega
    have h7:=wrap_i64 (a:=((i+1:Nat):Int)) (by omega) (by omega);have:=ih (i+1) (by omega) λj b hj hb=> by
     by_cases hji:j=i
     ·subst hji;rw [ha] at hb;cases hb;exact hpa
     ·exact hf j b (by omega) hb
    simp only [Int.reduceNeg,xq_,h1,h3,h4,h5,dB,h6,h7,this]
 have:=key l.length 0 (by omega) (λj a hj=> by omega);simp only [xq_,abl,e1];exact this
theorem Y9(H:ah)(c:Cfg)(h:c.ok=true)(o:Opn):cl 109 [.agg c.av,.agg o.av] H=some (B (c.right o),H):=by
 refine bC rfl rfl (agS _ _ _ _) ?_ fP;have e:=λH=> Wx H c h o.addr;have f1:c.right o=(decide (1<=o.aS) && decide (o.aS<=4) && !decide (c.bn o.addr=-1) && (decide (o.value=0) || decide (o.aS=2) || decide (o.aS=3))):=by simp [Cfg.right]
 rw [f1];by_cases a:1<=o.aS;rotate_left
 ·simp only [Nat.reduceLT,Int.reduceNeg,xq_,hq_,zV,aO,Opn.av,e,a,zaF]
 by_cases b:o.aS<=4;rotate_left
 ·simp only [Nat.reduceLT,Int.reduceNeg,xq_,hq_,zV,aO,Opn.av,e,a,b,zaG,zaF]
 by_cases d:c.bn o.addr=-1
 ·simp only [Nat.reduceLT,Int.reduceNeg,xq_,hq_,zV,aO,Opn.av,e,a,b,d,zaG,zaF,zar]
 by_cases f:o.value=0
 ·simp only [Nat.reduceLT,Int.reduceNeg,xq_,hq_,zV,aO,Opn.av,e,a,b,d,f,zaB,zbW]
 by_cases g:o.aS=2
 ·simp only [Nat.reduceLT,Int.reduceLE,Int.reduceEq,Int.reduceNeg,xq_,hq_,zV,aO,Opn.av,e,d,f,g,zaB,zbW,Bool.or_true]
 by_cases i:o.aS=3
 ·simp only [Nat.reduceLT,Int.reduceLE,Int.reduceEq,Int.reduceNeg,xq_,hq_,zV,aO,Opn.av,e,d,f,i,zaB,Bool.or_true]
 ·simp only [Nat.reduceLT,Int.reduceNeg,xq_,hq_,zV,aO,Opn.av,e,a,b,d,f,g,i,zaB,Bool.or_false,zb6]
theorem OC(H:ah)(c:Cfg)(h:c.ok=true)(o:Opn){r ty:Nat}(hr:r < H.next)(hg:H.get r=.blk 0 ty c.av):cl 108 [.agg o.av,.ref r 0 0] H=some (B (!c.right o),H):=by
 refine bC rfl rfl (agR _ _ _ _) ?_ fP;have e:=λH=> Y9 H c h o;have e1:lda 8 (.ref r 0 0) (H.guard.new (.blk 0 61 o.av))=some (.agg (c.av.take 8),_):=jw (off:=0) (n:=8) (by rw [bg (by rw [yw];exact hr),X3];exact hg) (zac 8);simp only [Nat.reduceLT,xq_,hq_,aa6,aO (qR o),e1,e]
theorem D8 {o:Option Nat}:decide (0<=zX o)=o.isSome:=by
 cases o with
 | none=> rfl
 | some i=> simp [zX]
theorem Wy(H:ah)(c:Cfg)(h:c.ok=true){v:AV}{l:List Opn}(hv:aA H v 3 l.length (l.flatMap Opn.av))(hl:l.length < 1000000000){r ty:Nat}(hr:r < H.next)(hg:H.get r=.blk 0 ty c.av):cl 106 [v,.ref r 0 0] H=some (B (!(decide (l.length<=24) && l.all c.right)),H):=by
 refine bC rfl rfl (agP _ _ _ _) ?_ fP;have e1:=hv.guard.lnS;have e2:=OB H.guard (enc:=Opn.av) dR (f:=.fn (.func 108) [] [.ref r 0 0]) hv.guard hl (λo=> !c.right o) (λo _=> by
  rw [sK (by kernel_rfl)];exact OC H.guard c h o hr hg)
 have e3:cl 107 [v,.fn (.func 108) [] [.ref r 0 0]] H.guard=some (B (l.findIdx? λo=> !c.right o).isSome,H.guard):=by
  refine dU rfl rfl (agQ _ _ _ _ ?_);simp only [xq_,aa5,e2,D8]
 have e4:(l.findIdx? λo=> !c.right o).isSome=!l.all c.right:=by
  rw [zc7,List.not_all_eq_any_not]
 by_cases h0:l.length<=24
 ·have h1:¬(24:Int) < l.length:=by omega
  simp only [xq_,VR,e1,e3,e4,h0,h1,zaG]
 ·have h1:(24:Int) < l.length:=by omega
  simp only [xq_,VR,e1,h0,h1,zaF,zaB]
def Ld(H:ah)(x:AV)(ps:List (List Opn)):Prop:=
 ∃cells:List AV,aA H x 1 ps.length cells/\∀(i:Nat) v l,cells[i]?=some v->ps[i]?=some l->aA H v 3 l.length (l.flatMap Opn.av)/\(l=[]->v=zN)
theorem Ld.fU {H H':ah}{x:AV}{ps:List (List Opn)}(h:Ld H x ps)(hn:H.next<=H'.next)(hg:∀r,r < H.next->H'.get r=H.get r):Ld H' x ps:=by
 obtain⟨cells,h1,h2⟩:=h;exact⟨cells,h1.fU hn λr _ hr=> hg r hr,λi v l a b=> ⟨(h2 i v l a b).1.fU hn λr _ hr=> hg r hr,(h2 i v l a b).2⟩⟩
theorem xK {n:Nat}{p:Nat->Bool}:∀i,i<=n->(∀j,j < i->p j=false)->(List.range n).findIdx? p=((List.range' i (n - i)).findIdx? p).map (· +i):=by
 intro i hi hf;rw [kS (List.range n) i λj a hj ha=> by
  have:a=j:=by
   rw [zbr (by omega)] at ha
   simpa using ha.symm
  rw [this];exact hf j hj]
 congr 2
 rw [zcg,List.drop_range'];simp
theorem OD(H:ah){x f:AV}{n:Nat}{cells:List AV}(hx:aA H x 1 n cells)(hl:n < 1000000000)(p:Nat->Bool)
  (hp:∀i v,cells[i]?=some v->oQ Tryz.prog cl f [v] H=some (B (p i),H)):cl 157 [x,f] H=some (I (zX ((List.range n).findIdx? p)),H):=by
 have e1:=hx.lnS;have hcl:cells.length=n:=by have:=hx.1;omega
 refine dU rfl rfl (ahi _ _ _ _ ?_);have key:∀k i,i+k=n->(∀j,j < i->p j=false)->Bf cl [x,f,I n,I i] H=some (I (zX ((List.range n).findIdx? p)),H):=by
  intro k
  induction k with
  | zero=>
   intro i hi hf;have h1:¬(i:Int) < n:=by omega
   have h2:(List.range n).findIdx? p=none:=by rw [xK i (by omega) hf,show n - i=0 by omega];rfl
   rw [QF];simp only [Int.reduceNeg,xq_,h1,h2,zX]
  | succ k ih=>
   intro i hi hf;have h1:(i:Int) < n:=by omega
   have h3:=hx.ix (k:=.i64) (i:=(i:Int)) (by omega) h1;obtain⟨v,hv⟩:∃v,cells[i]?=some v:=⟨_,zab (by omega)⟩
   have h4:=hx.ld (i:=i) (by omega);rw [hv] at h4;have h5:=hp i v hv;rw [zao] at h3;rw [QF];cases hpa:p i with
   | true=>
    have h2:(List.range n).findIdx? p=some i:=by
     rw [xK i (by omega) hf,show n - i=k+1 by omega,zcF,zca,hpa];simp
    rw [hpa] at h5;simp only [Int.reduceNeg,xq_,h1,h2,h3,h4,h5,zX]
   | false=>
    rw [hpa] at h5;have h6:(i:Int)+1=((i+1:Nat):Int):=by omega
    have h7:=wrap_i64 (a:=((i+1:Nat):Int)) (by omega) (by omega);have:=ih (i+1) (by omega) λj hj=> by
     by_cases hji:j=i
     ·rw [hji];exact hpa
     ·exact hf j (by omega)
    simp only [Int.reduceNeg,xq_,h1,h3,h4,h5,dB,h6,h7,this]
 have:=key n 0 (by omega) (λj hj=> by omega);simp only [xq_,abz,e1];exact this
theorem ab3(H:ah)(c:Cfg)(h:c.ok=true){x:AV}{ps:List (List Opn)}(hx:Ld H x ps)(hn:ps.length < 1000000000)(hl:∀l∈ps,l.length < 1000000000):cl 60 [.agg c.av,x] H=some (I (if c.oZ ps then 0 else 1),H):=by
 refine bC rfl rfl (ajO _ _ _ _) ?_ fP;have hx1:=hx.fU (H':=H.guard.new (.blk 0 31 c.av)) (by rw [fC,yw];omega) λr hr=> by rw [bg (by rw [yw];exact hr),X3]
 obtain⟨cells,x1,x2⟩:=hx1;have hcl:cells.length=ps.length:=by have:=x1.1;omega
 let bad:List Opn->Bool:=λl=> !(decide (l.length<=24) && l.all c.right)
 have e2:=OD (H.guard.new (.blk 0 31 c.av)) (f:=.fn (.func 106) [] [.ref H.next 0 0]) x1 hn (λi=> bad (ps.getD i [])) (λi v hv=> by
  have hi:i < ps.length:=by rw [<-hcl];exact(zah.1 hv).1
  have hpi:ps[i]?=some (ps.getD i []):=by simp [List.getD,zab hi]
  rw [sK (by kernel_rfl)];exact Wy _ c h (x2 i v _ hv hpi).1 (hl _ (zat hpi)) (by rw [fC,yw];omega) (aK (by rw [yw])))
 have e4:((List.range ps.length).findIdx? λi=> bad (ps.getD i [])).isSome=!(ps.all λl=> decide (l.length<=24) && l.all c.right):=by
  rw [zc7,List.not_all_eq_any_not,Bool.eq_iff_iff,zcE,zcE];constructor
  ·rintro⟨i,hi,hb⟩;have hi:i < ps.length:=zaY.1 hi;exact⟨ps.getD i [],zat (i:=i) (by simp [List.getD,zab hi]),hb⟩
  ·rintro⟨l,hm,hb⟩;obtain⟨i,hi,he⟩:=zc8 hm;have hg:ps.getD i []=l:=by simp [List.getD,zab hi,he]
   exact⟨i,zaY.2 hi,by rw [hg];exact hb⟩
 have e3:cl 105 [x,.fn (.func 106) [] [.ref H.next 0 0]] (H.guard.new (.blk 0 31 c.av))=some (B (!(ps.all λl=> decide (l.length<=24) && l.all c.right)),H.guard.new (.blk 0 31 c.av)):=by
  refine dU rfl rfl (agO _ _ _ _ ?_);simp only [xq_,aa4,e2,D8,e4]
 have l0:c.av[0]?=some (I c.au):=rfl;have e5:=x1.lnS;cases hb:ps.all λl=> decide (l.length<=24) && l.all c.right with
 | false=> simp only [Nat.reduceLT,xq_,hq_,YU,aO (dI c),e3,hb,zaB,Cfg.oZ,zaF]
 | true=>
  by_cases hc:(ps.length:Int)=c.au
  ·simp only [Nat.reduceLT,xq_,hq_,YU,aO (dI c),e3,e5,hb,l0,zar,Cfg.oZ,hc]
  ·simp only [Nat.reduceLT,xq_,hq_,YU,aO (dI c),e3,e5,hb,l0,zar,zaB,Cfg.oZ,zaG,hc]
theorem Jc {c:Cfg}(h:c.ok=true){aj:Int}(h0:0<=aj)(h1:aj < c.aG):c.first aj≠[]:=by
 have B:=uo h;unfold Cfg.first
 rw [if_neg (by omega)];intro e;have:=congrArg List.length e;simp only [zay,zcy,zak] at this;have:=B.aH;omega
theorem OE {c:Cfg}(h:c.ok=true){aj:Int}(h0:0<=aj)(h1:aj < c.aG){from_:Nat}(hf:(from_:Int)=min (aj*c.aH) c.init.length):
  aP (List.replicate c.aH.toNat zI) 0 (((c.init.map I).drop from_).take (min (c.init.length - from_) c.aH.toNat))=(c.first aj).map I:=by
 have B:=uo h;have hw:=B.aH;have hlw:0<=aj*c.aH:=zbT h0 (by omega);unfold Cfg.first
 rw [if_neg (by omega)]
 apply zbD
 intro i;have hlen:(((c.init.map I).drop from_).take (min (c.init.length - from_) c.aH.toNat)).length=min (c.init.length - from_) c.aH.toNat:=by
  rw [zav,zaQ,zay];omega
 rw [wP (by rw [hlen,zcc];omega),hlen];rcases zaP i c.aH.toNat with hi | hi
 ·simp only [zas,zbr hi,zaf];by_cases hc:i < c.init.length - from_
  ·rw [if_pos (by omega),Nat.sub_zero,zaH,if_pos (by omega),zaL,zas];have e:from_=(aj*c.aH).toNat:=by omega
   rw [e];have hlt:(aj*c.aH).toNat+i < c.init.length:=by omega
   simp [List.getD,zab hlt]
  ·rw [if_neg (by omega),zbn,if_pos hi];have hge:c.init.length<=(aj*c.aH).toNat+i:=by omega
   simp [List.getD,zaN hge]
 ·rw [if_neg (by omega),zaN (by simp;omega),zaN (by simp;omega)]
theorem QW(H:ah)(c:Cfg)(h:c.ok=true)(aj:Int)(h0:0<=aj)(h1:aj < c.aG):cl 204 [.agg c.av,I aj] H=some (dat (c.first aj),H):=by
 have B:=uo h;have hw:=B.aH;have hlw:0<=aj*c.aH:=zbT h0 (by omega);have alE:aj*c.aH<=8*4:=zbL (by have:=B.aG;omega) hw.2 (by omega) (by omega);have w:=wrap_i64 (a:=aj*c.aH) (by omega) (by omega);have l1:c.av[1]?=some (I c.aG):=rfl;have l2:c.av[2]?=some (I c.aH):=rfl;have l7:c.av[7]?=some (dat c.init):=rfl;let H1:=(H.guard.new (.blk 0 31 c.av)).new (.blk 0 3 (dh [zI] c.aH.toNat));have e1:=Vt (e:=3) (m:=1) (by_:=8) (z:=[zI]) (n:=c.aH) (H:=H.guard.new (.blk 0 31 c.av)) rfl rfl (by omega) (by omega) (by decide);have e2:=λH=> (gW H c.init).lnS;have hm:0<=min (aj*c.aH) (c.init.length:Int):=by omega
 obtain⟨y,e3,e4⟩:=(gW H1 c.init).from_ (k:=.i64) (lo:=min (aj*c.aH) (c.init.length:Int)) hm (by omega);obtain⟨H2,e5,e6,e7,e8,e9⟩:=afO (H:=H1) (r:=H.next+1) (g:=0) (off:=0) (m:=1) (len:=c.aH.toNat) (cap:=c.aH.toNat) (ex:=true) (ty:=3) (aK (by rw [fC,yw])) (by show H.next<=_;omega) (by rw [jI];simp) e4 (Ij (uj _) _);refine iJ rfl rfl (ahx _ _ _ _ (r:=(.sl (H.next+1) 0 0 1 c.aH.toNat c.aH.toNat true,H2)) ?_) ?_
 ·have n0:¬aj < 0:=by omega
  have n1:¬c.aG<=aj:=by omega
  simp only [fC,yw] at e1;simp only [Nat.reduceLT,xq_,hq_,abU,aO (dI c),n0,n1,l1,l2,l7,e1,e2,iT,w,U1,e3,e5,H1]
 ·rw [tq (Jc h h0 h1)];have hf:=OE h h0 h1 (from_:=(min (aj*c.aH) (c.init.length:Int)).toNat) (by omega);rw [jI,zbC,zbC,hf] at e6;have hlen:(c.first aj).length=c.aH.toNat:=by
   unfold Cfg.first
   rw [if_neg (by omega)];simp
  rw [hlen];refine jW (by omega) (cells:=(c.first aj).map I) ?_ (gQ _ λx hx=> qV _ x hx _ _);simp only [bI,e6];rw [if_pos ⟨trivial,by simp [hlen]⟩,zaM,zau (by simp [hlen])]
theorem Za(c:Cfg)(dF:Rows)(n:Int)(r:Row):(Gm c dF).set 8 (.map .i64 (ML (aaP (λr=> .agg r.av) dF) n (.agg r.av)))=Gm c (qA dF n r):=by
 have:=Vu (f:=λr:Row=> AV.agg r.av) dF n r;rw [this];rfl
theorem WA(H:ah)(hb:H.base<=H.next)(c:Cfg)(h:c.ok=true)(me:Int):∃H' q,cl 160 [.agg c.av,I me] H=some (.ref q 0 0,H')/\Made H H' (upd mM q (Gm c (c.iO me c.aG.toNat))):=by
 have B:=uo h;let Hb:=H.new (.blk 0 31 c.av);let Hm:=Hb.new (.map .i64 []);let H0:=Hm.new (.blk 0 277 (c.av++[.mp (H.next+1)]));have M0:Made Hb H0 (upd mM (H.next+2) (Gm c [])):=by
  refine Lc (H':=Hm) (by simp only [Hb,fC];omega) (by simp only [Hm,Hb,fC]) rfl (λr hr=> bg hr) (by rw [za1,dI];rfl) (by simp [Gm]) (λr=> if r=H.next+1 then some 8 else none) λi cc x hc hx=> ?_;by_cases hi:i < 8
  ·left;simp only [Gm] at hc;rw [zaE (by simp [Cfg.av];omega),zas] at hc;rw [zaE (by simp [Cfg.av];omega)] at hx;rw [hx] at hc;exact(zaT hc).symm
  ·have:i=8:=by
    have:=(zah.1 hx).1;simp [Cfg.av] at this;omega
   subst this;right;right;cases hc;cases hx;exact⟨H.next+1,.i64,rfl,by simp only [Hb,fC];omega,by omega,by simp,aK (by simp only [Hb,fC]),.inl rfl⟩
 have key:∀k i,i+k=c.aG.toNat->∀Hi,Made Hb Hi (upd mM (H.next+2) (Gm c (c.iO me i)))->∃H',Bh cl [I me,.ref H.next 0 0,.ref (H.next+2) 0 0,I c.aG,I i] Hi=some (.ref (H.next+2) 0 0,H')/\Made Hb H' (upd mM (H.next+2) (Gm c (c.iO me c.aG.toNat))):=by
  intro k
  induction k with
  | zero=>
   intro i hi Hi M;have h1:¬(i:Int) < c.aG:=by omega
   rw [QH];refine⟨Hi,?_,by rw [show c.aG.toNat=i by omega];exact M⟩;simp only [Int.reduceNeg,xq_,h1]
  | succ k ih=>
   intro i hi Hi M;have h1:(i:Int) < c.aG:=by omega
   have hbx:Hi.get H.next=.blk 0 31 c.av:=by rw [M.same _ (by simp only [Hb,fC];omega)];exact aK rfl
   have hbn:H.next < Hi.next:=zaw (by simp only [Hb,fC];omega) M.next
   have e1:lda 8 (.ref H.next 0 0) Hi=some (.agg c.av,Hi):=(jw (off:=0) (n:=8) hbx (zac 8)).trans rfl;have e2:=D7 Hi c h i;have h6:(i:Int)+1=((i+1:Nat):Int):=by omega
   have h7:=wrap_i64 (a:=((i+1:Nat):Int)) (by have:=B.aG;omega) (by have:=B.aG;omega);have tail:∀Hj,Made Hb Hj (upd mM (H.next+2) (Gm c (c.iO me (i+1))))->∃H',Bj cl (I me) (.ref H.next 0 0) (.ref (H.next+2) 0 0) (I c.aG) (I i) Hj=some (.ref (H.next+2) 0 0,H')/\Made Hb H' (upd mM (H.next+2) (Gm c (c.iO me c.aG.toNat))):=by
    intro Hj Mj;obtain⟨H',a1,a2⟩:=ih (i+1) (by omega) Hj Mj;refine⟨H',?_,a2⟩;simp only [xq_,Bj,dB,h6,h7,a1]
   rw [QH];by_cases hm:c.aQ i=me
   ·obtain⟨r,f1,f2,f3,f4⟩:=M.good.map (q:=H.next+2) aY (i:=8) rfl;obtain⟨H',g1,g2,g3,g4⟩:=(f4 (by rw [M.base];simp only [Hb,oD,fC];omega)).1 i (.agg (Row.av ⟨0,-1,c.first i⟩));simp only [Row.av] at g1;have e3:=QW Hi.guard c h i (by omega) h1;have Mj:Made Hb H' (upd mM (H.next+2) (Gm c (c.iO me (i+1)))):=by
     refine(M.step g2 g3).as ?_;rw [Di,Za];simp only [Cfg.iO,hm,if_true]
    obtain⟨H2,t1,t2⟩:=tail H' Mj;refine⟨H2,?_,t2⟩;simp only [Int.reduceNeg,Nat.reduceAdd,aP,xq_,hq_,h1,e1,e2,hm,f1,e3,ai5,lD,fV,afi,g1,t1]
   ·have hm':¬(c.aQ i=me):=hm;obtain⟨H2,t1,t2⟩:=tail Hi (M.as (by simp only [Cfg.iO,hm,if_false]));refine⟨H2,?_,t2⟩;simp only [Int.reduceNeg,xq_,h1,e1,e2,hm,t1]
 obtain⟨H',a1,a2⟩:=key c.aG.toNat 0 (by omega) H0 M0;refine⟨H',H.next+2,dU rfl rfl (ahk _ _ _ _ (r:=(_,H')) ?_),a2.uU⟩;have l1:c.av[1]?=some (I c.aG):=rfl;have e:∀r,bd 277 [(0,.agg c.av),(1,.mp r)]=some (.agg (c.av++[.mp r])):=λr=> by
  simp only [xq_,afD,lD,fV,aav,Cfg.av,eH];rfl
 have e2:∀r,(c.av++[AV.mp r]).all AV.aJ=true:=λr=> by rw [za1,dI];rfl
 simp only [Nat.reduceLT,xq_,hq_,abE,aO (dI c),e,aO (e2 _),l1];exact a1
theorem iW {b n:Nat}{H1:ah}{g g':bJ}{q:Nat}{cs:List Cell}(G:Good b H1 g)(h:g q=some cs)(hn:H1.next=n):cup n g g' q=some cs:=by
 unfold cup;rw [if_pos (by have:=G.lt h;omega),h]
theorem jZ {b n:Nat}{H1:ah}{g g':bJ}{q:Nat}{cs:List Cell}(G:Good b H1 g')(h:g' q=some cs)(hn:n<=b):cup n g g' q=some cs:=by
 unfold cup;rw [if_neg (by have:=G.le h;omega),h]
theorem drawn {H H':ah}{x:Option (AV × ah)}{v:AV}{g:bJ}(e:x=some (v,H'))(M:Made H.guard H' g):∃H2,unG H x=some (v,H2)/\Made H H2 g:=
 ⟨_,by rw [e];rfl,M.Y3⟩
theorem eX {H:ah}{r:Nat}{ty:TypeId}{c:Cfg}(h:H.get r=.blk 0 ty c.av):lda 8 (.ref r 0 0) H=some (.agg c.av,H):=(jw (off:=0) (n:=8) h (zac 8)).trans rfl
theorem aA.WB {P:Program}{t e:TypeId}(h:P.underlying t=some (.slice e)){H:ah}{x:AV}{m n:Nat}{cells:List AV}(hx:aA H x m n cells)(hn:n≠0):nH P .eql t x (.s (.slice none 0 0))=some (B false):=by
 obtain⟨_,hx⟩:=hx;cases x with
 | sl r g o m n c ex=> exact yL h
 | vs n m l=> exact qh h
 | s v=>
  cases v with
  | slice a b c=>
   cases a with
   | none=> exact absurd hx.2.2 hn
   | some a=> exact hx.elim
  | _=> exact hx.elim
 | _=> exact hx.elim
def ET(d t:Nat)(c:Cfg)(me:Int):List Cell:=[.av (.ref d 0 0),.av (.ref t 0 0)]++c.av.map .av++[.av (I me)]
def uY(g:bJ)(q d t:Nat)(c:Cfg)(me:Int)(h:Home):Prop:=g q=some (ET d t c me)/\g d=some (Gm c h.dF)/\g t=some (uX h.aT)
theorem Lh {xs:List AV}{cs:List Cell}(h:cs=xs.map .av):∀(i:Nat) (c:Cell) (x:AV),cs[i]?=some c->xs[i]?=some x->c=.av x∨(x=zN/\∃m,c=.seq m []):=by
 subst h;intro i c x hc hx;rw [zas,hx] at hc;exact .inl (zaT hc).symm
theorem adL(H:ah)(hb:H.base<=H.next)(c:Cfg)(h:c.ok=true)(me:Int):∃H' q d t g',cl 114 [.agg c.av,I me] H=some (.ref q 0 0,H')/\Made H H' g'/\uY g' q d t c me (.new c me):=by
 let H1:=H.new (.blk 0 31 c.av);obtain⟨H2',d,e1,M1⟩:=WA H1.guard (zac _) c h me;obtain⟨H2,e1,M1⟩:=drawn e1 M1;obtain⟨H3',t,e2,M2⟩:=Y6 H2.guard;obtain⟨H3,e2,M2⟩:=drawn e2 M2;let xs:List AV:=[.ref d 0 0,.ref t 0 0]++c.av++[I me]
 have hall:xs.all AV.aJ=true:=by
  simp only [xs,za1,dI];rfl
 have M3:Made H3 (H3.new (.blk 0 166 xs)) (upd mM H3.next (ET d t c me)):=jv hall (by simp [xs,ET]) (Lh (by simp [xs,ET]));have g1:H1.get H.next=.blk 0 31 c.av:=aK rfl
 have l1:H.next < H1.next:=by simp only [H1,fC];omega
 have b1:=eX g1;have g2:H2.get H.next=.blk 0 31 c.av:=by rw [M1.same _ l1,g1]
 have g3:H3.get H.next=.blk 0 31 c.av:=by rw [M2.same _ (zaw l1 M1.next),g2]
 have b3:=eX g3;refine⟨_,H3.next,d,t,_,dU rfl rfl (agY _ _ _ _ (r:=(_,H3.new (.blk 0 166 xs))) ?_),((M1.trans M2).trans M3).uU,?_⟩
 ·have e:bd 166 [(0,.ref d 0 0),(1,.ref t 0 0),(2,.agg c.av),(3,I me)]=some (.agg xs):=by
   simp only [xq_,afr,lD,fV,aak,Cfg.av,eH];rfl
  simp only [H1] at e1 b1;simp only [Nat.reduceLT,xq_,hq_,abd,aO (dI c),b1,e1,e2,b3,e,aO hall]
 ·refine⟨jZ M3.good aY (zac _),iW (M1.good.merge M2) (iW M1.good aY rfl) rfl,iW (M1.good.merge M2) (jZ M2.good aY (zac _)) rfl⟩
theorem adM(H:ah)(l:List Opn)(hl:l.length < 1000000000){x:AV}(hx:aA H x 3 l.length (l.flatMap Opn.av))(h0:l=[]->x=zN):∃H' q,cl 113 [x] H=some (.ref q 0 0,H')/\Made H H' (upd mM q (ES ⟨l,[],false⟩)):=by
 have e1:=Y7 H l hl hx h0 λhn=> hx.WB Tryz.underlying62 λe=> hn (zan e);have hc:(vsl 3 Opn.av l).cells=[vsl 3 Opn.av l]:=Dn;refine⟨_,H.next,dU rfl rfl (agW _ _ _ (r:=(_,H.new (.blk 0 135 [vsl 3 Opn.av l,zN,zB]))) ?_),jv ?_ rfl λi c x hc hx=> ?_⟩
 ·simp only [Nat.reduceLT,Nat.reduceAdd,aP,xq_,hq_,abb,e1,afl,lD,fV,aag,aO]
 ·simp only [hq_]
 ·match i with
  | 0=> left;cases hc;cases hx;rfl
  | 1=> right;cases hc;cases hx;exact⟨rfl,1,rfl⟩
  | 2=> left;cases hc;cases hx;rfl
  | i+3=> cases hc
theorem Made.add {H H1 H2:ah}{g:bJ}{q:Nat}{cs:List Cell}(M:Made H H1 g)(M':Made H1 H2 (upd mM q cs)):Made H H2 (upd g q cs):=
 (M.trans M').as ((M.good.ahG (M'.lt aY).1).symm)
def OG(a:Nat->Nat)(c:Cfg)(me:Int)(d:dL)(num:Int):List AV:=[.ref (a 1) 0 0,.ref (a 2) 0 0]++c.av++[I me,.ref (a 3) 0 0]++d.av++[I num]
def EU(a:Nat->Nat)(c:Cfg)(me:Int)(d:dL)(num:Int):List Cell:=(OG a c me d num).map .av
def nV(g:bJ)(a:Nat->Nat)(c:Cfg)(me:Int)(n:Node):Prop:=
 g (a 0)=some (EU a c me n.aF n.num)/\g (a 1)=some (uV n.aC)/\g (a 2)=some (ES n.bW)/\uY g (a 3) (a 4) (a 5) c me n.home
theorem Lj {a:Nat->Nat}{c:Cfg}{me:Int}{d:dL}{num:Int}:(OG a c me d num).all AV.aJ=true:=by
 simp only [OG,za1,dI,Io];rfl
def six(x0 x1 x2 x3 x4 x5:Nat):Nat->Nat
 | 0=> x0
 | 1=> x1
 | 2=> x2
 | 3=> x3
 | 4=> x4
 | _=> x5
theorem adN(H:ah)(c:Cfg)(h:c.ok=true)(me:Int)(l:List Opn)(hl:l.length < 1000000000){x:AV}(hx:aA H x 3 l.length (l.flatMap Opn.av))(h0:l=[]->x=zN):
  ∃H' a g',cl 63 [.agg c.av,I me,x] H=some (.ref (a 0) 0 0,H')/\Made H H' g'/\nV g' a c me (.new c me l):=by
 have Bd:=uo h;let H1:=H.new (.blk 0 31 c.av);obtain⟨H2',q1,e1,M1⟩:=Y4 H1.guard c.sets c.ways Bd.sets.1 Bd.ways.1;obtain⟨H2,e1,M1⟩:=drawn e1 M1;have hx2:aA H2 x 3 l.length (l.flatMap Opn.av):=(hx.new (.blk 0 31 c.av)).fU M1.next λr _ hr=> M1.same r hr
 obtain⟨H3',q2,e2,M2⟩:=adM H2.guard l hl hx2.guard h0;obtain⟨H3,e2,M2⟩:=drawn e2 M2;obtain⟨H4',q3,q4,q5,g4,e3,M3,I3⟩:=adL H3.guard (zac _) c h me;obtain⟨H4,e3,M3⟩:=drawn e3 M3;let a:=six H4.next q1 q2 q3 q4 q5
 let xs:=OG a c me .zero 0;have M4:Made H4 (H4.new (.blk 0 75 xs)) (upd mM H4.next (EU a c me .zero 0)):=jv Lj (by simp [xs,EU]) (Lh rfl);have g1:H1.get H.next=.blk 0 31 c.av:=aK rfl
 have l1:H.next < H1.next:=by simp only [H1,fC];omega
 have l3:H.next < H3.next:=zaw l1 (zaC M1.next M2.next)
 have b1:=eX g1;have g2:H2.get H.next=.blk 0 31 c.av:=by rw [M1.same _ l1,g1]
 have g3:H3.get H.next=.blk 0 31 c.av:=by rw [M2.same _ (zaw l1 M1.next),g2]
 have b3:=eX g3;have G12:=M1.good.merge M2;have ahH:=G12.merge M3;refine⟨_,a,_,dU rfl rfl (ajS _ _ _ _ _ (r:=(_,H4.new (.blk 0 75 xs))) ?_),(((M1.trans M2).trans M3).trans M4).uU,?_⟩
 ·have e:bd 75 [(0,.ref q1 0 0),(1,.ref q2 0 0),(2,.agg c.av),(3,I me),(4,.agg [.ref q3 0 0])]=some (.agg xs):=by
   simp only [xq_,ai4,lD,fV,afg,Cfg.av,eH];rfl
  have l3:c.av[3]?=some (I c.sets):=rfl;have l4:c.av[4]?=some (I c.ways):=rfl;have bx:∀r,(AV.ref r 0 0).cells=[.ref r 0 0]:=λ_=> rfl;have eb:∀r,bd 71 [(0,.ref r 0 0)]=some (.agg [.ref r 0 0]):=λr=> by
   simp only [xq_,ai3,lD,fV,aff];rfl
  simp only [H1] at e1 b1;simp only [Nat.reduceLT,xq_,hq_,agz,aO (dI c),l3,l4,e1,e2,e3,b3,eb,e,aO Lj,xs];rfl
 ·refine⟨jZ M4.good aY (zac _),iW ahH (iW G12 (iW M1.good aY rfl) rfl) rfl,iW ahH (iW G12 (jZ M2.good aY (zac _)) rfl) rfl,?_⟩;obtain⟨i1,i2,i3⟩:=I3;exact⟨iW ahH (jZ M3.good i1 (zac _)) rfl,iW ahH (jZ M3.good i2 (zac _)) rfl,iW ahH (jZ M3.good i3 (zac _)) rfl⟩
def wu(a:Nat->Nat):List AV:=[.ref (a 0) 0 0,.ref (a 1) 0 0,.ref (a 2) 0 0,.ref (a 3) 0 0]
def Zb(P:Nat->Nat->Nat)(n:Nat):List Cell:=[.seq 4 ((List.range n).flatMap λi=> wu (P i))]
def rH(g:bJ)(a:Nat->Nat)(c:Cfg)(p:Port):Prop:=
 g (a 0)=some (Aq p.rq c.out)/\g (a 1)=some (Aq p.rin c.inn)/\g (a 2)=some (Aq p.an c.out)/\g (a 3)=some (Aq p.ain 1)
def adO(P:Nat->Nat->Nat)(n:Nat):Prop:=∀i j s t,i < n->j < n->s < 4->t < 4->P i s=P j t->i=j/\s=t
def mZ(g:bJ)(f:Nat)(P:Nat->Nat->Nat)(c:Cfg)(fab:Fab):Prop:=
 g f=some (Zb P fab.l.length)/\(∀i p,fab.l[i]?=some p->rH g (P i) c p)/\fab.out=c.out/\fab.inn=c.inn
def akj(x0 x1 x2 x3:Nat):Nat->Nat
 | 0=> x0
 | 1=> x1
 | 2=> x2
 | _=> x3
theorem Gn {P P':Nat->Nat->Nat}:∀n,(∀i,i < n->P' i=P i)->(List.range n).flatMap (λi=> wu (P' i))=(List.range n).flatMap λi=> wu (P i)
 | 0,_=> rfl
 | n+1,h=> by
  rw [zbV,zb4,zb4,Gn n λi hi=> h i (by omega)];simp only [zaV,List.flatMap_nil,h n (by omega)]
theorem Jd(P:Nat->Nat->Nat)(n:Nat):((List.range n).flatMap λi=> wu (P i)).length=n*4:=by
 rw [dX (m:=4) (λ_=> rfl),zcy]
theorem rH.ext {g g':bJ}{a:Nat->Nat}{c:Cfg}{p:Port}(h:rH g a c p)(hg:∀s,s < 4->g' (a s)=g (a s)):rH g' a c p:=by
 obtain⟨h0,h1,h2,h3⟩:=h;exact⟨by rw [hg 0 (by omega),h0],by rw [hg 1 (by omega),h1],by rw [hg 2 (by omega),h2],by rw [hg 3 (by omega),h3]⟩
theorem rH.some {g:bJ}{a:Nat->Nat}{c:Cfg}{p:Port}(h:rH g a c p){s:Nat}(hs:s < 4):∃l r,g (a s)=some (Aq l r):=by
 obtain⟨h0,h1,h2,h3⟩:=h
 match s,hs with
 | 0,_=> exact⟨_,_,h0⟩
 | 1,_=> exact⟨_,_,h1⟩
 | 2,_=> exact⟨_,_,h2⟩
 | 3,_=> exact⟨_,_,h3⟩
theorem WC(H:ah)(hb:H.base<=H.next)(c:Cfg)(h:c.ok=true):∃H' f P g',cl 61 [.agg c.av] H=some (.ref f 0 0,H')/\Made H H' g'/\mZ g' f P c (.new c)/\adO P c.au.toNat:=by
 have Bd:=uo h;let H1:=H.new (.blk 0 31 c.av);let H2:=H1.new (.blk 0 145 [zN]);let f:=H.next+1
 have M0:Made H1 H2 (upd mM f (Zb (λ_ _=> 0) 0)):=jv rfl rfl λi c x hc hx=> by
  match i with
  | 0=> right;cases hc;cases hx;exact⟨rfl,4,rfl⟩
  | i+1=> cases hc
 have l0:c.av[0]?=some (I c.au):=rfl;have l5:c.av[5]?=some (I c.out):=rfl;have l6:c.av[6]?=some (I c.inn):=rfl;have key:∀k i,i+k=c.au.toNat->∀Hi gi P,Made H1 Hi gi->gi f=some (Zb P i)->(∀j,j < i->rH gi (P j) c .zero)->adO P i->
   ∃H' g' P',IV cl [.ref H.next 0 0,.ref f 0 0,I c.au,I i] Hi=some (.ref f 0 0,H')/\Made H1 H' g'/\g' f=some (Zb P' c.au.toNat)/\(∀j,j < c.au.toNat->rH g' (P' j) c .zero)/\adO P' c.au.toNat:=by
  intro k
  induction k with
  | zero=>
   intro i hi Hi gi P M hf hp hj;have h1:¬(i:Int) < c.au:=by omega
   have hi':c.au.toNat=i:=by omega
   rw [VO];refine⟨Hi,gi,P,?_,M,by rw [hi'];exact hf,by rw [hi'];exact hp,by rw [hi'];exact hj⟩;simp only [xq_,h1]
  | succ k ih=>
   intro i hi Hi gi P M hf hp hj;have h1:(i:Int) < c.au:=by omega
   have h6:(i:Int)+1=((i+1:Nat):Int):=by omega
   have h7:=wrap_i64 (a:=((i+1:Nat):Int)) (by have:=Bd.au;omega) (by have:=Bd.au;omega);have lt1:H.next < H1.next:=by simp only [H1,fC];omega
   have bx:∀H':ah,(∀r,r < H1.next->H'.get r=H1.get r)->H'.get H.next=.blk 0 31 c.av:=λH' hs=> by rw [hs _ lt1];exact aK rfl
   have ld5:∀H':ah,(∀r,r < H1.next->H'.get r=H1.get r)->ld (.ref H.next 0 5) H'=some (I c.out,H'):=λH' hs=> by rw [dA (bx H' hs),l5];rfl
   have ld6:∀H':ah,(∀r,r < H1.next->H'.get r=H1.get r)->ld (.ref H.next 0 6) H'=some (I c.inn,H'):=λH' hs=> by rw [dA (bx H' hs),l6];rfl
   obtain⟨x,hx,cx⟩:=M.good.seq hf (i:=0) rfl;obtain⟨Ha',q1,a1,Ma⟩:=Ws Hi.guard c.out (by have:=Bd.out;omega);obtain⟨Ha,a1,Ma⟩:=drawn a1 Ma;have Na:=M.add Ma;obtain⟨Hb',q2,a2,Mb⟩:=QT Ha.guard c.inn (by have:=Bd.inn;omega);obtain⟨Hb,a2,Mb⟩:=drawn a2 Mb;have Nb:=Na.add Mb;obtain⟨Hc',q3,a3,Mc⟩:=Ws Hb.guard c.out (by have:=Bd.out;omega);obtain⟨Hc,a3,Mc⟩:=drawn a3 Mc;have Nc:=Nb.add Mc;obtain⟨Hd',q4,a4,Md⟩:=QT Hc.guard 1 (by omega);obtain⟨Hd,a4,Md⟩:=drawn a4 Md;have Nd:=Nc.add Md;have o1:=Ma.lt aY;have o2:=Mb.lt aY;have o3:=Mc.lt aY;have o4:=Md.lt aY;have hfl:=M.good.lt hf;have cd:Cur H1.next Hd f 0 x 4 _:=(((cx.ext Ma.next Ma.same).ext Mb.next Mb.same).ext Mc.next Mc.same).ext Md.next Md.same
   let a:=akj q1 q2 q3 q4;let o:eP:=.blk 0 142 (wu a);let g4:=upd (upd (upd (upd gi q1 (Aq [] c.out)) q2 (Aq [] c.inn)) q3 (Aq [] c.out)) q4 (Aq [] 1);have low:∀q,q < Hi.next->g4 q=gi q:=λq hq=> by
    simp only [g4];rw [bP (by omega),bP (by omega),bP (by omega),bP (by omega)]
   have hf4:g4 f=some (Zb P i):=by rw [low f hfl,hf]
   obtain⟨x',He,Hf,t1,t2,t3,t4⟩:=(Nd.good.new o).append (e:=142) (by_:=32) (by rw [oD,Nd.base];simp only [H1,oD,fC];omega) hf4 (i:=0) rfl (by decide) (Jd P i) (cd.new o) (mJ (ex:=true) (n:=1) (m:=4) (l:=wu a) rfl) rfl (by have:=Bd.au;unfold most;omega) (by have:=Bd.au;unfold most;omega);let P':Nat->Nat->Nat:=λj=> if j=i then a else P j
   have hP:∀j,j < i->P' j=P j:=λj hj=> by simp only [P'];rw [if_neg (by omega)]
   have hPi:P' i=a:=by simp only [P',if_true]
   have Mf:Made H1 Hf (upd g4 f (Zb P' (i+1))):=by
    refine((Nd.new o).step t3 t4).as ?_
    congr 1
    simp only [Zb,zb8];rw [zbV,zb4,Gn i hP,zaV,List.flatMap_nil,za7,hPi]
   have hq:∀s,s < 4->Hi.next<=a s:=λs hs=> by
    match s,hs with
    | 0,_=> exact o1.1
    | 1,_=> exact zaC Ma.next o2.1
    | 2,_=> exact zaC Ma.next (zaC Mb.next o3.1)
    | 3,_=> exact zaC Ma.next (zaC Mb.next (zaC Mc.next o4.1))
   have hpl:∀j,j < i->∀s,s < 4->P j s < Hi.next:=λj hji s hs=> by
    obtain⟨l,r,hg⟩:=(hp j hji).some hs;exact M.good.lt hg
   obtain⟨H',g',P'',r1,r2⟩:=ih (i+1) (by omega) Hf _ P' Mf aY (λj hj1=> by
    by_cases hji:j=i
    ·subst hji;rw [hPi];have h4:∀s,s < 4->a s≠f:=λs hs=> by have:=hq s hs;omega
     refine rH.ext (g:=g4) ⟨?_,?_,?_,?_⟩ λs hs=> bP (h4 s hs)
     ·show g4 q1=_;simp only [g4];rw [bP (by omega),bP (by omega),bP (by omega),aY];rfl
     ·show g4 q2=_;simp only [g4];rw [bP (by omega),bP (by omega),aY];rfl
     ·show g4 q3=_;simp only [g4];rw [bP (by omega),aY];rfl
     ·show g4 q4=_;simp only [g4];rw [aY];rfl
    ·rw [hP j (by omega)];refine(hp j (by omega)).ext λs hs=> ?_;have hlt:=hpl j (by omega) s hs;obtain⟨l,r,hg⟩:=(hp j (by omega)).some hs;have:P j s≠f:=λe=> by rw [e,hf] at hg;cases hg
     rw [bP this,low _ hlt]) (λj k s t hj1 hk1 hs ht e=> by
    by_cases hji:j=i
    ·by_cases hki:k=i
     ·subst hji;subst hki;refine⟨rfl,?_⟩;rw [hPi] at e
      match s,hs,t,ht with
      | 0,_,0,_ | 1,_,1,_ | 2,_,2,_ | 3,_,3,_=> rfl
      | 0,_,1,_ | 0,_,2,_ | 0,_,3,_ | 1,_,0,_ | 1,_,2,_ | 1,_,3,_ | 2,_,0,_ | 2,_,1,_ | 2,_,3,_ | 3,_,0,_ | 3,_,1,_ | 3,_,2,_=> simp only [a,akj] at e;omega
     ·subst hji;rw [hPi,hP k (by omega)] at e;have:=hq s hs;have:=hpl k (by omega) t ht;omega
    ·by_cases hki:k=i
     ·subst hki;rw [hPi,hP j (by omega)] at e;have:=hq t ht;have:=hpl j (by omega) s hs;omega
     ·rw [hP j (by omega),hP k (by omega)] at e;exact hj j k s t (by omega) (by omega) hs ht e)
   refine⟨H',g',P'',?_,r2⟩;rw [VO];have s1:=ld5 Hi M.same;have s2:=ld6 Ha Na.same;have s3:=ld5 Hb Nb.same;have ep:∀r r',bd 121 [(0,.ref r 0 0),(1,.ref r' 0 0)]=some (.agg [.ref r 0 0,.ref r' 0 0]):=λr r'=> by
    simp only [xq_,afk,lD,fV,aaf];rfl
   have eq:∀r r' r2 r3,bd 142 [(0,.agg [.ref r 0 0,.ref r' 0 0]),(1,.agg [.ref r2 0 0,.ref r3 0 0])]=some (.agg [.ref r 0 0,.ref r' 0 0,.ref r2 0 0,.ref r3 0 0]):=λr r' r2 r3=> by
    simp only [xq_,afm,lD,fV,aah];rfl
   have eb:=nT (e:=142) (m:=4) (z:=[zP,zP,zP,zP]) (v:=.agg [.ref q1 0 0,.ref q2 0 0,.ref q3 0 0,.ref q4 0 0]) (H:=Hd) rfl rfl rfl;simp only [eH] at eb;simp only [o,a,wu,akj,f] at t1 t2 r1 hx;simp only [Nat.reduceLeDiff,xq_,hq_,h1,f,hx,s1,s2,s3,a1,a2,a3,a4,ep,eq,ae8,zch,eb,t1,t2,dB,h6,h7,r1]
 obtain⟨H',g',P,r1,r2,r3,r4,r5⟩:=key c.au.toNat 0 (by omega) H2 _ _ M0 aY (λj hj=> by omega) (λi j s t hi=> by omega);refine⟨H',f,P,g',dU rfl rfl (ajP _ _ _ (r:=(_,H')) ?_),r2.uU,⟨?_,?_,rfl,rfl⟩,r5⟩
 ·have e0:bd 145 []=some (.agg [zN]):=by
   simp only [xq_,afo,lD,fV]
  have a0:([zN]:List AV).all AV.aJ=true:=rfl;simp only [Nat.reduceLT,xq_,hq_,agx,aO (dI c),e0,aO a0,l0];exact r1
 ·rw [r3];simp only [Fab.new,zcc]
 ·intro i p hp;simp only [Fab.new] at hp;rw [zbn] at hp;split at hp
  ·cases hp;exact r4 i (by omega)
  ·cases hp
structure Adr where
 iV:Nat
 fab:Nat
 trace:Nat
 N:Nat->Nat->Nat
 P:Nat->Nat->Nat
def SX(A:Adr)(c:Cfg):List AV:=[.ref A.fab 0 0,.ref A.trace 0 0]++c.av
def mO(N:Nat->Nat->Nat)(n:Nat):List AV:=(List.range n).map λi=> .ref (N i 0) 0 0
def D9(A:Adr)(c:Cfg)(n:Nat):List Cell:=(SX A c).map .av++[.seq 1 (mO A.N n)]
def akk(N:Nat->Nat->Nat)(n:Nat):Prop:=∀i j s t,i < n->j < n->s < 6->t < 6->N i s=N j t->i=j/\s=t
structure fG(g:bJ)(A:Adr)(m:bH):Prop where
 iV:g A.iV=some (D9 A m.c m.au.length)
 trace:g A.trace=some (xJ m.trace)
 fab:mZ g A.fab A.P m.c m.fab
 dG:∀(i:Nat) n,m.au[i]?=some n->nV g (A.N i) m.c i n
 Zc:adO A.P m.fab.l.length
 alF:akk A.N m.au.length
 tf:A.trace≠A.fab
theorem nV.some {g:bJ}{a:Nat->Nat}{c:Cfg}{me:Int}{n:Node}(h:nV g a c me n){s:Nat}(hs:s < 6):∃l,g (a s)=some l:=by
 obtain⟨h0,h1,h2,h3,h4,h5⟩:=h
 match s,hs with
 | 0,_=> exact⟨_,h0⟩
 | 1,_=> exact⟨_,h1⟩
 | 2,_=> exact⟨_,h2⟩
 | 3,_=> exact⟨_,h3⟩
 | 4,_=> exact⟨_,h4⟩
 | 5,_=> exact⟨_,h5⟩
theorem nV.ext {g g':bJ}{a:Nat->Nat}{c:Cfg}{me:Int}{n:Node}(h:nV g a c me n)(hg:∀s,s < 6->g' (a s)=g (a s)):nV g' a c me n:=by
 obtain⟨h0,h1,h2,h3,h4,h5⟩:=h;exact⟨by rw [hg 0 (by omega),h0],by rw [hg 1 (by omega),h1],by rw [hg 2 (by omega),h2],by rw [hg 3 (by omega),h3],by rw [hg 4 (by omega),h4],by rw [hg 5 (by omega),h5]⟩
theorem nV.inj {g:bJ}{a:Nat->Nat}{c:Cfg}{me:Int}{n:Node}(h:nV g a c me n){s t:Nat}(hs:s < 6)(ht:t < 6)(e:a s=a t):s=t:=by
 obtain⟨h0,h1,h2,h3,h4,h5⟩:=h;have hh:(g (a s)).map List.length=(g (a t)).map List.length:=by rw [e]
 match s,hs,t,ht with
 | 0,_,0,_ | 1,_,1,_ | 2,_,2,_ | 3,_,3,_ | 4,_,4,_ | 5,_,5,_=> rfl
 | 0,_,1,_ | 0,_,2,_ | 0,_,3,_ | 0,_,4,_ | 0,_,5,_ | 1,_,0,_ | 1,_,2,_ | 1,_,3,_ | 1,_,4,_ | 1,_,5,_ | 2,_,0,_ | 2,_,1,_ | 2,_,3,_ | 2,_,4,_ | 2,_,5,_ | 3,_,0,_ | 3,_,1,_ | 3,_,2,_ | 3,_,4,_ | 3,_,5,_ | 4,_,0,_ | 4,_,1,_ | 4,_,2,_ | 4,_,3,_ | 4,_,5,_ | 5,_,0,_ | 5,_,1,_ | 5,_,2,_ | 5,_,3,_ | 5,_,4,_=>
  simp [h0,h1,h2,h3,h4,h5,EU,OG,Cfg.av,dL.av,uV,ES,ET,Gm,uX] at hh
theorem Ea {N N':Nat->Nat->Nat}{n:Nat}(h:∀i,i < n->N' i=N i):mO N' (n+1)=mO N n++[.ref (N' n 0) 0 0]:=by
 unfold mO;rw [zbV,zbb]
 congr 1
 refine zbd λi hi=> ?_;rw [h i (zaY.1 hi)]
theorem xM {c:Cfg}{ps:List (List Opn)}(h:c.oZ ps=true):(ps.length:Int)=c.au/\∀l∈ps,l.length<=24:=by
 simp only [Cfg.oZ,zae,decide_eq_true_eq,za0] at h;exact⟨h.2,λl hl=> (h.1 l hl).1⟩
theorem Gp(H:ah)(hb:H.base<=H.next)(c:Cfg)(h:c.ok=true){x:AV}{ps:List (List Opn)}(hx:Ld H x ps)(hp:c.oZ ps=true):∃H' A g',cl 20 [.agg c.av,x] H=some (.tup [.ref A.iV 0 0,I 0],H')/\Made H H' g'/\fG g' A (.new c ps):=by
 have Bd:=uo h;obtain⟨hp1,hp2⟩:=xM hp;have hn:=Bd.au;let H1:=H.new (.blk 0 31 c.av);have lt1:H.next < H1.next:=by simp only [H1,fC];omega
 have g1:H1.get H.next=.blk 0 31 c.av:=aK rfl
 have b1:=eX g1;have e1:=Y8 H1 c h;have e2:=ab3 H1 c h (hx.fU (H':=H1) (by omega) λr hr=> bg hr) (by omega) λl hl=> by have:=hp2 l hl;omega
 rw [hp] at e2;have e3:=qp H1 c.init (by have:=Bd.init;have:=Bd.fK;omega);obtain⟨H2',f,P,gf,e4,M1,F1,J1⟩:=WC H1.guard (zac _) c h;obtain⟨H2,e4,M1⟩:=drawn e4 M1;obtain⟨H3',t,e5,M2⟩:=Y5 H2.guard;obtain⟨H3,e5,M2⟩:=drawn e5 M2;let A0:Adr:=⟨H3.next,f,t,λ_ _=> 0,P⟩
 have bx:∀H':ah,(∀r,r < H1.next->H'.get r=H1.get r)->H'.get H.next=.blk 0 31 c.av:=λH' hs=> by rw [hs _ lt1,g1]
 have M12:=M1.add M2;have b3:=eX (bx H3 M12.same);have b2:=eX (bx H2 M1.same);let xs:=SX A0 c++[zN]
 have hall:xs.all AV.aJ=true:=by simp only [xs,SX,za1,dI];rfl
 have M3:Made H3 (H3.new (.blk 0 53 xs)) (upd mM H3.next (D9 A0 c 0)):=by
  refine jv hall (by simp [xs,D9]) λi cc y hc hy=> ?_;simp only [D9] at hc;by_cases hi:i < (SX A0 c).length
  ·left;rw [zaE (by rw [zay];exact hi),zas] at hc;rw [zaE hi] at hy;rw [hy] at hc;exact(zaT hc).symm
  ·right;have hlen:(SX A0 c).length=10:=rfl;have:i=10:=by
    have:=(zah.1 hy).1;simp only [xs,zal,zam,zak] at this;omega
   subst this;cases hc;cases hy;exact⟨rfl,1,rfl⟩
 have M0:=M12.add M3;let g0:=upd (upd gf t (xJ [])) H3.next (D9 A0 c 0)
 let K:=H3.next
 have key:∀k i,i+k=ps.length->∀Hi gi N,Made H1 Hi gi->gi K=some (D9 { A0 with N:=N } c i)->(∀q,q < K->gi q=g0 q)->(∀(j:Nat) l,j < i->ps[j]?=some l->nV gi (N j) c j (.new c j l))->akk N i->
   ∃H' g' N',IK cl [.ref H.next 0 0,.ref K 0 0,x,I ps.length,I i] Hi=some (.tup [.ref K 0 0,I 0],H')/\Made H1 H' g'/\g' K=some (D9 { A0 with N:=N' } c ps.length)/\(∀q,q < K->g' q=g0 q)/\(∀(j:Nat) l,j < ps.length->ps[j]?=some l->nV g' (N' j) c j (.new c j l))/\akk N' ps.length:=by
  intro k
  induction k with
  | zero=>
   intro i hi Hi gi N M hm hl hnd hj;have h1:¬(i:Int) < ps.length:=by omega
   have hi':ps.length=i:=by omega
   rw [VI];refine⟨Hi,gi,N,?_,M,by rw [hi'];exact hm,hl,by rw [hi'];exact hnd,by rw [hi'];exact hj⟩;simp only [xq_,h1]
  | succ k ih=>
   intro i hi Hi gi N M hm hlow hnd hj;have h1:(i:Int) < ps.length:=by omega
   have h6:(i:Int)+1=((i+1:Nat):Int):=by omega
   have h7:=wrap_i64 (a:=((i+1:Nat):Int)) (by omega) (by omega);have hxi:=hx.fU (H':=Hi) (zaC (Nat.le_of_lt lt1) M.next) λr hr=> by rw [M.same r (by omega)];exact bg hr
   obtain⟨cells,x1,x2⟩:=hxi;have hcl:cells.length=ps.length:=by have:=x1.1;omega
   have s1:=x1.ix (k:=.i64) (i:=(i:Int)) (by omega) h1;rw [zao] at s1;have s2:=x1.ld (i:=i) (by omega);obtain⟨v,hv⟩:∃v,cells[i]?=some v:=⟨_,zab (by omega)⟩
   obtain⟨l,hl⟩:∃l,ps[i]?=some l:=⟨_,zab (by omega)⟩
   rw [hv] at s2;obtain⟨v1,v2⟩:=x2 i v l hv hl;have s4:=eX (bx Hi M.same);obtain⟨y,hy,cy⟩:=M.good.seq hm (i:=10) (m:=1) (l:=mO N i) rfl;obtain⟨Ha',a,ga,a1,Ma,Ia⟩:=adN Hi.guard c h i l (by have:=hp2 l (zat hl);omega) v1.guard v2;obtain⟨Ha,a1,Ma⟩:=drawn a1 Ma;have Na:=M.trans Ma;let ga':=cup Hi.next gi ga
   have hK:=M.good.lt hm;have ab4:∀q,q < Hi.next->ga' q=gi q:=λq hq=> by simp only [ga',cup,hq,if_true]
   have hma:ga' K=some (D9 { A0 with N:=N } c i):=by rw [ab4 K hK,hm]
   let o:eP:=.blk 0 64 [.ref (a 0) 0 0];have hnl:(mO N i).length=i*1:=by simp [mO]
   obtain⟨y',He,Hf,t1,t2,t3,t4⟩:=(Na.good.new o).append (e:=64) (by_:=8) (by rw [oD,Na.base];simp only [H1,oD,fC];omega) hma (i:=10) rfl (by decide) hnl ((cy.ext Ma.next Ma.same).new o) (mJ (ex:=true) (n:=1) (m:=1) (l:=[.ref (a 0) 0 0]) rfl) rfl (by unfold most;omega) (by unfold most;omega);let N':Nat->Nat->Nat:=λj=> if j=i then a else N j
   have hN:∀j,j < i->N' j=N j:=λj hj=> by simp only [N'];rw [if_neg (by omega)]
   have hNi:N' i=a:=by simp only [N',if_true]
   have Mf:Made H1 Hf (upd ga' K (D9 { A0 with N:=N' } c (i+1))):=by
    refine((Na.new o).step t3 t4).as ?_
    congr 1
    simp only [D9];rw [Ea hN,hNi];rfl
   have hal:∀s,s < 6->Hi.next<=a s/\ga' (a s)=ga (a s):=λs hs=> by
    obtain⟨l,hg⟩:=Ia.some hs;have:=(Ma.lt hg).1;exact⟨this,by simp only [ga',cup];rw [if_neg (by omega)]⟩
   have hNl:∀j,j < i->∀s,s < 6->N j s < Hi.next:=λj hji s hs=> by
    obtain⟨lj,hlj⟩:∃l,ps[j]?=some l:=⟨_,zab (by omega)⟩
    obtain⟨l,hg⟩:=(hnd j lj hji hlj).some hs;exact M.good.lt hg
   obtain⟨H',g',N'',r1,r2⟩:=ih (i+1) (by omega) Hf _ N' Mf aY (λq hq=> by
    rw [bP (by omega),ab4 q (by omega),hlow q hq]) (λj lj hj1 hlj=> by
    by_cases hji:j=i
    ·subst hji;rw [hl] at hlj;cases hlj;rw [hNi];exact Ia.ext λs hs=> by
      obtain⟨h1,h2⟩:=hal s hs;rw [bP (by omega),h2]
    ·rw [hN j (by omega)];refine(hnd j lj (by omega) hlj).ext λs hs=> ?_;have hlt:=hNl j (by omega) s hs;have hne:N j s≠K:=λe=> by
      have I:=hnd j lj (by omega) hlj;obtain⟨l',hg⟩:=I.some hs;obtain⟨h0,h1,h2,h3,h4,h5⟩:=I;have hh:(gi (N j s)).map (λl=> l[10]?)=some (some (.seq 1 (mO N i))):=by rw [e,hm];rfl
      match s,hs with
      | 0,_=> rw [h0] at hh;simp [EU,OG,Cfg.av,dL.av] at hh
      | 1,_=> rw [h1] at hh;simp [uV] at hh
      | 2,_=> rw [h2] at hh;simp [ES] at hh
      | 3,_=> rw [h3] at hh;simp [ET,Cfg.av] at hh
      | 4,_=> rw [h4] at hh;simp [Gm,Cfg.av] at hh
      | 5,_=> rw [h5] at hh;simp [uX] at hh
     rw [bP hne,ab4 _ hlt]) (λj k s t hj1 hk1 hs ht e=> by
    by_cases hji:j=i
    ·by_cases hki:k=i
     ·subst hji;subst hki;rw [hNi] at e;exact⟨rfl,Ia.inj hs ht e⟩
     ·subst hji;rw [hNi,hN k (by omega)] at e;have:=(hal s hs).1;have:=hNl k (by omega) t ht;omega
    ·by_cases hki:k=i
     ·subst hki;rw [hNi,hN j (by omega)] at e;have:=(hal t ht).1;have:=hNl j (by omega) s hs;omega
     ·rw [hN j (by omega),hN k (by omega)] at e;exact hj j k s t (by omega) (by omega) hs ht e)
   refine⟨H',g',N'',?_,r2⟩;rw [VI];have eb:=nT (e:=64) (m:=1) (z:=[zP]) (v:=.ref (a 0) 0 0) (H:=Ha) rfl rfl rfl;have ec:(AV.ref (a 0) 0 0).cells=[.ref (a 0) 0 0]:=rfl;rw [ec] at eb;simp only [o] at t1 t2;simp only [Nat.reduceLeDiff,xq_,hq_,h1,s1,s2,s4,hy,a1,ai1,zch,eb,t1,t2,dB,h6,h7,r1]
 have hfl:f < H2.next:=M1.good.lt F1.1
 have ht:=M2.lt aY;obtain⟨H',g',N,r1,r2,r3,r4,r5,r6⟩:=key ps.length 0 (by omega) _ g0 (λ_ _=> 0) M0 aY (λq hq=> rfl) (λj l hj=> by omega) (λi j s t hi=> by omega);have hg0:∀q,q < H2.next->g0 q=gf q:=λq hq=> by simp only [g0];rw [bP (by omega),bP (by omega)]
 refine⟨H',{ A0 with N:=N },g',dU rfl rfl (ajq _ _ _ _ (r:=(_,H')) ?_),r2.uU,?_⟩
 ·have l7:c.av[7]?=some (dat c.init):=rfl;have b0:nH Tryz.prog .neq 57 (I 0) (I 0)=some (B false):=by kernel_rfl
  have st7:st 1 (.ref H.next 0 7) (dat c.init) H1=some (aV,H1):=by
   simp only [H1];rw [qc rfl];simp only [Nat.reduceAdd,aP,xq_,hq_,Cfg.av,hb]
  have em:bd 53 [(0,.ref f 0 0),(1,.ref t 0 0),(2,.agg c.av)]=some (.agg xs):=by
   simp only [xq_,ai2,lD,fV,afe,Cfg.av,eH];rfl
  have el:=(hx.fU (H':=H3.new (.blk 0 53 xs)) (by have:=M12.next;simp only [fC];omega) λr hr=> by rw [M0.same r (by omega)];exact bg hr)
  obtain⟨cells,x1,_⟩:=el;have el:=x1.lnS;simp only [H1] at b1 e1 e2 e3 e4 e5 st7;simp only [Nat.reduceLT,xq_,hq_,agb,aO (dI c),b1,e1,b0,e2,e3,l7,st7,e4,e5,b3,em,aO hall,el];exact r1
 ·refine⟨?_,?_,⟨?_,?_,rfl,rfl⟩,?_,?_,?_,?_⟩
  ·rw [r3];simp only [bH.new,zdh]
  ·rw [r4 t ht.2];simp only [g0];rw [bP (by omega),aY];rfl
  ·show g' f=_;rw [r4 f (by have:=M2.next;omega),hg0 f hfl,F1.1];rfl
  ·intro i p hp;have I:=F1.2.1 i p hp;exact I.ext λs hs=> by
    obtain⟨l,r,hg⟩:=I.some hs;have:=M1.good.lt hg;rw [r4 _ (by have:=M2.next;omega),hg0 _ this]
  ·intro i n hi;simp only [bH.new,zbY,zbP] at hi;obtain⟨l,hl,rfl⟩:=hi;exact r5 i l (zah.1 hl).1 hl
  ·simp only [bH.new,Fab.new,zcc];exact J1
  ·simp only [bH.new,zdh];exact r6
  ·show t≠f;omega
section
variable {b:Nat}{H:ah}{g:bJ}{q:Nat}
theorem Zd(G:Good b H g){p:Proc}(h:g q=some (ES p))(h1:p.ops.length < 1000)(h2:p.bf.length < 1000):cl 66 [.ref q 0 0] H=some (I p.left,H):=by
 refine dU rfl rfl (ajU _ _ _ ?_);have e1:=G.load h (i:=0) rfl;have e2:=(Qm dR H p.ops).lnS;obtain⟨x,hx,c⟩:=G.seq h (i:=1) rfl;have e3:=(c.is (n:=p.bf.length) (by decide) (by simp)).lnS;simp only [xq_,agB,e1,e2,hx,e3,sG,Proc.left];rw [wrap_i64 (by omega) (by omega)]
theorem SY {H:ah}{s d r:Nat}{l:List Int}(hl:l≠[])(hr:s<=r){ty:TypeId}(hg:H.get r=.blk 0 ty (l.map I)){ex:Bool}:bD H s (d+2) (.sl r 0 0 1 l.length l.length ex)=some (dat l):=by
 rw [tq hl];refine jW hr (cells:=l.map I) ?_ (gQ _ λx hx=> qV _ x hx _ _);simp only [bI,hg];rw [if_pos ⟨trivial,by simp⟩,zaM,zau (by simp)]
end
section
variable {b:Nat}{H:ah}{g:bJ}{q f:Nat}{P:Nat->Nat->Nat}{c:Cfg}{fab:Fab}
theorem Cur.elemAt {i m n:Nat}{x:AV}{l:List AV}(cu:Cur b H q i x m l)(hm:0 < m)(hl:l.length=n*m){j:Nat}(hj:j < n):
  ∃r gg o,(∀k:IntKind,ix m x (.s (.int k j)) H=some (.ref r gg o,H))/\(∀k,k < m->ld (.ref r gg (o+k)) H=(l[j*m+k]?).map λv=> (v,H))/\lda m (.ref r gg o) H=some (.agg ((l.drop (j*m)).take m),H):=by
 have hs:=cu.is hm hl;have hjm:(j+1)*m<=n*m:=zaz _ (by omega);rw [zbB,zch] at hjm;rcases cu.length hm hl with⟨_,h0⟩ | ⟨r,gg,off,cap,ex,ty,all,rfl,k1,k2,k3,k4,k5,k6,k7,k8⟩
 ·omega
 have hcm:n*m<=cap*m:=zaz _ k4;refine⟨r,gg,off+j*m,λk=> ?_,λk hk=> ?_,?_⟩
 ·have:=hs.ix (k:=k) (i:=(j:Int)) (by omega) (by omega);rw [zao] at this;exact this
 ·rw [dA k5,k8,zaH,if_pos (by omega),zaL,zb1]
 ·rw [jw k5 (by omega),k8]
  congr 3
  rw [zcO,zbS,zcC,zbh (by omega)]
theorem QX(G:Good b H g)(F:mZ g f P c fab)(hn:fab.l.length < 1000)(i:Int):cl 71 [.ref f 0 0,I i] H=some (B (fab.is i),H):=by
 refine dU rfl rfl (ajV _ _ _ _ ?_);obtain⟨x,hx,cu⟩:=G.seq F.1 (i:=0) rfl;have e2:=(cu.is (by decide) (Jd P _)).lnS;by_cases h0:0<=i
 ·simp only [xq_,adk,h0,hx,e2,Fab.is,zaG]
 ·simp only [xq_,adk,h0,Fab.is,zaF]
theorem mZ.port(F:mZ g f P c fab){i:Nat}(hi:i < fab.l.length):rH g (P i) c (fab.port i):=by
 have:=F.2.1 i (fab.l[i]) (zab hi);unfold Fab.port;rw [zao,zaq,zab hi];exact this
end
section
variable {b:Nat}{H:ah}{g:bJ}{q f:Nat}{P:Nat->Nat->Nat}{c:Cfg}{fab:Fab}
theorem mZ.lt(G:Good b H g)(F:mZ g f P c fab){i s:Nat}(hi:i < fab.l.length)(hs:s < 4):P i s < H.next:=by
 obtain⟨l,r,h⟩:=(F.port hi).some hs;exact G.lt h
end
section
variable {b:Nat}{H:ah}{g:bJ}{A:Adr}{m:bH}
theorem WE(N:Nat->Nat->Nat)(n:Nat):(mO N n).length=n*1:=by simp [mO]
theorem WG {N:Nat->Nat->Nat}{n i:Nat}(h:i < n):(mO N n)[i]?=some (.ref (N i 0) 0 0):=by
 simp [mO,zbr h]
end
theorem Ld.zN {H:ah}:Ld H zN []:=⟨[],aA.nil,λi v l h=> by simp at h⟩
def dw(v n:Int):Int:=if n < 1 then 0 else v % n
def atM(l:List Int)(i:Int):Int:=if i < l.length then l.getD i.toNat 0 else 0
theorem nX {v n:Int}(h:1<=n):0<=dw v n/\dw v n < n:=by
 unfold dw;rw [if_neg (by omega)];exact⟨zbq _ (by omega),zbw _ (by omega)⟩
theorem Ze(v n:Int)(h:1<=n):v % n=if v.tmod n < 0 then v.tmod n+n else v.tmod n:=by
 have h1:=Int.tmod_eq_emod (a:=v) (b:=n);have h2:=zbq v (b:=n) (by omega);have h3:=zbw v (b:=n) (by omega);rw [h1];rcases Decidable.em (0<=v∨n ∣ v) with hv | hv
 ·rw [if_pos hv];split <;> omega
 ·rw [if_neg hv];split <;> omega
theorem Zf(v n:Int)(h:1<=n):-n < v.tmod n/\v.tmod n < n:=by
 have h1:=Int.tmod_eq_emod (a:=v) (b:=n);have h2:=zbq v (b:=n) (by omega);have h3:=zbw v (b:=n) (by omega);rw [h1];rcases Decidable.em (0<=v∨n ∣ v) with hv | hv
 ·rw [if_pos hv];omega
 ·rw [if_neg hv];omega
theorem uq(H:ah)(v n:Int)(hn:n<=9223372036854775807):cl 50 [I v,I n] H=some (I (dw v n),H):=by
 refine dU rfl rfl (ajG _ _ _ _ ?_);by_cases h1:n < 1
 ·simp only [xq_,YS,h1,dw]
 ·have e1:=λ(k:IntKind) (t:TypeId)=> NJ (P:=Tryz.prog) (k:=k) (t:=t) (a:=v) (b:=n) (by omega);have e2:=Ze v n (by omega);have e3:=Zf v n (by omega);by_cases h2:v.tmod n < 0
  ·have w:=wrap_i64 (a:=v.tmod n+n) (by omega) (by omega);rw [if_pos h2] at e2;simp only [xq_,YS,IU,h1,e1,h2,dB,w,dw,e2]
  ·rw [if_neg h2] at e2;simp only [xq_,YS,IU,h1,e1,h2,dw,e2]
theorem adP(H:ah){x:AV}{l:List Int}(hx:aA H x 1 l.length (l.map I)){i:Int}(h0:0<=i):cl 75 [x,I i] H=some (I (atM l i),H):=by
 refine dU rfl rfl (ajX _ _ _ _ ?_);have e1:=hx.lnS;by_cases h:i < l.length
 ·have a1:=hx.ix (k:=.i64) h0 h;have a2:=hx.ld (i:=i.toNat) (by omega);have hlt:i.toNat < l.length:=by omega
  rw [zas,zab hlt] at a2;have a2':ld (dM x i.toNat) H=some (I l[i.toNat],H):=a2;have e:atM l i=l[i.toNat]:=by
   unfold atM;rw [if_pos h,zaq,zab hlt];rfl
  simp only [xq_,adl,e1,h,a1,a2',e]
 ·simp only [xq_,adl,e1,h,atM]
theorem aA.upto {H:ah}{x:AV}{m n:Nat}{cells:List AV}(h:aA H x m n cells){k:IntKind}{hi:Int}(h0:0<=hi)(h1:hi<=n):∃y,slS m x none (some (.s (.int k hi))) none=some y/\aA H y m hi.toNat (cells.take (hi.toNat*m)):=by
 obtain⟨hl,h⟩:=h;have hlm:hi.toNat*m<=n*m:=zaz _ (by omega);cases x with
 | sl r g off esz len cap ex=>
  obtain⟨rfl,rfl,⟨hr,hc⟩,ty,all,h2,h3,h4⟩:=h;refine⟨_,Vs h0 (by omega),by rw [zav,hl];omega,rfl,rfl,⟨hr,by omega⟩,ty,all,h2,by omega,?_⟩;rw [h4,zcC,zbh hlm]
 | vs k' esz cs=>
  obtain⟨rfl,rfl,rfl⟩:=h;refine⟨.vs hi.toNat esz (cs.take (hi.toNat*esz)),?_,by rw [zav,hl];omega,rfl,rfl,rfl⟩;simp only [slS,iy,h0,if_true];rw [if_pos ⟨trivial,zaR _,by omega⟩];simp
 | s v=>
  cases v with
  | slice a b c=>
   cases a with
   | none=>
    obtain⟨rfl,rfl,rfl⟩:=h;have h3:hi=0:=by omega
    subst h3;refine⟨zN,by simp [slS,iy],?_⟩;refine⟨?_,rfl,rfl,rfl⟩;simp
   | some a=> exact h.elim
  | _=> exact h.elim
 | _=> exact h.elim
theorem adQ(H:ah){x:AV}{l:List Int}(hx:aA H x 1 l.length (l.map I))(hl:l.length < 1000000000):cl 119 [x] H=some (dat l,H):=by
 by_cases h0:l=[]
 ·subst h0;have e1:app 3 1 8 zN x H.guard=some (zN,H.guard):=by
   obtain⟨c1,c2⟩:=hx.guard.uQ;simp only [app,c1,c2];rfl
  refine iJ rfl rfl (abf _ _ _ (r:=(zN,H.guard)) ?_) (by rw [dat,jo];exact jH);simp only [xq_,VT,e1]
 ·have e1:=N9 (e:=3) (by_:=8) hx.guard (uj l) (λe=> h0 (zan e)) (by unfold most;omega) (by unfold most;omega);refine iJ rfl rfl (abf _ _ _ (r:=(.sl H.next 0 0 1 l.length l.length false,H.guard.new (.blk 0 (3+gB) (l.map I)))) ?_) (SY h0 (zac _) (aK rfl));simp only [xq_,VT,e1]
theorem ahI(H:ah){x:AV}{l:List Int}(hx:aA H x 1 l.length (l.map I)){n:Int}(h0:0<=n)(hn:n < 1000000000):cl 74 [x,I n] H=some (dat (l.take n.toNat),H):=by
 refine dU rfl rfl (ajW _ _ _ _ ?_);have e1:=hx.lnS;obtain⟨y,e2,e3⟩:=hx.upto (k:=.i64) (hi:=min (l.length:Int) n) (by omega) (by omega);have ht:(min (l.length:Int) n).toNat=(l.take n.toNat).length:=by rw [zav];omega
 rw [ht,zbC,<-zcm,zav] at e3;have hm:l.take (min n.toNat l.length)=l.take n.toNat:=by
  rcases Nat.le_total n.toNat l.length with h | h
  ·rw [zbh h]
  ·rw [Nat.min_eq_right h,zau (zac _),zau h]
 rw [hm,<-zav] at e3;have e4:=adQ H e3 (by rw [zav];omega);simp only [xq_,agC,e1,U1,e2,e4]
def jA.cfg(s:jA)(zi:List Int):Cfg:=
 ⟨1+dw s.au 4,1+dw s.aG 4,1+dw s.aH 2,1+dw s.sets 2,1+dw s.ways 2,1+dw s.out 3,1+dw s.inn 3,zi.take ((1+dw s.aG 4)*(1+dw s.aH 2)).toNat⟩
theorem tH {x:AV}{l:List Int}(h:aA ah.empty x 1 l.length (l.map I))(H:ah):aA H x 1 l.length (l.map I):=
 h.fU (zaR _) λr _ hr=> absurd hr (Nat.not_lt_zero r)
theorem fH(v:Int){n:Int}(h:1<=n)(h':n<=1000):1<=1+dw v n/\1+dw v n<=n/\IntKind.wrap .i64 (1+dw v n)=1+dw v n:=by
 have:=nX (v:=v) h;exact⟨by omega,by omega,wrap_i64 (by omega) (by omega)⟩
theorem ab5(s:jA)(zi:List Int):(s.cfg zi).ok=true:=by
 have a1:=fH s.au (n:=4) (by omega) (by omega);have a2:=fH s.aG (n:=4) (by omega) (by omega);have a3:=fH s.aH (n:=2) (by omega) (by omega);have a4:=fH s.sets (n:=2) (by omega) (by omega);have a5:=fH s.ways (n:=2) (by omega) (by omega);have a6:=fH s.out (n:=3) (by omega) (by omega);have a7:=fH s.inn (n:=3) (by omega) (by omega);have hm:0<=(1+dw s.aG 4)*(1+dw s.aH 2):=zbT (by omega) (by omega);simp only [Cfg.ok,jA.cfg,zae,zav];obtain⟨b1,c1,_⟩:=a1;obtain⟨b2,c2,_⟩:=a2;obtain⟨b3,c3,_⟩:=a3;obtain⟨b4,c4,_⟩:=a4;obtain⟨b5,c5,_⟩:=a5;obtain⟨b6,c6,_⟩:=a6;obtain⟨b7,c7,_⟩:=a7;generalize (1+dw s.aG 4)*(1+dw s.aH 2)=z at hm ⊢;exact⟨⟨⟨⟨⟨⟨⟨⟨decide_eq_true b1,decide_eq_true (by omega)⟩,⟨decide_eq_true b2,decide_eq_true (by omega)⟩⟩,⟨decide_eq_true b3,decide_eq_true (by omega)⟩⟩,⟨decide_eq_true b4,decide_eq_true (by omega)⟩⟩,⟨decide_eq_true b5,decide_eq_true (by omega)⟩⟩,⟨decide_eq_true b6,decide_eq_true (by omega)⟩⟩,⟨decide_eq_true b7,decide_eq_true (by omega)⟩⟩,decide_eq_true (by omega)⟩
theorem WH(c:Cfg):Frz 9 (.agg c.av):=vN λx hx=> by
 simp only [Cfg.av,zai,zaK,or_false] at hx;rcases hx with rfl | rfl | rfl | rfl | rfl | rfl | rfl | rfl <;> first | exact fP | exact yK
theorem Ll(H:ah){s:jA}{zi zw zk za zv:List Int}(h:s.Ok zi zw zk za zv)(hi:aA ah.empty s.init 1 zi.length (zi.map I))(hc:s.init.aJ=true/\s.who.aJ=true/\s.kinds.aJ=true/\s.fK.aJ=true/\s.bf.aJ=true):
  cl 33 [.agg s.cells] H=some (.agg (s.cfg zi).av,H):=by
 refine bC rfl rfl (ajt _ _ _) ?_ (WH _);have a1:=fH s.au (n:=4) (by omega) (by omega);have a2:=fH s.aG (n:=4) (by omega) (by omega);have a3:=fH s.aH (n:=2) (by omega) (by omega);have a4:=fH s.sets (n:=2) (by omega) (by omega);have a5:=fH s.ways (n:=2) (by omega) (by omega);have a6:=fH s.out (n:=3) (by omega) (by omega);have a7:=fH s.inn (n:=3) (by omega) (by omega);have hm:0<=(1+dw s.aG 4)*(1+dw s.aH 2):=zbT (by omega) (by omega);have hm2:(1+dw s.aG 4)*(1+dw s.aH 2)<=4*2:=zbL (by omega) (by omega) (by omega) (by omega);have w:=wrap_i64 (a:=(1+dw s.aG 4)*(1+dw s.aH 2)) (by omega) (by omega);have e1:=λH v=> uq H v 4 (by omega);have e2:=λH v=> uq H v 2 (by omega);have e3:=λH v=> uq H v 3 (by omega);have e4:=λH=> ahI H (tH hi H) hm (by omega);have hall:s.cells.all AV.aJ=true:=by
  simp only [jA.cells,zbR,zck,hc,zco];rfl
 simp only [jA.cells] at hall;have ev:∀a b c d e f k:Int,bd 31 [(0,I a),(1,I b),(2,I c),(3,I d),(4,I e),(5,I f),(6,I k)]=some (.agg [I a,I b,I c,I d,I e,I f,I k,zN]):=λ_ _ _ _ _ _ _=> by
  simp only [xq_,afd,lD,fV,acR];rfl
 have zc:zN.cells=[zN]:=rfl;have zi':zN.aJ=true:=rfl;simp only [Nat.reduceLT,Nat.reduceAdd,aP,xq_,hq_,agc,aO hall,jA.cells,e1,e2,e3,dB,a1,a2,a3,a4,a5,a6,a7,ev,iT,w,e4,zi'];rfl
def mP(z:Int):Int:=[1,2,3,1,2,1,4].getD (dw z 7).toNat 0
def WI(c:Cfg)(zk za zv:List Int)(i:Nat):Opn:=
 ⟨mP (atM zk i),dw (atM za i) (c.aG*c.aH),if mP (atM zk i)=2∨mP (atM zk i)=3 then atM zv i else 0⟩
def iF(c:Cfg)(zw zk za zv:List Int)(ps:List (List Opn))(i:Nat):List (List Opn):=
 let n:=(dw (atM zw i) c.au).toNat
 if(ps.getD n []).length < 24 then ps.set n (ps.getD n []++[WI c zk za zv i]) else ps
def kP(c:Cfg)(zw zk za zv:List Int):Nat->List (List Opn)
 | 0=> List.replicate c.au.toNat []
 | i+1=> iF c zw zk za zv (kP c zw zk za zv i) i
def ng(c:Cfg)(zw zk za zv:List Int)(most:Nat):List (List Opn):=kP c zw zk za zv (min zw.length most)
def Lm(ps:List (List Opn)):List Cell:=ps.map λl=> .seq 3 (l.flatMap Opn.av)
theorem nZ(c:Cfg)(zw zk za zv:List Int):∀i,(kP c zw zk za zv i).length=c.au.toNat
 | 0=> by simp [kP]
 | i+1=> by
  simp only [kP,iF];split
  ·rw [zbX,nZ c zw zk za zv i]
  ·exact nZ c zw zk za zv i
theorem ab6 {H:ah}{r n j:Nat}{ty:TypeId}{xs:List AV}(hg:H.get r=.blk 0 ty xs)(h:j < n){k:IntKind}:ix 1 (.sl r 0 0 1 n n true) (.s (.int k j)) H=some (.ref r 0 j,H):=by
 have h1:(0:Int)<=j/\(j:Int) < n:=by omega
 simp [ix,jP,ixO,h,dO,hg,aeH,eP.gen]
theorem S9(z:Int):mP z=1∨mP z=2∨mP z=3∨mP z=4:=by
 have h:=nX (v:=z) (n:=7) (by omega);unfold mP;generalize hk:(dw z 7).toNat=k;have:k < 7:=by omega
 match k,this with
 | 0,_ | 1,_ | 2,_ | 3,_ | 4,_ | 5,_ | 6,_=> simp
theorem QY {ps:List (List Opn)}{j:Nat}(h:j < ps.length):(Lm ps)[j]?=some (.seq 3 ((ps.getD j []).flatMap Opn.av)):=by
 simp [Lm,zaq,zab h]
theorem Zg {ps:List (List Opn)}{j:Nat}{l:List Opn}:(Lm ps).set j (.seq 3 (l.flatMap Opn.av))=Lm (ps.set j l):=by
 simp [Lm,List.map_set]
section
variable {H:ah}{s:jA}{zi zw zk za zv:List Int}
theorem OH {C:ak}(hCa:C 75=cl 75)(hCw:C 50=cl 50)(h:s.Ok zi zw zk za zv)(hi:aA ah.empty s.init 1 zi.length (zi.map I))(hw:aA ah.empty s.who 1 zw.length (zw.map I))(hk:aA ah.empty s.kinds 1 zk.length (zk.map I))(ha:aA ah.empty s.fK 1 za.length (za.map I))(hv:aA ah.empty s.bf 1 zv.length (zv.map I))
  {c:Cfg} (hc:c.ok=true) {p q r n:Nat} {ty ty':TypeId} (hp:p < H.next) (hq:q < H.next) (gp:H.get p=.blk 0 ty s.cells) (gq:H.get q=.blk 0 ty' c.av) {b:Nat} {ps:List (List Opn)} (G:Good b H (upd mM r (Lm ps))) (hb:H.base<=b) (hn:ps.length=n) (hnc:(n:Int)=c.au)
  {i:Nat} {mo:Int} (him:(i:Int) < mo) (hm:mo<=1000) (hil:i < zw.length) (hz:∀j,j < n->ps.getD j []=[]->ld (.ref r 0 j) H=some (zN,H)):
  ∃H',wo C [I mo,.ref p 0 0,.ref q 0 0,.sl r 0 0 1 n n true,I i] H=wo C [I mo,.ref p 0 0,.ref q 0 0,.sl r 0 0 1 n n true,I (i+1:Nat)] H'/\Good b H' (upd mM r (Lm (iF c zw zk za zv ps i)))/\Step b H H'/\(∀j,j < n->(iF c zw zk za zv ps i).getD j []=[]->ld (.ref r 0 j) H'=some (zN,H')):=by
 have Bd:=uo hc;have e8:ld (.ref p 0 8) H=some (s.who,H):=by rw [dA gp];rfl
 have e9:ld (.ref p 0 9) H=some (s.kinds,H):=by rw [dA gp];rfl
 have e10:ld (.ref p 0 10) H=some (s.fK,H):=by rw [dA gp];rfl
 have e11:ld (.ref p 0 11) H=some (s.bf,H):=by rw [dA gp];rfl
 have f0:ld (.ref q 0 0) H=some (I c.au,H):=by rw [dA gq];rfl
 have f1:ld (.ref q 0 1) H=some (I c.aG,H):=by rw [dA gq];rfl
 have f2:ld (.ref q 0 2) H=some (I c.aH,H):=by rw [dA gq];rfl
 have w0:=λH=> (tH hw H).lnS;have h1:(i:Int) < zw.length:=by omega
 have a1:=λH=> adP H (tH hk H) (i:=(i:Int)) (by omega);have a2:=λH=> adP H (tH ha H) (i:=(i:Int)) (by omega);have a3:=λH=> adP H (tH hv H) (i:=(i:Int)) (by omega);have k1:=λH v=> uq H v 7 (by omega);have hlw:=Bd.fK;have w:=wrap_i64 (a:=c.aG*c.aH) (by omega) (by omega);have k2:=λH v=> uq H v (c.aG*c.aH) (by omega);have k3:=λH v=> uq H v c.au (by have:=Bd.au;omega);rw [<-hCa] at a1 a2 a3;rw [<-hCw] at k1 k2 k3;have eb7:∀H,bs 22 7 [(0,I 1),(1,I 2),(2,I 3),(3,I 1),(4,I 2),(5,I 1),(6,I 4)] H=some (.sl H.next 0 0 1 7 7 true,H.new (.blk 0 3 [I 1,I 2,I 3,I 1,I 2,I 1,I 4])):=λH=>
  (NU (by decide)).trans rfl
 let b7:eP:=.blk 0 3 [I 1,I 2,I 3,I 1,I 2,I 1,I 4];let Hc:=(H.new b7).new (.blk 0 61 [zI,zI,zI]);have hK:=nX (v:=atM zk i) (n:=7) (by omega);have s7:aA Hc (.sl H.next 0 0 1 7 7 true) 1 7 [I 1,I 2,I 3,I 1,I 2,I 1,I 4]:=(mJ (n:=7) (m:=1) rfl).new _;have i7:=s7.ix (k:=.i64) hK.1 hK.2;have l7:=s7.ld (i:=(dw (atM zk i) 7).toNat) (by omega);have l7':ld (dM (.sl H.next 0 0 1 7 7 true) (dw (atM zk i) 7).toNat) Hc=some (I (mP (atM zk i)),Hc):=by
  rw [l7];unfold mP;generalize hk':(dw (atM zk i) 7).toNat=kk;have:kk < 7:=by omega
  match kk,this with
  | 0,_ | 1,_ | 2,_ | 3,_ | 4,_ | 5,_ | 6,_=> rfl
 obtain⟨o,ho⟩:∃o:Opn,o=WI c zk za zv i:=⟨_,rfl⟩
 let Hd:=(H.new b7).new (.blk 0 61 o.av);have hcn:=nX (v:=atM zw i) (n:=c.au) (by have:=Bd.au;omega);obtain⟨j,hj⟩:∃j:Nat,dw (atM zw i) c.au=j:=⟨(dw (atM zw i) c.au).toNat,by omega⟩
 have hjn:j < n:=by omega
 have wi:=λH=> (tH hw H).ix (k:=.i64) (i:=(i:Int)) (by omega) h1;have wl:∀H,ld (dM s.who (i:Int).toNat) H=some (I (atM zw i),H):=λH=> by
  rw [zao,(tH hw H).ld hil,zas,zab hil];unfold atM;rw [if_pos h1,zao,zaq,zab hil];rfl
 have G1:Good b Hd (upd mM r (Lm ps)):=(G.new _).new _;have og:=QY (ps:=ps) (j:=j) (by omega);obtain⟨x,hx,cu⟩:=G1.seq aY og;have hlen:=(cu.is (by decide) (dX dR _)).lnS;have hg:∃ty xs,Hd.get r=.blk 0 ty xs:=by
  obtain⟨_,τ,hR⟩:=G1;obtain⟨ty,xs,hg,_⟩:=(hR r _ aY).blk;exact⟨ty,xs,hg⟩
 obtain⟨rty,rxs,hg⟩:=hg;have ix1:=ab6 (k:=.i64) hg hjn;have h6:(i:Int)+1=((i+1:Nat):Int):=by omega
 have h7:=wrap_i64 (a:=((i+1:Nat):Int)) (by omega) (by omega);have f0':ld (.ref q 0 0) Hd=some (I c.au,Hd):=by
  simp only [Hd];rw [zJ (by rw [fC];omega),zJ hq,f0];rfl
 have e8':ld (.ref p 0 8) Hd=some (s.who,Hd):=by
  simp only [Hd];rw [zJ (by rw [fC];omega),zJ hp,e8];rfl
 have hzd:∀j,j < n->ps.getD j []=[]->ld (.ref r 0 j) Hd=some (zN,Hd):=λj' h1 h2=> by
  simp only [Hd];rw [zJ (by rw [fC];have:=G.lt aY;omega),zJ (G.lt aY),hz j' h1 h2];rfl
 have sd:Step b H Hd:=(Step.new _ G.1).trans (Step.new _ (G.new _).1);have tail:∃H',DV C (I mo) (.ref p 0 0) (.ref q 0 0) (.sl r 0 0 1 n n true) (I i) (.ref (H.next+1) 0 0) Hd=wo C [I mo,.ref p 0 0,.ref q 0 0,.sl r 0 0 1 n n true,I (i+1:Nat)] H'/\Good b H' (upd mM r (Lm (iF c zw zk za zv ps i)))/\Step b H H'/\(∀j,j < n->(iF c zw zk za zv ps i).getD j []=[]->ld (.ref r 0 j) H'=some (zN,H')):=by
  by_cases hl:(ps.getD j []).length < 24
  ·have hl':((ps.getD j []).length:Int) < 24:=by omega
   obtain⟨x',Hf,t1,fit,n1,b1,k1'⟩:=(cu.new (.blk 0 61 o.av)).app (e:=61) (by_:=24) (by rw [oD];exact hb) (by decide) (dX dR _) (mJ (ex:=true) (n:=1) (m:=3) (l:=o.av) rfl) (qR o) (by unfold most;omega) (by unfold most;omega);have hrl:r < Hd.next:=G1.lt aY
   have hxr:jO x≠some r:=by
    rcases cu.own with⟨rfl,_⟩ | ⟨r',gg,off,n',cap,ex,ty2,all,rfl,kr,_⟩
    ·intro e;cases e
    ·intro e;simp only [jO,zaa] at e;exact kr e
   have hgf:Hf.get r=.blk 0 rty rxs:=by
    rw [k1' r (by rw [fC];omega) hxr,bg hrl,hg]
   have ix2:=ab6 (k:=.i64) hgf hjn;obtain⟨Hg,t2,G2,s2,n2⟩:=(G1.new (.blk 0 61 o.av)).seat aY og (cu.new _) n1 (by rw [b1,oD];exact hb) k1' fit;have hfs:Step b (Hd.new (.blk 0 61 o.av)) Hf:=⟨b1,n1,λr' hr'=> k1' r' (by have:=G1.1;rw [fC];omega) (cu.low hr')⟩
   refine⟨Hg,?_,?_,((sd.trans (Step.new _ G1.1)).trans hfs).trans s2,?_⟩
   ·have ldo:lda 3 (.ref (H.next+1) 0 0) Hd=some (.agg o.av,Hd):=(jw (off:=0) (n:=3) (xs:=o.av) (aK (by rw [fC])) (zac 3)).trans rfl;have eb:=nT (e:=61) (m:=3) (z:=[zI,zI,zI]) (v:=.agg o.av) (H:=Hd) rfl rfl (qR o);simp only [eH] at eb;simp only [xq_,DV,IL,e8',wi,wl,f0',k3,hj,ix1,hx,hlen,hl',ldo,ae6,zch,Nat.reduceLeDiff,eb,t1,ix2,t2,dB,h6,h7]
   ·rw [Di] at G2;have e:iF c zw zk za zv ps i=ps.set j (ps.getD j []++[o]):=by
     simp only [iF,hj,zao];rw [if_pos hl,ho]
    rw [e,<-Zg,zb4,zaV,List.flatMap_nil,za7];exact G2
   ·have e:iF c zw zk za zv ps i=ps.set j (ps.getD j []++[o]):=by
     simp only [iF,hj,zao];rw [if_pos hl,ho]
    intro j' hj' hem;rw [e] at hem;have hne:j'≠j:=λe'=> by
     subst e';rw [zaq,zba (by omega)] at hem;simp at hem
    have alG:ps.getD j' []=[]:=by
     rw [zaq,zbg (by omega)] at hem;rw [zaq];exact hem
    have l0:=hzd j' hj' alG;rw [dA hg] at l0;have hxj:rxs[j']?=some zN:=by
     cases hx':rxs[j']? with
     | none=> rw [hx'] at l0;cases l0
     | some v=> rw [hx'] at l0;simp only [zaf,zaa,zad] at l0;rw [l0.1]
    rw [Iq] at t2;simp only [hgf] at t2;split at t2
    ·rename_i hc';simp only [zaa,zad,true_and] at t2;subst t2;obtain⟨_,_,hx1,_,hx5⟩:=hc';rw [dA (Vp),wP hx5,if_neg (by omega),hxj];rfl
    ·cases t2
  ·have hl':¬((ps.getD j []).length:Int) < 24:=by omega
   refine⟨Hd,?_,?_,sd,?_⟩
   ·simp only [xq_,DV,IL,e8',wi,wl,f0',k3,hj,ix1,hx,hlen,hl',dB,h6,h7]
   ·have e:iF c zw zk za zv ps i=ps:=by
     simp only [iF,hj,zao];rw [if_neg hl]
    rw [e];exact G1
   ·have e:iF c zw zk za zv ps i=ps:=by
     simp only [iF,hj,zao];rw [if_neg hl]
    rw [e];exact hzd
 obtain⟨H',t1,t2⟩:=tail;refine⟨H',?_,t2⟩;simp only [Hd,Hc,b7] at t1 i7 l7';have hb0:H.base<=H.next:=zaC hb G.1
 have hb1:H.base<=H.next+1:=by omega
 rw [VJ,<-t1,ho];by_cases c2:mP (atM zk i)=2
 ·have oe:(WI c zk za zv i).av=[I (mP (atM zk i)),I (dw (atM za i) (c.aG*c.aH)),I (atM zv i)]:=by simp [WI,Opn.av,c2]
  simp only [Nat.reduceAdd,aP,xq_,hq_,hp,hq,e8,e9,e10,e11,f1,f2,w0,h1,him,eb7,a1,a2,a3,k1,k2,i7,l7',iT,w,YG,lD,fV,YF,hb1,c2,oe]
 ·by_cases c3:mP (atM zk i)=3
  ·have oe:(WI c zk za zv i).av=[I (mP (atM zk i)),I (dw (atM za i) (c.aG*c.aH)),I (atM zv i)]:=by simp [WI,Opn.av,c3]
   simp only [Int.reduceEq,Nat.reduceAdd,aP,xq_,hq_,hp,hq,e8,e9,e10,e11,f1,f2,w0,h1,him,eb7,a1,a2,a3,k1,k2,i7,l7',iT,w,YG,lD,fV,YF,hb1,c3,oe]
  ·have oe:(WI c zk za zv i).av=[I (mP (atM zk i)),I (dw (atM za i) (c.aG*c.aH)),I 0]:=by simp [WI,Opn.av,c2,c3]
   simp only [Nat.reduceAdd,aP,xq_,hq_,hp,hq,e8,e9,e10,e11,f1,f2,w0,h1,him,eb7,a1,a2,a3,k1,k2,i7,l7',iT,w,YG,lD,fV,YF,hb1,c2,c3,oe]
end
theorem WJ {α β:Type}{f:α->Option β}:∀(xs:List α) (ys:List β),xs.length=ys.length->(∀(i:Nat) x y,xs[i]?=some x->ys[i]?=some y->f x=some y)->xs.mapM f=some ys
 | [],[],_,_=> rfl
 | x::xs,y::ys,hl,h=> by
  have h0:=h 0 x y rfl rfl;have:=WJ (f:=f) xs ys (by simpa using hl) λi a b ha hb=> h (i+1) a b ha hb;rw [zbt,h0,this];rfl
 | [],_::_,hl,_=> by simp at hl
 | _::_,[],hl,_=> by simp at hl
theorem Tc {b r n sN:Nat}{H:ah}{ps:List (List Opn)}(G:Good b H (upd mM r (Lm ps)))(hs:sN<=b)(hn:ps.length=n)(hz:∀j,j < n->ps.getD j []=[]->ld (.ref r 0 j) H=some (zN,H)):
  bD H sN 9 (.sl r 0 0 1 n n true)=some (.vs n 1 (ps.map (vsl 3 Opn.av))):=by
 have hg:∃ty xs,H.get r=.blk 0 ty xs/\xs.length=n:=by
  obtain⟨_,τ,hR⟩:=G;obtain⟨ty,xs,hg,hl,_⟩:=(hR r _ aY).blk;exact⟨ty,xs,hg,by rw [hl];simp [Lm,hn]⟩
 obtain⟨ty,xs,hg,hl⟩:=hg;have hbr:b<=r:=G.le aY;refine jW (by omega) (cells:=xs) ?_ (WJ _ _ (by rw [hl,zay,hn]) λi x y hx hy=> ?_)
 ·simp only [bI,hg];rw [if_pos ⟨trivial,by omega⟩,zaM,zau (by omega)]
 ·rw [zas,zbP] at hy;obtain⟨l,hpl,rfl⟩:=hy;have hi:i < n:=by have:=(zah.1 hpl).1;omega
  have hgd:ps.getD i []=l:=by rw [zaq,hpl];rfl
  by_cases h0:l=[]
  ·have e:=hz i hi (by rw [hgd,h0]);rw [dA hg,hx] at e;simp only [zaf,zaa,zad,and_true] at e;rw [e,h0,jo];exact jH
  ·obtain⟨x',hx',cu⟩:=G.seq aY (QY (ps:=ps) (j:=i) (by omega));rw [dA hg,hx] at hx';simp only [zaf,zaa,zad,and_true] at hx';subst hx';rw [hgd] at cu;have hs':=cu.is (by decide) (dX dR l);obtain⟨c1,c2⟩:=hs'.uQ;rcases cu.own with⟨_,e⟩ | ⟨r',gg,off,n',cap,ex,ty2,all,rfl,kr,kb,_⟩
   ·have:=congrArg List.length e;rw [dX dR] at this;simp only [zak] at this;exact absurd (zan (by omega)) h0
   ·have hn':n'=l.length:=hs'.2.2.1;subst hn';rw [Ik h0];refine jW (by omega) c2 (gQ _ λy hy=> ?_);obtain⟨o,_,ho⟩:=za8.1 hy;simp only [Opn.av,zai,zaK,or_false] at ho;rcases ho with rfl | rfl | rfl <;> exact jH
theorem ahJ(H:ah)(ps:List (List Opn)):Ld H (.vs ps.length 1 (ps.map (vsl 3 Opn.av))) ps:=
 ⟨_,aA.vs (by simp),λi v l h1 h2=> by
  rw [zas,h2] at h1;cases h1;exact⟨Qm dR H l,λh=> by rw [h,jo]⟩⟩
section
variable {H:ah}{s:jA}{zi zw zk za zv:List Int}
theorem Lp {C:ak}(hCa:C 75=cl 75)(hCw:C 50=cl 50)(hCc:C 33=cl 33)(H:ah)(hbn:H.base<=H.next)(h:s.Ok zi zw zk za zv)(hi:aA ah.empty s.init 1 zi.length (zi.map I))(hw:aA ah.empty s.who 1 zw.length (zw.map I))(hk:aA ah.empty s.kinds 1 zk.length (zk.map I))(ha:aA ah.empty s.fK 1 za.length (za.map I))(hv:aA ah.empty s.bf 1 zv.length (zv.map I))
  (hc:s.init.aJ=true/\s.who.aJ=true/\s.kinds.aJ=true/\s.fK.aJ=true/\s.bf.aJ=true) {mo:Nat} (hm:mo<=1000):
  ∃Hz r,r=H.next+2/\adb C (.agg s.cells) (I mo) H=some (.sl r 0 0 1 (s.cfg zi).au.toNat (s.cfg zi).au.toNat true,Hz)/\Good (H.next+2) Hz (upd mM r (Lm (ng (s.cfg zi) zw zk za zv mo)))/\Step H.next H Hz/\(∀j,j < (s.cfg zi).au.toNat->(ng (s.cfg zi) zw zk za zv mo).getD j []=[]->ld (.ref r 0 j) Hz=some (zN,Hz)):=by
 let c:=s.cfg zi;have hck:c.ok=true:=ab5 s zi;have Bd:=uo hck;let n:=c.au.toNat;let H1:=H.new (.blk 0 24 s.cells);let H2:=H1.new (.blk 0 31 c.av);let H3:=H2.new (.blk 0 62 (dh [zN] n));let r:=H.next+2
 have hall:s.cells.all AV.aJ=true:=by
  simp only [jA.cells,zbR,zck,hc,zco];rfl
 have M0:Made H2 H3 (upd mM r (Lm (kP c zw zk za zv 0))):=by
  refine jv ?_ ?_ λi cc x hcc hx=> ?_
  ·rw [jI];simp;right;rfl
  ·rw [jI];simp [Lm,kP,n]
  ·rw [jI,zbn] at hx;simp only [Lm,kP,List.map_replicate,zbn] at hcc;by_cases hin:i < n
   ·rw [if_pos hin] at hx hcc;simp only [zaa] at hx hcc;subst hx;subst hcc;exact .inr ⟨rfl,3,rfl⟩
   ·rw [if_neg hin] at hx;cases hx
 have gp:H2.get H.next=.blk 0 24 s.cells:=by
  simp only [H2];rw [bg (by simp only [H1,fC];omega)];exact aK rfl
 have gq:H2.get (H.next+1)=.blk 0 31 c.av:=aK rfl;have b2:H2.base=H.base:=rfl;have n2:H2.next=H.next+2:=rfl
 have key:∀k i,i+k=min zw.length mo->∀Hi,Good H2.next Hi (upd mM r (Lm (kP c zw zk za zv i)))->Step H2.next H2 Hi->(∀j,j < n->(kP c zw zk za zv i).getD j []=[]->ld (.ref r 0 j) Hi=some (zN,Hi))->
   ∃Hz,Step H2.next H2 Hz/\wo C [I mo,.ref H.next 0 0,.ref (H.next+1) 0 0,.sl r 0 0 1 n n true,I i] Hi=some (.sl r 0 0 1 n n true,Hz)/\Good H2.next Hz (upd mM r (Lm (ng c zw zk za zv mo)))/\(∀j,j < n->(ng c zw zk za zv mo).getD j []=[]->ld (.ref r 0 j) Hz=some (zN,Hz)):=by
  intro k
  induction k with
  | zero=>
   intro i hik Hi G st hz;have e8:ld (.ref H.next 0 8) Hi=some (s.who,Hi):=by rw [dA (by rw [st.low _ (by omega)];exact gp)];rfl
   have w0:=λH=> (tH hw H).lnS;have hi':min zw.length mo=i:=by omega
   refine⟨Hi,st,?_,by rw [ng,hi'];exact G,by rw [ng,hi'];exact hz⟩;rw [VJ];by_cases h1:(i:Int) < zw.length
   ·have h2:¬(i:Int) < mo:=by omega
    simp only [xq_,e8,w0,h1,h2]
   ·simp only [xq_,e8,w0,h1]
  | succ k ih=>
   intro i hik Hi G st hz;obtain⟨H',t1,t2,t3,t4⟩:=OH hCa hCw h hi hw hk ha hv hck (p:=H.next) (q:=H.next+1) (r:=r) (n:=n) (by have:=st.next;omega) (by have:=st.next;omega) (by rw [st.low _ (by omega)];exact gp) (by rw [st.low _ (by omega)];exact gq) G (by rw [st.base,b2,n2];omega) (nZ _ _ _ _ _ _) (by have:=Bd.au;omega) (i:=i) (mo:=mo) (by omega) (by omega) (by omega) hz;rw [t1];exact ih (i+1) (by omega) H' t2 (st.trans t3) t4
 have g3:H3.get r=.blk 0 62 (dh [zN] n):=aK n2.symm;obtain⟨Hz,r0,r1,r2,r3⟩:=key (min zw.length mo) 0 (by omega) H3 M0.good (Step.new _ (zac _)) (λj hj _=> by
  rw [dA g3,jI,zbn,if_pos hj];rfl)
 have hs:Step H.next H Hz:=(Step.new _ (zac _)).trans ((Step.new _ (zbk _)).trans ⟨r0.base,r0.next,λr hr=> r0.low r (by omega)⟩)
 refine⟨Hz,r,rfl,?_,r2,hs,r3⟩;have e1:=λH=> Ll H h hi hc;rw [<-hCc] at e1;have hn:=Bd.au;have e2:=Vt (e:=62) (m:=1) (by_:=24) (z:=[zN]) (n:=c.au) (H:=H2) rfl rfl (by omega) (by omega) (by decide);have ls:s.cells.length=12:=rfl;have lt:s.cells.take 12=s.cells:=rfl;have l0:c.av[0]?=some (I c.au):=rfl;have cc:(AV.agg c.av).cells=c.av:=rfl;have lc:c.av.length=8:=rfl;rw [n2] at e2;simp only [H2,H1] at e2;have hnn:c.au.toNat=n:=rfl;rw [hnn] at e2;simp only [c] at e2 l0;have hb1:H.base<=H.next+1:=by omega
 simp only [Nat.reduceLT,Nat.reduceAdd,aP,xq_,hq_,adb,aO hall,ls,lt,e1,l0,e2,hb1];exact r1
theorem OI(H:ah)(h:s.Ok zi zw zk za zv)(hi:aA ah.empty s.init 1 zi.length (zi.map I))(hw:aA ah.empty s.who 1 zw.length (zw.map I))(hk:aA ah.empty s.kinds 1 zk.length (zk.map I))(ha:aA ah.empty s.fK 1 za.length (za.map I))(hv:aA ah.empty s.bf 1 zv.length (zv.map I))
  (hc:s.init.aJ=true/\s.who.aJ=true/\s.kinds.aJ=true/\s.fK.aJ=true/\s.bf.aJ=true) {mo:Nat} (hm:mo<=1000):
  ∃ps,ps=ng (s.cfg zi) zw zk za zv mo/\cl 34 [.agg s.cells,I mo] H=some (.vs ps.length 1 (ps.map (vsl 3 Opn.av)),H):=by
 refine⟨_,rfl,?_⟩;obtain⟨Hz,r,hr,e,G,st,hz⟩:=Lp (C:=cl) rfl rfl rfl H.guard (zac _) h hi hw hk ha hv hc hm;have hlen:(ng (s.cfg zi) zw zk za zv mo).length=(s.cfg zi).au.toNat:=nZ _ _ _ _ _ _;have fz:=Tc (sN:=H.next) G (by simp only [yw];omega) hlen hz;exact iJ rfl rfl (aju _ _ _ _ e) (by rw [fz,hlen])
end
theorem y7(c:Cfg)(zw zk za zv:List Int):∀i,∀l∈kP c zw zk za zv i,l.length<=24
 | 0,l,h=> by
  rw [zcM h];decide
 | i+1,l,h=> by
  simp only [kP,iF] at h;split at h
  ·rename_i hl;rcases zbG h with h | rfl
   ·exact y7 c zw zk za zv i l h
   ·rw [zal];simp only [zam,zak];omega
  ·exact y7 c zw zk za zv i l h
theorem Td(H:ah)(n m:Int):cl 120 [I n,I m] H=some (B (jf n m),H):=by
 refine bC rfl rfl (ag0 _ _ _ _) ?_ fP;by_cases h:1<=n
 ·simp only [xq_,VU,h,jf,zaG]
 ·simp only [xq_,VU,h,jf,zaF]
theorem akl {c:Cfg}(h1:jf c.aG 8=true)(h2:jf c.aH 4=true):IntKind.wrap .i64 (c.aG*c.aH)=c.aG*c.aH:=by
 simp only [jf,zae,decide_eq_true_eq] at h1 h2;have:c.aG*c.aH<=8*4:=zbL h1.2 h2.2 (by omega) (by omega);have:0<=c.aG*c.aH:=zbT (by omega) (by omega);exact wrap_i64 (by omega) (by omega)
theorem WL(H:ah)(c:Cfg):cl 76 [.agg c.av] H=some (B c.ok,H):=by
 refine bC rfl rfl (ajY _ _ _) ?_ fP;have w:=λH n m=> Td H n m;have e1:=λH=> (gW H c.init).lnS;cases h1:jf c.au 6
 ·simp only [Nat.reduceLT,xq_,hq_,IW,aO,Cfg.av,Cfg.ok,w,h1,zaF]
 cases h2:jf c.aG 8
 ·simp only [Nat.reduceLT,xq_,hq_,IW,aO,Cfg.av,Cfg.ok,w,h1,h2,zaF,zaG]
 cases h3:jf c.aH 4
 ·simp only [Nat.reduceLT,xq_,hq_,IW,aO,Cfg.av,Cfg.ok,w,h1,h2,h3,zaF,zaG]
 cases h4:jf c.sets 4
 ·simp only [Nat.reduceLT,xq_,hq_,IW,aO,Cfg.av,Cfg.ok,w,h1,h2,h3,h4,zaF,zaG]
 cases h5:jf c.ways 3
 ·simp only [Nat.reduceLT,xq_,hq_,IW,aO,Cfg.av,Cfg.ok,w,h1,h2,h3,h4,h5,zaF,zaG]
 cases h6:jf c.out 8
 ·simp only [Nat.reduceLT,xq_,hq_,IW,aO,Cfg.av,Cfg.ok,w,h1,h2,h3,h4,h5,h6,zaF,zaG]
 cases h7:jf c.inn 8
 ·simp only [Nat.reduceLT,xq_,hq_,IW,aO,Cfg.av,Cfg.ok,w,h1,h2,h3,h4,h5,h6,h7,zaF,zaG]
 have hm:=akl h2 h3;simp only [Nat.reduceLT,xq_,hq_,IW,aO,Cfg.av,Cfg.ok,w,h1,h2,h3,h4,h5,h6,h7,e1,iT,hm,zaG]
end
end Go.Proofs.YtgplhpgkompkmaaGreat
