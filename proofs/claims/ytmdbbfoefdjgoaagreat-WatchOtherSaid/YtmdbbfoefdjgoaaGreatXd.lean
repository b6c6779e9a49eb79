/-
  Own work: an interpreter over named blocks, its soundness, and what the functions of this seat compute (part 4 of 11).
  Conditions: those of the statement alone.
-/
import Derived.Test.YtmdbbfoefdjgoaaGreatProg
import Derived.KernelRfl
import Derived.RangeFuncFrom
import Derived.RangeFuncLeaves
import Derived.RangeFuncCalls
import Derived.OrdersIn
import Derived.Test.YtmdbbfoefdjgoaaGreatXc
set_option maxRecDepth 100000
set_option linter.all false
set_option linter.unusedSectionVars false
set_option linter.unusedVariables false
set_option linter.unusedSimpArgs false
namespace Go.Proofs.YtmdbbfoefdjgoaaGreat
noncomputable section
def aoR:Ann:=⟨[(8,[0,4,5,7])],[],[]⟩
def MF:=jL Tryz.prog Tryz.f3 91 aoR 0
def RN(C:aA)(t0 t4 t5:AV)(H:ah):OA:=
 bo (bd 26 [(0,(I 3)),(2,t0)]) λv40=> bnd (bs 27 1 [(0,v40)] H) λv41 H=> bo (bd 26 [(0,(I 2)),(2,t0)]) λv43=> bnd (bs 27 1 [(0,v43)] H) λv44 H=>
 bnd (C 6 [t5] H) λv46 H=> bo (bi .eql 3 v46 (I 0)) λv47=> gl v47 true (some t5) H λv49 H=> gl v47 true (some t4) H λv50 H=> gdA (some v47) true (bs 40 1 [(0,v50)] H) H λv51 H=> gdA (some v47) true (C 7 [v49,v51] H) H λv52 H=> bo (bG v47 v52 (B false)) λv53=> gl v53 true (some t5) H λv55 H=> gl v53 true (some t4) H λv56 H=> gdA (some v53) true (bs 40 1 [(0,v56)] H) H λv57 H=> gdA (some v53) true (C 8 [v55,v57] H) H λv58 H=> bo (bG v53 v58 (B false)) λv59=> gl v59 true (some t5) H λv61 H=> gl v59 true (some v44) H λv62 H=> gdA (some v59) true (bs 40 1 [(0,v62)] H) H λv63 H=> gdA (some v59) true (C 7 [v61,v63] H) H λv64 H=> gl v59 true (un .not v64) H λv65 H=> bo (bG v59 v65 (B false)) λv66=> gl v66 true (some t5) H λv68 H=> gl v66 true (some v44) H λv69 H=> gdA (some v66) true (bs 40 1 [(0,v69)] H) H λv70 H=> gdA (some v66) true (C 8 [v68,v70] H) H λv71 H=> gl v66 true (un .not v71) H λv72 H=> bo (bG v66 v72 (B false)) λv73=> gl v73 true (some t5) H λv75 H=> gl v73 true (some v41) H λv76 H=> gdA (some v73) true (bs 40 1 [(0,v76)] H) H λv77 H=> gdA (some v73) true (C 7 [v75,v77] H) H λv78 H=> gl v73 true (some t0) H λv79 H=> gl v73 true (bi .eql 3 v79 (I 0)) H λv80 H=> gl v73 true (bi .eql 4 v78 v80) H λv81 H=> bo (bG v73 v81 (B false)) λv82=> gl v82 true (some t5) H λv84 H=> gdA (some v82) true (C 7 [v84,(.s (Go.Value.slice none 0 0))] H) H λv85 H=> gl v82 true (un .not v85) H λv86 H=> bo (bG v82 v86 (B false)) λv87=> gdA (some v87) true (C 9 [] H) H λv89 H=> bo (bG v87 v89 (B false)) λv90=>
 some (v90,H)
def aoS(C:aA)(a0:AV)(H:ah):OA:=
 bnd (bs 22 1 [(0,(I 7))] H) λv10 H=> bo (bd 24 [(0,(I 1)),(1,(I 1)),(2,(I 1)),(3,(I 1)),(4,(I 1)),(5,(I 1)),(6,(I 1)),(7,v10)]) λv11=> bnd (alc 24 [zI,zI,zI,zI,zI,zI,zI,zN] H) λv3 H=> bnd (st 8 v3 v11 H) λ_ H=>
 bo (bd 26 [(0,(I 1))]) λv12=> bnd (bs 27 1 [(0,v12)] H) λv13 H=>
 bnd (lda 8 v3 H) λv15 H=> bnd (bs 40 1 [(0,v13)] H) λv17 H=> bnd (C 4 [v15,v17] H) λv18 H=> bo (aF v18 0) λv19=> bo (aF v18 1) λv20=>
 bo (bi .neq 29 v20 (I 0)) λv22=> gl v22 false (some v19) H λv24 H=> gl v22 false (bi .eql 28 v24 (.s (Go.Value.pointer none))) H λv25 H=> bo (bG v22 (B true) v25) λv26=>
 aI v26
 (some ((B false),H))
 (MF C [a0,v13,v19,(I 0)] H)
theorem Xz(C:aA)(t0 t4 t5 t7:AV)(H:ah):MF C [t0,t4,t5,t7] H=
 bo (bi .lss 3 t7 (I 12)) λv28=>
 aI v28
 (bo (bd 35 []) λv32=> bnd (C 5 [t5,v32] H) λv33 H=>
  bo (bd 35 [(0,(B true))]) λv35=> bnd (C 5 [t5,v35] H) λv36 H=>
  bo (bi .add 3 t7 (I 1)) λv30=>
  MF C [t0,t4,t5,v30] H)
 (bo (bi .eql 3 t0 (I 7)) λv38=>
  aI v38
  (RN C (I 8) t4 t5 H)
  (RN C t0 t4 t5 H)):=
 lpE.trans (by kernel_rfl)
theorem apk:Rn1 3 aoS:=λ_ _ _ _ h=>
 rnG aoR Tryz.func3 (by kernel_rfl) (by kernel_rfl) h
def aoT:Ann:=⟨[(11,[2,8,32,33,34])],[(8,some false::some true::some true::rF 4 []),(12,rF 8 (some true::rF 5 []))],[]⟩
def MG:=jL Tryz.prog Tryz.f4 54 aoT 0
def amS(C:aA)(a0 a1:AV)(H:ah):OA:=
 bnd (fM 24 a0 H) λv2 H=>
 bnd (lda 8 v2 H) λv11 H=> bnd (C 10 [v11] H) λv12 H=>
 bo (bi .neq 29 v12 (I 0)) λv14=>
 aI v14
 (some (.tup [(.s (Go.Value.pointer none)),v12],H))
 (bnd (lda 8 v2 H) λv16 H=> bnd (C 11 [v16,a1] H) λv18 H=>
  bo (bi .neq 29 v18 (I 0)) λv20=>
  aI v20
  (some (.tup [(.s (Go.Value.pointer none)),v18],H))
  (fld v2 7 H λv23 H=> bnd (C 12 [v23] H) λv24 H=> bo (ak v2 7) λv25=> bnd (st 1 v25 v24 H) λ_ H=>
  bnd (lda 8 v2 H) λv26 H=> bnd (unG H (C 13 [v26] H.guard)) λv27 H=> bnd (unG H (C 14 [] H.guard)) λv28 H=> bnd (lda 8 v2 H) λv29 H=> bo (bd 50 [(0,v27),(1,v28),(2,v29)]) λv30=> bnd (fM 50 v30 H) λv31 H=>
  bnd (lnS a1 H) λv33 H=>
  MG C [v2,v31,a1,v33,(I 0)] H))
theorem RP(C:aA)(t2 t8 t32 t33 t34:AV)(H:ah):MG C [t2,t8,t32,t33,t34] H=
 bo (bi .lss 3 t34 t33) λv35=>
 aI v35
 (bnd (ix 1 t32 t34 H) λv37 H=> bnd (ld v37 H) λv38 H=>
  bo (au t8) λv41=> fld v41 10 H λv43 H=> bnd (lda 8 t2 H) λv44 H=> bnd (unG H (C 15 [v44,t34,v38] H.guard)) λv47 H=> bnd (bs 48 1 [(0,v47)] H) λv48 H=> bnd (app 51 1 8 v43 v48 H) λv49 H=> bo (au t8) λv50=> bo (ak v50 10) λv51=> bnd (st 1 v51 v49 H) λ_ H=>
  bo (bi .add 3 t34 (I 1)) λv52=>
  MG C [t2,t8,t32,t33,v52] H)
 (some (.tup [t8,(I 0)],H)):=
 lpE.trans (by kernel_rfl)
theorem aoU:Rn2 4 amS:=λ_ _ _ _ _ h=>
 rnG aoT Tryz.func4 (by kernel_rfl) (by kernel_rfl) h
def apl:Ann:=⟨[],[(2,rF 13 []),(4,rF 16 [])],[]⟩
def amc(C:aA)(a0 a1:AV)(H:ah):OA:=
 bnd (fM 35 a1 H) λv3 H=>
 fld v3 0 H λv7 H=>
 aI v7
 (bo (au a0) λv9=> fld v9 0 H λv11 H=> fld v3 1 H λv13 H=> fld v3 2 H λv15 H=> fld v3 3 H λv17 H=> bnd (C 16 [v11,v13,v15,v17] H) λv18 H=> bo (bi .eql 29 v18 (I 0)) λv19=>
  some (v19,H))
 (fld v3 1 H λv22 H=> bnd (C 17 [a0,v22] H) λv23 H=>
  bo (bi .neq 51 v23 (.s (Go.Value.pointer none))) λv25=> gl v25 true (some v23) H λv27 H=> gl v25 true (some a0) H λv28 H=> gl v25 true (au v28) H λv29 H=> gl v25 true (ak v29 0) H λv30 H=> gdA (some v25) true (ld v30 H) H λv31 H=> gl v25 true (some a0) H λv32 H=> gl v25 true (au v32) H λv33 H=> gl v25 true (ak v33 1) H λv34 H=> gdA (some v25) true (ld v34 H) H λv35 H=> gdA (some v25) true (C 18 [v27,v31,v35] H) H λv36 H=> gl v25 true (bi .neq 3 v36 (I 0)) H λv37 H=> bo (bG v25 v37 (B false)) λv38=>
  some (v38,H))
theorem amT:Rn2 5 amc:=λ_ _ _ _ _ h=>
 rnG apl Tryz.func5 (by kernel_rfl) (by kernel_rfl) h
def aoV:Ann:=⟨[(4,[3,9,10,11])],[],[]⟩
def RQ:=jL Tryz.prog Tryz.f6 24 aoV 0
def aoW(C:aA)(a0:AV)(H:ah):OA:=
 bo (au a0) λv7=> fld v7 10 H λv9 H=> bnd (lnS v9 H) λv10 H=>
 RQ C [(I 0),v9,v10,(I 0)] H
theorem adu(C:aA)(t3 t9 t10 t11:AV)(H:ah):RQ C [t3,t9,t10,t11] H=
 bo (bi .lss 3 t11 t10) λv12=>
 aI v12
 (bnd (ix 1 t9 t11 H) λv13 H=> bnd (ld v13 H) λv14 H=>
  bo (au v14) λv17=> fld v17 1 H λv19 H=> bnd (C 19 [v19] H) λv20 H=> bo (bi .add 3 t3 v20) λv21=>
  bo (bi .add 3 t11 (I 1)) λv22=>
  RQ C [v21,t9,t10,v22] H)
 (some (t3,H)):=
 lpE.trans (by kernel_rfl)
theorem apm:Rn1 6 aoW:=λ_ _ _ _ h=>
 rnG aoV Tryz.func6 (by kernel_rfl) (by kernel_rfl) h
def aoX:Ann:=⟨[(4,[0,1,5,10,11])],[(8,rF 6 (some true::rF 7 []))],[]⟩
def MJ:=jL Tryz.prog Tryz.f7 44 aoX 0
def aoY(C:aA)(a0 a1:AV)(H:ah):OA:=
 bnd (C 20 [a0] H) λv8 H=> bnd (alc 24 [zI,zI,zI,zI,zI,zI,zI,zN] H) λv5 H=> bnd (st 8 v5 v8 H) λ_ H=>
 fld v5 1 H λv10 H=>
 MJ C [a0,a1,v5,v10,(I 0)] H
theorem adv(C:aA)(t0 t1 t5 t10 t11:AV)(H:ah):MJ C [t0,t1,t5,t10,t11] H=
 bo (bi .lss 3 t11 t10) λv12=>
 aI v12
 (bnd (C 21 [t0,t11] H) λv16 H=> bo (un .not v16) λv17=> gl v17 false (some t0) H λv19 H=> gl v17 false (some t11) H λv20 H=> gdA (some v17) false (C 22 [v19,v20] H) H λv21 H=> gl v17 false (bi .eql 3 v21 (I (-1))) H λv22 H=> gl v17 false (some v22) H λv23 H=> gl v23 true (some t0) H λv24 H=> gl v23 true (some t11) H λv25 H=> gdA (some v23) true (C 23 [v24,v25] H) H λv26 H=> gl v23 true (un .not v26) H λv27 H=> gl v17 false (bG v23 v27 (B false)) H λv28 H=> bo (bG v17 (B true) v28) λv29=>
  aI v29
  (some ((B false),H))
  (bo (bi .add 3 t11 (I 1)) λv30=>
  MJ C [t0,t1,t5,t10,v30] H))
 (bnd (lda 8 t5 H) λv31 H=> bo (au t0) λv34=> fld v34 1 H λv36 H=> bnd (unG H (C 25 [v36] H.guard)) λv37 H=> bnd (C 24 [v31,t1,v37] H) λv38 H=> gl v38 true (some t0) H λv40 H=> gl v38 true (some t1) H λv41 H=> gdA (some v38) true (C 8 [v40,v41] H) H λv42 H=> bo (bG v38 v42 (B false)) λv43=>
  some (v43,H)):=
 lpE.trans (by kernel_rfl)
theorem apn:Rn2 7 aoY:=λ_ _ _ _ _ h=>
 rnG aoX Tryz.func7 (by kernel_rfl) (by kernel_rfl) h
def aoZ:Ann:=⟨[(7,[0,5,6,24,25])],[(2,rF 6 (some true::some false::some false::[]))],[]⟩
def MK:=jL Tryz.prog Tryz.f8 44 aoZ 0
def amU(C:aA)(a0 a1:AV)(H:ah):OA:=
 bnd (C 20 [a0] H) λv9 H=> bnd (alc 24 [zI,zI,zI,zI,zI,zI,zI,zN] H) λv5 H=> bnd (st 8 v5 v9 H) λ_ H=>
 bnd (lda 8 v5 H) λv10 H=> bo (au a0) λv13=> fld v13 1 H λv15 H=> bnd (unG H (C 25 [v15] H.guard)) λv16 H=> bnd (C 26 [v10,a1,v16] H) λv17 H=>
 bnd (lnS v17 H) λv19 H=> bnd (lda 8 v5 H) λv20 H=> bnd (C 27 [v20] H) λv21 H=> bo (bi .neq 3 v19 v21) λv22=>
 aI v22
 (some ((B false),H))
 (fld v5 1 H λv24 H=>
  MK C [a0,v5,v17,v24,(I 0)] H)
theorem adw(C:aA)(t0 t5 t6 t24 t25:AV)(H:ah):MK C [t0,t5,t6,t24,t25] H=
 bo (bi .lss 3 t25 t24) λv26=>
 aI v26
 (fld t5 2 H λv33 H=> bo (bi .mul 3 t25 v33) λv34=> bo (bi .add 3 t25 (I 1)) λv36=> fld t5 2 H λv38 H=> bo (bi .mul 3 v36 v38) λv39=> bo (slS 1 t6 (some v34) (some v39) none) λv40=> bnd (C 28 [t0,t25,v40] H) λv41 H=> bo (un .not v41) λv42=>
  aI v42
  (some ((B false),H))
  (bo (bi .add 3 t25 (I 1)) λv43=>
  MK C [t0,t5,t6,t24,v43] H))
 (some ((B true),H)):=
 lpE.trans (by kernel_rfl)
theorem ao0:Rn2 8 amU:=λ_ _ _ _ _ h=>
 rnG aoZ Tryz.func8 (by kernel_rfl) (by kernel_rfl) h
def ao1(C:aA)(H:ah):OA:=
 bo (bd 24 [(0,(I 2)),(1,(I 1)),(2,(I 1)),(3,(I 1)),(4,(I 1)),(5,(I 1)),(6,(I 1))]) λv6=> bnd (bs 40 2 [(0,(.s (Go.Value.slice none 0 0))),(1,(.s (Go.Value.slice none 0 0)))] H) λv7 H=> bnd (C 4 [v6,v7] H) λv8 H=> bo (aF v8 0) λv9=> bo (aF v8 1) λv10=>
 bo (bi .neq 29 v10 (I 0)) λv12=> gl v12 false (some v9) H λv14 H=> gl v12 false (bi .eql 28 v14 (.s (Go.Value.pointer none))) H λv15 H=> bo (bG v12 (B true) v15) λv16=>
 aI v16
 (some ((B false),H))
 (bnd (C 29 [v9,(I 0)] H) λv19 H=> bo (aF v19 0) λv20=> bo (aF v19 1) λv21=>
  bnd (bs 40 2 [(0,(.s (Go.Value.slice none 0 0))),(1,(.s (Go.Value.slice none 0 0)))] H) λv23 H=> bnd (C 7 [v9,v23] H) λv24 H=> gl v24 true (some v21) H λv26 H=> bo (bG v24 v26 (B false)) λv27=> gl v27 true (some v20) H λv29 H=> gdA (some v27) true (lnS v29 H) H λv30 H=> gl v27 true (bi .eql 3 v30 (I 0)) H λv31 H=> bo (bG v27 v31 (B false)) λv32=>
  some (v32,H))
theorem apo:Rn0 9 ao1:=λ_ _ _ h=>
 rnG an0 Tryz.func9 (by kernel_rfl) (by kernel_rfl) h
def afq(C:aA)(a0:AV)(H:ah):OA:=
 bnd (fM 24 a0 H) λv1 H=>
 fld v1 0 H λv7 H=> bnd (C 30 [v7,(I 6)] H) λv8 H=> gl v8 true (ak v1 1) H λv10 H=> gdA (some v8) true (ld v10 H) H λv11 H=> gdA (some v8) true (C 30 [v11,(I 8)] H) H λv12 H=> bo (bG v8 v12 (B false)) λv13=> gl v13 true (ak v1 2) H λv15 H=> gdA (some v13) true (ld v15 H) H λv16 H=> gdA (some v13) true (C 30 [v16,(I 4)] H) H λv17 H=> bo (bG v13 v17 (B false)) λv18=>
 fld v1 3 H λv20 H=> bnd (C 30 [v20,(I 4)] H) λv21 H=> gl v21 true (ak v1 4) H λv23 H=> gdA (some v21) true (ld v23 H) H λv24 H=> gdA (some v21) true (C 30 [v24,(I 3)] H) H λv25 H=> bo (bG v21 v25 (B false)) λv26=>
 fld v1 5 H λv28 H=> bnd (C 30 [v28,(I 8)] H) λv29 H=> gl v29 true (ak v1 6) H λv31 H=> gdA (some v29) true (ld v31 H) H λv32 H=> gdA (some v29) true (C 30 [v32,(I 8)] H) H λv33 H=> bo (bG v29 v33 (B false)) λv34=>
 bo (un .not v18) λv36=> gl v36 false (some v26) H λv38 H=> gl v36 false (un .not v38) H λv39 H=> bo (bG v36 (B true) v39) λv40=> gl v40 false (some v34) H λv42 H=> gl v40 false (un .not v42) H λv43 H=> bo (bG v40 (B true) v43) λv44=> gl v44 false (ak v1 7) H λv46 H=> gdA (some v44) false (ld v46 H) H λv47 H=> gdA (some v44) false (lnS v47 H) H λv48 H=> gl v44 false (ak v1 1) H λv49 H=> gdA (some v44) false (ld v49 H) H λv50 H=> gl v44 false (ak v1 2) H λv51 H=> gdA (some v44) false (ld v51 H) H λv52 H=> gl v44 false (bi .mul 3 v50 v52) H λv53 H=> gl v44 false (bi .gtr 3 v48 v53) H λv54 H=> bo (bG v44 (B true) v54) λv55=>
 aI v55
 (some ((I 1),H))
 (some ((I 0),H))
theorem air:Rn1 10 afq:=λ_ _ _ _ h=>
 rnG an0 Tryz.func10 (by kernel_rfl) (by kernel_rfl) h
def P6(C:aA)(a0 a1:AV)(H:ah):OA:=
 bnd (fM 24 a0 H) λv2 H=>
 bnd (C 31 [a1,(.fn (.func 32) [] [v2])] H) λv8 H=>
 gl v8 false (some a1) H λv11 H=> gdA (some v8) false (lnS v11 H) H λv12 H=> gl v8 false (ak v2 0) H λv13 H=> gdA (some v8) false (ld v13 H) H λv14 H=> gl v8 false (bi .neq 3 v12 v14) H λv15 H=> bo (bG v8 (B true) v15) λv16=>
 aI v16
 (some ((I 1),H))
 (some ((I 0),H))
theorem ais:Rn2 11 P6:=λ_ _ _ _ _ h=>
 rnG an0 Tryz.func11 (by kernel_rfl) (by kernel_rfl) h
def XA(C:aA)(a0:AV)(H:ah):OA:=
 bo (bi .eql 22 a0 (.s (Go.Value.slice none 0 0))) λv4=>
 aI v4
 (some ((.s (Go.Value.slice none 0 0)),H))
 (bnd (bs 22 0 [] H) λv5 H=> bnd (app 3 1 8 v5 a0 H) λv7 H=>
  some (v7,H))
theorem aa4:Rn1 12 XA:=λ_ _ _ _ h=>
 rnG an0 Tryz.func12 (by kernel_rfl) (by kernel_rfl) h
def ait:Ann:=⟨[(4,[1,3,7,8])],[(4,rF 7 (some true::some false::some false::some true::rF 3 (some true::some true::rF 7 [])))],[]⟩
def Jd:=jL Tryz.prog Tryz.f13 34 ait 0
def aiu(C:aA)(a0:AV)(H:ah):OA:=
 bnd (fM 24 a0 H) λv1 H=>
 bo (bd 84 []) λv4=> bnd (fM 84 v4 H) λv5 H=>
 fld v1 0 H λv7 H=>
 Jd C [v1,v5,v7,(I 0)] H
theorem XB(C:aA)(t1 t3 t7 t8:AV)(H:ah):Jd C [t1,t3,t7,t8] H=
 bo (bi .lss 3 t8 t7) λv9=>
 aI v9
 (bo (au t3) λv12=> fld v12 0 H λv14 H=> fld t1 5 H λv16 H=> bnd (unG H (C 36 [v16] H.guard)) λv17 H=> fld t1 6 H λv19 H=> bnd (unG H (C 37 [v19] H.guard)) λv20 H=> bo (bd 90 [(0,v17),(1,v20)]) λv21=> fld t1 5 H λv23 H=> bnd (unG H (C 36 [v23] H.guard)) λv24 H=> bnd (unG H (C 37 [(I 1)] H.guard)) λv25 H=> bo (bd 90 [(0,v24),(1,v25)]) λv26=> bo (bd 92 [(0,v21),(1,v26)]) λv27=> bnd (bs 82 1 [(0,v27)] H) λv28 H=> bnd (app 92 4 32 v14 v28 H) λv29 H=> bo (au t3) λv30=> bo (ak v30 0) λv31=> bnd (st 1 v31 v29 H) λ_ H=>
  bo (bi .add 3 t8 (I 1)) λv32=>
  Jd C [t1,t3,t7,v32] H)
 (some (t3,H)):=
 lpE.trans (by kernel_rfl)
theorem amV:Rn1 13 aiu:=λ_ _ _ _ h=>
 rnG ait Tryz.func13 (by kernel_rfl) (by kernel_rfl) h
def aiv(C:aA)(H:ah):OA:=
 bo (bd 94 []) λv1=> bnd (fM 94 v1 H) λv2 H=>
 some (v2,H)
theorem amW:Rn0 14 aiv:=λ_ _ _ h=>
 rnG an0 Tryz.func14 (by kernel_rfl) (by kernel_rfl) h
def amX:Ann:=⟨[],[(1,rF 4 (some true::some false::some true::rF 4 (some true::rF 4 [])))],[]⟩
def aiw(C:aA)(a0 a1 a2:AV)(H:ah):OA:=
 bnd (fM 24 a0 H) λv3 H=>
 fld v3 3 H λv8 H=> fld v3 4 H λv10 H=> bnd (unG H (C 38 [v8,v10] H.guard)) λv11 H=> bnd (unG H (C 39 [a2] H.guard)) λv13 H=> bnd (lda 8 v3 H) λv14 H=> bnd (lda 8 v3 H) λv16 H=> bnd (unG H (C 40 [v16,a1] H.guard)) λv18 H=> bo (bd 60 [(0,v18)]) λv19=> bo (bd 64 [(0,v11),(1,v13),(2,v14),(3,a1),(4,v19)]) λv20=> bnd (fM 64 v20 H) λv21 H=>
 some (v21,H)
theorem amY:Rn3 15 aiw:=λ_ _ _ _ _ _ h=>
 rnG amX Tryz.func15 (by kernel_rfl) (by kernel_rfl) h
def amZ:Ann:=⟨[],[(7,rF 10 (some true::some true::rF 4 []))],[]⟩
def XC(C:aA)(a0 a1 a2 a3:AV)(H:ah):OA:=
 bnd (C 41 [a0,a1] H) λv19 H=> bo (aF v19 0) λv20=> bo (aF v19 1) λv21=> bnd (alc 99 [zI,zI,zI,zI,zI,zI,zI,zB,zN] H) λv9 H=> bnd (st 9 v9 v20 H) λ_ H=>
 bo (un .not v21) λv23=>
 aI v23
 (some ((I 3),H))
 (bnd (lda 9 v9 H) λv25 H=> bnd (C 42 [v25,a2,a3] H) λv28 H=> bo (aF v28 0) λv29=> bo (aF v28 1) λv30=> bnd (st 9 v9 v29 H) λ_ H=>
  bo (bi .neq 29 v30 (I 0)) λv32=>
  aI v32
  (some (v30,H))
  (bo (au a0) λv35=> fld v35 0 H λv37 H=> fld v9 2 H λv39 H=> bnd (ix 4 v37 v39 H) λv40 H=> bnd (lda 4 v40 H) λv41 H=> fld v9 0 H λv43 H=> bnd (unG H (C 44 [v43] H.guard)) λv44 H=> bnd (unG H (C 43 [v41,v44] H.guard)) λv45 H=> bo (fl v45 1) λv46=> bnd (lda 9 v9 H) λv47 H=> bnd (C 45 [v46,v47] H) λv48 H=>
  bo (bi .neq 29 v48 (I 0)) λv50=>
  aI v50
  (some (v48,H))
  (bnd (C 46 [a0,a1] H) λv55 H=> bo (aF v55 0) λv56=> bo (aF v55 1) λv57=> bo (aF v55 2) λv58=> bnd (alc 90 [zP,zP] H) λv13 H=> bnd (st 2 v13 v56 H) λ_ H=>
   fld v13 0 H λv60 H=> bnd (C 47 [v60,v57] H) λv62 H=>
   some ((I 0),H))))
theorem aa5:Rn4 16 XC:=λ_ _ _ _ _ _ _ h=>
 rnG amZ Tryz.func16 (by kernel_rfl) (by kernel_rfl) h
def aa6(C:aA)(a0 a1:AV)(H:ah):OA:=
 bo (bi .lss 3 a1 (I 0)) λv6=> gl v6 false (some a1) H λv8 H=> gl v6 false (some a0) H λv9 H=> gl v6 false (au v9) H λv10 H=> gl v6 false (ak v10 10) H λv11 H=> gdA (some v6) false (ld v11 H) H λv12 H=> gdA (some v6) false (lnS v12 H) H λv13 H=> gl v6 false (bi .geq 3 v8 v13) H λv14 H=> bo (bG v6 (B true) v14) λv15=>
 aI v15
 (some ((.s (Go.Value.pointer none)),H))
 (bo (au a0) λv17=> fld v17 10 H λv19 H=> bnd (ix 1 v19 a1 H) λv21 H=> bnd (ld v21 H) λv22 H=>
  some (v22,H))
theorem am0:Rn2 17 aa6:=λ_ _ _ _ _ h=>
 rnG an0 Tryz.func17 (by kernel_rfl) (by kernel_rfl) h
def P7(C:aA)(a0 a1 a2:AV)(H:ah):OA:=
 bnd (C 48 [a0,a1,a2] H) λv11 H=>
 aI v11
 (some ((I 1),H))
 (bnd (C 49 [a0,a1] H) λv15 H=>
  aI v15
  (some ((I 2),H))
  (bnd (C 50 [a0,a1] H) λv19 H=>
  aI v19
  (some ((I 3),H))
  (bnd (C 51 [a0,a1,a2] H) λv24 H=>
   aI v24
   (some ((I 4),H))
   (some ((I 0),H)))))
theorem UM:Rn3 18 P7:=λ_ _ _ _ _ _ h=>
 rnG an0 Tryz.func18 (by kernel_rfl) (by kernel_rfl) h
def am1:Ann:=⟨[],[(1,rF 12 [])],[]⟩
def aix(C:aA)(a0:AV)(H:ah):OA:=
 bo (au a0) λv4=> fld v4 0 H λv6 H=> bnd (lnS v6 H) λv7 H=> bo (au a0) λv9=> fld v9 1 H λv11 H=> bnd (lnS v11 H) λv12 H=> bo (bi .sub 3 v7 v12) λv13=>
 some (v13,H)
theorem am2:Rn1 19 aix:=λ_ _ _ _ h=>
 rnG am1 Tryz.func19 (by kernel_rfl) (by kernel_rfl) h
def aiy(C:aA)(a0:AV)(H:ah):OA:=
 bnd (alc 24 [zI,zI,zI,zI,zI,zI,zI,zN] H) λv2 H=>
 bo (au a0) λv5=> bo (ak v5 2) λv6=> bnd (lda 8 v6 H) λv7 H=> bnd (alc 24 [zI,zI,zI,zI,zI,zI,zI,zN] H) λv3 H=> bnd (st 8 v3 v7 H) λ_ H=>
 fld v3 7 H λv9 H=> bnd (C 12 [v9] H) λv10 H=> bo (ak v3 7) λv11=> bnd (st 1 v11 v10 H) λ_ H=>
 bnd (lda 8 v3 H) λv12 H=> bnd (st 8 v2 v12 H) λ_ H=>
 bnd (lda 8 v2 H) λr0 _=> some (r0,H)
theorem am3:Rn1 20 aiy:=λ_ _ _ _ h=>
 rnG an0 Tryz.func20 (by kernel_rfl) (by kernel_rfl) h
def aa7(C:aA)(a0 a1:AV)(H:ah):OA:=
 bnd (fM 28 a0 H) λv2 H=> bnd (fM 3 a1 H) λv3 H=>
 bnd (ld v2 H) λv7 H=> bnd (ld v3 H) λv8 H=> bnd (C 52 [v7,v8] H) λv9 H=>
 bnd (C 53 [v9,(.fn (.func 54) [] [v2,v3])] H) λv12 H=>
 bo (un .not v12) λv14=> gl v14 false (some v9) H λv16 H=> gdA (some v14) false (lnS v16 H) H λv17 H=> gl v14 false (bi .eql 3 v17 (I 1)) H λv18 H=> bo (bG v14 (B true) v18) λv19=>
 some (v19,H)
theorem am4:Rn2 21 aa7:=λ_ _ _ _ _ h=>
 rnG an0 Tryz.func21 (by kernel_rfl) (by kernel_rfl) h
def afr(C:aA)(a0 a1:AV)(H:ah):OA:=
 bnd (C 56 [a0,a1] H) λv7 H=> bo (un .not v7) λv8=>
 aI v8
 (some ((I (-1)),H))
 (bnd (C 20 [a0] H) λv11 H=> bnd (C 57 [v11,a1] H) λv13 H=> bnd (C 17 [a0,v13] H) λv14 H=> bnd (C 58 [v14,a1] H) λv16 H=>
  some (v16,H))
theorem am5:Rn2 22 afr:=λ_ _ _ _ _ h=>
 rnG an0 Tryz.func22 (by kernel_rfl) (by kernel_rfl) h
def aiz:Ann:=⟨[(10,[0,1,7,8,35,36,37])],[],[]⟩
def xG:=jL Tryz.prog Tryz.f23 64 aiz 0
def UN(C:aA)(a0 a1:AV)(H:ah):OA:=
 bnd (C 56 [a0,a1] H) λv15 H=> bo (un .not v15) λv16=>
 aI v16
 (some ((B true),H))
 (bnd (C 29 [a0,a1] H) λv20 H=> bo (aF v20 0) λv21=> bo (aF v20 1) λv22=>
  bo (un .not v22) λv24=> gl v24 false (some v21) H λv26 H=> gdA (some v24) false (C 61 [v26] H) H λv27 H=> gdA (some v24) false (C 60 [v27] H) H λv28 H=> gl v24 false (some a0) H λv29 H=> gl v24 false (some a1) H λv30 H=> gdA (some v24) false (C 52 [v29,v30] H) H λv31 H=> gdA (some v24) false (C 59 [v28,v31] H) H λv32 H=> gl v24 false (un .not v32) H λv33 H=> bo (bG v24 (B true) v33) λv34=>
  aI v34
  (some ((B false),H))
  (bnd (lnS v21 H) λv36 H=>
  xG C [a0,a1,(.s (Go.Value.slice none 0 0)),(I (-1)),v21,v36,(I 0)] H))
theorem P8(C:aA)(t0 t1 t7 t8 t35 t36 t37:AV)(H:ah):xG C [t0,t1,t7,t8,t35,t36,t37] H=
 bo (bi .lss 3 t37 t36) λv38=>
 aI v38
 (bnd (ix 1 t35 t37 H) λv39 H=> bnd (ld v39 H) λv40 H=>
  bnd (C 55 [t0,v40,t1] H) λv45 H=> bo (aF v45 0) λv46=> bo (aF v45 1) λv47=> bnd (alc 117 [zI,zI,zI,zI,zB,zN] H) λv11 H=> bnd (st 6 v11 v46 H) λ_ H=>
  bo (ak v11 0) λv48=> fld v48 1 H λv50 H=> bo (bi .neq 3 v50 t8) λv52=>
  aI v52
  (some ((B false),H))
  (bnd (lda 6 v11 H) λv55 H=> bnd (bs 127 1 [(0,v55)] H) λv56 H=> bnd (app 117 6 64 t7 v56 H) λv57 H=>
  bo (bi .add 3 t37 (I 1)) λv58=>
  xG C [t0,t1,v57,v40,t35,t36,v58] H))
 (bnd (C 63 [t0,t1] H) λv61 H=> bnd (C 62 [v61,t7] H) λv63 H=>
  some (v63,H)):=
 lpE.trans (by kernel_rfl)
theorem am6:Rn2 23 UN:=λ_ _ _ _ _ h=>
 rnG aiz Tryz.func23 (by kernel_rfl) (by kernel_rfl) h
def aa8(C:aA)(a0 a1 a2:AV)(H:ah):OA:=
 bnd (fM 24 a0 H) λv3 H=>
 bnd (lda 8 v3 H) λv10 H=> bnd (C 64 [v10,a1,a2] H) λv13 H=> bo (aF v13 0) λv14=> bo (aF v13 1) λv15=>
 some (v15,H)
theorem aiA:Rn3 24 aa8:=λ_ _ _ _ _ _ h=>
 rnG an0 Tryz.func24 (by kernel_rfl) (by kernel_rfl) h
def aiB(C:aA)(a0:AV)(H:ah):OA:=
 bo (au a0) λv4=> fld v4 0 H λv6 H=> bnd (C 65 [v6] H) λv7 H=>
 some (v7,H)
theorem am7:Rn1 25 aiB:=λ_ _ _ _ h=>
 rnG an0 Tryz.func25 (by kernel_rfl) (by kernel_rfl) h
def aa9(C:aA)(a0 a1 a2:AV)(H:ah):OA:=
 bnd (fM 24 a0 H) λv3 H=>
 bnd (lda 8 v3 H) λv10 H=> bnd (C 64 [v10,a1,a2] H) λv13 H=> bo (aF v13 0) λv14=> bo (aF v13 1) λv15=>
 bo (un .not v15) λv17=>
 aI v17
 (some ((.s (Go.Value.slice none 0 0)),H))
 (bnd (C 66 [v14] H) λv19 H=>
  some (v19,H))
theorem afs:Rn3 26 aa9:=λ_ _ _ _ _ _ h=>
 rnG an0 Tryz.func26 (by kernel_rfl) (by kernel_rfl) h
def afu(C:aA)(a0:AV)(H:ah):OA:=
 bnd (fM 24 a0 H) λv1 H=>
 fld v1 1 H λv4 H=> fld v1 2 H λv6 H=> bo (bi .mul 3 v4 v6) λv7=>
 some (v7,H)
theorem aiC:Rn1 27 afu:=λ_ _ _ _ h=>
 rnG an0 Tryz.func27 (by kernel_rfl) (by kernel_rfl) h
def aiD:Ann:=⟨[(3,[0,1,2,14,15,16])],[],[]⟩
def Eu:=jL Tryz.prog Tryz.f28 51 aiD 0
def aiE(C:aA)(a0 a1 a2:AV)(H:ah):OA:=
 bnd (C 52 [a0,a1] H) λv14 H=> bnd (lnS v14 H) λv15 H=>
 Eu C [a0,a1,a2,v14,v15,(I 0)] H
theorem XD(C:aA)(t0 t1 t2 t14 t15 t16:AV)(H:ah):Eu C [t0,t1,t2,t14,t15,t16] H=
 bo (bi .lss 3 t16 t15) λv17=>
 aI v17
 (bnd (ix 1 t14 t16 H) λv18 H=> bnd (ld v18 H) λv19 H=>
  bnd (C 55 [t0,v19,t1] H) λv24 H=> bo (aF v24 0) λv25=> bo (aF v24 1) λv26=> bnd (alc 117 [zI,zI,zI,zI,zB,zN] H) λv9 H=> bnd (st 6 v9 v25 H) λ_ H=>
  fld v9 5 H λv28 H=> bnd (C 59 [v28,t2] H) λv30 H=> bo (un .not v30) λv31=>
  aI v31
  (some ((B false),H))
  (bo (bi .add 3 t16 (I 1)) λv32=>
  Eu C [t0,t1,t2,t14,t15,v32] H))
 (bnd (C 63 [t0,t1] H) λv35 H=> bnd (alc 130 [zI,zI,zN] H) λv11 H=> bnd (st 3 v11 v35 H) λ_ H=>
  fld v11 0 H λv37 H=> bo (bi .eql 3 v37 (I 2)) λv38=> gl v38 false (some t0) H λv40 H=> gl v38 false (some t1) H λv41 H=> gdA (some v38) false (C 22 [v40,v41] H) H λv42 H=> gl v38 false (bi .neq 3 v42 (I (-1))) H λv43 H=> bo (bG v38 (B true) v43) λv44=> gl v44 false (ak v11 2) H λv46 H=> gdA (some v44) false (ld v46 H) H λv47 H=> gl v44 false (some t2) H λv48 H=> gdA (some v44) false (C 59 [v47,v48] H) H λv49 H=> bo (bG v44 (B true) v49) λv50=>
  some (v50,H)):=
 lpE.trans (by kernel_rfl)
theorem am8:Rn3 28 aiE:=λ_ _ _ _ _ _ h=>
 rnG aiD Tryz.func28 (by kernel_rfl) (by kernel_rfl) h
def aiF:Ann:=⟨[(6,[0,1,6,7])],[],[]⟩
def Je:=jL Tryz.prog Tryz.f29 42 aiF 0
def afv(C:aA)(a0 a1:AV)(H:ah):OA:=
 bnd (C 56 [a0,a1] H) λv12 H=> bo (un .not v12) λv13=>
 aI v13
 (some (.tup [(.s (Go.Value.slice none 0 0)),(B false)],H))
 (bnd (C 63 [a0,a1] H) λv16 H=> bo (fl v16 1) λv17=>
  Je C [a0,a1,(.s (Go.Value.slice none 0 0)),v17] H)
theorem Jf(C:aA)(t0 t1 t6 t7:AV)(H:ah):Je C [t0,t1,t6,t7] H=
 bo (bi .neq 3 t7 (I (-1))) λv19=>
 aI v19
 (bnd (C 55 [t0,t7,t1] H) λv24 H=> bo (aF v24 0) λv25=> bo (aF v24 1) λv26=> bnd (alc 117 [zI,zI,zI,zI,zB,zN] H) λv8 H=> bnd (st 6 v8 v25 H) λ_ H=>
  bo (un .not v26) λv28=> gl v28 false (some t6) H λv30 H=> gl v28 false (some t7) H λv31 H=> gdA (some v28) false (C 67 [v30,v31] H) H λv32 H=> bo (bG v28 (B true) v32) λv33=>
  aI v33
  (some (.tup [(.s (Go.Value.slice none 0 0)),(B false)],H))
  (bnd (bs 22 1 [(0,t7)] H) λv36 H=> bnd (app 3 1 8 t6 v36 H) λv37 H=>
  bo (ak v8 0) λv38=> fld v38 0 H λv40 H=>
  Je C [t0,t1,v37,v40] H))
 (some (.tup [t6,(B true)],H)):=
 lpE.trans (by kernel_rfl)
theorem aiG:Rn2 29 afv:=λ_ _ _ _ _ h=>
 rnG aiF Tryz.func29 (by kernel_rfl) (by kernel_rfl) h
def afw(C:aA)(a0 a1:AV)(H:ah):OA:=
 bo (bi .geq 3 a0 (I 1)) λv6=> gl v6 true (some a0) H λv8 H=> gl v6 true (some a1) H λv9 H=> gl v6 true (bi .leq 3 v8 v9) H λv10 H=> bo (bG v6 v10 (B false)) λv11=>
 some (v11,H)
theorem am9:Rn2 30 afw:=λ_ _ _ _ _ h=>
 rnG an0 Tryz.func30 (by kernel_rfl) (by kernel_rfl) h
def afx(C:aA)(a0 a1:AV)(H:ah):OA:=
 bnd (C 68 [a0,a1] H) λv7 H=> bo (bi .geq 3 v7 (I 0)) λv8=>
 some (v8,H)
theorem aiH:Rn2 31 afx:=λ_ _ _ _ _ h=>
 rnG an0 Tryz.func31 (by kernel_rfl) (by kernel_rfl) h
def XE(C:aA)(a0 a1:AV)(H:ah):OA:=
 bnd (lnS a0 H) λv5 H=> bo (bi .gtr 3 v5 (I 24)) λv6=> gl v6 false (some a0) H λv8 H=> gl v6 false (some (.fn (.func 34) [] [a1])) H λv9 H=> gdA (some v6) false (C 33 [v8,v9] H) H λv10 H=> bo (bG v6 (B true) v10) λv11=>
 some (v11,H)
theorem aiI:Rn2 32 XE:=λ_ _ _ _ _ h=>
 rnG an0 Tryz.func32 (by kernel_rfl) (by kernel_rfl) h
def afy(C:aA)(a0 a1:AV)(H:ah):OA:=
 bnd (C 69 [a0,a1] H) λv7 H=> bo (bi .geq 3 v7 (I 0)) λv8=>
 some (v8,H)
theorem aiJ:Rn2 33 afy:=λ_ _ _ _ _ h=>
 rnG an0 Tryz.func33 (by kernel_rfl) (by kernel_rfl) h
def afz(C:aA)(a0 a1:AV)(H:ah):OA:=
 bnd (fM 26 a0 H) λv2 H=>
 bnd (lda 8 a1 H) λv4 H=> bnd (lda 3 v2 H) λv5 H=> bnd (C 35 [v4,v5] H) λv6 H=> bo (un .not v6) λv7=>
 some (v7,H)
theorem aiK:Rn2 34 afz:=λ_ _ _ _ _ h=>
 rnG an0 Tryz.func34 (by kernel_rfl) (by kernel_rfl) h
def xH(C:aA)(a0 a1:AV)(H:ah):OA:=
 bnd (fM 24 a0 H) λv2 H=> bnd (fM 26 a1 H) λv3 H=>
 bnd (lda 8 v2 H) λv8 H=> fld v3 1 H λv10 H=> bnd (C 70 [v8,v10] H) λv11 H=> bo (aF v11 0) λv12=> bo (aF v11 1) λv13=>
 fld v3 0 H λv15 H=> bo (bi .geq 3 v15 (I 1)) λv16=> gl v16 true (ak v3 0) H λv18 H=> gdA (some v16) true (ld v18 H) H λv19 H=> gl v16 true (bi .leq 3 v19 (I 4)) H λv20 H=> bo (bG v16 v20 (B false)) λv21=> gl v21 true (some v12) H λv23 H=> gl v21 true (bi .neq 3 v23 (I (-1))) H λv24 H=> bo (bG v21 v24 (B false)) λv25=> gl v25 true (ak v3 2) H λv27 H=> gdA (some v25) true (ld v27 H) H λv28 H=> gl v25 true (bi .eql 3 v28 (I 0)) H λv29 H=> gl v25 true (some v29) H λv30 H=> gl v30 false (ak v3 0) H λv31 H=> gdA (some v30) false (ld v31 H) H λv32 H=> gl v30 false (bi .eql 3 v32 (I 2)) H λv33 H=> gl v25 true (bG v30 (B true) v33) H λv34 H=> gl v25 true (some v34) H λv35 H=> gl v35 false (ak v3 0) H λv36 H=> gdA (some v35) false (ld v36 H) H λv37 H=> gl v35 false (bi .eql 3 v37 (I 3)) H λv38 H=> gl v25 true (bG v35 (B true) v38) H λv39 H=> bo (bG v25 v39 (B false)) λv40=>
 some (v40,H)
theorem aiL:Rn2 35 xH:=λ_ _ _ _ _ h=>
 rnG an0 Tryz.func35 (by kernel_rfl) (by kernel_rfl) h
def aiM(C:aA)(a0:AV)(H:ah):OA:=
 bnd (fE (kL Tryz.prog true #[3,3] 3 [(I 0),a0]) H) λv4 H=> bo (bd 146 [(1,v4)]) λv5=> bnd (fM 146 v5 H) λv6 H=>
 some (v6,H)
theorem ana:Rn1 36 aiM:=λ_ _ _ _ h=>
 rnG an0 Tryz.func36 (by kernel_rfl) (by kernel_rfl) h
def aiN(C:aA)(a0:AV)(H:ah):OA:=
 bnd (fE (kL Tryz.prog true #[3,3] 3 [(I 0),a0]) H) λv4 H=> bo (bd 148 [(1,v4)]) λv5=> bnd (fM 148 v5 H) λv6 H=>
 some (v6,H)
theorem anb:Rn1 37 aiN:=λ_ _ _ _ h=>
 rnG an0 Tryz.func37 (by kernel_rfl) (by kernel_rfl) h
def aiO(C:aA)(a0 a1:AV)(H:ah):OA:=
 bnd (fE (kL Tryz.prog true #[3,3] 3 [(I 1),a0]) H) λv6 H=> bnd (fE (kL Tryz.prog true #[3,3] 3 [(I 1),a1]) H) λv8 H=> bo (bd 150 [(1,v6),(2,v8)]) λv9=> bnd (fM 150 v9 H) λv10 H=>
 some (v10,H)
theorem anc:Rn2 38 aiO:=λ_ _ _ _ _ h=>
 rnG an0 Tryz.func38 (by kernel_rfl) (by kernel_rfl) h
def aiP(C:aA)(a0:AV)(H:ah):OA:=
 bnd (C 71 [a0] H) λv4 H=> bo (bd 111 [(0,v4)]) λv5=> bnd (fM 111 v5 H) λv6 H=>
 some (v6,H)
theorem ane:Rn1 39 aiP:=λ_ _ _ _ h=>
 rnG an0 Tryz.func39 (by kernel_rfl) (by kernel_rfl) h
def anf:Ann:=⟨[],[(1,some false::some false::some true::some true::rF 5 [])],[]⟩
def aiQ(C:aA)(a0 a1:AV)(H:ah):OA:=
 bnd (fM 24 a0 H) λv2 H=>
 bnd (lda 8 v2 H) λv5 H=> bnd (unG H (C 72 [v5,a1] H.guard)) λv7 H=> bnd (unG H (C 73 [] H.guard)) λv8 H=> bnd (lda 8 v2 H) λv9 H=> bo (bd 157 [(0,v7),(1,v8),(2,v9),(3,a1)]) λv11=> bnd (fM 157 v11 H) λv12 H=>
 some (v12,H)
theorem ang:Rn2 40 aiQ:=λ_ _ _ _ _ h=>
 rnG anf Tryz.func40 (by kernel_rfl) (by kernel_rfl) h
def afA(C:aA)(a0 a1:AV)(H:ah):OA:=
 bnd (alc 99 [zI,zI,zI,zI,zI,zI,zI,zB,zN] H) λv4 H=>
 bnd (C 46 [a0,a1] H) λv12 H=> bo (aF v12 0) λv13=> bo (aF v12 1) λv14=> bo (aF v12 2) λv15=> bnd (alc 90 [zP,zP] H) λv6 H=> bnd (st 2 v6 v13 H) λ_ H=>
 bo (un .not v15) λv17=> gl v17 false (some a1) H λv19 H=> gl v17 false (bi .lss 3 v19 (I 0)) H λv20 H=> bo (bG v17 (B true) v20) λv21=>
 aI v21
 (bo (bd 99 []) λv22=> bnd (st 9 v4 v22 H) λ_ H=>
  bnd (lda 9 v4 H) λr0 _=> some (.tup [r0,(B false)],H))
 (fld v6 0 H λv24 H=> bnd (C 74 [v24,v14] H) λv26 H=> bo (aF v26 0) λv27=> bo (aF v26 1) λv28=> bnd (st 9 v4 v27 H) λ_ H=>
  bnd (lda 9 v4 H) λr0 _=> some (.tup [r0,v28],H))
theorem anh:Rn2 41 afA:=λ_ _ _ _ _ h=>
 rnG an0 Tryz.func41 (by kernel_rfl) (by kernel_rfl) h
def afB(C:aA)(a0 a1 a2:AV)(H:ah):OA:=
 bnd (fM 99 a0 H) λv3 H=> bnd (alc 99 [zI,zI,zI,zI,zI,zI,zI,zB,zN] H) λv6 H=>
 bnd (lda 9 v3 H) λv11 H=> bnd (C 75 [v11] H) λv12 H=> bo (aF v12 0) λv13=> bo (aF v12 1) λv14=>
 bo (bi .neq 29 v14 (I 0)) λv16=>
 aI v16
 (bo (bd 99 []) λv17=> bnd (st 9 v6 v17 H) λ_ H=>
  bnd (lda 9 v6 H) λr0 _=> some (.tup [r0,(I 2)],H))
 (bnd (C 77 [v13,a1,a2] H) λv21 H=> bnd (C 76 [v21] H) λv22 H=> bo (aF v22 0) λv23=> bo (aF v22 1) λv24=> bnd (st 9 v6 v23 H) λ_ H=>
  bnd (lda 9 v6 H) λr0 _=> some (.tup [r0,v24],H))
theorem aiR:Rn3 42 afB:=λ_ _ _ _ _ _ h=>
 rnG an0 Tryz.func42 (by kernel_rfl) (by kernel_rfl) h
def afC(C:aA)(a0 a1:AV)(H:ah):OA:=
 bnd (fM 92 a0 H) λv2 H=> bnd (alc 90 [zP,zP] H) λv4 H=>
 aI a1
 (bo (ak v2 0) λv6=> bnd (lda 2 v6 H) λv7 H=> bnd (st 2 v4 v7 H) λ_ H=>
  bnd (lda 2 v4 H) λr0 _=> some (r0,H))
 (bo (ak v2 2) λv8=> bnd (lda 2 v8 H) λv9 H=> bnd (st 2 v4 v9 H) λ_ H=>
  bnd (lda 2 v4 H) λr0 _=> some (r0,H))
theorem ani:Rn2 43 afC:=λ_ _ _ _ _ h=>
 rnG an0 Tryz.func43 (by kernel_rfl) (by kernel_rfl) h
def afD(C:aA)(a0:AV)(H:ah):OA:=
 bo (bi .geq 3 a0 (I 1)) λv4=> gl v4 true (some a0) H λv6 H=> gl v4 true (bi .leq 3 v6 (I 6)) H λv7 H=> bo (bG v4 v7 (B false)) λv8=>
 some (v8,H)
theorem anj:Rn1 44 afD:=λ_ _ _ _ h=>
 rnG an0 Tryz.func44 (by kernel_rfl) (by kernel_rfl) h
def ank:Ann:=⟨[],[(3,rF 6 (some true::rF 5 []))],[]⟩
def afE(C:aA)(a0 a1:AV)(H:ah):OA:=
 bnd (fM 99 a1 H) λv3 H=>
 bnd (C 78 [a0] H) λv6 H=> bo (bi .eql 3 v6 (I 0)) λv7=>
 aI v7
 (some ((I 5),H))
 (bo (au a0) λv10=> fld v10 0 H λv12 H=> bnd (lda 9 v3 H) λv13 H=> bnd (unG H (C 79 [v13] H.guard)) λv14 H=> bnd (bs 144 1 [(0,v14)] H) λv15 H=> bnd (app 99 9 88 v12 v15 H) λv16 H=> bo (au a0) λv17=> bo (ak v17 0) λv18=> bnd (st 1 v18 v16 H) λ_ H=>
  some ((I 0),H))
theorem aiS:Rn2 45 afE:=λ_ _ _ _ _ h=>
 rnG ank Tryz.func45 (by kernel_rfl) (by kernel_rfl) h
def aiT:Ann:=⟨[(3,[1,4,10,11,12])],[],[]⟩
def Jg:=jL Tryz.prog Tryz.f46 34 aiT 0
def UO(C:aA)(a0 a1:AV)(H:ah):OA:=
 bnd (alc 90 [zP,zP] H) λv4 H=>
 bnd (C 80 [a0] H) λv10 H=> bnd (lnS v10 H) λv11 H=>
 Jg C [a1,v4,v10,v11,(I 0)] H
theorem XF(C:aA)(t1 t4 t10 t11 t12:AV)(H:ah):Jg C [t1,t4,t10,t11,t12] H=
 bo (bi .lss 3 t12 t11) λv13=>
 aI v13
 (bnd (ix 2 t10 t12 H) λv14 H=> bnd (lda 2 v14 H) λv15 H=> bnd (alc 90 [zP,zP] H) λv8 H=> bnd (st 2 v8 v15 H) λ_ H=>
  bo (bi .geq 3 t1 (I 0)) λv17=> gl v17 true (some t1) H λv19 H=> gl v17 true (ak v8 0) H λv20 H=> gdA (some v17) true (ld v20 H) H λv21 H=> gdA (some v17) true (C 81 [v21] H) H λv22 H=> gl v17 true (bi .lss 3 v19 v22) H λv23 H=> bo (bG v17 v23 (B false)) λv24=>
  aI v24
  (bnd (lda 2 v8 H) λv25 H=> bnd (st 2 t4 v25 H) λ_ H=>
  bnd (lda 2 t4 H) λr0 _=> some (.tup [r0,t1,(B true)],H))
  (fld v8 0 H λv29 H=> bnd (C 81 [v29] H) λv30 H=> bo (bi .sub 3 t1 v30) λv31=>
  bo (bi .add 3 t12 (I 1)) λv32=>
  Jg C [v31,t4,t10,t11,v32] H))
 (bo (bd 90 []) λv33=> bnd (st 2 t4 v33 H) λ_ H=>
  bnd (lda 2 t4 H) λr0 _=> some (.tup [r0,(I 0),(B false)],H)):=
 lpE.trans (by kernel_rfl)
theorem anl:Rn2 46 UO:=λ_ _ _ _ _ h=>
 rnG aiT Tryz.func46 (by kernel_rfl) (by kernel_rfl) h
def P9(C:aA)(t4 t6 t7:AV)(H:ah):OA:=
 bnd (lda 9 t6 H) λv26 H=> bnd (st 9 t4 v26 H) λ_ H=>
 bnd (lda 9 t4 H) λr0 _=> some (.tup [r0,t7],H)
def aiU(C:aA)(a0 a1:AV)(H:ah):OA:=
 bnd (alc 99 [zI,zI,zI,zI,zI,zI,zI,zB,zN] H) λv4 H=>
 bnd (C 74 [a0,a1] H) λv11 H=> bo (aF v11 0) λv12=> bo (aF v11 1) λv13=> bnd (alc 99 [zI,zI,zI,zI,zI,zI,zI,zB,zN] H) λv6 H=> bnd (st 9 v6 v12 H) λ_ H=>
 aI v13
 (bo (au a0) λv17=> fld v17 0 H λv19 H=> bo (bi .add 3 a1 (I 1)) λv22=> bnd (C 82 [v19,a1,v22] H) λv23 H=> bo (au a0) λv24=> bo (ak v24 0) λv25=> bnd (st 1 v25 v23 H) λ_ H=>
  P9 C v4 v6 v13 H)
 (P9 C v4 v6 v13 H)
theorem anm:Rn2 47 aiU:=λ_ _ _ _ _ h=>
 rnG an0 Tryz.func47 (by kernel_rfl) (by kernel_rfl) h
def Ew(C:aA)(t0 t1:AV)(H:ah):OA:=
 bnd (C 88 [t0,t1] H) λv81 H=>
 some ((B true),H)
def Jh(C:aA)(a0 a1 a2:AV)(H:ah):OA:=
 bo (au a0) λv17=> fld v17 10 H λv19 H=> bnd (C 83 [a1,v19] H) λv20 H=> bo (aF v20 0) λv21=> bo (aF v20 1) λv22=> bnd (alc 99 [zI,zI,zI,zI,zI,zI,zI,zB,zN] H) λv7 H=> bnd (st 9 v7 v21 H) λ_ H=>
 bo (un .not v22) λv24=>
 aI v24
 (some ((B false),H))
 (bnd (lda 9 v7 H) λv27 H=> bnd (C 84 [a0,v27] H) λv28 H=> bo (aF v28 0) λv29=> bo (aF v28 1) λv30=> bnd (alc 62 [zI,zI,zI,zI,zI,zI,zN,zI,zI] H) λv9 H=> bnd (st 9 v9 v29 H) λ_ H=>
  bo (un .not v30) λv32=>
  aI v32
  (some ((B true),H))
  (bnd (lda 9 v9 H) λv34 H=> bo (au a0) λv35=> bo (ak v35 12) λv36=> bnd (st 9 v36 v34 H) λ_ H=>
  bo (au a0) λv39=> fld v39 1 H λv41 H=> bnd (C 85 [v41] H) λv42 H=> bo (aF v42 0) λv43=> bo (aF v42 1) λv44=> bo (aF v42 2) λv45=> bnd (alc 26 [zI,zI,zI] H) λv11 H=> bnd (st 3 v11 v43 H) λ_ H=>
  fld v9 3 H λv48 H=> bo (bi .eql 3 v48 (I 0)) λv49=> gl v49 true (ak v9 0) H λv51 H=> gdA (some v49) true (ld v51 H) H λv52 H=> gl v49 true (bi .eql 3 v52 (I 3)) H λv53 H=> bo (bG v49 v53 (B false)) λv54=> gl v54 true (ak v11 0) H λv56 H=> gdA (some v54) true (ld v56 H) H λv57 H=> gl v54 true (bi .eql 3 v57 (I 4)) H λv58 H=> bo (bG v54 v58 (B false)) λv59=>
  aI v59
  (bnd (C 86 [a0,a2,(I 0)] H) λv62 H=>
   some ((B true),H))
  (fld v9 3 H λv65 H=> bo (bi .eql 3 v65 (I 0)) λv66=>
   aI v66
   (some ((B true),H))
   (fld v9 3 H λv69 H=> bo (bi .eql 3 v69 (I 6)) λv70=> gl v70 true (ak v9 0) H λv72 H=> gdA (some v70) true (ld v72 H) H λv73 H=> gl v70 true (bi .neq 3 v73 (I 3)) H λv74 H=> bo (bG v70 v74 (B false)) λv75=>
   aI v75
   (bnd (C 87 [a0,a2] H) λv78 H=>
    Ew C a0 a1 H)
   (Ew C a0 a1 H)))))
theorem UQ:Rn3 48 Jh:=λ_ _ _ _ _ _ h=>
 rnG an0 Tryz.func48 (by kernel_rfl) (by kernel_rfl) h
def abb(C:aA)(a0 a1:AV)(H:ah):OA:=
 bo (au a0) λv8=> bo (ak v8 11) λv9=> fld v9 0 H λv11 H=> bnd (C 89 [v11] H) λv12 H=> bo (un .not v12) λv13=> gl v13 false (some a1) H λv15 H=> gl v13 false (some a0) H λv16 H=> gl v13 false (au v16) H λv17 H=> gl v13 false (ak v17 10) H λv18 H=> gdA (some v13) false (ld v18 H) H λv19 H=> gdA (some v13) false (C 90 [v15,v19,(B false)] H) H λv20 H=> gl v13 false (bi .eql 3 v20 (I 0)) H λv21 H=> bo (bG v13 (B true) v21) λv22=>
 aI v22
 (some ((B false),H))
 (bo (au a0) λv25=> bo (ak v25 11) λv26=> fld v26 0 H λv28 H=> bnd (C 91 [v28] H) λv29 H=> bo (aF v29 0) λv30=> bo (aF v29 1) λv31=> bnd (alc 99 [zI,zI,zI,zI,zI,zI,zI,zB,zN] H) λv5 H=> bnd (st 9 v5 v30 H) λ_ H=>
  bnd (lda 9 v5 H) λv33 H=> bnd (C 92 [a1,v33] H) λv34 H=>
  some ((B true),H))
theorem afF:Rn2 49 abb:=λ_ _ _ _ _ h=>
 rnG an0 Tryz.func49 (by kernel_rfl) (by kernel_rfl) h
def Ji(C:aA)(H:ah):OA:=
 some ((B true),H)
def XG(C:aA)(a0 a1:AV)(H:ah):OA:=
 bo (au a0) λv11=> fld v11 10 H λv13 H=> bnd (C 90 [a1,v13,(B false)] H) λv14 H=> bo (bi .eql 3 v14 (I 0)) λv15=>
 aI v15
 (some ((B false),H))
 (bo (au a0) λv19=> fld v19 10 H λv21 H=> bnd (C 93 [a1,v21] H) λv22 H=> bo (aF v22 0) λv23=> bo (aF v22 1) λv24=> bnd (alc 99 [zI,zI,zI,zI,zI,zI,zI,zB,zN] H) λv5 H=> bnd (st 9 v5 v23 H) λ_ H=>
  bo (un .not v24) λv26=>
  aI v26
  (some ((B false),H))
  (bnd (lda 9 v5 H) λv29 H=> bnd (C 94 [a0,v29] H) λv30 H=> bo (aF v30 0) λv31=> bo (aF v30 1) λv32=> bnd (alc 99 [zI,zI,zI,zI,zI,zI,zI,zB,zN] H) λv7 H=> bnd (st 9 v7 v31 H) λ_ H=>
  aI v32
  (bnd (lda 9 v7 H) λv35 H=> bnd (C 92 [a1,v35] H) λv36 H=>
   Ji C H)
  (Ji C H)))
theorem abd:Rn2 50 XG:=λ_ _ _ _ _ h=>
 rnG an0 Tryz.func50 (by kernel_rfl) (by kernel_rfl) h
def ano:Ann:=⟨[],[(7,rF 12 [])],[]⟩
def kS(C:aA)(H:ah):OA:=
 some ((B true),H)
def nP(C:aA)(t0 t1 t2 t7:AV)(H:ah):OA:=
 bo (au t0) λv55=> bo (ak v55 2) λv56=> bnd (lda 8 v56 H) λv57 H=> fld t7 1 H λv59 H=> bnd (C 70 [v57,v59] H) λv60 H=> bo (aF v60 0) λv61=> bo (aF v60 1) λv62=>
 bo (au t0) λv65=> fld v65 0 H λv67 H=> bnd (C 98 [v67,v61] H) λv69 H=> bo (aF v69 0) λv70=> bo (aF v69 1) λv71=> bnd (alc 117 [zI,zI,zI,zI,zB,zN] H) λv12 H=> bnd (st 6 v12 v70 H) λ_ H=>
 fld t7 0 H λv78 H=> bo (bi .eql 3 v78 (I 4)) λv79=> gl v79 true (some v71) H λv81 H=> gl v79 true (un .not v81) H λv82 H=> bo (bG v79 v82 (B false)) λv83=>
 aI v83
 (bnd (C 86 [t0,t2,(I 0)] H) λv86 H=>
  kS C H)
 (fld t7 0 H λv89 H=> bo (bi .eql 3 v89 (I 4)) λv90=>
  aI v90
  (bnd (C 99 [t0,t1,(I 3),v61] H) λv94 H=>
  kS C H)
  (gl v71 true (ak t7 0) H λv98 H=> gdA (some v71) true (ld v98 H) H λv99 H=> gl v71 true (bi .eql 3 v99 (I 1)) H λapq H=> gl v71 true (some apq) H λaiV H=> gl aiV false (ak v12 4) H λapr H=> gdA (some aiV) false (ld apr H) H λanp H=> gl v71 true (bG aiV (B true) anp) H λaps H=> bo (bG v71 aps (B false)) λv105=>
  aI v105
  (bo (au t0) λv107=> fld v107 0 H λv109 H=> bnd (C 100 [v109,v61] H) λap2 H=>
   bnd (C 87 [t0,t2] H) λap3 H=>
   kS C H)
  (bo (au t0) λv117=> fld v117 0 H λapt H=> bnd (C 101 [apt,v61] H) λapu H=>
   aI apu
   (bo (au t0) λv124=> fld v124 0 H λapv H=> bnd (C 102 [apv,v61] H) λao2 H=> bo (aF ao2 0) λapw=> bo (aF ao2 1) λv130=>
   bnd (C 99 [t0,t1,(I 3),apw] H) λap4 H=>
   kS C H)
   (fld t7 0 H λapx H=> bo (bi .eql 3 apx (I 1)) λv138=>
   aI v138
   (bnd (C 99 [t0,t1,(I 1),v61] H) λap5 H=>
    kS C H)
   (bnd (C 99 [t0,t1,(I 2),v61] H) λv75 H=>
    kS C H)))))
def XH(C:aA)(a0 a1 a2:AV)(H:ah):OA:=
 bo (au a0) λv18=> fld v18 1 H λv20 H=> bnd (C 85 [v20] H) λv21 H=> bo (aF v21 0) λv22=> bo (aF v21 1) λv23=> bo (aF v21 2) λv24=> bnd (alc 26 [zI,zI,zI] H) λv7 H=> bnd (st 3 v7 v22 H) λ_ H=>
 bo (un .not v24) λv26=> gl v26 false (some a0) H λv28 H=> gl v26 false (au v28) H λv29 H=> gl v26 false (ak v29 12) H λv30 H=> gl v26 false (ak v30 3) H λv31 H=> gdA (some v26) false (ld v31 H) H λv32 H=> gl v26 false (bi .neq 3 v32 (I 0)) H λv33 H=> bo (bG v26 (B true) v33) λv34=>
 aI v34
 (some ((B false),H))
 (bo (au a0) λv36=> fld v36 1 H λv38 H=> bnd (C 95 [v38] H) λv39 H=> bo (un .not v39) λv40=>
  aI v40
  (bo (au a0) λv42=> fld v42 1 H λv44 H=> bnd (C 96 [v44] H) λv45 H=>
  bo (au a0) λv48=> fld v48 10 H λv50 H=> bnd (C 97 [a2,v50,v23] H) λv52 H=>
  nP C a0 a1 a2 v7 H)
  (nP C a0 a1 a2 v7 H))
theorem abe:Rn3 51 XH:=λ_ _ _ _ _ _ h=>
 rnG ano Tryz.func51 (by kernel_rfl) (by kernel_rfl) h
def aiW:Ann:=⟨[(4,[0,1,5,11,12])],[],[]⟩
def Ey:=jL Tryz.prog Tryz.f52 38 aiW 0
def Ez(C:aA)(t0 t1 t5 t11 t12:AV)(H:ah):OA:=
 bo (bi .add 3 t12 (I 1)) λv36=>
 Ey C [t0,t1,t5,t11,v36] H
def aiX(C:aA)(a0 a1:AV)(H:ah):OA:=
 bnd (C 20 [a0] H) λv10 H=> bo (fl v10 0) λv11=>
 Ey C [a0,a1,(.s (Go.Value.slice none 0 0)),v11,(I 0)] H
theorem Qa(C:aA)(t0 t1 t5 t11 t12:AV)(H:ah):Ey C [t0,t1,t5,t11,t12] H=
 bo (bi .lss 3 t12 t11) λv13=>
 aI v13
 (bnd (C 17 [t0,t12] H) λv18 H=> bo (au v18) λv19=> fld v19 0 H λv21 H=> bnd (C 98 [v21,t1] H) λv23 H=> bo (aF v23 0) λv24=> bo (aF v23 1) λv25=> bnd (alc 117 [zI,zI,zI,zI,zB,zN] H) λv7 H=> bnd (st 6 v7 v24 H) λ_ H=>
  gl v25 true (some t0) H λv28 H=> gl v25 true (some t1) H λv29 H=> gdA (some v25) true (C 56 [v28,v29] H) H λv30 H=> bo (bG v25 v30 (B false)) λv31=>
  aI v31
  (bnd (bs 22 1 [(0,t12)] H) λv34 H=> bnd (app 3 1 8 t5 v34 H) λv35 H=>
  Ez C t0 t1 v35 t11 t12 H)
  (Ez C t0 t1 t5 t11 t12 H))
 (some (t5,H)):=
 lpE.trans (by kernel_rfl)
theorem anq:Rn2 52 aiX:=λ_ _ _ _ _ h=>
 rnG aiW Tryz.func52 (by kernel_rfl) (by kernel_rfl) h
def afG(C:aA)(a0 a1:AV)(H:ah):OA:=
 bnd (C 103 [a0,a1] H) λv7 H=> bo (bi .geq 3 v7 (I 0)) λv8=>
 some (v8,H)
theorem anr:Rn2 53 afG:=λ_ _ _ _ _ h=>
 rnG an0 Tryz.func53 (by kernel_rfl) (by kernel_rfl) h
def aiY(C:aA)(a0 a1 a2:AV)(H:ah):OA:=
 bnd (ld a1 H) λv8 H=> bnd (ld a2 H) λv10 H=> bnd (C 55 [v8,a0,v10] H) λv11 H=> bo (aF v11 0) λv12=> bo (aF v11 1) λv13=> bnd (alc 117 [zI,zI,zI,zI,zB,zN] H) λv5 H=> bnd (st 6 v5 v12 H) λ_ H=>
 fld v5 4 H λv15 H=>
 some (v15,H)
theorem ant:Rn3 54 aiY:=λ_ _ _ _ _ _ h=>
 rnG an0 Tryz.func54 (by kernel_rfl) (by kernel_rfl) h
def afH(C:aA)(a0 a1 a2:AV)(H:ah):OA:=
 bnd (alc 117 [zI,zI,zI,zI,zB,zN] H) λv6 H=>
 bnd (C 17 [a0,a1] H) λv11 H=>
 bo (bi .eql 51 v11 (.s (Go.Value.pointer none))) λv13=>
 aI v13
 (bo (bd 117 []) λv14=> bnd (st 6 v6 v14 H) λ_ H=>
  bnd (lda 6 v6 H) λr0 _=> some (.tup [r0,(B false)],H))
 (bo (au v11) λv16=> fld v16 0 H λv18 H=> bnd (C 98 [v18,a2] H) λv20 H=> bo (aF v20 0) λv21=> bo (aF v20 1) λv22=> bnd (st 6 v6 v21 H) λ_ H=>
  bnd (lda 6 v6 H) λr0 _=> some (.tup [r0,v22],H))
theorem anu:Rn3 55 afH:=λ_ _ _ _ _ _ h=>
 rnG an0 Tryz.func55 (by kernel_rfl) (by kernel_rfl) h
def afI(C:aA)(a0 a1:AV)(H:ah):OA:=
 bo (bi .geq 3 a1 (I 0)) λv6=> gl v6 true (some a1) H λv8 H=> gl v6 true (some a0) H λv9 H=> gdA (some v6) true (C 20 [v9] H) H λv10 H=> gl v6 true (fl v10 1) H λv11 H=> gl v6 true (bi .lss 3 v8 v11) H λv12 H=> bo (bG v6 v12 (B false)) λv13=>
 some (v13,H)
theorem anv:Rn2 56 afI:=λ_ _ _ _ _ h=>
 rnG an0 Tryz.func56 (by kernel_rfl) (by kernel_rfl) h
def aiZ(C:aA)(a0 a1:AV)(H:ah):OA:=
 bnd (fM 24 a0 H) λv2 H=>
 fld v2 0 H λv7 H=> bnd (C 104 [a1,v7] H) λv8 H=>
 some (v8,H)
theorem anw:Rn2 57 aiZ:=λ_ _ _ _ _ h=>
 rnG an0 Tryz.func57 (by kernel_rfl) (by kernel_rfl) h
def ai0(C:aA)(a0 a1:AV)(H:ah):OA:=
 bo (au a0) λv6=> bo (ak v6 11) λv7=> fld v7 0 H λv9 H=> bo (au v9) λv10=> fld v10 1 H λv12 H=> bnd (C 105 [v12,a1] H) λv14 H=>
 some (v14,H)
theorem anx:Rn2 58 ai0:=λ_ _ _ _ _ h=>
 rnG an0 Tryz.func58 (by kernel_rfl) (by kernel_rfl) h
def ai1:Ann:=⟨[(5,[0,1,12,13])],[(6,rF 9 [])],[]⟩
def EC:=jL Tryz.prog Tryz.f59 26 ai1 0
def afJ(C:aA)(a0 a1:AV)(H:ah):OA:=
 bnd (lnS a0 H) λv7 H=> bnd (lnS a1 H) λv9 H=> bo (bi .neq 3 v7 v9) λv10=>
 aI v10
 (some ((B false),H))
 (bnd (lnS a0 H) λv12 H=>
  EC C [a0,a1,v12,(I 0)] H)
theorem Qb(C:aA)(t0 t1 t12 t13:AV)(H:ah):EC C [t0,t1,t12,t13] H=
 bo (bi .lss 3 t13 t12) λv14=>
 aI v14
 (bnd (ix 1 t0 t13 H) λv18 H=> bnd (ld v18 H) λv19 H=> bnd (ix 1 t1 t13 H) λv22 H=> bnd (ld v22 H) λv23 H=> bo (bi .neq 3 v19 v23) λv24=>
  aI v24
  (some ((B false),H))
  (bo (bi .add 3 t13 (I 1)) λv25=>
  EC C [t0,t1,t12,v25] H))
 (some ((B true),H)):=
 lpE.trans (by kernel_rfl)
theorem anz:Rn2 59 afJ:=λ_ _ _ _ _ h=>
 rnG ai1 Tryz.func59 (by kernel_rfl) (by kernel_rfl) h
def afK(C:aA)(a0:AV)(H:ah):OA:=
 bnd (fM 22 a0 H) λv1 H=>
 some ((.fn (.func 108) [] [v1]),H)
theorem ai2:Rn1 61 afK:=λ_ _ _ _ h=>
 rnG an0 Tryz.func61 (by kernel_rfl) (by kernel_rfl) h
def Qc(C:aA)(a0 a1:AV)(H:ah):OA:=
 bnd (fM 130 a0 H) λv2 H=>
 fld v2 0 H λv6 H=>
 bo (bi .eql 3 v6 (I 0)) λv8=>
 aI v8
 (bnd (lnS a1 H) λv10 H=> bo (bi .eql 3 v10 (I 0)) λv11=>
  some (v11,H))
 (bo (bi .eql 3 v6 (I 1)) λv13=>
  aI v13
  (bnd (lnS a1 H) λv15 H=> bo (bi .gtr 3 v15 (I 0)) λv16=> gl v16 true (some a1) H λv18 H=> gl v16 true (some (.fn (.func 110) [] [v2])) H λv19 H=> gdA (some v16) true (C 109 [v18,v19] H) H λv20 H=> gl v16 true (un .not v20) H λv21 H=> bo (bG v16 v21 (B false)) λv22=>
  some (v22,H))
  (bnd (lnS a1 H) λv24 H=> bo (bi .eql 3 v24 (I 1)) λv25=> gl v25 true (some a1) H λv27 H=> gdA (some v25) true (ix 6 v27 (I 0) H) H λv28 H=> gl v25 true (ak v28 4) H λv29 H=> gdA (some v25) true (ld v29 H) H λv30 H=> bo (bG v25 v30 (B false)) λv31=>
  some (v31,H)))
theorem anA:Rn2 62 Qc:=λ_ _ _ _ _ h=>
 rnG an0 Tryz.func62 (by kernel_rfl) (by kernel_rfl) h
def ai3(C:aA)(a0 a1:AV)(H:ah):OA:=
 bnd (alc 130 [zI,zI,zN] H) λv4 H=>
 bnd (C 20 [a0] H) λv10 H=> bnd (C 57 [v10,a1] H) λv12 H=> bnd (C 17 [a0,v12] H) λv13 H=> bnd (C 111 [v13,a1] H) λv15 H=> bo (aF v15 0) λv16=> bo (aF v15 1) λv17=> bnd (alc 130 [zI,zI,zN] H) λv5 H=> bnd (st 3 v5 v16 H) λ_ H=>
 bnd (lda 3 v5 H) λv18 H=> bnd (st 3 v4 v18 H) λ_ H=>
 bnd (lda 3 v4 H) λr0 _=> some (r0,H)
theorem anB:Rn2 63 ai3:=λ_ _ _ _ _ h=>
 rnG an0 Tryz.func63 (by kernel_rfl) (by kernel_rfl) h
def ai4:Ann:=⟨[(6,[1,8,26,27,28])],[(7,rF 9 []),(10,rF 16 [])],[]⟩
def nR:=jL Tryz.prog Tryz.f64 68 ai4 0
def Jj(C:aA)(t1 t8 t26 t27 t28:AV)(H:ah):OA:=
 bo (bi .add 3 t28 (I 1)) λv66=>
 nR C [t1,t8,t26,t27,v66] H
def UR(C:aA)(a0 a1 a2:AV)(H:ah):OA:=
 bnd (fM 24 a0 H) λv3 H=>
 bnd (lda 8 v3 H) λv13 H=> bnd (C 11 [v13,a1] H) λv15 H=> bo (bi .neq 29 v15 (I 0)) λv16=> gl v16 false (ak v3 0) H λv18 H=> gdA (some v16) false (ld v18 H) H λv19 H=> gl v16 false (some a2) H λv20 H=> gdA (some v16) false (C 112 [v19,v20] H) H λv21 H=> gl v16 false (un .not v21) H λv22 H=> bo (bG v16 (B true) v22) λv23=>
 aI v23
 (some (.tup [(.s (Go.Value.pointer none)),(B false)],H))
 (bnd (lda 8 v3 H) λv24 H=> bnd (C 113 [v24] H) λv25 H=>
  bnd (lnS a2 H) λv27 H=>
  nR C [a1,v25,a2,v27,(I 0)] H)
theorem zY(C:aA)(t1 t8 t26 t27 t28:AV)(H:ah):nR C [t1,t8,t26,t27,t28] H=
 bo (bi .lss 3 t28 t27) λv29=>
 aI v29
 (bnd (ix 4 t26 t28 H) λv30 H=> bnd (lda 4 v30 H) λv31 H=> bnd (alc 137 [zI,zI,zB,zI] H) λv10 H=> bnd (st 4 v10 v31 H) λ_ H=>
  fld v10 1 H λv33 H=> fld v10 0 H λv36 H=> bnd (ix 1 t1 v36 H) λv37 H=> bnd (ld v37 H) λv38 H=> bnd (lnS v38 H) λv39 H=> bo (bi .geq 3 v33 v39) λv40=>
  aI v40
  (some (.tup [(.s (Go.Value.pointer none)),(B false)],H))
  (fld v10 2 H λv42 H=> bo (un .not v42) λv43=>
  aI v43
  (Jj C t1 t8 t26 t27 t28 H)
  (fld v10 0 H λv48 H=> bnd (ix 1 t1 v48 H) λv49 H=> bnd (ld v49 H) λv50 H=> fld v10 1 H λv52 H=> bnd (ix 3 v50 v52 H) λv53 H=> bnd (lda 3 v53 H) λv54 H=> bnd (C 114 [t8,v54] H) λv55 H=> bo (aF v55 0) λv56=> bo (aF v55 1) λv57=>
   bo (bi .neq 29 v57 (I 0)) λv59=> gl v59 false (some v56) H λv61 H=> gl v59 false (ak v10 3) H λv62 H=> gdA (some v59) false (ld v62 H) H λv63 H=> gl v59 false (bi .neq 3 v61 v63) H λv64 H=> bo (bG v59 (B true) v64) λv65=>
   aI v65
   (some (.tup [(.s (Go.Value.pointer none)),(B false)],H))
   (Jj C t1 t8 t26 t27 t28 H))))
 (some (.tup [t8,(B true)],H)):=
 lpE.trans (by kernel_rfl)
theorem XI:Rn3 64 UR:=λ_ _ _ _ _ _ h=>
 rnG ai4 Tryz.func64 (by kernel_rfl) (by kernel_rfl) h
def abf(C:aA)(a0:AV)(H:ah):OA:=
 bo (bi .eql 69 a0 (.s (Go.Value.slice none 0 0))) λv4=>
 aI v4
 (some ((.s (Go.Value.slice none 0 0)),H))
 (bnd (bs 69 0 [] H) λv5 H=> bnd (app 137 4 32 v5 a0 H) λv7 H=>
  some (v7,H))
theorem afL:Rn1 65 abf:=λ_ _ _ _ h=>
 rnG an0 Tryz.func65 (by kernel_rfl) (by kernel_rfl) h
def afM(C:aA)(a0:AV)(H:ah):OA:=
 bo (au a0) λv4=> fld v4 8 H λv6 H=> bnd (C 12 [v6] H) λv7 H=>
 some (v7,H)
theorem ai5:Rn1 66 afM:=λ_ _ _ _ h=>
 rnG an0 Tryz.func66 (by kernel_rfl) (by kernel_rfl) h
def afN(C:aA)(a0 a1:AV)(H:ah):OA:=
 bnd (C 115 [a0,a1] H) λv7 H=> bo (bi .geq 3 v7 (I 0)) λv8=>
 some (v8,H)
theorem anC:Rn2 67 afN:=λ_ _ _ _ _ h=>
 rnG an0 Tryz.func67 (by kernel_rfl) (by kernel_rfl) h
def ai6:Ann:=⟨[(3,[0,1,7,8])],[],[]⟩
def Jk:=jL Tryz.prog Tryz.f68 19 ai6 0
def ai7(C:aA)(a0 a1:AV)(H:ah):OA:=
 bnd (lnS a0 H) λv7 H=>
 Jk C [a0,a1,v7,(I 0)] H
theorem XJ(C:aA)(t0 t1 t7 t8:AV)(H:ah):Jk C [t0,t1,t7,t8] H=
 bo (bi .lss 3 t8 t7) λv9=>
 aI v9
 (bnd (ix 1 t0 t8 H) λv14 H=> bnd (ld v14 H) λv15 H=> bnd (oH Tryz.prog C t1 [v15] H) λv16 H=>
  aI v16
  (some (t8,H))
  (bo (bi .add 3 t8 (I 1)) λv18=>
  Jk C [t0,t1,t7,v18] H))
 (some ((I (-1)),H)):=
 lpE.trans (by kernel_rfl)
theorem anD:Rn2 68 ai7:=λ_ _ _ _ _ h=>
 rnG ai6 Tryz.func68 (by kernel_rfl) (by kernel_rfl) h
def ai8:Ann:=⟨[(3,[0,1,7,8])],[],[]⟩
def Jl:=jL Tryz.prog Tryz.f69 19 ai8 0
def ai9(C:aA)(a0 a1:AV)(H:ah):OA:=
 bnd (lnS a0 H) λv7 H=>
 Jl C [a0,a1,v7,(I 0)] H
theorem XK(C:aA)(t0 t1 t7 t8:AV)(H:ah):Jl C [t0,t1,t7,t8] H=
 bo (bi .lss 3 t8 t7) λv9=>
 aI v9
 (bnd (ix 3 t0 t8 H) λv14 H=> bnd (lda 3 v14 H) λv15 H=> bnd (oH Tryz.prog C t1 [v15] H) λv16 H=>
  aI v16
  (some (t8,H))
  (bo (bi .add 3 t8 (I 1)) λv18=>
  Jl C [t0,t1,t7,v18] H))
 (some ((I (-1)),H)):=
 lpE.trans (by kernel_rfl)
theorem anE:Rn2 69 ai9:=λ_ _ _ _ _ h=>
 rnG ai8 Tryz.func69 (by kernel_rfl) (by kernel_rfl) h
def anF:Ann:=⟨[],[(3,rF 10 [])],[]⟩
def Qd(C:aA)(a0 a1:AV)(H:ah):OA:=
 bnd (fM 24 a0 H) λv2 H=>
 bo (bi .lss 3 a1 (I 0)) λv7=> gl v7 false (some a1) H λv9 H=> gdA (some v7) false (lda 8 v2 H) H λv10 H=> gdA (some v7) false (C 27 [v10] H) H λv11 H=> gl v7 false (bi .geq 3 v9 v11) H λv12 H=> bo (bG v7 (B true) v12) λv13=>
 aI v13
 (some (.tup [(I (-1)),(I 0)],H))
 (fld v2 2 H λv16 H=> bo (bi .quo 3 a1 v16) λv17=> fld v2 2 H λv20 H=> bo (bi .rem 3 a1 v20) λv21=>
  some (.tup [v17,v21],H))
theorem aja:Rn2 70 Qd:=λ_ _ _ _ _ h=>
 rnG anF Tryz.func70 (by kernel_rfl) (by kernel_rfl) h
def afO(C:aA)(a0:AV)(H:ah):OA:=
 bo (bi .eql 27 a0 (.s (Go.Value.slice none 0 0))) λv4=>
 aI v4
 (some ((.s (Go.Value.slice none 0 0)),H))
 (bnd (bs 27 0 [] H) λv5 H=> bnd (app 26 3 24 v5 a0 H) λv7 H=>
  some (v7,H))
theorem ajb:Rn1 71 afO:=λ_ _ _ _ h=>
 rnG an0 Tryz.func71 (by kernel_rfl) (by kernel_rfl) h
def ajc:Ann:=⟨[(4,[1,2,5,12,13])],[(6,rF 7 (some true::some false::some false::[]))],[]⟩
def Jm:=jL Tryz.prog Tryz.f72 32 ajc 0
def Jo(C:aA)(t1 t2 t5 t12 t13:AV)(H:ah):OA:=
 bo (bi .add 3 t13 (I 1)) λv30=>
 Jm C [t1,t2,t5,t12,v30] H
def ajd(C:aA)(a0 a1:AV)(H:ah):OA:=
 bnd (fM 24 a0 H) λv2 H=>
 bnd (lda 8 v2 H) λv7 H=> bnd (mkm .i64 H) λv8 H=> bo (bd 199 [(0,v7),(1,v8)]) λv9=> bnd (fM 199 v9 H) λv10 H=>
 fld v2 1 H λv12 H=>
 Jm C [a1,v2,v10,v12,(I 0)] H
theorem XL(C:aA)(t1 t2 t5 t12 t13:AV)(H:ah):Jm C [t1,t2,t5,t12,t13] H=
 bo (bi .lss 3 t13 t12) λv14=>
 aI v14
 (bnd (lda 8 t2 H) λv16 H=> bnd (C 57 [v16,t13] H) λv18 H=> bo (bi .eql 3 v18 t1) λv20=>
  aI v20
  (bo (au t5) λv22=> fld v22 8 H λv24 H=> bnd (lda 8 t2 H) λv26 H=> bnd (unG H (C 116 [v26,t13] H.guard)) λv28 H=> bo (bd 130 [(0,(I 0)),(1,(I (-1))),(2,v28)]) λv29=> bnd (mup .i64 v24 t13 v29 H) λ_ H=>
  Jo C t1 t2 t5 t12 t13 H)
  (Jo C t1 t2 t5 t12 t13 H))
 (some (t5,H)):=
 lpE.trans (by kernel_rfl)
theorem anG:Rn2 72 ajd:=λ_ _ _ _ _ h=>
 rnG ajc Tryz.func72 (by kernel_rfl) (by kernel_rfl) h
def aje(C:aA)(H:ah):OA:=
 bnd (mkm .i64 H) λv1 H=> bnd (mkm .i64 H) λv2 H=> bo (bd 204 [(0,v1),(1,v2)]) λv3=> bnd (fM 204 v3 H) λv4 H=>
 some (v4,H)
theorem anH:Rn0 73 aje:=λ_ _ _ h=>
 rnG an0 Tryz.func73 (by kernel_rfl) (by kernel_rfl) h
def abg(C:aA)(a0 a1:AV)(H:ah):OA:=
 bnd (alc 99 [zI,zI,zI,zI,zI,zI,zI,zB,zN] H) λv4 H=>
 bo (bi .lss 3 a1 (I 0)) λv7=> gl v7 false (some a1) H λv9 H=> gl v7 false (some a0) H λv10 H=> gl v7 false (au v10) H λv11 H=> gl v7 false (ak v11 0) H λv12 H=> gdA (some v7) false (ld v12 H) H λv13 H=> gdA (some v7) false (lnS v13 H) H λv14 H=> gl v7 false (bi .geq 3 v9 v14) H λv15 H=> bo (bG v7 (B true) v15) λv16=>
 aI v16
 (bo (bd 99 []) λv17=> bnd (st 9 v4 v17 H) λ_ H=>
  bnd (lda 9 v4 H) λr0 _=> some (.tup [r0,(B false)],H))
 (bo (au a0) λv19=> fld v19 0 H λv21 H=> bnd (ix 9 v21 a1 H) λv23 H=> bnd (lda 9 v23 H) λv24 H=> bnd (C 117 [v24] H) λv25 H=> bnd (st 9 v4 v25 H) λ_ H=>
  bnd (lda 9 v4 H) λr0 _=> some (.tup [r0,(B true)],H))
theorem anI:Rn2 74 abg:=λ_ _ _ _ _ h=>
 rnG an0 Tryz.func74 (by kernel_rfl) (by kernel_rfl) h
def ajf:Ann:=⟨[(7,[5,48,49,50])],[(4,rF 28 (some true::rF 6 []))],[]⟩
def Jp:=jL Tryz.prog Tryz.f75 61 ajf 0
def ajg(C:aA)(a0:AV)(H:ah):OA:=
 bnd (fM 99 a0 H) λv1 H=>
 bnd (lda 9 v1 H) λv8 H=> bnd (C 118 [v8] H) λv9 H=>
 bo (bi .neq 29 v9 (I 0)) λv11=>
 aI v11
 (some (.tup [(.s (Go.Value.slice none 0 0)),v9],H))
 (fld v1 0 H λv14 H=> bnd (cv 3 5 v14 H) λv15 H=> fld v1 1 H λv17 H=> bnd (cv 3 5 v17 H) λv18 H=> fld v1 2 H λv20 H=> bnd (cv 3 5 v20 H) λv21 H=> fld v1 3 H λv23 H=> bo (bi .shr 3 v23 (.s (Go.Value.int Go.IntKind.u64 8))) λv24=> bnd (cv 3 5 v24 H) λv25 H=> fld v1 3 H λv27 H=> bnd (cv 3 5 v27 H) λv28 H=> fld v1 4 H λv30 H=> bnd (cv 3 5 v30 H) λv31 H=> fld v1 5 H λv33 H=> bo (bi .add 3 v33 (I 1)) λv34=> bnd (cv 3 5 v34 H) λv35 H=> fld v1 6 H λv37 H=> bnd (cv 3 5 v37 H) λv38 H=> fld v1 7 H λv40 H=> bnd (unG H (C 119 [v40] H.guard)) λv41 H=> fld v1 8 H λv43 H=> bnd (lnS v43 H) λv44 H=> bnd (cv 3 5 v44 H) λv45 H=> bnd (bs 158 10 [(0,v15),(1,v18),(2,v21),(3,v25),(4,v28),(5,v31),(6,v35),(7,v38),(8,v41),(9,v45)] H) λv46 H=>
  fld v1 8 H λv48 H=> bnd (lnS v48 H) λv49 H=>
  Jp C [v46,v48,v49,(I 0)] H)
theorem XM(C:aA)(t5 t48 t49 t50:AV)(H:ah):Jp C [t5,t48,t49,t50] H=
 bo (bi .lss 3 t50 t49) λv51=>
 aI v51
 (bnd (ix 1 t48 t50 H) λv52 H=> bnd (ld v52 H) λv53 H=>
  bnd (C 120 [v53] H) λv56 H=> bnd (app 5 1 1 t5 v56 H) λv57 H=>
  bo (bi .add 3 t50 (I 1)) λv58=>
  Jp C [v57,t48,t49,v58] H)
 (bnd (C 121 [t5] H) λv60 H=>
  some (.tup [v60,(I 0)],H)):=
 lpE.trans (by kernel_rfl)
theorem anJ:Rn1 75 ajg:=λ_ _ _ _ h=>
 rnG ajf Tryz.func75 (by kernel_rfl) (by kernel_rfl) h
def anK:Ann:=⟨[],[(4,rF 40 (none::some false::[]))],[]⟩
def afP:Code:=Tryz.f76.body.getD .skip
def ajh(C:aA)(a0:AV)(H:ah):OA:=
 bnd (alc 99 [zI,zI,zI,zI,zI,zI,zI,zB,zN] H) λv2 H=>
 bnd (C 122 [a0] H) λv12 H=> bo (aF v12 0) λv13=> bo (aF v12 1) λv14=>
 bo (un .not v14) λv16=> gl v16 false (some v13) H λv18 H=> gdA (some v16) false (lnS v18 H) H λv19 H=> gl v16 false (bi .lss 3 v19 (I 10)) H λv20 H=> bo (bG v16 (B true) v20) λv21=> gl v21 false (some v13) H λv23 H=> gdA (some v21) false (lnS v23 H) H λv24 H=> gl v21 false (some v13) H λv25 H=> gdA (some v21) false (ix 1 v25 (I 9) H) H λv26 H=> gdA (some v21) false (ld v26 H) H λv27 H=> gdA (some v21) false (cv 5 3 v27 H) H λv28 H=> gl v21 false (bi .mul 3 (I 8) v28) H λv29 H=> gl v21 false (bi .add 3 (I 10) v29) H λv30 H=> gl v21 false (bi .neq 3 v24 v30) H λv31 H=> bo (bG v21 (B true) v31) λv32=>
 aI v32
 (bo (bd 99 []) λv33=> bnd (st 9 v2 v33 H) λ_ H=>
  bnd (lda 9 v2 H) λr0 _=> some (.tup [r0,(I 2)],H))
 (bnd (alc 99 [zI,zI,zI,zI,zI,zI,zI,zB,zN] H) λv6 H=> bnd (ix 1 v13 (I 0) H) λv35 H=> bnd (ld v35 H) λv36 H=> bnd (cv 5 3 v36 H) λv37 H=> bnd (ix 1 v13 (I 1) H) λv39 H=> bnd (ld v39 H) λv40 H=> bnd (cv 5 3 v40 H) λv41 H=> bnd (ix 1 v13 (I 2) H) λv43 H=> bnd (ld v43 H) λv44 H=> bnd (cv 5 3 v44 H) λv45 H=> bnd (ix 1 v13 (I 3) H) λv47 H=> bnd (ld v47 H) λv48 H=> bnd (cv 5 3 v48 H) λv49 H=> bo (bi .shl 3 v49 (.s (Go.Value.int Go.IntKind.u64 8))) λv50=> bnd (ix 1 v13 (I 4) H) λv52 H=> bnd (ld v52 H) λv53 H=> bnd (cv 5 3 v53 H) λv54 H=> bo (bi .or 3 v50 v54) λv55=> bnd (ix 1 v13 (I 5) H) λv57 H=> bnd (ld v57 H) λv58 H=> bnd (cv 5 3 v58 H) λv59 H=> bnd (ix 1 v13 (I 6) H) λv61 H=> bnd (ld v61 H) λv62 H=> bnd (cv 5 3 v62 H) λv63 H=> bo (bi .sub 3 v63 (I 1)) λv64=> bnd (ix 1 v13 (I 7) H) λv66 H=> bnd (ld v66 H) λv67 H=> bnd (cv 5 3 v67 H) λv68 H=> bnd (ix 1 v13 (I 8) H) λv70 H=> bnd (ld v70 H) λv71 H=> bo (bi .eql 5 v71 (.s (Go.Value.int Go.IntKind.u8 1))) λv72=> bo (bd 99 [(0,v37),(1,v41),(2,v45),(3,v55),(4,v59),(5,v64),(6,v68),(7,v72)]) λv73=> bnd (st 9 v6 v73 H) λ_ H=>
  bo (slS 1 v13 (some (I 10)) none none) λv75=> bnd (C 123 [v75,(I 8)] H) λv76 H=>
  none)
theorem anL:Rn1 76 ajh:=λ_ _ _ _ h=>
 rnG anK Tryz.func76 (by kernel_rfl) (by kernel_rfl) h
def aji:Ann:=⟨[(4,[1,2,7,13,14])],[(7,rF 17 [])],[]⟩
def Jq:=jL Tryz.prog Tryz.f77 45 aji 0
def zZ(C:aA)(t1 t2 t7 t13 t14:AV)(H:ah):OA:=
 bo (bi .add 3 t14 (I 1)) λv43=>
 Jq C [t1,t2,t7,t13,v43] H
def ajj(C:aA)(a0 a1 a2:AV)(H:ah):OA:=
 bnd (C 126 [a0] H) λv11 H=>
 bnd (lnS v11 H) λv13 H=>
 Jq C [a1,a2,v11,v13,(I 0)] H
theorem XO(C:aA)(t1 t2 t7 t13 t14:AV)(H:ah):Jq C [t1,t2,t7,t13,t14] H=
 bo (bi .lss 3 t14 t13) λv15=>
 aI v15
 (bo (bi .mul 3 (I 8) t14) λv18=> bo (bi .sub 3 v18 t1) λv20=>
  bo (bi .leq 3 v20 (I (-8))) λv22=> gl v22 false (some v20) H λv24 H=> gl v22 false (bi .geq 3 v24 (I 16)) H λv25 H=> bo (bG v22 (B true) v25) λv26=>
  aI v26
  (zZ C t1 t2 t7 t13 t14 H)
  (bnd (ix 1 t7 t14 H) λv31 H=> bnd (ld v31 H) λv32 H=> bnd (cv 33 216 t2 H) λv34 H=> bo (bi .shl 216 v34 (.s (Go.Value.int Go.IntKind.u64 8))) λv35=> bo (bi .add 3 v20 (I 8)) λv37=> bo (bi .shl 216 v35 v37) λv38=> bo (bi .shr 216 v38 (.s (Go.Value.int Go.IntKind.u64 24))) λv39=> bnd (cv 216 5 v39 H) λv40 H=> bo (bi .xor 5 v32 v40) λv41=> bnd (ix 1 t7 t14 H) λv42 H=> bnd (st 1 v42 v41 H) λ_ H=>
  zZ C t1 t2 t7 t13 t14 H))
 (some (t7,H)):=
 lpE.trans (by kernel_rfl)
theorem anM:Rn3 77 ajj:=λ_ _ _ _ _ _ h=>
 rnG aji Tryz.func77 (by kernel_rfl) (by kernel_rfl) h
def anN:Ann:=⟨[],[(1,rF 11 [])],[]⟩
def ajk(C:aA)(a0:AV)(H:ah):OA:=
 bo (au a0) λv4=> fld v4 1 H λv6 H=> bo (au a0) λv8=> fld v8 0 H λv10 H=> bnd (lnS v10 H) λv11 H=> bo (bi .sub 3 v6 v11) λv12=>
 some (v12,H)
theorem anO:Rn1 78 ajk:=λ_ _ _ _ h=>
 rnG anN Tryz.func78 (by kernel_rfl) (by kernel_rfl) h
def ajl(C:aA)(a0:AV)(H:ah):OA:=
 bnd (fM 99 a0 H) λv1 H=> bnd (alc 99 [zI,zI,zI,zI,zI,zI,zI,zB,zN] H) λv2 H=>
 fld v1 8 H λv4 H=> bnd (C 12 [v4] H) λv5 H=> bo (ak v1 8) λv6=> bnd (st 1 v6 v5 H) λ_ H=>
 bnd (lda 9 v1 H) λv7 H=> bnd (st 9 v2 v7 H) λ_ H=>
 bnd (lda 9 v2 H) λr0 _=> some (r0,H)
theorem anP:Rn1 79 ajl:=λ_ _ _ _ h=>
 rnG an0 Tryz.func79 (by kernel_rfl) (by kernel_rfl) h
def ajm:Ann:=⟨[(4,[3,9,10,11])],[],[]⟩
def Jr:=jL Tryz.prog Tryz.f80 24 ajm 0
def ajn(C:aA)(a0:AV)(H:ah):OA:=
 bo (au a0) λv7=> fld v7 0 H λv9 H=> bnd (lnS v9 H) λv10 H=>
 Jr C [(.s (Go.Value.slice none 0 0)),v9,v10,(I 0)] H
theorem XP(C:aA)(t3 t9 t10 t11:AV)(H:ah):Jr C [t3,t9,t10,t11] H=
 bo (bi .lss 3 t11 t10) λv12=>
 aI v12
 (bnd (ix 4 t9 t11 H) λv13 H=> bnd (lda 4 v13 H) λv14 H=> bnd (alc 92 [zP,zP,zP,zP] H) λv5 H=> bnd (st 4 v5 v14 H) λ_ H=>
  bo (ak v5 0) λv16=> bnd (lda 2 v16 H) λv17 H=> bo (ak v5 2) λv18=> bnd (lda 2 v18 H) λv19 H=> bnd (bs 164 2 [(0,v17),(1,v19)] H) λv20 H=> bnd (app 90 2 16 t3 v20 H) λv21 H=>
  bo (bi .add 3 t11 (I 1)) λv22=>
  Jr C [v21,t9,t10,v22] H)
 (some (t3,H)):=
 lpE.trans (by kernel_rfl)
theorem anQ:Rn1 80 ajn:=λ_ _ _ _ h=>
 rnG ajm Tryz.func80 (by kernel_rfl) (by kernel_rfl) h
def ajo(C:aA)(a0:AV)(H:ah):OA:=
 bo (au a0) λv4=> fld v4 0 H λv6 H=> bnd (lnS v6 H) λv7 H=>
 some (v7,H)
theorem anR:Rn1 81 ajo:=λ_ _ _ _ h=>
 rnG an0 Tryz.func81 (by kernel_rfl) (by kernel_rfl) h
def anS:Ann:=⟨[],[(5,rF 8 [])],[]⟩
def ajp(C:aA)(a0 a1 a2:AV)(H:ah):OA:=
 bnd (lnS a0 H) λv12 H=> bo (slS 9 a0 (some a1) (some a2) (some v12)) λv13=>
 bo (bi .eql 3 a1 a2) λv16=>
 aI v16
 (some (a0,H))
 (bnd (lnS a0 H) λv19 H=>
  bo (slS 9 a0 none (some a1) none) λv22=> bo (slS 9 a0 (some a2) none none) λv25=> bnd (app 99 9 88 v22 v25 H) λv26 H=>
  bnd (lnS v26 H) λv29 H=> bo (slS 9 v26 (some v29) (some v19) none) λv31=> bnd (clr 9 [zI,zI,zI,zI,zI,zI,zI,zB,zN] v31 H) λ_ H=>
  some (v26,H))
theorem anT:Rn3 82 ajp:=λ_ _ _ _ _ _ h=>
 rnG anS Tryz.func82 (by kernel_rfl) (by kernel_rfl) h
def ajq(C:aA)(a0 a1:AV)(H:ah):OA:=
 bnd (alc 99 [zI,zI,zI,zI,zI,zI,zI,zB,zN] H) λv4 H=>
 bnd (C 127 [a0,a1,(B false)] H) λv8 H=> bo (aF v8 0) λv9=> bo (aF v8 1) λv10=> bnd (st 9 v4 v9 H) λ_ H=>
 bnd (lda 9 v4 H) λr0 _=> some (.tup [r0,v10],H)
theorem anU:Rn2 83 ajq:=λ_ _ _ _ _ h=>
 rnG an0 Tryz.func83 (by kernel_rfl) (by kernel_rfl) h
def anV:Ann:=⟨[],[(3,rF 18 []),(5,rF 18 []),(7,rF 18 [])],[]⟩
def XQ(C:aA)(a0 a1:AV)(H:ah):OA:=
 bnd (fM 99 a1 H) λv3 H=> bnd (alc 62 [zI,zI,zI,zI,zI,zI,zN,zI,zI] H) λv4 H=>
 bo (au a0) λv7=> bo (ak v7 12) λv8=> fld v8 0 H λv10 H=>
 bo (bi .eql 3 v10 (I 1)) λv12=>
 aI v12
 (bo (au a0) λv14=> bo (ak v14 12) λv15=> bnd (lda 9 v15 H) λv16 H=> bo (au a0) λv18=> fld v18 10 H λv20 H=> bo (au a0) λv22=> fld v22 0 H λv24 H=> bnd (lda 9 v3 H) λv25 H=> bnd (C 128 [v16,v20,v24,v25] H) λv26 H=> bo (aF v26 0) λv27=> bo (aF v26 1) λv28=> bnd (st 9 v4 v27 H) λ_ H=>
  bnd (lda 9 v4 H) λr0 _=> some (.tup [r0,v28],H))
 (bo (bi .eql 3 v10 (I 2)) λv30=>
  aI v30
  (bo (au a0) λv32=> bo (ak v32 12) λv33=> bnd (lda 9 v33 H) λv34 H=> bo (au a0) λv36=> fld v36 10 H λv38 H=> bo (au a0) λv40=> fld v40 0 H λv42 H=> bnd (lda 9 v3 H) λv43 H=> bnd (C 129 [v34,v38,v42,v43] H) λv44 H=> bo (aF v44 0) λv45=> bo (aF v44 1) λv46=> bnd (st 9 v4 v45 H) λ_ H=>
  bnd (lda 9 v4 H) λr0 _=> some (.tup [r0,v46],H))
  (bo (bi .eql 3 v10 (I 3)) λv48=>
  aI v48
  (bo (au a0) λv50=> bo (ak v50 12) λv51=> bnd (lda 9 v51 H) λv52 H=> bo (au a0) λv54=> fld v54 10 H λv56 H=> bo (au a0) λv58=> fld v58 0 H λv60 H=> bnd (lda 9 v3 H) λv61 H=> bnd (C 130 [v52,v56,v60,v61] H) λv62 H=> bo (aF v62 0) λv63=> bo (aF v62 1) λv64=> bnd (st 9 v4 v63 H) λ_ H=>
   bnd (lda 9 v4 H) λr0 _=> some (.tup [r0,v64],H))
  (bo (bd 62 []) λv65=> bnd (st 9 v4 v65 H) λ_ H=>
   bnd (lda 9 v4 H) λr0 _=> some (.tup [r0,(B false)],H))))
theorem abh:Rn2 84 XQ:=λ_ _ _ _ _ h=>
 rnG anV Tryz.func84 (by kernel_rfl) (by kernel_rfl) h
def anW:Ann:=⟨[],[(3,rF 19 [])],[(3,[(14,16),(15,16)])]⟩
def afQ(C:aA)(a0:AV)(H:ah):OA:=
 bnd (alc 26 [zI,zI,zI] H) λv2 H=>
 bnd (C 19 [a0] H) λv6 H=> bo (bi .eql 3 v6 (I 0)) λv7=>
 aI v7
 (bo (bd 26 []) λv8=> bnd (st 3 v2 v8 H) λ_ H=>
  bnd (lda 3 v2 H) λr0 _=> some (.tup [r0,(I 0),(B false)],H))
 (bo (au a0) λv10=> fld v10 0 H λv12 H3=> bo (au a0) λv14=> fld v14 1 H3 λv16 H7=> bnd (lnS v16 H7) λv17 H8=> bnd (ix 3 v12 v17 H8) λv18 H9=> bnd (lda 3 v18 H9) λv19 H10=> bo (au a0) λv21=> bo (ak v21 1) λv22=> bnd (ld v22 H10) λv23 H14=> bnd (lnS v23 H14) λv24 H15=> bnd (st 3 v2 v19 H15) λ_ H16=> ck (bD v22) H15 H16 <| ck (bD v23) H15 H16 <|
  bnd (lda 3 v2 H16) λr0 _=> some (.tup [r0,v24,(B true)],H16))
theorem anX:Rn1 85 afQ:=λ_ _ _ _ h=>
 rnG anW Tryz.func85 (by kernel_rfl) (by kernel_rfl) h
def ajr(C:aA)(a0 a1 a2:AV)(H:ah):OA:=
 bo (au a0) λv11=> fld v11 1 H λv13 H=> bnd (C 85 [v13] H) λv14 H=> bo (aF v14 0) λv15=> bo (aF v14 1) λv16=> bo (aF v14 2) λv17=> bnd (alc 26 [zI,zI,zI] H) λv6 H=> bnd (st 3 v6 v15 H) λ_ H=>
 bo (au a0) λv19=> fld v19 1 H λv21 H=> bnd (C 131 [v21,a2] H) λv23 H=>
 bo (au a0) λv26=> fld v26 10 H λv28 H=> bnd (C 132 [a1,v28,v16,a2] H) λv31 H=>
 some (.tup [],H)
theorem anY:Rn3 86 ajr:=λ_ _ _ _ _ _ h=>
 rnG an0 Tryz.func86 (by kernel_rfl) (by kernel_rfl) h
def anZ:Ann:=⟨[],[(1,rF 12 []),(9,rF 6 [])],[]⟩
def Js(C:aA)(t0 t1 t11:AV)(H:ah):OA:=
 bnd (C 86 [t0,t1,t11] H) λv71 H=>
 some (.tup [],H)
def xI(C:aA)(t0 t1 t4 t9 t11:AV)(H:ah):OA:=
 bo (au t0) λv60=> fld v60 0 H λv62 H=> bnd (lda 6 t9 H) λv63 H=> bnd (C 135 [v62,v63] H) λv64 H=>
 fld t4 0 H λv66 H=> bo (bi .eql 3 v66 (I 2)) λv67=>
 aI v67
 (Js C t0 t1 (I 0) H)
 (Js C t0 t1 t11 H)
def abj(C:aA)(a0 a1:AV)(H:ah):OA:=
 bo (au a0) λv14=> fld v14 1 H λv16 H=> bnd (C 85 [v16] H) λv17 H=> bo (aF v17 0) λv18=> bo (aF v17 1) λv19=> bo (aF v17 2) λv20=> bnd (alc 26 [zI,zI,zI] H) λv4 H=> bnd (st 3 v4 v18 H) λ_ H=>
 bo (au a0) λv23=> bo (ak v23 2) λv24=> bnd (lda 8 v24 H) λv25 H=> fld v4 1 H λv27 H=> bnd (C 70 [v25,v27] H) λv28 H=> bo (aF v28 0) λv29=> bo (aF v28 1) λv30=>
 bo (au a0) λv33=> fld v33 0 H λv35 H=> bnd (C 98 [v35,v29] H) λv37 H=> bo (aF v37 0) λv38=> bo (aF v37 1) λv39=> bnd (alc 117 [zI,zI,zI,zI,zB,zN] H) λv9 H=> bnd (st 6 v9 v38 H) λ_ H=>
 bnd (lda 6 v9 H) λv40 H=> bnd (C 133 [v40,v30] H) λv42 H=>
 fld v4 0 H λv44 H=>
 bo (bi .eql 3 v44 (I 2)) λv46=>
 aI v46
 (fld v4 2 H λv49 H=> bnd (C 134 [v9,v30,v49] H) λv50 H=>
  xI C a0 a1 v4 v9 v42 H)
 (bo (bi .eql 3 v44 (I 3)) λv52=>
  aI v52
  (fld v4 2 H λv56 H=> bo (bi .add 3 v42 v56) λv57=> bnd (C 134 [v9,v30,v57] H) λv58 H=>
  xI C a0 a1 v4 v9 v42 H)
  (xI C a0 a1 v4 v9 v42 H))
theorem afR:Rn2 87 abj:=λ_ _ _ _ _ h=>
 rnG anZ Tryz.func87 (by kernel_rfl) (by kernel_rfl) h
def an1:Ann:=⟨[],[(0,rF 18 (some true::some false::some false::[]))],[]⟩
def ajs(C:aA)(a0 a1:AV)(H:ah):OA:=
 bo (au a0) λv6=> bo (ak v6 12) λv7=> bnd (lda 9 v7 H) λv8 H=> bo (au a0) λv10=> fld v10 10 H λv12 H=> bo (au a0) λv14=> bo (ak v14 2) λv15=> bnd (lda 8 v15 H) λv16 H=> bo (au a0) λv18=> bo (ak v18 12) λv19=> fld v19 1 H λv21 H=> bnd (unG H (C 57 [v16,v21] H.guard)) λv22 H=> bnd (C 136 [v8,v12,v22] H) λv23 H=> bnd (C 92 [a1,v23] H) λv24 H=>
 some (.tup [],H)
theorem an2:Rn2 88 ajs:=λ_ _ _ _ _ h=>
 rnG an1 Tryz.func88 (by kernel_rfl) (by kernel_rfl) h
def afS(C:aA)(a0:AV)(H:ah):OA:=
 bo (au a0) λv4=> fld v4 1 H λv6 H=> bnd (C 137 [v6] H) λv7 H=> bnd (lnS v7 H) λv8 H=> bo (bi .gtr 3 v8 (I 0)) λv9=>
 some (v9,H)
theorem an3:Rn1 89 afS:=λ_ _ _ _ h=>
 rnG an0 Tryz.func89 (by kernel_rfl) (by kernel_rfl) h
def afT(C:aA)(a0 a1 a2:AV)(H:ah):OA:=
 bnd (C 138 [a0,a1] H) λv9 H=> bo (un .not v9) λv10=>
 aI v10
 (some ((I 0),H))
 (bo (au a0) λv12=> fld v12 0 H λv14 H=> bnd (ix 4 v14 a1 H) λv16 H=> bnd (lda 4 v16 H) λv17 H=> bnd (C 43 [v17,a2] H) λv19 H=> bo (fl v19 0) λv20=> bnd (C 139 [v20] H) λv21 H=>
  some (v21,H))
theorem an4:Rn3 90 afT:=λ_ _ _ _ _ _ h=>
 rnG an0 Tryz.func90 (by kernel_rfl) (by kernel_rfl) h
def ajt:Ann:=⟨[(3,[0,2,13,14,15])],[],[]⟩
def Qe:=jL Tryz.prog Tryz.f91 37 ajt 0
def afU(C:aA)(a0:AV)(H:ah):OA:=
 bnd (alc 99 [zI,zI,zI,zI,zI,zI,zI,zB,zN] H) λv2 H=>
 bo (au a0) λv10=> fld v10 1 H λv12 H=> bnd (C 137 [v12] H) λv13 H=> bnd (lnS v13 H) λv14 H=>
 Qe C [a0,v2,v13,v14,(I 0)] H
theorem XR(C:aA)(t0 t2 t13 t14 t15:AV)(H:ah):Qe C [t0,t2,t13,t14,t15] H=
 bo (bi .lss 3 t15 t14) λv16=>
 aI v16
 (bnd (ix 1 t13 t15 H) λv17 H=> bnd (ld v17 H) λv18 H=>
  bo (au t0) λv21=> fld v21 1 H λv23 H=> bnd (C 140 [v23,v18] H) λv25 H=> bo (aF v25 0) λv26=> bo (aF v25 1) λv27=> bo (aF v25 2) λv28=>
  aI v28
  (bnd (C 141 [t0,v18,v26,v27] H) λv34 H=> bnd (st 9 t2 v34 H) λ_ H=>
  bnd (lda 9 t2 H) λr0 _=> some (.tup [r0,(B true)],H))
  (bo (bi .add 3 t15 (I 1)) λv35=>
  Qe C [t0,t2,t13,t14,v35] H))
 (bo (bd 99 []) λv36=> bnd (st 9 t2 v36 H) λ_ H=>
  bnd (lda 9 t2 H) λr0 _=> some (.tup [r0,(B false)],H)):=
 lpE.trans (by kernel_rfl)
theorem an5:Rn1 91 afU:=λ_ _ _ _ h=>
 rnG ajt Tryz.func91 (by kernel_rfl) (by kernel_rfl) h
def an6:Ann:=⟨[],[(3,rF 10 (some true::some true::rF 4 []))],[]⟩
def XT(C:aA)(a0 a1:AV)(H:ah):OA:=
 bnd (fM 99 a1 H) λv3 H=>
 bnd (lda 9 v3 H) λv5 H=> bnd (C 118 [v5] H) λv6 H=> bo (bi .neq 29 v6 (I 0)) λv7=> gl v7 false (some a0) H λv9 H=> gl v7 false (ak v3 1) H λv10 H=> gdA (some v7) false (ld v10 H) H λv11 H=> gdA (some v7) false (C 138 [v9,v11] H) H λv12 H=> gl v7 false (un .not v12) H λv13 H=> bo (bG v7 (B true) v13) λv14=> gl v14 false (some a0) H λv16 H=> gl v14 false (ak v3 2) H λv17 H=> gdA (some v14) false (ld v17 H) H λv18 H=> gdA (some v14) false (C 138 [v16,v18] H) H λv19 H=> gl v14 false (un .not v19) H λv20 H=> bo (bG v14 (B true) v20) λv21=>
 aI v21
 (some ((I 1),H))
 (bo (au a0) λv23=> fld v23 0 H λv25 H=> fld v3 1 H λv27 H=> bnd (ix 4 v25 v27 H) λv28 H=> bnd (lda 4 v28 H) λv29 H=> fld v3 0 H λv31 H=> bnd (unG H (C 44 [v31] H.guard)) λv32 H=> bnd (unG H (C 43 [v29,v32] H.guard)) λv33 H=> bo (fl v33 0) λv34=> bnd (lda 9 v3 H) λv35 H=> bnd (C 142 [v34,v35] H) λv36 H=>
  some (v36,H))
theorem aju:Rn2 92 XT:=λ_ _ _ _ _ h=>
 rnG an6 Tryz.func92 (by kernel_rfl) (by kernel_rfl) h
def ajv(C:aA)(a0 a1:AV)(H:ah):OA:=
 bnd (alc 99 [zI,zI,zI,zI,zI,zI,zI,zB,zN] H) λv4 H=>
 bnd (C 127 [a0,a1,(B true)] H) λv8 H=> bo (aF v8 0) λv9=> bo (aF v8 1) λv10=> bnd (st 9 v4 v9 H) λ_ H=>
 bnd (lda 9 v4 H) λr0 _=> some (.tup [r0,v10],H)
theorem an7:Rn2 93 ajv:=λ_ _ _ _ _ h=>
 rnG an0 Tryz.func93 (by kernel_rfl) (by kernel_rfl) h
def an8:Ann:=⟨[],[(2,rF 11 (none::rF 3 [])),(4,rF 9 (none::some false::some false::[]))],[(2,[(11,6)]),(4,[(9,5)])]⟩
def UU(C:aA)(a0 a1:AV)(H:ah):OA:=
 bnd (fM 99 a1 H) λv3 H=> bnd (alc 99 [zI,zI,zI,zI,zI,zI,zI,zB,zN] H) λv4 H=>
 fld v3 0 H λv12 H=> bo (bi .eql 3 v12 (I 1)) λv13=> gl v13 false (ak v3 0) H λv15 H=> gdA (some v13) false (ld v15 H) H λv16 H=> gl v13 false (bi .eql 3 v16 (I 2)) H λv17 H=> bo (bG v13 (B true) v17) λv18=>
 aI v18
 (bnd (alc 99 [zI,zI,zI,zI,zI,zI,zI,zB,zN] H) λv6 H11=> bo (au a0) λv21=> bo (ak v21 11) λv22=> fld v22 0 H11 λv24 H4=> bnd (lda 9 v3 H4) λv25 H5=> bnd (C 143 [v24,v25] H5) λv26 H6=> bo (aF v26 0) λv27=> bo (aF v26 1) λv28=> bo (aF v26 2) λv29=> bnd (st 9 v6 v27 H6) λ_ H12=> ckR H.next H11.next H5 H6 <|
  bnd (lda 9 v6 H12) λv30 H12=> gl v28 true (some v29) H12 λv33 H12=> gl v28 true (bi .eql 29 v33 (I 0)) H12 λv34 H12=> bo (bG v28 v34 (B false)) λv35=> bnd (st 9 v4 v30 H12) λ_ H12=>
  bnd (lda 9 v4 H12) λr0 _=> some (.tup [r0,v35],H12))
 (bnd (alc 99 [zI,zI,zI,zI,zI,zI,zI,zB,zN] H) λv9 amd=> bo (au a0) λv38=> bo (ak v38 0) λv39=> bnd (ld v39 amd) λv40 ahc=> bnd (lda 9 v3 ahc) λv41 ajw=> bnd (C 144 [v40,v41] ajw) λv42 ajx=> bo (aF v42 0) λv43=> bo (aF v42 1) λv44=> bnd (st 9 v9 v43 ajx) λ_ UW=> ckR H.next amd.next ajw ajx <|
  bnd (lda 9 v9 UW) λv45 UW=> bo (bi .eql 29 v44 (I 0)) λv47=> bnd (st 9 v4 v45 UW) λ_ UW=>
  bnd (lda 9 v4 UW) λr0 _=> some (.tup [r0,v47],UW))
theorem ajy:Rn2 94 UU:=λ_ _ _ _ _ h=>
 rnG an8 Tryz.func94 (by kernel_rfl) (by kernel_rfl) h
def ajz(C:aA)(a0:AV)(H:ah):OA:=
 bo (au a0) λv4=> fld v4 2 H λv6 H=>
 some (v6,H)
theorem an9:Rn1 95 ajz:=λ_ _ _ _ h=>
 rnG an0 Tryz.func95 (by kernel_rfl) (by kernel_rfl) h
def abk(C:aA)(a0:AV)(H:ah):OA:=
 bo (au a0) λv4=> fld v4 2 H λv6 H=> gl v6 false (some a0) H λv8 H=> gdA (some v6) false (C 19 [v8] H) H λv9 H=> gl v6 false (bi .eql 3 v9 (I 0)) H λv10 H=> bo (bG v6 (B true) v10) λv11=>
 aI v11
 (some ((I 6),H))
 (bo (au a0) λv13=> bo (ak v13 2) λv14=> bnd (st 1 v14 (B true) H) λ_ H=>
  some ((I 0),H))
theorem afV:Rn1 96 abk:=λ_ _ _ _ h=>
 rnG an0 Tryz.func96 (by kernel_rfl) (by kernel_rfl) h
def ajA(C:aA)(a0 a1 a2:AV)(H:ah):OA:=
 bo (au a0) λv8=> fld v8 0 H λv10 H=> bo (bd 137 [(0,a1),(1,a2)]) λv13=> bnd (bs 69 1 [(0,v13)] H) λv14 H=> bnd (app 137 4 32 v10 v14 H) λv15 H=> bo (au a0) λv16=> bo (ak v16 0) λv17=> bnd (st 1 v17 v15 H) λ_ H=>
 some (.tup [],H)
theorem aoa:Rn3 97 ajA:=λ_ _ _ _ _ _ h=>
 rnG an0 Tryz.func97 (by kernel_rfl) (by kernel_rfl) h
def afW(C:aA)(a0 a1:AV)(H:ah):OA:=
 bnd (alc 117 [zI,zI,zI,zI,zB,zN] H) λv4 H=>
 bnd (C 145 [a0,a1] H) λv9 H=>
 bo (bi .lss 3 v9 (I 0)) λv11=>
 aI v11
 (bo (bd 117 []) λv12=> bnd (st 6 v4 v12 H) λ_ H=>
  bnd (lda 6 v4 H) λr0 _=> some (.tup [r0,(B false)],H))
 (bo (au a0) λv14=> fld v14 0 H λv16 H=> bnd (ix 6 v16 v9 H) λv18 H=> bnd (lda 6 v18 H) λv19 H=> bnd (C 146 [v19] H) λv20 H=> bnd (st 6 v4 v20 H) λ_ H=>
  bnd (lda 6 v4 H) λr0 _=> some (.tup [r0,(B true)],H))
theorem aob:Rn2 98 afW:=λ_ _ _ _ _ h=>
 rnG an0 Tryz.func98 (by kernel_rfl) (by kernel_rfl) h
def ajB(C:aA)(a0 a1 a2 a3:AV)(H:ah):OA:=
 bo (au a0) λv12=> fld v12 21 H λv14 H=> bnd (C 147 [a2,a3,v14] H) λv15 H=> bo (au a0) λv16=> bo (ak v16 12) λv17=> bnd (st 9 v17 v15 H) λ_ H=>
 bo (au a0) λv20=> fld v20 21 H λv22 H=> bo (bi .add 3 v22 (I 1)) λv23=> bo (bi .rem 3 v23 (I 4096)) λv24=> bo (au a0) λv25=> bo (ak v25 21) λv26=> bnd (st 1 v26 v24 H) λ_ H=>
 bnd (C 88 [a0,a1] H) λv29 H=>
 some (.tup [],H)
theorem aoc:Rn4 99 ajB:=λ_ _ _ _ _ _ _ h=>
 rnG an0 Tryz.func99 (by kernel_rfl) (by kernel_rfl) h
def ajC:Ann:=⟨[],[(5,rF 12 [])],[]⟩
def XU(C:aA)(a0 a1:AV)(H:ah):OA:=
 bnd (C 145 [a0,a1] H) λv8 H=>
 bo (bi .lss 3 v8 (I 0)) λv10=>
 aI v10
 (some ((B false),H))
 (bo (au a0) λv12=> fld v12 3 H λv14 H=> bo (bi .add 3 v14 (I 1)) λv15=> bo (au a0) λv16=> bo (ak v16 3) λv17=> bnd (st 1 v17 v15 H) λ_ H=>
  bo (au a0) λv19=> fld v19 0 H λv21 H=> bo (au a0) λv24=> fld v24 3 H λv26 H=> bnd (ix 6 v21 v8 H) λv27 H=> bo (ak v27 3) λv28=> bnd (st 1 v28 v26 H) λ_ H=>
  some ((B true),H))
theorem ajD:Rn2 100 XU:=λ_ _ _ _ _ h=>
 rnG ajC Tryz.func100 (by kernel_rfl) (by kernel_rfl) h
def ajE:Ann:=⟨[],[(1,rF 7 (some true::rF 8 []))],[]⟩
def XV(C:aA)(a0 a1:AV)(H:ah):OA:=
 bnd (C 145 [a0,a1] H) λv7 H=> bo (bi .lss 3 v7 (I 0)) λv8=> gl v8 true (some a0) H λv10 H=> gl v8 true (some a1) H λv11 H=> gdA (some v8) true (unG H (C 148 [v10,v11] H.guard)) H λv12 H=> gdA (some v8) true (lnS v12 H) H λv13 H=> gl v8 true (some a0) H λv14 H=> gl v8 true (au v14) H λv15 H=> gl v8 true (ak v15 2) H λv16 H=> gdA (some v8) true (ld v16 H) H λv17 H=> gl v8 true (bi .geq 3 v13 v17) H λv18 H=> bo (bG v8 v18 (B false)) λv19=>
 some (v19,H)
theorem ajF:Rn2 101 XV:=λ_ _ _ _ _ h=>
 rnG ajE Tryz.func101 (by kernel_rfl) (by kernel_rfl) h
def XW(C:aA)(a0 a1:AV)(H:ah):OA:=
 bnd (C 148 [a0,a1] H) λv9 H=>
 bnd (lnS v9 H) λv11 H=> bo (bi .eql 3 v11 (I 0)) λv12=>
 aI v12
 (some (.tup [(I 0),(B false)],H))
 (bnd (C 149 [v9,(.fn (.func 150) [] [])] H) λv14 H=> bo (fl v14 2) λv15=>
  some (.tup [v15,(B true)],H))
theorem ajG:Rn2 102 XW:=λ_ _ _ _ _ h=>
 rnG an0 Tryz.func102 (by kernel_rfl) (by kernel_rfl) h
def adx:Ann:=⟨[(3,[0,1,7,8])],[],[]⟩
def yH:=jL Tryz.prog Tryz.f103 19 adx 0
def ady(C:aA)(a0 a1:AV)(H:ah):OA:=
 bnd (lnS a0 H) λv7 H=>
 yH C [a0,a1,v7,(I 0)] H
theorem RS(C:aA)(t0 t1 t7 t8:AV)(H:ah):yH C [t0,t1,t7,t8] H=
 bo (bi .lss 3 t8 t7) λv9=>
 aI v9
 (bnd (ix 1 t0 t8 H) λv14 H=> bnd (ld v14 H) λv15 H=> bnd (oH Tryz.prog C t1 [v15] H) λv16 H=>
  aI v16
  (some (t8,H))
  (bo (bi .add 3 t8 (I 1)) λv18=>
  yH C [t0,t1,t7,v18] H))
 (some ((I (-1)),H)):=
 lpE.trans (by kernel_rfl)
theorem ajH:Rn2 103 ady:=λ_ _ _ _ _ h=>
 rnG adx Tryz.func103 (by kernel_rfl) (by kernel_rfl) h
def XY(C:aA)(a0 a1:AV)(H:ah):OA:=
 bo (bi .lss 3 a0 (I 0)) λv6=>
 aI v6
 (some ((I (-1)),H))
 (bo (bi .rem 3 a0 a1) λv9=>
  some (v9,H))
theorem ajI:Rn2 104 XY:=λ_ _ _ _ _ h=>
 rnG an0 Tryz.func104 (by kernel_rfl) (by kernel_rfl) h
def XZ(C:aA)(a0 a1:AV)(H:ah):OA:=
 bo (au a0) λv9=> fld v9 0 H λv11 H=> bnd (lk .i64 (.int .i64 0) v11 a1 true H) λv13 H=> bo (aF v13 0) λv14=> bo (aF v13 1) λv15=>
 aI v15
 (some (v14,H))
 (some ((I (-1)),H))
theorem ajJ:Rn2 105 XZ:=λ_ _ _ _ _ h=>
 rnG an0 Tryz.func105 (by kernel_rfl) (by kernel_rfl) h
def X0(C:aA)(a0 a1:AV)(H:ah):OA:=
 bnd (C 154 [a0,a1] H) λv7 H=> bo (bi .geq 3 v7 (I 0)) λv8=>
 some (v8,H)
theorem ajK:Rn2 109 X0:=λ_ _ _ _ _ h=>
 rnG an0 Tryz.func109 (by kernel_rfl) (by kernel_rfl) h
def X3(C:aA)(a0 a1:AV)(H:ah):OA:=
 bnd (fM 117 a0 H) λv2 H=>
 fld v2 4 H λv5 H=> gl v5 false (ak v2 5) H λv7 H=> gdA (some v5) false (ld v7 H) H λv8 H=> gl v5 false (ak a1 2) H λv9 H=> gdA (some v5) false (ld v9 H) H λv10 H=> gdA (some v5) false (C 59 [v8,v10] H) H λv11 H=> gl v5 false (un .not v11) H λv12 H=> bo (bG v5 (B true) v12) λv13=>
 some (v13,H)
theorem ajL:Rn2 110 X3:=λ_ _ _ _ _ h=>
 rnG an0 Tryz.func110 (by kernel_rfl) (by kernel_rfl) h
def adz(C:aA)(a0 a1:AV)(H:ah):OA:=
 bnd (alc 130 [zI,zI,zN] H) λv4 H=>
 bo (au a0) λv7=> bo (ak v7 11) λv8=> fld v8 0 H λv10 H=> bo (au v10) λv11=> fld v11 0 H λv13 H=> bnd (C 155 [v13,a1] H) λv15 H=> bo (aF v15 0) λv16=> bo (aF v15 1) λv17=> bnd (st 3 v4 v16 H) λ_ H=>
 bnd (lda 3 v4 H) λr0 _=> some (.tup [r0,v17],H)
theorem ajM:Rn2 111 adz:=λ_ _ _ _ _ h=>
 rnG an0 Tryz.func111 (by kernel_rfl) (by kernel_rfl) h
def adA:Ann:=⟨[(4,[0,5,10,11,12])],[],[]⟩
def pY:=jL Tryz.prog Tryz.f112 60 adA 0
def X4(C:aA)(a0 a1:AV)(H:ah):OA:=
 bnd (mkm .i64 H) λv9 H=>
 bnd (lnS a1 H) λv11 H=>
 pY C [a0,v9,a1,v11,(I 0)] H
theorem nZ(C:aA)(t0 t5 t10 t11 t12:AV)(H:ah):pY C [t0,t5,t10,t11,t12] H=
 bo (bi .lss 3 t12 t11) λv13=>
 aI v13
 (bnd (ix 4 t10 t12 H) λv14 H=> bnd (lda 4 v14 H) λv15 H=> bnd (alc 137 [zI,zI,zB,zI] H) λv7 H=> bnd (st 4 v7 v15 H) λ_ H=>
  fld v7 0 H λv18 H=> bnd (lk .i64 (.int .i64 0) t5 v18 false H) λv19 H=>
  fld v7 0 H λv21 H=> bo (bi .lss 3 v21 (I 0)) λv22=> gl v22 false (ak v7 0) H λv24 H=> gdA (some v22) false (ld v24 H) H λv25 H=> gl v22 false (some t0) H λv26 H=> gl v22 false (bi .geq 3 v25 v26) H λv27 H=> bo (bG v22 (B true) v27) λv28=> gl v28 false (ak v7 1) H λv30 H=> gdA (some v28) false (ld v30 H) H λv31 H=> gl v28 false (some v19) H λv32 H=> gl v28 false (bi .quo 3 v32 (I 2)) H λv33 H=> gl v28 false (bi .neq 3 v31 v33) H λv34 H=> bo (bG v28 (B true) v34) λv35=> gl v35 false (ak v7 2) H λv37 H=> gdA (some v35) false (ld v37 H) H λv38 H=> gl v35 false (some v19) H λv39 H=> gl v35 false (bi .rem 3 v39 (I 2)) H λv40 H=> gl v35 false (bi .eql 3 v40 (I 1)) H λv41 H=> gl v35 false (bi .neq 4 v38 v41) H λv42 H=> bo (bG v35 (B true) v42) λv43=> gl v43 false (ak v7 2) H λv45 H=> gdA (some v43) false (ld v45 H) H λv46 H=> gl v43 false (un .not v46) H λv47 H=> gl v43 false (some v47) H λv48 H=> gl v48 true (ak v7 3) H λv49 H=> gdA (some v48) true (ld v49 H) H λv50 H=> gl v48 true (bi .neq 3 v50 (I 0)) H λv51 H=> gl v43 false (bG v48 v51 (B false)) H λv52 H=> bo (bG v43 (B true) v52) λv53=>
  aI v53
  (some ((B false),H))
  (fld v7 0 H λv56 H=> bnd (lk .i64 (.int .i64 0) t5 v56 false H) λv57 H=> bo (bi .add 3 v57 (I 1)) λv58=> bnd (mup .i64 t5 v56 v58 H) λ_ H=>
  bo (bi .add 3 t12 (I 1)) λv59=>
  pY C [t0,t5,t10,t11,v59] H))
 (some ((B true),H)):=
 lpE.trans (by kernel_rfl)
theorem adB:Rn2 112 X4:=λ_ _ _ _ _ h=>
 rnG adA Tryz.func112 (by kernel_rfl) (by kernel_rfl) h
def adC:Ann:=⟨[(4,[1,3,9,10])],[(5,rF 7 (some true::rF 4 []))],[]⟩
def yI:=jL Tryz.prog Tryz.f113 26 adC 0
def adD(C:aA)(a0:AV)(H:ah):OA:=
 bnd (fM 24 a0 H) λv1 H=>
 bnd (lda 8 v1 H) λv5 H=> bo (bd 195 [(0,v5)]) λv6=> bnd (fM 195 v6 H) λv7 H=>
 fld v1 1 H λv9 H=>
 yI C [v1,v7,v9,(I 0)] H
theorem RU(C:aA)(t1 t3 t9 t10:AV)(H:ah):yI C [t1,t3,t9,t10] H=
 bo (bi .lss 3 t10 t9) λv11=>
 aI v11
 (bo (au t3) λv15=> fld v15 8 H λv17 H=> bnd (lda 8 t1 H) λv18 H=> bnd (unG H (C 116 [v18,t10] H.guard)) λv20 H=> bnd (app 3 1 8 v17 v20 H) λv21 H=> bo (au t3) λv22=> bo (ak v22 8) λv23=> bnd (st 1 v23 v21 H) λ_ H=>
  bo (bi .add 3 t10 (I 1)) λv24=>
  yI C [t1,t3,t9,v24] H)
 (some (t3,H)):=
 lpE.trans (by kernel_rfl)
theorem ajN:Rn1 113 adD:=λ_ _ _ _ h=>
 rnG adC Tryz.func113 (by kernel_rfl) (by kernel_rfl) h
def ajO:Ann:=⟨[],[(6,rF 9 []),(11,rF 10 []),(13,rF 12 [])],[]⟩
def Cc(C:aA)(H:ah):OA:=
 some (.tup [(I 0),(I 0)],H)
def ML(C:aA)(a0 a1:AV)(H:ah):OA:=
 bnd (fM 26 a1 H) λv3 H=>
 bo (au a0) λv10=> bo (ak v10 0) λv11=> fld v11 0 H λv13 H=> bnd (mks 27 1 24 [zN] v13 v13 H) λv14 H=>
 bnd (lda 3 v3 H) λv16 H=> bnd (bs 27 1 [(0,v16)] H) λv17 H=> bnd (ix 1 v14 (I 0) H) λv18 H=> bnd (st 1 v18 v17 H) λ_ H=>
 bo (au a0) λv20=> bo (ak v20 0) λv21=> bnd (lda 8 v21 H) λv22 H=> bnd (C 11 [v22,v14] H) λv24 H=>
 bo (bi .neq 29 v24 (I 0)) λv26=>
 aI v26
 (some (.tup [(I 0),v24],H))
 (bo (au a0) λv29=> fld v29 8 H λv31 H=> fld v3 1 H λv33 H=> bnd (ix 1 v31 v33 H) λv34 H=> bnd (ld v34 H) λv35 H=>
  fld v3 0 H λv37 H=>
  bo (bi .eql 3 v37 (I 1)) λv39=>
  aI v39
  (some (.tup [v35,(I 0)],H))
  (bo (bi .eql 3 v37 (I 2)) λv42=>
  aI v42
  (bo (au a0) λv44=> fld v44 8 H λv46 H=> fld v3 1 H λv48 H=> fld v3 2 H λv50 H=> bnd (ix 1 v46 v48 H) λv51 H=> bnd (st 1 v51 v50 H) λ_ H=>
   Cc C H)
  (bo (bi .eql 3 v37 (I 3)) λv53=>
   aI v53
   (bo (au a0) λv55=> fld v55 8 H λv57 H=> fld v3 1 H λv59 H=> fld v3 2 H λv62 H=> bo (bi .add 3 v35 v62) λv63=> bnd (ix 1 v57 v59 H) λv64 H=> bnd (st 1 v64 v63 H) λ_ H=>
   some (.tup [v35,(I 0)],H))
   (Cc C H))))
theorem RX:Rn2 114 ML:=λ_ _ _ _ _ h=>
 rnG ajO Tryz.func114 (by kernel_rfl) (by kernel_rfl) h
def adE:Ann:=⟨[(3,[0,1,7,8])],[],[]⟩
def yJ:=jL Tryz.prog Tryz.f115 19 adE 0
def adF(C:aA)(a0 a1:AV)(H:ah):OA:=
 bnd (lnS a0 H) λv7 H=>
 yJ C [a0,a1,v7,(I 0)] H
theorem Jt(C:aA)(t0 t1 t7 t8:AV)(H:ah):yJ C [t0,t1,t7,t8] H=
 bo (bi .lss 3 t8 t7) λv9=>
 aI v9
 (bnd (ix 1 t0 t8 H) λv14 H=> bnd (ld v14 H) λv15 H=> bo (bi .eql 3 t1 v15) λv16=>
  aI v16
  (some (t8,H))
  (bo (bi .add 3 t8 (I 1)) λv18=>
  yJ C [t0,t1,t7,v18] H))
 (some ((I (-1)),H)):=
 lpE.trans (by kernel_rfl)
theorem ajP:Rn2 115 adF:=λ_ _ _ _ _ h=>
 rnG adE Tryz.func115 (by kernel_rfl) (by kernel_rfl) h
def adG(C:aA)(a0 a1:AV)(H:ah):OA:=
 bnd (fM 24 a0 H) λv2 H=>
 bo (bi .lss 3 a1 (I 0)) λv8=> gl v8 false (some a1) H λv10 H=> gl v8 false (ak v2 1) H λv11 H=> gdA (some v8) false (ld v11 H) H λv12 H=> gl v8 false (bi .geq 3 v10 v12) H λv13 H=> bo (bG v8 (B true) v13) λv14=>
 aI v14
 (some ((.s (Go.Value.slice none 0 0)),H))
 (fld v2 2 H λv16 H=> bnd (mks 3 1 8 [zI] v16 v16 H) λv17 H=>
  fld v2 2 H λv20 H=> bo (bi .mul 3 a1 v20) λv21=> fld v2 7 H λv23 H=> bnd (lnS v23 H) λv24 H=> bnd (fE (kL Tryz.prog false #[3,3] 3 [v21,v24]) H) λv25 H=>
  fld v2 7 H λv28 H=> bo (slS 1 v28 (some v25) none none) λv30=> bnd (cpy 1 v17 v30 H) λv31 H=>
  some (v17,H))
theorem ajQ:Rn2 116 adG:=λ_ _ _ _ _ h=>
 rnG an0 Tryz.func116 (by kernel_rfl) (by kernel_rfl) h
def adH(C:aA)(a0:AV)(H:ah):OA:=
 bnd (fM 99 a0 H) λv1 H=> bnd (alc 99 [zI,zI,zI,zI,zI,zI,zI,zB,zN] H) λv2 H=>
 fld v1 8 H λv4 H=> bnd (C 12 [v4] H) λv5 H=> bo (ak v1 8) λv6=> bnd (st 1 v6 v5 H) λ_ H=>
 bnd (lda 9 v1 H) λv7 H=> bnd (st 9 v2 v7 H) λ_ H=>
 bnd (lda 9 v2 H) λr0 _=> some (r0,H)
theorem ajR:Rn1 117 adH:=λ_ _ _ _ h=>
 rnG an0 Tryz.func117 (by kernel_rfl) (by kernel_rfl) h
def X5(C:aA)(a0:AV)(H:ah):OA:=
 bnd (fM 99 a0 H) λv1 H=>
 fld v1 1 H λv6 H=> bnd (C 156 [v6,(I 0),(I 6)] H) λv7 H=> gl v7 true (ak v1 2) H λv9 H=> gdA (some v7) true (ld v9 H) H λv10 H=> gdA (some v7) true (C 156 [v10,(I 0),(I 6)] H) H λv11 H=> bo (bG v7 v11 (B false)) λv12=> gl v12 true (ak v1 3) H λv14 H=> gdA (some v12) true (ld v14 H) H λv15 H=> gdA (some v12) true (C 156 [v15,(I 0),(I 4096)] H) H λv16 H=> bo (bG v12 v16 (B false)) λv17=>
 fld v1 0 H λv19 H=> bnd (C 156 [v19,(I 1),(I 10)] H) λv20 H=> gl v20 true (ak v1 4) H λv22 H=> gdA (some v20) true (ld v22 H) H λv23 H=> gdA (some v20) true (C 156 [v23,(I 0),(I 8)] H) H λv24 H=> bo (bG v20 v24 (B false)) λv25=> gl v25 true (ak v1 5) H λv27 H=> gdA (some v25) true (ld v27 H) H λv28 H=> gdA (some v25) true (C 156 [v28,(I (-1)),(I 6)] H) H λv29 H=> bo (bG v25 v29 (B false)) λv30=>
 bo (un .not v17) λv32=> gl v32 false (some v30) H λv34 H=> gl v32 false (un .not v34) H λv35 H=> bo (bG v32 (B true) v35) λv36=> gl v36 false (ak v1 6) H λv38 H=> gdA (some v36) false (ld v38 H) H λv39 H=> gdA (some v36) false (C 156 [v39,(I 0),(I 3)] H) H λv40 H=> gl v36 false (un .not v40) H λv41 H=> bo (bG v36 (B true) v41) λv42=> gl v42 false (ak v1 8) H λv44 H=> gdA (some v42) false (ld v44 H) H λv45 H=> gdA (some v42) false (lnS v45 H) H λv46 H=> gl v42 false (bi .gtr 3 v46 (I 4)) H λv47 H=> bo (bG v42 (B true) v47) λv48=>
 aI v48
 (some ((I 1),H))
 (some ((I 0),H))
theorem adI:Rn1 118 X5:=λ_ _ _ _ h=>
 rnG an0 Tryz.func118 (by kernel_rfl) (by kernel_rfl) h
def X6(C:aA)(a0:AV)(H:ah):OA:=
 aI a0
 (some ((.s (Go.Value.int Go.IntKind.u8 1)),H))
 (some ((.s (Go.Value.int Go.IntKind.u8 0)),H))
theorem ajS:Rn1 119 X6:=λ_ _ _ _ h=>
 rnG an0 Tryz.func119 (by kernel_rfl) (by kernel_rfl) h
def adJ:Ann:=⟨[(4,[0,3,4])],[],[]⟩
def Ce:=jL Tryz.prog Tryz.f120 17 adJ 0
def adK(C:aA)(a0:AV)(H:ah):OA:=
 Ce C [a0,(.s (Go.Value.slice none 0 0)),(I 56)] H
theorem RY(C:aA)(t0 t3 t4:AV)(H:ah):Ce C [t0,t3,t4] H=
 bo (bi .geq 3 t4 (I 0)) λv6=>
 aI v6
 (bo (bi .shr 3 t0 t4) λv12=> bnd (cv 3 5 v12 H) λv13 H=> bnd (bs 158 1 [(0,v13)] H) λv14 H=> bnd (app 5 1 1 t3 v14 H) λv15 H=>
  bo (bi .sub 3 t4 (I 8)) λv8=>
  Ce C [t0,v15,v8] H)
 (some (t3,H)):=
 lpE.trans (by kernel_rfl)
theorem ajT:Rn1 120 adK:=λ_ _ _ _ h=>
 rnG adJ Tryz.func120 (by kernel_rfl) (by kernel_rfl) h
def adL(C:aA)(a0:AV)(H:ah):OA:=
 bnd (C 157 [a0] H) λv5 H=>
 bo (bi .shr 33 v5 (.s (Go.Value.int Go.IntKind.u64 8))) λv8=> bnd (cv 33 5 v8 H) λv9 H=> bnd (cv 33 5 v5 H) λv11 H=> bnd (bs 158 2 [(0,v9),(1,v11)] H) λv12 H=> bnd (bs 262 2 [(0,a0),(1,v12)] H) λv13 H=> bnd (C 158 [v13] H) λv14 H=>
 some (v14,H)
theorem ajU:Rn1 121 adL:=λ_ _ _ _ h=>
 rnG an0 Tryz.func121 (by kernel_rfl) (by kernel_rfl) h
def RZ(C:aA)(a0:AV)(H:ah):OA:=
 bnd (lnS a0 H) λv6 H=> bo (bi .sub 3 v6 (I 2)) λv7=>
 bo (bi .lss 3 v7 (I 0)) λv9=> gl v9 false (some a0) H λv11 H=> gl v9 false (some v7) H λv12 H=> gl v9 false (slS 1 v11 none (some v12) none) H λv13 H=> gdA (some v9) false (C 121 [v13] H) H λv14 H=> gl v9 false (some a0) H λv15 H=> gdA (some v9) false (C 125 [v14,v15] H) H λv16 H=> gl v9 false (un .not v16) H λv17 H=> bo (bG v9 (B true) v17) λv18=>
 aI v18
 (some (.tup [(.s (Go.Value.slice none 0 0)),(B false)],H))
 (bo (slS 1 a0 none (some v7) none) λv21=> bnd (C 126 [v21] H) λv22 H=>
  some (.tup [v22,(B true)],H))
theorem X7:Rn1 122 RZ:=λ_ _ _ _ h=>
 rnG an0 Tryz.func122 (by kernel_rfl) (by kernel_rfl) h
def Ju(C:aA)(t2 t3:AV)(H:ah):OA:=
 some ((.fn (.func 159) [] [t2,t3]),H)
def adM(C:aA)(a0 a1:AV)(H:ah):OA:=
 bnd (fM 158 a0 H) λv2 H=> bnd (fM 3 a1 H) λv3 H=>
 bnd (ld v3 H) λv5 H=> bo (bi .lss 3 v5 (I 1)) λv6=>
 aI v6
 (bnd (stk H) λv7 H=> bnd (stk H) λ_ H=>
  Ju C v2 v3 H)
 (Ju C v2 v3 H)
theorem ajV:Rn2 123 adM:=λ_ _ _ _ _ h=>
 rnG an0 Tryz.func123 (by kernel_rfl) (by kernel_rfl) h
def adN:Ann:=⟨[(4,[3,6,7,8])],[],[]⟩
def Ci:=jL Tryz.prog Tryz.f124 20 adN 0
def adO(C:aA)(a0:AV)(H:ah):OA:=
 bnd (lnS a0 H) λv7 H=>
 Ci C [(.s (Go.Value.int Go.IntKind.u64 0)),a0,v7,(I 0)] H
theorem Si(C:aA)(t3 t6 t7 t8:AV)(H:ah):Ci C [t3,t6,t7,t8] H=
 bo (bi .lss 3 t8 t7) λv9=>
 aI v9
 (bnd (ix 1 t6 t8 H) λv10 H=> bnd (ld v10 H) λv11 H=>
  bo (bi .shl 242 t3 (.s (Go.Value.int Go.IntKind.u64 8))) λv13=> bnd (cv 5 242 v11 H) λv15 H=> bo (bi .or 242 v13 v15) λv16=>
  bo (bi .add 3 t8 (I 1)) λv17=>
  Ci C [v16,t6,t7,v17] H)
 (bnd (cv 242 3 t3 H) λv19 H=>
  some (v19,H)):=
 lpE.trans (by kernel_rfl)
theorem ajW:Rn1 124 adO:=λ_ _ _ _ h=>
 rnG adN Tryz.func124 (by kernel_rfl) (by kernel_rfl) h
def adP(C:aA)(a0 a1:AV)(H:ah):OA:=
 bnd (cv 158 9 a0 H) λv6 H=> bnd (cv 158 9 a1 H) λv8 H=> bo (bi .eql 9 v6 v8) λv9=>
 some (v9,H)
theorem ajX:Rn2 125 adP:=λ_ _ _ _ _ h=>
 rnG an0 Tryz.func125 (by kernel_rfl) (by kernel_rfl) h
def adQ(C:aA)(a0:AV)(H:ah):OA:=
 bo (bi .eql 158 a0 (.s (Go.Value.slice none 0 0))) λv4=>
 aI v4
 (some ((.s (Go.Value.slice none 0 0)),H))
 (bnd (bs 158 0 [] H) λv5 H=> bnd (app 5 1 1 v5 a0 H) λv7 H=>
  some (v7,H))
theorem ajY:Rn1 126 adQ:=λ_ _ _ _ h=>
 rnG an0 Tryz.func126 (by kernel_rfl) (by kernel_rfl) h
def X8(C:aA)(a0 a1 a2:AV)(H:ah):OA:=
 bnd (alc 99 [zI,zI,zI,zI,zI,zI,zI,zB,zN] H) λv6 H=>
 bnd (C 138 [a0,a1] H) λv10 H=> bo (un .not v10) λv11=>
 aI v11
 (bo (bd 99 []) λv12=> bnd (st 9 v6 v12 H) λ_ H=>
  bnd (lda 9 v6 H) λr0 _=> some (.tup [r0,(B false)],H))
 (bo (au a0) λv14=> fld v14 0 H λv16 H=> bnd (ix 4 v16 a1 H) λv18 H=> bnd (lda 4 v18 H) λv19 H=> bnd (C 43 [v19,a2] H) λv21 H=> bo (fl v21 1) λv22=> bnd (C 160 [v22] H) λv23 H=> bo (aF v23 0) λv24=> bo (aF v23 1) λv25=> bnd (st 9 v6 v24 H) λ_ H=>
  bnd (lda 9 v6 H) λr0 _=> some (.tup [r0,v25],H))
theorem adR:Rn3 127 X8:=λ_ _ _ _ _ _ h=>
 rnG an0 Tryz.func127 (by kernel_rfl) (by kernel_rfl) h
def ED(C:aA)(a0 a1 a2 a3:AV)(H:ah):OA:=
 bnd (fM 62 a0 H) λv4 H=> bnd (fM 99 a3 H) λv7 H=> bnd (alc 62 [zI,zI,zI,zI,zI,zI,zN,zI,zI] H) λv8 H=>
 fld v4 0 H λv11 H=> bo (bi .neq 3 v11 (I 1)) λv12=> gdA (some v12) false (lda 9 v4 H) H λv14 H=> gdA (some v12) false (lda 9 v7 H) H λv15 H=> gdA (some v12) false (C 161 [v14,v15] H) H λv16 H=> gl v12 false (un .not v16) H λv17 H=> bo (bG v12 (B true) v17) λv18=>
 aI v18
 (bo (bd 62 []) λv19=> bnd (st 9 v8 v19 H) λ_ H=>
  bnd (lda 9 v8 H) λr0 _=> some (.tup [r0,(B false)],H))
 (fld v4 3 H λv21 H=>
  bo (bi .eql 3 v21 (I 1)) λv23=>
  aI v23
  (bnd (lda 9 v4 H) λv24 H=> bnd (lda 9 v7 H) λv27 H=> bnd (C 162 [v24,a1,a2,v27] H) λv28 H=> bo (aF v28 0) λv29=> bo (aF v28 1) λv30=> bnd (st 9 v8 v29 H) λ_ H=>
  bnd (lda 9 v8 H) λr0 _=> some (.tup [r0,v30],H))
  (bo (bi .eql 3 v21 (I 2)) λv32=>
  aI v32
  (bnd (lda 9 v4 H) λv33 H=> bnd (lda 9 v7 H) λv36 H=> bnd (C 163 [v33,a1,a2,v36] H) λv37 H=> bo (aF v37 0) λv38=> bo (aF v37 1) λv39=> bnd (st 9 v8 v38 H) λ_ H=>
   bnd (lda 9 v8 H) λr0 _=> some (.tup [r0,v39],H))
  (bo (bi .eql 3 v21 (I 6)) λv41=>
   aI v41
   (bo (ak v4 3) λv42=> bnd (st 1 v42 (I 0) H) λ_ H=>
   bnd (lda 9 v4 H) λv43 H=> bnd (st 9 v8 v43 H) λ_ H=>
   bnd (lda 9 v8 H) λr0 _=> some (.tup [r0,(B true)],H))
   (bo (bd 62 []) λv44=> bnd (st 9 v8 v44 H) λ_ H=>
   bnd (lda 9 v8 H) λr0 _=> some (.tup [r0,(B false)],H)))))
theorem ajZ:Rn4 128 ED:=λ_ _ _ _ _ _ _ h=>
 rnG an0 Tryz.func128 (by kernel_rfl) (by kernel_rfl) h
def aj0:Ann:=⟨[],[(6,rF 8 (some true::rF 8 []))],[(6,[(3,10),(5,10),(5,12)])]⟩
def Cj(C:aA)(t1 t2 t4 t8:AV)(H:ah):OA:=
 fld t4 5 H λv51 H=> bo (ak t4 7) λv52=> bnd (st 1 v52 v51 H) λ_ H=>
 bnd (lda 9 t4 H) λv53 H=> bnd (C 164 [v53,t1,t2] H) λv56 H=> bnd (st 9 t8 v56 H) λ_ H=>
 bnd (lda 9 t8 H) λr0 _=> some (.tup [r0,(B true)],H)
def Cm(C:aA)(t1 t2 t4 t7 t8:AV)(H:ah):OA:=
 fld t7 5 H λv66 H=> bo (ak t4 7) λv67=> bnd (st 1 v67 v66 H) λ_ H=>
 bnd (lda 9 t4 H) λv68 H=> bnd (C 164 [v68,t1,t2] H) λv71 H=> bnd (st 9 t8 v71 H) λ_ H=>
 bnd (lda 9 t8 H) λr0 _=> some (.tup [r0,(B true)],H)
def yK(C:aA)(a0 a1 a2 a3:AV)(H:ah):OA:=
 bnd (fM 62 a0 H) λv4 H=> bnd (fM 99 a3 H) λv7 H=> bnd (alc 62 [zI,zI,zI,zI,zI,zI,zN,zI,zI] H) λv8 H=>
 fld v4 0 H λv13 H=> bo (bi .neq 3 v13 (I 2)) λv14=> gdA (some v14) false (lda 9 v4 H) H λv16 H=> gdA (some v14) false (lda 9 v7 H) H λv17 H=> gdA (some v14) false (C 161 [v16,v17] H) H λv18 H=> gl v14 false (un .not v18) H λv19 H=> bo (bG v14 (B true) v19) λv20=>
 aI v20
 (bo (bd 62 []) λv21=> bnd (st 9 v8 v21 H) λ_ H=>
  bnd (lda 9 v8 H) λr0 _=> some (.tup [r0,(B false)],H))
 (fld v4 1 H λv25 H=> bnd (C 98 [a2,v25] H) λv26 H=> bo (aF v26 0) λv27=> bo (aF v26 1) λv28=> bnd (alc 117 [zI,zI,zI,zI,zB,zN] H) λv10 H=> bnd (st 6 v10 v27 H) λ_ H=>
  fld v4 3 H λv30 H=>
  bo (bi .eql 3 v30 (I 1)) λv32=>
  aI v32
  (fld v7 6 H λv34 H1=> bo (ak v7 5) λv35=> bnd (ld v35 H1) λv36 H3=> bo (ak v7 5) λv37=> bnd (ld v37 H3) λv38 H5=> fld v7 8 H5 λv40 H7=> bnd (unG H7 (C 12 [v40] H7.guard)) λv41 H8=> bo (ak v4 4) λv42=> bnd (st 1 v42 v34 H8) λ_ H10=> bo (ak v4 5) λv43=> bnd (st 1 v43 v36 H10) λ_ H12=> bo (ak v4 8) λv44=> bnd (st 1 v44 v38 H12) λ_ H14=> bo (ak v4 6) λv45=> bnd (st 1 v45 v41 H14) λ_ H16=> ck (bD v35) H8 H10 <| ck (bD v37) H8 H10 <| ck (bD v37) H10 H12 <|
  aI v28
  (fld v10 5 H16 λv48 H16=> bo (ak v4 6) λv49=> bnd (st 1 v49 v48 H16) λ_ H16=>
   Cj C a1 a2 v4 v8 H16)
  (Cj C a1 a2 v4 v8 H16))
  (bo (bi .eql 3 v30 (I 3)) λv58=>
  aI v58
  (bo (un .not v28) λv60=>
   aI v60
   (fld v7 8 H λv62 H=> bnd (C 12 [v62] H) λv63 H=> bo (ak v4 6) λv64=> bnd (st 1 v64 v63 H) λ_ H=>
   Cm C a1 a2 v4 v7 v8 H)
   (Cm C a1 a2 v4 v7 v8 H))
  (bo (bi .eql 3 v30 (I 6)) λv73=>
   aI v73
   (bo (ak v4 3) λv74=> bnd (st 1 v74 (I 0) H) λ_ H=>
   bnd (lda 9 v4 H) λv75 H=> bnd (st 9 v8 v75 H) λ_ H=>
   bnd (lda 9 v8 H) λr0 _=> some (.tup [r0,(B true)],H))
   (bo (bd 62 []) λv76=> bnd (st 9 v8 v76 H) λ_ H=>
   bnd (lda 9 v8 H) λr0 _=> some (.tup [r0,(B false)],H)))))
theorem aj1:Rn4 129 yK:=λ_ _ _ _ _ _ _ h=>
 rnG aj0 Tryz.func129 (by kernel_rfl) (by kernel_rfl) h
def wQ(C:aA)(a0 a1 a2 a3:AV)(H:ah):OA:=
 bnd (fM 62 a0 H) λv4 H=> bnd (fM 99 a3 H) λv7 H=> bnd (alc 62 [zI,zI,zI,zI,zI,zI,zN,zI,zI] H) λv8 H=>
 fld v4 0 H λv11 H=> bo (bi .neq 3 v11 (I 3)) λv12=> gdA (some v12) false (lda 9 v4 H) H λv14 H=> gdA (some v12) false (lda 9 v7 H) H λv15 H=> gdA (some v12) false (C 161 [v14,v15] H) H λv16 H=> gl v12 false (un .not v16) H λv17 H=> bo (bG v12 (B true) v17) λv18=>
 aI v18
 (bo (bd 62 []) λv19=> bnd (st 9 v8 v19 H) λ_ H=>
  bnd (lda 9 v8 H) λr0 _=> some (.tup [r0,(B false)],H))
 (fld v4 3 H λv21 H=>
  bo (bi .eql 3 v21 (I 1)) λv23=>
  aI v23
  (bnd (lda 9 v4 H) λv24 H=> bnd (lda 9 v7 H) λv26 H=> bnd (C 165 [v24,a2,v26] H) λv27 H=> bnd (st 9 v8 v27 H) λ_ H=>
  bnd (lda 9 v8 H) λr0 _=> some (.tup [r0,(B true)],H))
  (bo (bi .eql 3 v21 (I 4)) λv29=>
  aI v29
  (fld v4 7 H λv31 H=> bo (bi .eql 3 v31 (I (-1))) λv32=>
   aI v32
   (bnd (lda 9 v4 H) λv33 H=> fld v4 8 H λv36 H=> bnd (C 166 [v33,a2,v36] H) λv37 H=> bnd (st 9 v8 v37 H) λ_ H=>
   bnd (lda 9 v8 H) λr0 _=> some (.tup [r0,(B true)],H))
   (bo (ak v4 3) λv38=> bnd (st 1 v38 (I 5) H) λ_ H=>
   bnd (lda 9 v4 H) λv39 H=> bnd (st 9 v8 v39 H) λ_ H=>
   bnd (lda 9 v8 H) λr0 _=> some (.tup [r0,(B true)],H)))
  (bo (bi .eql 3 v21 (I 5)) λv41=>
   aI v41
   (fld v4 5 H λv43 H=> bo (bi .eql 3 v43 (I (-1))) λv44=>
   aI v44
   (bnd (lda 9 v4 H) λv45 H=> fld v4 7 H λv48 H=> bnd (C 166 [v45,a2,v48] H) λv49 H=> bnd (st 9 v8 v49 H) λ_ H=>
    bnd (lda 9 v8 H) λr0 _=> some (.tup [r0,(B true)],H))
   (bnd (lda 9 v4 H) λv50 H=> fld v4 8 H λv53 H=> bnd (C 166 [v50,a2,v53] H) λv54 H=> bnd (st 9 v8 v54 H) λ_ H=>
    bnd (lda 9 v8 H) λr0 _=> some (.tup [r0,(B true)],H)))
   (bo (bi .eql 3 v21 (I 6)) λv56=>
   aI v56
   (bo (ak v4 3) λv57=> bnd (st 1 v57 (I 0) H) λ_ H=>
    bnd (lda 9 v4 H) λv58 H=> bnd (st 9 v8 v58 H) λ_ H=>
    bnd (lda 9 v8 H) λr0 _=> some (.tup [r0,(B true)],H))
   (bo (bd 62 []) λv59=> bnd (st 9 v8 v59 H) λ_ H=>
    bnd (lda 9 v8 H) λr0 _=> some (.tup [r0,(B false)],H))))))
theorem aj2:Rn4 130 wQ:=λ_ _ _ _ _ _ _ h=>
 rnG an0 Tryz.func130 (by kernel_rfl) (by kernel_rfl) h
def X9(C:aA)(a0 a1:AV)(H:ah):OA:=
 bo (au a0) λv6=> fld v6 2 H λv8 H=> bo (un .not v8) λv9=>
 aI v9
 (some ((I 6),H))
 (bo (au a0) λv13=> fld v13 1 H λv15 H=> bnd (bs 22 1 [(0,a1)] H) λv17 H=> bnd (app 3 1 8 v15 v17 H) λv18 H=> bo (au a0) λv19=> bo (ak v19 1) λv20=> bnd (st 1 v20 v18 H) λ_ H=> bo (au a0) λv21=> bo (ak v21 2) λv22=> bnd (st 1 v22 (B false) H) λ_ H=>
  some ((I 0),H))
theorem adS:Rn2 131 X9:=λ_ _ _ _ _ h=>
 rnG an0 Tryz.func131 (by kernel_rfl) (by kernel_rfl) h
def adT(C:aA)(a0 a1 a2 a3:AV)(H:ah):OA:=
 bo (au a0) λv10=> fld v10 0 H λv12 H=> bo (bd 137 [(0,a1),(1,a2),(2,(B true)),(3,a3)]) λv16=> bnd (bs 69 1 [(0,v16)] H) λv17 H=> bnd (app 137 4 32 v12 v17 H) λv18 H=> bo (au a0) λv19=> bo (ak v19 0) λv20=> bnd (st 1 v20 v18 H) λ_ H=>
 some (.tup [],H)
theorem aj3:Rn4 132 adT:=λ_ _ _ _ _ _ _ h=>
 rnG an0 Tryz.func132 (by kernel_rfl) (by kernel_rfl) h
def Ya(C:aA)(a0 a1:AV)(H:ah):OA:=
 bnd (fM 117 a0 H) λv2 H=>
 bnd (lda 6 v2 H) λv5 H=> bnd (C 167 [v5,a1] H) λv7 H=> bo (un .not v7) λv8=>
 aI v8
 (some ((I 0),H))
 (fld v2 5 H λv10 H=> bnd (ix 1 v10 a1 H) λv12 H=> bnd (ld v12 H) λv13 H=>
  some (v13,H))
theorem aj6:Rn2 133 Ya:=λ_ _ _ _ _ h=>
 rnG an0 Tryz.func133 (by kernel_rfl) (by kernel_rfl) h
def Sj(C:aA)(a0 a1 a2:AV)(H:ah):OA:=
 bo (au a0) λv8=> fld v8 4 H λv10 H=> bo (un .not v10) λv11=> gl v11 false (some a0) H λv13 H=> gl v11 false (au v13) H λv14 H=> gdA (some v11) false (lda 6 v14 H) H λv15 H=> gl v11 false (some a1) H λv16 H=> gdA (some v11) false (C 167 [v15,v16] H) H λv17 H=> gl v11 false (un .not v17) H λv18 H=> bo (bG v11 (B true) v18) λv19=>
 aI v19
 (some ((B false),H))
 (bo (au a0) λv22=> fld v22 5 H λv24 H=> bnd (C 12 [v24] H) λv25 H=> bo (au a0) λv26=> bo (ak v26 5) λv27=> bnd (st 1 v27 v25 H) λ_ H=>
  bo (au a0) λv29=> fld v29 5 H λv31 H=> bnd (ix 1 v31 a1 H) λv34 H=> bnd (st 1 v34 a2 H) λ_ H=>
  some ((B true),H))
theorem Yb:Rn3 134 Sj:=λ_ _ _ _ _ _ h=>
 rnG an0 Tryz.func134 (by kernel_rfl) (by kernel_rfl) h
def aj7:Ann:=⟨[],[(7,rF 8 []),(13,rF 11 [])],[]⟩
def MN(C:aA)(a0 a1:AV)(H:ah):OA:=
 bnd (fM 117 a1 H) λv3 H=>
 bnd (lda 6 v3 H) λv6 H=> bnd (C 146 [v6] H) λv7 H=> bnd (st 6 v3 v7 H) λ_ H=>
 fld v3 2 H λv9 H=> bo (bi .lss 3 v9 (I 0)) λv10=>
 aI v10
 (some ((I 1),H))
 (fld v3 2 H λv13 H=> bnd (C 145 [a0,v13] H) λv14 H=>
  bo (bi .geq 3 v14 (I 0)) λv16=>
  aI v16
  (bo (au a0) λv18=> fld v18 0 H λv20 H=> bnd (ix 6 v20 v14 H) λv22 H=> fld v22 3 H λv24 H=> bo (ak v3 3) λv25=> bnd (st 1 v25 v24 H) λ_ H=>
  bo (au a0) λv27=> fld v27 0 H λv29 H=> bnd (lda 6 v3 H) λv31 H=> bnd (ix 6 v29 v14 H) λv32 H=> bnd (st 6 v32 v31 H) λ_ H=>
  some ((I 0),H))
  (fld v3 2 H λv35 H=> bnd (C 101 [a0,v35] H) λv36 H=>
  aI v36
  (some ((I 5),H))
  (bo (au a0) λv38=> fld v38 3 H λv40 H=> bo (bi .add 3 v40 (I 1)) λv41=> bo (au a0) λv42=> bo (ak v42 3) λv43=> bnd (st 1 v43 v41 H) λ_ H=>
   bo (au a0) λv45=> fld v45 3 H λv47 H=> bo (ak v3 3) λv48=> bnd (st 1 v48 v47 H) λ_ H=>
   bo (au a0) λv51=> fld v51 0 H λv53 H=> bnd (lda 6 v3 H) λv54 H=> bnd (bs 127 1 [(0,v54)] H) λv55 H=> bnd (app 117 6 64 v53 v55 H) λv56 H=> bo (au a0) λv57=> bo (ak v57 0) λv58=> bnd (st 1 v58 v56 H) λ_ H=>
   some ((I 0),H))))
theorem aj8:Rn2 135 MN:=λ_ _ _ _ _ h=>
 rnG aj7 Tryz.func135 (by kernel_rfl) (by kernel_rfl) h
def aj9:Ann:=⟨[],[(1,some false::some false::some true::rF 7 (none::some false::[])),(11,rF 8 []),(13,rF 8 []),(15,rF 10 (some true::rF 8 []))],[(11,[(3,5)]),(13,[(3,5)]),(15,[(3,12),(5,12),(5,14),(6,12),(6,14)])]⟩
def mX(C:aA)(t6 t7:AV)(H:ah):OA:=
 bnd (lda 9 t7 H) λv69 H=> bnd (st 9 t6 v69 H) λ_ H=>
 bnd (lda 9 t6 H) λr0 _=> some (r0,H)
def Bf(C:aA)(a0 a1 a2:AV)(H:ah):OA:=
 bnd (fM 62 a0 H) λv3 H=> bnd (alc 99 [zI,zI,zI,zI,zI,zI,zI,zB,zN] H) λv6 H=>
 bnd (alc 99 [zI,zI,zI,zI,zI,zI,zI,zB,zN] H) λv7 H=> fld v3 3 H λv9 H=> bnd (unG H (C 168 [v9] H.guard)) λv10 H=> fld v3 2 H λv14 H=> fld v3 1 H λv16 H=> bo (bd 99 [(0,v10),(1,a1),(2,a2),(3,v14),(4,v16)]) λv17=> bnd (st 9 v7 v17 H) λ_ H=>
 fld v3 3 H λv19 H=>
 bo (bi .eql 3 v19 (I 1)) λv22=>
 aI v22
 (bnd (lda 9 v7 H) λv23 H=> bnd (st 9 v6 v23 H) λ_ H=>
  bnd (lda 9 v6 H) λr0 _=> some (r0,H))
 (bo (bi .eql 3 v19 (I 2)) λv25=>
  aI v25
  (fld v3 5 H λv27 H=> bo (ak v7 2) λv29=> bnd (st 1 v29 v27 H) λ_ H=> bo (ak v7 5) λv30=> bnd (st 1 v30 a1 H) λ_ H=>
  mX C v6 v7 H)
  (bo (bi .eql 3 v19 (I 3)) λv32=>
  aI v32
  (fld v3 7 H λv34 H=> bo (ak v7 2) λv35=> bnd (st 1 v35 v34 H) λ_ H=>
   mX C v6 v7 H)
  (bo (bi .eql 3 v19 (I 4)) λv37=>
   aI v37
   (fld v3 5 H λv39 H1=> bo (ak v3 7) λv40=> bnd (ld v40 H1) λv41 H3=> bo (ak v7 2) λv42=> bnd (st 1 v42 v39 H3) λ_ H5=> bo (ak v7 5) λv43=> bnd (st 1 v43 v41 H5) λ_ H7=> ck (bD v40) H3 H5 <|
   mX C v6 v7 H7)
   (bo (bi .eql 3 v19 (I 5)) λv45=>
   aI v45
   (fld v3 7 H λv47 aod=> bo (ak v3 5) λv48=> bnd (ld v48 aod) λv49 ahc=> bo (ak v7 2) λv50=> bnd (st 1 v50 v47 ahc) λ_ ajx=> bo (ak v7 5) λv51=> bnd (st 1 v51 v49 ajx) λ_ apy=> ck (bD v48) ahc ajx <|
    mX C v6 v7 apy)
   (bo (bi .eql 3 v19 (I 6)) λv53=>
    aI v53
    (fld v3 4 H λv55 apA=> bo (ak v3 5) λv56=> bnd (ld v56 apA) λv57 apB=> bo (ak v3 6) λv58=> bnd (ld v58 apB) λv59 ame=> bnd (lnS v59 ame) λv60 apC=> bo (bi .gtr 3 v60 (I 0)) λv61=> bo (ak v3 6) λv62=> bnd (ld v62 apC) λv63 H9=> bnd (unG H9 (C 12 [v63] H9.guard)) λv64 H10=> bo (ak v7 6) λv65=> bnd (st 1 v65 v55 H10) λ_ H12=> bo (ak v7 5) λv66=> bnd (st 1 v66 v57 H12) λ_ H14=> bo (ak v7 7) λv67=> bnd (st 1 v67 v61 H14) λ_ H16=> bo (ak v7 8) λv68=> bnd (st 1 v68 v64 H16) λ_ H18=> ck (bD v56) H10 H12 <| ck (bD v58) H10 H12 <| ck (bD v58) H12 H14 <| ck (bD v59) H10 H12 <| ck (bD v59) H12 H14 <|
    mX C v6 v7 H18)
    (bo (bd 99 []) λv20=> bnd (st 9 v6 v20 H) λ_ H=>
    bnd (lda 9 v6 H) λr0 _=> some (r0,H)))))))
theorem akb:Rn3 136 Bf:=λ_ _ _ _ _ _ h=>
 rnG aj9 Tryz.func136 (by kernel_rfl) (by kernel_rfl) h
def adU:Ann:=⟨[(4,[0,3,11,12,13])],[],[]⟩
def CB:=jL Tryz.prog Tryz.f137 33 adU 0
def yL(C:aA)(t0 t3 t11 t12 t13:AV)(H:ah):OA:=
 bo (bi .add 3 t13 (I 1)) λv31=>
 CB C [t0,t3,t11,t12,v31] H
def adV(C:aA)(a0:AV)(H:ah):OA:=
 bo (au a0) λv7=> fld v7 1 H λv9 H=> bnd (C 169 [v9] H) λv10 H=> bnd (C 60 [v10] H) λv11 H=> bnd (lnS v11 H) λv12 H=>
 CB C [a0,(.s (Go.Value.slice none 0 0)),v11,v12,(I 0)] H
theorem Sl(C:aA)(t0 t3 t11 t12 t13:AV)(H:ah):CB C [t0,t3,t11,t12,t13] H=
 bo (bi .lss 3 t13 t12) λv14=>
 aI v14
 (bnd (ix 1 t11 t13 H) λv15 H=> bnd (ld v15 H) λv16 H=>
  bnd (C 170 [t0,v16] H) λv19 H=> bo (un .not v19) λv20=> gl v20 true (some t0) H λv22 H=> gl v20 true (some v16) H λv23 H=> gdA (some v20) true (C 171 [v22,v23] H) H λv24 H=> gl v20 true (bi .gtr 3 v24 (I 0)) H λv25 H=> bo (bG v20 v25 (B false)) λv26=>
  aI v26
  (bnd (bs 22 1 [(0,v16)] H) λv29 H=> bnd (app 3 1 8 t3 v29 H) λv30 H=>
  yL C t0 v30 t11 t12 t13 H)
  (yL C t0 t3 t11 t12 t13 H))
 (some (t3,H)):=
 lpE.trans (by kernel_rfl)
theorem akc:Rn1 137 adV:=λ_ _ _ _ h=>
 rnG adU Tryz.func137 (by kernel_rfl) (by kernel_rfl) h
def Yc(C:aA)(a0 a1:AV)(H:ah):OA:=
 bo (bi .geq 3 a1 (I 0)) λv6=> gl v6 true (some a1) H λv8 H=> gl v6 true (some a0) H λv9 H=> gl v6 true (au v9) H λv10 H=> gl v6 true (ak v10 0) H λv11 H=> gdA (some v6) true (ld v11 H) H λv12 H=> gdA (some v6) true (lnS v12 H) H λv13 H=> gl v6 true (bi .lss 3 v8 v13) H λv14 H=> bo (bG v6 v14 (B false)) λv15=>
 some (v15,H)
theorem akd:Rn2 138 Yc:=λ_ _ _ _ _ h=>
 rnG an0 Tryz.func138 (by kernel_rfl) (by kernel_rfl) h
def ake:Ann:=⟨[],[(1,rF 11 [])],[]⟩
def adW(C:aA)(a0:AV)(H:ah):OA:=
 bo (au a0) λv4=> fld v4 1 H λv6 H=> bo (au a0) λv8=> fld v8 0 H λv10 H=> bnd (lnS v10 H) λv11 H=> bo (bi .sub 3 v6 v11) λv12=>
 some (v12,H)
theorem akf:Rn1 139 adW:=λ_ _ _ _ h=>
 rnG ake Tryz.func139 (by kernel_rfl) (by kernel_rfl) h
def akg:Ann:=⟨[],[(4,rF 13 []),(5,rF 8 []),(6,rF 7 [])],[]⟩
def Sm(C:aA)(a0 a1:AV)(H:ah):OA:=
 bnd (C 170 [a0,a1] H) λv10 H=> gl v10 false (some a0) H λv12 H=> gl v10 false (some a1) H λv13 H=> gdA (some v10) false (C 171 [v12,v13] H) H λv14 H=> gl v10 false (bi .eql 3 v14 (I 0)) H λv15 H=> bo (bG v10 (B true) v15) λv16=>
 aI v16
 (some (.tup [(I 0),(I 0),(B false)],H))
 (bo (au a0) λv18=> fld v18 1 H λv20 H=> bnd (lk .i64 (.slice none 0 0) v20 a1 false H) λv22 H=> bnd (ix 2 v22 (I 0) H) λv23 H=> bnd (lda 2 v23 H) λv24 H=> bnd (alc 251 [zI,zI] H) λv7 H=> bnd (st 2 v7 v24 H) λ_ H=>
  bo (au a0) λv26=> fld v26 1 H λv28 H=> bo (au a0) λv31=> fld v31 1 H λv33 H=> bnd (lk .i64 (.slice none 0 0) v33 a1 false H) λv35 H=> bo (slS 2 v35 (some (I 1)) none none) λv36=> bnd (mup .i64 v28 a1 v36 H) λ_ H=>
  bo (au a0) λv38=> fld v38 0 H λv40 H=> fld v7 0 H λv43 H=> bnd (mup .i64 v40 a1 v43 H) λ_ H=>
  fld v7 0 H λv45 H=> fld v7 1 H λv47 H=>
  some (.tup [v45,v47,(B true)],H))
theorem akh:Rn2 140 Sm:=λ_ _ _ _ _ h=>
 rnG akg Tryz.func140 (by kernel_rfl) (by kernel_rfl) h
def aki:Ann:=⟨[],[(2,rF 15 [])],[]⟩
def adX(C:aA)(a0 a1 a2 a3:AV)(H:ah):OA:=
 bnd (alc 99 [zI,zI,zI,zI,zI,zI,zI,zB,zN] H) λv8 H=>
 bo (au a0) λv13=> fld v13 0 H λv15 H=> bnd (C 155 [v15,a1] H) λv17 H=> bo (aF v17 0) λv18=> bo (aF v17 1) λv19=> bnd (alc 130 [zI,zI,zN] H) λv9 H=> bnd (st 3 v9 v18 H) λ_ H=>
 bo (au a0) λv21=> fld v21 10 H λv23 H=> fld v9 0 H λv28 H=> fld v9 1 H λv30 H=> fld v9 2 H λv32 H=> bo (bd 99 [(0,(I 7)),(1,v23),(2,a2),(3,a3),(4,a1),(6,v28),(5,v30),(8,v32)]) λv33=> bnd (st 9 v8 v33 H) λ_ H=>
 bnd (lda 9 v8 H) λr0 _=> some (r0,H)
theorem akj:Rn4 141 adX:=λ_ _ _ _ _ _ _ h=>
 rnG aki Tryz.func141 (by kernel_rfl) (by kernel_rfl) h
def akk:Ann:=⟨[],[(3,rF 6 (some true::rF 5 []))],[]⟩
def Yd(C:aA)(a0 a1:AV)(H:ah):OA:=
 bnd (fM 99 a1 H) λv3 H=>
 bnd (C 139 [a0] H) λv6 H=> bo (bi .eql 3 v6 (I 0)) λv7=>
 aI v7
 (some ((I 5),H))
 (bo (au a0) λv10=> fld v10 0 H λv12 H=> bnd (lda 9 v3 H) λv13 H=> bnd (unG H (C 117 [v13] H.guard)) λv14 H=> bnd (bs 144 1 [(0,v14)] H) λv15 H=> bnd (app 99 9 88 v12 v15 H) λv16 H=> bo (au a0) λv17=> bo (ak v17 0) λv18=> bnd (st 1 v18 v16 H) λ_ H=>
  some ((I 0),H))
theorem adY:Rn2 142 Yd:=λ_ _ _ _ _ h=>
 rnG akk Tryz.func142 (by kernel_rfl) (by kernel_rfl) h
def akl:Ann:=⟨[],[(1,rF 23 []),(4,rF 6 (some true::rF 15 [])),(7,rF 12 []),(13,rF 14 [])],[]⟩
def qV(C:aA)(a0 a1:AV)(H:ah):OA:=
 bnd (fM 99 a1 H) λv3 H=> bnd (alc 99 [zI,zI,zI,zI,zI,zI,zI,zB,zN] H) λv4 H=>
 bnd (lda 9 v3 H) λv9 H=> bnd (C 118 [v9] H) λv10 H=> bo (bi .eql 29 v10 (I 0)) λv11=> gl v11 true (ak v3 2) H λv13 H=> gdA (some v11) true (ld v13 H) H λv14 H=> gl v11 true (some a0) H λv15 H=> gl v11 true (au v15) H λv16 H=> gl v11 true (ak v16 10) H λv17 H=> gdA (some v11) true (ld v17 H) H λv18 H=> gl v11 true (bi .eql 3 v14 v18) H λv19 H=> bo (bG v11 v19 (B false)) λv20=> gl v20 true (ak v3 1) H λv22 H=> gdA (some v20) true (ld v22 H) H λv23 H=> gl v20 true (some a0) H λv24 H=> gl v20 true (au v24) H λv25 H=> gl v20 true (ak v25 2) H λv26 H=> gl v20 true (ak v26 0) H λv27 H=> gdA (some v20) true (ld v27 H) H λv28 H=> gl v20 true (bi .lss 3 v23 v28) H λv29 H=> bo (bG v20 v29 (B false)) λv30=>
 bo (un .not v30) λv32=> gl v32 false (ak v3 0) H λv34 H=> gdA (some v32) false (ld v34 H) H λv35 H=> gl v32 false (bi .neq 3 v35 (I 1)) H λv36 H=> gl v32 false (some v36) H λv37 H=> gl v37 true (ak v3 0) H λv38 H=> gdA (some v37) true (ld v38 H) H λv39 H=> gl v37 true (bi .neq 3 v39 (I 2)) H λv40 H=> gl v32 false (bG v37 v40 (B false)) H λv41 H=> bo (bG v32 (B true) v41) λv42=>
 aI v42
 (bo (bd 99 []) λv43=> bnd (st 9 v4 v43 H) λ_ H=>
  bnd (lda 9 v4 H) λr0 _=> some (.tup [r0,(B false),(I 1)],H))
 (bo (au a0) λv45=> bo (ak v45 2) λv46=> bnd (lda 8 v46 H) λv47 H=> fld v3 4 H λv49 H=> bnd (unG H (C 57 [v47,v49] H.guard)) λv50 H=> bo (au a0) λv52=> fld v52 10 H λv54 H=> bo (bi .neq 3 v50 v54) λv55=> gl v55 false (ak v3 4) H λv57 H=> gdA (some v55) false (ld v57 H) H λv58 H=> gl v55 false (some a0) H λv59 H=> gl v55 false (au v59) H λv60 H=> gl v55 false (ak v60 2) H λv61 H=> gl v55 false (ak v61 1) H λv62 H=> gdA (some v55) false (ld v62 H) H λv63 H=> gl v55 false (bi .geq 3 v58 v63) H λv64 H=> bo (bG v55 (B true) v64) λv65=>
  aI v65
  (bo (bd 99 []) λv66=> bnd (st 9 v4 v66 H) λ_ H=>
  bnd (lda 9 v4 H) λr0 _=> some (.tup [r0,(B false),(I 3)],H))
  (fld v3 0 H λv68 H=> bo (bi .eql 3 v68 (I 1)) λv69=>
  aI v69
  (bo (au a0) λv71=> fld v71 1 H λv73 H=> fld v3 4 H λv75 H=> fld v3 1 H λv77 H=> fld v3 3 H λv79 H=> bnd (C 172 [v73,v75,v77,v79] H) λv80 H=> bo (un .not v80) λv81=>
   aI v81
   (bo (bd 99 []) λv82=> bnd (st 9 v4 v82 H) λ_ H=>
   bnd (lda 9 v4 H) λr0 _=> some (.tup [r0,(B false),(I 0)],H))
   (fld v3 4 H λv85 H=> fld v3 1 H λv87 H=> fld v3 3 H λv89 H=> bnd (C 141 [a0,v85,v87,v89] H) λv90 H=> bnd (st 9 v4 v90 H) λ_ H=>
   bnd (lda 9 v4 H) λr0 _=> some (.tup [r0,(B true),(I 0)],H)))
  (bnd (lda 9 v3 H) λv92 H=> bnd (C 173 [a0,v92] H) λv93 H=>
   bo (bi .neq 29 v93 (I 0)) λv95=>
   aI v95
   (bo (bd 99 []) λv96=> bnd (st 9 v4 v96 H) λ_ H=>
   bnd (lda 9 v4 H) λr0 _=> some (.tup [r0,(B false),v93],H))
   (bo (au a0) λv99=> fld v99 10 H λaiV H=> fld v3 1 H λanp H=> fld v3 3 H λv105 H=> fld v3 4 H λv107 H=> bo (bd 99 [(0,(I 8)),(1,aiV),(2,anp),(3,v105),(4,v107)]) λapD=> bnd (st 9 v4 apD H) λ_ H=>
   bnd (lda 9 v4 H) λr0 _=> some (.tup [r0,(B true),(I 0)],H)))))
theorem akm:Rn2 143 qV:=λ_ _ _ _ _ h=>
 rnG akl Tryz.func143 (by kernel_rfl) (by kernel_rfl) h
def akn:Ann:=⟨[],[(6,some false::some false::some true::rF 9 (none::some false::[])),(9,rF 8 []),(17,rF 13 []),(20,rF 6 [])],[(9,[(3,5)]),(17,[(3,8),(6,8),(6,10)]),(20,[(0,3)])]⟩
def vO(C:aA)(t0 t4 t6 t8:AV)(H:ah):OA:=
 bnd (lda 9 t8 H) λv89 H0=> bnd (lda 6 t6 H0) λv91 H2=> bnd (C 135 [t0,v91] H2) λv92 H3=> bnd (st 9 t4 v89 H3) λ_ H4=> ck (bD t8) H2 H3 <|
 bnd (lda 9 t4 H4) λr0 _=> some (.tup [r0,v92],H4)
def yM(C:aA)(a0 a1:AV)(H:ah):OA:=
 bnd (fM 99 a1 H) λv3 H=> bnd (alc 99 [zI,zI,zI,zI,zI,zI,zI,zB,zN] H) λv4 H=>
 bnd (lda 9 v3 H) λv9 H=> bnd (C 118 [v9] H) λv10 H=> bo (bi .neq 29 v10 (I 0)) λv11=> gl v11 false (ak v3 0) H λv13 H=> gdA (some v11) false (ld v13 H) H λv14 H=> gl v11 false (bi .lss 3 v14 (I 3)) H λv15 H=> bo (bG v11 (B true) v15) λv16=> gl v16 false (ak v3 0) H λv18 H=> gdA (some v16) false (ld v18 H) H λv19 H=> gl v16 false (bi .gtr 3 v19 (I 6)) H λv20 H=> bo (bG v16 (B true) v20) λv21=>
 aI v21
 (bo (bd 99 []) λv22=> bnd (st 9 v4 v22 H) λ_ H=>
  bnd (lda 9 v4 H) λr0 _=> some (.tup [r0,(I 1)],H))
 (fld v3 4 H λv26 H=> bnd (C 98 [a0,v26] H) λv27 H=> bo (aF v27 0) λv28=> bo (aF v27 1) λv29=> bnd (alc 117 [zI,zI,zI,zI,zB,zN] H) λv6 H=> bnd (st 6 v6 v28 H) λ_ H=>
  bo (un .not v29) λv31=>
  aI v31
  (bo (bd 99 []) λv32=> bnd (st 9 v4 v32 H) λ_ H=>
  bnd (lda 9 v4 H) λr0 _=> some (.tup [r0,(I 3)],H))
  (bnd (alc 99 [zI,zI,zI,zI,zI,zI,zI,zB,zN] H) λv8 H=> fld v3 0 H λv34 H=> bnd (unG H (C 174 [v34] H.guard)) λv35 H=> fld v3 2 H λv37 H=> fld v3 1 H λv39 H=> fld v3 3 H λv41 H=> fld v3 4 H λv43 H=> bo (bd 99 [(0,v35),(1,v37),(2,v39),(3,v41),(4,v43)]) λv44=> bnd (st 9 v8 v44 H) λ_ H=>
  fld v3 0 H λv46 H=>
  bo (bi .eql 3 v46 (I 3)) λv48=>
  aI v48
  (fld v6 5 H λv50 H1=> bo (ak v6 4) λv51=> bnd (ld v51 H1) λv52 H3=> bo (ak v8 8) λv53=> bnd (st 1 v53 v50 H3) λ_ H5=> bo (ak v8 7) λv54=> bnd (st 1 v54 v52 H5) λ_ H7=> ck (bD v51) H3 H5 <|
   bo (ak v6 4) λv55=> bnd (st 1 v55 (B false) H7) λ_ H7=>
   bo (ak v6 0) λv56=> fld v3 5 H7 λv58 H7=> bnd (C 175 [v56,v58] H7) λv59 H7=>
   vO C a0 v4 v6 v8 H7)
  (bo (bi .eql 3 v46 (I 4)) λv61=>
   aI v61
   (bo (ak v6 0) λv62=> fld v3 5 H λv64 H=> bnd (C 176 [v62,v64] H) λv65 H=>
   vO C a0 v4 v6 v8 H)
   (bo (bi .eql 3 v46 (I 5)) λv67=>
   aI v67
   (bo (ak v6 0) λv68=> fld v3 5 H λv70 H=> bnd (C 175 [v68,v70] H) λv71 H=>
    vO C a0 v4 v6 v8 H)
   (bo (bi .eql 3 v46 (I 6)) λv73=>
    aI v73
    (fld v6 5 H λv75 aod=> bo (ak v6 4) λv76=> bnd (ld v76 aod) λv77 ahc=> bo (ak v6 0) λv78=> bo (ak v78 0) λv79=> bnd (ld v79 ahc) λv80 ako=> bo (ak v8 8) λv81=> bnd (st 1 v81 v75 ako) λ_ H8=> bo (ak v8 7) λv82=> bnd (st 1 v82 v77 H8) λ_ H10=> bo (ak v8 5) λv83=> bnd (st 1 v83 v80 H10) λ_ H12=> ck (bD v76) ako H8 <| ck (bD v79) ako H8 <| ck (bD v79) H8 H10 <|
    fld v3 4 H12 λv86 H12=> bnd (C 177 [a0,v86] H12) λv87 H12=>
    bnd (lda 9 v8 H12) λv88 H12=> bnd (st 9 v4 v88 H12) λ_ H12=>
    bnd (lda 9 v4 H12) λr0 _=> some (.tup [r0,(I 0)],H12))
    (vO C a0 v4 v6 v8 H))))))
theorem adZ:Rn2 144 yM:=λ_ _ _ _ _ h=>
 rnG akn Tryz.func144 (by kernel_rfl) (by kernel_rfl) h
def ad1(C:aA)(a0 a1:AV)(H:ah):OA:=
 bnd (fM 3 a1 H) λv3 H=>
 bo (au a0) λv6=> fld v6 0 H λv8 H=> bnd (C 154 [v8,(.fn (.func 178) [] [v3])] H) λv10 H=>
 some (v10,H)
theorem akp:Rn2 145 ad1:=λ_ _ _ _ _ h=>
 rnG an0 Tryz.func145 (by kernel_rfl) (by kernel_rfl) h
def ad2(C:aA)(a0:AV)(H:ah):OA:=
 bnd (fM 117 a0 H) λv1 H=> bnd (alc 117 [zI,zI,zI,zI,zB,zN] H) λv2 H=>
 fld v1 5 H λv4 H=> bnd (C 12 [v4] H) λv5 H=> bo (ak v1 5) λv6=> bnd (st 1 v6 v5 H) λ_ H=>
 bnd (lda 6 v1 H) λv7 H=> bnd (st 6 v2 v7 H) λ_ H=>
 bnd (lda 6 v2 H) λr0 _=> some (r0,H)
theorem akq:Rn1 146 ad2:=λ_ _ _ _ h=>
 rnG an0 Tryz.func146 (by kernel_rfl) (by kernel_rfl) h
def ad3(C:aA)(a0 a1 a2:AV)(H:ah):OA:=
 bnd (alc 62 [zI,zI,zI,zI,zI,zI,zN,zI,zI] H) λv6 H=>
 bo (bd 62 [(0,a0),(1,a1),(2,a2),(3,(I 1)),(5,(I (-1))),(7,(I (-1))),(8,(I (-1)))]) λv10=> bnd (st 9 v6 v10 H) λ_ H=>
 bnd (lda 9 v6 H) λr0 _=> some (r0,H)
theorem akr:Rn3 147 ad3:=λ_ _ _ _ _ _ h=>
 rnG an0 Tryz.func147 (by kernel_rfl) (by kernel_rfl) h
def ad4:Ann:=⟨[(4,[0,1,5,11,12,13])],[(5,rF 18 [])],[]⟩
def CG:=jL Tryz.prog Tryz.f148 41 ad4 0
def yN(C:aA)(t0 t1 t5 t11 t12 t13:AV)(H:ah):OA:=
 bo (bi .add 3 t13 (I 1)) λv39=>
 CG C [t0,t1,t5,t11,t12,v39] H
def ad5(C:aA)(a0 a1:AV)(H:ah):OA:=
 bo (au a0) λv9=> fld v9 0 H λv11 H=> bnd (lnS v11 H) λv12 H=>
 CG C [a0,a1,(.s (Go.Value.slice none 0 0)),v11,v12,(I 0)] H
theorem Sr(C:aA)(t0 t1 t5 t11 t12 t13:AV)(H:ah):CG C [t0,t1,t5,t11,t12,t13] H=
 bo (bi .lss 3 t13 t12) λv14=>
 aI v14
 (bnd (ix 6 t11 t13 H) λv15 H=> bnd (lda 6 v15 H) λv16 H=> bnd (alc 117 [zI,zI,zI,zI,zB,zN] H) λv7 H=> bnd (st 6 v7 v16 H) λ_ H=>
  bo (bi .geq 3 t1 (I 0)) λv18=> gl v18 true (ak v7 2) H λv20 H=> gdA (some v18) true (ld v20 H) H λv21 H=> gl v18 true (some t0) H λv22 H=> gl v18 true (au v22) H λv23 H=> gl v18 true (ak v23 1) H λv24 H=> gdA (some v18) true (ld v24 H) H λv25 H=> gl v18 true (bi .rem 3 v21 v25) H λv26 H=> gl v18 true (some t1) H λv27 H=> gl v18 true (some t0) H λv28 H=> gl v18 true (au v28) H λv29 H=> gl v18 true (ak v29 1) H λv30 H=> gdA (some v18) true (ld v30 H) H λv31 H=> gl v18 true (bi .rem 3 v27 v31) H λv32 H=> gl v18 true (bi .eql 3 v26 v32) H λv33 H=> bo (bG v18 v33 (B false)) λv34=>
  aI v34
  (bnd (lda 6 v7 H) λv36 H=> bnd (bs 127 1 [(0,v36)] H) λv37 H=> bnd (app 117 6 64 t5 v37 H) λv38 H=>
  yN C t0 t1 v38 t11 t12 t13 H)
  (yN C t0 t1 t5 t11 t12 t13 H))
 (some (t5,H)):=
 lpE.trans (by kernel_rfl)
theorem aks:Rn2 148 ad5:=λ_ _ _ _ _ h=>
 rnG ad4 Tryz.func148 (by kernel_rfl) (by kernel_rfl) h
def ad6:Ann:=⟨[(6,[0,1,4,5,6])],[(7,rF 8 [])],[]⟩
def CJ:=jL Tryz.prog Tryz.f149 33 ad6 0
def Jv(C:aA)(t0 t1 t4:AV)(H:ah):OA:=
 bnd (ix 6 t0 (I 0) H) λv12 H=> bnd (lda 6 v12 H) λv13 H=> bnd (alc 117 [zI,zI,zI,zI,zB,zN] H) λv5 H=> bnd (st 6 v5 v13 H) λ_ H=>
 CJ C [t0,t1,t4,v5,(I 1)] H
def CO(C:aA)(t0 t1 t4 t5 t6:AV)(H:ah):OA:=
 bo (bi .add 3 t6 (I 1)) λv19=>
 CJ C [t0,t1,t4,t5,v19] H
def ad7(C:aA)(a0 a1:AV)(H:ah):OA:=
 bnd (alc 117 [zI,zI,zI,zI,zB,zN] H) λv4 H=>
 bnd (lnS a0 H) λv8 H=> bo (bi .lss 3 v8 (I 1)) λv9=>
 aI v9
 (bnd (stk H) λv10 H=> bnd (stk H) λ_ H=>
  Jv C a0 a1 v4 H)
 (Jv C a0 a1 v4 H)
theorem Sv(C:aA)(t0 t1 t4 t5 t6:AV)(H:ah):CJ C [t0,t1,t4,t5,t6] H=
 bnd (lnS t0 H) λv16 H=> bo (bi .lss 3 t6 v16) λv17=>
 aI v17
 (bnd (ix 6 t0 t6 H) λv23 H=> bnd (lda 6 v23 H) λv24 H=> bnd (lda 6 t5 H) λv25 H=> bnd (oH Tryz.prog C t1 [v24,v25] H) λv26 H=> bo (bi .lss 3 v26 (I 0)) λv27=>
  aI v27
  (bnd (ix 6 t0 t6 H) λv30 H=> bnd (lda 6 v30 H) λv31 H=> bnd (st 6 t5 v31 H) λ_ H=>
  CO C t0 t1 t4 t5 t6 H)
  (CO C t0 t1 t4 t5 t6 H))
 (bnd (lda 6 t5 H) λv32 H=> bnd (st 6 t4 v32 H) λ_ H=>
  bnd (lda 6 t4 H) λr0 _=> some (r0,H)):=
 lpE.trans (by kernel_rfl)
theorem akt:Rn2 149 ad7:=λ_ _ _ _ _ h=>
 rnG ad6 Tryz.func149 (by kernel_rfl) (by kernel_rfl) h
def ad8(C:aA)(a0 a1:AV)(H:ah):OA:=
 bnd (fM 117 a0 H) λv2 H=> bnd (fM 117 a1 H) λv3 H=>
 fld v2 3 H λv6 H=> fld v3 3 H λv8 H=> bo (bi .sub 3 v6 v8) λv9=>
 some (v9,H)
theorem aku:Rn2 150 ad8:=λ_ _ _ _ _ h=>
 rnG an0 Tryz.func150 (by kernel_rfl) (by kernel_rfl) h
def ad9:Ann:=⟨[(3,[0,1,7,8])],[],[]⟩
def CQ:=jL Tryz.prog Tryz.f154 19 ad9 0
def aea(C:aA)(a0 a1:AV)(H:ah):OA:=
 bnd (lnS a0 H) λv7 H=>
 CQ C [a0,a1,v7,(I 0)] H
theorem SA(C:aA)(t0 t1 t7 t8:AV)(H:ah):CQ C [t0,t1,t7,t8] H=
 bo (bi .lss 3 t8 t7) λv9=>
 aI v9
 (bnd (ix 6 t0 t8 H) λv14 H=> bnd (lda 6 v14 H) λv15 H=> bnd (oH Tryz.prog C t1 [v15] H) λv16 H=>
  aI v16
  (some (t8,H))
  (bo (bi .add 3 t8 (I 1)) λv18=>
  CQ C [t0,t1,t7,v18] H))
 (some ((I (-1)),H)):=
 lpE.trans (by kernel_rfl)
theorem akv:Rn2 154 aea:=λ_ _ _ _ _ h=>
 rnG ad9 Tryz.func154 (by kernel_rfl) (by kernel_rfl) h
def Ye(C:aA)(a0 a1:AV)(H:ah):OA:=
 bnd (alc 130 [zI,zI,zN] H) λv4 H=>
 bo (au a0) λv10=> fld v10 8 H λv12 H=> bnd (lk .i64 (.agg #[.int .i64 0,.int .i64 0,.slice none 0 0]) v12 a1 true H) λv14 H=> bo (aF v14 0) λv15=> bo (aF v14 1) λv16=> bnd (alc 130 [zI,zI,zN] H) λv6 H=> bnd (st 3 v6 v15 H) λ_ H=>
 fld v6 2 H λv18 H=> bnd (C 12 [v18] H) λv19 H=> bo (ak v6 2) λv20=> bnd (st 1 v20 v19 H) λ_ H=>
 bnd (lda 3 v6 H) λv21 H=> bnd (st 3 v4 v21 H) λ_ H=>
 bnd (lda 3 v4 H) λr0 _=> some (.tup [r0,v16],H)
theorem akw:Rn2 155 Ye:=λ_ _ _ _ _ h=>
 rnG an0 Tryz.func155 (by kernel_rfl) (by kernel_rfl) h
def MP(C:aA)(a0 a1 a2:AV)(H:ah):OA:=
 bo (bi .geq 3 a0 a1) λv9=> gl v9 true (some a0) H λv11 H=> gl v9 true (some a2) H λv12 H=> gl v9 true (bi .lss 3 v11 v12) H λv13 H=> bo (bG v9 v13 (B false)) λv14=>
 some (v14,H)
theorem aeb:Rn3 156 MP:=λ_ _ _ _ _ _ h=>
 rnG an0 Tryz.func156 (by kernel_rfl) (by kernel_rfl) h
def Yf:Ann:=⟨[(4,[3,7,8,9]),(8,[3,7,8,9,18])],[],[]⟩
def yO:=jL Tryz.prog Tryz.f157 30 Yf 0
def CS:=jL Tryz.prog Tryz.f157 30 Yf 1
def aec(C:aA)(a0:AV)(H:ah):OA:=
 bnd (lnS a0 H) λv8 H=>
 yO C [(.s (Go.Value.int Go.IntKind.u16 65535)),a0,v8,(I 0)] H
theorem SB(C:aA)(t3 t7 t8 t9:AV)(H:ah):yO C [t3,t7,t8,t9] H=
 bo (bi .lss 3 t9 t8) λv10=>
 aI v10
 (bnd (ix 1 t7 t9 H) λv11 H=> bnd (ld v11 H) λv12 H=>
  bnd (cv 5 33 v12 H) λv15 H=> bo (bi .shl 33 v15 (.s (Go.Value.int Go.IntKind.u64 8))) λv16=> bo (bi .xor 33 t3 v16) λv17=>
  CS C [v17,t7,t8,t9,(I 0)] H)
 (some (t3,H)):=
 lpE.trans (by kernel_rfl)
theorem SC(C:aA)(t3 t7 t8 t9 t18:AV)(H:ah):CS C [t3,t7,t8,t9,t18] H=
 bo (bi .lss 3 t18 (I 8)) λv19=>
 aI v19
 (bo (bi .shr 33 t3 (.s (Go.Value.int Go.IntKind.u64 15))) λv21=>
  bo (bi .shl 33 t3 (.s (Go.Value.int Go.IntKind.u64 1))) λv23=> bo (bi .mul 33 v21 (.s (Go.Value.int Go.IntKind.u16 4129))) λv25=> bo (bi .xor 33 v23 v25) λv26=>
  bo (bi .add 3 t18 (I 1)) λv27=>
  CS C [v26,t7,t8,t9,v27] H)
 (bo (bi .add 3 t9 (I 1)) λv28=>
  yO C [t3,t7,t8,v28] H):=
 lpE.trans (by kernel_rfl)
theorem akx:Rn1 157 aec:=λ_ _ _ _ h=>
 rnG Yf Tryz.func157 (by kernel_rfl) (by kernel_rfl) h
def Yg:Ann:=⟨[(4,[0,3,9,10,11]),(12,[6,25,26,27])],[],[]⟩
def Jw:=jL Tryz.prog Tryz.f158 36 Yg 0
def Jy:=jL Tryz.prog Tryz.f158 36 Yg 1
def CU(C:aA)(t0 t3 t9 t10 t11:AV)(H:ah):OA:=
 bo (bi .add 3 t11 (I 1)) λv22=>
 Jw C [t0,t3,t9,t10,v22] H
def aed(C:aA)(a0:AV)(H:ah):OA:=
 bnd (lnS a0 H) λv10 H=>
 Jw C [a0,(I 0),a0,v10,(I 0)] H
theorem Jz(C:aA)(t0 t3 t9 t10 t11:AV)(H:ah):Jw C [t0,t3,t9,t10,t11] H=
 bo (bi .lss 3 t11 t10) λv12=>
 aI v12
 (bnd (ix 1 t9 t11 H) λv13 H=> bnd (ld v13 H) λv14 H=>
  bnd (lnS v14 H) λv17 H=> bo (bi .add 3 t3 v17) λv18=>
  bo (bi .lss 3 v18 (I 0)) λv20=>
  aI v20
  (bnd (stk H) λv21 H=> bnd (stk H) λ_ H=>
  CU C t0 v18 t9 t10 t11 H)
  (CU C t0 v18 t9 t10 t11 H))
 (bnd (C 190 [(.s (Go.Value.slice none 0 0)),t3] H) λv24 H=>
  bnd (lnS t0 H) λv26 H=>
  Jy C [v24,t0,v26,(I 0)] H):=
 lpE.trans (by kernel_rfl)
theorem JA(C:aA)(t6 t25 t26 t27:AV)(H:ah):Jy C [t6,t25,t26,t27] H=
 bo (bi .lss 3 t27 t26) λv28=>
 aI v28
 (bnd (ix 1 t25 t27 H) λv29 H=> bnd (ld v29 H) λv30 H=>
  bnd (app 5 1 1 t6 v30 H) λv33 H=>
  bo (bi .add 3 t27 (I 1)) λv34=>
  Jy C [v33,t25,t26,v34] H)
 (some (t6,H)):=
 lpE.trans (by kernel_rfl)
theorem aky:Rn1 158 aed:=λ_ _ _ _ h=>
 rnG Yg Tryz.func158 (by kernel_rfl) (by kernel_rfl) h
def CV(C:aA)(t2 t4 t5:AV)(H:ah):OA:=
 bnd (lda 9 t4 H) λv20 H=> bnd (st 9 t2 v20 H) λ_ H=>
 bnd (lda 9 t2 H) λr0 _=> some (.tup [r0,t5],H)
def Yh(C:aA)(a0:AV)(H:ah):OA:=
 bnd (alc 99 [zI,zI,zI,zI,zI,zI,zI,zB,zN] H) λv2 H=>
 bnd (C 191 [a0] H) λv8 H=> bo (aF v8 0) λv9=> bo (aF v8 1) λv10=> bnd (alc 99 [zI,zI,zI,zI,zI,zI,zI,zB,zN] H) λv4 H=> bnd (st 9 v4 v9 H) λ_ H=>
 aI v10
 (bo (au a0) λv14=> fld v14 0 H λv16 H=> bnd (C 82 [v16,(I 0),(I 1)] H) λv17 H=> bo (au a0) λv18=> bo (ak v18 0) λv19=> bnd (st 1 v19 v17 H) λ_ H=>
  CV C v2 v4 v10 H)
 (CV C v2 v4 v10 H)
theorem akz:Rn1 160 Yh:=λ_ _ _ _ h=>
 rnG an0 Tryz.func160 (by kernel_rfl) (by kernel_rfl) h
def GR(C:aA)(a0 a1:AV)(H:ah):OA:=
 bnd (fM 62 a0 H) λv2 H=> bnd (fM 99 a1 H) λv3 H=>
 fld v2 3 H λv7 H=> bnd (C 168 [v7] H) λv8 H=> bnd (C 174 [v8] H) λv9 H=>
 bo (bi .neq 3 v9 (I 0)) λv11=> gl v11 true (ak v3 0) H λv13 H=> gdA (some v11) true (ld v13 H) H λv14 H=> gl v11 true (some v9) H λv15 H=> gl v11 true (bi .eql 3 v14 v15) H λv16 H=> bo (bG v11 v16 (B false)) λv17=> gl v17 true (ak v3 3) H λv19 H=> gdA (some v17) true (ld v19 H) H λv20 H=> gl v17 true (ak v2 2) H λv21 H=> gdA (some v17) true (ld v21 H) H λv22 H=> gl v17 true (bi .eql 3 v20 v22) H λv23 H=> bo (bG v17 v23 (B false)) λv24=> gl v24 true (ak v3 4) H λv26 H=> gdA (some v24) true (ld v26 H) H λv27 H=> gl v24 true (ak v2 1) H λv28 H=> gdA (some v24) true (ld v28 H) H λv29 H=> gl v24 true (bi .eql 3 v27 v29) H λv30 H=> bo (bG v24 v30 (B false)) λv31=>
 some (v31,H)
theorem akA:Rn2 161 GR:=λ_ _ _ _ _ h=>
 rnG an0 Tryz.func161 (by kernel_rfl) (by kernel_rfl) h
def akB:Ann:=⟨[],[(1,rF 8 (some true::rF 8 []))],[(1,[(3,10),(5,10),(5,12)])]⟩
def Yi(C:aA)(a0 a1 a2 a3:AV)(H:ah):OA:=
 bnd (fM 62 a0 H) λv4 H=> bnd (fM 99 a3 H) λv7 H=> bnd (alc 62 [zI,zI,zI,zI,zI,zI,zN,zI,zI] H) λv8 H=>
 fld v7 6 H λv11 H1=> bo (ak v7 5) λv12=> bnd (ld v12 H1) λv13 H3=> bo (ak v7 5) λv14=> bnd (ld v14 H3) λv15 H5=> fld v7 8 H5 λv17 H7=> bnd (unG H7 (C 12 [v17] H7.guard)) λv18 H8=> bo (ak v4 4) λv19=> bnd (st 1 v19 v11 H8) λ_ H10=> bo (ak v4 5) λv20=> bnd (st 1 v20 v13 H10) λ_ H12=> bo (ak v4 8) λv21=> bnd (st 1 v21 v15 H12) λ_ H14=> bo (ak v4 6) λv22=> bnd (st 1 v22 v18 H14) λ_ H16=> ck (bD v12) H8 H10 <| ck (bD v14) H8 H10 <| ck (bD v14) H10 H12 <|
 fld v4 4 H16 λv24 H16=> bo (bi .neq 3 v24 (I 0)) λv25=>
 aI v25
 (bo (ak v4 3) λv26=> bnd (st 1 v26 (I 2) H16) λ_ H16=>
  bnd (lda 9 v4 H16) λv27 H16=> bnd (st 9 v8 v27 H16) λ_ H16=>
  bnd (lda 9 v8 H16) λr0 _=> some (.tup [r0,(B true)],H16))
 (fld v4 1 H16 λv30 H16=> fld v7 8 H16 λv32 H16=> bnd (C 192 [v30,(I (-1)),(I (-1)),(B false),v32] H16) λv33 H16=> bnd (C 135 [a2,v33] H16) λv34 H16=>
  bo (ak v4 3) λv36=> bnd (st 1 v36 (I 6) H16) λ_ H16=> bo (ak v4 4) λv37=> bnd (st 1 v37 (I 1) H16) λ_ H16=> bo (ak v4 5) λv38=> bnd (st 1 v38 a1 H16) λ_ H16=> bo (ak v4 6) λv39=> bnd (st 1 v39 (.s (Go.Value.slice none 0 0)) H16) λ_ H16=>
  bnd (lda 9 v4 H16) λv40 H16=> bnd (st 9 v8 v40 H16) λ_ H16=>
  bnd (lda 9 v8 H16) λr0 _=> some (.tup [r0,(B true)],H16))
theorem akC:Rn4 162 Yi:=λ_ _ _ _ _ _ _ h=>
 rnG akB Tryz.func162 (by kernel_rfl) (by kernel_rfl) h
def CW(C:aA)(t4 t8:AV)(H:ah):OA:=
 bnd (lda 9 t4 H) λv30 H=> bnd (st 9 t8 v30 H) λ_ H=>
 bnd (lda 9 t8 H) λr0 _=> some (.tup [r0,(B true)],H)
def Yj(C:aA)(a0 a1 a2 a3:AV)(H:ah):OA:=
 bnd (fM 62 a0 H) λv4 H=> bnd (fM 99 a3 H) λv7 H=> bnd (alc 62 [zI,zI,zI,zI,zI,zI,zN,zI,zI] H) λv8 H=>
 fld v4 1 H λv12 H=> fld v4 5 H λv14 H=> fld v7 8 H λv16 H=> bnd (C 192 [v12,v14,(I (-1)),(B false),v16] H) λv17 H=> bnd (C 135 [a2,v17] H) λv18 H=>
 bo (ak v4 3) λv20=> bnd (st 1 v20 (I 6) H) λ_ H=> bo (ak v4 4) λv21=> bnd (st 1 v21 (I 1) H) λ_ H=> bo (ak v4 5) λv22=> bnd (st 1 v22 a1 H) λ_ H=> bo (ak v4 6) λv23=> bnd (st 1 v23 (.s (Go.Value.slice none 0 0)) H) λ_ H=>
 fld v7 7 H λv25 H=>
 aI v25
 (fld v7 8 H λv27 H=> bnd (C 12 [v27] H) λv28 H=> bo (ak v4 6) λv29=> bnd (st 1 v29 v28 H) λ_ H=>
  CW C v4 v8 H)
 (CW C v4 v8 H)
theorem akD:Rn4 163 Yj:=λ_ _ _ _ _ _ _ h=>
 rnG an0 Tryz.func163 (by kernel_rfl) (by kernel_rfl) h
def yP(C:aA)(t1 t2 t3 t6:AV)(H:ah):OA:=
 fld t3 7 H λv28 H=> bo (bi .neq 3 v28 (I (-1))) λv29=>
 aI v29
 (bo (ak t3 3) λv30=> bnd (st 1 v30 (I 3) H) λ_ H=>
  bnd (lda 9 t3 H) λv31 H=> bnd (st 9 t6 v31 H) λ_ H=>
  bnd (lda 9 t6 H) λr0 _=> some (r0,H))
 (fld t3 1 H λv34 H=> fld t3 6 H λv36 H=> bnd (C 192 [v34,(I (-1)),(I (-1)),(B true),v36] H) λv37 H=> bnd (C 135 [t2,v37] H) λv38 H=>
  bo (ak t3 3) λv40=> bnd (st 1 v40 (I 6) H) λ_ H=> bo (ak t3 4) λv41=> bnd (st 1 v41 (I 2) H) λ_ H=> bo (ak t3 5) λv42=> bnd (st 1 v42 t1 H) λ_ H=> bo (ak t3 6) λv43=> bnd (st 1 v43 (.s (Go.Value.slice none 0 0)) H) λ_ H=>
  bnd (lda 9 t3 H) λv44 H=> bnd (st 9 t6 v44 H) λ_ H=>
  bnd (lda 9 t6 H) λr0 _=> some (r0,H))
def MQ(C:aA)(a0 a1 a2:AV)(H:ah):OA:=
 bnd (fM 62 a0 H) λv3 H=> bnd (alc 62 [zI,zI,zI,zI,zI,zI,zN,zI,zI] H) λv6 H=>
 fld v3 1 H λv12 H=> bnd (C 98 [a2,v12] H) λv13 H=> bo (aF v13 0) λv14=> bo (aF v13 1) λv15=> bnd (alc 117 [zI,zI,zI,zI,zB,zN] H) λv7 H=> bnd (st 6 v7 v14 H) λ_ H=>
 fld v3 7 H λv17 H=> bo (bi .eql 3 v17 a1) λv19=> gl v19 true (some v15) H λv21 H=> bo (bG v19 v21 (B false)) λv22=>
 aI v22
 (bo (ak v7 0) λv23=> fld v23 0 H λv25 H=> bo (ak v3 7) λv26=> bnd (st 1 v26 v25 H) λ_ H=>
  yP C a1 a2 v3 v6 H)
 (yP C a1 a2 v3 v6 H)
theorem akE:Rn3 164 MQ:=λ_ _ _ _ _ _ h=>
 rnG an0 Tryz.func164 (by kernel_rfl) (by kernel_rfl) h
def akF:Ann:=⟨[],[(1,rF 14 []),(4,rF 12 []),(13,rF 9 [])],[(1,[(3,7),(5,7),(5,9)]),(4,[(5,7)]),(13,[(2,4)])]⟩
def qc(C:aA)(t3 t6:AV)(H:ah):OA:=
 bnd (lda 9 t3 H) λv65 H=> bnd (st 9 t6 v65 H) λ_ H=>
 bnd (lda 9 t6 H) λr0 _=> some (r0,H)
def GU(C:aA)(a0 a1 a2:AV)(H:ah):OA:=
 bnd (fM 62 a0 H) λv3 H=> bnd (fM 99 a2 H) λv5 H=> bnd (alc 62 [zI,zI,zI,zI,zI,zI,zN,zI,zI] H) λv6 H=>
 fld v5 6 H λv10 H1=> bo (ak v5 5) λv11=> bnd (ld v11 H1) λv12 H3=> bo (ak v5 5) λv13=> bnd (ld v13 H3) λv14 H5=> bo (ak v3 4) λv15=> bnd (st 1 v15 v10 H5) λ_ H7=> bo (ak v3 5) λv16=> bnd (st 1 v16 v12 H7) λ_ H9=> bo (ak v3 8) λv17=> bnd (st 1 v17 v14 H9) λ_ H11=> bo (ak v3 6) λv18=> bnd (st 1 v18 (.s (Go.Value.slice none 0 0)) H11) λ_ H13=> ck (bD v11) H5 H7 <| ck (bD v13) H5 H7 <| ck (bD v13) H7 H9 <|
 bo (ak v3 3) λv19=> bnd (st 1 v19 (I 6) H13) λ_ H13=>
 fld v3 1 H13 λv23 H13=> bnd (C 98 [a1,v23] H13) λv24 H13=> bo (aF v24 0) λv25=> bo (aF v24 1) λv26=> bnd (alc 117 [zI,zI,zI,zI,zB,zN] H13) λv7 H13=> bnd (st 6 v7 v25 H13) λ_ H13=>
 bo (un .not v26) λv38=>
 aI v38
 (bnd (lda 9 v3 H13) λv39 H13=> bnd (st 9 v6 v39 H13) λ_ H13=>
  bnd (lda 9 v6 H13) λr0 _=> some (r0,H13))
 (bo (ak v7 0) λv41=> bnd (lda 2 v41 H13) λv42 H13=> bnd (C 193 [v42] H13) λv43 H13=>
  aI v43
  (fld v3 1 H13 λv46 H13=> bnd (C 177 [a1,v46] H13) λv47 H13=>
  bo (ak v3 4) λv48=> bnd (st 1 v48 (I 0) H13) λ_ H13=> bo (ak v3 5) λv49=> bnd (st 1 v49 (I (-1)) H13) λ_ H13=>
  fld v7 4 H13 λv51 H13=>
  aI v51
  (fld v7 5 H13 λv53 H13=> bo (ak v3 6) λv54=> bnd (st 1 v54 v53 H13) λ_ H13=>
   qc C v3 v6 H13)
  (qc C v3 v6 H13))
  (bo (ak v7 0) λv56=> bnd (lda 2 v56 H13) λv57 H13=> bnd (C 194 [v57] H13) λv58 H13=>
  aI v58
  (bo (ak v7 0) λv59=> bo (ak v59 0) λv60=> bnd (ld v60 H13) λv61 ao3=> bo (ak v3 5) λv62=> bnd (st 1 v62 (I (-1)) ao3) λ_ ajw=> bo (ak v3 7) λv63=> bnd (st 1 v63 v61 ajw) λ_ ako=> bo (ak v3 3) λv64=> bnd (st 1 v64 (I 5) ako) λ_ apE=> ck (bD v60) ao3 ajw <|
   qc C v3 v6 apE)
  (bo (ak v7 0) λv27=> fld v27 1 H13 λv29 apF=> bo (ak v7 0) λv30=> bo (ak v30 0) λv31=> bnd (ld v31 apF) λv32 ame=> bo (ak v3 5) λv33=> bnd (st 1 v33 v29 ame) λ_ ao4=> bo (ak v3 7) λv34=> bnd (st 1 v34 v32 ao4) λ_ amd=> bo (ak v3 3) λv35=> bnd (st 1 v35 (I 4) amd) λ_ aoe=> ck (bD v31) ame ao4 <|
   qc C v3 v6 aoe)))
theorem akG:Rn3 165 GU:=λ_ _ _ _ _ _ h=>
 rnG akF Tryz.func165 (by kernel_rfl) (by kernel_rfl) h
def aee(C:aA)(a0 a1 a2:AV)(H:ah):OA:=
 bnd (fM 62 a0 H) λv3 H=> bnd (alc 62 [zI,zI,zI,zI,zI,zI,zN,zI,zI] H) λv6 H=>
 fld v3 1 H λv9 H=> bnd (C 177 [a1,v9] H) λv10 H=>
 bo (ak v3 3) λv12=> bnd (st 1 v12 (I 6) H) λ_ H=> bo (ak v3 4) λv13=> bnd (st 1 v13 (I 1) H) λ_ H=> bo (ak v3 5) λv14=> bnd (st 1 v14 a2 H) λ_ H=> bo (ak v3 6) λv15=> bnd (st 1 v15 (.s (Go.Value.slice none 0 0)) H) λ_ H=>
 bnd (lda 9 v3 H) λv16 H=> bnd (st 9 v6 v16 H) λ_ H=>
 bnd (lda 9 v6 H) λr0 _=> some (r0,H)
theorem akH:Rn3 166 aee:=λ_ _ _ _ _ _ h=>
 rnG an0 Tryz.func166 (by kernel_rfl) (by kernel_rfl) h
def MR(C:aA)(a0 a1:AV)(H:ah):OA:=
 bnd (fM 117 a0 H) λv2 H=>
 bo (bi .geq 3 a1 (I 0)) λv6=> gl v6 true (some a1) H λv8 H=> gl v6 true (ak v2 5) H λv9 H=> gdA (some v6) true (ld v9 H) H λv10 H=> gdA (some v6) true (lnS v10 H) H λv11 H=> gl v6 true (bi .lss 3 v8 v11) H λv12 H=> bo (bG v6 v12 (B false)) λv13=>
 some (v13,H)
theorem aef:Rn2 167 MR:=λ_ _ _ _ _ h=>
 rnG an0 Tryz.func167 (by kernel_rfl) (by kernel_rfl) h
def Bg(C:aA)(a0:AV)(H:ah):OA:=
 bo (bi .eql 3 a0 (I 1)) λv5=>
 aI v5
 (some ((I 1),H))
 (bo (bi .eql 3 a0 (I 2)) λv7=>
  aI v7
  (some ((I 3),H))
  (bo (bi .eql 3 a0 (I 3)) λv9=>
  aI v9
  (some ((I 6),H))
  (bo (bi .eql 3 a0 (I 4)) λv11=>
   aI v11
   (some ((I 4),H))
   (bo (bi .eql 3 a0 (I 5)) λv13=>
   aI v13
   (some ((I 5),H))
   (bo (bi .eql 3 a0 (I 6)) λv15=>
    aI v15
    (some ((I 2),H))
    (some ((I 0),H)))))))
theorem akI:Rn1 168 Bg:=λ_ _ _ _ h=>
 rnG an0 Tryz.func168 (by kernel_rfl) (by kernel_rfl) h
def aeg(C:aA)(a0:AV)(H:ah):OA:=
 bnd (fM 202 a0 H) λv1 H=>
 some ((.fn (.func 195) [] [v1]),H)
theorem akJ:Rn1 169 aeg:=λ_ _ _ _ h=>
 rnG an0 Tryz.func169 (by kernel_rfl) (by kernel_rfl) h
def Yk(C:aA)(a0 a1:AV)(H:ah):OA:=
 bo (au a0) λv9=> fld v9 0 H λv11 H=> bnd (lk .i64 (.int .i64 0) v11 a1 true H) λv13 H=> bo (aF v13 0) λv14=> bo (aF v13 1) λv15=>
 some (v15,H)
theorem akK:Rn2 170 Yk:=λ_ _ _ _ _ h=>
 rnG an0 Tryz.func170 (by kernel_rfl) (by kernel_rfl) h
def aeh(C:aA)(a0 a1:AV)(H:ah):OA:=
 bo (au a0) λv6=> fld v6 1 H λv8 H=> bnd (lk .i64 (.slice none 0 0) v8 a1 false H) λv10 H=> bnd (lnS v10 H) λv11 H=>
 some (v11,H)
theorem akL:Rn2 171 aeh:=λ_ _ _ _ _ h=>
 rnG an0 Tryz.func171 (by kernel_rfl) (by kernel_rfl) h
def akM:Ann:=⟨[],[(4,rF 17 [])],[(4,[(3,15)])]⟩
def MS(C:aA)(a0 a1 a2 a3:AV)(H:ah):OA:=
 bo (bi .lss 3 a2 (I 0)) λv10=>
 aI v10
 (some ((B false),H))
 (bnd (C 170 [a0,a1] H) λv13 H=> gl v13 false (some a0) H λv15 H=> gl v13 false (some a1) H λv16 H=> gdA (some v13) false (C 171 [v15,v16] H) H λv17 H=> gl v13 false (bi .gtr 3 v17 (I 0)) H λv18 H=> bo (bG v13 (B true) v18) λv19=>
  aI v19
  (bo (au a0) λv21=> bo (ak v21 1) λv22=> bnd (ld v22 H) λv23 H3=> bo (au a0) λv26=> fld v26 1 H3 λv28 H8=> bnd (lk .i64 (.slice none 0 0) v28 a1 false H8) λv30 H10=> bo (bd 251 [(0,a2),(1,a3)]) λv33=> bnd (bs 249 1 [(0,v33)] H10) λv34 H14=> bnd (app 251 2 16 v30 v34 H14) λv35 H15=> bnd (mup .i64 v23 a1 v35 H15) λ_ H16=> ck (bD v22) H14 H15 <|
  some ((B false),H16))
  (bo (au a0) λv37=> fld v37 0 H λv39 H=> bnd (mup .i64 v39 a1 a2 H) λ_ H=>
  some ((B true),H)))
theorem akN:Rn4 172 MS:=λ_ _ _ _ _ _ _ h=>
 rnG akM Tryz.func172 (by kernel_rfl) (by kernel_rfl) h
def akO:Ann:=⟨[],[(1,rF 6 (some true::rF 3 [])),(6,rF 13 []),(9,rF 10 [])],[]⟩
def vP(C:aA)(t0 t3 t5:AV)(H:ah):OA:=
 bo (au t0) λv22=> fld v22 0 H λv24 H=> fld t3 4 H λv26 H=> fld t3 6 H λv28 H=> fld t3 5 H λv30 H=> bnd (C 196 [v24,v26,v28,v30,t5] H) λv32 H=>
 bo (bi .neq 29 v32 (I 0)) λv34=>
 aI v34
 (some (v32,H))
 (bo (au t0) λv37=> fld v37 1 H λv39 H=> fld t3 4 H λv41 H=> fld t3 1 H λv43 H=> bnd (C 197 [v39,v41,v43] H) λv44 H=>
  some (v44,H))
def GV(C:aA)(a0 a1:AV)(H:ah):OA:=
 bnd (fM 99 a1 H) λv3 H=>
 bo (au a0) λv8=> fld v8 1 H λv10 H=> fld v3 4 H λv12 H=> bnd (unG H (C 105 [v10,v12] H.guard)) λv13 H=> fld v3 1 H λv15 H=> bo (bi .neq 3 v13 v15) λv16=>
 aI v16
 (some ((I 6),H))
 (fld v3 7 H λv18 H=>
  aI v18
  (fld v3 8 H λv20 H=>
  vP C a0 v3 v20 H)
  (vP C a0 v3 (.s (Go.Value.slice none 0 0)) H))
theorem akP:Rn2 173 GV:=λ_ _ _ _ _ h=>
 rnG akO Tryz.func173 (by kernel_rfl) (by kernel_rfl) h
def yQ(C:aA)(t10:AV)(H:ah):OA:=
 aI t10
 (some ((I 9),H))
 (some ((I 0),H))
def og(C:aA)(t3 t6:AV)(H:ah):OA:=
 aI t6
 (some ((I 8),H))
 (bo (bi .eql 3 t3 (I 3)) λv11=>
  aI v11
  (yQ C v11 H)
  (bo (bi .eql 3 t3 (I 6)) λv12=>
  yQ C v12 H))
def Bh(C:aA)(a0:AV)(H:ah):OA:=
 bo (bi .eql 3 a0 (I 1)) λv5=>
 aI v5
 (some ((I 7),H))
 (bo (bi .eql 3 a0 (I 2)) λv7=>
  aI v7
  (og C a0 v7 H)
  (bo (bi .eql 3 a0 (I 4)) λv8=>
  aI v8
  (og C a0 v8 H)
  (bo (bi .eql 3 a0 (I 5)) λv9=>
   og C a0 v9 H)))
theorem akQ:Rn1 174 Bh:=λ_ _ _ _ h=>
 rnG an0 Tryz.func174 (by kernel_rfl) (by kernel_rfl) h
def aei(C:aA)(a0 a1:AV)(H:ah):OA:=
 bo (au a0) λv6=> bo (ak v6 1) λv7=> bnd (st 1 v7 a1 H) λ_ H=>
 some (.tup [],H)
theorem akR:Rn2 175 aei:=λ_ _ _ _ _ h=>
 rnG an0 Tryz.func175 (by kernel_rfl) (by kernel_rfl) h
def aej(C:aA)(a0 a1:AV)(H:ah):OA:=
 bo (au a0) λv6=> bo (ak v6 0) λv7=> bnd (st 1 v7 a1 H) λ_ H=>
 some (.tup [],H)
theorem akS:Rn2 176 aej:=λ_ _ _ _ _ h=>
 rnG an0 Tryz.func176 (by kernel_rfl) (by kernel_rfl) h
def CX(C:aA)(t4 t6 t7:AV)(H:ah):OA:=
 bnd (lda 6 t6 H) λv30 H=> bnd (st 6 t4 v30 H) λ_ H=>
 bnd (lda 6 t4 H) λr0 _=> some (.tup [r0,t7],H)
def Yl(C:aA)(a0 a1:AV)(H:ah):OA:=
 bnd (alc 117 [zI,zI,zI,zI,zB,zN] H) λv4 H=>
 bnd (C 98 [a0,a1] H) λv12 H=> bo (aF v12 0) λv13=> bo (aF v12 1) λv14=> bnd (alc 117 [zI,zI,zI,zI,zB,zN] H) λv6 H=> bnd (st 6 v6 v13 H) λ_ H=>
 aI v14
 (bnd (C 145 [a0,a1] H) λv18 H=>
  bo (au a0) λv21=> fld v21 0 H λv23 H=> bo (bi .add 3 v18 (I 1)) λv26=> bnd (C 198 [v23,v18,v26] H) λv27 H=> bo (au a0) λv28=> bo (ak v28 0) λv29=> bnd (st 1 v29 v27 H) λ_ H=>
  CX C v4 v6 v14 H)
 (CX C v4 v6 v14 H)
theorem akT:Rn2 177 Yl:=λ_ _ _ _ _ h=>
 rnG an0 Tryz.func177 (by kernel_rfl) (by kernel_rfl) h
def aek(C:aA)(a0 a1:AV)(H:ah):OA:=
 bnd (fM 117 a0 H) λv2 H=>
 fld v2 2 H λv5 H=> bnd (ld a1 H) λv6 H=> bo (bi .eql 3 v5 v6) λv7=>
 some (v7,H)
theorem akU:Rn2 178 aek:=λ_ _ _ _ _ h=>
 rnG an0 Tryz.func178 (by kernel_rfl) (by kernel_rfl) h
def Ym(C:aA)(a0:AV)(H:ah):OA:=
 bnd (alc 99 [zI,zI,zI,zI,zI,zI,zI,zB,zN] H) λv2 H=>
 bo (au a0) λv5=> fld v5 0 H λv7 H=> bnd (lnS v7 H) λv8 H=> bo (bi .eql 3 v8 (I 0)) λv9=>
 aI v9
 (bo (bd 99 []) λv10=> bnd (st 9 v2 v10 H) λ_ H=>
  bnd (lda 9 v2 H) λr0 _=> some (.tup [r0,(B false)],H))
 (bo (au a0) λv12=> fld v12 0 H λv14 H=> bnd (ix 9 v14 (I 0) H) λv15 H=> bnd (lda 9 v15 H) λv16 H=> bnd (C 79 [v16] H) λv17 H=> bnd (st 9 v2 v17 H) λ_ H=>
  bnd (lda 9 v2 H) λr0 _=> some (.tup [r0,(B true)],H))
theorem akV:Rn1 191 Ym:=λ_ _ _ _ h=>
 rnG an0 Tryz.func191 (by kernel_rfl) (by kernel_rfl) h
def ael(C:aA)(a0 a1 a2 a3 a4:AV)(H:ah):OA:=
 bnd (alc 117 [zI,zI,zI,zI,zB,zN] H) λv10 H=>
 bo (bd 115 [(0,a1),(1,a2)]) λv13=> bnd (C 12 [a4] H) λv17 H=> bo (bd 117 [(0,v13),(1,a0),(3,a3),(4,v17)]) λv18=> bnd (st 6 v10 v18 H) λ_ H=>
 bnd (lda 6 v10 H) λr0 _=> some (r0,H)
theorem akW:Rn5 192 ael:=λ_ _ _ _ _ _ _ _ h=>
 rnG an0 Tryz.func192 (by kernel_rfl) (by kernel_rfl) h
def Yn(C:aA)(a0:AV)(H:ah):OA:=
 bnd (fM 115 a0 H) λv1 H=>
 bnd (lda 2 v1 H) λv3 H=> bnd (C 194 [v3] H) λv4 H=> gdA (some v4) true (lda 2 v1 H) H λv6 H=> gdA (some v4) true (C 205 [v6] H) H λv7 H=> bo (bG v4 v7 (B false)) λv8=>
 some (v8,H)
theorem aem:Rn1 193 Yn:=λ_ _ _ _ h=>
 rnG an0 Tryz.func193 (by kernel_rfl) (by kernel_rfl) h
def aen(C:aA)(a0:AV)(H:ah):OA:=
 bnd (fM 115 a0 H) λv1 H=>
 fld v1 1 H λv4 H=> bo (bi .eql 3 v4 (I (-1))) λv5=>
 some (v5,H)
theorem akX:Rn1 194 aen:=λ_ _ _ _ h=>
 rnG an0 Tryz.func194 (by kernel_rfl) (by kernel_rfl) h
def akY:Ann:=⟨[],[(11,rF 7 [])],[]⟩
def CY(C:aA)(t0 t1 t11:AV)(H:ah):OA:=
 bo (au t0) λv77=> fld v77 8 H λv79 H=> bnd (lda 3 t11 H) λv81 H=> bnd (mup .i64 v79 t1 v81 H) λ_ H=>
 some ((I 0),H)
def wR(C:aA)(a0 a1 a2 a3 a4:AV)(H:ah):OA:=
 bo (au a0) λv15=> fld v15 8 H λv17 H=> bnd (lk .i64 (.agg #[.int .i64 0,.int .i64 0,.slice none 0 0]) v17 a1 true H) λv19 H=> bo (aF v19 0) λv20=> bo (aF v19 1) λv21=> bnd (alc 130 [zI,zI,zN] H) λv11 H=> bnd (st 3 v11 v20 H) λ_ H=>
 bo (un .not v21) λv24=>
 aI v24
 (some ((I 3),H))
 (bo (bi .lss 3 a2 (I 0)) λv27=> gl v27 false (some a2) H λv29 H=> gl v27 false (bi .gtr 3 v29 (I 2)) H λv30 H=> bo (bG v27 (B true) v30) λv31=> gl v31 false (some a3) H λv33 H=> gl v31 false (bi .lss 3 v33 (I (-1))) H λv34 H=> bo (bG v31 (B true) v34) λv35=> gl v35 false (some a3) H λv37 H=> gl v35 false (some a0) H λv38 H=> gl v35 false (au v38) H λv39 H=> gl v35 false (ak v39 0) H λv40 H=> gl v35 false (ak v40 0) H λv41 H=> gdA (some v35) false (ld v41 H) H λv42 H=> gl v35 false (bi .geq 3 v37 v42) H λv43 H=> bo (bG v35 (B true) v43) λv44=>
  aI v44
  (some ((I 1),H))
  (bo (bi .eql 3 a3 (I (-1))) λv47=> bo (bi .eql 3 a2 (I 0)) λv49=> bo (bi .neq 4 v47 v49) λv50=> gl v50 false (some a4) H λv52 H=> gdA (some v50) false (lnS v52 H) H λv53 H=> gl v50 false (bi .neq 3 v53 (I 0)) H λv54 H=> gl v50 false (some v54) H λv55 H=> gl v55 true (some a4) H λv56 H=> gdA (some v55) true (lnS v56 H) H λv57 H=> gl v55 true (some a0) H λv58 H=> gl v55 true (au v58) H λv59 H=> gl v55 true (ak v59 0) H λv60 H=> gl v55 true (ak v60 2) H λv61 H=> gdA (some v55) true (ld v61 H) H λv62 H=> gl v55 true (bi .neq 3 v57 v62) H λv63 H=> gl v50 false (bG v55 v63 (B false)) H λv64 H=> bo (bG v50 (B true) v64) λv65=>
  aI v65
  (some ((I 1),H))
  (bo (ak v11 0) λv68=> bnd (st 1 v68 a2 H) λ_ H=> bo (ak v11 1) λv69=> bnd (st 1 v69 a3 H) λ_ H=>
   bnd (lnS a4 H) λv71 H=> bo (bi .gtr 3 v71 (I 0)) λv72=>
   aI v72
   (bnd (C 12 [a4] H) λv74 H=> bo (ak v11 2) λv75=> bnd (st 1 v75 v74 H) λ_ H=>
   CY C a0 a1 v11 H)
   (CY C a0 a1 v11 H))))
theorem akZ:Rn5 196 wR:=λ_ _ _ _ _ _ _ _ h=>
 rnG akY Tryz.func196 (by kernel_rfl) (by kernel_rfl) h
def SE(C:aA)(a0 a1 a2:AV)(H:ah):OA:=
 bnd (C 170 [a0,a1] H) λv9 H=> bo (un .not v9) λv10=> gl v10 false (some a0) H λv12 H=> gl v10 false (au v12) H λv13 H=> gl v10 false (ak v13 0) H λv14 H=> gdA (some v10) false (ld v14 H) H λv15 H=> gl v10 false (some a1) H λv16 H=> gdA (some v10) false (lk .i64 (.int .i64 0) v15 v16 false H) H λv17 H=> gl v10 false (some a2) H λv18 H=> gl v10 false (bi .neq 3 v17 v18) H λv19 H=> bo (bG v10 (B true) v19) λv20=>
 aI v20
 (some ((I 6),H))
 (bo (au a0) λv22=> fld v22 0 H λv24 H=> bnd (del .i64 v24 a1 H) λ_ H=>
  some ((I 0),H))
theorem ak0:Rn3 197 SE:=λ_ _ _ _ _ _ h=>
 rnG an0 Tryz.func197 (by kernel_rfl) (by kernel_rfl) h
def ak1:Ann:=⟨[],[(5,rF 8 [])],[]⟩
def aeo(C:aA)(a0 a1 a2:AV)(H:ah):OA:=
 bnd (lnS a0 H) λv12 H=> bo (slS 6 a0 (some a1) (some a2) (some v12)) λv13=>
 bo (bi .eql 3 a1 a2) λv16=>
 aI v16
 (some (a0,H))
 (bnd (lnS a0 H) λv19 H=>
  bo (slS 6 a0 none (some a1) none) λv22=> bo (slS 6 a0 (some a2) none none) λv25=> bnd (app 117 6 64 v22 v25 H) λv26 H=>
  bnd (lnS v26 H) λv29 H=> bo (slS 6 v26 (some v29) (some v19) none) λv31=> bnd (clr 6 [zI,zI,zI,zI,zB,zN] v31 H) λ_ H=>
  some (v26,H))
theorem ak2:Rn3 198 aeo:=λ_ _ _ _ _ _ h=>
 rnG ak1 Tryz.func198 (by kernel_rfl) (by kernel_rfl) h
def aep(C:aA)(a0:AV)(H:ah):OA:=
 bnd (fM 115 a0 H) λv1 H=>
 fld v1 0 H λv4 H=> bo (bi .eql 3 v4 (I (-1))) λv5=>
 some (v5,H)
theorem ak3:Rn1 205 aep:=λ_ _ _ _ h=>
 rnG an0 Tryz.func205 (by kernel_rfl) (by kernel_rfl) h
def lQ(l:List Pkt)(room:Int):List Cell:=[.seq 9 (l.flatMap Pkt.av),.av (I room)]
theorem yR(l:List Int):(l.map I).all AV.aU=true:=by
 rw [zaZ];intro x hx;obtain⟨z,_,rfl⟩:=zaS.1 hx;rfl
theorem vS(l:List Int){d:Nat}:∀x∈l.map I,Frz (d+1) x:=λx hx=> by
 obtain⟨z,_,rfl⟩:=zaS.1 hx;exact dQ
theorem qW {l:List Int}(h:l≠[]):dat l=.vs l.length 1 (l.map I):=by
 rw [dat,I5 h,LH]
theorem jy(H:ah)(l:List Int)(hl:l.length < 1000000000):cl 12 [dat l] H=some (dat l,H):=by
 by_cases h:l=[]
 ·subst h;refine iG rfl rfl (aa4 _ _ _ (r:=(zN,H.guard)) ?_) jg;have e:bi .eql 22 zN zN=some (B true):=by kernel_rfl
  simp only [xq_,XA,dat,gB,e]
 ·have h0:l.length≠0:=λe=> h (zan e);have e2:=qQ (e:=3) (by_:=8) (r:=H.guard.next) (H:=H.guard.new (.blk 0 3 [])) oK (gI _ l) (yR l) h0 (by unfold most;omega) (by unfold most;omega);simp only [tZ,dL] at e2;refine iG rfl rfl (aa4 _ _ _ (r:=(.sl (H.next+1) 0 0 1 l.length l.length false,(H.guard.new (.blk 0 3 [])).new (.blk 0 (3+fQ) (l.map I)))) ?_) ?_
  ·have e1:bi .eql 22 (dat l) zN=some (B false):=by rw [qW h];exact qR Tryz.underlying22
   simp only [xq_,XA,e1,LD,xE,e2,zbe,zaV]
  ·rw [qW h];refine ng (by omega) (cells:=l.map I) ?_ (iU _ λx hx=> vS l x hx _ _);simp only [bM,iM,dL,tZ,if_true];rw [if_pos (by simp),zaO,zaE (by simp)]
theorem Yo(p:Pkt):Frz 9 (.agg p.av):=lI λx hx=> by
 simp only [Pkt.av,zar,zaH,or_false] at hx;rcases hx with rfl | rfl | rfl | rfl | rfl | rfl | rfl | rfl | rfl <;> first | exact dQ | exact nM
theorem Yp(H:ah)(p:Pkt)(hl:p.data.length < 1000000000):cl 117 [.agg p.av] H=some (.agg p.av,H):=by
 have e1:=λH=> jy H p.data hl;refine aV rfl rfl (ajR _ _ _) ?_ (Yo p);simp only [Nat.reduceLT,Nat.reduceAdd,aG,xq_,hq_,adH,aC,Pkt.av,e1]
theorem SG(H:ah)(p:Pkt)(hl:p.data.length < 1000000000):cl 79 [.agg p.av] H=some (.agg p.av,H):=by
 have e1:=λH=> jy H p.data hl;refine aV rfl rfl (anP _ _ _) ?_ (Yo p);simp only [Nat.reduceLT,Nat.reduceAdd,aG,xq_,hq_,ajl,aC,Pkt.av,e1]
section
variable {b:Nat}{H:ah}{g:bg}{q:Nat}{l:List Pkt}{room:Int}
theorem SH(G:Good b H g)(h:g q=some (lQ l room))(h1:0<=room)(h2:room < 1000)(h3:l.length < 1000):
  cl 139 [.ref q 0 0] H=some (I (room - l.length),H):=by
 refine aX rfl rfl (akf _ _ _ ?_);obtain⟨x,hx,c⟩:=G.seq h (i:=0) rfl;have e1:=G.load h (i:=1) rfl;have e2:=(c.is (by decide) (dh bH l)).lnS;simp only [xq_,adW,hx,e1,e2,ku];rw [wrap_i64 (by omega) (by omega)]
theorem afX(G:Good b H g)(hb:H.base<=b)(h:g q=some (lQ l room))(h1:0<=room)(h2:room < 1000)(h3:l.length < 1000)(p:Pkt)(hp:p.data.length < 1000000000):
  ∃H',cl 142 [.ref q 0 0,.agg p.av] H=some (I (if room=l.length then 5 else 0),H')/\Good b H' (upd g q (lQ (if room=l.length then l else l++[p]) room))/\Step b H H':=by
 have G1:=G.new (.blk 0 99 p.av);have e1:=SH G1 h h1 h2 h3;by_cases hr:room=l.length
 ·refine⟨_,aX rfl rfl (adY _ _ _ _ (r:=(_,H.new (.blk 0 99 p.av))) ?_),?_,Step.new _ G.1⟩
  ·simp only [Nat.reduceLT,xq_,hq_,Yd,aC (aK p),e1,hr,Int.sub_self]
  ·rw [if_pos hr,eU h];exact G1
 ·have hr':¬room - (l.length:Int)=0:=by omega
  obtain⟨x,hx,c⟩:=G1.seq h (i:=0) rfl;have e2:=fO (H:=H.new (.blk 0 99 p.av)) (r:=H.next) (off:=0) (n:=9) (oK) (by simp [Pkt.av]);have e3:=Yp (H.new (.blk 0 99 p.av)).guard p hp;obtain⟨x',H1,H2,a1,a2,a3,a4⟩:=(G1.new (.blk 0 99 p.av)).append (e:=99) (by_:=88) hb h (i:=0) rfl (by decide) (dh bH l) (c.new _) (jI (ex:=true) (n:=1) (m:=9) (l:=p.av) rfl) (aK p) (by unfold most;omega) (by unfold most;omega);refine⟨H2,aX rfl rfl (adY _ _ _ _ ?_),?_,(((Step.new _ G.1).trans (Step.new _ (G.new _).1)).trans a4)⟩
  ·simp only [dL] at a1;simp only [Nat.reduceLT,xq_,Yd,aC (aK p),e1,hr',hr,hx,e2,zaO,e3,acI,zbm,Nat.reduceLeDiff,LJ,gZ (m:=9) (z:=[zI,zI,zI,zI,zI,zI,zI,zB,zN]) (v:=.agg p.av) rfl rfl (aK p),eH,a1,a2]
  ·rw [if_neg hr];have:lQ (l++[p]) room=(lQ l room).set 0 (.seq 9 (l.flatMap Pkt.av++p.av)):=by simp [lQ]
   rw [this];exact a3
theorem Yq(G:Good b H g)(h:g q=some (lQ l room))(h1:0<=room)(h2:room < 1000)(h3:l.length < 1000):
  cl 78 [.ref q 0 0] H=some (I (room - l.length),H):=by
 refine aX rfl rfl (anO _ _ _ ?_);obtain⟨x,hx,c⟩:=G.seq h (i:=0) rfl;have e1:=G.load h (i:=1) rfl;have e2:=(c.is (by decide) (dh bH l)).lnS;simp only [xq_,ajk,hx,e1,e2,ku];rw [wrap_i64 (by omega) (by omega)]
theorem abl(G:Good b H g)(hb:H.base<=b)(h:g q=some (lQ l room))(h1:0<=room)(h2:room < 1000)(h3:l.length < 1000)(p:Pkt)(hp:p.data.length < 1000000000):
  ∃H',cl 45 [.ref q 0 0,.agg p.av] H=some (I (if room=l.length then 5 else 0),H')/\Good b H' (upd g q (lQ (if room=l.length then l else l++[p]) room))/\Step b H H':=by
 have G1:=G.new (.blk 0 99 p.av);have e1:=Yq G1 h h1 h2 h3;by_cases hr:room=l.length
 ·refine⟨_,aX rfl rfl (aiS _ _ _ _ (r:=(_,H.new (.blk 0 99 p.av))) ?_),?_,Step.new _ G.1⟩
  ·simp only [Nat.reduceLT,xq_,hq_,afE,aC (aK p),e1,hr,Int.sub_self]
  ·rw [if_pos hr,eU h];exact G1
 ·have hr':¬room - (l.length:Int)=0:=by omega
  obtain⟨x,hx,c⟩:=G1.seq h (i:=0) rfl;have e2:=fO (H:=H.new (.blk 0 99 p.av)) (r:=H.next) (off:=0) (n:=9) (oK) (by simp [Pkt.av]);have e3:=SG (H.new (.blk 0 99 p.av)).guard p hp;obtain⟨x',H1,H2,a1,a2,a3,a4⟩:=(G1.new (.blk 0 99 p.av)).append (e:=99) (by_:=88) hb h (i:=0) rfl (by decide) (dh bH l) (c.new _) (jI (ex:=true) (n:=1) (m:=9) (l:=p.av) rfl) (aK p) (by unfold most;omega) (by unfold most;omega);refine⟨H2,aX rfl rfl (aiS _ _ _ _ ?_),?_,(((Step.new _ G.1).trans (Step.new _ (G.new _).1)).trans a4)⟩
  ·simp only [dL] at a1;simp only [Nat.reduceLT,xq_,afE,aC (aK p),e1,hr',hr,hx,e2,zaO,e3,acI,zbm,Nat.reduceLeDiff,LJ,gZ (m:=9) (z:=[zI,zI,zI,zI,zI,zI,zI,zB,zN]) (v:=.agg p.av) rfl rfl (aK p),eH,a1,a2]
  ·rw [if_neg hr];have:lQ (l++[p]) room=(lQ l room).set 0 (.seq 9 (l.flatMap Pkt.av++p.av)):=by simp [lQ]
   rw [this];exact a3
theorem afY {i n:Nat}{x:AV}{l:List AV}(c:Cur b H q i x 9 l)(hb:H.base<=b)(hl:l.length=n*9)(hn:n < 1000000000){j:Nat}(hj:j < n):
  ∃x' H',cl 82 [x,I j,I (j+1)] H=some (x',H')/\Fit H H' x x' 9 (l.take (j*9)++l.drop ((j+1)*9))/\H'.next=H.next/\H'.base=H.base/\∀r,iP x≠some r->H'.get r=H.get r:=by
 obtain⟨y,x1,x2,x3,H1,x4,H2,e1,e2,e3,e4,e5,e6,e7,f,n1,b1,k1⟩:=RG c hb (by decide) hl hn hj (z:=[zI,zI,zI,zI,zI,zI,zI,zB,zN]) rfl rfl (e:=99) (by_:=88) (by decide);have e0:=(c.is (by decide) hl).lnS;have hne:((j:Int)=j+1)=False:=eq_false (by omega);refine⟨x3,H2,aX rfl rfl (anT _ _ _ _ _ ?_),f,n1,b1,k1⟩;simp only [xq_,ajp,e0,e1,e2,e3,e4,e5,e6,e7,hne]
theorem MV {α:Type}{enc:α->List AV}{m:Nat}(he:∀a,(enc a).length=m):∀(l:List α) (j:Nat),(l.flatMap enc).take (j*m)=(l.take j).flatMap enc
 | [],j=> by simp
 | a::l,0=> by simp
 | a::l,j+1=> by
  rw [zaQ,List.take_succ_cons,zaQ,zbz,Nat.add_comm,List.take_append,he,Nat.add_sub_cancel_left,MV he l j,zaE (by rw [he];omega)]
theorem MW {α:Type}{enc:α->List AV}{m:Nat}(he:∀a,(enc a).length=m):∀(l:List α) (j:Nat),(l.flatMap enc).drop (j*m)=(l.drop j).flatMap enc
 | [],j=> by simp
 | a::l,0=> by simp
 | a::l,j+1=> by
  rw [zaQ,List.drop_succ_cons,zbz,Nat.add_comm,List.drop_append,he,Nat.add_sub_cancel_left,MW he l j,zaF (by rw [he];omega),zaU]
theorem GX {α:Type}{enc:α->List AV}{m:Nat}(he:∀a,(enc a).length=m)(l:List α)(j:Nat):(l.flatMap enc).take (j*m)++(l.flatMap enc).drop ((j+1)*m)=(l.eraseIdx j).flatMap enc:=by
 rw [MV he,MW he,List.eraseIdx_eq_take_drop_succ,zbE]
theorem jX {α:Type}{enc:α->List AV}{m:Nat}(he:∀a,(enc a).length=m){L:List α}{x:AV}(hs:aH H x m L.length (L.flatMap enc)){i:Nat}{a:α}(hi:L[i]?=some a):lda m (dW x i) H=some (.agg (enc a),H):=by
 have hl:i < L.length:=(zak.1 hi).1;rw [hs.lda hl,sG he L i a hi]
def gQ(o:Option Pkt):AV:=.tup [.agg (o.getD .zero).av,B o.isSome]
theorem eP:Pkt.zero.av=[zI,zI,zI,zI,zI,zI,zI,zB,zN]:=by simp [Pkt.zero,Pkt.av,dat,gB]
theorem Aa(o:Option Pkt):Frz 9 (gQ o):=sH λx hx=> by
 simp only [zar,zaH,or_false] at hx;rcases hx with rfl | rfl
 ·refine lI λx hx=> ?_;simp only [Pkt.av,zar,zaH,or_false] at hx;rcases hx with rfl | rfl | rfl | rfl | rfl | rfl | rfl | rfl | rfl <;> first | exact dQ | exact nM
 ·exact dQ
theorem Yr(G:Good b H g)(h:g q=some (lQ l room))(h3:l.length < 1000)(hd:∀p∈l,p.data.length < 1000000000):
  cl 191 [.ref q 0 0] H=some (gQ l.head?,H):=by
 refine aV rfl rfl (akV _ _ _) ?_ (Aa _);have G1:=G.guard.new (.blk 0 99 [zI,zI,zI,zI,zI,zI,zI,zB,zN]);obtain⟨x,hx,c⟩:=G1.seq h (i:=0) rfl;have hs:=c.is (by decide) (dh bH l);have e2:=hs.lnS;cases l with
 | nil=> simp only [Nat.reduceAdd,aG,xq_,hq_,Ym,hx,e2,Int.ofNat_zero,xw,jo,dH,gQ,eP,List.head?_nil,zaT,zaB]
 | cons p l=>
  have e3:=hs.ix (k:=.i64) (i:=0) (by decide) (by simp only [zah];omega);have e4:=jX bH hs (i:=0) (a:=p) rfl;have hz:(((l.length+1:Nat):Int)=0)=False:=eq_false (by omega);have e5:=λH=> SG H p (hd p (by simp));simp only [Nat.reduceAdd,aG,xq_,hq_,Ym,hx,e2,hz,e3,Int.toNat_zero,e4,e5,gQ,List.head?_cons,zat,zaG]
theorem SI(G:Good b H g)(hb:H.base<=b)(h:g q=some (lQ l room))(h3:l.length < 1000){j:Nat}(hj:j < l.length):
  ∃x x' H1 H2,ld (.ref q 0 0) H=some (x,H)/\cl 82 [x,I j,I (j+1)] H=some (x',H1)/\st 1 (.ref q 0 0) x' H1=some (aO,H2)/\Good b H2 (upd g q (lQ (l.eraseIdx j) room))/\Step b H H2:=by
 obtain⟨x,hx,c⟩:=G.seq h (i:=0) rfl;obtain⟨x',H1,d1,d2,d3,d4,d5⟩:=afY c hb (dh bH l) (by omega) hj;rw [GX bH] at d2;obtain⟨H2,s1,s2,s3,s4⟩:=G.seat h (i:=0) rfl c (by omega) (by omega) (λr _ hr=> d5 r hr) d2;exact⟨x,x',H1,H2,hx,d1,s1,s2,Step.trans ⟨d4,by omega,λr hr=> d5 r (c.low hr)⟩ s3⟩
theorem Yt(G:Good b H g)(hb:H.base<=b)(h:g q=some (lQ l room))(h3:l.length < 1000)(hd:∀p∈l,p.data.length < 1000000000):
  ∃H',cl 160 [.ref q 0 0] H=some (gQ l.head?,H')/\Good b H' (upd g q (lQ l.tail room))/\Step b H H':=by
 have G1:=G.newObj (ty:=99) (xs:=[zI,zI,zI,zI,zI,zI,zI,zB,zN]) rfl;have hq:=G.lt h;have h1:upd g H.next ([zI,zI,zI,zI,zI,zI,zI,zB,zN].map .av) q=some (lQ l room):=by rw [aY (by omega)];exact h
 have e1:=Yr G1 h1 h3 hd;have hb0:H.base<=H.next:=zas hb G.1
 refine jK rfl rfl (akz _ _ _) ?_;cases l with
 | nil=>
  simp only [Nat.reduceAdd,aG,xq_,hq_,zaa,zae,exists_eq_left',Yh,e1,CV,gQ,List.head?_nil,zaT,zaB,eP,List.tail_nil,hb0];exact⟨(eU h).symm ▸ (G.new _).new _,(Step.new _ G.1).trans (Step.new _ (G.new _).1)⟩
 | cons p l=>
  have hm:=hd p (by simp);let H1:=H.new (.blk 0 99 [zI,zI,zI,zI,zI,zI,zI,zB,zN]);have G2:=G1.newObj (ty:=99) (xs:=p.av) (aK _);have hv2:upd (upd g H.next ([zI,zI,zI,zI,zI,zI,zI,zB,zN].map .av)) (H.next+1) (p.av.map .av) H.next=some ([zI,zI,zI,zI,zI,zI,zI,zB,zN].map .av):=by rw [aY (by omega),aN]
  have h2:upd (upd g H.next ([zI,zI,zI,zI,zI,zI,zI,zB,zN].map .av)) (H.next+1) (p.av.map .av) q=some (lQ (p::l) room):=by rw [aY (by omega)];exact h1
  obtain⟨x,x',K1,K2,s1,s2,s3,s4,s5⟩:=SI G2 (by rw [iC,iC];omega) h2 h3 (j:=0) (by simp);have G3:Good b K2 _:=s4;have q2:upd (upd (upd g H.next ([zI,zI,zI,zI,zI,zI,zI,zB,zN].map .av)) (H.next+1) (p.av.map .av)) q (lQ l room) (H.next+1)=some (p.av.map .av):=by rw [aY (by omega),aN]
  have q1:upd (upd (upd g H.next ([zI,zI,zI,zI,zI,zI,zI,zB,zN].map .av)) (H.next+1) (p.av.map .av)) q (lQ l room) H.next=some ([zI,zI,zI,zI,zI,zI,zI,zB,zN].map .av):=by rw [aY (by omega),aY (by omega),aN]
  have l2:=G3.loads q2 (i:=0) (n:=9) (xs:=p.av) rfl rfl (by decide);obtain⟨K3,t1,t2,t3,t4⟩:=G3.stores (by rw [s5.base,iC,iC];exact hb) q1 (i:=0) (n:=9) (vs:=p.av) (by decide) rfl (aK _);have l3:=t2.loads aN (i:=0) (n:=9) (xs:=p.av) rfl rfl (by decide);have z1:((0:Nat):Int)=0:=rfl;have z2:((0:Nat):Int)+1=1:=rfl;rw [z2] at s2;simp only [z1] at s2;simp only [Nat.reduceAdd,aG,xq_,hq_,zaa,zae,exists_eq_left',Yh,e1,CV,gQ,List.head?_cons,zat,zaG,List.tail_cons,hb0,s1,s2,s3,l2,t1,l3];have n1:g H.next=none:=G.isNone (zac _)
  have n2:g (H.next+1)=none:=G.isNone (by omega);exact⟨t2.sub (((((uf.refl g).more n1 _).more n2 _).both q _).more (yj n1 (by omega)) _),(((Step.new _ G.1).trans (Step.new _ (G.new _).1)).trans s5).trans t3⟩
theorem Yu(G:Good b H g)(h:g q=some (lQ l room))(h3:l.length < 1000)(hd:∀p∈l,p.data.length < 1000000000)(at_:Int):
  cl 74 [.ref q 0 0,I at_] H=some (gQ (if at_ < 0 then none else l[at_.toNat]?),H):=by
 refine aV rfl rfl (anI _ _ _ _) ?_ (Aa _);have G1:=G.guard.new (.blk 0 99 [zI,zI,zI,zI,zI,zI,zI,zB,zN]);obtain⟨x,hx,c⟩:=G1.seq h (i:=0) rfl;have hs:=c.is (by decide) (dh bH l);have e2:=hs.lnS;by_cases h0:at_ < 0
 ·simp only [Nat.reduceAdd,aG,xq_,hq_,abg,h0,xw,jo,dH,gQ,eP,zaT,zaB]
 ·by_cases h1:at_ < l.length
  ·have e3:=hs.ix (k:=.i64) (i:=at_) (by omega) h1;obtain⟨p,hp⟩:∃p,l[at_.toNat]?=some p:=⟨_,zab (by omega)⟩
   have e4:=jX bH hs hp;have e5:=λH=> Yp H p (hd p (zaw hp));have h1':¬(l.length:Int)<=at_:=by omega
   simp only [Nat.reduceAdd,aG,xq_,hq_,abg,hx,h0,h1',e2,e3,e4,e5,hp,gQ,zat,zaG]
  ·have hp:l[at_.toNat]?=none:=zaK (by omega);have h1':(l.length:Int)<=at_:=by omega
   simp only [Nat.reduceAdd,aG,xq_,hq_,abg,hx,h0,h1',e2,hp,xw,jo,dH,gQ,eP,zaT,zaB]
end
open Go.RowKit
section
variable {P:Program}{C:aA}{A:Ann}{n:Nat}
theorem GY {L:List Nat}{c:Code}(hc:Ls A n c (nX L) (λ_=> 0) 0=true){t:fC}{e:Env}{H H1:ah}{vs:List AV}(ht:Ag n (xu A c (nX L) (λ_=> 0) 0) t e)
  (h:jV P C A n c e H (λe H=> some (wu L e,H)) (λ_ _ _=> none) (λ_ _=> none)=some (vs,H1)):
  ∃t1,dZ P C c t H=some (.normal,t1,H1)/\∃e1,Ag n (nX L) t1 e1/\wu L e1=vs:=by
 open Classical in
 have key:=D7 (P:=P) (C:=C) (β:=List AV × ah) A c (nX L) (λ_=> 0) 0 hc
  (λt H=> if hx:∃e1,Ag n (nX L) t e1/\wu L e1=vs then(if H=H1 then some (vs,H) else none) else none) (λe H=> if wu L e=vs/\H=H1 then some (vs,H) else none)
  (λ_ _ _=> none) (λ_ _ _=> none) (λ_ _=> none) (λ_ _=> none)
  (λt e H ha r hr=> by
   split at hr
   ·rename_i hh;rw [dif_pos ⟨e,ha,hh.1⟩,if_pos hh.2];exact hr
   ·cases hr) (λ_ _ _ _ _=> Le.refl _) (λ_ _ _ _=> Le.refl _) t e H ht
 have tl:=Gq (P:=P) (C:=C) (A:=A) (n:=n) (β:=List AV × ah) c e H (λk e H=> k (wu L e) H) (λ_ _ _ _=> none) (λ_ _ _=> none) (λt H=> WI _ _) (λ_ _ _=> fU _) (λ_ _=> fU _);have h1:jV P C A n c e H (λe H=> (λs H=> some (s,H)) (wu L e) H) (λ_ _ _=> none) (λ_ _=> none)=some (vs,H1):=h;have h2:jV P C A n c e H (λe H=> if wu L e=vs/\H=H1 then some (vs,H) else none) (λ_ _ _=> none) (λ_ _=> none)=some (vs,H1):=by
  rcases tl (λs H=> some (s,H)) _ h1 with h3 | ⟨s,H',h3,h4⟩
  ·exact h3 λs H=> if s=vs/\H=H1 then some (vs,H) else none
  ·cases h3;exact h4 (λs H=> if s=vs/\H=H1 then some (vs,H) else none) (by simp)
 have h3:=key _ h2;cases hx:dZ P C c t H with
 | none=> rw [hx] at h3;cases h3
 | some q=>
  obtain⟨ex,t1,H2⟩:=q;rw [hx] at h3;cases ex with
  | normal=>
   simp only [LC] at h3;split at h3
   ·rename_i he;split at h3
    ·rename_i hH;subst hH;exact⟨t1,rfl,he⟩
    ·cases h3
   ·cases h3
  | exit i=> cases h3
  | ret=> cases h3
theorem Yv {c:Code}{rs:List ResultVar}(hc:Ls A n c (OG rs) (λ_=> 0) (OG rs)=true){t:fC}{e:Env}{H:ah}{r:AV × ah}(ht:Ag n (xu A c (OG rs) (λ_=> 0) (OG rs)) t e)
  (h:jV P C A n c e H (J4 P n rs) (λ_ _ _=> none) (J4 P n rs)=some r):
  ∃ex t1,(ex=.normal∨ex=.ret)/\dZ P C c t H=some (ex,t1,r.2)/\iR P rs t1 r.2=some r.1:=by
 have hr:∀t e H,Ag n (OG rs) t e->Le (J4 P n rs e H) ((iR P rs t H).map λv=> (v,H)):=λt e H h=> by
  rw [WR _ h];exact Le.refl _
 have h1:=D7 (P:=P) (C:=C) A c _ _ _ hc _ _ _ _ _ _ hr (λ_ _ _ _ _=> Le.refl _) hr t e H ht r h;cases hx:dZ P C c t H with
 | none=> rw [hx] at h1;cases h1
 | some q=>
  obtain⟨ex,t1,H2⟩:=q;rw [hx] at h1;cases ex with
  | exit i=> cases h1
  | normal=>
   simp only [LC] at h1;cases hq:iR P rs t1 H2 with
   | none=> rw [hq] at h1;cases h1
   | some v=>
    rw [hq] at h1;simp only [zai,zaa] at h1;subst h1;exact⟨_,t1,.inl rfl,rfl,hq⟩
  | ret=>
   simp only [LC] at h1;cases hq:iR P rs t1 H2 with
   | none=> rw [hq] at h1;cases h1
   | some v=>
    rw [hq] at h1;simp only [zai,zaa] at h1;subst h1;exact⟨_,t1,.inr rfl,rfl,hq⟩
theorem ak4 {o:Oper}{a:Act}{w:World}{K:Act->World->Prop}{Q:Exit->Act->World->Prop}{l m:Nat}(hd:∀c,o.op≠.defer c)(h:o.wp P a w K Q):o.wpIn (Fence.wide.inRound l) m P a w K Q:=by
 unfold Oper.wpIn;refine⟨λ_ _=> trivial,?_⟩;rw [Oper.semAt_eq _ _ _ hd];unfold Oper.wp at h;generalize (execOp a.eval o).run P w=r at*;have dp:(Fence.wide.inRound l).depth.isSome=true->1<=m:=λh=> by cases h
 cases r with
 | ok x w'=>
  cases x <;> simp only [Oper.upon,Oper.uponIn] at h ⊢ <;> first
   | exact h
   | exact⟨dp,CallsIn.inRound l (callsIn_wide.2 h)⟩
   | exact h.elim
   | skip
  rename_i row args;exact⟨dp,λc cs hr=> let⟨v,w',r,s⟩:=h c cs;⟨v,w',r,stepsIn_wide.2 s⟩⟩
 | halt x w'=> cases x <;> simp only [Oper.upon,Oper.uponIn] at h ⊢ <;> exact h
def Ac(o:Oper):Bool:=match o.op with
 | .defer _=> false
 | _=> true
theorem GZ {o:Oper}(h:Ac o=true):∀c,o.op≠.defer c:=λc e=> by rw [Ac,e] at h;cases h
theorem afZ {ops:Array Oper}(hd:∀o∈ops,Ac o=true){Q:Exit->Act->World->Prop}{i:Nat}{K:Act->World->Prop}{a:Act}{w:World}{l m:Nat}(hq:¬LetsOut Q)(h:wpOp P ops Q i K a w):wpOpIn (Fence.wide.inRound l) m P ops Q i K a w:=by
 unfold wpOp at h;unfold wpOpIn;split
 ·rename_i ho;rw [ho] at h;exact h
 ·rename_i o ho;rw [ho] at h;simp only at h;split
  ·rename_i hw;rw [if_pos hw] at h;exact ak4 (GZ (hd o (Array.mem_of_getElem? ho))) (h.resolve_right λh=> hq h.2)
  ·rename_i hw;rw [if_neg hw] at h;exact⟨λ_ _=> trivial,h⟩
theorem abm {ops:Array Oper}(hd:∀o∈ops,Ac o=true){Q:Exit->Act->World->Prop}{l m:Nat}{md:Region.Mode}(hq:¬LetsOut Q):∀(fuel:Nat) (listed:Array Bool) (a:Act) (w:World),wpAny P md ops Q fuel listed a w->wpAnyIn (Fence.wide.inRound l) m P md ops Q fuel listed a w:=by
 intro fuel
 induction fuel with
 | zero=> intro listed a w h;exact h
 | succ fuel ih=>
  intro listed a w h;exact⟨h.1,λi hi=> wpOpIn_mono (λa w h=> ih _ a w h) (afZ hd hq (h.2 i hi))⟩
def vT(P:Program)(C:aA)(c:Code):Prop:=
 ∀l m t H e t' H',dZ P C c t H=some (e,t',H')->∀(ρ:Ren) (w:World) (a:Act),Rel ρ H w->TOn ρ H.gen w (λ_=> True) t a->∀Q:Exit->Act->World->Prop,¬LetsOut Q->amv ρ H w a t' H' (Q e.to)->c.wpIn (Fence.wide.inRound l) m P Q a w
theorem abn {ops:List Oper}{t t':fC}{H H':ah}{ρ:Ren}{w:World}{a:Act}(hC:oZ P C)(hKC:jO C)(h:wU P C ops t H=some (t',H'))(R:Rel ρ H w)(TR:TOn ρ H.gen w (λ_=> True) t a){Q:Exit->Act->World->Prop}
  (hQ:∀a' ρ' w',Rel ρ' H' w'->TOn ρ' H'.gen w' (λ_=> True) t' a'->Ext ρ H w ρ' H' w'->a'.defers=a.defers->Q .normal a' w'):wpAny P .any ops.toArray Q ops.toArray.size (Array.replicate ops.toArray.size false) a w.drew:=by
 unfold wU at h;split at h <;> first | (cases h;done) | skip
 rename_i hok;split at h <;> first | (cases h;done) | skip
 rename_i t0 H0 hcr;obtain⟨hrun,amu⟩:eX P C ops (lu ops) t0 H0=some (t',H')/\∀p∈kK ops,agree P C ops H.next t0 H0 p:=by
  split at h
  ·rename_i he;rw [he];exact⟨h,by simp⟩
  ·split at h <;> first | (cases h;done) | skip
   rename_i ha;exact⟨h,ha⟩
 have F:=AL hok;have hmem:∀j,j∈mP ops↔j < ops.length/\cst ops j=true:=λj=> by simp [mP,zbt,zaY]
 obtain⟨hf,hg,hlen,nm,vl,h1,h2,h3⟩:=rY (mP ops) t H t0 H0 (List.nodup_range.filter _) (λj hj=> ((hmem j).1 hj).2)
  (λi _ j _ oi oj d a1 a2 a3 a4=> F.al2 i j oi oj d a1 a2 a3 a4) hcr
 obtain⟨T,Hp,val,S,hend,hval⟩:=FU hrun vl;obtain⟨hgen,RH0,EH0⟩:=KW R hf hg;obtain⟨ρ1,w1,a1,g1,g2⟩:=wW hC _ _ _ _ _ ρ w a hcr R TR;have D:aaw P C ops t H t0 H0 T Hp val nm:={
  facts:=F
  S:=S
  names:=λj hj hc=> by
   obtain⟨o,q1,q2,q3,q4,q5⟩:=h1 j ((hmem j).2 ⟨hj,hc⟩);exact⟨o,q1,q2,q3,by rw [hval j hc];exact q4,λd hd hl=> by rw [hval j hc];exact q5 d hd hl⟩
  inj:=λi j hi hj ci cj e=> h2 i ((hmem i).2 ⟨hi,ci⟩) j ((hmem j).2 ⟨hj,cj⟩) e
  rest:=λd hd=> h3 d λj hj o ho=> hd j ((hmem j).1 hj).2 o ho
  len:=hlen
  fresh:=hf
  aoK:=hg
  agr:=amu
  ghost:=λp hp d=> by
   obtain⟨ρ2,w2,a2,r1,r2⟩:=FV hC S g1 g2 p hp;exact RV.nv r1.out _ _ (r2.any d trivial)
  keeps:=hKC }
 have e1:T ops.length=t':=by rw [<-Prod.mk.inj hend |>.1]
 have e2:Hp ops.length=H':=by rw [<-Prod.mk.inj hend |>.2]
 have hli:∀j,¬Li (Array.replicate ops.toArray.size false) j:=λj=> by
  unfold Li;simp [Array.getD]
 refine acB hC D (a0:=a) (λa' ρ' w' q1 q2 q3 q4=> hQ a' ρ' w' (by rw [<-e2];exact q1) (by rw [<-e1,<-e2];exact q2) (by rw [<-e2];exact q3) q4) ops.toArray.size _ a w.drew 0 ρ (by simp [x8]) ?_;refine⟨by simp,λj o _ hl=> absurd hl (hli j),zaV _,λi _ _=> ⟨λhl=> absurd hl (hli i),λh=> by omega⟩,by rw [S.zero.2];exact RH0.drew,λk hk hc _=> ?_,?_,TR.size,λd hd=> ⟨λj o _ hl=> absurd hl (hli j),λ_=> ?_⟩,rfl⟩
 ·obtain⟨_,_,q1,_⟩:=D.names k hk hc;exact(R.out _ q1).1
 ·rw [S.zero.2];exact EH0.trans (Ext.drew ρ H0 w)
 ·rw [S.zero.2,hgen];exact RV.mono (Ext.drew ρ H w).toMono _ _ (TR.get d trivial hd)
theorem Qg(hC:oZ P C)(hKC:jO C)(hm:P.follows .mixedOrders=true){id:Nat}{ops:Array Oper}(hd:∀o∈ops,Ac o=true):vT P C (.region id ops true):=by
 intro l m t H e t' H' h ρ w a R T Q hlo hQ;simp only [dZ,if_true] at h;split at h <;> first | (cases h;done) | skip
 rename_i t1 H1 hdr;simp only [zaa,zae] at h;obtain⟨rfl,rfl,rfl⟩:=h;have:=abn hC hKC hdr R T (Q:=Q) hQ;rw [show ops.toList.toArray=ops from rfl] at this;exact wpIn_region_any hm (abm hd hlo _ _ _ _ this)
theorem Qh {id:Nat}{c:Code}(hc:vT P C c):vT P C (.block id c):=by
 intro l m t H e t' H' h ρ w a R T Q hlo hQ;simp only [dZ] at h;refine wpIn_block ?_;unfold AP at h;have hl:¬LetsOut (Exit.inBlock id Q):=λ⟨a,w,h⟩=> hlo ⟨a,w,h⟩;split at h
 ·rename_i i t1 H1 hf;refine hc l m t H _ t1 H1 hf ρ w a R T _ hl λa2 ρ2 w2 r1 r2 r3 r4=> ?_;simp only [Ex.to,Exit.inBlock];split at h
  ·rename_i hid;simp only [zaa,zae] at h;obtain⟨rfl,rfl,rfl⟩:=h;rw [if_pos hid];exact hQ a2 ρ2 w2 r1 r2 r3 r4
  ·rename_i hid;simp only [zaa,zae] at h;obtain⟨rfl,rfl,rfl⟩:=h;rw [if_neg hid];exact hQ a2 ρ2 w2 r1 r2 r3 r4
 ·rename_i t1 H1 hf;simp only [zaa,zae] at h;obtain⟨rfl,rfl,rfl⟩:=h;exact hc l m t H _ t1 H1 hf ρ w a R T _ hl hQ
 ·rename_i t1 H1 hf;simp only [zaa,zae] at h;obtain⟨rfl,rfl,rfl⟩:=h;exact hc l m t H _ t1 H1 hf ρ w a R T _ hl hQ
 ·cases h
def uM(H:ah):Prop:=∀r k es,H.get r≠.map k es
theorem uM.cells {H:ah}(h:uM H){ρ:Ren}{w:World}(R:Rel ρ H w){r b sh:Nat}(hr:ρ r=some (b,sh)):∃cs e,w.heap[b]?=some (.cells cs e (0,0)):=by
 have:=R.obj r b sh hr;cases hg:H.get r with
 | blk g ty cells=>
  rw [hg] at this;obtain⟨cs,e,h1,_⟩:=this;exact⟨cs,e,h1⟩
 | map k es=> exact absurd hg (h r k es)
theorem uM.imm {H:ah}(h:uM H){ρ:Ren}{w:World}(R:Rel ρ H w){b:Nat}{o:Obj}(ho:w.heap[b]?=some o)(hc:o.isCells=false):Imm ρ b:=λr sh hr=> by
 obtain⟨cs,e,h1⟩:=h.cells R hr;rw [ho] at h1;cases h1;cases hc
end
structure Grn(w w':World):Prop where
 size:w.heap.size<=w'.heap.size
 cell:∀b o v,w.cell? ⟨b,o,none⟩=some v->w'.cell? ⟨b,o,none⟩=some v
 shape:∀b e m,w.shape? b=some (e,m)->w'.shape? b=some (e,m)
mutual
theorem RV.grn {ρ:Ren}{G:Nat->Nat}{w w':World}(M:Grn w w'):∀(x:AV) (v:Value),RV ρ G w x v->RV ρ G w' x v
 | .s _,_,h=> by simpa only [RV] using h
 | .ref r g off,v,h=> by simpa only [RV] using h
 | .sl r g off esz len cap ex,v,h=> by
  obtain⟨b,o,c,e,k1,k2,k3,h1,h2⟩:=(by simpa only [RV] using h)
  simp only [RV];refine⟨b,o,c,e,k1,k2,k3,h1,λhg=> ?_⟩;obtain⟨sh,ty,k,q1,q2,q3,q4⟩:=h2 hg;exact⟨sh,ty,k,q1,q2,M.shape _ _ _ q3,q4⟩
 | .ip cells,v,h=> by
  obtain⟨b,o,e,hb,hi,h1⟩:=(by simpa only [RV] using h)
  simp only [RV];exact⟨b,o,e,zau hb M.size,hi,RVc.grn M cells b o h1⟩
 | .vs m esz cells,v,h=> by
  obtain⟨b,o,c,e,k1,k2,hb,hi,h1⟩:=(by simpa only [RV] using h)
  simp only [RV];exact⟨b,o,c,e,k1,k2,zau hb M.size,hi,RVc.grn M cells b o h1⟩
 | .mp r,v,h=> by simpa only [RV] using h
 | .fn f a c,v,h=> by
  obtain⟨a',c',e,h1,h2⟩:=(by simpa only [RV] using h)
  simp only [RV];exact⟨a',c',e,RVs.grn M a _ h1,RVs.grn M c _ h2⟩
 | .agg cells,v,h=> by
  obtain⟨cs,e,h1⟩:=(by simpa only [RV] using h)
  simp only [RV];exact⟨cs,e,RVs.grn M cells _ h1⟩
 | .tup cells,v,h=> by
  obtain⟨cs,e,h1⟩:=(by simpa only [RV] using h)
  simp only [RV];exact⟨cs,e,RVs.grn M cells _ h1⟩
theorem RVs.grn {ρ:Ren}{G:Nat->Nat}{w w':World}(M:Grn w w'):∀(xs:List AV) (l:List Value),RVs ρ G w xs l->RVs ρ G w' xs l
 | [],_,h=> by simpa only [RVs] using h
 | x::xs,l,h=> by
  obtain⟨y,ys,e,h1,h2⟩:=(by simpa only [RVs] using h)
  simp only [RVs];exact⟨y,ys,e,RV.grn M x y h1,RVs.grn M xs ys h2⟩
theorem RVc.grn {ρ:Ren}{G:Nat->Nat}{w w':World}(M:Grn w w'):∀(xs:List AV) (b o:Nat),RVc ρ G w xs b o->RVc ρ G w' xs b o
 | [],_,_,_=> by simp only [RVc]
 | x::xs,b,o,h=> by
  obtain⟨⟨y,e,h1⟩,h2⟩:=(by simpa only [RVc] using h)
  simp only [RVc];exact⟨⟨y,M.cell _ _ _ e,RV.grn M x y h1⟩,RVc.grn M xs b (o+1) h2⟩
end
section
variable {P:Program}{C:aA}
theorem ak5 {w w':World}{row:Option Nat}(hg:w.grownBy w' row)(hr:∀r,row=some r->∃o:Obj,w.heap[r]?=some o/\o.isCells=false):Grn w w':=by
 refine⟨hg.size,λb o v h=> cell_kept h hg hr,λb e m h=> ?_⟩;rw [dY] at h ⊢;cases hb:w.heap[b]? with
 | none=> rw [hb] at h;cases h
 | some ob=>
  have hc:ob.isCells=true:=by
   rw [hb] at h;cases ob <;> first | rfl | cases h
  rw [grownBy_keeps_cells hg hr hb hc];exact h
theorem uM.grown {H:ah}(h:uM H){ρ:Ren}{w w':World}(R:Rel ρ H w){row:Option Nat}{B:Nat}(hg:w.grownBy w' row)(hr:∀r,row=some r->B<=r/\∃o:Obj,w.heap[r]?=some o/\o.isCells=false)(hB:∀b∈fx.blocks,b < B):Rel ρ H w'/\Grn w w':=by
 have M:=ak5 hg λr e=> (hr r e).2;refine⟨⟨R.out,λr b sh hrb=> ?_,R.inj,?_⟩,M⟩
 ·have h1:=R.obj r b sh hrb;obtain⟨cs0,e0,hb0⟩:=h.cells R hrb;have hk:=grownBy_keeps_cells hg (λr e=> (hr r e).2) hb0 rfl;cases ho:H.get r with
  | blk g ty cells=>
   rw [ho] at h1;obtain⟨cs,e,q1,q2,q3,q4⟩:=h1;exact⟨cs,e,by rw [hk];exact q1,q2,RVc.grn M _ _ _ q3,q4⟩
  | map k es=> exact absurd ho (h r k es)
 ·refine⟨λb hb=> ?_,fx.frame w w' (λb hb=> ?_) R.gl.2⟩
  ·obtain⟨h1,h2⟩:=R.gl.1 b hb;exact⟨zau h1 hg.size,h2⟩
  ·refine hg.block b (R.gl.1 b hb).1 λe=> ?_;have:=(hr b e.symm).1;have:=hB b hb;omega
theorem Ext.grown {ρ ρ1:Ren}{H H1:ah}{w W W':World}(E:Ext ρ H w ρ1 H1 W){row:Option Nat}(hg:W.grownBy W' row)(hr:∀r,row=some r->w.heap.size<=r):Ext ρ H w ρ1 H1 W':=by
 have hb:∀b,b < w.heap.size->W'.heap[b]?=W.heap[b]?:=λb hb=> hg.block b (zau hb E.size) λe=> by
  have:=hr b e.symm;omega
 exact⟨E.next,E.mono,E.same,E.kept,E.range,zas E.size hg.size,λb h hi=> (hb b h).trans (E.frame b h hi),λb h=> by rw [<-E.shape b h,dY,dY,hb b h],hg.os.trans E.os,hg.tape.trans E.tape,hg.output.trans E.output⟩
def KpC(CP:World->Prop)(A B:World):Prop:=CP A->CP B
theorem abo(hm:P.follows .mixedOrders=true){t:fC}{H:ah}{ρ:Ren}{w:World}{a:Act}(R:Rel ρ H w)(T:TOn ρ H.gen w (λ_=> True) t a)
  {g:Operand} {p d:Tmp} (hp:p < t.length) (hpd:p≠d) {ida:Nat} {ty:TypeId} {pos:String} {aft:Array Edge} {body:Code}
  {gf:Nat} {lb:Array Value} (hg:a.eval g=.func (.func gf) #[] lb) (eg:∀args w,(callFunc gf args).run P w=.ok (.enter gf args) w)
  {N:Nat} (vs:Fin N->AV) (cvs:Fin N->Value) (hv:∀x,RV ρ H.gen w (vs x) (cvs x)) (CP:World->Prop) (hL:∀(W:World) (l:Nat) (o o':Obj),w.heap.size<=l->W.heap[l]?=some o->o.isCells=false->CP W->CP (W.putObj l o'))
  (hseq:∀n,1<=n->SeqStopsK Fence.wide n P gf lb (λx=> #[cvs x]) (KpC CP) (λys=> ys.map (λx:Fin N=> x.val)=List.range N) (λ_=> True) N w)
  (Inv:List (Fin N)->ah->Prop) (h0:Inv [] H) (hnm:∀pre H1,Inv pre H1->uM H1)
  (hcell:∀pre H1 ρ1 W,Inv pre H1->Rel ρ1 H1 W->Ext ρ H w ρ1 H1 W->CP W)
  (hrun:∀pre x H1,Inv pre H1->pre.length < N->∃t2 H2,dZ P C body (tY (tY t (some p) (vs x)) (some d) (vs x)) H1=some (.normal,t2,H2)/\Inv (pre++[x]) H2)
  (hin:vT P C body) {Q:Exit->Act->World->Prop}
  (hQ:∀xs H1 D W ρ1,xs.map (λx:Fin N=> x.val)=List.range N->Inv xs H1->Rel ρ1 H1 W->Ext ρ H w ρ1 H1 W->W.heap[D]?=some (.deferred (some []))->Imm ρ1 D->w.heap.size<=D->Q .normal { a with defers:={ target:=.collected D,args:=#[] }::a.defers } W):
  (Code.rangeFunc g #[p] (.region ida #[{ dst:=some d,op:=.assign (.tmp p),type:=ty,pos:=pos,after:=aft,guard:=none }] false) body).wp P Q a w:=by
 refine(wpIn_wide (n:=9)).1 ?_;have hpa:p < a.tmps.size:=by rw [T.size];exact hp
 let a0:Fin N->Act:=λx=> { tmps:=a.tmps.setIfInBounds p (cvs x),defers:=[] }
 let I:List (Fin N)->World->Prop:=λpre W=>∃H1 ρ1,Inv pre H1/\Rel ρ1 H1 W/\Ext ρ H w ρ1 H1 W
 have hfx:∀b∈fx.blocks,b < w.heap.size:=λb hb=> (R.gl.1 b hb).1;refine wpIn_rangeFunc_ownF (F:=Fence.wide) (α:=Fin N) rfl (by decide) (gf:=gf) (lb:=lb) hg trivial eg (hseq 8 (by decide)) (λh k hx=> k (h hx)) ?hKb (Below.refl _ _) (λ_=> rfl) I (λ_ _ _=> False) ?hI (λ_ _ _ _ _ h _ _=> h) ⟨H,ρ,h0,R,Ext.refl _ _ _⟩ (λx=> (a0 x).put (some d) (cvs x)) ?hassign ?hbody ?hdone (λ_ _ _ _ _ _ h _=> h.elim)
 case hKb=>
  intro W l o o' hl ho hc _ hx;exact hL W l o o' hl ho hc hx
 case hI=>
  rintro pre W W' row ⟨H1,ρ1,i1,i2,i3⟩ hgr hr;obtain⟨r1,_⟩:=(hnm pre H1 i1).grown i2 hgr hr hfx;exact⟨H1,ρ1,i1,r1,i3.grown hgr λr e=> (hr r e).1⟩
 case hassign=>
  intro l x W K hK;refine wpIn_region ?_;have e1:(#[p].zip #[cvs x]).foldl (λt q=> t.setIfInBounds q.1 q.2) a.tmps=a.tmps.setIfInBounds p (cvs x):=by simp
  have e2:({ tmps:=a.tmps.setIfInBounds p (cvs x),defers:=[] }:Act).eval (.tmp p)=cvs x:=by
   simp [Act.eval,Array.getD,hpa]
  show wpOpsIn _ _ P _ _ [0] _ W;simp only [wpOpsIn,List.getElem?_toArray,za2,Region.wanted,if_true];refine ak4 (GZ rfl) ?_;unfold Oper.wp;have e3:execOp ({ tmps:=a.tmps.setIfInBounds p (cvs x),defers:=[] }:Act).eval { dst:=some d,op:=.assign (.tmp p),type:=ty,pos:=pos,after:=aft,guard:=none }=pure (.value (cvs x)):=by
   show pure (Next.value _)=_;rw [e2]
  have e4:((#[p].zip #[cvs x]).foldl (λt x=> match x with | (p,v)=> t.setIfInBounds p v) a.tmps)=a.tmps.setIfInBounds p (cvs x):=by simp
  rw [e4,e3];exact hK
 case hbody=>
  rintro l pre x W ⟨H1,ρ1,i1,i2,i3⟩ hlen;obtain⟨t2,H2,r1,r2⟩:=hrun pre x H1 i1 hlen;have hvx:=RV.mono i3.toMono _ _ (hv x);have T0:TOn ρ1 H1.gen W (λ_=> True) (tY t (some p) (vs x)) (a0 x):=⟨((T.keep i3).put (some p) hvx).size,((T.keep i3).put (some p) hvx).get⟩
  have T1:=T0.put (some d) hvx;refine hin l _ _ H1 _ t2 H2 r1 ρ1 W _ i2 T1 _ (λ⟨_,_,h⟩=> h) λa' ρ' w' q1 q2 q3 q4=> ?_;refine⟨⟨q3.size,λk o ho hc=> ?_⟩,λ_=> hcell _ H2 ρ' w' r2 q1 (i3.trans q3),H2,ρ',r2,q1,i3.trans q3⟩;rw [q3.frame k (za7.1 ho).1 ((hnm pre H1 i1).imm i2 ho hc)];exact ho
 case hdone=>
  rintro D xs W hD hS ⟨H1,ρ1,i1,i2,i3⟩ hK;exact hQ xs H1 D W ρ1 hS i1 i2 i3 hK ((hnm xs H1 i1).imm i2 hK rfl) hD
end
def apz(e:TypeId)(m by_:Nat)(z:List AV)(x y:AV):AM AV:=λH=> match y with
 | .s (.int _ n)=> if 0<=n/\n<=most/\n*by_<=most then dJ e m by_ x n.toNat (dI z n.toNat) H else none
 | _=> none
def Bj:Ann:=⟨[],[(4,rF 40 (none::some false::[])),(7,rF 3 (some true::rF 4 []))],[]⟩
def Yw:Code:=match afP with
 | .seq a (.seq b (.seq c (.seq d (.seq (.seq e _) f))))=> .seq a (.seq b (.seq c (.seq d (.seq e .skip))))
 | _=> .skip
def Yx(C:aA)(t0:AV)(H:ah):Option (List AV × ah):=
 bnd (alc 99 [zI,zI,zI,zI,zI,zI,zI,zB,zN] H) λv2 H=>
 bnd (C 122 [t0] H) λv12 H=> bo (aF v12 0) λv13=> bo (aF v12 1) λv14=>
 bo (un .not v14) λv16=> gdA (some v16) false (fE (some v13) H) H λv18 H=> gdA (some v16) false (lnS v18 H) H λv19 H=> gdA (some v16) false (fE (bi .lss 3 v19 (I 10)) H) H λv20 H=> bo (bG v16 (B true) v20) λv21=> gdA (some v21) false (fE (some v13) H) H λv23 H=> gdA (some v21) false (lnS v23 H) H λv24 H=> gdA (some v21) false (fE (some v13) H) H λv25 H=> gdA (some v21) false (ix 1 v25 (I 9) H) H λv26 H=> gdA (some v21) false (ld v26 H) H λv27 H=> gdA (some v21) false (cv 5 3 v27 H) H λv28 H=> gdA (some v21) false (fE (bi .mul 3 (I 8) v28) H) H λv29 H=> gdA (some v21) false (fE (bi .add 3 (I 10) v29) H) H λv30 H=> gdA (some v21) false (fE (bi .neq 3 v24 v30) H) H λv31 H=> bo (bG v21 (B true) v31) λv32=>
 aI v32
 (bo (bd 99 []) λv33=> bnd (st 9 v2 v33 H) λ_ H=>
  none)
 (bnd (alc 99 [zI,zI,zI,zI,zI,zI,zI,zB,zN] H) λv6 H=> bnd (ix 1 v13 (I 0) H) λv35 H=> bnd (ld v35 H) λv36 H=> bnd (cv 5 3 v36 H) λv37 H=> bnd (ix 1 v13 (I 1) H) λv39 H=> bnd (ld v39 H) λv40 H=> bnd (cv 5 3 v40 H) λv41 H=> bnd (ix 1 v13 (I 2) H) λv43 H=> bnd (ld v43 H) λv44 H=> bnd (cv 5 3 v44 H) λv45 H=> bnd (ix 1 v13 (I 3) H) λv47 H=> bnd (ld v47 H) λv48 H=> bnd (cv 5 3 v48 H) λv49 H=> bo (bi .shl 3 v49 (.s (Go.Value.int Go.IntKind.u64 8))) λv50=> bnd (ix 1 v13 (I 4) H) λv52 H=> bnd (ld v52 H) λv53 H=> bnd (cv 5 3 v53 H) λv54 H=> bo (bi .or 3 v50 v54) λv55=> bnd (ix 1 v13 (I 5) H) λv57 H=> bnd (ld v57 H) λv58 H=> bnd (cv 5 3 v58 H) λv59 H=> bnd (ix 1 v13 (I 6) H) λv61 H=> bnd (ld v61 H) λv62 H=> bnd (cv 5 3 v62 H) λv63 H=> bo (bi .sub 3 v63 (I 1)) λv64=> bnd (ix 1 v13 (I 7) H) λv66 H=> bnd (ld v66 H) λv67 H=> bnd (cv 5 3 v67 H) λv68 H=> bnd (ix 1 v13 (I 8) H) λv70 H=> bnd (ld v70 H) λv71 H=> bo (bi .eql 5 v71 (.s (Go.Value.int Go.IntKind.u8 1))) λv72=> bo (bd 99 [(0,v37),(1,v41),(2,v45),(3,v55),(4,v59),(5,v64),(6,v68),(7,v72)]) λv73=> bnd (st 9 v6 v73 H) λ_ H=>
  bo (slS 1 v13 (some (I 10)) none none) λv75=> bnd (C 123 [v75,(I 8)] H) λv76 H=>
  some ([t0,v2,v6,v76],H))
theorem ak6(C:aA)(t0:AV)(H:ah):jV Tryz.prog C Bj 100 Yw [(0,t0)] H (λe H=> some (wu [0,2,6,76] e,H)) (λ_ _ _=> none) (λ_ _=> none)=Yx C t0 H:=by kernel_rfl
def SK:Code:=match afP with
 | .seq a (.seq b (.seq c (.seq d (.seq (.seq e (.block _ (.rangeFunc _ _ _ g))) f))))=> g
 | _=> .skip
def Yy(C:aA)(t6 t7:AV)(H:ah):Option (List AV × ah):=
 bo (ak t6 8) λv78=> bnd (ld v78 H) λv79 H=> bnd (unG H (C 124 [t7] H.guard)) λv81 H=> bnd (bs 22 1 [(0,v81)] H) λv82 H=> bnd (app 3 1 8 v79 v82 H) λv83 H=> bo (ak t6 8) λv84=> bnd (st 1 v84 v83 H) λ_ H=>
 some ([],H)
theorem ak7(C:aA)(t6 t7:AV)(H:ah):jV Tryz.prog C Bj 100 SK [(6,t6),(7,t7)] H (λe H=> some (wu [] e,H)) (λ_ _ _=> none) (λ_ _=> none)=Yy C t6 t7 H:=by kernel_rfl
def SL:Code:=match afP with
 | .seq a (.seq b (.seq c (.seq d (.seq (.seq e _) f))))=> f
 | _=> .skip
def Yz(C:aA)(t0 t2 t6:AV)(H:ah):Option (AV × ah):=
 bnd (lda 9 t6 H) λv86 H=> bnd (C 75 [v86] H) λv87 H=> bo (aF v87 0) λv88=> bo (aF v87 1) λv89=>
 bo (bi .neq 29 v89 (I 0)) λv91=> gdA (some v91) false (fE (some v88) H) H λv93 H=> gdA (some v91) false (fE (some t0) H) H λv94 H=> gdA (some v91) false (C 125 [v93,v94] H) H λv95 H=> gdA (some v91) false (fE (un .not v95) H) H λv96 H=> bo (bG v91 (B true) v96) λv97=>
 aI v97
 (bo (bd 99 []) λv98=> bnd (st 9 t2 v98 H) λ_ H=>
  bnd (lda 9 t2 H) λr0 _=> some (.tup [r0,(I 2)],H))
 (bnd (lda 9 t6 H) λv99 H=> bnd (st 9 t2 v99 H) λ_ H=>
  bnd (lda 9 t2 H) λr0 _=> some (.tup [r0,(I 0)],H))
theorem ak8(C:aA)(t0 t2 t6:AV)(H:ah):jV Tryz.prog C Bj 100 SL [(0,t0),(2,t2),(6,t6)] H (J4 Tryz.prog 100 Tryz.f76.results.toList) (λ_ _ _=> none) (J4 Tryz.prog 100 Tryz.f76.results.toList)=Yz C t0 t2 t6 H:=by kernel_rfl
def JB(C:aA)(t0:AV)(H:ah):OA:=
 some (t0,H)
def JC(C:aA)(t0 t1:AV)(H:ah):OA:=
 bnd (fE (acv Tryz.prog 158 t0) H) λv10 H=> bnd (lnS t0 H) λv12 H=> bo (bi .sub 3 v10 v12) λv13=> bo (bi .sub 3 t1 v13) λv14=>
 bo (bi .gtr 3 v14 (I 0)) λv16=>
 aI v16
 (bnd (fE (acv Tryz.prog 158 t0) H) λv19 H=> bo (slS 1 t0 none (some v19) none) λv20=> bnd (apz 5 1 1 [.s (.int .u8 0)] v20 v14 H) λv22 H=> bnd (lnS t0 H) λv24 H=> bo (slS 1 v22 none (some v24) none) λv25=>
  JB C v25 H)
 (JB C t0 H)
def aer(C:aA)(a0 a1:AV)(H:ah):OA:=
 bo (bi .lss 3 a1 (I 0)) λv6=>
 aI v6
 (bnd (stk H) λv7 H=> bnd (stk H) λ_ H=>
  JC C a0 a1 H)
 (JC C a0 a1 H)
theorem ak9:Rn2 190 aer:=λ_ _ _ _ _ h=>
 rnG an0 Tryz.func190 (by kernel_rfl) (by kernel_rfl) h
structure Gro(H H':ah):Prop where
 next:H.next<=H'.next
 base:H'.base=H.base
 same:∀r,r < H.next->H'.get r=H.get r
 MZ:uM H->uM H'
theorem Gro.refl(H:ah):Gro H H:=⟨zac _,rfl,λ_ _=> rfl,λh=> h⟩
theorem Gro.trans {H H' H'':ah}(a:Gro H H')(b:Gro H' H''):Gro H H'':=
 ⟨zas a.next b.next,b.base.trans a.base,λr h=> (b.same r (zau h a.next)).trans (a.same r h),λh=> b.MZ (a.MZ h)⟩
theorem Gro.new(H:ah)(g ty:Nat)(xs:List AV):Gro H (H.new (.blk g ty xs)):=
 ⟨by rw [dL];omega,iC,λr h=> aS h,λh r k es=> by
  by_cases e:r=H.next
  ·rw [aJ e];simp
  ·have:(H.new (.blk g ty xs)).get r=H.get r:=by simp [ah.new,e]
   rw [this];exact h r k es⟩
structure bU(H:ah)(x:AV)(l:List By):Prop where
 is:aH H x 1 l.length (l.map Y)
 small:l.length < 1000
theorem bU.gro {H H':ah}{x:AV}{l:List By}(h:bU H x l)(g:Gro H H'):bU H' x l:=⟨h.is.fV g.next λr _ hr=> g.same r hr,h.small⟩
theorem bU.ix {H:ah}{x:AV}{l:List By}(h:bU H x l){i:Nat}(hi:i < l.length):ix 1 x (I i) H=some (dW x i,H):=by
 have:=h.is.ix (k:=.i64) (i:=(i:Int)) (by omega) (by omega)
 rwa [zao] at this
theorem bU.ld {H:ah}{x:AV}{l:List By}(h:bU H x l){i:Nat}{c:By}(hi:l[i]?=some c):ld (dW x i) H=some (Y c,H):=by
 rw [h.is.ld (by have:=(zak.1 hi).1;omega),zaD,hi];rfl
theorem af0(s:S16):(s <<< 1) ^^^ ((s >>> 15)*4129#16)=shS s:=by
 unfold shS
 congr 1
 have hlt:=s.isLt;have h15:s >>> 15=if s.msb then 1#16 else 0#16:=by
  apply BitVec.eq_of_toNat_eq
  rw [BitVec.toNat_ushiftRight,zco,BitVec.msb_eq_decide];by_cases h:2 ^ (16 - 1)<=s.toNat
  ·simp only [h,decide_true,if_true];show s.toNat / 2 ^ 15=1;omega
  ·simp only [h,decide_false,zal,if_false];show s.toNat / 2 ^ 15=0;omega
 rw [h15];cases s.msb <;> simp
theorem aeu {x:AV}{n i:Int}(H:ah):∀(k j:Nat),j+k=8->∀s:S16,CS cl0 [U16 s,x,I n,I i,I j] H=yO cl0 [U16 (shN k s),x,I n,I (IntKind.wrap .i64 (i+1))] H
 | 0,j,hj,s=> by
  have h1:¬((j:Int) < 8):=by omega
  rw [SC];simp only [xq_,h1,bI];rfl
 | k+1,j,hj,s=> by
  have h1:(j:Int) < 8:=by omega
  have h6:(j:Int)+1=((j+1:Nat):Int):=by omega
  have h7:=wrap_i64 (a:=((j+1:Nat):Int)) (by omega) (by omega);have e1:bi .shr 33 (U16 s) (.s (.int .u64 15))=some (U16 (s >>> 15)):=afm (k:=.u16) s 15 (by decide) (by decide);have e2:bi .shl 33 (U16 s) (.s (.int .u64 1))=some (U16 (s <<< 1)):=Xy (k:=.u16) rfl s 1 (by decide) (by decide);have e3:bi .mul 33 (U16 (s >>> 15)) (.s (.int .u16 4129))=some (U16 ((s >>> 15)*4129#16)):=amQ (k:=.u16) rfl (s >>> 15) 4129#16;have e4:bi .xor 33 (U16 (s <<< 1)) (U16 ((s >>> 15)*4129#16))=some (U16 (shS s)):=by rw [<-af0];exact afl (k:=.u16) rfl _ _
  have ih:=aeu (x:=x) (n:=n) (i:=i) H k (j+1) (by omega) (shS s);rw [SC];simp only [xq_,h1,e1,e2,e3,e4,bI,h6,h7,ih];rfl
theorem apG {H:ah}{x:AV}{l:List By}(hx:bU H x l):cl0 157 [x] H=some (U16 (sK 0xffff#16 l),H):=by
 have key:∀(k i:Nat),i+k=l.length->∀s:S16,yO cl0 [U16 s,x,I l.length,I i] H=some (U16 (sK s (l.drop i)),H):=by
  intro k
  induction k with
  | zero=>
   intro i hi s;have h1:¬((i:Int) < l.length):=by omega
   rw [SB,zaF (by omega)];simp only [xq_,h1];rfl
  | succ k ih=>
   intro i hi s;have h1:(i:Int) < l.length:=by omega
   have h6:(i:Int)+1=((i+1:Nat):Int):=by omega
   have h7:=wrap_i64 (a:=((i+1:Nat):Int)) (by have:=hx.small;omega) (by have:=hx.small;omega);obtain⟨c,hc⟩:∃c,l[i]?=some c:=⟨_,zab (by omega)⟩
   have s1:=hx.ix (i:=i) (by omega);have s2:=hx.ld hc;have e1:cv 5 33 (Y c) H=some (U16 (c.setWidth 16),H):=
    (afc (k:=.u8) (n:=(c.toNat:Int)) (H:=H)).trans (congrArg (λv=> some (v,H)) (aiq (k:=.u8) (k':=.u16) rfl c))
   have e2:bi .shl 33 (U16 (c.setWidth 16)) (.s (.int .u64 8))=some (U16 (c.setWidth 16 <<< 8)):=Xy (k:=.u16) rfl (c.setWidth 16) 8 (by decide) (by decide);have e3:bi .xor 33 (U16 s) (U16 (c.setWidth 16 <<< 8))=some (U16 (s ^^^ (c.setWidth 16 <<< 8))):=afl (k:=.u16) rfl _ _;have e4:=aeu (x:=x) (n:=(l.length:Int)) (i:=(i:Int)) H 8 0 rfl (s ^^^ (c.setWidth 16 <<< 8));rw [h6,h7] at e4;have hd:l.drop i=c::l.drop (i+1):=by
    rw [zaR (by omega)];rw [zab (by omega)] at hc;rw [zaX hc]
   have ih1:=ih (i+1) (by omega) (VI s c);have e5:sK s (c::l.drop (i+1))=sK (VI s c) (l.drop (i+1)):=rfl;rw [SB,hd,e5,<-ih1];have z0:((0:Nat):Int)=0:=rfl;rw [z0] at e4;simp only [xq_,h1,s1,s2,e1,e2,e3,e4];rfl
 refine iq (akx _ _ _ ?_);have s0:=hx.is.lnS;have k0:=key l.length 0 (by omega) 0xffff#16;rw [zaO] at k0;simp only [xq_,aec,s0];exact k0
theorem SN {e:Nat}{z a c:AV}{H:ah}(ha:One a)(hc:One c):bsl e 1 [z] 2 [(0,a),(1,c)] H=some (.sl H.next 0 0 1 2 2 true,H.new (.blk 0 e [a,c])):=by
 have e1:dI [z] 2=[z,z]:=rfl;unfold bsl;rw [e1,Ee (off:=0) rfl ha.1 (by simp),Ee (off:=1) rfl hc.1 (by simp),dH];simp only [zcD,zc0];simp only [zb2,ha.2,hc.2,zcv,zcA,if_true]
theorem YA {e by_ r ty len cap n:Nat}{ex:Bool}{y:AV}{cells new:List AV}{H:ah}(hx:H.get r=.blk 0 ty cells)(hb:H.base<=r)(hy:aH H y 1 n new)(hc:new.all AV.aU=true)(hcap:len+n<=cap)(hl:len+n<=cells.length):
  app e 1 by_ (.sl r 0 0 1 len cap ex) y H=some (.sl r 0 0 1 (len+n) cap ex,H.put r (.blk 0 ty (aG cells len new))):=by
 obtain⟨c1,c2⟩:=hy.AX;simp only [app,c1,c2];unfold dJ;rw [if_pos ⟨hy.1,hc⟩];simp only [hx];rw [if_pos ⟨trivial,trivial,by omega⟩];by_cases hn:n=0
 ·subst hn;have hnew:new=[]:=zan (by have:=hy.1;omega);subst hnew;rw [if_pos rfl];have:aG cells len []=cells:=by simp [aG]
  rw [this,zbp];have:H.put r (.blk 0 ty cells)=H:=by
   unfold ah.put;cases H with
   | mk n b g=>
    simp only at hx ⊢
    congr 1
    funext x
    split
    ·rename_i h;rw [h,hx]
    ·rfl
  rw [this]
 ·rw [if_neg hn,if_pos hcap,if_pos ⟨hb,by omega⟩];simp
theorem aof(H:ah)(n:Nat)(h0:0 < n)(h1:n < 10000):cl0 190 [zN,I n] H=some (.sl H.next 0 0 1 0 n false,H.new (.blk 0 (5+fQ) (dI [.s (.int .u8 0)] n))):=by
 refine iq (ak9 _ _ _ _ ?_);have n0:¬((n:Int) < 0):=by omega
 have cp:acv Tryz.prog 158 zN=some (I 0):=by kernel_rfl
 have w0:IntKind.wrap .i64 ((0:Int) - 0)=0:=rfl;have w1:IntKind.wrap .i64 ((n:Int) - 0)=n:=by rw [Int.sub_zero];exact wrap_i64 (by omega) (by omega)
 have g0:(0:Int) < n:=by omega
 have s0:slS 1 zN none (some (I 0)) none=some zN:=by kernel_rfl
 have az:apz 5 1 1 [.s (.int .u8 0)] zN (I n) H=some (.sl H.next 0 0 1 n n false,H.new (.blk 0 (5+fQ) (dI [.s (.int .u8 0)] n))):=by
  show(if 0<=(n:Int)/\(n:Int)<=most/\(n:Int)*1<=most then dJ 5 1 1 zN (n:Int).toNat (dI [.s (.int .u8 0)] (n:Int).toNat) H else none)=_;have hm:(n:Int)<=most:=by unfold most;omega
  rw [if_pos ⟨by omega,hm,by omega⟩,zao];unfold dJ;have hl:(dI [AV.s (.int .u8 0)] n).length=n*1:=by rw [oC];simp
  rw [if_pos ⟨hl,zQ rfl n⟩];simp only;rw [if_neg (by omega),if_pos ⟨by unfold most;omega,by unfold most;omega⟩]
 have s1:slS 1 (.sl H.next 0 0 1 n n false) none (some (I 0)) none=some (.sl H.next 0 0 1 0 n false):=Xh (by omega) (by omega);have ln0:∀H,lnS zN H=some (I 0,H):=λ_=> rfl;simp only [xq_,aer,JC,JB,n0,cp,ln0,ku,w0,w1,g0,s0,az,s1]
theorem af2 {c:By}:One (Y c):=⟨rfl,rfl⟩
theorem YB {H:ah}{x:AV}{l:List By}(h:bU H x l):One x:=by
 obtain⟨_,hh⟩:=h.is;cases x with
 | sl r g off esz len cap ex=> exact mZ
 | vs n m l=> exact acY
 | s v=> cases v <;> first | exact hh.elim | exact⟨rfl,rfl⟩
 | _=> exact hh.elim
theorem apH {H:ah}(hb:H.base<=H.next){a x y:AV}{l m:List By}(ha:aH H a 1 2 [x,y])(hx:bU H x l)(hy:bU H y m)(hm:0 < m.length):
  cl0 158 [a] H=some (.sl H.next 0 0 1 (l.length+m.length) (l.length+m.length) false,H.new (.blk 0 (5+fQ) ((l++m).map Y))):=by
 have sl:=hx.small;have sm:=hy.small;refine iq (aky _ _ _ ?_);have ln:=ha.lnS;have i0:=ha.ix (k:=.i64) (i:=0) (by decide) (by decide);have i1:=ha.ix (k:=.i64) (i:=1) (by decide) (by decide);have d0:ld (dW a 0) H=some (x,H):=ha.ld (by decide);have d1:ld (dW a 1) H=some (y,H):=ha.ld (by decide);have lx:=hx.is.lnS;have ly:=hy.is.lnS;let Z:ah->List AV->ah:=λH l=> H.new (.blk 0 (5+fQ) l)
 obtain⟨n,hn⟩:∃n,n=l.length+m.length:=⟨_,rfl⟩
 have gr:=aof H n (by omega) (by omega);have K:∀cs,Gro H (H.new (.blk 0 (5+fQ) cs)):=λcs=> Gro.new H 0 _ cs;have hz:(dI [AV.s (.int .u8 0)] n).length=n:=by rw [oC];simp
 -- behind the first
 let c1:=aG (dI [AV.s (.int .u8 0)] n) 0 (l.map Y);have a1:=YA (e:=5) (by_:=1) (r:=H.next) (ex:=false) (cap:=n) (H:=H.new (.blk 0 (5+fQ) (dI [.s (.int .u8 0)] n))) (aJ rfl) (by rw [iC];exact hb) (hx.gro (K _)).is (aa3 l) (len:=0) (by omega) (by omega);rw [PS,za5] at a1;have hc1:c1.length=n:=by simp only [c1,aG,zaq,zav,zaN,zax,hz];omega
 have a2:=YA (e:=5) (by_:=1) (r:=H.next) (ex:=false) (cap:=n) (H:=H.new (.blk 0 (5+fQ) c1)) (aJ rfl) (by rw [iC];exact hb) (hy.gro (K _)).is (aa3 m) (len:=l.length) (by omega) (by omega);rw [PS] at a2;have hc2:aG c1 l.length (m.map Y)=(l++m).map Y:=by
  simp only [c1,aG,zds,zaU,za5,zax];rw [zb3 (by simp),zaE (by simp),List.drop_append,zaF (by simp),zbC];rw [zaF (by simp only [hz,zax];omega)];simp
 rw [hc2] at a2;have ga:=λcs=> (ha.fV (K cs).next λr _ hr=> (K cs).same r hr)
 have li:=λcs=> (ga cs).lnS;have j0:=λcs=> (ga cs).ix (k:=.i64) (i:=0) (by decide) (by decide);have j1:=λcs=> (ga cs).ix (k:=.i64) (i:=1) (by decide) (by decide);have e0:∀cs,ld (dW a 0) (H.new (.blk 0 (5+fQ) cs))=some (x,H.new (.blk 0 (5+fQ) cs)):=λcs=> (ga cs).ld (by decide);have e1:∀cs,ld (dW a 1) (H.new (.blk 0 (5+fQ) cs))=some (y,H.new (.blk 0 (5+fQ) cs)):=λcs=> (ga cs).ld (by decide);have t0:((0:Int).toNat)=0:=rfl;have t1:((1:Int).toNat)=1:=rfl;rw [t0] at i0;rw [t1] at i1;have j0:∀cs,ix 1 a (I 0) (H.new (.blk 0 (5+fQ) cs))=some (dW a 0,H.new (.blk 0 (5+fQ) cs)):=j0;have j1:∀cs,ix 1 a (I 1) (H.new (.blk 0 (5+fQ) cs))=some (dW a 1,H.new (.blk 0 (5+fQ) cs)):=j1;have w1:IntKind.wrap .i64 ((0:Int)+l.length)=l.length:=by rw [Int.zero_add];exact wrap_i64 (by omega) (by omega)
 have w2:IntKind.wrap .i64 ((l.length:Int)+m.length)=n:=by rw [hn];have:=wrap_i64 (a:=((l.length+m.length:Nat):Int)) (by omega) (by omega);rwa [Int.natCast_add] at this ⊢
 have p1:IntKind.wrap .i64 (1:Int)=1:=rfl;have p2:IntKind.wrap .i64 (2:Int)=2:=rfl;have q1:¬((l.length:Int) < 0):=by omega
 have q2:¬((n:Int) < 0):=by omega
 have z2:((2:Nat):Int)=2:=rfl;rw [z2] at ln;have li:∀cs,lnS a (H.new (.blk 0 (5+fQ) cs))=some (I 2,H.new (.blk 0 (5+fQ) cs)):=li;rw [<-hn] at a2 ⊢;simp only [c1] at a2;simp only [xq_,aed,ln];rw [Jz];simp only [Int.reduceLT,Int.reduceAdd,xq_,CU,i0,d0,lx,bI,w1,q1,p1];rw [Jz];simp only [Int.reduceLT,Int.reduceAdd,xq_,CU,i1,d1,ly,bI,w2,q2,p2];rw [Jz];simp only [Int.reduceLT,xq_,gr,li];rw [JA];simp only [Int.reduceLT,Int.reduceAdd,xq_,j0,e0,a1,bI,p1];rw [JA];simp only [Int.reduceLT,Int.reduceAdd,xq_,j1,e1,a2,bI,p2];rw [JA];simp only [Int.reduceLT,xq_]
theorem bU.made {H:ah}{l:List By}{ty:TypeId}{ex:Bool}(h:l.length < 1000):bU (H.new (.blk 0 ty (l.map Y))) (.sl H.next 0 0 1 l.length l.length ex) l:=
 ⟨jI (by simp),h⟩
theorem af4 {H:ah}(hb:H.base<=H.next){x:AV}{l:List By}(hx:bU H x l)(hl:l.length < 900):
  ∃y H',cl0 121 [x] H=some (y,H')/\Gro H H'/\bU H' y (jh l)/\H'.base<=H'.next:=by
 obtain⟨s,hs⟩:∃s,sK 0xffff#16 l=s:=⟨_,rfl⟩
 have e1:=apG hx;rw [hs] at e1;have e2:bi .shr 33 (U16 s) (.s (.int .u64 8))=some (U16 (s >>> 8)):=afm (k:=.u16) s 8 (by decide) (by decide);have e3:∀H,cv 33 5 (U16 (s >>> 8)) H=some (Y (VJ s),H):=λH=>
  (WY (k:=.u16) (n:=((s >>> 8).toNat:Int)) (H:=H)).trans (congrArg (λv=> some (v,H)) (aiq (k:=.u16) (k':=.u8) rfl (s >>> 8)))
 have e4:∀H,cv 33 5 (U16 s) H=some (Y (VK s),H):=λH=>
  (WY (k:=.u16) (n:=(s.toNat:Int)) (H:=H)).trans (congrArg (λv=> some (v,H)) (aiq (k:=.u16) (k':=.u8) rfl s))
 let H1:=H.new (.blk 0 5 [Y (VJ s),Y (VK s)]);let y1:AV:=.sl H.next 0 0 1 2 2 true
 let H2:=H1.new (.blk 0 158 [x,y1]);have g1:Gro H H1:=Gro.new H 0 _ _;have g2:Gro H1 H2:=Gro.new H1 0 _ _;have by1:bU H1 y1 [VJ s,VK s]:=bU.made (l:=[VJ s,VK s]) (by simp);have ha:aH H2 (.sl H1.next 0 0 1 2 2 true) 1 2 [x,y1]:=jI rfl;have hb2:H2.base<=H2.next:=by simp only [H2,H1,iC,dL];omega
 have ec:=apH hb2 ha (hx.gro (g1.trans g2)) (by1.gro g2) (by simp);have hse:jh l=l++[VJ s,VK s]:=by unfold jh;rw [hs]
 have hlen:(jh l).length=l.length+2:=by rw [hse];simp
 have bm:=bU.made (H:=H2) (l:=jh l) (ty:=5+fQ) (ex:=false) (by omega);rw [hlen] at bm;have l2:([VJ s,VK s]:List By).length=2:=rfl;rw [<-hse,l2] at ec;refine⟨_,_,iq (ajU _ _ _ (r:=(.sl H2.next 0 0 1 (l.length+2) (l.length+2) false,H2.new (.blk 0 (5+fQ) ((jh l).map Y)))) ?_),(g1.trans g2).trans (Gro.new H2 0 _ _),bm,by rw [iC,dL];omega⟩;have b1:bs 158 2 [(0,Y (VJ s)),(1,Y (VK s))] H=some (y1,H1):=(Rz (by decide)).trans (SN af2 af2);have b2:bs 262 2 [(0,x),(1,y1)] H1=some (.sl H1.next 0 0 1 2 2 true,H2):=(ahH (by decide)).trans (SN (YB hx) mZ);simp only [xq_,adL,e1,e2,e3,e4,b1,b2,ec]
theorem Bl:∀(ns:List Int) (b:ByteArray),(ns.foldl (λs n=> s.push (UInt8.ofNat n.toNat)) b).data.toList=b.data.toList++ns.map λn=> UInt8.ofNat n.toNat
 | [],b=> by simp
 | n::ns,b=> by
  rw [zbI,Bl ns];simp [ByteArray.push]
theorem YC {l m:List By}(h:Ku (l.map λc=> (c.toNat:Int))=Ku (m.map λc=> (c.toNat:Int))):l=m:=by
 have h1:=congrArg (λb:ByteArray=> b.data.toList) h;unfold Ku at h1;simp only [Bl,zcN] at h1;have h2:l.map (λc:By=> UInt8.ofBitVec c)=m.map (λc:By=> UInt8.ofBitVec c):=by
  have key:∀l:List By,l.map ((λn:Int=> UInt8.ofNat n.toNat) ∘ λc:By=> (c.toNat:Int))=l.map (λc:By=> UInt8.ofBitVec c):=λl=> zbk λc _=> by
   simp only [Function.comp,zao]
   apply UInt8.toBitVec_inj.1
   simp
  rw [<-key,<-key]
  simpa using h1
 exact(List.map_inj_right λa b h=> by simpa using h).1 h2
theorem Ad:∀l:List By,mO (l.map Y)=some (l.map λc=> (c.toNat:Int))
 | []=> rfl
 | c::l=> by
  show(match mO (l.map Y) with | some l'=> some ((c.toNat:Int)::l') | none=> none)=_;rw [Ad l];rfl
theorem ala {H:ah}{x:AV}{l:List By}(hx:bU H x l):cv 158 9 x H=some (.s (.string (Ku (l.map λc=> (c.toNat:Int)))),H):=by
 have hbt:Dp Tryz.prog 158 9=true:=by kernel_rfl
 obtain⟨hl,hh⟩:=hx.is;show jT (xW Tryz.prog 158 9 x) x H=_;unfold jT xW;rw [if_pos hbt];cases x with
 | sl r g off esz len cap ex=>
  obtain⟨rfl,rfl,_,ty,all,h2,h3,h4⟩:=hh;simp only [bD,zai,ag8,if_true,h2];rw [if_pos ⟨trivial,h3⟩,<-h4,Ad];rfl
 | vs n m cs=>
  obtain⟨rfl,rfl,rfl⟩:=hh;simp only [ag8,if_true,Ad];rfl
 | s v=>
  cases v with
  | slice a b c=>
   cases a with
   | none=>
    obtain⟨rfl,rfl,h3⟩:=(show b=0/\c=0/\l.length=0 from hh)
    have:l=[]:=zan h3;subst this;rfl
   | some a=> exact hh.elim
  | _=> exact hh.elim
 | _=> exact hh.elim
theorem YD {H:ah}{x y:AV}{l m:List By}(hx:bU H x l)(hy:bU H y m):cl0 125 [x,y] H=some (B (decide (l=m)),H):=by
 refine iq (ajX _ _ _ _ ?_);have e1:=ala hx;have e2:=ala hy;have e3:∀a c:ByteArray,bi .eql 9 (.s (.string a)) (.s (.string c))=some (B (decide (a=c))):=λa c=> by
  show nV _ _ _ _ _=_;rcases a with⟨a⟩
  rcases c with⟨c⟩
  by_cases h:a=c
  ·simp [nV,AV.val?,eqGuard,binOp,Op.stringOp,bZ,h]
  ·have h2:¬a.toList=c.toList:=λe=> h (zb7.1 e);rw [<-ByteArray.toList_eq ⟨a⟩,<-ByteArray.toList_eq ⟨c⟩] at h2;simp [nV,AV.val?,eqGuard,binOp,Op.stringOp,bZ,h,h2]
 have e4:decide (Ku (l.map λc=> (c.toNat:Int))=Ku (m.map λc=> (c.toNat:Int)))=decide (l=m):=by
  by_cases h:l=m
  ·rw [h];simp
  ·rw [decide_eq_false h,decide_eq_false λe=> h (YC e)]
 simp only [xq_,adP,e1,e2,e3,e4]
theorem bU.to_ {H:ah}{x:AV}{l:List By}(h:bU H x l){n:Nat}(hn:n<=l.length):∃y,slS 1 x none (some (I n)) none=some y/\bU H y (l.take n):=by
 obtain⟨⟨hl,hh⟩,hs⟩:=h;have ht:(l.take n).length=n:=by rw [zav];omega
 have small:(l.take n).length < 1000:=by omega
 cases x with
 | sl r g off esz len cap ex=>
  obtain⟨rfl,rfl,⟨hr,hc⟩,ty,all,h2,h3,h4⟩:=hh;refine⟨_,Xh (by omega) (by omega),⟨⟨by simp,rfl,by rw [ht,zao],⟨hr,by rw [zao];omega⟩,ty,all,h2,by rw [ht];omega,?_⟩,small⟩⟩;rw [zcz,h4,zb9,ht]
  congr 1
  omega
 | vs k' esz cs=>
  obtain⟨rfl,rfl,rfl⟩:=hh;refine⟨.vs n 1 ((l.take n).map Y),?_,⟨by simp,rfl,by rw [ht],rfl⟩,small⟩;have h0:(0:Int)<=n:=by omega
  simp only [slS,iO,h0,if_true,zao];rw [if_pos ⟨trivial,by omega,hn⟩];simp
 | s v=>
  cases v with
  | slice a b c=>
   cases a with
   | none=>
    obtain⟨rfl,rfl,h3⟩:=(show b=0/\c=0/\l.length=0 from hh)
    have:l=[]:=zan h3;subst this;have:n=0:=by simpa using hn
    subst this;exact⟨zN,by kernel_rfl,⟨rfl,rfl,rfl,rfl⟩,by decide⟩
   | some a=> exact hh.elim
  | _=> exact hh.elim
 | _=> exact hh.elim
theorem YE {H:ah}{x:AV}{l:List By}(hx:bU H x l)(hl:l≠[]):cl0 126 [x] H=some (.sl (H.next+1) 0 0 1 l.length l.length false,(H.new (.blk 0 5 [])).new (.blk 0 (5+fQ) (l.map Y))):=by
 have h0:l.length≠0:=λe=> hl (zan e);have e2:=qQ (e:=5) (by_:=1) (r:=H.next) (H:=H.new (.blk 0 5 [])) oK (hx.gro (Gro.new H 0 _ _)).is (aa3 l) h0 (by have:=hx.small;unfold most;omega) (by have:=hx.small;unfold most;omega);simp only [dL] at e2;have e1:bi .eql 158 x zN=some (B false):=by
  obtain⟨_,hh⟩:=hx.is;cases x with
  | sl r g off esz len cap ex=> exact zO Tryz.underlying158
  | vs n m l=> exact qR Tryz.underlying158
  | s v=>
   cases v with
   | slice a b c=>
    cases a with
    | none=> exact absurd hh.2.2 h0
    | some a=> exact hh.elim
   | _=> exact hh.elim
  | _=> exact hh.elim
 refine iq (ajY _ _ _ ?_);simp only [xq_,adQ,e1,Rz,xE,e2,zbe,zaV]
theorem abp {H:ah}(hb:H.base<=H.next){x:AV}{l:List By}(hx:bU H x l)(hl:l.length < 900)(hn:∀m,l≠jh m):
  ∃H',cl0 122 [x] H=some (.tup [zN,B false],H')/\Gro H H':=by
 have ln:=hx.is.lnS;have w1:=wrap_i64 (a:=(l.length:Int) - 2) (by omega) (by omega);by_cases h2:(l.length:Int) - 2 < 0
 ·refine⟨H,iq (X7 _ _ _ ?_),Gro.refl H⟩;simp only [xq_,RZ,ln,ku,w1,h2]
 ·obtain⟨n,hnn⟩:∃n:Nat,(l.length:Int) - 2=n:=⟨l.length - 2,by omega⟩
  rw [hnn] at w1 h2;obtain⟨y,s1,by1⟩:=hx.to_ (n:=n) (by omega);obtain⟨z,H1,e1,g1,bz,_⟩:=af4 hb by1 (by rw [zav];omega);have e2:=YD bz (hx.gro g1);rw [decide_eq_false λe=> hn _ e.symm] at e2;refine⟨H1,iq (X7 _ _ _ ?_),g1⟩;simp only [xq_,RZ,ln,ku,hnn,w1,h2,s1,e1,e2,zaf]
theorem af5 {H:ah}(hb:H.base<=H.next){x:AV}{m:List By}(hx:bU H x (jh m))(hl:m.length < 800)(h0:m≠[]):
  ∃y H',cl0 122 [x] H=some (.tup [y,B true],H')/\Gro H H'/\bU H' y m/\(∃r,y=.sl r 0 0 1 m.length m.length false):=by
 have hlen:(jh m).length=m.length+2:=by unfold jh;simp
 have htake:(jh m).take m.length=m:=by unfold jh;simp
 have ln:=hx.is.lnS;have w0:(((jh m).length:Nat):Int) - 2=(m.length:Int):=by omega
 have w1:=wrap_i64 (a:=(m.length:Int)) (by omega) (by omega);have h2:¬((m.length:Int) < 0):=by omega
 obtain⟨y,s1,by1⟩:=hx.to_ (n:=m.length) (by omega);rw [htake] at by1;obtain⟨z,H1,e1,g1,bz,_⟩:=af4 hb by1 (by omega);have e2:=YD bz (hx.gro g1);rw [decide_eq_true rfl] at e2;have e3:=YE (by1.gro g1) h0;have gg:Gro H1 ((H1.new (.blk 0 5 [])).new (.blk 0 (5+fQ) (m.map Y))):=(Gro.new H1 0 _ _).trans (Gro.new _ 0 _ _);have bm:=bU.made (H:=H1.new (.blk 0 5 [])) (l:=m) (ty:=5+fQ) (ex:=false) (by omega);rw [dL] at bm;refine⟨_,_,iq (X7 _ _ _ (r:=(.tup [.sl (H1.next+1) 0 0 1 m.length m.length false,B true],(H1.new (.blk 0 5 [])).new (.blk 0 (5+fQ) (m.map Y)))) ?_),g1.trans gg,bm,_,rfl⟩;simp only [xq_,RZ,ln,ku,w0,w1,h2,s1,e1,e2,e3,zad]
def dG.left(m:dG):Int:=(m.aP.map λn=> n.dK.left).sum
abbrev oW:bg:=λ_=> none
def cup(n:Nat)(g g':bg):bg:=λq=> if q < n then g q else g' q
structure Made(H H':ah)(g':bg):Prop where
 next:H.next<=H'.next
 base:H'.base=H.base
 same:∀r,r < H.next->H'.get r=H.get r
 good:Good H.next H' g'
section
variable {b:Nat}{H H' H'':ah}{g g':bg}{q:Nat}{cs:List Cell}
theorem Good.merge(G:Good b H g)(M:Made H H' g'):Good b H' (cup H.next g g'):=by
 obtain⟨h0,τ,h1⟩:=G;obtain⟨k0,τ',k1⟩:=M.good;have n1:=M.next
 refine⟨by omega,λr=> if r < H.next then τ r else τ' r,λq cs hq=> ?_⟩;unfold cup at hq;split at hq
 ·rename_i hl;exact(h1 q cs hq).keep n1 λr i s t hr ht=> ⟨by rw [if_pos hr];exact ht,M.same r hr⟩
 ·rename_i hl;have R:=k1 q cs hq
  -- all its blocks are new
  have key:∀{T:Tag} {x:AV} {m:Nat} {cells:List AV},OS H.next H' τ' T x m cells->OS b H' (λr=> if r < H.next then τ r else τ' r) T x m cells:=by
   intro T x m cells ho;rcases ho with ho | ⟨r,gg,off,n,cap,ex,ty,all,e,t1,t2,t3,t4⟩
   ·exact .inl ho
   ·exact .inr ⟨r,gg,off,n,cap,ex,ty,all,e,by simp only;rw [if_neg (by omega)];exact t1,by omega,t3,t4⟩
  have ao5:∀{T:Tag} {x:AV} {k:IntKind} {es:List (Int × AV)},OM H.next H' τ' T x k es->OM b H' (λr=> if r < H.next then τ r else τ' r) T x k es:=by
   intro T x k es ⟨r,e,t1,t2,t3,t4⟩;exact⟨r,e,by simp only;rw [if_neg (by omega)];exact t1,by omega,t3,t4⟩
  obtain⟨ty,xs,b1,b2,b3,b4⟩:=R.blk;have lo:=R.lo;refine⟨by rw [if_neg hl];exact R.tag,by omega,R.hi,R.tyl,ty,xs,b1,b2,b3,λi c x hc hx=> ?_⟩;have:=b4 i c x hc hx;cases c with
  | av _=> exact this
  | seq _ _=> exact key this
  | map _ _=> exact ao5 this
  | maps _ _ _=>
   obtain⟨aes,a1,a2,a3⟩:=this;exact⟨aes,ao5 a1,a2,λj n cells x hj hx=> key (a3 j n cells x hj hx)⟩
  | al9 _ _ _=>
   obtain⟨ys,a1,a2,a3⟩:=this;exact⟨ys,key a1,a2,λj cells x hj hx=> key (a3 j cells x hj hx)⟩
theorem Good.alb(G:Good b H g)(hq:H.next<=q):cup H.next g (upd oW q cs)=upd g q cs:=by
 funext x
 unfold cup upd;split
 ·rw [if_neg (by omega)]
 ·split
  ·rfl
  ·exact(G.isNone (by omega)).symm
theorem Made.lt(M:Made H H' g')(h:g' q=some cs):H.next<=q/\q < H'.next:=⟨M.good.le h,M.good.lt h⟩
theorem Made.refl(h:H.base<=H.next):Made H H oW:=⟨zac _,rfl,λ_ _=> rfl,Good.empty H⟩
theorem Made.trans(M:Made H H' g)(M':Made H' H'' g'):Made H H'' (cup H'.next g g'):=
 ⟨zas M.next M'.next,M'.base.trans M.base,λr hr=> by rw [M'.same r (zau hr M.next),M.same r hr],M.good.merge M'⟩
theorem Made.new(M:Made H H' g)(o:fD):Made H (H'.new o) g:=
 ⟨by rw [dL];have:=M.next;omega,by rw [iC];exact M.base,λr hr=> by rw [aS (zau hr M.next),M.same r hr],M.good.new o⟩
theorem Made.wS {o:fD}(M:Made (H.new o) H' g):Made H H' g:=
 ⟨by have:=M.next;rw [dL] at this;omega,by rw [M.base,iC],λr hr=> by rw [M.same r (by rw [dL];omega),aS hr],M.good.weak (by rw [dL];omega)⟩
theorem Made.abq(M:Made H.guard H' g):Made H { H' with base:=H.base } g:=
 ⟨M.next,rfl,M.same,M.good.ext (zac _) λ_ _=> rfl⟩
theorem Made.step(M:Made H H' g)(G:Good H.next H'' g')(s:Step H.next H' H''):Made H H'' g':=
 ⟨zas M.next s.next,s.base.trans M.base,λr hr=> by rw [s.low r hr,M.same r hr],G⟩
theorem Made.as(M:Made H H' g)(h:g'=g):Made H H' g':=h ▸ M
theorem lJ {ty:TypeId}{xs:List AV}{cs:List Cell}(hc:xs.all AV.aU=true)(hl:xs.length=cs.length)(h:∀(i:Nat) (c:Cell) (x:AV),cs[i]?=some c->xs[i]?=some x->c=.av x∨(x=zN/\∃m,c=.seq m []))(ht:ty < fQ:=by decide):
  Made H (H.new (.blk 0 ty xs)) (upd oW H.next cs):=by
 refine⟨za8 _,rfl,λr hr=> aS hr,by rw [dL];omega,λr=> if r=H.next then some (r,0,0,0) else none,λq cs' hq=> ?_⟩;unfold upd at hq;split at hq
 ·rename_i e;subst e;cases hq;refine⟨by simp,zac _,by rw [dL];omega,wM (xs:=xs) (by simp [iM]) ht,ty,xs,by simp [iM],hl,hc,λi c x hci hx=> ?_⟩;rcases h i c x hci hx with rfl | ⟨rfl,m,rfl⟩
  ·exact rfl
  ·exact .inl ⟨rfl,rfl⟩
 ·cases hq
theorem Nh {n:Nat}{ty:TypeId}{xs:List AV}{cs:List Cell}(hn:H.next<=n)(hm:H'.next=n)(hb:H'.base=H.base)(hs:∀r,r < H.next->H'.get r=H.get r)(hc:xs.all AV.aU=true)(hl:xs.length=cs.length)(own:Nat->Option Nat)
  (h:∀(i:Nat) (c:Cell) (x:AV),cs[i]?=some c->xs[i]?=some x->c=.av x∨(x=zN/\∃m,c=.seq m [])∨∃r k,x=.mp r/\H.next<=r/\r < n/\own r=some i/\H'.get r=.map k []/\(c=.map k []∨∃m,c=.maps k m [])) (ht:ty < fQ:=by decide):
  Made H (H'.new (.blk 0 ty xs)) (upd oW n cs):=by
 refine⟨by rw [dL];omega,hb,λr hr=> by rw [aS (by omega),hs r hr],by rw [dL];omega,λr=> if r=n then some (r,0,0,0) else match own r with
  | some i=> some (n,i+1,0,0)
  | none=> none,λq cs' hq=> ?_⟩
 unfold upd at hq;split at hq
 ·rename_i e;subst e;cases hq;refine⟨by simp,hn,by rw [dL];omega,wM (xs:=xs) (by rw [aJ hm.symm]) ht,ty,xs,by rw [aJ hm.symm],hl,hc,λi c x hci hx=> ?_⟩;have om:∀r k,H.next<=r->r < q->own r=some i->H'.get r=.map k []->OM H.next (H'.new (.blk 0 ty xs)) (λr=> if r=q then some (r,0,0,0) else match own r with
    | some i=> some (q,i+1,0,0)
    | none=> none) (q,i+1,0,0) (.mp r) k []:=λr k h1 h2 h3 h4=> ⟨r,rfl,by simp only;rw [if_neg (by omega),h3],h1,by rw [dL];omega,by rw [aS (by omega)];exact h4⟩
  rcases h i c x hci hx with rfl | ⟨rfl,m,rfl⟩ | ⟨r,k,rfl,h1,h2,h3,h4,rfl | ⟨m,rfl⟩⟩
  ·exact rfl
  ·exact .inl ⟨rfl,rfl⟩
  ·exact om r k h1 h2 h3 h4
  ·exact⟨[],om r k h1 h2 h3 h4,rfl,λj n cells x hj=> by simp at hj⟩
 ·cases hq
end
def bJ(c:Cache):List Cell:=[.seq 6 (c.l.flatMap Ent.av),.av (I c.sets),.av (I c.ways),.av (I c.dD)]
def oP(p:Proc):List Cell:=[.av (vsl 3 Opn.av p.ops),.seq 1 (p.dP.map I),.av (B p.gK)]
def kH(l:List Evn):List Cell:=[.seq 4 (l.flatMap Evn.av)]
def gU(t:Turns):List Cell:=[.map .i64 (LQ (λn=> I n) t.jQ),.maps .i64 2 (t.wait.map λe=> (e.1,e.2.flatMap λw=> [I w.1,I w.2]))]
def Bo(c:Cfg)(eF:Rows):List Cell:=c.av.map .av++[.map .i64 (LQ (λr=> .agg r.av) eF)]
section
variable {H:ah}
theorem YF(H:ah)(room:Int)(h:0<=room):∃H' q,cl 36 [I room] H=some (.ref q 0 0,H')/\Made H H' (upd oW q (lQ [] room)):=by
 refine⟨_,H.next,aX rfl rfl (ana _ _ _ (r:=(_,H.new (.blk 0 146 [zN,I room]))) ?_),lJ rfl rfl λi c x hc hx=> ?_⟩
 ·have e:max (0:Int) room=room:=by omega
  simp only [Nat.reduceLT,Nat.reduceAdd,aG,xq_,hq_,aiM,Px,e,ahW,jo,fJ,acP,aC]
 ·match i with
  | 0=> right;cases hc;cases hx;exact⟨rfl,9,rfl⟩
  | 1=> left;cases hc;cases hx;rfl
  | i+2=> cases hc
theorem SQ(H:ah)(room:Int)(h:0<=room):∃H' q,cl 37 [I room] H=some (.ref q 0 0,H')/\Made H H' (upd oW q (lQ [] room)):=by
 refine⟨_,H.next,aX rfl rfl (anb _ _ _ (r:=(_,H.new (.blk 0 148 [zN,I room]))) ?_),lJ rfl rfl λi c x hc hx=> ?_⟩
 ·have e:max (0:Int) room=room:=by omega
  simp only [Nat.reduceLT,Nat.reduceAdd,aG,xq_,hq_,aiN,Px,e,ahX,jo,fJ,acQ,aC]
 ·match i with
  | 0=> right;cases hc;cases hx;exact⟨rfl,9,rfl⟩
  | 1=> left;cases hc;cases hx;rfl
  | i+2=> cases hc
theorem abr(H:ah)(sets ways:Int)(h:1<=sets)(h':1<=ways):∃H' q,cl 38 [I sets,I ways] H=some (.ref q 0 0,H')/\Made H H' (upd oW q (bJ ⟨[],sets,ways,0⟩)):=by
 refine⟨_,H.next,aX rfl rfl (anc _ _ _ _ (r:=(_,H.new (.blk 0 150 [zN,I sets,I ways,zI]))) ?_),lJ rfl rfl λi c x hc hx=> ?_⟩
 ·have e:max (1:Int) sets=sets:=by omega
  have e':max (1:Int) ways=ways:=by omega
  simp only [Nat.reduceLT,Nat.reduceAdd,aG,xq_,hq_,aiO,Px,e,e',ahY,jo,fJ,acR,aC]
 ·match i with
  | 0=> right;cases hc;cases hx;exact⟨rfl,6,rfl⟩
  | 1=> left;cases hc;cases hx;rfl
  | 2=> left;cases hc;cases hx;rfl
  | 3=> left;cases hc;cases hx;rfl
  | i+4=> cases hc
theorem SS(H:ah):∃H' q,cl 14 [] H=some (.ref q 0 0,H')/\Made H H' (upd oW q (kH [])):=by
 refine⟨_,H.next,aX rfl rfl (amW _ _ (r:=(_,H.new (.blk 0 94 [zN]))) ?_),lJ rfl rfl λi c x hc hx=> ?_⟩
 ·simp only [Nat.reduceLT,xq_,hq_,aiv,amK,jo,fJ,aC]
 ·match i with
  | 0=> right;cases hc;cases hx;exact⟨rfl,4,rfl⟩
  | i+1=> cases hc
theorem abt(H:ah):∃H' q,cl 73 [] H=some (.ref q 0 0,H')/\Made H H' (upd oW q (gU ⟨[],[]⟩)):=by
 refine⟨_,H.next+2,aX rfl rfl (anH _ _ (r:=(_,((H.new (.map .i64 [])).new (.map .i64 [])).new (.blk 0 204 [.mp H.next,.mp (H.next+1)]))) ?_),Nh (H':=(H.new (.map .i64 [])).new (.map .i64 [])) (by omega) (by rw [dL,dL]) rfl (λr hr=> by rw [aS (by rw [dL];omega),aS hr]) rfl rfl (λr=> if r=H.next then some 0 else if r=H.next+1 then some 1 else none) λi c x hc hx=> ?_⟩
 ·have e:∀r,(AV.mp r).cells=[.mp r]:=λ_=> rfl;simp only [Nat.reduceLT,Nat.reduceAdd,aG,xq_,hq_,aje,ah2,jo,fJ,acV,aC,e,WE]
 ·match i with
  | 0=> right;right;cases hc;cases hx;exact⟨H.next,.i64,rfl,zac _,by omega,by simp,by rw [aS (by rw [dL];omega),aJ rfl],.inl rfl⟩
  | 1=> right;right;cases hc;cases hx;exact⟨H.next+1,.i64,rfl,by omega,by omega,by simp,by rw [aJ (by rw [dL])],.inr ⟨2,rfl⟩⟩
  | i+2=> cases hc
end
theorem SV {d:Nat}{α:Type}{enc:α->List AV}(h:∀a,∀x∈enc a,Frz d x)(l:List α):∀x∈l.flatMap enc,Frz d x:=λx hx=> by
 obtain⟨a,_,ha⟩:=zbd.1 hx;exact h a x ha
theorem af6(o:Opn):∀x∈o.av,Frz 8 x:=λx hx=> by
 simp only [Opn.av,zar,zaH,or_false] at hx;rcases hx with rfl | rfl | rfl <;> exact dQ
theorem YG(o:Evn):∀x∈o.av,Frz 8 x:=λx hx=> by
 simp only [Evn.av,zar,zaH,or_false] at hx;rcases hx with rfl | rfl | rfl | rfl <;> exact dQ
theorem abu(H:ah)(l:List Opn)(hl:l.length < 1000000000){x:AV}(hx:aH H x 3 l.length (l.flatMap Opn.av))(h0:l=[]->x=zN)(hn:l≠[]->bi .eql 27 x zN=some (B false)):cl 71 [x] H=some (vsl 3 Opn.av l,H):=by
 by_cases h:l=[]
 ·rw [h0 h];subst h;refine iG rfl rfl (ajb _ _ _ (r:=(zN,H.guard)) ?_) (by rw [gB];exact jg);have e:bi .eql 27 zN zN=some (B true):=by kernel_rfl
  simp only [xq_,afO,e]
 ·have h1:l.length≠0:=λe=> h (zan e);have e2:=qQ (e:=26) (by_:=24) (r:=H.guard.next) (H:=H.guard.new (.blk 0 26 [])) oK (hx.guard.new _) (RF nK l) h1 (by unfold most;omega) (by unfold most;omega);simp only [tZ,dL] at e2;refine iG rfl rfl (ajb _ _ _ (r:=(.sl (H.next+1) 0 0 3 l.length l.length false,(H.guard.new (.blk 0 26 [])).new (.blk 0 (26+fQ) (l.flatMap Opn.av)))) ?_) ?_
  ·simp only [xq_,afO,hn h,WT,xE,e2,zbe,zaV]
  ·rw [I5 h];refine ng (by omega) (cells:=l.flatMap Opn.av) ?_ (iU _ λx hx=> SV af6 l x hx _ _);simp only [bM,iM,dL,tZ,if_true];rw [if_pos (by rw [dh fH,za5];exact⟨trivial,zac _⟩),zaO,zaE (by rw [dh fH];exact zac _)]
theorem Nk(H:ah)(n m:Int):cl 30 [I n,I m] H=some (B (pR n m),H):=by
 refine aX rfl rfl (am9 _ _ _ _ ?_);by_cases h:1<=n
 ·simp only [xq_,afw,h,pR,zaI]
 ·simp only [xq_,afw,h,pR,zaL]
theorem abv(H:ah)(c:Cfg)(h:c.ok=true):cl 10 [.agg c.av] H=some (I 0,H):=by
 refine aV rfl rfl (air _ _ _) ?_ dQ;have w:=λH n m=> Nk H n m;have e1:=λH=> (gI H c.init).lnS;simp only [Cfg.ok,zaj,decide_eq_true_eq] at h;obtain⟨⟨⟨⟨⟨⟨⟨a,b⟩,d⟩,f⟩,g⟩,i⟩,j⟩,k⟩:=h;have t:∀n m,1<=n/\n<=m->pR n m=true:=λn m h=> by simp [pR,h.1,h.2]
 have hm:IntKind.wrap .i64 (c.aW*c.aQ)=c.aW*c.aQ:=by
  have:c.aW*c.aQ<=8*4:=zca b.2 d.2 (by omega) (by omega);have:0<=c.aW*c.aQ:=zcs (by omega) (by omega);exact wrap_i64 (by omega) (by omega)
 have k':¬c.aW*c.aQ < c.init.length:=by omega
 simp only [Nat.reduceLT,xq_,hq_,afq,aC,Cfg.av,w,t _ _ a,t _ _ b,t _ _ d,t _ _ f,t _ _ g,t _ _ i,t _ _ j,e1,lY,hm,k',zad]
theorem JD(H:ah)(c:Cfg)(h:c.ok=true):cl 27 [.agg c.av] H=some (I c.iF,H):=by
 refine aV rfl rfl (aiC _ _ _) ?_ dQ;simp only [Cfg.ok,zaj,decide_eq_true_eq] at h;obtain⟨⟨⟨⟨⟨⟨⟨a,b⟩,d⟩,f⟩,g⟩,i⟩,j⟩,k⟩:=h;have hm:IntKind.wrap .i64 (c.aW*c.aQ)=c.aW*c.aQ:=by
  have:c.aW*c.aQ<=8*4:=zca b.2 d.2 (by omega) (by omega);have:0<=c.aW*c.aQ:=zcs (by omega) (by omega);exact wrap_i64 (by omega) (by omega)
 simp only [Nat.reduceLT,xq_,hq_,afu,aC,Cfg.av,lY,hm,Cfg.iF]
structure apI(c:Cfg):Prop where
 aP:1<=c.aP/\c.aP<=6
 aW:1<=c.aW/\c.aW<=8
 aQ:1<=c.aQ/\c.aQ<=4
 sets:1<=c.sets/\c.sets<=4
 ways:1<=c.ways/\c.ways<=3
 out:1<=c.out/\c.out<=8
 inn:1<=c.inn/\c.inn<=8
 init:(c.init.length:Int)<=c.aW*c.aQ
 iF:1<=c.aW*c.aQ/\c.aW*c.aQ<=32
theorem uN {c:Cfg}(h:c.ok=true):apI c:=by
 simp only [Cfg.ok,zaj,decide_eq_true_eq] at h;obtain⟨⟨⟨⟨⟨⟨⟨a,b⟩,d⟩,f⟩,g⟩,i⟩,j⟩,k⟩:=h;have h1:c.aW*c.aQ<=8*4:=zca b.2 d.2 (by omega) (by omega);have h2:1*1<=c.aW*c.aQ:=zca b.1 d.1 (by omega) (by omega);exact⟨a,b,d,f,g,i,j,k,by omega,by omega⟩
theorem af7(H:ah)(n m:Int)(h:1<=m):cl 104 [I n,I m] H=some (I (AY n m),H):=by
 refine aX rfl rfl (ajI _ _ _ _ ?_);by_cases h0:n < 0
 ·simp only [Int.reduceNeg,xq_,XY,h0,AY]
 ·have e:n.tmod m=n % m:=zbB (by omega);simp only [Int.reduceNeg,xq_,XY,h0,qA (show m≠0 by omega),AY,e]
theorem uO(H:ah)(c:Cfg)(h:c.ok=true)(aB:Int):cl 57 [.agg c.av,I aB] H=some (I (c.fA aB),H):=by
 have B:=uN h;refine aV rfl rfl (anw _ _ _ _) ?_ dQ;have e:=λH=> af7 H aB c.aP B.aP.1;simp only [Nat.reduceLT,xq_,hq_,aiZ,aC,Cfg.av,e,Cfg.fA]
theorem EF(H:ah)(c:Cfg)(h:c.ok=true)(a:Int):cl 70 [.agg c.av,I a] H=some (.tup [I (c.dS a),I (c.jJ a)],H):=by
 have B:=uN h;refine aV rfl rfl (aja _ _ _ _) ?_ (sH λx hx=> by
  simp only [zar,zaH,or_false] at hx;rcases hx with rfl | rfl <;> exact dQ)
 have e:=λH=> JD H c h;by_cases h0:a < 0
 ·simp only [Nat.reduceLT,Int.reduceNeg,xq_,hq_,Qd,aC (eu c),h0,Cfg.dS,Cfg.jJ,true_or]
 ·by_cases h1:c.iF<=a
  ·simp only [Nat.reduceLT,Int.reduceNeg,xq_,hq_,Qd,aC (eu c),h0,h1,Cfg.dS,Cfg.jJ,or_true,e]
  ·have q:a.tdiv c.aQ=a / c.aQ:=zcj (by omega);have r:a.tmod c.aQ=a % c.aQ:=zbB (by omega);have q1:0<=a / c.aQ:=zdp (by omega) (by have:=B.aQ;omega);have q2:a / c.aQ<=a:=Int.ediv_le_self _ (by omega);have q3:c.iF<=32:=B.iF.2;have w:=wrap_i64 (a:=a / c.aQ) (by omega) (by omega);have z:c.aQ≠0:=by have:=B.aQ;omega
   have l2:c.av[2]?=some (I c.aQ):=rfl;simp only [Nat.reduceLT,Int.reduceNeg,xq_,hq_,Qd,aC (eu c),h0,h1,Cfg.dS,Cfg.jJ,or_false,e,l2,xg z,qA z,q,r,w]
def wF(o:Option Nat):Int:=match o with
 | some i=> (i:Int)
 | none=> -1
theorem kW {α:Type}{p:α->Bool}:∀(l:List α) (i:Nat),(∀j a,j < i->l[j]?=some a->p a=false)->l.findIdx? p=((l.drop i).findIdx? p).map (· +i)
 | l,0,_=> by cases h:l.findIdx? p <;> simp [h]
 | [],i+1,_=> by simp
 | a::l,i+1,h=> by
  have h0:=h 0 a (by omega) rfl;rw [zcf,h0,List.drop_succ_cons,kW l i λj b hj hb=> h (j+1) b (by omega) hb];simp only [zal,if_false,Option.map_map]
  congr 1
theorem EG(H:ah){α:Type}{enc:α->List AV}(he:∀a,(enc a).length=3){x f:AV}{l:List α}(hx:aH H x 3 l.length (l.flatMap enc))(hl:l.length < 1000000000)(p:α->Bool)
  (hp:∀a∈l,oH Tryz.prog cl f [.agg (enc a)] H=some (B (p a),H)):cl 69 [x,f] H=some (I (wF (l.findIdx? p)),H):=by
 have e1:=hx.lnS;have e2:∀i a,l[i]?=some a->lda 3 (dW x i) H=some (.agg (enc a),H):=λi a hi=> jX he hx hi;refine aX rfl rfl (anE _ _ _ _ ?_);have key:∀k i,i+k=l.length->(∀j a,j < i->l[j]?=some a->p a=false)->Jl cl [x,f,I l.length,I i] H=some (I (wF (l.findIdx? p)),H):=by
  intro k
  induction k with
  | zero=>
   intro i hi hf;have h1:¬(i:Int) < l.length:=by omega
   have h2:l.findIdx? p=none:=by rw [kW l i hf,zaF (by omega)];rfl
   rw [XK];simp only [Int.reduceNeg,xq_,h1,h2,wF]
  | succ k ih=>
   intro i hi hf;have h1:(i:Int) < l.length:=by omega
   have h3:=hx.ix (k:=.i64) (i:=(i:Int)) (by omega) h1;obtain⟨a,ha⟩:∃a,l[i]?=some a:=⟨_,zab (by omega)⟩
   have h4:=e2 i a ha;have h5:=hp a (zaw ha);rw [zao] at h3;rw [XK];cases hpa:p a with
   | true=>
    have h2:l.findIdx? p=some i:=by
     rw [kW l i hf,zaR (by omega),zcf];rw [zab (by omega)] at ha;simp only [zaa] at ha;rw [ha,hpa];simp
    rw [hpa] at h5;simp only [Int.reduceNeg,xq_,h1,h2,h3,h4,h5,wF]
   | false=>
    rw [hpa] at h5;have h6:(i:Int)+1=((i+1:Nat):Int):=by omega
    have h7:=wrap_i64 (a:=((i+1:Nat):Int)) (by omega) (by omega);have:=ih (i+1) (by omega) λj b hj hb=> by
     by_cases hji:j=i
     ·subst hji;rw [ha] at hb;cases hb;exact hpa
     ·exact hf j b (by omega) hb
    simp only [Int.reduceNeg,xq_,h1,h3,h4,h5,bI,h6,h7,this]
 have:=key l.length 0 (by omega) (λj a hj=> by omega);simp only [xq_,ai9,e1];exact this
theorem Bq(H:ah){α:Type}{enc:α->List AV}(he:∀a,(enc a).length=6){x f:AV}{l:List α}(hx:aH H x 6 l.length (l.flatMap enc))(hl:l.length < 1000000000)(p:α->Bool)
  (hp:∀a∈l,oH Tryz.prog cl f [.agg (enc a)] H=some (B (p a),H)):cl 154 [x,f] H=some (I (wF (l.findIdx? p)),H):=by
 have e1:=hx.lnS;have e2:∀i a,l[i]?=some a->lda 6 (dW x i) H=some (.agg (enc a),H):=λi a hi=> jX he hx hi;refine aX rfl rfl (akv _ _ _ _ ?_);have key:∀k i,i+k=l.length->(∀j a,j < i->l[j]?=some a->p a=false)->CQ cl [x,f,I l.length,I i] H=some (I (wF (l.findIdx? p)),H):=by
  intro k
  induction k with
  | zero=>
   intro i hi hf;have h1:¬(i:Int) < l.length:=by omega
   have h2:l.findIdx? p=none:=by rw [kW l i hf,zaF (by omega)];rfl
   rw [SA];simp only [Int.reduceNeg,xq_,h1,h2,wF]
  | succ k ih=>
   intro i hi hf;have h1:(i:Int) < l.length:=by omega
   have h3:=hx.ix (k:=.i64) (i:=(i:Int)) (by omega) h1;obtain⟨a,ha⟩:∃a,l[i]?=some a:=⟨_,zab (by omega)⟩
   have h4:=e2 i a ha;have h5:=hp a (zaw ha);rw [zao] at h3;rw [SA];cases hpa:p a with
   | true=>
    have h2:l.findIdx? p=some i:=by
     rw [kW l i hf,zaR (by omega),zcf];rw [zab (by omega)] at ha;simp only [zaa] at ha;rw [ha,hpa];simp
    rw [hpa] at h5;simp only [Int.reduceNeg,xq_,h1,h2,h3,h4,h5,wF]
   | false=>
    rw [hpa] at h5;have h6:(i:Int)+1=((i+1:Nat):Int):=by omega
    have h7:=wrap_i64 (a:=((i+1:Nat):Int)) (by omega) (by omega);have:=ih (i+1) (by omega) λj b hj hb=> by
     by_cases hji:j=i
     ·subst hji;rw [ha] at hb;cases hb;exact hpa
     ·exact hf j b (by omega) hb
    simp only [Int.reduceNeg,xq_,h1,h3,h4,h5,bI,h6,h7,this]
 have:=key l.length 0 (by omega) (λj a hj=> by omega);simp only [xq_,aea,e1];exact this
theorem abw(H:ah)(c:Cfg)(h:c.ok=true)(o:Opn):cl 35 [.agg c.av,.agg o.av] H=some (B (c.right o),H):=by
 refine aV rfl rfl (aiL _ _ _ _) ?_ dQ;have e:=λH=> EF H c h o.addr;have f1:c.right o=(decide (1<=o.bf) && decide (o.bf<=4) && !decide (c.dS o.addr=-1) && (decide (o.value=0) || decide (o.bf=2) || decide (o.bf=3))):=by simp [Cfg.right]
 rw [f1];by_cases a:1<=o.bf;rotate_left
 ·simp only [Nat.reduceLT,Int.reduceNeg,xq_,hq_,xH,aC,Opn.av,e,a,zaL]
 by_cases b:o.bf<=4;rotate_left
 ·simp only [Nat.reduceLT,Int.reduceNeg,xq_,hq_,xH,aC,Opn.av,e,a,b,zaI,zaL]
 by_cases d:c.dS o.addr=-1
 ·simp only [Nat.reduceLT,Int.reduceNeg,xq_,hq_,xH,aC,Opn.av,e,a,b,d,zaI,zaL,zad]
 by_cases f:o.value=0
 ·simp only [Nat.reduceLT,Int.reduceNeg,xq_,hq_,xH,aC,Opn.av,e,a,b,d,f,zaf,zbT]
 by_cases g:o.bf=2
 ·simp only [Nat.reduceLT,Int.reduceLE,Int.reduceEq,Int.reduceNeg,xq_,hq_,xH,aC,Opn.av,e,d,f,g,zaf,zbT,zcO]
 by_cases i:o.bf=3
 ·simp only [Nat.reduceLT,Int.reduceLE,Int.reduceEq,Int.reduceNeg,xq_,hq_,xH,aC,Opn.av,e,d,f,i,zaf,zcO]
 ·simp only [Nat.reduceLT,Int.reduceNeg,xq_,hq_,xH,aC,Opn.av,e,a,b,d,f,g,i,zaf,zdc,zbQ]
theorem Qi(H:ah)(c:Cfg)(h:c.ok=true)(o:Opn){r ty:Nat}(hr:r < H.next)(hg:H.get r=.blk 0 ty c.av):cl 34 [.agg o.av,.ref r 0 0] H=some (B (!c.right o),H):=by
 refine aV rfl rfl (aiK _ _ _ _) ?_ dQ;have e:=λH=> abw H c h o;have e1:lda 8 (.ref r 0 0) (H.guard.new (.blk 0 26 o.av))=some (.agg (c.av.take 8),_):=fO (off:=0) (n:=8) (by rw [aS (by rw [tZ];exact hr),Xe];exact hg) (zac 8);simp only [Nat.reduceLT,xq_,hq_,afz,aC (nK o),e1,e]
theorem sO {o:Option Nat}:decide (0<=wF o)=o.isSome:=by
 cases o with
 | none=> rfl
 | some i=> simp [wF]
theorem YH(H:ah)(c:Cfg)(h:c.ok=true){v:AV}{l:List Opn}(hv:aH H v 3 l.length (l.flatMap Opn.av))(hl:l.length < 1000000000){r ty:Nat}(hr:r < H.next)(hg:H.get r=.blk 0 ty c.av):cl 32 [v,.ref r 0 0] H=some (B (!(decide (l.length<=24) && l.all c.right)),H):=by
 refine aV rfl rfl (aiI _ _ _ _) ?_ dQ;have e1:=hv.guard.lnS;have e2:=EG H.guard (enc:=Opn.av) fH (f:=.fn (.func 34) [] [.ref r 0 0]) hv.guard hl (λo=> !c.right o) (λo _=> by
  rw [ny (by kernel_rfl)];exact Qi H.guard c h o hr hg)
 have e3:cl 33 [v,.fn (.func 34) [] [.ref r 0 0]] H.guard=some (B (l.findIdx? λo=> !c.right o).isSome,H.guard):=by
  refine aX rfl rfl (aiJ _ _ _ _ ?_);simp only [xq_,afy,e2,sO]
 have e4:(l.findIdx? λo=> !c.right o).isSome=!l.all c.right:=by
  rw [zcp,zcx]
 by_cases h0:l.length<=24
 ·have h1:¬(24:Int) < l.length:=by omega
  simp only [xq_,XE,e1,e3,e4,h0,h1,zaI]
 ·have h1:(24:Int) < l.length:=by omega
  simp only [xq_,XE,e1,h0,h1,zaL,zaf]
def Bv(H:ah)(x:AV)(ps:List (List Opn)):Prop:=
 ∃cells:List AV,aH H x 1 ps.length cells/\∀(i:Nat) v l,cells[i]?=some v->ps[i]?=some l->aH H v 3 l.length (l.flatMap Opn.av)/\(l=[]->v=zN)
theorem Bv.fV {H H':ah}{x:AV}{ps:List (List Opn)}(h:Bv H x ps)(hn:H.next<=H'.next)(hg:∀r,r < H.next->H'.get r=H.get r):Bv H' x ps:=by
 obtain⟨cells,h1,h2⟩:=h;exact⟨cells,h1.fV hn λr _ hr=> hg r hr,λi v l a b=> ⟨(h2 i v l a b).1.fV hn λr _ hr=> hg r hr,(h2 i v l a b).2⟩⟩
theorem yS {n:Nat}{p:Nat->Bool}:∀i,i<=n->(∀j,j < i->p j=false)->(List.range n).findIdx? p=((List.range' i (n - i)).findIdx? p).map (· +i):=by
 intro i hi hf;rw [kW (List.range n) i λj a hj ha=> by
  have:a=j:=by
   rw [zba (by omega)] at ha
   simpa using ha.symm
  rw [this];exact hf j hj]
 congr 2
 rw [zcS,List.drop_range'];simp
theorem EH(H:ah){x f:AV}{n:Nat}{cells:List AV}(hx:aH H x 1 n cells)(hl:n < 1000000000)(p:Nat->Bool)
  (hp:∀i v,cells[i]?=some v->oH Tryz.prog cl f [v] H=some (B (p i),H)):cl 68 [x,f] H=some (I (wF ((List.range n).findIdx? p)),H):=by
 have e1:=hx.lnS;have hcl:cells.length=n:=by have:=hx.1;omega
 refine aX rfl rfl (anD _ _ _ _ ?_);have key:∀k i,i+k=n->(∀j,j < i->p j=false)->Jk cl [x,f,I n,I i] H=some (I (wF ((List.range n).findIdx? p)),H):=by
  intro k
  induction k with
  | zero=>
   intro i hi hf;have h1:¬(i:Int) < n:=by omega
   have h2:(List.range n).findIdx? p=none:=by rw [yS i (by omega) hf,show n - i=0 by omega];rfl
   rw [XJ];simp only [Int.reduceNeg,xq_,h1,h2,wF]
  | succ k ih=>
   intro i hi hf;have h1:(i:Int) < n:=by omega
   have h3:=hx.ix (k:=.i64) (i:=(i:Int)) (by omega) h1;obtain⟨v,hv⟩:∃v,cells[i]?=some v:=⟨_,zab (by omega)⟩
   have h4:=hx.ld (i:=i) (by omega);rw [hv] at h4;have h5:=hp i v hv;rw [zao] at h3;rw [XJ];cases hpa:p i with
   | true=>
    have h2:(List.range n).findIdx? p=some i:=by
     rw [yS i (by omega) hf,show n - i=k+1 by omega,zdh,zcf,hpa];simp
    rw [hpa] at h5;simp only [Int.reduceNeg,xq_,h1,h2,h3,h4,h5,wF]
   | false=>
    rw [hpa] at h5;have h6:(i:Int)+1=((i+1:Nat):Int):=by omega
    have h7:=wrap_i64 (a:=((i+1:Nat):Int)) (by omega) (by omega);have:=ih (i+1) (by omega) λj hj=> by
     by_cases hji:j=i
     ·rw [hji];exact hpa
     ·exact hf j (by omega)
    simp only [Int.reduceNeg,xq_,h1,h3,h4,h5,bI,h6,h7,this]
 have:=key n 0 (by omega) (λj hj=> by omega);simp only [xq_,ai7,e1];exact this
theorem SX(H:ah)(c:Cfg)(h:c.ok=true){x:AV}{ps:List (List Opn)}(hx:Bv H x ps)(hn:ps.length < 1000000000)(hl:∀l∈ps,l.length < 1000000000):cl 11 [.agg c.av,x] H=some (I (if c.mF ps then 0 else 1),H):=by
 refine aV rfl rfl (ais _ _ _ _) ?_ dQ;have hx1:=hx.fV (H':=H.guard.new (.blk 0 24 c.av)) (by rw [dL,tZ];omega) λr hr=> by rw [aS (by rw [tZ];exact hr),Xe]
 obtain⟨cells,x1,x2⟩:=hx1;have hcl:cells.length=ps.length:=by have:=x1.1;omega
 let bad:List Opn->Bool:=λl=> !(decide (l.length<=24) && l.all c.right)
 have e2:=EH (H.guard.new (.blk 0 24 c.av)) (f:=.fn (.func 32) [] [.ref H.next 0 0]) x1 hn (λi=> bad (ps.getD i [])) (λi v hv=> by
  have hi:i < ps.length:=by rw [<-hcl];exact(zak.1 hv).1
  have hpi:ps[i]?=some (ps.getD i []):=by simp [List.getD,zab hi]
  rw [ny (by kernel_rfl)];exact YH _ c h (x2 i v _ hv hpi).1 (hl _ (zaw hpi)) (by rw [dL,tZ];omega) (aJ (by rw [tZ])))
 have e4:((List.range ps.length).findIdx? λi=> bad (ps.getD i [])).isSome=!(ps.all λl=> decide (l.length<=24) && l.all c.right):=by
  rw [zcp,zcx,Bool.eq_iff_iff,zb8,zb8];constructor
  ·rintro⟨i,hi,hb⟩;have hi:i < ps.length:=zaY.1 hi;exact⟨ps.getD i [],zaw (i:=i) (by simp [List.getD,zab hi]),hb⟩
  ·rintro⟨l,hm,hb⟩;obtain⟨i,hi,he⟩:=zdq hm;have hg:ps.getD i []=l:=by simp [List.getD,zab hi,he]
   exact⟨i,zaY.2 hi,by rw [hg];exact hb⟩
 have e3:cl 31 [x,.fn (.func 32) [] [.ref H.next 0 0]] (H.guard.new (.blk 0 24 c.av))=some (B (!(ps.all λl=> decide (l.length<=24) && l.all c.right)),H.guard.new (.blk 0 24 c.av)):=by
  refine aX rfl rfl (aiH _ _ _ _ ?_);simp only [xq_,afx,e2,sO,e4]
 have l0:c.av[0]?=some (I c.aP):=rfl;have e5:=x1.lnS;cases hb:ps.all λl=> decide (l.length<=24) && l.all c.right with
 | false=> simp only [Nat.reduceLT,xq_,hq_,P6,aC (eu c),e3,hb,zaf,Cfg.mF,zaL]
 | true=>
  by_cases hc:(ps.length:Int)=c.aP
  ·simp only [Nat.reduceLT,xq_,hq_,P6,aC (eu c),e3,e5,hb,l0,zad,Cfg.mF,hc]
  ·simp only [Nat.reduceLT,xq_,hq_,P6,aC (eu c),e3,e5,hb,l0,zad,zaf,Cfg.mF,zaI,hc]
theorem abx {c:Cfg}(h:c.ok=true){aB:Int}(h0:0<=aB)(h1:aB < c.aW):c.first aB≠[]:=by
 have B:=uN h;unfold Cfg.first
 rw [if_neg (by omega)];intro e;have:=congrArg List.length e;simp only [zax,zcK,zam] at this;have:=B.aQ;omega
theorem Qj {c:Cfg}(h:c.ok=true){aB:Int}(h0:0<=aB)(h1:aB < c.aW){from_:Nat}(hf:(from_:Int)=min (aB*c.aQ) c.init.length):
  aG (List.replicate c.aQ.toNat zI) 0 (((c.init.map I).drop from_).take (min (c.init.length - from_) c.aQ.toNat))=(c.first aB).map I:=by
 have B:=uN h;have hw:=B.aQ;have hlw:0<=aB*c.aQ:=zcs h0 (by omega);unfold Cfg.first
 rw [if_neg (by omega)]
 apply zbg
 intro i;have hlen:(((c.init.map I).drop from_).take (min (c.init.length - from_) c.aQ.toNat)).length=min (c.init.length - from_) c.aQ.toNat:=by
  rw [zav,zaN,zax];omega
 rw [mW (by rw [hlen,za6];omega),hlen];rcases zaW i c.aQ.toNat with hi | hi
 ·simp only [zaD,zba hi,zai];by_cases hc:i < c.init.length - from_
  ·rw [if_pos (by omega),Nat.sub_zero,zay,if_pos (by omega),zaA,zaD];have e:from_=(aB*c.aQ).toNat:=by omega
   rw [e];have hlt:(aB*c.aQ).toNat+i < c.init.length:=by omega
   simp [List.getD,zab hlt]
  ·rw [if_neg (by omega),zcw,if_pos hi];have hge:c.init.length<=(aB*c.aQ).toNat+i:=by omega
   simp [List.getD,zaK hge]
 ·rw [if_neg (by omega),zaK (by simp;omega),zaK (by simp;omega)]
theorem SY(H:ah)(c:Cfg)(h:c.ok=true)(aB:Int)(h0:0<=aB)(h1:aB < c.aW):cl 116 [.agg c.av,I aB] H=some (dat (c.first aB),H):=by
 have B:=uN h;have hw:=B.aQ;have hlw:0<=aB*c.aQ:=zcs h0 (by omega);have ap6:aB*c.aQ<=8*4:=zca (by have:=B.aW;omega) hw.2 (by omega) (by omega);have w:=wrap_i64 (a:=aB*c.aQ) (by omega) (by omega);have l1:c.av[1]?=some (I c.aW):=rfl;have l2:c.av[2]?=some (I c.aQ):=rfl;have l7:c.av[7]?=some (dat c.init):=rfl;let H1:=(H.guard.new (.blk 0 24 c.av)).new (.blk 0 3 (dI [zI] c.aQ.toNat));have e1:=ado (e:=3) (m:=1) (by_:=8) (z:=[zI]) (n:=c.aQ) (H:=H.guard.new (.blk 0 24 c.av)) rfl rfl (by omega) (by omega) (by decide);have e2:=λH=> (gI H c.init).lnS;have hm:0<=min (aB*c.aQ) (c.init.length:Int):=by omega
 obtain⟨y,e3,e4⟩:=(gI H1 c.init).from_ (k:=.i64) (lo:=min (aB*c.aQ) (c.init.length:Int)) hm (by omega);obtain⟨H2,e5,e6,e7,e8,e9⟩:=aif (H:=H1) (r:=H.next+1) (g:=0) (off:=0) (m:=1) (len:=c.aQ.toNat) (cap:=c.aQ.toNat) (ex:=true) (ty:=3) (aJ (by rw [dL,tZ])) (by show H.next<=_;omega) (by rw [oC];simp) e4 (yh (yR _) _);refine iG rfl rfl (ajQ _ _ _ _ (r:=(.sl (H.next+1) 0 0 1 c.aQ.toNat c.aQ.toNat true,H2)) ?_) ?_
 ·have n0:¬aB < 0:=by omega
  have n1:¬c.aW<=aB:=by omega
  simp only [dL,tZ] at e1;simp only [Nat.reduceLT,xq_,hq_,adG,aC (eu c),n0,n1,l1,l2,l7,e1,e2,lY,w,ae3,e3,e5,H1]
 ·rw [qW (abx h h0 h1)];have hf:=Qj h h0 h1 (from_:=(min (aB*c.aQ) (c.init.length:Int)).toNat) (by omega);rw [oC,zbi,zbi,hf] at e6;have hlen:(c.first aB).length=c.aQ.toNat:=by
   unfold Cfg.first
   rw [if_neg (by omega)];simp
  rw [hlen];refine ng (by omega) (cells:=(c.first aB).map I) ?_ (iU _ λx hx=> vS _ x hx _ _);simp only [bM,e6];rw [if_pos ⟨trivial,by simp [hlen]⟩,zaO,zaE (by simp [hlen])]
end
end Go.Proofs.YtmdbbfoefdjgoaaGreat
