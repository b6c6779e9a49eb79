/-
  Own work: an interpreter over named blocks, its soundness, and what the functions of this seat compute (part 4 of 10).
  Conditions: those of the statement alone.
-/
import Derived.Test.YthmoogcacpmjiaaGreatProg
import Derived.KernelRfl
import Derived.RangeFuncFrom
import Derived.RangeFuncLeaves
import Derived.RangeFuncCalls
import Derived.OrdersIn
import Derived.Test.YthmoogcacpmjiaaGreatXc
set_option maxRecDepth 100000
set_option linter.all false
set_option linter.unusedSectionVars false
set_option linter.unusedVariables false
set_option linter.unusedSimpArgs false
namespace Go.Proofs.YthmoogcacpmjiaaGreat
noncomputable section
def Ov(C:Callee)(t11 t12 t13 t14:AV)(H:aj):OA:=
 bnd (C 40 [t11,t12] H) λv60 H=> bo (aF v60 0) λv61=> bo (aF v60 1) λv62=> bnd (alc 100 [zI,zI,zN] H) λv15 H=> bnd (st 3 v15 v61 H) λ_ H=>
 bo (aA t11) λv65=> bo (ah v65 0) λv66=> bnd (ld v66 H) λv67 H=> bnd (C 37 [v67,t12] H) λv69 H=> bo (aF v69 0) λv70=> bo (aF v69 1) λv71=> bnd (alc 93 [zI,zI,zI,zI,zB,zN] H) λv17 H=> bnd (st 6 v17 v70 H) λ_ H=>
 gdA (some v62) true (aC (some v71) H) H λv74 H=> gdA (some v62) true (aC (un .not v74) H) H λv75 H=> bo (bg v62 v75 (B false)) λv76=> gdA (some v76) true (aC (ah v15 0) H) H λv78 H=> gdA (some v76) true (ld v78 H) H λv79 H=> gdA (some v76) true (aC (bi .eql 3 v79 (I 0)) H) H λv80 H=> bo (bg v76 v80 (B false)) λv81=> gdA (some v81) true (aC (ah v15 2) H) H λv83 H=> gdA (some v81) true (ld v83 H) H λv84 H=> gdA (some v81) true (lnS v84 H) H λv85 H=> gdA (some v81) true (aC (bi .eql 3 v85 (I 1)) H) H λv86 H=> bo (bg v81 v86 (B false)) λv87=> gdA (some v87) true (aC (ah v15 2) H) H λv89 H=> gdA (some v87) true (ld v89 H) H λv90 H=> gdA (some v87) true (ix 1 v90 (I 0) H) H λv91 H=> gdA (some v87) true (ld v91 H) H λv92 H=> gdA (some v87) true (aC (some t14) H) H λv93 H=> gdA (some v87) true (aC (bi .eql 3 v92 v93) H) H λv94 H=> bo (bg v87 v94 (B false)) λv95=> gdA (some v95) true (aC (some t11) H) H λv97 H=> gdA (some v95) true (aC (aA v97) H) H λv98 H=> gdA (some v95) true (aC (ah v98 0) H) H λv99 H=> gdA (some v95) true (ld v99 H) H λRk H=> gdA (some v95) true (C 28 [Rk] H) H λWW H=> gdA (some v95) true (aC (some t13) H) H λaeH H=> gdA (some v95) true (bs 22 2 [(0,aeH),(1,(I 2))] H) H λaeI H=> gdA (some v95) true (C 27 [WW,aeI] H) H λaeJ H=> bo (bg v95 aeJ (B false)) λv105=> gdA (some v105) true (C 39 [] H) H λv107 H=> bo (bg v105 v107 (B false)) λZX=>
 some (ZX,H)
def Jg(C:Callee)(t0 t1 t2 t7 t8:AV)(H:aj):OA:=
 bnd (lda 8 t7 H) λv31 H=> bnd (C 30 [v31] H) λv32 H=> bnd (C 32 [] H) λv33 H=>
 bnd (lda 8 t7 H) λv34 H=> bnd (C 33 [v34,(I 0),t8] H) λv36 H=>
 bo (bi .eql 43 v32 (.s (Go.Value.pointer none))) λv38=> gdA (some v38) false (aC (some v33) H) H λv40 H=> gdA (some v38) false (aC (bi .eql 44 v40 (.s (Go.Value.pointer none))) H) H λv41 H=> bo (bg v38 (B true) v41) λv42=> gdA (some v42) false (aC (some v36) H) H λv44 H=> gdA (some v42) false (aC (bi .eql 54 v44 (.s (Go.Value.pointer none))) H) H λv45 H=> bo (bg v42 (B true) v45) λv46=> gdA (some v46) false (aC (some v36) H) H λv48 H=> gdA (some v46) false (aC (some v32) H) H λv49 H=> gdA (some v46) false (aC (some v33) H) H λv50 H=> gdA (some v46) false (C 34 [v48,v49,v50,(I 0)] H) H λv51 H=> gdA (some v46) false (aC (un .not v51) H) H λv52 H=> bo (bg v46 (B true) v52) λv53=>
 aI v53
 (some ((B false),H))
 (aI t2
  (Ov C v36 (I 1) (I 0) t1 H)
  (Ov C v36 (I 0) (I 1) t0 H))
def aiI(C:Callee)(a0 a1 a2:AV)(H:aj):OA:=
 bo (bd 40 [(0,(I 1)),(1,(I 3)),(2,(I 1)),(3,(I 1)),(4,(I 2)),(5,(I 1)),(6,(I 1))]) λv19=> bnd (alc 40 [zI,zI,zI,zI,zI,zI,zI,zN] H) λv7 H=> bnd (st 8 v7 v19 H) λ_ H=>
 bo (bd 86 [(0,(I 2)),(1,(I 0)),(2,a0)]) λv21=> bo (bd 86 [(0,(I 2)),(1,(I 1)),(2,a1)]) λv23=> bo (bd 86 [(0,(I 1)),(1,(I 1))]) λv24=> bo (bd 86 [(0,(I 1)),(1,(I 2))]) λv25=> bnd (bs 98 4 [(0,v21),(1,v23),(2,v24),(3,v25)] H) λv26 H=>
 aI a2
 (bnd (ix 3 v26 (I 2) H) λv29 H=> bo (ah v29 1) λv30=> bnd (st 1 v30 (I 0) H) λ_ H=>
  Jg C a0 a1 a2 v7 v26 H)
 (Jg C a0 a1 a2 v7 v26 H)
theorem akd:Rn3 8 aiI:=λ_ _ _ _ _ _ h=>
 rnG an0 Tryz.func8 (by kernel_rfl) (by kernel_rfl) h
def aiJ:Ann:=⟨[],[(1,rF 12 [])],[]⟩
def aeK(C:Callee)(a0:AV)(H:aj):OA:=
 bo (aA a0) λv4=> bo (ah v4 0) λv5=> bnd (ld v5 H) λv6 H=> bnd (lnS v6 H) λv7 H=> bo (aA a0) λv9=> bo (ah v9 1) λv10=> bnd (ld v10 H) λv11 H=> bnd (lnS v11 H) λv12 H=> bo (bi .sub 3 v7 v12) λv13=>
 some (v13,H)
theorem aiK:Rn1 19 aeK:=λ_ _ _ _ h=>
 rnG aiJ Tryz.func19 (by kernel_rfl) (by kernel_rfl) h
def ab4(C:Callee)(a0 a1:AV)(H:aj):OA:=
 bnd (alc 70 [zI,zI,zI,zI,zI,zI,zI,zB,zN] H) λv4 H=>
 bnd (C 52 [a0,a1] H) λv12 H=> bo (aF v12 0) λv13=> bo (aF v12 1) λv14=> bo (aF v12 2) λv15=> bnd (alc 115 [zP,zP] H) λv6 H=> bnd (st 2 v6 v13 H) λ_ H=>
 bo (un .not v15) λv17=> gdA (some v17) false (aC (some a1) H) H λv19 H=> gdA (some v17) false (aC (bi .lss 3 v19 (I 0)) H) H λv20 H=> bo (bg v17 (B true) v20) λv21=>
 aI v21
 (bo (bd 70 []) λv22=> bnd (st 9 v4 v22 H) λ_ H=>
  bnd (lda 9 v4 H) λr0 _=> some (.tup [r0,(B false)],H))
 (bo (ah v6 0) λv23=> bnd (ld v23 H) λv24 H=> bnd (C 53 [v24,v14] H) λv26 H=> bo (aF v26 0) λv27=> bo (aF v26 1) λv28=> bnd (st 9 v4 v27 H) λ_ H=>
  bnd (lda 9 v4 H) λr0 _=> some (.tup [r0,v28],H))
theorem aiL:Rn2 22 ab4:=λ_ _ _ _ _ h=>
 rnG an0 Tryz.func22 (by kernel_rfl) (by kernel_rfl) h
def aeL:Ann:=⟨[(5,[0,1,5])],[(6,rF 9 [])],[]⟩
def BM:=lF Tryz.prog Tryz.f27 26 aeL 0
def aeM(C:Callee)(a0 a1:AV)(H:aj):OA:=
 bnd (lnS a0 H) λv7 H=> bnd (lnS a1 H) λv9 H=> bo (bi .neq 3 v7 v9) λv10=>
 aI v10
 (some ((B false),H))
 (BM C [a0,a1,(I 0)] H)
theorem Ud(C:Callee)(t0 t1 t5:AV)(H:aj):BM C [t0,t1,t5] H=
 bnd (lnS t0 H) λv13 H=> bo (bi .lss 3 t5 v13) λv14=>
 aI v14
 (bnd (ix 1 t0 t5 H) λv19 H=> bnd (ld v19 H) λv20 H=> bnd (ix 1 t1 t5 H) λv23 H=> bnd (ld v23 H) λv24 H=> bo (bi .neq 3 v20 v24) λv25=>
  aI v25
  (some ((B false),H))
  (bo (bi .add 3 t5 (I 1)) λv16=>
  BM C [t0,t1,v16] H))
 (some ((B true),H)):=
 lpE.trans (by kernel_rfl)
theorem aiM:Rn2 27 aeM:=λ_ _ _ _ _ h=>
 rnG aeL Tryz.func27 (by kernel_rfl) (by kernel_rfl) h
def aeN:Ann:=⟨[(4,[3,9,10,11])],[],[]⟩
def FP:=lF Tryz.prog Tryz.f28 24 aeN 0
def aeO(C:Callee)(a0:AV)(H:aj):OA:=
 bo (aA a0) λv7=> bo (ah v7 0) λv8=> bnd (ld v8 H) λv9 H=> bnd (lnS v9 H) λv10 H=>
 FP C [(.s (Go.Value.slice none 0 0)),v9,v10,(I 0)] H
theorem Ue(C:Callee)(t3 t9 t10 t11:AV)(H:aj):FP C [t3,t9,t10,t11] H=
 bo (bi .lss 3 t11 t10) λv12=>
 aI v12
 (bnd (ix 6 t9 t11 H) λv13 H=> bnd (lda 6 v13 H) λv14 H=> bnd (alc 93 [zI,zI,zI,zI,zB,zN] H) λv5 H=> bnd (st 6 v5 v14 H) λ_ H=>
  bo (ah v5 2) λv16=> bnd (ld v16 H) λv17 H=> bnd (bs 22 1 [(0,v17)] H) λv18 H=> bnd (app 3 1 8 t3 v18 H) λv19 H=>
  bo (bi .add 3 t11 (I 1)) λv20=>
  FP C [v19,t9,t10,v20] H)
 (bnd (C 56 [t3] H) λv22 H=>
  some (t3,H)):=
 lpE.trans (by kernel_rfl)
theorem aiN:Rn1 28 aeO:=λ_ _ _ _ h=>
 rnG aeN Tryz.func28 (by kernel_rfl) (by kernel_rfl) h
def aeP(C:Callee)(a0:AV)(H:aj):OA:=
 bo (aA a0) λv4=> bo (ah v4 1) λv5=> bnd (ld v5 H) λv6 H=> bnd (C 46 [v6] H) λv7 H=>
 some (v7,H)
theorem aiO:Rn1 29 aeP:=λ_ _ _ _ h=>
 rnG an0 Tryz.func29 (by kernel_rfl) (by kernel_rfl) h
def aeQ:Ann:=⟨[(4,[1,3,7,8])],[(4,rF 7 (some true::some false::some false::some true::rF 3 (some true::some true::rF 7 [])))],[]⟩
def FQ:=lF Tryz.prog Tryz.f30 34 aeQ 0
def aeR(C:Callee)(a0:AV)(H:aj):OA:=
 bnd (iC 40 a0 H) λv1 H=>
 bo (bd 124 []) λv4=> bnd (iC 124 v4 H) λv5 H=>
 bo (ah v1 0) λv6=> bnd (ld v6 H) λv7 H=>
 FQ C [v1,v5,v7,(I 0)] H
theorem Uf(C:Callee)(t1 t3 t7 t8:AV)(H:aj):FQ C [t1,t3,t7,t8] H=
 bo (bi .lss 3 t8 t7) λv9=>
 aI v9
 (bo (aA t3) λv12=> bo (ah v12 0) λv13=> bnd (ld v13 H) λv14 H=> bo (ah t1 5) λv15=> bnd (ld v15 H) λv16 H=> bnd (unG H (C 57 [v16] H.guard)) λv17 H=> bo (ah t1 6) λv18=> bnd (ld v18 H) λv19 H=> bnd (unG H (C 58 [v19] H.guard)) λv20 H=> bo (bd 115 [(0,v17),(1,v20)]) λv21=> bo (ah t1 5) λv22=> bnd (ld v22 H) λv23 H=> bnd (unG H (C 57 [v23] H.guard)) λv24 H=> bnd (unG H (C 58 [(I 1)] H.guard)) λv25 H=> bo (bd 115 [(0,v24),(1,v25)]) λv26=> bo (bd 121 [(0,v21),(1,v26)]) λv27=> bnd (bs 122 1 [(0,v27)] H) λv28 H=> bnd (app 121 4 32 v14 v28 H) λv29 H=> bo (aA t3) λv30=> bo (ah v30 0) λv31=> bnd (st 1 v31 v29 H) λ_ H=>
  bo (bi .add 3 t8 (I 1)) λv32=>
  FQ C [t1,t3,t7,v32] H)
 (some (t3,H)):=
 lpE.trans (by kernel_rfl)
theorem aiP:Rn1 30 aeR:=λ_ _ _ _ h=>
 rnG aeQ Tryz.func30 (by kernel_rfl) (by kernel_rfl) h
def aeS(C:Callee)(H:aj):OA:=
 bnd (alc 40 [zI,zI,zI,zI,zI,zI,zI,zN] H) λv0 H=>
 bnd (bs 22 1 [(0,(I 5))] H) λv1 H=> bo (bd 40 [(0,(I 1)),(1,(I 1)),(2,(I 1)),(3,(I 1)),(4,(I 1)),(5,(I 1)),(6,(I 1)),(7,v1)]) λv2=> bnd (st 8 v0 v2 H) λ_ H=>
 bnd (lda 8 v0 H) λr0 _=> some (r0,H)
theorem aiQ:Rn0 31 aeS:=λ_ _ _ h=>
 rnG an0 Tryz.func31 (by kernel_rfl) (by kernel_rfl) h
def aeT(C:Callee)(H:aj):OA:=
 bo (bd 118 []) λv1=> bnd (iC 118 v1 H) λv2 H=>
 some (v2,H)
theorem aiR:Rn0 32 aeT:=λ_ _ _ h=>
 rnG an0 Tryz.func32 (by kernel_rfl) (by kernel_rfl) h
def aiS:Ann:=⟨[],[(1,rF 4 (some true::some false::some true::rF 4 (some true::rF 4 [])))],[]⟩
def aeU(C:Callee)(a0 a1 a2:AV)(H:aj):OA:=
 bnd (iC 40 a0 H) λv3 H=>
 bo (ah v3 3) λv7=> bnd (ld v7 H) λv8 H=> bo (ah v3 4) λv9=> bnd (ld v9 H) λv10 H=> bnd (unG H (C 59 [v8,v10] H.guard)) λv11 H=> bnd (unG H (C 60 [a2] H.guard)) λv13 H=> bnd (lda 8 v3 H) λv14 H=> bnd (lda 8 v3 H) λv16 H=> bnd (unG H (C 61 [v16,a1] H.guard)) λv18 H=> bo (bd 64 [(0,v18)]) λv19=> bo (bd 66 [(0,v11),(1,v13),(2,v14),(3,a1),(4,v19)]) λv20=> bnd (iC 66 v20 H) λv21 H=>
 some (v21,H)
theorem aiT:Rn3 33 aeU:=λ_ _ _ _ _ _ h=>
 rnG aiS Tryz.func33 (by kernel_rfl) (by kernel_rfl) h
def aeV:Ann:=⟨[(3,[0,1,2,3,9])],[],[]⟩
def FT:=lF Tryz.prog Tryz.f34 36 aeV 0
def aeW(C:Callee)(a0 a1 a2 a3:AV)(H:aj):OA:=
 FT C [a0,a1,a2,a3,(I 0)] H
theorem LZ(C:Callee)(t0 t1 t2 t3 t9:AV)(H:aj):FT C [t0,t1,t2,t3,t9] H=
 bo (bi .lss 3 t9 (I 400)) λv11=> gdA (some v11) true (aC (some t0) H) H λv13 H=> gdA (some v11) true (aC (aA v13) H) H λv14 H=> gdA (some v11) true (aC (ah v14 1) H) H λv15 H=> gdA (some v11) true (ld v15 H) H λv16 H=> gdA (some v11) true (C 19 [v16] H) H λv17 H=> gdA (some v11) true (aC (some t3) H) H λv18 H=> gdA (some v11) true (aC (bi .gtr 3 v17 v18) H) H λv19 H=> bo (bg v11 v19 (B false)) λv20=>
 aI v20
 (bnd (C 36 [t0,t1,t2] H) λv26 H=>
  bnd (C 35 [t1,(I 0),(I 0),(.s (Go.Value.int Go.IntKind.u16 0))] H) λv28 H=>
  bo (bi .add 3 t9 (I 1)) λv22=>
  FT C [t0,t1,t2,t3,v22] H)
 (bo (aA t0) λv30=> bo (ah v30 1) λv31=> bnd (ld v31 H) λv32 H=> bnd (C 19 [v32] H) λv33 H=> bo (bi .eql 3 v33 t3) λv35=>
  some (v35,H)):=
 lpE.trans (by kernel_rfl)
theorem aiU:Rn4 34 aeW:=λ_ _ _ _ _ _ _ h=>
 rnG aeV Tryz.func34 (by kernel_rfl) (by kernel_rfl) h
def aiV:Ann:=⟨[],[(7,rF 10 (some true::some true::rF 4 []))],[]⟩
def Ug(C:Callee)(a0 a1 a2 a3:AV)(H:aj):OA:=
 bnd (C 22 [a0,a1] H) λv19 H=> bo (aF v19 0) λv20=> bo (aF v19 1) λv21=> bnd (alc 70 [zI,zI,zI,zI,zI,zI,zI,zB,zN] H) λv9 H=> bnd (st 9 v9 v20 H) λ_ H=>
 bo (un .not v21) λv23=>
 aI v23
 (some ((I 3),H))
 (bnd (lda 9 v9 H) λv25 H=> bnd (C 62 [v25,a2,a3] H) λv28 H=> bo (aF v28 0) λv29=> bo (aF v28 1) λv30=> bnd (st 9 v9 v29 H) λ_ H=>
  bo (bi .neq 76 v30 (I 0)) λv32=>
  aI v32
  (some (v30,H))
  (bo (aA a0) λv35=> bo (ah v35 0) λv36=> bnd (ld v36 H) λv37 H=> bo (ah v9 2) λv38=> bnd (ld v38 H) λv39 H=> bnd (ix 4 v37 v39 H) λv40 H=> bnd (lda 4 v40 H) λv41 H=> bo (ah v9 0) λv42=> bnd (ld v42 H) λv43 H=> bnd (unG H (C 64 [v43] H.guard)) λv44 H=> bnd (unG H (C 63 [v41,v44] H.guard)) λv45 H=> bo (fl v45 1) λv46=> bnd (lda 9 v9 H) λv47 H=> bnd (C 65 [v46,v47] H) λv48 H=>
  bo (bi .neq 76 v48 (I 0)) λv50=>
  aI v50
  (some (v48,H))
  (bnd (C 52 [a0,a1] H) λv55 H=> bo (aF v55 0) λv56=> bo (aF v55 1) λv57=> bo (aF v55 2) λv58=> bnd (alc 115 [zP,zP] H) λv13 H=> bnd (st 2 v13 v56 H) λ_ H=>
   bo (ah v13 0) λv59=> bnd (ld v59 H) λv60 H=> bnd (C 66 [v60,v57] H) λv62 H=>
   some ((I 0),H))))
theorem X5:Rn4 35 Ug:=λ_ _ _ _ _ _ _ h=>
 rnG aiV Tryz.func35 (by kernel_rfl) (by kernel_rfl) h
def L6(C:Callee)(a0 a1 a2:AV)(H:aj):OA:=
 bnd (C 67 [a0,a1,a2] H) λv11 H=>
 aI v11
 (some ((I 1),H))
 (bnd (C 68 [a0,a1] H) λv15 H=>
  aI v15
  (some ((I 2),H))
  (bnd (C 69 [a0,a1] H) λv19 H=>
  aI v19
  (some ((I 3),H))
  (bnd (C 70 [a0,a1,a2] H) λv24 H=>
   aI v24
   (some ((I 4),H))
   (some ((I 0),H)))))
theorem QA:Rn3 36 L6:=λ_ _ _ _ _ _ h=>
 rnG an0 Tryz.func36 (by kernel_rfl) (by kernel_rfl) h
def ab5(C:Callee)(a0 a1:AV)(H:aj):OA:=
 bnd (alc 93 [zI,zI,zI,zI,zB,zN] H) λv4 H=>
 bnd (C 71 [a0,a1] H) λv9 H=>
 bo (bi .lss 3 v9 (I 0)) λv11=>
 aI v11
 (bo (bd 93 []) λv12=> bnd (st 6 v4 v12 H) λ_ H=>
  bnd (lda 6 v4 H) λr0 _=> some (.tup [r0,(B false)],H))
 (bo (aA a0) λv14=> bo (ah v14 0) λv15=> bnd (ld v15 H) λv16 H=> bnd (ix 6 v16 v9 H) λv18 H=> bnd (lda 6 v18 H) λv19 H=> bnd (C 72 [v19] H) λv20 H=> bnd (st 6 v4 v20 H) λ_ H=>
  bnd (lda 6 v4 H) λr0 _=> some (.tup [r0,(B true)],H))
theorem aiW:Rn2 37 ab5:=λ_ _ _ _ _ h=>
 rnG an0 Tryz.func37 (by kernel_rfl) (by kernel_rfl) h
def ab6(C:Callee)(a0 a1:AV)(H:aj):OA:=
 bnd (iC 93 a0 H) λv2 H=>
 bnd (lda 6 v2 H) λv5 H=> bnd (C 73 [v5,a1] H) λv7 H=> bo (un .not v7) λv8=>
 aI v8
 (some ((I 0),H))
 (bo (ah v2 5) λv9=> bnd (ld v9 H) λv10 H=> bnd (ix 1 v10 a1 H) λv12 H=> bnd (ld v12 H) λv13 H=>
  some (v13,H))
theorem aiX:Rn2 38 ab6:=λ_ _ _ _ _ h=>
 rnG an0 Tryz.func38 (by kernel_rfl) (by kernel_rfl) h
def aeX(C:Callee)(H:aj):OA:=
 bnd (C 31 [] H) λv4 H=> bnd (C 30 [v4] H) λv5 H=> bnd (C 32 [] H) λv6 H=>
 bnd (C 31 [] H) λv7 H=> bo (bd 86 [(0,(I 1))]) λv8=> bnd (bs 98 1 [(0,v8)] H) λv9 H=> bnd (C 33 [v7,(I 0),v9] H) λv10 H=>
 bo (bi .eql 43 v5 (.s (Go.Value.pointer none))) λv12=> gdA (some v12) false (aC (some v6) H) H λv14 H=> gdA (some v12) false (aC (bi .eql 44 v14 (.s (Go.Value.pointer none))) H) H λv15 H=> bo (bg v12 (B true) v15) λv16=> gdA (some v16) false (aC (some v10) H) H λv18 H=> gdA (some v16) false (aC (bi .eql 54 v18 (.s (Go.Value.pointer none))) H) H λv19 H=> bo (bg v16 (B true) v19) λv20=> gdA (some v20) false (C 31 [] H) H λv22 H=> gdA (some v20) false (C 33 [v22,(I 0),(.s (Go.Value.slice none 0 0))] H) H λv23 H=> gdA (some v20) false (aC (some v5) H) H λv24 H=> gdA (some v20) false (aC (some v6) H) H λv25 H=> gdA (some v20) false (C 36 [v23,v24,v25] H) H λv26 H=> gdA (some v20) false (aC (bi .neq 3 v26 (I 0)) H) H λv27 H=> bo (bg v20 (B true) v27) λv28=> gdA (some v28) false (aC (some v10) H) H λv30 H=> gdA (some v28) false (aC (some v5) H) H λv31 H=> gdA (some v28) false (aC (some v6) H) H λv32 H=> gdA (some v28) false (C 36 [v30,v31,v32] H) H λv33 H=> gdA (some v28) false (aC (bi .neq 3 v33 (I 4)) H) H λv34 H=> bo (bg v28 (B true) v34) λv35=> gdA (some v35) false (aC (some v5) H) H λv37 H=> gdA (some v35) false (C 35 [v37,(I 0),(I 0),(.s (Go.Value.int Go.IntKind.u16 0))] H) H λv38 H=> gdA (some v35) false (aC (bi .neq 76 v38 (I 0)) H) H λv39 H=> bo (bg v35 (B true) v39) λv40=> gdA (some v40) false (aC (some v10) H) H λv42 H=> gdA (some v40) false (aC (some v5) H) H λv43 H=> gdA (some v40) false (aC (some v6) H) H λv44 H=> gdA (some v40) false (C 36 [v42,v43,v44] H) H λv45 H=> gdA (some v40) false (aC (bi .neq 3 v45 (I 3)) H) H λv46 H=> bo (bg v40 (B true) v46) λv47=> gdA (some v47) false (aC (some v5) H) H λv49 H=> gdA (some v47) false (C 35 [v49,(I 0),(I 0),(.s (Go.Value.int Go.IntKind.u16 0))] H) H λv50 H=> gdA (some v47) false (aC (bi .neq 76 v50 (I 0)) H) H λv51 H=> bo (bg v47 (B true) v51) λv52=> gdA (some v52) false (aC (some v10) H) H λv54 H=> gdA (some v52) false (aC (some v5) H) H λv55 H=> gdA (some v52) false (aC (some v6) H) H λv56 H=> gdA (some v52) false (C 36 [v54,v55,v56] H) H λv57 H=> gdA (some v52) false (aC (bi .neq 3 v57 (I 1)) H) H λv58 H=> bo (bg v52 (B true) v58) λv59=>
 aI v59
 (some ((B false),H))
 (bo (aA v10) λv61=> bo (ah v61 1) λv62=> bnd (ld v62 H) λv63 H=> bnd (C 19 [v63] H) λv64 H=> bo (bi .eql 3 v64 (I 0)) λv65=> gdA (some v65) true (aC (some v10) H) H λv67 H=> gdA (some v65) true (aC (aA v67) H) H λv68 H=> gdA (some v65) true (aC (ah v68 1) H) H λv69 H=> gdA (some v65) true (ld v69 H) H λv70 H=> gdA (some v65) true (C 29 [v70] H) H λv71 H=> gdA (some v65) true (bs 22 1 [(0,(I 5))] H) H λv72 H=> gdA (some v65) true (C 27 [v71,v72] H) H λv73 H=> bo (bg v65 v73 (B false)) λv74=>
  some (v74,H))
theorem aiY:Rn0 39 aeX:=λ_ _ _ h=>
 rnG an0 Tryz.func39 (by kernel_rfl) (by kernel_rfl) h
def aeY(C:Callee)(a0 a1:AV)(H:aj):OA:=
 bnd (alc 100 [zI,zI,zN] H) λv4 H=>
 bo (aA a0) λv7=> bo (ah v7 11) λv8=> bo (ah v8 0) λv9=> bnd (ld v9 H) λv10 H=> bo (aA v10) λv11=> bo (ah v11 0) λv12=> bnd (ld v12 H) λv13 H=> bnd (C 74 [v13,a1] H) λv15 H=> bo (aF v15 0) λv16=> bo (aF v15 1) λv17=> bnd (st 3 v4 v16 H) λ_ H=>
 bnd (lda 3 v4 H) λr0 _=> some (.tup [r0,v17],H)
theorem aiZ:Rn2 40 aeY:=λ_ _ _ _ _ h=>
 rnG an0 Tryz.func40 (by kernel_rfl) (by kernel_rfl) h
def aeZ(C:Callee)(a0:AV)(H:aj):OA:=
 bo (aA a0) λv4=> bo (ah v4 2) λv5=> bnd (ld v5 H) λv6 H=>
 some (v6,H)
theorem ai0:Rn1 45 aeZ:=λ_ _ _ _ h=>
 rnG an0 Tryz.func45 (by kernel_rfl) (by kernel_rfl) h
def Jh(C:Callee)(a0:AV)(H:aj):OA:=
 bo (bi .eql 22 a0 (.s (Go.Value.slice none 0 0))) λv4=>
 aI v4
 (some ((.s (Go.Value.slice none 0 0)),H))
 (bnd (bs 22 0 [] H) λv5 H=> bnd (app 3 1 8 v5 a0 H) λv7 H=>
  some (v7,H))
theorem L8:Rn1 46 Jh:=λ_ _ _ _ h=>
 rnG an0 Tryz.func46 (by kernel_rfl) (by kernel_rfl) h
def ae0:Ann:=⟨[(4,[3,9,10,11])],[],[]⟩
def FU:=lF Tryz.prog Tryz.f47 24 ae0 0
def ae1(C:Callee)(a0:AV)(H:aj):OA:=
 bo (aA a0) λv7=> bo (ah v7 0) λv8=> bnd (ld v8 H) λv9 H=> bnd (lnS v9 H) λv10 H=>
 FU C [(.s (Go.Value.slice none 0 0)),v9,v10,(I 0)] H
theorem Uh(C:Callee)(t3 t9 t10 t11:AV)(H:aj):FU C [t3,t9,t10,t11] H=
 bo (bi .lss 3 t11 t10) λv12=>
 aI v12
 (bnd (ix 4 t9 t11 H) λv13 H=> bnd (lda 4 v13 H) λv14 H=> bnd (alc 121 [zP,zP,zP,zP] H) λv5 H=> bnd (st 4 v5 v14 H) λ_ H=>
  bo (ah v5 0) λv16=> bnd (lda 2 v16 H) λv17 H=> bo (ah v5 2) λv18=> bnd (lda 2 v18 H) λv19 H=> bnd (bs 110 2 [(0,v17),(1,v19)] H) λv20 H=> bnd (app 115 2 16 t3 v20 H) λv21 H=>
  bo (bi .add 3 t11 (I 1)) λv22=>
  FU C [v21,t9,t10,v22] H)
 (some (t3,H)):=
 lpE.trans (by kernel_rfl)
theorem ai1:Rn1 47 ae1:=λ_ _ _ _ h=>
 rnG ae0 Tryz.func47 (by kernel_rfl) (by kernel_rfl) h
def ae2(C:Callee)(a0:AV)(H:aj):OA:=
 bo (aA a0) λv4=> bo (ah v4 0) λv5=> bnd (ld v5 H) λv6 H=> bnd (lnS v6 H) λv7 H=>
 some (v7,H)
theorem ai2:Rn1 48 ae2:=λ_ _ _ _ h=>
 rnG an0 Tryz.func48 (by kernel_rfl) (by kernel_rfl) h
def ab7(C:Callee)(a0 a1:AV)(H:aj):OA:=
 bo (bi .geq 3 a1 (I 0)) λv6=> gdA (some v6) true (aC (some a1) H) H λv8 H=> gdA (some v6) true (aC (some a0) H) H λv9 H=> gdA (some v6) true (aC (aA v9) H) H λv10 H=> gdA (some v6) true (aC (ah v10 0) H) H λv11 H=> gdA (some v6) true (ld v11 H) H λv12 H=> gdA (some v6) true (lnS v12 H) H λv13 H=> gdA (some v6) true (aC (bi .lss 3 v8 v13) H) H λv14 H=> bo (bg v6 v14 (B false)) λv15=>
 some (v15,H)
theorem ai3:Rn2 50 ab7:=λ_ _ _ _ _ h=>
 rnG an0 Tryz.func50 (by kernel_rfl) (by kernel_rfl) h
def ae3:Ann:=⟨[(3,[1,4,10,11,12])],[],[]⟩
def FV:=lF Tryz.prog Tryz.f52 34 ae3 0
def QB(C:Callee)(a0 a1:AV)(H:aj):OA:=
 bnd (alc 115 [zP,zP] H) λv4 H=>
 bnd (C 47 [a0] H) λv10 H=> bnd (lnS v10 H) λv11 H=>
 FV C [a1,v4,v10,v11,(I 0)] H
theorem Ui(C:Callee)(t1 t4 t10 t11 t12:AV)(H:aj):FV C [t1,t4,t10,t11,t12] H=
 bo (bi .lss 3 t12 t11) λv13=>
 aI v13
 (bnd (ix 2 t10 t12 H) λv14 H=> bnd (lda 2 v14 H) λv15 H=> bnd (alc 115 [zP,zP] H) λv8 H=> bnd (st 2 v8 v15 H) λ_ H=>
  bo (bi .geq 3 t1 (I 0)) λv17=> gdA (some v17) true (aC (some t1) H) H λv19 H=> gdA (some v17) true (aC (ah v8 0) H) H λv20 H=> gdA (some v17) true (ld v20 H) H λv21 H=> gdA (some v17) true (C 48 [v21] H) H λv22 H=> gdA (some v17) true (aC (bi .lss 3 v19 v22) H) H λv23 H=> bo (bg v17 v23 (B false)) λv24=>
  aI v24
  (bnd (lda 2 v8 H) λv25 H=> bnd (st 2 t4 v25 H) λ_ H=>
  bnd (lda 2 t4 H) λr0 _=> some (.tup [r0,t1,(B true)],H))
  (bo (ah v8 0) λv28=> bnd (ld v28 H) λv29 H=> bnd (C 48 [v29] H) λv30 H=> bo (bi .sub 3 t1 v30) λv31=>
  bo (bi .add 3 t12 (I 1)) λv32=>
  FV C [v31,t4,t10,t11,v32] H))
 (bo (bd 115 []) λv33=> bnd (st 2 t4 v33 H) λ_ H=>
  bnd (lda 2 t4 H) λr0 _=> some (.tup [r0,(I 0),(B false)],H)):=
 lpE.trans (by kernel_rfl)
theorem ai4:Rn2 52 QB:=λ_ _ _ _ _ h=>
 rnG ae3 Tryz.func52 (by kernel_rfl) (by kernel_rfl) h
def X6(C:Callee)(a0 a1:AV)(H:aj):OA:=
 bnd (alc 70 [zI,zI,zI,zI,zI,zI,zI,zB,zN] H) λv4 H=>
 bo (bi .lss 3 a1 (I 0)) λv7=> gdA (some v7) false (aC (some a1) H) H λv9 H=> gdA (some v7) false (aC (some a0) H) H λv10 H=> gdA (some v7) false (aC (aA v10) H) H λv11 H=> gdA (some v7) false (aC (ah v11 0) H) H λv12 H=> gdA (some v7) false (ld v12 H) H λv13 H=> gdA (some v7) false (lnS v13 H) H λv14 H=> gdA (some v7) false (aC (bi .geq 3 v9 v14) H) H λv15 H=> bo (bg v7 (B true) v15) λv16=>
 aI v16
 (bo (bd 70 []) λv17=> bnd (st 9 v4 v17 H) λ_ H=>
  bnd (lda 9 v4 H) λr0 _=> some (.tup [r0,(B false)],H))
 (bo (aA a0) λv19=> bo (ah v19 0) λv20=> bnd (ld v20 H) λv21 H=> bnd (ix 9 v21 a1 H) λv23 H=> bnd (lda 9 v23 H) λv24 H=> bnd (C 82 [v24] H) λv25 H=> bnd (st 9 v4 v25 H) λ_ H=>
  bnd (lda 9 v4 H) λr0 _=> some (.tup [r0,(B true)],H))
theorem ai5:Rn2 53 X6:=λ_ _ _ _ _ h=>
 rnG an0 Tryz.func53 (by kernel_rfl) (by kernel_rfl) h
def ae4(C:Callee)(a0:AV)(H:aj):OA:=
 bnd (lnS a0 H) λv4 H=>
 bnd (cv 3 176 v4 H) λv8 H=> bnd (C 90 [v8] H) λv9 H=> bnd (C 89 [a0,(I 0),v4,v9] H) λv10 H=>
 some (.tup [],H)
theorem ai6:Rn1 56 ae4:=λ_ _ _ _ h=>
 rnG an0 Tryz.func56 (by kernel_rfl) (by kernel_rfl) h
def ae5(C:Callee)(a0:AV)(H:aj):OA:=
 bnd (aC (jy Tryz.prog true #[3,3] 3 [(I 0),a0]) H) λv4 H=> bo (bd 164 [(1,v4)]) λv5=> bnd (iC 164 v5 H) λv6 H=>
 some (v6,H)
theorem ai7:Rn1 57 ae5:=λ_ _ _ _ h=>
 rnG an0 Tryz.func57 (by kernel_rfl) (by kernel_rfl) h
def ae6(C:Callee)(a0:AV)(H:aj):OA:=
 bnd (aC (jy Tryz.prog true #[3,3] 3 [(I 0),a0]) H) λv4 H=> bo (bd 166 [(1,v4)]) λv5=> bnd (iC 166 v5 H) λv6 H=>
 some (v6,H)
theorem ai8:Rn1 58 ae6:=λ_ _ _ _ h=>
 rnG an0 Tryz.func58 (by kernel_rfl) (by kernel_rfl) h
def ae7(C:Callee)(a0 a1:AV)(H:aj):OA:=
 bnd (aC (jy Tryz.prog true #[3,3] 3 [(I 1),a0]) H) λv6 H=> bnd (aC (jy Tryz.prog true #[3,3] 3 [(I 1),a1]) H) λv8 H=> bo (bd 133 [(1,v6),(2,v8)]) λv9=> bnd (iC 133 v9 H) λv10 H=>
 some (v10,H)
theorem ai9:Rn2 59 ae7:=λ_ _ _ _ _ h=>
 rnG an0 Tryz.func59 (by kernel_rfl) (by kernel_rfl) h
def ae8(C:Callee)(a0:AV)(H:aj):OA:=
 bnd (C 91 [a0] H) λv4 H=> bo (bd 126 [(0,v4)]) λv5=> bnd (iC 126 v5 H) λv6 H=>
 some (v6,H)
theorem aja:Rn1 60 ae8:=λ_ _ _ _ h=>
 rnG an0 Tryz.func60 (by kernel_rfl) (by kernel_rfl) h
def ajb:Ann:=⟨[],[(1,some false::some false::some true::some true::rF 5 [])],[]⟩
def ae9(C:Callee)(a0 a1:AV)(H:aj):OA:=
 bnd (iC 40 a0 H) λv2 H=>
 bnd (lda 8 v2 H) λv5 H=> bnd (unG H (C 92 [v5,a1] H.guard)) λv7 H=> bnd (unG H (C 93 [] H.guard)) λv8 H=> bnd (lda 8 v2 H) λv9 H=> bo (bd 150 [(0,v7),(1,v8),(2,v9),(3,a1)]) λv11=> bnd (iC 150 v11 H) λv12 H=>
 some (v12,H)
theorem ajc:Rn2 61 ae9:=λ_ _ _ _ _ h=>
 rnG ajb Tryz.func61 (by kernel_rfl) (by kernel_rfl) h
def ab8(C:Callee)(a0 a1 a2:AV)(H:aj):OA:=
 bnd (iC 70 a0 H) λv3 H=> bnd (alc 70 [zI,zI,zI,zI,zI,zI,zI,zB,zN] H) λv6 H=>
 bnd (lda 9 v3 H) λv11 H=> bnd (C 94 [v11] H) λv12 H=> bo (aF v12 0) λv13=> bo (aF v12 1) λv14=>
 bo (bi .neq 76 v14 (I 0)) λv16=>
 aI v16
 (bo (bd 70 []) λv17=> bnd (st 9 v6 v17 H) λ_ H=>
  bnd (lda 9 v6 H) λr0 _=> some (.tup [r0,(I 2)],H))
 (bnd (C 96 [v13,a1,a2] H) λv21 H=> bnd (C 95 [v21] H) λv22 H=> bo (aF v22 0) λv23=> bo (aF v22 1) λv24=> bnd (st 9 v6 v23 H) λ_ H=>
  bnd (lda 9 v6 H) λr0 _=> some (.tup [r0,v24],H))
theorem afa:Rn3 62 ab8:=λ_ _ _ _ _ _ h=>
 rnG an0 Tryz.func62 (by kernel_rfl) (by kernel_rfl) h
def ab9(C:Callee)(a0 a1:AV)(H:aj):OA:=
 bnd (iC 121 a0 H) λv2 H=> bnd (alc 115 [zP,zP] H) λv4 H=>
 aI a1
 (bo (ah v2 0) λv6=> bnd (lda 2 v6 H) λv7 H=> bnd (st 2 v4 v7 H) λ_ H=>
  bnd (lda 2 v4 H) λr0 _=> some (r0,H))
 (bo (ah v2 2) λv8=> bnd (lda 2 v8 H) λv9 H=> bnd (st 2 v4 v9 H) λ_ H=>
  bnd (lda 2 v4 H) λr0 _=> some (r0,H))
theorem ajd:Rn2 63 ab9:=λ_ _ _ _ _ h=>
 rnG an0 Tryz.func63 (by kernel_rfl) (by kernel_rfl) h
def acd(C:Callee)(a0:AV)(H:aj):OA:=
 bo (bi .geq 3 a0 (I 1)) λv4=> gdA (some v4) true (aC (some a0) H) H λv6 H=> gdA (some v4) true (aC (bi .leq 3 v6 (I 6)) H) H λv7 H=> bo (bg v4 v7 (B false)) λv8=>
 some (v8,H)
theorem aje:Rn1 64 acd:=λ_ _ _ _ h=>
 rnG an0 Tryz.func64 (by kernel_rfl) (by kernel_rfl) h
def ajf:Ann:=⟨[],[(3,rF 6 (some true::rF 5 []))],[]⟩
def ace(C:Callee)(a0 a1:AV)(H:aj):OA:=
 bnd (iC 70 a1 H) λv3 H=>
 bnd (C 97 [a0] H) λv6 H=> bo (bi .eql 3 v6 (I 0)) λv7=>
 aI v7
 (some ((I 5),H))
 (bo (aA a0) λv10=> bo (ah v10 0) λv11=> bnd (ld v11 H) λv12 H=> bnd (lda 9 v3 H) λv13 H=> bnd (unG H (C 98 [v13] H.guard)) λv14 H=> bnd (bs 162 1 [(0,v14)] H) λv15 H=> bnd (app 70 9 88 v12 v15 H) λv16 H=> bo (aA a0) λv17=> bo (ah v17 0) λv18=> bnd (st 1 v18 v16 H) λ_ H=>
  some ((I 0),H))
theorem afb:Rn2 65 ace:=λ_ _ _ _ _ h=>
 rnG ajf Tryz.func65 (by kernel_rfl) (by kernel_rfl) h
def L9(C:Callee)(t4 t6 t7:AV)(H:aj):OA:=
 bnd (lda 9 t6 H) λv26 H=> bnd (st 9 t4 v26 H) λ_ H=>
 bnd (lda 9 t4 H) λr0 _=> some (.tup [r0,t7],H)
def afc(C:Callee)(a0 a1:AV)(H:aj):OA:=
 bnd (alc 70 [zI,zI,zI,zI,zI,zI,zI,zB,zN] H) λv4 H=>
 bnd (C 53 [a0,a1] H) λv11 H=> bo (aF v11 0) λv12=> bo (aF v11 1) λv13=> bnd (alc 70 [zI,zI,zI,zI,zI,zI,zI,zB,zN] H) λv6 H=> bnd (st 9 v6 v12 H) λ_ H=>
 aI v13
 (bo (aA a0) λv17=> bo (ah v17 0) λv18=> bnd (ld v18 H) λv19 H=> bo (bi .add 3 a1 (I 1)) λv22=> bnd (C 99 [v19,a1,v22] H) λv23 H=> bo (aA a0) λv24=> bo (ah v24 0) λv25=> bnd (st 1 v25 v23 H) λ_ H=>
  L9 C v4 v6 v13 H)
 (L9 C v4 v6 v13 H)
theorem ajg:Rn2 66 afc:=λ_ _ _ _ _ h=>
 rnG an0 Tryz.func66 (by kernel_rfl) (by kernel_rfl) h
def BN(C:Callee)(t0 t1:AV)(H:aj):OA:=
 bnd (C 105 [t0,t1] H) λv81 H=>
 some ((B true),H)
def FW(C:Callee)(a0 a1 a2:AV)(H:aj):OA:=
 bo (aA a0) λv17=> bo (ah v17 10) λv18=> bnd (ld v18 H) λv19 H=> bnd (C 100 [a1,v19] H) λv20 H=> bo (aF v20 0) λv21=> bo (aF v20 1) λv22=> bnd (alc 70 [zI,zI,zI,zI,zI,zI,zI,zB,zN] H) λv7 H=> bnd (st 9 v7 v21 H) λ_ H=>
 bo (un .not v22) λv24=>
 aI v24
 (some ((B false),H))
 (bnd (lda 9 v7 H) λv27 H=> bnd (C 101 [a0,v27] H) λv28 H=> bo (aF v28 0) λv29=> bo (aF v28 1) λv30=> bnd (alc 57 [zI,zI,zI,zI,zI,zI,zN,zI,zI] H) λv9 H=> bnd (st 9 v9 v29 H) λ_ H=>
  bo (un .not v30) λv32=>
  aI v32
  (some ((B true),H))
  (bnd (lda 9 v9 H) λv34 H=> bo (aA a0) λv35=> bo (ah v35 12) λv36=> bnd (st 9 v36 v34 H) λ_ H=>
  bo (aA a0) λv39=> bo (ah v39 1) λv40=> bnd (ld v40 H) λv41 H=> bnd (C 102 [v41] H) λv42 H=> bo (aF v42 0) λv43=> bo (aF v42 1) λv44=> bo (aF v42 2) λv45=> bnd (alc 86 [zI,zI,zI] H) λv11 H=> bnd (st 3 v11 v43 H) λ_ H=>
  bo (ah v9 3) λv47=> bnd (ld v47 H) λv48 H=> bo (bi .eql 3 v48 (I 0)) λv49=> gdA (some v49) true (aC (ah v9 0) H) H λv51 H=> gdA (some v49) true (ld v51 H) H λv52 H=> gdA (some v49) true (aC (bi .eql 3 v52 (I 3)) H) H λv53 H=> bo (bg v49 v53 (B false)) λv54=> gdA (some v54) true (aC (ah v11 0) H) H λv56 H=> gdA (some v54) true (ld v56 H) H λv57 H=> gdA (some v54) true (aC (bi .eql 3 v57 (I 4)) H) H λv58 H=> bo (bg v54 v58 (B false)) λv59=>
  aI v59
  (bnd (C 103 [a0,a2,(I 0)] H) λv62 H=>
   some ((B true),H))
  (bo (ah v9 3) λv64=> bnd (ld v64 H) λv65 H=> bo (bi .eql 3 v65 (I 0)) λv66=>
   aI v66
   (some ((B true),H))
   (bo (ah v9 3) λv68=> bnd (ld v68 H) λv69 H=> bo (bi .eql 3 v69 (I 6)) λv70=> gdA (some v70) true (aC (ah v9 0) H) H λv72 H=> gdA (some v70) true (ld v72 H) H λv73 H=> gdA (some v70) true (aC (bi .neq 3 v73 (I 3)) H) H λv74 H=> bo (bg v70 v74 (B false)) λv75=>
   aI v75
   (bnd (C 104 [a0,a2] H) λv78 H=>
    BN C a0 a1 H)
   (BN C a0 a1 H)))))
theorem QC:Rn3 67 FW:=λ_ _ _ _ _ _ h=>
 rnG an0 Tryz.func67 (by kernel_rfl) (by kernel_rfl) h
def X7(C:Callee)(a0 a1:AV)(H:aj):OA:=
 bo (aA a0) λv8=> bo (ah v8 11) λv9=> bo (ah v9 0) λv10=> bnd (ld v10 H) λv11 H=> bnd (C 106 [v11] H) λv12 H=> bo (un .not v12) λv13=> gdA (some v13) false (aC (some a1) H) H λv15 H=> gdA (some v13) false (aC (some a0) H) H λv16 H=> gdA (some v13) false (aC (aA v16) H) H λv17 H=> gdA (some v13) false (aC (ah v17 10) H) H λv18 H=> gdA (some v13) false (ld v18 H) H λv19 H=> gdA (some v13) false (C 107 [v15,v19,(B false)] H) H λv20 H=> gdA (some v13) false (aC (bi .eql 3 v20 (I 0)) H) H λv21 H=> bo (bg v13 (B true) v21) λv22=>
 aI v22
 (some ((B false),H))
 (bo (aA a0) λv25=> bo (ah v25 11) λv26=> bo (ah v26 0) λv27=> bnd (ld v27 H) λv28 H=> bnd (C 108 [v28] H) λv29 H=> bo (aF v29 0) λv30=> bo (aF v29 1) λv31=> bnd (alc 70 [zI,zI,zI,zI,zI,zI,zI,zB,zN] H) λv5 H=> bnd (st 9 v5 v30 H) λ_ H=>
  bnd (lda 9 v5 H) λv33 H=> bnd (C 109 [a1,v33] H) λv34 H=>
  some ((B true),H))
theorem acf:Rn2 68 X7:=λ_ _ _ _ _ h=>
 rnG an0 Tryz.func68 (by kernel_rfl) (by kernel_rfl) h
def FX(C:Callee)(H:aj):OA:=
 some ((B true),H)
def Uj(C:Callee)(a0 a1:AV)(H:aj):OA:=
 bo (aA a0) λv11=> bo (ah v11 10) λv12=> bnd (ld v12 H) λv13 H=> bnd (C 107 [a1,v13,(B false)] H) λv14 H=> bo (bi .eql 3 v14 (I 0)) λv15=>
 aI v15
 (some ((B false),H))
 (bo (aA a0) λv19=> bo (ah v19 10) λv20=> bnd (ld v20 H) λv21 H=> bnd (C 110 [a1,v21] H) λv22 H=> bo (aF v22 0) λv23=> bo (aF v22 1) λv24=> bnd (alc 70 [zI,zI,zI,zI,zI,zI,zI,zB,zN] H) λv5 H=> bnd (st 9 v5 v23 H) λ_ H=>
  bo (un .not v24) λv26=>
  aI v26
  (some ((B false),H))
  (bnd (lda 9 v5 H) λv29 H=> bnd (C 111 [a0,v29] H) λv30 H=> bo (aF v30 0) λv31=> bo (aF v30 1) λv32=> bnd (alc 70 [zI,zI,zI,zI,zI,zI,zI,zB,zN] H) λv7 H=> bnd (st 9 v7 v31 H) λ_ H=>
  aI v32
  (bnd (lda 9 v7 H) λv35 H=> bnd (C 109 [a1,v35] H) λv36 H=>
   FX C H)
  (FX C H)))
theorem X8:Rn2 69 Uj:=λ_ _ _ _ _ h=>
 rnG an0 Tryz.func69 (by kernel_rfl) (by kernel_rfl) h
def ajh:Ann:=⟨[],[(7,rF 12 [])],[]⟩
def jF(C:Callee)(H:aj):OA:=
 some ((B true),H)
def lJ(C:Callee)(t0 t1 t2 t7:AV)(H:aj):OA:=
 bo (aA t0) λv55=> bo (ah v55 2) λv56=> bnd (lda 8 v56 H) λv57 H=> bo (ah t7 1) λv58=> bnd (ld v58 H) λv59 H=> bnd (C 114 [v57,v59] H) λv60 H=> bo (aF v60 0) λv61=> bo (aF v60 1) λv62=>
 bo (aA t0) λv65=> bo (ah v65 0) λv66=> bnd (ld v66 H) λv67 H=> bnd (C 37 [v67,v61] H) λv69 H=> bo (aF v69 0) λv70=> bo (aF v69 1) λv71=> bnd (alc 93 [zI,zI,zI,zI,zB,zN] H) λv12 H=> bnd (st 6 v12 v70 H) λ_ H=>
 bo (ah t7 0) λv77=> bnd (ld v77 H) λv78 H=> bo (bi .eql 3 v78 (I 4)) λv79=> gdA (some v79) true (aC (some v71) H) H λv81 H=> gdA (some v79) true (aC (un .not v81) H) H λv82 H=> bo (bg v79 v82 (B false)) λv83=>
 aI v83
 (bnd (C 103 [t0,t2,(I 0)] H) λv86 H=>
  jF C H)
 (bo (ah t7 0) λv88=> bnd (ld v88 H) λv89 H=> bo (bi .eql 3 v89 (I 4)) λv90=>
  aI v90
  (bnd (C 115 [t0,t1,(I 3),v61] H) λv94 H=>
  jF C H)
  (gdA (some v71) true (aC (ah t7 0) H) H λv98 H=> gdA (some v71) true (ld v98 H) H λv99 H=> gdA (some v71) true (aC (bi .eql 3 v99 (I 1)) H) H λRk H=> gdA (some v71) true (aC (some Rk) H) H λWW H=> gdA (some WW) false (aC (ah v12 4) H) H λaeH H=> gdA (some WW) false (ld aeH H) H λaeI H=> gdA (some v71) true (aC (bg WW (B true) aeI) H) H λaeJ H=> bo (bg v71 aeJ (B false)) λv105=>
  aI v105
  (bo (aA t0) λv107=> bo (ah v107 0) λZX=> bnd (ld ZX H) λv109 H=> bnd (C 116 [v109,v61] H) λald H=>
   bnd (C 104 [t0,t2] H) λale H=>
   jF C H)
  (bo (aA t0) λv117=> bo (ah v117 0) λakA=> bnd (ld akA H) λakB H=> bnd (C 117 [akB,v61] H) λake H=>
   aI ake
   (bo (aA t0) λv124=> bo (ah v124 0) λakC=> bnd (ld akC H) λaji H=> bnd (C 118 [aji,v61] H) λakf H=> bo (aF akf 0) λajj=> bo (aF akf 1) λv130=>
   bnd (C 115 [t0,t1,(I 3),ajj] H) λalf H=>
   jF C H)
   (bo (ah t7 0) λakD=> bnd (ld akD H) λakE H=> bo (bi .eql 3 akE (I 1)) λv138=>
   aI v138
   (bnd (C 115 [t0,t1,(I 1),v61] H) λalg H=>
    jF C H)
   (bnd (C 115 [t0,t1,(I 2),v61] H) λv75 H=>
    jF C H)))))
def Uk(C:Callee)(a0 a1 a2:AV)(H:aj):OA:=
 bo (aA a0) λv18=> bo (ah v18 1) λv19=> bnd (ld v19 H) λv20 H=> bnd (C 102 [v20] H) λv21 H=> bo (aF v21 0) λv22=> bo (aF v21 1) λv23=> bo (aF v21 2) λv24=> bnd (alc 86 [zI,zI,zI] H) λv7 H=> bnd (st 3 v7 v22 H) λ_ H=>
 bo (un .not v24) λv26=> gdA (some v26) false (aC (some a0) H) H λv28 H=> gdA (some v26) false (aC (aA v28) H) H λv29 H=> gdA (some v26) false (aC (ah v29 12) H) H λv30 H=> gdA (some v26) false (aC (ah v30 3) H) H λv31 H=> gdA (some v26) false (ld v31 H) H λv32 H=> gdA (some v26) false (aC (bi .neq 3 v32 (I 0)) H) H λv33 H=> bo (bg v26 (B true) v33) λv34=>
 aI v34
 (some ((B false),H))
 (bo (aA a0) λv36=> bo (ah v36 1) λv37=> bnd (ld v37 H) λv38 H=> bnd (C 45 [v38] H) λv39 H=> bo (un .not v39) λv40=>
  aI v40
  (bo (aA a0) λv42=> bo (ah v42 1) λv43=> bnd (ld v43 H) λv44 H=> bnd (C 112 [v44] H) λv45 H=>
  bo (aA a0) λv48=> bo (ah v48 10) λv49=> bnd (ld v49 H) λv50 H=> bnd (C 113 [a2,v50,v23] H) λv52 H=>
  lJ C a0 a1 a2 v7 H)
  (lJ C a0 a1 a2 v7 H))
theorem X9:Rn3 70 Uk:=λ_ _ _ _ _ _ h=>
 rnG ajh Tryz.func70 (by kernel_rfl) (by kernel_rfl) h
def afd(C:Callee)(a0 a1:AV)(H:aj):OA:=
 bnd (iC 3 a1 H) λv3 H=>
 bo (aA a0) λv6=> bo (ah v6 0) λv7=> bnd (ld v7 H) λv8 H=> bnd (C 119 [v8,(.fn (.func 120) [] [v3])] H) λv10 H=>
 some (v10,H)
theorem ajk:Rn2 71 afd:=λ_ _ _ _ _ h=>
 rnG an0 Tryz.func71 (by kernel_rfl) (by kernel_rfl) h
def afe(C:Callee)(a0:AV)(H:aj):OA:=
 bnd (iC 93 a0 H) λv1 H=> bnd (alc 93 [zI,zI,zI,zI,zB,zN] H) λv2 H=>
 bo (ah v1 5) λv3=> bnd (ld v3 H) λv4 H=> bnd (C 46 [v4] H) λv5 H=> bo (ah v1 5) λv6=> bnd (st 1 v6 v5 H) λ_ H=>
 bnd (lda 6 v1 H) λv7 H=> bnd (st 6 v2 v7 H) λ_ H=>
 bnd (lda 6 v2 H) λr0 _=> some (r0,H)
theorem ajl:Rn1 72 afe:=λ_ _ _ _ h=>
 rnG an0 Tryz.func72 (by kernel_rfl) (by kernel_rfl) h
def Ul(C:Callee)(a0 a1:AV)(H:aj):OA:=
 bnd (iC 93 a0 H) λv2 H=>
 bo (bi .geq 3 a1 (I 0)) λv6=> gdA (some v6) true (aC (some a1) H) H λv8 H=> gdA (some v6) true (aC (ah v2 5) H) H λv9 H=> gdA (some v6) true (ld v9 H) H λv10 H=> gdA (some v6) true (lnS v10 H) H λv11 H=> gdA (some v6) true (aC (bi .lss 3 v8 v11) H) H λv12 H=> bo (bg v6 v12 (B false)) λv13=>
 some (v13,H)
theorem aff:Rn2 73 Ul:=λ_ _ _ _ _ h=>
 rnG an0 Tryz.func73 (by kernel_rfl) (by kernel_rfl) h
def acg(C:Callee)(a0 a1:AV)(H:aj):OA:=
 bnd (alc 100 [zI,zI,zN] H) λv4 H=>
 bo (aA a0) λv10=> bo (ah v10 8) λv11=> bnd (ld v11 H) λv12 H=> bnd (lk .i64 (.agg #[.int .i64 0,.int .i64 0,.slice none 0 0]) v12 a1 true H) λv14 H=> bo (aF v14 0) λv15=> bo (aF v14 1) λv16=> bnd (alc 100 [zI,zI,zN] H) λv6 H=> bnd (st 3 v6 v15 H) λ_ H=>
 bo (ah v6 2) λv17=> bnd (ld v17 H) λv18 H=> bnd (C 46 [v18] H) λv19 H=> bo (ah v6 2) λv20=> bnd (st 1 v20 v19 H) λ_ H=>
 bnd (lda 3 v6 H) λv21 H=> bnd (st 3 v4 v21 H) λ_ H=>
 bnd (lda 3 v4 H) λr0 _=> some (.tup [r0,v16],H)
theorem ajm:Rn2 74 acg:=λ_ _ _ _ _ h=>
 rnG an0 Tryz.func74 (by kernel_rfl) (by kernel_rfl) h
def ach(C:Callee)(a0 a1:AV)(H:aj):OA:=
 bo (aA a0) λv9=> bo (ah v9 0) λv10=> bnd (ld v10 H) λv11 H=> bnd (lk .i64 (.int .i64 0) v11 a1 true H) λv13 H=> bo (aF v13 0) λv14=> bo (aF v13 1) λv15=>
 aI v15
 (some (v14,H))
 (some ((I (-1)),H))
theorem ajn:Rn2 75 ach:=λ_ _ _ _ _ h=>
 rnG an0 Tryz.func75 (by kernel_rfl) (by kernel_rfl) h
def afg(C:Callee)(a0:AV)(H:aj):OA:=
 bnd (iC 70 a0 H) λv1 H=> bnd (alc 70 [zI,zI,zI,zI,zI,zI,zI,zB,zN] H) λv2 H=>
 bo (ah v1 8) λv3=> bnd (ld v3 H) λv4 H=> bnd (C 46 [v4] H) λv5 H=> bo (ah v1 8) λv6=> bnd (st 1 v6 v5 H) λ_ H=>
 bnd (lda 9 v1 H) λv7 H=> bnd (st 9 v2 v7 H) λ_ H=>
 bnd (lda 9 v2 H) λr0 _=> some (r0,H)
theorem ajo:Rn1 82 afg:=λ_ _ _ _ h=>
 rnG an0 Tryz.func82 (by kernel_rfl) (by kernel_rfl) h
def afh:Ann:=⟨[(3,[0,1,2,3,8,9])],[(17,rF 15 [])],[]⟩
def FY:=lF Tryz.prog Tryz.f89 134 afh 0
def Me(C:Callee)(t0 t1 t2 t3 t8 t9:AV)(H:aj):OA:=
 FY C [t0,t1,t2,t3,t8,t9] H
def Um(C:Callee)(t0 t1 t2 t3 t8 t9 t10 t11:AV)(H:aj):OA:=
 bo (bi .gtr 3 t1 (I 0)) λv74=> gdA (some v74) true (aC (some t0) H) H λv76 H=> gdA (some v74) true (aC (some t1) H) H λv77 H=> gdA (some v74) true (aC (bi .sub 3 v77 (I 1)) H) H λv78 H=> gdA (some v74) true (ix 1 v76 v78 H) H λv79 H=> gdA (some v74) true (ld v79 H) H λv80 H=> gdA (some v74) true (aC (some t0) H) H λv81 H=> gdA (some v74) true (aC (some t11) H) H λv82 H=> gdA (some v74) true (ix 1 v81 v82 H) H λv83 H=> gdA (some v74) true (ld v83 H) H λv84 H=> gdA (some v74) true (C 134 [v80,v84] H) H λv85 H=> gdA (some v74) true (aC (un .not v85) H) H λv86 H=> bo (bg v74 v86 (B false)) λv87=>
 aI v87
 (bnd (C 135 [t0,t1,t2,t11] H) λv92 H=>
  Me C t0 v92 t2 t3 t8 t9 H)
 (bnd (C 136 [t0,t1,t2,t11] H) λv99 H=> bo (aF v99 0) λRk=> bo (aF v99 1) λWW=>
  bo (bi .sub 3 Rk t1) λv105=> bo (bi .sub 3 t2 Rk) λZX=>
  bo (bi .quo 3 t10 (I 8)) λakg=>
  bo (bi .lss 3 v105 ZX) λakF=>
  aI akF
  (bo (bi .geq 3 v105 akg) λakG=>
  bnd (C 89 [t0,t1,Rk,t3] H) λake H=>
  bo (bi .add 3 Rk (I 1)) λakH=>
  Me C t0 akH t2 t3 akG WW H)
  (bo (bi .geq 3 ZX akg) λaji=>
  bo (bi .add 3 Rk (I 1)) λajj=> bnd (C 89 [t0,ajj,t2,t3] H) λalh H=>
  Me C t0 t1 Rk t3 aji WW H))
def Un(C:Callee)(t0 t1 t2 t3 t8 t9 t10 t11 t12:AV)(H:aj):OA:=
 gdA (some t8) true (aC (some t9) H) H λv63 H=> bo (bg t8 v63 (B false)) λv64=> gdA (some v64) true (aC (some t12) H) H λv66 H=> gdA (some v64) true (aC (bi .eql 223 v66 (I 1)) H) H λv67 H=> bo (bg v64 v67 (B false)) λv68=>
 aI v68
 (bnd (C 133 [t0,t1,t2] H) λv72 H=>
  aI v72
  (some (.tup [],H))
  (Um C t0 t1 t2 t3 t8 t9 t10 t11 H))
 (Um C t0 t1 t2 t3 t8 t9 t10 t11 H)
def Uo(C:Callee)(t0 t1 t2 t3 t8 t9 t10:AV)(H:aj):OA:=
 bnd (C 131 [t0,t1,t2] H) λv46 H=> bo (aF v46 0) λv47=> bo (aF v46 1) λv48=>
 bo (bi .eql 223 v48 (I 2)) λv50=>
 aI v50
 (bnd (C 132 [t0,t1,t2] H) λv54 H=>
  bo (bi .sub 3 t2 (I 1)) λv56=> bo (bi .sub 3 v47 t1) λv59=> bo (bi .sub 3 v56 v59) λv60=>
  Un C t0 t1 t2 t3 t8 t9 t10 v60 (I 1) H)
 (Un C t0 t1 t2 t3 t8 t9 t10 v47 v48 H)
def afi(C:Callee)(a0 a1 a2 a3:AV)(H:aj):OA:=
 FY C [a0,a1,a2,a3,(B true),(B true)] H
theorem aci(C:Callee)(t0 t1 t2 t3 t8 t9:AV)(H:aj):FY C [t0,t1,t2,t3,t8,t9] H=
 bo (bi .sub 3 t2 t1) λv21=>
 bo (bi .leq 3 v21 (I 12)) λv23=>
 aI v23
 (bnd (C 128 [t0,t1,t2] H) λv27 H=>
  some (.tup [],H))
 (bo (bi .eql 3 t3 (I 0)) λv29=>
  aI v29
  (bnd (C 129 [t0,t1,t2] H) λv33 H=>
  some (.tup [],H))
  (bo (un .not t8) λv35=>
  aI v35
  (bnd (C 130 [t0,t1,t2] H) λv39 H=>
   bo (bi .sub 3 t3 (I 1)) λv41=>
   Uo C t0 t1 t2 v41 t8 t9 v21 H)
  (Uo C t0 t1 t2 t3 t8 t9 v21 H))):=
 lpE.trans (by kernel_rfl)
theorem ajp:Rn4 89 afi:=λ_ _ _ _ _ _ _ h=>
 rnG afh Tryz.func89 (by kernel_rfl) (by kernel_rfl) h
def afj(C:Callee)(a0:AV)(H:aj):OA:=
 aI (B false)
 (bnd (cv 176 230 a0 H) λv4 H=> bnd (C 137 [v4] H) λv5 H=>
  some (v5,H))
 (bnd (C 138 [a0] H) λv7 H=>
  some (v7,H))
theorem ajq:Rn1 90 afj:=λ_ _ _ _ h=>
 rnG an0 Tryz.func90 (by kernel_rfl) (by kernel_rfl) h
def acj(C:Callee)(a0:AV)(H:aj):OA:=
 bo (bi .eql 98 a0 (.s (Go.Value.slice none 0 0))) λv4=>
 aI v4
 (some ((.s (Go.Value.slice none 0 0)),H))
 (bnd (bs 98 0 [] H) λv5 H=> bnd (app 86 3 24 v5 a0 H) λv7 H=>
  some (v7,H))
theorem afk:Rn1 91 acj:=λ_ _ _ _ h=>
 rnG an0 Tryz.func91 (by kernel_rfl) (by kernel_rfl) h
def afl:Ann:=⟨[(4,[1,2,5,12,13])],[(6,rF 7 (some true::some false::some false::[]))],[]⟩
def FZ:=lF Tryz.prog Tryz.f92 32 afl 0
def F5(C:Callee)(t1 t2 t5 t12 t13:AV)(H:aj):OA:=
 bo (bi .add 3 t13 (I 1)) λv30=>
 FZ C [t1,t2,t5,t12,v30] H
def afm(C:Callee)(a0 a1:AV)(H:aj):OA:=
 bnd (iC 40 a0 H) λv2 H=>
 bnd (lda 8 v2 H) λv7 H=> bnd (mkm .i64 H) λv8 H=> bo (bd 205 [(0,v7),(1,v8)]) λv9=> bnd (iC 205 v9 H) λv10 H=>
 bo (ah v2 1) λv11=> bnd (ld v11 H) λv12 H=>
 FZ C [a1,v2,v10,v12,(I 0)] H
theorem Ur(C:Callee)(t1 t2 t5 t12 t13:AV)(H:aj):FZ C [t1,t2,t5,t12,t13] H=
 bo (bi .lss 3 t13 t12) λv14=>
 aI v14
 (bnd (lda 8 t2 H) λv16 H=> bnd (C 139 [v16,t13] H) λv18 H=> bo (bi .eql 3 v18 t1) λv20=>
  aI v20
  (bo (aA t5) λv22=> bo (ah v22 8) λv23=> bnd (ld v23 H) λv24 H=> bnd (lda 8 t2 H) λv26 H=> bnd (unG H (C 140 [v26,t13] H.guard)) λv28 H=> bo (bd 100 [(0,(I 0)),(1,(I (-1))),(2,v28)]) λv29=> bnd (mup .i64 v24 t13 v29 H) λ_ H=>
  F5 C t1 t2 t5 t12 t13 H)
  (F5 C t1 t2 t5 t12 t13 H))
 (some (t5,H)):=
 lpE.trans (by kernel_rfl)
theorem ajr:Rn2 92 afm:=λ_ _ _ _ _ h=>
 rnG afl Tryz.func92 (by kernel_rfl) (by kernel_rfl) h
def afn(C:Callee)(H:aj):OA:=
 bnd (mkm .i64 H) λv1 H=> bnd (mkm .i64 H) λv2 H=> bo (bd 209 [(0,v1),(1,v2)]) λv3=> bnd (iC 209 v3 H) λv4 H=>
 some (v4,H)
theorem ajs:Rn0 93 afn:=λ_ _ _ h=>
 rnG an0 Tryz.func93 (by kernel_rfl) (by kernel_rfl) h
def afo:Ann:=⟨[(7,[5,48,49,50])],[(4,rF 28 (some true::rF 6 []))],[]⟩
def F6:=lF Tryz.prog Tryz.f94 61 afo 0
def afp(C:Callee)(a0:AV)(H:aj):OA:=
 bnd (iC 70 a0 H) λv1 H=>
 bnd (lda 9 v1 H) λv8 H=> bnd (C 141 [v8] H) λv9 H=>
 bo (bi .neq 76 v9 (I 0)) λv11=>
 aI v11
 (some (.tup [(.s (Go.Value.slice none 0 0)),v9],H))
 (bo (ah v1 0) λv13=> bnd (ld v13 H) λv14 H=> bnd (cv 3 5 v14 H) λv15 H=> bo (ah v1 1) λv16=> bnd (ld v16 H) λv17 H=> bnd (cv 3 5 v17 H) λv18 H=> bo (ah v1 2) λv19=> bnd (ld v19 H) λv20 H=> bnd (cv 3 5 v20 H) λv21 H=> bo (ah v1 3) λv22=> bnd (ld v22 H) λv23 H=> bo (bi .shr 3 v23 (.s (Go.Value.int Go.IntKind.u64 8))) λv24=> bnd (cv 3 5 v24 H) λv25 H=> bo (ah v1 3) λv26=> bnd (ld v26 H) λv27 H=> bnd (cv 3 5 v27 H) λv28 H=> bo (ah v1 4) λv29=> bnd (ld v29 H) λv30 H=> bnd (cv 3 5 v30 H) λv31 H=> bo (ah v1 5) λv32=> bnd (ld v32 H) λv33 H=> bo (bi .add 3 v33 (I 1)) λv34=> bnd (cv 3 5 v34 H) λv35 H=> bo (ah v1 6) λv36=> bnd (ld v36 H) λv37 H=> bnd (cv 3 5 v37 H) λv38 H=> bo (ah v1 7) λv39=> bnd (ld v39 H) λv40 H=> bnd (unG H (C 142 [v40] H.guard)) λv41 H=> bo (ah v1 8) λv42=> bnd (ld v42 H) λv43 H=> bnd (lnS v43 H) λv44 H=> bnd (cv 3 5 v44 H) λv45 H=> bnd (bs 180 10 [(0,v15),(1,v18),(2,v21),(3,v25),(4,v28),(5,v31),(6,v35),(7,v38),(8,v41),(9,v45)] H) λv46 H=>
  bo (ah v1 8) λv47=> bnd (ld v47 H) λv48 H=> bnd (lnS v48 H) λv49 H=>
  F6 C [v46,v48,v49,(I 0)] H)
theorem Us(C:Callee)(t5 t48 t49 t50:AV)(H:aj):F6 C [t5,t48,t49,t50] H=
 bo (bi .lss 3 t50 t49) λv51=>
 aI v51
 (bnd (ix 1 t48 t50 H) λv52 H=> bnd (ld v52 H) λv53 H=>
  bnd (C 143 [v53] H) λv56 H=> bnd (app 5 1 1 t5 v56 H) λv57 H=>
  bo (bi .add 3 t50 (I 1)) λv58=>
  F6 C [v57,t48,t49,v58] H)
 (bnd (C 144 [t5] H) λv60 H=>
  some (.tup [v60,(I 0)],H)):=
 lpE.trans (by kernel_rfl)
theorem ajt:Rn1 94 afp:=λ_ _ _ _ h=>
 rnG afo Tryz.func94 (by kernel_rfl) (by kernel_rfl) h
def aju:Ann:=⟨[],[(4,rF 40 (none::some false::[]))],[]⟩
def acn:Code:=Tryz.f95.body.getD .skip
def afq(C:Callee)(a0:AV)(H:aj):OA:=
 bnd (alc 70 [zI,zI,zI,zI,zI,zI,zI,zB,zN] H) λv2 H=>
 bnd (C 145 [a0] H) λv12 H=> bo (aF v12 0) λv13=> bo (aF v12 1) λv14=>
 bo (un .not v14) λv16=> gdA (some v16) false (aC (some v13) H) H λv18 H=> gdA (some v16) false (lnS v18 H) H λv19 H=> gdA (some v16) false (aC (bi .lss 3 v19 (I 10)) H) H λv20 H=> bo (bg v16 (B true) v20) λv21=> gdA (some v21) false (aC (some v13) H) H λv23 H=> gdA (some v21) false (lnS v23 H) H λv24 H=> gdA (some v21) false (aC (some v13) H) H λv25 H=> gdA (some v21) false (ix 1 v25 (I 9) H) H λv26 H=> gdA (some v21) false (ld v26 H) H λv27 H=> gdA (some v21) false (cv 5 3 v27 H) H λv28 H=> gdA (some v21) false (aC (bi .mul 3 (I 8) v28) H) H λv29 H=> gdA (some v21) false (aC (bi .add 3 (I 10) v29) H) H λv30 H=> gdA (some v21) false (aC (bi .neq 3 v24 v30) H) H λv31 H=> bo (bg v21 (B true) v31) λv32=>
 aI v32
 (bo (bd 70 []) λv33=> bnd (st 9 v2 v33 H) λ_ H=>
  bnd (lda 9 v2 H) λr0 _=> some (.tup [r0,(I 2)],H))
 (bnd (alc 70 [zI,zI,zI,zI,zI,zI,zI,zB,zN] H) λv6 H=> bnd (ix 1 v13 (I 0) H) λv35 H=> bnd (ld v35 H) λv36 H=> bnd (cv 5 3 v36 H) λv37 H=> bnd (ix 1 v13 (I 1) H) λv39 H=> bnd (ld v39 H) λv40 H=> bnd (cv 5 3 v40 H) λv41 H=> bnd (ix 1 v13 (I 2) H) λv43 H=> bnd (ld v43 H) λv44 H=> bnd (cv 5 3 v44 H) λv45 H=> bnd (ix 1 v13 (I 3) H) λv47 H=> bnd (ld v47 H) λv48 H=> bnd (cv 5 3 v48 H) λv49 H=> bo (bi .shl 3 v49 (.s (Go.Value.int Go.IntKind.u64 8))) λv50=> bnd (ix 1 v13 (I 4) H) λv52 H=> bnd (ld v52 H) λv53 H=> bnd (cv 5 3 v53 H) λv54 H=> bo (bi .or 3 v50 v54) λv55=> bnd (ix 1 v13 (I 5) H) λv57 H=> bnd (ld v57 H) λv58 H=> bnd (cv 5 3 v58 H) λv59 H=> bnd (ix 1 v13 (I 6) H) λv61 H=> bnd (ld v61 H) λv62 H=> bnd (cv 5 3 v62 H) λv63 H=> bo (bi .sub 3 v63 (I 1)) λv64=> bnd (ix 1 v13 (I 7) H) λv66 H=> bnd (ld v66 H) λv67 H=> bnd (cv 5 3 v67 H) λv68 H=> bnd (ix 1 v13 (I 8) H) λv70 H=> bnd (ld v70 H) λv71 H=> bo (bi .eql 5 v71 (.s (Go.Value.int Go.IntKind.u8 1))) λv72=> bo (bd 70 [(0,v37),(1,v41),(2,v45),(3,v55),(4,v59),(5,v64),(6,v68),(7,v72)]) λv73=> bnd (st 9 v6 v73 H) λ_ H=>
  bo (slS 1 v13 (some (I 10)) none none) λv75=> bnd (C 146 [v75,(I 8)] H) λv76 H=>
  none)
theorem ajv:Rn1 95 afq:=λ_ _ _ _ h=>
 rnG aju Tryz.func95 (by kernel_rfl) (by kernel_rfl) h
def afr:Ann:=⟨[(4,[1,2,7,13,14])],[(7,rF 17 [])],[]⟩
def F9:=lF Tryz.prog Tryz.f96 45 afr 0
def xR(C:Callee)(t1 t2 t7 t13 t14:AV)(H:aj):OA:=
 bo (bi .add 3 t14 (I 1)) λv43=>
 F9 C [t1,t2,t7,t13,v43] H
def afs(C:Callee)(a0 a1 a2:AV)(H:aj):OA:=
 bnd (C 149 [a0] H) λv11 H=>
 bnd (lnS v11 H) λv13 H=>
 F9 C [a1,a2,v11,v13,(I 0)] H
theorem Ut(C:Callee)(t1 t2 t7 t13 t14:AV)(H:aj):F9 C [t1,t2,t7,t13,t14] H=
 bo (bi .lss 3 t14 t13) λv15=>
 aI v15
 (bo (bi .mul 3 (I 8) t14) λv18=> bo (bi .sub 3 v18 t1) λv20=>
  bo (bi .leq 3 v20 (I (-8))) λv22=> gdA (some v22) false (aC (some v20) H) H λv24 H=> gdA (some v22) false (aC (bi .geq 3 v24 (I 16)) H) H λv25 H=> bo (bg v22 (B true) v25) λv26=>
  aI v26
  (xR C t1 t2 t7 t13 t14 H)
  (bnd (ix 1 t7 t14 H) λv31 H=> bnd (ld v31 H) λv32 H=> bnd (cv 33 230 t2 H) λv34 H=> bo (bi .shl 230 v34 (.s (Go.Value.int Go.IntKind.u64 8))) λv35=> bo (bi .add 3 v20 (I 8)) λv37=> bo (bi .shl 230 v35 v37) λv38=> bo (bi .shr 230 v38 (.s (Go.Value.int Go.IntKind.u64 24))) λv39=> bnd (cv 230 5 v39 H) λv40 H=> bo (bi .xor 5 v32 v40) λv41=> bnd (ix 1 t7 t14 H) λv42 H=> bnd (st 1 v42 v41 H) λ_ H=>
  xR C t1 t2 t7 t13 t14 H))
 (some (t7,H)):=
 lpE.trans (by kernel_rfl)
theorem ajw:Rn3 96 afs:=λ_ _ _ _ _ _ h=>
 rnG afr Tryz.func96 (by kernel_rfl) (by kernel_rfl) h
def ajx:Ann:=⟨[],[(1,rF 11 [])],[]⟩
def afu(C:Callee)(a0:AV)(H:aj):OA:=
 bo (aA a0) λv4=> bo (ah v4 1) λv5=> bnd (ld v5 H) λv6 H=> bo (aA a0) λv8=> bo (ah v8 0) λv9=> bnd (ld v9 H) λv10 H=> bnd (lnS v10 H) λv11 H=> bo (bi .sub 3 v6 v11) λv12=>
 some (v12,H)
theorem ajy:Rn1 97 afu:=λ_ _ _ _ h=>
 rnG ajx Tryz.func97 (by kernel_rfl) (by kernel_rfl) h
def afv(C:Callee)(a0:AV)(H:aj):OA:=
 bnd (iC 70 a0 H) λv1 H=> bnd (alc 70 [zI,zI,zI,zI,zI,zI,zI,zB,zN] H) λv2 H=>
 bo (ah v1 8) λv3=> bnd (ld v3 H) λv4 H=> bnd (C 46 [v4] H) λv5 H=> bo (ah v1 8) λv6=> bnd (st 1 v6 v5 H) λ_ H=>
 bnd (lda 9 v1 H) λv7 H=> bnd (st 9 v2 v7 H) λ_ H=>
 bnd (lda 9 v2 H) λr0 _=> some (r0,H)
theorem ajz:Rn1 98 afv:=λ_ _ _ _ h=>
 rnG an0 Tryz.func98 (by kernel_rfl) (by kernel_rfl) h
def ajA:Ann:=⟨[],[(5,rF 8 [])],[]⟩
def afw(C:Callee)(a0 a1 a2:AV)(H:aj):OA:=
 bnd (lnS a0 H) λv12 H=> bo (slS 9 a0 (some a1) (some a2) (some v12)) λv13=>
 bo (bi .eql 3 a1 a2) λv16=>
 aI v16
 (some (a0,H))
 (bnd (lnS a0 H) λv19 H=>
  bo (slS 9 a0 none (some a1) none) λv22=> bo (slS 9 a0 (some a2) none none) λv25=> bnd (app 70 9 88 v22 v25 H) λv26 H=>
  bnd (lnS v26 H) λv29 H=> bo (slS 9 v26 (some v29) (some v19) none) λv31=> bnd (clr 9 [zI,zI,zI,zI,zI,zI,zI,zB,zN] v31 H) λ_ H=>
  some (v26,H))
theorem ajB:Rn3 99 afw:=λ_ _ _ _ _ _ h=>
 rnG ajA Tryz.func99 (by kernel_rfl) (by kernel_rfl) h
def ZY(C:Callee)(a0 a1:AV)(H:aj):OA:=
 bnd (alc 70 [zI,zI,zI,zI,zI,zI,zI,zB,zN] H) λv4 H=>
 bnd (C 150 [a0,a1,(B false)] H) λv8 H=> bo (aF v8 0) λv9=> bo (aF v8 1) λv10=> bnd (st 9 v4 v9 H) λ_ H=>
 bnd (lda 9 v4 H) λr0 _=> some (.tup [r0,v10],H)
theorem afx:Rn2 100 ZY:=λ_ _ _ _ _ h=>
 rnG an0 Tryz.func100 (by kernel_rfl) (by kernel_rfl) h
def afy:Ann:=⟨[],[(3,rF 18 []),(5,rF 18 []),(7,rF 18 [])],[]⟩
def Ji(C:Callee)(a0 a1:AV)(H:aj):OA:=
 bnd (iC 70 a1 H) λv3 H=> bnd (alc 57 [zI,zI,zI,zI,zI,zI,zN,zI,zI] H) λv4 H=>
 bo (aA a0) λv7=> bo (ah v7 12) λv8=> bo (ah v8 0) λv9=> bnd (ld v9 H) λv10 H=>
 bo (bi .eql 3 v10 (I 1)) λv12=>
 aI v12
 (bo (aA a0) λv14=> bo (ah v14 12) λv15=> bnd (lda 9 v15 H) λv16 H=> bo (aA a0) λv18=> bo (ah v18 10) λv19=> bnd (ld v19 H) λv20 H=> bo (aA a0) λv22=> bo (ah v22 0) λv23=> bnd (ld v23 H) λv24 H=> bnd (lda 9 v3 H) λv25 H=> bnd (C 151 [v16,v20,v24,v25] H) λv26 H=> bo (aF v26 0) λv27=> bo (aF v26 1) λv28=> bnd (st 9 v4 v27 H) λ_ H=>
  bnd (lda 9 v4 H) λr0 _=> some (.tup [r0,v28],H))
 (bo (bi .eql 3 v10 (I 2)) λv30=>
  aI v30
  (bo (aA a0) λv32=> bo (ah v32 12) λv33=> bnd (lda 9 v33 H) λv34 H=> bo (aA a0) λv36=> bo (ah v36 10) λv37=> bnd (ld v37 H) λv38 H=> bo (aA a0) λv40=> bo (ah v40 0) λv41=> bnd (ld v41 H) λv42 H=> bnd (lda 9 v3 H) λv43 H=> bnd (C 152 [v34,v38,v42,v43] H) λv44 H=> bo (aF v44 0) λv45=> bo (aF v44 1) λv46=> bnd (st 9 v4 v45 H) λ_ H=>
  bnd (lda 9 v4 H) λr0 _=> some (.tup [r0,v46],H))
  (bo (bi .eql 3 v10 (I 3)) λv48=>
  aI v48
  (bo (aA a0) λv50=> bo (ah v50 12) λv51=> bnd (lda 9 v51 H) λv52 H=> bo (aA a0) λv54=> bo (ah v54 10) λv55=> bnd (ld v55 H) λv56 H=> bo (aA a0) λv58=> bo (ah v58 0) λv59=> bnd (ld v59 H) λv60 H=> bnd (lda 9 v3 H) λv61 H=> bnd (C 153 [v52,v56,v60,v61] H) λv62 H=> bo (aF v62 0) λv63=> bo (aF v62 1) λv64=> bnd (st 9 v4 v63 H) λ_ H=>
   bnd (lda 9 v4 H) λr0 _=> some (.tup [r0,v64],H))
  (bo (bd 57 []) λv65=> bnd (st 9 v4 v65 H) λ_ H=>
   bnd (lda 9 v4 H) λr0 _=> some (.tup [r0,(B false)],H))))
theorem Ox:Rn2 101 Ji:=λ_ _ _ _ _ h=>
 rnG afy Tryz.func101 (by kernel_rfl) (by kernel_rfl) h
def afz:Ann:=⟨[],[(3,rF 19 [])],[(3,[(14,16),(15,16)])]⟩
def Uu(C:Callee)(a0:AV)(H:aj):OA:=
 bnd (alc 86 [zI,zI,zI] H) λv2 H=>
 bnd (C 19 [a0] H) λv6 H=> bo (bi .eql 3 v6 (I 0)) λv7=>
 aI v7
 (bo (bd 86 []) λv8=> bnd (st 3 v2 v8 H) λ_ H=>
  bnd (lda 3 v2 H) λr0 _=> some (.tup [r0,(I 0),(B false)],H))
 (bo (aA a0) λv10=> bo (ah v10 0) λv11=> bnd (ld v11 H) λv12 H3=> bo (aA a0) λv14=> bo (ah v14 1) λv15=> bnd (ld v15 H3) λv16 H7=> bnd (lnS v16 H7) λv17 H8=> bnd (ix 3 v12 v17 H8) λv18 H9=> bnd (lda 3 v18 H9) λv19 H10=> bo (aA a0) λv21=> bo (ah v21 1) λv22=> bnd (ld v22 H10) λv23 H14=> bnd (lnS v23 H14) λv24 H15=> bnd (st 3 v2 v19 H15) λ_ H16=> ck (aS v22) H15 H16 <| ck (aS v23) H15 H16 <|
  bnd (lda 3 v2 H16) λr0 _=> some (.tup [r0,v24,(B true)],H16))
theorem afA:Rn1 102 Uu:=λ_ _ _ _ h=>
 rnG afz Tryz.func102 (by kernel_rfl) (by kernel_rfl) h
def Z4(C:Callee)(a0 a1 a2:AV)(H:aj):OA:=
 bo (aA a0) λv11=> bo (ah v11 1) λv12=> bnd (ld v12 H) λv13 H=> bnd (C 102 [v13] H) λv14 H=> bo (aF v14 0) λv15=> bo (aF v14 1) λv16=> bo (aF v14 2) λv17=> bnd (alc 86 [zI,zI,zI] H) λv6 H=> bnd (st 3 v6 v15 H) λ_ H=>
 bo (aA a0) λv19=> bo (ah v19 1) λv20=> bnd (ld v20 H) λv21 H=> bnd (C 154 [v21,a2] H) λv23 H=>
 bo (aA a0) λv26=> bo (ah v26 10) λv27=> bnd (ld v27 H) λv28 H=> bnd (C 155 [a1,v28,v16,a2] H) λv31 H=>
 some (.tup [],H)
theorem afB:Rn3 103 Z4:=λ_ _ _ _ _ _ h=>
 rnG an0 Tryz.func103 (by kernel_rfl) (by kernel_rfl) h
def afC:Ann:=⟨[],[(1,rF 12 []),(9,rF 6 [])],[]⟩
def zl(C:Callee)(t0 t1 t11:AV)(H:aj):OA:=
 bnd (C 103 [t0,t1,t11] H) λv71 H=>
 some (.tup [],H)
def ql(C:Callee)(t0 t1 t4 t9 t11:AV)(H:aj):OA:=
 bo (aA t0) λv60=> bo (ah v60 0) λv61=> bnd (ld v61 H) λv62 H=> bnd (lda 6 t9 H) λv63 H=> bnd (C 157 [v62,v63] H) λv64 H=>
 bo (ah t4 0) λv65=> bnd (ld v65 H) λv66 H=> bo (bi .eql 3 v66 (I 2)) λv67=>
 aI v67
 (zl C t0 t1 (I 0) H)
 (zl C t0 t1 t11 H)
def Oy(C:Callee)(a0 a1:AV)(H:aj):OA:=
 bo (aA a0) λv14=> bo (ah v14 1) λv15=> bnd (ld v15 H) λv16 H=> bnd (C 102 [v16] H) λv17 H=> bo (aF v17 0) λv18=> bo (aF v17 1) λv19=> bo (aF v17 2) λv20=> bnd (alc 86 [zI,zI,zI] H) λv4 H=> bnd (st 3 v4 v18 H) λ_ H=>
 bo (aA a0) λv23=> bo (ah v23 2) λv24=> bnd (lda 8 v24 H) λv25 H=> bo (ah v4 1) λv26=> bnd (ld v26 H) λv27 H=> bnd (C 114 [v25,v27] H) λv28 H=> bo (aF v28 0) λv29=> bo (aF v28 1) λv30=>
 bo (aA a0) λv33=> bo (ah v33 0) λv34=> bnd (ld v34 H) λv35 H=> bnd (C 37 [v35,v29] H) λv37 H=> bo (aF v37 0) λv38=> bo (aF v37 1) λv39=> bnd (alc 93 [zI,zI,zI,zI,zB,zN] H) λv9 H=> bnd (st 6 v9 v38 H) λ_ H=>
 bnd (lda 6 v9 H) λv40 H=> bnd (C 38 [v40,v30] H) λv42 H=>
 bo (ah v4 0) λv43=> bnd (ld v43 H) λv44 H=>
 bo (bi .eql 3 v44 (I 2)) λv46=>
 aI v46
 (bo (ah v4 2) λv48=> bnd (ld v48 H) λv49 H=> bnd (C 156 [v9,v30,v49] H) λv50 H=>
  ql C a0 a1 v4 v9 v42 H)
 (bo (bi .eql 3 v44 (I 3)) λv52=>
  aI v52
  (bo (ah v4 2) λv55=> bnd (ld v55 H) λv56 H=> bo (bi .add 3 v42 v56) λv57=> bnd (C 156 [v9,v30,v57] H) λv58 H=>
  ql C a0 a1 v4 v9 v42 H)
  (ql C a0 a1 v4 v9 v42 H))
theorem Uw:Rn2 104 Oy:=λ_ _ _ _ _ h=>
 rnG afC Tryz.func104 (by kernel_rfl) (by kernel_rfl) h
def afD:Ann:=⟨[],[(0,rF 18 (some true::some false::some false::[]))],[]⟩
def Z5(C:Callee)(a0 a1:AV)(H:aj):OA:=
 bo (aA a0) λv6=> bo (ah v6 12) λv7=> bnd (lda 9 v7 H) λv8 H=> bo (aA a0) λv10=> bo (ah v10 10) λv11=> bnd (ld v11 H) λv12 H=> bo (aA a0) λv14=> bo (ah v14 2) λv15=> bnd (lda 8 v15 H) λv16 H=> bo (aA a0) λv18=> bo (ah v18 12) λv19=> bo (ah v19 1) λv20=> bnd (ld v20 H) λv21 H=> bnd (unG H (C 139 [v16,v21] H.guard)) λv22 H=> bnd (C 158 [v8,v12,v22] H) λv23 H=> bnd (C 109 [a1,v23] H) λv24 H=>
 some (.tup [],H)
theorem afE:Rn2 105 Z5:=λ_ _ _ _ _ h=>
 rnG afD Tryz.func105 (by kernel_rfl) (by kernel_rfl) h
def Ux(C:Callee)(a0:AV)(H:aj):OA:=
 bo (aA a0) λv4=> bo (ah v4 1) λv5=> bnd (ld v5 H) λv6 H=> bnd (C 159 [v6] H) λv7 H=> bnd (lnS v7 H) λv8 H=> bo (bi .gtr 3 v8 (I 0)) λv9=>
 some (v9,H)
theorem afF:Rn1 106 Ux:=λ_ _ _ _ h=>
 rnG an0 Tryz.func106 (by kernel_rfl) (by kernel_rfl) h
def Uy(C:Callee)(a0 a1 a2:AV)(H:aj):OA:=
 bnd (C 50 [a0,a1] H) λv9 H=> bo (un .not v9) λv10=>
 aI v10
 (some ((I 0),H))
 (bo (aA a0) λv12=> bo (ah v12 0) λv13=> bnd (ld v13 H) λv14 H=> bnd (ix 4 v14 a1 H) λv16 H=> bnd (lda 4 v16 H) λv17 H=> bnd (C 63 [v17,a2] H) λv19 H=> bo (fl v19 0) λv20=> bnd (C 160 [v20] H) λv21 H=>
  some (v21,H))
theorem afG:Rn3 107 Uy:=λ_ _ _ _ _ _ h=>
 rnG an0 Tryz.func107 (by kernel_rfl) (by kernel_rfl) h
def Z7:Ann:=⟨[(3,[0,2,13,14,15])],[],[]⟩
def Gf:=lF Tryz.prog Tryz.f108 37 Z7 0
def Uz(C:Callee)(a0:AV)(H:aj):OA:=
 bnd (alc 70 [zI,zI,zI,zI,zI,zI,zI,zB,zN] H) λv2 H=>
 bo (aA a0) λv10=> bo (ah v10 1) λv11=> bnd (ld v11 H) λv12 H=> bnd (C 159 [v12] H) λv13 H=> bnd (lnS v13 H) λv14 H=>
 Gf C [a0,v2,v13,v14,(I 0)] H
theorem Oz(C:Callee)(t0 t2 t13 t14 t15:AV)(H:aj):Gf C [t0,t2,t13,t14,t15] H=
 bo (bi .lss 3 t15 t14) λv16=>
 aI v16
 (bnd (ix 1 t13 t15 H) λv17 H=> bnd (ld v17 H) λv18 H=>
  bo (aA t0) λv21=> bo (ah v21 1) λv22=> bnd (ld v22 H) λv23 H=> bnd (C 161 [v23,v18] H) λv25 H=> bo (aF v25 0) λv26=> bo (aF v25 1) λv27=> bo (aF v25 2) λv28=>
  aI v28
  (bnd (C 162 [t0,v18,v26,v27] H) λv34 H=> bnd (st 9 t2 v34 H) λ_ H=>
  bnd (lda 9 t2 H) λr0 _=> some (.tup [r0,(B true)],H))
  (bo (bi .add 3 t15 (I 1)) λv35=>
  Gf C [t0,t2,t13,t14,v35] H))
 (bo (bd 70 []) λv36=> bnd (st 9 t2 v36 H) λ_ H=>
  bnd (lda 9 t2 H) λr0 _=> some (.tup [r0,(B false)],H)):=
 lpE.trans (by kernel_rfl)
theorem afH:Rn1 108 Uz:=λ_ _ _ _ h=>
 rnG Z7 Tryz.func108 (by kernel_rfl) (by kernel_rfl) h
def afI:Ann:=⟨[],[(3,rF 10 (some true::some true::rF 4 []))],[]⟩
def Jj(C:Callee)(a0 a1:AV)(H:aj):OA:=
 bnd (iC 70 a1 H) λv3 H=>
 bnd (lda 9 v3 H) λv5 H=> bnd (C 141 [v5] H) λv6 H=> bo (bi .neq 76 v6 (I 0)) λv7=> gdA (some v7) false (aC (some a0) H) H λv9 H=> gdA (some v7) false (aC (ah v3 1) H) H λv10 H=> gdA (some v7) false (ld v10 H) H λv11 H=> gdA (some v7) false (C 50 [v9,v11] H) H λv12 H=> gdA (some v7) false (aC (un .not v12) H) H λv13 H=> bo (bg v7 (B true) v13) λv14=> gdA (some v14) false (aC (some a0) H) H λv16 H=> gdA (some v14) false (aC (ah v3 2) H) H λv17 H=> gdA (some v14) false (ld v17 H) H λv18 H=> gdA (some v14) false (C 50 [v16,v18] H) H λv19 H=> gdA (some v14) false (aC (un .not v19) H) H λv20 H=> bo (bg v14 (B true) v20) λv21=>
 aI v21
 (some ((I 1),H))
 (bo (aA a0) λv23=> bo (ah v23 0) λv24=> bnd (ld v24 H) λv25 H=> bo (ah v3 1) λv26=> bnd (ld v26 H) λv27 H=> bnd (ix 4 v25 v27 H) λv28 H=> bnd (lda 4 v28 H) λv29 H=> bo (ah v3 0) λv30=> bnd (ld v30 H) λv31 H=> bnd (unG H (C 64 [v31] H.guard)) λv32 H=> bnd (unG H (C 63 [v29,v32] H.guard)) λv33 H=> bo (fl v33 0) λv34=> bnd (lda 9 v3 H) λv35 H=> bnd (C 163 [v34,v35] H) λv36 H=>
  some (v36,H))
theorem Z8:Rn2 109 Jj:=λ_ _ _ _ _ h=>
 rnG afI Tryz.func109 (by kernel_rfl) (by kernel_rfl) h
def Z9(C:Callee)(a0 a1:AV)(H:aj):OA:=
 bnd (alc 70 [zI,zI,zI,zI,zI,zI,zI,zB,zN] H) λv4 H=>
 bnd (C 150 [a0,a1,(B true)] H) λv8 H=> bo (aF v8 0) λv9=> bo (aF v8 1) λv10=> bnd (st 9 v4 v9 H) λ_ H=>
 bnd (lda 9 v4 H) λr0 _=> some (.tup [r0,v10],H)
theorem afJ:Rn2 110 Z9:=λ_ _ _ _ _ h=>
 rnG an0 Tryz.func110 (by kernel_rfl) (by kernel_rfl) h
def afK:Ann:=⟨[],[(2,rF 11 (none::rF 3 [])),(4,rF 9 (none::some false::some false::[]))],[(2,[(11,6)]),(4,[(9,5)])]⟩
def Ee(C:Callee)(a0 a1:AV)(H:aj):OA:=
 bnd (iC 70 a1 H) λv3 H=> bnd (alc 70 [zI,zI,zI,zI,zI,zI,zI,zB,zN] H) λv4 H=>
 bo (ah v3 0) λv11=> bnd (ld v11 H) λv12 H=> bo (bi .eql 3 v12 (I 1)) λv13=> gdA (some v13) false (aC (ah v3 0) H) H λv15 H=> gdA (some v13) false (ld v15 H) H λv16 H=> gdA (some v13) false (aC (bi .eql 3 v16 (I 2)) H) H λv17 H=> bo (bg v13 (B true) v17) λv18=>
 aI v18
 (bnd (alc 70 [zI,zI,zI,zI,zI,zI,zI,zB,zN] H) λv6 H11=> bo (aA a0) λv21=> bo (ah v21 11) λv22=> bo (ah v22 0) λv23=> bnd (ld v23 H11) λv24 H4=> bnd (lda 9 v3 H4) λv25 H5=> bnd (C 164 [v24,v25] H5) λv26 H6=> bo (aF v26 0) λv27=> bo (aF v26 1) λv28=> bo (aF v26 2) λv29=> bnd (st 9 v6 v27 H6) λ_ H12=> ckR H.next H11.next H5 H6 <|
  bnd (lda 9 v6 H12) λv30 H12=> gdA (some v28) true (aC (some v29) H12) H12 λv33 H12=> gdA (some v28) true (aC (bi .eql 76 v33 (I 0)) H12) H12 λv34 H12=> bo (bg v28 v34 (B false)) λv35=> bnd (st 9 v4 v30 H12) λ_ H12=>
  bnd (lda 9 v4 H12) λr0 _=> some (.tup [r0,v35],H12))
 (bnd (alc 70 [zI,zI,zI,zI,zI,zI,zI,zB,zN] H) λv9 ah9=> bo (aA a0) λv38=> bo (ah v38 0) λv39=> bnd (ld v39 ah9) λv40 ads=> bnd (lda 9 v3 ads) λv41 afL=> bnd (C 165 [v40,v41] afL) λv42 afM=> bo (aF v42 0) λv43=> bo (aF v42 1) λv44=> bnd (st 9 v9 v43 afM) λ_ QD=> ckR H.next ah9.next afL afM <|
  bnd (lda 9 v9 QD) λv45 QD=> bo (bi .eql 76 v44 (I 0)) λv47=> bnd (st 9 v4 v45 QD) λ_ QD=>
  bnd (lda 9 v4 QD) λr0 _=> some (.tup [r0,v47],QD))
theorem aac:Rn2 111 Ee:=λ_ _ _ _ _ h=>
 rnG afK Tryz.func111 (by kernel_rfl) (by kernel_rfl) h
def OB(C:Callee)(a0:AV)(H:aj):OA:=
 bo (aA a0) λv4=> bo (ah v4 2) λv5=> bnd (ld v5 H) λv6 H=> gdA (some v6) false (aC (some a0) H) H λv8 H=> gdA (some v6) false (C 19 [v8] H) H λv9 H=> gdA (some v6) false (aC (bi .eql 3 v9 (I 0)) H) H λv10 H=> bo (bg v6 (B true) v10) λv11=>
 aI v11
 (some ((I 6),H))
 (bo (aA a0) λv13=> bo (ah v13 2) λv14=> bnd (st 1 v14 (B true) H) λ_ H=>
  some ((I 0),H))
theorem UA:Rn1 112 OB:=λ_ _ _ _ h=>
 rnG an0 Tryz.func112 (by kernel_rfl) (by kernel_rfl) h
def aad(C:Callee)(a0 a1 a2:AV)(H:aj):OA:=
 bo (aA a0) λv8=> bo (ah v8 0) λv9=> bnd (ld v9 H) λv10 H=> bo (bd 51 [(0,a1),(1,a2)]) λv13=> bnd (bs 48 1 [(0,v13)] H) λv14 H=> bnd (app 51 4 32 v10 v14 H) λv15 H=> bo (aA a0) λv16=> bo (ah v16 0) λv17=> bnd (st 1 v17 v15 H) λ_ H=>
 some (.tup [],H)
theorem afN:Rn3 113 aad:=λ_ _ _ _ _ _ h=>
 rnG an0 Tryz.func113 (by kernel_rfl) (by kernel_rfl) h
def afO:Ann:=⟨[],[(3,rF 10 [])],[]⟩
def OC(C:Callee)(a0 a1:AV)(H:aj):OA:=
 bnd (iC 40 a0 H) λv2 H=>
 bo (bi .lss 3 a1 (I 0)) λv7=> gdA (some v7) false (aC (some a1) H) H λv9 H=> gdA (some v7) false (lda 8 v2 H) H λv10 H=> gdA (some v7) false (C 166 [v10] H) H λv11 H=> gdA (some v7) false (aC (bi .geq 3 v9 v11) H) H λv12 H=> bo (bg v7 (B true) v12) λv13=>
 aI v13
 (some (.tup [(I (-1)),(I 0)],H))
 (bo (ah v2 2) λv15=> bnd (ld v15 H) λv16 H=> bo (bi .quo 3 a1 v16) λv17=> bo (ah v2 2) λv19=> bnd (ld v19 H) λv20 H=> bo (bi .rem 3 a1 v20) λv21=>
  some (.tup [v17,v21],H))
theorem afP:Rn2 114 OC:=λ_ _ _ _ _ h=>
 rnG afO Tryz.func114 (by kernel_rfl) (by kernel_rfl) h
def aae(C:Callee)(a0 a1 a2 a3:AV)(H:aj):OA:=
 bo (aA a0) λv12=> bo (ah v12 21) λv13=> bnd (ld v13 H) λv14 H=> bnd (C 167 [a2,a3,v14] H) λv15 H=> bo (aA a0) λv16=> bo (ah v16 12) λv17=> bnd (st 9 v17 v15 H) λ_ H=>
 bo (aA a0) λv20=> bo (ah v20 21) λv21=> bnd (ld v21 H) λv22 H=> bo (bi .add 3 v22 (I 1)) λv23=> bo (bi .rem 3 v23 (I 4096)) λv24=> bo (aA a0) λv25=> bo (ah v25 21) λv26=> bnd (st 1 v26 v24 H) λ_ H=>
 bnd (C 105 [a0,a1] H) λv29 H=>
 some (.tup [],H)
theorem afQ:Rn4 115 aae:=λ_ _ _ _ _ _ _ h=>
 rnG an0 Tryz.func115 (by kernel_rfl) (by kernel_rfl) h
def afR:Ann:=⟨[],[(5,rF 12 [])],[]⟩
def UC(C:Callee)(a0 a1:AV)(H:aj):OA:=
 bnd (C 71 [a0,a1] H) λv8 H=>
 bo (bi .lss 3 v8 (I 0)) λv10=>
 aI v10
 (some ((B false),H))
 (bo (aA a0) λv12=> bo (ah v12 3) λv13=> bnd (ld v13 H) λv14 H=> bo (bi .add 3 v14 (I 1)) λv15=> bo (aA a0) λv16=> bo (ah v16 3) λv17=> bnd (st 1 v17 v15 H) λ_ H=>
  bo (aA a0) λv19=> bo (ah v19 0) λv20=> bnd (ld v20 H) λv21 H=> bo (aA a0) λv24=> bo (ah v24 3) λv25=> bnd (ld v25 H) λv26 H=> bnd (ix 6 v21 v8 H) λv27 H=> bo (ah v27 3) λv28=> bnd (st 1 v28 v26 H) λ_ H=>
  some ((B true),H))
theorem afS:Rn2 116 UC:=λ_ _ _ _ _ h=>
 rnG afR Tryz.func116 (by kernel_rfl) (by kernel_rfl) h
def afT:Ann:=⟨[],[(1,rF 7 (some true::rF 8 []))],[]⟩
def UD(C:Callee)(a0 a1:AV)(H:aj):OA:=
 bnd (C 71 [a0,a1] H) λv7 H=> bo (bi .lss 3 v7 (I 0)) λv8=> gdA (some v8) true (aC (some a0) H) H λv10 H=> gdA (some v8) true (aC (some a1) H) H λv11 H=> gdA (some v8) true (unG H (C 168 [v10,v11] H.guard)) H λv12 H=> gdA (some v8) true (lnS v12 H) H λv13 H=> gdA (some v8) true (aC (some a0) H) H λv14 H=> gdA (some v8) true (aC (aA v14) H) H λv15 H=> gdA (some v8) true (aC (ah v15 2) H) H λv16 H=> gdA (some v8) true (ld v16 H) H λv17 H=> gdA (some v8) true (aC (bi .geq 3 v13 v17) H) H λv18 H=> bo (bg v8 v18 (B false)) λv19=>
 some (v19,H)
theorem afU:Rn2 117 UD:=λ_ _ _ _ _ h=>
 rnG afT Tryz.func117 (by kernel_rfl) (by kernel_rfl) h
def UE(C:Callee)(a0 a1:AV)(H:aj):OA:=
 bnd (C 168 [a0,a1] H) λv9 H=>
 bnd (lnS v9 H) λv11 H=> bo (bi .eql 3 v11 (I 0)) λv12=>
 aI v12
 (some (.tup [(I 0),(B false)],H))
 (bnd (C 169 [v9,(.fn (.func 170) [] [])] H) λv14 H=> bo (fl v14 2) λv15=>
  some (.tup [v15,(B true)],H))
theorem afV:Rn2 118 UE:=λ_ _ _ _ _ h=>
 rnG an0 Tryz.func118 (by kernel_rfl) (by kernel_rfl) h
def aaf:Ann:=⟨[(3,[0,1,7,8])],[],[]⟩
def zo:=lF Tryz.prog Tryz.f119 19 aaf 0
def aag(C:Callee)(a0 a1:AV)(H:aj):OA:=
 bnd (lnS a0 H) λv7 H=>
 zo C [a0,a1,v7,(I 0)] H
theorem OD(C:Callee)(t0 t1 t7 t8:AV)(H:aj):zo C [t0,t1,t7,t8] H=
 bo (bi .lss 3 t8 t7) λv9=>
 aI v9
 (bnd (ix 6 t0 t8 H) λv14 H=> bnd (lda 6 v14 H) λv15 H=> bnd (uz Tryz.prog C t1 [v15] H) λv16 H=>
  aI v16
  (some (t8,H))
  (bo (bi .add 3 t8 (I 1)) λv18=>
  zo C [t0,t1,t7,v18] H))
 (some ((I (-1)),H)):=
 lpE.trans (by kernel_rfl)
theorem afW:Rn2 119 aag:=λ_ _ _ _ _ h=>
 rnG aaf Tryz.func119 (by kernel_rfl) (by kernel_rfl) h
def aah(C:Callee)(a0 a1:AV)(H:aj):OA:=
 bnd (iC 93 a0 H) λv2 H=>
 bo (ah v2 2) λv4=> bnd (ld v4 H) λv5 H=> bnd (ld a1 H) λv6 H=> bo (bi .eql 3 v5 v6) λv7=>
 some (v7,H)
theorem afX:Rn2 120 aah:=λ_ _ _ _ _ h=>
 rnG an0 Tryz.func120 (by kernel_rfl) (by kernel_rfl) h
def UF:Ann:=⟨[(2,[0,1,2,6]),(5,[0,1,2,6,7])],[(4,rF 15 []),(6,rF 18 [])],[]⟩
def qm:=lF Tryz.prog Tryz.f128 49 UF 0
def zq:=lF Tryz.prog Tryz.f128 49 UF 1
def UG(C:Callee)(a0 a1 a2:AV)(H:aj):OA:=
 bo (bi .add 3 a1 (I 1)) λv9=>
 qm C [a0,a1,a2,v9] H
theorem Gg(C:Callee)(t0 t1 t2 t6:AV)(H:aj):qm C [t0,t1,t2,t6] H=
 bo (bi .lss 3 t6 t2) λv12=>
 aI v12
 (zq C [t0,t1,t2,t6,t6] H)
 (some (.tup [],H)):=
 lpE.trans (by kernel_rfl)
theorem OE(C:Callee)(t0 t1 t2 t6 t7:AV)(H:aj):zq C [t0,t1,t2,t6,t7] H=
 bo (bi .gtr 3 t7 t1) λv18=> gdA (some v18) true (aC (some t0) H) H λv20 H=> gdA (some v18) true (aC (some t7) H) H λv21 H=> gdA (some v18) true (ix 1 v20 v21 H) H λv22 H=> gdA (some v18) true (ld v22 H) H λv23 H=> gdA (some v18) true (aC (some t0) H) H λv24 H=> gdA (some v18) true (aC (some t7) H) H λv25 H=> gdA (some v18) true (aC (bi .sub 3 v25 (I 1)) H) H λv26 H=> gdA (some v18) true (ix 1 v24 v26 H) H λv27 H=> gdA (some v18) true (ld v27 H) H λv28 H=> gdA (some v18) true (C 134 [v23,v28] H) H λv29 H=> bo (bg v18 v29 (B false)) λv30=>
 aI v30
 (bo (bi .sub 3 t7 (I 1)) λv37=> bo (bi .sub 3 t7 (I 1)) λv40=> bnd (ix 1 t0 v40 H) λv41 H=> bnd (ld v41 H) λv42 H=> bnd (ix 1 t0 t7 H) λv45 H=> bnd (ld v45 H) λv46 H=> bnd (ix 1 t0 t7 H) λv47 H=> bnd (st 1 v47 v42 H) λ_ H=> bnd (ix 1 t0 v37 H) λv48 H=> bnd (st 1 v48 v46 H) λ_ H=>
  bo (bi .sub 3 t7 (I 1)) λv32=>
  zq C [t0,t1,t2,t6,v32] H)
 (bo (bi .add 3 t6 (I 1)) λv14=>
  qm C [t0,t1,t2,v14] H):=
 lpE.trans (by kernel_rfl)
theorem aai:Rn3 128 UG:=λ_ _ _ _ _ _ h=>
 rnG UF Tryz.func128 (by kernel_rfl) (by kernel_rfl) h
def aaj(C:Callee)(a0 a1:AV)(H:aj):OA:=
 bnd (C 177 [a0] H) λv6 H=> gdA (some v6) true (aC (some a1) H) H λv8 H=> gdA (some v6) true (C 177 [v8] H) H λv9 H=> gdA (some v6) true (aC (un .not v9) H) H λv10 H=> bo (bg v6 v10 (B false)) λv11=> gdA (some v11) false (aC (some a0) H) H λv13 H=> gdA (some v11) false (aC (some a1) H) H λv14 H=> gdA (some v11) false (aC (bi .lss 3 v13 v14) H) H λv15 H=> bo (bg v11 (B true) v15) λv16=>
 some (v16,H)
theorem afY:Rn2 134 aaj:=λ_ _ _ _ _ h=>
 rnG an0 Tryz.func134 (by kernel_rfl) (by kernel_rfl) h
def OG(C:Callee)(t0 t2:AV)(H:aj):OA:=
 bnd (cv 232 5 t0 H) λv21 H=> bo (ixT (.s (Go.Value.string { data:=(([0,1,2,2,3,3,3,3,4,4,4,4,4,4,4,4,5,5,5,5,5,5,5,5,5,5,5,5,5,5,5,5,6,6,6,6,6,6,6,6,6,6,6,6,6,6,6,6,6,6,6,6,6,6,6,6,6,6,6,6,6,6,6,6].append [7,7,7,7,7,7,7,7,7,7,7,7,7,7,7,7,7,7,7,7,7,7,7,7,7,7,7,7,7,7,7,7,7,7,7,7,7,7,7,7,7,7,7,7,7,7,7,7,7,7,7,7,7,7,7,7,7,7,7,7,7,7,7,7]).append ([8,8,8,8,8,8,8,8,8,8,8,8,8,8,8,8,8,8,8,8,8,8,8,8,8,8,8,8,8,8,8,8,8,8,8,8,8,8,8,8,8,8,8,8,8,8,8,8,8,8,8,8,8,8,8,8,8,8,8,8,8,8,8,8].append [8,8,8,8,8,8,8,8,8,8,8,8,8,8,8,8,8,8,8,8,8,8,8,8,8,8,8,8,8,8,8,8,8,8,8,8,8,8,8,8,8,8,8,8,8,8,8,8,8,8,8,8,8,8,8,8,8,8,8,8,8,8,8,8])).toArray })) v21) λv22=> bnd (cv 5 3 v22 H) λv23 H=> bo (bi .add 3 t2 v23) λv24=>
 some (v24,H)
def OH(C:Callee)(t0 t2:AV)(H:aj):OA:=
 bo (bi .geq 232 t0 (.s (Go.Value.int Go.IntKind.u64 256))) λv14=>
 aI v14
 (bo (bi .shr 232 t0 (.s (Go.Value.int Go.IntKind.u64 8))) λv16=>
  bo (bi .add 3 t2 (I 8)) λv18=>
  OG C v16 v18 H)
 (OG C t0 t2 H)
def OI(C:Callee)(t0 t2:AV)(H:aj):OA:=
 bo (bi .geq 232 t0 (.s (Go.Value.int Go.IntKind.u64 65536))) λv8=>
 aI v8
 (bo (bi .shr 232 t0 (.s (Go.Value.int Go.IntKind.u64 16))) λv10=>
  bo (bi .add 3 t2 (I 16)) λv12=>
  OH C v10 v12 H)
 (OH C t0 t2 H)
def afZ(C:Callee)(a0:AV)(H:aj):OA:=
 bo (bi .geq 232 a0 (.s (Go.Value.int Go.IntKind.u64 4294967296))) λv4=>
 aI v4
 (bo (bi .shr 232 a0 (.s (Go.Value.int Go.IntKind.u64 32))) λv6=>
  OI C v6 (I 32) H)
 (OI C a0 (I 0) H)
theorem oM:Rn1 138 afZ:=λ_ _ _ _ h=>
 rnG an0 Tryz.func138 (by kernel_rfl) (by kernel_rfl) h
def aak(C:Callee)(a0 a1:AV)(H:aj):OA:=
 bnd (iC 40 a0 H) λv2 H=>
 bo (ah v2 0) λv6=> bnd (ld v6 H) λv7 H=> bnd (C 178 [a1,v7] H) λv8 H=>
 some (v8,H)
theorem af0:Rn2 139 aak:=λ_ _ _ _ _ h=>
 rnG an0 Tryz.func139 (by kernel_rfl) (by kernel_rfl) h
def aal(C:Callee)(a0 a1:AV)(H:aj):OA:=
 bnd (iC 40 a0 H) λv2 H=>
 bo (bi .lss 3 a1 (I 0)) λv8=> gdA (some v8) false (aC (some a1) H) H λv10 H=> gdA (some v8) false (aC (ah v2 1) H) H λv11 H=> gdA (some v8) false (ld v11 H) H λv12 H=> gdA (some v8) false (aC (bi .geq 3 v10 v12) H) H λv13 H=> bo (bg v8 (B true) v13) λv14=>
 aI v14
 (some ((.s (Go.Value.slice none 0 0)),H))
 (bo (ah v2 2) λv15=> bnd (ld v15 H) λv16 H=> bnd (mks 3 1 8 [zI] v16 v16 H) λv17 H=>
  bo (ah v2 2) λv19=> bnd (ld v19 H) λv20 H=> bo (bi .mul 3 a1 v20) λv21=> bo (ah v2 7) λv22=> bnd (ld v22 H) λv23 H=> bnd (lnS v23 H) λv24 H=> bnd (aC (jy Tryz.prog false #[3,3] 3 [v21,v24]) H) λv25 H=>
  bo (ah v2 7) λv27=> bnd (ld v27 H) λv28 H=> bo (slS 1 v28 (some v25) none none) λv30=> bnd (cpy 1 v17 v30 H) λv31 H=>
  some (v17,H))
theorem af2:Rn2 140 aal:=λ_ _ _ _ _ h=>
 rnG an0 Tryz.func140 (by kernel_rfl) (by kernel_rfl) h
def UH(C:Callee)(a0:AV)(H:aj):OA:=
 bnd (iC 70 a0 H) λv1 H=>
 bo (ah v1 1) λv5=> bnd (ld v5 H) λv6 H=> bnd (C 179 [v6,(I 0),(I 6)] H) λv7 H=> gdA (some v7) true (aC (ah v1 2) H) H λv9 H=> gdA (some v7) true (ld v9 H) H λv10 H=> gdA (some v7) true (C 179 [v10,(I 0),(I 6)] H) H λv11 H=> bo (bg v7 v11 (B false)) λv12=> gdA (some v12) true (aC (ah v1 3) H) H λv14 H=> gdA (some v12) true (ld v14 H) H λv15 H=> gdA (some v12) true (C 179 [v15,(I 0),(I 4096)] H) H λv16 H=> bo (bg v12 v16 (B false)) λv17=>
 bo (ah v1 0) λv18=> bnd (ld v18 H) λv19 H=> bnd (C 179 [v19,(I 1),(I 10)] H) λv20 H=> gdA (some v20) true (aC (ah v1 4) H) H λv22 H=> gdA (some v20) true (ld v22 H) H λv23 H=> gdA (some v20) true (C 179 [v23,(I 0),(I 8)] H) H λv24 H=> bo (bg v20 v24 (B false)) λv25=> gdA (some v25) true (aC (ah v1 5) H) H λv27 H=> gdA (some v25) true (ld v27 H) H λv28 H=> gdA (some v25) true (C 179 [v28,(I (-1)),(I 6)] H) H λv29 H=> bo (bg v25 v29 (B false)) λv30=>
 bo (un .not v17) λv32=> gdA (some v32) false (aC (some v30) H) H λv34 H=> gdA (some v32) false (aC (un .not v34) H) H λv35 H=> bo (bg v32 (B true) v35) λv36=> gdA (some v36) false (aC (ah v1 6) H) H λv38 H=> gdA (some v36) false (ld v38 H) H λv39 H=> gdA (some v36) false (C 179 [v39,(I 0),(I 3)] H) H λv40 H=> gdA (some v36) false (aC (un .not v40) H) H λv41 H=> bo (bg v36 (B true) v41) λv42=> gdA (some v42) false (aC (ah v1 8) H) H λv44 H=> gdA (some v42) false (ld v44 H) H λv45 H=> gdA (some v42) false (lnS v45 H) H λv46 H=> gdA (some v42) false (aC (bi .gtr 3 v46 (I 4)) H) H λv47 H=> bo (bg v42 (B true) v47) λv48=>
 aI v48
 (some ((I 1),H))
 (some ((I 0),H))
theorem aam:Rn1 141 UH:=λ_ _ _ _ h=>
 rnG an0 Tryz.func141 (by kernel_rfl) (by kernel_rfl) h
def UJ(C:Callee)(a0:AV)(H:aj):OA:=
 aI a0
 (some ((.s (Go.Value.int Go.IntKind.u8 1)),H))
 (some ((.s (Go.Value.int Go.IntKind.u8 0)),H))
theorem af4:Rn1 142 UJ:=λ_ _ _ _ h=>
 rnG an0 Tryz.func142 (by kernel_rfl) (by kernel_rfl) h
def aan:Ann:=⟨[(4,[0,3,4])],[],[]⟩
def zx:=lF Tryz.prog Tryz.f143 17 aan 0
def aao(C:Callee)(a0:AV)(H:aj):OA:=
 zx C [a0,(.s (Go.Value.slice none 0 0)),(I 56)] H
theorem OJ(C:Callee)(t0 t3 t4:AV)(H:aj):zx C [t0,t3,t4] H=
 bo (bi .geq 3 t4 (I 0)) λv6=>
 aI v6
 (bo (bi .shr 3 t0 t4) λv12=> bnd (cv 3 5 v12 H) λv13 H=> bnd (bs 180 1 [(0,v13)] H) λv14 H=> bnd (app 5 1 1 t3 v14 H) λv15 H=>
  bo (bi .sub 3 t4 (I 8)) λv8=>
  zx C [t0,v15,v8] H)
 (some (t3,H)):=
 lpE.trans (by kernel_rfl)
theorem af5:Rn1 143 aao:=λ_ _ _ _ h=>
 rnG aan Tryz.func143 (by kernel_rfl) (by kernel_rfl) h
def aap(C:Callee)(a0:AV)(H:aj):OA:=
 bnd (C 180 [a0] H) λv5 H=>
 bo (bi .shr 33 v5 (.s (Go.Value.int Go.IntKind.u64 8))) λv8=> bnd (cv 33 5 v8 H) λv9 H=> bnd (cv 33 5 v5 H) λv11 H=> bnd (bs 180 2 [(0,v9),(1,v11)] H) λv12 H=> bnd (bs 297 2 [(0,a0),(1,v12)] H) λv13 H=> bnd (C 181 [v13] H) λv14 H=>
 some (v14,H)
theorem af6:Rn1 144 aap:=λ_ _ _ _ h=>
 rnG an0 Tryz.func144 (by kernel_rfl) (by kernel_rfl) h
def OL(C:Callee)(a0:AV)(H:aj):OA:=
 bnd (lnS a0 H) λv6 H=> bo (bi .sub 3 v6 (I 2)) λv7=>
 bo (bi .lss 3 v7 (I 0)) λv9=> gdA (some v9) false (aC (some a0) H) H λv11 H=> gdA (some v9) false (aC (some v7) H) H λv12 H=> gdA (some v9) false (aC (slS 1 v11 none (some v12) none) H) H λv13 H=> gdA (some v9) false (C 144 [v13] H) H λv14 H=> gdA (some v9) false (aC (some a0) H) H λv15 H=> gdA (some v9) false (C 148 [v14,v15] H) H λv16 H=> gdA (some v9) false (aC (un .not v16) H) H λv17 H=> bo (bg v9 (B true) v17) λv18=>
 aI v18
 (some (.tup [(.s (Go.Value.slice none 0 0)),(B false)],H))
 (bo (slS 1 a0 none (some v7) none) λv21=> bnd (C 149 [v21] H) λv22 H=>
  some (.tup [v22,(B true)],H))
theorem UK:Rn1 145 OL:=λ_ _ _ _ h=>
 rnG an0 Tryz.func145 (by kernel_rfl) (by kernel_rfl) h
def Gh(C:Callee)(t2 t3:AV)(H:aj):OA:=
 some ((.fn (.func 182) [] [t2,t3]),H)
def aaq(C:Callee)(a0 a1:AV)(H:aj):OA:=
 bnd (iC 180 a0 H) λv2 H=> bnd (iC 3 a1 H) λv3 H=>
 bnd (ld v3 H) λv5 H=> bo (bi .lss 3 v5 (I 1)) λv6=>
 aI v6
 (bnd (stk H) λv7 H=> bnd (stk H) λ_ H=>
  Gh C v2 v3 H)
 (Gh C v2 v3 H)
theorem af7:Rn2 146 aaq:=λ_ _ _ _ _ h=>
 rnG an0 Tryz.func146 (by kernel_rfl) (by kernel_rfl) h
def aar:Ann:=⟨[(4,[3,6,7,8])],[],[]⟩
def zy:=lF Tryz.prog Tryz.f147 20 aar 0
def aas(C:Callee)(a0:AV)(H:aj):OA:=
 bnd (lnS a0 H) λv7 H=>
 zy C [(.s (Go.Value.int Go.IntKind.u64 0)),a0,v7,(I 0)] H
theorem OO(C:Callee)(t3 t6 t7 t8:AV)(H:aj):zy C [t3,t6,t7,t8] H=
 bo (bi .lss 3 t8 t7) λv9=>
 aI v9
 (bnd (ix 1 t6 t8 H) λv10 H=> bnd (ld v10 H) λv11 H=>
  bo (bi .shl 232 t3 (.s (Go.Value.int Go.IntKind.u64 8))) λv13=> bnd (cv 5 232 v11 H) λv15 H=> bo (bi .or 232 v13 v15) λv16=>
  bo (bi .add 3 t8 (I 1)) λv17=>
  zy C [v16,t6,t7,v17] H)
 (bnd (cv 232 3 t3 H) λv19 H=>
  some (v19,H)):=
 lpE.trans (by kernel_rfl)
theorem af8:Rn1 147 aas:=λ_ _ _ _ h=>
 rnG aar Tryz.func147 (by kernel_rfl) (by kernel_rfl) h
def aat(C:Callee)(a0 a1:AV)(H:aj):OA:=
 bnd (cv 180 9 a0 H) λv6 H=> bnd (cv 180 9 a1 H) λv8 H=> bo (bi .eql 9 v6 v8) λv9=>
 some (v9,H)
theorem af9:Rn2 148 aat:=λ_ _ _ _ _ h=>
 rnG an0 Tryz.func148 (by kernel_rfl) (by kernel_rfl) h
def aau(C:Callee)(a0:AV)(H:aj):OA:=
 bo (bi .eql 180 a0 (.s (Go.Value.slice none 0 0))) λv4=>
 aI v4
 (some ((.s (Go.Value.slice none 0 0)),H))
 (bnd (bs 180 0 [] H) λv5 H=> bnd (app 5 1 1 v5 a0 H) λv7 H=>
  some (v7,H))
theorem aga:Rn1 149 aau:=λ_ _ _ _ h=>
 rnG an0 Tryz.func149 (by kernel_rfl) (by kernel_rfl) h
def UL(C:Callee)(a0 a1 a2:AV)(H:aj):OA:=
 bnd (alc 70 [zI,zI,zI,zI,zI,zI,zI,zB,zN] H) λv6 H=>
 bnd (C 50 [a0,a1] H) λv10 H=> bo (un .not v10) λv11=>
 aI v11
 (bo (bd 70 []) λv12=> bnd (st 9 v6 v12 H) λ_ H=>
  bnd (lda 9 v6 H) λr0 _=> some (.tup [r0,(B false)],H))
 (bo (aA a0) λv14=> bo (ah v14 0) λv15=> bnd (ld v15 H) λv16 H=> bnd (ix 4 v16 a1 H) λv18 H=> bnd (lda 4 v18 H) λv19 H=> bnd (C 63 [v19,a2] H) λv21 H=> bo (fl v21 1) λv22=> bnd (C 183 [v22] H) λv23 H=> bo (aF v23 0) λv24=> bo (aF v23 1) λv25=> bnd (st 9 v6 v24 H) λ_ H=>
  bnd (lda 9 v6 H) λr0 _=> some (.tup [r0,v25],H))
theorem aav:Rn3 150 UL:=λ_ _ _ _ _ _ h=>
 rnG an0 Tryz.func150 (by kernel_rfl) (by kernel_rfl) h
def BO(C:Callee)(a0 a1 a2 a3:AV)(H:aj):OA:=
 bnd (iC 57 a0 H) λv4 H=> bnd (iC 70 a3 H) λv7 H=> bnd (alc 57 [zI,zI,zI,zI,zI,zI,zN,zI,zI] H) λv8 H=>
 bo (ah v4 0) λv10=> bnd (ld v10 H) λv11 H=> bo (bi .neq 3 v11 (I 1)) λv12=> gdA (some v12) false (lda 9 v4 H) H λv14 H=> gdA (some v12) false (lda 9 v7 H) H λv15 H=> gdA (some v12) false (C 184 [v14,v15] H) H λv16 H=> gdA (some v12) false (aC (un .not v16) H) H λv17 H=> bo (bg v12 (B true) v17) λv18=>
 aI v18
 (bo (bd 57 []) λv19=> bnd (st 9 v8 v19 H) λ_ H=>
  bnd (lda 9 v8 H) λr0 _=> some (.tup [r0,(B false)],H))
 (bo (ah v4 3) λv20=> bnd (ld v20 H) λv21 H=>
  bo (bi .eql 3 v21 (I 1)) λv23=>
  aI v23
  (bnd (lda 9 v4 H) λv24 H=> bnd (lda 9 v7 H) λv27 H=> bnd (C 185 [v24,a1,a2,v27] H) λv28 H=> bo (aF v28 0) λv29=> bo (aF v28 1) λv30=> bnd (st 9 v8 v29 H) λ_ H=>
  bnd (lda 9 v8 H) λr0 _=> some (.tup [r0,v30],H))
  (bo (bi .eql 3 v21 (I 2)) λv32=>
  aI v32
  (bnd (lda 9 v4 H) λv33 H=> bnd (lda 9 v7 H) λv36 H=> bnd (C 186 [v33,a1,a2,v36] H) λv37 H=> bo (aF v37 0) λv38=> bo (aF v37 1) λv39=> bnd (st 9 v8 v38 H) λ_ H=>
   bnd (lda 9 v8 H) λr0 _=> some (.tup [r0,v39],H))
  (bo (bi .eql 3 v21 (I 6)) λv41=>
   aI v41
   (bo (ah v4 3) λv42=> bnd (st 1 v42 (I 0) H) λ_ H=>
   bnd (lda 9 v4 H) λv43 H=> bnd (st 9 v8 v43 H) λ_ H=>
   bnd (lda 9 v8 H) λr0 _=> some (.tup [r0,(B true)],H))
   (bo (bd 57 []) λv44=> bnd (st 9 v8 v44 H) λ_ H=>
   bnd (lda 9 v8 H) λr0 _=> some (.tup [r0,(B false)],H)))))
theorem agb:Rn4 151 BO:=λ_ _ _ _ _ _ _ h=>
 rnG an0 Tryz.func151 (by kernel_rfl) (by kernel_rfl) h
def agc:Ann:=⟨[],[(6,rF 8 (some true::rF 8 []))],[(6,[(3,10),(5,10),(5,12)])]⟩
def zA(C:Callee)(t1 t2 t4 t8:AV)(H:aj):OA:=
 bo (ah t4 5) λv50=> bnd (ld v50 H) λv51 H=> bo (ah t4 7) λv52=> bnd (st 1 v52 v51 H) λ_ H=>
 bnd (lda 9 t4 H) λv53 H=> bnd (C 187 [v53,t1,t2] H) λv56 H=> bnd (st 9 t8 v56 H) λ_ H=>
 bnd (lda 9 t8 H) λr0 _=> some (.tup [r0,(B true)],H)
def zC(C:Callee)(t1 t2 t4 t7 t8:AV)(H:aj):OA:=
 bo (ah t7 5) λv65=> bnd (ld v65 H) λv66 H=> bo (ah t4 7) λv67=> bnd (st 1 v67 v66 H) λ_ H=>
 bnd (lda 9 t4 H) λv68 H=> bnd (C 187 [v68,t1,t2] H) λv71 H=> bnd (st 9 t8 v71 H) λ_ H=>
 bnd (lda 9 t8 H) λr0 _=> some (.tup [r0,(B true)],H)
def wB(C:Callee)(a0 a1 a2 a3:AV)(H:aj):OA:=
 bnd (iC 57 a0 H) λv4 H=> bnd (iC 70 a3 H) λv7 H=> bnd (alc 57 [zI,zI,zI,zI,zI,zI,zN,zI,zI] H) λv8 H=>
 bo (ah v4 0) λv12=> bnd (ld v12 H) λv13 H=> bo (bi .neq 3 v13 (I 2)) λv14=> gdA (some v14) false (lda 9 v4 H) H λv16 H=> gdA (some v14) false (lda 9 v7 H) H λv17 H=> gdA (some v14) false (C 184 [v16,v17] H) H λv18 H=> gdA (some v14) false (aC (un .not v18) H) H λv19 H=> bo (bg v14 (B true) v19) λv20=>
 aI v20
 (bo (bd 57 []) λv21=> bnd (st 9 v8 v21 H) λ_ H=>
  bnd (lda 9 v8 H) λr0 _=> some (.tup [r0,(B false)],H))
 (bo (ah v4 1) λv24=> bnd (ld v24 H) λv25 H=> bnd (C 37 [a2,v25] H) λv26 H=> bo (aF v26 0) λv27=> bo (aF v26 1) λv28=> bnd (alc 93 [zI,zI,zI,zI,zB,zN] H) λv10 H=> bnd (st 6 v10 v27 H) λ_ H=>
  bo (ah v4 3) λv29=> bnd (ld v29 H) λv30 H=>
  bo (bi .eql 3 v30 (I 1)) λv32=>
  aI v32
  (bo (ah v7 6) λv33=> bnd (ld v33 H) λv34 H1=> bo (ah v7 5) λv35=> bnd (ld v35 H1) λv36 H3=> bo (ah v7 5) λv37=> bnd (ld v37 H3) λv38 H5=> bo (ah v7 8) λv39=> bnd (ld v39 H5) λv40 H7=> bnd (unG H7 (C 46 [v40] H7.guard)) λv41 H8=> bo (ah v4 4) λv42=> bnd (st 1 v42 v34 H8) λ_ H10=> bo (ah v4 5) λv43=> bnd (st 1 v43 v36 H10) λ_ H12=> bo (ah v4 8) λv44=> bnd (st 1 v44 v38 H12) λ_ H14=> bo (ah v4 6) λv45=> bnd (st 1 v45 v41 H14) λ_ H16=> ck (aS v35) H8 H10 <| ck (aS v37) H8 H10 <| ck (aS v37) H10 H12 <|
  aI v28
  (bo (ah v10 5) λv47=> bnd (ld v47 H16) λv48 H16=> bo (ah v4 6) λv49=> bnd (st 1 v49 v48 H16) λ_ H16=>
   zA C a1 a2 v4 v8 H16)
  (zA C a1 a2 v4 v8 H16))
  (bo (bi .eql 3 v30 (I 3)) λv58=>
  aI v58
  (bo (un .not v28) λv60=>
   aI v60
   (bo (ah v7 8) λv61=> bnd (ld v61 H) λv62 H=> bnd (C 46 [v62] H) λv63 H=> bo (ah v4 6) λv64=> bnd (st 1 v64 v63 H) λ_ H=>
   zC C a1 a2 v4 v7 v8 H)
   (zC C a1 a2 v4 v7 v8 H))
  (bo (bi .eql 3 v30 (I 6)) λv73=>
   aI v73
   (bo (ah v4 3) λv74=> bnd (st 1 v74 (I 0) H) λ_ H=>
   bnd (lda 9 v4 H) λv75 H=> bnd (st 9 v8 v75 H) λ_ H=>
   bnd (lda 9 v8 H) λr0 _=> some (.tup [r0,(B true)],H))
   (bo (bd 57 []) λv76=> bnd (st 9 v8 v76 H) λ_ H=>
   bnd (lda 9 v8 H) λr0 _=> some (.tup [r0,(B false)],H)))))
theorem agd:Rn4 152 wB:=λ_ _ _ _ _ _ _ h=>
 rnG agc Tryz.func152 (by kernel_rfl) (by kernel_rfl) h
def uq(C:Callee)(a0 a1 a2 a3:AV)(H:aj):OA:=
 bnd (iC 57 a0 H) λv4 H=> bnd (iC 70 a3 H) λv7 H=> bnd (alc 57 [zI,zI,zI,zI,zI,zI,zN,zI,zI] H) λv8 H=>
 bo (ah v4 0) λv10=> bnd (ld v10 H) λv11 H=> bo (bi .neq 3 v11 (I 3)) λv12=> gdA (some v12) false (lda 9 v4 H) H λv14 H=> gdA (some v12) false (lda 9 v7 H) H λv15 H=> gdA (some v12) false (C 184 [v14,v15] H) H λv16 H=> gdA (some v12) false (aC (un .not v16) H) H λv17 H=> bo (bg v12 (B true) v17) λv18=>
 aI v18
 (bo (bd 57 []) λv19=> bnd (st 9 v8 v19 H) λ_ H=>
  bnd (lda 9 v8 H) λr0 _=> some (.tup [r0,(B false)],H))
 (bo (ah v4 3) λv20=> bnd (ld v20 H) λv21 H=>
  bo (bi .eql 3 v21 (I 1)) λv23=>
  aI v23
  (bnd (lda 9 v4 H) λv24 H=> bnd (lda 9 v7 H) λv26 H=> bnd (C 188 [v24,a2,v26] H) λv27 H=> bnd (st 9 v8 v27 H) λ_ H=>
  bnd (lda 9 v8 H) λr0 _=> some (.tup [r0,(B true)],H))
  (bo (bi .eql 3 v21 (I 4)) λv29=>
  aI v29
  (bo (ah v4 7) λv30=> bnd (ld v30 H) λv31 H=> bo (bi .eql 3 v31 (I (-1))) λv32=>
   aI v32
   (bnd (lda 9 v4 H) λv33 H=> bo (ah v4 8) λv35=> bnd (ld v35 H) λv36 H=> bnd (C 189 [v33,a2,v36] H) λv37 H=> bnd (st 9 v8 v37 H) λ_ H=>
   bnd (lda 9 v8 H) λr0 _=> some (.tup [r0,(B true)],H))
   (bo (ah v4 3) λv38=> bnd (st 1 v38 (I 5) H) λ_ H=>
   bnd (lda 9 v4 H) λv39 H=> bnd (st 9 v8 v39 H) λ_ H=>
   bnd (lda 9 v8 H) λr0 _=> some (.tup [r0,(B true)],H)))
  (bo (bi .eql 3 v21 (I 5)) λv41=>
   aI v41
   (bo (ah v4 5) λv42=> bnd (ld v42 H) λv43 H=> bo (bi .eql 3 v43 (I (-1))) λv44=>
   aI v44
   (bnd (lda 9 v4 H) λv45 H=> bo (ah v4 7) λv47=> bnd (ld v47 H) λv48 H=> bnd (C 189 [v45,a2,v48] H) λv49 H=> bnd (st 9 v8 v49 H) λ_ H=>
    bnd (lda 9 v8 H) λr0 _=> some (.tup [r0,(B true)],H))
   (bnd (lda 9 v4 H) λv50 H=> bo (ah v4 8) λv52=> bnd (ld v52 H) λv53 H=> bnd (C 189 [v50,a2,v53] H) λv54 H=> bnd (st 9 v8 v54 H) λ_ H=>
    bnd (lda 9 v8 H) λr0 _=> some (.tup [r0,(B true)],H)))
   (bo (bi .eql 3 v21 (I 6)) λv56=>
   aI v56
   (bo (ah v4 3) λv57=> bnd (st 1 v57 (I 0) H) λ_ H=>
    bnd (lda 9 v4 H) λv58 H=> bnd (st 9 v8 v58 H) λ_ H=>
    bnd (lda 9 v8 H) λr0 _=> some (.tup [r0,(B true)],H))
   (bo (bd 57 []) λv59=> bnd (st 9 v8 v59 H) λ_ H=>
    bnd (lda 9 v8 H) λr0 _=> some (.tup [r0,(B false)],H))))))
theorem agf:Rn4 153 uq:=λ_ _ _ _ _ _ _ h=>
 rnG an0 Tryz.func153 (by kernel_rfl) (by kernel_rfl) h
def UM(C:Callee)(a0 a1:AV)(H:aj):OA:=
 bo (aA a0) λv6=> bo (ah v6 2) λv7=> bnd (ld v7 H) λv8 H=> bo (un .not v8) λv9=>
 aI v9
 (some ((I 6),H))
 (bo (aA a0) λv13=> bo (ah v13 1) λv14=> bnd (ld v14 H) λv15 H=> bnd (bs 22 1 [(0,a1)] H) λv17 H=> bnd (app 3 1 8 v15 v17 H) λv18 H=> bo (aA a0) λv19=> bo (ah v19 1) λv20=> bnd (st 1 v20 v18 H) λ_ H=> bo (aA a0) λv21=> bo (ah v21 2) λv22=> bnd (st 1 v22 (B false) H) λ_ H=>
  some ((I 0),H))
theorem aaw:Rn2 154 UM:=λ_ _ _ _ _ h=>
 rnG an0 Tryz.func154 (by kernel_rfl) (by kernel_rfl) h
def aax(C:Callee)(a0 a1 a2 a3:AV)(H:aj):OA:=
 bo (aA a0) λv10=> bo (ah v10 0) λv11=> bnd (ld v11 H) λv12 H=> bo (bd 51 [(0,a1),(1,a2),(2,(B true)),(3,a3)]) λv16=> bnd (bs 48 1 [(0,v16)] H) λv17 H=> bnd (app 51 4 32 v12 v17 H) λv18 H=> bo (aA a0) λv19=> bo (ah v19 0) λv20=> bnd (st 1 v20 v18 H) λ_ H=>
 some (.tup [],H)
theorem agh:Rn4 155 aax:=λ_ _ _ _ _ _ _ h=>
 rnG an0 Tryz.func155 (by kernel_rfl) (by kernel_rfl) h
def OQ(C:Callee)(a0 a1 a2:AV)(H:aj):OA:=
 bo (aA a0) λv8=> bo (ah v8 4) λv9=> bnd (ld v9 H) λv10 H=> bo (un .not v10) λv11=> gdA (some v11) false (aC (some a0) H) H λv13 H=> gdA (some v11) false (aC (aA v13) H) H λv14 H=> gdA (some v11) false (lda 6 v14 H) H λv15 H=> gdA (some v11) false (aC (some a1) H) H λv16 H=> gdA (some v11) false (C 73 [v15,v16] H) H λv17 H=> gdA (some v11) false (aC (un .not v17) H) H λv18 H=> bo (bg v11 (B true) v18) λv19=>
 aI v19
 (some ((B false),H))
 (bo (aA a0) λv22=> bo (ah v22 5) λv23=> bnd (ld v23 H) λv24 H=> bnd (C 46 [v24] H) λv25 H=> bo (aA a0) λv26=> bo (ah v26 5) λv27=> bnd (st 1 v27 v25 H) λ_ H=>
  bo (aA a0) λv29=> bo (ah v29 5) λv30=> bnd (ld v30 H) λv31 H=> bnd (ix 1 v31 a1 H) λv34 H=> bnd (st 1 v34 a2 H) λ_ H=>
  some ((B true),H))
theorem UN:Rn3 156 OQ:=λ_ _ _ _ _ _ h=>
 rnG an0 Tryz.func156 (by kernel_rfl) (by kernel_rfl) h
def agi:Ann:=⟨[],[(7,rF 8 []),(13,rF 11 [])],[]⟩
def Jk(C:Callee)(a0 a1:AV)(H:aj):OA:=
 bnd (iC 93 a1 H) λv3 H=>
 bnd (lda 6 v3 H) λv6 H=> bnd (C 72 [v6] H) λv7 H=> bnd (st 6 v3 v7 H) λ_ H=>
 bo (ah v3 2) λv8=> bnd (ld v8 H) λv9 H=> bo (bi .lss 3 v9 (I 0)) λv10=>
 aI v10
 (some ((I 1),H))
 (bo (ah v3 2) λv12=> bnd (ld v12 H) λv13 H=> bnd (C 71 [a0,v13] H) λv14 H=>
  bo (bi .geq 3 v14 (I 0)) λv16=>
  aI v16
  (bo (aA a0) λv18=> bo (ah v18 0) λv19=> bnd (ld v19 H) λv20 H=> bnd (ix 6 v20 v14 H) λv22 H=> bo (ah v22 3) λv23=> bnd (ld v23 H) λv24 H=> bo (ah v3 3) λv25=> bnd (st 1 v25 v24 H) λ_ H=>
  bo (aA a0) λv27=> bo (ah v27 0) λv28=> bnd (ld v28 H) λv29 H=> bnd (lda 6 v3 H) λv31 H=> bnd (ix 6 v29 v14 H) λv32 H=> bnd (st 6 v32 v31 H) λ_ H=>
  some ((I 0),H))
  (bo (ah v3 2) λv34=> bnd (ld v34 H) λv35 H=> bnd (C 117 [a0,v35] H) λv36 H=>
  aI v36
  (some ((I 5),H))
  (bo (aA a0) λv38=> bo (ah v38 3) λv39=> bnd (ld v39 H) λv40 H=> bo (bi .add 3 v40 (I 1)) λv41=> bo (aA a0) λv42=> bo (ah v42 3) λv43=> bnd (st 1 v43 v41 H) λ_ H=>
   bo (aA a0) λv45=> bo (ah v45 3) λv46=> bnd (ld v46 H) λv47 H=> bo (ah v3 3) λv48=> bnd (st 1 v48 v47 H) λ_ H=>
   bo (aA a0) λv51=> bo (ah v51 0) λv52=> bnd (ld v52 H) λv53 H=> bnd (lda 6 v3 H) λv54 H=> bnd (bs 131 1 [(0,v54)] H) λv55 H=> bnd (app 93 6 64 v53 v55 H) λv56 H=> bo (aA a0) λv57=> bo (ah v57 0) λv58=> bnd (st 1 v58 v56 H) λ_ H=>
   some ((I 0),H))))
theorem agj:Rn2 157 Jk:=λ_ _ _ _ _ h=>
 rnG agi Tryz.func157 (by kernel_rfl) (by kernel_rfl) h
def agk:Ann:=⟨[],[(1,some false::some false::some true::rF 7 (none::some false::[])),(11,rF 8 []),(13,rF 8 []),(15,rF 10 (some true::rF 8 []))],[(11,[(3,5)]),(13,[(3,5)]),(15,[(3,12),(5,12),(5,14),(6,12),(6,14)])]⟩
def kT(C:Callee)(t6 t7:AV)(H:aj):OA:=
 bnd (lda 9 t7 H) λv69 H=> bnd (st 9 t6 v69 H) λ_ H=>
 bnd (lda 9 t6 H) λr0 _=> some (r0,H)
def yH(C:Callee)(a0 a1 a2:AV)(H:aj):OA:=
 bnd (iC 57 a0 H) λv3 H=> bnd (alc 70 [zI,zI,zI,zI,zI,zI,zI,zB,zN] H) λv6 H=>
 bnd (alc 70 [zI,zI,zI,zI,zI,zI,zI,zB,zN] H) λv7 H=> bo (ah v3 3) λv8=> bnd (ld v8 H) λv9 H=> bnd (unG H (C 190 [v9] H.guard)) λv10 H=> bo (ah v3 2) λv13=> bnd (ld v13 H) λv14 H=> bo (ah v3 1) λv15=> bnd (ld v15 H) λv16 H=> bo (bd 70 [(0,v10),(1,a1),(2,a2),(3,v14),(4,v16)]) λv17=> bnd (st 9 v7 v17 H) λ_ H=>
 bo (ah v3 3) λv18=> bnd (ld v18 H) λv19 H=>
 bo (bi .eql 3 v19 (I 1)) λv22=>
 aI v22
 (bnd (lda 9 v7 H) λv23 H=> bnd (st 9 v6 v23 H) λ_ H=>
  bnd (lda 9 v6 H) λr0 _=> some (r0,H))
 (bo (bi .eql 3 v19 (I 2)) λv25=>
  aI v25
  (bo (ah v3 5) λv26=> bnd (ld v26 H) λv27 H=> bo (ah v7 2) λv29=> bnd (st 1 v29 v27 H) λ_ H=> bo (ah v7 5) λv30=> bnd (st 1 v30 a1 H) λ_ H=>
  kT C v6 v7 H)
  (bo (bi .eql 3 v19 (I 3)) λv32=>
  aI v32
  (bo (ah v3 7) λv33=> bnd (ld v33 H) λv34 H=> bo (ah v7 2) λv35=> bnd (st 1 v35 v34 H) λ_ H=>
   kT C v6 v7 H)
  (bo (bi .eql 3 v19 (I 4)) λv37=>
   aI v37
   (bo (ah v3 5) λv38=> bnd (ld v38 H) λv39 H1=> bo (ah v3 7) λv40=> bnd (ld v40 H1) λv41 H3=> bo (ah v7 2) λv42=> bnd (st 1 v42 v39 H3) λ_ H5=> bo (ah v7 5) λv43=> bnd (st 1 v43 v41 H5) λ_ H7=> ck (aS v40) H3 H5 <|
   kT C v6 v7 H7)
   (bo (bi .eql 3 v19 (I 5)) λv45=>
   aI v45
   (bo (ah v3 7) λv46=> bnd (ld v46 H) λv47 ajC=> bo (ah v3 5) λv48=> bnd (ld v48 ajC) λv49 ads=> bo (ah v7 2) λv50=> bnd (st 1 v50 v47 ads) λ_ afM=> bo (ah v7 5) λv51=> bnd (st 1 v51 v49 afM) λ_ akI=> ck (aS v48) ads afM <|
    kT C v6 v7 akI)
   (bo (bi .eql 3 v19 (I 6)) λv53=>
    aI v53
    (bo (ah v3 4) λv54=> bnd (ld v54 H) λv55 akJ=> bo (ah v3 5) λv56=> bnd (ld v56 akJ) λv57 akK=> bo (ah v3 6) λv58=> bnd (ld v58 akK) λv59 aia=> bnd (lnS v59 aia) λv60 akL=> bo (bi .gtr 3 v60 (I 0)) λv61=> bo (ah v3 6) λv62=> bnd (ld v62 akL) λv63 H9=> bnd (unG H9 (C 46 [v63] H9.guard)) λv64 H10=> bo (ah v7 6) λv65=> bnd (st 1 v65 v55 H10) λ_ H12=> bo (ah v7 5) λv66=> bnd (st 1 v66 v57 H12) λ_ H14=> bo (ah v7 7) λv67=> bnd (st 1 v67 v61 H14) λ_ H16=> bo (ah v7 8) λv68=> bnd (st 1 v68 v64 H16) λ_ H18=> ck (aS v56) H10 H12 <| ck (aS v58) H10 H12 <| ck (aS v58) H12 H14 <| ck (aS v59) H10 H12 <| ck (aS v59) H12 H14 <|
    kT C v6 v7 H18)
    (bo (bd 70 []) λv20=> bnd (st 9 v6 v20 H) λ_ H=>
    bnd (lda 9 v6 H) λr0 _=> some (r0,H)))))))
theorem agl:Rn3 158 yH:=λ_ _ _ _ _ _ h=>
 rnG agk Tryz.func158 (by kernel_rfl) (by kernel_rfl) h
def aay:Ann:=⟨[(4,[0,3,11,12,13])],[],[]⟩
def zD:=lF Tryz.prog Tryz.f159 33 aay 0
def wC(C:Callee)(t0 t3 t11 t12 t13:AV)(H:aj):OA:=
 bo (bi .add 3 t13 (I 1)) λv31=>
 zD C [t0,t3,t11,t12,v31] H
def aaz(C:Callee)(a0:AV)(H:aj):OA:=
 bo (aA a0) λv7=> bo (ah v7 1) λv8=> bnd (ld v8 H) λv9 H=> bnd (C 192 [v9] H) λv10 H=> bnd (C 191 [v10] H) λv11 H=> bnd (lnS v11 H) λv12 H=>
 zD C [a0,(.s (Go.Value.slice none 0 0)),v11,v12,(I 0)] H
theorem OT(C:Callee)(t0 t3 t11 t12 t13:AV)(H:aj):zD C [t0,t3,t11,t12,t13] H=
 bo (bi .lss 3 t13 t12) λv14=>
 aI v14
 (bnd (ix 1 t11 t13 H) λv15 H=> bnd (ld v15 H) λv16 H=>
  bnd (C 193 [t0,v16] H) λv19 H=> bo (un .not v19) λv20=> gdA (some v20) true (aC (some t0) H) H λv22 H=> gdA (some v20) true (aC (some v16) H) H λv23 H=> gdA (some v20) true (C 194 [v22,v23] H) H λv24 H=> gdA (some v20) true (aC (bi .gtr 3 v24 (I 0)) H) H λv25 H=> bo (bg v20 v25 (B false)) λv26=>
  aI v26
  (bnd (bs 22 1 [(0,v16)] H) λv29 H=> bnd (app 3 1 8 t3 v29 H) λv30 H=>
  wC C t0 v30 t11 t12 t13 H)
  (wC C t0 t3 t11 t12 t13 H))
 (some (t3,H)):=
 lpE.trans (by kernel_rfl)
theorem agm:Rn1 159 aaz:=λ_ _ _ _ h=>
 rnG aay Tryz.func159 (by kernel_rfl) (by kernel_rfl) h
def agn:Ann:=⟨[],[(1,rF 11 [])],[]⟩
def aaA(C:Callee)(a0:AV)(H:aj):OA:=
 bo (aA a0) λv4=> bo (ah v4 1) λv5=> bnd (ld v5 H) λv6 H=> bo (aA a0) λv8=> bo (ah v8 0) λv9=> bnd (ld v9 H) λv10 H=> bnd (lnS v10 H) λv11 H=> bo (bi .sub 3 v6 v11) λv12=>
 some (v12,H)
theorem agp:Rn1 160 aaA:=λ_ _ _ _ h=>
 rnG agn Tryz.func160 (by kernel_rfl) (by kernel_rfl) h
def agq:Ann:=⟨[],[(4,rF 13 []),(5,rF 8 []),(6,rF 7 [])],[]⟩
def OU(C:Callee)(a0 a1:AV)(H:aj):OA:=
 bnd (C 193 [a0,a1] H) λv10 H=> gdA (some v10) false (aC (some a0) H) H λv12 H=> gdA (some v10) false (aC (some a1) H) H λv13 H=> gdA (some v10) false (C 194 [v12,v13] H) H λv14 H=> gdA (some v10) false (aC (bi .eql 3 v14 (I 0)) H) H λv15 H=> bo (bg v10 (B true) v15) λv16=>
 aI v16
 (some (.tup [(I 0),(I 0),(B false)],H))
 (bo (aA a0) λv18=> bo (ah v18 1) λv19=> bnd (ld v19 H) λv20 H=> bnd (lk .i64 (.slice none 0 0) v20 a1 false H) λv22 H=> bnd (ix 2 v22 (I 0) H) λv23 H=> bnd (lda 2 v23 H) λv24 H=> bnd (alc 293 [zI,zI] H) λv7 H=> bnd (st 2 v7 v24 H) λ_ H=>
  bo (aA a0) λv26=> bo (ah v26 1) λv27=> bnd (ld v27 H) λv28 H=> bo (aA a0) λv31=> bo (ah v31 1) λv32=> bnd (ld v32 H) λv33 H=> bnd (lk .i64 (.slice none 0 0) v33 a1 false H) λv35 H=> bo (slS 2 v35 (some (I 1)) none none) λv36=> bnd (mup .i64 v28 a1 v36 H) λ_ H=>
  bo (aA a0) λv38=> bo (ah v38 0) λv39=> bnd (ld v39 H) λv40 H=> bo (ah v7 0) λv42=> bnd (ld v42 H) λv43 H=> bnd (mup .i64 v40 a1 v43 H) λ_ H=>
  bo (ah v7 0) λv44=> bnd (ld v44 H) λv45 H=> bo (ah v7 1) λv46=> bnd (ld v46 H) λv47 H=>
  some (.tup [v45,v47,(B true)],H))
theorem ags:Rn2 161 OU:=λ_ _ _ _ _ h=>
 rnG agq Tryz.func161 (by kernel_rfl) (by kernel_rfl) h
def agt:Ann:=⟨[],[(2,rF 15 [])],[]⟩
def aaB(C:Callee)(a0 a1 a2 a3:AV)(H:aj):OA:=
 bnd (alc 70 [zI,zI,zI,zI,zI,zI,zI,zB,zN] H) λv8 H=>
 bo (aA a0) λv13=> bo (ah v13 0) λv14=> bnd (ld v14 H) λv15 H=> bnd (C 74 [v15,a1] H) λv17 H=> bo (aF v17 0) λv18=> bo (aF v17 1) λv19=> bnd (alc 100 [zI,zI,zN] H) λv9 H=> bnd (st 3 v9 v18 H) λ_ H=>
 bo (aA a0) λv21=> bo (ah v21 10) λv22=> bnd (ld v22 H) λv23 H=> bo (ah v9 0) λv27=> bnd (ld v27 H) λv28 H=> bo (ah v9 1) λv29=> bnd (ld v29 H) λv30 H=> bo (ah v9 2) λv31=> bnd (ld v31 H) λv32 H=> bo (bd 70 [(0,(I 7)),(1,v23),(2,a2),(3,a3),(4,a1),(6,v28),(5,v30),(8,v32)]) λv33=> bnd (st 9 v8 v33 H) λ_ H=>
 bnd (lda 9 v8 H) λr0 _=> some (r0,H)
theorem agu:Rn4 162 aaB:=λ_ _ _ _ _ _ _ h=>
 rnG agt Tryz.func162 (by kernel_rfl) (by kernel_rfl) h
def agv:Ann:=⟨[],[(3,rF 6 (some true::rF 5 []))],[]⟩
def UO(C:Callee)(a0 a1:AV)(H:aj):OA:=
 bnd (iC 70 a1 H) λv3 H=>
 bnd (C 160 [a0] H) λv6 H=> bo (bi .eql 3 v6 (I 0)) λv7=>
 aI v7
 (some ((I 5),H))
 (bo (aA a0) λv10=> bo (ah v10 0) λv11=> bnd (ld v11 H) λv12 H=> bnd (lda 9 v3 H) λv13 H=> bnd (unG H (C 82 [v13] H.guard)) λv14 H=> bnd (bs 162 1 [(0,v14)] H) λv15 H=> bnd (app 70 9 88 v12 v15 H) λv16 H=> bo (aA a0) λv17=> bo (ah v17 0) λv18=> bnd (st 1 v18 v16 H) λ_ H=>
  some ((I 0),H))
theorem aaC:Rn2 163 UO:=λ_ _ _ _ _ h=>
 rnG agv Tryz.func163 (by kernel_rfl) (by kernel_rfl) h
def agw:Ann:=⟨[],[(1,rF 23 []),(4,rF 6 (some true::rF 15 [])),(7,rF 12 []),(13,rF 14 [])],[]⟩
def oN(C:Callee)(a0 a1:AV)(H:aj):OA:=
 bnd (iC 70 a1 H) λv3 H=> bnd (alc 70 [zI,zI,zI,zI,zI,zI,zI,zB,zN] H) λv4 H=>
 bnd (lda 9 v3 H) λv9 H=> bnd (C 141 [v9] H) λv10 H=> bo (bi .eql 76 v10 (I 0)) λv11=> gdA (some v11) true (aC (ah v3 2) H) H λv13 H=> gdA (some v11) true (ld v13 H) H λv14 H=> gdA (some v11) true (aC (some a0) H) H λv15 H=> gdA (some v11) true (aC (aA v15) H) H λv16 H=> gdA (some v11) true (aC (ah v16 10) H) H λv17 H=> gdA (some v11) true (ld v17 H) H λv18 H=> gdA (some v11) true (aC (bi .eql 3 v14 v18) H) H λv19 H=> bo (bg v11 v19 (B false)) λv20=> gdA (some v20) true (aC (ah v3 1) H) H λv22 H=> gdA (some v20) true (ld v22 H) H λv23 H=> gdA (some v20) true (aC (some a0) H) H λv24 H=> gdA (some v20) true (aC (aA v24) H) H λv25 H=> gdA (some v20) true (aC (ah v25 2) H) H λv26 H=> gdA (some v20) true (aC (ah v26 0) H) H λv27 H=> gdA (some v20) true (ld v27 H) H λv28 H=> gdA (some v20) true (aC (bi .lss 3 v23 v28) H) H λv29 H=> bo (bg v20 v29 (B false)) λv30=>
 bo (un .not v30) λv32=> gdA (some v32) false (aC (ah v3 0) H) H λv34 H=> gdA (some v32) false (ld v34 H) H λv35 H=> gdA (some v32) false (aC (bi .neq 3 v35 (I 1)) H) H λv36 H=> gdA (some v32) false (aC (some v36) H) H λv37 H=> gdA (some v37) true (aC (ah v3 0) H) H λv38 H=> gdA (some v37) true (ld v38 H) H λv39 H=> gdA (some v37) true (aC (bi .neq 3 v39 (I 2)) H) H λv40 H=> gdA (some v32) false (aC (bg v37 v40 (B false)) H) H λv41 H=> bo (bg v32 (B true) v41) λv42=>
 aI v42
 (bo (bd 70 []) λv43=> bnd (st 9 v4 v43 H) λ_ H=>
  bnd (lda 9 v4 H) λr0 _=> some (.tup [r0,(B false),(I 1)],H))
 (bo (aA a0) λv45=> bo (ah v45 2) λv46=> bnd (lda 8 v46 H) λv47 H=> bo (ah v3 4) λv48=> bnd (ld v48 H) λv49 H=> bnd (unG H (C 139 [v47,v49] H.guard)) λv50 H=> bo (aA a0) λv52=> bo (ah v52 10) λv53=> bnd (ld v53 H) λv54 H=> bo (bi .neq 3 v50 v54) λv55=> gdA (some v55) false (aC (ah v3 4) H) H λv57 H=> gdA (some v55) false (ld v57 H) H λv58 H=> gdA (some v55) false (aC (some a0) H) H λv59 H=> gdA (some v55) false (aC (aA v59) H) H λv60 H=> gdA (some v55) false (aC (ah v60 2) H) H λv61 H=> gdA (some v55) false (aC (ah v61 1) H) H λv62 H=> gdA (some v55) false (ld v62 H) H λv63 H=> gdA (some v55) false (aC (bi .geq 3 v58 v63) H) H λv64 H=> bo (bg v55 (B true) v64) λv65=>
  aI v65
  (bo (bd 70 []) λv66=> bnd (st 9 v4 v66 H) λ_ H=>
  bnd (lda 9 v4 H) λr0 _=> some (.tup [r0,(B false),(I 3)],H))
  (bo (ah v3 0) λv67=> bnd (ld v67 H) λv68 H=> bo (bi .eql 3 v68 (I 1)) λv69=>
  aI v69
  (bo (aA a0) λv71=> bo (ah v71 1) λv72=> bnd (ld v72 H) λv73 H=> bo (ah v3 4) λv74=> bnd (ld v74 H) λv75 H=> bo (ah v3 1) λv76=> bnd (ld v76 H) λv77 H=> bo (ah v3 3) λv78=> bnd (ld v78 H) λv79 H=> bnd (C 195 [v73,v75,v77,v79] H) λv80 H=> bo (un .not v80) λv81=>
   aI v81
   (bo (bd 70 []) λv82=> bnd (st 9 v4 v82 H) λ_ H=>
   bnd (lda 9 v4 H) λr0 _=> some (.tup [r0,(B false),(I 0)],H))
   (bo (ah v3 4) λv84=> bnd (ld v84 H) λv85 H=> bo (ah v3 1) λv86=> bnd (ld v86 H) λv87 H=> bo (ah v3 3) λv88=> bnd (ld v88 H) λv89 H=> bnd (C 162 [a0,v85,v87,v89] H) λv90 H=> bnd (st 9 v4 v90 H) λ_ H=>
   bnd (lda 9 v4 H) λr0 _=> some (.tup [r0,(B true),(I 0)],H)))
  (bnd (lda 9 v3 H) λv92 H=> bnd (C 196 [a0,v92] H) λv93 H=>
   bo (bi .neq 76 v93 (I 0)) λv95=>
   aI v95
   (bo (bd 70 []) λv96=> bnd (st 9 v4 v96 H) λ_ H=>
   bnd (lda 9 v4 H) λr0 _=> some (.tup [r0,(B false),v93],H))
   (bo (aA a0) λv99=> bo (ah v99 10) λRk=> bnd (ld Rk H) λWW H=> bo (ah v3 1) λaeH=> bnd (ld aeH H) λaeI H=> bo (ah v3 3) λaeJ=> bnd (ld aeJ H) λv105 H=> bo (ah v3 4) λakM=> bnd (ld akM H) λv107 H=> bo (bd 70 [(0,(I 8)),(1,WW),(2,aeI),(3,v105),(4,v107)]) λZX=> bnd (st 9 v4 ZX H) λ_ H=>
   bnd (lda 9 v4 H) λr0 _=> some (.tup [r0,(B true),(I 0)],H)))))
theorem agx:Rn2 164 oN:=λ_ _ _ _ _ h=>
 rnG agw Tryz.func164 (by kernel_rfl) (by kernel_rfl) h
def agy:Ann:=⟨[],[(6,some false::some false::some true::rF 9 (none::some false::[])),(9,rF 8 []),(17,rF 13 []),(20,rF 6 [])],[(9,[(3,5)]),(17,[(3,8),(6,8),(6,10)]),(20,[(0,3)])]⟩
def sS(C:Callee)(t0 t4 t6 t8:AV)(H:aj):OA:=
 bnd (lda 9 t8 H) λv89 H0=> bnd (lda 6 t6 H0) λv91 H2=> bnd (C 157 [t0,v91] H2) λv92 H3=> bnd (st 9 t4 v89 H3) λ_ H4=> ck (aS t8) H2 H3 <|
 bnd (lda 9 t4 H4) λr0 _=> some (.tup [r0,v92],H4)
def wE(C:Callee)(a0 a1:AV)(H:aj):OA:=
 bnd (iC 70 a1 H) λv3 H=> bnd (alc 70 [zI,zI,zI,zI,zI,zI,zI,zB,zN] H) λv4 H=>
 bnd (lda 9 v3 H) λv9 H=> bnd (C 141 [v9] H) λv10 H=> bo (bi .neq 76 v10 (I 0)) λv11=> gdA (some v11) false (aC (ah v3 0) H) H λv13 H=> gdA (some v11) false (ld v13 H) H λv14 H=> gdA (some v11) false (aC (bi .lss 3 v14 (I 3)) H) H λv15 H=> bo (bg v11 (B true) v15) λv16=> gdA (some v16) false (aC (ah v3 0) H) H λv18 H=> gdA (some v16) false (ld v18 H) H λv19 H=> gdA (some v16) false (aC (bi .gtr 3 v19 (I 6)) H) H λv20 H=> bo (bg v16 (B true) v20) λv21=>
 aI v21
 (bo (bd 70 []) λv22=> bnd (st 9 v4 v22 H) λ_ H=>
  bnd (lda 9 v4 H) λr0 _=> some (.tup [r0,(I 1)],H))
 (bo (ah v3 4) λv25=> bnd (ld v25 H) λv26 H=> bnd (C 37 [a0,v26] H) λv27 H=> bo (aF v27 0) λv28=> bo (aF v27 1) λv29=> bnd (alc 93 [zI,zI,zI,zI,zB,zN] H) λv6 H=> bnd (st 6 v6 v28 H) λ_ H=>
  bo (un .not v29) λv31=>
  aI v31
  (bo (bd 70 []) λv32=> bnd (st 9 v4 v32 H) λ_ H=>
  bnd (lda 9 v4 H) λr0 _=> some (.tup [r0,(I 3)],H))
  (bnd (alc 70 [zI,zI,zI,zI,zI,zI,zI,zB,zN] H) λv8 H=> bo (ah v3 0) λv33=> bnd (ld v33 H) λv34 H=> bnd (unG H (C 197 [v34] H.guard)) λv35 H=> bo (ah v3 2) λv36=> bnd (ld v36 H) λv37 H=> bo (ah v3 1) λv38=> bnd (ld v38 H) λv39 H=> bo (ah v3 3) λv40=> bnd (ld v40 H) λv41 H=> bo (ah v3 4) λv42=> bnd (ld v42 H) λv43 H=> bo (bd 70 [(0,v35),(1,v37),(2,v39),(3,v41),(4,v43)]) λv44=> bnd (st 9 v8 v44 H) λ_ H=>
  bo (ah v3 0) λv45=> bnd (ld v45 H) λv46 H=>
  bo (bi .eql 3 v46 (I 3)) λv48=>
  aI v48
  (bo (ah v6 5) λv49=> bnd (ld v49 H) λv50 H1=> bo (ah v6 4) λv51=> bnd (ld v51 H1) λv52 H3=> bo (ah v8 8) λv53=> bnd (st 1 v53 v50 H3) λ_ H5=> bo (ah v8 7) λv54=> bnd (st 1 v54 v52 H5) λ_ H7=> ck (aS v51) H3 H5 <|
   bo (ah v6 4) λv55=> bnd (st 1 v55 (B false) H7) λ_ H7=>
   bo (ah v6 0) λv56=> bo (ah v3 5) λv57=> bnd (ld v57 H7) λv58 H7=> bnd (C 198 [v56,v58] H7) λv59 H7=>
   sS C a0 v4 v6 v8 H7)
  (bo (bi .eql 3 v46 (I 4)) λv61=>
   aI v61
   (bo (ah v6 0) λv62=> bo (ah v3 5) λv63=> bnd (ld v63 H) λv64 H=> bnd (C 199 [v62,v64] H) λv65 H=>
   sS C a0 v4 v6 v8 H)
   (bo (bi .eql 3 v46 (I 5)) λv67=>
   aI v67
   (bo (ah v6 0) λv68=> bo (ah v3 5) λv69=> bnd (ld v69 H) λv70 H=> bnd (C 198 [v68,v70] H) λv71 H=>
    sS C a0 v4 v6 v8 H)
   (bo (bi .eql 3 v46 (I 6)) λv73=>
    aI v73
    (bo (ah v6 5) λv74=> bnd (ld v74 H) λv75 ajC=> bo (ah v6 4) λv76=> bnd (ld v76 ajC) λv77 ads=> bo (ah v6 0) λv78=> bo (ah v78 0) λv79=> bnd (ld v79 ads) λv80 agz=> bo (ah v8 8) λv81=> bnd (st 1 v81 v75 agz) λ_ H8=> bo (ah v8 7) λv82=> bnd (st 1 v82 v77 H8) λ_ H10=> bo (ah v8 5) λv83=> bnd (st 1 v83 v80 H10) λ_ H12=> ck (aS v76) agz H8 <| ck (aS v79) agz H8 <| ck (aS v79) H8 H10 <|
    bo (ah v3 4) λv85=> bnd (ld v85 H12) λv86 H12=> bnd (C 200 [a0,v86] H12) λv87 H12=>
    bnd (lda 9 v8 H12) λv88 H12=> bnd (st 9 v4 v88 H12) λ_ H12=>
    bnd (lda 9 v4 H12) λr0 _=> some (.tup [r0,(I 0)],H12))
    (sS C a0 v4 v6 v8 H))))))
theorem aaD:Rn2 165 wE:=λ_ _ _ _ _ h=>
 rnG agy Tryz.func165 (by kernel_rfl) (by kernel_rfl) h
def aaE(C:Callee)(a0:AV)(H:aj):OA:=
 bnd (iC 40 a0 H) λv1 H=>
 bo (ah v1 1) λv3=> bnd (ld v3 H) λv4 H=> bo (ah v1 2) λv5=> bnd (ld v5 H) λv6 H=> bo (bi .mul 3 v4 v6) λv7=>
 some (v7,H)
theorem agB:Rn1 166 aaE:=λ_ _ _ _ h=>
 rnG an0 Tryz.func166 (by kernel_rfl) (by kernel_rfl) h
def aaF(C:Callee)(a0 a1 a2:AV)(H:aj):OA:=
 bnd (alc 57 [zI,zI,zI,zI,zI,zI,zN,zI,zI] H) λv6 H=>
 bo (bd 57 [(0,a0),(1,a1),(2,a2),(3,(I 1)),(5,(I (-1))),(7,(I (-1))),(8,(I (-1)))]) λv10=> bnd (st 9 v6 v10 H) λ_ H=>
 bnd (lda 9 v6 H) λr0 _=> some (r0,H)
theorem agC:Rn3 167 aaF:=λ_ _ _ _ _ _ h=>
 rnG an0 Tryz.func167 (by kernel_rfl) (by kernel_rfl) h
def aaG:Ann:=⟨[(4,[0,1,5,11,12,13])],[(5,rF 18 [])],[]⟩
def zF:=lF Tryz.prog Tryz.f168 41 aaG 0
def wF(C:Callee)(t0 t1 t5 t11 t12 t13:AV)(H:aj):OA:=
 bo (bi .add 3 t13 (I 1)) λv39=>
 zF C [t0,t1,t5,t11,t12,v39] H
def aaH(C:Callee)(a0 a1:AV)(H:aj):OA:=
 bo (aA a0) λv9=> bo (ah v9 0) λv10=> bnd (ld v10 H) λv11 H=> bnd (lnS v11 H) λv12 H=>
 zF C [a0,a1,(.s (Go.Value.slice none 0 0)),v11,v12,(I 0)] H
theorem OV(C:Callee)(t0 t1 t5 t11 t12 t13:AV)(H:aj):zF C [t0,t1,t5,t11,t12,t13] H=
 bo (bi .lss 3 t13 t12) λv14=>
 aI v14
 (bnd (ix 6 t11 t13 H) λv15 H=> bnd (lda 6 v15 H) λv16 H=> bnd (alc 93 [zI,zI,zI,zI,zB,zN] H) λv7 H=> bnd (st 6 v7 v16 H) λ_ H=>
  bo (bi .geq 3 t1 (I 0)) λv18=> gdA (some v18) true (aC (ah v7 2) H) H λv20 H=> gdA (some v18) true (ld v20 H) H λv21 H=> gdA (some v18) true (aC (some t0) H) H λv22 H=> gdA (some v18) true (aC (aA v22) H) H λv23 H=> gdA (some v18) true (aC (ah v23 1) H) H λv24 H=> gdA (some v18) true (ld v24 H) H λv25 H=> gdA (some v18) true (aC (bi .rem 3 v21 v25) H) H λv26 H=> gdA (some v18) true (aC (some t1) H) H λv27 H=> gdA (some v18) true (aC (some t0) H) H λv28 H=> gdA (some v18) true (aC (aA v28) H) H λv29 H=> gdA (some v18) true (aC (ah v29 1) H) H λv30 H=> gdA (some v18) true (ld v30 H) H λv31 H=> gdA (some v18) true (aC (bi .rem 3 v27 v31) H) H λv32 H=> gdA (some v18) true (aC (bi .eql 3 v26 v32) H) H λv33 H=> bo (bg v18 v33 (B false)) λv34=>
  aI v34
  (bnd (lda 6 v7 H) λv36 H=> bnd (bs 131 1 [(0,v36)] H) λv37 H=> bnd (app 93 6 64 t5 v37 H) λv38 H=>
  wF C t0 t1 v38 t11 t12 t13 H)
  (wF C t0 t1 t5 t11 t12 t13 H))
 (some (t5,H)):=
 lpE.trans (by kernel_rfl)
theorem agD:Rn2 168 aaH:=λ_ _ _ _ _ h=>
 rnG aaG Tryz.func168 (by kernel_rfl) (by kernel_rfl) h
def aaI:Ann:=⟨[(6,[0,1,4,5,6])],[(7,rF 8 [])],[]⟩
def zG:=lF Tryz.prog Tryz.f169 33 aaI 0
def Gj(C:Callee)(t0 t1 t4:AV)(H:aj):OA:=
 bnd (ix 6 t0 (I 0) H) λv12 H=> bnd (lda 6 v12 H) λv13 H=> bnd (alc 93 [zI,zI,zI,zI,zB,zN] H) λv5 H=> bnd (st 6 v5 v13 H) λ_ H=>
 zG C [t0,t1,t4,v5,(I 1)] H
def zH(C:Callee)(t0 t1 t4 t5 t6:AV)(H:aj):OA:=
 bo (bi .add 3 t6 (I 1)) λv19=>
 zG C [t0,t1,t4,t5,v19] H
def aaJ(C:Callee)(a0 a1:AV)(H:aj):OA:=
 bnd (alc 93 [zI,zI,zI,zI,zB,zN] H) λv4 H=>
 bnd (lnS a0 H) λv8 H=> bo (bi .lss 3 v8 (I 1)) λv9=>
 aI v9
 (bnd (stk H) λv10 H=> bnd (stk H) λ_ H=>
  Gj C a0 a1 v4 H)
 (Gj C a0 a1 v4 H)
theorem OW(C:Callee)(t0 t1 t4 t5 t6:AV)(H:aj):zG C [t0,t1,t4,t5,t6] H=
 bnd (lnS t0 H) λv16 H=> bo (bi .lss 3 t6 v16) λv17=>
 aI v17
 (bnd (ix 6 t0 t6 H) λv23 H=> bnd (lda 6 v23 H) λv24 H=> bnd (lda 6 t5 H) λv25 H=> bnd (uz Tryz.prog C t1 [v24,v25] H) λv26 H=> bo (bi .lss 3 v26 (I 0)) λv27=>
  aI v27
  (bnd (ix 6 t0 t6 H) λv30 H=> bnd (lda 6 v30 H) λv31 H=> bnd (st 6 t5 v31 H) λ_ H=>
  zH C t0 t1 t4 t5 t6 H)
  (zH C t0 t1 t4 t5 t6 H))
 (bnd (lda 6 t5 H) λv32 H=> bnd (st 6 t4 v32 H) λ_ H=>
  bnd (lda 6 t4 H) λr0 _=> some (r0,H)):=
 lpE.trans (by kernel_rfl)
theorem agE:Rn2 169 aaJ:=λ_ _ _ _ _ h=>
 rnG aaI Tryz.func169 (by kernel_rfl) (by kernel_rfl) h
def aaK(C:Callee)(a0 a1:AV)(H:aj):OA:=
 bnd (iC 93 a0 H) λv2 H=> bnd (iC 93 a1 H) λv3 H=>
 bo (ah v2 3) λv5=> bnd (ld v5 H) λv6 H=> bo (ah v3 3) λv7=> bnd (ld v7 H) λv8 H=> bo (bi .sub 3 v6 v8) λv9=>
 some (v9,H)
theorem agF:Rn2 170 aaK:=λ_ _ _ _ _ h=>
 rnG an0 Tryz.func170 (by kernel_rfl) (by kernel_rfl) h
def aaL(C:Callee)(a0:AV)(H:aj):OA:=
 bo (bi .neq 3 a0 a0) λv5=>
 some (v5,H)
theorem agG:Rn1 177 aaL:=λ_ _ _ _ h=>
 rnG an0 Tryz.func177 (by kernel_rfl) (by kernel_rfl) h
def UQ(C:Callee)(a0 a1:AV)(H:aj):OA:=
 bo (bi .lss 3 a0 (I 0)) λv6=>
 aI v6
 (some ((I (-1)),H))
 (bo (bi .rem 3 a0 a1) λv9=>
  some (v9,H))
theorem agH:Rn2 178 UQ:=λ_ _ _ _ _ h=>
 rnG an0 Tryz.func178 (by kernel_rfl) (by kernel_rfl) h
def Jl(C:Callee)(a0 a1 a2:AV)(H:aj):OA:=
 bo (bi .geq 3 a0 a1) λv9=> gdA (some v9) true (aC (some a0) H) H λv11 H=> gdA (some v9) true (aC (some a2) H) H λv12 H=> gdA (some v9) true (aC (bi .lss 3 v11 v12) H) H λv13 H=> bo (bg v9 v13 (B false)) λv14=>
 some (v14,H)
theorem aaM:Rn3 179 Jl:=λ_ _ _ _ _ _ h=>
 rnG an0 Tryz.func179 (by kernel_rfl) (by kernel_rfl) h
def UR:Ann:=⟨[(4,[3,7,8,9]),(8,[3,7,8,9,18])],[],[]⟩
def wG:=lF Tryz.prog Tryz.f180 30 UR 0
def zJ:=lF Tryz.prog Tryz.f180 30 UR 1
def aaN(C:Callee)(a0:AV)(H:aj):OA:=
 bnd (lnS a0 H) λv8 H=>
 wG C [(.s (Go.Value.int Go.IntKind.u16 65535)),a0,v8,(I 0)] H
theorem OX(C:Callee)(t3 t7 t8 t9:AV)(H:aj):wG C [t3,t7,t8,t9] H=
 bo (bi .lss 3 t9 t8) λv10=>
 aI v10
 (bnd (ix 1 t7 t9 H) λv11 H=> bnd (ld v11 H) λv12 H=>
  bnd (cv 5 33 v12 H) λv15 H=> bo (bi .shl 33 v15 (.s (Go.Value.int Go.IntKind.u64 8))) λv16=> bo (bi .xor 33 t3 v16) λv17=>
  zJ C [v17,t7,t8,t9,(I 0)] H)
 (some (t3,H)):=
 lpE.trans (by kernel_rfl)
theorem OY(C:Callee)(t3 t7 t8 t9 t18:AV)(H:aj):zJ C [t3,t7,t8,t9,t18] H=
 bo (bi .lss 3 t18 (I 8)) λv19=>
 aI v19
 (bo (bi .shr 33 t3 (.s (Go.Value.int Go.IntKind.u64 15))) λv21=>
  bo (bi .shl 33 t3 (.s (Go.Value.int Go.IntKind.u64 1))) λv23=> bo (bi .mul 33 v21 (.s (Go.Value.int Go.IntKind.u16 4129))) λv25=> bo (bi .xor 33 v23 v25) λv26=>
  bo (bi .add 3 t18 (I 1)) λv27=>
  zJ C [v26,t7,t8,t9,v27] H)
 (bo (bi .add 3 t9 (I 1)) λv28=>
  wG C [t3,t7,t8,v28] H):=
 lpE.trans (by kernel_rfl)
theorem agI:Rn1 180 aaN:=λ_ _ _ _ h=>
 rnG UR Tryz.func180 (by kernel_rfl) (by kernel_rfl) h
def UU:Ann:=⟨[(4,[0,3,9,10,11]),(12,[6,25,26,27])],[],[]⟩
def Gl:=lF Tryz.prog Tryz.f181 36 UU 0
def Gm:=lF Tryz.prog Tryz.f181 36 UU 1
def zK(C:Callee)(t0 t3 t9 t10 t11:AV)(H:aj):OA:=
 bo (bi .add 3 t11 (I 1)) λv22=>
 Gl C [t0,t3,t9,t10,v22] H
def aaO(C:Callee)(a0:AV)(H:aj):OA:=
 bnd (lnS a0 H) λv10 H=>
 Gl C [a0,(I 0),a0,v10,(I 0)] H
theorem Gn(C:Callee)(t0 t3 t9 t10 t11:AV)(H:aj):Gl C [t0,t3,t9,t10,t11] H=
 bo (bi .lss 3 t11 t10) λv12=>
 aI v12
 (bnd (ix 1 t9 t11 H) λv13 H=> bnd (ld v13 H) λv14 H=>
  bnd (lnS v14 H) λv17 H=> bo (bi .add 3 t3 v17) λv18=>
  bo (bi .lss 3 v18 (I 0)) λv20=>
  aI v20
  (bnd (stk H) λv21 H=> bnd (stk H) λ_ H=>
  zK C t0 v18 t9 t10 t11 H)
  (zK C t0 v18 t9 t10 t11 H))
 (bnd (C 202 [(.s (Go.Value.slice none 0 0)),t3] H) λv24 H=>
  bnd (lnS t0 H) λv26 H=>
  Gm C [v24,t0,v26,(I 0)] H):=
 lpE.trans (by kernel_rfl)
theorem Gp(C:Callee)(t6 t25 t26 t27:AV)(H:aj):Gm C [t6,t25,t26,t27] H=
 bo (bi .lss 3 t27 t26) λv28=>
 aI v28
 (bnd (ix 1 t25 t27 H) λv29 H=> bnd (ld v29 H) λv30 H=>
  bnd (app 5 1 1 t6 v30 H) λv33 H=>
  bo (bi .add 3 t27 (I 1)) λv34=>
  Gm C [v33,t25,t26,v34] H)
 (some (t6,H)):=
 lpE.trans (by kernel_rfl)
theorem agJ:Rn1 181 aaO:=λ_ _ _ _ h=>
 rnG UU Tryz.func181 (by kernel_rfl) (by kernel_rfl) h
def zL(C:Callee)(t2 t4 t5:AV)(H:aj):OA:=
 bnd (lda 9 t4 H) λv20 H=> bnd (st 9 t2 v20 H) λ_ H=>
 bnd (lda 9 t2 H) λr0 _=> some (.tup [r0,t5],H)
def UW(C:Callee)(a0:AV)(H:aj):OA:=
 bnd (alc 70 [zI,zI,zI,zI,zI,zI,zI,zB,zN] H) λv2 H=>
 bnd (C 203 [a0] H) λv8 H=> bo (aF v8 0) λv9=> bo (aF v8 1) λv10=> bnd (alc 70 [zI,zI,zI,zI,zI,zI,zI,zB,zN] H) λv4 H=> bnd (st 9 v4 v9 H) λ_ H=>
 aI v10
 (bo (aA a0) λv14=> bo (ah v14 0) λv15=> bnd (ld v15 H) λv16 H=> bnd (C 99 [v16,(I 0),(I 1)] H) λv17 H=> bo (aA a0) λv18=> bo (ah v18 0) λv19=> bnd (st 1 v19 v17 H) λ_ H=>
  zL C v2 v4 v10 H)
 (zL C v2 v4 v10 H)
theorem agK:Rn1 183 UW:=λ_ _ _ _ h=>
 rnG an0 Tryz.func183 (by kernel_rfl) (by kernel_rfl) h
def Ef(C:Callee)(a0 a1:AV)(H:aj):OA:=
 bnd (iC 57 a0 H) λv2 H=> bnd (iC 70 a1 H) λv3 H=>
 bo (ah v2 3) λv6=> bnd (ld v6 H) λv7 H=> bnd (C 190 [v7] H) λv8 H=> bnd (C 197 [v8] H) λv9 H=>
 bo (bi .neq 3 v9 (I 0)) λv11=> gdA (some v11) true (aC (ah v3 0) H) H λv13 H=> gdA (some v11) true (ld v13 H) H λv14 H=> gdA (some v11) true (aC (some v9) H) H λv15 H=> gdA (some v11) true (aC (bi .eql 3 v14 v15) H) H λv16 H=> bo (bg v11 v16 (B false)) λv17=> gdA (some v17) true (aC (ah v3 3) H) H λv19 H=> gdA (some v17) true (ld v19 H) H λv20 H=> gdA (some v17) true (aC (ah v2 2) H) H λv21 H=> gdA (some v17) true (ld v21 H) H λv22 H=> gdA (some v17) true (aC (bi .eql 3 v20 v22) H) H λv23 H=> bo (bg v17 v23 (B false)) λv24=> gdA (some v24) true (aC (ah v3 4) H) H λv26 H=> gdA (some v24) true (ld v26 H) H λv27 H=> gdA (some v24) true (aC (ah v2 1) H) H λv28 H=> gdA (some v24) true (ld v28 H) H λv29 H=> gdA (some v24) true (aC (bi .eql 3 v27 v29) H) H λv30 H=> bo (bg v24 v30 (B false)) λv31=>
 some (v31,H)
theorem agL:Rn2 184 Ef:=λ_ _ _ _ _ h=>
 rnG an0 Tryz.func184 (by kernel_rfl) (by kernel_rfl) h
def agM:Ann:=⟨[],[(1,rF 8 (some true::rF 8 []))],[(1,[(3,10),(5,10),(5,12)])]⟩
def UY(C:Callee)(a0 a1 a2 a3:AV)(H:aj):OA:=
 bnd (iC 57 a0 H) λv4 H=> bnd (iC 70 a3 H) λv7 H=> bnd (alc 57 [zI,zI,zI,zI,zI,zI,zN,zI,zI] H) λv8 H=>
 bo (ah v7 6) λv10=> bnd (ld v10 H) λv11 H1=> bo (ah v7 5) λv12=> bnd (ld v12 H1) λv13 H3=> bo (ah v7 5) λv14=> bnd (ld v14 H3) λv15 H5=> bo (ah v7 8) λv16=> bnd (ld v16 H5) λv17 H7=> bnd (unG H7 (C 46 [v17] H7.guard)) λv18 H8=> bo (ah v4 4) λv19=> bnd (st 1 v19 v11 H8) λ_ H10=> bo (ah v4 5) λv20=> bnd (st 1 v20 v13 H10) λ_ H12=> bo (ah v4 8) λv21=> bnd (st 1 v21 v15 H12) λ_ H14=> bo (ah v4 6) λv22=> bnd (st 1 v22 v18 H14) λ_ H16=> ck (aS v12) H8 H10 <| ck (aS v14) H8 H10 <| ck (aS v14) H10 H12 <|
 bo (ah v4 4) λv23=> bnd (ld v23 H16) λv24 H16=> bo (bi .neq 3 v24 (I 0)) λv25=>
 aI v25
 (bo (ah v4 3) λv26=> bnd (st 1 v26 (I 2) H16) λ_ H16=>
  bnd (lda 9 v4 H16) λv27 H16=> bnd (st 9 v8 v27 H16) λ_ H16=>
  bnd (lda 9 v8 H16) λr0 _=> some (.tup [r0,(B true)],H16))
 (bo (ah v4 1) λv29=> bnd (ld v29 H16) λv30 H16=> bo (ah v7 8) λv31=> bnd (ld v31 H16) λv32 H16=> bnd (C 204 [v30,(I (-1)),(I (-1)),(B false),v32] H16) λv33 H16=> bnd (C 157 [a2,v33] H16) λv34 H16=>
  bo (ah v4 3) λv36=> bnd (st 1 v36 (I 6) H16) λ_ H16=> bo (ah v4 4) λv37=> bnd (st 1 v37 (I 1) H16) λ_ H16=> bo (ah v4 5) λv38=> bnd (st 1 v38 a1 H16) λ_ H16=> bo (ah v4 6) λv39=> bnd (st 1 v39 (.s (Go.Value.slice none 0 0)) H16) λ_ H16=>
  bnd (lda 9 v4 H16) λv40 H16=> bnd (st 9 v8 v40 H16) λ_ H16=>
  bnd (lda 9 v8 H16) λr0 _=> some (.tup [r0,(B true)],H16))
theorem agN:Rn4 185 UY:=λ_ _ _ _ _ _ _ h=>
 rnG agM Tryz.func185 (by kernel_rfl) (by kernel_rfl) h
def zO(C:Callee)(t4 t8:AV)(H:aj):OA:=
 bnd (lda 9 t4 H) λv30 H=> bnd (st 9 t8 v30 H) λ_ H=>
 bnd (lda 9 t8 H) λr0 _=> some (.tup [r0,(B true)],H)
def UZ(C:Callee)(a0 a1 a2 a3:AV)(H:aj):OA:=
 bnd (iC 57 a0 H) λv4 H=> bnd (iC 70 a3 H) λv7 H=> bnd (alc 57 [zI,zI,zI,zI,zI,zI,zN,zI,zI] H) λv8 H=>
 bo (ah v4 1) λv11=> bnd (ld v11 H) λv12 H=> bo (ah v4 5) λv13=> bnd (ld v13 H) λv14 H=> bo (ah v7 8) λv15=> bnd (ld v15 H) λv16 H=> bnd (C 204 [v12,v14,(I (-1)),(B false),v16] H) λv17 H=> bnd (C 157 [a2,v17] H) λv18 H=>
 bo (ah v4 3) λv20=> bnd (st 1 v20 (I 6) H) λ_ H=> bo (ah v4 4) λv21=> bnd (st 1 v21 (I 1) H) λ_ H=> bo (ah v4 5) λv22=> bnd (st 1 v22 a1 H) λ_ H=> bo (ah v4 6) λv23=> bnd (st 1 v23 (.s (Go.Value.slice none 0 0)) H) λ_ H=>
 bo (ah v7 7) λv24=> bnd (ld v24 H) λv25 H=>
 aI v25
 (bo (ah v7 8) λv26=> bnd (ld v26 H) λv27 H=> bnd (C 46 [v27] H) λv28 H=> bo (ah v4 6) λv29=> bnd (st 1 v29 v28 H) λ_ H=>
  zO C v4 v8 H)
 (zO C v4 v8 H)
theorem agO:Rn4 186 UZ:=λ_ _ _ _ _ _ _ h=>
 rnG an0 Tryz.func186 (by kernel_rfl) (by kernel_rfl) h
def wH(C:Callee)(t1 t2 t3 t6:AV)(H:aj):OA:=
 bo (ah t3 7) λv27=> bnd (ld v27 H) λv28 H=> bo (bi .neq 3 v28 (I (-1))) λv29=>
 aI v29
 (bo (ah t3 3) λv30=> bnd (st 1 v30 (I 3) H) λ_ H=>
  bnd (lda 9 t3 H) λv31 H=> bnd (st 9 t6 v31 H) λ_ H=>
  bnd (lda 9 t6 H) λr0 _=> some (r0,H))
 (bo (ah t3 1) λv33=> bnd (ld v33 H) λv34 H=> bo (ah t3 6) λv35=> bnd (ld v35 H) λv36 H=> bnd (C 204 [v34,(I (-1)),(I (-1)),(B true),v36] H) λv37 H=> bnd (C 157 [t2,v37] H) λv38 H=>
  bo (ah t3 3) λv40=> bnd (st 1 v40 (I 6) H) λ_ H=> bo (ah t3 4) λv41=> bnd (st 1 v41 (I 2) H) λ_ H=> bo (ah t3 5) λv42=> bnd (st 1 v42 t1 H) λ_ H=> bo (ah t3 6) λv43=> bnd (st 1 v43 (.s (Go.Value.slice none 0 0)) H) λ_ H=>
  bnd (lda 9 t3 H) λv44 H=> bnd (st 9 t6 v44 H) λ_ H=>
  bnd (lda 9 t6 H) λr0 _=> some (r0,H))
def Jm(C:Callee)(a0 a1 a2:AV)(H:aj):OA:=
 bnd (iC 57 a0 H) λv3 H=> bnd (alc 57 [zI,zI,zI,zI,zI,zI,zN,zI,zI] H) λv6 H=>
 bo (ah v3 1) λv11=> bnd (ld v11 H) λv12 H=> bnd (C 37 [a2,v12] H) λv13 H=> bo (aF v13 0) λv14=> bo (aF v13 1) λv15=> bnd (alc 93 [zI,zI,zI,zI,zB,zN] H) λv7 H=> bnd (st 6 v7 v14 H) λ_ H=>
 bo (ah v3 7) λv16=> bnd (ld v16 H) λv17 H=> bo (bi .eql 3 v17 a1) λv19=> gdA (some v19) true (aC (some v15) H) H λv21 H=> bo (bg v19 v21 (B false)) λv22=>
 aI v22
 (bo (ah v7 0) λv23=> bo (ah v23 0) λv24=> bnd (ld v24 H) λv25 H=> bo (ah v3 7) λv26=> bnd (st 1 v26 v25 H) λ_ H=>
  wH C a1 a2 v3 v6 H)
 (wH C a1 a2 v3 v6 H)
theorem agP:Rn3 187 Jm:=λ_ _ _ _ _ _ h=>
 rnG an0 Tryz.func187 (by kernel_rfl) (by kernel_rfl) h
def agQ:Ann:=⟨[],[(1,rF 14 []),(4,rF 12 []),(13,rF 9 [])],[(1,[(3,7),(5,7),(5,9)]),(4,[(5,7)]),(13,[(2,4)])]⟩
def nJ(C:Callee)(t3 t6:AV)(H:aj):OA:=
 bnd (lda 9 t3 H) λv65 H=> bnd (st 9 t6 v65 H) λ_ H=>
 bnd (lda 9 t6 H) λr0 _=> some (r0,H)
def Eh(C:Callee)(a0 a1 a2:AV)(H:aj):OA:=
 bnd (iC 57 a0 H) λv3 H=> bnd (iC 70 a2 H) λv5 H=> bnd (alc 57 [zI,zI,zI,zI,zI,zI,zN,zI,zI] H) λv6 H=>
 bo (ah v5 6) λv9=> bnd (ld v9 H) λv10 H1=> bo (ah v5 5) λv11=> bnd (ld v11 H1) λv12 H3=> bo (ah v5 5) λv13=> bnd (ld v13 H3) λv14 H5=> bo (ah v3 4) λv15=> bnd (st 1 v15 v10 H5) λ_ H7=> bo (ah v3 5) λv16=> bnd (st 1 v16 v12 H7) λ_ H9=> bo (ah v3 8) λv17=> bnd (st 1 v17 v14 H9) λ_ H11=> bo (ah v3 6) λv18=> bnd (st 1 v18 (.s (Go.Value.slice none 0 0)) H11) λ_ H13=> ck (aS v11) H5 H7 <| ck (aS v13) H5 H7 <| ck (aS v13) H7 H9 <|
 bo (ah v3 3) λv19=> bnd (st 1 v19 (I 6) H13) λ_ H13=>
 bo (ah v3 1) λv22=> bnd (ld v22 H13) λv23 H13=> bnd (C 37 [a1,v23] H13) λv24 H13=> bo (aF v24 0) λv25=> bo (aF v24 1) λv26=> bnd (alc 93 [zI,zI,zI,zI,zB,zN] H13) λv7 H13=> bnd (st 6 v7 v25 H13) λ_ H13=>
 bo (un .not v26) λv38=>
 aI v38
 (bnd (lda 9 v3 H13) λv39 H13=> bnd (st 9 v6 v39 H13) λ_ H13=>
  bnd (lda 9 v6 H13) λr0 _=> some (r0,H13))
 (bo (ah v7 0) λv41=> bnd (lda 2 v41 H13) λv42 H13=> bnd (C 205 [v42] H13) λv43 H13=>
  aI v43
  (bo (ah v3 1) λv45=> bnd (ld v45 H13) λv46 H13=> bnd (C 200 [a1,v46] H13) λv47 H13=>
  bo (ah v3 4) λv48=> bnd (st 1 v48 (I 0) H13) λ_ H13=> bo (ah v3 5) λv49=> bnd (st 1 v49 (I (-1)) H13) λ_ H13=>
  bo (ah v7 4) λv50=> bnd (ld v50 H13) λv51 H13=>
  aI v51
  (bo (ah v7 5) λv52=> bnd (ld v52 H13) λv53 H13=> bo (ah v3 6) λv54=> bnd (st 1 v54 v53 H13) λ_ H13=>
   nJ C v3 v6 H13)
  (nJ C v3 v6 H13))
  (bo (ah v7 0) λv56=> bnd (lda 2 v56 H13) λv57 H13=> bnd (C 206 [v57] H13) λv58 H13=>
  aI v58
  (bo (ah v7 0) λv59=> bo (ah v59 0) λv60=> bnd (ld v60 H13) λv61 akh=> bo (ah v3 5) λv62=> bnd (st 1 v62 (I (-1)) akh) λ_ afL=> bo (ah v3 7) λv63=> bnd (st 1 v63 v61 afL) λ_ agz=> bo (ah v3 3) λv64=> bnd (st 1 v64 (I 5) agz) λ_ akN=> ck (aS v60) akh afL <|
   nJ C v3 v6 akN)
  (bo (ah v7 0) λv27=> bo (ah v27 1) λv28=> bnd (ld v28 H13) λv29 akO=> bo (ah v7 0) λv30=> bo (ah v30 0) λv31=> bnd (ld v31 akO) λv32 aia=> bo (ah v3 5) λv33=> bnd (st 1 v33 v29 aia) λ_ aki=> bo (ah v3 7) λv34=> bnd (st 1 v34 v32 aki) λ_ ah9=> bo (ah v3 3) λv35=> bnd (st 1 v35 (I 4) ah9) λ_ ajD=> ck (aS v31) aia aki <|
   nJ C v3 v6 ajD)))
theorem agR:Rn3 188 Eh:=λ_ _ _ _ _ _ h=>
 rnG agQ Tryz.func188 (by kernel_rfl) (by kernel_rfl) h
def aaP(C:Callee)(a0 a1 a2:AV)(H:aj):OA:=
 bnd (iC 57 a0 H) λv3 H=> bnd (alc 57 [zI,zI,zI,zI,zI,zI,zN,zI,zI] H) λv6 H=>
 bo (ah v3 1) λv8=> bnd (ld v8 H) λv9 H=> bnd (C 200 [a1,v9] H) λv10 H=>
 bo (ah v3 3) λv12=> bnd (st 1 v12 (I 6) H) λ_ H=> bo (ah v3 4) λv13=> bnd (st 1 v13 (I 1) H) λ_ H=> bo (ah v3 5) λv14=> bnd (st 1 v14 a2 H) λ_ H=> bo (ah v3 6) λv15=> bnd (st 1 v15 (.s (Go.Value.slice none 0 0)) H) λ_ H=>
 bnd (lda 9 v3 H) λv16 H=> bnd (st 9 v6 v16 H) λ_ H=>
 bnd (lda 9 v6 H) λr0 _=> some (r0,H)
theorem agS:Rn3 189 aaP:=λ_ _ _ _ _ _ h=>
 rnG an0 Tryz.func189 (by kernel_rfl) (by kernel_rfl) h
def yI(C:Callee)(a0:AV)(H:aj):OA:=
 bo (bi .eql 3 a0 (I 1)) λv5=>
 aI v5
 (some ((I 1),H))
 (bo (bi .eql 3 a0 (I 2)) λv7=>
  aI v7
  (some ((I 3),H))
  (bo (bi .eql 3 a0 (I 3)) λv9=>
  aI v9
  (some ((I 6),H))
  (bo (bi .eql 3 a0 (I 4)) λv11=>
   aI v11
   (some ((I 4),H))
   (bo (bi .eql 3 a0 (I 5)) λv13=>
   aI v13
   (some ((I 5),H))
   (bo (bi .eql 3 a0 (I 6)) λv15=>
    aI v15
    (some ((I 2),H))
    (some ((I 0),H)))))))
theorem agT:Rn1 190 yI:=λ_ _ _ _ h=>
 rnG an0 Tryz.func190 (by kernel_rfl) (by kernel_rfl) h
def aaQ(C:Callee)(a0:AV)(H:aj):OA:=
 bnd (iC 207 a0 H) λv1 H=>
 some ((.fn (.func 208) [] [v1]),H)
theorem agU:Rn1 192 aaQ:=λ_ _ _ _ h=>
 rnG an0 Tryz.func192 (by kernel_rfl) (by kernel_rfl) h
def U0(C:Callee)(a0 a1:AV)(H:aj):OA:=
 bo (aA a0) λv9=> bo (ah v9 0) λv10=> bnd (ld v10 H) λv11 H=> bnd (lk .i64 (.int .i64 0) v11 a1 true H) λv13 H=> bo (aF v13 0) λv14=> bo (aF v13 1) λv15=>
 some (v15,H)
theorem agV:Rn2 193 U0:=λ_ _ _ _ _ h=>
 rnG an0 Tryz.func193 (by kernel_rfl) (by kernel_rfl) h
def aaR(C:Callee)(a0 a1:AV)(H:aj):OA:=
 bo (aA a0) λv6=> bo (ah v6 1) λv7=> bnd (ld v7 H) λv8 H=> bnd (lk .i64 (.slice none 0 0) v8 a1 false H) λv10 H=> bnd (lnS v10 H) λv11 H=>
 some (v11,H)
theorem agW:Rn2 194 aaR:=λ_ _ _ _ _ h=>
 rnG an0 Tryz.func194 (by kernel_rfl) (by kernel_rfl) h
def agX:Ann:=⟨[],[(4,rF 17 [])],[(4,[(3,15)])]⟩
def Jo(C:Callee)(a0 a1 a2 a3:AV)(H:aj):OA:=
 bo (bi .lss 3 a2 (I 0)) λv10=>
 aI v10
 (some ((B false),H))
 (bnd (C 193 [a0,a1] H) λv13 H=> gdA (some v13) false (aC (some a0) H) H λv15 H=> gdA (some v13) false (aC (some a1) H) H λv16 H=> gdA (some v13) false (C 194 [v15,v16] H) H λv17 H=> gdA (some v13) false (aC (bi .gtr 3 v17 (I 0)) H) H λv18 H=> bo (bg v13 (B true) v18) λv19=>
  aI v19
  (bo (aA a0) λv21=> bo (ah v21 1) λv22=> bnd (ld v22 H) λv23 H3=> bo (aA a0) λv26=> bo (ah v26 1) λv27=> bnd (ld v27 H3) λv28 H8=> bnd (lk .i64 (.slice none 0 0) v28 a1 false H8) λv30 H10=> bo (bd 293 [(0,a2),(1,a3)]) λv33=> bnd (bs 291 1 [(0,v33)] H10) λv34 H14=> bnd (app 293 2 16 v30 v34 H14) λv35 H15=> bnd (mup .i64 v23 a1 v35 H15) λ_ H16=> ck (aS v22) H14 H15 <|
  some ((B false),H16))
  (bo (aA a0) λv37=> bo (ah v37 0) λv38=> bnd (ld v38 H) λv39 H=> bnd (mup .i64 v39 a1 a2 H) λ_ H=>
  some ((B true),H)))
theorem agY:Rn4 195 Jo:=λ_ _ _ _ _ _ _ h=>
 rnG agX Tryz.func195 (by kernel_rfl) (by kernel_rfl) h
def agZ:Ann:=⟨[],[(1,rF 6 (some true::rF 3 [])),(6,rF 13 []),(9,rF 10 [])],[]⟩
def sU(C:Callee)(t0 t3 t5:AV)(H:aj):OA:=
 bo (aA t0) λv22=> bo (ah v22 0) λv23=> bnd (ld v23 H) λv24 H=> bo (ah t3 4) λv25=> bnd (ld v25 H) λv26 H=> bo (ah t3 6) λv27=> bnd (ld v27 H) λv28 H=> bo (ah t3 5) λv29=> bnd (ld v29 H) λv30 H=> bnd (C 209 [v24,v26,v28,v30,t5] H) λv32 H=>
 bo (bi .neq 76 v32 (I 0)) λv34=>
 aI v34
 (some (v32,H))
 (bo (aA t0) λv37=> bo (ah v37 1) λv38=> bnd (ld v38 H) λv39 H=> bo (ah t3 4) λv40=> bnd (ld v40 H) λv41 H=> bo (ah t3 1) λv42=> bnd (ld v42 H) λv43 H=> bnd (C 210 [v39,v41,v43] H) λv44 H=>
  some (v44,H))
def Ei(C:Callee)(a0 a1:AV)(H:aj):OA:=
 bnd (iC 70 a1 H) λv3 H=>
 bo (aA a0) λv8=> bo (ah v8 1) λv9=> bnd (ld v9 H) λv10 H=> bo (ah v3 4) λv11=> bnd (ld v11 H) λv12 H=> bnd (unG H (C 75 [v10,v12] H.guard)) λv13 H=> bo (ah v3 1) λv14=> bnd (ld v14 H) λv15 H=> bo (bi .neq 3 v13 v15) λv16=>
 aI v16
 (some ((I 6),H))
 (bo (ah v3 7) λv17=> bnd (ld v17 H) λv18 H=>
  aI v18
  (bo (ah v3 8) λv19=> bnd (ld v19 H) λv20 H=>
  sU C a0 v3 v20 H)
  (sU C a0 v3 (.s (Go.Value.slice none 0 0)) H))
theorem ag0:Rn2 196 Ei:=λ_ _ _ _ _ h=>
 rnG agZ Tryz.func196 (by kernel_rfl) (by kernel_rfl) h
def wI(C:Callee)(t10:AV)(H:aj):OA:=
 aI t10
 (some ((I 9),H))
 (some ((I 0),H))
def lS(C:Callee)(t3 t6:AV)(H:aj):OA:=
 aI t6
 (some ((I 8),H))
 (bo (bi .eql 3 t3 (I 3)) λv11=>
  aI v11
  (wI C v11 H)
  (bo (bi .eql 3 t3 (I 6)) λv12=>
  wI C v12 H))
def yJ(C:Callee)(a0:AV)(H:aj):OA:=
 bo (bi .eql 3 a0 (I 1)) λv5=>
 aI v5
 (some ((I 7),H))
 (bo (bi .eql 3 a0 (I 2)) λv7=>
  aI v7
  (lS C a0 v7 H)
  (bo (bi .eql 3 a0 (I 4)) λv8=>
  aI v8
  (lS C a0 v8 H)
  (bo (bi .eql 3 a0 (I 5)) λv9=>
   lS C a0 v9 H)))
theorem ag1:Rn1 197 yJ:=λ_ _ _ _ h=>
 rnG an0 Tryz.func197 (by kernel_rfl) (by kernel_rfl) h
def aaS(C:Callee)(a0 a1:AV)(H:aj):OA:=
 bo (aA a0) λv6=> bo (ah v6 1) λv7=> bnd (st 1 v7 a1 H) λ_ H=>
 some (.tup [],H)
theorem ag2:Rn2 198 aaS:=λ_ _ _ _ _ h=>
 rnG an0 Tryz.func198 (by kernel_rfl) (by kernel_rfl) h
def aaT(C:Callee)(a0 a1:AV)(H:aj):OA:=
 bo (aA a0) λv6=> bo (ah v6 0) λv7=> bnd (st 1 v7 a1 H) λ_ H=>
 some (.tup [],H)
theorem ag3:Rn2 199 aaT:=λ_ _ _ _ _ h=>
 rnG an0 Tryz.func199 (by kernel_rfl) (by kernel_rfl) h
def zQ(C:Callee)(t4 t6 t7:AV)(H:aj):OA:=
 bnd (lda 6 t6 H) λv30 H=> bnd (st 6 t4 v30 H) λ_ H=>
 bnd (lda 6 t4 H) λr0 _=> some (.tup [r0,t7],H)
def U1(C:Callee)(a0 a1:AV)(H:aj):OA:=
 bnd (alc 93 [zI,zI,zI,zI,zB,zN] H) λv4 H=>
 bnd (C 37 [a0,a1] H) λv12 H=> bo (aF v12 0) λv13=> bo (aF v12 1) λv14=> bnd (alc 93 [zI,zI,zI,zI,zB,zN] H) λv6 H=> bnd (st 6 v6 v13 H) λ_ H=>
 aI v14
 (bnd (C 71 [a0,a1] H) λv18 H=>
  bo (aA a0) λv21=> bo (ah v21 0) λv22=> bnd (ld v22 H) λv23 H=> bo (bi .add 3 v18 (I 1)) λv26=> bnd (C 211 [v23,v18,v26] H) λv27 H=> bo (aA a0) λv28=> bo (ah v28 0) λv29=> bnd (st 1 v29 v27 H) λ_ H=>
  zQ C v4 v6 v14 H)
 (zQ C v4 v6 v14 H)
theorem ag4:Rn2 200 U1:=λ_ _ _ _ _ h=>
 rnG an0 Tryz.func200 (by kernel_rfl) (by kernel_rfl) h
def U2(C:Callee)(a0:AV)(H:aj):OA:=
 bnd (alc 70 [zI,zI,zI,zI,zI,zI,zI,zB,zN] H) λv2 H=>
 bo (aA a0) λv5=> bo (ah v5 0) λv6=> bnd (ld v6 H) λv7 H=> bnd (lnS v7 H) λv8 H=> bo (bi .eql 3 v8 (I 0)) λv9=>
 aI v9
 (bo (bd 70 []) λv10=> bnd (st 9 v2 v10 H) λ_ H=>
  bnd (lda 9 v2 H) λr0 _=> some (.tup [r0,(B false)],H))
 (bo (aA a0) λv12=> bo (ah v12 0) λv13=> bnd (ld v13 H) λv14 H=> bnd (ix 9 v14 (I 0) H) λv15 H=> bnd (lda 9 v15 H) λv16 H=> bnd (C 98 [v16] H) λv17 H=> bnd (st 9 v2 v17 H) λ_ H=>
  bnd (lda 9 v2 H) λr0 _=> some (.tup [r0,(B true)],H))
theorem ag5:Rn1 203 U2:=λ_ _ _ _ h=>
 rnG an0 Tryz.func203 (by kernel_rfl) (by kernel_rfl) h
def aaU(C:Callee)(a0 a1 a2 a3 a4:AV)(H:aj):OA:=
 bnd (alc 93 [zI,zI,zI,zI,zB,zN] H) λv10 H=>
 bo (bd 91 [(0,a1),(1,a2)]) λv13=> bnd (C 46 [a4] H) λv17 H=> bo (bd 93 [(0,v13),(1,a0),(3,a3),(4,v17)]) λv18=> bnd (st 6 v10 v18 H) λ_ H=>
 bnd (lda 6 v10 H) λr0 _=> some (r0,H)
theorem ag6:Rn5 204 aaU:=λ_ _ _ _ _ _ _ _ h=>
 rnG an0 Tryz.func204 (by kernel_rfl) (by kernel_rfl) h
def U3(C:Callee)(a0:AV)(H:aj):OA:=
 bnd (iC 91 a0 H) λv1 H=>
 bnd (lda 2 v1 H) λv3 H=> bnd (C 206 [v3] H) λv4 H=> gdA (some v4) true (lda 2 v1 H) H λv6 H=> gdA (some v4) true (C 212 [v6] H) H λv7 H=> bo (bg v4 v7 (B false)) λv8=>
 some (v8,H)
theorem aaV:Rn1 205 U3:=λ_ _ _ _ h=>
 rnG an0 Tryz.func205 (by kernel_rfl) (by kernel_rfl) h
def aaW(C:Callee)(a0:AV)(H:aj):OA:=
 bnd (iC 91 a0 H) λv1 H=>
 bo (ah v1 1) λv3=> bnd (ld v3 H) λv4 H=> bo (bi .eql 3 v4 (I (-1))) λv5=>
 some (v5,H)
theorem ag7:Rn1 206 aaW:=λ_ _ _ _ h=>
 rnG an0 Tryz.func206 (by kernel_rfl) (by kernel_rfl) h
def ag8:Ann:=⟨[],[(11,rF 7 [])],[]⟩
def zS(C:Callee)(t0 t1 t11:AV)(H:aj):OA:=
 bo (aA t0) λv77=> bo (ah v77 8) λv78=> bnd (ld v78 H) λv79 H=> bnd (lda 3 t11 H) λv81 H=> bnd (mup .i64 v79 t1 v81 H) λ_ H=>
 some ((I 0),H)
def uw(C:Callee)(a0 a1 a2 a3 a4:AV)(H:aj):OA:=
 bo (aA a0) λv15=> bo (ah v15 8) λv16=> bnd (ld v16 H) λv17 H=> bnd (lk .i64 (.agg #[.int .i64 0,.int .i64 0,.slice none 0 0]) v17 a1 true H) λv19 H=> bo (aF v19 0) λv20=> bo (aF v19 1) λv21=> bnd (alc 100 [zI,zI,zN] H) λv11 H=> bnd (st 3 v11 v20 H) λ_ H=>
 bo (un .not v21) λv24=>
 aI v24
 (some ((I 3),H))
 (bo (bi .lss 3 a2 (I 0)) λv27=> gdA (some v27) false (aC (some a2) H) H λv29 H=> gdA (some v27) false (aC (bi .gtr 3 v29 (I 2)) H) H λv30 H=> bo (bg v27 (B true) v30) λv31=> gdA (some v31) false (aC (some a3) H) H λv33 H=> gdA (some v31) false (aC (bi .lss 3 v33 (I (-1))) H) H λv34 H=> bo (bg v31 (B true) v34) λv35=> gdA (some v35) false (aC (some a3) H) H λv37 H=> gdA (some v35) false (aC (some a0) H) H λv38 H=> gdA (some v35) false (aC (aA v38) H) H λv39 H=> gdA (some v35) false (aC (ah v39 0) H) H λv40 H=> gdA (some v35) false (aC (ah v40 0) H) H λv41 H=> gdA (some v35) false (ld v41 H) H λv42 H=> gdA (some v35) false (aC (bi .geq 3 v37 v42) H) H λv43 H=> bo (bg v35 (B true) v43) λv44=>
  aI v44
  (some ((I 1),H))
  (bo (bi .eql 3 a3 (I (-1))) λv47=> bo (bi .eql 3 a2 (I 0)) λv49=> bo (bi .neq 4 v47 v49) λv50=> gdA (some v50) false (aC (some a4) H) H λv52 H=> gdA (some v50) false (lnS v52 H) H λv53 H=> gdA (some v50) false (aC (bi .neq 3 v53 (I 0)) H) H λv54 H=> gdA (some v50) false (aC (some v54) H) H λv55 H=> gdA (some v55) true (aC (some a4) H) H λv56 H=> gdA (some v55) true (lnS v56 H) H λv57 H=> gdA (some v55) true (aC (some a0) H) H λv58 H=> gdA (some v55) true (aC (aA v58) H) H λv59 H=> gdA (some v55) true (aC (ah v59 0) H) H λv60 H=> gdA (some v55) true (aC (ah v60 2) H) H λv61 H=> gdA (some v55) true (ld v61 H) H λv62 H=> gdA (some v55) true (aC (bi .neq 3 v57 v62) H) H λv63 H=> gdA (some v50) false (aC (bg v55 v63 (B false)) H) H λv64 H=> bo (bg v50 (B true) v64) λv65=>
  aI v65
  (some ((I 1),H))
  (bo (ah v11 0) λv68=> bnd (st 1 v68 a2 H) λ_ H=> bo (ah v11 1) λv69=> bnd (st 1 v69 a3 H) λ_ H=>
   bnd (lnS a4 H) λv71 H=> bo (bi .gtr 3 v71 (I 0)) λv72=>
   aI v72
   (bnd (C 46 [a4] H) λv74 H=> bo (ah v11 2) λv75=> bnd (st 1 v75 v74 H) λ_ H=>
   zS C a0 a1 v11 H)
   (zS C a0 a1 v11 H))))
theorem ag9:Rn5 209 uw:=λ_ _ _ _ _ _ _ _ h=>
 rnG ag8 Tryz.func209 (by kernel_rfl) (by kernel_rfl) h
def OZ(C:Callee)(a0 a1 a2:AV)(H:aj):OA:=
 bnd (C 193 [a0,a1] H) λv9 H=> bo (un .not v9) λv10=> gdA (some v10) false (aC (some a0) H) H λv12 H=> gdA (some v10) false (aC (aA v12) H) H λv13 H=> gdA (some v10) false (aC (ah v13 0) H) H λv14 H=> gdA (some v10) false (ld v14 H) H λv15 H=> gdA (some v10) false (aC (some a1) H) H λv16 H=> gdA (some v10) false (lk .i64 (.int .i64 0) v15 v16 false H) H λv17 H=> gdA (some v10) false (aC (some a2) H) H λv18 H=> gdA (some v10) false (aC (bi .neq 3 v17 v18) H) H λv19 H=> bo (bg v10 (B true) v19) λv20=>
 aI v20
 (some ((I 6),H))
 (bo (aA a0) λv22=> bo (ah v22 0) λv23=> bnd (ld v23 H) λv24 H=> bnd (del .i64 v24 a1 H) λ_ H=>
  some ((I 0),H))
theorem aha:Rn3 210 OZ:=λ_ _ _ _ _ _ h=>
 rnG an0 Tryz.func210 (by kernel_rfl) (by kernel_rfl) h
def ahb:Ann:=⟨[],[(5,rF 8 [])],[]⟩
def aaX(C:Callee)(a0 a1 a2:AV)(H:aj):OA:=
 bnd (lnS a0 H) λv12 H=> bo (slS 6 a0 (some a1) (some a2) (some v12)) λv13=>
 bo (bi .eql 3 a1 a2) λv16=>
 aI v16
 (some (a0,H))
 (bnd (lnS a0 H) λv19 H=>
  bo (slS 6 a0 none (some a1) none) λv22=> bo (slS 6 a0 (some a2) none none) λv25=> bnd (app 93 6 64 v22 v25 H) λv26 H=>
  bnd (lnS v26 H) λv29 H=> bo (slS 6 v26 (some v29) (some v19) none) λv31=> bnd (clr 6 [zI,zI,zI,zI,zB,zN] v31 H) λ_ H=>
  some (v26,H))
theorem ahc:Rn3 211 aaX:=λ_ _ _ _ _ _ h=>
 rnG ahb Tryz.func211 (by kernel_rfl) (by kernel_rfl) h
def aaY(C:Callee)(a0:AV)(H:aj):OA:=
 bnd (iC 91 a0 H) λv1 H=>
 bo (ah v1 0) λv3=> bnd (ld v3 H) λv4 H=> bo (bi .eql 3 v4 (I (-1))) λv5=>
 some (v5,H)
theorem ahd:Rn1 212 aaY:=λ_ _ _ _ h=>
 rnG an0 Tryz.func212 (by kernel_rfl) (by kernel_rfl) h
def jY(l:List Pkt)(room:Int):List Cell:=[.seq 9 (l.flatMap Pkt.av),.av (I room)]
theorem zT(l:List Int):(l.map I).all AV.aJ=true:=by
 rw [zaY];intro x hx;obtain⟨z,_,rfl⟩:=zaL.1 hx;rfl
theorem sV(l:List Int){d:Nat}:∀x∈l.map I,Frz (d+1) x:=λx hx=> by
 obtain⟨z,_,rfl⟩:=zaL.1 hx;exact gK
theorem wJ {l:List Int}(h:l≠[]):dat l=.vs l.length 1 (l.map I):=by
 rw [dat,FB h,vM]
theorem jm(H:aj)(l:List Int)(hl:l.length < 1000000000):cl 46 [dat l] H=some (dat l,H):=by
 by_cases h:l=[]
 ·subst h;refine jc rfl rfl (L8 _ _ _ (r:=(zN,H.guard)) ?_) kS;have e:bi .eql 22 zN zN=some (B true):=by kernel_rfl
  simp -implicitDefEqProofs only [xq_,Jh,dat,fZ,e]
 ·have h0:l.length≠0:=λe=> h (zao e);have e2:=oG (e:=3) (by_:=8) (r:=H.guard.next) (H:=H.guard.new (.blk 0 3 [])) mD (jW _ l) (zT l) h0 (by unfold most;omega) (by unfold most;omega);simp only [Qq,nNew] at e2;refine jc rfl rfl (L8 _ _ _ (r:=(.sl (H.next+1) 0 0 1 l.length l.length false,(H.guard.new (.blk 0 3 [])).new (.blk 0 (3+dV) (l.map I)))) ?_) ?_
  ·have e1:bi .eql 22 (dat l) zN=some (B false):=by rw [wJ h];exact oH Tryz.underlying22
   simp -implicitDefEqProofs only [xq_,Jh,e1,yR,uO,e2,za7,zaQ]
  ·rw [wJ h];refine ji (by omega) (cells:=l.map I) ?_ (fG _ λx hx=> sV l x hx _ _);simp only [aW,fU,nNew,Qq,if_true];rw [if_pos (by simp),zaM,zax (by simp)]
theorem U4(p:Pkt):Frz 9 (.agg p.av):=lG λx hx=> by
 simp only [Pkt.av,zal,zaF,or_false] at hx;rcases hx with rfl | rfl | rfl | rfl | rfl | rfl | rfl | rfl | rfl <;> first | exact gK | exact uN
theorem U5(H:aj)(p:Pkt)(hl:p.data.length < 1000000000):cl 82 [.agg p.av] H=some (.agg p.av,H):=by
 have e1:=λH=> jm H p.data hl;refine bI rfl rfl (ajo _ _ _) ?_ (U4 p);simp -implicitDefEqProofs only [Nat.reduceLT,Nat.reduceAdd,setAt,xq_,hq_,afg,aB,Pkt.av,e1]
theorem O1(H:aj)(p:Pkt)(hl:p.data.length < 1000000000):cl 98 [.agg p.av] H=some (.agg p.av,H):=by
 have e1:=λH=> jm H p.data hl;refine bI rfl rfl (ajz _ _ _) ?_ (U4 p);simp -implicitDefEqProofs only [Nat.reduceLT,Nat.reduceAdd,setAt,xq_,hq_,afv,aB,Pkt.av,e1]
section
variable {b:Nat}{H:aj}{g:Store}{q:Nat}{l:List Pkt}{room:Int}
theorem O4(G:Good b H g)(h:g q=some (jY l room))(h1:0<=room)(h2:room < 1000)(h3:l.length < 1000):
  cl 160 [.ref q 0 0] H=some (I (room - l.length),H):=by
 refine aN rfl rfl (agp _ _ _ ?_);obtain⟨x,hx,c⟩:=G.seq h (i:=0) rfl;have e1:=G.load h (i:=1) rfl;have e2:=(c.is (by decide) (bH aT l)).lnS;simp -implicitDefEqProofs only [xq_,aaA,hx,e1,e2,gZ];rw [wrap_i64 (by omega) (by omega)]
theorem aco(G:Good b H g)(hb:H.base<=b)(h:g q=some (jY l room))(h1:0<=room)(h2:room < 1000)(h3:l.length < 1000)(p:Pkt)(hp:p.data.length < 1000000000):
  ∃H',cl 163 [.ref q 0 0,.agg p.av] H=some (I (if room=l.length then 5 else 0),H')/\Good b H' (upd g q (jY (if room=l.length then l else l++[p]) room))/\Step b H H':=by
 have G1:=G.new (.blk 0 70 p.av);have e1:=O4 G1 h h1 h2 h3;by_cases hr:room=l.length
 ·refine⟨_,aN rfl rfl (aaC _ _ _ _ (r:=(_,H.new (.blk 0 70 p.av))) ?_),?_,Step.new _ G.1⟩
  ·simp -implicitDefEqProofs only [Nat.reduceLT,xq_,hq_,UO,aB (aG p),e1,hr,Int.sub_self]
  ·rw [if_pos hr,dH h];exact G1
 ·have hr':¬room - (l.length:Int)=0:=by omega
  obtain⟨x,hx,c⟩:=G1.seq h (i:=0) rfl;have e2:=fV (H:=H.new (.blk 0 70 p.av)) (r:=H.next) (off:=0) (n:=9) (mD) (by simp [Pkt.av]);have e3:=U5 (H.new (.blk 0 70 p.av)).guard p hp;obtain⟨x',H1,H2,a1,a2,a3,a4⟩:=(G1.new (.blk 0 70 p.av)).append (e:=70) (by_:=88) hb h (i:=0) rfl (by decide) (bH aT l) (c.new _) (kW (ex:=true) (n:=1) (m:=9) (l:=p.av) rfl) (aG p) (by unfold most;omega) (by unfold most;omega);refine⟨H2,aN rfl rfl (aaC _ _ _ _ ?_),?_,(((Step.new _ G.1).trans (Step.new _ (G.new _).1)).trans a4)⟩
  ·simp only [nNew] at a1;simp -implicitDefEqProofs only [Nat.reduceLT,xq_,UO,aB (aG p),e1,hr',hr,hx,e2,zaM,e3,Zg,zbk,Nat.reduceLeDiff,IV,iZ (m:=9) (z:=[zI,zI,zI,zI,zI,zI,zI,zB,zN]) (v:=.agg p.av) rfl rfl (aG p),dN,a1,a2]
  ·rw [if_neg hr];have:jY (l++[p]) room=(jY l room).set 0 (.seq 9 (l.flatMap Pkt.av++p.av)):=by simp [jY]
   rw [this];exact a3
theorem U6(G:Good b H g)(h:g q=some (jY l room))(h1:0<=room)(h2:room < 1000)(h3:l.length < 1000):
  cl 97 [.ref q 0 0] H=some (I (room - l.length),H):=by
 refine aN rfl rfl (ajy _ _ _ ?_);obtain⟨x,hx,c⟩:=G.seq h (i:=0) rfl;have e1:=G.load h (i:=1) rfl;have e2:=(c.is (by decide) (bH aT l)).lnS;simp -implicitDefEqProofs only [xq_,afu,hx,e1,e2,gZ];rw [wrap_i64 (by omega) (by omega)]
theorem Ya(G:Good b H g)(hb:H.base<=b)(h:g q=some (jY l room))(h1:0<=room)(h2:room < 1000)(h3:l.length < 1000)(p:Pkt)(hp:p.data.length < 1000000000):
  ∃H',cl 65 [.ref q 0 0,.agg p.av] H=some (I (if room=l.length then 5 else 0),H')/\Good b H' (upd g q (jY (if room=l.length then l else l++[p]) room))/\Step b H H':=by
 have G1:=G.new (.blk 0 70 p.av);have e1:=U6 G1 h h1 h2 h3;by_cases hr:room=l.length
 ·refine⟨_,aN rfl rfl (afb _ _ _ _ (r:=(_,H.new (.blk 0 70 p.av))) ?_),?_,Step.new _ G.1⟩
  ·simp -implicitDefEqProofs only [Nat.reduceLT,xq_,hq_,ace,aB (aG p),e1,hr,Int.sub_self]
  ·rw [if_pos hr,dH h];exact G1
 ·have hr':¬room - (l.length:Int)=0:=by omega
  obtain⟨x,hx,c⟩:=G1.seq h (i:=0) rfl;have e2:=fV (H:=H.new (.blk 0 70 p.av)) (r:=H.next) (off:=0) (n:=9) (mD) (by simp [Pkt.av]);have e3:=O1 (H.new (.blk 0 70 p.av)).guard p hp;obtain⟨x',H1,H2,a1,a2,a3,a4⟩:=(G1.new (.blk 0 70 p.av)).append (e:=70) (by_:=88) hb h (i:=0) rfl (by decide) (bH aT l) (c.new _) (kW (ex:=true) (n:=1) (m:=9) (l:=p.av) rfl) (aG p) (by unfold most;omega) (by unfold most;omega);refine⟨H2,aN rfl rfl (afb _ _ _ _ ?_),?_,(((Step.new _ G.1).trans (Step.new _ (G.new _).1)).trans a4)⟩
  ·simp only [nNew] at a1;simp -implicitDefEqProofs only [Nat.reduceLT,xq_,ace,aB (aG p),e1,hr',hr,hx,e2,zaM,e3,Zg,zbk,Nat.reduceLeDiff,IV,iZ (m:=9) (z:=[zI,zI,zI,zI,zI,zI,zI,zB,zN]) (v:=.agg p.av) rfl rfl (aG p),dN,a1,a2]
  ·rw [if_neg hr];have:jY (l++[p]) room=(jY l room).set 0 (.seq 9 (l.flatMap Pkt.av++p.av)):=by simp [jY]
   rw [this];exact a3
theorem acp {i n:Nat}{x:AV}{l:List AV}(c:Cur b H q i x 9 l)(hb:H.base<=b)(hl:l.length=n*9)(hn:n < 1000000000){j:Nat}(hj:j < n):
  ∃x' H',cl 99 [x,I j,I (j+1)] H=some (x',H')/\Fit H H' x x' 9 (l.take (j*9)++l.drop ((j+1)*9))/\H'.next=H.next/\H'.base=H.base/\∀r,nameOf x≠some r->H'.get r=H.get r:=by
 obtain⟨y,x1,x2,x3,H1,x4,H2,e1,e2,e3,e4,e5,e6,e7,f,n1,b1,k1⟩:=Ol c hb (by decide) hl hn hj (z:=[zI,zI,zI,zI,zI,zI,zI,zB,zN]) rfl rfl (e:=70) (by_:=88) (by decide);have e0:=(c.is (by decide) hl).lnS;have hne:((j:Int)=j+1)=False:=eq_false (by omega);refine⟨x3,H2,aN rfl rfl (ajB _ _ _ _ _ ?_),f,n1,b1,k1⟩;simp -implicitDefEqProofs only [xq_,afw,e0,e1,e2,e3,e4,e5,e6,e7,hne]
theorem Jp {α:Type}{enc:α->List AV}{m:Nat}(he:∀a,(enc a).length=m):∀(l:List α) (j:Nat),(l.flatMap enc).take (j*m)=(l.take j).flatMap enc
 | [],j=> by simp
 | a::l,0=> by simp
 | a::l,j+1=> by
  rw [zaJ,List.take_succ_cons,zaJ,zbE,Nat.add_comm,List.take_append,he,Nat.add_sub_cancel_left,Jp he l j,zax (by rw [he];omega)]
theorem Jq {α:Type}{enc:α->List AV}{m:Nat}(he:∀a,(enc a).length=m):∀(l:List α) (j:Nat),(l.flatMap enc).drop (j*m)=(l.drop j).flatMap enc
 | [],j=> by simp
 | a::l,0=> by simp
 | a::l,j+1=> by
  rw [zaJ,List.drop_succ_cons,zbE,Nat.add_comm,List.drop_append,he,Nat.add_sub_cancel_left,Jq he l j,zaN (by rw [he];omega),zaS]
theorem Ej {α:Type}{enc:α->List AV}{m:Nat}(he:∀a,(enc a).length=m)(l:List α)(j:Nat):(l.flatMap enc).take (j*m)++(l.flatMap enc).drop ((j+1)*m)=(l.eraseIdx j).flatMap enc:=by
 rw [Jp he,Jq he,List.eraseIdx_eq_take_drop_succ,zbK]
theorem kU {α:Type}{enc:α->List AV}{m:Nat}(he:∀a,(enc a).length=m){L:List α}{x:AV}(hs:aH H x m L.length (L.flatMap enc)){i:Nat}{a:α}(hi:L[i]?=some a):lda m (cO x i) H=some (.agg (enc a),H):=by
 have hl:i < L.length:=(zam.1 hi).1;rw [hs.lda hl,flat_get he L i a hi]
def dZ(o:Option Pkt):AV:=.tup [.agg (o.getD .zero).av,B o.isSome]
theorem dG:Pkt.zero.av=[zI,zI,zI,zI,zI,zI,zI,zB,zN]:=by simp [Pkt.zero,Pkt.av,dat,fZ]
theorem xU(o:Option Pkt):Frz 9 (dZ o):=rE λx hx=> by
 simp only [zal,zaF,or_false] at hx;rcases hx with rfl | rfl
 ·refine lG λx hx=> ?_;simp only [Pkt.av,zal,zaF,or_false] at hx;rcases hx with rfl | rfl | rfl | rfl | rfl | rfl | rfl | rfl | rfl <;> first | exact gK | exact uN
 ·exact gK
theorem U7(G:Good b H g)(h:g q=some (jY l room))(h3:l.length < 1000)(hd:∀p∈l,p.data.length < 1000000000):
  cl 203 [.ref q 0 0] H=some (dZ l.head?,H):=by
 refine bI rfl rfl (ag5 _ _ _) ?_ (xU _);have G1:=G.guard.new (.blk 0 70 [zI,zI,zI,zI,zI,zI,zI,zB,zN]);obtain⟨x,hx,c⟩:=G1.seq h (i:=0) rfl;have hs:=c.is (by decide) (bH aT l);have e2:=hs.lnS;cases l with
 | nil=> simp -implicitDefEqProofs only [Nat.reduceAdd,setAt,xq_,hq_,U2,hx,e2,Int.ofNat_zero,uM,iV,bT,dZ,dG,List.head?_nil,zaR,zaC]
 | cons p l=>
  have e3:=hs.ix (k:=.i64) (i:=0) (by decide) (by simp only [zai];omega);have e4:=kU aT hs (i:=0) (a:=p) rfl;have hz:(((l.length+1:Nat):Int)=0)=False:=eq_false (by omega);have e5:=λH=> O1 H p (hd p (by simp));simp -implicitDefEqProofs only [Nat.reduceAdd,setAt,xq_,hq_,U2,hx,e2,hz,e3,Int.toNat_zero,e4,e5,dZ,List.head?_cons,zas,zaE]
theorem O5(G:Good b H g)(hb:H.base<=b)(h:g q=some (jY l room))(h3:l.length < 1000){j:Nat}(hj:j < l.length):
  ∃x x' H1 H2,ld (.ref q 0 0) H=some (x,H)/\cl 99 [x,I j,I (j+1)] H=some (x',H1)/\st 1 (.ref q 0 0) x' H1=some (aK,H2)/\Good b H2 (upd g q (jY (l.eraseIdx j) room))/\Step b H H2:=by
 obtain⟨x,hx,c⟩:=G.seq h (i:=0) rfl;obtain⟨x',H1,d1,d2,d3,d4,d5⟩:=acp c hb (bH aT l) (by omega) hj;rw [Ej aT] at d2;obtain⟨H2,s1,s2,s3,s4⟩:=G.seat h (i:=0) rfl c (by omega) (by omega) (λr _ hr=> d5 r hr) d2;exact⟨x,x',H1,H2,hx,d1,s1,s2,Step.trans ⟨d4,by omega,λr hr=> d5 r (c.low hr)⟩ s3⟩
theorem U8(G:Good b H g)(hb:H.base<=b)(h:g q=some (jY l room))(h3:l.length < 1000)(hd:∀p∈l,p.data.length < 1000000000):
  ∃H',cl 183 [.ref q 0 0] H=some (dZ l.head?,H')/\Good b H' (upd g q (jY l.tail room))/\Step b H H':=by
 have G1:=G.newObj (ty:=70) (xs:=[zI,zI,zI,zI,zI,zI,zI,zB,zN]) rfl;have hq:=G.lt h;have h1:upd g H.next ([zI,zI,zI,zI,zI,zI,zI,zB,zN].map .av) q=some (jY l room):=by rw [upd_ne (by omega)];exact h
 have e1:=U7 G1 h1 h3 hd;have hb0:H.base<=H.next:=zav hb G.1
 refine iI rfl rfl (agK _ _ _) ?_;cases l with
 | nil=>
  simp -implicitDefEqProofs only [Nat.reduceAdd,setAt,xq_,hq_,zaa,zac,exists_eq_left',UW,e1,zL,dZ,List.head?_nil,zaR,zaC,dG,List.tail_nil,hb0];exact⟨(dH h).symm ▸ (G.new _).new _,(Step.new _ G.1).trans (Step.new _ (G.new _).1)⟩
 | cons p l=>
  have hm:=hd p (by simp);let H1:=H.new (.blk 0 70 [zI,zI,zI,zI,zI,zI,zI,zB,zN]);have G2:=G1.newObj (ty:=70) (xs:=p.av) (aG _);have hv2:upd (upd g H.next ([zI,zI,zI,zI,zI,zI,zI,zB,zN].map .av)) (H.next+1) (p.av.map .av) H.next=some ([zI,zI,zI,zI,zI,zI,zI,zB,zN].map .av):=by rw [upd_ne (by omega),upd_same]
  have h2:upd (upd g H.next ([zI,zI,zI,zI,zI,zI,zI,zB,zN].map .av)) (H.next+1) (p.av.map .av) q=some (jY (p::l) room):=by rw [upd_ne (by omega)];exact h1
  obtain⟨x,x',K1,K2,s1,s2,s3,s4,s5⟩:=O5 G2 (by rw [bNew,bNew];omega) h2 h3 (j:=0) (by simp);have G3:Good b K2 _:=s4;have q2:upd (upd (upd g H.next ([zI,zI,zI,zI,zI,zI,zI,zB,zN].map .av)) (H.next+1) (p.av.map .av)) q (jY l room) (H.next+1)=some (p.av.map .av):=by rw [upd_ne (by omega),upd_same]
  have q1:upd (upd (upd g H.next ([zI,zI,zI,zI,zI,zI,zI,zB,zN].map .av)) (H.next+1) (p.av.map .av)) q (jY l room) H.next=some ([zI,zI,zI,zI,zI,zI,zI,zB,zN].map .av):=by rw [upd_ne (by omega),upd_ne (by omega),upd_same]
  have l2:=G3.loads q2 (i:=0) (n:=9) (xs:=p.av) rfl rfl (by decide);obtain⟨K3,t1,t2,t3,t4⟩:=G3.stores (by rw [s5.base,bNew,bNew];exact hb) q1 (i:=0) (n:=9) (vs:=p.av) (by decide) rfl (aG _);have l3:=t2.loads upd_same (i:=0) (n:=9) (xs:=p.av) rfl rfl (by decide);have z1:((0:Nat):Int)=0:=rfl;have z2:((0:Nat):Int)+1=1:=rfl;rw [z2] at s2;simp only [z1] at s2;simp -implicitDefEqProofs only [Nat.reduceAdd,setAt,xq_,hq_,zaa,zac,exists_eq_left',UW,e1,zL,dZ,List.head?_cons,zas,zaE,List.tail_cons,hb0,s1,s2,s3,l2,t1,l3];have n1:g H.next=none:=G.isNone (zab _)
  have n2:g (H.next+1)=none:=G.isNone (by omega);exact⟨t2.sub (((((nV.refl g).more n1 _).more n2 _).both q _).more (vN n1 (by omega)) _),(((Step.new _ G.1).trans (Step.new _ (G.new _).1)).trans s5).trans t3⟩
theorem U9(G:Good b H g)(h:g q=some (jY l room))(h3:l.length < 1000)(hd:∀p∈l,p.data.length < 1000000000)(at_:Int):
  cl 53 [.ref q 0 0,I at_] H=some (dZ (if at_ < 0 then none else l[at_.toNat]?),H):=by
 refine bI rfl rfl (ai5 _ _ _ _) ?_ (xU _);have G1:=G.guard.new (.blk 0 70 [zI,zI,zI,zI,zI,zI,zI,zB,zN]);obtain⟨x,hx,c⟩:=G1.seq h (i:=0) rfl;have hs:=c.is (by decide) (bH aT l);have e2:=hs.lnS;by_cases h0:at_ < 0
 ·simp -implicitDefEqProofs only [Nat.reduceAdd,setAt,xq_,hq_,X6,h0,uM,iV,bT,dZ,dG,zaR,zaC]
 ·by_cases h1:at_ < l.length
  ·have e3:=hs.ix (k:=.i64) (i:=at_) (by omega) h1;obtain⟨p,hp⟩:∃p,l[at_.toNat]?=some p:=⟨_,zad (by omega)⟩
   have e4:=kU aT hs hp;have e5:=λH=> U5 H p (hd p (zaK hp));have h1':¬(l.length:Int)<=at_:=by omega
   simp -implicitDefEqProofs only [Nat.reduceAdd,setAt,xq_,hq_,X6,hx,h0,h1',e2,e3,e4,e5,hp,dZ,zas,zaE]
  ·have hp:l[at_.toNat]?=none:=zaH (by omega);have h1':(l.length:Int)<=at_:=by omega
   simp -implicitDefEqProofs only [Nat.reduceAdd,setAt,xq_,hq_,X6,hx,h0,h1',e2,hp,uM,iV,bT,dZ,dG,zaR,zaC]
end
open Go.RowKit
section
variable {P:Program}{C:Callee}{A:Ann}{n:Nat}
theorem Em {L:List Nat}{c:Code}(hc:IJ A n c (lQ L) (λ_=> 0) 0=true){t:dJ}{e:Env}{H H1:aj}{vs:List AV}(ht:Ag n (uK A c (lQ L) (λ_=> 0) 0) t e)
  (h:iU P C A n c e H (λe H=> some (proj L e,H)) (λ_ _ _=> none) (λ_ _=> none)=some (vs,H1)):
  ∃t1,dD P C c t H=some (.normal,t1,H1)/\∃e1,Ag n (lQ L) t1 e1/\proj L e1=vs:=by
 open Classical in
 have key:=A8 (P:=P) (C:=C) (β:=List AV × aj) A c (lQ L) (λ_=> 0) 0 hc
  (λt H=> if hx:∃e1,Ag n (lQ L) t e1/\proj L e1=vs then(if H=H1 then some (vs,H) else none) else none) (λe H=> if proj L e=vs/\H=H1 then some (vs,H) else none)
  (λ_ _ _=> none) (λ_ _ _=> none) (λ_ _=> none) (λ_ _=> none)
  (λt e H ha r hr=> by
   split at hr
   ·rename_i hh;rw [dif_pos ⟨e,ha,hh.1⟩,if_pos hh.2];exact hr
   ·cases hr) (λ_ _ _ _ _=> Le.refl _) (λ_ _ _ _=> Le.refl _) t e H ht
 have tl:=DK (P:=P) (C:=C) (A:=A) (n:=n) (β:=List AV × aj) c e H (λk e H=> k (proj L e) H) (λ_ _ _ _=> none) (λ_ _ _=> none) (λt H=> SK _ _) (λ_ _ _=> dQ _) (λ_ _=> dQ _);have h1:iU P C A n c e H (λe H=> (λs H=> some (s,H)) (proj L e) H) (λ_ _ _=> none) (λ_ _=> none)=some (vs,H1):=h;have h2:iU P C A n c e H (λe H=> if proj L e=vs/\H=H1 then some (vs,H) else none) (λ_ _ _=> none) (λ_ _=> none)=some (vs,H1):=by
  rcases tl (λs H=> some (s,H)) _ h1 with h3 | ⟨s,H',h3,h4⟩
  ·exact h3 λs H=> if s=vs/\H=H1 then some (vs,H) else none
  ·cases h3;exact h4 (λs H=> if s=vs/\H=H1 then some (vs,H) else none) (by simp)
 have h3:=key _ h2;cases hx:dD P C c t H with
 | none=> rw [hx] at h3;cases h3
 | some q=>
  obtain⟨ex,t1,H2⟩:=q;rw [hx] at h3;cases ex with
  | normal=>
   simp only [IL] at h3;split at h3
   ·rename_i he;split at h3
    ·rename_i hH;subst hH;exact⟨t1,rfl,he⟩
    ·cases h3
   ·cases h3
  | exit i=> cases h3
  | ret=> cases h3
theorem Va {c:Code}{rs:List ResultVar}(hc:IJ A n c (Ko rs) (λ_=> 0) (Ko rs)=true){t:dJ}{e:Env}{H:aj}{r:AV × aj}(ht:Ag n (uK A c (Ko rs) (λ_=> 0) (Ko rs)) t e)
  (h:iU P C A n c e H (GY P n rs) (λ_ _ _=> none) (GY P n rs)=some r):
  ∃ex t1,(ex=.normal∨ex=.ret)/\dD P C c t H=some (ex,t1,r.2)/\gB P rs t1 r.2=some r.1:=by
 have hr:∀t e H,Ag n (Ko rs) t e->Le (GY P n rs e H) ((gB P rs t H).map λv=> (v,H)):=λt e H h=> by
  rw [SX _ h];exact Le.refl _
 have h1:=A8 (P:=P) (C:=C) A c _ _ _ hc _ _ _ _ _ _ hr (λ_ _ _ _ _=> Le.refl _) hr t e H ht r h;cases hx:dD P C c t H with
 | none=> rw [hx] at h1;cases h1
 | some q=>
  obtain⟨ex,t1,H2⟩:=q;rw [hx] at h1;cases ex with
  | exit i=> cases h1
  | normal=>
   simp only [IL] at h1;cases hq:gB P rs t1 H2 with
   | none=> rw [hq] at h1;cases h1
   | some v=>
    rw [hq] at h1;simp only [zah,zaa] at h1;subst h1;exact⟨_,t1,.inl rfl,rfl,hq⟩
  | ret=>
   simp only [IL] at h1;cases hq:gB P rs t1 H2 with
   | none=> rw [hq] at h1;cases h1
   | some v=>
    rw [hq] at h1;simp only [zah,zaa] at h1;subst h1;exact⟨_,t1,.inr rfl,rfl,hq⟩
theorem ahe {o:Oper}{a:Act}{w:World}{K:Act->World->Prop}{Q:Exit->Act->World->Prop}{l m:Nat}(hd:∀c,o.op≠.defer c)(h:o.wp P a w K Q):o.wpIn (Fence.wide.inRound l) m P a w K Q:=by
 unfold Oper.wpIn;refine⟨λ_ _=> trivial,?_⟩;rw [Oper.semAt_eq _ _ _ hd];unfold Oper.wp at h;generalize (execOp a.eval o).run P w=r at*;have dp:(Fence.wide.inRound l).depth.isSome=true->1<=m:=λh=> by cases h
 cases r with
 | ok x w'=>
  cases x <;> simp only [Oper.upon,Oper.uponIn] at h ⊢ <;> first
   | exact h
   | exact⟨dp,CallsIn.inRound l (callsIn_wide.2 h)⟩
   | exact h.elim
   | skip
  rename_i row args;exact⟨dp,λc cs hr=> let⟨v,w',r,s⟩:=h c cs;⟨v,w',r,stepsIn_wide.2 s⟩⟩
 | halt x w'=> cases x <;> simp only [Oper.upon,Oper.uponIn] at h ⊢ <;> exact h
def xW(o:Oper):Bool:=match o.op with
 | .defer _=> false
 | _=> true
theorem En {o:Oper}(h:xW o=true):∀c,o.op≠.defer c:=λc e=> by rw [xW,e] at h;cases h
theorem acr {ops:Array Oper}(hd:∀o∈ops,xW o=true){Q:Exit->Act->World->Prop}{i:Nat}{K:Act->World->Prop}{a:Act}{w:World}{l m:Nat}(hq:¬LetsOut Q)(h:wpOp P ops Q i K a w):wpOpIn (Fence.wide.inRound l) m P ops Q i K a w:=by
 unfold wpOp at h;unfold wpOpIn;split
 ·rename_i ho;rw [ho] at h;exact h
 ·rename_i o ho;rw [ho] at h;simp only at h;split
  ·rename_i hw;rw [if_pos hw] at h;exact ahe (En (hd o (Array.mem_of_getElem? ho))) (h.resolve_right λh=> hq h.2)
  ·rename_i hw;rw [if_neg hw] at h;exact⟨λ_ _=> trivial,h⟩
theorem Yb {ops:Array Oper}(hd:∀o∈ops,xW o=true){Q:Exit->Act->World->Prop}{l m:Nat}{md:Region.Mode}(hq:¬LetsOut Q):∀(fuel:Nat) (listed:Array Bool) (a:Act) (w:World),wpAny P md ops Q fuel listed a w->wpAnyIn (Fence.wide.inRound l) m P md ops Q fuel listed a w:=by
 intro fuel
 induction fuel with
 | zero=> intro listed a w h;exact h
 | succ fuel ih=>
  intro listed a w h;exact⟨h.1,λi hi=> wpOpIn_mono (λa w h=> ih _ a w h) (acr hd hq (h.2 i hi))⟩
def sW(P:Program)(C:Callee)(c:Code):Prop:=
 ∀l m t H e t' H',dD P C c t H=some (e,t',H')->∀(ρ:Ren) (w:World) (a:Act),Rel ρ H w->TOn ρ H.gen w (λ_=> True) t a->∀Q:Exit->Act->World->Prop,¬LetsOut Q->Post ρ H w a t' H' (Q e.to)->c.wpIn (Fence.wide.inRound l) m P Q a w
theorem Yc {ops:List Oper}{t t':dJ}{H H':aj}{ρ:Ren}{w:World}{a:Act}(hC:Sound P C)(hKC:iM C)(h:uD P C ops t H=some (t',H'))(R:Rel ρ H w)(TR:TOn ρ H.gen w (λ_=> True) t a){Q:Exit->Act->World->Prop}
  (hQ:∀a' ρ' w',Rel ρ' H' w'->TOn ρ' H'.gen w' (λ_=> True) t' a'->Ext ρ H w ρ' H' w'->a'.defers=a.defers->Q .normal a' w'):wpAny P .any ops.toArray Q ops.toArray.size (Array.replicate ops.toArray.size false) a w.drew:=by
 unfold uD at h;split at h <;> first | (cases h;done) | skip
 rename_i hok;split at h <;> first | (cases h;done) | skip
 rename_i t0 H0 hcr;obtain⟨hrun,air⟩:dI P C ops (jK ops) t0 H0=some (t',H')/\∀p∈jr ops,agree P C ops H.next t0 H0 p:=by
  split at h
  ·rename_i he;rw [he];exact⟨h,by simp⟩
  ·split at h <;> first | (cases h;done) | skip
   rename_i ha;exact⟨h,ha⟩
 have F:=yA hok;have hmem:∀j,j∈kN ops↔j < ops.length/\cst ops j=true:=λj=> by simp [kN,zbe,zbb]
 obtain⟨hf,hg,hlen,nm,vl,h1,h2,h3⟩:=pU (kN ops) t H t0 H0 (List.nodup_range.filter _) (λj hj=> ((hmem j).1 hj).2)
  (λi _ j _ oi oj d a1 a2 a3 a4=> F.ah3 i j oi oj d a1 a2 a3 a4) hcr
 obtain⟨T,Hp,val,S,hend,hval⟩:=Dj hrun vl;obtain⟨hgen,RH0,EH0⟩:=Ip R hf hg;obtain⟨ρ1,w1,a1,g1,g2⟩:=uG hC _ _ _ _ _ ρ w a hcr R TR;have D:Xr P C ops t H t0 H0 T Hp val nm:={
  facts:=F
  S:=S
  names:=λj hj hc=> by
   obtain⟨o,q1,q2,q3,q4,q5⟩:=h1 j ((hmem j).2 ⟨hj,hc⟩);exact⟨o,q1,q2,q3,by rw [hval j hc];exact q4,λd hd hl=> by rw [hval j hc];exact q5 d hd hl⟩
  inj:=λi j hi hj ci cj e=> h2 i ((hmem i).2 ⟨hi,ci⟩) j ((hmem j).2 ⟨hj,cj⟩) e
  rest:=λd hd=> h3 d λj hj o ho=> hd j ((hmem j).1 hj).2 o ho
  len:=hlen
  fresh:=hf
  aj0:=hg
  agr:=air
  ghost:=λp hp d=> by
   obtain⟨ρ2,w2,a2,r1,r2⟩:=Dk hC S g1 g2 p hp;exact RV.nv r1.out _ _ (r2.any d trivial)
  keeps:=hKC }
 have e1:T ops.length=t':=by rw [<-Prod.mk.inj hend |>.1]
 have e2:Hp ops.length=H':=by rw [<-Prod.mk.inj hend |>.2]
 have hli:∀j,¬Li (Array.replicate ops.toArray.size false) j:=λj=> by
  unfold Li;simp [Array.getD]
 refine Y9 hC D (a0:=a) (λa' ρ' w' q1 q2 q3 q4=> hQ a' ρ' w' (by rw [<-e2];exact q1) (by rw [<-e1,<-e2];exact q2) (by rw [<-e2];exact q3) q4) ops.toArray.size _ a w.drew 0 ρ (by simp [vF]) ?_;refine⟨by simp,λj o _ hl=> absurd hl (hli j),zaQ _,λi _ _=> ⟨λhl=> absurd hl (hli i),λh=> by omega⟩,by rw [S.zero.2];exact RH0.drew,λk hk hc _=> ?_,?_,TR.size,λd hd=> ⟨λj o _ hl=> absurd hl (hli j),λ_=> ?_⟩,rfl⟩
 ·obtain⟨_,_,q1,_⟩:=D.names k hk hc;exact(R.out _ q1).1
 ·rw [S.zero.2];exact EH0.trans (Ext.drew ρ H0 w)
 ·rw [S.zero.2,hgen];exact RV.mono (Ext.drew ρ H w).toMono _ _ (TR.get d trivial hd)
theorem MB(hC:Sound P C)(hKC:iM C)(hm:P.follows .mixedOrders=true){id:Nat}{ops:Array Oper}(hd:∀o∈ops,xW o=true):sW P C (.region id ops true):=by
 intro l m t H e t' H' h ρ w a R T Q hlo hQ;simp only [dD,if_true] at h;split at h <;> first | (cases h;done) | skip
 rename_i t1 H1 hdr;simp only [zaa,zac] at h;obtain⟨rfl,rfl,rfl⟩:=h;have:=Yc hC hKC hdr R T (Q:=Q) hQ;rw [show ops.toList.toArray=ops from rfl] at this;exact wpIn_region_any hm (Yb hd hlo _ _ _ _ this)
theorem MC {id:Nat}{c:Code}(hc:sW P C c):sW P C (.block id c):=by
 intro l m t H e t' H' h ρ w a R T Q hlo hQ;simp only [dD] at h;refine wpIn_block ?_;unfold yC at h;have hl:¬LetsOut (Exit.inBlock id Q):=λ⟨a,w,h⟩=> hlo ⟨a,w,h⟩;split at h
 ·rename_i i t1 H1 hf;refine hc l m t H _ t1 H1 hf ρ w a R T _ hl λa2 ρ2 w2 r1 r2 r3 r4=> ?_;simp only [Ex.to,Exit.inBlock];split at h
  ·rename_i hid;simp only [zaa,zac] at h;obtain⟨rfl,rfl,rfl⟩:=h;rw [if_pos hid];exact hQ a2 ρ2 w2 r1 r2 r3 r4
  ·rename_i hid;simp only [zaa,zac] at h;obtain⟨rfl,rfl,rfl⟩:=h;rw [if_neg hid];exact hQ a2 ρ2 w2 r1 r2 r3 r4
 ·rename_i t1 H1 hf;simp only [zaa,zac] at h;obtain⟨rfl,rfl,rfl⟩:=h;exact hc l m t H _ t1 H1 hf ρ w a R T _ hl hQ
 ·rename_i t1 H1 hf;simp only [zaa,zac] at h;obtain⟨rfl,rfl,rfl⟩:=h;exact hc l m t H _ t1 H1 hf ρ w a R T _ hl hQ
 ·cases h
def rV(H:aj):Prop:=∀r k es,H.get r≠.map k es
theorem rV.cells {H:aj}(h:rV H){ρ:Ren}{w:World}(R:Rel ρ H w){r b sh:Nat}(hr:ρ r=some (b,sh)):∃cs e,w.heap[b]?=some (.cells cs e (0,0)):=by
 have:=R.obj r b sh hr;cases hg:H.get r with
 | blk g ty cells=>
  rw [hg] at this;obtain⟨cs,e,h1,_⟩:=this;exact⟨cs,e,h1⟩
 | map k es=> exact absurd hg (h r k es)
theorem rV.imm {H:aj}(h:rV H){ρ:Ren}{w:World}(R:Rel ρ H w){b:Nat}{o:Obj}(ho:w.heap[b]?=some o)(hc:o.isCells=false):Imm ρ b:=λr sh hr=> by
 obtain⟨cs,e,h1⟩:=h.cells R hr;rw [ho] at h1;cases h1;cases hc
end
structure Grn(w w':World):Prop where
 size:w.heap.size<=w'.heap.size
 cell:∀b o v,w.cell? ⟨b,o,none⟩=some v->w'.cell? ⟨b,o,none⟩=some v
 shape:∀b e m,w.shape? b=some (e,m)->w'.shape? b=some (e,m)
mutual
theorem RV.grn {ρ:Ren}{G:Nat->Nat}{w w':World}(M:Grn w w'):∀(x:AV) (v:Value),RV ρ G w x v->RV ρ G w' x v
 | .s _,_,h=> by simpa only [RV] using h
 | .ref r g off,v,h=> by simpa only [RV] using h
 | .sl r g off esz len cap ex,v,h=> by
  obtain⟨b,o,c,e,k1,k2,k3,h1,h2⟩:=(by simpa only [RV] using h)
  simp only [RV];refine⟨b,o,c,e,k1,k2,k3,h1,λhg=> ?_⟩;obtain⟨sh,ty,k,q1,q2,q3,q4⟩:=h2 hg;exact⟨sh,ty,k,q1,q2,M.shape _ _ _ q3,q4⟩
 | .ip cells,v,h=> by
  obtain⟨b,o,e,hb,hi,h1⟩:=(by simpa only [RV] using h)
  simp only [RV];exact⟨b,o,e,zat hb M.size,hi,RVc.grn M cells b o h1⟩
 | .vs m esz cells,v,h=> by
  obtain⟨b,o,c,e,k1,k2,hb,hi,h1⟩:=(by simpa only [RV] using h)
  simp only [RV];exact⟨b,o,c,e,k1,k2,zat hb M.size,hi,RVc.grn M cells b o h1⟩
 | .mp r,v,h=> by simpa only [RV] using h
 | .fn f a c,v,h=> by
  obtain⟨a',c',e,h1,h2⟩:=(by simpa only [RV] using h)
  simp only [RV];exact⟨a',c',e,RVs.grn M a _ h1,RVs.grn M c _ h2⟩
 | .agg cells,v,h=> by
  obtain⟨cs,e,h1⟩:=(by simpa only [RV] using h)
  simp only [RV];exact⟨cs,e,RVs.grn M cells _ h1⟩
 | .tup cells,v,h=> by
  obtain⟨cs,e,h1⟩:=(by simpa only [RV] using h)
  simp only [RV];exact⟨cs,e,RVs.grn M cells _ h1⟩
theorem RVs.grn {ρ:Ren}{G:Nat->Nat}{w w':World}(M:Grn w w'):∀(xs:List AV) (l:List Value),RVs ρ G w xs l->RVs ρ G w' xs l
 | [],_,h=> by simpa only [RVs] using h
 | x::xs,l,h=> by
  obtain⟨y,ys,e,h1,h2⟩:=(by simpa only [RVs] using h)
  simp only [RVs];exact⟨y,ys,e,RV.grn M x y h1,RVs.grn M xs ys h2⟩
theorem RVc.grn {ρ:Ren}{G:Nat->Nat}{w w':World}(M:Grn w w'):∀(xs:List AV) (b o:Nat),RVc ρ G w xs b o->RVc ρ G w' xs b o
 | [],_,_,_=> by simp only [RVc]
 | x::xs,b,o,h=> by
  obtain⟨⟨y,e,h1⟩,h2⟩:=(by simpa only [RVc] using h)
  simp only [RVc];exact⟨⟨y,M.cell _ _ _ e,RV.grn M x y h1⟩,RVc.grn M xs b (o+1) h2⟩
end
section
variable {P:Program}{C:Callee}
theorem ahf {w w':World}{row:Option Nat}(hg:w.grownBy w' row)(hr:∀r,row=some r->∃o:Obj,w.heap[r]?=some o/\o.isCells=false):Grn w w':=by
 refine⟨hg.size,λb o v h=> cell_kept h hg hr,λb e m h=> ?_⟩;rw [dw] at h ⊢;cases hb:w.heap[b]? with
 | none=> rw [hb] at h;cases h
 | some ob=>
  have hc:ob.isCells=true:=by
   rw [hb] at h;cases ob <;> first | rfl | cases h
  rw [grownBy_keeps_cells hg hr hb hc];exact h
theorem rV.grown {H:aj}(h:rV H){ρ:Ren}{w w':World}(R:Rel ρ H w){row:Option Nat}{B:Nat}(hg:w.grownBy w' row)(hr:∀r,row=some r->B<=r/\∃o:Obj,w.heap[r]?=some o/\o.isCells=false)(hB:∀b∈fx.blocks,b < B):Rel ρ H w'/\Grn w w':=by
 have M:=ahf hg λr e=> (hr r e).2;refine⟨⟨R.out,λr b sh hrb=> ?_,R.inj,?_⟩,M⟩
 ·have h1:=R.obj r b sh hrb;obtain⟨cs0,e0,hb0⟩:=h.cells R hrb;have hk:=grownBy_keeps_cells hg (λr e=> (hr r e).2) hb0 rfl;cases ho:H.get r with
  | blk g ty cells=>
   rw [ho] at h1;obtain⟨cs,e,q1,q2,q3,q4⟩:=h1;exact⟨cs,e,by rw [hk];exact q1,q2,RVc.grn M _ _ _ q3,q4⟩
  | map k es=> exact absurd ho (h r k es)
 ·refine⟨λb hb=> ?_,fx.frame w w' (λb hb=> ?_) R.gl.2⟩
  ·obtain⟨h1,h2⟩:=R.gl.1 b hb;exact⟨zat h1 hg.size,h2⟩
  ·refine hg.block b (R.gl.1 b hb).1 λe=> ?_;have:=(hr b e.symm).1;have:=hB b hb;omega
theorem Ext.grown {ρ ρ1:Ren}{H H1:aj}{w W W':World}(E:Ext ρ H w ρ1 H1 W){row:Option Nat}(hg:W.grownBy W' row)(hr:∀r,row=some r->w.heap.size<=r):Ext ρ H w ρ1 H1 W':=by
 have hb:∀b,b < w.heap.size->W'.heap[b]?=W.heap[b]?:=λb hb=> hg.block b (zat hb E.size) λe=> by
  have:=hr b e.symm;omega
 exact⟨E.next,E.mono,E.same,E.kept,E.range,zav E.size hg.size,λb h hi=> (hb b h).trans (E.frame b h hi),λb h=> by rw [<-E.shape b h,dw,dw,hb b h],hg.os.trans E.os,hg.tape.trans E.tape,hg.output.trans E.output⟩
def KpC(CP:World->Prop)(A B:World):Prop:=CP A->CP B
theorem Yd(hm:P.follows .mixedOrders=true){t:dJ}{H:aj}{ρ:Ren}{w:World}{a:Act}(R:Rel ρ H w)(T:TOn ρ H.gen w (λ_=> True) t a)
  {g:Operand} {p d:Tmp} (hp:p < t.length) (hpd:p≠d) {ida:Nat} {ty:TypeId} {pos:String} {aft:Array Edge} {body:Code}
  {gf:Nat} {lb:Array Value} (hg:a.eval g=.func (.func gf) #[] lb) (eg:∀args w,(callFunc gf args).run P w=.ok (.enter gf args) w)
  {N:Nat} (vs:Fin N->AV) (cvs:Fin N->Value) (hv:∀x,RV ρ H.gen w (vs x) (cvs x)) (CP:World->Prop) (hL:∀(W:World) (l:Nat) (o o':Obj),w.heap.size<=l->W.heap[l]?=some o->o.isCells=false->CP W->CP (W.putObj l o'))
  (hseq:∀n,1<=n->SeqStopsK Fence.wide n P gf lb (λx=> #[cvs x]) (KpC CP) (λys=> ys.map (λx:Fin N=> x.val)=List.range N) (λ_=> True) N w)
  (Inv:List (Fin N)->aj->Prop) (h0:Inv [] H) (hnm:∀pre H1,Inv pre H1->rV H1)
  (hcell:∀pre H1 ρ1 W,Inv pre H1->Rel ρ1 H1 W->Ext ρ H w ρ1 H1 W->CP W)
  (hrun:∀pre x H1,Inv pre H1->pre.length < N->∃t2 H2,dD P C body (qN (qN t (some p) (vs x)) (some d) (vs x)) H1=some (.normal,t2,H2)/\Inv (pre++[x]) H2)
  (hin:sW P C body) {Q:Exit->Act->World->Prop}
  (hQ:∀xs H1 D W ρ1,xs.map (λx:Fin N=> x.val)=List.range N->Inv xs H1->Rel ρ1 H1 W->Ext ρ H w ρ1 H1 W->W.heap[D]?=some (.deferred (some []))->Imm ρ1 D->w.heap.size<=D->Q .normal { a with defers:={ target:=.collected D,args:=#[] }::a.defers } W):
  (Code.rangeFunc g #[p] (.region ida #[{ dst:=some d,op:=.assign (.tmp p),type:=ty,pos:=pos,after:=aft,guard:=none }] false) body).wp P Q a w:=by
 refine(wpIn_wide (n:=9)).1 ?_;have hpa:p < a.tmps.size:=by rw [T.size];exact hp
 let a0:Fin N->Act:=λx=> { tmps:=a.tmps.setIfInBounds p (cvs x),defers:=[] }
 let I:List (Fin N)->World->Prop:=λpre W=>∃H1 ρ1,Inv pre H1/\Rel ρ1 H1 W/\Ext ρ H w ρ1 H1 W
 have hfx:∀b∈fx.blocks,b < w.heap.size:=λb hb=> (R.gl.1 b hb).1;refine wpIn_rangeFunc_ownF (F:=Fence.wide) (α:=Fin N) rfl (by decide) (gf:=gf) (lb:=lb) hg trivial eg (hseq 8 (by decide)) (λh k hx=> k (h hx)) ?hKb (Below.refl _ _) (λ_=> rfl) I (λ_ _ _=> False) ?hI (λ_ _ _ _ _ h _ _=> h) ⟨H,ρ,h0,R,Ext.refl _ _ _⟩ (λx=> (a0 x).put (some d) (cvs x)) ?hassign ?hbody ?hdone (λ_ _ _ _ _ _ h _=> h.elim)
 case hKb=>
  intro W l o o' hl ho hc _ hx;exact hL W l o o' hl ho hc hx
 case hI=>
  rintro pre W W' row ⟨H1,ρ1,i1,i2,i3⟩ hgr hr;obtain⟨r1,_⟩:=(hnm pre H1 i1).grown i2 hgr hr hfx;exact⟨H1,ρ1,i1,r1,i3.grown hgr λr e=> (hr r e).1⟩
 case hassign=>
  intro l x W K hK;refine wpIn_region ?_;have e1:(#[p].zip #[cvs x]).foldl (λt q=> t.setIfInBounds q.1 q.2) a.tmps=a.tmps.setIfInBounds p (cvs x):=by simp
  have e2:({ tmps:=a.tmps.setIfInBounds p (cvs x),defers:=[] }:Act).eval (.tmp p)=cvs x:=by
   simp [Act.eval,Array.getD,hpa]
  show wpOpsIn _ _ P _ _ [0] _ W;simp only [wpOpsIn,List.getElem?_toArray,zaU,Region.wanted,if_true];refine ahe (En rfl) ?_;unfold Oper.wp;have e3:execOp ({ tmps:=a.tmps.setIfInBounds p (cvs x),defers:=[] }:Act).eval { dst:=some d,op:=.assign (.tmp p),type:=ty,pos:=pos,after:=aft,guard:=none }=pure (.value (cvs x)):=by
   show pure (Next.value _)=_;rw [e2]
  have e4:((#[p].zip #[cvs x]).foldl (λt x=> match x with | (p,v)=> t.setIfInBounds p v) a.tmps)=a.tmps.setIfInBounds p (cvs x):=by simp
  rw [e4,e3];exact hK
 case hbody=>
  rintro l pre x W ⟨H1,ρ1,i1,i2,i3⟩ hlen;obtain⟨t2,H2,r1,r2⟩:=hrun pre x H1 i1 hlen;have hvx:=RV.mono i3.toMono _ _ (hv x);have T0:TOn ρ1 H1.gen W (λ_=> True) (qN t (some p) (vs x)) (a0 x):=⟨((T.keep i3).put (some p) hvx).size,((T.keep i3).put (some p) hvx).get⟩
  have T1:=T0.put (some d) hvx;refine hin l _ _ H1 _ t2 H2 r1 ρ1 W _ i2 T1 _ (λ⟨_,_,h⟩=> h) λa' ρ' w' q1 q2 q3 q4=> ?_;refine⟨⟨q3.size,λk o ho hc=> ?_⟩,λ_=> hcell _ H2 ρ' w' r2 q1 (i3.trans q3),H2,ρ',r2,q1,i3.trans q3⟩;rw [q3.frame k (zbh.1 ho).1 ((hnm pre H1 i1).imm i2 ho hc)];exact ho
 case hdone=>
  rintro D xs W hD hS ⟨H1,ρ1,i1,i2,i3⟩ hK;exact hQ xs H1 D W ρ1 hS i1 i2 i3 hK ((hnm xs H1 i1).imm i2 hK rfl) hD
end
def apz(e:TypeId)(m by_:Nat)(z:List AV)(x y:AV):AM AV:=λH=> match y with
 | .s (.int _ n)=> if 0<=n/\n<=most/\n*by_<=most then bQ e m by_ x n.toNat (bU z n.toNat) H else none
 | _=> none
def yK:Ann:=⟨[],[(4,rF 40 (none::some false::[])),(7,rF 3 (some true::rF 4 []))],[]⟩
def Vb:Code:=match acn with
 | .seq a (.seq b (.seq c (.seq d (.seq (.seq e _) f))))=> .seq a (.seq b (.seq c (.seq d (.seq e .skip))))
 | _=> .skip
def Vd(C:Callee)(t0:AV)(H:aj):Option (List AV × aj):=
 bnd (alc 70 [zI,zI,zI,zI,zI,zI,zI,zB,zN] H) λv2 H=>
 bnd (C 145 [t0] H) λv12 H=> bo (aF v12 0) λv13=> bo (aF v12 1) λv14=>
 bo (un .not v14) λv16=> gdA (some v16) false (aC (some v13) H) H λv18 H=> gdA (some v16) false (lnS v18 H) H λv19 H=> gdA (some v16) false (aC (bi .lss 3 v19 (I 10)) H) H λv20 H=> bo (bg v16 (B true) v20) λv21=> gdA (some v21) false (aC (some v13) H) H λv23 H=> gdA (some v21) false (lnS v23 H) H λv24 H=> gdA (some v21) false (aC (some v13) H) H λv25 H=> gdA (some v21) false (ix 1 v25 (I 9) H) H λv26 H=> gdA (some v21) false (ld v26 H) H λv27 H=> gdA (some v21) false (cv 5 3 v27 H) H λv28 H=> gdA (some v21) false (aC (bi .mul 3 (I 8) v28) H) H λv29 H=> gdA (some v21) false (aC (bi .add 3 (I 10) v29) H) H λv30 H=> gdA (some v21) false (aC (bi .neq 3 v24 v30) H) H λv31 H=> bo (bg v21 (B true) v31) λv32=>
 aI v32
 (bo (bd 70 []) λv33=> bnd (st 9 v2 v33 H) λ_ H=>
  none)
 (bnd (alc 70 [zI,zI,zI,zI,zI,zI,zI,zB,zN] H) λv6 H=> bnd (ix 1 v13 (I 0) H) λv35 H=> bnd (ld v35 H) λv36 H=> bnd (cv 5 3 v36 H) λv37 H=> bnd (ix 1 v13 (I 1) H) λv39 H=> bnd (ld v39 H) λv40 H=> bnd (cv 5 3 v40 H) λv41 H=> bnd (ix 1 v13 (I 2) H) λv43 H=> bnd (ld v43 H) λv44 H=> bnd (cv 5 3 v44 H) λv45 H=> bnd (ix 1 v13 (I 3) H) λv47 H=> bnd (ld v47 H) λv48 H=> bnd (cv 5 3 v48 H) λv49 H=> bo (bi .shl 3 v49 (.s (Go.Value.int Go.IntKind.u64 8))) λv50=> bnd (ix 1 v13 (I 4) H) λv52 H=> bnd (ld v52 H) λv53 H=> bnd (cv 5 3 v53 H) λv54 H=> bo (bi .or 3 v50 v54) λv55=> bnd (ix 1 v13 (I 5) H) λv57 H=> bnd (ld v57 H) λv58 H=> bnd (cv 5 3 v58 H) λv59 H=> bnd (ix 1 v13 (I 6) H) λv61 H=> bnd (ld v61 H) λv62 H=> bnd (cv 5 3 v62 H) λv63 H=> bo (bi .sub 3 v63 (I 1)) λv64=> bnd (ix 1 v13 (I 7) H) λv66 H=> bnd (ld v66 H) λv67 H=> bnd (cv 5 3 v67 H) λv68 H=> bnd (ix 1 v13 (I 8) H) λv70 H=> bnd (ld v70 H) λv71 H=> bo (bi .eql 5 v71 (.s (Go.Value.int Go.IntKind.u8 1))) λv72=> bo (bd 70 [(0,v37),(1,v41),(2,v45),(3,v55),(4,v59),(5,v64),(6,v68),(7,v72)]) λv73=> bnd (st 9 v6 v73 H) λ_ H=>
  bo (slS 1 v13 (some (I 10)) none none) λv75=> bnd (C 146 [v75,(I 8)] H) λv76 H=>
  some ([t0,v2,v6,v76],H))
theorem ahg(C:Callee)(t0:AV)(H:aj):iU Tryz.prog C yK 100 Vb [(0,t0)] H (λe H=> some (proj [0,2,6,76] e,H)) (λ_ _ _=> none) (λ_ _=> none)=Vd C t0 H:=by kernel_rfl
def O6:Code:=match acn with
 | .seq a (.seq b (.seq c (.seq d (.seq (.seq e (.block _ (.rangeFunc _ _ _ g))) f))))=> g
 | _=> .skip
def Ve(C:Callee)(t6 t7:AV)(H:aj):Option (List AV × aj):=
 bo (ah t6 8) λv78=> bnd (ld v78 H) λv79 H=> bnd (unG H (C 147 [t7] H.guard)) λv81 H=> bnd (bs 22 1 [(0,v81)] H) λv82 H=> bnd (app 3 1 8 v79 v82 H) λv83 H=> bo (ah t6 8) λv84=> bnd (st 1 v84 v83 H) λ_ H=>
 some ([],H)
theorem ahh(C:Callee)(t6 t7:AV)(H:aj):iU Tryz.prog C yK 100 O6 [(6,t6),(7,t7)] H (λe H=> some (proj [] e,H)) (λ_ _ _=> none) (λ_ _=> none)=Ve C t6 t7 H:=by kernel_rfl
def O7:Code:=match acn with
 | .seq a (.seq b (.seq c (.seq d (.seq (.seq e _) f))))=> f
 | _=> .skip
def Vf(C:Callee)(t0 t2 t6:AV)(H:aj):Option (AV × aj):=
 bnd (lda 9 t6 H) λv86 H=> bnd (C 94 [v86] H) λv87 H=> bo (aF v87 0) λv88=> bo (aF v87 1) λv89=>
 bo (bi .neq 76 v89 (I 0)) λv91=> gdA (some v91) false (aC (some v88) H) H λv93 H=> gdA (some v91) false (aC (some t0) H) H λv94 H=> gdA (some v91) false (C 148 [v93,v94] H) H λv95 H=> gdA (some v91) false (aC (un .not v95) H) H λv96 H=> bo (bg v91 (B true) v96) λv97=>
 aI v97
 (bo (bd 70 []) λv98=> bnd (st 9 t2 v98 H) λ_ H=>
  bnd (lda 9 t2 H) λr0 _=> some (.tup [r0,(I 2)],H))
 (bnd (lda 9 t6 H) λv99 H=> bnd (st 9 t2 v99 H) λ_ H=>
  bnd (lda 9 t2 H) λr0 _=> some (.tup [r0,(I 0)],H))
theorem ahi(C:Callee)(t0 t2 t6:AV)(H:aj):iU Tryz.prog C yK 100 O7 [(0,t0),(2,t2),(6,t6)] H (GY Tryz.prog 100 Tryz.f95.results.toList) (λ_ _ _=> none) (GY Tryz.prog 100 Tryz.f95.results.toList)=Vf C t0 t2 t6 H:=by kernel_rfl
def Gq(C:Callee)(t0:AV)(H:aj):OA:=
 some (t0,H)
def Gs(C:Callee)(t0 t1:AV)(H:aj):OA:=
 bnd (aC (Y4 Tryz.prog 180 t0) H) λv10 H=> bnd (lnS t0 H) λv12 H=> bo (bi .sub 3 v10 v12) λv13=> bo (bi .sub 3 t1 v13) λv14=>
 bo (bi .gtr 3 v14 (I 0)) λv16=>
 aI v16
 (bnd (aC (Y4 Tryz.prog 180 t0) H) λv19 H=> bo (slS 1 t0 none (some v19) none) λv20=> bnd (apz 5 1 1 [.s (.int .u8 0)] v20 v14 H) λv22 H=> bnd (lnS t0 H) λv24 H=> bo (slS 1 v22 none (some v24) none) λv25=>
  Gq C v25 H)
 (Gq C t0 H)
def aaZ(C:Callee)(a0 a1:AV)(H:aj):OA:=
 bo (bi .lss 3 a1 (I 0)) λv6=>
 aI v6
 (bnd (stk H) λv7 H=> bnd (stk H) λ_ H=>
  Gs C a0 a1 H)
 (Gs C a0 a1 H)
theorem ahj:Rn2 202 aaZ:=λ_ _ _ _ _ h=>
 rnG an0 Tryz.func202 (by kernel_rfl) (by kernel_rfl) h
structure Gro(H H':aj):Prop where
 next:H.next<=H'.next
 base:H'.base=H.base
 same:∀r,r < H.next->H'.get r=H.get r
 Jr:rV H->rV H'
theorem Gro.refl(H:aj):Gro H H:=⟨zab _,rfl,λ_ _=> rfl,λh=> h⟩
theorem Gro.trans {H H' H'':aj}(a:Gro H H')(b:Gro H' H''):Gro H H'':=
 ⟨zav a.next b.next,b.base.trans a.base,λr h=> (b.same r (zat h a.next)).trans (a.same r h),λh=> b.Jr (a.Jr h)⟩
theorem Gro.new(H:aj)(g ty:Nat)(xs:List AV):Gro H (H.new (.blk g ty xs)):=
 ⟨by rw [nNew];omega,bNew,λr h=> cZ h,λh r k es=> by
  by_cases e:r=H.next
  ·rw [aP e];simp
  ·have:(H.new (.blk g ty xs)).get r=H.get r:=by simp [aj.new,e]
   rw [this];exact h r k es⟩
structure aZ(H:aj)(x:AV)(l:List By):Prop where
 is:aH H x 1 l.length (l.map Y)
 small:l.length < 1000
theorem aZ.gro {H H':aj}{x:AV}{l:List By}(h:aZ H x l)(g:Gro H H'):aZ H' x l:=⟨h.is.lM g.next λr _ hr=> g.same r hr,h.small⟩
theorem aZ.ix {H:aj}{x:AV}{l:List By}(h:aZ H x l){i:Nat}(hi:i < l.length):ix 1 x (I i) H=some (cO x i,H):=by
 have:=h.is.ix (k:=.i64) (i:=(i:Int)) (by omega) (by omega)
 rwa [zaB] at this
theorem aZ.ld {H:aj}{x:AV}{l:List By}(h:aZ H x l){i:Nat}{c:By}(hi:l[i]?=some c):ld (cO x i) H=some (Y c,H):=by
 rw [h.is.ld (by have:=(zam.1 hi).1;omega),zaI,hi];rfl
theorem acs(s:S16):(s <<< 1) ^^^ ((s >>> 15)*4129#16)=shS s:=by
 unfold shS
 congr 1
 have hlt:=s.isLt;have h15:s >>> 15=if s.msb then 1#16 else 0#16:=by
  apply BitVec.eq_of_toNat_eq
  rw [BitVec.toNat_ushiftRight,Nat.shiftRight_eq_div_pow,BitVec.msb_eq_decide];by_cases h:2 ^ (16 - 1)<=s.toNat
  ·simp only [h,decide_true,if_true];show s.toNat / 2 ^ 15=1;omega
  ·simp only [h,decide_false,zaf,if_false];show s.toNat / 2 ^ 15=0;omega
 rw [h15];cases s.msb <;> simp
theorem aa0 {x:AV}{n i:Int}(H:aj):∀(k j:Nat),j+k=8->∀s:S16,zJ cl0 [U16 s,x,I n,I i,I j] H=wG cl0 [U16 (shN k s),x,I n,I (IntKind.wrap .i64 (i+1))] H
 | 0,j,hj,s=> by
  have h1:¬((j:Int) < 8):=by omega
  rw [OY];simp -implicitDefEqProofs only [xq_,h1,bV];rfl
 | k+1,j,hj,s=> by
  have h1:(j:Int) < 8:=by omega
  have h6:(j:Int)+1=((j+1:Nat):Int):=by omega
  have h7:=wrap_i64 (a:=((j+1:Nat):Int)) (by omega) (by omega);have e1:bi .shr 33 (U16 s) (.s (.int .u64 15))=some (U16 (s >>> 15)):=abZ (k:=.u16) s 15 (by decide) (by decide);have e2:bi .shl 33 (U16 s) (.s (.int .u64 1))=some (U16 (s <<< 1)):=Uc (k:=.u16) rfl s 1 (by decide) (by decide);have e3:bi .mul 33 (U16 (s >>> 15)) (.s (.int .u16 4129))=some (U16 ((s >>> 15)*4129#16)):=aiG (k:=.u16) rfl (s >>> 15) 4129#16;have e4:bi .xor 33 (U16 (s <<< 1)) (U16 ((s >>> 15)*4129#16))=some (U16 (shS s)):=by rw [<-acs];exact abY (k:=.u16) rfl _ _
  have ih:=aa0 (x:=x) (n:=n) (i:=i) H k (j+1) (by omega) (shS s);rw [OY];simp -implicitDefEqProofs only [xq_,h1,e1,e2,e3,e4,bV,h6,h7,ih];rfl
theorem akP {H:aj}{x:AV}{l:List By}(hx:aZ H x l):cl0 180 [x] H=some (U16 (qh 0xffff#16 l),H):=by
 have key:∀(k i:Nat),i+k=l.length->∀s:S16,wG cl0 [U16 s,x,I l.length,I i] H=some (U16 (qh s (l.drop i)),H):=by
  intro k
  induction k with
  | zero=>
   intro i hi s;have h1:¬((i:Int) < l.length):=by omega
   rw [OX,zaN (by omega)];simp -implicitDefEqProofs only [xq_,h1];rfl
  | succ k ih=>
   intro i hi s;have h1:(i:Int) < l.length:=by omega
   have h6:(i:Int)+1=((i+1:Nat):Int):=by omega
   have h7:=wrap_i64 (a:=((i+1:Nat):Int)) (by have:=hx.small;omega) (by have:=hx.small;omega);obtain⟨c,hc⟩:∃c,l[i]?=some c:=⟨_,zad (by omega)⟩
   have s1:=hx.ix (i:=i) (by omega);have s2:=hx.ld hc;have e1:cv 5 33 (Y c) H=some (U16 (c.setWidth 16),H):=
    (abL (k:=.u8) (n:=(c.toNat:Int)) (H:=H)).trans (congrArg (λv=> some (v,H)) (aeG (k:=.u8) (k':=.u16) rfl c))
   have e2:bi .shl 33 (U16 (c.setWidth 16)) (.s (.int .u64 8))=some (U16 (c.setWidth 16 <<< 8)):=Uc (k:=.u16) rfl (c.setWidth 16) 8 (by decide) (by decide);have e3:bi .xor 33 (U16 s) (U16 (c.setWidth 16 <<< 8))=some (U16 (s ^^^ (c.setWidth 16 <<< 8))):=abY (k:=.u16) rfl _ _;have e4:=aa0 (x:=x) (n:=(l.length:Int)) (i:=(i:Int)) H 8 0 rfl (s ^^^ (c.setWidth 16 <<< 8));rw [h6,h7] at e4;have hd:l.drop i=c::l.drop (i+1):=by
    rw [zbA (by omega)];rw [zad (by omega)] at hc;rw [za9 hc]
   have ih1:=ih (i+1) (by omega) (Rh s c);have e5:qh s (c::l.drop (i+1))=qh (Rh s c) (l.drop (i+1)):=rfl;rw [OX,hd,e5,<-ih1];have z0:((0:Nat):Int)=0:=rfl;rw [z0] at e4;simp -implicitDefEqProofs only [xq_,h1,s1,s2,e1,e2,e3,e4];rfl
 refine eG (agI _ _ _ ?_);have s0:=hx.is.lnS;have k0:=key l.length 0 (by omega) 0xffff#16;rw [zaM] at k0;simp -implicitDefEqProofs only [xq_,aaN,s0];exact k0
theorem O8 {e:Nat}{z a c:AV}{H:aj}(ha:One a)(hc:One c):bsl e 1 [z] 2 [(0,a),(1,c)] H=some (.sl H.next 0 0 1 2 2 true,H.new (.blk 0 e [a,c])):=by
 have e1:bU [z] 2=[z,z]:=rfl;unfold bsl;rw [e1,Bj (off:=0) rfl ha.1 (by simp),Bj (off:=1) rfl hc.1 (by simp),bT];simp only [zb1,List.set_cons_succ];simp only [List.all_cons,ha.2,hc.2,List.all_nil,zb5,if_true]
theorem Vg {e by_ r ty len cap n:Nat}{ex:Bool}{y:AV}{cells new:List AV}{H:aj}(hx:H.get r=.blk 0 ty cells)(hb:H.base<=r)(hy:aH H y 1 n new)(hc:new.all AV.aJ=true)(hcap:len+n<=cap)(hl:len+n<=cells.length):
  app e 1 by_ (.sl r 0 0 1 len cap ex) y H=some (.sl r 0 0 1 (len+n) cap ex,H.put r (.blk 0 ty (setAt cells len new))):=by
 obtain⟨c1,c2⟩:=hy.uh;simp only [app,c1,c2];unfold bQ;rw [if_pos ⟨hy.1,hc⟩];simp only [hx];rw [if_pos ⟨trivial,trivial,by omega⟩];by_cases hn:n=0
 ·subst hn;have hnew:new=[]:=zao (by have:=hy.1;omega);subst hnew;rw [if_pos rfl];have:setAt cells len []=cells:=by simp [setAt]
  rw [this,zbn];have:H.put r (.blk 0 ty cells)=H:=by
   unfold aj.put;cases H with
   | mk n b g=>
    simp only at hx ⊢
    congr 1
    funext x
    split
    ·rename_i h;rw [h,hx]
    ·rfl
  rw [this]
 ·rw [if_neg hn,if_pos hcap,if_pos ⟨hb,by omega⟩];simp
theorem ajE(H:aj)(n:Nat)(h0:0 < n)(h1:n < 10000):cl0 202 [zN,I n] H=some (.sl H.next 0 0 1 0 n false,H.new (.blk 0 (5+dV) (bU [.s (.int .u8 0)] n))):=by
 refine eG (ahj _ _ _ _ ?_);have n0:¬((n:Int) < 0):=by omega
 have cp:Y4 Tryz.prog 180 zN=some (I 0):=by kernel_rfl
 have w0:IntKind.wrap .i64 ((0:Int) - 0)=0:=rfl;have w1:IntKind.wrap .i64 ((n:Int) - 0)=n:=by rw [Int.sub_zero];exact wrap_i64 (by omega) (by omega)
 have g0:(0:Int) < n:=by omega
 have s0:slS 1 zN none (some (I 0)) none=some zN:=by kernel_rfl
 have az:apz 5 1 1 [.s (.int .u8 0)] zN (I n) H=some (.sl H.next 0 0 1 n n false,H.new (.blk 0 (5+dV) (bU [.s (.int .u8 0)] n))):=by
  show(if 0<=(n:Int)/\(n:Int)<=most/\(n:Int)*1<=most then bQ 5 1 1 zN (n:Int).toNat (bU [.s (.int .u8 0)] (n:Int).toNat) H else none)=_;have hm:(n:Int)<=most:=by unfold most;omega
  rw [if_pos ⟨by omega,hm,by omega⟩,zaB];unfold bQ;have hl:(bU [AV.s (.int .u8 0)] n).length=n*1:=by rw [oI];simp
  rw [if_pos ⟨hl,xF rfl n⟩];simp only;rw [if_neg (by omega),if_pos ⟨by unfold most;omega,by unfold most;omega⟩]
 have s1:slS 1 (.sl H.next 0 0 1 n n false) none (some (I 0)) none=some (.sl H.next 0 0 1 0 n false):=Tv (by omega) (by omega);have ln0:∀H,lnS zN H=some (I 0,H):=λ_=> rfl;simp -implicitDefEqProofs only [xq_,aaZ,Gs,Gq,n0,cp,ln0,gZ,w0,w1,g0,s0,az,s1]
theorem acu {c:By}:One (Y c):=⟨rfl,rfl⟩
theorem Vh {H:aj}{x:AV}{l:List By}(h:aZ H x l):One x:=by
 obtain⟨_,hh⟩:=h.is;cases x with
 | sl r g off esz len cap ex=> exact qI
 | vs n m l=> exact Zx
 | s v=> cases v <;> first | exact hh.elim | exact⟨rfl,rfl⟩
 | _=> exact hh.elim
theorem akQ {H:aj}(hb:H.base<=H.next){a x y:AV}{l m:List By}(ha:aH H a 1 2 [x,y])(hx:aZ H x l)(hy:aZ H y m)(hm:0 < m.length):
  cl0 181 [a] H=some (.sl H.next 0 0 1 (l.length+m.length) (l.length+m.length) false,H.new (.blk 0 (5+dV) ((l++m).map Y))):=by
 have sl:=hx.small;have sm:=hy.small;refine eG (agJ _ _ _ ?_);have ln:=ha.lnS;have i0:=ha.ix (k:=.i64) (i:=0) (by decide) (by decide);have i1:=ha.ix (k:=.i64) (i:=1) (by decide) (by decide);have d0:ld (cO a 0) H=some (x,H):=ha.ld (by decide);have d1:ld (cO a 1) H=some (y,H):=ha.ld (by decide);have lx:=hx.is.lnS;have ly:=hy.is.lnS;let Z:aj->List AV->aj:=λH l=> H.new (.blk 0 (5+dV) l)
 obtain⟨n,hn⟩:∃n,n=l.length+m.length:=⟨_,rfl⟩
 have gr:=ajE H n (by omega) (by omega);have K:∀cs,Gro H (H.new (.blk 0 (5+dV) cs)):=λcs=> Gro.new H 0 _ cs;have hz:(bU [AV.s (.int .u8 0)] n).length=n:=by rw [oI];simp
 -- behind the first
 let c1:=setAt (bU [AV.s (.int .u8 0)] n) 0 (l.map Y);have a1:=Vg (e:=5) (by_:=1) (r:=H.next) (ex:=false) (cap:=n) (H:=H.new (.blk 0 (5+dV) (bU [.s (.int .u8 0)] n))) (aP rfl) (by rw [bNew];exact hb) (hx.gro (K _)).is (X4 l) (len:=0) (by omega) (by omega);rw [LH,za0] at a1;have hc1:c1.length=n:=by simp only [c1,setAt,zan,zar,zaD,zaA,hz];omega
 have a2:=Vg (e:=5) (by_:=1) (r:=H.next) (ex:=false) (cap:=n) (H:=H.new (.blk 0 (5+dV) c1)) (aP rfl) (by rw [bNew];exact hb) (hy.gro (K _)).is (X4 m) (len:=l.length) (by omega) (by omega);rw [LH] at a2;have hc2:setAt c1 l.length (m.map Y)=(l++m).map Y:=by
  simp only [c1,setAt,List.take_zero,zaS,za0,zaA];rw [zbB (by simp),zax (by simp),List.drop_append,zaN (by simp),zbq];rw [zaN (by simp only [hz,zaA];omega)];simp
 rw [hc2] at a2;have ga:=λcs=> (ha.lM (K cs).next λr _ hr=> (K cs).same r hr)
 have li:=λcs=> (ga cs).lnS;have j0:=λcs=> (ga cs).ix (k:=.i64) (i:=0) (by decide) (by decide);have j1:=λcs=> (ga cs).ix (k:=.i64) (i:=1) (by decide) (by decide);have e0:∀cs,ld (cO a 0) (H.new (.blk 0 (5+dV) cs))=some (x,H.new (.blk 0 (5+dV) cs)):=λcs=> (ga cs).ld (by decide);have e1:∀cs,ld (cO a 1) (H.new (.blk 0 (5+dV) cs))=some (y,H.new (.blk 0 (5+dV) cs)):=λcs=> (ga cs).ld (by decide);have t0:((0:Int).toNat)=0:=rfl;have t1:((1:Int).toNat)=1:=rfl;rw [t0] at i0;rw [t1] at i1;have j0:∀cs,ix 1 a (I 0) (H.new (.blk 0 (5+dV) cs))=some (cO a 0,H.new (.blk 0 (5+dV) cs)):=j0;have j1:∀cs,ix 1 a (I 1) (H.new (.blk 0 (5+dV) cs))=some (cO a 1,H.new (.blk 0 (5+dV) cs)):=j1;have w1:IntKind.wrap .i64 ((0:Int)+l.length)=l.length:=by rw [Int.zero_add];exact wrap_i64 (by omega) (by omega)
 have w2:IntKind.wrap .i64 ((l.length:Int)+m.length)=n:=by rw [hn];have:=wrap_i64 (a:=((l.length+m.length:Nat):Int)) (by omega) (by omega);rwa [Int.natCast_add] at this ⊢
 have p1:IntKind.wrap .i64 (1:Int)=1:=rfl;have p2:IntKind.wrap .i64 (2:Int)=2:=rfl;have q1:¬((l.length:Int) < 0):=by omega
 have q2:¬((n:Int) < 0):=by omega
 have z2:((2:Nat):Int)=2:=rfl;rw [z2] at ln;have li:∀cs,lnS a (H.new (.blk 0 (5+dV) cs))=some (I 2,H.new (.blk 0 (5+dV) cs)):=li;rw [<-hn] at a2 ⊢;simp only [c1] at a2;simp -implicitDefEqProofs only [xq_,aaO,ln];rw [Gn];simp -implicitDefEqProofs only [Int.reduceLT,Int.reduceAdd,xq_,zK,i0,d0,lx,bV,w1,q1,p1];rw [Gn];simp -implicitDefEqProofs only [Int.reduceLT,Int.reduceAdd,xq_,zK,i1,d1,ly,bV,w2,q2,p2];rw [Gn];simp -implicitDefEqProofs only [Int.reduceLT,xq_,gr,li];rw [Gp];simp -implicitDefEqProofs only [Int.reduceLT,Int.reduceAdd,xq_,j0,e0,a1,bV,p1];rw [Gp];simp -implicitDefEqProofs only [Int.reduceLT,Int.reduceAdd,xq_,j1,e1,a2,bV,p2];rw [Gp];simp -implicitDefEqProofs only [Int.reduceLT,xq_]
theorem aZ.made {H:aj}{l:List By}{ty:TypeId}{ex:Bool}(h:l.length < 1000):aZ (H.new (.blk 0 ty (l.map Y))) (.sl H.next 0 0 1 l.length l.length ex) l:=
 ⟨kW (by simp),h⟩
theorem acv {H:aj}(hb:H.base<=H.next){x:AV}{l:List By}(hx:aZ H x l)(hl:l.length < 900):
  ∃y H',cl0 144 [x] H=some (y,H')/\Gro H H'/\aZ H' y (ig l)/\H'.base<=H'.next:=by
 obtain⟨s,hs⟩:∃s,qh 0xffff#16 l=s:=⟨_,rfl⟩
 have e1:=akP hx;rw [hs] at e1;have e2:bi .shr 33 (U16 s) (.s (.int .u64 8))=some (U16 (s >>> 8)):=abZ (k:=.u16) s 8 (by decide) (by decide);have e3:∀H,cv 33 5 (U16 (s >>> 8)) H=some (Y (Ri s),H):=λH=>
  (Tc (k:=.u16) (n:=((s >>> 8).toNat:Int)) (H:=H)).trans (congrArg (λv=> some (v,H)) (aeG (k:=.u16) (k':=.u8) rfl (s >>> 8)))
 have e4:∀H,cv 33 5 (U16 s) H=some (Y (Rj s),H):=λH=>
  (Tc (k:=.u16) (n:=(s.toNat:Int)) (H:=H)).trans (congrArg (λv=> some (v,H)) (aeG (k:=.u16) (k':=.u8) rfl s))
 let H1:=H.new (.blk 0 5 [Y (Ri s),Y (Rj s)]);let y1:AV:=.sl H.next 0 0 1 2 2 true
 let H2:=H1.new (.blk 0 180 [x,y1]);have g1:Gro H H1:=Gro.new H 0 _ _;have g2:Gro H1 H2:=Gro.new H1 0 _ _;have by1:aZ H1 y1 [Ri s,Rj s]:=aZ.made (l:=[Ri s,Rj s]) (by simp);have ha:aH H2 (.sl H1.next 0 0 1 2 2 true) 1 2 [x,y1]:=kW rfl;have hb2:H2.base<=H2.next:=by simp only [H2,H1,bNew,nNew];omega
 have ec:=akQ hb2 ha (hx.gro (g1.trans g2)) (by1.gro g2) (by simp);have hse:ig l=l++[Ri s,Rj s]:=by unfold ig;rw [hs]
 have hlen:(ig l).length=l.length+2:=by rw [hse];simp
 have bm:=aZ.made (H:=H2) (l:=ig l) (ty:=5+dV) (ex:=false) (by omega);rw [hlen] at bm;have l2:([Ri s,Rj s]:List By).length=2:=rfl;rw [<-hse,l2] at ec;refine⟨_,_,eG (af6 _ _ _ (r:=(.sl H2.next 0 0 1 (l.length+2) (l.length+2) false,H2.new (.blk 0 (5+dV) ((ig l).map Y)))) ?_),(g1.trans g2).trans (Gro.new H2 0 _ _),bm,by rw [bNew,nNew];omega⟩;have b1:bs 180 2 [(0,Y (Ri s)),(1,Y (Rj s))] H=some (y1,H1):=(Og (by decide)).trans (O8 acu acu);have b2:bs 297 2 [(0,x),(1,y1)] H1=some (.sl H1.next 0 0 1 2 2 true,H2):=(adT (by decide)).trans (O8 (Vh hx) qI);simp -implicitDefEqProofs only [xq_,aap,e1,e2,e3,e4,b1,b2,ec]
theorem yL:∀(ns:List Int) (b:ByteArray),(ns.foldl (λs n=> s.push (UInt8.ofNat n.toNat)) b).data.toList=b.data.toList++ns.map λn=> UInt8.ofNat n.toNat
 | [],b=> by simp
 | n::ns,b=> by
  rw [zby,yL ns];simp [ByteArray.push]
theorem Vj {l m:List By}(h:toStr (l.map λc=> (c.toNat:Int))=toStr (m.map λc=> (c.toNat:Int))):l=m:=by
 have h1:=congrArg (λb:ByteArray=> b.data.toList) h;unfold toStr at h1;simp only [yL,List.map_map] at h1;have h2:l.map (λc:By=> UInt8.ofBitVec c)=m.map (λc:By=> UInt8.ofBitVec c):=by
  have key:∀l:List By,l.map ((λn:Int=> UInt8.ofNat n.toNat) ∘ λc:By=> (c.toNat:Int))=l.map (λc:By=> UInt8.ofBitVec c):=λl=> zbx λc _=> by
   simp only [Function.comp,zaB]
   apply UInt8.toBitVec_inj.1
   simp
  rw [<-key,<-key]
  simpa using h1
 exact(List.map_inj_right λa b h=> by simpa using h).1 h2
theorem xX:∀l:List By,kM (l.map Y)=some (l.map λc=> (c.toNat:Int))
 | []=> rfl
 | c::l=> by
  show(match kM (l.map Y) with | some l'=> some ((c.toNat:Int)::l') | none=> none)=_;rw [xX l];rfl
theorem ahk {H:aj}{x:AV}{l:List By}(hx:aZ H x l):cv 180 9 x H=some (.s (.string (toStr (l.map λc=> (c.toNat:Int)))),H):=by
 have hbt:Ad Tryz.prog 180 9=true:=by kernel_rfl
 obtain⟨hl,hh⟩:=hx.is;show iL (vg Tryz.prog 180 9 x) x H=_;unfold iL vg;rw [if_pos hbt];cases x with
 | sl r g off esz len cap ex=>
  obtain⟨rfl,rfl,_,ty,all,h2,h3,h4⟩:=hh;simp only [aS,zah,adn,if_true,h2];rw [if_pos ⟨trivial,h3⟩,<-h4,xX];rfl
 | vs n m cs=>
  obtain⟨rfl,rfl,rfl⟩:=hh;simp only [adn,if_true,xX];rfl
 | s v=>
  cases v with
  | slice a b c=>
   cases a with
   | none=>
    obtain⟨rfl,rfl,h3⟩:=(show b=0/\c=0/\l.length=0 from hh)
    have:l=[]:=zao h3;subst this;rfl
   | some a=> exact hh.elim
  | _=> exact hh.elim
 | _=> exact hh.elim
theorem Vk {H:aj}{x y:AV}{l m:List By}(hx:aZ H x l)(hy:aZ H y m):cl0 148 [x,y] H=some (B (decide (l=m)),H):=by
 refine eG (af9 _ _ _ _ ?_);have e1:=ahk hx;have e2:=ahk hy;have e3:∀a c:ByteArray,bi .eql 9 (.s (.string a)) (.s (.string c))=some (B (decide (a=c))):=λa c=> by
  show lW _ _ _ _ _=_;rcases a with⟨a⟩
  rcases c with⟨c⟩
  by_cases h:a=c
  ·simp [lW,AV.val?,eqGuard,binOp,Op.stringOp,bC,h]
  ·have h2:¬a.toList=c.toList:=λe=> h (zbY.1 e);rw [<-ByteArray.toList_eq ⟨a⟩,<-ByteArray.toList_eq ⟨c⟩] at h2;simp [lW,AV.val?,eqGuard,binOp,Op.stringOp,bC,h,h2]
 have e4:decide (toStr (l.map λc=> (c.toNat:Int))=toStr (m.map λc=> (c.toNat:Int)))=decide (l=m):=by
  by_cases h:l=m
  ·rw [h];simp
  ·rw [decide_eq_false h,decide_eq_false λe=> h (Vj e)]
 simp -implicitDefEqProofs only [xq_,aat,e1,e2,e3,e4]
theorem aZ.to_ {H:aj}{x:AV}{l:List By}(h:aZ H x l){n:Nat}(hn:n<=l.length):∃y,slS 1 x none (some (I n)) none=some y/\aZ H y (l.take n):=by
 obtain⟨⟨hl,hh⟩,hs⟩:=h;have ht:(l.take n).length=n:=by rw [zar];omega
 have small:(l.take n).length < 1000:=by omega
 cases x with
 | sl r g off esz len cap ex=>
  obtain⟨rfl,rfl,⟨hr,hc⟩,ty,all,h2,h3,h4⟩:=hh;refine⟨_,Tv (by omega) (by omega),⟨⟨by simp,rfl,by rw [ht,zaB],⟨hr,by rw [zaB];omega⟩,ty,all,h2,by rw [ht];omega,?_⟩,small⟩⟩;rw [List.map_take,h4,zbP,ht]
  congr 1
  omega
 | vs k' esz cs=>
  obtain⟨rfl,rfl,rfl⟩:=hh;refine⟨.vs n 1 ((l.take n).map Y),?_,⟨by simp,rfl,by rw [ht],rfl⟩,small⟩;have h0:(0:Int)<=n:=by omega
  simp only [slS,gG,h0,if_true,zaB];rw [if_pos ⟨trivial,by omega,hn⟩];simp
 | s v=>
  cases v with
  | slice a b c=>
   cases a with
   | none=>
    obtain⟨rfl,rfl,h3⟩:=(show b=0/\c=0/\l.length=0 from hh)
    have:l=[]:=zao h3;subst this;have:n=0:=by simpa using hn
    subst this;exact⟨zN,by kernel_rfl,⟨rfl,rfl,rfl,rfl⟩,by decide⟩
   | some a=> exact hh.elim
  | _=> exact hh.elim
 | _=> exact hh.elim
theorem Vl {H:aj}{x:AV}{l:List By}(hx:aZ H x l)(hl:l≠[]):cl0 149 [x] H=some (.sl (H.next+1) 0 0 1 l.length l.length false,(H.new (.blk 0 5 [])).new (.blk 0 (5+dV) (l.map Y))):=by
 have h0:l.length≠0:=λe=> hl (zao e);have e2:=oG (e:=5) (by_:=1) (r:=H.next) (H:=H.new (.blk 0 5 [])) mD (hx.gro (Gro.new H 0 _ _)).is (X4 l) h0 (by have:=hx.small;unfold most;omega) (by have:=hx.small;unfold most;omega);simp only [nNew] at e2;have e1:bi .eql 180 x zN=some (B false):=by
  obtain⟨_,hh⟩:=hx.is;cases x with
  | sl r g off esz len cap ex=> exact xE Tryz.underlying180
  | vs n m l=> exact oH Tryz.underlying180
  | s v=>
   cases v with
   | slice a b c=>
    cases a with
    | none=> exact absurd hh.2.2 h0
    | some a=> exact hh.elim
   | _=> exact hh.elim
  | _=> exact hh.elim
 refine eG (aga _ _ _ ?_);simp -implicitDefEqProofs only [xq_,aau,e1,Og,uO,e2,za7,zaQ]
theorem Ye {H:aj}(hb:H.base<=H.next){x:AV}{l:List By}(hx:aZ H x l)(hl:l.length < 900)(hn:∀m,l≠ig m):
  ∃H',cl0 145 [x] H=some (.tup [zN,B false],H')/\Gro H H':=by
 have ln:=hx.is.lnS;have w1:=wrap_i64 (a:=(l.length:Int) - 2) (by omega) (by omega);by_cases h2:(l.length:Int) - 2 < 0
 ·refine⟨H,eG (UK _ _ _ ?_),Gro.refl H⟩;simp -implicitDefEqProofs only [xq_,OL,ln,gZ,w1,h2]
 ·obtain⟨n,hnn⟩:∃n:Nat,(l.length:Int) - 2=n:=⟨l.length - 2,by omega⟩
  rw [hnn] at w1 h2;obtain⟨y,s1,by1⟩:=hx.to_ (n:=n) (by omega);obtain⟨z,H1,e1,g1,bz,_⟩:=acv hb by1 (by rw [zar];omega);have e2:=Vk bz (hx.gro g1);rw [decide_eq_false λe=> hn _ e.symm] at e2;refine⟨H1,eG (UK _ _ _ ?_),g1⟩;simp -implicitDefEqProofs only [xq_,OL,ln,gZ,hnn,w1,h2,s1,e1,e2,zak]
theorem acw {H:aj}(hb:H.base<=H.next){x:AV}{m:List By}(hx:aZ H x (ig m))(hl:m.length < 800)(h0:m≠[]):
  ∃y H',cl0 145 [x] H=some (.tup [y,B true],H')/\Gro H H'/\aZ H' y m/\(∃r,y=.sl r 0 0 1 m.length m.length false):=by
 have hlen:(ig m).length=m.length+2:=by unfold ig;simp
 have htake:(ig m).take m.length=m:=by unfold ig;simp
 have ln:=hx.is.lnS;have w0:(((ig m).length:Nat):Int) - 2=(m.length:Int):=by omega
 have w1:=wrap_i64 (a:=(m.length:Int)) (by omega) (by omega);have h2:¬((m.length:Int) < 0):=by omega
 obtain⟨y,s1,by1⟩:=hx.to_ (n:=m.length) (by omega);rw [htake] at by1;obtain⟨z,H1,e1,g1,bz,_⟩:=acv hb by1 (by omega);have e2:=Vk bz (hx.gro g1);rw [decide_eq_true rfl] at e2;have e3:=Vl (by1.gro g1) h0;have gg:Gro H1 ((H1.new (.blk 0 5 [])).new (.blk 0 (5+dV) (m.map Y))):=(Gro.new H1 0 _ _).trans (Gro.new _ 0 _ _);have bm:=aZ.made (H:=H1.new (.blk 0 5 [])) (l:=m) (ty:=5+dV) (ex:=false) (by omega);rw [nNew] at bm;refine⟨_,_,eG (UK _ _ _ (r:=(.tup [.sl (H1.next+1) 0 0 1 m.length m.length false,B true],(H1.new (.blk 0 5 [])).new (.blk 0 (5+dV) (m.map Y)))) ?_),g1.trans gg,bm,_,rfl⟩;simp -implicitDefEqProofs only [xq_,OL,ln,gZ,w0,w1,h2,s1,e1,e2,e3,zae]
abbrev nil0:Store:=λ_=> none
def cup(n:Nat)(g g':Store):Store:=λq=> if q < n then g q else g' q
structure Made(H H':aj)(g':Store):Prop where
 next:H.next<=H'.next
 base:H'.base=H.base
 same:∀r,r < H.next->H'.get r=H.get r
 good:Good H.next H' g'
section
variable {b:Nat}{H H' H'':aj}{g g':Store}{q:Nat}{cs:List Cell}
theorem Good.merge(G:Good b H g)(M:Made H H' g'):Good b H' (cup H.next g g'):=by
 obtain⟨h0,τ,h1⟩:=G;obtain⟨k0,τ',k1⟩:=M.good;have n1:=M.next
 refine⟨by omega,λr=> if r < H.next then τ r else τ' r,λq cs hq=> ?_⟩;unfold cup at hq;split at hq
 ·rename_i hl;exact(h1 q cs hq).keep n1 λr i s t hr ht=> ⟨by rw [if_pos hr];exact ht,M.same r hr⟩
 ·rename_i hl;have R:=k1 q cs hq
  -- all its blocks are new
  have key:∀{T:Tag} {x:AV} {m:Nat} {cells:List AV},OS H.next H' τ' T x m cells->OS b H' (λr=> if r < H.next then τ r else τ' r) T x m cells:=by
   intro T x m cells ho;rcases ho with ho | ⟨r,gg,off,n,cap,ex,ty,all,e,t1,t2,t3,t4⟩
   ·exact .inl ho
   ·exact .inr ⟨r,gg,off,n,cap,ex,ty,all,e,by simp only;rw [if_neg (by omega)];exact t1,by omega,t3,t4⟩
  have akj:∀{T:Tag} {x:AV} {k:IntKind} {es:List (Int × AV)},OM H.next H' τ' T x k es->OM b H' (λr=> if r < H.next then τ r else τ' r) T x k es:=by
   intro T x k es ⟨r,e,t1,t2,t3,t4⟩;exact⟨r,e,by simp only;rw [if_neg (by omega)];exact t1,by omega,t3,t4⟩
  obtain⟨ty,xs,b1,b2,b3,b4⟩:=R.blk;have lo:=R.lo;refine⟨by rw [if_neg hl];exact R.tag,by omega,R.hi,R.tyl,ty,xs,b1,b2,b3,λi c x hc hx=> ?_⟩;have:=b4 i c x hc hx;cases c with
  | av _=> exact this
  | seq _ _=> exact key this
  | map _ _=> exact akj this
  | maps _ _ _=>
   obtain⟨aes,a1,a2,a3⟩:=this;exact⟨aes,akj a1,a2,λj n cells x hj hx=> key (a3 j n cells x hj hx)⟩
  | aeh _ _ _=>
   obtain⟨ys,a1,a2,a3⟩:=this;exact⟨ys,key a1,a2,λj cells x hj hx=> key (a3 j cells x hj hx)⟩
theorem Good.ahl(G:Good b H g)(hq:H.next<=q):cup H.next g (upd nil0 q cs)=upd g q cs:=by
 funext x
 unfold cup upd;split
 ·rw [if_neg (by omega)]
 ·split
  ·rfl
  ·exact(G.isNone (by omega)).symm
theorem Made.lt(M:Made H H' g')(h:g' q=some cs):H.next<=q/\q < H'.next:=⟨M.good.le h,M.good.lt h⟩
theorem Made.refl(h:H.base<=H.next):Made H H nil0:=⟨zab _,rfl,λ_ _=> rfl,Good.empty H⟩
theorem Made.trans(M:Made H H' g)(M':Made H' H'' g'):Made H H'' (cup H'.next g g'):=
 ⟨zav M.next M'.next,M'.base.trans M.base,λr hr=> by rw [M'.same r (zat hr M.next),M.same r hr],M.good.merge M'⟩
theorem Made.new(M:Made H H' g)(o:dL):Made H (H'.new o) g:=
 ⟨by rw [nNew];have:=M.next;omega,by rw [bNew];exact M.base,λr hr=> by rw [cZ (zat hr M.next),M.same r hr],M.good.new o⟩
theorem Made.BP {o:dL}(M:Made (H.new o) H' g):Made H H' g:=
 ⟨by have:=M.next;rw [nNew] at this;omega,by rw [M.base,bNew],λr hr=> by rw [M.same r (by rw [nNew];omega),cZ hr],M.good.weak (by rw [nNew];omega)⟩
theorem Made.Yf(M:Made H.guard H' g):Made H { H' with base:=H.base } g:=
 ⟨M.next,rfl,M.same,M.good.ext (zab _) λ_ _=> rfl⟩
theorem Made.step(M:Made H H' g)(G:Good H.next H'' g')(s:Step H.next H' H''):Made H H'' g':=
 ⟨zav M.next s.next,s.base.trans M.base,λr hr=> by rw [s.low r hr,M.same r hr],G⟩
theorem Made.as(M:Made H H' g)(h:g'=g):Made H H' g':=h ▸ M
theorem nK {ty:TypeId}{xs:List AV}{cs:List Cell}(hc:xs.all AV.aJ=true)(hl:xs.length=cs.length)(h:∀(i:Nat) (c:Cell) (x:AV),cs[i]?=some c->xs[i]?=some x->c=.av x∨(x=zN/\∃m,c=.seq m []))(ht:ty < dV:=by decide):
  Made H (H.new (.blk 0 ty xs)) (upd nil0 H.next cs):=by
 refine⟨za2 _,rfl,λr hr=> cZ hr,by rw [nNew];omega,λr=> if r=H.next then some (r,0,0,0) else none,λq cs' hq=> ?_⟩;unfold upd at hq;split at hq
 ·rename_i e;subst e;cases hq;refine⟨by simp,zab _,by rw [nNew];omega,ug (xs:=xs) (by simp [fU]) ht,ty,xs,by simp [fU],hl,hc,λi c x hci hx=> ?_⟩;rcases h i c x hci hx with rfl | ⟨rfl,m,rfl⟩
  ·exact rfl
  ·exact .inl ⟨rfl,rfl⟩
 ·cases hq
theorem Js {n:Nat}{ty:TypeId}{xs:List AV}{cs:List Cell}(hn:H.next<=n)(hm:H'.next=n)(hb:H'.base=H.base)(hs:∀r,r < H.next->H'.get r=H.get r)(hc:xs.all AV.aJ=true)(hl:xs.length=cs.length)(own:Nat->Option Nat)
  (h:∀(i:Nat) (c:Cell) (x:AV),cs[i]?=some c->xs[i]?=some x->c=.av x∨(x=zN/\∃m,c=.seq m [])∨∃r k,x=.mp r/\H.next<=r/\r < n/\own r=some i/\H'.get r=.map k []/\(c=.map k []∨∃m,c=.maps k m [])) (ht:ty < dV:=by decide):
  Made H (H'.new (.blk 0 ty xs)) (upd nil0 n cs):=by
 refine⟨by rw [nNew];omega,hb,λr hr=> by rw [cZ (by omega),hs r hr],by rw [nNew];omega,λr=> if r=n then some (r,0,0,0) else match own r with
  | some i=> some (n,i+1,0,0)
  | none=> none,λq cs' hq=> ?_⟩
 unfold upd at hq;split at hq
 ·rename_i e;subst e;cases hq;refine⟨by simp,hn,by rw [nNew];omega,ug (xs:=xs) (by rw [aP hm.symm]) ht,ty,xs,by rw [aP hm.symm],hl,hc,λi c x hci hx=> ?_⟩;have om:∀r k,H.next<=r->r < q->own r=some i->H'.get r=.map k []->OM H.next (H'.new (.blk 0 ty xs)) (λr=> if r=q then some (r,0,0,0) else match own r with
    | some i=> some (q,i+1,0,0)
    | none=> none) (q,i+1,0,0) (.mp r) k []:=λr k h1 h2 h3 h4=> ⟨r,rfl,by simp only;rw [if_neg (by omega),h3],h1,by rw [nNew];omega,by rw [cZ (by omega)];exact h4⟩
  rcases h i c x hci hx with rfl | ⟨rfl,m,rfl⟩ | ⟨r,k,rfl,h1,h2,h3,h4,rfl | ⟨m,rfl⟩⟩
  ·exact rfl
  ·exact .inl ⟨rfl,rfl⟩
  ·exact om r k h1 h2 h3 h4
  ·exact⟨[],om r k h1 h2 h3 h4,rfl,λj n cells x hj=> by simp at hj⟩
 ·cases hq
end
def aV(c:Cache):List Cell:=[.seq 6 (c.l.flatMap Ent.av),.av (I c.sets),.av (I c.ways),.av (I c.clock)]
def mW(p:Proc):List Cell:=[.av (vsl 3 Opn.av p.ops),.seq 1 (p.values.map I),.av (B p.begun)]
def iJ(l:List Evn):List Cell:=[.seq 4 (l.flatMap Evn.av)]
def fB(t:Turns):List Cell:=[.map .i64 (Tz (λn=> I n) t.fM),.maps .i64 2 (t.wait.map λe=> (e.1,e.2.flatMap λw=> [I w.1,I w.2]))]
def zU(c:Cfg)(rows:Rows):List Cell:=c.av.map .av++[.map .i64 (Tz (λr=> .agg r.av) rows)]
section
variable {H:aj}
theorem Vm(H:aj)(room:Int)(h:0<=room):∃H' q,cl 57 [I room] H=some (.ref q 0 0,H')/\Made H H' (upd nil0 q (jY [] room)):=by
 refine⟨_,H.next,aN rfl rfl (ai7 _ _ _ (r:=(_,H.new (.blk 0 164 [zN,I room]))) ?_),nK rfl rfl λi c x hc hx=> ?_⟩
 ·have e:max (0:Int) room=room:=by omega
  simp -implicitDefEqProofs only [Nat.reduceLT,Nat.reduceAdd,setAt,xq_,hq_,ae5,Ld,e,aeb,iV,dW,Zq,aB]
 ·match i with
  | 0=> right;cases hc;cases hx;exact⟨rfl,9,rfl⟩
  | 1=> left;cases hc;cases hx;rfl
  | i+2=> cases hc
theorem O9(H:aj)(room:Int)(h:0<=room):∃H' q,cl 58 [I room] H=some (.ref q 0 0,H')/\Made H H' (upd nil0 q (jY [] room)):=by
 refine⟨_,H.next,aN rfl rfl (ai8 _ _ _ (r:=(_,H.new (.blk 0 166 [zN,I room]))) ?_),nK rfl rfl λi c x hc hx=> ?_⟩
 ·have e:max (0:Int) room=room:=by omega
  simp -implicitDefEqProofs only [Nat.reduceLT,Nat.reduceAdd,setAt,xq_,hq_,ae6,Ld,e,aec,iV,dW,Zr,aB]
 ·match i with
  | 0=> right;cases hc;cases hx;exact⟨rfl,9,rfl⟩
  | 1=> left;cases hc;cases hx;rfl
  | i+2=> cases hc
theorem Yg(H:aj)(sets ways:Int)(h:1<=sets)(h':1<=ways):∃H' q,cl 59 [I sets,I ways] H=some (.ref q 0 0,H')/\Made H H' (upd nil0 q (aV ⟨[],sets,ways,0⟩)):=by
 refine⟨_,H.next,aN rfl rfl (ai9 _ _ _ _ (r:=(_,H.new (.blk 0 133 [zN,I sets,I ways,zI]))) ?_),nK rfl rfl λi c x hc hx=> ?_⟩
 ·have e:max (1:Int) sets=sets:=by omega
  have e':max (1:Int) ways=ways:=by omega
  simp -implicitDefEqProofs only [Nat.reduceLT,Nat.reduceAdd,setAt,xq_,hq_,ae7,Ld,e,e',ad9,iV,dW,Zo,aB]
 ·match i with
  | 0=> right;cases hc;cases hx;exact⟨rfl,6,rfl⟩
  | 1=> left;cases hc;cases hx;rfl
  | 2=> left;cases hc;cases hx;rfl
  | 3=> left;cases hc;cases hx;rfl
  | i+4=> cases hc
theorem Yh(H:aj):∃H' q,cl 32 [] H=some (.ref q 0 0,H')/\Made H H' (upd nil0 q (iJ [])):=by
 refine⟨_,H.next,aN rfl rfl (aiR _ _ (r:=(_,H.new (.blk 0 118 [zN]))) ?_),nK rfl rfl λi c x hc hx=> ?_⟩
 ·simp -implicitDefEqProofs only [Nat.reduceLT,xq_,hq_,aeT,ad4,iV,dW,aB]
 ·match i with
  | 0=> right;cases hc;cases hx;exact⟨rfl,4,rfl⟩
  | i+1=> cases hc
theorem Yi(H:aj):∃H' q,cl 93 [] H=some (.ref q 0 0,H')/\Made H H' (upd nil0 q (fB ⟨[],[]⟩)):=by
 refine⟨_,H.next+2,aN rfl rfl (ajs _ _ (r:=(_,((H.new (.map .i64 [])).new (.map .i64 [])).new (.blk 0 209 [.mp H.next,.mp (H.next+1)]))) ?_),Js (H':=(H.new (.map .i64 [])).new (.map .i64 [])) (by omega) (by rw [nNew,nNew]) rfl (λr hr=> by rw [cZ (by rw [nNew];omega),cZ hr]) rfl rfl (λr=> if r=H.next then some 0 else if r=H.next+1 then some 1 else none) λi c x hc hx=> ?_⟩
 ·have e:∀r,(AV.mp r).cells=[.mp r]:=λ_=> rfl;simp -implicitDefEqProofs only [Nat.reduceLT,Nat.reduceAdd,setAt,xq_,hq_,afn,aee,iV,dW,Zu,aB,e,SG]
 ·match i with
  | 0=> right;right;cases hc;cases hx;exact⟨H.next,.i64,rfl,zab _,by omega,by simp,by rw [cZ (by rw [nNew];omega),aP rfl],.inl rfl⟩
  | 1=> right;right;cases hc;cases hx;exact⟨H.next+1,.i64,rfl,by omega,by omega,by simp,by rw [aP (by rw [nNew])],.inr ⟨2,rfl⟩⟩
  | i+2=> cases hc
end
theorem Pg {d:Nat}{α:Type}{enc:α->List AV}(h:∀a,∀x∈enc a,Frz d x)(l:List α):∀x∈l.flatMap enc,Frz d x:=λx hx=> by
 obtain⟨a,_,ha⟩:=zbl.1 hx;exact h a x ha
theorem acy(o:Opn):∀x∈o.av,Frz 8 x:=λx hx=> by
 simp only [Opn.av,zal,zaF,or_false] at hx;rcases hx with rfl | rfl | rfl <;> exact gK
theorem Yj(H:aj)(l:List Opn)(hl:l.length < 1000000000){x:AV}(hx:aH H x 3 l.length (l.flatMap Opn.av))(h0:l=[]->x=zN)(hn:l≠[]->bi .eql 98 x zN=some (B false)):cl 91 [x] H=some (vsl 3 Opn.av l,H):=by
 by_cases h:l=[]
 ·rw [h0 h];subst h;refine jc rfl rfl (afk _ _ _ (r:=(zN,H.guard)) ?_) (by rw [fZ];exact kS);have e:bi .eql 98 zN zN=some (B true):=by kernel_rfl
  simp -implicitDefEqProofs only [xq_,acj,e]
 ·have h1:l.length≠0:=λe=> h (zao e);have e2:=oG (e:=86) (by_:=24) (r:=H.guard.next) (H:=H.guard.new (.blk 0 86 [])) mD (hx.guard.new _) (Oi rD l) h1 (by unfold most;omega) (by unfold most;omega);simp only [Qq,nNew] at e2;refine jc rfl rfl (afk _ _ _ (r:=(.sl (H.next+1) 0 0 3 l.length l.length false,(H.guard.new (.blk 0 86 [])).new (.blk 0 (86+dV) (l.flatMap Opn.av)))) ?_) ?_
  ·simp -implicitDefEqProofs only [xq_,acj,hn h,abI,uO,e2,za7,zaQ]
  ·rw [FB h];refine ji (by omega) (cells:=l.flatMap Opn.av) ?_ (fG _ λx hx=> Pg acy l x hx _ _);simp only [aW,fU,nNew,Qq,if_true];rw [if_pos (by rw [bH fF,za0];exact⟨trivial,zab _⟩),zaM,zax (by rw [bH fF];exact zab _)]
theorem Yk(H:aj)(c:Cfg)(h:c.ok=true):cl 166 [.agg c.av] H=some (I c.yS,H):=by
 refine bI rfl rfl (agB _ _ _) ?_ gK;simp only [Cfg.ok,zaj,decide_eq_true_eq] at h;obtain⟨⟨⟨⟨⟨⟨⟨a,b⟩,d⟩,f⟩,g⟩,i⟩,j⟩,k⟩:=h;have hm:IntKind.wrap .i64 (c.lines*c.words)=c.lines*c.words:=by
  have:c.lines*c.words<=8*4:=Int.mul_le_mul b.2 d.2 (by omega) (by omega);have:0<=c.lines*c.words:=Int.mul_nonneg (by omega) (by omega);exact wrap_i64 (by omega) (by omega)
 simp -implicitDefEqProofs only [Nat.reduceLT,xq_,hq_,aaE,aB,Cfg.av,ru,hm,Cfg.yS]
structure akR(c:Cfg):Prop where
 nodes:1<=c.nodes/\c.nodes<=6
 lines:1<=c.lines/\c.lines<=8
 words:1<=c.words/\c.words<=4
 sets:1<=c.sets/\c.sets<=4
 ways:1<=c.ways/\c.ways<=3
 out:1<=c.out/\c.out<=8
 inn:1<=c.inn/\c.inn<=8
 init:(c.init.length:Int)<=c.lines*c.words
 yS:1<=c.lines*c.words/\c.lines*c.words<=32
theorem Gt {c:Cfg}(h:c.ok=true):akR c:=by
 simp only [Cfg.ok,zaj,decide_eq_true_eq] at h;obtain⟨⟨⟨⟨⟨⟨⟨a,b⟩,d⟩,f⟩,g⟩,i⟩,j⟩,k⟩:=h;have h1:c.lines*c.words<=8*4:=Int.mul_le_mul b.2 d.2 (by omega) (by omega);have h2:1*1<=c.lines*c.words:=Int.mul_le_mul b.1 d.1 (by omega) (by omega);exact⟨a,b,d,f,g,i,j,k,by omega,by omega⟩
theorem acz(H:aj)(n m:Int)(h:1<=m):cl 178 [I n,I m] H=some (I (yE n m),H):=by
 refine aN rfl rfl (agH _ _ _ _ ?_);by_cases h0:n < 0
 ·simp -implicitDefEqProofs only [Int.reduceNeg,xq_,UQ,h0,yE]
 ·have e:n.tmod m=n % m:=zbv (by omega);simp -implicitDefEqProofs only [Int.reduceNeg,xq_,UQ,h0,AQ (show m≠0 by omega),yE,e]
theorem BQ(H:aj)(c:Cfg)(h:c.ok=true)(line:Int):cl 139 [.agg c.av,I line] H=some (I (c.fK line),H):=by
 have B:=Gt h;refine bI rfl rfl (af0 _ _ _ _) ?_ gK;have e:=λH=> acz H line c.nodes B.nodes.1;simp -implicitDefEqProofs only [Nat.reduceLT,xq_,hq_,aak,aB,Cfg.av,e,Cfg.fK]
theorem Jt(H:aj)(c:Cfg)(h:c.ok=true)(a:Int):cl 114 [.agg c.av,I a] H=some (.tup [I (c.dn a),I (c.gJ a)],H):=by
 have B:=Gt h;refine bI rfl rfl (afP _ _ _ _) ?_ (rE λx hx=> by
  simp only [zal,zaF,or_false] at hx;rcases hx with rfl | rfl <;> exact gK)
 have e:=λH=> Yk H c h;by_cases h0:a < 0
 ·simp -implicitDefEqProofs only [Nat.reduceLT,Int.reduceNeg,xq_,hq_,OC,aB (jE c),h0,Cfg.dn,Cfg.gJ,true_or]
 ·by_cases h1:c.yS<=a
  ·simp -implicitDefEqProofs only [Nat.reduceLT,Int.reduceNeg,xq_,hq_,OC,aB (jE c),h0,h1,Cfg.dn,Cfg.gJ,or_true,e]
  ·have q:a.tdiv c.words=a / c.words:=Int.tdiv_eq_ediv_of_nonneg (by omega);have r:a.tmod c.words=a % c.words:=zbv (by omega);have q1:0<=a / c.words:=Int.ediv_nonneg (by omega) (by have:=B.words;omega);have q2:a / c.words<=a:=Int.ediv_le_self _ (by omega);have q3:c.yS<=32:=B.yS.2;have w:=wrap_i64 (a:=a / c.words) (by omega) (by omega);have z:c.words≠0:=by have:=B.words;omega
   have l2:c.av[2]?=some (I c.words):=rfl;simp -implicitDefEqProofs only [Nat.reduceLT,Int.reduceNeg,xq_,hq_,OC,aB (jE c),h0,h1,Cfg.dn,Cfg.gJ,or_false,e,l2,abA z,AQ z,q,r,w]
def Ph(o:Option Nat):Int:=match o with
 | some i=> (i:Int)
 | none=> -1
theorem xY {α:Type}{p:α->Bool}:∀(l:List α) (i:Nat),(∀j a,j < i->l[j]?=some a->p a=false)->l.findIdx? p=((l.drop i).findIdx? p).map (· +i)
 | l,0,_=> by cases h:l.findIdx? p <;> simp [h]
 | [],i+1,_=> by simp
 | a::l,i+1,h=> by
  have h0:=h 0 a (by omega) rfl;rw [List.findIdx?_cons,h0,List.drop_succ_cons,xY l i λj b hj hb=> h (j+1) b (by omega) hb];simp only [zaf,if_false,Option.map_map]
  congr 1
theorem Ju(H:aj){α:Type}{enc:α->List AV}(he:∀a,(enc a).length=6){x f:AV}{l:List α}(hx:aH H x 6 l.length (l.flatMap enc))(hl:l.length < 1000000000)(p:α->Bool)
  (hp:∀a∈l,uz Tryz.prog cl f [.agg (enc a)] H=some (B (p a),H)):cl 119 [x,f] H=some (I (Ph (l.findIdx? p)),H):=by
 have e1:=hx.lnS;have e2:∀i a,l[i]?=some a->lda 6 (cO x i) H=some (.agg (enc a),H):=λi a hi=> kU he hx hi;refine aN rfl rfl (afW _ _ _ _ ?_);have key:∀k i,i+k=l.length->(∀j a,j < i->l[j]?=some a->p a=false)->zo cl [x,f,I l.length,I i] H=some (I (Ph (l.findIdx? p)),H):=by
  intro k
  induction k with
  | zero=>
   intro i hi hf;have h1:¬(i:Int) < l.length:=by omega
   have h2:l.findIdx? p=none:=by rw [xY l i hf,zaN (by omega)];rfl
   rw [OD];simp -implicitDefEqProofs only [Int.reduceNeg,xq_,h1,h2,Ph]
  | succ k ih=>
   intro i hi hf;have h1:(i:Int) < l.length:=by omega
   have h3:=hx.ix (k:=.i64) (i:=(i:Int)) (by omega) h1;obtain⟨a,ha⟩:∃a,l[i]?=some a:=⟨_,zad (by omega)⟩
   have h4:=e2 i a ha;have h5:=hp a (zaK ha);rw [zaB] at h3;rw [OD];cases hpa:p a with
   | true=>
    have h2:l.findIdx? p=some i:=by
     rw [xY l i hf,zbA (by omega),List.findIdx?_cons];rw [zad (by omega)] at ha;simp only [zaa] at ha;rw [ha,hpa];simp
    rw [hpa] at h5;simp -implicitDefEqProofs only [Int.reduceNeg,xq_,h1,h2,h3,h4,h5,Ph]
   | false=>
    rw [hpa] at h5;have h6:(i:Int)+1=((i+1:Nat):Int):=by omega
    have h7:=wrap_i64 (a:=((i+1:Nat):Int)) (by omega) (by omega);have:=ih (i+1) (by omega) λj b hj hb=> by
     by_cases hji:j=i
     ·subst hji;rw [ha] at hb;cases hb;exact hpa
     ·exact hf j b (by omega) hb
    simp -implicitDefEqProofs only [Int.reduceNeg,xq_,h1,h3,h4,h5,bV,h6,h7,this]
 have:=key l.length 0 (by omega) (λj a hj=> by omega);simp -implicitDefEqProofs only [xq_,aag,e1];exact this
def ahm(H:aj)(x:AV)(ps:List (List Opn)):Prop:=
 ∃cells:List AV,aH H x 1 ps.length cells/\∀(i:Nat) v l,cells[i]?=some v->ps[i]?=some l->aH H v 3 l.length (l.flatMap Opn.av)/\(l=[]->v=zN)
theorem ahm.lM {H H':aj}{x:AV}{ps:List (List Opn)}(h:ahm H x ps)(hn:H.next<=H'.next)(hg:∀r,r < H.next->H'.get r=H.get r):ahm H' x ps:=by
 obtain⟨cells,h1,h2⟩:=h;exact⟨cells,h1.lM hn λr _ hr=> hg r hr,λi v l a b=> ⟨(h2 i v l a b).1.lM hn λr _ hr=> hg r hr,(h2 i v l a b).2⟩⟩
theorem Yl {c:Cfg}(h:c.ok=true){line:Int}(h0:0<=line)(h1:line < c.lines):c.first line≠[]:=by
 have B:=Gt h;unfold Cfg.first
 rw [if_neg (by omega)];intro e;have:=congrArg List.length e;simp only [zaA,List.length_range,zaq] at this;have:=B.words;omega
theorem MF {c:Cfg}(h:c.ok=true){line:Int}(h0:0<=line)(h1:line < c.lines){from_:Nat}(hf:(from_:Int)=min (line*c.words) c.init.length):
  setAt (List.replicate c.words.toNat zI) 0 (((c.init.map I).drop from_).take (min (c.init.length - from_) c.words.toNat))=(c.first line).map I:=by
 have B:=Gt h;have hw:=B.words;have hlw:0<=line*c.words:=Int.mul_nonneg h0 (by omega);unfold Cfg.first
 rw [if_neg (by omega)]
 apply za5
 intro i;have hlen:(((c.init.map I).drop from_).take (min (c.init.length - from_) c.words.toNat)).length=min (c.init.length - from_) c.words.toNat:=by
  rw [zar,zaD,zaA];omega
 rw [kR (by rw [hlen,List.length_replicate];omega),hlen];rcases zaP i c.words.toNat with hi | hi
 ·simp only [zaI,zbL hi,zah];by_cases hc:i < c.init.length - from_
  ·rw [if_pos (by omega),Nat.sub_zero,zau,if_pos (by omega),zay,zaI];have e:from_=(line*c.words).toNat:=by omega
   rw [e];have hlt:(line*c.words).toNat+i < c.init.length:=by omega
   simp [List.getD,zad hlt]
  ·rw [if_neg (by omega),List.getElem?_replicate,if_pos hi];have hge:c.init.length<=(line*c.words).toNat+i:=by omega
   simp [List.getD,zaH hge]
 ·rw [if_neg (by omega),zaH (by simp;omega),zaH (by simp;omega)]
theorem Ym(H:aj)(c:Cfg)(h:c.ok=true)(line:Int)(h0:0<=line)(h1:line < c.lines):cl 140 [.agg c.av,I line] H=some (dat (c.first line),H):=by
 have B:=Gt h;have hw:=B.words;have hlw:0<=line*c.words:=Int.mul_nonneg h0 (by omega);have ali:line*c.words<=8*4:=Int.mul_le_mul (by have:=B.lines;omega) hw.2 (by omega) (by omega);have w:=wrap_i64 (a:=line*c.words) (by omega) (by omega);have l1:c.av[1]?=some (I c.lines):=rfl;have l2:c.av[2]?=some (I c.words):=rfl;have l7:c.av[7]?=some (dat c.init):=rfl;let H1:=(H.guard.new (.blk 0 40 c.av)).new (.blk 0 3 (bU [zI] c.words.toNat));have e1:=aev (e:=3) (m:=1) (by_:=8) (z:=[zI]) (n:=c.words) (H:=H.guard.new (.blk 0 40 c.av)) rfl rfl (by omega) (by omega) (by decide);have e2:=λH=> (jW H c.init).lnS;have hm:0<=min (line*c.words) (c.init.length:Int):=by omega
 obtain⟨y,e3,e4⟩:=(jW H1 c.init).from_ (k:=.i64) (lo:=min (line*c.words) (c.init.length:Int)) hm (by omega);obtain⟨H2,e5,e6,e7,e8,e9⟩:=aew (H:=H1) (r:=H.next+1) (g:=0) (off:=0) (m:=1) (len:=c.words.toNat) (cap:=c.words.toNat) (ex:=true) (ty:=3) (aP (by rw [nNew,Qq])) (by show H.next<=_;omega) (by rw [oI];simp) e4 (vK (zT _) _);refine jc rfl rfl (af2 _ _ _ _ (r:=(.sl (H.next+1) 0 0 1 c.words.toNat c.words.toNat true,H2)) ?_) ?_
 ·have n0:¬line < 0:=by omega
  have n1:¬c.lines<=line:=by omega
  simp only [nNew,Qq] at e1;simp -implicitDefEqProofs only [Nat.reduceLT,xq_,hq_,aal,aB (jE c),n0,n1,l1,l2,l7,e1,e2,ru,w,abB,e3,e5,H1]
 ·rw [wJ (Yl h h0 h1)];have hf:=MF h h0 h1 (from_:=(min (line*c.words) (c.init.length:Int)).toNat) (by omega);rw [oI,zbw,zbw,hf] at e6;have hlen:(c.first line).length=c.words.toNat:=by
   unfold Cfg.first
   rw [if_neg (by omega)];simp
  rw [hlen];refine ji (by omega) (cells:=(c.first line).map I) ?_ (fG _ λx hx=> sV _ x hx _ _);simp only [aW,e6];rw [if_pos ⟨trivial,by simp [hlen]⟩,zaM,zax (by simp [hlen])]
theorem Yn(c:Cfg)(rows:Rows)(n:Int)(r:Row):(zU c rows).set 8 (.map .i64 (EM (Tz (λr=> .agg r.av) rows) n (.agg r.av)))=zU c (lH rows n r):=by
 have:=Bl (f:=λr:Row=> AV.agg r.av) rows n r;rw [this];rfl
theorem Vo(H:aj)(hb:H.base<=H.next)(c:Cfg)(h:c.ok=true)(me:Int):∃H' q,cl 92 [.agg c.av,I me] H=some (.ref q 0 0,H')/\Made H H' (upd nil0 q (zU c (c.jX me c.lines.toNat))):=by
 have B:=Gt h;let Hb:=H.new (.blk 0 40 c.av);let Hm:=Hb.new (.map .i64 []);let H0:=Hm.new (.blk 0 205 (c.av++[.mp (H.next+1)]));have M0:Made Hb H0 (upd nil0 (H.next+2) (zU c [])):=by
  refine Js (H':=Hm) (by simp only [Hb,nNew];omega) (by simp only [Hm,Hb,nNew]) rfl (λr hr=> cZ hr) (by rw [zbR,jE];rfl) (by simp [zU]) (λr=> if r=H.next+1 then some 8 else none) λi cc x hc hx=> ?_;by_cases hi:i < 8
  ·left;simp only [zU] at hc;rw [zaW (by simp [Cfg.av];omega),zaI] at hc;rw [zaW (by simp [Cfg.av];omega)] at hx;rw [hx] at hc;exact(za9 hc).symm
  ·have:i=8:=by
    have:=(zam.1 hx).1;simp [Cfg.av] at this;omega
   subst this;right;right;cases hc;cases hx;exact⟨H.next+1,.i64,rfl,by simp only [Hb,nNew];omega,by omega,by simp,aP (by simp only [Hb,nNew]),.inl rfl⟩
 have key:∀k i,i+k=c.lines.toNat->∀Hi,Made Hb Hi (upd nil0 (H.next+2) (zU c (c.jX me i)))->∃H',FZ cl [I me,.ref H.next 0 0,.ref (H.next+2) 0 0,I c.lines,I i] Hi=some (.ref (H.next+2) 0 0,H')/\Made Hb H' (upd nil0 (H.next+2) (zU c (c.jX me c.lines.toNat))):=by
  intro k
  induction k with
  | zero=>
   intro i hi Hi M;have h1:¬(i:Int) < c.lines:=by omega
   rw [Ur];refine⟨Hi,?_,by rw [show c.lines.toNat=i by omega];exact M⟩;simp -implicitDefEqProofs only [Int.reduceNeg,xq_,h1]
  | succ k ih=>
   intro i hi Hi M;have h1:(i:Int) < c.lines:=by omega
   have hbx:Hi.get H.next=.blk 0 40 c.av:=by rw [M.same _ (by simp only [Hb,nNew];omega)];exact aP rfl
   have hbn:H.next < Hi.next:=zat (by simp only [Hb,nNew];omega) M.next
   have e1:lda 8 (.ref H.next 0 0) Hi=some (.agg c.av,Hi):=(fV (off:=0) (n:=8) hbx (zab 8)).trans rfl;have e2:=BQ Hi c h i;have h6:(i:Int)+1=((i+1:Nat):Int):=by omega
   have h7:=wrap_i64 (a:=((i+1:Nat):Int)) (by have:=B.lines;omega) (by have:=B.lines;omega);have tail:∀Hj,Made Hb Hj (upd nil0 (H.next+2) (zU c (c.jX me (i+1))))->∃H',F5 cl (I me) (.ref H.next 0 0) (.ref (H.next+2) 0 0) (I c.lines) (I i) Hj=some (.ref (H.next+2) 0 0,H')/\Made Hb H' (upd nil0 (H.next+2) (zU c (c.jX me c.lines.toNat))):=by
    intro Hj Mj;obtain⟨H',a1,a2⟩:=ih (i+1) (by omega) Hj Mj;refine⟨H',?_,a2⟩;simp -implicitDefEqProofs only [xq_,F5,bV,h6,h7,a1]
   rw [Ur];by_cases hm:c.fK i=me
   ·obtain⟨r,f1,f2,f3,f4⟩:=M.good.map (q:=H.next+2) upd_same (i:=8) rfl;obtain⟨H',g1,g2,g3,g4⟩:=(f4 (by rw [M.base];simp only [Hb,bNew,nNew];omega)).1 i (.agg (Row.av ⟨0,-1,c.first i⟩));simp only [Row.av] at g1;have e3:=Ym Hi.guard c h i (by omega) h1;have Mj:Made Hb H' (upd nil0 (H.next+2) (zU c (c.jX me (i+1)))):=by
     refine(M.step g2 g3).as ?_;rw [kE,Yn];simp only [Cfg.jX,hm,if_true]
    obtain⟨H2,t1,t2⟩:=tail H' Mj;refine⟨H2,?_,t2⟩;simp -implicitDefEqProofs only [Int.reduceNeg,Nat.reduceAdd,setAt,xq_,hq_,h1,e1,e2,hm,f1,e3,ad3,iV,dW,Zi,g1,t1]
   ·have hm':¬(c.fK i=me):=hm;obtain⟨H2,t1,t2⟩:=tail Hi (M.as (by simp only [Cfg.jX,hm,if_false]));refine⟨H2,?_,t2⟩;simp -implicitDefEqProofs only [Int.reduceNeg,xq_,h1,e1,e2,hm,t1]
 obtain⟨H',a1,a2⟩:=key c.lines.toNat 0 (by omega) H0 M0;refine⟨H',H.next+2,aN rfl rfl (ajr _ _ _ _ (r:=(_,H')) ?_),a2.BP⟩;have l1:c.av[1]?=some (I c.lines):=rfl;have e:∀r,bd 205 [(0,.agg c.av),(1,.mp r)]=some (.agg (c.av++[.mp r])):=λr=> by
  simp -implicitDefEqProofs only [xq_,aed,iV,dW,Zt,Cfg.av,dN];rfl
 have e2:∀r,(c.av++[AV.mp r]).all AV.aJ=true:=λr=> by rw [zbR,jE];rfl
 simp -implicitDefEqProofs only [Nat.reduceLT,xq_,hq_,afm,aB (jE c),e,aB (e2 _),l1];exact a1
theorem jw {b n:Nat}{H1:aj}{g g':Store}{q:Nat}{cs:List Cell}(G:Good b H1 g)(h:g q=some cs)(hn:H1.next=n):cup n g g' q=some cs:=by
 unfold cup;rw [if_pos (by have:=G.lt h;omega),h]
theorem lq {b n:Nat}{H1:aj}{g g':Store}{q:Nat}{cs:List Cell}(G:Good b H1 g')(h:g' q=some cs)(hn:n<=b):cup n g g' q=some cs:=by
 unfold cup;rw [if_neg (by have:=G.le h;omega),h]
theorem drawn {H H':aj}{x:Option (AV × aj)}{v:AV}{g:Store}(e:x=some (v,H'))(M:Made H.guard H' g):∃H2,unG H x=some (v,H2)/\Made H H2 g:=
 ⟨_,by rw [e];rfl,M.Yf⟩
theorem BR {H:aj}{r:Nat}{ty:TypeId}{c:Cfg}(h:H.get r=.blk 0 ty c.av):lda 8 (.ref r 0 0) H=some (.agg c.av,H):=(fV (off:=0) (n:=8) h (zab 8)).trans rfl
theorem aH.Vp {P:Program}{t e:TypeId}(h:P.underlying t=some (.slice e)){H:aj}{x:AV}{m n:Nat}{cells:List AV}(hx:aH H x m n cells)(hn:n≠0):lW P .eql t x (.s (.slice none 0 0))=some (B false):=by
 obtain⟨_,hx⟩:=hx;cases x with
 | sl r g o m n c ex=> exact xE h
 | vs n m l=> exact oH h
 | s v=>
  cases v with
  | slice a b c=>
   cases a with
   | none=> exact absurd hx.2.2 hn
   | some a=> exact hx.elim
  | _=> exact hx.elim
 | _=> exact hx.elim
def CY(d t:Nat)(c:Cfg)(me:Int):List Cell:=[.av (.ref d 0 0),.av (.ref t 0 0)]++c.av.map .av++[.av (I me)]
def jZ(g:Store)(q d t:Nat)(c:Cfg)(me:Int)(h:Home):Prop:=g q=some (CY d t c me)/\g d=some (zU c h.rows)/\g t=some (fB h.turns)
theorem Jv {xs:List AV}{cs:List Cell}(h:cs=xs.map .av):∀(i:Nat) (c:Cell) (x:AV),cs[i]?=some c->xs[i]?=some x->c=.av x∨(x=zN/\∃m,c=.seq m []):=by
 subst h;intro i c x hc hx;rw [zaI,hx] at hc;exact .inl (za9 hc).symm
theorem acA(H:aj)(hb:H.base<=H.next)(c:Cfg)(h:c.ok=true)(me:Int):∃H' q d t g',cl 61 [.agg c.av,I me] H=some (.ref q 0 0,H')/\Made H H' g'/\jZ g' q d t c me (.new c me):=by
 let H1:=H.new (.blk 0 40 c.av);obtain⟨H2',d,e1,M1⟩:=Vo H1.guard (zab _) c h me;obtain⟨H2,e1,M1⟩:=drawn e1 M1;obtain⟨H3',t,e2,M2⟩:=Yi H2.guard;obtain⟨H3,e2,M2⟩:=drawn e2 M2;let xs:List AV:=[.ref d 0 0,.ref t 0 0]++c.av++[I me]
 have hall:xs.all AV.aJ=true:=by
  simp only [xs,zbR,jE];rfl
 have M3:Made H3 (H3.new (.blk 0 150 xs)) (upd nil0 H3.next (CY d t c me)):=nK hall (by simp [xs,CY]) (Jv (by simp [xs,CY]));have g1:H1.get H.next=.blk 0 40 c.av:=aP rfl
 have l1:H.next < H1.next:=by simp only [H1,nNew];omega
 have b1:=BR g1;have g2:H2.get H.next=.blk 0 40 c.av:=by rw [M1.same _ l1,g1]
 have g3:H3.get H.next=.blk 0 40 c.av:=by rw [M2.same _ (zat l1 M1.next),g2]
 have b3:=BR g3;refine⟨_,H3.next,d,t,_,aN rfl rfl (ajc _ _ _ _ (r:=(_,H3.new (.blk 0 150 xs))) ?_),((M1.trans M2).trans M3).BP,?_⟩
 ·have e:bd 150 [(0,.ref d 0 0),(1,.ref t 0 0),(2,.agg c.av),(3,I me)]=some (.agg xs):=by
   simp -implicitDefEqProofs only [xq_,aea,iV,dW,Zp,Cfg.av,dN];rfl
  simp only [H1] at e1 b1;simp -implicitDefEqProofs only [Nat.reduceLT,xq_,hq_,ae9,aB (jE c),b1,e1,e2,b3,e,aB hall]
 ·refine⟨lq M3.good upd_same (zab _),jw (M1.good.merge M2) (jw M1.good upd_same rfl) rfl,jw (M1.good.merge M2) (lq M2.good upd_same (zab _)) rfl⟩
theorem acB(H:aj)(l:List Opn)(hl:l.length < 1000000000){x:AV}(hx:aH H x 3 l.length (l.flatMap Opn.av))(h0:l=[]->x=zN):∃H' q,cl 60 [x] H=some (.ref q 0 0,H')/\Made H H' (upd nil0 q (mW ⟨l,[],false⟩)):=by
 have e1:=Yj H l hl hx h0 λhn=> hx.Vp Tryz.underlying98 λe=> hn (zao e);have hc:(vsl 3 Opn.av l).cells=[vsl 3 Opn.av l]:=Bg;refine⟨_,H.next,aN rfl rfl (aja _ _ _ (r:=(_,H.new (.blk 0 126 [vsl 3 Opn.av l,zN,zB]))) ?_),nK ?_ rfl λi c x hc hx=> ?_⟩
 ·simp -implicitDefEqProofs only [Nat.reduceLT,Nat.reduceAdd,setAt,xq_,hq_,ae8,e1,ad8,iV,dW,Zn,aB]
 ·simp -implicitDefEqProofs only [hq_]
 ·match i with
  | 0=> left;cases hc;cases hx;rfl
  | 1=> right;cases hc;cases hx;exact⟨rfl,1,rfl⟩
  | 2=> left;cases hc;cases hx;rfl
  | i+3=> cases hc
theorem Made.add {H H1 H2:aj}{g:Store}{q:Nat}{cs:List Cell}(M:Made H H1 g)(M':Made H1 H2 (upd nil0 q cs)):Made H H2 (upd g q cs):=
 (M.trans M').as ((M.good.ahl (M'.lt upd_same).1).symm)
def Jw(a:Nat->Nat)(c:Cfg)(me:Int)(d:bf)(num:Int):List AV:=[.ref (a 1) 0 0,.ref (a 2) 0 0]++c.av++[I me,.ref (a 3) 0 0]++d.av++[I num]
def uS(a:Nat->Nat)(c:Cfg)(me:Int)(d:bf)(num:Int):List Cell:=(Jw a c me d num).map .av
def mM(g:Store)(a:Nat->Nat)(c:Cfg)(me:Int)(n:Node):Prop:=
 g (a 0)=some (uS a c me n.deal n.num)/\g (a 1)=some (aV n.cache)/\g (a 2)=some (mW n.proc)/\jZ g (a 3) (a 4) (a 5) c me n.home
theorem Jy {a:Nat->Nat}{c:Cfg}{me:Int}{d:bf}{num:Int}:(Jw a c me d num).all AV.aJ=true:=by
 simp only [Jw,zbR,jE,aO];rfl
def six(x0 x1 x2 x3 x4 x5:Nat):Nat->Nat
 | 0=> x0
 | 1=> x1
 | 2=> x2
 | 3=> x3
 | 4=> x4
 | _=> x5
theorem Vq(H:aj)(c:Cfg)(h:c.ok=true)(me:Int)(l:List Opn)(hl:l.length < 1000000000){x:AV}(hx:aH H x 3 l.length (l.flatMap Opn.av))(h0:l=[]->x=zN):
  ∃H' a g',cl 33 [.agg c.av,I me,x] H=some (.ref (a 0) 0 0,H')/\Made H H' g'/\mM g' a c me (.new c me l):=by
 have Bd:=Gt h;let H1:=H.new (.blk 0 40 c.av);obtain⟨H2',q1,e1,M1⟩:=Yg H1.guard c.sets c.ways Bd.sets.1 Bd.ways.1;obtain⟨H2,e1,M1⟩:=drawn e1 M1;have hx2:aH H2 x 3 l.length (l.flatMap Opn.av):=(hx.new (.blk 0 40 c.av)).lM M1.next λr _ hr=> M1.same r hr
 obtain⟨H3',q2,e2,M2⟩:=acB H2.guard l hl hx2.guard h0;obtain⟨H3,e2,M2⟩:=drawn e2 M2;obtain⟨H4',q3,q4,q5,g4,e3,M3,I3⟩:=acA H3.guard (zab _) c h me;obtain⟨H4,e3,M3⟩:=drawn e3 M3;let a:=six H4.next q1 q2 q3 q4 q5
 let xs:=Jw a c me .zero 0;have M4:Made H4 (H4.new (.blk 0 66 xs)) (upd nil0 H4.next (uS a c me .zero 0)):=nK Jy (by simp [xs,uS]) (Jv rfl);have g1:H1.get H.next=.blk 0 40 c.av:=aP rfl
 have l1:H.next < H1.next:=by simp only [H1,nNew];omega
 have l3:H.next < H3.next:=zat l1 (zav M1.next M2.next)
 have b1:=BR g1;have g2:H2.get H.next=.blk 0 40 c.av:=by rw [M1.same _ l1,g1]
 have g3:H3.get H.next=.blk 0 40 c.av:=by rw [M2.same _ (zat l1 M1.next),g2]
 have b3:=BR g3;have G12:=M1.good.merge M2;have ahn:=G12.merge M3;refine⟨_,a,_,aN rfl rfl (aiT _ _ _ _ _ (r:=(_,H4.new (.blk 0 66 xs))) ?_),(((M1.trans M2).trans M3).trans M4).BP,?_⟩
 ·have e:bd 66 [(0,.ref q1 0 0),(1,.ref q2 0 0),(2,.agg c.av),(3,I me),(4,.agg [.ref q3 0 0])]=some (.agg xs):=by
   simp -implicitDefEqProofs only [xq_,aiz,iV,dW,adY,Cfg.av,dN];rfl
  have l3:c.av[3]?=some (I c.sets):=rfl;have l4:c.av[4]?=some (I c.ways):=rfl;have bx:∀r,(AV.ref r 0 0).cells=[.ref r 0 0]:=λ_=> rfl;have eb:∀r,bd 64 [(0,.ref r 0 0)]=some (.agg [.ref r 0 0]):=λr=> by
   simp -implicitDefEqProofs only [xq_,aiy,iV,dW,adX];rfl
  simp only [H1] at e1 b1;simp -implicitDefEqProofs only [Nat.reduceLT,xq_,hq_,aeU,aB (jE c),l3,l4,e1,e2,e3,b3,eb,e,aB Jy,xs];rfl
 ·refine⟨lq M4.good upd_same (zab _),jw ahn (jw G12 (jw M1.good upd_same rfl) rfl) rfl,jw ahn (jw G12 (lq M2.good upd_same (zab _)) rfl) rfl,?_⟩;obtain⟨i1,i2,i3⟩:=I3;exact⟨jw ahn (lq M3.good i1 (zab _)) rfl,jw ahn (lq M3.good i2 (zab _)) rfl,jw ahn (lq M3.good i3 (zab _)) rfl⟩
def kK(a:Nat->Nat):List AV:=[.ref (a 0) 0 0,.ref (a 1) 0 0,.ref (a 2) 0 0,.ref (a 3) 0 0]
def Yo(P:Nat->Nat->Nat)(n:Nat):List Cell:=[.seq 4 ((List.range n).flatMap λi=> kK (P i))]
def qJ(g:Store)(a:Nat->Nat)(c:Cfg)(p:Port):Prop:=
 g (a 0)=some (jY p.rq c.out)/\g (a 1)=some (jY p.rin c.inn)/\g (a 2)=some (jY p.an c.out)/\g (a 3)=some (jY p.ain 1)
def MG(P:Nat->Nat->Nat)(n:Nat):Prop:=∀i j s t,i < n->j < n->s < 4->t < 4->P i s=P j t->i=j/\s=t
def dU(g:Store)(f:Nat)(P:Nat->Nat->Nat)(c:Cfg)(fab:Fab):Prop:=
 g f=some (Yo P fab.l.length)/\(∀i p,fab.l[i]?=some p->qJ g (P i) c p)/\fab.out=c.out/\fab.inn=c.inn
def four(x0 x1 x2 x3:Nat):Nat->Nat
 | 0=> x0
 | 1=> x1
 | 2=> x2
 | _=> x3
theorem Eo {P P':Nat->Nat->Nat}:∀n,(∀i,i < n->P' i=P i)->(List.range n).flatMap (λi=> kK (P' i))=(List.range n).flatMap λi=> kK (P i)
 | 0,_=> rfl
 | n+1,h=> by
  rw [List.range_succ,zbK,zbK,Eo n λi hi=> h i (by omega)];simp only [zaJ,List.flatMap_nil,h n (by omega)]
theorem nM(P:Nat->Nat->Nat)(n:Nat):((List.range n).flatMap λi=> kK (P i)).length=n*4:=by
 rw [bH (m:=4) (λ_=> rfl),List.length_range]
theorem qJ.ext {g g':Store}{a:Nat->Nat}{c:Cfg}{p:Port}(h:qJ g a c p)(hg:∀s,s < 4->g' (a s)=g (a s)):qJ g' a c p:=by
 obtain⟨h0,h1,h2,h3⟩:=h;exact⟨by rw [hg 0 (by omega),h0],by rw [hg 1 (by omega),h1],by rw [hg 2 (by omega),h2],by rw [hg 3 (by omega),h3]⟩
theorem qJ.some {g:Store}{a:Nat->Nat}{c:Cfg}{p:Port}(h:qJ g a c p){s:Nat}(hs:s < 4):∃l r,g (a s)=some (jY l r):=by
 obtain⟨h0,h1,h2,h3⟩:=h
 match s,hs with
 | 0,_=> exact⟨_,_,h0⟩
 | 1,_=> exact⟨_,_,h1⟩
 | 2,_=> exact⟨_,_,h2⟩
 | 3,_=> exact⟨_,_,h3⟩
theorem Vr(H:aj)(hb:H.base<=H.next)(c:Cfg)(h:c.ok=true):∃H' f P g',cl 30 [.agg c.av] H=some (.ref f 0 0,H')/\Made H H' g'/\dU g' f P c (.new c)/\MG P c.nodes.toNat:=by
 have Bd:=Gt h;let H1:=H.new (.blk 0 40 c.av);let H2:=H1.new (.blk 0 124 [zN]);let f:=H.next+1
 have M0:Made H1 H2 (upd nil0 f (Yo (λ_ _=> 0) 0)):=nK rfl rfl λi c x hc hx=> by
  match i with
  | 0=> right;cases hc;cases hx;exact⟨rfl,4,rfl⟩
  | i+1=> cases hc
 have l0:c.av[0]?=some (I c.nodes):=rfl;have l5:c.av[5]?=some (I c.out):=rfl;have l6:c.av[6]?=some (I c.inn):=rfl;have key:∀k i,i+k=c.nodes.toNat->∀Hi gi P,Made H1 Hi gi->gi f=some (Yo P i)->(∀j,j < i->qJ gi (P j) c .zero)->MG P i->
   ∃H' g' P',FQ cl [.ref H.next 0 0,.ref f 0 0,I c.nodes,I i] Hi=some (.ref f 0 0,H')/\Made H1 H' g'/\g' f=some (Yo P' c.nodes.toNat)/\(∀j,j < c.nodes.toNat->qJ g' (P' j) c .zero)/\MG P' c.nodes.toNat:=by
  intro k
  induction k with
  | zero=>
   intro i hi Hi gi P M hf hp hj;have h1:¬(i:Int) < c.nodes:=by omega
   have hi':c.nodes.toNat=i:=by omega
   rw [Uf];refine⟨Hi,gi,P,?_,M,by rw [hi'];exact hf,by rw [hi'];exact hp,by rw [hi'];exact hj⟩;simp -implicitDefEqProofs only [xq_,h1]
  | succ k ih=>
   intro i hi Hi gi P M hf hp hj;have h1:(i:Int) < c.nodes:=by omega
   have h6:(i:Int)+1=((i+1:Nat):Int):=by omega
   have h7:=wrap_i64 (a:=((i+1:Nat):Int)) (by have:=Bd.nodes;omega) (by have:=Bd.nodes;omega);have lt1:H.next < H1.next:=by simp only [H1,nNew];omega
   have bx:∀H':aj,(∀r,r < H1.next->H'.get r=H1.get r)->H'.get H.next=.blk 0 40 c.av:=λH' hs=> by rw [hs _ lt1];exact aP rfl
   have ld5:∀H':aj,(∀r,r < H1.next->H'.get r=H1.get r)->ld (.ref H.next 0 5) H'=some (I c.out,H'):=λH' hs=> by rw [jV (bx H' hs),l5];rfl
   have ld6:∀H':aj,(∀r,r < H1.next->H'.get r=H1.get r)->ld (.ref H.next 0 6) H'=some (I c.inn,H'):=λH' hs=> by rw [jV (bx H' hs),l6];rfl
   obtain⟨x,hx,cx⟩:=M.good.seq hf (i:=0) rfl;obtain⟨Ha',q1,a1,Ma⟩:=Vm Hi.guard c.out (by have:=Bd.out;omega);obtain⟨Ha,a1,Ma⟩:=drawn a1 Ma;have Na:=M.add Ma;obtain⟨Hb',q2,a2,Mb⟩:=O9 Ha.guard c.inn (by have:=Bd.inn;omega);obtain⟨Hb,a2,Mb⟩:=drawn a2 Mb;have Nb:=Na.add Mb;obtain⟨Hc',q3,a3,Mc⟩:=Vm Hb.guard c.out (by have:=Bd.out;omega);obtain⟨Hc,a3,Mc⟩:=drawn a3 Mc;have Nc:=Nb.add Mc;obtain⟨Hd',q4,a4,Md⟩:=O9 Hc.guard 1 (by omega);obtain⟨Hd,a4,Md⟩:=drawn a4 Md;have Nd:=Nc.add Md;have o1:=Ma.lt upd_same;have o2:=Mb.lt upd_same;have o3:=Mc.lt upd_same;have o4:=Md.lt upd_same;have hfl:=M.good.lt hf;have cd:Cur H1.next Hd f 0 x 4 _:=(((cx.ext Ma.next Ma.same).ext Mb.next Mb.same).ext Mc.next Mc.same).ext Md.next Md.same
   let a:=four q1 q2 q3 q4;let o:dL:=.blk 0 121 (kK a);let g4:=upd (upd (upd (upd gi q1 (jY [] c.out)) q2 (jY [] c.inn)) q3 (jY [] c.out)) q4 (jY [] 1);have low:∀q,q < Hi.next->g4 q=gi q:=λq hq=> by
    simp only [g4];rw [upd_ne (by omega),upd_ne (by omega),upd_ne (by omega),upd_ne (by omega)]
   have hf4:g4 f=some (Yo P i):=by rw [low f hfl,hf]
   obtain⟨x',He,Hf,t1,t2,t3,t4⟩:=(Nd.good.new o).append (e:=121) (by_:=32) (by rw [bNew,Nd.base];simp only [H1,bNew,nNew];omega) hf4 (i:=0) rfl (by decide) (nM P i) (cd.new o) (kW (ex:=true) (n:=1) (m:=4) (l:=kK a) rfl) rfl (by have:=Bd.nodes;unfold most;omega) (by have:=Bd.nodes;unfold most;omega);let P':Nat->Nat->Nat:=λj=> if j=i then a else P j
   have hP:∀j,j < i->P' j=P j:=λj hj=> by simp only [P'];rw [if_neg (by omega)]
   have hPi:P' i=a:=by simp only [P',if_true]
   have Mf:Made H1 Hf (upd g4 f (Yo P' (i+1))):=by
    refine((Nd.new o).step t3 t4).as ?_
    congr 1
    simp only [Yo,zb1];rw [List.range_succ,zbK,Eo i hP,zaJ,List.flatMap_nil,za8,hPi]
   have hq:∀s,s < 4->Hi.next<=a s:=λs hs=> by
    match s,hs with
    | 0,_=> exact o1.1
    | 1,_=> exact zav Ma.next o2.1
    | 2,_=> exact zav Ma.next (zav Mb.next o3.1)
    | 3,_=> exact zav Ma.next (zav Mb.next (zav Mc.next o4.1))
   have hpl:∀j,j < i->∀s,s < 4->P j s < Hi.next:=λj hji s hs=> by
    obtain⟨l,r,hg⟩:=(hp j hji).some hs;exact M.good.lt hg
   obtain⟨H',g',P'',r1,r2⟩:=ih (i+1) (by omega) Hf _ P' Mf upd_same (λj hj1=> by
    by_cases hji:j=i
    ·subst hji;rw [hPi];have h4:∀s,s < 4->a s≠f:=λs hs=> by have:=hq s hs;omega
     refine qJ.ext (g:=g4) ⟨?_,?_,?_,?_⟩ λs hs=> upd_ne (h4 s hs)
     ·show g4 q1=_;simp only [g4];rw [upd_ne (by omega),upd_ne (by omega),upd_ne (by omega),upd_same];rfl
     ·show g4 q2=_;simp only [g4];rw [upd_ne (by omega),upd_ne (by omega),upd_same];rfl
     ·show g4 q3=_;simp only [g4];rw [upd_ne (by omega),upd_same];rfl
     ·show g4 q4=_;simp only [g4];rw [upd_same];rfl
    ·rw [hP j (by omega)];refine(hp j (by omega)).ext λs hs=> ?_;have hlt:=hpl j (by omega) s hs;obtain⟨l,r,hg⟩:=(hp j (by omega)).some hs;have:P j s≠f:=λe=> by rw [e,hf] at hg;cases hg
     rw [upd_ne this,low _ hlt]) (λj k s t hj1 hk1 hs ht e=> by
    by_cases hji:j=i
    ·by_cases hki:k=i
     ·subst hji;subst hki;refine⟨rfl,?_⟩;rw [hPi] at e
      match s,hs,t,ht with
      | 0,_,0,_ | 1,_,1,_ | 2,_,2,_ | 3,_,3,_=> rfl
      | 0,_,1,_ | 0,_,2,_ | 0,_,3,_ | 1,_,0,_ | 1,_,2,_ | 1,_,3,_ | 2,_,0,_ | 2,_,1,_ | 2,_,3,_ | 3,_,0,_ | 3,_,1,_ | 3,_,2,_=> simp only [a,four] at e;omega
     ·subst hji;rw [hPi,hP k (by omega)] at e;have:=hq s hs;have:=hpl k (by omega) t ht;omega
    ·by_cases hki:k=i
     ·subst hki;rw [hPi,hP j (by omega)] at e;have:=hq t ht;have:=hpl j (by omega) s hs;omega
     ·rw [hP j (by omega),hP k (by omega)] at e;exact hj j k s t (by omega) (by omega) hs ht e)
   refine⟨H',g',P'',?_,r2⟩;rw [Uf];have s1:=ld5 Hi M.same;have s2:=ld6 Ha Na.same;have s3:=ld5 Hb Nb.same;have ep:∀r r',bd 115 [(0,.ref r 0 0),(1,.ref r' 0 0)]=some (.agg [.ref r 0 0,.ref r' 0 0]):=λr r'=> by
    simp -implicitDefEqProofs only [xq_,Zk,iV,dW,Zj];rfl
   have eq:∀r r' r2 r3,bd 121 [(0,.agg [.ref r 0 0,.ref r' 0 0]),(1,.agg [.ref r2 0 0,.ref r3 0 0])]=some (.agg [.ref r 0 0,.ref r' 0 0,.ref r2 0 0,.ref r3 0 0]):=λr r' r2 r3=> by
    simp -implicitDefEqProofs only [xq_,ad5,iV,dW,Zm];rfl
   have eb:=iZ (e:=121) (m:=4) (z:=[zP,zP,zP,zP]) (v:=.agg [.ref q1 0 0,.ref q2 0 0,.ref q3 0 0,.ref q4 0 0]) (H:=Hd) rfl rfl rfl;simp only [dN] at eb;simp only [o,a,kK,four,f] at t1 t2 r1 hx;simp -implicitDefEqProofs only [Nat.reduceLeDiff,xq_,hq_,h1,f,hx,s1,s2,s3,a1,a2,a3,a4,ep,eq,adS,zbk,eb,t1,t2,bV,h6,h7,r1]
 obtain⟨H',g',P,r1,r2,r3,r4,r5⟩:=key c.nodes.toNat 0 (by omega) H2 _ _ M0 upd_same (λj hj=> by omega) (λi j s t hi=> by omega);refine⟨H',f,P,g',aN rfl rfl (aiP _ _ _ (r:=(_,H')) ?_),r2.BP,⟨?_,?_,rfl,rfl⟩,r5⟩
 ·have e0:bd 124 []=some (.agg [zN]):=by
   simp -implicitDefEqProofs only [xq_,ad7,iV,dW]
  have a0:([zN]:List AV).all AV.aJ=true:=rfl;simp -implicitDefEqProofs only [Nat.reduceLT,xq_,hq_,aeR,aB (jE c),e0,aB a0,l0];exact r1
 ·rw [r3];simp only [Fab.new,List.length_replicate]
 ·intro i p hp;simp only [Fab.new] at hp;rw [List.getElem?_replicate] at hp;split at hp
  ·cases hp;exact r4 i (by omega)
  ·cases hp
structure Adr where
 LM:Nat
 fab:Nat
 trace:Nat
 N:Nat->Nat->Nat
 P:Nat->Nat->Nat
def ajF(A:Adr)(c:Cfg):List AV:=[.ref A.fab 0 0,.ref A.trace 0 0]++c.av
def aho(N:Nat->Nat->Nat)(n:Nat):List AV:=(List.range n).map λi=> .ref (N i 0) 0 0
def ajG(A:Adr)(c:Cfg)(n:Nat):List Cell:=(ajF A c).map .av++[.seq 1 (aho A.N n)]
def akS(N:Nat->Nat->Nat)(n:Nat):Prop:=∀i j s t,i < n->j < n->s < 6->t < 6->N i s=N j t->i=j/\s=t
structure rW(g:Store)(A:Adr)(m:gQ):Prop where
 LM:g A.LM=some (ajG A m.c m.nodes.length)
 trace:g A.trace=some (iJ m.trace)
 fab:dU g A.fab A.P m.c m.fab
 node:∀(i:Nat) n,m.nodes[i]?=some n->mM g (A.N i) m.c i n
 Pj:MG A.P m.fab.l.length
 akT:akS A.N m.nodes.length
 tf:A.trace≠A.fab
theorem mM.some {g:Store}{a:Nat->Nat}{c:Cfg}{me:Int}{n:Node}(h:mM g a c me n){s:Nat}(hs:s < 6):∃l,g (a s)=some l:=by
 obtain⟨h0,h1,h2,h3,h4,h5⟩:=h
 match s,hs with
 | 0,_=> exact⟨_,h0⟩
 | 1,_=> exact⟨_,h1⟩
 | 2,_=> exact⟨_,h2⟩
 | 3,_=> exact⟨_,h3⟩
 | 4,_=> exact⟨_,h4⟩
 | 5,_=> exact⟨_,h5⟩
theorem mM.ext {g g':Store}{a:Nat->Nat}{c:Cfg}{me:Int}{n:Node}(h:mM g a c me n)(hg:∀s,s < 6->g' (a s)=g (a s)):mM g' a c me n:=by
 obtain⟨h0,h1,h2,h3,h4,h5⟩:=h;exact⟨by rw [hg 0 (by omega),h0],by rw [hg 1 (by omega),h1],by rw [hg 2 (by omega),h2],by rw [hg 3 (by omega),h3],by rw [hg 4 (by omega),h4],by rw [hg 5 (by omega),h5]⟩
theorem mM.inj {g:Store}{a:Nat->Nat}{c:Cfg}{me:Int}{n:Node}(h:mM g a c me n){s t:Nat}(hs:s < 6)(ht:t < 6)(e:a s=a t):s=t:=by
 obtain⟨h0,h1,h2,h3,h4,h5⟩:=h;have hh:(g (a s)).map List.length=(g (a t)).map List.length:=by rw [e]
 match s,hs,t,ht with
 | 0,_,0,_ | 1,_,1,_ | 2,_,2,_ | 3,_,3,_ | 4,_,4,_ | 5,_,5,_=> rfl
 | 0,_,1,_ | 0,_,2,_ | 0,_,3,_ | 0,_,4,_ | 0,_,5,_ | 1,_,0,_ | 1,_,2,_ | 1,_,3,_ | 1,_,4,_ | 1,_,5,_ | 2,_,0,_ | 2,_,1,_ | 2,_,3,_ | 2,_,4,_ | 2,_,5,_ | 3,_,0,_ | 3,_,1,_ | 3,_,2,_ | 3,_,4,_ | 3,_,5,_ | 4,_,0,_ | 4,_,1,_ | 4,_,2,_ | 4,_,3,_ | 4,_,5,_ | 5,_,0,_ | 5,_,1,_ | 5,_,2,_ | 5,_,3,_ | 5,_,4,_=>
  simp [h0,h1,h2,h3,h4,h5,uS,Jw,Cfg.av,bf.av,aV,mW,CY,zU,fB] at hh
theorem Yp {c:Cfg}{ps:List (List Opn)}(h:c.Qr ps=true):(ps.length:Int)=c.nodes/\∀l∈ps,l.length<=24:=by
 simp only [Cfg.Qr,zaj,decide_eq_true_eq,zaY] at h;exact⟨h.2,λl hl=> (h.1 l hl).1⟩
end
end Go.Proofs.YthmoogcacpmjiaaGreat
