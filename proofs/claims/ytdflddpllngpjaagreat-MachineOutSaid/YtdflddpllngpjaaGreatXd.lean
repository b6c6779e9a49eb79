/-
  Own work: an interpreter over named blocks, its soundness, and what the functions of this seat compute (part 4 of 11).
  Conditions: those of the statement alone.
-/
import Derived.Test.YtdflddpllngpjaaGreatProg
import Derived.KernelRfl
import Derived.RangeFuncFrom
import Derived.RangeFuncLeaves
import Derived.RangeFuncCalls
import Derived.OrdersIn
import Derived.Test.YtdflddpllngpjaaGreatXc
set_option maxRecDepth 100000
set_option linter.all false
set_option linter.unusedSectionVars false
set_option linter.unusedVariables false
set_option linter.unusedSimpArgs false
namespace Go.Proofs.YtdflddpllngpjaaGreat
noncomputable section
def an6:Ann:=⟨[(6,[1,2,3,4,11,14]),(13,[3,4,11,15,16,17,85,86,87]),(19,[3,4,11,15,16,17,20])],[(7,rF 6 (some true::rF 5 (some true::some false::some false::[]))),(8,rF 4 (some true::rF 7 (some true::rF 3 [])))],[]⟩
def afe:Code:=Tryz.f3.body.getD .skip
def QO(C:Callee):List AV->aj->OA:=(dL Tryz.prog C an6 164 afe (dH Tryz.prog 164 Tryz.f3.results.toList) (λ_ _ _=> none) (dH Tryz.prog 164 Tryz.f3.results.toList)).getD 0 λ_ _=> none
def QS(C:Callee):List AV->aj->OA:=(dL Tryz.prog C an6 164 afe (dH Tryz.prog 164 Tryz.f3.results.toList) (λ_ _ _=> none) (dH Tryz.prog 164 Tryz.f3.results.toList)).getD 1 λ_ _=> none
def Lu(C:Callee):List AV->aj->OA:=(dL Tryz.prog C an6 164 afe (dH Tryz.prog 164 Tryz.f3.results.toList) (λ_ _ _=> none) (dH Tryz.prog 164 Tryz.f3.results.toList)).getD 2 λ_ _=> none
def QT(C:Callee)(t2 t3 t4 t11 t15 t16 t17:AV)(H:aj):OA:=
 bo (bd 34 [(1,t2)]) λv76=> bnd (C 8 [t11] H) λv78 H=> bo (fl v78 0) λv79=> bo (bd 34 [(1,v79)]) λv80=> bo (bd 34 [(0,(B true)),(1,t2)]) λv82=> bo (bd 34 [(0,(B true)),(1,t15)]) λv84=> bnd (bs 49 4 [(0,v76),(1,v80),(2,v82),(3,v84)] H) λv85 H=> bnd (lnS v85 H) λv86 H=>
 QS C [t3,t4,t11,t15,t16,t17,v85,v86,(I 0)] H
def as6(C:Callee)(a0 a1 a2 a3 a4:AV)(H:aj):OA:=
 bnd (eU 24 a0 H) λv5 H=>
 bnd (lda 12 v5 H) λv26 H=> bnd (C 5 [v26,(I 12)] H) λv27 H=> bo (aF v27 0) λv28=> bo (aF v27 1) λv29=> bo (aF v27 2) λv30=>
 bo (bi .eql 27 v28 (.s (Go.Value.pointer none))) λv32=>
 aJ v32
 (some ((B false),H))
 (QO C [a1,a2,a3,a4,v28,(I 0)] H)
theorem WE(C:Callee)(t1 t2 t3 t4 t11 t14:AV)(H:aj):QO C [t1,t2,t3,t4,t11,t14] H=
 bnd (lnS t1 H) λv35 H=> bo (bi .lss 3 t14 v35) λv36=> gdA (some v36) true (aC (some t14) H) H λv38 H=> gdA (some v36) true (aC (bi .lss 3 v38 (I 30)) H) H λv39 H=> bo (aV v36 v39 (B false)) λv40=>
 aJ v40
 (bnd (ix 4 t1 t14 H) λv46 H=> bnd (lda 4 v46 H) λv47 H=> bnd (unG H (C 8 [t11] H.guard)) λv49 H=> bo (fl v49 0) λv50=> bo (au t11) λv52=> bo (ah v52 0) λv53=> bnd (ld v53 H) λv54 H=> bnd (unG H (C 9 [v54] H.guard)) λv55 H=> bnd (C 7 [v47,v50,v55] H) λv56 H=> bnd (C 6 [t11,v56] H) λv57 H=>
  bo (bi .add 3 t14 (I 1)) λv42=>
  QO C [t1,t2,t3,t4,t11,v42] H)
 (bo (au t11) λv59=> bo (ah v59 0) λv60=> bnd (ld v60 H) λv61 H=> bnd (unG H (C 9 [v61] H.guard)) λv62 H=> bo (au t11) λv64=> bo (ah v64 1) λv65=> bnd (ld v65 H) λv66 H=> bnd (C 10 [v66] H) λv67 H=> bnd (lnS v67 H) λv68 H=> bnd (unG H (C 11 [t11] H.guard)) λv70 H=>
  bo (bi .geq 3 t2 (I 0)) λv72=>
  aJ v72
  (bo (bi .sub 3 (I (-1)) t2) λv74=>
  QT C v74 t3 t4 t11 v62 v68 v70 H)
  (QT C t2 t3 t4 t11 v62 v68 v70 H)):=
 (congrFun (congrFun (congrArg (λl=> l.getD 0 λ_ _=> none) (cO afe (dH Tryz.prog 164 Tryz.f3.results.toList) (λ_ _ _=> none) (dH Tryz.prog 164 Tryz.f3.results.toList))) [t1,t2,t3,t4,t11,t14]) H).trans (by kernel_rfl)
theorem ac8(C:Callee)(t3 t4 t11 t15 t16 t17 t85 t86 t87:AV)(H:aj):QS C [t3,t4,t11,t15,t16,t17,t85,t86,t87] H=
 bo (bi .lss 3 t87 t86) λv88=>
 aJ v88
 (bnd (ix 4 t85 t87 H) λv89 H=> bnd (lda 4 v89 H) λv90 H=> bnd (alc 34 [zB,zI,zI,.s (.int .u16 0)] H) λv19 H=> bnd (st 4 v19 v90 H) λ_ H=>
  bnd (lda 4 v19 H) λv92 H=> bnd (C 6 [t11,v92] H) λv93 H=>
  aJ v93
  (some ((B false),H))
  (bo (bi .add 3 t87 (I 1)) λv94=>
  QS C [t3,t4,t11,t15,t16,t17,t85,t86,v94] H))
 (Lu C [t3,t4,t11,t15,t16,t17,(I 0)] H):=
 (congrFun (congrFun (congrArg (λl=> l.getD 1 λ_ _=> none) (cO afe (dH Tryz.prog 164 Tryz.f3.results.toList) (λ_ _ _=> none) (dH Tryz.prog 164 Tryz.f3.results.toList))) [t3,t4,t11,t15,t16,t17,t85,t86,t87]) H).trans (by kernel_rfl)
theorem ac9(C:Callee)(t3 t4 t11 t15 t16 t17 t20:AV)(H:aj):Lu C [t3,t4,t11,t15,t16,t17,t20] H=
 bo (bi .lss 3 t20 t15) λv97=>
 aJ v97
 (bo (au t11) λail=> bo (ah ail 0) λaio=> bnd (ld aio H) λaip H=> bnd (C 12 [aip,t20] H) λan7 H=> bo (aF an7 0) λv107=> bo (aF an7 1) λaiq=> bnd (alc 51 [zI,zI,zI,zI,zI,zI,zI,zB,zN] H) λv21 H=> bnd (st 9 v21 v107 H) λ_ H=>
  bo (un .not aiq) λaas=> gdA (some aas) false (aC (some t11) H) H λatv H=> gdA (some aas) false (aC (some t20) H) H λatw H=> gdA (some aas) false (aC (some t3) H) H λas7 H=> gdA (some aas) false (C 13 [as7,(I 80)] H) H λatx H=> gdA (some aas) false (aC (some t4) H) H λaty H=> gdA (some aas) false (aC (bi .or 26 aty (.s (Go.Value.int Go.IntKind.u16 32768))) H) H λv117 H=> gdA (some aas) false (aC (bd 34 [(0,(B true)),(1,atw),(2,atx),(3,v117)]) H) H λaoM H=> gdA (some aas) false (C 6 [atv,aoM] H) H λaoN H=> bo (aV aas (B true) aoN) λatz=>
  aJ atz
  (some ((B false),H))
  (bo (au t11) λatA=> bo (ah atA 0) λv124=> bnd (ld v124 H) λaoO H=> bnd (C 12 [aoO,t20] H) λv127 H=> bo (aF v127 0) λan8=> bo (aF v127 1) λaoP=> bnd (alc 51 [zI,zI,zI,zI,zI,zI,zI,zB,zN] H) λv23 H=> bnd (st 9 v23 an8 H) λ_ H=>
  bo (un .not aoP) λv131=> gdA (some v131) false (lda 9 v21 H) H λatB H=> gdA (some v131) false (lda 9 v23 H) H λas8 H=> gdA (some v131) false (C 14 [atB,as8] H) H λatC H=> gdA (some v131) false (aC (un .not atC) H) H λaoQ H=> bo (aV v131 (B true) aoQ) λaoR=>
  aJ aoR
  (some ((B false),H))
  (bo (bi .add 3 t20 (I 1)) λv99=>
   Lu C [t3,t4,t11,t15,t16,t17,v99] H)))
 (bo (au t11) λv139=> bo (ah v139 0) λatD=> bnd (ld atD H) λv141 H=> bnd (C 9 [v141] H) λas9 H=> bo (bi .eql 3 as9 t15) λaat=> gdA (some aat) true (aC (some t11) H) H λv146 H=> gdA (some aat) true (aC (au v146) H) H λatE H=> gdA (some aat) true (aC (ah atE 1) H) H λv148 H=> gdA (some aat) true (ld v148 H) H λatF H=> gdA (some aat) true (C 10 [atF] H) H λatG H=> gdA (some aat) true (lnS atG H) H λatH H=> gdA (some aat) true (aC (some t16) H) H λv152 H=> gdA (some aat) true (aC (bi .eql 3 atH v152) H) H λatI H=> bo (aV aat atI (B false)) λv154=> gdA (some v154) true (aC (some t11) H) H λatJ H=> gdA (some v154) true (C 11 [atJ] H) H λv157 H=> gdA (some v154) true (aC (some t17) H) H λatK H=> gdA (some v154) true (aC (bi .eql 3 v157 atK) H) H λv159 H=> bo (aV v154 v159 (B false)) λv160=> gdA (some v160) true (C 15 [] H) H λv162 H=> bo (aV v160 v162 (B false)) λatL=>
  some (atL,H)):=
 (congrFun (congrFun (congrArg (λl=> l.getD 2 λ_ _=> none) (cO afe (dH Tryz.prog 164 Tryz.f3.results.toList) (λ_ _ _=> none) (dH Tryz.prog 164 Tryz.f3.results.toList))) [t3,t4,t11,t15,t16,t17,t20]) H).trans (by kernel_rfl)
theorem atN(C:Callee)(a0 a1 a2 a3 a4:AV)(H:aj){r:AV × aj}(h:as6 C a0 a1 a2 a3 a4 H=some r):bH Tryz.prog C 3 [a0,a1,a2,a3,a4] H=some r:=
 rnK (A:=an6) (c:=afe) Tryz.func3 (by kernel_rfl) (by kernel_rfl) h
def atO:Ann:=⟨[],[],[]⟩
def atP:Code:=Tryz.f5.body.getD .skip
def ata(C:Callee)(a0 a1:AV)(H:aj):OA:=
 bnd (eU 24 a0 H) λv2 H=>
 bnd (lda 12 v2 H) λv13 H=> bnd (C 23 [v13] H) λv14 H=> bnd (alc 39 [zI,zI,zI,zI,zI,zI,zI,zN] H) λv7 H=> bnd (st 8 v7 v14 H) λ_ H=>
 bnd (lda 12 v2 H) λv15 H=> bnd (C 24 [v15,a1] H) λv17 H=>
 bnd (lda 8 v7 H) λv19 H=> bnd (C 25 [v19,v17] H) λv21 H=> bo (aF v21 0) λv22=> bo (aF v21 1) λv23=>
 bnd (lda 8 v7 H) λv25 H=> bnd (C 16 [v25,v17] H) λv27 H=> bo (aF v27 0) λv28=> bo (aF v27 1) λv29=>
 bo (un .not v23) λv31=> gdA (some v31) false (aC (some v29) H) H λv33 H=> gdA (some v31) false (aC (bi .neq 58 v33 (I 0)) H) H λv34 H=> bo (aV v31 (B true) v34) λv35=> gdA (some v35) false (aC (some v28) H) H λv37 H=> gdA (some v35) false (aC (bi .eql 27 v37 (.s (Go.Value.pointer none))) H) H λv38 H=> bo (aV v35 (B true) v38) λv39=>
 aJ v39
 (some (.tup [(.s (Go.Value.pointer none)),(.s (Go.Value.pointer none)),(.s (Go.Value.slice none 0 0))],H))
 (some (.tup [v28,v22,v17],H))
theorem atQ(C:Callee)(a0 a1:AV)(H:aj){r:AV × aj}(h:ata C a0 a1 H=some r):bH Tryz.prog C 5 [a0,a1] H=some r:=
 rnK (A:=atO) (c:=atP) Tryz.func5 (by kernel_rfl) (by kernel_rfl) h
def atS:Ann:=⟨[],[(2,rF 13 []),(4,rF 16 [])],[]⟩
def atT:Code:=Tryz.f6.body.getD .skip
def an9(C:Callee)(a0 a1:AV)(H:aj):OA:=
 bnd (eU 34 a1 H) λv3 H=>
 bo (ah v3 0) λv6=> bnd (ld v6 H) λv7 H=>
 aJ v7
 (bo (au a0) λv9=> bo (ah v9 0) λv10=> bnd (ld v10 H) λv11 H=> bo (ah v3 1) λv12=> bnd (ld v12 H) λv13 H=> bo (ah v3 2) λv14=> bnd (ld v14 H) λv15 H=> bo (ah v3 3) λv16=> bnd (ld v16 H) λv17 H=> bnd (C 26 [v11,v13,v15,v17] H) λv18 H=> bo (bi .eql 58 v18 (I 0)) λv19=>
  some (v19,H))
 (bo (ah v3 1) λv21=> bnd (ld v21 H) λv22 H=> bnd (C 19 [a0,v22] H) λv23 H=>
  bo (bi .neq 64 v23 (.s (Go.Value.pointer none))) λv25=> gdA (some v25) true (aC (some v23) H) H λv27 H=> gdA (some v25) true (aC (some a0) H) H λv28 H=> gdA (some v25) true (aC (au v28) H) H λv29 H=> gdA (some v25) true (aC (ah v29 0) H) H λv30 H=> gdA (some v25) true (ld v30 H) H λv31 H=> gdA (some v25) true (aC (some a0) H) H λv32 H=> gdA (some v25) true (aC (au v32) H) H λv33 H=> gdA (some v25) true (aC (ah v33 1) H) H λv34 H=> gdA (some v25) true (ld v34 H) H λv35 H=> gdA (some v25) true (C 27 [v27,v31,v35] H) H λv36 H=> gdA (some v25) true (aC (bi .neq 3 v36 (I 0)) H) H λv37 H=> bo (aV v25 v37 (B false)) λv38=>
  some (v38,H))
theorem aoS(C:Callee)(a0 a1:AV)(H:aj){r:AV × aj}(h:an9 C a0 a1 H=some r):bH Tryz.prog C 6 [a0,a1] H=some r:=
 rnK (A:=atS) (c:=atT) Tryz.func6 (by kernel_rfl) (by kernel_rfl) h
def atU:Ann:=⟨[],[(7,some false::some false::some true::rF 6 [])],[(7,[(4,6)])]⟩
def atV:Code:=Tryz.f7.body.getD .skip
def QU(C:Callee)(t6 t7:AV)(H:aj):OA:=
 bnd (lda 4 t7 H) λv48 H=> bnd (st 4 t6 v48 H) λ_ H=>
 bnd (lda 4 t6 H) λr0 _=> some (r0,H)
def air(C:Callee)(a0 a1 a2:AV)(H:aj):OA:=
 bnd (eU 37 a0 H) λv3 H=> bnd (alc 34 [zB,zI,zI,.s (.int .u16 0)] H) λv6 H=>
 bo (ah v3 0) λv8=> bnd (ld v8 H) λv9 H=> bo (bi .rem 3 v9 (I 23)) λv10=> bo (bi .eql 3 v10 (I 22)) λv11=>
 aJ v11
 (bo (ah v3 2) λv12=> bnd (ld v12 H) λv13 H=> bo (bi .rem 3 v13 (I 2)) λv14=> bo (bi .eql 3 v14 (I 0)) λv15=> bo (ah v3 1) λv16=> bnd (ld v16 H) λv17 H=> bo (ah v3 2) λv18=> bnd (ld v18 H) λv19 H=> bo (ah v3 3) λv20=> bnd (ld v20 H) λv21 H=> bo (bd 34 [(0,v15),(1,v17),(2,v19),(3,v21)]) λv22=> bnd (st 4 v6 v22 H) λ_ H=>
  bnd (lda 4 v6 H) λr0 _=> some (r0,H))
 (bo (ah v3 0) λv23=> bnd (ld v23 H) λv24 H=> bnd (C 13 [v24,(I 2)] H) λv25 H=> bo (bi .eql 3 v25 (I 0)) λv26=>
  aJ v26
  (bo (ah v3 1) λv27=> bnd (ld v27 H) λv28 H=> bnd (C 13 [v28,a1] H) λv30 H=> bo (bd 34 [(1,v30)]) λv31=> bnd (st 4 v6 v31 H) λ_ H=>
  bnd (lda 4 v6 H) λr0 _=> some (r0,H))
  (bo (ah v3 1) λv32=> bnd (ld v32 H) λv33 H=> bnd (C 13 [v33,a2] H) λv35 H=> bo (bd 34 [(0,(B true)),(1,v35)]) λv36=> bnd (alc 34 [zB,zI,zI,.s (.int .u16 0)] H) λv7 H=> bnd (st 4 v7 v36 H) λ_ H=>
  bo (ah v3 0) λv37=> bnd (ld v37 H) λv38 H=> bo (bi .rem 3 v38 (I 7)) λv39=> bo (bi .eql 3 v39 (I 6)) λv40=>
  aJ v40
  (bo (ah v3 2) λv41=> bnd (ld v41 H) λv42 H1=> bnd (unG H1 (C 13 [v42,(I 120)] H1.guard)) λv43 H2=> bo (ah v3 3) λv44=> bnd (ld v44 H2) λv45 H4=> bo (ah v7 2) λv46=> bnd (st 1 v46 v43 H4) λ_ H6=> bo (ah v7 3) λv47=> bnd (st 1 v47 v45 H6) λ_ H8=> ck (aU v44) H4 H6 <|
   QU C v6 v7 H8)
  (QU C v6 v7 H)))
theorem atW(C:Callee)(a0 a1 a2:AV)(H:aj){r:AV × aj}(h:air C a0 a1 a2 H=some r):bH Tryz.prog C 7 [a0,a1,a2] H=some r:=
 rnK (A:=atU) (c:=atV) Tryz.func7 (by kernel_rfl) (by kernel_rfl) h
def atX:Ann:=⟨[],[],[]⟩
def atY:Code:=Tryz.f8.body.getD .skip
def atb(C:Callee)(a0:AV)(H:aj):OA:=
 bnd (alc 39 [zI,zI,zI,zI,zI,zI,zI,zN] H) λv2 H=>
 bo (au a0) λv5=> bo (ah v5 2) λv6=> bnd (lda 8 v6 H) λv7 H=> bnd (alc 39 [zI,zI,zI,zI,zI,zI,zI,zN] H) λv3 H=> bnd (st 8 v3 v7 H) λ_ H=>
 bo (ah v3 7) λv8=> bnd (ld v8 H) λv9 H=> bnd (C 28 [v9] H) λv10 H=> bo (ah v3 7) λv11=> bnd (st 1 v11 v10 H) λ_ H=>
 bnd (lda 8 v3 H) λv12 H=> bnd (st 8 v2 v12 H) λ_ H=>
 bnd (lda 8 v2 H) λr0 _=> some (r0,H)
theorem atZ(C:Callee)(a0:AV)(H:aj){r:AV × aj}(h:atb C a0 H=some r):bH Tryz.prog C 8 [a0] H=some r:=
 rnK (A:=atX) (c:=atY) Tryz.func8 (by kernel_rfl) (by kernel_rfl) h
def atc:Ann:=⟨[(4,[3,7,8,9])],[],[]⟩
def aoT:Code:=Tryz.f9.body.getD .skip
def QV(C:Callee):List AV->aj->OA:=(dL Tryz.prog C atc 20 aoT (dH Tryz.prog 20 Tryz.f9.results.toList) (λ_ _ _=> none) (dH Tryz.prog 20 Tryz.f9.results.toList)).getD 0 λ_ _=> none
def atd(C:Callee)(a0:AV)(H:aj):OA:=
 bnd (C 29 [a0] H) λv7 H=> bnd (lnS v7 H) λv8 H=>
 QV C [(I 0),v7,v8,(I 0)] H
theorem ada(C:Callee)(t3 t7 t8 t9:AV)(H:aj):QV C [t3,t7,t8,t9] H=
 bo (bi .lss 3 t9 t8) λv10=>
 aJ v10
 (bnd (ix 2 t7 t9 H) λv11 H=> bnd (lda 2 v11 H) λv12 H=> bnd (alc 90 [zP,zP] H) λv5 H=> bnd (st 2 v5 v12 H) λ_ H=>
  bo (ah v5 0) λv14=> bnd (ld v14 H) λv15 H=> bnd (C 30 [v15] H) λv16 H=> bo (bi .add 3 t3 v16) λv17=>
  bo (bi .add 3 t9 (I 1)) λv18=>
  QV C [v17,t7,t8,v18] H)
 (some (t3,H)):=
 (congrFun (congrFun (congrArg (λl=> l.getD 0 λ_ _=> none) (cO aoT (dH Tryz.prog 20 Tryz.f9.results.toList) (λ_ _ _=> none) (dH Tryz.prog 20 Tryz.f9.results.toList))) [t3,t7,t8,t9]) H).trans (by kernel_rfl)
theorem at7(C:Callee)(a0:AV)(H:aj){r:AV × aj}(h:atd C a0 H=some r):bH Tryz.prog C 9 [a0] H=some r:=
 rnK (A:=atc) (c:=aoT) Tryz.func9 (by kernel_rfl) (by kernel_rfl) h
def aoU:Ann:=⟨[],[],[]⟩
def aoV:Code:=Tryz.f10.body.getD .skip
def ais(C:Callee)(a0:AV)(H:aj):OA:=
 bo (au a0) λv4=> bo (ah v4 0) λv5=> bnd (ld v5 H) λv6 H=> bnd (C 31 [v6] H) λv7 H=>
 some (v7,H)
theorem aoW(C:Callee)(a0:AV)(H:aj){r:AV × aj}(h:ais C a0 H=some r):bH Tryz.prog C 10 [a0] H=some r:=
 rnK (A:=aoU) (c:=aoV) Tryz.func10 (by kernel_rfl) (by kernel_rfl) h
def ait:Ann:=⟨[(4,[3,9,10,11])],[],[]⟩
def aff:Code:=Tryz.f11.body.getD .skip
def IQ(C:Callee):List AV->aj->OA:=(dL Tryz.prog C ait 24 aff (dH Tryz.prog 24 Tryz.f11.results.toList) (λ_ _ _=> none) (dH Tryz.prog 24 Tryz.f11.results.toList)).getD 0 λ_ _=> none
def aiu(C:Callee)(a0:AV)(H:aj):OA:=
 bo (au a0) λv7=> bo (ah v7 10) λv8=> bnd (ld v8 H) λv9 H=> bnd (lnS v9 H) λv10 H=>
 IQ C [(I 0),v9,v10,(I 0)] H
theorem WG(C:Callee)(t3 t9 t10 t11:AV)(H:aj):IQ C [t3,t9,t10,t11] H=
 bo (bi .lss 3 t11 t10) λv12=>
 aJ v12
 (bnd (ix 1 t9 t11 H) λv13 H=> bnd (ld v13 H) λv14 H=>
  bo (au v14) λv17=> bo (ah v17 1) λv18=> bnd (ld v18 H) λv19 H=> bnd (C 32 [v19] H) λv20 H=> bo (bi .add 3 t3 v20) λv21=>
  bo (bi .add 3 t11 (I 1)) λv22=>
  IQ C [v21,t9,t10,v22] H)
 (some (t3,H)):=
 (congrFun (congrFun (congrArg (λl=> l.getD 0 λ_ _=> none) (cO aff (dH Tryz.prog 24 Tryz.f11.results.toList) (λ_ _ _=> none) (dH Tryz.prog 24 Tryz.f11.results.toList))) [t3,t9,t10,t11]) H).trans (by kernel_rfl)
theorem aoX(C:Callee)(a0:AV)(H:aj){r:AV × aj}(h:aiu C a0 H=some r):bH Tryz.prog C 11 [a0] H=some r:=
 rnK (A:=ait) (c:=aff) Tryz.func11 (by kernel_rfl) (by kernel_rfl) h
def aoY:Ann:=⟨[],[],[]⟩
def aoZ:Code:=Tryz.f12.body.getD .skip
def afg(C:Callee)(a0 a1:AV)(H:aj):OA:=
 bnd (alc 51 [zI,zI,zI,zI,zI,zI,zI,zB,zN] H) λv4 H=>
 bnd (C 33 [a0,a1] H) λv12 H=> bo (aF v12 0) λv13=> bo (aF v12 1) λv14=> bo (aF v12 2) λv15=> bnd (alc 90 [zP,zP] H) λv6 H=> bnd (st 2 v6 v13 H) λ_ H=>
 bo (un .not v15) λv17=> gdA (some v17) false (aC (some a1) H) H λv19 H=> gdA (some v17) false (aC (bi .lss 3 v19 (I 0)) H) H λv20 H=> bo (aV v17 (B true) v20) λv21=>
 aJ v21
 (bo (bd 51 []) λv22=> bnd (st 9 v4 v22 H) λ_ H=>
  bnd (lda 9 v4 H) λr0 _=> some (.tup [r0,(B false)],H))
 (bo (ah v6 0) λv23=> bnd (ld v23 H) λv24 H=> bnd (C 34 [v24,v14] H) λv26 H=> bo (aF v26 0) λv27=> bo (aF v26 1) λv28=> bnd (st 9 v4 v27 H) λ_ H=>
  bnd (lda 9 v4 H) λr0 _=> some (.tup [r0,v28],H))
theorem ao0(C:Callee)(a0 a1:AV)(H:aj){r:AV × aj}(h:afg C a0 a1 H=some r):bH Tryz.prog C 12 [a0,a1] H=some r:=
 rnK (A:=aoY) (c:=aoZ) Tryz.func12 (by kernel_rfl) (by kernel_rfl) h
def ao1:Ann:=⟨[],[],[]⟩
def ao2:Code:=Tryz.f13.body.getD .skip
def IU(C:Callee)(t5:AV)(H:aj):OA:=
 some (t5,H)
def aau(C:Callee)(a0 a1:AV)(H:aj):OA:=
 bo (bi .lss 3 a1 (I 1)) λv7=>
 aJ v7
 (some ((I 0),H))
 (bo (bi .rem 3 a0 a1) λv10=>
  bo (bi .lss 3 v10 (I 0)) λv12=>
  aJ v12
  (bo (bi .add 3 v10 a1) λv15=>
  IU C v15 H)
  (IU C v10 H))
theorem ao3(C:Callee)(a0 a1:AV)(H:aj){r:AV × aj}(h:aau C a0 a1 H=some r):bH Tryz.prog C 13 [a0,a1] H=some r:=
 rnK (A:=ao1) (c:=ao2) Tryz.func13 (by kernel_rfl) (by kernel_rfl) h
def aiv:Ann:=⟨[(5,[2,3,71,72])],[(6,rF 11 [])],[]⟩
def afh:Code:=Tryz.f14.body.getD .skip
def Ea(C:Callee):List AV->aj->OA:=(dL Tryz.prog C aiv 87 afh (dH Tryz.prog 87 Tryz.f14.results.toList) (λ_ _ _=> none) (dH Tryz.prog 87 Tryz.f14.results.toList)).getD 0 λ_ _=> none
def aiw(C:Callee)(a0 a1:AV)(H:aj):OA:=
 bnd (eU 51 a0 H) λv2 H=> bnd (eU 51 a1 H) λv3 H=>
 bo (ah v2 0) λv6=> bnd (ld v6 H) λv7 H=> bo (ah v3 0) λv8=> bnd (ld v8 H) λv9 H=> bo (bi .neq 3 v7 v9) λv10=> gdA (some v10) false (aC (ah v2 1) H) H λv12 H=> gdA (some v10) false (ld v12 H) H λv13 H=> gdA (some v10) false (aC (ah v3 1) H) H λv14 H=> gdA (some v10) false (ld v14 H) H λv15 H=> gdA (some v10) false (aC (bi .neq 3 v13 v15) H) H λv16 H=> bo (aV v10 (B true) v16) λv17=> gdA (some v17) false (aC (ah v2 2) H) H λv19 H=> gdA (some v17) false (ld v19 H) H λv20 H=> gdA (some v17) false (aC (ah v3 2) H) H λv21 H=> gdA (some v17) false (ld v21 H) H λv22 H=> gdA (some v17) false (aC (bi .neq 3 v20 v22) H) H λv23 H=> bo (aV v17 (B true) v23) λv24=> gdA (some v24) false (aC (ah v2 3) H) H λv26 H=> gdA (some v24) false (ld v26 H) H λv27 H=> gdA (some v24) false (aC (ah v3 3) H) H λv28 H=> gdA (some v24) false (ld v28 H) H λv29 H=> gdA (some v24) false (aC (bi .neq 3 v27 v29) H) H λv30 H=> bo (aV v24 (B true) v30) λv31=> gdA (some v31) false (aC (ah v2 4) H) H λv33 H=> gdA (some v31) false (ld v33 H) H λv34 H=> gdA (some v31) false (aC (ah v3 4) H) H λv35 H=> gdA (some v31) false (ld v35 H) H λv36 H=> gdA (some v31) false (aC (bi .neq 3 v34 v36) H) H λv37 H=> bo (aV v31 (B true) v37) λv38=> gdA (some v38) false (aC (ah v2 5) H) H λv40 H=> gdA (some v38) false (ld v40 H) H λv41 H=> gdA (some v38) false (aC (ah v3 5) H) H λv42 H=> gdA (some v38) false (ld v42 H) H λv43 H=> gdA (some v38) false (aC (bi .neq 3 v41 v43) H) H λv44 H=> bo (aV v38 (B true) v44) λv45=> gdA (some v45) false (aC (ah v2 6) H) H λv47 H=> gdA (some v45) false (ld v47 H) H λv48 H=> gdA (some v45) false (aC (ah v3 6) H) H λv49 H=> gdA (some v45) false (ld v49 H) H λv50 H=> gdA (some v45) false (aC (bi .neq 3 v48 v50) H) H λv51 H=> bo (aV v45 (B true) v51) λv52=> gdA (some v52) false (aC (ah v2 7) H) H λv54 H=> gdA (some v52) false (ld v54 H) H λv55 H=> gdA (some v52) false (aC (ah v3 7) H) H λv56 H=> gdA (some v52) false (ld v56 H) H λv57 H=> gdA (some v52) false (aC (bi .neq 4 v55 v57) H) H λv58 H=> bo (aV v52 (B true) v58) λv59=> gdA (some v59) false (aC (ah v2 8) H) H λv61 H=> gdA (some v59) false (ld v61 H) H λv62 H=> gdA (some v59) false (lnS v62 H) H λv63 H=> gdA (some v59) false (aC (ah v3 8) H) H λv64 H=> gdA (some v59) false (ld v64 H) H λv65 H=> gdA (some v59) false (lnS v65 H) H λv66 H=> gdA (some v59) false (aC (bi .neq 3 v63 v66) H) H λv67 H=> bo (aV v59 (B true) v67) λv68=>
 aJ v68
 (some ((B false),H))
 (bo (ah v2 8) λv69=> bnd (ld v69 H) λv70 H=> bnd (lnS v70 H) λv71 H=>
  Ea C [v2,v3,v71,(I 0)] H)
theorem WH(C:Callee)(t2 t3 t71 t72:AV)(H:aj):Ea C [t2,t3,t71,t72] H=
 bo (bi .lss 3 t72 t71) λv73=>
 aJ v73
 (bo (ah t2 8) λv75=> bnd (ld v75 H) λv76 H=> bnd (ix 1 v76 t72 H) λv78 H=> bnd (ld v78 H) λv79 H=> bo (ah t3 8) λv80=> bnd (ld v80 H) λv81 H=> bnd (ix 1 v81 t72 H) λv83 H=> bnd (ld v83 H) λv84 H=> bo (bi .neq 3 v79 v84) λv85=>
  aJ v85
  (some ((B false),H))
  (bo (bi .add 3 t72 (I 1)) λv86=>
  Ea C [t2,t3,t71,v86] H))
 (some ((B true),H)):=
 (congrFun (congrFun (congrArg (λl=> l.getD 0 λ_ _=> none) (cO afh (dH Tryz.prog 87 Tryz.f14.results.toList) (λ_ _ _=> none) (dH Tryz.prog 87 Tryz.f14.results.toList))) [t2,t3,t71,t72]) H).trans (by kernel_rfl)
theorem ao4(C:Callee)(a0 a1:AV)(H:aj){r:AV × aj}(h:aiw C a0 a1 H=some r):bH Tryz.prog C 14 [a0,a1] H=some r:=
 rnK (A:=aiv) (c:=afh) Tryz.func14 (by kernel_rfl) (by kernel_rfl) h
def ao5:Ann:=⟨[],[],[]⟩
def ao6:Code:=Tryz.f15.body.getD .skip
def aix(C:Callee)(H:aj):OA:=
 bo (bd 39 [(0,(I 1)),(1,(I 1)),(2,(I 1)),(3,(I 1)),(4,(I 1)),(5,(I 1)),(6,(I 1))]) λv6=> bnd (bs 29 1 [(0,(.s (Go.Value.slice none 0 0)))] H) λv7 H=> bnd (C 16 [v6,v7] H) λv8 H=> bo (aF v8 0) λv9=> bo (aF v8 1) λv10=>
 bo (bd 39 []) λv12=> bnd (C 16 [v12,(.s (Go.Value.slice none 0 0))] H) λv13 H=> bo (aF v13 0) λv14=> bo (aF v13 1) λv15=>
 bo (bi .eql 58 v10 (I 0)) λv17=> gdA (some v17) true (aC (some v9) H) H λv19 H=> gdA (some v17) true (aC (bi .neq 27 v19 (.s (Go.Value.pointer none))) H) H λv20 H=> bo (aV v17 v20 (B false)) λv21=> gdA (some v21) true (aC (some v9) H) H λv23 H=> gdA (some v21) true (C 18 [v23] H) H λv24 H=> bo (aV v21 v24 (B false)) λv25=> gdA (some v25) true (aC (some v9) H) H λv27 H=> gdA (some v25) true (C 11 [v27] H) H λv28 H=> gdA (some v25) true (aC (bi .eql 3 v28 (I 0)) H) H λv29 H=> bo (aV v25 v29 (B false)) λv30=> gdA (some v30) true (aC (some v15) H) H λv32 H=> gdA (some v30) true (aC (bi .eql 58 v32 (I 1)) H) H λv33 H=> bo (aV v30 v33 (B false)) λv34=> gdA (some v34) true (aC (some v14) H) H λv36 H=> gdA (some v34) true (aC (bi .eql 27 v36 (.s (Go.Value.pointer none))) H) H λv37 H=> bo (aV v34 v37 (B false)) λv38=>
 some (v38,H)
theorem ao7(C:Callee)(H:aj){r:AV × aj}(h:aix C H=some r):bH Tryz.prog C 15 [] H=some r:=
 rnK (A:=ao5) (c:=ao6) Tryz.func15 (by kernel_rfl) (by kernel_rfl) h
def aiy:Ann:=⟨[(11,[2,8,32,33,34])],[(8,some false::some true::some true::rF 4 []),(12,rF 8 (some true::rF 5 []))],[]⟩
def afi:Code:=Tryz.f16.body.getD .skip
def IV(C:Callee):List AV->aj->OA:=(dL Tryz.prog C aiy 54 afi (dH Tryz.prog 54 Tryz.f16.results.toList) (λ_ _ _=> none) (dH Tryz.prog 54 Tryz.f16.results.toList)).getD 0 λ_ _=> none
def aav(C:Callee)(a0 a1:AV)(H:aj):OA:=
 bnd (eU 39 a0 H) λv2 H=>
 bnd (lda 8 v2 H) λv11 H=> bnd (C 35 [v11] H) λv12 H=>
 bo (bi .neq 58 v12 (I 0)) λv14=>
 aJ v14
 (some (.tup [(.s (Go.Value.pointer none)),v12],H))
 (bnd (lda 8 v2 H) λv16 H=> bnd (C 36 [v16,a1] H) λv18 H=>
  bo (bi .neq 58 v18 (I 0)) λv20=>
  aJ v20
  (some (.tup [(.s (Go.Value.pointer none)),v18],H))
  (bo (ah v2 7) λv22=> bnd (ld v22 H) λv23 H=> bnd (C 28 [v23] H) λv24 H=> bo (ah v2 7) λv25=> bnd (st 1 v25 v24 H) λ_ H=>
  bnd (lda 8 v2 H) λv26 H=> bnd (unG H (C 37 [v26] H.guard)) λv27 H=> bnd (unG H (C 38 [] H.guard)) λv28 H=> bnd (lda 8 v2 H) λv29 H=> bo (bd 46 [(0,v27),(1,v28),(2,v29)]) λv30=> bnd (eU 46 v30 H) λv31 H=>
  bnd (lnS a1 H) λv33 H=>
  IV C [v2,v31,a1,v33,(I 0)] H))
theorem WI(C:Callee)(t2 t8 t32 t33 t34:AV)(H:aj):IV C [t2,t8,t32,t33,t34] H=
 bo (bi .lss 3 t34 t33) λv35=>
 aJ v35
 (bnd (ix 1 t32 t34 H) λv37 H=> bnd (ld v37 H) λv38 H=>
  bo (au t8) λv41=> bo (ah v41 10) λv42=> bnd (ld v42 H) λv43 H=> bnd (lda 8 t2 H) λv44 H=> bnd (unG H (C 39 [v44,t34,v38] H.guard)) λv47 H=> bnd (bs 44 1 [(0,v47)] H) λv48 H=> bnd (app 64 1 8 v43 v48 H) λv49 H=> bo (au t8) λv50=> bo (ah v50 10) λv51=> bnd (st 1 v51 v49 H) λ_ H=>
  bo (bi .add 3 t34 (I 1)) λv52=>
  IV C [t2,t8,t32,t33,v52] H)
 (some (.tup [t8,(I 0)],H)):=
 (congrFun (congrFun (congrArg (λl=> l.getD 0 λ_ _=> none) (cO afi (dH Tryz.prog 54 Tryz.f16.results.toList) (λ_ _ _=> none) (dH Tryz.prog 54 Tryz.f16.results.toList))) [t2,t8,t32,t33,t34]) H).trans (by kernel_rfl)
theorem aiz(C:Callee)(a0 a1:AV)(H:aj){r:AV × aj}(h:aav C a0 a1 H=some r):bH Tryz.prog C 16 [a0,a1] H=some r:=
 rnK (A:=aiy) (c:=afi) Tryz.func16 (by kernel_rfl) (by kernel_rfl) h
def aiA:Ann:=⟨[(3,[0,12,13,14])],[],[]⟩
def afj:Code:=Tryz.f18.body.getD .skip
def zo(C:Callee):List AV->aj->OA:=(dL Tryz.prog C aiA 54 afj (dH Tryz.prog 54 Tryz.f18.results.toList) (λ_ _ _=> none) (dH Tryz.prog 54 Tryz.f18.results.toList)).getD 0 λ_ _=> none
def aiB(C:Callee)(a0:AV)(H:aj):OA:=
 bo (au a0) λv10=> bo (ah v10 10) λv11=> bnd (ld v11 H) λv12 H=> bnd (lnS v12 H) λv13 H=>
 zo C [a0,v12,v13,(I 0)] H
theorem WJ(C:Callee)(t0 t12 t13 t14:AV)(H:aj):zo C [t0,t12,t13,t14] H=
 bo (bi .lss 3 t14 t13) λv15=>
 aJ v15
 (bnd (ix 1 t12 t14 H) λv17 H=> bnd (ld v17 H) λv18 H=>
  bnd (C 40 [v18] H) λv21 H=> bo (aF v21 0) λv22=> bo (aF v21 1) λv23=> bnd (alc 74 [zI,zI,zI,zI,zI,zI,zN,zI,zI] H) λv5 H=> bnd (st 9 v5 v22 H) λ_ H=>
  bo (au t0) λv26=> bo (ah v26 0) λv27=> bnd (ld v27 H) λv28 H=> bnd (C 41 [v28,t14] H) λv30 H=> bo (aF v30 0) λv31=> bo (aF v30 1) λv32=>
  gdA (some v23) false (aC (some v18) H) H λv35 H=> gdA (some v23) false (aC (au v35) H) H λv36 H=> gdA (some v23) false (aC (ah v36 1) H) H λv37 H=> gdA (some v23) false (ld v37 H) H λv38 H=> gdA (some v23) false (C 42 [v38] H) H λv39 H=> bo (aV v23 (B true) v39) λv40=> gdA (some v40) false (aC (some v31) H) H λv42 H=> gdA (some v40) false (aC (some v32) H) H λv43 H=> gdA (some v40) false (aC (bi .add 3 v42 v43) H) H λv44 H=> gdA (some v40) false (aC (bi .gtr 3 v44 (I 0)) H) H λv45 H=> bo (aV v40 (B true) v45) λv46=>
  aJ v46
  (some ((B false),H))
  (bo (bi .add 3 t14 (I 1)) λv47=>
  zo C [t0,t12,t13,v47] H))
 (bo (au t0) λv49=> bo (ah v49 0) λv50=> bnd (ld v50 H) λv51 H=> bnd (C 9 [v51] H) λv52 H=> bo (bi .eql 3 v52 (I 0)) λv53=>
  some (v53,H)):=
 (congrFun (congrFun (congrArg (λl=> l.getD 0 λ_ _=> none) (cO afj (dH Tryz.prog 54 Tryz.f18.results.toList) (λ_ _ _=> none) (dH Tryz.prog 54 Tryz.f18.results.toList))) [t0,t12,t13,t14]) H).trans (by kernel_rfl)
theorem ao8(C:Callee)(a0:AV)(H:aj){r:AV × aj}(h:aiB C a0 H=some r):bH Tryz.prog C 18 [a0] H=some r:=
 rnK (A:=aiA) (c:=afj) Tryz.func18 (by kernel_rfl) (by kernel_rfl) h
def ao9:Ann:=⟨[],[],[]⟩
def apa:Code:=Tryz.f19.body.getD .skip
def aaw(C:Callee)(a0 a1:AV)(H:aj):OA:=
 bo (bi .lss 3 a1 (I 0)) λv6=> gdA (some v6) false (aC (some a1) H) H λv8 H=> gdA (some v6) false (aC (some a0) H) H λv9 H=> gdA (some v6) false (aC (au v9) H) H λv10 H=> gdA (some v6) false (aC (ah v10 10) H) H λv11 H=> gdA (some v6) false (ld v11 H) H λv12 H=> gdA (some v6) false (lnS v12 H) H λv13 H=> gdA (some v6) false (aC (bi .geq 3 v8 v13) H) H λv14 H=> bo (aV v6 (B true) v14) λv15=>
 aJ v15
 (some ((.s (Go.Value.pointer none)),H))
 (bo (au a0) λv17=> bo (ah v17 10) λv18=> bnd (ld v18 H) λv19 H=> bnd (ix 1 v19 a1 H) λv21 H=> bnd (ld v21 H) λv22 H=>
  some (v22,H))
theorem apb(C:Callee)(a0 a1:AV)(H:aj){r:AV × aj}(h:aaw C a0 a1 H=some r):bH Tryz.prog C 19 [a0,a1] H=some r:=
 rnK (A:=ao9) (c:=apa) Tryz.func19 (by kernel_rfl) (by kernel_rfl) h
def apc:Ann:=⟨[],[(1,some false::some false::some true::rF 3 (some true::rF 3 (some true::rF 3 (some true::rF 3 (some true::rF 3 (some true::rF 3 (some true::some false::some false::none::some false::[])))))))],[]⟩
def apd:Code:=Tryz.f23.body.getD .skip
def aiC(C:Callee)(a0:AV)(H:aj):OA:=
 bnd (eU 24 a0 H) λv1 H=> bnd (alc 39 [zI,zI,zI,zI,zI,zI,zI,zN] H) λv2 H=>
 bnd (alc 39 [zI,zI,zI,zI,zI,zI,zI,zN] H) λv3 H=> bo (ah v1 0) λv4=> bnd (ld v4 H) λv5 H=> bnd (unG H (C 13 [v5,(I 4)] H.guard)) λv6 H=> bo (bi .add 3 (I 1) v6) λv7=> bo (ah v1 1) λv8=> bnd (ld v8 H) λv9 H=> bnd (unG H (C 13 [v9,(I 4)] H.guard)) λv10 H=> bo (bi .add 3 (I 1) v10) λv11=> bo (ah v1 2) λv12=> bnd (ld v12 H) λv13 H=> bnd (unG H (C 13 [v13,(I 2)] H.guard)) λv14 H=> bo (bi .add 3 (I 1) v14) λv15=> bo (ah v1 3) λv16=> bnd (ld v16 H) λv17 H=> bnd (unG H (C 13 [v17,(I 2)] H.guard)) λv18 H=> bo (bi .add 3 (I 1) v18) λv19=> bo (ah v1 4) λv20=> bnd (ld v20 H) λv21 H=> bnd (unG H (C 13 [v21,(I 2)] H.guard)) λv22 H=> bo (bi .add 3 (I 1) v22) λv23=> bo (ah v1 5) λv24=> bnd (ld v24 H) λv25 H=> bnd (unG H (C 13 [v25,(I 3)] H.guard)) λv26 H=> bo (bi .add 3 (I 1) v26) λv27=> bo (ah v1 6) λv28=> bnd (ld v28 H) λv29 H=> bnd (unG H (C 13 [v29,(I 3)] H.guard)) λv30 H=> bo (bi .add 3 (I 1) v30) λv31=> bo (bd 39 [(0,v7),(1,v11),(2,v15),(3,v19),(4,v23),(5,v27),(6,v31)]) λv32=> bnd (st 8 v3 v32 H) λ_ H=>
 bo (ah v1 7) λv33=> bnd (ld v33 H) λv34 H=> bo (ah v3 1) λv35=> bnd (ld v35 H) λv36 H=> bo (ah v3 2) λv37=> bnd (ld v37 H) λv38 H=> bo (bi .mul 3 v36 v38) λv39=> bnd (C 44 [v34,v39] H) λv40 H=> bo (ah v3 7) λv41=> bnd (st 1 v41 v40 H) λ_ H=>
 bnd (lda 8 v3 H) λv42 H=> bnd (st 8 v2 v42 H) λ_ H=>
 bnd (lda 8 v2 H) λr0 _=> some (r0,H)
theorem ape(C:Callee)(a0:AV)(H:aj){r:AV × aj}(h:aiC C a0 H=some r):bH Tryz.prog C 23 [a0] H=some r:=
 rnK (A:=apc) (c:=apd) Tryz.func23 (by kernel_rfl) (by kernel_rfl) h
def aiD:Ann:=⟨[(5,[1,2,5,6,7])],[(6,none::rF 3 (some true::some true::rF 5 (some true::rF 5 (some true::some false::none::some false::[])))),(9,rF 9 []),(11,rF 11 [])],[]⟩
def afk:Code:=Tryz.f24.body.getD .skip
def wM(C:Callee):List AV->aj->OA:=(dL Tryz.prog C aiD 84 afk (dH Tryz.prog 84 Tryz.f24.results.toList) (λ_ _ _=> none) (dH Tryz.prog 84 Tryz.f24.results.toList)).getD 0 λ_ _=> none
def IW(C:Callee)(t1 t2 t5 t6 t7:AV)(H:aj):OA:=
 bo (bi .add 3 t7 (I 1)) λv26=>
 wM C [t1,t2,t5,t6,v26] H
def Eb(C:Callee)(t1 t2 t5 t6 t7 t8:AV)(H:aj):OA:=
 bo (ah t2 8) λv59=> bnd (ld v59 H) λv60 H=> bnd (ix 1 v60 t7 H) λv62 H=> bnd (ld v62 H) λv63 H=> bo (ah t5 0) λv64=> bnd (ld v64 H) λv65 H=> bnd (C 13 [v63,v65] H) λv66 H=>
 bnd (ix 1 t6 v66 H) λv69 H=> bnd (ld v69 H) λv70 H=> bnd (lnS v70 H) λv71 H=> bo (bi .lss 3 v71 (I 24)) λv72=>
 aJ v72
 (bnd (ix 1 t6 v66 H) λv77 H=> bnd (ld v77 H) λv78 H=> bnd (lda 3 t8 H) λv79 H=> bnd (bs 100 1 [(0,v79)] H) λv80 H=> bnd (app 119 3 24 v78 v80 H) λv81 H=> bnd (ix 1 t6 v66 H) λv82 H=> bnd (st 1 v82 v81 H) λ_ H=>
  IW C t1 t2 t5 t6 t7 H)
 (IW C t1 t2 t5 t6 t7 H)
def afl(C:Callee)(a0 a1:AV)(H:aj):OA:=
 bnd (eU 24 a0 H) λv2 H=>
 bnd (lda 12 v2 H) λv10 H=> bnd (C 23 [v10] H) λv11 H=> bnd (alc 39 [zI,zI,zI,zI,zI,zI,zI,zN] H) λv5 H=> bnd (st 8 v5 v11 H) λ_ H=>
 bo (ah v5 0) λv12=> bnd (ld v12 H) λv13 H=> bnd (mks 100 1 24 [zN] v13 v13 H) λv14 H=>
 wM C [a1,v2,v5,v14,(I 0)] H
theorem WL(C:Callee)(t1 t2 t5 t6 t7:AV)(H:aj):wM C [t1,t2,t5,t6,t7] H=
 bo (ah t2 8) λv16=> bnd (ld v16 H) λv17 H=> bnd (lnS v17 H) λv18 H=> bo (bi .lss 3 t7 v18) λv19=> gdA (some v19) true (aC (some t7) H) H λv21 H=> gdA (some v19) true (aC (some t1) H) H λv22 H=> gdA (some v19) true (aC (bi .lss 3 v21 v22) H) H λv23 H=> bo (aV v19 v23 (B false)) λv24=>
 aJ v24
 (bnd (bs 22 7 [(0,(I 1)),(1,(I 2)),(2,(I 3)),(3,(I 1)),(4,(I 2)),(5,(I 1)),(6,(I 4))] H) λv27 H=> bnd (alc 119 [zI,zI,zI] H) λv8 H=> bo (ah t2 9) λv28=> bnd (ld v28 H) λv29 H=> bnd (unG H (C 45 [v29,t7] H.guard)) λv31 H=> bnd (unG H (C 13 [v31,(I 7)] H.guard)) λv32 H=> bnd (ix 1 v27 v32 H) λv33 H=> bnd (ld v33 H) λv34 H=> bo (ah t2 10) λv35=> bnd (ld v35 H) λv36 H=> bnd (unG H (C 45 [v36,t7] H.guard)) λv38 H=> bo (ah t5 1) λv39=> bnd (ld v39 H) λv40 H=> bo (ah t5 2) λv41=> bnd (ld v41 H) λv42 H=> bo (bi .mul 3 v40 v42) λv43=> bnd (unG H (C 13 [v38,v43] H.guard)) λv44 H=> bo (bd 119 [(0,v34),(1,v44)]) λv45=> bnd (st 3 v8 v45 H) λ_ H=>
  bo (ah v8 0) λv46=> bnd (ld v46 H) λv47 H=> bo (bi .eql 3 v47 (I 2)) λv48=> gdA (some v48) false (aC (ah v8 0) H) H λv50 H=> gdA (some v48) false (ld v50 H) H λv51 H=> gdA (some v48) false (aC (bi .eql 3 v51 (I 3)) H) H λv52 H=> bo (aV v48 (B true) v52) λv53=>
  aJ v53
  (bo (ah t2 11) λv54=> bnd (ld v54 H) λv55 H=> bnd (C 45 [v55,t7] H) λv57 H=> bo (ah v8 2) λv58=> bnd (st 1 v58 v57 H) λ_ H=>
  Eb C t1 t2 t5 t6 t7 v8 H)
  (Eb C t1 t2 t5 t6 t7 v8 H))
 (some (t6,H)):=
 (congrFun (congrFun (congrArg (λl=> l.getD 0 λ_ _=> none) (cO afk (dH Tryz.prog 84 Tryz.f24.results.toList) (λ_ _ _=> none) (dH Tryz.prog 84 Tryz.f24.results.toList))) [t1,t2,t5,t6,t7]) H).trans (by kernel_rfl)
theorem apf(C:Callee)(a0 a1:AV)(H:aj){r:AV × aj}(h:afl C a0 a1 H=some r):bH Tryz.prog C 24 [a0,a1] H=some r:=
 rnK (A:=aiD) (c:=afk) Tryz.func24 (by kernel_rfl) (by kernel_rfl) h
def aiE:Ann:=⟨[(6,[1,2,6,7])],[(3,some false::some false::some true::rF 3 []),(7,rF 11 (some true::rF 5 []))],[]⟩
def afm:Code:=Tryz.f25.body.getD .skip
def IX(C:Callee):List AV->aj->OA:=(dL Tryz.prog C aiE 45 afm (dH Tryz.prog 45 Tryz.f25.results.toList) (λ_ _ _=> none) (dH Tryz.prog 45 Tryz.f25.results.toList)).getD 0 λ_ _=> none
def aiF(C:Callee)(a0 a1:AV)(H:aj):OA:=
 bnd (eU 39 a0 H) λv2 H=>
 bnd (lda 8 v2 H) λv8 H=> bnd (C 46 [v8] H) λv9 H=> bo (un .not v9) λv10=> gdA (some v10) false (lda 8 v2 H) H λv12 H=> gdA (some v10) false (aC (some a1) H) H λv13 H=> gdA (some v10) false (C 47 [v12,v13] H) H λv14 H=> gdA (some v10) false (aC (un .not v14) H) H λv15 H=> bo (aV v10 (B true) v15) λv16=>
 aJ v16
 (some (.tup [(.s (Go.Value.pointer none)),(B false)],H))
 (bnd (lda 8 v2 H) λv17 H=> bnd (lda 8 v2 H) λv18 H=> bnd (unG H (C 48 [v18] H.guard)) λv19 H=> bo (bd 126 [(0,v17),(1,v19)]) λv20=> bnd (eU 126 v20 H) λv21 H=>
  IX C [a1,v2,v21,(I 0)] H)
theorem WM(C:Callee)(t1 t2 t6 t7:AV)(H:aj):IX C [t1,t2,t6,t7] H=
 bo (ah t2 0) λv23=> bnd (ld v23 H) λv24 H=> bo (bi .lss 3 t7 v24) λv25=>
 aJ v25
 (bo (au t6) λv30=> bo (ah v30 9) λv31=> bnd (ld v31 H) λv32 H=> bnd (lda 8 t2 H) λv33 H=> bnd (ix 1 t1 t7 H) λv37 H=> bnd (ld v37 H) λv38 H=> bnd (unG H (C 49 [v33,t7,v38] H.guard)) λv39 H=> bnd (bs 124 1 [(0,v39)] H) λv40 H=> bnd (app 127 1 8 v32 v40 H) λv41 H=> bo (au t6) λv42=> bo (ah v42 9) λv43=> bnd (st 1 v43 v41 H) λ_ H=>
  bo (bi .add 3 t7 (I 1)) λv27=>
  IX C [t1,t2,t6,v27] H)
 (some (.tup [t6,(B true)],H)):=
 (congrFun (congrFun (congrArg (λl=> l.getD 0 λ_ _=> none) (cO afm (dH Tryz.prog 45 Tryz.f25.results.toList) (λ_ _ _=> none) (dH Tryz.prog 45 Tryz.f25.results.toList))) [t1,t2,t6,t7]) H).trans (by kernel_rfl)
theorem apg(C:Callee)(a0 a1:AV)(H:aj){r:AV × aj}(h:aiF C a0 a1 H=some r):bH Tryz.prog C 25 [a0,a1] H=some r:=
 rnK (A:=aiE) (c:=afm) Tryz.func25 (by kernel_rfl) (by kernel_rfl) h
def aph:Ann:=⟨[],[(7,rF 10 (some true::some true::rF 4 []))],[]⟩
def apj:Code:=Tryz.f26.body.getD .skip
def WO(C:Callee)(a0 a1 a2 a3:AV)(H:aj):OA:=
 bnd (C 12 [a0,a1] H) λv19 H=> bo (aF v19 0) λv20=> bo (aF v19 1) λv21=> bnd (alc 51 [zI,zI,zI,zI,zI,zI,zI,zB,zN] H) λv9 H=> bnd (st 9 v9 v20 H) λ_ H=>
 bo (un .not v21) λv23=>
 aJ v23
 (some ((I 3),H))
 (bnd (lda 9 v9 H) λv25 H=> bnd (C 50 [v25,a2,a3] H) λv28 H=> bo (aF v28 0) λv29=> bo (aF v28 1) λv30=> bnd (st 9 v9 v29 H) λ_ H=>
  bo (bi .neq 58 v30 (I 0)) λv32=>
  aJ v32
  (some (v30,H))
  (bo (au a0) λv35=> bo (ah v35 0) λv36=> bnd (ld v36 H) λv37 H=> bo (ah v9 2) λv38=> bnd (ld v38 H) λv39 H=> bnd (ix 4 v37 v39 H) λv40 H=> bnd (lda 4 v40 H) λv41 H=> bo (ah v9 0) λv42=> bnd (ld v42 H) λv43 H=> bnd (unG H (C 52 [v43] H.guard)) λv44 H=> bnd (unG H (C 51 [v41,v44] H.guard)) λv45 H=> bo (fl v45 1) λv46=> bnd (lda 9 v9 H) λv47 H=> bnd (C 53 [v46,v47] H) λv48 H=>
  bo (bi .neq 58 v48 (I 0)) λv50=>
  aJ v50
  (some (v48,H))
  (bnd (C 33 [a0,a1] H) λv55 H=> bo (aF v55 0) λv56=> bo (aF v55 1) λv57=> bo (aF v55 2) λv58=> bnd (alc 90 [zP,zP] H) λv13 H=> bnd (st 2 v13 v56 H) λ_ H=>
   bo (ah v13 0) λv59=> bnd (ld v59 H) λv60 H=> bnd (C 54 [v60,v57] H) λv62 H=>
   some ((I 0),H))))
theorem aax(C:Callee)(a0 a1 a2 a3:AV)(H:aj){r:AV × aj}(h:WO C a0 a1 a2 a3 H=some r):bH Tryz.prog C 26 [a0,a1,a2,a3] H=some r:=
 rnK (A:=aph) (c:=apj) Tryz.func26 (by kernel_rfl) (by kernel_rfl) h
def apk:Ann:=⟨[],[],[]⟩
def apl:Code:=Tryz.f27.body.getD .skip
def O6(C:Callee)(a0 a1 a2:AV)(H:aj):OA:=
 bnd (C 55 [a0,a1,a2] H) λv11 H=>
 aJ v11
 (some ((I 1),H))
 (bnd (C 56 [a0,a1] H) λv15 H=>
  aJ v15
  (some ((I 2),H))
  (bnd (C 57 [a0,a1] H) λv19 H=>
  aJ v19
  (some ((I 3),H))
  (bnd (C 58 [a0,a1,a2] H) λv24 H=>
   aJ v24
   (some ((I 4),H))
   (some ((I 0),H)))))
theorem TW(C:Callee)(a0 a1 a2:AV)(H:aj){r:AV × aj}(h:O6 C a0 a1 a2 H=some r):bH Tryz.prog C 27 [a0,a1,a2] H=some r:=
 rnK (A:=apk) (c:=apl) Tryz.func27 (by kernel_rfl) (by kernel_rfl) h
def apm:Ann:=⟨[],[],[]⟩
def apn:Code:=Tryz.f28.body.getD .skip
def WQ(C:Callee)(a0:AV)(H:aj):OA:=
 bo (bi .eql 22 a0 (.s (Go.Value.slice none 0 0))) λv4=>
 aJ v4
 (some ((.s (Go.Value.slice none 0 0)),H))
 (bnd (bs 22 0 [] H) λv5 H=> bnd (app 3 1 8 v5 a0 H) λv7 H=>
  some (v7,H))
theorem aay(C:Callee)(a0:AV)(H:aj){r:AV × aj}(h:WQ C a0 H=some r):bH Tryz.prog C 28 [a0] H=some r:=
 rnK (A:=apm) (c:=apn) Tryz.func28 (by kernel_rfl) (by kernel_rfl) h
def aiG:Ann:=⟨[(4,[3,9,10,11])],[],[]⟩
def afn:Code:=Tryz.f29.body.getD .skip
def IY(C:Callee):List AV->aj->OA:=(dL Tryz.prog C aiG 24 afn (dH Tryz.prog 24 Tryz.f29.results.toList) (λ_ _ _=> none) (dH Tryz.prog 24 Tryz.f29.results.toList)).getD 0 λ_ _=> none
def aiH(C:Callee)(a0:AV)(H:aj):OA:=
 bo (au a0) λv7=> bo (ah v7 0) λv8=> bnd (ld v8 H) λv9 H=> bnd (lnS v9 H) λv10 H=>
 IY C [(.s (Go.Value.slice none 0 0)),v9,v10,(I 0)] H
theorem WR(C:Callee)(t3 t9 t10 t11:AV)(H:aj):IY C [t3,t9,t10,t11] H=
 bo (bi .lss 3 t11 t10) λv12=>
 aJ v12
 (bnd (ix 4 t9 t11 H) λv13 H=> bnd (lda 4 v13 H) λv14 H=> bnd (alc 132 [zP,zP,zP,zP] H) λv5 H=> bnd (st 4 v5 v14 H) λ_ H=>
  bo (ah v5 0) λv16=> bnd (lda 2 v16 H) λv17 H=> bo (ah v5 2) λv18=> bnd (lda 2 v18 H) λv19 H=> bnd (bs 85 2 [(0,v17),(1,v19)] H) λv20 H=> bnd (app 90 2 16 t3 v20 H) λv21 H=>
  bo (bi .add 3 t11 (I 1)) λv22=>
  IY C [v21,t9,t10,v22] H)
 (some (t3,H)):=
 (congrFun (congrFun (congrArg (λl=> l.getD 0 λ_ _=> none) (cO afn (dH Tryz.prog 24 Tryz.f29.results.toList) (λ_ _ _=> none) (dH Tryz.prog 24 Tryz.f29.results.toList))) [t3,t9,t10,t11]) H).trans (by kernel_rfl)
theorem apo(C:Callee)(a0:AV)(H:aj){r:AV × aj}(h:aiH C a0 H=some r):bH Tryz.prog C 29 [a0] H=some r:=
 rnK (A:=aiG) (c:=afn) Tryz.func29 (by kernel_rfl) (by kernel_rfl) h
def apq:Ann:=⟨[],[],[]⟩
def apr:Code:=Tryz.f30.body.getD .skip
def aiI(C:Callee)(a0:AV)(H:aj):OA:=
 bo (au a0) λv4=> bo (ah v4 0) λv5=> bnd (ld v5 H) λv6 H=> bnd (lnS v6 H) λv7 H=>
 some (v7,H)
theorem aps(C:Callee)(a0:AV)(H:aj){r:AV × aj}(h:aiI C a0 H=some r):bH Tryz.prog C 30 [a0] H=some r:=
 rnK (A:=apq) (c:=apr) Tryz.func30 (by kernel_rfl) (by kernel_rfl) h
def apt:Ann:=⟨[],[],[]⟩
def apu:Code:=Tryz.f31.body.getD .skip
def aaz(C:Callee)(a0:AV)(H:aj):OA:=
 bo (bi .eql 47 a0 (.s (Go.Value.slice none 0 0))) λv4=>
 aJ v4
 (some ((.s (Go.Value.slice none 0 0)),H))
 (bnd (bs 47 0 [] H) λv5 H=> bnd (app 63 4 32 v5 a0 H) λv7 H=>
  some (v7,H))
theorem afo(C:Callee)(a0:AV)(H:aj){r:AV × aj}(h:aaz C a0 H=some r):bH Tryz.prog C 31 [a0] H=some r:=
 rnK (A:=apt) (c:=apu) Tryz.func31 (by kernel_rfl) (by kernel_rfl) h
def apv:Ann:=⟨[],[(1,rF 12 [])],[]⟩
def apw:Code:=Tryz.f32.body.getD .skip
def aiJ(C:Callee)(a0:AV)(H:aj):OA:=
 bo (au a0) λv4=> bo (ah v4 0) λv5=> bnd (ld v5 H) λv6 H=> bnd (lnS v6 H) λv7 H=> bo (au a0) λv9=> bo (ah v9 1) λv10=> bnd (ld v10 H) λv11 H=> bnd (lnS v11 H) λv12 H=> bo (bi .sub 3 v7 v12) λv13=>
 some (v13,H)
theorem apx(C:Callee)(a0:AV)(H:aj){r:AV × aj}(h:aiJ C a0 H=some r):bH Tryz.prog C 32 [a0] H=some r:=
 rnK (A:=apv) (c:=apw) Tryz.func32 (by kernel_rfl) (by kernel_rfl) h
def aiK:Ann:=⟨[(3,[1,4,10,11,12])],[],[]⟩
def afp:Code:=Tryz.f33.body.getD .skip
def IZ(C:Callee):List AV->aj->OA:=(dL Tryz.prog C aiK 34 afp (dH Tryz.prog 34 Tryz.f33.results.toList) (λ_ _ _=> none) (dH Tryz.prog 34 Tryz.f33.results.toList)).getD 0 λ_ _=> none
def TY(C:Callee)(a0 a1:AV)(H:aj):OA:=
 bnd (alc 90 [zP,zP] H) λv4 H=>
 bnd (C 29 [a0] H) λv10 H=> bnd (lnS v10 H) λv11 H=>
 IZ C [a1,v4,v10,v11,(I 0)] H
theorem WS(C:Callee)(t1 t4 t10 t11 t12:AV)(H:aj):IZ C [t1,t4,t10,t11,t12] H=
 bo (bi .lss 3 t12 t11) λv13=>
 aJ v13
 (bnd (ix 2 t10 t12 H) λv14 H=> bnd (lda 2 v14 H) λv15 H=> bnd (alc 90 [zP,zP] H) λv8 H=> bnd (st 2 v8 v15 H) λ_ H=>
  bo (bi .geq 3 t1 (I 0)) λv17=> gdA (some v17) true (aC (some t1) H) H λv19 H=> gdA (some v17) true (aC (ah v8 0) H) H λv20 H=> gdA (some v17) true (ld v20 H) H λv21 H=> gdA (some v17) true (C 30 [v21] H) H λv22 H=> gdA (some v17) true (aC (bi .lss 3 v19 v22) H) H λv23 H=> bo (aV v17 v23 (B false)) λv24=>
  aJ v24
  (bnd (lda 2 v8 H) λv25 H=> bnd (st 2 t4 v25 H) λ_ H=>
  bnd (lda 2 t4 H) λr0 _=> some (.tup [r0,t1,(B true)],H))
  (bo (ah v8 0) λv28=> bnd (ld v28 H) λv29 H=> bnd (C 30 [v29] H) λv30 H=> bo (bi .sub 3 t1 v30) λv31=>
  bo (bi .add 3 t12 (I 1)) λv32=>
  IZ C [v31,t4,t10,t11,v32] H))
 (bo (bd 90 []) λv33=> bnd (st 2 t4 v33 H) λ_ H=>
  bnd (lda 2 t4 H) λr0 _=> some (.tup [r0,(I 0),(B false)],H)):=
 (congrFun (congrFun (congrArg (λl=> l.getD 0 λ_ _=> none) (cO afp (dH Tryz.prog 34 Tryz.f33.results.toList) (λ_ _ _=> none) (dH Tryz.prog 34 Tryz.f33.results.toList))) [t1,t4,t10,t11,t12]) H).trans (by kernel_rfl)
theorem apy(C:Callee)(a0 a1:AV)(H:aj){r:AV × aj}(h:TY C a0 a1 H=some r):bH Tryz.prog C 33 [a0,a1] H=some r:=
 rnK (A:=aiK) (c:=afp) Tryz.func33 (by kernel_rfl) (by kernel_rfl) h
def apA:Ann:=⟨[],[],[]⟩
def apB:Code:=Tryz.f34.body.getD .skip
def aaA(C:Callee)(a0 a1:AV)(H:aj):OA:=
 bnd (alc 51 [zI,zI,zI,zI,zI,zI,zI,zB,zN] H) λv4 H=>
 bo (bi .lss 3 a1 (I 0)) λv7=> gdA (some v7) false (aC (some a1) H) H λv9 H=> gdA (some v7) false (aC (some a0) H) H λv10 H=> gdA (some v7) false (aC (au v10) H) H λv11 H=> gdA (some v7) false (aC (ah v11 0) H) H λv12 H=> gdA (some v7) false (ld v12 H) H λv13 H=> gdA (some v7) false (lnS v13 H) H λv14 H=> gdA (some v7) false (aC (bi .geq 3 v9 v14) H) H λv15 H=> bo (aV v7 (B true) v15) λv16=>
 aJ v16
 (bo (bd 51 []) λv17=> bnd (st 9 v4 v17 H) λ_ H=>
  bnd (lda 9 v4 H) λr0 _=> some (.tup [r0,(B false)],H))
 (bo (au a0) λv19=> bo (ah v19 0) λv20=> bnd (ld v20 H) λv21 H=> bnd (ix 9 v21 a1 H) λv23 H=> bnd (lda 9 v23 H) λv24 H=> bnd (C 59 [v24] H) λv25 H=> bnd (st 9 v4 v25 H) λ_ H=>
  bnd (lda 9 v4 H) λr0 _=> some (.tup [r0,(B true)],H))
theorem apC(C:Callee)(a0 a1:AV)(H:aj){r:AV × aj}(h:aaA C a0 a1 H=some r):bH Tryz.prog C 34 [a0,a1] H=some r:=
 rnK (A:=apA) (c:=apB) Tryz.func34 (by kernel_rfl) (by kernel_rfl) h
def apD:Ann:=⟨[],[],[]⟩
def apE:Code:=Tryz.f35.body.getD .skip
def aaB(C:Callee)(a0:AV)(H:aj):OA:=
 bnd (eU 39 a0 H) λv1 H=>
 bo (ah v1 0) λv6=> bnd (ld v6 H) λv7 H=> bnd (C 60 [v7,(I 6)] H) λv8 H=> gdA (some v8) true (aC (ah v1 1) H) H λv10 H=> gdA (some v8) true (ld v10 H) H λv11 H=> gdA (some v8) true (C 60 [v11,(I 8)] H) H λv12 H=> bo (aV v8 v12 (B false)) λv13=> gdA (some v13) true (aC (ah v1 2) H) H λv15 H=> gdA (some v13) true (ld v15 H) H λv16 H=> gdA (some v13) true (C 60 [v16,(I 4)] H) H λv17 H=> bo (aV v13 v17 (B false)) λv18=>
 bo (ah v1 3) λv19=> bnd (ld v19 H) λv20 H=> bnd (C 60 [v20,(I 4)] H) λv21 H=> gdA (some v21) true (aC (ah v1 4) H) H λv23 H=> gdA (some v21) true (ld v23 H) H λv24 H=> gdA (some v21) true (C 60 [v24,(I 3)] H) H λv25 H=> bo (aV v21 v25 (B false)) λv26=>
 bo (ah v1 5) λv27=> bnd (ld v27 H) λv28 H=> bnd (C 60 [v28,(I 8)] H) λv29 H=> gdA (some v29) true (aC (ah v1 6) H) H λv31 H=> gdA (some v29) true (ld v31 H) H λv32 H=> gdA (some v29) true (C 60 [v32,(I 8)] H) H λv33 H=> bo (aV v29 v33 (B false)) λv34=>
 bo (un .not v18) λv36=> gdA (some v36) false (aC (some v26) H) H λv38 H=> gdA (some v36) false (aC (un .not v38) H) H λv39 H=> bo (aV v36 (B true) v39) λv40=> gdA (some v40) false (aC (some v34) H) H λv42 H=> gdA (some v40) false (aC (un .not v42) H) H λv43 H=> bo (aV v40 (B true) v43) λv44=> gdA (some v44) false (aC (ah v1 7) H) H λv46 H=> gdA (some v44) false (ld v46 H) H λv47 H=> gdA (some v44) false (lnS v47 H) H λv48 H=> gdA (some v44) false (aC (ah v1 1) H) H λv49 H=> gdA (some v44) false (ld v49 H) H λv50 H=> gdA (some v44) false (aC (ah v1 2) H) H λv51 H=> gdA (some v44) false (ld v51 H) H λv52 H=> gdA (some v44) false (aC (bi .mul 3 v50 v52) H) H λv53 H=> gdA (some v44) false (aC (bi .gtr 3 v48 v53) H) H λv54 H=> bo (aV v44 (B true) v54) λv55=>
 aJ v55
 (some ((I 1),H))
 (some ((I 0),H))
theorem aiL(C:Callee)(a0:AV)(H:aj){r:AV × aj}(h:aaB C a0 H=some r):bH Tryz.prog C 35 [a0] H=some r:=
 rnK (A:=apD) (c:=apE) Tryz.func35 (by kernel_rfl) (by kernel_rfl) h
def apF:Ann:=⟨[],[],[]⟩
def apG:Code:=Tryz.f36.body.getD .skip
def aaC(C:Callee)(a0 a1:AV)(H:aj):OA:=
 bnd (eU 39 a0 H) λv2 H=>
 bnd (C 61 [a1,(.fn (.func 62) [] [v2])] H) λv8 H=>
 gdA (some v8) false (aC (some a1) H) H λv11 H=> gdA (some v8) false (lnS v11 H) H λv12 H=> gdA (some v8) false (aC (ah v2 0) H) H λv13 H=> gdA (some v8) false (ld v13 H) H λv14 H=> gdA (some v8) false (aC (bi .neq 3 v12 v14) H) H λv15 H=> bo (aV v8 (B true) v15) λv16=>
 aJ v16
 (some ((I 1),H))
 (some ((I 0),H))
theorem apH(C:Callee)(a0 a1:AV)(H:aj){r:AV × aj}(h:aaC C a0 a1 H=some r):bH Tryz.prog C 36 [a0,a1] H=some r:=
 rnK (A:=apF) (c:=apG) Tryz.func36 (by kernel_rfl) (by kernel_rfl) h
def aiM:Ann:=⟨[(4,[1,3,7,8])],[(4,rF 7 (some true::some false::some false::some true::rF 3 (some true::some true::rF 7 [])))],[]⟩
def afq:Code:=Tryz.f37.body.getD .skip
def I4(C:Callee):List AV->aj->OA:=(dL Tryz.prog C aiM 34 afq (dH Tryz.prog 34 Tryz.f37.results.toList) (λ_ _ _=> none) (dH Tryz.prog 34 Tryz.f37.results.toList)).getD 0 λ_ _=> none
def aiN(C:Callee)(a0:AV)(H:aj):OA:=
 bnd (eU 39 a0 H) λv1 H=>
 bo (bd 135 []) λv4=> bnd (eU 135 v4 H) λv5 H=>
 bo (ah v1 0) λv6=> bnd (ld v6 H) λv7 H=>
 I4 C [v1,v5,v7,(I 0)] H
theorem WT(C:Callee)(t1 t3 t7 t8:AV)(H:aj):I4 C [t1,t3,t7,t8] H=
 bo (bi .lss 3 t8 t7) λv9=>
 aJ v9
 (bo (au t3) λv12=> bo (ah v12 0) λv13=> bnd (ld v13 H) λv14 H=> bo (ah t1 5) λv15=> bnd (ld v15 H) λv16 H=> bnd (unG H (C 66 [v16] H.guard)) λv17 H=> bo (ah t1 6) λv18=> bnd (ld v18 H) λv19 H=> bnd (unG H (C 67 [v19] H.guard)) λv20 H=> bo (bd 90 [(0,v17),(1,v20)]) λv21=> bo (ah t1 5) λv22=> bnd (ld v22 H) λv23 H=> bnd (unG H (C 66 [v23] H.guard)) λv24 H=> bnd (unG H (C 67 [(I 1)] H.guard)) λv25 H=> bo (bd 90 [(0,v24),(1,v25)]) λv26=> bo (bd 132 [(0,v21),(1,v26)]) λv27=> bnd (bs 133 1 [(0,v27)] H) λv28 H=> bnd (app 132 4 32 v14 v28 H) λv29 H=> bo (au t3) λv30=> bo (ah v30 0) λv31=> bnd (st 1 v31 v29 H) λ_ H=>
  bo (bi .add 3 t8 (I 1)) λv32=>
  I4 C [t1,t3,t7,v32] H)
 (some (t3,H)):=
 (congrFun (congrFun (congrArg (λl=> l.getD 0 λ_ _=> none) (cO afq (dH Tryz.prog 34 Tryz.f37.results.toList) (λ_ _ _=> none) (dH Tryz.prog 34 Tryz.f37.results.toList))) [t1,t3,t7,t8]) H).trans (by kernel_rfl)
theorem apI(C:Callee)(a0:AV)(H:aj){r:AV × aj}(h:aiN C a0 H=some r):bH Tryz.prog C 37 [a0] H=some r:=
 rnK (A:=aiM) (c:=afq) Tryz.func37 (by kernel_rfl) (by kernel_rfl) h
def apJ:Ann:=⟨[],[],[]⟩
def apK:Code:=Tryz.f38.body.getD .skip
def aiO(C:Callee)(H:aj):OA:=
 bo (bd 93 []) λv1=> bnd (eU 93 v1 H) λv2 H=>
 some (v2,H)
theorem apL(C:Callee)(H:aj){r:AV × aj}(h:aiO C H=some r):bH Tryz.prog C 38 [] H=some r:=
 rnK (A:=apJ) (c:=apK) Tryz.func38 (by kernel_rfl) (by kernel_rfl) h
def apM:Ann:=⟨[],[(1,rF 4 (some true::some false::some true::rF 4 (some true::rF 4 [])))],[]⟩
def apN:Code:=Tryz.f39.body.getD .skip
def aiP(C:Callee)(a0 a1 a2:AV)(H:aj):OA:=
 bnd (eU 39 a0 H) λv3 H=>
 bo (ah v3 3) λv7=> bnd (ld v7 H) λv8 H=> bo (ah v3 4) λv9=> bnd (ld v9 H) λv10 H=> bnd (unG H (C 68 [v8,v10] H.guard)) λv11 H=> bnd (unG H (C 69 [a2] H.guard)) λv13 H=> bnd (lda 8 v3 H) λv14 H=> bnd (lda 8 v3 H) λv16 H=> bnd (unG H (C 70 [v16,a1] H.guard)) λv18 H=> bo (bd 72 [(0,v18)]) λv19=> bo (bd 76 [(0,v11),(1,v13),(2,v14),(3,a1),(4,v19)]) λv20=> bnd (eU 76 v20 H) λv21 H=>
 some (v21,H)
theorem apO(C:Callee)(a0 a1 a2:AV)(H:aj){r:AV × aj}(h:aiP C a0 a1 a2 H=some r):bH Tryz.prog C 39 [a0,a1,a2] H=some r:=
 rnK (A:=apM) (c:=apN) Tryz.func39 (by kernel_rfl) (by kernel_rfl) h
def apP:Ann:=⟨[],[],[]⟩
def apQ:Code:=Tryz.f40.body.getD .skip
def WU(C:Callee)(a0:AV)(H:aj):OA:=
 bnd (alc 74 [zI,zI,zI,zI,zI,zI,zN,zI,zI] H) λv2 H=>
 bo (au a0) λv6=> bo (ah v6 12) λv7=> bo (ah v7 3) λv8=> bnd (ld v8 H) λv9 H=> bo (bi .eql 3 v9 (I 0)) λv10=>
 aJ v10
 (bo (bd 74 []) λv11=> bnd (st 9 v2 v11 H) λ_ H=>
  bnd (lda 9 v2 H) λr0 _=> some (.tup [r0,(B false)],H))
 (bo (au a0) λv13=> bo (ah v13 12) λv14=> bnd (lda 9 v14 H) λv15 H=> bnd (alc 74 [zI,zI,zI,zI,zI,zI,zN,zI,zI] H) λv4 H=> bnd (st 9 v4 v15 H) λ_ H=>
  bo (ah v4 6) λv16=> bnd (ld v16 H) λv17 H=> bnd (app 3 1 8 (.s (Go.Value.slice none 0 0)) v17 H) λv18 H=> bo (ah v4 6) λv19=> bnd (st 1 v19 v18 H) λ_ H=>
  bnd (lda 9 v4 H) λv20 H=> bnd (st 9 v2 v20 H) λ_ H=>
  bnd (lda 9 v2 H) λr0 _=> some (.tup [r0,(B true)],H))
theorem afr(C:Callee)(a0:AV)(H:aj){r:AV × aj}(h:WU C a0 H=some r):bH Tryz.prog C 40 [a0] H=some r:=
 rnK (A:=apP) (c:=apQ) Tryz.func40 (by kernel_rfl) (by kernel_rfl) h
def apR:Ann:=⟨[],[(3,rF 9 (some true::rF 12 []))],[]⟩
def apS:Code:=Tryz.f41.body.getD .skip
def afs(C:Callee)(a0 a1:AV)(H:aj):OA:=
 bnd (C 71 [a0,a1] H) λv8 H=> bo (un .not v8) λv9=>
 aJ v9
 (some (.tup [(I 0),(I 0)],H))
 (bo (au a0) λv11=> bo (ah v11 0) λv12=> bnd (ld v12 H) λv13 H=> bnd (ix 4 v13 a1 H) λv15 H=> bo (ah v15 0) λv16=> bo (ah v16 1) λv17=> bnd (ld v17 H) λv18 H=> bnd (unG H (C 72 [v18] H.guard)) λv19 H=> bo (au a0) λv21=> bo (ah v21 0) λv22=> bnd (ld v22 H) λv23 H=> bnd (ix 4 v23 a1 H) λv25 H=> bo (ah v25 2) λv26=> bo (ah v26 1) λv27=> bnd (ld v27 H) λv28 H=> bnd (C 72 [v28] H) λv29 H=>
  some (.tup [v19,v29],H))
theorem apT(C:Callee)(a0 a1:AV)(H:aj){r:AV × aj}(h:afs C a0 a1 H=some r):bH Tryz.prog C 41 [a0,a1] H=some r:=
 rnK (A:=apR) (c:=apS) Tryz.func41 (by kernel_rfl) (by kernel_rfl) h
def apU:Ann:=⟨[],[],[]⟩
def apV:Code:=Tryz.f42.body.getD .skip
def aiQ(C:Callee)(a0:AV)(H:aj):OA:=
 bo (au a0) λv4=> bo (ah v4 2) λv5=> bnd (ld v5 H) λv6 H=>
 some (v6,H)
theorem apW(C:Callee)(a0:AV)(H:aj){r:AV × aj}(h:aiQ C a0 H=some r):bH Tryz.prog C 42 [a0] H=some r:=
 rnK (A:=apU) (c:=apV) Tryz.func42 (by kernel_rfl) (by kernel_rfl) h
def apX:Ann:=⟨[],[],[]⟩
def apY:Code:=Tryz.f44.body.getD .skip
def aiR(C:Callee)(a0 a1:AV)(H:aj):OA:=
 bnd (lnS a0 H) λv7 H=> bnd (aC (ji Tryz.prog false #[3,3] 3 [v7,a1]) H) λv9 H=> bo (slS 1 a0 none (some v9) none) λv10=> bnd (C 75 [v10] H) λv11 H=>
 some (v11,H)
theorem apZ(C:Callee)(a0 a1:AV)(H:aj){r:AV × aj}(h:aiR C a0 a1 H=some r):bH Tryz.prog C 44 [a0,a1] H=some r:=
 rnK (A:=apX) (c:=apY) Tryz.func44 (by kernel_rfl) (by kernel_rfl) h
def ap0:Ann:=⟨[],[],[]⟩
def ap1:Code:=Tryz.f45.body.getD .skip
def afu(C:Callee)(a0 a1:AV)(H:aj):OA:=
 bnd (lnS a0 H) λv7 H=> bo (bi .lss 3 a1 v7) λv8=>
 aJ v8
 (bnd (ix 1 a0 a1 H) λv11 H=> bnd (ld v11 H) λv12 H=>
  some (v12,H))
 (some ((I 0),H))
theorem ap2(C:Callee)(a0 a1:AV)(H:aj){r:AV × aj}(h:afu C a0 a1 H=some r):bH Tryz.prog C 45 [a0,a1] H=some r:=
 rnK (A:=ap0) (c:=ap1) Tryz.func45 (by kernel_rfl) (by kernel_rfl) h
def ap3:Ann:=⟨[],[],[]⟩
def ap4:Code:=Tryz.f46.body.getD .skip
def I5(C:Callee)(a0:AV)(H:aj):OA:=
 bnd (eU 39 a0 H) λv1 H=>
 bo (ah v1 0) λv3=> bnd (ld v3 H) λv4 H=> bnd (C 76 [v4,(I 6)] H) λv5 H=> gdA (some v5) true (aC (ah v1 1) H) H λv7 H=> gdA (some v5) true (ld v7 H) H λv8 H=> gdA (some v5) true (C 76 [v8,(I 8)] H) H λv9 H=> bo (aV v5 v9 (B false)) λv10=> gdA (some v10) true (aC (ah v1 2) H) H λv12 H=> gdA (some v10) true (ld v12 H) H λv13 H=> gdA (some v10) true (C 76 [v13,(I 4)] H) H λv14 H=> bo (aV v10 v14 (B false)) λv15=> gdA (some v15) true (aC (ah v1 3) H) H λv17 H=> gdA (some v15) true (ld v17 H) H λv18 H=> gdA (some v15) true (C 76 [v18,(I 4)] H) H λv19 H=> bo (aV v15 v19 (B false)) λv20=> gdA (some v20) true (aC (ah v1 4) H) H λv22 H=> gdA (some v20) true (ld v22 H) H λv23 H=> gdA (some v20) true (C 76 [v23,(I 3)] H) H λv24 H=> bo (aV v20 v24 (B false)) λv25=> gdA (some v25) true (aC (ah v1 5) H) H λv27 H=> gdA (some v25) true (ld v27 H) H λv28 H=> gdA (some v25) true (C 76 [v28,(I 8)] H) H λv29 H=> bo (aV v25 v29 (B false)) λv30=> gdA (some v30) true (aC (ah v1 6) H) H λv32 H=> gdA (some v30) true (ld v32 H) H λv33 H=> gdA (some v30) true (C 76 [v33,(I 8)] H) H λv34 H=> bo (aV v30 v34 (B false)) λv35=> gdA (some v35) true (aC (ah v1 7) H) H λv37 H=> gdA (some v35) true (ld v37 H) H λv38 H=> gdA (some v35) true (lnS v38 H) H λv39 H=> gdA (some v35) true (aC (ah v1 1) H) H λv40 H=> gdA (some v35) true (ld v40 H) H λv41 H=> gdA (some v35) true (aC (ah v1 2) H) H λv42 H=> gdA (some v35) true (ld v42 H) H λv43 H=> gdA (some v35) true (aC (bi .mul 3 v41 v43) H) H λv44 H=> gdA (some v35) true (aC (bi .leq 3 v39 v44) H) H λv45 H=> bo (aV v35 v45 (B false)) λv46=>
 some (v46,H)
theorem ap5(C:Callee)(a0:AV)(H:aj){r:AV × aj}(h:I5 C a0 H=some r):bH Tryz.prog C 46 [a0] H=some r:=
 rnK (A:=ap3) (c:=ap4) Tryz.func46 (by kernel_rfl) (by kernel_rfl) h
def afv:Ann:=⟨[(5,[2,14,15,16]),(10,[2,14,15,16,23,24,25])],[],[]⟩
def WV:Code:=Tryz.f47.body.getD .skip
def zq(C:Callee):List AV->aj->OA:=(dL Tryz.prog C afv 35 WV (dH Tryz.prog 35 Tryz.f47.results.toList) (λ_ _ _=> none) (dH Tryz.prog 35 Tryz.f47.results.toList)).getD 0 λ_ _=> none
def uf(C:Callee):List AV->aj->OA:=(dL Tryz.prog C afv 35 WV (dH Tryz.prog 35 Tryz.f47.results.toList) (λ_ _ _=> none) (dH Tryz.prog 35 Tryz.f47.results.toList)).getD 1 λ_ _=> none
def afw(C:Callee)(a0 a1:AV)(H:aj):OA:=
 bnd (eU 39 a0 H) λv2 H=>
 bnd (lnS a1 H) λv10 H=> bo (ah v2 0) λv11=> bnd (ld v11 H) λv12 H=> bo (bi .neq 3 v10 v12) λv13=>
 aJ v13
 (some ((B false),H))
 (bnd (lnS a1 H) λv15 H=>
  zq C [v2,a1,v15,(I 0)] H)
theorem I7(C:Callee)(t2 t14 t15 t16:AV)(H:aj):zq C [t2,t14,t15,t16] H=
 bo (bi .lss 3 t16 t15) λv17=>
 aJ v17
 (bnd (ix 1 t14 t16 H) λv18 H=> bnd (ld v18 H) λv19 H=>
  bnd (lnS v19 H) λv21 H=> bo (bi .gtr 3 v21 (I 24)) λv22=>
  aJ v22
  (some ((B false),H))
  (bnd (lnS v19 H) λv24 H=>
  uf C [t2,t14,t15,t16,v19,v24,(I 0)] H))
 (some ((B true),H)):=
 (congrFun (congrFun (congrArg (λl=> l.getD 0 λ_ _=> none) (cO WV (dH Tryz.prog 35 Tryz.f47.results.toList) (λ_ _ _=> none) (dH Tryz.prog 35 Tryz.f47.results.toList))) [t2,t14,t15,t16]) H).trans (by kernel_rfl)
theorem O7(C:Callee)(t2 t14 t15 t16 t23 t24 t25:AV)(H:aj):uf C [t2,t14,t15,t16,t23,t24,t25] H=
 bo (bi .lss 3 t25 t24) λv26=>
 aJ v26
 (bnd (ix 3 t23 t25 H) λv27 H=> bnd (lda 3 v27 H) λv28 H=> bnd (alc 119 [zI,zI,zI] H) λv8 H=> bnd (st 3 v8 v28 H) λ_ H=>
  bnd (lda 8 t2 H) λv29 H=> bnd (lda 3 v8 H) λv30 H=> bnd (C 77 [v29,v30] H) λv31 H=> bo (un .not v31) λv32=>
  aJ v32
  (some ((B false),H))
  (bo (bi .add 3 t25 (I 1)) λv33=>
  uf C [t2,t14,t15,t16,t23,t24,v33] H))
 (bo (bi .add 3 t16 (I 1)) λv34=>
  zq C [t2,t14,t15,v34] H):=
 (congrFun (congrFun (congrArg (λl=> l.getD 1 λ_ _=> none) (cO WV (dH Tryz.prog 35 Tryz.f47.results.toList) (λ_ _ _=> none) (dH Tryz.prog 35 Tryz.f47.results.toList))) [t2,t14,t15,t16,t23,t24,t25]) H).trans (by kernel_rfl)
theorem ap6(C:Callee)(a0 a1:AV)(H:aj){r:AV × aj}(h:afw C a0 a1 H=some r):bH Tryz.prog C 47 [a0,a1] H=some r:=
 rnK (A:=afv) (c:=WV) Tryz.func47 (by kernel_rfl) (by kernel_rfl) h
def ap7:Ann:=⟨[],[(1,rF 7 [])],[]⟩
def ap8:Code:=Tryz.f48.body.getD .skip
def aiS(C:Callee)(a0:AV)(H:aj):OA:=
 bnd (eU 39 a0 H) λv1 H=>
 bnd (lda 8 v1 H) λv3 H=> bo (ah v1 0) λv4=> bnd (ld v4 H) λv5 H=> bnd (mks 319 4 96 [zN,zN,zN,zN] v5 v5 H) λv6 H=> bo (bd 161 [(0,v3),(1,v6)]) λv7=> bnd (eU 161 v7 H) λv8 H=>
 some (v8,H)
theorem ap9(C:Callee)(a0:AV)(H:aj){r:AV × aj}(h:aiS C a0 H=some r):bH Tryz.prog C 48 [a0] H=some r:=
 rnK (A:=ap7) (c:=ap8) Tryz.func48 (by kernel_rfl) (by kernel_rfl) h
def aqa:Ann:=⟨[],[(1,rF 6 (some true::some false::some false::some true::rF 5 []))],[(1,[(0,11)])]⟩
def aqb:Code:=Tryz.f49.body.getD .skip
def aiT(C:Callee)(a0 a1 a2:AV)(H:aj):OA:=
 bnd (eU 39 a0 H) λv3 H=>
 bnd (lda 8 v3 H) λv7 H0=> bo (ah v3 3) λv9=> bnd (ld v9 H0) λv10 H3=> bo (ah v3 4) λv11=> bnd (ld v11 H3) λv12 H5=> bnd (unG H5 (C 78 [v10,v12] H5.guard)) λv13 H6=> bnd (lda 8 v3 H6) λv14 H7=> bnd (unG H7 (C 79 [v14,a1] H7.guard)) λv16 H9=> bnd (app 119 3 24 (.s (Go.Value.slice none 0 0)) a2 H9) λv18 H11=> bo (bd 168 [(0,v7),(1,a1),(2,v13),(3,v16),(4,v18)]) λv19=> bnd (eU 168 v19 H11) λv20 H13=> ck (aU v3) H9 H11 <|
 some (v20,H13)
theorem aqc(C:Callee)(a0 a1 a2:AV)(H:aj){r:AV × aj}(h:aiT C a0 a1 a2 H=some r):bH Tryz.prog C 49 [a0,a1,a2] H=some r:=
 rnK (A:=aqa) (c:=aqb) Tryz.func49 (by kernel_rfl) (by kernel_rfl) h
def aqd:Ann:=⟨[],[],[]⟩
def aqe:Code:=Tryz.f50.body.getD .skip
def afx(C:Callee)(a0 a1 a2:AV)(H:aj):OA:=
 bnd (eU 51 a0 H) λv3 H=> bnd (alc 51 [zI,zI,zI,zI,zI,zI,zI,zB,zN] H) λv6 H=>
 bnd (lda 9 v3 H) λv11 H=> bnd (C 80 [v11] H) λv12 H=> bo (aF v12 0) λv13=> bo (aF v12 1) λv14=>
 bo (bi .neq 58 v14 (I 0)) λv16=>
 aJ v16
 (bo (bd 51 []) λv17=> bnd (st 9 v6 v17 H) λ_ H=>
  bnd (lda 9 v6 H) λr0 _=> some (.tup [r0,(I 2)],H))
 (bnd (C 82 [v13,a1,a2] H) λv21 H=> bnd (C 81 [v21] H) λv22 H=> bo (aF v22 0) λv23=> bo (aF v22 1) λv24=> bnd (st 9 v6 v23 H) λ_ H=>
  bnd (lda 9 v6 H) λr0 _=> some (.tup [r0,v24],H))
theorem aiU(C:Callee)(a0 a1 a2:AV)(H:aj){r:AV × aj}(h:afx C a0 a1 a2 H=some r):bH Tryz.prog C 50 [a0,a1,a2] H=some r:=
 rnK (A:=aqd) (c:=aqe) Tryz.func50 (by kernel_rfl) (by kernel_rfl) h
def aqf:Ann:=⟨[],[],[]⟩
def aqg:Code:=Tryz.f51.body.getD .skip
def afy(C:Callee)(a0 a1:AV)(H:aj):OA:=
 bnd (eU 132 a0 H) λv2 H=> bnd (alc 90 [zP,zP] H) λv4 H=>
 aJ a1
 (bo (ah v2 0) λv6=> bnd (lda 2 v6 H) λv7 H=> bnd (st 2 v4 v7 H) λ_ H=>
  bnd (lda 2 v4 H) λr0 _=> some (r0,H))
 (bo (ah v2 2) λv8=> bnd (lda 2 v8 H) λv9 H=> bnd (st 2 v4 v9 H) λ_ H=>
  bnd (lda 2 v4 H) λr0 _=> some (r0,H))
theorem aqh(C:Callee)(a0 a1:AV)(H:aj){r:AV × aj}(h:afy C a0 a1 H=some r):bH Tryz.prog C 51 [a0,a1] H=some r:=
 rnK (A:=aqf) (c:=aqg) Tryz.func51 (by kernel_rfl) (by kernel_rfl) h
def aqi:Ann:=⟨[],[],[]⟩
def aqj:Code:=Tryz.f52.body.getD .skip
def afz(C:Callee)(a0:AV)(H:aj):OA:=
 bo (bi .geq 3 a0 (I 1)) λv4=> gdA (some v4) true (aC (some a0) H) H λv6 H=> gdA (some v4) true (aC (bi .leq 3 v6 (I 6)) H) H λv7 H=> bo (aV v4 v7 (B false)) λv8=>
 some (v8,H)
theorem aqk(C:Callee)(a0:AV)(H:aj){r:AV × aj}(h:afz C a0 H=some r):bH Tryz.prog C 52 [a0] H=some r:=
 rnK (A:=aqi) (c:=aqj) Tryz.func52 (by kernel_rfl) (by kernel_rfl) h
def aql:Ann:=⟨[],[(3,rF 6 (some true::rF 5 []))],[]⟩
def aqm:Code:=Tryz.f53.body.getD .skip
def afA(C:Callee)(a0 a1:AV)(H:aj):OA:=
 bnd (eU 51 a1 H) λv3 H=>
 bnd (C 83 [a0] H) λv6 H=> bo (bi .eql 3 v6 (I 0)) λv7=>
 aJ v7
 (some ((I 5),H))
 (bo (au a0) λv10=> bo (ah v10 0) λv11=> bnd (ld v11 H) λv12 H=> bnd (lda 9 v3 H) λv13 H=> bnd (unG H (C 84 [v13] H.guard)) λv14 H=> bnd (bs 141 1 [(0,v14)] H) λv15 H=> bnd (app 51 9 88 v12 v15 H) λv16 H=> bo (au a0) λv17=> bo (ah v17 0) λv18=> bnd (st 1 v18 v16 H) λ_ H=>
  some ((I 0),H))
theorem aiV(C:Callee)(a0 a1:AV)(H:aj){r:AV × aj}(h:afA C a0 a1 H=some r):bH Tryz.prog C 53 [a0,a1] H=some r:=
 rnK (A:=aql) (c:=aqm) Tryz.func53 (by kernel_rfl) (by kernel_rfl) h
def aqn:Ann:=⟨[],[],[]⟩
def aqo:Code:=Tryz.f54.body.getD .skip
def O8(C:Callee)(t4 t6 t7:AV)(H:aj):OA:=
 bnd (lda 9 t6 H) λv26 H=> bnd (st 9 t4 v26 H) λ_ H=>
 bnd (lda 9 t4 H) λr0 _=> some (.tup [r0,t7],H)
def aiW(C:Callee)(a0 a1:AV)(H:aj):OA:=
 bnd (alc 51 [zI,zI,zI,zI,zI,zI,zI,zB,zN] H) λv4 H=>
 bnd (C 34 [a0,a1] H) λv11 H=> bo (aF v11 0) λv12=> bo (aF v11 1) λv13=> bnd (alc 51 [zI,zI,zI,zI,zI,zI,zI,zB,zN] H) λv6 H=> bnd (st 9 v6 v12 H) λ_ H=>
 aJ v13
 (bo (au a0) λv17=> bo (ah v17 0) λv18=> bnd (ld v18 H) λv19 H=> bo (bi .add 3 a1 (I 1)) λv22=> bnd (C 85 [v19,a1,v22] H) λv23 H=> bo (au a0) λv24=> bo (ah v24 0) λv25=> bnd (st 1 v25 v23 H) λ_ H=>
  O8 C v4 v6 v13 H)
 (O8 C v4 v6 v13 H)
theorem aqp(C:Callee)(a0 a1:AV)(H:aj){r:AV × aj}(h:aiW C a0 a1 H=some r):bH Tryz.prog C 54 [a0,a1] H=some r:=
 rnK (A:=aqn) (c:=aqo) Tryz.func54 (by kernel_rfl) (by kernel_rfl) h
def aqr:Ann:=⟨[],[],[]⟩
def aqs:Code:=Tryz.f55.body.getD .skip
def Ec(C:Callee)(t0 t1:AV)(H:aj):OA:=
 bnd (C 91 [t0,t1] H) λv81 H=>
 some ((B true),H)
def I8(C:Callee)(a0 a1 a2:AV)(H:aj):OA:=
 bo (au a0) λv17=> bo (ah v17 10) λv18=> bnd (ld v18 H) λv19 H=> bnd (C 86 [a1,v19] H) λv20 H=> bo (aF v20 0) λv21=> bo (aF v20 1) λv22=> bnd (alc 51 [zI,zI,zI,zI,zI,zI,zI,zB,zN] H) λv7 H=> bnd (st 9 v7 v21 H) λ_ H=>
 bo (un .not v22) λv24=>
 aJ v24
 (some ((B false),H))
 (bnd (lda 9 v7 H) λv27 H=> bnd (C 87 [a0,v27] H) λv28 H=> bo (aF v28 0) λv29=> bo (aF v28 1) λv30=> bnd (alc 74 [zI,zI,zI,zI,zI,zI,zN,zI,zI] H) λv9 H=> bnd (st 9 v9 v29 H) λ_ H=>
  bo (un .not v30) λv32=>
  aJ v32
  (some ((B true),H))
  (bnd (lda 9 v9 H) λv34 H=> bo (au a0) λv35=> bo (ah v35 12) λv36=> bnd (st 9 v36 v34 H) λ_ H=>
  bo (au a0) λv39=> bo (ah v39 1) λv40=> bnd (ld v40 H) λv41 H=> bnd (C 88 [v41] H) λv42 H=> bo (aF v42 0) λv43=> bo (aF v42 1) λv44=> bo (aF v42 2) λv45=> bnd (alc 119 [zI,zI,zI] H) λv11 H=> bnd (st 3 v11 v43 H) λ_ H=>
  bo (ah v9 3) λv47=> bnd (ld v47 H) λv48 H=> bo (bi .eql 3 v48 (I 0)) λv49=> gdA (some v49) true (aC (ah v9 0) H) H λv51 H=> gdA (some v49) true (ld v51 H) H λv52 H=> gdA (some v49) true (aC (bi .eql 3 v52 (I 3)) H) H λv53 H=> bo (aV v49 v53 (B false)) λv54=> gdA (some v54) true (aC (ah v11 0) H) H λv56 H=> gdA (some v54) true (ld v56 H) H λv57 H=> gdA (some v54) true (aC (bi .eql 3 v57 (I 4)) H) H λv58 H=> bo (aV v54 v58 (B false)) λv59=>
  aJ v59
  (bnd (C 89 [a0,a2,(I 0)] H) λv62 H=>
   some ((B true),H))
  (bo (ah v9 3) λv64=> bnd (ld v64 H) λv65 H=> bo (bi .eql 3 v65 (I 0)) λv66=>
   aJ v66
   (some ((B true),H))
   (bo (ah v9 3) λv68=> bnd (ld v68 H) λv69 H=> bo (bi .eql 3 v69 (I 6)) λv70=> gdA (some v70) true (aC (ah v9 0) H) H λv72 H=> gdA (some v70) true (ld v72 H) H λv73 H=> gdA (some v70) true (aC (bi .neq 3 v73 (I 3)) H) H λv74 H=> bo (aV v70 v74 (B false)) λv75=>
   aJ v75
   (bnd (C 90 [a0,a2] H) λv78 H=>
    Ec C a0 a1 H)
   (Ec C a0 a1 H)))))
theorem Ua(C:Callee)(a0 a1 a2:AV)(H:aj){r:AV × aj}(h:I8 C a0 a1 a2 H=some r):bH Tryz.prog C 55 [a0,a1,a2] H=some r:=
 rnK (A:=aqr) (c:=aqs) Tryz.func55 (by kernel_rfl) (by kernel_rfl) h
def aqt:Ann:=⟨[],[],[]⟩
def aqu:Code:=Tryz.f56.body.getD .skip
def aaD(C:Callee)(a0 a1:AV)(H:aj):OA:=
 bo (au a0) λv8=> bo (ah v8 11) λv9=> bo (ah v9 0) λv10=> bnd (ld v10 H) λv11 H=> bnd (C 92 [v11] H) λv12 H=> bo (un .not v12) λv13=> gdA (some v13) false (aC (some a1) H) H λv15 H=> gdA (some v13) false (aC (some a0) H) H λv16 H=> gdA (some v13) false (aC (au v16) H) H λv17 H=> gdA (some v13) false (aC (ah v17 10) H) H λv18 H=> gdA (some v13) false (ld v18 H) H λv19 H=> gdA (some v13) false (C 93 [v15,v19,(B false)] H) H λv20 H=> gdA (some v13) false (aC (bi .eql 3 v20 (I 0)) H) H λv21 H=> bo (aV v13 (B true) v21) λv22=>
 aJ v22
 (some ((B false),H))
 (bo (au a0) λv25=> bo (ah v25 11) λv26=> bo (ah v26 0) λv27=> bnd (ld v27 H) λv28 H=> bnd (C 94 [v28] H) λv29 H=> bo (aF v29 0) λv30=> bo (aF v29 1) λv31=> bnd (alc 51 [zI,zI,zI,zI,zI,zI,zI,zB,zN] H) λv5 H=> bnd (st 9 v5 v30 H) λ_ H=>
  bnd (lda 9 v5 H) λv33 H=> bnd (C 95 [a1,v33] H) λv34 H=>
  some ((B true),H))
theorem afB(C:Callee)(a0 a1:AV)(H:aj){r:AV × aj}(h:aaD C a0 a1 H=some r):bH Tryz.prog C 56 [a0,a1] H=some r:=
 rnK (A:=aqt) (c:=aqu) Tryz.func56 (by kernel_rfl) (by kernel_rfl) h
def aqv:Ann:=⟨[],[],[]⟩
def aqw:Code:=Tryz.f57.body.getD .skip
def I9(C:Callee)(H:aj):OA:=
 some ((B true),H)
def WW(C:Callee)(a0 a1:AV)(H:aj):OA:=
 bo (au a0) λv11=> bo (ah v11 10) λv12=> bnd (ld v12 H) λv13 H=> bnd (C 93 [a1,v13,(B false)] H) λv14 H=> bo (bi .eql 3 v14 (I 0)) λv15=>
 aJ v15
 (some ((B false),H))
 (bo (au a0) λv19=> bo (ah v19 10) λv20=> bnd (ld v20 H) λv21 H=> bnd (C 96 [a1,v21] H) λv22 H=> bo (aF v22 0) λv23=> bo (aF v22 1) λv24=> bnd (alc 51 [zI,zI,zI,zI,zI,zI,zI,zB,zN] H) λv5 H=> bnd (st 9 v5 v23 H) λ_ H=>
  bo (un .not v24) λv26=>
  aJ v26
  (some ((B false),H))
  (bnd (lda 9 v5 H) λv29 H=> bnd (C 97 [a0,v29] H) λv30 H=> bo (aF v30 0) λv31=> bo (aF v30 1) λv32=> bnd (alc 51 [zI,zI,zI,zI,zI,zI,zI,zB,zN] H) λv7 H=> bnd (st 9 v7 v31 H) λ_ H=>
  aJ v32
  (bnd (lda 9 v7 H) λv35 H=> bnd (C 95 [a1,v35] H) λv36 H=>
   I9 C H)
  (I9 C H)))
theorem aaE(C:Callee)(a0 a1:AV)(H:aj){r:AV × aj}(h:WW C a0 a1 H=some r):bH Tryz.prog C 57 [a0,a1] H=some r:=
 rnK (A:=aqv) (c:=aqw) Tryz.func57 (by kernel_rfl) (by kernel_rfl) h
def aqx:Ann:=⟨[],[(7,rF 12 [])],[]⟩
def aqy:Code:=Tryz.f58.body.getD .skip
def kG(C:Callee)(H:aj):OA:=
 some ((B true),H)
def mX(C:Callee)(t0 t1 t2 t7:AV)(H:aj):OA:=
 bo (au t0) λv55=> bo (ah v55 2) λv56=> bnd (lda 8 v56 H) λv57 H=> bo (ah t7 1) λv58=> bnd (ld v58 H) λv59 H=> bnd (C 100 [v57,v59] H) λv60 H=> bo (aF v60 0) λv61=> bo (aF v60 1) λv62=>
 bo (au t0) λv65=> bo (ah v65 0) λv66=> bnd (ld v66 H) λv67 H=> bnd (C 101 [v67,v61] H) λv69 H=> bo (aF v69 0) λv70=> bo (aF v69 1) λv71=> bnd (alc 112 [zI,zI,zI,zI,zB,zN] H) λv12 H=> bnd (st 6 v12 v70 H) λ_ H=>
 bo (ah t7 0) λv77=> bnd (ld v77 H) λv78 H=> bo (bi .eql 3 v78 (I 4)) λv79=> gdA (some v79) true (aC (some v71) H) H λv81 H=> gdA (some v79) true (aC (un .not v81) H) H λv82 H=> bo (aV v79 v82 (B false)) λv83=>
 aJ v83
 (bnd (C 89 [t0,t2,(I 0)] H) λv86 H=>
  kG C H)
 (bo (ah t7 0) λv88=> bnd (ld v88 H) λv89 H=> bo (bi .eql 3 v89 (I 4)) λv90=>
  aJ v90
  (bnd (C 102 [t0,t1,(I 3),v61] H) λv94 H=>
  kG C H)
  (gdA (some v71) true (aC (ah t7 0) H) H λv98 H=> gdA (some v71) true (ld v98 H) H λv99 H=> gdA (some v71) true (aC (bi .eql 3 v99 (I 1)) H) H λaqz H=> gdA (some v71) true (aC (some aqz) H) H λaiX H=> gdA (some aiX) false (aC (ah v12 4) H) H λail H=> gdA (some aiX) false (ld ail H) H λaio H=> gdA (some v71) true (aC (aV aiX (B true) aio) H) H λaip H=> bo (aV v71 aip (B false)) λv105=>
  aJ v105
  (bo (au t0) λv107=> bo (ah v107 0) λaiq=> bnd (ld aiq H) λv109 H=> bnd (C 103 [v109,v61] H) λauG H=>
   bnd (C 90 [t0,t2] H) λas7 H=>
   kG C H)
  (bo (au t0) λv117=> bo (ah v117 0) λaoM=> bnd (ld aoM H) λaoN H=> bnd (C 104 [aoN,v61] H) λaua H=>
   aJ aua
   (bo (au t0) λv124=> bo (ah v124 0) λaoO=> bnd (ld aoO H) λaub H=> bnd (C 105 [aub,v61] H) λan8 H=> bo (aF an8 0) λaoP=> bo (aF an8 1) λv130=>
   bnd (C 102 [t0,t1,(I 3),aoP] H) λas8 H=>
   kG C H)
   (bo (ah t7 0) λaoQ=> bnd (ld aoQ H) λaoR H=> bo (bi .eql 3 aoR (I 1)) λv138=>
   aJ v138
   (bnd (C 102 [t0,t1,(I 1),v61] H) λas9 H=>
    kG C H)
   (bnd (C 102 [t0,t1,(I 2),v61] H) λv75 H=>
    kG C H)))))
def WX(C:Callee)(a0 a1 a2:AV)(H:aj):OA:=
 bo (au a0) λv18=> bo (ah v18 1) λv19=> bnd (ld v19 H) λv20 H=> bnd (C 88 [v20] H) λv21 H=> bo (aF v21 0) λv22=> bo (aF v21 1) λv23=> bo (aF v21 2) λv24=> bnd (alc 119 [zI,zI,zI] H) λv7 H=> bnd (st 3 v7 v22 H) λ_ H=>
 bo (un .not v24) λv26=> gdA (some v26) false (aC (some a0) H) H λv28 H=> gdA (some v26) false (aC (au v28) H) H λv29 H=> gdA (some v26) false (aC (ah v29 12) H) H λv30 H=> gdA (some v26) false (aC (ah v30 3) H) H λv31 H=> gdA (some v26) false (ld v31 H) H λv32 H=> gdA (some v26) false (aC (bi .neq 3 v32 (I 0)) H) H λv33 H=> bo (aV v26 (B true) v33) λv34=>
 aJ v34
 (some ((B false),H))
 (bo (au a0) λv36=> bo (ah v36 1) λv37=> bnd (ld v37 H) λv38 H=> bnd (C 42 [v38] H) λv39 H=> bo (un .not v39) λv40=>
  aJ v40
  (bo (au a0) λv42=> bo (ah v42 1) λv43=> bnd (ld v43 H) λv44 H=> bnd (C 98 [v44] H) λv45 H=>
  bo (au a0) λv48=> bo (ah v48 10) λv49=> bnd (ld v49 H) λv50 H=> bnd (C 99 [a2,v50,v23] H) λv52 H=>
  mX C a0 a1 a2 v7 H)
  (mX C a0 a1 a2 v7 H))
theorem aaF(C:Callee)(a0 a1 a2:AV)(H:aj){r:AV × aj}(h:WX C a0 a1 a2 H=some r):bH Tryz.prog C 58 [a0,a1,a2] H=some r:=
 rnK (A:=aqx) (c:=aqy) Tryz.func58 (by kernel_rfl) (by kernel_rfl) h
def aqA:Ann:=⟨[],[],[]⟩
def aqB:Code:=Tryz.f59.body.getD .skip
def aiY(C:Callee)(a0:AV)(H:aj):OA:=
 bnd (eU 51 a0 H) λv1 H=> bnd (alc 51 [zI,zI,zI,zI,zI,zI,zI,zB,zN] H) λv2 H=>
 bo (ah v1 8) λv3=> bnd (ld v3 H) λv4 H=> bnd (C 28 [v4] H) λv5 H=> bo (ah v1 8) λv6=> bnd (st 1 v6 v5 H) λ_ H=>
 bnd (lda 9 v1 H) λv7 H=> bnd (st 9 v2 v7 H) λ_ H=>
 bnd (lda 9 v2 H) λr0 _=> some (r0,H)
theorem aqC(C:Callee)(a0:AV)(H:aj){r:AV × aj}(h:aiY C a0 H=some r):bH Tryz.prog C 59 [a0] H=some r:=
 rnK (A:=aqA) (c:=aqB) Tryz.func59 (by kernel_rfl) (by kernel_rfl) h
def aqD:Ann:=⟨[],[],[]⟩
def aqE:Code:=Tryz.f60.body.getD .skip
def afC(C:Callee)(a0 a1:AV)(H:aj):OA:=
 bo (bi .geq 3 a0 (I 1)) λv6=> gdA (some v6) true (aC (some a0) H) H λv8 H=> gdA (some v6) true (aC (some a1) H) H λv9 H=> gdA (some v6) true (aC (bi .leq 3 v8 v9) H) H λv10 H=> bo (aV v6 v10 (B false)) λv11=>
 some (v11,H)
theorem aqF(C:Callee)(a0 a1:AV)(H:aj){r:AV × aj}(h:afC C a0 a1 H=some r):bH Tryz.prog C 60 [a0,a1] H=some r:=
 rnK (A:=aqD) (c:=aqE) Tryz.func60 (by kernel_rfl) (by kernel_rfl) h
def aqG:Ann:=⟨[],[],[]⟩
def aqH:Code:=Tryz.f61.body.getD .skip
def aiZ(C:Callee)(a0 a1:AV)(H:aj):OA:=
 bnd (C 106 [a0,a1] H) λv7 H=> bo (bi .geq 3 v7 (I 0)) λv8=>
 some (v8,H)
theorem aqI(C:Callee)(a0 a1:AV)(H:aj){r:AV × aj}(h:aiZ C a0 a1 H=some r):bH Tryz.prog C 61 [a0,a1] H=some r:=
 rnK (A:=aqG) (c:=aqH) Tryz.func61 (by kernel_rfl) (by kernel_rfl) h
def aqJ:Ann:=⟨[],[],[]⟩
def aqK:Code:=Tryz.f62.body.getD .skip
def afD(C:Callee)(a0 a1:AV)(H:aj):OA:=
 bnd (lnS a0 H) λv5 H=> bo (bi .gtr 3 v5 (I 24)) λv6=> gdA (some v6) false (aC (some a0) H) H λv8 H=> gdA (some v6) false (aC (some (.fn (.func 64) [] [a1])) H) H λv9 H=> gdA (some v6) false (C 63 [v8,v9] H) H λv10 H=> bo (aV v6 (B true) v10) λv11=>
 some (v11,H)
theorem aqL(C:Callee)(a0 a1:AV)(H:aj){r:AV × aj}(h:afD C a0 a1 H=some r):bH Tryz.prog C 62 [a0,a1] H=some r:=
 rnK (A:=aqJ) (c:=aqK) Tryz.func62 (by kernel_rfl) (by kernel_rfl) h
def aqM:Ann:=⟨[],[],[]⟩
def aqN:Code:=Tryz.f63.body.getD .skip
def ai0(C:Callee)(a0 a1:AV)(H:aj):OA:=
 bnd (C 107 [a0,a1] H) λv7 H=> bo (bi .geq 3 v7 (I 0)) λv8=>
 some (v8,H)
theorem aqO(C:Callee)(a0 a1:AV)(H:aj){r:AV × aj}(h:ai0 C a0 a1 H=some r):bH Tryz.prog C 63 [a0,a1] H=some r:=
 rnK (A:=aqM) (c:=aqN) Tryz.func63 (by kernel_rfl) (by kernel_rfl) h
def aqP:Ann:=⟨[],[],[]⟩
def aqQ:Code:=Tryz.f64.body.getD .skip
def ai1(C:Callee)(a0 a1:AV)(H:aj):OA:=
 bnd (eU 119 a0 H) λv2 H=>
 bnd (lda 8 a1 H) λv4 H=> bnd (lda 3 v2 H) λv5 H=> bnd (C 65 [v4,v5] H) λv6 H=> bo (un .not v6) λv7=>
 some (v7,H)
theorem aqR(C:Callee)(a0 a1:AV)(H:aj){r:AV × aj}(h:ai1 C a0 a1 H=some r):bH Tryz.prog C 64 [a0,a1] H=some r:=
 rnK (A:=aqP) (c:=aqQ) Tryz.func64 (by kernel_rfl) (by kernel_rfl) h
def aqS:Ann:=⟨[],[],[]⟩
def aqT:Code:=Tryz.f65.body.getD .skip
def LC(C:Callee)(a0 a1:AV)(H:aj):OA:=
 bnd (eU 39 a0 H) λv2 H=> bnd (eU 119 a1 H) λv3 H=>
 bnd (lda 8 v2 H) λv8 H=> bo (ah v3 1) λv9=> bnd (ld v9 H) λv10 H=> bnd (C 100 [v8,v10] H) λv11 H=> bo (aF v11 0) λv12=> bo (aF v11 1) λv13=>
 bo (ah v3 0) λv14=> bnd (ld v14 H) λv15 H=> bo (bi .geq 3 v15 (I 1)) λv16=> gdA (some v16) true (aC (ah v3 0) H) H λv18 H=> gdA (some v16) true (ld v18 H) H λv19 H=> gdA (some v16) true (aC (bi .leq 3 v19 (I 4)) H) H λv20 H=> bo (aV v16 v20 (B false)) λv21=> gdA (some v21) true (aC (some v12) H) H λv23 H=> gdA (some v21) true (aC (bi .neq 3 v23 (I (-1))) H) H λv24 H=> bo (aV v21 v24 (B false)) λv25=> gdA (some v25) true (aC (ah v3 2) H) H λv27 H=> gdA (some v25) true (ld v27 H) H λv28 H=> gdA (some v25) true (aC (bi .eql 3 v28 (I 0)) H) H λv29 H=> gdA (some v25) true (aC (some v29) H) H λv30 H=> gdA (some v30) false (aC (ah v3 0) H) H λv31 H=> gdA (some v30) false (ld v31 H) H λv32 H=> gdA (some v30) false (aC (bi .eql 3 v32 (I 2)) H) H λv33 H=> gdA (some v25) true (aC (aV v30 (B true) v33) H) H λv34 H=> gdA (some v25) true (aC (some v34) H) H λv35 H=> gdA (some v35) false (aC (ah v3 0) H) H λv36 H=> gdA (some v35) false (ld v36 H) H λv37 H=> gdA (some v35) false (aC (bi .eql 3 v37 (I 3)) H) H λv38 H=> gdA (some v25) true (aC (aV v35 (B true) v38) H) H λv39 H=> bo (aV v25 v39 (B false)) λv40=>
 some (v40,H)
theorem aqU(C:Callee)(a0 a1:AV)(H:aj){r:AV × aj}(h:LC C a0 a1 H=some r):bH Tryz.prog C 65 [a0,a1] H=some r:=
 rnK (A:=aqS) (c:=aqT) Tryz.func65 (by kernel_rfl) (by kernel_rfl) h
def aqV:Ann:=⟨[],[],[]⟩
def aqW:Code:=Tryz.f66.body.getD .skip
def ai2(C:Callee)(a0:AV)(H:aj):OA:=
 bnd (aC (ji Tryz.prog true #[3,3] 3 [(I 0),a0]) H) λv4 H=> bo (bd 143 [(1,v4)]) λv5=> bnd (eU 143 v5 H) λv6 H=>
 some (v6,H)
theorem aqX(C:Callee)(a0:AV)(H:aj){r:AV × aj}(h:ai2 C a0 H=some r):bH Tryz.prog C 66 [a0] H=some r:=
 rnK (A:=aqV) (c:=aqW) Tryz.func66 (by kernel_rfl) (by kernel_rfl) h
def aqY:Ann:=⟨[],[],[]⟩
def aqZ:Code:=Tryz.f67.body.getD .skip
def ai3(C:Callee)(a0:AV)(H:aj):OA:=
 bnd (aC (ji Tryz.prog true #[3,3] 3 [(I 0),a0]) H) λv4 H=> bo (bd 175 [(1,v4)]) λv5=> bnd (eU 175 v5 H) λv6 H=>
 some (v6,H)
theorem aq0(C:Callee)(a0:AV)(H:aj){r:AV × aj}(h:ai3 C a0 H=some r):bH Tryz.prog C 67 [a0] H=some r:=
 rnK (A:=aqY) (c:=aqZ) Tryz.func67 (by kernel_rfl) (by kernel_rfl) h
def aq1:Ann:=⟨[],[],[]⟩
def aq2:Code:=Tryz.f68.body.getD .skip
def ai4(C:Callee)(a0 a1:AV)(H:aj):OA:=
 bnd (aC (ji Tryz.prog true #[3,3] 3 [(I 1),a0]) H) λv6 H=> bnd (aC (ji Tryz.prog true #[3,3] 3 [(I 1),a1]) H) λv8 H=> bo (bd 108 [(1,v6),(2,v8)]) λv9=> bnd (eU 108 v9 H) λv10 H=>
 some (v10,H)
theorem aq3(C:Callee)(a0 a1:AV)(H:aj){r:AV × aj}(h:ai4 C a0 a1 H=some r):bH Tryz.prog C 68 [a0,a1] H=some r:=
 rnK (A:=aq1) (c:=aq2) Tryz.func68 (by kernel_rfl) (by kernel_rfl) h
def aq4:Ann:=⟨[],[],[]⟩
def aq5:Code:=Tryz.f69.body.getD .skip
def ai5(C:Callee)(a0:AV)(H:aj):OA:=
 bnd (C 108 [a0] H) λv4 H=> bo (bd 115 [(0,v4)]) λv5=> bnd (eU 115 v5 H) λv6 H=>
 some (v6,H)
theorem aq6(C:Callee)(a0:AV)(H:aj){r:AV × aj}(h:ai5 C a0 H=some r):bH Tryz.prog C 69 [a0] H=some r:=
 rnK (A:=aq4) (c:=aq5) Tryz.func69 (by kernel_rfl) (by kernel_rfl) h
def aq7:Ann:=⟨[],[(1,some false::some false::some true::some true::rF 5 [])],[]⟩
def aq8:Code:=Tryz.f70.body.getD .skip
def ai6(C:Callee)(a0 a1:AV)(H:aj):OA:=
 bnd (eU 39 a0 H) λv2 H=>
 bnd (lda 8 v2 H) λv5 H=> bnd (unG H (C 109 [v5,a1] H.guard)) λv7 H=> bnd (unG H (C 110 [] H.guard)) λv8 H=> bnd (lda 8 v2 H) λv9 H=> bo (bd 202 [(0,v7),(1,v8),(2,v9),(3,a1)]) λv11=> bnd (eU 202 v11 H) λv12 H=>
 some (v12,H)
theorem aq9(C:Callee)(a0 a1:AV)(H:aj){r:AV × aj}(h:ai6 C a0 a1 H=some r):bH Tryz.prog C 70 [a0,a1] H=some r:=
 rnK (A:=aq7) (c:=aq8) Tryz.func70 (by kernel_rfl) (by kernel_rfl) h
def ara:Ann:=⟨[],[],[]⟩
def arb:Code:=Tryz.f71.body.getD .skip
def afE(C:Callee)(a0 a1:AV)(H:aj):OA:=
 bo (bi .geq 3 a1 (I 0)) λv6=> gdA (some v6) true (aC (some a1) H) H λv8 H=> gdA (some v6) true (aC (some a0) H) H λv9 H=> gdA (some v6) true (aC (au v9) H) H λv10 H=> gdA (some v6) true (aC (ah v10 0) H) H λv11 H=> gdA (some v6) true (ld v11 H) H λv12 H=> gdA (some v6) true (lnS v12 H) H λv13 H=> gdA (some v6) true (aC (bi .lss 3 v8 v13) H) H λv14 H=> bo (aV v6 v14 (B false)) λv15=>
 some (v15,H)
theorem ard(C:Callee)(a0 a1:AV)(H:aj){r:AV × aj}(h:afE C a0 a1 H=some r):bH Tryz.prog C 71 [a0,a1] H=some r:=
 rnK (A:=ara) (c:=arb) Tryz.func71 (by kernel_rfl) (by kernel_rfl) h
def arf:Ann:=⟨[],[],[]⟩
def arh:Code:=Tryz.f72.body.getD .skip
def ai7(C:Callee)(a0:AV)(H:aj):OA:=
 bo (au a0) λv4=> bo (ah v4 0) λv5=> bnd (ld v5 H) λv6 H=> bnd (lnS v6 H) λv7 H=>
 some (v7,H)
theorem ari(C:Callee)(a0:AV)(H:aj){r:AV × aj}(h:ai7 C a0 H=some r):bH Tryz.prog C 72 [a0] H=some r:=
 rnK (A:=arf) (c:=arh) Tryz.func72 (by kernel_rfl) (by kernel_rfl) h
def arj:Ann:=⟨[],[],[]⟩
def ark:Code:=Tryz.f75.body.getD .skip
def afF(C:Callee)(a0:AV)(H:aj):OA:=
 bnd (app 3 1 8 (.s (Go.Value.slice none 0 0)) a0 H) λv4 H=>
 some (v4,H)
theorem ai8(C:Callee)(a0:AV)(H:aj){r:AV × aj}(h:afF C a0 H=some r):bH Tryz.prog C 75 [a0] H=some r:=
 rnK (A:=arj) (c:=ark) Tryz.func75 (by kernel_rfl) (by kernel_rfl) h
def arl:Ann:=⟨[],[],[]⟩
def arn:Code:=Tryz.f76.body.getD .skip
def afG(C:Callee)(a0 a1:AV)(H:aj):OA:=
 bo (bi .geq 3 a0 (I 1)) λv6=> gdA (some v6) true (aC (some a0) H) H λv8 H=> gdA (some v6) true (aC (some a1) H) H λv9 H=> gdA (some v6) true (aC (bi .leq 3 v8 v9) H) H λv10 H=> bo (aV v6 v10 (B false)) λv11=>
 some (v11,H)
theorem aro(C:Callee)(a0 a1:AV)(H:aj){r:AV × aj}(h:afG C a0 a1 H=some r):bH Tryz.prog C 76 [a0,a1] H=some r:=
 rnK (A:=arl) (c:=arn) Tryz.func76 (by kernel_rfl) (by kernel_rfl) h
def arp:Ann:=⟨[],[],[]⟩
def arq:Code:=Tryz.f77.body.getD .skip
def Ja(C:Callee)(a0 a1:AV)(H:aj):OA:=
 bnd (eU 39 a0 H) λv2 H=> bnd (eU 119 a1 H) λv3 H=>
 bo (ah v3 0) λv5=> bnd (ld v5 H) λv6 H=> bo (bi .geq 3 v6 (I 1)) λv7=> gdA (some v7) true (aC (ah v3 0) H) H λv9 H=> gdA (some v7) true (ld v9 H) H λv10 H=> gdA (some v7) true (aC (bi .leq 3 v10 (I 4)) H) H λv11 H=> bo (aV v7 v11 (B false)) λv12=> gdA (some v12) true (aC (ah v3 1) H) H λv14 H=> gdA (some v12) true (ld v14 H) H λv15 H=> gdA (some v12) true (aC (bi .geq 3 v15 (I 0)) H) H λv16 H=> bo (aV v12 v16 (B false)) λv17=> gdA (some v17) true (aC (ah v3 1) H) H λv19 H=> gdA (some v17) true (ld v19 H) H λv20 H=> gdA (some v17) true (aC (ah v2 1) H) H λv21 H=> gdA (some v17) true (ld v21 H) H λv22 H=> gdA (some v17) true (aC (ah v2 2) H) H λv23 H=> gdA (some v17) true (ld v23 H) H λv24 H=> gdA (some v17) true (aC (bi .mul 3 v22 v24) H) H λv25 H=> gdA (some v17) true (aC (bi .lss 3 v20 v25) H) H λv26 H=> bo (aV v17 v26 (B false)) λv27=> gdA (some v27) true (aC (ah v3 2) H) H λv29 H=> gdA (some v27) true (ld v29 H) H λv30 H=> gdA (some v27) true (aC (bi .eql 3 v30 (I 0)) H) H λv31 H=> gdA (some v27) true (aC (some v31) H) H λv32 H=> gdA (some v32) false (aC (ah v3 0) H) H λv33 H=> gdA (some v32) false (ld v33 H) H λv34 H=> gdA (some v32) false (aC (bi .eql 3 v34 (I 2)) H) H λv35 H=> gdA (some v27) true (aC (aV v32 (B true) v35) H) H λv36 H=> gdA (some v27) true (aC (some v36) H) H λv37 H=> gdA (some v37) false (aC (ah v3 0) H) H λv38 H=> gdA (some v37) false (ld v38 H) H λv39 H=> gdA (some v37) false (aC (bi .eql 3 v39 (I 3)) H) H λv40 H=> gdA (some v27) true (aC (aV v37 (B true) v40) H) H λv41 H=> bo (aV v27 v41 (B false)) λv42=>
 some (v42,H)
theorem ars(C:Callee)(a0 a1:AV)(H:aj){r:AV × aj}(h:Ja C a0 a1 H=some r):bH Tryz.prog C 77 [a0,a1] H=some r:=
 rnK (A:=arp) (c:=arq) Tryz.func77 (by kernel_rfl) (by kernel_rfl) h
def aru:Ann:=⟨[],[],[]⟩
def arv:Code:=Tryz.f78.body.getD .skip
def ai9(C:Callee)(a0 a1:AV)(H:aj):OA:=
 bnd (aC (ji Tryz.prog true #[3,3] 3 [a0,(I 1)]) H) λv6 H=> bnd (aC (ji Tryz.prog true #[3,3] 3 [a1,(I 1)]) H) λv8 H=> bo (bd 216 [(0,v6),(1,v8)]) λv9=> bnd (eU 216 v9 H) λv10 H=>
 some (v10,H)
theorem arw(C:Callee)(a0 a1:AV)(H:aj){r:AV × aj}(h:ai9 C a0 a1 H=some r):bH Tryz.prog C 78 [a0,a1] H=some r:=
 rnK (A:=aru) (c:=arv) Tryz.func78 (by kernel_rfl) (by kernel_rfl) h
def aja:Ann:=⟨[(4,[2,5,6])],[(5,rF 7 (some true::rF 6 []))],[]⟩
def afH:Code:=Tryz.f79.body.getD .skip
def Jb(C:Callee):List AV->aj->OA:=(dL Tryz.prog C aja 31 afH (dH Tryz.prog 31 Tryz.f79.results.toList) (λ_ _ _=> none) (dH Tryz.prog 31 Tryz.f79.results.toList)).getD 0 λ_ _=> none
def ajb(C:Callee)(a0 a1:AV)(H:aj):OA:=
 bnd (eU 39 a0 H) λv2 H=>
 bnd (lda 8 v2 H) λv7 H=> bo (bd 223 [(0,v7),(1,a1)]) λv9=> bnd (eU 223 v9 H) λv10 H=>
 Jb C [v2,v10,(I 0)] H
theorem WY(C:Callee)(t2 t5 t6:AV)(H:aj):Jb C [t2,t5,t6] H=
 bo (ah t2 1) λv12=> bnd (ld v12 H) λv13 H=> bo (bi .lss 3 t6 v13) λv14=>
 aJ v14
 (bo (au t5) λv19=> bo (ah v19 9) λv20=> bnd (ld v20 H) λv21 H=> bnd (lda 8 t2 H) λv22 H=> bnd (unG H (C 122 [v22,t6] H.guard)) λv24 H=> bo (bd 226 [(0,(I 0)),(1,(I (-1))),(2,v24)]) λv25=> bnd (bs 217 1 [(0,v25)] H) λv26 H=> bnd (app 226 3 40 v21 v26 H) λv27 H=> bo (au t5) λv28=> bo (ah v28 9) λv29=> bnd (st 1 v29 v27 H) λ_ H=>
  bo (bi .add 3 t6 (I 1)) λv16=>
  Jb C [t2,t5,v16] H)
 (some (t5,H)):=
 (congrFun (congrFun (congrArg (λl=> l.getD 0 λ_ _=> none) (cO afH (dH Tryz.prog 31 Tryz.f79.results.toList) (λ_ _ _=> none) (dH Tryz.prog 31 Tryz.f79.results.toList))) [t2,t5,t6]) H).trans (by kernel_rfl)
theorem arx(C:Callee)(a0 a1:AV)(H:aj){r:AV × aj}(h:ajb C a0 a1 H=some r):bH Tryz.prog C 79 [a0,a1] H=some r:=
 rnK (A:=aja) (c:=afH) Tryz.func79 (by kernel_rfl) (by kernel_rfl) h
def ajc:Ann:=⟨[(7,[5,48,49,50])],[(4,rF 28 (some true::rF 6 []))],[]⟩
def afI:Code:=Tryz.f80.body.getD .skip
def Jc(C:Callee):List AV->aj->OA:=(dL Tryz.prog C ajc 61 afI (dH Tryz.prog 61 Tryz.f80.results.toList) (λ_ _ _=> none) (dH Tryz.prog 61 Tryz.f80.results.toList)).getD 0 λ_ _=> none
def ajd(C:Callee)(a0:AV)(H:aj):OA:=
 bnd (eU 51 a0 H) λv1 H=>
 bnd (lda 9 v1 H) λv8 H=> bnd (C 123 [v8] H) λv9 H=>
 bo (bi .neq 58 v9 (I 0)) λv11=>
 aJ v11
 (some (.tup [(.s (Go.Value.slice none 0 0)),v9],H))
 (bo (ah v1 0) λv13=> bnd (ld v13 H) λv14 H=> bnd (cv 3 5 v14 H) λv15 H=> bo (ah v1 1) λv16=> bnd (ld v16 H) λv17 H=> bnd (cv 3 5 v17 H) λv18 H=> bo (ah v1 2) λv19=> bnd (ld v19 H) λv20 H=> bnd (cv 3 5 v20 H) λv21 H=> bo (ah v1 3) λv22=> bnd (ld v22 H) λv23 H=> bo (bi .shr 3 v23 (.s (Go.Value.int Go.IntKind.u64 8))) λv24=> bnd (cv 3 5 v24 H) λv25 H=> bo (ah v1 3) λv26=> bnd (ld v26 H) λv27 H=> bnd (cv 3 5 v27 H) λv28 H=> bo (ah v1 4) λv29=> bnd (ld v29 H) λv30 H=> bnd (cv 3 5 v30 H) λv31 H=> bo (ah v1 5) λv32=> bnd (ld v32 H) λv33 H=> bo (bi .add 3 v33 (I 1)) λv34=> bnd (cv 3 5 v34 H) λv35 H=> bo (ah v1 6) λv36=> bnd (ld v36 H) λv37 H=> bnd (cv 3 5 v37 H) λv38 H=> bo (ah v1 7) λv39=> bnd (ld v39 H) λv40 H=> bnd (unG H (C 124 [v40] H.guard)) λv41 H=> bo (ah v1 8) λv42=> bnd (ld v42 H) λv43 H=> bnd (lnS v43 H) λv44 H=> bnd (cv 3 5 v44 H) λv45 H=> bnd (bs 169 10 [(0,v15),(1,v18),(2,v21),(3,v25),(4,v28),(5,v31),(6,v35),(7,v38),(8,v41),(9,v45)] H) λv46 H=>
  bo (ah v1 8) λv47=> bnd (ld v47 H) λv48 H=> bnd (lnS v48 H) λv49 H=>
  Jc C [v46,v48,v49,(I 0)] H)
theorem WZ(C:Callee)(t5 t48 t49 t50:AV)(H:aj):Jc C [t5,t48,t49,t50] H=
 bo (bi .lss 3 t50 t49) λv51=>
 aJ v51
 (bnd (ix 1 t48 t50 H) λv52 H=> bnd (ld v52 H) λv53 H=>
  bnd (C 125 [v53] H) λv56 H=> bnd (app 5 1 1 t5 v56 H) λv57 H=>
  bo (bi .add 3 t50 (I 1)) λv58=>
  Jc C [v57,t48,t49,v58] H)
 (bnd (C 126 [t5] H) λv60 H=>
  some (.tup [v60,(I 0)],H)):=
 (congrFun (congrFun (congrArg (λl=> l.getD 0 λ_ _=> none) (cO afI (dH Tryz.prog 61 Tryz.f80.results.toList) (λ_ _ _=> none) (dH Tryz.prog 61 Tryz.f80.results.toList))) [t5,t48,t49,t50]) H).trans (by kernel_rfl)
theorem arz(C:Callee)(a0:AV)(H:aj){r:AV × aj}(h:ajd C a0 H=some r):bH Tryz.prog C 80 [a0] H=some r:=
 rnK (A:=ajc) (c:=afI) Tryz.func80 (by kernel_rfl) (by kernel_rfl) h
def arA:Ann:=⟨[],[(4,rF 40 (none::some false::[]))],[]⟩
def aaG:Code:=Tryz.f81.body.getD .skip
def aje(C:Callee)(a0:AV)(H:aj):OA:=
 bnd (alc 51 [zI,zI,zI,zI,zI,zI,zI,zB,zN] H) λv2 H=>
 bnd (C 127 [a0] H) λv12 H=> bo (aF v12 0) λv13=> bo (aF v12 1) λv14=>
 bo (un .not v14) λv16=> gdA (some v16) false (aC (some v13) H) H λv18 H=> gdA (some v16) false (lnS v18 H) H λv19 H=> gdA (some v16) false (aC (bi .lss 3 v19 (I 10)) H) H λv20 H=> bo (aV v16 (B true) v20) λv21=> gdA (some v21) false (aC (some v13) H) H λv23 H=> gdA (some v21) false (lnS v23 H) H λv24 H=> gdA (some v21) false (aC (some v13) H) H λv25 H=> gdA (some v21) false (ix 1 v25 (I 9) H) H λv26 H=> gdA (some v21) false (ld v26 H) H λv27 H=> gdA (some v21) false (cv 5 3 v27 H) H λv28 H=> gdA (some v21) false (aC (bi .mul 3 (I 8) v28) H) H λv29 H=> gdA (some v21) false (aC (bi .add 3 (I 10) v29) H) H λv30 H=> gdA (some v21) false (aC (bi .neq 3 v24 v30) H) H λv31 H=> bo (aV v21 (B true) v31) λv32=>
 aJ v32
 (bo (bd 51 []) λv33=> bnd (st 9 v2 v33 H) λ_ H=>
  bnd (lda 9 v2 H) λr0 _=> some (.tup [r0,(I 2)],H))
 (bnd (alc 51 [zI,zI,zI,zI,zI,zI,zI,zB,zN] H) λv6 H=> bnd (ix 1 v13 (I 0) H) λv35 H=> bnd (ld v35 H) λv36 H=> bnd (cv 5 3 v36 H) λv37 H=> bnd (ix 1 v13 (I 1) H) λv39 H=> bnd (ld v39 H) λv40 H=> bnd (cv 5 3 v40 H) λv41 H=> bnd (ix 1 v13 (I 2) H) λv43 H=> bnd (ld v43 H) λv44 H=> bnd (cv 5 3 v44 H) λv45 H=> bnd (ix 1 v13 (I 3) H) λv47 H=> bnd (ld v47 H) λv48 H=> bnd (cv 5 3 v48 H) λv49 H=> bo (bi .shl 3 v49 (.s (Go.Value.int Go.IntKind.u64 8))) λv50=> bnd (ix 1 v13 (I 4) H) λv52 H=> bnd (ld v52 H) λv53 H=> bnd (cv 5 3 v53 H) λv54 H=> bo (bi .or 3 v50 v54) λv55=> bnd (ix 1 v13 (I 5) H) λv57 H=> bnd (ld v57 H) λv58 H=> bnd (cv 5 3 v58 H) λv59 H=> bnd (ix 1 v13 (I 6) H) λv61 H=> bnd (ld v61 H) λv62 H=> bnd (cv 5 3 v62 H) λv63 H=> bo (bi .sub 3 v63 (I 1)) λv64=> bnd (ix 1 v13 (I 7) H) λv66 H=> bnd (ld v66 H) λv67 H=> bnd (cv 5 3 v67 H) λv68 H=> bnd (ix 1 v13 (I 8) H) λv70 H=> bnd (ld v70 H) λv71 H=> bo (bi .eql 5 v71 (.s (Go.Value.int Go.IntKind.u8 1))) λv72=> bo (bd 51 [(0,v37),(1,v41),(2,v45),(3,v55),(4,v59),(5,v64),(6,v68),(7,v72)]) λv73=> bnd (st 9 v6 v73 H) λ_ H=>
  bo (slS 1 v13 (some (I 10)) none none) λv75=> bnd (C 128 [v75,(I 8)] H) λv76 H=>
  none)
theorem arB(C:Callee)(a0:AV)(H:aj){r:AV × aj}(h:aje C a0 H=some r):bH Tryz.prog C 81 [a0] H=some r:=
 rnK (A:=arA) (c:=aaG) Tryz.func81 (by kernel_rfl) (by kernel_rfl) h
def ajf:Ann:=⟨[(4,[1,2,7,13,14])],[(7,rF 17 [])],[]⟩
def afJ:Code:=Tryz.f82.body.getD .skip
def Jd(C:Callee):List AV->aj->OA:=(dL Tryz.prog C ajf 45 afJ (dH Tryz.prog 45 Tryz.f82.results.toList) (λ_ _ _=> none) (dH Tryz.prog 45 Tryz.f82.results.toList)).getD 0 λ_ _=> none
def zx(C:Callee)(t1 t2 t7 t13 t14:AV)(H:aj):OA:=
 bo (bi .add 3 t14 (I 1)) λv43=>
 Jd C [t1,t2,t7,t13,v43] H
def ajg(C:Callee)(a0 a1 a2:AV)(H:aj):OA:=
 bnd (C 131 [a0] H) λv11 H=>
 bnd (lnS v11 H) λv13 H=>
 Jd C [a1,a2,v11,v13,(I 0)] H
theorem Xa(C:Callee)(t1 t2 t7 t13 t14:AV)(H:aj):Jd C [t1,t2,t7,t13,t14] H=
 bo (bi .lss 3 t14 t13) λv15=>
 aJ v15
 (bo (bi .mul 3 (I 8) t14) λv18=> bo (bi .sub 3 v18 t1) λv20=>
  bo (bi .leq 3 v20 (I (-8))) λv22=> gdA (some v22) false (aC (some v20) H) H λv24 H=> gdA (some v22) false (aC (bi .geq 3 v24 (I 16)) H) H λv25 H=> bo (aV v22 (B true) v25) λv26=>
  aJ v26
  (zx C t1 t2 t7 t13 t14 H)
  (bnd (ix 1 t7 t14 H) λv31 H=> bnd (ld v31 H) λv32 H=> bnd (cv 26 211 t2 H) λv34 H=> bo (bi .shl 211 v34 (.s (Go.Value.int Go.IntKind.u64 8))) λv35=> bo (bi .add 3 v20 (I 8)) λv37=> bo (bi .shl 211 v35 v37) λv38=> bo (bi .shr 211 v38 (.s (Go.Value.int Go.IntKind.u64 24))) λv39=> bnd (cv 211 5 v39 H) λv40 H=> bo (bi .xor 5 v32 v40) λv41=> bnd (ix 1 t7 t14 H) λv42 H=> bnd (st 1 v42 v41 H) λ_ H=>
  zx C t1 t2 t7 t13 t14 H))
 (some (t7,H)):=
 (congrFun (congrFun (congrArg (λl=> l.getD 0 λ_ _=> none) (cO afJ (dH Tryz.prog 45 Tryz.f82.results.toList) (λ_ _ _=> none) (dH Tryz.prog 45 Tryz.f82.results.toList))) [t1,t2,t7,t13,t14]) H).trans (by kernel_rfl)
theorem arC(C:Callee)(a0 a1 a2:AV)(H:aj){r:AV × aj}(h:ajg C a0 a1 a2 H=some r):bH Tryz.prog C 82 [a0,a1,a2] H=some r:=
 rnK (A:=ajf) (c:=afJ) Tryz.func82 (by kernel_rfl) (by kernel_rfl) h
def arD:Ann:=⟨[],[(1,rF 11 [])],[]⟩
def arE:Code:=Tryz.f83.body.getD .skip
def ajh(C:Callee)(a0:AV)(H:aj):OA:=
 bo (au a0) λv4=> bo (ah v4 1) λv5=> bnd (ld v5 H) λv6 H=> bo (au a0) λv8=> bo (ah v8 0) λv9=> bnd (ld v9 H) λv10 H=> bnd (lnS v10 H) λv11 H=> bo (bi .sub 3 v6 v11) λv12=>
 some (v12,H)
theorem arF(C:Callee)(a0:AV)(H:aj){r:AV × aj}(h:ajh C a0 H=some r):bH Tryz.prog C 83 [a0] H=some r:=
 rnK (A:=arD) (c:=arE) Tryz.func83 (by kernel_rfl) (by kernel_rfl) h
def arG:Ann:=⟨[],[],[]⟩
def arH:Code:=Tryz.f84.body.getD .skip
def aji(C:Callee)(a0:AV)(H:aj):OA:=
 bnd (eU 51 a0 H) λv1 H=> bnd (alc 51 [zI,zI,zI,zI,zI,zI,zI,zB,zN] H) λv2 H=>
 bo (ah v1 8) λv3=> bnd (ld v3 H) λv4 H=> bnd (C 28 [v4] H) λv5 H=> bo (ah v1 8) λv6=> bnd (st 1 v6 v5 H) λ_ H=>
 bnd (lda 9 v1 H) λv7 H=> bnd (st 9 v2 v7 H) λ_ H=>
 bnd (lda 9 v2 H) λr0 _=> some (r0,H)
theorem arI(C:Callee)(a0:AV)(H:aj){r:AV × aj}(h:aji C a0 H=some r):bH Tryz.prog C 84 [a0] H=some r:=
 rnK (A:=arG) (c:=arH) Tryz.func84 (by kernel_rfl) (by kernel_rfl) h
def arJ:Ann:=⟨[],[(5,rF 8 [])],[]⟩
def arK:Code:=Tryz.f85.body.getD .skip
def ajj(C:Callee)(a0 a1 a2:AV)(H:aj):OA:=
 bnd (lnS a0 H) λv12 H=> bo (slS 9 a0 (some a1) (some a2) (some v12)) λv13=>
 bo (bi .eql 3 a1 a2) λv16=>
 aJ v16
 (some (a0,H))
 (bnd (lnS a0 H) λv19 H=>
  bo (slS 9 a0 none (some a1) none) λv22=> bo (slS 9 a0 (some a2) none none) λv25=> bnd (app 51 9 88 v22 v25 H) λv26 H=>
  bnd (lnS v26 H) λv29 H=> bo (slS 9 v26 (some v29) (some v19) none) λv31=> bnd (clr 9 [zI,zI,zI,zI,zI,zI,zI,zB,zN] v31 H) λ_ H=>
  some (v26,H))
theorem arL(C:Callee)(a0 a1 a2:AV)(H:aj){r:AV × aj}(h:ajj C a0 a1 a2 H=some r):bH Tryz.prog C 85 [a0,a1,a2] H=some r:=
 rnK (A:=arJ) (c:=arK) Tryz.func85 (by kernel_rfl) (by kernel_rfl) h
def arM:Ann:=⟨[],[],[]⟩
def arN:Code:=Tryz.f86.body.getD .skip
def ajk(C:Callee)(a0 a1:AV)(H:aj):OA:=
 bnd (alc 51 [zI,zI,zI,zI,zI,zI,zI,zB,zN] H) λv4 H=>
 bnd (C 132 [a0,a1,(B false)] H) λv8 H=> bo (aF v8 0) λv9=> bo (aF v8 1) λv10=> bnd (st 9 v4 v9 H) λ_ H=>
 bnd (lda 9 v4 H) λr0 _=> some (.tup [r0,v10],H)
theorem arO(C:Callee)(a0 a1:AV)(H:aj){r:AV × aj}(h:ajk C a0 a1 H=some r):bH Tryz.prog C 86 [a0,a1] H=some r:=
 rnK (A:=arM) (c:=arN) Tryz.func86 (by kernel_rfl) (by kernel_rfl) h
def arP:Ann:=⟨[],[(3,rF 18 []),(5,rF 18 []),(7,rF 18 [])],[]⟩
def arQ:Code:=Tryz.f87.body.getD .skip
def Xb(C:Callee)(a0 a1:AV)(H:aj):OA:=
 bnd (eU 51 a1 H) λv3 H=> bnd (alc 74 [zI,zI,zI,zI,zI,zI,zN,zI,zI] H) λv4 H=>
 bo (au a0) λv7=> bo (ah v7 12) λv8=> bo (ah v8 0) λv9=> bnd (ld v9 H) λv10 H=>
 bo (bi .eql 3 v10 (I 1)) λv12=>
 aJ v12
 (bo (au a0) λv14=> bo (ah v14 12) λv15=> bnd (lda 9 v15 H) λv16 H=> bo (au a0) λv18=> bo (ah v18 10) λv19=> bnd (ld v19 H) λv20 H=> bo (au a0) λv22=> bo (ah v22 0) λv23=> bnd (ld v23 H) λv24 H=> bnd (lda 9 v3 H) λv25 H=> bnd (C 133 [v16,v20,v24,v25] H) λv26 H=> bo (aF v26 0) λv27=> bo (aF v26 1) λv28=> bnd (st 9 v4 v27 H) λ_ H=>
  bnd (lda 9 v4 H) λr0 _=> some (.tup [r0,v28],H))
 (bo (bi .eql 3 v10 (I 2)) λv30=>
  aJ v30
  (bo (au a0) λv32=> bo (ah v32 12) λv33=> bnd (lda 9 v33 H) λv34 H=> bo (au a0) λv36=> bo (ah v36 10) λv37=> bnd (ld v37 H) λv38 H=> bo (au a0) λv40=> bo (ah v40 0) λv41=> bnd (ld v41 H) λv42 H=> bnd (lda 9 v3 H) λv43 H=> bnd (C 134 [v34,v38,v42,v43] H) λv44 H=> bo (aF v44 0) λv45=> bo (aF v44 1) λv46=> bnd (st 9 v4 v45 H) λ_ H=>
  bnd (lda 9 v4 H) λr0 _=> some (.tup [r0,v46],H))
  (bo (bi .eql 3 v10 (I 3)) λv48=>
  aJ v48
  (bo (au a0) λv50=> bo (ah v50 12) λv51=> bnd (lda 9 v51 H) λv52 H=> bo (au a0) λv54=> bo (ah v54 10) λv55=> bnd (ld v55 H) λv56 H=> bo (au a0) λv58=> bo (ah v58 0) λv59=> bnd (ld v59 H) λv60 H=> bnd (lda 9 v3 H) λv61 H=> bnd (C 135 [v52,v56,v60,v61] H) λv62 H=> bo (aF v62 0) λv63=> bo (aF v62 1) λv64=> bnd (st 9 v4 v63 H) λ_ H=>
   bnd (lda 9 v4 H) λr0 _=> some (.tup [r0,v64],H))
  (bo (bd 74 []) λv65=> bnd (st 9 v4 v65 H) λ_ H=>
   bnd (lda 9 v4 H) λr0 _=> some (.tup [r0,(B false)],H))))
theorem aaH(C:Callee)(a0 a1:AV)(H:aj){r:AV × aj}(h:Xb C a0 a1 H=some r):bH Tryz.prog C 87 [a0,a1] H=some r:=
 rnK (A:=arP) (c:=arQ) Tryz.func87 (by kernel_rfl) (by kernel_rfl) h
def arR:Ann:=⟨[],[(3,rF 19 [])],[(3,[(14,16),(15,16)])]⟩
def arS:Code:=Tryz.f88.body.getD .skip
def afK(C:Callee)(a0:AV)(H:aj):OA:=
 bnd (alc 119 [zI,zI,zI] H) λv2 H=>
 bnd (C 32 [a0] H) λv6 H=> bo (bi .eql 3 v6 (I 0)) λv7=>
 aJ v7
 (bo (bd 119 []) λv8=> bnd (st 3 v2 v8 H) λ_ H=>
  bnd (lda 3 v2 H) λr0 _=> some (.tup [r0,(I 0),(B false)],H))
 (bo (au a0) λv10=> bo (ah v10 0) λv11=> bnd (ld v11 H) λv12 H3=> bo (au a0) λv14=> bo (ah v14 1) λv15=> bnd (ld v15 H3) λv16 H7=> bnd (lnS v16 H7) λv17 H8=> bnd (ix 3 v12 v17 H8) λv18 H9=> bnd (lda 3 v18 H9) λv19 H10=> bo (au a0) λv21=> bo (ah v21 1) λv22=> bnd (ld v22 H10) λv23 H14=> bnd (lnS v23 H14) λv24 H15=> bnd (st 3 v2 v19 H15) λ_ H16=> ck (aU v22) H15 H16 <| ck (aU v23) H15 H16 <|
  bnd (lda 3 v2 H16) λr0 _=> some (.tup [r0,v24,(B true)],H16))
theorem arT(C:Callee)(a0:AV)(H:aj){r:AV × aj}(h:afK C a0 H=some r):bH Tryz.prog C 88 [a0] H=some r:=
 rnK (A:=arR) (c:=arS) Tryz.func88 (by kernel_rfl) (by kernel_rfl) h
def arU:Ann:=⟨[],[],[]⟩
def arV:Code:=Tryz.f89.body.getD .skip
def ajl(C:Callee)(a0 a1 a2:AV)(H:aj):OA:=
 bo (au a0) λv11=> bo (ah v11 1) λv12=> bnd (ld v12 H) λv13 H=> bnd (C 88 [v13] H) λv14 H=> bo (aF v14 0) λv15=> bo (aF v14 1) λv16=> bo (aF v14 2) λv17=> bnd (alc 119 [zI,zI,zI] H) λv6 H=> bnd (st 3 v6 v15 H) λ_ H=>
 bo (au a0) λv19=> bo (ah v19 1) λv20=> bnd (ld v20 H) λv21 H=> bnd (C 136 [v21,a2] H) λv23 H=>
 bo (au a0) λv26=> bo (ah v26 10) λv27=> bnd (ld v27 H) λv28 H=> bnd (C 137 [a1,v28,v16,a2] H) λv31 H=>
 some (.tup [],H)
theorem arW(C:Callee)(a0 a1 a2:AV)(H:aj){r:AV × aj}(h:ajl C a0 a1 a2 H=some r):bH Tryz.prog C 89 [a0,a1,a2] H=some r:=
 rnK (A:=arU) (c:=arV) Tryz.func89 (by kernel_rfl) (by kernel_rfl) h
def arX:Ann:=⟨[],[(1,rF 12 []),(9,rF 6 [])],[]⟩
def arY:Code:=Tryz.f90.body.getD .skip
def Je(C:Callee)(t0 t1 t11:AV)(H:aj):OA:=
 bnd (C 89 [t0,t1,t11] H) λv71 H=>
 some (.tup [],H)
def wO(C:Callee)(t0 t1 t4 t9 t11:AV)(H:aj):OA:=
 bo (au t0) λv60=> bo (ah v60 0) λv61=> bnd (ld v61 H) λv62 H=> bnd (lda 6 t9 H) λv63 H=> bnd (C 140 [v62,v63] H) λv64 H=>
 bo (ah t4 0) λv65=> bnd (ld v65 H) λv66 H=> bo (bi .eql 3 v66 (I 2)) λv67=>
 aJ v67
 (Je C t0 t1 (I 0) H)
 (Je C t0 t1 t11 H)
def aaI(C:Callee)(a0 a1:AV)(H:aj):OA:=
 bo (au a0) λv14=> bo (ah v14 1) λv15=> bnd (ld v15 H) λv16 H=> bnd (C 88 [v16] H) λv17 H=> bo (aF v17 0) λv18=> bo (aF v17 1) λv19=> bo (aF v17 2) λv20=> bnd (alc 119 [zI,zI,zI] H) λv4 H=> bnd (st 3 v4 v18 H) λ_ H=>
 bo (au a0) λv23=> bo (ah v23 2) λv24=> bnd (lda 8 v24 H) λv25 H=> bo (ah v4 1) λv26=> bnd (ld v26 H) λv27 H=> bnd (C 100 [v25,v27] H) λv28 H=> bo (aF v28 0) λv29=> bo (aF v28 1) λv30=>
 bo (au a0) λv33=> bo (ah v33 0) λv34=> bnd (ld v34 H) λv35 H=> bnd (C 101 [v35,v29] H) λv37 H=> bo (aF v37 0) λv38=> bo (aF v37 1) λv39=> bnd (alc 112 [zI,zI,zI,zI,zB,zN] H) λv9 H=> bnd (st 6 v9 v38 H) λ_ H=>
 bnd (lda 6 v9 H) λv40 H=> bnd (C 138 [v40,v30] H) λv42 H=>
 bo (ah v4 0) λv43=> bnd (ld v43 H) λv44 H=>
 bo (bi .eql 3 v44 (I 2)) λv46=>
 aJ v46
 (bo (ah v4 2) λv48=> bnd (ld v48 H) λv49 H=> bnd (C 139 [v9,v30,v49] H) λv50 H=>
  wO C a0 a1 v4 v9 v42 H)
 (bo (bi .eql 3 v44 (I 3)) λv52=>
  aJ v52
  (bo (ah v4 2) λv55=> bnd (ld v55 H) λv56 H=> bo (bi .add 3 v42 v56) λv57=> bnd (C 139 [v9,v30,v57] H) λv58 H=>
  wO C a0 a1 v4 v9 v42 H)
  (wO C a0 a1 v4 v9 v42 H))
theorem afL(C:Callee)(a0 a1:AV)(H:aj){r:AV × aj}(h:aaI C a0 a1 H=some r):bH Tryz.prog C 90 [a0,a1] H=some r:=
 rnK (A:=arX) (c:=arY) Tryz.func90 (by kernel_rfl) (by kernel_rfl) h
def arZ:Ann:=⟨[],[(0,rF 18 (some true::some false::some false::[]))],[]⟩
def ar0:Code:=Tryz.f91.body.getD .skip
def ajm(C:Callee)(a0 a1:AV)(H:aj):OA:=
 bo (au a0) λv6=> bo (ah v6 12) λv7=> bnd (lda 9 v7 H) λv8 H=> bo (au a0) λv10=> bo (ah v10 10) λv11=> bnd (ld v11 H) λv12 H=> bo (au a0) λv14=> bo (ah v14 2) λv15=> bnd (lda 8 v15 H) λv16 H=> bo (au a0) λv18=> bo (ah v18 12) λv19=> bo (ah v19 1) λv20=> bnd (ld v20 H) λv21 H=> bnd (unG H (C 142 [v16,v21] H.guard)) λv22 H=> bnd (C 141 [v8,v12,v22] H) λv23 H=> bnd (C 95 [a1,v23] H) λv24 H=>
 some (.tup [],H)
theorem ar1(C:Callee)(a0 a1:AV)(H:aj){r:AV × aj}(h:ajm C a0 a1 H=some r):bH Tryz.prog C 91 [a0,a1] H=some r:=
 rnK (A:=arZ) (c:=ar0) Tryz.func91 (by kernel_rfl) (by kernel_rfl) h
def ar2:Ann:=⟨[],[],[]⟩
def ar4:Code:=Tryz.f92.body.getD .skip
def afM(C:Callee)(a0:AV)(H:aj):OA:=
 bo (au a0) λv4=> bo (ah v4 1) λv5=> bnd (ld v5 H) λv6 H=> bnd (C 143 [v6] H) λv7 H=> bnd (lnS v7 H) λv8 H=> bo (bi .gtr 3 v8 (I 0)) λv9=>
 some (v9,H)
theorem ar5(C:Callee)(a0:AV)(H:aj){r:AV × aj}(h:afM C a0 H=some r):bH Tryz.prog C 92 [a0] H=some r:=
 rnK (A:=ar2) (c:=ar4) Tryz.func92 (by kernel_rfl) (by kernel_rfl) h
def ar6:Ann:=⟨[],[],[]⟩
def ar7:Code:=Tryz.f93.body.getD .skip
def afN(C:Callee)(a0 a1 a2:AV)(H:aj):OA:=
 bnd (C 71 [a0,a1] H) λv9 H=> bo (un .not v9) λv10=>
 aJ v10
 (some ((I 0),H))
 (bo (au a0) λv12=> bo (ah v12 0) λv13=> bnd (ld v13 H) λv14 H=> bnd (ix 4 v14 a1 H) λv16 H=> bnd (lda 4 v16 H) λv17 H=> bnd (C 51 [v17,a2] H) λv19 H=> bo (fl v19 0) λv20=> bnd (C 144 [v20] H) λv21 H=>
  some (v21,H))
theorem ar8(C:Callee)(a0 a1 a2:AV)(H:aj){r:AV × aj}(h:afN C a0 a1 a2 H=some r):bH Tryz.prog C 93 [a0,a1,a2] H=some r:=
 rnK (A:=ar6) (c:=ar7) Tryz.func93 (by kernel_rfl) (by kernel_rfl) h
def ajn:Ann:=⟨[(3,[0,2,13,14,15])],[],[]⟩
def afO:Code:=Tryz.f94.body.getD .skip
def O9(C:Callee):List AV->aj->OA:=(dL Tryz.prog C ajn 37 afO (dH Tryz.prog 37 Tryz.f94.results.toList) (λ_ _ _=> none) (dH Tryz.prog 37 Tryz.f94.results.toList)).getD 0 λ_ _=> none
def afP(C:Callee)(a0:AV)(H:aj):OA:=
 bnd (alc 51 [zI,zI,zI,zI,zI,zI,zI,zB,zN] H) λv2 H=>
 bo (au a0) λv10=> bo (ah v10 1) λv11=> bnd (ld v11 H) λv12 H=> bnd (C 143 [v12] H) λv13 H=> bnd (lnS v13 H) λv14 H=>
 O9 C [a0,v2,v13,v14,(I 0)] H
theorem Xc(C:Callee)(t0 t2 t13 t14 t15:AV)(H:aj):O9 C [t0,t2,t13,t14,t15] H=
 bo (bi .lss 3 t15 t14) λv16=>
 aJ v16
 (bnd (ix 1 t13 t15 H) λv17 H=> bnd (ld v17 H) λv18 H=>
  bo (au t0) λv21=> bo (ah v21 1) λv22=> bnd (ld v22 H) λv23 H=> bnd (C 145 [v23,v18] H) λv25 H=> bo (aF v25 0) λv26=> bo (aF v25 1) λv27=> bo (aF v25 2) λv28=>
  aJ v28
  (bnd (C 146 [t0,v18,v26,v27] H) λv34 H=> bnd (st 9 t2 v34 H) λ_ H=>
  bnd (lda 9 t2 H) λr0 _=> some (.tup [r0,(B true)],H))
  (bo (bi .add 3 t15 (I 1)) λv35=>
  O9 C [t0,t2,t13,t14,v35] H))
 (bo (bd 51 []) λv36=> bnd (st 9 t2 v36 H) λ_ H=>
  bnd (lda 9 t2 H) λr0 _=> some (.tup [r0,(B false)],H)):=
 (congrFun (congrFun (congrArg (λl=> l.getD 0 λ_ _=> none) (cO afO (dH Tryz.prog 37 Tryz.f94.results.toList) (λ_ _ _=> none) (dH Tryz.prog 37 Tryz.f94.results.toList))) [t0,t2,t13,t14,t15]) H).trans (by kernel_rfl)
theorem ar9(C:Callee)(a0:AV)(H:aj){r:AV × aj}(h:afP C a0 H=some r):bH Tryz.prog C 94 [a0] H=some r:=
 rnK (A:=ajn) (c:=afO) Tryz.func94 (by kernel_rfl) (by kernel_rfl) h
def asa:Ann:=⟨[],[(3,rF 10 (some true::some true::rF 4 []))],[]⟩
def asb:Code:=Tryz.f95.body.getD .skip
def Xd(C:Callee)(a0 a1:AV)(H:aj):OA:=
 bnd (eU 51 a1 H) λv3 H=>
 bnd (lda 9 v3 H) λv5 H=> bnd (C 123 [v5] H) λv6 H=> bo (bi .neq 58 v6 (I 0)) λv7=> gdA (some v7) false (aC (some a0) H) H λv9 H=> gdA (some v7) false (aC (ah v3 1) H) H λv10 H=> gdA (some v7) false (ld v10 H) H λv11 H=> gdA (some v7) false (C 71 [v9,v11] H) H λv12 H=> gdA (some v7) false (aC (un .not v12) H) H λv13 H=> bo (aV v7 (B true) v13) λv14=> gdA (some v14) false (aC (some a0) H) H λv16 H=> gdA (some v14) false (aC (ah v3 2) H) H λv17 H=> gdA (some v14) false (ld v17 H) H λv18 H=> gdA (some v14) false (C 71 [v16,v18] H) H λv19 H=> gdA (some v14) false (aC (un .not v19) H) H λv20 H=> bo (aV v14 (B true) v20) λv21=>
 aJ v21
 (some ((I 1),H))
 (bo (au a0) λv23=> bo (ah v23 0) λv24=> bnd (ld v24 H) λv25 H=> bo (ah v3 1) λv26=> bnd (ld v26 H) λv27 H=> bnd (ix 4 v25 v27 H) λv28 H=> bnd (lda 4 v28 H) λv29 H=> bo (ah v3 0) λv30=> bnd (ld v30 H) λv31 H=> bnd (unG H (C 52 [v31] H.guard)) λv32 H=> bnd (unG H (C 51 [v29,v32] H.guard)) λv33 H=> bo (fl v33 0) λv34=> bnd (lda 9 v3 H) λv35 H=> bnd (C 147 [v34,v35] H) λv36 H=>
  some (v36,H))
theorem ajo(C:Callee)(a0 a1:AV)(H:aj){r:AV × aj}(h:Xd C a0 a1 H=some r):bH Tryz.prog C 95 [a0,a1] H=some r:=
 rnK (A:=asa) (c:=asb) Tryz.func95 (by kernel_rfl) (by kernel_rfl) h
def asc:Ann:=⟨[],[],[]⟩
def ase:Code:=Tryz.f96.body.getD .skip
def ajp(C:Callee)(a0 a1:AV)(H:aj):OA:=
 bnd (alc 51 [zI,zI,zI,zI,zI,zI,zI,zB,zN] H) λv4 H=>
 bnd (C 132 [a0,a1,(B true)] H) λv8 H=> bo (aF v8 0) λv9=> bo (aF v8 1) λv10=> bnd (st 9 v4 v9 H) λ_ H=>
 bnd (lda 9 v4 H) λr0 _=> some (.tup [r0,v10],H)
theorem asf(C:Callee)(a0 a1:AV)(H:aj){r:AV × aj}(h:ajp C a0 a1 H=some r):bH Tryz.prog C 96 [a0,a1] H=some r:=
 rnK (A:=asc) (c:=ase) Tryz.func96 (by kernel_rfl) (by kernel_rfl) h
def asg:Ann:=⟨[],[(2,rF 11 (none::rF 3 [])),(4,rF 9 (none::some false::some false::[]))],[(2,[(11,6)]),(4,[(9,5)])]⟩
def ash:Code:=Tryz.f97.body.getD .skip
def Ub(C:Callee)(a0 a1:AV)(H:aj):OA:=
 bnd (eU 51 a1 H) λv3 H=> bnd (alc 51 [zI,zI,zI,zI,zI,zI,zI,zB,zN] H) λv4 H=>
 bo (ah v3 0) λv11=> bnd (ld v11 H) λv12 H=> bo (bi .eql 3 v12 (I 1)) λv13=> gdA (some v13) false (aC (ah v3 0) H) H λv15 H=> gdA (some v13) false (ld v15 H) H λv16 H=> gdA (some v13) false (aC (bi .eql 3 v16 (I 2)) H) H λv17 H=> bo (aV v13 (B true) v17) λv18=>
 aJ v18
 (bnd (alc 51 [zI,zI,zI,zI,zI,zI,zI,zB,zN] H) λv6 H11=> bo (au a0) λv21=> bo (ah v21 11) λv22=> bo (ah v22 0) λv23=> bnd (ld v23 H11) λv24 H4=> bnd (lda 9 v3 H4) λv25 H5=> bnd (C 148 [v24,v25] H5) λv26 H6=> bo (aF v26 0) λv27=> bo (aF v26 1) λv28=> bo (aF v26 2) λv29=> bnd (st 9 v6 v27 H6) λ_ H12=> ckR H.next H11.next H5 H6 <|
  bnd (lda 9 v6 H12) λv30 H12=> gdA (some v28) true (aC (some v29) H12) H12 λv33 H12=> gdA (some v28) true (aC (bi .eql 58 v33 (I 0)) H12) H12 λv34 H12=> bo (aV v28 v34 (B false)) λv35=> bnd (st 9 v4 v30 H12) λ_ H12=>
  bnd (lda 9 v4 H12) λr0 _=> some (.tup [r0,v35],H12))
 (bnd (alc 51 [zI,zI,zI,zI,zI,zI,zI,zB,zN] H) λv9 aoa=> bo (au a0) λv38=> bo (ah v38 0) λv39=> bnd (ld v39 aoa) λv40 ag1=> bnd (lda 9 v3 ag1) λv41 ajq=> bnd (C 149 [v40,v41] ajq) λv42 ajr=> bo (aF v42 0) λv43=> bo (aF v42 1) λv44=> bnd (st 9 v9 v43 ajr) λ_ Uc=> ckR H.next aoa.next ajq ajr <|
  bnd (lda 9 v9 Uc) λv45 Uc=> bo (bi .eql 58 v44 (I 0)) λv47=> bnd (st 9 v4 v45 Uc) λ_ Uc=>
  bnd (lda 9 v4 Uc) λr0 _=> some (.tup [r0,v47],Uc))
theorem ajs(C:Callee)(a0 a1:AV)(H:aj){r:AV × aj}(h:Ub C a0 a1 H=some r):bH Tryz.prog C 97 [a0,a1] H=some r:=
 rnK (A:=asg) (c:=ash) Tryz.func97 (by kernel_rfl) (by kernel_rfl) h
def asi:Ann:=⟨[],[],[]⟩
def asj:Code:=Tryz.f98.body.getD .skip
def aaJ(C:Callee)(a0:AV)(H:aj):OA:=
 bo (au a0) λv4=> bo (ah v4 2) λv5=> bnd (ld v5 H) λv6 H=> gdA (some v6) false (aC (some a0) H) H λv8 H=> gdA (some v6) false (C 32 [v8] H) H λv9 H=> gdA (some v6) false (aC (bi .eql 3 v9 (I 0)) H) H λv10 H=> bo (aV v6 (B true) v10) λv11=>
 aJ v11
 (some ((I 6),H))
 (bo (au a0) λv13=> bo (ah v13 2) λv14=> bnd (st 1 v14 (B true) H) λ_ H=>
  some ((I 0),H))
theorem afQ(C:Callee)(a0:AV)(H:aj){r:AV × aj}(h:aaJ C a0 H=some r):bH Tryz.prog C 98 [a0] H=some r:=
 rnK (A:=asi) (c:=asj) Tryz.func98 (by kernel_rfl) (by kernel_rfl) h
def asl:Ann:=⟨[],[],[]⟩
def asn:Code:=Tryz.f99.body.getD .skip
def ajt(C:Callee)(a0 a1 a2:AV)(H:aj):OA:=
 bo (au a0) λv8=> bo (ah v8 0) λv9=> bnd (ld v9 H) λv10 H=> bo (bd 63 [(0,a1),(1,a2)]) λv13=> bnd (bs 47 1 [(0,v13)] H) λv14 H=> bnd (app 63 4 32 v10 v14 H) λv15 H=> bo (au a0) λv16=> bo (ah v16 0) λv17=> bnd (st 1 v17 v15 H) λ_ H=>
 some (.tup [],H)
theorem aso(C:Callee)(a0 a1 a2:AV)(H:aj){r:AV × aj}(h:ajt C a0 a1 a2 H=some r):bH Tryz.prog C 99 [a0,a1,a2] H=some r:=
 rnK (A:=asl) (c:=asn) Tryz.func99 (by kernel_rfl) (by kernel_rfl) h
def aju:Ann:=⟨[],[(3,rF 10 [])],[]⟩
def ajv:Code:=Tryz.f100.body.getD .skip
def QW(C:Callee)(a0 a1:AV)(H:aj):OA:=
 bnd (eU 39 a0 H) λv2 H=>
 bo (bi .lss 3 a1 (I 0)) λv7=> gdA (some v7) false (aC (some a1) H) H λv9 H=> gdA (some v7) false (lda 8 v2 H) H λv10 H=> gdA (some v7) false (C 150 [v10] H) H λv11 H=> gdA (some v7) false (aC (bi .geq 3 v9 v11) H) H λv12 H=> bo (aV v7 (B true) v12) λv13=>
 aJ v13
 (some (.tup [(I (-1)),(I 0)],H))
 (bo (ah v2 2) λv15=> bnd (ld v15 H) λv16 H=> bo (bi .quo 3 a1 v16) λv17=> bo (ah v2 2) λv19=> bnd (ld v19 H) λv20 H=> bo (bi .rem 3 a1 v20) λv21=>
  some (.tup [v17,v21],H))
theorem ajw(C:Callee)(a0 a1:AV)(H:aj){r:AV × aj}(h:QW C a0 a1 H=some r):bH Tryz.prog C 100 [a0,a1] H=some r:=
 rnK (A:=aju) (c:=ajv) Tryz.func100 (by kernel_rfl) (by kernel_rfl) h
def ajx:Ann:=⟨[],[],[]⟩
def ajy:Code:=Tryz.f101.body.getD .skip
def Xe(C:Callee)(a0 a1:AV)(H:aj):OA:=
 bnd (alc 112 [zI,zI,zI,zI,zB,zN] H) λv4 H=>
 bnd (C 151 [a0,a1] H) λv9 H=>
 bo (bi .lss 3 v9 (I 0)) λv11=>
 aJ v11
 (bo (bd 112 []) λv12=> bnd (st 6 v4 v12 H) λ_ H=>
  bnd (lda 6 v4 H) λr0 _=> some (.tup [r0,(B false)],H))
 (bo (au a0) λv14=> bo (ah v14 0) λv15=> bnd (ld v15 H) λv16 H=> bnd (ix 6 v16 v9 H) λv18 H=> bnd (lda 6 v18 H) λv19 H=> bnd (C 152 [v19] H) λv20 H=> bnd (st 6 v4 v20 H) λ_ H=>
  bnd (lda 6 v4 H) λr0 _=> some (.tup [r0,(B true)],H))
theorem ajz(C:Callee)(a0 a1:AV)(H:aj){r:AV × aj}(h:Xe C a0 a1 H=some r):bH Tryz.prog C 101 [a0,a1] H=some r:=
 rnK (A:=ajx) (c:=ajy) Tryz.func101 (by kernel_rfl) (by kernel_rfl) h
def ajA:Ann:=⟨[],[],[]⟩
def ajB:Code:=Tryz.f102.body.getD .skip
def adb(C:Callee)(a0 a1 a2 a3:AV)(H:aj):OA:=
 bo (au a0) λv12=> bo (ah v12 21) λv13=> bnd (ld v13 H) λv14 H=> bnd (C 153 [a2,a3,v14] H) λv15 H=> bo (au a0) λv16=> bo (ah v16 12) λv17=> bnd (st 9 v17 v15 H) λ_ H=>
 bo (au a0) λv20=> bo (ah v20 21) λv21=> bnd (ld v21 H) λv22 H=> bo (bi .add 3 v22 (I 1)) λv23=> bo (bi .rem 3 v23 (I 4096)) λv24=> bo (au a0) λv25=> bo (ah v25 21) λv26=> bnd (st 1 v26 v24 H) λ_ H=>
 bnd (C 91 [a0,a1] H) λv29 H=>
 some (.tup [],H)
theorem ajC(C:Callee)(a0 a1 a2 a3:AV)(H:aj){r:AV × aj}(h:adb C a0 a1 a2 a3 H=some r):bH Tryz.prog C 102 [a0,a1,a2,a3] H=some r:=
 rnK (A:=ajA) (c:=ajB) Tryz.func102 (by kernel_rfl) (by kernel_rfl) h
def ajD:Ann:=⟨[],[(5,rF 12 [])],[]⟩
def ajE:Code:=Tryz.f103.body.getD .skip
def Xf(C:Callee)(a0 a1:AV)(H:aj):OA:=
 bnd (C 151 [a0,a1] H) λv8 H=>
 bo (bi .lss 3 v8 (I 0)) λv10=>
 aJ v10
 (some ((B false),H))
 (bo (au a0) λv12=> bo (ah v12 3) λv13=> bnd (ld v13 H) λv14 H=> bo (bi .add 3 v14 (I 1)) λv15=> bo (au a0) λv16=> bo (ah v16 3) λv17=> bnd (st 1 v17 v15 H) λ_ H=>
  bo (au a0) λv19=> bo (ah v19 0) λv20=> bnd (ld v20 H) λv21 H=> bo (au a0) λv24=> bo (ah v24 3) λv25=> bnd (ld v25 H) λv26 H=> bnd (ix 6 v21 v8 H) λv27 H=> bo (ah v27 3) λv28=> bnd (st 1 v28 v26 H) λ_ H=>
  some ((B true),H))
theorem ajF(C:Callee)(a0 a1:AV)(H:aj){r:AV × aj}(h:Xf C a0 a1 H=some r):bH Tryz.prog C 103 [a0,a1] H=some r:=
 rnK (A:=ajD) (c:=ajE) Tryz.func103 (by kernel_rfl) (by kernel_rfl) h
def ajG:Ann:=⟨[],[(1,rF 7 (some true::rF 8 []))],[]⟩
def ajH:Code:=Tryz.f104.body.getD .skip
def Xg(C:Callee)(a0 a1:AV)(H:aj):OA:=
 bnd (C 151 [a0,a1] H) λv7 H=> bo (bi .lss 3 v7 (I 0)) λv8=> gdA (some v8) true (aC (some a0) H) H λv10 H=> gdA (some v8) true (aC (some a1) H) H λv11 H=> gdA (some v8) true (unG H (C 154 [v10,v11] H.guard)) H λv12 H=> gdA (some v8) true (lnS v12 H) H λv13 H=> gdA (some v8) true (aC (some a0) H) H λv14 H=> gdA (some v8) true (aC (au v14) H) H λv15 H=> gdA (some v8) true (aC (ah v15 2) H) H λv16 H=> gdA (some v8) true (ld v16 H) H λv17 H=> gdA (some v8) true (aC (bi .geq 3 v13 v17) H) H λv18 H=> bo (aV v8 v18 (B false)) λv19=>
 some (v19,H)
theorem ajI(C:Callee)(a0 a1:AV)(H:aj){r:AV × aj}(h:Xg C a0 a1 H=some r):bH Tryz.prog C 104 [a0,a1] H=some r:=
 rnK (A:=ajG) (c:=ajH) Tryz.func104 (by kernel_rfl) (by kernel_rfl) h
def ajJ:Ann:=⟨[],[],[]⟩
def ajK:Code:=Tryz.f105.body.getD .skip
def Xh(C:Callee)(a0 a1:AV)(H:aj):OA:=
 bnd (C 154 [a0,a1] H) λv9 H=>
 bnd (lnS v9 H) λv11 H=> bo (bi .eql 3 v11 (I 0)) λv12=>
 aJ v12
 (some (.tup [(I 0),(B false)],H))
 (bnd (C 155 [v9,(.fn (.func 156) [] [])] H) λv14 H=> bo (fl v14 2) λv15=>
  some (.tup [v15,(B true)],H))
theorem ajL(C:Callee)(a0 a1:AV)(H:aj){r:AV × aj}(h:Xh C a0 a1 H=some r):bH Tryz.prog C 105 [a0,a1] H=some r:=
 rnK (A:=ajJ) (c:=ajK) Tryz.func105 (by kernel_rfl) (by kernel_rfl) h
def ade:Ann:=⟨[(3,[0,1,7,8])],[],[]⟩
def Xi:Code:=Tryz.f106.body.getD .skip
def Bj(C:Callee):List AV->aj->OA:=(dL Tryz.prog C ade 19 Xi (dH Tryz.prog 19 Tryz.f106.results.toList) (λ_ _ _=> none) (dH Tryz.prog 19 Tryz.f106.results.toList)).getD 0 λ_ _=> none
def adf(C:Callee)(a0 a1:AV)(H:aj):OA:=
 bnd (lnS a0 H) λv7 H=>
 Bj C [a0,a1,v7,(I 0)] H
theorem QX(C:Callee)(t0 t1 t7 t8:AV)(H:aj):Bj C [t0,t1,t7,t8] H=
 bo (bi .lss 3 t8 t7) λv9=>
 aJ v9
 (bnd (ix 1 t0 t8 H) λv14 H=> bnd (ld v14 H) λv15 H=> bnd (qI Tryz.prog C t1 [v15] H) λv16 H=>
  aJ v16
  (some (t8,H))
  (bo (bi .add 3 t8 (I 1)) λv18=>
  Bj C [t0,t1,t7,v18] H))
 (some ((I (-1)),H)):=
 (congrFun (congrFun (congrArg (λl=> l.getD 0 λ_ _=> none) (cO Xi (dH Tryz.prog 19 Tryz.f106.results.toList) (λ_ _ _=> none) (dH Tryz.prog 19 Tryz.f106.results.toList))) [t0,t1,t7,t8]) H).trans (by kernel_rfl)
theorem ajM(C:Callee)(a0 a1:AV)(H:aj){r:AV × aj}(h:adf C a0 a1 H=some r):bH Tryz.prog C 106 [a0,a1] H=some r:=
 rnK (A:=ade) (c:=Xi) Tryz.func106 (by kernel_rfl) (by kernel_rfl) h
def adg:Ann:=⟨[(3,[0,1,7,8])],[],[]⟩
def Xj:Code:=Tryz.f107.body.getD .skip
def Bl(C:Callee):List AV->aj->OA:=(dL Tryz.prog C adg 19 Xj (dH Tryz.prog 19 Tryz.f107.results.toList) (λ_ _ _=> none) (dH Tryz.prog 19 Tryz.f107.results.toList)).getD 0 λ_ _=> none
def adh(C:Callee)(a0 a1:AV)(H:aj):OA:=
 bnd (lnS a0 H) λv7 H=>
 Bl C [a0,a1,v7,(I 0)] H
theorem QY(C:Callee)(t0 t1 t7 t8:AV)(H:aj):Bl C [t0,t1,t7,t8] H=
 bo (bi .lss 3 t8 t7) λv9=>
 aJ v9
 (bnd (ix 3 t0 t8 H) λv14 H=> bnd (lda 3 v14 H) λv15 H=> bnd (qI Tryz.prog C t1 [v15] H) λv16 H=>
  aJ v16
  (some (t8,H))
  (bo (bi .add 3 t8 (I 1)) λv18=>
  Bl C [t0,t1,t7,v18] H))
 (some ((I (-1)),H)):=
 (congrFun (congrFun (congrArg (λl=> l.getD 0 λ_ _=> none) (cO Xj (dH Tryz.prog 19 Tryz.f107.results.toList) (λ_ _ _=> none) (dH Tryz.prog 19 Tryz.f107.results.toList))) [t0,t1,t7,t8]) H).trans (by kernel_rfl)
theorem ajN(C:Callee)(a0 a1:AV)(H:aj){r:AV × aj}(h:adh C a0 a1 H=some r):bH Tryz.prog C 107 [a0,a1] H=some r:=
 rnK (A:=adg) (c:=Xj) Tryz.func107 (by kernel_rfl) (by kernel_rfl) h
def ajO:Ann:=⟨[],[],[]⟩
def ajP:Code:=Tryz.f108.body.getD .skip
def Xk(C:Callee)(a0:AV)(H:aj):OA:=
 bo (bi .eql 100 a0 (.s (Go.Value.slice none 0 0))) λv4=>
 aJ v4
 (some ((.s (Go.Value.slice none 0 0)),H))
 (bnd (bs 100 0 [] H) λv5 H=> bnd (app 119 3 24 v5 a0 H) λv7 H=>
  some (v7,H))
theorem adi(C:Callee)(a0:AV)(H:aj){r:AV × aj}(h:Xk C a0 H=some r):bH Tryz.prog C 108 [a0] H=some r:=
 rnK (A:=ajO) (c:=ajP) Tryz.func108 (by kernel_rfl) (by kernel_rfl) h
def adk:Ann:=⟨[(4,[1,2,5,12,13])],[(6,rF 7 (some true::some false::some false::[]))],[]⟩
def Xl:Code:=Tryz.f109.body.getD .skip
def Bo(C:Callee):List AV->aj->OA:=(dL Tryz.prog C adk 32 Xl (dH Tryz.prog 32 Tryz.f109.results.toList) (λ_ _ _=> none) (dH Tryz.prog 32 Tryz.f109.results.toList)).getD 0 λ_ _=> none
def Bq(C:Callee)(t1 t2 t5 t12 t13:AV)(H:aj):OA:=
 bo (bi .add 3 t13 (I 1)) λv30=>
 Bo C [t1,t2,t5,t12,v30] H
def adl(C:Callee)(a0 a1:AV)(H:aj):OA:=
 bnd (eU 39 a0 H) λv2 H=>
 bnd (lda 8 v2 H) λv7 H=> bnd (mkm .i64 H) λv8 H=> bo (bd 259 [(0,v7),(1,v8)]) λv9=> bnd (eU 259 v9 H) λv10 H=>
 bo (ah v2 1) λv11=> bnd (ld v11 H) λv12 H=>
 Bo C [a1,v2,v10,v12,(I 0)] H
theorem QZ(C:Callee)(t1 t2 t5 t12 t13:AV)(H:aj):Bo C [t1,t2,t5,t12,t13] H=
 bo (bi .lss 3 t13 t12) λv14=>
 aJ v14
 (bnd (lda 8 t2 H) λv16 H=> bnd (C 142 [v16,t13] H) λv18 H=> bo (bi .eql 3 v18 t1) λv20=>
  aJ v20
  (bo (au t5) λv22=> bo (ah v22 8) λv23=> bnd (ld v23 H) λv24 H=> bnd (lda 8 t2 H) λv26 H=> bnd (unG H (C 157 [v26,t13] H.guard)) λv28 H=> bo (bd 260 [(0,(I 0)),(1,(I (-1))),(2,v28)]) λv29=> bnd (mup .i64 v24 t13 v29 H) λ_ H=>
  Bq C t1 t2 t5 t12 t13 H)
  (Bq C t1 t2 t5 t12 t13 H))
 (some (t5,H)):=
 (congrFun (congrFun (congrArg (λl=> l.getD 0 λ_ _=> none) (cO Xl (dH Tryz.prog 32 Tryz.f109.results.toList) (λ_ _ _=> none) (dH Tryz.prog 32 Tryz.f109.results.toList))) [t1,t2,t5,t12,t13]) H).trans (by kernel_rfl)
theorem ajQ(C:Callee)(a0 a1:AV)(H:aj){r:AV × aj}(h:adl C a0 a1 H=some r):bH Tryz.prog C 109 [a0,a1] H=some r:=
 rnK (A:=adk) (c:=Xl) Tryz.func109 (by kernel_rfl) (by kernel_rfl) h
def ajR:Ann:=⟨[],[],[]⟩
def ajS:Code:=Tryz.f110.body.getD .skip
def adn(C:Callee)(H:aj):OA:=
 bnd (mkm .i64 H) λv1 H=> bnd (mkm .i64 H) λv2 H=> bo (bd 264 [(0,v1),(1,v2)]) λv3=> bnd (eU 264 v3 H) λv4 H=>
 some (v4,H)
theorem ajT(C:Callee)(H:aj){r:AV × aj}(h:adn C H=some r):bH Tryz.prog C 110 [] H=some r:=
 rnK (A:=ajR) (c:=ajS) Tryz.func110 (by kernel_rfl) (by kernel_rfl) h
def ado:Ann:=⟨[(6,[1,2,5,6])],[],[]⟩
def Xm:Code:=Tryz.f122.body.getD .skip
def Bv(C:Callee):List AV->aj->OA:=(dL Tryz.prog C ado 44 Xm (dH Tryz.prog 44 Tryz.f122.results.toList) (λ_ _ _=> none) (dH Tryz.prog 44 Tryz.f122.results.toList)).getD 0 λ_ _=> none
def Bz(C:Callee)(t1 t2 t5 t6 t7:AV)(H:aj):OA:=
 bnd (bs 22 1 [(0,t7)] H) λv41 H=> bnd (app 3 1 8 t5 v41 H) λv42 H=>
 bo (bi .add 3 t6 (I 1)) λv22=>
 Bv C [t1,t2,v42,v22] H
def adp(C:Callee)(a0 a1:AV)(H:aj):OA:=
 bnd (eU 39 a0 H) λv2 H=>
 bo (bi .lss 3 a1 (I 0)) λv10=> gdA (some v10) false (aC (some a1) H) H λv12 H=> gdA (some v10) false (aC (ah v2 1) H) H λv13 H=> gdA (some v10) false (ld v13 H) H λv14 H=> gdA (some v10) false (aC (bi .geq 3 v12 v14) H) H λv15 H=> bo (aV v10 (B true) v15) λv16=>
 aJ v16
 (some ((.s (Go.Value.slice none 0 0)),H))
 (Bv C [a1,v2,(.s (Go.Value.slice none 0 0)),(I 0)] H)
theorem Q5(C:Callee)(t1 t2 t5 t6:AV)(H:aj):Bv C [t1,t2,t5,t6] H=
 bo (ah t2 2) λv18=> bnd (ld v18 H) λv19 H=> bo (bi .lss 3 t6 v19) λv20=>
 aJ v20
 (bo (ah t2 2) λv24=> bnd (ld v24 H) λv25 H=> bo (bi .mul 3 t1 v25) λv26=> bo (bi .add 3 v26 t6) λv28=>
  bo (ah t2 7) λv30=> bnd (ld v30 H) λv31 H=> bnd (lnS v31 H) λv32 H=> bo (bi .lss 3 v28 v32) λv33=>
  aJ v33
  (bo (ah t2 7) λv34=> bnd (ld v34 H) λv35 H=> bnd (ix 1 v35 v28 H) λv37 H=> bnd (ld v37 H) λv38 H=>
  Bz C t1 t2 t5 t6 v38 H)
  (Bz C t1 t2 t5 t6 (I 0) H))
 (some (t5,H)):=
 (congrFun (congrFun (congrArg (λl=> l.getD 0 λ_ _=> none) (cO Xm (dH Tryz.prog 44 Tryz.f122.results.toList) (λ_ _ _=> none) (dH Tryz.prog 44 Tryz.f122.results.toList))) [t1,t2,t5,t6]) H).trans (by kernel_rfl)
theorem ajU(C:Callee)(a0 a1:AV)(H:aj){r:AV × aj}(h:adp C a0 a1 H=some r):bH Tryz.prog C 122 [a0,a1] H=some r:=
 rnK (A:=ado) (c:=Xm) Tryz.func122 (by kernel_rfl) (by kernel_rfl) h
def ajV:Ann:=⟨[],[],[]⟩
def ajW:Code:=Tryz.f123.body.getD .skip
def Xn(C:Callee)(a0:AV)(H:aj):OA:=
 bnd (eU 51 a0 H) λv1 H=>
 bo (ah v1 1) λv5=> bnd (ld v5 H) λv6 H=> bnd (C 164 [v6,(I 0),(I 6)] H) λv7 H=> gdA (some v7) true (aC (ah v1 2) H) H λv9 H=> gdA (some v7) true (ld v9 H) H λv10 H=> gdA (some v7) true (C 164 [v10,(I 0),(I 6)] H) H λv11 H=> bo (aV v7 v11 (B false)) λv12=> gdA (some v12) true (aC (ah v1 3) H) H λv14 H=> gdA (some v12) true (ld v14 H) H λv15 H=> gdA (some v12) true (C 164 [v15,(I 0),(I 4096)] H) H λv16 H=> bo (aV v12 v16 (B false)) λv17=>
 bo (ah v1 0) λv18=> bnd (ld v18 H) λv19 H=> bnd (C 164 [v19,(I 1),(I 10)] H) λv20 H=> gdA (some v20) true (aC (ah v1 4) H) H λv22 H=> gdA (some v20) true (ld v22 H) H λv23 H=> gdA (some v20) true (C 164 [v23,(I 0),(I 8)] H) H λv24 H=> bo (aV v20 v24 (B false)) λv25=> gdA (some v25) true (aC (ah v1 5) H) H λv27 H=> gdA (some v25) true (ld v27 H) H λv28 H=> gdA (some v25) true (C 164 [v28,(I (-1)),(I 6)] H) H λv29 H=> bo (aV v25 v29 (B false)) λv30=>
 bo (un .not v17) λv32=> gdA (some v32) false (aC (some v30) H) H λv34 H=> gdA (some v32) false (aC (un .not v34) H) H λv35 H=> bo (aV v32 (B true) v35) λv36=> gdA (some v36) false (aC (ah v1 6) H) H λv38 H=> gdA (some v36) false (ld v38 H) H λv39 H=> gdA (some v36) false (C 164 [v39,(I 0),(I 3)] H) H λv40 H=> gdA (some v36) false (aC (un .not v40) H) H λv41 H=> bo (aV v36 (B true) v41) λv42=> gdA (some v42) false (aC (ah v1 8) H) H λv44 H=> gdA (some v42) false (ld v44 H) H λv45 H=> gdA (some v42) false (lnS v45 H) H λv46 H=> gdA (some v42) false (aC (bi .gtr 3 v46 (I 4)) H) H λv47 H=> bo (aV v42 (B true) v47) λv48=>
 aJ v48
 (some ((I 1),H))
 (some ((I 0),H))
theorem adq(C:Callee)(a0:AV)(H:aj){r:AV × aj}(h:Xn C a0 H=some r):bH Tryz.prog C 123 [a0] H=some r:=
 rnK (A:=ajV) (c:=ajW) Tryz.func123 (by kernel_rfl) (by kernel_rfl) h
def ajX:Ann:=⟨[],[],[]⟩
def ajY:Code:=Tryz.f124.body.getD .skip
def Xo(C:Callee)(a0:AV)(H:aj):OA:=
 aJ a0
 (some ((.s (Go.Value.int Go.IntKind.u8 1)),H))
 (some ((.s (Go.Value.int Go.IntKind.u8 0)),H))
theorem ajZ(C:Callee)(a0:AV)(H:aj){r:AV × aj}(h:Xo C a0 H=some r):bH Tryz.prog C 124 [a0] H=some r:=
 rnK (A:=ajX) (c:=ajY) Tryz.func124 (by kernel_rfl) (by kernel_rfl) h
def adr:Ann:=⟨[(4,[0,3,4])],[],[]⟩
def Xp:Code:=Tryz.f125.body.getD .skip
def BA(C:Callee):List AV->aj->OA:=(dL Tryz.prog C adr 17 Xp (dH Tryz.prog 17 Tryz.f125.results.toList) (λ_ _ _=> none) (dH Tryz.prog 17 Tryz.f125.results.toList)).getD 0 λ_ _=> none
def ads(C:Callee)(a0:AV)(H:aj):OA:=
 BA C [a0,(.s (Go.Value.slice none 0 0)),(I 56)] H
theorem Q7(C:Callee)(t0 t3 t4:AV)(H:aj):BA C [t0,t3,t4] H=
 bo (bi .geq 3 t4 (I 0)) λv6=>
 aJ v6
 (bo (bi .shr 3 t0 t4) λv12=> bnd (cv 3 5 v12 H) λv13 H=> bnd (bs 169 1 [(0,v13)] H) λv14 H=> bnd (app 5 1 1 t3 v14 H) λv15 H=>
  bo (bi .sub 3 t4 (I 8)) λv8=>
  BA C [t0,v15,v8] H)
 (some (t3,H)):=
 (congrFun (congrFun (congrArg (λl=> l.getD 0 λ_ _=> none) (cO Xp (dH Tryz.prog 17 Tryz.f125.results.toList) (λ_ _ _=> none) (dH Tryz.prog 17 Tryz.f125.results.toList))) [t0,t3,t4]) H).trans (by kernel_rfl)
theorem aj0(C:Callee)(a0:AV)(H:aj){r:AV × aj}(h:ads C a0 H=some r):bH Tryz.prog C 125 [a0] H=some r:=
 rnK (A:=adr) (c:=Xp) Tryz.func125 (by kernel_rfl) (by kernel_rfl) h
def aj1:Ann:=⟨[],[],[]⟩
def aj2:Code:=Tryz.f126.body.getD .skip
def adt(C:Callee)(a0:AV)(H:aj):OA:=
 bnd (C 165 [a0] H) λv5 H=>
 bo (bi .shr 26 v5 (.s (Go.Value.int Go.IntKind.u64 8))) λv8=> bnd (cv 26 5 v8 H) λv9 H=> bnd (cv 26 5 v5 H) λv11 H=> bnd (bs 169 2 [(0,v9),(1,v11)] H) λv12 H=> bnd (bs 294 2 [(0,a0),(1,v12)] H) λv13 H=> bnd (C 166 [v13] H) λv14 H=>
 some (v14,H)
theorem aj3(C:Callee)(a0:AV)(H:aj){r:AV × aj}(h:adt C a0 H=some r):bH Tryz.prog C 126 [a0] H=some r:=
 rnK (A:=aj1) (c:=aj2) Tryz.func126 (by kernel_rfl) (by kernel_rfl) h
def aj6:Ann:=⟨[],[],[]⟩
def aj7:Code:=Tryz.f127.body.getD .skip
def Q8(C:Callee)(a0:AV)(H:aj):OA:=
 bnd (lnS a0 H) λv6 H=> bo (bi .sub 3 v6 (I 2)) λv7=>
 bo (bi .lss 3 v7 (I 0)) λv9=> gdA (some v9) false (aC (some a0) H) H λv11 H=> gdA (some v9) false (aC (some v7) H) H λv12 H=> gdA (some v9) false (aC (slS 1 v11 none (some v12) none) H) H λv13 H=> gdA (some v9) false (C 126 [v13] H) H λv14 H=> gdA (some v9) false (aC (some a0) H) H λv15 H=> gdA (some v9) false (C 130 [v14,v15] H) H λv16 H=> gdA (some v9) false (aC (un .not v16) H) H λv17 H=> bo (aV v9 (B true) v17) λv18=>
 aJ v18
 (some (.tup [(.s (Go.Value.slice none 0 0)),(B false)],H))
 (bo (slS 1 a0 none (some v7) none) λv21=> bnd (C 131 [v21] H) λv22 H=>
  some (.tup [v22,(B true)],H))
theorem Xq(C:Callee)(a0:AV)(H:aj){r:AV × aj}(h:Q8 C a0 H=some r):bH Tryz.prog C 127 [a0] H=some r:=
 rnK (A:=aj6) (c:=aj7) Tryz.func127 (by kernel_rfl) (by kernel_rfl) h
def aj8:Ann:=⟨[],[],[]⟩
def aj9:Code:=Tryz.f128.body.getD .skip
def Jf(C:Callee)(t2 t3:AV)(H:aj):OA:=
 some ((.fn (.func 167) [] [t2,t3]),H)
def adu(C:Callee)(a0 a1:AV)(H:aj):OA:=
 bnd (eU 169 a0 H) λv2 H=> bnd (eU 3 a1 H) λv3 H=>
 bnd (ld v3 H) λv5 H=> bo (bi .lss 3 v5 (I 1)) λv6=>
 aJ v6
 (bnd (stk H) λv7 H=> bnd (stk H) λ_ H=>
  Jf C v2 v3 H)
 (Jf C v2 v3 H)
theorem akb(C:Callee)(a0 a1:AV)(H:aj){r:AV × aj}(h:adu C a0 a1 H=some r):bH Tryz.prog C 128 [a0,a1] H=some r:=
 rnK (A:=aj8) (c:=aj9) Tryz.func128 (by kernel_rfl) (by kernel_rfl) h
def adv:Ann:=⟨[(4,[3,6,7,8])],[],[]⟩
def Xr:Code:=Tryz.f129.body.getD .skip
def BD(C:Callee):List AV->aj->OA:=(dL Tryz.prog C adv 20 Xr (dH Tryz.prog 20 Tryz.f129.results.toList) (λ_ _ _=> none) (dH Tryz.prog 20 Tryz.f129.results.toList)).getD 0 λ_ _=> none
def adw(C:Callee)(a0:AV)(H:aj):OA:=
 bnd (lnS a0 H) λv7 H=>
 BD C [(.s (Go.Value.int Go.IntKind.u64 0)),a0,v7,(I 0)] H
theorem Q9(C:Callee)(t3 t6 t7 t8:AV)(H:aj):BD C [t3,t6,t7,t8] H=
 bo (bi .lss 3 t8 t7) λv9=>
 aJ v9
 (bnd (ix 1 t6 t8 H) λv10 H=> bnd (ld v10 H) λv11 H=>
  bo (bi .shl 213 t3 (.s (Go.Value.int Go.IntKind.u64 8))) λv13=> bnd (cv 5 213 v11 H) λv15 H=> bo (bi .or 213 v13 v15) λv16=>
  bo (bi .add 3 t8 (I 1)) λv17=>
  BD C [v16,t6,t7,v17] H)
 (bnd (cv 213 3 t3 H) λv19 H=>
  some (v19,H)):=
 (congrFun (congrFun (congrArg (λl=> l.getD 0 λ_ _=> none) (cO Xr (dH Tryz.prog 20 Tryz.f129.results.toList) (λ_ _ _=> none) (dH Tryz.prog 20 Tryz.f129.results.toList))) [t3,t6,t7,t8]) H).trans (by kernel_rfl)
theorem akc(C:Callee)(a0:AV)(H:aj){r:AV × aj}(h:adw C a0 H=some r):bH Tryz.prog C 129 [a0] H=some r:=
 rnK (A:=adv) (c:=Xr) Tryz.func129 (by kernel_rfl) (by kernel_rfl) h
def akd:Ann:=⟨[],[],[]⟩
def ake:Code:=Tryz.f130.body.getD .skip
def adx(C:Callee)(a0 a1:AV)(H:aj):OA:=
 bnd (cv 169 9 a0 H) λv6 H=> bnd (cv 169 9 a1 H) λv8 H=> bo (bi .eql 9 v6 v8) λv9=>
 some (v9,H)
theorem akf(C:Callee)(a0 a1:AV)(H:aj){r:AV × aj}(h:adx C a0 a1 H=some r):bH Tryz.prog C 130 [a0,a1] H=some r:=
 rnK (A:=akd) (c:=ake) Tryz.func130 (by kernel_rfl) (by kernel_rfl) h
def akg:Ann:=⟨[],[],[]⟩
def akh:Code:=Tryz.f131.body.getD .skip
def ady(C:Callee)(a0:AV)(H:aj):OA:=
 bo (bi .eql 169 a0 (.s (Go.Value.slice none 0 0))) λv4=>
 aJ v4
 (some ((.s (Go.Value.slice none 0 0)),H))
 (bnd (bs 169 0 [] H) λv5 H=> bnd (app 5 1 1 v5 a0 H) λv7 H=>
  some (v7,H))
theorem aki(C:Callee)(a0:AV)(H:aj){r:AV × aj}(h:ady C a0 H=some r):bH Tryz.prog C 131 [a0] H=some r:=
 rnK (A:=akg) (c:=akh) Tryz.func131 (by kernel_rfl) (by kernel_rfl) h
def akj:Ann:=⟨[],[],[]⟩
def akk:Code:=Tryz.f132.body.getD .skip
def Xt(C:Callee)(a0 a1 a2:AV)(H:aj):OA:=
 bnd (alc 51 [zI,zI,zI,zI,zI,zI,zI,zB,zN] H) λv6 H=>
 bnd (C 71 [a0,a1] H) λv10 H=> bo (un .not v10) λv11=>
 aJ v11
 (bo (bd 51 []) λv12=> bnd (st 9 v6 v12 H) λ_ H=>
  bnd (lda 9 v6 H) λr0 _=> some (.tup [r0,(B false)],H))
 (bo (au a0) λv14=> bo (ah v14 0) λv15=> bnd (ld v15 H) λv16 H=> bnd (ix 4 v16 a1 H) λv18 H=> bnd (lda 4 v18 H) λv19 H=> bnd (C 51 [v19,a2] H) λv21 H=> bo (fl v21 1) λv22=> bnd (C 168 [v22] H) λv23 H=> bo (aF v23 0) λv24=> bo (aF v23 1) λv25=> bnd (st 9 v6 v24 H) λ_ H=>
  bnd (lda 9 v6 H) λr0 _=> some (.tup [r0,v25],H))
theorem adz(C:Callee)(a0 a1 a2:AV)(H:aj){r:AV × aj}(h:Xt C a0 a1 a2 H=some r):bH Tryz.prog C 132 [a0,a1,a2] H=some r:=
 rnK (A:=akj) (c:=akk) Tryz.func132 (by kernel_rfl) (by kernel_rfl) h
def akl:Ann:=⟨[],[],[]⟩
def akm:Code:=Tryz.f133.body.getD .skip
def Ed(C:Callee)(a0 a1 a2 a3:AV)(H:aj):OA:=
 bnd (eU 74 a0 H) λv4 H=> bnd (eU 51 a3 H) λv7 H=> bnd (alc 74 [zI,zI,zI,zI,zI,zI,zN,zI,zI] H) λv8 H=>
 bo (ah v4 0) λv10=> bnd (ld v10 H) λv11 H=> bo (bi .neq 3 v11 (I 1)) λv12=> gdA (some v12) false (lda 9 v4 H) H λv14 H=> gdA (some v12) false (lda 9 v7 H) H λv15 H=> gdA (some v12) false (C 169 [v14,v15] H) H λv16 H=> gdA (some v12) false (aC (un .not v16) H) H λv17 H=> bo (aV v12 (B true) v17) λv18=>
 aJ v18
 (bo (bd 74 []) λv19=> bnd (st 9 v8 v19 H) λ_ H=>
  bnd (lda 9 v8 H) λr0 _=> some (.tup [r0,(B false)],H))
 (bo (ah v4 3) λv20=> bnd (ld v20 H) λv21 H=>
  bo (bi .eql 3 v21 (I 1)) λv23=>
  aJ v23
  (bnd (lda 9 v4 H) λv24 H=> bnd (lda 9 v7 H) λv27 H=> bnd (C 170 [v24,a1,a2,v27] H) λv28 H=> bo (aF v28 0) λv29=> bo (aF v28 1) λv30=> bnd (st 9 v8 v29 H) λ_ H=>
  bnd (lda 9 v8 H) λr0 _=> some (.tup [r0,v30],H))
  (bo (bi .eql 3 v21 (I 2)) λv32=>
  aJ v32
  (bnd (lda 9 v4 H) λv33 H=> bnd (lda 9 v7 H) λv36 H=> bnd (C 171 [v33,a1,a2,v36] H) λv37 H=> bo (aF v37 0) λv38=> bo (aF v37 1) λv39=> bnd (st 9 v8 v38 H) λ_ H=>
   bnd (lda 9 v8 H) λr0 _=> some (.tup [r0,v39],H))
  (bo (bi .eql 3 v21 (I 6)) λv41=>
   aJ v41
   (bo (ah v4 3) λv42=> bnd (st 1 v42 (I 0) H) λ_ H=>
   bnd (lda 9 v4 H) λv43 H=> bnd (st 9 v8 v43 H) λ_ H=>
   bnd (lda 9 v8 H) λr0 _=> some (.tup [r0,(B true)],H))
   (bo (bd 74 []) λv44=> bnd (st 9 v8 v44 H) λ_ H=>
   bnd (lda 9 v8 H) λr0 _=> some (.tup [r0,(B false)],H)))))
theorem akn(C:Callee)(a0 a1 a2 a3:AV)(H:aj){r:AV × aj}(h:Ed C a0 a1 a2 a3 H=some r):bH Tryz.prog C 133 [a0,a1,a2,a3] H=some r:=
 rnK (A:=akl) (c:=akm) Tryz.func133 (by kernel_rfl) (by kernel_rfl) h
def ako:Ann:=⟨[],[(6,rF 8 (some true::rF 8 []))],[(6,[(3,10),(5,10),(5,12)])]⟩
def akp:Code:=Tryz.f134.body.getD .skip
def BF(C:Callee)(t1 t2 t4 t8:AV)(H:aj):OA:=
 bo (ah t4 5) λv50=> bnd (ld v50 H) λv51 H=> bo (ah t4 7) λv52=> bnd (st 1 v52 v51 H) λ_ H=>
 bnd (lda 9 t4 H) λv53 H=> bnd (C 172 [v53,t1,t2] H) λv56 H=> bnd (st 9 t8 v56 H) λ_ H=>
 bnd (lda 9 t8 H) λr0 _=> some (.tup [r0,(B true)],H)
def BG(C:Callee)(t1 t2 t4 t7 t8:AV)(H:aj):OA:=
 bo (ah t7 5) λv65=> bnd (ld v65 H) λv66 H=> bo (ah t4 7) λv67=> bnd (st 1 v67 v66 H) λ_ H=>
 bnd (lda 9 t4 H) λv68 H=> bnd (C 172 [v68,t1,t2] H) λv71 H=> bnd (st 9 t8 v71 H) λ_ H=>
 bnd (lda 9 t8 H) λr0 _=> some (.tup [r0,(B true)],H)
def xX(C:Callee)(a0 a1 a2 a3:AV)(H:aj):OA:=
 bnd (eU 74 a0 H) λv4 H=> bnd (eU 51 a3 H) λv7 H=> bnd (alc 74 [zI,zI,zI,zI,zI,zI,zN,zI,zI] H) λv8 H=>
 bo (ah v4 0) λv12=> bnd (ld v12 H) λv13 H=> bo (bi .neq 3 v13 (I 2)) λv14=> gdA (some v14) false (lda 9 v4 H) H λv16 H=> gdA (some v14) false (lda 9 v7 H) H λv17 H=> gdA (some v14) false (C 169 [v16,v17] H) H λv18 H=> gdA (some v14) false (aC (un .not v18) H) H λv19 H=> bo (aV v14 (B true) v19) λv20=>
 aJ v20
 (bo (bd 74 []) λv21=> bnd (st 9 v8 v21 H) λ_ H=>
  bnd (lda 9 v8 H) λr0 _=> some (.tup [r0,(B false)],H))
 (bo (ah v4 1) λv24=> bnd (ld v24 H) λv25 H=> bnd (C 101 [a2,v25] H) λv26 H=> bo (aF v26 0) λv27=> bo (aF v26 1) λv28=> bnd (alc 112 [zI,zI,zI,zI,zB,zN] H) λv10 H=> bnd (st 6 v10 v27 H) λ_ H=>
  bo (ah v4 3) λv29=> bnd (ld v29 H) λv30 H=>
  bo (bi .eql 3 v30 (I 1)) λv32=>
  aJ v32
  (bo (ah v7 6) λv33=> bnd (ld v33 H) λv34 H1=> bo (ah v7 5) λv35=> bnd (ld v35 H1) λv36 H3=> bo (ah v7 5) λv37=> bnd (ld v37 H3) λv38 H5=> bo (ah v7 8) λv39=> bnd (ld v39 H5) λv40 H7=> bnd (unG H7 (C 28 [v40] H7.guard)) λv41 H8=> bo (ah v4 4) λv42=> bnd (st 1 v42 v34 H8) λ_ H10=> bo (ah v4 5) λv43=> bnd (st 1 v43 v36 H10) λ_ H12=> bo (ah v4 8) λv44=> bnd (st 1 v44 v38 H12) λ_ H14=> bo (ah v4 6) λv45=> bnd (st 1 v45 v41 H14) λ_ H16=> ck (aU v35) H8 H10 <| ck (aU v37) H8 H10 <| ck (aU v37) H10 H12 <|
  aJ v28
  (bo (ah v10 5) λv47=> bnd (ld v47 H16) λv48 H16=> bo (ah v4 6) λv49=> bnd (st 1 v49 v48 H16) λ_ H16=>
   BF C a1 a2 v4 v8 H16)
  (BF C a1 a2 v4 v8 H16))
  (bo (bi .eql 3 v30 (I 3)) λv58=>
  aJ v58
  (bo (un .not v28) λv60=>
   aJ v60
   (bo (ah v7 8) λv61=> bnd (ld v61 H) λv62 H=> bnd (C 28 [v62] H) λv63 H=> bo (ah v4 6) λv64=> bnd (st 1 v64 v63 H) λ_ H=>
   BG C a1 a2 v4 v7 v8 H)
   (BG C a1 a2 v4 v7 v8 H))
  (bo (bi .eql 3 v30 (I 6)) λv73=>
   aJ v73
   (bo (ah v4 3) λv74=> bnd (st 1 v74 (I 0) H) λ_ H=>
   bnd (lda 9 v4 H) λv75 H=> bnd (st 9 v8 v75 H) λ_ H=>
   bnd (lda 9 v8 H) λr0 _=> some (.tup [r0,(B true)],H))
   (bo (bd 74 []) λv76=> bnd (st 9 v8 v76 H) λ_ H=>
   bnd (lda 9 v8 H) λr0 _=> some (.tup [r0,(B false)],H)))))
theorem akq(C:Callee)(a0 a1 a2 a3:AV)(H:aj){r:AV × aj}(h:xX C a0 a1 a2 a3 H=some r):bH Tryz.prog C 134 [a0,a1,a2,a3] H=some r:=
 rnK (A:=ako) (c:=akp) Tryz.func134 (by kernel_rfl) (by kernel_rfl) h
def akr:Ann:=⟨[],[],[]⟩
def aks:Code:=Tryz.f135.body.getD .skip
def vS(C:Callee)(a0 a1 a2 a3:AV)(H:aj):OA:=
 bnd (eU 74 a0 H) λv4 H=> bnd (eU 51 a3 H) λv7 H=> bnd (alc 74 [zI,zI,zI,zI,zI,zI,zN,zI,zI] H) λv8 H=>
 bo (ah v4 0) λv10=> bnd (ld v10 H) λv11 H=> bo (bi .neq 3 v11 (I 3)) λv12=> gdA (some v12) false (lda 9 v4 H) H λv14 H=> gdA (some v12) false (lda 9 v7 H) H λv15 H=> gdA (some v12) false (C 169 [v14,v15] H) H λv16 H=> gdA (some v12) false (aC (un .not v16) H) H λv17 H=> bo (aV v12 (B true) v17) λv18=>
 aJ v18
 (bo (bd 74 []) λv19=> bnd (st 9 v8 v19 H) λ_ H=>
  bnd (lda 9 v8 H) λr0 _=> some (.tup [r0,(B false)],H))
 (bo (ah v4 3) λv20=> bnd (ld v20 H) λv21 H=>
  bo (bi .eql 3 v21 (I 1)) λv23=>
  aJ v23
  (bnd (lda 9 v4 H) λv24 H=> bnd (lda 9 v7 H) λv26 H=> bnd (C 173 [v24,a2,v26] H) λv27 H=> bnd (st 9 v8 v27 H) λ_ H=>
  bnd (lda 9 v8 H) λr0 _=> some (.tup [r0,(B true)],H))
  (bo (bi .eql 3 v21 (I 4)) λv29=>
  aJ v29
  (bo (ah v4 7) λv30=> bnd (ld v30 H) λv31 H=> bo (bi .eql 3 v31 (I (-1))) λv32=>
   aJ v32
   (bnd (lda 9 v4 H) λv33 H=> bo (ah v4 8) λv35=> bnd (ld v35 H) λv36 H=> bnd (C 174 [v33,a2,v36] H) λv37 H=> bnd (st 9 v8 v37 H) λ_ H=>
   bnd (lda 9 v8 H) λr0 _=> some (.tup [r0,(B true)],H))
   (bo (ah v4 3) λv38=> bnd (st 1 v38 (I 5) H) λ_ H=>
   bnd (lda 9 v4 H) λv39 H=> bnd (st 9 v8 v39 H) λ_ H=>
   bnd (lda 9 v8 H) λr0 _=> some (.tup [r0,(B true)],H)))
  (bo (bi .eql 3 v21 (I 5)) λv41=>
   aJ v41
   (bo (ah v4 5) λv42=> bnd (ld v42 H) λv43 H=> bo (bi .eql 3 v43 (I (-1))) λv44=>
   aJ v44
   (bnd (lda 9 v4 H) λv45 H=> bo (ah v4 7) λv47=> bnd (ld v47 H) λv48 H=> bnd (C 174 [v45,a2,v48] H) λv49 H=> bnd (st 9 v8 v49 H) λ_ H=>
    bnd (lda 9 v8 H) λr0 _=> some (.tup [r0,(B true)],H))
   (bnd (lda 9 v4 H) λv50 H=> bo (ah v4 8) λv52=> bnd (ld v52 H) λv53 H=> bnd (C 174 [v50,a2,v53] H) λv54 H=> bnd (st 9 v8 v54 H) λ_ H=>
    bnd (lda 9 v8 H) λr0 _=> some (.tup [r0,(B true)],H)))
   (bo (bi .eql 3 v21 (I 6)) λv56=>
   aJ v56
   (bo (ah v4 3) λv57=> bnd (st 1 v57 (I 0) H) λ_ H=>
    bnd (lda 9 v4 H) λv58 H=> bnd (st 9 v8 v58 H) λ_ H=>
    bnd (lda 9 v8 H) λr0 _=> some (.tup [r0,(B true)],H))
   (bo (bd 74 []) λv59=> bnd (st 9 v8 v59 H) λ_ H=>
    bnd (lda 9 v8 H) λr0 _=> some (.tup [r0,(B false)],H))))))
theorem akt(C:Callee)(a0 a1 a2 a3:AV)(H:aj){r:AV × aj}(h:vS C a0 a1 a2 a3 H=some r):bH Tryz.prog C 135 [a0,a1,a2,a3] H=some r:=
 rnK (A:=akr) (c:=aks) Tryz.func135 (by kernel_rfl) (by kernel_rfl) h
def aku:Ann:=⟨[],[],[]⟩
def akv:Code:=Tryz.f136.body.getD .skip
def Xu(C:Callee)(a0 a1:AV)(H:aj):OA:=
 bo (au a0) λv6=> bo (ah v6 2) λv7=> bnd (ld v7 H) λv8 H=> bo (un .not v8) λv9=>
 aJ v9
 (some ((I 6),H))
 (bo (au a0) λv13=> bo (ah v13 1) λv14=> bnd (ld v14 H) λv15 H=> bnd (bs 22 1 [(0,a1)] H) λv17 H=> bnd (app 3 1 8 v15 v17 H) λv18 H=> bo (au a0) λv19=> bo (ah v19 1) λv20=> bnd (st 1 v20 v18 H) λ_ H=> bo (au a0) λv21=> bo (ah v21 2) λv22=> bnd (st 1 v22 (B false) H) λ_ H=>
  some ((I 0),H))
theorem adA(C:Callee)(a0 a1:AV)(H:aj){r:AV × aj}(h:Xu C a0 a1 H=some r):bH Tryz.prog C 136 [a0,a1] H=some r:=
 rnK (A:=aku) (c:=akv) Tryz.func136 (by kernel_rfl) (by kernel_rfl) h
def akw:Ann:=⟨[],[],[]⟩
def akx:Code:=Tryz.f137.body.getD .skip
def adB(C:Callee)(a0 a1 a2 a3:AV)(H:aj):OA:=
 bo (au a0) λv10=> bo (ah v10 0) λv11=> bnd (ld v11 H) λv12 H=> bo (bd 63 [(0,a1),(1,a2),(2,(B true)),(3,a3)]) λv16=> bnd (bs 47 1 [(0,v16)] H) λv17 H=> bnd (app 63 4 32 v12 v17 H) λv18 H=> bo (au a0) λv19=> bo (ah v19 0) λv20=> bnd (st 1 v20 v18 H) λ_ H=>
 some (.tup [],H)
theorem aky(C:Callee)(a0 a1 a2 a3:AV)(H:aj){r:AV × aj}(h:adB C a0 a1 a2 a3 H=some r):bH Tryz.prog C 137 [a0,a1,a2,a3] H=some r:=
 rnK (A:=akw) (c:=akx) Tryz.func137 (by kernel_rfl) (by kernel_rfl) h
def akz:Ann:=⟨[],[],[]⟩
def akA:Code:=Tryz.f138.body.getD .skip
def Xv(C:Callee)(a0 a1:AV)(H:aj):OA:=
 bnd (eU 112 a0 H) λv2 H=>
 bnd (lda 6 v2 H) λv5 H=> bnd (C 175 [v5,a1] H) λv7 H=> bo (un .not v7) λv8=>
 aJ v8
 (some ((I 0),H))
 (bo (ah v2 5) λv9=> bnd (ld v9 H) λv10 H=> bnd (ix 1 v10 a1 H) λv12 H=> bnd (ld v12 H) λv13 H=>
  some (v13,H))
theorem akB(C:Callee)(a0 a1:AV)(H:aj){r:AV × aj}(h:Xv C a0 a1 H=some r):bH Tryz.prog C 138 [a0,a1] H=some r:=
 rnK (A:=akz) (c:=akA) Tryz.func138 (by kernel_rfl) (by kernel_rfl) h
def akC:Ann:=⟨[],[],[]⟩
def akD:Code:=Tryz.f139.body.getD .skip
def Rf(C:Callee)(a0 a1 a2:AV)(H:aj):OA:=
 bo (au a0) λv8=> bo (ah v8 4) λv9=> bnd (ld v9 H) λv10 H=> bo (un .not v10) λv11=> gdA (some v11) false (aC (some a0) H) H λv13 H=> gdA (some v11) false (aC (au v13) H) H λv14 H=> gdA (some v11) false (lda 6 v14 H) H λv15 H=> gdA (some v11) false (aC (some a1) H) H λv16 H=> gdA (some v11) false (C 175 [v15,v16] H) H λv17 H=> gdA (some v11) false (aC (un .not v17) H) H λv18 H=> bo (aV v11 (B true) v18) λv19=>
 aJ v19
 (some ((B false),H))
 (bo (au a0) λv22=> bo (ah v22 5) λv23=> bnd (ld v23 H) λv24 H=> bnd (C 28 [v24] H) λv25 H=> bo (au a0) λv26=> bo (ah v26 5) λv27=> bnd (st 1 v27 v25 H) λ_ H=>
  bo (au a0) λv29=> bo (ah v29 5) λv30=> bnd (ld v30 H) λv31 H=> bnd (ix 1 v31 a1 H) λv34 H=> bnd (st 1 v34 a2 H) λ_ H=>
  some ((B true),H))
theorem Xw(C:Callee)(a0 a1 a2:AV)(H:aj){r:AV × aj}(h:Rf C a0 a1 a2 H=some r):bH Tryz.prog C 139 [a0,a1,a2] H=some r:=
 rnK (A:=akC) (c:=akD) Tryz.func139 (by kernel_rfl) (by kernel_rfl) h
def akE:Ann:=⟨[],[(7,rF 8 []),(13,rF 11 [])],[]⟩
def akF:Code:=Tryz.f140.body.getD .skip
def LD(C:Callee)(a0 a1:AV)(H:aj):OA:=
 bnd (eU 112 a1 H) λv3 H=>
 bnd (lda 6 v3 H) λv6 H=> bnd (C 152 [v6] H) λv7 H=> bnd (st 6 v3 v7 H) λ_ H=>
 bo (ah v3 2) λv8=> bnd (ld v8 H) λv9 H=> bo (bi .lss 3 v9 (I 0)) λv10=>
 aJ v10
 (some ((I 1),H))
 (bo (ah v3 2) λv12=> bnd (ld v12 H) λv13 H=> bnd (C 151 [a0,v13] H) λv14 H=>
  bo (bi .geq 3 v14 (I 0)) λv16=>
  aJ v16
  (bo (au a0) λv18=> bo (ah v18 0) λv19=> bnd (ld v19 H) λv20 H=> bnd (ix 6 v20 v14 H) λv22 H=> bo (ah v22 3) λv23=> bnd (ld v23 H) λv24 H=> bo (ah v3 3) λv25=> bnd (st 1 v25 v24 H) λ_ H=>
  bo (au a0) λv27=> bo (ah v27 0) λv28=> bnd (ld v28 H) λv29 H=> bnd (lda 6 v3 H) λv31 H=> bnd (ix 6 v29 v14 H) λv32 H=> bnd (st 6 v32 v31 H) λ_ H=>
  some ((I 0),H))
  (bo (ah v3 2) λv34=> bnd (ld v34 H) λv35 H=> bnd (C 104 [a0,v35] H) λv36 H=>
  aJ v36
  (some ((I 5),H))
  (bo (au a0) λv38=> bo (ah v38 3) λv39=> bnd (ld v39 H) λv40 H=> bo (bi .add 3 v40 (I 1)) λv41=> bo (au a0) λv42=> bo (ah v42 3) λv43=> bnd (st 1 v43 v41 H) λ_ H=>
   bo (au a0) λv45=> bo (ah v45 3) λv46=> bnd (ld v46 H) λv47 H=> bo (ah v3 3) λv48=> bnd (st 1 v48 v47 H) λ_ H=>
   bo (au a0) λv51=> bo (ah v51 0) λv52=> bnd (ld v52 H) λv53 H=> bnd (lda 6 v3 H) λv54 H=> bnd (bs 106 1 [(0,v54)] H) λv55 H=> bnd (app 112 6 64 v53 v55 H) λv56 H=> bo (au a0) λv57=> bo (ah v57 0) λv58=> bnd (st 1 v58 v56 H) λ_ H=>
   some ((I 0),H))))
theorem akG(C:Callee)(a0 a1:AV)(H:aj){r:AV × aj}(h:LD C a0 a1 H=some r):bH Tryz.prog C 140 [a0,a1] H=some r:=
 rnK (A:=akE) (c:=akF) Tryz.func140 (by kernel_rfl) (by kernel_rfl) h
def akH:Ann:=⟨[],[(1,some false::some false::some true::rF 7 (none::some false::[])),(11,rF 8 []),(13,rF 8 []),(15,rF 10 (some true::rF 8 []))],[(11,[(3,5)]),(13,[(3,5)]),(15,[(3,12),(5,12),(5,14),(6,12),(6,14)])]⟩
def akI:Code:=Tryz.f141.body.getD .skip
def lX(C:Callee)(t6 t7:AV)(H:aj):OA:=
 bnd (lda 9 t7 H) λv69 H=> bnd (st 9 t6 v69 H) λ_ H=>
 bnd (lda 9 t6 H) λr0 _=> some (r0,H)
def Ai(C:Callee)(a0 a1 a2:AV)(H:aj):OA:=
 bnd (eU 74 a0 H) λv3 H=> bnd (alc 51 [zI,zI,zI,zI,zI,zI,zI,zB,zN] H) λv6 H=>
 bnd (alc 51 [zI,zI,zI,zI,zI,zI,zI,zB,zN] H) λv7 H=> bo (ah v3 3) λv8=> bnd (ld v8 H) λv9 H=> bnd (unG H (C 176 [v9] H.guard)) λv10 H=> bo (ah v3 2) λv13=> bnd (ld v13 H) λv14 H=> bo (ah v3 1) λv15=> bnd (ld v15 H) λv16 H=> bo (bd 51 [(0,v10),(1,a1),(2,a2),(3,v14),(4,v16)]) λv17=> bnd (st 9 v7 v17 H) λ_ H=>
 bo (ah v3 3) λv18=> bnd (ld v18 H) λv19 H=>
 bo (bi .eql 3 v19 (I 1)) λv22=>
 aJ v22
 (bnd (lda 9 v7 H) λv23 H=> bnd (st 9 v6 v23 H) λ_ H=>
  bnd (lda 9 v6 H) λr0 _=> some (r0,H))
 (bo (bi .eql 3 v19 (I 2)) λv25=>
  aJ v25
  (bo (ah v3 5) λv26=> bnd (ld v26 H) λv27 H=> bo (ah v7 2) λv29=> bnd (st 1 v29 v27 H) λ_ H=> bo (ah v7 5) λv30=> bnd (st 1 v30 a1 H) λ_ H=>
  lX C v6 v7 H)
  (bo (bi .eql 3 v19 (I 3)) λv32=>
  aJ v32
  (bo (ah v3 7) λv33=> bnd (ld v33 H) λv34 H=> bo (ah v7 2) λv35=> bnd (st 1 v35 v34 H) λ_ H=>
   lX C v6 v7 H)
  (bo (bi .eql 3 v19 (I 4)) λv37=>
   aJ v37
   (bo (ah v3 5) λv38=> bnd (ld v38 H) λv39 H1=> bo (ah v3 7) λv40=> bnd (ld v40 H1) λv41 H3=> bo (ah v7 2) λv42=> bnd (st 1 v42 v39 H3) λ_ H5=> bo (ah v7 5) λv43=> bnd (st 1 v43 v41 H5) λ_ H7=> ck (aU v40) H3 H5 <|
   lX C v6 v7 H7)
   (bo (bi .eql 3 v19 (I 5)) λv45=>
   aJ v45
   (bo (ah v3 7) λv46=> bnd (ld v46 H) λv47 asq=> bo (ah v3 5) λv48=> bnd (ld v48 asq) λv49 ag1=> bo (ah v7 2) λv50=> bnd (st 1 v50 v47 ag1) λ_ ajr=> bo (ah v7 5) λv51=> bnd (st 1 v51 v49 ajr) λ_ auc=> ck (aU v48) ag1 ajr <|
    lX C v6 v7 auc)
   (bo (bi .eql 3 v19 (I 6)) λv53=>
    aJ v53
    (bo (ah v3 4) λv54=> bnd (ld v54 H) λv55 aud=> bo (ah v3 5) λv56=> bnd (ld v56 aud) λv57 aue=> bo (ah v3 6) λv58=> bnd (ld v58 aue) λv59 aob=> bnd (lnS v59 aob) λv60 auf=> bo (bi .gtr 3 v60 (I 0)) λv61=> bo (ah v3 6) λv62=> bnd (ld v62 auf) λv63 H9=> bnd (unG H9 (C 28 [v63] H9.guard)) λv64 H10=> bo (ah v7 6) λv65=> bnd (st 1 v65 v55 H10) λ_ H12=> bo (ah v7 5) λv66=> bnd (st 1 v66 v57 H12) λ_ H14=> bo (ah v7 7) λv67=> bnd (st 1 v67 v61 H14) λ_ H16=> bo (ah v7 8) λv68=> bnd (st 1 v68 v64 H16) λ_ H18=> ck (aU v56) H10 H12 <| ck (aU v58) H10 H12 <| ck (aU v58) H12 H14 <| ck (aU v59) H10 H12 <| ck (aU v59) H12 H14 <|
    lX C v6 v7 H18)
    (bo (bd 51 []) λv20=> bnd (st 9 v6 v20 H) λ_ H=>
    bnd (lda 9 v6 H) λr0 _=> some (r0,H)))))))
theorem akJ(C:Callee)(a0 a1 a2:AV)(H:aj){r:AV × aj}(h:Ai C a0 a1 a2 H=some r):bH Tryz.prog C 141 [a0,a1,a2] H=some r:=
 rnK (A:=akH) (c:=akI) Tryz.func141 (by kernel_rfl) (by kernel_rfl) h
def akK:Ann:=⟨[],[],[]⟩
def akL:Code:=Tryz.f142.body.getD .skip
def adC(C:Callee)(a0 a1:AV)(H:aj):OA:=
 bnd (eU 39 a0 H) λv2 H=>
 bo (ah v2 0) λv6=> bnd (ld v6 H) λv7 H=> bnd (C 177 [a1,v7] H) λv8 H=>
 some (v8,H)
theorem akM(C:Callee)(a0 a1:AV)(H:aj){r:AV × aj}(h:adC C a0 a1 H=some r):bH Tryz.prog C 142 [a0,a1] H=some r:=
 rnK (A:=akK) (c:=akL) Tryz.func142 (by kernel_rfl) (by kernel_rfl) h
def adD:Ann:=⟨[(4,[0,3,11,12,13])],[],[]⟩
def Xx:Code:=Tryz.f143.body.getD .skip
def BH(C:Callee):List AV->aj->OA:=(dL Tryz.prog C adD 33 Xx (dH Tryz.prog 33 Tryz.f143.results.toList) (λ_ _ _=> none) (dH Tryz.prog 33 Tryz.f143.results.toList)).getD 0 λ_ _=> none
def xY(C:Callee)(t0 t3 t11 t12 t13:AV)(H:aj):OA:=
 bo (bi .add 3 t13 (I 1)) λv31=>
 BH C [t0,t3,t11,t12,v31] H
def adE(C:Callee)(a0:AV)(H:aj):OA:=
 bo (au a0) λv7=> bo (ah v7 1) λv8=> bnd (ld v8 H) λv9 H=> bnd (C 179 [v9] H) λv10 H=> bnd (C 178 [v10] H) λv11 H=> bnd (lnS v11 H) λv12 H=>
 BH C [a0,(.s (Go.Value.slice none 0 0)),v11,v12,(I 0)] H
theorem Rh(C:Callee)(t0 t3 t11 t12 t13:AV)(H:aj):BH C [t0,t3,t11,t12,t13] H=
 bo (bi .lss 3 t13 t12) λv14=>
 aJ v14
 (bnd (ix 1 t11 t13 H) λv15 H=> bnd (ld v15 H) λv16 H=>
  bnd (C 180 [t0,v16] H) λv19 H=> bo (un .not v19) λv20=> gdA (some v20) true (aC (some t0) H) H λv22 H=> gdA (some v20) true (aC (some v16) H) H λv23 H=> gdA (some v20) true (C 181 [v22,v23] H) H λv24 H=> gdA (some v20) true (aC (bi .gtr 3 v24 (I 0)) H) H λv25 H=> bo (aV v20 v25 (B false)) λv26=>
  aJ v26
  (bnd (bs 22 1 [(0,v16)] H) λv29 H=> bnd (app 3 1 8 t3 v29 H) λv30 H=>
  xY C t0 v30 t11 t12 t13 H)
  (xY C t0 t3 t11 t12 t13 H))
 (some (t3,H)):=
 (congrFun (congrFun (congrArg (λl=> l.getD 0 λ_ _=> none) (cO Xx (dH Tryz.prog 33 Tryz.f143.results.toList) (λ_ _ _=> none) (dH Tryz.prog 33 Tryz.f143.results.toList))) [t0,t3,t11,t12,t13]) H).trans (by kernel_rfl)
theorem akN(C:Callee)(a0:AV)(H:aj){r:AV × aj}(h:adE C a0 H=some r):bH Tryz.prog C 143 [a0] H=some r:=
 rnK (A:=adD) (c:=Xx) Tryz.func143 (by kernel_rfl) (by kernel_rfl) h
def akO:Ann:=⟨[],[(1,rF 11 [])],[]⟩
def akP:Code:=Tryz.f144.body.getD .skip
def adF(C:Callee)(a0:AV)(H:aj):OA:=
 bo (au a0) λv4=> bo (ah v4 1) λv5=> bnd (ld v5 H) λv6 H=> bo (au a0) λv8=> bo (ah v8 0) λv9=> bnd (ld v9 H) λv10 H=> bnd (lnS v10 H) λv11 H=> bo (bi .sub 3 v6 v11) λv12=>
 some (v12,H)
theorem akQ(C:Callee)(a0:AV)(H:aj){r:AV × aj}(h:adF C a0 H=some r):bH Tryz.prog C 144 [a0] H=some r:=
 rnK (A:=akO) (c:=akP) Tryz.func144 (by kernel_rfl) (by kernel_rfl) h
def akR:Ann:=⟨[],[(4,rF 13 []),(5,rF 8 []),(6,rF 7 [])],[]⟩
def akS:Code:=Tryz.f145.body.getD .skip
def Ri(C:Callee)(a0 a1:AV)(H:aj):OA:=
 bnd (C 180 [a0,a1] H) λv10 H=> gdA (some v10) false (aC (some a0) H) H λv12 H=> gdA (some v10) false (aC (some a1) H) H λv13 H=> gdA (some v10) false (C 181 [v12,v13] H) H λv14 H=> gdA (some v10) false (aC (bi .eql 3 v14 (I 0)) H) H λv15 H=> bo (aV v10 (B true) v15) λv16=>
 aJ v16
 (some (.tup [(I 0),(I 0),(B false)],H))
 (bo (au a0) λv18=> bo (ah v18 1) λv19=> bnd (ld v19 H) λv20 H=> bnd (lk .i64 (.slice none 0 0) v20 a1 false H) λv22 H=> bnd (ix 2 v22 (I 0) H) λv23 H=> bnd (lda 2 v23 H) λv24 H=> bnd (alc 286 [zI,zI] H) λv7 H=> bnd (st 2 v7 v24 H) λ_ H=>
  bo (au a0) λv26=> bo (ah v26 1) λv27=> bnd (ld v27 H) λv28 H=> bo (au a0) λv31=> bo (ah v31 1) λv32=> bnd (ld v32 H) λv33 H=> bnd (lk .i64 (.slice none 0 0) v33 a1 false H) λv35 H=> bo (slS 2 v35 (some (I 1)) none none) λv36=> bnd (mup .i64 v28 a1 v36 H) λ_ H=>
  bo (au a0) λv38=> bo (ah v38 0) λv39=> bnd (ld v39 H) λv40 H=> bo (ah v7 0) λv42=> bnd (ld v42 H) λv43 H=> bnd (mup .i64 v40 a1 v43 H) λ_ H=>
  bo (ah v7 0) λv44=> bnd (ld v44 H) λv45 H=> bo (ah v7 1) λv46=> bnd (ld v46 H) λv47 H=>
  some (.tup [v45,v47,(B true)],H))
theorem akT(C:Callee)(a0 a1:AV)(H:aj){r:AV × aj}(h:Ri C a0 a1 H=some r):bH Tryz.prog C 145 [a0,a1] H=some r:=
 rnK (A:=akR) (c:=akS) Tryz.func145 (by kernel_rfl) (by kernel_rfl) h
def akU:Ann:=⟨[],[(2,rF 15 [])],[]⟩
def akV:Code:=Tryz.f146.body.getD .skip
def adG(C:Callee)(a0 a1 a2 a3:AV)(H:aj):OA:=
 bnd (alc 51 [zI,zI,zI,zI,zI,zI,zI,zB,zN] H) λv8 H=>
 bo (au a0) λv13=> bo (ah v13 0) λv14=> bnd (ld v14 H) λv15 H=> bnd (C 182 [v15,a1] H) λv17 H=> bo (aF v17 0) λv18=> bo (aF v17 1) λv19=> bnd (alc 260 [zI,zI,zN] H) λv9 H=> bnd (st 3 v9 v18 H) λ_ H=>
 bo (au a0) λv21=> bo (ah v21 10) λv22=> bnd (ld v22 H) λv23 H=> bo (ah v9 0) λv27=> bnd (ld v27 H) λv28 H=> bo (ah v9 1) λv29=> bnd (ld v29 H) λv30 H=> bo (ah v9 2) λv31=> bnd (ld v31 H) λv32 H=> bo (bd 51 [(0,(I 7)),(1,v23),(2,a2),(3,a3),(4,a1),(6,v28),(5,v30),(8,v32)]) λv33=> bnd (st 9 v8 v33 H) λ_ H=>
 bnd (lda 9 v8 H) λr0 _=> some (r0,H)
theorem akW(C:Callee)(a0 a1 a2 a3:AV)(H:aj){r:AV × aj}(h:adG C a0 a1 a2 a3 H=some r):bH Tryz.prog C 146 [a0,a1,a2,a3] H=some r:=
 rnK (A:=akU) (c:=akV) Tryz.func146 (by kernel_rfl) (by kernel_rfl) h
def akX:Ann:=⟨[],[(3,rF 6 (some true::rF 5 []))],[]⟩
def akY:Code:=Tryz.f147.body.getD .skip
def Xy(C:Callee)(a0 a1:AV)(H:aj):OA:=
 bnd (eU 51 a1 H) λv3 H=>
 bnd (C 144 [a0] H) λv6 H=> bo (bi .eql 3 v6 (I 0)) λv7=>
 aJ v7
 (some ((I 5),H))
 (bo (au a0) λv10=> bo (ah v10 0) λv11=> bnd (ld v11 H) λv12 H=> bnd (lda 9 v3 H) λv13 H=> bnd (unG H (C 59 [v13] H.guard)) λv14 H=> bnd (bs 141 1 [(0,v14)] H) λv15 H=> bnd (app 51 9 88 v12 v15 H) λv16 H=> bo (au a0) λv17=> bo (ah v17 0) λv18=> bnd (st 1 v18 v16 H) λ_ H=>
  some ((I 0),H))
theorem adH(C:Callee)(a0 a1:AV)(H:aj){r:AV × aj}(h:Xy C a0 a1 H=some r):bH Tryz.prog C 147 [a0,a1] H=some r:=
 rnK (A:=akX) (c:=akY) Tryz.func147 (by kernel_rfl) (by kernel_rfl) h
def akZ:Ann:=⟨[],[(1,rF 23 []),(4,rF 6 (some true::rF 15 [])),(7,rF 12 []),(13,rF 14 [])],[]⟩
def ak0:Code:=Tryz.f148.body.getD .skip
def qw(C:Callee)(a0 a1:AV)(H:aj):OA:=
 bnd (eU 51 a1 H) λv3 H=> bnd (alc 51 [zI,zI,zI,zI,zI,zI,zI,zB,zN] H) λv4 H=>
 bnd (lda 9 v3 H) λv9 H=> bnd (C 123 [v9] H) λv10 H=> bo (bi .eql 58 v10 (I 0)) λv11=> gdA (some v11) true (aC (ah v3 2) H) H λv13 H=> gdA (some v11) true (ld v13 H) H λv14 H=> gdA (some v11) true (aC (some a0) H) H λv15 H=> gdA (some v11) true (aC (au v15) H) H λv16 H=> gdA (some v11) true (aC (ah v16 10) H) H λv17 H=> gdA (some v11) true (ld v17 H) H λv18 H=> gdA (some v11) true (aC (bi .eql 3 v14 v18) H) H λv19 H=> bo (aV v11 v19 (B false)) λv20=> gdA (some v20) true (aC (ah v3 1) H) H λv22 H=> gdA (some v20) true (ld v22 H) H λv23 H=> gdA (some v20) true (aC (some a0) H) H λv24 H=> gdA (some v20) true (aC (au v24) H) H λv25 H=> gdA (some v20) true (aC (ah v25 2) H) H λv26 H=> gdA (some v20) true (aC (ah v26 0) H) H λv27 H=> gdA (some v20) true (ld v27 H) H λv28 H=> gdA (some v20) true (aC (bi .lss 3 v23 v28) H) H λv29 H=> bo (aV v20 v29 (B false)) λv30=>
 bo (un .not v30) λv32=> gdA (some v32) false (aC (ah v3 0) H) H λv34 H=> gdA (some v32) false (ld v34 H) H λv35 H=> gdA (some v32) false (aC (bi .neq 3 v35 (I 1)) H) H λv36 H=> gdA (some v32) false (aC (some v36) H) H λv37 H=> gdA (some v37) true (aC (ah v3 0) H) H λv38 H=> gdA (some v37) true (ld v38 H) H λv39 H=> gdA (some v37) true (aC (bi .neq 3 v39 (I 2)) H) H λv40 H=> gdA (some v32) false (aC (aV v37 v40 (B false)) H) H λv41 H=> bo (aV v32 (B true) v41) λv42=>
 aJ v42
 (bo (bd 51 []) λv43=> bnd (st 9 v4 v43 H) λ_ H=>
  bnd (lda 9 v4 H) λr0 _=> some (.tup [r0,(B false),(I 1)],H))
 (bo (au a0) λv45=> bo (ah v45 2) λv46=> bnd (lda 8 v46 H) λv47 H=> bo (ah v3 4) λv48=> bnd (ld v48 H) λv49 H=> bnd (unG H (C 142 [v47,v49] H.guard)) λv50 H=> bo (au a0) λv52=> bo (ah v52 10) λv53=> bnd (ld v53 H) λv54 H=> bo (bi .neq 3 v50 v54) λv55=> gdA (some v55) false (aC (ah v3 4) H) H λv57 H=> gdA (some v55) false (ld v57 H) H λv58 H=> gdA (some v55) false (aC (some a0) H) H λv59 H=> gdA (some v55) false (aC (au v59) H) H λv60 H=> gdA (some v55) false (aC (ah v60 2) H) H λv61 H=> gdA (some v55) false (aC (ah v61 1) H) H λv62 H=> gdA (some v55) false (ld v62 H) H λv63 H=> gdA (some v55) false (aC (bi .geq 3 v58 v63) H) H λv64 H=> bo (aV v55 (B true) v64) λv65=>
  aJ v65
  (bo (bd 51 []) λv66=> bnd (st 9 v4 v66 H) λ_ H=>
  bnd (lda 9 v4 H) λr0 _=> some (.tup [r0,(B false),(I 3)],H))
  (bo (ah v3 0) λv67=> bnd (ld v67 H) λv68 H=> bo (bi .eql 3 v68 (I 1)) λv69=>
  aJ v69
  (bo (au a0) λv71=> bo (ah v71 1) λv72=> bnd (ld v72 H) λv73 H=> bo (ah v3 4) λv74=> bnd (ld v74 H) λv75 H=> bo (ah v3 1) λv76=> bnd (ld v76 H) λv77 H=> bo (ah v3 3) λv78=> bnd (ld v78 H) λv79 H=> bnd (C 183 [v73,v75,v77,v79] H) λv80 H=> bo (un .not v80) λv81=>
   aJ v81
   (bo (bd 51 []) λv82=> bnd (st 9 v4 v82 H) λ_ H=>
   bnd (lda 9 v4 H) λr0 _=> some (.tup [r0,(B false),(I 0)],H))
   (bo (ah v3 4) λv84=> bnd (ld v84 H) λv85 H=> bo (ah v3 1) λv86=> bnd (ld v86 H) λv87 H=> bo (ah v3 3) λv88=> bnd (ld v88 H) λv89 H=> bnd (C 146 [a0,v85,v87,v89] H) λv90 H=> bnd (st 9 v4 v90 H) λ_ H=>
   bnd (lda 9 v4 H) λr0 _=> some (.tup [r0,(B true),(I 0)],H)))
  (bnd (lda 9 v3 H) λv92 H=> bnd (C 184 [a0,v92] H) λv93 H=>
   bo (bi .neq 58 v93 (I 0)) λv95=>
   aJ v95
   (bo (bd 51 []) λv96=> bnd (st 9 v4 v96 H) λ_ H=>
   bnd (lda 9 v4 H) λr0 _=> some (.tup [r0,(B false),v93],H))
   (bo (au a0) λv99=> bo (ah v99 10) λaqz=> bnd (ld aqz H) λaiX H=> bo (ah v3 1) λail=> bnd (ld ail H) λaio H=> bo (ah v3 3) λaip=> bnd (ld aip H) λv105 H=> bo (ah v3 4) λan7=> bnd (ld an7 H) λv107 H=> bo (bd 51 [(0,(I 8)),(1,aiX),(2,aio),(3,v105),(4,v107)]) λaiq=> bnd (st 9 v4 aiq H) λ_ H=>
   bnd (lda 9 v4 H) λr0 _=> some (.tup [r0,(B true),(I 0)],H)))))
theorem ak1(C:Callee)(a0 a1:AV)(H:aj){r:AV × aj}(h:qw C a0 a1 H=some r):bH Tryz.prog C 148 [a0,a1] H=some r:=
 rnK (A:=akZ) (c:=ak0) Tryz.func148 (by kernel_rfl) (by kernel_rfl) h
def ak2:Ann:=⟨[],[(6,some false::some false::some true::rF 9 (none::some false::[])),(9,rF 8 []),(17,rF 13 []),(20,rF 6 [])],[(9,[(3,5)]),(17,[(3,8),(6,8),(6,10)]),(20,[(0,3)])]⟩
def ak3:Code:=Tryz.f149.body.getD .skip
def uQ(C:Callee)(t0 t4 t6 t8:AV)(H:aj):OA:=
 bnd (lda 9 t8 H) λv89 H0=> bnd (lda 6 t6 H0) λv91 H2=> bnd (C 140 [t0,v91] H2) λv92 H3=> bnd (st 9 t4 v89 H3) λ_ H4=> ck (aU t8) H2 H3 <|
 bnd (lda 9 t4 H4) λr0 _=> some (.tup [r0,v92],H4)
def xZ(C:Callee)(a0 a1:AV)(H:aj):OA:=
 bnd (eU 51 a1 H) λv3 H=> bnd (alc 51 [zI,zI,zI,zI,zI,zI,zI,zB,zN] H) λv4 H=>
 bnd (lda 9 v3 H) λv9 H=> bnd (C 123 [v9] H) λv10 H=> bo (bi .neq 58 v10 (I 0)) λv11=> gdA (some v11) false (aC (ah v3 0) H) H λv13 H=> gdA (some v11) false (ld v13 H) H λv14 H=> gdA (some v11) false (aC (bi .lss 3 v14 (I 3)) H) H λv15 H=> bo (aV v11 (B true) v15) λv16=> gdA (some v16) false (aC (ah v3 0) H) H λv18 H=> gdA (some v16) false (ld v18 H) H λv19 H=> gdA (some v16) false (aC (bi .gtr 3 v19 (I 6)) H) H λv20 H=> bo (aV v16 (B true) v20) λv21=>
 aJ v21
 (bo (bd 51 []) λv22=> bnd (st 9 v4 v22 H) λ_ H=>
  bnd (lda 9 v4 H) λr0 _=> some (.tup [r0,(I 1)],H))
 (bo (ah v3 4) λv25=> bnd (ld v25 H) λv26 H=> bnd (C 101 [a0,v26] H) λv27 H=> bo (aF v27 0) λv28=> bo (aF v27 1) λv29=> bnd (alc 112 [zI,zI,zI,zI,zB,zN] H) λv6 H=> bnd (st 6 v6 v28 H) λ_ H=>
  bo (un .not v29) λv31=>
  aJ v31
  (bo (bd 51 []) λv32=> bnd (st 9 v4 v32 H) λ_ H=>
  bnd (lda 9 v4 H) λr0 _=> some (.tup [r0,(I 3)],H))
  (bnd (alc 51 [zI,zI,zI,zI,zI,zI,zI,zB,zN] H) λv8 H=> bo (ah v3 0) λv33=> bnd (ld v33 H) λv34 H=> bnd (unG H (C 185 [v34] H.guard)) λv35 H=> bo (ah v3 2) λv36=> bnd (ld v36 H) λv37 H=> bo (ah v3 1) λv38=> bnd (ld v38 H) λv39 H=> bo (ah v3 3) λv40=> bnd (ld v40 H) λv41 H=> bo (ah v3 4) λv42=> bnd (ld v42 H) λv43 H=> bo (bd 51 [(0,v35),(1,v37),(2,v39),(3,v41),(4,v43)]) λv44=> bnd (st 9 v8 v44 H) λ_ H=>
  bo (ah v3 0) λv45=> bnd (ld v45 H) λv46 H=>
  bo (bi .eql 3 v46 (I 3)) λv48=>
  aJ v48
  (bo (ah v6 5) λv49=> bnd (ld v49 H) λv50 H1=> bo (ah v6 4) λv51=> bnd (ld v51 H1) λv52 H3=> bo (ah v8 8) λv53=> bnd (st 1 v53 v50 H3) λ_ H5=> bo (ah v8 7) λv54=> bnd (st 1 v54 v52 H5) λ_ H7=> ck (aU v51) H3 H5 <|
   bo (ah v6 4) λv55=> bnd (st 1 v55 (B false) H7) λ_ H7=>
   bo (ah v6 0) λv56=> bo (ah v3 5) λv57=> bnd (ld v57 H7) λv58 H7=> bnd (C 186 [v56,v58] H7) λv59 H7=>
   uQ C a0 v4 v6 v8 H7)
  (bo (bi .eql 3 v46 (I 4)) λv61=>
   aJ v61
   (bo (ah v6 0) λv62=> bo (ah v3 5) λv63=> bnd (ld v63 H) λv64 H=> bnd (C 187 [v62,v64] H) λv65 H=>
   uQ C a0 v4 v6 v8 H)
   (bo (bi .eql 3 v46 (I 5)) λv67=>
   aJ v67
   (bo (ah v6 0) λv68=> bo (ah v3 5) λv69=> bnd (ld v69 H) λv70 H=> bnd (C 186 [v68,v70] H) λv71 H=>
    uQ C a0 v4 v6 v8 H)
   (bo (bi .eql 3 v46 (I 6)) λv73=>
    aJ v73
    (bo (ah v6 5) λv74=> bnd (ld v74 H) λv75 asq=> bo (ah v6 4) λv76=> bnd (ld v76 asq) λv77 ag1=> bo (ah v6 0) λv78=> bo (ah v78 0) λv79=> bnd (ld v79 ag1) λv80 ak4=> bo (ah v8 8) λv81=> bnd (st 1 v81 v75 ak4) λ_ H8=> bo (ah v8 7) λv82=> bnd (st 1 v82 v77 H8) λ_ H10=> bo (ah v8 5) λv83=> bnd (st 1 v83 v80 H10) λ_ H12=> ck (aU v76) ak4 H8 <| ck (aU v79) ak4 H8 <| ck (aU v79) H8 H10 <|
    bo (ah v3 4) λv85=> bnd (ld v85 H12) λv86 H12=> bnd (C 188 [a0,v86] H12) λv87 H12=>
    bnd (lda 9 v8 H12) λv88 H12=> bnd (st 9 v4 v88 H12) λ_ H12=>
    bnd (lda 9 v4 H12) λr0 _=> some (.tup [r0,(I 0)],H12))
    (uQ C a0 v4 v6 v8 H))))))
theorem adI(C:Callee)(a0 a1:AV)(H:aj){r:AV × aj}(h:xZ C a0 a1 H=some r):bH Tryz.prog C 149 [a0,a1] H=some r:=
 rnK (A:=ak2) (c:=ak3) Tryz.func149 (by kernel_rfl) (by kernel_rfl) h
def ak5:Ann:=⟨[],[],[]⟩
def ak6:Code:=Tryz.f150.body.getD .skip
def adJ(C:Callee)(a0:AV)(H:aj):OA:=
 bnd (eU 39 a0 H) λv1 H=>
 bo (ah v1 1) λv3=> bnd (ld v3 H) λv4 H=> bo (ah v1 2) λv5=> bnd (ld v5 H) λv6 H=> bo (bi .mul 3 v4 v6) λv7=>
 some (v7,H)
theorem ak7(C:Callee)(a0:AV)(H:aj){r:AV × aj}(h:adJ C a0 H=some r):bH Tryz.prog C 150 [a0] H=some r:=
 rnK (A:=ak5) (c:=ak6) Tryz.func150 (by kernel_rfl) (by kernel_rfl) h
def ak8:Ann:=⟨[],[],[]⟩
def ak9:Code:=Tryz.f151.body.getD .skip
def adK(C:Callee)(a0 a1:AV)(H:aj):OA:=
 bnd (eU 3 a1 H) λv3 H=>
 bo (au a0) λv6=> bo (ah v6 0) λv7=> bnd (ld v7 H) λv8 H=> bnd (C 189 [v8,(.fn (.func 190) [] [v3])] H) λv10 H=>
 some (v10,H)
theorem ala(C:Callee)(a0 a1:AV)(H:aj){r:AV × aj}(h:adK C a0 a1 H=some r):bH Tryz.prog C 151 [a0,a1] H=some r:=
 rnK (A:=ak8) (c:=ak9) Tryz.func151 (by kernel_rfl) (by kernel_rfl) h
def alb:Ann:=⟨[],[],[]⟩
def ald:Code:=Tryz.f152.body.getD .skip
def adL(C:Callee)(a0:AV)(H:aj):OA:=
 bnd (eU 112 a0 H) λv1 H=> bnd (alc 112 [zI,zI,zI,zI,zB,zN] H) λv2 H=>
 bo (ah v1 5) λv3=> bnd (ld v3 H) λv4 H=> bnd (C 28 [v4] H) λv5 H=> bo (ah v1 5) λv6=> bnd (st 1 v6 v5 H) λ_ H=>
 bnd (lda 6 v1 H) λv7 H=> bnd (st 6 v2 v7 H) λ_ H=>
 bnd (lda 6 v2 H) λr0 _=> some (r0,H)
theorem ale(C:Callee)(a0:AV)(H:aj){r:AV × aj}(h:adL C a0 H=some r):bH Tryz.prog C 152 [a0] H=some r:=
 rnK (A:=alb) (c:=ald) Tryz.func152 (by kernel_rfl) (by kernel_rfl) h
def alf:Ann:=⟨[],[],[]⟩
def alg:Code:=Tryz.f153.body.getD .skip
def adM(C:Callee)(a0 a1 a2:AV)(H:aj):OA:=
 bnd (alc 74 [zI,zI,zI,zI,zI,zI,zN,zI,zI] H) λv6 H=>
 bo (bd 74 [(0,a0),(1,a1),(2,a2),(3,(I 1)),(5,(I (-1))),(7,(I (-1))),(8,(I (-1)))]) λv10=> bnd (st 9 v6 v10 H) λ_ H=>
 bnd (lda 9 v6 H) λr0 _=> some (r0,H)
theorem alh(C:Callee)(a0 a1 a2:AV)(H:aj){r:AV × aj}(h:adM C a0 a1 a2 H=some r):bH Tryz.prog C 153 [a0,a1,a2] H=some r:=
 rnK (A:=alf) (c:=alg) Tryz.func153 (by kernel_rfl) (by kernel_rfl) h
def adN:Ann:=⟨[(4,[0,1,5,11,12,13])],[(5,rF 18 [])],[]⟩
def Xz:Code:=Tryz.f154.body.getD .skip
def BI(C:Callee):List AV->aj->OA:=(dL Tryz.prog C adN 41 Xz (dH Tryz.prog 41 Tryz.f154.results.toList) (λ_ _ _=> none) (dH Tryz.prog 41 Tryz.f154.results.toList)).getD 0 λ_ _=> none
def x9(C:Callee)(t0 t1 t5 t11 t12 t13:AV)(H:aj):OA:=
 bo (bi .add 3 t13 (I 1)) λv39=>
 BI C [t0,t1,t5,t11,t12,v39] H
def adO(C:Callee)(a0 a1:AV)(H:aj):OA:=
 bo (au a0) λv9=> bo (ah v9 0) λv10=> bnd (ld v10 H) λv11 H=> bnd (lnS v11 H) λv12 H=>
 BI C [a0,a1,(.s (Go.Value.slice none 0 0)),v11,v12,(I 0)] H
theorem Rj(C:Callee)(t0 t1 t5 t11 t12 t13:AV)(H:aj):BI C [t0,t1,t5,t11,t12,t13] H=
 bo (bi .lss 3 t13 t12) λv14=>
 aJ v14
 (bnd (ix 6 t11 t13 H) λv15 H=> bnd (lda 6 v15 H) λv16 H=> bnd (alc 112 [zI,zI,zI,zI,zB,zN] H) λv7 H=> bnd (st 6 v7 v16 H) λ_ H=>
  bo (bi .geq 3 t1 (I 0)) λv18=> gdA (some v18) true (aC (ah v7 2) H) H λv20 H=> gdA (some v18) true (ld v20 H) H λv21 H=> gdA (some v18) true (aC (some t0) H) H λv22 H=> gdA (some v18) true (aC (au v22) H) H λv23 H=> gdA (some v18) true (aC (ah v23 1) H) H λv24 H=> gdA (some v18) true (ld v24 H) H λv25 H=> gdA (some v18) true (aC (bi .rem 3 v21 v25) H) H λv26 H=> gdA (some v18) true (aC (some t1) H) H λv27 H=> gdA (some v18) true (aC (some t0) H) H λv28 H=> gdA (some v18) true (aC (au v28) H) H λv29 H=> gdA (some v18) true (aC (ah v29 1) H) H λv30 H=> gdA (some v18) true (ld v30 H) H λv31 H=> gdA (some v18) true (aC (bi .rem 3 v27 v31) H) H λv32 H=> gdA (some v18) true (aC (bi .eql 3 v26 v32) H) H λv33 H=> bo (aV v18 v33 (B false)) λv34=>
  aJ v34
  (bnd (lda 6 v7 H) λv36 H=> bnd (bs 106 1 [(0,v36)] H) λv37 H=> bnd (app 112 6 64 t5 v37 H) λv38 H=>
  x9 C t0 t1 v38 t11 t12 t13 H)
  (x9 C t0 t1 t5 t11 t12 t13 H))
 (some (t5,H)):=
 (congrFun (congrFun (congrArg (λl=> l.getD 0 λ_ _=> none) (cO Xz (dH Tryz.prog 41 Tryz.f154.results.toList) (λ_ _ _=> none) (dH Tryz.prog 41 Tryz.f154.results.toList))) [t0,t1,t5,t11,t12,t13]) H).trans (by kernel_rfl)
theorem ali(C:Callee)(a0 a1:AV)(H:aj){r:AV × aj}(h:adO C a0 a1 H=some r):bH Tryz.prog C 154 [a0,a1] H=some r:=
 rnK (A:=adN) (c:=Xz) Tryz.func154 (by kernel_rfl) (by kernel_rfl) h
def adP:Ann:=⟨[(6,[0,1,4,5,6])],[(7,rF 8 [])],[]⟩
def XA:Code:=Tryz.f155.body.getD .skip
def BJ(C:Callee):List AV->aj->OA:=(dL Tryz.prog C adP 33 XA (dH Tryz.prog 33 Tryz.f155.results.toList) (λ_ _ _=> none) (dH Tryz.prog 33 Tryz.f155.results.toList)).getD 0 λ_ _=> none
def Jg(C:Callee)(t0 t1 t4:AV)(H:aj):OA:=
 bnd (ix 6 t0 (I 0) H) λv12 H=> bnd (lda 6 v12 H) λv13 H=> bnd (alc 112 [zI,zI,zI,zI,zB,zN] H) λv5 H=> bnd (st 6 v5 v13 H) λ_ H=>
 BJ C [t0,t1,t4,v5,(I 1)] H
def BK(C:Callee)(t0 t1 t4 t5 t6:AV)(H:aj):OA:=
 bo (bi .add 3 t6 (I 1)) λv19=>
 BJ C [t0,t1,t4,t5,v19] H
def adQ(C:Callee)(a0 a1:AV)(H:aj):OA:=
 bnd (alc 112 [zI,zI,zI,zI,zB,zN] H) λv4 H=>
 bnd (lnS a0 H) λv8 H=> bo (bi .lss 3 v8 (I 1)) λv9=>
 aJ v9
 (bnd (stk H) λv10 H=> bnd (stk H) λ_ H=>
  Jg C a0 a1 v4 H)
 (Jg C a0 a1 v4 H)
theorem Rk(C:Callee)(t0 t1 t4 t5 t6:AV)(H:aj):BJ C [t0,t1,t4,t5,t6] H=
 bnd (lnS t0 H) λv16 H=> bo (bi .lss 3 t6 v16) λv17=>
 aJ v17
 (bnd (ix 6 t0 t6 H) λv23 H=> bnd (lda 6 v23 H) λv24 H=> bnd (lda 6 t5 H) λv25 H=> bnd (qI Tryz.prog C t1 [v24,v25] H) λv26 H=> bo (bi .lss 3 v26 (I 0)) λv27=>
  aJ v27
  (bnd (ix 6 t0 t6 H) λv30 H=> bnd (lda 6 v30 H) λv31 H=> bnd (st 6 t5 v31 H) λ_ H=>
  BK C t0 t1 t4 t5 t6 H)
  (BK C t0 t1 t4 t5 t6 H))
 (bnd (lda 6 t5 H) λv32 H=> bnd (st 6 t4 v32 H) λ_ H=>
  bnd (lda 6 t4 H) λr0 _=> some (r0,H)):=
 (congrFun (congrFun (congrArg (λl=> l.getD 0 λ_ _=> none) (cO XA (dH Tryz.prog 33 Tryz.f155.results.toList) (λ_ _ _=> none) (dH Tryz.prog 33 Tryz.f155.results.toList))) [t0,t1,t4,t5,t6]) H).trans (by kernel_rfl)
theorem alj(C:Callee)(a0 a1:AV)(H:aj){r:AV × aj}(h:adQ C a0 a1 H=some r):bH Tryz.prog C 155 [a0,a1] H=some r:=
 rnK (A:=adP) (c:=XA) Tryz.func155 (by kernel_rfl) (by kernel_rfl) h
def alk:Ann:=⟨[],[],[]⟩
def alm:Code:=Tryz.f156.body.getD .skip
def adR(C:Callee)(a0 a1:AV)(H:aj):OA:=
 bnd (eU 112 a0 H) λv2 H=> bnd (eU 112 a1 H) λv3 H=>
 bo (ah v2 3) λv5=> bnd (ld v5 H) λv6 H=> bo (ah v3 3) λv7=> bnd (ld v7 H) λv8 H=> bo (bi .sub 3 v6 v8) λv9=>
 some (v9,H)
theorem aln(C:Callee)(a0 a1:AV)(H:aj){r:AV × aj}(h:adR C a0 a1 H=some r):bH Tryz.prog C 156 [a0,a1] H=some r:=
 rnK (A:=alk) (c:=alm) Tryz.func156 (by kernel_rfl) (by kernel_rfl) h
def alo:Ann:=⟨[],[],[]⟩
def alp:Code:=Tryz.f157.body.getD .skip
def adS(C:Callee)(a0 a1:AV)(H:aj):OA:=
 bnd (eU 39 a0 H) λv2 H=>
 bo (bi .lss 3 a1 (I 0)) λv8=> gdA (some v8) false (aC (some a1) H) H λv10 H=> gdA (some v8) false (aC (ah v2 1) H) H λv11 H=> gdA (some v8) false (ld v11 H) H λv12 H=> gdA (some v8) false (aC (bi .geq 3 v10 v12) H) H λv13 H=> bo (aV v8 (B true) v13) λv14=>
 aJ v14
 (some ((.s (Go.Value.slice none 0 0)),H))
 (bo (ah v2 2) λv15=> bnd (ld v15 H) λv16 H=> bnd (mks 3 1 8 [zI] v16 v16 H) λv17 H=>
  bo (ah v2 2) λv19=> bnd (ld v19 H) λv20 H=> bo (bi .mul 3 a1 v20) λv21=> bo (ah v2 7) λv22=> bnd (ld v22 H) λv23 H=> bnd (lnS v23 H) λv24 H=> bnd (aC (ji Tryz.prog false #[3,3] 3 [v21,v24]) H) λv25 H=>
  bo (ah v2 7) λv27=> bnd (ld v27 H) λv28 H=> bo (slS 1 v28 (some v25) none none) λv30=> bnd (cpy 1 v17 v30 H) λv31 H=>
  some (v17,H))
theorem alq(C:Callee)(a0 a1:AV)(H:aj){r:AV × aj}(h:adS C a0 a1 H=some r):bH Tryz.prog C 157 [a0,a1] H=some r:=
 rnK (A:=alo) (c:=alp) Tryz.func157 (by kernel_rfl) (by kernel_rfl) h
def alr:Ann:=⟨[],[],[]⟩
def als:Code:=Tryz.f164.body.getD .skip
def LG(C:Callee)(a0 a1 a2:AV)(H:aj):OA:=
 bo (bi .geq 3 a0 a1) λv9=> gdA (some v9) true (aC (some a0) H) H λv11 H=> gdA (some v9) true (aC (some a2) H) H λv12 H=> gdA (some v9) true (aC (bi .lss 3 v11 v12) H) H λv13 H=> bo (aV v9 v13 (B false)) λv14=>
 some (v14,H)
theorem adT(C:Callee)(a0 a1 a2:AV)(H:aj){r:AV × aj}(h:LG C a0 a1 a2 H=some r):bH Tryz.prog C 164 [a0,a1,a2] H=some r:=
 rnK (A:=alr) (c:=als) Tryz.func164 (by kernel_rfl) (by kernel_rfl) h
def XB:Ann:=⟨[(4,[3,7,8,9]),(8,[3,7,8,9,18])],[],[]⟩
def LH:Code:=Tryz.f165.body.getD .skip
def yc(C:Callee):List AV->aj->OA:=(dL Tryz.prog C XB 30 LH (dH Tryz.prog 30 Tryz.f165.results.toList) (λ_ _ _=> none) (dH Tryz.prog 30 Tryz.f165.results.toList)).getD 0 λ_ _=> none
def BL(C:Callee):List AV->aj->OA:=(dL Tryz.prog C XB 30 LH (dH Tryz.prog 30 Tryz.f165.results.toList) (λ_ _ _=> none) (dH Tryz.prog 30 Tryz.f165.results.toList)).getD 1 λ_ _=> none
def adU(C:Callee)(a0:AV)(H:aj):OA:=
 bnd (lnS a0 H) λv8 H=>
 yc C [(.s (Go.Value.int Go.IntKind.u16 65535)),a0,v8,(I 0)] H
theorem Rl(C:Callee)(t3 t7 t8 t9:AV)(H:aj):yc C [t3,t7,t8,t9] H=
 bo (bi .lss 3 t9 t8) λv10=>
 aJ v10
 (bnd (ix 1 t7 t9 H) λv11 H=> bnd (ld v11 H) λv12 H=>
  bnd (cv 5 26 v12 H) λv15 H=> bo (bi .shl 26 v15 (.s (Go.Value.int Go.IntKind.u64 8))) λv16=> bo (bi .xor 26 t3 v16) λv17=>
  BL C [v17,t7,t8,t9,(I 0)] H)
 (some (t3,H)):=
 (congrFun (congrFun (congrArg (λl=> l.getD 0 λ_ _=> none) (cO LH (dH Tryz.prog 30 Tryz.f165.results.toList) (λ_ _ _=> none) (dH Tryz.prog 30 Tryz.f165.results.toList))) [t3,t7,t8,t9]) H).trans (by kernel_rfl)
theorem Rn(C:Callee)(t3 t7 t8 t9 t18:AV)(H:aj):BL C [t3,t7,t8,t9,t18] H=
 bo (bi .lss 3 t18 (I 8)) λv19=>
 aJ v19
 (bo (bi .shr 26 t3 (.s (Go.Value.int Go.IntKind.u64 15))) λv21=>
  bo (bi .shl 26 t3 (.s (Go.Value.int Go.IntKind.u64 1))) λv23=> bo (bi .mul 26 v21 (.s (Go.Value.int Go.IntKind.u16 4129))) λv25=> bo (bi .xor 26 v23 v25) λv26=>
  bo (bi .add 3 t18 (I 1)) λv27=>
  BL C [v26,t7,t8,t9,v27] H)
 (bo (bi .add 3 t9 (I 1)) λv28=>
  yc C [t3,t7,t8,v28] H):=
 (congrFun (congrFun (congrArg (λl=> l.getD 1 λ_ _=> none) (cO LH (dH Tryz.prog 30 Tryz.f165.results.toList) (λ_ _ _=> none) (dH Tryz.prog 30 Tryz.f165.results.toList))) [t3,t7,t8,t9,t18]) H).trans (by kernel_rfl)
theorem alu(C:Callee)(a0:AV)(H:aj){r:AV × aj}(h:adU C a0 H=some r):bH Tryz.prog C 165 [a0] H=some r:=
 rnK (A:=XB) (c:=LH) Tryz.func165 (by kernel_rfl) (by kernel_rfl) h
def XC:Ann:=⟨[(4,[0,3,9,10,11]),(12,[6,25,26,27])],[],[]⟩
def LJ:Code:=Tryz.f166.body.getD .skip
def Jh(C:Callee):List AV->aj->OA:=(dL Tryz.prog C XC 36 LJ (dH Tryz.prog 36 Tryz.f166.results.toList) (λ_ _ _=> none) (dH Tryz.prog 36 Tryz.f166.results.toList)).getD 0 λ_ _=> none
def Ji(C:Callee):List AV->aj->OA:=(dL Tryz.prog C XC 36 LJ (dH Tryz.prog 36 Tryz.f166.results.toList) (λ_ _ _=> none) (dH Tryz.prog 36 Tryz.f166.results.toList)).getD 1 λ_ _=> none
def BM(C:Callee)(t0 t3 t9 t10 t11:AV)(H:aj):OA:=
 bo (bi .add 3 t11 (I 1)) λv22=>
 Jh C [t0,t3,t9,t10,v22] H
def adV(C:Callee)(a0:AV)(H:aj):OA:=
 bnd (lnS a0 H) λv10 H=>
 Jh C [a0,(I 0),a0,v10,(I 0)] H
theorem Jj(C:Callee)(t0 t3 t9 t10 t11:AV)(H:aj):Jh C [t0,t3,t9,t10,t11] H=
 bo (bi .lss 3 t11 t10) λv12=>
 aJ v12
 (bnd (ix 1 t9 t11 H) λv13 H=> bnd (ld v13 H) λv14 H=>
  bnd (lnS v14 H) λv17 H=> bo (bi .add 3 t3 v17) λv18=>
  bo (bi .lss 3 v18 (I 0)) λv20=>
  aJ v20
  (bnd (stk H) λv21 H=> bnd (stk H) λ_ H=>
  BM C t0 v18 t9 t10 t11 H)
  (BM C t0 v18 t9 t10 t11 H))
 (bnd (C 192 [(.s (Go.Value.slice none 0 0)),t3] H) λv24 H=>
  bnd (lnS t0 H) λv26 H=>
  Ji C [v24,t0,v26,(I 0)] H):=
 (congrFun (congrFun (congrArg (λl=> l.getD 0 λ_ _=> none) (cO LJ (dH Tryz.prog 36 Tryz.f166.results.toList) (λ_ _ _=> none) (dH Tryz.prog 36 Tryz.f166.results.toList))) [t0,t3,t9,t10,t11]) H).trans (by kernel_rfl)
theorem Jk(C:Callee)(t6 t25 t26 t27:AV)(H:aj):Ji C [t6,t25,t26,t27] H=
 bo (bi .lss 3 t27 t26) λv28=>
 aJ v28
 (bnd (ix 1 t25 t27 H) λv29 H=> bnd (ld v29 H) λv30 H=>
  bnd (app 5 1 1 t6 v30 H) λv33 H=>
  bo (bi .add 3 t27 (I 1)) λv34=>
  Ji C [v33,t25,t26,v34] H)
 (some (t6,H)):=
 (congrFun (congrFun (congrArg (λl=> l.getD 1 λ_ _=> none) (cO LJ (dH Tryz.prog 36 Tryz.f166.results.toList) (λ_ _ _=> none) (dH Tryz.prog 36 Tryz.f166.results.toList))) [t6,t25,t26,t27]) H).trans (by kernel_rfl)
theorem alv(C:Callee)(a0:AV)(H:aj){r:AV × aj}(h:adV C a0 H=some r):bH Tryz.prog C 166 [a0] H=some r:=
 rnK (A:=XC) (c:=LJ) Tryz.func166 (by kernel_rfl) (by kernel_rfl) h
def alx:Ann:=⟨[],[],[]⟩
def aly:Code:=Tryz.f168.body.getD .skip
def BN(C:Callee)(t2 t4 t5:AV)(H:aj):OA:=
 bnd (lda 9 t4 H) λv20 H=> bnd (st 9 t2 v20 H) λ_ H=>
 bnd (lda 9 t2 H) λr0 _=> some (.tup [r0,t5],H)
def XD(C:Callee)(a0:AV)(H:aj):OA:=
 bnd (alc 51 [zI,zI,zI,zI,zI,zI,zI,zB,zN] H) λv2 H=>
 bnd (C 193 [a0] H) λv8 H=> bo (aF v8 0) λv9=> bo (aF v8 1) λv10=> bnd (alc 51 [zI,zI,zI,zI,zI,zI,zI,zB,zN] H) λv4 H=> bnd (st 9 v4 v9 H) λ_ H=>
 aJ v10
 (bo (au a0) λv14=> bo (ah v14 0) λv15=> bnd (ld v15 H) λv16 H=> bnd (C 85 [v16,(I 0),(I 1)] H) λv17 H=> bo (au a0) λv18=> bo (ah v18 0) λv19=> bnd (st 1 v19 v17 H) λ_ H=>
  BN C v2 v4 v10 H)
 (BN C v2 v4 v10 H)
theorem alz(C:Callee)(a0:AV)(H:aj){r:AV × aj}(h:XD C a0 H=some r):bH Tryz.prog C 168 [a0] H=some r:=
 rnK (A:=alx) (c:=aly) Tryz.func168 (by kernel_rfl) (by kernel_rfl) h
def alA:Ann:=⟨[],[],[]⟩
def alB:Code:=Tryz.f169.body.getD .skip
def Gl(C:Callee)(a0 a1:AV)(H:aj):OA:=
 bnd (eU 74 a0 H) λv2 H=> bnd (eU 51 a1 H) λv3 H=>
 bo (ah v2 3) λv6=> bnd (ld v6 H) λv7 H=> bnd (C 176 [v7] H) λv8 H=> bnd (C 185 [v8] H) λv9 H=>
 bo (bi .neq 3 v9 (I 0)) λv11=> gdA (some v11) true (aC (ah v3 0) H) H λv13 H=> gdA (some v11) true (ld v13 H) H λv14 H=> gdA (some v11) true (aC (some v9) H) H λv15 H=> gdA (some v11) true (aC (bi .eql 3 v14 v15) H) H λv16 H=> bo (aV v11 v16 (B false)) λv17=> gdA (some v17) true (aC (ah v3 3) H) H λv19 H=> gdA (some v17) true (ld v19 H) H λv20 H=> gdA (some v17) true (aC (ah v2 2) H) H λv21 H=> gdA (some v17) true (ld v21 H) H λv22 H=> gdA (some v17) true (aC (bi .eql 3 v20 v22) H) H λv23 H=> bo (aV v17 v23 (B false)) λv24=> gdA (some v24) true (aC (ah v3 4) H) H λv26 H=> gdA (some v24) true (ld v26 H) H λv27 H=> gdA (some v24) true (aC (ah v2 1) H) H λv28 H=> gdA (some v24) true (ld v28 H) H λv29 H=> gdA (some v24) true (aC (bi .eql 3 v27 v29) H) H λv30 H=> bo (aV v24 v30 (B false)) λv31=>
 some (v31,H)
theorem alC(C:Callee)(a0 a1:AV)(H:aj){r:AV × aj}(h:Gl C a0 a1 H=some r):bH Tryz.prog C 169 [a0,a1] H=some r:=
 rnK (A:=alA) (c:=alB) Tryz.func169 (by kernel_rfl) (by kernel_rfl) h
def alD:Ann:=⟨[],[(1,rF 8 (some true::rF 8 []))],[(1,[(3,10),(5,10),(5,12)])]⟩
def alE:Code:=Tryz.f170.body.getD .skip
def XE(C:Callee)(a0 a1 a2 a3:AV)(H:aj):OA:=
 bnd (eU 74 a0 H) λv4 H=> bnd (eU 51 a3 H) λv7 H=> bnd (alc 74 [zI,zI,zI,zI,zI,zI,zN,zI,zI] H) λv8 H=>
 bo (ah v7 6) λv10=> bnd (ld v10 H) λv11 H1=> bo (ah v7 5) λv12=> bnd (ld v12 H1) λv13 H3=> bo (ah v7 5) λv14=> bnd (ld v14 H3) λv15 H5=> bo (ah v7 8) λv16=> bnd (ld v16 H5) λv17 H7=> bnd (unG H7 (C 28 [v17] H7.guard)) λv18 H8=> bo (ah v4 4) λv19=> bnd (st 1 v19 v11 H8) λ_ H10=> bo (ah v4 5) λv20=> bnd (st 1 v20 v13 H10) λ_ H12=> bo (ah v4 8) λv21=> bnd (st 1 v21 v15 H12) λ_ H14=> bo (ah v4 6) λv22=> bnd (st 1 v22 v18 H14) λ_ H16=> ck (aU v12) H8 H10 <| ck (aU v14) H8 H10 <| ck (aU v14) H10 H12 <|
 bo (ah v4 4) λv23=> bnd (ld v23 H16) λv24 H16=> bo (bi .neq 3 v24 (I 0)) λv25=>
 aJ v25
 (bo (ah v4 3) λv26=> bnd (st 1 v26 (I 2) H16) λ_ H16=>
  bnd (lda 9 v4 H16) λv27 H16=> bnd (st 9 v8 v27 H16) λ_ H16=>
  bnd (lda 9 v8 H16) λr0 _=> some (.tup [r0,(B true)],H16))
 (bo (ah v4 1) λv29=> bnd (ld v29 H16) λv30 H16=> bo (ah v7 8) λv31=> bnd (ld v31 H16) λv32 H16=> bnd (C 194 [v30,(I (-1)),(I (-1)),(B false),v32] H16) λv33 H16=> bnd (C 140 [a2,v33] H16) λv34 H16=>
  bo (ah v4 3) λv36=> bnd (st 1 v36 (I 6) H16) λ_ H16=> bo (ah v4 4) λv37=> bnd (st 1 v37 (I 1) H16) λ_ H16=> bo (ah v4 5) λv38=> bnd (st 1 v38 a1 H16) λ_ H16=> bo (ah v4 6) λv39=> bnd (st 1 v39 (.s (Go.Value.slice none 0 0)) H16) λ_ H16=>
  bnd (lda 9 v4 H16) λv40 H16=> bnd (st 9 v8 v40 H16) λ_ H16=>
  bnd (lda 9 v8 H16) λr0 _=> some (.tup [r0,(B true)],H16))
theorem alF(C:Callee)(a0 a1 a2 a3:AV)(H:aj){r:AV × aj}(h:XE C a0 a1 a2 a3 H=some r):bH Tryz.prog C 170 [a0,a1,a2,a3] H=some r:=
 rnK (A:=alD) (c:=alE) Tryz.func170 (by kernel_rfl) (by kernel_rfl) h
def alG:Ann:=⟨[],[],[]⟩
def alH:Code:=Tryz.f171.body.getD .skip
def BO(C:Callee)(t4 t8:AV)(H:aj):OA:=
 bnd (lda 9 t4 H) λv30 H=> bnd (st 9 t8 v30 H) λ_ H=>
 bnd (lda 9 t8 H) λr0 _=> some (.tup [r0,(B true)],H)
def XF(C:Callee)(a0 a1 a2 a3:AV)(H:aj):OA:=
 bnd (eU 74 a0 H) λv4 H=> bnd (eU 51 a3 H) λv7 H=> bnd (alc 74 [zI,zI,zI,zI,zI,zI,zN,zI,zI] H) λv8 H=>
 bo (ah v4 1) λv11=> bnd (ld v11 H) λv12 H=> bo (ah v4 5) λv13=> bnd (ld v13 H) λv14 H=> bo (ah v7 8) λv15=> bnd (ld v15 H) λv16 H=> bnd (C 194 [v12,v14,(I (-1)),(B false),v16] H) λv17 H=> bnd (C 140 [a2,v17] H) λv18 H=>
 bo (ah v4 3) λv20=> bnd (st 1 v20 (I 6) H) λ_ H=> bo (ah v4 4) λv21=> bnd (st 1 v21 (I 1) H) λ_ H=> bo (ah v4 5) λv22=> bnd (st 1 v22 a1 H) λ_ H=> bo (ah v4 6) λv23=> bnd (st 1 v23 (.s (Go.Value.slice none 0 0)) H) λ_ H=>
 bo (ah v7 7) λv24=> bnd (ld v24 H) λv25 H=>
 aJ v25
 (bo (ah v7 8) λv26=> bnd (ld v26 H) λv27 H=> bnd (C 28 [v27] H) λv28 H=> bo (ah v4 6) λv29=> bnd (st 1 v29 v28 H) λ_ H=>
  BO C v4 v8 H)
 (BO C v4 v8 H)
theorem alI(C:Callee)(a0 a1 a2 a3:AV)(H:aj){r:AV × aj}(h:XF C a0 a1 a2 a3 H=some r):bH Tryz.prog C 171 [a0,a1,a2,a3] H=some r:=
 rnK (A:=alG) (c:=alH) Tryz.func171 (by kernel_rfl) (by kernel_rfl) h
def alJ:Ann:=⟨[],[],[]⟩
def alK:Code:=Tryz.f172.body.getD .skip
def yg(C:Callee)(t1 t2 t3 t6:AV)(H:aj):OA:=
 bo (ah t3 7) λv27=> bnd (ld v27 H) λv28 H=> bo (bi .neq 3 v28 (I (-1))) λv29=>
 aJ v29
 (bo (ah t3 3) λv30=> bnd (st 1 v30 (I 3) H) λ_ H=>
  bnd (lda 9 t3 H) λv31 H=> bnd (st 9 t6 v31 H) λ_ H=>
  bnd (lda 9 t6 H) λr0 _=> some (r0,H))
 (bo (ah t3 1) λv33=> bnd (ld v33 H) λv34 H=> bo (ah t3 6) λv35=> bnd (ld v35 H) λv36 H=> bnd (C 194 [v34,(I (-1)),(I (-1)),(B true),v36] H) λv37 H=> bnd (C 140 [t2,v37] H) λv38 H=>
  bo (ah t3 3) λv40=> bnd (st 1 v40 (I 6) H) λ_ H=> bo (ah t3 4) λv41=> bnd (st 1 v41 (I 2) H) λ_ H=> bo (ah t3 5) λv42=> bnd (st 1 v42 t1 H) λ_ H=> bo (ah t3 6) λv43=> bnd (st 1 v43 (.s (Go.Value.slice none 0 0)) H) λ_ H=>
  bnd (lda 9 t3 H) λv44 H=> bnd (st 9 t6 v44 H) λ_ H=>
  bnd (lda 9 t6 H) λr0 _=> some (r0,H))
def LK(C:Callee)(a0 a1 a2:AV)(H:aj):OA:=
 bnd (eU 74 a0 H) λv3 H=> bnd (alc 74 [zI,zI,zI,zI,zI,zI,zN,zI,zI] H) λv6 H=>
 bo (ah v3 1) λv11=> bnd (ld v11 H) λv12 H=> bnd (C 101 [a2,v12] H) λv13 H=> bo (aF v13 0) λv14=> bo (aF v13 1) λv15=> bnd (alc 112 [zI,zI,zI,zI,zB,zN] H) λv7 H=> bnd (st 6 v7 v14 H) λ_ H=>
 bo (ah v3 7) λv16=> bnd (ld v16 H) λv17 H=> bo (bi .eql 3 v17 a1) λv19=> gdA (some v19) true (aC (some v15) H) H λv21 H=> bo (aV v19 v21 (B false)) λv22=>
 aJ v22
 (bo (ah v7 0) λv23=> bo (ah v23 0) λv24=> bnd (ld v24 H) λv25 H=> bo (ah v3 7) λv26=> bnd (st 1 v26 v25 H) λ_ H=>
  yg C a1 a2 v3 v6 H)
 (yg C a1 a2 v3 v6 H)
theorem alL(C:Callee)(a0 a1 a2:AV)(H:aj){r:AV × aj}(h:LK C a0 a1 a2 H=some r):bH Tryz.prog C 172 [a0,a1,a2] H=some r:=
 rnK (A:=alJ) (c:=alK) Tryz.func172 (by kernel_rfl) (by kernel_rfl) h
def alM:Ann:=⟨[],[(1,rF 14 []),(4,rF 12 []),(13,rF 9 [])],[(1,[(3,7),(5,7),(5,9)]),(4,[(5,7)]),(13,[(2,4)])]⟩
def alN:Code:=Tryz.f173.body.getD .skip
def oU(C:Callee)(t3 t6:AV)(H:aj):OA:=
 bnd (lda 9 t3 H) λv65 H=> bnd (st 9 t6 v65 H) λ_ H=>
 bnd (lda 9 t6 H) λr0 _=> some (r0,H)
def Gm(C:Callee)(a0 a1 a2:AV)(H:aj):OA:=
 bnd (eU 74 a0 H) λv3 H=> bnd (eU 51 a2 H) λv5 H=> bnd (alc 74 [zI,zI,zI,zI,zI,zI,zN,zI,zI] H) λv6 H=>
 bo (ah v5 6) λv9=> bnd (ld v9 H) λv10 H1=> bo (ah v5 5) λv11=> bnd (ld v11 H1) λv12 H3=> bo (ah v5 5) λv13=> bnd (ld v13 H3) λv14 H5=> bo (ah v3 4) λv15=> bnd (st 1 v15 v10 H5) λ_ H7=> bo (ah v3 5) λv16=> bnd (st 1 v16 v12 H7) λ_ H9=> bo (ah v3 8) λv17=> bnd (st 1 v17 v14 H9) λ_ H11=> bo (ah v3 6) λv18=> bnd (st 1 v18 (.s (Go.Value.slice none 0 0)) H11) λ_ H13=> ck (aU v11) H5 H7 <| ck (aU v13) H5 H7 <| ck (aU v13) H7 H9 <|
 bo (ah v3 3) λv19=> bnd (st 1 v19 (I 6) H13) λ_ H13=>
 bo (ah v3 1) λv22=> bnd (ld v22 H13) λv23 H13=> bnd (C 101 [a1,v23] H13) λv24 H13=> bo (aF v24 0) λv25=> bo (aF v24 1) λv26=> bnd (alc 112 [zI,zI,zI,zI,zB,zN] H13) λv7 H13=> bnd (st 6 v7 v25 H13) λ_ H13=>
 bo (un .not v26) λv38=>
 aJ v38
 (bnd (lda 9 v3 H13) λv39 H13=> bnd (st 9 v6 v39 H13) λ_ H13=>
  bnd (lda 9 v6 H13) λr0 _=> some (r0,H13))
 (bo (ah v7 0) λv41=> bnd (lda 2 v41 H13) λv42 H13=> bnd (C 195 [v42] H13) λv43 H13=>
  aJ v43
  (bo (ah v3 1) λv45=> bnd (ld v45 H13) λv46 H13=> bnd (C 188 [a1,v46] H13) λv47 H13=>
  bo (ah v3 4) λv48=> bnd (st 1 v48 (I 0) H13) λ_ H13=> bo (ah v3 5) λv49=> bnd (st 1 v49 (I (-1)) H13) λ_ H13=>
  bo (ah v7 4) λv50=> bnd (ld v50 H13) λv51 H13=>
  aJ v51
  (bo (ah v7 5) λv52=> bnd (ld v52 H13) λv53 H13=> bo (ah v3 6) λv54=> bnd (st 1 v54 v53 H13) λ_ H13=>
   oU C v3 v6 H13)
  (oU C v3 v6 H13))
  (bo (ah v7 0) λv56=> bnd (lda 2 v56 H13) λv57 H13=> bnd (C 196 [v57] H13) λv58 H13=>
  aJ v58
  (bo (ah v7 0) λv59=> bo (ah v59 0) λv60=> bnd (ld v60 H13) λv61 ate=> bo (ah v3 5) λv62=> bnd (st 1 v62 (I (-1)) ate) λ_ ajq=> bo (ah v3 7) λv63=> bnd (st 1 v63 v61 ajq) λ_ ak4=> bo (ah v3 3) λv64=> bnd (st 1 v64 (I 5) ak4) λ_ aug=> ck (aU v60) ate ajq <|
   oU C v3 v6 aug)
  (bo (ah v7 0) λv27=> bo (ah v27 1) λv28=> bnd (ld v28 H13) λv29 auh=> bo (ah v7 0) λv30=> bo (ah v30 0) λv31=> bnd (ld v31 auh) λv32 aob=> bo (ah v3 5) λv33=> bnd (st 1 v33 v29 aob) λ_ atf=> bo (ah v3 7) λv34=> bnd (st 1 v34 v32 atf) λ_ aoa=> bo (ah v3 3) λv35=> bnd (st 1 v35 (I 4) aoa) λ_ asr=> ck (aU v31) aob atf <|
   oU C v3 v6 asr)))
theorem alO(C:Callee)(a0 a1 a2:AV)(H:aj){r:AV × aj}(h:Gm C a0 a1 a2 H=some r):bH Tryz.prog C 173 [a0,a1,a2] H=some r:=
 rnK (A:=alM) (c:=alN) Tryz.func173 (by kernel_rfl) (by kernel_rfl) h
def alP:Ann:=⟨[],[],[]⟩
def alQ:Code:=Tryz.f174.body.getD .skip
def adW(C:Callee)(a0 a1 a2:AV)(H:aj):OA:=
 bnd (eU 74 a0 H) λv3 H=> bnd (alc 74 [zI,zI,zI,zI,zI,zI,zN,zI,zI] H) λv6 H=>
 bo (ah v3 1) λv8=> bnd (ld v8 H) λv9 H=> bnd (C 188 [a1,v9] H) λv10 H=>
 bo (ah v3 3) λv12=> bnd (st 1 v12 (I 6) H) λ_ H=> bo (ah v3 4) λv13=> bnd (st 1 v13 (I 1) H) λ_ H=> bo (ah v3 5) λv14=> bnd (st 1 v14 a2 H) λ_ H=> bo (ah v3 6) λv15=> bnd (st 1 v15 (.s (Go.Value.slice none 0 0)) H) λ_ H=>
 bnd (lda 9 v3 H) λv16 H=> bnd (st 9 v6 v16 H) λ_ H=>
 bnd (lda 9 v6 H) λr0 _=> some (r0,H)
theorem alR(C:Callee)(a0 a1 a2:AV)(H:aj){r:AV × aj}(h:adW C a0 a1 a2 H=some r):bH Tryz.prog C 174 [a0,a1,a2] H=some r:=
 rnK (A:=alP) (c:=alQ) Tryz.func174 (by kernel_rfl) (by kernel_rfl) h
def alS:Ann:=⟨[],[],[]⟩
def alT:Code:=Tryz.f175.body.getD .skip
def LM(C:Callee)(a0 a1:AV)(H:aj):OA:=
 bnd (eU 112 a0 H) λv2 H=>
 bo (bi .geq 3 a1 (I 0)) λv6=> gdA (some v6) true (aC (some a1) H) H λv8 H=> gdA (some v6) true (aC (ah v2 5) H) H λv9 H=> gdA (some v6) true (ld v9 H) H λv10 H=> gdA (some v6) true (lnS v10 H) H λv11 H=> gdA (some v6) true (aC (bi .lss 3 v8 v11) H) H λv12 H=> bo (aV v6 v12 (B false)) λv13=>
 some (v13,H)
theorem adX(C:Callee)(a0 a1:AV)(H:aj){r:AV × aj}(h:LM C a0 a1 H=some r):bH Tryz.prog C 175 [a0,a1] H=some r:=
 rnK (A:=alS) (c:=alT) Tryz.func175 (by kernel_rfl) (by kernel_rfl) h
def alU:Ann:=⟨[],[],[]⟩
def alV:Code:=Tryz.f176.body.getD .skip
def Aj(C:Callee)(a0:AV)(H:aj):OA:=
 bo (bi .eql 3 a0 (I 1)) λv5=>
 aJ v5
 (some ((I 1),H))
 (bo (bi .eql 3 a0 (I 2)) λv7=>
  aJ v7
  (some ((I 3),H))
  (bo (bi .eql 3 a0 (I 3)) λv9=>
  aJ v9
  (some ((I 6),H))
  (bo (bi .eql 3 a0 (I 4)) λv11=>
   aJ v11
   (some ((I 4),H))
   (bo (bi .eql 3 a0 (I 5)) λv13=>
   aJ v13
   (some ((I 5),H))
   (bo (bi .eql 3 a0 (I 6)) λv15=>
    aJ v15
    (some ((I 2),H))
    (some ((I 0),H)))))))
theorem alW(C:Callee)(a0:AV)(H:aj){r:AV × aj}(h:Aj C a0 H=some r):bH Tryz.prog C 176 [a0] H=some r:=
 rnK (A:=alU) (c:=alV) Tryz.func176 (by kernel_rfl) (by kernel_rfl) h
def alX:Ann:=⟨[],[],[]⟩
def alY:Code:=Tryz.f177.body.getD .skip
def XG(C:Callee)(a0 a1:AV)(H:aj):OA:=
 bo (bi .lss 3 a0 (I 0)) λv6=>
 aJ v6
 (some ((I (-1)),H))
 (bo (bi .rem 3 a0 a1) λv9=>
  some (v9,H))
theorem alZ(C:Callee)(a0 a1:AV)(H:aj){r:AV × aj}(h:XG C a0 a1 H=some r):bH Tryz.prog C 177 [a0,a1] H=some r:=
 rnK (A:=alX) (c:=alY) Tryz.func177 (by kernel_rfl) (by kernel_rfl) h
def al0:Ann:=⟨[],[],[]⟩
def al1:Code:=Tryz.f179.body.getD .skip
def adY(C:Callee)(a0:AV)(H:aj):OA:=
 bnd (eU 262 a0 H) λv1 H=>
 some ((.fn (.func 198) [] [v1]),H)
theorem al2(C:Callee)(a0:AV)(H:aj){r:AV × aj}(h:adY C a0 H=some r):bH Tryz.prog C 179 [a0] H=some r:=
 rnK (A:=al0) (c:=al1) Tryz.func179 (by kernel_rfl) (by kernel_rfl) h
def al3:Ann:=⟨[],[],[]⟩
def al4:Code:=Tryz.f180.body.getD .skip
def XH(C:Callee)(a0 a1:AV)(H:aj):OA:=
 bo (au a0) λv9=> bo (ah v9 0) λv10=> bnd (ld v10 H) λv11 H=> bnd (lk .i64 (.int .i64 0) v11 a1 true H) λv13 H=> bo (aF v13 0) λv14=> bo (aF v13 1) λv15=>
 some (v15,H)
theorem al5(C:Callee)(a0 a1:AV)(H:aj){r:AV × aj}(h:XH C a0 a1 H=some r):bH Tryz.prog C 180 [a0,a1] H=some r:=
 rnK (A:=al3) (c:=al4) Tryz.func180 (by kernel_rfl) (by kernel_rfl) h
def al6:Ann:=⟨[],[],[]⟩
def al7:Code:=Tryz.f181.body.getD .skip
def adZ(C:Callee)(a0 a1:AV)(H:aj):OA:=
 bo (au a0) λv6=> bo (ah v6 1) λv7=> bnd (ld v7 H) λv8 H=> bnd (lk .i64 (.slice none 0 0) v8 a1 false H) λv10 H=> bnd (lnS v10 H) λv11 H=>
 some (v11,H)
theorem al8(C:Callee)(a0 a1:AV)(H:aj){r:AV × aj}(h:adZ C a0 a1 H=some r):bH Tryz.prog C 181 [a0,a1] H=some r:=
 rnK (A:=al6) (c:=al7) Tryz.func181 (by kernel_rfl) (by kernel_rfl) h
def al9:Ann:=⟨[],[],[]⟩
def ama:Code:=Tryz.f182.body.getD .skip
def XI(C:Callee)(a0 a1:AV)(H:aj):OA:=
 bnd (alc 260 [zI,zI,zN] H) λv4 H=>
 bo (au a0) λv10=> bo (ah v10 8) λv11=> bnd (ld v11 H) λv12 H=> bnd (lk .i64 (.agg #[.int .i64 0,.int .i64 0,.slice none 0 0]) v12 a1 true H) λv14 H=> bo (aF v14 0) λv15=> bo (aF v14 1) λv16=> bnd (alc 260 [zI,zI,zN] H) λv6 H=> bnd (st 3 v6 v15 H) λ_ H=>
 bo (ah v6 2) λv17=> bnd (ld v17 H) λv18 H=> bnd (C 28 [v18] H) λv19 H=> bo (ah v6 2) λv20=> bnd (st 1 v20 v19 H) λ_ H=>
 bnd (lda 3 v6 H) λv21 H=> bnd (st 3 v4 v21 H) λ_ H=>
 bnd (lda 3 v4 H) λr0 _=> some (.tup [r0,v16],H)
theorem amb(C:Callee)(a0 a1:AV)(H:aj){r:AV × aj}(h:XI C a0 a1 H=some r):bH Tryz.prog C 182 [a0,a1] H=some r:=
 rnK (A:=al9) (c:=ama) Tryz.func182 (by kernel_rfl) (by kernel_rfl) h
def amc:Ann:=⟨[],[(4,rF 17 [])],[(4,[(3,15)])]⟩
def amd:Code:=Tryz.f183.body.getD .skip
def LP(C:Callee)(a0 a1 a2 a3:AV)(H:aj):OA:=
 bo (bi .lss 3 a2 (I 0)) λv10=>
 aJ v10
 (some ((B false),H))
 (bnd (C 180 [a0,a1] H) λv13 H=> gdA (some v13) false (aC (some a0) H) H λv15 H=> gdA (some v13) false (aC (some a1) H) H λv16 H=> gdA (some v13) false (C 181 [v15,v16] H) H λv17 H=> gdA (some v13) false (aC (bi .gtr 3 v17 (I 0)) H) H λv18 H=> bo (aV v13 (B true) v18) λv19=>
  aJ v19
  (bo (au a0) λv21=> bo (ah v21 1) λv22=> bnd (ld v22 H) λv23 H3=> bo (au a0) λv26=> bo (ah v26 1) λv27=> bnd (ld v27 H3) λv28 H8=> bnd (lk .i64 (.slice none 0 0) v28 a1 false H8) λv30 H10=> bo (bd 286 [(0,a2),(1,a3)]) λv33=> bnd (bs 284 1 [(0,v33)] H10) λv34 H14=> bnd (app 286 2 16 v30 v34 H14) λv35 H15=> bnd (mup .i64 v23 a1 v35 H15) λ_ H16=> ck (aU v22) H14 H15 <|
  some ((B false),H16))
  (bo (au a0) λv37=> bo (ah v37 0) λv38=> bnd (ld v38 H) λv39 H=> bnd (mup .i64 v39 a1 a2 H) λ_ H=>
  some ((B true),H)))
theorem ame(C:Callee)(a0 a1 a2 a3:AV)(H:aj){r:AV × aj}(h:LP C a0 a1 a2 a3 H=some r):bH Tryz.prog C 183 [a0,a1,a2,a3] H=some r:=
 rnK (A:=amc) (c:=amd) Tryz.func183 (by kernel_rfl) (by kernel_rfl) h
def amf:Ann:=⟨[],[(1,rF 6 (some true::rF 3 [])),(6,rF 13 []),(9,rF 10 [])],[]⟩
def amg:Code:=Tryz.f184.body.getD .skip
def uS(C:Callee)(t0 t3 t5:AV)(H:aj):OA:=
 bo (au t0) λv22=> bo (ah v22 0) λv23=> bnd (ld v23 H) λv24 H=> bo (ah t3 4) λv25=> bnd (ld v25 H) λv26 H=> bo (ah t3 6) λv27=> bnd (ld v27 H) λv28 H=> bo (ah t3 5) λv29=> bnd (ld v29 H) λv30 H=> bnd (C 200 [v24,v26,v28,v30,t5] H) λv32 H=>
 bo (bi .neq 58 v32 (I 0)) λv34=>
 aJ v34
 (some (v32,H))
 (bo (au t0) λv37=> bo (ah v37 1) λv38=> bnd (ld v38 H) λv39 H=> bo (ah t3 4) λv40=> bnd (ld v40 H) λv41 H=> bo (ah t3 1) λv42=> bnd (ld v42 H) λv43 H=> bnd (C 201 [v39,v41,v43] H) λv44 H=>
  some (v44,H))
def Gn(C:Callee)(a0 a1:AV)(H:aj):OA:=
 bnd (eU 51 a1 H) λv3 H=>
 bo (au a0) λv8=> bo (ah v8 1) λv9=> bnd (ld v9 H) λv10 H=> bo (ah v3 4) λv11=> bnd (ld v11 H) λv12 H=> bnd (unG H (C 199 [v10,v12] H.guard)) λv13 H=> bo (ah v3 1) λv14=> bnd (ld v14 H) λv15 H=> bo (bi .neq 3 v13 v15) λv16=>
 aJ v16
 (some ((I 6),H))
 (bo (ah v3 7) λv17=> bnd (ld v17 H) λv18 H=>
  aJ v18
  (bo (ah v3 8) λv19=> bnd (ld v19 H) λv20 H=>
  uS C a0 v3 v20 H)
  (uS C a0 v3 (.s (Go.Value.slice none 0 0)) H))
theorem amh(C:Callee)(a0 a1:AV)(H:aj){r:AV × aj}(h:Gn C a0 a1 H=some r):bH Tryz.prog C 184 [a0,a1] H=some r:=
 rnK (A:=amf) (c:=amg) Tryz.func184 (by kernel_rfl) (by kernel_rfl) h
def ami:Ann:=⟨[],[],[]⟩
def amj:Code:=Tryz.f185.body.getD .skip
def yh(C:Callee)(t10:AV)(H:aj):OA:=
 aJ t10
 (some ((I 9),H))
 (some ((I 0),H))
def nD(C:Callee)(t3 t6:AV)(H:aj):OA:=
 aJ t6
 (some ((I 8),H))
 (bo (bi .eql 3 t3 (I 3)) λv11=>
  aJ v11
  (yh C v11 H)
  (bo (bi .eql 3 t3 (I 6)) λv12=>
  yh C v12 H))
def Ak(C:Callee)(a0:AV)(H:aj):OA:=
 bo (bi .eql 3 a0 (I 1)) λv5=>
 aJ v5
 (some ((I 7),H))
 (bo (bi .eql 3 a0 (I 2)) λv7=>
  aJ v7
  (nD C a0 v7 H)
  (bo (bi .eql 3 a0 (I 4)) λv8=>
  aJ v8
  (nD C a0 v8 H)
  (bo (bi .eql 3 a0 (I 5)) λv9=>
   nD C a0 v9 H)))
theorem amk(C:Callee)(a0:AV)(H:aj){r:AV × aj}(h:Ak C a0 H=some r):bH Tryz.prog C 185 [a0] H=some r:=
 rnK (A:=ami) (c:=amj) Tryz.func185 (by kernel_rfl) (by kernel_rfl) h
def aml:Ann:=⟨[],[],[]⟩
def amm:Code:=Tryz.f186.body.getD .skip
def ad1(C:Callee)(a0 a1:AV)(H:aj):OA:=
 bo (au a0) λv6=> bo (ah v6 1) λv7=> bnd (st 1 v7 a1 H) λ_ H=>
 some (.tup [],H)
theorem amn(C:Callee)(a0 a1:AV)(H:aj){r:AV × aj}(h:ad1 C a0 a1 H=some r):bH Tryz.prog C 186 [a0,a1] H=some r:=
 rnK (A:=aml) (c:=amm) Tryz.func186 (by kernel_rfl) (by kernel_rfl) h
def amo:Ann:=⟨[],[],[]⟩
def amq:Code:=Tryz.f187.body.getD .skip
def ad2(C:Callee)(a0 a1:AV)(H:aj):OA:=
 bo (au a0) λv6=> bo (ah v6 0) λv7=> bnd (st 1 v7 a1 H) λ_ H=>
 some (.tup [],H)
theorem amr(C:Callee)(a0 a1:AV)(H:aj){r:AV × aj}(h:ad2 C a0 a1 H=some r):bH Tryz.prog C 187 [a0,a1] H=some r:=
 rnK (A:=amo) (c:=amq) Tryz.func187 (by kernel_rfl) (by kernel_rfl) h
def ams:Ann:=⟨[],[],[]⟩
def amu:Code:=Tryz.f188.body.getD .skip
def BP(C:Callee)(t4 t6 t7:AV)(H:aj):OA:=
 bnd (lda 6 t6 H) λv30 H=> bnd (st 6 t4 v30 H) λ_ H=>
 bnd (lda 6 t4 H) λr0 _=> some (.tup [r0,t7],H)
def XJ(C:Callee)(a0 a1:AV)(H:aj):OA:=
 bnd (alc 112 [zI,zI,zI,zI,zB,zN] H) λv4 H=>
 bnd (C 101 [a0,a1] H) λv12 H=> bo (aF v12 0) λv13=> bo (aF v12 1) λv14=> bnd (alc 112 [zI,zI,zI,zI,zB,zN] H) λv6 H=> bnd (st 6 v6 v13 H) λ_ H=>
 aJ v14
 (bnd (C 151 [a0,a1] H) λv18 H=>
  bo (au a0) λv21=> bo (ah v21 0) λv22=> bnd (ld v22 H) λv23 H=> bo (bi .add 3 v18 (I 1)) λv26=> bnd (C 202 [v23,v18,v26] H) λv27 H=> bo (au a0) λv28=> bo (ah v28 0) λv29=> bnd (st 1 v29 v27 H) λ_ H=>
  BP C v4 v6 v14 H)
 (BP C v4 v6 v14 H)
theorem amv(C:Callee)(a0 a1:AV)(H:aj){r:AV × aj}(h:XJ C a0 a1 H=some r):bH Tryz.prog C 188 [a0,a1] H=some r:=
 rnK (A:=ams) (c:=amu) Tryz.func188 (by kernel_rfl) (by kernel_rfl) h
def ad3:Ann:=⟨[(3,[0,1,7,8])],[],[]⟩
def XK:Code:=Tryz.f189.body.getD .skip
def BQ(C:Callee):List AV->aj->OA:=(dL Tryz.prog C ad3 19 XK (dH Tryz.prog 19 Tryz.f189.results.toList) (λ_ _ _=> none) (dH Tryz.prog 19 Tryz.f189.results.toList)).getD 0 λ_ _=> none
def ad4(C:Callee)(a0 a1:AV)(H:aj):OA:=
 bnd (lnS a0 H) λv7 H=>
 BQ C [a0,a1,v7,(I 0)] H
theorem Ro(C:Callee)(t0 t1 t7 t8:AV)(H:aj):BQ C [t0,t1,t7,t8] H=
 bo (bi .lss 3 t8 t7) λv9=>
 aJ v9
 (bnd (ix 6 t0 t8 H) λv14 H=> bnd (lda 6 v14 H) λv15 H=> bnd (qI Tryz.prog C t1 [v15] H) λv16 H=>
  aJ v16
  (some (t8,H))
  (bo (bi .add 3 t8 (I 1)) λv18=>
  BQ C [t0,t1,t7,v18] H))
 (some ((I (-1)),H)):=
 (congrFun (congrFun (congrArg (λl=> l.getD 0 λ_ _=> none) (cO XK (dH Tryz.prog 19 Tryz.f189.results.toList) (λ_ _ _=> none) (dH Tryz.prog 19 Tryz.f189.results.toList))) [t0,t1,t7,t8]) H).trans (by kernel_rfl)
theorem amw(C:Callee)(a0 a1:AV)(H:aj){r:AV × aj}(h:ad4 C a0 a1 H=some r):bH Tryz.prog C 189 [a0,a1] H=some r:=
 rnK (A:=ad3) (c:=XK) Tryz.func189 (by kernel_rfl) (by kernel_rfl) h
def amx:Ann:=⟨[],[],[]⟩
def amy:Code:=Tryz.f190.body.getD .skip
def ad5(C:Callee)(a0 a1:AV)(H:aj):OA:=
 bnd (eU 112 a0 H) λv2 H=>
 bo (ah v2 2) λv4=> bnd (ld v4 H) λv5 H=> bnd (ld a1 H) λv6 H=> bo (bi .eql 3 v5 v6) λv7=>
 some (v7,H)
theorem amA(C:Callee)(a0 a1:AV)(H:aj){r:AV × aj}(h:ad5 C a0 a1 H=some r):bH Tryz.prog C 190 [a0,a1] H=some r:=
 rnK (A:=amx) (c:=amy) Tryz.func190 (by kernel_rfl) (by kernel_rfl) h
def amB:Ann:=⟨[],[],[]⟩
def amC:Code:=Tryz.f193.body.getD .skip
def XL(C:Callee)(a0:AV)(H:aj):OA:=
 bnd (alc 51 [zI,zI,zI,zI,zI,zI,zI,zB,zN] H) λv2 H=>
 bo (au a0) λv5=> bo (ah v5 0) λv6=> bnd (ld v6 H) λv7 H=> bnd (lnS v7 H) λv8 H=> bo (bi .eql 3 v8 (I 0)) λv9=>
 aJ v9
 (bo (bd 51 []) λv10=> bnd (st 9 v2 v10 H) λ_ H=>
  bnd (lda 9 v2 H) λr0 _=> some (.tup [r0,(B false)],H))
 (bo (au a0) λv12=> bo (ah v12 0) λv13=> bnd (ld v13 H) λv14 H=> bnd (ix 9 v14 (I 0) H) λv15 H=> bnd (lda 9 v15 H) λv16 H=> bnd (C 84 [v16] H) λv17 H=> bnd (st 9 v2 v17 H) λ_ H=>
  bnd (lda 9 v2 H) λr0 _=> some (.tup [r0,(B true)],H))
theorem amD(C:Callee)(a0:AV)(H:aj){r:AV × aj}(h:XL C a0 H=some r):bH Tryz.prog C 193 [a0] H=some r:=
 rnK (A:=amB) (c:=amC) Tryz.func193 (by kernel_rfl) (by kernel_rfl) h
def amE:Ann:=⟨[],[],[]⟩
def amF:Code:=Tryz.f194.body.getD .skip
def ad6(C:Callee)(a0 a1 a2 a3 a4:AV)(H:aj):OA:=
 bnd (alc 112 [zI,zI,zI,zI,zB,zN] H) λv10 H=>
 bo (bd 110 [(0,a1),(1,a2)]) λv13=> bnd (C 28 [a4] H) λv17 H=> bo (bd 112 [(0,v13),(1,a0),(3,a3),(4,v17)]) λv18=> bnd (st 6 v10 v18 H) λ_ H=>
 bnd (lda 6 v10 H) λr0 _=> some (r0,H)
theorem amG(C:Callee)(a0 a1 a2 a3 a4:AV)(H:aj){r:AV × aj}(h:ad6 C a0 a1 a2 a3 a4 H=some r):bH Tryz.prog C 194 [a0,a1,a2,a3,a4] H=some r:=
 rnK (A:=amE) (c:=amF) Tryz.func194 (by kernel_rfl) (by kernel_rfl) h
def amH:Ann:=⟨[],[],[]⟩
def amI:Code:=Tryz.f195.body.getD .skip
def XM(C:Callee)(a0:AV)(H:aj):OA:=
 bnd (eU 110 a0 H) λv1 H=>
 bnd (lda 2 v1 H) λv3 H=> bnd (C 196 [v3] H) λv4 H=> gdA (some v4) true (lda 2 v1 H) H λv6 H=> gdA (some v4) true (C 203 [v6] H) H λv7 H=> bo (aV v4 v7 (B false)) λv8=>
 some (v8,H)
theorem ad7(C:Callee)(a0:AV)(H:aj){r:AV × aj}(h:XM C a0 H=some r):bH Tryz.prog C 195 [a0] H=some r:=
 rnK (A:=amH) (c:=amI) Tryz.func195 (by kernel_rfl) (by kernel_rfl) h
def amJ:Ann:=⟨[],[],[]⟩
def amK:Code:=Tryz.f196.body.getD .skip
def ad8(C:Callee)(a0:AV)(H:aj):OA:=
 bnd (eU 110 a0 H) λv1 H=>
 bo (ah v1 1) λv3=> bnd (ld v3 H) λv4 H=> bo (bi .eql 3 v4 (I (-1))) λv5=>
 some (v5,H)
theorem amL(C:Callee)(a0:AV)(H:aj){r:AV × aj}(h:ad8 C a0 H=some r):bH Tryz.prog C 196 [a0] H=some r:=
 rnK (A:=amJ) (c:=amK) Tryz.func196 (by kernel_rfl) (by kernel_rfl) h
def amM:Ann:=⟨[],[],[]⟩
def amN:Code:=Tryz.f199.body.getD .skip
def XO(C:Callee)(a0 a1:AV)(H:aj):OA:=
 bo (au a0) λv9=> bo (ah v9 0) λv10=> bnd (ld v10 H) λv11 H=> bnd (lk .i64 (.int .i64 0) v11 a1 true H) λv13 H=> bo (aF v13 0) λv14=> bo (aF v13 1) λv15=>
 aJ v15
 (some (v14,H))
 (some ((I (-1)),H))
theorem amO(C:Callee)(a0 a1:AV)(H:aj){r:AV × aj}(h:XO C a0 a1 H=some r):bH Tryz.prog C 199 [a0,a1] H=some r:=
 rnK (A:=amM) (c:=amN) Tryz.func199 (by kernel_rfl) (by kernel_rfl) h
def amP:Ann:=⟨[],[(11,rF 7 [])],[]⟩
def amQ:Code:=Tryz.f200.body.getD .skip
def BR(C:Callee)(t0 t1 t11:AV)(H:aj):OA:=
 bo (au t0) λv77=> bo (ah v77 8) λv78=> bnd (ld v78 H) λv79 H=> bnd (lda 3 t11 H) λv81 H=> bnd (mup .i64 v79 t1 v81 H) λ_ H=>
 some ((I 0),H)
def vT(C:Callee)(a0 a1 a2 a3 a4:AV)(H:aj):OA:=
 bo (au a0) λv15=> bo (ah v15 8) λv16=> bnd (ld v16 H) λv17 H=> bnd (lk .i64 (.agg #[.int .i64 0,.int .i64 0,.slice none 0 0]) v17 a1 true H) λv19 H=> bo (aF v19 0) λv20=> bo (aF v19 1) λv21=> bnd (alc 260 [zI,zI,zN] H) λv11 H=> bnd (st 3 v11 v20 H) λ_ H=>
 bo (un .not v21) λv24=>
 aJ v24
 (some ((I 3),H))
 (bo (bi .lss 3 a2 (I 0)) λv27=> gdA (some v27) false (aC (some a2) H) H λv29 H=> gdA (some v27) false (aC (bi .gtr 3 v29 (I 2)) H) H λv30 H=> bo (aV v27 (B true) v30) λv31=> gdA (some v31) false (aC (some a3) H) H λv33 H=> gdA (some v31) false (aC (bi .lss 3 v33 (I (-1))) H) H λv34 H=> bo (aV v31 (B true) v34) λv35=> gdA (some v35) false (aC (some a3) H) H λv37 H=> gdA (some v35) false (aC (some a0) H) H λv38 H=> gdA (some v35) false (aC (au v38) H) H λv39 H=> gdA (some v35) false (aC (ah v39 0) H) H λv40 H=> gdA (some v35) false (aC (ah v40 0) H) H λv41 H=> gdA (some v35) false (ld v41 H) H λv42 H=> gdA (some v35) false (aC (bi .geq 3 v37 v42) H) H λv43 H=> bo (aV v35 (B true) v43) λv44=>
  aJ v44
  (some ((I 1),H))
  (bo (bi .eql 3 a3 (I (-1))) λv47=> bo (bi .eql 3 a2 (I 0)) λv49=> bo (bi .neq 4 v47 v49) λv50=> gdA (some v50) false (aC (some a4) H) H λv52 H=> gdA (some v50) false (lnS v52 H) H λv53 H=> gdA (some v50) false (aC (bi .neq 3 v53 (I 0)) H) H λv54 H=> gdA (some v50) false (aC (some v54) H) H λv55 H=> gdA (some v55) true (aC (some a4) H) H λv56 H=> gdA (some v55) true (lnS v56 H) H λv57 H=> gdA (some v55) true (aC (some a0) H) H λv58 H=> gdA (some v55) true (aC (au v58) H) H λv59 H=> gdA (some v55) true (aC (ah v59 0) H) H λv60 H=> gdA (some v55) true (aC (ah v60 2) H) H λv61 H=> gdA (some v55) true (ld v61 H) H λv62 H=> gdA (some v55) true (aC (bi .neq 3 v57 v62) H) H λv63 H=> gdA (some v50) false (aC (aV v55 v63 (B false)) H) H λv64 H=> bo (aV v50 (B true) v64) λv65=>
  aJ v65
  (some ((I 1),H))
  (bo (ah v11 0) λv68=> bnd (st 1 v68 a2 H) λ_ H=> bo (ah v11 1) λv69=> bnd (st 1 v69 a3 H) λ_ H=>
   bnd (lnS a4 H) λv71 H=> bo (bi .gtr 3 v71 (I 0)) λv72=>
   aJ v72
   (bnd (C 28 [a4] H) λv74 H=> bo (ah v11 2) λv75=> bnd (st 1 v75 v74 H) λ_ H=>
   BR C a0 a1 v11 H)
   (BR C a0 a1 v11 H))))
theorem amR(C:Callee)(a0 a1 a2 a3 a4:AV)(H:aj){r:AV × aj}(h:vT C a0 a1 a2 a3 a4 H=some r):bH Tryz.prog C 200 [a0,a1,a2,a3,a4] H=some r:=
 rnK (A:=amP) (c:=amQ) Tryz.func200 (by kernel_rfl) (by kernel_rfl) h
def amS:Ann:=⟨[],[],[]⟩
def amT:Code:=Tryz.f201.body.getD .skip
def Rq(C:Callee)(a0 a1 a2:AV)(H:aj):OA:=
 bnd (C 180 [a0,a1] H) λv9 H=> bo (un .not v9) λv10=> gdA (some v10) false (aC (some a0) H) H λv12 H=> gdA (some v10) false (aC (au v12) H) H λv13 H=> gdA (some v10) false (aC (ah v13 0) H) H λv14 H=> gdA (some v10) false (ld v14 H) H λv15 H=> gdA (some v10) false (aC (some a1) H) H λv16 H=> gdA (some v10) false (lk .i64 (.int .i64 0) v15 v16 false H) H λv17 H=> gdA (some v10) false (aC (some a2) H) H λv18 H=> gdA (some v10) false (aC (bi .neq 3 v17 v18) H) H λv19 H=> bo (aV v10 (B true) v19) λv20=>
 aJ v20
 (some ((I 6),H))
 (bo (au a0) λv22=> bo (ah v22 0) λv23=> bnd (ld v23 H) λv24 H=> bnd (del .i64 v24 a1 H) λ_ H=>
  some ((I 0),H))
theorem amU(C:Callee)(a0 a1 a2:AV)(H:aj){r:AV × aj}(h:Rq C a0 a1 a2 H=some r):bH Tryz.prog C 201 [a0,a1,a2] H=some r:=
 rnK (A:=amS) (c:=amT) Tryz.func201 (by kernel_rfl) (by kernel_rfl) h
def amV:Ann:=⟨[],[(5,rF 8 [])],[]⟩
def amW:Code:=Tryz.f202.body.getD .skip
def ad9(C:Callee)(a0 a1 a2:AV)(H:aj):OA:=
 bnd (lnS a0 H) λv12 H=> bo (slS 6 a0 (some a1) (some a2) (some v12)) λv13=>
 bo (bi .eql 3 a1 a2) λv16=>
 aJ v16
 (some (a0,H))
 (bnd (lnS a0 H) λv19 H=>
  bo (slS 6 a0 none (some a1) none) λv22=> bo (slS 6 a0 (some a2) none none) λv25=> bnd (app 112 6 64 v22 v25 H) λv26 H=>
  bnd (lnS v26 H) λv29 H=> bo (slS 6 v26 (some v29) (some v19) none) λv31=> bnd (clr 6 [zI,zI,zI,zI,zB,zN] v31 H) λ_ H=>
  some (v26,H))
theorem amX(C:Callee)(a0 a1 a2:AV)(H:aj){r:AV × aj}(h:ad9 C a0 a1 a2 H=some r):bH Tryz.prog C 202 [a0,a1,a2] H=some r:=
 rnK (A:=amV) (c:=amW) Tryz.func202 (by kernel_rfl) (by kernel_rfl) h
def amY:Ann:=⟨[],[],[]⟩
def amZ:Code:=Tryz.f203.body.getD .skip
def aea(C:Callee)(a0:AV)(H:aj):OA:=
 bnd (eU 110 a0 H) λv1 H=>
 bo (ah v1 0) λv3=> bnd (ld v3 H) λv4 H=> bo (bi .eql 3 v4 (I (-1))) λv5=>
 some (v5,H)
theorem am0(C:Callee)(a0:AV)(H:aj){r:AV × aj}(h:aea C a0 H=some r):bH Tryz.prog C 203 [a0] H=some r:=
 rnK (A:=amY) (c:=amZ) Tryz.func203 (by kernel_rfl) (by kernel_rfl) h
def kZ(l:List Pkt)(room:Int):List Cell:=[.seq 9 (l.flatMap Pkt.av),.av (I room)]
theorem uT(l:List Int):(l.map I).all AV.aH=true:=by
 rw [zaX];intro x hx;obtain⟨z,_,rfl⟩:=zaM.1 hx;rfl
theorem uU(l:List Int){d:Nat}:∀x∈l.map I,Frz (d+1) x:=λx hx=> by
 obtain⟨z,_,rfl⟩:=zaM.1 hx;exact eH
theorem ug {l:List Int}(h:l≠[]):dat l=.vs l.length 1 (l.map I):=by
 rw [dat,Bf h,KP]
theorem jd(H:aj)(l:List Int)(hl:l.length < 1000000000):cl 28 [dat l] H=some (dat l,H):=by
 by_cases h:l=[]
 ·subst h;refine fZ rfl rfl (aay _ _ _ (r:=(zN,H.guard)) ?_) iq;have e:bi .eql 22 zN zN=some (B true):=by kernel_rfl
  simp -implicitDefEqProofs only [xq_,WQ,dat,dU,e]
 ·have h0:l.length≠0:=λe=> h (zao e);have e2:=qj (e:=3) (by_:=8) (r:=H.guard.next) (H:=H.guard.new (.blk 0 3 [])) nS (jr _ l) (uT l) h0 (by unfold most;omega) (by unfold most;omega);simp only [yI,nNew] at e2;refine fZ rfl rfl (aay _ _ _ (r:=(.sl (H.next+1) 0 0 1 l.length l.length false,(H.guard.new (.blk 0 3 [])).new (.blk 0 (3+fA) (l.map I)))) ?_) ?_
  ·have e1:bi .eql 22 (dat l) zN=some (B false):=by rw [ug h];exact ql Tryz.underlying22
   simp -implicitDefEqProofs only [xq_,WQ,e1,KJ,wF,e2,zbk,zaU]
  ·rw [ug h];refine jC (by omega) (cells:=l.map I) ?_ (fO _ λx hx=> uU l x hx _ _);simp only [aZ,iE,nNew,yI,if_true];rw [if_pos (by simp),zaO,zar (by simp)]
theorem XP(p:Pkt):Frz 9 (.agg p.av):=kF λx hx=> by
 simp only [Pkt.av,zam,zaH,or_false] at hx;rcases hx with rfl | rfl | rfl | rfl | rfl | rfl | rfl | rfl | rfl <;> first | exact eH | exact rD
theorem XQ(H:aj)(p:Pkt)(hl:p.data.length < 1000000000):cl 59 [.agg p.av] H=some (.agg p.av,H):=by
 have e1:=λH=> jd H p.data hl;refine aY rfl rfl (aqC _ _ _) ?_ (XP p);simp -implicitDefEqProofs only [Nat.reduceLT,Nat.reduceAdd,setAt,xq_,hq_,aiY,aB,Pkt.av,e1]
theorem Rt(H:aj)(p:Pkt)(hl:p.data.length < 1000000000):cl 84 [.agg p.av] H=some (.agg p.av,H):=by
 have e1:=λH=> jd H p.data hl;refine aY rfl rfl (arI _ _ _) ?_ (XP p);simp -implicitDefEqProofs only [Nat.reduceLT,Nat.reduceAdd,setAt,xq_,hq_,aji,aB,Pkt.av,e1]
section
variable {b:Nat}{H:aj}{g:Store}{q:Nat}{l:List Pkt}{room:Int}
theorem Ru(G:Good b H g)(h:g q=some (kZ l room))(h1:0<=room)(h2:room < 1000)(h3:l.length < 1000):
  cl 144 [.ref q 0 0] H=some (I (room - l.length),H):=by
 refine aO rfl rfl (akQ _ _ _ ?_);obtain⟨x,hx,c⟩:=G.seq h (i:=0) rfl;have e1:=G.load h (i:=1) rfl;have e2:=(c.is (by decide) (bn aT l)).lnS;simp -implicitDefEqProofs only [xq_,adF,hx,e1,e2,jl];rw [wrap_i64 (by omega) (by omega)]
theorem afR(G:Good b H g)(hb:H.base<=b)(h:g q=some (kZ l room))(h1:0<=room)(h2:room < 1000)(h3:l.length < 1000)(p:Pkt)(hp:p.data.length < 1000000000):
  ∃H',cl 147 [.ref q 0 0,.agg p.av] H=some (I (if room=l.length then 5 else 0),H')/\Good b H' (upd g q (kZ (if room=l.length then l else l++[p]) room))/\Step b H H':=by
 have G1:=G.new (.blk 0 51 p.av);have e1:=Ru G1 h h1 h2 h3;by_cases hr:room=l.length
 ·refine⟨_,aO rfl rfl (adH _ _ _ _ (r:=(_,H.new (.blk 0 51 p.av))) ?_),?_,Step.new _ G.1⟩
  ·simp -implicitDefEqProofs only [Nat.reduceLT,xq_,hq_,Xy,aB (aI p),e1,hr,Int.sub_self]
  ·rw [if_pos hr,dR h];exact G1
 ·have hr':¬room - (l.length:Int)=0:=by omega
  obtain⟨x,hx,c⟩:=G1.seq h (i:=0) rfl;have e2:=fP (H:=H.new (.blk 0 51 p.av)) (r:=H.next) (off:=0) (n:=9) (nS) (by simp [Pkt.av]);have e3:=XQ (H.new (.blk 0 51 p.av)).guard p hp;obtain⟨x',H1,H2,a1,a2,a3,a4⟩:=(G1.new (.blk 0 51 p.av)).append (e:=51) (by_:=88) hb h (i:=0) rfl (by decide) (bn aT l) (c.new _) (jE (ex:=true) (n:=1) (m:=9) (l:=p.av) rfl) (aI p) (by unfold most;omega) (by unfold most;omega);refine⟨H2,aO rfl rfl (adH _ _ _ _ ?_),?_,(((Step.new _ G.1).trans (Step.new _ (G.new _).1)).trans a4)⟩
  ·simp only [nNew] at a1;simp -implicitDefEqProofs only [Nat.reduceLT,xq_,Xy,aB (aI p),e1,hr',hr,hx,e2,zaO,e3,acg,zbc,Nat.reduceLeDiff,KQ,jD (m:=9) (z:=[zI,zI,zI,zI,zI,zI,zI,zB,zN]) (v:=.agg p.av) rfl rfl (aI p),dG,a1,a2]
  ·rw [if_neg hr];have:kZ (l++[p]) room=(kZ l room).set 0 (.seq 9 (l.flatMap Pkt.av++p.av)):=by simp [kZ]
   rw [this];exact a3
theorem XR(G:Good b H g)(h:g q=some (kZ l room))(h1:0<=room)(h2:room < 1000)(h3:l.length < 1000):
  cl 83 [.ref q 0 0] H=some (I (room - l.length),H):=by
 refine aO rfl rfl (arF _ _ _ ?_);obtain⟨x,hx,c⟩:=G.seq h (i:=0) rfl;have e1:=G.load h (i:=1) rfl;have e2:=(c.is (by decide) (bn aT l)).lnS;simp -implicitDefEqProofs only [xq_,ajh,hx,e1,e2,jl];rw [wrap_i64 (by omega) (by omega)]
theorem aaK(G:Good b H g)(hb:H.base<=b)(h:g q=some (kZ l room))(h1:0<=room)(h2:room < 1000)(h3:l.length < 1000)(p:Pkt)(hp:p.data.length < 1000000000):
  ∃H',cl 53 [.ref q 0 0,.agg p.av] H=some (I (if room=l.length then 5 else 0),H')/\Good b H' (upd g q (kZ (if room=l.length then l else l++[p]) room))/\Step b H H':=by
 have G1:=G.new (.blk 0 51 p.av);have e1:=XR G1 h h1 h2 h3;by_cases hr:room=l.length
 ·refine⟨_,aO rfl rfl (aiV _ _ _ _ (r:=(_,H.new (.blk 0 51 p.av))) ?_),?_,Step.new _ G.1⟩
  ·simp -implicitDefEqProofs only [Nat.reduceLT,xq_,hq_,afA,aB (aI p),e1,hr,Int.sub_self]
  ·rw [if_pos hr,dR h];exact G1
 ·have hr':¬room - (l.length:Int)=0:=by omega
  obtain⟨x,hx,c⟩:=G1.seq h (i:=0) rfl;have e2:=fP (H:=H.new (.blk 0 51 p.av)) (r:=H.next) (off:=0) (n:=9) (nS) (by simp [Pkt.av]);have e3:=Rt (H.new (.blk 0 51 p.av)).guard p hp;obtain⟨x',H1,H2,a1,a2,a3,a4⟩:=(G1.new (.blk 0 51 p.av)).append (e:=51) (by_:=88) hb h (i:=0) rfl (by decide) (bn aT l) (c.new _) (jE (ex:=true) (n:=1) (m:=9) (l:=p.av) rfl) (aI p) (by unfold most;omega) (by unfold most;omega);refine⟨H2,aO rfl rfl (aiV _ _ _ _ ?_),?_,(((Step.new _ G.1).trans (Step.new _ (G.new _).1)).trans a4)⟩
  ·simp only [nNew] at a1;simp -implicitDefEqProofs only [Nat.reduceLT,xq_,afA,aB (aI p),e1,hr',hr,hx,e2,zaO,e3,acg,zbc,Nat.reduceLeDiff,KQ,jD (m:=9) (z:=[zI,zI,zI,zI,zI,zI,zI,zB,zN]) (v:=.agg p.av) rfl rfl (aI p),dG,a1,a2]
  ·rw [if_neg hr];have:kZ (l++[p]) room=(kZ l room).set 0 (.seq 9 (l.flatMap Pkt.av++p.av)):=by simp [kZ]
   rw [this];exact a3
theorem afS {i n:Nat}{x:AV}{l:List AV}(c:Cur b H q i x 9 l)(hb:H.base<=b)(hl:l.length=n*9)(hn:n < 1000000000){j:Nat}(hj:j < n):
  ∃x' H',cl 85 [x,I j,I (j+1)] H=some (x',H')/\Fit H H' x x' 9 (l.take (j*9)++l.drop ((j+1)*9))/\H'.next=H.next/\H'.base=H.base/\∀r,nameOf x≠some r->H'.get r=H.get r:=by
 obtain⟨y,x1,x2,x3,H1,x4,H2,e1,e2,e3,e4,e5,e6,e7,f,n1,b1,k1⟩:=QI c hb (by decide) hl hn hj (z:=[zI,zI,zI,zI,zI,zI,zI,zB,zN]) rfl rfl (e:=51) (by_:=88) (by decide);have e0:=(c.is (by decide) hl).lnS;have hne:((j:Int)=j+1)=False:=eq_false (by omega);refine⟨x3,H2,aO rfl rfl (arL _ _ _ _ _ ?_),f,n1,b1,k1⟩;simp -implicitDefEqProofs only [xq_,ajj,e0,e1,e2,e3,e4,e5,e6,e7,hne]
theorem LQ {α:Type}{enc:α->List AV}{m:Nat}(he:∀a,(enc a).length=m):∀(l:List α) (j:Nat),(l.flatMap enc).take (j*m)=(l.take j).flatMap enc
 | [],j=> by simp
 | a::l,0=> by simp
 | a::l,j+1=> by
  rw [zaI,List.take_succ_cons,zaI,zbD,Nat.add_comm,List.take_append,he,Nat.add_sub_cancel_left,LQ he l j,zar (by rw [he];omega)]
theorem LU {α:Type}{enc:α->List AV}{m:Nat}(he:∀a,(enc a).length=m):∀(l:List α) (j:Nat),(l.flatMap enc).drop (j*m)=(l.drop j).flatMap enc
 | [],j=> by simp
 | a::l,0=> by simp
 | a::l,j+1=> by
  rw [zaI,List.drop_succ_cons,zbD,Nat.add_comm,List.drop_append,he,Nat.add_sub_cancel_left,LU he l j,zaS (by rw [he];omega),zaW]
theorem Gp {α:Type}{enc:α->List AV}{m:Nat}(he:∀a,(enc a).length=m)(l:List α)(j:Nat):(l.flatMap enc).take (j*m)++(l.flatMap enc).drop ((j+1)*m)=(l.eraseIdx j).flatMap enc:=by
 rw [LQ he,LU he,List.eraseIdx_eq_take_drop_succ,zbz]
theorem jJ {α:Type}{enc:α->List AV}{m:Nat}(he:∀a,(enc a).length=m){L:List α}{x:AV}(hs:aG H x m L.length (L.flatMap enc)){i:Nat}{a:α}(hi:L[i]?=some a):lda m (dh x i) H=some (.agg (enc a),H):=by
 have hl:i < L.length:=(zaf.1 hi).1;rw [hs.lda hl,flat_get he L i a hi]
def fC(o:Option Pkt):AV:=.tup [.agg (o.getD .zero).av,B o.isSome]
theorem dQ:Pkt.zero.av=[zI,zI,zI,zI,zI,zI,zI,zB,zN]:=by simp [Pkt.zero,Pkt.av,dat,dU]
theorem zy(o:Option Pkt):Frz 9 (fC o):=rC λx hx=> by
 simp only [zam,zaH,or_false] at hx;rcases hx with rfl | rfl
 ·refine kF λx hx=> ?_;simp only [Pkt.av,zam,zaH,or_false] at hx;rcases hx with rfl | rfl | rfl | rfl | rfl | rfl | rfl | rfl | rfl <;> first | exact eH | exact rD
 ·exact eH
theorem XT(G:Good b H g)(h:g q=some (kZ l room))(h3:l.length < 1000)(hd:∀p∈l,p.data.length < 1000000000):
  cl 193 [.ref q 0 0] H=some (fC l.head?,H):=by
 refine aY rfl rfl (amD _ _ _) ?_ (zy _);have G1:=G.guard.new (.blk 0 51 [zI,zI,zI,zI,zI,zI,zI,zB,zN]);obtain⟨x,hx,c⟩:=G1.seq h (i:=0) rfl;have hs:=c.is (by decide) (bn aT l);have e2:=hs.lnS;cases l with
 | nil=> simp -implicitDefEqProofs only [Nat.reduceAdd,setAt,xq_,hq_,XL,hx,e2,Int.ofNat_zero,wC,gK,cZ,fC,dQ,List.head?_nil,zaY,zaL]
 | cons p l=>
  have e3:=hs.ix (k:=.i64) (i:=0) (by decide) (by simp only [zal];omega);have e4:=jJ aT hs (i:=0) (a:=p) rfl;have hz:(((l.length+1:Nat):Int)=0)=False:=eq_false (by omega);have e5:=λH=> Rt H p (hd p (by simp));simp -implicitDefEqProofs only [Nat.reduceAdd,setAt,xq_,hq_,XL,hx,e2,hz,e3,Int.toNat_zero,e4,e5,fC,List.head?_cons,zau,zaJ]
theorem Rw(G:Good b H g)(hb:H.base<=b)(h:g q=some (kZ l room))(h3:l.length < 1000){j:Nat}(hj:j < l.length):
  ∃x x' H1 H2,ld (.ref q 0 0) H=some (x,H)/\cl 85 [x,I j,I (j+1)] H=some (x',H1)/\st 1 (.ref q 0 0) x' H1=some (aN,H2)/\Good b H2 (upd g q (kZ (l.eraseIdx j) room))/\Step b H H2:=by
 obtain⟨x,hx,c⟩:=G.seq h (i:=0) rfl;obtain⟨x',H1,d1,d2,d3,d4,d5⟩:=afS c hb (bn aT l) (by omega) hj;rw [Gp aT] at d2;obtain⟨H2,s1,s2,s3,s4⟩:=G.seat h (i:=0) rfl c (by omega) (by omega) (λr _ hr=> d5 r hr) d2;exact⟨x,x',H1,H2,hx,d1,s1,s2,Step.trans ⟨d4,by omega,λr hr=> d5 r (c.low hr)⟩ s3⟩
theorem XU(G:Good b H g)(hb:H.base<=b)(h:g q=some (kZ l room))(h3:l.length < 1000)(hd:∀p∈l,p.data.length < 1000000000):
  ∃H',cl 168 [.ref q 0 0] H=some (fC l.head?,H')/\Good b H' (upd g q (kZ l.tail room))/\Step b H H':=by
 have G1:=G.newObj (ty:=51) (xs:=[zI,zI,zI,zI,zI,zI,zI,zB,zN]) rfl;have hq:=G.lt h;have h1:upd g H.next ([zI,zI,zI,zI,zI,zI,zI,zB,zN].map .av) q=some (kZ l room):=by rw [upd_ne (by omega)];exact h
 have e1:=XT G1 h1 h3 hd;have hb0:H.base<=H.next:=zaz hb G.1
 refine jv rfl rfl (alz _ _ _) ?_;cases l with
 | nil=>
  simp -implicitDefEqProofs only [Nat.reduceAdd,setAt,xq_,hq_,zaa,zad,exists_eq_left',XD,e1,BN,fC,List.head?_nil,zaY,zaL,dQ,List.tail_nil,hb0];exact⟨(dR h).symm ▸ (G.new _).new _,(Step.new _ G.1).trans (Step.new _ (G.new _).1)⟩
 | cons p l=>
  have hm:=hd p (by simp);let H1:=H.new (.blk 0 51 [zI,zI,zI,zI,zI,zI,zI,zB,zN]);have G2:=G1.newObj (ty:=51) (xs:=p.av) (aI _);have hv2:upd (upd g H.next ([zI,zI,zI,zI,zI,zI,zI,zB,zN].map .av)) (H.next+1) (p.av.map .av) H.next=some ([zI,zI,zI,zI,zI,zI,zI,zB,zN].map .av):=by rw [upd_ne (by omega),upd_same]
  have h2:upd (upd g H.next ([zI,zI,zI,zI,zI,zI,zI,zB,zN].map .av)) (H.next+1) (p.av.map .av) q=some (kZ (p::l) room):=by rw [upd_ne (by omega)];exact h1
  obtain⟨x,x',K1,K2,s1,s2,s3,s4,s5⟩:=Rw G2 (by rw [bNew,bNew];omega) h2 h3 (j:=0) (by simp);have G3:Good b K2 _:=s4;have q2:upd (upd (upd g H.next ([zI,zI,zI,zI,zI,zI,zI,zB,zN].map .av)) (H.next+1) (p.av.map .av)) q (kZ l room) (H.next+1)=some (p.av.map .av):=by rw [upd_ne (by omega),upd_same]
  have q1:upd (upd (upd g H.next ([zI,zI,zI,zI,zI,zI,zI,zB,zN].map .av)) (H.next+1) (p.av.map .av)) q (kZ l room) H.next=some ([zI,zI,zI,zI,zI,zI,zI,zB,zN].map .av):=by rw [upd_ne (by omega),upd_ne (by omega),upd_same]
  have l2:=G3.loads q2 (i:=0) (n:=9) (xs:=p.av) rfl rfl (by decide);obtain⟨K3,t1,t2,t3,t4⟩:=G3.stores (by rw [s5.base,bNew,bNew];exact hb) q1 (i:=0) (n:=9) (vs:=p.av) (by decide) rfl (aI _);have l3:=t2.loads upd_same (i:=0) (n:=9) (xs:=p.av) rfl rfl (by decide);have z1:((0:Nat):Int)=0:=rfl;have z2:((0:Nat):Int)+1=1:=rfl;rw [z2] at s2;simp only [z1] at s2;simp -implicitDefEqProofs only [Nat.reduceAdd,setAt,xq_,hq_,zaa,zad,exists_eq_left',XD,e1,BN,fC,List.head?_cons,zau,zaJ,List.tail_cons,hb0,s1,s2,s3,l2,t1,l3];have n1:g H.next=none:=G.isNone (zac _)
  have n2:g (H.next+1)=none:=G.isNone (by omega);exact⟨t2.sub (((((pI.refl g).more n1 _).more n2 _).both q _).more (xE n1 (by omega)) _),(((Step.new _ G.1).trans (Step.new _ (G.new _).1)).trans s5).trans t3⟩
theorem XV(G:Good b H g)(h:g q=some (kZ l room))(h3:l.length < 1000)(hd:∀p∈l,p.data.length < 1000000000)(at_:Int):
  cl 34 [.ref q 0 0,I at_] H=some (fC (if at_ < 0 then none else l[at_.toNat]?),H):=by
 refine aY rfl rfl (apC _ _ _ _) ?_ (zy _);have G1:=G.guard.new (.blk 0 51 [zI,zI,zI,zI,zI,zI,zI,zB,zN]);obtain⟨x,hx,c⟩:=G1.seq h (i:=0) rfl;have hs:=c.is (by decide) (bn aT l);have e2:=hs.lnS;by_cases h0:at_ < 0
 ·simp -implicitDefEqProofs only [Nat.reduceAdd,setAt,xq_,hq_,aaA,h0,wC,gK,cZ,fC,dQ,zaY,zaL]
 ·by_cases h1:at_ < l.length
  ·have e3:=hs.ix (k:=.i64) (i:=at_) (by omega) h1;obtain⟨p,hp⟩:∃p,l[at_.toNat]?=some p:=⟨_,zab (by omega)⟩
   have e4:=jJ aT hs hp;have e5:=λH=> XQ H p (hd p (zas hp));have h1':¬(l.length:Int)<=at_:=by omega
   simp -implicitDefEqProofs only [Nat.reduceAdd,setAt,xq_,hq_,aaA,hx,h0,h1',e2,e3,e4,e5,hp,fC,zau,zaJ]
  ·have hp:l[at_.toNat]?=none:=zaG (by omega);have h1':(l.length:Int)<=at_:=by omega
   simp -implicitDefEqProofs only [Nat.reduceAdd,setAt,xq_,hq_,aaA,hx,h0,h1',e2,hp,wC,gK,cZ,fC,dQ,zaY,zaL]
end
open Go.RowKit
section
variable {P:Program}{C:Callee}{A:Ann}{n:Nat}
theorem Gq {L:List Nat}{c:Code}(hc:KD A n c (nC L) (λ_=> 0) 0=true){t:dX}{e:Env}{H H1:aj}{vs:List AV}(ht:Ag n (wB A c (nC L) (λ_=> 0) 0) t e)
  (h:jM P C A n c e H (λe H=> some (proj L e,H)) (λ_ _ _=> none) (λ_ _=> none)=some (vs,H1)):
  ∃t1,dO P C c t H=some (.normal,t1,H1)/\∃e1,Ag n (nC L) t1 e1/\proj L e1=vs:=by
 open Classical in
 have key:=Dp (P:=P) (C:=C) (β:=List AV × aj) A c (nC L) (λ_=> 0) 0 hc
  (λt H=> if hx:∃e1,Ag n (nC L) t e1/\proj L e1=vs then(if H=H1 then some (vs,H) else none) else none) (λe H=> if proj L e=vs/\H=H1 then some (vs,H) else none)
  (λ_ _ _=> none) (λ_ _ _=> none) (λ_ _=> none) (λ_ _=> none)
  (λt e H ha r hr=> by
   split at hr
   ·rename_i hh;rw [dif_pos ⟨e,ha,hh.1⟩,if_pos hh.2];exact hr
   ·cases hr) (λ_ _ _ _ _=> Le.refl _) (λ_ _ _ _=> Le.refl _) t e H ht
 have tl:=FP (P:=P) (C:=C) (A:=A) (n:=n) (β:=List AV × aj) c e H (λk e H=> k (proj L e) H) (λ_ _ _ _=> none) (λ_ _ _=> none) (λt H=> VD _ _) (λ_ _ _=> fB _) (λ_ _=> fB _);have h1:jM P C A n c e H (λe H=> (λs H=> some (s,H)) (proj L e) H) (λ_ _ _=> none) (λ_ _=> none)=some (vs,H1):=h;have h2:jM P C A n c e H (λe H=> if proj L e=vs/\H=H1 then some (vs,H) else none) (λ_ _ _=> none) (λ_ _=> none)=some (vs,H1):=by
  rcases tl (λs H=> some (s,H)) _ h1 with h3 | ⟨s,H',h3,h4⟩
  ·exact h3 λs H=> if s=vs/\H=H1 then some (vs,H) else none
  ·cases h3;exact h4 (λs H=> if s=vs/\H=H1 then some (vs,H) else none) (by simp)
 have h3:=key _ h2;cases hx:dO P C c t H with
 | none=> rw [hx] at h3;cases h3
 | some q=>
  obtain⟨ex,t1,H2⟩:=q;rw [hx] at h3;cases ex with
  | normal=>
   simp only [KI] at h3;split at h3
   ·rename_i he;split at h3
    ·rename_i hH;subst hH;exact⟨t1,rfl,he⟩
    ·cases h3
   ·cases h3
  | exit i=> cases h3
  | ret=> cases h3
theorem XW {c:Code}{rs:List ResultVar}(hc:KD A n c (NP rs) (λ_=> 0) (NP rs)=true){t:dX}{e:Env}{H:aj}{r:AV × aj}(ht:Ag n (wB A c (NP rs) (λ_=> 0) (NP rs)) t e)
  (h:jM P C A n c e H (dH P n rs) (λ_ _ _=> none) (dH P n rs)=some r):
  ∃ex t1,(ex=.normal∨ex=.ret)/\dO P C c t H=some (ex,t1,r.2)/\iH P rs t1 r.2=some r.1:=by
 have hr:∀t e H,Ag n (NP rs) t e->Le (dH P n rs e H) ((iH P rs t H).map λv=> (v,H)):=λt e H h=> by
  rw [VJ _ h];exact Le.refl _
 have h1:=Dp (P:=P) (C:=C) A c _ _ _ hc _ _ _ _ _ _ hr (λ_ _ _ _ _=> Le.refl _) hr t e H ht r h;cases hx:dO P C c t H with
 | none=> rw [hx] at h1;cases h1
 | some q=>
  obtain⟨ex,t1,H2⟩:=q;rw [hx] at h1;cases ex with
  | exit i=> cases h1
  | normal=>
   simp only [KI] at h1;cases hq:iH P rs t1 H2 with
   | none=> rw [hq] at h1;cases h1
   | some v=>
    rw [hq] at h1;simp only [zah,zaa] at h1;subst h1;exact⟨_,t1,.inl rfl,rfl,hq⟩
  | ret=>
   simp only [KI] at h1;cases hq:iH P rs t1 H2 with
   | none=> rw [hq] at h1;cases h1
   | some v=>
    rw [hq] at h1;simp only [zah,zaa] at h1;subst h1;exact⟨_,t1,.inr rfl,rfl,hq⟩
theorem am1 {o:Oper}{a:Act}{w:World}{K:Act->World->Prop}{Q:Exit->Act->World->Prop}{l m:Nat}(hd:∀c,o.op≠.defer c)(h:o.wp P a w K Q):o.wpIn (Fence.wide.inRound l) m P a w K Q:=by
 unfold Oper.wpIn;refine⟨λ_ _=> trivial,?_⟩;rw [Oper.semAt_eq _ _ _ hd];unfold Oper.wp at h;generalize (execOp a.eval o).run P w=r at*;have dp:(Fence.wide.inRound l).depth.isSome=true->1<=m:=λh=> by cases h
 cases r with
 | ok x w'=>
  cases x <;> simp only [Oper.upon,Oper.uponIn] at h ⊢ <;> first
   | exact h
   | exact⟨dp,CallsIn.inRound l (callsIn_wide.2 h)⟩
   | exact h.elim
   | skip
  rename_i row args;exact⟨dp,λc cs hr=> let⟨v,w',r,s⟩:=h c cs;⟨v,w',r,stepsIn_wide.2 s⟩⟩
 | halt x w'=> cases x <;> simp only [Oper.upon,Oper.uponIn] at h ⊢ <;> exact h
def zA(o:Oper):Bool:=match o.op with
 | .defer _=> false
 | _=> true
theorem Gs {o:Oper}(h:zA o=true):∀c,o.op≠.defer c:=λc e=> by rw [zA,e] at h;cases h
theorem afT {ops:Array Oper}(hd:∀o∈ops,zA o=true){Q:Exit->Act->World->Prop}{i:Nat}{K:Act->World->Prop}{a:Act}{w:World}{l m:Nat}(hq:¬LetsOut Q)(h:wpOp P ops Q i K a w):wpOpIn (Fence.wide.inRound l) m P ops Q i K a w:=by
 unfold wpOp at h;unfold wpOpIn;split
 ·rename_i ho;rw [ho] at h;exact h
 ·rename_i o ho;rw [ho] at h;simp only at h;split
  ·rename_i hw;rw [if_pos hw] at h;exact am1 (Gs (hd o (Array.mem_of_getElem? ho))) (h.resolve_right λh=> hq h.2)
  ·rename_i hw;rw [if_neg hw] at h;exact⟨λ_ _=> trivial,h⟩
theorem aaL {ops:Array Oper}(hd:∀o∈ops,zA o=true){Q:Exit->Act->World->Prop}{l m:Nat}{md:Region.Mode}(hq:¬LetsOut Q):∀(fuel:Nat) (listed:Array Bool) (a:Act) (w:World),wpAny P md ops Q fuel listed a w->wpAnyIn (Fence.wide.inRound l) m P md ops Q fuel listed a w:=by
 intro fuel
 induction fuel with
 | zero=> intro listed a w h;exact h
 | succ fuel ih=>
  intro listed a w h;exact⟨h.1,λi hi=> wpOpIn_mono (λa w h=> ih _ a w h) (afT hd hq (h.2 i hi))⟩
def uV(P:Program)(C:Callee)(c:Code):Prop:=
 ∀l m t H e t' H',dO P C c t H=some (e,t',H')->∀(ρ:Ren) (w:World) (a:Act),Rel ρ H w->TOn ρ H.gen w (λ_=> True) t a->∀Q:Exit->Act->World->Prop,¬LetsOut Q->Post ρ H w a t' H' (Q e.to)->c.wpIn (Fence.wide.inRound l) m P Q a w
theorem aaM {ops:List Oper}{t t':dX}{H H':aj}{ρ:Ren}{w:World}{a:Act}(hC:Sound P C)(hKC:jA C)(h:vW P C ops t H=some (t',H'))(R:Rel ρ H w)(TR:TOn ρ H.gen w (λ_=> True) t a){Q:Exit->Act->World->Prop}
  (hQ:∀a' ρ' w',Rel ρ' H' w'->TOn ρ' H'.gen w' (λ_=> True) t' a'->Ext ρ H w ρ' H' w'->a'.defers=a.defers->Q .normal a' w'):wpAny P .any ops.toArray Q ops.toArray.size (Array.replicate ops.toArray.size false) a w.drew:=by
 unfold vW at h;split at h <;> first | (cases h;done) | skip
 rename_i hok;split at h <;> first | (cases h;done) | skip
 rename_i t0 H0 hcr;obtain⟨hrun,aop⟩:dS P C ops (kR ops) t0 H0=some (t',H')/\∀p∈jX ops,agree P C ops H.next t0 H0 p:=by
  split at h
  ·rename_i he;rw [he];exact⟨h,by simp⟩
  ·split at h <;> first | (cases h;done) | skip
   rename_i ha;exact⟨h,ha⟩
 have F:=zV hok;have hmem:∀j,j∈lU ops↔j < ops.length/\cst ops j=true:=λj=> by simp [lU,zbo,zaV]
 obtain⟨hf,hg,hlen,nm,vl,h1,h2,h3⟩:=qV (lU ops) t H t0 H0 (List.nodup_range.filter _) (λj hj=> ((hmem j).1 hj).2)
  (λi _ j _ oi oj d a1 a2 a3 a4=> F.an0 i j oi oj d a1 a2 a3 a4) hcr
 obtain⟨T,Hp,val,S,hend,hval⟩:=Fb hrun vl;obtain⟨hgen,RH0,EH0⟩:=J9 R hf hg;obtain⟨ρ1,w1,a1,g1,g2⟩:=vZ hC _ _ _ _ _ ρ w a hcr R TR;have D:ZM P C ops t H t0 H0 T Hp val nm:={
  facts:=F
  S:=S
  names:=λj hj hc=> by
   obtain⟨o,q1,q2,q3,q4,q5⟩:=h1 j ((hmem j).2 ⟨hj,hc⟩);exact⟨o,q1,q2,q3,by rw [hval j hc];exact q4,λd hd hl=> by rw [hval j hc];exact q5 d hd hl⟩
  inj:=λi j hi hj ci cj e=> h2 i ((hmem i).2 ⟨hi,ci⟩) j ((hmem j).2 ⟨hj,cj⟩) e
  rest:=λd hd=> h3 d λj hj o ho=> hd j ((hmem j).1 hj).2 o ho
  len:=hlen
  fresh:=hf
  asT:=hg
  agr:=aop
  ghost:=λp hp d=> by
   obtain⟨ρ2,w2,a2,r1,r2⟩:=Fe hC S g1 g2 p hp;exact RV.nv r1.out _ _ (r2.any d trivial)
  keeps:=hKC }
 have e1:T ops.length=t':=by rw [<-Prod.mk.inj hend |>.1]
 have e2:Hp ops.length=H':=by rw [<-Prod.mk.inj hend |>.2]
 have hli:∀j,¬Li (Array.replicate ops.toArray.size false) j:=λj=> by
  unfold Li;simp [Array.getD]
 refine ab5 hC D (a0:=a) (λa' ρ' w' q1 q2 q3 q4=> hQ a' ρ' w' (by rw [<-e2];exact q1) (by rw [<-e1,<-e2];exact q2) (by rw [<-e2];exact q3) q4) ops.toArray.size _ a w.drew 0 ρ (by simp [wZ]) ?_;refine⟨by simp,λj o _ hl=> absurd hl (hli j),zaU _,λi _ _=> ⟨λhl=> absurd hl (hli i),λh=> by omega⟩,by rw [S.zero.2];exact RH0.drew,λk hk hc _=> ?_,?_,TR.size,λd hd=> ⟨λj o _ hl=> absurd hl (hli j),λ_=> ?_⟩,rfl⟩
 ·obtain⟨_,_,q1,_⟩:=D.names k hk hc;exact(R.out _ q1).1
 ·rw [S.zero.2];exact EH0.trans (Ext.drew ρ H0 w)
 ·rw [S.zero.2,hgen];exact RV.mono (Ext.drew ρ H w).toMono _ _ (TR.get d trivial hd)
theorem Pg(hC:Sound P C)(hKC:jA C)(hm:P.follows .mixedOrders=true){id:Nat}{ops:Array Oper}(hd:∀o∈ops,zA o=true):uV P C (.region id ops true):=by
 intro l m t H e t' H' h ρ w a R T Q hlo hQ;simp only [dO,if_true] at h;split at h <;> first | (cases h;done) | skip
 rename_i t1 H1 hdr;simp only [zaa,zad] at h;obtain⟨rfl,rfl,rfl⟩:=h;have:=aaM hC hKC hdr R T (Q:=Q) hQ;rw [show ops.toList.toArray=ops from rfl] at this;exact wpIn_region_any hm (aaL hd hlo _ _ _ _ this)
theorem Ph {id:Nat}{c:Code}(hc:uV P C c):uV P C (.block id c):=by
 intro l m t H e t' H' h ρ w a R T Q hlo hQ;simp only [dO] at h;refine wpIn_block ?_;unfold zX at h;have hl:¬LetsOut (Exit.inBlock id Q):=λ⟨a,w,h⟩=> hlo ⟨a,w,h⟩;split at h
 ·rename_i i t1 H1 hf;refine hc l m t H _ t1 H1 hf ρ w a R T _ hl λa2 ρ2 w2 r1 r2 r3 r4=> ?_;simp only [Ex.to,Exit.inBlock];split at h
  ·rename_i hid;simp only [zaa,zad] at h;obtain⟨rfl,rfl,rfl⟩:=h;rw [if_pos hid];exact hQ a2 ρ2 w2 r1 r2 r3 r4
  ·rename_i hid;simp only [zaa,zad] at h;obtain⟨rfl,rfl,rfl⟩:=h;rw [if_neg hid];exact hQ a2 ρ2 w2 r1 r2 r3 r4
 ·rename_i t1 H1 hf;simp only [zaa,zad] at h;obtain⟨rfl,rfl,rfl⟩:=h;exact hc l m t H _ t1 H1 hf ρ w a R T _ hl hQ
 ·rename_i t1 H1 hf;simp only [zaa,zad] at h;obtain⟨rfl,rfl,rfl⟩:=h;exact hc l m t H _ t1 H1 hf ρ w a R T _ hl hQ
 ·cases h
def uh(H:aj):Prop:=∀r k es,H.get r≠.map k es
theorem uh.cells {H:aj}(h:uh H){ρ:Ren}{w:World}(R:Rel ρ H w){r b sh:Nat}(hr:ρ r=some (b,sh)):∃cs e,w.heap[b]?=some (.cells cs e (0,0)):=by
 have:=R.obj r b sh hr;cases hg:H.get r with
 | blk g ty cells=>
  rw [hg] at this;obtain⟨cs,e,h1,_⟩:=this;exact⟨cs,e,h1⟩
 | map k es=> exact absurd hg (h r k es)
theorem uh.imm {H:aj}(h:uh H){ρ:Ren}{w:World}(R:Rel ρ H w){b:Nat}{o:Obj}(ho:w.heap[b]?=some o)(hc:o.isCells=false):Imm ρ b:=λr sh hr=> by
 obtain⟨cs,e,h1⟩:=h.cells R hr;rw [ho] at h1;cases h1;cases hc
end
structure Grn(w w':World):Prop where
 size:w.heap.size<=w'.heap.size
 cell:∀b o v,w.cell? ⟨b,o,none⟩=some v->w'.cell? ⟨b,o,none⟩=some v
 shape:∀b e m,w.shape? b=some (e,m)->w'.shape? b=some (e,m)
mutual
theorem RV.grn {ρ:Ren}{G:Nat->Nat}{w w':World}(M:Grn w w'):∀(x:AV) (v:Value),RV ρ G w x v->RV ρ G w' x v
 | .s _,_,h=> by simpa only [RV] using h
 | .ref r g off,v,h=> by simpa only [RV] using h
 | .sl r g off esz len cap ex,v,h=> by
  obtain⟨b,o,c,e,k1,k2,k3,h1,h2⟩:=(by simpa only [RV] using h)
  simp only [RV];refine⟨b,o,c,e,k1,k2,k3,h1,λhg=> ?_⟩;obtain⟨sh,ty,k,q1,q2,q3,q4⟩:=h2 hg;exact⟨sh,ty,k,q1,q2,M.shape _ _ _ q3,q4⟩
 | .ip cells,v,h=> by
  obtain⟨b,o,e,hb,hi,h1⟩:=(by simpa only [RV] using h)
  simp only [RV];exact⟨b,o,e,zax hb M.size,hi,RVc.grn M cells b o h1⟩
 | .vs m esz cells,v,h=> by
  obtain⟨b,o,c,e,k1,k2,hb,hi,h1⟩:=(by simpa only [RV] using h)
  simp only [RV];exact⟨b,o,c,e,k1,k2,zax hb M.size,hi,RVc.grn M cells b o h1⟩
 | .mp r,v,h=> by simpa only [RV] using h
 | .fn f a c,v,h=> by
  obtain⟨a',c',e,h1,h2⟩:=(by simpa only [RV] using h)
  simp only [RV];exact⟨a',c',e,RVs.grn M a _ h1,RVs.grn M c _ h2⟩
 | .agg cells,v,h=> by
  obtain⟨cs,e,h1⟩:=(by simpa only [RV] using h)
  simp only [RV];exact⟨cs,e,RVs.grn M cells _ h1⟩
 | .tup cells,v,h=> by
  obtain⟨cs,e,h1⟩:=(by simpa only [RV] using h)
  simp only [RV];exact⟨cs,e,RVs.grn M cells _ h1⟩
theorem RVs.grn {ρ:Ren}{G:Nat->Nat}{w w':World}(M:Grn w w'):∀(xs:List AV) (l:List Value),RVs ρ G w xs l->RVs ρ G w' xs l
 | [],_,h=> by simpa only [RVs] using h
 | x::xs,l,h=> by
  obtain⟨y,ys,e,h1,h2⟩:=(by simpa only [RVs] using h)
  simp only [RVs];exact⟨y,ys,e,RV.grn M x y h1,RVs.grn M xs ys h2⟩
theorem RVc.grn {ρ:Ren}{G:Nat->Nat}{w w':World}(M:Grn w w'):∀(xs:List AV) (b o:Nat),RVc ρ G w xs b o->RVc ρ G w' xs b o
 | [],_,_,_=> by simp only [RVc]
 | x::xs,b,o,h=> by
  obtain⟨⟨y,e,h1⟩,h2⟩:=(by simpa only [RVc] using h)
  simp only [RVc];exact⟨⟨y,M.cell _ _ _ e,RV.grn M x y h1⟩,RVc.grn M xs b (o+1) h2⟩
end
section
variable {P:Program}{C:Callee}
theorem am2 {w w':World}{row:Option Nat}(hg:w.grownBy w' row)(hr:∀r,row=some r->∃o:Obj,w.heap[r]?=some o/\o.isCells=false):Grn w w':=by
 refine⟨hg.size,λb o v h=> cell_kept h hg hr,λb e m h=> ?_⟩;rw [dN] at h ⊢;cases hb:w.heap[b]? with
 | none=> rw [hb] at h;cases h
 | some ob=>
  have hc:ob.isCells=true:=by
   rw [hb] at h;cases ob <;> first | rfl | cases h
  rw [grownBy_keeps_cells hg hr hb hc];exact h
theorem uh.grown {H:aj}(h:uh H){ρ:Ren}{w w':World}(R:Rel ρ H w){row:Option Nat}{B:Nat}(hg:w.grownBy w' row)(hr:∀r,row=some r->B<=r/\∃o:Obj,w.heap[r]?=some o/\o.isCells=false)(hB:∀b∈fx.blocks,b < B):Rel ρ H w'/\Grn w w':=by
 have M:=am2 hg λr e=> (hr r e).2;refine⟨⟨R.out,λr b sh hrb=> ?_,R.inj,?_⟩,M⟩
 ·have h1:=R.obj r b sh hrb;obtain⟨cs0,e0,hb0⟩:=h.cells R hrb;have hk:=grownBy_keeps_cells hg (λr e=> (hr r e).2) hb0 rfl;cases ho:H.get r with
  | blk g ty cells=>
   rw [ho] at h1;obtain⟨cs,e,q1,q2,q3,q4⟩:=h1;exact⟨cs,e,by rw [hk];exact q1,q2,RVc.grn M _ _ _ q3,q4⟩
  | map k es=> exact absurd ho (h r k es)
 ·refine⟨λb hb=> ?_,fx.frame w w' (λb hb=> ?_) R.gl.2⟩
  ·obtain⟨h1,h2⟩:=R.gl.1 b hb;exact⟨zax h1 hg.size,h2⟩
  ·refine hg.block b (R.gl.1 b hb).1 λe=> ?_;have:=(hr b e.symm).1;have:=hB b hb;omega
theorem Ext.grown {ρ ρ1:Ren}{H H1:aj}{w W W':World}(E:Ext ρ H w ρ1 H1 W){row:Option Nat}(hg:W.grownBy W' row)(hr:∀r,row=some r->w.heap.size<=r):Ext ρ H w ρ1 H1 W':=by
 have hb:∀b,b < w.heap.size->W'.heap[b]?=W.heap[b]?:=λb hb=> hg.block b (zax hb E.size) λe=> by
  have:=hr b e.symm;omega
 exact⟨E.next,E.mono,E.same,E.kept,E.range,zaz E.size hg.size,λb h hi=> (hb b h).trans (E.frame b h hi),λb h=> by rw [<-E.shape b h,dN,dN,hb b h],hg.os.trans E.os,hg.tape.trans E.tape,hg.output.trans E.output⟩
def KpC(CP:World->Prop)(A B:World):Prop:=CP A->CP B
theorem aaN(hm:P.follows .mixedOrders=true){t:dX}{H:aj}{ρ:Ren}{w:World}{a:Act}(R:Rel ρ H w)(T:TOn ρ H.gen w (λ_=> True) t a)
  {g:Operand} {p d:Tmp} (hp:p < t.length) (hpd:p≠d) {ida:Nat} {ty:TypeId} {pos:String} {aft:Array Edge} {body:Code}
  {gf:Nat} {lb:Array Value} (hg:a.eval g=.func (.func gf) #[] lb) (eg:∀args w,(callFunc gf args).run P w=.ok (.enter gf args) w)
  {N:Nat} (vs:Fin N->AV) (cvs:Fin N->Value) (hv:∀x,RV ρ H.gen w (vs x) (cvs x)) (CP:World->Prop) (hL:∀(W:World) (l:Nat) (o o':Obj),w.heap.size<=l->W.heap[l]?=some o->o.isCells=false->CP W->CP (W.putObj l o'))
  (hseq:∀n,1<=n->SeqStopsK Fence.wide n P gf lb (λx=> #[cvs x]) (KpC CP) (λys=> ys.map (λx:Fin N=> x.val)=List.range N) (λ_=> True) N w)
  (Inv:List (Fin N)->aj->Prop) (h0:Inv [] H) (hnm:∀pre H1,Inv pre H1->uh H1)
  (hcell:∀pre H1 ρ1 W,Inv pre H1->Rel ρ1 H1 W->Ext ρ H w ρ1 H1 W->CP W)
  (hrun:∀pre x H1,Inv pre H1->pre.length < N->∃t2 H2,dO P C body (sF (sF t (some p) (vs x)) (some d) (vs x)) H1=some (.normal,t2,H2)/\Inv (pre++[x]) H2)
  (hin:uV P C body) {Q:Exit->Act->World->Prop}
  (hQ:∀xs H1 D W ρ1,xs.map (λx:Fin N=> x.val)=List.range N->Inv xs H1->Rel ρ1 H1 W->Ext ρ H w ρ1 H1 W->W.heap[D]?=some (.deferred (some []))->Imm ρ1 D->w.heap.size<=D->Q .normal { a with defers:={ target:=.collected D,args:=#[] }::a.defers } W):
  (Code.rangeFunc g #[p] (.region ida #[{ dst:=some d,op:=.assign (.tmp p),type:=ty,pos:=pos,after:=aft,guard:=none }] false) body).wp P Q a w:=by
 refine(wpIn_wide (n:=9)).1 ?_;have hpa:p < a.tmps.size:=by rw [T.size];exact hp
 let a0:Fin N->Act:=λx=> { tmps:=a.tmps.setIfInBounds p (cvs x),defers:=[] }
 let I:List (Fin N)->World->Prop:=λpre W=>∃H1 ρ1,Inv pre H1/\Rel ρ1 H1 W/\Ext ρ H w ρ1 H1 W
 have hfx:∀b∈fx.blocks,b < w.heap.size:=λb hb=> (R.gl.1 b hb).1;refine wpIn_rangeFunc_ownF (F:=Fence.wide) (α:=Fin N) rfl (by decide) (gf:=gf) (lb:=lb) hg trivial eg (hseq 8 (by decide)) (λh k hx=> k (h hx)) ?hKb (Below.refl _ _) (λ_=> rfl) I (λ_ _ _=> False) ?hI (λ_ _ _ _ _ h _ _=> h) ⟨H,ρ,h0,R,Ext.refl _ _ _⟩ (λx=> (a0 x).put (some d) (cvs x)) ?hassign ?hbody ?hdone (λ_ _ _ _ _ _ h _=> h.elim)
 case hKb=>
  intro W l o o' hl ho hc _ hx;exact hL W l o o' hl ho hc hx
 case hI=>
  rintro pre W W' row ⟨H1,ρ1,i1,i2,i3⟩ hgr hr;obtain⟨r1,_⟩:=(hnm pre H1 i1).grown i2 hgr hr hfx;exact⟨H1,ρ1,i1,r1,i3.grown hgr λr e=> (hr r e).1⟩
 case hassign=>
  intro l x W K hK;refine wpIn_region ?_;have e1:(#[p].zip #[cvs x]).foldl (λt q=> t.setIfInBounds q.1 q.2) a.tmps=a.tmps.setIfInBounds p (cvs x):=by simp
  have e2:({ tmps:=a.tmps.setIfInBounds p (cvs x),defers:=[] }:Act).eval (.tmp p)=cvs x:=by
   simp [Act.eval,Array.getD,hpa]
  show wpOpsIn _ _ P _ _ [0] _ W;simp only [wpOpsIn,List.getElem?_toArray,zaZ,Region.wanted,if_true];refine am1 (Gs rfl) ?_;unfold Oper.wp;have e3:execOp ({ tmps:=a.tmps.setIfInBounds p (cvs x),defers:=[] }:Act).eval { dst:=some d,op:=.assign (.tmp p),type:=ty,pos:=pos,after:=aft,guard:=none }=pure (.value (cvs x)):=by
   show pure (Next.value _)=_;rw [e2]
  have e4:((#[p].zip #[cvs x]).foldl (λt x=> match x with | (p,v)=> t.setIfInBounds p v) a.tmps)=a.tmps.setIfInBounds p (cvs x):=by simp
  rw [e4,e3];exact hK
 case hbody=>
  rintro l pre x W ⟨H1,ρ1,i1,i2,i3⟩ hlen;obtain⟨t2,H2,r1,r2⟩:=hrun pre x H1 i1 hlen;have hvx:=RV.mono i3.toMono _ _ (hv x);have T0:TOn ρ1 H1.gen W (λ_=> True) (sF t (some p) (vs x)) (a0 x):=⟨((T.keep i3).put (some p) hvx).size,((T.keep i3).put (some p) hvx).get⟩
  have T1:=T0.put (some d) hvx;refine hin l _ _ H1 _ t2 H2 r1 ρ1 W _ i2 T1 _ (λ⟨_,_,h⟩=> h) λa' ρ' w' q1 q2 q3 q4=> ?_;refine⟨⟨q3.size,λk o ho hc=> ?_⟩,λ_=> hcell _ H2 ρ' w' r2 q1 (i3.trans q3),H2,ρ',r2,q1,i3.trans q3⟩;rw [q3.frame k (zbt.1 ho).1 ((hnm pre H1 i1).imm i2 ho hc)];exact ho
 case hdone=>
  rintro D xs W hD hS ⟨H1,ρ1,i1,i2,i3⟩ hK;exact hQ xs H1 D W ρ1 hS i1 i2 i3 hK ((hnm xs H1 i1).imm i2 hK rfl) hD
end
def apz(e:TypeId)(m by_:Nat)(z:List AV)(x y:AV):AM AV:=λH=> match y with
 | .s (.int _ n)=> if 0<=n/\n<=most/\n*by_<=most then bU e m by_ x n.toNat (bI z n.toNat) H else none
 | _=> none
def Am:Ann:=⟨[],[(4,rF 40 (none::some false::[])),(7,rF 3 (some true::rF 4 []))],[]⟩
def XY:Code:=match aaG with
 | .seq a (.seq b (.seq c (.seq d (.seq (.seq e _) f))))=> .seq a (.seq b (.seq c (.seq d (.seq e .skip))))
 | _=> .skip
def XZ(C:Callee)(t0:AV)(H:aj):Option (List AV × aj):=
 bnd (alc 51 [zI,zI,zI,zI,zI,zI,zI,zB,zN] H) λv2 H=>
 bnd (C 127 [t0] H) λv12 H=> bo (aF v12 0) λv13=> bo (aF v12 1) λv14=>
 bo (un .not v14) λv16=> gdA (some v16) false (aC (some v13) H) H λv18 H=> gdA (some v16) false (lnS v18 H) H λv19 H=> gdA (some v16) false (aC (bi .lss 3 v19 (I 10)) H) H λv20 H=> bo (aV v16 (B true) v20) λv21=> gdA (some v21) false (aC (some v13) H) H λv23 H=> gdA (some v21) false (lnS v23 H) H λv24 H=> gdA (some v21) false (aC (some v13) H) H λv25 H=> gdA (some v21) false (ix 1 v25 (I 9) H) H λv26 H=> gdA (some v21) false (ld v26 H) H λv27 H=> gdA (some v21) false (cv 5 3 v27 H) H λv28 H=> gdA (some v21) false (aC (bi .mul 3 (I 8) v28) H) H λv29 H=> gdA (some v21) false (aC (bi .add 3 (I 10) v29) H) H λv30 H=> gdA (some v21) false (aC (bi .neq 3 v24 v30) H) H λv31 H=> bo (aV v21 (B true) v31) λv32=>
 aJ v32
 (bo (bd 51 []) λv33=> bnd (st 9 v2 v33 H) λ_ H=>
  none)
 (bnd (alc 51 [zI,zI,zI,zI,zI,zI,zI,zB,zN] H) λv6 H=> bnd (ix 1 v13 (I 0) H) λv35 H=> bnd (ld v35 H) λv36 H=> bnd (cv 5 3 v36 H) λv37 H=> bnd (ix 1 v13 (I 1) H) λv39 H=> bnd (ld v39 H) λv40 H=> bnd (cv 5 3 v40 H) λv41 H=> bnd (ix 1 v13 (I 2) H) λv43 H=> bnd (ld v43 H) λv44 H=> bnd (cv 5 3 v44 H) λv45 H=> bnd (ix 1 v13 (I 3) H) λv47 H=> bnd (ld v47 H) λv48 H=> bnd (cv 5 3 v48 H) λv49 H=> bo (bi .shl 3 v49 (.s (Go.Value.int Go.IntKind.u64 8))) λv50=> bnd (ix 1 v13 (I 4) H) λv52 H=> bnd (ld v52 H) λv53 H=> bnd (cv 5 3 v53 H) λv54 H=> bo (bi .or 3 v50 v54) λv55=> bnd (ix 1 v13 (I 5) H) λv57 H=> bnd (ld v57 H) λv58 H=> bnd (cv 5 3 v58 H) λv59 H=> bnd (ix 1 v13 (I 6) H) λv61 H=> bnd (ld v61 H) λv62 H=> bnd (cv 5 3 v62 H) λv63 H=> bo (bi .sub 3 v63 (I 1)) λv64=> bnd (ix 1 v13 (I 7) H) λv66 H=> bnd (ld v66 H) λv67 H=> bnd (cv 5 3 v67 H) λv68 H=> bnd (ix 1 v13 (I 8) H) λv70 H=> bnd (ld v70 H) λv71 H=> bo (bi .eql 5 v71 (.s (Go.Value.int Go.IntKind.u8 1))) λv72=> bo (bd 51 [(0,v37),(1,v41),(2,v45),(3,v55),(4,v59),(5,v64),(6,v68),(7,v72)]) λv73=> bnd (st 9 v6 v73 H) λ_ H=>
  bo (slS 1 v13 (some (I 10)) none none) λv75=> bnd (C 128 [v75,(I 8)] H) λv76 H=>
  some ([t0,v2,v6,v76],H))
theorem am3(C:Callee)(t0:AV)(H:aj):jM Tryz.prog C Am 100 XY [(0,t0)] H (λe H=> some (proj [0,2,6,76] e,H)) (λ_ _ _=> none) (λ_ _=> none)=XZ C t0 H:=by kernel_rfl
def Rx:Code:=match aaG with
 | .seq a (.seq b (.seq c (.seq d (.seq (.seq e (.block _ (.rangeFunc _ _ _ g))) f))))=> g
 | _=> .skip
def X0(C:Callee)(t6 t7:AV)(H:aj):Option (List AV × aj):=
 bo (ah t6 8) λv78=> bnd (ld v78 H) λv79 H=> bnd (unG H (C 129 [t7] H.guard)) λv81 H=> bnd (bs 22 1 [(0,v81)] H) λv82 H=> bnd (app 3 1 8 v79 v82 H) λv83 H=> bo (ah t6 8) λv84=> bnd (st 1 v84 v83 H) λ_ H=>
 some ([],H)
theorem am4(C:Callee)(t6 t7:AV)(H:aj):jM Tryz.prog C Am 100 Rx [(6,t6),(7,t7)] H (λe H=> some (proj [] e,H)) (λ_ _ _=> none) (λ_ _=> none)=X0 C t6 t7 H:=by kernel_rfl
def Ry:Code:=match aaG with
 | .seq a (.seq b (.seq c (.seq d (.seq (.seq e _) f))))=> f
 | _=> .skip
def X3(C:Callee)(t0 t2 t6:AV)(H:aj):Option (AV × aj):=
 bnd (lda 9 t6 H) λv86 H=> bnd (C 80 [v86] H) λv87 H=> bo (aF v87 0) λv88=> bo (aF v87 1) λv89=>
 bo (bi .neq 58 v89 (I 0)) λv91=> gdA (some v91) false (aC (some v88) H) H λv93 H=> gdA (some v91) false (aC (some t0) H) H λv94 H=> gdA (some v91) false (C 130 [v93,v94] H) H λv95 H=> gdA (some v91) false (aC (un .not v95) H) H λv96 H=> bo (aV v91 (B true) v96) λv97=>
 aJ v97
 (bo (bd 51 []) λv98=> bnd (st 9 t2 v98 H) λ_ H=>
  bnd (lda 9 t2 H) λr0 _=> some (.tup [r0,(I 2)],H))
 (bnd (lda 9 t6 H) λv99 H=> bnd (st 9 t2 v99 H) λ_ H=>
  bnd (lda 9 t2 H) λr0 _=> some (.tup [r0,(I 0)],H))
theorem am5(C:Callee)(t0 t2 t6:AV)(H:aj):jM Tryz.prog C Am 100 Ry [(0,t0),(2,t2),(6,t6)] H (dH Tryz.prog 100 Tryz.f81.results.toList) (λ_ _ _=> none) (dH Tryz.prog 100 Tryz.f81.results.toList)=X3 C t0 t2 t6 H:=by kernel_rfl
def am6:Ann:=⟨[],[],[]⟩
def am7:Code:=Tryz.f192.body.getD .skip
def Jl(C:Callee)(t0:AV)(H:aj):OA:=
 some (t0,H)
def Jm(C:Callee)(t0 t1:AV)(H:aj):OA:=
 bnd (aC (abZ Tryz.prog 169 t0) H) λv10 H=> bnd (lnS t0 H) λv12 H=> bo (bi .sub 3 v10 v12) λv13=> bo (bi .sub 3 t1 v13) λv14=>
 bo (bi .gtr 3 v14 (I 0)) λv16=>
 aJ v16
 (bnd (aC (abZ Tryz.prog 169 t0) H) λv19 H=> bo (slS 1 t0 none (some v19) none) λv20=> bnd (apz 5 1 1 [.s (.int .u8 0)] v20 v14 H) λv22 H=> bnd (lnS t0 H) λv24 H=> bo (slS 1 v22 none (some v24) none) λv25=>
  Jl C v25 H)
 (Jl C t0 H)
def aeb(C:Callee)(a0 a1:AV)(H:aj):OA:=
 bo (bi .lss 3 a1 (I 0)) λv6=>
 aJ v6
 (bnd (stk H) λv7 H=> bnd (stk H) λ_ H=>
  Jm C a0 a1 H)
 (Jm C a0 a1 H)
theorem am8(C:Callee)(a0 a1:AV)(H:aj){r:AV × aj}(h:aeb C a0 a1 H=some r):bH Tryz.prog C 192 [a0,a1] H=some r:=
 rnK (A:=am6) (c:=am7) Tryz.func192 (by kernel_rfl) (by kernel_rfl) h
end
end Go.Proofs.YtdflddpllngpjaaGreat
