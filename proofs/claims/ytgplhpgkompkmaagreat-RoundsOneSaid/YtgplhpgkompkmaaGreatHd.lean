/-
  Own work: an interpreter over named blocks, its soundness, and what the functions of this seat compute (part 4 of 11).
  Conditions: those of the statement alone.
-/
import Derived.Test.YtgplhpgkompkmaaGreatProg
import Derived.KernelRfl
import Derived.RangeFuncFrom
import Derived.RangeFuncLeaves
import Derived.RangeFuncCalls
import Derived.OrdersIn
import Derived.Test.YtgplhpgkompkmaaGreatHc
set_option maxRecDepth 100000
set_option linter.all false
set_option linter.unusedSectionVars false
set_option linter.unusedVariables false
set_option linter.unusedSimpArgs false
namespace Go.Proofs.YtgplhpgkompkmaaGreat
noncomputable section
def aqh:Ann:=⟨[(7,[0,1,6,8])],[],[]⟩
def JH:=lT Tryz.prog Tryz.f6 74 aqh 0
def UQ(C:aC)(t0 t1 t6 t8 t9:AV)(H:ah):OA:=
 bnd (C 21 [t6] H) λv34 H=> bo (bi .eql 3 t8 (I 0)) λv36=> bo (bi .neq 4 v34 v36) λv37=> gl v37 false (some t6) H λv39 H=> gl v37 false (some t1) H λv40 H=> gl v37 false (some t8) H λv41 H=> gl v37 false (bi .add 3 v40 v41) H λv42 H=> gdA (some v37) false (C 22 [v39,v42] H) H λv43 H=> gl v37 false (some t9) H λv44 H=> gl v37 false (bi .neq 3 v43 v44) H λv45 H=> bo (dG v37 (B true) v45) λv46=>
 aV v46
 (some ((B false),H))
 (bo (bi .add 3 t8 (I 1)) λv30=>
  JH C [t0,t1,t6,v30] H)
def aqi(C:aC)(a0 a1:AV)(H:ah):OA:=
 bnd (bs 22 1 [(0,a0)] H) λv11 H=> bo (bd 31 [(0,(I 1)),(1,(I 1)),(2,(I 1)),(3,(I 1)),(4,(I 1)),(5,(I 1)),(6,(I 1)),(7,v11)]) λv12=> bnd (alc 31 [zI,zI,zI,zI,zI,zI,zI,zN] H) λv5 H=> bnd (st 8 v5 v12 H) λ_ H=>
 bnd (lda 8 v5 H) λv14 H=> bo (bd 61 [(0,(I 1))]) λv15=> bnd (bs 62 1 [(0,v15)] H) λv16 H=> bnd (bs 27 1 [(0,v16)] H) λv17 H=> bnd (C 20 [v14,v17] H) λv18 H=> bo (aJ v18 0) λv19=> bo (aJ v18 1) λv20=>
 bo (bi .neq 57 v20 (I 0)) λv22=> gl v22 false (some v19) H λv24 H=> gl v22 false (bi .eql 25 v24 (.s (Go.Value.pointer none))) H λv25 H=> bo (dG v22 (B true) v25) λv26=>
 aV v26
 (some ((B false),H))
 (JH C [a0,a1,v19,(I 0)] H)
theorem ae6(C:aC)(t0 t1 t6 t8:AV)(H:ah):JH C [t0,t1,t6,t8] H=
 bo (bi .lss 3 t8 (I 5)) λv28=>
 aV v28
 (bo (bi .eql 3 t8 (I 4)) λv32=>
  aV v32
  (UQ C t0 t1 t6 t8 (I 1) H)
  (UQ C t0 t1 t6 t8 (I 2) H))
 (bnd (C 21 [t6] H) λv48 H=> gl v48 true (some t6) H λv50 H=> gdA (some v48) true (C 23 [v50] H) H λv51 H=> gl v48 true (bi .eql 3 v51 (I 0)) H λv52 H=> bo (dG v48 v52 (B false)) λv53=> gl v53 true (some t6) H λv55 H=> gdA (some v53) true (C 25 [v55,(I 0)] H) H λv56 H=> gl v53 true (aA v56) H λv57 H=> gl v53 true (au v57 1) H λv58 H=> gdA (some v53) true (ld v58 H) H λv59 H=> gdA (some v53) true (C 26 [v59] H) H λv60 H=> gl v53 true (some t0) H λv61 H=> gdA (some v53) true (bs 22 1 [(0,v61)] H) H λv62 H=> gdA (some v53) true (C 24 [v60,v62] H) H λv63 H=> bo (dG v53 v63 (B false)) λv64=> gl v64 true (some t6) H λv66 H=> gl v64 true (some t1) H λv67 H=> gdA (some v64) true (C 22 [v66,v67] H) H λv68 H=> gl v64 true (bi .eql 3 v68 (I 0)) H λv69 H=> bo (dG v64 v69 (B false)) λv70=> gdA (some v70) true (C 27 [] H) H λv72 H=> bo (dG v70 v72 (B false)) λv73=>
  some (v73,H)):=
 lpE.trans (by kernel_rfl)
theorem aqG:Rn2 6 aqi:=λ_ _ _ _ _ h=>
 rnG aqh Tryz.func6 (by kernel_rfl) (by kernel_rfl) h
def aqj(C:aC)(a0:AV)(H:ah):OA:=
 bnd (alc 31 [zI,zI,zI,zI,zI,zI,zI,zN] H) λv2 H=>
 bo (aA a0) λv5=> bo (au v5 2) λv6=> bnd (lda 8 v6 H) λv7 H=> bnd (alc 31 [zI,zI,zI,zI,zI,zI,zI,zN] H) λv3 H=> bnd (st 8 v3 v7 H) λ_ H=>
 fld v3 7 H λv9 H=> bnd (C 36 [v9] H) λv10 H=> bo (au v3 7) λv11=> bnd (st 1 v11 v10 H) λ_ H=>
 bnd (lda 8 v3 H) λv12 H=> bnd (st 8 v2 v12 H) λ_ H=>
 bnd (lda 8 v2 H) λr0 _=> some (r0,H)
theorem aqH:Rn1 9 aqj:=λ_ _ _ _ h=>
 rnG an0 Tryz.func9 (by kernel_rfl) (by kernel_rfl) h
def aoR:Ann:=⟨[],[(2,rF 13 []),(4,rF 16 [])],[]⟩
def acL(C:aC)(a0 a1:AV)(H:ah):OA:=
 bnd (jc 44 a1 H) λv3 H=>
 fld v3 0 H λv7 H=>
 aV v7
 (bo (aA a0) λv9=> fld v9 0 H λv11 H=> fld v3 1 H λv13 H=> fld v3 2 H λv15 H=> fld v3 3 H λv17 H=> bnd (C 48 [v11,v13,v15,v17] H) λv18 H=> bo (bi .eql 57 v18 (I 0)) λv19=>
  some (v19,H))
 (fld v3 1 H λv22 H=> bnd (C 25 [a0,v22] H) λv23 H=>
  bo (bi .neq 64 v23 (.s (Go.Value.pointer none))) λv25=> gl v25 true (some v23) H λv27 H=> gl v25 true (some a0) H λv28 H=> gl v25 true (aA v28) H λv29 H=> gl v25 true (au v29 0) H λv30 H=> gdA (some v25) true (ld v30 H) H λv31 H=> gl v25 true (some a0) H λv32 H=> gl v25 true (aA v32) H λv33 H=> gl v25 true (au v33 1) H λv34 H=> gdA (some v25) true (ld v34 H) H λv35 H=> gdA (some v25) true (C 49 [v27,v31,v35] H) H λv36 H=> gl v25 true (bi .neq 3 v36 (I 0)) H λv37 H=> bo (dG v25 v37 (B false)) λv38=>
  some (v38,H))
theorem ahu:Rn2 15 acL:=λ_ _ _ _ _ h=>
 rnG aoR Tryz.func15 (by kernel_rfl) (by kernel_rfl) h
def akp:Ann:=⟨[(4,[3,7,8,9])],[],[]⟩
def LD:=lT Tryz.prog Tryz.f17 20 akp 0
def akq(C:aC)(a0:AV)(H:ah):OA:=
 bnd (C 51 [a0] H) λv7 H=> bnd (lnS v7 H) λv8 H=>
 LD C [(I 0),v7,v8,(I 0)] H
theorem Zc(C:aC)(t3 t7 t8 t9:AV)(H:ah):LD C [t3,t7,t8,t9] H=
 bo (bi .lss 3 t9 t8) λv10=>
 aV v10
 (bnd (ix 2 t7 t9 H) λv11 H=> bnd (lda 2 v11 H) λv12 H=> bnd (alc 121 [zP,zP] H) λv5 H=> bnd (st 2 v5 v12 H) λ_ H=>
  fld v5 0 H λv15 H=> bnd (C 52 [v15] H) λv16 H=> bo (bi .add 3 t3 v16) λv17=>
  bo (bi .add 3 t9 (I 1)) λv18=>
  LD C [v17,t7,t8,v18] H)
 (some (t3,H)):=
 lpE.trans (by kernel_rfl)
theorem aoS:Rn1 17 akq:=λ_ _ _ _ h=>
 rnG akp Tryz.func17 (by kernel_rfl) (by kernel_rfl) h
def akr:Ann:=⟨[(11,[2,8,32,33,34])],[(8,some false::some true::some true::rF 4 []),(12,rF 8 (some true::rF 5 []))],[]⟩
def Gy:=lT Tryz.prog Tryz.f20 54 akr 0
def ahv(C:aC)(a0 a1:AV)(H:ah):OA:=
 bnd (jc 31 a0 H) λv2 H=>
 bnd (lda 8 v2 H) λv11 H=> bnd (C 59 [v11] H) λv12 H=>
 bo (bi .neq 57 v12 (I 0)) λv14=>
 aV v14
 (some (.tup [(.s (Go.Value.pointer none)),v12],H))
 (bnd (lda 8 v2 H) λv16 H=> bnd (C 60 [v16,a1] H) λv18 H=>
  bo (bi .neq 57 v18 (I 0)) λv20=>
  aV v20
  (some (.tup [(.s (Go.Value.pointer none)),v18],H))
  (fld v2 7 H λv23 H=> bnd (C 36 [v23] H) λv24 H=> bo (au v2 7) λv25=> bnd (st 1 v25 v24 H) λ_ H=>
  bnd (lda 8 v2 H) λv26 H=> bnd (unG H (C 61 [v26] H.guard)) λv27 H=> bnd (unG H (C 62 [] H.guard)) λv28 H=> bnd (lda 8 v2 H) λv29 H=> bo (bd 53 [(0,v27),(1,v28),(2,v29)]) λv30=> bnd (jc 53 v30 H) λv31 H=>
  bnd (lnS a1 H) λv33 H=>
  Gy C [v2,v31,a1,v33,(I 0)] H))
theorem LG(C:aC)(t2 t8 t32 t33 t34:AV)(H:ah):Gy C [t2,t8,t32,t33,t34] H=
 bo (bi .lss 3 t34 t33) λv35=>
 aV v35
 (bnd (ix 1 t32 t34 H) λv37 H=> bnd (ld v37 H) λv38 H=>
  bo (aA t8) λv41=> fld v41 10 H λv43 H=> bnd (lda 8 t2 H) λv44 H=> bnd (unG H (C 63 [v44,t34,v38] H.guard)) λv47 H=> bnd (bs 51 1 [(0,v47)] H) λv48 H=> bnd (app 64 1 8 v43 v48 H) λv49 H=> bo (aA t8) λv50=> bo (au v50 10) λv51=> bnd (st 1 v51 v49 H) λ_ H=>
  bo (bi .add 3 t34 (I 1)) λv52=>
  Gy C [t2,t8,t32,t33,v52] H)
 (some (.tup [t8,(I 0)],H)):=
 lpE.trans (by kernel_rfl)
theorem aks:Rn2 20 ahv:=λ_ _ _ _ _ h=>
 rnG akr Tryz.func20 (by kernel_rfl) (by kernel_rfl) h
def akt:Ann:=⟨[(3,[0,12,13,14])],[],[]⟩
def Cb:=lT Tryz.prog Tryz.f21 54 akt 0
def aku(C:aC)(a0:AV)(H:ah):OA:=
 bo (aA a0) λv10=> fld v10 10 H λv12 H=> bnd (lnS v12 H) λv13 H=>
 Cb C [a0,v12,v13,(I 0)] H
theorem Zd(C:aC)(t0 t12 t13 t14:AV)(H:ah):Cb C [t0,t12,t13,t14] H=
 bo (bi .lss 3 t14 t13) λv15=>
 aV v15
 (bnd (ix 1 t12 t14 H) λv17 H=> bnd (ld v17 H) λv18 H=>
  bnd (C 30 [v18] H) λv21 H=> bo (aJ v21 0) λv22=> bo (aJ v21 1) λv23=> bnd (alc 73 [zI,zI,zI,zI,zI,zI,zN,zI,zI] H) λv5 H=> bnd (st 9 v5 v22 H) λ_ H=>
  bo (aA t0) λv26=> fld v26 0 H λv28 H=> bnd (C 29 [v28,t14] H) λv30 H=> bo (aJ v30 0) λv31=> bo (aJ v30 1) λv32=>
  gl v23 false (some v18) H λv35 H=> gl v23 false (aA v35) H λv36 H=> gl v23 false (au v36 1) H λv37 H=> gdA (some v23) false (ld v37 H) H λv38 H=> gdA (some v23) false (C 64 [v38] H) H λv39 H=> bo (dG v23 (B true) v39) λv40=> gl v40 false (some v31) H λv42 H=> gl v40 false (some v32) H λv43 H=> gl v40 false (bi .add 3 v42 v43) H λv44 H=> gl v40 false (bi .gtr 3 v44 (I 0)) H λv45 H=> bo (dG v40 (B true) v45) λv46=>
  aV v46
  (some ((B false),H))
  (bo (bi .add 3 t14 (I 1)) λv47=>
  Cb C [t0,t12,t13,v47] H))
 (bo (aA t0) λv49=> fld v49 0 H λv51 H=> bnd (C 17 [v51] H) λv52 H=> bo (bi .eql 3 v52 (I 0)) λv53=>
  some (v53,H)):=
 lpE.trans (by kernel_rfl)
theorem aoT:Rn1 21 aku:=λ_ _ _ _ h=>
 rnG akt Tryz.func21 (by kernel_rfl) (by kernel_rfl) h
def ahw:Ann:=⟨[(7,[1,2,5,6,7,21,22]),(12,[5,6,9])],[],[]⟩
def LH:=lT Tryz.prog Tryz.f22 49 ahw 0
def Gz:=lT Tryz.prog Tryz.f22 49 ahw 1
def akv(C:aC)(a0 a1:AV)(H:ah):OA:=
 bnd (jc 25 a0 H) λv2 H=>
 bnd (alc 3 [zI] H) λv5 H=> bnd (st 1 v5 (I 0) H) λ_ H=>
 bnd (ld v2 H) λv11 H=> bnd (C 9 [v11] H) λv12 H=> bo (fl v12 0) λv13=>
 bo (bi .rem 3 a1 v13) λv16=> bo (bi .add 3 v16 v13) λv18=> bo (bi .rem 3 v18 v13) λv20=>
 LH C [v20,v2,v5,(.fn (.func 65) [] [v2,v5]),v13,v13,(I 0)] H
theorem Ze(C:aC)(t1 t2 t5 t6 t7 t21 t22:AV)(H:ah):LH C [t1,t2,t5,t6,t7,t21,t22] H=
 bo (bi .lss 3 t22 t21) λv23=>
 aV v23
 (bo (bi .add 3 t1 t22) λv28=> bo (bi .rem 3 v28 t7) λv30=> bo (bd 44 [(1,v30)]) λv31=> bnd (rP Tryz.prog C t6 [v31] H) λv32 H=>
  bo (bi .add 3 t22 (I 1)) λv33=>
  LH C [t1,t2,t5,t6,t7,t21,v33] H)
 (bnd (ld t2 H) λv34 H=> bo (aA v34) λv35=> fld v35 0 H λv37 H=> bnd (C 17 [v37] H) λv38 H=> bo (bi .sub 3 v38 (I 1)) λv39=>
  Gz C [t5,t6,v39] H):=
 lpE.trans (by kernel_rfl)
theorem Zf(C:aC)(t5 t6 t9:AV)(H:ah):Gz C [t5,t6,t9] H=
 bo (bi .geq 3 t9 (I 0)) λv41=>
 aV v41
 (bo (bd 44 [(0,(B true)),(1,t9)]) λv46=> bnd (rP Tryz.prog C t6 [v46] H) λv47 H=>
  bo (bi .sub 3 t9 (I 1)) λv43=>
  Gz C [t5,t6,v43] H)
 (bnd (ld t5 H) λv48 H=>
  some (v48,H)):=
 lpE.trans (by kernel_rfl)
theorem aoU:Rn2 22 akv:=λ_ _ _ _ _ h=>
 rnG ahw Tryz.func22 (by kernel_rfl) (by kernel_rfl) h
def akw:Ann:=⟨[(4,[3,9,10,11])],[],[]⟩
def LJ:=lT Tryz.prog Tryz.f23 24 akw 0
def akx(C:aC)(a0:AV)(H:ah):OA:=
 bo (aA a0) λv7=> fld v7 10 H λv9 H=> bnd (lnS v9 H) λv10 H=>
 LJ C [(I 0),v9,v10,(I 0)] H
theorem Zg(C:aC)(t3 t9 t10 t11:AV)(H:ah):LJ C [t3,t9,t10,t11] H=
 bo (bi .lss 3 t11 t10) λv12=>
 aV v12
 (bnd (ix 1 t9 t11 H) λv13 H=> bnd (ld v13 H) λv14 H=>
  bo (aA v14) λv17=> fld v17 1 H λv19 H=> bnd (C 66 [v19] H) λv20 H=> bo (bi .add 3 t3 v20) λv21=>
  bo (bi .add 3 t11 (I 1)) λv22=>
  LJ C [v21,t9,t10,v22] H)
 (some (t3,H)):=
 lpE.trans (by kernel_rfl)
theorem aoV:Rn1 23 akx:=λ_ _ _ _ h=>
 rnG akw Tryz.func23 (by kernel_rfl) (by kernel_rfl) h
def aky:Ann:=⟨[(5,[0,1,5])],[(6,rF 9 [])],[]⟩
def GH:=lT Tryz.prog Tryz.f24 26 aky 0
def akz(C:aC)(a0 a1:AV)(H:ah):OA:=
 bnd (lnS a0 H) λv7 H=> bnd (lnS a1 H) λv9 H=> bo (bi .neq 3 v7 v9) λv10=>
 aV v10
 (some ((B false),H))
 (GH C [a0,a1,(I 0)] H)
theorem Zh(C:aC)(t0 t1 t5:AV)(H:ah):GH C [t0,t1,t5] H=
 bnd (lnS t0 H) λv13 H=> bo (bi .lss 3 t5 v13) λv14=>
 aV v14
 (bnd (ix 1 t0 t5 H) λv19 H=> bnd (ld v19 H) λv20 H=> bnd (ix 1 t1 t5 H) λv23 H=> bnd (ld v23 H) λv24 H=> bo (bi .neq 3 v20 v24) λv25=>
  aV v25
  (some ((B false),H))
  (bo (bi .add 3 t5 (I 1)) λv16=>
  GH C [t0,t1,v16] H))
 (some ((B true),H)):=
 lpE.trans (by kernel_rfl)
theorem aoW:Rn2 24 akz:=λ_ _ _ _ _ h=>
 rnG aky Tryz.func24 (by kernel_rfl) (by kernel_rfl) h
def acM(C:aC)(a0 a1:AV)(H:ah):OA:=
 bo (bi .lss 3 a1 (I 0)) λv6=> gl v6 false (some a1) H λv8 H=> gl v6 false (some a0) H λv9 H=> gl v6 false (aA v9) H λv10 H=> gl v6 false (au v10 10) H λv11 H=> gdA (some v6) false (ld v11 H) H λv12 H=> gdA (some v6) false (lnS v12 H) H λv13 H=> gl v6 false (bi .geq 3 v8 v13) H λv14 H=> bo (dG v6 (B true) v14) λv15=>
 aV v15
 (some ((.s (Go.Value.pointer none)),H))
 (bo (aA a0) λv17=> fld v17 10 H λv19 H=> bnd (ix 1 v19 a1 H) λv21 H=> bnd (ld v21 H) λv22 H=>
  some (v22,H))
theorem aoX:Rn2 25 acM:=λ_ _ _ _ _ h=>
 rnG an0 Tryz.func25 (by kernel_rfl) (by kernel_rfl) h
def akA(C:aC)(a0:AV)(H:ah):OA:=
 bo (aA a0) λv4=> fld v4 1 H λv6 H=> bnd (C 36 [v6] H) λv7 H=>
 some (v7,H)
theorem aoY:Rn1 26 akA:=λ_ _ _ _ h=>
 rnG an0 Tryz.func26 (by kernel_rfl) (by kernel_rfl) h
def akB(C:aC)(H:ah):OA:=
 bo (bd 31 [(0,(I 1)),(1,(I 1)),(2,(I 1)),(3,(I 1)),(4,(I 1)),(5,(I 1)),(6,(I 1))]) λv4=> bnd (alc 31 [zI,zI,zI,zI,zI,zI,zI,zN] H) λv1 H=> bnd (st 8 v1 v4 H) λ_ H=>
 bnd (lda 8 v1 H) λv6 H=> bnd (bs 27 1 [(0,(.s (Go.Value.slice none 0 0)))] H) λv7 H=> bnd (C 20 [v6,v7] H) λv8 H=> bo (aJ v8 0) λv9=> bo (aJ v8 1) λv10=>
 bo (bi .eql 57 v10 (I 0)) λv12=> gl v12 true (some v9) H λv14 H=> gl v12 true (bi .neq 25 v14 (.s (Go.Value.pointer none))) H λv15 H=> bo (dG v12 v15 (B false)) λv16=> gl v16 true (some v9) H λv18 H=> gdA (some v16) true (C 67 [v18,(I 9),(.s (Go.Value.slice none 0 0))] H) H λv19 H=> gl v16 true (bi .eql 3 v19 (I 0)) H λv20 H=> bo (dG v16 v20 (B false)) λv21=> gdA (some v21) true (lda 8 v1 H) H λv23 H=> gdA (some v21) true (bs 27 1 [(0,(.s (Go.Value.slice none 0 0)))] H) H λv24 H=> gdA (some v21) true (C 68 [v23,v24] H) H λv25 H=> gl v21 true (bi .eql 3 v25 (I 280)) H λv26 H=> bo (dG v21 v26 (B false)) λv27=>
 some (v27,H)
theorem aoZ:Rn0 27 akB:=λ_ _ _ h=>
 rnG an0 Tryz.func27 (by kernel_rfl) (by kernel_rfl) h
def ahx(C:aC)(a0 a1:AV)(H:ah):OA:=
 bnd (alc 81 [zI,zI,zI,zI,zI,zI,zI,zB,zN] H) λv4 H=>
 bnd (C 69 [a0,a1] H) λv12 H=> bo (aJ v12 0) λv13=> bo (aJ v12 1) λv14=> bo (aJ v12 2) λv15=> bnd (alc 121 [zP,zP] H) λv6 H=> bnd (st 2 v6 v13 H) λ_ H=>
 bo (un .not v15) λv17=> gl v17 false (some a1) H λv19 H=> gl v17 false (bi .lss 3 v19 (I 0)) H λv20 H=> bo (dG v17 (B true) v20) λv21=>
 aV v21
 (bo (bd 81 []) λv22=> bnd (st 9 v4 v22 H) λ_ H=>
  bnd (lda 9 v4 H) λr0 _=> some (.tup [r0,(B false)],H))
 (fld v6 0 H λv24 H=> bnd (C 70 [v24,v14] H) λv26 H=> bo (aJ v26 0) λv27=> bo (aJ v26 1) λv28=> bnd (st 9 v4 v27 H) λ_ H=>
  bnd (lda 9 v4 H) λr0 _=> some (.tup [r0,v28],H))
theorem ao0:Rn2 28 ahx:=λ_ _ _ _ _ h=>
 rnG an0 Tryz.func28 (by kernel_rfl) (by kernel_rfl) h
def ao1:Ann:=⟨[],[(3,rF 9 (some true::rF 12 []))],[]⟩
def ahy(C:aC)(a0 a1:AV)(H:ah):OA:=
 bnd (C 71 [a0,a1] H) λv8 H=> bo (un .not v8) λv9=>
 aV v9
 (some (.tup [(I 0),(I 0)],H))
 (bo (aA a0) λv11=> fld v11 0 H λv13 H=> bnd (ix 4 v13 a1 H) λv15 H=> bo (au v15 0) λv16=> fld v16 1 H λv18 H=> bnd (unG H (C 72 [v18] H.guard)) λv19 H=> bo (aA a0) λv21=> fld v21 0 H λv23 H=> bnd (ix 4 v23 a1 H) λv25 H=> bo (au v25 2) λv26=> fld v26 1 H λv28 H=> bnd (C 72 [v28] H) λv29 H=>
  some (.tup [v19,v29],H))
theorem ao2:Rn2 29 ahy:=λ_ _ _ _ _ h=>
 rnG ao1 Tryz.func29 (by kernel_rfl) (by kernel_rfl) h
def Zi(C:aC)(a0:AV)(H:ah):OA:=
 bnd (alc 73 [zI,zI,zI,zI,zI,zI,zN,zI,zI] H) λv2 H=>
 bo (aA a0) λv6=> bo (au v6 12) λv7=> fld v7 3 H λv9 H=> bo (bi .eql 3 v9 (I 0)) λv10=>
 aV v10
 (bo (bd 73 []) λv11=> bnd (st 9 v2 v11 H) λ_ H=>
  bnd (lda 9 v2 H) λr0 _=> some (.tup [r0,(B false)],H))
 (bo (aA a0) λv13=> bo (au v13 12) λv14=> bnd (lda 9 v14 H) λv15 H=> bnd (alc 73 [zI,zI,zI,zI,zI,zI,zN,zI,zI] H) λv4 H=> bnd (st 9 v4 v15 H) λ_ H=>
  fld v4 6 H λv17 H=> bnd (app 3 1 8 (.s (Go.Value.slice none 0 0)) v17 H) λv18 H=> bo (au v4 6) λv19=> bnd (st 1 v19 v18 H) λ_ H=>
  bnd (lda 9 v4 H) λv20 H=> bnd (st 9 v2 v20 H) λ_ H=>
  bnd (lda 9 v2 H) λr0 _=> some (.tup [r0,(B true)],H))
theorem ahz:Rn1 30 Zi:=λ_ _ _ _ h=>
 rnG an0 Tryz.func30 (by kernel_rfl) (by kernel_rfl) h
def Px(C:aC)(a0:AV)(H:ah):OA:=
 bo (bi .eql 22 a0 (.s (Go.Value.slice none 0 0))) λv4=>
 aV v4
 (some ((.s (Go.Value.slice none 0 0)),H))
 (bnd (bs 22 0 [] H) λv5 H=> bnd (app 3 1 8 v5 a0 H) λv7 H=>
  some (v7,H))
theorem Sm:Rn1 36 Px:=λ_ _ _ _ h=>
 rnG an0 Tryz.func36 (by kernel_rfl) (by kernel_rfl) h
def ahA(C:aC)(a0 a1:AV)(H:ah):OA:=
 bnd (alc 100 [zI,zI,zI,zI,zB,zN] H) λv4 H=>
 bnd (C 82 [a0,a1] H) λv9 H=>
 bo (bi .lss 3 v9 (I 0)) λv11=>
 aV v11
 (bo (bd 100 []) λv12=> bnd (st 6 v4 v12 H) λ_ H=>
  bnd (lda 6 v4 H) λr0 _=> some (.tup [r0,(B false)],H))
 (bo (aA a0) λv14=> fld v14 0 H λv16 H=> bnd (ix 6 v16 v9 H) λv18 H=> bnd (lda 6 v18 H) λv19 H=> bnd (C 83 [v19] H) λv20 H=> bnd (st 6 v4 v20 H) λ_ H=>
  bnd (lda 6 v4 H) λr0 _=> some (.tup [r0,(B true)],H))
theorem ao3:Rn2 41 ahA:=λ_ _ _ _ _ h=>
 rnG an0 Tryz.func41 (by kernel_rfl) (by kernel_rfl) h
def akC(C:aC)(a0 a1:AV)(H:ah):OA:=
 bnd (jc 31 a0 H) λv2 H=>
 fld v2 0 H λv7 H=> bnd (C 84 [a1,v7] H) λv8 H=>
 some (v8,H)
theorem ao4:Rn2 42 akC:=λ_ _ _ _ _ h=>
 rnG an0 Tryz.func42 (by kernel_rfl) (by kernel_rfl) h
def ao5:Ann:=⟨[],[(7,rF 10 (some true::some true::rF 4 []))],[]⟩
def Zj(C:aC)(a0 a1 a2 a3:AV)(H:ah):OA:=
 bnd (C 28 [a0,a1] H) λv19 H=> bo (aJ v19 0) λv20=> bo (aJ v19 1) λv21=> bnd (alc 81 [zI,zI,zI,zI,zI,zI,zI,zB,zN] H) λv9 H=> bnd (st 9 v9 v20 H) λ_ H=>
 bo (un .not v21) λv23=>
 aV v23
 (some ((I 3),H))
 (bnd (lda 9 v9 H) λv25 H=> bnd (C 90 [v25,a2,a3] H) λv28 H=> bo (aJ v28 0) λv29=> bo (aJ v28 1) λv30=> bnd (st 9 v9 v29 H) λ_ H=>
  bo (bi .neq 57 v30 (I 0)) λv32=>
  aV v32
  (some (v30,H))
  (bo (aA a0) λv35=> fld v35 0 H λv37 H=> fld v9 2 H λv39 H=> bnd (ix 4 v37 v39 H) λv40 H=> bnd (lda 4 v40 H) λv41 H=> fld v9 0 H λv43 H=> bnd (unG H (C 92 [v43] H.guard)) λv44 H=> bnd (unG H (C 91 [v41,v44] H.guard)) λv45 H=> bo (fl v45 1) λv46=> bnd (lda 9 v9 H) λv47 H=> bnd (C 93 [v46,v47] H) λv48 H=>
  bo (bi .neq 57 v48 (I 0)) λv50=>
  aV v50
  (some (v48,H))
  (bnd (C 69 [a0,a1] H) λv55 H=> bo (aJ v55 0) λv56=> bo (aJ v55 1) λv57=> bo (aJ v55 2) λv58=> bnd (alc 121 [zP,zP] H) λv13 H=> bnd (st 2 v13 v56 H) λ_ H=>
   fld v13 0 H λv60 H=> bnd (C 94 [v60,v57] H) λv62 H=>
   some ((I 0),H))))
theorem acN:Rn4 48 Zj:=λ_ _ _ _ _ _ _ h=>
 rnG ao5 Tryz.func48 (by kernel_rfl) (by kernel_rfl) h
def Sr(C:aC)(a0 a1 a2:AV)(H:ah):OA:=
 bnd (C 95 [a0,a1,a2] H) λv11 H=>
 aV v11
 (some ((I 1),H))
 (bnd (C 96 [a0,a1] H) λv15 H=>
  aV v15
  (some ((I 2),H))
  (bnd (C 97 [a0,a1] H) λv19 H=>
  aV v19
  (some ((I 3),H))
  (bnd (C 98 [a0,a1,a2] H) λv24 H=>
   aV v24
   (some ((I 4),H))
   (some ((I 0),H)))))
theorem WI:Rn3 49 Sr:=λ_ _ _ _ _ _ h=>
 rnG an0 Tryz.func49 (by kernel_rfl) (by kernel_rfl) h
def akD:Ann:=⟨[(4,[3,9,10,11])],[],[]⟩
def LK:=lT Tryz.prog Tryz.f51 24 akD 0
def akE(C:aC)(a0:AV)(H:ah):OA:=
 bo (aA a0) λv7=> fld v7 0 H λv9 H=> bnd (lnS v9 H) λv10 H=>
 LK C [(.s (Go.Value.slice none 0 0)),v9,v10,(I 0)] H
theorem Zk(C:aC)(t3 t9 t10 t11:AV)(H:ah):LK C [t3,t9,t10,t11] H=
 bo (bi .lss 3 t11 t10) λv12=>
 aV v12
 (bnd (ix 4 t9 t11 H) λv13 H=> bnd (lda 4 v13 H) λv14 H=> bnd (alc 142 [zP,zP,zP,zP] H) λv5 H=> bnd (st 4 v5 v14 H) λ_ H=>
  bo (au v5 0) λv16=> bnd (lda 2 v16 H) λv17 H=> bo (au v5 2) λv18=> bnd (lda 2 v18 H) λv19 H=> bnd (bs 116 2 [(0,v17),(1,v19)] H) λv20 H=> bnd (app 121 2 16 t3 v20 H) λv21 H=>
  bo (bi .add 3 t11 (I 1)) λv22=>
  LK C [v21,t9,t10,v22] H)
 (some (t3,H)):=
 lpE.trans (by kernel_rfl)
theorem ao6:Rn1 51 akE:=λ_ _ _ _ h=>
 rnG akD Tryz.func51 (by kernel_rfl) (by kernel_rfl) h
def akF(C:aC)(a0:AV)(H:ah):OA:=
 bo (aA a0) λv4=> fld v4 0 H λv6 H=> bnd (lnS v6 H) λv7 H=>
 some (v7,H)
theorem ao7:Rn1 52 akF:=λ_ _ _ _ h=>
 rnG an0 Tryz.func52 (by kernel_rfl) (by kernel_rfl) h
def ahB(C:aC)(a0:AV)(H:ah):OA:=
 bnd (jc 31 a0 H) λv1 H=>
 fld v1 1 H λv4 H=> fld v1 2 H λv6 H=> bo (bi .mul 3 v4 v6) λv7=>
 some (v7,H)
theorem akG:Rn1 57 ahB:=λ_ _ _ _ h=>
 rnG an0 Tryz.func57 (by kernel_rfl) (by kernel_rfl) h
def ahC(C:aC)(a0:AV)(H:ah):OA:=
 bnd (jc 31 a0 H) λv1 H=>
 fld v1 0 H λv7 H=> bnd (C 104 [v7,(I 6)] H) λv8 H=> gl v8 true (au v1 1) H λv10 H=> gdA (some v8) true (ld v10 H) H λv11 H=> gdA (some v8) true (C 104 [v11,(I 8)] H) H λv12 H=> bo (dG v8 v12 (B false)) λv13=> gl v13 true (au v1 2) H λv15 H=> gdA (some v13) true (ld v15 H) H λv16 H=> gdA (some v13) true (C 104 [v16,(I 4)] H) H λv17 H=> bo (dG v13 v17 (B false)) λv18=>
 fld v1 3 H λv20 H=> bnd (C 104 [v20,(I 4)] H) λv21 H=> gl v21 true (au v1 4) H λv23 H=> gdA (some v21) true (ld v23 H) H λv24 H=> gdA (some v21) true (C 104 [v24,(I 3)] H) H λv25 H=> bo (dG v21 v25 (B false)) λv26=>
 fld v1 5 H λv28 H=> bnd (C 104 [v28,(I 8)] H) λv29 H=> gl v29 true (au v1 6) H λv31 H=> gdA (some v29) true (ld v31 H) H λv32 H=> gdA (some v29) true (C 104 [v32,(I 8)] H) H λv33 H=> bo (dG v29 v33 (B false)) λv34=>
 bo (un .not v18) λv36=> gl v36 false (some v26) H λv38 H=> gl v36 false (un .not v38) H λv39 H=> bo (dG v36 (B true) v39) λv40=> gl v40 false (some v34) H λv42 H=> gl v40 false (un .not v42) H λv43 H=> bo (dG v40 (B true) v43) λv44=> gl v44 false (au v1 7) H λv46 H=> gdA (some v44) false (ld v46 H) H λv47 H=> gdA (some v44) false (lnS v47 H) H λv48 H=> gl v44 false (au v1 1) H λv49 H=> gdA (some v44) false (ld v49 H) H λv50 H=> gl v44 false (au v1 2) H λv51 H=> gdA (some v44) false (ld v51 H) H λv52 H=> gl v44 false (bi .mul 3 v50 v52) H λv53 H=> gl v44 false (bi .gtr 3 v48 v53) H λv54 H=> bo (dG v44 (B true) v54) λv55=>
 aV v55
 (some ((I 1),H))
 (some ((I 0),H))
theorem akH:Rn1 59 ahC:=λ_ _ _ _ h=>
 rnG an0 Tryz.func59 (by kernel_rfl) (by kernel_rfl) h
def SA(C:aC)(a0 a1:AV)(H:ah):OA:=
 bnd (jc 31 a0 H) λv2 H=>
 bnd (C 105 [a1,(.fn (.func 106) [] [v2])] H) λv8 H=>
 gl v8 false (some a1) H λv11 H=> gdA (some v8) false (lnS v11 H) H λv12 H=> gl v8 false (au v2 0) H λv13 H=> gdA (some v8) false (ld v13 H) H λv14 H=> gl v8 false (bi .neq 3 v12 v14) H λv15 H=> bo (dG v8 (B true) v15) λv16=>
 aV v16
 (some ((I 1),H))
 (some ((I 0),H))
theorem akI:Rn2 60 SA:=λ_ _ _ _ _ h=>
 rnG an0 Tryz.func60 (by kernel_rfl) (by kernel_rfl) h
def akJ:Ann:=⟨[(4,[1,3,7,8])],[(4,rF 7 (some true::some false::some false::some true::rF 3 (some true::some true::rF 7 [])))],[]⟩
def LM:=lT Tryz.prog Tryz.f61 34 akJ 0
def akK(C:aC)(a0:AV)(H:ah):OA:=
 bnd (jc 31 a0 H) λv1 H=>
 bo (bd 145 []) λv4=> bnd (jc 145 v4 H) λv5 H=>
 fld v1 0 H λv7 H=>
 LM C [v1,v5,v7,(I 0)] H
theorem Zl(C:aC)(t1 t3 t7 t8:AV)(H:ah):LM C [t1,t3,t7,t8] H=
 bo (bi .lss 3 t8 t7) λv9=>
 aV v9
 (bo (aA t3) λv12=> fld v12 0 H λv14 H=> fld t1 5 H λv16 H=> bnd (unG H (C 110 [v16] H.guard)) λv17 H=> fld t1 6 H λv19 H=> bnd (unG H (C 111 [v19] H.guard)) λv20 H=> bo (bd 121 [(0,v17),(1,v20)]) λv21=> fld t1 5 H λv23 H=> bnd (unG H (C 110 [v23] H.guard)) λv24 H=> bnd (unG H (C 111 [(I 1)] H.guard)) λv25 H=> bo (bd 121 [(0,v24),(1,v25)]) λv26=> bo (bd 142 [(0,v21),(1,v26)]) λv27=> bnd (bs 143 1 [(0,v27)] H) λv28 H=> bnd (app 142 4 32 v14 v28 H) λv29 H=> bo (aA t3) λv30=> bo (au v30 0) λv31=> bnd (st 1 v31 v29 H) λ_ H=>
  bo (bi .add 3 t8 (I 1)) λv32=>
  LM C [t1,t3,t7,v32] H)
 (some (t3,H)):=
 lpE.trans (by kernel_rfl)
theorem ao8:Rn1 61 akK:=λ_ _ _ _ h=>
 rnG akJ Tryz.func61 (by kernel_rfl) (by kernel_rfl) h
def akL(C:aC)(H:ah):OA:=
 bo (bd 186 []) λv1=> bnd (jc 186 v1 H) λv2 H=>
 some (v2,H)
theorem ao9:Rn0 62 akL:=λ_ _ _ h=>
 rnG an0 Tryz.func62 (by kernel_rfl) (by kernel_rfl) h
def apa:Ann:=⟨[],[(1,rF 4 (some true::some false::some true::rF 4 (some true::rF 4 [])))],[]⟩
def akM(C:aC)(a0 a1 a2:AV)(H:ah):OA:=
 bnd (jc 31 a0 H) λv3 H=>
 fld v3 3 H λv8 H=> fld v3 4 H λv10 H=> bnd (unG H (C 112 [v8,v10] H.guard)) λv11 H=> bnd (unG H (C 113 [a2] H.guard)) λv13 H=> bnd (lda 8 v3 H) λv14 H=> bnd (lda 8 v3 H) λv16 H=> bnd (unG H (C 114 [v16,a1] H.guard)) λv18 H=> bo (bd 71 [(0,v18)]) λv19=> bo (bd 75 [(0,v11),(1,v13),(2,v14),(3,a1),(4,v19)]) λv20=> bnd (jc 75 v20 H) λv21 H=>
 some (v21,H)
theorem apb:Rn3 63 akM:=λ_ _ _ _ _ _ h=>
 rnG apa Tryz.func63 (by kernel_rfl) (by kernel_rfl) h
def akN(C:aC)(a0:AV)(H:ah):OA:=
 bo (aA a0) λv4=> fld v4 2 H λv6 H=>
 some (v6,H)
theorem apc:Rn1 64 akN:=λ_ _ _ _ h=>
 rnG an0 Tryz.func64 (by kernel_rfl) (by kernel_rfl) h
def ahD(C:aC)(a0 a1 a2:AV)(H:ah):OA:=
 bnd (jc 44 a0 H) λv3 H=>
 bnd (ld a1 H) λv4 H=> bnd (lda 4 v3 H) λv5 H=> bnd (C 15 [v4,v5] H) λv6 H=>
 aV v6
 (bnd (ld a2 H) λv7 H=> bo (bi .add 3 v7 (I 1)) λv8=> bnd (st 1 a2 v8 H) λ_ H=>
  some (.tup [],H))
 (some (.tup [],H))
theorem akO:Rn3 65 ahD:=λ_ _ _ _ _ _ h=>
 rnG an0 Tryz.func65 (by kernel_rfl) (by kernel_rfl) h
def apd:Ann:=⟨[],[(1,rF 12 [])],[]⟩
def akP(C:aC)(a0:AV)(H:ah):OA:=
 bo (aA a0) λv4=> fld v4 0 H λv6 H=> bnd (lnS v6 H) λv7 H=> bo (aA a0) λv9=> fld v9 1 H λv11 H=> bnd (lnS v11 H) λv12 H=> bo (bi .sub 3 v7 v12) λv13=>
 some (v13,H)
theorem ape:Rn1 66 akP:=λ_ _ _ _ h=>
 rnG apd Tryz.func66 (by kernel_rfl) (by kernel_rfl) h
def akQ:Ann:=⟨[(3,[0,1,2,7])],[],[]⟩
def SB:=lT Tryz.prog Tryz.f67 31 akQ 0
def Zm(C:aC)(t0 t1 t2 t7 t8:AV)(H:ah):OA:=
 bnd (C 22 [t0,t8] H) λv27 H=>
 bo (bi .add 3 t7 (I 1)) λv29=>
 SB C [t0,t1,t2,v29] H
def akR(C:aC)(a0 a1 a2:AV)(H:ah):OA:=
 SB C [a0,a1,a2,(I 0)] H
theorem ahE(C:aC)(t0 t1 t2 t7:AV)(H:ah):SB C [t0,t1,t2,t7] H=
 bo (bi .lss 3 t7 t1) λv11=> gl v11 true (some t0) H λv13 H=> gdA (some v11) true (C 115 [v13] H) H λv14 H=> gl v11 true (un .not v14) H λv15 H=> bo (dG v11 v15 (B false)) λv16=>
 aV v16
 (bnd (lnS t2 H) λv19 H=> bo (bi .lss 3 t7 v19) λv20=>
  aV v20
  (bnd (ix 1 t2 t7 H) λv23 H=> bnd (ld v23 H) λv24 H=>
  Zm C t0 t1 t2 t7 v24 H)
  (Zm C t0 t1 t2 t7 (I 0) H))
 (some (t7,H)):=
 lpE.trans (by kernel_rfl)
theorem apf:Rn3 67 akR:=λ_ _ _ _ _ _ h=>
 rnG akQ Tryz.func67 (by kernel_rfl) (by kernel_rfl) h
def akS:Ann:=⟨[(4,[2,5,8,9,10])],[],[]⟩
def LP:=lT Tryz.prog Tryz.f68 26 akS 0
def akT(C:aC)(a0 a1:AV)(H:ah):OA:=
 bnd (jc 31 a0 H) λv2 H=>
 bnd (lnS a1 H) λv9 H=>
 LP C [v2,(I 0),a1,v9,(I 0)] H
theorem Zn(C:aC)(t2 t5 t8 t9 t10:AV)(H:ah):LP C [t2,t5,t8,t9,t10] H=
 bo (bi .lss 3 t10 t9) λv11=>
 aV v11
 (bnd (ix 1 t8 t10 H) λv12 H=> bnd (ld v12 H) λv13 H=>
  bnd (lnS v13 H) λv16 H=> bo (bi .add 3 t5 v16) λv17=>
  bo (bi .add 3 t10 (I 1)) λv18=>
  LP C [t2,v17,t8,t9,v18] H)
 (bo (bi .add 3 t5 (I 1)) λv20=> bo (bi .mul 3 (I 40) v20) λv21=> fld t2 0 H λv23 H=> bo (bi .add 3 v23 (I 6)) λv24=> bo (bi .mul 3 v21 v24) λv25=>
  some (v25,H)):=
 lpE.trans (by kernel_rfl)
theorem apg:Rn2 68 akT:=λ_ _ _ _ _ h=>
 rnG akS Tryz.func68 (by kernel_rfl) (by kernel_rfl) h
def akU:Ann:=⟨[(3,[1,4,10,11,12])],[],[]⟩
def LQ:=lT Tryz.prog Tryz.f69 34 akU 0
def WJ(C:aC)(a0 a1:AV)(H:ah):OA:=
 bnd (alc 121 [zP,zP] H) λv4 H=>
 bnd (C 51 [a0] H) λv10 H=> bnd (lnS v10 H) λv11 H=>
 LQ C [a1,v4,v10,v11,(I 0)] H
theorem Zo(C:aC)(t1 t4 t10 t11 t12:AV)(H:ah):LQ C [t1,t4,t10,t11,t12] H=
 bo (bi .lss 3 t12 t11) λv13=>
 aV v13
 (bnd (ix 2 t10 t12 H) λv14 H=> bnd (lda 2 v14 H) λv15 H=> bnd (alc 121 [zP,zP] H) λv8 H=> bnd (st 2 v8 v15 H) λ_ H=>
  bo (bi .geq 3 t1 (I 0)) λv17=> gl v17 true (some t1) H λv19 H=> gl v17 true (au v8 0) H λv20 H=> gdA (some v17) true (ld v20 H) H λv21 H=> gdA (some v17) true (C 52 [v21] H) H λv22 H=> gl v17 true (bi .lss 3 v19 v22) H λv23 H=> bo (dG v17 v23 (B false)) λv24=>
  aV v24
  (bnd (lda 2 v8 H) λv25 H=> bnd (st 2 t4 v25 H) λ_ H=>
  bnd (lda 2 t4 H) λr0 _=> some (.tup [r0,t1,(B true)],H))
  (fld v8 0 H λv29 H=> bnd (C 52 [v29] H) λv30 H=> bo (bi .sub 3 t1 v30) λv31=>
  bo (bi .add 3 t12 (I 1)) λv32=>
  LQ C [v31,t4,t10,t11,v32] H))
 (bo (bd 121 []) λv33=> bnd (st 2 t4 v33 H) λ_ H=>
  bnd (lda 2 t4 H) λr0 _=> some (.tup [r0,(I 0),(B false)],H)):=
 lpE.trans (by kernel_rfl)
theorem aph:Rn2 69 WJ:=λ_ _ _ _ _ h=>
 rnG akU Tryz.func69 (by kernel_rfl) (by kernel_rfl) h
def acO(C:aC)(a0 a1:AV)(H:ah):OA:=
 bnd (alc 81 [zI,zI,zI,zI,zI,zI,zI,zB,zN] H) λv4 H=>
 bo (bi .lss 3 a1 (I 0)) λv7=> gl v7 false (some a1) H λv9 H=> gl v7 false (some a0) H λv10 H=> gl v7 false (aA v10) H λv11 H=> gl v7 false (au v11 0) H λv12 H=> gdA (some v7) false (ld v12 H) H λv13 H=> gdA (some v7) false (lnS v13 H) H λv14 H=> gl v7 false (bi .geq 3 v9 v14) H λv15 H=> bo (dG v7 (B true) v15) λv16=>
 aV v16
 (bo (bd 81 []) λv17=> bnd (st 9 v4 v17 H) λ_ H=>
  bnd (lda 9 v4 H) λr0 _=> some (.tup [r0,(B false)],H))
 (bo (aA a0) λv19=> fld v19 0 H λv21 H=> bnd (ix 9 v21 a1 H) λv23 H=> bnd (lda 9 v23 H) λv24 H=> bnd (C 116 [v24] H) λv25 H=> bnd (st 9 v4 v25 H) λ_ H=>
  bnd (lda 9 v4 H) λr0 _=> some (.tup [r0,(B true)],H))
theorem apj:Rn2 70 acO:=λ_ _ _ _ _ h=>
 rnG an0 Tryz.func70 (by kernel_rfl) (by kernel_rfl) h
def ahF(C:aC)(a0 a1:AV)(H:ah):OA:=
 bo (bi .geq 3 a1 (I 0)) λv6=> gl v6 true (some a1) H λv8 H=> gl v6 true (some a0) H λv9 H=> gl v6 true (aA v9) H λv10 H=> gl v6 true (au v10 0) H λv11 H=> gdA (some v6) true (ld v11 H) H λv12 H=> gdA (some v6) true (lnS v12 H) H λv13 H=> gl v6 true (bi .lss 3 v8 v13) H λv14 H=> bo (dG v6 v14 (B false)) λv15=>
 some (v15,H)
theorem apk:Rn2 71 ahF:=λ_ _ _ _ _ h=>
 rnG an0 Tryz.func71 (by kernel_rfl) (by kernel_rfl) h
def akV(C:aC)(a0:AV)(H:ah):OA:=
 bo (aA a0) λv4=> fld v4 0 H λv6 H=> bnd (lnS v6 H) λv7 H=>
 some (v7,H)
theorem apl:Rn1 72 akV:=λ_ _ _ _ h=>
 rnG an0 Tryz.func72 (by kernel_rfl) (by kernel_rfl) h
def akW(C:aC)(a0 a1:AV)(H:ah):OA:=
 bnd (jc 3 a1 H) λv3 H=>
 bo (aA a0) λv6=> fld v6 0 H λv8 H=> bnd (C 125 [v8,(.fn (.func 126) [] [v3])] H) λv10 H=>
 some (v10,H)
theorem apm:Rn2 82 akW:=λ_ _ _ _ _ h=>
 rnG an0 Tryz.func82 (by kernel_rfl) (by kernel_rfl) h
def akX(C:aC)(a0:AV)(H:ah):OA:=
 bnd (jc 100 a0 H) λv1 H=> bnd (alc 100 [zI,zI,zI,zI,zB,zN] H) λv2 H=>
 fld v1 5 H λv4 H=> bnd (C 36 [v4] H) λv5 H=> bo (au v1 5) λv6=> bnd (st 1 v6 v5 H) λ_ H=>
 bnd (lda 6 v1 H) λv7 H=> bnd (st 6 v2 v7 H) λ_ H=>
 bnd (lda 6 v2 H) λr0 _=> some (r0,H)
theorem apn:Rn1 83 akX:=λ_ _ _ _ h=>
 rnG an0 Tryz.func83 (by kernel_rfl) (by kernel_rfl) h
def ahG(C:aC)(a0 a1:AV)(H:ah):OA:=
 bo (bi .lss 3 a0 (I 0)) λv6=>
 aV v6
 (some ((I (-1)),H))
 (bo (bi .rem 3 a0 a1) λv9=>
  some (v9,H))
theorem apo:Rn2 84 ahG:=λ_ _ _ _ _ h=>
 rnG an0 Tryz.func84 (by kernel_rfl) (by kernel_rfl) h
def ahH(C:aC)(a0 a1:AV)(H:ah):OA:=
 bo (aA a0) λv9=> fld v9 0 H λv11 H=> bnd (lk .i64 (.int .i64 0) v11 a1 true H) λv13 H=> bo (aJ v13 0) λv14=> bo (aJ v13 1) λv15=>
 aV v15
 (some (v14,H))
 (some ((I (-1)),H))
theorem apq:Rn2 85 ahH:=λ_ _ _ _ _ h=>
 rnG an0 Tryz.func85 (by kernel_rfl) (by kernel_rfl) h
def ahI(C:aC)(a0 a1 a2:AV)(H:ah):OA:=
 bnd (jc 81 a0 H) λv3 H=> bnd (alc 81 [zI,zI,zI,zI,zI,zI,zI,zB,zN] H) λv6 H=>
 bnd (lda 9 v3 H) λv11 H=> bnd (C 128 [v11] H) λv12 H=> bo (aJ v12 0) λv13=> bo (aJ v12 1) λv14=>
 bo (bi .neq 57 v14 (I 0)) λv16=>
 aV v16
 (bo (bd 81 []) λv17=> bnd (st 9 v6 v17 H) λ_ H=>
  bnd (lda 9 v6 H) λr0 _=> some (.tup [r0,(I 2)],H))
 (bnd (C 130 [v13,a1,a2] H) λv21 H=> bnd (C 129 [v21] H) λv22 H=> bo (aJ v22 0) λv23=> bo (aJ v22 1) λv24=> bnd (st 9 v6 v23 H) λ_ H=>
  bnd (lda 9 v6 H) λr0 _=> some (.tup [r0,v24],H))
theorem akY:Rn3 90 ahI:=λ_ _ _ _ _ _ h=>
 rnG an0 Tryz.func90 (by kernel_rfl) (by kernel_rfl) h
def ahJ(C:aC)(a0 a1:AV)(H:ah):OA:=
 bnd (jc 142 a0 H) λv2 H=> bnd (alc 121 [zP,zP] H) λv4 H=>
 aV a1
 (bo (au v2 0) λv6=> bnd (lda 2 v6 H) λv7 H=> bnd (st 2 v4 v7 H) λ_ H=>
  bnd (lda 2 v4 H) λr0 _=> some (r0,H))
 (bo (au v2 2) λv8=> bnd (lda 2 v8 H) λv9 H=> bnd (st 2 v4 v9 H) λ_ H=>
  bnd (lda 2 v4 H) λr0 _=> some (r0,H))
theorem apr:Rn2 91 ahJ:=λ_ _ _ _ _ h=>
 rnG an0 Tryz.func91 (by kernel_rfl) (by kernel_rfl) h
def ahK(C:aC)(a0:AV)(H:ah):OA:=
 bo (bi .geq 3 a0 (I 1)) λv4=> gl v4 true (some a0) H λv6 H=> gl v4 true (bi .leq 3 v6 (I 6)) H λv7 H=> bo (dG v4 v7 (B false)) λv8=>
 some (v8,H)
theorem aps:Rn1 92 ahK:=λ_ _ _ _ h=>
 rnG an0 Tryz.func92 (by kernel_rfl) (by kernel_rfl) h
def apt:Ann:=⟨[],[(3,rF 6 (some true::rF 5 []))],[]⟩
def ahL(C:aC)(a0 a1:AV)(H:ah):OA:=
 bnd (jc 81 a1 H) λv3 H=>
 bnd (C 131 [a0] H) λv6 H=> bo (bi .eql 3 v6 (I 0)) λv7=>
 aV v7
 (some ((I 5),H))
 (bo (aA a0) λv10=> fld v10 0 H λv12 H=> bnd (lda 9 v3 H) λv13 H=> bnd (unG H (C 132 [v13] H.guard)) λv14 H=> bnd (bs 175 1 [(0,v14)] H) λv15 H=> bnd (app 81 9 88 v12 v15 H) λv16 H=> bo (aA a0) λv17=> bo (au v17 0) λv18=> bnd (st 1 v18 v16 H) λ_ H=>
  some ((I 0),H))
theorem akZ:Rn2 93 ahL:=λ_ _ _ _ _ h=>
 rnG apt Tryz.func93 (by kernel_rfl) (by kernel_rfl) h
def SC(C:aC)(t4 t6 t7:AV)(H:ah):OA:=
 bnd (lda 9 t6 H) λv26 H=> bnd (st 9 t4 v26 H) λ_ H=>
 bnd (lda 9 t4 H) λr0 _=> some (.tup [r0,t7],H)
def ak0(C:aC)(a0 a1:AV)(H:ah):OA:=
 bnd (alc 81 [zI,zI,zI,zI,zI,zI,zI,zB,zN] H) λv4 H=>
 bnd (C 70 [a0,a1] H) λv11 H=> bo (aJ v11 0) λv12=> bo (aJ v11 1) λv13=> bnd (alc 81 [zI,zI,zI,zI,zI,zI,zI,zB,zN] H) λv6 H=> bnd (st 9 v6 v12 H) λ_ H=>
 aV v13
 (bo (aA a0) λv17=> fld v17 0 H λv19 H=> bo (bi .add 3 a1 (I 1)) λv22=> bnd (C 133 [v19,a1,v22] H) λv23 H=> bo (aA a0) λv24=> bo (au v24 0) λv25=> bnd (st 1 v25 v23 H) λ_ H=>
  SC C v4 v6 v13 H)
 (SC C v4 v6 v13 H)
theorem apu:Rn2 94 ak0:=λ_ _ _ _ _ h=>
 rnG an0 Tryz.func94 (by kernel_rfl) (by kernel_rfl) h
def GI(C:aC)(t0 t1:AV)(H:ah):OA:=
 bnd (C 139 [t0,t1] H) λv81 H=>
 some ((B true),H)
def LU(C:aC)(a0 a1 a2:AV)(H:ah):OA:=
 bo (aA a0) λv17=> fld v17 10 H λv19 H=> bnd (C 134 [a1,v19] H) λv20 H=> bo (aJ v20 0) λv21=> bo (aJ v20 1) λv22=> bnd (alc 81 [zI,zI,zI,zI,zI,zI,zI,zB,zN] H) λv7 H=> bnd (st 9 v7 v21 H) λ_ H=>
 bo (un .not v22) λv24=>
 aV v24
 (some ((B false),H))
 (bnd (lda 9 v7 H) λv27 H=> bnd (C 135 [a0,v27] H) λv28 H=> bo (aJ v28 0) λv29=> bo (aJ v28 1) λv30=> bnd (alc 73 [zI,zI,zI,zI,zI,zI,zN,zI,zI] H) λv9 H=> bnd (st 9 v9 v29 H) λ_ H=>
  bo (un .not v30) λv32=>
  aV v32
  (some ((B true),H))
  (bnd (lda 9 v9 H) λv34 H=> bo (aA a0) λv35=> bo (au v35 12) λv36=> bnd (st 9 v36 v34 H) λ_ H=>
  bo (aA a0) λv39=> fld v39 1 H λv41 H=> bnd (C 136 [v41] H) λv42 H=> bo (aJ v42 0) λv43=> bo (aJ v42 1) λv44=> bo (aJ v42 2) λv45=> bnd (alc 61 [zI,zI,zI] H) λv11 H=> bnd (st 3 v11 v43 H) λ_ H=>
  fld v9 3 H λv48 H=> bo (bi .eql 3 v48 (I 0)) λv49=> gl v49 true (au v9 0) H λv51 H=> gdA (some v49) true (ld v51 H) H λv52 H=> gl v49 true (bi .eql 3 v52 (I 3)) H λv53 H=> bo (dG v49 v53 (B false)) λv54=> gl v54 true (au v11 0) H λv56 H=> gdA (some v54) true (ld v56 H) H λv57 H=> gl v54 true (bi .eql 3 v57 (I 4)) H λv58 H=> bo (dG v54 v58 (B false)) λv59=>
  aV v59
  (bnd (C 137 [a0,a2,(I 0)] H) λv62 H=>
   some ((B true),H))
  (fld v9 3 H λv65 H=> bo (bi .eql 3 v65 (I 0)) λv66=>
   aV v66
   (some ((B true),H))
   (fld v9 3 H λv69 H=> bo (bi .eql 3 v69 (I 6)) λv70=> gl v70 true (au v9 0) H λv72 H=> gdA (some v70) true (ld v72 H) H λv73 H=> gl v70 true (bi .neq 3 v73 (I 3)) H λv74 H=> bo (dG v70 v74 (B false)) λv75=>
   aV v75
   (bnd (C 138 [a0,a2] H) λv78 H=>
    GI C a0 a1 H)
   (GI C a0 a1 H)))))
theorem WL:Rn3 95 LU:=λ_ _ _ _ _ _ h=>
 rnG an0 Tryz.func95 (by kernel_rfl) (by kernel_rfl) h
def acP(C:aC)(a0 a1:AV)(H:ah):OA:=
 bo (aA a0) λv8=> bo (au v8 11) λv9=> fld v9 0 H λv11 H=> bnd (C 140 [v11] H) λv12 H=> bo (un .not v12) λv13=> gl v13 false (some a1) H λv15 H=> gl v13 false (some a0) H λv16 H=> gl v13 false (aA v16) H λv17 H=> gl v13 false (au v17 10) H λv18 H=> gdA (some v13) false (ld v18 H) H λv19 H=> gdA (some v13) false (C 141 [v15,v19,(B false)] H) H λv20 H=> gl v13 false (bi .eql 3 v20 (I 0)) H λv21 H=> bo (dG v13 (B true) v21) λv22=>
 aV v22
 (some ((B false),H))
 (bo (aA a0) λv25=> bo (au v25 11) λv26=> fld v26 0 H λv28 H=> bnd (C 142 [v28] H) λv29 H=> bo (aJ v29 0) λv30=> bo (aJ v29 1) λv31=> bnd (alc 81 [zI,zI,zI,zI,zI,zI,zI,zB,zN] H) λv5 H=> bnd (st 9 v5 v30 H) λ_ H=>
  bnd (lda 9 v5 H) λv33 H=> bnd (C 143 [a1,v33] H) λv34 H=>
  some ((B true),H))
theorem ahM:Rn2 96 acP:=λ_ _ _ _ _ h=>
 rnG an0 Tryz.func96 (by kernel_rfl) (by kernel_rfl) h
def LV(C:aC)(H:ah):OA:=
 some ((B true),H)
def Zp(C:aC)(a0 a1:AV)(H:ah):OA:=
 bo (aA a0) λv11=> fld v11 10 H λv13 H=> bnd (C 141 [a1,v13,(B false)] H) λv14 H=> bo (bi .eql 3 v14 (I 0)) λv15=>
 aV v15
 (some ((B false),H))
 (bo (aA a0) λv19=> fld v19 10 H λv21 H=> bnd (C 144 [a1,v21] H) λv22 H=> bo (aJ v22 0) λv23=> bo (aJ v22 1) λv24=> bnd (alc 81 [zI,zI,zI,zI,zI,zI,zI,zB,zN] H) λv5 H=> bnd (st 9 v5 v23 H) λ_ H=>
  bo (un .not v24) λv26=>
  aV v26
  (some ((B false),H))
  (bnd (lda 9 v5 H) λv29 H=> bnd (C 145 [a0,v29] H) λv30 H=> bo (aJ v30 0) λv31=> bo (aJ v30 1) λv32=> bnd (alc 81 [zI,zI,zI,zI,zI,zI,zI,zB,zN] H) λv7 H=> bnd (st 9 v7 v31 H) λ_ H=>
  aV v32
  (bnd (lda 9 v7 H) λv35 H=> bnd (C 143 [a1,v35] H) λv36 H=>
   LV C H)
  (LV C H)))
theorem acQ:Rn2 97 Zp:=λ_ _ _ _ _ h=>
 rnG an0 Tryz.func97 (by kernel_rfl) (by kernel_rfl) h
def apv:Ann:=⟨[],[(7,rF 12 [])],[]⟩
def lU(C:aC)(H:ah):OA:=
 some ((B true),H)
def oZ(C:aC)(t0 t1 t2 t7:AV)(H:ah):OA:=
 bo (aA t0) λv55=> bo (au v55 2) λv56=> bnd (lda 8 v56 H) λv57 H=> fld t7 1 H λv59 H=> bnd (C 148 [v57,v59] H) λv60 H=> bo (aJ v60 0) λv61=> bo (aJ v60 1) λv62=>
 bo (aA t0) λv65=> fld v65 0 H λv67 H=> bnd (C 41 [v67,v61] H) λv69 H=> bo (aJ v69 0) λv70=> bo (aJ v69 1) λv71=> bnd (alc 100 [zI,zI,zI,zI,zB,zN] H) λv12 H=> bnd (st 6 v12 v70 H) λ_ H=>
 fld t7 0 H λv78 H=> bo (bi .eql 3 v78 (I 4)) λv79=> gl v79 true (some v71) H λv81 H=> gl v79 true (un .not v81) H λv82 H=> bo (dG v79 v82 (B false)) λv83=>
 aV v83
 (bnd (C 137 [t0,t2,(I 0)] H) λv86 H=>
  lU C H)
 (fld t7 0 H λv89 H=> bo (bi .eql 3 v89 (I 4)) λv90=>
  aV v90
  (bnd (C 149 [t0,t1,(I 3),v61] H) λv94 H=>
  lU C H)
  (gl v71 true (au t7 0) H λv98 H=> gdA (some v71) true (ld v98 H) H λv99 H=> gl v71 true (bi .eql 3 v99 (I 1)) H λaqI H=> gl v71 true (some aqI) H λak1 H=> gl ak1 false (au v12 4) H λaqJ H=> gdA (some ak1) false (ld aqJ H) H λapw H=> gl v71 true (dG ak1 (B true) apw) H λaqK H=> bo (dG v71 aqK (B false)) λv105=>
  aV v105
  (bo (aA t0) λv107=> fld v107 0 H λv109 H=> bnd (C 150 [v109,v61] H) λarx H=>
   bnd (C 138 [t0,t2] H) λarz H=>
   lU C H)
  (bo (aA t0) λv117=> fld v117 0 H λaqL H=> bnd (C 151 [aqL,v61] H) λaqM H=>
   aV aqM
   (bo (aA t0) λv124=> fld v124 0 H λaqN H=> bnd (C 152 [aqN,v61] H) λaqk H=> bo (aJ aqk 0) λaqO=> bo (aJ aqk 1) λv130=>
   bnd (C 149 [t0,t1,(I 3),aqO] H) λarA H=>
   lU C H)
   (fld t7 0 H λaqP H=> bo (bi .eql 3 aqP (I 1)) λv138=>
   aV v138
   (bnd (C 149 [t0,t1,(I 1),v61] H) λarB H=>
    lU C H)
   (bnd (C 149 [t0,t1,(I 2),v61] H) λv75 H=>
    lU C H)))))
def Zq(C:aC)(a0 a1 a2:AV)(H:ah):OA:=
 bo (aA a0) λv18=> fld v18 1 H λv20 H=> bnd (C 136 [v20] H) λv21 H=> bo (aJ v21 0) λv22=> bo (aJ v21 1) λv23=> bo (aJ v21 2) λv24=> bnd (alc 61 [zI,zI,zI] H) λv7 H=> bnd (st 3 v7 v22 H) λ_ H=>
 bo (un .not v24) λv26=> gl v26 false (some a0) H λv28 H=> gl v26 false (aA v28) H λv29 H=> gl v26 false (au v29 12) H λv30 H=> gl v26 false (au v30 3) H λv31 H=> gdA (some v26) false (ld v31 H) H λv32 H=> gl v26 false (bi .neq 3 v32 (I 0)) H λv33 H=> bo (dG v26 (B true) v33) λv34=>
 aV v34
 (some ((B false),H))
 (bo (aA a0) λv36=> fld v36 1 H λv38 H=> bnd (C 64 [v38] H) λv39 H=> bo (un .not v39) λv40=>
  aV v40
  (bo (aA a0) λv42=> fld v42 1 H λv44 H=> bnd (C 146 [v44] H) λv45 H=>
  bo (aA a0) λv48=> fld v48 10 H λv50 H=> bnd (C 147 [a2,v50,v23] H) λv52 H=>
  oZ C a0 a1 a2 v7 H)
  (oZ C a0 a1 a2 v7 H))
theorem acR:Rn3 98 Zq:=λ_ _ _ _ _ _ h=>
 rnG apv Tryz.func98 (by kernel_rfl) (by kernel_rfl) h
def Zr(C:aC)(a0 a1:AV)(H:ah):OA:=
 bo (bi .geq 3 a0 (I 1)) λv6=> gl v6 true (some a0) H λv8 H=> gl v6 true (some a1) H λv9 H=> gl v6 true (bi .leq 3 v8 v9) H λv10 H=> bo (dG v6 v10 (B false)) λv11=>
 some (v11,H)
theorem ak2:Rn2 104 Zr:=λ_ _ _ _ _ h=>
 rnG an0 Tryz.func104 (by kernel_rfl) (by kernel_rfl) h
def Zt(C:aC)(a0 a1:AV)(H:ah):OA:=
 bnd (C 157 [a0,a1] H) λv7 H=> bo (bi .geq 3 v7 (I 0)) λv8=>
 some (v8,H)
theorem ae7:Rn2 105 Zt:=λ_ _ _ _ _ h=>
 rnG an0 Tryz.func105 (by kernel_rfl) (by kernel_rfl) h
def Py(C:aC)(a0 a1:AV)(H:ah):OA:=
 bnd (lnS a0 H) λv5 H=> bo (bi .gtr 3 v5 (I 24)) λv6=> gl v6 false (some a0) H λv8 H=> gl v6 false (some (.fn (.func 108) [] [a1])) H λv9 H=> gdA (some v6) false (C 107 [v8,v9] H) H λv10 H=> bo (dG v6 (B true) v10) λv11=>
 some (v11,H)
theorem ae8:Rn2 106 Py:=λ_ _ _ _ _ h=>
 rnG an0 Tryz.func106 (by kernel_rfl) (by kernel_rfl) h
def Zu(C:aC)(a0 a1:AV)(H:ah):OA:=
 bnd (C 158 [a0,a1] H) λv7 H=> bo (bi .geq 3 v7 (I 0)) λv8=>
 some (v8,H)
theorem ae9:Rn2 107 Zu:=λ_ _ _ _ _ h=>
 rnG an0 Tryz.func107 (by kernel_rfl) (by kernel_rfl) h
def Zv(C:aC)(a0 a1:AV)(H:ah):OA:=
 bnd (jc 61 a0 H) λv2 H=>
 bnd (lda 8 a1 H) λv4 H=> bnd (lda 3 v2 H) λv5 H=> bnd (C 109 [v4,v5] H) λv6 H=> bo (un .not v6) λv7=>
 some (v7,H)
theorem afa:Rn2 108 Zv:=λ_ _ _ _ _ h=>
 rnG an0 Tryz.func108 (by kernel_rfl) (by kernel_rfl) h
def qA(C:aC)(a0 a1:AV)(H:ah):OA:=
 bnd (jc 31 a0 H) λv2 H=> bnd (jc 61 a1 H) λv3 H=>
 bnd (lda 8 v2 H) λv8 H=> fld v3 1 H λv10 H=> bnd (C 148 [v8,v10] H) λv11 H=> bo (aJ v11 0) λv12=> bo (aJ v11 1) λv13=>
 fld v3 0 H λv15 H=> bo (bi .geq 3 v15 (I 1)) λv16=> gl v16 true (au v3 0) H λv18 H=> gdA (some v16) true (ld v18 H) H λv19 H=> gl v16 true (bi .leq 3 v19 (I 4)) H λv20 H=> bo (dG v16 v20 (B false)) λv21=> gl v21 true (some v12) H λv23 H=> gl v21 true (bi .neq 3 v23 (I (-1))) H λv24 H=> bo (dG v21 v24 (B false)) λv25=> gl v25 true (au v3 2) H λv27 H=> gdA (some v25) true (ld v27 H) H λv28 H=> gl v25 true (bi .eql 3 v28 (I 0)) H λv29 H=> gl v25 true (some v29) H λv30 H=> gl v30 false (au v3 0) H λv31 H=> gdA (some v30) false (ld v31 H) H λv32 H=> gl v30 false (bi .eql 3 v32 (I 2)) H λv33 H=> gl v25 true (dG v30 (B true) v33) H λv34 H=> gl v25 true (some v34) H λv35 H=> gl v35 false (au v3 0) H λv36 H=> gdA (some v35) false (ld v36 H) H λv37 H=> gl v35 false (bi .eql 3 v37 (I 3)) H λv38 H=> gl v25 true (dG v35 (B true) v38) H λv39 H=> bo (dG v25 v39 (B false)) λv40=>
 some (v40,H)
theorem afb:Rn2 109 qA:=λ_ _ _ _ _ h=>
 rnG an0 Tryz.func109 (by kernel_rfl) (by kernel_rfl) h
def afc(C:aC)(a0:AV)(H:ah):OA:=
 bnd (fQ (lK Tryz.prog true #[3,3] 3 [(I 0),a0]) H) λv4 H=> bo (bd 177 [(1,v4)]) λv5=> bnd (jc 177 v5 H) λv6 H=>
 some (v6,H)
theorem ak3:Rn1 110 afc:=λ_ _ _ _ h=>
 rnG an0 Tryz.func110 (by kernel_rfl) (by kernel_rfl) h
def afd(C:aC)(a0:AV)(H:ah):OA:=
 bnd (fQ (lK Tryz.prog true #[3,3] 3 [(I 0),a0]) H) λv4 H=> bo (bd 200 [(1,v4)]) λv5=> bnd (jc 200 v5 H) λv6 H=>
 some (v6,H)
theorem ak4:Rn1 111 afd:=λ_ _ _ _ h=>
 rnG an0 Tryz.func111 (by kernel_rfl) (by kernel_rfl) h
def afe(C:aC)(a0 a1:AV)(H:ah):OA:=
 bnd (fQ (lK Tryz.prog true #[3,3] 3 [(I 1),a0]) H) λv6 H=> bnd (fQ (lK Tryz.prog true #[3,3] 3 [(I 1),a1]) H) λv8 H=> bo (bd 147 [(1,v6),(2,v8)]) λv9=> bnd (jc 147 v9 H) λv10 H=>
 some (v10,H)
theorem ak5:Rn2 112 afe:=λ_ _ _ _ _ h=>
 rnG an0 Tryz.func112 (by kernel_rfl) (by kernel_rfl) h
def aff(C:aC)(a0:AV)(H:ah):OA:=
 bnd (C 159 [a0] H) λv4 H=> bo (bd 135 [(0,v4)]) λv5=> bnd (jc 135 v5 H) λv6 H=>
 some (v6,H)
theorem ak6:Rn1 113 aff:=λ_ _ _ _ h=>
 rnG an0 Tryz.func113 (by kernel_rfl) (by kernel_rfl) h
def ak7:Ann:=⟨[],[(1,some false::some false::some true::some true::rF 5 [])],[]⟩
def afg(C:aC)(a0 a1:AV)(H:ah):OA:=
 bnd (jc 31 a0 H) λv2 H=>
 bnd (lda 8 v2 H) λv5 H=> bnd (unG H (C 160 [v5,a1] H.guard)) λv7 H=> bnd (unG H (C 161 [] H.guard)) λv8 H=> bnd (lda 8 v2 H) λv9 H=> bo (bd 166 [(0,v7),(1,v8),(2,v9),(3,a1)]) λv11=> bnd (jc 166 v11 H) λv12 H=>
 some (v12,H)
theorem ak8:Rn2 114 afg:=λ_ _ _ _ _ h=>
 rnG ak7 Tryz.func114 (by kernel_rfl) (by kernel_rfl) h
def Zw(C:aC)(a0:AV)(H:ah):OA:=
 bnd (C 21 [a0] H) λv4 H=> gl v4 true (some a0) H λv6 H=> gdA (some v4) true (C 23 [v6] H) H λv7 H=> gl v4 true (bi .eql 3 v7 (I 0)) H λv8 H=> bo (dG v4 v8 (B false)) λv9=>
 some (v9,H)
theorem ak9:Rn1 115 Zw:=λ_ _ _ _ h=>
 rnG an0 Tryz.func115 (by kernel_rfl) (by kernel_rfl) h
def afh(C:aC)(a0:AV)(H:ah):OA:=
 bnd (jc 81 a0 H) λv1 H=> bnd (alc 81 [zI,zI,zI,zI,zI,zI,zI,zB,zN] H) λv2 H=>
 fld v1 8 H λv4 H=> bnd (C 36 [v4] H) λv5 H=> bo (au v1 8) λv6=> bnd (st 1 v6 v5 H) λ_ H=>
 bnd (lda 9 v1 H) λv7 H=> bnd (st 9 v2 v7 H) λ_ H=>
 bnd (lda 9 v2 H) λr0 _=> some (r0,H)
theorem ala:Rn1 116 afh:=λ_ _ _ _ h=>
 rnG an0 Tryz.func116 (by kernel_rfl) (by kernel_rfl) h
def Zx(C:aC)(a0 a1:AV)(H:ah):OA:=
 bnd (alc 95 [zI,zI,zN] H) λv4 H=>
 bo (aA a0) λv10=> fld v10 8 H λv12 H=> bnd (lk .i64 (.agg #[.int .i64 0,.int .i64 0,.slice none 0 0]) v12 a1 true H) λv14 H=> bo (aJ v14 0) λv15=> bo (aJ v14 1) λv16=> bnd (alc 95 [zI,zI,zN] H) λv6 H=> bnd (st 3 v6 v15 H) λ_ H=>
 fld v6 2 H λv18 H=> bnd (C 36 [v18] H) λv19 H=> bo (au v6 2) λv20=> bnd (st 1 v20 v19 H) λ_ H=>
 bnd (lda 3 v6 H) λv21 H=> bnd (st 3 v4 v21 H) λ_ H=>
 bnd (lda 3 v4 H) λr0 _=> some (.tup [r0,v16],H)
theorem alb:Rn2 124 Zx:=λ_ _ _ _ _ h=>
 rnG an0 Tryz.func124 (by kernel_rfl) (by kernel_rfl) h
def afi:Ann:=⟨[(3,[0,1,7,8])],[],[]⟩
def Em:=lT Tryz.prog Tryz.f125 19 afi 0
def afj(C:aC)(a0 a1:AV)(H:ah):OA:=
 bnd (lnS a0 H) λv7 H=>
 Em C [a0,a1,v7,(I 0)] H
theorem UR(C:aC)(t0 t1 t7 t8:AV)(H:ah):Em C [t0,t1,t7,t8] H=
 bo (bi .lss 3 t8 t7) λv9=>
 aV v9
 (bnd (ix 6 t0 t8 H) λv14 H=> bnd (lda 6 v14 H) λv15 H=> bnd (rP Tryz.prog C t1 [v15] H) λv16 H=>
  aV v16
  (some (t8,H))
  (bo (bi .add 3 t8 (I 1)) λv18=>
  Em C [t0,t1,t7,v18] H))
 (some ((I (-1)),H)):=
 lpE.trans (by kernel_rfl)
theorem ald:Rn2 125 afj:=λ_ _ _ _ _ h=>
 rnG afi Tryz.func125 (by kernel_rfl) (by kernel_rfl) h
def afk(C:aC)(a0 a1:AV)(H:ah):OA:=
 bnd (jc 100 a0 H) λv2 H=>
 fld v2 2 H λv5 H=> bnd (ld a1 H) λv6 H=> bo (bi .eql 3 v5 v6) λv7=>
 some (v7,H)
theorem ale:Rn2 126 afk:=λ_ _ _ _ _ h=>
 rnG an0 Tryz.func126 (by kernel_rfl) (by kernel_rfl) h
def afl:Ann:=⟨[(7,[5,48,49,50])],[(4,rF 28 (some true::rF 6 []))],[]⟩
def En:=lT Tryz.prog Tryz.f128 61 afl 0
def afm(C:aC)(a0:AV)(H:ah):OA:=
 bnd (jc 81 a0 H) λv1 H=>
 bnd (lda 9 v1 H) λv8 H=> bnd (C 174 [v8] H) λv9 H=>
 bo (bi .neq 57 v9 (I 0)) λv11=>
 aV v11
 (some (.tup [(.s (Go.Value.slice none 0 0)),v9],H))
 (fld v1 0 H λv14 H=> bnd (cv 3 5 v14 H) λv15 H=> fld v1 1 H λv17 H=> bnd (cv 3 5 v17 H) λv18 H=> fld v1 2 H λv20 H=> bnd (cv 3 5 v20 H) λv21 H=> fld v1 3 H λv23 H=> bo (bi .shr 3 v23 (.s (Go.Value.int Go.IntKind.u64 8))) λv24=> bnd (cv 3 5 v24 H) λv25 H=> fld v1 3 H λv27 H=> bnd (cv 3 5 v27 H) λv28 H=> fld v1 4 H λv30 H=> bnd (cv 3 5 v30 H) λv31 H=> fld v1 5 H λv33 H=> bo (bi .add 3 v33 (I 1)) λv34=> bnd (cv 3 5 v34 H) λv35 H=> fld v1 6 H λv37 H=> bnd (cv 3 5 v37 H) λv38 H=> fld v1 7 H λv40 H=> bnd (unG H (C 175 [v40] H.guard)) λv41 H=> fld v1 8 H λv43 H=> bnd (lnS v43 H) λv44 H=> bnd (cv 3 5 v44 H) λv45 H=> bnd (bs 220 10 [(0,v15),(1,v18),(2,v21),(3,v25),(4,v28),(5,v31),(6,v35),(7,v38),(8,v41),(9,v45)] H) λv46 H=>
  fld v1 8 H λv48 H=> bnd (lnS v48 H) λv49 H=>
  En C [v46,v48,v49,(I 0)] H)
theorem UU(C:aC)(t5 t48 t49 t50:AV)(H:ah):En C [t5,t48,t49,t50] H=
 bo (bi .lss 3 t50 t49) λv51=>
 aV v51
 (bnd (ix 1 t48 t50 H) λv52 H=> bnd (ld v52 H) λv53 H=>
  bnd (C 176 [v53] H) λv56 H=> bnd (app 5 1 1 t5 v56 H) λv57 H=>
  bo (bi .add 3 t50 (I 1)) λv58=>
  En C [v57,t48,t49,v58] H)
 (bnd (C 177 [t5] H) λv60 H=>
  some (.tup [v60,(I 0)],H)):=
 lpE.trans (by kernel_rfl)
theorem alf:Rn1 128 afm:=λ_ _ _ _ h=>
 rnG afl Tryz.func128 (by kernel_rfl) (by kernel_rfl) h
def alg:Ann:=⟨[],[(4,rF 40 (none::some false::[]))],[]⟩
def Zy:Code:=Tryz.f129.body.getD .skip
def afn(C:aC)(a0:AV)(H:ah):OA:=
 bnd (alc 81 [zI,zI,zI,zI,zI,zI,zI,zB,zN] H) λv2 H=>
 bnd (C 178 [a0] H) λv12 H=> bo (aJ v12 0) λv13=> bo (aJ v12 1) λv14=>
 bo (un .not v14) λv16=> gl v16 false (some v13) H λv18 H=> gdA (some v16) false (lnS v18 H) H λv19 H=> gl v16 false (bi .lss 3 v19 (I 10)) H λv20 H=> bo (dG v16 (B true) v20) λv21=> gl v21 false (some v13) H λv23 H=> gdA (some v21) false (lnS v23 H) H λv24 H=> gl v21 false (some v13) H λv25 H=> gdA (some v21) false (ix 1 v25 (I 9) H) H λv26 H=> gdA (some v21) false (ld v26 H) H λv27 H=> gdA (some v21) false (cv 5 3 v27 H) H λv28 H=> gl v21 false (bi .mul 3 (I 8) v28) H λv29 H=> gl v21 false (bi .add 3 (I 10) v29) H λv30 H=> gl v21 false (bi .neq 3 v24 v30) H λv31 H=> bo (dG v21 (B true) v31) λv32=>
 aV v32
 (bo (bd 81 []) λv33=> bnd (st 9 v2 v33 H) λ_ H=>
  bnd (lda 9 v2 H) λr0 _=> some (.tup [r0,(I 2)],H))
 (bnd (alc 81 [zI,zI,zI,zI,zI,zI,zI,zB,zN] H) λv6 H=> bnd (ix 1 v13 (I 0) H) λv35 H=> bnd (ld v35 H) λv36 H=> bnd (cv 5 3 v36 H) λv37 H=> bnd (ix 1 v13 (I 1) H) λv39 H=> bnd (ld v39 H) λv40 H=> bnd (cv 5 3 v40 H) λv41 H=> bnd (ix 1 v13 (I 2) H) λv43 H=> bnd (ld v43 H) λv44 H=> bnd (cv 5 3 v44 H) λv45 H=> bnd (ix 1 v13 (I 3) H) λv47 H=> bnd (ld v47 H) λv48 H=> bnd (cv 5 3 v48 H) λv49 H=> bo (bi .shl 3 v49 (.s (Go.Value.int Go.IntKind.u64 8))) λv50=> bnd (ix 1 v13 (I 4) H) λv52 H=> bnd (ld v52 H) λv53 H=> bnd (cv 5 3 v53 H) λv54 H=> bo (bi .or 3 v50 v54) λv55=> bnd (ix 1 v13 (I 5) H) λv57 H=> bnd (ld v57 H) λv58 H=> bnd (cv 5 3 v58 H) λv59 H=> bnd (ix 1 v13 (I 6) H) λv61 H=> bnd (ld v61 H) λv62 H=> bnd (cv 5 3 v62 H) λv63 H=> bo (bi .sub 3 v63 (I 1)) λv64=> bnd (ix 1 v13 (I 7) H) λv66 H=> bnd (ld v66 H) λv67 H=> bnd (cv 5 3 v67 H) λv68 H=> bnd (ix 1 v13 (I 8) H) λv70 H=> bnd (ld v70 H) λv71 H=> bo (bi .eql 5 v71 (.s (Go.Value.int Go.IntKind.u8 1))) λv72=> bo (bd 81 [(0,v37),(1,v41),(2,v45),(3,v55),(4,v59),(5,v64),(6,v68),(7,v72)]) λv73=> bnd (st 9 v6 v73 H) λ_ H=>
  bo (slS 1 v13 (some (I 10)) none none) λv75=> bnd (C 179 [v75,(I 8)] H) λv76 H=>
  none)
theorem alh:Rn1 129 afn:=λ_ _ _ _ h=>
 rnG alg Tryz.func129 (by kernel_rfl) (by kernel_rfl) h
def afo:Ann:=⟨[(4,[1,2,7,13,14])],[(7,rF 17 [])],[]⟩
def Eo:=lT Tryz.prog Tryz.f130 45 afo 0
def xG(C:aC)(t1 t2 t7 t13 t14:AV)(H:ah):OA:=
 bo (bi .add 3 t14 (I 1)) λv43=>
 Eo C [t1,t2,t7,t13,v43] H
def afp(C:aC)(a0 a1 a2:AV)(H:ah):OA:=
 bnd (C 182 [a0] H) λv11 H=>
 bnd (lnS v11 H) λv13 H=>
 Eo C [a1,a2,v11,v13,(I 0)] H
theorem UW(C:aC)(t1 t2 t7 t13 t14:AV)(H:ah):Eo C [t1,t2,t7,t13,t14] H=
 bo (bi .lss 3 t14 t13) λv15=>
 aV v15
 (bo (bi .mul 3 (I 8) t14) λv18=> bo (bi .sub 3 v18 t1) λv20=>
  bo (bi .leq 3 v20 (I (-8))) λv22=> gl v22 false (some v20) H λv24 H=> gl v22 false (bi .geq 3 v24 (I 16)) H λv25 H=> bo (dG v22 (B true) v25) λv26=>
  aV v26
  (xG C t1 t2 t7 t13 t14 H)
  (bnd (ix 1 t7 t14 H) λv31 H=> bnd (ld v31 H) λv32 H=> bnd (cv 42 260 t2 H) λv34 H=> bo (bi .shl 260 v34 (.s (Go.Value.int Go.IntKind.u64 8))) λv35=> bo (bi .add 3 v20 (I 8)) λv37=> bo (bi .shl 260 v35 v37) λv38=> bo (bi .shr 260 v38 (.s (Go.Value.int Go.IntKind.u64 24))) λv39=> bnd (cv 260 5 v39 H) λv40 H=> bo (bi .xor 5 v32 v40) λv41=> bnd (ix 1 t7 t14 H) λv42 H=> bnd (st 1 v42 v41 H) λ_ H=>
  xG C t1 t2 t7 t13 t14 H))
 (some (t7,H)):=
 lpE.trans (by kernel_rfl)
theorem ali:Rn3 130 afp:=λ_ _ _ _ _ _ h=>
 rnG afo Tryz.func130 (by kernel_rfl) (by kernel_rfl) h
def alj:Ann:=⟨[],[(1,rF 11 [])],[]⟩
def afq(C:aC)(a0:AV)(H:ah):OA:=
 bo (aA a0) λv4=> fld v4 1 H λv6 H=> bo (aA a0) λv8=> fld v8 0 H λv10 H=> bnd (lnS v10 H) λv11 H=> bo (bi .sub 3 v6 v11) λv12=>
 some (v12,H)
theorem alk:Rn1 131 afq:=λ_ _ _ _ h=>
 rnG alj Tryz.func131 (by kernel_rfl) (by kernel_rfl) h
def afr(C:aC)(a0:AV)(H:ah):OA:=
 bnd (jc 81 a0 H) λv1 H=> bnd (alc 81 [zI,zI,zI,zI,zI,zI,zI,zB,zN] H) λv2 H=>
 fld v1 8 H λv4 H=> bnd (C 36 [v4] H) λv5 H=> bo (au v1 8) λv6=> bnd (st 1 v6 v5 H) λ_ H=>
 bnd (lda 9 v1 H) λv7 H=> bnd (st 9 v2 v7 H) λ_ H=>
 bnd (lda 9 v2 H) λr0 _=> some (r0,H)
theorem alm:Rn1 132 afr:=λ_ _ _ _ h=>
 rnG an0 Tryz.func132 (by kernel_rfl) (by kernel_rfl) h
def aln:Ann:=⟨[],[(5,rF 8 [])],[]⟩
def afs(C:aC)(a0 a1 a2:AV)(H:ah):OA:=
 bnd (lnS a0 H) λv12 H=> bo (slS 9 a0 (some a1) (some a2) (some v12)) λv13=>
 bo (bi .eql 3 a1 a2) λv16=>
 aV v16
 (some (a0,H))
 (bnd (lnS a0 H) λv19 H=>
  bo (slS 9 a0 none (some a1) none) λv22=> bo (slS 9 a0 (some a2) none none) λv25=> bnd (app 81 9 88 v22 v25 H) λv26 H=>
  bnd (lnS v26 H) λv29 H=> bo (slS 9 v26 (some v29) (some v19) none) λv31=> bnd (clr 9 [zI,zI,zI,zI,zI,zI,zI,zB,zN] v31 H) λ_ H=>
  some (v26,H))
theorem alo:Rn3 133 afs:=λ_ _ _ _ _ _ h=>
 rnG aln Tryz.func133 (by kernel_rfl) (by kernel_rfl) h
def afu(C:aC)(a0 a1:AV)(H:ah):OA:=
 bnd (alc 81 [zI,zI,zI,zI,zI,zI,zI,zB,zN] H) λv4 H=>
 bnd (C 183 [a0,a1,(B false)] H) λv8 H=> bo (aJ v8 0) λv9=> bo (aJ v8 1) λv10=> bnd (st 9 v4 v9 H) λ_ H=>
 bnd (lda 9 v4 H) λr0 _=> some (.tup [r0,v10],H)
theorem alp:Rn2 134 afu:=λ_ _ _ _ _ h=>
 rnG an0 Tryz.func134 (by kernel_rfl) (by kernel_rfl) h
def alq:Ann:=⟨[],[(3,rF 18 []),(5,rF 18 []),(7,rF 18 [])],[]⟩
def Pz(C:aC)(a0 a1:AV)(H:ah):OA:=
 bnd (jc 81 a1 H) λv3 H=> bnd (alc 73 [zI,zI,zI,zI,zI,zI,zN,zI,zI] H) λv4 H=>
 bo (aA a0) λv7=> bo (au v7 12) λv8=> fld v8 0 H λv10 H=>
 bo (bi .eql 3 v10 (I 1)) λv12=>
 aV v12
 (bo (aA a0) λv14=> bo (au v14 12) λv15=> bnd (lda 9 v15 H) λv16 H=> bo (aA a0) λv18=> fld v18 10 H λv20 H=> bo (aA a0) λv22=> fld v22 0 H λv24 H=> bnd (lda 9 v3 H) λv25 H=> bnd (C 184 [v16,v20,v24,v25] H) λv26 H=> bo (aJ v26 0) λv27=> bo (aJ v26 1) λv28=> bnd (st 9 v4 v27 H) λ_ H=>
  bnd (lda 9 v4 H) λr0 _=> some (.tup [r0,v28],H))
 (bo (bi .eql 3 v10 (I 2)) λv30=>
  aV v30
  (bo (aA a0) λv32=> bo (au v32 12) λv33=> bnd (lda 9 v33 H) λv34 H=> bo (aA a0) λv36=> fld v36 10 H λv38 H=> bo (aA a0) λv40=> fld v40 0 H λv42 H=> bnd (lda 9 v3 H) λv43 H=> bnd (C 185 [v34,v38,v42,v43] H) λv44 H=> bo (aJ v44 0) λv45=> bo (aJ v44 1) λv46=> bnd (st 9 v4 v45 H) λ_ H=>
  bnd (lda 9 v4 H) λr0 _=> some (.tup [r0,v46],H))
  (bo (bi .eql 3 v10 (I 3)) λv48=>
  aV v48
  (bo (aA a0) λv50=> bo (au v50 12) λv51=> bnd (lda 9 v51 H) λv52 H=> bo (aA a0) λv54=> fld v54 10 H λv56 H=> bo (aA a0) λv58=> fld v58 0 H λv60 H=> bnd (lda 9 v3 H) λv61 H=> bnd (C 186 [v52,v56,v60,v61] H) λv62 H=> bo (aJ v62 0) λv63=> bo (aJ v62 1) λv64=> bnd (st 9 v4 v63 H) λ_ H=>
   bnd (lda 9 v4 H) λr0 _=> some (.tup [r0,v64],H))
  (bo (bd 73 []) λv65=> bnd (st 9 v4 v65 H) λ_ H=>
   bnd (lda 9 v4 H) λr0 _=> some (.tup [r0,(B false)],H))))
theorem UY:Rn2 135 Pz:=λ_ _ _ _ _ h=>
 rnG alq Tryz.func135 (by kernel_rfl) (by kernel_rfl) h
def alr:Ann:=⟨[],[(3,rF 19 [])],[(3,[(14,16),(15,16)])]⟩
def Zz(C:aC)(a0:AV)(H:ah):OA:=
 bnd (alc 61 [zI,zI,zI] H) λv2 H=>
 bnd (C 66 [a0] H) λv6 H=> bo (bi .eql 3 v6 (I 0)) λv7=>
 aV v7
 (bo (bd 61 []) λv8=> bnd (st 3 v2 v8 H) λ_ H=>
  bnd (lda 3 v2 H) λr0 _=> some (.tup [r0,(I 0),(B false)],H))
 (bo (aA a0) λv10=> fld v10 0 H λv12 H3=> bo (aA a0) λv14=> fld v14 1 H3 λv16 H7=> bnd (lnS v16 H7) λv17 H8=> bnd (ix 3 v12 v17 H8) λv18 H9=> bnd (lda 3 v18 H9) λv19 H10=> bo (aA a0) λv21=> bo (au v21 1) λv22=> bnd (ld v22 H10) λv23 H14=> bnd (lnS v23 H14) λv24 H15=> bnd (st 3 v2 v19 H15) λ_ H16=> ck (bQ v22) H15 H16 <| ck (bQ v23) H15 H16 <|
  bnd (lda 3 v2 H16) λr0 _=> some (.tup [r0,v24,(B true)],H16))
theorem als:Rn1 136 Zz:=λ_ _ _ _ h=>
 rnG alr Tryz.func136 (by kernel_rfl) (by kernel_rfl) h
def afv(C:aC)(a0 a1 a2:AV)(H:ah):OA:=
 bo (aA a0) λv11=> fld v11 1 H λv13 H=> bnd (C 136 [v13] H) λv14 H=> bo (aJ v14 0) λv15=> bo (aJ v14 1) λv16=> bo (aJ v14 2) λv17=> bnd (alc 61 [zI,zI,zI] H) λv6 H=> bnd (st 3 v6 v15 H) λ_ H=>
 bo (aA a0) λv19=> fld v19 1 H λv21 H=> bnd (C 187 [v21,a2] H) λv23 H=>
 bo (aA a0) λv26=> fld v26 10 H λv28 H=> bnd (C 188 [a1,v28,v16,a2] H) λv31 H=>
 some (.tup [],H)
theorem alu:Rn3 137 afv:=λ_ _ _ _ _ _ h=>
 rnG an0 Tryz.func137 (by kernel_rfl) (by kernel_rfl) h
def alv:Ann:=⟨[],[(1,rF 12 []),(9,rF 6 [])],[]⟩
def Ep(C:aC)(t0 t1 t11:AV)(H:ah):OA:=
 bnd (C 137 [t0,t1,t11] H) λv71 H=>
 some (.tup [],H)
def uP(C:aC)(t0 t1 t4 t9 t11:AV)(H:ah):OA:=
 bo (aA t0) λv60=> fld v60 0 H λv62 H=> bnd (lda 6 t9 H) λv63 H=> bnd (C 191 [v62,v63] H) λv64 H=>
 fld t4 0 H λv66 H=> bo (bi .eql 3 v66 (I 2)) λv67=>
 aV v67
 (Ep C t0 t1 (I 0) H)
 (Ep C t0 t1 t11 H)
def UZ(C:aC)(a0 a1:AV)(H:ah):OA:=
 bo (aA a0) λv14=> fld v14 1 H λv16 H=> bnd (C 136 [v16] H) λv17 H=> bo (aJ v17 0) λv18=> bo (aJ v17 1) λv19=> bo (aJ v17 2) λv20=> bnd (alc 61 [zI,zI,zI] H) λv4 H=> bnd (st 3 v4 v18 H) λ_ H=>
 bo (aA a0) λv23=> bo (au v23 2) λv24=> bnd (lda 8 v24 H) λv25 H=> fld v4 1 H λv27 H=> bnd (C 148 [v25,v27] H) λv28 H=> bo (aJ v28 0) λv29=> bo (aJ v28 1) λv30=>
 bo (aA a0) λv33=> fld v33 0 H λv35 H=> bnd (C 41 [v35,v29] H) λv37 H=> bo (aJ v37 0) λv38=> bo (aJ v37 1) λv39=> bnd (alc 100 [zI,zI,zI,zI,zB,zN] H) λv9 H=> bnd (st 6 v9 v38 H) λ_ H=>
 bnd (lda 6 v9 H) λv40 H=> bnd (C 189 [v40,v30] H) λv42 H=>
 fld v4 0 H λv44 H=>
 bo (bi .eql 3 v44 (I 2)) λv46=>
 aV v46
 (fld v4 2 H λv49 H=> bnd (C 190 [v9,v30,v49] H) λv50 H=>
  uP C a0 a1 v4 v9 v42 H)
 (bo (bi .eql 3 v44 (I 3)) λv52=>
  aV v52
  (fld v4 2 H λv56 H=> bo (bi .add 3 v42 v56) λv57=> bnd (C 190 [v9,v30,v57] H) λv58 H=>
  uP C a0 a1 v4 v9 v42 H)
  (uP C a0 a1 v4 v9 v42 H))
theorem ZA:Rn2 138 UZ:=λ_ _ _ _ _ h=>
 rnG alv Tryz.func138 (by kernel_rfl) (by kernel_rfl) h
def alx:Ann:=⟨[],[(0,rF 18 (some true::some false::some false::[]))],[]⟩
def afw(C:aC)(a0 a1:AV)(H:ah):OA:=
 bo (aA a0) λv6=> bo (au v6 12) λv7=> bnd (lda 9 v7 H) λv8 H=> bo (aA a0) λv10=> fld v10 10 H λv12 H=> bo (aA a0) λv14=> bo (au v14 2) λv15=> bnd (lda 8 v15 H) λv16 H=> bo (aA a0) λv18=> bo (au v18 12) λv19=> fld v19 1 H λv21 H=> bnd (unG H (C 42 [v16,v21] H.guard)) λv22 H=> bnd (C 192 [v8,v12,v22] H) λv23 H=> bnd (C 143 [a1,v23] H) λv24 H=>
 some (.tup [],H)
theorem aly:Rn2 139 afw:=λ_ _ _ _ _ h=>
 rnG alx Tryz.func139 (by kernel_rfl) (by kernel_rfl) h
def ZB(C:aC)(a0:AV)(H:ah):OA:=
 bo (aA a0) λv4=> fld v4 1 H λv6 H=> bnd (C 193 [v6] H) λv7 H=> bnd (lnS v7 H) λv8 H=> bo (bi .gtr 3 v8 (I 0)) λv9=>
 some (v9,H)
theorem alz:Rn1 140 ZB:=λ_ _ _ _ h=>
 rnG an0 Tryz.func140 (by kernel_rfl) (by kernel_rfl) h
def ZC(C:aC)(a0 a1 a2:AV)(H:ah):OA:=
 bnd (C 71 [a0,a1] H) λv9 H=> bo (un .not v9) λv10=>
 aV v10
 (some ((I 0),H))
 (bo (aA a0) λv12=> fld v12 0 H λv14 H=> bnd (ix 4 v14 a1 H) λv16 H=> bnd (lda 4 v16 H) λv17 H=> bnd (C 91 [v17,a2] H) λv19 H=> bo (fl v19 0) λv20=> bnd (C 194 [v20] H) λv21 H=>
  some (v21,H))
theorem alA:Rn3 141 ZC:=λ_ _ _ _ _ _ h=>
 rnG an0 Tryz.func141 (by kernel_rfl) (by kernel_rfl) h
def afx:Ann:=⟨[(3,[0,2,13,14,15])],[],[]⟩
def LW:=lT Tryz.prog Tryz.f142 37 afx 0
def ZE(C:aC)(a0:AV)(H:ah):OA:=
 bnd (alc 81 [zI,zI,zI,zI,zI,zI,zI,zB,zN] H) λv2 H=>
 bo (aA a0) λv10=> fld v10 1 H λv12 H=> bnd (C 193 [v12] H) λv13 H=> bnd (lnS v13 H) λv14 H=>
 LW C [a0,v2,v13,v14,(I 0)] H
theorem U0(C:aC)(t0 t2 t13 t14 t15:AV)(H:ah):LW C [t0,t2,t13,t14,t15] H=
 bo (bi .lss 3 t15 t14) λv16=>
 aV v16
 (bnd (ix 1 t13 t15 H) λv17 H=> bnd (ld v17 H) λv18 H=>
  bo (aA t0) λv21=> fld v21 1 H λv23 H=> bnd (C 195 [v23,v18] H) λv25 H=> bo (aJ v25 0) λv26=> bo (aJ v25 1) λv27=> bo (aJ v25 2) λv28=>
  aV v28
  (bnd (C 196 [t0,v18,v26,v27] H) λv34 H=> bnd (st 9 t2 v34 H) λ_ H=>
  bnd (lda 9 t2 H) λr0 _=> some (.tup [r0,(B true)],H))
  (bo (bi .add 3 t15 (I 1)) λv35=>
  LW C [t0,t2,t13,t14,v35] H))
 (bo (bd 81 []) λv36=> bnd (st 9 t2 v36 H) λ_ H=>
  bnd (lda 9 t2 H) λr0 _=> some (.tup [r0,(B false)],H)):=
 lpE.trans (by kernel_rfl)
theorem alB:Rn1 142 ZE:=λ_ _ _ _ h=>
 rnG afx Tryz.func142 (by kernel_rfl) (by kernel_rfl) h
def alC:Ann:=⟨[],[(3,rF 10 (some true::some true::rF 4 []))],[]⟩
def PD(C:aC)(a0 a1:AV)(H:ah):OA:=
 bnd (jc 81 a1 H) λv3 H=>
 bnd (lda 9 v3 H) λv5 H=> bnd (C 174 [v5] H) λv6 H=> bo (bi .neq 57 v6 (I 0)) λv7=> gl v7 false (some a0) H λv9 H=> gl v7 false (au v3 1) H λv10 H=> gdA (some v7) false (ld v10 H) H λv11 H=> gdA (some v7) false (C 71 [v9,v11] H) H λv12 H=> gl v7 false (un .not v12) H λv13 H=> bo (dG v7 (B true) v13) λv14=> gl v14 false (some a0) H λv16 H=> gl v14 false (au v3 2) H λv17 H=> gdA (some v14) false (ld v17 H) H λv18 H=> gdA (some v14) false (C 71 [v16,v18] H) H λv19 H=> gl v14 false (un .not v19) H λv20 H=> bo (dG v14 (B true) v20) λv21=>
 aV v21
 (some ((I 1),H))
 (bo (aA a0) λv23=> fld v23 0 H λv25 H=> fld v3 1 H λv27 H=> bnd (ix 4 v25 v27 H) λv28 H=> bnd (lda 4 v28 H) λv29 H=> fld v3 0 H λv31 H=> bnd (unG H (C 92 [v31] H.guard)) λv32 H=> bnd (unG H (C 91 [v29,v32] H.guard)) λv33 H=> bo (fl v33 0) λv34=> bnd (lda 9 v3 H) λv35 H=> bnd (C 197 [v34,v35] H) λv36 H=>
  some (v36,H))
theorem afy:Rn2 143 PD:=λ_ _ _ _ _ h=>
 rnG alC Tryz.func143 (by kernel_rfl) (by kernel_rfl) h
def afz(C:aC)(a0 a1:AV)(H:ah):OA:=
 bnd (alc 81 [zI,zI,zI,zI,zI,zI,zI,zB,zN] H) λv4 H=>
 bnd (C 183 [a0,a1,(B true)] H) λv8 H=> bo (aJ v8 0) λv9=> bo (aJ v8 1) λv10=> bnd (st 9 v4 v9 H) λ_ H=>
 bnd (lda 9 v4 H) λr0 _=> some (.tup [r0,v10],H)
theorem alD:Rn2 144 afz:=λ_ _ _ _ _ h=>
 rnG an0 Tryz.func144 (by kernel_rfl) (by kernel_rfl) h
def alE:Ann:=⟨[],[(2,rF 11 (none::rF 3 [])),(4,rF 9 (none::some false::some false::[]))],[(2,[(11,6)]),(4,[(9,5)])]⟩
def JI(C:aC)(a0 a1:AV)(H:ah):OA:=
 bnd (jc 81 a1 H) λv3 H=> bnd (alc 81 [zI,zI,zI,zI,zI,zI,zI,zB,zN] H) λv4 H=>
 fld v3 0 H λv12 H=> bo (bi .eql 3 v12 (I 1)) λv13=> gl v13 false (au v3 0) H λv15 H=> gdA (some v13) false (ld v15 H) H λv16 H=> gl v13 false (bi .eql 3 v16 (I 2)) H λv17 H=> bo (dG v13 (B true) v17) λv18=>
 aV v18
 (bnd (alc 81 [zI,zI,zI,zI,zI,zI,zI,zB,zN] H) λv6 H11=> bo (aA a0) λv21=> bo (au v21 11) λv22=> fld v22 0 H11 λv24 H4=> bnd (lda 9 v3 H4) λv25 H5=> bnd (C 198 [v24,v25] H5) λv26 H6=> bo (aJ v26 0) λv27=> bo (aJ v26 1) λv28=> bo (aJ v26 2) λv29=> bnd (st 9 v6 v27 H6) λ_ H12=> ckR H.next H11.next H5 H6 <|
  bnd (lda 9 v6 H12) λv30 H12=> gl v28 true (some v29) H12 λv33 H12=> gl v28 true (bi .eql 57 v33 (I 0)) H12 λv34 H12=> bo (dG v28 v34 (B false)) λv35=> bnd (st 9 v4 v30 H12) λ_ H12=>
  bnd (lda 9 v4 H12) λr0 _=> some (.tup [r0,v35],H12))
 (bnd (alc 81 [zI,zI,zI,zI,zI,zI,zI,zB,zN] H) λv9 aoc=> bo (aA a0) λv38=> bo (au v38 0) λv39=> bnd (ld v39 aoc) λv40 ai4=> bnd (lda 9 v3 ai4) λv41 alF=> bnd (C 199 [v40,v41] alF) λv42 alG=> bo (aJ v42 0) λv43=> bo (aJ v42 1) λv44=> bnd (st 9 v9 v43 alG) λ_ WM=> ckR H.next aoc.next alF alG <|
  bnd (lda 9 v9 WM) λv45 WM=> bo (bi .eql 57 v44 (I 0)) λv47=> bnd (st 9 v4 v45 WM) λ_ WM=>
  bnd (lda 9 v4 WM) λr0 _=> some (.tup [r0,v47],WM))
theorem afA:Rn2 145 JI:=λ_ _ _ _ _ h=>
 rnG alE Tryz.func145 (by kernel_rfl) (by kernel_rfl) h
def U1(C:aC)(a0:AV)(H:ah):OA:=
 bo (aA a0) λv4=> fld v4 2 H λv6 H=> gl v6 false (some a0) H λv8 H=> gdA (some v6) false (C 66 [v8] H) H λv9 H=> gl v6 false (bi .eql 3 v9 (I 0)) H λv10 H=> bo (dG v6 (B true) v10) λv11=>
 aV v11
 (some ((I 6),H))
 (bo (aA a0) λv13=> bo (au v13 2) λv14=> bnd (st 1 v14 (B true) H) λ_ H=>
  some ((I 0),H))
theorem ZF:Rn1 146 U1:=λ_ _ _ _ h=>
 rnG an0 Tryz.func146 (by kernel_rfl) (by kernel_rfl) h
def afB(C:aC)(a0 a1 a2:AV)(H:ah):OA:=
 bo (aA a0) λv8=> fld v8 0 H λv10 H=> bo (bd 184 [(0,a1),(1,a2)]) λv13=> bnd (bs 123 1 [(0,v13)] H) λv14 H=> bnd (app 184 4 32 v10 v14 H) λv15 H=> bo (aA a0) λv16=> bo (au v16 0) λv17=> bnd (st 1 v17 v15 H) λ_ H=>
 some (.tup [],H)
theorem alH:Rn3 147 afB:=λ_ _ _ _ _ _ h=>
 rnG an0 Tryz.func147 (by kernel_rfl) (by kernel_rfl) h
def alI:Ann:=⟨[],[(3,rF 10 [])],[]⟩
def GK(C:aC)(a0 a1:AV)(H:ah):OA:=
 bnd (jc 31 a0 H) λv2 H=>
 bo (bi .lss 3 a1 (I 0)) λv7=> gl v7 false (some a1) H λv9 H=> gdA (some v7) false (lda 8 v2 H) H λv10 H=> gdA (some v7) false (C 57 [v10] H) H λv11 H=> gl v7 false (bi .geq 3 v9 v11) H λv12 H=> bo (dG v7 (B true) v12) λv13=>
 aV v13
 (some (.tup [(I (-1)),(I 0)],H))
 (fld v2 2 H λv16 H=> bo (bi .quo 3 a1 v16) λv17=> fld v2 2 H λv20 H=> bo (bi .rem 3 a1 v20) λv21=>
  some (.tup [v17,v21],H))
theorem afC:Rn2 148 GK:=λ_ _ _ _ _ h=>
 rnG alI Tryz.func148 (by kernel_rfl) (by kernel_rfl) h
def afD(C:aC)(a0 a1 a2 a3:AV)(H:ah):OA:=
 bo (aA a0) λv12=> fld v12 21 H λv14 H=> bnd (C 200 [a2,a3,v14] H) λv15 H=> bo (aA a0) λv16=> bo (au v16 12) λv17=> bnd (st 9 v17 v15 H) λ_ H=>
 bo (aA a0) λv20=> fld v20 21 H λv22 H=> bo (bi .add 3 v22 (I 1)) λv23=> bo (bi .rem 3 v23 (I 4096)) λv24=> bo (aA a0) λv25=> bo (au v25 21) λv26=> bnd (st 1 v26 v24 H) λ_ H=>
 bnd (C 139 [a0,a1] H) λv29 H=>
 some (.tup [],H)
theorem alJ:Rn4 149 afD:=λ_ _ _ _ _ _ _ h=>
 rnG an0 Tryz.func149 (by kernel_rfl) (by kernel_rfl) h
def alK:Ann:=⟨[],[(5,rF 12 [])],[]⟩
def ZG(C:aC)(a0 a1:AV)(H:ah):OA:=
 bnd (C 82 [a0,a1] H) λv8 H=>
 bo (bi .lss 3 v8 (I 0)) λv10=>
 aV v10
 (some ((B false),H))
 (bo (aA a0) λv12=> fld v12 3 H λv14 H=> bo (bi .add 3 v14 (I 1)) λv15=> bo (aA a0) λv16=> bo (au v16 3) λv17=> bnd (st 1 v17 v15 H) λ_ H=>
  bo (aA a0) λv19=> fld v19 0 H λv21 H=> bo (aA a0) λv24=> fld v24 3 H λv26 H=> bnd (ix 6 v21 v8 H) λv27 H=> bo (au v27 3) λv28=> bnd (st 1 v28 v26 H) λ_ H=>
  some ((B true),H))
theorem alL:Rn2 150 ZG:=λ_ _ _ _ _ h=>
 rnG alK Tryz.func150 (by kernel_rfl) (by kernel_rfl) h
def alM:Ann:=⟨[],[(1,rF 7 (some true::rF 8 []))],[]⟩
def ZH(C:aC)(a0 a1:AV)(H:ah):OA:=
 bnd (C 82 [a0,a1] H) λv7 H=> bo (bi .lss 3 v7 (I 0)) λv8=> gl v8 true (some a0) H λv10 H=> gl v8 true (some a1) H λv11 H=> gdA (some v8) true (unG H (C 201 [v10,v11] H.guard)) H λv12 H=> gdA (some v8) true (lnS v12 H) H λv13 H=> gl v8 true (some a0) H λv14 H=> gl v8 true (aA v14) H λv15 H=> gl v8 true (au v15 2) H λv16 H=> gdA (some v8) true (ld v16 H) H λv17 H=> gl v8 true (bi .geq 3 v13 v17) H λv18 H=> bo (dG v8 v18 (B false)) λv19=>
 some (v19,H)
theorem alN:Rn2 151 ZH:=λ_ _ _ _ _ h=>
 rnG alM Tryz.func151 (by kernel_rfl) (by kernel_rfl) h
def ZI(C:aC)(a0 a1:AV)(H:ah):OA:=
 bnd (C 201 [a0,a1] H) λv9 H=>
 bnd (lnS v9 H) λv11 H=> bo (bi .eql 3 v11 (I 0)) λv12=>
 aV v12
 (some (.tup [(I 0),(B false)],H))
 (bnd (C 202 [v9,(.fn (.func 203) [] [])] H) λv14 H=> bo (fl v14 2) λv15=>
  some (.tup [v15,(B true)],H))
theorem alO:Rn2 152 ZI:=λ_ _ _ _ _ h=>
 rnG an0 Tryz.func152 (by kernel_rfl) (by kernel_rfl) h
def afE:Ann:=⟨[(3,[0,1,7,8])],[],[]⟩
def Es:=lT Tryz.prog Tryz.f157 19 afE 0
def afF(C:aC)(a0 a1:AV)(H:ah):OA:=
 bnd (lnS a0 H) λv7 H=>
 Es C [a0,a1,v7,(I 0)] H
theorem U2(C:aC)(t0 t1 t7 t8:AV)(H:ah):Es C [t0,t1,t7,t8] H=
 bo (bi .lss 3 t8 t7) λv9=>
 aV v9
 (bnd (ix 1 t0 t8 H) λv14 H=> bnd (ld v14 H) λv15 H=> bnd (rP Tryz.prog C t1 [v15] H) λv16 H=>
  aV v16
  (some (t8,H))
  (bo (bi .add 3 t8 (I 1)) λv18=>
  Es C [t0,t1,t7,v18] H))
 (some ((I (-1)),H)):=
 lpE.trans (by kernel_rfl)
theorem alP:Rn2 157 afF:=λ_ _ _ _ _ h=>
 rnG afE Tryz.func157 (by kernel_rfl) (by kernel_rfl) h
def afG:Ann:=⟨[(3,[0,1,7,8])],[],[]⟩
def Et:=lT Tryz.prog Tryz.f158 19 afG 0
def afH(C:aC)(a0 a1:AV)(H:ah):OA:=
 bnd (lnS a0 H) λv7 H=>
 Et C [a0,a1,v7,(I 0)] H
theorem U3(C:aC)(t0 t1 t7 t8:AV)(H:ah):Et C [t0,t1,t7,t8] H=
 bo (bi .lss 3 t8 t7) λv9=>
 aV v9
 (bnd (ix 3 t0 t8 H) λv14 H=> bnd (lda 3 v14 H) λv15 H=> bnd (rP Tryz.prog C t1 [v15] H) λv16 H=>
  aV v16
  (some (t8,H))
  (bo (bi .add 3 t8 (I 1)) λv18=>
  Et C [t0,t1,t7,v18] H))
 (some ((I (-1)),H)):=
 lpE.trans (by kernel_rfl)
theorem alQ:Rn2 158 afH:=λ_ _ _ _ _ h=>
 rnG afG Tryz.func158 (by kernel_rfl) (by kernel_rfl) h
def ZJ(C:aC)(a0:AV)(H:ah):OA:=
 bo (bi .eql 62 a0 (.s (Go.Value.slice none 0 0))) λv4=>
 aV v4
 (some ((.s (Go.Value.slice none 0 0)),H))
 (bnd (bs 62 0 [] H) λv5 H=> bnd (app 61 3 24 v5 a0 H) λv7 H=>
  some (v7,H))
theorem afI:Rn1 159 ZJ:=λ_ _ _ _ h=>
 rnG an0 Tryz.func159 (by kernel_rfl) (by kernel_rfl) h
def afJ:Ann:=⟨[(4,[1,2,5,12,13])],[(6,rF 7 (some true::some false::some false::[]))],[]⟩
def Eu:=lT Tryz.prog Tryz.f160 32 afJ 0
def Ew(C:aC)(t1 t2 t5 t12 t13:AV)(H:ah):OA:=
 bo (bi .add 3 t13 (I 1)) λv30=>
 Eu C [t1,t2,t5,t12,v30] H
def afK(C:aC)(a0 a1:AV)(H:ah):OA:=
 bnd (jc 31 a0 H) λv2 H=>
 bnd (lda 8 v2 H) λv7 H=> bnd (mkm .i64 H) λv8 H=> bo (bd 277 [(0,v7),(1,v8)]) λv9=> bnd (jc 277 v9 H) λv10 H=>
 fld v2 1 H λv12 H=>
 Eu C [a1,v2,v10,v12,(I 0)] H
theorem U4(C:aC)(t1 t2 t5 t12 t13:AV)(H:ah):Eu C [t1,t2,t5,t12,t13] H=
 bo (bi .lss 3 t13 t12) λv14=>
 aV v14
 (bnd (lda 8 t2 H) λv16 H=> bnd (C 42 [v16,t13] H) λv18 H=> bo (bi .eql 3 v18 t1) λv20=>
  aV v20
  (bo (aA t5) λv22=> fld v22 8 H λv24 H=> bnd (lda 8 t2 H) λv26 H=> bnd (unG H (C 204 [v26,t13] H.guard)) λv28 H=> bo (bd 95 [(0,(I 0)),(1,(I (-1))),(2,v28)]) λv29=> bnd (mup .i64 v24 t13 v29 H) λ_ H=>
  Ew C t1 t2 t5 t12 t13 H)
  (Ew C t1 t2 t5 t12 t13 H))
 (some (t5,H)):=
 lpE.trans (by kernel_rfl)
theorem alR:Rn2 160 afK:=λ_ _ _ _ _ h=>
 rnG afJ Tryz.func160 (by kernel_rfl) (by kernel_rfl) h
def afL(C:aC)(H:ah):OA:=
 bnd (mkm .i64 H) λv1 H=> bnd (mkm .i64 H) λv2 H=> bo (bd 218 [(0,v1),(1,v2)]) λv3=> bnd (jc 218 v3 H) λv4 H=>
 some (v4,H)
theorem alS:Rn0 161 afL:=λ_ _ _ h=>
 rnG an0 Tryz.func161 (by kernel_rfl) (by kernel_rfl) h
def ZK(C:aC)(a0:AV)(H:ah):OA:=
 bnd (jc 81 a0 H) λv1 H=>
 fld v1 1 H λv6 H=> bnd (C 211 [v6,(I 0),(I 6)] H) λv7 H=> gl v7 true (au v1 2) H λv9 H=> gdA (some v7) true (ld v9 H) H λv10 H=> gdA (some v7) true (C 211 [v10,(I 0),(I 6)] H) H λv11 H=> bo (dG v7 v11 (B false)) λv12=> gl v12 true (au v1 3) H λv14 H=> gdA (some v12) true (ld v14 H) H λv15 H=> gdA (some v12) true (C 211 [v15,(I 0),(I 4096)] H) H λv16 H=> bo (dG v12 v16 (B false)) λv17=>
 fld v1 0 H λv19 H=> bnd (C 211 [v19,(I 1),(I 10)] H) λv20 H=> gl v20 true (au v1 4) H λv22 H=> gdA (some v20) true (ld v22 H) H λv23 H=> gdA (some v20) true (C 211 [v23,(I 0),(I 8)] H) H λv24 H=> bo (dG v20 v24 (B false)) λv25=> gl v25 true (au v1 5) H λv27 H=> gdA (some v25) true (ld v27 H) H λv28 H=> gdA (some v25) true (C 211 [v28,(I (-1)),(I 6)] H) H λv29 H=> bo (dG v25 v29 (B false)) λv30=>
 bo (un .not v17) λv32=> gl v32 false (some v30) H λv34 H=> gl v32 false (un .not v34) H λv35 H=> bo (dG v32 (B true) v35) λv36=> gl v36 false (au v1 6) H λv38 H=> gdA (some v36) false (ld v38 H) H λv39 H=> gdA (some v36) false (C 211 [v39,(I 0),(I 3)] H) H λv40 H=> gl v36 false (un .not v40) H λv41 H=> bo (dG v36 (B true) v41) λv42=> gl v42 false (au v1 8) H λv44 H=> gdA (some v42) false (ld v44 H) H λv45 H=> gdA (some v42) false (lnS v45 H) H λv46 H=> gl v42 false (bi .gtr 3 v46 (I 4)) H λv47 H=> bo (dG v42 (B true) v47) λv48=>
 aV v48
 (some ((I 1),H))
 (some ((I 0),H))
theorem afM:Rn1 174 ZK:=λ_ _ _ _ h=>
 rnG an0 Tryz.func174 (by kernel_rfl) (by kernel_rfl) h
def ZL(C:aC)(a0:AV)(H:ah):OA:=
 aV a0
 (some ((.s (Go.Value.int Go.IntKind.u8 1)),H))
 (some ((.s (Go.Value.int Go.IntKind.u8 0)),H))
theorem alT:Rn1 175 ZL:=λ_ _ _ _ h=>
 rnG an0 Tryz.func175 (by kernel_rfl) (by kernel_rfl) h
def afN:Ann:=⟨[(4,[0,3,4])],[],[]⟩
def Ey:=lT Tryz.prog Tryz.f176 17 afN 0
def afO(C:aC)(a0:AV)(H:ah):OA:=
 Ey C [a0,(.s (Go.Value.slice none 0 0)),(I 56)] H
theorem U5(C:aC)(t0 t3 t4:AV)(H:ah):Ey C [t0,t3,t4] H=
 bo (bi .geq 3 t4 (I 0)) λv6=>
 aV v6
 (bo (bi .shr 3 t0 t4) λv12=> bnd (cv 3 5 v12 H) λv13 H=> bnd (bs 220 1 [(0,v13)] H) λv14 H=> bnd (app 5 1 1 t3 v14 H) λv15 H=>
  bo (bi .sub 3 t4 (I 8)) λv8=>
  Ey C [t0,v15,v8] H)
 (some (t3,H)):=
 lpE.trans (by kernel_rfl)
theorem alU:Rn1 176 afO:=λ_ _ _ _ h=>
 rnG afN Tryz.func176 (by kernel_rfl) (by kernel_rfl) h
def afP(C:aC)(a0:AV)(H:ah):OA:=
 bnd (C 212 [a0] H) λv5 H=>
 bo (bi .shr 42 v5 (.s (Go.Value.int Go.IntKind.u64 8))) λv8=> bnd (cv 42 5 v8 H) λv9 H=> bnd (cv 42 5 v5 H) λv11 H=> bnd (bs 220 2 [(0,v9),(1,v11)] H) λv12 H=> bnd (bs 326 2 [(0,a0),(1,v12)] H) λv13 H=> bnd (C 213 [v13] H) λv14 H=>
 some (v14,H)
theorem alV:Rn1 177 afP:=λ_ _ _ _ h=>
 rnG an0 Tryz.func177 (by kernel_rfl) (by kernel_rfl) h
def U6(C:aC)(a0:AV)(H:ah):OA:=
 bnd (lnS a0 H) λv6 H=> bo (bi .sub 3 v6 (I 2)) λv7=>
 bo (bi .lss 3 v7 (I 0)) λv9=> gl v9 false (some a0) H λv11 H=> gl v9 false (some v7) H λv12 H=> gl v9 false (slS 1 v11 none (some v12) none) H λv13 H=> gdA (some v9) false (C 177 [v13] H) H λv14 H=> gl v9 false (some a0) H λv15 H=> gdA (some v9) false (C 181 [v14,v15] H) H λv16 H=> gl v9 false (un .not v16) H λv17 H=> bo (dG v9 (B true) v17) λv18=>
 aV v18
 (some (.tup [(.s (Go.Value.slice none 0 0)),(B false)],H))
 (bo (slS 1 a0 none (some v7) none) λv21=> bnd (C 182 [v21] H) λv22 H=>
  some (.tup [v22,(B true)],H))
theorem ZM:Rn1 178 U6:=λ_ _ _ _ h=>
 rnG an0 Tryz.func178 (by kernel_rfl) (by kernel_rfl) h
def LX(C:aC)(t2 t3:AV)(H:ah):OA:=
 some ((.fn (.func 214) [] [t2,t3]),H)
def afQ(C:aC)(a0 a1:AV)(H:ah):OA:=
 bnd (jc 220 a0 H) λv2 H=> bnd (jc 3 a1 H) λv3 H=>
 bnd (ld v3 H) λv5 H=> bo (bi .lss 3 v5 (I 1)) λv6=>
 aV v6
 (bnd (stk H) λv7 H=> bnd (stk H) λ_ H=>
  LX C v2 v3 H)
 (LX C v2 v3 H)
theorem alW:Rn2 179 afQ:=λ_ _ _ _ _ h=>
 rnG an0 Tryz.func179 (by kernel_rfl) (by kernel_rfl) h
def afR:Ann:=⟨[(4,[3,6,7,8])],[],[]⟩
def Ez:=lT Tryz.prog Tryz.f180 20 afR 0
def afS(C:aC)(a0:AV)(H:ah):OA:=
 bnd (lnS a0 H) λv7 H=>
 Ez C [(.s (Go.Value.int Go.IntKind.u64 0)),a0,v7,(I 0)] H
theorem U7(C:aC)(t3 t6 t7 t8:AV)(H:ah):Ez C [t3,t6,t7,t8] H=
 bo (bi .lss 3 t8 t7) λv9=>
 aV v9
 (bnd (ix 1 t6 t8 H) λv10 H=> bnd (ld v10 H) λv11 H=>
  bo (bi .shl 262 t3 (.s (Go.Value.int Go.IntKind.u64 8))) λv13=> bnd (cv 5 262 v11 H) λv15 H=> bo (bi .or 262 v13 v15) λv16=>
  bo (bi .add 3 t8 (I 1)) λv17=>
  Ez C [v16,t6,t7,v17] H)
 (bnd (cv 262 3 t3 H) λv19 H=>
  some (v19,H)):=
 lpE.trans (by kernel_rfl)
theorem alX:Rn1 180 afS:=λ_ _ _ _ h=>
 rnG afR Tryz.func180 (by kernel_rfl) (by kernel_rfl) h
def afT(C:aC)(a0 a1:AV)(H:ah):OA:=
 bnd (cv 220 9 a0 H) λv6 H=> bnd (cv 220 9 a1 H) λv8 H=> bo (bi .eql 9 v6 v8) λv9=>
 some (v9,H)
theorem alY:Rn2 181 afT:=λ_ _ _ _ _ h=>
 rnG an0 Tryz.func181 (by kernel_rfl) (by kernel_rfl) h
def afU(C:aC)(a0:AV)(H:ah):OA:=
 bo (bi .eql 220 a0 (.s (Go.Value.slice none 0 0))) λv4=>
 aV v4
 (some ((.s (Go.Value.slice none 0 0)),H))
 (bnd (bs 220 0 [] H) λv5 H=> bnd (app 5 1 1 v5 a0 H) λv7 H=>
  some (v7,H))
theorem alZ:Rn1 182 afU:=λ_ _ _ _ h=>
 rnG an0 Tryz.func182 (by kernel_rfl) (by kernel_rfl) h
def ZN(C:aC)(a0 a1 a2:AV)(H:ah):OA:=
 bnd (alc 81 [zI,zI,zI,zI,zI,zI,zI,zB,zN] H) λv6 H=>
 bnd (C 71 [a0,a1] H) λv10 H=> bo (un .not v10) λv11=>
 aV v11
 (bo (bd 81 []) λv12=> bnd (st 9 v6 v12 H) λ_ H=>
  bnd (lda 9 v6 H) λr0 _=> some (.tup [r0,(B false)],H))
 (bo (aA a0) λv14=> fld v14 0 H λv16 H=> bnd (ix 4 v16 a1 H) λv18 H=> bnd (lda 4 v18 H) λv19 H=> bnd (C 91 [v19,a2] H) λv21 H=> bo (fl v21 1) λv22=> bnd (C 215 [v22] H) λv23 H=> bo (aJ v23 0) λv24=> bo (aJ v23 1) λv25=> bnd (st 9 v6 v24 H) λ_ H=>
  bnd (lda 9 v6 H) λr0 _=> some (.tup [r0,v25],H))
theorem afV:Rn3 183 ZN:=λ_ _ _ _ _ _ h=>
 rnG an0 Tryz.func183 (by kernel_rfl) (by kernel_rfl) h
def GL(C:aC)(a0 a1 a2 a3:AV)(H:ah):OA:=
 bnd (jc 73 a0 H) λv4 H=> bnd (jc 81 a3 H) λv7 H=> bnd (alc 73 [zI,zI,zI,zI,zI,zI,zN,zI,zI] H) λv8 H=>
 fld v4 0 H λv11 H=> bo (bi .neq 3 v11 (I 1)) λv12=> gdA (some v12) false (lda 9 v4 H) H λv14 H=> gdA (some v12) false (lda 9 v7 H) H λv15 H=> gdA (some v12) false (C 216 [v14,v15] H) H λv16 H=> gl v12 false (un .not v16) H λv17 H=> bo (dG v12 (B true) v17) λv18=>
 aV v18
 (bo (bd 73 []) λv19=> bnd (st 9 v8 v19 H) λ_ H=>
  bnd (lda 9 v8 H) λr0 _=> some (.tup [r0,(B false)],H))
 (fld v4 3 H λv21 H=>
  bo (bi .eql 3 v21 (I 1)) λv23=>
  aV v23
  (bnd (lda 9 v4 H) λv24 H=> bnd (lda 9 v7 H) λv27 H=> bnd (C 217 [v24,a1,a2,v27] H) λv28 H=> bo (aJ v28 0) λv29=> bo (aJ v28 1) λv30=> bnd (st 9 v8 v29 H) λ_ H=>
  bnd (lda 9 v8 H) λr0 _=> some (.tup [r0,v30],H))
  (bo (bi .eql 3 v21 (I 2)) λv32=>
  aV v32
  (bnd (lda 9 v4 H) λv33 H=> bnd (lda 9 v7 H) λv36 H=> bnd (C 218 [v33,a1,a2,v36] H) λv37 H=> bo (aJ v37 0) λv38=> bo (aJ v37 1) λv39=> bnd (st 9 v8 v38 H) λ_ H=>
   bnd (lda 9 v8 H) λr0 _=> some (.tup [r0,v39],H))
  (bo (bi .eql 3 v21 (I 6)) λv41=>
   aV v41
   (bo (au v4 3) λv42=> bnd (st 1 v42 (I 0) H) λ_ H=>
   bnd (lda 9 v4 H) λv43 H=> bnd (st 9 v8 v43 H) λ_ H=>
   bnd (lda 9 v8 H) λr0 _=> some (.tup [r0,(B true)],H))
   (bo (bd 73 []) λv44=> bnd (st 9 v8 v44 H) λ_ H=>
   bnd (lda 9 v8 H) λr0 _=> some (.tup [r0,(B false)],H)))))
theorem al0:Rn4 184 GL:=λ_ _ _ _ _ _ _ h=>
 rnG an0 Tryz.func184 (by kernel_rfl) (by kernel_rfl) h
def al1:Ann:=⟨[],[(6,rF 8 (some true::rF 8 []))],[(6,[(3,10),(5,10),(5,12)])]⟩
def EC(C:aC)(t1 t2 t4 t8:AV)(H:ah):OA:=
 fld t4 5 H λv51 H=> bo (au t4 7) λv52=> bnd (st 1 v52 v51 H) λ_ H=>
 bnd (lda 9 t4 H) λv53 H=> bnd (C 219 [v53,t1,t2] H) λv56 H=> bnd (st 9 t8 v56 H) λ_ H=>
 bnd (lda 9 t8 H) λr0 _=> some (.tup [r0,(B true)],H)
def ED(C:aC)(t1 t2 t4 t7 t8:AV)(H:ah):OA:=
 fld t7 5 H λv66 H=> bo (au t4 7) λv67=> bnd (st 1 v67 v66 H) λ_ H=>
 bnd (lda 9 t4 H) λv68 H=> bnd (C 219 [v68,t1,t2] H) λv71 H=> bnd (st 9 t8 v71 H) λ_ H=>
 bnd (lda 9 t8 H) λr0 _=> some (.tup [r0,(B true)],H)
def zZ(C:aC)(a0 a1 a2 a3:AV)(H:ah):OA:=
 bnd (jc 73 a0 H) λv4 H=> bnd (jc 81 a3 H) λv7 H=> bnd (alc 73 [zI,zI,zI,zI,zI,zI,zN,zI,zI] H) λv8 H=>
 fld v4 0 H λv13 H=> bo (bi .neq 3 v13 (I 2)) λv14=> gdA (some v14) false (lda 9 v4 H) H λv16 H=> gdA (some v14) false (lda 9 v7 H) H λv17 H=> gdA (some v14) false (C 216 [v16,v17] H) H λv18 H=> gl v14 false (un .not v18) H λv19 H=> bo (dG v14 (B true) v19) λv20=>
 aV v20
 (bo (bd 73 []) λv21=> bnd (st 9 v8 v21 H) λ_ H=>
  bnd (lda 9 v8 H) λr0 _=> some (.tup [r0,(B false)],H))
 (fld v4 1 H λv25 H=> bnd (C 41 [a2,v25] H) λv26 H=> bo (aJ v26 0) λv27=> bo (aJ v26 1) λv28=> bnd (alc 100 [zI,zI,zI,zI,zB,zN] H) λv10 H=> bnd (st 6 v10 v27 H) λ_ H=>
  fld v4 3 H λv30 H=>
  bo (bi .eql 3 v30 (I 1)) λv32=>
  aV v32
  (fld v7 6 H λv34 H1=> bo (au v7 5) λv35=> bnd (ld v35 H1) λv36 H3=> bo (au v7 5) λv37=> bnd (ld v37 H3) λv38 H5=> fld v7 8 H5 λv40 H7=> bnd (unG H7 (C 36 [v40] H7.guard)) λv41 H8=> bo (au v4 4) λv42=> bnd (st 1 v42 v34 H8) λ_ H10=> bo (au v4 5) λv43=> bnd (st 1 v43 v36 H10) λ_ H12=> bo (au v4 8) λv44=> bnd (st 1 v44 v38 H12) λ_ H14=> bo (au v4 6) λv45=> bnd (st 1 v45 v41 H14) λ_ H16=> ck (bQ v35) H8 H10 <| ck (bQ v37) H8 H10 <| ck (bQ v37) H10 H12 <|
  aV v28
  (fld v10 5 H16 λv48 H16=> bo (au v4 6) λv49=> bnd (st 1 v49 v48 H16) λ_ H16=>
   EC C a1 a2 v4 v8 H16)
  (EC C a1 a2 v4 v8 H16))
  (bo (bi .eql 3 v30 (I 3)) λv58=>
  aV v58
  (bo (un .not v28) λv60=>
   aV v60
   (fld v7 8 H λv62 H=> bnd (C 36 [v62] H) λv63 H=> bo (au v4 6) λv64=> bnd (st 1 v64 v63 H) λ_ H=>
   ED C a1 a2 v4 v7 v8 H)
   (ED C a1 a2 v4 v7 v8 H))
  (bo (bi .eql 3 v30 (I 6)) λv73=>
   aV v73
   (bo (au v4 3) λv74=> bnd (st 1 v74 (I 0) H) λ_ H=>
   bnd (lda 9 v4 H) λv75 H=> bnd (st 9 v8 v75 H) λ_ H=>
   bnd (lda 9 v8 H) λr0 _=> some (.tup [r0,(B true)],H))
   (bo (bd 73 []) λv76=> bnd (st 9 v8 v76 H) λ_ H=>
   bnd (lda 9 v8 H) λr0 _=> some (.tup [r0,(B false)],H)))))
theorem al2:Rn4 185 zZ:=λ_ _ _ _ _ _ _ h=>
 rnG al1 Tryz.func185 (by kernel_rfl) (by kernel_rfl) h
def yB(C:aC)(a0 a1 a2 a3:AV)(H:ah):OA:=
 bnd (jc 73 a0 H) λv4 H=> bnd (jc 81 a3 H) λv7 H=> bnd (alc 73 [zI,zI,zI,zI,zI,zI,zN,zI,zI] H) λv8 H=>
 fld v4 0 H λv11 H=> bo (bi .neq 3 v11 (I 3)) λv12=> gdA (some v12) false (lda 9 v4 H) H λv14 H=> gdA (some v12) false (lda 9 v7 H) H λv15 H=> gdA (some v12) false (C 216 [v14,v15] H) H λv16 H=> gl v12 false (un .not v16) H λv17 H=> bo (dG v12 (B true) v17) λv18=>
 aV v18
 (bo (bd 73 []) λv19=> bnd (st 9 v8 v19 H) λ_ H=>
  bnd (lda 9 v8 H) λr0 _=> some (.tup [r0,(B false)],H))
 (fld v4 3 H λv21 H=>
  bo (bi .eql 3 v21 (I 1)) λv23=>
  aV v23
  (bnd (lda 9 v4 H) λv24 H=> bnd (lda 9 v7 H) λv26 H=> bnd (C 220 [v24,a2,v26] H) λv27 H=> bnd (st 9 v8 v27 H) λ_ H=>
  bnd (lda 9 v8 H) λr0 _=> some (.tup [r0,(B true)],H))
  (bo (bi .eql 3 v21 (I 4)) λv29=>
  aV v29
  (fld v4 7 H λv31 H=> bo (bi .eql 3 v31 (I (-1))) λv32=>
   aV v32
   (bnd (lda 9 v4 H) λv33 H=> fld v4 8 H λv36 H=> bnd (C 221 [v33,a2,v36] H) λv37 H=> bnd (st 9 v8 v37 H) λ_ H=>
   bnd (lda 9 v8 H) λr0 _=> some (.tup [r0,(B true)],H))
   (bo (au v4 3) λv38=> bnd (st 1 v38 (I 5) H) λ_ H=>
   bnd (lda 9 v4 H) λv39 H=> bnd (st 9 v8 v39 H) λ_ H=>
   bnd (lda 9 v8 H) λr0 _=> some (.tup [r0,(B true)],H)))
  (bo (bi .eql 3 v21 (I 5)) λv41=>
   aV v41
   (fld v4 5 H λv43 H=> bo (bi .eql 3 v43 (I (-1))) λv44=>
   aV v44
   (bnd (lda 9 v4 H) λv45 H=> fld v4 7 H λv48 H=> bnd (C 221 [v45,a2,v48] H) λv49 H=> bnd (st 9 v8 v49 H) λ_ H=>
    bnd (lda 9 v8 H) λr0 _=> some (.tup [r0,(B true)],H))
   (bnd (lda 9 v4 H) λv50 H=> fld v4 8 H λv53 H=> bnd (C 221 [v50,a2,v53] H) λv54 H=> bnd (st 9 v8 v54 H) λ_ H=>
    bnd (lda 9 v8 H) λr0 _=> some (.tup [r0,(B true)],H)))
   (bo (bi .eql 3 v21 (I 6)) λv56=>
   aV v56
   (bo (au v4 3) λv57=> bnd (st 1 v57 (I 0) H) λ_ H=>
    bnd (lda 9 v4 H) λv58 H=> bnd (st 9 v8 v58 H) λ_ H=>
    bnd (lda 9 v8 H) λr0 _=> some (.tup [r0,(B true)],H))
   (bo (bd 73 []) λv59=> bnd (st 9 v8 v59 H) λ_ H=>
    bnd (lda 9 v8 H) λr0 _=> some (.tup [r0,(B false)],H))))))
theorem al3:Rn4 186 yB:=λ_ _ _ _ _ _ _ h=>
 rnG an0 Tryz.func186 (by kernel_rfl) (by kernel_rfl) h
def ZO(C:aC)(a0 a1:AV)(H:ah):OA:=
 bo (aA a0) λv6=> fld v6 2 H λv8 H=> bo (un .not v8) λv9=>
 aV v9
 (some ((I 6),H))
 (bo (aA a0) λv13=> fld v13 1 H λv15 H=> bnd (bs 22 1 [(0,a1)] H) λv17 H=> bnd (app 3 1 8 v15 v17 H) λv18 H=> bo (aA a0) λv19=> bo (au v19 1) λv20=> bnd (st 1 v20 v18 H) λ_ H=> bo (aA a0) λv21=> bo (au v21 2) λv22=> bnd (st 1 v22 (B false) H) λ_ H=>
  some ((I 0),H))
theorem afW:Rn2 187 ZO:=λ_ _ _ _ _ h=>
 rnG an0 Tryz.func187 (by kernel_rfl) (by kernel_rfl) h
def afX(C:aC)(a0 a1 a2 a3:AV)(H:ah):OA:=
 bo (aA a0) λv10=> fld v10 0 H λv12 H=> bo (bd 184 [(0,a1),(1,a2),(2,(B true)),(3,a3)]) λv16=> bnd (bs 123 1 [(0,v16)] H) λv17 H=> bnd (app 184 4 32 v12 v17 H) λv18 H=> bo (aA a0) λv19=> bo (au v19 0) λv20=> bnd (st 1 v20 v18 H) λ_ H=>
 some (.tup [],H)
theorem al4:Rn4 188 afX:=λ_ _ _ _ _ _ _ h=>
 rnG an0 Tryz.func188 (by kernel_rfl) (by kernel_rfl) h
def ZP(C:aC)(a0 a1:AV)(H:ah):OA:=
 bnd (jc 100 a0 H) λv2 H=>
 bnd (lda 6 v2 H) λv5 H=> bnd (C 222 [v5,a1] H) λv7 H=> bo (un .not v7) λv8=>
 aV v8
 (some ((I 0),H))
 (fld v2 5 H λv10 H=> bnd (ix 1 v10 a1 H) λv12 H=> bnd (ld v12 H) λv13 H=>
  some (v13,H))
theorem al5:Rn2 189 ZP:=λ_ _ _ _ _ h=>
 rnG an0 Tryz.func189 (by kernel_rfl) (by kernel_rfl) h
def U8(C:aC)(a0 a1 a2:AV)(H:ah):OA:=
 bo (aA a0) λv8=> fld v8 4 H λv10 H=> bo (un .not v10) λv11=> gl v11 false (some a0) H λv13 H=> gl v11 false (aA v13) H λv14 H=> gdA (some v11) false (lda 6 v14 H) H λv15 H=> gl v11 false (some a1) H λv16 H=> gdA (some v11) false (C 222 [v15,v16] H) H λv17 H=> gl v11 false (un .not v17) H λv18 H=> bo (dG v11 (B true) v18) λv19=>
 aV v19
 (some ((B false),H))
 (bo (aA a0) λv22=> fld v22 5 H λv24 H=> bnd (C 36 [v24] H) λv25 H=> bo (aA a0) λv26=> bo (au v26 5) λv27=> bnd (st 1 v27 v25 H) λ_ H=>
  bo (aA a0) λv29=> fld v29 5 H λv31 H=> bnd (ix 1 v31 a1 H) λv34 H=> bnd (st 1 v34 a2 H) λ_ H=>
  some ((B true),H))
theorem ZQ:Rn3 190 U8:=λ_ _ _ _ _ _ h=>
 rnG an0 Tryz.func190 (by kernel_rfl) (by kernel_rfl) h
def al6:Ann:=⟨[],[(7,rF 8 []),(13,rF 11 [])],[]⟩
def PE(C:aC)(a0 a1:AV)(H:ah):OA:=
 bnd (jc 100 a1 H) λv3 H=>
 bnd (lda 6 v3 H) λv6 H=> bnd (C 83 [v6] H) λv7 H=> bnd (st 6 v3 v7 H) λ_ H=>
 fld v3 2 H λv9 H=> bo (bi .lss 3 v9 (I 0)) λv10=>
 aV v10
 (some ((I 1),H))
 (fld v3 2 H λv13 H=> bnd (C 82 [a0,v13] H) λv14 H=>
  bo (bi .geq 3 v14 (I 0)) λv16=>
  aV v16
  (bo (aA a0) λv18=> fld v18 0 H λv20 H=> bnd (ix 6 v20 v14 H) λv22 H=> fld v22 3 H λv24 H=> bo (au v3 3) λv25=> bnd (st 1 v25 v24 H) λ_ H=>
  bo (aA a0) λv27=> fld v27 0 H λv29 H=> bnd (lda 6 v3 H) λv31 H=> bnd (ix 6 v29 v14 H) λv32 H=> bnd (st 6 v32 v31 H) λ_ H=>
  some ((I 0),H))
  (fld v3 2 H λv35 H=> bnd (C 151 [a0,v35] H) λv36 H=>
  aV v36
  (some ((I 5),H))
  (bo (aA a0) λv38=> fld v38 3 H λv40 H=> bo (bi .add 3 v40 (I 1)) λv41=> bo (aA a0) λv42=> bo (au v42 3) λv43=> bnd (st 1 v43 v41 H) λ_ H=>
   bo (aA a0) λv45=> fld v45 3 H λv47 H=> bo (au v3 3) λv48=> bnd (st 1 v48 v47 H) λ_ H=>
   bo (aA a0) λv51=> fld v51 0 H λv53 H=> bnd (lda 6 v3 H) λv54 H=> bnd (bs 111 1 [(0,v54)] H) λv55 H=> bnd (app 100 6 64 v53 v55 H) λv56 H=> bo (aA a0) λv57=> bo (au v57 0) λv58=> bnd (st 1 v58 v56 H) λ_ H=>
   some ((I 0),H))))
theorem al7:Rn2 191 PE:=λ_ _ _ _ _ h=>
 rnG al6 Tryz.func191 (by kernel_rfl) (by kernel_rfl) h
def al8:Ann:=⟨[],[(1,some false::some false::some true::rF 7 (none::some false::[])),(11,rF 8 []),(13,rF 8 []),(15,rF 10 (some true::rF 8 []))],[(11,[(3,5)]),(13,[(3,5)]),(15,[(3,12),(5,12),(5,14),(6,12),(6,14)])]⟩
def oG(C:aC)(t6 t7:AV)(H:ah):OA:=
 bnd (lda 9 t7 H) λv69 H=> bnd (st 9 t6 v69 H) λ_ H=>
 bnd (lda 9 t6 H) λr0 _=> some (r0,H)
def Dy(C:aC)(a0 a1 a2:AV)(H:ah):OA:=
 bnd (jc 73 a0 H) λv3 H=> bnd (alc 81 [zI,zI,zI,zI,zI,zI,zI,zB,zN] H) λv6 H=>
 bnd (alc 81 [zI,zI,zI,zI,zI,zI,zI,zB,zN] H) λv7 H=> fld v3 3 H λv9 H=> bnd (unG H (C 223 [v9] H.guard)) λv10 H=> fld v3 2 H λv14 H=> fld v3 1 H λv16 H=> bo (bd 81 [(0,v10),(1,a1),(2,a2),(3,v14),(4,v16)]) λv17=> bnd (st 9 v7 v17 H) λ_ H=>
 fld v3 3 H λv19 H=>
 bo (bi .eql 3 v19 (I 1)) λv22=>
 aV v22
 (bnd (lda 9 v7 H) λv23 H=> bnd (st 9 v6 v23 H) λ_ H=>
  bnd (lda 9 v6 H) λr0 _=> some (r0,H))
 (bo (bi .eql 3 v19 (I 2)) λv25=>
  aV v25
  (fld v3 5 H λv27 H=> bo (au v7 2) λv29=> bnd (st 1 v29 v27 H) λ_ H=> bo (au v7 5) λv30=> bnd (st 1 v30 a1 H) λ_ H=>
  oG C v6 v7 H)
  (bo (bi .eql 3 v19 (I 3)) λv32=>
  aV v32
  (fld v3 7 H λv34 H=> bo (au v7 2) λv35=> bnd (st 1 v35 v34 H) λ_ H=>
   oG C v6 v7 H)
  (bo (bi .eql 3 v19 (I 4)) λv37=>
   aV v37
   (fld v3 5 H λv39 H1=> bo (au v3 7) λv40=> bnd (ld v40 H1) λv41 H3=> bo (au v7 2) λv42=> bnd (st 1 v42 v39 H3) λ_ H5=> bo (au v7 5) λv43=> bnd (st 1 v43 v41 H5) λ_ H7=> ck (bQ v40) H3 H5 <|
   oG C v6 v7 H7)
   (bo (bi .eql 3 v19 (I 5)) λv45=>
   aV v45
   (fld v3 7 H λv47 apx=> bo (au v3 5) λv48=> bnd (ld v48 apx) λv49 ai4=> bo (au v7 2) λv50=> bnd (st 1 v50 v47 ai4) λ_ alG=> bo (au v7 5) λv51=> bnd (st 1 v51 v49 alG) λ_ aqQ=> ck (bQ v48) ai4 alG <|
    oG C v6 v7 aqQ)
   (bo (bi .eql 3 v19 (I 6)) λv53=>
    aV v53
    (fld v3 4 H λv55 aqR=> bo (au v3 5) λv56=> bnd (ld v56 aqR) λv57 aqS=> bo (au v3 6) λv58=> bnd (ld v58 aqS) λv59 aod=> bnd (lnS v59 aod) λv60 aqT=> bo (bi .gtr 3 v60 (I 0)) λv61=> bo (au v3 6) λv62=> bnd (ld v62 aqT) λv63 H9=> bnd (unG H9 (C 36 [v63] H9.guard)) λv64 H10=> bo (au v7 6) λv65=> bnd (st 1 v65 v55 H10) λ_ H12=> bo (au v7 5) λv66=> bnd (st 1 v66 v57 H12) λ_ H14=> bo (au v7 7) λv67=> bnd (st 1 v67 v61 H14) λ_ H16=> bo (au v7 8) λv68=> bnd (st 1 v68 v64 H16) λ_ H18=> ck (bQ v56) H10 H12 <| ck (bQ v58) H10 H12 <| ck (bQ v58) H12 H14 <| ck (bQ v59) H10 H12 <| ck (bQ v59) H12 H14 <|
    oG C v6 v7 H18)
    (bo (bd 81 []) λv20=> bnd (st 9 v6 v20 H) λ_ H=>
    bnd (lda 9 v6 H) λr0 _=> some (r0,H)))))))
theorem al9:Rn3 192 Dy:=λ_ _ _ _ _ _ h=>
 rnG al8 Tryz.func192 (by kernel_rfl) (by kernel_rfl) h
def afY:Ann:=⟨[(4,[0,3,11,12,13])],[],[]⟩
def EF:=lT Tryz.prog Tryz.f193 33 afY 0
def Aa(C:aC)(t0 t3 t11 t12 t13:AV)(H:ah):OA:=
 bo (bi .add 3 t13 (I 1)) λv31=>
 EF C [t0,t3,t11,t12,v31] H
def afZ(C:aC)(a0:AV)(H:ah):OA:=
 bo (aA a0) λv7=> fld v7 1 H λv9 H=> bnd (C 224 [v9] H) λv10 H=> bnd (C 45 [v10] H) λv11 H=> bnd (lnS v11 H) λv12 H=>
 EF C [a0,(.s (Go.Value.slice none 0 0)),v11,v12,(I 0)] H
theorem U9(C:aC)(t0 t3 t11 t12 t13:AV)(H:ah):EF C [t0,t3,t11,t12,t13] H=
 bo (bi .lss 3 t13 t12) λv14=>
 aV v14
 (bnd (ix 1 t11 t13 H) λv15 H=> bnd (ld v15 H) λv16 H=>
  bnd (C 225 [t0,v16] H) λv19 H=> bo (un .not v19) λv20=> gl v20 true (some t0) H λv22 H=> gl v20 true (some v16) H λv23 H=> gdA (some v20) true (C 226 [v22,v23] H) H λv24 H=> gl v20 true (bi .gtr 3 v24 (I 0)) H λv25 H=> bo (dG v20 v25 (B false)) λv26=>
  aV v26
  (bnd (bs 22 1 [(0,v16)] H) λv29 H=> bnd (app 3 1 8 t3 v29 H) λv30 H=>
  Aa C t0 v30 t11 t12 t13 H)
  (Aa C t0 t3 t11 t12 t13 H))
 (some (t3,H)):=
 lpE.trans (by kernel_rfl)
theorem ama:Rn1 193 afZ:=λ_ _ _ _ h=>
 rnG afY Tryz.func193 (by kernel_rfl) (by kernel_rfl) h
def amb:Ann:=⟨[],[(1,rF 11 [])],[]⟩
def af0(C:aC)(a0:AV)(H:ah):OA:=
 bo (aA a0) λv4=> fld v4 1 H λv6 H=> bo (aA a0) λv8=> fld v8 0 H λv10 H=> bnd (lnS v10 H) λv11 H=> bo (bi .sub 3 v6 v11) λv12=>
 some (v12,H)
theorem amc:Rn1 194 af0:=λ_ _ _ _ h=>
 rnG amb Tryz.func194 (by kernel_rfl) (by kernel_rfl) h
def amd:Ann:=⟨[],[(4,rF 13 []),(5,rF 8 []),(6,rF 7 [])],[]⟩
def Va(C:aC)(a0 a1:AV)(H:ah):OA:=
 bnd (C 225 [a0,a1] H) λv10 H=> gl v10 false (some a0) H λv12 H=> gl v10 false (some a1) H λv13 H=> gdA (some v10) false (C 226 [v12,v13] H) H λv14 H=> gl v10 false (bi .eql 3 v14 (I 0)) H λv15 H=> bo (dG v10 (B true) v15) λv16=>
 aV v16
 (some (.tup [(I 0),(I 0),(B false)],H))
 (bo (aA a0) λv18=> fld v18 1 H λv20 H=> bnd (lk .i64 (.slice none 0 0) v20 a1 false H) λv22 H=> bnd (ix 2 v22 (I 0) H) λv23 H=> bnd (lda 2 v23 H) λv24 H=> bnd (alc 322 [zI,zI] H) λv7 H=> bnd (st 2 v7 v24 H) λ_ H=>
  bo (aA a0) λv26=> fld v26 1 H λv28 H=> bo (aA a0) λv31=> fld v31 1 H λv33 H=> bnd (lk .i64 (.slice none 0 0) v33 a1 false H) λv35 H=> bo (slS 2 v35 (some (I 1)) none none) λv36=> bnd (mup .i64 v28 a1 v36 H) λ_ H=>
  bo (aA a0) λv38=> fld v38 0 H λv40 H=> fld v7 0 H λv43 H=> bnd (mup .i64 v40 a1 v43 H) λ_ H=>
  fld v7 0 H λv45 H=> fld v7 1 H λv47 H=>
  some (.tup [v45,v47,(B true)],H))
theorem ame:Rn2 195 Va:=λ_ _ _ _ _ h=>
 rnG amd Tryz.func195 (by kernel_rfl) (by kernel_rfl) h
def amf:Ann:=⟨[],[(2,rF 15 [])],[]⟩
def af2(C:aC)(a0 a1 a2 a3:AV)(H:ah):OA:=
 bnd (alc 81 [zI,zI,zI,zI,zI,zI,zI,zB,zN] H) λv8 H=>
 bo (aA a0) λv13=> fld v13 0 H λv15 H=> bnd (C 124 [v15,a1] H) λv17 H=> bo (aJ v17 0) λv18=> bo (aJ v17 1) λv19=> bnd (alc 95 [zI,zI,zN] H) λv9 H=> bnd (st 3 v9 v18 H) λ_ H=>
 bo (aA a0) λv21=> fld v21 10 H λv23 H=> fld v9 0 H λv28 H=> fld v9 1 H λv30 H=> fld v9 2 H λv32 H=> bo (bd 81 [(0,(I 7)),(1,v23),(2,a2),(3,a3),(4,a1),(6,v28),(5,v30),(8,v32)]) λv33=> bnd (st 9 v8 v33 H) λ_ H=>
 bnd (lda 9 v8 H) λr0 _=> some (r0,H)
theorem amg:Rn4 196 af2:=λ_ _ _ _ _ _ _ h=>
 rnG amf Tryz.func196 (by kernel_rfl) (by kernel_rfl) h
def amh:Ann:=⟨[],[(3,rF 6 (some true::rF 5 []))],[]⟩
def ZR(C:aC)(a0 a1:AV)(H:ah):OA:=
 bnd (jc 81 a1 H) λv3 H=>
 bnd (C 194 [a0] H) λv6 H=> bo (bi .eql 3 v6 (I 0)) λv7=>
 aV v7
 (some ((I 5),H))
 (bo (aA a0) λv10=> fld v10 0 H λv12 H=> bnd (lda 9 v3 H) λv13 H=> bnd (unG H (C 116 [v13] H.guard)) λv14 H=> bnd (bs 175 1 [(0,v14)] H) λv15 H=> bnd (app 81 9 88 v12 v15 H) λv16 H=> bo (aA a0) λv17=> bo (au v17 0) λv18=> bnd (st 1 v18 v16 H) λ_ H=>
  some ((I 0),H))
theorem af4:Rn2 197 ZR:=λ_ _ _ _ _ h=>
 rnG amh Tryz.func197 (by kernel_rfl) (by kernel_rfl) h
def ami:Ann:=⟨[],[(1,rF 23 []),(4,rF 6 (some true::rF 15 [])),(7,rF 12 []),(13,rF 14 [])],[]⟩
def tJ(C:aC)(a0 a1:AV)(H:ah):OA:=
 bnd (jc 81 a1 H) λv3 H=> bnd (alc 81 [zI,zI,zI,zI,zI,zI,zI,zB,zN] H) λv4 H=>
 bnd (lda 9 v3 H) λv9 H=> bnd (C 174 [v9] H) λv10 H=> bo (bi .eql 57 v10 (I 0)) λv11=> gl v11 true (au v3 2) H λv13 H=> gdA (some v11) true (ld v13 H) H λv14 H=> gl v11 true (some a0) H λv15 H=> gl v11 true (aA v15) H λv16 H=> gl v11 true (au v16 10) H λv17 H=> gdA (some v11) true (ld v17 H) H λv18 H=> gl v11 true (bi .eql 3 v14 v18) H λv19 H=> bo (dG v11 v19 (B false)) λv20=> gl v20 true (au v3 1) H λv22 H=> gdA (some v20) true (ld v22 H) H λv23 H=> gl v20 true (some a0) H λv24 H=> gl v20 true (aA v24) H λv25 H=> gl v20 true (au v25 2) H λv26 H=> gl v20 true (au v26 0) H λv27 H=> gdA (some v20) true (ld v27 H) H λv28 H=> gl v20 true (bi .lss 3 v23 v28) H λv29 H=> bo (dG v20 v29 (B false)) λv30=>
 bo (un .not v30) λv32=> gl v32 false (au v3 0) H λv34 H=> gdA (some v32) false (ld v34 H) H λv35 H=> gl v32 false (bi .neq 3 v35 (I 1)) H λv36 H=> gl v32 false (some v36) H λv37 H=> gl v37 true (au v3 0) H λv38 H=> gdA (some v37) true (ld v38 H) H λv39 H=> gl v37 true (bi .neq 3 v39 (I 2)) H λv40 H=> gl v32 false (dG v37 v40 (B false)) H λv41 H=> bo (dG v32 (B true) v41) λv42=>
 aV v42
 (bo (bd 81 []) λv43=> bnd (st 9 v4 v43 H) λ_ H=>
  bnd (lda 9 v4 H) λr0 _=> some (.tup [r0,(B false),(I 1)],H))
 (bo (aA a0) λv45=> bo (au v45 2) λv46=> bnd (lda 8 v46 H) λv47 H=> fld v3 4 H λv49 H=> bnd (unG H (C 42 [v47,v49] H.guard)) λv50 H=> bo (aA a0) λv52=> fld v52 10 H λv54 H=> bo (bi .neq 3 v50 v54) λv55=> gl v55 false (au v3 4) H λv57 H=> gdA (some v55) false (ld v57 H) H λv58 H=> gl v55 false (some a0) H λv59 H=> gl v55 false (aA v59) H λv60 H=> gl v55 false (au v60 2) H λv61 H=> gl v55 false (au v61 1) H λv62 H=> gdA (some v55) false (ld v62 H) H λv63 H=> gl v55 false (bi .geq 3 v58 v63) H λv64 H=> bo (dG v55 (B true) v64) λv65=>
  aV v65
  (bo (bd 81 []) λv66=> bnd (st 9 v4 v66 H) λ_ H=>
  bnd (lda 9 v4 H) λr0 _=> some (.tup [r0,(B false),(I 3)],H))
  (fld v3 0 H λv68 H=> bo (bi .eql 3 v68 (I 1)) λv69=>
  aV v69
  (bo (aA a0) λv71=> fld v71 1 H λv73 H=> fld v3 4 H λv75 H=> fld v3 1 H λv77 H=> fld v3 3 H λv79 H=> bnd (C 227 [v73,v75,v77,v79] H) λv80 H=> bo (un .not v80) λv81=>
   aV v81
   (bo (bd 81 []) λv82=> bnd (st 9 v4 v82 H) λ_ H=>
   bnd (lda 9 v4 H) λr0 _=> some (.tup [r0,(B false),(I 0)],H))
   (fld v3 4 H λv85 H=> fld v3 1 H λv87 H=> fld v3 3 H λv89 H=> bnd (C 196 [a0,v85,v87,v89] H) λv90 H=> bnd (st 9 v4 v90 H) λ_ H=>
   bnd (lda 9 v4 H) λr0 _=> some (.tup [r0,(B true),(I 0)],H)))
  (bnd (lda 9 v3 H) λv92 H=> bnd (C 228 [a0,v92] H) λv93 H=>
   bo (bi .neq 57 v93 (I 0)) λv95=>
   aV v95
   (bo (bd 81 []) λv96=> bnd (st 9 v4 v96 H) λ_ H=>
   bnd (lda 9 v4 H) λr0 _=> some (.tup [r0,(B false),v93],H))
   (bo (aA a0) λv99=> fld v99 10 H λak1 H=> fld v3 1 H λapw H=> fld v3 3 H λv105 H=> fld v3 4 H λv107 H=> bo (bd 81 [(0,(I 8)),(1,ak1),(2,apw),(3,v105),(4,v107)]) λaqU=> bnd (st 9 v4 aqU H) λ_ H=>
   bnd (lda 9 v4 H) λr0 _=> some (.tup [r0,(B true),(I 0)],H)))))
theorem amj:Rn2 198 tJ:=λ_ _ _ _ _ h=>
 rnG ami Tryz.func198 (by kernel_rfl) (by kernel_rfl) h
def amk:Ann:=⟨[],[(6,some false::some false::some true::rF 9 (none::some false::[])),(9,rF 8 []),(17,rF 13 []),(20,rF 6 [])],[(9,[(3,5)]),(17,[(3,8),(6,8),(6,10)]),(20,[(0,3)])]⟩
def xH(C:aC)(t0 t4 t6 t8:AV)(H:ah):OA:=
 bnd (lda 9 t8 H) λv89 H0=> bnd (lda 6 t6 H0) λv91 H2=> bnd (C 191 [t0,v91] H2) λv92 H3=> bnd (st 9 t4 v89 H3) λ_ H4=> ck (bQ t8) H2 H3 <|
 bnd (lda 9 t4 H4) λr0 _=> some (.tup [r0,v92],H4)
def Ac(C:aC)(a0 a1:AV)(H:ah):OA:=
 bnd (jc 81 a1 H) λv3 H=> bnd (alc 81 [zI,zI,zI,zI,zI,zI,zI,zB,zN] H) λv4 H=>
 bnd (lda 9 v3 H) λv9 H=> bnd (C 174 [v9] H) λv10 H=> bo (bi .neq 57 v10 (I 0)) λv11=> gl v11 false (au v3 0) H λv13 H=> gdA (some v11) false (ld v13 H) H λv14 H=> gl v11 false (bi .lss 3 v14 (I 3)) H λv15 H=> bo (dG v11 (B true) v15) λv16=> gl v16 false (au v3 0) H λv18 H=> gdA (some v16) false (ld v18 H) H λv19 H=> gl v16 false (bi .gtr 3 v19 (I 6)) H λv20 H=> bo (dG v16 (B true) v20) λv21=>
 aV v21
 (bo (bd 81 []) λv22=> bnd (st 9 v4 v22 H) λ_ H=>
  bnd (lda 9 v4 H) λr0 _=> some (.tup [r0,(I 1)],H))
 (fld v3 4 H λv26 H=> bnd (C 41 [a0,v26] H) λv27 H=> bo (aJ v27 0) λv28=> bo (aJ v27 1) λv29=> bnd (alc 100 [zI,zI,zI,zI,zB,zN] H) λv6 H=> bnd (st 6 v6 v28 H) λ_ H=>
  bo (un .not v29) λv31=>
  aV v31
  (bo (bd 81 []) λv32=> bnd (st 9 v4 v32 H) λ_ H=>
  bnd (lda 9 v4 H) λr0 _=> some (.tup [r0,(I 3)],H))
  (bnd (alc 81 [zI,zI,zI,zI,zI,zI,zI,zB,zN] H) λv8 H=> fld v3 0 H λv34 H=> bnd (unG H (C 229 [v34] H.guard)) λv35 H=> fld v3 2 H λv37 H=> fld v3 1 H λv39 H=> fld v3 3 H λv41 H=> fld v3 4 H λv43 H=> bo (bd 81 [(0,v35),(1,v37),(2,v39),(3,v41),(4,v43)]) λv44=> bnd (st 9 v8 v44 H) λ_ H=>
  fld v3 0 H λv46 H=>
  bo (bi .eql 3 v46 (I 3)) λv48=>
  aV v48
  (fld v6 5 H λv50 H1=> bo (au v6 4) λv51=> bnd (ld v51 H1) λv52 H3=> bo (au v8 8) λv53=> bnd (st 1 v53 v50 H3) λ_ H5=> bo (au v8 7) λv54=> bnd (st 1 v54 v52 H5) λ_ H7=> ck (bQ v51) H3 H5 <|
   bo (au v6 4) λv55=> bnd (st 1 v55 (B false) H7) λ_ H7=>
   bo (au v6 0) λv56=> fld v3 5 H7 λv58 H7=> bnd (C 230 [v56,v58] H7) λv59 H7=>
   xH C a0 v4 v6 v8 H7)
  (bo (bi .eql 3 v46 (I 4)) λv61=>
   aV v61
   (bo (au v6 0) λv62=> fld v3 5 H λv64 H=> bnd (C 231 [v62,v64] H) λv65 H=>
   xH C a0 v4 v6 v8 H)
   (bo (bi .eql 3 v46 (I 5)) λv67=>
   aV v67
   (bo (au v6 0) λv68=> fld v3 5 H λv70 H=> bnd (C 230 [v68,v70] H) λv71 H=>
    xH C a0 v4 v6 v8 H)
   (bo (bi .eql 3 v46 (I 6)) λv73=>
    aV v73
    (fld v6 5 H λv75 apx=> bo (au v6 4) λv76=> bnd (ld v76 apx) λv77 ai4=> bo (au v6 0) λv78=> bo (au v78 0) λv79=> bnd (ld v79 ai4) λv80 aml=> bo (au v8 8) λv81=> bnd (st 1 v81 v75 aml) λ_ H8=> bo (au v8 7) λv82=> bnd (st 1 v82 v77 H8) λ_ H10=> bo (au v8 5) λv83=> bnd (st 1 v83 v80 H10) λ_ H12=> ck (bQ v76) aml H8 <| ck (bQ v79) aml H8 <| ck (bQ v79) H8 H10 <|
    fld v3 4 H12 λv86 H12=> bnd (C 232 [a0,v86] H12) λv87 H12=>
    bnd (lda 9 v8 H12) λv88 H12=> bnd (st 9 v4 v88 H12) λ_ H12=>
    bnd (lda 9 v4 H12) λr0 _=> some (.tup [r0,(I 0)],H12))
    (xH C a0 v4 v6 v8 H))))))
theorem af5:Rn2 199 Ac:=λ_ _ _ _ _ h=>
 rnG amk Tryz.func199 (by kernel_rfl) (by kernel_rfl) h
def af6(C:aC)(a0 a1 a2:AV)(H:ah):OA:=
 bnd (alc 73 [zI,zI,zI,zI,zI,zI,zN,zI,zI] H) λv6 H=>
 bo (bd 73 [(0,a0),(1,a1),(2,a2),(3,(I 1)),(5,(I (-1))),(7,(I (-1))),(8,(I (-1)))]) λv10=> bnd (st 9 v6 v10 H) λ_ H=>
 bnd (lda 9 v6 H) λr0 _=> some (r0,H)
theorem amm:Rn3 200 af6:=λ_ _ _ _ _ _ h=>
 rnG an0 Tryz.func200 (by kernel_rfl) (by kernel_rfl) h
def af7:Ann:=⟨[(4,[0,1,5,11,12,13])],[(5,rF 18 [])],[]⟩
def EG:=lT Tryz.prog Tryz.f201 41 af7 0
def Ad(C:aC)(t0 t1 t5 t11 t12 t13:AV)(H:ah):OA:=
 bo (bi .add 3 t13 (I 1)) λv39=>
 EG C [t0,t1,t5,t11,t12,v39] H
def af8(C:aC)(a0 a1:AV)(H:ah):OA:=
 bo (aA a0) λv9=> fld v9 0 H λv11 H=> bnd (lnS v11 H) λv12 H=>
 EG C [a0,a1,(.s (Go.Value.slice none 0 0)),v11,v12,(I 0)] H
theorem Vb(C:aC)(t0 t1 t5 t11 t12 t13:AV)(H:ah):EG C [t0,t1,t5,t11,t12,t13] H=
 bo (bi .lss 3 t13 t12) λv14=>
 aV v14
 (bnd (ix 6 t11 t13 H) λv15 H=> bnd (lda 6 v15 H) λv16 H=> bnd (alc 100 [zI,zI,zI,zI,zB,zN] H) λv7 H=> bnd (st 6 v7 v16 H) λ_ H=>
  bo (bi .geq 3 t1 (I 0)) λv18=> gl v18 true (au v7 2) H λv20 H=> gdA (some v18) true (ld v20 H) H λv21 H=> gl v18 true (some t0) H λv22 H=> gl v18 true (aA v22) H λv23 H=> gl v18 true (au v23 1) H λv24 H=> gdA (some v18) true (ld v24 H) H λv25 H=> gl v18 true (bi .rem 3 v21 v25) H λv26 H=> gl v18 true (some t1) H λv27 H=> gl v18 true (some t0) H λv28 H=> gl v18 true (aA v28) H λv29 H=> gl v18 true (au v29 1) H λv30 H=> gdA (some v18) true (ld v30 H) H λv31 H=> gl v18 true (bi .rem 3 v27 v31) H λv32 H=> gl v18 true (bi .eql 3 v26 v32) H λv33 H=> bo (dG v18 v33 (B false)) λv34=>
  aV v34
  (bnd (lda 6 v7 H) λv36 H=> bnd (bs 111 1 [(0,v36)] H) λv37 H=> bnd (app 100 6 64 t5 v37 H) λv38 H=>
  Ad C t0 t1 v38 t11 t12 t13 H)
  (Ad C t0 t1 t5 t11 t12 t13 H))
 (some (t5,H)):=
 lpE.trans (by kernel_rfl)
theorem amn:Rn2 201 af8:=λ_ _ _ _ _ h=>
 rnG af7 Tryz.func201 (by kernel_rfl) (by kernel_rfl) h
def af9:Ann:=⟨[(6,[0,1,4,5,6])],[(7,rF 8 [])],[]⟩
def EH:=lT Tryz.prog Tryz.f202 33 af9 0
def LY(C:aC)(t0 t1 t4:AV)(H:ah):OA:=
 bnd (ix 6 t0 (I 0) H) λv12 H=> bnd (lda 6 v12 H) λv13 H=> bnd (alc 100 [zI,zI,zI,zI,zB,zN] H) λv5 H=> bnd (st 6 v5 v13 H) λ_ H=>
 EH C [t0,t1,t4,v5,(I 1)] H
def EI(C:aC)(t0 t1 t4 t5 t6:AV)(H:ah):OA:=
 bo (bi .add 3 t6 (I 1)) λv19=>
 EH C [t0,t1,t4,t5,v19] H
def aga(C:aC)(a0 a1:AV)(H:ah):OA:=
 bnd (alc 100 [zI,zI,zI,zI,zB,zN] H) λv4 H=>
 bnd (lnS a0 H) λv8 H=> bo (bi .lss 3 v8 (I 1)) λv9=>
 aV v9
 (bnd (stk H) λv10 H=> bnd (stk H) λ_ H=>
  LY C a0 a1 v4 H)
 (LY C a0 a1 v4 H)
theorem Vd(C:aC)(t0 t1 t4 t5 t6:AV)(H:ah):EH C [t0,t1,t4,t5,t6] H=
 bnd (lnS t0 H) λv16 H=> bo (bi .lss 3 t6 v16) λv17=>
 aV v17
 (bnd (ix 6 t0 t6 H) λv23 H=> bnd (lda 6 v23 H) λv24 H=> bnd (lda 6 t5 H) λv25 H=> bnd (rP Tryz.prog C t1 [v24,v25] H) λv26 H=> bo (bi .lss 3 v26 (I 0)) λv27=>
  aV v27
  (bnd (ix 6 t0 t6 H) λv30 H=> bnd (lda 6 v30 H) λv31 H=> bnd (st 6 t5 v31 H) λ_ H=>
  EI C t0 t1 t4 t5 t6 H)
  (EI C t0 t1 t4 t5 t6 H))
 (bnd (lda 6 t5 H) λv32 H=> bnd (st 6 t4 v32 H) λ_ H=>
  bnd (lda 6 t4 H) λr0 _=> some (r0,H)):=
 lpE.trans (by kernel_rfl)
theorem amo:Rn2 202 aga:=λ_ _ _ _ _ h=>
 rnG af9 Tryz.func202 (by kernel_rfl) (by kernel_rfl) h
def agb(C:aC)(a0 a1:AV)(H:ah):OA:=
 bnd (jc 100 a0 H) λv2 H=> bnd (jc 100 a1 H) λv3 H=>
 fld v2 3 H λv6 H=> fld v3 3 H λv8 H=> bo (bi .sub 3 v6 v8) λv9=>
 some (v9,H)
theorem amq:Rn2 203 agb:=λ_ _ _ _ _ h=>
 rnG an0 Tryz.func203 (by kernel_rfl) (by kernel_rfl) h
def agc(C:aC)(a0 a1:AV)(H:ah):OA:=
 bnd (jc 31 a0 H) λv2 H=>
 bo (bi .lss 3 a1 (I 0)) λv8=> gl v8 false (some a1) H λv10 H=> gl v8 false (au v2 1) H λv11 H=> gdA (some v8) false (ld v11 H) H λv12 H=> gl v8 false (bi .geq 3 v10 v12) H λv13 H=> bo (dG v8 (B true) v13) λv14=>
 aV v14
 (some ((.s (Go.Value.slice none 0 0)),H))
 (fld v2 2 H λv16 H=> bnd (mks 3 1 8 [zI] v16 v16 H) λv17 H=>
  fld v2 2 H λv20 H=> bo (bi .mul 3 a1 v20) λv21=> fld v2 7 H λv23 H=> bnd (lnS v23 H) λv24 H=> bnd (fQ (lK Tryz.prog false #[3,3] 3 [v21,v24]) H) λv25 H=>
  fld v2 7 H λv28 H=> bo (slS 1 v28 (some v25) none none) λv30=> bnd (cpy 1 v17 v30 H) λv31 H=>
  some (v17,H))
theorem amr:Rn2 204 agc:=λ_ _ _ _ _ h=>
 rnG an0 Tryz.func204 (by kernel_rfl) (by kernel_rfl) h
def PG(C:aC)(a0 a1 a2:AV)(H:ah):OA:=
 bo (bi .geq 3 a0 a1) λv9=> gl v9 true (some a0) H λv11 H=> gl v9 true (some a2) H λv12 H=> gl v9 true (bi .lss 3 v11 v12) H λv13 H=> bo (dG v9 v13 (B false)) λv14=>
 some (v14,H)
theorem agd:Rn3 211 PG:=λ_ _ _ _ _ _ h=>
 rnG an0 Tryz.func211 (by kernel_rfl) (by kernel_rfl) h
def ZT:Ann:=⟨[(4,[3,7,8,9]),(8,[3,7,8,9,18])],[],[]⟩
def Ae:=lT Tryz.prog Tryz.f212 30 ZT 0
def EJ:=lT Tryz.prog Tryz.f212 30 ZT 1
def agf(C:aC)(a0:AV)(H:ah):OA:=
 bnd (lnS a0 H) λv8 H=>
 Ae C [(.s (Go.Value.int Go.IntKind.u16 65535)),a0,v8,(I 0)] H
theorem Ve(C:aC)(t3 t7 t8 t9:AV)(H:ah):Ae C [t3,t7,t8,t9] H=
 bo (bi .lss 3 t9 t8) λv10=>
 aV v10
 (bnd (ix 1 t7 t9 H) λv11 H=> bnd (ld v11 H) λv12 H=>
  bnd (cv 5 42 v12 H) λv15 H=> bo (bi .shl 42 v15 (.s (Go.Value.int Go.IntKind.u64 8))) λv16=> bo (bi .xor 42 t3 v16) λv17=>
  EJ C [v17,t7,t8,t9,(I 0)] H)
 (some (t3,H)):=
 lpE.trans (by kernel_rfl)
theorem Vf(C:aC)(t3 t7 t8 t9 t18:AV)(H:ah):EJ C [t3,t7,t8,t9,t18] H=
 bo (bi .lss 3 t18 (I 8)) λv19=>
 aV v19
 (bo (bi .shr 42 t3 (.s (Go.Value.int Go.IntKind.u64 15))) λv21=>
  bo (bi .shl 42 t3 (.s (Go.Value.int Go.IntKind.u64 1))) λv23=> bo (bi .mul 42 v21 (.s (Go.Value.int Go.IntKind.u16 4129))) λv25=> bo (bi .xor 42 v23 v25) λv26=>
  bo (bi .add 3 t18 (I 1)) λv27=>
  EJ C [v26,t7,t8,t9,v27] H)
 (bo (bi .add 3 t9 (I 1)) λv28=>
  Ae C [t3,t7,t8,v28] H):=
 lpE.trans (by kernel_rfl)
theorem ams:Rn1 212 agf:=λ_ _ _ _ h=>
 rnG ZT Tryz.func212 (by kernel_rfl) (by kernel_rfl) h
def ZU:Ann:=⟨[(4,[0,3,9,10,11]),(12,[6,25,26,27])],[],[]⟩
def LZ:=lT Tryz.prog Tryz.f213 36 ZU 0
def L6:=lT Tryz.prog Tryz.f213 36 ZU 1
def EK(C:aC)(t0 t3 t9 t10 t11:AV)(H:ah):OA:=
 bo (bi .add 3 t11 (I 1)) λv22=>
 LZ C [t0,t3,t9,t10,v22] H
def agh(C:aC)(a0:AV)(H:ah):OA:=
 bnd (lnS a0 H) λv10 H=>
 LZ C [a0,(I 0),a0,v10,(I 0)] H
theorem L8(C:aC)(t0 t3 t9 t10 t11:AV)(H:ah):LZ C [t0,t3,t9,t10,t11] H=
 bo (bi .lss 3 t11 t10) λv12=>
 aV v12
 (bnd (ix 1 t9 t11 H) λv13 H=> bnd (ld v13 H) λv14 H=>
  bnd (lnS v14 H) λv17 H=> bo (bi .add 3 t3 v17) λv18=>
  bo (bi .lss 3 v18 (I 0)) λv20=>
  aV v20
  (bnd (stk H) λv21 H=> bnd (stk H) λ_ H=>
  EK C t0 v18 t9 t10 t11 H)
  (EK C t0 v18 t9 t10 t11 H))
 (bnd (C 234 [(.s (Go.Value.slice none 0 0)),t3] H) λv24 H=>
  bnd (lnS t0 H) λv26 H=>
  L6 C [v24,t0,v26,(I 0)] H):=
 lpE.trans (by kernel_rfl)
theorem L9(C:aC)(t6 t25 t26 t27:AV)(H:ah):L6 C [t6,t25,t26,t27] H=
 bo (bi .lss 3 t27 t26) λv28=>
 aV v28
 (bnd (ix 1 t25 t27 H) λv29 H=> bnd (ld v29 H) λv30 H=>
  bnd (app 5 1 1 t6 v30 H) λv33 H=>
  bo (bi .add 3 t27 (I 1)) λv34=>
  L6 C [v33,t25,t26,v34] H)
 (some (t6,H)):=
 lpE.trans (by kernel_rfl)
theorem amu:Rn1 213 agh:=λ_ _ _ _ h=>
 rnG ZU Tryz.func213 (by kernel_rfl) (by kernel_rfl) h
def EL(C:aC)(t2 t4 t5:AV)(H:ah):OA:=
 bnd (lda 9 t4 H) λv20 H=> bnd (st 9 t2 v20 H) λ_ H=>
 bnd (lda 9 t2 H) λr0 _=> some (.tup [r0,t5],H)
def ZV(C:aC)(a0:AV)(H:ah):OA:=
 bnd (alc 81 [zI,zI,zI,zI,zI,zI,zI,zB,zN] H) λv2 H=>
 bnd (C 235 [a0] H) λv8 H=> bo (aJ v8 0) λv9=> bo (aJ v8 1) λv10=> bnd (alc 81 [zI,zI,zI,zI,zI,zI,zI,zB,zN] H) λv4 H=> bnd (st 9 v4 v9 H) λ_ H=>
 aV v10
 (bo (aA a0) λv14=> fld v14 0 H λv16 H=> bnd (C 133 [v16,(I 0),(I 1)] H) λv17 H=> bo (aA a0) λv18=> bo (au v18 0) λv19=> bnd (st 1 v19 v17 H) λ_ H=>
  EL C v2 v4 v10 H)
 (EL C v2 v4 v10 H)
theorem amv:Rn1 215 ZV:=λ_ _ _ _ h=>
 rnG an0 Tryz.func215 (by kernel_rfl) (by kernel_rfl) h
def JJ(C:aC)(a0 a1:AV)(H:ah):OA:=
 bnd (jc 73 a0 H) λv2 H=> bnd (jc 81 a1 H) λv3 H=>
 fld v2 3 H λv7 H=> bnd (C 223 [v7] H) λv8 H=> bnd (C 229 [v8] H) λv9 H=>
 bo (bi .neq 3 v9 (I 0)) λv11=> gl v11 true (au v3 0) H λv13 H=> gdA (some v11) true (ld v13 H) H λv14 H=> gl v11 true (some v9) H λv15 H=> gl v11 true (bi .eql 3 v14 v15) H λv16 H=> bo (dG v11 v16 (B false)) λv17=> gl v17 true (au v3 3) H λv19 H=> gdA (some v17) true (ld v19 H) H λv20 H=> gl v17 true (au v2 2) H λv21 H=> gdA (some v17) true (ld v21 H) H λv22 H=> gl v17 true (bi .eql 3 v20 v22) H λv23 H=> bo (dG v17 v23 (B false)) λv24=> gl v24 true (au v3 4) H λv26 H=> gdA (some v24) true (ld v26 H) H λv27 H=> gl v24 true (au v2 1) H λv28 H=> gdA (some v24) true (ld v28 H) H λv29 H=> gl v24 true (bi .eql 3 v27 v29) H λv30 H=> bo (dG v24 v30 (B false)) λv31=>
 some (v31,H)
theorem amw:Rn2 216 JJ:=λ_ _ _ _ _ h=>
 rnG an0 Tryz.func216 (by kernel_rfl) (by kernel_rfl) h
def amx:Ann:=⟨[],[(1,rF 8 (some true::rF 8 []))],[(1,[(3,10),(5,10),(5,12)])]⟩
def ZW(C:aC)(a0 a1 a2 a3:AV)(H:ah):OA:=
 bnd (jc 73 a0 H) λv4 H=> bnd (jc 81 a3 H) λv7 H=> bnd (alc 73 [zI,zI,zI,zI,zI,zI,zN,zI,zI] H) λv8 H=>
 fld v7 6 H λv11 H1=> bo (au v7 5) λv12=> bnd (ld v12 H1) λv13 H3=> bo (au v7 5) λv14=> bnd (ld v14 H3) λv15 H5=> fld v7 8 H5 λv17 H7=> bnd (unG H7 (C 36 [v17] H7.guard)) λv18 H8=> bo (au v4 4) λv19=> bnd (st 1 v19 v11 H8) λ_ H10=> bo (au v4 5) λv20=> bnd (st 1 v20 v13 H10) λ_ H12=> bo (au v4 8) λv21=> bnd (st 1 v21 v15 H12) λ_ H14=> bo (au v4 6) λv22=> bnd (st 1 v22 v18 H14) λ_ H16=> ck (bQ v12) H8 H10 <| ck (bQ v14) H8 H10 <| ck (bQ v14) H10 H12 <|
 fld v4 4 H16 λv24 H16=> bo (bi .neq 3 v24 (I 0)) λv25=>
 aV v25
 (bo (au v4 3) λv26=> bnd (st 1 v26 (I 2) H16) λ_ H16=>
  bnd (lda 9 v4 H16) λv27 H16=> bnd (st 9 v8 v27 H16) λ_ H16=>
  bnd (lda 9 v8 H16) λr0 _=> some (.tup [r0,(B true)],H16))
 (fld v4 1 H16 λv30 H16=> fld v7 8 H16 λv32 H16=> bnd (C 236 [v30,(I (-1)),(I (-1)),(B false),v32] H16) λv33 H16=> bnd (C 191 [a2,v33] H16) λv34 H16=>
  bo (au v4 3) λv36=> bnd (st 1 v36 (I 6) H16) λ_ H16=> bo (au v4 4) λv37=> bnd (st 1 v37 (I 1) H16) λ_ H16=> bo (au v4 5) λv38=> bnd (st 1 v38 a1 H16) λ_ H16=> bo (au v4 6) λv39=> bnd (st 1 v39 (.s (Go.Value.slice none 0 0)) H16) λ_ H16=>
  bnd (lda 9 v4 H16) λv40 H16=> bnd (st 9 v8 v40 H16) λ_ H16=>
  bnd (lda 9 v8 H16) λr0 _=> some (.tup [r0,(B true)],H16))
theorem amy:Rn4 217 ZW:=λ_ _ _ _ _ _ _ h=>
 rnG amx Tryz.func217 (by kernel_rfl) (by kernel_rfl) h
def EM(C:aC)(t4 t8:AV)(H:ah):OA:=
 bnd (lda 9 t4 H) λv30 H=> bnd (st 9 t8 v30 H) λ_ H=>
 bnd (lda 9 t8 H) λr0 _=> some (.tup [r0,(B true)],H)
def ZX(C:aC)(a0 a1 a2 a3:AV)(H:ah):OA:=
 bnd (jc 73 a0 H) λv4 H=> bnd (jc 81 a3 H) λv7 H=> bnd (alc 73 [zI,zI,zI,zI,zI,zI,zN,zI,zI] H) λv8 H=>
 fld v4 1 H λv12 H=> fld v4 5 H λv14 H=> fld v7 8 H λv16 H=> bnd (C 236 [v12,v14,(I (-1)),(B false),v16] H) λv17 H=> bnd (C 191 [a2,v17] H) λv18 H=>
 bo (au v4 3) λv20=> bnd (st 1 v20 (I 6) H) λ_ H=> bo (au v4 4) λv21=> bnd (st 1 v21 (I 1) H) λ_ H=> bo (au v4 5) λv22=> bnd (st 1 v22 a1 H) λ_ H=> bo (au v4 6) λv23=> bnd (st 1 v23 (.s (Go.Value.slice none 0 0)) H) λ_ H=>
 fld v7 7 H λv25 H=>
 aV v25
 (fld v7 8 H λv27 H=> bnd (C 36 [v27] H) λv28 H=> bo (au v4 6) λv29=> bnd (st 1 v29 v28 H) λ_ H=>
  EM C v4 v8 H)
 (EM C v4 v8 H)
theorem amA:Rn4 218 ZX:=λ_ _ _ _ _ _ _ h=>
 rnG an0 Tryz.func218 (by kernel_rfl) (by kernel_rfl) h
def Af(C:aC)(t1 t2 t3 t6:AV)(H:ah):OA:=
 fld t3 7 H λv28 H=> bo (bi .neq 3 v28 (I (-1))) λv29=>
 aV v29
 (bo (au t3 3) λv30=> bnd (st 1 v30 (I 3) H) λ_ H=>
  bnd (lda 9 t3 H) λv31 H=> bnd (st 9 t6 v31 H) λ_ H=>
  bnd (lda 9 t6 H) λr0 _=> some (r0,H))
 (fld t3 1 H λv34 H=> fld t3 6 H λv36 H=> bnd (C 236 [v34,(I (-1)),(I (-1)),(B true),v36] H) λv37 H=> bnd (C 191 [t2,v37] H) λv38 H=>
  bo (au t3 3) λv40=> bnd (st 1 v40 (I 6) H) λ_ H=> bo (au t3 4) λv41=> bnd (st 1 v41 (I 2) H) λ_ H=> bo (au t3 5) λv42=> bnd (st 1 v42 t1 H) λ_ H=> bo (au t3 6) λv43=> bnd (st 1 v43 (.s (Go.Value.slice none 0 0)) H) λ_ H=>
  bnd (lda 9 t3 H) λv44 H=> bnd (st 9 t6 v44 H) λ_ H=>
  bnd (lda 9 t6 H) λr0 _=> some (r0,H))
def PI(C:aC)(a0 a1 a2:AV)(H:ah):OA:=
 bnd (jc 73 a0 H) λv3 H=> bnd (alc 73 [zI,zI,zI,zI,zI,zI,zN,zI,zI] H) λv6 H=>
 fld v3 1 H λv12 H=> bnd (C 41 [a2,v12] H) λv13 H=> bo (aJ v13 0) λv14=> bo (aJ v13 1) λv15=> bnd (alc 100 [zI,zI,zI,zI,zB,zN] H) λv7 H=> bnd (st 6 v7 v14 H) λ_ H=>
 fld v3 7 H λv17 H=> bo (bi .eql 3 v17 a1) λv19=> gl v19 true (some v15) H λv21 H=> bo (dG v19 v21 (B false)) λv22=>
 aV v22
 (bo (au v7 0) λv23=> fld v23 0 H λv25 H=> bo (au v3 7) λv26=> bnd (st 1 v26 v25 H) λ_ H=>
  Af C a1 a2 v3 v6 H)
 (Af C a1 a2 v3 v6 H)
theorem amB:Rn3 219 PI:=λ_ _ _ _ _ _ h=>
 rnG an0 Tryz.func219 (by kernel_rfl) (by kernel_rfl) h
def amC:Ann:=⟨[],[(1,rF 14 []),(4,rF 12 []),(13,rF 9 [])],[(1,[(3,7),(5,7),(5,9)]),(4,[(5,7)]),(13,[(2,4)])]⟩
def rD(C:aC)(t3 t6:AV)(H:ah):OA:=
 bnd (lda 9 t3 H) λv65 H=> bnd (st 9 t6 v65 H) λ_ H=>
 bnd (lda 9 t6 H) λr0 _=> some (r0,H)
def JK(C:aC)(a0 a1 a2:AV)(H:ah):OA:=
 bnd (jc 73 a0 H) λv3 H=> bnd (jc 81 a2 H) λv5 H=> bnd (alc 73 [zI,zI,zI,zI,zI,zI,zN,zI,zI] H) λv6 H=>
 fld v5 6 H λv10 H1=> bo (au v5 5) λv11=> bnd (ld v11 H1) λv12 H3=> bo (au v5 5) λv13=> bnd (ld v13 H3) λv14 H5=> bo (au v3 4) λv15=> bnd (st 1 v15 v10 H5) λ_ H7=> bo (au v3 5) λv16=> bnd (st 1 v16 v12 H7) λ_ H9=> bo (au v3 8) λv17=> bnd (st 1 v17 v14 H9) λ_ H11=> bo (au v3 6) λv18=> bnd (st 1 v18 (.s (Go.Value.slice none 0 0)) H11) λ_ H13=> ck (bQ v11) H5 H7 <| ck (bQ v13) H5 H7 <| ck (bQ v13) H7 H9 <|
 bo (au v3 3) λv19=> bnd (st 1 v19 (I 6) H13) λ_ H13=>
 fld v3 1 H13 λv23 H13=> bnd (C 41 [a1,v23] H13) λv24 H13=> bo (aJ v24 0) λv25=> bo (aJ v24 1) λv26=> bnd (alc 100 [zI,zI,zI,zI,zB,zN] H13) λv7 H13=> bnd (st 6 v7 v25 H13) λ_ H13=>
 bo (un .not v26) λv38=>
 aV v38
 (bnd (lda 9 v3 H13) λv39 H13=> bnd (st 9 v6 v39 H13) λ_ H13=>
  bnd (lda 9 v6 H13) λr0 _=> some (r0,H13))
 (bo (au v7 0) λv41=> bnd (lda 2 v41 H13) λv42 H13=> bnd (C 237 [v42] H13) λv43 H13=>
  aV v43
  (fld v3 1 H13 λv46 H13=> bnd (C 232 [a1,v46] H13) λv47 H13=>
  bo (au v3 4) λv48=> bnd (st 1 v48 (I 0) H13) λ_ H13=> bo (au v3 5) λv49=> bnd (st 1 v49 (I (-1)) H13) λ_ H13=>
  fld v7 4 H13 λv51 H13=>
  aV v51
  (fld v7 5 H13 λv53 H13=> bo (au v3 6) λv54=> bnd (st 1 v54 v53 H13) λ_ H13=>
   rD C v3 v6 H13)
  (rD C v3 v6 H13))
  (bo (au v7 0) λv56=> bnd (lda 2 v56 H13) λv57 H13=> bnd (C 238 [v57] H13) λv58 H13=>
  aV v58
  (bo (au v7 0) λv59=> bo (au v59 0) λv60=> bnd (ld v60 H13) λv61 aql=> bo (au v3 5) λv62=> bnd (st 1 v62 (I (-1)) aql) λ_ alF=> bo (au v3 7) λv63=> bnd (st 1 v63 v61 alF) λ_ aml=> bo (au v3 3) λv64=> bnd (st 1 v64 (I 5) aml) λ_ aqV=> ck (bQ v60) aql alF <|
   rD C v3 v6 aqV)
  (bo (au v7 0) λv27=> fld v27 1 H13 λv29 aqW=> bo (au v7 0) λv30=> bo (au v30 0) λv31=> bnd (ld v31 aqW) λv32 aod=> bo (au v3 5) λv33=> bnd (st 1 v33 v29 aod) λ_ aqm=> bo (au v3 7) λv34=> bnd (st 1 v34 v32 aqm) λ_ aoc=> bo (au v3 3) λv35=> bnd (st 1 v35 (I 4) aoc) λ_ apy=> ck (bQ v31) aod aqm <|
   rD C v3 v6 apy)))
theorem amD:Rn3 220 JK:=λ_ _ _ _ _ _ h=>
 rnG amC Tryz.func220 (by kernel_rfl) (by kernel_rfl) h
def agi(C:aC)(a0 a1 a2:AV)(H:ah):OA:=
 bnd (jc 73 a0 H) λv3 H=> bnd (alc 73 [zI,zI,zI,zI,zI,zI,zN,zI,zI] H) λv6 H=>
 fld v3 1 H λv9 H=> bnd (C 232 [a1,v9] H) λv10 H=>
 bo (au v3 3) λv12=> bnd (st 1 v12 (I 6) H) λ_ H=> bo (au v3 4) λv13=> bnd (st 1 v13 (I 1) H) λ_ H=> bo (au v3 5) λv14=> bnd (st 1 v14 a2 H) λ_ H=> bo (au v3 6) λv15=> bnd (st 1 v15 (.s (Go.Value.slice none 0 0)) H) λ_ H=>
 bnd (lda 9 v3 H) λv16 H=> bnd (st 9 v6 v16 H) λ_ H=>
 bnd (lda 9 v6 H) λr0 _=> some (r0,H)
theorem amE:Rn3 221 agi:=λ_ _ _ _ _ _ h=>
 rnG an0 Tryz.func221 (by kernel_rfl) (by kernel_rfl) h
def PK(C:aC)(a0 a1:AV)(H:ah):OA:=
 bnd (jc 100 a0 H) λv2 H=>
 bo (bi .geq 3 a1 (I 0)) λv6=> gl v6 true (some a1) H λv8 H=> gl v6 true (au v2 5) H λv9 H=> gdA (some v6) true (ld v9 H) H λv10 H=> gdA (some v6) true (lnS v10 H) H λv11 H=> gl v6 true (bi .lss 3 v8 v11) H λv12 H=> bo (dG v6 v12 (B false)) λv13=>
 some (v13,H)
theorem agj:Rn2 222 PK:=λ_ _ _ _ _ h=>
 rnG an0 Tryz.func222 (by kernel_rfl) (by kernel_rfl) h
def Dz(C:aC)(a0:AV)(H:ah):OA:=
 bo (bi .eql 3 a0 (I 1)) λv5=>
 aV v5
 (some ((I 1),H))
 (bo (bi .eql 3 a0 (I 2)) λv7=>
  aV v7
  (some ((I 3),H))
  (bo (bi .eql 3 a0 (I 3)) λv9=>
  aV v9
  (some ((I 6),H))
  (bo (bi .eql 3 a0 (I 4)) λv11=>
   aV v11
   (some ((I 4),H))
   (bo (bi .eql 3 a0 (I 5)) λv13=>
   aV v13
   (some ((I 5),H))
   (bo (bi .eql 3 a0 (I 6)) λv15=>
    aV v15
    (some ((I 2),H))
    (some ((I 0),H)))))))
theorem amF:Rn1 223 Dz:=λ_ _ _ _ h=>
 rnG an0 Tryz.func223 (by kernel_rfl) (by kernel_rfl) h
def agk(C:aC)(a0:AV)(H:ah):OA:=
 bnd (jc 216 a0 H) λv1 H=>
 some ((.fn (.func 239) [] [v1]),H)
theorem amG:Rn1 224 agk:=λ_ _ _ _ h=>
 rnG an0 Tryz.func224 (by kernel_rfl) (by kernel_rfl) h
def ZY(C:aC)(a0 a1:AV)(H:ah):OA:=
 bo (aA a0) λv9=> fld v9 0 H λv11 H=> bnd (lk .i64 (.int .i64 0) v11 a1 true H) λv13 H=> bo (aJ v13 0) λv14=> bo (aJ v13 1) λv15=>
 some (v15,H)
theorem amH:Rn2 225 ZY:=λ_ _ _ _ _ h=>
 rnG an0 Tryz.func225 (by kernel_rfl) (by kernel_rfl) h
def agl(C:aC)(a0 a1:AV)(H:ah):OA:=
 bo (aA a0) λv6=> fld v6 1 H λv8 H=> bnd (lk .i64 (.slice none 0 0) v8 a1 false H) λv10 H=> bnd (lnS v10 H) λv11 H=>
 some (v11,H)
theorem amI:Rn2 226 agl:=λ_ _ _ _ _ h=>
 rnG an0 Tryz.func226 (by kernel_rfl) (by kernel_rfl) h
def amJ:Ann:=⟨[],[(4,rF 17 [])],[(4,[(3,15)])]⟩
def PL(C:aC)(a0 a1 a2 a3:AV)(H:ah):OA:=
 bo (bi .lss 3 a2 (I 0)) λv10=>
 aV v10
 (some ((B false),H))
 (bnd (C 225 [a0,a1] H) λv13 H=> gl v13 false (some a0) H λv15 H=> gl v13 false (some a1) H λv16 H=> gdA (some v13) false (C 226 [v15,v16] H) H λv17 H=> gl v13 false (bi .gtr 3 v17 (I 0)) H λv18 H=> bo (dG v13 (B true) v18) λv19=>
  aV v19
  (bo (aA a0) λv21=> bo (au v21 1) λv22=> bnd (ld v22 H) λv23 H3=> bo (aA a0) λv26=> fld v26 1 H3 λv28 H8=> bnd (lk .i64 (.slice none 0 0) v28 a1 false H8) λv30 H10=> bo (bd 322 [(0,a2),(1,a3)]) λv33=> bnd (bs 320 1 [(0,v33)] H10) λv34 H14=> bnd (app 322 2 16 v30 v34 H14) λv35 H15=> bnd (mup .i64 v23 a1 v35 H15) λ_ H16=> ck (bQ v22) H14 H15 <|
  some ((B false),H16))
  (bo (aA a0) λv37=> fld v37 0 H λv39 H=> bnd (mup .i64 v39 a1 a2 H) λ_ H=>
  some ((B true),H)))
theorem amK:Rn4 227 PL:=λ_ _ _ _ _ _ _ h=>
 rnG amJ Tryz.func227 (by kernel_rfl) (by kernel_rfl) h
def amL:Ann:=⟨[],[(1,rF 6 (some true::rF 3 [])),(6,rF 13 []),(9,rF 10 [])],[]⟩
def xI(C:aC)(t0 t3 t5:AV)(H:ah):OA:=
 bo (aA t0) λv22=> fld v22 0 H λv24 H=> fld t3 4 H λv26 H=> fld t3 6 H λv28 H=> fld t3 5 H λv30 H=> bnd (C 240 [v24,v26,v28,v30,t5] H) λv32 H=>
 bo (bi .neq 57 v32 (I 0)) λv34=>
 aV v34
 (some (v32,H))
 (bo (aA t0) λv37=> fld v37 1 H λv39 H=> fld t3 4 H λv41 H=> fld t3 1 H λv43 H=> bnd (C 241 [v39,v41,v43] H) λv44 H=>
  some (v44,H))
def JL(C:aC)(a0 a1:AV)(H:ah):OA:=
 bnd (jc 81 a1 H) λv3 H=>
 bo (aA a0) λv8=> fld v8 1 H λv10 H=> fld v3 4 H λv12 H=> bnd (unG H (C 85 [v10,v12] H.guard)) λv13 H=> fld v3 1 H λv15 H=> bo (bi .neq 3 v13 v15) λv16=>
 aV v16
 (some ((I 6),H))
 (fld v3 7 H λv18 H=>
  aV v18
  (fld v3 8 H λv20 H=>
  xI C a0 v3 v20 H)
  (xI C a0 v3 (.s (Go.Value.slice none 0 0)) H))
theorem amM:Rn2 228 JL:=λ_ _ _ _ _ h=>
 rnG amL Tryz.func228 (by kernel_rfl) (by kernel_rfl) h
def Ah(C:aC)(t10:AV)(H:ah):OA:=
 aV t10
 (some ((I 9),H))
 (some ((I 0),H))
def pR(C:aC)(t3 t6:AV)(H:ah):OA:=
 aV t6
 (some ((I 8),H))
 (bo (bi .eql 3 t3 (I 3)) λv11=>
  aV v11
  (Ah C v11 H)
  (bo (bi .eql 3 t3 (I 6)) λv12=>
  Ah C v12 H))
def DC(C:aC)(a0:AV)(H:ah):OA:=
 bo (bi .eql 3 a0 (I 1)) λv5=>
 aV v5
 (some ((I 7),H))
 (bo (bi .eql 3 a0 (I 2)) λv7=>
  aV v7
  (pR C a0 v7 H)
  (bo (bi .eql 3 a0 (I 4)) λv8=>
  aV v8
  (pR C a0 v8 H)
  (bo (bi .eql 3 a0 (I 5)) λv9=>
   pR C a0 v9 H)))
theorem amN:Rn1 229 DC:=λ_ _ _ _ h=>
 rnG an0 Tryz.func229 (by kernel_rfl) (by kernel_rfl) h
def agm(C:aC)(a0 a1:AV)(H:ah):OA:=
 bo (aA a0) λv6=> bo (au v6 1) λv7=> bnd (st 1 v7 a1 H) λ_ H=>
 some (.tup [],H)
theorem amO:Rn2 230 agm:=λ_ _ _ _ _ h=>
 rnG an0 Tryz.func230 (by kernel_rfl) (by kernel_rfl) h
def agn(C:aC)(a0 a1:AV)(H:ah):OA:=
 bo (aA a0) λv6=> bo (au v6 0) λv7=> bnd (st 1 v7 a1 H) λ_ H=>
 some (.tup [],H)
theorem amP:Rn2 231 agn:=λ_ _ _ _ _ h=>
 rnG an0 Tryz.func231 (by kernel_rfl) (by kernel_rfl) h
def EN(C:aC)(t4 t6 t7:AV)(H:ah):OA:=
 bnd (lda 6 t6 H) λv30 H=> bnd (st 6 t4 v30 H) λ_ H=>
 bnd (lda 6 t4 H) λr0 _=> some (.tup [r0,t7],H)
def Z4(C:aC)(a0 a1:AV)(H:ah):OA:=
 bnd (alc 100 [zI,zI,zI,zI,zB,zN] H) λv4 H=>
 bnd (C 41 [a0,a1] H) λv12 H=> bo (aJ v12 0) λv13=> bo (aJ v12 1) λv14=> bnd (alc 100 [zI,zI,zI,zI,zB,zN] H) λv6 H=> bnd (st 6 v6 v13 H) λ_ H=>
 aV v14
 (bnd (C 82 [a0,a1] H) λv18 H=>
  bo (aA a0) λv21=> fld v21 0 H λv23 H=> bo (bi .add 3 v18 (I 1)) λv26=> bnd (C 242 [v23,v18,v26] H) λv27 H=> bo (aA a0) λv28=> bo (au v28 0) λv29=> bnd (st 1 v29 v27 H) λ_ H=>
  EN C v4 v6 v14 H)
 (EN C v4 v6 v14 H)
theorem amQ:Rn2 232 Z4:=λ_ _ _ _ _ h=>
 rnG an0 Tryz.func232 (by kernel_rfl) (by kernel_rfl) h
def Z5(C:aC)(a0:AV)(H:ah):OA:=
 bnd (alc 81 [zI,zI,zI,zI,zI,zI,zI,zB,zN] H) λv2 H=>
 bo (aA a0) λv5=> fld v5 0 H λv7 H=> bnd (lnS v7 H) λv8 H=> bo (bi .eql 3 v8 (I 0)) λv9=>
 aV v9
 (bo (bd 81 []) λv10=> bnd (st 9 v2 v10 H) λ_ H=>
  bnd (lda 9 v2 H) λr0 _=> some (.tup [r0,(B false)],H))
 (bo (aA a0) λv12=> fld v12 0 H λv14 H=> bnd (ix 9 v14 (I 0) H) λv15 H=> bnd (lda 9 v15 H) λv16 H=> bnd (C 132 [v16] H) λv17 H=> bnd (st 9 v2 v17 H) λ_ H=>
  bnd (lda 9 v2 H) λr0 _=> some (.tup [r0,(B true)],H))
theorem amR:Rn1 235 Z5:=λ_ _ _ _ h=>
 rnG an0 Tryz.func235 (by kernel_rfl) (by kernel_rfl) h
def agp(C:aC)(a0 a1 a2 a3 a4:AV)(H:ah):OA:=
 bnd (alc 100 [zI,zI,zI,zI,zB,zN] H) λv10 H=>
 bo (bd 98 [(0,a1),(1,a2)]) λv13=> bnd (C 36 [a4] H) λv17 H=> bo (bd 100 [(0,v13),(1,a0),(3,a3),(4,v17)]) λv18=> bnd (st 6 v10 v18 H) λ_ H=>
 bnd (lda 6 v10 H) λr0 _=> some (r0,H)
theorem amS:Rn5 236 agp:=λ_ _ _ _ _ _ _ _ h=>
 rnG an0 Tryz.func236 (by kernel_rfl) (by kernel_rfl) h
def Z7(C:aC)(a0:AV)(H:ah):OA:=
 bnd (jc 98 a0 H) λv1 H=>
 bnd (lda 2 v1 H) λv3 H=> bnd (C 238 [v3] H) λv4 H=> gdA (some v4) true (lda 2 v1 H) H λv6 H=> gdA (some v4) true (C 243 [v6] H) H λv7 H=> bo (dG v4 v7 (B false)) λv8=>
 some (v8,H)
theorem agq:Rn1 237 Z7:=λ_ _ _ _ h=>
 rnG an0 Tryz.func237 (by kernel_rfl) (by kernel_rfl) h
def ags(C:aC)(a0:AV)(H:ah):OA:=
 bnd (jc 98 a0 H) λv1 H=>
 fld v1 1 H λv4 H=> bo (bi .eql 3 v4 (I (-1))) λv5=>
 some (v5,H)
theorem amT:Rn1 238 ags:=λ_ _ _ _ h=>
 rnG an0 Tryz.func238 (by kernel_rfl) (by kernel_rfl) h
def amU:Ann:=⟨[],[(11,rF 7 [])],[]⟩
def EP(C:aC)(t0 t1 t11:AV)(H:ah):OA:=
 bo (aA t0) λv77=> fld v77 8 H λv79 H=> bnd (lda 3 t11 H) λv81 H=> bnd (mup .i64 v79 t1 v81 H) λ_ H=>
 some ((I 0),H)
def yC(C:aC)(a0 a1 a2 a3 a4:AV)(H:ah):OA:=
 bo (aA a0) λv15=> fld v15 8 H λv17 H=> bnd (lk .i64 (.agg #[.int .i64 0,.int .i64 0,.slice none 0 0]) v17 a1 true H) λv19 H=> bo (aJ v19 0) λv20=> bo (aJ v19 1) λv21=> bnd (alc 95 [zI,zI,zN] H) λv11 H=> bnd (st 3 v11 v20 H) λ_ H=>
 bo (un .not v21) λv24=>
 aV v24
 (some ((I 3),H))
 (bo (bi .lss 3 a2 (I 0)) λv27=> gl v27 false (some a2) H λv29 H=> gl v27 false (bi .gtr 3 v29 (I 2)) H λv30 H=> bo (dG v27 (B true) v30) λv31=> gl v31 false (some a3) H λv33 H=> gl v31 false (bi .lss 3 v33 (I (-1))) H λv34 H=> bo (dG v31 (B true) v34) λv35=> gl v35 false (some a3) H λv37 H=> gl v35 false (some a0) H λv38 H=> gl v35 false (aA v38) H λv39 H=> gl v35 false (au v39 0) H λv40 H=> gl v35 false (au v40 0) H λv41 H=> gdA (some v35) false (ld v41 H) H λv42 H=> gl v35 false (bi .geq 3 v37 v42) H λv43 H=> bo (dG v35 (B true) v43) λv44=>
  aV v44
  (some ((I 1),H))
  (bo (bi .eql 3 a3 (I (-1))) λv47=> bo (bi .eql 3 a2 (I 0)) λv49=> bo (bi .neq 4 v47 v49) λv50=> gl v50 false (some a4) H λv52 H=> gdA (some v50) false (lnS v52 H) H λv53 H=> gl v50 false (bi .neq 3 v53 (I 0)) H λv54 H=> gl v50 false (some v54) H λv55 H=> gl v55 true (some a4) H λv56 H=> gdA (some v55) true (lnS v56 H) H λv57 H=> gl v55 true (some a0) H λv58 H=> gl v55 true (aA v58) H λv59 H=> gl v55 true (au v59 0) H λv60 H=> gl v55 true (au v60 2) H λv61 H=> gdA (some v55) true (ld v61 H) H λv62 H=> gl v55 true (bi .neq 3 v57 v62) H λv63 H=> gl v50 false (dG v55 v63 (B false)) H λv64 H=> bo (dG v50 (B true) v64) λv65=>
  aV v65
  (some ((I 1),H))
  (bo (au v11 0) λv68=> bnd (st 1 v68 a2 H) λ_ H=> bo (au v11 1) λv69=> bnd (st 1 v69 a3 H) λ_ H=>
   bnd (lnS a4 H) λv71 H=> bo (bi .gtr 3 v71 (I 0)) λv72=>
   aV v72
   (bnd (C 36 [a4] H) λv74 H=> bo (au v11 2) λv75=> bnd (st 1 v75 v74 H) λ_ H=>
   EP C a0 a1 v11 H)
   (EP C a0 a1 v11 H))))
theorem amV:Rn5 240 yC:=λ_ _ _ _ _ _ _ _ h=>
 rnG amU Tryz.func240 (by kernel_rfl) (by kernel_rfl) h
def Vg(C:aC)(a0 a1 a2:AV)(H:ah):OA:=
 bnd (C 225 [a0,a1] H) λv9 H=> bo (un .not v9) λv10=> gl v10 false (some a0) H λv12 H=> gl v10 false (aA v12) H λv13 H=> gl v10 false (au v13 0) H λv14 H=> gdA (some v10) false (ld v14 H) H λv15 H=> gl v10 false (some a1) H λv16 H=> gdA (some v10) false (lk .i64 (.int .i64 0) v15 v16 false H) H λv17 H=> gl v10 false (some a2) H λv18 H=> gl v10 false (bi .neq 3 v17 v18) H λv19 H=> bo (dG v10 (B true) v19) λv20=>
 aV v20
 (some ((I 6),H))
 (bo (aA a0) λv22=> fld v22 0 H λv24 H=> bnd (del .i64 v24 a1 H) λ_ H=>
  some ((I 0),H))
theorem amW:Rn3 241 Vg:=λ_ _ _ _ _ _ h=>
 rnG an0 Tryz.func241 (by kernel_rfl) (by kernel_rfl) h
def amX:Ann:=⟨[],[(5,rF 8 [])],[]⟩
def agt(C:aC)(a0 a1 a2:AV)(H:ah):OA:=
 bnd (lnS a0 H) λv12 H=> bo (slS 6 a0 (some a1) (some a2) (some v12)) λv13=>
 bo (bi .eql 3 a1 a2) λv16=>
 aV v16
 (some (a0,H))
 (bnd (lnS a0 H) λv19 H=>
  bo (slS 6 a0 none (some a1) none) λv22=> bo (slS 6 a0 (some a2) none none) λv25=> bnd (app 100 6 64 v22 v25 H) λv26 H=>
  bnd (lnS v26 H) λv29 H=> bo (slS 6 v26 (some v29) (some v19) none) λv31=> bnd (clr 6 [zI,zI,zI,zI,zB,zN] v31 H) λ_ H=>
  some (v26,H))
theorem amY:Rn3 242 agt:=λ_ _ _ _ _ _ h=>
 rnG amX Tryz.func242 (by kernel_rfl) (by kernel_rfl) h
def agu(C:aC)(a0:AV)(H:ah):OA:=
 bnd (jc 98 a0 H) λv1 H=>
 fld v1 0 H λv4 H=> bo (bi .eql 3 v4 (I (-1))) λv5=>
 some (v5,H)
theorem amZ:Rn1 243 agu:=λ_ _ _ _ h=>
 rnG an0 Tryz.func243 (by kernel_rfl) (by kernel_rfl) h
def mZ(l:List Pkt)(room:Int):List Cell:=[.seq 9 (l.flatMap Pkt.av),.av (I room)]
theorem Ai(l:List Int):(l.map I).all AV.aX=true:=by
 rw [za2];intro x hx;obtain⟨z,_,rfl⟩:=zaH.1 hx;rfl
theorem xJ(l:List Int){d:Nat}:∀x∈l.map I,Frz (d+1) x:=λx hx=> by
 obtain⟨z,_,rfl⟩:=zaH.1 hx;exact gq
theorem yD {l:List Int}(h:l≠[]):dat l=.vs l.length 1 (l.map I):=by
 rw [dat,Lh h,zA]
theorem jL(H:ah)(l:List Int)(hl:l.length < 1000000000):cl 36 [dat l] H=some (dat l,H):=by
 by_cases h:l=[]
 ·subst h;refine jq rfl rfl (Sm _ _ _ (r:=(zN,H.guard)) ?_) jC;have e:bi .eql 22 zN zN=some (B true):=by kernel_rfl
  simp only [xq_,Px,dat,gZ,e]
 ·have h0:l.length≠0:=λe=> h (zas e);have e2:=sU (e:=3) (by_:=8) (r:=H.guard.next) (H:=H.guard.new (.blk 0 3 [])) qo (mQ _ l) (Ai l) h0 (by unfold most;omega) (by unfold most;omega);simp only [BF,fA] at e2;refine jq rfl rfl (Sm _ _ _ (r:=(.sl (H.next+1) 0 0 1 l.length l.length false,(H.guard.new (.blk 0 3 [])).new (.blk 0 (3+gV) (l.map I)))) ?_) ?_
  ·have e1:bi .eql 22 (dat l) zN=some (B false):=by rw [yD h];exact sV Tryz.underlying22
   simp only [xq_,Px,e1,IG,yQ,e2,zbq,zaT]
  ·rw [yD h];refine mV (by omega) (cells:=l.map I) ?_ (iR _ λx hx=> xJ l x hx _ _);simp only [dw,jd,fA,BF,if_true];rw [if_pos (by simp),zaQ,zaz (by simp)]
theorem Z8(p:Pkt):Frz 9 (.agg p.av):=mW λx hx=> by
 simp only [Pkt.av,zaj,zay,or_false] at hx;rcases hx with rfl | rfl | rfl | rfl | rfl | rfl | rfl | rfl | rfl <;> first | exact gq | exact uM
theorem Z9(H:ah)(p:Pkt)(hl:p.data.length < 1000000000):cl 116 [.agg p.av] H=some (.agg p.av,H):=by
 have e1:=λH=> jL H p.data hl;refine bU rfl rfl (ala _ _ _) ?_ (Z8 p);simp only [Nat.reduceLT,Nat.reduceAdd,aN,xq_,hq_,afh,aF,Pkt.av,e1]
theorem Vh(H:ah)(p:Pkt)(hl:p.data.length < 1000000000):cl 132 [.agg p.av] H=some (.agg p.av,H):=by
 have e1:=λH=> jL H p.data hl;refine bU rfl rfl (alm _ _ _) ?_ (Z8 p);simp only [Nat.reduceLT,Nat.reduceAdd,aN,xq_,hq_,afr,aF,Pkt.av,e1]
section
variable {b:Nat}{H:ah}{g:bD}{q:Nat}{l:List Pkt}{room:Int}
theorem Vj(G:Good b H g)(h:g q=some (mZ l room))(h1:0<=room)(h2:room < 1000)(h3:l.length < 1000):
  cl 194 [.ref q 0 0] H=some (I (room - l.length),H):=by
 refine bg rfl rfl (amc _ _ _ ?_);obtain⟨x,hx,c⟩:=G.seq h (i:=0) rfl;have e1:=G.load h (i:=1) rfl;have e2:=(c.is (by decide) (dR bT l)).lnS;simp only [xq_,af0,hx,e1,e2,jR];rw [wrap_i64 (by omega) (by omega)]
theorem ahN(G:Good b H g)(hb:H.base<=b)(h:g q=some (mZ l room))(h1:0<=room)(h2:room < 1000)(h3:l.length < 1000)(p:Pkt)(hp:p.data.length < 1000000000):
  ∃H',cl 197 [.ref q 0 0,.agg p.av] H=some (I (if room=l.length then 5 else 0),H')/\Good b H' (upd g q (mZ (if room=l.length then l else l++[p]) room))/\Step b H H':=by
 have G1:=G.new (.blk 0 81 p.av);have e1:=Vj G1 h h1 h2 h3;by_cases hr:room=l.length
 ·refine⟨_,bg rfl rfl (af4 _ _ _ _ (r:=(_,H.new (.blk 0 81 p.av))) ?_),?_,Step.new _ G.1⟩
  ·simp only [Nat.reduceLT,xq_,hq_,ZR,aF (aP p),e1,hr,Int.sub_self]
  ·rw [if_pos hr,fF h];exact G1
 ·have hr':¬room - (l.length:Int)=0:=by omega
  obtain⟨x,hx,c⟩:=G1.seq h (i:=0) rfl;have e2:=gy (H:=H.new (.blk 0 81 p.av)) (r:=H.next) (off:=0) (n:=9) (qo) (by simp [Pkt.av]);have e3:=Z9 (H.new (.blk 0 81 p.av)).guard p hp;obtain⟨x',H1,H2,a1,a2,a3,a4⟩:=(G1.new (.blk 0 81 p.av)).append (e:=81) (by_:=88) hb h (i:=0) rfl (by decide) (dR bT l) (c.new _) (ku (ex:=true) (n:=1) (m:=9) (l:=p.av) rfl) (aP p) (by unfold most;omega) (by unfold most;omega);refine⟨H2,bg rfl rfl (af4 _ _ _ _ ?_),?_,(((Step.new _ G.1).trans (Step.new _ (G.new _).1)).trans a4)⟩
  ·simp only [fA] at a1;simp only [Nat.reduceLT,xq_,ZR,aF (aP p),e1,hr',hr,hx,e2,zaQ,e3,ael,zbo,Nat.reduceLeDiff,O6,jS (m:=9) (z:=[zI,zI,zI,zI,zI,zI,zI,zB,zN]) (v:=.agg p.av) rfl rfl (aP p),fJ,a1,a2]
  ·rw [if_neg hr];have:mZ (l++[p]) room=(mZ l room).set 0 (.seq 9 (l.flatMap Pkt.av++p.av)):=by simp [mZ]
   rw [this];exact a3
theorem aac(G:Good b H g)(h:g q=some (mZ l room))(h1:0<=room)(h2:room < 1000)(h3:l.length < 1000):
  cl 131 [.ref q 0 0] H=some (I (room - l.length),H):=by
 refine bg rfl rfl (alk _ _ _ ?_);obtain⟨x,hx,c⟩:=G.seq h (i:=0) rfl;have e1:=G.load h (i:=1) rfl;have e2:=(c.is (by decide) (dR bT l)).lnS;simp only [xq_,afq,hx,e1,e2,jR];rw [wrap_i64 (by omega) (by omega)]
theorem acS(G:Good b H g)(hb:H.base<=b)(h:g q=some (mZ l room))(h1:0<=room)(h2:room < 1000)(h3:l.length < 1000)(p:Pkt)(hp:p.data.length < 1000000000):
  ∃H',cl 93 [.ref q 0 0,.agg p.av] H=some (I (if room=l.length then 5 else 0),H')/\Good b H' (upd g q (mZ (if room=l.length then l else l++[p]) room))/\Step b H H':=by
 have G1:=G.new (.blk 0 81 p.av);have e1:=aac G1 h h1 h2 h3;by_cases hr:room=l.length
 ·refine⟨_,bg rfl rfl (akZ _ _ _ _ (r:=(_,H.new (.blk 0 81 p.av))) ?_),?_,Step.new _ G.1⟩
  ·simp only [Nat.reduceLT,xq_,hq_,ahL,aF (aP p),e1,hr,Int.sub_self]
  ·rw [if_pos hr,fF h];exact G1
 ·have hr':¬room - (l.length:Int)=0:=by omega
  obtain⟨x,hx,c⟩:=G1.seq h (i:=0) rfl;have e2:=gy (H:=H.new (.blk 0 81 p.av)) (r:=H.next) (off:=0) (n:=9) (qo) (by simp [Pkt.av]);have e3:=Vh (H.new (.blk 0 81 p.av)).guard p hp;obtain⟨x',H1,H2,a1,a2,a3,a4⟩:=(G1.new (.blk 0 81 p.av)).append (e:=81) (by_:=88) hb h (i:=0) rfl (by decide) (dR bT l) (c.new _) (ku (ex:=true) (n:=1) (m:=9) (l:=p.av) rfl) (aP p) (by unfold most;omega) (by unfold most;omega);refine⟨H2,bg rfl rfl (akZ _ _ _ _ ?_),?_,(((Step.new _ G.1).trans (Step.new _ (G.new _).1)).trans a4)⟩
  ·simp only [fA] at a1;simp only [Nat.reduceLT,xq_,ahL,aF (aP p),e1,hr',hr,hx,e2,zaQ,e3,ael,zbo,Nat.reduceLeDiff,O6,jS (m:=9) (z:=[zI,zI,zI,zI,zI,zI,zI,zB,zN]) (v:=.agg p.av) rfl rfl (aP p),fJ,a1,a2]
  ·rw [if_neg hr];have:mZ (l++[p]) room=(mZ l room).set 0 (.seq 9 (l.flatMap Pkt.av++p.av)):=by simp [mZ]
   rw [this];exact a3
theorem ahO {i n:Nat}{x:AV}{l:List AV}(c:Cur b H q i x 9 l)(hb:H.base<=b)(hl:l.length=n*9)(hn:n < 1000000000){j:Nat}(hj:j < n):
  ∃x' H',cl 133 [x,I j,I (j+1)] H=some (x',H')/\Fit H H' x x' 9 (l.take (j*9)++l.drop ((j+1)*9))/\H'.next=H.next/\H'.base=H.base/\∀r,jf x≠some r->H'.get r=H.get r:=by
 obtain⟨y,x1,x2,x3,H1,x4,H2,e1,e2,e3,e4,e5,e6,e7,f,n1,b1,k1⟩:=UJ c hb (by decide) hl hn hj (z:=[zI,zI,zI,zI,zI,zI,zI,zB,zN]) rfl rfl (e:=81) (by_:=88) (by decide);have e0:=(c.is (by decide) hl).lnS;have hne:((j:Int)=j+1)=False:=eq_false (by omega);refine⟨x3,H2,bg rfl rfl (alo _ _ _ _ _ ?_),f,n1,b1,k1⟩;simp only [xq_,afs,e0,e1,e2,e3,e4,e5,e6,e7,hne]
theorem PN {α:Type}{enc:α->List AV}{m:Nat}(he:∀a,(enc a).length=m):∀(l:List α) (j:Nat),(l.flatMap enc).take (j*m)=(l.take j).flatMap enc
 | [],j=> by simp
 | a::l,0=> by simp
 | a::l,j+1=> by
  rw [zaE,List.take_succ_cons,zaE,zbO,Nat.add_comm,List.take_append,he,Nat.add_sub_cancel_left,PN he l j,zaz (by rw [he];omega)]
theorem PO {α:Type}{enc:α->List AV}{m:Nat}(he:∀a,(enc a).length=m):∀(l:List α) (j:Nat),(l.flatMap enc).drop (j*m)=(l.drop j).flatMap enc
 | [],j=> by simp
 | a::l,0=> by simp
 | a::l,j+1=> by
  rw [zaE,List.drop_succ_cons,zbO,Nat.add_comm,zdh,he,Nat.add_sub_cancel_left,PO he l j,zaS (by rw [he];omega),zaJ]
theorem JM {α:Type}{enc:α->List AV}{m:Nat}(he:∀a,(enc a).length=m)(l:List α)(j:Nat):(l.flatMap enc).take (j*m)++(l.flatMap enc).drop ((j+1)*m)=(l.eraseIdx j).flatMap enc:=by
 rw [PN he,PO he,List.eraseIdx_eq_take_drop_succ,zbT]
theorem oH {α:Type}{enc:α->List AV}{m:Nat}(he:∀a,(enc a).length=m){L:List α}{x:AV}(hs:aW H x m L.length (L.flatMap enc)){i:Nat}{a:α}(hi:L[i]?=some a):lda m (eU x i) H=some (.agg (enc a),H):=by
 have hl:i < L.length:=(zai.1 hi).1;rw [hs.lda hl,uK he L i a hi]
def iy(o:Option Pkt):AV:=.tup [.agg (o.getD .zero).av,B o.isSome]
theorem fE:Pkt.zero.av=[zI,zI,zI,zI,zI,zI,zI,zB,zN]:=by simp [Pkt.zero,Pkt.av,dat,gZ]
theorem Cc(o:Option Pkt):Frz 9 (iy o):=rY λx hx=> by
 simp only [zaj,zay,or_false] at hx;rcases hx with rfl | rfl
 ·refine mW λx hx=> ?_;simp only [Pkt.av,zaj,zay,or_false] at hx;rcases hx with rfl | rfl | rfl | rfl | rfl | rfl | rfl | rfl | rfl <;> first | exact gq | exact uM
 ·exact gq
theorem aad(G:Good b H g)(h:g q=some (mZ l room))(h3:l.length < 1000)(hd:∀p∈l,p.data.length < 1000000000):
  cl 235 [.ref q 0 0] H=some (iy l.head?,H):=by
 refine bU rfl rfl (amR _ _ _) ?_ (Cc _);have G1:=G.guard.new (.blk 0 81 [zI,zI,zI,zI,zI,zI,zI,zB,zN]);obtain⟨x,hx,c⟩:=G1.seq h (i:=0) rfl;have hs:=c.is (by decide) (dR bT l);have e2:=hs.lnS;cases l with
 | nil=> simp only [Nat.reduceAdd,aN,xq_,hq_,Z5,hx,e2,Int.ofNat_zero,yO,jX,dX,iy,fE,List.head?_nil,za1,zaG]
 | cons p l=>
  have e3:=hs.ix (k:=.i64) (i:=0) (by decide) (by simp only [zam];omega);have e4:=oH bT hs (i:=0) (a:=p) rfl;have hz:(((l.length+1:Nat):Int)=0)=False:=eq_false (by omega);have e5:=λH=> Vh H p (hd p (by simp));simp only [Nat.reduceAdd,aN,xq_,hq_,Z5,hx,e2,hz,e3,Int.toNat_zero,e4,e5,iy,List.head?_cons,zar,zaI]
theorem Vk(G:Good b H g)(hb:H.base<=b)(h:g q=some (mZ l room))(h3:l.length < 1000){j:Nat}(hj:j < l.length):
  ∃x x' H1 H2,ld (.ref q 0 0) H=some (x,H)/\cl 133 [x,I j,I (j+1)] H=some (x',H1)/\st 1 (.ref q 0 0) x' H1=some (aY,H2)/\Good b H2 (upd g q (mZ (l.eraseIdx j) room))/\Step b H H2:=by
 obtain⟨x,hx,c⟩:=G.seq h (i:=0) rfl;obtain⟨x',H1,d1,d2,d3,d4,d5⟩:=ahO c hb (dR bT l) (by omega) hj;rw [JM bT] at d2;obtain⟨H2,s1,s2,s3,s4⟩:=G.seat h (i:=0) rfl c (by omega) (by omega) (λr _ hr=> d5 r hr) d2;exact⟨x,x',H1,H2,hx,d1,s1,s2,Step.trans ⟨d4,by omega,λr hr=> d5 r (c.low hr)⟩ s3⟩
theorem aae(G:Good b H g)(hb:H.base<=b)(h:g q=some (mZ l room))(h3:l.length < 1000)(hd:∀p∈l,p.data.length < 1000000000):
  ∃H',cl 215 [.ref q 0 0] H=some (iy l.head?,H')/\Good b H' (upd g q (mZ l.tail room))/\Step b H H':=by
 have G1:=G.newObj (ty:=81) (xs:=[zI,zI,zI,zI,zI,zI,zI,zB,zN]) rfl;have hq:=G.lt h;have h1:upd g H.next ([zI,zI,zI,zI,zI,zI,zI,zB,zN].map .av) q=some (mZ l room):=by rw [aZ (by omega)];exact h
 have e1:=aad G1 h1 h3 hd;have hb0:H.base<=H.next:=zau hb G.1
 refine kD rfl rfl (amv _ _ _) ?_;cases l with
 | nil=>
  simp only [Nat.reduceAdd,aN,xq_,hq_,zaa,zad,exists_eq_left',ZV,e1,EL,iy,List.head?_nil,za1,zaG,fE,List.tail_nil,hb0];exact⟨(fF h).symm ▸ (G.new _).new _,(Step.new _ G.1).trans (Step.new _ (G.new _).1)⟩
 | cons p l=>
  have hm:=hd p (by simp);let H1:=H.new (.blk 0 81 [zI,zI,zI,zI,zI,zI,zI,zB,zN]);have G2:=G1.newObj (ty:=81) (xs:=p.av) (aP _);have hv2:upd (upd g H.next ([zI,zI,zI,zI,zI,zI,zI,zB,zN].map .av)) (H.next+1) (p.av.map .av) H.next=some ([zI,zI,zI,zI,zI,zI,zI,zB,zN].map .av):=by rw [aZ (by omega),aU]
  have h2:upd (upd g H.next ([zI,zI,zI,zI,zI,zI,zI,zB,zN].map .av)) (H.next+1) (p.av.map .av) q=some (mZ (p::l) room):=by rw [aZ (by omega)];exact h1
  obtain⟨x,x',K1,K2,s1,s2,s3,s4,s5⟩:=Vk G2 (by rw [jy,jy];omega) h2 h3 (j:=0) (by simp);have G3:Good b K2 _:=s4;have q2:upd (upd (upd g H.next ([zI,zI,zI,zI,zI,zI,zI,zB,zN].map .av)) (H.next+1) (p.av.map .av)) q (mZ l room) (H.next+1)=some (p.av.map .av):=by rw [aZ (by omega),aU]
  have q1:upd (upd (upd g H.next ([zI,zI,zI,zI,zI,zI,zI,zB,zN].map .av)) (H.next+1) (p.av.map .av)) q (mZ l room) H.next=some ([zI,zI,zI,zI,zI,zI,zI,zB,zN].map .av):=by rw [aZ (by omega),aZ (by omega),aU]
  have l2:=G3.loads q2 (i:=0) (n:=9) (xs:=p.av) rfl rfl (by decide);obtain⟨K3,t1,t2,t3,t4⟩:=G3.stores (by rw [s5.base,jy,jy];exact hb) q1 (i:=0) (n:=9) (vs:=p.av) (by decide) rfl (aP _);have l3:=t2.loads aU (i:=0) (n:=9) (xs:=p.av) rfl rfl (by decide);have z1:((0:Nat):Int)=0:=rfl;have z2:((0:Nat):Int)+1=1:=rfl;rw [z2] at s2;simp only [z1] at s2;simp only [Nat.reduceAdd,aN,xq_,hq_,zaa,zad,exists_eq_left',ZV,e1,EL,iy,List.head?_cons,zar,zaI,List.tail_cons,hb0,s1,s2,s3,l2,t1,l3];have n1:g H.next=none:=G.isNone (zac _)
  have n2:g (H.next+1)=none:=G.isNone (by omega);exact⟨t2.sub (((((sW.refl g).more n1 _).more n2 _).both q _).more (zC n1 (by omega)) _),(((Step.new _ G.1).trans (Step.new _ (G.new _).1)).trans s5).trans t3⟩
theorem aaf(G:Good b H g)(h:g q=some (mZ l room))(h3:l.length < 1000)(hd:∀p∈l,p.data.length < 1000000000)(at_:Int):
  cl 70 [.ref q 0 0,I at_] H=some (iy (if at_ < 0 then none else l[at_.toNat]?),H):=by
 refine bU rfl rfl (apj _ _ _ _) ?_ (Cc _);have G1:=G.guard.new (.blk 0 81 [zI,zI,zI,zI,zI,zI,zI,zB,zN]);obtain⟨x,hx,c⟩:=G1.seq h (i:=0) rfl;have hs:=c.is (by decide) (dR bT l);have e2:=hs.lnS;by_cases h0:at_ < 0
 ·simp only [Nat.reduceAdd,aN,xq_,hq_,acO,h0,yO,jX,dX,iy,fE,za1,zaG]
 ·by_cases h1:at_ < l.length
  ·have e3:=hs.ix (k:=.i64) (i:=at_) (by omega) h1;obtain⟨p,hp⟩:∃p,l[at_.toNat]?=some p:=⟨_,zab (by omega)⟩
   have e4:=oH bT hs hp;have e5:=λH=> Z9 H p (hd p (zaq hp));have h1':¬(l.length:Int)<=at_:=by omega
   simp only [Nat.reduceAdd,aN,xq_,hq_,acO,hx,h0,h1',e2,e3,e4,e5,hp,iy,zar,zaI]
  ·have hp:l[at_.toNat]?=none:=zaK (by omega);have h1':(l.length:Int)<=at_:=by omega
   simp only [Nat.reduceAdd,aN,xq_,hq_,acO,hx,h0,h1',e2,hp,yO,jX,dX,iy,fE,za1,zaG]
end
open Go.RowKit
section
variable {P:Program}{C:aC}{A:Ann}{n:Nat}
theorem JO {L:List Nat}{c:Code}(hc:OY A n c (pO L) (λ_=> 0) 0=true){t:fO}{e:Env}{H H1:ah}{vs:List AV}(ht:Ag n (yN A c (pO L) (λ_=> 0) 0) t e)
  (h:kL P C A n c e H (λe H=> some (xU L e,H)) (λ_ _ _=> none) (λ_ _=> none)=some (vs,H1)):
  ∃t1,fC P C c t H=some (.normal,t1,H1)/\∃e1,Ag n (pO L) t1 e1/\xU L e1=vs:=by
 open Classical in
 have key:=FY (P:=P) (C:=C) (β:=List AV × ah) A c (pO L) (λ_=> 0) 0 hc
  (λt H=> if hx:∃e1,Ag n (pO L) t e1/\xU L e1=vs then(if H=H1 then some (vs,H) else none) else none) (λe H=> if xU L e=vs/\H=H1 then some (vs,H) else none)
  (λ_ _ _=> none) (λ_ _ _=> none) (λ_ _=> none) (λ_ _=> none)
  (λt e H ha r hr=> by
   split at hr
   ·rename_i hh;rw [dif_pos ⟨e,ha,hh.1⟩,if_pos hh.2];exact hr
   ·cases hr) (λ_ _ _ _ _=> Le.refl _) (λ_ _ _ _=> Le.refl _) t e H ht
 have tl:=Jr (P:=P) (C:=C) (A:=A) (n:=n) (β:=List AV × ah) c e H (λk e H=> k (xU L e) H) (λ_ _ _ _=> none) (λ_ _ _=> none) (λt H=> Yz _ _) (λ_ _ _=> gJ _) (λ_ _=> gJ _);have h1:kL P C A n c e H (λe H=> (λs H=> some (s,H)) (xU L e) H) (λ_ _ _=> none) (λ_ _=> none)=some (vs,H1):=h;have h2:kL P C A n c e H (λe H=> if xU L e=vs/\H=H1 then some (vs,H) else none) (λ_ _ _=> none) (λ_ _=> none)=some (vs,H1):=by
  rcases tl (λs H=> some (s,H)) _ h1 with h3 | ⟨s,H',h3,h4⟩
  ·exact h3 λs H=> if s=vs/\H=H1 then some (vs,H) else none
  ·cases h3;exact h4 (λs H=> if s=vs/\H=H1 then some (vs,H) else none) (by simp)
 have h3:=key _ h2;cases hx:fC P C c t H with
 | none=> rw [hx] at h3;cases h3
 | some q=>
  obtain⟨ex,t1,H2⟩:=q;rw [hx] at h3;cases ex with
  | normal=>
   simp only [O4] at h3;split at h3
   ·rename_i he;split at h3
    ·rename_i hH;subst hH;exact⟨t1,rfl,he⟩
    ·cases h3
   ·cases h3
  | exit i=> cases h3
  | ret=> cases h3
theorem aag {c:Code}{rs:List ResultVar}(hc:OY A n c (QL rs) (λ_=> 0) (QL rs)=true){t:fO}{e:Env}{H:ah}{r:AV × ah}(ht:Ag n (yN A c (QL rs) (λ_=> 0) (QL rs)) t e)
  (h:kL P C A n c e H (NU P n rs) (λ_ _ _=> none) (NU P n rs)=some r):
  ∃ex t1,(ex=.normal∨ex=.ret)/\fC P C c t H=some (ex,t1,r.2)/\ji P rs t1 r.2=some r.1:=by
 have hr:∀t e H,Ag n (QL rs) t e->Le (NU P n rs e H) ((ji P rs t H).map λv=> (v,H)):=λt e H h=> by
  rw [YF _ h];exact Le.refl _
 have h1:=FY (P:=P) (C:=C) A c _ _ _ hc _ _ _ _ _ _ hr (λ_ _ _ _ _=> Le.refl _) hr t e H ht r h;cases hx:fC P C c t H with
 | none=> rw [hx] at h1;cases h1
 | some q=>
  obtain⟨ex,t1,H2⟩:=q;rw [hx] at h1;cases ex with
  | exit i=> cases h1
  | normal=>
   simp only [O4] at h1;cases hq:ji P rs t1 H2 with
   | none=> rw [hq] at h1;cases h1
   | some v=>
    rw [hq] at h1;simp only [zak,zaa] at h1;subst h1;exact⟨_,t1,.inl rfl,rfl,hq⟩
  | ret=>
   simp only [O4] at h1;cases hq:ji P rs t1 H2 with
   | none=> rw [hq] at h1;cases h1
   | some v=>
    rw [hq] at h1;simp only [zak,zaa] at h1;subst h1;exact⟨_,t1,.inr rfl,rfl,hq⟩
theorem am0 {o:Oper}{a:Act}{w:World}{K:Act->World->Prop}{Q:Exit->Act->World->Prop}{l m:Nat}(hd:∀c,o.op≠.defer c)(h:o.wp P a w K Q):o.wpIn (Fence.wide.inRound l) m P a w K Q:=by
 unfold Oper.wpIn;refine⟨λ_ _=> trivial,?_⟩;rw [Oper.semAt_eq _ _ _ hd];unfold Oper.wp at h;generalize (execOp a.eval o).run P w=r at*;have dp:(Fence.wide.inRound l).depth.isSome=true->1<=m:=λh=> by cases h
 cases r with
 | ok x w'=>
  cases x <;> simp only [Oper.upon,Oper.uponIn] at h ⊢ <;> first
   | exact h
   | exact⟨dp,CallsIn.inRound l (callsIn_wide.2 h)⟩
   | exact h.elim
   | skip
  rename_i row args;exact⟨dp,λc cs hr=> let⟨v,w',r,s⟩:=h c cs;⟨v,w',r,stepsIn_wide.2 s⟩⟩
 | halt x w'=> cases x <;> simp only [Oper.upon,Oper.uponIn] at h ⊢ <;> exact h
def Ce(o:Oper):Bool:=match o.op with
 | .defer _=> false
 | _=> true
theorem JQ {o:Oper}(h:Ce o=true):∀c,o.op≠.defer c:=λc e=> by rw [Ce,e] at h;cases h
theorem ahP {ops:Array Oper}(hd:∀o∈ops,Ce o=true){Q:Exit->Act->World->Prop}{i:Nat}{K:Act->World->Prop}{a:Act}{w:World}{l m:Nat}(hq:¬LetsOut Q)(h:wpOp P ops Q i K a w):wpOpIn (Fence.wide.inRound l) m P ops Q i K a w:=by
 unfold wpOp at h;unfold wpOpIn;split
 ·rename_i ho;rw [ho] at h;exact h
 ·rename_i o ho;rw [ho] at h;simp only at h;split
  ·rename_i hw;rw [if_pos hw] at h;exact am0 (JQ (hd o (Array.mem_of_getElem? ho))) (h.resolve_right λh=> hq h.2)
  ·rename_i hw;rw [if_neg hw] at h;exact⟨λ_ _=> trivial,h⟩
theorem acT {ops:Array Oper}(hd:∀o∈ops,Ce o=true){Q:Exit->Act->World->Prop}{l m:Nat}{md:Region.Mode}(hq:¬LetsOut Q):∀(fuel:Nat) (listed:Array Bool) (a:Act) (w:World),wpAny P md ops Q fuel listed a w->wpAnyIn (Fence.wide.inRound l) m P md ops Q fuel listed a w:=by
 intro fuel
 induction fuel with
 | zero=> intro listed a w h;exact h
 | succ fuel ih=>
  intro listed a w h;exact⟨h.1,λi hi=> wpOpIn_mono (λa w h=> ih _ a w h) (ahP hd hq (h.2 i hi))⟩
def xK(P:Program)(C:aC)(c:Code):Prop:=
 ∀l m t H e t' H',fC P C c t H=some (e,t',H')->∀(ρ:Ren) (w:World) (a:Act),Rel ρ H w->TOn ρ H.gen w (λ_=> True) t a->∀Q:Exit->Act->World->Prop,¬LetsOut Q->aou ρ H w a t' H' (Q e.to)->c.wpIn (Fence.wide.inRound l) m P Q a w
theorem acU {ops:List Oper}{t t':fO}{H H':ah}{ρ:Ren}{w:World}{a:Act}(hC:qM P C)(hKC:kG C)(h:yG P C ops t H=some (t',H'))(R:Rel ρ H w)(TR:TOn ρ H.gen w (λ_=> True) t a){Q:Exit->Act->World->Prop}
  (hQ:∀a' ρ' w',Rel ρ' H' w'->TOn ρ' H'.gen w' (λ_=> True) t' a'->Ext ρ H w ρ' H' w'->a'.defers=a.defers->Q .normal a' w'):wpAny P .any ops.toArray Q ops.toArray.size (Array.replicate ops.toArray.size false) a w.drew:=by
 unfold yG at h;split at h <;> first | (cases h;done) | skip
 rename_i hok;split at h <;> first | (cases h;done) | skip
 rename_i t0 H0 hcr;obtain⟨hrun,aot⟩:fH P C ops (mF ops) t0 H0=some (t',H')/\∀p∈lF ops,agree P C ops H.next t0 H0 p:=by
  split at h
  ·rename_i he;rw [he];exact⟨h,by simp⟩
  ·split at h <;> first | (cases h;done) | skip
   rename_i ha;exact⟨h,ha⟩
 have F:=Dh hok;have hmem:∀j,j∈oq ops↔j < ops.length/\cst ops j=true:=λj=> by simp [oq,zbn,zaX]
 obtain⟨hf,hg,hlen,nm,vl,h1,h2,h3⟩:=uF (oq ops) t H t0 H0 (List.nodup_range.filter _) (λj hj=> ((hmem j).1 hj).2)
  (λi _ j _ oi oj d a1 a2 a3 a4=> F.an2 i j oi oj d a1 a2 a3 a4) hcr
 obtain⟨T,Hp,val,S,hend,hval⟩:=I9 hrun vl;obtain⟨hgen,RH0,EH0⟩:=OD R hf hg;obtain⟨ρ1,w1,a1,g1,g2⟩:=yI hC _ _ _ _ _ ρ w a hcr R TR;have D:ab7 P C ops t H t0 H0 T Hp val nm:={
  facts:=F
  S:=S
  names:=λj hj hc=> by
   obtain⟨o,q1,q2,q3,q4,q5⟩:=h1 j ((hmem j).2 ⟨hj,hc⟩);exact⟨o,q1,q2,q3,by rw [hval j hc];exact q4,λd hd hl=> by rw [hval j hc];exact q5 d hd hl⟩
  inj:=λi j hi hj ci cj e=> h2 i ((hmem i).2 ⟨hi,ci⟩) j ((hmem j).2 ⟨hj,cj⟩) e
  rest:=λd hd=> h3 d λj hj o ho=> hd j ((hmem j).1 hj).2 o ho
  len:=hlen
  fresh:=hf
  ap8:=hg
  agr:=aot
  ghost:=λp hp d=> by
   obtain⟨ρ2,w2,a2,r1,r2⟩:=Ja hC S g1 g2 p hp;exact RV.nv r1.out _ _ (r2.any d trivial)
  keeps:=hKC }
 have e1:T ops.length=t':=by rw [<-Prod.mk.inj hend |>.1]
 have e2:Hp ops.length=H':=by rw [<-Prod.mk.inj hend |>.2]
 have hli:∀j,¬Li (Array.replicate ops.toArray.size false) j:=λj=> by
  unfold Li;simp [Array.getD]
 refine aec hC D (a0:=a) (λa' ρ' w' q1 q2 q3 q4=> hQ a' ρ' w' (by rw [<-e2];exact q1) (by rw [<-e1,<-e2];exact q2) (by rw [<-e2];exact q3) q4) ops.toArray.size _ a w.drew 0 ρ (by simp [zl]) ?_;refine⟨by simp,λj o _ hl=> absurd hl (hli j),zaT _,λi _ _=> ⟨λhl=> absurd hl (hli i),λh=> by omega⟩,by rw [S.zero.2];exact RH0.drew,λk hk hc _=> ?_,?_,TR.size,λd hd=> ⟨λj o _ hl=> absurd hl (hli j),λ_=> ?_⟩,rfl⟩
 ·obtain⟨_,_,q1,_⟩:=D.names k hk hc;exact(R.out _ q1).1
 ·rw [S.zero.2];exact EH0.trans (Ext.drew ρ H0 w)
 ·rw [S.zero.2,hgen];exact RV.mono (Ext.drew ρ H w).toMono _ _ (TR.get d trivial hd)
theorem SE(hC:qM P C)(hKC:kG C)(hm:P.follows .mixedOrders=true){id:Nat}{ops:Array Oper}(hd:∀o∈ops,Ce o=true):xK P C (.region id ops true):=by
 intro l m t H e t' H' h ρ w a R T Q hlo hQ;simp only [fC,if_true] at h;split at h <;> first | (cases h;done) | skip
 rename_i t1 H1 hdr;simp only [zaa,zad] at h;obtain⟨rfl,rfl,rfl⟩:=h;have:=acU hC hKC hdr R T (Q:=Q) hQ;rw [show ops.toList.toArray=ops from rfl] at this;exact wpIn_region_any hm (acT hd hlo _ _ _ _ this)
theorem SG {id:Nat}{c:Code}(hc:xK P C c):xK P C (.block id c):=by
 intro l m t H e t' H' h ρ w a R T Q hlo hQ;simp only [fC] at h;refine wpIn_block ?_;unfold Dj at h;have hl:¬LetsOut (Exit.inBlock id Q):=λ⟨a,w,h⟩=> hlo ⟨a,w,h⟩;split at h
 ·rename_i i t1 H1 hf;refine hc l m t H _ t1 H1 hf ρ w a R T _ hl λa2 ρ2 w2 r1 r2 r3 r4=> ?_;simp only [Ex.to,Exit.inBlock];split at h
  ·rename_i hid;simp only [zaa,zad] at h;obtain⟨rfl,rfl,rfl⟩:=h;rw [if_pos hid];exact hQ a2 ρ2 w2 r1 r2 r3 r4
  ·rename_i hid;simp only [zaa,zad] at h;obtain⟨rfl,rfl,rfl⟩:=h;rw [if_neg hid];exact hQ a2 ρ2 w2 r1 r2 r3 r4
 ·rename_i t1 H1 hf;simp only [zaa,zad] at h;obtain⟨rfl,rfl,rfl⟩:=h;exact hc l m t H _ t1 H1 hf ρ w a R T _ hl hQ
 ·rename_i t1 H1 hf;simp only [zaa,zad] at h;obtain⟨rfl,rfl,rfl⟩:=h;exact hc l m t H _ t1 H1 hf ρ w a R T _ hl hQ
 ·cases h
def wM(H:ah):Prop:=∀r k es,H.get r≠.map k es
theorem wM.cells {H:ah}(h:wM H){ρ:Ren}{w:World}(R:Rel ρ H w){r b sh:Nat}(hr:ρ r=some (b,sh)):∃cs e,w.heap[b]?=some (.cells cs e (0,0)):=by
 have:=R.obj r b sh hr;cases hg:H.get r with
 | blk g ty cells=>
  rw [hg] at this;obtain⟨cs,e,h1,_⟩:=this;exact⟨cs,e,h1⟩
 | map k es=> exact absurd hg (h r k es)
theorem wM.imm {H:ah}(h:wM H){ρ:Ren}{w:World}(R:Rel ρ H w){b:Nat}{o:Obj}(ho:w.heap[b]?=some o)(hc:o.isCells=false):Imm ρ b:=λr sh hr=> by
 obtain⟨cs,e,h1⟩:=h.cells R hr;rw [ho] at h1;cases h1;cases hc
end
structure Grn(w w':World):Prop where
 size:w.heap.size<=w'.heap.size
 cell:∀b o v,w.cell? ⟨b,o,none⟩=some v->w'.cell? ⟨b,o,none⟩=some v
 shape:∀b e m,w.shape? b=some (e,m)->w'.shape? b=some (e,m)
mutual
theorem RV.grn {ρ:Ren}{G:Nat->Nat}{w w':World}(M:Grn w w'):∀(x:AV) (v:Value),RV ρ G w x v->RV ρ G w' x v
 | .s _,_,h=> by simpa only [RV] using h
 | .ref r g off,v,h=> by simpa only [RV] using h
 | .sl r g off esz len cap ex,v,h=> by
  obtain⟨b,o,c,e,k1,k2,k3,h1,h2⟩:=(by simpa only [RV] using h)
  simp only [RV];refine⟨b,o,c,e,k1,k2,k3,h1,λhg=> ?_⟩;obtain⟨sh,ty,k,q1,q2,q3,q4⟩:=h2 hg;exact⟨sh,ty,k,q1,q2,M.shape _ _ _ q3,q4⟩
 | .ip cells,v,h=> by
  obtain⟨b,o,e,hb,hi,h1⟩:=(by simpa only [RV] using h)
  simp only [RV];exact⟨b,o,e,zav hb M.size,hi,RVc.grn M cells b o h1⟩
 | .vs m esz cells,v,h=> by
  obtain⟨b,o,c,e,k1,k2,hb,hi,h1⟩:=(by simpa only [RV] using h)
  simp only [RV];exact⟨b,o,c,e,k1,k2,zav hb M.size,hi,RVc.grn M cells b o h1⟩
 | .mp r,v,h=> by simpa only [RV] using h
 | .fn f a c,v,h=> by
  obtain⟨a',c',e,h1,h2⟩:=(by simpa only [RV] using h)
  simp only [RV];exact⟨a',c',e,RVs.grn M a _ h1,RVs.grn M c _ h2⟩
 | .agg cells,v,h=> by
  obtain⟨cs,e,h1⟩:=(by simpa only [RV] using h)
  simp only [RV];exact⟨cs,e,RVs.grn M cells _ h1⟩
 | .tup cells,v,h=> by
  obtain⟨cs,e,h1⟩:=(by simpa only [RV] using h)
  simp only [RV];exact⟨cs,e,RVs.grn M cells _ h1⟩
theorem RVs.grn {ρ:Ren}{G:Nat->Nat}{w w':World}(M:Grn w w'):∀(xs:List AV) (l:List Value),RVs ρ G w xs l->RVs ρ G w' xs l
 | [],_,h=> by simpa only [RVs] using h
 | x::xs,l,h=> by
  obtain⟨y,ys,e,h1,h2⟩:=(by simpa only [RVs] using h)
  simp only [RVs];exact⟨y,ys,e,RV.grn M x y h1,RVs.grn M xs ys h2⟩
theorem RVc.grn {ρ:Ren}{G:Nat->Nat}{w w':World}(M:Grn w w'):∀(xs:List AV) (b o:Nat),RVc ρ G w xs b o->RVc ρ G w' xs b o
 | [],_,_,_=> by simp only [RVc]
 | x::xs,b,o,h=> by
  obtain⟨⟨y,e,h1⟩,h2⟩:=(by simpa only [RVc] using h)
  simp only [RVc];exact⟨⟨y,M.cell _ _ _ e,RV.grn M x y h1⟩,RVc.grn M xs b (o+1) h2⟩
end
section
variable {P:Program}{C:aC}
theorem am1 {w w':World}{row:Option Nat}(hg:w.grownBy w' row)(hr:∀r,row=some r->∃o:Obj,w.heap[r]?=some o/\o.isCells=false):Grn w w':=by
 refine⟨hg.size,λb o v h=> cell_kept h hg hr,λb e m h=> ?_⟩;rw [fB] at h ⊢;cases hb:w.heap[b]? with
 | none=> rw [hb] at h;cases h
 | some ob=>
  have hc:ob.isCells=true:=by
   rw [hb] at h;cases ob <;> first | rfl | cases h
  rw [grownBy_keeps_cells hg hr hb hc];exact h
theorem wM.grown {H:ah}(h:wM H){ρ:Ren}{w w':World}(R:Rel ρ H w){row:Option Nat}{B:Nat}(hg:w.grownBy w' row)(hr:∀r,row=some r->B<=r/\∃o:Obj,w.heap[r]?=some o/\o.isCells=false)(hB:∀b∈fx.blocks,b < B):Rel ρ H w'/\Grn w w':=by
 have M:=am1 hg λr e=> (hr r e).2;refine⟨⟨R.out,λr b sh hrb=> ?_,R.inj,?_⟩,M⟩
 ·have h1:=R.obj r b sh hrb;obtain⟨cs0,e0,hb0⟩:=h.cells R hrb;have hk:=grownBy_keeps_cells hg (λr e=> (hr r e).2) hb0 rfl;cases ho:H.get r with
  | blk g ty cells=>
   rw [ho] at h1;obtain⟨cs,e,q1,q2,q3,q4⟩:=h1;exact⟨cs,e,by rw [hk];exact q1,q2,RVc.grn M _ _ _ q3,q4⟩
  | map k es=> exact absurd ho (h r k es)
 ·refine⟨λb hb=> ?_,fx.frame w w' (λb hb=> ?_) R.gl.2⟩
  ·obtain⟨h1,h2⟩:=R.gl.1 b hb;exact⟨zav h1 hg.size,h2⟩
  ·refine hg.block b (R.gl.1 b hb).1 λe=> ?_;have:=(hr b e.symm).1;have:=hB b hb;omega
theorem Ext.grown {ρ ρ1:Ren}{H H1:ah}{w W W':World}(E:Ext ρ H w ρ1 H1 W){row:Option Nat}(hg:W.grownBy W' row)(hr:∀r,row=some r->w.heap.size<=r):Ext ρ H w ρ1 H1 W':=by
 have hb:∀b,b < w.heap.size->W'.heap[b]?=W.heap[b]?:=λb hb=> hg.block b (zav hb E.size) λe=> by
  have:=hr b e.symm;omega
 exact⟨E.next,E.mono,E.same,E.kept,E.range,zau E.size hg.size,λb h hi=> (hb b h).trans (E.frame b h hi),λb h=> by rw [<-E.shape b h,fB,fB,hb b h],hg.os.trans E.os,hg.tape.trans E.tape,hg.output.trans E.output⟩
def KpC(CP:World->Prop)(A B:World):Prop:=CP A->CP B
theorem acV(hm:P.follows .mixedOrders=true){t:fO}{H:ah}{ρ:Ren}{w:World}{a:Act}(R:Rel ρ H w)(T:TOn ρ H.gen w (λ_=> True) t a)
  {g:Operand} {p d:Tmp} (hp:p < t.length) (hpd:p≠d) {ida:Nat} {ty:TypeId} {pos:String} {aft:Array Edge} {body:Code}
  {gf:Nat} {lb:Array Value} (hg:a.eval g=.func (.func gf) #[] lb) (eg:∀args w,(callFunc gf args).run P w=.ok (.enter gf args) w)
  {N:Nat} (vs:Fin N->AV) (cvs:Fin N->Value) (hv:∀x,RV ρ H.gen w (vs x) (cvs x)) (CP:World->Prop) (hL:∀(W:World) (l:Nat) (o o':Obj),w.heap.size<=l->W.heap[l]?=some o->o.isCells=false->CP W->CP (W.putObj l o'))
  (hseq:∀n,1<=n->SeqStopsK Fence.wide n P gf lb (λx=> #[cvs x]) (KpC CP) (λys=> ys.map (λx:Fin N=> x.val)=List.range N) (λ_=> True) N w)
  (Inv:List (Fin N)->ah->Prop) (h0:Inv [] H) (hnm:∀pre H1,Inv pre H1->wM H1)
  (hcell:∀pre H1 ρ1 W,Inv pre H1->Rel ρ1 H1 W->Ext ρ H w ρ1 H1 W->CP W)
  (hrun:∀pre x H1,Inv pre H1->pre.length < N->∃t2 H2,fC P C body (vT (vT t (some p) (vs x)) (some d) (vs x)) H1=some (.normal,t2,H2)/\Inv (pre++[x]) H2)
  (hin:xK P C body) {Q:Exit->Act->World->Prop}
  (hQ:∀xs H1 D W ρ1,xs.map (λx:Fin N=> x.val)=List.range N->Inv xs H1->Rel ρ1 H1 W->Ext ρ H w ρ1 H1 W->W.heap[D]?=some (.deferred (some []))->Imm ρ1 D->w.heap.size<=D->Q .normal { a with defers:={ target:=.collected D,args:=#[] }::a.defers } W):
  (Code.rangeFunc g #[p] (.region ida #[{ dst:=some d,op:=.assign (.tmp p),type:=ty,pos:=pos,after:=aft,guard:=none }] false) body).wp P Q a w:=by
 refine(wpIn_wide (n:=9)).1 ?_;have hpa:p < a.tmps.size:=by rw [T.size];exact hp
 let a0:Fin N->Act:=λx=> { tmps:=a.tmps.setIfInBounds p (cvs x),defers:=[] }
 let I:List (Fin N)->World->Prop:=λpre W=>∃H1 ρ1,Inv pre H1/\Rel ρ1 H1 W/\Ext ρ H w ρ1 H1 W
 have hfx:∀b∈fx.blocks,b < w.heap.size:=λb hb=> (R.gl.1 b hb).1;refine wpIn_rangeFunc_ownF (F:=Fence.wide) (α:=Fin N) rfl (by decide) (gf:=gf) (lb:=lb) hg trivial eg (hseq 8 (by decide)) (λh k hx=> k (h hx)) ?hKb (Below.refl _ _) (λ_=> rfl) I (λ_ _ _=> False) ?hI (λ_ _ _ _ _ h _ _=> h) ⟨H,ρ,h0,R,Ext.refl _ _ _⟩ (λx=> (a0 x).put (some d) (cvs x)) ?hassign ?hbody ?hdone (λ_ _ _ _ _ _ h _=> h.elim)
 case hKb=>
  intro W l o o' hl ho hc _ hx;exact hL W l o o' hl ho hc hx
 case hI=>
  rintro pre W W' row ⟨H1,ρ1,i1,i2,i3⟩ hgr hr;obtain⟨r1,_⟩:=(hnm pre H1 i1).grown i2 hgr hr hfx;exact⟨H1,ρ1,i1,r1,i3.grown hgr λr e=> (hr r e).1⟩
 case hassign=>
  intro l x W K hK;refine wpIn_region ?_;have e1:(#[p].zip #[cvs x]).foldl (λt q=> t.setIfInBounds q.1 q.2) a.tmps=a.tmps.setIfInBounds p (cvs x):=by simp
  have e2:({ tmps:=a.tmps.setIfInBounds p (cvs x),defers:=[] }:Act).eval (.tmp p)=cvs x:=by
   simp [Act.eval,Array.getD,hpa]
  show wpOpsIn _ _ P _ _ [0] _ W;simp only [wpOpsIn,List.getElem?_toArray,zaP,Region.wanted,if_true];refine am0 (JQ rfl) ?_;unfold Oper.wp;have e3:execOp ({ tmps:=a.tmps.setIfInBounds p (cvs x),defers:=[] }:Act).eval { dst:=some d,op:=.assign (.tmp p),type:=ty,pos:=pos,after:=aft,guard:=none }=pure (.value (cvs x)):=by
   show pure (Next.value _)=_;rw [e2]
  have e4:((#[p].zip #[cvs x]).foldl (λt x=> match x with | (p,v)=> t.setIfInBounds p v) a.tmps)=a.tmps.setIfInBounds p (cvs x):=by simp
  rw [e4,e3];exact hK
 case hbody=>
  rintro l pre x W ⟨H1,ρ1,i1,i2,i3⟩ hlen;obtain⟨t2,H2,r1,r2⟩:=hrun pre x H1 i1 hlen;have hvx:=RV.mono i3.toMono _ _ (hv x);have T0:TOn ρ1 H1.gen W (λ_=> True) (vT t (some p) (vs x)) (a0 x):=⟨((T.keep i3).put (some p) hvx).size,((T.keep i3).put (some p) hvx).get⟩
  have T1:=T0.put (some d) hvx;refine hin l _ _ H1 _ t2 H2 r1 ρ1 W _ i2 T1 _ (λ⟨_,_,h⟩=> h) λa' ρ' w' q1 q2 q3 q4=> ?_;refine⟨⟨q3.size,λk o ho hc=> ?_⟩,λ_=> hcell _ H2 ρ' w' r2 q1 (i3.trans q3),H2,ρ',r2,q1,i3.trans q3⟩;rw [q3.frame k (zbx.1 ho).1 ((hnm pre H1 i1).imm i2 ho hc)];exact ho
 case hdone=>
  rintro D xs W hD hS ⟨H1,ρ1,i1,i2,i3⟩ hK;exact hQ xs H1 D W ρ1 hS i1 i2 i3 hK ((hnm xs H1 i1).imm i2 hK rfl) hD
end
def apz(e:TypeId)(m by_:Nat)(z:List AV)(x y:AV):AM AV:=λH=> match y with
 | .s (.int _ n)=> if 0<=n/\n<=most/\n*by_<=most then dW e m by_ x n.toNat (dY z n.toNat) H else none
 | _=> none
def wO:Ann:=⟨[],[(4,rF 40 (none::some false::[])),(7,rF 3 (some true::rF 4 []))],[]⟩
def SH:Code:=match Zy with
 | .seq a (.seq b (.seq c (.seq d (.seq (.seq e _) f))))=> .seq a (.seq b (.seq c (.seq d (.seq e .skip))))
 | _=> .skip
def SI(C:aC)(t0:AV)(H:ah):Option (List AV × ah):=
 bnd (alc 81 [zI,zI,zI,zI,zI,zI,zI,zB,zN] H) λv2 H=>
 bnd (C 178 [t0] H) λv12 H=> bo (aJ v12 0) λv13=> bo (aJ v12 1) λv14=>
 bo (un .not v14) λv16=> gdA (some v16) false (fQ (some v13) H) H λv18 H=> gdA (some v16) false (lnS v18 H) H λv19 H=> gdA (some v16) false (fQ (bi .lss 3 v19 (I 10)) H) H λv20 H=> bo (dG v16 (B true) v20) λv21=> gdA (some v21) false (fQ (some v13) H) H λv23 H=> gdA (some v21) false (lnS v23 H) H λv24 H=> gdA (some v21) false (fQ (some v13) H) H λv25 H=> gdA (some v21) false (ix 1 v25 (I 9) H) H λv26 H=> gdA (some v21) false (ld v26 H) H λv27 H=> gdA (some v21) false (cv 5 3 v27 H) H λv28 H=> gdA (some v21) false (fQ (bi .mul 3 (I 8) v28) H) H λv29 H=> gdA (some v21) false (fQ (bi .add 3 (I 10) v29) H) H λv30 H=> gdA (some v21) false (fQ (bi .neq 3 v24 v30) H) H λv31 H=> bo (dG v21 (B true) v31) λv32=>
 aV v32
 (bo (bd 81 []) λv33=> bnd (st 9 v2 v33 H) λ_ H=>
  none)
 (bnd (alc 81 [zI,zI,zI,zI,zI,zI,zI,zB,zN] H) λv6 H=> bnd (ix 1 v13 (I 0) H) λv35 H=> bnd (ld v35 H) λv36 H=> bnd (cv 5 3 v36 H) λv37 H=> bnd (ix 1 v13 (I 1) H) λv39 H=> bnd (ld v39 H) λv40 H=> bnd (cv 5 3 v40 H) λv41 H=> bnd (ix 1 v13 (I 2) H) λv43 H=> bnd (ld v43 H) λv44 H=> bnd (cv 5 3 v44 H) λv45 H=> bnd (ix 1 v13 (I 3) H) λv47 H=> bnd (ld v47 H) λv48 H=> bnd (cv 5 3 v48 H) λv49 H=> bo (bi .shl 3 v49 (.s (Go.Value.int Go.IntKind.u64 8))) λv50=> bnd (ix 1 v13 (I 4) H) λv52 H=> bnd (ld v52 H) λv53 H=> bnd (cv 5 3 v53 H) λv54 H=> bo (bi .or 3 v50 v54) λv55=> bnd (ix 1 v13 (I 5) H) λv57 H=> bnd (ld v57 H) λv58 H=> bnd (cv 5 3 v58 H) λv59 H=> bnd (ix 1 v13 (I 6) H) λv61 H=> bnd (ld v61 H) λv62 H=> bnd (cv 5 3 v62 H) λv63 H=> bo (bi .sub 3 v63 (I 1)) λv64=> bnd (ix 1 v13 (I 7) H) λv66 H=> bnd (ld v66 H) λv67 H=> bnd (cv 5 3 v67 H) λv68 H=> bnd (ix 1 v13 (I 8) H) λv70 H=> bnd (ld v70 H) λv71 H=> bo (bi .eql 5 v71 (.s (Go.Value.int Go.IntKind.u8 1))) λv72=> bo (bd 81 [(0,v37),(1,v41),(2,v45),(3,v55),(4,v59),(5,v64),(6,v68),(7,v72)]) λv73=> bnd (st 9 v6 v73 H) λ_ H=>
  bo (slS 1 v13 (some (I 10)) none none) λv75=> bnd (C 179 [v75,(I 8)] H) λv76 H=>
  some ([t0,v2,v6,v76],H))
theorem ahQ(C:aC)(t0:AV)(H:ah):kL Tryz.prog C wO 100 SH [(0,t0)] H (λe H=> some (xU [0,2,6,76] e,H)) (λ_ _ _=> none) (λ_ _=> none)=SI C t0 H:=by kernel_rfl
def Me:Code:=match Zy with
 | .seq a (.seq b (.seq c (.seq d (.seq (.seq e (.block _ (.rangeFunc _ _ _ g))) f))))=> g
 | _=> .skip
def SK(C:aC)(t6 t7:AV)(H:ah):Option (List AV × ah):=
 bo (au t6 8) λv78=> bnd (ld v78 H) λv79 H=> bnd (unG H (C 180 [t7] H.guard)) λv81 H=> bnd (bs 22 1 [(0,v81)] H) λv82 H=> bnd (app 3 1 8 v79 v82 H) λv83 H=> bo (au t6 8) λv84=> bnd (st 1 v84 v83 H) λ_ H=>
 some ([],H)
theorem ahR(C:aC)(t6 t7:AV)(H:ah):kL Tryz.prog C wO 100 Me [(6,t6),(7,t7)] H (λe H=> some (xU [] e,H)) (λ_ _ _=> none) (λ_ _=> none)=SK C t6 t7 H:=by kernel_rfl
def MB:Code:=match Zy with
 | .seq a (.seq b (.seq c (.seq d (.seq (.seq e _) f))))=> f
 | _=> .skip
def SL(C:aC)(t0 t2 t6:AV)(H:ah):Option (AV × ah):=
 bnd (lda 9 t6 H) λv86 H=> bnd (C 128 [v86] H) λv87 H=> bo (aJ v87 0) λv88=> bo (aJ v87 1) λv89=>
 bo (bi .neq 57 v89 (I 0)) λv91=> gdA (some v91) false (fQ (some v88) H) H λv93 H=> gdA (some v91) false (fQ (some t0) H) H λv94 H=> gdA (some v91) false (C 181 [v93,v94] H) H λv95 H=> gdA (some v91) false (fQ (un .not v95) H) H λv96 H=> bo (dG v91 (B true) v96) λv97=>
 aV v97
 (bo (bd 81 []) λv98=> bnd (st 9 t2 v98 H) λ_ H=>
  bnd (lda 9 t2 H) λr0 _=> some (.tup [r0,(I 2)],H))
 (bnd (lda 9 t6 H) λv99 H=> bnd (st 9 t2 v99 H) λ_ H=>
  bnd (lda 9 t2 H) λr0 _=> some (.tup [r0,(I 0)],H))
theorem ahS(C:aC)(t0 t2 t6:AV)(H:ah):kL Tryz.prog C wO 100 MB [(0,t0),(2,t2),(6,t6)] H (NU Tryz.prog 100 Tryz.f129.results.toList) (λ_ _ _=> none) (NU Tryz.prog 100 Tryz.f129.results.toList)=SL C t0 t2 t6 H:=by kernel_rfl
def MC(C:aC)(t0:AV)(H:ah):OA:=
 some (t0,H)
def MF(C:aC)(t0 t1:AV)(H:ah):OA:=
 bnd (fQ (ad7 Tryz.prog 220 t0) H) λv10 H=> bnd (lnS t0 H) λv12 H=> bo (bi .sub 3 v10 v12) λv13=> bo (bi .sub 3 t1 v13) λv14=>
 bo (bi .gtr 3 v14 (I 0)) λv16=>
 aV v16
 (bnd (fQ (ad7 Tryz.prog 220 t0) H) λv19 H=> bo (slS 1 t0 none (some v19) none) λv20=> bnd (apz 5 1 1 [.s (.int .u8 0)] v20 v14 H) λv22 H=> bnd (lnS t0 H) λv24 H=> bo (slS 1 v22 none (some v24) none) λv25=>
  MC C v25 H)
 (MC C t0 H)
def agv(C:aC)(a0 a1:AV)(H:ah):OA:=
 bo (bi .lss 3 a1 (I 0)) λv6=>
 aV v6
 (bnd (stk H) λv7 H=> bnd (stk H) λ_ H=>
  MF C a0 a1 H)
 (MF C a0 a1 H)
theorem am2:Rn2 234 agv:=λ_ _ _ _ _ h=>
 rnG an0 Tryz.func234 (by kernel_rfl) (by kernel_rfl) h
structure Gro(H H':ah):Prop where
 next:H.next<=H'.next
 base:H'.base=H.base
 same:∀r,r < H.next->H'.get r=H.get r
 PS:wM H->wM H'
theorem Gro.refl(H:ah):Gro H H:=⟨zac _,rfl,λ_ _=> rfl,λh=> h⟩
theorem Gro.trans {H H' H'':ah}(a:Gro H H')(b:Gro H' H''):Gro H H'':=
 ⟨zau a.next b.next,b.base.trans a.base,λr h=> (b.same r (zav h a.next)).trans (a.same r h),λh=> b.PS (a.PS h)⟩
theorem Gro.new(H:ah)(g ty:Nat)(xs:List AV):Gro H (H.new (.blk g ty xs)):=
 ⟨by rw [fA];omega,jy,λr h=> cZ h,λh r k es=> by
  by_cases e:r=H.next
  ·rw [bF e];simp
  ·have:(H.new (.blk g ty xs)).get r=H.get r:=by simp [ah.new,e]
   rw [this];exact h r k es⟩
structure dI(H:ah)(x:AV)(l:List By):Prop where
 is:aW H x 1 l.length (l.map Y)
 small:l.length < 1000
theorem dI.gro {H H':ah}{x:AV}{l:List By}(h:dI H x l)(g:Gro H H'):dI H' x l:=⟨h.is.jZ g.next λr _ hr=> g.same r hr,h.small⟩
theorem dI.ix {H:ah}{x:AV}{l:List By}(h:dI H x l){i:Nat}(hi:i < l.length):ix 1 x (I i) H=some (eU x i,H):=by
 have:=h.is.ix (k:=.i64) (i:=(i:Int)) (by omega) (by omega)
 rwa [zat] at this
theorem dI.ld {H:ah}{x:AV}{l:List By}(h:dI H x l){i:Nat}{c:By}(hi:l[i]?=some c):ld (eU x i) H=some (Y c,H):=by
 rw [h.is.ld (by have:=(zai.1 hi).1;omega),zaR,hi];rfl
theorem ahT(s:S16):(s <<< 1) ^^^ ((s >>> 15)*4129#16)=shS s:=by
 unfold shS
 congr 1
 have hlt:=s.isLt;have h15:s >>> 15=if s.msb then 1#16 else 0#16:=by
  apply BitVec.eq_of_toNat_eq
  rw [BitVec.toNat_ushiftRight,zcu,BitVec.msb_eq_decide];by_cases h:2 ^ (16 - 1)<=s.toNat
  ·simp only [h,decide_true,if_true];show s.toNat / 2 ^ 15=1;omega
  ·simp only [h,decide_false,zah,if_false];show s.toNat / 2 ^ 15=0;omega
 rw [h15];cases s.msb <;> simp
theorem agw {x:AV}{n i:Int}(H:ah):∀(k j:Nat),j+k=8->∀s:S16,EJ cl0 [U16 s,x,I n,I i,I j] H=Ae cl0 [U16 (shN k s),x,I n,I (IntKind.wrap .i64 (i+1))] H
 | 0,j,hj,s=> by
  have h1:¬((j:Int) < 8):=by omega
  rw [Vf];simp only [xq_,h1,dF];rfl
 | k+1,j,hj,s=> by
  have h1:(j:Int) < 8:=by omega
  have h6:(j:Int)+1=((j+1:Nat):Int):=by omega
  have h7:=wrap_i64 (a:=((j+1:Nat):Int)) (by omega) (by omega);have e1:bi .shr 42 (U16 s) (.s (.int .u64 15))=some (U16 (s >>> 15)):=ahq (k:=.u16) s 15 (by decide) (by decide);have e2:bi .shl 42 (U16 s) (.s (.int .u64 1))=some (U16 (s <<< 1)):=Zb (k:=.u16) rfl s 1 (by decide) (by decide);have e3:bi .mul 42 (U16 (s >>> 15)) (.s (.int .u16 4129))=some (U16 ((s >>> 15)*4129#16)):=aoP (k:=.u16) rfl (s >>> 15) 4129#16;have e4:bi .xor 42 (U16 (s <<< 1)) (U16 ((s >>> 15)*4129#16))=some (U16 (shS s)):=by rw [<-ahT];exact ahp (k:=.u16) rfl _ _
  have ih:=agw (x:=x) (n:=n) (i:=i) H k (j+1) (by omega) (shS s);rw [Vf];simp only [xq_,h1,e1,e2,e3,e4,dF,h6,h7,ih];rfl
theorem aqX {H:ah}{x:AV}{l:List By}(hx:dI H x l):cl0 212 [x] H=some (U16 (uN 0xffff#16 l),H):=by
 have key:∀(k i:Nat),i+k=l.length->∀s:S16,Ae cl0 [U16 s,x,I l.length,I i] H=some (U16 (uN s (l.drop i)),H):=by
  intro k
  induction k with
  | zero=>
   intro i hi s;have h1:¬((i:Int) < l.length):=by omega
   rw [Ve,zaS (by omega)];simp only [xq_,h1];rfl
  | succ k ih=>
   intro i hi s;have h1:(i:Int) < l.length:=by omega
   have h6:(i:Int)+1=((i+1:Nat):Int):=by omega
   have h7:=wrap_i64 (a:=((i+1:Nat):Int)) (by have:=hx.small;omega) (by have:=hx.small;omega);obtain⟨c,hc⟩:∃c,l[i]?=some c:=⟨_,zab (by omega)⟩
   have s1:=hx.ix (i:=i) (by omega);have s2:=hx.ld hc;have e1:cv 5 42 (Y c) H=some (U16 (c.setWidth 16),H):=
    (ahf (k:=.u8) (n:=(c.toNat:Int)) (H:=H)).trans (congrArg (λv=> some (v,H)) (ako (k:=.u8) (k':=.u16) rfl c))
   have e2:bi .shl 42 (U16 (c.setWidth 16)) (.s (.int .u64 8))=some (U16 (c.setWidth 16 <<< 8)):=Zb (k:=.u16) rfl (c.setWidth 16) 8 (by decide) (by decide);have e3:bi .xor 42 (U16 s) (U16 (c.setWidth 16 <<< 8))=some (U16 (s ^^^ (c.setWidth 16 <<< 8))):=ahp (k:=.u16) rfl _ _;have e4:=agw (x:=x) (n:=(l.length:Int)) (i:=(i:Int)) H 8 0 rfl (s ^^^ (c.setWidth 16 <<< 8));rw [h6,h7] at e4;have hd:l.drop i=c::l.drop (i+1):=by
    rw [zbA (by omega)];rw [zab (by omega)] at hc;rw [zaZ hc]
   have ih1:=ih (i+1) (by omega) (XR s c);have e5:uN s (c::l.drop (i+1))=uN (XR s c) (l.drop (i+1)):=rfl;rw [Ve,hd,e5,<-ih1];have z0:((0:Nat):Int)=0:=rfl;rw [z0] at e4;simp only [xq_,h1,s1,s2,e1,e2,e3,e4];rfl
 refine iG (ams _ _ _ ?_);have s0:=hx.is.lnS;have k0:=key l.length 0 (by omega) 0xffff#16;rw [zaQ] at k0;simp only [xq_,agf,s0];exact k0
theorem Vl {e:Nat}{z a c:AV}{H:ah}(ha:One a)(hc:One c):bsl e 1 [z] 2 [(0,a),(1,c)] H=some (.sl H.next 0 0 1 2 2 true,H.new (.blk 0 e [a,c])):=by
 have e1:dY [z] 2=[z,z]:=rfl;unfold bsl;rw [e1,Gh (off:=0) rfl ha.1 (by simp),Gh (off:=1) rfl hc.1 (by simp),dX];simp only [zb2,zb3];simp only [List.all_cons,ha.2,hc.2,List.all_nil,zcp,if_true]
theorem aah {e by_ r ty len cap n:Nat}{ex:Bool}{y:AV}{cells new:List AV}{H:ah}(hx:H.get r=.blk 0 ty cells)(hb:H.base<=r)(hy:aW H y 1 n new)(hc:new.all AV.aX=true)(hcap:len+n<=cap)(hl:len+n<=cells.length):
  app e 1 by_ (.sl r 0 0 1 len cap ex) y H=some (.sl r 0 0 1 (len+n) cap ex,H.put r (.blk 0 ty (aN cells len new))):=by
 obtain⟨c1,c2⟩:=hy.Dn;simp only [app,c1,c2];unfold dW;rw [if_pos ⟨hy.1,hc⟩];simp only [hx];rw [if_pos ⟨trivial,trivial,by omega⟩];by_cases hn:n=0
 ·subst hn;have hnew:new=[]:=zas (by have:=hy.1;omega);subst hnew;rw [if_pos rfl];have:aN cells len []=cells:=by simp [aN]
  rw [this,zbp];have:H.put r (.blk 0 ty cells)=H:=by
   unfold ah.put;cases H with
   | mk n b g=>
    simp only at hx ⊢
    congr 1
    funext x
    split
    ·rename_i h;rw [h,hx]
    ·rfl
  rw [this]
 ·rw [if_neg hn,if_pos hcap,if_pos ⟨hb,by omega⟩];simp
theorem apA(H:ah)(n:Nat)(h0:0 < n)(h1:n < 10000):cl0 234 [zN,I n] H=some (.sl H.next 0 0 1 0 n false,H.new (.blk 0 (5+gV) (dY [.s (.int .u8 0)] n))):=by
 refine iG (am2 _ _ _ _ ?_);have n0:¬((n:Int) < 0):=by omega
 have cp:ad7 Tryz.prog 220 zN=some (I 0):=by kernel_rfl
 have w0:IntKind.wrap .i64 ((0:Int) - 0)=0:=rfl;have w1:IntKind.wrap .i64 ((n:Int) - 0)=n:=by rw [Int.sub_zero];exact wrap_i64 (by omega) (by omega)
 have g0:(0:Int) < n:=by omega
 have s0:slS 1 zN none (some (I 0)) none=some zN:=by kernel_rfl
 have az:apz 5 1 1 [.s (.int .u8 0)] zN (I n) H=some (.sl H.next 0 0 1 n n false,H.new (.blk 0 (5+gV) (dY [.s (.int .u8 0)] n))):=by
  show(if 0<=(n:Int)/\(n:Int)<=most/\(n:Int)*1<=most then dW 5 1 1 zN (n:Int).toNat (dY [.s (.int .u8 0)] (n:Int).toNat) H else none)=_;have hm:(n:Int)<=most:=by unfold most;omega
  rw [if_pos ⟨by omega,hm,by omega⟩,zat];unfold dW;have hl:(dY [AV.s (.int .u8 0)] n).length=n*1:=by rw [sZ];simp
  rw [if_pos ⟨hl,BH rfl n⟩];simp only;rw [if_neg (by omega),if_pos ⟨by unfold most;omega,by unfold most;omega⟩]
 have s1:slS 1 (.sl H.next 0 0 1 n n false) none (some (I 0)) none=some (.sl H.next 0 0 1 0 n false):=YS (by omega) (by omega);have ln0:∀H,lnS zN H=some (I 0,H):=λ_=> rfl;simp only [xq_,agv,MF,MC,n0,cp,ln0,jR,w0,w1,g0,s0,az,s1]
theorem ahU {c:By}:One (Y c):=⟨rfl,rfl⟩
theorem aai {H:ah}{x:AV}{l:List By}(h:dI H x l):One x:=by
 obtain⟨_,hh⟩:=h.is;cases x with
 | sl r g off esz len cap ex=> exact qX
 | vs n m l=> exact aeG
 | s v=> cases v <;> first | exact hh.elim | exact⟨rfl,rfl⟩
 | _=> exact hh.elim
theorem aqY {H:ah}(hb:H.base<=H.next){a x y:AV}{l m:List By}(ha:aW H a 1 2 [x,y])(hx:dI H x l)(hy:dI H y m)(hm:0 < m.length):
  cl0 213 [a] H=some (.sl H.next 0 0 1 (l.length+m.length) (l.length+m.length) false,H.new (.blk 0 (5+gV) ((l++m).map Y))):=by
 have sl:=hx.small;have sm:=hy.small;refine iG (amu _ _ _ ?_);have ln:=ha.lnS;have i0:=ha.ix (k:=.i64) (i:=0) (by decide) (by decide);have i1:=ha.ix (k:=.i64) (i:=1) (by decide) (by decide);have d0:ld (eU a 0) H=some (x,H):=ha.ld (by decide);have d1:ld (eU a 1) H=some (y,H):=ha.ld (by decide);have lx:=hx.is.lnS;have ly:=hy.is.lnS;let Z:ah->List AV->ah:=λH l=> H.new (.blk 0 (5+gV) l)
 obtain⟨n,hn⟩:∃n,n=l.length+m.length:=⟨_,rfl⟩
 have gr:=apA H n (by omega) (by omega);have K:∀cs,Gro H (H.new (.blk 0 (5+gV) cs)):=λcs=> Gro.new H 0 _ cs;have hz:(dY [AV.s (.int .u8 0)] n).length=n:=by rw [sZ];simp
 -- behind the first
 let c1:=aN (dY [AV.s (.int .u8 0)] n) 0 (l.map Y);have a1:=aah (e:=5) (by_:=1) (r:=H.next) (ex:=false) (cap:=n) (H:=H.new (.blk 0 (5+gV) (dY [.s (.int .u8 0)] n))) (bF rfl) (by rw [jy];exact hb) (hx.gro (K _)).is (acK l) (len:=0) (by omega) (by omega);rw [RQ,za3] at a1;have hc1:c1.length=n:=by simp only [c1,aN,zao,zax,zaL,zaD,hz];omega
 have a2:=aah (e:=5) (by_:=1) (r:=H.next) (ex:=false) (cap:=n) (H:=H.new (.blk 0 (5+gV) c1)) (bF rfl) (by rw [jy];exact hb) (hy.gro (K _)).is (acK m) (len:=l.length) (by omega) (by omega);rw [RQ] at a2;have hc2:aN c1 l.length (m.map Y)=(l++m).map Y:=by
  simp only [c1,aN,zdw,zaJ,za3,zaD];rw [zbM (by simp),zaz (by simp),zdh,zaS (by simp),zbE];rw [zaS (by simp only [hz,zaD];omega)];simp
 rw [hc2] at a2;have ga:=λcs=> (ha.jZ (K cs).next λr _ hr=> (K cs).same r hr)
 have li:=λcs=> (ga cs).lnS;have j0:=λcs=> (ga cs).ix (k:=.i64) (i:=0) (by decide) (by decide);have j1:=λcs=> (ga cs).ix (k:=.i64) (i:=1) (by decide) (by decide);have e0:∀cs,ld (eU a 0) (H.new (.blk 0 (5+gV) cs))=some (x,H.new (.blk 0 (5+gV) cs)):=λcs=> (ga cs).ld (by decide);have e1:∀cs,ld (eU a 1) (H.new (.blk 0 (5+gV) cs))=some (y,H.new (.blk 0 (5+gV) cs)):=λcs=> (ga cs).ld (by decide);have t0:((0:Int).toNat)=0:=rfl;have t1:((1:Int).toNat)=1:=rfl;rw [t0] at i0;rw [t1] at i1;have j0:∀cs,ix 1 a (I 0) (H.new (.blk 0 (5+gV) cs))=some (eU a 0,H.new (.blk 0 (5+gV) cs)):=j0;have j1:∀cs,ix 1 a (I 1) (H.new (.blk 0 (5+gV) cs))=some (eU a 1,H.new (.blk 0 (5+gV) cs)):=j1;have w1:IntKind.wrap .i64 ((0:Int)+l.length)=l.length:=by rw [Int.zero_add];exact wrap_i64 (by omega) (by omega)
 have w2:IntKind.wrap .i64 ((l.length:Int)+m.length)=n:=by rw [hn];have:=wrap_i64 (a:=((l.length+m.length:Nat):Int)) (by omega) (by omega);rwa [Int.natCast_add] at this ⊢
 have p1:IntKind.wrap .i64 (1:Int)=1:=rfl;have p2:IntKind.wrap .i64 (2:Int)=2:=rfl;have q1:¬((l.length:Int) < 0):=by omega
 have q2:¬((n:Int) < 0):=by omega
 have z2:((2:Nat):Int)=2:=rfl;rw [z2] at ln;have li:∀cs,lnS a (H.new (.blk 0 (5+gV) cs))=some (I 2,H.new (.blk 0 (5+gV) cs)):=li;rw [<-hn] at a2 ⊢;simp only [c1] at a2;simp only [xq_,agh,ln];rw [L8];simp only [Int.reduceLT,Int.reduceAdd,xq_,EK,i0,d0,lx,dF,w1,q1,p1];rw [L8];simp only [Int.reduceLT,Int.reduceAdd,xq_,EK,i1,d1,ly,dF,w2,q2,p2];rw [L8];simp only [Int.reduceLT,xq_,gr,li];rw [L9];simp only [Int.reduceLT,Int.reduceAdd,xq_,j0,e0,a1,dF,p1];rw [L9];simp only [Int.reduceLT,Int.reduceAdd,xq_,j1,e1,a2,dF,p2];rw [L9];simp only [Int.reduceLT,xq_]
theorem dI.made {H:ah}{l:List By}{ty:TypeId}{ex:Bool}(h:l.length < 1000):dI (H.new (.blk 0 ty (l.map Y))) (.sl H.next 0 0 1 l.length l.length ex) l:=
 ⟨ku (by simp),h⟩
theorem ahV {H:ah}(hb:H.base<=H.next){x:AV}{l:List By}(hx:dI H x l)(hl:l.length < 900):
  ∃y H',cl0 177 [x] H=some (y,H')/\Gro H H'/\dI H' y (jD l)/\H'.base<=H'.next:=by
 obtain⟨s,hs⟩:∃s,uN 0xffff#16 l=s:=⟨_,rfl⟩
 have e1:=aqX hx;rw [hs] at e1;have e2:bi .shr 42 (U16 s) (.s (.int .u64 8))=some (U16 (s >>> 8)):=ahq (k:=.u16) s 8 (by decide) (by decide);have e3:∀H,cv 42 5 (U16 (s >>> 8)) H=some (Y (XT s),H):=λH=>
  (YI (k:=.u16) (n:=((s >>> 8).toNat:Int)) (H:=H)).trans (congrArg (λv=> some (v,H)) (ako (k:=.u16) (k':=.u8) rfl (s >>> 8)))
 have e4:∀H,cv 42 5 (U16 s) H=some (Y (XU s),H):=λH=>
  (YI (k:=.u16) (n:=(s.toNat:Int)) (H:=H)).trans (congrArg (λv=> some (v,H)) (ako (k:=.u16) (k':=.u8) rfl s))
 let H1:=H.new (.blk 0 5 [Y (XT s),Y (XU s)]);let y1:AV:=.sl H.next 0 0 1 2 2 true
 let H2:=H1.new (.blk 0 220 [x,y1]);have g1:Gro H H1:=Gro.new H 0 _ _;have g2:Gro H1 H2:=Gro.new H1 0 _ _;have by1:dI H1 y1 [XT s,XU s]:=dI.made (l:=[XT s,XU s]) (by simp);have ha:aW H2 (.sl H1.next 0 0 1 2 2 true) 1 2 [x,y1]:=ku rfl;have hb2:H2.base<=H2.next:=by simp only [H2,H1,jy,fA];omega
 have ec:=aqY hb2 ha (hx.gro (g1.trans g2)) (by1.gro g2) (by simp);have hse:jD l=l++[XT s,XU s]:=by unfold jD;rw [hs]
 have hlen:(jD l).length=l.length+2:=by rw [hse];simp
 have bm:=dI.made (H:=H2) (l:=jD l) (ty:=5+gV) (ex:=false) (by omega);rw [hlen] at bm;have l2:([XT s,XU s]:List By).length=2:=rfl;rw [<-hse,l2] at ec;refine⟨_,_,iG (alV _ _ _ (r:=(.sl H2.next 0 0 1 (l.length+2) (l.length+2) false,H2.new (.blk 0 (5+gV) ((jD l).map Y)))) ?_),(g1.trans g2).trans (Gro.new H2 0 _ _),bm,by rw [jy,fA];omega⟩;have b1:bs 220 2 [(0,Y (XT s)),(1,Y (XU s))] H=some (y1,H1):=(UE (by decide)).trans (Vl ahU ahU);have b2:bs 326 2 [(0,x),(1,y1)] H1=some (.sl H1.next 0 0 1 2 2 true,H2):=(ajB (by decide)).trans (Vl (aai hx) qX);simp only [xq_,afP,e1,e2,e3,e4,b1,b2,ec]
theorem DF:∀(ns:List Int) (b:ByteArray),(ns.foldl (λs n=> s.push (UInt8.ofNat n.toNat)) b).data.toList=b.data.toList++ns.map λn=> UInt8.ofNat n.toNat
 | [],b=> by simp
 | n::ns,b=> by
  rw [zbJ,DF ns];simp [ByteArray.push]
theorem aaj {l m:List By}(h:Oe (l.map λc=> (c.toNat:Int))=Oe (m.map λc=> (c.toNat:Int))):l=m:=by
 have h1:=congrArg (λb:ByteArray=> b.data.toList) h;unfold Oe at h1;simp only [DF,zc2] at h1;have h2:l.map (λc:By=> UInt8.ofBitVec c)=m.map (λc:By=> UInt8.ofBitVec c):=by
  have key:∀l:List By,l.map ((λn:Int=> UInt8.ofNat n.toNat) ∘ λc:By=> (c.toNat:Int))=l.map (λc:By=> UInt8.ofBitVec c):=λl=> zbt λc _=> by
   simp only [Function.comp,zat]
   apply UInt8.toBitVec_inj.1
   simp
  rw [<-key,<-key]
  simpa using h1
 exact(List.map_inj_right λa b h=> by simpa using h).1 h2
theorem Ci:∀l:List By,oh (l.map Y)=some (l.map λc=> (c.toNat:Int))
 | []=> rfl
 | c::l=> by
  show(match oh (l.map Y) with | some l'=> some ((c.toNat:Int)::l') | none=> none)=_;rw [Ci l];rfl
theorem am3 {H:ah}{x:AV}{l:List By}(hx:dI H x l):cv 220 9 x H=some (.s (.string (Oe (l.map λc=> (c.toNat:Int)))),H):=by
 have hbt:Fb Tryz.prog 220 9=true:=by kernel_rfl
 obtain⟨hl,hh⟩:=hx.is;show kF (zf Tryz.prog 220 9 x) x H=_;unfold kF zf;rw [if_pos hbt];cases x with
 | sl r g off esz len cap ex=>
  obtain⟨rfl,rfl,_,ty,all,h2,h3,h4⟩:=hh;simp only [bQ,zak,aiZ,if_true,h2];rw [if_pos ⟨trivial,h3⟩,<-h4,Ci];rfl
 | vs n m cs=>
  obtain⟨rfl,rfl,rfl⟩:=hh;simp only [aiZ,if_true,Ci];rfl
 | s v=>
  cases v with
  | slice a b c=>
   cases a with
   | none=>
    obtain⟨rfl,rfl,h3⟩:=(show b=0/\c=0/\l.length=0 from hh)
    have:l=[]:=zas h3;subst this;rfl
   | some a=> exact hh.elim
  | _=> exact hh.elim
 | _=> exact hh.elim
theorem aak {H:ah}{x y:AV}{l m:List By}(hx:dI H x l)(hy:dI H y m):cl0 181 [x,y] H=some (B (decide (l=m)),H):=by
 refine iG (alY _ _ _ _ ?_);have e1:=am3 hx;have e2:=am3 hy;have e3:∀a c:ByteArray,bi .eql 9 (.s (.string a)) (.s (.string c))=some (B (decide (a=c))):=λa c=> by
  show oQ _ _ _ _ _=_;rcases a with⟨a⟩
  rcases c with⟨c⟩
  by_cases h:a=c
  ·simp [oQ,AV.val?,eqGuard,binOp,Op.stringOp,dM,h]
  ·have h2:¬a.toList=c.toList:=λe=> h (zce.1 e);rw [<-ByteArray.toList_eq ⟨a⟩,<-ByteArray.toList_eq ⟨c⟩] at h2;simp [oQ,AV.val?,eqGuard,binOp,Op.stringOp,dM,h,h2]
 have e4:decide (Oe (l.map λc=> (c.toNat:Int))=Oe (m.map λc=> (c.toNat:Int)))=decide (l=m):=by
  by_cases h:l=m
  ·rw [h];simp
  ·rw [decide_eq_false h,decide_eq_false λe=> h (aaj e)]
 simp only [xq_,afT,e1,e2,e3,e4]
theorem dI.to_ {H:ah}{x:AV}{l:List By}(h:dI H x l){n:Nat}(hn:n<=l.length):∃y,slS 1 x none (some (I n)) none=some y/\dI H y (l.take n):=by
 obtain⟨⟨hl,hh⟩,hs⟩:=h;have ht:(l.take n).length=n:=by rw [zax];omega
 have small:(l.take n).length < 1000:=by omega
 cases x with
 | sl r g off esz len cap ex=>
  obtain⟨rfl,rfl,⟨hr,hc⟩,ty,all,h2,h3,h4⟩:=hh;refine⟨_,YS (by omega) (by omega),⟨⟨by simp,rfl,by rw [ht,zat],⟨hr,by rw [zat];omega⟩,ty,all,h2,by rw [ht];omega,?_⟩,small⟩⟩;rw [zcV,h4,zb0,ht]
  congr 1
  omega
 | vs k' esz cs=>
  obtain⟨rfl,rfl,rfl⟩:=hh;refine⟨.vs n 1 ((l.take n).map Y),?_,⟨by simp,rfl,by rw [ht],rfl⟩,small⟩;have h0:(0:Int)<=n:=by omega
  simp only [slS,jl,h0,if_true,zat];rw [if_pos ⟨trivial,by omega,hn⟩];simp
 | s v=>
  cases v with
  | slice a b c=>
   cases a with
   | none=>
    obtain⟨rfl,rfl,h3⟩:=(show b=0/\c=0/\l.length=0 from hh)
    have:l=[]:=zas h3;subst this;have:n=0:=by simpa using hn
    subst this;exact⟨zN,by kernel_rfl,⟨rfl,rfl,rfl,rfl⟩,by decide⟩
   | some a=> exact hh.elim
  | _=> exact hh.elim
 | _=> exact hh.elim
theorem aal {H:ah}{x:AV}{l:List By}(hx:dI H x l)(hl:l≠[]):cl0 182 [x] H=some (.sl (H.next+1) 0 0 1 l.length l.length false,(H.new (.blk 0 5 [])).new (.blk 0 (5+gV) (l.map Y))):=by
 have h0:l.length≠0:=λe=> hl (zas e);have e2:=sU (e:=5) (by_:=1) (r:=H.next) (H:=H.new (.blk 0 5 [])) qo (hx.gro (Gro.new H 0 _ _)).is (acK l) h0 (by have:=hx.small;unfold most;omega) (by have:=hx.small;unfold most;omega);simp only [fA] at e2;have e1:bi .eql 220 x zN=some (B false):=by
  obtain⟨_,hh⟩:=hx.is;cases x with
  | sl r g off esz len cap ex=> exact BG Tryz.underlying220
  | vs n m l=> exact sV Tryz.underlying220
  | s v=>
   cases v with
   | slice a b c=>
    cases a with
    | none=> exact absurd hh.2.2 h0
    | some a=> exact hh.elim
   | _=> exact hh.elim
  | _=> exact hh.elim
 refine iG (alZ _ _ _ ?_);simp only [xq_,afU,e1,UE,yQ,e2,zbq,zaT]
theorem acW {H:ah}(hb:H.base<=H.next){x:AV}{l:List By}(hx:dI H x l)(hl:l.length < 900)(hn:∀m,l≠jD m):
  ∃H',cl0 178 [x] H=some (.tup [zN,B false],H')/\Gro H H':=by
 have ln:=hx.is.lnS;have w1:=wrap_i64 (a:=(l.length:Int) - 2) (by omega) (by omega);by_cases h2:(l.length:Int) - 2 < 0
 ·refine⟨H,iG (ZM _ _ _ ?_),Gro.refl H⟩;simp only [xq_,U6,ln,jR,w1,h2]
 ·obtain⟨n,hnn⟩:∃n:Nat,(l.length:Int) - 2=n:=⟨l.length - 2,by omega⟩
  rw [hnn] at w1 h2;obtain⟨y,s1,by1⟩:=hx.to_ (n:=n) (by omega);obtain⟨z,H1,e1,g1,bz,_⟩:=ahV hb by1 (by rw [zax];omega);have e2:=aak bz (hx.gro g1);rw [decide_eq_false λe=> hn _ e.symm] at e2;refine⟨H1,iG (ZM _ _ _ ?_),g1⟩;simp only [xq_,U6,ln,jR,hnn,w1,h2,s1,e1,e2,zal]
theorem ahW {H:ah}(hb:H.base<=H.next){x:AV}{m:List By}(hx:dI H x (jD m))(hl:m.length < 800)(h0:m≠[]):
  ∃y H',cl0 178 [x] H=some (.tup [y,B true],H')/\Gro H H'/\dI H' y m/\(∃r,y=.sl r 0 0 1 m.length m.length false):=by
 have hlen:(jD m).length=m.length+2:=by unfold jD;simp
 have htake:(jD m).take m.length=m:=by unfold jD;simp
 have ln:=hx.is.lnS;have w0:(((jD m).length:Nat):Int) - 2=(m.length:Int):=by omega
 have w1:=wrap_i64 (a:=(m.length:Int)) (by omega) (by omega);have h2:¬((m.length:Int) < 0):=by omega
 obtain⟨y,s1,by1⟩:=hx.to_ (n:=m.length) (by omega);rw [htake] at by1;obtain⟨z,H1,e1,g1,bz,_⟩:=ahV hb by1 (by omega);have e2:=aak bz (hx.gro g1);rw [decide_eq_true rfl] at e2;have e3:=aal (by1.gro g1) h0;have gg:Gro H1 ((H1.new (.blk 0 5 [])).new (.blk 0 (5+gV) (m.map Y))):=(Gro.new H1 0 _ _).trans (Gro.new _ 0 _ _);have bm:=dI.made (H:=H1.new (.blk 0 5 [])) (l:=m) (ty:=5+gV) (ex:=false) (by omega);rw [fA] at bm;refine⟨_,_,iG (ZM _ _ _ (r:=(.tup [.sl (H1.next+1) 0 0 1 m.length m.length false,B true],(H1.new (.blk 0 5 [])).new (.blk 0 (5+gV) (m.map Y)))) ?_),g1.trans gg,bm,_,rfl⟩;simp only [xq_,U6,ln,jR,w0,w1,h2,s1,e1,e2,e3,zae]
def dZ.left(m:dZ):Int:=(m.aG.map λn=> n.bP.left).sum
def dZ.busy(m:dZ)(i:Nat):Bool:=match m.aG[i]? with
 | some n=> !decide (n.aI.step=0) || n.bP.eF || decide (0 < m.fab.waiting i true+m.fab.waiting i false)
 | none=> false
def dZ.quiet(m:dZ):Bool:=(List.range m.aG.length).all (λi=> !m.busy i) && decide (m.fab.under=0)
def tally(x:dZ × Int)(p:Pck):dZ × Int:=((x.1.do_ p).1,if(x.1.do_ p).2=true then x.2+1 else x.2)
def pI(k n:Int):Nat->Nat->dZ × Int->dZ × Int
 | 0,_,x=> x
 | j+1,i,x=> pI k n j (i+1) (tally x ⟨false,(k+i).tmod n,0,0⟩)
def vK:Nat->dZ × Int->dZ × Int
 | 0,x=> x
 | i+1,x=> vK i (tally x ⟨true,i,0,0⟩)
def nU(n first:Int):Int:=(first.tmod n+n).tmod n
def dZ.round(m:dZ)(first:Int):dZ × Int:=
 let a:=pI (nU m.c.aG first) m.c.aG m.c.aG.toNat 0 (m,0)
 vK a.1.fab.under a
def dZ.over(m:dZ):Bool:=m.quiet && decide (m.left=0)
abbrev Aj:bD:=λ_=> none
def cup(n:Nat)(g g':bD):bD:=λq=> if q < n then g q else g' q
structure Made(H H':ah)(g':bD):Prop where
 next:H.next<=H'.next
 base:H'.base=H.base
 same:∀r,r < H.next->H'.get r=H.get r
 good:Good H.next H' g'
section
variable {b:Nat}{H H' H'':ah}{g g':bD}{q:Nat}{cs:List Cell}
theorem Good.merge(G:Good b H g)(M:Made H H' g'):Good b H' (cup H.next g g'):=by
 obtain⟨h0,τ,h1⟩:=G;obtain⟨k0,τ',k1⟩:=M.good;have n1:=M.next
 refine⟨by omega,λr=> if r < H.next then τ r else τ' r,λq cs hq=> ?_⟩;unfold cup at hq;split at hq
 ·rename_i hl;exact(h1 q cs hq).keep n1 λr i s t hr ht=> ⟨by rw [if_pos hr];exact ht,M.same r hr⟩
 ·rename_i hl;have R:=k1 q cs hq
  -- all its blocks are new
  have key:∀{T:Tag} {x:AV} {m:Nat} {cells:List AV},OS H.next H' τ' T x m cells->OS b H' (λr=> if r < H.next then τ r else τ' r) T x m cells:=by
   intro T x m cells ho;rcases ho with ho | ⟨r,gg,off,n,cap,ex,ty,all,e,t1,t2,t3,t4⟩
   ·exact .inl ho
   ·exact .inr ⟨r,gg,off,n,cap,ex,ty,all,e,by simp only;rw [if_neg (by omega)];exact t1,by omega,t3,t4⟩
  have aqn:∀{T:Tag} {x:AV} {k:IntKind} {es:List (Int × AV)},OM H.next H' τ' T x k es->OM b H' (λr=> if r < H.next then τ r else τ' r) T x k es:=by
   intro T x k es ⟨r,e,t1,t2,t3,t4⟩;exact⟨r,e,by simp only;rw [if_neg (by omega)];exact t1,by omega,t3,t4⟩
  obtain⟨ty,xs,b1,b2,b3,b4⟩:=R.blk;have lo:=R.lo;refine⟨by rw [if_neg hl];exact R.tag,by omega,R.hi,R.tyl,ty,xs,b1,b2,b3,λi c x hc hx=> ?_⟩;have:=b4 i c x hc hx;cases c with
  | av _=> exact this
  | seq _ _=> exact key this
  | map _ _=> exact aqn this
  | maps _ _ _=>
   obtain⟨aes,a1,a2,a3⟩:=this;exact⟨aes,aqn a1,a2,λj n cells x hj hx=> key (a3 j n cells x hj hx)⟩
  | ajZ _ _ _=>
   obtain⟨ys,a1,a2,a3⟩:=this;exact⟨ys,key a1,a2,λj cells x hj hx=> key (a3 j cells x hj hx)⟩
theorem Good.am4(G:Good b H g)(hq:H.next<=q):cup H.next g (upd Aj q cs)=upd g q cs:=by
 funext x
 unfold cup upd;split
 ·rw [if_neg (by omega)]
 ·split
  ·rfl
  ·exact(G.isNone (by omega)).symm
theorem Made.lt(M:Made H H' g')(h:g' q=some cs):H.next<=q/\q < H'.next:=⟨M.good.le h,M.good.lt h⟩
theorem Made.refl(h:H.base<=H.next):Made H H Aj:=⟨zac _,rfl,λ_ _=> rfl,Good.empty H⟩
theorem Made.trans(M:Made H H' g)(M':Made H' H'' g'):Made H H'' (cup H'.next g g'):=
 ⟨zau M.next M'.next,M'.base.trans M.base,λr hr=> by rw [M'.same r (zav hr M.next),M.same r hr],M.good.merge M'⟩
theorem Made.new(M:Made H H' g)(o:fU):Made H (H'.new o) g:=
 ⟨by rw [fA];have:=M.next;omega,by rw [jy];exact M.base,λr hr=> by rw [cZ (zav hr M.next),M.same r hr],M.good.new o⟩
theorem Made.DI {o:fU}(M:Made (H.new o) H' g):Made H H' g:=
 ⟨by have:=M.next;rw [fA] at this;omega,by rw [M.base,jy],λr hr=> by rw [M.same r (by rw [fA];omega),cZ hr],M.good.weak (by rw [fA];omega)⟩
theorem Made.acX(M:Made H.guard H' g):Made H { H' with base:=H.base } g:=
 ⟨M.next,rfl,M.same,M.good.ext (zac _) λ_ _=> rfl⟩
theorem Made.step(M:Made H H' g)(G:Good H.next H'' g')(s:Step H.next H' H''):Made H H'' g':=
 ⟨zau M.next s.next,s.base.trans M.base,λr hr=> by rw [s.low r hr,M.same r hr],G⟩
theorem Made.as(M:Made H H' g)(h:g'=g):Made H H' g':=h ▸ M
theorem oI {ty:TypeId}{xs:List AV}{cs:List Cell}(hc:xs.all AV.aX=true)(hl:xs.length=cs.length)(h:∀(i:Nat) (c:Cell) (x:AV),cs[i]?=some c->xs[i]?=some x->c=.av x∨(x=zN/\∃m,c=.seq m []))(ht:ty < gV:=by decide):
  Made H (H.new (.blk 0 ty xs)) (upd Aj H.next cs):=by
 refine⟨za6 _,rfl,λr hr=> cZ hr,by rw [fA];omega,λr=> if r=H.next then some (r,0,0,0) else none,λq cs' hq=> ?_⟩;unfold upd at hq;split at hq
 ·rename_i e;subst e;cases hq;refine⟨by simp,zac _,by rw [fA];omega,yu (xs:=xs) (by simp [jd]) ht,ty,xs,by simp [jd],hl,hc,λi c x hci hx=> ?_⟩;rcases h i c x hci hx with rfl | ⟨rfl,m,rfl⟩
  ·exact rfl
  ·exact .inl ⟨rfl,rfl⟩
 ·cases hq
theorem PU {n:Nat}{ty:TypeId}{xs:List AV}{cs:List Cell}(hn:H.next<=n)(hm:H'.next=n)(hb:H'.base=H.base)(hs:∀r,r < H.next->H'.get r=H.get r)(hc:xs.all AV.aX=true)(hl:xs.length=cs.length)(own:Nat->Option Nat)
  (h:∀(i:Nat) (c:Cell) (x:AV),cs[i]?=some c->xs[i]?=some x->c=.av x∨(x=zN/\∃m,c=.seq m [])∨∃r k,x=.mp r/\H.next<=r/\r < n/\own r=some i/\H'.get r=.map k []/\(c=.map k []∨∃m,c=.maps k m [])) (ht:ty < gV:=by decide):
  Made H (H'.new (.blk 0 ty xs)) (upd Aj n cs):=by
 refine⟨by rw [fA];omega,hb,λr hr=> by rw [cZ (by omega),hs r hr],by rw [fA];omega,λr=> if r=n then some (r,0,0,0) else match own r with
  | some i=> some (n,i+1,0,0)
  | none=> none,λq cs' hq=> ?_⟩
 unfold upd at hq;split at hq
 ·rename_i e;subst e;cases hq;refine⟨by simp,hn,by rw [fA];omega,yu (xs:=xs) (by rw [bF hm.symm]) ht,ty,xs,by rw [bF hm.symm],hl,hc,λi c x hci hx=> ?_⟩;have om:∀r k,H.next<=r->r < q->own r=some i->H'.get r=.map k []->OM H.next (H'.new (.blk 0 ty xs)) (λr=> if r=q then some (r,0,0,0) else match own r with
    | some i=> some (q,i+1,0,0)
    | none=> none) (q,i+1,0,0) (.mp r) k []:=λr k h1 h2 h3 h4=> ⟨r,rfl,by simp only;rw [if_neg (by omega),h3],h1,by rw [fA];omega,by rw [cZ (by omega)];exact h4⟩
  rcases h i c x hci hx with rfl | ⟨rfl,m,rfl⟩ | ⟨r,k,rfl,h1,h2,h3,h4,rfl | ⟨m,rfl⟩⟩
  ·exact rfl
  ·exact .inl ⟨rfl,rfl⟩
  ·exact om r k h1 h2 h3 h4
  ·exact⟨[],om r k h1 h2 h3 h4,rfl,λj n cells x hj=> by simp at hj⟩
 ·cases hq
end
def dn(c:Cache):List Cell:=[.seq 6 (c.l.flatMap Ent.av),.av (I c.sets),.av (I c.ways),.av (I c.bW)]
def pU(p:Proc):List Cell:=[.av (vsl 3 Opn.av p.ops),.seq 1 (p.bH.map I),.av (B p.eF)]
def lY(l:List Evn):List Cell:=[.seq 4 (l.flatMap Evn.av)]
def iC(t:Turns):List Cell:=[.map .i64 (YT (λn=> I n) t.fP),.maps .i64 2 (t.wait.map λe=> (e.1,e.2.flatMap λw=> [I w.1,I w.2]))]
def DJ(c:Cfg)(dH:Rows):List Cell:=c.av.map .av++[.map .i64 (YT (λr=> .agg r.av) dH)]
section
variable {H:ah}
theorem aam(H:ah)(room:Int)(h:0<=room):∃H' q,cl 110 [I room] H=some (.ref q 0 0,H')/\Made H H' (upd Aj q (mZ [] room)):=by
 refine⟨_,H.next,bg rfl rfl (ak3 _ _ _ (r:=(_,H.new (.blk 0 177 [zN,I room]))) ?_),oI rfl rfl λi c x hc hx=> ?_⟩
 ·have e:max (0:Int) room=room:=by omega
  simp only [Nat.reduceLT,Nat.reduceAdd,aN,xq_,hq_,afc,Ry,e,ajS,jX,gI,aey,aF]
 ·match i with
  | 0=> right;cases hc;cases hx;exact⟨rfl,9,rfl⟩
  | 1=> left;cases hc;cases hx;rfl
  | i+2=> cases hc
theorem Vm(H:ah)(room:Int)(h:0<=room):∃H' q,cl 111 [I room] H=some (.ref q 0 0,H')/\Made H H' (upd Aj q (mZ [] room)):=by
 refine⟨_,H.next,bg rfl rfl (ak4 _ _ _ (r:=(_,H.new (.blk 0 200 [zN,I room]))) ?_),oI rfl rfl λi c x hc hx=> ?_⟩
 ·have e:max (0:Int) room=room:=by omega
  simp only [Nat.reduceLT,Nat.reduceAdd,aN,xq_,hq_,afd,Ry,e,ajU,jX,gI,aeB,aF]
 ·match i with
  | 0=> right;cases hc;cases hx;exact⟨rfl,9,rfl⟩
  | 1=> left;cases hc;cases hx;rfl
  | i+2=> cases hc
theorem acY(H:ah)(sets ways:Int)(h:1<=sets)(h':1<=ways):∃H' q,cl 112 [I sets,I ways] H=some (.ref q 0 0,H')/\Made H H' (upd Aj q (dn ⟨[],sets,ways,0⟩)):=by
 refine⟨_,H.next,bg rfl rfl (ak5 _ _ _ _ (r:=(_,H.new (.blk 0 147 [zN,I sets,I ways,zI]))) ?_),oI rfl rfl λi c x hc hx=> ?_⟩
 ·have e:max (1:Int) sets=sets:=by omega
  have e':max (1:Int) ways=ways:=by omega
  simp only [Nat.reduceLT,Nat.reduceAdd,aN,xq_,hq_,afe,Ry,e,e',ajQ,jX,gI,aew,aF]
 ·match i with
  | 0=> right;cases hc;cases hx;exact⟨rfl,6,rfl⟩
  | 1=> left;cases hc;cases hx;rfl
  | 2=> left;cases hc;cases hx;rfl
  | 3=> left;cases hc;cases hx;rfl
  | i+4=> cases hc
theorem Vo(H:ah):∃H' q,cl 62 [] H=some (.ref q 0 0,H')/\Made H H' (upd Aj q (lY [])):=by
 refine⟨_,H.next,bg rfl rfl (ao9 _ _ (r:=(_,H.new (.blk 0 186 [zN]))) ?_),oI rfl rfl λi c x hc hx=> ?_⟩
 ·simp only [Nat.reduceLT,xq_,hq_,akL,ajT,jX,gI,aF]
 ·match i with
  | 0=> right;cases hc;cases hx;exact⟨rfl,4,rfl⟩
  | i+1=> cases hc
theorem acZ(H:ah):∃H' q,cl 161 [] H=some (.ref q 0 0,H')/\Made H H' (upd Aj q (iC ⟨[],[]⟩)):=by
 refine⟨_,H.next+2,bg rfl rfl (alS _ _ (r:=(_,((H.new (.map .i64 [])).new (.map .i64 [])).new (.blk 0 218 [.mp H.next,.mp (H.next+1)]))) ?_),PU (H':=(H.new (.map .i64 [])).new (.map .i64 [])) (by omega) (by rw [fA,fA]) rfl (λr hr=> by rw [cZ (by rw [fA];omega),cZ hr]) rfl rfl (λr=> if r=H.next then some 0 else if r=H.next+1 then some 1 else none) λi c x hc hx=> ?_⟩
 ·have e:∀r,(AV.mp r).cells=[.mp r]:=λ_=> rfl;simp only [Nat.reduceLT,Nat.reduceAdd,aN,xq_,hq_,afL,ajV,jX,gI,aeC,aF,e,Yw]
 ·match i with
  | 0=> right;right;cases hc;cases hx;exact⟨H.next,.i64,rfl,zac _,by omega,by simp,by rw [cZ (by rw [fA];omega),bF rfl],.inl rfl⟩
  | 1=> right;right;cases hc;cases hx;exact⟨H.next+1,.i64,rfl,by omega,by omega,by simp,by rw [bF (by rw [fA])],.inr ⟨2,rfl⟩⟩
  | i+2=> cases hc
end
theorem Vp {d:Nat}{α:Type}{enc:α->List AV}(h:∀a,∀x∈enc a,Frz d x)(l:List α):∀x∈l.flatMap enc,Frz d x:=λx hx=> by
 obtain⟨a,_,ha⟩:=za9.1 hx;exact h a x ha
theorem ahX(o:Opn):∀x∈o.av,Frz 8 x:=λx hx=> by
 simp only [Opn.av,zaj,zay,or_false] at hx;rcases hx with rfl | rfl | rfl <;> exact gq
theorem ac0(H:ah)(l:List Opn)(hl:l.length < 1000000000){x:AV}(hx:aW H x 3 l.length (l.flatMap Opn.av))(h0:l=[]->x=zN)(hn:l≠[]->bi .eql 62 x zN=some (B false)):cl 159 [x] H=some (vsl 3 Opn.av l,H):=by
 by_cases h:l=[]
 ·rw [h0 h];subst h;refine jq rfl rfl (afI _ _ _ (r:=(zN,H.guard)) ?_) (by rw [gZ];exact jC);have e:bi .eql 62 zN zN=some (B true):=by kernel_rfl
  simp only [xq_,ZJ,e]
 ·have h1:l.length≠0:=λe=> h (zas e);have e2:=sU (e:=61) (by_:=24) (r:=H.guard.next) (H:=H.guard.new (.blk 0 61 [])) qo (hx.guard.new _) (UH rX l) h1 (by unfold most;omega) (by unfold most;omega);simp only [BF,fA] at e2;refine jq rfl rfl (afI _ _ _ (r:=(.sl (H.next+1) 0 0 3 l.length l.length false,(H.guard.new (.blk 0 61 [])).new (.blk 0 (61+gV) (l.flatMap Opn.av)))) ?_) ?_
  ·simp only [xq_,ZJ,hn h,ajy,yQ,e2,zbq,zaT]
  ·rw [Lh h];refine mV (by omega) (cells:=l.flatMap Opn.av) ?_ (iR _ λx hx=> Vp ahX l x hx _ _);simp only [dw,jd,fA,BF,if_true];rw [if_pos (by rw [dR gK,za3];exact⟨trivial,zac _⟩),zaQ,zaz (by rw [dR gK];exact zac _)]
theorem PV(H:ah)(n m:Int):cl 104 [I n,I m] H=some (B (qY n m),H):=by
 refine bg rfl rfl (ak2 _ _ _ _ ?_);by_cases h:1<=n
 ·simp only [xq_,Zr,h,qY,zaU]
 ·simp only [xq_,Zr,h,qY,zaV]
theorem ac3(H:ah)(c:Cfg)(h:c.ok=true):cl 59 [.agg c.av] H=some (I 0,H):=by
 refine bU rfl rfl (akH _ _ _) ?_ gq;have w:=λH n m=> PV H n m;have e1:=λH=> (mQ H c.init).lnS;simp only [Cfg.ok,zaf,decide_eq_true_eq] at h;obtain⟨⟨⟨⟨⟨⟨⟨a,b⟩,d⟩,f⟩,g⟩,i⟩,j⟩,k⟩:=h;have t:∀n m,1<=n/\n<=m->qY n m=true:=λn m h=> by simp [qY,h.1,h.2]
 have hm:IntKind.wrap .i64 (c.bn*c.cO)=c.bn*c.cO:=by
  have:c.bn*c.cO<=8*4:=zb1 b.2 d.2 (by omega) (by omega);have:0<=c.bn*c.cO:=zcw (by omega) (by omega);exact wrap_i64 (by omega) (by omega)
 have k':¬c.bn*c.cO < c.init.length:=by omega
 simp only [Nat.reduceLT,xq_,hq_,ahC,aF,Cfg.av,w,t _ _ a,t _ _ b,t _ _ d,t _ _ f,t _ _ g,t _ _ i,t _ _ j,e1,oU,hm,k',zae]
theorem ac4(H:ah)(c:Cfg)(h:c.ok=true):cl 57 [.agg c.av] H=some (I c.tq,H):=by
 refine bU rfl rfl (akG _ _ _) ?_ gq;simp only [Cfg.ok,zaf,decide_eq_true_eq] at h;obtain⟨⟨⟨⟨⟨⟨⟨a,b⟩,d⟩,f⟩,g⟩,i⟩,j⟩,k⟩:=h;have hm:IntKind.wrap .i64 (c.bn*c.cO)=c.bn*c.cO:=by
  have:c.bn*c.cO<=8*4:=zb1 b.2 d.2 (by omega) (by omega);have:0<=c.bn*c.cO:=zcw (by omega) (by omega);exact wrap_i64 (by omega) (by omega)
 simp only [Nat.reduceLT,xq_,hq_,ahB,aF,Cfg.av,oU,hm,Cfg.tq]
structure aqZ(c:Cfg):Prop where
 aG:1<=c.aG/\c.aG<=6
 bn:1<=c.bn/\c.bn<=8
 cO:1<=c.cO/\c.cO<=4
 sets:1<=c.sets/\c.sets<=4
 ways:1<=c.ways/\c.ways<=3
 out:1<=c.out/\c.out<=8
 inn:1<=c.inn/\c.inn<=8
 init:(c.init.length:Int)<=c.bn*c.cO
 tq:1<=c.bn*c.cO/\c.bn*c.cO<=32
theorem Ak {c:Cfg}(h:c.ok=true):aqZ c:=by
 simp only [Cfg.ok,zaf,decide_eq_true_eq] at h;obtain⟨⟨⟨⟨⟨⟨⟨a,b⟩,d⟩,f⟩,g⟩,i⟩,j⟩,k⟩:=h;have h1:c.bn*c.cO<=8*4:=zb1 b.2 d.2 (by omega) (by omega);have h2:1*1<=c.bn*c.cO:=zb1 b.1 d.1 (by omega) (by omega);exact⟨a,b,d,f,g,i,j,k,by omega,by omega⟩
theorem ahY(H:ah)(n m:Int)(h:1<=m):cl 84 [I n,I m] H=some (I (yw n m),H):=by
 refine bg rfl rfl (apo _ _ _ _ ?_);by_cases h0:n < 0
 ·simp only [Int.reduceNeg,xq_,ahG,h0,yw]
 ·have e:n.tmod m=n % m:=zby (by omega);simp only [Int.reduceNeg,xq_,ahG,h0,wC (show m≠0 by omega),yw,e]
theorem GN(H:ah)(c:Cfg)(h:c.ok=true)(aj:Int):cl 42 [.agg c.av,I aj] H=some (I (c.bf aj),H):=by
 have B:=Ak h;refine bU rfl rfl (ao4 _ _ _ _) ?_ gq;have e:=λH=> ahY H aj c.aG B.aG.1;simp only [Nat.reduceLT,xq_,hq_,akC,aF,Cfg.av,e,Cfg.bf]
theorem GR(H:ah)(c:Cfg)(h:c.ok=true)(a:Int):cl 148 [.agg c.av,I a] H=some (.tup [I (c.bM a),I (c.dh a)],H):=by
 have B:=Ak h;refine bU rfl rfl (afC _ _ _ _) ?_ (rY λx hx=> by
  simp only [zaj,zay,or_false] at hx;rcases hx with rfl | rfl <;> exact gq)
 have e:=λH=> ac4 H c h;by_cases h0:a < 0
 ·simp only [Nat.reduceLT,Int.reduceNeg,xq_,hq_,GK,aF (iF c),h0,Cfg.bM,Cfg.dh,true_or]
 ·by_cases h1:c.tq<=a
  ·simp only [Nat.reduceLT,Int.reduceNeg,xq_,hq_,GK,aF (iF c),h0,h1,Cfg.bM,Cfg.dh,or_true,e]
  ·have q:a.tdiv c.cO=a / c.cO:=zcX (by omega);have r:a.tmod c.cO=a % c.cO:=zby (by omega);have q1:0<=a / c.cO:=Int.ediv_nonneg (by omega) (by have:=B.cO;omega);have q2:a / c.cO<=a:=Int.ediv_le_self _ (by omega);have q3:c.tq<=32:=B.tq.2;have w:=wrap_i64 (a:=a / c.cO) (by omega) (by omega);have z:c.cO≠0:=by have:=B.cO;omega
   have l2:c.av[2]?=some (I c.cO):=rfl;simp only [Nat.reduceLT,Int.reduceNeg,xq_,hq_,GK,aF (iF c),h0,h1,Cfg.bM,Cfg.dh,or_false,e,l2,Yv z,wC z,q,r,w]
def ER(o:Option Nat):Int:=match o with
 | some i=> (i:Int)
 | none=> -1
theorem qc {α:Type}{p:α->Bool}:∀(l:List α) (i:Nat),(∀j a,j < i->l[j]?=some a->p a=false)->l.findIdx? p=((l.drop i).findIdx? p).map (· +i)
 | l,0,_=> by cases h:l.findIdx? p <;> simp [h]
 | [],i+1,_=> by simp
 | a::l,i+1,h=> by
  have h0:=h 0 a (by omega) rfl;rw [zcF,h0,List.drop_succ_cons,qc l i λj b hj hb=> h (j+1) b (by omega) hb];simp only [zah,if_false,Option.map_map]
  congr 1
theorem GU(H:ah){α:Type}{enc:α->List AV}(he:∀a,(enc a).length=3){x f:AV}{l:List α}(hx:aW H x 3 l.length (l.flatMap enc))(hl:l.length < 1000000000)(p:α->Bool)
  (hp:∀a∈l,rP Tryz.prog cl f [.agg (enc a)] H=some (B (p a),H)):cl 158 [x,f] H=some (I (ER (l.findIdx? p)),H):=by
 have e1:=hx.lnS;have e2:∀i a,l[i]?=some a->lda 3 (eU x i) H=some (.agg (enc a),H):=λi a hi=> oH he hx hi;refine bg rfl rfl (alQ _ _ _ _ ?_);have key:∀k i,i+k=l.length->(∀j a,j < i->l[j]?=some a->p a=false)->Et cl [x,f,I l.length,I i] H=some (I (ER (l.findIdx? p)),H):=by
  intro k
  induction k with
  | zero=>
   intro i hi hf;have h1:¬(i:Int) < l.length:=by omega
   have h2:l.findIdx? p=none:=by rw [qc l i hf,zaS (by omega)];rfl
   rw [U3];simp only [Int.reduceNeg,xq_,h1,h2,ER]
  | succ k ih=>
   intro i hi hf;have h1:(i:Int) < l.length:=by omega
   have h3:=hx.ix (k:=.i64) (i:=(i:Int)) (by omega) h1;obtain⟨a,ha⟩:∃a,l[i]?=some a:=⟨_,zab (by omega)⟩
   have h4:=e2 i a ha;have h5:=hp a (zaq ha);rw [zat] at h3;rw [U3];cases hpa:p a with
   | true=>
    have h2:l.findIdx? p=some i:=by
     rw [qc l i hf,zbA (by omega),zcF];rw [zab (by omega)] at ha;simp only [zaa] at ha;rw [ha,hpa];simp
    rw [hpa] at h5;simp only [Int.reduceNeg,xq_,h1,h2,h3,h4,h5,ER]
   | false=>
    rw [hpa] at h5;have h6:(i:Int)+1=((i+1:Nat):Int):=by omega
    have h7:=wrap_i64 (a:=((i+1:Nat):Int)) (by omega) (by omega);have:=ih (i+1) (by omega) λj b hj hb=> by
     by_cases hji:j=i
     ·subst hji;rw [ha] at hb;cases hb;exact hpa
     ·exact hf j b (by omega) hb
    simp only [Int.reduceNeg,xq_,h1,h3,h4,h5,dF,h6,h7,this]
 have:=key l.length 0 (by omega) (λj a hj=> by omega);simp only [xq_,afH,e1];exact this
theorem PW(H:ah){α:Type}{enc:α->List AV}(he:∀a,(enc a).length=6){x f:AV}{l:List α}(hx:aW H x 6 l.length (l.flatMap enc))(hl:l.length < 1000000000)(p:α->Bool)
  (hp:∀a∈l,rP Tryz.prog cl f [.agg (enc a)] H=some (B (p a),H)):cl 125 [x,f] H=some (I (ER (l.findIdx? p)),H):=by
 have e1:=hx.lnS;have e2:∀i a,l[i]?=some a->lda 6 (eU x i) H=some (.agg (enc a),H):=λi a hi=> oH he hx hi;refine bg rfl rfl (ald _ _ _ _ ?_);have key:∀k i,i+k=l.length->(∀j a,j < i->l[j]?=some a->p a=false)->Em cl [x,f,I l.length,I i] H=some (I (ER (l.findIdx? p)),H):=by
  intro k
  induction k with
  | zero=>
   intro i hi hf;have h1:¬(i:Int) < l.length:=by omega
   have h2:l.findIdx? p=none:=by rw [qc l i hf,zaS (by omega)];rfl
   rw [UR];simp only [Int.reduceNeg,xq_,h1,h2,ER]
  | succ k ih=>
   intro i hi hf;have h1:(i:Int) < l.length:=by omega
   have h3:=hx.ix (k:=.i64) (i:=(i:Int)) (by omega) h1;obtain⟨a,ha⟩:∃a,l[i]?=some a:=⟨_,zab (by omega)⟩
   have h4:=e2 i a ha;have h5:=hp a (zaq ha);rw [zat] at h3;rw [UR];cases hpa:p a with
   | true=>
    have h2:l.findIdx? p=some i:=by
     rw [qc l i hf,zbA (by omega),zcF];rw [zab (by omega)] at ha;simp only [zaa] at ha;rw [ha,hpa];simp
    rw [hpa] at h5;simp only [Int.reduceNeg,xq_,h1,h2,h3,h4,h5,ER]
   | false=>
    rw [hpa] at h5;have h6:(i:Int)+1=((i+1:Nat):Int):=by omega
    have h7:=wrap_i64 (a:=((i+1:Nat):Int)) (by omega) (by omega);have:=ih (i+1) (by omega) λj b hj hb=> by
     by_cases hji:j=i
     ·subst hji;rw [ha] at hb;cases hb;exact hpa
     ·exact hf j b (by omega) hb
    simp only [Int.reduceNeg,xq_,h1,h3,h4,h5,dF,h6,h7,this]
 have:=key l.length 0 (by omega) (λj a hj=> by omega);simp only [xq_,afj,e1];exact this
theorem ac5(H:ah)(c:Cfg)(h:c.ok=true)(o:Opn):cl 109 [.agg c.av,.agg o.av] H=some (B (c.right o),H):=by
 refine bU rfl rfl (afb _ _ _ _) ?_ gq;have e:=λH=> GR H c h o.addr;have f1:c.right o=(decide (1<=o.aO) && decide (o.aO<=4) && !decide (c.bM o.addr=-1) && (decide (o.value=0) || decide (o.aO=2) || decide (o.aO=3))):=by simp [Cfg.right]
 rw [f1];by_cases a:1<=o.aO;rotate_left
 ·simp only [Nat.reduceLT,Int.reduceNeg,xq_,hq_,qA,aF,Opn.av,e,a,zaV]
 by_cases b:o.aO<=4;rotate_left
 ·simp only [Nat.reduceLT,Int.reduceNeg,xq_,hq_,qA,aF,Opn.av,e,a,b,zaU,zaV]
 by_cases d:c.bM o.addr=-1
 ·simp only [Nat.reduceLT,Int.reduceNeg,xq_,hq_,qA,aF,Opn.av,e,a,b,d,zaU,zaV,zae]
 by_cases f:o.value=0
 ·simp only [Nat.reduceLT,Int.reduceNeg,xq_,hq_,qA,aF,Opn.av,e,a,b,d,f,zal,zcL]
 by_cases g:o.aO=2
 ·simp only [Nat.reduceLT,Int.reduceLE,Int.reduceEq,Int.reduceNeg,xq_,hq_,qA,aF,Opn.av,e,d,f,g,zal,zcL,zdn]
 by_cases i:o.aO=3
 ·simp only [Nat.reduceLT,Int.reduceLE,Int.reduceEq,Int.reduceNeg,xq_,hq_,qA,aF,Opn.av,e,d,f,i,zal,zdn]
 ·simp only [Nat.reduceLT,Int.reduceNeg,xq_,hq_,qA,aF,Opn.av,e,a,b,d,f,g,i,zal,zdc,zbZ]
theorem SN(H:ah)(c:Cfg)(h:c.ok=true)(o:Opn){r ty:Nat}(hr:r < H.next)(hg:H.get r=.blk 0 ty c.av):cl 108 [.agg o.av,.ref r 0 0] H=some (B (!c.right o),H):=by
 refine bU rfl rfl (afa _ _ _ _) ?_ gq;have e:=λH=> ac5 H c h o;have e1:lda 8 (.ref r 0 0) (H.guard.new (.blk 0 61 o.av))=some (.agg (c.av.take 8),_):=gy (off:=0) (n:=8) (by rw [cZ (by rw [BF];exact hr),aj9];exact hg) (zac 8);simp only [Nat.reduceLT,xq_,hq_,Zv,aF (rX o),e1,e]
theorem uQ {o:Option Nat}:decide (0<=ER o)=o.isSome:=by
 cases o with
 | none=> rfl
 | some i=> simp [ER]
theorem aan(H:ah)(c:Cfg)(h:c.ok=true){v:AV}{l:List Opn}(hv:aW H v 3 l.length (l.flatMap Opn.av))(hl:l.length < 1000000000){r ty:Nat}(hr:r < H.next)(hg:H.get r=.blk 0 ty c.av):cl 106 [v,.ref r 0 0] H=some (B (!(decide (l.length<=24) && l.all c.right)),H):=by
 refine bU rfl rfl (ae8 _ _ _ _) ?_ gq;have e1:=hv.guard.lnS;have e2:=GU H.guard (enc:=Opn.av) gK (f:=.fn (.func 108) [] [.ref r 0 0]) hv.guard hl (λo=> !c.right o) (λo _=> by
  rw [oM (by kernel_rfl)];exact SN H.guard c h o hr hg)
 have e3:cl 107 [v,.fn (.func 108) [] [.ref r 0 0]] H.guard=some (B (l.findIdx? λo=> !c.right o).isSome,H.guard):=by
  refine bg rfl rfl (ae9 _ _ _ _ ?_);simp only [xq_,Zu,e2,uQ]
 have e4:(l.findIdx? λo=> !c.right o).isSome=!l.all c.right:=by
  rw [zcU,zcz]
 by_cases h0:l.length<=24
 ·have h1:¬(24:Int) < l.length:=by omega
  simp only [xq_,Py,e1,e3,e4,h0,h1,zaU]
 ·have h1:(24:Int) < l.length:=by omega
  simp only [xq_,Py,e1,h0,h1,zaV,zal]
def WO(H:ah)(x:AV)(ps:List (List Opn)):Prop:=
 ∃cells:List AV,aW H x 1 ps.length cells/\∀(i:Nat) v l,cells[i]?=some v->ps[i]?=some l->aW H v 3 l.length (l.flatMap Opn.av)/\(l=[]->v=zN)
theorem WO.jZ {H H':ah}{x:AV}{ps:List (List Opn)}(h:WO H x ps)(hn:H.next<=H'.next)(hg:∀r,r < H.next->H'.get r=H.get r):WO H' x ps:=by
 obtain⟨cells,h1,h2⟩:=h;exact⟨cells,h1.jZ hn λr _ hr=> hg r hr,λi v l a b=> ⟨(h2 i v l a b).1.jZ hn λr _ hr=> hg r hr,(h2 i v l a b).2⟩⟩
theorem Am {n:Nat}{p:Nat->Bool}:∀i,i<=n->(∀j,j < i->p j=false)->(List.range n).findIdx? p=((List.range' i (n - i)).findIdx? p).map (· +i):=by
 intro i hi hf;rw [qc (List.range n) i λj a hj ha=> by
  have:a=j:=by
   rw [zbB (by omega)] at ha
   simpa using ha.symm
  rw [this];exact hf j hj]
 congr 2
 rw [zcS,List.drop_range'];simp
theorem GV(H:ah){x f:AV}{n:Nat}{cells:List AV}(hx:aW H x 1 n cells)(hl:n < 1000000000)(p:Nat->Bool)
  (hp:∀i v,cells[i]?=some v->rP Tryz.prog cl f [v] H=some (B (p i),H)):cl 157 [x,f] H=some (I (ER ((List.range n).findIdx? p)),H):=by
 have e1:=hx.lnS;have hcl:cells.length=n:=by have:=hx.1;omega
 refine bg rfl rfl (alP _ _ _ _ ?_);have key:∀k i,i+k=n->(∀j,j < i->p j=false)->Es cl [x,f,I n,I i] H=some (I (ER ((List.range n).findIdx? p)),H):=by
  intro k
  induction k with
  | zero=>
   intro i hi hf;have h1:¬(i:Int) < n:=by omega
   have h2:(List.range n).findIdx? p=none:=by rw [Am i (by omega) hf,show n - i=0 by omega];rfl
   rw [U2];simp only [Int.reduceNeg,xq_,h1,h2,ER]
  | succ k ih=>
   intro i hi hf;have h1:(i:Int) < n:=by omega
   have h3:=hx.ix (k:=.i64) (i:=(i:Int)) (by omega) h1;obtain⟨v,hv⟩:∃v,cells[i]?=some v:=⟨_,zab (by omega)⟩
   have h4:=hx.ld (i:=i) (by omega);rw [hv] at h4;have h5:=hp i v hv;rw [zat] at h3;rw [U2];cases hpa:p i with
   | true=>
    have h2:(List.range n).findIdx? p=some i:=by
     rw [Am i (by omega) hf,show n - i=k+1 by omega,zdg,zcF,hpa];simp
    rw [hpa] at h5;simp only [Int.reduceNeg,xq_,h1,h2,h3,h4,h5,ER]
   | false=>
    rw [hpa] at h5;have h6:(i:Int)+1=((i+1:Nat):Int):=by omega
    have h7:=wrap_i64 (a:=((i+1:Nat):Int)) (by omega) (by omega);have:=ih (i+1) (by omega) λj hj=> by
     by_cases hji:j=i
     ·rw [hji];exact hpa
     ·exact hf j (by omega)
    simp only [Int.reduceNeg,xq_,h1,h3,h4,h5,dF,h6,h7,this]
 have:=key n 0 (by omega) (λj hj=> by omega);simp only [xq_,afF,e1];exact this
theorem am5(H:ah)(c:Cfg)(h:c.ok=true){x:AV}{ps:List (List Opn)}(hx:WO H x ps)(hn:ps.length < 1000000000)(hl:∀l∈ps,l.length < 1000000000):cl 60 [.agg c.av,x] H=some (I (if c.xY ps then 0 else 1),H):=by
 refine bU rfl rfl (akI _ _ _ _) ?_ gq;have hx1:=hx.jZ (H':=H.guard.new (.blk 0 31 c.av)) (by rw [fA,BF];omega) λr hr=> by rw [cZ (by rw [BF];exact hr),aj9]
 obtain⟨cells,x1,x2⟩:=hx1;have hcl:cells.length=ps.length:=by have:=x1.1;omega
 let bad:List Opn->Bool:=λl=> !(decide (l.length<=24) && l.all c.right)
 have e2:=GV (H.guard.new (.blk 0 31 c.av)) (f:=.fn (.func 106) [] [.ref H.next 0 0]) x1 hn (λi=> bad (ps.getD i [])) (λi v hv=> by
  have hi:i < ps.length:=by rw [<-hcl];exact(zai.1 hv).1
  have hpi:ps[i]?=some (ps.getD i []):=by simp [List.getD,zab hi]
  rw [oM (by kernel_rfl)];exact aan _ c h (x2 i v _ hv hpi).1 (hl _ (zaq hpi)) (by rw [fA,BF];omega) (bF (by rw [BF])))
 have e4:((List.range ps.length).findIdx? λi=> bad (ps.getD i [])).isSome=!(ps.all λl=> decide (l.length<=24) && l.all c.right):=by
  rw [zcU,zcz,zdq,zbY,zbY];constructor
  ·rintro⟨i,hi,hb⟩;have hi:i < ps.length:=zaX.1 hi;exact⟨ps.getD i [],zaq (i:=i) (by simp [List.getD,zab hi]),hb⟩
  ·rintro⟨l,hm,hb⟩;obtain⟨i,hi,he⟩:=zdr hm;have hg:ps.getD i []=l:=by simp [List.getD,zab hi,he]
   exact⟨i,zaX.2 hi,by rw [hg];exact hb⟩
 have e3:cl 105 [x,.fn (.func 106) [] [.ref H.next 0 0]] (H.guard.new (.blk 0 31 c.av))=some (B (!(ps.all λl=> decide (l.length<=24) && l.all c.right)),H.guard.new (.blk 0 31 c.av)):=by
  refine bg rfl rfl (ae7 _ _ _ _ ?_);simp only [xq_,Zt,e2,uQ,e4]
 have l0:c.av[0]?=some (I c.aG):=rfl;have e5:=x1.lnS;cases hb:ps.all λl=> decide (l.length<=24) && l.all c.right with
 | false=> simp only [Nat.reduceLT,xq_,hq_,SA,aF (iF c),e3,hb,zal,Cfg.xY,zaV]
 | true=>
  by_cases hc:(ps.length:Int)=c.aG
  ·simp only [Nat.reduceLT,xq_,hq_,SA,aF (iF c),e3,e5,hb,l0,zae,Cfg.xY,hc]
  ·simp only [Nat.reduceLT,xq_,hq_,SA,aF (iF c),e3,e5,hb,l0,zae,zal,Cfg.xY,zaU,hc]
theorem ac6 {c:Cfg}(h:c.ok=true){aj:Int}(h0:0<=aj)(h1:aj < c.bn):c.first aj≠[]:=by
 have B:=Ak h;unfold Cfg.first
 rw [if_neg (by omega)];intro e;have:=congrArg List.length e;simp only [zaD,zc9,zan] at this;have:=B.cO;omega
theorem SQ {c:Cfg}(h:c.ok=true){aj:Int}(h0:0<=aj)(h1:aj < c.bn){from_:Nat}(hf:(from_:Int)=min (aj*c.cO) c.init.length):
  aN (List.replicate c.cO.toNat zI) 0 (((c.init.map I).drop from_).take (min (c.init.length - from_) c.cO.toNat))=(c.first aj).map I:=by
 have B:=Ak h;have hw:=B.cO;have hlw:0<=aj*c.cO:=zcw h0 (by omega);unfold Cfg.first
 rw [if_neg (by omega)]
 apply zbg
 intro i;have hlen:(((c.init.map I).drop from_).take (min (c.init.length - from_) c.cO.toNat)).length=min (c.init.length - from_) c.cO.toNat:=by
  rw [zax,zaL,zaD];omega
 rw [oD (by rw [hlen,zb4];omega),hlen];rcases zaW i c.cO.toNat with hi | hi
 ·simp only [zaR,zbB hi,zak];by_cases hc:i < c.init.length - from_
  ·rw [if_pos (by omega),Nat.sub_zero,zaA,if_pos (by omega),zaC,zaR];have e:from_=(aj*c.cO).toNat:=by omega
   rw [e];have hlt:(aj*c.cO).toNat+i < c.init.length:=by omega
   simp [List.getD,zab hlt]
  ·rw [if_neg (by omega),zc5,if_pos hi];have hge:c.init.length<=(aj*c.cO).toNat+i:=by omega
   simp [List.getD,zaK hge]
 ·rw [if_neg (by omega),zaK (by simp;omega),zaK (by simp;omega)]
theorem ac7(H:ah)(c:Cfg)(h:c.ok=true)(aj:Int)(h0:0<=aj)(h1:aj < c.bn):cl 204 [.agg c.av,I aj] H=some (dat (c.first aj),H):=by
 have B:=Ak h;have hw:=B.cO;have hlw:0<=aj*c.cO:=zcw h0 (by omega);have arC:aj*c.cO<=8*4:=zb1 (by have:=B.bn;omega) hw.2 (by omega) (by omega);have w:=wrap_i64 (a:=aj*c.cO) (by omega) (by omega);have l1:c.av[1]?=some (I c.bn):=rfl;have l2:c.av[2]?=some (I c.cO):=rfl;have l7:c.av[7]?=some (dat c.init):=rfl;let H1:=(H.guard.new (.blk 0 31 c.av)).new (.blk 0 3 (dY [zI] c.cO.toNat));have e1:=ake (e:=3) (m:=1) (by_:=8) (z:=[zI]) (n:=c.cO) (H:=H.guard.new (.blk 0 31 c.av)) rfl rfl (by omega) (by omega) (by decide);have e2:=λH=> (mQ H c.init).lnS;have hm:0<=min (aj*c.cO) (c.init.length:Int):=by omega
 obtain⟨y,e3,e4⟩:=(mQ H1 c.init).from_ (k:=.i64) (lo:=min (aj*c.cO) (c.init.length:Int)) hm (by omega);obtain⟨H2,e5,e6,e7,e8,e9⟩:=akf (H:=H1) (r:=H.next+1) (g:=0) (off:=0) (m:=1) (len:=c.cO.toNat) (cap:=c.cO.toNat) (ex:=true) (ty:=3) (bF (by rw [fA,BF])) (by show H.next<=_;omega) (by rw [sZ];simp) e4 (zy (Ai _) _);refine jq rfl rfl (amr _ _ _ _ (r:=(.sl (H.next+1) 0 0 1 c.cO.toNat c.cO.toNat true,H2)) ?_) ?_
 ·have n0:¬aj < 0:=by omega
  have n1:¬c.bn<=aj:=by omega
  simp only [fA,BF] at e1;simp only [Nat.reduceLT,xq_,hq_,agc,aF (iF c),n0,n1,l1,l2,l7,e1,e2,oU,w,ag6,e3,e5,H1]
 ·rw [yD (ac6 h h0 h1)];have hf:=SQ h h0 h1 (from_:=(min (aj*c.cO) (c.init.length:Int)).toNat) (by omega);rw [sZ,zbI,zbI,hf] at e6;have hlen:(c.first aj).length=c.cO.toNat:=by
   unfold Cfg.first
   rw [if_neg (by omega)];simp
  rw [hlen];refine mV (by omega) (cells:=(c.first aj).map I) ?_ (iR _ λx hx=> xJ _ x hx _ _);simp only [dw,e6];rw [if_pos ⟨trivial,by simp [hlen]⟩,zaQ,zaz (by simp [hlen])]
theorem ac8(c:Cfg)(dH:Rows)(n:Int)(r:Row):(DJ c dH).set 8 (.map .i64 (Ku (YT (λr=> .agg r.av) dH) n (.agg r.av)))=DJ c (lG dH n r):=by
 have:=Gl (f:=λr:Row=> AV.agg r.av) dH n r;rw [this];rfl
theorem aao(H:ah)(hb:H.base<=H.next)(c:Cfg)(h:c.ok=true)(me:Int):∃H' q,cl 160 [.agg c.av,I me] H=some (.ref q 0 0,H')/\Made H H' (upd Aj q (DJ c (c.oN me c.bn.toNat))):=by
 have B:=Ak h;let Hb:=H.new (.blk 0 31 c.av);let Hm:=Hb.new (.map .i64 []);let H0:=Hm.new (.blk 0 277 (c.av++[.mp (H.next+1)]));have M0:Made Hb H0 (upd Aj (H.next+2) (DJ c [])):=by
  refine PU (H':=Hm) (by simp only [Hb,fA];omega) (by simp only [Hm,Hb,fA]) rfl (λr hr=> cZ hr) (by rw [zbL,iF];rfl) (by simp [DJ]) (λr=> if r=H.next+1 then some 8 else none) λi cc x hc hx=> ?_;by_cases hi:i < 8
  ·left;simp only [DJ] at hc;rw [zaN (by simp [Cfg.av];omega),zaR] at hc;rw [zaN (by simp [Cfg.av];omega)] at hx;rw [hx] at hc;exact(zaZ hc).symm
  ·have:i=8:=by
    have:=(zai.1 hx).1;simp [Cfg.av] at this;omega
   subst this;right;right;cases hc;cases hx;exact⟨H.next+1,.i64,rfl,by simp only [Hb,fA];omega,by omega,by simp,bF (by simp only [Hb,fA]),.inl rfl⟩
 have key:∀k i,i+k=c.bn.toNat->∀Hi,Made Hb Hi (upd Aj (H.next+2) (DJ c (c.oN me i)))->∃H',Eu cl [I me,.ref H.next 0 0,.ref (H.next+2) 0 0,I c.bn,I i] Hi=some (.ref (H.next+2) 0 0,H')/\Made Hb H' (upd Aj (H.next+2) (DJ c (c.oN me c.bn.toNat))):=by
  intro k
  induction k with
  | zero=>
   intro i hi Hi M;have h1:¬(i:Int) < c.bn:=by omega
   rw [U4];refine⟨Hi,?_,by rw [show c.bn.toNat=i by omega];exact M⟩;simp only [Int.reduceNeg,xq_,h1]
  | succ k ih=>
   intro i hi Hi M;have h1:(i:Int) < c.bn:=by omega
   have hbx:Hi.get H.next=.blk 0 31 c.av:=by rw [M.same _ (by simp only [Hb,fA];omega)];exact bF rfl
   have hbn:H.next < Hi.next:=zav (by simp only [Hb,fA];omega) M.next
   have e1:lda 8 (.ref H.next 0 0) Hi=some (.agg c.av,Hi):=(gy (off:=0) (n:=8) hbx (zac 8)).trans rfl;have e2:=GN Hi c h i;have h6:(i:Int)+1=((i+1:Nat):Int):=by omega
   have h7:=wrap_i64 (a:=((i+1:Nat):Int)) (by have:=B.bn;omega) (by have:=B.bn;omega);have tail:∀Hj,Made Hb Hj (upd Aj (H.next+2) (DJ c (c.oN me (i+1))))->∃H',Ew cl (I me) (.ref H.next 0 0) (.ref (H.next+2) 0 0) (I c.bn) (I i) Hj=some (.ref (H.next+2) 0 0,H')/\Made Hb H' (upd Aj (H.next+2) (DJ c (c.oN me c.bn.toNat))):=by
    intro Hj Mj;obtain⟨H',a1,a2⟩:=ih (i+1) (by omega) Hj Mj;refine⟨H',?_,a2⟩;simp only [xq_,Ew,dF,h6,h7,a1]
   rw [U4];by_cases hm:c.bf i=me
   ·obtain⟨r,f1,f2,f3,f4⟩:=M.good.map (q:=H.next+2) aU (i:=8) rfl;obtain⟨H',g1,g2,g3,g4⟩:=(f4 (by rw [M.base];simp only [Hb,jy,fA];omega)).1 i (.agg (Row.av ⟨0,-1,c.first i⟩));simp only [Row.av] at g1;have e3:=ac7 Hi.guard c h i (by omega) h1;have Mj:Made Hb H' (upd Aj (H.next+2) (DJ c (c.oN me (i+1)))):=by
     refine(M.step g2 g3).as ?_;rw [rV,ac8];simp only [Cfg.oN,hm,if_true]
    obtain⟨H2,t1,t2⟩:=tail H' Mj;refine⟨H2,?_,t2⟩;simp only [Int.reduceNeg,Nat.reduceAdd,aN,xq_,hq_,h1,e1,e2,hm,f1,e3,aoE,jX,gI,ajK,g1,t1]
   ·have hm':¬(c.bf i=me):=hm;obtain⟨H2,t1,t2⟩:=tail Hi (M.as (by simp only [Cfg.oN,hm,if_false]));refine⟨H2,?_,t2⟩;simp only [Int.reduceNeg,xq_,h1,e1,e2,hm,t1]
 obtain⟨H',a1,a2⟩:=key c.bn.toNat 0 (by omega) H0 M0;refine⟨H',H.next+2,bg rfl rfl (alR _ _ _ _ (r:=(_,H')) ?_),a2.DI⟩;have l1:c.av[1]?=some (I c.bn):=rfl;have e:∀r,bd 277 [(0,.agg c.av),(1,.mp r)]=some (.agg (c.av++[.mp r])):=λr=> by
  simp only [xq_,ajW,jX,gI,aeD,Cfg.av,fJ];rfl
 have e2:∀r,(c.av++[AV.mp r]).all AV.aX=true:=λr=> by rw [zbL,iF];rfl
 simp only [Nat.reduceLT,xq_,hq_,afK,aF (iF c),e,aF (e2 _),l1];exact a1
theorem ng {b n:Nat}{H1:ah}{g g':bD}{q:Nat}{cs:List Cell}(G:Good b H1 g)(h:g q=some cs)(hn:H1.next=n):cup n g g' q=some cs:=by
 unfold cup;rw [if_pos (by have:=G.lt h;omega),h]
theorem qB {b n:Nat}{H1:ah}{g g':bD}{q:Nat}{cs:List Cell}(G:Good b H1 g')(h:g' q=some cs)(hn:n<=b):cup n g g' q=some cs:=by
 unfold cup;rw [if_neg (by have:=G.le h;omega),h]
theorem drawn {H H':ah}{x:Option (AV × ah)}{v:AV}{g:bD}(e:x=some (v,H'))(M:Made H.guard H' g):∃H2,unG H x=some (v,H2)/\Made H H2 g:=
 ⟨_,by rw [e];rfl,M.acX⟩
theorem pq {H:ah}{r:Nat}{ty:TypeId}{c:Cfg}(h:H.get r=.blk 0 ty c.av):lda 8 (.ref r 0 0) H=some (.agg c.av,H):=(gy (off:=0) (n:=8) h (zac 8)).trans rfl
theorem aW.aap {P:Program}{t e:TypeId}(h:P.underlying t=some (.slice e)){H:ah}{x:AV}{m n:Nat}{cells:List AV}(hx:aW H x m n cells)(hn:n≠0):oQ P .eql t x (.s (.slice none 0 0))=some (B false):=by
 obtain⟨_,hx⟩:=hx;cases x with
 | sl r g o m n c ex=> exact BG h
 | vs n m l=> exact sV h
 | s v=>
  cases v with
  | slice a b c=>
   cases a with
   | none=> exact absurd hx.2.2 hn
   | some a=> exact hx.elim
  | _=> exact hx.elim
 | _=> exact hx.elim
def Cj(d t:Nat)(c:Cfg)(me:Int):List Cell:=[.av (.ref d 0 0),.av (.ref t 0 0)]++c.av.map .av++[.av (I me)]
def nI(g:bD)(q d t:Nat)(c:Cfg)(me:Int)(h:Home):Prop:=g q=some (Cj d t c me)/\g d=some (DJ c h.dH)/\g t=some (iC h.aT)
theorem PX {xs:List AV}{cs:List Cell}(h:cs=xs.map .av):∀(i:Nat) (c:Cell) (x:AV),cs[i]?=some c->xs[i]?=some x->c=.av x∨(x=zN/\∃m,c=.seq m []):=by
 subst h;intro i c x hc hx;rw [zaR,hx] at hc;exact .inl (zaZ hc).symm
theorem ahZ(H:ah)(hb:H.base<=H.next)(c:Cfg)(h:c.ok=true)(me:Int):∃H' q d t g',cl 114 [.agg c.av,I me] H=some (.ref q 0 0,H')/\Made H H' g'/\nI g' q d t c me (.new c me):=by
 let H1:=H.new (.blk 0 31 c.av);obtain⟨H2',d,e1,M1⟩:=aao H1.guard (zac _) c h me;obtain⟨H2,e1,M1⟩:=drawn e1 M1;obtain⟨H3',t,e2,M2⟩:=acZ H2.guard;obtain⟨H3,e2,M2⟩:=drawn e2 M2;let xs:List AV:=[.ref d 0 0,.ref t 0 0]++c.av++[I me]
 have hall:xs.all AV.aX=true:=by
  simp only [xs,zbL,iF];rfl
 have M3:Made H3 (H3.new (.blk 0 166 xs)) (upd Aj H3.next (Cj d t c me)):=oI hall (by simp [xs,Cj]) (PX (by simp [xs,Cj]));have g1:H1.get H.next=.blk 0 31 c.av:=bF rfl
 have l1:H.next < H1.next:=by simp only [H1,fA];omega
 have b1:=pq g1;have g2:H2.get H.next=.blk 0 31 c.av:=by rw [M1.same _ l1,g1]
 have g3:H3.get H.next=.blk 0 31 c.av:=by rw [M2.same _ (zav l1 M1.next),g2]
 have b3:=pq g3;refine⟨_,H3.next,d,t,_,bg rfl rfl (ak8 _ _ _ _ (r:=(_,H3.new (.blk 0 166 xs))) ?_),((M1.trans M2).trans M3).DI,?_⟩
 ·have e:bd 166 [(0,.ref d 0 0),(1,.ref t 0 0),(2,.agg c.av),(3,I me)]=some (.agg xs):=by
   simp only [xq_,ajR,jX,gI,aex,Cfg.av,fJ];rfl
  simp only [H1] at e1 b1;simp only [Nat.reduceLT,xq_,hq_,afg,aF (iF c),b1,e1,e2,b3,e,aF hall]
 ·refine⟨qB M3.good aU (zac _),ng (M1.good.merge M2) (ng M1.good aU rfl) rfl,ng (M1.good.merge M2) (qB M2.good aU (zac _)) rfl⟩
theorem ah0(H:ah)(l:List Opn)(hl:l.length < 1000000000){x:AV}(hx:aW H x 3 l.length (l.flatMap Opn.av))(h0:l=[]->x=zN):∃H' q,cl 113 [x] H=some (.ref q 0 0,H')/\Made H H' (upd Aj q (pU ⟨l,[],false⟩)):=by
 have e1:=ac0 H l hl hx h0 λhn=> hx.aap Tryz.underlying62 λe=> hn (zas e);have hc:(vsl 3 Opn.av l).cells=[vsl 3 Opn.av l]:=F9;refine⟨_,H.next,bg rfl rfl (ak6 _ _ _ (r:=(_,H.new (.blk 0 135 [vsl 3 Opn.av l,zN,zB]))) ?_),oI ?_ rfl λi c x hc hx=> ?_⟩
 ·simp only [Nat.reduceLT,Nat.reduceAdd,aN,xq_,hq_,aff,e1,ajM,jX,gI,aeu,aF]
 ·simp only [hq_]
 ·match i with
  | 0=> left;cases hc;cases hx;rfl
  | 1=> right;cases hc;cases hx;exact⟨rfl,1,rfl⟩
  | 2=> left;cases hc;cases hx;rfl
  | i+3=> cases hc
theorem Made.add {H H1 H2:ah}{g:bD}{q:Nat}{cs:List Cell}(M:Made H H1 g)(M':Made H1 H2 (upd Aj q cs)):Made H H2 (upd g q cs):=
 (M.trans M').as ((M.good.am4 (M'.lt aU).1).symm)
def II(a:Nat->Nat)(c:Cfg)(me:Int)(d:bJ)(num:Int):List AV:=[.ref (a 1) 0 0,.ref (a 2) 0 0]++c.av++[I me,.ref (a 3) 0 0]++d.av++[I num]
def vS(a:Nat->Nat)(c:Cfg)(me:Int)(d:bJ)(num:Int):List Cell:=(II a c me d num).map .av
def qC(g:bD)(a:Nat->Nat)(c:Cfg)(me:Int)(n:Node):Prop:=
 g (a 0)=some (vS a c me n.aI n.num)/\g (a 1)=some (dn n.aH)/\g (a 2)=some (pU n.bP)/\nI g (a 3) (a 4) (a 5) c me n.home
theorem PY {a:Nat->Nat}{c:Cfg}{me:Int}{d:bJ}{num:Int}:(II a c me d num).all AV.aX=true:=by
 simp only [II,zbL,iF,bC];rfl
def six(x0 x1 x2 x3 x4 x5:Nat):Nat->Nat
 | 0=> x0
 | 1=> x1
 | 2=> x2
 | 3=> x3
 | 4=> x4
 | _=> x5
theorem aaq(H:ah)(c:Cfg)(h:c.ok=true)(me:Int)(l:List Opn)(hl:l.length < 1000000000){x:AV}(hx:aW H x 3 l.length (l.flatMap Opn.av))(h0:l=[]->x=zN):
  ∃H' a g',cl 63 [.agg c.av,I me,x] H=some (.ref (a 0) 0 0,H')/\Made H H' g'/\qC g' a c me (.new c me l):=by
 have Bd:=Ak h;let H1:=H.new (.blk 0 31 c.av);obtain⟨H2',q1,e1,M1⟩:=acY H1.guard c.sets c.ways Bd.sets.1 Bd.ways.1;obtain⟨H2,e1,M1⟩:=drawn e1 M1;have hx2:aW H2 x 3 l.length (l.flatMap Opn.av):=(hx.new (.blk 0 31 c.av)).jZ M1.next λr _ hr=> M1.same r hr
 obtain⟨H3',q2,e2,M2⟩:=ah0 H2.guard l hl hx2.guard h0;obtain⟨H3,e2,M2⟩:=drawn e2 M2;obtain⟨H4',q3,q4,q5,g4,e3,M3,I3⟩:=ahZ H3.guard (zac _) c h me;obtain⟨H4,e3,M3⟩:=drawn e3 M3;let a:=six H4.next q1 q2 q3 q4 q5
 let xs:=II a c me .zero 0;have M4:Made H4 (H4.new (.blk 0 75 xs)) (upd Aj H4.next (vS a c me .zero 0)):=oI PY (by simp [xs,vS]) (PX rfl);have g1:H1.get H.next=.blk 0 31 c.av:=bF rfl
 have l1:H.next < H1.next:=by simp only [H1,fA];omega
 have l3:H.next < H3.next:=zav l1 (zau M1.next M2.next)
 have b1:=pq g1;have g2:H2.get H.next=.blk 0 31 c.av:=by rw [M1.same _ l1,g1]
 have g3:H3.get H.next=.blk 0 31 c.av:=by rw [M2.same _ (zav l1 M1.next),g2]
 have b3:=pq g3;have G12:=M1.good.merge M2;have am6:=G12.merge M3;refine⟨_,a,_,bg rfl rfl (apb _ _ _ _ _ (r:=(_,H4.new (.blk 0 75 xs))) ?_),(((M1.trans M2).trans M3).trans M4).DI,?_⟩
 ·have e:bd 75 [(0,.ref q1 0 0),(1,.ref q2 0 0),(2,.agg c.av),(3,I me),(4,.agg [.ref q3 0 0])]=some (.agg xs):=by
   simp only [xq_,aoD,jX,gI,ajJ,Cfg.av,fJ];rfl
  have l3:c.av[3]?=some (I c.sets):=rfl;have l4:c.av[4]?=some (I c.ways):=rfl;have bx:∀r,(AV.ref r 0 0).cells=[.ref r 0 0]:=λ_=> rfl;have eb:∀r,bd 71 [(0,.ref r 0 0)]=some (.agg [.ref r 0 0]):=λr=> by
   simp only [xq_,aoC,jX,gI,ajH];rfl
  simp only [H1] at e1 b1;simp only [Nat.reduceLT,xq_,hq_,akM,aF (iF c),l3,l4,e1,e2,e3,b3,eb,e,aF PY,xs];rfl
 ·refine⟨qB M4.good aU (zac _),ng am6 (ng G12 (ng M1.good aU rfl) rfl) rfl,ng am6 (ng G12 (qB M2.good aU (zac _)) rfl) rfl,?_⟩;obtain⟨i1,i2,i3⟩:=I3;exact⟨ng am6 (qB M3.good i1 (zac _)) rfl,ng am6 (qB M3.good i2 (zac _)) rfl,ng am6 (qB M3.good i3 (zac _)) rfl⟩
end
end Go.Proofs.YtgplhpgkompkmaaGreat
