/-
  Own work: an interpreter over named blocks, its soundness, and what the functions of this seat compute (part 4 of 8).
  Conditions: those of the statement alone.
-/
import Derived.Test.YtlcdejlbmnjlaaaGreatProg
import Derived.KernelRfl
import Derived.Test.YtlcdejlbmnjlaaaGreatXc
set_option linter.all false
set_option linter.unusedSectionVars false
set_option linter.unusedVariables false
set_option linter.unusedSimpArgs false
set_option maxRecDepth 100000
namespace Go.Proofs.YtlcdejlbmnjlaaaGreat

def an_69 : Ann := ⟨[], [], []⟩
noncomputable def cd_69 : Code := Tryz.f69.body.getD .skip
noncomputable def sh_69 (C : Callee) (a0 a1 : AV) (H : AHeap) : Option (AV × AHeap) :=
  bnd (boxA 148 a0 H) fun v2 H => bnd (boxA 144 a1 H) fun v3 H =>
  bo (fieldPtr v2 0) fun v5 => bo (fieldPtr v5 0) fun v6 => bnd (ld v6 H) fun v7 H => bo (fieldPtr v3 0) fun v8 => bnd (ld v8 H) fun v9 H => bo (bi .eql 3 v7 v9) fun v10 => gdA (some v10) true (liftO (fieldPtr v2 0) H) H fun v12 H => gdA (some v10) true (liftO (fieldPtr v12 1) H) H fun v13 H => gdA (some v10) true (ld v13 H) H fun v14 H => gdA (some v10) true (liftO (fieldPtr v3 1) H) H fun v15 H => gdA (some v10) true (ld v15 H) H fun v16 H => gdA (some v10) true (liftO (bi .eql 3 v14 v16) H) H fun v17 H => bo (pickA v10 v17 (B false)) fun v18 => gdA (some v18) true (liftO (fieldPtr v2 2) H) H fun v20 H => gdA (some v18) true (ld v20 H) H fun v21 H => gdA (some v18) true (liftO (fieldPtr v3 2) H) H fun v22 H => gdA (some v18) true (ld v22 H) H fun v23 H => gdA (some v18) true (liftO (bi .eql 3 v21 v23) H) H fun v24 H => bo (pickA v18 v24 (B false)) fun v25 => gdA (some v25) true (liftO (fieldPtr v2 3) H) H fun v27 H => gdA (some v25) true (ld v27 H) H fun v28 H => gdA (some v25) true (liftO (fieldPtr v3 3) H) H fun v29 H => gdA (some v25) true (ld v29 H) H fun v30 H => gdA (some v25) true (liftO (bi .eql 3 v28 v30) H) H fun v31 H => bo (pickA v25 v31 (B false)) fun v32 => gdA (some v32) true (liftO (fieldPtr v2 4) H) H fun v34 H => gdA (some v32) true (ld v34 H) H fun v35 H => gdA (some v32) true (liftO (fieldPtr v3 4) H) H fun v36 H => gdA (some v32) true (ld v36 H) H fun v37 H => gdA (some v32) true (liftO (bi .eql 4 v35 v37) H) H fun v38 H => bo (pickA v32 v38 (B false)) fun v39 => gdA (some v39) true (liftO (fieldPtr v2 5) H) H fun v41 H => gdA (some v39) true (ld v41 H) H fun v42 H => gdA (some v39) true (liftO (fieldPtr v3 5) H) H fun v43 H => gdA (some v39) true (ld v43 H) H fun v44 H => gdA (some v39) true (C 64 [v42, v44] H) H fun v45 H => bo (pickA v39 v45 (B false)) fun v46 =>
  some (v46, H)
theorem rn_69 (C : Callee) (a0 a1 : AV) (H : AHeap) {r : AV × AHeap} (h : sh_69 C a0 a1 H = some r) : runF Tryz.prog C 69 [a0, a1] H = some r :=
  runF_K (A := an_69) (c := cd_69) Tryz.func69 (by kernel_rfl) (by kernel_rfl) (by kernel_rfl) ((show _ = sh_69 C a0 a1 H by kernel_rfl).trans h)
def an_70 : Ann := ⟨[], [], []⟩
noncomputable def cd_70 : Code := Tryz.f70.body.getD .skip
noncomputable def sh_70 (C : Callee) (a0 a1 : AV) (H : AHeap) : Option (AV × AHeap) :=
  bnd (alc 153 [zI, zI, zN] H) fun v4 H =>
  bo (nilCheckA a0) fun v7 => bo (fieldPtr v7 11) fun v8 => bo (fieldPtr v8 0) fun v9 => bnd (ld v9 H) fun v10 H => bo (nilCheckA v10) fun v11 => bo (fieldPtr v11 0) fun v12 => bnd (ld v12 H) fun v13 H => bnd (C 88 [v13, a1] H) fun v15 H => bo (extractA v15 0) fun v16 => bo (extractA v15 1) fun v17 => bnd (st 3 v4 v16 H) fun _ H =>
  bnd (lda 3 v4 H) fun r0 _ => some (.tup [r0, v17], H)
theorem rn_70 (C : Callee) (a0 a1 : AV) (H : AHeap) {r : AV × AHeap} (h : sh_70 C a0 a1 H = some r) : runF Tryz.prog C 70 [a0, a1] H = some r :=
  runF_K (A := an_70) (c := cd_70) Tryz.func70 (by kernel_rfl) (by kernel_rfl) (by kernel_rfl) ((show _ = sh_70 C a0 a1 H by kernel_rfl).trans h)
def an_71 : Ann := ⟨[], [(1, [some false, some false, some false, some false, some false, some false, some false, some false, some false, some false, some false, some false, some false, some false, some false, some false, some false, some false, some false, some false, some false, some false, some false, some false, some false, some false])], []⟩
noncomputable def cd_71 : Code := Tryz.f71.body.getD .skip
noncomputable def sh_71 (C : Callee) (a0 a1 : AV) (H : AHeap) : Option (AV × AHeap) :=
  bo (bi .geq 3 a1 (I 0)) fun v6 => gdA (some v6) true (liftO (some a1) H) H fun v8 H => gdA (some v6) true (liftO (some a0) H) H fun v9 H => gdA (some v6) true (liftO (nilCheckA v9) H) H fun v10 H => gdA (some v6) true (liftO (fieldPtr v10 0) H) H fun v11 H => gdA (some v6) true (liftO (fieldPtr v11 1) H) H fun v12 H => gdA (some v6) true (ld v12 H) H fun v13 H => gdA (some v6) true (liftO (bi .lss 3 v8 v13) H) H fun v14 H => bo (pickA v6 v14 (B false)) fun v15 => gdA (some v15) true (liftO (some a1) H) H fun v17 H => gdA (some v15) true (liftO (some a0) H) H fun v18 H => gdA (some v15) true (liftO (nilCheckA v18) H) H fun v19 H => gdA (some v15) true (liftO (fieldPtr v19 0) H) H fun v20 H => gdA (some v15) true (liftO (fieldPtr v20 0) H) H fun v21 H => gdA (some v15) true (ld v21 H) H fun v22 H => gdA (some v15) true (liftO (bi .rem 3 v17 v22) H) H fun v23 H => gdA (some v15) true (liftO (some a0) H) H fun v24 H => gdA (some v15) true (liftO (nilCheckA v24) H) H fun v25 H => gdA (some v15) true (liftO (fieldPtr v25 8) H) H fun v26 H => gdA (some v15) true (ld v26 H) H fun v27 H => gdA (some v15) true (liftO (bi .eql 3 v23 v27) H) H fun v28 H => bo (pickA v15 v28 (B false)) fun v29 =>
  some (v29, H)
theorem rn_71 (C : Callee) (a0 a1 : AV) (H : AHeap) {r : AV × AHeap} (h : sh_71 C a0 a1 H = some r) : runF Tryz.prog C 71 [a0, a1] H = some r :=
  runF_K (A := an_71) (c := cd_71) Tryz.func71 (by kernel_rfl) (by kernel_rfl) (by kernel_rfl) ((show _ = sh_71 C a0 a1 H by kernel_rfl).trans h)
def an_72 : Ann := ⟨[], [], []⟩
noncomputable def cd_72 : Code := Tryz.f72.body.getD .skip
noncomputable def sh_72 (C : Callee) (a0 a1 : AV) (H : AHeap) : Option (AV × AHeap) :=
  bnd (boxA 153 a0 H) fun v2 H => bnd (boxA 157 a1 H) fun v3 H =>
  bo (fieldPtr v2 0) fun v5 => bnd (ld v5 H) fun v6 H => bo (fieldPtr v3 0) fun v7 => bnd (ld v7 H) fun v8 H => bo (bi .eql 3 v6 v8) fun v9 => gdA (some v9) true (liftO (fieldPtr v2 1) H) H fun v11 H => gdA (some v9) true (ld v11 H) H fun v12 H => gdA (some v9) true (liftO (fieldPtr v3 1) H) H fun v13 H => gdA (some v9) true (ld v13 H) H fun v14 H => gdA (some v9) true (liftO (bi .eql 3 v12 v14) H) H fun v15 H => bo (pickA v9 v15 (B false)) fun v16 => gdA (some v16) true (liftO (fieldPtr v2 2) H) H fun v18 H => gdA (some v16) true (ld v18 H) H fun v19 H => gdA (some v16) true (liftO (fieldPtr v3 2) H) H fun v20 H => gdA (some v16) true (ld v20 H) H fun v21 H => gdA (some v16) true (C 64 [v19, v21] H) H fun v22 H => bo (pickA v16 v22 (B false)) fun v23 =>
  some (v23, H)
theorem rn_72 (C : Callee) (a0 a1 : AV) (H : AHeap) {r : AV × AHeap} (h : sh_72 C a0 a1 H = some r) : runF Tryz.prog C 72 [a0, a1] H = some r :=
  runF_K (A := an_72) (c := cd_72) Tryz.func72 (by kernel_rfl) (by kernel_rfl) (by kernel_rfl) ((show _ = sh_72 C a0 a1 H by kernel_rfl).trans h)
def an_73 : Ann := ⟨[], [], []⟩
noncomputable def cd_73 : Code := Tryz.f73.body.getD .skip
noncomputable def sh_73 (C : Callee) (a0 a1 : AV) (H : AHeap) : Option (AV × AHeap) :=
  bo (nilCheckA a0) fun v6 => bo (fieldPtr v6 11) fun v7 => bo (fieldPtr v7 0) fun v8 => bnd (ld v8 H) fun v9 H => bo (nilCheckA v9) fun v10 => bo (fieldPtr v10 1) fun v11 => bnd (ld v11 H) fun v12 H => bnd (C 89 [v12, a1] H) fun v14 H =>
  some (v14, H)
theorem rn_73 (C : Callee) (a0 a1 : AV) (H : AHeap) {r : AV × AHeap} (h : sh_73 C a0 a1 H = some r) : runF Tryz.prog C 73 [a0, a1] H = some r :=
  runF_K (A := an_73) (c := cd_73) Tryz.func73 (by kernel_rfl) (by kernel_rfl) (by kernel_rfl) ((show _ = sh_73 C a0 a1 H by kernel_rfl).trans h)
def an_74 : Ann := ⟨[(3, [1, 10, 11, 12])], [], []⟩
noncomputable def cd_74 : Code := Tryz.f74.body.getD .skip
noncomputable def lp_74x0 (C : Callee) : List AV → AHeap → Option (AV × AHeap) := (loopsK Tryz.prog C an_74 23 cd_74 (retK Tryz.prog 23 Tryz.f74.results.toList) (fun _ _ _ => none) (retK Tryz.prog 23 Tryz.f74.results.toList)).getD 0 fun _ _ => none
noncomputable def sh_74 (C : Callee) (a0 a1 : AV) (H : AHeap) : Option (AV × AHeap) :=
  bo (nilCheckA a0) fun v8 => bo (fieldPtr v8 0) fun v9 => bnd (ld v9 H) fun v10 H => bnd (lnS v10 H) fun v11 H =>
  lp_74x0 C [a1, v10, v11, (I 0)] H
theorem le_74x0 (C : Callee) (t1 t10 t11 t12 : AV) (H : AHeap) : lp_74x0 C [t1, t10, t11, t12] H =
  bo (bi .lss 3 t12 t11) fun v13 =>
  condK v13
  (bnd (ix 2 t10 t12 H) fun v14 H => bnd (lda 2 v14 H) fun v15 H => bnd (alc 190 [zI, zI] H) fun v6 H => bnd (st 2 v6 v15 H) fun _ H =>
   bnd (ixa 2 1 v6 (I 0) H) fun v16 H => bnd (ld v16 H) fun v17 H => bo (bi .eql 3 v17 t1) fun v19 =>
   condK v19
   (bnd (ixa 2 1 v6 (I 1) H) fun v20 H => bnd (ld v20 H) fun v21 H =>
    some (v21, H))
   (bo (bi .add 3 t12 (I 1)) fun v22 =>
    lp_74x0 C [t1, t10, t11, v22] H))
  (some ((I (-1)), H)) :=
  (congrFun (congrFun (congrArg (fun l => l.getD 0 fun _ _ => none) (loops_eq cd_74 (retK Tryz.prog 23 Tryz.f74.results.toList) (fun _ _ _ => none) (retK Tryz.prog 23 Tryz.f74.results.toList))) [t1, t10, t11, t12]) H).trans (by kernel_rfl)
theorem rn_74 (C : Callee) (a0 a1 : AV) (H : AHeap) {r : AV × AHeap} (h : sh_74 C a0 a1 H = some r) : runF Tryz.prog C 74 [a0, a1] H = some r :=
  runF_K (A := an_74) (c := cd_74) Tryz.func74 (by kernel_rfl) (by kernel_rfl) (by kernel_rfl) ((show _ = sh_74 C a0 a1 H by kernel_rfl).trans h)
def an_75 : Ann := ⟨[], [], []⟩
noncomputable def cd_75 : Code := Tryz.f75.body.getD .skip
noncomputable def sh_75 (C : Callee) (a0 a1 : AV) (H : AHeap) : Option (AV × AHeap) :=
  bo (nilCheckA a0) fun v6 => bo (fieldPtr v6 11) fun v7 => bo (fieldPtr v7 0) fun v8 => bnd (ld v8 H) fun v9 H => bo (nilCheckA v9) fun v10 => bo (fieldPtr v10 1) fun v11 => bnd (ld v11 H) fun v12 H => bnd (C 90 [v12, a1] H) fun v14 H =>
  some (v14, H)
theorem rn_75 (C : Callee) (a0 a1 : AV) (H : AHeap) {r : AV × AHeap} (h : sh_75 C a0 a1 H = some r) : runF Tryz.prog C 75 [a0, a1] H = some r :=
  runF_K (A := an_75) (c := cd_75) Tryz.func75 (by kernel_rfl) (by kernel_rfl) (by kernel_rfl) ((show _ = sh_75 C a0 a1 H by kernel_rfl).trans h)
def an_76 : Ann := ⟨[(4, [1, 5, 11, 12, 13])], [], []⟩
noncomputable def cd_76 : Code := Tryz.f76.body.getD .skip
noncomputable def lp_76x0 (C : Callee) : List AV → AHeap → Option (AV × AHeap) := (loopsK Tryz.prog C an_76 25 cd_76 (retK Tryz.prog 25 Tryz.f76.results.toList) (fun _ _ _ => none) (retK Tryz.prog 25 Tryz.f76.results.toList)).getD 0 fun _ _ => none
noncomputable def jn_76x0 (C : Callee) (t1 t5 t11 t12 t13 : AV) (H : AHeap) : Option (AV × AHeap) :=
  bo (bi .add 3 t13 (I 1)) fun v23 =>
  lp_76x0 C [t1, t5, t11, t12, v23] H
noncomputable def sh_76 (C : Callee) (a0 a1 : AV) (H : AHeap) : Option (AV × AHeap) :=
  bo (nilCheckA a0) fun v9 => bo (fieldPtr v9 1) fun v10 => bnd (ld v10 H) fun v11 H => bnd (lnS v11 H) fun v12 H =>
  lp_76x0 C [a1, (I 0), v11, v12, (I 0)] H
theorem le_76x0 (C : Callee) (t1 t5 t11 t12 t13 : AV) (H : AHeap) : lp_76x0 C [t1, t5, t11, t12, t13] H =
  bo (bi .lss 3 t13 t12) fun v14 =>
  condK v14
  (bnd (ix 3 t11 t13 H) fun v15 H => bnd (lda 3 v15 H) fun v16 H => bnd (alc 192 [zI, zI, zI] H) fun v7 H => bnd (st 3 v7 v16 H) fun _ H =>
   bo (fieldPtr v7 0) fun v17 => bnd (ld v17 H) fun v18 H => bo (bi .eql 3 v18 t1) fun v20 =>
   condK v20
   (bo (bi .add 3 t5 (I 1)) fun v22 =>
    jn_76x0 C t1 v22 t11 t12 t13 H)
   (jn_76x0 C t1 t5 t11 t12 t13 H))
  (some (t5, H)) :=
  (congrFun (congrFun (congrArg (fun l => l.getD 0 fun _ _ => none) (loops_eq cd_76 (retK Tryz.prog 25 Tryz.f76.results.toList) (fun _ _ _ => none) (retK Tryz.prog 25 Tryz.f76.results.toList))) [t1, t5, t11, t12, t13]) H).trans (by kernel_rfl)
theorem rn_76 (C : Callee) (a0 a1 : AV) (H : AHeap) {r : AV × AHeap} (h : sh_76 C a0 a1 H = some r) : runF Tryz.prog C 76 [a0, a1] H = some r :=
  runF_K (A := an_76) (c := cd_76) Tryz.func76 (by kernel_rfl) (by kernel_rfl) (by kernel_rfl) ((show _ = sh_76 C a0 a1 H by kernel_rfl).trans h)
def an_77 : Ann := ⟨[(3, [0, 1, 7, 8])], [], []⟩
noncomputable def cd_77 : Code := Tryz.f77.body.getD .skip
noncomputable def lp_77x0 (C : Callee) : List AV → AHeap → Option (AV × AHeap) := (loopsK Tryz.prog C an_77 19 cd_77 (retK Tryz.prog 19 Tryz.f77.results.toList) (fun _ _ _ => none) (retK Tryz.prog 19 Tryz.f77.results.toList)).getD 0 fun _ _ => none
noncomputable def sh_77 (C : Callee) (a0 a1 : AV) (H : AHeap) : Option (AV × AHeap) :=
  bnd (lnS a0 H) fun v7 H =>
  lp_77x0 C [a0, a1, v7, (I 0)] H
theorem le_77x0 (C : Callee) (t0 t1 t7 t8 : AV) (H : AHeap) : lp_77x0 C [t0, t1, t7, t8] H =
  bo (bi .lss 3 t8 t7) fun v9 =>
  condK v9
  (bnd (ix 1 t0 t8 H) fun v14 H => bnd (ld v14 H) fun v15 H => bnd (callA Tryz.prog C t1 [v15] H) fun v16 H =>
   condK v16
   (some (t8, H))
   (bo (bi .add 3 t8 (I 1)) fun v18 =>
    lp_77x0 C [t0, t1, t7, v18] H))
  (some ((I (-1)), H)) :=
  (congrFun (congrFun (congrArg (fun l => l.getD 0 fun _ _ => none) (loops_eq cd_77 (retK Tryz.prog 19 Tryz.f77.results.toList) (fun _ _ _ => none) (retK Tryz.prog 19 Tryz.f77.results.toList))) [t0, t1, t7, t8]) H).trans (by kernel_rfl)
theorem rn_77 (C : Callee) (a0 a1 : AV) (H : AHeap) {r : AV × AHeap} (h : sh_77 C a0 a1 H = some r) : runF Tryz.prog C 77 [a0, a1] H = some r :=
  runF_K (A := an_77) (c := cd_77) Tryz.func77 (by kernel_rfl) (by kernel_rfl) (by kernel_rfl) ((show _ = sh_77 C a0 a1 H by kernel_rfl).trans h)
def an_78 : Ann := ⟨[(3, [0, 1, 7, 8])], [], []⟩
noncomputable def cd_78 : Code := Tryz.f78.body.getD .skip
noncomputable def lp_78x0 (C : Callee) : List AV → AHeap → Option (AV × AHeap) := (loopsK Tryz.prog C an_78 19 cd_78 (retK Tryz.prog 19 Tryz.f78.results.toList) (fun _ _ _ => none) (retK Tryz.prog 19 Tryz.f78.results.toList)).getD 0 fun _ _ => none
noncomputable def sh_78 (C : Callee) (a0 a1 : AV) (H : AHeap) : Option (AV × AHeap) :=
  bnd (lnS a0 H) fun v7 H =>
  lp_78x0 C [a0, a1, v7, (I 0)] H
theorem le_78x0 (C : Callee) (t0 t1 t7 t8 : AV) (H : AHeap) : lp_78x0 C [t0, t1, t7, t8] H =
  bo (bi .lss 3 t8 t7) fun v9 =>
  condK v9
  (bnd (ix 3 t0 t8 H) fun v14 H => bnd (lda 3 v14 H) fun v15 H => bnd (callA Tryz.prog C t1 [v15] H) fun v16 H =>
   condK v16
   (some (t8, H))
   (bo (bi .add 3 t8 (I 1)) fun v18 =>
    lp_78x0 C [t0, t1, t7, v18] H))
  (some ((I (-1)), H)) :=
  (congrFun (congrFun (congrArg (fun l => l.getD 0 fun _ _ => none) (loops_eq cd_78 (retK Tryz.prog 19 Tryz.f78.results.toList) (fun _ _ _ => none) (retK Tryz.prog 19 Tryz.f78.results.toList))) [t0, t1, t7, t8]) H).trans (by kernel_rfl)
theorem rn_78 (C : Callee) (a0 a1 : AV) (H : AHeap) {r : AV × AHeap} (h : sh_78 C a0 a1 H = some r) : runF Tryz.prog C 78 [a0, a1] H = some r :=
  runF_K (A := an_78) (c := cd_78) Tryz.func78 (by kernel_rfl) (by kernel_rfl) (by kernel_rfl) ((show _ = sh_78 C a0 a1 H by kernel_rfl).trans h)
def an_79 : Ann := ⟨[], [(3, [some false, some false, some false, some false, some false, some false, some false, some false, some false, some false])], []⟩
noncomputable def cd_79 : Code := Tryz.f79.body.getD .skip
noncomputable def sh_79 (C : Callee) (a0 a1 : AV) (H : AHeap) : Option (AV × AHeap) :=
  bnd (boxA 26 a0 H) fun v2 H =>
  bo (bi .lss 3 a1 (I 0)) fun v7 => gdA (some v7) false (liftO (some a1) H) H fun v9 H => gdA (some v7) false (lda 8 v2 H) H fun v10 H => gdA (some v7) false (C 91 [v10] H) H fun v11 H => gdA (some v7) false (liftO (bi .geq 3 v9 v11) H) H fun v12 H => bo (pickA v7 (B true) v12) fun v13 =>
  condK v13
  (some (.tup [(I (-1)), (I 0)], H))
  (bo (fieldPtr v2 2) fun v15 => bnd (ld v15 H) fun v16 H => bo (bi .quo 3 a1 v16) fun v17 => bo (fieldPtr v2 2) fun v19 => bnd (ld v19 H) fun v20 H => bo (bi .rem 3 a1 v20) fun v21 =>
   some (.tup [v17, v21], H))
theorem rn_79 (C : Callee) (a0 a1 : AV) (H : AHeap) {r : AV × AHeap} (h : sh_79 C a0 a1 H = some r) : runF Tryz.prog C 79 [a0, a1] H = some r :=
  runF_K (A := an_79) (c := cd_79) Tryz.func79 (by kernel_rfl) (by kernel_rfl) (by kernel_rfl) ((show _ = sh_79 C a0 a1 H by kernel_rfl).trans h)
def an_80 : Ann := ⟨[], [], []⟩
noncomputable def cd_80 : Code := Tryz.f80.body.getD .skip
noncomputable def sh_80 (C : Callee) (a0 : AV) (H : AHeap) : Option (AV × AHeap) :=
  bo (bi .eql 31 a0 (.s (Go.Value.slice none 0 0))) fun v4 =>
  condK v4
  (some ((.s (Go.Value.slice none 0 0)), H))
  (bnd (bs 31 0 [] H) fun v5 H => bnd (app 48 3 24 v5 a0 H) fun v7 H =>
   some (v7, H))
theorem rn_80 (C : Callee) (a0 : AV) (H : AHeap) {r : AV × AHeap} (h : sh_80 C a0 H = some r) : runF Tryz.prog C 80 [a0] H = some r :=
  runF_K (A := an_80) (c := cd_80) Tryz.func80 (by kernel_rfl) (by kernel_rfl) (by kernel_rfl) ((show _ = sh_80 C a0 H by kernel_rfl).trans h)
def an_81 : Ann := ⟨[(4, [1, 2, 5, 12, 13])], [(6, [some false, some false, some false, some false, some false, some false, some false, some true, some false, some false])], []⟩
noncomputable def cd_81 : Code := Tryz.f81.body.getD .skip
noncomputable def lp_81x0 (C : Callee) : List AV → AHeap → Option (AV × AHeap) := (loopsK Tryz.prog C an_81 32 cd_81 (retK Tryz.prog 32 Tryz.f81.results.toList) (fun _ _ _ => none) (retK Tryz.prog 32 Tryz.f81.results.toList)).getD 0 fun _ _ => none
noncomputable def jn_81x0 (C : Callee) (t1 t2 t5 t12 t13 : AV) (H : AHeap) : Option (AV × AHeap) :=
  bo (bi .add 3 t13 (I 1)) fun v30 =>
  lp_81x0 C [t1, t2, t5, t12, v30] H
noncomputable def sh_81 (C : Callee) (a0 a1 : AV) (H : AHeap) : Option (AV × AHeap) :=
  bnd (boxA 26 a0 H) fun v2 H =>
  bnd (lda 8 v2 H) fun v7 H => bnd (mkm .i64 H) fun v8 H => bo (bd 196 [(0, v7), (1, v8)]) fun v9 => bnd (boxA 196 v9 H) fun v10 H =>
  bo (fieldPtr v2 1) fun v11 => bnd (ld v11 H) fun v12 H =>
  lp_81x0 C [a1, v2, v10, v12, (I 0)] H
theorem le_81x0 (C : Callee) (t1 t2 t5 t12 t13 : AV) (H : AHeap) : lp_81x0 C [t1, t2, t5, t12, t13] H =
  bo (bi .lss 3 t13 t12) fun v14 =>
  condK v14
  (bnd (lda 8 t2 H) fun v16 H => bnd (C 92 [v16, t13] H) fun v18 H => bo (bi .eql 3 v18 t1) fun v20 =>
   condK v20
   (bo (nilCheckA t5) fun v22 => bo (fieldPtr v22 8) fun v23 => bnd (ld v23 H) fun v24 H => bnd (lda 8 t2 H) fun v26 H => bnd (unG H (C 93 [v26, t13] H.guard)) fun v28 H => bo (bd 153 [(0, (I 0)), (1, (I (-1))), (2, v28)]) fun v29 => bnd (mup .i64 v24 t13 v29 H) fun _ H =>
    jn_81x0 C t1 t2 t5 t12 t13 H)
   (jn_81x0 C t1 t2 t5 t12 t13 H))
  (some (t5, H)) :=
  (congrFun (congrFun (congrArg (fun l => l.getD 0 fun _ _ => none) (loops_eq cd_81 (retK Tryz.prog 32 Tryz.f81.results.toList) (fun _ _ _ => none) (retK Tryz.prog 32 Tryz.f81.results.toList))) [t1, t2, t5, t12, t13]) H).trans (by kernel_rfl)
theorem rn_81 (C : Callee) (a0 a1 : AV) (H : AHeap) {r : AV × AHeap} (h : sh_81 C a0 a1 H = some r) : runF Tryz.prog C 81 [a0, a1] H = some r :=
  runF_K (A := an_81) (c := cd_81) Tryz.func81 (by kernel_rfl) (by kernel_rfl) (by kernel_rfl) ((show _ = sh_81 C a0 a1 H by kernel_rfl).trans h)
def an_82 : Ann := ⟨[], [], []⟩
noncomputable def cd_82 : Code := Tryz.f82.body.getD .skip
noncomputable def sh_82 (C : Callee) (H : AHeap) : Option (AV × AHeap) :=
  bnd (mkm .i64 H) fun v1 H => bnd (mkm .i64 H) fun v2 H => bo (bd 201 [(0, v1), (1, v2)]) fun v3 => bnd (boxA 201 v3 H) fun v4 H =>
  some (v4, H)
theorem rn_82 (C : Callee) (H : AHeap) {r : AV × AHeap} (h : sh_82 C H = some r) : runF Tryz.prog C 82 [] H = some r :=
  runF_K (A := an_82) (c := cd_82) Tryz.func82 (by kernel_rfl) (by kernel_rfl) (by kernel_rfl) ((show _ = sh_82 C H by kernel_rfl).trans h)
def an_83 : Ann := ⟨[(6, [1, 2, 5, 6])], [], []⟩
noncomputable def cd_83 : Code := Tryz.f83.body.getD .skip
noncomputable def lp_83x0 (C : Callee) : List AV → AHeap → Option (AV × AHeap) := (loopsK Tryz.prog C an_83 44 cd_83 (retK Tryz.prog 44 Tryz.f83.results.toList) (fun _ _ _ => none) (retK Tryz.prog 44 Tryz.f83.results.toList)).getD 0 fun _ _ => none
noncomputable def jn_83x0 (C : Callee) (t1 t2 t5 t6 t7 : AV) (H : AHeap) : Option (AV × AHeap) :=
  bnd (bs 22 1 [(0, t7)] H) fun v41 H => bnd (app 3 1 8 t5 v41 H) fun v42 H =>
  bo (bi .add 3 t6 (I 1)) fun v22 =>
  lp_83x0 C [t1, t2, v42, v22] H
noncomputable def sh_83 (C : Callee) (a0 a1 : AV) (H : AHeap) : Option (AV × AHeap) :=
  bnd (boxA 26 a0 H) fun v2 H =>
  bo (bi .lss 3 a1 (I 0)) fun v10 => gdA (some v10) false (liftO (some a1) H) H fun v12 H => gdA (some v10) false (liftO (fieldPtr v2 1) H) H fun v13 H => gdA (some v10) false (ld v13 H) H fun v14 H => gdA (some v10) false (liftO (bi .geq 3 v12 v14) H) H fun v15 H => bo (pickA v10 (B true) v15) fun v16 =>
  condK v16
  (some ((.s (Go.Value.slice none 0 0)), H))
  (lp_83x0 C [a1, v2, (.s (Go.Value.slice none 0 0)), (I 0)] H)
theorem le_83x0 (C : Callee) (t1 t2 t5 t6 : AV) (H : AHeap) : lp_83x0 C [t1, t2, t5, t6] H =
  bo (fieldPtr t2 2) fun v18 => bnd (ld v18 H) fun v19 H => bo (bi .lss 3 t6 v19) fun v20 =>
  condK v20
  (bo (fieldPtr t2 2) fun v24 => bnd (ld v24 H) fun v25 H => bo (bi .mul 3 t1 v25) fun v26 => bo (bi .add 3 v26 t6) fun v28 =>
   bo (fieldPtr t2 7) fun v30 => bnd (ld v30 H) fun v31 H => bnd (lnS v31 H) fun v32 H => bo (bi .lss 3 v28 v32) fun v33 =>
   condK v33
   (bo (fieldPtr t2 7) fun v34 => bnd (ld v34 H) fun v35 H => bnd (ix 1 v35 v28 H) fun v37 H => bnd (ld v37 H) fun v38 H =>
    jn_83x0 C t1 t2 t5 t6 v38 H)
   (jn_83x0 C t1 t2 t5 t6 (I 0) H))
  (some (t5, H)) :=
  (congrFun (congrFun (congrArg (fun l => l.getD 0 fun _ _ => none) (loops_eq cd_83 (retK Tryz.prog 44 Tryz.f83.results.toList) (fun _ _ _ => none) (retK Tryz.prog 44 Tryz.f83.results.toList))) [t1, t2, t5, t6]) H).trans (by kernel_rfl)
theorem rn_83 (C : Callee) (a0 a1 : AV) (H : AHeap) {r : AV × AHeap} (h : sh_83 C a0 a1 H = some r) : runF Tryz.prog C 83 [a0, a1] H = some r :=
  runF_K (A := an_83) (c := cd_83) Tryz.func83 (by kernel_rfl) (by kernel_rfl) (by kernel_rfl) ((show _ = sh_83 C a0 a1 H by kernel_rfl).trans h)
def an_84 : Ann := ⟨[], [], []⟩
noncomputable def cd_84 : Code := Tryz.f84.body.getD .skip
noncomputable def sh_84 (C : Callee) (a0 : AV) (H : AHeap) : Option (AV × AHeap) :=
  bnd (boxA 78 a0 H) fun v1 H => bnd (alc 78 [zI, zI, zI, zI, zI, zI, zI, zB, zN] H) fun v2 H =>
  bo (fieldPtr v1 8) fun v3 => bnd (ld v3 H) fun v4 H => bnd (C 17 [v4] H) fun v5 H => bo (fieldPtr v1 8) fun v6 => bnd (st 1 v6 v5 H) fun _ H =>
  bnd (lda 9 v1 H) fun v7 H => bnd (st 9 v2 v7 H) fun _ H =>
  bnd (lda 9 v2 H) fun r0 _ => some (r0, H)
theorem rn_84 (C : Callee) (a0 : AV) (H : AHeap) {r : AV × AHeap} (h : sh_84 C a0 H = some r) : runF Tryz.prog C 84 [a0] H = some r :=
  runF_K (A := an_84) (c := cd_84) Tryz.func84 (by kernel_rfl) (by kernel_rfl) (by kernel_rfl) ((show _ = sh_84 C a0 H by kernel_rfl).trans h)
def an_85 : Ann := ⟨[], [], []⟩
noncomputable def cd_85 : Code := Tryz.f85.body.getD .skip
noncomputable def sh_85 (C : Callee) (a0 : AV) (H : AHeap) : Option (AV × AHeap) :=
  bnd (lnS a0 H) fun v4 H =>
  bnd (cv 3 204 v4 H) fun v8 H => bnd (C 95 [v8] H) fun v9 H => bnd (C 94 [a0, (I 0), v4, v9] H) fun v10 H =>
  some (.tup [], H)
theorem rn_85 (C : Callee) (a0 : AV) (H : AHeap) {r : AV × AHeap} (h : sh_85 C a0 H = some r) : runF Tryz.prog C 85 [a0] H = some r :=
  runF_K (A := an_85) (c := cd_85) Tryz.func85 (by kernel_rfl) (by kernel_rfl) (by kernel_rfl) ((show _ = sh_85 C a0 H by kernel_rfl).trans h)
def an_86 : Ann := ⟨[], [], []⟩
noncomputable def cd_86 : Code := Tryz.f86.body.getD .skip
noncomputable def sh_86 (C : Callee) (a0 a1 : AV) (H : AHeap) : Option (AV × AHeap) :=
  bnd (boxA 3 a1 H) fun v3 H =>
  bo (nilCheckA a0) fun v6 => bo (fieldPtr v6 0) fun v7 => bnd (ld v7 H) fun v8 H => bnd (C 96 [v8, (.fn (.func 97) [] [v3])] H) fun v10 H =>
  some (v10, H)
theorem rn_86 (C : Callee) (a0 a1 : AV) (H : AHeap) {r : AV × AHeap} (h : sh_86 C a0 a1 H = some r) : runF Tryz.prog C 86 [a0, a1] H = some r :=
  runF_K (A := an_86) (c := cd_86) Tryz.func86 (by kernel_rfl) (by kernel_rfl) (by kernel_rfl) ((show _ = sh_86 C a0 a1 H by kernel_rfl).trans h)
def an_87 : Ann := ⟨[], [], []⟩
noncomputable def cd_87 : Code := Tryz.f87.body.getD .skip
noncomputable def sh_87 (C : Callee) (a0 : AV) (H : AHeap) : Option (AV × AHeap) :=
  bnd (boxA 148 a0 H) fun v1 H => bnd (alc 148 [zI, zI, zI, zI, zB, zN] H) fun v2 H =>
  bo (fieldPtr v1 5) fun v3 => bnd (ld v3 H) fun v4 H => bnd (C 17 [v4] H) fun v5 H => bo (fieldPtr v1 5) fun v6 => bnd (st 1 v6 v5 H) fun _ H =>
  bnd (lda 6 v1 H) fun v7 H => bnd (st 6 v2 v7 H) fun _ H =>
  bnd (lda 6 v2 H) fun r0 _ => some (r0, H)
theorem rn_87 (C : Callee) (a0 : AV) (H : AHeap) {r : AV × AHeap} (h : sh_87 C a0 H = some r) : runF Tryz.prog C 87 [a0] H = some r :=
  runF_K (A := an_87) (c := cd_87) Tryz.func87 (by kernel_rfl) (by kernel_rfl) (by kernel_rfl) ((show _ = sh_87 C a0 H by kernel_rfl).trans h)
def an_88 : Ann := ⟨[], [], []⟩
noncomputable def cd_88 : Code := Tryz.f88.body.getD .skip
noncomputable def sh_88 (C : Callee) (a0 a1 : AV) (H : AHeap) : Option (AV × AHeap) :=
  bnd (alc 153 [zI, zI, zN] H) fun v4 H =>
  bo (nilCheckA a0) fun v10 => bo (fieldPtr v10 8) fun v11 => bnd (ld v11 H) fun v12 H => bnd (lk .i64 (.agg #[.int .i64 0, .int .i64 0, .slice none 0 0]) v12 a1 true H) fun v14 H => bo (extractA v14 0) fun v15 => bo (extractA v14 1) fun v16 => bnd (alc 153 [zI, zI, zN] H) fun v6 H => bnd (st 3 v6 v15 H) fun _ H =>
  bo (fieldPtr v6 2) fun v17 => bnd (ld v17 H) fun v18 H => bnd (C 17 [v18] H) fun v19 H => bo (fieldPtr v6 2) fun v20 => bnd (st 1 v20 v19 H) fun _ H =>
  bnd (lda 3 v6 H) fun v21 H => bnd (st 3 v4 v21 H) fun _ H =>
  bnd (lda 3 v4 H) fun r0 _ => some (.tup [r0, v16], H)
theorem rn_88 (C : Callee) (a0 a1 : AV) (H : AHeap) {r : AV × AHeap} (h : sh_88 C a0 a1 H = some r) : runF Tryz.prog C 88 [a0, a1] H = some r :=
  runF_K (A := an_88) (c := cd_88) Tryz.func88 (by kernel_rfl) (by kernel_rfl) (by kernel_rfl) ((show _ = sh_88 C a0 a1 H by kernel_rfl).trans h)
def an_89 : Ann := ⟨[], [], []⟩
noncomputable def cd_89 : Code := Tryz.f89.body.getD .skip
noncomputable def sh_89 (C : Callee) (a0 a1 : AV) (H : AHeap) : Option (AV × AHeap) :=
  bo (nilCheckA a0) fun v9 => bo (fieldPtr v9 0) fun v10 => bnd (ld v10 H) fun v11 H => bnd (lk .i64 (.int .i64 0) v11 a1 true H) fun v13 H => bo (extractA v13 0) fun v14 => bo (extractA v13 1) fun v15 =>
  condK v15
  (some (v14, H))
  (some ((I (-1)), H))
theorem rn_89 (C : Callee) (a0 a1 : AV) (H : AHeap) {r : AV × AHeap} (h : sh_89 C a0 a1 H = some r) : runF Tryz.prog C 89 [a0, a1] H = some r :=
  runF_K (A := an_89) (c := cd_89) Tryz.func89 (by kernel_rfl) (by kernel_rfl) (by kernel_rfl) ((show _ = sh_89 C a0 a1 H by kernel_rfl).trans h)
def an_90 : Ann := ⟨[], [], []⟩
noncomputable def cd_90 : Code := Tryz.f90.body.getD .skip
noncomputable def sh_90 (C : Callee) (a0 a1 : AV) (H : AHeap) : Option (AV × AHeap) :=
  bo (nilCheckA a0) fun v6 => bo (fieldPtr v6 1) fun v7 => bnd (ld v7 H) fun v8 H => bnd (lk .i64 (.slice none 0 0) v8 a1 false H) fun v10 H => bnd (lnS v10 H) fun v11 H =>
  some (v11, H)
theorem rn_90 (C : Callee) (a0 a1 : AV) (H : AHeap) {r : AV × AHeap} (h : sh_90 C a0 a1 H = some r) : runF Tryz.prog C 90 [a0, a1] H = some r :=
  runF_K (A := an_90) (c := cd_90) Tryz.func90 (by kernel_rfl) (by kernel_rfl) (by kernel_rfl) ((show _ = sh_90 C a0 a1 H by kernel_rfl).trans h)
def an_91 : Ann := ⟨[], [], []⟩
noncomputable def cd_91 : Code := Tryz.f91.body.getD .skip
noncomputable def sh_91 (C : Callee) (a0 : AV) (H : AHeap) : Option (AV × AHeap) :=
  bnd (boxA 26 a0 H) fun v1 H =>
  bo (fieldPtr v1 1) fun v3 => bnd (ld v3 H) fun v4 H => bo (fieldPtr v1 2) fun v5 => bnd (ld v5 H) fun v6 H => bo (bi .mul 3 v4 v6) fun v7 =>
  some (v7, H)
theorem rn_91 (C : Callee) (a0 : AV) (H : AHeap) {r : AV × AHeap} (h : sh_91 C a0 H = some r) : runF Tryz.prog C 91 [a0] H = some r :=
  runF_K (A := an_91) (c := cd_91) Tryz.func91 (by kernel_rfl) (by kernel_rfl) (by kernel_rfl) ((show _ = sh_91 C a0 H by kernel_rfl).trans h)
def an_92 : Ann := ⟨[], [], []⟩
noncomputable def cd_92 : Code := Tryz.f92.body.getD .skip
noncomputable def sh_92 (C : Callee) (a0 a1 : AV) (H : AHeap) : Option (AV × AHeap) :=
  bnd (boxA 26 a0 H) fun v2 H =>
  bo (fieldPtr v2 0) fun v6 => bnd (ld v6 H) fun v7 H => bnd (C 98 [a1, v7] H) fun v8 H =>
  some (v8, H)
theorem rn_92 (C : Callee) (a0 a1 : AV) (H : AHeap) {r : AV × AHeap} (h : sh_92 C a0 a1 H = some r) : runF Tryz.prog C 92 [a0, a1] H = some r :=
  runF_K (A := an_92) (c := cd_92) Tryz.func92 (by kernel_rfl) (by kernel_rfl) (by kernel_rfl) ((show _ = sh_92 C a0 a1 H by kernel_rfl).trans h)
def an_93 : Ann := ⟨[], [], []⟩
noncomputable def cd_93 : Code := Tryz.f93.body.getD .skip
noncomputable def sh_93 (C : Callee) (a0 a1 : AV) (H : AHeap) : Option (AV × AHeap) :=
  bnd (boxA 26 a0 H) fun v2 H =>
  bo (bi .lss 3 a1 (I 0)) fun v8 => gdA (some v8) false (liftO (some a1) H) H fun v10 H => gdA (some v8) false (liftO (fieldPtr v2 1) H) H fun v11 H => gdA (some v8) false (ld v11 H) H fun v12 H => gdA (some v8) false (liftO (bi .geq 3 v10 v12) H) H fun v13 H => bo (pickA v8 (B true) v13) fun v14 =>
  condK v14
  (some ((.s (Go.Value.slice none 0 0)), H))
  (bo (fieldPtr v2 2) fun v15 => bnd (ld v15 H) fun v16 H => bnd (mks 3 1 8 [zI] v16 v16 H) fun v17 H =>
   bo (fieldPtr v2 2) fun v19 => bnd (ld v19 H) fun v20 H => bo (bi .mul 3 a1 v20) fun v21 => bo (fieldPtr v2 7) fun v22 => bnd (ld v22 H) fun v23 H => bnd (lnS v23 H) fun v24 H => bnd (liftO (minMaxA Tryz.prog false #[3, 3] 3 [v21, v24]) H) fun v25 H =>
   bo (fieldPtr v2 7) fun v27 => bnd (ld v27 H) fun v28 H => bo (slS 1 v28 (some v25) none none) fun v30 => bnd (cpy 1 v17 v30 H) fun v31 H =>
   some (v17, H))
theorem rn_93 (C : Callee) (a0 a1 : AV) (H : AHeap) {r : AV × AHeap} (h : sh_93 C a0 a1 H = some r) : runF Tryz.prog C 93 [a0, a1] H = some r :=
  runF_K (A := an_93) (c := cd_93) Tryz.func93 (by kernel_rfl) (by kernel_rfl) (by kernel_rfl) ((show _ = sh_93 C a0 a1 H by kernel_rfl).trans h)
def an_94 : Ann := ⟨[(3, [0, 1, 2, 3, 8, 9])], [(17, [some false, some false, some false, some false, some false, some false, some false, some false, some false, some false, some false, some false, some false, some false, some false])], []⟩
noncomputable def cd_94 : Code := Tryz.f94.body.getD .skip
noncomputable def lp_94x0 (C : Callee) : List AV → AHeap → Option (AV × AHeap) := (loopsK Tryz.prog C an_94 134 cd_94 (retK Tryz.prog 134 Tryz.f94.results.toList) (fun _ _ _ => none) (retK Tryz.prog 134 Tryz.f94.results.toList)).getD 0 fun _ _ => none
noncomputable def jn_94x3 (C : Callee) (t0 t1 t2 t3 t8 t9 : AV) (H : AHeap) : Option (AV × AHeap) :=
  lp_94x0 C [t0, t1, t2, t3, t8, t9] H
noncomputable def jn_94x2 (C : Callee) (t0 t1 t2 t3 t8 t9 t10 t11 : AV) (H : AHeap) : Option (AV × AHeap) :=
  bo (bi .gtr 3 t1 (I 0)) fun v74 => gdA (some v74) true (liftO (some t0) H) H fun v76 H => gdA (some v74) true (liftO (some t1) H) H fun v77 H => gdA (some v74) true (liftO (bi .sub 3 v77 (I 1)) H) H fun v78 H => gdA (some v74) true (ix 1 v76 v78 H) H fun v79 H => gdA (some v74) true (ld v79 H) H fun v80 H => gdA (some v74) true (liftO (some t0) H) H fun v81 H => gdA (some v74) true (liftO (some t11) H) H fun v82 H => gdA (some v74) true (ix 1 v81 v82 H) H fun v83 H => gdA (some v74) true (ld v83 H) H fun v84 H => gdA (some v74) true (C 105 [v80, v84] H) H fun v85 H => gdA (some v74) true (liftO (un .not v85) H) H fun v86 H => bo (pickA v74 v86 (B false)) fun v87 =>
  condK v87
  (bnd (C 106 [t0, t1, t2, t11] H) fun v92 H =>
   jn_94x3 C t0 v92 t2 t3 t8 t9 H)
  (bnd (C 107 [t0, t1, t2, t11] H) fun v99 H => bo (extractA v99 0) fun v100 => bo (extractA v99 1) fun v101 =>
   bo (bi .sub 3 v100 t1) fun v105 => bo (bi .sub 3 t2 v100) fun v108 =>
   bo (bi .quo 3 t10 (I 8)) fun v110 =>
   bo (bi .lss 3 v105 v108) fun v113 =>
   condK v113
   (bo (bi .geq 3 v105 v110) fun v116 =>
    bnd (C 94 [t0, t1, v100, t3] H) fun v121 H =>
    bo (bi .add 3 v100 (I 1)) fun v123 =>
    jn_94x3 C t0 v123 t2 t3 v116 v101 H)
   (bo (bi .geq 3 v108 v110) fun v126 =>
    bo (bi .add 3 v100 (I 1)) fun v129 => bnd (C 94 [t0, v129, t2, t3] H) fun v132 H =>
    jn_94x3 C t0 t1 v100 t3 v126 v101 H))
noncomputable def jn_94x1 (C : Callee) (t0 t1 t2 t3 t8 t9 t10 t11 t12 : AV) (H : AHeap) : Option (AV × AHeap) :=
  gdA (some t8) true (liftO (some t9) H) H fun v63 H => bo (pickA t8 v63 (B false)) fun v64 => gdA (some v64) true (liftO (some t12) H) H fun v66 H => gdA (some v64) true (liftO (bi .eql 210 v66 (I 1)) H) H fun v67 H => bo (pickA v64 v67 (B false)) fun v68 =>
  condK v68
  (bnd (C 104 [t0, t1, t2] H) fun v72 H =>
   condK v72
   (some (.tup [], H))
   (jn_94x2 C t0 t1 t2 t3 t8 t9 t10 t11 H))
  (jn_94x2 C t0 t1 t2 t3 t8 t9 t10 t11 H)
noncomputable def jn_94x0 (C : Callee) (t0 t1 t2 t3 t8 t9 t10 : AV) (H : AHeap) : Option (AV × AHeap) :=
  bnd (C 102 [t0, t1, t2] H) fun v46 H => bo (extractA v46 0) fun v47 => bo (extractA v46 1) fun v48 =>
  bo (bi .eql 210 v48 (I 2)) fun v50 =>
  condK v50
  (bnd (C 103 [t0, t1, t2] H) fun v54 H =>
   bo (bi .sub 3 t2 (I 1)) fun v56 => bo (bi .sub 3 v47 t1) fun v59 => bo (bi .sub 3 v56 v59) fun v60 =>
   jn_94x1 C t0 t1 t2 t3 t8 t9 t10 v60 (I 1) H)
  (jn_94x1 C t0 t1 t2 t3 t8 t9 t10 v47 v48 H)
noncomputable def sh_94 (C : Callee) (a0 a1 a2 a3 : AV) (H : AHeap) : Option (AV × AHeap) :=
  lp_94x0 C [a0, a1, a2, a3, (B true), (B true)] H
theorem le_94x0 (C : Callee) (t0 t1 t2 t3 t8 t9 : AV) (H : AHeap) : lp_94x0 C [t0, t1, t2, t3, t8, t9] H =
  bo (bi .sub 3 t2 t1) fun v21 =>
  bo (bi .leq 3 v21 (I 12)) fun v23 =>
  condK v23
  (bnd (C 99 [t0, t1, t2] H) fun v27 H =>
   some (.tup [], H))
  (bo (bi .eql 3 t3 (I 0)) fun v29 =>
   condK v29
   (bnd (C 100 [t0, t1, t2] H) fun v33 H =>
    some (.tup [], H))
   (bo (un .not t8) fun v35 =>
    condK v35
    (bnd (C 101 [t0, t1, t2] H) fun v39 H =>
     bo (bi .sub 3 t3 (I 1)) fun v41 =>
     jn_94x0 C t0 t1 t2 v41 t8 t9 v21 H)
    (jn_94x0 C t0 t1 t2 t3 t8 t9 v21 H))) :=
  (congrFun (congrFun (congrArg (fun l => l.getD 0 fun _ _ => none) (loops_eq cd_94 (retK Tryz.prog 134 Tryz.f94.results.toList) (fun _ _ _ => none) (retK Tryz.prog 134 Tryz.f94.results.toList))) [t0, t1, t2, t3, t8, t9]) H).trans (by kernel_rfl)
theorem rn_94 (C : Callee) (a0 a1 a2 a3 : AV) (H : AHeap) {r : AV × AHeap} (h : sh_94 C a0 a1 a2 a3 H = some r) : runF Tryz.prog C 94 [a0, a1, a2, a3] H = some r :=
  runF_K (A := an_94) (c := cd_94) Tryz.func94 (by kernel_rfl) (by kernel_rfl) (by kernel_rfl) ((show _ = sh_94 C a0 a1 a2 a3 H by kernel_rfl).trans h)
def an_95 : Ann := ⟨[], [], []⟩
noncomputable def cd_95 : Code := Tryz.f95.body.getD .skip
noncomputable def sh_95 (C : Callee) (a0 : AV) (H : AHeap) : Option (AV × AHeap) :=
  condK (B false)
  (bnd (cv 204 217 a0 H) fun v4 H => bnd (C 108 [v4] H) fun v5 H =>
   some (v5, H))
  (bnd (C 109 [a0] H) fun v7 H =>
   some (v7, H))
theorem rn_95 (C : Callee) (a0 : AV) (H : AHeap) {r : AV × AHeap} (h : sh_95 C a0 H = some r) : runF Tryz.prog C 95 [a0] H = some r :=
  runF_K (A := an_95) (c := cd_95) Tryz.func95 (by kernel_rfl) (by kernel_rfl) (by kernel_rfl) ((show _ = sh_95 C a0 H by kernel_rfl).trans h)
def an_96 : Ann := ⟨[(3, [0, 1, 7, 8])], [], []⟩
noncomputable def cd_96 : Code := Tryz.f96.body.getD .skip
noncomputable def lp_96x0 (C : Callee) : List AV → AHeap → Option (AV × AHeap) := (loopsK Tryz.prog C an_96 19 cd_96 (retK Tryz.prog 19 Tryz.f96.results.toList) (fun _ _ _ => none) (retK Tryz.prog 19 Tryz.f96.results.toList)).getD 0 fun _ _ => none
noncomputable def sh_96 (C : Callee) (a0 a1 : AV) (H : AHeap) : Option (AV × AHeap) :=
  bnd (lnS a0 H) fun v7 H =>
  lp_96x0 C [a0, a1, v7, (I 0)] H
theorem le_96x0 (C : Callee) (t0 t1 t7 t8 : AV) (H : AHeap) : lp_96x0 C [t0, t1, t7, t8] H =
  bo (bi .lss 3 t8 t7) fun v9 =>
  condK v9
  (bnd (ix 6 t0 t8 H) fun v14 H => bnd (lda 6 v14 H) fun v15 H => bnd (callA Tryz.prog C t1 [v15] H) fun v16 H =>
   condK v16
   (some (t8, H))
   (bo (bi .add 3 t8 (I 1)) fun v18 =>
    lp_96x0 C [t0, t1, t7, v18] H))
  (some ((I (-1)), H)) :=
  (congrFun (congrFun (congrArg (fun l => l.getD 0 fun _ _ => none) (loops_eq cd_96 (retK Tryz.prog 19 Tryz.f96.results.toList) (fun _ _ _ => none) (retK Tryz.prog 19 Tryz.f96.results.toList))) [t0, t1, t7, t8]) H).trans (by kernel_rfl)
theorem rn_96 (C : Callee) (a0 a1 : AV) (H : AHeap) {r : AV × AHeap} (h : sh_96 C a0 a1 H = some r) : runF Tryz.prog C 96 [a0, a1] H = some r :=
  runF_K (A := an_96) (c := cd_96) Tryz.func96 (by kernel_rfl) (by kernel_rfl) (by kernel_rfl) ((show _ = sh_96 C a0 a1 H by kernel_rfl).trans h)
def an_97 : Ann := ⟨[], [], []⟩
noncomputable def cd_97 : Code := Tryz.f97.body.getD .skip
noncomputable def sh_97 (C : Callee) (a0 a1 : AV) (H : AHeap) : Option (AV × AHeap) :=
  bnd (boxA 148 a0 H) fun v2 H =>
  bo (fieldPtr v2 2) fun v4 => bnd (ld v4 H) fun v5 H => bnd (ld a1 H) fun v6 H => bo (bi .eql 3 v5 v6) fun v7 =>
  some (v7, H)
theorem rn_97 (C : Callee) (a0 a1 : AV) (H : AHeap) {r : AV × AHeap} (h : sh_97 C a0 a1 H = some r) : runF Tryz.prog C 97 [a0, a1] H = some r :=
  runF_K (A := an_97) (c := cd_97) Tryz.func97 (by kernel_rfl) (by kernel_rfl) (by kernel_rfl) ((show _ = sh_97 C a0 a1 H by kernel_rfl).trans h)
def an_98 : Ann := ⟨[], [], []⟩
noncomputable def cd_98 : Code := Tryz.f98.body.getD .skip
noncomputable def sh_98 (C : Callee) (a0 a1 : AV) (H : AHeap) : Option (AV × AHeap) :=
  bo (bi .lss 3 a0 (I 0)) fun v6 =>
  condK v6
  (some ((I (-1)), H))
  (bo (bi .rem 3 a0 a1) fun v9 =>
   some (v9, H))
theorem rn_98 (C : Callee) (a0 a1 : AV) (H : AHeap) {r : AV × AHeap} (h : sh_98 C a0 a1 H = some r) : runF Tryz.prog C 98 [a0, a1] H = some r :=
  runF_K (A := an_98) (c := cd_98) Tryz.func98 (by kernel_rfl) (by kernel_rfl) (by kernel_rfl) ((show _ = sh_98 C a0 a1 H by kernel_rfl).trans h)
def an_99 : Ann := ⟨[(2, [0, 1, 2, 6]), (5, [0, 1, 2, 6, 7])], [(4, [some false, some false, some false, some false, some false, some false, some false, some false, some false, some false, some false, some false, some false, some false, some false]), (6, [some false, some false, some false, some false, some false, some false, some false, some false, some false, some false, some false, some false, some false, some false, some false, some false, some false, some false])], []⟩
noncomputable def cd_99 : Code := Tryz.f99.body.getD .skip
noncomputable def lp_99x0 (C : Callee) : List AV → AHeap → Option (AV × AHeap) := (loopsK Tryz.prog C an_99 49 cd_99 (retK Tryz.prog 49 Tryz.f99.results.toList) (fun _ _ _ => none) (retK Tryz.prog 49 Tryz.f99.results.toList)).getD 0 fun _ _ => none
noncomputable def lp_99x1 (C : Callee) : List AV → AHeap → Option (AV × AHeap) := (loopsK Tryz.prog C an_99 49 cd_99 (retK Tryz.prog 49 Tryz.f99.results.toList) (fun _ _ _ => none) (retK Tryz.prog 49 Tryz.f99.results.toList)).getD 1 fun _ _ => none
noncomputable def sh_99 (C : Callee) (a0 a1 a2 : AV) (H : AHeap) : Option (AV × AHeap) :=
  bo (bi .add 3 a1 (I 1)) fun v9 =>
  lp_99x0 C [a0, a1, a2, v9] H
theorem le_99x0 (C : Callee) (t0 t1 t2 t6 : AV) (H : AHeap) : lp_99x0 C [t0, t1, t2, t6] H =
  bo (bi .lss 3 t6 t2) fun v12 =>
  condK v12
  (lp_99x1 C [t0, t1, t2, t6, t6] H)
  (some (.tup [], H)) :=
  (congrFun (congrFun (congrArg (fun l => l.getD 0 fun _ _ => none) (loops_eq cd_99 (retK Tryz.prog 49 Tryz.f99.results.toList) (fun _ _ _ => none) (retK Tryz.prog 49 Tryz.f99.results.toList))) [t0, t1, t2, t6]) H).trans (by kernel_rfl)
theorem le_99x1 (C : Callee) (t0 t1 t2 t6 t7 : AV) (H : AHeap) : lp_99x1 C [t0, t1, t2, t6, t7] H =
  bo (bi .gtr 3 t7 t1) fun v18 => gdA (some v18) true (liftO (some t0) H) H fun v20 H => gdA (some v18) true (liftO (some t7) H) H fun v21 H => gdA (some v18) true (ix 1 v20 v21 H) H fun v22 H => gdA (some v18) true (ld v22 H) H fun v23 H => gdA (some v18) true (liftO (some t0) H) H fun v24 H => gdA (some v18) true (liftO (some t7) H) H fun v25 H => gdA (some v18) true (liftO (bi .sub 3 v25 (I 1)) H) H fun v26 H => gdA (some v18) true (ix 1 v24 v26 H) H fun v27 H => gdA (some v18) true (ld v27 H) H fun v28 H => gdA (some v18) true (C 105 [v23, v28] H) H fun v29 H => bo (pickA v18 v29 (B false)) fun v30 =>
  condK v30
  (bo (bi .sub 3 t7 (I 1)) fun v37 => bo (bi .sub 3 t7 (I 1)) fun v40 => bnd (ix 1 t0 v40 H) fun v41 H => bnd (ld v41 H) fun v42 H => bnd (ix 1 t0 t7 H) fun v45 H => bnd (ld v45 H) fun v46 H => bnd (ix 1 t0 t7 H) fun v47 H => bnd (st 1 v47 v42 H) fun _ H => bnd (ix 1 t0 v37 H) fun v48 H => bnd (st 1 v48 v46 H) fun _ H =>
   bo (bi .sub 3 t7 (I 1)) fun v32 =>
   lp_99x1 C [t0, t1, t2, t6, v32] H)
  (bo (bi .add 3 t6 (I 1)) fun v14 =>
   lp_99x0 C [t0, t1, t2, v14] H) :=
  (congrFun (congrFun (congrArg (fun l => l.getD 1 fun _ _ => none) (loops_eq cd_99 (retK Tryz.prog 49 Tryz.f99.results.toList) (fun _ _ _ => none) (retK Tryz.prog 49 Tryz.f99.results.toList))) [t0, t1, t2, t6, t7]) H).trans (by kernel_rfl)
theorem rn_99 (C : Callee) (a0 a1 a2 : AV) (H : AHeap) {r : AV × AHeap} (h : sh_99 C a0 a1 a2 H = some r) : runF Tryz.prog C 99 [a0, a1, a2] H = some r :=
  runF_K (A := an_99) (c := cd_99) Tryz.func99 (by kernel_rfl) (by kernel_rfl) (by kernel_rfl) ((show _ = sh_99 C a0 a1 a2 H by kernel_rfl).trans h)
def an_105 : Ann := ⟨[], [], []⟩
noncomputable def cd_105 : Code := Tryz.f105.body.getD .skip
noncomputable def sh_105 (C : Callee) (a0 a1 : AV) (H : AHeap) : Option (AV × AHeap) :=
  bnd (C 115 [a0] H) fun v6 H => gdA (some v6) true (liftO (some a1) H) H fun v8 H => gdA (some v6) true (C 115 [v8] H) H fun v9 H => gdA (some v6) true (liftO (un .not v9) H) H fun v10 H => bo (pickA v6 v10 (B false)) fun v11 => gdA (some v11) false (liftO (some a0) H) H fun v13 H => gdA (some v11) false (liftO (some a1) H) H fun v14 H => gdA (some v11) false (liftO (bi .lss 3 v13 v14) H) H fun v15 H => bo (pickA v11 (B true) v15) fun v16 =>
  some (v16, H)
theorem rn_105 (C : Callee) (a0 a1 : AV) (H : AHeap) {r : AV × AHeap} (h : sh_105 C a0 a1 H = some r) : runF Tryz.prog C 105 [a0, a1] H = some r :=
  runF_K (A := an_105) (c := cd_105) Tryz.func105 (by kernel_rfl) (by kernel_rfl) (by kernel_rfl) ((show _ = sh_105 C a0 a1 H by kernel_rfl).trans h)
def an_109 : Ann := ⟨[], [], []⟩
noncomputable def cd_109 : Code := Tryz.f109.body.getD .skip
noncomputable def jn_109x2 (C : Callee) (t0 t2 : AV) (H : AHeap) : Option (AV × AHeap) :=
  bnd (cv 219 5 t0 H) fun v21 H => bo (ixT (.s (Go.Value.string { data := (([0, 1, 2, 2, 3, 3, 3, 3, 4, 4, 4, 4, 4, 4, 4, 4, 5, 5, 5, 5, 5, 5, 5, 5, 5, 5, 5, 5, 5, 5, 5, 5, 6, 6, 6, 6, 6, 6, 6, 6, 6, 6, 6, 6, 6, 6, 6, 6, 6, 6, 6, 6, 6, 6, 6, 6, 6, 6, 6, 6, 6, 6, 6, 6].append [7, 7, 7, 7, 7, 7, 7, 7, 7, 7, 7, 7, 7, 7, 7, 7, 7, 7, 7, 7, 7, 7, 7, 7, 7, 7, 7, 7, 7, 7, 7, 7, 7, 7, 7, 7, 7, 7, 7, 7, 7, 7, 7, 7, 7, 7, 7, 7, 7, 7, 7, 7, 7, 7, 7, 7, 7, 7, 7, 7, 7, 7, 7, 7]).append ([8, 8, 8, 8, 8, 8, 8, 8, 8, 8, 8, 8, 8, 8, 8, 8, 8, 8, 8, 8, 8, 8, 8, 8, 8, 8, 8, 8, 8, 8, 8, 8, 8, 8, 8, 8, 8, 8, 8, 8, 8, 8, 8, 8, 8, 8, 8, 8, 8, 8, 8, 8, 8, 8, 8, 8, 8, 8, 8, 8, 8, 8, 8, 8].append [8, 8, 8, 8, 8, 8, 8, 8, 8, 8, 8, 8, 8, 8, 8, 8, 8, 8, 8, 8, 8, 8, 8, 8, 8, 8, 8, 8, 8, 8, 8, 8, 8, 8, 8, 8, 8, 8, 8, 8, 8, 8, 8, 8, 8, 8, 8, 8, 8, 8, 8, 8, 8, 8, 8, 8, 8, 8, 8, 8, 8, 8, 8, 8])).toArray })) v21) fun v22 => bnd (cv 5 3 v22 H) fun v23 H => bo (bi .add 3 t2 v23) fun v24 =>
  some (v24, H)
noncomputable def jn_109x1 (C : Callee) (t0 t2 : AV) (H : AHeap) : Option (AV × AHeap) :=
  bo (bi .geq 219 t0 (.s (Go.Value.int Go.IntKind.u64 256))) fun v14 =>
  condK v14
  (bo (bi .shr 219 t0 (.s (Go.Value.int Go.IntKind.u64 8))) fun v16 =>
   bo (bi .add 3 t2 (I 8)) fun v18 =>
   jn_109x2 C v16 v18 H)
  (jn_109x2 C t0 t2 H)
noncomputable def jn_109x0 (C : Callee) (t0 t2 : AV) (H : AHeap) : Option (AV × AHeap) :=
  bo (bi .geq 219 t0 (.s (Go.Value.int Go.IntKind.u64 65536))) fun v8 =>
  condK v8
  (bo (bi .shr 219 t0 (.s (Go.Value.int Go.IntKind.u64 16))) fun v10 =>
   bo (bi .add 3 t2 (I 16)) fun v12 =>
   jn_109x1 C v10 v12 H)
  (jn_109x1 C t0 t2 H)
noncomputable def sh_109 (C : Callee) (a0 : AV) (H : AHeap) : Option (AV × AHeap) :=
  bo (bi .geq 219 a0 (.s (Go.Value.int Go.IntKind.u64 4294967296))) fun v4 =>
  condK v4
  (bo (bi .shr 219 a0 (.s (Go.Value.int Go.IntKind.u64 32))) fun v6 =>
   jn_109x0 C v6 (I 32) H)
  (jn_109x0 C a0 (I 0) H)
theorem rn_109 (C : Callee) (a0 : AV) (H : AHeap) {r : AV × AHeap} (h : sh_109 C a0 H = some r) : runF Tryz.prog C 109 [a0] H = some r :=
  runF_K (A := an_109) (c := cd_109) Tryz.func109 (by kernel_rfl) (by kernel_rfl) (by kernel_rfl) ((show _ = sh_109 C a0 H by kernel_rfl).trans h)
def an_115 : Ann := ⟨[], [], []⟩
noncomputable def cd_115 : Code := Tryz.f115.body.getD .skip
noncomputable def sh_115 (C : Callee) (a0 : AV) (H : AHeap) : Option (AV × AHeap) :=
  bo (bi .neq 3 a0 a0) fun v5 =>
  some (v5, H)
theorem rn_115 (C : Callee) (a0 : AV) (H : AHeap) {r : AV × AHeap} (h : sh_115 C a0 H = some r) : runF Tryz.prog C 115 [a0] H = some r :=
  runF_K (A := an_115) (c := cd_115) Tryz.func115 (by kernel_rfl) (by kernel_rfl) (by kernel_rfl) ((show _ = sh_115 C a0 H by kernel_rfl).trans h)

end Go.Proofs.YtlcdejlbmnjlaaaGreat

namespace Go.Proofs.YtlcdejlbmnjlaaaGreat



end Go.Proofs.YtlcdejlbmnjlaaaGreat

namespace Go.Proofs.YtlcdejlbmnjlaaaGreat

def boxO (l : List Pkt) (room : Int) : List Cell := [.seq 9 (l.flatMap Pkt.av), .av (I room)]
theorem ints_all (l : List Int) : (l.map I).all AV.isCell = true := by
  rw [List.all_eq_true]
  intro x hx
  obtain ⟨z, _, rfl⟩ := List.mem_map.1 hx
  rfl
theorem frz_ints (l : List Int) {d : Nat} : ∀ x ∈ l.map I, Frz (d + 1) x := fun x hx => by
  obtain ⟨z, _, rfl⟩ := List.mem_map.1 hx
  exact frz_s
theorem dat_eq {l : List Int} (h : l ≠ []) : dat l = .vs l.length 1 (l.map I) := by
  rw [dat, vsl_cons h, flat_encI]
theorem cloneInts (H : AHeap) (l : List Int) (hl : l.length < 1000000000) : cl 17 [dat l] H = some (dat l, H) := by
  by_cases h : l = []
  · subst h
    refine pure_cl rfl rfl (rn_17 _ _ _ (r := (zN, H.guard)) ?_) freeze_s
    have e : bi .eql 22 zN zN = some (B true) := by kernel_rfl
    simp -implicitDefEqProofs only [bnd_some, bo_some, condK_true, condK_false, gdA_undef, decide_true, decide_false, Int.reduceLE, Int.reduceLT, Int.reduceEq, Int.reduceNeg, Int.reduceAdd, gd_tt, gd_tf, gd_ft, gd_ff, unG_pure, lift_some, bnd_lift, Option.map_some, Option.bind_some, fieldPtr_ref, fieldPtr_ip, nil_ref, nil_ip, nil_fn, ex_tup, fl_agg, List.getElem?_cons_zero, List.getElem?_cons_succ, Nat.zero_add, Nat.add_zero, Nat.reduceAdd, pk_t, pk_f, lss_int, leq_int, gtr_int, geq_int, eql_int, neq_int, not_bool, beq_self_eq_true, if_true, Bool.false_eq_true, if_false, List.nil_append, List.cons_append, List.append_nil, alc_eq, mkm_eq, nNew, nPut, bNew, bPut, nGrd, bGrd, sh_17, dat, vsl_nil, e]
  · have h0 : l.length ≠ 0 := fun e => h (List.eq_nil_of_length_eq_zero e)
    have e2 := app_empty (e := 3) (by_ := 8) (r := H.guard.next) (H := H.guard.new (.blk 0 3 [])) getNew_eq (dat_is _ l) (ints_all l) h0 (by unfold most; omega) (by unfold most; omega)
    simp only [nGrd, nNew] at e2
    refine pure_cl rfl rfl (rn_17 _ _ _ (r := (.sl (H.next + 1) 0 0 1 l.length l.length false, (H.guard.new (.blk 0 3 [])).new (.blk 0 3 (l.map I)))) ?_) ?_
    · have e1 : bi .eql 22 (dat l) zN = some (B false) := by rw [dat_eq h]; exact eql_nil_vs Tryz.underlying22
      simp -implicitDefEqProofs only [bnd_some, bo_some, condK_true, condK_false, gdA_undef, decide_true, decide_false, Int.reduceLE, Int.reduceLT, Int.reduceEq, Int.reduceNeg, Int.reduceAdd, gd_tt, gd_tf, gd_ft, gd_ff, unG_pure, lift_some, bnd_lift, Option.map_some, Option.bind_some, fieldPtr_ref, fieldPtr_ip, nil_ref, nil_ip, nil_fn, ex_tup, fl_agg, List.getElem?_cons_zero, List.getElem?_cons_succ, Nat.zero_add, Nat.add_zero, Nat.reduceAdd, pk_t, pk_f, lss_int, leq_int, gtr_int, geq_int, eql_int, neq_int, not_bool, beq_self_eq_true, if_true, Bool.false_eq_true, if_false, List.nil_append, List.cons_append, List.append_nil, alc_eq, mkm_eq, nNew, nPut, bNew, bPut, nGrd, bGrd, sh_17, e1, bs_22, bsl_nil, e2, Nat.zero_mul, Nat.zero_le]
    · rw [dat_eq h]
      refine freeze_sl (by omega) (cells := l.map I) ?_ (freeze_all _ fun x hx => frz_ints l x hx _ _)
      simp only [sliceCells, get_new, nNew, nGrd, if_true]
      rw [if_pos (by simp), List.drop_zero, List.take_of_length_le (by simp)]
theorem frz_pkt (p : Pkt) : Frz 9 (.agg p.av) := frz_agg fun x hx => by
  simp only [Pkt.av, List.mem_cons, List.not_mem_nil, or_false] at hx
  rcases hx with rfl | rfl | rfl | rfl | rfl | rfl | rfl | rfl | rfl <;> first | exact frz_s | exact frz_dat
/-- own: a packet in new memory is the same packet. -/
theorem poolOwn (H : AHeap) (p : Pkt) (hl : p.data.length < 1000000000) : cl 84 [.agg p.av] H = some (.agg p.av, H) := by
  have e1 := fun H => cloneInts H p.data hl
  refine pure_val rfl rfl (rn_84 _ _ _) ?_ (frz_pkt p)
  simp -implicitDefEqProofs only [bnd_some, bo_some, condK_true, condK_false, gdA_undef, decide_true, decide_false, Int.reduceLE, Int.reduceLT, Int.reduceEq, Int.reduceNeg, Int.reduceAdd, gd_tt, gd_tf, gd_ft, gd_ff, unG_pure, lift_some, bnd_lift, Option.map_some, Option.bind_some, fieldPtr_ref, fieldPtr_ip, nil_ref, nil_ip, nil_fn, ex_tup, fl_agg, List.getElem?_cons_zero, List.getElem?_cons_succ, Nat.zero_add, Nat.add_zero, Nat.reduceAdd, pk_t, pk_f, lss_int, leq_int, gtr_int, geq_int, eql_int, neq_int, not_bool, beq_self_eq_true, if_true, Bool.false_eq_true, if_false, List.nil_append, List.cons_append, List.append_nil, alc_eq, mkm_eq, nNew, nPut, bNew, bPut, nGrd, bGrd, ldN_is, ldN_lt, ldaN_is, ldaN_lt, stN_is, stN_lt, Nat.lt_add_one, ne_eq, nx1, nx2, nx3, ny1, ny2, ny3, not_false_eq_true, List.length_cons, List.length_nil, Nat.reduceLeDiff, setAt, List.take_succ_cons, List.take_zero, List.drop_succ_cons, List.drop_zero, cells_dat, cells_int, cells_bool, cells_agg, List.all_cons, List.all_nil, isCell_int, isCell_bool, isCell_dat, isCell_ref, isCell_nil, isCell_vsl, cells_vsl, av_len_cfg, av_len_pkt, av_len_opn, av_len_evn, av_len_ent, av_len_row, av_len_deal, av_len_pck, tk_cfg, tk_pkt, tk_opn, tk_evn, tk_ent, tk_row, tk_deal, tk_pck, all_cfg, all_pkt, all_opn, all_evn, all_ent, all_row, all_deal, all_pck, List.drop_nil, Bool.and_true, Bool.and_self, and_self, Nat.le_refl, true_and, and_true, Nat.le_add_right, leS, ltS, sh_84, box_agg, Pkt.av, e1]
section
variable {b : Nat} {H : AHeap} {g : Store} {q : Nat} {l : List Pkt} {room : Int}
theorem lda_elem {α : Type} {enc : α → List AV} {m : Nat} (he : ∀ a, (enc a).length = m) {L : List α} {x : AV} (hs : SliceIs H x m L.length (L.flatMap enc)) {i : Nat} {a : α} (hi : L[i]? = some a) : lda m (elemPtr x i) H = some (.agg (enc a), H) := by
  have hl : i < L.length := (List.getElem?_eq_some_iff.1 hi).1
  rw [hs.lda hl, flat_get he L i a hi]
def optPkt (o : Option Pkt) : AV := .tup [.agg (o.getD .zero).av, B o.isSome]
theorem zero_pkt : Pkt.zero.av = [zI, zI, zI, zI, zI, zI, zI, zB, zN] := by simp [Pkt.zero, Pkt.av, dat, vsl_nil]
theorem frz_optPkt (o : Option Pkt) : Frz 9 (optPkt o) := frz_tup fun x hx => by
  simp only [List.mem_cons, List.not_mem_nil, or_false] at hx
  rcases hx with rfl | rfl
  · refine frz_agg fun x hx => ?_
    simp only [Pkt.av, List.mem_cons, List.not_mem_nil, or_false] at hx
    rcases hx with rfl | rfl | rfl | rfl | rfl | rfl | rfl | rfl | rfl <;> first | exact frz_s | exact frz_dat
  · exact frz_s
theorem poolGet (G : Good b H g) (h : g q = some (boxO l room)) (h3 : l.length < 1000) (hd : ∀ p ∈ l, p.data.length < 1000000000) (at_ : Int) :
    cl 61 [.ref q 0 0, I at_] H = some (optPkt (if at_ < 0 then none else l[at_.toNat]?), H) := by
  refine pure_val rfl rfl (rn_61 _ _ _ _) ?_ (frz_optPkt _)
  have G1 := G.guard.new (.blk 0 78 [zI, zI, zI, zI, zI, zI, zI, zB, zN])
  obtain ⟨x, hx, c⟩ := G1.seq h (i := 0) rfl
  have hs := c.is (by decide) (flat_len av_len_pkt l)
  have e2 := hs.lnS
  by_cases h0 : at_ < 0
  · simp -implicitDefEqProofs only [bnd_some, bo_some, condK_true, condK_false, gdA_undef, decide_true, decide_false, Int.reduceLE, Int.reduceLT, Int.reduceEq, Int.reduceNeg, Int.reduceAdd, gd_tt, gd_tf, gd_ft, gd_ff, unG_pure, lift_some, bnd_lift, Option.map_some, Option.bind_some, fieldPtr_ref, fieldPtr_ip, nil_ref, nil_ip, nil_fn, ex_tup, fl_agg, List.getElem?_cons_zero, List.getElem?_cons_succ, Nat.zero_add, Nat.add_zero, Nat.reduceAdd, pk_t, pk_f, lss_int, leq_int, gtr_int, geq_int, eql_int, neq_int, not_bool, beq_self_eq_true, if_true, Bool.false_eq_true, if_false, List.nil_append, List.cons_append, List.append_nil, alc_eq, mkm_eq, nNew, nPut, bNew, bPut, nGrd, bGrd, ldN_is, ldN_lt, ldaN_is, ldaN_lt, stN_is, stN_lt, Nat.lt_add_one, ne_eq, nx1, nx2, nx3, ny1, ny2, ny3, not_false_eq_true, List.length_cons, List.length_nil, Nat.reduceLeDiff, setAt, List.take_succ_cons, List.take_zero, List.drop_succ_cons, List.drop_zero, cells_dat, cells_int, cells_bool, cells_agg, List.all_cons, List.all_nil, isCell_int, isCell_bool, isCell_dat, isCell_ref, isCell_nil, isCell_vsl, cells_vsl, av_len_cfg, av_len_pkt, av_len_opn, av_len_evn, av_len_ent, av_len_row, av_len_deal, av_len_pck, tk_cfg, tk_pkt, tk_opn, tk_evn, tk_ent, tk_row, tk_deal, tk_pck, all_cfg, all_pkt, all_opn, all_evn, all_ent, all_row, all_deal, all_pck, List.drop_nil, Bool.and_true, Bool.and_self, and_self, Nat.le_refl, true_and, and_true, Nat.le_add_right, leS, ltS, sh_61, hx, h0, decide_true, bd_78, bldA, fillA_nil, optPkt, zero_pkt, Option.getD_none, Option.isSome_none, reduceIte]
  · by_cases h1 : at_ < l.length
    · have e3 := hs.ix (k := .i64) (i := at_) (by omega) h1
      obtain ⟨p, hp⟩ : ∃ p, l[at_.toNat]? = some p := ⟨_, List.getElem?_eq_getElem (by omega)⟩
      have e4 := lda_elem av_len_pkt hs hp
      have e5 := fun H => poolOwn H p (hd p (List.mem_of_getElem? hp))
      have h1' : ¬ (l.length : Int) ≤ at_ := by omega
      simp -implicitDefEqProofs only [bnd_some, bo_some, condK_true, condK_false, gdA_undef, decide_true, decide_false, Int.reduceLE, Int.reduceLT, Int.reduceEq, Int.reduceNeg, Int.reduceAdd, gd_tt, gd_tf, gd_ft, gd_ff, unG_pure, lift_some, bnd_lift, Option.map_some, Option.bind_some, fieldPtr_ref, fieldPtr_ip, nil_ref, nil_ip, nil_fn, ex_tup, fl_agg, List.getElem?_cons_zero, List.getElem?_cons_succ, Nat.zero_add, Nat.add_zero, Nat.reduceAdd, pk_t, pk_f, lss_int, leq_int, gtr_int, geq_int, eql_int, neq_int, not_bool, beq_self_eq_true, if_true, Bool.false_eq_true, if_false, List.nil_append, List.cons_append, List.append_nil, alc_eq, mkm_eq, nNew, nPut, bNew, bPut, nGrd, bGrd, ldN_is, ldN_lt, ldaN_is, ldaN_lt, stN_is, stN_lt, Nat.lt_add_one, ne_eq, nx1, nx2, nx3, ny1, ny2, ny3, not_false_eq_true, List.length_cons, List.length_nil, Nat.reduceLeDiff, setAt, List.take_succ_cons, List.take_zero, List.drop_succ_cons, List.drop_zero, cells_dat, cells_int, cells_bool, cells_agg, List.all_cons, List.all_nil, isCell_int, isCell_bool, isCell_dat, isCell_ref, isCell_nil, isCell_vsl, cells_vsl, av_len_cfg, av_len_pkt, av_len_opn, av_len_evn, av_len_ent, av_len_row, av_len_deal, av_len_pck, tk_cfg, tk_pkt, tk_opn, tk_evn, tk_ent, tk_row, tk_deal, tk_pck, all_cfg, all_pkt, all_opn, all_evn, all_ent, all_row, all_deal, all_pck, List.drop_nil, Bool.and_true, Bool.and_self, and_self, Nat.le_refl, true_and, and_true, Nat.le_add_right, leS, ltS, sh_61, hx, h0, h1', e2, e3, e4, e5, hp, decide_false, decide_true, optPkt, zero_pkt, Option.getD_some, Option.isSome_some, reduceIte]
    · have hp : l[at_.toNat]? = none := List.getElem?_eq_none (by omega)
      have h1' : (l.length : Int) ≤ at_ := by omega
      simp -implicitDefEqProofs only [bnd_some, bo_some, condK_true, condK_false, gdA_undef, decide_true, decide_false, Int.reduceLE, Int.reduceLT, Int.reduceEq, Int.reduceNeg, Int.reduceAdd, gd_tt, gd_tf, gd_ft, gd_ff, unG_pure, lift_some, bnd_lift, Option.map_some, Option.bind_some, fieldPtr_ref, fieldPtr_ip, nil_ref, nil_ip, nil_fn, ex_tup, fl_agg, List.getElem?_cons_zero, List.getElem?_cons_succ, Nat.zero_add, Nat.add_zero, Nat.reduceAdd, pk_t, pk_f, lss_int, leq_int, gtr_int, geq_int, eql_int, neq_int, not_bool, beq_self_eq_true, if_true, Bool.false_eq_true, if_false, List.nil_append, List.cons_append, List.append_nil, alc_eq, mkm_eq, nNew, nPut, bNew, bPut, nGrd, bGrd, ldN_is, ldN_lt, ldaN_is, ldaN_lt, stN_is, stN_lt, Nat.lt_add_one, ne_eq, nx1, nx2, nx3, ny1, ny2, ny3, not_false_eq_true, List.length_cons, List.length_nil, Nat.reduceLeDiff, setAt, List.take_succ_cons, List.take_zero, List.drop_succ_cons, List.drop_zero, cells_dat, cells_int, cells_bool, cells_agg, List.all_cons, List.all_nil, isCell_int, isCell_bool, isCell_dat, isCell_ref, isCell_nil, isCell_vsl, cells_vsl, av_len_cfg, av_len_pkt, av_len_opn, av_len_evn, av_len_ent, av_len_row, av_len_deal, av_len_pck, tk_cfg, tk_pkt, tk_opn, tk_evn, tk_ent, tk_row, tk_deal, tk_pck, all_cfg, all_pkt, all_opn, all_evn, all_ent, all_row, all_deal, all_pck, List.drop_nil, Bool.and_true, Bool.and_self, and_self, Nat.le_refl, true_and, and_true, Nat.le_add_right, leS, ltS, sh_61, hx, h0, h1', e2, hp, decide_false, decide_true, bd_78, bldA, fillA_nil, optPkt, zero_pkt, Option.getD_none, Option.isSome_none, reduceIte]
end

end Go.Proofs.YtlcdejlbmnjlaaaGreat

namespace Go.Proofs.YtlcdejlbmnjlaaaGreat

abbrev nil0 : Store := fun _ => none
/-- Two stores, one above the other. -/
def cup (n : Nat) (g g' : Store) : Store := fun q => if q < n then g q else g' q
/-- The memory goes on; what was there stays; there are these new objects. -/
structure Made (H H' : AHeap) (g' : Store) : Prop where
  next : H.next ≤ H'.next
  base : H'.base = H.base
  same : ∀ r, r < H.next → H'.get r = H.get r
  good : Good H.next H' g'
section
variable {b : Nat} {H H' H'' : AHeap} {g g' : Store} {q : Nat} {cs : List Cell}
theorem Good.merge (G : Good b H g) (M : Made H H' g') : Good b H' (cup H.next g g') := by
  obtain ⟨h0, τ, h1⟩ := G
  obtain ⟨k0, τ', k1⟩ := M.good
  have n1 := M.next
  refine ⟨by omega, fun r => if r < H.next then τ r else τ' r, fun q cs hq => ?_⟩
  unfold cup at hq
  split at hq
  · rename_i hl
    exact (h1 q cs hq).keep n1 fun r i s t hr ht => ⟨by rw [if_pos hr]; exact ht, M.same r hr⟩
  · rename_i hl
    have R := k1 q cs hq
    -- all its blocks are new
    have key : ∀ {T : Tag} {x : AV} {m : Nat} {cells : List AV}, OS H.next H' τ' T x m cells → OS b H' (fun r => if r < H.next then τ r else τ' r) T x m cells := by
      intro T x m cells ho
      rcases ho with ho | ⟨r, gg, off, n, cap, ex, ty, all, e, t1, t2, t3, t4⟩
      · exact .inl ho
      · exact .inr ⟨r, gg, off, n, cap, ex, ty, all, e, by simp only; rw [if_neg (by omega)]; exact t1, by omega, t3, t4⟩
    have keyM : ∀ {T : Tag} {x : AV} {k : IntKind} {es : List (Int × AV)}, OM H.next H' τ' T x k es → OM b H' (fun r => if r < H.next then τ r else τ' r) T x k es := by
      intro T x k es ⟨r, e, t1, t2, t3, t4⟩
      exact ⟨r, e, by simp only; rw [if_neg (by omega)]; exact t1, by omega, t3, t4⟩
    obtain ⟨ty, xs, b1, b2, b3, b4⟩ := R.blk
    have lo := R.lo
    refine ⟨by rw [if_neg hl]; exact R.tag, by omega, R.hi, ty, xs, b1, b2, b3, fun i c x hc hx => ?_⟩
    have := b4 i c x hc hx
    cases c with
    | av _ => exact this
    | seq _ _ => exact key this
    | map _ _ => exact keyM this
    | maps _ _ _ =>
      obtain ⟨aes, a1, a2, a3⟩ := this
      exact ⟨aes, keyM a1, a2, fun j n cells x hj hx => key (a3 j n cells x hj hx)⟩
    | seqs _ _ _ =>
      obtain ⟨ys, a1, a2, a3⟩ := this
      exact ⟨ys, key a1, a2, fun j cells x hj hx => key (a3 j cells x hj hx)⟩
theorem Good.cupUpd (G : Good b H g) (hq : H.next ≤ q) : cup H.next g (upd nil0 q cs) = upd g q cs := by
  funext x
  unfold cup upd
  split
  · rw [if_neg (by omega)]
  · split
    · rfl
    · exact (G.isNone (by omega)).symm
theorem Made.lt (M : Made H H' g') (h : g' q = some cs) : H.next ≤ q ∧ q < H'.next := ⟨M.good.le h, M.good.lt h⟩
theorem Made.refl (h : H.base ≤ H.next) : Made H H nil0 := ⟨Nat.le_refl _, rfl, fun _ _ => rfl, Good.empty H⟩
theorem Made.trans (M : Made H H' g) (M' : Made H' H'' g') : Made H H'' (cup H'.next g g') :=
  ⟨Nat.le_trans M.next M'.next, M'.base.trans M.base, fun r hr => by rw [M'.same r (Nat.lt_of_lt_of_le hr M.next), M.same r hr], M.good.merge M'⟩
theorem Made.new (M : Made H H' g) (o : AObj) : Made H (H'.new o) g :=
  ⟨by rw [nNew]; have := M.next; omega, by rw [bNew]; exact M.base, fun r hr => by rw [getNew_lt (Nat.lt_of_lt_of_le hr M.next), M.same r hr], M.good.new o⟩
/-- New blocks ahead of a call count for nothing. -/
theorem Made.of_new {o : AObj} (M : Made (H.new o) H' g) : Made H H' g :=
  ⟨by have := M.next; rw [nNew] at this; omega, by rw [M.base, bNew], fun r hr => by rw [M.same r (by rw [nNew]; omega), getNew_lt hr], M.good.weak (by rw [nNew]; omega)⟩
theorem Made.of_guard (M : Made H.guard H' g) : Made H { H' with base := H.base } g :=
  ⟨M.next, rfl, M.same, M.good.ext (Nat.le_refl _) fun _ _ => rfl⟩
/-- What a call does with what is new. -/
theorem Made.step (M : Made H H' g) (G : Good H.next H'' g') (s : Step H.next H' H'') : Made H H'' g' :=
  ⟨Nat.le_trans M.next s.next, s.base.trans M.base, fun r hr => by rw [s.low r hr, M.same r hr], G⟩
/-- The store may be looked at otherwise. -/
theorem Made.as (M : Made H H' g) (h : g' = g) : Made H H' g' := h ▸ M
/-- One object, of values and nil slices. -/
theorem made_box {ty : TypeId} {xs : List AV} {cs : List Cell} (hc : xs.all AV.isCell = true) (hl : xs.length = cs.length) (h : ∀ (i : Nat) (c : Cell) (x : AV), cs[i]? = some c → xs[i]? = some x → c = .av x ∨ (x = zN ∧ ∃ m, c = .seq m [])) :
    Made H (H.new (.blk 0 ty xs)) (upd nil0 H.next cs) := by
  refine ⟨Nat.le_succ _, rfl, fun r hr => getNew_lt hr, by rw [nNew]; omega, fun r => if r = H.next then some (r, 0, 0, 0) else none, fun q cs' hq => ?_⟩
  unfold upd at hq
  split at hq
  · rename_i e
    subst e
    cases hq
    refine ⟨by simp, Nat.le_refl _, by rw [nNew]; omega, ty, xs, by simp [get_new], hl, hc, fun i c x hci hx => ?_⟩
    rcases h i c x hci hx with rfl | ⟨rfl, m, rfl⟩
    · exact rfl
    · exact .inl ⟨rfl, rfl⟩
  · cases hq
/-- One object with maps of its own. -/
theorem made_maps {n : Nat} {ty : TypeId} {xs : List AV} {cs : List Cell} (hn : H.next ≤ n) (hm : H'.next = n) (hb : H'.base = H.base) (hs : ∀ r, r < H.next → H'.get r = H.get r) (hc : xs.all AV.isCell = true) (hl : xs.length = cs.length) (own : Nat → Option Nat)
    (h : ∀ (i : Nat) (c : Cell) (x : AV), cs[i]? = some c → xs[i]? = some x → c = .av x ∨ (x = zN ∧ ∃ m, c = .seq m []) ∨ ∃ r k, x = .mp r ∧ H.next ≤ r ∧ r < n ∧ own r = some i ∧ H'.get r = .map k [] ∧ (c = .map k [] ∨ ∃ m, c = .maps k m [])) :
    Made H (H'.new (.blk 0 ty xs)) (upd nil0 n cs) := by
  refine ⟨by rw [nNew]; omega, hb, fun r hr => by rw [getNew_lt (by omega), hs r hr], by rw [nNew]; omega, fun r => if r = n then some (r, 0, 0, 0) else match own r with
    | some i => some (n, i + 1, 0, 0)
    | none => none, fun q cs' hq => ?_⟩
  unfold upd at hq
  split at hq
  · rename_i e
    subst e
    cases hq
    refine ⟨by simp, hn, by rw [nNew]; omega, ty, xs, by rw [getNew_is hm.symm], hl, hc, fun i c x hci hx => ?_⟩
    have om : ∀ r k, H.next ≤ r → r < q → own r = some i → H'.get r = .map k [] → OM H.next (H'.new (.blk 0 ty xs)) (fun r => if r = q then some (r, 0, 0, 0) else match own r with
        | some i => some (q, i + 1, 0, 0)
        | none => none) (q, i + 1, 0, 0) (.mp r) k [] := fun r k h1 h2 h3 h4 => ⟨r, rfl, by simp only; rw [if_neg (by omega), h3], h1, by rw [nNew]; omega, by rw [getNew_lt (by omega)]; exact h4⟩
    rcases h i c x hci hx with rfl | ⟨rfl, m, rfl⟩ | ⟨r, k, rfl, h1, h2, h3, h4, rfl | ⟨m, rfl⟩⟩
    · exact rfl
    · exact .inl ⟨rfl, rfl⟩
    · exact om r k h1 h2 h3 h4
    · exact ⟨[], om r k h1 h2 h3 h4, rfl, fun j n cells x hj => by simp at hj⟩
  · cases hq
end

end Go.Proofs.YtlcdejlbmnjlaaaGreat

namespace Go.Proofs.YtlcdejlbmnjlaaaGreat

def cacheO (c : Cache) : List Cell := [.seq 6 (c.l.flatMap Ent.av), .av (I c.sets), .av (I c.ways), .av (I c.clock)]
def procO (p : Proc) : List Cell := [.av (vsl 3 Opn.av p.ops), .seq 1 (p.values.map I), .av (B p.begun)]
def traceO (l : List Evn) : List Cell := [.seq 4 (l.flatMap Evn.av)]
def turnsO (t : Turns) : List Cell := [.map .i64 (encM (fun n => I n) t.owners), .maps .i64 2 (t.wait.map fun e => (e.1, e.2.flatMap fun w => [I w.1, I w.2]))]
def dirO (c : Cfg) (rows : Rows) : List Cell := c.av.map .av ++ [.map .i64 (encM (fun r => .agg r.av) rows)]
section
variable {H : AHeap}
theorem poolNew (H : AHeap) (room : Int) (h : 0 ≤ room) : ∃ H' q, cl 45 [I room] H = some (.ref q 0 0, H') ∧ Made H H' (upd nil0 q (boxO [] room)) := by
  refine ⟨_, H.next, run_cl rfl rfl (rn_45 _ _ _ (r := (_, H.new (.blk 0 170 [zN, I room]))) ?_), made_box rfl rfl fun i c x hc hx => ?_⟩
  · have e : max (0 : Int) room = room := by omega
    simp -implicitDefEqProofs only [bnd_some, bo_some, condK_true, condK_false, gdA_undef, decide_true, decide_false, Int.reduceLE, Int.reduceLT, Int.reduceEq, Int.reduceNeg, Int.reduceAdd, gd_tt, gd_tf, gd_ft, gd_ff, unG_pure, lift_some, bnd_lift, Option.map_some, Option.bind_some, fieldPtr_ref, fieldPtr_ip, nil_ref, nil_ip, nil_fn, ex_tup, fl_agg, List.getElem?_cons_zero, List.getElem?_cons_succ, Nat.zero_add, Nat.add_zero, Nat.reduceAdd, pk_t, pk_f, lss_int, leq_int, gtr_int, geq_int, eql_int, neq_int, not_bool, beq_self_eq_true, if_true, Bool.false_eq_true, if_false, List.nil_append, List.cons_append, List.append_nil, alc_eq, mkm_eq, nNew, nPut, bNew, bPut, nGrd, bGrd, ldN_is, ldN_lt, ldaN_is, ldaN_lt, stN_is, stN_lt, Nat.lt_add_one, ne_eq, nx1, nx2, nx3, ny1, ny2, ny3, not_false_eq_true, List.length_cons, List.length_nil, Nat.reduceLeDiff, setAt, List.take_succ_cons, List.take_zero, List.drop_succ_cons, List.drop_zero, cells_dat, cells_int, cells_bool, cells_agg, List.all_cons, List.all_nil, isCell_int, isCell_bool, isCell_dat, isCell_ref, isCell_nil, isCell_vsl, cells_vsl, av_len_cfg, av_len_pkt, av_len_opn, av_len_evn, av_len_ent, av_len_row, av_len_deal, av_len_pck, tk_cfg, tk_pkt, tk_opn, tk_evn, tk_ent, tk_row, tk_deal, tk_pck, all_cfg, all_pkt, all_opn, all_evn, all_ent, all_row, all_deal, all_pck, List.drop_nil, Bool.and_true, Bool.and_self, and_self, Nat.le_refl, true_and, and_true, Nat.le_add_right, leS, ltS, sh_45, max_int, e, bd_170, bldA, fillA, pl_170, box_agg]
  · match i with
    | 0 => right; cases hc; cases hx; exact ⟨rfl, 9, rfl⟩
    | 1 => left; cases hc; cases hx; rfl
    | i + 2 => cases hc
theorem queueNew (H : AHeap) (room : Int) (h : 0 ≤ room) : ∃ H' q, cl 46 [I room] H = some (.ref q 0 0, H') ∧ Made H H' (upd nil0 q (boxO [] room)) := by
  refine ⟨_, H.next, run_cl rfl rfl (rn_46 _ _ _ (r := (_, H.new (.blk 0 172 [zN, I room]))) ?_), made_box rfl rfl fun i c x hc hx => ?_⟩
  · have e : max (0 : Int) room = room := by omega
    simp -implicitDefEqProofs only [bnd_some, bo_some, condK_true, condK_false, gdA_undef, decide_true, decide_false, Int.reduceLE, Int.reduceLT, Int.reduceEq, Int.reduceNeg, Int.reduceAdd, gd_tt, gd_tf, gd_ft, gd_ff, unG_pure, lift_some, bnd_lift, Option.map_some, Option.bind_some, fieldPtr_ref, fieldPtr_ip, nil_ref, nil_ip, nil_fn, ex_tup, fl_agg, List.getElem?_cons_zero, List.getElem?_cons_succ, Nat.zero_add, Nat.add_zero, Nat.reduceAdd, pk_t, pk_f, lss_int, leq_int, gtr_int, geq_int, eql_int, neq_int, not_bool, beq_self_eq_true, if_true, Bool.false_eq_true, if_false, List.nil_append, List.cons_append, List.append_nil, alc_eq, mkm_eq, nNew, nPut, bNew, bPut, nGrd, bGrd, ldN_is, ldN_lt, ldaN_is, ldaN_lt, stN_is, stN_lt, Nat.lt_add_one, ne_eq, nx1, nx2, nx3, ny1, ny2, ny3, not_false_eq_true, List.length_cons, List.length_nil, Nat.reduceLeDiff, setAt, List.take_succ_cons, List.take_zero, List.drop_succ_cons, List.drop_zero, cells_dat, cells_int, cells_bool, cells_agg, List.all_cons, List.all_nil, isCell_int, isCell_bool, isCell_dat, isCell_ref, isCell_nil, isCell_vsl, cells_vsl, av_len_cfg, av_len_pkt, av_len_opn, av_len_evn, av_len_ent, av_len_row, av_len_deal, av_len_pck, tk_cfg, tk_pkt, tk_opn, tk_evn, tk_ent, tk_row, tk_deal, tk_pck, all_cfg, all_pkt, all_opn, all_evn, all_ent, all_row, all_deal, all_pck, List.drop_nil, Bool.and_true, Bool.and_self, and_self, Nat.le_refl, true_and, and_true, Nat.le_add_right, leS, ltS, sh_46, max_int, e, bd_172, bldA, fillA, pl_172, box_agg]
  · match i with
    | 0 => right; cases hc; cases hx; exact ⟨rfl, 9, rfl⟩
    | 1 => left; cases hc; cases hx; rfl
    | i + 2 => cases hc
theorem cacheNew (H : AHeap) (sets ways : Int) (h : 1 ≤ sets) (h' : 1 ≤ ways) : ∃ H' q, cl 47 [I sets, I ways] H = some (.ref q 0 0, H') ∧ Made H H' (upd nil0 q (cacheO ⟨[], sets, ways, 0⟩)) := by
  refine ⟨_, H.next, run_cl rfl rfl (rn_47 _ _ _ _ (r := (_, H.new (.blk 0 175 [zN, I sets, I ways, zI]))) ?_), made_box rfl rfl fun i c x hc hx => ?_⟩
  · have e : max (1 : Int) sets = sets := by omega
    have e' : max (1 : Int) ways = ways := by omega
    simp -implicitDefEqProofs only [bnd_some, bo_some, condK_true, condK_false, gdA_undef, decide_true, decide_false, Int.reduceLE, Int.reduceLT, Int.reduceEq, Int.reduceNeg, Int.reduceAdd, gd_tt, gd_tf, gd_ft, gd_ff, unG_pure, lift_some, bnd_lift, Option.map_some, Option.bind_some, fieldPtr_ref, fieldPtr_ip, nil_ref, nil_ip, nil_fn, ex_tup, fl_agg, List.getElem?_cons_zero, List.getElem?_cons_succ, Nat.zero_add, Nat.add_zero, Nat.reduceAdd, pk_t, pk_f, lss_int, leq_int, gtr_int, geq_int, eql_int, neq_int, not_bool, beq_self_eq_true, if_true, Bool.false_eq_true, if_false, List.nil_append, List.cons_append, List.append_nil, alc_eq, mkm_eq, nNew, nPut, bNew, bPut, nGrd, bGrd, ldN_is, ldN_lt, ldaN_is, ldaN_lt, stN_is, stN_lt, Nat.lt_add_one, ne_eq, nx1, nx2, nx3, ny1, ny2, ny3, not_false_eq_true, List.length_cons, List.length_nil, Nat.reduceLeDiff, setAt, List.take_succ_cons, List.take_zero, List.drop_succ_cons, List.drop_zero, cells_dat, cells_int, cells_bool, cells_agg, List.all_cons, List.all_nil, isCell_int, isCell_bool, isCell_dat, isCell_ref, isCell_nil, isCell_vsl, cells_vsl, av_len_cfg, av_len_pkt, av_len_opn, av_len_evn, av_len_ent, av_len_row, av_len_deal, av_len_pck, tk_cfg, tk_pkt, tk_opn, tk_evn, tk_ent, tk_row, tk_deal, tk_pck, all_cfg, all_pkt, all_opn, all_evn, all_ent, all_row, all_deal, all_pck, List.drop_nil, Bool.and_true, Bool.and_self, and_self, Nat.le_refl, true_and, and_true, Nat.le_add_right, leS, ltS, sh_47, max_int, e, e', bd_175, bldA, fillA, pl_175, box_agg]
  · match i with
    | 0 => right; cases hc; cases hx; exact ⟨rfl, 6, rfl⟩
    | 1 => left; cases hc; cases hx; rfl
    | 2 => left; cases hc; cases hx; rfl
    | 3 => left; cases hc; cases hx; rfl
    | i + 4 => cases hc
theorem traceNew (H : AHeap) : ∃ H' q, cl 19 [] H = some (.ref q 0 0, H') ∧ Made H H' (upd nil0 q (traceO [])) := by
  refine ⟨_, H.next, run_cl rfl rfl (rn_19 _ _ (r := (_, H.new (.blk 0 103 [zN]))) ?_), made_box rfl rfl fun i c x hc hx => ?_⟩
  · simp -implicitDefEqProofs only [bnd_some, bo_some, condK_true, condK_false, gdA_undef, decide_true, decide_false, Int.reduceLE, Int.reduceLT, Int.reduceEq, Int.reduceNeg, Int.reduceAdd, gd_tt, gd_tf, gd_ft, gd_ff, unG_pure, lift_some, bnd_lift, Option.map_some, Option.bind_some, fieldPtr_ref, fieldPtr_ip, nil_ref, nil_ip, nil_fn, ex_tup, fl_agg, List.getElem?_cons_zero, List.getElem?_cons_succ, Nat.zero_add, Nat.add_zero, Nat.reduceAdd, pk_t, pk_f, lss_int, leq_int, gtr_int, geq_int, eql_int, neq_int, not_bool, beq_self_eq_true, if_true, Bool.false_eq_true, if_false, List.nil_append, List.cons_append, List.append_nil, alc_eq, mkm_eq, nNew, nPut, bNew, bPut, nGrd, bGrd, ldN_is, ldN_lt, ldaN_is, ldaN_lt, stN_is, stN_lt, Nat.lt_add_one, ne_eq, nx1, nx2, nx3, ny1, ny2, ny3, not_false_eq_true, List.length_cons, List.length_nil, Nat.reduceLeDiff, setAt, List.take_succ_cons, List.take_zero, List.drop_succ_cons, List.drop_zero, cells_dat, cells_int, cells_bool, cells_agg, List.all_cons, List.all_nil, isCell_int, isCell_bool, isCell_dat, isCell_ref, isCell_nil, isCell_vsl, cells_vsl, av_len_cfg, av_len_pkt, av_len_opn, av_len_evn, av_len_ent, av_len_row, av_len_deal, av_len_pck, tk_cfg, tk_pkt, tk_opn, tk_evn, tk_ent, tk_row, tk_deal, tk_pck, all_cfg, all_pkt, all_opn, all_evn, all_ent, all_row, all_deal, all_pck, List.drop_nil, Bool.and_true, Bool.and_self, and_self, Nat.le_refl, true_and, and_true, Nat.le_add_right, leS, ltS, sh_19, bd_103, bldA, fillA, pl_103, box_agg]
  · match i with
    | 0 => right; cases hc; cases hx; exact ⟨rfl, 4, rfl⟩
    | i + 1 => cases hc
theorem turnsNew (H : AHeap) : ∃ H' q, cl 82 [] H = some (.ref q 0 0, H') ∧ Made H H' (upd nil0 q (turnsO ⟨[], []⟩)) := by
  refine ⟨_, H.next + 2, run_cl rfl rfl (rn_82 _ _ (r := (_, ((H.new (.map .i64 [])).new (.map .i64 [])).new (.blk 0 201 [.mp H.next, .mp (H.next + 1)]))) ?_), made_maps (H' := (H.new (.map .i64 [])).new (.map .i64 [])) (by omega) (by rw [nNew, nNew]) rfl (fun r hr => by rw [getNew_lt (by rw [nNew]; omega), getNew_lt hr]) rfl rfl (fun r => if r = H.next then some 0 else if r = H.next + 1 then some 1 else none) fun i c x hc hx => ?_⟩
  · have e : ∀ r, (AV.mp r).cells = [.mp r] := fun _ => rfl
    simp -implicitDefEqProofs only [bnd_some, bo_some, condK_true, condK_false, gdA_undef, decide_true, decide_false, Int.reduceLE, Int.reduceLT, Int.reduceEq, Int.reduceNeg, Int.reduceAdd, gd_tt, gd_tf, gd_ft, gd_ff, unG_pure, lift_some, bnd_lift, Option.map_some, Option.bind_some, fieldPtr_ref, fieldPtr_ip, nil_ref, nil_ip, nil_fn, ex_tup, fl_agg, List.getElem?_cons_zero, List.getElem?_cons_succ, Nat.zero_add, Nat.add_zero, Nat.reduceAdd, pk_t, pk_f, lss_int, leq_int, gtr_int, geq_int, eql_int, neq_int, not_bool, beq_self_eq_true, if_true, Bool.false_eq_true, if_false, List.nil_append, List.cons_append, List.append_nil, alc_eq, mkm_eq, nNew, nPut, bNew, bPut, nGrd, bGrd, ldN_is, ldN_lt, ldaN_is, ldaN_lt, stN_is, stN_lt, Nat.lt_add_one, ne_eq, nx1, nx2, nx3, ny1, ny2, ny3, not_false_eq_true, List.length_cons, List.length_nil, Nat.reduceLeDiff, setAt, List.take_succ_cons, List.take_zero, List.drop_succ_cons, List.drop_zero, cells_dat, cells_int, cells_bool, cells_agg, List.all_cons, List.all_nil, isCell_int, isCell_bool, isCell_dat, isCell_ref, isCell_nil, isCell_vsl, cells_vsl, av_len_cfg, av_len_pkt, av_len_opn, av_len_evn, av_len_ent, av_len_row, av_len_deal, av_len_pck, tk_cfg, tk_pkt, tk_opn, tk_evn, tk_ent, tk_row, tk_deal, tk_pck, all_cfg, all_pkt, all_opn, all_evn, all_ent, all_row, all_deal, all_pck, List.drop_nil, Bool.and_true, Bool.and_self, and_self, Nat.le_refl, true_and, and_true, Nat.le_add_right, leS, ltS, sh_82, bd_201, bldA, fillA, pl_201, box_agg, e, isCell_mp]
  · match i with
    | 0 => right; right; cases hc; cases hx; exact ⟨H.next, .i64, rfl, Nat.le_refl _, by omega, by simp, by rw [getNew_lt (by rw [nNew]; omega), getNew_is rfl], .inl rfl⟩
    | 1 => right; right; cases hc; cases hx; exact ⟨H.next + 1, .i64, rfl, by omega, by omega, by simp, by rw [getNew_is (by rw [nNew])], .inr ⟨2, rfl⟩⟩
    | i + 2 => cases hc
end

end Go.Proofs.YtlcdejlbmnjlaaaGreat

namespace Go.Proofs.YtlcdejlbmnjlaaaGreat

theorem frz_list {d : Nat} {α : Type} {enc : α → List AV} (h : ∀ a, ∀ x ∈ enc a, Frz d x) (l : List α) : ∀ x ∈ l.flatMap enc, Frz d x := fun x hx => by
  obtain ⟨a, _, ha⟩ := List.mem_flatMap.1 hx
  exact h a x ha
theorem frz_opn (o : Opn) : ∀ x ∈ o.av, Frz 8 x := fun x hx => by
  simp only [Opn.av, List.mem_cons, List.not_mem_nil, or_false] at hx
  rcases hx with rfl | rfl | rfl <;> exact frz_s
theorem frz_evn (o : Evn) : ∀ x ∈ o.av, Frz 8 x := fun x hx => by
  simp only [Evn.av, List.mem_cons, List.not_mem_nil, or_false] at hx
  rcases hx with rfl | rfl | rfl | rfl <;> exact frz_s
/-- A copy of a list in whatever form, in new memory. -/
theorem cloneOpn (H : AHeap) (l : List Opn) (hl : l.length < 1000000000) {x : AV} (hx : SliceIs H x 3 l.length (l.flatMap Opn.av)) (h0 : l = [] → x = zN) (hn : l ≠ [] → bi .eql 31 x zN = some (B false)) : cl 80 [x] H = some (vsl 3 Opn.av l, H) := by
  by_cases h : l = []
  · rw [h0 h]
    subst h
    refine pure_cl rfl rfl (rn_80 _ _ _ (r := (zN, H.guard)) ?_) (by rw [vsl_nil]; exact freeze_s)
    have e : bi .eql 31 zN zN = some (B true) := by kernel_rfl
    simp -implicitDefEqProofs only [bnd_some, bo_some, condK_true, condK_false, gdA_undef, decide_true, decide_false, Int.reduceLE, Int.reduceLT, Int.reduceEq, Int.reduceNeg, Int.reduceAdd, gd_tt, gd_tf, gd_ft, gd_ff, unG_pure, lift_some, bnd_lift, Option.map_some, Option.bind_some, fieldPtr_ref, fieldPtr_ip, nil_ref, nil_ip, nil_fn, ex_tup, fl_agg, List.getElem?_cons_zero, List.getElem?_cons_succ, Nat.zero_add, Nat.add_zero, Nat.reduceAdd, pk_t, pk_f, lss_int, leq_int, gtr_int, geq_int, eql_int, neq_int, not_bool, beq_self_eq_true, if_true, Bool.false_eq_true, if_false, List.nil_append, List.cons_append, List.append_nil, alc_eq, mkm_eq, nNew, nPut, bNew, bPut, nGrd, bGrd, sh_80, e]
  · have h1 : l.length ≠ 0 := fun e => h (List.eq_nil_of_length_eq_zero e)
    have e2 := app_empty (e := 48) (by_ := 24) (r := H.guard.next) (H := H.guard.new (.blk 0 48 [])) getNew_eq (hx.guard.new _) (all_flat all_opn l) h1 (by unfold most; omega) (by unfold most; omega)
    simp only [nGrd, nNew] at e2
    refine pure_cl rfl rfl (rn_80 _ _ _ (r := (.sl (H.next + 1) 0 0 3 l.length l.length false, (H.guard.new (.blk 0 48 [])).new (.blk 0 48 (l.flatMap Opn.av)))) ?_) ?_
    · simp -implicitDefEqProofs only [bnd_some, bo_some, condK_true, condK_false, gdA_undef, decide_true, decide_false, Int.reduceLE, Int.reduceLT, Int.reduceEq, Int.reduceNeg, Int.reduceAdd, gd_tt, gd_tf, gd_ft, gd_ff, unG_pure, lift_some, bnd_lift, Option.map_some, Option.bind_some, fieldPtr_ref, fieldPtr_ip, nil_ref, nil_ip, nil_fn, ex_tup, fl_agg, List.getElem?_cons_zero, List.getElem?_cons_succ, Nat.zero_add, Nat.add_zero, Nat.reduceAdd, pk_t, pk_f, lss_int, leq_int, gtr_int, geq_int, eql_int, neq_int, not_bool, beq_self_eq_true, if_true, Bool.false_eq_true, if_false, List.nil_append, List.cons_append, List.append_nil, alc_eq, mkm_eq, nNew, nPut, bNew, bPut, nGrd, bGrd, sh_80, hn h, bs_31, bsl_nil, e2, Nat.zero_mul, Nat.zero_le]
    · rw [vsl_cons h]
      refine freeze_sl (by omega) (cells := l.flatMap Opn.av) ?_ (freeze_all _ fun x hx => frz_list frz_opn l x hx _ _)
      simp only [sliceCells, get_new, nNew, nGrd, if_true]
      rw [if_pos (by rw [flat_len av_len_opn, Nat.zero_add]; exact ⟨trivial, Nat.le_refl _⟩), List.drop_zero, List.take_of_length_le (by rw [flat_len av_len_opn]; exact Nat.le_refl _)]
theorem within_sp (H : AHeap) (n m : Int) : cl 39 [I n, I m] H = some (B (within n m), H) := by
  refine run_cl rfl rfl (rn_39 _ _ _ _ ?_)
  by_cases h : 1 ≤ n
  · simp -implicitDefEqProofs only [bnd_some, bo_some, condK_true, condK_false, gdA_undef, decide_true, decide_false, Int.reduceLE, Int.reduceLT, Int.reduceEq, Int.reduceNeg, Int.reduceAdd, gd_tt, gd_tf, gd_ft, gd_ff, unG_pure, lift_some, bnd_lift, Option.map_some, Option.bind_some, fieldPtr_ref, fieldPtr_ip, nil_ref, nil_ip, nil_fn, ex_tup, fl_agg, List.getElem?_cons_zero, List.getElem?_cons_succ, Nat.zero_add, Nat.add_zero, Nat.reduceAdd, pk_t, pk_f, lss_int, leq_int, gtr_int, geq_int, eql_int, neq_int, not_bool, beq_self_eq_true, if_true, Bool.false_eq_true, if_false, List.nil_append, List.cons_append, List.append_nil, alc_eq, mkm_eq, nNew, nPut, bNew, bPut, nGrd, bGrd, sh_39, h, decide_true, within, Bool.true_and]
  · simp -implicitDefEqProofs only [bnd_some, bo_some, condK_true, condK_false, gdA_undef, decide_true, decide_false, Int.reduceLE, Int.reduceLT, Int.reduceEq, Int.reduceNeg, Int.reduceAdd, gd_tt, gd_tf, gd_ft, gd_ff, unG_pure, lift_some, bnd_lift, Option.map_some, Option.bind_some, fieldPtr_ref, fieldPtr_ip, nil_ref, nil_ip, nil_fn, ex_tup, fl_agg, List.getElem?_cons_zero, List.getElem?_cons_succ, Nat.zero_add, Nat.add_zero, Nat.reduceAdd, pk_t, pk_f, lss_int, leq_int, gtr_int, geq_int, eql_int, neq_int, not_bool, beq_self_eq_true, if_true, Bool.false_eq_true, if_false, List.nil_append, List.cons_append, List.append_nil, alc_eq, mkm_eq, nNew, nPut, bNew, bPut, nGrd, bGrd, sh_39, h, decide_false, within, Bool.false_and]
/-- A configuration that may be. -/
theorem check_ok (H : AHeap) (c : Cfg) (h : c.ok = true) : cl 15 [.agg c.av] H = some (I 0, H) := by
  refine pure_val rfl rfl (rn_15 _ _ _) ?_ frz_s
  have w := fun H n m => within_sp H n m
  have e1 := fun H => (dat_is H c.init).lnS
  simp only [Cfg.ok, Bool.and_eq_true, decide_eq_true_eq] at h
  obtain ⟨⟨⟨⟨⟨⟨⟨a, b⟩, d⟩, f⟩, g⟩, i⟩, j⟩, k⟩ := h
  have t : ∀ n m, 1 ≤ n ∧ n ≤ m → within n m = true := fun n m h => by simp [within, h.1, h.2]
  have hm : IntKind.wrap .i64 (c.lines * c.words) = c.lines * c.words := by
    have : c.lines * c.words ≤ 8 * 4 := Int.mul_le_mul b.2 d.2 (by omega) (by omega)
    have : 0 ≤ c.lines * c.words := Int.mul_nonneg (by omega) (by omega)
    exact wrap_i64 (by omega) (by omega)
  have k' : ¬ c.lines * c.words < c.init.length := by omega
  simp -implicitDefEqProofs only [bnd_some, bo_some, condK_true, condK_false, gdA_undef, decide_true, decide_false, Int.reduceLE, Int.reduceLT, Int.reduceEq, Int.reduceNeg, Int.reduceAdd, gd_tt, gd_tf, gd_ft, gd_ff, unG_pure, lift_some, bnd_lift, Option.map_some, Option.bind_some, fieldPtr_ref, fieldPtr_ip, nil_ref, nil_ip, nil_fn, ex_tup, fl_agg, List.getElem?_cons_zero, List.getElem?_cons_succ, Nat.zero_add, Nat.add_zero, Nat.reduceAdd, pk_t, pk_f, lss_int, leq_int, gtr_int, geq_int, eql_int, neq_int, not_bool, beq_self_eq_true, if_true, Bool.false_eq_true, if_false, List.nil_append, List.cons_append, List.append_nil, alc_eq, mkm_eq, nNew, nPut, bNew, bPut, nGrd, bGrd, ldN_is, ldN_lt, ldaN_is, ldaN_lt, stN_is, stN_lt, Nat.lt_add_one, ne_eq, nx1, nx2, nx3, ny1, ny2, ny3, not_false_eq_true, List.length_cons, List.length_nil, Nat.reduceLeDiff, setAt, List.take_succ_cons, List.take_zero, List.drop_succ_cons, List.drop_zero, cells_dat, cells_int, cells_bool, cells_agg, List.all_cons, List.all_nil, isCell_int, isCell_bool, isCell_dat, isCell_ref, isCell_nil, isCell_vsl, cells_vsl, av_len_cfg, av_len_pkt, av_len_opn, av_len_evn, av_len_ent, av_len_row, av_len_deal, av_len_pck, tk_cfg, tk_pkt, tk_opn, tk_evn, tk_ent, tk_row, tk_deal, tk_pck, all_cfg, all_pkt, all_opn, all_evn, all_ent, all_row, all_deal, all_pck, List.drop_nil, Bool.and_true, Bool.and_self, and_self, Nat.le_refl, true_and, and_true, Nat.le_add_right, leS, ltS, sh_15, box_agg, Cfg.av, w, t _ _ a, t _ _ b, t _ _ d, t _ _ f, t _ _ g, t _ _ i, t _ _ j, e1, mul_int, hm, k', decide_false, Bool.not_true]
theorem addrs_sp (H : AHeap) (c : Cfg) (h : c.ok = true) : cl 91 [.agg c.av] H = some (I c.addrs, H) := by
  refine pure_val rfl rfl (rn_91 _ _ _) ?_ frz_s
  simp only [Cfg.ok, Bool.and_eq_true, decide_eq_true_eq] at h
  obtain ⟨⟨⟨⟨⟨⟨⟨a, b⟩, d⟩, f⟩, g⟩, i⟩, j⟩, k⟩ := h
  have hm : IntKind.wrap .i64 (c.lines * c.words) = c.lines * c.words := by
    have : c.lines * c.words ≤ 8 * 4 := Int.mul_le_mul b.2 d.2 (by omega) (by omega)
    have : 0 ≤ c.lines * c.words := Int.mul_nonneg (by omega) (by omega)
    exact wrap_i64 (by omega) (by omega)
  simp -implicitDefEqProofs only [bnd_some, bo_some, condK_true, condK_false, gdA_undef, decide_true, decide_false, Int.reduceLE, Int.reduceLT, Int.reduceEq, Int.reduceNeg, Int.reduceAdd, gd_tt, gd_tf, gd_ft, gd_ff, unG_pure, lift_some, bnd_lift, Option.map_some, Option.bind_some, fieldPtr_ref, fieldPtr_ip, nil_ref, nil_ip, nil_fn, ex_tup, fl_agg, List.getElem?_cons_zero, List.getElem?_cons_succ, Nat.zero_add, Nat.add_zero, Nat.reduceAdd, pk_t, pk_f, lss_int, leq_int, gtr_int, geq_int, eql_int, neq_int, not_bool, beq_self_eq_true, if_true, Bool.false_eq_true, if_false, List.nil_append, List.cons_append, List.append_nil, alc_eq, mkm_eq, nNew, nPut, bNew, bPut, nGrd, bGrd, ldN_is, ldN_lt, ldaN_is, ldaN_lt, stN_is, stN_lt, Nat.lt_add_one, ne_eq, nx1, nx2, nx3, ny1, ny2, ny3, not_false_eq_true, List.length_cons, List.length_nil, Nat.reduceLeDiff, setAt, List.take_succ_cons, List.take_zero, List.drop_succ_cons, List.drop_zero, cells_dat, cells_int, cells_bool, cells_agg, List.all_cons, List.all_nil, isCell_int, isCell_bool, isCell_dat, isCell_ref, isCell_nil, isCell_vsl, cells_vsl, av_len_cfg, av_len_pkt, av_len_opn, av_len_evn, av_len_ent, av_len_row, av_len_deal, av_len_pck, tk_cfg, tk_pkt, tk_opn, tk_evn, tk_ent, tk_row, tk_deal, tk_pck, all_cfg, all_pkt, all_opn, all_evn, all_ent, all_row, all_deal, all_pck, List.drop_nil, Bool.and_true, Bool.and_self, and_self, Nat.le_refl, true_and, and_true, Nat.le_add_right, leS, ltS, sh_91, box_agg, Cfg.av, mul_int, hm, Cfg.addrs]
structure CfgB (c : Cfg) : Prop where
  nodes : 1 ≤ c.nodes ∧ c.nodes ≤ 6
  lines : 1 ≤ c.lines ∧ c.lines ≤ 8
  words : 1 ≤ c.words ∧ c.words ≤ 4
  sets : 1 ≤ c.sets ∧ c.sets ≤ 4
  ways : 1 ≤ c.ways ∧ c.ways ≤ 3
  out : 1 ≤ c.out ∧ c.out ≤ 8
  inn : 1 ≤ c.inn ∧ c.inn ≤ 8
  init : (c.init.length : Int) ≤ c.lines * c.words
  addrs : 1 ≤ c.lines * c.words ∧ c.lines * c.words ≤ 32
theorem cfgB {c : Cfg} (h : c.ok = true) : CfgB c := by
  simp only [Cfg.ok, Bool.and_eq_true, decide_eq_true_eq] at h
  obtain ⟨⟨⟨⟨⟨⟨⟨a, b⟩, d⟩, f⟩, g⟩, i⟩, j⟩, k⟩ := h
  have h1 : c.lines * c.words ≤ 8 * 4 := Int.mul_le_mul b.2 d.2 (by omega) (by omega)
  have h2 : 1 * 1 ≤ c.lines * c.words := Int.mul_le_mul b.1 d.1 (by omega) (by omega)
  exact ⟨a, b, d, f, g, i, j, k, by omega, by omega⟩
theorem rest_sp (H : AHeap) (n m : Int) (h : 1 ≤ m) : cl 98 [I n, I m] H = some (I (restOf n m), H) := by
  refine run_cl rfl rfl (rn_98 _ _ _ _ ?_)
  by_cases h0 : n < 0
  · simp -implicitDefEqProofs only [bnd_some, bo_some, condK_true, condK_false, gdA_undef, decide_true, decide_false, Int.reduceLE, Int.reduceLT, Int.reduceEq, Int.reduceNeg, Int.reduceAdd, gd_tt, gd_tf, gd_ft, gd_ff, unG_pure, lift_some, bnd_lift, Option.map_some, Option.bind_some, fieldPtr_ref, fieldPtr_ip, nil_ref, nil_ip, nil_fn, ex_tup, fl_agg, List.getElem?_cons_zero, List.getElem?_cons_succ, Nat.zero_add, Nat.add_zero, Nat.reduceAdd, pk_t, pk_f, lss_int, leq_int, gtr_int, geq_int, eql_int, neq_int, not_bool, beq_self_eq_true, if_true, Bool.false_eq_true, if_false, List.nil_append, List.cons_append, List.append_nil, alc_eq, mkm_eq, nNew, nPut, bNew, bPut, nGrd, bGrd, sh_98, h0, decide_true, restOf]
  · have e : n.tmod m = n % m := Int.tmod_eq_emod_of_nonneg (by omega)
    simp -implicitDefEqProofs only [bnd_some, bo_some, condK_true, condK_false, gdA_undef, decide_true, decide_false, Int.reduceLE, Int.reduceLT, Int.reduceEq, Int.reduceNeg, Int.reduceAdd, gd_tt, gd_tf, gd_ft, gd_ff, unG_pure, lift_some, bnd_lift, Option.map_some, Option.bind_some, fieldPtr_ref, fieldPtr_ip, nil_ref, nil_ip, nil_fn, ex_tup, fl_agg, List.getElem?_cons_zero, List.getElem?_cons_succ, Nat.zero_add, Nat.add_zero, Nat.reduceAdd, pk_t, pk_f, lss_int, leq_int, gtr_int, geq_int, eql_int, neq_int, not_bool, beq_self_eq_true, if_true, Bool.false_eq_true, if_false, List.nil_append, List.cons_append, List.append_nil, alc_eq, mkm_eq, nNew, nPut, bNew, bPut, nGrd, bGrd, sh_98, h0, decide_false, rem_int (show m ≠ 0 by omega), restOf, e]
theorem homeOf_sp (H : AHeap) (c : Cfg) (h : c.ok = true) (line : Int) : cl 92 [.agg c.av, I line] H = some (I (c.homeOf line), H) := by
  have B := cfgB h
  refine pure_val rfl rfl (rn_92 _ _ _ _) ?_ frz_s
  have e := fun H => rest_sp H line c.nodes B.nodes.1
  simp -implicitDefEqProofs only [bnd_some, bo_some, condK_true, condK_false, gdA_undef, decide_true, decide_false, Int.reduceLE, Int.reduceLT, Int.reduceEq, Int.reduceNeg, Int.reduceAdd, gd_tt, gd_tf, gd_ft, gd_ff, unG_pure, lift_some, bnd_lift, Option.map_some, Option.bind_some, fieldPtr_ref, fieldPtr_ip, nil_ref, nil_ip, nil_fn, ex_tup, fl_agg, List.getElem?_cons_zero, List.getElem?_cons_succ, Nat.zero_add, Nat.add_zero, Nat.reduceAdd, pk_t, pk_f, lss_int, leq_int, gtr_int, geq_int, eql_int, neq_int, not_bool, beq_self_eq_true, if_true, Bool.false_eq_true, if_false, List.nil_append, List.cons_append, List.append_nil, alc_eq, mkm_eq, nNew, nPut, bNew, bPut, nGrd, bGrd, ldN_is, ldN_lt, ldaN_is, ldaN_lt, stN_is, stN_lt, Nat.lt_add_one, ne_eq, nx1, nx2, nx3, ny1, ny2, ny3, not_false_eq_true, List.length_cons, List.length_nil, Nat.reduceLeDiff, setAt, List.take_succ_cons, List.take_zero, List.drop_succ_cons, List.drop_zero, cells_dat, cells_int, cells_bool, cells_agg, List.all_cons, List.all_nil, isCell_int, isCell_bool, isCell_dat, isCell_ref, isCell_nil, isCell_vsl, cells_vsl, av_len_cfg, av_len_pkt, av_len_opn, av_len_evn, av_len_ent, av_len_row, av_len_deal, av_len_pck, tk_cfg, tk_pkt, tk_opn, tk_evn, tk_ent, tk_row, tk_deal, tk_pck, all_cfg, all_pkt, all_opn, all_evn, all_ent, all_row, all_deal, all_pck, List.drop_nil, Bool.and_true, Bool.and_self, and_self, Nat.le_refl, true_and, and_true, Nat.le_add_right, leS, ltS, sh_92, box_agg, Cfg.av, e, Cfg.homeOf]
theorem lineOf_sp (H : AHeap) (c : Cfg) (h : c.ok = true) (a : Int) : cl 79 [.agg c.av, I a] H = some (.tup [I (c.lineOf a), I (c.wordOf a)], H) := by
  have B := cfgB h
  refine pure_val rfl rfl (rn_79 _ _ _ _) ?_ (frz_tup fun x hx => by
    simp only [List.mem_cons, List.not_mem_nil, or_false] at hx
    rcases hx with rfl | rfl <;> exact frz_s)
  have e := fun H => addrs_sp H c h
  by_cases h0 : a < 0
  · simp -implicitDefEqProofs only [bnd_some, bo_some, condK_true, condK_false, gdA_undef, decide_true, decide_false, Int.reduceLE, Int.reduceLT, Int.reduceEq, Int.reduceNeg, Int.reduceAdd, gd_tt, gd_tf, gd_ft, gd_ff, unG_pure, lift_some, bnd_lift, Option.map_some, Option.bind_some, fieldPtr_ref, fieldPtr_ip, nil_ref, nil_ip, nil_fn, ex_tup, fl_agg, List.getElem?_cons_zero, List.getElem?_cons_succ, Nat.zero_add, Nat.add_zero, Nat.reduceAdd, pk_t, pk_f, lss_int, leq_int, gtr_int, geq_int, eql_int, neq_int, not_bool, beq_self_eq_true, if_true, Bool.false_eq_true, if_false, List.nil_append, List.cons_append, List.append_nil, alc_eq, mkm_eq, nNew, nPut, bNew, bPut, nGrd, bGrd, ldN_is, ldN_lt, ldaN_is, ldaN_lt, stN_is, stN_lt, Nat.lt_add_one, ne_eq, nx1, nx2, nx3, ny1, ny2, ny3, not_false_eq_true, List.length_cons, List.length_nil, Nat.reduceLeDiff, setAt, List.take_succ_cons, List.take_zero, List.drop_succ_cons, List.drop_zero, cells_dat, cells_int, cells_bool, cells_agg, List.all_cons, List.all_nil, isCell_int, isCell_bool, isCell_dat, isCell_ref, isCell_nil, isCell_vsl, cells_vsl, av_len_cfg, av_len_pkt, av_len_opn, av_len_evn, av_len_ent, av_len_row, av_len_deal, av_len_pck, tk_cfg, tk_pkt, tk_opn, tk_evn, tk_ent, tk_row, tk_deal, tk_pck, all_cfg, all_pkt, all_opn, all_evn, all_ent, all_row, all_deal, all_pck, List.drop_nil, Bool.and_true, Bool.and_self, and_self, Nat.le_refl, true_and, and_true, Nat.le_add_right, leS, ltS, sh_79, box_agg (all_cfg c), h0, decide_true, Cfg.lineOf, Cfg.wordOf, true_or]
  · by_cases h1 : c.addrs ≤ a
    · simp -implicitDefEqProofs only [bnd_some, bo_some, condK_true, condK_false, gdA_undef, decide_true, decide_false, Int.reduceLE, Int.reduceLT, Int.reduceEq, Int.reduceNeg, Int.reduceAdd, gd_tt, gd_tf, gd_ft, gd_ff, unG_pure, lift_some, bnd_lift, Option.map_some, Option.bind_some, fieldPtr_ref, fieldPtr_ip, nil_ref, nil_ip, nil_fn, ex_tup, fl_agg, List.getElem?_cons_zero, List.getElem?_cons_succ, Nat.zero_add, Nat.add_zero, Nat.reduceAdd, pk_t, pk_f, lss_int, leq_int, gtr_int, geq_int, eql_int, neq_int, not_bool, beq_self_eq_true, if_true, Bool.false_eq_true, if_false, List.nil_append, List.cons_append, List.append_nil, alc_eq, mkm_eq, nNew, nPut, bNew, bPut, nGrd, bGrd, ldN_is, ldN_lt, ldaN_is, ldaN_lt, stN_is, stN_lt, Nat.lt_add_one, ne_eq, nx1, nx2, nx3, ny1, ny2, ny3, not_false_eq_true, List.length_cons, List.length_nil, Nat.reduceLeDiff, setAt, List.take_succ_cons, List.take_zero, List.drop_succ_cons, List.drop_zero, cells_dat, cells_int, cells_bool, cells_agg, List.all_cons, List.all_nil, isCell_int, isCell_bool, isCell_dat, isCell_ref, isCell_nil, isCell_vsl, cells_vsl, av_len_cfg, av_len_pkt, av_len_opn, av_len_evn, av_len_ent, av_len_row, av_len_deal, av_len_pck, tk_cfg, tk_pkt, tk_opn, tk_evn, tk_ent, tk_row, tk_deal, tk_pck, all_cfg, all_pkt, all_opn, all_evn, all_ent, all_row, all_deal, all_pck, List.drop_nil, Bool.and_true, Bool.and_self, and_self, Nat.le_refl, true_and, and_true, Nat.le_add_right, leS, ltS, sh_79, box_agg (all_cfg c), h0, h1, decide_true, decide_false, Cfg.lineOf, Cfg.wordOf, or_true, e]
    · have q : a.tdiv c.words = a / c.words := Int.tdiv_eq_ediv_of_nonneg (by omega)
      have r : a.tmod c.words = a % c.words := Int.tmod_eq_emod_of_nonneg (by omega)
      have q1 : 0 ≤ a / c.words := Int.ediv_nonneg (by omega) (by have := B.words; omega)
      have q2 : a / c.words ≤ a := Int.ediv_le_self _ (by omega)
      have q3 : c.addrs ≤ 32 := B.addrs.2
      have w := wrap_i64 (a := a / c.words) (by omega) (by omega)
      have z : c.words ≠ 0 := by have := B.words; omega
      have l2 : c.av[2]? = some (I c.words) := rfl
      simp -implicitDefEqProofs only [bnd_some, bo_some, condK_true, condK_false, gdA_undef, decide_true, decide_false, Int.reduceLE, Int.reduceLT, Int.reduceEq, Int.reduceNeg, Int.reduceAdd, gd_tt, gd_tf, gd_ft, gd_ff, unG_pure, lift_some, bnd_lift, Option.map_some, Option.bind_some, fieldPtr_ref, fieldPtr_ip, nil_ref, nil_ip, nil_fn, ex_tup, fl_agg, List.getElem?_cons_zero, List.getElem?_cons_succ, Nat.zero_add, Nat.add_zero, Nat.reduceAdd, pk_t, pk_f, lss_int, leq_int, gtr_int, geq_int, eql_int, neq_int, not_bool, beq_self_eq_true, if_true, Bool.false_eq_true, if_false, List.nil_append, List.cons_append, List.append_nil, alc_eq, mkm_eq, nNew, nPut, bNew, bPut, nGrd, bGrd, ldN_is, ldN_lt, ldaN_is, ldaN_lt, stN_is, stN_lt, Nat.lt_add_one, ne_eq, nx1, nx2, nx3, ny1, ny2, ny3, not_false_eq_true, List.length_cons, List.length_nil, Nat.reduceLeDiff, setAt, List.take_succ_cons, List.take_zero, List.drop_succ_cons, List.drop_zero, cells_dat, cells_int, cells_bool, cells_agg, List.all_cons, List.all_nil, isCell_int, isCell_bool, isCell_dat, isCell_ref, isCell_nil, isCell_vsl, cells_vsl, av_len_cfg, av_len_pkt, av_len_opn, av_len_evn, av_len_ent, av_len_row, av_len_deal, av_len_pck, tk_cfg, tk_pkt, tk_opn, tk_evn, tk_ent, tk_row, tk_deal, tk_pck, all_cfg, all_pkt, all_opn, all_evn, all_ent, all_row, all_deal, all_pck, List.drop_nil, Bool.and_true, Bool.and_self, and_self, Nat.le_refl, true_and, and_true, Nat.le_add_right, leS, ltS, sh_79, box_agg (all_cfg c), h0, h1, decide_false, Cfg.lineOf, Cfg.wordOf, or_false, e, l2, quo_int z, rem_int z, q, r, w]

end Go.Proofs.YtlcdejlbmnjlaaaGreat

namespace Go.Proofs.YtlcdejlbmnjlaaaGreat

/-- The answer of a search. -/
def idxI (o : Option Nat) : Int := match o with
  | some i => (i : Int)
  | none => -1
theorem findIdx_at {α : Type} {p : α → Bool} : ∀ (l : List α) (i : Nat), (∀ j a, j < i → l[j]? = some a → p a = false) → l.findIdx? p = ((l.drop i).findIdx? p).map (· + i)
  | l, 0, _ => by cases h : l.findIdx? p <;> simp [h]
  | [], i + 1, _ => by simp
  | a :: l, i + 1, h => by
    have h0 := h 0 a (by omega) rfl
    rw [List.findIdx?_cons, h0, List.drop_succ_cons, findIdx_at l i fun j b hj hb => h (j + 1) b (by omega) hb]
    simp only [Bool.false_eq_true, if_false, Option.map_map]
    congr 1
theorem indexFuncOp (H : AHeap) {α : Type} {enc : α → List AV} (he : ∀ a, (enc a).length = 3) {x f : AV} {l : List α} (hx : SliceIs H x 3 l.length (l.flatMap enc)) (hl : l.length < 1000000000) (p : α → Bool)
    (hp : ∀ a ∈ l, callA Tryz.prog cl f [.agg (enc a)] H = some (B (p a), H)) : cl 78 [x, f] H = some (I (idxI (l.findIdx? p)), H) := by
  have e1 := hx.lnS
  have e2 : ∀ i a, l[i]? = some a → lda 3 (elemPtr x i) H = some (.agg (enc a), H) := fun i a hi => lda_elem he hx hi
  refine run_cl rfl rfl (rn_78 _ _ _ _ ?_)
  have key : ∀ k i, i + k = l.length → (∀ j a, j < i → l[j]? = some a → p a = false) → lp_78x0 cl [x, f, I l.length, I i] H = some (I (idxI (l.findIdx? p)), H) := by
    intro k
    induction k with
    | zero =>
      intro i hi hf
      have h1 : ¬ (i : Int) < l.length := by omega
      have h2 : l.findIdx? p = none := by rw [findIdx_at l i hf, List.drop_of_length_le (by omega)]; rfl
      rw [le_78x0]
      simp -implicitDefEqProofs only [bnd_some, bo_some, condK_true, condK_false, gdA_undef, decide_true, decide_false, Int.reduceLE, Int.reduceLT, Int.reduceEq, Int.reduceNeg, Int.reduceAdd, gd_tt, gd_tf, gd_ft, gd_ff, unG_pure, lift_some, bnd_lift, Option.map_some, Option.bind_some, fieldPtr_ref, fieldPtr_ip, nil_ref, nil_ip, nil_fn, ex_tup, fl_agg, List.getElem?_cons_zero, List.getElem?_cons_succ, Nat.zero_add, Nat.add_zero, Nat.reduceAdd, pk_t, pk_f, lss_int, leq_int, gtr_int, geq_int, eql_int, neq_int, not_bool, beq_self_eq_true, if_true, Bool.false_eq_true, if_false, List.nil_append, List.cons_append, List.append_nil, alc_eq, mkm_eq, nNew, nPut, bNew, bPut, nGrd, bGrd, h1, h2, decide_false, idxI]
    | succ k ih =>
      intro i hi hf
      have h1 : (i : Int) < l.length := by omega
      have h3 := hx.ix (k := .i64) (i := (i : Int)) (by omega) h1
      obtain ⟨a, ha⟩ : ∃ a, l[i]? = some a := ⟨_, List.getElem?_eq_getElem (by omega)⟩
      have h4 := e2 i a ha
      have h5 := hp a (List.mem_of_getElem? ha)
      rw [Int.toNat_natCast] at h3
      rw [le_78x0]
      cases hpa : p a with
      | true =>
        have h2 : l.findIdx? p = some i := by
          rw [findIdx_at l i hf, List.drop_eq_getElem_cons (by omega), List.findIdx?_cons]
          rw [List.getElem?_eq_getElem (by omega)] at ha
          simp only [Option.some.injEq] at ha
          rw [ha, hpa]; simp
        rw [hpa] at h5
        simp -implicitDefEqProofs only [bnd_some, bo_some, condK_true, condK_false, gdA_undef, decide_true, decide_false, Int.reduceLE, Int.reduceLT, Int.reduceEq, Int.reduceNeg, Int.reduceAdd, gd_tt, gd_tf, gd_ft, gd_ff, unG_pure, lift_some, bnd_lift, Option.map_some, Option.bind_some, fieldPtr_ref, fieldPtr_ip, nil_ref, nil_ip, nil_fn, ex_tup, fl_agg, List.getElem?_cons_zero, List.getElem?_cons_succ, Nat.zero_add, Nat.add_zero, Nat.reduceAdd, pk_t, pk_f, lss_int, leq_int, gtr_int, geq_int, eql_int, neq_int, not_bool, beq_self_eq_true, if_true, Bool.false_eq_true, if_false, List.nil_append, List.cons_append, List.append_nil, alc_eq, mkm_eq, nNew, nPut, bNew, bPut, nGrd, bGrd, h1, h2, h3, h4, h5, decide_true, idxI]
      | false =>
        rw [hpa] at h5
        have h6 : (i : Int) + 1 = ((i + 1 : Nat) : Int) := by omega
        have h7 := wrap_i64 (a := ((i + 1 : Nat) : Int)) (by omega) (by omega)
        have := ih (i + 1) (by omega) fun j b hj hb => by
          by_cases hji : j = i
          · subst hji; rw [ha] at hb; cases hb; exact hpa
          · exact hf j b (by omega) hb
        simp -implicitDefEqProofs only [bnd_some, bo_some, condK_true, condK_false, gdA_undef, decide_true, decide_false, Int.reduceLE, Int.reduceLT, Int.reduceEq, Int.reduceNeg, Int.reduceAdd, gd_tt, gd_tf, gd_ft, gd_ff, unG_pure, lift_some, bnd_lift, Option.map_some, Option.bind_some, fieldPtr_ref, fieldPtr_ip, nil_ref, nil_ip, nil_fn, ex_tup, fl_agg, List.getElem?_cons_zero, List.getElem?_cons_succ, Nat.zero_add, Nat.add_zero, Nat.reduceAdd, pk_t, pk_f, lss_int, leq_int, gtr_int, geq_int, eql_int, neq_int, not_bool, beq_self_eq_true, if_true, Bool.false_eq_true, if_false, List.nil_append, List.cons_append, List.append_nil, alc_eq, mkm_eq, nNew, nPut, bNew, bPut, nGrd, bGrd, h1, h3, h4, h5, decide_true, add_int, h6, h7, this]
  have := key l.length 0 (by omega) (fun j a hj => by omega)
  simp -implicitDefEqProofs only [bnd_some, bo_some, condK_true, condK_false, gdA_undef, decide_true, decide_false, Int.reduceLE, Int.reduceLT, Int.reduceEq, Int.reduceNeg, Int.reduceAdd, gd_tt, gd_tf, gd_ft, gd_ff, unG_pure, lift_some, bnd_lift, Option.map_some, Option.bind_some, fieldPtr_ref, fieldPtr_ip, nil_ref, nil_ip, nil_fn, ex_tup, fl_agg, List.getElem?_cons_zero, List.getElem?_cons_succ, Nat.zero_add, Nat.add_zero, Nat.reduceAdd, pk_t, pk_f, lss_int, leq_int, gtr_int, geq_int, eql_int, neq_int, not_bool, beq_self_eq_true, if_true, Bool.false_eq_true, if_false, List.nil_append, List.cons_append, List.append_nil, alc_eq, mkm_eq, nNew, nPut, bNew, bPut, nGrd, bGrd, sh_78, e1]
  exact this
theorem indexFuncEnt (H : AHeap) {α : Type} {enc : α → List AV} (he : ∀ a, (enc a).length = 6) {x f : AV} {l : List α} (hx : SliceIs H x 6 l.length (l.flatMap enc)) (hl : l.length < 1000000000) (p : α → Bool)
    (hp : ∀ a ∈ l, callA Tryz.prog cl f [.agg (enc a)] H = some (B (p a), H)) : cl 96 [x, f] H = some (I (idxI (l.findIdx? p)), H) := by
  have e1 := hx.lnS
  have e2 : ∀ i a, l[i]? = some a → lda 6 (elemPtr x i) H = some (.agg (enc a), H) := fun i a hi => lda_elem he hx hi
  refine run_cl rfl rfl (rn_96 _ _ _ _ ?_)
  have key : ∀ k i, i + k = l.length → (∀ j a, j < i → l[j]? = some a → p a = false) → lp_96x0 cl [x, f, I l.length, I i] H = some (I (idxI (l.findIdx? p)), H) := by
    intro k
    induction k with
    | zero =>
      intro i hi hf
      have h1 : ¬ (i : Int) < l.length := by omega
      have h2 : l.findIdx? p = none := by rw [findIdx_at l i hf, List.drop_of_length_le (by omega)]; rfl
      rw [le_96x0]
      simp -implicitDefEqProofs only [bnd_some, bo_some, condK_true, condK_false, gdA_undef, decide_true, decide_false, Int.reduceLE, Int.reduceLT, Int.reduceEq, Int.reduceNeg, Int.reduceAdd, gd_tt, gd_tf, gd_ft, gd_ff, unG_pure, lift_some, bnd_lift, Option.map_some, Option.bind_some, fieldPtr_ref, fieldPtr_ip, nil_ref, nil_ip, nil_fn, ex_tup, fl_agg, List.getElem?_cons_zero, List.getElem?_cons_succ, Nat.zero_add, Nat.add_zero, Nat.reduceAdd, pk_t, pk_f, lss_int, leq_int, gtr_int, geq_int, eql_int, neq_int, not_bool, beq_self_eq_true, if_true, Bool.false_eq_true, if_false, List.nil_append, List.cons_append, List.append_nil, alc_eq, mkm_eq, nNew, nPut, bNew, bPut, nGrd, bGrd, h1, h2, decide_false, idxI]
    | succ k ih =>
      intro i hi hf
      have h1 : (i : Int) < l.length := by omega
      have h3 := hx.ix (k := .i64) (i := (i : Int)) (by omega) h1
      obtain ⟨a, ha⟩ : ∃ a, l[i]? = some a := ⟨_, List.getElem?_eq_getElem (by omega)⟩
      have h4 := e2 i a ha
      have h5 := hp a (List.mem_of_getElem? ha)
      rw [Int.toNat_natCast] at h3
      rw [le_96x0]
      cases hpa : p a with
      | true =>
        have h2 : l.findIdx? p = some i := by
          rw [findIdx_at l i hf, List.drop_eq_getElem_cons (by omega), List.findIdx?_cons]
          rw [List.getElem?_eq_getElem (by omega)] at ha
          simp only [Option.some.injEq] at ha
          rw [ha, hpa]; simp
        rw [hpa] at h5
        simp -implicitDefEqProofs only [bnd_some, bo_some, condK_true, condK_false, gdA_undef, decide_true, decide_false, Int.reduceLE, Int.reduceLT, Int.reduceEq, Int.reduceNeg, Int.reduceAdd, gd_tt, gd_tf, gd_ft, gd_ff, unG_pure, lift_some, bnd_lift, Option.map_some, Option.bind_some, fieldPtr_ref, fieldPtr_ip, nil_ref, nil_ip, nil_fn, ex_tup, fl_agg, List.getElem?_cons_zero, List.getElem?_cons_succ, Nat.zero_add, Nat.add_zero, Nat.reduceAdd, pk_t, pk_f, lss_int, leq_int, gtr_int, geq_int, eql_int, neq_int, not_bool, beq_self_eq_true, if_true, Bool.false_eq_true, if_false, List.nil_append, List.cons_append, List.append_nil, alc_eq, mkm_eq, nNew, nPut, bNew, bPut, nGrd, bGrd, h1, h2, h3, h4, h5, decide_true, idxI]
      | false =>
        rw [hpa] at h5
        have h6 : (i : Int) + 1 = ((i + 1 : Nat) : Int) := by omega
        have h7 := wrap_i64 (a := ((i + 1 : Nat) : Int)) (by omega) (by omega)
        have := ih (i + 1) (by omega) fun j b hj hb => by
          by_cases hji : j = i
          · subst hji; rw [ha] at hb; cases hb; exact hpa
          · exact hf j b (by omega) hb
        simp -implicitDefEqProofs only [bnd_some, bo_some, condK_true, condK_false, gdA_undef, decide_true, decide_false, Int.reduceLE, Int.reduceLT, Int.reduceEq, Int.reduceNeg, Int.reduceAdd, gd_tt, gd_tf, gd_ft, gd_ff, unG_pure, lift_some, bnd_lift, Option.map_some, Option.bind_some, fieldPtr_ref, fieldPtr_ip, nil_ref, nil_ip, nil_fn, ex_tup, fl_agg, List.getElem?_cons_zero, List.getElem?_cons_succ, Nat.zero_add, Nat.add_zero, Nat.reduceAdd, pk_t, pk_f, lss_int, leq_int, gtr_int, geq_int, eql_int, neq_int, not_bool, beq_self_eq_true, if_true, Bool.false_eq_true, if_false, List.nil_append, List.cons_append, List.append_nil, alc_eq, mkm_eq, nNew, nPut, bNew, bPut, nGrd, bGrd, h1, h3, h4, h5, decide_true, add_int, h6, h7, this]
  have := key l.length 0 (by omega) (fun j a hj => by omega)
  simp -implicitDefEqProofs only [bnd_some, bo_some, condK_true, condK_false, gdA_undef, decide_true, decide_false, Int.reduceLE, Int.reduceLT, Int.reduceEq, Int.reduceNeg, Int.reduceAdd, gd_tt, gd_tf, gd_ft, gd_ff, unG_pure, lift_some, bnd_lift, Option.map_some, Option.bind_some, fieldPtr_ref, fieldPtr_ip, nil_ref, nil_ip, nil_fn, ex_tup, fl_agg, List.getElem?_cons_zero, List.getElem?_cons_succ, Nat.zero_add, Nat.add_zero, Nat.reduceAdd, pk_t, pk_f, lss_int, leq_int, gtr_int, geq_int, eql_int, neq_int, not_bool, beq_self_eq_true, if_true, Bool.false_eq_true, if_false, List.nil_append, List.cons_append, List.append_nil, alc_eq, mkm_eq, nNew, nPut, bNew, bPut, nGrd, bGrd, sh_96, e1]
  exact this
theorem right_sp (H : AHeap) (c : Cfg) (h : c.ok = true) (o : Opn) : cl 44 [.agg c.av, .agg o.av] H = some (B (c.right o), H) := by
  refine pure_val rfl rfl (rn_44 _ _ _ _) ?_ frz_s
  have e := fun H => lineOf_sp H c h o.addr
  have f1 : c.right o = (decide (1 ≤ o.kind) && decide (o.kind ≤ 4) && !decide (c.lineOf o.addr = -1) && (decide (o.value = 0) || decide (o.kind = 2) || decide (o.kind = 3))) := by simp [Cfg.right]
  rw [f1]
  by_cases a : 1 ≤ o.kind
  rotate_left
  · simp -implicitDefEqProofs only [bnd_some, bo_some, condK_true, condK_false, gdA_undef, decide_true, decide_false, Int.reduceLE, Int.reduceLT, Int.reduceEq, Int.reduceNeg, Int.reduceAdd, gd_tt, gd_tf, gd_ft, gd_ff, unG_pure, lift_some, bnd_lift, Option.map_some, Option.bind_some, fieldPtr_ref, fieldPtr_ip, nil_ref, nil_ip, nil_fn, ex_tup, fl_agg, List.getElem?_cons_zero, List.getElem?_cons_succ, Nat.zero_add, Nat.add_zero, Nat.reduceAdd, pk_t, pk_f, lss_int, leq_int, gtr_int, geq_int, eql_int, neq_int, not_bool, beq_self_eq_true, if_true, Bool.false_eq_true, if_false, List.nil_append, List.cons_append, List.append_nil, alc_eq, mkm_eq, nNew, nPut, bNew, bPut, nGrd, bGrd, ldN_is, ldN_lt, ldaN_is, ldaN_lt, stN_is, stN_lt, Nat.lt_add_one, ne_eq, nx1, nx2, nx3, ny1, ny2, ny3, not_false_eq_true, List.length_cons, List.length_nil, Nat.reduceLeDiff, setAt, List.take_succ_cons, List.take_zero, List.drop_succ_cons, List.drop_zero, cells_dat, cells_int, cells_bool, cells_agg, List.all_cons, List.all_nil, isCell_int, isCell_bool, isCell_dat, isCell_ref, isCell_nil, isCell_vsl, cells_vsl, av_len_cfg, av_len_pkt, av_len_opn, av_len_evn, av_len_ent, av_len_row, av_len_deal, av_len_pck, tk_cfg, tk_pkt, tk_opn, tk_evn, tk_ent, tk_row, tk_deal, tk_pck, all_cfg, all_pkt, all_opn, all_evn, all_ent, all_row, all_deal, all_pck, List.drop_nil, Bool.and_true, Bool.and_self, and_self, Nat.le_refl, true_and, and_true, Nat.le_add_right, leS, ltS, sh_44, box_agg, Opn.av, e, a, decide_false, Bool.false_and]
  by_cases b : o.kind ≤ 4
  rotate_left
  · simp -implicitDefEqProofs only [bnd_some, bo_some, condK_true, condK_false, gdA_undef, decide_true, decide_false, Int.reduceLE, Int.reduceLT, Int.reduceEq, Int.reduceNeg, Int.reduceAdd, gd_tt, gd_tf, gd_ft, gd_ff, unG_pure, lift_some, bnd_lift, Option.map_some, Option.bind_some, fieldPtr_ref, fieldPtr_ip, nil_ref, nil_ip, nil_fn, ex_tup, fl_agg, List.getElem?_cons_zero, List.getElem?_cons_succ, Nat.zero_add, Nat.add_zero, Nat.reduceAdd, pk_t, pk_f, lss_int, leq_int, gtr_int, geq_int, eql_int, neq_int, not_bool, beq_self_eq_true, if_true, Bool.false_eq_true, if_false, List.nil_append, List.cons_append, List.append_nil, alc_eq, mkm_eq, nNew, nPut, bNew, bPut, nGrd, bGrd, ldN_is, ldN_lt, ldaN_is, ldaN_lt, stN_is, stN_lt, Nat.lt_add_one, ne_eq, nx1, nx2, nx3, ny1, ny2, ny3, not_false_eq_true, List.length_cons, List.length_nil, Nat.reduceLeDiff, setAt, List.take_succ_cons, List.take_zero, List.drop_succ_cons, List.drop_zero, cells_dat, cells_int, cells_bool, cells_agg, List.all_cons, List.all_nil, isCell_int, isCell_bool, isCell_dat, isCell_ref, isCell_nil, isCell_vsl, cells_vsl, av_len_cfg, av_len_pkt, av_len_opn, av_len_evn, av_len_ent, av_len_row, av_len_deal, av_len_pck, tk_cfg, tk_pkt, tk_opn, tk_evn, tk_ent, tk_row, tk_deal, tk_pck, all_cfg, all_pkt, all_opn, all_evn, all_ent, all_row, all_deal, all_pck, List.drop_nil, Bool.and_true, Bool.and_self, and_self, Nat.le_refl, true_and, and_true, Nat.le_add_right, leS, ltS, sh_44, box_agg, Opn.av, e, a, b, decide_false, decide_true, Bool.true_and, Bool.false_and]
  by_cases d : c.lineOf o.addr = -1
  · simp -implicitDefEqProofs only [bnd_some, bo_some, condK_true, condK_false, gdA_undef, decide_true, decide_false, Int.reduceLE, Int.reduceLT, Int.reduceEq, Int.reduceNeg, Int.reduceAdd, gd_tt, gd_tf, gd_ft, gd_ff, unG_pure, lift_some, bnd_lift, Option.map_some, Option.bind_some, fieldPtr_ref, fieldPtr_ip, nil_ref, nil_ip, nil_fn, ex_tup, fl_agg, List.getElem?_cons_zero, List.getElem?_cons_succ, Nat.zero_add, Nat.add_zero, Nat.reduceAdd, pk_t, pk_f, lss_int, leq_int, gtr_int, geq_int, eql_int, neq_int, not_bool, beq_self_eq_true, if_true, Bool.false_eq_true, if_false, List.nil_append, List.cons_append, List.append_nil, alc_eq, mkm_eq, nNew, nPut, bNew, bPut, nGrd, bGrd, ldN_is, ldN_lt, ldaN_is, ldaN_lt, stN_is, stN_lt, Nat.lt_add_one, ne_eq, nx1, nx2, nx3, ny1, ny2, ny3, not_false_eq_true, List.length_cons, List.length_nil, Nat.reduceLeDiff, setAt, List.take_succ_cons, List.take_zero, List.drop_succ_cons, List.drop_zero, cells_dat, cells_int, cells_bool, cells_agg, List.all_cons, List.all_nil, isCell_int, isCell_bool, isCell_dat, isCell_ref, isCell_nil, isCell_vsl, cells_vsl, av_len_cfg, av_len_pkt, av_len_opn, av_len_evn, av_len_ent, av_len_row, av_len_deal, av_len_pck, tk_cfg, tk_pkt, tk_opn, tk_evn, tk_ent, tk_row, tk_deal, tk_pck, all_cfg, all_pkt, all_opn, all_evn, all_ent, all_row, all_deal, all_pck, List.drop_nil, Bool.and_true, Bool.and_self, and_self, Nat.le_refl, true_and, and_true, Nat.le_add_right, leS, ltS, sh_44, box_agg, Opn.av, e, a, b, d, decide_false, decide_true, Bool.true_and, Bool.false_and, Bool.not_true]
  by_cases f : o.value = 0
  · simp -implicitDefEqProofs only [bnd_some, bo_some, condK_true, condK_false, gdA_undef, decide_true, decide_false, Int.reduceLE, Int.reduceLT, Int.reduceEq, Int.reduceNeg, Int.reduceAdd, gd_tt, gd_tf, gd_ft, gd_ff, unG_pure, lift_some, bnd_lift, Option.map_some, Option.bind_some, fieldPtr_ref, fieldPtr_ip, nil_ref, nil_ip, nil_fn, ex_tup, fl_agg, List.getElem?_cons_zero, List.getElem?_cons_succ, Nat.zero_add, Nat.add_zero, Nat.reduceAdd, pk_t, pk_f, lss_int, leq_int, gtr_int, geq_int, eql_int, neq_int, not_bool, beq_self_eq_true, if_true, Bool.false_eq_true, if_false, List.nil_append, List.cons_append, List.append_nil, alc_eq, mkm_eq, nNew, nPut, bNew, bPut, nGrd, bGrd, ldN_is, ldN_lt, ldaN_is, ldaN_lt, stN_is, stN_lt, Nat.lt_add_one, ne_eq, nx1, nx2, nx3, ny1, ny2, ny3, not_false_eq_true, List.length_cons, List.length_nil, Nat.reduceLeDiff, setAt, List.take_succ_cons, List.take_zero, List.drop_succ_cons, List.drop_zero, cells_dat, cells_int, cells_bool, cells_agg, List.all_cons, List.all_nil, isCell_int, isCell_bool, isCell_dat, isCell_ref, isCell_nil, isCell_vsl, cells_vsl, av_len_cfg, av_len_pkt, av_len_opn, av_len_evn, av_len_ent, av_len_row, av_len_deal, av_len_pck, tk_cfg, tk_pkt, tk_opn, tk_evn, tk_ent, tk_row, tk_deal, tk_pck, all_cfg, all_pkt, all_opn, all_evn, all_ent, all_row, all_deal, all_pck, List.drop_nil, Bool.and_true, Bool.and_self, and_self, Nat.le_refl, true_and, and_true, Nat.le_add_right, leS, ltS, sh_44, box_agg, Opn.av, e, a, b, d, f, decide_false, decide_true, Bool.true_and, Bool.false_and, Bool.not_false, Bool.true_or, Bool.and_true]
  by_cases g : o.kind = 2
  · simp -implicitDefEqProofs only [bnd_some, bo_some, condK_true, condK_false, gdA_undef, decide_true, decide_false, Int.reduceLE, Int.reduceLT, Int.reduceEq, Int.reduceNeg, Int.reduceAdd, gd_tt, gd_tf, gd_ft, gd_ff, unG_pure, lift_some, bnd_lift, Option.map_some, Option.bind_some, fieldPtr_ref, fieldPtr_ip, nil_ref, nil_ip, nil_fn, ex_tup, fl_agg, List.getElem?_cons_zero, List.getElem?_cons_succ, Nat.zero_add, Nat.add_zero, Nat.reduceAdd, pk_t, pk_f, lss_int, leq_int, gtr_int, geq_int, eql_int, neq_int, not_bool, beq_self_eq_true, if_true, Bool.false_eq_true, if_false, List.nil_append, List.cons_append, List.append_nil, alc_eq, mkm_eq, nNew, nPut, bNew, bPut, nGrd, bGrd, ldN_is, ldN_lt, ldaN_is, ldaN_lt, stN_is, stN_lt, Nat.lt_add_one, ne_eq, nx1, nx2, nx3, ny1, ny2, ny3, not_false_eq_true, List.length_cons, List.length_nil, Nat.reduceLeDiff, setAt, List.take_succ_cons, List.take_zero, List.drop_succ_cons, List.drop_zero, cells_dat, cells_int, cells_bool, cells_agg, List.all_cons, List.all_nil, isCell_int, isCell_bool, isCell_dat, isCell_ref, isCell_nil, isCell_vsl, cells_vsl, av_len_cfg, av_len_pkt, av_len_opn, av_len_evn, av_len_ent, av_len_row, av_len_deal, av_len_pck, tk_cfg, tk_pkt, tk_opn, tk_evn, tk_ent, tk_row, tk_deal, tk_pck, all_cfg, all_pkt, all_opn, all_evn, all_ent, all_row, all_deal, all_pck, List.drop_nil, Bool.and_true, Bool.and_self, and_self, Nat.le_refl, true_and, and_true, Nat.le_add_right, leS, ltS, sh_44, box_agg, Opn.av, e, a, b, d, f, g, decide_false, decide_true, Bool.true_and, Bool.false_and, Bool.not_false, Bool.true_or, Bool.or_true, Bool.and_true]
  by_cases i : o.kind = 3
  · simp -implicitDefEqProofs only [bnd_some, bo_some, condK_true, condK_false, gdA_undef, decide_true, decide_false, Int.reduceLE, Int.reduceLT, Int.reduceEq, Int.reduceNeg, Int.reduceAdd, gd_tt, gd_tf, gd_ft, gd_ff, unG_pure, lift_some, bnd_lift, Option.map_some, Option.bind_some, fieldPtr_ref, fieldPtr_ip, nil_ref, nil_ip, nil_fn, ex_tup, fl_agg, List.getElem?_cons_zero, List.getElem?_cons_succ, Nat.zero_add, Nat.add_zero, Nat.reduceAdd, pk_t, pk_f, lss_int, leq_int, gtr_int, geq_int, eql_int, neq_int, not_bool, beq_self_eq_true, if_true, Bool.false_eq_true, if_false, List.nil_append, List.cons_append, List.append_nil, alc_eq, mkm_eq, nNew, nPut, bNew, bPut, nGrd, bGrd, ldN_is, ldN_lt, ldaN_is, ldaN_lt, stN_is, stN_lt, Nat.lt_add_one, ne_eq, nx1, nx2, nx3, ny1, ny2, ny3, not_false_eq_true, List.length_cons, List.length_nil, Nat.reduceLeDiff, setAt, List.take_succ_cons, List.take_zero, List.drop_succ_cons, List.drop_zero, cells_dat, cells_int, cells_bool, cells_agg, List.all_cons, List.all_nil, isCell_int, isCell_bool, isCell_dat, isCell_ref, isCell_nil, isCell_vsl, cells_vsl, av_len_cfg, av_len_pkt, av_len_opn, av_len_evn, av_len_ent, av_len_row, av_len_deal, av_len_pck, tk_cfg, tk_pkt, tk_opn, tk_evn, tk_ent, tk_row, tk_deal, tk_pck, all_cfg, all_pkt, all_opn, all_evn, all_ent, all_row, all_deal, all_pck, List.drop_nil, Bool.and_true, Bool.and_self, and_self, Nat.le_refl, true_and, and_true, Nat.le_add_right, leS, ltS, sh_44, box_agg, Opn.av, e, a, b, d, f, g, i, decide_false, decide_true, Bool.true_and, Bool.false_and, Bool.not_false, Bool.true_or, Bool.or_true, Bool.and_true]
  · simp -implicitDefEqProofs only [bnd_some, bo_some, condK_true, condK_false, gdA_undef, decide_true, decide_false, Int.reduceLE, Int.reduceLT, Int.reduceEq, Int.reduceNeg, Int.reduceAdd, gd_tt, gd_tf, gd_ft, gd_ff, unG_pure, lift_some, bnd_lift, Option.map_some, Option.bind_some, fieldPtr_ref, fieldPtr_ip, nil_ref, nil_ip, nil_fn, ex_tup, fl_agg, List.getElem?_cons_zero, List.getElem?_cons_succ, Nat.zero_add, Nat.add_zero, Nat.reduceAdd, pk_t, pk_f, lss_int, leq_int, gtr_int, geq_int, eql_int, neq_int, not_bool, beq_self_eq_true, if_true, Bool.false_eq_true, if_false, List.nil_append, List.cons_append, List.append_nil, alc_eq, mkm_eq, nNew, nPut, bNew, bPut, nGrd, bGrd, ldN_is, ldN_lt, ldaN_is, ldaN_lt, stN_is, stN_lt, Nat.lt_add_one, ne_eq, nx1, nx2, nx3, ny1, ny2, ny3, not_false_eq_true, List.length_cons, List.length_nil, Nat.reduceLeDiff, setAt, List.take_succ_cons, List.take_zero, List.drop_succ_cons, List.drop_zero, cells_dat, cells_int, cells_bool, cells_agg, List.all_cons, List.all_nil, isCell_int, isCell_bool, isCell_dat, isCell_ref, isCell_nil, isCell_vsl, cells_vsl, av_len_cfg, av_len_pkt, av_len_opn, av_len_evn, av_len_ent, av_len_row, av_len_deal, av_len_pck, tk_cfg, tk_pkt, tk_opn, tk_evn, tk_ent, tk_row, tk_deal, tk_pck, all_cfg, all_pkt, all_opn, all_evn, all_ent, all_row, all_deal, all_pck, List.drop_nil, Bool.and_true, Bool.and_self, and_self, Nat.le_refl, true_and, and_true, Nat.le_add_right, leS, ltS, sh_44, box_agg, Opn.av, e, a, b, d, f, g, i, decide_false, decide_true, Bool.true_and, Bool.false_and, Bool.not_false, Bool.or_false, Bool.and_false]
theorem notRight_sp (H : AHeap) (c : Cfg) (h : c.ok = true) (o : Opn) {r ty : Nat} (hr : r < H.next) (hg : H.get r = .blk 0 ty c.av) : cl 43 [.agg o.av, .ref r 0 0] H = some (B (!c.right o), H) := by
  refine pure_val rfl rfl (rn_43 _ _ _ _) ?_ frz_s
  have e := fun H => right_sp H c h o
  have e1 : lda 8 (.ref r 0 0) (H.guard.new (.blk 0 48 o.av)) = some (.agg (c.av.take 8), _) := lda_blk (off := 0) (n := 8) (by rw [getNew_lt (by rw [nGrd]; exact hr), gGrd]; exact hg) (Nat.le_refl 8)
  simp -implicitDefEqProofs only [bnd_some, bo_some, condK_true, condK_false, gdA_undef, decide_true, decide_false, Int.reduceLE, Int.reduceLT, Int.reduceEq, Int.reduceNeg, Int.reduceAdd, gd_tt, gd_tf, gd_ft, gd_ff, unG_pure, lift_some, bnd_lift, Option.map_some, Option.bind_some, fieldPtr_ref, fieldPtr_ip, nil_ref, nil_ip, nil_fn, ex_tup, fl_agg, List.getElem?_cons_zero, List.getElem?_cons_succ, Nat.zero_add, Nat.add_zero, Nat.reduceAdd, pk_t, pk_f, lss_int, leq_int, gtr_int, geq_int, eql_int, neq_int, not_bool, beq_self_eq_true, if_true, Bool.false_eq_true, if_false, List.nil_append, List.cons_append, List.append_nil, alc_eq, mkm_eq, nNew, nPut, bNew, bPut, nGrd, bGrd, ldN_is, ldN_lt, ldaN_is, ldaN_lt, stN_is, stN_lt, Nat.lt_add_one, ne_eq, nx1, nx2, nx3, ny1, ny2, ny3, not_false_eq_true, List.length_cons, List.length_nil, Nat.reduceLeDiff, setAt, List.take_succ_cons, List.take_zero, List.drop_succ_cons, List.drop_zero, cells_dat, cells_int, cells_bool, cells_agg, List.all_cons, List.all_nil, isCell_int, isCell_bool, isCell_dat, isCell_ref, isCell_nil, isCell_vsl, cells_vsl, av_len_cfg, av_len_pkt, av_len_opn, av_len_evn, av_len_ent, av_len_row, av_len_deal, av_len_pck, tk_cfg, tk_pkt, tk_opn, tk_evn, tk_ent, tk_row, tk_deal, tk_pck, all_cfg, all_pkt, all_opn, all_evn, all_ent, all_row, all_deal, all_pck, List.drop_nil, Bool.and_true, Bool.and_self, and_self, Nat.le_refl, true_and, and_true, Nat.le_add_right, leS, ltS, sh_43, box_agg (all_opn o), e1, e, List.drop_zero]
theorem idxI_nonneg {o : Option Nat} : decide (0 ≤ idxI o) = o.isSome := by
  cases o with
  | none => rfl
  | some i => simp [idxI]
theorem badOps_sp (H : AHeap) (c : Cfg) (h : c.ok = true) {v : AV} {l : List Opn} (hv : SliceIs H v 3 l.length (l.flatMap Opn.av)) (hl : l.length < 1000000000) {r ty : Nat} (hr : r < H.next) (hg : H.get r = .blk 0 ty c.av) : cl 41 [v, .ref r 0 0] H = some (B (!(decide (l.length ≤ 24) && l.all c.right)), H) := by
  refine pure_val rfl rfl (rn_41 _ _ _ _) ?_ frz_s
  have e1 := hv.guard.lnS
  have e2 := indexFuncOp H.guard (enc := Opn.av) av_len_opn (f := .fn (.func 43) [] [.ref r 0 0]) hv.guard hl (fun o => !c.right o) (fun o _ => by
    rw [callA_fun (by kernel_rfl)]
    exact notRight_sp H.guard c h o hr hg)
  have e3 : cl 42 [v, .fn (.func 43) [] [.ref r 0 0]] H.guard = some (B (l.findIdx? fun o => !c.right o).isSome, H.guard) := by
    refine run_cl rfl rfl (rn_42 _ _ _ _ ?_)
    simp -implicitDefEqProofs only [bnd_some, bo_some, condK_true, condK_false, gdA_undef, decide_true, decide_false, Int.reduceLE, Int.reduceLT, Int.reduceEq, Int.reduceNeg, Int.reduceAdd, gd_tt, gd_tf, gd_ft, gd_ff, unG_pure, lift_some, bnd_lift, Option.map_some, Option.bind_some, fieldPtr_ref, fieldPtr_ip, nil_ref, nil_ip, nil_fn, ex_tup, fl_agg, List.getElem?_cons_zero, List.getElem?_cons_succ, Nat.zero_add, Nat.add_zero, Nat.reduceAdd, pk_t, pk_f, lss_int, leq_int, gtr_int, geq_int, eql_int, neq_int, not_bool, beq_self_eq_true, if_true, Bool.false_eq_true, if_false, List.nil_append, List.cons_append, List.append_nil, alc_eq, mkm_eq, nNew, nPut, bNew, bPut, nGrd, bGrd, sh_42, e2, idxI_nonneg]
  have e4 : (l.findIdx? fun o => !c.right o).isSome = !l.all c.right := by
    rw [List.findIdx?_isSome, List.not_all_eq_any_not]
  by_cases h0 : l.length ≤ 24
  · have h1 : ¬ (24 : Int) < l.length := by omega
    simp -implicitDefEqProofs only [bnd_some, bo_some, condK_true, condK_false, gdA_undef, decide_true, decide_false, Int.reduceLE, Int.reduceLT, Int.reduceEq, Int.reduceNeg, Int.reduceAdd, gd_tt, gd_tf, gd_ft, gd_ff, unG_pure, lift_some, bnd_lift, Option.map_some, Option.bind_some, fieldPtr_ref, fieldPtr_ip, nil_ref, nil_ip, nil_fn, ex_tup, fl_agg, List.getElem?_cons_zero, List.getElem?_cons_succ, Nat.zero_add, Nat.add_zero, Nat.reduceAdd, pk_t, pk_f, lss_int, leq_int, gtr_int, geq_int, eql_int, neq_int, not_bool, beq_self_eq_true, if_true, Bool.false_eq_true, if_false, List.nil_append, List.cons_append, List.append_nil, alc_eq, mkm_eq, nNew, nPut, bNew, bPut, nGrd, bGrd, ldN_is, ldN_lt, ldaN_is, ldaN_lt, stN_is, stN_lt, Nat.lt_add_one, ne_eq, nx1, nx2, nx3, ny1, ny2, ny3, not_false_eq_true, List.length_cons, List.length_nil, Nat.reduceLeDiff, setAt, List.take_succ_cons, List.take_zero, List.drop_succ_cons, List.drop_zero, cells_dat, cells_int, cells_bool, cells_agg, List.all_cons, List.all_nil, isCell_int, isCell_bool, isCell_dat, isCell_ref, isCell_nil, isCell_vsl, cells_vsl, av_len_cfg, av_len_pkt, av_len_opn, av_len_evn, av_len_ent, av_len_row, av_len_deal, av_len_pck, tk_cfg, tk_pkt, tk_opn, tk_evn, tk_ent, tk_row, tk_deal, tk_pck, all_cfg, all_pkt, all_opn, all_evn, all_ent, all_row, all_deal, all_pck, List.drop_nil, Bool.and_true, Bool.and_self, and_self, Nat.le_refl, true_and, and_true, Nat.le_add_right, leS, ltS, sh_41, e1, e3, e4, h0, h1, Bool.true_and]
  · have h1 : (24 : Int) < l.length := by omega
    simp -implicitDefEqProofs only [bnd_some, bo_some, condK_true, condK_false, gdA_undef, decide_true, decide_false, Int.reduceLE, Int.reduceLT, Int.reduceEq, Int.reduceNeg, Int.reduceAdd, gd_tt, gd_tf, gd_ft, gd_ff, unG_pure, lift_some, bnd_lift, Option.map_some, Option.bind_some, fieldPtr_ref, fieldPtr_ip, nil_ref, nil_ip, nil_fn, ex_tup, fl_agg, List.getElem?_cons_zero, List.getElem?_cons_succ, Nat.zero_add, Nat.add_zero, Nat.reduceAdd, pk_t, pk_f, lss_int, leq_int, gtr_int, geq_int, eql_int, neq_int, not_bool, beq_self_eq_true, if_true, Bool.false_eq_true, if_false, List.nil_append, List.cons_append, List.append_nil, alc_eq, mkm_eq, nNew, nPut, bNew, bPut, nGrd, bGrd, ldN_is, ldN_lt, ldaN_is, ldaN_lt, stN_is, stN_lt, Nat.lt_add_one, ne_eq, nx1, nx2, nx3, ny1, ny2, ny3, not_false_eq_true, List.length_cons, List.length_nil, Nat.reduceLeDiff, setAt, List.take_succ_cons, List.take_zero, List.drop_succ_cons, List.drop_zero, cells_dat, cells_int, cells_bool, cells_agg, List.all_cons, List.all_nil, isCell_int, isCell_bool, isCell_dat, isCell_ref, isCell_nil, isCell_vsl, cells_vsl, av_len_cfg, av_len_pkt, av_len_opn, av_len_evn, av_len_ent, av_len_row, av_len_deal, av_len_pck, tk_cfg, tk_pkt, tk_opn, tk_evn, tk_ent, tk_row, tk_deal, tk_pck, all_cfg, all_pkt, all_opn, all_evn, all_ent, all_row, all_deal, all_pck, List.drop_nil, Bool.and_true, Bool.and_self, and_self, Nat.le_refl, true_and, and_true, Nat.le_add_right, leS, ltS, sh_41, e1, h0, h1, Bool.false_and, Bool.not_false]
/-- Programs, in whatever form. -/
def PsIs (H : AHeap) (x : AV) (ps : List (List Opn)) : Prop :=
  ∃ cells : List AV, SliceIs H x 1 ps.length cells ∧ ∀ (i : Nat) v l, cells[i]? = some v → ps[i]? = some l → SliceIs H v 3 l.length (l.flatMap Opn.av) ∧ (l = [] → v = zN)
theorem PsIs.of_get {H H' : AHeap} {x : AV} {ps : List (List Opn)} (h : PsIs H x ps) (hn : H.next ≤ H'.next) (hg : ∀ r, r < H.next → H'.get r = H.get r) : PsIs H' x ps := by
  obtain ⟨cells, h1, h2⟩ := h
  exact ⟨cells, h1.of_get hn fun r _ hr => hg r hr, fun i v l a b => ⟨(h2 i v l a b).1.of_get hn fun r _ hr => hg r hr, (h2 i v l a b).2⟩⟩
theorem range_findIdx {n : Nat} {p : Nat → Bool} : ∀ i, i ≤ n → (∀ j, j < i → p j = false) → (List.range n).findIdx? p = ((List.range' i (n - i)).findIdx? p).map (· + i) := by
  intro i hi hf
  rw [findIdx_at (List.range n) i fun j a hj ha => by
    have : a = j := by
      rw [List.getElem?_range (by omega)] at ha
      simpa using ha.symm
    rw [this]; exact hf j hj]
  congr 2
  rw [List.range_eq_range', List.drop_range']
  simp
theorem indexFuncPs (H : AHeap) {x f : AV} {n : Nat} {cells : List AV} (hx : SliceIs H x 1 n cells) (hl : n < 1000000000) (p : Nat → Bool)
    (hp : ∀ i v, cells[i]? = some v → callA Tryz.prog cl f [v] H = some (B (p i), H)) : cl 77 [x, f] H = some (I (idxI ((List.range n).findIdx? p)), H) := by
  have e1 := hx.lnS
  have hcl : cells.length = n := by have := hx.1; omega
  refine run_cl rfl rfl (rn_77 _ _ _ _ ?_)
  have key : ∀ k i, i + k = n → (∀ j, j < i → p j = false) → lp_77x0 cl [x, f, I n, I i] H = some (I (idxI ((List.range n).findIdx? p)), H) := by
    intro k
    induction k with
    | zero =>
      intro i hi hf
      have h1 : ¬ (i : Int) < n := by omega
      have h2 : (List.range n).findIdx? p = none := by rw [range_findIdx i (by omega) hf, show n - i = 0 by omega]; rfl
      rw [le_77x0]
      simp -implicitDefEqProofs only [bnd_some, bo_some, condK_true, condK_false, gdA_undef, decide_true, decide_false, Int.reduceLE, Int.reduceLT, Int.reduceEq, Int.reduceNeg, Int.reduceAdd, gd_tt, gd_tf, gd_ft, gd_ff, unG_pure, lift_some, bnd_lift, Option.map_some, Option.bind_some, fieldPtr_ref, fieldPtr_ip, nil_ref, nil_ip, nil_fn, ex_tup, fl_agg, List.getElem?_cons_zero, List.getElem?_cons_succ, Nat.zero_add, Nat.add_zero, Nat.reduceAdd, pk_t, pk_f, lss_int, leq_int, gtr_int, geq_int, eql_int, neq_int, not_bool, beq_self_eq_true, if_true, Bool.false_eq_true, if_false, List.nil_append, List.cons_append, List.append_nil, alc_eq, mkm_eq, nNew, nPut, bNew, bPut, nGrd, bGrd, h1, h2, idxI]
    | succ k ih =>
      intro i hi hf
      have h1 : (i : Int) < n := by omega
      have h3 := hx.ix (k := .i64) (i := (i : Int)) (by omega) h1
      obtain ⟨v, hv⟩ : ∃ v, cells[i]? = some v := ⟨_, List.getElem?_eq_getElem (by omega)⟩
      have h4 := hx.ld (i := i) (by omega)
      rw [hv] at h4
      have h5 := hp i v hv
      rw [Int.toNat_natCast] at h3
      rw [le_77x0]
      cases hpa : p i with
      | true =>
        have h2 : (List.range n).findIdx? p = some i := by
          rw [range_findIdx i (by omega) hf, show n - i = k + 1 by omega, List.range'_succ, List.findIdx?_cons, hpa]; simp
        rw [hpa] at h5
        simp -implicitDefEqProofs only [bnd_some, bo_some, condK_true, condK_false, gdA_undef, decide_true, decide_false, Int.reduceLE, Int.reduceLT, Int.reduceEq, Int.reduceNeg, Int.reduceAdd, gd_tt, gd_tf, gd_ft, gd_ff, unG_pure, lift_some, bnd_lift, Option.map_some, Option.bind_some, fieldPtr_ref, fieldPtr_ip, nil_ref, nil_ip, nil_fn, ex_tup, fl_agg, List.getElem?_cons_zero, List.getElem?_cons_succ, Nat.zero_add, Nat.add_zero, Nat.reduceAdd, pk_t, pk_f, lss_int, leq_int, gtr_int, geq_int, eql_int, neq_int, not_bool, beq_self_eq_true, if_true, Bool.false_eq_true, if_false, List.nil_append, List.cons_append, List.append_nil, alc_eq, mkm_eq, nNew, nPut, bNew, bPut, nGrd, bGrd, h1, h2, h3, h4, h5, idxI]
      | false =>
        rw [hpa] at h5
        have h6 : (i : Int) + 1 = ((i + 1 : Nat) : Int) := by omega
        have h7 := wrap_i64 (a := ((i + 1 : Nat) : Int)) (by omega) (by omega)
        have := ih (i + 1) (by omega) fun j hj => by
          by_cases hji : j = i
          · rw [hji]; exact hpa
          · exact hf j (by omega)
        simp -implicitDefEqProofs only [bnd_some, bo_some, condK_true, condK_false, gdA_undef, decide_true, decide_false, Int.reduceLE, Int.reduceLT, Int.reduceEq, Int.reduceNeg, Int.reduceAdd, gd_tt, gd_tf, gd_ft, gd_ff, unG_pure, lift_some, bnd_lift, Option.map_some, Option.bind_some, fieldPtr_ref, fieldPtr_ip, nil_ref, nil_ip, nil_fn, ex_tup, fl_agg, List.getElem?_cons_zero, List.getElem?_cons_succ, Nat.zero_add, Nat.add_zero, Nat.reduceAdd, pk_t, pk_f, lss_int, leq_int, gtr_int, geq_int, eql_int, neq_int, not_bool, beq_self_eq_true, if_true, Bool.false_eq_true, if_false, List.nil_append, List.cons_append, List.append_nil, alc_eq, mkm_eq, nNew, nPut, bNew, bPut, nGrd, bGrd, h1, h3, h4, h5, add_int, h6, h7, this]
  have := key n 0 (by omega) (fun j hj => by omega)
  simp -implicitDefEqProofs only [bnd_some, bo_some, condK_true, condK_false, gdA_undef, decide_true, decide_false, Int.reduceLE, Int.reduceLT, Int.reduceEq, Int.reduceNeg, Int.reduceAdd, gd_tt, gd_tf, gd_ft, gd_ff, unG_pure, lift_some, bnd_lift, Option.map_some, Option.bind_some, fieldPtr_ref, fieldPtr_ip, nil_ref, nil_ip, nil_fn, ex_tup, fl_agg, List.getElem?_cons_zero, List.getElem?_cons_succ, Nat.zero_add, Nat.add_zero, Nat.reduceAdd, pk_t, pk_f, lss_int, leq_int, gtr_int, geq_int, eql_int, neq_int, not_bool, beq_self_eq_true, if_true, Bool.false_eq_true, if_false, List.nil_append, List.cons_append, List.append_nil, alc_eq, mkm_eq, nNew, nPut, bNew, bPut, nGrd, bGrd, sh_77, e1]
  exact this
theorem ops_sp (H : AHeap) (c : Cfg) (h : c.ok = true) {x : AV} {ps : List (List Opn)} (hx : PsIs H x ps) (hn : ps.length < 1000000000) (hl : ∀ l ∈ ps, l.length < 1000000000) : cl 16 [.agg c.av, x] H = some (I (if c.opsOk ps then 0 else 1), H) := by
  refine pure_val rfl rfl (rn_16 _ _ _ _) ?_ frz_s
  have hx1 := hx.of_get (H' := H.guard.new (.blk 0 26 c.av)) (by rw [nNew, nGrd]; omega) fun r hr => by rw [getNew_lt (by rw [nGrd]; exact hr), gGrd]
  obtain ⟨cells, x1, x2⟩ := hx1
  have hcl : cells.length = ps.length := by have := x1.1; omega
  let bad : List Opn → Bool := fun l => !(decide (l.length ≤ 24) && l.all c.right)
  have e2 := indexFuncPs (H.guard.new (.blk 0 26 c.av)) (f := .fn (.func 41) [] [.ref H.next 0 0]) x1 hn (fun i => bad (ps.getD i [])) (fun i v hv => by
    have hi : i < ps.length := by rw [← hcl]; exact (List.getElem?_eq_some_iff.1 hv).1
    have hpi : ps[i]? = some (ps.getD i []) := by simp [List.getD, List.getElem?_eq_getElem hi]
    rw [callA_fun (by kernel_rfl)]
    exact badOps_sp _ c h (x2 i v _ hv hpi).1 (hl _ (List.mem_of_getElem? hpi)) (by rw [nNew, nGrd]; omega) (getNew_is (by rw [nGrd])))
  have e4 : ((List.range ps.length).findIdx? fun i => bad (ps.getD i [])).isSome = !(ps.all fun l => decide (l.length ≤ 24) && l.all c.right) := by
    rw [List.findIdx?_isSome, List.not_all_eq_any_not, Bool.eq_iff_iff, List.any_eq_true, List.any_eq_true]
    constructor
    · rintro ⟨i, hi, hb⟩
      have hi : i < ps.length := List.mem_range.1 hi
      exact ⟨ps.getD i [], List.mem_of_getElem? (i := i) (by simp [List.getD, List.getElem?_eq_getElem hi]), hb⟩
    · rintro ⟨l, hm, hb⟩
      obtain ⟨i, hi, he⟩ := List.getElem_of_mem hm
      have hg : ps.getD i [] = l := by simp [List.getD, List.getElem?_eq_getElem hi, he]
      exact ⟨i, List.mem_range.2 hi, by rw [hg]; exact hb⟩
  have e3 : cl 40 [x, .fn (.func 41) [] [.ref H.next 0 0]] (H.guard.new (.blk 0 26 c.av)) = some (B (!(ps.all fun l => decide (l.length ≤ 24) && l.all c.right)), H.guard.new (.blk 0 26 c.av)) := by
    refine run_cl rfl rfl (rn_40 _ _ _ _ ?_)
    simp -implicitDefEqProofs only [bnd_some, bo_some, condK_true, condK_false, gdA_undef, decide_true, decide_false, Int.reduceLE, Int.reduceLT, Int.reduceEq, Int.reduceNeg, Int.reduceAdd, gd_tt, gd_tf, gd_ft, gd_ff, unG_pure, lift_some, bnd_lift, Option.map_some, Option.bind_some, fieldPtr_ref, fieldPtr_ip, nil_ref, nil_ip, nil_fn, ex_tup, fl_agg, List.getElem?_cons_zero, List.getElem?_cons_succ, Nat.zero_add, Nat.add_zero, Nat.reduceAdd, pk_t, pk_f, lss_int, leq_int, gtr_int, geq_int, eql_int, neq_int, not_bool, beq_self_eq_true, if_true, Bool.false_eq_true, if_false, List.nil_append, List.cons_append, List.append_nil, alc_eq, mkm_eq, nNew, nPut, bNew, bPut, nGrd, bGrd, sh_40, e2, idxI_nonneg, e4]
  have l0 : c.av[0]? = some (I c.nodes) := rfl
  have e5 := x1.lnS
  cases hb : ps.all fun l => decide (l.length ≤ 24) && l.all c.right with
  | false => simp -implicitDefEqProofs only [bnd_some, bo_some, condK_true, condK_false, gdA_undef, decide_true, decide_false, Int.reduceLE, Int.reduceLT, Int.reduceEq, Int.reduceNeg, Int.reduceAdd, gd_tt, gd_tf, gd_ft, gd_ff, unG_pure, lift_some, bnd_lift, Option.map_some, Option.bind_some, fieldPtr_ref, fieldPtr_ip, nil_ref, nil_ip, nil_fn, ex_tup, fl_agg, List.getElem?_cons_zero, List.getElem?_cons_succ, Nat.zero_add, Nat.add_zero, Nat.reduceAdd, pk_t, pk_f, lss_int, leq_int, gtr_int, geq_int, eql_int, neq_int, not_bool, beq_self_eq_true, if_true, Bool.false_eq_true, if_false, List.nil_append, List.cons_append, List.append_nil, alc_eq, mkm_eq, nNew, nPut, bNew, bPut, nGrd, bGrd, ldN_is, ldN_lt, ldaN_is, ldaN_lt, stN_is, stN_lt, Nat.lt_add_one, ne_eq, nx1, nx2, nx3, ny1, ny2, ny3, not_false_eq_true, List.length_cons, List.length_nil, Nat.reduceLeDiff, setAt, List.take_succ_cons, List.take_zero, List.drop_succ_cons, List.drop_zero, cells_dat, cells_int, cells_bool, cells_agg, List.all_cons, List.all_nil, isCell_int, isCell_bool, isCell_dat, isCell_ref, isCell_nil, isCell_vsl, cells_vsl, av_len_cfg, av_len_pkt, av_len_opn, av_len_evn, av_len_ent, av_len_row, av_len_deal, av_len_pck, tk_cfg, tk_pkt, tk_opn, tk_evn, tk_ent, tk_row, tk_deal, tk_pck, all_cfg, all_pkt, all_opn, all_evn, all_ent, all_row, all_deal, all_pck, List.drop_nil, Bool.and_true, Bool.and_self, and_self, Nat.le_refl, true_and, and_true, Nat.le_add_right, leS, ltS, sh_16, box_agg (all_cfg c), e3, hb, Bool.not_false, Cfg.opsOk, Bool.false_and]
  | true =>
    by_cases hc : (ps.length : Int) = c.nodes
    · simp -implicitDefEqProofs only [bnd_some, bo_some, condK_true, condK_false, gdA_undef, decide_true, decide_false, Int.reduceLE, Int.reduceLT, Int.reduceEq, Int.reduceNeg, Int.reduceAdd, gd_tt, gd_tf, gd_ft, gd_ff, unG_pure, lift_some, bnd_lift, Option.map_some, Option.bind_some, fieldPtr_ref, fieldPtr_ip, nil_ref, nil_ip, nil_fn, ex_tup, fl_agg, List.getElem?_cons_zero, List.getElem?_cons_succ, Nat.zero_add, Nat.add_zero, Nat.reduceAdd, pk_t, pk_f, lss_int, leq_int, gtr_int, geq_int, eql_int, neq_int, not_bool, beq_self_eq_true, if_true, Bool.false_eq_true, if_false, List.nil_append, List.cons_append, List.append_nil, alc_eq, mkm_eq, nNew, nPut, bNew, bPut, nGrd, bGrd, ldN_is, ldN_lt, ldaN_is, ldaN_lt, stN_is, stN_lt, Nat.lt_add_one, ne_eq, nx1, nx2, nx3, ny1, ny2, ny3, not_false_eq_true, List.length_cons, List.length_nil, Nat.reduceLeDiff, setAt, List.take_succ_cons, List.take_zero, List.drop_succ_cons, List.drop_zero, cells_dat, cells_int, cells_bool, cells_agg, List.all_cons, List.all_nil, isCell_int, isCell_bool, isCell_dat, isCell_ref, isCell_nil, isCell_vsl, cells_vsl, av_len_cfg, av_len_pkt, av_len_opn, av_len_evn, av_len_ent, av_len_row, av_len_deal, av_len_pck, tk_cfg, tk_pkt, tk_opn, tk_evn, tk_ent, tk_row, tk_deal, tk_pck, all_cfg, all_pkt, all_opn, all_evn, all_ent, all_row, all_deal, all_pck, List.drop_nil, Bool.and_true, Bool.and_self, and_self, Nat.le_refl, true_and, and_true, Nat.le_add_right, leS, ltS, sh_16, box_agg (all_cfg c), e3, e5, hb, l0, Bool.not_true, Cfg.opsOk, Bool.true_and, hc]
    · simp -implicitDefEqProofs only [bnd_some, bo_some, condK_true, condK_false, gdA_undef, decide_true, decide_false, Int.reduceLE, Int.reduceLT, Int.reduceEq, Int.reduceNeg, Int.reduceAdd, gd_tt, gd_tf, gd_ft, gd_ff, unG_pure, lift_some, bnd_lift, Option.map_some, Option.bind_some, fieldPtr_ref, fieldPtr_ip, nil_ref, nil_ip, nil_fn, ex_tup, fl_agg, List.getElem?_cons_zero, List.getElem?_cons_succ, Nat.zero_add, Nat.add_zero, Nat.reduceAdd, pk_t, pk_f, lss_int, leq_int, gtr_int, geq_int, eql_int, neq_int, not_bool, beq_self_eq_true, if_true, Bool.false_eq_true, if_false, List.nil_append, List.cons_append, List.append_nil, alc_eq, mkm_eq, nNew, nPut, bNew, bPut, nGrd, bGrd, ldN_is, ldN_lt, ldaN_is, ldaN_lt, stN_is, stN_lt, Nat.lt_add_one, ne_eq, nx1, nx2, nx3, ny1, ny2, ny3, not_false_eq_true, List.length_cons, List.length_nil, Nat.reduceLeDiff, setAt, List.take_succ_cons, List.take_zero, List.drop_succ_cons, List.drop_zero, cells_dat, cells_int, cells_bool, cells_agg, List.all_cons, List.all_nil, isCell_int, isCell_bool, isCell_dat, isCell_ref, isCell_nil, isCell_vsl, cells_vsl, av_len_cfg, av_len_pkt, av_len_opn, av_len_evn, av_len_ent, av_len_row, av_len_deal, av_len_pck, tk_cfg, tk_pkt, tk_opn, tk_evn, tk_ent, tk_row, tk_deal, tk_pck, all_cfg, all_pkt, all_opn, all_evn, all_ent, all_row, all_deal, all_pck, List.drop_nil, Bool.and_true, Bool.and_self, and_self, Nat.le_refl, true_and, and_true, Nat.le_add_right, leS, ltS, sh_16, box_agg (all_cfg c), e3, e5, hb, l0, Bool.not_true, Bool.not_false, Cfg.opsOk, Bool.true_and, hc]

end Go.Proofs.YtlcdejlbmnjlaaaGreat

namespace Go.Proofs.YtlcdejlbmnjlaaaGreat

theorem first_ne {c : Cfg} (h : c.ok = true) {line : Int} (h0 : 0 ≤ line) (h1 : line < c.lines) : c.first line ≠ [] := by
  have B := cfgB h
  unfold Cfg.first
  rw [if_neg (by omega)]
  intro e
  have := congrArg List.length e
  simp only [List.length_map, List.length_range, List.length_nil] at this
  have := B.words
  omega
theorem first_cells {c : Cfg} (h : c.ok = true) {line : Int} (h0 : 0 ≤ line) (h1 : line < c.lines) {from_ : Nat} (hf : (from_ : Int) = min (line * c.words) c.init.length) :
    setAt (List.replicate c.words.toNat zI) 0 (((c.init.map I).drop from_).take (min (c.init.length - from_) c.words.toNat)) = (c.first line).map I := by
  have B := cfgB h
  have hw := B.words
  have hlw : 0 ≤ line * c.words := Int.mul_nonneg h0 (by omega)
  unfold Cfg.first
  rw [if_neg (by omega)]
  apply List.ext_getElem?
  intro i
  have hlen : (((c.init.map I).drop from_).take (min (c.init.length - from_) c.words.toNat)).length = min (c.init.length - from_) c.words.toNat := by
    rw [List.length_take, List.length_drop, List.length_map]; omega
  rw [setA_get (by rw [hlen, List.length_replicate]; omega), hlen]
  rcases Nat.lt_or_ge i c.words.toNat with hi | hi
  · simp only [List.getElem?_map, List.getElem?_range hi, Option.map_some]
    by_cases hc : i < c.init.length - from_
    · rw [if_pos (by omega), Nat.sub_zero, List.getElem?_take, if_pos (by omega), List.getElem?_drop, List.getElem?_map]
      have e : from_ = (line * c.words).toNat := by omega
      rw [e]
      have hlt : (line * c.words).toNat + i < c.init.length := by omega
      simp [List.getD, List.getElem?_eq_getElem hlt]
    · rw [if_neg (by omega), List.getElem?_replicate, if_pos hi]
      have hge : c.init.length ≤ (line * c.words).toNat + i := by omega
      simp [List.getD, List.getElem?_eq_none hge]
  · rw [if_neg (by omega), List.getElem?_eq_none (by simp; omega), List.getElem?_eq_none (by simp; omega)]
theorem words_sp (H : AHeap) (c : Cfg) (h : c.ok = true) (line : Int) (h0 : 0 ≤ line) (h1 : line < c.lines) : cl 93 [.agg c.av, I line] H = some (dat (c.first line), H) := by
  have B := cfgB h
  have hw := B.words
  have hlw : 0 ≤ line * c.words := Int.mul_nonneg h0 (by omega)
  have hlw2 : line * c.words ≤ 8 * 4 := Int.mul_le_mul (by have := B.lines; omega) hw.2 (by omega) (by omega)
  have w := wrap_i64 (a := line * c.words) (by omega) (by omega)
  have l1 : c.av[1]? = some (I c.lines) := rfl
  have l2 : c.av[2]? = some (I c.words) := rfl
  have l7 : c.av[7]? = some (dat c.init) := rfl
  let H1 := (H.guard.new (.blk 0 26 c.av)).new (.blk 0 3 (zerosL [zI] c.words.toNat))
  have e1 := mks_eq (e := 3) (m := 1) (by_ := 8) (z := [zI]) (n := c.words) (H := H.guard.new (.blk 0 26 c.av)) rfl rfl (by omega) (by omega) (by decide)
  have e2 := fun H => (dat_is H c.init).lnS
  have hm : 0 ≤ min (line * c.words) (c.init.length : Int) := by omega
  obtain ⟨y, e3, e4⟩ := (dat_is H1 c.init).from_ (k := .i64) (lo := min (line * c.words) (c.init.length : Int)) hm (by omega)
  obtain ⟨H2, e5, e6, e7, e8, e9⟩ := cpy_eq (H := H1) (r := H.next + 1) (g := 0) (off := 0) (m := 1) (len := c.words.toNat) (cap := c.words.toNat) (ex := true) (ty := 3) (getNew_is (by rw [nNew, nGrd])) (by show H.next ≤ _; omega) (by rw [zerosL_one]; simp) e4 (all_drop (ints_all _) _)
  refine pure_cl rfl rfl (rn_93 _ _ _ _ (r := (.sl (H.next + 1) 0 0 1 c.words.toNat c.words.toNat true, H2)) ?_) ?_
  · have n0 : ¬ line < 0 := by omega
    have n1 : ¬ c.lines ≤ line := by omega
    simp only [nNew, nGrd] at e1
    simp -implicitDefEqProofs only [bnd_some, bo_some, condK_true, condK_false, gdA_undef, decide_true, decide_false, Int.reduceLE, Int.reduceLT, Int.reduceEq, Int.reduceNeg, Int.reduceAdd, gd_tt, gd_tf, gd_ft, gd_ff, unG_pure, lift_some, bnd_lift, Option.map_some, Option.bind_some, fieldPtr_ref, fieldPtr_ip, nil_ref, nil_ip, nil_fn, ex_tup, fl_agg, List.getElem?_cons_zero, List.getElem?_cons_succ, Nat.zero_add, Nat.add_zero, Nat.reduceAdd, pk_t, pk_f, lss_int, leq_int, gtr_int, geq_int, eql_int, neq_int, not_bool, beq_self_eq_true, if_true, Bool.false_eq_true, if_false, List.nil_append, List.cons_append, List.append_nil, alc_eq, mkm_eq, nNew, nPut, bNew, bPut, nGrd, bGrd, ldN_is, ldN_lt, ldaN_is, ldaN_lt, stN_is, stN_lt, Nat.lt_add_one, ne_eq, nx1, nx2, nx3, ny1, ny2, ny3, not_false_eq_true, List.length_cons, List.length_nil, Nat.reduceLeDiff, setAt, List.take_succ_cons, List.take_zero, List.drop_succ_cons, List.drop_zero, cells_dat, cells_int, cells_bool, cells_agg, List.all_cons, List.all_nil, isCell_int, isCell_bool, isCell_dat, isCell_ref, isCell_nil, isCell_vsl, cells_vsl, av_len_cfg, av_len_pkt, av_len_opn, av_len_evn, av_len_ent, av_len_row, av_len_deal, av_len_pck, tk_cfg, tk_pkt, tk_opn, tk_evn, tk_ent, tk_row, tk_deal, tk_pck, all_cfg, all_pkt, all_opn, all_evn, all_ent, all_row, all_deal, all_pck, List.drop_nil, Bool.and_true, Bool.and_self, and_self, Nat.le_refl, true_and, and_true, Nat.le_add_right, leS, ltS, sh_93, box_agg (all_cfg c), n0, n1, l1, l2, l7, e1, e2, mul_int, w, min_int, e3, e5, H1]
  · rw [dat_eq (first_ne h h0 h1)]
    have hf := first_cells h h0 h1 (from_ := (min (line * c.words) (c.init.length : Int)).toNat) (by omega)
    rw [zerosL_one, Nat.mul_one, Nat.mul_one, hf] at e6
    have hlen : (c.first line).length = c.words.toNat := by
      unfold Cfg.first
      rw [if_neg (by omega)]; simp
    rw [hlen]
    refine freeze_sl (by omega) (cells := (c.first line).map I) ?_ (freeze_all _ fun x hx => frz_ints _ x hx _ _)
    simp only [sliceCells, e6]
    rw [if_pos ⟨trivial, by simp [hlen]⟩, List.drop_zero, List.take_of_length_le (by simp [hlen])]

end Go.Proofs.YtlcdejlbmnjlaaaGreat

namespace Go.Proofs.YtlcdejlbmnjlaaaGreat

structure Node where
  cache : Cache
  proc : Proc
  home : Home
  deal : Deal
  num : Int
structure Mach where
  c : Cfg
  nodes : List Node
  fab : Fab
  trace : List Evn
/-- The rows of a node's lines. -/
def Cfg.rowsTo (c : Cfg) (me : Int) : Nat → Rows
  | 0 => []
  | n + 1 => if c.homeOf n = me then aput (c.rowsTo me n) n ⟨0, -1, c.first n⟩ else c.rowsTo me n
def Home.new (c : Cfg) (me : Int) : Home := ⟨c.rowsTo me c.lines.toNat, ⟨[], []⟩⟩
def Node.new (c : Cfg) (me : Int) (l : List Opn) : Node := ⟨⟨[], c.sets, c.ways, 0⟩, ⟨l, [], false⟩, .new c me, .zero, 0⟩
def Fab.new (c : Cfg) : Fab := ⟨c.out, c.inn, List.replicate c.nodes.toNat .zero⟩
def Mach.new (c : Cfg) (ps : List (List Opn)) : Mach := ⟨c, ps.mapIdx fun i l => .new c i l, .new c, []⟩

end Go.Proofs.YtlcdejlbmnjlaaaGreat

namespace Go.Proofs.YtlcdejlbmnjlaaaGreat

theorem dirO_put (c : Cfg) (rows : Rows) (n : Int) (r : Row) : (dirO c rows).set 8 (.map .i64 (putE (encM (fun r => .agg r.av) rows) n (.agg r.av))) = dirO c (aput rows n r) := by
  have := put_enc (f := fun r : Row => AV.agg r.av) rows n r
  rw [this]
  rfl
theorem memdirNew (H : AHeap) (hb : H.base ≤ H.next) (c : Cfg) (h : c.ok = true) (me : Int) : ∃ H' q, cl 81 [.agg c.av, I me] H = some (.ref q 0 0, H') ∧ Made H H' (upd nil0 q (dirO c (c.rowsTo me c.lines.toNat))) := by
  have B := cfgB h
  let Hb := H.new (.blk 0 26 c.av)
  let Hm := Hb.new (.map .i64 [])
  let H0 := Hm.new (.blk 0 196 (c.av ++ [.mp (H.next + 1)]))
  have M0 : Made Hb H0 (upd nil0 (H.next + 2) (dirO c [])) := by
    refine made_maps (H' := Hm) (by simp only [Hb, nNew]; omega) (by simp only [Hm, Hb, nNew]) rfl (fun r hr => getNew_lt hr) (by rw [List.all_append, all_cfg]; rfl) (by simp [dirO]) (fun r => if r = H.next + 1 then some 8 else none) fun i cc x hc hx => ?_
    by_cases hi : i < 8
    · left
      simp only [dirO, List.length_map] at hc
      rw [List.getElem?_append_left (by simp [Cfg.av]; omega), List.getElem?_map] at hc
      rw [List.getElem?_append_left (by simp [Cfg.av]; omega)] at hx
      rw [hx] at hc
      exact (Option.some.inj hc).symm
    · have : i = 8 := by
        have := (List.getElem?_eq_some_iff.1 hx).1
        simp [Cfg.av] at this
        omega
      subst this
      right; right
      cases hc; cases hx
      exact ⟨H.next + 1, .i64, rfl, by simp only [Hb, nNew]; omega, by omega, by simp, getNew_is (by simp only [Hb, nNew]), .inl rfl⟩
  have key : ∀ k i, i + k = c.lines.toNat → ∀ Hi, Made Hb Hi (upd nil0 (H.next + 2) (dirO c (c.rowsTo me i))) → ∃ H', lp_81x0 cl [I me, .ref H.next 0 0, .ref (H.next + 2) 0 0, I c.lines, I i] Hi = some (.ref (H.next + 2) 0 0, H') ∧ Made Hb H' (upd nil0 (H.next + 2) (dirO c (c.rowsTo me c.lines.toNat))) := by
    intro k
    induction k with
    | zero =>
      intro i hi Hi M
      have h1 : ¬ (i : Int) < c.lines := by omega
      rw [le_81x0]
      refine ⟨Hi, ?_, by rw [show c.lines.toNat = i by omega]; exact M⟩
      simp -implicitDefEqProofs only [bnd_some, bo_some, condK_true, condK_false, gdA_undef, decide_true, decide_false, Int.reduceLE, Int.reduceLT, Int.reduceEq, Int.reduceNeg, Int.reduceAdd, gd_tt, gd_tf, gd_ft, gd_ff, unG_pure, lift_some, bnd_lift, Option.map_some, Option.bind_some, fieldPtr_ref, fieldPtr_ip, nil_ref, nil_ip, nil_fn, ex_tup, fl_agg, List.getElem?_cons_zero, List.getElem?_cons_succ, Nat.zero_add, Nat.add_zero, Nat.reduceAdd, pk_t, pk_f, lss_int, leq_int, gtr_int, geq_int, eql_int, neq_int, not_bool, beq_self_eq_true, if_true, Bool.false_eq_true, if_false, List.nil_append, List.cons_append, List.append_nil, alc_eq, mkm_eq, nNew, nPut, bNew, bPut, nGrd, bGrd, ldN_is, ldN_lt, ldaN_is, ldaN_lt, stN_is, stN_lt, Nat.lt_add_one, ne_eq, nx1, nx2, nx3, ny1, ny2, ny3, not_false_eq_true, List.length_cons, List.length_nil, Nat.reduceLeDiff, setAt, List.take_succ_cons, List.take_zero, List.drop_succ_cons, List.drop_zero, cells_dat, cells_int, cells_bool, cells_agg, List.all_cons, List.all_nil, isCell_int, isCell_bool, isCell_dat, isCell_ref, isCell_nil, isCell_vsl, cells_vsl, av_len_cfg, av_len_pkt, av_len_opn, av_len_evn, av_len_ent, av_len_row, av_len_deal, av_len_pck, tk_cfg, tk_pkt, tk_opn, tk_evn, tk_ent, tk_row, tk_deal, tk_pck, all_cfg, all_pkt, all_opn, all_evn, all_ent, all_row, all_deal, all_pck, List.drop_nil, Bool.and_true, Bool.and_self, and_self, Nat.le_refl, true_and, and_true, Nat.le_add_right, leS, ltS, h1]
    | succ k ih =>
      intro i hi Hi M
      have h1 : (i : Int) < c.lines := by omega
      have hbx : Hi.get H.next = .blk 0 26 c.av := by rw [M.same _ (by simp only [Hb, nNew]; omega)]; exact getNew_is rfl
      have hbn : H.next < Hi.next := Nat.lt_of_lt_of_le (by simp only [Hb, nNew]; omega) M.next
      have e1 : lda 8 (.ref H.next 0 0) Hi = some (.agg c.av, Hi) := (lda_blk (off := 0) (n := 8) hbx (Nat.le_refl 8)).trans rfl
      have e2 := homeOf_sp Hi c h i
      have h6 : (i : Int) + 1 = ((i + 1 : Nat) : Int) := by omega
      have h7 := wrap_i64 (a := ((i + 1 : Nat) : Int)) (by have := B.lines; omega) (by have := B.lines; omega)
      have tail : ∀ Hj, Made Hb Hj (upd nil0 (H.next + 2) (dirO c (c.rowsTo me (i + 1)))) → ∃ H', jn_81x0 cl (I me) (.ref H.next 0 0) (.ref (H.next + 2) 0 0) (I c.lines) (I i) Hj = some (.ref (H.next + 2) 0 0, H') ∧ Made Hb H' (upd nil0 (H.next + 2) (dirO c (c.rowsTo me c.lines.toNat))) := by
        intro Hj Mj
        obtain ⟨H', a1, a2⟩ := ih (i + 1) (by omega) Hj Mj
        refine ⟨H', ?_, a2⟩
        simp -implicitDefEqProofs only [bnd_some, bo_some, condK_true, condK_false, gdA_undef, decide_true, decide_false, Int.reduceLE, Int.reduceLT, Int.reduceEq, Int.reduceNeg, Int.reduceAdd, gd_tt, gd_tf, gd_ft, gd_ff, unG_pure, lift_some, bnd_lift, Option.map_some, Option.bind_some, fieldPtr_ref, fieldPtr_ip, nil_ref, nil_ip, nil_fn, ex_tup, fl_agg, List.getElem?_cons_zero, List.getElem?_cons_succ, Nat.zero_add, Nat.add_zero, Nat.reduceAdd, pk_t, pk_f, lss_int, leq_int, gtr_int, geq_int, eql_int, neq_int, not_bool, beq_self_eq_true, if_true, Bool.false_eq_true, if_false, List.nil_append, List.cons_append, List.append_nil, alc_eq, mkm_eq, nNew, nPut, bNew, bPut, nGrd, bGrd, ldN_is, ldN_lt, ldaN_is, ldaN_lt, stN_is, stN_lt, Nat.lt_add_one, ne_eq, nx1, nx2, nx3, ny1, ny2, ny3, not_false_eq_true, List.length_cons, List.length_nil, Nat.reduceLeDiff, setAt, List.take_succ_cons, List.take_zero, List.drop_succ_cons, List.drop_zero, cells_dat, cells_int, cells_bool, cells_agg, List.all_cons, List.all_nil, isCell_int, isCell_bool, isCell_dat, isCell_ref, isCell_nil, isCell_vsl, cells_vsl, av_len_cfg, av_len_pkt, av_len_opn, av_len_evn, av_len_ent, av_len_row, av_len_deal, av_len_pck, tk_cfg, tk_pkt, tk_opn, tk_evn, tk_ent, tk_row, tk_deal, tk_pck, all_cfg, all_pkt, all_opn, all_evn, all_ent, all_row, all_deal, all_pck, List.drop_nil, Bool.and_true, Bool.and_self, and_self, Nat.le_refl, true_and, and_true, Nat.le_add_right, leS, ltS, jn_81x0, add_int, h6, h7, a1]
      rw [le_81x0]
      by_cases hm : c.homeOf i = me
      · obtain ⟨r, f1, f2, f3, f4⟩ := M.good.map (q := H.next + 2) upd_same (i := 8) rfl
        obtain ⟨H', g1, g2, g3, g4⟩ := (f4 (by rw [M.base]; simp only [Hb, bNew, nNew]; omega)).1 i (.agg (Row.av ⟨0, -1, c.first i⟩))
        simp only [Row.av] at g1
        have e3 := words_sp Hi.guard c h i (by omega) h1
        have Mj : Made Hb H' (upd nil0 (H.next + 2) (dirO c (c.rowsTo me (i + 1)))) := by
          refine (M.step g2 g3).as ?_
          rw [upd_upd, dirO_put]
          simp only [Cfg.rowsTo, hm, if_true]
        obtain ⟨H2, t1, t2⟩ := tail H' Mj
        refine ⟨H2, ?_, t2⟩
        simp -implicitDefEqProofs only [bnd_some, bo_some, condK_true, condK_false, gdA_undef, decide_true, decide_false, Int.reduceLE, Int.reduceLT, Int.reduceEq, Int.reduceNeg, Int.reduceAdd, gd_tt, gd_tf, gd_ft, gd_ff, unG_pure, lift_some, bnd_lift, Option.map_some, Option.bind_some, fieldPtr_ref, fieldPtr_ip, nil_ref, nil_ip, nil_fn, ex_tup, fl_agg, List.getElem?_cons_zero, List.getElem?_cons_succ, Nat.zero_add, Nat.add_zero, Nat.reduceAdd, pk_t, pk_f, lss_int, leq_int, gtr_int, geq_int, eql_int, neq_int, not_bool, beq_self_eq_true, if_true, Bool.false_eq_true, if_false, List.nil_append, List.cons_append, List.append_nil, alc_eq, mkm_eq, nNew, nPut, bNew, bPut, nGrd, bGrd, ldN_is, ldN_lt, ldaN_is, ldaN_lt, stN_is, stN_lt, Nat.lt_add_one, ne_eq, nx1, nx2, nx3, ny1, ny2, ny3, not_false_eq_true, List.length_cons, List.length_nil, Nat.reduceLeDiff, setAt, List.take_succ_cons, List.take_zero, List.drop_succ_cons, List.drop_zero, cells_dat, cells_int, cells_bool, cells_agg, List.all_cons, List.all_nil, isCell_int, isCell_bool, isCell_dat, isCell_ref, isCell_nil, isCell_vsl, cells_vsl, av_len_cfg, av_len_pkt, av_len_opn, av_len_evn, av_len_ent, av_len_row, av_len_deal, av_len_pck, tk_cfg, tk_pkt, tk_opn, tk_evn, tk_ent, tk_row, tk_deal, tk_pck, all_cfg, all_pkt, all_opn, all_evn, all_ent, all_row, all_deal, all_pck, List.drop_nil, Bool.and_true, Bool.and_self, and_self, Nat.le_refl, true_and, and_true, Nat.le_add_right, leS, ltS, h1, e1, e2, hm, f1, e3, bd_153, bldA, fillA, pl_153, g1, t1]
      · have hm' : ¬ (c.homeOf i = me) := hm
        obtain ⟨H2, t1, t2⟩ := tail Hi (M.as (by simp only [Cfg.rowsTo, hm, if_false]))
        refine ⟨H2, ?_, t2⟩
        simp -implicitDefEqProofs only [bnd_some, bo_some, condK_true, condK_false, gdA_undef, decide_true, decide_false, Int.reduceLE, Int.reduceLT, Int.reduceEq, Int.reduceNeg, Int.reduceAdd, gd_tt, gd_tf, gd_ft, gd_ff, unG_pure, lift_some, bnd_lift, Option.map_some, Option.bind_some, fieldPtr_ref, fieldPtr_ip, nil_ref, nil_ip, nil_fn, ex_tup, fl_agg, List.getElem?_cons_zero, List.getElem?_cons_succ, Nat.zero_add, Nat.add_zero, Nat.reduceAdd, pk_t, pk_f, lss_int, leq_int, gtr_int, geq_int, eql_int, neq_int, not_bool, beq_self_eq_true, if_true, Bool.false_eq_true, if_false, List.nil_append, List.cons_append, List.append_nil, alc_eq, mkm_eq, nNew, nPut, bNew, bPut, nGrd, bGrd, ldN_is, ldN_lt, ldaN_is, ldaN_lt, stN_is, stN_lt, Nat.lt_add_one, ne_eq, nx1, nx2, nx3, ny1, ny2, ny3, not_false_eq_true, List.length_cons, List.length_nil, Nat.reduceLeDiff, setAt, List.take_succ_cons, List.take_zero, List.drop_succ_cons, List.drop_zero, cells_dat, cells_int, cells_bool, cells_agg, List.all_cons, List.all_nil, isCell_int, isCell_bool, isCell_dat, isCell_ref, isCell_nil, isCell_vsl, cells_vsl, av_len_cfg, av_len_pkt, av_len_opn, av_len_evn, av_len_ent, av_len_row, av_len_deal, av_len_pck, tk_cfg, tk_pkt, tk_opn, tk_evn, tk_ent, tk_row, tk_deal, tk_pck, all_cfg, all_pkt, all_opn, all_evn, all_ent, all_row, all_deal, all_pck, List.drop_nil, Bool.and_true, Bool.and_self, and_self, Nat.le_refl, true_and, and_true, Nat.le_add_right, leS, ltS, h1, e1, e2, hm, t1]
  obtain ⟨H', a1, a2⟩ := key c.lines.toNat 0 (by omega) H0 M0
  refine ⟨H', H.next + 2, run_cl rfl rfl (rn_81 _ _ _ _ (r := (_, H')) ?_), a2.of_new⟩
  have l1 : c.av[1]? = some (I c.lines) := rfl
  have e : ∀ r, bd 196 [(0, .agg c.av), (1, .mp r)] = some (.agg (c.av ++ [.mp r])) := fun r => by
    simp -implicitDefEqProofs only [bnd_some, bo_some, condK_true, condK_false, gdA_undef, decide_true, decide_false, Int.reduceLE, Int.reduceLT, Int.reduceEq, Int.reduceNeg, Int.reduceAdd, gd_tt, gd_tf, gd_ft, gd_ff, unG_pure, lift_some, bnd_lift, Option.map_some, Option.bind_some, fieldPtr_ref, fieldPtr_ip, nil_ref, nil_ip, nil_fn, ex_tup, fl_agg, List.getElem?_cons_zero, List.getElem?_cons_succ, Nat.zero_add, Nat.add_zero, Nat.reduceAdd, pk_t, pk_f, lss_int, leq_int, gtr_int, geq_int, eql_int, neq_int, not_bool, beq_self_eq_true, if_true, Bool.false_eq_true, if_false, List.nil_append, List.cons_append, List.append_nil, alc_eq, mkm_eq, nNew, nPut, bNew, bPut, nGrd, bGrd, bd_196, bldA, fillA, pl_196, Cfg.av, cells_agg]
    rfl
  have e2 : ∀ r, (c.av ++ [AV.mp r]).all AV.isCell = true := fun r => by rw [List.all_append, all_cfg]; rfl
  simp -implicitDefEqProofs only [bnd_some, bo_some, condK_true, condK_false, gdA_undef, decide_true, decide_false, Int.reduceLE, Int.reduceLT, Int.reduceEq, Int.reduceNeg, Int.reduceAdd, gd_tt, gd_tf, gd_ft, gd_ff, unG_pure, lift_some, bnd_lift, Option.map_some, Option.bind_some, fieldPtr_ref, fieldPtr_ip, nil_ref, nil_ip, nil_fn, ex_tup, fl_agg, List.getElem?_cons_zero, List.getElem?_cons_succ, Nat.zero_add, Nat.add_zero, Nat.reduceAdd, pk_t, pk_f, lss_int, leq_int, gtr_int, geq_int, eql_int, neq_int, not_bool, beq_self_eq_true, if_true, Bool.false_eq_true, if_false, List.nil_append, List.cons_append, List.append_nil, alc_eq, mkm_eq, nNew, nPut, bNew, bPut, nGrd, bGrd, ldN_is, ldN_lt, ldaN_is, ldaN_lt, stN_is, stN_lt, Nat.lt_add_one, ne_eq, nx1, nx2, nx3, ny1, ny2, ny3, not_false_eq_true, List.length_cons, List.length_nil, Nat.reduceLeDiff, setAt, List.take_succ_cons, List.take_zero, List.drop_succ_cons, List.drop_zero, cells_dat, cells_int, cells_bool, cells_agg, List.all_cons, List.all_nil, isCell_int, isCell_bool, isCell_dat, isCell_ref, isCell_nil, isCell_vsl, cells_vsl, av_len_cfg, av_len_pkt, av_len_opn, av_len_evn, av_len_ent, av_len_row, av_len_deal, av_len_pck, tk_cfg, tk_pkt, tk_opn, tk_evn, tk_ent, tk_row, tk_deal, tk_pck, all_cfg, all_pkt, all_opn, all_evn, all_ent, all_row, all_deal, all_pck, List.drop_nil, Bool.and_true, Bool.and_self, and_self, Nat.le_refl, true_and, and_true, Nat.le_add_right, leS, ltS, sh_81, box_agg (all_cfg c), e, box_agg (e2 _), l1]
  exact a1

end Go.Proofs.YtlcdejlbmnjlaaaGreat

namespace Go.Proofs.YtlcdejlbmnjlaaaGreat

theorem cup_left {b n : Nat} {H1 : AHeap} {g g' : Store} {q : Nat} {cs : List Cell} (G : Good b H1 g) (h : g q = some cs) (hn : H1.next = n) : cup n g g' q = some cs := by
  unfold cup
  rw [if_pos (by have := G.lt h; omega), h]
theorem cup_right {b n : Nat} {H1 : AHeap} {g g' : Store} {q : Nat} {cs : List Cell} (G : Good b H1 g') (h : g' q = some cs) (hn : n ≤ b) : cup n g g' q = some cs := by
  unfold cup
  rw [if_neg (by have := G.le h; omega), h]
/-- A call in a drawn region that makes something. -/
theorem drawn {H H' : AHeap} {x : Option (AV × AHeap)} {v : AV} {g : Store} (e : x = some (v, H')) (M : Made H.guard H' g) : ∃ H2, unG H x = some (v, H2) ∧ Made H H2 g :=
  ⟨_, by rw [e]; rfl, M.of_guard⟩
theorem lda_cfg {H : AHeap} {r : Nat} {ty : TypeId} {c : Cfg} (h : H.get r = .blk 0 ty c.av) : lda 8 (.ref r 0 0) H = some (.agg c.av, H) := (lda_blk (off := 0) (n := 8) h (Nat.le_refl 8)).trans rfl
/-- A slice with something in it is not nil. -/
theorem SliceIs.some_ne {P : Program} {t e : TypeId} (h : P.underlying t = some (.slice e)) {H : AHeap} {x : AV} {m n : Nat} {cells : List AV} (hx : SliceIs H x m n cells) (hn : n ≠ 0) : binA P .eql t x (.s (.slice none 0 0)) = some (B false) := by
  obtain ⟨_, hx⟩ := hx
  cases x with
  | sl r g o m n c ex => exact eql_nil_sl h
  | vs n m l => exact eql_nil_vs h
  | s v =>
    cases v with
    | slice a b c =>
      cases a with
      | none => exact absurd hx.2.2 hn
      | some a => exact hx.elim
    | _ => exact hx.elim
  | _ => exact hx.elim
def homeO (d t : Nat) (c : Cfg) (me : Int) : List Cell := [.av (.ref d 0 0), .av (.ref t 0 0)] ++ c.av.map .av ++ [.av (I me)]
def HomeIs (g : Store) (q d t : Nat) (c : Cfg) (me : Int) (h : Home) : Prop := g q = some (homeO d t c me) ∧ g d = some (dirO c h.rows) ∧ g t = some (turnsO h.turns)
theorem avs_cells {xs : List AV} {cs : List Cell} (h : cs = xs.map .av) : ∀ (i : Nat) (c : Cell) (x : AV), cs[i]? = some c → xs[i]? = some x → c = .av x ∨ (x = zN ∧ ∃ m, c = .seq m []) := by
  subst h
  intro i c x hc hx
  rw [List.getElem?_map, hx] at hc
  exact .inl (Option.some.inj hc).symm
theorem homeNew (H : AHeap) (hb : H.base ≤ H.next) (c : Cfg) (h : c.ok = true) (me : Int) : ∃ H' q d t g', cl 49 [.agg c.av, I me] H = some (.ref q 0 0, H') ∧ Made H H' g' ∧ HomeIs g' q d t c me (.new c me) := by
  let H1 := H.new (.blk 0 26 c.av)
  obtain ⟨H2', d, e1, M1⟩ := memdirNew H1.guard (Nat.le_refl _) c h me
  obtain ⟨H2, e1, M1⟩ := drawn e1 M1
  obtain ⟨H3', t, e2, M2⟩ := turnsNew H2.guard
  obtain ⟨H3, e2, M2⟩ := drawn e2 M2
  let xs : List AV := [.ref d 0 0, .ref t 0 0] ++ c.av ++ [I me]
  have hall : xs.all AV.isCell = true := by
    simp only [xs, List.all_append, all_cfg]
    rfl
  have M3 : Made H3 (H3.new (.blk 0 184 xs)) (upd nil0 H3.next (homeO d t c me)) := made_box hall (by simp [xs, homeO]) (avs_cells (by simp [xs, homeO]))
  have g1 : H1.get H.next = .blk 0 26 c.av := getNew_is rfl
  have l1 : H.next < H1.next := by simp only [H1, nNew]; omega
  have b1 := lda_cfg g1
  have g2 : H2.get H.next = .blk 0 26 c.av := by rw [M1.same _ l1, g1]
  have g3 : H3.get H.next = .blk 0 26 c.av := by rw [M2.same _ (Nat.lt_of_lt_of_le l1 M1.next), g2]
  have b3 := lda_cfg g3
  refine ⟨_, H3.next, d, t, _, run_cl rfl rfl (rn_49 _ _ _ _ (r := (_, H3.new (.blk 0 184 xs))) ?_), ((M1.trans M2).trans M3).of_new, ?_⟩
  · have e : bd 184 [(0, .ref d 0 0), (1, .ref t 0 0), (2, .agg c.av), (3, I me)] = some (.agg xs) := by
      simp -implicitDefEqProofs only [bnd_some, bo_some, condK_true, condK_false, gdA_undef, decide_true, decide_false, Int.reduceLE, Int.reduceLT, Int.reduceEq, Int.reduceNeg, Int.reduceAdd, gd_tt, gd_tf, gd_ft, gd_ff, unG_pure, lift_some, bnd_lift, Option.map_some, Option.bind_some, fieldPtr_ref, fieldPtr_ip, nil_ref, nil_ip, nil_fn, ex_tup, fl_agg, List.getElem?_cons_zero, List.getElem?_cons_succ, Nat.zero_add, Nat.add_zero, Nat.reduceAdd, pk_t, pk_f, lss_int, leq_int, gtr_int, geq_int, eql_int, neq_int, not_bool, beq_self_eq_true, if_true, Bool.false_eq_true, if_false, List.nil_append, List.cons_append, List.append_nil, alc_eq, mkm_eq, nNew, nPut, bNew, bPut, nGrd, bGrd, bd_184, bldA, fillA, pl_184, Cfg.av, cells_agg]
      rfl
    simp only [H1] at e1 b1
    simp -implicitDefEqProofs only [bnd_some, bo_some, condK_true, condK_false, gdA_undef, decide_true, decide_false, Int.reduceLE, Int.reduceLT, Int.reduceEq, Int.reduceNeg, Int.reduceAdd, gd_tt, gd_tf, gd_ft, gd_ff, unG_pure, lift_some, bnd_lift, Option.map_some, Option.bind_some, fieldPtr_ref, fieldPtr_ip, nil_ref, nil_ip, nil_fn, ex_tup, fl_agg, List.getElem?_cons_zero, List.getElem?_cons_succ, Nat.zero_add, Nat.add_zero, Nat.reduceAdd, pk_t, pk_f, lss_int, leq_int, gtr_int, geq_int, eql_int, neq_int, not_bool, beq_self_eq_true, if_true, Bool.false_eq_true, if_false, List.nil_append, List.cons_append, List.append_nil, alc_eq, mkm_eq, nNew, nPut, bNew, bPut, nGrd, bGrd, ldN_is, ldN_lt, ldaN_is, ldaN_lt, stN_is, stN_lt, Nat.lt_add_one, ne_eq, nx1, nx2, nx3, ny1, ny2, ny3, not_false_eq_true, List.length_cons, List.length_nil, Nat.reduceLeDiff, setAt, List.take_succ_cons, List.take_zero, List.drop_succ_cons, List.drop_zero, cells_dat, cells_int, cells_bool, cells_agg, List.all_cons, List.all_nil, isCell_int, isCell_bool, isCell_dat, isCell_ref, isCell_nil, isCell_vsl, cells_vsl, av_len_cfg, av_len_pkt, av_len_opn, av_len_evn, av_len_ent, av_len_row, av_len_deal, av_len_pck, tk_cfg, tk_pkt, tk_opn, tk_evn, tk_ent, tk_row, tk_deal, tk_pck, all_cfg, all_pkt, all_opn, all_evn, all_ent, all_row, all_deal, all_pck, List.drop_nil, Bool.and_true, Bool.and_self, and_self, Nat.le_refl, true_and, and_true, Nat.le_add_right, leS, ltS, sh_49, box_agg (all_cfg c), b1, e1, e2, b3, e, box_agg hall]
  · refine ⟨cup_right M3.good upd_same (Nat.le_refl _), cup_left (M1.good.merge M2) (cup_left M1.good upd_same rfl) rfl, cup_left (M1.good.merge M2) (cup_right M2.good upd_same (Nat.le_refl _)) rfl⟩
theorem procNew (H : AHeap) (l : List Opn) (hl : l.length < 1000000000) {x : AV} (hx : SliceIs H x 3 l.length (l.flatMap Opn.av)) (h0 : l = [] → x = zN) : ∃ H' q, cl 48 [x] H = some (.ref q 0 0, H') ∧ Made H H' (upd nil0 q (procO ⟨l, [], false⟩)) := by
  have e1 := cloneOpn H l hl hx h0 fun hn => hx.some_ne Tryz.underlying31 fun e => hn (List.eq_nil_of_length_eq_zero e)
  have hc : (vsl 3 Opn.av l).cells = [vsl 3 Opn.av l] := cells_vsl
  refine ⟨_, H.next, run_cl rfl rfl (rn_48 _ _ _ (r := (_, H.new (.blk 0 178 [vsl 3 Opn.av l, zN, zB]))) ?_), made_box ?_ rfl fun i c x hc hx => ?_⟩
  · simp -implicitDefEqProofs only [bnd_some, bo_some, condK_true, condK_false, gdA_undef, decide_true, decide_false, Int.reduceLE, Int.reduceLT, Int.reduceEq, Int.reduceNeg, Int.reduceAdd, gd_tt, gd_tf, gd_ft, gd_ff, unG_pure, lift_some, bnd_lift, Option.map_some, Option.bind_some, fieldPtr_ref, fieldPtr_ip, nil_ref, nil_ip, nil_fn, ex_tup, fl_agg, List.getElem?_cons_zero, List.getElem?_cons_succ, Nat.zero_add, Nat.add_zero, Nat.reduceAdd, pk_t, pk_f, lss_int, leq_int, gtr_int, geq_int, eql_int, neq_int, not_bool, beq_self_eq_true, if_true, Bool.false_eq_true, if_false, List.nil_append, List.cons_append, List.append_nil, alc_eq, mkm_eq, nNew, nPut, bNew, bPut, nGrd, bGrd, ldN_is, ldN_lt, ldaN_is, ldaN_lt, stN_is, stN_lt, Nat.lt_add_one, ne_eq, nx1, nx2, nx3, ny1, ny2, ny3, not_false_eq_true, List.length_cons, List.length_nil, Nat.reduceLeDiff, setAt, List.take_succ_cons, List.take_zero, List.drop_succ_cons, List.drop_zero, cells_dat, cells_int, cells_bool, cells_agg, List.all_cons, List.all_nil, isCell_int, isCell_bool, isCell_dat, isCell_ref, isCell_nil, isCell_vsl, cells_vsl, av_len_cfg, av_len_pkt, av_len_opn, av_len_evn, av_len_ent, av_len_row, av_len_deal, av_len_pck, tk_cfg, tk_pkt, tk_opn, tk_evn, tk_ent, tk_row, tk_deal, tk_pck, all_cfg, all_pkt, all_opn, all_evn, all_ent, all_row, all_deal, all_pck, List.drop_nil, Bool.and_true, Bool.and_self, and_self, Nat.le_refl, true_and, and_true, Nat.le_add_right, leS, ltS, sh_48, e1, bd_178, bldA, fillA, pl_178, box_agg]
  · simp -implicitDefEqProofs only [bnd_some, bo_some, condK_true, condK_false, gdA_undef, decide_true, decide_false, Int.reduceLE, Int.reduceLT, Int.reduceEq, Int.reduceNeg, Int.reduceAdd, gd_tt, gd_tf, gd_ft, gd_ff, unG_pure, lift_some, bnd_lift, Option.map_some, Option.bind_some, fieldPtr_ref, fieldPtr_ip, nil_ref, nil_ip, nil_fn, ex_tup, fl_agg, List.getElem?_cons_zero, List.getElem?_cons_succ, Nat.zero_add, Nat.add_zero, Nat.reduceAdd, pk_t, pk_f, lss_int, leq_int, gtr_int, geq_int, eql_int, neq_int, not_bool, beq_self_eq_true, if_true, Bool.false_eq_true, if_false, List.nil_append, List.cons_append, List.append_nil, alc_eq, mkm_eq, nNew, nPut, bNew, bPut, nGrd, bGrd, ldN_is, ldN_lt, ldaN_is, ldaN_lt, stN_is, stN_lt, Nat.lt_add_one, ne_eq, nx1, nx2, nx3, ny1, ny2, ny3, not_false_eq_true, List.length_cons, List.length_nil, Nat.reduceLeDiff, setAt, List.take_succ_cons, List.take_zero, List.drop_succ_cons, List.drop_zero, cells_dat, cells_int, cells_bool, cells_agg, List.all_cons, List.all_nil, isCell_int, isCell_bool, isCell_dat, isCell_ref, isCell_nil, isCell_vsl, cells_vsl, av_len_cfg, av_len_pkt, av_len_opn, av_len_evn, av_len_ent, av_len_row, av_len_deal, av_len_pck, tk_cfg, tk_pkt, tk_opn, tk_evn, tk_ent, tk_row, tk_deal, tk_pck, all_cfg, all_pkt, all_opn, all_evn, all_ent, all_row, all_deal, all_pck, List.drop_nil, Bool.and_true, Bool.and_self, and_self, Nat.le_refl, true_and, and_true, Nat.le_add_right, leS, ltS]
  · match i with
    | 0 => left; cases hc; cases hx; rfl
    | 1 => right; cases hc; cases hx; exact ⟨rfl, 1, rfl⟩
    | 2 => left; cases hc; cases hx; rfl
    | i + 3 => cases hc

end Go.Proofs.YtlcdejlbmnjlaaaGreat

namespace Go.Proofs.YtlcdejlbmnjlaaaGreat

theorem Made.add {H H1 H2 : AHeap} {g : Store} {q : Nat} {cs : List Cell} (M : Made H H1 g) (M' : Made H1 H2 (upd nil0 q cs)) : Made H H2 (upd g q cs) :=
  (M.trans M').as ((M.good.cupUpd (M'.lt upd_same).1).symm)
def nodeX (a : Nat → Nat) (c : Cfg) (me : Int) (d : Deal) (num : Int) : List AV := [.ref (a 1) 0 0, .ref (a 2) 0 0] ++ c.av ++ [I me, .ref (a 3) 0 0] ++ d.av ++ [I num]
def nodeO (a : Nat → Nat) (c : Cfg) (me : Int) (d : Deal) (num : Int) : List Cell := (nodeX a c me d num).map .av
def NodeIs (g : Store) (a : Nat → Nat) (c : Cfg) (me : Int) (n : Node) : Prop :=
  g (a 0) = some (nodeO a c me n.deal n.num) ∧ g (a 1) = some (cacheO n.cache) ∧ g (a 2) = some (procO n.proc) ∧ HomeIs g (a 3) (a 4) (a 5) c me n.home
theorem all_nodeX {a : Nat → Nat} {c : Cfg} {me : Int} {d : Deal} {num : Int} : (nodeX a c me d num).all AV.isCell = true := by
  simp only [nodeX, List.all_append, all_cfg, all_deal]
  rfl
/-- Six addresses. -/
def six (x0 x1 x2 x3 x4 x5 : Nat) : Nat → Nat
  | 0 => x0
  | 1 => x1
  | 2 => x2
  | 3 => x3
  | 4 => x4
  | _ => x5
theorem nodeNew (H : AHeap) (c : Cfg) (h : c.ok = true) (me : Int) (l : List Opn) (hl : l.length < 1000000000) {x : AV} (hx : SliceIs H x 3 l.length (l.flatMap Opn.av)) (h0 : l = [] → x = zN) :
    ∃ H' a g', cl 20 [.agg c.av, I me, x] H = some (.ref (a 0) 0 0, H') ∧ Made H H' g' ∧ NodeIs g' a c me (.new c me l) := by
  have Bd := cfgB h
  let H1 := H.new (.blk 0 26 c.av)
  obtain ⟨H2', q1, e1, M1⟩ := cacheNew H1.guard c.sets c.ways Bd.sets.1 Bd.ways.1
  obtain ⟨H2, e1, M1⟩ := drawn e1 M1
  have hx2 : SliceIs H2 x 3 l.length (l.flatMap Opn.av) := (hx.new (.blk 0 26 c.av)).of_get M1.next fun r _ hr => M1.same r hr
  obtain ⟨H3', q2, e2, M2⟩ := procNew H2.guard l hl hx2.guard h0
  obtain ⟨H3, e2, M2⟩ := drawn e2 M2
  obtain ⟨H4', q3, q4, q5, g4, e3, M3, I3⟩ := homeNew H3.guard (Nat.le_refl _) c h me
  obtain ⟨H4, e3, M3⟩ := drawn e3 M3
  let a := six H4.next q1 q2 q3 q4 q5
  let xs := nodeX a c me .zero 0
  have M4 : Made H4 (H4.new (.blk 0 115 xs)) (upd nil0 H4.next (nodeO a c me .zero 0)) := made_box all_nodeX (by simp [xs, nodeO]) (avs_cells rfl)
  have g1 : H1.get H.next = .blk 0 26 c.av := getNew_is rfl
  have l1 : H.next < H1.next := by simp only [H1, nNew]; omega
  have l3 : H.next < H3.next := Nat.lt_of_lt_of_le l1 (Nat.le_trans M1.next M2.next)
  have b1 := lda_cfg g1
  have g2 : H2.get H.next = .blk 0 26 c.av := by rw [M1.same _ l1, g1]
  have g3 : H3.get H.next = .blk 0 26 c.av := by rw [M2.same _ (Nat.lt_of_lt_of_le l1 M1.next), g2]
  have b3 := lda_cfg g3
  have G12 := M1.good.merge M2
  have G123 := G12.merge M3
  refine ⟨_, a, _, run_cl rfl rfl (rn_20 _ _ _ _ _ (r := (_, H4.new (.blk 0 115 xs))) ?_), (((M1.trans M2).trans M3).trans M4).of_new, ?_⟩
  · have e : bd 115 [(0, .ref q1 0 0), (1, .ref q2 0 0), (2, .agg c.av), (3, I me), (4, .agg [.ref q3 0 0])] = some (.agg xs) := by
      simp -implicitDefEqProofs only [bnd_some, bo_some, condK_true, condK_false, gdA_undef, decide_true, decide_false, Int.reduceLE, Int.reduceLT, Int.reduceEq, Int.reduceNeg, Int.reduceAdd, gd_tt, gd_tf, gd_ft, gd_ff, unG_pure, lift_some, bnd_lift, Option.map_some, Option.bind_some, fieldPtr_ref, fieldPtr_ip, nil_ref, nil_ip, nil_fn, ex_tup, fl_agg, List.getElem?_cons_zero, List.getElem?_cons_succ, Nat.zero_add, Nat.add_zero, Nat.reduceAdd, pk_t, pk_f, lss_int, leq_int, gtr_int, geq_int, eql_int, neq_int, not_bool, beq_self_eq_true, if_true, Bool.false_eq_true, if_false, List.nil_append, List.cons_append, List.append_nil, alc_eq, mkm_eq, nNew, nPut, bNew, bPut, nGrd, bGrd, bd_115, bldA, fillA, pl_115, Cfg.av, cells_agg]
      rfl
    have l3 : c.av[3]? = some (I c.sets) := rfl
    have l4 : c.av[4]? = some (I c.ways) := rfl
    have bx : ∀ r, (AV.ref r 0 0).cells = [.ref r 0 0] := fun _ => rfl
    have eb : ∀ r, bd 111 [(0, .ref r 0 0)] = some (.agg [.ref r 0 0]) := fun r => by
      simp -implicitDefEqProofs only [bnd_some, bo_some, condK_true, condK_false, gdA_undef, decide_true, decide_false, Int.reduceLE, Int.reduceLT, Int.reduceEq, Int.reduceNeg, Int.reduceAdd, gd_tt, gd_tf, gd_ft, gd_ff, unG_pure, lift_some, bnd_lift, Option.map_some, Option.bind_some, fieldPtr_ref, fieldPtr_ip, nil_ref, nil_ip, nil_fn, ex_tup, fl_agg, List.getElem?_cons_zero, List.getElem?_cons_succ, Nat.zero_add, Nat.add_zero, Nat.reduceAdd, pk_t, pk_f, lss_int, leq_int, gtr_int, geq_int, eql_int, neq_int, not_bool, beq_self_eq_true, if_true, Bool.false_eq_true, if_false, List.nil_append, List.cons_append, List.append_nil, alc_eq, mkm_eq, nNew, nPut, bNew, bPut, nGrd, bGrd, bd_111, bldA, fillA, pl_111]
      rfl
    simp only [H1] at e1 b1
    simp -implicitDefEqProofs only [bnd_some, bo_some, condK_true, condK_false, gdA_undef, decide_true, decide_false, Int.reduceLE, Int.reduceLT, Int.reduceEq, Int.reduceNeg, Int.reduceAdd, gd_tt, gd_tf, gd_ft, gd_ff, unG_pure, lift_some, bnd_lift, Option.map_some, Option.bind_some, fieldPtr_ref, fieldPtr_ip, nil_ref, nil_ip, nil_fn, ex_tup, fl_agg, List.getElem?_cons_zero, List.getElem?_cons_succ, Nat.zero_add, Nat.add_zero, Nat.reduceAdd, pk_t, pk_f, lss_int, leq_int, gtr_int, geq_int, eql_int, neq_int, not_bool, beq_self_eq_true, if_true, Bool.false_eq_true, if_false, List.nil_append, List.cons_append, List.append_nil, alc_eq, mkm_eq, nNew, nPut, bNew, bPut, nGrd, bGrd, ldN_is, ldN_lt, ldaN_is, ldaN_lt, stN_is, stN_lt, Nat.lt_add_one, ne_eq, nx1, nx2, nx3, ny1, ny2, ny3, not_false_eq_true, List.length_cons, List.length_nil, Nat.reduceLeDiff, setAt, List.take_succ_cons, List.take_zero, List.drop_succ_cons, List.drop_zero, cells_dat, cells_int, cells_bool, cells_agg, List.all_cons, List.all_nil, isCell_int, isCell_bool, isCell_dat, isCell_ref, isCell_nil, isCell_vsl, cells_vsl, av_len_cfg, av_len_pkt, av_len_opn, av_len_evn, av_len_ent, av_len_row, av_len_deal, av_len_pck, tk_cfg, tk_pkt, tk_opn, tk_evn, tk_ent, tk_row, tk_deal, tk_pck, all_cfg, all_pkt, all_opn, all_evn, all_ent, all_row, all_deal, all_pck, List.drop_nil, Bool.and_true, Bool.and_self, and_self, Nat.le_refl, true_and, and_true, Nat.le_add_right, leS, ltS, sh_20, box_agg (all_cfg c), b1, l3, l4, e1, e2, e3, b3, eb, e, box_agg all_nodeX, xs]
    rfl
  · refine ⟨cup_right M4.good upd_same (Nat.le_refl _), cup_left G123 (cup_left G12 (cup_left M1.good upd_same rfl) rfl) rfl, cup_left G123 (cup_left G12 (cup_right M2.good upd_same (Nat.le_refl _)) rfl) rfl, ?_⟩
    obtain ⟨i1, i2, i3⟩ := I3
    exact ⟨cup_left G123 (cup_right M3.good i1 (Nat.le_refl _)) rfl, cup_left G123 (cup_right M3.good i2 (Nat.le_refl _)) rfl, cup_left G123 (cup_right M3.good i3 (Nat.le_refl _)) rfl⟩

end Go.Proofs.YtlcdejlbmnjlaaaGreat

namespace Go.Proofs.YtlcdejlbmnjlaaaGreat

def portX (a : Nat → Nat) : List AV := [.ref (a 0) 0 0, .ref (a 1) 0 0, .ref (a 2) 0 0, .ref (a 3) 0 0]
def fabO (P : Nat → Nat → Nat) (n : Nat) : List Cell := [.seq 4 ((List.range n).flatMap fun i => portX (P i))]
def PortIs (g : Store) (a : Nat → Nat) (c : Cfg) (p : Port) : Prop :=
  g (a 0) = some (boxO p.rq c.out) ∧ g (a 1) = some (boxO p.rin c.inn) ∧ g (a 2) = some (boxO p.an c.out) ∧ g (a 3) = some (boxO p.ain 1)
def PInj (P : Nat → Nat → Nat) (n : Nat) : Prop := ∀ i j s t, i < n → j < n → s < 4 → t < 4 → P i s = P j t → i = j ∧ s = t
def FabIs (g : Store) (f : Nat) (P : Nat → Nat → Nat) (c : Cfg) (fab : Fab) : Prop :=
  g f = some (fabO P fab.l.length) ∧ (∀ i p, fab.l[i]? = some p → PortIs g (P i) c p) ∧ fab.out = c.out ∧ fab.inn = c.inn
def four (x0 x1 x2 x3 : Nat) : Nat → Nat
  | 0 => x0
  | 1 => x1
  | 2 => x2
  | _ => x3
theorem fabO_congr {P P' : Nat → Nat → Nat} : ∀ n, (∀ i, i < n → P' i = P i) → (List.range n).flatMap (fun i => portX (P' i)) = (List.range n).flatMap fun i => portX (P i)
  | 0, _ => rfl
  | n + 1, h => by
    rw [List.range_succ, List.flatMap_append, List.flatMap_append, fabO_congr n fun i hi => h i (by omega)]
    simp only [List.flatMap_cons, List.flatMap_nil, h n (by omega)]
theorem fabO_len (P : Nat → Nat → Nat) (n : Nat) : ((List.range n).flatMap fun i => portX (P i)).length = n * 4 := by
  rw [flat_len (m := 4) (fun _ => rfl), List.length_range]
theorem PortIs.ext {g g' : Store} {a : Nat → Nat} {c : Cfg} {p : Port} (h : PortIs g a c p) (hg : ∀ s, s < 4 → g' (a s) = g (a s)) : PortIs g' a c p := by
  obtain ⟨h0, h1, h2, h3⟩ := h
  exact ⟨by rw [hg 0 (by omega), h0], by rw [hg 1 (by omega), h1], by rw [hg 2 (by omega), h2], by rw [hg 3 (by omega), h3]⟩
theorem PortIs.some {g : Store} {a : Nat → Nat} {c : Cfg} {p : Port} (h : PortIs g a c p) {s : Nat} (hs : s < 4) : ∃ l r, g (a s) = some (boxO l r) := by
  obtain ⟨h0, h1, h2, h3⟩ := h
  match s, hs with
  | 0, _ => exact ⟨_, _, h0⟩
  | 1, _ => exact ⟨_, _, h1⟩
  | 2, _ => exact ⟨_, _, h2⟩
  | 3, _ => exact ⟨_, _, h3⟩
theorem fabricNew (H : AHeap) (hb : H.base ≤ H.next) (c : Cfg) (h : c.ok = true) : ∃ H' f P g', cl 18 [.agg c.av] H = some (.ref f 0 0, H') ∧ Made H H' g' ∧ FabIs g' f P c (.new c) ∧ PInj P c.nodes.toNat := by
  have Bd := cfgB h
  let H1 := H.new (.blk 0 26 c.av)
  let H2 := H1.new (.blk 0 93 [zN])
  let f := H.next + 1
  have M0 : Made H1 H2 (upd nil0 f (fabO (fun _ _ => 0) 0)) := made_box rfl rfl fun i c x hc hx => by
    match i with
    | 0 => right; cases hc; cases hx; exact ⟨rfl, 4, rfl⟩
    | i + 1 => cases hc
  have l0 : c.av[0]? = some (I c.nodes) := rfl
  have l5 : c.av[5]? = some (I c.out) := rfl
  have l6 : c.av[6]? = some (I c.inn) := rfl
  have key : ∀ k i, i + k = c.nodes.toNat → ∀ Hi gi P, Made H1 Hi gi → gi f = some (fabO P i) → (∀ j, j < i → PortIs gi (P j) c .zero) → PInj P i →
      ∃ H' g' P', lp_18x0 cl [.ref H.next 0 0, .ref f 0 0, I c.nodes, I i] Hi = some (.ref f 0 0, H') ∧ Made H1 H' g' ∧ g' f = some (fabO P' c.nodes.toNat) ∧ (∀ j, j < c.nodes.toNat → PortIs g' (P' j) c .zero) ∧ PInj P' c.nodes.toNat := by
    intro k
    induction k with
    | zero =>
      intro i hi Hi gi P M hf hp hj
      have h1 : ¬ (i : Int) < c.nodes := by omega
      have hi' : c.nodes.toNat = i := by omega
      rw [le_18x0]
      refine ⟨Hi, gi, P, ?_, M, by rw [hi']; exact hf, by rw [hi']; exact hp, by rw [hi']; exact hj⟩
      simp -implicitDefEqProofs only [bnd_some, bo_some, condK_true, condK_false, gdA_undef, decide_true, decide_false, Int.reduceLE, Int.reduceLT, Int.reduceEq, Int.reduceNeg, Int.reduceAdd, gd_tt, gd_tf, gd_ft, gd_ff, unG_pure, lift_some, bnd_lift, Option.map_some, Option.bind_some, fieldPtr_ref, fieldPtr_ip, nil_ref, nil_ip, nil_fn, ex_tup, fl_agg, List.getElem?_cons_zero, List.getElem?_cons_succ, Nat.zero_add, Nat.add_zero, Nat.reduceAdd, pk_t, pk_f, lss_int, leq_int, gtr_int, geq_int, eql_int, neq_int, not_bool, beq_self_eq_true, if_true, Bool.false_eq_true, if_false, List.nil_append, List.cons_append, List.append_nil, alc_eq, mkm_eq, nNew, nPut, bNew, bPut, nGrd, bGrd, ldN_is, ldN_lt, ldaN_is, ldaN_lt, stN_is, stN_lt, Nat.lt_add_one, ne_eq, nx1, nx2, nx3, ny1, ny2, ny3, not_false_eq_true, List.length_cons, List.length_nil, Nat.reduceLeDiff, setAt, List.take_succ_cons, List.take_zero, List.drop_succ_cons, List.drop_zero, cells_dat, cells_int, cells_bool, cells_agg, List.all_cons, List.all_nil, isCell_int, isCell_bool, isCell_dat, isCell_ref, isCell_nil, isCell_vsl, cells_vsl, av_len_cfg, av_len_pkt, av_len_opn, av_len_evn, av_len_ent, av_len_row, av_len_deal, av_len_pck, tk_cfg, tk_pkt, tk_opn, tk_evn, tk_ent, tk_row, tk_deal, tk_pck, all_cfg, all_pkt, all_opn, all_evn, all_ent, all_row, all_deal, all_pck, List.drop_nil, Bool.and_true, Bool.and_self, and_self, Nat.le_refl, true_and, and_true, Nat.le_add_right, leS, ltS, h1]
    | succ k ih =>
      intro i hi Hi gi P M hf hp hj
      have h1 : (i : Int) < c.nodes := by omega
      have h6 : (i : Int) + 1 = ((i + 1 : Nat) : Int) := by omega
      have h7 := wrap_i64 (a := ((i + 1 : Nat) : Int)) (by have := Bd.nodes; omega) (by have := Bd.nodes; omega)
      have lt1 : H.next < H1.next := by simp only [H1, nNew]; omega
      have bx : ∀ H' : AHeap, (∀ r, r < H1.next → H'.get r = H1.get r) → H'.get H.next = .blk 0 26 c.av := fun H' hs => by rw [hs _ lt1]; exact getNew_is rfl
      have ld5 : ∀ H' : AHeap, (∀ r, r < H1.next → H'.get r = H1.get r) → ld (.ref H.next 0 5) H' = some (I c.out, H') := fun H' hs => by rw [ld_blk (bx H' hs), l5]; rfl
      have ld6 : ∀ H' : AHeap, (∀ r, r < H1.next → H'.get r = H1.get r) → ld (.ref H.next 0 6) H' = some (I c.inn, H') := fun H' hs => by rw [ld_blk (bx H' hs), l6]; rfl
      obtain ⟨x, hx, cx⟩ := M.good.seq hf (i := 0) rfl
      obtain ⟨Ha', q1, a1, Ma⟩ := poolNew Hi.guard c.out (by have := Bd.out; omega)
      obtain ⟨Ha, a1, Ma⟩ := drawn a1 Ma
      have Na := M.add Ma
      obtain ⟨Hb', q2, a2, Mb⟩ := queueNew Ha.guard c.inn (by have := Bd.inn; omega)
      obtain ⟨Hb, a2, Mb⟩ := drawn a2 Mb
      have Nb := Na.add Mb
      obtain ⟨Hc', q3, a3, Mc⟩ := poolNew Hb.guard c.out (by have := Bd.out; omega)
      obtain ⟨Hc, a3, Mc⟩ := drawn a3 Mc
      have Nc := Nb.add Mc
      obtain ⟨Hd', q4, a4, Md⟩ := queueNew Hc.guard 1 (by omega)
      obtain ⟨Hd, a4, Md⟩ := drawn a4 Md
      have Nd := Nc.add Md
      have o1 := Ma.lt upd_same
      have o2 := Mb.lt upd_same
      have o3 := Mc.lt upd_same
      have o4 := Md.lt upd_same
      have hfl := M.good.lt hf
      have cd : Cur H1.next Hd f 0 x 4 _ := (((cx.ext Ma.next Ma.same).ext Mb.next Mb.same).ext Mc.next Mc.same).ext Md.next Md.same
      let a := four q1 q2 q3 q4
      let o : AObj := .blk 0 101 (portX a)
      let g4 := upd (upd (upd (upd gi q1 (boxO [] c.out)) q2 (boxO [] c.inn)) q3 (boxO [] c.out)) q4 (boxO [] 1)
      have low : ∀ q, q < Hi.next → g4 q = gi q := fun q hq => by
        simp only [g4]
        rw [upd_ne (by omega), upd_ne (by omega), upd_ne (by omega), upd_ne (by omega)]
      have hf4 : g4 f = some (fabO P i) := by rw [low f hfl, hf]
      obtain ⟨x', He, Hf, t1, t2, t3, t4⟩ := (Nd.good.new o).append (e := 101) (by_ := 32) (by rw [bNew, Nd.base]; simp only [H1, bNew, nNew]; omega) hf4 (i := 0) rfl (by decide) (fabO_len P i) (cd.new o) (sl_new (ex := true) (n := 1) (m := 4) (l := portX a) rfl) rfl (by have := Bd.nodes; unfold most; omega) (by have := Bd.nodes; unfold most; omega)
      let P' : Nat → Nat → Nat := fun j => if j = i then a else P j
      have hP : ∀ j, j < i → P' j = P j := fun j hj => by simp only [P']; rw [if_neg (by omega)]
      have hPi : P' i = a := by simp only [P', if_true]
      have Mf : Made H1 Hf (upd g4 f (fabO P' (i + 1))) := by
        refine ((Nd.new o).step t3 t4).as ?_
        congr 1
        simp only [fabO, List.set_cons_zero]
        rw [List.range_succ, List.flatMap_append, fabO_congr i hP, List.flatMap_cons, List.flatMap_nil, List.append_nil, hPi]
      have hq : ∀ s, s < 4 → Hi.next ≤ a s := fun s hs => by
        match s, hs with
        | 0, _ => exact o1.1
        | 1, _ => exact Nat.le_trans Ma.next o2.1
        | 2, _ => exact Nat.le_trans Ma.next (Nat.le_trans Mb.next o3.1)
        | 3, _ => exact Nat.le_trans Ma.next (Nat.le_trans Mb.next (Nat.le_trans Mc.next o4.1))
      have hpl : ∀ j, j < i → ∀ s, s < 4 → P j s < Hi.next := fun j hji s hs => by
        obtain ⟨l, r, hg⟩ := (hp j hji).some hs
        exact M.good.lt hg
      obtain ⟨H', g', P'', r1, r2⟩ := ih (i + 1) (by omega) Hf _ P' Mf upd_same (fun j hj1 => by
        by_cases hji : j = i
        · subst hji
          rw [hPi]
          have h4 : ∀ s, s < 4 → a s ≠ f := fun s hs => by have := hq s hs; omega
          refine PortIs.ext (g := g4) ⟨?_, ?_, ?_, ?_⟩ fun s hs => upd_ne (h4 s hs)
          · show g4 q1 = _
            simp only [g4]
            rw [upd_ne (by omega), upd_ne (by omega), upd_ne (by omega), upd_same]; rfl
          · show g4 q2 = _
            simp only [g4]
            rw [upd_ne (by omega), upd_ne (by omega), upd_same]; rfl
          · show g4 q3 = _
            simp only [g4]
            rw [upd_ne (by omega), upd_same]; rfl
          · show g4 q4 = _
            simp only [g4]
            rw [upd_same]; rfl
        · rw [hP j (by omega)]
          refine (hp j (by omega)).ext fun s hs => ?_
          have hlt := hpl j (by omega) s hs
          obtain ⟨l, r, hg⟩ := (hp j (by omega)).some hs
          have : P j s ≠ f := fun e => by rw [e, hf] at hg; cases hg
          rw [upd_ne this, low _ hlt]) (fun j k s t hj1 hk1 hs ht e => by
        by_cases hji : j = i
        · by_cases hki : k = i
          · subst hji; subst hki
            refine ⟨rfl, ?_⟩
            rw [hPi] at e
            match s, hs, t, ht with
            | 0, _, 0, _ | 1, _, 1, _ | 2, _, 2, _ | 3, _, 3, _ => rfl
            | 0, _, 1, _ | 0, _, 2, _ | 0, _, 3, _ | 1, _, 0, _ | 1, _, 2, _ | 1, _, 3, _ | 2, _, 0, _ | 2, _, 1, _ | 2, _, 3, _ | 3, _, 0, _ | 3, _, 1, _ | 3, _, 2, _ => simp only [a, four] at e; omega
          · subst hji
            rw [hPi, hP k (by omega)] at e
            have := hq s hs
            have := hpl k (by omega) t ht
            omega
        · by_cases hki : k = i
          · subst hki
            rw [hPi, hP j (by omega)] at e
            have := hq t ht
            have := hpl j (by omega) s hs
            omega
          · rw [hP j (by omega), hP k (by omega)] at e
            exact hj j k s t (by omega) (by omega) hs ht e)
      refine ⟨H', g', P'', ?_, r2⟩
      rw [le_18x0]
      have s1 := ld5 Hi M.same
      have s2 := ld6 Ha Na.same
      have s3 := ld5 Hb Nb.same
      have ep : ∀ r r', bd 99 [(0, .ref r 0 0), (1, .ref r' 0 0)] = some (.agg [.ref r 0 0, .ref r' 0 0]) := fun r r' => by
        simp -implicitDefEqProofs only [bnd_some, bo_some, condK_true, condK_false, gdA_undef, decide_true, decide_false, Int.reduceLE, Int.reduceLT, Int.reduceEq, Int.reduceNeg, Int.reduceAdd, gd_tt, gd_tf, gd_ft, gd_ff, unG_pure, lift_some, bnd_lift, Option.map_some, Option.bind_some, fieldPtr_ref, fieldPtr_ip, nil_ref, nil_ip, nil_fn, ex_tup, fl_agg, List.getElem?_cons_zero, List.getElem?_cons_succ, Nat.zero_add, Nat.add_zero, Nat.reduceAdd, pk_t, pk_f, lss_int, leq_int, gtr_int, geq_int, eql_int, neq_int, not_bool, beq_self_eq_true, if_true, Bool.false_eq_true, if_false, List.nil_append, List.cons_append, List.append_nil, alc_eq, mkm_eq, nNew, nPut, bNew, bPut, nGrd, bGrd, bd_99, bldA, fillA, pl_99]
        rfl
      have eq : ∀ r r' r2 r3, bd 101 [(0, .agg [.ref r 0 0, .ref r' 0 0]), (1, .agg [.ref r2 0 0, .ref r3 0 0])] = some (.agg [.ref r 0 0, .ref r' 0 0, .ref r2 0 0, .ref r3 0 0]) := fun r r' r2 r3 => by
        simp -implicitDefEqProofs only [bnd_some, bo_some, condK_true, condK_false, gdA_undef, decide_true, decide_false, Int.reduceLE, Int.reduceLT, Int.reduceEq, Int.reduceNeg, Int.reduceAdd, gd_tt, gd_tf, gd_ft, gd_ff, unG_pure, lift_some, bnd_lift, Option.map_some, Option.bind_some, fieldPtr_ref, fieldPtr_ip, nil_ref, nil_ip, nil_fn, ex_tup, fl_agg, List.getElem?_cons_zero, List.getElem?_cons_succ, Nat.zero_add, Nat.add_zero, Nat.reduceAdd, pk_t, pk_f, lss_int, leq_int, gtr_int, geq_int, eql_int, neq_int, not_bool, beq_self_eq_true, if_true, Bool.false_eq_true, if_false, List.nil_append, List.cons_append, List.append_nil, alc_eq, mkm_eq, nNew, nPut, bNew, bPut, nGrd, bGrd, bd_101, bldA, fillA, pl_101]
        rfl
      have eb := bsl_one (e := 101) (m := 4) (z := [zP, zP, zP, zP]) (v := .agg [.ref q1 0 0, .ref q2 0 0, .ref q3 0 0, .ref q4 0 0]) (H := Hd) rfl rfl rfl
      simp only [cells_agg] at eb
      simp only [o, a, portX, four, f] at t1 t2 r1 hx
      simp -implicitDefEqProofs only [bnd_some, bo_some, condK_true, condK_false, gdA_undef, decide_true, decide_false, Int.reduceLE, Int.reduceLT, Int.reduceEq, Int.reduceNeg, Int.reduceAdd, gd_tt, gd_tf, gd_ft, gd_ff, unG_pure, lift_some, bnd_lift, Option.map_some, Option.bind_some, fieldPtr_ref, fieldPtr_ip, nil_ref, nil_ip, nil_fn, ex_tup, fl_agg, List.getElem?_cons_zero, List.getElem?_cons_succ, Nat.zero_add, Nat.add_zero, Nat.reduceAdd, pk_t, pk_f, lss_int, leq_int, gtr_int, geq_int, eql_int, neq_int, not_bool, beq_self_eq_true, if_true, Bool.false_eq_true, if_false, List.nil_append, List.cons_append, List.append_nil, alc_eq, mkm_eq, nNew, nPut, bNew, bPut, nGrd, bGrd, ldN_is, ldN_lt, ldaN_is, ldaN_lt, stN_is, stN_lt, Nat.lt_add_one, ne_eq, nx1, nx2, nx3, ny1, ny2, ny3, not_false_eq_true, List.length_cons, List.length_nil, Nat.reduceLeDiff, setAt, List.take_succ_cons, List.take_zero, List.drop_succ_cons, List.drop_zero, cells_dat, cells_int, cells_bool, cells_agg, List.all_cons, List.all_nil, isCell_int, isCell_bool, isCell_dat, isCell_ref, isCell_nil, isCell_vsl, cells_vsl, av_len_cfg, av_len_pkt, av_len_opn, av_len_evn, av_len_ent, av_len_row, av_len_deal, av_len_pck, tk_cfg, tk_pkt, tk_opn, tk_evn, tk_ent, tk_row, tk_deal, tk_pck, all_cfg, all_pkt, all_opn, all_evn, all_ent, all_row, all_deal, all_pck, List.drop_nil, Bool.and_true, Bool.and_self, and_self, Nat.le_refl, true_and, and_true, Nat.le_add_right, leS, ltS, h1, f, hx, s1, s2, s3, a1, a2, a3, a4, ep, eq, bs_91, Nat.one_mul, eb, t1, t2, add_int, h6, h7, r1]
  obtain ⟨H', g', P, r1, r2, r3, r4, r5⟩ := key c.nodes.toNat 0 (by omega) H2 _ _ M0 upd_same (fun j hj => by omega) (fun i j s t hi => by omega)
  refine ⟨H', f, P, g', run_cl rfl rfl (rn_18 _ _ _ (r := (_, H')) ?_), r2.of_new, ⟨?_, ?_, rfl, rfl⟩, r5⟩
  · have e0 : bd 93 [] = some (.agg [zN]) := by
      simp -implicitDefEqProofs only [bnd_some, bo_some, condK_true, condK_false, gdA_undef, decide_true, decide_false, Int.reduceLE, Int.reduceLT, Int.reduceEq, Int.reduceNeg, Int.reduceAdd, gd_tt, gd_tf, gd_ft, gd_ff, unG_pure, lift_some, bnd_lift, Option.map_some, Option.bind_some, fieldPtr_ref, fieldPtr_ip, nil_ref, nil_ip, nil_fn, ex_tup, fl_agg, List.getElem?_cons_zero, List.getElem?_cons_succ, Nat.zero_add, Nat.add_zero, Nat.reduceAdd, pk_t, pk_f, lss_int, leq_int, gtr_int, geq_int, eql_int, neq_int, not_bool, beq_self_eq_true, if_true, Bool.false_eq_true, if_false, List.nil_append, List.cons_append, List.append_nil, alc_eq, mkm_eq, nNew, nPut, bNew, bPut, nGrd, bGrd, bd_93, bldA, fillA]
    have a0 : ([zN] : List AV).all AV.isCell = true := rfl
    simp -implicitDefEqProofs only [bnd_some, bo_some, condK_true, condK_false, gdA_undef, decide_true, decide_false, Int.reduceLE, Int.reduceLT, Int.reduceEq, Int.reduceNeg, Int.reduceAdd, gd_tt, gd_tf, gd_ft, gd_ff, unG_pure, lift_some, bnd_lift, Option.map_some, Option.bind_some, fieldPtr_ref, fieldPtr_ip, nil_ref, nil_ip, nil_fn, ex_tup, fl_agg, List.getElem?_cons_zero, List.getElem?_cons_succ, Nat.zero_add, Nat.add_zero, Nat.reduceAdd, pk_t, pk_f, lss_int, leq_int, gtr_int, geq_int, eql_int, neq_int, not_bool, beq_self_eq_true, if_true, Bool.false_eq_true, if_false, List.nil_append, List.cons_append, List.append_nil, alc_eq, mkm_eq, nNew, nPut, bNew, bPut, nGrd, bGrd, ldN_is, ldN_lt, ldaN_is, ldaN_lt, stN_is, stN_lt, Nat.lt_add_one, ne_eq, nx1, nx2, nx3, ny1, ny2, ny3, not_false_eq_true, List.length_cons, List.length_nil, Nat.reduceLeDiff, setAt, List.take_succ_cons, List.take_zero, List.drop_succ_cons, List.drop_zero, cells_dat, cells_int, cells_bool, cells_agg, List.all_cons, List.all_nil, isCell_int, isCell_bool, isCell_dat, isCell_ref, isCell_nil, isCell_vsl, cells_vsl, av_len_cfg, av_len_pkt, av_len_opn, av_len_evn, av_len_ent, av_len_row, av_len_deal, av_len_pck, tk_cfg, tk_pkt, tk_opn, tk_evn, tk_ent, tk_row, tk_deal, tk_pck, all_cfg, all_pkt, all_opn, all_evn, all_ent, all_row, all_deal, all_pck, List.drop_nil, Bool.and_true, Bool.and_self, and_self, Nat.le_refl, true_and, and_true, Nat.le_add_right, leS, ltS, sh_18, box_agg (all_cfg c), e0, box_agg a0, l0]
    exact r1
  · rw [r3]
    simp only [Fab.new, List.length_replicate]
  · intro i p hp
    simp only [Fab.new] at hp
    rw [List.getElem?_replicate] at hp
    split at hp
    · cases hp; exact r4 i (by omega)
    · cases hp

end Go.Proofs.YtlcdejlbmnjlaaaGreat

namespace Go.Proofs.YtlcdejlbmnjlaaaGreat

/-- Where the parts of a machine lie. -/
structure Adr where
  mach : Nat
  fab : Nat
  trace : Nat
  N : Nat → Nat → Nat
  P : Nat → Nat → Nat
def machX (A : Adr) (c : Cfg) : List AV := [.ref A.fab 0 0, .ref A.trace 0 0] ++ c.av
def nodesX (N : Nat → Nat → Nat) (n : Nat) : List AV := (List.range n).map fun i => .ref (N i 0) 0 0
def machO (A : Adr) (c : Cfg) (n : Nat) : List Cell := (machX A c).map .av ++ [.seq 1 (nodesX A.N n)]
def NInj (N : Nat → Nat → Nat) (n : Nat) : Prop := ∀ i j s t, i < n → j < n → s < 6 → t < 6 → N i s = N j t → i = j ∧ s = t
structure MachIs (g : Store) (A : Adr) (m : Mach) : Prop where
  mach : g A.mach = some (machO A m.c m.nodes.length)
  trace : g A.trace = some (traceO m.trace)
  fab : FabIs g A.fab A.P m.c m.fab
  node : ∀ (i : Nat) n, m.nodes[i]? = some n → NodeIs g (A.N i) m.c i n
  pinj : PInj A.P m.fab.l.length
  ninj : NInj A.N m.nodes.length
  tf : A.trace ≠ A.fab
theorem NodeIs.some {g : Store} {a : Nat → Nat} {c : Cfg} {me : Int} {n : Node} (h : NodeIs g a c me n) {s : Nat} (hs : s < 6) : ∃ l, g (a s) = some l := by
  obtain ⟨h0, h1, h2, h3, h4, h5⟩ := h
  match s, hs with
  | 0, _ => exact ⟨_, h0⟩
  | 1, _ => exact ⟨_, h1⟩
  | 2, _ => exact ⟨_, h2⟩
  | 3, _ => exact ⟨_, h3⟩
  | 4, _ => exact ⟨_, h4⟩
  | 5, _ => exact ⟨_, h5⟩
theorem NodeIs.ext {g g' : Store} {a : Nat → Nat} {c : Cfg} {me : Int} {n : Node} (h : NodeIs g a c me n) (hg : ∀ s, s < 6 → g' (a s) = g (a s)) : NodeIs g' a c me n := by
  obtain ⟨h0, h1, h2, h3, h4, h5⟩ := h
  exact ⟨by rw [hg 0 (by omega), h0], by rw [hg 1 (by omega), h1], by rw [hg 2 (by omega), h2], by rw [hg 3 (by omega), h3], by rw [hg 4 (by omega), h4], by rw [hg 5 (by omega), h5]⟩
/-- A node's parts lie apart. -/
theorem NodeIs.inj {g : Store} {a : Nat → Nat} {c : Cfg} {me : Int} {n : Node} (h : NodeIs g a c me n) {s t : Nat} (hs : s < 6) (ht : t < 6) (e : a s = a t) : s = t := by
  obtain ⟨h0, h1, h2, h3, h4, h5⟩ := h
  have hh : (g (a s)).map List.length = (g (a t)).map List.length := by rw [e]
  match s, hs, t, ht with
  | 0, _, 0, _ | 1, _, 1, _ | 2, _, 2, _ | 3, _, 3, _ | 4, _, 4, _ | 5, _, 5, _ => rfl
  | 0, _, 1, _ | 0, _, 2, _ | 0, _, 3, _ | 0, _, 4, _ | 0, _, 5, _ | 1, _, 0, _ | 1, _, 2, _ | 1, _, 3, _ | 1, _, 4, _ | 1, _, 5, _ | 2, _, 0, _ | 2, _, 1, _ | 2, _, 3, _ | 2, _, 4, _ | 2, _, 5, _ | 3, _, 0, _ | 3, _, 1, _ | 3, _, 2, _ | 3, _, 4, _ | 3, _, 5, _ | 4, _, 0, _ | 4, _, 1, _ | 4, _, 2, _ | 4, _, 3, _ | 4, _, 5, _ | 5, _, 0, _ | 5, _, 1, _ | 5, _, 2, _ | 5, _, 3, _ | 5, _, 4, _ =>
    simp [h0, h1, h2, h3, h4, h5, nodeO, nodeX, Cfg.av, Deal.av, cacheO, procO, homeO, dirO, turnsO] at hh
theorem nodesX_succ {N N' : Nat → Nat → Nat} {n : Nat} (h : ∀ i, i < n → N' i = N i) : nodesX N' (n + 1) = nodesX N n ++ [.ref (N' n 0) 0 0] := by
  unfold nodesX
  rw [List.range_succ, List.map_append]
  congr 1
  refine List.map_congr_left fun i hi => ?_
  rw [h i (List.mem_range.1 hi)]
theorem opsOk_of {c : Cfg} {ps : List (List Opn)} (h : c.opsOk ps = true) : (ps.length : Int) = c.nodes ∧ ∀ l ∈ ps, l.length ≤ 24 := by
  simp only [Cfg.opsOk, Bool.and_eq_true, decide_eq_true_eq, List.all_eq_true] at h
  exact ⟨h.2, fun l hl => (h.1 l hl).1⟩
theorem machineNew (H : AHeap) (hb : H.base ≤ H.next) (c : Cfg) (h : c.ok = true) {x : AV} {ps : List (List Opn)} (hx : PsIs H x ps) (hp : c.opsOk ps = true) : ∃ H' A g', cl 8 [.agg c.av, x] H = some (.tup [.ref A.mach 0 0, I 0], H') ∧ Made H H' g' ∧ MachIs g' A (.new c ps) := by
  have Bd := cfgB h
  obtain ⟨hp1, hp2⟩ := opsOk_of hp
  have hn := Bd.nodes
  let H1 := H.new (.blk 0 26 c.av)
  have lt1 : H.next < H1.next := by simp only [H1, nNew]; omega
  have g1 : H1.get H.next = .blk 0 26 c.av := getNew_is rfl
  have b1 := lda_cfg g1
  have e1 := check_ok H1 c h
  have e2 := ops_sp H1 c h (hx.of_get (H' := H1) (by omega) fun r hr => getNew_lt hr) (by omega) fun l hl => by have := hp2 l hl; omega
  rw [hp] at e2
  have e3 := cloneInts H1 c.init (by have := Bd.init; have := Bd.addrs; omega)
  obtain ⟨H2', f, P, gf, e4, M1, F1, J1⟩ := fabricNew H1.guard (Nat.le_refl _) c h
  obtain ⟨H2, e4, M1⟩ := drawn e4 M1
  obtain ⟨H3', t, e5, M2⟩ := traceNew H2.guard
  obtain ⟨H3, e5, M2⟩ := drawn e5 M2
  let A0 : Adr := ⟨H3.next, f, t, fun _ _ => 0, P⟩
  have bx : ∀ H' : AHeap, (∀ r, r < H1.next → H'.get r = H1.get r) → H'.get H.next = .blk 0 26 c.av := fun H' hs => by rw [hs _ lt1, g1]
  have M12 := M1.add M2
  have b3 := lda_cfg (bx H3 M12.same)
  have b2 := lda_cfg (bx H2 M1.same)
  let xs := machX A0 c ++ [zN]
  have hall : xs.all AV.isCell = true := by simp only [xs, machX, List.all_append, all_cfg]; rfl
  have M3 : Made H3 (H3.new (.blk 0 58 xs)) (upd nil0 H3.next (machO A0 c 0)) := by
    refine made_box hall (by simp [xs, machO]) fun i cc y hc hy => ?_
    simp only [machO] at hc
    by_cases hi : i < (machX A0 c).length
    · left
      rw [List.getElem?_append_left (by rw [List.length_map]; exact hi), List.getElem?_map] at hc
      rw [List.getElem?_append_left hi] at hy
      rw [hy] at hc
      exact (Option.some.inj hc).symm
    · right
      have hlen : (machX A0 c).length = 10 := rfl
      have : i = 10 := by
        have := (List.getElem?_eq_some_iff.1 hy).1
        simp only [xs, List.length_append, List.length_cons, List.length_nil] at this
        omega
      subst this
      cases hc; cases hy
      exact ⟨rfl, 1, rfl⟩
  have M0 := M12.add M3
  let g0 := upd (upd gf t (traceO [])) H3.next (machO A0 c 0)
  let K := H3.next
  have key : ∀ k i, i + k = ps.length → ∀ Hi gi N, Made H1 Hi gi → gi K = some (machO { A0 with N := N } c i) → (∀ q, q < K → gi q = g0 q) → (∀ (j : Nat) l, j < i → ps[j]? = some l → NodeIs gi (N j) c j (.new c j l)) → NInj N i →
      ∃ H' g' N', lp_8x0 cl [.ref H.next 0 0, .ref K 0 0, x, I ps.length, I i] Hi = some (.tup [.ref K 0 0, I 0], H') ∧ Made H1 H' g' ∧ g' K = some (machO { A0 with N := N' } c ps.length) ∧ (∀ q, q < K → g' q = g0 q) ∧ (∀ (j : Nat) l, j < ps.length → ps[j]? = some l → NodeIs g' (N' j) c j (.new c j l)) ∧ NInj N' ps.length := by
    intro k
    induction k with
    | zero =>
      intro i hi Hi gi N M hm hl hnd hj
      have h1 : ¬ (i : Int) < ps.length := by omega
      have hi' : ps.length = i := by omega
      rw [le_8x0]
      refine ⟨Hi, gi, N, ?_, M, by rw [hi']; exact hm, hl, by rw [hi']; exact hnd, by rw [hi']; exact hj⟩
      simp -implicitDefEqProofs only [bnd_some, bo_some, condK_true, condK_false, gdA_undef, decide_true, decide_false, Int.reduceLE, Int.reduceLT, Int.reduceEq, Int.reduceNeg, Int.reduceAdd, gd_tt, gd_tf, gd_ft, gd_ff, unG_pure, lift_some, bnd_lift, Option.map_some, Option.bind_some, fieldPtr_ref, fieldPtr_ip, nil_ref, nil_ip, nil_fn, ex_tup, fl_agg, List.getElem?_cons_zero, List.getElem?_cons_succ, Nat.zero_add, Nat.add_zero, Nat.reduceAdd, pk_t, pk_f, lss_int, leq_int, gtr_int, geq_int, eql_int, neq_int, not_bool, beq_self_eq_true, if_true, Bool.false_eq_true, if_false, List.nil_append, List.cons_append, List.append_nil, alc_eq, mkm_eq, nNew, nPut, bNew, bPut, nGrd, bGrd, ldN_is, ldN_lt, ldaN_is, ldaN_lt, stN_is, stN_lt, Nat.lt_add_one, ne_eq, nx1, nx2, nx3, ny1, ny2, ny3, not_false_eq_true, List.length_cons, List.length_nil, Nat.reduceLeDiff, setAt, List.take_succ_cons, List.take_zero, List.drop_succ_cons, List.drop_zero, cells_dat, cells_int, cells_bool, cells_agg, List.all_cons, List.all_nil, isCell_int, isCell_bool, isCell_dat, isCell_ref, isCell_nil, isCell_vsl, cells_vsl, av_len_cfg, av_len_pkt, av_len_opn, av_len_evn, av_len_ent, av_len_row, av_len_deal, av_len_pck, tk_cfg, tk_pkt, tk_opn, tk_evn, tk_ent, tk_row, tk_deal, tk_pck, all_cfg, all_pkt, all_opn, all_evn, all_ent, all_row, all_deal, all_pck, List.drop_nil, Bool.and_true, Bool.and_self, and_self, Nat.le_refl, true_and, and_true, Nat.le_add_right, leS, ltS, h1]
    | succ k ih =>
      intro i hi Hi gi N M hm hlow hnd hj
      have h1 : (i : Int) < ps.length := by omega
      have h6 : (i : Int) + 1 = ((i + 1 : Nat) : Int) := by omega
      have h7 := wrap_i64 (a := ((i + 1 : Nat) : Int)) (by omega) (by omega)
      have hxi := hx.of_get (H' := Hi) (Nat.le_trans (Nat.le_of_lt lt1) M.next) fun r hr => by rw [M.same r (by omega)]; exact getNew_lt hr
      obtain ⟨cells, x1, x2⟩ := hxi
      have hcl : cells.length = ps.length := by have := x1.1; omega
      have s1 := x1.ix (k := .i64) (i := (i : Int)) (by omega) h1
      rw [Int.toNat_natCast] at s1
      have s2 := x1.ld (i := i) (by omega)
      obtain ⟨v, hv⟩ : ∃ v, cells[i]? = some v := ⟨_, List.getElem?_eq_getElem (by omega)⟩
      obtain ⟨l, hl⟩ : ∃ l, ps[i]? = some l := ⟨_, List.getElem?_eq_getElem (by omega)⟩
      rw [hv] at s2
      obtain ⟨v1, v2⟩ := x2 i v l hv hl
      have s4 := lda_cfg (bx Hi M.same)
      obtain ⟨y, hy, cy⟩ := M.good.seq hm (i := 10) (m := 1) (l := nodesX N i) rfl
      obtain ⟨Ha', a, ga, a1, Ma, Ia⟩ := nodeNew Hi.guard c h i l (by have := hp2 l (List.mem_of_getElem? hl); omega) v1.guard v2
      obtain ⟨Ha, a1, Ma⟩ := drawn a1 Ma
      have Na := M.trans Ma
      let ga' := cup Hi.next gi ga
      have hK := M.good.lt hm
      have glow : ∀ q, q < Hi.next → ga' q = gi q := fun q hq => by simp only [ga', cup, hq, if_true]
      have hma : ga' K = some (machO { A0 with N := N } c i) := by rw [glow K hK, hm]
      let o : AObj := .blk 0 42 [.ref (a 0) 0 0]
      have hnl : (nodesX N i).length = i * 1 := by simp [nodesX]
      obtain ⟨y', He, Hf, t1, t2, t3, t4⟩ := (Na.good.new o).append (e := 42) (by_ := 8) (by rw [bNew, Na.base]; simp only [H1, bNew, nNew]; omega) hma (i := 10) rfl (by decide) hnl ((cy.ext Ma.next Ma.same).new o) (sl_new (ex := true) (n := 1) (m := 1) (l := [.ref (a 0) 0 0]) rfl) rfl (by unfold most; omega) (by unfold most; omega)
      let N' : Nat → Nat → Nat := fun j => if j = i then a else N j
      have hN : ∀ j, j < i → N' j = N j := fun j hj => by simp only [N']; rw [if_neg (by omega)]
      have hNi : N' i = a := by simp only [N', if_true]
      have Mf : Made H1 Hf (upd ga' K (machO { A0 with N := N' } c (i + 1))) := by
        refine ((Na.new o).step t3 t4).as ?_
        congr 1
        simp only [machO]
        rw [nodesX_succ hN, hNi]
        rfl
      have hal : ∀ s, s < 6 → Hi.next ≤ a s ∧ ga' (a s) = ga (a s) := fun s hs => by
        obtain ⟨l, hg⟩ := Ia.some hs
        have := (Ma.lt hg).1
        exact ⟨this, by simp only [ga', cup]; rw [if_neg (by omega)]⟩
      have hNl : ∀ j, j < i → ∀ s, s < 6 → N j s < Hi.next := fun j hji s hs => by
        obtain ⟨lj, hlj⟩ : ∃ l, ps[j]? = some l := ⟨_, List.getElem?_eq_getElem (by omega)⟩
        obtain ⟨l, hg⟩ := (hnd j lj hji hlj).some hs
        exact M.good.lt hg
      obtain ⟨H', g', N'', r1, r2⟩ := ih (i + 1) (by omega) Hf _ N' Mf upd_same (fun q hq => by
        rw [upd_ne (by omega), glow q (by omega), hlow q hq]) (fun j lj hj1 hlj => by
        by_cases hji : j = i
        · subst hji
          rw [hl] at hlj
          cases hlj
          rw [hNi]
          exact Ia.ext fun s hs => by
            obtain ⟨h1, h2⟩ := hal s hs
            rw [upd_ne (by omega), h2]
        · rw [hN j (by omega)]
          refine (hnd j lj (by omega) hlj).ext fun s hs => ?_
          have hlt := hNl j (by omega) s hs
          have hne : N j s ≠ K := fun e => by
            have I := hnd j lj (by omega) hlj
            obtain ⟨l', hg⟩ := I.some hs
            obtain ⟨h0, h1, h2, h3, h4, h5⟩ := I
            have hh : (gi (N j s)).map (fun l => l[10]?) = some (some (.seq 1 (nodesX N i))) := by rw [e, hm]; rfl
            match s, hs with
            | 0, _ => rw [h0] at hh; simp [nodeO, nodeX, Cfg.av, Deal.av] at hh
            | 1, _ => rw [h1] at hh; simp [cacheO] at hh
            | 2, _ => rw [h2] at hh; simp [procO] at hh
            | 3, _ => rw [h3] at hh; simp [homeO, Cfg.av] at hh
            | 4, _ => rw [h4] at hh; simp [dirO, Cfg.av] at hh
            | 5, _ => rw [h5] at hh; simp [turnsO] at hh
          rw [upd_ne hne, glow _ hlt]) (fun j k s t hj1 hk1 hs ht e => by
        by_cases hji : j = i
        · by_cases hki : k = i
          · subst hji; subst hki
            rw [hNi] at e
            exact ⟨rfl, Ia.inj hs ht e⟩
          · subst hji
            rw [hNi, hN k (by omega)] at e
            have := (hal s hs).1
            have := hNl k (by omega) t ht
            omega
        · by_cases hki : k = i
          · subst hki
            rw [hNi, hN j (by omega)] at e
            have := (hal t ht).1
            have := hNl j (by omega) s hs
            omega
          · rw [hN j (by omega), hN k (by omega)] at e
            exact hj j k s t (by omega) (by omega) hs ht e)
      refine ⟨H', g', N'', ?_, r2⟩
      rw [le_8x0]
      have eb := bsl_one (e := 42) (m := 1) (z := [zP]) (v := .ref (a 0) 0 0) (H := Ha) rfl rfl rfl
      have ec : (AV.ref (a 0) 0 0).cells = [.ref (a 0) 0 0] := rfl
      rw [ec] at eb
      simp only [o] at t1 t2
      simp -implicitDefEqProofs only [bnd_some, bo_some, condK_true, condK_false, gdA_undef, decide_true, decide_false, Int.reduceLE, Int.reduceLT, Int.reduceEq, Int.reduceNeg, Int.reduceAdd, gd_tt, gd_tf, gd_ft, gd_ff, unG_pure, lift_some, bnd_lift, Option.map_some, Option.bind_some, fieldPtr_ref, fieldPtr_ip, nil_ref, nil_ip, nil_fn, ex_tup, fl_agg, List.getElem?_cons_zero, List.getElem?_cons_succ, Nat.zero_add, Nat.add_zero, Nat.reduceAdd, pk_t, pk_f, lss_int, leq_int, gtr_int, geq_int, eql_int, neq_int, not_bool, beq_self_eq_true, if_true, Bool.false_eq_true, if_false, List.nil_append, List.cons_append, List.append_nil, alc_eq, mkm_eq, nNew, nPut, bNew, bPut, nGrd, bGrd, ldN_is, ldN_lt, ldaN_is, ldaN_lt, stN_is, stN_lt, Nat.lt_add_one, ne_eq, nx1, nx2, nx3, ny1, ny2, ny3, not_false_eq_true, List.length_cons, List.length_nil, Nat.reduceLeDiff, setAt, List.take_succ_cons, List.take_zero, List.drop_succ_cons, List.drop_zero, cells_dat, cells_int, cells_bool, cells_agg, List.all_cons, List.all_nil, isCell_int, isCell_bool, isCell_dat, isCell_ref, isCell_nil, isCell_vsl, cells_vsl, av_len_cfg, av_len_pkt, av_len_opn, av_len_evn, av_len_ent, av_len_row, av_len_deal, av_len_pck, tk_cfg, tk_pkt, tk_opn, tk_evn, tk_ent, tk_row, tk_deal, tk_pck, all_cfg, all_pkt, all_opn, all_evn, all_ent, all_row, all_deal, all_pck, List.drop_nil, Bool.and_true, Bool.and_self, and_self, Nat.le_refl, true_and, and_true, Nat.le_add_right, leS, ltS, h1, s1, s2, s4, hy, a1, bs_56, Nat.one_mul, eb, t1, t2, add_int, h6, h7, r1]
  have hfl : f < H2.next := M1.good.lt F1.1
  have ht := M2.lt upd_same
  obtain ⟨H', g', N, r1, r2, r3, r4, r5, r6⟩ := key ps.length 0 (by omega) _ g0 (fun _ _ => 0) M0 upd_same (fun q hq => rfl) (fun j l hj => by omega) (fun i j s t hi => by omega)
  have hg0 : ∀ q, q < H2.next → g0 q = gf q := fun q hq => by simp only [g0]; rw [upd_ne (by omega), upd_ne (by omega)]
  refine ⟨H', { A0 with N := N }, g', run_cl rfl rfl (rn_8 _ _ _ _ (r := (_, H')) ?_), r2.of_new, ?_⟩
  · have l7 : c.av[7]? = some (dat c.init) := rfl
    have b0 : binA Tryz.prog .neq 34 (I 0) (I 0) = some (B false) := by kernel_rfl
    have st7 : st 1 (.ref H.next 0 7) (dat c.init) H1 = some (undefA, H1) := by
      simp only [H1]
      rw [stN_is rfl]
      simp -implicitDefEqProofs only [bnd_some, bo_some, condK_true, condK_false, gdA_undef, decide_true, decide_false, Int.reduceLE, Int.reduceLT, Int.reduceEq, Int.reduceNeg, Int.reduceAdd, gd_tt, gd_tf, gd_ft, gd_ff, unG_pure, lift_some, bnd_lift, Option.map_some, Option.bind_some, fieldPtr_ref, fieldPtr_ip, nil_ref, nil_ip, nil_fn, ex_tup, fl_agg, List.getElem?_cons_zero, List.getElem?_cons_succ, Nat.zero_add, Nat.add_zero, Nat.reduceAdd, pk_t, pk_f, lss_int, leq_int, gtr_int, geq_int, eql_int, neq_int, not_bool, beq_self_eq_true, if_true, Bool.false_eq_true, if_false, List.nil_append, List.cons_append, List.append_nil, alc_eq, mkm_eq, nNew, nPut, bNew, bPut, nGrd, bGrd, ldN_is, ldN_lt, ldaN_is, ldaN_lt, stN_is, stN_lt, Nat.lt_add_one, ne_eq, nx1, nx2, nx3, ny1, ny2, ny3, not_false_eq_true, List.length_cons, List.length_nil, Nat.reduceLeDiff, setAt, List.take_succ_cons, List.take_zero, List.drop_succ_cons, List.drop_zero, cells_dat, cells_int, cells_bool, cells_agg, List.all_cons, List.all_nil, isCell_int, isCell_bool, isCell_dat, isCell_ref, isCell_nil, isCell_vsl, cells_vsl, av_len_cfg, av_len_pkt, av_len_opn, av_len_evn, av_len_ent, av_len_row, av_len_deal, av_len_pck, tk_cfg, tk_pkt, tk_opn, tk_evn, tk_ent, tk_row, tk_deal, tk_pck, all_cfg, all_pkt, all_opn, all_evn, all_ent, all_row, all_deal, all_pck, List.drop_nil, Bool.and_true, Bool.and_self, and_self, Nat.le_refl, true_and, and_true, Nat.le_add_right, leS, ltS, Cfg.av, hb]
    have em : bd 58 [(0, .ref f 0 0), (1, .ref t 0 0), (2, .agg c.av)] = some (.agg xs) := by
      simp -implicitDefEqProofs only [bnd_some, bo_some, condK_true, condK_false, gdA_undef, decide_true, decide_false, Int.reduceLE, Int.reduceLT, Int.reduceEq, Int.reduceNeg, Int.reduceAdd, gd_tt, gd_tf, gd_ft, gd_ff, unG_pure, lift_some, bnd_lift, Option.map_some, Option.bind_some, fieldPtr_ref, fieldPtr_ip, nil_ref, nil_ip, nil_fn, ex_tup, fl_agg, List.getElem?_cons_zero, List.getElem?_cons_succ, Nat.zero_add, Nat.add_zero, Nat.reduceAdd, pk_t, pk_f, lss_int, leq_int, gtr_int, geq_int, eql_int, neq_int, not_bool, beq_self_eq_true, if_true, Bool.false_eq_true, if_false, List.nil_append, List.cons_append, List.append_nil, alc_eq, mkm_eq, nNew, nPut, bNew, bPut, nGrd, bGrd, bd_58, bldA, fillA, pl_58, Cfg.av, cells_agg]
      rfl
    have el := (hx.of_get (H' := H3.new (.blk 0 58 xs)) (by have := M12.next; simp only [nNew]; omega) fun r hr => by rw [M0.same r (by omega)]; exact getNew_lt hr)
    obtain ⟨cells, x1, _⟩ := el
    have el := x1.lnS
    simp only [H1] at b1 e1 e2 e3 e4 e5 st7
    simp -implicitDefEqProofs only [bnd_some, bo_some, condK_true, condK_false, gdA_undef, decide_true, decide_false, Int.reduceLE, Int.reduceLT, Int.reduceEq, Int.reduceNeg, Int.reduceAdd, gd_tt, gd_tf, gd_ft, gd_ff, unG_pure, lift_some, bnd_lift, Option.map_some, Option.bind_some, fieldPtr_ref, fieldPtr_ip, nil_ref, nil_ip, nil_fn, ex_tup, fl_agg, List.getElem?_cons_zero, List.getElem?_cons_succ, Nat.zero_add, Nat.add_zero, Nat.reduceAdd, pk_t, pk_f, lss_int, leq_int, gtr_int, geq_int, eql_int, neq_int, not_bool, beq_self_eq_true, if_true, Bool.false_eq_true, if_false, List.nil_append, List.cons_append, List.append_nil, alc_eq, mkm_eq, nNew, nPut, bNew, bPut, nGrd, bGrd, ldN_is, ldN_lt, ldaN_is, ldaN_lt, stN_is, stN_lt, Nat.lt_add_one, ne_eq, nx1, nx2, nx3, ny1, ny2, ny3, not_false_eq_true, List.length_cons, List.length_nil, Nat.reduceLeDiff, setAt, List.take_succ_cons, List.take_zero, List.drop_succ_cons, List.drop_zero, cells_dat, cells_int, cells_bool, cells_agg, List.all_cons, List.all_nil, isCell_int, isCell_bool, isCell_dat, isCell_ref, isCell_nil, isCell_vsl, cells_vsl, av_len_cfg, av_len_pkt, av_len_opn, av_len_evn, av_len_ent, av_len_row, av_len_deal, av_len_pck, tk_cfg, tk_pkt, tk_opn, tk_evn, tk_ent, tk_row, tk_deal, tk_pck, all_cfg, all_pkt, all_opn, all_evn, all_ent, all_row, all_deal, all_pck, List.drop_nil, Bool.and_true, Bool.and_self, and_self, Nat.le_refl, true_and, and_true, Nat.le_add_right, leS, ltS, sh_8, box_agg (all_cfg c), b1, e1, b0, e2, e3, l7, st7, e4, e5, b3, b2, em, box_agg hall, el]
    exact r1
  · refine ⟨?_, ?_, ⟨?_, ?_, rfl, rfl⟩, ?_, ?_, ?_, ?_⟩
    · rw [r3]; simp only [Mach.new, List.length_mapIdx]
    · rw [r4 t ht.2]
      simp only [g0]
      rw [upd_ne (by omega), upd_same]
      rfl
    · show g' f = _
      rw [r4 f (by have := M2.next; omega), hg0 f hfl, F1.1]
      rfl
    · intro i p hp
      have I := F1.2.1 i p hp
      exact I.ext fun s hs => by
        obtain ⟨l, r, hg⟩ := I.some hs
        have := M1.good.lt hg
        rw [r4 _ (by have := M2.next; omega), hg0 _ this]
    · intro i n hi
      simp only [Mach.new, List.getElem?_mapIdx, Option.map_eq_some_iff] at hi
      obtain ⟨l, hl, rfl⟩ := hi
      exact r5 i l (List.getElem?_eq_some_iff.1 hl).1 hl
    · simp only [Mach.new, Fab.new, List.length_replicate]; exact J1
    · simp only [Mach.new, List.length_mapIdx]; exact r6
    · show t ≠ f
      omega

end Go.Proofs.YtlcdejlbmnjlaaaGreat

namespace Go.Proofs.YtlcdejlbmnjlaaaGreat

section
variable {b : Nat} {H : AHeap} {g : Store} {q : Nat}
theorem procLeft (G : Good b H g) {p : Proc} (h : g q = some (procO p)) (h1 : p.ops.length < 1000) (h2 : p.values.length < 1000) : cl 56 [.ref q 0 0] H = some (I p.left, H) := by
  refine run_cl rfl rfl (rn_56 _ _ _ ?_)
  have e1 := G.load h (i := 0) rfl
  have e2 := (vsl_is av_len_opn H p.ops).lnS
  obtain ⟨x, hx, c⟩ := G.seq h (i := 1) rfl
  have e3 := (c.is (n := p.values.length) (by decide) (by simp)).lnS
  simp -implicitDefEqProofs only [bnd_some, bo_some, condK_true, condK_false, gdA_undef, decide_true, decide_false, Int.reduceLE, Int.reduceLT, Int.reduceEq, Int.reduceNeg, Int.reduceAdd, gd_tt, gd_tf, gd_ft, gd_ff, unG_pure, lift_some, bnd_lift, Option.map_some, Option.bind_some, fieldPtr_ref, fieldPtr_ip, nil_ref, nil_ip, nil_fn, ex_tup, fl_agg, List.getElem?_cons_zero, List.getElem?_cons_succ, Nat.zero_add, Nat.add_zero, Nat.reduceAdd, pk_t, pk_f, lss_int, leq_int, gtr_int, geq_int, eql_int, neq_int, not_bool, beq_self_eq_true, if_true, Bool.false_eq_true, if_false, List.nil_append, List.cons_append, List.append_nil, alc_eq, mkm_eq, nNew, nPut, bNew, bPut, nGrd, bGrd, sh_56, e1, e2, hx, e3, sub_int, Proc.left]
  rw [wrap_i64 (by omega) (by omega)]
theorem procBegun (G : Good b H g) {p : Proc} (h : g q = some (procO p)) : cl 55 [.ref q 0 0] H = some (B p.begun, H) := by
  refine run_cl rfl rfl (rn_55 _ _ _ ?_)
  have e1 := G.load h (i := 2) rfl
  simp -implicitDefEqProofs only [bnd_some, bo_some, condK_true, condK_false, gdA_undef, decide_true, decide_false, Int.reduceLE, Int.reduceLT, Int.reduceEq, Int.reduceNeg, Int.reduceAdd, gd_tt, gd_tf, gd_ft, gd_ff, unG_pure, lift_some, bnd_lift, Option.map_some, Option.bind_some, fieldPtr_ref, fieldPtr_ip, nil_ref, nil_ip, nil_fn, ex_tup, fl_agg, List.getElem?_cons_zero, List.getElem?_cons_succ, Nat.zero_add, Nat.add_zero, Nat.reduceAdd, pk_t, pk_f, lss_int, leq_int, gtr_int, geq_int, eql_int, neq_int, not_bool, beq_self_eq_true, if_true, Bool.false_eq_true, if_false, List.nil_append, List.cons_append, List.append_nil, alc_eq, mkm_eq, nNew, nPut, bNew, bPut, nGrd, bGrd, sh_55, e1]
theorem poolLen (G : Good b H g) {l : List Pkt} {room : Int} (h : g q = some (boxO l room)) : cl 59 [.ref q 0 0] H = some (I l.length, H) := by
  refine run_cl rfl rfl (rn_59 _ _ _ ?_)
  obtain ⟨x, hx, c⟩ := G.seq h (i := 0) rfl
  have e2 := (c.is (by decide) (flat_len av_len_pkt l)).lnS
  simp -implicitDefEqProofs only [bnd_some, bo_some, condK_true, condK_false, gdA_undef, decide_true, decide_false, Int.reduceLE, Int.reduceLT, Int.reduceEq, Int.reduceNeg, Int.reduceAdd, gd_tt, gd_tf, gd_ft, gd_ff, unG_pure, lift_some, bnd_lift, Option.map_some, Option.bind_some, fieldPtr_ref, fieldPtr_ip, nil_ref, nil_ip, nil_fn, ex_tup, fl_agg, List.getElem?_cons_zero, List.getElem?_cons_succ, Nat.zero_add, Nat.add_zero, Nat.reduceAdd, pk_t, pk_f, lss_int, leq_int, gtr_int, geq_int, eql_int, neq_int, not_bool, beq_self_eq_true, if_true, Bool.false_eq_true, if_false, List.nil_append, List.cons_append, List.append_nil, alc_eq, mkm_eq, nNew, nPut, bNew, bPut, nGrd, bGrd, sh_59, hx, e2]
theorem queueLen (G : Good b H g) {l : List Pkt} {room : Int} (h : g q = some (boxO l room)) : cl 63 [.ref q 0 0] H = some (I l.length, H) := by
  refine run_cl rfl rfl (rn_63 _ _ _ ?_)
  obtain ⟨x, hx, c⟩ := G.seq h (i := 0) rfl
  have e2 := (c.is (by decide) (flat_len av_len_pkt l)).lnS
  simp -implicitDefEqProofs only [bnd_some, bo_some, condK_true, condK_false, gdA_undef, decide_true, decide_false, Int.reduceLE, Int.reduceLT, Int.reduceEq, Int.reduceNeg, Int.reduceAdd, gd_tt, gd_tf, gd_ft, gd_ff, unG_pure, lift_some, bnd_lift, Option.map_some, Option.bind_some, fieldPtr_ref, fieldPtr_ip, nil_ref, nil_ip, nil_fn, ex_tup, fl_agg, List.getElem?_cons_zero, List.getElem?_cons_succ, Nat.zero_add, Nat.add_zero, Nat.reduceAdd, pk_t, pk_f, lss_int, leq_int, gtr_int, geq_int, eql_int, neq_int, not_bool, beq_self_eq_true, if_true, Bool.false_eq_true, if_false, List.nil_append, List.cons_append, List.append_nil, alc_eq, mkm_eq, nNew, nPut, bNew, bPut, nGrd, bGrd, sh_63, hx, e2]
/-- A copy of numbers behind nothing. -/
theorem app_dat {H : AHeap} (l : List Int) (h : l.length < 1000000000) : app 3 1 8 zN (dat l) H = some (if l = [] then (zN, H) else (.sl H.next 0 0 1 l.length l.length false, H.new (.blk 0 3 (l.map I)))) := by
  by_cases h0 : l = []
  · subst h0
    simp only [dat, vsl_nil, if_true]
    rfl
  · rw [if_neg h0]
    exact app_nil (dat_is _ l) (ints_all l) (fun e => h0 (List.eq_nil_of_length_eq_zero e)) (by unfold most; omega) (by unfold most; omega)
/-- Such a copy, frozen. -/
theorem freeze_dat {H : AHeap} {s d r : Nat} {l : List Int} (hl : l ≠ []) (hr : s ≤ r) {ty : TypeId} (hg : H.get r = .blk 0 ty (l.map I)) {ex : Bool} : freezeA H s (d + 2) (.sl r 0 0 1 l.length l.length ex) = some (dat l) := by
  rw [dat_eq hl]
  refine freeze_sl hr (cells := l.map I) ?_ (freeze_all _ fun x hx => frz_ints _ x hx _ _)
  simp only [sliceCells, hg]
  rw [if_pos ⟨trivial, by simp⟩, List.drop_zero, List.take_of_length_le (by simp)]
theorem nodeDeal (G : Good b H g) {a : Nat → Nat} {c : Cfg} {me : Int} {d : Deal} {num : Int} (h : g q = some (nodeO a c me d num)) (hd : d.data.length < 1000000000) :
    cl 54 [.ref q 0 0] H = some (.tup [.agg (if d.step = 0 then Deal.zero else d).av, B (!decide (d.step = 0))], H) := by
  have zd : Deal.zero.av = [zI, zI, zI, zI, zI, zI, zN, zI, zI] := by simp [Deal.zero, Deal.av, dat, vsl_nil]
  have G1 := G.guard.new (.blk 0 113 [zI, zI, zI, zI, zI, zI, zN, zI, zI])
  have e1 := G1.load h (i := 15) (x := I d.step) rfl
  have ez : bd 113 [] = some (.agg [zI, zI, zI, zI, zI, zI, zN, zI, zI]) := by simp -implicitDefEqProofs only [bnd_some, bo_some, condK_true, condK_false, gdA_undef, decide_true, decide_false, Int.reduceLE, Int.reduceLT, Int.reduceEq, Int.reduceNeg, Int.reduceAdd, gd_tt, gd_tf, gd_ft, gd_ff, unG_pure, lift_some, bnd_lift, Option.map_some, Option.bind_some, fieldPtr_ref, fieldPtr_ip, nil_ref, nil_ip, nil_fn, ex_tup, fl_agg, List.getElem?_cons_zero, List.getElem?_cons_succ, Nat.zero_add, Nat.add_zero, Nat.reduceAdd, pk_t, pk_f, lss_int, leq_int, gtr_int, geq_int, eql_int, neq_int, not_bool, beq_self_eq_true, if_true, Bool.false_eq_true, if_false, List.nil_append, List.cons_append, List.append_nil, alc_eq, mkm_eq, nNew, nPut, bNew, bPut, nGrd, bGrd, bd_113, bldA, fillA]
  by_cases h0 : d.step = 0
  · refine pure_val rfl rfl (rn_54 _ _ _) ?_ ?_
    · simp -implicitDefEqProofs only [bnd_some, bo_some, condK_true, condK_false, gdA_undef, decide_true, decide_false, Int.reduceLE, Int.reduceLT, Int.reduceEq, Int.reduceNeg, Int.reduceAdd, gd_tt, gd_tf, gd_ft, gd_ff, unG_pure, lift_some, bnd_lift, Option.map_some, Option.bind_some, fieldPtr_ref, fieldPtr_ip, nil_ref, nil_ip, nil_fn, ex_tup, fl_agg, List.getElem?_cons_zero, List.getElem?_cons_succ, Nat.zero_add, Nat.add_zero, Nat.reduceAdd, pk_t, pk_f, lss_int, leq_int, gtr_int, geq_int, eql_int, neq_int, not_bool, beq_self_eq_true, if_true, Bool.false_eq_true, if_false, List.nil_append, List.cons_append, List.append_nil, alc_eq, mkm_eq, nNew, nPut, bNew, bPut, nGrd, bGrd, ldN_is, ldN_lt, ldaN_is, ldaN_lt, stN_is, stN_lt, Nat.lt_add_one, ne_eq, nx1, nx2, nx3, ny1, ny2, ny3, not_false_eq_true, List.length_cons, List.length_nil, Nat.reduceLeDiff, setAt, List.take_succ_cons, List.take_zero, List.drop_succ_cons, List.drop_zero, cells_dat, cells_int, cells_bool, cells_agg, List.all_cons, List.all_nil, isCell_int, isCell_bool, isCell_dat, isCell_ref, isCell_nil, isCell_vsl, cells_vsl, av_len_cfg, av_len_pkt, av_len_opn, av_len_evn, av_len_ent, av_len_row, av_len_deal, av_len_pck, tk_cfg, tk_pkt, tk_opn, tk_evn, tk_ent, tk_row, tk_deal, tk_pck, all_cfg, all_pkt, all_opn, all_evn, all_ent, all_row, all_deal, all_pck, List.drop_nil, Bool.and_true, Bool.and_self, and_self, Nat.le_refl, true_and, and_true, Nat.le_add_right, leS, ltS, sh_54, e1, h0, ez, zd, Bool.not_true]
    · rw [if_pos h0, zd]
      refine frz_tup fun x hx => ?_
      simp only [List.mem_cons, List.not_mem_nil, or_false] at hx
      rcases hx with rfl | rfl
      · refine frz_agg fun x hx => ?_
        simp only [List.mem_cons, List.not_mem_nil, or_false] at hx
        rcases hx with rfl | rfl | rfl | rfl | rfl | rfl | rfl | rfl | rfl <;> exact frz_s
      · exact frz_s
  · have e2 := G1.loads h (i := 12) (n := 9) (xs := d.av) rfl rfl (by decide)
    by_cases hl : d.data = []
    · refine pure_val rfl rfl (rn_54 _ _ _) (v := .tup [.agg d.av, B true]) ?_ ?_ |>.trans ?_
      · have e3 := fun H => app_dat (H := H) d.data hd
        have hz : dat ([] : List Int) = zN := by simp [dat, vsl_nil]
        simp only [hl, if_true, hz] at e3
        have zc : zN.cells = [zN] := rfl
        simp -implicitDefEqProofs only [bnd_some, bo_some, condK_true, condK_false, gdA_undef, decide_true, decide_false, Int.reduceLE, Int.reduceLT, Int.reduceEq, Int.reduceNeg, Int.reduceAdd, gd_tt, gd_tf, gd_ft, gd_ff, unG_pure, lift_some, bnd_lift, Option.map_some, Option.bind_some, fieldPtr_ref, fieldPtr_ip, nil_ref, nil_ip, nil_fn, ex_tup, fl_agg, List.getElem?_cons_zero, List.getElem?_cons_succ, Nat.zero_add, Nat.add_zero, Nat.reduceAdd, pk_t, pk_f, lss_int, leq_int, gtr_int, geq_int, eql_int, neq_int, not_bool, beq_self_eq_true, if_true, Bool.false_eq_true, if_false, List.nil_append, List.cons_append, List.append_nil, alc_eq, mkm_eq, nNew, nPut, bNew, bPut, nGrd, bGrd, ldN_is, ldN_lt, ldaN_is, ldaN_lt, stN_is, stN_lt, Nat.lt_add_one, ne_eq, nx1, nx2, nx3, ny1, ny2, ny3, not_false_eq_true, List.length_cons, List.length_nil, Nat.reduceLeDiff, setAt, List.take_succ_cons, List.take_zero, List.drop_succ_cons, List.drop_zero, cells_dat, cells_int, cells_bool, cells_agg, List.all_cons, List.all_nil, isCell_int, isCell_bool, isCell_dat, isCell_ref, isCell_nil, isCell_vsl, cells_vsl, av_len_cfg, av_len_pkt, av_len_opn, av_len_evn, av_len_ent, av_len_row, av_len_deal, av_len_pck, tk_cfg, tk_pkt, tk_opn, tk_evn, tk_ent, tk_row, tk_deal, tk_pck, all_cfg, all_pkt, all_opn, all_evn, all_ent, all_row, all_deal, all_pck, List.drop_nil, Bool.and_true, Bool.and_self, and_self, Nat.le_refl, true_and, and_true, Nat.le_add_right, leS, ltS, sh_54, e1, h0, e2, Deal.av, hl, e3, hz, zc]
      · refine frz_tup fun x hx => ?_
        simp only [List.mem_cons, List.not_mem_nil, or_false] at hx
        rcases hx with rfl | rfl
        · refine frz_agg fun x hx => ?_
          simp only [Deal.av, List.mem_cons, List.not_mem_nil, or_false] at hx
          rcases hx with rfl | rfl | rfl | rfl | rfl | rfl | rfl | rfl | rfl <;> first | exact frz_s | exact frz_dat
        · exact frz_s
      · simp only [h0, if_false, decide_false, Bool.not_false]
    · let Hr := H.next + 2
      have e3 := fun H => app_dat (H := H) d.data hd
      simp only [hl, if_false] at e3
      have key : ∃ Hz, sh_54 cl (.ref q 0 0) H.guard = some (.tup [.agg [I d.kind, I d.line, I d.id, I d.step, I d.state, I d.head, .sl (H.next + 2) 0 0 1 d.data.length d.data.length false, I d.next, I d.told], B true], Hz) ∧ Hz.get (H.next + 2) = .blk 0 3 (d.data.map I) := by
        have cs : ∀ r n m, (AV.sl r 0 0 1 n m false).cells = [.sl r 0 0 1 n m false] := fun _ _ _ => rfl
        have ic : ∀ r n m, AV.isCell (.sl r 0 0 1 n m false) = true := fun _ _ _ => rfl
        simp -implicitDefEqProofs only [bnd_some, bo_some, condK_true, condK_false, gdA_undef, decide_true, decide_false, Int.reduceLE, Int.reduceLT, Int.reduceEq, Int.reduceNeg, Int.reduceAdd, gd_tt, gd_tf, gd_ft, gd_ff, unG_pure, lift_some, bnd_lift, Option.map_some, Option.bind_some, fieldPtr_ref, fieldPtr_ip, nil_ref, nil_ip, nil_fn, ex_tup, fl_agg, List.getElem?_cons_zero, List.getElem?_cons_succ, Nat.zero_add, Nat.add_zero, Nat.reduceAdd, pk_t, pk_f, lss_int, leq_int, gtr_int, geq_int, eql_int, neq_int, not_bool, beq_self_eq_true, if_true, Bool.false_eq_true, if_false, List.nil_append, List.cons_append, List.append_nil, alc_eq, mkm_eq, nNew, nPut, bNew, bPut, nGrd, bGrd, ldN_is, ldN_lt, ldaN_is, ldaN_lt, stN_is, stN_lt, Nat.lt_add_one, ne_eq, nx1, nx2, nx3, ny1, ny2, ny3, not_false_eq_true, List.length_cons, List.length_nil, Nat.reduceLeDiff, setAt, List.take_succ_cons, List.take_zero, List.drop_succ_cons, List.drop_zero, cells_dat, cells_int, cells_bool, cells_agg, List.all_cons, List.all_nil, isCell_int, isCell_bool, isCell_dat, isCell_ref, isCell_nil, isCell_vsl, cells_vsl, av_len_cfg, av_len_pkt, av_len_opn, av_len_evn, av_len_ent, av_len_row, av_len_deal, av_len_pck, tk_cfg, tk_pkt, tk_opn, tk_evn, tk_ent, tk_row, tk_deal, tk_pck, all_cfg, all_pkt, all_opn, all_evn, all_ent, all_row, all_deal, all_pck, List.drop_nil, Bool.and_true, Bool.and_self, and_self, Nat.le_refl, true_and, and_true, Nat.le_add_right, leS, ltS, Option.some.injEq, Prod.mk.injEq, true_and, and_assoc, exists_eq_left', exists_eq_left, sh_54, e1, h0, e2, Deal.av, e3, cs, ic]
        exact getNew_is (by simp only [nNew, nGrd])
      obtain ⟨Hz, k1, k2⟩ := key
      refine pure_cl rfl rfl (rn_54 _ _ _ k1) ?_
      have f := freeze_dat (s := H.next) (d := 5) (ex := false) hl (by omega) k2
      have f' : ∀ v, freezeA Hz H.next 7 (.s v) = some (.s v) := fun v => freeze_s
      have f'' : ∀ v, freezeA Hz H.next 8 (.s v) = some (.s v) := fun v => freeze_s
      rw [freezeA, List.mapM_cons, freezeA]
      simp only [List.mapM_cons, List.mapM_nil, f, f', f'', h0, if_false, decide_false, Bool.not_false, Deal.av]
      rfl
end

end Go.Proofs.YtlcdejlbmnjlaaaGreat

