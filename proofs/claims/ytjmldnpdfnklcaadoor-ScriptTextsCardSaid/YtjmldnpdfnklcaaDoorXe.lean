/-
  Own work: an interpreter over named blocks, its soundness, and what the functions of this seat compute (part 5 of 8).
  Conditions: those of the statement alone.
-/
import Derived.Test.YtjmldnpdfnklcaaDoorProg
import Derived.KernelRfl
import Derived.Test.YtjmldnpdfnklcaaDoorXd
set_option linter.all false
set_option linter.unusedSectionVars false
set_option linter.unusedVariables false
set_option linter.unusedSimpArgs false
set_option maxRecDepth 100000
namespace Go.Proofs.YtjmldnpdfnklcaaDoor

def an_7 : Ann := ⟨[], [], []⟩
noncomputable def cd_7 : Code := Tryd.f7.body.getD .skip
noncomputable def sh_7 (C : Callee) (a0 a1 a2 a3 : AV) (H : AHeap) : Option (AV × AHeap) :=
  bnd (C 11 [a0, a1, a2] H) fun v22 H =>
  bnd (C 25 [v22] H) fun v25 H => bo (extractA v25 0) fun v26 => bo (extractA v25 1) fun v27 =>
  bnd (C 29 [v22] H) fun v30 H => bo (extractA v30 0) fun v31 => bo (extractA v30 1) fun v32 =>
  bnd (C 30 [a3, (I 4), (I 4)] H) fun v34 H =>
  bnd (C 27 [v34] H) fun v37 H => bo (extractA v37 0) fun v38 => bo (extractA v37 1) fun v39 =>
  bnd (C 31 [v34] H) fun v42 H => bo (extractA v42 0) fun v43 => bo (extractA v42 1) fun v44 =>
  bo (bi .eql 25 v27 (I 0)) fun v46 => bo (bi .eql 4 v46 v32) fun v48 => gdA (some v48) true (liftO (some v32) H) H fun v50 H => gdA (some v48) true (liftO (some v50) H) H fun v51 H => gdA (some v51) false (liftO (some v27) H) H fun v52 H => gdA (some v51) false (liftO (bi .eql 25 v52 (I 2)) H) H fun v53 H => gdA (some v48) true (liftO (pickA v51 (B true) v53) H) H fun v54 H => bo (pickA v48 v54 (B false)) fun v55 => gdA (some v55) true (liftO (some v26) H) H fun v57 H => gdA (some v55) true (liftO (some v31) H) H fun v58 H => gdA (some v55) true (C 26 [v57, v58] H) H fun v59 H => bo (pickA v55 v59 (B false)) fun v60 => gdA (some v60) true (liftO (some v39) H) H fun v62 H => gdA (some v60) true (liftO (bi .eql 25 v62 (I 0)) H) H fun v63 H => gdA (some v60) true (liftO (some v44) H) H fun v64 H => gdA (some v60) true (liftO (bi .eql 4 v63 v64) H) H fun v65 H => bo (pickA v60 v65 (B false)) fun v66 => gdA (some v66) true (liftO (some v44) H) H fun v68 H => gdA (some v66) true (liftO (some v68) H) H fun v69 H => gdA (some v69) false (liftO (some v39) H) H fun v70 H => gdA (some v69) false (liftO (bi .eql 25 v70 (I 1)) H) H fun v71 H => gdA (some v66) true (liftO (pickA v69 (B true) v71) H) H fun v72 H => bo (pickA v66 v72 (B false)) fun v73 => gdA (some v73) true (liftO (some v38) H) H fun v75 H => gdA (some v73) true (liftO (some v43) H) H fun v76 H => gdA (some v73) true (liftO (bi .eql 9 v75 v76) H) H fun v77 H => bo (pickA v73 v77 (B false)) fun v78 => gdA (some v78) true (C 28 [] H) H fun v80 H => bo (pickA v78 v80 (B false)) fun v81 =>
  some (v81, H)
theorem rn_7 (C : Callee) (a0 a1 a2 a3 : AV) (H : AHeap) {r : AV × AHeap} (h : sh_7 C a0 a1 a2 a3 H = some r) : runF Tryd.prog C 7 [a0, a1, a2, a3] H = some r :=
  runF_K (A := an_7) (c := cd_7) Tryd.func7 (by kernel_rfl) (by kernel_rfl) (by kernel_rfl) ((show _ = sh_7 C a0 a1 a2 a3 H by kernel_rfl).trans h)
def an_11 : Ann := ⟨[(7, [1, 7, 8, 9])], [], []⟩
noncomputable def cd_11 : Code := Tryd.f11.body.getD .skip
noncomputable def lp_11x0 (C : Callee) : List AV → AHeap → Option (AV × AHeap) := (loopsK Tryd.prog C an_11 37 cd_11 (retK Tryd.prog 37 Tryd.f11.results.toList) (fun _ _ _ => none) (retK Tryd.prog 37 Tryd.f11.results.toList)).getD 0 fun _ _ => none
noncomputable def sh_11 (C : Callee) (a0 a1 a2 : AV) (H : AHeap) : Option (AV × AHeap) :=
  condK a2
  (bnd (C 19 [a0, (I 80)] H) fun v12 H =>
   some (v12, H))
  (bnd (bs 37 21 [(0, (.s (Go.Value.string { data := #[108, 111, 97, 100, 32] }))), (1, (.s (Go.Value.string { data := #[115, 116, 111, 114, 101, 32] }))), (2, (.s (Go.Value.string { data := #[97, 100, 100, 32] }))), (3, (.s (Go.Value.string { data := #[102, 108, 117, 115, 104, 32] }))), (4, (.s (Go.Value.string { data := #[51] }))), (5, (.s (Go.Value.string { data := #[32, 55] }))), (6, (.s (Go.Value.string { data := #[32, 45, 49] }))), (7, (.s (Go.Value.string { data := #[10] }))), (8, (.s (Go.Value.string { data := #[10] }))), (9, (.s (Go.Value.string { data := #[108, 111, 97, 100, 32, 49, 10] }))), (10, (.s (Go.Value.string { data := #[115, 116, 111, 114, 101, 32, 50, 32, 53, 10] }))), (11, (.s (Go.Value.string { data := #[97, 100, 100, 32, 48, 32, 45, 57, 10] }))), (12, (.s (Go.Value.string { data := #[102, 108, 117, 115, 104, 32, 52, 10] }))), (13, (.s (Go.Value.string { data := #[32] }))), (14, (.s (Go.Value.string { data := #[120] }))), (15, (.s (Go.Value.string { data := #[48, 48] }))), (16, (.s (Go.Value.string { data := #[115, 116, 101, 112, 32, 49, 10] }))), (17, (.s (Go.Value.string { data := #[103, 105, 118, 101, 32, 48, 10] }))), (18, (.s (Go.Value.string { data := #[115, 112, 111, 105, 108, 32, 49, 32, 50, 32, 51, 10] }))), (19, (.s (Go.Value.string { data := #[45, 48] }))), (20, (.s (Go.Value.string { data := #[49, 50, 51, 52, 53, 54, 55, 56, 57, 48] })))] H) fun v13 H =>
   lp_11x0 C [a1, v13, (.s (Go.Value.string { data := #[] })), (I 0)] H)
theorem le_11x0 (C : Callee) (t1 t7 t8 t9 : AV) (H : AHeap) : lp_11x0 C [t1, t7, t8, t9] H =
  bnd (lnS t1 H) fun v16 H => bo (bi .lss 3 t9 v16) fun v17 => gdA (some v17) true (liftO (some t9) H) H fun v19 H => gdA (some v17) true (liftO (bi .lss 3 v19 (I 16)) H) H fun v20 H => bo (pickA v17 v20 (B false)) fun v21 =>
  condK v21
  (bnd (ix 1 t1 t9 H) fun v28 H => bnd (ld v28 H) fun v29 H => bnd (lnS t7 H) fun v31 H => bnd (C 16 [v29, v31] H) fun v32 H => bnd (ix 1 t7 v32 H) fun v33 H => bnd (ld v33 H) fun v34 H => bo (bi .add 9 t8 v34) fun v35 =>
   bo (bi .add 3 t9 (I 1)) fun v23 =>
   lp_11x0 C [t1, t7, v35, v23] H)
  (some (t8, H)) :=
  (congrFun (congrFun (congrArg (fun l => l.getD 0 fun _ _ => none) (loops_eq cd_11 (retK Tryd.prog 37 Tryd.f11.results.toList) (fun _ _ _ => none) (retK Tryd.prog 37 Tryd.f11.results.toList))) [t1, t7, t8, t9]) H).trans (by kernel_rfl)
theorem rn_11 (C : Callee) (a0 a1 a2 : AV) (H : AHeap) {r : AV × AHeap} (h : sh_11 C a0 a1 a2 H = some r) : runF Tryd.prog C 11 [a0, a1, a2] H = some r :=
  runF_K (A := an_11) (c := cd_11) Tryd.func11 (by kernel_rfl) (by kernel_rfl) (by kernel_rfl) ((show _ = sh_11 C a0 a1 a2 H by kernel_rfl).trans h)
def an_16 : Ann := ⟨[], [], []⟩
noncomputable def cd_16 : Code := Tryd.f16.body.getD .skip
noncomputable def jn_16x0 (C : Callee) (t5 : AV) (H : AHeap) : Option (AV × AHeap) :=
  some (t5, H)
noncomputable def sh_16 (C : Callee) (a0 a1 : AV) (H : AHeap) : Option (AV × AHeap) :=
  bo (bi .lss 3 a1 (I 1)) fun v7 =>
  condK v7
  (some ((I 0), H))
  (bo (bi .rem 3 a0 a1) fun v10 =>
   bo (bi .lss 3 v10 (I 0)) fun v12 =>
   condK v12
   (bo (bi .add 3 v10 a1) fun v15 =>
    jn_16x0 C v15 H)
   (jn_16x0 C v10 H))
theorem rn_16 (C : Callee) (a0 a1 : AV) (H : AHeap) {r : AV × AHeap} (h : sh_16 C a0 a1 H = some r) : runF Tryd.prog C 16 [a0, a1] H = some r :=
  runF_K (A := an_16) (c := cd_16) Tryd.func16 (by kernel_rfl) (by kernel_rfl) (by kernel_rfl) ((show _ = sh_16 C a0 a1 H by kernel_rfl).trans h)
def an_17 : Ann := ⟨[], [(5, [some false, some false, some false, some false, some false])], []⟩
noncomputable def cd_17 : Code := Tryd.f17.body.getD .skip
noncomputable def sh_17 (C : Callee) (a0 : AV) (H : AHeap) : Option (AV × AHeap) :=
  bnd (C 37 [a0, (.s (Go.Value.string { data := #[45] }))] H) fun v8 H =>
  bo (bi .eql 9 v8 (.s (Go.Value.string { data := #[] }))) fun v10 => gdA (some v10) false (liftO (some v8) H) H fun v12 H => gdA (some v10) false (lnT v12 H) H fun v13 H => gdA (some v10) false (liftO (bi .gtr 3 v13 (I 9)) H) H fun v14 H => bo (pickA v10 (B true) v14) fun v15 => gdA (some v15) false (liftO (some v8) H) H fun v17 H => gdA (some v15) false (C 38 [v17, (.s (Go.Value.string { data := #[48, 49, 50, 51, 52, 53, 54, 55, 56, 57] }))] H) H fun v18 H => gdA (some v15) false (liftO (bi .neq 9 v18 (.s (Go.Value.string { data := #[] }))) H) H fun v19 H => bo (pickA v15 (B true) v19) fun v20 => gdA (some v20) false (liftO (some v8) H) H fun v22 H => gdA (some v20) false (liftO (ixT v22 (I 0)) H) H fun v23 H => gdA (some v20) false (liftO (bi .eql 5 v23 (.s (Go.Value.int Go.IntKind.u8 48))) H) H fun v24 H => gdA (some v20) false (liftO (some v24) H) H fun v25 H => gdA (some v25) true (liftO (some a0) H) H fun v26 H => gdA (some v25) true (liftO (bi .neq 9 v26 (.s (Go.Value.string { data := #[48] }))) H) H fun v27 H => gdA (some v20) false (liftO (pickA v25 v27 (B false)) H) H fun v28 H => bo (pickA v20 (B true) v28) fun v29 =>
  condK v29
  (some (.tup [(I 0), (B false)], H))
  (bnd (C 39 [a0] H) fun v32 H => bo (extractA v32 0) fun v33 => bo (extractA v32 1) fun v34 =>
   bo (bn .eql 74 v34) fun v37 =>
   some (.tup [v33, v37], H))
theorem rn_17 (C : Callee) (a0 : AV) (H : AHeap) {r : AV × AHeap} (h : sh_17 C a0 H = some r) : runF Tryd.prog C 17 [a0] H = some r :=
  runF_K (A := an_17) (c := cd_17) Tryd.func17 (by kernel_rfl) (by kernel_rfl) (by kernel_rfl) ((show _ = sh_17 C a0 H by kernel_rfl).trans h)
def an_19 : Ann := ⟨[], [], []⟩
noncomputable def cd_19 : Code := Tryd.f19.body.getD .skip
noncomputable def sh_19 (C : Callee) (a0 a1 : AV) (H : AHeap) : Option (AV × AHeap) :=
  bnd (lnT a0 H) fun v7 H => bnd (liftO (minMaxA Tryd.prog false #[3, 3] 3 [v7, a1]) H) fun v9 H => bo (slT a0 none (some v9)) fun v10 =>
  some (v10, H)
theorem rn_19 (C : Callee) (a0 a1 : AV) (H : AHeap) {r : AV × AHeap} (h : sh_19 C a0 a1 H = some r) : runF Tryd.prog C 19 [a0, a1] H = some r :=
  runF_K (A := an_19) (c := cd_19) Tryd.func19 (by kernel_rfl) (by kernel_rfl) (by kernel_rfl) ((show _ = sh_19 C a0 a1 H by kernel_rfl).trans h)
def an_20 : Ann := ⟨[(9, [0, 4, 5, 6])], [], []⟩
noncomputable def cd_20 : Code := Tryd.f20.body.getD .skip
noncomputable def lp_20x0 (C : Callee) : List AV → AHeap → Option (AV × AHeap) := (loopsK Tryd.prog C an_20 67 cd_20 (retK Tryd.prog 67 Tryd.f20.results.toList) (fun _ _ _ => none) (retK Tryd.prog 67 Tryd.f20.results.toList)).getD 0 fun _ _ => none
noncomputable def jn_20x0 (C : Callee) (t0 t4 : AV) (H : AHeap) : Option (AV × AHeap) :=
  bnd (lnT t0 H) fun v19 H => bo (bi .lss 3 v19 (I 1)) fun v20 => gdA (some v20) false (liftO (some t0) H) H fun v22 H => gdA (some v20) false (lnT v22 H) H fun v23 H => gdA (some v20) false (liftO (bi .gtr 3 v23 (I 9)) H) H fun v24 H => bo (pickA v20 (B true) v24) fun v25 => gdA (some v25) false (liftO (some t0) H) H fun v27 H => gdA (some v25) false (liftO (ixT v27 (I 0)) H) H fun v28 H => gdA (some v25) false (liftO (bi .eql 5 v28 (.s (Go.Value.int Go.IntKind.u8 48))) H) H fun v29 H => gdA (some v25) false (liftO (some v29) H) H fun v30 H => gdA (some v30) true (liftO (some t0) H) H fun v31 H => gdA (some v30) true (lnT v31 H) H fun v32 H => gdA (some v30) true (liftO (bi .gtr 3 v32 (I 1)) H) H fun v33 H => gdA (some v30) true (liftO (some v33) H) H fun v34 H => gdA (some v34) false (liftO (some t4) H) H fun v35 H => gdA (some v30) true (liftO (pickA v34 (B true) v35) H) H fun v36 H => gdA (some v25) false (liftO (pickA v30 v36 (B false)) H) H fun v37 H => bo (pickA v25 (B true) v37) fun v38 =>
  condK v38
  (some (.tup [(I 0), (B false)], H))
  (lp_20x0 C [t0, t4, (I 0), (I 0)] H)
noncomputable def jn_20x1 (C : Callee) (t5 : AV) (H : AHeap) : Option (AV × AHeap) :=
  some (.tup [t5, (B true)], H)
noncomputable def sh_20 (C : Callee) (a0 : AV) (H : AHeap) : Option (AV × AHeap) :=
  bnd (lnT a0 H) fun v8 H => bo (bi .gtr 3 v8 (I 0)) fun v9 => gdA (some v9) true (liftO (some a0) H) H fun v11 H => gdA (some v9) true (liftO (ixT v11 (I 0)) H) H fun v12 H => gdA (some v9) true (liftO (bi .eql 5 v12 (.s (Go.Value.int Go.IntKind.u8 45))) H) H fun v13 H => bo (pickA v9 v13 (B false)) fun v14 =>
  condK v14
  (bo (slT a0 (some (I 1)) none) fun v17 =>
   jn_20x0 C v17 v14 H)
  (jn_20x0 C a0 v14 H)
theorem le_20x0 (C : Callee) (t0 t4 t5 t6 : AV) (H : AHeap) : lp_20x0 C [t0, t4, t5, t6] H =
  bnd (lnT t0 H) fun v41 H => bo (bi .lss 3 t6 v41) fun v42 =>
  condK v42
  (bo (ixT t0 t6) fun v47 => bo (bi .lss 5 v47 (.s (Go.Value.int Go.IntKind.u8 48))) fun v48 => gdA (some v48) false (liftO (some t0) H) H fun v50 H => gdA (some v48) false (liftO (some t6) H) H fun v51 H => gdA (some v48) false (liftO (ixT v50 v51) H) H fun v52 H => gdA (some v48) false (liftO (bi .gtr 5 v52 (.s (Go.Value.int Go.IntKind.u8 57))) H) H fun v53 H => bo (pickA v48 (B true) v53) fun v54 =>
   condK v54
   (some (.tup [(I 0), (B false)], H))
   (bo (bi .mul 3 (I 10) t5) fun v56 => bo (ixT t0 t6) fun v59 => bo (bi .sub 5 v59 (.s (Go.Value.int Go.IntKind.u8 48))) fun v60 => bnd (cv 5 3 v60 H) fun v61 H => bo (bi .add 3 v56 v61) fun v62 =>
    bo (bi .add 3 t6 (I 1)) fun v44 =>
    lp_20x0 C [t0, t4, v62, v44] H))
  (condK t4
   (bo (un .neg t5) fun v65 =>
    jn_20x1 C v65 H)
   (jn_20x1 C t5 H)) :=
  (congrFun (congrFun (congrArg (fun l => l.getD 0 fun _ _ => none) (loops_eq cd_20 (retK Tryd.prog 67 Tryd.f20.results.toList) (fun _ _ _ => none) (retK Tryd.prog 67 Tryd.f20.results.toList))) [t0, t4, t5, t6]) H).trans (by kernel_rfl)
theorem rn_20 (C : Callee) (a0 : AV) (H : AHeap) {r : AV × AHeap} (h : sh_20 C a0 H = some r) : runF Tryd.prog C 20 [a0] H = some r :=
  runF_K (A := an_20) (c := cd_20) Tryd.func20 (by kernel_rfl) (by kernel_rfl) (by kernel_rfl) ((show _ = sh_20 C a0 H by kernel_rfl).trans h)
def an_22 : Ann := ⟨[], [], []⟩
noncomputable def cd_22 : Code := Tryd.f22.body.getD .skip
noncomputable def sh_22 (C : Callee) (a0 : AV) (H : AHeap) : Option (AV × AHeap) :=
  bnd (C 35 [a0, (.s (Go.Value.string { data := #[32] }))] H) fun v4 H => bnd (C 42 [v4, (.fn (.func 43) [] [])] H) fun v5 H =>
  some (v5, H)
theorem rn_22 (C : Callee) (a0 : AV) (H : AHeap) {r : AV × AHeap} (h : sh_22 C a0 H = some r) : runF Tryd.prog C 22 [a0] H = some r :=
  runF_K (A := an_22) (c := cd_22) Tryd.func22 (by kernel_rfl) (by kernel_rfl) (by kernel_rfl) ((show _ = sh_22 C a0 H by kernel_rfl).trans h)
def an_23 : Ann := ⟨[(5, [0, 3, 4, 5])], [], []⟩
noncomputable def cd_23 : Code := Tryd.f23.body.getD .skip
noncomputable def lp_23x0 (C : Callee) : List AV → AHeap → Option (AV × AHeap) := (loopsK Tryd.prog C an_23 36 cd_23 (retK Tryd.prog 36 Tryd.f23.results.toList) (fun _ _ _ => none) (retK Tryd.prog 36 Tryd.f23.results.toList)).getD 0 fun _ _ => none
noncomputable def jn_23x0 (C : Callee) (t0 t3 t4 t5 : AV) (H : AHeap) : Option (AV × AHeap) :=
  bo (bi .add 3 t5 (I 1)) fun v11 =>
  lp_23x0 C [t0, t3, t4, v11] H
noncomputable def jn_23x1 (C : Callee) (t0 t3 t5 : AV) (H : AHeap) : Option (AV × AHeap) :=
  jn_23x0 C t0 t3 (.s (Go.Value.string { data := #[] })) t5 H
noncomputable def sh_23 (C : Callee) (a0 : AV) (H : AHeap) : Option (AV × AHeap) :=
  lp_23x0 C [a0, (.s (Go.Value.slice none 0 0)), (.s (Go.Value.string { data := #[] })), (I 0)] H
theorem le_23x0 (C : Callee) (t0 t3 t4 t5 : AV) (H : AHeap) : lp_23x0 C [t0, t3, t4, t5] H =
  bnd (lnT t0 H) fun v8 H => bo (bi .leq 3 t5 v8) fun v9 =>
  condK v9
  (bnd (lnT t0 H) fun v14 H => bo (bi .lss 3 t5 v14) fun v15 => gdA (some v15) true (liftO (some t0) H) H fun v17 H => gdA (some v15) true (liftO (some t5) H) H fun v18 H => gdA (some v15) true (liftO (ixT v17 v18) H) H fun v19 H => gdA (some v15) true (liftO (bi .neq 5 v19 (.s (Go.Value.int Go.IntKind.u8 32))) H) H fun v20 H => bo (pickA v15 v20 (B false)) fun v21 =>
   condK v21
   (bo (bi .add 3 t5 (I 1)) fun v26 => bo (slT t0 (some t5) (some v26)) fun v27 => bo (bi .add 9 t4 v27) fun v28 =>
    jn_23x0 C t0 t3 v28 t5 H)
   (bo (bi .neq 9 t4 (.s (Go.Value.string { data := #[] }))) fun v30 =>
    condK v30
    (bnd (bs 37 1 [(0, t4)] H) fun v33 H => bnd (app 9 1 16 t3 v33 H) fun v34 H =>
     jn_23x1 C t0 v34 t5 H)
    (jn_23x1 C t0 t3 t5 H)))
  (some (t3, H)) :=
  (congrFun (congrFun (congrArg (fun l => l.getD 0 fun _ _ => none) (loops_eq cd_23 (retK Tryd.prog 36 Tryd.f23.results.toList) (fun _ _ _ => none) (retK Tryd.prog 36 Tryd.f23.results.toList))) [t0, t3, t4, t5]) H).trans (by kernel_rfl)
theorem rn_23 (C : Callee) (a0 : AV) (H : AHeap) {r : AV × AHeap} (h : sh_23 C a0 H = some r) : runF Tryd.prog C 23 [a0] H = some r :=
  runF_K (A := an_23) (c := cd_23) Tryd.func23 (by kernel_rfl) (by kernel_rfl) (by kernel_rfl) ((show _ = sh_23 C a0 H by kernel_rfl).trans h)
def an_25 : Ann := ⟨[(4, [4, 11, 12, 13])], [], []⟩
noncomputable def cd_25 : Code := Tryd.f25.body.getD .skip
noncomputable def lp_25x0 (C : Callee) : List AV → AHeap → Option (AV × AHeap) := (loopsK Tryd.prog C an_25 35 cd_25 (retK Tryd.prog 35 Tryd.f25.results.toList) (fun _ _ _ => none) (retK Tryd.prog 35 Tryd.f25.results.toList)).getD 0 fun _ _ => none
noncomputable def jn_25x0 (C : Callee) (t4 t11 t12 t13 : AV) (H : AHeap) : Option (AV × AHeap) :=
  bo (bi .add 3 t13 (I 1)) fun v33 =>
  lp_25x0 C [t4, t11, t12, v33] H
noncomputable def sh_25 (C : Callee) (a0 : AV) (H : AHeap) : Option (AV × AHeap) :=
  bnd (C 35 [a0, (.s (Go.Value.string { data := #[10] }))] H) fun v11 H => bnd (lnS v11 H) fun v12 H =>
  lp_25x0 C [(.s (Go.Value.slice none 0 0)), v11, v12, (I 0)] H
theorem le_25x0 (C : Callee) (t4 t11 t12 t13 : AV) (H : AHeap) : lp_25x0 C [t4, t11, t12, t13] H =
  bo (bi .lss 3 t13 t12) fun v14 =>
  condK v14
  (bnd (ix 1 t11 t13 H) fun v15 H => bnd (ld v15 H) fun v16 H =>
   bnd (C 22 [v16] H) fun v18 H =>
   bnd (lnS v18 H) fun v20 H => bo (bi .eql 3 v20 (I 0)) fun v21 =>
   condK v21
   (jn_25x0 C t4 t11 t12 t13 H)
   (bnd (C 44 [v18] H) fun v24 H => bo (extractA v24 0) fun v25 => bo (extractA v24 1) fun v26 => bnd (alc 52 [zB, zI, zI, .s (.int .u16 0)] H) fun v8 H => bnd (st 4 v8 v25 H) fun _ H =>
    bo (un .not v26) fun v28 =>
    condK v28
    (some (.tup [(.s (Go.Value.slice none 0 0)), (I 2)], H))
    (bnd (lda 4 v8 H) fun v30 H => bnd (bs 46 1 [(0, v30)] H) fun v31 H => bnd (app 52 4 32 t4 v31 H) fun v32 H =>
     jn_25x0 C v32 t11 t12 t13 H)))
  (some (.tup [t4, (I 0)], H)) :=
  (congrFun (congrFun (congrArg (fun l => l.getD 0 fun _ _ => none) (loops_eq cd_25 (retK Tryd.prog 35 Tryd.f25.results.toList) (fun _ _ _ => none) (retK Tryd.prog 35 Tryd.f25.results.toList))) [t4, t11, t12, t13]) H).trans (by kernel_rfl)
theorem rn_25 (C : Callee) (a0 : AV) (H : AHeap) {r : AV × AHeap} (h : sh_25 C a0 H = some r) : runF Tryd.prog C 25 [a0] H = some r :=
  runF_K (A := an_25) (c := cd_25) Tryd.func25 (by kernel_rfl) (by kernel_rfl) (by kernel_rfl) ((show _ = sh_25 C a0 H by kernel_rfl).trans h)
def an_26 : Ann := ⟨[(5, [0, 1, 5])], [(6, [some false, some false, some false, some false, some false, some false, some false, some false, some false])], []⟩
noncomputable def cd_26 : Code := Tryd.f26.body.getD .skip
noncomputable def lp_26x0 (C : Callee) : List AV → AHeap → Option (AV × AHeap) := (loopsK Tryd.prog C an_26 26 cd_26 (retK Tryd.prog 26 Tryd.f26.results.toList) (fun _ _ _ => none) (retK Tryd.prog 26 Tryd.f26.results.toList)).getD 0 fun _ _ => none
noncomputable def sh_26 (C : Callee) (a0 a1 : AV) (H : AHeap) : Option (AV × AHeap) :=
  bnd (lnS a0 H) fun v7 H => bnd (lnS a1 H) fun v9 H => bo (bi .neq 3 v7 v9) fun v10 =>
  condK v10
  (some ((B false), H))
  (lp_26x0 C [a0, a1, (I 0)] H)
theorem le_26x0 (C : Callee) (t0 t1 t5 : AV) (H : AHeap) : lp_26x0 C [t0, t1, t5] H =
  bnd (lnS t0 H) fun v13 H => bo (bi .lss 3 t5 v13) fun v14 =>
  condK v14
  (bnd (ix 4 t0 t5 H) fun v19 H => bnd (lda 4 v19 H) fun v20 H => bnd (ix 4 t1 t5 H) fun v23 H => bnd (lda 4 v23 H) fun v24 H => bo (bi .neq 52 v20 v24) fun v25 =>
   condK v25
   (some ((B false), H))
   (bo (bi .add 3 t5 (I 1)) fun v16 =>
    lp_26x0 C [t0, t1, v16] H))
  (some ((B true), H)) :=
  (congrFun (congrFun (congrArg (fun l => l.getD 0 fun _ _ => none) (loops_eq cd_26 (retK Tryd.prog 26 Tryd.f26.results.toList) (fun _ _ _ => none) (retK Tryd.prog 26 Tryd.f26.results.toList))) [t0, t1, t5]) H).trans (by kernel_rfl)
theorem rn_26 (C : Callee) (a0 a1 : AV) (H : AHeap) {r : AV × AHeap} (h : sh_26 C a0 a1 H = some r) : runF Tryd.prog C 26 [a0, a1] H = some r :=
  runF_K (A := an_26) (c := cd_26) Tryd.func26 (by kernel_rfl) (by kernel_rfl) (by kernel_rfl) ((show _ = sh_26 C a0 a1 H by kernel_rfl).trans h)
def an_27 : Ann := ⟨[(4, [4, 10, 11, 12])], [], []⟩
noncomputable def cd_27 : Code := Tryd.f27.body.getD .skip
noncomputable def lp_27x0 (C : Callee) : List AV → AHeap → Option (AV × AHeap) := (loopsK Tryd.prog C an_27 37 cd_27 (retK Tryd.prog 37 Tryd.f27.results.toList) (fun _ _ _ => none) (retK Tryd.prog 37 Tryd.f27.results.toList)).getD 0 fun _ _ => none
noncomputable def sh_27 (C : Callee) (a0 : AV) (H : AHeap) : Option (AV × AHeap) :=
  bnd (alc 84 [zP, zN] H) fun v4 H =>
  bnd (lnS a0 H) fun v11 H =>
  lp_27x0 C [v4, a0, v11, (I 0)] H
theorem le_27x0 (C : Callee) (t4 t10 t11 t12 : AV) (H : AHeap) : lp_27x0 C [t4, t10, t11, t12] H =
  bo (bi .lss 3 t12 t11) fun v13 =>
  condK v13
  (bnd (ix 4 t10 t12 H) fun v14 H => bnd (lda 4 v14 H) fun v15 H => bnd (alc 52 [zB, zI, zI, .s (.int .u16 0)] H) fun v6 H => bnd (st 4 v6 v15 H) fun _ H =>
   bnd (lda 4 v6 H) fun v16 H => bnd (C 45 [v16] H) fun v17 H =>
   bnd (C 25 [v17] H) fun v20 H => bo (extractA v20 0) fun v21 => bo (extractA v20 1) fun v22 =>
   bo (bi .neq 25 v22 (I 0)) fun v24 => gdA (some v24) false (liftO (some v21) H) H fun v26 H => gdA (some v24) false (lda 4 v6 H) H fun v27 H => gdA (some v24) false (bs 46 1 [(0, v27)] H) H fun v28 H => gdA (some v24) false (C 46 [v26, v28] H) H fun v29 H => gdA (some v24) false (liftO (un .not v29) H) H fun v30 H => bo (pickA v24 (B true) v30) fun v31 =>
   condK v31
   (some (.tup [(.s (Go.Value.string { data := #[] })), (I 1)], H))
   (bo (bi .add 9 v17 (.s (Go.Value.string { data := #[10] }))) fun v33 => bnd (C 47 [t4, v33] H) fun v34 H =>
    bo (bi .add 3 t12 (I 1)) fun v35 =>
    lp_27x0 C [t4, t10, t11, v35] H))
  (bnd (C 48 [t4] H) fun v36 H =>
   some (.tup [v36, (I 0)], H)) :=
  (congrFun (congrFun (congrArg (fun l => l.getD 0 fun _ _ => none) (loops_eq cd_27 (retK Tryd.prog 37 Tryd.f27.results.toList) (fun _ _ _ => none) (retK Tryd.prog 37 Tryd.f27.results.toList))) [t4, t10, t11, t12]) H).trans (by kernel_rfl)
theorem rn_27 (C : Callee) (a0 : AV) (H : AHeap) {r : AV × AHeap} (h : sh_27 C a0 H = some r) : runF Tryd.prog C 27 [a0] H = some r :=
  runF_K (A := an_27) (c := cd_27) Tryd.func27 (by kernel_rfl) (by kernel_rfl) (by kernel_rfl) ((show _ = sh_27 C a0 H by kernel_rfl).trans h)
def an_28 : Ann := ⟨[], [], []⟩
noncomputable def cd_28 : Code := Tryd.f28.body.getD .skip
noncomputable def sh_28 (C : Callee) (H : AHeap) : Option (AV × AHeap) :=
  bnd (C 25 [(.s (Go.Value.string { data := #[115, 116, 101, 112, 32, 49, 10, 103, 105, 118, 101, 32, 50, 10, 115, 112, 111, 105, 108, 32, 51, 32, 52, 32, 53, 10] }))] H) fun v4 H => bo (extractA v4 0) fun v5 => bo (extractA v4 1) fun v6 =>
  bo (bi .eql 25 v6 (I 0)) fun v8 => gdA (some v8) true (liftO (some v5) H) H fun v10 H => gdA (some v8) true (liftO (bd 52 [(1, (I 1))]) H) H fun v11 H => gdA (some v8) true (liftO (bd 52 [(0, (B true)), (1, (I 2))]) H) H fun v12 H => gdA (some v8) true (liftO (bd 52 [(0, (B true)), (1, (I 3)), (2, (I 4)), (3, (.s (Go.Value.int Go.IntKind.u16 5)))]) H) H fun v13 H => gdA (some v8) true (bs 46 3 [(0, v11), (1, v12), (2, v13)] H) H fun v14 H => gdA (some v8) true (C 26 [v10, v14] H) H fun v15 H => bo (pickA v8 v15 (B false)) fun v16 =>
  some (v16, H)
theorem rn_28 (C : Callee) (H : AHeap) {r : AV × AHeap} (h : sh_28 C H = some r) : runF Tryd.prog C 28 [] H = some r :=
  runF_K (A := an_28) (c := cd_28) Tryd.func28 (by kernel_rfl) (by kernel_rfl) (by kernel_rfl) ((show _ = sh_28 C H by kernel_rfl).trans h)
def an_29 : Ann := ⟨[(4, [4, 11, 12, 13])], [], []⟩
noncomputable def cd_29 : Code := Tryd.f29.body.getD .skip
noncomputable def lp_29x0 (C : Callee) : List AV → AHeap → Option (AV × AHeap) := (loopsK Tryd.prog C an_29 35 cd_29 (retK Tryd.prog 35 Tryd.f29.results.toList) (fun _ _ _ => none) (retK Tryd.prog 35 Tryd.f29.results.toList)).getD 0 fun _ _ => none
noncomputable def jn_29x0 (C : Callee) (t4 t11 t12 t13 : AV) (H : AHeap) : Option (AV × AHeap) :=
  bo (bi .add 3 t13 (I 1)) fun v33 =>
  lp_29x0 C [t4, t11, t12, v33] H
noncomputable def sh_29 (C : Callee) (a0 : AV) (H : AHeap) : Option (AV × AHeap) :=
  bnd (C 40 [a0] H) fun v11 H => bnd (lnS v11 H) fun v12 H =>
  lp_29x0 C [(.s (Go.Value.slice none 0 0)), v11, v12, (I 0)] H
theorem le_29x0 (C : Callee) (t4 t11 t12 t13 : AV) (H : AHeap) : lp_29x0 C [t4, t11, t12, t13] H =
  bo (bi .lss 3 t13 t12) fun v14 =>
  condK v14
  (bnd (ix 1 t11 t13 H) fun v15 H => bnd (ld v15 H) fun v16 H =>
   bnd (C 23 [v16] H) fun v18 H =>
   bnd (lnS v18 H) fun v20 H => bo (bi .eql 3 v20 (I 0)) fun v21 =>
   condK v21
   (jn_29x0 C t4 t11 t12 t13 H)
   (bnd (C 49 [v18] H) fun v24 H => bo (extractA v24 0) fun v25 => bo (extractA v24 1) fun v26 => bnd (alc 52 [zB, zI, zI, .s (.int .u16 0)] H) fun v8 H => bnd (st 4 v8 v25 H) fun _ H =>
    bo (un .not v26) fun v28 =>
    condK v28
    (some (.tup [(.s (Go.Value.slice none 0 0)), (B false)], H))
    (bnd (lda 4 v8 H) fun v30 H => bnd (bs 46 1 [(0, v30)] H) fun v31 H => bnd (app 52 4 32 t4 v31 H) fun v32 H =>
     jn_29x0 C v32 t11 t12 t13 H)))
  (some (.tup [t4, (B true)], H)) :=
  (congrFun (congrFun (congrArg (fun l => l.getD 0 fun _ _ => none) (loops_eq cd_29 (retK Tryd.prog 35 Tryd.f29.results.toList) (fun _ _ _ => none) (retK Tryd.prog 35 Tryd.f29.results.toList))) [t4, t11, t12, t13]) H).trans (by kernel_rfl)
theorem rn_29 (C : Callee) (a0 : AV) (H : AHeap) {r : AV × AHeap} (h : sh_29 C a0 H = some r) : runF Tryd.prog C 29 [a0] H = some r :=
  runF_K (A := an_29) (c := cd_29) Tryd.func29 (by kernel_rfl) (by kernel_rfl) (by kernel_rfl) ((show _ = sh_29 C a0 H by kernel_rfl).trans h)
def an_30 : Ann := ⟨[(4, [0, 1, 2, 7, 8])], [], []⟩
noncomputable def cd_30 : Code := Tryd.f30.body.getD .skip
noncomputable def lp_30x0 (C : Callee) : List AV → AHeap → Option (AV × AHeap) := (loopsK Tryd.prog C an_30 30 cd_30 (retK Tryd.prog 30 Tryd.f30.results.toList) (fun _ _ _ => none) (retK Tryd.prog 30 Tryd.f30.results.toList)).getD 0 fun _ _ => none
noncomputable def sh_30 (C : Callee) (a0 a1 a2 : AV) (H : AHeap) : Option (AV × AHeap) :=
  lp_30x0 C [a0, a1, a2, (.s (Go.Value.slice none 0 0)), (I 0)] H
theorem le_30x0 (C : Callee) (t0 t1 t2 t7 t8 : AV) (H : AHeap) : lp_30x0 C [t0, t1, t2, t7, t8] H =
  bnd (lnS t0 H) fun v11 H => bo (bi .lss 3 t8 v11) fun v12 => gdA (some v12) true (liftO (some t8) H) H fun v14 H => gdA (some v12) true (liftO (bi .lss 3 v14 (I 60)) H) H fun v15 H => bo (pickA v12 v15 (B false)) fun v16 =>
  condK v16
  (bnd (ix 4 t0 t8 H) fun v22 H => bnd (lda 4 v22 H) fun v23 H => bnd (C 50 [v23, t1, t2] H) fun v26 H => bnd (bs 46 1 [(0, v26)] H) fun v27 H => bnd (app 52 4 32 t7 v27 H) fun v28 H =>
   bo (bi .add 3 t8 (I 1)) fun v18 =>
   lp_30x0 C [t0, t1, t2, v28, v18] H)
  (some (t7, H)) :=
  (congrFun (congrFun (congrArg (fun l => l.getD 0 fun _ _ => none) (loops_eq cd_30 (retK Tryd.prog 30 Tryd.f30.results.toList) (fun _ _ _ => none) (retK Tryd.prog 30 Tryd.f30.results.toList))) [t0, t1, t2, t7, t8]) H).trans (by kernel_rfl)
theorem rn_30 (C : Callee) (a0 a1 a2 : AV) (H : AHeap) {r : AV × AHeap} (h : sh_30 C a0 a1 a2 H = some r) : runF Tryd.prog C 30 [a0, a1, a2] H = some r :=
  runF_K (A := an_30) (c := cd_30) Tryd.func30 (by kernel_rfl) (by kernel_rfl) (by kernel_rfl) ((show _ = sh_30 C a0 a1 a2 H by kernel_rfl).trans h)
def an_31 : Ann := ⟨[(4, [4, 10, 11, 12])], [(9, [some false, some false, some true, some false, some false, some false, some false, some true, some false, some false, some false, some false, some false, some false, some false, some false])], []⟩
noncomputable def cd_31 : Code := Tryd.f31.body.getD .skip
noncomputable def lp_31x0 (C : Callee) : List AV → AHeap → Option (AV × AHeap) := (loopsK Tryd.prog C an_31 63 cd_31 (retK Tryd.prog 63 Tryd.f31.results.toList) (fun _ _ _ => none) (retK Tryd.prog 63 Tryd.f31.results.toList)).getD 0 fun _ _ => none
noncomputable def jn_31x0 (C : Callee) (t4 t6 t7 t10 t11 t12 : AV) (H : AHeap) : Option (AV × AHeap) :=
  bnd (C 23 [t7] H) fun v46 H => bnd (C 49 [v46] H) fun v47 H => bo (extractA v47 0) fun v48 => bo (extractA v47 1) fun v49 => bnd (alc 52 [zB, zI, zI, .s (.int .u16 0)] H) fun v8 H => bnd (st 4 v8 v48 H) fun _ H =>
  bo (un .not v49) fun v51 => gdA (some v51) false (lda 4 v8 H) H fun v53 H => gdA (some v51) false (lda 4 t6 H) H fun v54 H => gdA (some v51) false (liftO (bi .neq 52 v53 v54) H) H fun v55 H => bo (pickA v51 (B true) v55) fun v56 =>
  condK v56
  (some (.tup [(.s (Go.Value.string { data := #[] })), (B false)], H))
  (bo (bi .add 9 t7 (.s (Go.Value.string { data := #[10] }))) fun v59 => bo (bi .add 9 t4 v59) fun v60 =>
   bo (bi .add 3 t12 (I 1)) fun v61 =>
   lp_31x0 C [v60, t10, t11, v61] H)
noncomputable def sh_31 (C : Callee) (a0 : AV) (H : AHeap) : Option (AV × AHeap) :=
  bnd (lnS a0 H) fun v11 H =>
  lp_31x0 C [(.s (Go.Value.string { data := #[] })), a0, v11, (I 0)] H
theorem le_31x0 (C : Callee) (t4 t10 t11 t12 : AV) (H : AHeap) : lp_31x0 C [t4, t10, t11, t12] H =
  bo (bi .lss 3 t12 t11) fun v13 =>
  condK v13
  (bnd (ix 4 t10 t12 H) fun v14 H => bnd (lda 4 v14 H) fun v15 H => bnd (alc 52 [zB, zI, zI, .s (.int .u16 0)] H) fun v6 H => bnd (st 4 v6 v15 H) fun _ H =>
   bo (fieldPtr v6 1) fun v16 => bnd (ld v16 H) fun v17 H => bnd (C 51 [v17] H) fun v18 H => bo (bi .add 9 (.s (Go.Value.string { data := #[115, 116, 101, 112, 32] })) v18) fun v19 =>
   bo (fieldPtr v6 0) fun v20 => bnd (ld v20 H) fun v21 H =>
   condK v21
   (bo (fieldPtr v6 1) fun v22 => bnd (ld v22 H) fun v23 H => bnd (C 51 [v23] H) fun v24 H => bo (bi .add 9 (.s (Go.Value.string { data := #[103, 105, 118, 101, 32] })) v24) fun v25 =>
    bo (fieldPtr v6 3) fun v26 => bnd (ld v26 H) fun v27 H => bo (bi .neq 50 v27 (.s (Go.Value.int Go.IntKind.u16 0))) fun v28 =>
    condK v28
    (bo (fieldPtr v6 1) fun v29 => bnd (ld v29 H) fun v30 H => bnd (unG H (C 51 [v30] H.guard)) fun v31 H => bo (bi .add 9 (.s (Go.Value.string { data := #[115, 112, 111, 105, 108, 32] })) v31) fun v32 => bo (bi .add 9 v32 (.s (Go.Value.string { data := #[32] }))) fun v33 => bo (fieldPtr v6 2) fun v34 => bnd (ld v34 H) fun v35 H => bnd (unG H (C 51 [v35] H.guard)) fun v36 H => bo (bi .add 9 v33 v36) fun v37 => bo (bi .add 9 v37 (.s (Go.Value.string { data := #[32] }))) fun v38 => bo (fieldPtr v6 3) fun v39 => bnd (ld v39 H) fun v40 H => bnd (cv 50 3 v40 H) fun v41 H => bnd (C 51 [v41] H) fun v42 H => bo (bi .add 9 v38 v42) fun v43 =>
     jn_31x0 C t4 v6 v43 t10 t11 t12 H)
    (jn_31x0 C t4 v6 v25 t10 t11 t12 H))
   (jn_31x0 C t4 v6 v19 t10 t11 t12 H))
  (some (.tup [t4, (B true)], H)) :=
  (congrFun (congrFun (congrArg (fun l => l.getD 0 fun _ _ => none) (loops_eq cd_31 (retK Tryd.prog 63 Tryd.f31.results.toList) (fun _ _ _ => none) (retK Tryd.prog 63 Tryd.f31.results.toList))) [t4, t10, t11, t12]) H).trans (by kernel_rfl)
theorem rn_31 (C : Callee) (a0 : AV) (H : AHeap) {r : AV × AHeap} (h : sh_31 C a0 H = some r) : runF Tryd.prog C 31 [a0] H = some r :=
  runF_K (A := an_31) (c := cd_31) Tryd.func31 (by kernel_rfl) (by kernel_rfl) (by kernel_rfl) ((show _ = sh_31 C a0 H by kernel_rfl).trans h)
def an_37 : Ann := ⟨[], [], []⟩
noncomputable def cd_37 : Code := Tryd.f37.body.getD .skip
noncomputable def sh_37 (C : Callee) (a0 a1 : AV) (H : AHeap) : Option (AV × AHeap) :=
  bnd (C 60 [a0, a1] H) fun v7 H =>
  some (v7, H)
theorem rn_37 (C : Callee) (a0 a1 : AV) (H : AHeap) {r : AV × AHeap} (h : sh_37 C a0 a1 H = some r) : runF Tryd.prog C 37 [a0, a1] H = some r :=
  runF_K (A := an_37) (c := cd_37) Tryd.func37 (by kernel_rfl) (by kernel_rfl) (by kernel_rfl) ((show _ = sh_37 C a0 a1 H by kernel_rfl).trans h)
def an_40 : Ann := ⟨[(3, [0, 3]), (5, [0, 3, 4])], [], []⟩
noncomputable def cd_40 : Code := Tryd.f40.body.getD .skip
noncomputable def lp_40x0 (C : Callee) : List AV → AHeap → Option (AV × AHeap) := (loopsK Tryd.prog C an_40 34 cd_40 (retK Tryd.prog 34 Tryd.f40.results.toList) (fun _ _ _ => none) (retK Tryd.prog 34 Tryd.f40.results.toList)).getD 0 fun _ _ => none
noncomputable def lp_40x1 (C : Callee) : List AV → AHeap → Option (AV × AHeap) := (loopsK Tryd.prog C an_40 34 cd_40 (retK Tryd.prog 34 Tryd.f40.results.toList) (fun _ _ _ => none) (retK Tryd.prog 34 Tryd.f40.results.toList)).getD 1 fun _ _ => none
noncomputable def sh_40 (C : Callee) (a0 : AV) (H : AHeap) : Option (AV × AHeap) :=
  lp_40x0 C [a0, (.s (Go.Value.slice none 0 0))] H
theorem le_40x0 (C : Callee) (t0 t3 : AV) (H : AHeap) : lp_40x0 C [t0, t3] H =
  bnd (lnT t0 H) fun v6 H => bo (bi .gtr 3 v6 (I 0)) fun v7 =>
  condK v7
  (lp_40x1 C [t0, t3, (I 0)] H)
  (some (t3, H)) :=
  (congrFun (congrFun (congrArg (fun l => l.getD 0 fun _ _ => none) (loops_eq cd_40 (retK Tryd.prog 34 Tryd.f40.results.toList) (fun _ _ _ => none) (retK Tryd.prog 34 Tryd.f40.results.toList))) [t0, t3]) H).trans (by kernel_rfl)
theorem le_40x1 (C : Callee) (t0 t3 t4 : AV) (H : AHeap) : lp_40x1 C [t0, t3, t4] H =
  bnd (lnT t0 H) fun v10 H => bo (bi .lss 3 t4 v10) fun v11 => gdA (some v11) true (liftO (some t0) H) H fun v13 H => gdA (some v11) true (liftO (some t4) H) H fun v14 H => gdA (some v11) true (liftO (ixT v13 v14) H) H fun v15 H => gdA (some v11) true (liftO (bi .neq 5 v15 (.s (Go.Value.int Go.IntKind.u8 10))) H) H fun v16 H => bo (pickA v11 v16 (B false)) fun v17 =>
  condK v17
  (bo (bi .add 3 t4 (I 1)) fun v19 =>
   lp_40x1 C [t0, t3, v19] H)
  (bo (slT t0 none (some t4)) fun v23 => bnd (bs 37 1 [(0, v23)] H) fun v24 H => bnd (app 9 1 16 t3 v24 H) fun v25 H =>
   bo (bi .add 3 t4 (I 1)) fun v28 => bnd (lnT t0 H) fun v30 H => bnd (liftO (minMaxA Tryd.prog false #[3, 3] 3 [v28, v30]) H) fun v31 H => bo (slT t0 (some v31) none) fun v32 =>
   lp_40x0 C [v32, v25] H) :=
  (congrFun (congrFun (congrArg (fun l => l.getD 1 fun _ _ => none) (loops_eq cd_40 (retK Tryd.prog 34 Tryd.f40.results.toList) (fun _ _ _ => none) (retK Tryd.prog 34 Tryd.f40.results.toList))) [t0, t3, t4]) H).trans (by kernel_rfl)
theorem rn_40 (C : Callee) (a0 : AV) (H : AHeap) {r : AV × AHeap} (h : sh_40 C a0 H = some r) : runF Tryd.prog C 40 [a0] H = some r :=
  runF_K (A := an_40) (c := cd_40) Tryd.func40 (by kernel_rfl) (by kernel_rfl) (by kernel_rfl) ((show _ = sh_40 C a0 H by kernel_rfl).trans h)
def an_42 : Ann := ⟨[(6, [0, 1, 5, 6])], [], []⟩
noncomputable def cd_42 : Code := Tryd.f42.body.getD .skip
noncomputable def lp_42x0 (C : Callee) : List AV → AHeap → Option (AV × AHeap) := (loopsK Tryd.prog C an_42 42 cd_42 (retK Tryd.prog 42 Tryd.f42.results.toList) (fun _ _ _ => none) (retK Tryd.prog 42 Tryd.f42.results.toList)).getD 0 fun _ _ => none
noncomputable def jn_42x0 (C : Callee) (t0 t1 t5 t6 : AV) (H : AHeap) : Option (AV × AHeap) :=
  bo (bi .add 3 t6 (I 1)) fun v21 =>
  lp_42x0 C [t0, t1, t5, v21] H
noncomputable def sh_42 (C : Callee) (a0 a1 : AV) (H : AHeap) : Option (AV × AHeap) :=
  bnd (C 71 [a0, a1] H) fun v10 H =>
  bo (bi .eql 3 v10 (I (-1))) fun v12 =>
  condK v12
  (some (a0, H))
  (bo (bi .add 3 v10 (I 1)) fun v15 =>
   lp_42x0 C [a0, a1, v10, v15] H)
theorem le_42x0 (C : Callee) (t0 t1 t5 t6 : AV) (H : AHeap) : lp_42x0 C [t0, t1, t5, t6] H =
  bnd (lnS t0 H) fun v18 H => bo (bi .lss 3 t6 v18) fun v19 =>
  condK v19
  (bnd (ix 1 t0 t6 H) fun v24 H => bnd (ld v24 H) fun v25 H =>
   bnd (callA Tryd.prog C t1 [v25] H) fun v28 H => bo (un .not v28) fun v29 =>
   condK v29
   (bnd (ix 1 t0 t5 H) fun v33 H => bnd (st 1 v33 v25 H) fun _ H =>
    bo (bi .add 3 t5 (I 1)) fun v35 =>
    jn_42x0 C t0 t1 v35 t6 H)
   (jn_42x0 C t0 t1 t5 t6 H))
  (bo (slS 1 t0 (some t5) none none) fun v38 => bnd (clr 1 [zS] v38 H) fun _ H =>
   bo (slS 1 t0 none (some t5) none) fun v41 =>
   some (v41, H)) :=
  (congrFun (congrFun (congrArg (fun l => l.getD 0 fun _ _ => none) (loops_eq cd_42 (retK Tryd.prog 42 Tryd.f42.results.toList) (fun _ _ _ => none) (retK Tryd.prog 42 Tryd.f42.results.toList))) [t0, t1, t5, t6]) H).trans (by kernel_rfl)
theorem rn_42 (C : Callee) (a0 a1 : AV) (H : AHeap) {r : AV × AHeap} (h : sh_42 C a0 a1 H = some r) : runF Tryd.prog C 42 [a0, a1] H = some r :=
  runF_K (A := an_42) (c := cd_42) Tryd.func42 (by kernel_rfl) (by kernel_rfl) (by kernel_rfl) ((show _ = sh_42 C a0 a1 H by kernel_rfl).trans h)
def an_43 : Ann := ⟨[], [], []⟩
noncomputable def cd_43 : Code := Tryd.f43.body.getD .skip
noncomputable def sh_43 (C : Callee) (a0 : AV) (H : AHeap) : Option (AV × AHeap) :=
  bo (bi .eql 9 a0 (.s (Go.Value.string { data := #[] }))) fun v4 =>
  some (v4, H)
theorem rn_43 (C : Callee) (a0 : AV) (H : AHeap) {r : AV × AHeap} (h : sh_43 C a0 H = some r) : runF Tryd.prog C 43 [a0] H = some r :=
  runF_K (A := an_43) (c := cd_43) Tryd.func43 (by kernel_rfl) (by kernel_rfl) (by kernel_rfl) ((show _ = sh_43 C a0 H by kernel_rfl).trans h)
def an_44 : Ann := ⟨[], [(9, [some false, some false, some false, some false, some false, some false, some false, some false, some false, some false, some false, some false, some false])], []⟩
noncomputable def cd_44 : Code := Tryd.f44.body.getD .skip
noncomputable def sh_44 (C : Callee) (a0 : AV) (H : AHeap) : Option (AV × AHeap) :=
  bnd (alc 52 [zB, zI, zI, .s (.int .u16 0)] H) fun v2 H =>
  bo (slS 1 a0 (some (I 1)) none none) fun v8 => bnd (C 72 [v8] H) fun v9 H => bo (extractA v9 0) fun v10 => bo (extractA v9 1) fun v11 =>
  bo (un .not v11) fun v14 =>
  condK v14
  (bo (bd 52 []) fun v15 => bnd (st 4 v2 v15 H) fun _ H =>
   bnd (lda 4 v2 H) fun r0 _ => some (.tup [r0, (B false)], H))
  (bnd (ix 1 a0 (I 0) H) fun v18 H => bnd (ld v18 H) fun v19 H => bo (bi .eql 9 v19 (.s (Go.Value.string { data := #[115, 116, 101, 112] }))) fun v20 => gdA (some v20) true (liftO (some v10) H) H fun v22 H => gdA (some v20) true (lnS v22 H) H fun v23 H => gdA (some v20) true (liftO (bi .eql 3 v23 (I 1)) H) H fun v24 H => bo (pickA v20 v24 (B false)) fun v25 =>
   condK v25
   (bnd (ix 1 v10 (I 0) H) fun v27 H => bnd (ld v27 H) fun v28 H => bo (bd 52 [(1, v28)]) fun v29 => bnd (st 4 v2 v29 H) fun _ H =>
    bnd (lda 4 v2 H) fun r0 _ => some (.tup [r0, (B true)], H))
   (bnd (ix 1 a0 (I 0) H) fun v32 H => bnd (ld v32 H) fun v33 H => bo (bi .eql 9 v33 (.s (Go.Value.string { data := #[103, 105, 118, 101] }))) fun v34 => gdA (some v34) true (liftO (some v10) H) H fun v36 H => gdA (some v34) true (lnS v36 H) H fun v37 H => gdA (some v34) true (liftO (bi .eql 3 v37 (I 1)) H) H fun v38 H => bo (pickA v34 v38 (B false)) fun v39 =>
    condK v39
    (bnd (ix 1 v10 (I 0) H) fun v41 H => bnd (ld v41 H) fun v42 H => bo (bd 52 [(0, (B true)), (1, v42)]) fun v43 => bnd (st 4 v2 v43 H) fun _ H =>
     bnd (lda 4 v2 H) fun r0 _ => some (.tup [r0, (B true)], H))
    (bnd (ix 1 a0 (I 0) H) fun v46 H => bnd (ld v46 H) fun v47 H => bo (bi .eql 9 v47 (.s (Go.Value.string { data := #[115, 112, 111, 105, 108] }))) fun v48 => gdA (some v48) true (liftO (some v10) H) H fun v50 H => gdA (some v48) true (lnS v50 H) H fun v51 H => gdA (some v48) true (liftO (bi .eql 3 v51 (I 3)) H) H fun v52 H => bo (pickA v48 v52 (B false)) fun v53 => gdA (some v53) true (liftO (some v10) H) H fun v55 H => gdA (some v53) true (ix 1 v55 (I 2) H) H fun v56 H => gdA (some v53) true (ld v56 H) H fun v57 H => gdA (some v53) true (liftO (bi .geq 3 v57 (I 1)) H) H fun v58 H => bo (pickA v53 v58 (B false)) fun v59 => gdA (some v59) true (liftO (some v10) H) H fun v61 H => gdA (some v59) true (ix 1 v61 (I 2) H) H fun v62 H => gdA (some v59) true (ld v62 H) H fun v63 H => gdA (some v59) true (liftO (bi .leq 3 v63 (I 65535)) H) H fun v64 H => bo (pickA v59 v64 (B false)) fun v65 =>
     condK v65
     (bnd (ix 1 v10 (I 0) H) fun v67 H => bnd (ld v67 H) fun v68 H => bnd (ix 1 v10 (I 1) H) fun v70 H => bnd (ld v70 H) fun v71 H => bnd (ix 1 v10 (I 2) H) fun v73 H => bnd (ld v73 H) fun v74 H => bnd (cv 3 50 v74 H) fun v75 H => bo (bd 52 [(0, (B true)), (1, v68), (2, v71), (3, v75)]) fun v76 => bnd (st 4 v2 v76 H) fun _ H =>
      bnd (lda 4 v2 H) fun r0 _ => some (.tup [r0, (B true)], H))
     (bo (bd 52 []) fun v77 => bnd (st 4 v2 v77 H) fun _ H =>
      bnd (lda 4 v2 H) fun r0 _ => some (.tup [r0, (B false)], H)))))
theorem rn_44 (C : Callee) (a0 : AV) (H : AHeap) {r : AV × AHeap} (h : sh_44 C a0 H = some r) : runF Tryd.prog C 44 [a0] H = some r :=
  runF_K (A := an_44) (c := cd_44) Tryd.func44 (by kernel_rfl) (by kernel_rfl) (by kernel_rfl) ((show _ = sh_44 C a0 H by kernel_rfl).trans h)
def an_45 : Ann := ⟨[], [(6, [some false, some false, some false, some true, some false, some false, some false, some false, some false, some false, some false])], []⟩
noncomputable def cd_45 : Code := Tryd.f45.body.getD .skip
noncomputable def sh_45 (C : Callee) (a0 : AV) (H : AHeap) : Option (AV × AHeap) :=
  bnd (boxA 52 a0 H) fun v1 H =>
  bo (fieldPtr v1 1) fun v4 => bnd (ld v4 H) fun v5 H => bnd (C 73 [v5] H) fun v6 H =>
  bo (fieldPtr v1 0) fun v8 => bnd (ld v8 H) fun v9 H => bo (un .not v9) fun v10 =>
  condK v10
  (bo (bi .add 9 (.s (Go.Value.string { data := #[115, 116, 101, 112, 32] })) v6) fun v12 =>
   some (v12, H))
  (bo (fieldPtr v1 3) fun v14 => bnd (ld v14 H) fun v15 H => bo (bi .eql 50 v15 (.s (Go.Value.int Go.IntKind.u16 0))) fun v16 =>
   condK v16
   (bo (bi .add 9 (.s (Go.Value.string { data := #[103, 105, 118, 101, 32] })) v6) fun v18 =>
    some (v18, H))
   (bo (fieldPtr v1 2) fun v20 => bnd (ld v20 H) fun v21 H => bnd (unG H (C 73 [v21] H.guard)) fun v22 H => bo (fieldPtr v1 3) fun v23 => bnd (ld v23 H) fun v24 H => bnd (cv 50 3 v24 H) fun v25 H => bnd (C 73 [v25] H) fun v26 H => bnd (bs 37 4 [(0, (.s (Go.Value.string { data := #[115, 112, 111, 105, 108] }))), (1, v6), (2, v22), (3, v26)] H) fun v27 H => bnd (C 74 [v27, (.s (Go.Value.string { data := #[32] }))] H) fun v28 H =>
    some (v28, H)))
theorem rn_45 (C : Callee) (a0 : AV) (H : AHeap) {r : AV × AHeap} (h : sh_45 C a0 H = some r) : runF Tryd.prog C 45 [a0] H = some r :=
  runF_K (A := an_45) (c := cd_45) Tryd.func45 (by kernel_rfl) (by kernel_rfl) (by kernel_rfl) ((show _ = sh_45 C a0 H by kernel_rfl).trans h)
def an_46 : Ann := ⟨[(5, [0, 1, 12, 13])], [(6, [some false, some false, some false, some false, some false, some false, some false, some false, some false])], []⟩
noncomputable def cd_46 : Code := Tryd.f46.body.getD .skip
noncomputable def lp_46x0 (C : Callee) : List AV → AHeap → Option (AV × AHeap) := (loopsK Tryd.prog C an_46 26 cd_46 (retK Tryd.prog 26 Tryd.f46.results.toList) (fun _ _ _ => none) (retK Tryd.prog 26 Tryd.f46.results.toList)).getD 0 fun _ _ => none
noncomputable def sh_46 (C : Callee) (a0 a1 : AV) (H : AHeap) : Option (AV × AHeap) :=
  bnd (lnS a0 H) fun v7 H => bnd (lnS a1 H) fun v9 H => bo (bi .neq 3 v7 v9) fun v10 =>
  condK v10
  (some ((B false), H))
  (bnd (lnS a0 H) fun v12 H =>
   lp_46x0 C [a0, a1, v12, (I 0)] H)
theorem le_46x0 (C : Callee) (t0 t1 t12 t13 : AV) (H : AHeap) : lp_46x0 C [t0, t1, t12, t13] H =
  bo (bi .lss 3 t13 t12) fun v14 =>
  condK v14
  (bnd (ix 4 t0 t13 H) fun v18 H => bnd (lda 4 v18 H) fun v19 H => bnd (ix 4 t1 t13 H) fun v22 H => bnd (lda 4 v22 H) fun v23 H => bo (bi .neq 52 v19 v23) fun v24 =>
   condK v24
   (some ((B false), H))
   (bo (bi .add 3 t13 (I 1)) fun v25 =>
    lp_46x0 C [t0, t1, t12, v25] H))
  (some ((B true), H)) :=
  (congrFun (congrFun (congrArg (fun l => l.getD 0 fun _ _ => none) (loops_eq cd_46 (retK Tryd.prog 26 Tryd.f46.results.toList) (fun _ _ _ => none) (retK Tryd.prog 26 Tryd.f46.results.toList))) [t0, t1, t12, t13]) H).trans (by kernel_rfl)
theorem rn_46 (C : Callee) (a0 a1 : AV) (H : AHeap) {r : AV × AHeap} (h : sh_46 C a0 a1 H = some r) : runF Tryd.prog C 46 [a0, a1] H = some r :=
  runF_K (A := an_46) (c := cd_46) Tryd.func46 (by kernel_rfl) (by kernel_rfl) (by kernel_rfl) ((show _ = sh_46 C a0 a1 H by kernel_rfl).trans h)
def an_47 : Ann := ⟨[], [], []⟩
noncomputable def cd_47 : Code := Tryd.f47.body.getD .skip
noncomputable def sh_47 (C : Callee) (a0 a1 : AV) (H : AHeap) : Option (AV × AHeap) :=
  bnd (C 75 [a0] H) fun v7 H =>
  bo (nilCheckA a0) fun v10 => bo (fieldPtr v10 1) fun v11 => bnd (ld v11 H) fun v12 H => bnd (app 5 1 1 v12 a1 H) fun v14 H => bo (nilCheckA a0) fun v15 => bo (fieldPtr v15 1) fun v16 => bnd (st 1 v16 v14 H) fun _ H =>
  bnd (lnT a1 H) fun v18 H =>
  some (.tup [v18, (.s Go.Value.nilIface)], H)
theorem rn_47 (C : Callee) (a0 a1 : AV) (H : AHeap) {r : AV × AHeap} (h : sh_47 C a0 a1 H = some r) : runF Tryd.prog C 47 [a0, a1] H = some r :=
  runF_K (A := an_47) (c := cd_47) Tryd.func47 (by kernel_rfl) (by kernel_rfl) (by kernel_rfl) ((show _ = sh_47 C a0 a1 H by kernel_rfl).trans h)
def an_49 : Ann := ⟨[], [(9, [some false, some false, some false, some false, some false, some false, some false, some false, some false, some false, some false, some false, some false])], []⟩
noncomputable def cd_49 : Code := Tryd.f49.body.getD .skip
noncomputable def sh_49 (C : Callee) (a0 : AV) (H : AHeap) : Option (AV × AHeap) :=
  bnd (alc 52 [zB, zI, zI, .s (.int .u16 0)] H) fun v2 H =>
  bo (slS 1 a0 (some (I 1)) none none) fun v8 => bnd (C 70 [v8] H) fun v9 H => bo (extractA v9 0) fun v10 => bo (extractA v9 1) fun v11 =>
  bo (un .not v11) fun v13 => gdA (some v13) false (liftO (some v10) H) H fun v15 H => gdA (some v13) false (lnS v15 H) H fun v16 H => gdA (some v13) false (liftO (bi .eql 3 v16 (I 0)) H) H fun v17 H => bo (pickA v13 (B true) v17) fun v18 => gdA (some v18) false (liftO (some v10) H) H fun v20 H => gdA (some v18) false (ix 1 v20 (I 0) H) H fun v21 H => gdA (some v18) false (ld v21 H) H fun v22 H => gdA (some v18) false (liftO (bi .lss 3 v22 (I 0)) H) H fun v23 H => bo (pickA v18 (B true) v23) fun v24 =>
  condK v24
  (bo (bd 52 []) fun v25 => bnd (st 4 v2 v25 H) fun _ H =>
   bnd (lda 4 v2 H) fun r0 _ => some (.tup [r0, (B false)], H))
  (bnd (ix 1 a0 (I 0) H) fun v28 H => bnd (ld v28 H) fun v29 H => bo (bi .eql 9 v29 (.s (Go.Value.string { data := #[115, 116, 101, 112] }))) fun v30 => gdA (some v30) true (liftO (some v10) H) H fun v32 H => gdA (some v30) true (lnS v32 H) H fun v33 H => gdA (some v30) true (liftO (bi .eql 3 v33 (I 1)) H) H fun v34 H => bo (pickA v30 v34 (B false)) fun v35 =>
   condK v35
   (bnd (ix 1 v10 (I 0) H) fun v37 H => bnd (ld v37 H) fun v38 H => bo (bd 52 [(1, v38)]) fun v39 => bnd (st 4 v2 v39 H) fun _ H =>
    bnd (lda 4 v2 H) fun r0 _ => some (.tup [r0, (B true)], H))
   (bnd (ix 1 a0 (I 0) H) fun v42 H => bnd (ld v42 H) fun v43 H => bo (bi .eql 9 v43 (.s (Go.Value.string { data := #[103, 105, 118, 101] }))) fun v44 => gdA (some v44) true (liftO (some v10) H) H fun v46 H => gdA (some v44) true (lnS v46 H) H fun v47 H => gdA (some v44) true (liftO (bi .eql 3 v47 (I 1)) H) H fun v48 H => bo (pickA v44 v48 (B false)) fun v49 =>
    condK v49
    (bnd (ix 1 v10 (I 0) H) fun v51 H => bnd (ld v51 H) fun v52 H => bo (bd 52 [(0, (B true)), (1, v52)]) fun v53 => bnd (st 4 v2 v53 H) fun _ H =>
     bnd (lda 4 v2 H) fun r0 _ => some (.tup [r0, (B true)], H))
    (bnd (ix 1 a0 (I 0) H) fun v56 H => bnd (ld v56 H) fun v57 H => bo (bi .eql 9 v57 (.s (Go.Value.string { data := #[115, 112, 111, 105, 108] }))) fun v58 => gdA (some v58) true (liftO (some v10) H) H fun v60 H => gdA (some v58) true (lnS v60 H) H fun v61 H => gdA (some v58) true (liftO (bi .eql 3 v61 (I 3)) H) H fun v62 H => bo (pickA v58 v62 (B false)) fun v63 => gdA (some v63) true (liftO (some v10) H) H fun v65 H => gdA (some v63) true (ix 1 v65 (I 1) H) H fun v66 H => gdA (some v63) true (ld v66 H) H fun v67 H => gdA (some v63) true (liftO (bi .geq 3 v67 (I 0)) H) H fun v68 H => bo (pickA v63 v68 (B false)) fun v69 => gdA (some v69) true (liftO (some v10) H) H fun v71 H => gdA (some v69) true (ix 1 v71 (I 2) H) H fun v72 H => gdA (some v69) true (ld v72 H) H fun v73 H => gdA (some v69) true (liftO (bi .geq 3 v73 (I 1)) H) H fun v74 H => bo (pickA v69 v74 (B false)) fun v75 => gdA (some v75) true (liftO (some v10) H) H fun v77 H => gdA (some v75) true (ix 1 v77 (I 2) H) H fun v78 H => gdA (some v75) true (ld v78 H) H fun v79 H => gdA (some v75) true (liftO (bi .leq 3 v79 (I 65535)) H) H fun v80 H => bo (pickA v75 v80 (B false)) fun v81 =>
     condK v81
     (bnd (ix 1 v10 (I 0) H) fun v83 H => bnd (ld v83 H) fun v84 H => bnd (ix 1 v10 (I 1) H) fun v86 H => bnd (ld v86 H) fun v87 H => bnd (ix 1 v10 (I 2) H) fun v89 H => bnd (ld v89 H) fun v90 H => bnd (cv 3 50 v90 H) fun v91 H => bo (bd 52 [(0, (B true)), (1, v84), (2, v87), (3, v91)]) fun v92 => bnd (st 4 v2 v92 H) fun _ H =>
      bnd (lda 4 v2 H) fun r0 _ => some (.tup [r0, (B true)], H))
     (bo (bd 52 []) fun v93 => bnd (st 4 v2 v93 H) fun _ H =>
      bnd (lda 4 v2 H) fun r0 _ => some (.tup [r0, (B false)], H)))))
theorem rn_49 (C : Callee) (a0 : AV) (H : AHeap) {r : AV × AHeap} (h : sh_49 C a0 H = some r) : runF Tryd.prog C 49 [a0] H = some r :=
  runF_K (A := an_49) (c := cd_49) Tryd.func49 (by kernel_rfl) (by kernel_rfl) (by kernel_rfl) ((show _ = sh_49 C a0 H by kernel_rfl).trans h)
def an_50 : Ann := ⟨[], [(7, [some false, some false, some true, some false, some false, some false, some false, some false, some false])], [(7, [(4, 6)])]⟩
noncomputable def cd_50 : Code := Tryd.f50.body.getD .skip
noncomputable def jn_50x0 (C : Callee) (t6 t7 : AV) (H : AHeap) : Option (AV × AHeap) :=
  bnd (lda 4 t7 H) fun v48 H => bnd (st 4 t6 v48 H) fun _ H =>
  bnd (lda 4 t6 H) fun r0 _ => some (r0, H)
noncomputable def sh_50 (C : Callee) (a0 a1 a2 : AV) (H : AHeap) : Option (AV × AHeap) :=
  bnd (boxA 89 a0 H) fun v3 H => bnd (alc 52 [zB, zI, zI, .s (.int .u16 0)] H) fun v6 H =>
  bo (fieldPtr v3 0) fun v8 => bnd (ld v8 H) fun v9 H => bo (bi .rem 3 v9 (I 23)) fun v10 => bo (bi .eql 3 v10 (I 22)) fun v11 =>
  condK v11
  (bo (fieldPtr v3 2) fun v12 => bnd (ld v12 H) fun v13 H => bo (bi .rem 3 v13 (I 2)) fun v14 => bo (bi .eql 3 v14 (I 0)) fun v15 => bo (fieldPtr v3 1) fun v16 => bnd (ld v16 H) fun v17 H => bo (fieldPtr v3 2) fun v18 => bnd (ld v18 H) fun v19 H => bo (fieldPtr v3 3) fun v20 => bnd (ld v20 H) fun v21 H => bo (bd 52 [(0, v15), (1, v17), (2, v19), (3, v21)]) fun v22 => bnd (st 4 v6 v22 H) fun _ H =>
   bnd (lda 4 v6 H) fun r0 _ => some (r0, H))
  (bo (fieldPtr v3 0) fun v23 => bnd (ld v23 H) fun v24 H => bnd (C 16 [v24, (I 2)] H) fun v25 H => bo (bi .eql 3 v25 (I 0)) fun v26 =>
   condK v26
   (bo (fieldPtr v3 1) fun v27 => bnd (ld v27 H) fun v28 H => bnd (C 16 [v28, a1] H) fun v30 H => bo (bd 52 [(1, v30)]) fun v31 => bnd (st 4 v6 v31 H) fun _ H =>
    bnd (lda 4 v6 H) fun r0 _ => some (r0, H))
   (bo (fieldPtr v3 1) fun v32 => bnd (ld v32 H) fun v33 H => bnd (C 16 [v33, a2] H) fun v35 H => bo (bd 52 [(0, (B true)), (1, v35)]) fun v36 => bnd (alc 52 [zB, zI, zI, .s (.int .u16 0)] H) fun v7 H => bnd (st 4 v7 v36 H) fun _ H =>
    bo (fieldPtr v3 0) fun v37 => bnd (ld v37 H) fun v38 H => bo (bi .rem 3 v38 (I 7)) fun v39 => bo (bi .eql 3 v39 (I 6)) fun v40 =>
    condK v40
    (bo (fieldPtr v3 2) fun v41 => bnd (ld v41 H) fun v42 H1 => bnd (unG H1 (C 16 [v42, (I 120)] H1.guard)) fun v43 H2 => bo (fieldPtr v3 3) fun v44 => bnd (ld v44 H2) fun v45 H4 => bo (fieldPtr v7 2) fun v46 => bnd (st 1 v46 v43 H4) fun _ H6 => bo (fieldPtr v7 3) fun v47 => bnd (st 1 v47 v45 H6) fun _ H8 => ck (watchV v44) H4 H6 <|
     jn_50x0 C v6 v7 H8)
    (jn_50x0 C v6 v7 H)))
theorem rn_50 (C : Callee) (a0 a1 a2 : AV) (H : AHeap) {r : AV × AHeap} (h : sh_50 C a0 a1 a2 H = some r) : runF Tryd.prog C 50 [a0, a1, a2] H = some r :=
  runF_K (A := an_50) (c := cd_50) Tryd.func50 (by kernel_rfl) (by kernel_rfl) (by kernel_rfl) ((show _ = sh_50 C a0 a1 a2 H by kernel_rfl).trans h)
def an_51 : Ann := ⟨[], [], []⟩
noncomputable def cd_51 : Code := Tryd.f51.body.getD .skip
noncomputable def sh_51 (C : Callee) (a0 : AV) (H : AHeap) : Option (AV × AHeap) :=
  bo (bi .lss 3 a0 (I 0)) fun v4 =>
  condK v4
  (bo (bi .gtr 3 a0 (I (-10))) fun v6 =>
   condK v6
   (bo (un .neg a0) fun v8 => bnd (C 51 [v8] H) fun v9 H => bo (bi .add 9 (.s (Go.Value.string { data := #[45] })) v9) fun v10 =>
    some (v10, H))
   (bo (bi .quo 3 a0 (I 10)) fun v12 => bnd (C 51 [v12] H) fun v13 H => bo (bi .rem 3 a0 (I 10)) fun v15 => bo (un .neg v15) fun v16 => bnd (C 51 [v16] H) fun v17 H => bo (bi .add 9 v13 v17) fun v18 =>
    some (v18, H)))
  (bo (bi .lss 3 a0 (I 10)) fun v20 =>
   condK v20
   (bo (bi .add 3 (I 48) a0) fun v22 => bnd (cv 3 5 v22 H) fun v23 H => bnd (bs 82 1 [(0, v23)] H) fun v24 H => bnd (cv 82 9 v24 H) fun v25 H =>
    some (v25, H))
   (bo (bi .quo 3 a0 (I 10)) fun v27 => bnd (C 51 [v27] H) fun v28 H => bo (bi .rem 3 a0 (I 10)) fun v30 => bnd (C 51 [v30] H) fun v31 H => bo (bi .add 9 v28 v31) fun v32 =>
    some (v32, H)))
theorem rn_51 (C : Callee) (a0 : AV) (H : AHeap) {r : AV × AHeap} (h : sh_51 C a0 H = some r) : runF Tryd.prog C 51 [a0] H = some r :=
  runF_K (A := an_51) (c := cd_51) Tryd.func51 (by kernel_rfl) (by kernel_rfl) (by kernel_rfl) ((show _ = sh_51 C a0 H by kernel_rfl).trans h)

end Go.Proofs.YtjmldnpdfnklcaaDoor

namespace Go.Proofs.YtjmldnpdfnklcaaDoor

def an_60 : Ann := ⟨[], [], []⟩
noncomputable def cd_60 : Code := Tryd.f60.body.getD .skip
noncomputable def sh_60 (C : Callee) (a0 a1 : AV) (H : AHeap) : Option (AV × AHeap) :=
  bnd (C 79 [a0, a1] H) fun v7 H =>
  condK v7
  (bnd (lnT a1 H) fun v10 H => bo (slT a0 (some v10) none) fun v11 =>
   some (v11, H))
  (some (a0, H))
theorem rn_60 (C : Callee) (a0 a1 : AV) (H : AHeap) {r : AV × AHeap} (h : sh_60 C a0 a1 H = some r) : runF Tryd.prog C 60 [a0, a1] H = some r :=
  runF_K (A := an_60) (c := cd_60) Tryd.func60 (by kernel_rfl) (by kernel_rfl) (by kernel_rfl) ((show _ = sh_60 C a0 a1 H by kernel_rfl).trans h)
def an_70 : Ann := ⟨[(4, [4, 9, 10, 11])], [], []⟩
noncomputable def cd_70 : Code := Tryd.f70.body.getD .skip
noncomputable def lp_70x0 (C : Callee) : List AV → AHeap → Option (AV × AHeap) := (loopsK Tryd.prog C an_70 28 cd_70 (retK Tryd.prog 28 Tryd.f70.results.toList) (fun _ _ _ => none) (retK Tryd.prog 28 Tryd.f70.results.toList)).getD 0 fun _ _ => none
noncomputable def sh_70 (C : Callee) (a0 : AV) (H : AHeap) : Option (AV × AHeap) :=
  bnd (lnS a0 H) fun v10 H =>
  lp_70x0 C [(.s (Go.Value.slice none 0 0)), a0, v10, (I 0)] H
theorem le_70x0 (C : Callee) (t4 t9 t10 t11 : AV) (H : AHeap) : lp_70x0 C [t4, t9, t10, t11] H =
  bo (bi .lss 3 t11 t10) fun v12 =>
  condK v12
  (bnd (ix 1 t9 t11 H) fun v13 H => bnd (ld v13 H) fun v14 H =>
   bnd (C 20 [v14] H) fun v17 H => bo (extractA v17 0) fun v18 => bo (extractA v17 1) fun v19 =>
   bo (un .not v19) fun v21 =>
   condK v21
   (some (.tup [(.s (Go.Value.slice none 0 0)), (B false)], H))
   (bnd (bs 22 1 [(0, v18)] H) fun v24 H => bnd (app 3 1 8 t4 v24 H) fun v25 H =>
    bo (bi .add 3 t11 (I 1)) fun v26 =>
    lp_70x0 C [v25, t9, t10, v26] H))
  (some (.tup [t4, (B true)], H)) :=
  (congrFun (congrFun (congrArg (fun l => l.getD 0 fun _ _ => none) (loops_eq cd_70 (retK Tryd.prog 28 Tryd.f70.results.toList) (fun _ _ _ => none) (retK Tryd.prog 28 Tryd.f70.results.toList))) [t4, t9, t10, t11]) H).trans (by kernel_rfl)
theorem rn_70 (C : Callee) (a0 : AV) (H : AHeap) {r : AV × AHeap} (h : sh_70 C a0 H = some r) : runF Tryd.prog C 70 [a0] H = some r :=
  runF_K (A := an_70) (c := cd_70) Tryd.func70 (by kernel_rfl) (by kernel_rfl) (by kernel_rfl) ((show _ = sh_70 C a0 H by kernel_rfl).trans h)
def an_71 : Ann := ⟨[(3, [0, 1, 7, 8])], [], []⟩
noncomputable def cd_71 : Code := Tryd.f71.body.getD .skip
noncomputable def lp_71x0 (C : Callee) : List AV → AHeap → Option (AV × AHeap) := (loopsK Tryd.prog C an_71 19 cd_71 (retK Tryd.prog 19 Tryd.f71.results.toList) (fun _ _ _ => none) (retK Tryd.prog 19 Tryd.f71.results.toList)).getD 0 fun _ _ => none
noncomputable def sh_71 (C : Callee) (a0 a1 : AV) (H : AHeap) : Option (AV × AHeap) :=
  bnd (lnS a0 H) fun v7 H =>
  lp_71x0 C [a0, a1, v7, (I 0)] H
theorem le_71x0 (C : Callee) (t0 t1 t7 t8 : AV) (H : AHeap) : lp_71x0 C [t0, t1, t7, t8] H =
  bo (bi .lss 3 t8 t7) fun v9 =>
  condK v9
  (bnd (ix 1 t0 t8 H) fun v14 H => bnd (ld v14 H) fun v15 H => bnd (callA Tryd.prog C t1 [v15] H) fun v16 H =>
   condK v16
   (some (t8, H))
   (bo (bi .add 3 t8 (I 1)) fun v18 =>
    lp_71x0 C [t0, t1, t7, v18] H))
  (some ((I (-1)), H)) :=
  (congrFun (congrFun (congrArg (fun l => l.getD 0 fun _ _ => none) (loops_eq cd_71 (retK Tryd.prog 19 Tryd.f71.results.toList) (fun _ _ _ => none) (retK Tryd.prog 19 Tryd.f71.results.toList))) [t0, t1, t7, t8]) H).trans (by kernel_rfl)
theorem rn_71 (C : Callee) (a0 a1 : AV) (H : AHeap) {r : AV × AHeap} (h : sh_71 C a0 a1 H = some r) : runF Tryd.prog C 71 [a0, a1] H = some r :=
  runF_K (A := an_71) (c := cd_71) Tryd.func71 (by kernel_rfl) (by kernel_rfl) (by kernel_rfl) ((show _ = sh_71 C a0 a1 H by kernel_rfl).trans h)
def an_72 : Ann := ⟨[(4, [4, 9, 10, 11])], [], []⟩
noncomputable def cd_72 : Code := Tryd.f72.body.getD .skip
noncomputable def lp_72x0 (C : Callee) : List AV → AHeap → Option (AV × AHeap) := (loopsK Tryd.prog C an_72 32 cd_72 (retK Tryd.prog 32 Tryd.f72.results.toList) (fun _ _ _ => none) (retK Tryd.prog 32 Tryd.f72.results.toList)).getD 0 fun _ _ => none
noncomputable def sh_72 (C : Callee) (a0 : AV) (H : AHeap) : Option (AV × AHeap) :=
  bnd (lnS a0 H) fun v10 H =>
  lp_72x0 C [(.s (Go.Value.slice none 0 0)), a0, v10, (I 0)] H
theorem le_72x0 (C : Callee) (t4 t9 t10 t11 : AV) (H : AHeap) : lp_72x0 C [t4, t9, t10, t11] H =
  bo (bi .lss 3 t11 t10) fun v12 =>
  condK v12
  (bnd (ix 1 t9 t11 H) fun v13 H => bnd (ld v13 H) fun v14 H =>
   bnd (C 17 [v14] H) fun v17 H => bo (extractA v17 0) fun v18 => bo (extractA v17 1) fun v19 =>
   bo (un .not v19) fun v21 => gdA (some v21) false (liftO (some v18) H) H fun v23 H => gdA (some v21) false (liftO (bi .lss 3 v23 (I 0)) H) H fun v24 H => bo (pickA v21 (B true) v24) fun v25 =>
   condK v25
   (some (.tup [(.s (Go.Value.slice none 0 0)), (B false)], H))
   (bnd (bs 22 1 [(0, v18)] H) fun v28 H => bnd (app 3 1 8 t4 v28 H) fun v29 H =>
    bo (bi .add 3 t11 (I 1)) fun v30 =>
    lp_72x0 C [v29, t9, t10, v30] H))
  (some (.tup [t4, (B true)], H)) :=
  (congrFun (congrFun (congrArg (fun l => l.getD 0 fun _ _ => none) (loops_eq cd_72 (retK Tryd.prog 32 Tryd.f72.results.toList) (fun _ _ _ => none) (retK Tryd.prog 32 Tryd.f72.results.toList))) [t4, t9, t10, t11]) H).trans (by kernel_rfl)
theorem rn_72 (C : Callee) (a0 : AV) (H : AHeap) {r : AV × AHeap} (h : sh_72 C a0 H = some r) : runF Tryd.prog C 72 [a0] H = some r :=
  runF_K (A := an_72) (c := cd_72) Tryd.func72 (by kernel_rfl) (by kernel_rfl) (by kernel_rfl) ((show _ = sh_72 C a0 H by kernel_rfl).trans h)
def an_79 : Ann := ⟨[], [], []⟩
noncomputable def cd_79 : Code := Tryd.f79.body.getD .skip
noncomputable def sh_79 (C : Callee) (a0 a1 : AV) (H : AHeap) : Option (AV × AHeap) :=
  bnd (lnT a0 H) fun v6 H => bnd (lnT a1 H) fun v8 H => bo (bi .geq 3 v6 v8) fun v9 => gdA (some v9) true (liftO (some a0) H) H fun v11 H => gdA (some v9) true (liftO (some a1) H) H fun v12 H => gdA (some v9) true (lnT v12 H) H fun v13 H => gdA (some v9) true (liftO (slT v11 none (some v13)) H) H fun v14 H => gdA (some v9) true (liftO (some a1) H) H fun v15 H => gdA (some v9) true (liftO (bi .eql 9 v14 v15) H) H fun v16 H => bo (pickA v9 v16 (B false)) fun v17 =>
  some (v17, H)
theorem rn_79 (C : Callee) (a0 a1 : AV) (H : AHeap) {r : AV × AHeap} (h : sh_79 C a0 a1 H = some r) : runF Tryd.prog C 79 [a0, a1] H = some r :=
  runF_K (A := an_79) (c := cd_79) Tryd.func79 (by kernel_rfl) (by kernel_rfl) (by kernel_rfl) ((show _ = sh_79 C a0 a1 H by kernel_rfl).trans h)

end Go.Proofs.YtjmldnpdfnklcaaDoor

namespace Go.Proofs.YtjmldnpdfnklcaaDoor



end Go.Proofs.YtjmldnpdfnklcaaDoor

namespace Go.Proofs.YtjmldnpdfnklcaaDoor



end Go.Proofs.YtjmldnpdfnklcaaDoor

namespace Go.Proofs.YtjmldnpdfnklcaaDoor

def boxO (l : List Pkt) (room : Int) : List Cell := [.seq 9 (l.flatMap Pkt.av), .av (I room)]
section
variable {b : Nat} {H : AHeap} {g : Store} {q : Nat} {l : List Pkt} {room : Int}
theorem lda_elem {α : Type} {enc : α → List AV} {m : Nat} (he : ∀ a, (enc a).length = m) {L : List α} {x : AV} (hs : SliceIs H x m L.length (L.flatMap enc)) {i : Nat} {a : α} (hi : L[i]? = some a) : lda m (elemPtr x i) H = some (.agg (enc a), H) := by
  have hl : i < L.length := (List.getElem?_eq_some_iff.1 hi).1
  rw [hs.lda hl, flat_get he L i a hi]
end

end Go.Proofs.YtjmldnpdfnklcaaDoor

namespace Go.Proofs.YtjmldnpdfnklcaaDoor

abbrev nil0 : Store := fun _ => none
/-- Two stores, one above the other. -/
def cup (n : Nat) (g g' : Store) : Store := fun q => if q < n then g q else g' q
/-- The memory goes on; what was there stays; there are these new objects. -/
structure Made (H H' : AHeap) (g' : Store) : Prop where
  next : H.next ≤ H'.next
  base : H'.base = H.base
  same : ∀ r, r < H.next → H'.get r = H.get r
  good : Good H.next H' g'
section
variable {b : Nat} {H H' H'' : AHeap} {g g' : Store} {q : Nat} {cs : List Cell}
theorem Good.merge (G : Good b H g) (M : Made H H' g') : Good b H' (cup H.next g g') := by
  obtain ⟨h0, τ, h1⟩ := G
  obtain ⟨k0, τ', k1⟩ := M.good
  have n1 := M.next
  refine ⟨by omega, fun r => if r < H.next then τ r else τ' r, fun q cs hq => ?_⟩
  unfold cup at hq
  split at hq
  · rename_i hl
    exact (h1 q cs hq).keep n1 fun r i s t hr ht => ⟨by rw [if_pos hr]; exact ht, M.same r hr⟩
  · rename_i hl
    have R := k1 q cs hq
    -- all its blocks are new
    have key : ∀ {T : Tag} {x : AV} {m : Nat} {cells : List AV}, OS H.next H' τ' T x m cells → OS b H' (fun r => if r < H.next then τ r else τ' r) T x m cells := by
      intro T x m cells ho
      rcases ho with ho | ⟨r, gg, off, n, cap, ex, ty, all, e, t1, t2, t3, t4⟩
      · exact .inl ho
      · exact .inr ⟨r, gg, off, n, cap, ex, ty, all, e, by simp only; rw [if_neg (by omega)]; exact t1, by omega, t3, t4⟩
    have keyM : ∀ {T : Tag} {x : AV} {k : IntKind} {es : List (Int × AV)}, OM H.next H' τ' T x k es → OM b H' (fun r => if r < H.next then τ r else τ' r) T x k es := by
      intro T x k es ⟨r, e, t1, t2, t3, t4⟩
      exact ⟨r, e, by simp only; rw [if_neg (by omega)]; exact t1, by omega, t3, t4⟩
    obtain ⟨ty, xs, b1, b2, b3, b4⟩ := R.blk
    have lo := R.lo
    refine ⟨by rw [if_neg hl]; exact R.tag, by omega, R.hi, ty, xs, b1, b2, b3, fun i c x hc hx => ?_⟩
    have := b4 i c x hc hx
    cases c with
    | av _ => exact this
    | seq _ _ => exact key this
    | map _ _ => exact keyM this
    | maps _ _ _ =>
      obtain ⟨aes, a1, a2, a3⟩ := this
      exact ⟨aes, keyM a1, a2, fun j n cells x hj hx => key (a3 j n cells x hj hx)⟩
    | seqs _ _ _ =>
      obtain ⟨ys, a1, a2, a3⟩ := this
      exact ⟨ys, key a1, a2, fun j cells x hj hx => key (a3 j cells x hj hx)⟩
theorem Good.cupUpd (G : Good b H g) (hq : H.next ≤ q) : cup H.next g (upd nil0 q cs) = upd g q cs := by
  funext x
  unfold cup upd
  split
  · rw [if_neg (by omega)]
  · split
    · rfl
    · exact (G.isNone (by omega)).symm
theorem Made.lt (M : Made H H' g') (h : g' q = some cs) : H.next ≤ q ∧ q < H'.next := ⟨M.good.le h, M.good.lt h⟩
theorem Made.refl (h : H.base ≤ H.next) : Made H H nil0 := ⟨Nat.le_refl _, rfl, fun _ _ => rfl, Good.empty H⟩
theorem Made.trans (M : Made H H' g) (M' : Made H' H'' g') : Made H H'' (cup H'.next g g') :=
  ⟨Nat.le_trans M.next M'.next, M'.base.trans M.base, fun r hr => by rw [M'.same r (Nat.lt_of_lt_of_le hr M.next), M.same r hr], M.good.merge M'⟩
theorem Made.new (M : Made H H' g) (o : AObj) : Made H (H'.new o) g :=
  ⟨by rw [nNew]; have := M.next; omega, by rw [bNew]; exact M.base, fun r hr => by rw [getNew_lt (Nat.lt_of_lt_of_le hr M.next), M.same r hr], M.good.new o⟩
/-- What a call does with what is new. -/
theorem Made.step (M : Made H H' g) (G : Good H.next H'' g') (s : Step H.next H' H'') : Made H H'' g' :=
  ⟨Nat.le_trans M.next s.next, s.base.trans M.base, fun r hr => by rw [s.low r hr, M.same r hr], G⟩
/-- The store may be looked at otherwise. -/
theorem Made.as (M : Made H H' g) (h : g' = g) : Made H H' g' := h ▸ M
end

end Go.Proofs.YtjmldnpdfnklcaaDoor

namespace Go.Proofs.YtjmldnpdfnklcaaDoor

def cacheO (c : Cache) : List Cell := [.seq 6 (c.l.flatMap Ent.av), .av (I c.sets), .av (I c.ways), .av (I c.clock)]
def procO (p : Proc) : List Cell := [.av (vsl 3 Opn.av p.ops), .seq 1 (p.values.map I), .av (B p.begun)]
def turnsO (t : Turns) : List Cell := [.map .i64 (encM (fun n => I n) t.owners), .maps .i64 2 (t.wait.map fun e => (e.1, e.2.flatMap fun w => [I w.1, I w.2]))]
def dirO (c : Cfg) (rows : Rows) : List Cell := c.av.map .av ++ [.map .i64 (encM (fun r => .agg r.av) rows)]

end Go.Proofs.YtjmldnpdfnklcaaDoor

namespace Go.Proofs.YtjmldnpdfnklcaaDoor

theorem frz_list {d : Nat} {α : Type} {enc : α → List AV} (h : ∀ a, ∀ x ∈ enc a, Frz d x) (l : List α) : ∀ x ∈ l.flatMap enc, Frz d x := fun x hx => by
  obtain ⟨a, _, ha⟩ := List.mem_flatMap.1 hx
  exact h a x ha

end Go.Proofs.YtjmldnpdfnklcaaDoor

namespace Go.Proofs.YtjmldnpdfnklcaaDoor

/-- Programs, in whatever form. -/
def PsIs (H : AHeap) (x : AV) (ps : List (List Opn)) : Prop :=
  ∃ cells : List AV, SliceIs H x 1 ps.length cells ∧ ∀ (i : Nat) v l, cells[i]? = some v → ps[i]? = some l → SliceIs H v 3 l.length (l.flatMap Opn.av) ∧ (l = [] → v = zN)
theorem PsIs.of_get {H H' : AHeap} {x : AV} {ps : List (List Opn)} (h : PsIs H x ps) (hn : H.next ≤ H'.next) (hg : ∀ r, r < H.next → H'.get r = H.get r) : PsIs H' x ps := by
  obtain ⟨cells, h1, h2⟩ := h
  exact ⟨cells, h1.of_get hn fun r _ hr => hg r hr, fun i v l a b => ⟨(h2 i v l a b).1.of_get hn fun r _ hr => hg r hr, (h2 i v l a b).2⟩⟩

end Go.Proofs.YtjmldnpdfnklcaaDoor

namespace Go.Proofs.YtjmldnpdfnklcaaDoor



end Go.Proofs.YtjmldnpdfnklcaaDoor

namespace Go.Proofs.YtjmldnpdfnklcaaDoor

structure Node where
  cache : Cache
  proc : Proc
  home : Home
  deal : Deal
  num : Int
structure Mach where
  c : Cfg
  nodes : List Node
  fab : Fab
  trace : List Evn
/-- The rows of a node's lines. -/
def Cfg.rowsTo (c : Cfg) (me : Int) : Nat → Rows
  | 0 => []
  | n + 1 => if c.homeOf n = me then aput (c.rowsTo me n) n ⟨0, -1, c.first n⟩ else c.rowsTo me n
def Home.new (c : Cfg) (me : Int) : Home := ⟨c.rowsTo me c.lines.toNat, ⟨[], []⟩⟩
def Node.new (c : Cfg) (me : Int) (l : List Opn) : Node := ⟨⟨[], c.sets, c.ways, 0⟩, ⟨l, [], false⟩, .new c me, .zero, 0⟩
def Fab.new (c : Cfg) : Fab := ⟨c.out, c.inn, List.replicate c.nodes.toNat .zero⟩
def Mach.new (c : Cfg) (ps : List (List Opn)) : Mach := ⟨c, ps.mapIdx fun i l => .new c i l, .new c, []⟩

end Go.Proofs.YtjmldnpdfnklcaaDoor

namespace Go.Proofs.YtjmldnpdfnklcaaDoor



end Go.Proofs.YtjmldnpdfnklcaaDoor

namespace Go.Proofs.YtjmldnpdfnklcaaDoor

def homeO (d t : Nat) (c : Cfg) (me : Int) : List Cell := [.av (.ref d 0 0), .av (.ref t 0 0)] ++ c.av.map .av ++ [.av (I me)]
def HomeIs (g : Store) (q d t : Nat) (c : Cfg) (me : Int) (h : Home) : Prop := g q = some (homeO d t c me) ∧ g d = some (dirO c h.rows) ∧ g t = some (turnsO h.turns)

end Go.Proofs.YtjmldnpdfnklcaaDoor

namespace Go.Proofs.YtjmldnpdfnklcaaDoor

theorem Made.add {H H1 H2 : AHeap} {g : Store} {q : Nat} {cs : List Cell} (M : Made H H1 g) (M' : Made H1 H2 (upd nil0 q cs)) : Made H H2 (upd g q cs) :=
  (M.trans M').as ((M.good.cupUpd (M'.lt upd_same).1).symm)
def nodeX (a : Nat → Nat) (c : Cfg) (me : Int) (d : Deal) (num : Int) : List AV := [.ref (a 1) 0 0, .ref (a 2) 0 0] ++ c.av ++ [I me, .ref (a 3) 0 0] ++ d.av ++ [I num]
def nodeO (a : Nat → Nat) (c : Cfg) (me : Int) (d : Deal) (num : Int) : List Cell := (nodeX a c me d num).map .av
def NodeIs (g : Store) (a : Nat → Nat) (c : Cfg) (me : Int) (n : Node) : Prop :=
  g (a 0) = some (nodeO a c me n.deal n.num) ∧ g (a 1) = some (cacheO n.cache) ∧ g (a 2) = some (procO n.proc) ∧ HomeIs g (a 3) (a 4) (a 5) c me n.home

end Go.Proofs.YtjmldnpdfnklcaaDoor

namespace Go.Proofs.YtjmldnpdfnklcaaDoor

def PortIs (g : Store) (a : Nat → Nat) (c : Cfg) (p : Port) : Prop :=
  g (a 0) = some (boxO p.rq c.out) ∧ g (a 1) = some (boxO p.rin c.inn) ∧ g (a 2) = some (boxO p.an c.out) ∧ g (a 3) = some (boxO p.ain 1)
theorem PortIs.ext {g g' : Store} {a : Nat → Nat} {c : Cfg} {p : Port} (h : PortIs g a c p) (hg : ∀ s, s < 4 → g' (a s) = g (a s)) : PortIs g' a c p := by
  obtain ⟨h0, h1, h2, h3⟩ := h
  exact ⟨by rw [hg 0 (by omega), h0], by rw [hg 1 (by omega), h1], by rw [hg 2 (by omega), h2], by rw [hg 3 (by omega), h3]⟩
theorem PortIs.some {g : Store} {a : Nat → Nat} {c : Cfg} {p : Port} (h : PortIs g a c p) {s : Nat} (hs : s < 4) : ∃ l r, g (a s) = some (boxO l r) := by
  obtain ⟨h0, h1, h2, h3⟩ := h
  match s, hs with
  | 0, _ => exact ⟨_, _, h0⟩
  | 1, _ => exact ⟨_, _, h1⟩
  | 2, _ => exact ⟨_, _, h2⟩
  | 3, _ => exact ⟨_, _, h3⟩

end Go.Proofs.YtjmldnpdfnklcaaDoor

namespace Go.Proofs.YtjmldnpdfnklcaaDoor

theorem NodeIs.some {g : Store} {a : Nat → Nat} {c : Cfg} {me : Int} {n : Node} (h : NodeIs g a c me n) {s : Nat} (hs : s < 6) : ∃ l, g (a s) = some l := by
  obtain ⟨h0, h1, h2, h3, h4, h5⟩ := h
  match s, hs with
  | 0, _ => exact ⟨_, h0⟩
  | 1, _ => exact ⟨_, h1⟩
  | 2, _ => exact ⟨_, h2⟩
  | 3, _ => exact ⟨_, h3⟩
  | 4, _ => exact ⟨_, h4⟩
  | 5, _ => exact ⟨_, h5⟩
theorem NodeIs.ext {g g' : Store} {a : Nat → Nat} {c : Cfg} {me : Int} {n : Node} (h : NodeIs g a c me n) (hg : ∀ s, s < 6 → g' (a s) = g (a s)) : NodeIs g' a c me n := by
  obtain ⟨h0, h1, h2, h3, h4, h5⟩ := h
  exact ⟨by rw [hg 0 (by omega), h0], by rw [hg 1 (by omega), h1], by rw [hg 2 (by omega), h2], by rw [hg 3 (by omega), h3], by rw [hg 4 (by omega), h4], by rw [hg 5 (by omega), h5]⟩
/-- A node's parts lie apart. -/
theorem NodeIs.inj {g : Store} {a : Nat → Nat} {c : Cfg} {me : Int} {n : Node} (h : NodeIs g a c me n) {s t : Nat} (hs : s < 6) (ht : t < 6) (e : a s = a t) : s = t := by
  obtain ⟨h0, h1, h2, h3, h4, h5⟩ := h
  have hh : (g (a s)).map List.length = (g (a t)).map List.length := by rw [e]
  match s, hs, t, ht with
  | 0, _, 0, _ | 1, _, 1, _ | 2, _, 2, _ | 3, _, 3, _ | 4, _, 4, _ | 5, _, 5, _ => rfl
  | 0, _, 1, _ | 0, _, 2, _ | 0, _, 3, _ | 0, _, 4, _ | 0, _, 5, _ | 1, _, 0, _ | 1, _, 2, _ | 1, _, 3, _ | 1, _, 4, _ | 1, _, 5, _ | 2, _, 0, _ | 2, _, 1, _ | 2, _, 3, _ | 2, _, 4, _ | 2, _, 5, _ | 3, _, 0, _ | 3, _, 1, _ | 3, _, 2, _ | 3, _, 4, _ | 3, _, 5, _ | 4, _, 0, _ | 4, _, 1, _ | 4, _, 2, _ | 4, _, 3, _ | 4, _, 5, _ | 5, _, 0, _ | 5, _, 1, _ | 5, _, 2, _ | 5, _, 3, _ | 5, _, 4, _ =>
    simp [h0, h1, h2, h3, h4, h5, nodeO, nodeX, Cfg.av, Deal.av, cacheO, procO, homeO, dirO, turnsO] at hh

end Go.Proofs.YtjmldnpdfnklcaaDoor

namespace Go.Proofs.YtjmldnpdfnklcaaDoor



end Go.Proofs.YtjmldnpdfnklcaaDoor

namespace Go.Proofs.YtjmldnpdfnklcaaDoor



end Go.Proofs.YtjmldnpdfnklcaaDoor

namespace Go.Proofs.YtjmldnpdfnklcaaDoor



end Go.Proofs.YtjmldnpdfnklcaaDoor

namespace Go.Proofs.YtjmldnpdfnklcaaDoor



end Go.Proofs.YtjmldnpdfnklcaaDoor

namespace Go.Proofs.YtjmldnpdfnklcaaDoor



end Go.Proofs.YtjmldnpdfnklcaaDoor

namespace Go.Proofs.YtjmldnpdfnklcaaDoor

theorem PsIs.zN {H : AHeap} : PsIs H zN [] := ⟨[], SliceIs.nil, fun i v l h => by simp at h⟩

end Go.Proofs.YtjmldnpdfnklcaaDoor

namespace Go.Proofs.YtjmldnpdfnklcaaDoor

def withinM (v n : Int) : Int := if n < 1 then 0 else v % n
theorem withinM_rng {v n : Int} (h : 1 ≤ n) : 0 ≤ withinM v n ∧ withinM v n < n := by
  unfold withinM
  rw [if_neg (by omega)]
  exact ⟨Int.emod_nonneg _ (by omega), Int.emod_lt_of_pos _ (by omega)⟩
theorem tmod_fix (v n : Int) (h : 1 ≤ n) : v % n = if v.tmod n < 0 then v.tmod n + n else v.tmod n := by
  have h1 := Int.tmod_eq_emod (a := v) (b := n)
  have h2 := Int.emod_nonneg v (b := n) (by omega)
  have h3 := Int.emod_lt_of_pos v (b := n) (by omega)
  rw [h1]
  rcases Decidable.em (0 ≤ v ∨ n ∣ v) with hv | hv
  · rw [if_pos hv]; split <;> omega
  · rw [if_neg hv]; split <;> omega
theorem tmod_rng (v n : Int) (h : 1 ≤ n) : -n < v.tmod n ∧ v.tmod n < n := by
  have h1 := Int.tmod_eq_emod (a := v) (b := n)
  have h2 := Int.emod_nonneg v (b := n) (by omega)
  have h3 := Int.emod_lt_of_pos v (b := n) (by omega)
  rw [h1]
  rcases Decidable.em (0 ≤ v ∨ n ∣ v) with hv | hv
  · rw [if_pos hv]; omega
  · rw [if_neg hv]; omega
theorem within64 (H : AHeap) (v n : Int) (hn : n ≤ 9223372036854775807) : cl 16 [I v, I n] H = some (I (withinM v n), H) := by
  refine run_cl rfl rfl (rn_16 _ _ _ _ ?_)
  by_cases h1 : n < 1
  · simp -implicitDefEqProofs only [Nat.reduceLT, bnd_some, bo_some, condK_true, condK_false, gdA_undef, decide_true, decide_false, Int.reduceLE, Int.reduceLT, Int.reduceEq, Int.reduceNeg, Int.reduceAdd, gd_tt, gd_tf, gd_ft, gd_ff, unG_pure, lift_some, bnd_lift, Option.map_some, Option.bind_some, fieldPtr_ref, fieldPtr_ip, nil_ref, nil_ip, nil_fn, ex_tup, fl_agg, List.getElem?_cons_zero, List.getElem?_cons_succ, Nat.zero_add, Nat.add_zero, Nat.reduceAdd, pk_t, pk_f, lss_int, leq_int, gtr_int, geq_int, eql_int, neq_int, not_bool, beq_self_eq_true, if_true, Bool.false_eq_true, if_false, List.nil_append, List.cons_append, List.append_nil, alc_eq, mkm_eq, nNew, nPut, bNew, bPut, nGrd, bGrd, sh_16, h1, withinM]
  · have e1 := fun (k : IntKind) (t : TypeId) => rem_int (P := Tryd.prog) (k := k) (t := t) (a := v) (b := n) (by omega)
    have e2 := tmod_fix v n (by omega)
    have e3 := tmod_rng v n (by omega)
    by_cases h2 : v.tmod n < 0
    · have w := wrap_i64 (a := v.tmod n + n) (by omega) (by omega)
      rw [if_pos h2] at e2
      simp -implicitDefEqProofs only [Nat.reduceLT, bnd_some, bo_some, condK_true, condK_false, gdA_undef, decide_true, decide_false, Int.reduceLE, Int.reduceLT, Int.reduceEq, Int.reduceNeg, Int.reduceAdd, gd_tt, gd_tf, gd_ft, gd_ff, unG_pure, lift_some, bnd_lift, Option.map_some, Option.bind_some, fieldPtr_ref, fieldPtr_ip, nil_ref, nil_ip, nil_fn, ex_tup, fl_agg, List.getElem?_cons_zero, List.getElem?_cons_succ, Nat.zero_add, Nat.add_zero, Nat.reduceAdd, pk_t, pk_f, lss_int, leq_int, gtr_int, geq_int, eql_int, neq_int, not_bool, beq_self_eq_true, if_true, Bool.false_eq_true, if_false, List.nil_append, List.cons_append, List.append_nil, alc_eq, mkm_eq, nNew, nPut, bNew, bPut, nGrd, bGrd, sh_16, jn_16x0, h1, e1, h2, add_int, w, withinM, e2]
    · rw [if_neg h2] at e2
      simp -implicitDefEqProofs only [Nat.reduceLT, bnd_some, bo_some, condK_true, condK_false, gdA_undef, decide_true, decide_false, Int.reduceLE, Int.reduceLT, Int.reduceEq, Int.reduceNeg, Int.reduceAdd, gd_tt, gd_tf, gd_ft, gd_ff, unG_pure, lift_some, bnd_lift, Option.map_some, Option.bind_some, fieldPtr_ref, fieldPtr_ip, nil_ref, nil_ip, nil_fn, ex_tup, fl_agg, List.getElem?_cons_zero, List.getElem?_cons_succ, Nat.zero_add, Nat.add_zero, Nat.reduceAdd, pk_t, pk_f, lss_int, leq_int, gtr_int, geq_int, eql_int, neq_int, not_bool, beq_self_eq_true, if_true, Bool.false_eq_true, if_false, List.nil_append, List.cons_append, List.append_nil, alc_eq, mkm_eq, nNew, nPut, bNew, bPut, nGrd, bGrd, sh_16, jn_16x0, h1, e1, h2, withinM, e2]

end Go.Proofs.YtjmldnpdfnklcaaDoor

namespace Go.Proofs.YtjmldnpdfnklcaaDoor

theorem ints_is {x : AV} {l : List Int} (h : SliceIs AHeap.empty x 1 l.length (l.map I)) (H : AHeap) : SliceIs H x 1 l.length (l.map I) :=
  h.of_get (Nat.zero_le _) fun r _ hr => absurd hr (Nat.not_lt_zero r)

end Go.Proofs.YtjmldnpdfnklcaaDoor

namespace Go.Proofs.YtjmldnpdfnklcaaDoor



end Go.Proofs.YtjmldnpdfnklcaaDoor

namespace Go.Proofs.YtjmldnpdfnklcaaDoor



end Go.Proofs.YtjmldnpdfnklcaaDoor

namespace Go.Proofs.YtjmldnpdfnklcaaDoor



end Go.Proofs.YtjmldnpdfnklcaaDoor

namespace Go.Proofs.YtjmldnpdfnklcaaDoor

structure RTurns where
  owner : List (Int × Int)
  wait : List (Int × Int × Int)
structure RHomes where
  rows : List Row
  turns : RTurns
structure RNode where
  cache : Cache
  homes : RHomes
  ops : List Opn
  begun : Bool
  values : List Int
  has : Bool
  deal : Deal
  num : Int
structure RMach where
  c : Cfg
  fab : List Port
  nodes : List RNode
  ev : List Evn
def RHomes.new (c : Cfg) : RHomes := ⟨(List.range c.lines.toNat).map fun (i : Nat) => (⟨0, -1, c.first (i : Int)⟩ : Row), ⟨[], []⟩⟩
def RNode.new (c : Cfg) (l : List Opn) : RNode := ⟨⟨[], c.sets, c.ways, 0⟩, .new c, l, false, [], false, .zero, 0⟩
def RMach.new (c : Cfg) (ps : List (List Opn)) : RMach := ⟨c, List.replicate c.nodes.toNat .zero, ps.map (.new c), []⟩
inductive EncL {α : Type} (R : α → List AV → Prop) : List α → List AV → Prop
  | nil : EncL R [] []
  | cons {a : α} {l : List α} {cs cells : List AV} : R a cs → EncL R l cells → EncL R (a :: l) (cs ++ cells)
section
variable {α : Type} {R : α → List AV → Prop} {l : List α} {cells : List AV}
theorem EncL.length {m : Nat} (hm : ∀ a cs, R a cs → cs.length = m) (h : EncL R l cells) : cells.length = l.length * m := by
  induction h with
  | nil => simp
  | cons h1 _ ih => rw [List.length_append, hm _ _ h1, ih, List.length_cons, Nat.succ_mul, Nat.add_comm]
theorem EncL.all (hm : ∀ a cs, R a cs → cs.all AV.isCell = true) (h : EncL R l cells) : cells.all AV.isCell = true := by
  induction h with
  | nil => rfl
  | cons h1 _ ih => rw [List.all_append, hm _ _ h1, ih]; rfl
theorem EncL.one {a : α} {cs : List AV} (h : R a cs) : EncL R [a] cs := by
  have := EncL.cons h (EncL.nil (R := R))
  rwa [List.append_nil] at this
theorem EncL.mono {R' : α → List AV → Prop} (hr : ∀ a cs, a ∈ l → R a cs → R' a cs) (h : EncL R l cells) : EncL R' l cells := by
  induction h with
  | nil => exact .nil
  | cons h1 _ ih => exact .cons (hr _ _ (by simp) h1) (ih fun a cs ha => hr a cs (by simp [ha]))
theorem EncL.get {m : Nat} (hm : ∀ a cs, R a cs → cs.length = m) (h : EncL R l cells) : ∀ {i : Nat} {a : α}, l[i]? = some a → R a ((cells.drop (i * m)).take m) := by
  induction h with
  | nil => intro i a hi; simp at hi
  | cons h1 _ ih =>
    intro i a hi
    have hl := hm _ _ h1
    cases i with
    | zero =>
      simp only [List.getElem?_cons_zero, Option.some.injEq] at hi
      subst hi
      rw [Nat.zero_mul, List.drop_zero, List.take_append_of_le_length (by omega), List.take_of_length_le (by omega)]
      exact h1
    | succ i =>
      rw [Nat.succ_mul, List.drop_append, List.drop_of_length_le (by omega), List.nil_append, hl, Nat.add_sub_cancel]
      exact ih (by simpa using hi)
end
def Pkt.avx (p : Pkt) (x : AV) : List AV := [I p.kind, I p.src, I p.dst, I p.id, I p.line, I p.ptr, I p.state, B p.flag, x]
def Ent.avx (e : Ent) (x : AV) : List AV := [I e.fwd, I e.back, I e.line, I e.used, B e.dirty, x]
def Row.avx (r : Row) (x : AV) : List AV := [I r.state, I r.head, x]
def Deal.avx (d : Deal) (x : AV) : List AV := [I d.kind, I d.line, I d.id, I d.step, I d.state, I d.head, x, I d.next, I d.told]
def DatIs (g : Store) (x : AV) (l : List Int) : Prop := x = dat l ∨ ∃ q ex, l ≠ [] ∧ x = .sl q 0 0 1 l.length l.length ex ∧ g q = some (l.map fun n => .av (I n))
/-- An object that is no such row. -/
def NoDat (cs : List Cell) : Prop := ∃ c ∈ cs, ∀ n, c ≠ .av (I n)
section
variable {b : Nat} {H : AHeap} {g g' : Store} {x : AV} {l : List Int}
theorem DatIs.dat : DatIs g (dat l) l := .inl rfl
theorem DatIs.one (h : DatIs g x l) : One x := by
  rcases h with rfl | ⟨q, ex, _, rfl, _⟩
  · exact one_dat
  · exact one_sl
theorem DatIs.sub (h : DatIs g x l) (hg : ∀ q cs, g q = some cs → ¬ NoDat cs → g' q = some cs) : DatIs g' x l := by
  rcases h with rfl | ⟨q, ex, h0, rfl, h⟩
  · exact .inl rfl
  · refine .inr ⟨q, ex, h0, rfl, hg _ _ h fun ⟨c, hc, hn⟩ => ?_⟩
    obtain ⟨n, _, rfl⟩ := List.mem_map.1 hc
    exact hn n rfl
theorem DatIs.nil (h : DatIs g x l) (h0 : l = []) : x = zN := by
  rcases h with rfl | ⟨q, ex, h1, _⟩
  · rw [h0, Proofs.YtjmldnpdfnklcaaDoor.dat, vsl_nil]
  · exact absurd h0 h1
theorem DatIs.is (G : Good b H g) (h : DatIs g x l) : SliceIs H x 1 l.length (l.map I) := by
  rcases h with rfl | ⟨q, ex, _, rfl, h⟩
  · exact dat_is H l
  · obtain ⟨_, τ, hR⟩ := G
    have R := hR q _ h
    obtain ⟨ty, xs, h1, h2, h3, h4⟩ := R.blk
    have : xs = l.map I := by
      apply List.ext_getElem?
      intro i
      rcases Nat.lt_or_ge i l.length with hi | hi
      · have hx : xs[i]? = some (xs[i]'(by simp at h2; omega)) := List.getElem?_eq_getElem _
        have := h4 i (.av (I l[i])) _ (by simp [hi]) hx
        simp only [CR] at this
        rw [hx, this]; simp [hi]
      · rw [List.getElem?_eq_none (by simp at h2; omega), List.getElem?_eq_none (by simp; omega)]
    subst this
    exact ⟨by simp, rfl, rfl, ⟨R.hi, Nat.le_refl _⟩, ty, _, h1, by simp, by simp [List.take_of_length_le]⟩
end
def EntR (g : Store) (e : Ent) (cs : List AV) : Prop := ∃ x, DatIs g x e.data ∧ cs = e.avx x
def RowR (g : Store) (r : Row) (cs : List AV) : Prop := ∃ x, DatIs g x r.data ∧ cs = r.avx x
def DealR (g : Store) (d : Deal) (cs : List AV) : Prop := ∃ x, DatIs g x d.data ∧ cs = d.avx x
def rcacheO (c : Cache) (cells : List AV) : List Cell := [.av (I c.sets), .av (I c.ways), .av (I c.clock), .seq 6 cells]
def rhomesO (c : Cfg) (me : Int) (rows : List AV) (t : RTurns) : List Cell := c.av.map .av ++ [.av (I me), .seq 3 rows, .seq 2 (t.owner.flatMap fun e => [I e.1, I e.2]), .seq 3 (t.wait.flatMap fun e => [I e.1, I e.2.1, I e.2.2])]
def rnodeO (a : Nat → Nat) (c : Cfg) (me : Int) (n : RNode) (d : List AV) : List Cell :=
  c.av.map .av ++ [.av (I me), .av (.ref (a 1) 0 0), .av (.ref (a 2) 0 0), .seq 3 (n.ops.flatMap Opn.av), .av (B n.begun), .seq 1 (n.values.map I), .av (B n.has)] ++ d.map .av ++ [.av (I n.num)]
structure RNodeIs (g : Store) (a : Nat → Nat) (c : Cfg) (me : Int) (n : RNode) : Prop where
  node : ∃ d, DealR g n.deal d ∧ g (a 0) = some (rnodeO a c me n d)
  cache : ∃ cells, EncL (EntR g) n.cache.l cells ∧ g (a 1) = some (rcacheO n.cache cells)
  homes : ∃ rows, EncL (RowR g) n.homes.rows rows ∧ g (a 2) = some (rhomesO c me rows n.homes.turns)

end Go.Proofs.YtjmldnpdfnklcaaDoor

namespace Go.Proofs.YtjmldnpdfnklcaaDoor



end Go.Proofs.YtjmldnpdfnklcaaDoor

namespace Go.Proofs.YtjmldnpdfnklcaaDoor



end Go.Proofs.YtjmldnpdfnklcaaDoor

namespace Go.Proofs.YtjmldnpdfnklcaaDoor

theorem ck_of {β : Type} {w : Option Nat} {H H' : AHeap} {k : Option β} (h : ∀ r, w = some r → H'.get r = H.get r) : ck w H H' k = k := if_pos h
theorem freeze_own {H1 : AHeap} {n d m k : Nat} {x : AV} {cells : List AV} (c : Own n H1 x m cells) (hm : 0 < m) (hl : cells.length = k * m) (hz : ∀ y ∈ cells, freezeA H1 n d y = some y) (hk : k ≠ 0) : freezeA H1 n (d + 1) x = some (.vs k m cells) := by
  rcases c with ⟨rfl, rfl⟩ | ⟨r, g, off, n', cap, ex, ty, all, rfl, k2, k3, k4, k5, k6, k7, rfl⟩
  · simp only [List.length_nil] at hl
    rcases Nat.mul_eq_zero.1 hl.symm with h | h <;> omega
  · have hcm : n' * m ≤ cap * m := Nat.mul_le_mul_right _ k4
    rw [List.length_take, List.length_drop, Nat.min_eq_left (by omega)] at hl
    have : n' = k := Nat.eq_of_mul_eq_mul_right hm hl
    subst this
    exact freeze_sl k2 (cells := (all.drop off).take (n' * m)) (by simp only [sliceCells, k5]; rw [if_pos ⟨trivial, by omega⟩]) (freeze_all _ hz)

end Go.Proofs.YtjmldnpdfnklcaaDoor

namespace Go.Proofs.YtjmldnpdfnklcaaDoor



end Go.Proofs.YtjmldnpdfnklcaaDoor

namespace Go.Proofs.YtjmldnpdfnklcaaDoor

theorem RNodeIs.ext {g g' : Store} {a : Nat → Nat} {c : Cfg} {me : Int} {n : RNode} (h : RNodeIs g a c me n) (hd : ∀ q cs, g q = some cs → ¬ NoDat cs → g' q = some cs) (hg : ∀ s, s < 3 → g' (a s) = g (a s)) : RNodeIs g' a c me n := by
  obtain ⟨⟨d, ⟨x, d1, d2⟩, h0⟩, ⟨cells, k, h1⟩, ⟨rows, r, h2⟩⟩ := h
  exact ⟨⟨d, ⟨x, d1.sub hd, d2⟩, by rw [hg 0 (by omega), h0]⟩, ⟨cells, k.mono fun e cs _ ⟨x, e1, e2⟩ => ⟨x, e1.sub hd, e2⟩, by rw [hg 1 (by omega), h1]⟩, ⟨rows, r.mono fun e cs _ ⟨x, e1, e2⟩ => ⟨x, e1.sub hd, e2⟩, by rw [hg 2 (by omega), h2]⟩⟩
theorem RNodeIs.inj {g : Store} {a : Nat → Nat} {c : Cfg} {me : Int} {n : RNode} (h : RNodeIs g a c me n) {s t : Nat} (hs : s < 3) (ht : t < 3) (e : a s = a t) : s = t := by
  obtain ⟨⟨d, ⟨x, _, rfl⟩, h0⟩, ⟨_, _, h1⟩, ⟨_, _, h2⟩⟩ := h
  have hh : (g (a s)).map List.length = (g (a t)).map List.length := by rw [e]
  match s, hs, t, ht with
  | 0, _, 0, _ | 1, _, 1, _ | 2, _, 2, _ => rfl
  | 0, _, 1, _ | 0, _, 2, _ | 1, _, 0, _ | 1, _, 2, _ | 2, _, 0, _ | 2, _, 1, _ => simp [h0, h1, h2, rnodeO, rcacheO, rhomesO, Deal.avx, Cfg.av] at hh

end Go.Proofs.YtjmldnpdfnklcaaDoor

namespace Go.Proofs.YtjmldnpdfnklcaaDoor

theorem pureRun_bind {α β : Type} {P : Program} {f : α → Sem β} : ∀ (m : Sem α), pureRun P (m >>= f) = (pureRun P m).bind fun a => pureRun P (f a) := by
  intro m
  induction m with
  | pure a => rfl
  | program k ih => exact ih P
  | _ => rfl
theorem pr_und {P : Program} {t : TypeId} {d : TypeDesc} (h : P.underlying t = some d) : pureRun P (underlying t) = some d := by
  unfold underlying
  rw [pureRun_bind]
  show pureRun P (match P.underlying t with
    | some d => pure d
    | none => stuck "no such type") = _
  rw [h]; rfl
theorem pr_eqInt (d : Nat) (a b : Int) : pureRun Tryd.prog (Op.equalIn (d + 1) 3 (.int .i64 a) (.int .i64 b)) = some (a == b) := by
  rw [Op.equalIn, pureRun_bind, pr_und Tryd.underlying3]
  simp only [Option.bind_some, if_true]
  rfl
theorem pr_eqBool (d : Nat) (a b : Bool) : pureRun Tryd.prog (Op.equalIn (d + 1) 4 (.bool a) (.bool b)) = some (a == b) := by
  rw [Op.equalIn, pureRun_bind, pr_und Tryd.underlying4]
  rfl
theorem pr_prog {β : Type} (f : Program → Sem β) : pureRun Tryd.prog (program >>= f) = pureRun Tryd.prog (f Tryd.prog) := rfl
theorem eql_bool (a b : Bool) : bi .eql 4 (B a) (B b) = some (B (decide (a = b))) := by
  cases a <;> cases b <;> kernel_rfl
/-- Slices of numbers as they stand in a packet, an entry, .. -/
structure NumsIs (H : AHeap) (x : AV) (l : List Int) : Prop where
  is : SliceIs H x 1 l.length (l.map I)
  one : One x
  nil : l = [] → x = zN
theorem NumsIs.guard {H : AHeap} {x : AV} {l : List Int} (h : NumsIs H x l) : NumsIs H.guard x l := ⟨h.is.guard, h.one, h.nil⟩
theorem NumsIs.new {H : AHeap} {x : AV} {l : List Int} (h : NumsIs H x l) (o : AObj) : NumsIs (H.new o) x l := ⟨h.is.new o, h.one, h.nil⟩
theorem NumsIs.of_get {H H' : AHeap} {x : AV} {l : List Int} (h : NumsIs H x l) (hn : H.next ≤ H'.next) (hg : ∀ r, r < H.next → H'.get r = H.get r) : NumsIs H' x l := ⟨h.is.of_get hn fun r _ hr => hg r hr, h.one, h.nil⟩

end Go.Proofs.YtjmldnpdfnklcaaDoor

namespace Go.Proofs.YtjmldnpdfnklcaaDoor



end Go.Proofs.YtjmldnpdfnklcaaDoor

namespace Go.Proofs.YtjmldnpdfnklcaaDoor



end Go.Proofs.YtjmldnpdfnklcaaDoor

namespace Go.Proofs.YtjmldnpdfnklcaaDoor



end Go.Proofs.YtjmldnpdfnklcaaDoor

namespace Go.Proofs.YtjmldnpdfnklcaaDoor

theorem Own.ref {b : Nat} {H : AHeap} {x : AV} {m n : Nat} {l : List AV} (o : Own b H x m l) (hm : 0 < m) (hl : l.length = n * m) {j : Nat} (hj : j < n) :
    ∃ r gg off, (∀ k : IntKind, ix m x (.s (.int k j)) H = some (.ref r gg off, H)) ∧ (∀ k, k < m → ld (.ref r gg (off + k)) H = (l[j * m + k]?).map fun v => (v, H)) ∧ lda m (.ref r gg off) H = some (.agg ((l.drop (j * m)).take m), H) := by
  have hs := o.is hm hl
  have hjm : (j + 1) * m ≤ n * m := Nat.mul_le_mul_right _ (by omega)
  rw [Nat.add_mul, Nat.one_mul] at hjm
  rcases o with ⟨_, h0⟩ | ⟨r, gg, off, n', cap, ex, ty, all, rfl, k2, k3, k4, k5, k6, k7, k8⟩
  · rw [h0] at hl; simp only [List.length_nil] at hl; omega
  have hn : n' = n := hs.2.2.1
  subst hn
  have hcm : n' * m ≤ cap * m := Nat.mul_le_mul_right _ k4
  refine ⟨r, gg, off + j * m, fun k => ?_, fun k hk => ?_, ?_⟩
  · have := hs.ix (k := k) (i := (j : Int)) (by omega) (by omega)
    rw [Int.toNat_natCast] at this
    exact this
  · rw [ld_blk k5, k8, List.getElem?_take, if_pos (by omega), List.getElem?_drop, Nat.add_assoc]
  · rw [lda_blk k5 (by omega), k8]
    congr 3
    rw [List.drop_take, List.drop_drop, List.take_take, Nat.min_eq_left (by omega)]
theorem freeze_ownAny {H1 : AHeap} {n d m k : Nat} {x : AV} {cells : List AV} (c : Own n H1 x m cells) (hm : 0 < m) (hl : cells.length = k * m) (hz : ∀ y ∈ cells, freezeA H1 n d y = some y) : ∃ y, freezeA H1 n (d + 1) x = some y ∧ ∀ H' : AHeap, SliceIs H' y m k cells := by
  by_cases hx : x = zN
  · subst hx
    have hs := c.is hm hl
    have hk : k = 0 := hs.2.2.2
    have hc : cells = [] := List.eq_nil_of_length_eq_zero (by rw [hl, hk, Nat.zero_mul])
    subst hk; subst hc
    exact ⟨zN, freeze_s, fun H' => SliceIs.nil⟩
  · have hs := c.is hm hl
    obtain ⟨c1, c2⟩ := hs.cells_
    rcases c with ⟨h, _⟩ | ⟨r, g, off, n', cap, ex, ty, all, rfl, k2, k3, k4, k5, k6, k7, rfl⟩
    · exact absurd h hx
    · have hn : n' = k := hs.2.2.1
      subst hn
      exact ⟨.vs n' m _, freeze_sl k2 c2 (freeze_all _ hz), fun H' => SliceIs.vs hl⟩
section
variable {b : Nat} {H : AHeap} {g : Store} {q f : Nat} {N : Nat → Nat → Nat} {m : RMach}
def RMach.all (m : RMach) : List Pkt := m.fab.flatMap fun p => p.rq ++ p.an
end

end Go.Proofs.YtjmldnpdfnklcaaDoor

namespace Go.Proofs.YtjmldnpdfnklcaaDoor

section
variable {b : Nat} {H : AHeap} {g : Store} {q f : Nat} {N : Nat → Nat → Nat} {m : RMach}
def RTurns.ownerOf (t : RTurns) (line : Int) : Int := ((t.owner.find? fun o => decide (o.1 = line)).map (·.2)).getD (-1)
def RTurns.waits (t : RTurns) (line : Int) : List (Int × Int) := (t.wait.filter fun w => decide (w.1 = line)).map (·.2)
def hereB (c : Cfg) (me line : Int) : Bool := decide (0 ≤ line) && decide (line < c.lines) && decide (line % c.nodes = me)
end

end Go.Proofs.YtjmldnpdfnklcaaDoor

namespace Go.Proofs.YtjmldnpdfnklcaaDoor

/-- A node and the document's one. -/
structure NSim (c : Cfg) (me : Int) (n : Node) (r : RNode) : Prop where
  ops : r.ops = n.proc.ops
  values : r.values = n.proc.values
  begun : r.begun = n.proc.begun
  has : r.has = !decide (n.deal.step = 0)
  deal : r.deal = if n.deal.step = 0 then .zero else n.deal
  num : r.num = n.num
  sets : r.cache.sets = n.cache.sets
  ways : r.cache.ways = n.cache.ways
  clock : r.cache.clock = n.cache.clock
  sorted : r.cache.l.Pairwise fun a b => a.line < b.line
  perm : n.cache.l.Perm r.cache.l
  rows : ∀ line, hereB c me line = true → ∃ row, aget n.home.rows line = some row ∧ r.homes.rows[line.toNat]? = some row
  none : ∀ line, hereB c me line = false → aget n.home.rows line = none
  owner : ∀ line, n.home.turns.owner line = r.homes.turns.ownerOf line
  waits : ∀ line, n.home.turns.ws line = r.homes.turns.waits line

end Go.Proofs.YtjmldnpdfnklcaaDoor

namespace Go.Proofs.YtjmldnpdfnklcaaDoor

/-- A machine and the document's one. -/
structure Sim (m : Mach) (r : RMach) : Prop where
  c : r.c = m.c
  len : r.nodes.length = m.nodes.length
  fab : r.fab = m.fab.l
  ev : r.ev = m.trace
  node : ∀ (i : Nat) n rn, m.nodes[i]? = some n → r.nodes[i]? = some rn → NSim m.c i n rn
theorem Sim.all {m : Mach} {r : RMach} (S : Sim m r) : r.all = m.fab.all := by
  unfold RMach.all Fab.all
  rw [S.fab]

end Go.Proofs.YtjmldnpdfnklcaaDoor

namespace Go.Proofs.YtjmldnpdfnklcaaDoor

theorem Own.set1 {b : Nat} {H : AHeap} {x : AV} {n : Nat} {l : List AV} (c : Own b H x 1 l) (hb : H.base ≤ b) (hl : l.length = n) {j : Nat} (hj : j < n) :
    ∃ p, (∀ k : IntKind, ix 1 x (.s (.int k j)) H = some (p, H)) ∧ ld p H = (l[j]?).map (fun v => (v, H)) ∧ ∀ v, One v → ∃ H', st 1 p v H = some (undefA, H') ∧ Own b H' x 1 (l.set j v) ∧ Step b H H' ∧ H'.next = H.next := by
  obtain ⟨r, gg, off, i1, i2, i3⟩ := c.ref (by decide) (by omega : l.length = n * 1) hj
  have i2 := i2 0 (by decide)
  rw [Nat.mul_one, Nat.add_zero, Nat.add_zero] at i2
  refine ⟨_, i1, i2, fun v hv => ?_⟩
  rcases c with ⟨_, h0⟩ | ⟨r', gg', off', n', cap, ex, ty, all, rfl, k2, k3, k4, k5, k6, k7, rfl⟩
  · rw [h0] at hl; simp at hl; omega
  have e := i1 .i64
  have hs : ix 1 (.sl r' gg' off' 1 n' cap ex) (.s (.int .i64 j)) H = some (.ref r' gg' (off' + j), H) := by
    have hcm : n' * 1 ≤ cap * 1 := Nat.mul_le_mul_right _ k4
    have hn : n' = n := by rw [List.length_take, List.length_drop] at hl; omega
    have := (Own.is (b := b) (n := n') (.inr ⟨r', gg', off', n', cap, ex, ty, all, rfl, k2, k3, k4, k5, k6, k7, rfl⟩) (by decide) (by rw [List.length_take, List.length_drop]; omega)).ix (k := .i64) (i := (j : Int)) (by omega) (by omega)
    rw [Int.toNat_natCast] at this
    rw [this]
    simp only [elemPtr, Nat.mul_one]
  rw [hs] at e
  cases e
  have hn : n' = n := by rw [List.length_take, List.length_drop] at hl; omega
  subst hn
  refine ⟨_, st_one hv k5 (by omega) (by omega), .inr ⟨r, gg, off', n', cap, ex, ty, all.set (off' + j) v, rfl, k2, k3, k4, by rw [get_put, if_pos rfl], by simpa using k6, all_set k7 hv.2 _, ?_⟩, Step.put _ k2, rfl⟩
  apply List.ext_getElem?
  intro p
  rw [List.getElem?_take, List.getElem?_drop]
  by_cases hp : p < n' * 1
  · rw [if_pos hp]
    by_cases hpj : p = j
    · subst hpj
      rw [List.getElem?_set_self (by rw [List.length_take, List.length_drop]; omega), List.getElem?_set_self (by omega)]
    · rw [List.getElem?_set_ne (fun e => hpj e.symm), List.getElem?_set_ne (by omega), List.getElem?_take, if_pos hp, List.getElem?_drop]
  · rw [if_neg hp, List.getElem?_eq_none (by rw [List.length_set, List.length_take, List.length_drop]; omega)]

end Go.Proofs.YtjmldnpdfnklcaaDoor

namespace Go.Proofs.YtjmldnpdfnklcaaDoor



end Go.Proofs.YtjmldnpdfnklcaaDoor

namespace Go.Proofs.YtjmldnpdfnklcaaDoor



end Go.Proofs.YtjmldnpdfnklcaaDoor

namespace Go.Proofs.YtjmldnpdfnklcaaDoor

/-- A slice of texts. -/
def StrsIs (y : AV) (ws : List Str) : Prop := ∀ H : AHeap, SliceIs H y 1 ws.length (ws.map T)
theorem split_sp {l : Str} {c : UInt8} {H : AHeap} (h : l.length ≤ 1000000) : cl 35 [T l, T [c]] H = some (.sl H.next 0 0 1 (splitC c l).length (splitC c l).length true, H.new (.blk 0 9 ((splitC c l).map T))) :=
  prim_of (p := splitP 9) (by rfl) (splitP_T h)
theorem all_T (l : List Str) : (l.map T).all AV.isCell = true := by
  rw [List.all_eq_true]
  intro x hx
  obtain ⟨w, _, rfl⟩ := List.mem_map.1 hx
  exact isCell_T
theorem one_T (l : Str) : One (T l) := ⟨rfl, rfl⟩
theorem frz_T {l : Str} {H : AHeap} {n d : Nat} : freezeA H n (d + 1) (T l) = some (T l) := rfl
theorem split_own {l : Str} {c : UInt8} {H : AHeap} {b : Nat} (hb : b ≤ H.next) : Own b (H.new (.blk 0 9 ((splitC c l).map T))) (.sl H.next 0 0 1 (splitC c l).length (splitC c l).length true) 1 ((splitC c l).map T) :=
  .inr ⟨H.next, 0, 0, _, _, true, _, (splitC c l).map T, rfl, hb, by rw [nNew]; omega, Nat.le_refl _, getNew_eq, by simp, all_T _, by rw [List.drop_zero, List.take_of_length_le (by simp)]⟩
theorem empty_sp (H : AHeap) (w : Str) : cl 43 [T w] H = some (B (decide (w = [])), H) := by
  refine pure_val rfl rfl (rn_43 _ _ _) ?_ frz_s
  simp -implicitDefEqProofs only [Nat.reduceLT, bnd_some, bo_some, condK_true, condK_false, gdA_undef, decide_true, decide_false, Int.reduceLE, Int.reduceLT, Int.reduceEq, Int.reduceNeg, Int.reduceAdd, gd_tt, gd_tf, gd_ft, gd_ff, unG_pure, lift_some, bnd_lift, Option.map_some, Option.bind_some, fieldPtr_ref, fieldPtr_ip, nil_ref, nil_ip, nil_fn, ex_tup, fl_agg, List.getElem?_cons_zero, List.getElem?_cons_succ, Nat.zero_add, Nat.add_zero, Nat.reduceAdd, pk_t, pk_f, lss_int, leq_int, gtr_int, geq_int, eql_int, neq_int, not_bool, beq_self_eq_true, if_true, Bool.false_eq_true, if_false, List.nil_append, List.cons_append, List.append_nil, alc_eq, mkm_eq, nNew, nPut, bNew, bPut, nGrd, bGrd, sh_43, T_str, eql_T]
/-- Where the first text is that is empty. -/
def firstE : List Str → Nat → Int
  | [], _ => -1
  | w :: ws, j => if w = [] then (j : Int) else firstE ws (j + 1)
theorem indexE_sp (H : AHeap) {x : AV} {ws : List Str} (hx : SliceIs H x 1 ws.length (ws.map T)) (hn : ws.length ≤ 10000000) :
    cl 71 [x, .fn (.func 43) [] []] H = some (I (firstE ws 0), H) := by
  have key : ∀ k j, j + k = ws.length → lp_71x0 cl [x, .fn (.func 43) [] [], I ws.length, I j] H = some (I (firstE (ws.drop j) j), H) := by
    intro k
    induction k with
    | zero =>
      intro j hj
      have h1 : ¬ (j : Int) < ws.length := by omega
      rw [le_71x0, List.drop_eq_nil_of_le (by omega)]
      simp -implicitDefEqProofs only [Nat.reduceLT, bnd_some, bo_some, condK_true, condK_false, gdA_undef, decide_true, decide_false, Int.reduceLE, Int.reduceLT, Int.reduceEq, Int.reduceNeg, Int.reduceAdd, gd_tt, gd_tf, gd_ft, gd_ff, unG_pure, lift_some, bnd_lift, Option.map_some, Option.bind_some, fieldPtr_ref, fieldPtr_ip, nil_ref, nil_ip, nil_fn, ex_tup, fl_agg, List.getElem?_cons_zero, List.getElem?_cons_succ, Nat.zero_add, Nat.add_zero, Nat.reduceAdd, pk_t, pk_f, lss_int, leq_int, gtr_int, geq_int, eql_int, neq_int, not_bool, beq_self_eq_true, if_true, Bool.false_eq_true, if_false, List.nil_append, List.cons_append, List.append_nil, alc_eq, mkm_eq, nNew, nPut, bNew, bPut, nGrd, bGrd, h1, firstE]
    | succ k ih =>
      intro j hj
      have h1 : (j : Int) < ws.length := by omega
      have hl : j < ws.length := by omega
      have i1 := hx.ix (k := .i64) (i := (j : Int)) (by omega) h1
      have i2 := hx.ld (i := j) hl
      rw [List.getElem?_map, List.getElem?_eq_getElem hl, Option.map_some, Option.map_some] at i2
      have h6 : (j : Int) + 1 = ((j + 1 : Nat) : Int) := by omega
      have h7 := wrap_i64 (a := ((j + 1 : Nat) : Int)) (by omega) (by omega)
      have e := empty_sp H ws[j]
      have hc : ∀ args, callA Tryd.prog cl (.fn (.func 43) [] []) args H = cl 43 args H := fun args => by
        rw [callA_fun (by kernel_rfl), List.nil_append, List.append_nil]
      rw [le_71x0, List.drop_eq_getElem_cons hl]
      by_cases hw : ws[j] = []
      · rw [hw] at e i2
        simp -implicitDefEqProofs only [Nat.reduceLT, bnd_some, bo_some, condK_true, condK_false, gdA_undef, decide_true, decide_false, Int.reduceLE, Int.reduceLT, Int.reduceEq, Int.reduceNeg, Int.reduceAdd, gd_tt, gd_tf, gd_ft, gd_ff, unG_pure, lift_some, bnd_lift, Option.map_some, Option.bind_some, fieldPtr_ref, fieldPtr_ip, nil_ref, nil_ip, nil_fn, ex_tup, fl_agg, List.getElem?_cons_zero, List.getElem?_cons_succ, Nat.zero_add, Nat.add_zero, Nat.reduceAdd, pk_t, pk_f, lss_int, leq_int, gtr_int, geq_int, eql_int, neq_int, not_bool, beq_self_eq_true, if_true, Bool.false_eq_true, if_false, List.nil_append, List.cons_append, List.append_nil, alc_eq, mkm_eq, nNew, nPut, bNew, bPut, nGrd, bGrd, h1, i1, Int.toNat_natCast, i2, hc, e, hw, eq_self, firstE]
      · simp -implicitDefEqProofs only [Nat.reduceLT, bnd_some, bo_some, condK_true, condK_false, gdA_undef, decide_true, decide_false, Int.reduceLE, Int.reduceLT, Int.reduceEq, Int.reduceNeg, Int.reduceAdd, gd_tt, gd_tf, gd_ft, gd_ff, unG_pure, lift_some, bnd_lift, Option.map_some, Option.bind_some, fieldPtr_ref, fieldPtr_ip, nil_ref, nil_ip, nil_fn, ex_tup, fl_agg, List.getElem?_cons_zero, List.getElem?_cons_succ, Nat.zero_add, Nat.add_zero, Nat.reduceAdd, pk_t, pk_f, lss_int, leq_int, gtr_int, geq_int, eql_int, neq_int, not_bool, beq_self_eq_true, if_true, Bool.false_eq_true, if_false, List.nil_append, List.cons_append, List.append_nil, alc_eq, mkm_eq, nNew, nPut, bNew, bPut, nGrd, bGrd, h1, i1, Int.toNat_natCast, i2, hc, e, hw, firstE, add_int, h6, h7, ih (j + 1) (by omega)]
  refine run_cl rfl rfl (rn_71 _ _ _ _ ?_)
  have := key ws.length 0 (by omega)
  simp only [List.drop_zero, Int.ofNat_zero, Int.natCast_zero] at this
  simp -implicitDefEqProofs only [Nat.reduceLT, bnd_some, bo_some, condK_true, condK_false, gdA_undef, decide_true, decide_false, Int.reduceLE, Int.reduceLT, Int.reduceEq, Int.reduceNeg, Int.reduceAdd, gd_tt, gd_tf, gd_ft, gd_ff, unG_pure, lift_some, bnd_lift, Option.map_some, Option.bind_some, fieldPtr_ref, fieldPtr_ip, nil_ref, nil_ip, nil_fn, ex_tup, fl_agg, List.getElem?_cons_zero, List.getElem?_cons_succ, Nat.zero_add, Nat.add_zero, Nat.reduceAdd, pk_t, pk_f, lss_int, leq_int, gtr_int, geq_int, eql_int, neq_int, not_bool, beq_self_eq_true, if_true, Bool.false_eq_true, if_false, List.nil_append, List.cons_append, List.append_nil, alc_eq, mkm_eq, nNew, nPut, bNew, bPut, nGrd, bGrd, sh_71, hx.lnS, this]
theorem firstE_spec : ∀ (ws : List Str) (j : Nat), (firstE ws j = -1 ∧ ws.filter (fun w => decide (w ≠ [])) = ws) ∨ ∃ i, i < ws.length ∧ firstE ws j = ((j + i : Nat) : Int) ∧ (ws.take i).filter (fun w => decide (w ≠ [])) = ws.take i ∧ ws[i]? = some []
  | [], j => .inl ⟨rfl, rfl⟩
  | w :: ws, j => by
    simp only [firstE]
    split
    · rename_i h
      exact .inr ⟨0, by simp, by simp, by simp, by simp [h]⟩
    · rename_i h
      rcases firstE_spec ws (j + 1) with ⟨h1, h2⟩ | ⟨i, h1, h2, h3, h4⟩
      · refine .inl ⟨h1, ?_⟩
        rw [List.filter_cons, if_pos (by simp [h]), h2]
      · refine .inr ⟨i + 1, by simp; omega, by rw [h2]; congr 1; omega, ?_, by simpa using h4⟩
        rw [List.take_succ_cons, List.filter_cons, if_pos (by simp [h]), h3]
/-- What stands behind a place of one's own slice is cleared, and cut off. -/
theorem Own.clear {b : Nat} {H : AHeap} {x : AV} {n : Nat} {l : List AV} (c : Own b H x 1 l) (hb : H.base ≤ b) (hl : l.length = n) {i : Nat} (hi : i ≤ n) (h0 : 0 < n) {z : AV} (hz : z.isCell = true) :
    ∃ x4 x5 H', slS 1 x (some (I i)) none none = some x4 ∧ clr 1 [z] x4 H = some (.tup [], H') ∧ slS 1 x none (some (I i)) none = some x5 ∧ Own b H' x5 1 (l.take i) ∧ Step b H H' := by
  rcases c with ⟨_, e⟩ | ⟨r, gg, off, n', cap, ex, ty, all, rfl, k2, k3, k4, k5, k6, k7, rfl⟩
  · rw [e] at hl; simp at hl; omega
  have hn : n' = n := by rw [List.length_take, List.length_drop] at hl; omega
  subst hn
  have s1 := slS_from (r := r) (gg := gg) (off := off) (m := 1) (len := n') (cap := cap) (ex := ex) (k1 := .i64) (lo := (i : Int)) (by omega) (by omega) k4
  have s2 := slS_to (r := r) (gg := gg) (off := off) (m := 1) (len := n') (cap := cap) (ex := ex) (k2 := .i64) (hi := (i : Int)) (by omega) (by omega)
  rw [Int.toNat_natCast] at s1 s2
  by_cases hin : n' - i = 0
  · have : i = n' := by omega
    subst this
    refine ⟨_, _, H, s1, ?_, s2, ?_, Step.refl _ _⟩
    · simp only [clr, hin, if_true]
    · refine .inr ⟨r, gg, off, i, cap, ex, ty, all, rfl, k2, k3, k4, k5, k6, k7, ?_⟩
      rw [List.take_of_length_le (by rw [hl]; omega)]
  · have hzl : (zerosL [z] (n' - i)).length = n' - i := by rw [zerosL_length]; simp
    refine ⟨_, _, H.put r (.blk gg ty (setAt all (off + i * 1) (zerosL [z] (n' - i)))), s1, ?_, s2, ?_, Step.put _ k2⟩
    · simp only [clr, hin, if_false, k5]
      rw [if_pos ⟨trivial, trivial, by omega, rfl, by simp [hz], by omega⟩]
    · have hle : off + i * 1 + (zerosL [z] (n' - i)).length ≤ all.length := by rw [hzl]; omega
      refine .inr ⟨r, gg, off, i, cap, ex, ty, setAt all (off + i * 1) (zerosL [z] (n' - i)), rfl, k2, k3, by omega, by rw [get_put, if_pos rfl], by rw [setA_length hle]; omega, all_setAt k7 (zerosL_all (by simp [hz]) _) _, ?_⟩
      apply List.ext_getElem?
      intro p
      rw [List.getElem?_take, List.getElem?_take, List.getElem?_take, List.getElem?_drop, List.getElem?_drop]
      by_cases hp : p < i
      · rw [if_pos hp, if_pos (by omega), if_pos (by omega), setA_get hle, if_neg (by omega)]
      · rw [if_neg hp, if_neg (by omega)]
def keepE (ws : List Str) : List Str := ws.filter fun w => decide (w ≠ [])
theorem keepE_snoc (ws : List Str) (w : Str) : keepE (ws ++ [w]) = if w = [] then keepE ws else keepE ws ++ [w] := by
  unfold keepE
  rw [List.filter_append]
  by_cases h : w = [] <;> simp [h]
theorem keepE_len (ws : List Str) : (keepE ws).length ≤ ws.length := List.length_filter_le _ _
/-- What is kept stands ahead, what is to come stands where it stood. -/
def Half (ws : List Str) (j : Nat) (cells : List AV) : Prop := cells.length = ws.length ∧ cells.take (keepE (ws.take j)).length = (keepE (ws.take j)).map T ∧ ∀ p, j ≤ p → cells[p]? = (ws.map T)[p]?
theorem del_sp {b : Nat} {H : AHeap} {x : AV} {ws : List Str} (hb : H.base ≤ b) (c : Own b H x 1 (ws.map T)) (h0 : 0 < ws.length) (hn : ws.length ≤ 10000000) :
    ∃ y H', cl 42 [x, .fn (.func 43) [] []] H = some (y, H') ∧ Own b H' y 1 ((keepE ws).map T) ∧ Step b H H' := by
  have hx : SliceIs H x 1 ws.length (ws.map T) := c.is (by decide) (by simp)
  have e1 := indexE_sp H hx hn
  have key : ∀ k j, j + k = ws.length → ∀ (Hi : AHeap) (cells : List AV), Hi.base ≤ b → Own b Hi x 1 cells → Half ws j cells →
      ∃ y H', lp_42x0 cl [x, .fn (.func 43) [] [], I (keepE (ws.take j)).length, I j] Hi = some (y, H') ∧ Own b H' y 1 ((keepE ws).map T) ∧ Step b Hi H' := by
    intro k
    induction k with
    | zero =>
      intro j hj Hi cells hbi ci ⟨q1, q2, q3⟩
      have h1 : ¬ (j : Int) < ws.length := by omega
      have ht : ws.take j = ws := List.take_of_length_le (by omega)
      rw [ht] at q2 ⊢
      obtain ⟨x4, x5, H', s1, s2, s3, s4, s5⟩ := ci.clear hbi q1 (keepE_len ws) h0 (z := T []) isCell_T
      refine ⟨x5, H', ?_, by rw [q2] at s4; exact s4, s5⟩
      have hs := (ci.is (by decide) (n := ws.length) (by omega)).lnS
      rw [le_42x0]
      simp -implicitDefEqProofs only [Nat.reduceLT, bnd_some, bo_some, condK_true, condK_false, gdA_undef, decide_true, decide_false, Int.reduceLE, Int.reduceLT, Int.reduceEq, Int.reduceNeg, Int.reduceAdd, gd_tt, gd_tf, gd_ft, gd_ff, unG_pure, lift_some, bnd_lift, Option.map_some, Option.bind_some, fieldPtr_ref, fieldPtr_ip, nil_ref, nil_ip, nil_fn, ex_tup, fl_agg, List.getElem?_cons_zero, List.getElem?_cons_succ, Nat.zero_add, Nat.add_zero, Nat.reduceAdd, pk_t, pk_f, lss_int, leq_int, gtr_int, geq_int, eql_int, neq_int, not_bool, beq_self_eq_true, if_true, Bool.false_eq_true, if_false, List.nil_append, List.cons_append, List.append_nil, alc_eq, mkm_eq, nNew, nPut, bNew, bPut, nGrd, bGrd, hs, h1, s1, zS_T, s2, s3]
    | succ k ih =>
      intro j hj Hi cells hbi ci ⟨q1, q2, q3⟩
      have h1 : (j : Int) < ws.length := by omega
      have hl : j < ws.length := by omega
      have hs := ci.is (by decide) (n := ws.length) (by omega)
      have i1 := hs.ix (k := .i64) (i := (j : Int)) (by omega) h1
      have i2 := hs.ld (i := j) hl
      rw [q3 j (Nat.le_refl _), List.getElem?_map, List.getElem?_eq_getElem hl, Option.map_some, Option.map_some] at i2
      have h6 : (j : Int) + 1 = ((j + 1 : Nat) : Int) := by omega
      have h7 := wrap_i64 (a := ((j + 1 : Nat) : Int)) (by omega) (by omega)
      have e := fun H => empty_sp H ws[j]
      have hc : ∀ args H, callA Tryd.prog cl (.fn (.func 43) [] []) args H = cl 43 args H := fun args H => by
        rw [callA_fun (by kernel_rfl), List.nil_append, List.append_nil]
      have ht : ws.take (j + 1) = ws.take j ++ [ws[j]] := by rw [List.take_add_one, List.getElem?_eq_getElem hl]; rfl
      by_cases hw : ws[j] = []
      · have hk : keepE (ws.take (j + 1)) = keepE (ws.take j) := by rw [ht, keepE_snoc, if_pos hw]
        obtain ⟨y, H', r1, r2, r3⟩ := ih (j + 1) (by omega) Hi cells hbi ci ⟨q1, by rw [hk]; exact q2, fun p hp => q3 p (by omega)⟩
        rw [hk] at r1
        refine ⟨y, H', ?_, r2, r3⟩
        rw [le_42x0]
        rw [hw] at i2
        have e := fun H => empty_sp H []
        simp -implicitDefEqProofs only [Nat.reduceLT, bnd_some, bo_some, condK_true, condK_false, gdA_undef, decide_true, decide_false, Int.reduceLE, Int.reduceLT, Int.reduceEq, Int.reduceNeg, Int.reduceAdd, gd_tt, gd_tf, gd_ft, gd_ff, unG_pure, lift_some, bnd_lift, Option.map_some, Option.bind_some, fieldPtr_ref, fieldPtr_ip, nil_ref, nil_ip, nil_fn, ex_tup, fl_agg, List.getElem?_cons_zero, List.getElem?_cons_succ, Nat.zero_add, Nat.add_zero, Nat.reduceAdd, pk_t, pk_f, lss_int, leq_int, gtr_int, geq_int, eql_int, neq_int, not_bool, beq_self_eq_true, if_true, Bool.false_eq_true, if_false, List.nil_append, List.cons_append, List.append_nil, alc_eq, mkm_eq, nNew, nPut, bNew, bPut, nGrd, bGrd, hs.lnS, h1, i1, Int.toNat_natCast, i2, hc, e, eq_self, Bool.not_true, jn_42x0, add_int, h6, h7, r1]
      · have hk : keepE (ws.take (j + 1)) = keepE (ws.take j) ++ [ws[j]] := by rw [ht, keepE_snoc, if_neg hw]
        have hkl : (keepE (ws.take j)).length < ws.length := by
          have := keepE_len (ws.take j)
          rw [List.length_take] at this; omega
        have hkj : (keepE (ws.take j)).length ≤ j := by
          have := keepE_len (ws.take j)
          rw [List.length_take] at this; omega
        obtain ⟨p, a1, a2, a3⟩ := ci.set1 hbi q1 (j := (keepE (ws.take j)).length) hkl
        obtain ⟨H1, s1, s2, s3, s4⟩ := a3 (T ws[j]) (one_T _)
        have a1 := a1 .i64
        have h8 : ((keepE (ws.take j)).length : Int) + 1 = (((keepE (ws.take j)).length + 1 : Nat) : Int) := by omega
        have h9 := wrap_i64 (a := (((keepE (ws.take j)).length + 1 : Nat) : Int)) (by omega) (by omega)
        obtain ⟨y, H', r1, r2, r3⟩ := ih (j + 1) (by omega) H1 _ (by rw [s3.base]; exact hbi) s2 ⟨by rw [List.length_set]; exact q1, by
          rw [hk, List.length_append, List.length_singleton, List.map_append, List.map_singleton]
          apply List.ext_getElem?
          intro p
          rw [List.getElem?_take]
          by_cases hp : p < (keepE (ws.take j)).length
          · rw [if_pos (by omega), List.getElem?_set_ne (by omega), List.getElem?_append_left (by simpa using hp), ← q2, List.getElem?_take, if_pos hp]
          · by_cases hp2 : p = (keepE (ws.take j)).length
            · subst hp2
              rw [if_pos (by omega), List.getElem?_set_self (by omega), List.getElem?_append_right (by simp)]
              simp
            · rw [if_neg (by omega), List.getElem?_eq_none (by simp; omega)], fun p hp => by
          rw [List.getElem?_set_ne (by omega)]; exact q3 p (by omega)⟩
        rw [hk, List.length_append, List.length_singleton] at r1
        refine ⟨y, H', ?_, r2, s3.trans r3⟩
        rw [le_42x0]
        simp -implicitDefEqProofs only [Nat.reduceLT, bnd_some, bo_some, condK_true, condK_false, gdA_undef, decide_true, decide_false, Int.reduceLE, Int.reduceLT, Int.reduceEq, Int.reduceNeg, Int.reduceAdd, gd_tt, gd_tf, gd_ft, gd_ff, unG_pure, lift_some, bnd_lift, Option.map_some, Option.bind_some, fieldPtr_ref, fieldPtr_ip, nil_ref, nil_ip, nil_fn, ex_tup, fl_agg, List.getElem?_cons_zero, List.getElem?_cons_succ, Nat.zero_add, Nat.add_zero, Nat.reduceAdd, pk_t, pk_f, lss_int, leq_int, gtr_int, geq_int, eql_int, neq_int, not_bool, beq_self_eq_true, if_true, Bool.false_eq_true, if_false, List.nil_append, List.cons_append, List.append_nil, alc_eq, mkm_eq, nNew, nPut, bNew, bPut, nGrd, bGrd, hs.lnS, h1, i1, Int.toNat_natCast, i2, hc, e, hw, Bool.not_false, a1, s1, jn_42x0, add_int, h8, h9, h6, h7, r1]
  rcases firstE_spec ws 0 with ⟨f1, f2⟩ | ⟨i, f1, f2, f3, f4⟩
  · refine ⟨x, H, ?_, by unfold keepE; rw [f2]; exact c, Step.refl _ _⟩
    rw [f1] at e1
    refine run_cl rfl rfl (rn_42 _ _ _ _ ?_)
    simp -implicitDefEqProofs only [Nat.reduceLT, bnd_some, bo_some, condK_true, condK_false, gdA_undef, decide_true, decide_false, Int.reduceLE, Int.reduceLT, Int.reduceEq, Int.reduceNeg, Int.reduceAdd, gd_tt, gd_tf, gd_ft, gd_ff, unG_pure, lift_some, bnd_lift, Option.map_some, Option.bind_some, fieldPtr_ref, fieldPtr_ip, nil_ref, nil_ip, nil_fn, ex_tup, fl_agg, List.getElem?_cons_zero, List.getElem?_cons_succ, Nat.zero_add, Nat.add_zero, Nat.reduceAdd, pk_t, pk_f, lss_int, leq_int, gtr_int, geq_int, eql_int, neq_int, not_bool, beq_self_eq_true, if_true, Bool.false_eq_true, if_false, List.nil_append, List.cons_append, List.append_nil, alc_eq, mkm_eq, nNew, nPut, bNew, bPut, nGrd, bGrd, sh_42, e1]
  · have hi : keepE (ws.take i) = ws.take i := f3
    have hil : (keepE (ws.take i)).length = i := by rw [hi, List.length_take]; omega
    have ht : ws.take (i + 1) = ws.take i ++ [[]] := by rw [List.take_add_one, f4]; rfl
    have hk : keepE (ws.take (i + 1)) = ws.take i := by rw [ht, keepE_snoc, if_pos rfl, hi]
    obtain ⟨y, H', r1, r2, r3⟩ := key (ws.length - (i + 1)) (i + 1) (by omega) H (ws.map T) hb c ⟨by simp, by rw [hk, List.length_take, Nat.min_eq_left (by omega), List.map_take], fun p _ => rfl⟩
    refine ⟨y, H', ?_, r2, r3⟩
    rw [hk, List.length_take, Nat.min_eq_left (by omega)] at r1
    rw [Nat.zero_add] at f2
    rw [f2] at e1
    have h6 : (i : Int) + 1 = ((i + 1 : Nat) : Int) := by omega
    have h7 := wrap_i64 (a := ((i + 1 : Nat) : Int)) (by omega) (by omega)
    have h8 : ¬ (i : Int) = -1 := by omega
    refine run_cl rfl rfl (rn_42 _ _ _ _ ?_)
    simp -implicitDefEqProofs only [Nat.reduceLT, bnd_some, bo_some, condK_true, condK_false, gdA_undef, decide_true, decide_false, Int.reduceLE, Int.reduceLT, Int.reduceEq, Int.reduceNeg, Int.reduceAdd, gd_tt, gd_tf, gd_ft, gd_ff, unG_pure, lift_some, bnd_lift, Option.map_some, Option.bind_some, fieldPtr_ref, fieldPtr_ip, nil_ref, nil_ip, nil_fn, ex_tup, fl_agg, List.getElem?_cons_zero, List.getElem?_cons_succ, Nat.zero_add, Nat.add_zero, Nat.reduceAdd, pk_t, pk_f, lss_int, leq_int, gtr_int, geq_int, eql_int, neq_int, not_bool, beq_self_eq_true, if_true, Bool.false_eq_true, if_false, List.nil_append, List.cons_append, List.append_nil, alc_eq, mkm_eq, nNew, nPut, bNew, bPut, nGrd, bGrd, sh_42, e1, h8, add_int, h6, h7, r1]
theorem keepE_words (l : Str) : keepE (splitC 32 l) = wordsTx l := rfl
theorem wordsTx_sp (H : AHeap) {l : Str} (h : l.length ≤ 1000000) : ∃ y, cl 22 [T l] H = some (y, H) ∧ StrsIs y (wordsTx l) := by
  have e1 := split_sp (l := l) (c := 32) (H := H.guard) h
  have o1 := split_own (l := l) (c := 32) (H := H.guard) (b := H.next) (Nat.le_refl _)
  have hc := splitC_count 32 l
  simp only [nGrd] at e1 o1
  have h0 : 0 < (splitC 32 l).length := List.length_pos_iff.2 (splitC_ne 32 l)
  obtain ⟨y, H', e2, o2, s2⟩ := del_sp (by rw [bNew, bGrd]; exact Nat.le_refl _) o1 h0 (by omega)
  obtain ⟨z, f1, f2⟩ := freeze_ownAny (d := 8) (k := (wordsTx l).length) o2 (by decide) (by rw [keepE_words]; simp) (fun y hy => by
    obtain ⟨w, _, rfl⟩ := List.mem_map.1 hy
    exact frz_T)
  refine ⟨z, pure_cl rfl rfl (rn_22 _ _ _ (r := (y, H')) ?_) f1, fun H => f2 H⟩
  simp -implicitDefEqProofs only [Nat.reduceLT, bnd_some, bo_some, condK_true, condK_false, gdA_undef, decide_true, decide_false, Int.reduceLE, Int.reduceLT, Int.reduceEq, Int.reduceNeg, Int.reduceAdd, gd_tt, gd_tf, gd_ft, gd_ff, unG_pure, lift_some, bnd_lift, Option.map_some, Option.bind_some, fieldPtr_ref, fieldPtr_ip, nil_ref, nil_ip, nil_fn, ex_tup, fl_agg, List.getElem?_cons_zero, List.getElem?_cons_succ, Nat.zero_add, Nat.add_zero, Nat.reduceAdd, pk_t, pk_f, lss_int, leq_int, gtr_int, geq_int, eql_int, neq_int, not_bool, beq_self_eq_true, if_true, Bool.false_eq_true, if_false, List.nil_append, List.cons_append, List.append_nil, alc_eq, mkm_eq, nNew, nPut, bNew, bPut, nGrd, bGrd, sh_22, T_str, e1, e2]

end Go.Proofs.YtjmldnpdfnklcaaDoor

namespace Go.Proofs.YtjmldnpdfnklcaaDoor

def digW : Str := [48, 49, 50, 51, 52, 53, 54, 55, 56, 57]
theorem byte_all {p : UInt8 → Prop} [DecidablePred p] (h : ∀ n : Fin 256, p (UInt8.ofNat n.val)) (b : UInt8) : p b := by
  have := h ⟨b.toNat, b.toNat_lt⟩
  simpa using this
theorem digW_is (b : UInt8) : digW.contains b = isDig b :=
  byte_all (p := fun b => digW.contains b = isDig b) (by decide +kernel) b
theorem dropWhile_head {α : Type} (p : α → Bool) : ∀ (l : List α) (x : α) (r : List α), l.dropWhile p = x :: r → p x = false
  | [], _, _, h => by simp at h
  | a :: l, x, r, h => by
    rw [List.dropWhile_cons] at h
    split at h
    · exact dropWhile_head p l x r h
    · rename_i hp
      simp only [List.cons.injEq] at h
      rw [← h.1]; simpa using hp
theorem dropWhile_all {α : Type} (p : α → Bool) : ∀ (l : List α), l.all p = true → l.dropWhile p = []
  | [], _ => rfl
  | a :: l, h => by
    simp only [List.all_cons, Bool.and_eq_true] at h
    rw [List.dropWhile_cons, if_pos h.1, dropWhile_all p l h.2]
theorem dropWhile_none {α : Type} (p : α → Bool) : ∀ (l : List α), l.dropWhile p = [] → l.all p = true
  | [], _ => rfl
  | a :: l, h => by
    rw [List.dropWhile_cons] at h
    split at h
    · rename_i hp
      simp only [List.all_cons, hp, Bool.true_and]; exact dropWhile_none p l h
    · cases h
theorem trim_nil (l : Str) : decide (Lib.trimS l digW = []) = l.all isDig := by
  have hp : (fun b => digW.contains b) = isDig := funext digW_is
  unfold Lib.trimS Lib.trimLeftS Lib.trimRightS
  rw [hp]
  cases h : l.all isDig with
  | true =>
    have h1 : l.reverse.all isDig = true := by rw [List.all_reverse]; exact h
    rw [dropWhile_all isDig _ h1]; rfl
  | false =>
    cases e : l.reverse.dropWhile isDig with
    | nil =>
      have := dropWhile_none isDig _ e
      rw [List.all_reverse, h] at this; cases this
    | cons x r =>
      have hx := dropWhile_head isDig _ _ _ e
      rw [decide_eq_false]
      intro e2
      have := dropWhile_none isDig _ e2
      rw [List.all_reverse] at this
      simp only [List.all_cons, hx, Bool.false_and] at this
      cases this
def magN (acc : Nat) (d : Str) : Nat := d.foldl (fun n b => 10 * n + (b.toNat - 48)) acc
theorem dig_rng {b : UInt8} (h : isDig b = true) : 48 ≤ b.toNat ∧ b.toNat ≤ 57 := by
  simpa [isDig] using h
theorem magN_int : ∀ (d : Str) (acc : Nat), d.all isDig = true → d.foldl (fun (n : Int) b => 10 * n + ((b.toNat : Int) - 48)) acc = (magN acc d : Int)
  | [], acc, _ => rfl
  | b :: d, acc, h => by
    simp only [List.all_cons, Bool.and_eq_true] at h
    have hb := dig_rng h.1
    have e : (10 * (acc : Int) + ((b.toNat : Int) - 48)) = ((10 * acc + (b.toNat - 48) : Nat) : Int) := by omega
    simp only [List.foldl_cons, e]
    rw [magN_int d _ h.2]; rfl
theorem numMag_N {d : Str} (h : d.all isDig = true) : numMagTx d = (magN 0 d : Int) := magN_int d 0 h
theorem magN_lt : ∀ (d : Str) (acc k : Nat), d.all isDig = true → acc < 10 ^ k → magN acc d < 10 ^ (k + d.length)
  | [], acc, k, _, h => by simpa [magN] using h
  | b :: d, acc, k, h, ha => by
    simp only [List.all_cons, Bool.and_eq_true] at h
    have hb := dig_rng h.1
    have := magN_lt d (10 * acc + (b.toNat - 48)) (k + 1) h.2 (by rw [Nat.pow_succ]; omega)
    simp only [List.length_cons]
    rw [show k + (d.length + 1) = k + 1 + d.length by omega]
    exact this
theorem parseU : ∀ (d : Str) (acc k : Nat), d.all isDig = true → acc < 10 ^ k → k + d.length ≤ 18 → Lib.parseUint10 acc d = .ok (magN acc d)
  | [], acc, k, _, _, _ => rfl
  | b :: d, acc, k, h, ha, hk => by
    simp only [List.all_cons, Bool.and_eq_true] at h
    have hb := dig_rng h.1
    simp only [List.length_cons] at hk
    have h18 : 10 ^ k ≤ 10 ^ 17 := Nat.pow_le_pow_right (by decide) (by omega)
    have h17 : (10 : Nat) ^ 17 = 100000000000000000 := by decide
    simp only [Lib.parseUint10]
    rw [if_pos hb, if_neg (by omega), if_neg (by omega)]
    have e : acc * 10 + (b.toNat - 48) = 10 * acc + (b.toNat - 48) := by omega
    rw [e, parseU d _ (k + 1) h.2 (by rw [Nat.pow_succ]; omega) (by omega)]
    rfl
theorem numMag_lt {d : Str} (h : d.all isDig = true) (hl : d.length ≤ 9) : 0 ≤ numMagTx d ∧ numMagTx d < 1000000000 := by
  rw [numMag_N h]
  have h1 := magN_lt d 0 0 h (by decide)
  rw [Nat.zero_add] at h1
  have h2 : 10 ^ d.length ≤ 10 ^ 9 := Nat.pow_le_pow_right (by decide) hl
  have h3 : (10 : Nat) ^ 9 = 1000000000 := by decide
  omega
/-- What the library makes of a number. -/
theorem atoi_num {s : Str} {v : Int} (h : numTx s = some v) : Lib.atoiAll s = .ok v := by
  unfold numTx at h
  split at h
  · cases h
  rename_i hn
  simp only [not_or] at hn
  obtain ⟨h1, h2, h3, h4⟩ := hn
  have h3 : (magTx s).all isDig = true := by cases e : (magTx s).all isDig <;> simp_all
  have hl : (magTx s).length ≤ 9 := by omega
  have hp := parseU (magTx s) 0 0 h3 (by decide) (by omega)
  have hm := numMag_lt h3 hl
  rw [numMag_N h3] at hm
  have hmag : Lib.parseMag (magTx s) = .ok (magN 0 (magTx s)) := by unfold Lib.parseMag; rw [if_neg h1, hp]
  cases s with
  | nil => simp [magTx] at h1
  | cons c r =>
    by_cases hc : c = 45
    · subst hc
      have e : magTx (45 :: r) = r := by simp [magTx]
      simp only [List.head?_cons, if_true, Option.some.injEq] at h
      rw [numMag_N h3] at h
      rw [e] at hmag h hm
      have e45 : (45 : UInt8).toNat = 45 := by decide
      simp only [Lib.atoiAll, e45, or_true, if_true, hmag, not_true_eq_false, false_and, if_false]
      rw [if_neg (by omega), h]
    · have e : magTx (c :: r) = c :: r := by simp [magTx, hc]
      have hd := dig_rng (b := c) (by rw [e] at h3; simp only [List.all_cons, Bool.and_eq_true] at h3; exact h3.1)
      rw [if_neg (by simpa using hc), Option.some.injEq, numMag_N h3] at h
      rw [e] at hmag h hm
      simp only [Lib.atoiAll]
      rw [if_neg (by omega), hmag]
      simp only
      rw [if_neg (by omega), if_neg (by omega), if_neg (by omega), h]

end Go.Proofs.YtjmldnpdfnklcaaDoor

namespace Go.Proofs.YtjmldnpdfnklcaaDoor

def optI (o : Option Int) : AV := .tup [I (o.getD 0), B o.isSome]
theorem frz_optI (o : Option Int) : Frz 9 (optI o) := frz_tup fun x hx => by
  simp only [List.mem_cons, List.mem_singleton, List.not_mem_nil, or_false] at hx
  rcases hx with rfl | rfl <;> exact frz_s
theorem trimMinus (H : AHeap) {l : Str} (h : l.length ≤ 1000000) : cl 37 [T l, T [45]] H = some (T (magTx l), H) := by
  have e1 : cl 79 [T l, T [45]] H = some (B (decide (l.head? = some 45)), H) := by
    refine run_cl rfl rfl (rn_79 _ _ _ _ ?_)
    cases l with
    | nil => simp -implicitDefEqProofs only [Nat.reduceLT, bnd_some, bo_some, condK_true, condK_false, gdA_undef, decide_true, decide_false, Int.reduceLE, Int.reduceLT, Int.reduceEq, Int.reduceNeg, Int.reduceAdd, gd_tt, gd_tf, gd_ft, gd_ff, unG_pure, lift_some, bnd_lift, Option.map_some, Option.bind_some, fieldPtr_ref, fieldPtr_ip, nil_ref, nil_ip, nil_fn, ex_tup, fl_agg, List.getElem?_cons_zero, List.getElem?_cons_succ, Nat.zero_add, Nat.add_zero, Nat.reduceAdd, pk_t, pk_f, lss_int, leq_int, gtr_int, geq_int, eql_int, neq_int, not_bool, beq_self_eq_true, if_true, Bool.false_eq_true, if_false, List.nil_append, List.cons_append, List.append_nil, alc_eq, mkm_eq, nNew, nPut, bNew, bPut, nGrd, bGrd, sh_79, lnT_T, List.length_nil, List.length_cons, Int.ofNat_zero, Int.natCast_zero, List.head?_nil, reduceCtorEq]; rfl
    | cons c r =>
      have s1 : slT (T (c :: r)) none (some (I (([45] : Str).length : Nat))) = some (T [c]) := by
        rw [slT_T (a := 0) (b := 1) rfl (by rfl) (by omega) (by simp)]; rfl
      have h1 : ((([45] : Str).length : Nat) : Int) ≤ ((c :: r).length : Nat) := by simp; omega
      by_cases hc : c = 45
      · subst hc
        simp -implicitDefEqProofs only [Nat.reduceLT, bnd_some, bo_some, condK_true, condK_false, gdA_undef, decide_true, decide_false, Int.reduceLE, Int.reduceLT, Int.reduceEq, Int.reduceNeg, Int.reduceAdd, gd_tt, gd_tf, gd_ft, gd_ff, unG_pure, lift_some, bnd_lift, Option.map_some, Option.bind_some, fieldPtr_ref, fieldPtr_ip, nil_ref, nil_ip, nil_fn, ex_tup, fl_agg, List.getElem?_cons_zero, List.getElem?_cons_succ, Nat.zero_add, Nat.add_zero, Nat.reduceAdd, pk_t, pk_f, lss_int, leq_int, gtr_int, geq_int, eql_int, neq_int, not_bool, beq_self_eq_true, if_true, Bool.false_eq_true, if_false, List.nil_append, List.cons_append, List.append_nil, alc_eq, mkm_eq, nNew, nPut, bNew, bPut, nGrd, bGrd, sh_79, lnT_T, h1, s1, eql_T, List.head?_cons, eq_self]
      · have : ¬ ([c] = [45]) := by simpa using hc
        have h2 : ¬ (some c = some 45) := by simpa using hc
        simp -implicitDefEqProofs only [Nat.reduceLT, bnd_some, bo_some, condK_true, condK_false, gdA_undef, decide_true, decide_false, Int.reduceLE, Int.reduceLT, Int.reduceEq, Int.reduceNeg, Int.reduceAdd, gd_tt, gd_tf, gd_ft, gd_ff, unG_pure, lift_some, bnd_lift, Option.map_some, Option.bind_some, fieldPtr_ref, fieldPtr_ip, nil_ref, nil_ip, nil_fn, ex_tup, fl_agg, List.getElem?_cons_zero, List.getElem?_cons_succ, Nat.zero_add, Nat.add_zero, Nat.reduceAdd, pk_t, pk_f, lss_int, leq_int, gtr_int, geq_int, eql_int, neq_int, not_bool, beq_self_eq_true, if_true, Bool.false_eq_true, if_false, List.nil_append, List.cons_append, List.append_nil, alc_eq, mkm_eq, nNew, nPut, bNew, bPut, nGrd, bGrd, sh_79, lnT_T, h1, s1, eql_T, List.head?_cons, this, h2]
  have e2 : cl 60 [T l, T [45]] H = some (T (magTx l), H) := by
    refine run_cl rfl rfl (rn_60 _ _ _ _ ?_)
    by_cases hc : l.head? = some 45
    · have s1 : slT (T l) (some (I (([45] : Str).length : Nat))) none = some (T l.tail) := by
        cases l with
        | nil => simp at hc
        | cons c r =>
          rw [slT_T (a := 1) (b := (c :: r).length) (by rfl) rfl (by simp) (by simp)]
          simp
      simp -implicitDefEqProofs only [Nat.reduceLT, bnd_some, bo_some, condK_true, condK_false, gdA_undef, decide_true, decide_false, Int.reduceLE, Int.reduceLT, Int.reduceEq, Int.reduceNeg, Int.reduceAdd, gd_tt, gd_tf, gd_ft, gd_ff, unG_pure, lift_some, bnd_lift, Option.map_some, Option.bind_some, fieldPtr_ref, fieldPtr_ip, nil_ref, nil_ip, nil_fn, ex_tup, fl_agg, List.getElem?_cons_zero, List.getElem?_cons_succ, Nat.zero_add, Nat.add_zero, Nat.reduceAdd, pk_t, pk_f, lss_int, leq_int, gtr_int, geq_int, eql_int, neq_int, not_bool, beq_self_eq_true, if_true, Bool.false_eq_true, if_false, List.nil_append, List.cons_append, List.append_nil, alc_eq, mkm_eq, nNew, nPut, bNew, bPut, nGrd, bGrd, sh_60, e1, hc, lnT_T, s1, magTx]
    · simp -implicitDefEqProofs only [Nat.reduceLT, bnd_some, bo_some, condK_true, condK_false, gdA_undef, decide_true, decide_false, Int.reduceLE, Int.reduceLT, Int.reduceEq, Int.reduceNeg, Int.reduceAdd, gd_tt, gd_tf, gd_ft, gd_ff, unG_pure, lift_some, bnd_lift, Option.map_some, Option.bind_some, fieldPtr_ref, fieldPtr_ip, nil_ref, nil_ip, nil_fn, ex_tup, fl_agg, List.getElem?_cons_zero, List.getElem?_cons_succ, Nat.zero_add, Nat.add_zero, Nat.reduceAdd, pk_t, pk_f, lss_int, leq_int, gtr_int, geq_int, eql_int, neq_int, not_bool, beq_self_eq_true, if_true, Bool.false_eq_true, if_false, List.nil_append, List.cons_append, List.append_nil, alc_eq, mkm_eq, nNew, nPut, bNew, bPut, nGrd, bGrd, sh_60, e1, hc, magTx]
  refine run_cl rfl rfl (rn_37 _ _ _ _ ?_)
  simp -implicitDefEqProofs only [Nat.reduceLT, bnd_some, bo_some, condK_true, condK_false, gdA_undef, decide_true, decide_false, Int.reduceLE, Int.reduceLT, Int.reduceEq, Int.reduceNeg, Int.reduceAdd, gd_tt, gd_tf, gd_ft, gd_ff, unG_pure, lift_some, bnd_lift, Option.map_some, Option.bind_some, fieldPtr_ref, fieldPtr_ip, nil_ref, nil_ip, nil_fn, ex_tup, fl_agg, List.getElem?_cons_zero, List.getElem?_cons_succ, Nat.zero_add, Nat.add_zero, Nat.reduceAdd, pk_t, pk_f, lss_int, leq_int, gtr_int, geq_int, eql_int, neq_int, not_bool, beq_self_eq_true, if_true, Bool.false_eq_true, if_false, List.nil_append, List.cons_append, List.append_nil, alc_eq, mkm_eq, nNew, nPut, bNew, bPut, nGrd, bGrd, sh_37, e2]
theorem trimDig (H : AHeap) {l : Str} (h : l.length ≤ 1000000) : cl 38 [T l, T digW] H = some (T (Lib.trimS l digW), H) :=
  prim_of (p := trimP) (by rfl) (trimP_T h (by decide) (by decide))
theorem atoi_sp (H : AHeap) {l : Str} {v : Int} (h : l.length ≤ 1000000) (hv : numTx l = some v) : cl 39 [T l] H = some (.tup [I v, .s .nilIface], H) :=
  prim_of (p := atoiP) (by rfl) (atoiP_T h (atoi_num hv))
theorem mag_len (l : Str) : (magTx l).length ≤ l.length := by
  unfold magTx; split
  · rw [List.length_tail]; omega
  · exact Nat.le_refl _
theorem head_ix {l : Str} (h : l ≠ []) : ∃ c r, l = c :: r := by
  cases l with
  | nil => exact absurd rfl h
  | cons c r => exact ⟨c, r, rfl⟩
theorem u8_eq {b c : UInt8} : ((b.toNat : Int) = (c.toNat : Int)) ↔ b = c := by
  rw [Int.ofNat_inj]; exact ⟨fun h => UInt8.toNat_inj.1 h, fun h => h ▸ rfl⟩
theorem number_sp (H : AHeap) {l : Str} (h : l.length ≤ 1000000) : cl 17 [T l] H = some (optI (numTx l), H) := by
  refine pure_val rfl rfl (rn_17 _ _ _) ?_ (frz_optI _)
  have e1 := trimMinus H.guard h
  have hm : (magTx l).length ≤ 1000000 := Nat.le_trans (mag_len l) h
  have e2 := trimDig H.guard hm
  have ed : ([48, 49, 50, 51, 52, 53, 54, 55, 56, 57] : Str) = digW := rfl
  by_cases c1 : magTx l = []
  · have hn : numTx l = none := by unfold numTx; rw [if_pos (.inl c1)]
    rw [hn]
    simp -implicitDefEqProofs only [Nat.reduceLT, bnd_some, bo_some, condK_true, condK_false, gdA_undef, decide_true, decide_false, Int.reduceLE, Int.reduceLT, Int.reduceEq, Int.reduceNeg, Int.reduceAdd, gd_tt, gd_tf, gd_ft, gd_ff, unG_pure, lift_some, bnd_lift, Option.map_some, Option.bind_some, fieldPtr_ref, fieldPtr_ip, nil_ref, nil_ip, nil_fn, ex_tup, fl_agg, List.getElem?_cons_zero, List.getElem?_cons_succ, Nat.zero_add, Nat.add_zero, Nat.reduceAdd, pk_t, pk_f, lss_int, leq_int, gtr_int, geq_int, eql_int, neq_int, not_bool, beq_self_eq_true, if_true, Bool.false_eq_true, if_false, List.nil_append, List.cons_append, List.append_nil, alc_eq, mkm_eq, nNew, nPut, bNew, bPut, nGrd, bGrd, sh_17, T_str, e1, eql_T, c1, eq_self, optI]
    rfl
  obtain ⟨c, r, hcr⟩ := head_ix c1
  by_cases c2 : 9 < (magTx l).length
  · have hn : numTx l = none := by unfold numTx; rw [if_pos (.inr (.inl c2))]
    have c2' : (9 : Int) < ((magTx l).length : Nat) := by omega
    rw [hn]
    simp -implicitDefEqProofs only [Nat.reduceLT, bnd_some, bo_some, condK_true, condK_false, gdA_undef, decide_true, decide_false, Int.reduceLE, Int.reduceLT, Int.reduceEq, Int.reduceNeg, Int.reduceAdd, gd_tt, gd_tf, gd_ft, gd_ff, unG_pure, lift_some, bnd_lift, Option.map_some, Option.bind_some, fieldPtr_ref, fieldPtr_ip, nil_ref, nil_ip, nil_fn, ex_tup, fl_agg, List.getElem?_cons_zero, List.getElem?_cons_succ, Nat.zero_add, Nat.add_zero, Nat.reduceAdd, pk_t, pk_f, lss_int, leq_int, gtr_int, geq_int, eql_int, neq_int, not_bool, beq_self_eq_true, if_true, Bool.false_eq_true, if_false, List.nil_append, List.cons_append, List.append_nil, alc_eq, mkm_eq, nNew, nPut, bNew, bPut, nGrd, bGrd, sh_17, T_str, e1, eql_T, c1, lnT_T, c2', optI]
    rfl
  have c2' : ¬ (9 : Int) < ((magTx l).length : Nat) := by omega
  have tn := trim_nil (magTx l)
  cases c3 : (magTx l).all isDig with
  | false =>
    have hn : numTx l = none := by unfold numTx; rw [if_pos (.inr (.inr (.inl c3)))]
    rw [c3] at tn
    rw [hn]
    simp -implicitDefEqProofs only [Nat.reduceLT, bnd_some, bo_some, condK_true, condK_false, gdA_undef, decide_true, decide_false, Int.reduceLE, Int.reduceLT, Int.reduceEq, Int.reduceNeg, Int.reduceAdd, gd_tt, gd_tf, gd_ft, gd_ff, unG_pure, lift_some, bnd_lift, Option.map_some, Option.bind_some, fieldPtr_ref, fieldPtr_ip, nil_ref, nil_ip, nil_fn, ex_tup, fl_agg, List.getElem?_cons_zero, List.getElem?_cons_succ, Nat.zero_add, Nat.add_zero, Nat.reduceAdd, pk_t, pk_f, lss_int, leq_int, gtr_int, geq_int, eql_int, neq_int, not_bool, beq_self_eq_true, if_true, Bool.false_eq_true, if_false, List.nil_append, List.cons_append, List.append_nil, alc_eq, mkm_eq, nNew, nPut, bNew, bPut, nGrd, bGrd, sh_17, T_str, e1, eql_T, neq_T, c1, lnT_T, c2', ed, e2, tn, Bool.not_false, optI]
    rfl
  | true =>
    rw [c3] at tn
    have i1 : ixT (T (magTx l)) (I 0) = some (U8 c) := by rw [hcr, ixT_T (by omega)]; rfl
    have k48 : (48 : Int) = ((48 : UInt8).toNat : Int) := by decide
    by_cases c4 : c = 48
    · have c4' : ((c.toNat : Int) = 48) := by rw [k48, u8_eq]; exact c4
      by_cases c5 : l = [48]
      · have hn : numTx l = some 0 := by subst c5; rfl
        have e3 := atoi_sp H.guard h hn
        have hd : decide (l = [48]) = true := by simp [c5]
        have b0 : bn .eql 74 (.s .nilIface) = some (B true) := by kernel_rfl
        rw [hn]
        simp -implicitDefEqProofs only [Nat.reduceLT, bnd_some, bo_some, condK_true, condK_false, gdA_undef, decide_true, decide_false, Int.reduceLE, Int.reduceLT, Int.reduceEq, Int.reduceNeg, Int.reduceAdd, gd_tt, gd_tf, gd_ft, gd_ff, unG_pure, lift_some, bnd_lift, Option.map_some, Option.bind_some, fieldPtr_ref, fieldPtr_ip, nil_ref, nil_ip, nil_fn, ex_tup, fl_agg, List.getElem?_cons_zero, List.getElem?_cons_succ, Nat.zero_add, Nat.add_zero, Nat.reduceAdd, pk_t, pk_f, lss_int, leq_int, gtr_int, geq_int, eql_int, neq_int, not_bool, beq_self_eq_true, if_true, Bool.false_eq_true, if_false, List.nil_append, List.cons_append, List.append_nil, alc_eq, mkm_eq, nNew, nPut, bNew, bPut, nGrd, bGrd, sh_17, T_str, e1, eql_T, neq_T, c1, lnT_T, c2', ed, e2, tn, Bool.not_true, i1, c4', hd, e3, b0, optI]
        rfl
      · have hn : numTx l = none := by unfold numTx; rw [if_pos (.inr (.inr (.inr ⟨by rw [hcr, c4]; rfl, c5⟩)))]
        rw [hn]
        simp -implicitDefEqProofs only [Nat.reduceLT, bnd_some, bo_some, condK_true, condK_false, gdA_undef, decide_true, decide_false, Int.reduceLE, Int.reduceLT, Int.reduceEq, Int.reduceNeg, Int.reduceAdd, gd_tt, gd_tf, gd_ft, gd_ff, unG_pure, lift_some, bnd_lift, Option.map_some, Option.bind_some, fieldPtr_ref, fieldPtr_ip, nil_ref, nil_ip, nil_fn, ex_tup, fl_agg, List.getElem?_cons_zero, List.getElem?_cons_succ, Nat.zero_add, Nat.add_zero, Nat.reduceAdd, pk_t, pk_f, lss_int, leq_int, gtr_int, geq_int, eql_int, neq_int, not_bool, beq_self_eq_true, if_true, Bool.false_eq_true, if_false, List.nil_append, List.cons_append, List.append_nil, alc_eq, mkm_eq, nNew, nPut, bNew, bPut, nGrd, bGrd, sh_17, T_str, e1, eql_T, neq_T, c1, lnT_T, c2', ed, e2, tn, Bool.not_true, i1, c4', c5, Bool.not_false, optI]
        rfl
    · have c4' : ¬ ((c.toNat : Int) = 48) := by rw [k48, u8_eq]; exact c4
      obtain ⟨v, hn⟩ : ∃ v, numTx l = some v := by
        unfold numTx
        rw [if_neg (fun e => by
          rcases e with e | e | e | ⟨e, _⟩
          · exact c1 e
          · exact c2 e
          · rw [c3] at e; cases e
          · rw [hcr] at e; exact c4 (by simpa using e))]
        exact ⟨_, rfl⟩
      have e3 := atoi_sp H.guard h hn
      have b0 : bn .eql 74 (.s .nilIface) = some (B true) := by kernel_rfl
      rw [hn]
      simp -implicitDefEqProofs only [Nat.reduceLT, bnd_some, bo_some, condK_true, condK_false, gdA_undef, decide_true, decide_false, Int.reduceLE, Int.reduceLT, Int.reduceEq, Int.reduceNeg, Int.reduceAdd, gd_tt, gd_tf, gd_ft, gd_ff, unG_pure, lift_some, bnd_lift, Option.map_some, Option.bind_some, fieldPtr_ref, fieldPtr_ip, nil_ref, nil_ip, nil_fn, ex_tup, fl_agg, List.getElem?_cons_zero, List.getElem?_cons_succ, Nat.zero_add, Nat.add_zero, Nat.reduceAdd, pk_t, pk_f, lss_int, leq_int, gtr_int, geq_int, eql_int, neq_int, not_bool, beq_self_eq_true, if_true, Bool.false_eq_true, if_false, List.nil_append, List.cons_append, List.append_nil, alc_eq, mkm_eq, nNew, nPut, bNew, bPut, nGrd, bGrd, sh_17, T_str, e1, eql_T, neq_T, c1, lnT_T, c2', ed, e2, tn, Bool.not_true, i1, c4', e3, b0, optI]
      rfl

end Go.Proofs.YtjmldnpdfnklcaaDoor

namespace Go.Proofs.YtjmldnpdfnklcaaDoor

theorem StrsIs.at_ {y : AV} {ws : List Str} (h : StrsIs y ws) {i : Int} {w : Str} (h0 : 0 ≤ i) (hw : ws[i.toNat]? = some w) (H : AHeap) : ∃ p, ix 1 y (I i) H = some (p, H) ∧ ld p H = some (T w, H) := by
  have hl : i.toNat < ws.length := (List.getElem?_eq_some_iff.1 hw).1
  refine ⟨_, (h H).ix (k := .i64) h0 (by omega), ?_⟩
  rw [(h H).ld hl, List.getElem?_map, hw]; rfl
/-- Words as a function wants them. -/
def WordsOk (ws : List Str) : Prop := ws ≠ [] ∧ ∀ w ∈ ws, w ≠ [] ∧ w.length ≤ 1000000

end Go.Proofs.YtjmldnpdfnklcaaDoor

namespace Go.Proofs.YtjmldnpdfnklcaaDoor

theorem Own.weak {b b' : Nat} {H : AHeap} {x : AV} {m : Nat} {l : List AV} (h : b' ≤ b) (c : Own b H x m l) : Own b' H x m l := by
  rcases c with c | ⟨r, g, off, n, cap, ex, ty, all, k1, k2, k3⟩
  · exact .inl c
  · exact .inr ⟨r, g, off, n, cap, ex, ty, all, k1, by omega, k3⟩
theorem wordsTx_ok {l : Str} {n : Nat} (h : wordsTx l ≠ []) (hl : l.length ≤ n) (hn : n ≤ 1000000) : WordsOk (wordsTx l) := by
  refine ⟨h, fun w hw => ?_⟩
  simp only [wordsTx, List.mem_filter, decide_eq_true_eq] at hw
  exact ⟨hw.2, Nat.le_trans (splitC_len 32 l w hw.1) (by omega)⟩
theorem wordsTx_len (l : Str) : (wordsTx l).length ≤ l.length + 1 := Nat.le_trans (List.length_filter_le _ _) (splitC_count 32 l)
/-- The answer of a function that reads a text. -/
def readA {α : Type} (m : Nat) (enc : α → List AV) (ok no : AV) (o : Option (List α)) : AV := match o with
  | some l => .tup [vsl m enc l, ok]
  | none => .tup [zN, no]
theorem freeze_tup2 {H : AHeap} {n d : Nat} {x v : AV} {z : Value} (h : freezeA H n (d + 1) x = some v) : freezeA H n (d + 2) (.tup [x, .s z]) = some (.tup [v, .s z]) := by
  have h2 : freezeA H n (d + 1) (.s z) = some (.s z) := freeze_s
  rw [freezeA]
  simp only [List.mapM_cons, List.mapM_nil, h, h2, Option.bind_eq_bind, Option.bind_some, Option.pure_def, Option.map_some]
theorem zN_T : (AV.s (.slice none 0 0)) = zN := rfl

end Go.Proofs.YtjmldnpdfnklcaaDoor

namespace Go.Proofs.YtjmldnpdfnklcaaDoor

theorem cutText (H : AHeap) (l : Str) {n : Nat} (h : n ≤ 1000000) : cl 19 [T l, I n] H = some (T (l.take n), H) := by
  refine run_cl rfl rfl (rn_19 _ _ _ _ ?_)
  have e : slT (T l) none (some (I (min (l.length : Int) (n : Int)))) = some (T (l.take n)) := by
    rw [show min (l.length : Int) (n : Int) = ((min l.length n : Nat) : Int) by omega]
    rw [slT_T (a := 0) (b := min l.length n) rfl (by simp [boundA]) (by omega) (by omega)]
    simp only [List.drop_zero, Nat.sub_zero]
    congr 2
    rcases Nat.le_total l.length n with h | h
    · rw [Nat.min_eq_left h, List.take_of_length_le (Nat.le_refl _), List.take_of_length_le h]
    · rw [Nat.min_eq_right h]
  simp -implicitDefEqProofs only [Nat.reduceLT, bnd_some, bo_some, condK_true, condK_false, gdA_undef, decide_true, decide_false, Int.reduceLE, Int.reduceLT, Int.reduceEq, Int.reduceNeg, Int.reduceAdd, gd_tt, gd_tf, gd_ft, gd_ff, unG_pure, lift_some, bnd_lift, Option.map_some, Option.bind_some, fieldPtr_ref, fieldPtr_ip, nil_ref, nil_ip, nil_fn, ex_tup, fl_agg, List.getElem?_cons_zero, List.getElem?_cons_succ, Nat.zero_add, Nat.add_zero, Nat.reduceAdd, pk_t, pk_f, lss_int, leq_int, gtr_int, geq_int, eql_int, neq_int, not_bool, beq_self_eq_true, if_true, Bool.false_eq_true, if_false, List.nil_append, List.cons_append, List.append_nil, alc_eq, mkm_eq, nNew, nPut, bNew, bPut, nGrd, bGrd, sh_19, lnT_T, min_int, e]
def pieceL : List Str := [[108, 111, 97, 100, 32], [115, 116, 111, 114, 101, 32], [97, 100, 100, 32], [102, 108, 117, 115, 104, 32], [51], [32, 55], [32, 45, 49], [10], [10], [108, 111, 97, 100, 32, 49, 10], [115, 116, 111, 114, 101, 32, 50, 32, 53, 10], [97, 100, 100, 32, 48, 32, 45, 57, 10], [102, 108, 117, 115, 104, 32, 52, 10], [32], [120], [48, 48], [115, 116, 101, 112, 32, 49, 10], [103, 105, 118, 101, 32, 48, 10], [115, 112, 111, 105, 108, 32, 49, 32, 50, 32, 51, 10], [45, 48], [49, 50, 51, 52, 53, 54, 55, 56, 57, 48]]
set_option maxRecDepth 100000 in
theorem text_sp (H : AHeap) (s : Str) {xa : AV} {za : List Int} (ha : SliceIs AHeap.empty xa 1 za.length (za.map I)) (raw : Bool) : ∃ t : Str, t.length ≤ 200 ∧ cl 11 [T s, xa, B raw] H = some (T t, H) := by
  cases raw with
  | true =>
    refine ⟨s.take 80, by rw [List.length_take]; omega, ?_⟩
    refine pure_val rfl rfl (rn_11 _ _ _ _ _) ?_ frz_s
    have e := cutText H.guard s (n := 80) (by omega)
    have e' : cl 19 [T s, I 80] H.guard = some (T (s.take 80), H.guard) := e
    simp -implicitDefEqProofs only [Nat.reduceLT, bnd_some, bo_some, condK_true, condK_false, gdA_undef, decide_true, decide_false, Int.reduceLE, Int.reduceLT, Int.reduceEq, Int.reduceNeg, Int.reduceAdd, gd_tt, gd_tf, gd_ft, gd_ff, unG_pure, lift_some, bnd_lift, Option.map_some, Option.bind_some, fieldPtr_ref, fieldPtr_ip, nil_ref, nil_ip, nil_fn, ex_tup, fl_agg, List.getElem?_cons_zero, List.getElem?_cons_succ, Nat.zero_add, Nat.add_zero, Nat.reduceAdd, pk_t, pk_f, lss_int, leq_int, gtr_int, geq_int, eql_int, neq_int, not_bool, beq_self_eq_true, if_true, Bool.false_eq_true, if_false, List.nil_append, List.cons_append, List.append_nil, alc_eq, mkm_eq, nNew, nPut, bNew, bPut, nGrd, bGrd, sh_11, e']
  | false =>
    let H1 := H.guard.new (.blk 0 9 (pieceL.map T))
    let x7 : AV := .sl H.next 0 0 1 21 21 true
    have h7 : SliceIs H1 x7 1 21 (pieceL.map T) := by
      have : Own H.next H1 x7 1 (pieceL.map T) := .inr ⟨H.next, 0, 0, _, _, true, _, pieceL.map T, rfl, Nat.le_refl _, by simp only [H1]; rw [nNew, nGrd]; omega, Nat.le_refl _, getNew_eq, by decide, all_T _, rfl⟩
      exact this.is (by decide) rfl
    have hl : ∀ w ∈ pieceL, w.length ≤ 12 := by decide
    have key : ∀ k j, j + k = min za.length 16 → ∀ acc : Str, acc.length ≤ 12 * j → ∃ t : Str, t.length ≤ 200 ∧ lp_11x0 cl [xa, x7, T acc, I j] H1 = some (T t, H1) := by
      intro k
      induction k with
      | zero =>
        intro j hj acc hacc
        refine ⟨acc, by omega, ?_⟩
        have e1 := (ints_is ha H1).lnS
        rw [le_11x0]
        by_cases h1 : (j : Int) < za.length
        · have h2 : ¬ (j : Int) < 16 := by omega
          simp -implicitDefEqProofs only [Nat.reduceLT, bnd_some, bo_some, condK_true, condK_false, gdA_undef, decide_true, decide_false, Int.reduceLE, Int.reduceLT, Int.reduceEq, Int.reduceNeg, Int.reduceAdd, gd_tt, gd_tf, gd_ft, gd_ff, unG_pure, lift_some, bnd_lift, Option.map_some, Option.bind_some, fieldPtr_ref, fieldPtr_ip, nil_ref, nil_ip, nil_fn, ex_tup, fl_agg, List.getElem?_cons_zero, List.getElem?_cons_succ, Nat.zero_add, Nat.add_zero, Nat.reduceAdd, pk_t, pk_f, lss_int, leq_int, gtr_int, geq_int, eql_int, neq_int, not_bool, beq_self_eq_true, if_true, Bool.false_eq_true, if_false, List.nil_append, List.cons_append, List.append_nil, alc_eq, mkm_eq, nNew, nPut, bNew, bPut, nGrd, bGrd, e1, h1, h2]
        · simp -implicitDefEqProofs only [Nat.reduceLT, bnd_some, bo_some, condK_true, condK_false, gdA_undef, decide_true, decide_false, Int.reduceLE, Int.reduceLT, Int.reduceEq, Int.reduceNeg, Int.reduceAdd, gd_tt, gd_tf, gd_ft, gd_ff, unG_pure, lift_some, bnd_lift, Option.map_some, Option.bind_some, fieldPtr_ref, fieldPtr_ip, nil_ref, nil_ip, nil_fn, ex_tup, fl_agg, List.getElem?_cons_zero, List.getElem?_cons_succ, Nat.zero_add, Nat.add_zero, Nat.reduceAdd, pk_t, pk_f, lss_int, leq_int, gtr_int, geq_int, eql_int, neq_int, not_bool, beq_self_eq_true, if_true, Bool.false_eq_true, if_false, List.nil_append, List.cons_append, List.append_nil, alc_eq, mkm_eq, nNew, nPut, bNew, bPut, nGrd, bGrd, e1, h1]
      | succ k ih =>
        intro j hj acc hacc
        have h1 : (j : Int) < za.length := by omega
        have h2 : (j : Int) < 16 := by omega
        have e1 := (ints_is ha H1).lnS
        have h6 : (j : Int) + 1 = ((j + 1 : Nat) : Int) := by omega
        have h8 := wrap_i64 (a := ((j + 1 : Nat) : Int)) (by omega) (by omega)
        have i1 := (ints_is ha H1).ix (k := .i64) (i := (j : Int)) (by omega) h1
        have i2 := (ints_is ha H1).ld (i := j) (by omega)
        rw [List.getElem?_map, List.getElem?_eq_getElem (show j < za.length by omega), Option.map_some, Option.map_some] at i2
        have w := within64 H1 za[j] 21 (by omega)
        have wr := withinM_rng (v := za[j]) (n := 21) (by omega)
        have e7 := h7.lnS
        have j1 := h7.ix (k := .i64) (i := withinM za[j] 21) wr.1 wr.2
        have hp : (withinM za[j] 21).toNat < pieceL.length := by
          show _ < 21
          omega
        have j2 := h7.ld (i := (withinM za[j] 21).toNat) (by omega)
        rw [List.getElem?_map, List.getElem?_eq_getElem hp, Option.map_some, Option.map_some] at j2
        have hpl := hl _ (List.getElem_mem hp)
        have ad := add_T (P := Tryd.prog) (t := 9) (a := acc) (b := pieceL[(withinM za[j] 21).toNat]) (by omega)
        obtain ⟨t, t1, t2⟩ := ih (j + 1) (by omega) (acc ++ pieceL[(withinM za[j] 21).toNat]) (by rw [List.length_append]; omega)
        refine ⟨t, t1, ?_⟩
        have e7' : lnS x7 H1 = some (I 21, H1) := e7
        have ad' : bi .add 9 (T acc) (T pieceL[(withinM za[j] 21).toNat]) = some (T (acc ++ pieceL[(withinM za[j] 21).toNat])) := ad
        rw [le_11x0]
        simp -implicitDefEqProofs only [Nat.reduceLT, bnd_some, bo_some, condK_true, condK_false, gdA_undef, decide_true, decide_false, Int.reduceLE, Int.reduceLT, Int.reduceEq, Int.reduceNeg, Int.reduceAdd, gd_tt, gd_tf, gd_ft, gd_ff, unG_pure, lift_some, bnd_lift, Option.map_some, Option.bind_some, fieldPtr_ref, fieldPtr_ip, nil_ref, nil_ip, nil_fn, ex_tup, fl_agg, List.getElem?_cons_zero, List.getElem?_cons_succ, Nat.zero_add, Nat.add_zero, Nat.reduceAdd, pk_t, pk_f, lss_int, leq_int, gtr_int, geq_int, eql_int, neq_int, not_bool, beq_self_eq_true, if_true, Bool.false_eq_true, if_false, List.nil_append, List.cons_append, List.append_nil, alc_eq, mkm_eq, nNew, nPut, bNew, bPut, nGrd, bGrd, e1, h1, h2, i1, Int.toNat_natCast, i2, e7', w, j1, j2, ad', add_int, h6, h8, t2]
    obtain ⟨t, t1, t2⟩ := key (min za.length 16) 0 (by omega) [] (by simp)
    refine ⟨t, t1, ?_⟩
    refine pure_val rfl rfl (rn_11 _ _ _ _ _) ?_ frz_s
    have eb : bs 37 21 [(0, T (pieceL.getD 0 [])), (1, T (pieceL.getD 1 [])), (2, T (pieceL.getD 2 [])), (3, T (pieceL.getD 3 [])), (4, T (pieceL.getD 4 [])), (5, T (pieceL.getD 5 [])), (6, T (pieceL.getD 6 [])), (7, T (pieceL.getD 7 [])), (8, T (pieceL.getD 8 [])), (9, T (pieceL.getD 9 [])), (10, T (pieceL.getD 10 [])), (11, T (pieceL.getD 11 [])), (12, T (pieceL.getD 12 [])), (13, T (pieceL.getD 13 [])), (14, T (pieceL.getD 14 [])), (15, T (pieceL.getD 15 [])), (16, T (pieceL.getD 16 [])), (17, T (pieceL.getD 17 [])), (18, T (pieceL.getD 18 [])), (19, T (pieceL.getD 19 [])), (20, T (pieceL.getD 20 []))] H.guard = some (x7, H1) := (bs_37 (n := 21) (by decide)).trans rfl
    have r0 : sh_11 cl (T s) xa (B false) H.guard = bnd (bs 37 21 [(0, T (pieceL.getD 0 [])), (1, T (pieceL.getD 1 [])), (2, T (pieceL.getD 2 [])), (3, T (pieceL.getD 3 [])), (4, T (pieceL.getD 4 [])), (5, T (pieceL.getD 5 [])), (6, T (pieceL.getD 6 [])), (7, T (pieceL.getD 7 [])), (8, T (pieceL.getD 8 [])), (9, T (pieceL.getD 9 [])), (10, T (pieceL.getD 10 [])), (11, T (pieceL.getD 11 [])), (12, T (pieceL.getD 12 [])), (13, T (pieceL.getD 13 [])), (14, T (pieceL.getD 14 [])), (15, T (pieceL.getD 15 [])), (16, T (pieceL.getD 16 [])), (17, T (pieceL.getD 17 [])), (18, T (pieceL.getD 18 [])), (19, T (pieceL.getD 19 [])), (20, T (pieceL.getD 20 []))] H.guard) fun v13 H => lp_11x0 cl [xa, v13, T [], I 0] H := rfl
    have t2' : lp_11x0 cl [xa, x7, T [], I 0] H1 = some (T t, H1) := t2
    rw [r0, eb]
    simp -implicitDefEqProofs only [Nat.reduceLT, bnd_some, bo_some, condK_true, condK_false, gdA_undef, decide_true, decide_false, Int.reduceLE, Int.reduceLT, Int.reduceEq, Int.reduceNeg, Int.reduceAdd, gd_tt, gd_tf, gd_ft, gd_ff, unG_pure, lift_some, bnd_lift, Option.map_some, Option.bind_some, fieldPtr_ref, fieldPtr_ip, nil_ref, nil_ip, nil_fn, ex_tup, fl_agg, List.getElem?_cons_zero, List.getElem?_cons_succ, Nat.zero_add, Nat.add_zero, Nat.reduceAdd, pk_t, pk_f, lss_int, leq_int, gtr_int, geq_int, eql_int, neq_int, not_bool, beq_self_eq_true, if_true, Bool.false_eq_true, if_false, List.nil_append, List.cons_append, List.append_nil, alc_eq, mkm_eq, nNew, nPut, bNew, bPut, nGrd, bGrd, t2']

end Go.Proofs.YtjmldnpdfnklcaaDoor

namespace Go.Proofs.YtjmldnpdfnklcaaDoor

theorem parse_len {α : Type} (f : List Str → Option α) : ∀ (ls : List Str) (r : List α), parseL f ls = some r → r.length ≤ ls.length
  | [], r, h => by simp only [parseL, Option.some.injEq] at h; subst h; exact Nat.le_refl _
  | l :: ls, r, h => by
    simp only [parseL] at h
    split at h
    · have := parse_len f ls r h; simp; omega
    · split at h
      · cases h
      · rename_i o _
        cases hr : parseL f ls with
        | none => rw [hr] at h; cases h
        | some r' =>
          rw [hr] at h
          simp only [Option.map_some, Option.some.injEq] at h
          subst h
          have := parse_len f ls r' hr
          simp; omega
theorem parseTx_len {α : Type} (f : List Str → Option α) {l : Str} {r : List α} (h : parseTx f l = some r) : r.length ≤ l.length + 1 := Nat.le_trans (parse_len f _ r h) (splitC_count 10 l)

end Go.Proofs.YtjmldnpdfnklcaaDoor

namespace Go.Proofs.YtjmldnpdfnklcaaDoor

theorem dig_of (k : Nat) (h : k < 10) : isDig (UInt8.ofNat (48 + k)) = true ∧ (UInt8.ofNat (48 + k)).toNat = 48 + k := by
  have : (UInt8.ofNat (48 + k)).toNat = 48 + k := by
    rw [UInt8.toNat_ofNat']; omega
  refine ⟨?_, this⟩
  simp only [isDig, this, Bool.and_eq_true, decide_eq_true_eq]; omega
theorem magN_snoc (l : Str) (c : UInt8) (a : Nat) : magN a (l ++ [c]) = 10 * magN a l + (c.toNat - 48) := by
  simp [magN, List.foldl_append]
theorem decD_small {n : Nat} (h : n < 10) : Lib.decDigits n = [UInt8.ofNat (48 + n)] := by rw [Lib.decDigits, dif_pos h]
theorem decD_big {n : Nat} (h : ¬ n < 10) : Lib.decDigits n = Lib.decDigits (n / 10) ++ [UInt8.ofNat (48 + n % 10)] := by rw [Lib.decDigits, dif_neg h]
theorem decD_spec (n : Nat) : (Lib.decDigits n).all isDig = true ∧ magN 0 (Lib.decDigits n) = n ∧ Lib.decDigits n ≠ [] ∧ (n ≠ 0 → (Lib.decDigits n).head? ≠ some 48) ∧ ∀ k, 1 ≤ k → (n < 10 ^ k ↔ (Lib.decDigits n).length ≤ k) := by
  induction n using Nat.strongRecOn with
  | ind n ih =>
    by_cases h : n < 10
    · rw [decD_small h]
      obtain ⟨d1, d2⟩ := dig_of n h
      generalize UInt8.ofNat (48 + n) = c at d1 d2 ⊢
      refine ⟨by simp [d1], by simp only [magN, List.foldl_cons, List.foldl_nil, d2]; omega, by simp, fun h0 e => ?_, fun k hk => ?_⟩
      · simp only [List.head?_cons, Option.some.injEq] at e
        rw [e] at d2
        have : (48 : UInt8).toNat = 48 := by decide
        omega
      · have : 10 ^ 1 ≤ 10 ^ k := Nat.pow_le_pow_right (by decide) hk
        simp only [List.length_cons, List.length_nil]
        omega
    · obtain ⟨i1, i2, i3, i4, i5⟩ := ih (n / 10) (by omega)
      obtain ⟨d1, d2⟩ := dig_of (n % 10) (by omega)
      rw [decD_big h]
      generalize UInt8.ofNat (48 + n % 10) = c at d1 d2 ⊢
      refine ⟨?_, ?_, by simp, fun _ => ?_, fun k hk => ?_⟩
      · rw [List.all_append, i1]; simp [d1]
      · rw [magN_snoc, i2, d2]; omega
      · have := i4 (by omega)
        cases e : Lib.decDigits (n / 10) with
        | nil => exact absurd e i3
        | cons c r => rw [e] at this; simpa using this
      · rw [List.length_append, List.length_singleton]
        by_cases h1 : k = 1
        · subst h1
          have : 0 < (Lib.decDigits (n / 10)).length := List.length_pos_iff.2 i3
          omega
        · have := i5 (k - 1) (by omega)
          have e : 10 ^ k = 10 * 10 ^ (k - 1) := by
            obtain ⟨j, rfl⟩ : ∃ j, k = j + 1 := ⟨k - 1, by omega⟩
            rw [Nat.pow_succ, Nat.add_sub_cancel, Nat.mul_comm]
          rw [e]
          constructor
          · intro hlt
            have : n / 10 < 10 ^ (k - 1) := by omega
            omega
          · intro hle
            have : n / 10 < 10 ^ (k - 1) := by omega
            omega
theorem magTx_minus (d : Str) : magTx (45 :: d) = d := by simp [magTx]

end Go.Proofs.YtjmldnpdfnklcaaDoor

namespace Go.Proofs.YtjmldnpdfnklcaaDoor



end Go.Proofs.YtjmldnpdfnklcaaDoor

namespace Go.Proofs.YtjmldnpdfnklcaaDoor

/-- Words, byte by byte: w is what has been read of the present one. -/
def wordsR : Str → Str → List Str
  | w, [] => if w = [] then [] else [w]
  | w, b :: l => if b = 32 then (if w = [] then [] else [w]) ++ wordsR [] l else wordsR (w ++ [b]) l
theorem wordsR_is : ∀ (l w : Str), wordsR w l = (match splitC 32 l with
    | [] => []
    | x :: xs => (w ++ x) :: xs).filter fun w => decide (w ≠ [])
  | [], w => by
    simp only [wordsR, splitC, List.append_nil]
    by_cases h : w = [] <;> simp [h]
  | b :: l, w => by
    simp only [wordsR, splitC]
    have i1 := wordsR_is l []
    have i2 := wordsR_is l (w ++ [b])
    by_cases hb : b = 32
    · rw [if_pos hb, if_pos hb, i1]
      cases h : splitC 32 l with
      | nil => exact absurd h (splitC_ne 32 l)
      | cons x xs =>
        simp only [List.append_nil, List.nil_append]
        by_cases hw : w = [] <;> simp [hw]
    · rw [if_neg hb, if_neg hb, i2]
      cases h : splitC 32 l with
      | nil => exact absurd h (splitC_ne 32 l)
      | cons x xs => simp [List.append_assoc]
theorem wordsR_tx (l : Str) : wordsR [] l = wordsTx l := by
  rw [wordsR_is]
  cases h : splitC 32 l with
  | nil => exact absurd h (splitC_ne 32 l)
  | cons x xs =>
    simp only [wordsTx, h, List.nil_append]
/-- A text up to its first end of a line. -/
def lineP : Str → Str
  | [] => []
  | b :: l => if b = 10 then [] else b :: lineP l
theorem lineP_len : ∀ l : Str, (lineP l).length ≤ l.length
  | [] => Nat.le_refl _
  | b :: l => by
    simp only [lineP]
    split
    · simp
    · have := lineP_len l; simp; omega
theorem lineP_get : ∀ {l : Str} {j : Nat}, j < (lineP l).length → ∃ b, l[j]? = some b ∧ b ≠ 10
  | [], j, h => by simp [lineP] at h
  | b :: l, j, h => by
    simp only [lineP] at h
    split at h
    · simp at h
    · rename_i hb
      cases j with
      | zero => exact ⟨b, rfl, hb⟩
      | succ j =>
        obtain ⟨c, h1, h2⟩ := lineP_get (l := l) (j := j) (by simp at h; omega)
        exact ⟨c, by simpa using h1, h2⟩
theorem lineP_end : ∀ {l : Str}, (lineP l).length < l.length → l[(lineP l).length]? = some 10
  | [], h => by simp [lineP] at h
  | b :: l, h => by
    simp only [lineP] at h ⊢
    split
    · rename_i hb; simp [hb]
    · rename_i hb
      rw [if_neg hb] at h
      have := lineP_end (l := l) (by simp at h; omega)
      simpa using this
theorem lineP_take : ∀ l : Str, l.take (lineP l).length = lineP l
  | [] => rfl
  | b :: l => by
    simp only [lineP]
    split
    · rfl
    · rw [List.length_cons, List.take_succ_cons, lineP_take l]
/-- Lines, without an empty one at the end. -/
def linesR : Nat → Str → List Str
  | 0, _ => []
  | _, [] => []
  | k + 1, l => lineP l :: linesR k (l.drop ((lineP l).length + 1))
theorem splitC_take : ∀ (l : Str), splitC 10 l = lineP l :: (if (lineP l).length < l.length then splitC 10 (l.drop ((lineP l).length + 1)) else [])
  | [] => rfl
  | b :: l => by
    have ih := splitC_take l
    simp only [splitC]
    by_cases hb : b = 10
    · subst hb
      simp [lineP]
    · rw [if_neg hb, ih]
      have ht : lineP (b :: l) = b :: lineP l := by rw [lineP, if_neg hb]
      rw [ht]
      simp only [List.length_cons, Nat.add_lt_add_iff_right, List.drop_succ_cons]
theorem words_nil : wordsTx [] = [] := rfl
theorem parse_lines {α : Type} (f : List Str → Option α) : ∀ (k : Nat) (l : Str), l.length ≤ k → parseL f (linesR k l) = parseL f (splitC 10 l)
  | 0, l, h => by
    have : l = [] := List.eq_nil_of_length_eq_zero (by omega)
    subst this
    simp [linesR, splitC, parseL, words_nil]
  | k + 1, [], _ => by simp [linesR, splitC, parseL, words_nil]
  | k + 1, b :: l, h => by
    rw [splitC_take (b :: l)]
    simp only [linesR]
    have hl : ((b :: l).drop ((lineP (b :: l)).length + 1)).length ≤ k := by
      rw [List.length_drop]; simp only [List.length_cons] at h ⊢; omega
    have ih := parse_lines f k _ hl
    by_cases hc : (lineP (b :: l)).length < (b :: l).length
    · rw [if_pos hc]
      simp only [parseL, ih]
    · rw [if_neg hc]
      have : (b :: l).drop ((lineP (b :: l)).length + 1) = [] := List.drop_eq_nil_of_le (by omega)
      rw [this]
      have : linesR k [] = [] := by cases k <;> rfl
      rw [this]
/-- Numbers of words. -/
def numsTx : List Str → Option (List Int)
  | [] => some []
  | w :: ws => match numTx w with
    | none => none
    | some n => (numsTx ws).map (n :: ·)

end Go.Proofs.YtjmldnpdfnklcaaDoor

namespace Go.Proofs.YtjmldnpdfnklcaaDoor

theorem byte_is {b c : UInt8} {n : Int} (h : (c.toNat : Int) = n) : decide ((b.toNat : Int) = n) = decide (b = c) := by
  rw [← h]
  by_cases e : b = c
  · subst e; simp
  · have : ¬ ((b.toNat : Int) = (c.toNat : Int)) := fun h => e (u8_eq.1 h)
    simp [e, this]
/-- Behind a slice of texts of one's own: one more. -/
theorem app_str {b : Nat} {H : AHeap} {o : AV} {acc : List Str} (hbn : b ≤ H.next) (hb : H.base ≤ b) (O : Own b H o 1 (acc.map T)) (hl : acc.length ≤ 1000000) (w : Str) :
    ∃ o' H', (∀ {β : Type} (k : AV → AHeap → Option β), bnd (bs 37 1 [(0, T w)] H) (fun v H => bnd (app 9 1 16 o v H) k) = k o' H') ∧ Own b H' o' 1 ((acc ++ [w]).map T) ∧ Step b H H' := by
  let ob : AObj := .blk 0 9 [T w]
  obtain ⟨o', H', t1, t2, t3⟩ := (O.new ob).step (n := acc.length) (k := 1) (e := 9) (by_ := 16) (y := .sl H.next 0 0 1 1 1 true) (new := [T w]) (by simp only [nNew]; omega) (by simp only [bNew]; exact hb) (by decide) (by simp) (sl_new rfl) (by simp [isCell_T]) (by unfold most; omega) (by unfold most; omega)
  refine ⟨o', H', fun k => ?_, by rw [List.map_append]; exact t2, (Step.new ob hbn).trans t3⟩
  have eb := bsl_one (e := 9) (m := 1) (z := [zS]) (v := T w) (H := H) rfl rfl rfl
  rw [cells_T] at eb
  have eb' : bs 37 1 [(0, T w)] H = some (.sl H.next 0 0 1 1 1 true, H.new ob) := (bs_37 (n := 1) (by decide)).trans eb
  rw [eb', bnd_some, t1, bnd_some]
theorem rwords_sp (H : AHeap) {l : Str} (h : l.length ≤ 100000) : ∃ y, cl 23 [T l] H = some (y, H) ∧ StrsIs y (wordsTx l) := by
  have key : ∀ (k j : Nat), j + k = l.length → ∀ (Hi : AHeap) (o : AV) (acc : List Str) (w : Str), acc.length ≤ j → w.length ≤ j → Own H.next Hi o 1 (acc.map T) → Step H.next H.guard Hi →
      ∃ y Hz, lp_23x0 cl [T l, o, T w, I j] Hi = some (y, Hz) ∧ Own H.next Hz y 1 ((acc ++ wordsR w (l.drop j)).map T) := by
    intro k
    induction k with
    | zero =>
      intro j hj Hi o acc w ha hw O s
      have h1 : (j : Int) ≤ (l.length : Int) := by omega
      have h2 : ¬ (j : Int) < (l.length : Int) := by omega
      have h3 : ¬ (j : Int) + 1 ≤ (l.length : Int) := by omega
      have h6 : (j : Int) + 1 = ((j + 1 : Nat) : Int) := by omega
      have h7 := wrap_i64 (a := ((j + 1 : Nat) : Int)) (by omega) (by omega)
      rw [h6] at h3
      have sb : Hi.base = H.next := s.base
      have sn : H.next ≤ Hi.next := s.next
      have fin : ∀ (o : AV) (Hi : AHeap), lp_23x0 cl [T l, o, T [], I ((j + 1 : Nat) : Int)] Hi = some (o, Hi) := fun o Hi => by
        rw [le_23x0]
        simp -implicitDefEqProofs only [Nat.reduceLT, bnd_some, bo_some, condK_true, condK_false, gdA_undef, decide_true, decide_false, Int.reduceLE, Int.reduceLT, Int.reduceEq, Int.reduceNeg, Int.reduceAdd, gd_tt, gd_tf, gd_ft, gd_ff, unG_pure, lift_some, bnd_lift, Option.map_some, Option.bind_some, fieldPtr_ref, fieldPtr_ip, nil_ref, nil_ip, nil_fn, ex_tup, fl_agg, List.getElem?_cons_zero, List.getElem?_cons_succ, Nat.zero_add, Nat.add_zero, Nat.reduceAdd, pk_t, pk_f, lss_int, leq_int, gtr_int, geq_int, eql_int, neq_int, not_bool, beq_self_eq_true, if_true, Bool.false_eq_true, if_false, List.nil_append, List.cons_append, List.append_nil, alc_eq, mkm_eq, nNew, nPut, bNew, bPut, nGrd, bGrd, lnT_T, h3]
      rw [List.drop_eq_nil_of_le (by omega)]
      simp only [wordsR]
      by_cases h0 : w = []
      · subst h0
        refine ⟨o, Hi, ?_, by simpa using O⟩
        rw [le_23x0]
        simp -implicitDefEqProofs only [Nat.reduceLT, bnd_some, bo_some, condK_true, condK_false, gdA_undef, decide_true, decide_false, Int.reduceLE, Int.reduceLT, Int.reduceEq, Int.reduceNeg, Int.reduceAdd, gd_tt, gd_tf, gd_ft, gd_ff, unG_pure, lift_some, bnd_lift, Option.map_some, Option.bind_some, fieldPtr_ref, fieldPtr_ip, nil_ref, nil_ip, nil_fn, ex_tup, fl_agg, List.getElem?_cons_zero, List.getElem?_cons_succ, Nat.zero_add, Nat.add_zero, Nat.reduceAdd, pk_t, pk_f, lss_int, leq_int, gtr_int, geq_int, eql_int, neq_int, not_bool, beq_self_eq_true, if_true, Bool.false_eq_true, if_false, List.nil_append, List.cons_append, List.append_nil, alc_eq, mkm_eq, nNew, nPut, bNew, bPut, nGrd, bGrd, lnT_T, h1, h2, T_str, neq_T, eq_self, Bool.not_true, jn_23x1, jn_23x0, add_int, h6, h7, fin]
      · rw [if_neg h0]
        obtain ⟨o', H', t1, t2, t3⟩ := app_str sn (by omega) O (by omega) w
        refine ⟨o', H', ?_, t2⟩
        rw [le_23x0]
        simp -implicitDefEqProofs only [Nat.reduceLT, bnd_some, bo_some, condK_true, condK_false, gdA_undef, decide_true, decide_false, Int.reduceLE, Int.reduceLT, Int.reduceEq, Int.reduceNeg, Int.reduceAdd, gd_tt, gd_tf, gd_ft, gd_ff, unG_pure, lift_some, bnd_lift, Option.map_some, Option.bind_some, fieldPtr_ref, fieldPtr_ip, nil_ref, nil_ip, nil_fn, ex_tup, fl_agg, List.getElem?_cons_zero, List.getElem?_cons_succ, Nat.zero_add, Nat.add_zero, Nat.reduceAdd, pk_t, pk_f, lss_int, leq_int, gtr_int, geq_int, eql_int, neq_int, not_bool, beq_self_eq_true, if_true, Bool.false_eq_true, if_false, List.nil_append, List.cons_append, List.append_nil, alc_eq, mkm_eq, nNew, nPut, bNew, bPut, nGrd, bGrd, lnT_T, h1, h2, T_str, neq_T, h0, Bool.not_false]
        rw [t1]
        simp -implicitDefEqProofs only [Nat.reduceLT, bnd_some, bo_some, condK_true, condK_false, gdA_undef, decide_true, decide_false, Int.reduceLE, Int.reduceLT, Int.reduceEq, Int.reduceNeg, Int.reduceAdd, gd_tt, gd_tf, gd_ft, gd_ff, unG_pure, lift_some, bnd_lift, Option.map_some, Option.bind_some, fieldPtr_ref, fieldPtr_ip, nil_ref, nil_ip, nil_fn, ex_tup, fl_agg, List.getElem?_cons_zero, List.getElem?_cons_succ, Nat.zero_add, Nat.add_zero, Nat.reduceAdd, pk_t, pk_f, lss_int, leq_int, gtr_int, geq_int, eql_int, neq_int, not_bool, beq_self_eq_true, if_true, Bool.false_eq_true, if_false, List.nil_append, List.cons_append, List.append_nil, alc_eq, mkm_eq, nNew, nPut, bNew, bPut, nGrd, bGrd, jn_23x1, jn_23x0, T_str, add_int, h6, h7, fin]
    | succ k ih =>
      intro j hj Hi o acc w ha hw O s
      have h1 : (j : Int) ≤ (l.length : Int) := by omega
      have h2 : (j : Int) < (l.length : Int) := by omega
      have hl : j < l.length := by omega
      have h6 : (j : Int) + 1 = ((j + 1 : Nat) : Int) := by omega
      have h7 := wrap_i64 (a := ((j + 1 : Nat) : Int)) (by omega) (by omega)
      have sb : Hi.base = H.next := s.base
      have sn : H.next ≤ Hi.next := s.next
      have i1 : ixT (T l) (I (j : Int)) = some (U8 l[j]) := by rw [ixT_nat, List.getElem?_eq_getElem hl]; rfl
      have b1 := byte_is (b := l[j]) (c := 32) (n := 32) (by decide)
      have c1 : slT (T l) (some (I (j : Int))) (some (I ((j + 1 : Nat) : Int))) = some (T [l[j]]) := by
        rw [slT_T (a := j) (b := j + 1) (by simp [boundA]) (by simp only [boundA]; rw [if_pos (by omega), Int.toNat_natCast]) (by omega) (by omega)]
        rw [List.drop_eq_getElem_cons hl, Nat.add_sub_cancel_left]
        rfl
      have ad := add_T (P := Tryd.prog) (t := 9) (a := w) (b := [l[j]]) (by simp; omega)
      rw [List.drop_eq_getElem_cons hl]
      simp only [wordsR]
      by_cases hb : l[j] = 32
      · rw [if_pos hb]
        have b2 : decide ((l[j].toNat : Int) = 32) = true := by rw [b1]; simp [hb]
        by_cases h0 : w = []
        · subst h0
          obtain ⟨y, Hz, r1, r2⟩ := ih (j + 1) (by omega) Hi o acc [] (by omega) (by simp) O s
          refine ⟨y, Hz, ?_, by simpa using r2⟩
          rw [le_23x0]
          simp -implicitDefEqProofs only [Nat.reduceLT, bnd_some, bo_some, condK_true, condK_false, gdA_undef, decide_true, decide_false, Int.reduceLE, Int.reduceLT, Int.reduceEq, Int.reduceNeg, Int.reduceAdd, gd_tt, gd_tf, gd_ft, gd_ff, unG_pure, lift_some, bnd_lift, Option.map_some, Option.bind_some, fieldPtr_ref, fieldPtr_ip, nil_ref, nil_ip, nil_fn, ex_tup, fl_agg, List.getElem?_cons_zero, List.getElem?_cons_succ, Nat.zero_add, Nat.add_zero, Nat.reduceAdd, pk_t, pk_f, lss_int, leq_int, gtr_int, geq_int, eql_int, neq_int, not_bool, beq_self_eq_true, if_true, Bool.false_eq_true, if_false, List.nil_append, List.cons_append, List.append_nil, alc_eq, mkm_eq, nNew, nPut, bNew, bPut, nGrd, bGrd, lnT_T, h1, h2, i1, b2, T_str, neq_T, eq_self, Bool.not_true, jn_23x1, jn_23x0, add_int, h6, h7, r1]
        · rw [if_neg h0]
          obtain ⟨o', H', t1, t2, t3⟩ := app_str sn (by omega) O (by omega) w
          obtain ⟨y, Hz, r1, r2⟩ := ih (j + 1) (by omega) H' o' (acc ++ [w]) [] (by simp; omega) (by simp) t2 (s.trans t3)
          refine ⟨y, Hz, ?_, by rw [List.append_assoc] at r2; exact r2⟩
          rw [le_23x0]
          simp -implicitDefEqProofs only [Nat.reduceLT, bnd_some, bo_some, condK_true, condK_false, gdA_undef, decide_true, decide_false, Int.reduceLE, Int.reduceLT, Int.reduceEq, Int.reduceNeg, Int.reduceAdd, gd_tt, gd_tf, gd_ft, gd_ff, unG_pure, lift_some, bnd_lift, Option.map_some, Option.bind_some, fieldPtr_ref, fieldPtr_ip, nil_ref, nil_ip, nil_fn, ex_tup, fl_agg, List.getElem?_cons_zero, List.getElem?_cons_succ, Nat.zero_add, Nat.add_zero, Nat.reduceAdd, pk_t, pk_f, lss_int, leq_int, gtr_int, geq_int, eql_int, neq_int, not_bool, beq_self_eq_true, if_true, Bool.false_eq_true, if_false, List.nil_append, List.cons_append, List.append_nil, alc_eq, mkm_eq, nNew, nPut, bNew, bPut, nGrd, bGrd, lnT_T, h1, h2, i1, b2, T_str, neq_T, h0, Bool.not_false, Bool.not_true]
          rw [t1]
          simp -implicitDefEqProofs only [Nat.reduceLT, bnd_some, bo_some, condK_true, condK_false, gdA_undef, decide_true, decide_false, Int.reduceLE, Int.reduceLT, Int.reduceEq, Int.reduceNeg, Int.reduceAdd, gd_tt, gd_tf, gd_ft, gd_ff, unG_pure, lift_some, bnd_lift, Option.map_some, Option.bind_some, fieldPtr_ref, fieldPtr_ip, nil_ref, nil_ip, nil_fn, ex_tup, fl_agg, List.getElem?_cons_zero, List.getElem?_cons_succ, Nat.zero_add, Nat.add_zero, Nat.reduceAdd, pk_t, pk_f, lss_int, leq_int, gtr_int, geq_int, eql_int, neq_int, not_bool, beq_self_eq_true, if_true, Bool.false_eq_true, if_false, List.nil_append, List.cons_append, List.append_nil, alc_eq, mkm_eq, nNew, nPut, bNew, bPut, nGrd, bGrd, jn_23x1, jn_23x0, T_str, add_int, h6, h7, r1]
      · rw [if_neg hb]
        have b2 : decide ((l[j].toNat : Int) = 32) = false := by rw [b1]; simp [hb]
        obtain ⟨y, Hz, r1, r2⟩ := ih (j + 1) (by omega) Hi o acc (w ++ [l[j]]) (by omega) (by simp; omega) O s
        refine ⟨y, Hz, ?_, r2⟩
        rw [le_23x0]
        simp -implicitDefEqProofs only [Nat.reduceLT, bnd_some, bo_some, condK_true, condK_false, gdA_undef, decide_true, decide_false, Int.reduceLE, Int.reduceLT, Int.reduceEq, Int.reduceNeg, Int.reduceAdd, gd_tt, gd_tf, gd_ft, gd_ff, unG_pure, lift_some, bnd_lift, Option.map_some, Option.bind_some, fieldPtr_ref, fieldPtr_ip, nil_ref, nil_ip, nil_fn, ex_tup, fl_agg, List.getElem?_cons_zero, List.getElem?_cons_succ, Nat.zero_add, Nat.add_zero, Nat.reduceAdd, pk_t, pk_f, lss_int, leq_int, gtr_int, geq_int, eql_int, neq_int, not_bool, beq_self_eq_true, if_true, Bool.false_eq_true, if_false, List.nil_append, List.cons_append, List.append_nil, alc_eq, mkm_eq, nNew, nPut, bNew, bPut, nGrd, bGrd, lnT_T, h1, h2, i1, b2, Bool.not_false, add_int, h6, h7, c1, ad, jn_23x0, r1]
  obtain ⟨y, Hz, r1, r2⟩ := key l.length 0 (by omega) H.guard zN [] [] (by simp) (by simp) (.inl ⟨rfl, rfl⟩) (Step.refl _ _)
  rw [List.drop_zero, List.nil_append, wordsR_tx] at r2
  obtain ⟨z, f1, f2⟩ := freeze_ownAny (d := 8) (k := (wordsTx l).length) r2 (by decide) (by simp) (fun y hy => by
    obtain ⟨w, _, rfl⟩ := List.mem_map.1 hy
    exact frz_T)
  refine ⟨z, pure_cl rfl rfl (rn_23 _ _ _ (r := (y, Hz)) ?_) f1, fun H => f2 H⟩
  have r1' : lp_23x0 cl [T l, zN, T [], I 0] H.guard = some (y, Hz) := r1
  simp -implicitDefEqProofs only [Nat.reduceLT, bnd_some, bo_some, condK_true, condK_false, gdA_undef, decide_true, decide_false, Int.reduceLE, Int.reduceLT, Int.reduceEq, Int.reduceNeg, Int.reduceAdd, gd_tt, gd_tf, gd_ft, gd_ff, unG_pure, lift_some, bnd_lift, Option.map_some, Option.bind_some, fieldPtr_ref, fieldPtr_ip, nil_ref, nil_ip, nil_fn, ex_tup, fl_agg, List.getElem?_cons_zero, List.getElem?_cons_succ, Nat.zero_add, Nat.add_zero, Nat.reduceAdd, pk_t, pk_f, lss_int, leq_int, gtr_int, geq_int, eql_int, neq_int, not_bool, beq_self_eq_true, if_true, Bool.false_eq_true, if_false, List.nil_append, List.cons_append, List.append_nil, alc_eq, mkm_eq, nNew, nPut, bNew, bPut, nGrd, bGrd, sh_23, T_str, r1']

end Go.Proofs.YtjmldnpdfnklcaaDoor

namespace Go.Proofs.YtjmldnpdfnklcaaDoor

theorem rlines_sp (H : AHeap) {l : Str} (h : l.length ≤ 100000) : ∃ y, cl 40 [T l] H = some (y, H) ∧ StrsIs y (linesR l.length l) := by
  have scan : ∀ (l : Str), l.length ≤ 100000 → ∀ (o : AV) (Hi : AHeap) (k j : Nat), j + k = (lineP l).length → lp_40x1 cl [T l, o, I j] Hi = lp_40x1 cl [T l, o, I ((lineP l).length : Nat)] Hi := by
    intro l hll o Hi k
    induction k with
    | zero => intro j hj; rw [show j = (lineP l).length by omega]
    | succ k ih =>
      intro j hj
      have hle := lineP_len l
      have h1 : (j : Int) < (l.length : Int) := by omega
      have h6 : (j : Int) + 1 = ((j + 1 : Nat) : Int) := by omega
      have h7 := wrap_i64 (a := ((j + 1 : Nat) : Int)) (by omega) (by omega)
      obtain ⟨b, hb, hne⟩ := lineP_get (l := l) (j := j) (by omega)
      have i1 : ixT (T l) (I (j : Int)) = some (U8 b) := by rw [ixT_nat, hb]; rfl
      have b2 : decide ((b.toNat : Int) = 10) = false := by rw [byte_is (c := 10) (by decide)]; simp [hne]
      have r1 := ih (j + 1) (by omega)
      rw [← r1, le_40x1]
      simp -implicitDefEqProofs only [Nat.reduceLT, bnd_some, bo_some, condK_true, condK_false, gdA_undef, decide_true, decide_false, Int.reduceLE, Int.reduceLT, Int.reduceEq, Int.reduceNeg, Int.reduceAdd, gd_tt, gd_tf, gd_ft, gd_ff, unG_pure, lift_some, bnd_lift, Option.map_some, Option.bind_some, fieldPtr_ref, fieldPtr_ip, nil_ref, nil_ip, nil_fn, ex_tup, fl_agg, List.getElem?_cons_zero, List.getElem?_cons_succ, Nat.zero_add, Nat.add_zero, Nat.reduceAdd, pk_t, pk_f, lss_int, leq_int, gtr_int, geq_int, eql_int, neq_int, not_bool, beq_self_eq_true, if_true, Bool.false_eq_true, if_false, List.nil_append, List.cons_append, List.append_nil, alc_eq, mkm_eq, nNew, nPut, bNew, bPut, nGrd, bGrd, lnT_T, h1, i1, b2, Bool.not_false, add_int, h6, h7]
  have key : ∀ (k : Nat) (l : Str), l.length ≤ k → l.length ≤ 100000 → ∀ (Hi : AHeap) (o : AV) (acc : List Str), acc.length + l.length ≤ 100000 → Own H.next Hi o 1 (acc.map T) → Step H.next H.guard Hi →
      ∃ y Hz, lp_40x0 cl [T l, o] Hi = some (y, Hz) ∧ Own H.next Hz y 1 ((acc ++ linesR k l).map T) := by
    intro k
    induction k with
    | zero =>
      intro l hk hl Hi o acc ha O s
      have h0 : l = [] := List.eq_nil_of_length_eq_zero (by omega)
      subst h0
      refine ⟨o, Hi, ?_, by simpa [linesR] using O⟩
      rw [le_40x0]
      simp -implicitDefEqProofs only [Nat.reduceLT, bnd_some, bo_some, condK_true, condK_false, gdA_undef, decide_true, decide_false, Int.reduceLE, Int.reduceLT, Int.reduceEq, Int.reduceNeg, Int.reduceAdd, gd_tt, gd_tf, gd_ft, gd_ff, unG_pure, lift_some, bnd_lift, Option.map_some, Option.bind_some, fieldPtr_ref, fieldPtr_ip, nil_ref, nil_ip, nil_fn, ex_tup, fl_agg, List.getElem?_cons_zero, List.getElem?_cons_succ, Nat.zero_add, Nat.add_zero, Nat.reduceAdd, pk_t, pk_f, lss_int, leq_int, gtr_int, geq_int, eql_int, neq_int, not_bool, beq_self_eq_true, if_true, Bool.false_eq_true, if_false, List.nil_append, List.cons_append, List.append_nil, alc_eq, mkm_eq, nNew, nPut, bNew, bPut, nGrd, bGrd, lnT_T, List.length_nil, Int.natCast_zero, Int.ofNat_zero, Int.lt_irrefl]
    | succ k ih =>
      intro l hk hl Hi o acc ha O s
      have sb : Hi.base = H.next := s.base
      have sn : H.next ≤ Hi.next := s.next
      by_cases h0 : l = []
      · subst h0
        refine ⟨o, Hi, ?_, by simpa [linesR] using O⟩
        rw [le_40x0]
        simp -implicitDefEqProofs only [Nat.reduceLT, bnd_some, bo_some, condK_true, condK_false, gdA_undef, decide_true, decide_false, Int.reduceLE, Int.reduceLT, Int.reduceEq, Int.reduceNeg, Int.reduceAdd, gd_tt, gd_tf, gd_ft, gd_ff, unG_pure, lift_some, bnd_lift, Option.map_some, Option.bind_some, fieldPtr_ref, fieldPtr_ip, nil_ref, nil_ip, nil_fn, ex_tup, fl_agg, List.getElem?_cons_zero, List.getElem?_cons_succ, Nat.zero_add, Nat.add_zero, Nat.reduceAdd, pk_t, pk_f, lss_int, leq_int, gtr_int, geq_int, eql_int, neq_int, not_bool, beq_self_eq_true, if_true, Bool.false_eq_true, if_false, List.nil_append, List.cons_append, List.append_nil, alc_eq, mkm_eq, nNew, nPut, bNew, bPut, nGrd, bGrd, lnT_T, List.length_nil, Int.natCast_zero, Int.ofNat_zero, Int.lt_irrefl]
      · have hpos : 0 < l.length := List.length_pos_iff.2 h0
        have h1 : (0 : Int) < (l.length : Int) := by omega
        have hp := lineP_len l
        have sc := scan l hl o Hi (lineP l).length 0 (by omega)
        have sc' : lp_40x1 cl [T l, o, I 0] Hi = lp_40x1 cl [T l, o, I ((lineP l).length : Nat)] Hi := sc
        have c1 : slT (T l) none (some (I ((lineP l).length : Nat))) = some (T (lineP l)) := by
          rw [slT_T (a := 0) (b := (lineP l).length) rfl (by simp [boundA]) (by omega) hp, List.drop_zero, Nat.sub_zero, lineP_take]
        have h6 : ((lineP l).length : Int) + 1 = (((lineP l).length + 1 : Nat) : Int) := by omega
        have h7 := wrap_i64 (a := (((lineP l).length + 1 : Nat) : Int)) (by omega) (by omega)
        have c2 : slT (T l) (some (I (min (((lineP l).length + 1 : Nat) : Int) (l.length : Int)))) none = some (T (l.drop ((lineP l).length + 1))) := by
          rw [show min (((lineP l).length + 1 : Nat) : Int) (l.length : Int) = ((min ((lineP l).length + 1) l.length : Nat) : Int) by omega]
          rw [slT_T (a := min ((lineP l).length + 1) l.length) (b := l.length) (by simp only [boundA]; rw [if_pos (by omega), Int.toNat_natCast]) rfl (by omega) (Nat.le_refl _)]
          congr 2
          rw [List.take_of_length_le (by rw [List.length_drop]; exact Nat.le_refl _)]
          rcases Nat.le_total ((lineP l).length + 1) l.length with h | h
          · rw [Nat.min_eq_left h]
          · rw [Nat.min_eq_right h, List.drop_eq_nil_of_le (Nat.le_refl _), List.drop_eq_nil_of_le h]
        obtain ⟨o', H', t1, t2, t3⟩ := app_str sn (by omega) O (by omega) (lineP l)
        have hd : (l.drop ((lineP l).length + 1)).length ≤ k := by rw [List.length_drop]; omega
        obtain ⟨y, Hz, r1, r2⟩ := ih (l.drop ((lineP l).length + 1)) hd (by rw [List.length_drop]; omega) H' o' (acc ++ [lineP l]) (by rw [List.length_append, List.length_drop, List.length_singleton]; omega) t2 (s.trans t3)
        have hL : linesR (k + 1) l = lineP l :: linesR k (l.drop ((lineP l).length + 1)) := by
          cases l with
          | nil => exact absurd rfl h0
          | cons b l => rfl
        refine ⟨y, Hz, ?_, by rw [hL]; rw [List.append_assoc] at r2; exact r2⟩
        rw [le_40x0]
        simp -implicitDefEqProofs only [Nat.reduceLT, bnd_some, bo_some, condK_true, condK_false, gdA_undef, decide_true, decide_false, Int.reduceLE, Int.reduceLT, Int.reduceEq, Int.reduceNeg, Int.reduceAdd, gd_tt, gd_tf, gd_ft, gd_ff, unG_pure, lift_some, bnd_lift, Option.map_some, Option.bind_some, fieldPtr_ref, fieldPtr_ip, nil_ref, nil_ip, nil_fn, ex_tup, fl_agg, List.getElem?_cons_zero, List.getElem?_cons_succ, Nat.zero_add, Nat.add_zero, Nat.reduceAdd, pk_t, pk_f, lss_int, leq_int, gtr_int, geq_int, eql_int, neq_int, not_bool, beq_self_eq_true, if_true, Bool.false_eq_true, if_false, List.nil_append, List.cons_append, List.append_nil, alc_eq, mkm_eq, nNew, nPut, bNew, bPut, nGrd, bGrd, lnT_T, h1]
        rw [sc', le_40x1]
        by_cases hend : (lineP l).length < l.length
        · have h2 : ((lineP l).length : Int) < (l.length : Int) := by omega
          have i1 : ixT (T l) (I ((lineP l).length : Nat)) = some (U8 10) := by rw [ixT_nat, lineP_end hend]; rfl
          have b2 : decide (((10 : UInt8).toNat : Int) = 10) = true := by decide
          simp -implicitDefEqProofs only [Nat.reduceLT, bnd_some, bo_some, condK_true, condK_false, gdA_undef, decide_true, decide_false, Int.reduceLE, Int.reduceLT, Int.reduceEq, Int.reduceNeg, Int.reduceAdd, gd_tt, gd_tf, gd_ft, gd_ff, unG_pure, lift_some, bnd_lift, Option.map_some, Option.bind_some, fieldPtr_ref, fieldPtr_ip, nil_ref, nil_ip, nil_fn, ex_tup, fl_agg, List.getElem?_cons_zero, List.getElem?_cons_succ, Nat.zero_add, Nat.add_zero, Nat.reduceAdd, pk_t, pk_f, lss_int, leq_int, gtr_int, geq_int, eql_int, neq_int, not_bool, beq_self_eq_true, if_true, Bool.false_eq_true, if_false, List.nil_append, List.cons_append, List.append_nil, alc_eq, mkm_eq, nNew, nPut, bNew, bPut, nGrd, bGrd, lnT_T, h2, i1, b2, Bool.not_true, c1]
          rw [t1]
          simp -implicitDefEqProofs only [Nat.reduceLT, bnd_some, bo_some, condK_true, condK_false, gdA_undef, decide_true, decide_false, Int.reduceLE, Int.reduceLT, Int.reduceEq, Int.reduceNeg, Int.reduceAdd, gd_tt, gd_tf, gd_ft, gd_ff, unG_pure, lift_some, bnd_lift, Option.map_some, Option.bind_some, fieldPtr_ref, fieldPtr_ip, nil_ref, nil_ip, nil_fn, ex_tup, fl_agg, List.getElem?_cons_zero, List.getElem?_cons_succ, Nat.zero_add, Nat.add_zero, Nat.reduceAdd, pk_t, pk_f, lss_int, leq_int, gtr_int, geq_int, eql_int, neq_int, not_bool, beq_self_eq_true, if_true, Bool.false_eq_true, if_false, List.nil_append, List.cons_append, List.append_nil, alc_eq, mkm_eq, nNew, nPut, bNew, bPut, nGrd, bGrd, add_int, h6, h7, lnT_T, min_int, c2, r1]
        · have h2 : ¬ ((lineP l).length : Int) < (l.length : Int) := by omega
          simp -implicitDefEqProofs only [Nat.reduceLT, bnd_some, bo_some, condK_true, condK_false, gdA_undef, decide_true, decide_false, Int.reduceLE, Int.reduceLT, Int.reduceEq, Int.reduceNeg, Int.reduceAdd, gd_tt, gd_tf, gd_ft, gd_ff, unG_pure, lift_some, bnd_lift, Option.map_some, Option.bind_some, fieldPtr_ref, fieldPtr_ip, nil_ref, nil_ip, nil_fn, ex_tup, fl_agg, List.getElem?_cons_zero, List.getElem?_cons_succ, Nat.zero_add, Nat.add_zero, Nat.reduceAdd, pk_t, pk_f, lss_int, leq_int, gtr_int, geq_int, eql_int, neq_int, not_bool, beq_self_eq_true, if_true, Bool.false_eq_true, if_false, List.nil_append, List.cons_append, List.append_nil, alc_eq, mkm_eq, nNew, nPut, bNew, bPut, nGrd, bGrd, lnT_T, h2, c1]
          rw [t1]
          simp -implicitDefEqProofs only [Nat.reduceLT, bnd_some, bo_some, condK_true, condK_false, gdA_undef, decide_true, decide_false, Int.reduceLE, Int.reduceLT, Int.reduceEq, Int.reduceNeg, Int.reduceAdd, gd_tt, gd_tf, gd_ft, gd_ff, unG_pure, lift_some, bnd_lift, Option.map_some, Option.bind_some, fieldPtr_ref, fieldPtr_ip, nil_ref, nil_ip, nil_fn, ex_tup, fl_agg, List.getElem?_cons_zero, List.getElem?_cons_succ, Nat.zero_add, Nat.add_zero, Nat.reduceAdd, pk_t, pk_f, lss_int, leq_int, gtr_int, geq_int, eql_int, neq_int, not_bool, beq_self_eq_true, if_true, Bool.false_eq_true, if_false, List.nil_append, List.cons_append, List.append_nil, alc_eq, mkm_eq, nNew, nPut, bNew, bPut, nGrd, bGrd, add_int, h6, h7, lnT_T, min_int, c2, r1]
  obtain ⟨y, Hz, r1, r2⟩ := key l.length l (Nat.le_refl _) h H.guard zN [] (by simpa using h) (.inl ⟨rfl, rfl⟩) (Step.refl _ _)
  rw [List.nil_append] at r2
  obtain ⟨z, f1, f2⟩ := freeze_ownAny (d := 8) (k := (linesR l.length l).length) r2 (by decide) (by simp) (fun y hy => by
    obtain ⟨w, _, rfl⟩ := List.mem_map.1 hy
    exact frz_T)
  refine ⟨z, pure_cl rfl rfl (rn_40 _ _ _ (r := (y, Hz)) ?_) f1, fun H => f2 H⟩
  simp -implicitDefEqProofs only [Nat.reduceLT, bnd_some, bo_some, condK_true, condK_false, gdA_undef, decide_true, decide_false, Int.reduceLE, Int.reduceLT, Int.reduceEq, Int.reduceNeg, Int.reduceAdd, gd_tt, gd_tf, gd_ft, gd_ff, unG_pure, lift_some, bnd_lift, Option.map_some, Option.bind_some, fieldPtr_ref, fieldPtr_ip, nil_ref, nil_ip, nil_fn, ex_tup, fl_agg, List.getElem?_cons_zero, List.getElem?_cons_succ, Nat.zero_add, Nat.add_zero, Nat.reduceAdd, pk_t, pk_f, lss_int, leq_int, gtr_int, geq_int, eql_int, neq_int, not_bool, beq_self_eq_true, if_true, Bool.false_eq_true, if_false, List.nil_append, List.cons_append, List.append_nil, alc_eq, mkm_eq, nNew, nPut, bNew, bPut, nGrd, bGrd, sh_40, zN_T, r1]
theorem wrap_u8 {a : Int} (h1 : 0 ≤ a) (h2 : a < 256) : IntKind.wrap .u8 a = a := by
  have : ∀ n : Fin 256, IntKind.wrap .u8 (n.val : Int) = (n.val : Int) := by decide +kernel
  obtain ⟨n, rfl⟩ : ∃ n : Nat, a = n := ⟨a.toNat, by omega⟩
  exact this ⟨n, by omega⟩
theorem rnumber_sp (H : AHeap) {l : Str} (h : l.length ≤ 1000000) : cl 20 [T l] H = some (optI (numTx l), H) := by
  refine pure_val rfl rfl (rn_20 _ _ _) ?_ (frz_optI _)
  have hm : (magTx l).length ≤ 1000000 := Nat.le_trans (mag_len l) h
  let neg : Bool := decide (l.head? = some 45)
  -- behind the sign
  have main : (jn_20x0 cl (T (magTx l)) (B neg) H.guard).map Prod.fst = some (optI (numTx l)) := by
    by_cases c1 : magTx l = []
    · have hn : numTx l = none := by unfold numTx; rw [if_pos (.inl c1)]
      rw [hn, c1]
      simp -implicitDefEqProofs only [Nat.reduceLT, bnd_some, bo_some, condK_true, condK_false, gdA_undef, decide_true, decide_false, Int.reduceLE, Int.reduceLT, Int.reduceEq, Int.reduceNeg, Int.reduceAdd, gd_tt, gd_tf, gd_ft, gd_ff, unG_pure, lift_some, bnd_lift, Option.map_some, Option.bind_some, fieldPtr_ref, fieldPtr_ip, nil_ref, nil_ip, nil_fn, ex_tup, fl_agg, List.getElem?_cons_zero, List.getElem?_cons_succ, Nat.zero_add, Nat.add_zero, Nat.reduceAdd, pk_t, pk_f, lss_int, leq_int, gtr_int, geq_int, eql_int, neq_int, not_bool, beq_self_eq_true, if_true, Bool.false_eq_true, if_false, List.nil_append, List.cons_append, List.append_nil, alc_eq, mkm_eq, nNew, nPut, bNew, bPut, nGrd, bGrd, jn_20x0, lnT_T, List.length_nil, Int.natCast_zero, Int.ofNat_zero, optI]
      rfl
    obtain ⟨c, r, hcr⟩ := head_ix c1
    have g1 : ¬ (((magTx l).length : Int) < 1) := by
      have := List.length_pos_iff.2 c1
      omega
    by_cases c2 : 9 < (magTx l).length
    · have hn : numTx l = none := by unfold numTx; rw [if_pos (.inr (.inl c2))]
      have c2' : (9 : Int) < ((magTx l).length : Nat) := by omega
      rw [hn]
      simp -implicitDefEqProofs only [Nat.reduceLT, bnd_some, bo_some, condK_true, condK_false, gdA_undef, decide_true, decide_false, Int.reduceLE, Int.reduceLT, Int.reduceEq, Int.reduceNeg, Int.reduceAdd, gd_tt, gd_tf, gd_ft, gd_ff, unG_pure, lift_some, bnd_lift, Option.map_some, Option.bind_some, fieldPtr_ref, fieldPtr_ip, nil_ref, nil_ip, nil_fn, ex_tup, fl_agg, List.getElem?_cons_zero, List.getElem?_cons_succ, Nat.zero_add, Nat.add_zero, Nat.reduceAdd, pk_t, pk_f, lss_int, leq_int, gtr_int, geq_int, eql_int, neq_int, not_bool, beq_self_eq_true, if_true, Bool.false_eq_true, if_false, List.nil_append, List.cons_append, List.append_nil, alc_eq, mkm_eq, nNew, nPut, bNew, bPut, nGrd, bGrd, jn_20x0, lnT_T, g1, c2', optI]
      rfl
    have c2' : ¬ (9 : Int) < ((magTx l).length : Nat) := by omega
    have i1 : ixT (T (magTx l)) (I 0) = some (U8 c) := by rw [hcr, ixT_T (by omega)]; rfl
    have bc := byte_is (b := c) (c := 48) (n := 48) (by decide)
    -- the digits
    have dig : ∀ k j : Nat, j + k = (magTx l).length → ∀ acc : Nat, acc < 10 ^ j → ((magTx l).take j).all isDig = true → magN 0 ((magTx l).take j) = acc → ((numTx l = none) ↔ (magTx l).all isDig = false) → (numTx l ≠ none → numTx l = some (if l.head? = some 45 then -(magN 0 (magTx l) : Int) else (magN 0 (magTx l) : Int))) →
        (lp_20x0 cl [T (magTx l), B neg, I acc, I j] H.guard).map Prod.fst = some (optI (numTx l)) := by
      intro k
      induction k with
      | zero =>
        intro j hj acc ha hd hv hnone hsome
        have h1 : ¬ (j : Int) < ((magTx l).length : Int) := by omega
        rw [List.take_of_length_le (by omega)] at hd hv
        have hne : numTx l ≠ none := fun e => by rw [hnone.1 e] at hd; cases hd
        have hlt : acc < 10 ^ 9 := Nat.lt_of_lt_of_le ha (Nat.pow_le_pow_right (by decide) (by omega))
        have u := neg_int (P := Tryd.prog) (k := .i64) (a := (acc : Int))
        rw [Int.zero_sub, wrap_i64 (by omega) (by omega)] at u
        have u' : un .neg (I (acc : Int)) = some (I (-(acc : Int))) := u
        rw [hsome hne, hv]
        rw [le_20x0]
        by_cases hh : l.head? = some 45
        · have hneg : neg = true := by simp [neg, hh]
          rw [if_pos hh]
          simp -implicitDefEqProofs only [Nat.reduceLT, bnd_some, bo_some, condK_true, condK_false, gdA_undef, decide_true, decide_false, Int.reduceLE, Int.reduceLT, Int.reduceEq, Int.reduceNeg, Int.reduceAdd, gd_tt, gd_tf, gd_ft, gd_ff, unG_pure, lift_some, bnd_lift, Option.map_some, Option.bind_some, fieldPtr_ref, fieldPtr_ip, nil_ref, nil_ip, nil_fn, ex_tup, fl_agg, List.getElem?_cons_zero, List.getElem?_cons_succ, Nat.zero_add, Nat.add_zero, Nat.reduceAdd, pk_t, pk_f, lss_int, leq_int, gtr_int, geq_int, eql_int, neq_int, not_bool, beq_self_eq_true, if_true, Bool.false_eq_true, if_false, List.nil_append, List.cons_append, List.append_nil, alc_eq, mkm_eq, nNew, nPut, bNew, bPut, nGrd, bGrd, lnT_T, h1, hneg, u', jn_20x1, optI]
          rfl
        · have hneg : neg = false := by simp [neg, hh]
          rw [if_neg hh]
          simp -implicitDefEqProofs only [Nat.reduceLT, bnd_some, bo_some, condK_true, condK_false, gdA_undef, decide_true, decide_false, Int.reduceLE, Int.reduceLT, Int.reduceEq, Int.reduceNeg, Int.reduceAdd, gd_tt, gd_tf, gd_ft, gd_ff, unG_pure, lift_some, bnd_lift, Option.map_some, Option.bind_some, fieldPtr_ref, fieldPtr_ip, nil_ref, nil_ip, nil_fn, ex_tup, fl_agg, List.getElem?_cons_zero, List.getElem?_cons_succ, Nat.zero_add, Nat.add_zero, Nat.reduceAdd, pk_t, pk_f, lss_int, leq_int, gtr_int, geq_int, eql_int, neq_int, not_bool, beq_self_eq_true, if_true, Bool.false_eq_true, if_false, List.nil_append, List.cons_append, List.append_nil, alc_eq, mkm_eq, nNew, nPut, bNew, bPut, nGrd, bGrd, lnT_T, h1, hneg, jn_20x1, optI]
          rfl
      | succ k ih =>
        intro j hj acc ha hd hv hnone hsome
        have h1 : (j : Int) < ((magTx l).length : Int) := by omega
        have hl : j < (magTx l).length := by omega
        have h6 : (j : Int) + 1 = ((j + 1 : Nat) : Int) := by omega
        have h7 := wrap_i64 (a := ((j + 1 : Nat) : Int)) (by omega) (by omega)
        have i2 : ixT (T (magTx l)) (I (j : Int)) = some (U8 (magTx l)[j]) := by rw [ixT_nat, List.getElem?_eq_getElem hl]; rfl
        have ht : (magTx l).take (j + 1) = (magTx l).take j ++ [(magTx l)[j]] := by rw [List.take_add_one, List.getElem?_eq_getElem hl]; rfl
        rw [le_20x0]
        cases hdg : isDig (magTx l)[j] with
        | false =>
          have hall : (magTx l).all isDig = false := by
            rw [List.all_eq_false]
            exact ⟨_, List.getElem_mem hl, by simp [hdg]⟩
          rw [hnone.2 hall]
          by_cases hlo : (((magTx l)[j].toNat : Int) < 48)
          · simp -implicitDefEqProofs only [Nat.reduceLT, bnd_some, bo_some, condK_true, condK_false, gdA_undef, decide_true, decide_false, Int.reduceLE, Int.reduceLT, Int.reduceEq, Int.reduceNeg, Int.reduceAdd, gd_tt, gd_tf, gd_ft, gd_ff, unG_pure, lift_some, bnd_lift, Option.map_some, Option.bind_some, fieldPtr_ref, fieldPtr_ip, nil_ref, nil_ip, nil_fn, ex_tup, fl_agg, List.getElem?_cons_zero, List.getElem?_cons_succ, Nat.zero_add, Nat.add_zero, Nat.reduceAdd, pk_t, pk_f, lss_int, leq_int, gtr_int, geq_int, eql_int, neq_int, not_bool, beq_self_eq_true, if_true, Bool.false_eq_true, if_false, List.nil_append, List.cons_append, List.append_nil, alc_eq, mkm_eq, nNew, nPut, bNew, bPut, nGrd, bGrd, lnT_T, h1, i2, hlo, optI]
            rfl
          · have hhi : (57 : Int) < ((magTx l)[j].toNat : Int) := by
              simp only [isDig, Bool.and_eq_false_iff, decide_eq_false_iff_not] at hdg
              omega
            simp -implicitDefEqProofs only [Nat.reduceLT, bnd_some, bo_some, condK_true, condK_false, gdA_undef, decide_true, decide_false, Int.reduceLE, Int.reduceLT, Int.reduceEq, Int.reduceNeg, Int.reduceAdd, gd_tt, gd_tf, gd_ft, gd_ff, unG_pure, lift_some, bnd_lift, Option.map_some, Option.bind_some, fieldPtr_ref, fieldPtr_ip, nil_ref, nil_ip, nil_fn, ex_tup, fl_agg, List.getElem?_cons_zero, List.getElem?_cons_succ, Nat.zero_add, Nat.add_zero, Nat.reduceAdd, pk_t, pk_f, lss_int, leq_int, gtr_int, geq_int, eql_int, neq_int, not_bool, beq_self_eq_true, if_true, Bool.false_eq_true, if_false, List.nil_append, List.cons_append, List.append_nil, alc_eq, mkm_eq, nNew, nPut, bNew, bPut, nGrd, bGrd, lnT_T, h1, i2, hlo, hhi, optI]
            rfl
        | true =>
          have hr := dig_rng hdg
          have hlo : ¬ (((magTx l)[j].toNat : Int) < 48) := by omega
          have hhi : ¬ ((57 : Int) < ((magTx l)[j].toNat : Int)) := by omega
          have hlt : acc < 10 ^ 9 := Nat.lt_of_lt_of_le ha (Nat.pow_le_pow_right (by decide) (by omega))
          have m1 : (10 : Int) * (acc : Int) = ((10 * acc : Nat) : Int) := by omega
          have m2 := wrap_i64 (a := ((10 * acc : Nat) : Int)) (by omega) (by omega)
          have s1 : ((magTx l)[j].toNat : Int) - 48 = (((magTx l)[j].toNat - 48 : Nat) : Int) := by omega
          have s2 := wrap_u8 (a := (((magTx l)[j].toNat - 48 : Nat) : Int)) (by omega) (by omega)
          have cc : cv 5 3 (.s (.int .u8 (((magTx l)[j].toNat - 48 : Nat) : Int))) H.guard = some (I (((magTx l)[j].toNat - 48 : Nat) : Int), H.guard) := by
            have := cv_int (P := Tryd.prog) (s := 5) (d := 3) (k := .u8) (n := (((magTx l)[j].toNat - 48 : Nat) : Int)) (H := H.guard) (by kernel_rfl) Tryd.underlying5 Tryd.underlying3
            rw [wrap_i64 (by omega) (by omega)] at this
            exact this
          have a1 : ((10 * acc : Nat) : Int) + (((magTx l)[j].toNat - 48 : Nat) : Int) = ((10 * acc + ((magTx l)[j].toNat - 48) : Nat) : Int) := by omega
          have a2 := wrap_i64 (a := ((10 * acc + ((magTx l)[j].toNat - 48) : Nat) : Int)) (by omega) (by omega)
          have r1 := ih (j + 1) (by omega) (10 * acc + ((magTx l)[j].toNat - 48)) (by rw [Nat.pow_succ]; omega) (by rw [ht, List.all_append, hd]; simp [hdg]) (by rw [ht, magN_snoc, hv]) hnone hsome
          simp -implicitDefEqProofs only [Nat.reduceLT, bnd_some, bo_some, condK_true, condK_false, gdA_undef, decide_true, decide_false, Int.reduceLE, Int.reduceLT, Int.reduceEq, Int.reduceNeg, Int.reduceAdd, gd_tt, gd_tf, gd_ft, gd_ff, unG_pure, lift_some, bnd_lift, Option.map_some, Option.bind_some, fieldPtr_ref, fieldPtr_ip, nil_ref, nil_ip, nil_fn, ex_tup, fl_agg, List.getElem?_cons_zero, List.getElem?_cons_succ, Nat.zero_add, Nat.add_zero, Nat.reduceAdd, pk_t, pk_f, lss_int, leq_int, gtr_int, geq_int, eql_int, neq_int, not_bool, beq_self_eq_true, if_true, Bool.false_eq_true, if_false, List.nil_append, List.cons_append, List.append_nil, alc_eq, mkm_eq, nNew, nPut, bNew, bPut, nGrd, bGrd, lnT_T, h1, i2, hlo, hhi, mul_int, m1, m2, sub_int, s1, s2, cc, add_int, a1, a2, h6, h7]
          exact r1
    by_cases c4 : c = 48
    · have b2 : decide ((c.toNat : Int) = 48) = true := by rw [bc]; simp [c4]
      by_cases c5 : l = [48]
      · have hn : numTx l = some 0 := by subst c5; rfl
        have hd := dig 1 0 (by subst c5; rfl) 0 (by decide) rfl rfl (by subst c5; decide +kernel) (by subst c5; intro _; decide +kernel)
        have hneg : neg = false := by simp only [neg]; subst c5; decide
        have g3 : ¬ ((1 : Int) < ((magTx l).length : Nat)) := by subst c5; decide
        rw [hneg] at hd ⊢
        have hd' : (lp_20x0 cl [T (magTx l), B false, I 0, I 0] H.guard).map Prod.fst = some (optI (numTx l)) := hd
        simp -implicitDefEqProofs only [Nat.reduceLT, bnd_some, bo_some, condK_true, condK_false, gdA_undef, decide_true, decide_false, Int.reduceLE, Int.reduceLT, Int.reduceEq, Int.reduceNeg, Int.reduceAdd, gd_tt, gd_tf, gd_ft, gd_ff, unG_pure, lift_some, bnd_lift, Option.map_some, Option.bind_some, fieldPtr_ref, fieldPtr_ip, nil_ref, nil_ip, nil_fn, ex_tup, fl_agg, List.getElem?_cons_zero, List.getElem?_cons_succ, Nat.zero_add, Nat.add_zero, Nat.reduceAdd, pk_t, pk_f, lss_int, leq_int, gtr_int, geq_int, eql_int, neq_int, not_bool, beq_self_eq_true, if_true, Bool.false_eq_true, if_false, List.nil_append, List.cons_append, List.append_nil, alc_eq, mkm_eq, nNew, nPut, bNew, bPut, nGrd, bGrd, jn_20x0, lnT_T, g1, c2', i1, b2, g3]
        exact hd'
      · have hn : numTx l = none := by unfold numTx; rw [if_pos (.inr (.inr (.inr ⟨by rw [hcr, c4]; rfl, c5⟩)))]
        rw [hn]
        by_cases g3 : (1 : Int) < ((magTx l).length : Nat)
        · simp -implicitDefEqProofs only [Nat.reduceLT, bnd_some, bo_some, condK_true, condK_false, gdA_undef, decide_true, decide_false, Int.reduceLE, Int.reduceLT, Int.reduceEq, Int.reduceNeg, Int.reduceAdd, gd_tt, gd_tf, gd_ft, gd_ff, unG_pure, lift_some, bnd_lift, Option.map_some, Option.bind_some, fieldPtr_ref, fieldPtr_ip, nil_ref, nil_ip, nil_fn, ex_tup, fl_agg, List.getElem?_cons_zero, List.getElem?_cons_succ, Nat.zero_add, Nat.add_zero, Nat.reduceAdd, pk_t, pk_f, lss_int, leq_int, gtr_int, geq_int, eql_int, neq_int, not_bool, beq_self_eq_true, if_true, Bool.false_eq_true, if_false, List.nil_append, List.cons_append, List.append_nil, alc_eq, mkm_eq, nNew, nPut, bNew, bPut, nGrd, bGrd, jn_20x0, lnT_T, g1, c2', i1, b2, g3, optI]
          rfl
        · have hneg : neg = true := by
            simp only [neg]
            by_cases hh : l.head? = some 45
            · simp [hh]
            · have e : magTx l = l := by unfold magTx; rw [if_neg hh]
              exfalso
              apply c5
              rw [e] at hcr g3
              rw [hcr] at g3 ⊢
              have : r = [] := List.eq_nil_of_length_eq_zero (by simp at g3; omega)
              rw [this, c4]
          rw [hneg]
          simp -implicitDefEqProofs only [Nat.reduceLT, bnd_some, bo_some, condK_true, condK_false, gdA_undef, decide_true, decide_false, Int.reduceLE, Int.reduceLT, Int.reduceEq, Int.reduceNeg, Int.reduceAdd, gd_tt, gd_tf, gd_ft, gd_ff, unG_pure, lift_some, bnd_lift, Option.map_some, Option.bind_some, fieldPtr_ref, fieldPtr_ip, nil_ref, nil_ip, nil_fn, ex_tup, fl_agg, List.getElem?_cons_zero, List.getElem?_cons_succ, Nat.zero_add, Nat.add_zero, Nat.reduceAdd, pk_t, pk_f, lss_int, leq_int, gtr_int, geq_int, eql_int, neq_int, not_bool, beq_self_eq_true, if_true, Bool.false_eq_true, if_false, List.nil_append, List.cons_append, List.append_nil, alc_eq, mkm_eq, nNew, nPut, bNew, bPut, nGrd, bGrd, jn_20x0, lnT_T, g1, c2', i1, b2, g3, optI]
          rfl
    · have b2 : decide ((c.toNat : Int) = 48) = false := by rw [bc]; simp [c4]
      have ex : numTx l = if (magTx l).all isDig = false then none else some (if l.head? = some 45 then -numMagTx (magTx l) else numMagTx (magTx l)) := by
        unfold numTx
        by_cases hall : (magTx l).all isDig = false
        · rw [if_pos hall, if_pos (.inr (.inr (.inl hall)))]
        · rw [if_neg hall, if_neg]
          rintro (e | e | e | ⟨e, _⟩)
          · exact c1 e
          · exact c2 e
          · exact hall e
          · rw [hcr] at e; exact c4 (by simpa using e)
      have hd := dig (magTx l).length 0 (by omega) 0 (by decide) rfl rfl (by
        rw [ex]
        split
        · rename_i e; exact ⟨fun _ => e, fun _ => rfl⟩
        · rename_i e; exact ⟨fun h => (by cases h), fun h => absurd h e⟩) (by
        rw [ex]
        intro hne
        split
        · rename_i e; rw [if_pos e] at hne; exact absurd rfl hne
        · rename_i e
          have e2 : (magTx l).all isDig = true := by
            cases e3 : (magTx l).all isDig with
            | true => rfl
            | false => exact absurd e3 e
          rw [numMag_N e2])
      have hd' : (lp_20x0 cl [T (magTx l), B neg, I 0, I 0] H.guard).map Prod.fst = some (optI (numTx l)) := hd
      simp -implicitDefEqProofs only [Nat.reduceLT, bnd_some, bo_some, condK_true, condK_false, gdA_undef, decide_true, decide_false, Int.reduceLE, Int.reduceLT, Int.reduceEq, Int.reduceNeg, Int.reduceAdd, gd_tt, gd_tf, gd_ft, gd_ff, unG_pure, lift_some, bnd_lift, Option.map_some, Option.bind_some, fieldPtr_ref, fieldPtr_ip, nil_ref, nil_ip, nil_fn, ex_tup, fl_agg, List.getElem?_cons_zero, List.getElem?_cons_succ, Nat.zero_add, Nat.add_zero, Nat.reduceAdd, pk_t, pk_f, lss_int, leq_int, gtr_int, geq_int, eql_int, neq_int, not_bool, beq_self_eq_true, if_true, Bool.false_eq_true, if_false, List.nil_append, List.cons_append, List.append_nil, alc_eq, mkm_eq, nNew, nPut, bNew, bPut, nGrd, bGrd, jn_20x0, lnT_T, g1, c2', i1, b2]
      exact hd'
  -- the sign
  cases l with
  | nil =>
    have hneg : neg = false := rfl
    rw [hneg] at main
    have e : magTx [] = [] := rfl
    rw [e] at main
    simp -implicitDefEqProofs only [Nat.reduceLT, bnd_some, bo_some, condK_true, condK_false, gdA_undef, decide_true, decide_false, Int.reduceLE, Int.reduceLT, Int.reduceEq, Int.reduceNeg, Int.reduceAdd, gd_tt, gd_tf, gd_ft, gd_ff, unG_pure, lift_some, bnd_lift, Option.map_some, Option.bind_some, fieldPtr_ref, fieldPtr_ip, nil_ref, nil_ip, nil_fn, ex_tup, fl_agg, List.getElem?_cons_zero, List.getElem?_cons_succ, Nat.zero_add, Nat.add_zero, Nat.reduceAdd, pk_t, pk_f, lss_int, leq_int, gtr_int, geq_int, eql_int, neq_int, not_bool, beq_self_eq_true, if_true, Bool.false_eq_true, if_false, List.nil_append, List.cons_append, List.append_nil, alc_eq, mkm_eq, nNew, nPut, bNew, bPut, nGrd, bGrd, sh_20, lnT_T, List.length_nil, Int.natCast_zero, Int.ofNat_zero, Int.lt_irrefl]
    exact main
  | cons c r =>
    have h1 : (0 : Int) < (((c :: r).length : Nat) : Int) := by simp only [List.length_cons]; omega
    have i1 : ixT (T (c :: r)) (I 0) = some (U8 c) := by rw [ixT_T (by omega)]; rfl
    have bc := byte_is (b := c) (c := 45) (n := 45) (by decide)
    by_cases hc : c = 45
    · have b2 : decide ((c.toNat : Int) = 45) = true := by rw [bc]; simp [hc]
      have hneg : neg = true := by simp [neg, hc]
      have e : magTx (c :: r) = r := by rw [hc]; exact magTx_minus r
      rw [hneg, e] at main
      have s1 : slT (T (c :: r)) (some (I 1)) none = some (T r) := by
        rw [slT_T (a := 1) (b := (c :: r).length) (by rfl) rfl (by simp) (Nat.le_refl _)]
        simp
      simp -implicitDefEqProofs only [Nat.reduceLT, bnd_some, bo_some, condK_true, condK_false, gdA_undef, decide_true, decide_false, Int.reduceLE, Int.reduceLT, Int.reduceEq, Int.reduceNeg, Int.reduceAdd, gd_tt, gd_tf, gd_ft, gd_ff, unG_pure, lift_some, bnd_lift, Option.map_some, Option.bind_some, fieldPtr_ref, fieldPtr_ip, nil_ref, nil_ip, nil_fn, ex_tup, fl_agg, List.getElem?_cons_zero, List.getElem?_cons_succ, Nat.zero_add, Nat.add_zero, Nat.reduceAdd, pk_t, pk_f, lss_int, leq_int, gtr_int, geq_int, eql_int, neq_int, not_bool, beq_self_eq_true, if_true, Bool.false_eq_true, if_false, List.nil_append, List.cons_append, List.append_nil, alc_eq, mkm_eq, nNew, nPut, bNew, bPut, nGrd, bGrd, sh_20, lnT_T, h1, i1, b2, s1]
      exact main
    · have b2 : decide ((c.toNat : Int) = 45) = false := by rw [bc]; simp [hc]
      have hneg : neg = false := by simp [neg, hc]
      have e : magTx (c :: r) = c :: r := by unfold magTx; rw [if_neg (by simpa using hc)]
      rw [hneg, e] at main
      simp -implicitDefEqProofs only [Nat.reduceLT, bnd_some, bo_some, condK_true, condK_false, gdA_undef, decide_true, decide_false, Int.reduceLE, Int.reduceLT, Int.reduceEq, Int.reduceNeg, Int.reduceAdd, gd_tt, gd_tf, gd_ft, gd_ff, unG_pure, lift_some, bnd_lift, Option.map_some, Option.bind_some, fieldPtr_ref, fieldPtr_ip, nil_ref, nil_ip, nil_fn, ex_tup, fl_agg, List.getElem?_cons_zero, List.getElem?_cons_succ, Nat.zero_add, Nat.add_zero, Nat.reduceAdd, pk_t, pk_f, lss_int, leq_int, gtr_int, geq_int, eql_int, neq_int, not_bool, beq_self_eq_true, if_true, Bool.false_eq_true, if_false, List.nil_append, List.cons_append, List.append_nil, alc_eq, mkm_eq, nNew, nPut, bNew, bPut, nGrd, bGrd, sh_20, lnT_T, h1, i1, b2]
      exact main

end Go.Proofs.YtjmldnpdfnklcaaDoor

namespace Go.Proofs.YtjmldnpdfnklcaaDoor

theorem StrsIs.tail {y : AV} {w : Str} {rest : List Str} (h : StrsIs y (w :: rest)) : ∃ z, slS 1 y (some (I 1)) none none = some z ∧ StrsIs z rest := by
  obtain ⟨z, h1, h2⟩ := (h AHeap.empty).from_ (k := .i64) (lo := 1) (by omega) (by simp only [List.length_cons]; omega)
  refine ⟨z, h1, fun H => ?_⟩
  obtain ⟨z', h3, h4⟩ := (h H).from_ (k := .i64) (lo := 1) (by omega) (by simp only [List.length_cons]; omega)
  rw [h1] at h3
  cases h3
  simpa using h4
theorem app_num {b : Nat} {H : AHeap} {o : AV} {acc : List Int} (hbn : b ≤ H.next) (hb : H.base ≤ b) (O : Own b H o 1 (acc.map I)) (hl : acc.length ≤ 1000000) (w : Int) :
    ∃ o' H', (∀ {β : Type} (k : AV → AHeap → Option β), bnd (bs 22 1 [(0, I w)] H) (fun v H => bnd (app 3 1 8 o v H) k) = k o' H') ∧ Own b H' o' 1 ((acc ++ [w]).map I) ∧ Step b H H' := by
  let ob : AObj := .blk 0 3 [I w]
  obtain ⟨o', H', t1, t2, t3⟩ := (O.new ob).step (n := acc.length) (k := 1) (e := 3) (by_ := 8) (y := .sl H.next 0 0 1 1 1 true) (new := [I w]) (by simp only [nNew]; omega) (by simp only [bNew]; exact hb) (by decide) (by simp) (sl_new rfl) (by simp [isCell_int]) (by unfold most; omega) (by unfold most; omega)
  refine ⟨o', H', fun k => ?_, by rw [List.map_append]; exact t2, (Step.new ob hbn).trans t3⟩
  have eb := bsl_one (e := 3) (m := 1) (z := [zI]) (v := I w) (H := H) rfl rfl rfl
  have eb' : bs 22 1 [(0, I w)] H = some (.sl H.next 0 0 1 1 1 true, H.new ob) := (bs_22 (n := 1) (by decide)).trans eb
  rw [eb', bnd_some, t1, bnd_some]
theorem rnumbers_sp (H : AHeap) {x : AV} {ws : List Str} (hx : StrsIs x ws) (hw : ∀ w ∈ ws, w.length ≤ 1000000) (hn : ws.length ≤ 1000000) :
    ∃ y, cl 70 [x] H = some (.tup [y, B (numsTx ws).isSome], H) ∧ ∀ r, numsTx ws = some r → ∀ H', SliceIs H' y 1 r.length (r.map I) := by
  have key : ∀ k j : Nat, j + k = ws.length → ∀ (Hi : AHeap) (o : AV) (acc : List Int), acc.length ≤ j → Own H.next Hi o 1 (acc.map I) → Step H.next H.guard Hi →
      ∃ y Hz, lp_70x0 cl [o, x, I ws.length, I j] Hi = some (.tup [y, B (numsTx (ws.drop j)).isSome], Hz) ∧ (numsTx (ws.drop j) = none → y = zN) ∧ ∀ r, numsTx (ws.drop j) = some r → Own H.next Hz y 1 ((acc ++ r).map I) := by
    intro k
    induction k with
    | zero =>
      intro j hj Hi o acc ha O s
      have h1 : ¬ (j : Int) < ws.length := by omega
      rw [List.drop_eq_nil_of_le (by omega)]
      refine ⟨o, Hi, ?_, fun h => (by cases h), fun r h => (by cases h; simpa using O)⟩
      rw [le_70x0]
      simp -implicitDefEqProofs only [Nat.reduceLT, bnd_some, bo_some, condK_true, condK_false, gdA_undef, decide_true, decide_false, Int.reduceLE, Int.reduceLT, Int.reduceEq, Int.reduceNeg, Int.reduceAdd, gd_tt, gd_tf, gd_ft, gd_ff, unG_pure, lift_some, bnd_lift, Option.map_some, Option.bind_some, fieldPtr_ref, fieldPtr_ip, nil_ref, nil_ip, nil_fn, ex_tup, fl_agg, List.getElem?_cons_zero, List.getElem?_cons_succ, Nat.zero_add, Nat.add_zero, Nat.reduceAdd, pk_t, pk_f, lss_int, leq_int, gtr_int, geq_int, eql_int, neq_int, not_bool, beq_self_eq_true, if_true, Bool.false_eq_true, if_false, List.nil_append, List.cons_append, List.append_nil, alc_eq, mkm_eq, nNew, nPut, bNew, bPut, nGrd, bGrd, h1, numsTx, Option.isSome_some]
    | succ k ih =>
      intro j hj Hi o acc ha O s
      have h1 : (j : Int) < ws.length := by omega
      have hl : j < ws.length := by omega
      have sb : Hi.base = H.next := s.base
      have sn : H.next ≤ Hi.next := s.next
      have h6 : (j : Int) + 1 = ((j + 1 : Nat) : Int) := by omega
      have h7 := wrap_i64 (a := ((j + 1 : Nat) : Int)) (by omega) (by omega)
      obtain ⟨p, i1, i2⟩ := hx.at_ (i := (j : Int)) (w := ws[j]) (by omega) (by rw [Int.toNat_natCast, List.getElem?_eq_getElem hl]) Hi
      have e := rnumber_sp Hi (hw ws[j] (List.getElem_mem hl))
      rw [List.drop_eq_getElem_cons hl]
      rw [le_70x0]
      cases hk : numTx ws[j] with
      | none =>
        rw [hk] at e
        have hn0 : numsTx (ws[j] :: ws.drop (j + 1)) = none := by simp only [numsTx, hk]
        rw [hn0]
        refine ⟨zN, Hi, ?_, fun _ => rfl, fun r h => (by cases h)⟩
        simp -implicitDefEqProofs only [Nat.reduceLT, bnd_some, bo_some, condK_true, condK_false, gdA_undef, decide_true, decide_false, Int.reduceLE, Int.reduceLT, Int.reduceEq, Int.reduceNeg, Int.reduceAdd, gd_tt, gd_tf, gd_ft, gd_ff, unG_pure, lift_some, bnd_lift, Option.map_some, Option.bind_some, fieldPtr_ref, fieldPtr_ip, nil_ref, nil_ip, nil_fn, ex_tup, fl_agg, List.getElem?_cons_zero, List.getElem?_cons_succ, Nat.zero_add, Nat.add_zero, Nat.reduceAdd, pk_t, pk_f, lss_int, leq_int, gtr_int, geq_int, eql_int, neq_int, not_bool, beq_self_eq_true, if_true, Bool.false_eq_true, if_false, List.nil_append, List.cons_append, List.append_nil, alc_eq, mkm_eq, nNew, nPut, bNew, bPut, nGrd, bGrd, h1, i1, i2, e, optI, Option.isSome_none, Bool.not_false]
      | some n =>
        rw [hk] at e
        have hn0 : numsTx (ws[j] :: ws.drop (j + 1)) = (numsTx (ws.drop (j + 1))).map (n :: ·) := by simp only [numsTx, hk]
        obtain ⟨o', H', t1, t2, t3⟩ := app_num sn (by omega) O (by omega) n
        obtain ⟨y, Hz, r1, r2, r3⟩ := ih (j + 1) (by omega) H' o' (acc ++ [n]) (by simp; omega) t2 (s.trans t3)
        rw [hn0]
        refine ⟨y, Hz, ?_, fun h => r2 (by cases hh : numsTx (ws.drop (j + 1)) with
          | none => rfl
          | some r => rw [hh] at h; cases h), fun r h => ?_⟩
        · simp -implicitDefEqProofs only [Nat.reduceLT, bnd_some, bo_some, condK_true, condK_false, gdA_undef, decide_true, decide_false, Int.reduceLE, Int.reduceLT, Int.reduceEq, Int.reduceNeg, Int.reduceAdd, gd_tt, gd_tf, gd_ft, gd_ff, unG_pure, lift_some, bnd_lift, Option.map_some, Option.bind_some, fieldPtr_ref, fieldPtr_ip, nil_ref, nil_ip, nil_fn, ex_tup, fl_agg, List.getElem?_cons_zero, List.getElem?_cons_succ, Nat.zero_add, Nat.add_zero, Nat.reduceAdd, pk_t, pk_f, lss_int, leq_int, gtr_int, geq_int, eql_int, neq_int, not_bool, beq_self_eq_true, if_true, Bool.false_eq_true, if_false, List.nil_append, List.cons_append, List.append_nil, alc_eq, mkm_eq, nNew, nPut, bNew, bPut, nGrd, bGrd, h1, i1, i2, e, optI, Option.isSome_some, Option.getD_some, Bool.not_true, Option.isSome_map]
          rw [t1]
          simp -implicitDefEqProofs only [Nat.reduceLT, bnd_some, bo_some, condK_true, condK_false, gdA_undef, decide_true, decide_false, Int.reduceLE, Int.reduceLT, Int.reduceEq, Int.reduceNeg, Int.reduceAdd, gd_tt, gd_tf, gd_ft, gd_ff, unG_pure, lift_some, bnd_lift, Option.map_some, Option.bind_some, fieldPtr_ref, fieldPtr_ip, nil_ref, nil_ip, nil_fn, ex_tup, fl_agg, List.getElem?_cons_zero, List.getElem?_cons_succ, Nat.zero_add, Nat.add_zero, Nat.reduceAdd, pk_t, pk_f, lss_int, leq_int, gtr_int, geq_int, eql_int, neq_int, not_bool, beq_self_eq_true, if_true, Bool.false_eq_true, if_false, List.nil_append, List.cons_append, List.append_nil, alc_eq, mkm_eq, nNew, nPut, bNew, bPut, nGrd, bGrd, add_int, h6, h7, r1]
        · cases hh : numsTx (ws.drop (j + 1)) with
          | none => rw [hh] at h; cases h
          | some r' =>
            rw [hh] at h
            simp only [Option.map_some, Option.some.injEq] at h
            subst h
            have := r3 r' hh
            rw [List.append_assoc] at this
            exact this
  obtain ⟨y, Hz, r1, r2, r3⟩ := key ws.length 0 (by omega) H.guard zN [] (by simp) (.inl ⟨rfl, rfl⟩) (Step.refl _ _)
  rw [List.drop_zero] at r1 r2 r3
  have r1' : lp_70x0 cl [zN, x, I ws.length, I 0] H.guard = some (.tup [y, B (numsTx ws).isSome], Hz) := r1
  have run : sh_70 cl x H.guard = some (.tup [y, B (numsTx ws).isSome], Hz) := by
    have := (hx H.guard).lnS
    simp -implicitDefEqProofs only [Nat.reduceLT, bnd_some, bo_some, condK_true, condK_false, gdA_undef, decide_true, decide_false, Int.reduceLE, Int.reduceLT, Int.reduceEq, Int.reduceNeg, Int.reduceAdd, gd_tt, gd_tf, gd_ft, gd_ff, unG_pure, lift_some, bnd_lift, Option.map_some, Option.bind_some, fieldPtr_ref, fieldPtr_ip, nil_ref, nil_ip, nil_fn, ex_tup, fl_agg, List.getElem?_cons_zero, List.getElem?_cons_succ, Nat.zero_add, Nat.add_zero, Nat.reduceAdd, pk_t, pk_f, lss_int, leq_int, gtr_int, geq_int, eql_int, neq_int, not_bool, beq_self_eq_true, if_true, Bool.false_eq_true, if_false, List.nil_append, List.cons_append, List.append_nil, alc_eq, mkm_eq, nNew, nPut, bNew, bPut, nGrd, bGrd, sh_70, this, zN_T, r1']
  cases hh : numsTx ws with
  | none =>
    rw [hh] at run
    have hy := r2 hh
    subst hy
    exact ⟨zN, pure_cl rfl rfl (rn_70 _ _ _ run) rfl, fun r h => by cases h⟩
  | some r =>
    rw [hh] at run
    have O := r3 r hh
    rw [List.nil_append] at O
    obtain ⟨z, f1, f2⟩ := freeze_ownAny (d := 7) (k := r.length) O (by decide) (by simp) (fun y hy => by
      obtain ⟨w, _, rfl⟩ := List.mem_map.1 hy
      exact freeze_s)
    exact ⟨z, pure_cl rfl rfl (rn_70 _ _ _ run) (freeze_tup2 f1), fun r' h H' => by cases h; exact f2 H'⟩

end Go.Proofs.YtjmldnpdfnklcaaDoor

namespace Go.Proofs.YtjmldnpdfnklcaaDoor

theorem linesR_count : ∀ (k : Nat) (l : Str), (linesR k l).length ≤ l.length
  | 0, l => by simp [linesR]
  | k + 1, [] => by simp [linesR]
  | k + 1, b :: l => by
    simp only [linesR, List.length_cons]
    have := linesR_count k ((b :: l).drop ((lineP (b :: l)).length + 1))
    rw [List.length_drop] at this
    simp only [List.length_cons] at this
    omega
theorem linesR_len : ∀ (k : Nat) (l : Str), ∀ w ∈ linesR k l, w.length ≤ l.length
  | 0, l, w, hw => by simp [linesR] at hw
  | k + 1, [], w, hw => by simp [linesR] at hw
  | k + 1, b :: l, w, hw => by
    simp only [linesR, List.mem_cons] at hw
    rcases hw with rfl | hw
    · exact lineP_len _
    · have := linesR_len k _ w hw
      rw [List.length_drop] at this
      omega

end Go.Proofs.YtjmldnpdfnklcaaDoor

