/-
  Own work: an interpreter over named blocks, its soundness, and what the functions of this seat compute (part 6 of 8).
  Conditions: those of the statement alone.
-/
import Derived.Test.YtlcdejlbmnjlaaaGreatXe
set_option linter.all false
set_option linter.unusedSectionVars false
set_option linter.unusedVariables false
set_option linter.unusedSimpArgs false
namespace Go.Proofs.YtlcdejlbmnjlaaaGreat

theorem pureRun_bind {α β : Type} {P : Program} {f : α → Sem β} : ∀ (m : Sem α), pureRun P (m >>= f) = (pureRun P m).bind fun a => pureRun P (f a) := by
  intro m
  induction m with
  | pure a => rfl
  | program k ih => exact ih P
  | _ => rfl
theorem pr_und {P : Program} {t : TypeId} {d : TypeDesc} (h : P.underlying t = some d) : pureRun P (underlying t) = some d := by
  unfold underlying
  rw [pureRun_bind]
  show pureRun P (match P.underlying t with
    | some d => pure d
    | none => stuck "no such type") = _
  rw [h]; rfl
theorem pr_eqInt (d : Nat) (a b : Int) : pureRun Tryz.prog (Op.equalIn (d + 1) 3 (.int .i64 a) (.int .i64 b)) = some (a == b) := by
  rw [Op.equalIn, pureRun_bind, pr_und Tryz.underlying3]
  simp only [Option.bind_some, if_true]
  rfl
theorem pr_eqBool (d : Nat) (a b : Bool) : pureRun Tryz.prog (Op.equalIn (d + 1) 4 (.bool a) (.bool b)) = some (a == b) := by
  rw [Op.equalIn, pureRun_bind, pr_und Tryz.underlying4]
  rfl
theorem pr_prog {β : Type} (f : Program → Sem β) : pureRun Tryz.prog (program >>= f) = pureRun Tryz.prog (f Tryz.prog) := rfl
theorem neq_evn (a b : Evn) : bi .neq 73 (.agg a.av) (.agg b.av) = some (B (!decide (a = b))) := by
  have e0 : ∀ x : Evn, AV.val? (.agg x.av) = some (.agg #[.int .i64 x.node, .int .i64 x.index, .bool x.done, .int .i64 x.value]) := fun x => rfl
  have g : Tryz.prog.eqGuardType Tryz.prog.depth 73 = false := by kernel_rfl
  have s : Tryz.prog.stoodInHeld 73 = false := by kernel_rfl
  have p0 : ∀ v0 v1 v2 v3, pureRun Tryz.prog (part 3 #[v0, v1, v2, v3] 0) = some v0 := fun v0 v1 v2 v3 => by kernel_rfl
  have p1 : ∀ v0 v1 v2 v3, pureRun Tryz.prog (part 3 #[v0, v1, v2, v3] 1) = some v1 := fun v0 v1 v2 v3 => by kernel_rfl
  have p2 : ∀ v0 v1 v2 v3, pureRun Tryz.prog (part 4 #[v0, v1, v2, v3] 2) = some v2 := fun v0 v1 v2 v3 => by kernel_rfl
  have p3 : ∀ v0 v1 v2 v3, pureRun Tryz.prog (part 3 #[v0, v1, v2, v3] 3) = some v3 := fun v0 v1 v2 v3 => by kernel_rfl
  have i3' := fun a b => pr_eqInt 9998 a b
  have i4' := fun a b => pr_eqBool 9998 a b
  have pg := @pr_prog
  have main : pureRun Tryz.prog (Op.equalIn (9998 + 1 + 1) 73 (.agg #[.int .i64 a.node, .int .i64 a.index, .bool a.done, .int .i64 a.value]) (.agg #[.int .i64 b.node, .int .i64 b.index, .bool b.done, .int .i64 b.value])) = some (decide (a = b)) := by
    rw [Op.equalIn, pureRun_bind, pr_und Tryz.underlying73]
    simp only [Option.bind_some]
    simp only [pg, s]
    obtain ⟨a0, a1, a2, a3⟩ := a
    obtain ⟨b0, b1, b2, b3⟩ := b
    simp only [Evn.mk.injEq]
    by_cases h0 : a0 = b0
    rotate_left
    · simp [pureRun_bind, p0, p1, p2, p3, i3', i4', pureRun_pure, h0]
    by_cases h1 : a1 = b1
    rotate_left
    · simp [pureRun_bind, p0, p1, p2, p3, i3', i4', pureRun_pure, h0, h1]
    by_cases h2 : a2 = b2
    rotate_left
    · simp [pureRun_bind, p0, p1, p2, p3, i3', i4', pureRun_pure, h0, h1, h2]
    by_cases h3 : a3 = b3 <;> simp [pureRun_bind, p0, p1, p2, p3, i3', i4', pureRun_pure, h0, h1, h2, h3]
  simp only [bi, binA, e0]
  have : pureRun Tryz.prog (do eqGuard .neq 73 (.tmp 0) (.tmp 0) (.agg #[.int .i64 a.node, .int .i64 a.index, .bool a.done, .int .i64 a.value]) (.agg #[.int .i64 b.node, .int .i64 b.index, .bool b.done, .int .i64 b.value]); binOp .neq 73 (.agg #[.int .i64 a.node, .int .i64 a.index, .bool a.done, .int .i64 a.value]) (.agg #[.int .i64 b.node, .int .i64 b.index, .bool b.done, .int .i64 b.value])) = some (.bool (!decide (a = b))) := by
    rw [pureRun_bind]
    have e1 : pureRun Tryz.prog (eqGuard .neq 73 (.tmp 0) (.tmp 0) (.agg #[.int .i64 a.node, .int .i64 a.index, .bool a.done, .int .i64 a.value]) (.agg #[.int .i64 b.node, .int .i64 b.index, .bool b.done, .int .i64 b.value])) = some () := by
      simp only [eqGuard]
      simp [pureRun_bind, pg, g, pureRun_pure]
    rw [e1]
    simp only [Option.bind_some, binOp]
    rw [pureRun_bind]
    show (pureRun Tryz.prog (Op.equalIn (9998 + 1 + 1) 73 _ _)).bind _ = _
    rw [main]
    rfl
  rw [this]; rfl
theorem eql_bool (a b : Bool) : bi .eql 4 (B a) (B b) = some (B (decide (a = b))) := by
  cases a <;> cases b <;> kernel_rfl
theorem neq_bool (a b : Bool) : bi .neq 4 (B a) (B b) = some (B (!decide (a = b))) := by
  cases a <;> cases b <;> kernel_rfl
theorem sameInt (H : AHeap) {x y : AV} {l : List Int} (hl : l.length < 1000000000) (hx : SliceIs H x 1 l.length (l.map I)) (hy : SliceIs H y 1 l.length (l.map I)) : cl 64 [x, y] H = some (B true, H) := by
  refine pure_val rfl rfl (rn_64 _ _ _ _) ?_ frz_s
  have e1 := hx.guard.lnS
  have e2 := hy.guard.lnS
  have key : ∀ k i, i + k = l.length → lp_64x0 cl [x, y, I i] H.guard = some (B true, H.guard) := by
    intro k
    induction k with
    | zero =>
      intro i hi
      have h1 : ¬ (i : Int) < l.length := by omega
      rw [le_64x0]
      simp -implicitDefEqProofs only [bnd_some, bo_some, condK_true, condK_false, gdA_undef, decide_true, decide_false, Int.reduceLE, Int.reduceLT, Int.reduceEq, Int.reduceNeg, Int.reduceAdd, gd_tt, gd_tf, gd_ft, gd_ff, unG_pure, lift_some, bnd_lift, Option.map_some, Option.bind_some, fieldPtr_ref, fieldPtr_ip, nil_ref, nil_ip, nil_fn, ex_tup, fl_agg, List.getElem?_cons_zero, List.getElem?_cons_succ, Nat.zero_add, Nat.add_zero, Nat.reduceAdd, pk_t, pk_f, lss_int, leq_int, gtr_int, geq_int, eql_int, neq_int, not_bool, beq_self_eq_true, if_true, Bool.false_eq_true, if_false, List.nil_append, List.cons_append, List.append_nil, alc_eq, mkm_eq, nNew, nPut, bNew, bPut, nGrd, bGrd, e1, h1]
    | succ k ih =>
      intro i hi
      have h1 : (i : Int) < l.length := by omega
      have h6 : (i : Int) + 1 = ((i + 1 : Nat) : Int) := by omega
      have h7 := wrap_i64 (a := ((i + 1 : Nat) : Int)) (by omega) (by omega)
      have s1 := hx.guard.ix (k := .i64) (i := (i : Int)) (by omega) h1
      have s2 := hy.guard.ix (k := .i64) (i := (i : Int)) (by omega) h1
      rw [Int.toNat_natCast] at s1 s2
      have t1 := hx.guard.ld (i := i) (by omega)
      have t2 := hy.guard.ld (i := i) (by omega)
      rw [List.getElem?_map, List.getElem?_eq_getElem (show i < l.length by omega)] at t1 t2
      have r1 := ih (i + 1) (by omega)
      rw [le_64x0]
      simp -implicitDefEqProofs only [bnd_some, bo_some, condK_true, condK_false, gdA_undef, decide_true, decide_false, Int.reduceLE, Int.reduceLT, Int.reduceEq, Int.reduceNeg, Int.reduceAdd, gd_tt, gd_tf, gd_ft, gd_ff, unG_pure, lift_some, bnd_lift, Option.map_some, Option.bind_some, fieldPtr_ref, fieldPtr_ip, nil_ref, nil_ip, nil_fn, ex_tup, fl_agg, List.getElem?_cons_zero, List.getElem?_cons_succ, Nat.zero_add, Nat.add_zero, Nat.reduceAdd, pk_t, pk_f, lss_int, leq_int, gtr_int, geq_int, eql_int, neq_int, not_bool, beq_self_eq_true, if_true, Bool.false_eq_true, if_false, List.nil_append, List.cons_append, List.append_nil, alc_eq, mkm_eq, nNew, nPut, bNew, bPut, nGrd, bGrd, e1, h1, s1, s2, t1, t2, eq_self, Bool.not_true, add_int, h6, h7, r1]
  have r1 := key l.length 0 (by omega)
  have r1' : lp_64x0 cl [x, y, I 0] H.guard = some (B true, H.guard) := r1
  simp -implicitDefEqProofs only [bnd_some, bo_some, condK_true, condK_false, gdA_undef, decide_true, decide_false, Int.reduceLE, Int.reduceLT, Int.reduceEq, Int.reduceNeg, Int.reduceAdd, gd_tt, gd_tf, gd_ft, gd_ff, unG_pure, lift_some, bnd_lift, Option.map_some, Option.bind_some, fieldPtr_ref, fieldPtr_ip, nil_ref, nil_ip, nil_fn, ex_tup, fl_agg, List.getElem?_cons_zero, List.getElem?_cons_succ, Nat.zero_add, Nat.add_zero, Nat.reduceAdd, pk_t, pk_f, lss_int, leq_int, gtr_int, geq_int, eql_int, neq_int, not_bool, beq_self_eq_true, if_true, Bool.false_eq_true, if_false, List.nil_append, List.cons_append, List.append_nil, alc_eq, mkm_eq, nNew, nPut, bNew, bPut, nGrd, bGrd, sh_64, e1, e2, eq_self, Bool.not_true, r1']
theorem sameEvn (H : AHeap) {x y : AV} {l : List Evn} (hl : l.length < 1000000000) (hx : SliceIs H x 4 l.length (l.flatMap Evn.av)) (hy : SliceIs H y 4 l.length (l.flatMap Evn.av)) : cl 29 [x, y] H = some (B true, H) := by
  refine pure_val rfl rfl (rn_29 _ _ _ _) ?_ frz_s
  have e1 := hx.guard.lnS
  have e2 := hy.guard.lnS
  have key : ∀ k i, i + k = l.length → lp_29x0 cl [x, y, I i] H.guard = some (B true, H.guard) := by
    intro k
    induction k with
    | zero =>
      intro i hi
      have h1 : ¬ (i : Int) < l.length := by omega
      rw [le_29x0]
      simp -implicitDefEqProofs only [bnd_some, bo_some, condK_true, condK_false, gdA_undef, decide_true, decide_false, Int.reduceLE, Int.reduceLT, Int.reduceEq, Int.reduceNeg, Int.reduceAdd, gd_tt, gd_tf, gd_ft, gd_ff, unG_pure, lift_some, bnd_lift, Option.map_some, Option.bind_some, fieldPtr_ref, fieldPtr_ip, nil_ref, nil_ip, nil_fn, ex_tup, fl_agg, List.getElem?_cons_zero, List.getElem?_cons_succ, Nat.zero_add, Nat.add_zero, Nat.reduceAdd, pk_t, pk_f, lss_int, leq_int, gtr_int, geq_int, eql_int, neq_int, not_bool, beq_self_eq_true, if_true, Bool.false_eq_true, if_false, List.nil_append, List.cons_append, List.append_nil, alc_eq, mkm_eq, nNew, nPut, bNew, bPut, nGrd, bGrd, e1, h1]
    | succ k ih =>
      intro i hi
      have h1 : (i : Int) < l.length := by omega
      have h6 : (i : Int) + 1 = ((i + 1 : Nat) : Int) := by omega
      have h7 := wrap_i64 (a := ((i + 1 : Nat) : Int)) (by omega) (by omega)
      have s1 := hx.guard.ix (k := .i64) (i := (i : Int)) (by omega) h1
      have s2 := hy.guard.ix (k := .i64) (i := (i : Int)) (by omega) h1
      rw [Int.toNat_natCast] at s1 s2
      obtain ⟨a, ha⟩ : ∃ a, l[i]? = some a := ⟨_, List.getElem?_eq_getElem (by omega)⟩
      have t1 := lda_elem av_len_evn hx.guard ha
      have t2 := lda_elem av_len_evn hy.guard ha
      have r1 := ih (i + 1) (by omega)
      rw [le_29x0]
      simp -implicitDefEqProofs only [bnd_some, bo_some, condK_true, condK_false, gdA_undef, decide_true, decide_false, Int.reduceLE, Int.reduceLT, Int.reduceEq, Int.reduceNeg, Int.reduceAdd, gd_tt, gd_tf, gd_ft, gd_ff, unG_pure, lift_some, bnd_lift, Option.map_some, Option.bind_some, fieldPtr_ref, fieldPtr_ip, nil_ref, nil_ip, nil_fn, ex_tup, fl_agg, List.getElem?_cons_zero, List.getElem?_cons_succ, Nat.zero_add, Nat.add_zero, Nat.reduceAdd, pk_t, pk_f, lss_int, leq_int, gtr_int, geq_int, eql_int, neq_int, not_bool, beq_self_eq_true, if_true, Bool.false_eq_true, if_false, List.nil_append, List.cons_append, List.append_nil, alc_eq, mkm_eq, nNew, nPut, bNew, bPut, nGrd, bGrd, e1, h1, s1, s2, t1, t2, neq_evn, eq_self, Bool.not_true, add_int, h6, h7, r1]
  have r1' : lp_29x0 cl [x, y, I 0] H.guard = some (B true, H.guard) := key l.length 0 (by omega)
  simp -implicitDefEqProofs only [bnd_some, bo_some, condK_true, condK_false, gdA_undef, decide_true, decide_false, Int.reduceLE, Int.reduceLT, Int.reduceEq, Int.reduceNeg, Int.reduceAdd, gd_tt, gd_tf, gd_ft, gd_ff, unG_pure, lift_some, bnd_lift, Option.map_some, Option.bind_some, fieldPtr_ref, fieldPtr_ip, nil_ref, nil_ip, nil_fn, ex_tup, fl_agg, List.getElem?_cons_zero, List.getElem?_cons_succ, Nat.zero_add, Nat.add_zero, Nat.reduceAdd, pk_t, pk_f, lss_int, leq_int, gtr_int, geq_int, eql_int, neq_int, not_bool, beq_self_eq_true, if_true, Bool.false_eq_true, if_false, List.nil_append, List.cons_append, List.append_nil, alc_eq, mkm_eq, nNew, nPut, bNew, bPut, nGrd, bGrd, sh_29, e1, e2, eq_self, Bool.not_true, r1']
/-- Slices of numbers as they stand in a packet, an entry, .. -/
structure NumsIs (H : AHeap) (x : AV) (l : List Int) : Prop where
  is : SliceIs H x 1 l.length (l.map I)
  one : One x
  nil : l = [] → x = zN
theorem DatIs.nums {b : Nat} {H : AHeap} {g : Store} {x : AV} {l : List Int} (G : Good b H g) (h : DatIs g x l) : NumsIs H x l := ⟨h.is G, h.one, h.nil⟩
theorem dat_nums (H : AHeap) (l : List Int) : NumsIs H (dat l) l := ⟨dat_is H l, one_dat, fun h => by rw [h, dat, vsl_nil]⟩
theorem NumsIs.guard {H : AHeap} {x : AV} {l : List Int} (h : NumsIs H x l) : NumsIs H.guard x l := ⟨h.is.guard, h.one, h.nil⟩
theorem NumsIs.new {H : AHeap} {x : AV} {l : List Int} (h : NumsIs H x l) (o : AObj) : NumsIs (H.new o) x l := ⟨h.is.new o, h.one, h.nil⟩
theorem NumsIs.of_get {H H' : AHeap} {x : AV} {l : List Int} (h : NumsIs H x l) (hn : H.next ≤ H'.next) (hg : ∀ r, r < H.next → H'.get r = H.get r) : NumsIs H' x l := ⟨h.is.of_get hn fun r _ hr => hg r hr, h.one, h.nil⟩
theorem all_pktx {p : Pkt} {x : AV} (h : One x) : (p.avx x).all AV.isCell = true := by simp [Pkt.avx, isCell_int, isCell_bool, h.2]
theorem samePkt (H : AHeap) (p : Pkt) {x y : AV} (hl : p.data.length < 1000000000) (hx : NumsIs H x p.data) (hy : NumsIs H y p.data) : cl 34 [.agg (p.avx x), .agg (p.avx y)] H = some (B true, H) := by
  refine pure_val rfl rfl (rn_34 _ _ _ _) ?_ frz_s
  let H2 := (H.guard.new (.blk 0 78 (p.avx x))).new (.blk 0 78 (p.avx y))
  have hx2 : NumsIs H2 x p.data := (hx.guard.new _).new _
  have hy2 : NumsIs H2 y p.data := (hy.guard.new _).new _
  have g1 : H2.get H.next = .blk 0 78 (p.avx x) := by simp only [H2]; rw [getNew_lt (by rw [nNew, nGrd]; omega)]; exact getNew_is rfl
  have g2 : H2.get (H.next + 1) = .blk 0 78 (p.avx y) := getNew_is rfl
  have l1 : ld (.ref H.next 0 8) H2 = some (x, H2) := by rw [ld_blk g1]; rfl
  have l2 : ld (.ref (H.next + 1) 0 8) H2 = some (y, H2) := by rw [ld_blk g2]; rfl
  have e1 := hx2.is.lnS
  have e2 := hy2.is.lnS
  have key : ∀ k i, i + k = p.data.length → lp_34x0 cl [.ref H.next 0 0, .ref (H.next + 1) 0 0, I p.data.length, I i] H2 = some (B true, H2) := by
    intro k
    induction k with
    | zero =>
      intro i hi
      have h1 : ¬ (i : Int) < p.data.length := by omega
      rw [le_34x0]
      simp -implicitDefEqProofs only [bnd_some, bo_some, condK_true, condK_false, gdA_undef, decide_true, decide_false, Int.reduceLE, Int.reduceLT, Int.reduceEq, Int.reduceNeg, Int.reduceAdd, gd_tt, gd_tf, gd_ft, gd_ff, unG_pure, lift_some, bnd_lift, Option.map_some, Option.bind_some, fieldPtr_ref, fieldPtr_ip, nil_ref, nil_ip, nil_fn, ex_tup, fl_agg, List.getElem?_cons_zero, List.getElem?_cons_succ, Nat.zero_add, Nat.add_zero, Nat.reduceAdd, pk_t, pk_f, lss_int, leq_int, gtr_int, geq_int, eql_int, neq_int, not_bool, beq_self_eq_true, if_true, Bool.false_eq_true, if_false, List.nil_append, List.cons_append, List.append_nil, alc_eq, mkm_eq, nNew, nPut, bNew, bPut, nGrd, bGrd, h1]
    | succ k ih =>
      intro i hi
      have h1 : (i : Int) < p.data.length := by omega
      have h6 : (i : Int) + 1 = ((i + 1 : Nat) : Int) := by omega
      have h7 := wrap_i64 (a := ((i + 1 : Nat) : Int)) (by omega) (by omega)
      have s1 := hx2.is.ix (k := .i64) (i := (i : Int)) (by omega) h1
      have s2 := hy2.is.ix (k := .i64) (i := (i : Int)) (by omega) h1
      rw [Int.toNat_natCast] at s1 s2
      have t1 := hx2.is.ld (i := i) (by omega)
      have t2 := hy2.is.ld (i := i) (by omega)
      rw [List.getElem?_map, List.getElem?_eq_getElem (show i < p.data.length by omega)] at t1 t2
      have r1 := ih (i + 1) (by omega)
      rw [le_34x0]
      simp -implicitDefEqProofs only [bnd_some, bo_some, condK_true, condK_false, gdA_undef, decide_true, decide_false, Int.reduceLE, Int.reduceLT, Int.reduceEq, Int.reduceNeg, Int.reduceAdd, gd_tt, gd_tf, gd_ft, gd_ff, unG_pure, lift_some, bnd_lift, Option.map_some, Option.bind_some, fieldPtr_ref, fieldPtr_ip, nil_ref, nil_ip, nil_fn, ex_tup, fl_agg, List.getElem?_cons_zero, List.getElem?_cons_succ, Nat.zero_add, Nat.add_zero, Nat.reduceAdd, pk_t, pk_f, lss_int, leq_int, gtr_int, geq_int, eql_int, neq_int, not_bool, beq_self_eq_true, if_true, Bool.false_eq_true, if_false, List.nil_append, List.cons_append, List.append_nil, alc_eq, mkm_eq, nNew, nPut, bNew, bPut, nGrd, bGrd, h1, l1, l2, s1, s2, t1, t2, eq_self, Bool.not_true, add_int, h6, h7, r1]
  have r1' : lp_34x0 cl [.ref H.next 0 0, .ref (H.next + 1) 0 0, I p.data.length, I 0] H2 = some (B true, H2) := key p.data.length 0 (by omega)
  have lds : ∀ i v, (p.avx x)[i]? = some v → ld (.ref H.next 0 i) H2 = some (v, H2) := fun i v hv => by rw [ld_blk g1, hv]; rfl
  have lds' : ∀ i v, (p.avx y)[i]? = some v → ld (.ref (H.next + 1) 0 i) H2 = some (v, H2) := fun i v hv => by rw [ld_blk g2, hv]; rfl
  have a0 := lds 0 _ rfl; have a1 := lds 1 _ rfl; have a2 := lds 2 _ rfl; have a3 := lds 3 _ rfl; have a4 := lds 4 _ rfl; have a5 := lds 5 _ rfl; have a6 := lds 6 _ rfl; have a7 := lds 7 _ rfl
  have b0 := lds' 0 _ rfl; have b1 := lds' 1 _ rfl; have b2 := lds' 2 _ rfl; have b3 := lds' 3 _ rfl; have b4 := lds' 4 _ rfl; have b5 := lds' 5 _ rfl; have b6 := lds' 6 _ rfl; have b7 := lds' 7 _ rfl
  simp only [H2] at a0 a1 a2 a3 a4 a5 a6 a7 b0 b1 b2 b3 b4 b5 b6 b7 l1 l2 e1 e2 r1'
  simp -implicitDefEqProofs only [bnd_some, bo_some, condK_true, condK_false, gdA_undef, decide_true, decide_false, Int.reduceLE, Int.reduceLT, Int.reduceEq, Int.reduceNeg, Int.reduceAdd, gd_tt, gd_tf, gd_ft, gd_ff, unG_pure, lift_some, bnd_lift, Option.map_some, Option.bind_some, fieldPtr_ref, fieldPtr_ip, nil_ref, nil_ip, nil_fn, ex_tup, fl_agg, List.getElem?_cons_zero, List.getElem?_cons_succ, Nat.zero_add, Nat.add_zero, Nat.reduceAdd, pk_t, pk_f, lss_int, leq_int, gtr_int, geq_int, eql_int, neq_int, not_bool, beq_self_eq_true, if_true, Bool.false_eq_true, if_false, List.nil_append, List.cons_append, List.append_nil, alc_eq, mkm_eq, nNew, nPut, bNew, bPut, nGrd, bGrd, sh_34, box_agg (all_pktx hx.one), box_agg (all_pktx hy.one), a0, a1, a2, a3, a4, a5, a6, a7, b0, b1, b2, b3, b4, b5, b6, b7, l1, l2, e1, e2, eq_self, Bool.not_true, neq_bool, r1']
theorem sameDeal (H : AHeap) (d : Deal) {x y : AV} (hl : d.data.length < 1000000000) (hx : NumsIs H x d.data) (hy : NumsIs H y d.data) : cl 66 [.agg (d.avx x), .agg (d.avx y)] H = some (B true, H) := by
  refine pure_val rfl rfl (rn_66 _ _ _ _) ?_ frz_s
  have e := fun o o' => sameInt ((H.guard.new o).new o') hl ((hx.guard.new _).new _).is ((hy.guard.new _).new _).is
  simp -implicitDefEqProofs only [bnd_some, bo_some, condK_true, condK_false, gdA_undef, decide_true, decide_false, Int.reduceLE, Int.reduceLT, Int.reduceEq, Int.reduceNeg, Int.reduceAdd, gd_tt, gd_tf, gd_ft, gd_ff, unG_pure, lift_some, bnd_lift, Option.map_some, Option.bind_some, fieldPtr_ref, fieldPtr_ip, nil_ref, nil_ip, nil_fn, ex_tup, fl_agg, List.getElem?_cons_zero, List.getElem?_cons_succ, Nat.zero_add, Nat.add_zero, Nat.reduceAdd, pk_t, pk_f, lss_int, leq_int, gtr_int, geq_int, eql_int, neq_int, not_bool, beq_self_eq_true, if_true, Bool.false_eq_true, if_false, List.nil_append, List.cons_append, List.append_nil, alc_eq, mkm_eq, nNew, nPut, bNew, bPut, nGrd, bGrd, ldN_is, ldN_lt, ldaN_is, ldaN_lt, stN_is, stN_lt, Nat.lt_add_one, ne_eq, nx1, nx2, nx3, ny1, ny2, ny3, not_false_eq_true, List.length_cons, List.length_nil, Nat.reduceLeDiff, setAt, List.take_succ_cons, List.take_zero, List.drop_succ_cons, List.drop_zero, cells_dat, cells_int, cells_bool, cells_agg, List.all_cons, List.all_nil, isCell_int, isCell_bool, isCell_dat, isCell_ref, isCell_nil, isCell_vsl, cells_vsl, av_len_cfg, av_len_pkt, av_len_opn, av_len_evn, av_len_ent, av_len_row, av_len_deal, av_len_pck, tk_cfg, tk_pkt, tk_opn, tk_evn, tk_ent, tk_row, tk_deal, tk_pck, all_cfg, all_pkt, all_opn, all_evn, all_ent, all_row, all_deal, all_pck, List.drop_nil, Bool.and_true, Bool.and_self, and_self, Nat.le_refl, true_and, and_true, Nat.le_add_right, leS, ltS, sh_66, box_agg, hx.one.2, hy.one.2, Deal.avx, eq_self, e]
theorem sameEnt (H : AHeap) (d : Ent) {x y : AV} (hl : d.data.length < 1000000000) (hx : NumsIs H x d.data) (hy : NumsIs H y d.data) : cl 69 [.agg (d.avx x), .agg (d.avx y)] H = some (B true, H) := by
  refine pure_val rfl rfl (rn_69 _ _ _ _) ?_ frz_s
  have e := fun o o' => sameInt ((H.guard.new o).new o') hl ((hx.guard.new _).new _).is ((hy.guard.new _).new _).is
  simp -implicitDefEqProofs only [bnd_some, bo_some, condK_true, condK_false, gdA_undef, decide_true, decide_false, Int.reduceLE, Int.reduceLT, Int.reduceEq, Int.reduceNeg, Int.reduceAdd, gd_tt, gd_tf, gd_ft, gd_ff, unG_pure, lift_some, bnd_lift, Option.map_some, Option.bind_some, fieldPtr_ref, fieldPtr_ip, nil_ref, nil_ip, nil_fn, ex_tup, fl_agg, List.getElem?_cons_zero, List.getElem?_cons_succ, Nat.zero_add, Nat.add_zero, Nat.reduceAdd, pk_t, pk_f, lss_int, leq_int, gtr_int, geq_int, eql_int, neq_int, not_bool, beq_self_eq_true, if_true, Bool.false_eq_true, if_false, List.nil_append, List.cons_append, List.append_nil, alc_eq, mkm_eq, nNew, nPut, bNew, bPut, nGrd, bGrd, ldN_is, ldN_lt, ldaN_is, ldaN_lt, stN_is, stN_lt, Nat.lt_add_one, ne_eq, nx1, nx2, nx3, ny1, ny2, ny3, not_false_eq_true, List.length_cons, List.length_nil, Nat.reduceLeDiff, setAt, List.take_succ_cons, List.take_zero, List.drop_succ_cons, List.drop_zero, cells_dat, cells_int, cells_bool, cells_agg, List.all_cons, List.all_nil, isCell_int, isCell_bool, isCell_dat, isCell_ref, isCell_nil, isCell_vsl, cells_vsl, av_len_cfg, av_len_pkt, av_len_opn, av_len_evn, av_len_ent, av_len_row, av_len_deal, av_len_pck, tk_cfg, tk_pkt, tk_opn, tk_evn, tk_ent, tk_row, tk_deal, tk_pck, all_cfg, all_pkt, all_opn, all_evn, all_ent, all_row, all_deal, all_pck, List.drop_nil, Bool.and_true, Bool.and_self, and_self, Nat.le_refl, true_and, and_true, Nat.le_add_right, leS, ltS, sh_69, box_agg, hx.one.2, hy.one.2, Ent.avx, eq_self, eql_bool, e]
theorem sameRow (H : AHeap) (d : Row) {x y : AV} (hl : d.data.length < 1000000000) (hx : NumsIs H x d.data) (hy : NumsIs H y d.data) : cl 72 [.agg (d.avx x), .agg (d.avx y)] H = some (B true, H) := by
  refine pure_val rfl rfl (rn_72 _ _ _ _) ?_ frz_s
  have e := fun o o' => sameInt ((H.guard.new o).new o') hl ((hx.guard.new _).new _).is ((hy.guard.new _).new _).is
  simp -implicitDefEqProofs only [bnd_some, bo_some, condK_true, condK_false, gdA_undef, decide_true, decide_false, Int.reduceLE, Int.reduceLT, Int.reduceEq, Int.reduceNeg, Int.reduceAdd, gd_tt, gd_tf, gd_ft, gd_ff, unG_pure, lift_some, bnd_lift, Option.map_some, Option.bind_some, fieldPtr_ref, fieldPtr_ip, nil_ref, nil_ip, nil_fn, ex_tup, fl_agg, List.getElem?_cons_zero, List.getElem?_cons_succ, Nat.zero_add, Nat.add_zero, Nat.reduceAdd, pk_t, pk_f, lss_int, leq_int, gtr_int, geq_int, eql_int, neq_int, not_bool, beq_self_eq_true, if_true, Bool.false_eq_true, if_false, List.nil_append, List.cons_append, List.append_nil, alc_eq, mkm_eq, nNew, nPut, bNew, bPut, nGrd, bGrd, ldN_is, ldN_lt, ldaN_is, ldaN_lt, stN_is, stN_lt, Nat.lt_add_one, ne_eq, nx1, nx2, nx3, ny1, ny2, ny3, not_false_eq_true, List.length_cons, List.length_nil, Nat.reduceLeDiff, setAt, List.take_succ_cons, List.take_zero, List.drop_succ_cons, List.drop_zero, cells_dat, cells_int, cells_bool, cells_agg, List.all_cons, List.all_nil, isCell_int, isCell_bool, isCell_dat, isCell_ref, isCell_nil, isCell_vsl, cells_vsl, av_len_cfg, av_len_pkt, av_len_opn, av_len_evn, av_len_ent, av_len_row, av_len_deal, av_len_pck, tk_cfg, tk_pkt, tk_opn, tk_evn, tk_ent, tk_row, tk_deal, tk_pck, all_cfg, all_pkt, all_opn, all_evn, all_ent, all_row, all_deal, all_pck, List.drop_nil, Bool.and_true, Bool.and_self, and_self, Nat.le_refl, true_and, and_true, Nat.le_add_right, leS, ltS, sh_72, box_agg, hx.one.2, hy.one.2, Row.avx, eq_self, e]

end Go.Proofs.YtlcdejlbmnjlaaaGreat

namespace Go.Proofs.YtlcdejlbmnjlaaaGreat

section
variable {b : Nat} {H H' : AHeap} {g : Store} {q : Nat} {cs : List Cell}
theorem OS.own {τ : Nat → Option Tag} {T : Tag} {x : AV} {m : Nat} {l : List AV} (h : OS b H τ T x m l) : Own b H x m l := by
  rcases h with h | ⟨r, g, off, n, cap, ex, ty, all, k0, _, k2⟩
  · exact .inl h
  · exact .inr ⟨r, g, off, n, cap, ex, ty, all, k0, k2⟩
theorem Own.one {x : AV} {m : Nat} {l : List AV} (h : Own b H x m l) : One x := by
  rcases h with ⟨rfl, _⟩ | ⟨r, g, off, n, cap, ex, ty, all, rfl, _⟩
  · exact one_nil
  · exact one_sl
theorem aget_get {α : Type} : ∀ {es : List (Int × α)} {n : Int} {v : α}, aget es n = some v → ∃ j : Nat, es[j]? = some (n, v) ∧ ∀ k, k < j → ∀ e, es[k]? = some e → e.1 ≠ n
  | [], _, _, h => by cases h
  | (k, w) :: es, n, v, h => by
    simp only [aget] at h
    split at h
    · rename_i e; subst e; cases h
      exact ⟨0, rfl, fun k hk => by omega⟩
    · rename_i e
      obtain ⟨j, h1, h2⟩ := aget_get h
      refine ⟨j + 1, h1, fun k hk x hx => ?_⟩
      cases k with
      | zero => cases hx; exact e
      | succ k => exact h2 k (by omega) x (by simpa using hx)
theorem aget_none {α : Type} : ∀ {es : List (Int × α)} {n : Int}, aget es n = none ↔ n ∉ es.map (·.1)
  | [], _ => by simp [aget]
  | (k, w) :: es, n => by
    simp only [aget]
    by_cases e : k = n
    · simp [e]
    · simp only [e, if_false, List.map_cons, List.mem_cons, not_or]
      rw [aget_none]
      exact ⟨fun h => ⟨fun h' => e h'.symm, h⟩, fun h => h.2⟩
theorem findE_aget : ∀ (es : List (Int × AV)) (n : Int), findE es n = aget es n
  | [], _ => rfl
  | (k, w) :: es, n => by
    simp only [findE, aget]
    split
    · rfl
    · exact findE_aget es n
theorem aget_keys {α β : Type} : ∀ {es : List (Int × α)} {az : List (Int × β)} {n : Int}, az.map (·.1) = es.map (·.1) → (aget es n = none ↔ aget az n = none) := by
  intro es az n h
  rw [aget_none, aget_none, h]
/-- The same place in lists of the same keys. -/
theorem aget_both {α β : Type} : ∀ {es : List (Int × α)} {az : List (Int × β)} {n : Int} {v : α}, az.map (·.1) = es.map (·.1) → aget es n = some v → ∃ (j : Nat) (w : β), aget az n = some w ∧ es[j]? = some (n, v) ∧ az[j]? = some (n, w)
  | [], _, _, _, _, h => by cases h
  | (k, v0) :: es, [], _, _, h, _ => by simp at h
  | (k, v0) :: es, (k', w0) :: az, n, v, h, h' => by
    simp only [List.map_cons, List.cons.injEq] at h
    obtain ⟨rfl, h⟩ := h
    simp only [aget] at h' ⊢
    split at h'
    · rename_i e; subst e; cases h'
      exact ⟨0, w0, by simp, rfl, rfl⟩
    · rename_i e
      obtain ⟨j, w, h1, h2, h3⟩ := aget_both h h'
      exact ⟨j + 1, w, by simp only [e, if_false]; exact h1, h2, h3⟩
theorem Good.maps (G : Good b H g) (h : g q = some cs) {i m : Nat} {k : IntKind} {es : List (Int × List AV)} (hi : cs[i]? = some (.maps k m es)) :
    ∃ r, ld (.ref q 0 i) H = some (.mp r, H) ∧ lnM (.mp r) H = some (I es.length, H) ∧ ∀ z n, ∃ x, (aget es n = none → x = .s z) ∧ (∀ l, aget es n = some l → Own b H x m l) ∧ ∀ ok, lk k z (.mp r) (.s (.int k n)) ok H = some ((if ok then .tup [x, B (aget es n).isSome] else x), H) := by
  obtain ⟨h0, τ, hR⟩ := G
  have R := hR q cs h
  obtain ⟨ty, xs, h1, h2, h3, h4⟩ := R.blk
  have hlt : i < xs.length := by rw [h2]; exact (List.getElem?_eq_some_iff.1 hi).1
  have hx : xs[i]? = some (xs[i]'hlt) := List.getElem?_eq_getElem hlt
  have := h4 i _ _ hi hx
  simp only [CR] at this
  obtain ⟨aes, ⟨r, e, t1, t2, t3, t4⟩, a2, a3⟩ := this
  rw [e] at hx
  refine ⟨r, by rw [ld_blk h1, hx]; rfl, ?_, fun z n => ?_⟩
  · simp only [lnM, lookB, watchV, Option.map_some, lnMO, t4]
    have := congrArg List.length a2
    simp only [List.length_map] at this
    rw [this]
  · cases hn : aget es n with
    | none =>
      have hf : findE aes n = none := by rw [findE_aget]; exact (aget_keys a2).1 hn
      refine ⟨.s z, fun _ => rfl, fun l hl => (by cases hl), fun ok => ?_⟩
      simp only [lk, lookB, watchV, Option.map_some, lkO, t4, and_self, if_true, hf]
      cases ok <;> rfl
    | some l =>
      obtain ⟨j, w, b1, b2, b3⟩ := aget_both a2 hn
      refine ⟨w, fun h => (by cases h), fun l' hl => (by cases hl; exact (a3 j n l w b2 b3).own), fun ok => ?_⟩
      simp only [lk, lookB, watchV, Option.map_some, lkO, t4, and_self, if_true, findE_aget, b1]
      cases ok <;> rfl
theorem Good.seqs (G : Good b H g) (h : g q = some cs) {i w m : Nat} {ls : List (List AV)} (hi : cs[i]? = some (.seqs w m ls)) :
    ∃ x xs, ld (.ref q 0 i) H = some (x, H) ∧ Own b H x w xs ∧ xs.length = ls.length ∧ ∀ (j : Nat) l y, ls[j]? = some l → xs[j]? = some y → Own b H y m l := by
  obtain ⟨h0, τ, hR⟩ := G
  have R := hR q cs h
  obtain ⟨ty, ys, h1, h2, h3, h4⟩ := R.blk
  have hlt : i < ys.length := by rw [h2]; exact (List.getElem?_eq_some_iff.1 hi).1
  have hx : ys[i]? = some (ys[i]'hlt) := List.getElem?_eq_getElem hlt
  have := h4 i _ _ hi hx
  simp only [CR] at this
  obtain ⟨xs, a1, a2, a3⟩ := this
  exact ⟨ys[i]'hlt, xs, by rw [ld_blk h1, hx]; rfl, a1.own, a2, fun j l y hl hy => (a3 j l y hl hy).own⟩
end

end Go.Proofs.YtlcdejlbmnjlaaaGreat

namespace Go.Proofs.YtlcdejlbmnjlaaaGreat

theorem cloneNums (H : AHeap) {l : List Int} (hl : l.length < 1000000000) {x : AV} (hx : NumsIs H x l) : cl 17 [x] H = some (dat l, H) := by
  by_cases h : l = []
  · rw [hx.nil h]
    subst h
    have t := cloneInts H [] (by simp)
    have z : dat ([] : List Int) = zN := by simp [dat, vsl_nil]
    rw [z] at t ⊢
    exact t
  · have h0 : l.length ≠ 0 := fun e => h (List.eq_nil_of_length_eq_zero e)
    have e2 := app_empty (e := 3) (by_ := 8) (r := H.guard.next) (H := H.guard.new (.blk 0 3 [])) getNew_eq (hx.is.guard.new _) (ints_all l) h0 (by unfold most; omega) (by unfold most; omega)
    simp only [nGrd, nNew] at e2
    refine pure_cl rfl rfl (rn_17 _ _ _ (r := (.sl (H.next + 1) 0 0 1 l.length l.length false, (H.guard.new (.blk 0 3 [])).new (.blk 0 3 (l.map I)))) ?_) ?_
    · have e1 : bi .eql 22 x zN = some (B false) := SliceIs.some_ne Tryz.underlying22 hx.is h0
      simp -implicitDefEqProofs only [bnd_some, bo_some, condK_true, condK_false, gdA_undef, decide_true, decide_false, Int.reduceLE, Int.reduceLT, Int.reduceEq, Int.reduceNeg, Int.reduceAdd, gd_tt, gd_tf, gd_ft, gd_ff, unG_pure, lift_some, bnd_lift, Option.map_some, Option.bind_some, fieldPtr_ref, fieldPtr_ip, nil_ref, nil_ip, nil_fn, ex_tup, fl_agg, List.getElem?_cons_zero, List.getElem?_cons_succ, Nat.zero_add, Nat.add_zero, Nat.reduceAdd, pk_t, pk_f, lss_int, leq_int, gtr_int, geq_int, eql_int, neq_int, not_bool, beq_self_eq_true, if_true, Bool.false_eq_true, if_false, List.nil_append, List.cons_append, List.append_nil, alc_eq, mkm_eq, nNew, nPut, bNew, bPut, nGrd, bGrd, sh_17, e1, bs_22, bsl_nil, e2, Nat.zero_mul, Nat.zero_le]
    · rw [dat_eq h]
      refine freeze_sl (by omega) (cells := l.map I) ?_ (freeze_all _ fun x hx => frz_ints l x hx _ _)
      simp only [sliceCells, get_new, nNew, nGrd, if_true]
      rw [if_pos (by simp), List.drop_zero, List.take_of_length_le (by simp)]
theorem frz_ent (e : Ent) {d : Nat} : ∀ x ∈ e.av, Frz (d + 2) x := fun x hx => by
  simp only [Ent.av, List.mem_cons, List.not_mem_nil, or_false] at hx
  rcases hx with rfl | rfl | rfl | rfl | rfl | rfl <;> first | exact frz_s | exact frz_dat
theorem frz_row (e : Row) {d : Nat} : ∀ x ∈ e.av, Frz (d + 2) x := fun x hx => by
  simp only [Row.av, List.mem_cons, List.not_mem_nil, or_false] at hx
  rcases hx with rfl | rfl | rfl <;> first | exact frz_s | exact frz_dat
theorem zero_ent : Ent.zero.av = [zI, zI, zI, zI, zB, zN] := by simp [Ent.zero, Ent.av, dat, vsl_nil]
theorem zero_row : Row.zero.av = [zI, zI, zN] := by simp [Row.zero, Row.av, dat, vsl_nil]
theorem entClone (H : AHeap) (e : Ent) {x : AV} (hl : e.data.length < 1000000000) (hx : NumsIs H x e.data) : cl 87 [.agg (e.avx x)] H = some (.agg e.av, H) := by
  refine pure_val rfl rfl (rn_87 _ _ _) ?_ (frz_agg (frz_ent e))
  have e1 := fun o o' => cloneNums ((H.guard.new o).new o') hl ((hx.guard.new o).new o')
  simp -implicitDefEqProofs only [bnd_some, bo_some, condK_true, condK_false, gdA_undef, decide_true, decide_false, Int.reduceLE, Int.reduceLT, Int.reduceEq, Int.reduceNeg, Int.reduceAdd, gd_tt, gd_tf, gd_ft, gd_ff, unG_pure, lift_some, bnd_lift, Option.map_some, Option.bind_some, fieldPtr_ref, fieldPtr_ip, nil_ref, nil_ip, nil_fn, ex_tup, fl_agg, List.getElem?_cons_zero, List.getElem?_cons_succ, Nat.zero_add, Nat.add_zero, Nat.reduceAdd, pk_t, pk_f, lss_int, leq_int, gtr_int, geq_int, eql_int, neq_int, not_bool, beq_self_eq_true, if_true, Bool.false_eq_true, if_false, List.nil_append, List.cons_append, List.append_nil, alc_eq, mkm_eq, nNew, nPut, bNew, bPut, nGrd, bGrd, ldN_is, ldN_lt, ldaN_is, ldaN_lt, stN_is, stN_lt, Nat.lt_add_one, ne_eq, nx1, nx2, nx3, ny1, ny2, ny3, not_false_eq_true, List.length_cons, List.length_nil, Nat.reduceLeDiff, setAt, List.take_succ_cons, List.take_zero, List.drop_succ_cons, List.drop_zero, cells_dat, cells_int, cells_bool, cells_agg, List.all_cons, List.all_nil, isCell_int, isCell_bool, isCell_dat, isCell_ref, isCell_nil, isCell_vsl, cells_vsl, av_len_cfg, av_len_pkt, av_len_opn, av_len_evn, av_len_ent, av_len_row, av_len_deal, av_len_pck, tk_cfg, tk_pkt, tk_opn, tk_evn, tk_ent, tk_row, tk_deal, tk_pck, all_cfg, all_pkt, all_opn, all_evn, all_ent, all_row, all_deal, all_pck, List.drop_nil, Bool.and_true, Bool.and_self, and_self, Nat.le_refl, true_and, and_true, Nat.le_add_right, leS, ltS, sh_87, box_agg, hx.one.2, Ent.avx, e1, Ent.av, zero_ent]
section
variable {b : Nat} {H : AHeap} {g : Store} {q : Nat}
theorem atFn (H : AHeap) (e : Ent) {r : Nat} {line : Int} (h : ∀ H' : AHeap, H'.get = H.get → ld (.ref r 0 0) H' = some (I line, H')) (hr : r < H.next) : cl 97 [.agg e.av, .ref r 0 0] H = some (B (decide (e.line = line)), H) := by
  refine pure_val rfl rfl (rn_97 _ _ _ _) ?_ frz_s
  have e1 := h H.guard rfl
  simp -implicitDefEqProofs only [bnd_some, bo_some, condK_true, condK_false, gdA_undef, decide_true, decide_false, Int.reduceLE, Int.reduceLT, Int.reduceEq, Int.reduceNeg, Int.reduceAdd, gd_tt, gd_tf, gd_ft, gd_ff, unG_pure, lift_some, bnd_lift, Option.map_some, Option.bind_some, fieldPtr_ref, fieldPtr_ip, nil_ref, nil_ip, nil_fn, ex_tup, fl_agg, List.getElem?_cons_zero, List.getElem?_cons_succ, Nat.zero_add, Nat.add_zero, Nat.reduceAdd, pk_t, pk_f, lss_int, leq_int, gtr_int, geq_int, eql_int, neq_int, not_bool, beq_self_eq_true, if_true, Bool.false_eq_true, if_false, List.nil_append, List.cons_append, List.append_nil, alc_eq, mkm_eq, nNew, nPut, bNew, bPut, nGrd, bGrd, ldN_is, ldN_lt, ldaN_is, ldaN_lt, stN_is, stN_lt, Nat.lt_add_one, ne_eq, nx1, nx2, nx3, ny1, ny2, ny3, not_false_eq_true, List.length_cons, List.length_nil, Nat.reduceLeDiff, setAt, List.take_succ_cons, List.take_zero, List.drop_succ_cons, List.drop_zero, cells_dat, cells_int, cells_bool, cells_agg, List.all_cons, List.all_nil, isCell_int, isCell_bool, isCell_dat, isCell_ref, isCell_nil, isCell_vsl, cells_vsl, av_len_cfg, av_len_pkt, av_len_opn, av_len_evn, av_len_ent, av_len_row, av_len_deal, av_len_pck, tk_cfg, tk_pkt, tk_opn, tk_evn, tk_ent, tk_row, tk_deal, tk_pck, all_cfg, all_pkt, all_opn, all_evn, all_ent, all_row, all_deal, all_pck, List.drop_nil, Bool.and_true, Bool.and_self, and_self, Nat.le_refl, true_and, and_true, Nat.le_add_right, leS, ltS, sh_97, box_agg, Ent.av, e1, hr]
theorem cacheAt (G : Good b H g) {c : Cache} (h : g q = some (cacheO c)) (hl : c.l.length < 1000000) (line : Int) : cl 86 [.ref q 0 0, I line] H = some (I (idxI (c.at_ line)), H) := by
  refine pure_val rfl rfl (rn_86 _ _ _ _) ?_ frz_s
  have G1 := G.guard.new (.blk 0 3 [I line])
  obtain ⟨x, hx, c1⟩ := G1.seq h (i := 0) rfl
  have hs := c1.is (by decide) (flat_len av_len_ent c.l)
  have e2 := indexFuncEnt (H.guard.new (.blk 0 3 [I line])) (enc := Ent.av) av_len_ent (f := .fn (.func 97) [] [.ref H.next 0 0]) hs (by omega) (fun e => decide (e.line = line)) (fun e _ => by
    rw [callA_fun (by kernel_rfl)]
    exact atFn _ e (fun H' hg => by rw [ld_blk (g := 0) (ty := 3) (xs := [I line]) (by rw [hg]; exact getNew_is rfl)]; rfl) (by rw [nNew, nGrd]; omega))
  have eb : boxA 3 (I line) H.guard = some (.ref H.next 0 0, H.guard.new (.blk 0 3 [I line])) := rfl
  simp -implicitDefEqProofs only [bnd_some, bo_some, condK_true, condK_false, gdA_undef, decide_true, decide_false, Int.reduceLE, Int.reduceLT, Int.reduceEq, Int.reduceNeg, Int.reduceAdd, gd_tt, gd_tf, gd_ft, gd_ff, unG_pure, lift_some, bnd_lift, Option.map_some, Option.bind_some, fieldPtr_ref, fieldPtr_ip, nil_ref, nil_ip, nil_fn, ex_tup, fl_agg, List.getElem?_cons_zero, List.getElem?_cons_succ, Nat.zero_add, Nat.add_zero, Nat.reduceAdd, pk_t, pk_f, lss_int, leq_int, gtr_int, geq_int, eql_int, neq_int, not_bool, beq_self_eq_true, if_true, Bool.false_eq_true, if_false, List.nil_append, List.cons_append, List.append_nil, alc_eq, mkm_eq, nNew, nPut, bNew, bPut, nGrd, bGrd, sh_86, eb, hx, e2]
  rfl
theorem findIdx_find {α : Type} {p : α → Bool} : ∀ l : List α, (l.findIdx? p).bind (fun i => l[i]?) = l.find? p
  | [] => rfl
  | a :: l => by
    rw [List.findIdx?_cons, List.find?_cons]
    cases h : p a with
    | true => simp
    | false =>
      simp only [Bool.false_eq_true, if_false]
      rw [← findIdx_find l]
      cases l.findIdx? p <;> simp
def optEnt (o : Option Ent) : AV := .tup [.agg (o.getD .zero).av, B o.isSome]
theorem frz_optEnt (o : Option Ent) : Frz 9 (optEnt o) := frz_tup fun x hx => by
  simp only [List.mem_cons, List.not_mem_nil, or_false] at hx
  rcases hx with rfl | rfl
  · exact frz_agg (frz_ent _)
  · exact frz_s
theorem cacheFind (G : Good b H g) {c : Cache} (h : g q = some (cacheO c)) (hl : c.l.length < 1000000) (hd : ∀ e ∈ c.l, e.data.length < 1000000000) (line : Int) : cl 68 [.ref q 0 0, I line] H = some (optEnt (c.find line), H) := by
  refine pure_val rfl rfl (rn_68 _ _ _ _) ?_ (frz_optEnt _)
  have G1 := G.guard.new (.blk 0 148 [zI, zI, zI, zI, zB, zN])
  have e1 := cacheAt G1 h hl line
  have hf : c.find line = (c.at_ line).bind fun i => c.l[i]? := (findIdx_find c.l).symm
  cases ha : c.at_ line with
  | none =>
    rw [ha] at e1 hf
    have hn : idxI (none : Option Nat) = -1 := rfl
    rw [hn] at e1
    simp -implicitDefEqProofs only [bnd_some, bo_some, condK_true, condK_false, gdA_undef, decide_true, decide_false, Int.reduceLE, Int.reduceLT, Int.reduceEq, Int.reduceNeg, Int.reduceAdd, gd_tt, gd_tf, gd_ft, gd_ff, unG_pure, lift_some, bnd_lift, Option.map_some, Option.bind_some, fieldPtr_ref, fieldPtr_ip, nil_ref, nil_ip, nil_fn, ex_tup, fl_agg, List.getElem?_cons_zero, List.getElem?_cons_succ, Nat.zero_add, Nat.add_zero, Nat.reduceAdd, pk_t, pk_f, lss_int, leq_int, gtr_int, geq_int, eql_int, neq_int, not_bool, beq_self_eq_true, if_true, Bool.false_eq_true, if_false, List.nil_append, List.cons_append, List.append_nil, alc_eq, mkm_eq, nNew, nPut, bNew, bPut, nGrd, bGrd, ldN_is, ldN_lt, ldaN_is, ldaN_lt, stN_is, stN_lt, Nat.lt_add_one, ne_eq, nx1, nx2, nx3, ny1, ny2, ny3, not_false_eq_true, List.length_cons, List.length_nil, Nat.reduceLeDiff, setAt, List.take_succ_cons, List.take_zero, List.drop_succ_cons, List.drop_zero, cells_dat, cells_int, cells_bool, cells_agg, List.all_cons, List.all_nil, isCell_int, isCell_bool, isCell_dat, isCell_ref, isCell_nil, isCell_vsl, cells_vsl, av_len_cfg, av_len_pkt, av_len_opn, av_len_evn, av_len_ent, av_len_row, av_len_deal, av_len_pck, tk_cfg, tk_pkt, tk_opn, tk_evn, tk_ent, tk_row, tk_deal, tk_pck, all_cfg, all_pkt, all_opn, all_evn, all_ent, all_row, all_deal, all_pck, List.drop_nil, Bool.and_true, Bool.and_self, and_self, Nat.le_refl, true_and, and_true, Nat.le_add_right, leS, ltS, sh_68, e1, bd_148, bldA, fillA_nil, hf, optEnt, zero_ent, Option.getD_none, Option.isSome_none, Option.bind_none]
  | some i =>
    rw [ha] at e1 hf
    have hi : i < c.l.length := List.findIdx?_eq_some_iff_findIdx_eq.1 ha |>.1
    obtain ⟨e, he⟩ : ∃ e, c.l[i]? = some e := ⟨_, List.getElem?_eq_getElem hi⟩
    have hn : idxI (some i) = (i : Int) := rfl
    rw [hn] at e1
    have h0 : ¬ (i : Int) < 0 := by omega
    obtain ⟨x, hx, c1⟩ := G1.seq h (i := 0) rfl
    have hs := c1.is (by decide) (flat_len av_len_ent c.l)
    have e3 := hs.ix (k := .i64) (i := (i : Int)) (by omega) (by omega)
    rw [Int.toNat_natCast] at e3
    have e4 := lda_elem av_len_ent hs he
    have e5 := fun H => entClone H e (hd e (List.mem_of_getElem? he)) (dat_nums H e.data)
    have e6 : e.avx (dat e.data) = e.av := rfl
    rw [e6] at e5
    have hf' : c.find line = some e := by rw [hf]; exact he
    simp -implicitDefEqProofs only [bnd_some, bo_some, condK_true, condK_false, gdA_undef, decide_true, decide_false, Int.reduceLE, Int.reduceLT, Int.reduceEq, Int.reduceNeg, Int.reduceAdd, gd_tt, gd_tf, gd_ft, gd_ff, unG_pure, lift_some, bnd_lift, Option.map_some, Option.bind_some, fieldPtr_ref, fieldPtr_ip, nil_ref, nil_ip, nil_fn, ex_tup, fl_agg, List.getElem?_cons_zero, List.getElem?_cons_succ, Nat.zero_add, Nat.add_zero, Nat.reduceAdd, pk_t, pk_f, lss_int, leq_int, gtr_int, geq_int, eql_int, neq_int, not_bool, beq_self_eq_true, if_true, Bool.false_eq_true, if_false, List.nil_append, List.cons_append, List.append_nil, alc_eq, mkm_eq, nNew, nPut, bNew, bPut, nGrd, bGrd, ldN_is, ldN_lt, ldaN_is, ldaN_lt, stN_is, stN_lt, Nat.lt_add_one, ne_eq, nx1, nx2, nx3, ny1, ny2, ny3, not_false_eq_true, List.length_cons, List.length_nil, Nat.reduceLeDiff, setAt, List.take_succ_cons, List.take_zero, List.drop_succ_cons, List.drop_zero, cells_dat, cells_int, cells_bool, cells_agg, List.all_cons, List.all_nil, isCell_int, isCell_bool, isCell_dat, isCell_ref, isCell_nil, isCell_vsl, cells_vsl, av_len_cfg, av_len_pkt, av_len_opn, av_len_evn, av_len_ent, av_len_row, av_len_deal, av_len_pck, tk_cfg, tk_pkt, tk_opn, tk_evn, tk_ent, tk_row, tk_deal, tk_pck, all_cfg, all_pkt, all_opn, all_evn, all_ent, all_row, all_deal, all_pck, List.drop_nil, Bool.and_true, Bool.and_self, and_self, Nat.le_refl, true_and, and_true, Nat.le_add_right, leS, ltS, sh_68, e1, h0, hx, e3, e4, e5, hf', optEnt, zero_ent, Option.getD_some, Option.isSome_some]
theorem dirRow (G : Good b H g) {c : Cfg} {rows : Rows} (h : g q = some (dirO c rows)) (hd : ∀ e ∈ rows, e.2.data.length < 1000000000) (line : Int) : cl 88 [.ref q 0 0, I line] H = some (.tup [.agg (rowOf rows line).av, B (aget rows line).isSome], H) := by
  refine pure_val rfl rfl (rn_88 _ _ _ _) ?_ (frz_tup fun x hx => ?_)
  · have G1 := G.guard.new (.blk 0 153 [zI, zI, zN])
    obtain ⟨r, f1, f2, _⟩ := G1.map h (i := 8) rfl
    have f3 := f2 (.agg #[.int .i64 0, .int .i64 0, .slice none 0 0]) line true
    rw [find_enc] at f3
    cases hr : aget rows line with
    | none =>
      have e5 := fun H => cloneInts H [] (by simp)
      have z0 : dat ([] : List Int) = zN := by simp [dat, vsl_nil]
      rw [z0] at e5
      have zc : AV.cells (.s (.agg #[.int .i64 0, .int .i64 0, .slice none 0 0])) = [zI, zI, zN] := rfl
      simp only [hr, Option.map_none, if_true] at f3
      have zn : zN.isCell = true := rfl
      have zn' : zN.cells = [zN] := rfl
      simp -implicitDefEqProofs only [bnd_some, bo_some, condK_true, condK_false, gdA_undef, decide_true, decide_false, Int.reduceLE, Int.reduceLT, Int.reduceEq, Int.reduceNeg, Int.reduceAdd, gd_tt, gd_tf, gd_ft, gd_ff, unG_pure, lift_some, bnd_lift, Option.map_some, Option.bind_some, fieldPtr_ref, fieldPtr_ip, nil_ref, nil_ip, nil_fn, ex_tup, fl_agg, List.getElem?_cons_zero, List.getElem?_cons_succ, Nat.zero_add, Nat.add_zero, Nat.reduceAdd, pk_t, pk_f, lss_int, leq_int, gtr_int, geq_int, eql_int, neq_int, not_bool, beq_self_eq_true, if_true, Bool.false_eq_true, if_false, List.nil_append, List.cons_append, List.append_nil, alc_eq, mkm_eq, nNew, nPut, bNew, bPut, nGrd, bGrd, ldN_is, ldN_lt, ldaN_is, ldaN_lt, stN_is, stN_lt, Nat.lt_add_one, ne_eq, nx1, nx2, nx3, ny1, ny2, ny3, not_false_eq_true, List.length_cons, List.length_nil, Nat.reduceLeDiff, setAt, List.take_succ_cons, List.take_zero, List.drop_succ_cons, List.drop_zero, cells_dat, cells_int, cells_bool, cells_agg, List.all_cons, List.all_nil, isCell_int, isCell_bool, isCell_dat, isCell_ref, isCell_nil, isCell_vsl, cells_vsl, av_len_cfg, av_len_pkt, av_len_opn, av_len_evn, av_len_ent, av_len_row, av_len_deal, av_len_pck, tk_cfg, tk_pkt, tk_opn, tk_evn, tk_ent, tk_row, tk_deal, tk_pck, all_cfg, all_pkt, all_opn, all_evn, all_ent, all_row, all_deal, all_pck, List.drop_nil, Bool.and_true, Bool.and_self, and_self, Nat.le_refl, true_and, and_true, Nat.le_add_right, leS, ltS, sh_88, f1, f3, zc, e5, rowOf, hr, zero_row, Option.getD_none, Option.isSome_none, zn, zn']
    | some w =>
      simp only [hr, Option.map_some, if_true] at f3
      have hm : w.data.length < 1000000000 := by
        obtain ⟨j, hj, _⟩ := aget_get hr
        exact hd _ (List.mem_of_getElem? hj)
      have e5 := fun H => cloneInts H w.data hm
      simp -implicitDefEqProofs only [bnd_some, bo_some, condK_true, condK_false, gdA_undef, decide_true, decide_false, Int.reduceLE, Int.reduceLT, Int.reduceEq, Int.reduceNeg, Int.reduceAdd, gd_tt, gd_tf, gd_ft, gd_ff, unG_pure, lift_some, bnd_lift, Option.map_some, Option.bind_some, fieldPtr_ref, fieldPtr_ip, nil_ref, nil_ip, nil_fn, ex_tup, fl_agg, List.getElem?_cons_zero, List.getElem?_cons_succ, Nat.zero_add, Nat.add_zero, Nat.reduceAdd, pk_t, pk_f, lss_int, leq_int, gtr_int, geq_int, eql_int, neq_int, not_bool, beq_self_eq_true, if_true, Bool.false_eq_true, if_false, List.nil_append, List.cons_append, List.append_nil, alc_eq, mkm_eq, nNew, nPut, bNew, bPut, nGrd, bGrd, ldN_is, ldN_lt, ldaN_is, ldaN_lt, stN_is, stN_lt, Nat.lt_add_one, ne_eq, nx1, nx2, nx3, ny1, ny2, ny3, not_false_eq_true, List.length_cons, List.length_nil, Nat.reduceLeDiff, setAt, List.take_succ_cons, List.take_zero, List.drop_succ_cons, List.drop_zero, cells_dat, cells_int, cells_bool, cells_agg, List.all_cons, List.all_nil, isCell_int, isCell_bool, isCell_dat, isCell_ref, isCell_nil, isCell_vsl, cells_vsl, av_len_cfg, av_len_pkt, av_len_opn, av_len_evn, av_len_ent, av_len_row, av_len_deal, av_len_pck, tk_cfg, tk_pkt, tk_opn, tk_evn, tk_ent, tk_row, tk_deal, tk_pck, all_cfg, all_pkt, all_opn, all_evn, all_ent, all_row, all_deal, all_pck, List.drop_nil, Bool.and_true, Bool.and_self, and_self, Nat.le_refl, true_and, and_true, Nat.le_add_right, leS, ltS, sh_88, f1, f3, Row.av, e5, rowOf, hr, Option.getD_some, Option.isSome_some]
  · simp only [List.mem_cons, List.not_mem_nil, or_false] at hx
    rcases hx with rfl | rfl
    · exact frz_agg (frz_row _)
    · exact frz_s
theorem turnsOwner (G : Good b H g) {t : Turns} (h : g q = some (turnsO t)) (line : Int) : cl 89 [.ref q 0 0, I line] H = some (I (t.owner line), H) := by
  refine pure_val rfl rfl (rn_89 _ _ _ _) ?_ frz_s
  obtain ⟨r, f1, f2, _⟩ := G.guard.map h (i := 0) rfl
  have f3 := f2 (.int .i64 0) line true
  rw [find_enc] at f3
  cases hr : aget t.owners line with
  | none =>
    simp only [hr, Option.map_none, if_true] at f3
    simp -implicitDefEqProofs only [bnd_some, bo_some, condK_true, condK_false, gdA_undef, decide_true, decide_false, Int.reduceLE, Int.reduceLT, Int.reduceEq, Int.reduceNeg, Int.reduceAdd, gd_tt, gd_tf, gd_ft, gd_ff, unG_pure, lift_some, bnd_lift, Option.map_some, Option.bind_some, fieldPtr_ref, fieldPtr_ip, nil_ref, nil_ip, nil_fn, ex_tup, fl_agg, List.getElem?_cons_zero, List.getElem?_cons_succ, Nat.zero_add, Nat.add_zero, Nat.reduceAdd, pk_t, pk_f, lss_int, leq_int, gtr_int, geq_int, eql_int, neq_int, not_bool, beq_self_eq_true, if_true, Bool.false_eq_true, if_false, List.nil_append, List.cons_append, List.append_nil, alc_eq, mkm_eq, nNew, nPut, bNew, bPut, nGrd, bGrd, sh_89, f1, f3, Turns.owner, hr, Option.getD_none]
  | some w =>
    simp only [hr, Option.map_some, if_true] at f3
    simp -implicitDefEqProofs only [bnd_some, bo_some, condK_true, condK_false, gdA_undef, decide_true, decide_false, Int.reduceLE, Int.reduceLT, Int.reduceEq, Int.reduceNeg, Int.reduceAdd, gd_tt, gd_tf, gd_ft, gd_ff, unG_pure, lift_some, bnd_lift, Option.map_some, Option.bind_some, fieldPtr_ref, fieldPtr_ip, nil_ref, nil_ip, nil_fn, ex_tup, fl_agg, List.getElem?_cons_zero, List.getElem?_cons_succ, Nat.zero_add, Nat.add_zero, Nat.reduceAdd, pk_t, pk_f, lss_int, leq_int, gtr_int, geq_int, eql_int, neq_int, not_bool, beq_self_eq_true, if_true, Bool.false_eq_true, if_false, List.nil_append, List.cons_append, List.append_nil, alc_eq, mkm_eq, nNew, nPut, bNew, bPut, nGrd, bGrd, sh_89, f1, f3, Turns.owner, hr, Option.getD_some]
def encW (w : Int × Int) : List AV := [I w.1, I w.2]
theorem aget_map {α β : Type} (f : α → β) : ∀ (es : List (Int × α)) (n : Int), aget (es.map fun e => (e.1, f e.2)) n = (aget es n).map f
  | [], _ => rfl
  | (k, v) :: es, n => by
    simp only [List.map_cons, aget]
    split
    · rfl
    · exact aget_map f es n
/-- Who waits for a line, as a slice. -/
theorem waitOf (G : Good b H g) {t : Turns} (h : g q = some (turnsO t)) (line : Int) : ∃ r x, ld (.ref q 0 1) H = some (.mp r, H) ∧ lk .i64 (.slice none 0 0) (.mp r) (I line) false H = some (x, H) ∧ Own b H x 2 ((t.ws line).flatMap encW) := by
  obtain ⟨r, f1, _, f2⟩ := G.maps h (i := 1) rfl
  obtain ⟨x, x1, x2, x3⟩ := f2 (.slice none 0 0) line
  refine ⟨r, x, f1, x3 false, ?_⟩
  rw [aget_map (fun l : List (Int × Int) => l.flatMap fun w => [I w.1, I w.2])] at x1 x2
  simp only [show (fun w : Int × Int => [I w.1, I w.2]) = encW from rfl] at x1 x2
  cases hr : aget t.wait line with
  | none =>
    rw [hr] at x1
    exact .inl ⟨x1 rfl, by simp [Turns.ws, hr]⟩
  | some w =>
    rw [hr] at x2
    have := x2 _ rfl
    simpa [Turns.ws, hr] using this
theorem turnsWaiting (G : Good b H g) {t : Turns} (h : g q = some (turnsO t)) (line : Int) : cl 90 [.ref q 0 0, I line] H = some (I (t.ws line).length, H) := by
  refine pure_val rfl rfl (rn_90 _ _ _ _) ?_ frz_s
  obtain ⟨r, x, f1, f2, f3⟩ := waitOf G.guard h line
  have e := (f3.is (n := (t.ws line).length) (by decide) (flat_len (enc := encW) (fun _ => rfl) _)).lnS
  simp -implicitDefEqProofs only [bnd_some, bo_some, condK_true, condK_false, gdA_undef, decide_true, decide_false, Int.reduceLE, Int.reduceLT, Int.reduceEq, Int.reduceNeg, Int.reduceAdd, gd_tt, gd_tf, gd_ft, gd_ff, unG_pure, lift_some, bnd_lift, Option.map_some, Option.bind_some, fieldPtr_ref, fieldPtr_ip, nil_ref, nil_ip, nil_fn, ex_tup, fl_agg, List.getElem?_cons_zero, List.getElem?_cons_succ, Nat.zero_add, Nat.add_zero, Nat.reduceAdd, pk_t, pk_f, lss_int, leq_int, gtr_int, geq_int, eql_int, neq_int, not_bool, beq_self_eq_true, if_true, Bool.false_eq_true, if_false, List.nil_append, List.cons_append, List.append_nil, alc_eq, mkm_eq, nNew, nPut, bNew, bPut, nGrd, bGrd, sh_90, f1, f2, e]
/-- app with nothing. -/
theorem app_none {e m by_ r ty : Nat} {y : AV} {H : AHeap} (hx : H.get r = .blk 0 ty []) (hy : SliceIs H y m 0 []) : app e m by_ (.sl r 0 0 m 0 0 true) y H = some (.sl r 0 0 m 0 0 true, H) := by
  obtain ⟨c1, c2⟩ := hy.cells_
  simp only [app, c1, c2, appendCells]
  rw [if_pos ⟨by simp, rfl⟩]
  simp only [hx]
  rw [if_pos ⟨trivial, trivial, by simp⟩, if_pos trivial]
/-- A copy of any slice: nil, or in new memory. -/
theorem cloneAnyInt (H : AHeap) {l : List Int} (hl : l.length < 1000000000) {x : AV} (hx : SliceIs H x 1 l.length (l.flatMap encI)) (hf : ∀ a : Int, ∀ z ∈ encI a, Frz 8 z) (ha : ∀ a : Int, (encI a).all AV.isCell = true) (hm : ∀ a : Int, (encI a).length = 1) : ∃ y, cl 17 [x] H = some (y, H) ∧ ∀ H' : AHeap, SliceIs H' y 1 l.length (l.flatMap encI) := by
  by_cases hz : x = zN
  · subst hz
    have h0 : l = [] := by
      have h1 := hx.2.2.2
      exact List.eq_nil_of_length_eq_zero h1
    subst h0
    refine ⟨zN, pure_cl rfl rfl (rn_17 _ _ _ (r := (zN, H.guard)) ?_) freeze_s, fun _ => SliceIs.nil⟩
    have e : bi .eql 22 zN zN = some (B true) := by kernel_rfl
    simp -implicitDefEqProofs only [bnd_some, bo_some, condK_true, condK_false, gdA_undef, decide_true, decide_false, Int.reduceLE, Int.reduceLT, Int.reduceEq, Int.reduceNeg, Int.reduceAdd, gd_tt, gd_tf, gd_ft, gd_ff, unG_pure, lift_some, bnd_lift, Option.map_some, Option.bind_some, fieldPtr_ref, fieldPtr_ip, nil_ref, nil_ip, nil_fn, ex_tup, fl_agg, List.getElem?_cons_zero, List.getElem?_cons_succ, Nat.zero_add, Nat.add_zero, Nat.reduceAdd, pk_t, pk_f, lss_int, leq_int, gtr_int, geq_int, eql_int, neq_int, not_bool, beq_self_eq_true, if_true, Bool.false_eq_true, if_false, List.nil_append, List.cons_append, List.append_nil, alc_eq, mkm_eq, nNew, nPut, bNew, bPut, nGrd, bGrd, sh_17, e]
  · have e1 : bi .eql 22 x zN = some (B false) := by
      obtain ⟨_, hx⟩ := hx
      cases x with
      | sl r g o m n c ex => exact eql_nil_sl Tryz.underlying22
      | vs n m l => exact eql_nil_vs Tryz.underlying22
      | s v =>
        cases v with
        | slice a b c =>
          cases a with
          | none => obtain ⟨rfl, rfl, _⟩ := hx; exact absurd rfl hz
          | some a => exact hx.elim
        | _ => exact hx.elim
      | _ => exact hx.elim
    let H1 := H.guard.new (.blk 0 3 [])
    have x1 : SliceIs H1 x 1 l.length (l.flatMap encI) := hx.guard.new _
    by_cases h : l = []
    · subst h
      have e2 := app_none (e := 3) (by_ := 8) (r := H.next) (H := H1) (getNew_is rfl) x1
      refine ⟨.vs 0 1 [], pure_cl rfl rfl (rn_17 _ _ _ (r := (.sl H.next 0 0 1 0 0 true, H1)) ?_) ?_, fun _ => SliceIs.vs rfl⟩
      · simp only [H1] at e2
        simp -implicitDefEqProofs only [bnd_some, bo_some, condK_true, condK_false, gdA_undef, decide_true, decide_false, Int.reduceLE, Int.reduceLT, Int.reduceEq, Int.reduceNeg, Int.reduceAdd, gd_tt, gd_tf, gd_ft, gd_ff, unG_pure, lift_some, bnd_lift, Option.map_some, Option.bind_some, fieldPtr_ref, fieldPtr_ip, nil_ref, nil_ip, nil_fn, ex_tup, fl_agg, List.getElem?_cons_zero, List.getElem?_cons_succ, Nat.zero_add, Nat.add_zero, Nat.reduceAdd, pk_t, pk_f, lss_int, leq_int, gtr_int, geq_int, eql_int, neq_int, not_bool, beq_self_eq_true, if_true, Bool.false_eq_true, if_false, List.nil_append, List.cons_append, List.append_nil, alc_eq, mkm_eq, nNew, nPut, bNew, bPut, nGrd, bGrd, sh_17, e1, bs_22, bsl_nil, e2, Nat.zero_mul, Nat.zero_le]
        rfl
      · refine freeze_sl (Nat.le_refl _) (cells := []) ?_ rfl
        have : H1.get H.next = .blk 0 3 [] := getNew_is rfl
        simp only [sliceCells, this]
        rfl
    · have h0 : l.length ≠ 0 := fun e => h (List.eq_nil_of_length_eq_zero e)
      have e2 := app_empty (e := 3) (by_ := 8) (r := H.next) (H := H1) (getNew_is rfl) x1 (all_flat ha l) h0 (by unfold most; omega) (by unfold most; omega)
      refine ⟨.vs l.length 1 (l.flatMap encI), pure_cl rfl rfl (rn_17 _ _ _ (r := (.sl (H.next + 1) 0 0 1 l.length l.length false, H1.new (.blk 0 3 (l.flatMap encI)))) ?_) ?_, fun _ => SliceIs.vs (flat_len hm l)⟩
      · have n1 : H1.next = H.next + 1 := rfl
        rw [n1] at e2
        simp only [H1] at e2
        simp -implicitDefEqProofs only [bnd_some, bo_some, condK_true, condK_false, gdA_undef, decide_true, decide_false, Int.reduceLE, Int.reduceLT, Int.reduceEq, Int.reduceNeg, Int.reduceAdd, gd_tt, gd_tf, gd_ft, gd_ff, unG_pure, lift_some, bnd_lift, Option.map_some, Option.bind_some, fieldPtr_ref, fieldPtr_ip, nil_ref, nil_ip, nil_fn, ex_tup, fl_agg, List.getElem?_cons_zero, List.getElem?_cons_succ, Nat.zero_add, Nat.add_zero, Nat.reduceAdd, pk_t, pk_f, lss_int, leq_int, gtr_int, geq_int, eql_int, neq_int, not_bool, beq_self_eq_true, if_true, Bool.false_eq_true, if_false, List.nil_append, List.cons_append, List.append_nil, alc_eq, mkm_eq, nNew, nPut, bNew, bPut, nGrd, bGrd, sh_17, e1, bs_22, bsl_nil, e2, Nat.zero_mul, Nat.zero_le]
        rfl
      · refine freeze_sl (by omega) (cells := l.flatMap encI) ?_ (freeze_all _ fun z hz => frz_list hf l z hz _ _)
        have : (H1.new (.blk 0 3 (l.flatMap encI))).get (H.next + 1) = .blk 0 3 (l.flatMap encI) := getNew_is rfl
        simp only [sliceCells, this]
        rw [if_pos ⟨trivial, by rw [flat_len hm]; omega⟩, List.drop_zero, List.take_of_length_le (by rw [flat_len hm]; exact Nat.le_refl _)]
/-- A copy of any slice: nil, or in new memory. -/
theorem cloneAnyEvn (H : AHeap) {l : List Evn} (hl : l.length < 1000000000) {x : AV} (hx : SliceIs H x 4 l.length (l.flatMap Evn.av)) (hf : ∀ a : Evn, ∀ z ∈ Evn.av a, Frz 8 z) (ha : ∀ a : Evn, (Evn.av a).all AV.isCell = true) (hm : ∀ a : Evn, (Evn.av a).length = 4) : ∃ y, cl 57 [x] H = some (y, H) ∧ ∀ H' : AHeap, SliceIs H' y 4 l.length (l.flatMap Evn.av) := by
  by_cases hz : x = zN
  · subst hz
    have h0 : l = [] := by
      have h1 := hx.2.2.2
      exact List.eq_nil_of_length_eq_zero h1
    subst h0
    refine ⟨zN, pure_cl rfl rfl (rn_57 _ _ _ (r := (zN, H.guard)) ?_) freeze_s, fun _ => SliceIs.nil⟩
    have e : bi .eql 65 zN zN = some (B true) := by kernel_rfl
    simp -implicitDefEqProofs only [bnd_some, bo_some, condK_true, condK_false, gdA_undef, decide_true, decide_false, Int.reduceLE, Int.reduceLT, Int.reduceEq, Int.reduceNeg, Int.reduceAdd, gd_tt, gd_tf, gd_ft, gd_ff, unG_pure, lift_some, bnd_lift, Option.map_some, Option.bind_some, fieldPtr_ref, fieldPtr_ip, nil_ref, nil_ip, nil_fn, ex_tup, fl_agg, List.getElem?_cons_zero, List.getElem?_cons_succ, Nat.zero_add, Nat.add_zero, Nat.reduceAdd, pk_t, pk_f, lss_int, leq_int, gtr_int, geq_int, eql_int, neq_int, not_bool, beq_self_eq_true, if_true, Bool.false_eq_true, if_false, List.nil_append, List.cons_append, List.append_nil, alc_eq, mkm_eq, nNew, nPut, bNew, bPut, nGrd, bGrd, sh_57, e]
  · have e1 : bi .eql 65 x zN = some (B false) := by
      obtain ⟨_, hx⟩ := hx
      cases x with
      | sl r g o m n c ex => exact eql_nil_sl Tryz.underlying65
      | vs n m l => exact eql_nil_vs Tryz.underlying65
      | s v =>
        cases v with
        | slice a b c =>
          cases a with
          | none => obtain ⟨rfl, rfl, _⟩ := hx; exact absurd rfl hz
          | some a => exact hx.elim
        | _ => exact hx.elim
      | _ => exact hx.elim
    let H1 := H.guard.new (.blk 0 73 [])
    have x1 : SliceIs H1 x 4 l.length (l.flatMap Evn.av) := hx.guard.new _
    by_cases h : l = []
    · subst h
      have e2 := app_none (e := 73) (by_ := 32) (r := H.next) (H := H1) (getNew_is rfl) x1
      refine ⟨.vs 0 4 [], pure_cl rfl rfl (rn_57 _ _ _ (r := (.sl H.next 0 0 4 0 0 true, H1)) ?_) ?_, fun _ => SliceIs.vs rfl⟩
      · simp only [H1] at e2
        simp -implicitDefEqProofs only [bnd_some, bo_some, condK_true, condK_false, gdA_undef, decide_true, decide_false, Int.reduceLE, Int.reduceLT, Int.reduceEq, Int.reduceNeg, Int.reduceAdd, gd_tt, gd_tf, gd_ft, gd_ff, unG_pure, lift_some, bnd_lift, Option.map_some, Option.bind_some, fieldPtr_ref, fieldPtr_ip, nil_ref, nil_ip, nil_fn, ex_tup, fl_agg, List.getElem?_cons_zero, List.getElem?_cons_succ, Nat.zero_add, Nat.add_zero, Nat.reduceAdd, pk_t, pk_f, lss_int, leq_int, gtr_int, geq_int, eql_int, neq_int, not_bool, beq_self_eq_true, if_true, Bool.false_eq_true, if_false, List.nil_append, List.cons_append, List.append_nil, alc_eq, mkm_eq, nNew, nPut, bNew, bPut, nGrd, bGrd, sh_57, e1, bs_65, bsl_nil, e2, Nat.zero_mul, Nat.zero_le]
        rfl
      · refine freeze_sl (Nat.le_refl _) (cells := []) ?_ rfl
        have : H1.get H.next = .blk 0 73 [] := getNew_is rfl
        simp only [sliceCells, this]
        rfl
    · have h0 : l.length ≠ 0 := fun e => h (List.eq_nil_of_length_eq_zero e)
      have e2 := app_empty (e := 73) (by_ := 32) (r := H.next) (H := H1) (getNew_is rfl) x1 (all_flat ha l) h0 (by unfold most; omega) (by unfold most; omega)
      refine ⟨.vs l.length 4 (l.flatMap Evn.av), pure_cl rfl rfl (rn_57 _ _ _ (r := (.sl (H.next + 1) 0 0 4 l.length l.length false, H1.new (.blk 0 73 (l.flatMap Evn.av)))) ?_) ?_, fun _ => SliceIs.vs (flat_len hm l)⟩
      · have n1 : H1.next = H.next + 1 := rfl
        rw [n1] at e2
        simp only [H1] at e2
        simp -implicitDefEqProofs only [bnd_some, bo_some, condK_true, condK_false, gdA_undef, decide_true, decide_false, Int.reduceLE, Int.reduceLT, Int.reduceEq, Int.reduceNeg, Int.reduceAdd, gd_tt, gd_tf, gd_ft, gd_ff, unG_pure, lift_some, bnd_lift, Option.map_some, Option.bind_some, fieldPtr_ref, fieldPtr_ip, nil_ref, nil_ip, nil_fn, ex_tup, fl_agg, List.getElem?_cons_zero, List.getElem?_cons_succ, Nat.zero_add, Nat.add_zero, Nat.reduceAdd, pk_t, pk_f, lss_int, leq_int, gtr_int, geq_int, eql_int, neq_int, not_bool, beq_self_eq_true, if_true, Bool.false_eq_true, if_false, List.nil_append, List.cons_append, List.append_nil, alc_eq, mkm_eq, nNew, nPut, bNew, bPut, nGrd, bGrd, sh_57, e1, bs_65, bsl_nil, e2, Nat.zero_mul, Nat.zero_le]
        rfl
      · refine freeze_sl (by omega) (cells := l.flatMap Evn.av) ?_ (freeze_all _ fun z hz => frz_list hf l z hz _ _)
        have : (H1.new (.blk 0 73 (l.flatMap Evn.av))).get (H.next + 1) = .blk 0 73 (l.flatMap Evn.av) := getNew_is rfl
        simp only [sliceCells, this]
        rw [if_pos ⟨trivial, by rw [flat_len hm]; omega⟩, List.drop_zero, List.take_of_length_le (by rw [flat_len hm]; exact Nat.le_refl _)]
theorem frz_vsAny {x : AV} {m n : Nat} {cells : List AV} (h : ∀ H' : AHeap, SliceIs H' x m n cells) (hz : ∀ z ∈ cells, Frz 8 z) : Frz 9 x := by
  have h0 := h AHeap.empty
  obtain ⟨hl, h1⟩ := h0
  cases x with
  | sl r g o m n c ex => exact absurd h1.2.2.1.1 (by simp [AHeap.empty])
  | vs n m l => obtain ⟨_, _, rfl⟩ := h1; exact frz_vs hz
  | s v => exact frz_s
  | _ => exact h1.elim
theorem procValues (G : Good b H g) {p : Proc} (h : g q = some (procO p)) (h2 : p.values.length < 1000) : ∃ x, cl 65 [.ref q 0 0] H = some (x, H) ∧ ∀ H' : AHeap, SliceIs H' x 1 p.values.length (p.values.map I) := by
  obtain ⟨x, hx, c⟩ := G.guard.seq h (i := 1) rfl
  obtain ⟨y, e, hy⟩ := cloneAnyInt H.guard (l := p.values) (by omega) (by rw [flat_encI]; exact c.is (by decide) (by simp)) (fun a z hz => by simp only [encI, List.mem_singleton] at hz; subst hz; exact frz_s) (fun _ => rfl) (fun _ => rfl)
  rw [flat_encI] at hy
  refine ⟨y, pure_val rfl rfl (rn_65 _ _ _) ?_ (frz_vsAny hy (frz_ints _)), hy⟩
  simp -implicitDefEqProofs only [bnd_some, bo_some, condK_true, condK_false, gdA_undef, decide_true, decide_false, Int.reduceLE, Int.reduceLT, Int.reduceEq, Int.reduceNeg, Int.reduceAdd, gd_tt, gd_tf, gd_ft, gd_ff, unG_pure, lift_some, bnd_lift, Option.map_some, Option.bind_some, fieldPtr_ref, fieldPtr_ip, nil_ref, nil_ip, nil_fn, ex_tup, fl_agg, List.getElem?_cons_zero, List.getElem?_cons_succ, Nat.zero_add, Nat.add_zero, Nat.reduceAdd, pk_t, pk_f, lss_int, leq_int, gtr_int, geq_int, eql_int, neq_int, not_bool, beq_self_eq_true, if_true, Bool.false_eq_true, if_false, List.nil_append, List.cons_append, List.append_nil, alc_eq, mkm_eq, nNew, nPut, bNew, bPut, nGrd, bGrd, sh_65, hx, e]
theorem traceEvents (G : Good b H g) {l : List Evn} (h : g q = some (traceO l)) (h2 : l.length < 1000000) : ∃ x, cl 30 [.ref q 0 0] H = some (x, H) ∧ ∀ H' : AHeap, SliceIs H' x 4 l.length (l.flatMap Evn.av) := by
  obtain ⟨x, hx, c⟩ := G.guard.seq h (i := 0) rfl
  obtain ⟨y, e, hy⟩ := cloneAnyEvn H.guard (l := l) (by omega) (c.is (by decide) (flat_len av_len_evn l)) frz_evn all_evn av_len_evn
  refine ⟨y, pure_val rfl rfl (rn_30 _ _ _) ?_ (frz_vsAny hy fun z hz => ?_), hy⟩
  · simp -implicitDefEqProofs only [bnd_some, bo_some, condK_true, condK_false, gdA_undef, decide_true, decide_false, Int.reduceLE, Int.reduceLT, Int.reduceEq, Int.reduceNeg, Int.reduceAdd, gd_tt, gd_tf, gd_ft, gd_ff, unG_pure, lift_some, bnd_lift, Option.map_some, Option.bind_some, fieldPtr_ref, fieldPtr_ip, nil_ref, nil_ip, nil_fn, ex_tup, fl_agg, List.getElem?_cons_zero, List.getElem?_cons_succ, Nat.zero_add, Nat.add_zero, Nat.reduceAdd, pk_t, pk_f, lss_int, leq_int, gtr_int, geq_int, eql_int, neq_int, not_bool, beq_self_eq_true, if_true, Bool.false_eq_true, if_false, List.nil_append, List.cons_append, List.append_nil, alc_eq, mkm_eq, nNew, nPut, bNew, bPut, nGrd, bGrd, sh_30, hx, e]
  · obtain ⟨a, _, ha⟩ := List.mem_flatMap.1 hz
    exact frz_evn a z ha
theorem nodeRow (G : Good b H g) {a : Nat → Nat} {c : Cfg} {me : Int} {n : Node} (N : NodeIs g a c me n) (hd : ∀ e ∈ n.home.rows, e.2.data.length < 1000000000) (line : Int) : cl 70 [.ref (a 0) 0 0, I line] H = some (.tup [.agg (rowOf n.home.rows line).av, B (aget n.home.rows line).isSome], H) := by
  obtain ⟨h0, h1, h2, h3, h4, h5⟩ := N
  refine pure_val rfl rfl (rn_70 _ _ _ _) ?_ (frz_tup fun x hx => ?_)
  · have G1 := G.guard.new (.blk 0 153 [zI, zI, zN])
    have l1 := G1.load h0 (i := 11) (x := .ref (a 3) 0 0) rfl
    have l2 := G1.load h3 (i := 0) (x := .ref (a 4) 0 0) rfl
    have e := dirRow G1 h4 hd line
    simp -implicitDefEqProofs only [bnd_some, bo_some, condK_true, condK_false, gdA_undef, decide_true, decide_false, Int.reduceLE, Int.reduceLT, Int.reduceEq, Int.reduceNeg, Int.reduceAdd, gd_tt, gd_tf, gd_ft, gd_ff, unG_pure, lift_some, bnd_lift, Option.map_some, Option.bind_some, fieldPtr_ref, fieldPtr_ip, nil_ref, nil_ip, nil_fn, ex_tup, fl_agg, List.getElem?_cons_zero, List.getElem?_cons_succ, Nat.zero_add, Nat.add_zero, Nat.reduceAdd, pk_t, pk_f, lss_int, leq_int, gtr_int, geq_int, eql_int, neq_int, not_bool, beq_self_eq_true, if_true, Bool.false_eq_true, if_false, List.nil_append, List.cons_append, List.append_nil, alc_eq, mkm_eq, nNew, nPut, bNew, bPut, nGrd, bGrd, ldN_is, ldN_lt, ldaN_is, ldaN_lt, stN_is, stN_lt, Nat.lt_add_one, ne_eq, nx1, nx2, nx3, ny1, ny2, ny3, not_false_eq_true, List.length_cons, List.length_nil, Nat.reduceLeDiff, setAt, List.take_succ_cons, List.take_zero, List.drop_succ_cons, List.drop_zero, cells_dat, cells_int, cells_bool, cells_agg, List.all_cons, List.all_nil, isCell_int, isCell_bool, isCell_dat, isCell_ref, isCell_nil, isCell_vsl, cells_vsl, av_len_cfg, av_len_pkt, av_len_opn, av_len_evn, av_len_ent, av_len_row, av_len_deal, av_len_pck, tk_cfg, tk_pkt, tk_opn, tk_evn, tk_ent, tk_row, tk_deal, tk_pck, all_cfg, all_pkt, all_opn, all_evn, all_ent, all_row, all_deal, all_pck, List.drop_nil, Bool.and_true, Bool.and_self, and_self, Nat.le_refl, true_and, and_true, Nat.le_add_right, leS, ltS, sh_70, l1, l2, e, zero_row]
  · simp only [List.mem_cons, List.not_mem_nil, or_false] at hx
    rcases hx with rfl | rfl
    · exact frz_agg (frz_row _)
    · exact frz_s
theorem nodeOwner (G : Good b H g) {a : Nat → Nat} {c : Cfg} {me : Int} {n : Node} (N : NodeIs g a c me n) (line : Int) : cl 73 [.ref (a 0) 0 0, I line] H = some (I (n.home.turns.owner line), H) := by
  obtain ⟨h0, h1, h2, h3, h4, h5⟩ := N
  refine pure_val rfl rfl (rn_73 _ _ _ _) ?_ frz_s
  have l1 := G.guard.load h0 (i := 11) (x := .ref (a 3) 0 0) rfl
  have l2 := G.guard.load h3 (i := 1) (x := .ref (a 5) 0 0) rfl
  have e := turnsOwner G.guard h5 line
  simp -implicitDefEqProofs only [bnd_some, bo_some, condK_true, condK_false, gdA_undef, decide_true, decide_false, Int.reduceLE, Int.reduceLT, Int.reduceEq, Int.reduceNeg, Int.reduceAdd, gd_tt, gd_tf, gd_ft, gd_ff, unG_pure, lift_some, bnd_lift, Option.map_some, Option.bind_some, fieldPtr_ref, fieldPtr_ip, nil_ref, nil_ip, nil_fn, ex_tup, fl_agg, List.getElem?_cons_zero, List.getElem?_cons_succ, Nat.zero_add, Nat.add_zero, Nat.reduceAdd, pk_t, pk_f, lss_int, leq_int, gtr_int, geq_int, eql_int, neq_int, not_bool, beq_self_eq_true, if_true, Bool.false_eq_true, if_false, List.nil_append, List.cons_append, List.append_nil, alc_eq, mkm_eq, nNew, nPut, bNew, bPut, nGrd, bGrd, sh_73, l1, l2, e]
theorem nodeWaiting (G : Good b H g) {a : Nat → Nat} {c : Cfg} {me : Int} {n : Node} (N : NodeIs g a c me n) (line : Int) : cl 75 [.ref (a 0) 0 0, I line] H = some (I (n.home.turns.ws line).length, H) := by
  obtain ⟨h0, h1, h2, h3, h4, h5⟩ := N
  refine pure_val rfl rfl (rn_75 _ _ _ _) ?_ frz_s
  have l1 := G.guard.load h0 (i := 11) (x := .ref (a 3) 0 0) rfl
  have l2 := G.guard.load h3 (i := 1) (x := .ref (a 5) 0 0) rfl
  have e := turnsWaiting G.guard h5 line
  simp -implicitDefEqProofs only [bnd_some, bo_some, condK_true, condK_false, gdA_undef, decide_true, decide_false, Int.reduceLE, Int.reduceLT, Int.reduceEq, Int.reduceNeg, Int.reduceAdd, gd_tt, gd_tf, gd_ft, gd_ff, unG_pure, lift_some, bnd_lift, Option.map_some, Option.bind_some, fieldPtr_ref, fieldPtr_ip, nil_ref, nil_ip, nil_fn, ex_tup, fl_agg, List.getElem?_cons_zero, List.getElem?_cons_succ, Nat.zero_add, Nat.add_zero, Nat.reduceAdd, pk_t, pk_f, lss_int, leq_int, gtr_int, geq_int, eql_int, neq_int, not_bool, beq_self_eq_true, if_true, Bool.false_eq_true, if_false, List.nil_append, List.cons_append, List.append_nil, alc_eq, mkm_eq, nNew, nPut, bNew, bPut, nGrd, bGrd, sh_75, l1, l2, e]
theorem machNode (G : Good b H g) {A : Adr} {m : Mach} (M : MachIs g A m) (hn : m.nodes.length < 1000) (i : Int) : cl 12 [.ref A.mach 0 0, I i] H = some (if 0 ≤ i ∧ i < m.nodes.length then .ref (A.N i.toNat 0) 0 0 else zP, H) := by
  obtain ⟨x, hx, c⟩ := G.guard.seq M.mach (i := 10) rfl
  have hs := c.is (n := m.nodes.length) (by decide) (nodes_len _ _)
  have e2 := hs.lnS
  have hall : freezeA H.guard H.next 9 (if 0 ≤ i ∧ i < m.nodes.length then .ref (A.N i.toNat 0) 0 0 else zP) = some (if 0 ≤ i ∧ i < m.nodes.length then .ref (A.N i.toNat 0) 0 0 else zP) := by
    split
    · rename_i h
      obtain ⟨n, hn⟩ : ∃ n, m.nodes[i.toNat]? = some n := ⟨_, List.getElem?_eq_getElem (by omega)⟩
      have := G.lt (M.node _ n hn).1
      rw [freezeA]
      simp only [this, if_true]
    · exact freeze_s
  refine pure_cl rfl rfl (rn_12 _ _ _ _ (r := (_, H.guard)) ?_) hall
  by_cases h0 : i < 0
  · have : ¬ (0 ≤ i ∧ i < m.nodes.length) := by omega
    rw [if_neg this]
    simp -implicitDefEqProofs only [bnd_some, bo_some, condK_true, condK_false, gdA_undef, decide_true, decide_false, Int.reduceLE, Int.reduceLT, Int.reduceEq, Int.reduceNeg, Int.reduceAdd, gd_tt, gd_tf, gd_ft, gd_ff, unG_pure, lift_some, bnd_lift, Option.map_some, Option.bind_some, fieldPtr_ref, fieldPtr_ip, nil_ref, nil_ip, nil_fn, ex_tup, fl_agg, List.getElem?_cons_zero, List.getElem?_cons_succ, Nat.zero_add, Nat.add_zero, Nat.reduceAdd, pk_t, pk_f, lss_int, leq_int, gtr_int, geq_int, eql_int, neq_int, not_bool, beq_self_eq_true, if_true, Bool.false_eq_true, if_false, List.nil_append, List.cons_append, List.append_nil, alc_eq, mkm_eq, nNew, nPut, bNew, bPut, nGrd, bGrd, sh_12, h0]
  · by_cases h1 : (m.nodes.length : Int) ≤ i
    · have : ¬ (0 ≤ i ∧ i < m.nodes.length) := by omega
      rw [if_neg this]
      simp -implicitDefEqProofs only [bnd_some, bo_some, condK_true, condK_false, gdA_undef, decide_true, decide_false, Int.reduceLE, Int.reduceLT, Int.reduceEq, Int.reduceNeg, Int.reduceAdd, gd_tt, gd_tf, gd_ft, gd_ff, unG_pure, lift_some, bnd_lift, Option.map_some, Option.bind_some, fieldPtr_ref, fieldPtr_ip, nil_ref, nil_ip, nil_fn, ex_tup, fl_agg, List.getElem?_cons_zero, List.getElem?_cons_succ, Nat.zero_add, Nat.add_zero, Nat.reduceAdd, pk_t, pk_f, lss_int, leq_int, gtr_int, geq_int, eql_int, neq_int, not_bool, beq_self_eq_true, if_true, Bool.false_eq_true, if_false, List.nil_append, List.cons_append, List.append_nil, alc_eq, mkm_eq, nNew, nPut, bNew, bPut, nGrd, bGrd, sh_12, h0, hx, e2, h1]
    · have : 0 ≤ i ∧ i < m.nodes.length := by omega
      rw [if_pos this]
      have e3 := hs.ix (k := .i64) (i := i) (by omega) (by omega)
      have e4 := hs.ld (i := i.toNat) (by omega)
      rw [nodes_get (by omega)] at e4
      simp -implicitDefEqProofs only [bnd_some, bo_some, condK_true, condK_false, gdA_undef, decide_true, decide_false, Int.reduceLE, Int.reduceLT, Int.reduceEq, Int.reduceNeg, Int.reduceAdd, gd_tt, gd_tf, gd_ft, gd_ff, unG_pure, lift_some, bnd_lift, Option.map_some, Option.bind_some, fieldPtr_ref, fieldPtr_ip, nil_ref, nil_ip, nil_fn, ex_tup, fl_agg, List.getElem?_cons_zero, List.getElem?_cons_succ, Nat.zero_add, Nat.add_zero, Nat.reduceAdd, pk_t, pk_f, lss_int, leq_int, gtr_int, geq_int, eql_int, neq_int, not_bool, beq_self_eq_true, if_true, Bool.false_eq_true, if_false, List.nil_append, List.cons_append, List.append_nil, alc_eq, mkm_eq, nNew, nPut, bNew, bPut, nGrd, bGrd, sh_12, h0, hx, e2, h1, e3, e4]
end

end Go.Proofs.YtlcdejlbmnjlaaaGreat

namespace Go.Proofs.YtlcdejlbmnjlaaaGreat

/-- The pool of a place, and the place there. -/
def findP : List (List Pkt) → Nat → Int → Option (Nat × Int)
  | [], _, _ => none
  | l :: ls, j, at_ => if 0 ≤ at_ ∧ at_ < l.length then some (j, at_) else findP ls (j + 1) (at_ - l.length)
theorem findP_some : ∀ {ls : List (List Pkt)} {j : Nat} {at_ : Int} {j' : Nat} {k : Int}, findP ls j at_ = some (j', k) → j ≤ j' ∧ ∃ l, ls[j' - j]? = some l ∧ 0 ≤ k ∧ k < l.length ∧ 0 ≤ at_ ∧ ls.flatten[at_.toNat]? = l[k.toNat]?
  | [], _, _, _, _, h => by cases h
  | l :: ls, j, at_, j', k, h => by
    simp only [findP] at h
    split at h
    · rename_i hc
      cases h
      refine ⟨Nat.le_refl _, l, by simp, hc.1, hc.2, hc.1, ?_⟩
      rw [List.flatten_cons, List.getElem?_append_left (by omega)]
    · rename_i hc
      obtain ⟨h1, l', h2, h3, h4, h5, h6⟩ := findP_some h
      refine ⟨by omega, l', by rw [show j' - j = (j' - (j + 1)) + 1 by omega]; simpa using h2, h3, h4, by omega, ?_⟩
      rw [List.flatten_cons, List.getElem?_append_right (by omega), ← h6]
      congr 1; omega
theorem findP_none : ∀ {ls : List (List Pkt)} {j : Nat} {at_ : Int}, findP ls j at_ = none → at_ < 0 ∨ (ls.flatten.length : Int) ≤ at_
  | [], _, _, _ => by simp; omega
  | l :: ls, j, at_, h => by
    simp only [findP] at h
    split at h
    · cases h
    · rename_i hc
      have := findP_none h
      rw [List.flatten_cons, List.length_append]; omega
theorem pools_flat : ∀ l : List Port, (l.flatMap fun p => [p.rq, p.an]).flatten = l.flatMap fun p => p.rq ++ p.an
  | [] => rfl
  | p :: l => by simp [pools_flat l]
def askedX (P : Nat → Nat → Nat) (j : Nat) : List AV := [.ref (P (j / 2) (if j % 2 = 0 then 0 else 2)) 0 0, .ref (P (j / 2) (if j % 2 = 0 then 1 else 3)) 0 0]
theorem poolsX_at {P : Nat → Nat → Nat} {n j : Nat} (h : j < 2 * n) : ((poolsX P n).drop (j * 2)).take 2 = askedX P j := by
  have hi : j / 2 < n := by omega
  have hfl := flat_get (m := 4) (enc := fun i => portX (P i)) (fun _ => rfl) (List.range n) (j / 2) (j / 2) (List.getElem?_range hi)
  rcases Nat.mod_two_eq_zero_or_one j with h0 | h0
  · have e : ((poolsX P n).drop (j * 2)).take 2 = (((poolsX P n).drop (j / 2 * 4)).take 4).take 2 := by
      rw [List.take_take, show j / 2 * 4 = j * 2 by omega]; rfl
    rw [e]
    refine (congrArg (List.take 2) hfl).trans ?_
    simp [askedX, h0, portX]
  · have e : ((poolsX P n).drop (j * 2)).take 2 = ((((poolsX P n).drop (j / 2 * 4)).take 4).drop 2).take 2 := by
      rw [List.drop_take, List.drop_drop, List.take_take, show j / 2 * 4 + 2 = j * 2 by omega]; rfl
    rw [e]
    refine (congrArg (fun l => (List.drop 2 l).take 2) hfl).trans ?_
    simp [askedX, h0, portX]
theorem portLt {g : Store} {f : Nat} {P : Nat → Nat → Nat} {c : Cfg} {fab : Fab} (F : FabIs g f P c fab) {j : Nat} {l : List Pkt} (h : fab.pools[j]? = some l) :
    g (P (j / 2) (if j % 2 = 0 then 0 else 2)) = some (boxO l c.out) := by
  have hj : j < 2 * fab.l.length := by
    have := (List.getElem?_eq_some_iff.1 h).1
    rwa [Fab.pools, pools_count] at this
  obtain ⟨l', a, a', h1, h2, h3⟩ := F.poolAt hj
  rw [h] at h1; cases h1
  rw [poolsX_at hj] at h2
  simp only [askedX, List.cons.injEq, AV.ref.injEq, and_true] at h2
  rw [h2.1]; exact h3
section
variable {b : Nat} {H : AHeap} {g : Store} {f : Nat} {P : Nat → Nat → Nat} {c : Cfg} {fab : Fab}
def foundX (P : Nat → Nat → Nat) : Option (Nat × Int) → AV
  | some (j, k) => .tup [.agg (askedX P j), I k, B true]
  | none => .tup [.agg [zP, zP], I 0, B false]
theorem find_sp (G : Good b H g) (F : FabIs g f P c fab) (hn : fab.l.length < 1000) (h0 : fab.l.length ≠ 0) (hr : ∀ l ∈ fab.pools, l.length < 1000) (at_ : Int) (h64 : In64 at_) :
    cl 60 [.ref f 0 0, I at_] H = some (foundX P (findP fab.pools 0 at_), H) := by
  have hpl : fab.pools.length = 2 * fab.l.length := pools_count _
  have hpx : (poolsX P fab.l.length).length = (2 * fab.l.length) * 2 := by rw [poolsX, fabO_len]; omega
  let H0 := H.guard.new (.blk 0 99 [zP, zP])
  have ep := pools_sp (G.guard.new (.blk 0 99 [zP, zP])) F hn h0
  have xs : ∀ H' : AHeap, SliceIs H' (.vs (2 * fab.l.length) 2 (poolsX P fab.l.length)) 2 (2 * fab.l.length) (poolsX P fab.l.length) := fun H' => SliceIs.vs hpx
  let fnd := findP fab.pools 0 at_
  have key : ∀ k j, j + k = 2 * fab.l.length → ∀ (Hi : AHeap) (a : Int), H0.next ≤ Hi.next → Hi.base = H.next → (∀ r, r < H0.next → Hi.get r = H0.get r) → In64 a →
      ((0 ≤ a ∧ fnd = findP (fab.pools.drop j) j a) ∨ ((a < 0 ∨ 9223372036854775808 - 1000 - 1000 * (j : Int) ≤ a) ∧ fnd = none)) →
      (lp_60x0 cl [I a, .ref H.next 0 0, .vs (2 * fab.l.length) 2 (poolsX P fab.l.length), I (2 * fab.l.length : Nat), I j] Hi).map Prod.fst = some (foundX P fnd) := by
    intro k
    induction k with
    | zero =>
      intro j hj Hi a n1 b1 s1 ha hc
      have h1 : ¬ (j : Int) < (2 * fab.l.length : Nat) := by omega
      have hf : fnd = none := by
        rcases hc with ⟨_, hc⟩ | ⟨_, hc⟩
        · rw [hc, List.drop_of_length_le (by omega)]; rfl
        · exact hc
      have g0 : Hi.get H.next = .blk 0 99 [zP, zP] := by rw [s1 _ (by show H.next < H.next + 1; omega)]; exact getNew_is rfl
      have hb1 : Hi.base ≤ H.next := by omega
      have e0 : bd 99 [] = some (.agg [zP, zP]) := by simp -implicitDefEqProofs only [bnd_some, bo_some, condK_true, condK_false, gdA_undef, decide_true, decide_false, Int.reduceLE, Int.reduceLT, Int.reduceEq, Int.reduceNeg, Int.reduceAdd, gd_tt, gd_tf, gd_ft, gd_ff, unG_pure, lift_some, bnd_lift, Option.map_some, Option.bind_some, fieldPtr_ref, fieldPtr_ip, nil_ref, nil_ip, nil_fn, ex_tup, fl_agg, List.getElem?_cons_zero, List.getElem?_cons_succ, Nat.zero_add, Nat.add_zero, Nat.reduceAdd, pk_t, pk_f, lss_int, leq_int, gtr_int, geq_int, eql_int, neq_int, not_bool, beq_self_eq_true, if_true, Bool.false_eq_true, if_false, List.nil_append, List.cons_append, List.append_nil, alc_eq, mkm_eq, nNew, nPut, bNew, bPut, nGrd, bGrd, bd_99, bldA, fillA]
      have e1 := st_new (H := Hi) (r := H.next) (off := 0) (n := 2) (v := .agg [zP, zP]) g0 hb1 rfl rfl (by decide)
      rw [hf, le_60x0]
      have e2 := lda_blk (H := Hi.put H.next (.blk 0 99 (setAt [zP, zP] 0 [zP, zP]))) (r := H.next) (off := 0) (n := 2) (g := 0) (ty := 99) (xs := [zP, zP]) getPut_eq (by decide)
      have hs : setAt [zP, zP] 0 [zP, zP] = [zP, zP] := rfl
      simp only [cells_agg, hs] at e1 e2
      simp -implicitDefEqProofs only [bnd_some, bo_some, condK_true, condK_false, gdA_undef, decide_true, decide_false, Int.reduceLE, Int.reduceLT, Int.reduceEq, Int.reduceNeg, Int.reduceAdd, gd_tt, gd_tf, gd_ft, gd_ff, unG_pure, lift_some, bnd_lift, Option.map_some, Option.bind_some, fieldPtr_ref, fieldPtr_ip, nil_ref, nil_ip, nil_fn, ex_tup, fl_agg, List.getElem?_cons_zero, List.getElem?_cons_succ, Nat.zero_add, Nat.add_zero, Nat.reduceAdd, pk_t, pk_f, lss_int, leq_int, gtr_int, geq_int, eql_int, neq_int, not_bool, beq_self_eq_true, if_true, Bool.false_eq_true, if_false, List.nil_append, List.cons_append, List.append_nil, alc_eq, mkm_eq, nNew, nPut, bNew, bPut, nGrd, bGrd, ldN_is, ldN_lt, ldaN_is, ldaN_lt, stN_is, stN_lt, Nat.lt_add_one, ne_eq, nx1, nx2, nx3, ny1, ny2, ny3, not_false_eq_true, List.length_cons, List.length_nil, Nat.reduceLeDiff, setAt, List.take_succ_cons, List.take_zero, List.drop_succ_cons, List.drop_zero, cells_dat, cells_int, cells_bool, cells_agg, List.all_cons, List.all_nil, isCell_int, isCell_bool, isCell_dat, isCell_ref, isCell_nil, isCell_vsl, cells_vsl, av_len_cfg, av_len_pkt, av_len_opn, av_len_evn, av_len_ent, av_len_row, av_len_deal, av_len_pck, tk_cfg, tk_pkt, tk_opn, tk_evn, tk_ent, tk_row, tk_deal, tk_pck, all_cfg, all_pkt, all_opn, all_evn, all_ent, all_row, all_deal, all_pck, List.drop_nil, Bool.and_true, Bool.and_self, and_self, Nat.le_refl, true_and, and_true, Nat.le_add_right, leS, ltS, h1, e0, e1, e2, foundX]
    | succ k ih =>
      intro j hj Hi a n1 b1 s1 ha hc
      have h1 : (j : Int) < (2 * fab.l.length : Nat) := by omega
      have h6 : (j : Int) + 1 = ((j + 1 : Nat) : Int) := by omega
      have h7 := wrap_i64 (a := ((j + 1 : Nat) : Int)) (by omega) (by omega)
      have a1 := (xs Hi).ix (k := .i64) (i := (j : Int)) (by omega) h1
      rw [Int.toNat_natCast] at a1
      have a3 := (xs Hi).lda (i := j) (by omega)
      rw [poolsX_at (by omega)] at a3
      obtain ⟨l, hl⟩ : ∃ l, fab.pools[j]? = some l := ⟨_, List.getElem?_eq_getElem (by omega)⟩
      have p3 := portLt F hl
      have hlen := hr l (List.mem_of_getElem? hl)
      let H1 := Hi.new (.blk 0 99 (askedX P j))
      have G1 : Good b H1 g := (((G.guard.new _).ext n1 s1).new _)
      have e3 := poolLen G1 p3
      have sb : Hi.base ≤ Hi.next := by have : H.next + 1 ≤ Hi.next := n1; omega
      have lt0 : H.next < Hi.next := n1
      have hd : fab.pools.drop j = l :: fab.pools.drop (j + 1) := by
        rw [List.drop_eq_getElem_cons (by omega)]
        rw [List.getElem?_eq_getElem (by omega)] at hl
        rw [Option.some.inj hl]
      rw [le_60x0]
      simp only [H1, askedX] at e3
      by_cases hin : 0 ≤ a ∧ a < l.length
      · have hf : fnd = some (j, a) := by
          rcases hc with ⟨_, hc⟩ | ⟨hc, _⟩
          · rw [hc, hd, findP, if_pos hin]
          · omega
        have g0 : Hi.get H.next = .blk 0 99 [zP, zP] := by rw [s1 _ (by show H.next < H.next + 1; omega)]; exact getNew_is rfl
        have hb1 : Hi.base ≤ H.next := by omega
        have e1 := st_new (H := Hi.new (.blk 0 99 (askedX P j))) (r := H.next) (off := 0) (n := 2) (v := .agg (askedX P j)) (by rw [getNew_lt lt0]; exact g0) (by rw [bNew]; exact hb1) rfl rfl (by decide)
        have e2 := lda_blk (H := (Hi.new (.blk 0 99 (askedX P j))).put H.next (.blk 0 99 (setAt [zP, zP] 0 (askedX P j)))) (r := H.next) (off := 0) (n := 2) (g := 0) (ty := 99) (xs := setAt [zP, zP] 0 (askedX P j)) getPut_eq (by simp [askedX, setAt])
        simp only [cells_agg, askedX] at e1 e2
        have hs : ∀ x y : AV, setAt [zP, zP] 0 [x, y] = [x, y] := fun _ _ => rfl
        have h0 := hin.1
        have h2 := hin.2
        rw [hf]
        simp only [hs] at e1 e2
        simp -implicitDefEqProofs only [bnd_some, bo_some, condK_true, condK_false, gdA_undef, decide_true, decide_false, Int.reduceLE, Int.reduceLT, Int.reduceEq, Int.reduceNeg, Int.reduceAdd, gd_tt, gd_tf, gd_ft, gd_ff, unG_pure, lift_some, bnd_lift, Option.map_some, Option.bind_some, fieldPtr_ref, fieldPtr_ip, nil_ref, nil_ip, nil_fn, ex_tup, fl_agg, List.getElem?_cons_zero, List.getElem?_cons_succ, Nat.zero_add, Nat.add_zero, Nat.reduceAdd, pk_t, pk_f, lss_int, leq_int, gtr_int, geq_int, eql_int, neq_int, not_bool, beq_self_eq_true, if_true, Bool.false_eq_true, if_false, List.nil_append, List.cons_append, List.append_nil, alc_eq, mkm_eq, nNew, nPut, bNew, bPut, nGrd, bGrd, ldN_is, ldN_lt, ldaN_is, ldaN_lt, stN_is, stN_lt, Nat.lt_add_one, ne_eq, nx1, nx2, nx3, ny1, ny2, ny3, not_false_eq_true, List.length_cons, List.length_nil, Nat.reduceLeDiff, setAt, List.take_succ_cons, List.take_zero, List.drop_succ_cons, List.drop_zero, cells_dat, cells_int, cells_bool, cells_agg, List.all_cons, List.all_nil, isCell_int, isCell_bool, isCell_dat, isCell_ref, isCell_nil, isCell_vsl, cells_vsl, av_len_cfg, av_len_pkt, av_len_opn, av_len_evn, av_len_ent, av_len_row, av_len_deal, av_len_pck, tk_cfg, tk_pkt, tk_opn, tk_evn, tk_ent, tk_row, tk_deal, tk_pck, all_cfg, all_pkt, all_opn, all_evn, all_ent, all_row, all_deal, all_pck, List.drop_nil, Bool.and_true, Bool.and_self, and_self, Nat.le_refl, true_and, and_true, Nat.le_add_right, leS, ltS, h1, a1, a3, askedX, sb, h0, h2, e3, e1, e2, foundX]
      · have hw : ∃ a', IntKind.wrap .i64 (a - l.length) = a' ∧ In64 a' ∧ ((0 ≤ a' ∧ fnd = findP (fab.pools.drop (j + 1)) (j + 1) a') ∨ ((a' < 0 ∨ 9223372036854775808 - 1000 - 1000 * ((j + 1 : Nat) : Int) ≤ a') ∧ fnd = none)) := by
          rcases hc with ⟨hc0, hc⟩ | ⟨hc, hn⟩
          · refine ⟨a - l.length, wrap_i64 (by omega) (by have := ha.2; omega), ⟨by omega, by have := ha.2; omega⟩, .inl ⟨by omega, ?_⟩⟩
            rw [hc, hd, findP, if_neg hin]
          · by_cases hlow : -9223372036854775808 ≤ a - l.length
            · refine ⟨a - l.length, wrap_i64 hlow (by have := ha.2; omega), ⟨hlow, by have := ha.2; omega⟩, .inr ⟨?_, hn⟩⟩
              rcases hc with hc | hc
              · left; omega
              · right; omega
            · refine ⟨a - l.length + 18446744073709551616, ?_, ⟨by have := ha.1; omega, by omega⟩, .inr ⟨.inr (by have := ha.1; omega), hn⟩⟩
              have : a - l.length + 18446744073709551616 = IntKind.wrap .i64 (a - l.length) := by
                simp [IntKind.wrap, IntKind.signed, IntKind.bits]
                have := ha.1
                omega
              exact this.symm
        obtain ⟨a', w1, w2, w3⟩ := hw
        have r1 := ih (j + 1) (by omega) (Hi.new (.blk 0 99 (askedX P j))) a' (Nat.le_succ_of_le n1) b1 (fun r hr => by rw [getNew_lt (by omega)]; exact s1 r hr) w2 w3
        simp only [askedX] at r1
        by_cases h0 : 0 ≤ a
        · have h2 : ¬ a < l.length := by omega
          simp -implicitDefEqProofs only [bnd_some, bo_some, condK_true, condK_false, gdA_undef, decide_true, decide_false, Int.reduceLE, Int.reduceLT, Int.reduceEq, Int.reduceNeg, Int.reduceAdd, gd_tt, gd_tf, gd_ft, gd_ff, unG_pure, lift_some, bnd_lift, Option.map_some, Option.bind_some, fieldPtr_ref, fieldPtr_ip, nil_ref, nil_ip, nil_fn, ex_tup, fl_agg, List.getElem?_cons_zero, List.getElem?_cons_succ, Nat.zero_add, Nat.add_zero, Nat.reduceAdd, pk_t, pk_f, lss_int, leq_int, gtr_int, geq_int, eql_int, neq_int, not_bool, beq_self_eq_true, if_true, Bool.false_eq_true, if_false, List.nil_append, List.cons_append, List.append_nil, alc_eq, mkm_eq, nNew, nPut, bNew, bPut, nGrd, bGrd, ldN_is, ldN_lt, ldaN_is, ldaN_lt, stN_is, stN_lt, Nat.lt_add_one, ne_eq, nx1, nx2, nx3, ny1, ny2, ny3, not_false_eq_true, List.length_cons, List.length_nil, Nat.reduceLeDiff, setAt, List.take_succ_cons, List.take_zero, List.drop_succ_cons, List.drop_zero, cells_dat, cells_int, cells_bool, cells_agg, List.all_cons, List.all_nil, isCell_int, isCell_bool, isCell_dat, isCell_ref, isCell_nil, isCell_vsl, cells_vsl, av_len_cfg, av_len_pkt, av_len_opn, av_len_evn, av_len_ent, av_len_row, av_len_deal, av_len_pck, tk_cfg, tk_pkt, tk_opn, tk_evn, tk_ent, tk_row, tk_deal, tk_pck, all_cfg, all_pkt, all_opn, all_evn, all_ent, all_row, all_deal, all_pck, List.drop_nil, Bool.and_true, Bool.and_self, and_self, Nat.le_refl, true_and, and_true, Nat.le_add_right, leS, ltS, h1, a1, a3, askedX, sb, h0, h2, e3, sub_int, w1, add_int, h6, h7, r1]
        · simp -implicitDefEqProofs only [bnd_some, bo_some, condK_true, condK_false, gdA_undef, decide_true, decide_false, Int.reduceLE, Int.reduceLT, Int.reduceEq, Int.reduceNeg, Int.reduceAdd, gd_tt, gd_tf, gd_ft, gd_ff, unG_pure, lift_some, bnd_lift, Option.map_some, Option.bind_some, fieldPtr_ref, fieldPtr_ip, nil_ref, nil_ip, nil_fn, ex_tup, fl_agg, List.getElem?_cons_zero, List.getElem?_cons_succ, Nat.zero_add, Nat.add_zero, Nat.reduceAdd, pk_t, pk_f, lss_int, leq_int, gtr_int, geq_int, eql_int, neq_int, not_bool, beq_self_eq_true, if_true, Bool.false_eq_true, if_false, List.nil_append, List.cons_append, List.append_nil, alc_eq, mkm_eq, nNew, nPut, bNew, bPut, nGrd, bGrd, ldN_is, ldN_lt, ldaN_is, ldaN_lt, stN_is, stN_lt, Nat.lt_add_one, ne_eq, nx1, nx2, nx3, ny1, ny2, ny3, not_false_eq_true, List.length_cons, List.length_nil, Nat.reduceLeDiff, setAt, List.take_succ_cons, List.take_zero, List.drop_succ_cons, List.drop_zero, cells_dat, cells_int, cells_bool, cells_agg, List.all_cons, List.all_nil, isCell_int, isCell_bool, isCell_dat, isCell_ref, isCell_nil, isCell_vsl, cells_vsl, av_len_cfg, av_len_pkt, av_len_opn, av_len_evn, av_len_ent, av_len_row, av_len_deal, av_len_pck, tk_cfg, tk_pkt, tk_opn, tk_evn, tk_ent, tk_row, tk_deal, tk_pck, all_cfg, all_pkt, all_opn, all_evn, all_ent, all_row, all_deal, all_pck, List.drop_nil, Bool.and_true, Bool.and_self, and_self, Nat.le_refl, true_and, and_true, Nat.le_add_right, leS, ltS, h1, a1, a3, askedX, sb, h0, e3, sub_int, w1, add_int, h6, h7, r1]
  have r1 := key (2 * fab.l.length) 0 (by omega) H0 at_ (Nat.le_refl _) rfl (fun _ _ => rfl) h64 (by
    by_cases h : 0 ≤ at_
    · exact .inl ⟨h, rfl⟩
    · refine .inr ⟨.inl (by omega), ?_⟩
      cases hf : findP fab.pools 0 at_ with
      | none => exact hf
      | some r =>
        obtain ⟨j, k⟩ := r
        obtain ⟨_, l, _, _, _, h5, _⟩ := findP_some hf
        omega)
  have hz : ∀ Hz, freezeA Hz H.next 9 (foundX P fnd) = some (foundX P fnd) := by
    intro Hz
    cases hf : fnd with
    | none => exact frz_tup (fun x hx => by
        simp only [List.mem_cons, List.not_mem_nil, or_false] at hx
        rcases hx with rfl | rfl | rfl
        · exact frz_agg (fun x hx => by
            simp only [List.mem_cons, List.not_mem_nil, or_false] at hx
            rcases hx with rfl | rfl <;> exact frz_s)
        · exact frz_s
        · exact frz_s) Hz _
    | some r =>
      obtain ⟨j, k⟩ := r
      obtain ⟨_, l, hl, _⟩ := findP_some hf
      rw [Nat.sub_zero] at hl
      have hj : j / 2 < fab.l.length := by
        have := (List.getElem?_eq_some_iff.1 hl).1
        omega
      have l1 := F.lt G (i := j / 2) (s := if j % 2 = 0 then 0 else 2) hj (by split <;> omega)
      have l2 := F.lt G (i := j / 2) (s := if j % 2 = 0 then 1 else 3) hj (by split <;> omega)
      refine freeze_tup fun x hx => ?_
      simp only [List.mem_cons, List.not_mem_nil, or_false] at hx
      rcases hx with rfl | rfl | rfl
      · refine freeze_agg fun x hx => ?_
        simp only [askedX, List.mem_cons, List.not_mem_nil, or_false] at hx
        rcases hx with rfl | rfl
        · rw [freezeA]; exact if_pos l1
        · rw [freezeA]; exact if_pos l2
      · exact freeze_s
      · exact freeze_s
  cases hs : sh_60 cl (.ref f 0 0) (I at_) H.guard with
  | none =>
    exfalso
    have e2 := (xs H0).lnS
    simp only [H0] at ep e2 r1
    have : (sh_60 cl (.ref f 0 0) (I at_) H.guard).map Prod.fst = some (foundX P fnd) := by
      simp -implicitDefEqProofs only [bnd_some, bo_some, condK_true, condK_false, gdA_undef, decide_true, decide_false, Int.reduceLE, Int.reduceLT, Int.reduceEq, Int.reduceNeg, Int.reduceAdd, gd_tt, gd_tf, gd_ft, gd_ff, unG_pure, lift_some, bnd_lift, Option.map_some, Option.bind_some, fieldPtr_ref, fieldPtr_ip, nil_ref, nil_ip, nil_fn, ex_tup, fl_agg, List.getElem?_cons_zero, List.getElem?_cons_succ, Nat.zero_add, Nat.add_zero, Nat.reduceAdd, pk_t, pk_f, lss_int, leq_int, gtr_int, geq_int, eql_int, neq_int, not_bool, beq_self_eq_true, if_true, Bool.false_eq_true, if_false, List.nil_append, List.cons_append, List.append_nil, alc_eq, mkm_eq, nNew, nPut, bNew, bPut, nGrd, bGrd, ldN_is, ldN_lt, ldaN_is, ldaN_lt, stN_is, stN_lt, Nat.lt_add_one, ne_eq, nx1, nx2, nx3, ny1, ny2, ny3, not_false_eq_true, List.length_cons, List.length_nil, Nat.reduceLeDiff, setAt, List.take_succ_cons, List.take_zero, List.drop_succ_cons, List.drop_zero, cells_dat, cells_int, cells_bool, cells_agg, List.all_cons, List.all_nil, isCell_int, isCell_bool, isCell_dat, isCell_ref, isCell_nil, isCell_vsl, cells_vsl, av_len_cfg, av_len_pkt, av_len_opn, av_len_evn, av_len_ent, av_len_row, av_len_deal, av_len_pck, tk_cfg, tk_pkt, tk_opn, tk_evn, tk_ent, tk_row, tk_deal, tk_pck, all_cfg, all_pkt, all_opn, all_evn, all_ent, all_row, all_deal, all_pck, List.drop_nil, Bool.and_true, Bool.and_self, and_self, Nat.le_refl, true_and, and_true, Nat.le_add_right, leS, ltS, sh_60, ep, e2]
      exact r1
    rw [hs] at this; cases this
  | some r =>
    have e2 := (xs H0).lnS
    simp only [H0] at ep e2 r1
    have : (sh_60 cl (.ref f 0 0) (I at_) H.guard).map Prod.fst = some (foundX P fnd) := by
      simp -implicitDefEqProofs only [bnd_some, bo_some, condK_true, condK_false, gdA_undef, decide_true, decide_false, Int.reduceLE, Int.reduceLT, Int.reduceEq, Int.reduceNeg, Int.reduceAdd, gd_tt, gd_tf, gd_ft, gd_ff, unG_pure, lift_some, bnd_lift, Option.map_some, Option.bind_some, fieldPtr_ref, fieldPtr_ip, nil_ref, nil_ip, nil_fn, ex_tup, fl_agg, List.getElem?_cons_zero, List.getElem?_cons_succ, Nat.zero_add, Nat.add_zero, Nat.reduceAdd, pk_t, pk_f, lss_int, leq_int, gtr_int, geq_int, eql_int, neq_int, not_bool, beq_self_eq_true, if_true, Bool.false_eq_true, if_false, List.nil_append, List.cons_append, List.append_nil, alc_eq, mkm_eq, nNew, nPut, bNew, bPut, nGrd, bGrd, ldN_is, ldN_lt, ldaN_is, ldaN_lt, stN_is, stN_lt, Nat.lt_add_one, ne_eq, nx1, nx2, nx3, ny1, ny2, ny3, not_false_eq_true, List.length_cons, List.length_nil, Nat.reduceLeDiff, setAt, List.take_succ_cons, List.take_zero, List.drop_succ_cons, List.drop_zero, cells_dat, cells_int, cells_bool, cells_agg, List.all_cons, List.all_nil, isCell_int, isCell_bool, isCell_dat, isCell_ref, isCell_nil, isCell_vsl, cells_vsl, av_len_cfg, av_len_pkt, av_len_opn, av_len_evn, av_len_ent, av_len_row, av_len_deal, av_len_pck, tk_cfg, tk_pkt, tk_opn, tk_evn, tk_ent, tk_row, tk_deal, tk_pck, all_cfg, all_pkt, all_opn, all_evn, all_ent, all_row, all_deal, all_pck, List.drop_nil, Bool.and_true, Bool.and_self, and_self, Nat.le_refl, true_and, and_true, Nat.le_add_right, leS, ltS, sh_60, ep, e2]
      exact r1
    rw [hs] at this
    simp only [Option.map_some, Option.some.injEq] at this
    obtain ⟨v, Hz⟩ := r
    simp only at this
    subst this
    exact pure_cl rfl rfl (rn_60 _ _ _ _ hs) (hz Hz)
/-- The packet at a place. -/
def Fab.pkt (f : Fab) (at_ : Int) : Option Pkt := if at_ < 0 then none else f.all[at_.toNat]?
theorem packet_sp (G : Good b H g) (F : FabIs g f P c fab) (hn : fab.l.length < 1000) (h0 : fab.l.length ≠ 0) (hr : ∀ l ∈ fab.pools, l.length < 1000 ∧ ∀ p ∈ l, p.data.length < 1000000000) (at_ : Int) (h64 : In64 at_) :
    cl 33 [.ref f 0 0, I at_] H = some (optPkt (fab.pkt at_), H) := by
  have G1 := G.guard.new (.blk 0 78 [zI, zI, zI, zI, zI, zI, zI, zB, zN])
  have e1 := find_sp G1 F hn h0 (fun l hl => (hr l hl).1) at_ h64
  have hall : fab.pools.flatten = fab.all := pools_flat fab.l
  refine pure_val rfl rfl (rn_33 _ _ _ _) ?_ (frz_optPkt _)
  cases hf : findP fab.pools 0 at_ with
  | none =>
    rw [hf] at e1
    have hp : fab.pkt at_ = none := by
      have := findP_none hf
      rw [hall] at this
      unfold Fab.pkt
      split
      · rfl
      · rw [List.getElem?_eq_none (by omega)]
    have zc : ([zP, zP] : List AV).all AV.isCell = true := rfl
    simp -implicitDefEqProofs only [bnd_some, bo_some, condK_true, condK_false, gdA_undef, decide_true, decide_false, Int.reduceLE, Int.reduceLT, Int.reduceEq, Int.reduceNeg, Int.reduceAdd, gd_tt, gd_tf, gd_ft, gd_ff, unG_pure, lift_some, bnd_lift, Option.map_some, Option.bind_some, fieldPtr_ref, fieldPtr_ip, nil_ref, nil_ip, nil_fn, ex_tup, fl_agg, List.getElem?_cons_zero, List.getElem?_cons_succ, Nat.zero_add, Nat.add_zero, Nat.reduceAdd, pk_t, pk_f, lss_int, leq_int, gtr_int, geq_int, eql_int, neq_int, not_bool, beq_self_eq_true, if_true, Bool.false_eq_true, if_false, List.nil_append, List.cons_append, List.append_nil, alc_eq, mkm_eq, nNew, nPut, bNew, bPut, nGrd, bGrd, ldN_is, ldN_lt, ldaN_is, ldaN_lt, stN_is, stN_lt, Nat.lt_add_one, ne_eq, nx1, nx2, nx3, ny1, ny2, ny3, not_false_eq_true, List.length_cons, List.length_nil, Nat.reduceLeDiff, setAt, List.take_succ_cons, List.take_zero, List.drop_succ_cons, List.drop_zero, cells_dat, cells_int, cells_bool, cells_agg, List.all_cons, List.all_nil, isCell_int, isCell_bool, isCell_dat, isCell_ref, isCell_nil, isCell_vsl, cells_vsl, av_len_cfg, av_len_pkt, av_len_opn, av_len_evn, av_len_ent, av_len_row, av_len_deal, av_len_pck, tk_cfg, tk_pkt, tk_opn, tk_evn, tk_ent, tk_row, tk_deal, tk_pck, all_cfg, all_pkt, all_opn, all_evn, all_ent, all_row, all_deal, all_pck, List.drop_nil, Bool.and_true, Bool.and_self, and_self, Nat.le_refl, true_and, and_true, Nat.le_add_right, leS, ltS, sh_33, e1, foundX, zc, bd_78, bldA, fillA_nil, hp, optPkt, zero_pkt, Option.getD_none, Option.isSome_none, Bool.not_false]
  | some r =>
    obtain ⟨j, k⟩ := r
    rw [hf] at e1
    obtain ⟨_, l, h2, h3, h4, h5, h6⟩ := findP_some hf
    rw [Nat.sub_zero] at h2
    have p3 := portLt F h2
    have hp : fab.pkt at_ = l[k.toNat]? := by
      unfold Fab.pkt
      rw [if_neg (by omega), ← hall, h6]
    have e2 := fun o => poolGet (G1.new o) p3 (hr l (List.mem_of_getElem? h2)).1 (hr l (List.mem_of_getElem? h2)).2 k
    have hk : ¬ k < 0 := by omega
    have ha : ¬ at_ < 0 := by omega
    simp only [hk, if_false] at e2
    rw [hp]
    obtain ⟨p, hpp⟩ : ∃ p, l[k.toNat]? = some p := ⟨_, List.getElem?_eq_getElem (by omega)⟩
    rw [hpp] at e2 ⊢
    simp -implicitDefEqProofs only [bnd_some, bo_some, condK_true, condK_false, gdA_undef, decide_true, decide_false, Int.reduceLE, Int.reduceLT, Int.reduceEq, Int.reduceNeg, Int.reduceAdd, gd_tt, gd_tf, gd_ft, gd_ff, unG_pure, lift_some, bnd_lift, Option.map_some, Option.bind_some, fieldPtr_ref, fieldPtr_ip, nil_ref, nil_ip, nil_fn, ex_tup, fl_agg, List.getElem?_cons_zero, List.getElem?_cons_succ, Nat.zero_add, Nat.add_zero, Nat.reduceAdd, pk_t, pk_f, lss_int, leq_int, gtr_int, geq_int, eql_int, neq_int, not_bool, beq_self_eq_true, if_true, Bool.false_eq_true, if_false, List.nil_append, List.cons_append, List.append_nil, alc_eq, mkm_eq, nNew, nPut, bNew, bPut, nGrd, bGrd, ldN_is, ldN_lt, ldaN_is, ldaN_lt, stN_is, stN_lt, Nat.lt_add_one, ne_eq, nx1, nx2, nx3, ny1, ny2, ny3, not_false_eq_true, List.length_cons, List.length_nil, Nat.reduceLeDiff, setAt, List.take_succ_cons, List.take_zero, List.drop_succ_cons, List.drop_zero, cells_dat, cells_int, cells_bool, cells_agg, List.all_cons, List.all_nil, isCell_int, isCell_bool, isCell_dat, isCell_ref, isCell_nil, isCell_vsl, cells_vsl, av_len_cfg, av_len_pkt, av_len_opn, av_len_evn, av_len_ent, av_len_row, av_len_deal, av_len_pck, tk_cfg, tk_pkt, tk_opn, tk_evn, tk_ent, tk_row, tk_deal, tk_pck, all_cfg, all_pkt, all_opn, all_evn, all_ent, all_row, all_deal, all_pck, List.drop_nil, Bool.and_true, Bool.and_self, and_self, Nat.le_refl, true_and, and_true, Nat.le_add_right, leS, ltS, sh_33, e1, foundX, askedX, ha, e2, optPkt, Option.getD_some, Option.isSome_some, Bool.not_true]
end

end Go.Proofs.YtlcdejlbmnjlaaaGreat

namespace Go.Proofs.YtlcdejlbmnjlaaaGreat

theorem ixa_ref {len m r g off : Nat} {k : IntKind} {n : Int} {H : AHeap} (h0 : 0 ≤ n) (h1 : n < len) : ixa len m (.ref r g off) (.s (.int k n)) H = some (.ref r g (off + n.toNat * m), H) := by
  simp only [ixa, lookB, ixaO, watchV, Option.map_some, h0, h1, and_self, if_true]
theorem Own.ref {b : Nat} {H : AHeap} {x : AV} {m n : Nat} {l : List AV} (o : Own b H x m l) (hm : 0 < m) (hl : l.length = n * m) {j : Nat} (hj : j < n) :
    ∃ r gg off, (∀ k : IntKind, ix m x (.s (.int k j)) H = some (.ref r gg off, H)) ∧ (∀ k, k < m → ld (.ref r gg (off + k)) H = (l[j * m + k]?).map fun v => (v, H)) ∧ lda m (.ref r gg off) H = some (.agg ((l.drop (j * m)).take m), H) := by
  have hs := o.is hm hl
  have hjm : (j + 1) * m ≤ n * m := Nat.mul_le_mul_right _ (by omega)
  rw [Nat.add_mul, Nat.one_mul] at hjm
  rcases o with ⟨_, h0⟩ | ⟨r, gg, off, n', cap, ex, ty, all, rfl, k2, k3, k4, k5, k6, k7, k8⟩
  · rw [h0] at hl; simp only [List.length_nil] at hl; omega
  have hn : n' = n := hs.2.2.1
  subst hn
  have hcm : n' * m ≤ cap * m := Nat.mul_le_mul_right _ k4
  refine ⟨r, gg, off + j * m, fun k => ?_, fun k hk => ?_, ?_⟩
  · have := hs.ix (k := k) (i := (j : Int)) (by omega) (by omega)
    rw [Int.toNat_natCast] at this
    exact this
  · rw [ld_blk k5, k8, List.getElem?_take, if_pos (by omega), List.getElem?_drop, Nat.add_assoc]
  · rw [lda_blk k5 (by omega), k8]
    congr 3
    rw [List.drop_take, List.drop_drop, List.take_take, Nat.min_eq_left (by omega)]
theorem Own.step2 {b : Nat} {H : AHeap} {m n k : Nat} {x y : AV} {l new : List AV} (c : Own b H x m l) (hbn : b ≤ H.next) (hb : H.base ≤ b) (hm : 0 < m) (hl : l.length = n * m) (hy : SliceIs H y m k new) (hc : new.all AV.isCell = true) {e : TypeId} {by_ : Nat} (h1 : n + k ≤ most) (h2 : (n + k) * by_ ≤ most) :
    ∃ x' H1, Go.Proofs.YtlcdejlbmnjlaaaGreat.app e m by_ x y H = some (x', H1) ∧ Own b H1 x' m (l ++ new) ∧ Step b H H1 ∧ ∀ r, r < H.next → nameOf x ≠ some r → H1.get r = H.get r := by
  obtain ⟨x', H1, e1, f, n1, b1, k1⟩ := c.app hb hm hl hy hc (e := e) (by_ := by_) h1 h2
  obtain ⟨x2, H2, e2, o2, s2⟩ := c.step hbn hb hm hl hy hc (e := e) (by_ := by_) h1 h2
  rw [e1] at e2
  cases e2
  exact ⟨x', H1, e1, o2, s2, k1⟩
theorem Own.name {b : Nat} {H : AHeap} {m : Nat} {x : AV} {l : List AV} (c : Own b H x m l) {r : Nat} (h : nameOf x = some r) : b ≤ r ∧ r < H.next := by
  rcases c with ⟨rfl, _⟩ | ⟨r', g, off, n', cap, ex, ty, all, rfl, k2, k3, _⟩
  · cases h
  · simp only [nameOf, Option.some.injEq] at h; omega
theorem freeze_ownAny {H1 : AHeap} {n d m k : Nat} {x : AV} {cells : List AV} (c : Own n H1 x m cells) (hm : 0 < m) (hl : cells.length = k * m) (hz : ∀ y ∈ cells, freezeA H1 n d y = some y) : ∃ y, freezeA H1 n (d + 1) x = some y ∧ ∀ H' : AHeap, SliceIs H' y m k cells := by
  by_cases hx : x = zN
  · subst hx
    have hs := c.is hm hl
    have hk : k = 0 := hs.2.2.2
    have hc : cells = [] := List.eq_nil_of_length_eq_zero (by rw [hl, hk, Nat.zero_mul])
    subst hk; subst hc
    exact ⟨zN, freeze_s, fun H' => SliceIs.nil⟩
  · have hs := c.is hm hl
    obtain ⟨c1, c2⟩ := hs.cells_
    rcases c with ⟨h, _⟩ | ⟨r, g, off, n', cap, ex, ty, all, rfl, k2, k3, k4, k5, k6, k7, rfl⟩
    · exact absurd h hx
    · have hn : n' = k := hs.2.2.1
      subst hn
      exact ⟨.vs n' m _, freeze_sl k2 c2 (freeze_all _ hz), fun H' => SliceIs.vs hl⟩
theorem pktR_freeze {b : Nat} {H Hz : AHeap} {g : Store} (G : Good b H g) {l : List Pkt} {cells : List AV} (h : EncL (PktR g) l cells) {d : Nat} : ∀ y ∈ cells, freezeA Hz H.next (d + 2) y = some y := by
  induction h with
  | nil => intro y hy; cases hy
  | cons h1 _ ih =>
    intro y hy
    rcases List.mem_append.1 hy with hy | hy
    · obtain ⟨x, hx, rfl⟩ := h1
      simp only [Pkt.avx, List.mem_cons, List.not_mem_nil, or_false] at hy
      rcases hy with rfl | rfl | rfl | rfl | rfl | rfl | rfl | rfl | rfl
      iterate 8 exact freeze_s
      rcases hx with rfl | ⟨q, ex, _, rfl, hq⟩
      · exact frz_dat Hz _
      · rw [freezeA]; exact if_pos (G.lt hq)
    · exact ih y hy
section
variable {b : Nat} {H : AHeap} {g : Store} {q f : Nat} {N : Nat → Nat → Nat} {m : RMach}
def RMach.all (m : RMach) : List Pkt := m.fab.flatMap fun p => p.rq ++ p.an
theorem portLs_get {l : List Port} {i : Nat} {p : Port} (h : l[i]? = some p) {s : Nat} (hs : s < 4) : (l.flatMap portLs)[i * 4 + s]? = (portLs p)[s]? :=
  flat_elem' l i p h hs
where
  flat_elem' (l : List Port) (i : Nat) (p : Port) (hi : l[i]? = some p) {k : Nat} (hk : k < 4) : (l.flatMap portLs)[i * 4 + k]? = (portLs p)[k]? := by
    induction l generalizing i with
    | nil => simp at hi
    | cons a l ih =>
      cases i with
      | zero =>
        simp only [List.getElem?_cons_zero, Option.some.injEq] at hi
        subst hi
        rw [List.flatMap_cons, Nat.zero_mul, Nat.zero_add, List.getElem?_append_left (by simp [portLs]; omega)]
      | succ i =>
        rw [List.flatMap_cons, List.getElem?_append_right (by simp [portLs]; omega)]
        have : (i + 1) * 4 + k - (portLs a).length = i * 4 + k := by simp [portLs]; omega
        rw [this]
        exact ih i (by simpa using hi)
/-- A part of a node's side of the network. -/
theorem RMachIs.side (G : Good b H g) (M : RMachIs g q f N m) : ∃ S xs, ld (.ref f 0 8) H = some (S, H) ∧ Own b H S 4 xs ∧ xs.length = m.fab.length * 4 ∧
    ∀ (i : Nat) p, m.fab[i]? = some p → ∀ (s : Nat) l, (portLs p)[s]? = some l → ∃ y cells, xs[i * 4 + s]? = some y ∧ Own b H y 9 cells ∧ EncL (PktR g) l cells := by
  obtain ⟨ls, h1, h2, h3⟩ := M.fab
  obtain ⟨S, xs, a1, a2, a3, a4⟩ := G.seqs h1 (i := 8) rfl
  refine ⟨S, xs, a1, a2, by omega, fun i p hp s l hl => ?_⟩
  have hs : s < 4 := by
    have := (List.getElem?_eq_some_iff.1 hl).1
    simpa [portLs] using this
  have hi : i < m.fab.length := (List.getElem?_eq_some_iff.1 hp).1
  have hg : (m.fab.flatMap portLs)[i * 4 + s]? = some l := by rw [portLs_get hp hs, hl]
  obtain ⟨cells, hc⟩ : ∃ c, ls[i * 4 + s]? = some c := ⟨_, List.getElem?_eq_getElem (by omega)⟩
  obtain ⟨y, hy⟩ : ∃ y, xs[i * 4 + s]? = some y := ⟨_, List.getElem?_eq_getElem (by omega)⟩
  exact ⟨y, cells, hy, a4 _ _ _ hc hy, h3 _ _ _ hg hc⟩
theorem runder_sp (G : Good b H g) (M : RMachIs g q f N m) (hn : m.fab.length < 1000) (hr : ∀ p ∈ m.fab, p.rq.length < 1000 ∧ p.an.length < 1000) :
    ∃ x cells, cl 31 [.ref f 0 0] H = some (x, H) ∧ (∀ H' : AHeap, SliceIs H' x 9 m.all.length cells) ∧ EncL (PktR g) m.all cells := by
  obtain ⟨S, xs, a1, a2, a3, a4⟩ := M.side G.guard
  have e2 := (a2.is (by decide) a3).lnS
  let pre : Nat → List Pkt := fun j => (m.fab.take j).flatMap fun p => p.rq ++ p.an
  have epre : ∀ j p, m.fab[j]? = some p → pre (j + 1) = pre j ++ p.rq ++ p.an := fun j p hp => by
    simp only [pre, List.take_add_one, hp, Option.toList_some, List.flatMap_append, List.flatMap_cons, List.flatMap_nil, List.append_nil, List.append_assoc]
  have hpre : ∀ j, (pre j).length ≤ j * 2000 := by
    intro j
    induction j with
    | zero =>
      have : pre 0 = [] := rfl
      rw [this, List.length_nil]; exact Nat.zero_le _
    | succ j ih =>
      cases hj : m.fab[j]? with
      | none =>
        have : pre (j + 1) = pre j := by simp only [pre, List.take_add_one, hj, Option.toList_none, List.append_nil]
        rw [this]; exact Nat.le_trans ih (Nat.mul_le_mul_right _ (Nat.le_succ j))
      | some p =>
        have := hr p (List.mem_of_getElem? hj)
        rw [epre j p hj, List.length_append, List.length_append]; omega
  have key : ∀ k j, j + k = m.fab.length → ∀ (Hi : AHeap) (t : AV) (cells : List AV), Own H.next Hi t 9 cells → EncL (PktR g) (pre j) cells → Step H.next H.guard Hi →
      ∃ v Hz cells', lp_31x0 cl [t, S, I m.fab.length, I j] Hi = some (v, Hz) ∧ Own H.next Hz v 9 cells' ∧ EncL (PktR g) m.all cells' := by
    intro k
    induction k with
    | zero =>
      intro j hj Hi t cells o e s
      have h1 : ¬ (j : Int) < m.fab.length := by omega
      rw [le_31x0]
      refine ⟨t, Hi, cells, ?_, o, ?_⟩
      · simp -implicitDefEqProofs only [bnd_some, bo_some, condK_true, condK_false, gdA_undef, decide_true, decide_false, Int.reduceLE, Int.reduceLT, Int.reduceEq, Int.reduceNeg, Int.reduceAdd, gd_tt, gd_tf, gd_ft, gd_ff, unG_pure, lift_some, bnd_lift, Option.map_some, Option.bind_some, fieldPtr_ref, fieldPtr_ip, nil_ref, nil_ip, nil_fn, ex_tup, fl_agg, List.getElem?_cons_zero, List.getElem?_cons_succ, Nat.zero_add, Nat.add_zero, Nat.reduceAdd, pk_t, pk_f, lss_int, leq_int, gtr_int, geq_int, eql_int, neq_int, not_bool, beq_self_eq_true, if_true, Bool.false_eq_true, if_false, List.nil_append, List.cons_append, List.append_nil, alc_eq, mkm_eq, nNew, nPut, bNew, bPut, nGrd, bGrd, h1]
      · have : pre j = m.all := by simp only [pre]; rw [List.take_of_length_le (by omega)]; rfl
        rw [← this]; exact e
    | succ k ih =>
      intro j hj Hi t cells o e s
      have h1 : (j : Int) < m.fab.length := by omega
      have h6 : (j : Int) + 1 = ((j + 1 : Nat) : Int) := by omega
      have h7 := wrap_i64 (a := ((j + 1 : Nat) : Int)) (by omega) (by omega)
      obtain ⟨p, hp⟩ : ∃ p, m.fab[j]? = some p := ⟨_, List.getElem?_eq_getElem (by omega)⟩
      have hpl := hr p (List.mem_of_getElem? hp)
      obtain ⟨y0, c0, b1, b2, b3⟩ := a4 j p hp 0 _ rfl
      obtain ⟨y1, c1, d1, d2, d3⟩ := a4 j p hp 1 _ rfl
      obtain ⟨y2, c2, d4, d5, _⟩ := a4 j p hp 2 _ rfl
      obtain ⟨y3, c3, d6, d7, _⟩ := a4 j p hp 3 _ rfl
      have hdt : (xs.drop (j * 4)).take 4 = [y0, y1, y2, y3] := by
        apply List.ext_getElem?
        intro i
        rcases Nat.lt_or_ge i 4 with hi | hi
        · rw [List.getElem?_take, if_pos hi, List.getElem?_drop]
          have : i = 0 ∨ i = 1 ∨ i = 2 ∨ i = 3 := by omega
          rcases this with rfl | rfl | rfl | rfl
          · rw [b1]; rfl
          · rw [d1]; rfl
          · rw [d4]; rfl
          · rw [d6]; rfl
        · rw [List.getElem?_take, if_neg (by omega), List.getElem?_eq_none (by simpa using hi)]
      obtain ⟨r, gg, off, i1, i2, i3⟩ := (a2.ext (H' := Hi) s.next s.low).ref (by decide) a3 (j := j) (by omega)
      have i1 := i1 .i64
      rw [hdt] at i3
      have hall : [y0, y1, y2, y3].all AV.isCell = true := by simp [b2.one.2, d2.one.2, d5.one.2, d7.one.2]
      let o1 : AObj := .blk 0 131 [y0, y1, y2, y3]
      let H1 := Hi.new o1
      have sb : Hi.base = H.next := s.base
      have sn : H.next ≤ Hi.next := s.next
      have l0 := b3.length pktR_len
      have l1 := d3.length pktR_len
      have lc := e.length pktR_len
      have s1 : SliceIs H1 y0 9 p.rq.length c0 := ((b2.is (by decide) l0).of_get (H' := Hi) s.next fun r _ hr => s.low r hr).new o1
      obtain ⟨v', H2, t1, t2, t3, t0⟩ := (o.new o1).step2 (e := 78) (by_ := 88) (by simp only [nNew]; omega) (by simp only [bNew]; omega) (by decide) lc s1 (b3.all pktR_all) (by have := hpre j; unfold most; omega) (by have := hpre j; unfold most; omega)
      have s12 := (s.trans (Step.new o1 (by omega))).trans t3
      have s2 : SliceIs H2 y1 9 p.an.length c1 := (d2.is (by decide) l1).of_get (H' := H2) s12.next fun r _ hr => s12.low r hr
      have e01 := e.append b3
      obtain ⟨v'', H3, t4, t5, t6⟩ := t2.step (e := 78) (by_ := 88) (Nat.le_trans (Nat.le_succ_of_le sn) t3.next) (by rw [s12.base]; exact Nat.le_refl _) (by decide) (e01.length pktR_len) s2 (d3.all pktR_all) (by have := hpre j; rw [List.length_append]; unfold most; omega) (by have := hpre j; rw [List.length_append]; unfold most; omega)
      obtain ⟨v, Hz, cells', r1, r2, r3⟩ := ih (j + 1) (by omega) H3 v'' _ t5 (epre j p hp ▸ e01.append d3) (s12.trans t6)
      refine ⟨v, Hz, cells', ?_, r2, r3⟩
      rw [le_31x0]
      have hbase : Hi.base ≤ Hi.next := by omega
      have low1 : ∀ H' : AHeap, (H' = H1) → H'.get Hi.next = .blk 0 131 [y0, y1, y2, y3] := fun H' h => by rw [h]; exact getNew_is rfl
      have g1 := low1 H1 rfl
      have g2 : H2.get Hi.next = .blk 0 131 [y0, y1, y2, y3] := by
        rw [t0 _ (by show Hi.next < Hi.next + 1; omega) (fun e => by have := (o.name e).2; omega), g1]
      have ld0 : ld (.ref Hi.next 0 0) H1 = some (y0, H1) := by rw [ld_blk g1]; rfl
      have ld1 : ld (.ref Hi.next 0 1) H2 = some (y1, H2) := by rw [ld_blk g2]; rfl
      have x0 : ∀ H', ixa 2 1 (.ref Hi.next 0 0) (I 0) H' = some (.ref Hi.next 0 0, H') := fun H' => ixa_ref (by decide) (by decide)
      have x1 : ∀ H', ixa 2 1 (.ref Hi.next 0 0) (I 1) H' = some (.ref Hi.next 0 1, H') := fun H' => ixa_ref (by decide) (by decide)
      have ec : ∀ {β : Type} (k : Option β), ck (watchV (.ref Hi.next 0 0)) H1 H2 k = k := fun k => ck_of fun r hr => by cases hr; rw [g2, g1]
      have ec' : ∀ {β : Type} (k : Option β), ck (watchV (.ref Hi.next 0 1)) H1 H2 k = k := fun k => ck_of fun r hr => by cases hr; rw [g2, g1]
      have ez : st 4 (.ref Hi.next 0 0) (.agg [y0, y1, y2, y3]) (Hi.new (.blk 0 131 [zN, zN, zN, zN])) = some (undefA, H1) := by
        refine (st_new (n := 4) (off := 0) (v := .agg [y0, y1, y2, y3]) (ty := 131) (xs := [zN, zN, zN, zN]) (getNew_is rfl) hbase hall rfl (Nat.le_refl 4)).trans ?_
        rw [put_new]; rfl
      simp only [H1, o1] at ld0 t1 ec ec' ez
      simp -implicitDefEqProofs only [bnd_some, bo_some, condK_true, condK_false, gdA_undef, decide_true, decide_false, Int.reduceLE, Int.reduceLT, Int.reduceEq, Int.reduceNeg, Int.reduceAdd, gd_tt, gd_tf, gd_ft, gd_ff, unG_pure, lift_some, bnd_lift, Option.map_some, Option.bind_some, fieldPtr_ref, fieldPtr_ip, nil_ref, nil_ip, nil_fn, ex_tup, fl_agg, List.getElem?_cons_zero, List.getElem?_cons_succ, Nat.zero_add, Nat.add_zero, Nat.reduceAdd, pk_t, pk_f, lss_int, leq_int, gtr_int, geq_int, eql_int, neq_int, not_bool, beq_self_eq_true, if_true, Bool.false_eq_true, if_false, List.nil_append, List.cons_append, List.append_nil, alc_eq, mkm_eq, nNew, nPut, bNew, bPut, nGrd, bGrd, h1, i1, i3, ez, x0, x1, ld0, t1, ld1, t4, ec, ec', add_int, h6, h7, r1]
  obtain ⟨v, Hz, cells', r1, r2, r3⟩ := key m.fab.length 0 (by omega) H.guard zN [] (.inl ⟨rfl, rfl⟩) (by simp only [pre, List.take_zero, List.flatMap_nil]; exact .nil) (Step.refl _ _)
  obtain ⟨y, f1, f2⟩ := freeze_ownAny (d := 8) r2 (by decide) (r3.length pktR_len) (pktR_freeze G r3)
  refine ⟨y, cells', pure_cl rfl rfl (rn_31 _ _ _ (r := (v, Hz)) ?_) f1, f2, r3⟩
  simp -implicitDefEqProofs only [bnd_some, bo_some, condK_true, condK_false, gdA_undef, decide_true, decide_false, Int.reduceLE, Int.reduceLT, Int.reduceEq, Int.reduceNeg, Int.reduceAdd, gd_tt, gd_tf, gd_ft, gd_ff, unG_pure, lift_some, bnd_lift, Option.map_some, Option.bind_some, fieldPtr_ref, fieldPtr_ip, nil_ref, nil_ip, nil_fn, ex_tup, fl_agg, List.getElem?_cons_zero, List.getElem?_cons_succ, Nat.zero_add, Nat.add_zero, Nat.reduceAdd, pk_t, pk_f, lss_int, leq_int, gtr_int, geq_int, eql_int, neq_int, not_bool, beq_self_eq_true, if_true, Bool.false_eq_true, if_false, List.nil_append, List.cons_append, List.append_nil, alc_eq, mkm_eq, nNew, nPut, bNew, bPut, nGrd, bGrd, sh_31, a1, e2]
  exact r1
end

end Go.Proofs.YtlcdejlbmnjlaaaGreat

namespace Go.Proofs.YtlcdejlbmnjlaaaGreat

section
variable {b : Nat} {H : AHeap} {g : Store} {q f : Nat} {N : Nat → Nat → Nat} {m : RMach}
theorem rwaiting_sp (G : Good b H g) (M : RMachIs g q f N m) (hn : m.fab.length < 1000) {i : Nat} {p : Port} (hp : m.fab[i]? = some p) (h : p.rin.length < 1000 ∧ p.ain.length < 1000) :
    cl 36 [.ref f 0 0, I i, I 0] H = some (I p.rin.length, H) ∧ cl 36 [.ref f 0 0, I i, I 1] H = some (I p.ain.length, H) := by
  obtain ⟨S, xs, a1, a2, a3, a4⟩ := M.side G.guard
  have hi : i < m.fab.length := (List.getElem?_eq_some_iff.1 hp).1
  have e2 := (a2.is (by decide) a3).lnS
  have h1 : ¬ (m.fab.length : Int) ≤ i := by omega
  have h0 : ¬ (i : Int) < 0 := by omega
  obtain ⟨r, gg, off, i1, i2, i3⟩ := a2.ref (by decide) a3 (j := i) hi
  have i1 := i1 .i64
  have x0 : ∀ H', ixa 2 1 (.ref r gg (off + 2)) (I 0) H' = some (.ref r gg (off + 2), H') := fun H' => ixa_ref (by decide) (by decide)
  have x1 : ∀ H', ixa 2 1 (.ref r gg (off + 2)) (I 1) H' = some (.ref r gg (off + 3), H') := fun H' => ixa_ref (by decide) (by decide)
  obtain ⟨y2, c2, b1, b2, b3⟩ := a4 i p hp 2 _ rfl
  obtain ⟨y3, c3, d1, d2, d3⟩ := a4 i p hp 3 _ rfl
  have l2 := i2 2 (by decide)
  have l3 := i2 3 (by decide)
  rw [b1] at l2
  rw [d1] at l3
  have n2 := (b2.is (by decide) (b3.length pktR_len)).lnS
  have n3 := (d2.is (by decide) (d3.length pktR_len)).lnS
  constructor
  · refine pure_val rfl rfl (rn_36 _ _ _ _ _) ?_ frz_s
    simp -implicitDefEqProofs only [bnd_some, bo_some, condK_true, condK_false, gdA_undef, decide_true, decide_false, Int.reduceLE, Int.reduceLT, Int.reduceEq, Int.reduceNeg, Int.reduceAdd, gd_tt, gd_tf, gd_ft, gd_ff, unG_pure, lift_some, bnd_lift, Option.map_some, Option.bind_some, fieldPtr_ref, fieldPtr_ip, nil_ref, nil_ip, nil_fn, ex_tup, fl_agg, List.getElem?_cons_zero, List.getElem?_cons_succ, Nat.zero_add, Nat.add_zero, Nat.reduceAdd, pk_t, pk_f, lss_int, leq_int, gtr_int, geq_int, eql_int, neq_int, not_bool, beq_self_eq_true, if_true, Bool.false_eq_true, if_false, List.nil_append, List.cons_append, List.append_nil, alc_eq, mkm_eq, nNew, nPut, bNew, bPut, nGrd, bGrd, sh_36, h0, a1, e2, h1, i1, x0, l2, n2]
  · refine pure_val rfl rfl (rn_36 _ _ _ _ _) ?_ frz_s
    simp -implicitDefEqProofs only [bnd_some, bo_some, condK_true, condK_false, gdA_undef, decide_true, decide_false, Int.reduceLE, Int.reduceLT, Int.reduceEq, Int.reduceNeg, Int.reduceAdd, gd_tt, gd_tf, gd_ft, gd_ff, unG_pure, lift_some, bnd_lift, Option.map_some, Option.bind_some, fieldPtr_ref, fieldPtr_ip, nil_ref, nil_ip, nil_fn, ex_tup, fl_agg, List.getElem?_cons_zero, List.getElem?_cons_succ, Nat.zero_add, Nat.add_zero, Nat.reduceAdd, pk_t, pk_f, lss_int, leq_int, gtr_int, geq_int, eql_int, neq_int, not_bool, beq_self_eq_true, if_true, Bool.false_eq_true, if_false, List.nil_append, List.cons_append, List.append_nil, alc_eq, mkm_eq, nNew, nPut, bNew, bPut, nGrd, bGrd, sh_36, h0, a1, e2, h1, i1, x1, l3, n3]
def RMach.left (m : RMach) : Int := (m.nodes.map fun n => (n.ops.length : Int) - n.values.length).sum
/-- A node's slices, as long as they are. -/
theorem RNodeIs.lens2 (G : Good b H g) {a : Nat → Nat} {c : Cfg} {me : Int} {n : RNode} (M : RNodeIs g a c me n) :
    ∃ x y, ld (.ref (a 0) 0 11) H = some (x, H) ∧ lnS x H = some (I n.ops.length, H) ∧ ld (.ref (a 0) 0 13) H = some (y, H) ∧ lnS y H = some (I n.values.length, H) ∧ SliceIs H y 1 n.values.length (n.values.map I) := by
  obtain ⟨⟨d, _, h0⟩, _, _⟩ := M
  obtain ⟨x, hx, cx⟩ := G.seq h0 (i := 11) (m := 3) (l := n.ops.flatMap Opn.av) rfl
  obtain ⟨y, hy, cy⟩ := G.seq h0 (i := 13) (m := 1) (l := n.values.map I) rfl
  have hs := cy.is (n := n.values.length) (by decide) (by simp)
  exact ⟨x, y, hx, (cx.is (by decide) (flat_len av_len_opn _)).lnS, hy, hs.lnS, hs⟩
theorem RMachIs.nodeAt (G : Good b H g) (M : RMachIs g q f N m) : ∃ x, ld (.ref q 0 9) H = some (x, H) ∧ lnS x H = some (I m.nodes.length, H) ∧ ∀ j : Nat, j < m.nodes.length → ∃ p, (∀ k : IntKind, ix 1 x (.s (.int k j)) H = some (p, H)) ∧ ld p H = some (.ref (N j 0) 0 0, H) := by
  obtain ⟨x, hx, cx⟩ := G.seq M.mach (i := 9) (m := 1) (l := nodesX N m.nodes.length) rfl
  have hs := cx.is (n := m.nodes.length) (by decide) (nodes_len _ _)
  refine ⟨x, hx, hs.lnS, fun j hj => ?_⟩
  obtain ⟨r, gg, o, a1, a2, _⟩ := cx.elemAt (by decide) (nodes_len _ _) (j := j) hj
  have a2 := a2 0 (by decide)
  rw [Nat.mul_one, Nat.add_zero, Nat.add_zero, nodes_get hj] at a2
  exact ⟨_, a1, a2⟩
theorem rleft_sp (G : Good b H g) (M : RMachIs g q f N m) (hn : m.nodes.length < 1000) (ho : ∀ n ∈ m.nodes, n.ops.length < 1000 ∧ n.values.length < 1000) : cl 27 [.ref q 0 0] H = some (I m.left, H) := by
  refine pure_val rfl rfl (rn_27 _ _ _) ?_ frz_s
  obtain ⟨x, hx, e2, ea⟩ := M.nodeAt G.guard
  let F : RNode → Int := fun n => (n.ops.length : Int) - n.values.length
  have hbd : ∀ j, j ≤ m.nodes.length → -(j * 1000 : Int) ≤ ((m.nodes.take j).map F).sum ∧ ((m.nodes.take j).map F).sum ≤ j * 1000 := by
    intro j
    induction j with
    | zero => intro _; simp
    | succ j ih =>
      intro hj
      have i1 := ih (by omega)
      have hg : m.nodes[j]? = some (m.nodes[j]'(by omega)) := List.getElem?_eq_getElem (by omega)
      have i2 := ho _ (List.mem_of_getElem? hg)
      have i3 : -1000 ≤ F (m.nodes[j]'(by omega)) ∧ F (m.nodes[j]'(by omega)) ≤ 1000 := by
        simp only [F]; omega
      rw [List.take_succ, hg]
      simp only [Option.toList_some, List.map_append, List.map_cons, List.map_nil, List.sum_append, List.sum_cons, List.sum_nil]
      omega
  have key : ∀ k j, j + k = m.nodes.length → lp_27x0 cl [I ((m.nodes.take j).map F).sum, x, I m.nodes.length, I j] H.guard = some (I m.left, H.guard) := by
    intro k
    induction k with
    | zero =>
      intro j hj
      have h1 : ¬ (j : Int) < m.nodes.length := by omega
      have h2 : ((m.nodes.take j).map F).sum = m.left := by
        rw [List.take_of_length_le (by omega)]; rfl
      rw [le_27x0]
      simp -implicitDefEqProofs only [bnd_some, bo_some, condK_true, condK_false, gdA_undef, decide_true, decide_false, Int.reduceLE, Int.reduceLT, Int.reduceEq, Int.reduceNeg, Int.reduceAdd, gd_tt, gd_tf, gd_ft, gd_ff, unG_pure, lift_some, bnd_lift, Option.map_some, Option.bind_some, fieldPtr_ref, fieldPtr_ip, nil_ref, nil_ip, nil_fn, ex_tup, fl_agg, List.getElem?_cons_zero, List.getElem?_cons_succ, Nat.zero_add, Nat.add_zero, Nat.reduceAdd, pk_t, pk_f, lss_int, leq_int, gtr_int, geq_int, eql_int, neq_int, not_bool, beq_self_eq_true, if_true, Bool.false_eq_true, if_false, List.nil_append, List.cons_append, List.append_nil, alc_eq, mkm_eq, nNew, nPut, bNew, bPut, nGrd, bGrd, h1, h2]
    | succ k ih =>
      intro j hj
      have h1 : (j : Int) < m.nodes.length := by omega
      have h6 : (j : Int) + 1 = ((j + 1 : Nat) : Int) := by omega
      have h7 := wrap_i64 (a := ((j + 1 : Nat) : Int)) (by omega) (by omega)
      obtain ⟨p, p1, p2⟩ := ea j (by omega)
      have p1 := p1 .i64
      have hg : m.nodes[j]? = some (m.nodes[j]'(by omega)) := List.getElem?_eq_getElem (by omega)
      obtain ⟨u, v, u1, u2, v1, v2, _⟩ := (M.node j _ hg).lens2 G.guard
      have hh := ho _ (List.mem_of_getElem? hg)
      have h8 : ((m.nodes.take j).map F).sum + ((m.nodes[j]'(by omega)).ops.length - (m.nodes[j]'(by omega)).values.length) = ((m.nodes.take (j + 1)).map F).sum := by
        rw [List.take_succ, hg]
        simp only [Option.toList_some, List.map_append, List.map_cons, List.map_nil, List.sum_append, List.sum_cons, List.sum_nil, Int.add_zero, F]
      have hb1 := hbd (j + 1) (by omega)
      have h9 := wrap_i64 (a := ((m.nodes.take (j + 1)).map F).sum) (by omega) (by omega)
      have h5 := wrap_i64 (a := ((m.nodes[j]'(by omega)).ops.length : Int) - (m.nodes[j]'(by omega)).values.length) (by omega) (by omega)
      have r1 := ih (j + 1) (by omega)
      rw [le_27x0]
      simp -implicitDefEqProofs only [bnd_some, bo_some, condK_true, condK_false, gdA_undef, decide_true, decide_false, Int.reduceLE, Int.reduceLT, Int.reduceEq, Int.reduceNeg, Int.reduceAdd, gd_tt, gd_tf, gd_ft, gd_ff, unG_pure, lift_some, bnd_lift, Option.map_some, Option.bind_some, fieldPtr_ref, fieldPtr_ip, nil_ref, nil_ip, nil_fn, ex_tup, fl_agg, List.getElem?_cons_zero, List.getElem?_cons_succ, Nat.zero_add, Nat.add_zero, Nat.reduceAdd, pk_t, pk_f, lss_int, leq_int, gtr_int, geq_int, eql_int, neq_int, not_bool, beq_self_eq_true, if_true, Bool.false_eq_true, if_false, List.nil_append, List.cons_append, List.append_nil, alc_eq, mkm_eq, nNew, nPut, bNew, bPut, nGrd, bGrd, h1, p1, p2, u1, u2, v1, v2, sub_int, h5, add_int, h8, h9, h6, h7, r1]
  have r1 := key m.nodes.length 0 (by omega)
  have r1' : lp_27x0 cl [I 0, x, I m.nodes.length, I 0] H.guard = some (I m.left, H.guard) := r1
  simp -implicitDefEqProofs only [bnd_some, bo_some, condK_true, condK_false, gdA_undef, decide_true, decide_false, Int.reduceLE, Int.reduceLT, Int.reduceEq, Int.reduceNeg, Int.reduceAdd, gd_tt, gd_tf, gd_ft, gd_ff, unG_pure, lift_some, bnd_lift, Option.map_some, Option.bind_some, fieldPtr_ref, fieldPtr_ip, nil_ref, nil_ip, nil_fn, ex_tup, fl_agg, List.getElem?_cons_zero, List.getElem?_cons_succ, Nat.zero_add, Nat.add_zero, Nat.reduceAdd, pk_t, pk_f, lss_int, leq_int, gtr_int, geq_int, eql_int, neq_int, not_bool, beq_self_eq_true, if_true, Bool.false_eq_true, if_false, List.nil_append, List.cons_append, List.append_nil, alc_eq, mkm_eq, nNew, nPut, bNew, bPut, nGrd, bGrd, sh_27, hx, e2, r1']
def RMach.busy (m : RMach) (i : Nat) : Bool := match m.nodes[i]?, m.fab[i]? with
  | some n, some p => n.begun || n.has || decide (0 < p.rin.length) || decide (0 < p.ain.length)
  | _, _ => false
def RMach.quiet (m : RMach) : Bool := decide (m.all.length = 0) && (List.range m.nodes.length).all fun i => !m.busy i
/-- What is true of its sizes. -/
structure RMach.fine (m : RMach) : Prop where
  n : m.nodes.length < 1000
  fab : m.fab.length = m.nodes.length
  ports : ∀ p ∈ m.fab, p.rq.length < 1000 ∧ p.an.length < 1000 ∧ p.rin.length < 1000 ∧ p.ain.length < 1000
  ops : ∀ n ∈ m.nodes, n.ops.length < 1000 ∧ n.values.length < 1000
theorem rquiet_sp (G : Good b H g) (M : RMachIs g q f N m) (hm : m.fine) : cl 28 [.ref q 0 0] H = some (B m.quiet, H) := by
  refine pure_val rfl rfl (rn_28 _ _ _) ?_ frz_s
  obtain ⟨x, hx, e2, ea⟩ := M.nodeAt G.guard
  have e8 := G.guard.load M.mach (i := 8) (x := .ref f 0 0) rfl
  obtain ⟨u, cells, u1, u2, u3⟩ := runder_sp G.guard M (by have := hm.fab; have := hm.n; omega) fun p hp => ⟨(hm.ports p hp).1, (hm.ports p hp).2.1⟩
  have u4 := (u2 H.guard).lnS
  by_cases h0 : m.all.length = 0
  rotate_left
  · have h1 : (0 : Int) < m.all.length := by omega
    have : m.quiet = false := by simp [RMach.quiet, h0]
    rw [this]
    simp -implicitDefEqProofs only [bnd_some, bo_some, condK_true, condK_false, gdA_undef, decide_true, decide_false, Int.reduceLE, Int.reduceLT, Int.reduceEq, Int.reduceNeg, Int.reduceAdd, gd_tt, gd_tf, gd_ft, gd_ff, unG_pure, lift_some, bnd_lift, Option.map_some, Option.bind_some, fieldPtr_ref, fieldPtr_ip, nil_ref, nil_ip, nil_fn, ex_tup, fl_agg, List.getElem?_cons_zero, List.getElem?_cons_succ, Nat.zero_add, Nat.add_zero, Nat.reduceAdd, pk_t, pk_f, lss_int, leq_int, gtr_int, geq_int, eql_int, neq_int, not_bool, beq_self_eq_true, if_true, Bool.false_eq_true, if_false, List.nil_append, List.cons_append, List.append_nil, alc_eq, mkm_eq, nNew, nPut, bNew, bPut, nGrd, bGrd, sh_28, e8, u1, u4, h1]
  have h1 : ¬ (0 : Int) < m.all.length := by omega
  have key : ∀ k j, j + k = m.nodes.length → (∀ i, i < j → (!m.busy i) = true) → lp_28x0 cl [.ref q 0 0, x, I m.nodes.length, I j] H.guard = some (B m.quiet, H.guard) := by
    intro k
    induction k with
    | zero =>
      intro j hj hf
      have h1 : ¬ (j : Int) < m.nodes.length := by omega
      have hq : m.quiet = true := by
        unfold RMach.quiet
        rw [all_range_all fun i hi => hf i (by omega), h0]; rfl
      rw [hq, le_28x0]
      simp -implicitDefEqProofs only [bnd_some, bo_some, condK_true, condK_false, gdA_undef, decide_true, decide_false, Int.reduceLE, Int.reduceLT, Int.reduceEq, Int.reduceNeg, Int.reduceAdd, gd_tt, gd_tf, gd_ft, gd_ff, unG_pure, lift_some, bnd_lift, Option.map_some, Option.bind_some, fieldPtr_ref, fieldPtr_ip, nil_ref, nil_ip, nil_fn, ex_tup, fl_agg, List.getElem?_cons_zero, List.getElem?_cons_succ, Nat.zero_add, Nat.add_zero, Nat.reduceAdd, pk_t, pk_f, lss_int, leq_int, gtr_int, geq_int, eql_int, neq_int, not_bool, beq_self_eq_true, if_true, Bool.false_eq_true, if_false, List.nil_append, List.cons_append, List.append_nil, alc_eq, mkm_eq, nNew, nPut, bNew, bPut, nGrd, bGrd, h1]
    | succ k ih =>
      intro j hj hf
      have hnn := hm.n
      have h1 : (j : Int) < m.nodes.length := by omega
      have h6 : (j : Int) + 1 = ((j + 1 : Nat) : Int) := by omega
      have h7 := wrap_i64 (a := ((j + 1 : Nat) : Int)) (by omega) (by omega)
      obtain ⟨p, p1, p2⟩ := ea j (by omega)
      have p1 := p1 .i64
      have hg : m.nodes[j]? = some (m.nodes[j]'(by omega)) := List.getElem?_eq_getElem (by omega)
      obtain ⟨pt, hpt⟩ : ∃ pt, m.fab[j]? = some pt := ⟨_, List.getElem?_eq_getElem (by have := hm.fab; omega)⟩
      obtain ⟨⟨d, _, n0⟩, _, _⟩ := M.node j _ hg
      have l12 := G.guard.load n0 (i := 12) (x := B (m.nodes[j]'(by omega)).begun) rfl
      have l14 := G.guard.load n0 (i := 14) (x := B (m.nodes[j]'(by omega)).has) rfl
      obtain ⟨w0, w1⟩ := rwaiting_sp G.guard M (by have := hm.fab; omega) hpt ⟨(hm.ports _ (List.mem_of_getElem? hpt)).2.2.1, (hm.ports _ (List.mem_of_getElem? hpt)).2.2.2⟩
      have hb : m.busy j = ((m.nodes[j]'(by omega)).begun || (m.nodes[j]'(by omega)).has || decide (0 < pt.rin.length) || decide (0 < pt.ain.length)) := by
        simp only [RMach.busy, hg, hpt]
      have no : m.busy j = true → m.quiet = false := fun hb => by
        unfold RMach.quiet
        rw [all_range_step (i := j) (by omega) hf (by rw [hb]; rfl), Bool.and_false]
      rw [le_28x0]
      cases hB : (m.nodes[j]'(by omega)).begun with
      | true =>
        rw [hB] at l12 hb
        rw [no (by rw [hb]; rfl)]
        simp -implicitDefEqProofs only [bnd_some, bo_some, condK_true, condK_false, gdA_undef, decide_true, decide_false, Int.reduceLE, Int.reduceLT, Int.reduceEq, Int.reduceNeg, Int.reduceAdd, gd_tt, gd_tf, gd_ft, gd_ff, unG_pure, lift_some, bnd_lift, Option.map_some, Option.bind_some, fieldPtr_ref, fieldPtr_ip, nil_ref, nil_ip, nil_fn, ex_tup, fl_agg, List.getElem?_cons_zero, List.getElem?_cons_succ, Nat.zero_add, Nat.add_zero, Nat.reduceAdd, pk_t, pk_f, lss_int, leq_int, gtr_int, geq_int, eql_int, neq_int, not_bool, beq_self_eq_true, if_true, Bool.false_eq_true, if_false, List.nil_append, List.cons_append, List.append_nil, alc_eq, mkm_eq, nNew, nPut, bNew, bPut, nGrd, bGrd, h1, p1, p2, l12]
      | false =>
        rw [hB] at l12 hb
        cases hH : (m.nodes[j]'(by omega)).has with
        | true =>
          rw [hH] at l14 hb
          rw [no (by rw [hb]; rfl)]
          simp -implicitDefEqProofs only [bnd_some, bo_some, condK_true, condK_false, gdA_undef, decide_true, decide_false, Int.reduceLE, Int.reduceLT, Int.reduceEq, Int.reduceNeg, Int.reduceAdd, gd_tt, gd_tf, gd_ft, gd_ff, unG_pure, lift_some, bnd_lift, Option.map_some, Option.bind_some, fieldPtr_ref, fieldPtr_ip, nil_ref, nil_ip, nil_fn, ex_tup, fl_agg, List.getElem?_cons_zero, List.getElem?_cons_succ, Nat.zero_add, Nat.add_zero, Nat.reduceAdd, pk_t, pk_f, lss_int, leq_int, gtr_int, geq_int, eql_int, neq_int, not_bool, beq_self_eq_true, if_true, Bool.false_eq_true, if_false, List.nil_append, List.cons_append, List.append_nil, alc_eq, mkm_eq, nNew, nPut, bNew, bPut, nGrd, bGrd, h1, p1, p2, l12, l14]
        | false =>
          rw [hH] at l14 hb
          by_cases c0 : 0 < pt.rin.length
          · have c0' : (0 : Int) < pt.rin.length := by omega
            rw [no (by rw [hb]; simp [c0])]
            simp -implicitDefEqProofs only [bnd_some, bo_some, condK_true, condK_false, gdA_undef, decide_true, decide_false, Int.reduceLE, Int.reduceLT, Int.reduceEq, Int.reduceNeg, Int.reduceAdd, gd_tt, gd_tf, gd_ft, gd_ff, unG_pure, lift_some, bnd_lift, Option.map_some, Option.bind_some, fieldPtr_ref, fieldPtr_ip, nil_ref, nil_ip, nil_fn, ex_tup, fl_agg, List.getElem?_cons_zero, List.getElem?_cons_succ, Nat.zero_add, Nat.add_zero, Nat.reduceAdd, pk_t, pk_f, lss_int, leq_int, gtr_int, geq_int, eql_int, neq_int, not_bool, beq_self_eq_true, if_true, Bool.false_eq_true, if_false, List.nil_append, List.cons_append, List.append_nil, alc_eq, mkm_eq, nNew, nPut, bNew, bPut, nGrd, bGrd, h1, p1, p2, l12, l14, e8, w0, c0']
          · have c0' : ¬ (0 : Int) < pt.rin.length := by omega
            by_cases c1 : 0 < pt.ain.length
            · have c1' : (0 : Int) < pt.ain.length := by omega
              rw [no (by rw [hb]; simp [c1])]
              simp -implicitDefEqProofs only [bnd_some, bo_some, condK_true, condK_false, gdA_undef, decide_true, decide_false, Int.reduceLE, Int.reduceLT, Int.reduceEq, Int.reduceNeg, Int.reduceAdd, gd_tt, gd_tf, gd_ft, gd_ff, unG_pure, lift_some, bnd_lift, Option.map_some, Option.bind_some, fieldPtr_ref, fieldPtr_ip, nil_ref, nil_ip, nil_fn, ex_tup, fl_agg, List.getElem?_cons_zero, List.getElem?_cons_succ, Nat.zero_add, Nat.add_zero, Nat.reduceAdd, pk_t, pk_f, lss_int, leq_int, gtr_int, geq_int, eql_int, neq_int, not_bool, beq_self_eq_true, if_true, Bool.false_eq_true, if_false, List.nil_append, List.cons_append, List.append_nil, alc_eq, mkm_eq, nNew, nPut, bNew, bPut, nGrd, bGrd, h1, p1, p2, l12, l14, e8, w0, c0', w1, c1']
            · have c1' : ¬ (0 : Int) < pt.ain.length := by omega
              have hbf : m.busy j = false := by rw [hb]; simp [c0, c1]
              have r1 := ih (j + 1) (by omega) fun i hi => by
                by_cases hij : i = j
                · rw [hij, hbf]; rfl
                · exact hf i (by omega)
              simp -implicitDefEqProofs only [bnd_some, bo_some, condK_true, condK_false, gdA_undef, decide_true, decide_false, Int.reduceLE, Int.reduceLT, Int.reduceEq, Int.reduceNeg, Int.reduceAdd, gd_tt, gd_tf, gd_ft, gd_ff, unG_pure, lift_some, bnd_lift, Option.map_some, Option.bind_some, fieldPtr_ref, fieldPtr_ip, nil_ref, nil_ip, nil_fn, ex_tup, fl_agg, List.getElem?_cons_zero, List.getElem?_cons_succ, Nat.zero_add, Nat.add_zero, Nat.reduceAdd, pk_t, pk_f, lss_int, leq_int, gtr_int, geq_int, eql_int, neq_int, not_bool, beq_self_eq_true, if_true, Bool.false_eq_true, if_false, List.nil_append, List.cons_append, List.append_nil, alc_eq, mkm_eq, nNew, nPut, bNew, bPut, nGrd, bGrd, h1, p1, p2, l12, l14, e8, w0, c0', w1, c1', add_int, h6, h7, r1]
  have r1 := key m.nodes.length 0 (by omega) (fun i hi => by omega)
  have r1' : lp_28x0 cl [.ref q 0 0, x, I m.nodes.length, I 0] H.guard = some (B m.quiet, H.guard) := r1
  simp -implicitDefEqProofs only [bnd_some, bo_some, condK_true, condK_false, gdA_undef, decide_true, decide_false, Int.reduceLE, Int.reduceLT, Int.reduceEq, Int.reduceNeg, Int.reduceAdd, gd_tt, gd_tf, gd_ft, gd_ff, unG_pure, lift_some, bnd_lift, Option.map_some, Option.bind_some, fieldPtr_ref, fieldPtr_ip, nil_ref, nil_ip, nil_fn, ex_tup, fl_agg, List.getElem?_cons_zero, List.getElem?_cons_succ, Nat.zero_add, Nat.add_zero, Nat.reduceAdd, pk_t, pk_f, lss_int, leq_int, gtr_int, geq_int, eql_int, neq_int, not_bool, beq_self_eq_true, if_true, Bool.false_eq_true, if_false, List.nil_append, List.cons_append, List.append_nil, alc_eq, mkm_eq, nNew, nPut, bNew, bPut, nGrd, bGrd, sh_28, e8, u1, u4, h1, hx, e2, r1']
def RTurns.ownerOf (t : RTurns) (line : Int) : Int := ((t.owner.find? fun o => decide (o.1 = line)).map (·.2)).getD (-1)
def RTurns.waits (t : RTurns) (line : Int) : List (Int × Int) := (t.wait.filter fun w => decide (w.1 = line)).map (·.2)
theorem rowner_sp (G : Good b H g) {c : Cfg} {me : Int} {rows : List AV} {t : RTurns} (h : g q = some (rhomesO c me rows t)) (hl : t.owner.length < 1000000) (line : Int) :
    cl 74 [.ref q 0 10, I line] H = some (I (t.ownerOf line), H) := by
  obtain ⟨x, hx, cx⟩ := G.guard.seq h (i := 10) (m := 2) (l := t.owner.flatMap fun e => [I e.1, I e.2]) rfl
  have hs := cx.is (n := t.owner.length) (by decide) (flat_len (enc := fun e : Int × Int => [I e.1, I e.2]) (fun _ => rfl) _)
  have e2 := hs.lnS
  have key : ∀ k j, j + k = t.owner.length → t.owner.find? (fun o => decide (o.1 = line)) = (t.owner.drop j).find? (fun o => decide (o.1 = line)) → ∀ Hi, Step H.next H.guard Hi →
      (lp_74x0 cl [I line, x, I t.owner.length, I j] Hi).map Prod.fst = some (I (t.ownerOf line)) := by
    intro k
    induction k with
    | zero =>
      intro j hj hf Hi s
      have h1 : ¬ (j : Int) < t.owner.length := by omega
      have : t.ownerOf line = -1 := by
        unfold RTurns.ownerOf
        rw [hf, List.drop_of_length_le (by omega)]; rfl
      rw [this, le_74x0]
      simp -implicitDefEqProofs only [bnd_some, bo_some, condK_true, condK_false, gdA_undef, decide_true, decide_false, Int.reduceLE, Int.reduceLT, Int.reduceEq, Int.reduceNeg, Int.reduceAdd, gd_tt, gd_tf, gd_ft, gd_ff, unG_pure, lift_some, bnd_lift, Option.map_some, Option.bind_some, fieldPtr_ref, fieldPtr_ip, nil_ref, nil_ip, nil_fn, ex_tup, fl_agg, List.getElem?_cons_zero, List.getElem?_cons_succ, Nat.zero_add, Nat.add_zero, Nat.reduceAdd, pk_t, pk_f, lss_int, leq_int, gtr_int, geq_int, eql_int, neq_int, not_bool, beq_self_eq_true, if_true, Bool.false_eq_true, if_false, List.nil_append, List.cons_append, List.append_nil, alc_eq, mkm_eq, nNew, nPut, bNew, bPut, nGrd, bGrd, h1]
    | succ k ih =>
      intro j hj hf Hi s
      have h1 : (j : Int) < t.owner.length := by omega
      have h6 : (j : Int) + 1 = ((j + 1 : Nat) : Int) := by omega
      have h7 := wrap_i64 (a := ((j + 1 : Nat) : Int)) (by omega) (by omega)
      obtain ⟨o, ho⟩ : ∃ o, t.owner[j]? = some o := ⟨_, List.getElem?_eq_getElem (by omega)⟩
      have hsi : SliceIs Hi x 2 t.owner.length (t.owner.flatMap fun e => [I e.1, I e.2]) := hs.of_get s.next fun r _ hr => s.low r hr
      have s1 := hsi.ix (k := .i64) (i := (j : Int)) (by omega) h1
      rw [Int.toNat_natCast] at s1
      have s2 := lda_elem (enc := fun e : Int × Int => [I e.1, I e.2]) (fun _ => rfl) hsi ho
      have hbase : Hi.base ≤ Hi.next := by have := s.base; have := s.next; simp only [nGrd, bGrd] at *; omega
      have x0 : ∀ H', ixa 2 1 (.ref Hi.next 0 0) (I 0) H' = some (.ref Hi.next 0 0, H') := fun H' => ixa_ref (by decide) (by decide)
      have x1 : ∀ H', ixa 2 1 (.ref Hi.next 0 0) (I 1) H' = some (.ref Hi.next 0 1, H') := fun H' => ixa_ref (by decide) (by decide)
      have hd : t.owner.drop j = o :: t.owner.drop (j + 1) := by
        rw [List.drop_eq_getElem_cons (by omega)]
        rw [List.getElem?_eq_getElem (by omega)] at ho
        rw [Option.some.inj ho]
      rw [hd, List.find?_cons] at hf
      rw [le_74x0]
      by_cases hc : o.1 = line
      · have : t.ownerOf line = o.2 := by
          unfold RTurns.ownerOf
          rw [hf, decide_eq_true hc]; rfl
        rw [this]
        simp -implicitDefEqProofs only [bnd_some, bo_some, condK_true, condK_false, gdA_undef, decide_true, decide_false, Int.reduceLE, Int.reduceLT, Int.reduceEq, Int.reduceNeg, Int.reduceAdd, gd_tt, gd_tf, gd_ft, gd_ff, unG_pure, lift_some, bnd_lift, Option.map_some, Option.bind_some, fieldPtr_ref, fieldPtr_ip, nil_ref, nil_ip, nil_fn, ex_tup, fl_agg, List.getElem?_cons_zero, List.getElem?_cons_succ, Nat.zero_add, Nat.add_zero, Nat.reduceAdd, pk_t, pk_f, lss_int, leq_int, gtr_int, geq_int, eql_int, neq_int, not_bool, beq_self_eq_true, if_true, Bool.false_eq_true, if_false, List.nil_append, List.cons_append, List.append_nil, alc_eq, mkm_eq, nNew, nPut, bNew, bPut, nGrd, bGrd, ldN_is, ldN_lt, ldaN_is, ldaN_lt, stN_is, stN_lt, Nat.lt_add_one, ne_eq, nx1, nx2, nx3, ny1, ny2, ny3, not_false_eq_true, List.length_cons, List.length_nil, Nat.reduceLeDiff, setAt, List.take_succ_cons, List.take_zero, List.drop_succ_cons, List.drop_zero, cells_dat, cells_int, cells_bool, cells_agg, List.all_cons, List.all_nil, isCell_int, isCell_bool, isCell_dat, isCell_ref, isCell_nil, isCell_vsl, cells_vsl, av_len_cfg, av_len_pkt, av_len_opn, av_len_evn, av_len_ent, av_len_row, av_len_deal, av_len_pck, tk_cfg, tk_pkt, tk_opn, tk_evn, tk_ent, tk_row, tk_deal, tk_pck, all_cfg, all_pkt, all_opn, all_evn, all_ent, all_row, all_deal, all_pck, List.drop_nil, Bool.and_true, Bool.and_self, and_self, Nat.le_refl, true_and, and_true, Nat.le_add_right, leS, ltS, h1, s1, s2, hbase, x0, hc, x1]
      · rw [decide_eq_false hc] at hf
        have r1 := ih (j + 1) (by omega) hf (Hi.new (.blk 0 190 [I o.1, I o.2])) (s.trans (Step.new _ s.next))
        simp -implicitDefEqProofs only [bnd_some, bo_some, condK_true, condK_false, gdA_undef, decide_true, decide_false, Int.reduceLE, Int.reduceLT, Int.reduceEq, Int.reduceNeg, Int.reduceAdd, gd_tt, gd_tf, gd_ft, gd_ff, unG_pure, lift_some, bnd_lift, Option.map_some, Option.bind_some, fieldPtr_ref, fieldPtr_ip, nil_ref, nil_ip, nil_fn, ex_tup, fl_agg, List.getElem?_cons_zero, List.getElem?_cons_succ, Nat.zero_add, Nat.add_zero, Nat.reduceAdd, pk_t, pk_f, lss_int, leq_int, gtr_int, geq_int, eql_int, neq_int, not_bool, beq_self_eq_true, if_true, Bool.false_eq_true, if_false, List.nil_append, List.cons_append, List.append_nil, alc_eq, mkm_eq, nNew, nPut, bNew, bPut, nGrd, bGrd, ldN_is, ldN_lt, ldaN_is, ldaN_lt, stN_is, stN_lt, Nat.lt_add_one, ne_eq, nx1, nx2, nx3, ny1, ny2, ny3, not_false_eq_true, List.length_cons, List.length_nil, Nat.reduceLeDiff, setAt, List.take_succ_cons, List.take_zero, List.drop_succ_cons, List.drop_zero, cells_dat, cells_int, cells_bool, cells_agg, List.all_cons, List.all_nil, isCell_int, isCell_bool, isCell_dat, isCell_ref, isCell_nil, isCell_vsl, cells_vsl, av_len_cfg, av_len_pkt, av_len_opn, av_len_evn, av_len_ent, av_len_row, av_len_deal, av_len_pck, tk_cfg, tk_pkt, tk_opn, tk_evn, tk_ent, tk_row, tk_deal, tk_pck, all_cfg, all_pkt, all_opn, all_evn, all_ent, all_row, all_deal, all_pck, List.drop_nil, Bool.and_true, Bool.and_self, and_self, Nat.le_refl, true_and, and_true, Nat.le_add_right, leS, ltS, h1, s1, s2, hbase, x0, hc, add_int, h6, h7, r1]
  have r1 := key t.owner.length 0 (by omega) rfl H.guard (Step.refl _ _)
  refine pure_val rfl rfl (rn_74 _ _ _ _) ?_ frz_s
  simp -implicitDefEqProofs only [bnd_some, bo_some, condK_true, condK_false, gdA_undef, decide_true, decide_false, Int.reduceLE, Int.reduceLT, Int.reduceEq, Int.reduceNeg, Int.reduceAdd, gd_tt, gd_tf, gd_ft, gd_ff, unG_pure, lift_some, bnd_lift, Option.map_some, Option.bind_some, fieldPtr_ref, fieldPtr_ip, nil_ref, nil_ip, nil_fn, ex_tup, fl_agg, List.getElem?_cons_zero, List.getElem?_cons_succ, Nat.zero_add, Nat.add_zero, Nat.reduceAdd, pk_t, pk_f, lss_int, leq_int, gtr_int, geq_int, eql_int, neq_int, not_bool, beq_self_eq_true, if_true, Bool.false_eq_true, if_false, List.nil_append, List.cons_append, List.append_nil, alc_eq, mkm_eq, nNew, nPut, bNew, bPut, nGrd, bGrd, sh_74, hx, e2]
  exact r1
theorem rwaits_sp (G : Good b H g) {c : Cfg} {me : Int} {rows : List AV} {t : RTurns} (h : g q = some (rhomesO c me rows t)) (hl : t.wait.length < 1000000) (line : Int) :
    cl 76 [.ref q 0 10, I line] H = some (I (t.waits line).length, H) := by
  let enc : Int × Int × Int → List AV := fun e => [I e.1, I e.2.1, I e.2.2]
  obtain ⟨x, hx, cx⟩ := G.guard.seq h (i := 11) (m := 3) (l := t.wait.flatMap enc) rfl
  have hs := cx.is (n := t.wait.length) (by decide) (flat_len (enc := enc) (fun _ => rfl) _)
  have e2 := hs.lnS
  let W : Nat → List (Int × Int × Int) := fun j => (t.wait.take j).filter fun w => decide (w.1 = line)
  have hW : ∀ j, (W j).length ≤ j := fun j => Nat.le_trans (List.length_filter_le _ _) (by rw [List.length_take]; omega)
  have key : ∀ k j, j + k = t.wait.length → ∀ Hi, Step H.next H.guard Hi →
      (lp_76x0 cl [I line, I (W j).length, x, I t.wait.length, I j] Hi).map Prod.fst = some (I (t.waits line).length) := by
    intro k
    induction k with
    | zero =>
      intro j hj Hi s
      have h1 : ¬ (j : Int) < t.wait.length := by omega
      have : (W j).length = (t.waits line).length := by
        simp only [W, RTurns.waits, List.length_map]
        rw [List.take_of_length_le (by omega)]
      rw [this, le_76x0]
      simp -implicitDefEqProofs only [bnd_some, bo_some, condK_true, condK_false, gdA_undef, decide_true, decide_false, Int.reduceLE, Int.reduceLT, Int.reduceEq, Int.reduceNeg, Int.reduceAdd, gd_tt, gd_tf, gd_ft, gd_ff, unG_pure, lift_some, bnd_lift, Option.map_some, Option.bind_some, fieldPtr_ref, fieldPtr_ip, nil_ref, nil_ip, nil_fn, ex_tup, fl_agg, List.getElem?_cons_zero, List.getElem?_cons_succ, Nat.zero_add, Nat.add_zero, Nat.reduceAdd, pk_t, pk_f, lss_int, leq_int, gtr_int, geq_int, eql_int, neq_int, not_bool, beq_self_eq_true, if_true, Bool.false_eq_true, if_false, List.nil_append, List.cons_append, List.append_nil, alc_eq, mkm_eq, nNew, nPut, bNew, bPut, nGrd, bGrd, h1]
    | succ k ih =>
      intro j hj Hi s
      have h1 : (j : Int) < t.wait.length := by omega
      have h6 : (j : Int) + 1 = ((j + 1 : Nat) : Int) := by omega
      have h7 := wrap_i64 (a := ((j + 1 : Nat) : Int)) (by omega) (by omega)
      obtain ⟨o, ho⟩ : ∃ o, t.wait[j]? = some o := ⟨_, List.getElem?_eq_getElem (by omega)⟩
      have hsi : SliceIs Hi x 3 t.wait.length (t.wait.flatMap enc) := hs.of_get s.next fun r _ hr => s.low r hr
      have s1 := hsi.ix (k := .i64) (i := (j : Int)) (by omega) h1
      rw [Int.toNat_natCast] at s1
      have s2 := lda_elem (enc := enc) (fun _ => rfl) hsi ho
      have hbase : Hi.base ≤ Hi.next := by have := s.base; have := s.next; simp only [nGrd, bGrd] at *; omega
      have hWs : W (j + 1) = W j ++ if o.1 = line then [o] else [] := by
        simp only [W, List.take_add_one, ho, Option.toList_some, List.filter_append]
        congr 1
        by_cases hc : o.1 = line <;> simp [hc]
      have r1 := ih (j + 1) (by omega) (Hi.new (.blk 0 192 (enc o))) (s.trans (Step.new _ s.next))
      rw [le_76x0]
      simp only [enc] at s2 r1
      by_cases hc : o.1 = line
      · rw [hWs, if_pos hc] at r1
        have h8 : ((W j).length : Int) + 1 = ((W j ++ [o]).length : Int) := by simp
        have h9 := wrap_i64 (a := ((W j ++ [o]).length : Int)) (by omega) (by have := hW j; rw [List.length_append]; simp; omega)
        simp -implicitDefEqProofs only [bnd_some, bo_some, condK_true, condK_false, gdA_undef, decide_true, decide_false, Int.reduceLE, Int.reduceLT, Int.reduceEq, Int.reduceNeg, Int.reduceAdd, gd_tt, gd_tf, gd_ft, gd_ff, unG_pure, lift_some, bnd_lift, Option.map_some, Option.bind_some, fieldPtr_ref, fieldPtr_ip, nil_ref, nil_ip, nil_fn, ex_tup, fl_agg, List.getElem?_cons_zero, List.getElem?_cons_succ, Nat.zero_add, Nat.add_zero, Nat.reduceAdd, pk_t, pk_f, lss_int, leq_int, gtr_int, geq_int, eql_int, neq_int, not_bool, beq_self_eq_true, if_true, Bool.false_eq_true, if_false, List.nil_append, List.cons_append, List.append_nil, alc_eq, mkm_eq, nNew, nPut, bNew, bPut, nGrd, bGrd, ldN_is, ldN_lt, ldaN_is, ldaN_lt, stN_is, stN_lt, Nat.lt_add_one, ne_eq, nx1, nx2, nx3, ny1, ny2, ny3, not_false_eq_true, List.length_cons, List.length_nil, Nat.reduceLeDiff, setAt, List.take_succ_cons, List.take_zero, List.drop_succ_cons, List.drop_zero, cells_dat, cells_int, cells_bool, cells_agg, List.all_cons, List.all_nil, isCell_int, isCell_bool, isCell_dat, isCell_ref, isCell_nil, isCell_vsl, cells_vsl, av_len_cfg, av_len_pkt, av_len_opn, av_len_evn, av_len_ent, av_len_row, av_len_deal, av_len_pck, tk_cfg, tk_pkt, tk_opn, tk_evn, tk_ent, tk_row, tk_deal, tk_pck, all_cfg, all_pkt, all_opn, all_evn, all_ent, all_row, all_deal, all_pck, List.drop_nil, Bool.and_true, Bool.and_self, and_self, Nat.le_refl, true_and, and_true, Nat.le_add_right, leS, ltS, h1, s1, s2, hbase, hc, jn_76x0, add_int, h8, h9, h6, h7]
        rw [hc] at r1
        exact r1
      · rw [hWs, if_neg hc, List.append_nil] at r1
        simp -implicitDefEqProofs only [bnd_some, bo_some, condK_true, condK_false, gdA_undef, decide_true, decide_false, Int.reduceLE, Int.reduceLT, Int.reduceEq, Int.reduceNeg, Int.reduceAdd, gd_tt, gd_tf, gd_ft, gd_ff, unG_pure, lift_some, bnd_lift, Option.map_some, Option.bind_some, fieldPtr_ref, fieldPtr_ip, nil_ref, nil_ip, nil_fn, ex_tup, fl_agg, List.getElem?_cons_zero, List.getElem?_cons_succ, Nat.zero_add, Nat.add_zero, Nat.reduceAdd, pk_t, pk_f, lss_int, leq_int, gtr_int, geq_int, eql_int, neq_int, not_bool, beq_self_eq_true, if_true, Bool.false_eq_true, if_false, List.nil_append, List.cons_append, List.append_nil, alc_eq, mkm_eq, nNew, nPut, bNew, bPut, nGrd, bGrd, ldN_is, ldN_lt, ldaN_is, ldaN_lt, stN_is, stN_lt, Nat.lt_add_one, ne_eq, nx1, nx2, nx3, ny1, ny2, ny3, not_false_eq_true, List.length_cons, List.length_nil, Nat.reduceLeDiff, setAt, List.take_succ_cons, List.take_zero, List.drop_succ_cons, List.drop_zero, cells_dat, cells_int, cells_bool, cells_agg, List.all_cons, List.all_nil, isCell_int, isCell_bool, isCell_dat, isCell_ref, isCell_nil, isCell_vsl, cells_vsl, av_len_cfg, av_len_pkt, av_len_opn, av_len_evn, av_len_ent, av_len_row, av_len_deal, av_len_pck, tk_cfg, tk_pkt, tk_opn, tk_evn, tk_ent, tk_row, tk_deal, tk_pck, all_cfg, all_pkt, all_opn, all_evn, all_ent, all_row, all_deal, all_pck, List.drop_nil, Bool.and_true, Bool.and_self, and_self, Nat.le_refl, true_and, and_true, Nat.le_add_right, leS, ltS, h1, s1, s2, hbase, hc, jn_76x0, add_int, h6, h7, r1]
  have r1 := key t.wait.length 0 (by omega) H.guard (Step.refl _ _)
  refine pure_val rfl rfl (rn_76 _ _ _ _) ?_ frz_s
  simp -implicitDefEqProofs only [bnd_some, bo_some, condK_true, condK_false, gdA_undef, decide_true, decide_false, Int.reduceLE, Int.reduceLT, Int.reduceEq, Int.reduceNeg, Int.reduceAdd, gd_tt, gd_tf, gd_ft, gd_ff, unG_pure, lift_some, bnd_lift, Option.map_some, Option.bind_some, fieldPtr_ref, fieldPtr_ip, nil_ref, nil_ip, nil_fn, ex_tup, fl_agg, List.getElem?_cons_zero, List.getElem?_cons_succ, Nat.zero_add, Nat.add_zero, Nat.reduceAdd, pk_t, pk_f, lss_int, leq_int, gtr_int, geq_int, eql_int, neq_int, not_bool, beq_self_eq_true, if_true, Bool.false_eq_true, if_false, List.nil_append, List.cons_append, List.append_nil, alc_eq, mkm_eq, nNew, nPut, bNew, bPut, nGrd, bGrd, sh_76, hx, e2]
  exact r1
def hereB (c : Cfg) (me line : Int) : Bool := decide (0 ≤ line) && decide (line < c.lines) && decide (line % c.nodes = me)
theorem here_sp (G : Good b H g) {c : Cfg} (hc : c.ok = true) {me : Int} {rows : List AV} {t : RTurns} (h : g q = some (rhomesO c me rows t)) (line : Int) :
    cl 71 [.ref q 0 0, I line] H = some (B (hereB c me line), H) := by
  have Bd := cfgB hc
  have hn := Bd.nodes
  have l0 := G.guard.load h (i := 0) (x := I c.nodes) rfl
  have l1 := G.guard.load h (i := 1) (x := I c.lines) rfl
  have l8 := G.guard.load h (i := 8) (x := I me) rfl
  refine pure_val rfl rfl (rn_71 _ _ _ _) ?_ frz_s
  unfold hereB
  by_cases h0 : 0 ≤ line
  rotate_left
  · simp -implicitDefEqProofs only [bnd_some, bo_some, condK_true, condK_false, gdA_undef, decide_true, decide_false, Int.reduceLE, Int.reduceLT, Int.reduceEq, Int.reduceNeg, Int.reduceAdd, gd_tt, gd_tf, gd_ft, gd_ff, unG_pure, lift_some, bnd_lift, Option.map_some, Option.bind_some, fieldPtr_ref, fieldPtr_ip, nil_ref, nil_ip, nil_fn, ex_tup, fl_agg, List.getElem?_cons_zero, List.getElem?_cons_succ, Nat.zero_add, Nat.add_zero, Nat.reduceAdd, pk_t, pk_f, lss_int, leq_int, gtr_int, geq_int, eql_int, neq_int, not_bool, beq_self_eq_true, if_true, Bool.false_eq_true, if_false, List.nil_append, List.cons_append, List.append_nil, alc_eq, mkm_eq, nNew, nPut, bNew, bPut, nGrd, bGrd, sh_71, h0, Bool.false_and]
  by_cases h1 : line < c.lines
  rotate_left
  · simp -implicitDefEqProofs only [bnd_some, bo_some, condK_true, condK_false, gdA_undef, decide_true, decide_false, Int.reduceLE, Int.reduceLT, Int.reduceEq, Int.reduceNeg, Int.reduceAdd, gd_tt, gd_tf, gd_ft, gd_ff, unG_pure, lift_some, bnd_lift, Option.map_some, Option.bind_some, fieldPtr_ref, fieldPtr_ip, nil_ref, nil_ip, nil_fn, ex_tup, fl_agg, List.getElem?_cons_zero, List.getElem?_cons_succ, Nat.zero_add, Nat.add_zero, Nat.reduceAdd, pk_t, pk_f, lss_int, leq_int, gtr_int, geq_int, eql_int, neq_int, not_bool, beq_self_eq_true, if_true, Bool.false_eq_true, if_false, List.nil_append, List.cons_append, List.append_nil, alc_eq, mkm_eq, nNew, nPut, bNew, bPut, nGrd, bGrd, sh_71, h0, l1, h1, Bool.false_and, Bool.true_and]
  have e : line.tmod c.nodes = line % c.nodes := Int.tmod_eq_emod_of_nonneg h0
  have hr := rem_int (P := Tryz.prog) (t := 3) (k := .i64) (a := line) (b := c.nodes) (by omega)
  rw [e] at hr
  have hr' : bi .rem 3 (I line) (I c.nodes) = some (I (line % c.nodes)) := hr
  simp -implicitDefEqProofs only [bnd_some, bo_some, condK_true, condK_false, gdA_undef, decide_true, decide_false, Int.reduceLE, Int.reduceLT, Int.reduceEq, Int.reduceNeg, Int.reduceAdd, gd_tt, gd_tf, gd_ft, gd_ff, unG_pure, lift_some, bnd_lift, Option.map_some, Option.bind_some, fieldPtr_ref, fieldPtr_ip, nil_ref, nil_ip, nil_fn, ex_tup, fl_agg, List.getElem?_cons_zero, List.getElem?_cons_succ, Nat.zero_add, Nat.add_zero, Nat.reduceAdd, pk_t, pk_f, lss_int, leq_int, gtr_int, geq_int, eql_int, neq_int, not_bool, beq_self_eq_true, if_true, Bool.false_eq_true, if_false, List.nil_append, List.cons_append, List.append_nil, alc_eq, mkm_eq, nNew, nPut, bNew, bPut, nGrd, bGrd, sh_71, h0, l1, h1, l0, hr', l8, Bool.true_and]
end

end Go.Proofs.YtlcdejlbmnjlaaaGreat

namespace Go.Proofs.YtlcdejlbmnjlaaaGreat

/-- A node and the document's one. -/
structure NSim (c : Cfg) (me : Int) (n : Node) (r : RNode) : Prop where
  ops : r.ops = n.proc.ops
  values : r.values = n.proc.values
  begun : r.begun = n.proc.begun
  has : r.has = !decide (n.deal.step = 0)
  deal : r.deal = if n.deal.step = 0 then .zero else n.deal
  num : r.num = n.num
  sets : r.cache.sets = n.cache.sets
  ways : r.cache.ways = n.cache.ways
  clock : r.cache.clock = n.cache.clock
  sorted : r.cache.l.Pairwise fun a b => a.line < b.line
  perm : n.cache.l.Perm r.cache.l
  rows : ∀ line, hereB c me line = true → ∃ row, aget n.home.rows line = some row ∧ r.homes.rows[line.toNat]? = some row
  none : ∀ line, hereB c me line = false → aget n.home.rows line = none
  owner : ∀ line, n.home.turns.owner line = r.homes.turns.ownerOf line
  waits : ∀ line, n.home.turns.ws line = r.homes.turns.waits line
structure Node.fine (n : Node) : Prop where
  ops : n.proc.ops.length < 1000
  values : n.proc.values.length < 1000
  deal : n.deal.data.length < 1000000000
  cache : n.cache.l.length < 1000
  ents : ∀ e ∈ n.cache.l, e.data.length < 1000000000
  rows : ∀ e ∈ n.home.rows, e.2.data.length < 1000000000
structure RNode.fine (n : RNode) : Prop where
  rows : n.homes.rows.length < 1000
  owner : n.homes.turns.owner.length < 1000000
  wait : n.homes.turns.wait.length < 1000000
theorem sorted_inj {l : List Ent} (h : l.Pairwise fun a b => a.line < b.line) {a b : Ent} (ha : a ∈ l) (hb : b ∈ l) (e : a.line = b.line) : a = b := by
  induction h with
  | nil => cases ha
  | cons h1 _ ih =>
    rcases List.mem_cons.1 ha with ha1 | ha1
    · rcases List.mem_cons.1 hb with hb1 | hb1
      · rw [ha1, hb1]
      · have := h1 b hb1; rw [ha1] at e; omega
    · rcases List.mem_cons.1 hb with hb1 | hb1
      · have := h1 a ha1; rw [hb1] at e; omega
      · exact ih ha1 hb1
theorem NSim.find {c : Cfg} {me : Int} {n : Node} {r : RNode} (S : NSim c me n r) {e : Ent} (he : e ∈ r.cache.l) : n.cache.find e.line = some e := by
  unfold Cache.find
  cases hf : n.cache.l.find? fun x => decide (x.line = e.line) with
  | none =>
    have := List.find?_eq_none.1 hf e (S.perm.mem_iff.2 he)
    simp at this
  | some x =>
    have h1 := List.find?_some hf
    have h2 := List.mem_of_find?_eq_some hf
    simp only [decide_eq_true_eq] at h1
    rw [sorted_inj S.sorted (S.perm.mem_iff.1 h2) he h1]
section
variable {b : Nat} {H : AHeap} {g : Store}
theorem dealX_av (d : Deal) : d.avx (dat d.data) = d.av := rfl
theorem entX_av (d : Ent) : d.avx (dat d.data) = d.av := rfl
theorem rowX_av (d : Row) : d.avx (dat d.data) = d.av := rfl
theorem sameNode (G : Good b H g) {c : Cfg} (hc : c.ok = true) {me : Int} {a a' : Nat → Nat} {n : Node} {r : RNode} (Nn : NodeIs g a c me n) (Nr : RNodeIs g a' c me r) (S : NSim c me n r) (fn : n.fine) (fr : r.fine)
    (hL : ∀ (b : Nat) (H : AHeap), Good b H g → ∃ x, cl 67 [.ref (a 1) 0 0] H = some (x, H) ∧ ∀ H' : AHeap, SliceIs H' x 1 r.cache.l.length (r.cache.l.map fun e => I e.line)) :
    cl 37 [.ref (a 0) 0 0, .ref (a' 0) 0 0] H = some (B true, H) := by
  have Bd := cfgB hc
  have hlines := Bd.lines
  obtain ⟨n0, n1, n2, n3⟩ := Nn
  have Nn : NodeIs g a c me n := ⟨n0, n1, n2, n3⟩
  have Nr' := Nr
  obtain ⟨⟨d, dR, r0⟩, ⟨cells, cE, r1⟩, ⟨rows, rE, r2⟩⟩ := Nr
  obtain ⟨dx, dI, rfl⟩ := dR
  have clen := cE.length entR_len
  have rlen := rE.length rowR_len
  have hcl : r.cache.l.length = n.cache.l.length := S.perm.length_eq.symm
  have fcache := fn.cache
  -- what is read of a memory in which all this lies
  have bl : bi .eql 42 (.ref (a 0) 0 0) zP = some (B false) := by kernel_rfl
  -- the rows
  have rowsLoop : ∀ k (j : Nat), j + k = c.lines.toNat + 2 → ∀ Hi, Step H.next H.guard Hi → (lp_37x1 cl [.ref (a 0) 0 0, .ref (a' 0) 0 0, I ((j : Int) - 1)] Hi).map Prod.fst = some (B true) := by
    intro k
    induction k with
    | zero =>
      intro j hj Hi s
      have Gi := G.guard.ext s.next s.low
      have l1 := Gi.load r0 (i := 1) (x := I c.lines) rfl
      have h1 : ¬ ((j : Int) - 1 ≤ c.lines) := by omega
      rw [le_37x1]
      simp -implicitDefEqProofs only [bnd_some, bo_some, condK_true, condK_false, gdA_undef, decide_true, decide_false, Int.reduceLE, Int.reduceLT, Int.reduceEq, Int.reduceNeg, Int.reduceAdd, gd_tt, gd_tf, gd_ft, gd_ff, unG_pure, lift_some, bnd_lift, Option.map_some, Option.bind_some, fieldPtr_ref, fieldPtr_ip, nil_ref, nil_ip, nil_fn, ex_tup, fl_agg, List.getElem?_cons_zero, List.getElem?_cons_succ, Nat.zero_add, Nat.add_zero, Nat.reduceAdd, pk_t, pk_f, lss_int, leq_int, gtr_int, geq_int, eql_int, neq_int, not_bool, beq_self_eq_true, if_true, Bool.false_eq_true, if_false, List.nil_append, List.cons_append, List.append_nil, alc_eq, mkm_eq, nNew, nPut, bNew, bPut, nGrd, bGrd, l1, h1]
    | succ k ih =>
      intro j hj Hi s
      have Gi := G.guard.ext s.next s.low
      have l1 := Gi.load r0 (i := 1) (x := I c.lines) rfl
      have h1 : ((j : Int) - 1 ≤ c.lines) := by omega
      have h6 : (j : Int) - 1 + 1 = ((j + 1 : Nat) : Int) - 1 := by omega
      have h7 := wrap_i64 (a := ((j + 1 : Nat) : Int) - 1) (by omega) (by omega)
      have sb : Hi.base = H.next := s.base
      have sn : H.next ≤ Hi.next := s.next
      have hbase : Hi.base ≤ Hi.next := by omega
      have e1 := nodeRow Gi Nn fn.rows ((j : Int) - 1)
      let row := rowOf n.home.rows ((j : Int) - 1)
      let H1 := Hi.new (.blk 0 153 row.av)
      have G1 : Good b H1 g := Gi.new _
      have l10 := G1.load r0 (i := 10) (x := .ref (a' 2) 0 0) rfl
      have e2 := here_sp G1 hc r2 ((j : Int) - 1)
      have rr := ih (j + 1) (by omega) H1 (s.trans (Step.new _ sn))
      rw [le_37x1]
      cases hh : hereB c me ((j : Int) - 1) with
      | false =>
        have hn := S.none _ hh
        rw [hn] at e1
        rw [hh] at e2
        simp only [H1, row] at l10 e2 rr
        simp -implicitDefEqProofs only [bnd_some, bo_some, condK_true, condK_false, gdA_undef, decide_true, decide_false, Int.reduceLE, Int.reduceLT, Int.reduceEq, Int.reduceNeg, Int.reduceAdd, gd_tt, gd_tf, gd_ft, gd_ff, unG_pure, lift_some, bnd_lift, Option.map_some, Option.bind_some, fieldPtr_ref, fieldPtr_ip, nil_ref, nil_ip, nil_fn, ex_tup, fl_agg, List.getElem?_cons_zero, List.getElem?_cons_succ, Nat.zero_add, Nat.add_zero, Nat.reduceAdd, pk_t, pk_f, lss_int, leq_int, gtr_int, geq_int, eql_int, neq_int, not_bool, beq_self_eq_true, if_true, Bool.false_eq_true, if_false, List.nil_append, List.cons_append, List.append_nil, alc_eq, mkm_eq, nNew, nPut, bNew, bPut, nGrd, bGrd, ldN_is, ldN_lt, ldaN_is, ldaN_lt, stN_is, stN_lt, Nat.lt_add_one, ne_eq, nx1, nx2, nx3, ny1, ny2, ny3, not_false_eq_true, List.length_cons, List.length_nil, Nat.reduceLeDiff, setAt, List.take_succ_cons, List.take_zero, List.drop_succ_cons, List.drop_zero, cells_dat, cells_int, cells_bool, cells_agg, List.all_cons, List.all_nil, isCell_int, isCell_bool, isCell_dat, isCell_ref, isCell_nil, isCell_vsl, cells_vsl, av_len_cfg, av_len_pkt, av_len_opn, av_len_evn, av_len_ent, av_len_row, av_len_deal, av_len_pck, tk_cfg, tk_pkt, tk_opn, tk_evn, tk_ent, tk_row, tk_deal, tk_pck, all_cfg, all_pkt, all_opn, all_evn, all_ent, all_row, all_deal, all_pck, List.drop_nil, Bool.and_true, Bool.and_self, and_self, Nat.le_refl, true_and, and_true, Nat.le_add_right, leS, ltS, l1, h1, e1, hbase, Option.isSome_none, l10, e2, neq_bool, Bool.not_true, eq_self, add_int, h6, h7, rr]
      | true =>
        obtain ⟨w, w1, w2⟩ := S.rows _ hh
        have hrow : row = w := by simp only [row, rowOf, w1, Option.getD_some]
        rw [w1] at e1
        rw [hh] at e2
        have hj0 : (0 : Int) ≤ (j : Int) - 1 := by
          simp only [hereB, Bool.and_eq_true, decide_eq_true_eq] at hh
          exact hh.1.1
        obtain ⟨x, hx, cx⟩ := G1.seq r2 (i := 9) (m := 3) (l := rows) rfl
        have hs := cx.is (n := r.homes.rows.length) (by decide) rlen
        have hlt : ((j : Int) - 1).toNat < r.homes.rows.length := (List.getElem?_eq_some_iff.1 w2).1
        have s1 := hs.ix (k := .i64) (i := (j : Int) - 1) hj0 (by omega)
        have s2 := hs.lda hlt
        obtain ⟨y, yI, yE⟩ := rE.get rowR_len w2
        rw [yE] at s2
        have wl : w.data.length < 1000000000 := by
          obtain ⟨i, hi, _⟩ := aget_get w1
          exact fn.rows _ (List.mem_of_getElem? hi)
        have e3 := sameRow H1 w wl (dat_nums H1 w.data) (yI.nums G1)
        rw [rowX_av] at e3
        have e4 := nodeOwner G1.guard Nn ((j : Int) - 1)
        have e5 := rowner_sp G1 r2 fr.owner ((j : Int) - 1)
        have e6 := nodeWaiting G1.guard Nn ((j : Int) - 1)
        have e7 := rwaits_sp G1 r2 fr.wait ((j : Int) - 1)
        rw [S.owner] at e4
        rw [S.waits] at e6
        simp only [H1, hrow] at l10 e2 rr hx s1 s2 e3 e4 e5 e6 e7
        have hrow' : rowOf n.home.rows ((j : Int) - 1) = w := hrow
        simp -implicitDefEqProofs only [bnd_some, bo_some, condK_true, condK_false, gdA_undef, decide_true, decide_false, Int.reduceLE, Int.reduceLT, Int.reduceEq, Int.reduceNeg, Int.reduceAdd, gd_tt, gd_tf, gd_ft, gd_ff, unG_pure, lift_some, bnd_lift, Option.map_some, Option.bind_some, fieldPtr_ref, fieldPtr_ip, nil_ref, nil_ip, nil_fn, ex_tup, fl_agg, List.getElem?_cons_zero, List.getElem?_cons_succ, Nat.zero_add, Nat.add_zero, Nat.reduceAdd, pk_t, pk_f, lss_int, leq_int, gtr_int, geq_int, eql_int, neq_int, not_bool, beq_self_eq_true, if_true, Bool.false_eq_true, if_false, List.nil_append, List.cons_append, List.append_nil, alc_eq, mkm_eq, nNew, nPut, bNew, bPut, nGrd, bGrd, ldN_is, ldN_lt, ldaN_is, ldaN_lt, stN_is, stN_lt, Nat.lt_add_one, ne_eq, nx1, nx2, nx3, ny1, ny2, ny3, not_false_eq_true, List.length_cons, List.length_nil, Nat.reduceLeDiff, setAt, List.take_succ_cons, List.take_zero, List.drop_succ_cons, List.drop_zero, cells_dat, cells_int, cells_bool, cells_agg, List.all_cons, List.all_nil, isCell_int, isCell_bool, isCell_dat, isCell_ref, isCell_nil, isCell_vsl, cells_vsl, av_len_cfg, av_len_pkt, av_len_opn, av_len_evn, av_len_ent, av_len_row, av_len_deal, av_len_pck, tk_cfg, tk_pkt, tk_opn, tk_evn, tk_ent, tk_row, tk_deal, tk_pck, all_cfg, all_pkt, all_opn, all_evn, all_ent, all_row, all_deal, all_pck, List.drop_nil, Bool.and_true, Bool.and_self, and_self, Nat.le_refl, true_and, and_true, Nat.le_add_right, leS, ltS, l1, h1, e1, hrow', hbase, Option.isSome_some, l10, e2, neq_bool, Bool.not_true, eq_self, hx, s1, s2, e3, e4, e5, e6, e7, add_int, h6, h7, rr]
  -- the entries
  have entLoop : ∀ (X : AV), (∀ H' : AHeap, SliceIs H' X 1 r.cache.l.length (r.cache.l.map fun e => I e.line)) → ∀ k (j : Nat), j + k = r.cache.l.length → ∀ (Y : AV) (Hi : AHeap), SliceIs H.guard Y 6 r.cache.l.length cells → Step H.next H.guard Hi → (lp_37x0 cl [.ref (a 0) 0 0, .ref (a' 0) 0 0, X, Y, I r.cache.l.length, I j] Hi).map Prod.fst = some (B true) := by
    intro X XI k
    induction k with
    | zero =>
      intro j hj Y Hi YI s
      have h1 : ¬ (j : Int) < r.cache.l.length := by omega
      have rr := rowsLoop (c.lines.toNat + 2) 0 (by omega) Hi s
      have rr' : (lp_37x1 cl [.ref (a 0) 0 0, .ref (a' 0) 0 0, I (-1)] Hi).map Prod.fst = some (B true) := rr
      rw [le_37x0]
      simp -implicitDefEqProofs only [bnd_some, bo_some, condK_true, condK_false, gdA_undef, decide_true, decide_false, Int.reduceLE, Int.reduceLT, Int.reduceEq, Int.reduceNeg, Int.reduceAdd, gd_tt, gd_tf, gd_ft, gd_ff, unG_pure, lift_some, bnd_lift, Option.map_some, Option.bind_some, fieldPtr_ref, fieldPtr_ip, nil_ref, nil_ip, nil_fn, ex_tup, fl_agg, List.getElem?_cons_zero, List.getElem?_cons_succ, Nat.zero_add, Nat.add_zero, Nat.reduceAdd, pk_t, pk_f, lss_int, leq_int, gtr_int, geq_int, eql_int, neq_int, not_bool, beq_self_eq_true, if_true, Bool.false_eq_true, if_false, List.nil_append, List.cons_append, List.append_nil, alc_eq, mkm_eq, nNew, nPut, bNew, bPut, nGrd, bGrd, h1, rr']
    | succ k ih =>
      intro j hj Y Hi YI s
      have Gi := G.guard.ext s.next s.low
      have h1 : (j : Int) < r.cache.l.length := by omega
      have h6 : (j : Int) + 1 = ((j + 1 : Nat) : Int) := by omega
      have h7 := wrap_i64 (a := ((j + 1 : Nat) : Int)) (by omega) (by omega)
      have sb : Hi.base = H.next := s.base
      have sn : H.next ≤ Hi.next := s.next
      have hbase : Hi.base ≤ Hi.next := by omega
      obtain ⟨e, he⟩ : ∃ e, r.cache.l[j]? = some e := ⟨_, List.getElem?_eq_getElem (by omega)⟩
      have hem := List.mem_of_getElem? he
      have YIi : SliceIs Hi Y 6 r.cache.l.length cells := YI.of_get s.next fun r _ hr => s.low r hr
      have s1 := YIi.ix (k := .i64) (i := (j : Int)) (by omega) h1
      rw [Int.toNat_natCast] at s1
      have s2 := YIi.lda (i := j) (by omega)
      obtain ⟨y, yI, yE⟩ := cE.get entR_len he
      rw [yE] at s2
      have yn := yI.nums Gi
      have yc := yn.one.2
      let H1 := (Hi.new (.blk 0 144 (e.avx y))).new (.blk 0 148 e.av)
      have G0 : Good b ((Hi.new (.blk 0 144 (e.avx y))).new (.blk 0 148 [zI, zI, zI, zI, zB, zN])) g := (Gi.new _).new _
      have G1 : Good b H1 g := (Gi.new _).new _
      have l0 := G0.load n0 (i := 0) (x := .ref (a 1) 0 0) rfl
      have e1 := cacheFind G0.guard n1 (by omega) fn.ents e.line
      rw [S.find hem] at e1
      have el := fn.ents e (S.perm.mem_iff.2 hem)
      have e3 := sameEnt H1 e el (dat_nums H1 e.data) ((yn.new _).new _)
      rw [entX_av] at e3
      have t1 := (XI H1).ix (k := .i64) (i := (j : Int)) (by omega) h1
      rw [Int.toNat_natCast] at t1
      have t2 := (XI H1).ld (i := j) (by omega)
      rw [List.getElem?_map, he] at t2
      have rr := ih (j + 1) (by omega) Y H1 YI ((s.trans (Step.new _ sn)).trans (Step.new _ (Nat.le_succ_of_le sn)))
      rw [le_37x0]
      simp only [H1, Option.map_some, Ent.avx] at l0 e1 e3 t1 t2 rr s2
      simp -implicitDefEqProofs only [bnd_some, bo_some, condK_true, condK_false, gdA_undef, decide_true, decide_false, Int.reduceLE, Int.reduceLT, Int.reduceEq, Int.reduceNeg, Int.reduceAdd, gd_tt, gd_tf, gd_ft, gd_ff, unG_pure, lift_some, bnd_lift, Option.map_some, Option.bind_some, fieldPtr_ref, fieldPtr_ip, nil_ref, nil_ip, nil_fn, ex_tup, fl_agg, List.getElem?_cons_zero, List.getElem?_cons_succ, Nat.zero_add, Nat.add_zero, Nat.reduceAdd, pk_t, pk_f, lss_int, leq_int, gtr_int, geq_int, eql_int, neq_int, not_bool, beq_self_eq_true, if_true, Bool.false_eq_true, if_false, List.nil_append, List.cons_append, List.append_nil, alc_eq, mkm_eq, nNew, nPut, bNew, bPut, nGrd, bGrd, ldN_is, ldN_lt, ldaN_is, ldaN_lt, stN_is, stN_lt, Nat.lt_add_one, ne_eq, nx1, nx2, nx3, ny1, ny2, ny3, not_false_eq_true, List.length_cons, List.length_nil, Nat.reduceLeDiff, setAt, List.take_succ_cons, List.take_zero, List.drop_succ_cons, List.drop_zero, cells_dat, cells_int, cells_bool, cells_agg, List.all_cons, List.all_nil, isCell_int, isCell_bool, isCell_dat, isCell_ref, isCell_nil, isCell_vsl, cells_vsl, av_len_cfg, av_len_pkt, av_len_opn, av_len_evn, av_len_ent, av_len_row, av_len_deal, av_len_pck, tk_cfg, tk_pkt, tk_opn, tk_evn, tk_ent, tk_row, tk_deal, tk_pck, all_cfg, all_pkt, all_opn, all_evn, all_ent, all_row, all_deal, all_pck, List.drop_nil, Bool.and_true, Bool.and_self, and_self, Nat.le_refl, true_and, and_true, Nat.le_add_right, leS, ltS, h1, s1, s2, yc, hbase, l0, e1, optEnt, Option.getD_some, Option.isSome_some, t1, t2, eq_self, Bool.not_true, Ent.avx, e3, add_int, h6, h7, rr]
  -- all of it
  refine pure_val rfl rfl (rn_37 _ _ _ _) ?_ frz_s
  have G0 := G.guard
  have l1 := G0.load n0 (i := 1) (x := .ref (a 2) 0 0) rfl
  have e1 := procLeft G0.guard n2 fn.ops fn.values
  obtain ⟨u, v, u1, u2, v1, v2, v3⟩ := Nr'.lens2 G0
  obtain ⟨vv, vv1, vv2⟩ := procValues G0.guard n2 fn.values
  have e2 := sameInt H.guard (l := n.proc.values) (by have := fn.values; omega) (vv2 _) (by rw [S.values] at v3; exact v3)
  have h5 := wrap_i64 (a := (n.proc.ops.length : Int) - n.proc.values.length) (by have := fn.values; omega) (by have := fn.ops; omega)
  rw [S.ops] at u2
  rw [S.values] at v2
  have e3 := nodeDeal G0 n0 fn.deal
  let D : Deal := if n.deal.step = 0 then Deal.zero else n.deal
  have hD : r.deal = D := S.deal
  have dl : D.data.length < 1000000000 := by
    simp only [D]
    split
    · simp [Deal.zero]
    · exact fn.deal
  let H1 := H.guard.new (.blk 0 113 D.av)
  have G1 : Good b H1 g := G0.new _
  have l14 := G1.load r0 (i := 14) (x := B r.has) rfl
  have l15 := G1.loads r0 (i := 15) (n := 9) (xs := r.deal.avx dx) rfl rfl (by decide)
  rw [hD] at l15 dI
  have e4 := sameDeal H1 D dl (dat_nums H1 D.data) (dI.nums G1)
  rw [dealX_av] at e4
  have l0 := G1.load n0 (i := 0) (x := .ref (a 1) 0 0) rfl
  obtain ⟨X', XL', XI'⟩ := hL b H1 G1
  have xn := (XI' H1).lnS
  have l9 := G1.load r0 (i := 9) (x := .ref (a' 1) 0 0) rfl
  obtain ⟨Y, hY, cY⟩ := G1.seq r1 (i := 3) (m := 6) (l := cells) rfl
  have hYs := cY.is (n := r.cache.l.length) (by decide) clen
  have yn := hYs.lnS
  have YI : SliceIs H.guard Y 6 r.cache.l.length cells := by
    obtain ⟨Y', hY', cY'⟩ := G0.seq r1 (i := 3) (m := 6) (l := cells) rfl
    have := cY'.new (.blk 0 113 D.av)
    have hl := this.load
    have hY2 : ld (.ref (a' 1) 0 3) H1 = some (Y', H1) := hl
    rw [hY] at hY2
    cases hY2
    exact cY'.is (by decide) clen
  have ent : (lp_37x0 cl [.ref (a 0) 0 0, .ref (a' 0) 0 0, X', Y, I r.cache.l.length, I 0] H1).map Prod.fst = some (B true) := entLoop X' XI' r.cache.l.length 0 (by omega) Y H1 YI (Step.new _ (Nat.le_refl _))
  have hhas := S.has
  rw [hhas] at l14
  simp only [H1, D] at l14 l15 e4 l0 XL' xn l9 hY yn ent
  simp -implicitDefEqProofs only [bnd_some, bo_some, condK_true, condK_false, gdA_undef, decide_true, decide_false, Int.reduceLE, Int.reduceLT, Int.reduceEq, Int.reduceNeg, Int.reduceAdd, gd_tt, gd_tf, gd_ft, gd_ff, unG_pure, lift_some, bnd_lift, Option.map_some, Option.bind_some, fieldPtr_ref, fieldPtr_ip, nil_ref, nil_ip, nil_fn, ex_tup, fl_agg, List.getElem?_cons_zero, List.getElem?_cons_succ, Nat.zero_add, Nat.add_zero, Nat.reduceAdd, pk_t, pk_f, lss_int, leq_int, gtr_int, geq_int, eql_int, neq_int, not_bool, beq_self_eq_true, if_true, Bool.false_eq_true, if_false, List.nil_append, List.cons_append, List.append_nil, alc_eq, mkm_eq, nNew, nPut, bNew, bPut, nGrd, bGrd, ldN_is, ldN_lt, ldaN_is, ldaN_lt, stN_is, stN_lt, Nat.lt_add_one, ne_eq, nx1, nx2, nx3, ny1, ny2, ny3, not_false_eq_true, List.length_cons, List.length_nil, Nat.reduceLeDiff, setAt, List.take_succ_cons, List.take_zero, List.drop_succ_cons, List.drop_zero, cells_dat, cells_int, cells_bool, cells_agg, List.all_cons, List.all_nil, isCell_int, isCell_bool, isCell_dat, isCell_ref, isCell_nil, isCell_vsl, cells_vsl, av_len_cfg, av_len_pkt, av_len_opn, av_len_evn, av_len_ent, av_len_row, av_len_deal, av_len_pck, tk_cfg, tk_pkt, tk_opn, tk_evn, tk_ent, tk_row, tk_deal, tk_pck, all_cfg, all_pkt, all_opn, all_evn, all_ent, all_row, all_deal, all_pck, List.drop_nil, Bool.and_true, Bool.and_self, and_self, Nat.le_refl, true_and, and_true, Nat.le_add_right, leS, ltS, sh_37, bl, l1, e1, u1, u2, v1, v2, sub_int, h5, Proc.left, eq_self, Bool.not_true, vv1, e2, e3, l14, neq_bool, l15, e4, l0, XL', xn, l9, hY, yn, ent]
end

end Go.Proofs.YtlcdejlbmnjlaaaGreat

namespace Go.Proofs.YtlcdejlbmnjlaaaGreat

/-- A machine and the document's one. -/
structure Sim (m : Mach) (r : RMach) : Prop where
  c : r.c = m.c
  len : r.nodes.length = m.nodes.length
  fab : r.fab = m.fab.l
  ev : r.ev = m.trace
  node : ∀ (i : Nat) n rn, m.nodes[i]? = some n → r.nodes[i]? = some rn → NSim m.c i n rn
/-- All sizes, of both. -/
structure Fine (m : Mach) (r : RMach) : Prop where
  mf : m.fine
  rf : r.fine
  node : ∀ n ∈ m.nodes, n.fine
  rnode : ∀ n ∈ r.nodes, n.fine
  data : ∀ p ∈ m.fab.all, p.data.length < 1000000000
  trace : m.trace.length < 1000000
theorem sum_congr {α β : Type} {f : α → Int} {g : β → Int} : ∀ {l : List α} {l' : List β}, l.length = l'.length → (∀ (i : Nat) a b, l[i]? = some a → l'[i]? = some b → f a = g b) → (l.map f).sum = (l'.map g).sum
  | [], [], _, _ => rfl
  | a :: l, b :: l', h, hf => by
    simp only [List.map_cons, List.sum_cons]
    rw [hf 0 a b rfl rfl, sum_congr (by simpa using h) fun i a b ha hb => hf (i + 1) a b (by simpa using ha) (by simpa using hb)]
  | [], _ :: _, h, _ => by simp at h
  | _ :: _, [], h, _ => by simp at h
theorem Sim.left {m : Mach} {r : RMach} (S : Sim m r) : r.left = m.left := by
  unfold RMach.left Mach.left
  refine sum_congr S.len fun i a b ha hb => ?_
  have := S.node i b a hb ha
  simp only [Proc.left, this.ops, this.values]
theorem port_at {f : Fab} {i : Nat} {p : Port} (h : f.l[i]? = some p) : f.port i = p := by
  unfold Fab.port
  rw [Int.toNat_natCast, List.getD_eq_getElem?_getD, h]; rfl
theorem waiting_at {f : Fab} {i : Nat} {p : Port} (h : f.l[i]? = some p) : f.waiting i true = p.rin.length ∧ f.waiting i false = p.ain.length := by
  have hi := (List.getElem?_eq_some_iff.1 h).1
  have : f.is i = true := by simp only [Fab.is, Bool.and_eq_true, decide_eq_true_eq]; omega
  unfold Fab.waiting
  simp only [this, if_true, port_at h, Port.inOf]
  exact ⟨trivial, by simp⟩
theorem Sim.all {m : Mach} {r : RMach} (S : Sim m r) : r.all = m.fab.all := by
  unfold RMach.all Fab.all
  rw [S.fab]
theorem Sim.quiet {m : Mach} {r : RMach} (S : Sim m r) (hf : m.fab.l.length = m.nodes.length) : r.quiet = m.quiet := by
  unfold RMach.quiet Mach.quiet
  have hb : ∀ i, i < m.nodes.length → r.busy i = m.busy i := by
    intro i hi
    obtain ⟨n, hn⟩ : ∃ n, m.nodes[i]? = some n := ⟨_, List.getElem?_eq_getElem hi⟩
    obtain ⟨rn, hr⟩ : ∃ n, r.nodes[i]? = some n := ⟨_, List.getElem?_eq_getElem (by rw [S.len]; exact hi)⟩
    obtain ⟨p, hp⟩ : ∃ p, m.fab.l[i]? = some p := ⟨_, List.getElem?_eq_getElem (by omega)⟩
    have hp' : r.fab[i]? = some p := by rw [S.fab, hp]
    have N := S.node i n rn hn hr
    obtain ⟨w1, w2⟩ := waiting_at hp
    simp only [RMach.busy, Mach.busy, hn, hr, hp', w1, w2, N.begun, N.has]
    cases n.proc.begun <;> cases decide (n.deal.step = 0) <;> simp <;> rw [Bool.eq_iff_iff] <;> simp <;> omega
  rw [S.all, S.len]
  have : (List.range m.nodes.length).all (fun i => !r.busy i) = (List.range m.nodes.length).all fun i => !m.busy i := by
    rw [Bool.eq_iff_iff, List.all_eq_true, List.all_eq_true]
    constructor
    · intro h i hi; rw [← hb i (List.mem_range.1 hi)]; exact h i hi
    · intro h i hi; rw [hb i (List.mem_range.1 hi)]; exact h i hi
  rw [this, Bool.and_comm]
  rfl
theorem pkt_get {f : Fab} {j : Nat} {p : Pkt} (h : f.all[j]? = some p) : f.pkt j = some p := by
  unfold Fab.pkt
  rw [if_neg (by omega), Int.toNat_natCast, h]
section
variable {b : Nat} {H : AHeap} {g : Store} {A : Adr} {q f : Nat} {N : Nat → Nat → Nat} {m : Mach} {r : RMach}
def LinesOk (g : Store) (A : Adr) (m : Mach) (r : RMach) : Prop :=
  ∀ (i : Nat) rn, i < m.nodes.length → r.nodes[i]? = some rn → ∀ (b : Nat) (H : AHeap), Good b H g → ∃ x, cl 67 [.ref (A.N i 1) 0 0] H = some (x, H) ∧ ∀ H' : AHeap, SliceIs H' x 1 rn.cache.l.length (rn.cache.l.map fun e => I e.line)
theorem same_sp (G : Good b H g) (M : MachIs g A m) (R : RMachIs g q f N r) (S : Sim m r) (F : Fine m r) (hL : LinesOk g A m r) :
    cl 11 [.ref A.mach 0 0, .ref q 0 0] H = some (B true, H) := by
  refine pure_val rfl rfl (rn_11 _ _ _ _) ?_ frz_s
  have hm := F.mf
  have Bd := cfgB hm.ok
  have hn := hm.nodes
  have hBn := Bd.nodes
  have hfl := hm.fab
  have hall : m.fab.pools.flatten = m.fab.all := pools_flat m.fab.l
  have hpl : m.fab.all.length < 1000000 := by
    have h1 : m.fab.all.length = (m.fab.pools.map List.length).sum := (pools_len m.fab.l).symm
    have h2 : (m.fab.pools.map List.length).sum ≤ m.fab.pools.length * 1000 := sum_le fun l hl => Nat.le_of_lt (hm.pools l hl)
    have h3 : m.fab.pools.length = 2 * m.fab.l.length := pools_count _
    rw [h1]
    omega
  have G0 := G.guard
  have bl : bi .eql 33 (.ref A.mach 0 0) zP = some (B false) := by kernel_rfl
  have e1 := left_sp G0 M hm
  have e2 := rleft_sp G0 R F.rf.n F.rf.ops
  rw [S.left] at e2
  have e3 := quiet_sp G0 M hm
  have e4 := rquiet_sp G0 R F.rf
  rw [S.quiet hfl] at e4
  have l1 := G0.load M.mach (i := 1) (x := .ref A.trace 0 0) rfl
  obtain ⟨x, x1, x2⟩ := traceEvents G0.guard M.trace F.trace
  obtain ⟨y, y1, y2⟩ := G0.seq R.mach (i := 10) (m := 4) (l := r.ev.flatMap Evn.av) rfl
  have y3 := y2.is (n := r.ev.length) (by decide) (flat_len av_len_evn _)
  rw [S.ev] at y3
  have e5 := sameEvn H.guard (l := m.trace) (by have := F.trace; omega) (x2 _) y3
  have l8 := G0.load R.mach (i := 8) (x := .ref f 0 0) rfl
  obtain ⟨u, cells, u1, u2, u3⟩ := runder_sp G0 R (by have := F.rf.fab; have := F.rf.n; omega) fun p hp => ⟨(F.rf.ports p hp).1, (F.rf.ports p hp).2.1⟩
  rw [S.all] at u2 u3
  have u4 := (u2 H.guard).lnS
  have l0 := G0.load M.mach (i := 0) (x := .ref A.fab 0 0) rfl
  have e6 := under_sp G0 M.fab (by omega) (by omega) hm.pools
  have hun : m.fab.under = m.fab.all.length := rfl
  rw [hun] at e6
  -- the nodes
  have nodesLoop : ∀ k j, j + k = m.nodes.length → ∀ Hi, Step H.next H.guard Hi → (lp_11x1 cl [.ref A.mach 0 0, .ref q 0 0, I m.nodes.length, I j] Hi).map Prod.fst = some (B true) := by
    intro k
    induction k with
    | zero =>
      intro j hj Hi s
      have h1 : ¬ (j : Int) < m.nodes.length := by omega
      rw [le_11x1]
      simp -implicitDefEqProofs only [bnd_some, bo_some, condK_true, condK_false, gdA_undef, decide_true, decide_false, Int.reduceLE, Int.reduceLT, Int.reduceEq, Int.reduceNeg, Int.reduceAdd, gd_tt, gd_tf, gd_ft, gd_ff, unG_pure, lift_some, bnd_lift, Option.map_some, Option.bind_some, fieldPtr_ref, fieldPtr_ip, nil_ref, nil_ip, nil_fn, ex_tup, fl_agg, List.getElem?_cons_zero, List.getElem?_cons_succ, Nat.zero_add, Nat.add_zero, Nat.reduceAdd, pk_t, pk_f, lss_int, leq_int, gtr_int, geq_int, eql_int, neq_int, not_bool, beq_self_eq_true, if_true, Bool.false_eq_true, if_false, List.nil_append, List.cons_append, List.append_nil, alc_eq, mkm_eq, nNew, nPut, bNew, bPut, nGrd, bGrd, h1]
    | succ k ih =>
      intro j hj Hi s
      have Gi := G.guard.ext s.next s.low
      have h1 : (j : Int) < m.nodes.length := by omega
      have h6 : (j : Int) + 1 = ((j + 1 : Nat) : Int) := by omega
      have h7 := wrap_i64 (a := ((j + 1 : Nat) : Int)) (by omega) (by omega)
      obtain ⟨n, hnj⟩ : ∃ n, m.nodes[j]? = some n := ⟨_, List.getElem?_eq_getElem (by omega)⟩
      obtain ⟨rn, hrj⟩ : ∃ n, r.nodes[j]? = some n := ⟨_, List.getElem?_eq_getElem (by rw [S.len]; omega)⟩
      obtain ⟨p, hp⟩ : ∃ p, m.fab.l[j]? = some p := ⟨_, List.getElem?_eq_getElem (by omega)⟩
      have hp' : r.fab[j]? = some p := by rw [S.fab, hp]
      have l0 := Gi.load M.mach (i := 0) (x := .ref A.fab 0 0) rfl
      have l8 := Gi.load R.mach (i := 8) (x := .ref f 0 0) rfl
      have w := waiting_sp Gi M.fab (by omega) (j : Int)
      obtain ⟨w1, w2⟩ := waiting_at hp
      rw [w1, w2] at w
      obtain ⟨v0, v1⟩ := rwaiting_sp Gi R (by have := F.rf.fab; have := F.rf.n; omega) hp' ⟨(F.rf.ports p (List.mem_of_getElem? hp')).2.2.1, (F.rf.ports p (List.mem_of_getElem? hp')).2.2.2⟩
      have e1 := machNode Gi.guard M (by omega) (j : Int)
      rw [if_pos ⟨by omega, h1⟩, Int.toNat_natCast] at e1
      obtain ⟨z, z1, z2, z3⟩ := R.nodeAt Gi
      obtain ⟨pp, p1, p2⟩ := z3 j (by rw [S.len]; omega)
      have p1 := p1 .i64
      have Rn := R.node j rn hrj
      rw [S.c] at Rn
      have e2 := sameNode Gi hm.ok (M.node j n hnj) Rn (S.node j n rn hnj hrj) (F.node n (List.mem_of_getElem? hnj)) (F.rnode rn (List.mem_of_getElem? hrj)) (hL j rn (by omega) hrj)
      have rr := ih (j + 1) (by omega) Hi s
      rw [le_11x1]
      simp -implicitDefEqProofs only [bnd_some, bo_some, condK_true, condK_false, gdA_undef, decide_true, decide_false, Int.reduceLE, Int.reduceLT, Int.reduceEq, Int.reduceNeg, Int.reduceAdd, gd_tt, gd_tf, gd_ft, gd_ff, unG_pure, lift_some, bnd_lift, Option.map_some, Option.bind_some, fieldPtr_ref, fieldPtr_ip, nil_ref, nil_ip, nil_fn, ex_tup, fl_agg, List.getElem?_cons_zero, List.getElem?_cons_succ, Nat.zero_add, Nat.add_zero, Nat.reduceAdd, pk_t, pk_f, lss_int, leq_int, gtr_int, geq_int, eql_int, neq_int, not_bool, beq_self_eq_true, if_true, Bool.false_eq_true, if_false, List.nil_append, List.cons_append, List.append_nil, alc_eq, mkm_eq, nNew, nPut, bNew, bPut, nGrd, bGrd, h1, l0, w, l8, v0, v1, eq_self, Bool.not_true, e1, z1, p1, p2, e2, add_int, h6, h7, rr]
  -- the packets
  have pktLoop : ∀ k j, j + k = m.fab.all.length → ∀ Hi, Step H.next H.guard Hi → (lp_11x0 cl [.ref A.mach 0 0, .ref q 0 0, u, I m.fab.all.length, I j] Hi).map Prod.fst = some (B true) := by
    intro k
    induction k with
    | zero =>
      intro j hj Hi s
      have Gi := G.guard.ext s.next s.low
      have h1 : ¬ (j : Int) < m.fab.all.length := by omega
      obtain ⟨z, z1, z2, z3⟩ := R.nodeAt Gi
      rw [S.len] at z2
      have rr : (lp_11x1 cl [.ref A.mach 0 0, .ref q 0 0, I m.nodes.length, I 0] Hi).map Prod.fst = some (B true) := nodesLoop m.nodes.length 0 (by omega) Hi s
      rw [le_11x0]
      simp -implicitDefEqProofs only [bnd_some, bo_some, condK_true, condK_false, gdA_undef, decide_true, decide_false, Int.reduceLE, Int.reduceLT, Int.reduceEq, Int.reduceNeg, Int.reduceAdd, gd_tt, gd_tf, gd_ft, gd_ff, unG_pure, lift_some, bnd_lift, Option.map_some, Option.bind_some, fieldPtr_ref, fieldPtr_ip, nil_ref, nil_ip, nil_fn, ex_tup, fl_agg, List.getElem?_cons_zero, List.getElem?_cons_succ, Nat.zero_add, Nat.add_zero, Nat.reduceAdd, pk_t, pk_f, lss_int, leq_int, gtr_int, geq_int, eql_int, neq_int, not_bool, beq_self_eq_true, if_true, Bool.false_eq_true, if_false, List.nil_append, List.cons_append, List.append_nil, alc_eq, mkm_eq, nNew, nPut, bNew, bPut, nGrd, bGrd, h1, z1, z2, rr]
    | succ k ih =>
      intro j hj Hi s
      have Gi := G.guard.ext s.next s.low
      have h1 : (j : Int) < m.fab.all.length := by omega
      have h6 : (j : Int) + 1 = ((j + 1 : Nat) : Int) := by omega
      have h7 := wrap_i64 (a := ((j + 1 : Nat) : Int)) (by omega) (by omega)
      have sb : Hi.base = H.next := s.base
      have sn : H.next ≤ Hi.next := s.next
      have hbase : Hi.base ≤ Hi.next := by omega
      obtain ⟨p, hp⟩ : ∃ p, m.fab.all[j]? = some p := ⟨_, List.getElem?_eq_getElem (by omega)⟩
      have s1 := (u2 Hi).ix (k := .i64) (i := (j : Int)) (by omega) h1
      rw [Int.toNat_natCast] at s1
      have s2 := (u2 Hi).lda (i := j) (by omega)
      obtain ⟨v, vI, vE⟩ := u3.get pktR_len hp
      rw [vE] at s2
      have vn := vI.nums Gi
      have vc := vn.one.2
      let H1 := Hi.new (.blk 0 78 (p.avx v))
      have G1 : Good b H1 g := Gi.new _
      have l0 := G1.load M.mach (i := 0) (x := .ref A.fab 0 0) rfl
      have e1 := packet_sp G1 M.fab (by omega) (by omega) (fun l hl => ⟨hm.pools l hl, fun p' hp' => F.data p' (by rw [← hall]; exact List.mem_flatten.2 ⟨l, hl, hp'⟩)⟩) (j : Int) ⟨by omega, by omega⟩
      rw [pkt_get hp] at e1
      let H2 := H1.new (.blk 0 78 p.av)
      have e2 := samePkt H2 p (F.data p (List.mem_of_getElem? hp)) ((vn.new _).new _) (dat_nums H2 p.data)
      have pe : p.avx (dat p.data) = p.av := rfl
      rw [pe] at e2
      have rr := ih (j + 1) (by omega) H2 ((s.trans (Step.new _ sn)).trans (Step.new _ (Nat.le_succ_of_le sn)))
      rw [le_11x0]
      simp only [H1, H2, Pkt.avx] at l0 e1 e2 rr s2
      simp -implicitDefEqProofs only [bnd_some, bo_some, condK_true, condK_false, gdA_undef, decide_true, decide_false, Int.reduceLE, Int.reduceLT, Int.reduceEq, Int.reduceNeg, Int.reduceAdd, gd_tt, gd_tf, gd_ft, gd_ff, unG_pure, lift_some, bnd_lift, Option.map_some, Option.bind_some, fieldPtr_ref, fieldPtr_ip, nil_ref, nil_ip, nil_fn, ex_tup, fl_agg, List.getElem?_cons_zero, List.getElem?_cons_succ, Nat.zero_add, Nat.add_zero, Nat.reduceAdd, pk_t, pk_f, lss_int, leq_int, gtr_int, geq_int, eql_int, neq_int, not_bool, beq_self_eq_true, if_true, Bool.false_eq_true, if_false, List.nil_append, List.cons_append, List.append_nil, alc_eq, mkm_eq, nNew, nPut, bNew, bPut, nGrd, bGrd, ldN_is, ldN_lt, ldaN_is, ldaN_lt, stN_is, stN_lt, Nat.lt_add_one, ne_eq, nx1, nx2, nx3, ny1, ny2, ny3, not_false_eq_true, List.length_cons, List.length_nil, Nat.reduceLeDiff, setAt, List.take_succ_cons, List.take_zero, List.drop_succ_cons, List.drop_zero, cells_dat, cells_int, cells_bool, cells_agg, List.all_cons, List.all_nil, isCell_int, isCell_bool, isCell_dat, isCell_ref, isCell_nil, isCell_vsl, cells_vsl, av_len_cfg, av_len_pkt, av_len_opn, av_len_evn, av_len_ent, av_len_row, av_len_deal, av_len_pck, tk_cfg, tk_pkt, tk_opn, tk_evn, tk_ent, tk_row, tk_deal, tk_pck, all_cfg, all_pkt, all_opn, all_evn, all_ent, all_row, all_deal, all_pck, List.drop_nil, Bool.and_true, Bool.and_self, and_self, Nat.le_refl, true_and, and_true, Nat.le_add_right, leS, ltS, h1, s1, s2, vc, hbase, l0, e1, optPkt, Option.getD_some, Option.isSome_some, Bool.not_true, e2, add_int, h6, h7, rr]
  have rr : (lp_11x0 cl [.ref A.mach 0 0, .ref q 0 0, u, I m.fab.all.length, I 0] H.guard).map Prod.fst = some (B true) := pktLoop m.fab.all.length 0 (by omega) H.guard (Step.refl _ _)
  simp -implicitDefEqProofs only [bnd_some, bo_some, condK_true, condK_false, gdA_undef, decide_true, decide_false, Int.reduceLE, Int.reduceLT, Int.reduceEq, Int.reduceNeg, Int.reduceAdd, gd_tt, gd_tf, gd_ft, gd_ff, unG_pure, lift_some, bnd_lift, Option.map_some, Option.bind_some, fieldPtr_ref, fieldPtr_ip, nil_ref, nil_ip, nil_fn, ex_tup, fl_agg, List.getElem?_cons_zero, List.getElem?_cons_succ, Nat.zero_add, Nat.add_zero, Nat.reduceAdd, pk_t, pk_f, lss_int, leq_int, gtr_int, geq_int, eql_int, neq_int, not_bool, beq_self_eq_true, if_true, Bool.false_eq_true, if_false, List.nil_append, List.cons_append, List.append_nil, alc_eq, mkm_eq, nNew, nPut, bNew, bPut, nGrd, bGrd, sh_11, bl, e1, e2, eq_self, Bool.not_true, e3, e4, neq_bool, l1, x1, y1, e5, l8, u1, l0, e6, u4, rr]
end

end Go.Proofs.YtlcdejlbmnjlaaaGreat

namespace Go.Proofs.YtlcdejlbmnjlaaaGreat

def insRev (x : Int) : List Int → List Int
  | [] => [x]
  | y :: l => if x < y then y :: insRev x l else x :: y :: l
def srt : List Int → List Int → List Int
  | rp, [] => rp.reverse
  | rp, x :: l => srt (insRev x rp) l
theorem insRev_perm (x : Int) : ∀ l, (insRev x l).Perm (x :: l)
  | [] => List.Perm.refl _
  | y :: l => by
    simp only [insRev]
    split
    · exact ((insRev_perm x l).cons y).trans (List.Perm.swap x y l)
    · exact List.Perm.refl _
theorem insRev_len (x : Int) (l : List Int) : (insRev x l).length = l.length + 1 := by
  have := (insRev_perm x l).length_eq
  simpa using this
theorem insRev_sorted (x : Int) : ∀ l, l.Pairwise (· ≥ ·) → (insRev x l).Pairwise (· ≥ ·)
  | [], _ => by simp [insRev]
  | y :: l, h => by
    simp only [insRev]
    rw [List.pairwise_cons] at h
    split
    · rename_i hxy
      refine List.pairwise_cons.2 ⟨fun z hz => ?_, insRev_sorted x l h.2⟩
      rcases List.mem_cons.1 ((insRev_perm x l).mem_iff.1 hz) with rfl | hz
      · omega
      · exact h.1 z hz
    · rename_i hxy
      refine List.pairwise_cons.2 ⟨fun z hz => ?_, List.pairwise_cons.2 h⟩
      rcases List.mem_cons.1 hz with rfl | hz
      · omega
      · have := h.1 z hz; omega
theorem srt_spec : ∀ (l rp : List Int), rp.Pairwise (· ≥ ·) → (srt rp l).Perm (rp ++ l) ∧ (srt rp l).Pairwise (· ≤ ·)
  | [], rp, h => by
    simp only [srt, List.append_nil]
    exact ⟨List.reverse_perm rp, List.pairwise_reverse.2 (h.imp fun h => h)⟩
  | x :: l, rp, h => by
    have := srt_spec l (insRev x rp) (insRev_sorted x rp h)
    simp only [srt]
    refine ⟨this.1.trans ?_, this.2⟩
    refine ((insRev_perm x rp).append_right l).trans ?_
    rw [List.cons_append]
    exact (List.perm_middle (a := x) (l₁ := rp) (l₂ := l)).symm
/-- Sorted numbers of which no two are the same stand in one order alone. -/
theorem srt_is {l l' : List Int} (hp : l.Perm l') (hs : l'.Pairwise (· ≤ ·)) : srt [] l = l' := by
  obtain ⟨h1, h2⟩ := srt_spec l [] List.Pairwise.nil
  exact (h1.trans hp).eq_of_pairwise (fun a b _ _ h1 h2 => Int.le_antisymm h1 h2) h2 hs
theorem Own.set1 {b : Nat} {H : AHeap} {x : AV} {n : Nat} {l : List AV} (c : Own b H x 1 l) (hb : H.base ≤ b) (hl : l.length = n) {j : Nat} (hj : j < n) :
    ∃ p, (∀ k : IntKind, ix 1 x (.s (.int k j)) H = some (p, H)) ∧ ld p H = (l[j]?).map (fun v => (v, H)) ∧ ∀ v, One v → ∃ H', st 1 p v H = some (undefA, H') ∧ Own b H' x 1 (l.set j v) ∧ Step b H H' ∧ H'.next = H.next := by
  obtain ⟨r, gg, off, i1, i2, i3⟩ := c.ref (by decide) (by omega : l.length = n * 1) hj
  have i2 := i2 0 (by decide)
  rw [Nat.mul_one, Nat.add_zero, Nat.add_zero] at i2
  refine ⟨_, i1, i2, fun v hv => ?_⟩
  rcases c with ⟨_, h0⟩ | ⟨r', gg', off', n', cap, ex, ty, all, rfl, k2, k3, k4, k5, k6, k7, rfl⟩
  · rw [h0] at hl; simp at hl; omega
  have e := i1 .i64
  have hs : ix 1 (.sl r' gg' off' 1 n' cap ex) (.s (.int .i64 j)) H = some (.ref r' gg' (off' + j), H) := by
    have hcm : n' * 1 ≤ cap * 1 := Nat.mul_le_mul_right _ k4
    have hn : n' = n := by rw [List.length_take, List.length_drop] at hl; omega
    have := (Own.is (b := b) (n := n') (.inr ⟨r', gg', off', n', cap, ex, ty, all, rfl, k2, k3, k4, k5, k6, k7, rfl⟩) (by decide) (by rw [List.length_take, List.length_drop]; omega)).ix (k := .i64) (i := (j : Int)) (by omega) (by omega)
    rw [Int.toNat_natCast] at this
    rw [this]
    simp only [elemPtr, Nat.mul_one]
  rw [hs] at e
  cases e
  have hn : n' = n := by rw [List.length_take, List.length_drop] at hl; omega
  subst hn
  refine ⟨_, st_one hv k5 (by omega) (by omega), .inr ⟨r, gg, off', n', cap, ex, ty, all.set (off' + j) v, rfl, k2, k3, k4, by rw [get_put, if_pos rfl], by simpa using k6, all_set k7 hv.2 _, ?_⟩, Step.put _ k2, rfl⟩
  apply List.ext_getElem?
  intro p
  rw [List.getElem?_take, List.getElem?_drop]
  by_cases hp : p < n' * 1
  · rw [if_pos hp]
    by_cases hpj : p = j
    · subst hpj
      rw [List.getElem?_set_self (by rw [List.length_take, List.length_drop]; omega), List.getElem?_set_self (by omega)]
    · rw [List.getElem?_set_ne (fun e => hpj e.symm), List.getElem?_set_ne (by omega), List.getElem?_take, if_pos hp, List.getElem?_drop]
  · rw [if_neg hp, List.getElem?_eq_none (by rw [List.length_set, List.length_take, List.length_drop]; omega)]
theorem less_sp (H : AHeap) (a b : Int) : cl 105 [I a, I b] H = some (B (decide (a < b)), H) := by
  have e : ∀ a, cl 115 [I a] H = some (B false, H) := fun a => by
    refine run_cl rfl rfl (rn_115 _ _ _ ?_)
    simp -implicitDefEqProofs only [bnd_some, bo_some, condK_true, condK_false, gdA_undef, decide_true, decide_false, Int.reduceLE, Int.reduceLT, Int.reduceEq, Int.reduceNeg, Int.reduceAdd, gd_tt, gd_tf, gd_ft, gd_ff, unG_pure, lift_some, bnd_lift, Option.map_some, Option.bind_some, fieldPtr_ref, fieldPtr_ip, nil_ref, nil_ip, nil_fn, ex_tup, fl_agg, List.getElem?_cons_zero, List.getElem?_cons_succ, Nat.zero_add, Nat.add_zero, Nat.reduceAdd, pk_t, pk_f, lss_int, leq_int, gtr_int, geq_int, eql_int, neq_int, not_bool, beq_self_eq_true, if_true, Bool.false_eq_true, if_false, List.nil_append, List.cons_append, List.append_nil, alc_eq, mkm_eq, nNew, nPut, bNew, bPut, nGrd, bGrd, sh_115, eq_self, Bool.not_true]
  refine run_cl rfl rfl (rn_105 _ _ _ _ ?_)
  simp -implicitDefEqProofs only [bnd_some, bo_some, condK_true, condK_false, gdA_undef, decide_true, decide_false, Int.reduceLE, Int.reduceLT, Int.reduceEq, Int.reduceNeg, Int.reduceAdd, gd_tt, gd_tf, gd_ft, gd_ff, unG_pure, lift_some, bnd_lift, Option.map_some, Option.bind_some, fieldPtr_ref, fieldPtr_ip, nil_ref, nil_ip, nil_fn, ex_tup, fl_agg, List.getElem?_cons_zero, List.getElem?_cons_succ, Nat.zero_add, Nat.add_zero, Nat.reduceAdd, pk_t, pk_f, lss_int, leq_int, gtr_int, geq_int, eql_int, neq_int, not_bool, beq_self_eq_true, if_true, Bool.false_eq_true, if_false, List.nil_append, List.cons_append, List.append_nil, alc_eq, mkm_eq, nNew, nPut, bNew, bPut, nGrd, bGrd, sh_105, e]
theorem set_mid {rp : List Int} {y x : Int} {suf : List Int} : (((rp.reverse ++ y :: x :: suf).map I).set (rp.length + 1) (I y)).set rp.length (I x) = (rp.reverse ++ x :: y :: suf).map I := by
  have h1 : (rp.reverse.map I).length = rp.length := by simp
  simp only [List.map_append, List.map_cons]
  rw [List.set_append_right _ _ (by omega), h1, List.set_append_right _ _ (by omega), h1, Nat.sub_self, Nat.add_sub_cancel_left]
  rfl
theorem insOne {b : Nat} {t : AV} {n : Nat} {a2 i6 : AV} : ∀ (rp : List Int) (x : Int) (suf : List Int) (H : AHeap), rp.length + 1 + suf.length = n → n < 1000000 → H.base ≤ b → Own b H t 1 ((rp.reverse ++ x :: suf).map I) →
    ∃ H', lp_99x1 cl [t, I 0, a2, i6, I rp.length] H = (bo (bi .add 3 i6 (I 1)) fun v14 => lp_99x0 cl [t, I 0, a2, v14] H') ∧ Own b H' t 1 (((insRev x rp).reverse ++ suf).map I) ∧ Step b H H'
  | [], x, suf, H, hn, hN, hb, c => by
    refine ⟨H, ?_, by simpa [insRev] using c, Step.refl _ _⟩
    rw [le_99x1]
    simp -implicitDefEqProofs only [bnd_some, bo_some, condK_true, condK_false, gdA_undef, decide_true, decide_false, Int.reduceLE, Int.reduceLT, Int.reduceEq, Int.reduceNeg, Int.reduceAdd, gd_tt, gd_tf, gd_ft, gd_ff, unG_pure, lift_some, bnd_lift, Option.map_some, Option.bind_some, fieldPtr_ref, fieldPtr_ip, nil_ref, nil_ip, nil_fn, ex_tup, fl_agg, List.getElem?_cons_zero, List.getElem?_cons_succ, Nat.zero_add, Nat.add_zero, Nat.reduceAdd, pk_t, pk_f, lss_int, leq_int, gtr_int, geq_int, eql_int, neq_int, not_bool, beq_self_eq_true, if_true, Bool.false_eq_true, if_false, List.nil_append, List.cons_append, List.append_nil, alc_eq, mkm_eq, nNew, nPut, bNew, bPut, nGrd, bGrd, List.length_nil, Int.ofNat_zero, Int.lt_irrefl]
  | y :: rp, x, suf, H, hn, hN, hb, c => by
    simp only [List.length_cons] at hn
    have hc : ((y :: rp).reverse ++ x :: suf) = rp.reverse ++ y :: x :: suf := by simp
    rw [hc] at c
    have hlen : ((rp.reverse ++ y :: x :: suf).map I).length = n := by simp; omega
    obtain ⟨p1, a1, a2', a3⟩ := c.set1 hb hlen (j := rp.length + 1) (by omega)
    obtain ⟨p0, b1, b2, b3⟩ := c.set1 hb hlen (j := rp.length) (by omega)
    have h1 : ((rp.reverse ++ y :: x :: suf).map I)[rp.length + 1]? = some (I x) := by
      rw [List.getElem?_map, List.getElem?_append_right (by simp), List.length_reverse, Nat.add_sub_cancel_left]; rfl
    have h0 : ((rp.reverse ++ y :: x :: suf).map I)[rp.length]? = some (I y) := by
      rw [List.getElem?_map, List.getElem?_append_right (by simp), List.length_reverse, Nat.sub_self]; rfl
    rw [h1] at a2'
    rw [h0] at b2
    have a1 := a1 .i64
    have b1 := b1 .i64
    have g1 : (0 : Int) < ((rp.length + 1 : Nat) : Int) := by omega
    have g2 : ((rp.length + 1 : Nat) : Int) - 1 = (rp.length : Int) := by omega
    have g3 := wrap_i64 (a := (rp.length : Int)) (by omega) (by omega)
    have e := less_sp H x y
    rw [le_99x1]
    simp only [List.length_cons]
    by_cases hxy : x < y
    · obtain ⟨H1, s1, s2, s3, s4⟩ := a3 (I y) one_int
      obtain ⟨q0, d1, d2, d3⟩ := s2.set1 (n := n) (by rw [s3.base]; exact hb) (by rw [List.length_set, hlen]) (j := rp.length) (by omega)
      have d1 := d1 .i64
      obtain ⟨H2, u1, u2, u3, u4⟩ := d3 (I x) one_int
      rw [set_mid] at u2
      obtain ⟨H', r1, r2, r3⟩ := insOne (b := b) (t := t) (n := n) (a2 := a2) (i6 := i6) rp x (y :: suf) H2 (by rw [List.length_cons]; omega) hN (by rw [u3.base, s3.base]; exact hb) u2
      refine ⟨H', ?_, by simpa [insRev, hxy] using r2, (s3.trans u3).trans r3⟩
      simp -implicitDefEqProofs only [bnd_some, bo_some, condK_true, condK_false, gdA_undef, decide_true, decide_false, Int.reduceLE, Int.reduceLT, Int.reduceEq, Int.reduceNeg, Int.reduceAdd, gd_tt, gd_tf, gd_ft, gd_ff, unG_pure, lift_some, bnd_lift, Option.map_some, Option.bind_some, fieldPtr_ref, fieldPtr_ip, nil_ref, nil_ip, nil_fn, ex_tup, fl_agg, List.getElem?_cons_zero, List.getElem?_cons_succ, Nat.zero_add, Nat.add_zero, Nat.reduceAdd, pk_t, pk_f, lss_int, leq_int, gtr_int, geq_int, eql_int, neq_int, not_bool, beq_self_eq_true, if_true, Bool.false_eq_true, if_false, List.nil_append, List.cons_append, List.append_nil, alc_eq, mkm_eq, nNew, nPut, bNew, bPut, nGrd, bGrd, g1, a1, a2', sub_int, g2, g3, b1, b2, e, hxy, s1, d1, u1, r1]
    · refine ⟨H, ?_, by simpa [insRev, hxy] using c, Step.refl _ _⟩
      simp -implicitDefEqProofs only [bnd_some, bo_some, condK_true, condK_false, gdA_undef, decide_true, decide_false, Int.reduceLE, Int.reduceLT, Int.reduceEq, Int.reduceNeg, Int.reduceAdd, gd_tt, gd_tf, gd_ft, gd_ff, unG_pure, lift_some, bnd_lift, Option.map_some, Option.bind_some, fieldPtr_ref, fieldPtr_ip, nil_ref, nil_ip, nil_fn, ex_tup, fl_agg, List.getElem?_cons_zero, List.getElem?_cons_succ, Nat.zero_add, Nat.add_zero, Nat.reduceAdd, pk_t, pk_f, lss_int, leq_int, gtr_int, geq_int, eql_int, neq_int, not_bool, beq_self_eq_true, if_true, Bool.false_eq_true, if_false, List.nil_append, List.cons_append, List.append_nil, alc_eq, mkm_eq, nNew, nPut, bNew, bPut, nGrd, bGrd, g1, a1, a2', sub_int, g2, g3, b1, b2, e, hxy]
theorem insAll {b : Nat} {t : AV} {n : Nat} : ∀ (l rp : List Int) (H : AHeap), rp.length + l.length = n → n < 1000000 → H.base ≤ b → Own b H t 1 ((rp.reverse ++ l).map I) →
    ∃ H', lp_99x0 cl [t, I 0, I n, I rp.length] H = some (.tup [], H') ∧ Own b H' t 1 ((srt rp l).map I) ∧ Step b H H'
  | [], rp, H, hn, hN, hb, c => by
    have h1 : ¬ (rp.length : Int) < n := by simp at hn; omega
    refine ⟨H, ?_, by simpa [srt] using c, Step.refl _ _⟩
    rw [le_99x0]
    simp -implicitDefEqProofs only [bnd_some, bo_some, condK_true, condK_false, gdA_undef, decide_true, decide_false, Int.reduceLE, Int.reduceLT, Int.reduceEq, Int.reduceNeg, Int.reduceAdd, gd_tt, gd_tf, gd_ft, gd_ff, unG_pure, lift_some, bnd_lift, Option.map_some, Option.bind_some, fieldPtr_ref, fieldPtr_ip, nil_ref, nil_ip, nil_fn, ex_tup, fl_agg, List.getElem?_cons_zero, List.getElem?_cons_succ, Nat.zero_add, Nat.add_zero, Nat.reduceAdd, pk_t, pk_f, lss_int, leq_int, gtr_int, geq_int, eql_int, neq_int, not_bool, beq_self_eq_true, if_true, Bool.false_eq_true, if_false, List.nil_append, List.cons_append, List.append_nil, alc_eq, mkm_eq, nNew, nPut, bNew, bPut, nGrd, bGrd, h1]
  | x :: l, rp, H, hn, hN, hb, c => by
    simp only [List.length_cons] at hn
    have h1 : (rp.length : Int) < n := by omega
    obtain ⟨H1, a1, a2, a3⟩ := insOne (b := b) (t := t) (n := n) (a2 := I n) (i6 := I rp.length) rp x l H (by omega) hN hb c
    obtain ⟨H', r1, r2, r3⟩ := insAll (b := b) (t := t) (n := n) l (insRev x rp) H1 (by rw [insRev_len]; omega) hN (by rw [a3.base]; exact hb) a2
    rw [insRev_len] at r1
    refine ⟨H', ?_, r2, a3.trans r3⟩
    have h6 : (rp.length : Int) + 1 = ((rp.length + 1 : Nat) : Int) := by omega
    have h7 := wrap_i64 (a := ((rp.length + 1 : Nat) : Int)) (by omega) (by omega)
    rw [le_99x0]
    simp -implicitDefEqProofs only [bnd_some, bo_some, condK_true, condK_false, gdA_undef, decide_true, decide_false, Int.reduceLE, Int.reduceLT, Int.reduceEq, Int.reduceNeg, Int.reduceAdd, gd_tt, gd_tf, gd_ft, gd_ff, unG_pure, lift_some, bnd_lift, Option.map_some, Option.bind_some, fieldPtr_ref, fieldPtr_ip, nil_ref, nil_ip, nil_fn, ex_tup, fl_agg, List.getElem?_cons_zero, List.getElem?_cons_succ, Nat.zero_add, Nat.add_zero, Nat.reduceAdd, pk_t, pk_f, lss_int, leq_int, gtr_int, geq_int, eql_int, neq_int, not_bool, beq_self_eq_true, if_true, Bool.false_eq_true, if_false, List.nil_append, List.cons_append, List.append_nil, alc_eq, mkm_eq, nNew, nPut, bNew, bPut, nGrd, bGrd, h1, a1, add_int, h6, h7, r1]
theorem bitsLen (H : AHeap) (n : Nat) (h : n ≤ 12) : ∃ v, cl 95 [.s (.int .u64 n)] H = some (I v, H) := by
  have key : ∃ v, cl 109 [.s (.int .u64 n)] H = some (I v, H) := by
    have : n = 0 ∨ n = 1 ∨ n = 2 ∨ n = 3 ∨ n = 4 ∨ n = 5 ∨ n = 6 ∨ n = 7 ∨ n = 8 ∨ n = 9 ∨ n = 10 ∨ n = 11 ∨ n = 12 := by omega
    rcases this with rfl | rfl | rfl | rfl | rfl | rfl | rfl | rfl | rfl | rfl | rfl | rfl | rfl
    · exact ⟨0, run_cl rfl rfl (rn_109 _ _ _ (by kernel_rfl))⟩
    · exact ⟨1, run_cl rfl rfl (rn_109 _ _ _ (by kernel_rfl))⟩
    · exact ⟨2, run_cl rfl rfl (rn_109 _ _ _ (by kernel_rfl))⟩
    · exact ⟨2, run_cl rfl rfl (rn_109 _ _ _ (by kernel_rfl))⟩
    · exact ⟨3, run_cl rfl rfl (rn_109 _ _ _ (by kernel_rfl))⟩
    · exact ⟨3, run_cl rfl rfl (rn_109 _ _ _ (by kernel_rfl))⟩
    · exact ⟨3, run_cl rfl rfl (rn_109 _ _ _ (by kernel_rfl))⟩
    · exact ⟨3, run_cl rfl rfl (rn_109 _ _ _ (by kernel_rfl))⟩
    · exact ⟨4, run_cl rfl rfl (rn_109 _ _ _ (by kernel_rfl))⟩
    · exact ⟨4, run_cl rfl rfl (rn_109 _ _ _ (by kernel_rfl))⟩
    · exact ⟨4, run_cl rfl rfl (rn_109 _ _ _ (by kernel_rfl))⟩
    · exact ⟨4, run_cl rfl rfl (rn_109 _ _ _ (by kernel_rfl))⟩
    · exact ⟨4, run_cl rfl rfl (rn_109 _ _ _ (by kernel_rfl))⟩
  obtain ⟨v, e⟩ := key
  refine ⟨v, run_cl rfl rfl (rn_95 _ _ _ ?_)⟩
  simp -implicitDefEqProofs only [bnd_some, bo_some, condK_true, condK_false, gdA_undef, decide_true, decide_false, Int.reduceLE, Int.reduceLT, Int.reduceEq, Int.reduceNeg, Int.reduceAdd, gd_tt, gd_tf, gd_ft, gd_ff, unG_pure, lift_some, bnd_lift, Option.map_some, Option.bind_some, fieldPtr_ref, fieldPtr_ip, nil_ref, nil_ip, nil_fn, ex_tup, fl_agg, List.getElem?_cons_zero, List.getElem?_cons_succ, Nat.zero_add, Nat.add_zero, Nat.reduceAdd, pk_t, pk_f, lss_int, leq_int, gtr_int, geq_int, eql_int, neq_int, not_bool, beq_self_eq_true, if_true, Bool.false_eq_true, if_false, List.nil_append, List.cons_append, List.append_nil, alc_eq, mkm_eq, nNew, nPut, bNew, bPut, nGrd, bGrd, sh_95, e]
/-- slices.Sort of at most twelve numbers. -/
theorem sort_sp {b : Nat} {t : AV} {l : List Int} {H : AHeap} (hl : l.length ≤ 12) (hb : H.base ≤ b) (c : Own b H t 1 (l.map I)) : ∃ H', cl 85 [t] H = some (.tup [], H') ∧ Own b H' t 1 ((srt [] l).map I) ∧ Step b H H' := by
  have e1 := (c.is (n := l.length) (by decide) (by simp)).lnS
  obtain ⟨v, e2⟩ := bitsLen H l.length hl
  have hw : IntKind.wrap .u64 (l.length : Int) = l.length := by
    simp [IntKind.wrap, IntKind.signed, IntKind.bits]; omega
  have e3 : cv 3 204 (I l.length) H = some (.s (.int .u64 l.length), H) := by
    have := cv_3x204 (k := .i64) (n := (l.length : Int)) (H := H)
    rw [hw] at this; exact this
  have ins : ∃ H', cl 99 [t, I 0, I l.length] H = some (.tup [], H') ∧ Own b H' t 1 ((srt [] l).map I) ∧ Step b H H' := by
    cases l with
    | nil =>
      refine ⟨H, run_cl rfl rfl (rn_99 _ _ _ _ _ ?_), c, Step.refl _ _⟩
      have w : IntKind.wrap .i64 1 = 1 := rfl
      have r : lp_99x0 cl [t, I 0, I (0 : Nat), I 1] H = some (.tup [], H) := by
        rw [le_99x0]
        have h1 : ¬ (1 : Int) < ((0 : Nat) : Int) := by omega
        simp -implicitDefEqProofs only [bnd_some, bo_some, condK_true, condK_false, gdA_undef, decide_true, decide_false, Int.reduceLE, Int.reduceLT, Int.reduceEq, Int.reduceNeg, Int.reduceAdd, gd_tt, gd_tf, gd_ft, gd_ff, unG_pure, lift_some, bnd_lift, Option.map_some, Option.bind_some, fieldPtr_ref, fieldPtr_ip, nil_ref, nil_ip, nil_fn, ex_tup, fl_agg, List.getElem?_cons_zero, List.getElem?_cons_succ, Nat.zero_add, Nat.add_zero, Nat.reduceAdd, pk_t, pk_f, lss_int, leq_int, gtr_int, geq_int, eql_int, neq_int, not_bool, beq_self_eq_true, if_true, Bool.false_eq_true, if_false, List.nil_append, List.cons_append, List.append_nil, alc_eq, mkm_eq, nNew, nPut, bNew, bPut, nGrd, bGrd, h1]
      simp -implicitDefEqProofs only [bnd_some, bo_some, condK_true, condK_false, gdA_undef, decide_true, decide_false, Int.reduceLE, Int.reduceLT, Int.reduceEq, Int.reduceNeg, Int.reduceAdd, gd_tt, gd_tf, gd_ft, gd_ff, unG_pure, lift_some, bnd_lift, Option.map_some, Option.bind_some, fieldPtr_ref, fieldPtr_ip, nil_ref, nil_ip, nil_fn, ex_tup, fl_agg, List.getElem?_cons_zero, List.getElem?_cons_succ, Nat.zero_add, Nat.add_zero, Nat.reduceAdd, pk_t, pk_f, lss_int, leq_int, gtr_int, geq_int, eql_int, neq_int, not_bool, beq_self_eq_true, if_true, Bool.false_eq_true, if_false, List.nil_append, List.cons_append, List.append_nil, alc_eq, mkm_eq, nNew, nPut, bNew, bPut, nGrd, bGrd, sh_99, add_int, w, List.length_nil, r]
    | cons x l =>
      obtain ⟨H', r1, r2, r3⟩ := insAll (b := b) (t := t) (n := l.length + 1) l [x] H (by simp; omega) (by simp at hl; omega) hb (by simpa using c)
      refine ⟨H', run_cl rfl rfl (rn_99 _ _ _ _ _ ?_), by simpa [srt, insRev] using r2, r3⟩
      have w : IntKind.wrap .i64 1 = 1 := rfl
      have r1' : lp_99x0 cl [t, I 0, I (l.length + 1 : Nat), I 1] H = some (.tup [], H') := r1
      simp -implicitDefEqProofs only [bnd_some, bo_some, condK_true, condK_false, gdA_undef, decide_true, decide_false, Int.reduceLE, Int.reduceLT, Int.reduceEq, Int.reduceNeg, Int.reduceAdd, gd_tt, gd_tf, gd_ft, gd_ff, unG_pure, lift_some, bnd_lift, Option.map_some, Option.bind_some, fieldPtr_ref, fieldPtr_ip, nil_ref, nil_ip, nil_fn, ex_tup, fl_agg, List.getElem?_cons_zero, List.getElem?_cons_succ, Nat.zero_add, Nat.add_zero, Nat.reduceAdd, pk_t, pk_f, lss_int, leq_int, gtr_int, geq_int, eql_int, neq_int, not_bool, beq_self_eq_true, if_true, Bool.false_eq_true, if_false, List.nil_append, List.cons_append, List.append_nil, alc_eq, mkm_eq, nNew, nPut, bNew, bPut, nGrd, bGrd, sh_99, add_int, w, List.length_cons, r1']
  obtain ⟨H', r1, r2, r3⟩ := ins
  have pdq : cl 94 [t, I 0, I l.length, I v] H = some (.tup [], H') := by
    refine run_cl rfl rfl (rn_94 _ _ _ _ _ _ ?_)
    have r : lp_94x0 cl [t, I 0, I l.length, I v, B true, B true] H = some (.tup [], H') := by
      rw [le_94x0]
      have w := wrap_i64 (a := (l.length : Int)) (by omega) (by omega)
      have h1 : (l.length : Int) ≤ 12 := by omega
      simp -implicitDefEqProofs only [bnd_some, bo_some, condK_true, condK_false, gdA_undef, decide_true, decide_false, Int.reduceLE, Int.reduceLT, Int.reduceEq, Int.reduceNeg, Int.reduceAdd, gd_tt, gd_tf, gd_ft, gd_ff, unG_pure, lift_some, bnd_lift, Option.map_some, Option.bind_some, fieldPtr_ref, fieldPtr_ip, nil_ref, nil_ip, nil_fn, ex_tup, fl_agg, List.getElem?_cons_zero, List.getElem?_cons_succ, Nat.zero_add, Nat.add_zero, Nat.reduceAdd, pk_t, pk_f, lss_int, leq_int, gtr_int, geq_int, eql_int, neq_int, not_bool, beq_self_eq_true, if_true, Bool.false_eq_true, if_false, List.nil_append, List.cons_append, List.append_nil, alc_eq, mkm_eq, nNew, nPut, bNew, bPut, nGrd, bGrd, sub_int, Int.sub_zero, w, h1, r1]
    simp -implicitDefEqProofs only [bnd_some, bo_some, condK_true, condK_false, gdA_undef, decide_true, decide_false, Int.reduceLE, Int.reduceLT, Int.reduceEq, Int.reduceNeg, Int.reduceAdd, gd_tt, gd_tf, gd_ft, gd_ff, unG_pure, lift_some, bnd_lift, Option.map_some, Option.bind_some, fieldPtr_ref, fieldPtr_ip, nil_ref, nil_ip, nil_fn, ex_tup, fl_agg, List.getElem?_cons_zero, List.getElem?_cons_succ, Nat.zero_add, Nat.add_zero, Nat.reduceAdd, pk_t, pk_f, lss_int, leq_int, gtr_int, geq_int, eql_int, neq_int, not_bool, beq_self_eq_true, if_true, Bool.false_eq_true, if_false, List.nil_append, List.cons_append, List.append_nil, alc_eq, mkm_eq, nNew, nPut, bNew, bPut, nGrd, bGrd, sh_94, r]
  refine ⟨H', run_cl rfl rfl (rn_85 _ _ _ ?_), r2, r3⟩
  simp -implicitDefEqProofs only [bnd_some, bo_some, condK_true, condK_false, gdA_undef, decide_true, decide_false, Int.reduceLE, Int.reduceLT, Int.reduceEq, Int.reduceNeg, Int.reduceAdd, gd_tt, gd_tf, gd_ft, gd_ff, unG_pure, lift_some, bnd_lift, Option.map_some, Option.bind_some, fieldPtr_ref, fieldPtr_ip, nil_ref, nil_ip, nil_fn, ex_tup, fl_agg, List.getElem?_cons_zero, List.getElem?_cons_succ, Nat.zero_add, Nat.add_zero, Nat.reduceAdd, pk_t, pk_f, lss_int, leq_int, gtr_int, geq_int, eql_int, neq_int, not_bool, beq_self_eq_true, if_true, Bool.false_eq_true, if_false, List.nil_append, List.cons_append, List.append_nil, alc_eq, mkm_eq, nNew, nPut, bNew, bPut, nGrd, bGrd, sh_85, e1, e3, e2, pdq]
section
variable {b : Nat} {H : AHeap} {g : Store} {q : Nat}
theorem lines_sp (G : Good b H g) {c : Cache} (h : g q = some (cacheO c)) (hl : c.l.length ≤ 12) : ∃ x, cl 67 [.ref q 0 0] H = some (x, H) ∧ ∀ H' : AHeap, SliceIs H' x 1 c.l.length ((srt [] (c.l.map (·.line))).map I) := by
  obtain ⟨t, ht, ct⟩ := G.guard.seq h (i := 0) rfl
  have hs := ct.is (n := c.l.length) (by decide) (flat_len av_len_ent c.l)
  have e2 := hs.lnS
  have key : ∀ k j, j + k = c.l.length → ∀ (Hi : AHeap) (o : AV), Own H.next Hi o 1 (((c.l.map (·.line)).take j).map I) → Step H.next H.guard Hi →
      ∃ y Hz, lp_67x0 cl [o, t, I c.l.length, I j] Hi = some (y, Hz) ∧ Own H.next Hz y 1 ((srt [] (c.l.map (·.line))).map I) := by
    intro k
    induction k with
    | zero =>
      intro j hj Hi o O s
      have h1 : ¬ (j : Int) < c.l.length := by omega
      rw [List.take_of_length_le (by simp; omega)] at O
      obtain ⟨H', r1, r2, r3⟩ := sort_sp (by simpa using hl) (by rw [s.base]; exact Nat.le_refl _) O
      refine ⟨o, H', ?_, r2⟩
      rw [le_67x0]
      simp -implicitDefEqProofs only [bnd_some, bo_some, condK_true, condK_false, gdA_undef, decide_true, decide_false, Int.reduceLE, Int.reduceLT, Int.reduceEq, Int.reduceNeg, Int.reduceAdd, gd_tt, gd_tf, gd_ft, gd_ff, unG_pure, lift_some, bnd_lift, Option.map_some, Option.bind_some, fieldPtr_ref, fieldPtr_ip, nil_ref, nil_ip, nil_fn, ex_tup, fl_agg, List.getElem?_cons_zero, List.getElem?_cons_succ, Nat.zero_add, Nat.add_zero, Nat.reduceAdd, pk_t, pk_f, lss_int, leq_int, gtr_int, geq_int, eql_int, neq_int, not_bool, beq_self_eq_true, if_true, Bool.false_eq_true, if_false, List.nil_append, List.cons_append, List.append_nil, alc_eq, mkm_eq, nNew, nPut, bNew, bPut, nGrd, bGrd, h1, r1]
    | succ k ih =>
      intro j hj Hi o O s
      have h1 : (j : Int) < c.l.length := by omega
      have h6 : (j : Int) + 1 = ((j + 1 : Nat) : Int) := by omega
      have h7 := wrap_i64 (a := ((j + 1 : Nat) : Int)) (by omega) (by omega)
      have sb : Hi.base = H.next := s.base
      have sn : H.next ≤ Hi.next := s.next
      have hbase : Hi.base ≤ Hi.next := by omega
      obtain ⟨e, he⟩ : ∃ e, c.l[j]? = some e := ⟨_, List.getElem?_eq_getElem (by omega)⟩
      have hsi : SliceIs Hi t 6 c.l.length (c.l.flatMap Ent.av) := hs.of_get s.next fun r _ hr => s.low r hr
      have s1 := hsi.ix (k := .i64) (i := (j : Int)) (by omega) h1
      rw [Int.toNat_natCast] at s1
      have s2 := lda_elem av_len_ent hsi he
      let o1 : AObj := .blk 0 148 e.av
      let o2 : AObj := .blk 0 3 [I e.line]
      obtain ⟨o', H1, t1, t2, t3⟩ := ((O.new o1).new o2).step (n := j) (k := 1) (e := 3) (by_ := 8) (y := .sl (Hi.next + 1) 0 0 1 1 1 true) (new := [I e.line]) (by simp only [nNew]; omega) (by simp only [bNew]; omega) (by decide) (by rw [List.length_map, List.length_take, List.length_map]; omega) (sl_new rfl) rfl (by unfold most; omega) (by unfold most; omega)
      have hg : (c.l.map (·.line))[j]? = some e.line := by rw [List.getElem?_map, he]; rfl
      have O' : Own H.next H1 o' 1 (((c.l.map (·.line)).take (j + 1)).map I) := by
        rw [List.take_add_one, hg, List.map_append]; exact t2
      obtain ⟨y, Hz, r1, r2⟩ := ih (j + 1) (by omega) H1 o' O' ((s.trans ((Step.new o1 (by omega)).trans (Step.new o2 (by simp only [nNew]; omega)))).trans t3)
      refine ⟨y, Hz, ?_, r2⟩
      rw [le_67x0]
      have l2 : e.av[2]? = some (I e.line) := rfl
      have eb : ∀ H, bs 22 1 [(0, I e.line)] H = some (.sl H.next 0 0 1 1 1 true, H.new (.blk 0 3 [I e.line])) := fun H => (bs_22 (by decide)).trans (bsl_one rfl rfl rfl)
      simp only [o1, o2] at t1
      simp -implicitDefEqProofs only [bnd_some, bo_some, condK_true, condK_false, gdA_undef, decide_true, decide_false, Int.reduceLE, Int.reduceLT, Int.reduceEq, Int.reduceNeg, Int.reduceAdd, gd_tt, gd_tf, gd_ft, gd_ff, unG_pure, lift_some, bnd_lift, Option.map_some, Option.bind_some, fieldPtr_ref, fieldPtr_ip, nil_ref, nil_ip, nil_fn, ex_tup, fl_agg, List.getElem?_cons_zero, List.getElem?_cons_succ, Nat.zero_add, Nat.add_zero, Nat.reduceAdd, pk_t, pk_f, lss_int, leq_int, gtr_int, geq_int, eql_int, neq_int, not_bool, beq_self_eq_true, if_true, Bool.false_eq_true, if_false, List.nil_append, List.cons_append, List.append_nil, alc_eq, mkm_eq, nNew, nPut, bNew, bPut, nGrd, bGrd, ldN_is, ldN_lt, ldaN_is, ldaN_lt, stN_is, stN_lt, Nat.lt_add_one, ne_eq, nx1, nx2, nx3, ny1, ny2, ny3, not_false_eq_true, List.length_cons, List.length_nil, Nat.reduceLeDiff, setAt, List.take_succ_cons, List.take_zero, List.drop_succ_cons, List.drop_zero, cells_dat, cells_int, cells_bool, cells_agg, List.all_cons, List.all_nil, isCell_int, isCell_bool, isCell_dat, isCell_ref, isCell_nil, isCell_vsl, cells_vsl, av_len_cfg, av_len_pkt, av_len_opn, av_len_evn, av_len_ent, av_len_row, av_len_deal, av_len_pck, tk_cfg, tk_pkt, tk_opn, tk_evn, tk_ent, tk_row, tk_deal, tk_pck, all_cfg, all_pkt, all_opn, all_evn, all_ent, all_row, all_deal, all_pck, List.drop_nil, Bool.and_true, Bool.and_self, and_self, Nat.le_refl, true_and, and_true, Nat.le_add_right, leS, ltS, h1, s1, s2, hbase, l2, eb, t1, add_int, h6, h7, r1]
  obtain ⟨y, Hz, r1, r2⟩ := key c.l.length 0 (by omega) H.guard zN (.inl ⟨rfl, by simp⟩) (Step.refl _ _)
  have hlen : ((srt [] (c.l.map (·.line))).map I).length = c.l.length * 1 := by
    have := (srt_spec (c.l.map (·.line)) [] List.Pairwise.nil).1.length_eq
    simpa using this
  obtain ⟨x, f1, f2⟩ := freeze_ownAny (d := 8) r2 (by decide) hlen fun z hz => frz_ints _ z hz _ _
  refine ⟨x, pure_cl rfl rfl (rn_67 _ _ _ (r := (y, Hz)) ?_) f1, f2⟩
  simp -implicitDefEqProofs only [bnd_some, bo_some, condK_true, condK_false, gdA_undef, decide_true, decide_false, Int.reduceLE, Int.reduceLT, Int.reduceEq, Int.reduceNeg, Int.reduceAdd, gd_tt, gd_tf, gd_ft, gd_ff, unG_pure, lift_some, bnd_lift, Option.map_some, Option.bind_some, fieldPtr_ref, fieldPtr_ip, nil_ref, nil_ip, nil_fn, ex_tup, fl_agg, List.getElem?_cons_zero, List.getElem?_cons_succ, Nat.zero_add, Nat.add_zero, Nat.reduceAdd, pk_t, pk_f, lss_int, leq_int, gtr_int, geq_int, eql_int, neq_int, not_bool, beq_self_eq_true, if_true, Bool.false_eq_true, if_false, List.nil_append, List.cons_append, List.append_nil, alc_eq, mkm_eq, nNew, nPut, bNew, bPut, nGrd, bGrd, sh_67, ht, e2]
  exact r1
theorem linesOk {A : Adr} {m : Mach} {r : RMach} (M : MachIs g A m) (S : Sim m r) (h : ∀ n ∈ m.nodes, n.cache.l.length ≤ 12) : LinesOk g A m r := by
  intro i rn hi hr b H G
  obtain ⟨n, hn⟩ : ∃ n, m.nodes[i]? = some n := ⟨_, List.getElem?_eq_getElem hi⟩
  have N := S.node i n rn hn hr
  obtain ⟨x, e, hx⟩ := lines_sp G (M.node i n hn).2.1 (h n (List.mem_of_getElem? hn))
  refine ⟨x, e, fun H' => ?_⟩
  have hp : srt [] (n.cache.l.map (·.line)) = rn.cache.l.map (·.line) := srt_is (N.perm.map _) (List.pairwise_map.2 (N.sorted.imp fun h => Int.le_of_lt h))
  have := hx H'
  rw [hp, N.perm.length_eq, List.map_map] at this
  exact this
end

end Go.Proofs.YtlcdejlbmnjlaaaGreat

namespace Go.Proofs.YtlcdejlbmnjlaaaGreat

theorem aget_aput {α : Type} : ∀ (l : List (Int × α)) (n m : Int) (x : α), aget (aput l n x) m = if n = m then some x else aget l m
  | [], n, m, x => by simp [aput, aget]
  | (k, v) :: l, n, m, x => by
    simp only [aput]
    by_cases h : k = n
    · subst h
      simp only [if_true, aget]
      by_cases h2 : k = m <;> simp [h2]
    · simp only [h, if_false, aget]
      rw [aget_aput l n m x]
      by_cases h2 : k = m
      · subst h2
        simp only [if_true]
        rw [if_neg (fun e => h e.symm)]
      · simp [h2]
theorem rowsTo_get (c : Cfg) (me line : Int) : ∀ n : Nat, aget (c.rowsTo me n) line = if 0 ≤ line ∧ line < n ∧ c.homeOf line = me then some ⟨0, -1, c.first line⟩ else none
  | 0 => by
    have : ¬ (0 ≤ line ∧ line < ((0 : Nat) : Int) ∧ c.homeOf line = me) := by omega
    rw [if_neg this]; rfl
  | n + 1 => by
    simp only [Cfg.rowsTo]
    by_cases h : c.homeOf n = me
    · rw [if_pos h, aget_aput, rowsTo_get c me line n]
      by_cases e : (n : Int) = line
      · subst e
        rw [if_pos rfl, if_pos ⟨by omega, by omega, h⟩]
      · rw [if_neg e]
        by_cases h2 : 0 ≤ line ∧ line < n ∧ c.homeOf line = me
        · rw [if_pos h2, if_pos ⟨h2.1, by omega, h2.2.2⟩]
        · rw [if_neg h2, if_neg (fun h3 => h2 ⟨h3.1, by omega, h3.2.2⟩)]
    · rw [if_neg h, rowsTo_get c me line n]
      by_cases h2 : 0 ≤ line ∧ line < n ∧ c.homeOf line = me
      · rw [if_pos h2, if_pos ⟨h2.1, by omega, h2.2.2⟩]
      · rw [if_neg h2, if_neg (fun h3 => h2 ⟨h3.1, (by
          have : line ≠ n := fun e => h (by rw [← e]; exact h3.2.2)
          omega), h3.2.2⟩)]
theorem homeOf_eq {c : Cfg} (h : c.ok = true) {line : Int} (h0 : 0 ≤ line) : c.homeOf line = line % c.nodes := by
  unfold Cfg.homeOf restOf
  rw [if_neg (by omega)]
theorem nsim_new {c : Cfg} (h : c.ok = true) (me : Int) (l : List Opn) : NSim c me (.new c me l) (.new c l) := by
  have Bd := cfgB h
  have hl := Bd.lines
  have hh : ∀ line, hereB c me line = true ↔ (0 ≤ line ∧ line < c.lines.toNat ∧ c.homeOf line = me) := by
    intro line
    simp only [hereB, Bool.and_eq_true, decide_eq_true_eq]
    constructor
    · rintro ⟨⟨a, b⟩, d⟩; exact ⟨a, by omega, by rw [homeOf_eq h a]; exact d⟩
    · rintro ⟨a, b, d⟩; exact ⟨⟨a, by omega⟩, by rw [← homeOf_eq h a]; exact d⟩
  refine ⟨rfl, rfl, rfl, rfl, rfl, rfl, rfl, rfl, rfl, List.Pairwise.nil, List.Perm.refl _, fun line hline => ?_, fun line hline => ?_, fun line => rfl, fun line => rfl⟩
  · have h1 := (hh line).1 hline
    refine ⟨⟨0, -1, c.first line⟩, ?_, ?_⟩
    · show aget (c.rowsTo me c.lines.toNat) line = _
      rw [rowsTo_get, if_pos h1]
    · show ((List.range c.lines.toNat).map fun (i : Nat) => (⟨0, -1, c.first (i : Int)⟩ : Row))[line.toNat]? = _
      rw [List.getElem?_map, List.getElem?_range (by omega)]
      simp only [Option.map_some]
      rw [show ((line.toNat : Nat) : Int) = line by omega]
  · show aget (c.rowsTo me c.lines.toNat) line = _
    rw [rowsTo_get, if_neg fun h1 => by rw [(hh line).2 h1] at hline; cases hline]
theorem sim_new {c : Cfg} (h : c.ok = true) {ps : List (List Opn)} : Sim (.new c ps) (.new c ps) := by
  refine ⟨rfl, by simp [Mach.new, RMach.new], rfl, rfl, fun i n rn hn hr => ?_⟩
  simp only [Mach.new, List.getElem?_mapIdx, Option.map_eq_some_iff] at hn
  simp only [RMach.new, List.getElem?_map, Option.map_eq_some_iff] at hr
  obtain ⟨l, hl, rfl⟩ := hn
  obtain ⟨l', hl', rfl⟩ := hr
  rw [hl] at hl'; cases hl'
  exact nsim_new h i l
theorem first_len' {c : Cfg} (h : c.ok = true) (line : Int) : (c.first line).length ≤ 4 := by
  have Bd := cfgB h
  have := Bd.words
  unfold Cfg.first
  split
  · simp
  · simp; omega
theorem rowsTo_mem (c : Cfg) (me : Int) : ∀ n, ∀ e ∈ c.rowsTo me n, ∃ line, e.2.data = c.first line
  | 0, e, h => by cases h
  | n + 1, e, h => by
    simp only [Cfg.rowsTo] at h
    split at h
    · have key : ∀ (l : List (Int × Row)) (k : Int) (x : Row), e ∈ aput l k x → e ∈ l ∨ e.2 = x := by
        intro l
        induction l with
        | nil => intro k x hx; simp only [aput, List.mem_singleton] at hx; right; rw [hx]
        | cons a l ih =>
          obtain ⟨k', v⟩ := a
          intro k x hx
          simp only [aput] at hx
          split at hx
          · rcases List.mem_cons.1 hx with rfl | hx
            · exact .inr rfl
            · exact .inl (List.mem_cons_of_mem _ hx)
          · rcases List.mem_cons.1 hx with rfl | hx
            · exact .inl (List.mem_cons_self ..)
            · rcases ih k x hx with hx | hx
              · exact .inl (List.mem_cons_of_mem _ hx)
              · exact .inr hx
      rcases key _ _ _ h with h | h
      · exact rowsTo_mem c me n e h
      · exact ⟨n, by rw [h]⟩
    · exact rowsTo_mem c me n e h
theorem fine_new {c : Cfg} (h : c.ok = true) {ps : List (List Opn)} (hp : c.opsOk ps = true) : Fine (.new c ps) (.new c ps) := by
  have Bd := cfgB h
  have hn := Bd.nodes
  obtain ⟨h1, h2⟩ := opsOk_of hp
  have hz : ∀ p ∈ (RMach.new c ps).fab, p = .zero := fun p hp => List.eq_of_mem_replicate hp
  refine ⟨new_fine h hp, ⟨by simp [RMach.new]; omega, by simp [RMach.new]; omega, fun p hp => ?_, fun n hn => ?_⟩, fun n hn => ?_, fun n hn => ?_, fun p hp => ?_, by simp [Mach.new]⟩
  · rw [hz p hp]; decide
  · simp only [RMach.new, List.mem_map] at hn
    obtain ⟨l, hl, rfl⟩ := hn
    have := h2 l hl
    exact ⟨by show l.length < 1000; omega, by show 0 < 1000; omega⟩
  · simp only [Mach.new, List.mem_mapIdx] at hn
    obtain ⟨i, hi, rfl⟩ := hn
    have := h2 _ (List.getElem_mem hi)
    refine ⟨by show (ps[i]).length < 1000; omega, by show 0 < 1000; omega, by show 0 < 1000000000; omega, by show 0 < 1000; omega, fun e he => (by cases he), fun e he => ?_⟩
    obtain ⟨line, hline⟩ := rowsTo_mem c i _ e he
    have := first_len' h line
    rw [hline]; omega
  · simp only [RMach.new, List.mem_map] at hn
    obtain ⟨l, hl, rfl⟩ := hn
    have := Bd.lines
    exact ⟨by simp [RNode.new, RHomes.new]; omega, by show 0 < 1000000; omega, by show 0 < 1000000; omega⟩
  · simp only [Fab.all, Mach.new, Fab.new, List.mem_flatMap] at hp
    obtain ⟨q, hq, hp⟩ := hp
    rw [List.eq_of_mem_replicate hq] at hp
    cases hp
theorem cache_new {c : Cfg} {ps : List (List Opn)} : ∀ n ∈ (Mach.new c ps).nodes, n.cache.l.length ≤ 12 := fun n hn => by
  simp only [Mach.new, List.mem_mapIdx] at hn
  obtain ⟨i, hi, rfl⟩ := hn
  show 0 ≤ 12
  omega
/-- What may not be makes no machine. -/
theorem machineNo (H : AHeap) (hb : H.base ≤ H.next) (c : Cfg) {x : AV} {ps : List (List Opn)} (hx : PsIs H x ps) (hn : ps.length < 1000000000) (hl : ∀ l ∈ ps, l.length < 1000000000) (hp : ¬ (c.ok = true ∧ c.opsOk ps = true)) :
    ∃ H', cl 8 [.agg c.av, x] H = some (.tup [zP, I 1], H') ∧ Made H H' nil0 := by
  let H1 := H.new (.blk 0 26 c.av)
  have M1 : Made H H1 nil0 := (Made.refl hb).new _
  have b1 := lda_cfg (H := H1) (r := H.next) (c := c) (getNew_is rfl)
  have e1 := check_sp H1 c
  have b0 : bi .neq 34 (I 0) (I 0) = some (B false) := by kernel_rfl
  have b1' : bi .neq 34 (I 1) (I 0) = some (B true) := by kernel_rfl
  refine ⟨H1, run_cl rfl rfl (rn_8 _ _ _ _ ?_), M1⟩
  by_cases hc : c.ok = true
  · have hp' : ¬ c.opsOk ps = true := fun h => hp ⟨hc, h⟩
    have e2 := ops_sp H1 c hc (hx.of_get (H' := H1) (by simp only [H1, nNew]; omega) fun r hr => getNew_lt hr) hn hl
    rw [if_neg hp'] at e2
    rw [if_pos hc] at e1
    simp only [H1] at b1 e1 e2
    simp -implicitDefEqProofs only [bnd_some, bo_some, condK_true, condK_false, gdA_undef, decide_true, decide_false, Int.reduceLE, Int.reduceLT, Int.reduceEq, Int.reduceNeg, Int.reduceAdd, gd_tt, gd_tf, gd_ft, gd_ff, unG_pure, lift_some, bnd_lift, Option.map_some, Option.bind_some, fieldPtr_ref, fieldPtr_ip, nil_ref, nil_ip, nil_fn, ex_tup, fl_agg, List.getElem?_cons_zero, List.getElem?_cons_succ, Nat.zero_add, Nat.add_zero, Nat.reduceAdd, pk_t, pk_f, lss_int, leq_int, gtr_int, geq_int, eql_int, neq_int, not_bool, beq_self_eq_true, if_true, Bool.false_eq_true, if_false, List.nil_append, List.cons_append, List.append_nil, alc_eq, mkm_eq, nNew, nPut, bNew, bPut, nGrd, bGrd, ldN_is, ldN_lt, ldaN_is, ldaN_lt, stN_is, stN_lt, Nat.lt_add_one, ne_eq, nx1, nx2, nx3, ny1, ny2, ny3, not_false_eq_true, List.length_cons, List.length_nil, Nat.reduceLeDiff, setAt, List.take_succ_cons, List.take_zero, List.drop_succ_cons, List.drop_zero, cells_dat, cells_int, cells_bool, cells_agg, List.all_cons, List.all_nil, isCell_int, isCell_bool, isCell_dat, isCell_ref, isCell_nil, isCell_vsl, cells_vsl, av_len_cfg, av_len_pkt, av_len_opn, av_len_evn, av_len_ent, av_len_row, av_len_deal, av_len_pck, tk_cfg, tk_pkt, tk_opn, tk_evn, tk_ent, tk_row, tk_deal, tk_pck, all_cfg, all_pkt, all_opn, all_evn, all_ent, all_row, all_deal, all_pck, List.drop_nil, Bool.and_true, Bool.and_self, and_self, Nat.le_refl, true_and, and_true, Nat.le_add_right, leS, ltS, sh_8, box_agg (all_cfg c), b1, e1, b0, e2, b1']
    rfl
  · rw [if_neg hc] at e1
    simp only [H1] at b1 e1
    simp -implicitDefEqProofs only [bnd_some, bo_some, condK_true, condK_false, gdA_undef, decide_true, decide_false, Int.reduceLE, Int.reduceLT, Int.reduceEq, Int.reduceNeg, Int.reduceAdd, gd_tt, gd_tf, gd_ft, gd_ff, unG_pure, lift_some, bnd_lift, Option.map_some, Option.bind_some, fieldPtr_ref, fieldPtr_ip, nil_ref, nil_ip, nil_fn, ex_tup, fl_agg, List.getElem?_cons_zero, List.getElem?_cons_succ, Nat.zero_add, Nat.add_zero, Nat.reduceAdd, pk_t, pk_f, lss_int, leq_int, gtr_int, geq_int, eql_int, neq_int, not_bool, beq_self_eq_true, if_true, Bool.false_eq_true, if_false, List.nil_append, List.cons_append, List.append_nil, alc_eq, mkm_eq, nNew, nPut, bNew, bPut, nGrd, bGrd, ldN_is, ldN_lt, ldaN_is, ldaN_lt, stN_is, stN_lt, Nat.lt_add_one, ne_eq, nx1, nx2, nx3, ny1, ny2, ny3, not_false_eq_true, List.length_cons, List.length_nil, Nat.reduceLeDiff, setAt, List.take_succ_cons, List.take_zero, List.drop_succ_cons, List.drop_zero, cells_dat, cells_int, cells_bool, cells_agg, List.all_cons, List.all_nil, isCell_int, isCell_bool, isCell_dat, isCell_ref, isCell_nil, isCell_vsl, cells_vsl, av_len_cfg, av_len_pkt, av_len_opn, av_len_evn, av_len_ent, av_len_row, av_len_deal, av_len_pck, tk_cfg, tk_pkt, tk_opn, tk_evn, tk_ent, tk_row, tk_deal, tk_pck, all_cfg, all_pkt, all_opn, all_evn, all_ent, all_row, all_deal, all_pck, List.drop_nil, Bool.and_true, Bool.and_self, and_self, Nat.le_refl, true_and, and_true, Nat.le_add_right, leS, ltS, sh_8, box_agg (all_cfg c), b1, e1, b1']
    rfl
def zeroC : Cfg := ⟨0, 0, 0, 0, 0, 0, 0, []⟩
theorem wakes21 (H : AHeap) : cl 10 [] H = some (B true, H) := by
  have hc : oneC.ok = true := by decide
  have hp : oneC.opsOk [[]] = true := by decide
  have hav : oneC.av = [I 1, I 1, I 1, I 1, I 1, I 1, I 1, zN] := by simp [oneC, Cfg.av, dat, vsl_nil]
  have zav : zeroC.av = [zI, zI, zI, zI, zI, zI, zI, zN] := by simp [zeroC, Cfg.av, dat, vsl_nil]
  let H2 := H.guard.new (.blk 0 31 [zN])
  have hps : PsIs H2 (.sl H.next 0 0 1 1 1 true) [[]] := ⟨[zN], sl_new (n := 1) (m := 1) (l := [zN]) rfl, fun i v l a b => by
    match i with
    | 0 => cases a; cases b; exact ⟨SliceIs.nil, fun _ => rfl⟩
    | i + 1 => cases a⟩
  obtain ⟨H3, A, g, e1, M, MI⟩ := machineNew H2 (by simp only [H2, bNew, nNew, bGrd, nGrd]; omega) oneC hc hps hp
  have hf := new_fine hc hp
  have hbn : H3.base ≤ H3.next := by
    rw [M.base]; exact Nat.le_trans (by simp only [H2, bNew, nNew, bGrd, nGrd]; omega) M.next
  obtain ⟨H4, e2, M2⟩ := machineNo H3 hbn zeroC (PsIs.zN (H := H3)) (by simp) (fun l hl => by cases hl) (by decide)
  have G4 : Good H2.next H4 g := M.good.ext M2.next M2.same
  have e3 := quiet_sp G4 MI hf
  have e4 := left_sp G4 MI hf
  have q1 : (Mach.new oneC [[]]).quiet = true := by decide
  have q2 : (Mach.new oneC [[]]).left = 0 := by decide
  rw [q1] at e3
  rw [q2] at e4
  have ev : bd 26 [(0, I 1), (1, I 1), (2, I 1), (3, I 1), (4, I 1), (5, I 1), (6, I 1)] = some (.agg oneC.av) := by
    rw [hav]
    simp -implicitDefEqProofs only [bnd_some, bo_some, condK_true, condK_false, gdA_undef, decide_true, decide_false, Int.reduceLE, Int.reduceLT, Int.reduceEq, Int.reduceNeg, Int.reduceAdd, gd_tt, gd_tf, gd_ft, gd_ff, unG_pure, lift_some, bnd_lift, Option.map_some, Option.bind_some, fieldPtr_ref, fieldPtr_ip, nil_ref, nil_ip, nil_fn, ex_tup, fl_agg, List.getElem?_cons_zero, List.getElem?_cons_succ, Nat.zero_add, Nat.add_zero, Nat.reduceAdd, pk_t, pk_f, lss_int, leq_int, gtr_int, geq_int, eql_int, neq_int, not_bool, beq_self_eq_true, if_true, Bool.false_eq_true, if_false, List.nil_append, List.cons_append, List.append_nil, alc_eq, mkm_eq, nNew, nPut, bNew, bPut, nGrd, bGrd, bd_26, bldA, fillA, pl_26]
    rfl
  have ez : bd 26 [] = some (.agg zeroC.av) := by
    rw [zav]
    simp -implicitDefEqProofs only [bnd_some, bo_some, condK_true, condK_false, gdA_undef, decide_true, decide_false, Int.reduceLE, Int.reduceLT, Int.reduceEq, Int.reduceNeg, Int.reduceAdd, gd_tt, gd_tf, gd_ft, gd_ff, unG_pure, lift_some, bnd_lift, Option.map_some, Option.bind_some, fieldPtr_ref, fieldPtr_ip, nil_ref, nil_ip, nil_fn, ex_tup, fl_agg, List.getElem?_cons_zero, List.getElem?_cons_succ, Nat.zero_add, Nat.add_zero, Nat.reduceAdd, pk_t, pk_f, lss_int, leq_int, gtr_int, geq_int, eql_int, neq_int, not_bool, beq_self_eq_true, if_true, Bool.false_eq_true, if_false, List.nil_append, List.cons_append, List.append_nil, alc_eq, mkm_eq, nNew, nPut, bNew, bPut, nGrd, bGrd, bd_26, bldA, fillA]
  have b0 : bi .eql 34 (I 0) (I 0) = some (B true) := by kernel_rfl
  have b1 : bi .eql 34 (I 1) (I 1) = some (B true) := by kernel_rfl
  have en : bi .neq 33 (.ref A.mach 0 0) zP = some (B true) := by kernel_rfl
  have eq : bi .eql 33 zP zP = some (B true) := by kernel_rfl
  have es : ∀ H, bs 28 1 [(0, zN)] H = some (.sl H.next 0 0 1 1 1 true, H.new (.blk 0 31 [zN])) := fun H => by
    exact (bs_28 (by decide)).trans rfl
  refine pure_cl rfl rfl (rn_10 _ _ (r := (B true, H4)) ?_) freeze_s
  simp only [H2] at e1
  simp -implicitDefEqProofs only [bnd_some, bo_some, condK_true, condK_false, gdA_undef, decide_true, decide_false, Int.reduceLE, Int.reduceLT, Int.reduceEq, Int.reduceNeg, Int.reduceAdd, gd_tt, gd_tf, gd_ft, gd_ff, unG_pure, lift_some, bnd_lift, Option.map_some, Option.bind_some, fieldPtr_ref, fieldPtr_ip, nil_ref, nil_ip, nil_fn, ex_tup, fl_agg, List.getElem?_cons_zero, List.getElem?_cons_succ, Nat.zero_add, Nat.add_zero, Nat.reduceAdd, pk_t, pk_f, lss_int, leq_int, gtr_int, geq_int, eql_int, neq_int, not_bool, beq_self_eq_true, if_true, Bool.false_eq_true, if_false, List.nil_append, List.cons_append, List.append_nil, alc_eq, mkm_eq, nNew, nPut, bNew, bPut, nGrd, bGrd, sh_10, ev, es, e1, ez, e2, b0, en, e3, e4, b1, eq]

end Go.Proofs.YtlcdejlbmnjlaaaGreat

