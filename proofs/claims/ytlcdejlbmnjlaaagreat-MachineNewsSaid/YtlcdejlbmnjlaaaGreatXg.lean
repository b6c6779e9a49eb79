/-
  Own work: an interpreter over named blocks, its soundness, and what the functions of this seat compute (part 7 of 8).
  Conditions: those of the statement alone.
-/
import Derived.Test.YtlcdejlbmnjlaaaGreatXf
set_option linter.all false
set_option linter.unusedSectionVars false
set_option linter.unusedVariables false
set_option linter.unusedSimpArgs false
namespace Go.Proofs.YtlcdejlbmnjlaaaGreat

def opAny (zk za zv : List Int) (i : Nat) : Opn :=
  let k := zk.getD i 0
  let o : Opn := ⟨1 + withinM k 4, withinM (atM za i) 12, if 1 + withinM k 4 = 2 ∨ 1 + withinM k 4 = 3 then atM zv i else 0⟩
  if k.tmod 31 = 28 then { o with kind := k.tdiv 31 } else if k.tmod 31 = 29 then { o with addr := atM za i } else if k.tmod 31 = 30 then { o with value := atM zv i } else o
def opsAny (zk za zv : List Int) : List Opn := (List.range (min zk.length 30)).map (opAny zk za zv)
theorem tdiv31 {a : Int} (h : In64 a) : In64 (a.tdiv 31) := by
  have h1 := h.1; have h2 := h.2
  rcases Int.le_total 0 a with h0 | h0
  · rw [Int.tdiv_eq_ediv_of_nonneg h0]; constructor <;> omega
  · obtain ⟨b, rfl⟩ : ∃ b, a = -b := ⟨-a, by omega⟩
    rw [Int.neg_tdiv, Int.tdiv_eq_ediv_of_nonneg (by omega)]; constructor <;> omega
theorem opsAny_sp (H : AHeap) {xk xa xv : AV} {zk za zv : List Int} (hk : SliceIs AHeap.empty xk 1 zk.length (zk.map I)) (ha : SliceIs AHeap.empty xa 1 za.length (za.map I)) (hv : SliceIs AHeap.empty xv 1 zv.length (zv.map I)) (wk : ∀ z ∈ zk, In64 z) :
    cl 7 [xk, xa, xv] H = some (vsl 3 Opn.av (opsAny zk za zv), H) := by
  let ops : Nat → List Opn := fun j => (List.range j).map (opAny zk za zv)
  have hs : ∀ j, ops (j + 1) = ops j ++ [opAny zk za zv j] := fun j => by simp [ops, List.range_succ]
  have hol : ∀ j, (ops j).length = j := fun j => by simp [ops]
  have ew := fun H => (ints_is hk H).lnS
  have key : ∀ k j, j + k = min zk.length 30 → ∀ (Hi : AHeap) (o : AV), Own H.next Hi o 3 ((ops j).flatMap Opn.av) → Step H.next H.guard Hi →
      ∃ y Hz, lp_7x0 cl [xk, xa, xv, o, I j] Hi = some (y, Hz) ∧ Own H.next Hz y 3 ((opsAny zk za zv).flatMap Opn.av) ∧ (opsAny zk za zv = [] → y = o) := by
    intro k
    induction k with
    | zero =>
      intro j hj Hi o O s
      have hje : min zk.length 30 = j := by omega
      refine ⟨o, Hi, ?_, by rw [opsAny, hje]; exact O, fun _ => rfl⟩
      rw [le_7x0]
      by_cases h1 : (j : Int) < zk.length
      · have h2 : ¬ (j : Int) < 30 := by omega
        simp -implicitDefEqProofs only [bnd_some, bo_some, condK_true, condK_false, gdA_undef, decide_true, decide_false, Int.reduceLE, Int.reduceLT, Int.reduceEq, Int.reduceNeg, Int.reduceAdd, gd_tt, gd_tf, gd_ft, gd_ff, unG_pure, lift_some, bnd_lift, Option.map_some, Option.bind_some, fieldPtr_ref, fieldPtr_ip, nil_ref, nil_ip, nil_fn, ex_tup, fl_agg, List.getElem?_cons_zero, List.getElem?_cons_succ, Nat.zero_add, Nat.add_zero, Nat.reduceAdd, pk_t, pk_f, lss_int, leq_int, gtr_int, geq_int, eql_int, neq_int, not_bool, beq_self_eq_true, if_true, Bool.false_eq_true, if_false, List.nil_append, List.cons_append, List.append_nil, alc_eq, mkm_eq, nNew, nPut, bNew, bPut, nGrd, bGrd, ew, h1, h2]
      · simp -implicitDefEqProofs only [bnd_some, bo_some, condK_true, condK_false, gdA_undef, decide_true, decide_false, Int.reduceLE, Int.reduceLT, Int.reduceEq, Int.reduceNeg, Int.reduceAdd, gd_tt, gd_tf, gd_ft, gd_ff, unG_pure, lift_some, bnd_lift, Option.map_some, Option.bind_some, fieldPtr_ref, fieldPtr_ip, nil_ref, nil_ip, nil_fn, ex_tup, fl_agg, List.getElem?_cons_zero, List.getElem?_cons_succ, Nat.zero_add, Nat.add_zero, Nat.reduceAdd, pk_t, pk_f, lss_int, leq_int, gtr_int, geq_int, eql_int, neq_int, not_bool, beq_self_eq_true, if_true, Bool.false_eq_true, if_false, List.nil_append, List.cons_append, List.append_nil, alc_eq, mkm_eq, nNew, nPut, bNew, bPut, nGrd, bGrd, ew, h1]
    | succ k ih =>
      intro j hj Hi o O s
      have h1 : (j : Int) < zk.length := by omega
      have h2 : (j : Int) < 30 := by omega
      have h6 : (j : Int) + 1 = ((j + 1 : Nat) : Int) := by omega
      have h7 := wrap_i64 (a := ((j + 1 : Nat) : Int)) (by omega) (by omega)
      have sb : Hi.base = H.next := s.base
      have sn : H.next ≤ Hi.next := s.next
      have hbase : Hi.base ≤ Hi.next := by omega
      have i1 := fun H => (ints_is hk H).ix (k := .i64) (i := (j : Int)) (by omega) h1
      have i2 : ∀ H, ld (elemPtr xk (j : Int).toNat) H = some (I (zk.getD j 0), H) := fun H => by
        rw [Int.toNat_natCast, (ints_is hk H).ld (by omega), List.getElem?_map, List.getElem?_eq_getElem (by omega)]
        simp [List.getD, List.getElem?_eq_getElem (show j < zk.length by omega)]
      have hz : In64 (zk.getD j 0) := by
        rw [List.getD_eq_getElem?_getD, List.getElem?_eq_getElem (show j < zk.length by omega)]
        exact wk _ (List.getElem_mem _)
      have a2 := fun H => at_sp H (ints_is ha H) (i := (j : Int)) (by omega)
      have a3 := fun H => at_sp H (ints_is hv H) (i := (j : Int)) (by omega)
      have k1 := fun H v => within64 H v 4 (by omega)
      have k2 := fun H v => within64 H v 12 (by omega)
      have w1 := withinM_rng (v := zk.getD j 0) (n := 4) (by omega)
      have hw := wrap_i64 (a := 1 + withinM (zk.getD j 0) 4) (by omega) (by omega)
      have hd := tdiv31 hz
      have hwd := wrap_i64 (a := (zk.getD j 0).tdiv 31) hd.1 hd.2
      have q1 := quo_int (P := Tryz.prog) (t := 3) (k := .i64) (a := zk.getD j 0) (b := 31) (by decide)
      have q2 := rem_int (P := Tryz.prog) (t := 3) (k := .i64) (a := zk.getD j 0) (b := 31) (by decide)
      rw [hwd] at q1
      have q1' : bi .quo 3 (I (zk.getD j 0)) (I 31) = some (I ((zk.getD j 0).tdiv 31)) := q1
      have q2' : bi .rem 3 (I (zk.getD j 0)) (I 31) = some (I ((zk.getD j 0).tmod 31)) := q2
      -- behind the operation
      have tail : ∀ p : Opn, p = opAny zk za zv j → ∃ y Hz, jn_7x1 cl xk xa xv o (I j) (.ref Hi.next 0 0) (Hi.new (.blk 0 48 p.av)) = some (y, Hz) ∧ Own H.next Hz y 3 ((opsAny zk za zv).flatMap Opn.av) := by
        intro p hp
        let o1 : AObj := .blk 0 48 p.av
        obtain ⟨o', H1, t1, t2, t3⟩ := ((O.new o1).new o1).step (n := j) (k := 1) (e := 48) (by_ := 24) (y := .sl (Hi.next + 1) 0 0 3 1 1 true) (new := p.av) (by simp only [nNew]; omega) (by simp only [bNew]; omega) (by decide) (by rw [flat_len av_len_opn, hol]) (sl_new rfl) (all_opn p) (by unfold most; omega) (by unfold most; omega)
        have O' : Own H.next H1 o' 3 ((ops (j + 1)).flatMap Opn.av) := by
          rw [hs, List.flatMap_append, List.flatMap_cons, List.flatMap_nil, List.append_nil, ← hp]; exact t2
        obtain ⟨y, Hz, r1, r2, _⟩ := ih (j + 1) (by omega) H1 o' O' ((s.trans ((Step.new o1 (by omega)).trans (Step.new o1 (by simp only [nNew]; omega)))).trans t3)
        refine ⟨y, Hz, ?_, r2⟩
        have eb := bsl_one (e := 48) (m := 3) (z := [zI, zI, zI]) (v := .agg p.av) (H := Hi.new o1) rfl rfl (all_opn p)
        simp only [cells_agg, nNew, o1] at eb t1
        simp -implicitDefEqProofs only [bnd_some, bo_some, condK_true, condK_false, gdA_undef, decide_true, decide_false, Int.reduceLE, Int.reduceLT, Int.reduceEq, Int.reduceNeg, Int.reduceAdd, gd_tt, gd_tf, gd_ft, gd_ff, unG_pure, lift_some, bnd_lift, Option.map_some, Option.bind_some, fieldPtr_ref, fieldPtr_ip, nil_ref, nil_ip, nil_fn, ex_tup, fl_agg, List.getElem?_cons_zero, List.getElem?_cons_succ, Nat.zero_add, Nat.add_zero, Nat.reduceAdd, pk_t, pk_f, lss_int, leq_int, gtr_int, geq_int, eql_int, neq_int, not_bool, beq_self_eq_true, if_true, Bool.false_eq_true, if_false, List.nil_append, List.cons_append, List.append_nil, alc_eq, mkm_eq, nNew, nPut, bNew, bPut, nGrd, bGrd, ldN_is, ldN_lt, ldaN_is, ldaN_lt, stN_is, stN_lt, Nat.lt_add_one, ne_eq, nx1, nx2, nx3, ny1, ny2, ny3, not_false_eq_true, List.length_cons, List.length_nil, Nat.reduceLeDiff, setAt, List.take_succ_cons, List.take_zero, List.drop_succ_cons, List.drop_zero, cells_dat, cells_int, cells_bool, cells_agg, List.all_cons, List.all_nil, isCell_int, isCell_bool, isCell_dat, isCell_ref, isCell_nil, isCell_vsl, cells_vsl, av_len_cfg, av_len_pkt, av_len_opn, av_len_evn, av_len_ent, av_len_row, av_len_deal, av_len_pck, tk_cfg, tk_pkt, tk_opn, tk_evn, tk_ent, tk_row, tk_deal, tk_pck, all_cfg, all_pkt, all_opn, all_evn, all_ent, all_row, all_deal, all_pck, List.drop_nil, Bool.and_true, Bool.and_self, and_self, Nat.le_refl, true_and, and_true, Nat.le_add_right, leS, ltS, jn_7x1, bs_31, Nat.one_mul, eb, t1, add_int, h6, h7, r1]
      have hne : opsAny zk za zv = [] → False := fun h => by
        have := congrArg List.length h
        rw [opsAny, List.length_map, List.length_range, List.length_nil] at this; omega
      have mid : ∀ v : Int, v = (if 1 + withinM (zk.getD j 0) 4 = 2 ∨ 1 + withinM (zk.getD j 0) 4 = 3 then atM zv j else 0) → ∃ y Hz, jn_7x0 cl xk xa xv o (I j) (.ref Hi.next 0 0) (Hi.new (.blk 0 48 [I (1 + withinM (zk.getD j 0) 4), I (withinM (atM za j) 12), I v])) = some (y, Hz) ∧ Own H.next Hz y 3 ((opsAny zk za zv).flatMap Opn.av) := by
        intro v hv0
        by_cases c28 : (zk.getD j 0).tmod 31 = 28
        · obtain ⟨y, Hz, r1, r2⟩ := tail ⟨(zk.getD j 0).tdiv 31, withinM (atM za j) 12, v⟩ (by simp only [opAny]; rw [if_pos c28, hv0])
          refine ⟨y, Hz, ?_, r2⟩
          simp only [Opn.av] at r1
          simp -implicitDefEqProofs only [bnd_some, bo_some, condK_true, condK_false, gdA_undef, decide_true, decide_false, Int.reduceLE, Int.reduceLT, Int.reduceEq, Int.reduceNeg, Int.reduceAdd, gd_tt, gd_tf, gd_ft, gd_ff, unG_pure, lift_some, bnd_lift, Option.map_some, Option.bind_some, fieldPtr_ref, fieldPtr_ip, nil_ref, nil_ip, nil_fn, ex_tup, fl_agg, List.getElem?_cons_zero, List.getElem?_cons_succ, Nat.zero_add, Nat.add_zero, Nat.reduceAdd, pk_t, pk_f, lss_int, leq_int, gtr_int, geq_int, eql_int, neq_int, not_bool, beq_self_eq_true, if_true, Bool.false_eq_true, if_false, List.nil_append, List.cons_append, List.append_nil, alc_eq, mkm_eq, nNew, nPut, bNew, bPut, nGrd, bGrd, ldN_is, ldN_lt, ldaN_is, ldaN_lt, stN_is, stN_lt, Nat.lt_add_one, ne_eq, nx1, nx2, nx3, ny1, ny2, ny3, not_false_eq_true, List.length_cons, List.length_nil, Nat.reduceLeDiff, setAt, List.take_succ_cons, List.take_zero, List.drop_succ_cons, List.drop_zero, cells_dat, cells_int, cells_bool, cells_agg, List.all_cons, List.all_nil, isCell_int, isCell_bool, isCell_dat, isCell_ref, isCell_nil, isCell_vsl, cells_vsl, av_len_cfg, av_len_pkt, av_len_opn, av_len_evn, av_len_ent, av_len_row, av_len_deal, av_len_pck, tk_cfg, tk_pkt, tk_opn, tk_evn, tk_ent, tk_row, tk_deal, tk_pck, all_cfg, all_pkt, all_opn, all_evn, all_ent, all_row, all_deal, all_pck, List.drop_nil, Bool.and_true, Bool.and_self, and_self, Nat.le_refl, true_and, and_true, Nat.le_add_right, leS, ltS, jn_7x0, i1, i2, q2', c28, q1', hbase, put_new, r1]
        by_cases c29 : (zk.getD j 0).tmod 31 = 29
        · obtain ⟨y, Hz, r1, r2⟩ := tail ⟨1 + withinM (zk.getD j 0) 4, atM za j, v⟩ (by simp only [opAny]; rw [if_neg c28, if_pos c29, hv0])
          refine ⟨y, Hz, ?_, r2⟩
          simp only [Opn.av] at r1
          simp -implicitDefEqProofs only [bnd_some, bo_some, condK_true, condK_false, gdA_undef, decide_true, decide_false, Int.reduceLE, Int.reduceLT, Int.reduceEq, Int.reduceNeg, Int.reduceAdd, gd_tt, gd_tf, gd_ft, gd_ff, unG_pure, lift_some, bnd_lift, Option.map_some, Option.bind_some, fieldPtr_ref, fieldPtr_ip, nil_ref, nil_ip, nil_fn, ex_tup, fl_agg, List.getElem?_cons_zero, List.getElem?_cons_succ, Nat.zero_add, Nat.add_zero, Nat.reduceAdd, pk_t, pk_f, lss_int, leq_int, gtr_int, geq_int, eql_int, neq_int, not_bool, beq_self_eq_true, if_true, Bool.false_eq_true, if_false, List.nil_append, List.cons_append, List.append_nil, alc_eq, mkm_eq, nNew, nPut, bNew, bPut, nGrd, bGrd, ldN_is, ldN_lt, ldaN_is, ldaN_lt, stN_is, stN_lt, Nat.lt_add_one, ne_eq, nx1, nx2, nx3, ny1, ny2, ny3, not_false_eq_true, List.length_cons, List.length_nil, Nat.reduceLeDiff, setAt, List.take_succ_cons, List.take_zero, List.drop_succ_cons, List.drop_zero, cells_dat, cells_int, cells_bool, cells_agg, List.all_cons, List.all_nil, isCell_int, isCell_bool, isCell_dat, isCell_ref, isCell_nil, isCell_vsl, cells_vsl, av_len_cfg, av_len_pkt, av_len_opn, av_len_evn, av_len_ent, av_len_row, av_len_deal, av_len_pck, tk_cfg, tk_pkt, tk_opn, tk_evn, tk_ent, tk_row, tk_deal, tk_pck, all_cfg, all_pkt, all_opn, all_evn, all_ent, all_row, all_deal, all_pck, List.drop_nil, Bool.and_true, Bool.and_self, and_self, Nat.le_refl, true_and, and_true, Nat.le_add_right, leS, ltS, jn_7x0, i1, i2, q2', c29, a2, hbase, put_new, r1]
        by_cases c30 : (zk.getD j 0).tmod 31 = 30
        · obtain ⟨y, Hz, r1, r2⟩ := tail ⟨1 + withinM (zk.getD j 0) 4, withinM (atM za j) 12, atM zv j⟩ (by simp only [opAny]; rw [if_neg c28, if_neg c29, if_pos c30])
          refine ⟨y, Hz, ?_, r2⟩
          simp only [Opn.av] at r1
          simp -implicitDefEqProofs only [bnd_some, bo_some, condK_true, condK_false, gdA_undef, decide_true, decide_false, Int.reduceLE, Int.reduceLT, Int.reduceEq, Int.reduceNeg, Int.reduceAdd, gd_tt, gd_tf, gd_ft, gd_ff, unG_pure, lift_some, bnd_lift, Option.map_some, Option.bind_some, fieldPtr_ref, fieldPtr_ip, nil_ref, nil_ip, nil_fn, ex_tup, fl_agg, List.getElem?_cons_zero, List.getElem?_cons_succ, Nat.zero_add, Nat.add_zero, Nat.reduceAdd, pk_t, pk_f, lss_int, leq_int, gtr_int, geq_int, eql_int, neq_int, not_bool, beq_self_eq_true, if_true, Bool.false_eq_true, if_false, List.nil_append, List.cons_append, List.append_nil, alc_eq, mkm_eq, nNew, nPut, bNew, bPut, nGrd, bGrd, ldN_is, ldN_lt, ldaN_is, ldaN_lt, stN_is, stN_lt, Nat.lt_add_one, ne_eq, nx1, nx2, nx3, ny1, ny2, ny3, not_false_eq_true, List.length_cons, List.length_nil, Nat.reduceLeDiff, setAt, List.take_succ_cons, List.take_zero, List.drop_succ_cons, List.drop_zero, cells_dat, cells_int, cells_bool, cells_agg, List.all_cons, List.all_nil, isCell_int, isCell_bool, isCell_dat, isCell_ref, isCell_nil, isCell_vsl, cells_vsl, av_len_cfg, av_len_pkt, av_len_opn, av_len_evn, av_len_ent, av_len_row, av_len_deal, av_len_pck, tk_cfg, tk_pkt, tk_opn, tk_evn, tk_ent, tk_row, tk_deal, tk_pck, all_cfg, all_pkt, all_opn, all_evn, all_ent, all_row, all_deal, all_pck, List.drop_nil, Bool.and_true, Bool.and_self, and_self, Nat.le_refl, true_and, and_true, Nat.le_add_right, leS, ltS, jn_7x0, i1, i2, q2', c30, a3, hbase, put_new, r1]
        · obtain ⟨y, Hz, r1, r2⟩ := tail ⟨1 + withinM (zk.getD j 0) 4, withinM (atM za j) 12, v⟩ (by simp only [opAny]; rw [if_neg c28, if_neg c29, if_neg c30, hv0])
          refine ⟨y, Hz, ?_, r2⟩
          simp only [Opn.av] at r1
          simp -implicitDefEqProofs only [bnd_some, bo_some, condK_true, condK_false, gdA_undef, decide_true, decide_false, Int.reduceLE, Int.reduceLT, Int.reduceEq, Int.reduceNeg, Int.reduceAdd, gd_tt, gd_tf, gd_ft, gd_ff, unG_pure, lift_some, bnd_lift, Option.map_some, Option.bind_some, fieldPtr_ref, fieldPtr_ip, nil_ref, nil_ip, nil_fn, ex_tup, fl_agg, List.getElem?_cons_zero, List.getElem?_cons_succ, Nat.zero_add, Nat.add_zero, Nat.reduceAdd, pk_t, pk_f, lss_int, leq_int, gtr_int, geq_int, eql_int, neq_int, not_bool, beq_self_eq_true, if_true, Bool.false_eq_true, if_false, List.nil_append, List.cons_append, List.append_nil, alc_eq, mkm_eq, nNew, nPut, bNew, bPut, nGrd, bGrd, ldN_is, ldN_lt, ldaN_is, ldaN_lt, stN_is, stN_lt, Nat.lt_add_one, ne_eq, nx1, nx2, nx3, ny1, ny2, ny3, not_false_eq_true, List.length_cons, List.length_nil, Nat.reduceLeDiff, setAt, List.take_succ_cons, List.take_zero, List.drop_succ_cons, List.drop_zero, cells_dat, cells_int, cells_bool, cells_agg, List.all_cons, List.all_nil, isCell_int, isCell_bool, isCell_dat, isCell_ref, isCell_nil, isCell_vsl, cells_vsl, av_len_cfg, av_len_pkt, av_len_opn, av_len_evn, av_len_ent, av_len_row, av_len_deal, av_len_pck, tk_cfg, tk_pkt, tk_opn, tk_evn, tk_ent, tk_row, tk_deal, tk_pck, all_cfg, all_pkt, all_opn, all_evn, all_ent, all_row, all_deal, all_pck, List.drop_nil, Bool.and_true, Bool.and_self, and_self, Nat.le_refl, true_and, and_true, Nat.le_add_right, leS, ltS, jn_7x0, i1, i2, q2', c28, c29, c30, r1]
      rw [le_7x0]
      by_cases c2 : 1 + withinM (zk.getD j 0) 4 = 2
      · obtain ⟨y, Hz, r1, r2⟩ := mid (atM zv j) (by rw [if_pos (.inl c2)])
        rw [c2] at r1 hw
        refine ⟨y, Hz, ?_, r2, fun h => (hne h).elim⟩
        simp -implicitDefEqProofs only [bnd_some, bo_some, condK_true, condK_false, gdA_undef, decide_true, decide_false, Int.reduceLE, Int.reduceLT, Int.reduceEq, Int.reduceNeg, Int.reduceAdd, gd_tt, gd_tf, gd_ft, gd_ff, unG_pure, lift_some, bnd_lift, Option.map_some, Option.bind_some, fieldPtr_ref, fieldPtr_ip, nil_ref, nil_ip, nil_fn, ex_tup, fl_agg, List.getElem?_cons_zero, List.getElem?_cons_succ, Nat.zero_add, Nat.add_zero, Nat.reduceAdd, pk_t, pk_f, lss_int, leq_int, gtr_int, geq_int, eql_int, neq_int, not_bool, beq_self_eq_true, if_true, Bool.false_eq_true, if_false, List.nil_append, List.cons_append, List.append_nil, alc_eq, mkm_eq, nNew, nPut, bNew, bPut, nGrd, bGrd, ldN_is, ldN_lt, ldaN_is, ldaN_lt, stN_is, stN_lt, Nat.lt_add_one, ne_eq, nx1, nx2, nx3, ny1, ny2, ny3, not_false_eq_true, List.length_cons, List.length_nil, Nat.reduceLeDiff, setAt, List.take_succ_cons, List.take_zero, List.drop_succ_cons, List.drop_zero, cells_dat, cells_int, cells_bool, cells_agg, List.all_cons, List.all_nil, isCell_int, isCell_bool, isCell_dat, isCell_ref, isCell_nil, isCell_vsl, cells_vsl, av_len_cfg, av_len_pkt, av_len_opn, av_len_evn, av_len_ent, av_len_row, av_len_deal, av_len_pck, tk_cfg, tk_pkt, tk_opn, tk_evn, tk_ent, tk_row, tk_deal, tk_pck, all_cfg, all_pkt, all_opn, all_evn, all_ent, all_row, all_deal, all_pck, List.drop_nil, Bool.and_true, Bool.and_self, and_self, Nat.le_refl, true_and, and_true, Nat.le_add_right, leS, ltS, ew, h1, h2, i1, i2, k1, add_int, c2, hw, a2, k2, bd_48, bldA, fillA, pl_48, hbase, put_new, a3, r1]
      by_cases c3 : 1 + withinM (zk.getD j 0) 4 = 3
      · obtain ⟨y, Hz, r1, r2⟩ := mid (atM zv j) (by rw [if_pos (.inr c3)])
        rw [c3] at r1 hw
        refine ⟨y, Hz, ?_, r2, fun h => (hne h).elim⟩
        simp -implicitDefEqProofs only [bnd_some, bo_some, condK_true, condK_false, gdA_undef, decide_true, decide_false, Int.reduceLE, Int.reduceLT, Int.reduceEq, Int.reduceNeg, Int.reduceAdd, gd_tt, gd_tf, gd_ft, gd_ff, unG_pure, lift_some, bnd_lift, Option.map_some, Option.bind_some, fieldPtr_ref, fieldPtr_ip, nil_ref, nil_ip, nil_fn, ex_tup, fl_agg, List.getElem?_cons_zero, List.getElem?_cons_succ, Nat.zero_add, Nat.add_zero, Nat.reduceAdd, pk_t, pk_f, lss_int, leq_int, gtr_int, geq_int, eql_int, neq_int, not_bool, beq_self_eq_true, if_true, Bool.false_eq_true, if_false, List.nil_append, List.cons_append, List.append_nil, alc_eq, mkm_eq, nNew, nPut, bNew, bPut, nGrd, bGrd, ldN_is, ldN_lt, ldaN_is, ldaN_lt, stN_is, stN_lt, Nat.lt_add_one, ne_eq, nx1, nx2, nx3, ny1, ny2, ny3, not_false_eq_true, List.length_cons, List.length_nil, Nat.reduceLeDiff, setAt, List.take_succ_cons, List.take_zero, List.drop_succ_cons, List.drop_zero, cells_dat, cells_int, cells_bool, cells_agg, List.all_cons, List.all_nil, isCell_int, isCell_bool, isCell_dat, isCell_ref, isCell_nil, isCell_vsl, cells_vsl, av_len_cfg, av_len_pkt, av_len_opn, av_len_evn, av_len_ent, av_len_row, av_len_deal, av_len_pck, tk_cfg, tk_pkt, tk_opn, tk_evn, tk_ent, tk_row, tk_deal, tk_pck, all_cfg, all_pkt, all_opn, all_evn, all_ent, all_row, all_deal, all_pck, List.drop_nil, Bool.and_true, Bool.and_self, and_self, Nat.le_refl, true_and, and_true, Nat.le_add_right, leS, ltS, ew, h1, h2, i1, i2, k1, add_int, c3, hw, a2, k2, bd_48, bldA, fillA, pl_48, hbase, put_new, a3, r1]
      · obtain ⟨y, Hz, r1, r2⟩ := mid 0 (by rw [if_neg (not_or.2 ⟨c2, c3⟩)])
        refine ⟨y, Hz, ?_, r2, fun h => (hne h).elim⟩
        simp -implicitDefEqProofs only [bnd_some, bo_some, condK_true, condK_false, gdA_undef, decide_true, decide_false, Int.reduceLE, Int.reduceLT, Int.reduceEq, Int.reduceNeg, Int.reduceAdd, gd_tt, gd_tf, gd_ft, gd_ff, unG_pure, lift_some, bnd_lift, Option.map_some, Option.bind_some, fieldPtr_ref, fieldPtr_ip, nil_ref, nil_ip, nil_fn, ex_tup, fl_agg, List.getElem?_cons_zero, List.getElem?_cons_succ, Nat.zero_add, Nat.add_zero, Nat.reduceAdd, pk_t, pk_f, lss_int, leq_int, gtr_int, geq_int, eql_int, neq_int, not_bool, beq_self_eq_true, if_true, Bool.false_eq_true, if_false, List.nil_append, List.cons_append, List.append_nil, alc_eq, mkm_eq, nNew, nPut, bNew, bPut, nGrd, bGrd, ldN_is, ldN_lt, ldaN_is, ldaN_lt, stN_is, stN_lt, Nat.lt_add_one, ne_eq, nx1, nx2, nx3, ny1, ny2, ny3, not_false_eq_true, List.length_cons, List.length_nil, Nat.reduceLeDiff, setAt, List.take_succ_cons, List.take_zero, List.drop_succ_cons, List.drop_zero, cells_dat, cells_int, cells_bool, cells_agg, List.all_cons, List.all_nil, isCell_int, isCell_bool, isCell_dat, isCell_ref, isCell_nil, isCell_vsl, cells_vsl, av_len_cfg, av_len_pkt, av_len_opn, av_len_evn, av_len_ent, av_len_row, av_len_deal, av_len_pck, tk_cfg, tk_pkt, tk_opn, tk_evn, tk_ent, tk_row, tk_deal, tk_pck, all_cfg, all_pkt, all_opn, all_evn, all_ent, all_row, all_deal, all_pck, List.drop_nil, Bool.and_true, Bool.and_self, and_self, Nat.le_refl, true_and, and_true, Nat.le_add_right, leS, ltS, ew, h1, h2, i1, i2, k1, add_int, c2, c3, hw, a2, k2, bd_48, bldA, fillA, pl_48, hbase, put_new, r1]
  obtain ⟨y, Hz, r1, r2, r3⟩ := key (min zk.length 30) 0 (by omega) H.guard zN (.inl ⟨rfl, by simp [ops]⟩) (Step.refl _ _)
  refine pure_cl rfl rfl (rn_7 _ _ _ _ _ (r := (y, Hz)) ?_) ?_
  · simp -implicitDefEqProofs only [bnd_some, bo_some, condK_true, condK_false, gdA_undef, decide_true, decide_false, Int.reduceLE, Int.reduceLT, Int.reduceEq, Int.reduceNeg, Int.reduceAdd, gd_tt, gd_tf, gd_ft, gd_ff, unG_pure, lift_some, bnd_lift, Option.map_some, Option.bind_some, fieldPtr_ref, fieldPtr_ip, nil_ref, nil_ip, nil_fn, ex_tup, fl_agg, List.getElem?_cons_zero, List.getElem?_cons_succ, Nat.zero_add, Nat.add_zero, Nat.reduceAdd, pk_t, pk_f, lss_int, leq_int, gtr_int, geq_int, eql_int, neq_int, not_bool, beq_self_eq_true, if_true, Bool.false_eq_true, if_false, List.nil_append, List.cons_append, List.append_nil, alc_eq, mkm_eq, nNew, nPut, bNew, bPut, nGrd, bGrd, sh_7]
    exact r1
  · by_cases h0 : opsAny zk za zv = []
    · rw [r3 h0, h0, vsl_nil]; exact freeze_s
    · rw [vsl_cons h0]
      exact freeze_own r2 (by decide) (flat_len av_len_opn _) (fun z hz => frz_list frz_opn _ z hz _ _) fun e => h0 (List.eq_nil_of_length_eq_zero e)
/-- Programs in memory that may be written. -/
theorem psIs_out {b r n : Nat} {H : AHeap} {ps : List (List Opn)} (G : Good b H (upd nil0 r (outO ps))) (hn : ps.length = n) (hz : ∀ j, j < n → ps.getD j [] = [] → ld (.ref r 0 j) H = some (zN, H)) : PsIs H (.sl r 0 0 1 n n true) ps := by
  have hg : ∃ ty xs, H.get r = .blk 0 ty xs ∧ xs.length = n := by
    obtain ⟨_, τ, hR⟩ := G
    obtain ⟨ty, xs, hg, hl, _⟩ := (hR r _ upd_same).blk
    exact ⟨ty, xs, hg, by rw [hl]; simp [outO, hn]⟩
  obtain ⟨ty, xs, hg, hl⟩ := hg
  have hr := G.lt upd_same
  refine ⟨xs, ⟨by omega, rfl, hn.symm, ⟨hr, by omega⟩, ty, xs, hg, by omega, by rw [List.drop_zero, List.take_of_length_le (by omega)]⟩, fun i v l h1 h2 => ?_⟩
  have hi : i < n := by have := (List.getElem?_eq_some_iff.1 h2).1; omega
  have hgd : ps.getD i [] = l := by rw [List.getD_eq_getElem?_getD, h2]; rfl
  obtain ⟨x', hx', cu⟩ := G.seq upd_same (outO_get (ps := ps) (j := i) (by omega))
  rw [ld_blk hg, h1] at hx'
  simp only [Option.map_some, Option.some.injEq, Prod.mk.injEq, and_true] at hx'
  subst hx'
  rw [hgd] at cu
  refine ⟨cu.is (by decide) (flat_len av_len_opn l), fun h0 => ?_⟩
  have e := hz i hi (by rw [hgd, h0])
  rw [ld_blk hg, h1] at e
  simpa using e

end Go.Proofs.YtlcdejlbmnjlaaaGreat

namespace Go.Proofs.YtlcdejlbmnjlaaaGreat

/-- The law's own table: programs are not frozen, as they are written into. -/
noncomputable def pol2 : Pol := ⟨fun _ => false, fun f => if f = 3 ∨ f = 5 then none else some (cl f)⟩
noncomputable def cl2 : Callee := callω Tryz.prog pol2
theorem cl2_eq {f : FuncId} (h : ¬ (f = 3 ∨ f = 5)) : cl2 f = cl f := by
  funext args H
  have hp : pol2.prim f = some (cl f) := by simp only [pol2]; rw [if_neg h]
  cases e : cl f args H with
  | some r => exact prim_of hp e
  | none =>
    cases e2 : cl2 f args H with
    | none => rfl
    | some r =>
      obtain ⟨n, hn⟩ := supA_some (g := fun n => callN Tryz.prog pol2 n f args H) e2
      cases n with
      | zero => cases hn
      | succ n =>
        simp only [callN, callF, hp] at hn
        rw [e] at hn; cases hn
theorem run_cl2 {f : FuncId} {args : List AV} {H : AHeap} {r : AV × AHeap} (h : f = 3 ∨ f = 5) (h' : runF Tryz.prog cl2 f args H = some r) : cl2 f args H = some r :=
  run_of (by simp only [pol2]; rw [if_pos h]) rfl h'
/-- What lies below counts for nothing. -/
theorem Good.low {b : Nat} {H H' : AHeap} {g : Store} (G : Good b H g) (hn : H.next ≤ H'.next) (hg : ∀ r, b ≤ r → H'.get r = H.get r) : Good b H' g := by
  obtain ⟨h0, τ, h1⟩ := G
  have os : ∀ {T x m cells}, OS b H τ T x m cells → OS b H' τ T x m cells := by
    intro T x m cells ho
    rcases ho with ho | ⟨r, g, off, n, cap, ex, ty, all, h2, h3, h4, h5, h6, h7, h8⟩
    · exact .inl ho
    · exact .inr ⟨r, g, off, n, cap, ex, ty, all, h2, h3, h4, by omega, h6, by rw [hg r h4]; exact h7, h8⟩
  have om : ∀ {T x k es}, OM b H τ T x k es → OM b H' τ T x k es := by
    intro T x k es ⟨r, h2, h3, h4, h5, h6⟩
    exact ⟨r, h2, h3, h4, by omega, by rw [hg r h4]; exact h6⟩
  refine ⟨by omega, τ, fun q cs hq => ?_⟩
  have R := h1 q cs hq
  have lo := R.lo
  obtain ⟨ty, xs, k1, k2, k3, k4⟩ := R.blk
  refine ⟨R.tag, R.lo, by have := R.hi; omega, ty, xs, by rw [hg q lo]; exact k1, k2, k3, fun i c x hc hx => ?_⟩
  have := k4 i c x hc hx
  cases c with
  | av _ => exact this
  | seq _ _ => exact os this
  | map _ _ => exact om this
  | maps _ _ _ =>
    obtain ⟨aes, a1, a2, a3⟩ := this
    exact ⟨aes, om a1, a2, fun j n cells x hj hx => os (a3 j n cells x hj hx)⟩
  | seqs _ _ _ =>
    obtain ⟨ys, a1, a2, a3⟩ := this
    exact ⟨ys, os a1, a2, fun j cells x hj hx => os (a3 j cells x hj hx)⟩
theorem MachIs.sub {g g' : Store} {A : Adr} {m : Mach} (h : MachIs g A m) (hg : SubS g g') : MachIs g' A m := by
  refine ⟨hg _ _ h.mach, hg _ _ h.trace, ⟨hg _ _ h.fab.1, fun i p hp => ?_, h.fab.2.2⟩, fun i n hn => ?_, h.pinj, h.ninj, h.tf⟩
  · obtain ⟨a, b, c, d⟩ := h.fab.2.1 i p hp
    exact ⟨hg _ _ a, hg _ _ b, hg _ _ c, hg _ _ d⟩
  · obtain ⟨a, b, c, d, e, f⟩ := h.node i n hn
    exact ⟨hg _ _ a, hg _ _ b, hg _ _ c, hg _ _ d, hg _ _ e, hg _ _ f⟩
theorem RMachIs.sub {g g' : Store} {q f : Nat} {N : Nat → Nat → Nat} {m : RMach} (h : RMachIs g q f N m) (hg : SubS g g') : RMachIs g' q f N m := by
  have hd : ∀ {x l}, DatIs g x l → DatIs g' x l := fun h => h.sub fun q cs hq _ => hg q cs hq
  obtain ⟨ls, f1, f2, f3⟩ := h.fab
  refine ⟨hg _ _ h.mach, ⟨ls, hg _ _ f1, f2, fun i l cells hl hc => (f3 i l cells hl hc).mono fun p cs _ ⟨x, a, b⟩ => ⟨x, hd a, b⟩⟩, fun i n hn => ?_, h.inj⟩
  obtain ⟨⟨d, ⟨x, d1, d2⟩, h0⟩, ⟨cells, k, h1⟩, ⟨rows, r, h2⟩⟩ := h.node i n hn
  exact ⟨⟨d, ⟨x, hd d1, d2⟩, hg _ _ h0⟩, ⟨cells, k.mono fun e cs _ ⟨x, a, b⟩ => ⟨x, hd a, b⟩, hg _ _ h1⟩, ⟨rows, r.mono fun e cs _ ⟨x, a, b⟩ => ⟨x, hd a, b⟩, hg _ _ h2⟩⟩
theorem cup_subL {b n : Nat} {H1 : AHeap} {g g' : Store} (G : Good b H1 g) (hn : H1.next = n) : SubS g (cup n g g') := fun q cs hq => cup_left G hq hn
theorem cup_subR {b n : Nat} {H1 : AHeap} {g g' : Store} (G : Good b H1 g') (hn : n ≤ b) : SubS g' (cup n g g') := fun q cs hq => cup_right G hq hn
section
variable {b : Nat} {H : AHeap}
/-- Both machines, or none. -/
theorem news_end {q : Nat} {c : Cfg} {x : AV} {ps : List (List Opn)} (hb : H.base ≤ H.next) (hq : q < H.next) (gq : H.get q = .blk 0 26 c.av) (hx : PsIs H x ps) (hn : ps.length < 1000) (hl : ∀ l ∈ ps, l.length < 1000) :
    ∃ H', jn_3x1 cl2 (.ref q 0 0) x H = some (B true, H') := by
  have e : ∀ f, ¬ (f = 3 ∨ f = 5) → cl2 f = cl f := fun f h => cl2_eq h
  have c1 : cl2 8 = cl 8 := e _ (by decide)
  have c2 : cl2 9 = cl 9 := e _ (by decide)
  have c3 : cl2 10 = cl 10 := e _ (by decide)
  have c4 : cl2 11 = cl 11 := e _ (by decide)
  have c5 : cl2 12 = cl 12 := e _ (by decide)
  have l0 := lda_cfg gq
  have b0 : bi .eql 34 (I 0) (I 0) = some (B true) := by kernel_rfl
  have b1 : bi .eql 34 (I 1) (I 1) = some (B true) := by kernel_rfl
  have bm : bi .eql 33 zP zP = some (B true) := by kernel_rfl
  have bn : bi .eql 42 zP zP = some (B true) := by kernel_rfl
  have wk := fun H => wakes21 H
  by_cases hok : c.ok = true ∧ c.opsOk ps = true
  · obtain ⟨h1, h2⟩ := hok
    obtain ⟨hp1, _⟩ := opsOk_of h2
    obtain ⟨H1, A, g, e1, M, MI⟩ := machineNew H hb c h1 hx h2
    have l1 := lda_cfg (H := H1) (r := q) (c := c) (by rw [M.same q hq, gq])
    obtain ⟨H2, q', f, N, g', e2, M', RI⟩ := rmachineNew H1 (by rw [M.base]; exact Nat.le_trans hb M.next) c h1 (hx.of_get M.next M.same) h2
    have G := M.good.merge M'
    have MI' := MI.sub (cup_subL (g' := g') M.good rfl)
    have RI' := RI.sub (cup_subR (g := g) M'.good (Nat.le_refl _))
    have e3 := same_sp G MI' RI' (sim_new h1) (fine_new h1 h2) (linesOk MI' (sim_new h1) cache_new)
    have hnn : (Mach.new c ps).nodes.length = ps.length := by simp [Mach.new]
    have e4 := machNode G MI' (by rw [hnn]; exact hn) (-1)
    have e5 := machNode G MI' (by rw [hnn]; exact hn) c.nodes
    rw [if_neg (by omega)] at e4
    rw [if_neg (by rw [hnn]; omega)] at e5
    have l2 : ld (.ref q 0 0) H2 = some (I c.nodes, H2) := by
      rw [ld_blk (by rw [M'.same q (Nat.lt_of_lt_of_le hq M.next), M.same q hq, gq])]; rfl
    refine ⟨H2, ?_⟩
    simp -implicitDefEqProofs only [bnd_some, bo_some, condK_true, condK_false, gdA_undef, decide_true, decide_false, Int.reduceLE, Int.reduceLT, Int.reduceEq, Int.reduceNeg, Int.reduceAdd, gd_tt, gd_tf, gd_ft, gd_ff, unG_pure, lift_some, bnd_lift, Option.map_some, Option.bind_some, fieldPtr_ref, fieldPtr_ip, nil_ref, nil_ip, nil_fn, ex_tup, fl_agg, List.getElem?_cons_zero, List.getElem?_cons_succ, Nat.zero_add, Nat.add_zero, Nat.reduceAdd, pk_t, pk_f, lss_int, leq_int, gtr_int, geq_int, eql_int, neq_int, not_bool, beq_self_eq_true, if_true, Bool.false_eq_true, if_false, List.nil_append, List.cons_append, List.append_nil, alc_eq, mkm_eq, nNew, nPut, bNew, bPut, nGrd, bGrd, jn_3x1, l0, c1, e1, l1, c2, e2, Bool.not_true, b0, c4, e3, c5, e4, bn, l2, e5, c3, wk]
  · obtain ⟨H1, e1, M⟩ := machineNo H hb c hx (by omega) (fun l hl' => by have := hl l hl'; omega) hok
    have l1 := lda_cfg (H := H1) (r := q) (c := c) (by rw [M.same q hq, gq])
    obtain ⟨H2, e2, M'⟩ := rmachNo H1 (by rw [M.base]; exact Nat.le_trans hb M.next) c (hx.of_get M.next M.same) (by omega) (fun l hl' => by have := hl l hl'; omega) hok
    refine ⟨H2, ?_⟩
    simp -implicitDefEqProofs only [bnd_some, bo_some, condK_true, condK_false, gdA_undef, decide_true, decide_false, Int.reduceLE, Int.reduceLT, Int.reduceEq, Int.reduceNeg, Int.reduceAdd, gd_tt, gd_tf, gd_ft, gd_ff, unG_pure, lift_some, bnd_lift, Option.map_some, Option.bind_some, fieldPtr_ref, fieldPtr_ip, nil_ref, nil_ip, nil_fn, ex_tup, fl_agg, List.getElem?_cons_zero, List.getElem?_cons_succ, Nat.zero_add, Nat.add_zero, Nat.reduceAdd, pk_t, pk_f, lss_int, leq_int, gtr_int, geq_int, eql_int, neq_int, not_bool, beq_self_eq_true, if_true, Bool.false_eq_true, if_false, List.nil_append, List.cons_append, List.append_nil, alc_eq, mkm_eq, nNew, nPut, bNew, bPut, nGrd, bGrd, jn_3x1, l0, c1, e1, l1, c2, e2, Bool.not_false, b1, bm, c3, wk]
end

end Go.Proofs.YtlcdejlbmnjlaaaGreat

namespace Go.Proofs.YtlcdejlbmnjlaaaGreat

/-- ps[0] grows. -/
theorem news_app {b r n q : Nat} {H : AHeap} {c : Cfg} {ps : List (List Opn)} {xk xa xv : AV} {zk za zv : List Int} (G : Good b H (upd nil0 r (outO ps))) (hb : H.base ≤ b) (hq : q < b) (gq : H.get q = .blk 0 26 c.av) (hn : ps.length = n) (h0 : 0 < n) (hn1 : n < 1000) (hl : ∀ l ∈ ps, l.length ≤ 24)
    (hz : ∀ j, j < n → ps.getD j [] = [] → ld (.ref r 0 j) H = some (zN, H))
    (hk : SliceIs AHeap.empty xk 1 zk.length (zk.map I)) (ha : SliceIs AHeap.empty xa 1 za.length (za.map I)) (hv : SliceIs AHeap.empty xv 1 zv.length (zv.map I)) (wk : ∀ z ∈ zk, In64 z) (more : Int) :
    ∃ H', jn_3x0 cl2 xk xa xv (I more) (.ref q 0 0) (.sl r 0 0 1 n n true) H = some (B true, H') := by
  have c1 : cl2 7 = cl 7 := cl2_eq (by decide)
  have hbn := G.1
  have q2 := rem_int (P := Tryz.prog) (t := 3) (k := .i64) (a := more) (b := 3) (by decide)
  have q2' : bi .rem 3 (I more) (I 3) = some (I (more.tmod 3)) := q2
  by_cases hm : more.tmod 3 = 0
  rotate_left
  · obtain ⟨H', e⟩ := news_end (H := H) (q := q) (c := c) (x := .sl r 0 0 1 n n true) (ps := ps) (by omega) (by omega) gq (psIs_out G hn hz) (by omega) (fun l h => by have := hl l h; omega)
    refine ⟨H', ?_⟩
    simp -implicitDefEqProofs only [bnd_some, bo_some, condK_true, condK_false, gdA_undef, decide_true, decide_false, Int.reduceLE, Int.reduceLT, Int.reduceEq, Int.reduceNeg, Int.reduceAdd, gd_tt, gd_tf, gd_ft, gd_ff, unG_pure, lift_some, bnd_lift, Option.map_some, Option.bind_some, fieldPtr_ref, fieldPtr_ip, nil_ref, nil_ip, nil_fn, ex_tup, fl_agg, List.getElem?_cons_zero, List.getElem?_cons_succ, Nat.zero_add, Nat.add_zero, Nat.reduceAdd, pk_t, pk_f, lss_int, leq_int, gtr_int, geq_int, eql_int, neq_int, not_bool, beq_self_eq_true, if_true, Bool.false_eq_true, if_false, List.nil_append, List.cons_append, List.append_nil, alc_eq, mkm_eq, nNew, nPut, bNew, bPut, nGrd, bGrd, jn_3x0, q2', hm, e]
  · let ops := opsAny zk za zv
    have hol : ops.length ≤ 30 := by simp [ops, opsAny]; omega
    have og := outO_get (ps := ps) (j := 0) (by omega)
    obtain ⟨x, hx, cu⟩ := G.seq upd_same og
    have hg : ∃ ty xs, H.get r = .blk 0 ty xs := by
      obtain ⟨_, τ, hR⟩ := G
      obtain ⟨ty, xs, hg, _⟩ := (hR r _ upd_same).blk
      exact ⟨ty, xs, hg⟩
    obtain ⟨rty, rxs, hg⟩ := hg
    have ix1 := ix_blk (k := .i64) hg h0
    have ix1' : ix 1 (.sl r 0 0 1 n n true) (I 0) H = some (.ref r 0 0, H) := ix1
    have e1 := opsAny_sp H.guard hk ha hv wk
    have hp0 : (ps.getD 0 []).length ≤ 24 := by
      obtain ⟨l, hl'⟩ : ∃ l, ps[0]? = some l := ⟨_, List.getElem?_eq_getElem (by omega)⟩
      rw [List.getD_eq_getElem?_getD, hl']
      exact hl l (List.mem_of_getElem? hl')
    obtain ⟨x', H1, t1, fit, n1, b1, k1⟩ := cu.app (e := 48) (by_ := 24) hb (by decide) (flat_len av_len_opn _) (vsl_is av_len_opn H ops) (all_flat all_opn ops) (by unfold most; omega) (by unfold most; omega)
    obtain ⟨H2, t2, G2, s2, n2⟩ := G.seat upd_same og cu n1 (by rw [b1]; exact hb) k1 fit
    rw [upd_upd, ← List.flatMap_append, outO_set] at G2
    let ps' := ps.set 0 (ps.getD 0 [] ++ ops)
    have hxr : nameOf x ≠ some r := by
      rcases cu.own with ⟨rfl, _⟩ | ⟨r', gg, off, n', cap, ex, ty2, all, rfl, kr, _⟩
      · intro e; cases e
      · intro e; simp only [nameOf, Option.some.injEq] at e; exact kr e
    have hrl : r < H.next := G.lt upd_same
    have hg1 : H1.get r = .blk 0 rty rxs := by rw [k1 r hrl hxr, hg]
    have ix2 : ix 1 (.sl r 0 0 1 n n true) (I 0) H1 = some (.ref r 0 0, H1) := ix_blk (k := .i64) hg1 h0
    have hlen' : ps'.length = n := by simp [ps', hn]
    have hg2 : H2 = H1.put r (.blk 0 rty (setAt rxs 0 x'.cells)) ∧ x'.cells = [x'] ∧ 0 + 1 ≤ rxs.length := by
      rw [st_ref'] at t2
      simp only [hg1] at t2
      split at t2
      · rename_i hc
        simp only [Option.some.injEq, Prod.mk.injEq, true_and] at t2
        obtain ⟨_, a2, a3, _, a5⟩ := hc
        have hone : One x' := by
          rcases fit with ⟨rfl, _⟩ | ⟨r', g', off, n', cap, ex, ty', all, rfl, _⟩
          · exact one_nil
          · exact one_sl
        rw [hone.1] at a5
        exact ⟨t2.symm, hone.1, a5⟩
      · cases t2
    obtain ⟨hg2, hcx, hrx⟩ := hg2
    have hz' : ∀ j, j < n → ps'.getD j [] = [] → ld (.ref r 0 j) H2 = some (zN, H2) := by
      intro j hj he
      have hr2 : H2.get r = .blk 0 rty (setAt rxs 0 [x']) := by rw [hg2, getPut_eq, hcx]
      rw [ld_blk hr2]
      by_cases hj0 : j = 0
      · subst hj0
        have he2 : ps.getD 0 [] ++ ops = [] := by
          simp only [ps'] at he
          rw [List.getD_eq_getElem?_getD, List.getElem?_set_self (by omega)] at he
          exact he
        have h01 : ps.getD 0 [] = [] := (List.append_eq_nil_iff.1 he2).1
        have h02 : ops = [] := (List.append_eq_nil_iff.1 he2).2
        have hz0 := hz 0 h0 h01
        rw [hx] at hz0
        cases hz0
        rw [h02] at t1
        have : app 48 3 24 zN (vsl 3 Opn.av ([] : List Opn)) H = some (zN, H) := by
          rw [vsl_nil]; rfl
        rw [this] at t1
        cases t1
        rw [setA_get (by simpa using hrx), if_pos (by simp)]
        rfl
      · have he3 : ps.getD j [] = [] := by
          simp only [ps'] at he
          rw [List.getD_eq_getElem?_getD, List.getElem?_set_ne (fun e => hj0 e.symm)] at he
          rw [List.getD_eq_getElem?_getD]; exact he
        have hzj := hz j hj he3
        rw [ld_blk hg] at hzj
        rw [setA_get (by simpa using hrx), if_neg (by simp; omega)]
        cases hxj : rxs[j]? with
        | none => rw [hxj] at hzj; cases hzj
        | some v =>
          rw [hxj] at hzj
          simp only [Option.map_some, Option.some.injEq, Prod.mk.injEq, and_true] at hzj
          rw [hzj]; rfl
    have hbr : b ≤ r := G.le upd_same
    have gq2 : H2.get q = .blk 0 26 c.av := by
      rw [hg2, getPut_ne (by omega), k1 q (by omega) (cu.low hq), gq]
    obtain ⟨H', e⟩ := news_end (H := H2) (q := q) (c := c) (x := .sl r 0 0 1 n n true) (ps := ps') (by rw [s2.base, b1]; have := s2.next; omega) (by have := s2.next; omega) gq2 (psIs_out G2 hlen' hz') (by omega) (fun l h => by
      rcases List.mem_or_eq_of_mem_set h with h | rfl
      · have := hl l h; omega
      · rw [List.length_append]; omega)
    refine ⟨H', ?_⟩
    simp only [ops] at t1
    simp -implicitDefEqProofs only [bnd_some, bo_some, condK_true, condK_false, gdA_undef, decide_true, decide_false, Int.reduceLE, Int.reduceLT, Int.reduceEq, Int.reduceNeg, Int.reduceAdd, gd_tt, gd_tf, gd_ft, gd_ff, unG_pure, lift_some, bnd_lift, Option.map_some, Option.bind_some, fieldPtr_ref, fieldPtr_ip, nil_ref, nil_ip, nil_fn, ex_tup, fl_agg, List.getElem?_cons_zero, List.getElem?_cons_succ, Nat.zero_add, Nat.add_zero, Nat.reduceAdd, pk_t, pk_f, lss_int, leq_int, gtr_int, geq_int, eql_int, neq_int, not_bool, beq_self_eq_true, if_true, Bool.false_eq_true, if_false, List.nil_append, List.cons_append, List.append_nil, alc_eq, mkm_eq, nNew, nPut, bNew, bPut, nGrd, bGrd, jn_3x0, q2', hm, ix1', hx, c1, e1, t1, ix2, t2, e]
section
variable {s : SetupA} {zi zw zk za zv yk ya yv : List Int} {xk xa xv : AV}
theorem news_run (H : AHeap) (hbn : H.base ≤ H.next) (h : s.Ok zi zw zk za zv) (hi : SliceIs AHeap.empty s.init 1 zi.length (zi.map I)) (hw : SliceIs AHeap.empty s.who 1 zw.length (zw.map I)) (hk : SliceIs AHeap.empty s.kinds 1 zk.length (zk.map I)) (ha : SliceIs AHeap.empty s.addrs 1 za.length (za.map I)) (hv : SliceIs AHeap.empty s.values 1 zv.length (zv.map I))
    (hc : s.init.isCell = true ∧ s.who.isCell = true ∧ s.kinds.isCell = true ∧ s.addrs.isCell = true ∧ s.values.isCell = true)
    (hk' : SliceIs AHeap.empty xk 1 yk.length (yk.map I)) (ha' : SliceIs AHeap.empty xa 1 ya.length (ya.map I)) (hv' : SliceIs AHeap.empty xv 1 yv.length (yv.map I)) (wk : ∀ z ∈ yk, In64 z) (what v more : Int) :
    ∃ H', cl2 3 [.agg s.cells, I what, I v, xk, xa, xv, I more] H = some (B true, H') := by
  have hck : (s.cfg zi).ok = true := cfg_ok s zi
  have Bd := cfgB hck
  have hnn := Bd.nodes
  have hall : s.cells.all AV.isCell = true := by
    simp only [SetupA.cells, List.all_cons, List.all_nil, hc, Bool.and_true]
    rfl
  have cC : cl2 4 = cl 4 := cl2_eq (by decide)
  have cW : cl2 6 = cl 6 := cl2_eq (by decide)
  have cA : cl2 14 = cl 14 := cl2_eq (by decide)
  have e1 := fun H => config_sp H h hi hc
  let c := s.cfg zi
  have hcn : c.nodes = (s.cfg zi).nodes := rfl
  let H1 := H.new (.blk 0 24 s.cells)
  let H2 := H1.new (.blk 0 26 c.av)
  have n2 : H2.next = H.next + 2 := rfl
  obtain ⟨Hz, r, hr, e2, G, sT, hz⟩ := programs_run (C := cl2) cA cW cC H2 (by show H.base ≤ H.next + 2; omega) h hi hw hk ha hv hc (mo := 10) (by omega)
  have e2' : cl2 5 [.agg s.cells, I 10] H2 = some (.sl r 0 0 1 c.nodes.toNat c.nodes.toNat true, Hz) := run_cl2 (.inr rfl) (rn_5 _ _ _ _ e2)
  let ps := progsOf c zw zk za zv 10
  have hlen : ps.length = c.nodes.toNat := progsTo_len _ _ _ _ _ _
  have hle : ∀ l ∈ ps, l.length ≤ 24 := progsTo_le _ _ _ _ _ _
  have gq : Hz.get (H.next + 1) = .blk 0 26 c.av := by
    rw [sT.low _ (by rw [n2]; omega)]; exact getNew_is rfl
  have gp : Hz.get H.next = .blk 0 24 s.cells := by
    rw [sT.low _ (by rw [n2]; omega)]
    simp only [H2]
    rw [getNew_lt (by show H.next < H.next + 1; omega)]; exact getNew_is rfl
  have hzb : Hz.base = H.base := sT.base
  have hzn : H.next + 2 ≤ Hz.next := sT.next
  have e3 := within64 Hz what 20 (by omega)
  have hwr := withinM_rng (v := what) (n := 20) (by omega)
  -- from the switch on
  have tail : ∀ (c' : Cfg) (H' : AHeap), H'.get (H.next + 1) = .blk 0 26 c'.av → H'.next = Hz.next → H'.base = Hz.base → (∀ x, H.next + 2 ≤ x → H'.get x = Hz.get x) → ∃ H'', jn_3x0 cl2 xk xa xv (I more) (.ref (H.next + 1) 0 0) (.sl r 0 0 1 c.nodes.toNat c.nodes.toNat true) H' = some (B true, H'') := by
    intro c' H' a1 a2 a3 a4
    have G' : Good (H2.next + 2) H' (upd nil0 r (outO ps)) := G.low (by omega) fun x hx => a4 x (by rw [n2] at hx; omega)
    refine news_app (b := H2.next + 2) (c := c') G' (by rw [a3, hzb, n2]; omega) (by rw [n2]; omega) a1 hlen (by omega) (by omega) hle (fun j hj he => ?_) hk' ha' hv' wk more
    have := hz j hj he
    have hg : ∃ ty xs, Hz.get r = .blk 0 ty xs := by
      obtain ⟨_, τ, hR⟩ := G
      obtain ⟨ty, xs, hg, _⟩ := (hR r _ upd_same).blk
      exact ⟨ty, xs, hg⟩
    obtain ⟨ty, xs, hg⟩ := hg
    have hg' : H'.get r = .blk 0 ty xs := by rw [a4 r (by rw [hr, n2]; omega), hg]
    rw [ld_blk hg] at this
    rw [ld_blk hg']
    cases hxj : xs[j]? with
    | none => rw [hxj] at this; cases this
    | some v =>
      rw [hxj] at this
      simp only [Option.map_some, Option.some.injEq, Prod.mk.injEq, and_true] at this
      rw [this]; rfl
  have hb1 : Hz.base ≤ H.next + 1 := by omega
  have put : ∀ (i : Nat) (c' : Cfg), i < 8 → c'.av = setAt c.av i [I v] → st 1 (.ref (H.next + 1) 0 i) (I v) Hz = some (undefA, Hz.put (H.next + 1) (.blk 0 26 c'.av)) ∧ ∃ H'', jn_3x0 cl2 xk xa xv (I more) (.ref (H.next + 1) 0 0) (.sl r 0 0 1 c.nodes.toNat c.nodes.toNat true) (Hz.put (H.next + 1) (.blk 0 26 c'.av)) = some (B true, H'') := by
    intro i c' hi8 he
    refine ⟨?_, tail c' _ getPut_eq rfl rfl fun x hx => getPut_ne (by omega)⟩
    have := st_new (H := Hz) (r := H.next + 1) (off := i) (n := 1) (v := I v) gq hb1 rfl rfl (by show i + 1 ≤ 8; omega)
    rw [this, he]; rfl
  have ls : s.cells.length = 12 := rfl
  have lt : s.cells.take 12 = s.cells := rfl
  have cc : (AV.agg c.av).cells = c.av := rfl
  have lc : c.av.length = 8 := rfl
  have hbb : H.base ≤ H.next + 1 := by omega
  simp only [H2, H1, c] at e2' cc lc
  by_cases k0 : withinM what 20 = 0
  · obtain ⟨p1, H'', p2⟩ := put 0 { c with nodes := v } (by decide) rfl
    refine ⟨H'', run_cl2 (.inl rfl) (rn_3 _ _ _ _ _ _ _ _ _ (r := (_, H'')) ?_)⟩
    rw [k0] at e3
    simp only [c] at p1 p2
    simp -implicitDefEqProofs only [bnd_some, bo_some, condK_true, condK_false, gdA_undef, decide_true, decide_false, Int.reduceLE, Int.reduceLT, Int.reduceEq, Int.reduceNeg, Int.reduceAdd, gd_tt, gd_tf, gd_ft, gd_ff, unG_pure, lift_some, bnd_lift, Option.map_some, Option.bind_some, fieldPtr_ref, fieldPtr_ip, nil_ref, nil_ip, nil_fn, ex_tup, fl_agg, List.getElem?_cons_zero, List.getElem?_cons_succ, Nat.zero_add, Nat.add_zero, Nat.reduceAdd, pk_t, pk_f, lss_int, leq_int, gtr_int, geq_int, eql_int, neq_int, not_bool, beq_self_eq_true, if_true, Bool.false_eq_true, if_false, List.nil_append, List.cons_append, List.append_nil, alc_eq, mkm_eq, nNew, nPut, bNew, bPut, nGrd, bGrd, ldN_is, ldN_lt, ldaN_is, ldaN_lt, stN_is, stN_lt, Nat.lt_add_one, ne_eq, nx1, nx2, nx3, ny1, ny2, ny3, not_false_eq_true, List.length_cons, List.length_nil, Nat.reduceLeDiff, setAt, List.take_succ_cons, List.take_zero, List.drop_succ_cons, List.drop_zero, cells_dat, cells_int, cells_bool, cells_agg, List.all_cons, List.all_nil, isCell_int, isCell_bool, isCell_dat, isCell_ref, isCell_nil, isCell_vsl, cells_vsl, av_len_cfg, av_len_pkt, av_len_opn, av_len_evn, av_len_ent, av_len_row, av_len_deal, av_len_pck, tk_cfg, tk_pkt, tk_opn, tk_evn, tk_ent, tk_row, tk_deal, tk_pck, all_cfg, all_pkt, all_opn, all_evn, all_ent, all_row, all_deal, all_pck, List.drop_nil, Bool.and_true, Bool.and_self, and_self, Nat.le_refl, true_and, and_true, Nat.le_add_right, leS, ltS, sh_3, box_agg hall, ls, lt, cC, e1, cc, lc, hbb, put_new, e2', cW, e3, p1, p2]
  by_cases k1 : withinM what 20 = 1
  · obtain ⟨p1, H'', p2⟩ := put 4 { c with ways := v } (by decide) rfl
    refine ⟨H'', run_cl2 (.inl rfl) (rn_3 _ _ _ _ _ _ _ _ _ (r := (_, H'')) ?_)⟩
    rw [k1] at e3
    simp only [c] at p1 p2
    simp -implicitDefEqProofs only [bnd_some, bo_some, condK_true, condK_false, gdA_undef, decide_true, decide_false, Int.reduceLE, Int.reduceLT, Int.reduceEq, Int.reduceNeg, Int.reduceAdd, gd_tt, gd_tf, gd_ft, gd_ff, unG_pure, lift_some, bnd_lift, Option.map_some, Option.bind_some, fieldPtr_ref, fieldPtr_ip, nil_ref, nil_ip, nil_fn, ex_tup, fl_agg, List.getElem?_cons_zero, List.getElem?_cons_succ, Nat.zero_add, Nat.add_zero, Nat.reduceAdd, pk_t, pk_f, lss_int, leq_int, gtr_int, geq_int, eql_int, neq_int, not_bool, beq_self_eq_true, if_true, Bool.false_eq_true, if_false, List.nil_append, List.cons_append, List.append_nil, alc_eq, mkm_eq, nNew, nPut, bNew, bPut, nGrd, bGrd, ldN_is, ldN_lt, ldaN_is, ldaN_lt, stN_is, stN_lt, Nat.lt_add_one, ne_eq, nx1, nx2, nx3, ny1, ny2, ny3, not_false_eq_true, List.length_cons, List.length_nil, Nat.reduceLeDiff, setAt, List.take_succ_cons, List.take_zero, List.drop_succ_cons, List.drop_zero, cells_dat, cells_int, cells_bool, cells_agg, List.all_cons, List.all_nil, isCell_int, isCell_bool, isCell_dat, isCell_ref, isCell_nil, isCell_vsl, cells_vsl, av_len_cfg, av_len_pkt, av_len_opn, av_len_evn, av_len_ent, av_len_row, av_len_deal, av_len_pck, tk_cfg, tk_pkt, tk_opn, tk_evn, tk_ent, tk_row, tk_deal, tk_pck, all_cfg, all_pkt, all_opn, all_evn, all_ent, all_row, all_deal, all_pck, List.drop_nil, Bool.and_true, Bool.and_self, and_self, Nat.le_refl, true_and, and_true, Nat.le_add_right, leS, ltS, sh_3, box_agg hall, ls, lt, cC, e1, cc, lc, hbb, put_new, e2', cW, e3, p1, p2]
  by_cases k2 : withinM what 20 = 2
  · obtain ⟨p1, H'', p2⟩ := put 6 { c with inn := v } (by decide) rfl
    refine ⟨H'', run_cl2 (.inl rfl) (rn_3 _ _ _ _ _ _ _ _ _ (r := (_, H'')) ?_)⟩
    rw [k2] at e3
    simp only [c] at p1 p2
    simp -implicitDefEqProofs only [bnd_some, bo_some, condK_true, condK_false, gdA_undef, decide_true, decide_false, Int.reduceLE, Int.reduceLT, Int.reduceEq, Int.reduceNeg, Int.reduceAdd, gd_tt, gd_tf, gd_ft, gd_ff, unG_pure, lift_some, bnd_lift, Option.map_some, Option.bind_some, fieldPtr_ref, fieldPtr_ip, nil_ref, nil_ip, nil_fn, ex_tup, fl_agg, List.getElem?_cons_zero, List.getElem?_cons_succ, Nat.zero_add, Nat.add_zero, Nat.reduceAdd, pk_t, pk_f, lss_int, leq_int, gtr_int, geq_int, eql_int, neq_int, not_bool, beq_self_eq_true, if_true, Bool.false_eq_true, if_false, List.nil_append, List.cons_append, List.append_nil, alc_eq, mkm_eq, nNew, nPut, bNew, bPut, nGrd, bGrd, ldN_is, ldN_lt, ldaN_is, ldaN_lt, stN_is, stN_lt, Nat.lt_add_one, ne_eq, nx1, nx2, nx3, ny1, ny2, ny3, not_false_eq_true, List.length_cons, List.length_nil, Nat.reduceLeDiff, setAt, List.take_succ_cons, List.take_zero, List.drop_succ_cons, List.drop_zero, cells_dat, cells_int, cells_bool, cells_agg, List.all_cons, List.all_nil, isCell_int, isCell_bool, isCell_dat, isCell_ref, isCell_nil, isCell_vsl, cells_vsl, av_len_cfg, av_len_pkt, av_len_opn, av_len_evn, av_len_ent, av_len_row, av_len_deal, av_len_pck, tk_cfg, tk_pkt, tk_opn, tk_evn, tk_ent, tk_row, tk_deal, tk_pck, all_cfg, all_pkt, all_opn, all_evn, all_ent, all_row, all_deal, all_pck, List.drop_nil, Bool.and_true, Bool.and_self, and_self, Nat.le_refl, true_and, and_true, Nat.le_add_right, leS, ltS, sh_3, box_agg hall, ls, lt, cC, e1, cc, lc, hbb, put_new, e2', cW, e3, p1, p2]
  by_cases k3 : withinM what 20 = 3
  · obtain ⟨p1, H'', p2⟩ := put 2 { c with words := v } (by decide) rfl
    refine ⟨H'', run_cl2 (.inl rfl) (rn_3 _ _ _ _ _ _ _ _ _ (r := (_, H'')) ?_)⟩
    rw [k3] at e3
    simp only [c] at p1 p2
    simp -implicitDefEqProofs only [bnd_some, bo_some, condK_true, condK_false, gdA_undef, decide_true, decide_false, Int.reduceLE, Int.reduceLT, Int.reduceEq, Int.reduceNeg, Int.reduceAdd, gd_tt, gd_tf, gd_ft, gd_ff, unG_pure, lift_some, bnd_lift, Option.map_some, Option.bind_some, fieldPtr_ref, fieldPtr_ip, nil_ref, nil_ip, nil_fn, ex_tup, fl_agg, List.getElem?_cons_zero, List.getElem?_cons_succ, Nat.zero_add, Nat.add_zero, Nat.reduceAdd, pk_t, pk_f, lss_int, leq_int, gtr_int, geq_int, eql_int, neq_int, not_bool, beq_self_eq_true, if_true, Bool.false_eq_true, if_false, List.nil_append, List.cons_append, List.append_nil, alc_eq, mkm_eq, nNew, nPut, bNew, bPut, nGrd, bGrd, ldN_is, ldN_lt, ldaN_is, ldaN_lt, stN_is, stN_lt, Nat.lt_add_one, ne_eq, nx1, nx2, nx3, ny1, ny2, ny3, not_false_eq_true, List.length_cons, List.length_nil, Nat.reduceLeDiff, setAt, List.take_succ_cons, List.take_zero, List.drop_succ_cons, List.drop_zero, cells_dat, cells_int, cells_bool, cells_agg, List.all_cons, List.all_nil, isCell_int, isCell_bool, isCell_dat, isCell_ref, isCell_nil, isCell_vsl, cells_vsl, av_len_cfg, av_len_pkt, av_len_opn, av_len_evn, av_len_ent, av_len_row, av_len_deal, av_len_pck, tk_cfg, tk_pkt, tk_opn, tk_evn, tk_ent, tk_row, tk_deal, tk_pck, all_cfg, all_pkt, all_opn, all_evn, all_ent, all_row, all_deal, all_pck, List.drop_nil, Bool.and_true, Bool.and_self, and_self, Nat.le_refl, true_and, and_true, Nat.le_add_right, leS, ltS, sh_3, box_agg hall, ls, lt, cC, e1, cc, lc, hbb, put_new, e2', cW, e3, p1, p2]
  · obtain ⟨H'', p2⟩ := tail c Hz gq rfl rfl fun _ _ => rfl
    refine ⟨H'', run_cl2 (.inl rfl) (rn_3 _ _ _ _ _ _ _ _ _ (r := (_, H'')) ?_)⟩
    simp only [c] at p2
    simp -implicitDefEqProofs only [bnd_some, bo_some, condK_true, condK_false, gdA_undef, decide_true, decide_false, Int.reduceLE, Int.reduceLT, Int.reduceEq, Int.reduceNeg, Int.reduceAdd, gd_tt, gd_tf, gd_ft, gd_ff, unG_pure, lift_some, bnd_lift, Option.map_some, Option.bind_some, fieldPtr_ref, fieldPtr_ip, nil_ref, nil_ip, nil_fn, ex_tup, fl_agg, List.getElem?_cons_zero, List.getElem?_cons_succ, Nat.zero_add, Nat.add_zero, Nat.reduceAdd, pk_t, pk_f, lss_int, leq_int, gtr_int, geq_int, eql_int, neq_int, not_bool, beq_self_eq_true, if_true, Bool.false_eq_true, if_false, List.nil_append, List.cons_append, List.append_nil, alc_eq, mkm_eq, nNew, nPut, bNew, bPut, nGrd, bGrd, ldN_is, ldN_lt, ldaN_is, ldaN_lt, stN_is, stN_lt, Nat.lt_add_one, ne_eq, nx1, nx2, nx3, ny1, ny2, ny3, not_false_eq_true, List.length_cons, List.length_nil, Nat.reduceLeDiff, setAt, List.take_succ_cons, List.take_zero, List.drop_succ_cons, List.drop_zero, cells_dat, cells_int, cells_bool, cells_agg, List.all_cons, List.all_nil, isCell_int, isCell_bool, isCell_dat, isCell_ref, isCell_nil, isCell_vsl, cells_vsl, av_len_cfg, av_len_pkt, av_len_opn, av_len_evn, av_len_ent, av_len_row, av_len_deal, av_len_pck, tk_cfg, tk_pkt, tk_opn, tk_evn, tk_ent, tk_row, tk_deal, tk_pck, all_cfg, all_pkt, all_opn, all_evn, all_ent, all_row, all_deal, all_pck, List.drop_nil, Bool.and_true, Bool.and_self, and_self, Nat.le_refl, true_and, and_true, Nat.le_add_right, leS, ltS, sh_3, box_agg hall, ls, lt, cC, e1, cc, lc, hbb, put_new, e2', cW, e3, k0, k1, k2, k3, p2]
theorem machineNews_run (h : s.Ok zi zw zk za zv) (hi : SliceIs AHeap.empty s.init 1 zi.length (zi.map I)) (hw : SliceIs AHeap.empty s.who 1 zw.length (zw.map I)) (hk : SliceIs AHeap.empty s.kinds 1 zk.length (zk.map I)) (ha : SliceIs AHeap.empty s.addrs 1 za.length (za.map I)) (hv : SliceIs AHeap.empty s.values 1 zv.length (zv.map I))
    (hc : s.init.isCell = true ∧ s.who.isCell = true ∧ s.kinds.isCell = true ∧ s.addrs.isCell = true ∧ s.values.isCell = true) (what : Int) (_ : In64 what) (v : Int) (_ : In64 v)
    (hk' : SliceIs AHeap.empty xk 1 yk.length (yk.map I)) (wk : ∀ z ∈ yk, In64 z) (ha' : SliceIs AHeap.empty xa 1 ya.length (ya.map I)) (_ : ∀ z ∈ ya, In64 z) (hv' : SliceIs AHeap.empty xv 1 yv.length (yv.map I)) (_ : ∀ z ∈ yv, In64 z) (more : Int) (_ : In64 more) :
    ∃ H', callω Tryz.prog pol2 3 [.agg s.cells, I what, I v, xk, xa, xv, I more] AHeap.empty = some (B true, H') :=
  news_run AHeap.empty (Nat.le_refl _) h hi hw hk ha hv hc hk' ha' hv' wk what v more
theorem pol2_prim : ∀ f p, pol2.prim f = some p → p = cl f := fun f p hp => by
  simp only [pol2] at hp
  split at hp
  · cases hp
  · exact (Option.some.inj hp).symm
end

end Go.Proofs.YtlcdejlbmnjlaaaGreat

