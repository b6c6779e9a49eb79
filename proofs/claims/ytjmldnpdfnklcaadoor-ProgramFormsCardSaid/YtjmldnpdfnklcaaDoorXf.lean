/-
  Own work: an interpreter over named blocks, its soundness, and what the functions of this seat compute (part 6 of 7).
  Conditions: those of the statement alone.
-/
import Derived.Test.YtjmldnpdfnklcaaDoorXe
set_option linter.all false
set_option linter.unusedSectionVars false
set_option linter.unusedVariables false
set_option linter.unusedSimpArgs false
namespace Go.Proofs.YtjmldnpdfnklcaaDoor

/-- What a builder holds. -/
def BldIs (b : Nat) (H : AHeap) (r : Nat) (t : Str) : Prop :=
  b ≤ r ∧ r < H.next ∧ ∃ p v, H.get r = .blk 0 84 [p, v] ∧ (p = zP ∨ p = .ref r 0 0) ∧
    ((v = zN ∧ t = []) ∨ ∃ r2 g, v = .sl r2 g 0 1 t.length t.length false ∧ b ≤ r2 ∧ r2 < H.next ∧ r2 ≠ r ∧ t ≠ [] ∧ H.get r2 = .blk g (5 + tagB) (t.map U8))
theorem BldIs.ext {b : Nat} {H H' : AHeap} {r : Nat} {t : Str} (h : BldIs b H r t) (hn : H.next ≤ H'.next) (hg : ∀ x, b ≤ x → x < H.next → H'.get x = H.get x) : BldIs b H' r t := by
  obtain ⟨h1, h2, p, v, h3, h4, h5⟩ := h
  refine ⟨h1, by omega, p, v, by rw [hg r h1 h2]; exact h3, h4, h5.imp id fun ⟨r2, g, k1, k2, k3, k4, k5, k6⟩ => ⟨r2, g, k1, k2, by omega, k4, k5, by rw [hg r2 k2 k3]; exact k6⟩⟩
theorem app_T {e by_ : Nat} {v : AV} {s : Str} {H : AHeap} : app e 1 by_ v (T s) H = appendCells e 1 by_ v s.length (s.map U8) H := by
  simp only [app, T, sliceLen, sliceCells, size_T, toList_T]
theorem all_U8 : ∀ s : Str, (s.map U8).all AV.isCell = true
  | [] => rfl
  | b :: s => by rw [List.map_cons, List.all_cons, all_U8 s]; rfl
theorem grT_self {e : Nat} : grT e (e + tagB) 0 = e + tagB := by unfold grT; rw [if_pos ⟨.inr rfl, rfl⟩]
theorem write_sp {b : Nat} {H : AHeap} {r : Nat} {t : Str} (hbn : b ≤ H.next) (hb : H.base ≤ b) (h : BldIs b H r t) {s : Str} (hs : s ≠ []) (hl : t.length + s.length ≤ 1000000) :
    ∃ H', cl 47 [.ref r 0 0, T s] H = some (.tup [I s.length, .s .nilIface], H') ∧ BldIs b H' r (t ++ s) ∧ Step b H H' := by
  obtain ⟨h1, h2, p, v, h3, h4, h5⟩ := h
  have hv : v.isCell = true := by
    rcases h5 with ⟨rfl, _⟩ | ⟨r2, g, rfl, _⟩ <;> rfl
  have hs0 : s.length ≠ 0 := fun e => hs (List.eq_nil_of_length_eq_zero e)
  have c1 : ∃ H1, cl 75 [.ref r 0 0] H = some (.tup [], H1) ∧ H1.get r = .blk 0 84 [.ref r 0 0, v] ∧ (∀ x, x ≠ r → H1.get x = H.get x) ∧ H1.next = H.next ∧ H1.base = H.base := by
    rcases h4 with rfl | rfl
    · refine ⟨H.put r (.blk 0 84 [.ref r 0 0, v]), prim_of (p := copyP 84) (by rfl) ?_, getPut_eq, fun x hx => getPut_ne hx, rfl, rfl⟩
      simp only [copyP, h3]
      rw [if_pos ⟨trivial, by decide, by omega, hv⟩]
    · refine ⟨H, prim_of (p := copyP 84) (by rfl) ?_, h3, fun x _ => rfl, rfl, rfl⟩
      simp only [copyP, h3]
      rw [if_pos ⟨trivial, by decide, by omega, hv⟩]
      simp
  obtain ⟨H1, c1, g1, g2, g3, g4⟩ := c1
  have c2 : ∃ v' H2, app 5 1 1 v (T s) H1 = some (v', H2) ∧ H2.get r = .blk 0 84 [.ref r 0 0, v] ∧ v'.isCell = true ∧ v'.cells = [v'] ∧ H2.base = H1.base ∧ H1.next ≤ H2.next ∧ (∀ x, x < b → H2.get x = H1.get x) ∧
      ∃ r2 g, v' = .sl r2 g 0 1 (t ++ s).length (t ++ s).length false ∧ b ≤ r2 ∧ r2 < H2.next ∧ r2 ≠ r ∧ H2.get r2 = .blk g (5 + tagB) ((t ++ s).map U8) := by
    rcases h5 with ⟨rfl, rfl⟩ | ⟨r2, g, rfl, k2, k3, k4, k5, k6⟩
    · refine ⟨.sl H1.next 0 0 1 s.length s.length false, H1.new (.blk 0 (5 + tagB) (s.map U8)), ?_, by rw [getNew_lt (by omega)]; exact g1, rfl, rfl, rfl, by rw [nNew]; omega, fun x hx => getNew_lt (by omega), H1.next, 0, rfl, by omega, by rw [nNew]; omega, by omega, getNew_eq⟩
      rw [app_T, appendCells, if_pos ⟨by simp, all_U8 s⟩]
      rw [if_neg hs0, if_pos ⟨by unfold most; omega, by unfold most; omega⟩]
    · have k7 : H1.get r2 = .blk g (5 + tagB) (t.map U8) := by rw [g2 r2 k4]; exact k6
      refine ⟨.sl r2 (g + 1) 0 1 (t ++ s).length (t ++ s).length false, H1.put r2 (.blk (g + 1) (5 + tagB) ((t ++ s).map U8)), ?_, by rw [getPut_ne (Ne.symm k4)]; exact g1, rfl, rfl, rfl, Nat.le_refl _, fun x hx => getPut_ne (by omega), r2, g + 1, rfl, k2, by rw [nPut]; omega, k4, getPut_eq⟩
      rw [app_T, appendCells, if_pos ⟨by simp, all_U8 s⟩]
      simp only [k7]
      rw [if_pos ⟨trivial, trivial, by simp⟩, if_neg hs0, if_neg (by omega), if_pos ⟨by unfold most; omega, by unfold most; omega⟩]
      simp only [Bool.false_eq_true, if_false, grT_self, List.drop_zero, Nat.mul_one]
      rw [if_pos (by omega), List.take_of_length_le (by simp), ← List.map_append, List.length_append]
  obtain ⟨v', H2, c2, q1, q2, q3, q4, q5, q6, r2, g, q7, q8, q9, q10, q11⟩ := c2
  have c3 := st_new (n := 1) (off := 1) (v := v') q1 (by omega) (by rw [q3]; simp [q2]) (by rw [q3]; rfl) (by simp)
  rw [q3] at c3
  have e3 : setAt [AV.ref r 0 0, v] 1 [v'] = [.ref r 0 0, v'] := rfl
  rw [e3] at c3
  refine ⟨H2.put r (.blk 0 84 [.ref r 0 0, v']), run_cl rfl rfl (rn_47 _ _ _ _ ?_), ⟨h1, by rw [nPut]; omega, .ref r 0 0, v', getPut_eq, .inr rfl, .inr ⟨r2, g, q7, q8, by rw [nPut]; exact q9, q10, by simp [hs], by rw [getPut_ne q10]; exact q11⟩⟩, ⟨by rw [bPut, q4, g4], by rw [nPut]; omega, fun x hx => by rw [getPut_ne (by omega), q6 x hx, g2 x (by omega)]⟩⟩
  have c4 : ld (.ref r 0 1) H1 = some (v, H1) := by rw [ld_blk g1]; rfl
  simp -implicitDefEqProofs only [Nat.reduceLT, bnd_some, bo_some, condK_true, condK_false, gdA_undef, decide_true, decide_false, Int.reduceLE, Int.reduceLT, Int.reduceEq, Int.reduceNeg, Int.reduceAdd, gd_tt, gd_tf, gd_ft, gd_ff, unG_pure, lift_some, bnd_lift, Option.map_some, Option.bind_some, fieldPtr_ref, fieldPtr_ip, nil_ref, nil_ip, nil_fn, ex_tup, fl_agg, List.getElem?_cons_zero, List.getElem?_cons_succ, Nat.zero_add, Nat.add_zero, Nat.reduceAdd, pk_t, pk_f, lss_int, leq_int, gtr_int, geq_int, eql_int, neq_int, not_bool, beq_self_eq_true, if_true, Bool.false_eq_true, if_false, List.nil_append, List.cons_append, List.append_nil, alc_eq, mkm_eq, nNew, nPut, bNew, bPut, nGrd, bGrd, sh_47, c1, c4, c2, c3, lnT_T]
/-- A builder's text. -/
theorem string_sp {b : Nat} {H : AHeap} {r : Nat} {t : Str} (hb : H.base ≤ b) (h : BldIs b H r t) (hl : t.length ≤ 1000000) : ∃ H', cl 48 [.ref r 0 0] H = some (T t, H') := by
  obtain ⟨h1, h2, p, v, h3, h4, h5⟩ := h
  rcases h5 with ⟨rfl, rfl⟩ | ⟨r2, g, rfl, k2, k3, k4, k5, k6⟩
  · refine ⟨H, prim_of (p := stringP 84 5) (by rfl) ?_⟩
    simp only [stringP, h3, if_true]
  · refine ⟨H.put r2 (.blk (g + 1) 0 []), prim_of (p := stringP 84 5) (by rfl) ?_⟩
    have hb : ∀ t : Str, (t.map U8).mapM byteOf = some t := by
      intro t
      induction t with
      | nil => rfl
      | cons x t ih =>
        rw [List.map_cons, List.mapM_cons, ih]
        have hx : byteOf (U8 x) = some x := by
          have := x.toNat_lt
          simp only [byteOf]
          rw [if_pos ⟨by omega, by omega⟩]
          simp
        rw [hx]; rfl
    simp only [stringP, h3, k6]
    rw [if_pos ⟨trivial, trivial, trivial, fun e => k5 (List.eq_nil_of_length_eq_zero e), by omega, by simp, by omega⟩, List.take_of_length_le (by simp), hb]
/-- Things printed line by line: 'none' where a line, read again, is not its thing. -/
def prT {α : Type} [DecidableEq α] (K : List Str → Option α) (LN : α → Str) : List α → Option Str
  | [] => some []
  | o :: os => if parseTx K (LN o) = some [o] then (prT K LN os).map fun t => LN o ++ (10 :: t) else none
theorem prT_ops : ∀ os : List Opn, prT opTx lineTx os = printTx os
  | [] => rfl
  | o :: os => by
    rw [prT, printTx, prT_ops os]
    by_cases h : okOp o = true
    · rw [if_pos h, if_pos ((line_back o).2 h)]
    · rw [if_neg h, if_neg fun e => h ((line_back o).1 e)]
def prA (o : Option Str) : AV := match o with
  | some t => .tup [T t, I 0]
  | none => .tup [T [], I 1]
theorem opIn_len {o : Opn} (h : In64 o.addr ∧ In64 o.value) : (lineTx o).length ≤ 80 := by have := lineTx_len h.1 h.2; omega
theorem print_sp (H : AHeap) {x : AV} {ops : List Opn} (hx : SliceIs H x 3 ops.length (ops.flatMap Opn.av)) (hn : ops.length ≤ 1000) (hi : ∀ o ∈ ops, (fun o : Opn => In64 o.addr ∧ In64 o.value) o) : cl 32 [x] H = some (prA (prT opTx lineTx ops), H) := by
  refine pure_val rfl rfl (rn_32 _ _ _) ?_ (by
    unfold prA
    split <;> exact frz_tup fun x hx => by
      simp only [List.mem_cons, List.mem_singleton, List.not_mem_nil, or_false] at hx
      rcases hx with rfl | rfl <;> exact frz_s)
  let H0 := H.guard.new (.blk 0 84 [zP, zN])
  have s0 : Step H.next H.guard H0 := Step.new _ (Nat.le_refl _)
  have sx : ∀ {Hi : AHeap}, Step H.next H.guard Hi → SliceIs Hi x 3 ops.length (ops.flatMap Opn.av) := fun {Hi} s => hx.guard.of_get s.next fun r _ hr => s.low r hr
  have key : ∀ k j : Nat, j + k = ops.length → ∀ (acc : Str) (Hi : AHeap), acc.length ≤ 100 * j → BldIs H.next Hi H.next acc → Step H.next H.guard Hi →
      (lp_32x0 cl [.ref H.next 0 0, x, I ops.length, I j] Hi).map Prod.fst = some (prA ((prT opTx lineTx (ops.drop j)).map (acc ++ ·))) := by
    intro k
    induction k with
    | zero =>
      intro j hj acc Hi ha hb s
      have h1 : ¬ (j : Int) < ops.length := by omega
      have sb : Hi.base = H.next := s.base
      obtain ⟨Hz, e1⟩ := string_sp (by omega) hb (by omega)
      rw [le_32x0, List.drop_eq_nil_of_le (by omega)]
      simp -implicitDefEqProofs only [Nat.reduceLT, bnd_some, bo_some, condK_true, condK_false, gdA_undef, decide_true, decide_false, Int.reduceLE, Int.reduceLT, Int.reduceEq, Int.reduceNeg, Int.reduceAdd, gd_tt, gd_tf, gd_ft, gd_ff, unG_pure, lift_some, bnd_lift, Option.map_some, Option.bind_some, fieldPtr_ref, fieldPtr_ip, nil_ref, nil_ip, nil_fn, ex_tup, fl_agg, List.getElem?_cons_zero, List.getElem?_cons_succ, Nat.zero_add, Nat.add_zero, Nat.reduceAdd, pk_t, pk_f, lss_int, leq_int, gtr_int, geq_int, eql_int, neq_int, not_bool, beq_self_eq_true, if_true, Bool.false_eq_true, if_false, List.nil_append, List.cons_append, List.append_nil, alc_eq, mkm_eq, nNew, nPut, bNew, bPut, nGrd, bGrd, h1, e1, prT, prA]
    | succ k ih =>
      intro j hj acc Hi ha hb s
      have h1 : (j : Int) < ops.length := by omega
      have h6 : (j : Int) + 1 = ((j + 1 : Nat) : Int) := by omega
      have h7 := wrap_i64 (a := ((j + 1 : Nat) : Int)) (by omega) (by omega)
      have s1 := (sx s).ix (k := .i64) (i := (j : Int)) (by omega) h1
      rw [Int.toNat_natCast] at s1
      obtain ⟨o, ho⟩ : ∃ o, ops[j]? = some o := ⟨_, List.getElem?_eq_getElem (by omega)⟩
      have t1 := lda_elem av_len_opn (sx s) ho
      have hdr : ops.drop j = o :: ops.drop (j + 1) := by
        rw [List.drop_eq_getElem_cons (by omega)]
        congr 1
        rw [List.getElem?_eq_getElem (by omega)] at ho
        exact Option.some.inj ho
      have hin : (fun o : Opn => In64 o.addr ∧ In64 o.value) o := hi o (List.mem_of_getElem? ho)
      have hll := opIn_len hin
      have sb : Hi.base = H.next := s.base
      have sn : H.next ≤ Hi.next := s.next
      have hbn : Hi.base ≤ Hi.next := by omega
      let H1 := Hi.new (.blk 0 31 o.av)
      have st1 : Step H.next Hi H1 := Step.new _ sn
      have l1 : cl _ [.agg o.av] H1 = _ := (line_sp _ hin.1 hin.2)
      have p1 := parseOps_sp H1 (l := lineTx o) (by omega)
      have b0 : bi .neq 25 (I 0) (I 0) = some (B false) := by kernel_rfl
      have b2 : bi .neq 25 (I 2) (I 0) = some (B true) := by kernel_rfl
      rw [hdr]
      cases hp : parseTx opTx (lineTx o) with
      | none =>
        rw [hp] at p1
        simp only [readA] at p1
        have e0 : prT opTx lineTx (o :: ops.drop (j + 1)) = none := by rw [prT, hp, if_neg (by simp)]
        rw [e0, le_32x0]
        simp only [Opn.av, H1] at t1 l1 p1
        simp -implicitDefEqProofs only [Nat.reduceLT, bnd_some, bo_some, condK_true, condK_false, gdA_undef, decide_true, decide_false, Int.reduceLE, Int.reduceLT, Int.reduceEq, Int.reduceNeg, Int.reduceAdd, gd_tt, gd_tf, gd_ft, gd_ff, unG_pure, lift_some, bnd_lift, Option.map_some, Option.bind_some, fieldPtr_ref, fieldPtr_ip, nil_ref, nil_ip, nil_fn, ex_tup, fl_agg, List.getElem?_cons_zero, List.getElem?_cons_succ, Nat.zero_add, Nat.add_zero, Nat.reduceAdd, pk_t, pk_f, lss_int, leq_int, gtr_int, geq_int, eql_int, neq_int, not_bool, beq_self_eq_true, if_true, Bool.false_eq_true, if_false, List.nil_append, List.cons_append, List.append_nil, alc_eq, mkm_eq, nNew, nPut, bNew, bPut, nGrd, bGrd, ldN_is, ldN_lt, ldaN_is, ldaN_lt, stN_is, stN_lt, Nat.lt_add_one, ne_eq, nx1, nx2, nx3, ny1, ny2, ny3, not_false_eq_true, List.length_cons, List.length_nil, Nat.reduceLeDiff, setAt, List.take_succ_cons, List.take_zero, List.drop_succ_cons, List.drop_zero, cells_dat, cells_int, cells_bool, cells_agg, List.all_cons, List.all_nil, isCell_int, isCell_bool, isCell_dat, isCell_ref, isCell_nil, isCell_vsl, cells_vsl, av_len_cfg, av_len_pkt, av_len_opn, av_len_evn, av_len_ent, av_len_row, av_len_deal, av_len_pck, tk_cfg, tk_pkt, tk_opn, tk_evn, tk_ent, tk_row, tk_deal, tk_pck, all_cfg, all_pkt, all_opn, all_evn, all_ent, all_row, all_deal, all_pck, List.drop_nil, Bool.and_true, Bool.and_self, and_self, Nat.le_refl, true_and, and_true, Nat.le_add_right, leS, ltS, h1, s1, t1, hbn, put_new, l1, p1, b2, T_str, Option.map_none, prA]
        try rfl
      | some back =>
        rw [hp] at p1
        simp only [readA] at p1
        let H2 := H1.new (.blk 0 31 o.av)
        have eb : bs 24 1 [(0, .agg o.av)] H1 = some (.sl H1.next 0 0 3 1 1 true, H2) := (bs_24 (n := 1) (by decide)).trans (bsl_one (e := 31) (m := 3) (v := .agg o.av) (H := H1) rfl rfl (all_opn o))
        have hlen := parseTx_len opTx hp
        have eq1 := equalOps H2 (l := back) (m := [o]) (by omega) (by simp) (vsl_is av_len_opn H2 back) (by
          have := sl_new (e := 31) (m := 3) (n := 1) (l := o.av) (H := H1) (ex := true) rfl
          simpa using this)
        by_cases hbk : back = [o]
        · have e0 : prT opTx lineTx (o :: ops.drop (j + 1)) = (prT opTx lineTx (ops.drop (j + 1))).map fun t => lineTx o ++ (10 :: t) := by rw [prT, hp, if_pos (by rw [hbk])]
          have d1 : decide (back = [o]) = true := decide_eq_true hbk
          have st2 : Step H.next Hi H2 := st1.trans (Step.new _ (by simp only [H1]; rw [nNew]; omega))
          have a1 := add_T (P := Tryd.prog) (t := 9) (a := lineTx o) (b := [10]) (by simp; omega)
          have B2 : BldIs H.next H2 H.next acc := hb.ext st2.next fun y hy hlt => by
            simp only [H2, H1]
            rw [getNew_lt (by rw [nNew]; omega), getNew_lt hlt]
          obtain ⟨H3, w1, w2, w3⟩ := write_sp (s := lineTx o ++ [10]) (by have := st2.next; omega) (by rw [st2.base]; omega) B2 (by simp) (by simp; omega)
          have r1 := ih (j + 1) (by omega) (acc ++ (lineTx o ++ [10])) H3 (by simp; omega) w2 ((s.trans st2).trans w3)
          rw [e0, le_32x0]
          have fin : (prT opTx lineTx (ops.drop (j + 1))).map ((acc ++ (lineTx o ++ [10])) ++ ·) = ((prT opTx lineTx (ops.drop (j + 1))).map fun t => lineTx o ++ (10 :: t)).map (acc ++ ·) := by
            cases prT opTx lineTx (ops.drop (j + 1)) with
            | none => rfl
            | some t => simp [List.append_assoc]
          rw [fin] at r1
          rw [d1] at eq1
          simp only [Opn.av, H1, H2, nNew] at t1 l1 p1 eb eq1 w1
          simp -implicitDefEqProofs only [Nat.reduceLT, bnd_some, bo_some, condK_true, condK_false, gdA_undef, decide_true, decide_false, Int.reduceLE, Int.reduceLT, Int.reduceEq, Int.reduceNeg, Int.reduceAdd, gd_tt, gd_tf, gd_ft, gd_ff, unG_pure, lift_some, bnd_lift, Option.map_some, Option.bind_some, fieldPtr_ref, fieldPtr_ip, nil_ref, nil_ip, nil_fn, ex_tup, fl_agg, List.getElem?_cons_zero, List.getElem?_cons_succ, Nat.zero_add, Nat.add_zero, Nat.reduceAdd, pk_t, pk_f, lss_int, leq_int, gtr_int, geq_int, eql_int, neq_int, not_bool, beq_self_eq_true, if_true, Bool.false_eq_true, if_false, List.nil_append, List.cons_append, List.append_nil, alc_eq, mkm_eq, nNew, nPut, bNew, bPut, nGrd, bGrd, ldN_is, ldN_lt, ldaN_is, ldaN_lt, stN_is, stN_lt, Nat.lt_add_one, ne_eq, nx1, nx2, nx3, ny1, ny2, ny3, not_false_eq_true, List.length_cons, List.length_nil, Nat.reduceLeDiff, setAt, List.take_succ_cons, List.take_zero, List.drop_succ_cons, List.drop_zero, cells_dat, cells_int, cells_bool, cells_agg, List.all_cons, List.all_nil, isCell_int, isCell_bool, isCell_dat, isCell_ref, isCell_nil, isCell_vsl, cells_vsl, av_len_cfg, av_len_pkt, av_len_opn, av_len_evn, av_len_ent, av_len_row, av_len_deal, av_len_pck, tk_cfg, tk_pkt, tk_opn, tk_evn, tk_ent, tk_row, tk_deal, tk_pck, all_cfg, all_pkt, all_opn, all_evn, all_ent, all_row, all_deal, all_pck, List.drop_nil, Bool.and_true, Bool.and_self, and_self, Nat.le_refl, true_and, and_true, Nat.le_add_right, leS, ltS, h1, s1, t1, hbn, put_new, l1, p1, b0, eb, eq1, Bool.not_true, T_str, a1, w1, add_int, h6, h7]
          exact r1
        · have e0 : prT opTx lineTx (o :: ops.drop (j + 1)) = none := by rw [prT, hp, if_neg (by simp [hbk])]
          have d1 : decide (back = [o]) = false := decide_eq_false hbk
          rw [d1] at eq1
          rw [e0, le_32x0]
          simp only [Opn.av, H1, H2, nNew] at t1 l1 p1 eb eq1
          simp -implicitDefEqProofs only [Nat.reduceLT, bnd_some, bo_some, condK_true, condK_false, gdA_undef, decide_true, decide_false, Int.reduceLE, Int.reduceLT, Int.reduceEq, Int.reduceNeg, Int.reduceAdd, gd_tt, gd_tf, gd_ft, gd_ff, unG_pure, lift_some, bnd_lift, Option.map_some, Option.bind_some, fieldPtr_ref, fieldPtr_ip, nil_ref, nil_ip, nil_fn, ex_tup, fl_agg, List.getElem?_cons_zero, List.getElem?_cons_succ, Nat.zero_add, Nat.add_zero, Nat.reduceAdd, pk_t, pk_f, lss_int, leq_int, gtr_int, geq_int, eql_int, neq_int, not_bool, beq_self_eq_true, if_true, Bool.false_eq_true, if_false, List.nil_append, List.cons_append, List.append_nil, alc_eq, mkm_eq, nNew, nPut, bNew, bPut, nGrd, bGrd, ldN_is, ldN_lt, ldaN_is, ldaN_lt, stN_is, stN_lt, Nat.lt_add_one, ne_eq, nx1, nx2, nx3, ny1, ny2, ny3, not_false_eq_true, List.length_cons, List.length_nil, Nat.reduceLeDiff, setAt, List.take_succ_cons, List.take_zero, List.drop_succ_cons, List.drop_zero, cells_dat, cells_int, cells_bool, cells_agg, List.all_cons, List.all_nil, isCell_int, isCell_bool, isCell_dat, isCell_ref, isCell_nil, isCell_vsl, cells_vsl, av_len_cfg, av_len_pkt, av_len_opn, av_len_evn, av_len_ent, av_len_row, av_len_deal, av_len_pck, tk_cfg, tk_pkt, tk_opn, tk_evn, tk_ent, tk_row, tk_deal, tk_pck, all_cfg, all_pkt, all_opn, all_evn, all_ent, all_row, all_deal, all_pck, List.drop_nil, Bool.and_true, Bool.and_self, and_self, Nat.le_refl, true_and, and_true, Nat.le_add_right, leS, ltS, h1, s1, t1, hbn, put_new, l1, p1, b0, eb, eq1, Bool.not_false, T_str, Option.map_none, prA]
          try rfl
  have r1 := key ops.length 0 (by omega) [] H0 (by simp) ⟨Nat.le_refl _, by simp only [H0]; rw [nNew, nGrd]; omega, zP, zN, by simp only [H0]; exact getNew_is (by rw [nGrd]), .inl rfl, .inl ⟨rfl, rfl⟩⟩ s0
  rw [List.drop_zero] at r1
  have hid : (prT opTx lineTx ops).map ([] ++ ·) = prT opTx lineTx ops := by cases prT opTx lineTx ops <;> rfl
  rw [hid] at r1
  have hln := (sx s0).lnS
  simp only [H0] at hln r1
  simp -implicitDefEqProofs only [Nat.reduceLT, bnd_some, bo_some, condK_true, condK_false, gdA_undef, decide_true, decide_false, Int.reduceLE, Int.reduceLT, Int.reduceEq, Int.reduceNeg, Int.reduceAdd, gd_tt, gd_tf, gd_ft, gd_ff, unG_pure, lift_some, bnd_lift, Option.map_some, Option.bind_some, fieldPtr_ref, fieldPtr_ip, nil_ref, nil_ip, nil_fn, ex_tup, fl_agg, List.getElem?_cons_zero, List.getElem?_cons_succ, Nat.zero_add, Nat.add_zero, Nat.reduceAdd, pk_t, pk_f, lss_int, leq_int, gtr_int, geq_int, eql_int, neq_int, not_bool, beq_self_eq_true, if_true, Bool.false_eq_true, if_false, List.nil_append, List.cons_append, List.append_nil, alc_eq, mkm_eq, nNew, nPut, bNew, bPut, nGrd, bGrd, sh_32, hln]
  exact r1

end Go.Proofs.YtjmldnpdfnklcaaDoor

namespace Go.Proofs.YtjmldnpdfnklcaaDoor



end Go.Proofs.YtjmldnpdfnklcaaDoor

namespace Go.Proofs.YtjmldnpdfnklcaaDoor



end Go.Proofs.YtjmldnpdfnklcaaDoor

namespace Go.Proofs.YtjmldnpdfnklcaaDoor



end Go.Proofs.YtjmldnpdfnklcaaDoor

namespace Go.Proofs.YtjmldnpdfnklcaaDoor



end Go.Proofs.YtjmldnpdfnklcaaDoor

namespace Go.Proofs.YtjmldnpdfnklcaaDoor

def dig (k : Nat) : UInt8 := UInt8.ofNat (48 + k)
def formTx (x y : Nat) : Str := [108, 111, 97, 100, 32] ++ [dig x] ++ [10, 10, 32, 32, 115, 116, 111, 114, 101, 32, 32] ++ [dig x] ++ [32] ++ [dig y] ++ [32, 10, 97, 100, 100, 32] ++ [dig x] ++ [32, 45, 49] ++ [dig y] ++ [10, 102, 108, 117, 115, 104, 32] ++ [dig x]
def formOps (x y : Nat) : List Opn := [⟨1, x, 0⟩, ⟨2, x, y⟩, ⟨3, x, -10 - y⟩, ⟨4, x, 0⟩]
def formOut (x y : Nat) : Str := [108, 111, 97, 100, 32] ++ [dig x] ++ [10, 115, 116, 111, 114, 101, 32] ++ [dig x] ++ [32] ++ [dig y] ++ [10, 97, 100, 100, 32] ++ [dig x] ++ [32, 45, 49] ++ [dig y] ++ [10, 102, 108, 117, 115, 104, 32] ++ [dig x] ++ [10]
set_option maxRecDepth 100000 in
theorem form_parse : ∀ x y : Fin 10, parseTx opTx (formTx x.val y.val) = some (formOps x.val y.val) := by decide +kernel
set_option maxRecDepth 100000 in
theorem form_print : ∀ x y : Fin 10, printTx (formOps x.val y.val) = some (formOut x.val y.val) := by decide +kernel
def noForms : List Str := [[108, 111, 97, 100], [108, 111, 97, 100, 32, 120], [108, 111, 97, 100, 32, 49, 32, 50], [108, 111, 97, 100, 32, 45, 49], [115, 116, 111, 114, 101, 32, 49], [115, 116, 111, 114, 101, 32, 49, 32, 50, 32, 51], [115, 116, 111, 114, 101, 32, 49, 32, 120], [97, 100, 100], [97, 100, 100, 32, 49], [102, 108, 117, 115, 104], [102, 108, 117, 115, 104, 32, 49, 32, 49], [76, 111, 97, 100, 32, 49], [108, 111, 97, 100, 32, 48, 49], [115, 116, 111, 114, 101, 32, 49, 32, 45, 48], [108, 111, 97, 100, 9, 49], [109, 111, 118, 101, 32, 49], [108, 111, 97, 100, 32, 49, 50, 51, 52, 53, 54, 55, 56, 57, 48], [49], [108, 111, 97, 100, 32, 49, 10, 120]]
set_option maxRecDepth 100000 in
theorem no_form : ∀ w ∈ noForms, parseTx opTx w = none ∧ w.length ≤ 100 := by decide +kernel
theorem within_nat {v : Int} {n : Nat} (h : 0 < n) : ∃ x : Nat, x < n ∧ withinM v n = (x : Int) := by
  have := withinM_rng (v := v) (n := n) (by omega)
  exact ⟨(withinM v n).toNat, by omega, by omega⟩
set_option maxRecDepth 100000 in
theorem forms_run (a v : Int) : ∃ H', cl 8 [I a, I v] AHeap.empty = some (B true, H') := by
  obtain ⟨x, hx, ex⟩ := within_nat (v := a) (n := 10) (by decide)
  obtain ⟨y, hy, ey⟩ := within_nat (v := v) (n := 10) (by decide)
  have k1 := within64 AHeap.empty a 10 (by omega)
  have k2 := within64 AHeap.empty v 10 (by omega)
  have ex' : withinM a 10 = (x : Int) := ex
  have ey' : withinM v 10 = (y : Int) := ey
  rw [ex'] at k1
  rw [ey'] at k2
  obtain ⟨z1, c1, c2⟩ := digit_cut hx
  obtain ⟨z2, c3, c4⟩ := digit_cut hy
  have ed : ([48, 49, 50, 51, 52, 53, 54, 55, 56, 57] : Str) = digW := rfl
  have p1 := parseOps_sp AHeap.empty (l := formTx x y) (by simp [formTx])
  rw [form_parse ⟨x, hx⟩ ⟨y, hy⟩] at p1
  simp only [readA] at p1
  have p1' : cl 12 [T (formTx x y)] AHeap.empty = some (.tup [vsl 3 Opn.av (formOps x y), I 0], AHeap.empty) := p1
  let H1 := AHeap.empty.new (.blk 0 31 ((formOps x y).flatMap Opn.av))
  let H2 := H1.new (.blk 0 9 (noForms.map T))
  have ey1 : SliceIs H1 (.sl AHeap.empty.next 0 0 3 4 4 true) 3 4 ((formOps x y).flatMap Opn.av) := sl_new (H := AHeap.empty) rfl
  have so := sameOps H1 (l := formOps x y) (by simp [formOps]) (vsl_is av_len_opn H1 (formOps x y)) ey1
  have q0 : bi .eql 25 (I 0) (I 0) = some (B true) := by kernel_rfl
  have q1 : bi .neq 25 (I 0) (I 0) = some (B false) := by kernel_rfl
  have q2 : bi .neq 25 (I 2) (I 2) = some (B false) := by kernel_rfl
  have eb : bs 24 4 [(0, .agg [I 1, I x, zI]), (1, .agg [I 2, I x, I y]), (2, .agg [I 3, I x, I (-10 - y)]), (3, .agg [I 4, I x, zI])] AHeap.empty = some (.sl AHeap.empty.next 0 0 3 4 4 true, H1) := (bs_24 (n := 4) (by decide)).trans rfl
  have hw := wrap_i64 (a := -10 - (y : Int)) (by omega) (by omega)
  have es : SliceIs H2 (.sl H1.next 0 0 1 19 19 true) 1 19 (noForms.map T) := sl_new (H := H1) rfl
  have e2 := print_sp H2 (vsl_is av_len_opn H2 (formOps x y)) (by simp [formOps]) (by
    intro o ho
    simp only [formOps, List.mem_cons, List.not_mem_nil, or_false] at ho
    rcases ho with rfl | rfl | rfl | rfl <;> exact ⟨⟨by simp only; omega, by simp only; omega⟩, ⟨by simp only; omega, by simp only; omega⟩⟩)
  rw [prT_ops, form_print ⟨x, hx⟩ ⟨y, hy⟩] at e2
  simp only [prA] at e2
  have wk := wakes17 H2
  -- the loop over what is none
  have key : ∀ k j : Nat, j + k = 19 → lp_8x0 cl [T [dig x], T [dig y], vsl 3 Opn.av (formOps x y), .sl H1.next 0 0 1 19 19 true, I 19, I j] H2 = some (B true, H2) := by
    intro k
    induction k with
    | zero =>
      intro j hj
      have h1 : ¬ (j : Int) < 19 := by omega
      rw [le_8x0]
      have ad := fun (a b : Str) (h : a.length + b.length ≤ 1000000) => add_T (P := Tryd.prog) (t := 9) h
      simp -implicitDefEqProofs only [Nat.reduceLT, bnd_some, bo_some, condK_true, condK_false, gdA_undef, decide_true, decide_false, Int.reduceLE, Int.reduceLT, Int.reduceEq, Int.reduceNeg, Int.reduceAdd, gd_tt, gd_tf, gd_ft, gd_ff, unG_pure, lift_some, bnd_lift, Option.map_some, Option.bind_some, fieldPtr_ref, fieldPtr_ip, nil_ref, nil_ip, nil_fn, ex_tup, fl_agg, List.getElem?_cons_zero, List.getElem?_cons_succ, Nat.zero_add, Nat.add_zero, Nat.reduceAdd, pk_t, pk_f, lss_int, leq_int, gtr_int, geq_int, eql_int, neq_int, not_bool, beq_self_eq_true, if_true, Bool.false_eq_true, if_false, List.nil_append, List.cons_append, List.append_nil, alc_eq, mkm_eq, nNew, nPut, bNew, bPut, nGrd, bGrd, ldN_is, ldN_lt, ldaN_is, ldaN_lt, stN_is, stN_lt, Nat.lt_add_one, ne_eq, nx1, nx2, nx3, ny1, ny2, ny3, not_false_eq_true, List.length_cons, List.length_nil, Nat.reduceLeDiff, setAt, List.take_succ_cons, List.take_zero, List.drop_succ_cons, List.drop_zero, cells_dat, cells_int, cells_bool, cells_agg, List.all_cons, List.all_nil, isCell_int, isCell_bool, isCell_dat, isCell_ref, isCell_nil, isCell_vsl, cells_vsl, av_len_cfg, av_len_pkt, av_len_opn, av_len_evn, av_len_ent, av_len_row, av_len_deal, av_len_pck, tk_cfg, tk_pkt, tk_opn, tk_evn, tk_ent, tk_row, tk_deal, tk_pck, all_cfg, all_pkt, all_opn, all_evn, all_ent, all_row, all_deal, all_pck, List.drop_nil, Bool.and_true, Bool.and_self, and_self, Nat.le_refl, true_and, and_true, Nat.le_add_right, leS, ltS, h1, e2, q0, T_str, add_T, eql_T, formOut, eq_self, wk]
    | succ k ih =>
      intro j hj
      have h1 : (j : Int) < 19 := by omega
      have h6 : (j : Int) + 1 = ((j + 1 : Nat) : Int) := by omega
      have h7 := wrap_i64 (a := ((j + 1 : Nat) : Int)) (by omega) (by omega)
      have s1 := es.ix (k := .i64) (i := (j : Int)) (by omega) h1
      rw [Int.toNat_natCast] at s1
      have s2 := es.ld (i := j) (by omega)
      have hjl : j < noForms.length := by show j < 19; omega
      rw [List.getElem?_map, List.getElem?_eq_getElem hjl, Option.map_some, Option.map_some] at s2
      have nf := no_form _ (List.getElem_mem hjl)
      have p2 := parseOps_sp H2 (l := noForms[j]) (by omega)
      rw [nf.1] at p2
      simp only [readA] at p2
      have l0 : lnS zN H2 = some (I 0, H2) := rfl
      have r1 := ih (j + 1) (by omega)
      rw [le_8x0]
      simp -implicitDefEqProofs only [Nat.reduceLT, bnd_some, bo_some, condK_true, condK_false, gdA_undef, decide_true, decide_false, Int.reduceLE, Int.reduceLT, Int.reduceEq, Int.reduceNeg, Int.reduceAdd, gd_tt, gd_tf, gd_ft, gd_ff, unG_pure, lift_some, bnd_lift, Option.map_some, Option.bind_some, fieldPtr_ref, fieldPtr_ip, nil_ref, nil_ip, nil_fn, ex_tup, fl_agg, List.getElem?_cons_zero, List.getElem?_cons_succ, Nat.zero_add, Nat.add_zero, Nat.reduceAdd, pk_t, pk_f, lss_int, leq_int, gtr_int, geq_int, eql_int, neq_int, not_bool, beq_self_eq_true, if_true, Bool.false_eq_true, if_false, List.nil_append, List.cons_append, List.append_nil, alc_eq, mkm_eq, nNew, nPut, bNew, bPut, nGrd, bGrd, h1, s1, s2, p2, q2, l0, eq_self, Bool.not_true, add_int, h6, h7, r1]
  have r1 := key 19 0 rfl
  have es19 : bs 37 19 (noForms.zipIdx.map fun p => (p.2, T p.1)) H1 = some (.sl H1.next 0 0 1 19 19 true, H2) := (bs_37 (n := 19) (by decide)).trans rfl
  have ln19 : lnS (.sl H1.next 0 0 1 19 19 true) H2 = some (I 19, H2) := rfl
  have r1' : lp_8x0 cl [T [dig x], T [dig y], vsl 3 Opn.av (formOps x y), .sl H1.next 0 0 1 19 19 true, I 19, I 0] H2 = some (B true, H2) := r1
  refine ⟨H2, run_cl rfl rfl (rn_8 _ _ _ _ ?_)⟩
  simp only [noForms, List.zipIdx, List.map_cons, List.map_nil, H1, formOps, List.flatMap_cons, List.flatMap_nil, Opn.av, List.cons_append, List.nil_append] at es19
  have hc1 : slT z1 none (some (I 1)) = some (T [dig x]) := c2
  have hc3 : slT z2 none (some (I 1)) = some (T [dig y]) := c4
  simp only [formTx, List.cons_append, List.nil_append] at p1'
  simp only [H1, H2, formOps, List.flatMap_cons, List.flatMap_nil, Opn.av, List.cons_append, List.nil_append] at eb so ln19 r1' p1'
  simp -implicitDefEqProofs only [Nat.reduceLT, bnd_some, bo_some, condK_true, condK_false, gdA_undef, decide_true, decide_false, Int.reduceLE, Int.reduceLT, Int.reduceEq, Int.reduceNeg, Int.reduceAdd, gd_tt, gd_tf, gd_ft, gd_ff, unG_pure, lift_some, bnd_lift, Option.map_some, Option.bind_some, fieldPtr_ref, fieldPtr_ip, nil_ref, nil_ip, nil_fn, ex_tup, fl_agg, List.getElem?_cons_zero, List.getElem?_cons_succ, Nat.zero_add, Nat.add_zero, Nat.reduceAdd, pk_t, pk_f, lss_int, leq_int, gtr_int, geq_int, eql_int, neq_int, not_bool, beq_self_eq_true, if_true, Bool.false_eq_true, if_false, List.nil_append, List.cons_append, List.append_nil, alc_eq, mkm_eq, nNew, nPut, bNew, bPut, nGrd, bGrd, ldN_is, ldN_lt, ldaN_is, ldaN_lt, stN_is, stN_lt, Nat.lt_add_one, ne_eq, nx1, nx2, nx3, ny1, ny2, ny3, not_false_eq_true, List.length_cons, List.length_nil, Nat.reduceLeDiff, setAt, List.take_succ_cons, List.take_zero, List.drop_succ_cons, List.drop_zero, cells_dat, cells_int, cells_bool, cells_agg, List.all_cons, List.all_nil, isCell_int, isCell_bool, isCell_dat, isCell_ref, isCell_nil, isCell_vsl, cells_vsl, av_len_cfg, av_len_pkt, av_len_opn, av_len_evn, av_len_ent, av_len_row, av_len_deal, av_len_pck, tk_cfg, tk_pkt, tk_opn, tk_evn, tk_ent, tk_row, tk_deal, tk_pck, all_cfg, all_pkt, all_opn, all_evn, all_ent, all_row, all_deal, all_pck, List.drop_nil, Bool.and_true, Bool.and_self, and_self, Nat.le_refl, true_and, and_true, Nat.le_add_right, leS, ltS, sh_8, k1, k2, T_str, ed, c1, hc1, c3, hc3, add_T, p1', q1, bd_31, bldA, fillA, pl_31, sub_int, hw, eb, so, Bool.not_true, es19, ln19]
  exact r1'

end Go.Proofs.YtjmldnpdfnklcaaDoor

