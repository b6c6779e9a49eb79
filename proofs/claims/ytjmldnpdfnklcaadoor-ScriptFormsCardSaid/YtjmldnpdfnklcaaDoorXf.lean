/-
  Own work: an interpreter over named blocks, its soundness, and what the functions of this seat compute (part 6 of 7).
  Conditions: those of the statement alone.
-/
import Derived.Test.YtjmldnpdfnklcaaDoorXe
set_option linter.all false
set_option linter.unusedSectionVars false
set_option linter.unusedVariables false
set_option linter.unusedSimpArgs false
namespace Go.Proofs.YtjmldnpdfnklcaaDoor

/-- What a builder holds. -/
def BldIs (b : Nat) (H : AHeap) (r : Nat) (t : Str) : Prop :=
  b ≤ r ∧ r < H.next ∧ ∃ p v, H.get r = .blk 0 84 [p, v] ∧ (p = zP ∨ p = .ref r 0 0) ∧
    ((v = zN ∧ t = []) ∨ ∃ r2 g, v = .sl r2 g 0 1 t.length t.length false ∧ b ≤ r2 ∧ r2 < H.next ∧ r2 ≠ r ∧ t ≠ [] ∧ H.get r2 = .blk g (5 + tagB) (t.map U8))
theorem BldIs.ext {b : Nat} {H H' : AHeap} {r : Nat} {t : Str} (h : BldIs b H r t) (hn : H.next ≤ H'.next) (hg : ∀ x, b ≤ x → x < H.next → H'.get x = H.get x) : BldIs b H' r t := by
  obtain ⟨h1, h2, p, v, h3, h4, h5⟩ := h
  refine ⟨h1, by omega, p, v, by rw [hg r h1 h2]; exact h3, h4, h5.imp id fun ⟨r2, g, k1, k2, k3, k4, k5, k6⟩ => ⟨r2, g, k1, k2, by omega, k4, k5, by rw [hg r2 k2 k3]; exact k6⟩⟩
theorem app_T {e by_ : Nat} {v : AV} {s : Str} {H : AHeap} : app e 1 by_ v (T s) H = appendCells e 1 by_ v s.length (s.map U8) H := by
  simp only [app, T, sliceLen, sliceCells, size_T, toList_T]
theorem all_U8 : ∀ s : Str, (s.map U8).all AV.isCell = true
  | [] => rfl
  | b :: s => by rw [List.map_cons, List.all_cons, all_U8 s]; rfl
theorem grT_self {e : Nat} : grT e (e + tagB) 0 = e + tagB := by unfold grT; rw [if_pos ⟨.inr rfl, rfl⟩]
theorem write_sp {b : Nat} {H : AHeap} {r : Nat} {t : Str} (hbn : b ≤ H.next) (hb : H.base ≤ b) (h : BldIs b H r t) {s : Str} (hs : s ≠ []) (hl : t.length + s.length ≤ 1000000) :
    ∃ H', cl 47 [.ref r 0 0, T s] H = some (.tup [I s.length, .s .nilIface], H') ∧ BldIs b H' r (t ++ s) ∧ Step b H H' := by
  obtain ⟨h1, h2, p, v, h3, h4, h5⟩ := h
  have hv : v.isCell = true := by
    rcases h5 with ⟨rfl, _⟩ | ⟨r2, g, rfl, _⟩ <;> rfl
  have hs0 : s.length ≠ 0 := fun e => hs (List.eq_nil_of_length_eq_zero e)
  have c1 : ∃ H1, cl 75 [.ref r 0 0] H = some (.tup [], H1) ∧ H1.get r = .blk 0 84 [.ref r 0 0, v] ∧ (∀ x, x ≠ r → H1.get x = H.get x) ∧ H1.next = H.next ∧ H1.base = H.base := by
    rcases h4 with rfl | rfl
    · refine ⟨H.put r (.blk 0 84 [.ref r 0 0, v]), prim_of (p := copyP 84) (by rfl) ?_, getPut_eq, fun x hx => getPut_ne hx, rfl, rfl⟩
      simp only [copyP, h3]
      rw [if_pos ⟨trivial, by decide, by omega, hv⟩]
    · refine ⟨H, prim_of (p := copyP 84) (by rfl) ?_, h3, fun x _ => rfl, rfl, rfl⟩
      simp only [copyP, h3]
      rw [if_pos ⟨trivial, by decide, by omega, hv⟩]
      simp
  obtain ⟨H1, c1, g1, g2, g3, g4⟩ := c1
  have c2 : ∃ v' H2, app 5 1 1 v (T s) H1 = some (v', H2) ∧ H2.get r = .blk 0 84 [.ref r 0 0, v] ∧ v'.isCell = true ∧ v'.cells = [v'] ∧ H2.base = H1.base ∧ H1.next ≤ H2.next ∧ (∀ x, x < b → H2.get x = H1.get x) ∧
      ∃ r2 g, v' = .sl r2 g 0 1 (t ++ s).length (t ++ s).length false ∧ b ≤ r2 ∧ r2 < H2.next ∧ r2 ≠ r ∧ H2.get r2 = .blk g (5 + tagB) ((t ++ s).map U8) := by
    rcases h5 with ⟨rfl, rfl⟩ | ⟨r2, g, rfl, k2, k3, k4, k5, k6⟩
    · refine ⟨.sl H1.next 0 0 1 s.length s.length false, H1.new (.blk 0 (5 + tagB) (s.map U8)), ?_, by rw [getNew_lt (by omega)]; exact g1, rfl, rfl, rfl, by rw [nNew]; omega, fun x hx => getNew_lt (by omega), H1.next, 0, rfl, by omega, by rw [nNew]; omega, by omega, getNew_eq⟩
      rw [app_T, appendCells, if_pos ⟨by simp, all_U8 s⟩]
      rw [if_neg hs0, if_pos ⟨by unfold most; omega, by unfold most; omega⟩]
    · have k7 : H1.get r2 = .blk g (5 + tagB) (t.map U8) := by rw [g2 r2 k4]; exact k6
      refine ⟨.sl r2 (g + 1) 0 1 (t ++ s).length (t ++ s).length false, H1.put r2 (.blk (g + 1) (5 + tagB) ((t ++ s).map U8)), ?_, by rw [getPut_ne (Ne.symm k4)]; exact g1, rfl, rfl, rfl, Nat.le_refl _, fun x hx => getPut_ne (by omega), r2, g + 1, rfl, k2, by rw [nPut]; omega, k4, getPut_eq⟩
      rw [app_T, appendCells, if_pos ⟨by simp, all_U8 s⟩]
      simp only [k7]
      rw [if_pos ⟨trivial, trivial, by simp⟩, if_neg hs0, if_neg (by omega), if_pos ⟨by unfold most; omega, by unfold most; omega⟩]
      simp only [Bool.false_eq_true, if_false, grT_self, List.drop_zero, Nat.mul_one]
      rw [if_pos (by omega), List.take_of_length_le (by simp), ← List.map_append, List.length_append]
  obtain ⟨v', H2, c2, q1, q2, q3, q4, q5, q6, r2, g, q7, q8, q9, q10, q11⟩ := c2
  have c3 := st_new (n := 1) (off := 1) (v := v') q1 (by omega) (by rw [q3]; simp [q2]) (by rw [q3]; rfl) (by simp)
  rw [q3] at c3
  have e3 : setAt [AV.ref r 0 0, v] 1 [v'] = [.ref r 0 0, v'] := rfl
  rw [e3] at c3
  refine ⟨H2.put r (.blk 0 84 [.ref r 0 0, v']), run_cl rfl rfl (rn_47 _ _ _ _ ?_), ⟨h1, by rw [nPut]; omega, .ref r 0 0, v', getPut_eq, .inr rfl, .inr ⟨r2, g, q7, q8, by rw [nPut]; exact q9, q10, by simp [hs], by rw [getPut_ne q10]; exact q11⟩⟩, ⟨by rw [bPut, q4, g4], by rw [nPut]; omega, fun x hx => by rw [getPut_ne (by omega), q6 x hx, g2 x (by omega)]⟩⟩
  have c4 : ld (.ref r 0 1) H1 = some (v, H1) := by rw [ld_blk g1]; rfl
  simp -implicitDefEqProofs only [Nat.reduceLT, bnd_some, bo_some, condK_true, condK_false, gdA_undef, decide_true, decide_false, Int.reduceLE, Int.reduceLT, Int.reduceEq, Int.reduceNeg, Int.reduceAdd, gd_tt, gd_tf, gd_ft, gd_ff, unG_pure, lift_some, bnd_lift, Option.map_some, Option.bind_some, fieldPtr_ref, fieldPtr_ip, nil_ref, nil_ip, nil_fn, ex_tup, fl_agg, List.getElem?_cons_zero, List.getElem?_cons_succ, Nat.zero_add, Nat.add_zero, Nat.reduceAdd, pk_t, pk_f, lss_int, leq_int, gtr_int, geq_int, eql_int, neq_int, not_bool, beq_self_eq_true, if_true, Bool.false_eq_true, if_false, List.nil_append, List.cons_append, List.append_nil, alc_eq, mkm_eq, nNew, nPut, bNew, bPut, nGrd, bGrd, sh_47, c1, c4, c2, c3, lnT_T]
/-- A builder's text. -/
theorem string_sp {b : Nat} {H : AHeap} {r : Nat} {t : Str} (hb : H.base ≤ b) (h : BldIs b H r t) (hl : t.length ≤ 1000000) : ∃ H', cl 48 [.ref r 0 0] H = some (T t, H') := by
  obtain ⟨h1, h2, p, v, h3, h4, h5⟩ := h
  rcases h5 with ⟨rfl, rfl⟩ | ⟨r2, g, rfl, k2, k3, k4, k5, k6⟩
  · refine ⟨H, prim_of (p := stringP 84 5) (by rfl) ?_⟩
    simp only [stringP, h3, if_true]
  · refine ⟨H.put r2 (.blk (g + 1) 0 []), prim_of (p := stringP 84 5) (by rfl) ?_⟩
    have hb : ∀ t : Str, (t.map U8).mapM byteOf = some t := by
      intro t
      induction t with
      | nil => rfl
      | cons x t ih =>
        rw [List.map_cons, List.mapM_cons, ih]
        have hx : byteOf (U8 x) = some x := by
          have := x.toNat_lt
          simp only [byteOf]
          rw [if_pos ⟨by omega, by omega⟩]
          simp
        rw [hx]; rfl
    simp only [stringP, h3, k6]
    rw [if_pos ⟨trivial, trivial, trivial, fun e => k5 (List.eq_nil_of_length_eq_zero e), by omega, by simp, by omega⟩, List.take_of_length_le (by simp), hb]
/-- Things printed line by line: 'none' where a line, read again, is not its thing. -/
def prT {α : Type} [DecidableEq α] (K : List Str → Option α) (LN : α → Str) : List α → Option Str
  | [] => some []
  | o :: os => if parseTx K (LN o) = some [o] then (prT K LN os).map fun t => LN o ++ (10 :: t) else none
def prA (o : Option Str) : AV := match o with
  | some t => .tup [T t, I 0]
  | none => .tup [T [], I 1]
theorem printPicks_sp (H : AHeap) {x : AV} {ops : List Pck} (hx : SliceIs H x 4 ops.length (ops.flatMap Pck.av)) (hn : ops.length ≤ 1000) (hi : ∀ o ∈ ops, PckIn o) : cl 27 [x] H = some (prA (prT pickTx pickLine ops), H) := by
  refine pure_val rfl rfl (rn_27 _ _ _) ?_ (by
    unfold prA
    split <;> exact frz_tup fun x hx => by
      simp only [List.mem_cons, List.mem_singleton, List.not_mem_nil, or_false] at hx
      rcases hx with rfl | rfl <;> exact frz_s)
  let H0 := H.guard.new (.blk 0 84 [zP, zN])
  have s0 : Step H.next H.guard H0 := Step.new _ (Nat.le_refl _)
  have sx : ∀ {Hi : AHeap}, Step H.next H.guard Hi → SliceIs Hi x 4 ops.length (ops.flatMap Pck.av) := fun {Hi} s => hx.guard.of_get s.next fun r _ hr => s.low r hr
  have key : ∀ k j : Nat, j + k = ops.length → ∀ (acc : Str) (Hi : AHeap), acc.length ≤ 100 * j → BldIs H.next Hi H.next acc → Step H.next H.guard Hi →
      (lp_27x0 cl [.ref H.next 0 0, x, I ops.length, I j] Hi).map Prod.fst = some (prA ((prT pickTx pickLine (ops.drop j)).map (acc ++ ·))) := by
    intro k
    induction k with
    | zero =>
      intro j hj acc Hi ha hb s
      have h1 : ¬ (j : Int) < ops.length := by omega
      have sb : Hi.base = H.next := s.base
      obtain ⟨Hz, e1⟩ := string_sp (by omega) hb (by omega)
      rw [le_27x0, List.drop_eq_nil_of_le (by omega)]
      simp -implicitDefEqProofs only [Nat.reduceLT, bnd_some, bo_some, condK_true, condK_false, gdA_undef, decide_true, decide_false, Int.reduceLE, Int.reduceLT, Int.reduceEq, Int.reduceNeg, Int.reduceAdd, gd_tt, gd_tf, gd_ft, gd_ff, unG_pure, lift_some, bnd_lift, Option.map_some, Option.bind_some, fieldPtr_ref, fieldPtr_ip, nil_ref, nil_ip, nil_fn, ex_tup, fl_agg, List.getElem?_cons_zero, List.getElem?_cons_succ, Nat.zero_add, Nat.add_zero, Nat.reduceAdd, pk_t, pk_f, lss_int, leq_int, gtr_int, geq_int, eql_int, neq_int, not_bool, beq_self_eq_true, if_true, Bool.false_eq_true, if_false, List.nil_append, List.cons_append, List.append_nil, alc_eq, mkm_eq, nNew, nPut, bNew, bPut, nGrd, bGrd, h1, e1, prT, prA]
    | succ k ih =>
      intro j hj acc Hi ha hb s
      have h1 : (j : Int) < ops.length := by omega
      have h6 : (j : Int) + 1 = ((j + 1 : Nat) : Int) := by omega
      have h7 := wrap_i64 (a := ((j + 1 : Nat) : Int)) (by omega) (by omega)
      have s1 := (sx s).ix (k := .i64) (i := (j : Int)) (by omega) h1
      rw [Int.toNat_natCast] at s1
      obtain ⟨o, ho⟩ : ∃ o, ops[j]? = some o := ⟨_, List.getElem?_eq_getElem (by omega)⟩
      have t1 := lda_elem av_len_pck (sx s) ho
      have hdr : ops.drop j = o :: ops.drop (j + 1) := by
        rw [List.drop_eq_getElem_cons (by omega)]
        congr 1
        rw [List.getElem?_eq_getElem (by omega)] at ho
        exact Option.some.inj ho
      have hin : PckIn o := hi o (List.mem_of_getElem? ho)
      have hll := pickLine_len hin
      have sb : Hi.base = H.next := s.base
      have sn : H.next ≤ Hi.next := s.next
      have hbn : Hi.base ≤ Hi.next := by omega
      let H1 := Hi.new (.blk 0 52 o.av)
      have st1 : Step H.next Hi H1 := Step.new _ sn
      have l1 : cl _ [.agg o.av] H1 = _ := (pickLine_sp _ hin.1 hin.2.1 hin.2.2.1 hin.2.2.2)
      have p1 := parsePicks_sp H1 (l := pickLine o) (by omega)
      have b0 : bi .neq 25 (I 0) (I 0) = some (B false) := by kernel_rfl
      have b2 : bi .neq 25 (I 2) (I 0) = some (B true) := by kernel_rfl
      rw [hdr]
      cases hp : parseTx pickTx (pickLine o) with
      | none =>
        rw [hp] at p1
        simp only [readA] at p1
        have e0 : prT pickTx pickLine (o :: ops.drop (j + 1)) = none := by rw [prT, hp, if_neg (by simp)]
        rw [e0, le_27x0]
        simp only [Pck.av, H1] at t1 l1 p1
        simp -implicitDefEqProofs only [Nat.reduceLT, bnd_some, bo_some, condK_true, condK_false, gdA_undef, decide_true, decide_false, Int.reduceLE, Int.reduceLT, Int.reduceEq, Int.reduceNeg, Int.reduceAdd, gd_tt, gd_tf, gd_ft, gd_ff, unG_pure, lift_some, bnd_lift, Option.map_some, Option.bind_some, fieldPtr_ref, fieldPtr_ip, nil_ref, nil_ip, nil_fn, ex_tup, fl_agg, List.getElem?_cons_zero, List.getElem?_cons_succ, Nat.zero_add, Nat.add_zero, Nat.reduceAdd, pk_t, pk_f, lss_int, leq_int, gtr_int, geq_int, eql_int, neq_int, not_bool, beq_self_eq_true, if_true, Bool.false_eq_true, if_false, List.nil_append, List.cons_append, List.append_nil, alc_eq, mkm_eq, nNew, nPut, bNew, bPut, nGrd, bGrd, ldN_is, ldN_lt, ldaN_is, ldaN_lt, stN_is, stN_lt, Nat.lt_add_one, ne_eq, nx1, nx2, nx3, ny1, ny2, ny3, not_false_eq_true, List.length_cons, List.length_nil, Nat.reduceLeDiff, setAt, List.take_succ_cons, List.take_zero, List.drop_succ_cons, List.drop_zero, cells_dat, cells_int, cells_bool, cells_agg, List.all_cons, List.all_nil, isCell_int, isCell_bool, isCell_dat, isCell_ref, isCell_nil, isCell_vsl, cells_vsl, av_len_cfg, av_len_pkt, av_len_opn, av_len_evn, av_len_ent, av_len_row, av_len_deal, av_len_pck, tk_cfg, tk_pkt, tk_opn, tk_evn, tk_ent, tk_row, tk_deal, tk_pck, all_cfg, all_pkt, all_opn, all_evn, all_ent, all_row, all_deal, all_pck, List.drop_nil, Bool.and_true, Bool.and_self, and_self, Nat.le_refl, true_and, and_true, Nat.le_add_right, leS, ltS, h1, s1, t1, hbn, put_new, l1, p1, b2, T_str, Option.map_none, prA]
        try rfl
      | some back =>
        rw [hp] at p1
        simp only [readA] at p1
        let H2 := H1.new (.blk 0 52 o.av)
        have eb : bs 46 1 [(0, .agg o.av)] H1 = some (.sl H1.next 0 0 4 1 1 true, H2) := (bs_46 (n := 1) (by decide)).trans (bsl_one (e := 52) (m := 4) (v := .agg o.av) (H := H1) rfl rfl (all_pck o))
        have hlen := parseTx_len pickTx hp
        have eq1 := equalPicks H2 (l := back) (m := [o]) (by omega) (by simp) (vsl_is av_len_pck H2 back) (by
          have := sl_new (e := 52) (m := 4) (n := 1) (l := o.av) (H := H1) (ex := true) rfl
          simpa using this)
        by_cases hbk : back = [o]
        · have e0 : prT pickTx pickLine (o :: ops.drop (j + 1)) = (prT pickTx pickLine (ops.drop (j + 1))).map fun t => pickLine o ++ (10 :: t) := by rw [prT, hp, if_pos (by rw [hbk])]
          have d1 : decide (back = [o]) = true := decide_eq_true hbk
          have st2 : Step H.next Hi H2 := st1.trans (Step.new _ (by simp only [H1]; rw [nNew]; omega))
          have a1 := add_T (P := Tryd.prog) (t := 9) (a := pickLine o) (b := [10]) (by simp; omega)
          have B2 : BldIs H.next H2 H.next acc := hb.ext st2.next fun y hy hlt => by
            simp only [H2, H1]
            rw [getNew_lt (by rw [nNew]; omega), getNew_lt hlt]
          obtain ⟨H3, w1, w2, w3⟩ := write_sp (s := pickLine o ++ [10]) (by have := st2.next; omega) (by rw [st2.base]; omega) B2 (by simp) (by simp; omega)
          have r1 := ih (j + 1) (by omega) (acc ++ (pickLine o ++ [10])) H3 (by simp; omega) w2 ((s.trans st2).trans w3)
          rw [e0, le_27x0]
          have fin : (prT pickTx pickLine (ops.drop (j + 1))).map ((acc ++ (pickLine o ++ [10])) ++ ·) = ((prT pickTx pickLine (ops.drop (j + 1))).map fun t => pickLine o ++ (10 :: t)).map (acc ++ ·) := by
            cases prT pickTx pickLine (ops.drop (j + 1)) with
            | none => rfl
            | some t => simp [List.append_assoc]
          rw [fin] at r1
          rw [d1] at eq1
          simp only [Pck.av, H1, H2, nNew] at t1 l1 p1 eb eq1 w1
          simp -implicitDefEqProofs only [Nat.reduceLT, bnd_some, bo_some, condK_true, condK_false, gdA_undef, decide_true, decide_false, Int.reduceLE, Int.reduceLT, Int.reduceEq, Int.reduceNeg, Int.reduceAdd, gd_tt, gd_tf, gd_ft, gd_ff, unG_pure, lift_some, bnd_lift, Option.map_some, Option.bind_some, fieldPtr_ref, fieldPtr_ip, nil_ref, nil_ip, nil_fn, ex_tup, fl_agg, List.getElem?_cons_zero, List.getElem?_cons_succ, Nat.zero_add, Nat.add_zero, Nat.reduceAdd, pk_t, pk_f, lss_int, leq_int, gtr_int, geq_int, eql_int, neq_int, not_bool, beq_self_eq_true, if_true, Bool.false_eq_true, if_false, List.nil_append, List.cons_append, List.append_nil, alc_eq, mkm_eq, nNew, nPut, bNew, bPut, nGrd, bGrd, ldN_is, ldN_lt, ldaN_is, ldaN_lt, stN_is, stN_lt, Nat.lt_add_one, ne_eq, nx1, nx2, nx3, ny1, ny2, ny3, not_false_eq_true, List.length_cons, List.length_nil, Nat.reduceLeDiff, setAt, List.take_succ_cons, List.take_zero, List.drop_succ_cons, List.drop_zero, cells_dat, cells_int, cells_bool, cells_agg, List.all_cons, List.all_nil, isCell_int, isCell_bool, isCell_dat, isCell_ref, isCell_nil, isCell_vsl, cells_vsl, av_len_cfg, av_len_pkt, av_len_opn, av_len_evn, av_len_ent, av_len_row, av_len_deal, av_len_pck, tk_cfg, tk_pkt, tk_opn, tk_evn, tk_ent, tk_row, tk_deal, tk_pck, all_cfg, all_pkt, all_opn, all_evn, all_ent, all_row, all_deal, all_pck, List.drop_nil, Bool.and_true, Bool.and_self, and_self, Nat.le_refl, true_and, and_true, Nat.le_add_right, leS, ltS, h1, s1, t1, hbn, put_new, l1, p1, b0, eb, eq1, Bool.not_true, T_str, a1, w1, add_int, h6, h7]
          exact r1
        · have e0 : prT pickTx pickLine (o :: ops.drop (j + 1)) = none := by rw [prT, hp, if_neg (by simp [hbk])]
          have d1 : decide (back = [o]) = false := decide_eq_false hbk
          rw [d1] at eq1
          rw [e0, le_27x0]
          simp only [Pck.av, H1, H2, nNew] at t1 l1 p1 eb eq1
          simp -implicitDefEqProofs only [Nat.reduceLT, bnd_some, bo_some, condK_true, condK_false, gdA_undef, decide_true, decide_false, Int.reduceLE, Int.reduceLT, Int.reduceEq, Int.reduceNeg, Int.reduceAdd, gd_tt, gd_tf, gd_ft, gd_ff, unG_pure, lift_some, bnd_lift, Option.map_some, Option.bind_some, fieldPtr_ref, fieldPtr_ip, nil_ref, nil_ip, nil_fn, ex_tup, fl_agg, List.getElem?_cons_zero, List.getElem?_cons_succ, Nat.zero_add, Nat.add_zero, Nat.reduceAdd, pk_t, pk_f, lss_int, leq_int, gtr_int, geq_int, eql_int, neq_int, not_bool, beq_self_eq_true, if_true, Bool.false_eq_true, if_false, List.nil_append, List.cons_append, List.append_nil, alc_eq, mkm_eq, nNew, nPut, bNew, bPut, nGrd, bGrd, ldN_is, ldN_lt, ldaN_is, ldaN_lt, stN_is, stN_lt, Nat.lt_add_one, ne_eq, nx1, nx2, nx3, ny1, ny2, ny3, not_false_eq_true, List.length_cons, List.length_nil, Nat.reduceLeDiff, setAt, List.take_succ_cons, List.take_zero, List.drop_succ_cons, List.drop_zero, cells_dat, cells_int, cells_bool, cells_agg, List.all_cons, List.all_nil, isCell_int, isCell_bool, isCell_dat, isCell_ref, isCell_nil, isCell_vsl, cells_vsl, av_len_cfg, av_len_pkt, av_len_opn, av_len_evn, av_len_ent, av_len_row, av_len_deal, av_len_pck, tk_cfg, tk_pkt, tk_opn, tk_evn, tk_ent, tk_row, tk_deal, tk_pck, all_cfg, all_pkt, all_opn, all_evn, all_ent, all_row, all_deal, all_pck, List.drop_nil, Bool.and_true, Bool.and_self, and_self, Nat.le_refl, true_and, and_true, Nat.le_add_right, leS, ltS, h1, s1, t1, hbn, put_new, l1, p1, b0, eb, eq1, Bool.not_false, T_str, Option.map_none, prA]
          try rfl
  have r1 := key ops.length 0 (by omega) [] H0 (by simp) ⟨Nat.le_refl _, by simp only [H0]; rw [nNew, nGrd]; omega, zP, zN, by simp only [H0]; exact getNew_is (by rw [nGrd]), .inl rfl, .inl ⟨rfl, rfl⟩⟩ s0
  rw [List.drop_zero] at r1
  have hid : (prT pickTx pickLine ops).map ([] ++ ·) = prT pickTx pickLine ops := by cases prT pickTx pickLine ops <;> rfl
  rw [hid] at r1
  have hln := (sx s0).lnS
  simp only [H0] at hln r1
  simp -implicitDefEqProofs only [Nat.reduceLT, bnd_some, bo_some, condK_true, condK_false, gdA_undef, decide_true, decide_false, Int.reduceLE, Int.reduceLT, Int.reduceEq, Int.reduceNeg, Int.reduceAdd, gd_tt, gd_tf, gd_ft, gd_ff, unG_pure, lift_some, bnd_lift, Option.map_some, Option.bind_some, fieldPtr_ref, fieldPtr_ip, nil_ref, nil_ip, nil_fn, ex_tup, fl_agg, List.getElem?_cons_zero, List.getElem?_cons_succ, Nat.zero_add, Nat.add_zero, Nat.reduceAdd, pk_t, pk_f, lss_int, leq_int, gtr_int, geq_int, eql_int, neq_int, not_bool, beq_self_eq_true, if_true, Bool.false_eq_true, if_false, List.nil_append, List.cons_append, List.append_nil, alc_eq, mkm_eq, nNew, nPut, bNew, bPut, nGrd, bGrd, sh_27, hln]
  exact r1

end Go.Proofs.YtjmldnpdfnklcaaDoor

namespace Go.Proofs.YtjmldnpdfnklcaaDoor



end Go.Proofs.YtjmldnpdfnklcaaDoor

namespace Go.Proofs.YtjmldnpdfnklcaaDoor



end Go.Proofs.YtjmldnpdfnklcaaDoor

namespace Go.Proofs.YtjmldnpdfnklcaaDoor



end Go.Proofs.YtjmldnpdfnklcaaDoor

namespace Go.Proofs.YtjmldnpdfnklcaaDoor



end Go.Proofs.YtjmldnpdfnklcaaDoor

namespace Go.Proofs.YtjmldnpdfnklcaaDoor

def dig (k : Nat) : UInt8 := UInt8.ofNat (48 + k)
theorem within_nat {v : Int} {n : Nat} (h : 0 < n) : ∃ x : Nat, x < n ∧ withinM v n = (x : Int) := by
  have := withinM_rng (v := v) (n := n) (by omega)
  exact ⟨(withinM v n).toNat, by omega, by omega⟩

end Go.Proofs.YtjmldnpdfnklcaaDoor

namespace Go.Proofs.YtjmldnpdfnklcaaDoor

theorem digit22_sp (H : AHeap) {k : Nat} (h : k < 10) : cl 24 [I k] H = some (T [dig k], H) := by
  obtain ⟨z, c1, c2⟩ := digit_cut h
  have ed : ([48, 49, 50, 51, 52, 53, 54, 55, 56, 57] : Str) = digW := rfl
  have hc : slT z none (some (I 1)) = some (T [dig k]) := c2
  refine run_cl rfl rfl (rn_24 _ _ _ ?_)
  simp -implicitDefEqProofs only [Nat.reduceLT, bnd_some, bo_some, condK_true, condK_false, gdA_undef, decide_true, decide_false, Int.reduceLE, Int.reduceLT, Int.reduceEq, Int.reduceNeg, Int.reduceAdd, gd_tt, gd_tf, gd_ft, gd_ff, unG_pure, lift_some, bnd_lift, Option.map_some, Option.bind_some, fieldPtr_ref, fieldPtr_ip, nil_ref, nil_ip, nil_fn, ex_tup, fl_agg, List.getElem?_cons_zero, List.getElem?_cons_succ, Nat.zero_add, Nat.add_zero, Nat.reduceAdd, pk_t, pk_f, lss_int, leq_int, gtr_int, geq_int, eql_int, neq_int, not_bool, beq_self_eq_true, if_true, Bool.false_eq_true, if_false, List.nil_append, List.cons_append, List.append_nil, alc_eq, mkm_eq, nNew, nPut, bNew, bPut, nGrd, bGrd, sh_24, T_str, ed, c1, hc]
def pformD (b m x : Nat) : Str := [dig x] ++ [32] ++ [dig b] ++ [32] ++ [dig m]
def pformTx (b m x : Nat) : Str := [115, 116, 101, 112, 32] ++ [dig x] ++ [10, 10, 32, 103, 105, 118, 101, 32, 32] ++ [dig x] ++ [10, 115, 112, 111, 105, 108, 32] ++ pformD b m x
def pformPk (b m x : Nat) : List Pck := [⟨false, x, 0, 0⟩, ⟨true, x, 0, 0⟩, ⟨true, x, b, m⟩]
def pformOut (b m x : Nat) : Str := [115, 116, 101, 112, 32] ++ [dig x] ++ [10, 103, 105, 118, 101, 32] ++ [dig x] ++ [10, 115, 112, 111, 105, 108, 32] ++ pformD b m x ++ [10]
set_option maxRecDepth 100000 in
theorem pform_parse : ∀ b x : Fin 10, ∀ m : Fin 9, parseTx pickTx (pformTx b.val (m.val + 1) x.val) = some (pformPk b.val (m.val + 1) x.val) := by decide +kernel
set_option maxRecDepth 100000 in
theorem pform_print : ∀ b x : Fin 10, ∀ m : Fin 9, prT pickTx pickLine (pformPk b.val (m.val + 1) x.val) = some (pformOut b.val (m.val + 1) x.val) := by decide +kernel
def noPicks : List Str := [[115, 116, 101, 112], [115, 116, 101, 112, 32, 45, 49], [115, 116, 101, 112, 32, 49, 32, 50], [115, 116, 101, 112, 32, 120], [103, 105, 118, 101], [103, 105, 118, 101, 32, 45, 51], [103, 105, 118, 101, 32, 48, 49], [115, 112, 111, 105, 108, 32, 49], [115, 112, 111, 105, 108, 32, 49, 32, 50], [115, 112, 111, 105, 108, 32, 49, 32, 50, 32, 48], [115, 112, 111, 105, 108, 32, 49, 32, 50, 32, 54, 53, 53, 51, 54], [115, 112, 111, 105, 108, 32, 45, 49, 32, 50, 32, 51], [115, 112, 111, 105, 108, 32, 49, 32, 45, 50, 32, 51], [115, 112, 111, 105, 108, 32, 49, 32, 50, 32, 51, 32, 52], [83, 116, 101, 112, 32, 49], [108, 111, 97, 100, 32, 49], [115, 116, 101, 112, 32, 49, 10, 120]]
set_option maxRecDepth 100000 in
theorem no_pick : ∀ w ∈ noPicks, parseTx pickTx w = none ∧ w.length ≤ 100 := by decide +kernel
def badPicks : List Pck := [⟨false, -1, 0, 0⟩, ⟨true, -1, 0, 0⟩, ⟨false, 1, 2, 0⟩, ⟨false, 1, 0, 2⟩, ⟨true, 0, 1, 0⟩, ⟨true, 0, -1, 3⟩, ⟨false, 1000000000, 0, 0⟩]
set_option maxRecDepth 100000 in
theorem bad_pick : ∀ p ∈ badPicks, prT pickTx pickLine [p] = none := by decide +kernel
theorem bad_in : ∀ p ∈ badPicks, PckIn p := by
  unfold PckIn
  decide +kernel
set_option maxRecDepth 100000 in
theorem sforms_run (n bit mask : Int) : ∃ H', cl 6 [I n, I bit, I mask] AHeap.empty = some (B true, H') := by
  obtain ⟨x, hx, ex⟩ := within_nat (v := n) (n := 10) (by decide)
  obtain ⟨b, hb, eb⟩ := within_nat (v := bit) (n := 10) (by decide)
  obtain ⟨m, hm, em⟩ := within_nat (v := mask) (n := 9) (by decide)
  have k1 := within64 AHeap.empty n 10 (by omega)
  have k2 := within64 AHeap.empty bit 10 (by omega)
  have k3 := within64 AHeap.empty mask 9 (by omega)
  have ex' : withinM n 10 = (x : Int) := ex
  have eb' : withinM bit 10 = (b : Int) := eb
  have em' : withinM mask 9 = (m : Int) := em
  rw [ex'] at k1
  rw [eb'] at k2
  rw [em'] at k3
  have a1 : (1 : Int) + (m : Int) = ((m + 1 : Nat) : Int) := by omega
  have a2 := wrap_i64 (a := ((m + 1 : Nat) : Int)) (by omega) (by omega)
  have d1 := fun H => digit22_sp H hx
  have d2 := fun H => digit22_sp H hb
  have d3 := fun H => digit22_sp H (k := m + 1) (by omega)
  have p1 := parsePicks_sp AHeap.empty (l := pformTx b (m + 1) x) (by simp [pformTx, pformD])
  rw [pform_parse ⟨b, hb⟩ ⟨x, hx⟩ ⟨m, hm⟩] at p1
  simp only [readA] at p1
  have p1' : cl 25 [T (pformTx b (m + 1) x)] AHeap.empty = some (.tup [vsl 4 Pck.av (pformPk b (m + 1) x), I 0], AHeap.empty) := p1
  let H1 := AHeap.empty.new (.blk 0 52 ((pformPk b (m + 1) x).flatMap Pck.av))
  let H2 := H1.new (.blk 0 9 (noPicks.map T))
  let H3 := H2.new (.blk 0 52 (badPicks.flatMap Pck.av))
  have ey1 : SliceIs H1 (.sl AHeap.empty.next 0 0 4 3 3 true) 4 3 ((pformPk b (m + 1) x).flatMap Pck.av) := sl_new (H := AHeap.empty) rfl
  have so := samePicks H1 (l := pformPk b (m + 1) x) (by simp [pformPk]) (vsl_is av_len_pck H1 (pformPk b (m + 1) x)) ey1
  have q0 : bi .eql 25 (I 0) (I 0) = some (B true) := by kernel_rfl
  have q1 : bi .neq 25 (I 0) (I 0) = some (B false) := by kernel_rfl
  have q2 : bi .neq 25 (I 2) (I 2) = some (B false) := by kernel_rfl
  have q3 : bi .neq 25 (I 1) (I 1) = some (B false) := by kernel_rfl
  have ebk : bs 46 3 [(0, .agg [zB, I x, zI, .s (.int .u16 0)]), (1, .agg [B true, I x, zI, .s (.int .u16 0)]), (2, .agg [B true, I x, I b, .s (.int .u16 ((m + 1 : Nat) : Int))])] AHeap.empty = some (.sl AHeap.empty.next 0 0 4 3 3 true, H1) := (bs_46 (n := 3) (by decide)).trans rfl
  have cc : ∀ H, cv 3 50 (I ((m + 1 : Nat) : Int)) H = some (.s (.int .u16 ((m + 1 : Nat) : Int)), H) := fun H => by
    have := cv_int (P := Tryd.prog) (s := 3) (d := 50) (k := .i64) (n := ((m + 1 : Nat) : Int)) (H := H) (by kernel_rfl) Tryd.underlying3 Tryd.underlying50
    refine this.trans ?_
    have hw : IntKind.wrap .u16 ((m + 1 : Nat) : Int) = ((m + 1 : Nat) : Int) := by
      show (((m + 1 : Nat) : Int) % 65536) = _
      omega
    rw [hw]
  have es : SliceIs H2 (.sl H1.next 0 0 1 17 17 true) 1 17 (noPicks.map T) := sl_new (H := H1) rfl
  have es3 : SliceIs H3 (.sl H2.next 0 0 4 7 7 true) 4 badPicks.length (badPicks.flatMap Pck.av) := sl_new (H := H2) rfl
  have e2 := fun H => printPicks_sp H (vsl_is av_len_pck H (pformPk b (m + 1) x)) (by simp [pformPk]) (by
    intro o ho
    simp only [pformPk, List.mem_cons, List.not_mem_nil, or_false] at ho
    rcases ho with rfl | rfl | rfl <;> exact ⟨⟨by simp only; omega, by simp only; omega⟩, ⟨by simp only; omega, by simp only; omega⟩, by simp only; omega, by simp only; omega⟩)
  rw [pform_print ⟨b, hb⟩ ⟨x, hx⟩ ⟨m, hm⟩] at e2
  simp only [prA] at e2
  have e2' : ∀ H, cl 27 [vsl 4 Pck.av (pformPk b (m + 1) x)] H = some (.tup [T (pformOut b (m + 1) x), I 0], H) := e2
  have wk := fun H => wakes22 H
  -- picks that have no line
  have key2 : ∀ k j : Nat, j + k = 7 → ∀ Hi : AHeap, SliceIs Hi (.sl H2.next 0 0 4 7 7 true) 4 badPicks.length (badPicks.flatMap Pck.av) → Hi.base ≤ Hi.next →
      (lp_6x1 cl [I x, T (pformD b (m + 1) x), vsl 4 Pck.av (pformPk b (m + 1) x), .sl H2.next 0 0 4 7 7 true, I 7, I j] Hi).map Prod.fst = some (B true) := by
    intro k
    induction k with
    | zero =>
      intro j hj Hi hs hbn
      have h1 : ¬ (j : Int) < 7 := by omega
      rw [le_6x1]
      simp -implicitDefEqProofs only [Nat.reduceLT, bnd_some, bo_some, condK_true, condK_false, gdA_undef, decide_true, decide_false, Int.reduceLE, Int.reduceLT, Int.reduceEq, Int.reduceNeg, Int.reduceAdd, gd_tt, gd_tf, gd_ft, gd_ff, unG_pure, lift_some, bnd_lift, Option.map_some, Option.bind_some, fieldPtr_ref, fieldPtr_ip, nil_ref, nil_ip, nil_fn, ex_tup, fl_agg, List.getElem?_cons_zero, List.getElem?_cons_succ, Nat.zero_add, Nat.add_zero, Nat.reduceAdd, pk_t, pk_f, lss_int, leq_int, gtr_int, geq_int, eql_int, neq_int, not_bool, beq_self_eq_true, if_true, Bool.false_eq_true, if_false, List.nil_append, List.cons_append, List.append_nil, alc_eq, mkm_eq, nNew, nPut, bNew, bPut, nGrd, bGrd, ldN_is, ldN_lt, ldaN_is, ldaN_lt, stN_is, stN_lt, Nat.lt_add_one, ne_eq, nx1, nx2, nx3, ny1, ny2, ny3, not_false_eq_true, List.length_cons, List.length_nil, Nat.reduceLeDiff, setAt, List.take_succ_cons, List.take_zero, List.drop_succ_cons, List.drop_zero, cells_dat, cells_int, cells_bool, cells_agg, List.all_cons, List.all_nil, isCell_int, isCell_bool, isCell_dat, isCell_ref, isCell_nil, isCell_vsl, cells_vsl, av_len_cfg, av_len_pkt, av_len_opn, av_len_evn, av_len_ent, av_len_row, av_len_deal, av_len_pck, tk_cfg, tk_pkt, tk_opn, tk_evn, tk_ent, tk_row, tk_deal, tk_pck, all_cfg, all_pkt, all_opn, all_evn, all_ent, all_row, all_deal, all_pck, List.drop_nil, Bool.and_true, Bool.and_self, and_self, Nat.le_refl, true_and, and_true, Nat.le_add_right, leS, ltS, h1, e2', q0, d1, T_str, add_T, eql_T, pformOut, pformD, eq_self, wk]
    | succ k ih =>
      intro j hj Hi hs hbn
      have h1 : (j : Int) < 7 := by omega
      have h6 : (j : Int) + 1 = ((j + 1 : Nat) : Int) := by omega
      have h7 := wrap_i64 (a := ((j + 1 : Nat) : Int)) (by omega) (by omega)
      have s1 := hs.ix (k := .i64) (i := (j : Int)) (by omega) h1
      rw [Int.toNat_natCast] at s1
      have hjl : j < badPicks.length := by show j < 7; omega
      obtain ⟨p, ho⟩ : ∃ p, badPicks[j]? = some p := ⟨_, List.getElem?_eq_getElem hjl⟩
      have t1 := lda_elem av_len_pck hs ho
      let Ha := Hi.new (.blk 0 52 p.av)
      let Hb := Ha.new (.blk 0 52 p.av)
      have hp := List.mem_of_getElem? ho
      have ebp : bs 46 1 [(0, .agg p.av)] Ha = some (.sl Ha.next 0 0 4 1 1 true, Hb) := (bs_46 (n := 1) (by decide)).trans (bsl_one (e := 52) (m := 4) (v := .agg p.av) (H := Ha) rfl rfl (all_pck p))
      have pr := printPicks_sp Hb (x := .sl Ha.next 0 0 4 1 1 true) (ops := [p]) (by
        have := sl_new (e := 52) (m := 4) (n := 1) (l := p.av) (H := Ha) (ex := true) rfl
        simpa using this) (by simp) (by intro o ho; rw [List.mem_singleton.1 ho]; exact bad_in p hp)
      rw [bad_pick p hp] at pr
      simp only [prA] at pr
      have r1 := ih (j + 1) (by omega) Hb ((hs.new _).new _) (by simp only [Hb, Ha]; rw [bNew, bNew, nNew, nNew]; omega)
      rw [le_6x1]
      simp only [Pck.av, Ha, Hb, nNew] at t1 ebp pr r1
      simp -implicitDefEqProofs only [Nat.reduceLT, bnd_some, bo_some, condK_true, condK_false, gdA_undef, decide_true, decide_false, Int.reduceLE, Int.reduceLT, Int.reduceEq, Int.reduceNeg, Int.reduceAdd, gd_tt, gd_tf, gd_ft, gd_ff, unG_pure, lift_some, bnd_lift, Option.map_some, Option.bind_some, fieldPtr_ref, fieldPtr_ip, nil_ref, nil_ip, nil_fn, ex_tup, fl_agg, List.getElem?_cons_zero, List.getElem?_cons_succ, Nat.zero_add, Nat.add_zero, Nat.reduceAdd, pk_t, pk_f, lss_int, leq_int, gtr_int, geq_int, eql_int, neq_int, not_bool, beq_self_eq_true, if_true, Bool.false_eq_true, if_false, List.nil_append, List.cons_append, List.append_nil, alc_eq, mkm_eq, nNew, nPut, bNew, bPut, nGrd, bGrd, ldN_is, ldN_lt, ldaN_is, ldaN_lt, stN_is, stN_lt, Nat.lt_add_one, ne_eq, nx1, nx2, nx3, ny1, ny2, ny3, not_false_eq_true, List.length_cons, List.length_nil, Nat.reduceLeDiff, setAt, List.take_succ_cons, List.take_zero, List.drop_succ_cons, List.drop_zero, cells_dat, cells_int, cells_bool, cells_agg, List.all_cons, List.all_nil, isCell_int, isCell_bool, isCell_dat, isCell_ref, isCell_nil, isCell_vsl, cells_vsl, av_len_cfg, av_len_pkt, av_len_opn, av_len_evn, av_len_ent, av_len_row, av_len_deal, av_len_pck, tk_cfg, tk_pkt, tk_opn, tk_evn, tk_ent, tk_row, tk_deal, tk_pck, all_cfg, all_pkt, all_opn, all_evn, all_ent, all_row, all_deal, all_pck, List.drop_nil, Bool.and_true, Bool.and_self, and_self, Nat.le_refl, true_and, and_true, Nat.le_add_right, leS, ltS, h1, s1, t1, hbn, put_new, ebp, pr, q3, T_str, neq_T, eq_self, Bool.not_true, add_int, h6, h7]
      exact r1
  have eb7 : bs 46 7 (badPicks.zipIdx.map fun p => (p.2, .agg p.1.av)) H2 = some (.sl H2.next 0 0 4 7 7 true, H3) := (bs_46 (n := 7) (by decide)).trans rfl
  have ln7 : lnS (.sl H2.next 0 0 4 7 7 true) H3 = some (I 7, H3) := rfl
  have r2 := key2 7 0 rfl H3 es3 (by simp only [H3, H2, H1]; rw [bNew, bNew, bNew]; exact Nat.zero_le _)
  obtain ⟨⟨rv, Hz⟩, r2a, r2b⟩ := Option.map_eq_some_iff.1 r2
  simp only at r2b
  subst r2b
  have r2' : lp_6x1 cl [I x, T (pformD b (m + 1) x), vsl 4 Pck.av (pformPk b (m + 1) x), .sl H2.next 0 0 4 7 7 true, I 7, I 0] H3 = some (B true, Hz) := r2a
  have key : ∀ k j : Nat, j + k = 17 → lp_6x0 cl [I x, T (pformD b (m + 1) x), vsl 4 Pck.av (pformPk b (m + 1) x), .sl H1.next 0 0 1 17 17 true, I 17, I j] H2 = some (B true, Hz) := by
    intro k
    induction k with
    | zero =>
      intro j hj
      have h1 : ¬ (j : Int) < 17 := by omega
      have r2'' := r2'
      have eb7' := eb7
      simp only [badPicks, List.zipIdx, List.map_cons, List.map_nil, H3, List.flatMap_cons, List.flatMap_nil, Pck.av, List.cons_append, List.nil_append, List.append_nil] at eb7' r2'' ln7
      rw [le_6x0]
      simp -implicitDefEqProofs only [Nat.reduceLT, bnd_some, bo_some, condK_true, condK_false, gdA_undef, decide_true, decide_false, Int.reduceLE, Int.reduceLT, Int.reduceEq, Int.reduceNeg, Int.reduceAdd, gd_tt, gd_tf, gd_ft, gd_ff, unG_pure, lift_some, bnd_lift, Option.map_some, Option.bind_some, fieldPtr_ref, fieldPtr_ip, nil_ref, nil_ip, nil_fn, ex_tup, fl_agg, List.getElem?_cons_zero, List.getElem?_cons_succ, Nat.zero_add, Nat.add_zero, Nat.reduceAdd, pk_t, pk_f, lss_int, leq_int, gtr_int, geq_int, eql_int, neq_int, not_bool, beq_self_eq_true, if_true, Bool.false_eq_true, if_false, List.nil_append, List.cons_append, List.append_nil, alc_eq, mkm_eq, nNew, nPut, bNew, bPut, nGrd, bGrd, ldN_is, ldN_lt, ldaN_is, ldaN_lt, stN_is, stN_lt, Nat.lt_add_one, ne_eq, nx1, nx2, nx3, ny1, ny2, ny3, not_false_eq_true, List.length_cons, List.length_nil, Nat.reduceLeDiff, setAt, List.take_succ_cons, List.take_zero, List.drop_succ_cons, List.drop_zero, cells_dat, cells_int, cells_bool, cells_agg, List.all_cons, List.all_nil, isCell_int, isCell_bool, isCell_dat, isCell_ref, isCell_nil, isCell_vsl, cells_vsl, av_len_cfg, av_len_pkt, av_len_opn, av_len_evn, av_len_ent, av_len_row, av_len_deal, av_len_pck, tk_cfg, tk_pkt, tk_opn, tk_evn, tk_ent, tk_row, tk_deal, tk_pck, all_cfg, all_pkt, all_opn, all_evn, all_ent, all_row, all_deal, all_pck, List.drop_nil, Bool.and_true, Bool.and_self, and_self, Nat.le_refl, true_and, and_true, Nat.le_add_right, leS, ltS, h1, bd_52, bldA, fillA, pl_52, cells_u16, isCell_u16, eb7', ln7]
      exact r2''
    | succ k ih =>
      intro j hj
      have h1 : (j : Int) < 17 := by omega
      have h6 : (j : Int) + 1 = ((j + 1 : Nat) : Int) := by omega
      have h7 := wrap_i64 (a := ((j + 1 : Nat) : Int)) (by omega) (by omega)
      have s1 := es.ix (k := .i64) (i := (j : Int)) (by omega) h1
      rw [Int.toNat_natCast] at s1
      have s2 := es.ld (i := j) (by omega)
      have hjl : j < noPicks.length := by show j < 17; omega
      rw [List.getElem?_map, List.getElem?_eq_getElem hjl, Option.map_some, Option.map_some] at s2
      have nf := no_pick _ (List.getElem_mem hjl)
      have p2 := parsePicks_sp H2 (l := noPicks[j]) (by omega)
      rw [nf.1] at p2
      simp only [readA] at p2
      have l0 : lnS zN H2 = some (I 0, H2) := rfl
      have r1 := ih (j + 1) (by omega)
      rw [le_6x0]
      simp -implicitDefEqProofs only [Nat.reduceLT, bnd_some, bo_some, condK_true, condK_false, gdA_undef, decide_true, decide_false, Int.reduceLE, Int.reduceLT, Int.reduceEq, Int.reduceNeg, Int.reduceAdd, gd_tt, gd_tf, gd_ft, gd_ff, unG_pure, lift_some, bnd_lift, Option.map_some, Option.bind_some, fieldPtr_ref, fieldPtr_ip, nil_ref, nil_ip, nil_fn, ex_tup, fl_agg, List.getElem?_cons_zero, List.getElem?_cons_succ, Nat.zero_add, Nat.add_zero, Nat.reduceAdd, pk_t, pk_f, lss_int, leq_int, gtr_int, geq_int, eql_int, neq_int, not_bool, beq_self_eq_true, if_true, Bool.false_eq_true, if_false, List.nil_append, List.cons_append, List.append_nil, alc_eq, mkm_eq, nNew, nPut, bNew, bPut, nGrd, bGrd, h1, s1, s2, p2, q2, l0, eq_self, Bool.not_true, add_int, h6, h7, r1]
  have r1 := key 17 0 rfl
  have es17 : bs 37 17 (noPicks.zipIdx.map fun p => (p.2, T p.1)) H1 = some (.sl H1.next 0 0 1 17 17 true, H2) := (bs_37 (n := 17) (by decide)).trans rfl
  have ln17 : lnS (.sl H1.next 0 0 1 17 17 true) H2 = some (I 17, H2) := rfl
  have r1' : lp_6x0 cl [I x, T (pformD b (m + 1) x), vsl 4 Pck.av (pformPk b (m + 1) x), .sl H1.next 0 0 1 17 17 true, I 17, I 0] H2 = some (B true, Hz) := r1
  refine ⟨Hz, run_cl rfl rfl (rn_6 _ _ _ _ _ ?_)⟩
  simp only [noPicks, List.zipIdx, List.map_cons, List.map_nil, H1, pformPk, List.flatMap_cons, List.flatMap_nil, Pck.av, List.cons_append, List.nil_append, List.append_nil] at es17
  simp only [pformTx, pformD, List.cons_append, List.nil_append] at p1'
  simp only [H1, H2, pformPk, pformD, List.flatMap_cons, List.flatMap_nil, Pck.av, List.cons_append, List.nil_append, List.append_nil] at ebk so ln17 r1' p1'
  simp -implicitDefEqProofs only [Nat.reduceLT, bnd_some, bo_some, condK_true, condK_false, gdA_undef, decide_true, decide_false, Int.reduceLE, Int.reduceLT, Int.reduceEq, Int.reduceNeg, Int.reduceAdd, gd_tt, gd_tf, gd_ft, gd_ff, unG_pure, lift_some, bnd_lift, Option.map_some, Option.bind_some, fieldPtr_ref, fieldPtr_ip, nil_ref, nil_ip, nil_fn, ex_tup, fl_agg, List.getElem?_cons_zero, List.getElem?_cons_succ, Nat.zero_add, Nat.add_zero, Nat.reduceAdd, pk_t, pk_f, lss_int, leq_int, gtr_int, geq_int, eql_int, neq_int, not_bool, beq_self_eq_true, if_true, Bool.false_eq_true, if_false, List.nil_append, List.cons_append, List.append_nil, alc_eq, mkm_eq, nNew, nPut, bNew, bPut, nGrd, bGrd, ldN_is, ldN_lt, ldaN_is, ldaN_lt, stN_is, stN_lt, Nat.lt_add_one, ne_eq, nx1, nx2, nx3, ny1, ny2, ny3, not_false_eq_true, List.length_cons, List.length_nil, Nat.reduceLeDiff, setAt, List.take_succ_cons, List.take_zero, List.drop_succ_cons, List.drop_zero, cells_dat, cells_int, cells_bool, cells_agg, List.all_cons, List.all_nil, isCell_int, isCell_bool, isCell_dat, isCell_ref, isCell_nil, isCell_vsl, cells_vsl, av_len_cfg, av_len_pkt, av_len_opn, av_len_evn, av_len_ent, av_len_row, av_len_deal, av_len_pck, tk_cfg, tk_pkt, tk_opn, tk_evn, tk_ent, tk_row, tk_deal, tk_pck, all_cfg, all_pkt, all_opn, all_evn, all_ent, all_row, all_deal, all_pck, List.drop_nil, Bool.and_true, Bool.and_self, and_self, Nat.le_refl, true_and, and_true, Nat.le_add_right, leS, ltS, sh_6, k1, k2, k3, add_int, a1, a2, T_str, d1, d2, d3, add_T, p1', q1, bd_52, bldA, fillA, pl_52, cc, cells_u16, isCell_u16, ebk, so, Bool.not_true, es17, ln17]
  exact r1'

end Go.Proofs.YtjmldnpdfnklcaaDoor

