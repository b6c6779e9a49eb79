/-
  Own work: an interpreter over named blocks, its soundness, and what the functions of this seat compute (part 6 of 7).
  Conditions: those of the statement alone.
-/
import Derived.Test.YtjmldnpdfnklcaaDoorXe
set_option linter.all false
set_option linter.unusedSectionVars false
set_option linter.unusedVariables false
set_option linter.unusedSimpArgs false
namespace Go.Proofs.YtjmldnpdfnklcaaDoor

theorem rlines_sp (H : AHeap) {l : Str} (h : l.length ≤ 100000) : ∃ y, cl 40 [T l] H = some (y, H) ∧ StrsIs y (linesR l.length l) := by
  have scan : ∀ (l : Str), l.length ≤ 100000 → ∀ (o : AV) (Hi : AHeap) (k j : Nat), j + k = (lineP l).length → lp_40x1 cl [T l, o, I j] Hi = lp_40x1 cl [T l, o, I ((lineP l).length : Nat)] Hi := by
    intro l hll o Hi k
    induction k with
    | zero => intro j hj; rw [show j = (lineP l).length by omega]
    | succ k ih =>
      intro j hj
      have hle := lineP_len l
      have h1 : (j : Int) < (l.length : Int) := by omega
      have h6 : (j : Int) + 1 = ((j + 1 : Nat) : Int) := by omega
      have h7 := wrap_i64 (a := ((j + 1 : Nat) : Int)) (by omega) (by omega)
      obtain ⟨b, hb, hne⟩ := lineP_get (l := l) (j := j) (by omega)
      have i1 : ixT (T l) (I (j : Int)) = some (U8 b) := by rw [ixT_nat, hb]; rfl
      have b2 : decide ((b.toNat : Int) = 10) = false := by rw [byte_is (c := 10) (by decide)]; simp [hne]
      have r1 := ih (j + 1) (by omega)
      rw [← r1, le_40x1]
      simp -implicitDefEqProofs only [bnd_some, bo_some, condK_true, condK_false, gdA_undef, decide_true, decide_false, Int.reduceLE, Int.reduceLT, Int.reduceEq, Int.reduceNeg, Int.reduceAdd, gd_tt, gd_tf, gd_ft, gd_ff, unG_pure, lift_some, bnd_lift, Option.map_some, Option.bind_some, fieldPtr_ref, fieldPtr_ip, nil_ref, nil_ip, nil_fn, ex_tup, fl_agg, List.getElem?_cons_zero, List.getElem?_cons_succ, Nat.zero_add, Nat.add_zero, Nat.reduceAdd, pk_t, pk_f, lss_int, leq_int, gtr_int, geq_int, eql_int, neq_int, not_bool, beq_self_eq_true, if_true, Bool.false_eq_true, if_false, List.nil_append, List.cons_append, List.append_nil, alc_eq, mkm_eq, nNew, nPut, bNew, bPut, nGrd, bGrd, lnT_T, h1, i1, b2, Bool.not_false, add_int, h6, h7]
  have key : ∀ (k : Nat) (l : Str), l.length ≤ k → l.length ≤ 100000 → ∀ (Hi : AHeap) (o : AV) (acc : List Str), acc.length + l.length ≤ 100000 → Own H.next Hi o 1 (acc.map T) → Step H.next H.guard Hi →
      ∃ y Hz, lp_40x0 cl [T l, o] Hi = some (y, Hz) ∧ Own H.next Hz y 1 ((acc ++ linesR k l).map T) := by
    intro k
    induction k with
    | zero =>
      intro l hk hl Hi o acc ha O s
      have h0 : l = [] := List.eq_nil_of_length_eq_zero (by omega)
      subst h0
      refine ⟨o, Hi, ?_, by simpa [linesR] using O⟩
      rw [le_40x0]
      simp -implicitDefEqProofs only [bnd_some, bo_some, condK_true, condK_false, gdA_undef, decide_true, decide_false, Int.reduceLE, Int.reduceLT, Int.reduceEq, Int.reduceNeg, Int.reduceAdd, gd_tt, gd_tf, gd_ft, gd_ff, unG_pure, lift_some, bnd_lift, Option.map_some, Option.bind_some, fieldPtr_ref, fieldPtr_ip, nil_ref, nil_ip, nil_fn, ex_tup, fl_agg, List.getElem?_cons_zero, List.getElem?_cons_succ, Nat.zero_add, Nat.add_zero, Nat.reduceAdd, pk_t, pk_f, lss_int, leq_int, gtr_int, geq_int, eql_int, neq_int, not_bool, beq_self_eq_true, if_true, Bool.false_eq_true, if_false, List.nil_append, List.cons_append, List.append_nil, alc_eq, mkm_eq, nNew, nPut, bNew, bPut, nGrd, bGrd, lnT_T, List.length_nil, Int.natCast_zero, Int.ofNat_zero, Int.lt_irrefl]
    | succ k ih =>
      intro l hk hl Hi o acc ha O s
      have sb : Hi.base = H.next := s.base
      have sn : H.next ≤ Hi.next := s.next
      by_cases h0 : l = []
      · subst h0
        refine ⟨o, Hi, ?_, by simpa [linesR] using O⟩
        rw [le_40x0]
        simp -implicitDefEqProofs only [bnd_some, bo_some, condK_true, condK_false, gdA_undef, decide_true, decide_false, Int.reduceLE, Int.reduceLT, Int.reduceEq, Int.reduceNeg, Int.reduceAdd, gd_tt, gd_tf, gd_ft, gd_ff, unG_pure, lift_some, bnd_lift, Option.map_some, Option.bind_some, fieldPtr_ref, fieldPtr_ip, nil_ref, nil_ip, nil_fn, ex_tup, fl_agg, List.getElem?_cons_zero, List.getElem?_cons_succ, Nat.zero_add, Nat.add_zero, Nat.reduceAdd, pk_t, pk_f, lss_int, leq_int, gtr_int, geq_int, eql_int, neq_int, not_bool, beq_self_eq_true, if_true, Bool.false_eq_true, if_false, List.nil_append, List.cons_append, List.append_nil, alc_eq, mkm_eq, nNew, nPut, bNew, bPut, nGrd, bGrd, lnT_T, List.length_nil, Int.natCast_zero, Int.ofNat_zero, Int.lt_irrefl]
      · have hpos : 0 < l.length := List.length_pos_iff.2 h0
        have h1 : (0 : Int) < (l.length : Int) := by omega
        have hp := lineP_len l
        have sc := scan l hl o Hi (lineP l).length 0 (by omega)
        have sc' : lp_40x1 cl [T l, o, I 0] Hi = lp_40x1 cl [T l, o, I ((lineP l).length : Nat)] Hi := sc
        have c1 : slT (T l) none (some (I ((lineP l).length : Nat))) = some (T (lineP l)) := by
          rw [slT_T (a := 0) (b := (lineP l).length) rfl (by simp [boundA]) (by omega) hp, List.drop_zero, Nat.sub_zero, lineP_take]
        have h6 : ((lineP l).length : Int) + 1 = (((lineP l).length + 1 : Nat) : Int) := by omega
        have h7 := wrap_i64 (a := (((lineP l).length + 1 : Nat) : Int)) (by omega) (by omega)
        have c2 : slT (T l) (some (I (min (((lineP l).length + 1 : Nat) : Int) (l.length : Int)))) none = some (T (l.drop ((lineP l).length + 1))) := by
          rw [show min (((lineP l).length + 1 : Nat) : Int) (l.length : Int) = ((min ((lineP l).length + 1) l.length : Nat) : Int) by omega]
          rw [slT_T (a := min ((lineP l).length + 1) l.length) (b := l.length) (by simp only [boundA]; rw [if_pos (by omega), Int.toNat_natCast]) rfl (by omega) (Nat.le_refl _)]
          congr 2
          rw [List.take_of_length_le (by rw [List.length_drop]; exact Nat.le_refl _)]
          rcases Nat.le_total ((lineP l).length + 1) l.length with h | h
          · rw [Nat.min_eq_left h]
          · rw [Nat.min_eq_right h, List.drop_eq_nil_of_le (Nat.le_refl _), List.drop_eq_nil_of_le h]
        obtain ⟨o', H', t1, t2, t3⟩ := app_str sn (by omega) O (by omega) (lineP l)
        have hd : (l.drop ((lineP l).length + 1)).length ≤ k := by rw [List.length_drop]; omega
        obtain ⟨y, Hz, r1, r2⟩ := ih (l.drop ((lineP l).length + 1)) hd (by rw [List.length_drop]; omega) H' o' (acc ++ [lineP l]) (by rw [List.length_append, List.length_drop, List.length_singleton]; omega) t2 (s.trans t3)
        have hL : linesR (k + 1) l = lineP l :: linesR k (l.drop ((lineP l).length + 1)) := by
          cases l with
          | nil => exact absurd rfl h0
          | cons b l => rfl
        refine ⟨y, Hz, ?_, by rw [hL]; rw [List.append_assoc] at r2; exact r2⟩
        rw [le_40x0]
        simp -implicitDefEqProofs only [bnd_some, bo_some, condK_true, condK_false, gdA_undef, decide_true, decide_false, Int.reduceLE, Int.reduceLT, Int.reduceEq, Int.reduceNeg, Int.reduceAdd, gd_tt, gd_tf, gd_ft, gd_ff, unG_pure, lift_some, bnd_lift, Option.map_some, Option.bind_some, fieldPtr_ref, fieldPtr_ip, nil_ref, nil_ip, nil_fn, ex_tup, fl_agg, List.getElem?_cons_zero, List.getElem?_cons_succ, Nat.zero_add, Nat.add_zero, Nat.reduceAdd, pk_t, pk_f, lss_int, leq_int, gtr_int, geq_int, eql_int, neq_int, not_bool, beq_self_eq_true, if_true, Bool.false_eq_true, if_false, List.nil_append, List.cons_append, List.append_nil, alc_eq, mkm_eq, nNew, nPut, bNew, bPut, nGrd, bGrd, lnT_T, h1]
        rw [sc', le_40x1]
        by_cases hend : (lineP l).length < l.length
        · have h2 : ((lineP l).length : Int) < (l.length : Int) := by omega
          have i1 : ixT (T l) (I ((lineP l).length : Nat)) = some (U8 10) := by rw [ixT_nat, lineP_end hend]; rfl
          have b2 : decide (((10 : UInt8).toNat : Int) = 10) = true := by decide
          simp -implicitDefEqProofs only [bnd_some, bo_some, condK_true, condK_false, gdA_undef, decide_true, decide_false, Int.reduceLE, Int.reduceLT, Int.reduceEq, Int.reduceNeg, Int.reduceAdd, gd_tt, gd_tf, gd_ft, gd_ff, unG_pure, lift_some, bnd_lift, Option.map_some, Option.bind_some, fieldPtr_ref, fieldPtr_ip, nil_ref, nil_ip, nil_fn, ex_tup, fl_agg, List.getElem?_cons_zero, List.getElem?_cons_succ, Nat.zero_add, Nat.add_zero, Nat.reduceAdd, pk_t, pk_f, lss_int, leq_int, gtr_int, geq_int, eql_int, neq_int, not_bool, beq_self_eq_true, if_true, Bool.false_eq_true, if_false, List.nil_append, List.cons_append, List.append_nil, alc_eq, mkm_eq, nNew, nPut, bNew, bPut, nGrd, bGrd, lnT_T, h2, i1, b2, Bool.not_true, c1]
          rw [t1]
          simp -implicitDefEqProofs only [bnd_some, bo_some, condK_true, condK_false, gdA_undef, decide_true, decide_false, Int.reduceLE, Int.reduceLT, Int.reduceEq, Int.reduceNeg, Int.reduceAdd, gd_tt, gd_tf, gd_ft, gd_ff, unG_pure, lift_some, bnd_lift, Option.map_some, Option.bind_some, fieldPtr_ref, fieldPtr_ip, nil_ref, nil_ip, nil_fn, ex_tup, fl_agg, List.getElem?_cons_zero, List.getElem?_cons_succ, Nat.zero_add, Nat.add_zero, Nat.reduceAdd, pk_t, pk_f, lss_int, leq_int, gtr_int, geq_int, eql_int, neq_int, not_bool, beq_self_eq_true, if_true, Bool.false_eq_true, if_false, List.nil_append, List.cons_append, List.append_nil, alc_eq, mkm_eq, nNew, nPut, bNew, bPut, nGrd, bGrd, add_int, h6, h7, lnT_T, min_int, c2, r1]
        · have h2 : ¬ ((lineP l).length : Int) < (l.length : Int) := by omega
          simp -implicitDefEqProofs only [bnd_some, bo_some, condK_true, condK_false, gdA_undef, decide_true, decide_false, Int.reduceLE, Int.reduceLT, Int.reduceEq, Int.reduceNeg, Int.reduceAdd, gd_tt, gd_tf, gd_ft, gd_ff, unG_pure, lift_some, bnd_lift, Option.map_some, Option.bind_some, fieldPtr_ref, fieldPtr_ip, nil_ref, nil_ip, nil_fn, ex_tup, fl_agg, List.getElem?_cons_zero, List.getElem?_cons_succ, Nat.zero_add, Nat.add_zero, Nat.reduceAdd, pk_t, pk_f, lss_int, leq_int, gtr_int, geq_int, eql_int, neq_int, not_bool, beq_self_eq_true, if_true, Bool.false_eq_true, if_false, List.nil_append, List.cons_append, List.append_nil, alc_eq, mkm_eq, nNew, nPut, bNew, bPut, nGrd, bGrd, lnT_T, h2, c1]
          rw [t1]
          simp -implicitDefEqProofs only [bnd_some, bo_some, condK_true, condK_false, gdA_undef, decide_true, decide_false, Int.reduceLE, Int.reduceLT, Int.reduceEq, Int.reduceNeg, Int.reduceAdd, gd_tt, gd_tf, gd_ft, gd_ff, unG_pure, lift_some, bnd_lift, Option.map_some, Option.bind_some, fieldPtr_ref, fieldPtr_ip, nil_ref, nil_ip, nil_fn, ex_tup, fl_agg, List.getElem?_cons_zero, List.getElem?_cons_succ, Nat.zero_add, Nat.add_zero, Nat.reduceAdd, pk_t, pk_f, lss_int, leq_int, gtr_int, geq_int, eql_int, neq_int, not_bool, beq_self_eq_true, if_true, Bool.false_eq_true, if_false, List.nil_append, List.cons_append, List.append_nil, alc_eq, mkm_eq, nNew, nPut, bNew, bPut, nGrd, bGrd, add_int, h6, h7, lnT_T, min_int, c2, r1]
  obtain ⟨y, Hz, r1, r2⟩ := key l.length l (Nat.le_refl _) h H.guard zN [] (by simpa using h) (.inl ⟨rfl, rfl⟩) (Step.refl _ _)
  rw [List.nil_append] at r2
  obtain ⟨z, f1, f2⟩ := freeze_ownAny (d := 8) (k := (linesR l.length l).length) r2 (by decide) (by simp) (fun y hy => by
    obtain ⟨w, _, rfl⟩ := List.mem_map.1 hy
    exact frz_T)
  refine ⟨z, pure_cl rfl rfl (rn_40 _ _ _ (r := (y, Hz)) ?_) f1, fun H => f2 H⟩
  simp -implicitDefEqProofs only [bnd_some, bo_some, condK_true, condK_false, gdA_undef, decide_true, decide_false, Int.reduceLE, Int.reduceLT, Int.reduceEq, Int.reduceNeg, Int.reduceAdd, gd_tt, gd_tf, gd_ft, gd_ff, unG_pure, lift_some, bnd_lift, Option.map_some, Option.bind_some, fieldPtr_ref, fieldPtr_ip, nil_ref, nil_ip, nil_fn, ex_tup, fl_agg, List.getElem?_cons_zero, List.getElem?_cons_succ, Nat.zero_add, Nat.add_zero, Nat.reduceAdd, pk_t, pk_f, lss_int, leq_int, gtr_int, geq_int, eql_int, neq_int, not_bool, beq_self_eq_true, if_true, Bool.false_eq_true, if_false, List.nil_append, List.cons_append, List.append_nil, alc_eq, mkm_eq, nNew, nPut, bNew, bPut, nGrd, bGrd, sh_40, zN_T, r1]
theorem wrap_u8 {a : Int} (h1 : 0 ≤ a) (h2 : a < 256) : IntKind.wrap .u8 a = a := by
  have : ∀ n : Fin 256, IntKind.wrap .u8 (n.val : Int) = (n.val : Int) := by decide +kernel
  obtain ⟨n, rfl⟩ : ∃ n : Nat, a = n := ⟨a.toNat, by omega⟩
  exact this ⟨n, by omega⟩
theorem rnumber_sp (H : AHeap) {l : Str} (h : l.length ≤ 1000000) : cl 20 [T l] H = some (optI (numTx l), H) := by
  refine pure_val rfl rfl (rn_20 _ _ _) ?_ (frz_optI _)
  have hm : (magTx l).length ≤ 1000000 := Nat.le_trans (mag_len l) h
  let neg : Bool := decide (l.head? = some 45)
  -- behind the sign
  have main : (jn_20x0 cl (T (magTx l)) (B neg) H.guard).map Prod.fst = some (optI (numTx l)) := by
    by_cases c1 : magTx l = []
    · have hn : numTx l = none := by unfold numTx; rw [if_pos (.inl c1)]
      rw [hn, c1]
      simp -implicitDefEqProofs only [bnd_some, bo_some, condK_true, condK_false, gdA_undef, decide_true, decide_false, Int.reduceLE, Int.reduceLT, Int.reduceEq, Int.reduceNeg, Int.reduceAdd, gd_tt, gd_tf, gd_ft, gd_ff, unG_pure, lift_some, bnd_lift, Option.map_some, Option.bind_some, fieldPtr_ref, fieldPtr_ip, nil_ref, nil_ip, nil_fn, ex_tup, fl_agg, List.getElem?_cons_zero, List.getElem?_cons_succ, Nat.zero_add, Nat.add_zero, Nat.reduceAdd, pk_t, pk_f, lss_int, leq_int, gtr_int, geq_int, eql_int, neq_int, not_bool, beq_self_eq_true, if_true, Bool.false_eq_true, if_false, List.nil_append, List.cons_append, List.append_nil, alc_eq, mkm_eq, nNew, nPut, bNew, bPut, nGrd, bGrd, jn_20x0, lnT_T, List.length_nil, Int.natCast_zero, Int.ofNat_zero, optI]
      rfl
    obtain ⟨c, r, hcr⟩ := head_ix c1
    have g1 : ¬ (((magTx l).length : Int) < 1) := by
      have := List.length_pos_iff.2 c1
      omega
    by_cases c2 : 9 < (magTx l).length
    · have hn : numTx l = none := by unfold numTx; rw [if_pos (.inr (.inl c2))]
      have c2' : (9 : Int) < ((magTx l).length : Nat) := by omega
      rw [hn]
      simp -implicitDefEqProofs only [bnd_some, bo_some, condK_true, condK_false, gdA_undef, decide_true, decide_false, Int.reduceLE, Int.reduceLT, Int.reduceEq, Int.reduceNeg, Int.reduceAdd, gd_tt, gd_tf, gd_ft, gd_ff, unG_pure, lift_some, bnd_lift, Option.map_some, Option.bind_some, fieldPtr_ref, fieldPtr_ip, nil_ref, nil_ip, nil_fn, ex_tup, fl_agg, List.getElem?_cons_zero, List.getElem?_cons_succ, Nat.zero_add, Nat.add_zero, Nat.reduceAdd, pk_t, pk_f, lss_int, leq_int, gtr_int, geq_int, eql_int, neq_int, not_bool, beq_self_eq_true, if_true, Bool.false_eq_true, if_false, List.nil_append, List.cons_append, List.append_nil, alc_eq, mkm_eq, nNew, nPut, bNew, bPut, nGrd, bGrd, jn_20x0, lnT_T, g1, c2', optI]
      rfl
    have c2' : ¬ (9 : Int) < ((magTx l).length : Nat) := by omega
    have i1 : ixT (T (magTx l)) (I 0) = some (U8 c) := by rw [hcr, ixT_T (by omega)]; rfl
    have bc := byte_is (b := c) (c := 48) (n := 48) (by decide)
    -- the digits
    have dig : ∀ k j : Nat, j + k = (magTx l).length → ∀ acc : Nat, acc < 10 ^ j → ((magTx l).take j).all isDig = true → magN 0 ((magTx l).take j) = acc → ((numTx l = none) ↔ (magTx l).all isDig = false) → (numTx l ≠ none → numTx l = some (if l.head? = some 45 then -(magN 0 (magTx l) : Int) else (magN 0 (magTx l) : Int))) →
        (lp_20x0 cl [T (magTx l), B neg, I acc, I j] H.guard).map Prod.fst = some (optI (numTx l)) := by
      intro k
      induction k with
      | zero =>
        intro j hj acc ha hd hv hnone hsome
        have h1 : ¬ (j : Int) < ((magTx l).length : Int) := by omega
        rw [List.take_of_length_le (by omega)] at hd hv
        have hne : numTx l ≠ none := fun e => by rw [hnone.1 e] at hd; cases hd
        have hlt : acc < 10 ^ 9 := Nat.lt_of_lt_of_le ha (Nat.pow_le_pow_right (by decide) (by omega))
        have u := neg_int (P := Tryd.prog) (k := .i64) (a := (acc : Int))
        rw [Int.zero_sub, wrap_i64 (by omega) (by omega)] at u
        have u' : un .neg (I (acc : Int)) = some (I (-(acc : Int))) := u
        rw [hsome hne, hv]
        rw [le_20x0]
        by_cases hh : l.head? = some 45
        · have hneg : neg = true := by simp [neg, hh]
          rw [if_pos hh]
          simp -implicitDefEqProofs only [bnd_some, bo_some, condK_true, condK_false, gdA_undef, decide_true, decide_false, Int.reduceLE, Int.reduceLT, Int.reduceEq, Int.reduceNeg, Int.reduceAdd, gd_tt, gd_tf, gd_ft, gd_ff, unG_pure, lift_some, bnd_lift, Option.map_some, Option.bind_some, fieldPtr_ref, fieldPtr_ip, nil_ref, nil_ip, nil_fn, ex_tup, fl_agg, List.getElem?_cons_zero, List.getElem?_cons_succ, Nat.zero_add, Nat.add_zero, Nat.reduceAdd, pk_t, pk_f, lss_int, leq_int, gtr_int, geq_int, eql_int, neq_int, not_bool, beq_self_eq_true, if_true, Bool.false_eq_true, if_false, List.nil_append, List.cons_append, List.append_nil, alc_eq, mkm_eq, nNew, nPut, bNew, bPut, nGrd, bGrd, lnT_T, h1, hneg, u', jn_20x1, optI]
          rfl
        · have hneg : neg = false := by simp [neg, hh]
          rw [if_neg hh]
          simp -implicitDefEqProofs only [bnd_some, bo_some, condK_true, condK_false, gdA_undef, decide_true, decide_false, Int.reduceLE, Int.reduceLT, Int.reduceEq, Int.reduceNeg, Int.reduceAdd, gd_tt, gd_tf, gd_ft, gd_ff, unG_pure, lift_some, bnd_lift, Option.map_some, Option.bind_some, fieldPtr_ref, fieldPtr_ip, nil_ref, nil_ip, nil_fn, ex_tup, fl_agg, List.getElem?_cons_zero, List.getElem?_cons_succ, Nat.zero_add, Nat.add_zero, Nat.reduceAdd, pk_t, pk_f, lss_int, leq_int, gtr_int, geq_int, eql_int, neq_int, not_bool, beq_self_eq_true, if_true, Bool.false_eq_true, if_false, List.nil_append, List.cons_append, List.append_nil, alc_eq, mkm_eq, nNew, nPut, bNew, bPut, nGrd, bGrd, lnT_T, h1, hneg, jn_20x1, optI]
          rfl
      | succ k ih =>
        intro j hj acc ha hd hv hnone hsome
        have h1 : (j : Int) < ((magTx l).length : Int) := by omega
        have hl : j < (magTx l).length := by omega
        have h6 : (j : Int) + 1 = ((j + 1 : Nat) : Int) := by omega
        have h7 := wrap_i64 (a := ((j + 1 : Nat) : Int)) (by omega) (by omega)
        have i2 : ixT (T (magTx l)) (I (j : Int)) = some (U8 (magTx l)[j]) := by rw [ixT_nat, List.getElem?_eq_getElem hl]; rfl
        have ht : (magTx l).take (j + 1) = (magTx l).take j ++ [(magTx l)[j]] := by rw [List.take_add_one, List.getElem?_eq_getElem hl]; rfl
        rw [le_20x0]
        cases hdg : isDig (magTx l)[j] with
        | false =>
          have hall : (magTx l).all isDig = false := by
            rw [List.all_eq_false]
            exact ⟨_, List.getElem_mem hl, by simp [hdg]⟩
          rw [hnone.2 hall]
          by_cases hlo : (((magTx l)[j].toNat : Int) < 48)
          · simp -implicitDefEqProofs only [bnd_some, bo_some, condK_true, condK_false, gdA_undef, decide_true, decide_false, Int.reduceLE, Int.reduceLT, Int.reduceEq, Int.reduceNeg, Int.reduceAdd, gd_tt, gd_tf, gd_ft, gd_ff, unG_pure, lift_some, bnd_lift, Option.map_some, Option.bind_some, fieldPtr_ref, fieldPtr_ip, nil_ref, nil_ip, nil_fn, ex_tup, fl_agg, List.getElem?_cons_zero, List.getElem?_cons_succ, Nat.zero_add, Nat.add_zero, Nat.reduceAdd, pk_t, pk_f, lss_int, leq_int, gtr_int, geq_int, eql_int, neq_int, not_bool, beq_self_eq_true, if_true, Bool.false_eq_true, if_false, List.nil_append, List.cons_append, List.append_nil, alc_eq, mkm_eq, nNew, nPut, bNew, bPut, nGrd, bGrd, lnT_T, h1, i2, hlo, optI]
            rfl
          · have hhi : (57 : Int) < ((magTx l)[j].toNat : Int) := by
              simp only [isDig, Bool.and_eq_false_iff, decide_eq_false_iff_not] at hdg
              omega
            simp -implicitDefEqProofs only [bnd_some, bo_some, condK_true, condK_false, gdA_undef, decide_true, decide_false, Int.reduceLE, Int.reduceLT, Int.reduceEq, Int.reduceNeg, Int.reduceAdd, gd_tt, gd_tf, gd_ft, gd_ff, unG_pure, lift_some, bnd_lift, Option.map_some, Option.bind_some, fieldPtr_ref, fieldPtr_ip, nil_ref, nil_ip, nil_fn, ex_tup, fl_agg, List.getElem?_cons_zero, List.getElem?_cons_succ, Nat.zero_add, Nat.add_zero, Nat.reduceAdd, pk_t, pk_f, lss_int, leq_int, gtr_int, geq_int, eql_int, neq_int, not_bool, beq_self_eq_true, if_true, Bool.false_eq_true, if_false, List.nil_append, List.cons_append, List.append_nil, alc_eq, mkm_eq, nNew, nPut, bNew, bPut, nGrd, bGrd, lnT_T, h1, i2, hlo, hhi, optI]
            rfl
        | true =>
          have hr := dig_rng hdg
          have hlo : ¬ (((magTx l)[j].toNat : Int) < 48) := by omega
          have hhi : ¬ ((57 : Int) < ((magTx l)[j].toNat : Int)) := by omega
          have hlt : acc < 10 ^ 9 := Nat.lt_of_lt_of_le ha (Nat.pow_le_pow_right (by decide) (by omega))
          have m1 : (10 : Int) * (acc : Int) = ((10 * acc : Nat) : Int) := by omega
          have m2 := wrap_i64 (a := ((10 * acc : Nat) : Int)) (by omega) (by omega)
          have s1 : ((magTx l)[j].toNat : Int) - 48 = (((magTx l)[j].toNat - 48 : Nat) : Int) := by omega
          have s2 := wrap_u8 (a := (((magTx l)[j].toNat - 48 : Nat) : Int)) (by omega) (by omega)
          have cc : cv 5 3 (.s (.int .u8 (((magTx l)[j].toNat - 48 : Nat) : Int))) H.guard = some (I (((magTx l)[j].toNat - 48 : Nat) : Int), H.guard) := by
            have := cv_int (P := Tryd.prog) (s := 5) (d := 3) (k := .u8) (n := (((magTx l)[j].toNat - 48 : Nat) : Int)) (H := H.guard) (by kernel_rfl) Tryd.underlying5 Tryd.underlying3
            rw [wrap_i64 (by omega) (by omega)] at this
            exact this
          have a1 : ((10 * acc : Nat) : Int) + (((magTx l)[j].toNat - 48 : Nat) : Int) = ((10 * acc + ((magTx l)[j].toNat - 48) : Nat) : Int) := by omega
          have a2 := wrap_i64 (a := ((10 * acc + ((magTx l)[j].toNat - 48) : Nat) : Int)) (by omega) (by omega)
          have r1 := ih (j + 1) (by omega) (10 * acc + ((magTx l)[j].toNat - 48)) (by rw [Nat.pow_succ]; omega) (by rw [ht, List.all_append, hd]; simp [hdg]) (by rw [ht, magN_snoc, hv]) hnone hsome
          simp -implicitDefEqProofs only [bnd_some, bo_some, condK_true, condK_false, gdA_undef, decide_true, decide_false, Int.reduceLE, Int.reduceLT, Int.reduceEq, Int.reduceNeg, Int.reduceAdd, gd_tt, gd_tf, gd_ft, gd_ff, unG_pure, lift_some, bnd_lift, Option.map_some, Option.bind_some, fieldPtr_ref, fieldPtr_ip, nil_ref, nil_ip, nil_fn, ex_tup, fl_agg, List.getElem?_cons_zero, List.getElem?_cons_succ, Nat.zero_add, Nat.add_zero, Nat.reduceAdd, pk_t, pk_f, lss_int, leq_int, gtr_int, geq_int, eql_int, neq_int, not_bool, beq_self_eq_true, if_true, Bool.false_eq_true, if_false, List.nil_append, List.cons_append, List.append_nil, alc_eq, mkm_eq, nNew, nPut, bNew, bPut, nGrd, bGrd, lnT_T, h1, i2, hlo, hhi, mul_int, m1, m2, sub_int, s1, s2, cc, add_int, a1, a2, h6, h7]
          exact r1
    by_cases c4 : c = 48
    · have b2 : decide ((c.toNat : Int) = 48) = true := by rw [bc]; simp [c4]
      by_cases c5 : l = [48]
      · have hn : numTx l = some 0 := by subst c5; rfl
        have hd := dig 1 0 (by subst c5; rfl) 0 (by decide) rfl rfl (by subst c5; decide +kernel) (by subst c5; intro _; decide +kernel)
        have hneg : neg = false := by simp only [neg]; subst c5; decide
        have g3 : ¬ ((1 : Int) < ((magTx l).length : Nat)) := by subst c5; decide
        rw [hneg] at hd ⊢
        have hd' : (lp_20x0 cl [T (magTx l), B false, I 0, I 0] H.guard).map Prod.fst = some (optI (numTx l)) := hd
        simp -implicitDefEqProofs only [bnd_some, bo_some, condK_true, condK_false, gdA_undef, decide_true, decide_false, Int.reduceLE, Int.reduceLT, Int.reduceEq, Int.reduceNeg, Int.reduceAdd, gd_tt, gd_tf, gd_ft, gd_ff, unG_pure, lift_some, bnd_lift, Option.map_some, Option.bind_some, fieldPtr_ref, fieldPtr_ip, nil_ref, nil_ip, nil_fn, ex_tup, fl_agg, List.getElem?_cons_zero, List.getElem?_cons_succ, Nat.zero_add, Nat.add_zero, Nat.reduceAdd, pk_t, pk_f, lss_int, leq_int, gtr_int, geq_int, eql_int, neq_int, not_bool, beq_self_eq_true, if_true, Bool.false_eq_true, if_false, List.nil_append, List.cons_append, List.append_nil, alc_eq, mkm_eq, nNew, nPut, bNew, bPut, nGrd, bGrd, jn_20x0, lnT_T, g1, c2', i1, b2, g3]
        exact hd'
      · have hn : numTx l = none := by unfold numTx; rw [if_pos (.inr (.inr (.inr ⟨by rw [hcr, c4]; rfl, c5⟩)))]
        rw [hn]
        by_cases g3 : (1 : Int) < ((magTx l).length : Nat)
        · simp -implicitDefEqProofs only [bnd_some, bo_some, condK_true, condK_false, gdA_undef, decide_true, decide_false, Int.reduceLE, Int.reduceLT, Int.reduceEq, Int.reduceNeg, Int.reduceAdd, gd_tt, gd_tf, gd_ft, gd_ff, unG_pure, lift_some, bnd_lift, Option.map_some, Option.bind_some, fieldPtr_ref, fieldPtr_ip, nil_ref, nil_ip, nil_fn, ex_tup, fl_agg, List.getElem?_cons_zero, List.getElem?_cons_succ, Nat.zero_add, Nat.add_zero, Nat.reduceAdd, pk_t, pk_f, lss_int, leq_int, gtr_int, geq_int, eql_int, neq_int, not_bool, beq_self_eq_true, if_true, Bool.false_eq_true, if_false, List.nil_append, List.cons_append, List.append_nil, alc_eq, mkm_eq, nNew, nPut, bNew, bPut, nGrd, bGrd, jn_20x0, lnT_T, g1, c2', i1, b2, g3, optI]
          rfl
        · have hneg : neg = true := by
            simp only [neg]
            by_cases hh : l.head? = some 45
            · simp [hh]
            · have e : magTx l = l := by unfold magTx; rw [if_neg hh]
              exfalso
              apply c5
              rw [e] at hcr g3
              rw [hcr] at g3 ⊢
              have : r = [] := List.eq_nil_of_length_eq_zero (by simp at g3; omega)
              rw [this, c4]
          rw [hneg]
          simp -implicitDefEqProofs only [bnd_some, bo_some, condK_true, condK_false, gdA_undef, decide_true, decide_false, Int.reduceLE, Int.reduceLT, Int.reduceEq, Int.reduceNeg, Int.reduceAdd, gd_tt, gd_tf, gd_ft, gd_ff, unG_pure, lift_some, bnd_lift, Option.map_some, Option.bind_some, fieldPtr_ref, fieldPtr_ip, nil_ref, nil_ip, nil_fn, ex_tup, fl_agg, List.getElem?_cons_zero, List.getElem?_cons_succ, Nat.zero_add, Nat.add_zero, Nat.reduceAdd, pk_t, pk_f, lss_int, leq_int, gtr_int, geq_int, eql_int, neq_int, not_bool, beq_self_eq_true, if_true, Bool.false_eq_true, if_false, List.nil_append, List.cons_append, List.append_nil, alc_eq, mkm_eq, nNew, nPut, bNew, bPut, nGrd, bGrd, jn_20x0, lnT_T, g1, c2', i1, b2, g3, optI]
          rfl
    · have b2 : decide ((c.toNat : Int) = 48) = false := by rw [bc]; simp [c4]
      have ex : numTx l = if (magTx l).all isDig = false then none else some (if l.head? = some 45 then -numMagTx (magTx l) else numMagTx (magTx l)) := by
        unfold numTx
        by_cases hall : (magTx l).all isDig = false
        · rw [if_pos hall, if_pos (.inr (.inr (.inl hall)))]
        · rw [if_neg hall, if_neg]
          rintro (e | e | e | ⟨e, _⟩)
          · exact c1 e
          · exact c2 e
          · exact hall e
          · rw [hcr] at e; exact c4 (by simpa using e)
      have hd := dig (magTx l).length 0 (by omega) 0 (by decide) rfl rfl (by
        rw [ex]
        split
        · rename_i e; exact ⟨fun _ => e, fun _ => rfl⟩
        · rename_i e; exact ⟨fun h => (by cases h), fun h => absurd h e⟩) (by
        rw [ex]
        intro hne
        split
        · rename_i e; rw [if_pos e] at hne; exact absurd rfl hne
        · rename_i e
          have e2 : (magTx l).all isDig = true := by
            cases e3 : (magTx l).all isDig with
            | true => rfl
            | false => exact absurd e3 e
          rw [numMag_N e2])
      have hd' : (lp_20x0 cl [T (magTx l), B neg, I 0, I 0] H.guard).map Prod.fst = some (optI (numTx l)) := hd
      simp -implicitDefEqProofs only [bnd_some, bo_some, condK_true, condK_false, gdA_undef, decide_true, decide_false, Int.reduceLE, Int.reduceLT, Int.reduceEq, Int.reduceNeg, Int.reduceAdd, gd_tt, gd_tf, gd_ft, gd_ff, unG_pure, lift_some, bnd_lift, Option.map_some, Option.bind_some, fieldPtr_ref, fieldPtr_ip, nil_ref, nil_ip, nil_fn, ex_tup, fl_agg, List.getElem?_cons_zero, List.getElem?_cons_succ, Nat.zero_add, Nat.add_zero, Nat.reduceAdd, pk_t, pk_f, lss_int, leq_int, gtr_int, geq_int, eql_int, neq_int, not_bool, beq_self_eq_true, if_true, Bool.false_eq_true, if_false, List.nil_append, List.cons_append, List.append_nil, alc_eq, mkm_eq, nNew, nPut, bNew, bPut, nGrd, bGrd, jn_20x0, lnT_T, g1, c2', i1, b2]
      exact hd'
  -- the sign
  cases l with
  | nil =>
    have hneg : neg = false := rfl
    rw [hneg] at main
    have e : magTx [] = [] := rfl
    rw [e] at main
    simp -implicitDefEqProofs only [bnd_some, bo_some, condK_true, condK_false, gdA_undef, decide_true, decide_false, Int.reduceLE, Int.reduceLT, Int.reduceEq, Int.reduceNeg, Int.reduceAdd, gd_tt, gd_tf, gd_ft, gd_ff, unG_pure, lift_some, bnd_lift, Option.map_some, Option.bind_some, fieldPtr_ref, fieldPtr_ip, nil_ref, nil_ip, nil_fn, ex_tup, fl_agg, List.getElem?_cons_zero, List.getElem?_cons_succ, Nat.zero_add, Nat.add_zero, Nat.reduceAdd, pk_t, pk_f, lss_int, leq_int, gtr_int, geq_int, eql_int, neq_int, not_bool, beq_self_eq_true, if_true, Bool.false_eq_true, if_false, List.nil_append, List.cons_append, List.append_nil, alc_eq, mkm_eq, nNew, nPut, bNew, bPut, nGrd, bGrd, sh_20, lnT_T, List.length_nil, Int.natCast_zero, Int.ofNat_zero, Int.lt_irrefl]
    exact main
  | cons c r =>
    have h1 : (0 : Int) < (((c :: r).length : Nat) : Int) := by simp only [List.length_cons]; omega
    have i1 : ixT (T (c :: r)) (I 0) = some (U8 c) := by rw [ixT_T (by omega)]; rfl
    have bc := byte_is (b := c) (c := 45) (n := 45) (by decide)
    by_cases hc : c = 45
    · have b2 : decide ((c.toNat : Int) = 45) = true := by rw [bc]; simp [hc]
      have hneg : neg = true := by simp [neg, hc]
      have e : magTx (c :: r) = r := by rw [hc]; exact magTx_minus r
      rw [hneg, e] at main
      have s1 : slT (T (c :: r)) (some (I 1)) none = some (T r) := by
        rw [slT_T (a := 1) (b := (c :: r).length) (by rfl) rfl (by simp) (Nat.le_refl _)]
        simp
      simp -implicitDefEqProofs only [bnd_some, bo_some, condK_true, condK_false, gdA_undef, decide_true, decide_false, Int.reduceLE, Int.reduceLT, Int.reduceEq, Int.reduceNeg, Int.reduceAdd, gd_tt, gd_tf, gd_ft, gd_ff, unG_pure, lift_some, bnd_lift, Option.map_some, Option.bind_some, fieldPtr_ref, fieldPtr_ip, nil_ref, nil_ip, nil_fn, ex_tup, fl_agg, List.getElem?_cons_zero, List.getElem?_cons_succ, Nat.zero_add, Nat.add_zero, Nat.reduceAdd, pk_t, pk_f, lss_int, leq_int, gtr_int, geq_int, eql_int, neq_int, not_bool, beq_self_eq_true, if_true, Bool.false_eq_true, if_false, List.nil_append, List.cons_append, List.append_nil, alc_eq, mkm_eq, nNew, nPut, bNew, bPut, nGrd, bGrd, sh_20, lnT_T, h1, i1, b2, s1]
      exact main
    · have b2 : decide ((c.toNat : Int) = 45) = false := by rw [bc]; simp [hc]
      have hneg : neg = false := by simp [neg, hc]
      have e : magTx (c :: r) = c :: r := by unfold magTx; rw [if_neg (by simpa using hc)]
      rw [hneg, e] at main
      simp -implicitDefEqProofs only [bnd_some, bo_some, condK_true, condK_false, gdA_undef, decide_true, decide_false, Int.reduceLE, Int.reduceLT, Int.reduceEq, Int.reduceNeg, Int.reduceAdd, gd_tt, gd_tf, gd_ft, gd_ff, unG_pure, lift_some, bnd_lift, Option.map_some, Option.bind_some, fieldPtr_ref, fieldPtr_ip, nil_ref, nil_ip, nil_fn, ex_tup, fl_agg, List.getElem?_cons_zero, List.getElem?_cons_succ, Nat.zero_add, Nat.add_zero, Nat.reduceAdd, pk_t, pk_f, lss_int, leq_int, gtr_int, geq_int, eql_int, neq_int, not_bool, beq_self_eq_true, if_true, Bool.false_eq_true, if_false, List.nil_append, List.cons_append, List.append_nil, alc_eq, mkm_eq, nNew, nPut, bNew, bPut, nGrd, bGrd, sh_20, lnT_T, h1, i1, b2]
      exact main

end Go.Proofs.YtjmldnpdfnklcaaDoor

namespace Go.Proofs.YtjmldnpdfnklcaaDoor

theorem StrsIs.tail {y : AV} {w : Str} {rest : List Str} (h : StrsIs y (w :: rest)) : ∃ z, slS 1 y (some (I 1)) none none = some z ∧ StrsIs z rest := by
  obtain ⟨z, h1, h2⟩ := (h AHeap.empty).from_ (k := .i64) (lo := 1) (by omega) (by simp only [List.length_cons]; omega)
  refine ⟨z, h1, fun H => ?_⟩
  obtain ⟨z', h3, h4⟩ := (h H).from_ (k := .i64) (lo := 1) (by omega) (by simp only [List.length_cons]; omega)
  rw [h1] at h3
  cases h3
  simpa using h4
theorem app_num {b : Nat} {H : AHeap} {o : AV} {acc : List Int} (hbn : b ≤ H.next) (hb : H.base ≤ b) (O : Own b H o 1 (acc.map I)) (hl : acc.length ≤ 1000000) (w : Int) :
    ∃ o' H', (∀ {β : Type} (k : AV → AHeap → Option β), bnd (bs 22 1 [(0, I w)] H) (fun v H => bnd (app 3 1 8 o v H) k) = k o' H') ∧ Own b H' o' 1 ((acc ++ [w]).map I) ∧ Step b H H' := by
  let ob : AObj := .blk 0 3 [I w]
  obtain ⟨o', H', t1, t2, t3⟩ := (O.new ob).step (n := acc.length) (k := 1) (e := 3) (by_ := 8) (y := .sl H.next 0 0 1 1 1 true) (new := [I w]) (by simp only [nNew]; omega) (by simp only [bNew]; exact hb) (by decide) (by simp) (sl_new rfl) (by simp [isCell_int]) (by unfold most; omega) (by unfold most; omega)
  refine ⟨o', H', fun k => ?_, by rw [List.map_append]; exact t2, (Step.new ob hbn).trans t3⟩
  have eb := bsl_one (e := 3) (m := 1) (z := [zI]) (v := I w) (H := H) rfl rfl rfl
  have eb' : bs 22 1 [(0, I w)] H = some (.sl H.next 0 0 1 1 1 true, H.new ob) := (bs_22 (n := 1) (by decide)).trans eb
  rw [eb', bnd_some, t1, bnd_some]
theorem rnumbers_sp (H : AHeap) {x : AV} {ws : List Str} (hx : StrsIs x ws) (hw : ∀ w ∈ ws, w.length ≤ 1000000) (hn : ws.length ≤ 1000000) :
    ∃ y, cl 70 [x] H = some (.tup [y, B (numsTx ws).isSome], H) ∧ ∀ r, numsTx ws = some r → ∀ H', SliceIs H' y 1 r.length (r.map I) := by
  have key : ∀ k j : Nat, j + k = ws.length → ∀ (Hi : AHeap) (o : AV) (acc : List Int), acc.length ≤ j → Own H.next Hi o 1 (acc.map I) → Step H.next H.guard Hi →
      ∃ y Hz, lp_70x0 cl [o, x, I ws.length, I j] Hi = some (.tup [y, B (numsTx (ws.drop j)).isSome], Hz) ∧ (numsTx (ws.drop j) = none → y = zN) ∧ ∀ r, numsTx (ws.drop j) = some r → Own H.next Hz y 1 ((acc ++ r).map I) := by
    intro k
    induction k with
    | zero =>
      intro j hj Hi o acc ha O s
      have h1 : ¬ (j : Int) < ws.length := by omega
      rw [List.drop_eq_nil_of_le (by omega)]
      refine ⟨o, Hi, ?_, fun h => (by cases h), fun r h => (by cases h; simpa using O)⟩
      rw [le_70x0]
      simp -implicitDefEqProofs only [bnd_some, bo_some, condK_true, condK_false, gdA_undef, decide_true, decide_false, Int.reduceLE, Int.reduceLT, Int.reduceEq, Int.reduceNeg, Int.reduceAdd, gd_tt, gd_tf, gd_ft, gd_ff, unG_pure, lift_some, bnd_lift, Option.map_some, Option.bind_some, fieldPtr_ref, fieldPtr_ip, nil_ref, nil_ip, nil_fn, ex_tup, fl_agg, List.getElem?_cons_zero, List.getElem?_cons_succ, Nat.zero_add, Nat.add_zero, Nat.reduceAdd, pk_t, pk_f, lss_int, leq_int, gtr_int, geq_int, eql_int, neq_int, not_bool, beq_self_eq_true, if_true, Bool.false_eq_true, if_false, List.nil_append, List.cons_append, List.append_nil, alc_eq, mkm_eq, nNew, nPut, bNew, bPut, nGrd, bGrd, h1, numsTx, Option.isSome_some]
    | succ k ih =>
      intro j hj Hi o acc ha O s
      have h1 : (j : Int) < ws.length := by omega
      have hl : j < ws.length := by omega
      have sb : Hi.base = H.next := s.base
      have sn : H.next ≤ Hi.next := s.next
      have h6 : (j : Int) + 1 = ((j + 1 : Nat) : Int) := by omega
      have h7 := wrap_i64 (a := ((j + 1 : Nat) : Int)) (by omega) (by omega)
      obtain ⟨p, i1, i2⟩ := hx.at_ (i := (j : Int)) (w := ws[j]) (by omega) (by rw [Int.toNat_natCast, List.getElem?_eq_getElem hl]) Hi
      have e := rnumber_sp Hi (hw ws[j] (List.getElem_mem hl))
      rw [List.drop_eq_getElem_cons hl]
      rw [le_70x0]
      cases hk : numTx ws[j] with
      | none =>
        rw [hk] at e
        have hn0 : numsTx (ws[j] :: ws.drop (j + 1)) = none := by simp only [numsTx, hk]
        rw [hn0]
        refine ⟨zN, Hi, ?_, fun _ => rfl, fun r h => (by cases h)⟩
        simp -implicitDefEqProofs only [bnd_some, bo_some, condK_true, condK_false, gdA_undef, decide_true, decide_false, Int.reduceLE, Int.reduceLT, Int.reduceEq, Int.reduceNeg, Int.reduceAdd, gd_tt, gd_tf, gd_ft, gd_ff, unG_pure, lift_some, bnd_lift, Option.map_some, Option.bind_some, fieldPtr_ref, fieldPtr_ip, nil_ref, nil_ip, nil_fn, ex_tup, fl_agg, List.getElem?_cons_zero, List.getElem?_cons_succ, Nat.zero_add, Nat.add_zero, Nat.reduceAdd, pk_t, pk_f, lss_int, leq_int, gtr_int, geq_int, eql_int, neq_int, not_bool, beq_self_eq_true, if_true, Bool.false_eq_true, if_false, List.nil_append, List.cons_append, List.append_nil, alc_eq, mkm_eq, nNew, nPut, bNew, bPut, nGrd, bGrd, h1, i1, i2, e, optI, Option.isSome_none, Bool.not_false]
      | some n =>
        rw [hk] at e
        have hn0 : numsTx (ws[j] :: ws.drop (j + 1)) = (numsTx (ws.drop (j + 1))).map (n :: ·) := by simp only [numsTx, hk]
        obtain ⟨o', H', t1, t2, t3⟩ := app_num sn (by omega) O (by omega) n
        obtain ⟨y, Hz, r1, r2, r3⟩ := ih (j + 1) (by omega) H' o' (acc ++ [n]) (by simp; omega) t2 (s.trans t3)
        rw [hn0]
        refine ⟨y, Hz, ?_, fun h => r2 (by cases hh : numsTx (ws.drop (j + 1)) with
          | none => rfl
          | some r => rw [hh] at h; cases h), fun r h => ?_⟩
        · simp -implicitDefEqProofs only [bnd_some, bo_some, condK_true, condK_false, gdA_undef, decide_true, decide_false, Int.reduceLE, Int.reduceLT, Int.reduceEq, Int.reduceNeg, Int.reduceAdd, gd_tt, gd_tf, gd_ft, gd_ff, unG_pure, lift_some, bnd_lift, Option.map_some, Option.bind_some, fieldPtr_ref, fieldPtr_ip, nil_ref, nil_ip, nil_fn, ex_tup, fl_agg, List.getElem?_cons_zero, List.getElem?_cons_succ, Nat.zero_add, Nat.add_zero, Nat.reduceAdd, pk_t, pk_f, lss_int, leq_int, gtr_int, geq_int, eql_int, neq_int, not_bool, beq_self_eq_true, if_true, Bool.false_eq_true, if_false, List.nil_append, List.cons_append, List.append_nil, alc_eq, mkm_eq, nNew, nPut, bNew, bPut, nGrd, bGrd, h1, i1, i2, e, optI, Option.isSome_some, Option.getD_some, Bool.not_true, Option.isSome_map]
          rw [t1]
          simp -implicitDefEqProofs only [bnd_some, bo_some, condK_true, condK_false, gdA_undef, decide_true, decide_false, Int.reduceLE, Int.reduceLT, Int.reduceEq, Int.reduceNeg, Int.reduceAdd, gd_tt, gd_tf, gd_ft, gd_ff, unG_pure, lift_some, bnd_lift, Option.map_some, Option.bind_some, fieldPtr_ref, fieldPtr_ip, nil_ref, nil_ip, nil_fn, ex_tup, fl_agg, List.getElem?_cons_zero, List.getElem?_cons_succ, Nat.zero_add, Nat.add_zero, Nat.reduceAdd, pk_t, pk_f, lss_int, leq_int, gtr_int, geq_int, eql_int, neq_int, not_bool, beq_self_eq_true, if_true, Bool.false_eq_true, if_false, List.nil_append, List.cons_append, List.append_nil, alc_eq, mkm_eq, nNew, nPut, bNew, bPut, nGrd, bGrd, add_int, h6, h7, r1]
        · cases hh : numsTx (ws.drop (j + 1)) with
          | none => rw [hh] at h; cases h
          | some r' =>
            rw [hh] at h
            simp only [Option.map_some, Option.some.injEq] at h
            subst h
            have := r3 r' hh
            rw [List.append_assoc] at this
            exact this
  obtain ⟨y, Hz, r1, r2, r3⟩ := key ws.length 0 (by omega) H.guard zN [] (by simp) (.inl ⟨rfl, rfl⟩) (Step.refl _ _)
  rw [List.drop_zero] at r1 r2 r3
  have r1' : lp_70x0 cl [zN, x, I ws.length, I 0] H.guard = some (.tup [y, B (numsTx ws).isSome], Hz) := r1
  have run : sh_70 cl x H.guard = some (.tup [y, B (numsTx ws).isSome], Hz) := by
    have := (hx H.guard).lnS
    simp -implicitDefEqProofs only [bnd_some, bo_some, condK_true, condK_false, gdA_undef, decide_true, decide_false, Int.reduceLE, Int.reduceLT, Int.reduceEq, Int.reduceNeg, Int.reduceAdd, gd_tt, gd_tf, gd_ft, gd_ff, unG_pure, lift_some, bnd_lift, Option.map_some, Option.bind_some, fieldPtr_ref, fieldPtr_ip, nil_ref, nil_ip, nil_fn, ex_tup, fl_agg, List.getElem?_cons_zero, List.getElem?_cons_succ, Nat.zero_add, Nat.add_zero, Nat.reduceAdd, pk_t, pk_f, lss_int, leq_int, gtr_int, geq_int, eql_int, neq_int, not_bool, beq_self_eq_true, if_true, Bool.false_eq_true, if_false, List.nil_append, List.cons_append, List.append_nil, alc_eq, mkm_eq, nNew, nPut, bNew, bPut, nGrd, bGrd, sh_70, this, zN_T, r1']
  cases hh : numsTx ws with
  | none =>
    rw [hh] at run
    have hy := r2 hh
    subst hy
    exact ⟨zN, pure_cl rfl rfl (rn_70 _ _ _ run) rfl, fun r h => by cases h⟩
  | some r =>
    rw [hh] at run
    have O := r3 r hh
    rw [List.nil_append] at O
    obtain ⟨z, f1, f2⟩ := freeze_ownAny (d := 7) (k := r.length) O (by decide) (by simp) (fun y hy => by
      obtain ⟨w, _, rfl⟩ := List.mem_map.1 hy
      exact freeze_s)
    exact ⟨z, pure_cl rfl rfl (rn_70 _ _ _ run) (freeze_tup2 f1), fun r' h H' => by cases h; exact f2 H'⟩
theorem opTx_nums (w : Str) (rest : List Str) : opTx (w :: rest) = match numsTx rest with
    | some [n] => if 0 ≤ n ∧ (kindTx w = 1 ∨ kindTx w = 4) then some ⟨kindTx w, n, 0⟩ else none
    | some [n, m] => if 0 ≤ n ∧ (kindTx w = 2 ∨ kindTx w = 3) then some ⟨kindTx w, n, m⟩ else none
    | _ => none := by
  match rest with
  | [] => rfl
  | [a] =>
    simp only [opTx, numsTx]
    cases numTx a with
    | none => simp
    | some n =>
      simp only [Option.map_some]
      by_cases h1 : kindTx w = 1 ∨ kindTx w = 4 <;> by_cases h2 : 0 ≤ n <;> simp [h1, h2]
  | [a, v] =>
    simp only [opTx, numsTx]
    cases numTx a with
    | none => simp
    | some n =>
      cases numTx v with
      | none => simp
      | some m =>
        simp only [Option.map_some]
        by_cases h1 : kindTx w = 2 ∨ kindTx w = 3 <;> by_cases h2 : 0 ≤ n <;> simp [h1, h2]
  | a :: v :: x :: r =>
    simp only [opTx, numsTx]
    cases numTx a with
    | none => rfl
    | some n =>
      cases numTx v with
      | none => rfl
      | some m =>
        cases numTx x with
        | none => rfl
        | some k => cases numsTx r <;> rfl
theorem kind_is (w : Str) : (w = kindTxW 1 ∧ kindTx w = 1) ∨ (w = kindTxW 2 ∧ kindTx w = 2) ∨ (w = kindTxW 3 ∧ kindTx w = 3) ∨ (w = kindTxW 4 ∧ kindTx w = 4) ∨ (w ≠ kindTxW 1 ∧ w ≠ kindTxW 2 ∧ w ≠ kindTxW 3 ∧ w ≠ kindTxW 4 ∧ kindTx w = -1) := by
  unfold kindTx
  by_cases h1 : w = kindTxW 1
  · exact .inl ⟨h1, if_pos h1⟩
  rw [if_neg h1]
  by_cases h2 : w = kindTxW 2
  · exact .inr (.inl ⟨h2, if_pos h2⟩)
  rw [if_neg h2]
  by_cases h3 : w = kindTxW 3
  · exact .inr (.inr (.inl ⟨h3, if_pos h3⟩))
  rw [if_neg h3]
  by_cases h4 : w = kindTxW 4
  · exact .inr (.inr (.inr (.inl ⟨h4, if_pos h4⟩)))
  rw [if_neg h4]
  exact .inr (.inr (.inr (.inr ⟨h1, h2, h3, h4, rfl⟩)))
theorem rop_sp (H : AHeap) {y : AV} {ws : List Str} (hy : StrsIs y ws) (hw : WordsOk ws) (hn : ws.length ≤ 1000000) :
    ∃ o : Opn, cl 41 [y] H = some (.tup [.agg o.av, B (opTx ws).isSome], H) ∧ ∀ o', opTx ws = some o' → o = o' := by
  obtain ⟨w, rest, rfl⟩ : ∃ w rest, ws = w :: rest := by
    cases ws with
    | nil => exact absurd rfl hw.1
    | cons w r => exact ⟨w, r, rfl⟩
  let H1 := H.guard.new (.blk 0 31 [zI, zI, zI])
  have run : ∀ (o : Opn), (sh_41 cl y H.guard).map Prod.fst = some (.tup [.agg o.av, B (opTx (w :: rest)).isSome]) → cl 41 [y] H = some (.tup [.agg o.av, B (opTx (w :: rest)).isSome], H) := fun o h =>
    pure_val rfl rfl (rn_41 _ _ _) h (frz_tup fun x hx => by
      simp only [List.mem_cons, List.mem_singleton, List.not_mem_nil, or_false] at hx
      rcases hx with rfl | rfl
      · exact frz_agg fun z hz => by
          simp only [Opn.av, List.mem_cons, List.mem_singleton, List.not_mem_nil, or_false] at hz
          rcases hz with rfl | rfl | rfl <;> exact frz_s
      · exact frz_s)
  obtain ⟨z, z1, z2⟩ := hy.tail
  obtain ⟨x, n1, n2⟩ := rnumbers_sp H1 z2 (fun v hv => (hw.2 v (by simp [hv])).2) (by simp at hn; omega)
  obtain ⟨p0, a1, a2⟩ : ∃ p, (∀ H, ix 1 y (I 0) H = some (p, H)) ∧ ∀ H, ld p H = some (T w, H) := by
    refine ⟨elemPtr y 0, fun H => (hy H).ix (k := .i64) (i := 0) (by omega) (by simp), fun H => ?_⟩
    rw [(hy H).ld (by simp)]; rfl
  have ot := opTx_nums w rest
  cases hs : numsTx rest with
  | none =>
    rw [hs] at n1 ot
    simp only at ot
    refine ⟨.zero, run _ ?_, fun o' h => by rw [ot] at h; cases h⟩
    rw [ot]
    simp -implicitDefEqProofs only [bnd_some, bo_some, condK_true, condK_false, gdA_undef, decide_true, decide_false, Int.reduceLE, Int.reduceLT, Int.reduceEq, Int.reduceNeg, Int.reduceAdd, gd_tt, gd_tf, gd_ft, gd_ff, unG_pure, lift_some, bnd_lift, Option.map_some, Option.bind_some, fieldPtr_ref, fieldPtr_ip, nil_ref, nil_ip, nil_fn, ex_tup, fl_agg, List.getElem?_cons_zero, List.getElem?_cons_succ, Nat.zero_add, Nat.add_zero, Nat.reduceAdd, pk_t, pk_f, lss_int, leq_int, gtr_int, geq_int, eql_int, neq_int, not_bool, beq_self_eq_true, if_true, Bool.false_eq_true, if_false, List.nil_append, List.cons_append, List.append_nil, alc_eq, mkm_eq, nNew, nPut, bNew, bPut, nGrd, bGrd, ldN_is, ldN_lt, ldaN_is, ldaN_lt, stN_is, stN_lt, Nat.lt_add_one, ne_eq, nx1, nx2, nx3, ny1, ny2, ny3, not_false_eq_true, List.length_cons, List.length_nil, Nat.reduceLeDiff, setAt, List.take_succ_cons, List.take_zero, List.drop_succ_cons, List.drop_zero, cells_dat, cells_int, cells_bool, cells_agg, List.all_cons, List.all_nil, isCell_int, isCell_bool, isCell_dat, isCell_ref, isCell_nil, isCell_vsl, cells_vsl, av_len_cfg, av_len_pkt, av_len_opn, av_len_evn, av_len_ent, av_len_row, av_len_deal, av_len_pck, tk_cfg, tk_pkt, tk_opn, tk_evn, tk_ent, tk_row, tk_deal, tk_pck, all_cfg, all_pkt, all_opn, all_evn, all_ent, all_row, all_deal, all_pck, List.drop_nil, Bool.and_true, Bool.and_self, and_self, Nat.le_refl, true_and, and_true, Nat.le_add_right, leS, ltS, sh_41, z1, n1, H1, Option.isSome_none, Bool.not_false, bd_31, bldA, fillA, pl_31, put_new, Opn.zero, Opn.av]
    try rfl
  | some r =>
    rw [hs] at n1 ot
    have n2 := n2 r hs
    have ln := fun H => (n2 H).lnS
    cases r with
    | nil =>
      simp only at ot
      refine ⟨.zero, run _ ?_, fun o' h => by rw [ot] at h; cases h⟩
      rw [ot]
      simp -implicitDefEqProofs only [bnd_some, bo_some, condK_true, condK_false, gdA_undef, decide_true, decide_false, Int.reduceLE, Int.reduceLT, Int.reduceEq, Int.reduceNeg, Int.reduceAdd, gd_tt, gd_tf, gd_ft, gd_ff, unG_pure, lift_some, bnd_lift, Option.map_some, Option.bind_some, fieldPtr_ref, fieldPtr_ip, nil_ref, nil_ip, nil_fn, ex_tup, fl_agg, List.getElem?_cons_zero, List.getElem?_cons_succ, Nat.zero_add, Nat.add_zero, Nat.reduceAdd, pk_t, pk_f, lss_int, leq_int, gtr_int, geq_int, eql_int, neq_int, not_bool, beq_self_eq_true, if_true, Bool.false_eq_true, if_false, List.nil_append, List.cons_append, List.append_nil, alc_eq, mkm_eq, nNew, nPut, bNew, bPut, nGrd, bGrd, ldN_is, ldN_lt, ldaN_is, ldaN_lt, stN_is, stN_lt, Nat.lt_add_one, ne_eq, nx1, nx2, nx3, ny1, ny2, ny3, not_false_eq_true, List.length_cons, List.length_nil, Nat.reduceLeDiff, setAt, List.take_succ_cons, List.take_zero, List.drop_succ_cons, List.drop_zero, cells_dat, cells_int, cells_bool, cells_agg, List.all_cons, List.all_nil, isCell_int, isCell_bool, isCell_dat, isCell_ref, isCell_nil, isCell_vsl, cells_vsl, av_len_cfg, av_len_pkt, av_len_opn, av_len_evn, av_len_ent, av_len_row, av_len_deal, av_len_pck, tk_cfg, tk_pkt, tk_opn, tk_evn, tk_ent, tk_row, tk_deal, tk_pck, all_cfg, all_pkt, all_opn, all_evn, all_ent, all_row, all_deal, all_pck, List.drop_nil, Bool.and_true, Bool.and_self, and_self, Nat.le_refl, true_and, and_true, Nat.le_add_right, leS, ltS, sh_41, z1, n1, H1, Option.isSome_some, Bool.not_true, ln, Int.natCast_zero, Int.ofNat_zero, bd_31, bldA, fillA, pl_31, put_new, Opn.zero, Opn.av, Option.isSome_none]
      try rfl
    | cons n ns =>
      obtain ⟨q0, b1, b2⟩ : ∃ p, (∀ H, ix 1 x (I 0) H = some (p, H)) ∧ ∀ H, ld p H = some (I n, H) := by
        refine ⟨elemPtr x 0, fun H => (n2 H).ix (k := .i64) (i := 0) (by omega) (by simp), fun H => ?_⟩
        rw [(n2 H).ld (by simp)]; rfl
      have l0 : ¬ (((ns.length + 1 : Nat) : Int) = 0) := by omega
      by_cases hneg : n < 0
      · have hno : opTx (w :: rest) = none := by
          rw [ot]
          match ns with
          | [] => simp only; rw [if_neg (fun h => by omega)]
          | [m] => simp only; rw [if_neg (fun h => by omega)]
          | m :: k :: r => rfl
        refine ⟨.zero, run _ ?_, fun o' h => by rw [hno] at h; cases h⟩
        rw [hno]
        simp -implicitDefEqProofs only [bnd_some, bo_some, condK_true, condK_false, gdA_undef, decide_true, decide_false, Int.reduceLE, Int.reduceLT, Int.reduceEq, Int.reduceNeg, Int.reduceAdd, gd_tt, gd_tf, gd_ft, gd_ff, unG_pure, lift_some, bnd_lift, Option.map_some, Option.bind_some, fieldPtr_ref, fieldPtr_ip, nil_ref, nil_ip, nil_fn, ex_tup, fl_agg, List.getElem?_cons_zero, List.getElem?_cons_succ, Nat.zero_add, Nat.add_zero, Nat.reduceAdd, pk_t, pk_f, lss_int, leq_int, gtr_int, geq_int, eql_int, neq_int, not_bool, beq_self_eq_true, if_true, Bool.false_eq_true, if_false, List.nil_append, List.cons_append, List.append_nil, alc_eq, mkm_eq, nNew, nPut, bNew, bPut, nGrd, bGrd, ldN_is, ldN_lt, ldaN_is, ldaN_lt, stN_is, stN_lt, Nat.lt_add_one, ne_eq, nx1, nx2, nx3, ny1, ny2, ny3, not_false_eq_true, List.length_cons, List.length_nil, Nat.reduceLeDiff, setAt, List.take_succ_cons, List.take_zero, List.drop_succ_cons, List.drop_zero, cells_dat, cells_int, cells_bool, cells_agg, List.all_cons, List.all_nil, isCell_int, isCell_bool, isCell_dat, isCell_ref, isCell_nil, isCell_vsl, cells_vsl, av_len_cfg, av_len_pkt, av_len_opn, av_len_evn, av_len_ent, av_len_row, av_len_deal, av_len_pck, tk_cfg, tk_pkt, tk_opn, tk_evn, tk_ent, tk_row, tk_deal, tk_pck, all_cfg, all_pkt, all_opn, all_evn, all_ent, all_row, all_deal, all_pck, List.drop_nil, Bool.and_true, Bool.and_self, and_self, Nat.le_refl, true_and, and_true, Nat.le_add_right, leS, ltS, sh_41, z1, n1, H1, Option.isSome_some, Bool.not_true, ln, l0, b1, b2, hneg, bd_31, bldA, fillA, pl_31, put_new, Opn.zero, Opn.av, Option.isSome_none]
        try rfl
      have hpos : 0 ≤ n := by omega
      have facts : ∃ c1 c2 c3 c4 : Bool, decide (w = [108, 111, 97, 100]) = c1 ∧ decide (w = [115, 116, 111, 114, 101]) = c2 ∧ decide (w = [97, 100, 100]) = c3 ∧ decide (w = [102, 108, 117, 115, 104]) = c4 ∧
          ((c1 = true ∧ c2 = false ∧ c3 = false ∧ c4 = false ∧ kindTx w = 1) ∨ (c1 = false ∧ c2 = true ∧ c3 = false ∧ c4 = false ∧ kindTx w = 2) ∨ (c1 = false ∧ c2 = false ∧ c3 = true ∧ c4 = false ∧ kindTx w = 3) ∨ (c1 = false ∧ c2 = false ∧ c3 = false ∧ c4 = true ∧ kindTx w = 4) ∨ (c1 = false ∧ c2 = false ∧ c3 = false ∧ c4 = false ∧ kindTx w = -1)) := by
        refine ⟨_, _, _, _, rfl, rfl, rfl, rfl, ?_⟩
        rcases kind_is w with ⟨e, k⟩ | ⟨e, k⟩ | ⟨e, k⟩ | ⟨e, k⟩ | ⟨e1, e2, e3, e4, k⟩
        · rw [k, e]; exact .inl ⟨by decide, by decide, by decide, by decide, rfl⟩
        · rw [k, e]; exact .inr (.inl ⟨by decide, by decide, by decide, by decide, rfl⟩)
        · rw [k, e]; exact .inr (.inr (.inl ⟨by decide, by decide, by decide, by decide, rfl⟩))
        · rw [k, e]; exact .inr (.inr (.inr (.inl ⟨by decide, by decide, by decide, by decide, rfl⟩)))
        · exact .inr (.inr (.inr (.inr ⟨decide_eq_false e1, decide_eq_false e2, decide_eq_false e3, decide_eq_false e4, k⟩)))
      obtain ⟨c1, c2, c3, c4, d1, d2, d3, d4, hk⟩ := facts
      have k1 : ((1 : Nat) : Int) = 1 := rfl
      have k2 : ((2 : Nat) : Int) = 2 := rfl
      match ns with
      | [] =>
        simp only at ot
        rcases hk with ⟨rfl, rfl, rfl, rfl, k⟩ | ⟨rfl, rfl, rfl, rfl, k⟩ | ⟨rfl, rfl, rfl, rfl, k⟩ | ⟨rfl, rfl, rfl, rfl, k⟩ | ⟨rfl, rfl, rfl, rfl, k⟩ <;> rw [k] at ot
        · rw [if_pos ⟨hpos, by decide⟩] at ot
          refine ⟨_, run _ ?_, fun o' h => by rw [ot] at h; exact Option.some.inj h⟩
          rw [ot]
          simp -implicitDefEqProofs only [bnd_some, bo_some, condK_true, condK_false, gdA_undef, decide_true, decide_false, Int.reduceLE, Int.reduceLT, Int.reduceEq, Int.reduceNeg, Int.reduceAdd, gd_tt, gd_tf, gd_ft, gd_ff, unG_pure, lift_some, bnd_lift, Option.map_some, Option.bind_some, fieldPtr_ref, fieldPtr_ip, nil_ref, nil_ip, nil_fn, ex_tup, fl_agg, List.getElem?_cons_zero, List.getElem?_cons_succ, Nat.zero_add, Nat.add_zero, Nat.reduceAdd, pk_t, pk_f, lss_int, leq_int, gtr_int, geq_int, eql_int, neq_int, not_bool, beq_self_eq_true, if_true, Bool.false_eq_true, if_false, List.nil_append, List.cons_append, List.append_nil, alc_eq, mkm_eq, nNew, nPut, bNew, bPut, nGrd, bGrd, ldN_is, ldN_lt, ldaN_is, ldaN_lt, stN_is, stN_lt, Nat.lt_add_one, ne_eq, nx1, nx2, nx3, ny1, ny2, ny3, not_false_eq_true, List.length_cons, List.length_nil, Nat.reduceLeDiff, setAt, List.take_succ_cons, List.take_zero, List.drop_succ_cons, List.drop_zero, cells_dat, cells_int, cells_bool, cells_agg, List.all_cons, List.all_nil, isCell_int, isCell_bool, isCell_dat, isCell_ref, isCell_nil, isCell_vsl, cells_vsl, av_len_cfg, av_len_pkt, av_len_opn, av_len_evn, av_len_ent, av_len_row, av_len_deal, av_len_pck, tk_cfg, tk_pkt, tk_opn, tk_evn, tk_ent, tk_row, tk_deal, tk_pck, all_cfg, all_pkt, all_opn, all_evn, all_ent, all_row, all_deal, all_pck, List.drop_nil, Bool.and_true, Bool.and_self, and_self, Nat.le_refl, true_and, and_true, Nat.le_add_right, leS, ltS, sh_41, z1, n1, H1, Option.isSome_some, Bool.not_true, ln, l0, b1, b2, hneg, a1, a2, T_str, eql_T, d1, d2, d3, d4, k1, bd_31, bldA, fillA, pl_31, put_new, Opn.av]
          try rfl
        · rw [if_neg (fun h => by omega)] at ot
          refine ⟨.zero, run _ ?_, fun o' h => by rw [ot] at h; cases h⟩
          rw [ot]
          simp -implicitDefEqProofs only [bnd_some, bo_some, condK_true, condK_false, gdA_undef, decide_true, decide_false, Int.reduceLE, Int.reduceLT, Int.reduceEq, Int.reduceNeg, Int.reduceAdd, gd_tt, gd_tf, gd_ft, gd_ff, unG_pure, lift_some, bnd_lift, Option.map_some, Option.bind_some, fieldPtr_ref, fieldPtr_ip, nil_ref, nil_ip, nil_fn, ex_tup, fl_agg, List.getElem?_cons_zero, List.getElem?_cons_succ, Nat.zero_add, Nat.add_zero, Nat.reduceAdd, pk_t, pk_f, lss_int, leq_int, gtr_int, geq_int, eql_int, neq_int, not_bool, beq_self_eq_true, if_true, Bool.false_eq_true, if_false, List.nil_append, List.cons_append, List.append_nil, alc_eq, mkm_eq, nNew, nPut, bNew, bPut, nGrd, bGrd, ldN_is, ldN_lt, ldaN_is, ldaN_lt, stN_is, stN_lt, Nat.lt_add_one, ne_eq, nx1, nx2, nx3, ny1, ny2, ny3, not_false_eq_true, List.length_cons, List.length_nil, Nat.reduceLeDiff, setAt, List.take_succ_cons, List.take_zero, List.drop_succ_cons, List.drop_zero, cells_dat, cells_int, cells_bool, cells_agg, List.all_cons, List.all_nil, isCell_int, isCell_bool, isCell_dat, isCell_ref, isCell_nil, isCell_vsl, cells_vsl, av_len_cfg, av_len_pkt, av_len_opn, av_len_evn, av_len_ent, av_len_row, av_len_deal, av_len_pck, tk_cfg, tk_pkt, tk_opn, tk_evn, tk_ent, tk_row, tk_deal, tk_pck, all_cfg, all_pkt, all_opn, all_evn, all_ent, all_row, all_deal, all_pck, List.drop_nil, Bool.and_true, Bool.and_self, and_self, Nat.le_refl, true_and, and_true, Nat.le_add_right, leS, ltS, sh_41, z1, n1, H1, Option.isSome_some, Bool.not_true, ln, l0, b1, b2, hneg, a1, a2, T_str, eql_T, d1, d2, d3, d4, k1, bd_31, bldA, fillA, pl_31, put_new, Opn.zero, Opn.av, Option.isSome_none]
          try rfl
        · rw [if_neg (fun h => by omega)] at ot
          refine ⟨.zero, run _ ?_, fun o' h => by rw [ot] at h; cases h⟩
          rw [ot]
          simp -implicitDefEqProofs only [bnd_some, bo_some, condK_true, condK_false, gdA_undef, decide_true, decide_false, Int.reduceLE, Int.reduceLT, Int.reduceEq, Int.reduceNeg, Int.reduceAdd, gd_tt, gd_tf, gd_ft, gd_ff, unG_pure, lift_some, bnd_lift, Option.map_some, Option.bind_some, fieldPtr_ref, fieldPtr_ip, nil_ref, nil_ip, nil_fn, ex_tup, fl_agg, List.getElem?_cons_zero, List.getElem?_cons_succ, Nat.zero_add, Nat.add_zero, Nat.reduceAdd, pk_t, pk_f, lss_int, leq_int, gtr_int, geq_int, eql_int, neq_int, not_bool, beq_self_eq_true, if_true, Bool.false_eq_true, if_false, List.nil_append, List.cons_append, List.append_nil, alc_eq, mkm_eq, nNew, nPut, bNew, bPut, nGrd, bGrd, ldN_is, ldN_lt, ldaN_is, ldaN_lt, stN_is, stN_lt, Nat.lt_add_one, ne_eq, nx1, nx2, nx3, ny1, ny2, ny3, not_false_eq_true, List.length_cons, List.length_nil, Nat.reduceLeDiff, setAt, List.take_succ_cons, List.take_zero, List.drop_succ_cons, List.drop_zero, cells_dat, cells_int, cells_bool, cells_agg, List.all_cons, List.all_nil, isCell_int, isCell_bool, isCell_dat, isCell_ref, isCell_nil, isCell_vsl, cells_vsl, av_len_cfg, av_len_pkt, av_len_opn, av_len_evn, av_len_ent, av_len_row, av_len_deal, av_len_pck, tk_cfg, tk_pkt, tk_opn, tk_evn, tk_ent, tk_row, tk_deal, tk_pck, all_cfg, all_pkt, all_opn, all_evn, all_ent, all_row, all_deal, all_pck, List.drop_nil, Bool.and_true, Bool.and_self, and_self, Nat.le_refl, true_and, and_true, Nat.le_add_right, leS, ltS, sh_41, z1, n1, H1, Option.isSome_some, Bool.not_true, ln, l0, b1, b2, hneg, a1, a2, T_str, eql_T, d1, d2, d3, d4, k1, bd_31, bldA, fillA, pl_31, put_new, Opn.zero, Opn.av, Option.isSome_none]
          try rfl
        · rw [if_pos ⟨hpos, by decide⟩] at ot
          refine ⟨_, run _ ?_, fun o' h => by rw [ot] at h; exact Option.some.inj h⟩
          rw [ot]
          simp -implicitDefEqProofs only [bnd_some, bo_some, condK_true, condK_false, gdA_undef, decide_true, decide_false, Int.reduceLE, Int.reduceLT, Int.reduceEq, Int.reduceNeg, Int.reduceAdd, gd_tt, gd_tf, gd_ft, gd_ff, unG_pure, lift_some, bnd_lift, Option.map_some, Option.bind_some, fieldPtr_ref, fieldPtr_ip, nil_ref, nil_ip, nil_fn, ex_tup, fl_agg, List.getElem?_cons_zero, List.getElem?_cons_succ, Nat.zero_add, Nat.add_zero, Nat.reduceAdd, pk_t, pk_f, lss_int, leq_int, gtr_int, geq_int, eql_int, neq_int, not_bool, beq_self_eq_true, if_true, Bool.false_eq_true, if_false, List.nil_append, List.cons_append, List.append_nil, alc_eq, mkm_eq, nNew, nPut, bNew, bPut, nGrd, bGrd, ldN_is, ldN_lt, ldaN_is, ldaN_lt, stN_is, stN_lt, Nat.lt_add_one, ne_eq, nx1, nx2, nx3, ny1, ny2, ny3, not_false_eq_true, List.length_cons, List.length_nil, Nat.reduceLeDiff, setAt, List.take_succ_cons, List.take_zero, List.drop_succ_cons, List.drop_zero, cells_dat, cells_int, cells_bool, cells_agg, List.all_cons, List.all_nil, isCell_int, isCell_bool, isCell_dat, isCell_ref, isCell_nil, isCell_vsl, cells_vsl, av_len_cfg, av_len_pkt, av_len_opn, av_len_evn, av_len_ent, av_len_row, av_len_deal, av_len_pck, tk_cfg, tk_pkt, tk_opn, tk_evn, tk_ent, tk_row, tk_deal, tk_pck, all_cfg, all_pkt, all_opn, all_evn, all_ent, all_row, all_deal, all_pck, List.drop_nil, Bool.and_true, Bool.and_self, and_self, Nat.le_refl, true_and, and_true, Nat.le_add_right, leS, ltS, sh_41, z1, n1, H1, Option.isSome_some, Bool.not_true, ln, l0, b1, b2, hneg, a1, a2, T_str, eql_T, d1, d2, d3, d4, k1, bd_31, bldA, fillA, pl_31, put_new, Opn.av]
          try rfl
        · rw [if_neg (fun h => by omega)] at ot
          refine ⟨.zero, run _ ?_, fun o' h => by rw [ot] at h; cases h⟩
          rw [ot]
          simp -implicitDefEqProofs only [bnd_some, bo_some, condK_true, condK_false, gdA_undef, decide_true, decide_false, Int.reduceLE, Int.reduceLT, Int.reduceEq, Int.reduceNeg, Int.reduceAdd, gd_tt, gd_tf, gd_ft, gd_ff, unG_pure, lift_some, bnd_lift, Option.map_some, Option.bind_some, fieldPtr_ref, fieldPtr_ip, nil_ref, nil_ip, nil_fn, ex_tup, fl_agg, List.getElem?_cons_zero, List.getElem?_cons_succ, Nat.zero_add, Nat.add_zero, Nat.reduceAdd, pk_t, pk_f, lss_int, leq_int, gtr_int, geq_int, eql_int, neq_int, not_bool, beq_self_eq_true, if_true, Bool.false_eq_true, if_false, List.nil_append, List.cons_append, List.append_nil, alc_eq, mkm_eq, nNew, nPut, bNew, bPut, nGrd, bGrd, ldN_is, ldN_lt, ldaN_is, ldaN_lt, stN_is, stN_lt, Nat.lt_add_one, ne_eq, nx1, nx2, nx3, ny1, ny2, ny3, not_false_eq_true, List.length_cons, List.length_nil, Nat.reduceLeDiff, setAt, List.take_succ_cons, List.take_zero, List.drop_succ_cons, List.drop_zero, cells_dat, cells_int, cells_bool, cells_agg, List.all_cons, List.all_nil, isCell_int, isCell_bool, isCell_dat, isCell_ref, isCell_nil, isCell_vsl, cells_vsl, av_len_cfg, av_len_pkt, av_len_opn, av_len_evn, av_len_ent, av_len_row, av_len_deal, av_len_pck, tk_cfg, tk_pkt, tk_opn, tk_evn, tk_ent, tk_row, tk_deal, tk_pck, all_cfg, all_pkt, all_opn, all_evn, all_ent, all_row, all_deal, all_pck, List.drop_nil, Bool.and_true, Bool.and_self, and_self, Nat.le_refl, true_and, and_true, Nat.le_add_right, leS, ltS, sh_41, z1, n1, H1, Option.isSome_some, Bool.not_true, ln, l0, b1, b2, hneg, a1, a2, T_str, eql_T, d1, d2, d3, d4, k1, bd_31, bldA, fillA, pl_31, put_new, Opn.zero, Opn.av, Option.isSome_none]
          try rfl
      | [m] =>
        simp only at ot
        obtain ⟨q1, e1, e2⟩ : ∃ p, (∀ H, ix 1 x (I 1) H = some (p, H)) ∧ ∀ H, ld p H = some (I m, H) := by
          refine ⟨elemPtr x 1, fun H => (n2 H).ix (k := .i64) (i := 1) (by omega) (by simp), fun H => ?_⟩
          rw [(n2 H).ld (by simp)]; rfl
        rcases hk with ⟨rfl, rfl, rfl, rfl, k⟩ | ⟨rfl, rfl, rfl, rfl, k⟩ | ⟨rfl, rfl, rfl, rfl, k⟩ | ⟨rfl, rfl, rfl, rfl, k⟩ | ⟨rfl, rfl, rfl, rfl, k⟩ <;> rw [k] at ot
        · rw [if_neg (fun h => by omega)] at ot
          refine ⟨.zero, run _ ?_, fun o' h => by rw [ot] at h; cases h⟩
          rw [ot]
          simp -implicitDefEqProofs only [bnd_some, bo_some, condK_true, condK_false, gdA_undef, decide_true, decide_false, Int.reduceLE, Int.reduceLT, Int.reduceEq, Int.reduceNeg, Int.reduceAdd, gd_tt, gd_tf, gd_ft, gd_ff, unG_pure, lift_some, bnd_lift, Option.map_some, Option.bind_some, fieldPtr_ref, fieldPtr_ip, nil_ref, nil_ip, nil_fn, ex_tup, fl_agg, List.getElem?_cons_zero, List.getElem?_cons_succ, Nat.zero_add, Nat.add_zero, Nat.reduceAdd, pk_t, pk_f, lss_int, leq_int, gtr_int, geq_int, eql_int, neq_int, not_bool, beq_self_eq_true, if_true, Bool.false_eq_true, if_false, List.nil_append, List.cons_append, List.append_nil, alc_eq, mkm_eq, nNew, nPut, bNew, bPut, nGrd, bGrd, ldN_is, ldN_lt, ldaN_is, ldaN_lt, stN_is, stN_lt, Nat.lt_add_one, ne_eq, nx1, nx2, nx3, ny1, ny2, ny3, not_false_eq_true, List.length_cons, List.length_nil, Nat.reduceLeDiff, setAt, List.take_succ_cons, List.take_zero, List.drop_succ_cons, List.drop_zero, cells_dat, cells_int, cells_bool, cells_agg, List.all_cons, List.all_nil, isCell_int, isCell_bool, isCell_dat, isCell_ref, isCell_nil, isCell_vsl, cells_vsl, av_len_cfg, av_len_pkt, av_len_opn, av_len_evn, av_len_ent, av_len_row, av_len_deal, av_len_pck, tk_cfg, tk_pkt, tk_opn, tk_evn, tk_ent, tk_row, tk_deal, tk_pck, all_cfg, all_pkt, all_opn, all_evn, all_ent, all_row, all_deal, all_pck, List.drop_nil, Bool.and_true, Bool.and_self, and_self, Nat.le_refl, true_and, and_true, Nat.le_add_right, leS, ltS, sh_41, z1, n1, H1, Option.isSome_some, Bool.not_true, ln, l0, b1, b2, hneg, a1, a2, T_str, eql_T, d1, d2, d3, d4, e1, e2, cells_int, k2, bd_31, bldA, fillA, pl_31, put_new, Opn.zero, Opn.av, Option.isSome_none]
          try rfl
        · rw [if_pos ⟨hpos, by decide⟩] at ot
          refine ⟨_, run _ ?_, fun o' h => by rw [ot] at h; exact Option.some.inj h⟩
          rw [ot]
          simp -implicitDefEqProofs only [bnd_some, bo_some, condK_true, condK_false, gdA_undef, decide_true, decide_false, Int.reduceLE, Int.reduceLT, Int.reduceEq, Int.reduceNeg, Int.reduceAdd, gd_tt, gd_tf, gd_ft, gd_ff, unG_pure, lift_some, bnd_lift, Option.map_some, Option.bind_some, fieldPtr_ref, fieldPtr_ip, nil_ref, nil_ip, nil_fn, ex_tup, fl_agg, List.getElem?_cons_zero, List.getElem?_cons_succ, Nat.zero_add, Nat.add_zero, Nat.reduceAdd, pk_t, pk_f, lss_int, leq_int, gtr_int, geq_int, eql_int, neq_int, not_bool, beq_self_eq_true, if_true, Bool.false_eq_true, if_false, List.nil_append, List.cons_append, List.append_nil, alc_eq, mkm_eq, nNew, nPut, bNew, bPut, nGrd, bGrd, ldN_is, ldN_lt, ldaN_is, ldaN_lt, stN_is, stN_lt, Nat.lt_add_one, ne_eq, nx1, nx2, nx3, ny1, ny2, ny3, not_false_eq_true, List.length_cons, List.length_nil, Nat.reduceLeDiff, setAt, List.take_succ_cons, List.take_zero, List.drop_succ_cons, List.drop_zero, cells_dat, cells_int, cells_bool, cells_agg, List.all_cons, List.all_nil, isCell_int, isCell_bool, isCell_dat, isCell_ref, isCell_nil, isCell_vsl, cells_vsl, av_len_cfg, av_len_pkt, av_len_opn, av_len_evn, av_len_ent, av_len_row, av_len_deal, av_len_pck, tk_cfg, tk_pkt, tk_opn, tk_evn, tk_ent, tk_row, tk_deal, tk_pck, all_cfg, all_pkt, all_opn, all_evn, all_ent, all_row, all_deal, all_pck, List.drop_nil, Bool.and_true, Bool.and_self, and_self, Nat.le_refl, true_and, and_true, Nat.le_add_right, leS, ltS, sh_41, z1, n1, H1, Option.isSome_some, Bool.not_true, ln, l0, b1, b2, hneg, a1, a2, T_str, eql_T, d1, d2, d3, d4, e1, e2, cells_int, k2, bd_31, bldA, fillA, pl_31, put_new, Opn.av]
          try rfl
        · rw [if_pos ⟨hpos, by decide⟩] at ot
          refine ⟨_, run _ ?_, fun o' h => by rw [ot] at h; exact Option.some.inj h⟩
          rw [ot]
          simp -implicitDefEqProofs only [bnd_some, bo_some, condK_true, condK_false, gdA_undef, decide_true, decide_false, Int.reduceLE, Int.reduceLT, Int.reduceEq, Int.reduceNeg, Int.reduceAdd, gd_tt, gd_tf, gd_ft, gd_ff, unG_pure, lift_some, bnd_lift, Option.map_some, Option.bind_some, fieldPtr_ref, fieldPtr_ip, nil_ref, nil_ip, nil_fn, ex_tup, fl_agg, List.getElem?_cons_zero, List.getElem?_cons_succ, Nat.zero_add, Nat.add_zero, Nat.reduceAdd, pk_t, pk_f, lss_int, leq_int, gtr_int, geq_int, eql_int, neq_int, not_bool, beq_self_eq_true, if_true, Bool.false_eq_true, if_false, List.nil_append, List.cons_append, List.append_nil, alc_eq, mkm_eq, nNew, nPut, bNew, bPut, nGrd, bGrd, ldN_is, ldN_lt, ldaN_is, ldaN_lt, stN_is, stN_lt, Nat.lt_add_one, ne_eq, nx1, nx2, nx3, ny1, ny2, ny3, not_false_eq_true, List.length_cons, List.length_nil, Nat.reduceLeDiff, setAt, List.take_succ_cons, List.take_zero, List.drop_succ_cons, List.drop_zero, cells_dat, cells_int, cells_bool, cells_agg, List.all_cons, List.all_nil, isCell_int, isCell_bool, isCell_dat, isCell_ref, isCell_nil, isCell_vsl, cells_vsl, av_len_cfg, av_len_pkt, av_len_opn, av_len_evn, av_len_ent, av_len_row, av_len_deal, av_len_pck, tk_cfg, tk_pkt, tk_opn, tk_evn, tk_ent, tk_row, tk_deal, tk_pck, all_cfg, all_pkt, all_opn, all_evn, all_ent, all_row, all_deal, all_pck, List.drop_nil, Bool.and_true, Bool.and_self, and_self, Nat.le_refl, true_and, and_true, Nat.le_add_right, leS, ltS, sh_41, z1, n1, H1, Option.isSome_some, Bool.not_true, ln, l0, b1, b2, hneg, a1, a2, T_str, eql_T, d1, d2, d3, d4, e1, e2, cells_int, k2, bd_31, bldA, fillA, pl_31, put_new, Opn.av]
          try rfl
        · rw [if_neg (fun h => by omega)] at ot
          refine ⟨.zero, run _ ?_, fun o' h => by rw [ot] at h; cases h⟩
          rw [ot]
          simp -implicitDefEqProofs only [bnd_some, bo_some, condK_true, condK_false, gdA_undef, decide_true, decide_false, Int.reduceLE, Int.reduceLT, Int.reduceEq, Int.reduceNeg, Int.reduceAdd, gd_tt, gd_tf, gd_ft, gd_ff, unG_pure, lift_some, bnd_lift, Option.map_some, Option.bind_some, fieldPtr_ref, fieldPtr_ip, nil_ref, nil_ip, nil_fn, ex_tup, fl_agg, List.getElem?_cons_zero, List.getElem?_cons_succ, Nat.zero_add, Nat.add_zero, Nat.reduceAdd, pk_t, pk_f, lss_int, leq_int, gtr_int, geq_int, eql_int, neq_int, not_bool, beq_self_eq_true, if_true, Bool.false_eq_true, if_false, List.nil_append, List.cons_append, List.append_nil, alc_eq, mkm_eq, nNew, nPut, bNew, bPut, nGrd, bGrd, ldN_is, ldN_lt, ldaN_is, ldaN_lt, stN_is, stN_lt, Nat.lt_add_one, ne_eq, nx1, nx2, nx3, ny1, ny2, ny3, not_false_eq_true, List.length_cons, List.length_nil, Nat.reduceLeDiff, setAt, List.take_succ_cons, List.take_zero, List.drop_succ_cons, List.drop_zero, cells_dat, cells_int, cells_bool, cells_agg, List.all_cons, List.all_nil, isCell_int, isCell_bool, isCell_dat, isCell_ref, isCell_nil, isCell_vsl, cells_vsl, av_len_cfg, av_len_pkt, av_len_opn, av_len_evn, av_len_ent, av_len_row, av_len_deal, av_len_pck, tk_cfg, tk_pkt, tk_opn, tk_evn, tk_ent, tk_row, tk_deal, tk_pck, all_cfg, all_pkt, all_opn, all_evn, all_ent, all_row, all_deal, all_pck, List.drop_nil, Bool.and_true, Bool.and_self, and_self, Nat.le_refl, true_and, and_true, Nat.le_add_right, leS, ltS, sh_41, z1, n1, H1, Option.isSome_some, Bool.not_true, ln, l0, b1, b2, hneg, a1, a2, T_str, eql_T, d1, d2, d3, d4, e1, e2, cells_int, k2, bd_31, bldA, fillA, pl_31, put_new, Opn.zero, Opn.av, Option.isSome_none]
          try rfl
        · rw [if_neg (fun h => by omega)] at ot
          refine ⟨.zero, run _ ?_, fun o' h => by rw [ot] at h; cases h⟩
          rw [ot]
          simp -implicitDefEqProofs only [bnd_some, bo_some, condK_true, condK_false, gdA_undef, decide_true, decide_false, Int.reduceLE, Int.reduceLT, Int.reduceEq, Int.reduceNeg, Int.reduceAdd, gd_tt, gd_tf, gd_ft, gd_ff, unG_pure, lift_some, bnd_lift, Option.map_some, Option.bind_some, fieldPtr_ref, fieldPtr_ip, nil_ref, nil_ip, nil_fn, ex_tup, fl_agg, List.getElem?_cons_zero, List.getElem?_cons_succ, Nat.zero_add, Nat.add_zero, Nat.reduceAdd, pk_t, pk_f, lss_int, leq_int, gtr_int, geq_int, eql_int, neq_int, not_bool, beq_self_eq_true, if_true, Bool.false_eq_true, if_false, List.nil_append, List.cons_append, List.append_nil, alc_eq, mkm_eq, nNew, nPut, bNew, bPut, nGrd, bGrd, ldN_is, ldN_lt, ldaN_is, ldaN_lt, stN_is, stN_lt, Nat.lt_add_one, ne_eq, nx1, nx2, nx3, ny1, ny2, ny3, not_false_eq_true, List.length_cons, List.length_nil, Nat.reduceLeDiff, setAt, List.take_succ_cons, List.take_zero, List.drop_succ_cons, List.drop_zero, cells_dat, cells_int, cells_bool, cells_agg, List.all_cons, List.all_nil, isCell_int, isCell_bool, isCell_dat, isCell_ref, isCell_nil, isCell_vsl, cells_vsl, av_len_cfg, av_len_pkt, av_len_opn, av_len_evn, av_len_ent, av_len_row, av_len_deal, av_len_pck, tk_cfg, tk_pkt, tk_opn, tk_evn, tk_ent, tk_row, tk_deal, tk_pck, all_cfg, all_pkt, all_opn, all_evn, all_ent, all_row, all_deal, all_pck, List.drop_nil, Bool.and_true, Bool.and_self, and_self, Nat.le_refl, true_and, and_true, Nat.le_add_right, leS, ltS, sh_41, z1, n1, H1, Option.isSome_some, Bool.not_true, ln, l0, b1, b2, hneg, a1, a2, T_str, eql_T, d1, d2, d3, d4, e1, e2, cells_int, k2, bd_31, bldA, fillA, pl_31, put_new, Opn.zero, Opn.av, Option.isSome_none]
          try rfl
      | m :: k :: r =>
        simp only at ot
        have l3 : ¬ (((r.length + 1 + 1 + 1 : Nat) : Int) = 0) := by omega
        have l4 : ¬ (((r.length + 1 + 1 + 1 : Nat) : Int) = 1) := by omega
        have l5 : ¬ (((r.length + 1 + 1 + 1 : Nat) : Int) = 2) := by omega
        rcases hk with ⟨rfl, rfl, rfl, rfl, k⟩ | ⟨rfl, rfl, rfl, rfl, k⟩ | ⟨rfl, rfl, rfl, rfl, k⟩ | ⟨rfl, rfl, rfl, rfl, k⟩ | ⟨rfl, rfl, rfl, rfl, k⟩
        · refine ⟨.zero, run _ ?_, fun o' h => by rw [ot] at h; cases h⟩
          rw [ot]
          simp -implicitDefEqProofs only [bnd_some, bo_some, condK_true, condK_false, gdA_undef, decide_true, decide_false, Int.reduceLE, Int.reduceLT, Int.reduceEq, Int.reduceNeg, Int.reduceAdd, gd_tt, gd_tf, gd_ft, gd_ff, unG_pure, lift_some, bnd_lift, Option.map_some, Option.bind_some, fieldPtr_ref, fieldPtr_ip, nil_ref, nil_ip, nil_fn, ex_tup, fl_agg, List.getElem?_cons_zero, List.getElem?_cons_succ, Nat.zero_add, Nat.add_zero, Nat.reduceAdd, pk_t, pk_f, lss_int, leq_int, gtr_int, geq_int, eql_int, neq_int, not_bool, beq_self_eq_true, if_true, Bool.false_eq_true, if_false, List.nil_append, List.cons_append, List.append_nil, alc_eq, mkm_eq, nNew, nPut, bNew, bPut, nGrd, bGrd, ldN_is, ldN_lt, ldaN_is, ldaN_lt, stN_is, stN_lt, Nat.lt_add_one, ne_eq, nx1, nx2, nx3, ny1, ny2, ny3, not_false_eq_true, List.length_cons, List.length_nil, Nat.reduceLeDiff, setAt, List.take_succ_cons, List.take_zero, List.drop_succ_cons, List.drop_zero, cells_dat, cells_int, cells_bool, cells_agg, List.all_cons, List.all_nil, isCell_int, isCell_bool, isCell_dat, isCell_ref, isCell_nil, isCell_vsl, cells_vsl, av_len_cfg, av_len_pkt, av_len_opn, av_len_evn, av_len_ent, av_len_row, av_len_deal, av_len_pck, tk_cfg, tk_pkt, tk_opn, tk_evn, tk_ent, tk_row, tk_deal, tk_pck, all_cfg, all_pkt, all_opn, all_evn, all_ent, all_row, all_deal, all_pck, List.drop_nil, Bool.and_true, Bool.and_self, and_self, Nat.le_refl, true_and, and_true, Nat.le_add_right, leS, ltS, sh_41, z1, n1, H1, Option.isSome_some, Bool.not_true, ln, l0, b1, b2, hneg, a1, a2, T_str, eql_T, d1, d2, d3, d4, l3, l4, l5, bd_31, bldA, fillA, pl_31, put_new, Opn.zero, Opn.av, Option.isSome_none]
          try rfl
        · refine ⟨.zero, run _ ?_, fun o' h => by rw [ot] at h; cases h⟩
          rw [ot]
          simp -implicitDefEqProofs only [bnd_some, bo_some, condK_true, condK_false, gdA_undef, decide_true, decide_false, Int.reduceLE, Int.reduceLT, Int.reduceEq, Int.reduceNeg, Int.reduceAdd, gd_tt, gd_tf, gd_ft, gd_ff, unG_pure, lift_some, bnd_lift, Option.map_some, Option.bind_some, fieldPtr_ref, fieldPtr_ip, nil_ref, nil_ip, nil_fn, ex_tup, fl_agg, List.getElem?_cons_zero, List.getElem?_cons_succ, Nat.zero_add, Nat.add_zero, Nat.reduceAdd, pk_t, pk_f, lss_int, leq_int, gtr_int, geq_int, eql_int, neq_int, not_bool, beq_self_eq_true, if_true, Bool.false_eq_true, if_false, List.nil_append, List.cons_append, List.append_nil, alc_eq, mkm_eq, nNew, nPut, bNew, bPut, nGrd, bGrd, ldN_is, ldN_lt, ldaN_is, ldaN_lt, stN_is, stN_lt, Nat.lt_add_one, ne_eq, nx1, nx2, nx3, ny1, ny2, ny3, not_false_eq_true, List.length_cons, List.length_nil, Nat.reduceLeDiff, setAt, List.take_succ_cons, List.take_zero, List.drop_succ_cons, List.drop_zero, cells_dat, cells_int, cells_bool, cells_agg, List.all_cons, List.all_nil, isCell_int, isCell_bool, isCell_dat, isCell_ref, isCell_nil, isCell_vsl, cells_vsl, av_len_cfg, av_len_pkt, av_len_opn, av_len_evn, av_len_ent, av_len_row, av_len_deal, av_len_pck, tk_cfg, tk_pkt, tk_opn, tk_evn, tk_ent, tk_row, tk_deal, tk_pck, all_cfg, all_pkt, all_opn, all_evn, all_ent, all_row, all_deal, all_pck, List.drop_nil, Bool.and_true, Bool.and_self, and_self, Nat.le_refl, true_and, and_true, Nat.le_add_right, leS, ltS, sh_41, z1, n1, H1, Option.isSome_some, Bool.not_true, ln, l0, b1, b2, hneg, a1, a2, T_str, eql_T, d1, d2, d3, d4, l3, l4, l5, bd_31, bldA, fillA, pl_31, put_new, Opn.zero, Opn.av, Option.isSome_none]
          try rfl
        · refine ⟨.zero, run _ ?_, fun o' h => by rw [ot] at h; cases h⟩
          rw [ot]
          simp -implicitDefEqProofs only [bnd_some, bo_some, condK_true, condK_false, gdA_undef, decide_true, decide_false, Int.reduceLE, Int.reduceLT, Int.reduceEq, Int.reduceNeg, Int.reduceAdd, gd_tt, gd_tf, gd_ft, gd_ff, unG_pure, lift_some, bnd_lift, Option.map_some, Option.bind_some, fieldPtr_ref, fieldPtr_ip, nil_ref, nil_ip, nil_fn, ex_tup, fl_agg, List.getElem?_cons_zero, List.getElem?_cons_succ, Nat.zero_add, Nat.add_zero, Nat.reduceAdd, pk_t, pk_f, lss_int, leq_int, gtr_int, geq_int, eql_int, neq_int, not_bool, beq_self_eq_true, if_true, Bool.false_eq_true, if_false, List.nil_append, List.cons_append, List.append_nil, alc_eq, mkm_eq, nNew, nPut, bNew, bPut, nGrd, bGrd, ldN_is, ldN_lt, ldaN_is, ldaN_lt, stN_is, stN_lt, Nat.lt_add_one, ne_eq, nx1, nx2, nx3, ny1, ny2, ny3, not_false_eq_true, List.length_cons, List.length_nil, Nat.reduceLeDiff, setAt, List.take_succ_cons, List.take_zero, List.drop_succ_cons, List.drop_zero, cells_dat, cells_int, cells_bool, cells_agg, List.all_cons, List.all_nil, isCell_int, isCell_bool, isCell_dat, isCell_ref, isCell_nil, isCell_vsl, cells_vsl, av_len_cfg, av_len_pkt, av_len_opn, av_len_evn, av_len_ent, av_len_row, av_len_deal, av_len_pck, tk_cfg, tk_pkt, tk_opn, tk_evn, tk_ent, tk_row, tk_deal, tk_pck, all_cfg, all_pkt, all_opn, all_evn, all_ent, all_row, all_deal, all_pck, List.drop_nil, Bool.and_true, Bool.and_self, and_self, Nat.le_refl, true_and, and_true, Nat.le_add_right, leS, ltS, sh_41, z1, n1, H1, Option.isSome_some, Bool.not_true, ln, l0, b1, b2, hneg, a1, a2, T_str, eql_T, d1, d2, d3, d4, l3, l4, l5, bd_31, bldA, fillA, pl_31, put_new, Opn.zero, Opn.av, Option.isSome_none]
          try rfl
        · refine ⟨.zero, run _ ?_, fun o' h => by rw [ot] at h; cases h⟩
          rw [ot]
          simp -implicitDefEqProofs only [bnd_some, bo_some, condK_true, condK_false, gdA_undef, decide_true, decide_false, Int.reduceLE, Int.reduceLT, Int.reduceEq, Int.reduceNeg, Int.reduceAdd, gd_tt, gd_tf, gd_ft, gd_ff, unG_pure, lift_some, bnd_lift, Option.map_some, Option.bind_some, fieldPtr_ref, fieldPtr_ip, nil_ref, nil_ip, nil_fn, ex_tup, fl_agg, List.getElem?_cons_zero, List.getElem?_cons_succ, Nat.zero_add, Nat.add_zero, Nat.reduceAdd, pk_t, pk_f, lss_int, leq_int, gtr_int, geq_int, eql_int, neq_int, not_bool, beq_self_eq_true, if_true, Bool.false_eq_true, if_false, List.nil_append, List.cons_append, List.append_nil, alc_eq, mkm_eq, nNew, nPut, bNew, bPut, nGrd, bGrd, ldN_is, ldN_lt, ldaN_is, ldaN_lt, stN_is, stN_lt, Nat.lt_add_one, ne_eq, nx1, nx2, nx3, ny1, ny2, ny3, not_false_eq_true, List.length_cons, List.length_nil, Nat.reduceLeDiff, setAt, List.take_succ_cons, List.take_zero, List.drop_succ_cons, List.drop_zero, cells_dat, cells_int, cells_bool, cells_agg, List.all_cons, List.all_nil, isCell_int, isCell_bool, isCell_dat, isCell_ref, isCell_nil, isCell_vsl, cells_vsl, av_len_cfg, av_len_pkt, av_len_opn, av_len_evn, av_len_ent, av_len_row, av_len_deal, av_len_pck, tk_cfg, tk_pkt, tk_opn, tk_evn, tk_ent, tk_row, tk_deal, tk_pck, all_cfg, all_pkt, all_opn, all_evn, all_ent, all_row, all_deal, all_pck, List.drop_nil, Bool.and_true, Bool.and_self, and_self, Nat.le_refl, true_and, and_true, Nat.le_add_right, leS, ltS, sh_41, z1, n1, H1, Option.isSome_some, Bool.not_true, ln, l0, b1, b2, hneg, a1, a2, T_str, eql_T, d1, d2, d3, d4, l3, l4, l5, bd_31, bldA, fillA, pl_31, put_new, Opn.zero, Opn.av, Option.isSome_none]
          try rfl
        · refine ⟨.zero, run _ ?_, fun o' h => by rw [ot] at h; cases h⟩
          rw [ot]
          simp -implicitDefEqProofs only [bnd_some, bo_some, condK_true, condK_false, gdA_undef, decide_true, decide_false, Int.reduceLE, Int.reduceLT, Int.reduceEq, Int.reduceNeg, Int.reduceAdd, gd_tt, gd_tf, gd_ft, gd_ff, unG_pure, lift_some, bnd_lift, Option.map_some, Option.bind_some, fieldPtr_ref, fieldPtr_ip, nil_ref, nil_ip, nil_fn, ex_tup, fl_agg, List.getElem?_cons_zero, List.getElem?_cons_succ, Nat.zero_add, Nat.add_zero, Nat.reduceAdd, pk_t, pk_f, lss_int, leq_int, gtr_int, geq_int, eql_int, neq_int, not_bool, beq_self_eq_true, if_true, Bool.false_eq_true, if_false, List.nil_append, List.cons_append, List.append_nil, alc_eq, mkm_eq, nNew, nPut, bNew, bPut, nGrd, bGrd, ldN_is, ldN_lt, ldaN_is, ldaN_lt, stN_is, stN_lt, Nat.lt_add_one, ne_eq, nx1, nx2, nx3, ny1, ny2, ny3, not_false_eq_true, List.length_cons, List.length_nil, Nat.reduceLeDiff, setAt, List.take_succ_cons, List.take_zero, List.drop_succ_cons, List.drop_zero, cells_dat, cells_int, cells_bool, cells_agg, List.all_cons, List.all_nil, isCell_int, isCell_bool, isCell_dat, isCell_ref, isCell_nil, isCell_vsl, cells_vsl, av_len_cfg, av_len_pkt, av_len_opn, av_len_evn, av_len_ent, av_len_row, av_len_deal, av_len_pck, tk_cfg, tk_pkt, tk_opn, tk_evn, tk_ent, tk_row, tk_deal, tk_pck, all_cfg, all_pkt, all_opn, all_evn, all_ent, all_row, all_deal, all_pck, List.drop_nil, Bool.and_true, Bool.and_self, and_self, Nat.le_refl, true_and, and_true, Nat.le_add_right, leS, ltS, sh_41, z1, n1, H1, Option.isSome_some, Bool.not_true, ln, l0, b1, b2, hneg, a1, a2, T_str, eql_T, d1, d2, d3, d4, l3, l4, l5, bd_31, bldA, fillA, pl_31, put_new, Opn.zero, Opn.av, Option.isSome_none]
          try rfl

end Go.Proofs.YtjmldnpdfnklcaaDoor

namespace Go.Proofs.YtjmldnpdfnklcaaDoor

theorem linesR_count : ∀ (k : Nat) (l : Str), (linesR k l).length ≤ l.length
  | 0, l => by simp [linesR]
  | k + 1, [] => by simp [linesR]
  | k + 1, b :: l => by
    simp only [linesR, List.length_cons]
    have := linesR_count k ((b :: l).drop ((lineP (b :: l)).length + 1))
    rw [List.length_drop] at this
    simp only [List.length_cons] at this
    omega
theorem linesR_len : ∀ (k : Nat) (l : Str), ∀ w ∈ linesR k l, w.length ≤ l.length
  | 0, l, w, hw => by simp [linesR] at hw
  | k + 1, [], w, hw => by simp [linesR] at hw
  | k + 1, b :: l, w, hw => by
    simp only [linesR, List.mem_cons] at hw
    rcases hw with rfl | hw
    · exact lineP_len _
    · have := linesR_len k _ w hw
      rw [List.length_drop] at this
      omega
/-- What the document reads of a text. -/
theorem rparseOps_sp (H : AHeap) {l : Str} (h : l.length ≤ 100000) : cl 18 [T l] H = some (readA 3 Opn.av (B true) (B false) (parseTx opTx l), H) := by
  let lines := linesR l.length l
  have hln : lines.length ≤ 100000 := Nat.le_trans (linesR_count l.length l) h
  have hlw : ∀ w ∈ lines, w.length ≤ 100000 := fun w hw => Nat.le_trans (linesR_len l.length l w hw) h
  let Hs := H.guard
  obtain ⟨x, e1, hx0⟩ := rlines_sp H.guard h
  have hx : ∀ Hi, SliceIs Hi x 1 lines.length (lines.map T) := hx0
  have sx : ∀ {Hi : AHeap}, Step H.next Hs Hi → SliceIs Hi x 1 lines.length (lines.map T) := fun {Hi} _ => hx Hi
  have key : ∀ k j, j + k = lines.length → ∀ (Hi : AHeap) (o : AV) (acc : List Opn), acc.length ≤ j → Own H.next Hi o 3 (acc.flatMap Opn.av) → (acc = [] → o = zN) → Step H.next Hs Hi →
      ∃ y Hz, lp_18x0 cl [o, x, I lines.length, I j] Hi = some (y, Hz) ∧ (match parseL opTx (lines.drop j) with
        | none => y = .tup [zN, B false]
        | some r => ∃ o', y = .tup [o', B true] ∧ Own H.next Hz o' 3 ((acc ++ r).flatMap Opn.av) ∧ (acc ++ r = [] → o' = zN)) := by
    intro k
    induction k with
    | zero =>
      intro j hj Hi o acc ha O oz s
      have h1 : ¬ (j : Int) < lines.length := by omega
      refine ⟨.tup [o, B true], Hi, ?_, ?_⟩
      · rw [le_18x0]
        simp -implicitDefEqProofs only [bnd_some, bo_some, condK_true, condK_false, gdA_undef, decide_true, decide_false, Int.reduceLE, Int.reduceLT, Int.reduceEq, Int.reduceNeg, Int.reduceAdd, gd_tt, gd_tf, gd_ft, gd_ff, unG_pure, lift_some, bnd_lift, Option.map_some, Option.bind_some, fieldPtr_ref, fieldPtr_ip, nil_ref, nil_ip, nil_fn, ex_tup, fl_agg, List.getElem?_cons_zero, List.getElem?_cons_succ, Nat.zero_add, Nat.add_zero, Nat.reduceAdd, pk_t, pk_f, lss_int, leq_int, gtr_int, geq_int, eql_int, neq_int, not_bool, beq_self_eq_true, if_true, Bool.false_eq_true, if_false, List.nil_append, List.cons_append, List.append_nil, alc_eq, mkm_eq, nNew, nPut, bNew, bPut, nGrd, bGrd, h1]
      · rw [List.drop_eq_nil_of_le (by omega)]
        simp only [parseL, List.append_nil]
        exact ⟨o, rfl, O, oz⟩
    | succ k ih =>
      intro j hj Hi o acc ha O oz s
      have h1 : (j : Int) < lines.length := by omega
      have hl : j < lines.length := by omega
      have hs := sx s
      have i1 := hs.ix (k := .i64) (i := (j : Int)) (by omega) h1
      have i2 := hs.ld (i := j) hl
      rw [List.getElem?_map, List.getElem?_eq_getElem hl, Option.map_some, Option.map_some] at i2
      have h6 : (j : Int) + 1 = ((j + 1 : Nat) : Int) := by omega
      have h7 := wrap_i64 (a := ((j + 1 : Nat) : Int)) (by omega) (by omega)
      have hwl : (lines[j]).length ≤ 100000 := hlw _ (List.getElem_mem _)
      obtain ⟨ws, w1, w2⟩ := rwords_sp Hi (l := lines[j]) (by omega)
      have w3 := (w2 Hi).lnS
      have sb : Hi.base = H.next := s.base
      have sn : H.next ≤ Hi.next := s.next
      rw [le_18x0, List.drop_eq_getElem_cons hl]
      simp only [parseL]
      by_cases hw : wordsTx lines[j] = []
      · obtain ⟨y, Hz, r1, r2⟩ := ih (j + 1) (by omega) Hi o acc (by omega) O oz s
        rw [if_pos hw]
        refine ⟨y, Hz, ?_, r2⟩
        rw [hw] at w3
        simp -implicitDefEqProofs only [bnd_some, bo_some, condK_true, condK_false, gdA_undef, decide_true, decide_false, Int.reduceLE, Int.reduceLT, Int.reduceEq, Int.reduceNeg, Int.reduceAdd, gd_tt, gd_tf, gd_ft, gd_ff, unG_pure, lift_some, bnd_lift, Option.map_some, Option.bind_some, fieldPtr_ref, fieldPtr_ip, nil_ref, nil_ip, nil_fn, ex_tup, fl_agg, List.getElem?_cons_zero, List.getElem?_cons_succ, Nat.zero_add, Nat.add_zero, Nat.reduceAdd, pk_t, pk_f, lss_int, leq_int, gtr_int, geq_int, eql_int, neq_int, not_bool, beq_self_eq_true, if_true, Bool.false_eq_true, if_false, List.nil_append, List.cons_append, List.append_nil, alc_eq, mkm_eq, nNew, nPut, bNew, bPut, nGrd, bGrd, h1, i1, Int.toNat_natCast, i2, w1, w3, List.length_nil, Int.natCast_zero, Int.ofNat_zero, eq_self, jn_18x0, add_int, h6, h7, r1]
      · rw [if_neg hw]
        have wo := wordsTx_ok hw hwl (by omega)
        have w4 : ¬ (((wordsTx lines[j]).length : Int) = 0) := fun e => hw (List.eq_nil_of_length_eq_zero (by omega))
        obtain ⟨p, p1, p2⟩ := rop_sp Hi w2 wo (by have := wordsTx_len lines[j]; omega)
        have hb1 : Hi.base ≤ Hi.next := by omega
        cases hk : opTx (wordsTx lines[j]) with
        | none =>
          rw [hk] at p1
          refine ⟨.tup [zN, B false], Hi.new (.blk 0 31 p.av), ?_, rfl⟩
          simp only [Opn.av] at p1
          simp -implicitDefEqProofs only [bnd_some, bo_some, condK_true, condK_false, gdA_undef, decide_true, decide_false, Int.reduceLE, Int.reduceLT, Int.reduceEq, Int.reduceNeg, Int.reduceAdd, gd_tt, gd_tf, gd_ft, gd_ff, unG_pure, lift_some, bnd_lift, Option.map_some, Option.bind_some, fieldPtr_ref, fieldPtr_ip, nil_ref, nil_ip, nil_fn, ex_tup, fl_agg, List.getElem?_cons_zero, List.getElem?_cons_succ, Nat.zero_add, Nat.add_zero, Nat.reduceAdd, pk_t, pk_f, lss_int, leq_int, gtr_int, geq_int, eql_int, neq_int, not_bool, beq_self_eq_true, if_true, Bool.false_eq_true, if_false, List.nil_append, List.cons_append, List.append_nil, alc_eq, mkm_eq, nNew, nPut, bNew, bPut, nGrd, bGrd, ldN_is, ldN_lt, ldaN_is, ldaN_lt, stN_is, stN_lt, Nat.lt_add_one, ne_eq, nx1, nx2, nx3, ny1, ny2, ny3, not_false_eq_true, List.length_cons, List.length_nil, Nat.reduceLeDiff, setAt, List.take_succ_cons, List.take_zero, List.drop_succ_cons, List.drop_zero, cells_dat, cells_int, cells_bool, cells_agg, List.all_cons, List.all_nil, isCell_int, isCell_bool, isCell_dat, isCell_ref, isCell_nil, isCell_vsl, cells_vsl, av_len_cfg, av_len_pkt, av_len_opn, av_len_evn, av_len_ent, av_len_row, av_len_deal, av_len_pck, tk_cfg, tk_pkt, tk_opn, tk_evn, tk_ent, tk_row, tk_deal, tk_pck, all_cfg, all_pkt, all_opn, all_evn, all_ent, all_row, all_deal, all_pck, List.drop_nil, Bool.and_true, Bool.and_self, and_self, Nat.le_refl, true_and, and_true, Nat.le_add_right, leS, ltS, h1, i1, Int.toNat_natCast, i2, w1, w3, w4, p1, Option.isSome_none, hb1, Bool.not_false, put_new, Opn.av]
        | some p' =>
          rw [hk] at p1
          obtain rfl := p2 p' hk
          let ob : AObj := .blk 0 31 p.av
          have O1 : Own H.next ((Hi.new ob).new ob) o 3 (acc.flatMap Opn.av) := (O.new ob).new ob
          obtain ⟨o', H1, t1, t2, t3⟩ := O1.step (n := acc.length) (k := 1) (e := 31) (by_ := 24) (y := .sl (Hi.next + 1) 0 0 3 1 1 true) (new := p.av) (by simp only [nNew]; omega) (by simp only [bNew]; omega) (by decide) (flat_len av_len_opn _) (sl_new rfl) (all_opn p) (by unfold most; omega) (by unfold most; omega)
          have O' : Own H.next H1 o' 3 ((acc ++ [p]).flatMap Opn.av) := by
            rw [List.flatMap_append, List.flatMap_cons, List.flatMap_nil, List.append_nil]; exact t2
          obtain ⟨y, Hz, r1, r2⟩ := ih (j + 1) (by omega) H1 o' (acc ++ [p]) (by simp; omega) O' (fun e => by simp at e) ((s.trans ((Step.new ob (by omega)).trans (Step.new ob (by simp only [nNew]; omega)))).trans t3)
          refine ⟨y, Hz, ?_, ?_⟩
          · have eb := bsl_one (e := 31) (m := 3) (z := (Opn.zero).av) (v := .agg p.av) (H := Hi.new ob) rfl rfl (all_opn p)
            simp only [cells_agg, nNew, ob, Opn.zero, Opn.av] at eb t1 p1
            simp -implicitDefEqProofs only [bnd_some, bo_some, condK_true, condK_false, gdA_undef, decide_true, decide_false, Int.reduceLE, Int.reduceLT, Int.reduceEq, Int.reduceNeg, Int.reduceAdd, gd_tt, gd_tf, gd_ft, gd_ff, unG_pure, lift_some, bnd_lift, Option.map_some, Option.bind_some, fieldPtr_ref, fieldPtr_ip, nil_ref, nil_ip, nil_fn, ex_tup, fl_agg, List.getElem?_cons_zero, List.getElem?_cons_succ, Nat.zero_add, Nat.add_zero, Nat.reduceAdd, pk_t, pk_f, lss_int, leq_int, gtr_int, geq_int, eql_int, neq_int, not_bool, beq_self_eq_true, if_true, Bool.false_eq_true, if_false, List.nil_append, List.cons_append, List.append_nil, alc_eq, mkm_eq, nNew, nPut, bNew, bPut, nGrd, bGrd, ldN_is, ldN_lt, ldaN_is, ldaN_lt, stN_is, stN_lt, Nat.lt_add_one, ne_eq, nx1, nx2, nx3, ny1, ny2, ny3, not_false_eq_true, List.length_cons, List.length_nil, Nat.reduceLeDiff, setAt, List.take_succ_cons, List.take_zero, List.drop_succ_cons, List.drop_zero, cells_dat, cells_int, cells_bool, cells_agg, List.all_cons, List.all_nil, isCell_int, isCell_bool, isCell_dat, isCell_ref, isCell_nil, isCell_vsl, cells_vsl, av_len_cfg, av_len_pkt, av_len_opn, av_len_evn, av_len_ent, av_len_row, av_len_deal, av_len_pck, tk_cfg, tk_pkt, tk_opn, tk_evn, tk_ent, tk_row, tk_deal, tk_pck, all_cfg, all_pkt, all_opn, all_evn, all_ent, all_row, all_deal, all_pck, List.drop_nil, Bool.and_true, Bool.and_self, and_self, Nat.le_refl, true_and, and_true, Nat.le_add_right, leS, ltS, h1, i1, Int.toNat_natCast, i2, w1, w3, w4, p1, Option.isSome_some, hb1, Bool.not_true, put_new, Opn.av, bs_24, Nat.one_mul, eb, t1, jn_18x0, add_int, h6, h7, r1]
          · cases hr : parseL opTx (lines.drop (j + 1)) with
            | none => rw [hr] at r2; exact r2
            | some r =>
              rw [hr] at r2
              obtain ⟨o2, q1, q2, q3⟩ := r2
              rw [List.append_assoc] at q2 q3
              exact ⟨o2, q1, q2, q3⟩
  obtain ⟨y, Hz, r1, r2⟩ := key lines.length 0 (by omega) Hs zN [] (Nat.le_refl _) (.inl ⟨rfl, rfl⟩) (fun _ => rfl) (Step.refl _ _)
  refine pure_cl rfl rfl (rn_18 _ _ _ (r := (y, Hz)) ?_) ?_
  · have := (hx Hs).lnS
    have r1' : lp_18x0 cl [zN, x, I lines.length, I 0] Hs = some (y, Hz) := r1
    simp -implicitDefEqProofs only [bnd_some, bo_some, condK_true, condK_false, gdA_undef, decide_true, decide_false, Int.reduceLE, Int.reduceLT, Int.reduceEq, Int.reduceNeg, Int.reduceAdd, gd_tt, gd_tf, gd_ft, gd_ff, unG_pure, lift_some, bnd_lift, Option.map_some, Option.bind_some, fieldPtr_ref, fieldPtr_ip, nil_ref, nil_ip, nil_fn, ex_tup, fl_agg, List.getElem?_cons_zero, List.getElem?_cons_succ, Nat.zero_add, Nat.add_zero, Nat.reduceAdd, pk_t, pk_f, lss_int, leq_int, gtr_int, geq_int, eql_int, neq_int, not_bool, beq_self_eq_true, if_true, Bool.false_eq_true, if_false, List.nil_append, List.cons_append, List.append_nil, alc_eq, mkm_eq, nNew, nPut, bNew, bPut, nGrd, bGrd, sh_18, T_str, e1, this, Hs]
    exact r1'
  · have hp : parseTx opTx l = parseL opTx lines := (parse_lines opTx l.length l (Nat.le_refl _)).symm
    rw [List.drop_zero] at r2
    rw [hp]
    cases hr : parseL opTx lines with
    | none =>
      rw [hr] at r2
      simp only at r2
      subst r2
      rfl
    | some r =>
      rw [hr] at r2
      obtain ⟨o', rfl, q2, q3⟩ := r2
      rw [List.nil_append] at q2 q3
      have hf : freezeA Hz H.next 8 o' = some (vsl 3 Opn.av r) := by
        by_cases h0 : r = []
        · rw [q3 h0, h0, vsl_nil]; exact freeze_s
        · rw [vsl_cons h0]
          exact freeze_own q2 (by decide) (flat_len av_len_opn _) (fun z hz => frz_list (d := 7) (fun a x hx => by
            simp only [Opn.av, List.mem_cons, List.mem_singleton, List.not_mem_nil, or_false] at hx
            rcases hx with rfl | rfl | rfl | rfl <;> exact frz_s) _ z hz _ _) fun e => h0 (List.eq_nil_of_length_eq_zero e)
      exact freeze_tup2 hf
theorem parses_run (s : Str) {xa : AV} {za : List Int} (ha : SliceIs AHeap.empty xa 1 za.length (za.map I)) (raw : Bool) : ∃ H', cl 5 [T s, xa, B raw] AHeap.empty = some (B true, H') := by
  obtain ⟨t, t1, t2⟩ := text_sp AHeap.empty s ha raw
  have p1 := parseOps_sp AHeap.empty (l := t) (by omega)
  have p2 := rparseOps_sp AHeap.empty (l := t) (by omega)
  have c0 := cutText AHeap.empty s (n := 14) (by omega)
  have c1 : cl 19 [T s, I 14] AHeap.empty = some (T (s.take 14), AHeap.empty) := c0
  have hl : (s.take 14).length ≤ 1000000 := by rw [List.length_take]; omega
  have n1 := number_sp AHeap.empty hl
  have n2 := rnumber_sp AHeap.empty hl
  obtain ⟨y1, w1, w2⟩ := wordsTx_sp AHeap.empty (l := t) (by omega)
  obtain ⟨y2, w3, w4⟩ := rwords_sp AHeap.empty (l := t) (by omega)
  have ss := sameStrs AHeap.empty (by have := wordsTx_len t; omega) w2 w4
  have wk := wakes17 AHeap.empty
  have q0 : bi .eql 25 (I 0) (I 0) = some (B true) := by kernel_rfl
  have q1 : bi .eql 25 (I 2) (I 0) = some (B false) := by kernel_rfl
  have q2 : bi .eql 25 (I 2) (I 2) = some (B true) := by kernel_rfl
  refine ⟨AHeap.empty, run_cl rfl rfl (rn_5 _ _ _ _ _ ?_)⟩
  cases hp : parseTx opTx t with
  | none =>
    rw [hp] at p1 p2
    simp only [readA] at p1 p2
    have so := sameOps AHeap.empty (l := []) (by decide) (SliceIs.nil (H := AHeap.empty) (m := 3)) SliceIs.nil
    simp -implicitDefEqProofs only [bnd_some, bo_some, condK_true, condK_false, gdA_undef, decide_true, decide_false, Int.reduceLE, Int.reduceLT, Int.reduceEq, Int.reduceNeg, Int.reduceAdd, gd_tt, gd_tf, gd_ft, gd_ff, unG_pure, lift_some, bnd_lift, Option.map_some, Option.bind_some, fieldPtr_ref, fieldPtr_ip, nil_ref, nil_ip, nil_fn, ex_tup, fl_agg, List.getElem?_cons_zero, List.getElem?_cons_succ, Nat.zero_add, Nat.add_zero, Nat.reduceAdd, pk_t, pk_f, lss_int, leq_int, gtr_int, geq_int, eql_int, neq_int, not_bool, beq_self_eq_true, if_true, Bool.false_eq_true, if_false, List.nil_append, List.cons_append, List.append_nil, alc_eq, mkm_eq, nNew, nPut, bNew, bPut, nGrd, bGrd, sh_5, t2, p1, p2, c1, n1, n2, optI, q1, q2, eql_bool, eq_self, so, w1, w3, ss, wk]
  | some r =>
    rw [hp] at p1 p2
    simp only [readA] at p1 p2
    have so := sameOps AHeap.empty (by have := parseTx_len opTx hp; omega) (vsl_is av_len_opn AHeap.empty r) (vsl_is av_len_opn AHeap.empty r)
    simp -implicitDefEqProofs only [bnd_some, bo_some, condK_true, condK_false, gdA_undef, decide_true, decide_false, Int.reduceLE, Int.reduceLT, Int.reduceEq, Int.reduceNeg, Int.reduceAdd, gd_tt, gd_tf, gd_ft, gd_ff, unG_pure, lift_some, bnd_lift, Option.map_some, Option.bind_some, fieldPtr_ref, fieldPtr_ip, nil_ref, nil_ip, nil_fn, ex_tup, fl_agg, List.getElem?_cons_zero, List.getElem?_cons_succ, Nat.zero_add, Nat.add_zero, Nat.reduceAdd, pk_t, pk_f, lss_int, leq_int, gtr_int, geq_int, eql_int, neq_int, not_bool, beq_self_eq_true, if_true, Bool.false_eq_true, if_false, List.nil_append, List.cons_append, List.append_nil, alc_eq, mkm_eq, nNew, nPut, bNew, bPut, nGrd, bGrd, sh_5, t2, p1, p2, c1, n1, n2, optI, q0, eql_bool, eq_self, so, w1, w3, ss, wk]

end Go.Proofs.YtjmldnpdfnklcaaDoor

