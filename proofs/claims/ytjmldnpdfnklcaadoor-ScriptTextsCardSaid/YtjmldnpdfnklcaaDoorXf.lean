/-
  Own work: an interpreter over named blocks, its soundness, and what the functions of this seat compute (part 6 of 8).
  Conditions: those of the statement alone.
-/
import Derived.Test.YtjmldnpdfnklcaaDoorXe
set_option linter.all false
set_option linter.unusedSectionVars false
set_option linter.unusedVariables false
set_option linter.unusedSimpArgs false
namespace Go.Proofs.YtjmldnpdfnklcaaDoor

theorem wrap_u16 {a : Int} (h1 : 0 ≤ a) (h2 : a < 65536) : IntKind.wrap .u16 a = a := by
  simp only [IntKind.wrap, IntKind.signed, IntKind.bits]
  simp only [Bool.false_and, Bool.false_eq_true, if_false]
  exact Int.emod_eq_of_lt h1 (by simpa using h2)
theorem cells_u16 {n : Int} : (AV.s (.int .u16 n)).cells = [.s (.int .u16 n)] := rfl
theorem isCell_u16 {n : Int} : (AV.s (.int .u16 n)).isCell = true := rfl
/-- Numbers of words, none below 0. -/
def numsN : List Str → Option (List Int)
  | [] => some []
  | w :: ws => match numTx w with
    | none => none
    | some n => if n < 0 then none else (numsN ws).map (n :: ·)
theorem pick_is (w : Str) : ∃ c1 c2 c3 : Bool, decide (w = [115, 116, 101, 112]) = c1 ∧ decide (w = [103, 105, 118, 101]) = c2 ∧ decide (w = [115, 112, 111, 105, 108]) = c3 ∧
    ((c1 = true ∧ c2 = false ∧ c3 = false ∧ w = stepW) ∨ (c1 = false ∧ c2 = true ∧ c3 = false ∧ w = giveW) ∨ (c1 = false ∧ c2 = false ∧ c3 = true ∧ w = spoilW) ∨ (c1 = false ∧ c2 = false ∧ c3 = false ∧ w ≠ stepW ∧ w ≠ giveW ∧ w ≠ spoilW)) := by
  refine ⟨_, _, _, rfl, rfl, rfl, ?_⟩
  by_cases h1 : w = stepW
  · rw [h1]; exact .inl ⟨by decide, by decide, by decide, rfl⟩
  by_cases h2 : w = giveW
  · rw [h2]; exact .inr (.inl ⟨by decide, by decide, by decide, rfl⟩)
  by_cases h3 : w = spoilW
  · rw [h3]; exact .inr (.inr (.inl ⟨by decide, by decide, by decide, rfl⟩))
  exact .inr (.inr (.inr ⟨decide_eq_false h1, decide_eq_false h2, decide_eq_false h3, h1, h2, h3⟩))
theorem pick_numsN (w : Str) (rest : List Str) : pickTx (w :: rest) = match numsN rest with
    | some [n] => if w = stepW then some ⟨false, n, 0, 0⟩ else if w = giveW then some ⟨true, n, 0, 0⟩ else none
    | some [n, b, m] => if w = spoilW ∧ 1 ≤ m ∧ m ≤ 65535 then some ⟨true, n, b, m⟩ else none
    | _ => none := by
  have hgs : giveW ≠ stepW := by decide
  match rest with
  | [] => rfl
  | [a] =>
    simp only [pickTx, numsN]
    cases numTx a with
    | none => simp
    | some n =>
      by_cases h2 : n < 0
      · simp [h2, Int.not_le.2 h2]
      · have : 0 ≤ n := by omega
        simp only [if_neg h2, Option.map_some, this, if_true]
        by_cases h3 : w = stepW
        · subst h3; simp; first | exact hgs | exact Ne.symm hgs
        · by_cases h4 : w = giveW
          · subst h4; simp [hgs]
          · simp [h3, h4]
  | [a, b] =>
    simp only [pickTx, numsN]
    cases numTx a with
    | none => rfl
    | some n =>
      cases numTx b with
      | none => by_cases h : n < 0 <;> simp [h]
      | some m => by_cases h : n < 0 <;> by_cases h2 : m < 0 <;> simp [h, h2]
  | [a, b, c] =>
    simp only [pickTx, numsN]
    cases numTx a with
    | none => simp
    | some n =>
      cases numTx b with
      | none => by_cases h : n < 0 <;> simp [h]
      | some x =>
        cases numTx c with
        | none => by_cases h : n < 0 <;> by_cases h2 : x < 0 <;> simp [h, h2]
        | some y =>
          by_cases h : n < 0
          · simp [h, Int.not_le.2 h]
          by_cases h2 : x < 0
          · simp [h, h2, Int.not_le.2 h2]
          by_cases h3 : y < 0
          · have : ¬ 1 ≤ y := by omega
            simp [h, h2, h3, this]
          have g1 : 0 ≤ n := by omega
          have g2 : 0 ≤ x := by omega
          simp only [if_neg h, if_neg h2, if_neg h3, Option.map_some, g1, g2, true_and]
          by_cases hw : w = spoilW <;> simp [hw]
  | a :: b :: c :: d :: r =>
    simp only [pickTx, numsN]
    cases numTx a with
    | none => rfl
    | some n =>
      cases numTx b with
      | none => by_cases h : n < 0 <;> simp [h]
      | some x =>
        cases numTx c with
        | none => by_cases h : n < 0 <;> by_cases h2 : x < 0 <;> simp [h, h2]
        | some y =>
          cases numTx d with
          | none => by_cases h : n < 0 <;> by_cases h2 : x < 0 <;> by_cases h3 : y < 0 <;> simp [h, h2, h3]
          | some v => by_cases h : n < 0 <;> by_cases h2 : x < 0 <;> by_cases h3 : y < 0 <;> by_cases h4 : v < 0 <;> cases numsN r <;> simp [h, h2, h3, h4]
theorem pick_nums (w : Str) (rest : List Str) : pickTx (w :: rest) = match numsTx rest with
    | some [n] => if n < 0 then none else if w = stepW then some ⟨false, n, 0, 0⟩ else if w = giveW then some ⟨true, n, 0, 0⟩ else none
    | some [n, b, m] => if w = spoilW ∧ 0 ≤ n ∧ 0 ≤ b ∧ 1 ≤ m ∧ m ≤ 65535 then some ⟨true, n, b, m⟩ else none
    | _ => none := by
  have hgs : giveW ≠ stepW := by decide
  match rest with
  | [] => rfl
  | [a] =>
    simp only [pickTx, numsTx]
    cases numTx a with
    | none => simp
    | some n =>
      simp only [Option.map_some]
      by_cases h2 : n < 0
      · simp [h2, Int.not_le.2 h2]
      · have : 0 ≤ n := by omega
        simp only [if_neg h2, this, if_true]
        by_cases h3 : w = stepW
        · subst h3; simp; first | exact hgs | exact Ne.symm hgs
        · by_cases h4 : w = giveW
          · subst h4; simp [hgs]
          · simp [h3, h4]
  | [a, b] =>
    simp only [pickTx, numsTx]
    cases numTx a with
    | none => rfl
    | some n => cases numTx b <;> rfl
  | [a, b, c] =>
    simp only [pickTx, numsTx]
    cases numTx a with
    | none => simp
    | some n =>
      cases numTx b with
      | none => simp
      | some x =>
        cases numTx c with
        | none => simp
        | some y =>
          simp only [Option.map_some]
          by_cases hw : w = spoilW <;> simp [hw]
  | a :: b :: c :: d :: r =>
    simp only [pickTx, numsTx]
    cases numTx a with
    | none => rfl
    | some n =>
      cases numTx b with
      | none => rfl
      | some x =>
        cases numTx c with
        | none => rfl
        | some y =>
          cases numTx d with
          | none => rfl
          | some v => cases numsTx r <;> rfl
theorem snumbers_sp (H : AHeap) {x : AV} {ws : List Str} (hx : StrsIs x ws) (hw : ∀ w ∈ ws, w.length ≤ 1000000) (hn : ws.length ≤ 1000000) :
    ∃ y, cl 72 [x] H = some (.tup [y, B (numsN ws).isSome], H) ∧ ∀ r, numsN ws = some r → ∀ H', SliceIs H' y 1 r.length (r.map I) := by
  have key : ∀ k j : Nat, j + k = ws.length → ∀ (Hi : AHeap) (o : AV) (acc : List Int), acc.length ≤ j → Own H.next Hi o 1 (acc.map I) → Step H.next H.guard Hi →
      ∃ y Hz, lp_72x0 cl [o, x, I ws.length, I j] Hi = some (.tup [y, B (numsN (ws.drop j)).isSome], Hz) ∧ (numsN (ws.drop j) = none → y = zN) ∧ ∀ r, numsN (ws.drop j) = some r → Own H.next Hz y 1 ((acc ++ r).map I) := by
    intro k
    induction k with
    | zero =>
      intro j hj Hi o acc ha O s
      have h1 : ¬ (j : Int) < ws.length := by omega
      rw [List.drop_eq_nil_of_le (by omega)]
      refine ⟨o, Hi, ?_, fun h => (by cases h), fun r h => (by cases h; simpa using O)⟩
      rw [le_72x0]
      simp -implicitDefEqProofs only [Nat.reduceLT, bnd_some, bo_some, condK_true, condK_false, gdA_undef, decide_true, decide_false, Int.reduceLE, Int.reduceLT, Int.reduceEq, Int.reduceNeg, Int.reduceAdd, gd_tt, gd_tf, gd_ft, gd_ff, unG_pure, lift_some, bnd_lift, Option.map_some, Option.bind_some, fieldPtr_ref, fieldPtr_ip, nil_ref, nil_ip, nil_fn, ex_tup, fl_agg, List.getElem?_cons_zero, List.getElem?_cons_succ, Nat.zero_add, Nat.add_zero, Nat.reduceAdd, pk_t, pk_f, lss_int, leq_int, gtr_int, geq_int, eql_int, neq_int, not_bool, beq_self_eq_true, if_true, Bool.false_eq_true, if_false, List.nil_append, List.cons_append, List.append_nil, alc_eq, mkm_eq, nNew, nPut, bNew, bPut, nGrd, bGrd, h1, numsN, Option.isSome_some]
    | succ k ih =>
      intro j hj Hi o acc ha O s
      have h1 : (j : Int) < ws.length := by omega
      have hl : j < ws.length := by omega
      have sb : Hi.base = H.next := s.base
      have sn : H.next ≤ Hi.next := s.next
      have h6 : (j : Int) + 1 = ((j + 1 : Nat) : Int) := by omega
      have h7 := wrap_i64 (a := ((j + 1 : Nat) : Int)) (by omega) (by omega)
      obtain ⟨p, i1, i2⟩ := hx.at_ (i := (j : Int)) (w := ws[j]) (by omega) (by rw [Int.toNat_natCast, List.getElem?_eq_getElem hl]) Hi
      have e := number_sp Hi (hw ws[j] (List.getElem_mem hl))
      rw [List.drop_eq_getElem_cons hl]
      rw [le_72x0]
      cases hk : numTx ws[j] with
      | none =>
        rw [hk] at e
        have hn0 : numsN (ws[j] :: ws.drop (j + 1)) = none := by simp only [numsN, hk]
        rw [hn0]
        refine ⟨zN, Hi, ?_, fun _ => rfl, fun r h => (by cases h)⟩
        simp -implicitDefEqProofs only [Nat.reduceLT, bnd_some, bo_some, condK_true, condK_false, gdA_undef, decide_true, decide_false, Int.reduceLE, Int.reduceLT, Int.reduceEq, Int.reduceNeg, Int.reduceAdd, gd_tt, gd_tf, gd_ft, gd_ff, unG_pure, lift_some, bnd_lift, Option.map_some, Option.bind_some, fieldPtr_ref, fieldPtr_ip, nil_ref, nil_ip, nil_fn, ex_tup, fl_agg, List.getElem?_cons_zero, List.getElem?_cons_succ, Nat.zero_add, Nat.add_zero, Nat.reduceAdd, pk_t, pk_f, lss_int, leq_int, gtr_int, geq_int, eql_int, neq_int, not_bool, beq_self_eq_true, if_true, Bool.false_eq_true, if_false, List.nil_append, List.cons_append, List.append_nil, alc_eq, mkm_eq, nNew, nPut, bNew, bPut, nGrd, bGrd, h1, i1, i2, e, optI, Option.isSome_none, Bool.not_false]
      | some n =>
        rw [hk] at e
        by_cases hneg : n < 0
        · have hn0 : numsN (ws[j] :: ws.drop (j + 1)) = none := by simp only [numsN, hk, if_pos hneg]
          rw [hn0]
          refine ⟨zN, Hi, ?_, fun _ => rfl, fun r h => (by cases h)⟩
          simp -implicitDefEqProofs only [Nat.reduceLT, bnd_some, bo_some, condK_true, condK_false, gdA_undef, decide_true, decide_false, Int.reduceLE, Int.reduceLT, Int.reduceEq, Int.reduceNeg, Int.reduceAdd, gd_tt, gd_tf, gd_ft, gd_ff, unG_pure, lift_some, bnd_lift, Option.map_some, Option.bind_some, fieldPtr_ref, fieldPtr_ip, nil_ref, nil_ip, nil_fn, ex_tup, fl_agg, List.getElem?_cons_zero, List.getElem?_cons_succ, Nat.zero_add, Nat.add_zero, Nat.reduceAdd, pk_t, pk_f, lss_int, leq_int, gtr_int, geq_int, eql_int, neq_int, not_bool, beq_self_eq_true, if_true, Bool.false_eq_true, if_false, List.nil_append, List.cons_append, List.append_nil, alc_eq, mkm_eq, nNew, nPut, bNew, bPut, nGrd, bGrd, h1, i1, i2, e, optI, Option.isSome_some, Option.getD_some, Bool.not_true, hneg, Option.isSome_none]
        have hn0 : numsN (ws[j] :: ws.drop (j + 1)) = (numsN (ws.drop (j + 1))).map (n :: ·) := by simp only [numsN, hk, if_neg hneg]
        obtain ⟨o', H', t1, t2, t3⟩ := app_num sn (by omega) O (by omega) n
        obtain ⟨y, Hz, r1, r2, r3⟩ := ih (j + 1) (by omega) H' o' (acc ++ [n]) (by simp; omega) t2 (s.trans t3)
        rw [hn0]
        refine ⟨y, Hz, ?_, fun h => r2 (by cases hh : numsN (ws.drop (j + 1)) with
          | none => rfl
          | some r => rw [hh] at h; cases h), fun r h => ?_⟩
        · simp -implicitDefEqProofs only [Nat.reduceLT, bnd_some, bo_some, condK_true, condK_false, gdA_undef, decide_true, decide_false, Int.reduceLE, Int.reduceLT, Int.reduceEq, Int.reduceNeg, Int.reduceAdd, gd_tt, gd_tf, gd_ft, gd_ff, unG_pure, lift_some, bnd_lift, Option.map_some, Option.bind_some, fieldPtr_ref, fieldPtr_ip, nil_ref, nil_ip, nil_fn, ex_tup, fl_agg, List.getElem?_cons_zero, List.getElem?_cons_succ, Nat.zero_add, Nat.add_zero, Nat.reduceAdd, pk_t, pk_f, lss_int, leq_int, gtr_int, geq_int, eql_int, neq_int, not_bool, beq_self_eq_true, if_true, Bool.false_eq_true, if_false, List.nil_append, List.cons_append, List.append_nil, alc_eq, mkm_eq, nNew, nPut, bNew, bPut, nGrd, bGrd, h1, i1, i2, e, optI, Option.isSome_some, Option.getD_some, Bool.not_true, hneg, Option.isSome_map]
          rw [t1]
          simp -implicitDefEqProofs only [Nat.reduceLT, bnd_some, bo_some, condK_true, condK_false, gdA_undef, decide_true, decide_false, Int.reduceLE, Int.reduceLT, Int.reduceEq, Int.reduceNeg, Int.reduceAdd, gd_tt, gd_tf, gd_ft, gd_ff, unG_pure, lift_some, bnd_lift, Option.map_some, Option.bind_some, fieldPtr_ref, fieldPtr_ip, nil_ref, nil_ip, nil_fn, ex_tup, fl_agg, List.getElem?_cons_zero, List.getElem?_cons_succ, Nat.zero_add, Nat.add_zero, Nat.reduceAdd, pk_t, pk_f, lss_int, leq_int, gtr_int, geq_int, eql_int, neq_int, not_bool, beq_self_eq_true, if_true, Bool.false_eq_true, if_false, List.nil_append, List.cons_append, List.append_nil, alc_eq, mkm_eq, nNew, nPut, bNew, bPut, nGrd, bGrd, add_int, h6, h7, r1]
        · cases hh : numsN (ws.drop (j + 1)) with
          | none => rw [hh] at h; cases h
          | some r' =>
            rw [hh] at h
            simp only [Option.map_some, Option.some.injEq] at h
            subst h
            have := r3 r' hh
            rw [List.append_assoc] at this
            exact this
  obtain ⟨y, Hz, r1, r2, r3⟩ := key ws.length 0 (by omega) H.guard zN [] (by simp) (.inl ⟨rfl, rfl⟩) (Step.refl _ _)
  rw [List.drop_zero] at r1 r2 r3
  have r1' : lp_72x0 cl [zN, x, I ws.length, I 0] H.guard = some (.tup [y, B (numsN ws).isSome], Hz) := r1
  have run : sh_72 cl x H.guard = some (.tup [y, B (numsN ws).isSome], Hz) := by
    have := (hx H.guard).lnS
    simp -implicitDefEqProofs only [Nat.reduceLT, bnd_some, bo_some, condK_true, condK_false, gdA_undef, decide_true, decide_false, Int.reduceLE, Int.reduceLT, Int.reduceEq, Int.reduceNeg, Int.reduceAdd, gd_tt, gd_tf, gd_ft, gd_ff, unG_pure, lift_some, bnd_lift, Option.map_some, Option.bind_some, fieldPtr_ref, fieldPtr_ip, nil_ref, nil_ip, nil_fn, ex_tup, fl_agg, List.getElem?_cons_zero, List.getElem?_cons_succ, Nat.zero_add, Nat.add_zero, Nat.reduceAdd, pk_t, pk_f, lss_int, leq_int, gtr_int, geq_int, eql_int, neq_int, not_bool, beq_self_eq_true, if_true, Bool.false_eq_true, if_false, List.nil_append, List.cons_append, List.append_nil, alc_eq, mkm_eq, nNew, nPut, bNew, bPut, nGrd, bGrd, sh_72, this, zN_T, r1']
  cases hh : numsN ws with
  | none =>
    rw [hh] at run
    have hy := r2 hh
    subst hy
    exact ⟨zN, pure_cl rfl rfl (rn_72 _ _ _ run) rfl, fun r h => by cases h⟩
  | some r =>
    rw [hh] at run
    have O := r3 r hh
    rw [List.nil_append] at O
    obtain ⟨z, f1, f2⟩ := freeze_ownAny (d := 7) (k := r.length) O (by decide) (by simp) (fun y hy => by
      obtain ⟨w, _, rfl⟩ := List.mem_map.1 hy
      exact freeze_s)
    exact ⟨z, pure_cl rfl rfl (rn_72 _ _ _ run) (freeze_tup2 f1), fun r' h H' => by cases h; exact f2 H'⟩
theorem pick_sp (H : AHeap) {y : AV} {ws : List Str} (hy : StrsIs y ws) (hw : WordsOk ws) (hn : ws.length ≤ 1000000) :
    ∃ o : Pck, cl 44 [y] H = some (.tup [.agg o.av, B (pickTx ws).isSome], H) ∧ ∀ o', pickTx ws = some o' → o = o' := by
  obtain ⟨w, rest, rfl⟩ : ∃ w rest, ws = w :: rest := by
    cases ws with
    | nil => exact absurd rfl hw.1
    | cons w r => exact ⟨w, r, rfl⟩
  let H1 := H.guard.new (.blk 0 52 [zB, zI, zI, .s (.int .u16 0)])
  have run : ∀ (o : Pck), (sh_44 cl y H.guard).map Prod.fst = some (.tup [.agg o.av, B (pickTx (w :: rest)).isSome]) → cl 44 [y] H = some (.tup [.agg o.av, B (pickTx (w :: rest)).isSome], H) := fun o h =>
    pure_val rfl rfl (rn_44 _ _ _) h (frz_tup fun x hx => by
      simp only [List.mem_cons, List.mem_singleton, List.not_mem_nil, or_false] at hx
      rcases hx with rfl | rfl
      · exact frz_agg fun z hz => by
          simp only [Pck.av, List.mem_cons, List.mem_singleton, List.not_mem_nil, or_false] at hz
          rcases hz with rfl | rfl | rfl | rfl <;> exact frz_s
      · exact frz_s)
  obtain ⟨z, z1, z2⟩ := hy.tail
  obtain ⟨x, n1, n2⟩ := snumbers_sp H1 z2 (fun v hv => (hw.2 v (by simp [hv])).2) (by simp at hn; omega)
  obtain ⟨p0, a1, a2⟩ : ∃ p, (∀ H, ix 1 y (I 0) H = some (p, H)) ∧ ∀ H, ld p H = some (T w, H) := by
    refine ⟨elemPtr y 0, fun H => (hy H).ix (k := .i64) (i := 0) (by omega) (by simp), fun H => ?_⟩
    rw [(hy H).ld (by simp)]; rfl
  have ot := pick_numsN w rest
  obtain ⟨c1, c2, c3, d1, d2, d3, hk⟩ := pick_is w
  have k1 : ((1 : Nat) : Int) = 1 := rfl
  have k2 : ((2 : Nat) : Int) = 2 := rfl
  have k3 : ((3 : Nat) : Int) = 3 := rfl
  have fail : pickTx (w :: rest) = none → (sh_44 cl y H.guard).map Prod.fst = some (.tup [.agg (Pck.av ⟨false, 0, 0, 0⟩), B false]) → ∃ o : Pck, cl 44 [y] H = some (.tup [.agg o.av, B (pickTx (w :: rest)).isSome], H) ∧ ∀ o', pickTx (w :: rest) = some o' → o = o' := fun hno h =>
    ⟨⟨false, 0, 0, 0⟩, run _ (by rw [hno]; exact h), fun o' h => by rw [hno] at h; cases h⟩
  have good : ∀ o : Pck, pickTx (w :: rest) = some o → (sh_44 cl y H.guard).map Prod.fst = some (.tup [.agg o.av, B true]) → ∃ o : Pck, cl 44 [y] H = some (.tup [.agg o.av, B (pickTx (w :: rest)).isSome], H) ∧ ∀ o', pickTx (w :: rest) = some o' → o = o' := fun o ho h =>
    ⟨o, run _ (by rw [ho]; exact h), fun o' h => by rw [ho] at h; exact Option.some.inj h⟩
  cases hs : numsN rest with
  | none =>
    rw [hs] at n1 ot
    simp only at ot
    refine fail ot ?_
    simp -implicitDefEqProofs only [Nat.reduceLT, bnd_some, bo_some, condK_true, condK_false, gdA_undef, decide_true, decide_false, Int.reduceLE, Int.reduceLT, Int.reduceEq, Int.reduceNeg, Int.reduceAdd, gd_tt, gd_tf, gd_ft, gd_ff, unG_pure, lift_some, bnd_lift, Option.map_some, Option.bind_some, fieldPtr_ref, fieldPtr_ip, nil_ref, nil_ip, nil_fn, ex_tup, fl_agg, List.getElem?_cons_zero, List.getElem?_cons_succ, Nat.zero_add, Nat.add_zero, Nat.reduceAdd, pk_t, pk_f, lss_int, leq_int, gtr_int, geq_int, eql_int, neq_int, not_bool, beq_self_eq_true, if_true, Bool.false_eq_true, if_false, List.nil_append, List.cons_append, List.append_nil, alc_eq, mkm_eq, nNew, nPut, bNew, bPut, nGrd, bGrd, ldN_is, ldN_lt, ldaN_is, ldaN_lt, stN_is, stN_lt, Nat.lt_add_one, ne_eq, nx1, nx2, nx3, ny1, ny2, ny3, not_false_eq_true, List.length_cons, List.length_nil, Nat.reduceLeDiff, setAt, List.take_succ_cons, List.take_zero, List.drop_succ_cons, List.drop_zero, cells_dat, cells_int, cells_bool, cells_agg, List.all_cons, List.all_nil, isCell_int, isCell_bool, isCell_dat, isCell_ref, isCell_nil, isCell_vsl, cells_vsl, av_len_cfg, av_len_pkt, av_len_opn, av_len_evn, av_len_ent, av_len_row, av_len_deal, av_len_pck, tk_cfg, tk_pkt, tk_opn, tk_evn, tk_ent, tk_row, tk_deal, tk_pck, all_cfg, all_pkt, all_opn, all_evn, all_ent, all_row, all_deal, all_pck, List.drop_nil, Bool.and_true, Bool.and_self, and_self, Nat.le_refl, true_and, and_true, Nat.le_add_right, leS, ltS, sh_44, z1, n1, H1, Option.isSome_none, Bool.not_false, bd_52, bldA, fillA, pl_52, put_new, isCell_u16, Pck.av]
    try rfl
  | some r =>
    rw [hs] at n1 ot
    have n2 := n2 r hs
    have ln := fun H => (n2 H).lnS
    match r with
    | [] =>
      simp only at ot
      rcases hk with ⟨rfl, rfl, rfl, hk⟩ | ⟨rfl, rfl, rfl, hk⟩ | ⟨rfl, rfl, rfl, hk⟩ | ⟨rfl, rfl, rfl, h1, h2, h3⟩
      · refine fail ot ?_
        simp -implicitDefEqProofs only [Nat.reduceLT, bnd_some, bo_some, condK_true, condK_false, gdA_undef, decide_true, decide_false, Int.reduceLE, Int.reduceLT, Int.reduceEq, Int.reduceNeg, Int.reduceAdd, gd_tt, gd_tf, gd_ft, gd_ff, unG_pure, lift_some, bnd_lift, Option.map_some, Option.bind_some, fieldPtr_ref, fieldPtr_ip, nil_ref, nil_ip, nil_fn, ex_tup, fl_agg, List.getElem?_cons_zero, List.getElem?_cons_succ, Nat.zero_add, Nat.add_zero, Nat.reduceAdd, pk_t, pk_f, lss_int, leq_int, gtr_int, geq_int, eql_int, neq_int, not_bool, beq_self_eq_true, if_true, Bool.false_eq_true, if_false, List.nil_append, List.cons_append, List.append_nil, alc_eq, mkm_eq, nNew, nPut, bNew, bPut, nGrd, bGrd, ldN_is, ldN_lt, ldaN_is, ldaN_lt, stN_is, stN_lt, Nat.lt_add_one, ne_eq, nx1, nx2, nx3, ny1, ny2, ny3, not_false_eq_true, List.length_cons, List.length_nil, Nat.reduceLeDiff, setAt, List.take_succ_cons, List.take_zero, List.drop_succ_cons, List.drop_zero, cells_dat, cells_int, cells_bool, cells_agg, List.all_cons, List.all_nil, isCell_int, isCell_bool, isCell_dat, isCell_ref, isCell_nil, isCell_vsl, cells_vsl, av_len_cfg, av_len_pkt, av_len_opn, av_len_evn, av_len_ent, av_len_row, av_len_deal, av_len_pck, tk_cfg, tk_pkt, tk_opn, tk_evn, tk_ent, tk_row, tk_deal, tk_pck, all_cfg, all_pkt, all_opn, all_evn, all_ent, all_row, all_deal, all_pck, List.drop_nil, Bool.and_true, Bool.and_self, and_self, Nat.le_refl, true_and, and_true, Nat.le_add_right, leS, ltS, sh_44, z1, n1, H1, Option.isSome_some, Bool.not_true, Bool.not_false, ln, a1, a2, T_str, eql_T, d1, d2, d3, Int.natCast_zero, Int.ofNat_zero, bd_52, bldA, fillA, pl_52, put_new, cells_int, cells_u16, cells_bool, isCell_u16, Pck.av, Option.isSome_none]
        try rfl
      · refine fail ot ?_
        simp -implicitDefEqProofs only [Nat.reduceLT, bnd_some, bo_some, condK_true, condK_false, gdA_undef, decide_true, decide_false, Int.reduceLE, Int.reduceLT, Int.reduceEq, Int.reduceNeg, Int.reduceAdd, gd_tt, gd_tf, gd_ft, gd_ff, unG_pure, lift_some, bnd_lift, Option.map_some, Option.bind_some, fieldPtr_ref, fieldPtr_ip, nil_ref, nil_ip, nil_fn, ex_tup, fl_agg, List.getElem?_cons_zero, List.getElem?_cons_succ, Nat.zero_add, Nat.add_zero, Nat.reduceAdd, pk_t, pk_f, lss_int, leq_int, gtr_int, geq_int, eql_int, neq_int, not_bool, beq_self_eq_true, if_true, Bool.false_eq_true, if_false, List.nil_append, List.cons_append, List.append_nil, alc_eq, mkm_eq, nNew, nPut, bNew, bPut, nGrd, bGrd, ldN_is, ldN_lt, ldaN_is, ldaN_lt, stN_is, stN_lt, Nat.lt_add_one, ne_eq, nx1, nx2, nx3, ny1, ny2, ny3, not_false_eq_true, List.length_cons, List.length_nil, Nat.reduceLeDiff, setAt, List.take_succ_cons, List.take_zero, List.drop_succ_cons, List.drop_zero, cells_dat, cells_int, cells_bool, cells_agg, List.all_cons, List.all_nil, isCell_int, isCell_bool, isCell_dat, isCell_ref, isCell_nil, isCell_vsl, cells_vsl, av_len_cfg, av_len_pkt, av_len_opn, av_len_evn, av_len_ent, av_len_row, av_len_deal, av_len_pck, tk_cfg, tk_pkt, tk_opn, tk_evn, tk_ent, tk_row, tk_deal, tk_pck, all_cfg, all_pkt, all_opn, all_evn, all_ent, all_row, all_deal, all_pck, List.drop_nil, Bool.and_true, Bool.and_self, and_self, Nat.le_refl, true_and, and_true, Nat.le_add_right, leS, ltS, sh_44, z1, n1, H1, Option.isSome_some, Bool.not_true, Bool.not_false, ln, a1, a2, T_str, eql_T, d1, d2, d3, Int.natCast_zero, Int.ofNat_zero, bd_52, bldA, fillA, pl_52, put_new, cells_int, cells_u16, cells_bool, isCell_u16, Pck.av, Option.isSome_none]
        try rfl
      · refine fail ot ?_
        simp -implicitDefEqProofs only [Nat.reduceLT, bnd_some, bo_some, condK_true, condK_false, gdA_undef, decide_true, decide_false, Int.reduceLE, Int.reduceLT, Int.reduceEq, Int.reduceNeg, Int.reduceAdd, gd_tt, gd_tf, gd_ft, gd_ff, unG_pure, lift_some, bnd_lift, Option.map_some, Option.bind_some, fieldPtr_ref, fieldPtr_ip, nil_ref, nil_ip, nil_fn, ex_tup, fl_agg, List.getElem?_cons_zero, List.getElem?_cons_succ, Nat.zero_add, Nat.add_zero, Nat.reduceAdd, pk_t, pk_f, lss_int, leq_int, gtr_int, geq_int, eql_int, neq_int, not_bool, beq_self_eq_true, if_true, Bool.false_eq_true, if_false, List.nil_append, List.cons_append, List.append_nil, alc_eq, mkm_eq, nNew, nPut, bNew, bPut, nGrd, bGrd, ldN_is, ldN_lt, ldaN_is, ldaN_lt, stN_is, stN_lt, Nat.lt_add_one, ne_eq, nx1, nx2, nx3, ny1, ny2, ny3, not_false_eq_true, List.length_cons, List.length_nil, Nat.reduceLeDiff, setAt, List.take_succ_cons, List.take_zero, List.drop_succ_cons, List.drop_zero, cells_dat, cells_int, cells_bool, cells_agg, List.all_cons, List.all_nil, isCell_int, isCell_bool, isCell_dat, isCell_ref, isCell_nil, isCell_vsl, cells_vsl, av_len_cfg, av_len_pkt, av_len_opn, av_len_evn, av_len_ent, av_len_row, av_len_deal, av_len_pck, tk_cfg, tk_pkt, tk_opn, tk_evn, tk_ent, tk_row, tk_deal, tk_pck, all_cfg, all_pkt, all_opn, all_evn, all_ent, all_row, all_deal, all_pck, List.drop_nil, Bool.and_true, Bool.and_self, and_self, Nat.le_refl, true_and, and_true, Nat.le_add_right, leS, ltS, sh_44, z1, n1, H1, Option.isSome_some, Bool.not_true, Bool.not_false, ln, a1, a2, T_str, eql_T, d1, d2, d3, Int.natCast_zero, Int.ofNat_zero, bd_52, bldA, fillA, pl_52, put_new, cells_int, cells_u16, cells_bool, isCell_u16, Pck.av, Option.isSome_none]
        try rfl
      · refine fail ot ?_
        simp -implicitDefEqProofs only [Nat.reduceLT, bnd_some, bo_some, condK_true, condK_false, gdA_undef, decide_true, decide_false, Int.reduceLE, Int.reduceLT, Int.reduceEq, Int.reduceNeg, Int.reduceAdd, gd_tt, gd_tf, gd_ft, gd_ff, unG_pure, lift_some, bnd_lift, Option.map_some, Option.bind_some, fieldPtr_ref, fieldPtr_ip, nil_ref, nil_ip, nil_fn, ex_tup, fl_agg, List.getElem?_cons_zero, List.getElem?_cons_succ, Nat.zero_add, Nat.add_zero, Nat.reduceAdd, pk_t, pk_f, lss_int, leq_int, gtr_int, geq_int, eql_int, neq_int, not_bool, beq_self_eq_true, if_true, Bool.false_eq_true, if_false, List.nil_append, List.cons_append, List.append_nil, alc_eq, mkm_eq, nNew, nPut, bNew, bPut, nGrd, bGrd, ldN_is, ldN_lt, ldaN_is, ldaN_lt, stN_is, stN_lt, Nat.lt_add_one, ne_eq, nx1, nx2, nx3, ny1, ny2, ny3, not_false_eq_true, List.length_cons, List.length_nil, Nat.reduceLeDiff, setAt, List.take_succ_cons, List.take_zero, List.drop_succ_cons, List.drop_zero, cells_dat, cells_int, cells_bool, cells_agg, List.all_cons, List.all_nil, isCell_int, isCell_bool, isCell_dat, isCell_ref, isCell_nil, isCell_vsl, cells_vsl, av_len_cfg, av_len_pkt, av_len_opn, av_len_evn, av_len_ent, av_len_row, av_len_deal, av_len_pck, tk_cfg, tk_pkt, tk_opn, tk_evn, tk_ent, tk_row, tk_deal, tk_pck, all_cfg, all_pkt, all_opn, all_evn, all_ent, all_row, all_deal, all_pck, List.drop_nil, Bool.and_true, Bool.and_self, and_self, Nat.le_refl, true_and, and_true, Nat.le_add_right, leS, ltS, sh_44, z1, n1, H1, Option.isSome_some, Bool.not_true, Bool.not_false, ln, a1, a2, T_str, eql_T, d1, d2, d3, Int.natCast_zero, Int.ofNat_zero, bd_52, bldA, fillA, pl_52, put_new, cells_int, cells_u16, cells_bool, isCell_u16, Pck.av, Option.isSome_none]
        try rfl
    | [n] =>
      simp only at ot
      obtain ⟨q0, e0, f0⟩ : ∃ p, (∀ H, ix 1 x (I 0) H = some (p, H)) ∧ ∀ H, ld p H = some (I n, H) := by
        refine ⟨elemPtr x 0, fun H => (n2 H).ix (k := .i64) (i := 0) (by omega) (by simp), fun H => ?_⟩
        rw [(n2 H).ld (by simp)]; rfl
      rcases hk with ⟨rfl, rfl, rfl, hk⟩ | ⟨rfl, rfl, rfl, hk⟩ | ⟨rfl, rfl, rfl, hk⟩ | ⟨rfl, rfl, rfl, h1, h2, h3⟩
      · rw [if_pos hk] at ot
        refine good _ ot ?_
        simp -implicitDefEqProofs only [Nat.reduceLT, bnd_some, bo_some, condK_true, condK_false, gdA_undef, decide_true, decide_false, Int.reduceLE, Int.reduceLT, Int.reduceEq, Int.reduceNeg, Int.reduceAdd, gd_tt, gd_tf, gd_ft, gd_ff, unG_pure, lift_some, bnd_lift, Option.map_some, Option.bind_some, fieldPtr_ref, fieldPtr_ip, nil_ref, nil_ip, nil_fn, ex_tup, fl_agg, List.getElem?_cons_zero, List.getElem?_cons_succ, Nat.zero_add, Nat.add_zero, Nat.reduceAdd, pk_t, pk_f, lss_int, leq_int, gtr_int, geq_int, eql_int, neq_int, not_bool, beq_self_eq_true, if_true, Bool.false_eq_true, if_false, List.nil_append, List.cons_append, List.append_nil, alc_eq, mkm_eq, nNew, nPut, bNew, bPut, nGrd, bGrd, ldN_is, ldN_lt, ldaN_is, ldaN_lt, stN_is, stN_lt, Nat.lt_add_one, ne_eq, nx1, nx2, nx3, ny1, ny2, ny3, not_false_eq_true, List.length_cons, List.length_nil, Nat.reduceLeDiff, setAt, List.take_succ_cons, List.take_zero, List.drop_succ_cons, List.drop_zero, cells_dat, cells_int, cells_bool, cells_agg, List.all_cons, List.all_nil, isCell_int, isCell_bool, isCell_dat, isCell_ref, isCell_nil, isCell_vsl, cells_vsl, av_len_cfg, av_len_pkt, av_len_opn, av_len_evn, av_len_ent, av_len_row, av_len_deal, av_len_pck, tk_cfg, tk_pkt, tk_opn, tk_evn, tk_ent, tk_row, tk_deal, tk_pck, all_cfg, all_pkt, all_opn, all_evn, all_ent, all_row, all_deal, all_pck, List.drop_nil, Bool.and_true, Bool.and_self, and_self, Nat.le_refl, true_and, and_true, Nat.le_add_right, leS, ltS, sh_44, z1, n1, H1, Option.isSome_some, Bool.not_true, Bool.not_false, ln, a1, a2, T_str, eql_T, d1, d2, d3, e0, f0, k1, bd_52, bldA, fillA, pl_52, put_new, cells_int, cells_u16, cells_bool, isCell_u16, Pck.av, Option.isSome_none]
        try rfl
      · rw [if_neg (by rw [hk]; decide), if_pos hk] at ot
        refine good _ ot ?_
        simp -implicitDefEqProofs only [Nat.reduceLT, bnd_some, bo_some, condK_true, condK_false, gdA_undef, decide_true, decide_false, Int.reduceLE, Int.reduceLT, Int.reduceEq, Int.reduceNeg, Int.reduceAdd, gd_tt, gd_tf, gd_ft, gd_ff, unG_pure, lift_some, bnd_lift, Option.map_some, Option.bind_some, fieldPtr_ref, fieldPtr_ip, nil_ref, nil_ip, nil_fn, ex_tup, fl_agg, List.getElem?_cons_zero, List.getElem?_cons_succ, Nat.zero_add, Nat.add_zero, Nat.reduceAdd, pk_t, pk_f, lss_int, leq_int, gtr_int, geq_int, eql_int, neq_int, not_bool, beq_self_eq_true, if_true, Bool.false_eq_true, if_false, List.nil_append, List.cons_append, List.append_nil, alc_eq, mkm_eq, nNew, nPut, bNew, bPut, nGrd, bGrd, ldN_is, ldN_lt, ldaN_is, ldaN_lt, stN_is, stN_lt, Nat.lt_add_one, ne_eq, nx1, nx2, nx3, ny1, ny2, ny3, not_false_eq_true, List.length_cons, List.length_nil, Nat.reduceLeDiff, setAt, List.take_succ_cons, List.take_zero, List.drop_succ_cons, List.drop_zero, cells_dat, cells_int, cells_bool, cells_agg, List.all_cons, List.all_nil, isCell_int, isCell_bool, isCell_dat, isCell_ref, isCell_nil, isCell_vsl, cells_vsl, av_len_cfg, av_len_pkt, av_len_opn, av_len_evn, av_len_ent, av_len_row, av_len_deal, av_len_pck, tk_cfg, tk_pkt, tk_opn, tk_evn, tk_ent, tk_row, tk_deal, tk_pck, all_cfg, all_pkt, all_opn, all_evn, all_ent, all_row, all_deal, all_pck, List.drop_nil, Bool.and_true, Bool.and_self, and_self, Nat.le_refl, true_and, and_true, Nat.le_add_right, leS, ltS, sh_44, z1, n1, H1, Option.isSome_some, Bool.not_true, Bool.not_false, ln, a1, a2, T_str, eql_T, d1, d2, d3, e0, f0, k1, bd_52, bldA, fillA, pl_52, put_new, cells_int, cells_u16, cells_bool, isCell_u16, Pck.av, Option.isSome_none]
        try rfl
      · rw [if_neg (by rw [hk]; decide), if_neg (by rw [hk]; decide)] at ot
        refine fail ot ?_
        simp -implicitDefEqProofs only [Nat.reduceLT, bnd_some, bo_some, condK_true, condK_false, gdA_undef, decide_true, decide_false, Int.reduceLE, Int.reduceLT, Int.reduceEq, Int.reduceNeg, Int.reduceAdd, gd_tt, gd_tf, gd_ft, gd_ff, unG_pure, lift_some, bnd_lift, Option.map_some, Option.bind_some, fieldPtr_ref, fieldPtr_ip, nil_ref, nil_ip, nil_fn, ex_tup, fl_agg, List.getElem?_cons_zero, List.getElem?_cons_succ, Nat.zero_add, Nat.add_zero, Nat.reduceAdd, pk_t, pk_f, lss_int, leq_int, gtr_int, geq_int, eql_int, neq_int, not_bool, beq_self_eq_true, if_true, Bool.false_eq_true, if_false, List.nil_append, List.cons_append, List.append_nil, alc_eq, mkm_eq, nNew, nPut, bNew, bPut, nGrd, bGrd, ldN_is, ldN_lt, ldaN_is, ldaN_lt, stN_is, stN_lt, Nat.lt_add_one, ne_eq, nx1, nx2, nx3, ny1, ny2, ny3, not_false_eq_true, List.length_cons, List.length_nil, Nat.reduceLeDiff, setAt, List.take_succ_cons, List.take_zero, List.drop_succ_cons, List.drop_zero, cells_dat, cells_int, cells_bool, cells_agg, List.all_cons, List.all_nil, isCell_int, isCell_bool, isCell_dat, isCell_ref, isCell_nil, isCell_vsl, cells_vsl, av_len_cfg, av_len_pkt, av_len_opn, av_len_evn, av_len_ent, av_len_row, av_len_deal, av_len_pck, tk_cfg, tk_pkt, tk_opn, tk_evn, tk_ent, tk_row, tk_deal, tk_pck, all_cfg, all_pkt, all_opn, all_evn, all_ent, all_row, all_deal, all_pck, List.drop_nil, Bool.and_true, Bool.and_self, and_self, Nat.le_refl, true_and, and_true, Nat.le_add_right, leS, ltS, sh_44, z1, n1, H1, Option.isSome_some, Bool.not_true, Bool.not_false, ln, a1, a2, T_str, eql_T, d1, d2, d3, e0, f0, k1, bd_52, bldA, fillA, pl_52, put_new, cells_int, cells_u16, cells_bool, isCell_u16, Pck.av, Option.isSome_none]
        try rfl
      · rw [if_neg h1, if_neg h2] at ot
        refine fail ot ?_
        simp -implicitDefEqProofs only [Nat.reduceLT, bnd_some, bo_some, condK_true, condK_false, gdA_undef, decide_true, decide_false, Int.reduceLE, Int.reduceLT, Int.reduceEq, Int.reduceNeg, Int.reduceAdd, gd_tt, gd_tf, gd_ft, gd_ff, unG_pure, lift_some, bnd_lift, Option.map_some, Option.bind_some, fieldPtr_ref, fieldPtr_ip, nil_ref, nil_ip, nil_fn, ex_tup, fl_agg, List.getElem?_cons_zero, List.getElem?_cons_succ, Nat.zero_add, Nat.add_zero, Nat.reduceAdd, pk_t, pk_f, lss_int, leq_int, gtr_int, geq_int, eql_int, neq_int, not_bool, beq_self_eq_true, if_true, Bool.false_eq_true, if_false, List.nil_append, List.cons_append, List.append_nil, alc_eq, mkm_eq, nNew, nPut, bNew, bPut, nGrd, bGrd, ldN_is, ldN_lt, ldaN_is, ldaN_lt, stN_is, stN_lt, Nat.lt_add_one, ne_eq, nx1, nx2, nx3, ny1, ny2, ny3, not_false_eq_true, List.length_cons, List.length_nil, Nat.reduceLeDiff, setAt, List.take_succ_cons, List.take_zero, List.drop_succ_cons, List.drop_zero, cells_dat, cells_int, cells_bool, cells_agg, List.all_cons, List.all_nil, isCell_int, isCell_bool, isCell_dat, isCell_ref, isCell_nil, isCell_vsl, cells_vsl, av_len_cfg, av_len_pkt, av_len_opn, av_len_evn, av_len_ent, av_len_row, av_len_deal, av_len_pck, tk_cfg, tk_pkt, tk_opn, tk_evn, tk_ent, tk_row, tk_deal, tk_pck, all_cfg, all_pkt, all_opn, all_evn, all_ent, all_row, all_deal, all_pck, List.drop_nil, Bool.and_true, Bool.and_self, and_self, Nat.le_refl, true_and, and_true, Nat.le_add_right, leS, ltS, sh_44, z1, n1, H1, Option.isSome_some, Bool.not_true, Bool.not_false, ln, a1, a2, T_str, eql_T, d1, d2, d3, e0, f0, k1, bd_52, bldA, fillA, pl_52, put_new, cells_int, cells_u16, cells_bool, isCell_u16, Pck.av, Option.isSome_none]
        try rfl
    | [n, m] =>
      simp only at ot
      rcases hk with ⟨rfl, rfl, rfl, hk⟩ | ⟨rfl, rfl, rfl, hk⟩ | ⟨rfl, rfl, rfl, hk⟩ | ⟨rfl, rfl, rfl, h1, h2, h3⟩
      · refine fail ot ?_
        simp -implicitDefEqProofs only [Nat.reduceLT, bnd_some, bo_some, condK_true, condK_false, gdA_undef, decide_true, decide_false, Int.reduceLE, Int.reduceLT, Int.reduceEq, Int.reduceNeg, Int.reduceAdd, gd_tt, gd_tf, gd_ft, gd_ff, unG_pure, lift_some, bnd_lift, Option.map_some, Option.bind_some, fieldPtr_ref, fieldPtr_ip, nil_ref, nil_ip, nil_fn, ex_tup, fl_agg, List.getElem?_cons_zero, List.getElem?_cons_succ, Nat.zero_add, Nat.add_zero, Nat.reduceAdd, pk_t, pk_f, lss_int, leq_int, gtr_int, geq_int, eql_int, neq_int, not_bool, beq_self_eq_true, if_true, Bool.false_eq_true, if_false, List.nil_append, List.cons_append, List.append_nil, alc_eq, mkm_eq, nNew, nPut, bNew, bPut, nGrd, bGrd, ldN_is, ldN_lt, ldaN_is, ldaN_lt, stN_is, stN_lt, Nat.lt_add_one, ne_eq, nx1, nx2, nx3, ny1, ny2, ny3, not_false_eq_true, List.length_cons, List.length_nil, Nat.reduceLeDiff, setAt, List.take_succ_cons, List.take_zero, List.drop_succ_cons, List.drop_zero, cells_dat, cells_int, cells_bool, cells_agg, List.all_cons, List.all_nil, isCell_int, isCell_bool, isCell_dat, isCell_ref, isCell_nil, isCell_vsl, cells_vsl, av_len_cfg, av_len_pkt, av_len_opn, av_len_evn, av_len_ent, av_len_row, av_len_deal, av_len_pck, tk_cfg, tk_pkt, tk_opn, tk_evn, tk_ent, tk_row, tk_deal, tk_pck, all_cfg, all_pkt, all_opn, all_evn, all_ent, all_row, all_deal, all_pck, List.drop_nil, Bool.and_true, Bool.and_self, and_self, Nat.le_refl, true_and, and_true, Nat.le_add_right, leS, ltS, sh_44, z1, n1, H1, Option.isSome_some, Bool.not_true, Bool.not_false, ln, a1, a2, T_str, eql_T, d1, d2, d3, k2, bd_52, bldA, fillA, pl_52, put_new, cells_int, cells_u16, cells_bool, isCell_u16, Pck.av, Option.isSome_none]
        try rfl
      · refine fail ot ?_
        simp -implicitDefEqProofs only [Nat.reduceLT, bnd_some, bo_some, condK_true, condK_false, gdA_undef, decide_true, decide_false, Int.reduceLE, Int.reduceLT, Int.reduceEq, Int.reduceNeg, Int.reduceAdd, gd_tt, gd_tf, gd_ft, gd_ff, unG_pure, lift_some, bnd_lift, Option.map_some, Option.bind_some, fieldPtr_ref, fieldPtr_ip, nil_ref, nil_ip, nil_fn, ex_tup, fl_agg, List.getElem?_cons_zero, List.getElem?_cons_succ, Nat.zero_add, Nat.add_zero, Nat.reduceAdd, pk_t, pk_f, lss_int, leq_int, gtr_int, geq_int, eql_int, neq_int, not_bool, beq_self_eq_true, if_true, Bool.false_eq_true, if_false, List.nil_append, List.cons_append, List.append_nil, alc_eq, mkm_eq, nNew, nPut, bNew, bPut, nGrd, bGrd, ldN_is, ldN_lt, ldaN_is, ldaN_lt, stN_is, stN_lt, Nat.lt_add_one, ne_eq, nx1, nx2, nx3, ny1, ny2, ny3, not_false_eq_true, List.length_cons, List.length_nil, Nat.reduceLeDiff, setAt, List.take_succ_cons, List.take_zero, List.drop_succ_cons, List.drop_zero, cells_dat, cells_int, cells_bool, cells_agg, List.all_cons, List.all_nil, isCell_int, isCell_bool, isCell_dat, isCell_ref, isCell_nil, isCell_vsl, cells_vsl, av_len_cfg, av_len_pkt, av_len_opn, av_len_evn, av_len_ent, av_len_row, av_len_deal, av_len_pck, tk_cfg, tk_pkt, tk_opn, tk_evn, tk_ent, tk_row, tk_deal, tk_pck, all_cfg, all_pkt, all_opn, all_evn, all_ent, all_row, all_deal, all_pck, List.drop_nil, Bool.and_true, Bool.and_self, and_self, Nat.le_refl, true_and, and_true, Nat.le_add_right, leS, ltS, sh_44, z1, n1, H1, Option.isSome_some, Bool.not_true, Bool.not_false, ln, a1, a2, T_str, eql_T, d1, d2, d3, k2, bd_52, bldA, fillA, pl_52, put_new, cells_int, cells_u16, cells_bool, isCell_u16, Pck.av, Option.isSome_none]
        try rfl
      · refine fail ot ?_
        simp -implicitDefEqProofs only [Nat.reduceLT, bnd_some, bo_some, condK_true, condK_false, gdA_undef, decide_true, decide_false, Int.reduceLE, Int.reduceLT, Int.reduceEq, Int.reduceNeg, Int.reduceAdd, gd_tt, gd_tf, gd_ft, gd_ff, unG_pure, lift_some, bnd_lift, Option.map_some, Option.bind_some, fieldPtr_ref, fieldPtr_ip, nil_ref, nil_ip, nil_fn, ex_tup, fl_agg, List.getElem?_cons_zero, List.getElem?_cons_succ, Nat.zero_add, Nat.add_zero, Nat.reduceAdd, pk_t, pk_f, lss_int, leq_int, gtr_int, geq_int, eql_int, neq_int, not_bool, beq_self_eq_true, if_true, Bool.false_eq_true, if_false, List.nil_append, List.cons_append, List.append_nil, alc_eq, mkm_eq, nNew, nPut, bNew, bPut, nGrd, bGrd, ldN_is, ldN_lt, ldaN_is, ldaN_lt, stN_is, stN_lt, Nat.lt_add_one, ne_eq, nx1, nx2, nx3, ny1, ny2, ny3, not_false_eq_true, List.length_cons, List.length_nil, Nat.reduceLeDiff, setAt, List.take_succ_cons, List.take_zero, List.drop_succ_cons, List.drop_zero, cells_dat, cells_int, cells_bool, cells_agg, List.all_cons, List.all_nil, isCell_int, isCell_bool, isCell_dat, isCell_ref, isCell_nil, isCell_vsl, cells_vsl, av_len_cfg, av_len_pkt, av_len_opn, av_len_evn, av_len_ent, av_len_row, av_len_deal, av_len_pck, tk_cfg, tk_pkt, tk_opn, tk_evn, tk_ent, tk_row, tk_deal, tk_pck, all_cfg, all_pkt, all_opn, all_evn, all_ent, all_row, all_deal, all_pck, List.drop_nil, Bool.and_true, Bool.and_self, and_self, Nat.le_refl, true_and, and_true, Nat.le_add_right, leS, ltS, sh_44, z1, n1, H1, Option.isSome_some, Bool.not_true, Bool.not_false, ln, a1, a2, T_str, eql_T, d1, d2, d3, k2, bd_52, bldA, fillA, pl_52, put_new, cells_int, cells_u16, cells_bool, isCell_u16, Pck.av, Option.isSome_none]
        try rfl
      · refine fail ot ?_
        simp -implicitDefEqProofs only [Nat.reduceLT, bnd_some, bo_some, condK_true, condK_false, gdA_undef, decide_true, decide_false, Int.reduceLE, Int.reduceLT, Int.reduceEq, Int.reduceNeg, Int.reduceAdd, gd_tt, gd_tf, gd_ft, gd_ff, unG_pure, lift_some, bnd_lift, Option.map_some, Option.bind_some, fieldPtr_ref, fieldPtr_ip, nil_ref, nil_ip, nil_fn, ex_tup, fl_agg, List.getElem?_cons_zero, List.getElem?_cons_succ, Nat.zero_add, Nat.add_zero, Nat.reduceAdd, pk_t, pk_f, lss_int, leq_int, gtr_int, geq_int, eql_int, neq_int, not_bool, beq_self_eq_true, if_true, Bool.false_eq_true, if_false, List.nil_append, List.cons_append, List.append_nil, alc_eq, mkm_eq, nNew, nPut, bNew, bPut, nGrd, bGrd, ldN_is, ldN_lt, ldaN_is, ldaN_lt, stN_is, stN_lt, Nat.lt_add_one, ne_eq, nx1, nx2, nx3, ny1, ny2, ny3, not_false_eq_true, List.length_cons, List.length_nil, Nat.reduceLeDiff, setAt, List.take_succ_cons, List.take_zero, List.drop_succ_cons, List.drop_zero, cells_dat, cells_int, cells_bool, cells_agg, List.all_cons, List.all_nil, isCell_int, isCell_bool, isCell_dat, isCell_ref, isCell_nil, isCell_vsl, cells_vsl, av_len_cfg, av_len_pkt, av_len_opn, av_len_evn, av_len_ent, av_len_row, av_len_deal, av_len_pck, tk_cfg, tk_pkt, tk_opn, tk_evn, tk_ent, tk_row, tk_deal, tk_pck, all_cfg, all_pkt, all_opn, all_evn, all_ent, all_row, all_deal, all_pck, List.drop_nil, Bool.and_true, Bool.and_self, and_self, Nat.le_refl, true_and, and_true, Nat.le_add_right, leS, ltS, sh_44, z1, n1, H1, Option.isSome_some, Bool.not_true, Bool.not_false, ln, a1, a2, T_str, eql_T, d1, d2, d3, k2, bd_52, bldA, fillA, pl_52, put_new, cells_int, cells_u16, cells_bool, isCell_u16, Pck.av, Option.isSome_none]
        try rfl
    | [n, b, m] =>
      simp only at ot
      obtain ⟨q0, e0, f0⟩ : ∃ p, (∀ H, ix 1 x (I 0) H = some (p, H)) ∧ ∀ H, ld p H = some (I n, H) := by
        refine ⟨elemPtr x 0, fun H => (n2 H).ix (k := .i64) (i := 0) (by omega) (by simp), fun H => ?_⟩
        rw [(n2 H).ld (by simp)]; rfl
      obtain ⟨q1, e1, f1⟩ : ∃ p, (∀ H, ix 1 x (I 1) H = some (p, H)) ∧ ∀ H, ld p H = some (I b, H) := by
        refine ⟨elemPtr x 1, fun H => (n2 H).ix (k := .i64) (i := 1) (by omega) (by simp), fun H => ?_⟩
        rw [(n2 H).ld (by simp)]; rfl
      obtain ⟨q2, e2, f2⟩ : ∃ p, (∀ H, ix 1 x (I 2) H = some (p, H)) ∧ ∀ H, ld p H = some (I m, H) := by
        refine ⟨elemPtr x 2, fun H => (n2 H).ix (k := .i64) (i := 2) (by omega) (by simp), fun H => ?_⟩
        rw [(n2 H).ld (by simp)]; rfl
      rcases hk with ⟨rfl, rfl, rfl, hk⟩ | ⟨rfl, rfl, rfl, hk⟩ | ⟨rfl, rfl, rfl, hk⟩ | ⟨rfl, rfl, rfl, h1, h2, h3⟩
      · rw [if_neg (fun h => by rw [hk] at h; exact absurd h.1 (by decide))] at ot
        refine fail ot ?_
        simp -implicitDefEqProofs only [Nat.reduceLT, bnd_some, bo_some, condK_true, condK_false, gdA_undef, decide_true, decide_false, Int.reduceLE, Int.reduceLT, Int.reduceEq, Int.reduceNeg, Int.reduceAdd, gd_tt, gd_tf, gd_ft, gd_ff, unG_pure, lift_some, bnd_lift, Option.map_some, Option.bind_some, fieldPtr_ref, fieldPtr_ip, nil_ref, nil_ip, nil_fn, ex_tup, fl_agg, List.getElem?_cons_zero, List.getElem?_cons_succ, Nat.zero_add, Nat.add_zero, Nat.reduceAdd, pk_t, pk_f, lss_int, leq_int, gtr_int, geq_int, eql_int, neq_int, not_bool, beq_self_eq_true, if_true, Bool.false_eq_true, if_false, List.nil_append, List.cons_append, List.append_nil, alc_eq, mkm_eq, nNew, nPut, bNew, bPut, nGrd, bGrd, ldN_is, ldN_lt, ldaN_is, ldaN_lt, stN_is, stN_lt, Nat.lt_add_one, ne_eq, nx1, nx2, nx3, ny1, ny2, ny3, not_false_eq_true, List.length_cons, List.length_nil, Nat.reduceLeDiff, setAt, List.take_succ_cons, List.take_zero, List.drop_succ_cons, List.drop_zero, cells_dat, cells_int, cells_bool, cells_agg, List.all_cons, List.all_nil, isCell_int, isCell_bool, isCell_dat, isCell_ref, isCell_nil, isCell_vsl, cells_vsl, av_len_cfg, av_len_pkt, av_len_opn, av_len_evn, av_len_ent, av_len_row, av_len_deal, av_len_pck, tk_cfg, tk_pkt, tk_opn, tk_evn, tk_ent, tk_row, tk_deal, tk_pck, all_cfg, all_pkt, all_opn, all_evn, all_ent, all_row, all_deal, all_pck, List.drop_nil, Bool.and_true, Bool.and_self, and_self, Nat.le_refl, true_and, and_true, Nat.le_add_right, leS, ltS, sh_44, z1, n1, H1, Option.isSome_some, Bool.not_true, Bool.not_false, ln, a1, a2, T_str, eql_T, d1, d2, d3, e0, f0, e1, f1, e2, f2, k3, bd_52, bldA, fillA, pl_52, put_new, cells_int, cells_u16, cells_bool, isCell_u16, Pck.av, Option.isSome_none]
        try rfl
      · rw [if_neg (fun h => by rw [hk] at h; exact absurd h.1 (by decide))] at ot
        refine fail ot ?_
        simp -implicitDefEqProofs only [Nat.reduceLT, bnd_some, bo_some, condK_true, condK_false, gdA_undef, decide_true, decide_false, Int.reduceLE, Int.reduceLT, Int.reduceEq, Int.reduceNeg, Int.reduceAdd, gd_tt, gd_tf, gd_ft, gd_ff, unG_pure, lift_some, bnd_lift, Option.map_some, Option.bind_some, fieldPtr_ref, fieldPtr_ip, nil_ref, nil_ip, nil_fn, ex_tup, fl_agg, List.getElem?_cons_zero, List.getElem?_cons_succ, Nat.zero_add, Nat.add_zero, Nat.reduceAdd, pk_t, pk_f, lss_int, leq_int, gtr_int, geq_int, eql_int, neq_int, not_bool, beq_self_eq_true, if_true, Bool.false_eq_true, if_false, List.nil_append, List.cons_append, List.append_nil, alc_eq, mkm_eq, nNew, nPut, bNew, bPut, nGrd, bGrd, ldN_is, ldN_lt, ldaN_is, ldaN_lt, stN_is, stN_lt, Nat.lt_add_one, ne_eq, nx1, nx2, nx3, ny1, ny2, ny3, not_false_eq_true, List.length_cons, List.length_nil, Nat.reduceLeDiff, setAt, List.take_succ_cons, List.take_zero, List.drop_succ_cons, List.drop_zero, cells_dat, cells_int, cells_bool, cells_agg, List.all_cons, List.all_nil, isCell_int, isCell_bool, isCell_dat, isCell_ref, isCell_nil, isCell_vsl, cells_vsl, av_len_cfg, av_len_pkt, av_len_opn, av_len_evn, av_len_ent, av_len_row, av_len_deal, av_len_pck, tk_cfg, tk_pkt, tk_opn, tk_evn, tk_ent, tk_row, tk_deal, tk_pck, all_cfg, all_pkt, all_opn, all_evn, all_ent, all_row, all_deal, all_pck, List.drop_nil, Bool.and_true, Bool.and_self, and_self, Nat.le_refl, true_and, and_true, Nat.le_add_right, leS, ltS, sh_44, z1, n1, H1, Option.isSome_some, Bool.not_true, Bool.not_false, ln, a1, a2, T_str, eql_T, d1, d2, d3, e0, f0, e1, f1, e2, f2, k3, bd_52, bldA, fillA, pl_52, put_new, cells_int, cells_u16, cells_bool, isCell_u16, Pck.av, Option.isSome_none]
        try rfl
      · have cc : ∀ H, 1 ≤ m → m ≤ 65535 → cv 3 50 (I m) H = some (.s (.int .u16 m), H) := fun H h1 h2 => by
          have := cv_int (P := Tryd.prog) (s := 3) (d := 50) (k := .i64) (n := m) (H := H) (by kernel_rfl) Tryd.underlying3 Tryd.underlying50
          rw [wrap_u16 (by omega) (by omega)] at this
          exact this
        by_cases g1 : 1 ≤ m
        rotate_left
        · rw [if_neg (fun h => g1 h.2.1)] at ot
          refine fail ot ?_
          simp -implicitDefEqProofs only [Nat.reduceLT, bnd_some, bo_some, condK_true, condK_false, gdA_undef, decide_true, decide_false, Int.reduceLE, Int.reduceLT, Int.reduceEq, Int.reduceNeg, Int.reduceAdd, gd_tt, gd_tf, gd_ft, gd_ff, unG_pure, lift_some, bnd_lift, Option.map_some, Option.bind_some, fieldPtr_ref, fieldPtr_ip, nil_ref, nil_ip, nil_fn, ex_tup, fl_agg, List.getElem?_cons_zero, List.getElem?_cons_succ, Nat.zero_add, Nat.add_zero, Nat.reduceAdd, pk_t, pk_f, lss_int, leq_int, gtr_int, geq_int, eql_int, neq_int, not_bool, beq_self_eq_true, if_true, Bool.false_eq_true, if_false, List.nil_append, List.cons_append, List.append_nil, alc_eq, mkm_eq, nNew, nPut, bNew, bPut, nGrd, bGrd, ldN_is, ldN_lt, ldaN_is, ldaN_lt, stN_is, stN_lt, Nat.lt_add_one, ne_eq, nx1, nx2, nx3, ny1, ny2, ny3, not_false_eq_true, List.length_cons, List.length_nil, Nat.reduceLeDiff, setAt, List.take_succ_cons, List.take_zero, List.drop_succ_cons, List.drop_zero, cells_dat, cells_int, cells_bool, cells_agg, List.all_cons, List.all_nil, isCell_int, isCell_bool, isCell_dat, isCell_ref, isCell_nil, isCell_vsl, cells_vsl, av_len_cfg, av_len_pkt, av_len_opn, av_len_evn, av_len_ent, av_len_row, av_len_deal, av_len_pck, tk_cfg, tk_pkt, tk_opn, tk_evn, tk_ent, tk_row, tk_deal, tk_pck, all_cfg, all_pkt, all_opn, all_evn, all_ent, all_row, all_deal, all_pck, List.drop_nil, Bool.and_true, Bool.and_self, and_self, Nat.le_refl, true_and, and_true, Nat.le_add_right, leS, ltS, sh_44, z1, n1, H1, Option.isSome_some, Bool.not_true, Bool.not_false, ln, a1, a2, T_str, eql_T, d1, d2, d3, e0, f0, e1, f1, e2, f2, k3, g1, bd_52, bldA, fillA, pl_52, put_new, cells_int, cells_u16, cells_bool, isCell_u16, Pck.av, Option.isSome_none]
          try rfl
        by_cases g2 : m ≤ 65535
        rotate_left
        · rw [if_neg (fun h => g2 h.2.2)] at ot
          refine fail ot ?_
          simp -implicitDefEqProofs only [Nat.reduceLT, bnd_some, bo_some, condK_true, condK_false, gdA_undef, decide_true, decide_false, Int.reduceLE, Int.reduceLT, Int.reduceEq, Int.reduceNeg, Int.reduceAdd, gd_tt, gd_tf, gd_ft, gd_ff, unG_pure, lift_some, bnd_lift, Option.map_some, Option.bind_some, fieldPtr_ref, fieldPtr_ip, nil_ref, nil_ip, nil_fn, ex_tup, fl_agg, List.getElem?_cons_zero, List.getElem?_cons_succ, Nat.zero_add, Nat.add_zero, Nat.reduceAdd, pk_t, pk_f, lss_int, leq_int, gtr_int, geq_int, eql_int, neq_int, not_bool, beq_self_eq_true, if_true, Bool.false_eq_true, if_false, List.nil_append, List.cons_append, List.append_nil, alc_eq, mkm_eq, nNew, nPut, bNew, bPut, nGrd, bGrd, ldN_is, ldN_lt, ldaN_is, ldaN_lt, stN_is, stN_lt, Nat.lt_add_one, ne_eq, nx1, nx2, nx3, ny1, ny2, ny3, not_false_eq_true, List.length_cons, List.length_nil, Nat.reduceLeDiff, setAt, List.take_succ_cons, List.take_zero, List.drop_succ_cons, List.drop_zero, cells_dat, cells_int, cells_bool, cells_agg, List.all_cons, List.all_nil, isCell_int, isCell_bool, isCell_dat, isCell_ref, isCell_nil, isCell_vsl, cells_vsl, av_len_cfg, av_len_pkt, av_len_opn, av_len_evn, av_len_ent, av_len_row, av_len_deal, av_len_pck, tk_cfg, tk_pkt, tk_opn, tk_evn, tk_ent, tk_row, tk_deal, tk_pck, all_cfg, all_pkt, all_opn, all_evn, all_ent, all_row, all_deal, all_pck, List.drop_nil, Bool.and_true, Bool.and_self, and_self, Nat.le_refl, true_and, and_true, Nat.le_add_right, leS, ltS, sh_44, z1, n1, H1, Option.isSome_some, Bool.not_true, Bool.not_false, ln, a1, a2, T_str, eql_T, d1, d2, d3, e0, f0, e1, f1, e2, f2, k3, g1, g2, bd_52, bldA, fillA, pl_52, put_new, cells_int, cells_u16, cells_bool, isCell_u16, Pck.av, Option.isSome_none]
          try rfl
        rw [if_pos ⟨hk, g1, g2⟩] at ot
        have cc := fun H => cc H g1 g2
        refine good _ ot ?_
        simp -implicitDefEqProofs only [Nat.reduceLT, bnd_some, bo_some, condK_true, condK_false, gdA_undef, decide_true, decide_false, Int.reduceLE, Int.reduceLT, Int.reduceEq, Int.reduceNeg, Int.reduceAdd, gd_tt, gd_tf, gd_ft, gd_ff, unG_pure, lift_some, bnd_lift, Option.map_some, Option.bind_some, fieldPtr_ref, fieldPtr_ip, nil_ref, nil_ip, nil_fn, ex_tup, fl_agg, List.getElem?_cons_zero, List.getElem?_cons_succ, Nat.zero_add, Nat.add_zero, Nat.reduceAdd, pk_t, pk_f, lss_int, leq_int, gtr_int, geq_int, eql_int, neq_int, not_bool, beq_self_eq_true, if_true, Bool.false_eq_true, if_false, List.nil_append, List.cons_append, List.append_nil, alc_eq, mkm_eq, nNew, nPut, bNew, bPut, nGrd, bGrd, ldN_is, ldN_lt, ldaN_is, ldaN_lt, stN_is, stN_lt, Nat.lt_add_one, ne_eq, nx1, nx2, nx3, ny1, ny2, ny3, not_false_eq_true, List.length_cons, List.length_nil, Nat.reduceLeDiff, setAt, List.take_succ_cons, List.take_zero, List.drop_succ_cons, List.drop_zero, cells_dat, cells_int, cells_bool, cells_agg, List.all_cons, List.all_nil, isCell_int, isCell_bool, isCell_dat, isCell_ref, isCell_nil, isCell_vsl, cells_vsl, av_len_cfg, av_len_pkt, av_len_opn, av_len_evn, av_len_ent, av_len_row, av_len_deal, av_len_pck, tk_cfg, tk_pkt, tk_opn, tk_evn, tk_ent, tk_row, tk_deal, tk_pck, all_cfg, all_pkt, all_opn, all_evn, all_ent, all_row, all_deal, all_pck, List.drop_nil, Bool.and_true, Bool.and_self, and_self, Nat.le_refl, true_and, and_true, Nat.le_add_right, leS, ltS, sh_44, z1, n1, H1, Option.isSome_some, Bool.not_true, Bool.not_false, ln, a1, a2, T_str, eql_T, d1, d2, d3, e0, f0, e1, f1, e2, f2, k3, g1, g2, cc, bd_52, bldA, fillA, pl_52, put_new, cells_int, cells_u16, cells_bool, isCell_u16, Pck.av, Option.isSome_none]
        try rfl
      · rw [if_neg (fun h => h3 h.1)] at ot
        refine fail ot ?_
        simp -implicitDefEqProofs only [Nat.reduceLT, bnd_some, bo_some, condK_true, condK_false, gdA_undef, decide_true, decide_false, Int.reduceLE, Int.reduceLT, Int.reduceEq, Int.reduceNeg, Int.reduceAdd, gd_tt, gd_tf, gd_ft, gd_ff, unG_pure, lift_some, bnd_lift, Option.map_some, Option.bind_some, fieldPtr_ref, fieldPtr_ip, nil_ref, nil_ip, nil_fn, ex_tup, fl_agg, List.getElem?_cons_zero, List.getElem?_cons_succ, Nat.zero_add, Nat.add_zero, Nat.reduceAdd, pk_t, pk_f, lss_int, leq_int, gtr_int, geq_int, eql_int, neq_int, not_bool, beq_self_eq_true, if_true, Bool.false_eq_true, if_false, List.nil_append, List.cons_append, List.append_nil, alc_eq, mkm_eq, nNew, nPut, bNew, bPut, nGrd, bGrd, ldN_is, ldN_lt, ldaN_is, ldaN_lt, stN_is, stN_lt, Nat.lt_add_one, ne_eq, nx1, nx2, nx3, ny1, ny2, ny3, not_false_eq_true, List.length_cons, List.length_nil, Nat.reduceLeDiff, setAt, List.take_succ_cons, List.take_zero, List.drop_succ_cons, List.drop_zero, cells_dat, cells_int, cells_bool, cells_agg, List.all_cons, List.all_nil, isCell_int, isCell_bool, isCell_dat, isCell_ref, isCell_nil, isCell_vsl, cells_vsl, av_len_cfg, av_len_pkt, av_len_opn, av_len_evn, av_len_ent, av_len_row, av_len_deal, av_len_pck, tk_cfg, tk_pkt, tk_opn, tk_evn, tk_ent, tk_row, tk_deal, tk_pck, all_cfg, all_pkt, all_opn, all_evn, all_ent, all_row, all_deal, all_pck, List.drop_nil, Bool.and_true, Bool.and_self, and_self, Nat.le_refl, true_and, and_true, Nat.le_add_right, leS, ltS, sh_44, z1, n1, H1, Option.isSome_some, Bool.not_true, Bool.not_false, ln, a1, a2, T_str, eql_T, d1, d2, d3, e0, f0, e1, f1, e2, f2, k3, bd_52, bldA, fillA, pl_52, put_new, cells_int, cells_u16, cells_bool, isCell_u16, Pck.av, Option.isSome_none]
        try rfl
    | n :: b :: m :: v :: r =>
      simp only at ot
      have l0 : ¬ (((r.length + 1 + 1 + 1 + 1 : Nat) : Int) = 0) := by omega
      have l1 : ¬ (((r.length + 1 + 1 + 1 + 1 : Nat) : Int) = 1) := by omega
      have l3 : ¬ (((r.length + 1 + 1 + 1 + 1 : Nat) : Int) = 3) := by omega
      rcases hk with ⟨rfl, rfl, rfl, hk⟩ | ⟨rfl, rfl, rfl, hk⟩ | ⟨rfl, rfl, rfl, hk⟩ | ⟨rfl, rfl, rfl, h1, h2, h3⟩
      · refine fail ot ?_
        simp -implicitDefEqProofs only [Nat.reduceLT, bnd_some, bo_some, condK_true, condK_false, gdA_undef, decide_true, decide_false, Int.reduceLE, Int.reduceLT, Int.reduceEq, Int.reduceNeg, Int.reduceAdd, gd_tt, gd_tf, gd_ft, gd_ff, unG_pure, lift_some, bnd_lift, Option.map_some, Option.bind_some, fieldPtr_ref, fieldPtr_ip, nil_ref, nil_ip, nil_fn, ex_tup, fl_agg, List.getElem?_cons_zero, List.getElem?_cons_succ, Nat.zero_add, Nat.add_zero, Nat.reduceAdd, pk_t, pk_f, lss_int, leq_int, gtr_int, geq_int, eql_int, neq_int, not_bool, beq_self_eq_true, if_true, Bool.false_eq_true, if_false, List.nil_append, List.cons_append, List.append_nil, alc_eq, mkm_eq, nNew, nPut, bNew, bPut, nGrd, bGrd, ldN_is, ldN_lt, ldaN_is, ldaN_lt, stN_is, stN_lt, Nat.lt_add_one, ne_eq, nx1, nx2, nx3, ny1, ny2, ny3, not_false_eq_true, List.length_cons, List.length_nil, Nat.reduceLeDiff, setAt, List.take_succ_cons, List.take_zero, List.drop_succ_cons, List.drop_zero, cells_dat, cells_int, cells_bool, cells_agg, List.all_cons, List.all_nil, isCell_int, isCell_bool, isCell_dat, isCell_ref, isCell_nil, isCell_vsl, cells_vsl, av_len_cfg, av_len_pkt, av_len_opn, av_len_evn, av_len_ent, av_len_row, av_len_deal, av_len_pck, tk_cfg, tk_pkt, tk_opn, tk_evn, tk_ent, tk_row, tk_deal, tk_pck, all_cfg, all_pkt, all_opn, all_evn, all_ent, all_row, all_deal, all_pck, List.drop_nil, Bool.and_true, Bool.and_self, and_self, Nat.le_refl, true_and, and_true, Nat.le_add_right, leS, ltS, sh_44, z1, n1, H1, Option.isSome_some, Bool.not_true, Bool.not_false, ln, a1, a2, T_str, eql_T, d1, d2, d3, l0, l1, l3, bd_52, bldA, fillA, pl_52, put_new, cells_int, cells_u16, cells_bool, isCell_u16, Pck.av, Option.isSome_none]
        try rfl
      · refine fail ot ?_
        simp -implicitDefEqProofs only [Nat.reduceLT, bnd_some, bo_some, condK_true, condK_false, gdA_undef, decide_true, decide_false, Int.reduceLE, Int.reduceLT, Int.reduceEq, Int.reduceNeg, Int.reduceAdd, gd_tt, gd_tf, gd_ft, gd_ff, unG_pure, lift_some, bnd_lift, Option.map_some, Option.bind_some, fieldPtr_ref, fieldPtr_ip, nil_ref, nil_ip, nil_fn, ex_tup, fl_agg, List.getElem?_cons_zero, List.getElem?_cons_succ, Nat.zero_add, Nat.add_zero, Nat.reduceAdd, pk_t, pk_f, lss_int, leq_int, gtr_int, geq_int, eql_int, neq_int, not_bool, beq_self_eq_true, if_true, Bool.false_eq_true, if_false, List.nil_append, List.cons_append, List.append_nil, alc_eq, mkm_eq, nNew, nPut, bNew, bPut, nGrd, bGrd, ldN_is, ldN_lt, ldaN_is, ldaN_lt, stN_is, stN_lt, Nat.lt_add_one, ne_eq, nx1, nx2, nx3, ny1, ny2, ny3, not_false_eq_true, List.length_cons, List.length_nil, Nat.reduceLeDiff, setAt, List.take_succ_cons, List.take_zero, List.drop_succ_cons, List.drop_zero, cells_dat, cells_int, cells_bool, cells_agg, List.all_cons, List.all_nil, isCell_int, isCell_bool, isCell_dat, isCell_ref, isCell_nil, isCell_vsl, cells_vsl, av_len_cfg, av_len_pkt, av_len_opn, av_len_evn, av_len_ent, av_len_row, av_len_deal, av_len_pck, tk_cfg, tk_pkt, tk_opn, tk_evn, tk_ent, tk_row, tk_deal, tk_pck, all_cfg, all_pkt, all_opn, all_evn, all_ent, all_row, all_deal, all_pck, List.drop_nil, Bool.and_true, Bool.and_self, and_self, Nat.le_refl, true_and, and_true, Nat.le_add_right, leS, ltS, sh_44, z1, n1, H1, Option.isSome_some, Bool.not_true, Bool.not_false, ln, a1, a2, T_str, eql_T, d1, d2, d3, l0, l1, l3, bd_52, bldA, fillA, pl_52, put_new, cells_int, cells_u16, cells_bool, isCell_u16, Pck.av, Option.isSome_none]
        try rfl
      · refine fail ot ?_
        simp -implicitDefEqProofs only [Nat.reduceLT, bnd_some, bo_some, condK_true, condK_false, gdA_undef, decide_true, decide_false, Int.reduceLE, Int.reduceLT, Int.reduceEq, Int.reduceNeg, Int.reduceAdd, gd_tt, gd_tf, gd_ft, gd_ff, unG_pure, lift_some, bnd_lift, Option.map_some, Option.bind_some, fieldPtr_ref, fieldPtr_ip, nil_ref, nil_ip, nil_fn, ex_tup, fl_agg, List.getElem?_cons_zero, List.getElem?_cons_succ, Nat.zero_add, Nat.add_zero, Nat.reduceAdd, pk_t, pk_f, lss_int, leq_int, gtr_int, geq_int, eql_int, neq_int, not_bool, beq_self_eq_true, if_true, Bool.false_eq_true, if_false, List.nil_append, List.cons_append, List.append_nil, alc_eq, mkm_eq, nNew, nPut, bNew, bPut, nGrd, bGrd, ldN_is, ldN_lt, ldaN_is, ldaN_lt, stN_is, stN_lt, Nat.lt_add_one, ne_eq, nx1, nx2, nx3, ny1, ny2, ny3, not_false_eq_true, List.length_cons, List.length_nil, Nat.reduceLeDiff, setAt, List.take_succ_cons, List.take_zero, List.drop_succ_cons, List.drop_zero, cells_dat, cells_int, cells_bool, cells_agg, List.all_cons, List.all_nil, isCell_int, isCell_bool, isCell_dat, isCell_ref, isCell_nil, isCell_vsl, cells_vsl, av_len_cfg, av_len_pkt, av_len_opn, av_len_evn, av_len_ent, av_len_row, av_len_deal, av_len_pck, tk_cfg, tk_pkt, tk_opn, tk_evn, tk_ent, tk_row, tk_deal, tk_pck, all_cfg, all_pkt, all_opn, all_evn, all_ent, all_row, all_deal, all_pck, List.drop_nil, Bool.and_true, Bool.and_self, and_self, Nat.le_refl, true_and, and_true, Nat.le_add_right, leS, ltS, sh_44, z1, n1, H1, Option.isSome_some, Bool.not_true, Bool.not_false, ln, a1, a2, T_str, eql_T, d1, d2, d3, l0, l1, l3, bd_52, bldA, fillA, pl_52, put_new, cells_int, cells_u16, cells_bool, isCell_u16, Pck.av, Option.isSome_none]
        try rfl
      · refine fail ot ?_
        simp -implicitDefEqProofs only [Nat.reduceLT, bnd_some, bo_some, condK_true, condK_false, gdA_undef, decide_true, decide_false, Int.reduceLE, Int.reduceLT, Int.reduceEq, Int.reduceNeg, Int.reduceAdd, gd_tt, gd_tf, gd_ft, gd_ff, unG_pure, lift_some, bnd_lift, Option.map_some, Option.bind_some, fieldPtr_ref, fieldPtr_ip, nil_ref, nil_ip, nil_fn, ex_tup, fl_agg, List.getElem?_cons_zero, List.getElem?_cons_succ, Nat.zero_add, Nat.add_zero, Nat.reduceAdd, pk_t, pk_f, lss_int, leq_int, gtr_int, geq_int, eql_int, neq_int, not_bool, beq_self_eq_true, if_true, Bool.false_eq_true, if_false, List.nil_append, List.cons_append, List.append_nil, alc_eq, mkm_eq, nNew, nPut, bNew, bPut, nGrd, bGrd, ldN_is, ldN_lt, ldaN_is, ldaN_lt, stN_is, stN_lt, Nat.lt_add_one, ne_eq, nx1, nx2, nx3, ny1, ny2, ny3, not_false_eq_true, List.length_cons, List.length_nil, Nat.reduceLeDiff, setAt, List.take_succ_cons, List.take_zero, List.drop_succ_cons, List.drop_zero, cells_dat, cells_int, cells_bool, cells_agg, List.all_cons, List.all_nil, isCell_int, isCell_bool, isCell_dat, isCell_ref, isCell_nil, isCell_vsl, cells_vsl, av_len_cfg, av_len_pkt, av_len_opn, av_len_evn, av_len_ent, av_len_row, av_len_deal, av_len_pck, tk_cfg, tk_pkt, tk_opn, tk_evn, tk_ent, tk_row, tk_deal, tk_pck, all_cfg, all_pkt, all_opn, all_evn, all_ent, all_row, all_deal, all_pck, List.drop_nil, Bool.and_true, Bool.and_self, and_self, Nat.le_refl, true_and, and_true, Nat.le_add_right, leS, ltS, sh_44, z1, n1, H1, Option.isSome_some, Bool.not_true, Bool.not_false, ln, a1, a2, T_str, eql_T, d1, d2, d3, l0, l1, l3, bd_52, bldA, fillA, pl_52, put_new, cells_int, cells_u16, cells_bool, isCell_u16, Pck.av, Option.isSome_none]
        try rfl
theorem rpick_sp (H : AHeap) {y : AV} {ws : List Str} (hy : StrsIs y ws) (hw : WordsOk ws) (hn : ws.length ≤ 1000000) :
    ∃ o : Pck, cl 49 [y] H = some (.tup [.agg o.av, B (pickTx ws).isSome], H) ∧ ∀ o', pickTx ws = some o' → o = o' := by
  obtain ⟨w, rest, rfl⟩ : ∃ w rest, ws = w :: rest := by
    cases ws with
    | nil => exact absurd rfl hw.1
    | cons w r => exact ⟨w, r, rfl⟩
  let H1 := H.guard.new (.blk 0 52 [zB, zI, zI, .s (.int .u16 0)])
  have run : ∀ (o : Pck), (sh_49 cl y H.guard).map Prod.fst = some (.tup [.agg o.av, B (pickTx (w :: rest)).isSome]) → cl 49 [y] H = some (.tup [.agg o.av, B (pickTx (w :: rest)).isSome], H) := fun o h =>
    pure_val rfl rfl (rn_49 _ _ _) h (frz_tup fun x hx => by
      simp only [List.mem_cons, List.mem_singleton, List.not_mem_nil, or_false] at hx
      rcases hx with rfl | rfl
      · exact frz_agg fun z hz => by
          simp only [Pck.av, List.mem_cons, List.mem_singleton, List.not_mem_nil, or_false] at hz
          rcases hz with rfl | rfl | rfl | rfl <;> exact frz_s
      · exact frz_s)
  obtain ⟨z, z1, z2⟩ := hy.tail
  obtain ⟨x, n1, n2⟩ := rnumbers_sp H1 z2 (fun v hv => (hw.2 v (by simp [hv])).2) (by simp at hn; omega)
  obtain ⟨p0, a1, a2⟩ : ∃ p, (∀ H, ix 1 y (I 0) H = some (p, H)) ∧ ∀ H, ld p H = some (T w, H) := by
    refine ⟨elemPtr y 0, fun H => (hy H).ix (k := .i64) (i := 0) (by omega) (by simp), fun H => ?_⟩
    rw [(hy H).ld (by simp)]; rfl
  have ot := pick_nums w rest
  obtain ⟨c1, c2, c3, d1, d2, d3, hk⟩ := pick_is w
  have k1 : ((1 : Nat) : Int) = 1 := rfl
  have k2 : ((2 : Nat) : Int) = 2 := rfl
  have k3 : ((3 : Nat) : Int) = 3 := rfl
  have fail : pickTx (w :: rest) = none → (sh_49 cl y H.guard).map Prod.fst = some (.tup [.agg (Pck.av ⟨false, 0, 0, 0⟩), B false]) → ∃ o : Pck, cl 49 [y] H = some (.tup [.agg o.av, B (pickTx (w :: rest)).isSome], H) ∧ ∀ o', pickTx (w :: rest) = some o' → o = o' := fun hno h =>
    ⟨⟨false, 0, 0, 0⟩, run _ (by rw [hno]; exact h), fun o' h => by rw [hno] at h; cases h⟩
  have good : ∀ o : Pck, pickTx (w :: rest) = some o → (sh_49 cl y H.guard).map Prod.fst = some (.tup [.agg o.av, B true]) → ∃ o : Pck, cl 49 [y] H = some (.tup [.agg o.av, B (pickTx (w :: rest)).isSome], H) ∧ ∀ o', pickTx (w :: rest) = some o' → o = o' := fun o ho h =>
    ⟨o, run _ (by rw [ho]; exact h), fun o' h => by rw [ho] at h; exact Option.some.inj h⟩
  cases hs : numsTx rest with
  | none =>
    rw [hs] at n1 ot
    simp only at ot
    refine fail ot ?_
    simp -implicitDefEqProofs only [Nat.reduceLT, bnd_some, bo_some, condK_true, condK_false, gdA_undef, decide_true, decide_false, Int.reduceLE, Int.reduceLT, Int.reduceEq, Int.reduceNeg, Int.reduceAdd, gd_tt, gd_tf, gd_ft, gd_ff, unG_pure, lift_some, bnd_lift, Option.map_some, Option.bind_some, fieldPtr_ref, fieldPtr_ip, nil_ref, nil_ip, nil_fn, ex_tup, fl_agg, List.getElem?_cons_zero, List.getElem?_cons_succ, Nat.zero_add, Nat.add_zero, Nat.reduceAdd, pk_t, pk_f, lss_int, leq_int, gtr_int, geq_int, eql_int, neq_int, not_bool, beq_self_eq_true, if_true, Bool.false_eq_true, if_false, List.nil_append, List.cons_append, List.append_nil, alc_eq, mkm_eq, nNew, nPut, bNew, bPut, nGrd, bGrd, ldN_is, ldN_lt, ldaN_is, ldaN_lt, stN_is, stN_lt, Nat.lt_add_one, ne_eq, nx1, nx2, nx3, ny1, ny2, ny3, not_false_eq_true, List.length_cons, List.length_nil, Nat.reduceLeDiff, setAt, List.take_succ_cons, List.take_zero, List.drop_succ_cons, List.drop_zero, cells_dat, cells_int, cells_bool, cells_agg, List.all_cons, List.all_nil, isCell_int, isCell_bool, isCell_dat, isCell_ref, isCell_nil, isCell_vsl, cells_vsl, av_len_cfg, av_len_pkt, av_len_opn, av_len_evn, av_len_ent, av_len_row, av_len_deal, av_len_pck, tk_cfg, tk_pkt, tk_opn, tk_evn, tk_ent, tk_row, tk_deal, tk_pck, all_cfg, all_pkt, all_opn, all_evn, all_ent, all_row, all_deal, all_pck, List.drop_nil, Bool.and_true, Bool.and_self, and_self, Nat.le_refl, true_and, and_true, Nat.le_add_right, leS, ltS, sh_49, z1, n1, H1, Option.isSome_none, Bool.not_false, bd_52, bldA, fillA, pl_52, put_new, isCell_u16, Pck.av]
    try rfl
  | some r =>
    rw [hs] at n1 ot
    have n2 := n2 r hs
    have ln := fun H => (n2 H).lnS
    match r with
    | [] =>
      simp only at ot
      refine fail ot ?_
      simp -implicitDefEqProofs only [Nat.reduceLT, bnd_some, bo_some, condK_true, condK_false, gdA_undef, decide_true, decide_false, Int.reduceLE, Int.reduceLT, Int.reduceEq, Int.reduceNeg, Int.reduceAdd, gd_tt, gd_tf, gd_ft, gd_ff, unG_pure, lift_some, bnd_lift, Option.map_some, Option.bind_some, fieldPtr_ref, fieldPtr_ip, nil_ref, nil_ip, nil_fn, ex_tup, fl_agg, List.getElem?_cons_zero, List.getElem?_cons_succ, Nat.zero_add, Nat.add_zero, Nat.reduceAdd, pk_t, pk_f, lss_int, leq_int, gtr_int, geq_int, eql_int, neq_int, not_bool, beq_self_eq_true, if_true, Bool.false_eq_true, if_false, List.nil_append, List.cons_append, List.append_nil, alc_eq, mkm_eq, nNew, nPut, bNew, bPut, nGrd, bGrd, ldN_is, ldN_lt, ldaN_is, ldaN_lt, stN_is, stN_lt, Nat.lt_add_one, ne_eq, nx1, nx2, nx3, ny1, ny2, ny3, not_false_eq_true, List.length_cons, List.length_nil, Nat.reduceLeDiff, setAt, List.take_succ_cons, List.take_zero, List.drop_succ_cons, List.drop_zero, cells_dat, cells_int, cells_bool, cells_agg, List.all_cons, List.all_nil, isCell_int, isCell_bool, isCell_dat, isCell_ref, isCell_nil, isCell_vsl, cells_vsl, av_len_cfg, av_len_pkt, av_len_opn, av_len_evn, av_len_ent, av_len_row, av_len_deal, av_len_pck, tk_cfg, tk_pkt, tk_opn, tk_evn, tk_ent, tk_row, tk_deal, tk_pck, all_cfg, all_pkt, all_opn, all_evn, all_ent, all_row, all_deal, all_pck, List.drop_nil, Bool.and_true, Bool.and_self, and_self, Nat.le_refl, true_and, and_true, Nat.le_add_right, leS, ltS, sh_49, z1, n1, H1, Option.isSome_some, Bool.not_true, Bool.not_false, ln, a1, a2, T_str, eql_T, d1, d2, d3, Int.natCast_zero, Int.ofNat_zero, bd_52, bldA, fillA, pl_52, put_new, cells_int, cells_u16, cells_bool, isCell_u16, Pck.av, Option.isSome_none]
      try rfl
    | [n] =>
      simp only at ot
      obtain ⟨q0, e0, f0⟩ : ∃ p, (∀ H, ix 1 x (I 0) H = some (p, H)) ∧ ∀ H, ld p H = some (I n, H) := by
        refine ⟨elemPtr x 0, fun H => (n2 H).ix (k := .i64) (i := 0) (by omega) (by simp), fun H => ?_⟩
        rw [(n2 H).ld (by simp)]; rfl
      by_cases hneg : n < 0
      · rw [if_pos hneg] at ot
        refine fail ot ?_
        simp -implicitDefEqProofs only [Nat.reduceLT, bnd_some, bo_some, condK_true, condK_false, gdA_undef, decide_true, decide_false, Int.reduceLE, Int.reduceLT, Int.reduceEq, Int.reduceNeg, Int.reduceAdd, gd_tt, gd_tf, gd_ft, gd_ff, unG_pure, lift_some, bnd_lift, Option.map_some, Option.bind_some, fieldPtr_ref, fieldPtr_ip, nil_ref, nil_ip, nil_fn, ex_tup, fl_agg, List.getElem?_cons_zero, List.getElem?_cons_succ, Nat.zero_add, Nat.add_zero, Nat.reduceAdd, pk_t, pk_f, lss_int, leq_int, gtr_int, geq_int, eql_int, neq_int, not_bool, beq_self_eq_true, if_true, Bool.false_eq_true, if_false, List.nil_append, List.cons_append, List.append_nil, alc_eq, mkm_eq, nNew, nPut, bNew, bPut, nGrd, bGrd, ldN_is, ldN_lt, ldaN_is, ldaN_lt, stN_is, stN_lt, Nat.lt_add_one, ne_eq, nx1, nx2, nx3, ny1, ny2, ny3, not_false_eq_true, List.length_cons, List.length_nil, Nat.reduceLeDiff, setAt, List.take_succ_cons, List.take_zero, List.drop_succ_cons, List.drop_zero, cells_dat, cells_int, cells_bool, cells_agg, List.all_cons, List.all_nil, isCell_int, isCell_bool, isCell_dat, isCell_ref, isCell_nil, isCell_vsl, cells_vsl, av_len_cfg, av_len_pkt, av_len_opn, av_len_evn, av_len_ent, av_len_row, av_len_deal, av_len_pck, tk_cfg, tk_pkt, tk_opn, tk_evn, tk_ent, tk_row, tk_deal, tk_pck, all_cfg, all_pkt, all_opn, all_evn, all_ent, all_row, all_deal, all_pck, List.drop_nil, Bool.and_true, Bool.and_self, and_self, Nat.le_refl, true_and, and_true, Nat.le_add_right, leS, ltS, sh_49, z1, n1, H1, Option.isSome_some, Bool.not_true, Bool.not_false, ln, a1, a2, T_str, eql_T, d1, d2, d3, e0, f0, k1, hneg, bd_52, bldA, fillA, pl_52, put_new, cells_int, cells_u16, cells_bool, isCell_u16, Pck.av, Option.isSome_none]
        try rfl
      rw [if_neg hneg] at ot
      rcases hk with ⟨rfl, rfl, rfl, hk⟩ | ⟨rfl, rfl, rfl, hk⟩ | ⟨rfl, rfl, rfl, hk⟩ | ⟨rfl, rfl, rfl, h1, h2, h3⟩
      · rw [if_pos hk] at ot
        refine good _ ot ?_
        simp -implicitDefEqProofs only [Nat.reduceLT, bnd_some, bo_some, condK_true, condK_false, gdA_undef, decide_true, decide_false, Int.reduceLE, Int.reduceLT, Int.reduceEq, Int.reduceNeg, Int.reduceAdd, gd_tt, gd_tf, gd_ft, gd_ff, unG_pure, lift_some, bnd_lift, Option.map_some, Option.bind_some, fieldPtr_ref, fieldPtr_ip, nil_ref, nil_ip, nil_fn, ex_tup, fl_agg, List.getElem?_cons_zero, List.getElem?_cons_succ, Nat.zero_add, Nat.add_zero, Nat.reduceAdd, pk_t, pk_f, lss_int, leq_int, gtr_int, geq_int, eql_int, neq_int, not_bool, beq_self_eq_true, if_true, Bool.false_eq_true, if_false, List.nil_append, List.cons_append, List.append_nil, alc_eq, mkm_eq, nNew, nPut, bNew, bPut, nGrd, bGrd, ldN_is, ldN_lt, ldaN_is, ldaN_lt, stN_is, stN_lt, Nat.lt_add_one, ne_eq, nx1, nx2, nx3, ny1, ny2, ny3, not_false_eq_true, List.length_cons, List.length_nil, Nat.reduceLeDiff, setAt, List.take_succ_cons, List.take_zero, List.drop_succ_cons, List.drop_zero, cells_dat, cells_int, cells_bool, cells_agg, List.all_cons, List.all_nil, isCell_int, isCell_bool, isCell_dat, isCell_ref, isCell_nil, isCell_vsl, cells_vsl, av_len_cfg, av_len_pkt, av_len_opn, av_len_evn, av_len_ent, av_len_row, av_len_deal, av_len_pck, tk_cfg, tk_pkt, tk_opn, tk_evn, tk_ent, tk_row, tk_deal, tk_pck, all_cfg, all_pkt, all_opn, all_evn, all_ent, all_row, all_deal, all_pck, List.drop_nil, Bool.and_true, Bool.and_self, and_self, Nat.le_refl, true_and, and_true, Nat.le_add_right, leS, ltS, sh_49, z1, n1, H1, Option.isSome_some, Bool.not_true, Bool.not_false, ln, a1, a2, T_str, eql_T, d1, d2, d3, e0, f0, k1, hneg, bd_52, bldA, fillA, pl_52, put_new, cells_int, cells_u16, cells_bool, isCell_u16, Pck.av, Option.isSome_none]
        try rfl
      · rw [if_neg (by rw [hk]; decide), if_pos hk] at ot
        refine good _ ot ?_
        simp -implicitDefEqProofs only [Nat.reduceLT, bnd_some, bo_some, condK_true, condK_false, gdA_undef, decide_true, decide_false, Int.reduceLE, Int.reduceLT, Int.reduceEq, Int.reduceNeg, Int.reduceAdd, gd_tt, gd_tf, gd_ft, gd_ff, unG_pure, lift_some, bnd_lift, Option.map_some, Option.bind_some, fieldPtr_ref, fieldPtr_ip, nil_ref, nil_ip, nil_fn, ex_tup, fl_agg, List.getElem?_cons_zero, List.getElem?_cons_succ, Nat.zero_add, Nat.add_zero, Nat.reduceAdd, pk_t, pk_f, lss_int, leq_int, gtr_int, geq_int, eql_int, neq_int, not_bool, beq_self_eq_true, if_true, Bool.false_eq_true, if_false, List.nil_append, List.cons_append, List.append_nil, alc_eq, mkm_eq, nNew, nPut, bNew, bPut, nGrd, bGrd, ldN_is, ldN_lt, ldaN_is, ldaN_lt, stN_is, stN_lt, Nat.lt_add_one, ne_eq, nx1, nx2, nx3, ny1, ny2, ny3, not_false_eq_true, List.length_cons, List.length_nil, Nat.reduceLeDiff, setAt, List.take_succ_cons, List.take_zero, List.drop_succ_cons, List.drop_zero, cells_dat, cells_int, cells_bool, cells_agg, List.all_cons, List.all_nil, isCell_int, isCell_bool, isCell_dat, isCell_ref, isCell_nil, isCell_vsl, cells_vsl, av_len_cfg, av_len_pkt, av_len_opn, av_len_evn, av_len_ent, av_len_row, av_len_deal, av_len_pck, tk_cfg, tk_pkt, tk_opn, tk_evn, tk_ent, tk_row, tk_deal, tk_pck, all_cfg, all_pkt, all_opn, all_evn, all_ent, all_row, all_deal, all_pck, List.drop_nil, Bool.and_true, Bool.and_self, and_self, Nat.le_refl, true_and, and_true, Nat.le_add_right, leS, ltS, sh_49, z1, n1, H1, Option.isSome_some, Bool.not_true, Bool.not_false, ln, a1, a2, T_str, eql_T, d1, d2, d3, e0, f0, k1, hneg, bd_52, bldA, fillA, pl_52, put_new, cells_int, cells_u16, cells_bool, isCell_u16, Pck.av, Option.isSome_none]
        try rfl
      · rw [if_neg (by rw [hk]; decide), if_neg (by rw [hk]; decide)] at ot
        refine fail ot ?_
        simp -implicitDefEqProofs only [Nat.reduceLT, bnd_some, bo_some, condK_true, condK_false, gdA_undef, decide_true, decide_false, Int.reduceLE, Int.reduceLT, Int.reduceEq, Int.reduceNeg, Int.reduceAdd, gd_tt, gd_tf, gd_ft, gd_ff, unG_pure, lift_some, bnd_lift, Option.map_some, Option.bind_some, fieldPtr_ref, fieldPtr_ip, nil_ref, nil_ip, nil_fn, ex_tup, fl_agg, List.getElem?_cons_zero, List.getElem?_cons_succ, Nat.zero_add, Nat.add_zero, Nat.reduceAdd, pk_t, pk_f, lss_int, leq_int, gtr_int, geq_int, eql_int, neq_int, not_bool, beq_self_eq_true, if_true, Bool.false_eq_true, if_false, List.nil_append, List.cons_append, List.append_nil, alc_eq, mkm_eq, nNew, nPut, bNew, bPut, nGrd, bGrd, ldN_is, ldN_lt, ldaN_is, ldaN_lt, stN_is, stN_lt, Nat.lt_add_one, ne_eq, nx1, nx2, nx3, ny1, ny2, ny3, not_false_eq_true, List.length_cons, List.length_nil, Nat.reduceLeDiff, setAt, List.take_succ_cons, List.take_zero, List.drop_succ_cons, List.drop_zero, cells_dat, cells_int, cells_bool, cells_agg, List.all_cons, List.all_nil, isCell_int, isCell_bool, isCell_dat, isCell_ref, isCell_nil, isCell_vsl, cells_vsl, av_len_cfg, av_len_pkt, av_len_opn, av_len_evn, av_len_ent, av_len_row, av_len_deal, av_len_pck, tk_cfg, tk_pkt, tk_opn, tk_evn, tk_ent, tk_row, tk_deal, tk_pck, all_cfg, all_pkt, all_opn, all_evn, all_ent, all_row, all_deal, all_pck, List.drop_nil, Bool.and_true, Bool.and_self, and_self, Nat.le_refl, true_and, and_true, Nat.le_add_right, leS, ltS, sh_49, z1, n1, H1, Option.isSome_some, Bool.not_true, Bool.not_false, ln, a1, a2, T_str, eql_T, d1, d2, d3, e0, f0, k1, hneg, bd_52, bldA, fillA, pl_52, put_new, cells_int, cells_u16, cells_bool, isCell_u16, Pck.av, Option.isSome_none]
        try rfl
      · rw [if_neg h1, if_neg h2] at ot
        refine fail ot ?_
        simp -implicitDefEqProofs only [Nat.reduceLT, bnd_some, bo_some, condK_true, condK_false, gdA_undef, decide_true, decide_false, Int.reduceLE, Int.reduceLT, Int.reduceEq, Int.reduceNeg, Int.reduceAdd, gd_tt, gd_tf, gd_ft, gd_ff, unG_pure, lift_some, bnd_lift, Option.map_some, Option.bind_some, fieldPtr_ref, fieldPtr_ip, nil_ref, nil_ip, nil_fn, ex_tup, fl_agg, List.getElem?_cons_zero, List.getElem?_cons_succ, Nat.zero_add, Nat.add_zero, Nat.reduceAdd, pk_t, pk_f, lss_int, leq_int, gtr_int, geq_int, eql_int, neq_int, not_bool, beq_self_eq_true, if_true, Bool.false_eq_true, if_false, List.nil_append, List.cons_append, List.append_nil, alc_eq, mkm_eq, nNew, nPut, bNew, bPut, nGrd, bGrd, ldN_is, ldN_lt, ldaN_is, ldaN_lt, stN_is, stN_lt, Nat.lt_add_one, ne_eq, nx1, nx2, nx3, ny1, ny2, ny3, not_false_eq_true, List.length_cons, List.length_nil, Nat.reduceLeDiff, setAt, List.take_succ_cons, List.take_zero, List.drop_succ_cons, List.drop_zero, cells_dat, cells_int, cells_bool, cells_agg, List.all_cons, List.all_nil, isCell_int, isCell_bool, isCell_dat, isCell_ref, isCell_nil, isCell_vsl, cells_vsl, av_len_cfg, av_len_pkt, av_len_opn, av_len_evn, av_len_ent, av_len_row, av_len_deal, av_len_pck, tk_cfg, tk_pkt, tk_opn, tk_evn, tk_ent, tk_row, tk_deal, tk_pck, all_cfg, all_pkt, all_opn, all_evn, all_ent, all_row, all_deal, all_pck, List.drop_nil, Bool.and_true, Bool.and_self, and_self, Nat.le_refl, true_and, and_true, Nat.le_add_right, leS, ltS, sh_49, z1, n1, H1, Option.isSome_some, Bool.not_true, Bool.not_false, ln, a1, a2, T_str, eql_T, d1, d2, d3, e0, f0, k1, hneg, bd_52, bldA, fillA, pl_52, put_new, cells_int, cells_u16, cells_bool, isCell_u16, Pck.av, Option.isSome_none]
        try rfl
    | [n, m] =>
      simp only at ot
      obtain ⟨q0, e0, f0⟩ : ∃ p, (∀ H, ix 1 x (I 0) H = some (p, H)) ∧ ∀ H, ld p H = some (I n, H) := by
        refine ⟨elemPtr x 0, fun H => (n2 H).ix (k := .i64) (i := 0) (by omega) (by simp), fun H => ?_⟩
        rw [(n2 H).ld (by simp)]; rfl
      by_cases hneg : n < 0
      · refine fail ot ?_
        simp -implicitDefEqProofs only [Nat.reduceLT, bnd_some, bo_some, condK_true, condK_false, gdA_undef, decide_true, decide_false, Int.reduceLE, Int.reduceLT, Int.reduceEq, Int.reduceNeg, Int.reduceAdd, gd_tt, gd_tf, gd_ft, gd_ff, unG_pure, lift_some, bnd_lift, Option.map_some, Option.bind_some, fieldPtr_ref, fieldPtr_ip, nil_ref, nil_ip, nil_fn, ex_tup, fl_agg, List.getElem?_cons_zero, List.getElem?_cons_succ, Nat.zero_add, Nat.add_zero, Nat.reduceAdd, pk_t, pk_f, lss_int, leq_int, gtr_int, geq_int, eql_int, neq_int, not_bool, beq_self_eq_true, if_true, Bool.false_eq_true, if_false, List.nil_append, List.cons_append, List.append_nil, alc_eq, mkm_eq, nNew, nPut, bNew, bPut, nGrd, bGrd, ldN_is, ldN_lt, ldaN_is, ldaN_lt, stN_is, stN_lt, Nat.lt_add_one, ne_eq, nx1, nx2, nx3, ny1, ny2, ny3, not_false_eq_true, List.length_cons, List.length_nil, Nat.reduceLeDiff, setAt, List.take_succ_cons, List.take_zero, List.drop_succ_cons, List.drop_zero, cells_dat, cells_int, cells_bool, cells_agg, List.all_cons, List.all_nil, isCell_int, isCell_bool, isCell_dat, isCell_ref, isCell_nil, isCell_vsl, cells_vsl, av_len_cfg, av_len_pkt, av_len_opn, av_len_evn, av_len_ent, av_len_row, av_len_deal, av_len_pck, tk_cfg, tk_pkt, tk_opn, tk_evn, tk_ent, tk_row, tk_deal, tk_pck, all_cfg, all_pkt, all_opn, all_evn, all_ent, all_row, all_deal, all_pck, List.drop_nil, Bool.and_true, Bool.and_self, and_self, Nat.le_refl, true_and, and_true, Nat.le_add_right, leS, ltS, sh_49, z1, n1, H1, Option.isSome_some, Bool.not_true, Bool.not_false, ln, a1, a2, T_str, eql_T, d1, d2, d3, e0, f0, hneg, k2, bd_52, bldA, fillA, pl_52, put_new, cells_int, cells_u16, cells_bool, isCell_u16, Pck.av, Option.isSome_none]
        try rfl
      rcases hk with ⟨rfl, rfl, rfl, hk⟩ | ⟨rfl, rfl, rfl, hk⟩ | ⟨rfl, rfl, rfl, hk⟩ | ⟨rfl, rfl, rfl, h1, h2, h3⟩
      · refine fail ot ?_
        simp -implicitDefEqProofs only [Nat.reduceLT, bnd_some, bo_some, condK_true, condK_false, gdA_undef, decide_true, decide_false, Int.reduceLE, Int.reduceLT, Int.reduceEq, Int.reduceNeg, Int.reduceAdd, gd_tt, gd_tf, gd_ft, gd_ff, unG_pure, lift_some, bnd_lift, Option.map_some, Option.bind_some, fieldPtr_ref, fieldPtr_ip, nil_ref, nil_ip, nil_fn, ex_tup, fl_agg, List.getElem?_cons_zero, List.getElem?_cons_succ, Nat.zero_add, Nat.add_zero, Nat.reduceAdd, pk_t, pk_f, lss_int, leq_int, gtr_int, geq_int, eql_int, neq_int, not_bool, beq_self_eq_true, if_true, Bool.false_eq_true, if_false, List.nil_append, List.cons_append, List.append_nil, alc_eq, mkm_eq, nNew, nPut, bNew, bPut, nGrd, bGrd, ldN_is, ldN_lt, ldaN_is, ldaN_lt, stN_is, stN_lt, Nat.lt_add_one, ne_eq, nx1, nx2, nx3, ny1, ny2, ny3, not_false_eq_true, List.length_cons, List.length_nil, Nat.reduceLeDiff, setAt, List.take_succ_cons, List.take_zero, List.drop_succ_cons, List.drop_zero, cells_dat, cells_int, cells_bool, cells_agg, List.all_cons, List.all_nil, isCell_int, isCell_bool, isCell_dat, isCell_ref, isCell_nil, isCell_vsl, cells_vsl, av_len_cfg, av_len_pkt, av_len_opn, av_len_evn, av_len_ent, av_len_row, av_len_deal, av_len_pck, tk_cfg, tk_pkt, tk_opn, tk_evn, tk_ent, tk_row, tk_deal, tk_pck, all_cfg, all_pkt, all_opn, all_evn, all_ent, all_row, all_deal, all_pck, List.drop_nil, Bool.and_true, Bool.and_self, and_self, Nat.le_refl, true_and, and_true, Nat.le_add_right, leS, ltS, sh_49, z1, n1, H1, Option.isSome_some, Bool.not_true, Bool.not_false, ln, a1, a2, T_str, eql_T, d1, d2, d3, e0, f0, hneg, k2, bd_52, bldA, fillA, pl_52, put_new, cells_int, cells_u16, cells_bool, isCell_u16, Pck.av, Option.isSome_none]
        try rfl
      · refine fail ot ?_
        simp -implicitDefEqProofs only [Nat.reduceLT, bnd_some, bo_some, condK_true, condK_false, gdA_undef, decide_true, decide_false, Int.reduceLE, Int.reduceLT, Int.reduceEq, Int.reduceNeg, Int.reduceAdd, gd_tt, gd_tf, gd_ft, gd_ff, unG_pure, lift_some, bnd_lift, Option.map_some, Option.bind_some, fieldPtr_ref, fieldPtr_ip, nil_ref, nil_ip, nil_fn, ex_tup, fl_agg, List.getElem?_cons_zero, List.getElem?_cons_succ, Nat.zero_add, Nat.add_zero, Nat.reduceAdd, pk_t, pk_f, lss_int, leq_int, gtr_int, geq_int, eql_int, neq_int, not_bool, beq_self_eq_true, if_true, Bool.false_eq_true, if_false, List.nil_append, List.cons_append, List.append_nil, alc_eq, mkm_eq, nNew, nPut, bNew, bPut, nGrd, bGrd, ldN_is, ldN_lt, ldaN_is, ldaN_lt, stN_is, stN_lt, Nat.lt_add_one, ne_eq, nx1, nx2, nx3, ny1, ny2, ny3, not_false_eq_true, List.length_cons, List.length_nil, Nat.reduceLeDiff, setAt, List.take_succ_cons, List.take_zero, List.drop_succ_cons, List.drop_zero, cells_dat, cells_int, cells_bool, cells_agg, List.all_cons, List.all_nil, isCell_int, isCell_bool, isCell_dat, isCell_ref, isCell_nil, isCell_vsl, cells_vsl, av_len_cfg, av_len_pkt, av_len_opn, av_len_evn, av_len_ent, av_len_row, av_len_deal, av_len_pck, tk_cfg, tk_pkt, tk_opn, tk_evn, tk_ent, tk_row, tk_deal, tk_pck, all_cfg, all_pkt, all_opn, all_evn, all_ent, all_row, all_deal, all_pck, List.drop_nil, Bool.and_true, Bool.and_self, and_self, Nat.le_refl, true_and, and_true, Nat.le_add_right, leS, ltS, sh_49, z1, n1, H1, Option.isSome_some, Bool.not_true, Bool.not_false, ln, a1, a2, T_str, eql_T, d1, d2, d3, e0, f0, hneg, k2, bd_52, bldA, fillA, pl_52, put_new, cells_int, cells_u16, cells_bool, isCell_u16, Pck.av, Option.isSome_none]
        try rfl
      · refine fail ot ?_
        simp -implicitDefEqProofs only [Nat.reduceLT, bnd_some, bo_some, condK_true, condK_false, gdA_undef, decide_true, decide_false, Int.reduceLE, Int.reduceLT, Int.reduceEq, Int.reduceNeg, Int.reduceAdd, gd_tt, gd_tf, gd_ft, gd_ff, unG_pure, lift_some, bnd_lift, Option.map_some, Option.bind_some, fieldPtr_ref, fieldPtr_ip, nil_ref, nil_ip, nil_fn, ex_tup, fl_agg, List.getElem?_cons_zero, List.getElem?_cons_succ, Nat.zero_add, Nat.add_zero, Nat.reduceAdd, pk_t, pk_f, lss_int, leq_int, gtr_int, geq_int, eql_int, neq_int, not_bool, beq_self_eq_true, if_true, Bool.false_eq_true, if_false, List.nil_append, List.cons_append, List.append_nil, alc_eq, mkm_eq, nNew, nPut, bNew, bPut, nGrd, bGrd, ldN_is, ldN_lt, ldaN_is, ldaN_lt, stN_is, stN_lt, Nat.lt_add_one, ne_eq, nx1, nx2, nx3, ny1, ny2, ny3, not_false_eq_true, List.length_cons, List.length_nil, Nat.reduceLeDiff, setAt, List.take_succ_cons, List.take_zero, List.drop_succ_cons, List.drop_zero, cells_dat, cells_int, cells_bool, cells_agg, List.all_cons, List.all_nil, isCell_int, isCell_bool, isCell_dat, isCell_ref, isCell_nil, isCell_vsl, cells_vsl, av_len_cfg, av_len_pkt, av_len_opn, av_len_evn, av_len_ent, av_len_row, av_len_deal, av_len_pck, tk_cfg, tk_pkt, tk_opn, tk_evn, tk_ent, tk_row, tk_deal, tk_pck, all_cfg, all_pkt, all_opn, all_evn, all_ent, all_row, all_deal, all_pck, List.drop_nil, Bool.and_true, Bool.and_self, and_self, Nat.le_refl, true_and, and_true, Nat.le_add_right, leS, ltS, sh_49, z1, n1, H1, Option.isSome_some, Bool.not_true, Bool.not_false, ln, a1, a2, T_str, eql_T, d1, d2, d3, e0, f0, hneg, k2, bd_52, bldA, fillA, pl_52, put_new, cells_int, cells_u16, cells_bool, isCell_u16, Pck.av, Option.isSome_none]
        try rfl
      · refine fail ot ?_
        simp -implicitDefEqProofs only [Nat.reduceLT, bnd_some, bo_some, condK_true, condK_false, gdA_undef, decide_true, decide_false, Int.reduceLE, Int.reduceLT, Int.reduceEq, Int.reduceNeg, Int.reduceAdd, gd_tt, gd_tf, gd_ft, gd_ff, unG_pure, lift_some, bnd_lift, Option.map_some, Option.bind_some, fieldPtr_ref, fieldPtr_ip, nil_ref, nil_ip, nil_fn, ex_tup, fl_agg, List.getElem?_cons_zero, List.getElem?_cons_succ, Nat.zero_add, Nat.add_zero, Nat.reduceAdd, pk_t, pk_f, lss_int, leq_int, gtr_int, geq_int, eql_int, neq_int, not_bool, beq_self_eq_true, if_true, Bool.false_eq_true, if_false, List.nil_append, List.cons_append, List.append_nil, alc_eq, mkm_eq, nNew, nPut, bNew, bPut, nGrd, bGrd, ldN_is, ldN_lt, ldaN_is, ldaN_lt, stN_is, stN_lt, Nat.lt_add_one, ne_eq, nx1, nx2, nx3, ny1, ny2, ny3, not_false_eq_true, List.length_cons, List.length_nil, Nat.reduceLeDiff, setAt, List.take_succ_cons, List.take_zero, List.drop_succ_cons, List.drop_zero, cells_dat, cells_int, cells_bool, cells_agg, List.all_cons, List.all_nil, isCell_int, isCell_bool, isCell_dat, isCell_ref, isCell_nil, isCell_vsl, cells_vsl, av_len_cfg, av_len_pkt, av_len_opn, av_len_evn, av_len_ent, av_len_row, av_len_deal, av_len_pck, tk_cfg, tk_pkt, tk_opn, tk_evn, tk_ent, tk_row, tk_deal, tk_pck, all_cfg, all_pkt, all_opn, all_evn, all_ent, all_row, all_deal, all_pck, List.drop_nil, Bool.and_true, Bool.and_self, and_self, Nat.le_refl, true_and, and_true, Nat.le_add_right, leS, ltS, sh_49, z1, n1, H1, Option.isSome_some, Bool.not_true, Bool.not_false, ln, a1, a2, T_str, eql_T, d1, d2, d3, e0, f0, hneg, k2, bd_52, bldA, fillA, pl_52, put_new, cells_int, cells_u16, cells_bool, isCell_u16, Pck.av, Option.isSome_none]
        try rfl
    | [n, b, m] =>
      simp only at ot
      obtain ⟨q0, e0, f0⟩ : ∃ p, (∀ H, ix 1 x (I 0) H = some (p, H)) ∧ ∀ H, ld p H = some (I n, H) := by
        refine ⟨elemPtr x 0, fun H => (n2 H).ix (k := .i64) (i := 0) (by omega) (by simp), fun H => ?_⟩
        rw [(n2 H).ld (by simp)]; rfl
      obtain ⟨q1, e1, f1⟩ : ∃ p, (∀ H, ix 1 x (I 1) H = some (p, H)) ∧ ∀ H, ld p H = some (I b, H) := by
        refine ⟨elemPtr x 1, fun H => (n2 H).ix (k := .i64) (i := 1) (by omega) (by simp), fun H => ?_⟩
        rw [(n2 H).ld (by simp)]; rfl
      obtain ⟨q2, e2, f2⟩ : ∃ p, (∀ H, ix 1 x (I 2) H = some (p, H)) ∧ ∀ H, ld p H = some (I m, H) := by
        refine ⟨elemPtr x 2, fun H => (n2 H).ix (k := .i64) (i := 2) (by omega) (by simp), fun H => ?_⟩
        rw [(n2 H).ld (by simp)]; rfl
      by_cases hneg : n < 0
      · rw [if_neg (fun h => by omega)] at ot
        refine fail ot ?_
        simp -implicitDefEqProofs only [Nat.reduceLT, bnd_some, bo_some, condK_true, condK_false, gdA_undef, decide_true, decide_false, Int.reduceLE, Int.reduceLT, Int.reduceEq, Int.reduceNeg, Int.reduceAdd, gd_tt, gd_tf, gd_ft, gd_ff, unG_pure, lift_some, bnd_lift, Option.map_some, Option.bind_some, fieldPtr_ref, fieldPtr_ip, nil_ref, nil_ip, nil_fn, ex_tup, fl_agg, List.getElem?_cons_zero, List.getElem?_cons_succ, Nat.zero_add, Nat.add_zero, Nat.reduceAdd, pk_t, pk_f, lss_int, leq_int, gtr_int, geq_int, eql_int, neq_int, not_bool, beq_self_eq_true, if_true, Bool.false_eq_true, if_false, List.nil_append, List.cons_append, List.append_nil, alc_eq, mkm_eq, nNew, nPut, bNew, bPut, nGrd, bGrd, ldN_is, ldN_lt, ldaN_is, ldaN_lt, stN_is, stN_lt, Nat.lt_add_one, ne_eq, nx1, nx2, nx3, ny1, ny2, ny3, not_false_eq_true, List.length_cons, List.length_nil, Nat.reduceLeDiff, setAt, List.take_succ_cons, List.take_zero, List.drop_succ_cons, List.drop_zero, cells_dat, cells_int, cells_bool, cells_agg, List.all_cons, List.all_nil, isCell_int, isCell_bool, isCell_dat, isCell_ref, isCell_nil, isCell_vsl, cells_vsl, av_len_cfg, av_len_pkt, av_len_opn, av_len_evn, av_len_ent, av_len_row, av_len_deal, av_len_pck, tk_cfg, tk_pkt, tk_opn, tk_evn, tk_ent, tk_row, tk_deal, tk_pck, all_cfg, all_pkt, all_opn, all_evn, all_ent, all_row, all_deal, all_pck, List.drop_nil, Bool.and_true, Bool.and_self, and_self, Nat.le_refl, true_and, and_true, Nat.le_add_right, leS, ltS, sh_49, z1, n1, H1, Option.isSome_some, Bool.not_true, Bool.not_false, ln, a1, a2, T_str, eql_T, d1, d2, d3, e0, f0, e1, f1, e2, f2, k3, hneg, bd_52, bldA, fillA, pl_52, put_new, cells_int, cells_u16, cells_bool, isCell_u16, Pck.av, Option.isSome_none]
        try rfl
      rcases hk with ⟨rfl, rfl, rfl, hk⟩ | ⟨rfl, rfl, rfl, hk⟩ | ⟨rfl, rfl, rfl, hk⟩ | ⟨rfl, rfl, rfl, h1, h2, h3⟩
      · rw [if_neg (fun h => by rw [hk] at h; exact absurd h.1 (by decide))] at ot
        refine fail ot ?_
        simp -implicitDefEqProofs only [Nat.reduceLT, bnd_some, bo_some, condK_true, condK_false, gdA_undef, decide_true, decide_false, Int.reduceLE, Int.reduceLT, Int.reduceEq, Int.reduceNeg, Int.reduceAdd, gd_tt, gd_tf, gd_ft, gd_ff, unG_pure, lift_some, bnd_lift, Option.map_some, Option.bind_some, fieldPtr_ref, fieldPtr_ip, nil_ref, nil_ip, nil_fn, ex_tup, fl_agg, List.getElem?_cons_zero, List.getElem?_cons_succ, Nat.zero_add, Nat.add_zero, Nat.reduceAdd, pk_t, pk_f, lss_int, leq_int, gtr_int, geq_int, eql_int, neq_int, not_bool, beq_self_eq_true, if_true, Bool.false_eq_true, if_false, List.nil_append, List.cons_append, List.append_nil, alc_eq, mkm_eq, nNew, nPut, bNew, bPut, nGrd, bGrd, ldN_is, ldN_lt, ldaN_is, ldaN_lt, stN_is, stN_lt, Nat.lt_add_one, ne_eq, nx1, nx2, nx3, ny1, ny2, ny3, not_false_eq_true, List.length_cons, List.length_nil, Nat.reduceLeDiff, setAt, List.take_succ_cons, List.take_zero, List.drop_succ_cons, List.drop_zero, cells_dat, cells_int, cells_bool, cells_agg, List.all_cons, List.all_nil, isCell_int, isCell_bool, isCell_dat, isCell_ref, isCell_nil, isCell_vsl, cells_vsl, av_len_cfg, av_len_pkt, av_len_opn, av_len_evn, av_len_ent, av_len_row, av_len_deal, av_len_pck, tk_cfg, tk_pkt, tk_opn, tk_evn, tk_ent, tk_row, tk_deal, tk_pck, all_cfg, all_pkt, all_opn, all_evn, all_ent, all_row, all_deal, all_pck, List.drop_nil, Bool.and_true, Bool.and_self, and_self, Nat.le_refl, true_and, and_true, Nat.le_add_right, leS, ltS, sh_49, z1, n1, H1, Option.isSome_some, Bool.not_true, Bool.not_false, ln, a1, a2, T_str, eql_T, d1, d2, d3, e0, f0, e1, f1, e2, f2, k3, hneg, bd_52, bldA, fillA, pl_52, put_new, cells_int, cells_u16, cells_bool, isCell_u16, Pck.av, Option.isSome_none]
        try rfl
      · rw [if_neg (fun h => by rw [hk] at h; exact absurd h.1 (by decide))] at ot
        refine fail ot ?_
        simp -implicitDefEqProofs only [Nat.reduceLT, bnd_some, bo_some, condK_true, condK_false, gdA_undef, decide_true, decide_false, Int.reduceLE, Int.reduceLT, Int.reduceEq, Int.reduceNeg, Int.reduceAdd, gd_tt, gd_tf, gd_ft, gd_ff, unG_pure, lift_some, bnd_lift, Option.map_some, Option.bind_some, fieldPtr_ref, fieldPtr_ip, nil_ref, nil_ip, nil_fn, ex_tup, fl_agg, List.getElem?_cons_zero, List.getElem?_cons_succ, Nat.zero_add, Nat.add_zero, Nat.reduceAdd, pk_t, pk_f, lss_int, leq_int, gtr_int, geq_int, eql_int, neq_int, not_bool, beq_self_eq_true, if_true, Bool.false_eq_true, if_false, List.nil_append, List.cons_append, List.append_nil, alc_eq, mkm_eq, nNew, nPut, bNew, bPut, nGrd, bGrd, ldN_is, ldN_lt, ldaN_is, ldaN_lt, stN_is, stN_lt, Nat.lt_add_one, ne_eq, nx1, nx2, nx3, ny1, ny2, ny3, not_false_eq_true, List.length_cons, List.length_nil, Nat.reduceLeDiff, setAt, List.take_succ_cons, List.take_zero, List.drop_succ_cons, List.drop_zero, cells_dat, cells_int, cells_bool, cells_agg, List.all_cons, List.all_nil, isCell_int, isCell_bool, isCell_dat, isCell_ref, isCell_nil, isCell_vsl, cells_vsl, av_len_cfg, av_len_pkt, av_len_opn, av_len_evn, av_len_ent, av_len_row, av_len_deal, av_len_pck, tk_cfg, tk_pkt, tk_opn, tk_evn, tk_ent, tk_row, tk_deal, tk_pck, all_cfg, all_pkt, all_opn, all_evn, all_ent, all_row, all_deal, all_pck, List.drop_nil, Bool.and_true, Bool.and_self, and_self, Nat.le_refl, true_and, and_true, Nat.le_add_right, leS, ltS, sh_49, z1, n1, H1, Option.isSome_some, Bool.not_true, Bool.not_false, ln, a1, a2, T_str, eql_T, d1, d2, d3, e0, f0, e1, f1, e2, f2, k3, hneg, bd_52, bldA, fillA, pl_52, put_new, cells_int, cells_u16, cells_bool, isCell_u16, Pck.av, Option.isSome_none]
        try rfl
      · have cc : ∀ H, 1 ≤ m → m ≤ 65535 → cv 3 50 (I m) H = some (.s (.int .u16 m), H) := fun H h1 h2 => by
          have := cv_int (P := Tryd.prog) (s := 3) (d := 50) (k := .i64) (n := m) (H := H) (by kernel_rfl) Tryd.underlying3 Tryd.underlying50
          rw [wrap_u16 (by omega) (by omega)] at this
          exact this
        by_cases hb : 0 ≤ b
        rotate_left
        · rw [if_neg (fun h => hb h.2.2.1)] at ot
          refine fail ot ?_
          simp -implicitDefEqProofs only [Nat.reduceLT, bnd_some, bo_some, condK_true, condK_false, gdA_undef, decide_true, decide_false, Int.reduceLE, Int.reduceLT, Int.reduceEq, Int.reduceNeg, Int.reduceAdd, gd_tt, gd_tf, gd_ft, gd_ff, unG_pure, lift_some, bnd_lift, Option.map_some, Option.bind_some, fieldPtr_ref, fieldPtr_ip, nil_ref, nil_ip, nil_fn, ex_tup, fl_agg, List.getElem?_cons_zero, List.getElem?_cons_succ, Nat.zero_add, Nat.add_zero, Nat.reduceAdd, pk_t, pk_f, lss_int, leq_int, gtr_int, geq_int, eql_int, neq_int, not_bool, beq_self_eq_true, if_true, Bool.false_eq_true, if_false, List.nil_append, List.cons_append, List.append_nil, alc_eq, mkm_eq, nNew, nPut, bNew, bPut, nGrd, bGrd, ldN_is, ldN_lt, ldaN_is, ldaN_lt, stN_is, stN_lt, Nat.lt_add_one, ne_eq, nx1, nx2, nx3, ny1, ny2, ny3, not_false_eq_true, List.length_cons, List.length_nil, Nat.reduceLeDiff, setAt, List.take_succ_cons, List.take_zero, List.drop_succ_cons, List.drop_zero, cells_dat, cells_int, cells_bool, cells_agg, List.all_cons, List.all_nil, isCell_int, isCell_bool, isCell_dat, isCell_ref, isCell_nil, isCell_vsl, cells_vsl, av_len_cfg, av_len_pkt, av_len_opn, av_len_evn, av_len_ent, av_len_row, av_len_deal, av_len_pck, tk_cfg, tk_pkt, tk_opn, tk_evn, tk_ent, tk_row, tk_deal, tk_pck, all_cfg, all_pkt, all_opn, all_evn, all_ent, all_row, all_deal, all_pck, List.drop_nil, Bool.and_true, Bool.and_self, and_self, Nat.le_refl, true_and, and_true, Nat.le_add_right, leS, ltS, sh_49, z1, n1, H1, Option.isSome_some, Bool.not_true, Bool.not_false, ln, a1, a2, T_str, eql_T, d1, d2, d3, e0, f0, e1, f1, e2, f2, k3, hneg, hb, bd_52, bldA, fillA, pl_52, put_new, cells_int, cells_u16, cells_bool, isCell_u16, Pck.av, Option.isSome_none]
          try rfl
        by_cases g1 : 1 ≤ m
        rotate_left
        · rw [if_neg (fun h => g1 h.2.2.2.1)] at ot
          refine fail ot ?_
          simp -implicitDefEqProofs only [Nat.reduceLT, bnd_some, bo_some, condK_true, condK_false, gdA_undef, decide_true, decide_false, Int.reduceLE, Int.reduceLT, Int.reduceEq, Int.reduceNeg, Int.reduceAdd, gd_tt, gd_tf, gd_ft, gd_ff, unG_pure, lift_some, bnd_lift, Option.map_some, Option.bind_some, fieldPtr_ref, fieldPtr_ip, nil_ref, nil_ip, nil_fn, ex_tup, fl_agg, List.getElem?_cons_zero, List.getElem?_cons_succ, Nat.zero_add, Nat.add_zero, Nat.reduceAdd, pk_t, pk_f, lss_int, leq_int, gtr_int, geq_int, eql_int, neq_int, not_bool, beq_self_eq_true, if_true, Bool.false_eq_true, if_false, List.nil_append, List.cons_append, List.append_nil, alc_eq, mkm_eq, nNew, nPut, bNew, bPut, nGrd, bGrd, ldN_is, ldN_lt, ldaN_is, ldaN_lt, stN_is, stN_lt, Nat.lt_add_one, ne_eq, nx1, nx2, nx3, ny1, ny2, ny3, not_false_eq_true, List.length_cons, List.length_nil, Nat.reduceLeDiff, setAt, List.take_succ_cons, List.take_zero, List.drop_succ_cons, List.drop_zero, cells_dat, cells_int, cells_bool, cells_agg, List.all_cons, List.all_nil, isCell_int, isCell_bool, isCell_dat, isCell_ref, isCell_nil, isCell_vsl, cells_vsl, av_len_cfg, av_len_pkt, av_len_opn, av_len_evn, av_len_ent, av_len_row, av_len_deal, av_len_pck, tk_cfg, tk_pkt, tk_opn, tk_evn, tk_ent, tk_row, tk_deal, tk_pck, all_cfg, all_pkt, all_opn, all_evn, all_ent, all_row, all_deal, all_pck, List.drop_nil, Bool.and_true, Bool.and_self, and_self, Nat.le_refl, true_and, and_true, Nat.le_add_right, leS, ltS, sh_49, z1, n1, H1, Option.isSome_some, Bool.not_true, Bool.not_false, ln, a1, a2, T_str, eql_T, d1, d2, d3, e0, f0, e1, f1, e2, f2, k3, hneg, hb, g1, bd_52, bldA, fillA, pl_52, put_new, cells_int, cells_u16, cells_bool, isCell_u16, Pck.av, Option.isSome_none]
          try rfl
        by_cases g2 : m ≤ 65535
        rotate_left
        · rw [if_neg (fun h => g2 h.2.2.2.2)] at ot
          refine fail ot ?_
          simp -implicitDefEqProofs only [Nat.reduceLT, bnd_some, bo_some, condK_true, condK_false, gdA_undef, decide_true, decide_false, Int.reduceLE, Int.reduceLT, Int.reduceEq, Int.reduceNeg, Int.reduceAdd, gd_tt, gd_tf, gd_ft, gd_ff, unG_pure, lift_some, bnd_lift, Option.map_some, Option.bind_some, fieldPtr_ref, fieldPtr_ip, nil_ref, nil_ip, nil_fn, ex_tup, fl_agg, List.getElem?_cons_zero, List.getElem?_cons_succ, Nat.zero_add, Nat.add_zero, Nat.reduceAdd, pk_t, pk_f, lss_int, leq_int, gtr_int, geq_int, eql_int, neq_int, not_bool, beq_self_eq_true, if_true, Bool.false_eq_true, if_false, List.nil_append, List.cons_append, List.append_nil, alc_eq, mkm_eq, nNew, nPut, bNew, bPut, nGrd, bGrd, ldN_is, ldN_lt, ldaN_is, ldaN_lt, stN_is, stN_lt, Nat.lt_add_one, ne_eq, nx1, nx2, nx3, ny1, ny2, ny3, not_false_eq_true, List.length_cons, List.length_nil, Nat.reduceLeDiff, setAt, List.take_succ_cons, List.take_zero, List.drop_succ_cons, List.drop_zero, cells_dat, cells_int, cells_bool, cells_agg, List.all_cons, List.all_nil, isCell_int, isCell_bool, isCell_dat, isCell_ref, isCell_nil, isCell_vsl, cells_vsl, av_len_cfg, av_len_pkt, av_len_opn, av_len_evn, av_len_ent, av_len_row, av_len_deal, av_len_pck, tk_cfg, tk_pkt, tk_opn, tk_evn, tk_ent, tk_row, tk_deal, tk_pck, all_cfg, all_pkt, all_opn, all_evn, all_ent, all_row, all_deal, all_pck, List.drop_nil, Bool.and_true, Bool.and_self, and_self, Nat.le_refl, true_and, and_true, Nat.le_add_right, leS, ltS, sh_49, z1, n1, H1, Option.isSome_some, Bool.not_true, Bool.not_false, ln, a1, a2, T_str, eql_T, d1, d2, d3, e0, f0, e1, f1, e2, f2, k3, hneg, hb, g1, g2, bd_52, bldA, fillA, pl_52, put_new, cells_int, cells_u16, cells_bool, isCell_u16, Pck.av, Option.isSome_none]
          try rfl
        rw [if_pos ⟨hk, by omega, hb, g1, g2⟩] at ot
        have cc := fun H => cc H g1 g2
        refine good _ ot ?_
        simp -implicitDefEqProofs only [Nat.reduceLT, bnd_some, bo_some, condK_true, condK_false, gdA_undef, decide_true, decide_false, Int.reduceLE, Int.reduceLT, Int.reduceEq, Int.reduceNeg, Int.reduceAdd, gd_tt, gd_tf, gd_ft, gd_ff, unG_pure, lift_some, bnd_lift, Option.map_some, Option.bind_some, fieldPtr_ref, fieldPtr_ip, nil_ref, nil_ip, nil_fn, ex_tup, fl_agg, List.getElem?_cons_zero, List.getElem?_cons_succ, Nat.zero_add, Nat.add_zero, Nat.reduceAdd, pk_t, pk_f, lss_int, leq_int, gtr_int, geq_int, eql_int, neq_int, not_bool, beq_self_eq_true, if_true, Bool.false_eq_true, if_false, List.nil_append, List.cons_append, List.append_nil, alc_eq, mkm_eq, nNew, nPut, bNew, bPut, nGrd, bGrd, ldN_is, ldN_lt, ldaN_is, ldaN_lt, stN_is, stN_lt, Nat.lt_add_one, ne_eq, nx1, nx2, nx3, ny1, ny2, ny3, not_false_eq_true, List.length_cons, List.length_nil, Nat.reduceLeDiff, setAt, List.take_succ_cons, List.take_zero, List.drop_succ_cons, List.drop_zero, cells_dat, cells_int, cells_bool, cells_agg, List.all_cons, List.all_nil, isCell_int, isCell_bool, isCell_dat, isCell_ref, isCell_nil, isCell_vsl, cells_vsl, av_len_cfg, av_len_pkt, av_len_opn, av_len_evn, av_len_ent, av_len_row, av_len_deal, av_len_pck, tk_cfg, tk_pkt, tk_opn, tk_evn, tk_ent, tk_row, tk_deal, tk_pck, all_cfg, all_pkt, all_opn, all_evn, all_ent, all_row, all_deal, all_pck, List.drop_nil, Bool.and_true, Bool.and_self, and_self, Nat.le_refl, true_and, and_true, Nat.le_add_right, leS, ltS, sh_49, z1, n1, H1, Option.isSome_some, Bool.not_true, Bool.not_false, ln, a1, a2, T_str, eql_T, d1, d2, d3, e0, f0, e1, f1, e2, f2, k3, hneg, hb, g1, g2, cc, bd_52, bldA, fillA, pl_52, put_new, cells_int, cells_u16, cells_bool, isCell_u16, Pck.av, Option.isSome_none]
        try rfl
      · rw [if_neg (fun h => h3 h.1)] at ot
        refine fail ot ?_
        simp -implicitDefEqProofs only [Nat.reduceLT, bnd_some, bo_some, condK_true, condK_false, gdA_undef, decide_true, decide_false, Int.reduceLE, Int.reduceLT, Int.reduceEq, Int.reduceNeg, Int.reduceAdd, gd_tt, gd_tf, gd_ft, gd_ff, unG_pure, lift_some, bnd_lift, Option.map_some, Option.bind_some, fieldPtr_ref, fieldPtr_ip, nil_ref, nil_ip, nil_fn, ex_tup, fl_agg, List.getElem?_cons_zero, List.getElem?_cons_succ, Nat.zero_add, Nat.add_zero, Nat.reduceAdd, pk_t, pk_f, lss_int, leq_int, gtr_int, geq_int, eql_int, neq_int, not_bool, beq_self_eq_true, if_true, Bool.false_eq_true, if_false, List.nil_append, List.cons_append, List.append_nil, alc_eq, mkm_eq, nNew, nPut, bNew, bPut, nGrd, bGrd, ldN_is, ldN_lt, ldaN_is, ldaN_lt, stN_is, stN_lt, Nat.lt_add_one, ne_eq, nx1, nx2, nx3, ny1, ny2, ny3, not_false_eq_true, List.length_cons, List.length_nil, Nat.reduceLeDiff, setAt, List.take_succ_cons, List.take_zero, List.drop_succ_cons, List.drop_zero, cells_dat, cells_int, cells_bool, cells_agg, List.all_cons, List.all_nil, isCell_int, isCell_bool, isCell_dat, isCell_ref, isCell_nil, isCell_vsl, cells_vsl, av_len_cfg, av_len_pkt, av_len_opn, av_len_evn, av_len_ent, av_len_row, av_len_deal, av_len_pck, tk_cfg, tk_pkt, tk_opn, tk_evn, tk_ent, tk_row, tk_deal, tk_pck, all_cfg, all_pkt, all_opn, all_evn, all_ent, all_row, all_deal, all_pck, List.drop_nil, Bool.and_true, Bool.and_self, and_self, Nat.le_refl, true_and, and_true, Nat.le_add_right, leS, ltS, sh_49, z1, n1, H1, Option.isSome_some, Bool.not_true, Bool.not_false, ln, a1, a2, T_str, eql_T, d1, d2, d3, e0, f0, e1, f1, e2, f2, k3, hneg, bd_52, bldA, fillA, pl_52, put_new, cells_int, cells_u16, cells_bool, isCell_u16, Pck.av, Option.isSome_none]
        try rfl
    | n :: b :: m :: v :: r =>
      simp only at ot
      have l0 : ¬ (((r.length + 1 + 1 + 1 + 1 : Nat) : Int) = 0) := by omega
      have l1 : ¬ (((r.length + 1 + 1 + 1 + 1 : Nat) : Int) = 1) := by omega
      have l3 : ¬ (((r.length + 1 + 1 + 1 + 1 : Nat) : Int) = 3) := by omega
      obtain ⟨q0, e0, f0⟩ : ∃ p, (∀ H, ix 1 x (I 0) H = some (p, H)) ∧ ∀ H, ld p H = some (I n, H) := by
        refine ⟨elemPtr x 0, fun H => (n2 H).ix (k := .i64) (i := 0) (by omega) (by simp only [List.length_cons]; omega), fun H => ?_⟩
        rw [(n2 H).ld (by simp)]; rfl
      by_cases hneg : n < 0
      · refine fail ot ?_
        simp -implicitDefEqProofs only [Nat.reduceLT, bnd_some, bo_some, condK_true, condK_false, gdA_undef, decide_true, decide_false, Int.reduceLE, Int.reduceLT, Int.reduceEq, Int.reduceNeg, Int.reduceAdd, gd_tt, gd_tf, gd_ft, gd_ff, unG_pure, lift_some, bnd_lift, Option.map_some, Option.bind_some, fieldPtr_ref, fieldPtr_ip, nil_ref, nil_ip, nil_fn, ex_tup, fl_agg, List.getElem?_cons_zero, List.getElem?_cons_succ, Nat.zero_add, Nat.add_zero, Nat.reduceAdd, pk_t, pk_f, lss_int, leq_int, gtr_int, geq_int, eql_int, neq_int, not_bool, beq_self_eq_true, if_true, Bool.false_eq_true, if_false, List.nil_append, List.cons_append, List.append_nil, alc_eq, mkm_eq, nNew, nPut, bNew, bPut, nGrd, bGrd, ldN_is, ldN_lt, ldaN_is, ldaN_lt, stN_is, stN_lt, Nat.lt_add_one, ne_eq, nx1, nx2, nx3, ny1, ny2, ny3, not_false_eq_true, List.length_cons, List.length_nil, Nat.reduceLeDiff, setAt, List.take_succ_cons, List.take_zero, List.drop_succ_cons, List.drop_zero, cells_dat, cells_int, cells_bool, cells_agg, List.all_cons, List.all_nil, isCell_int, isCell_bool, isCell_dat, isCell_ref, isCell_nil, isCell_vsl, cells_vsl, av_len_cfg, av_len_pkt, av_len_opn, av_len_evn, av_len_ent, av_len_row, av_len_deal, av_len_pck, tk_cfg, tk_pkt, tk_opn, tk_evn, tk_ent, tk_row, tk_deal, tk_pck, all_cfg, all_pkt, all_opn, all_evn, all_ent, all_row, all_deal, all_pck, List.drop_nil, Bool.and_true, Bool.and_self, and_self, Nat.le_refl, true_and, and_true, Nat.le_add_right, leS, ltS, sh_49, z1, n1, H1, Option.isSome_some, Bool.not_true, Bool.not_false, ln, a1, a2, T_str, eql_T, d1, d2, d3, l0, l1, l3, e0, f0, hneg, bd_52, bldA, fillA, pl_52, put_new, cells_int, cells_u16, cells_bool, isCell_u16, Pck.av, Option.isSome_none]
        try rfl
      rcases hk with ⟨rfl, rfl, rfl, hk⟩ | ⟨rfl, rfl, rfl, hk⟩ | ⟨rfl, rfl, rfl, hk⟩ | ⟨rfl, rfl, rfl, h1, h2, h3⟩
      · refine fail ot ?_
        simp -implicitDefEqProofs only [Nat.reduceLT, bnd_some, bo_some, condK_true, condK_false, gdA_undef, decide_true, decide_false, Int.reduceLE, Int.reduceLT, Int.reduceEq, Int.reduceNeg, Int.reduceAdd, gd_tt, gd_tf, gd_ft, gd_ff, unG_pure, lift_some, bnd_lift, Option.map_some, Option.bind_some, fieldPtr_ref, fieldPtr_ip, nil_ref, nil_ip, nil_fn, ex_tup, fl_agg, List.getElem?_cons_zero, List.getElem?_cons_succ, Nat.zero_add, Nat.add_zero, Nat.reduceAdd, pk_t, pk_f, lss_int, leq_int, gtr_int, geq_int, eql_int, neq_int, not_bool, beq_self_eq_true, if_true, Bool.false_eq_true, if_false, List.nil_append, List.cons_append, List.append_nil, alc_eq, mkm_eq, nNew, nPut, bNew, bPut, nGrd, bGrd, ldN_is, ldN_lt, ldaN_is, ldaN_lt, stN_is, stN_lt, Nat.lt_add_one, ne_eq, nx1, nx2, nx3, ny1, ny2, ny3, not_false_eq_true, List.length_cons, List.length_nil, Nat.reduceLeDiff, setAt, List.take_succ_cons, List.take_zero, List.drop_succ_cons, List.drop_zero, cells_dat, cells_int, cells_bool, cells_agg, List.all_cons, List.all_nil, isCell_int, isCell_bool, isCell_dat, isCell_ref, isCell_nil, isCell_vsl, cells_vsl, av_len_cfg, av_len_pkt, av_len_opn, av_len_evn, av_len_ent, av_len_row, av_len_deal, av_len_pck, tk_cfg, tk_pkt, tk_opn, tk_evn, tk_ent, tk_row, tk_deal, tk_pck, all_cfg, all_pkt, all_opn, all_evn, all_ent, all_row, all_deal, all_pck, List.drop_nil, Bool.and_true, Bool.and_self, and_self, Nat.le_refl, true_and, and_true, Nat.le_add_right, leS, ltS, sh_49, z1, n1, H1, Option.isSome_some, Bool.not_true, Bool.not_false, ln, a1, a2, T_str, eql_T, d1, d2, d3, l0, l1, l3, e0, f0, hneg, bd_52, bldA, fillA, pl_52, put_new, cells_int, cells_u16, cells_bool, isCell_u16, Pck.av, Option.isSome_none]
        try rfl
      · refine fail ot ?_
        simp -implicitDefEqProofs only [Nat.reduceLT, bnd_some, bo_some, condK_true, condK_false, gdA_undef, decide_true, decide_false, Int.reduceLE, Int.reduceLT, Int.reduceEq, Int.reduceNeg, Int.reduceAdd, gd_tt, gd_tf, gd_ft, gd_ff, unG_pure, lift_some, bnd_lift, Option.map_some, Option.bind_some, fieldPtr_ref, fieldPtr_ip, nil_ref, nil_ip, nil_fn, ex_tup, fl_agg, List.getElem?_cons_zero, List.getElem?_cons_succ, Nat.zero_add, Nat.add_zero, Nat.reduceAdd, pk_t, pk_f, lss_int, leq_int, gtr_int, geq_int, eql_int, neq_int, not_bool, beq_self_eq_true, if_true, Bool.false_eq_true, if_false, List.nil_append, List.cons_append, List.append_nil, alc_eq, mkm_eq, nNew, nPut, bNew, bPut, nGrd, bGrd, ldN_is, ldN_lt, ldaN_is, ldaN_lt, stN_is, stN_lt, Nat.lt_add_one, ne_eq, nx1, nx2, nx3, ny1, ny2, ny3, not_false_eq_true, List.length_cons, List.length_nil, Nat.reduceLeDiff, setAt, List.take_succ_cons, List.take_zero, List.drop_succ_cons, List.drop_zero, cells_dat, cells_int, cells_bool, cells_agg, List.all_cons, List.all_nil, isCell_int, isCell_bool, isCell_dat, isCell_ref, isCell_nil, isCell_vsl, cells_vsl, av_len_cfg, av_len_pkt, av_len_opn, av_len_evn, av_len_ent, av_len_row, av_len_deal, av_len_pck, tk_cfg, tk_pkt, tk_opn, tk_evn, tk_ent, tk_row, tk_deal, tk_pck, all_cfg, all_pkt, all_opn, all_evn, all_ent, all_row, all_deal, all_pck, List.drop_nil, Bool.and_true, Bool.and_self, and_self, Nat.le_refl, true_and, and_true, Nat.le_add_right, leS, ltS, sh_49, z1, n1, H1, Option.isSome_some, Bool.not_true, Bool.not_false, ln, a1, a2, T_str, eql_T, d1, d2, d3, l0, l1, l3, e0, f0, hneg, bd_52, bldA, fillA, pl_52, put_new, cells_int, cells_u16, cells_bool, isCell_u16, Pck.av, Option.isSome_none]
        try rfl
      · refine fail ot ?_
        simp -implicitDefEqProofs only [Nat.reduceLT, bnd_some, bo_some, condK_true, condK_false, gdA_undef, decide_true, decide_false, Int.reduceLE, Int.reduceLT, Int.reduceEq, Int.reduceNeg, Int.reduceAdd, gd_tt, gd_tf, gd_ft, gd_ff, unG_pure, lift_some, bnd_lift, Option.map_some, Option.bind_some, fieldPtr_ref, fieldPtr_ip, nil_ref, nil_ip, nil_fn, ex_tup, fl_agg, List.getElem?_cons_zero, List.getElem?_cons_succ, Nat.zero_add, Nat.add_zero, Nat.reduceAdd, pk_t, pk_f, lss_int, leq_int, gtr_int, geq_int, eql_int, neq_int, not_bool, beq_self_eq_true, if_true, Bool.false_eq_true, if_false, List.nil_append, List.cons_append, List.append_nil, alc_eq, mkm_eq, nNew, nPut, bNew, bPut, nGrd, bGrd, ldN_is, ldN_lt, ldaN_is, ldaN_lt, stN_is, stN_lt, Nat.lt_add_one, ne_eq, nx1, nx2, nx3, ny1, ny2, ny3, not_false_eq_true, List.length_cons, List.length_nil, Nat.reduceLeDiff, setAt, List.take_succ_cons, List.take_zero, List.drop_succ_cons, List.drop_zero, cells_dat, cells_int, cells_bool, cells_agg, List.all_cons, List.all_nil, isCell_int, isCell_bool, isCell_dat, isCell_ref, isCell_nil, isCell_vsl, cells_vsl, av_len_cfg, av_len_pkt, av_len_opn, av_len_evn, av_len_ent, av_len_row, av_len_deal, av_len_pck, tk_cfg, tk_pkt, tk_opn, tk_evn, tk_ent, tk_row, tk_deal, tk_pck, all_cfg, all_pkt, all_opn, all_evn, all_ent, all_row, all_deal, all_pck, List.drop_nil, Bool.and_true, Bool.and_self, and_self, Nat.le_refl, true_and, and_true, Nat.le_add_right, leS, ltS, sh_49, z1, n1, H1, Option.isSome_some, Bool.not_true, Bool.not_false, ln, a1, a2, T_str, eql_T, d1, d2, d3, l0, l1, l3, e0, f0, hneg, bd_52, bldA, fillA, pl_52, put_new, cells_int, cells_u16, cells_bool, isCell_u16, Pck.av, Option.isSome_none]
        try rfl
      · refine fail ot ?_
        simp -implicitDefEqProofs only [Nat.reduceLT, bnd_some, bo_some, condK_true, condK_false, gdA_undef, decide_true, decide_false, Int.reduceLE, Int.reduceLT, Int.reduceEq, Int.reduceNeg, Int.reduceAdd, gd_tt, gd_tf, gd_ft, gd_ff, unG_pure, lift_some, bnd_lift, Option.map_some, Option.bind_some, fieldPtr_ref, fieldPtr_ip, nil_ref, nil_ip, nil_fn, ex_tup, fl_agg, List.getElem?_cons_zero, List.getElem?_cons_succ, Nat.zero_add, Nat.add_zero, Nat.reduceAdd, pk_t, pk_f, lss_int, leq_int, gtr_int, geq_int, eql_int, neq_int, not_bool, beq_self_eq_true, if_true, Bool.false_eq_true, if_false, List.nil_append, List.cons_append, List.append_nil, alc_eq, mkm_eq, nNew, nPut, bNew, bPut, nGrd, bGrd, ldN_is, ldN_lt, ldaN_is, ldaN_lt, stN_is, stN_lt, Nat.lt_add_one, ne_eq, nx1, nx2, nx3, ny1, ny2, ny3, not_false_eq_true, List.length_cons, List.length_nil, Nat.reduceLeDiff, setAt, List.take_succ_cons, List.take_zero, List.drop_succ_cons, List.drop_zero, cells_dat, cells_int, cells_bool, cells_agg, List.all_cons, List.all_nil, isCell_int, isCell_bool, isCell_dat, isCell_ref, isCell_nil, isCell_vsl, cells_vsl, av_len_cfg, av_len_pkt, av_len_opn, av_len_evn, av_len_ent, av_len_row, av_len_deal, av_len_pck, tk_cfg, tk_pkt, tk_opn, tk_evn, tk_ent, tk_row, tk_deal, tk_pck, all_cfg, all_pkt, all_opn, all_evn, all_ent, all_row, all_deal, all_pck, List.drop_nil, Bool.and_true, Bool.and_self, and_self, Nat.le_refl, true_and, and_true, Nat.le_add_right, leS, ltS, sh_49, z1, n1, H1, Option.isSome_some, Bool.not_true, Bool.not_false, ln, a1, a2, T_str, eql_T, d1, d2, d3, l0, l1, l3, e0, f0, hneg, bd_52, bldA, fillA, pl_52, put_new, cells_int, cells_u16, cells_bool, isCell_u16, Pck.av, Option.isSome_none]
        try rfl

end Go.Proofs.YtjmldnpdfnklcaaDoor

namespace Go.Proofs.YtjmldnpdfnklcaaDoor

/-- What the program reads of a text. -/
theorem parsePicks_sp (H : AHeap) {l : Str} (h : l.length ≤ 100000) : cl 25 [T l] H = some (readA 4 Pck.av (I 0) (I 2) (parseTx pickTx l), H) := by
  let lines := splitC 10 l
  have hln : lines.length ≤ 100001 := Nat.le_trans (splitC_count 10 l) (by omega)
  have hlw : ∀ w ∈ lines, w.length ≤ 100000 := fun w hw => Nat.le_trans (splitC_len 10 l w hw) h
  let Hs := H.guard.new (.blk 0 9 (lines.map T))
  let x : AV := .sl H.next 0 0 1 lines.length lines.length true
  have e1 : cl 35 [T l, T [10]] H.guard = some (x, Hs) := by
    have := split_sp (l := l) (c := 10) (H := H.guard) (by omega)
    simp only [nGrd] at this
    exact this
  have o1 : Own H.next Hs x 1 (lines.map T) := by
    have := split_own (l := l) (c := 10) (H := H.guard) (b := H.next) (Nat.le_refl _)
    simp only [nGrd] at this
    exact this
  have hx : SliceIs Hs x 1 lines.length (lines.map T) := o1.is (by decide) (by simp)
  have sx : ∀ {Hi : AHeap}, Step (H.next + 1) Hs Hi → SliceIs Hi x 1 lines.length (lines.map T) := fun {Hi} s => hx.of_get s.next fun r hr _ => by
    have : r = H.next := by simp only [x, nameOf, Option.some.injEq] at hr; exact hr.symm
    exact s.low r (by omega)
  have key : ∀ k j, j + k = lines.length → ∀ (Hi : AHeap) (o : AV) (acc : List Pck), acc.length ≤ j → Own (H.next + 1) Hi o 4 (acc.flatMap Pck.av) → (acc = [] → o = zN) → Step (H.next + 1) Hs Hi →
      ∃ y Hz, lp_25x0 cl [o, x, I lines.length, I j] Hi = some (y, Hz) ∧ (match parseL pickTx (lines.drop j) with
        | none => y = .tup [zN, I 2]
        | some r => ∃ o', y = .tup [o', I 0] ∧ Own (H.next + 1) Hz o' 4 ((acc ++ r).flatMap Pck.av) ∧ (acc ++ r = [] → o' = zN)) := by
    intro k
    induction k with
    | zero =>
      intro j hj Hi o acc ha O oz s
      have h1 : ¬ (j : Int) < lines.length := by omega
      refine ⟨.tup [o, I 0], Hi, ?_, ?_⟩
      · rw [le_25x0]
        simp -implicitDefEqProofs only [Nat.reduceLT, bnd_some, bo_some, condK_true, condK_false, gdA_undef, decide_true, decide_false, Int.reduceLE, Int.reduceLT, Int.reduceEq, Int.reduceNeg, Int.reduceAdd, gd_tt, gd_tf, gd_ft, gd_ff, unG_pure, lift_some, bnd_lift, Option.map_some, Option.bind_some, fieldPtr_ref, fieldPtr_ip, nil_ref, nil_ip, nil_fn, ex_tup, fl_agg, List.getElem?_cons_zero, List.getElem?_cons_succ, Nat.zero_add, Nat.add_zero, Nat.reduceAdd, pk_t, pk_f, lss_int, leq_int, gtr_int, geq_int, eql_int, neq_int, not_bool, beq_self_eq_true, if_true, Bool.false_eq_true, if_false, List.nil_append, List.cons_append, List.append_nil, alc_eq, mkm_eq, nNew, nPut, bNew, bPut, nGrd, bGrd, h1]
      · rw [List.drop_eq_nil_of_le (by omega)]
        simp only [parseL, List.append_nil]
        exact ⟨o, rfl, O, oz⟩
    | succ k ih =>
      intro j hj Hi o acc ha O oz s
      have h1 : (j : Int) < lines.length := by omega
      have hl : j < lines.length := by omega
      have hs := sx s
      have i1 := hs.ix (k := .i64) (i := (j : Int)) (by omega) h1
      have i2 := hs.ld (i := j) hl
      rw [List.getElem?_map, List.getElem?_eq_getElem hl, Option.map_some, Option.map_some] at i2
      have h6 : (j : Int) + 1 = ((j + 1 : Nat) : Int) := by omega
      have h7 := wrap_i64 (a := ((j + 1 : Nat) : Int)) (by omega) (by omega)
      have hwl : (lines[j]).length ≤ 100000 := hlw _ (List.getElem_mem _)
      obtain ⟨ws, w1, w2⟩ := wordsTx_sp Hi (l := lines[j]) (by omega)
      have w3 := (w2 Hi).lnS
      have sb : Hi.base = H.next := s.base
      have sn : H.next + 1 ≤ Hi.next := s.next
      rw [le_25x0, List.drop_eq_getElem_cons hl]
      simp only [parseL]
      by_cases hw : wordsTx lines[j] = []
      · obtain ⟨y, Hz, r1, r2⟩ := ih (j + 1) (by omega) Hi o acc (by omega) O oz s
        rw [if_pos hw]
        refine ⟨y, Hz, ?_, r2⟩
        rw [hw] at w3
        simp -implicitDefEqProofs only [Nat.reduceLT, bnd_some, bo_some, condK_true, condK_false, gdA_undef, decide_true, decide_false, Int.reduceLE, Int.reduceLT, Int.reduceEq, Int.reduceNeg, Int.reduceAdd, gd_tt, gd_tf, gd_ft, gd_ff, unG_pure, lift_some, bnd_lift, Option.map_some, Option.bind_some, fieldPtr_ref, fieldPtr_ip, nil_ref, nil_ip, nil_fn, ex_tup, fl_agg, List.getElem?_cons_zero, List.getElem?_cons_succ, Nat.zero_add, Nat.add_zero, Nat.reduceAdd, pk_t, pk_f, lss_int, leq_int, gtr_int, geq_int, eql_int, neq_int, not_bool, beq_self_eq_true, if_true, Bool.false_eq_true, if_false, List.nil_append, List.cons_append, List.append_nil, alc_eq, mkm_eq, nNew, nPut, bNew, bPut, nGrd, bGrd, h1, i1, Int.toNat_natCast, i2, w1, w3, List.length_nil, Int.natCast_zero, Int.ofNat_zero, eq_self, jn_25x0, add_int, h6, h7, r1]
      · rw [if_neg hw]
        have wo := wordsTx_ok hw hwl (by omega)
        have w4 : ¬ (((wordsTx lines[j]).length : Int) = 0) := fun e => hw (List.eq_nil_of_length_eq_zero (by omega))
        obtain ⟨p, p1, p2⟩ := pick_sp Hi w2 wo (by have := wordsTx_len lines[j]; omega)
        have hb1 : Hi.base ≤ Hi.next := by omega
        cases hk : pickTx (wordsTx lines[j]) with
        | none =>
          rw [hk] at p1
          refine ⟨.tup [zN, I 2], Hi.new (.blk 0 52 p.av), ?_, rfl⟩
          simp only [Pck.av] at p1
          simp -implicitDefEqProofs only [Nat.reduceLT, bnd_some, bo_some, condK_true, condK_false, gdA_undef, decide_true, decide_false, Int.reduceLE, Int.reduceLT, Int.reduceEq, Int.reduceNeg, Int.reduceAdd, gd_tt, gd_tf, gd_ft, gd_ff, unG_pure, lift_some, bnd_lift, Option.map_some, Option.bind_some, fieldPtr_ref, fieldPtr_ip, nil_ref, nil_ip, nil_fn, ex_tup, fl_agg, List.getElem?_cons_zero, List.getElem?_cons_succ, Nat.zero_add, Nat.add_zero, Nat.reduceAdd, pk_t, pk_f, lss_int, leq_int, gtr_int, geq_int, eql_int, neq_int, not_bool, beq_self_eq_true, if_true, Bool.false_eq_true, if_false, List.nil_append, List.cons_append, List.append_nil, alc_eq, mkm_eq, nNew, nPut, bNew, bPut, nGrd, bGrd, ldN_is, ldN_lt, ldaN_is, ldaN_lt, stN_is, stN_lt, Nat.lt_add_one, ne_eq, nx1, nx2, nx3, ny1, ny2, ny3, not_false_eq_true, List.length_cons, List.length_nil, Nat.reduceLeDiff, setAt, List.take_succ_cons, List.take_zero, List.drop_succ_cons, List.drop_zero, cells_dat, cells_int, cells_bool, cells_agg, List.all_cons, List.all_nil, isCell_int, isCell_bool, isCell_dat, isCell_ref, isCell_nil, isCell_vsl, cells_vsl, av_len_cfg, av_len_pkt, av_len_opn, av_len_evn, av_len_ent, av_len_row, av_len_deal, av_len_pck, tk_cfg, tk_pkt, tk_opn, tk_evn, tk_ent, tk_row, tk_deal, tk_pck, all_cfg, all_pkt, all_opn, all_evn, all_ent, all_row, all_deal, all_pck, List.drop_nil, Bool.and_true, Bool.and_self, and_self, Nat.le_refl, true_and, and_true, Nat.le_add_right, leS, ltS, h1, i1, Int.toNat_natCast, i2, w1, w3, w4, p1, Option.isSome_none, hb1, Bool.not_false, put_new, Pck.av]
        | some p' =>
          rw [hk] at p1
          obtain rfl := p2 p' hk
          let ob : AObj := .blk 0 52 p.av
          have O1 : Own (H.next + 1) ((Hi.new ob).new ob) o 4 (acc.flatMap Pck.av) := (O.new ob).new ob
          obtain ⟨o', H1, t1, t2, t3⟩ := O1.step (n := acc.length) (k := 1) (e := 52) (by_ := 32) (y := .sl (Hi.next + 1) 0 0 4 1 1 true) (new := p.av) (by simp only [nNew]; omega) (by simp only [bNew]; omega) (by decide) (flat_len av_len_pck _) (sl_new rfl) (all_pck p) (by unfold most; omega) (by unfold most; omega)
          have O' : Own (H.next + 1) H1 o' 4 ((acc ++ [p]).flatMap Pck.av) := by
            rw [List.flatMap_append, List.flatMap_cons, List.flatMap_nil, List.append_nil]; exact t2
          obtain ⟨y, Hz, r1, r2⟩ := ih (j + 1) (by omega) H1 o' (acc ++ [p]) (by simp; omega) O' (fun e => by simp at e) ((s.trans ((Step.new ob (by omega)).trans (Step.new ob (by simp only [nNew]; omega)))).trans t3)
          refine ⟨y, Hz, ?_, ?_⟩
          · have eb := bsl_one (e := 52) (m := 4) (z := [zB, zI, zI, .s (.int .u16 0)]) (v := .agg p.av) (H := Hi.new ob) rfl rfl (all_pck p)
            simp only [cells_agg, nNew, ob, Pck.av] at eb t1 p1
            simp -implicitDefEqProofs only [Nat.reduceLT, bnd_some, bo_some, condK_true, condK_false, gdA_undef, decide_true, decide_false, Int.reduceLE, Int.reduceLT, Int.reduceEq, Int.reduceNeg, Int.reduceAdd, gd_tt, gd_tf, gd_ft, gd_ff, unG_pure, lift_some, bnd_lift, Option.map_some, Option.bind_some, fieldPtr_ref, fieldPtr_ip, nil_ref, nil_ip, nil_fn, ex_tup, fl_agg, List.getElem?_cons_zero, List.getElem?_cons_succ, Nat.zero_add, Nat.add_zero, Nat.reduceAdd, pk_t, pk_f, lss_int, leq_int, gtr_int, geq_int, eql_int, neq_int, not_bool, beq_self_eq_true, if_true, Bool.false_eq_true, if_false, List.nil_append, List.cons_append, List.append_nil, alc_eq, mkm_eq, nNew, nPut, bNew, bPut, nGrd, bGrd, ldN_is, ldN_lt, ldaN_is, ldaN_lt, stN_is, stN_lt, Nat.lt_add_one, ne_eq, nx1, nx2, nx3, ny1, ny2, ny3, not_false_eq_true, List.length_cons, List.length_nil, Nat.reduceLeDiff, setAt, List.take_succ_cons, List.take_zero, List.drop_succ_cons, List.drop_zero, cells_dat, cells_int, cells_bool, cells_agg, List.all_cons, List.all_nil, isCell_int, isCell_bool, isCell_dat, isCell_ref, isCell_nil, isCell_vsl, cells_vsl, av_len_cfg, av_len_pkt, av_len_opn, av_len_evn, av_len_ent, av_len_row, av_len_deal, av_len_pck, tk_cfg, tk_pkt, tk_opn, tk_evn, tk_ent, tk_row, tk_deal, tk_pck, all_cfg, all_pkt, all_opn, all_evn, all_ent, all_row, all_deal, all_pck, List.drop_nil, Bool.and_true, Bool.and_self, and_self, Nat.le_refl, true_and, and_true, Nat.le_add_right, leS, ltS, h1, i1, Int.toNat_natCast, i2, w1, w3, w4, p1, Option.isSome_some, hb1, Bool.not_true, put_new, Pck.av, bs_46, Nat.one_mul, eb, t1, jn_25x0, add_int, h6, h7, r1]
          · cases hr : parseL pickTx (lines.drop (j + 1)) with
            | none => rw [hr] at r2; exact r2
            | some r =>
              rw [hr] at r2
              obtain ⟨o2, q1, q2, q3⟩ := r2
              rw [List.append_assoc] at q2 q3
              exact ⟨o2, q1, q2, q3⟩
  obtain ⟨y, Hz, r1, r2⟩ := key lines.length 0 (by omega) Hs zN [] (Nat.le_refl _) (.inl ⟨rfl, rfl⟩) (fun _ => rfl) (Step.refl _ _)
  refine pure_cl rfl rfl (rn_25 _ _ _ (r := (y, Hz)) ?_) ?_
  · have := hx.lnS
    have r1' : lp_25x0 cl [zN, x, I lines.length, I 0] Hs = some (y, Hz) := r1
    simp -implicitDefEqProofs only [Nat.reduceLT, bnd_some, bo_some, condK_true, condK_false, gdA_undef, decide_true, decide_false, Int.reduceLE, Int.reduceLT, Int.reduceEq, Int.reduceNeg, Int.reduceAdd, gd_tt, gd_tf, gd_ft, gd_ff, unG_pure, lift_some, bnd_lift, Option.map_some, Option.bind_some, fieldPtr_ref, fieldPtr_ip, nil_ref, nil_ip, nil_fn, ex_tup, fl_agg, List.getElem?_cons_zero, List.getElem?_cons_succ, Nat.zero_add, Nat.add_zero, Nat.reduceAdd, pk_t, pk_f, lss_int, leq_int, gtr_int, geq_int, eql_int, neq_int, not_bool, beq_self_eq_true, if_true, Bool.false_eq_true, if_false, List.nil_append, List.cons_append, List.append_nil, alc_eq, mkm_eq, nNew, nPut, bNew, bPut, nGrd, bGrd, sh_25, T_str, e1, this]
    exact r1'
  · have hp : parseTx pickTx l = parseL pickTx lines := rfl
    rw [List.drop_zero] at r2
    rw [hp]
    cases hr : parseL pickTx lines with
    | none =>
      rw [hr] at r2
      simp only at r2
      subst r2
      rfl
    | some r =>
      rw [hr] at r2
      obtain ⟨o', rfl, q2, q3⟩ := r2
      rw [List.nil_append] at q2 q3
      have hf : freezeA Hz H.next 8 o' = some (vsl 4 Pck.av r) := by
        by_cases h0 : r = []
        · rw [q3 h0, h0, vsl_nil]; exact freeze_s
        · rw [vsl_cons h0]
          exact freeze_own (q2.weak (by omega)) (by decide) (flat_len av_len_pck _) (fun z hz => frz_list (d := 7) (fun a x hx => by
            simp only [Pck.av, List.mem_cons, List.mem_singleton, List.not_mem_nil, or_false] at hx
            rcases hx with rfl | rfl | rfl | rfl <;> exact frz_s) _ z hz _ _) fun e => h0 (List.eq_nil_of_length_eq_zero e)
      exact freeze_tup2 hf
/-- What the document reads of a text. -/
theorem rparsePicks_sp (H : AHeap) {l : Str} (h : l.length ≤ 100000) : cl 29 [T l] H = some (readA 4 Pck.av (B true) (B false) (parseTx pickTx l), H) := by
  let lines := linesR l.length l
  have hln : lines.length ≤ 100000 := Nat.le_trans (linesR_count l.length l) h
  have hlw : ∀ w ∈ lines, w.length ≤ 100000 := fun w hw => Nat.le_trans (linesR_len l.length l w hw) h
  let Hs := H.guard
  obtain ⟨x, e1, hx0⟩ := rlines_sp H.guard h
  have hx : ∀ Hi, SliceIs Hi x 1 lines.length (lines.map T) := hx0
  have sx : ∀ {Hi : AHeap}, Step H.next Hs Hi → SliceIs Hi x 1 lines.length (lines.map T) := fun {Hi} _ => hx Hi
  have key : ∀ k j, j + k = lines.length → ∀ (Hi : AHeap) (o : AV) (acc : List Pck), acc.length ≤ j → Own H.next Hi o 4 (acc.flatMap Pck.av) → (acc = [] → o = zN) → Step H.next Hs Hi →
      ∃ y Hz, lp_29x0 cl [o, x, I lines.length, I j] Hi = some (y, Hz) ∧ (match parseL pickTx (lines.drop j) with
        | none => y = .tup [zN, B false]
        | some r => ∃ o', y = .tup [o', B true] ∧ Own H.next Hz o' 4 ((acc ++ r).flatMap Pck.av) ∧ (acc ++ r = [] → o' = zN)) := by
    intro k
    induction k with
    | zero =>
      intro j hj Hi o acc ha O oz s
      have h1 : ¬ (j : Int) < lines.length := by omega
      refine ⟨.tup [o, B true], Hi, ?_, ?_⟩
      · rw [le_29x0]
        simp -implicitDefEqProofs only [Nat.reduceLT, bnd_some, bo_some, condK_true, condK_false, gdA_undef, decide_true, decide_false, Int.reduceLE, Int.reduceLT, Int.reduceEq, Int.reduceNeg, Int.reduceAdd, gd_tt, gd_tf, gd_ft, gd_ff, unG_pure, lift_some, bnd_lift, Option.map_some, Option.bind_some, fieldPtr_ref, fieldPtr_ip, nil_ref, nil_ip, nil_fn, ex_tup, fl_agg, List.getElem?_cons_zero, List.getElem?_cons_succ, Nat.zero_add, Nat.add_zero, Nat.reduceAdd, pk_t, pk_f, lss_int, leq_int, gtr_int, geq_int, eql_int, neq_int, not_bool, beq_self_eq_true, if_true, Bool.false_eq_true, if_false, List.nil_append, List.cons_append, List.append_nil, alc_eq, mkm_eq, nNew, nPut, bNew, bPut, nGrd, bGrd, h1]
      · rw [List.drop_eq_nil_of_le (by omega)]
        simp only [parseL, List.append_nil]
        exact ⟨o, rfl, O, oz⟩
    | succ k ih =>
      intro j hj Hi o acc ha O oz s
      have h1 : (j : Int) < lines.length := by omega
      have hl : j < lines.length := by omega
      have hs := sx s
      have i1 := hs.ix (k := .i64) (i := (j : Int)) (by omega) h1
      have i2 := hs.ld (i := j) hl
      rw [List.getElem?_map, List.getElem?_eq_getElem hl, Option.map_some, Option.map_some] at i2
      have h6 : (j : Int) + 1 = ((j + 1 : Nat) : Int) := by omega
      have h7 := wrap_i64 (a := ((j + 1 : Nat) : Int)) (by omega) (by omega)
      have hwl : (lines[j]).length ≤ 100000 := hlw _ (List.getElem_mem _)
      obtain ⟨ws, w1, w2⟩ := rwords_sp Hi (l := lines[j]) (by omega)
      have w3 := (w2 Hi).lnS
      have sb : Hi.base = H.next := s.base
      have sn : H.next ≤ Hi.next := s.next
      rw [le_29x0, List.drop_eq_getElem_cons hl]
      simp only [parseL]
      by_cases hw : wordsTx lines[j] = []
      · obtain ⟨y, Hz, r1, r2⟩ := ih (j + 1) (by omega) Hi o acc (by omega) O oz s
        rw [if_pos hw]
        refine ⟨y, Hz, ?_, r2⟩
        rw [hw] at w3
        simp -implicitDefEqProofs only [Nat.reduceLT, bnd_some, bo_some, condK_true, condK_false, gdA_undef, decide_true, decide_false, Int.reduceLE, Int.reduceLT, Int.reduceEq, Int.reduceNeg, Int.reduceAdd, gd_tt, gd_tf, gd_ft, gd_ff, unG_pure, lift_some, bnd_lift, Option.map_some, Option.bind_some, fieldPtr_ref, fieldPtr_ip, nil_ref, nil_ip, nil_fn, ex_tup, fl_agg, List.getElem?_cons_zero, List.getElem?_cons_succ, Nat.zero_add, Nat.add_zero, Nat.reduceAdd, pk_t, pk_f, lss_int, leq_int, gtr_int, geq_int, eql_int, neq_int, not_bool, beq_self_eq_true, if_true, Bool.false_eq_true, if_false, List.nil_append, List.cons_append, List.append_nil, alc_eq, mkm_eq, nNew, nPut, bNew, bPut, nGrd, bGrd, h1, i1, Int.toNat_natCast, i2, w1, w3, List.length_nil, Int.natCast_zero, Int.ofNat_zero, eq_self, jn_29x0, add_int, h6, h7, r1]
      · rw [if_neg hw]
        have wo := wordsTx_ok hw hwl (by omega)
        have w4 : ¬ (((wordsTx lines[j]).length : Int) = 0) := fun e => hw (List.eq_nil_of_length_eq_zero (by omega))
        obtain ⟨p, p1, p2⟩ := rpick_sp Hi w2 wo (by have := wordsTx_len lines[j]; omega)
        have hb1 : Hi.base ≤ Hi.next := by omega
        cases hk : pickTx (wordsTx lines[j]) with
        | none =>
          rw [hk] at p1
          refine ⟨.tup [zN, B false], Hi.new (.blk 0 52 p.av), ?_, rfl⟩
          simp only [Pck.av] at p1
          simp -implicitDefEqProofs only [Nat.reduceLT, bnd_some, bo_some, condK_true, condK_false, gdA_undef, decide_true, decide_false, Int.reduceLE, Int.reduceLT, Int.reduceEq, Int.reduceNeg, Int.reduceAdd, gd_tt, gd_tf, gd_ft, gd_ff, unG_pure, lift_some, bnd_lift, Option.map_some, Option.bind_some, fieldPtr_ref, fieldPtr_ip, nil_ref, nil_ip, nil_fn, ex_tup, fl_agg, List.getElem?_cons_zero, List.getElem?_cons_succ, Nat.zero_add, Nat.add_zero, Nat.reduceAdd, pk_t, pk_f, lss_int, leq_int, gtr_int, geq_int, eql_int, neq_int, not_bool, beq_self_eq_true, if_true, Bool.false_eq_true, if_false, List.nil_append, List.cons_append, List.append_nil, alc_eq, mkm_eq, nNew, nPut, bNew, bPut, nGrd, bGrd, ldN_is, ldN_lt, ldaN_is, ldaN_lt, stN_is, stN_lt, Nat.lt_add_one, ne_eq, nx1, nx2, nx3, ny1, ny2, ny3, not_false_eq_true, List.length_cons, List.length_nil, Nat.reduceLeDiff, setAt, List.take_succ_cons, List.take_zero, List.drop_succ_cons, List.drop_zero, cells_dat, cells_int, cells_bool, cells_agg, List.all_cons, List.all_nil, isCell_int, isCell_bool, isCell_dat, isCell_ref, isCell_nil, isCell_vsl, cells_vsl, av_len_cfg, av_len_pkt, av_len_opn, av_len_evn, av_len_ent, av_len_row, av_len_deal, av_len_pck, tk_cfg, tk_pkt, tk_opn, tk_evn, tk_ent, tk_row, tk_deal, tk_pck, all_cfg, all_pkt, all_opn, all_evn, all_ent, all_row, all_deal, all_pck, List.drop_nil, Bool.and_true, Bool.and_self, and_self, Nat.le_refl, true_and, and_true, Nat.le_add_right, leS, ltS, h1, i1, Int.toNat_natCast, i2, w1, w3, w4, p1, Option.isSome_none, hb1, Bool.not_false, put_new, Pck.av]
        | some p' =>
          rw [hk] at p1
          obtain rfl := p2 p' hk
          let ob : AObj := .blk 0 52 p.av
          have O1 : Own H.next ((Hi.new ob).new ob) o 4 (acc.flatMap Pck.av) := (O.new ob).new ob
          obtain ⟨o', H1, t1, t2, t3⟩ := O1.step (n := acc.length) (k := 1) (e := 52) (by_ := 32) (y := .sl (Hi.next + 1) 0 0 4 1 1 true) (new := p.av) (by simp only [nNew]; omega) (by simp only [bNew]; omega) (by decide) (flat_len av_len_pck _) (sl_new rfl) (all_pck p) (by unfold most; omega) (by unfold most; omega)
          have O' : Own H.next H1 o' 4 ((acc ++ [p]).flatMap Pck.av) := by
            rw [List.flatMap_append, List.flatMap_cons, List.flatMap_nil, List.append_nil]; exact t2
          obtain ⟨y, Hz, r1, r2⟩ := ih (j + 1) (by omega) H1 o' (acc ++ [p]) (by simp; omega) O' (fun e => by simp at e) ((s.trans ((Step.new ob (by omega)).trans (Step.new ob (by simp only [nNew]; omega)))).trans t3)
          refine ⟨y, Hz, ?_, ?_⟩
          · have eb := bsl_one (e := 52) (m := 4) (z := [zB, zI, zI, .s (.int .u16 0)]) (v := .agg p.av) (H := Hi.new ob) rfl rfl (all_pck p)
            simp only [cells_agg, nNew, ob, Pck.av] at eb t1 p1
            simp -implicitDefEqProofs only [Nat.reduceLT, bnd_some, bo_some, condK_true, condK_false, gdA_undef, decide_true, decide_false, Int.reduceLE, Int.reduceLT, Int.reduceEq, Int.reduceNeg, Int.reduceAdd, gd_tt, gd_tf, gd_ft, gd_ff, unG_pure, lift_some, bnd_lift, Option.map_some, Option.bind_some, fieldPtr_ref, fieldPtr_ip, nil_ref, nil_ip, nil_fn, ex_tup, fl_agg, List.getElem?_cons_zero, List.getElem?_cons_succ, Nat.zero_add, Nat.add_zero, Nat.reduceAdd, pk_t, pk_f, lss_int, leq_int, gtr_int, geq_int, eql_int, neq_int, not_bool, beq_self_eq_true, if_true, Bool.false_eq_true, if_false, List.nil_append, List.cons_append, List.append_nil, alc_eq, mkm_eq, nNew, nPut, bNew, bPut, nGrd, bGrd, ldN_is, ldN_lt, ldaN_is, ldaN_lt, stN_is, stN_lt, Nat.lt_add_one, ne_eq, nx1, nx2, nx3, ny1, ny2, ny3, not_false_eq_true, List.length_cons, List.length_nil, Nat.reduceLeDiff, setAt, List.take_succ_cons, List.take_zero, List.drop_succ_cons, List.drop_zero, cells_dat, cells_int, cells_bool, cells_agg, List.all_cons, List.all_nil, isCell_int, isCell_bool, isCell_dat, isCell_ref, isCell_nil, isCell_vsl, cells_vsl, av_len_cfg, av_len_pkt, av_len_opn, av_len_evn, av_len_ent, av_len_row, av_len_deal, av_len_pck, tk_cfg, tk_pkt, tk_opn, tk_evn, tk_ent, tk_row, tk_deal, tk_pck, all_cfg, all_pkt, all_opn, all_evn, all_ent, all_row, all_deal, all_pck, List.drop_nil, Bool.and_true, Bool.and_self, and_self, Nat.le_refl, true_and, and_true, Nat.le_add_right, leS, ltS, h1, i1, Int.toNat_natCast, i2, w1, w3, w4, p1, Option.isSome_some, hb1, Bool.not_true, put_new, Pck.av, bs_46, Nat.one_mul, eb, t1, jn_29x0, add_int, h6, h7, r1]
          · cases hr : parseL pickTx (lines.drop (j + 1)) with
            | none => rw [hr] at r2; exact r2
            | some r =>
              rw [hr] at r2
              obtain ⟨o2, q1, q2, q3⟩ := r2
              rw [List.append_assoc] at q2 q3
              exact ⟨o2, q1, q2, q3⟩
  obtain ⟨y, Hz, r1, r2⟩ := key lines.length 0 (by omega) Hs zN [] (Nat.le_refl _) (.inl ⟨rfl, rfl⟩) (fun _ => rfl) (Step.refl _ _)
  refine pure_cl rfl rfl (rn_29 _ _ _ (r := (y, Hz)) ?_) ?_
  · have := (hx Hs).lnS
    have r1' : lp_29x0 cl [zN, x, I lines.length, I 0] Hs = some (y, Hz) := r1
    simp -implicitDefEqProofs only [Nat.reduceLT, bnd_some, bo_some, condK_true, condK_false, gdA_undef, decide_true, decide_false, Int.reduceLE, Int.reduceLT, Int.reduceEq, Int.reduceNeg, Int.reduceAdd, gd_tt, gd_tf, gd_ft, gd_ff, unG_pure, lift_some, bnd_lift, Option.map_some, Option.bind_some, fieldPtr_ref, fieldPtr_ip, nil_ref, nil_ip, nil_fn, ex_tup, fl_agg, List.getElem?_cons_zero, List.getElem?_cons_succ, Nat.zero_add, Nat.add_zero, Nat.reduceAdd, pk_t, pk_f, lss_int, leq_int, gtr_int, geq_int, eql_int, neq_int, not_bool, beq_self_eq_true, if_true, Bool.false_eq_true, if_false, List.nil_append, List.cons_append, List.append_nil, alc_eq, mkm_eq, nNew, nPut, bNew, bPut, nGrd, bGrd, sh_29, T_str, e1, this, Hs]
    exact r1'
  · have hp : parseTx pickTx l = parseL pickTx lines := (parse_lines pickTx l.length l (Nat.le_refl _)).symm
    rw [List.drop_zero] at r2
    rw [hp]
    cases hr : parseL pickTx lines with
    | none =>
      rw [hr] at r2
      simp only at r2
      subst r2
      rfl
    | some r =>
      rw [hr] at r2
      obtain ⟨o', rfl, q2, q3⟩ := r2
      rw [List.nil_append] at q2 q3
      have hf : freezeA Hz H.next 8 o' = some (vsl 4 Pck.av r) := by
        by_cases h0 : r = []
        · rw [q3 h0, h0, vsl_nil]; exact freeze_s
        · rw [vsl_cons h0]
          exact freeze_own q2 (by decide) (flat_len av_len_pck _) (fun z hz => frz_list (d := 7) (fun a x hx => by
            simp only [Pck.av, List.mem_cons, List.mem_singleton, List.not_mem_nil, or_false] at hx
            rcases hx with rfl | rfl | rfl | rfl <;> exact frz_s) _ z hz _ _) fun e => h0 (List.eq_nil_of_length_eq_zero e)
      exact freeze_tup2 hf

end Go.Proofs.YtjmldnpdfnklcaaDoor

namespace Go.Proofs.YtjmldnpdfnklcaaDoor

theorem mapM_T : ∀ ws : List Str, (ws.map T).mapM strOf = some ws
  | [] => rfl
  | w :: ws => by
    rw [List.map_cons, List.mapM_cons, mapM_T ws]
    simp [strOf, T]
theorem join_sp {b : Nat} {H : AHeap} {x : AV} {ws : List Str} {sep : Str} (c : Own b H x 1 (ws.map T)) (h0 : ws ≠ []) (hn : ws.length ≤ 1000) (hj : (Lib.join ws sep).length ≤ 1000000) : cl 74 [x, T sep] H = some (T (Lib.join ws sep), H) := by
  refine prim_of (p := joinP) (by rfl) ?_
  rcases c with ⟨_, e⟩ | ⟨r, g, off, n, cap, ex, ty, all, rfl, k2, k3, k4, k5, k6, k7, e⟩
  · exact absurd (List.map_eq_nil_iff.1 e) h0
  have hl : n = ws.length := by
    have := congrArg List.length e
    rw [List.length_map, List.length_take, List.length_drop] at this
    omega
  simp only [joinP, T, toList_T, k5]
  rw [if_pos ⟨trivial, by omega, by omega⟩]
  rw [Nat.mul_one] at e
  rw [← e, mapM_T]
  simp only
  rw [if_pos hj]
theorem itoa_sp (H : AHeap) {n : Int} (h : In64 n) : cl 73 [I n] H = some (T (Lib.itoa n), H) :=
  prim_of (p := itoaP) (by rfl) (itoaP_I h.1 h.2)
theorem itoa_len {n : Int} (h : In64 n) : (Lib.itoa n).length ≤ 20 := by
  have h1 := h.1; have h2 := h.2
  have k : ∀ m : Nat, m ≤ 9223372036854775808 → (Lib.decDigits m).length ≤ 19 := fun m hm => ((decD_spec m).2.2.2.2 19 (by decide)).1 (by
    have : (10 : Nat) ^ 19 = 10000000000000000000 := by decide
    omega)
  unfold Lib.itoa
  split
  · have := k n.natAbs (by omega); simp; omega
  · have := k n.toNat (by omega); omega

end Go.Proofs.YtjmldnpdfnklcaaDoor

namespace Go.Proofs.YtjmldnpdfnklcaaDoor

/-- A number of at most nine digits. -/
def near (n : Int) : Prop := -999999999 ≤ n ∧ n ≤ 999999999
instance nearDec (n : Int) : Decidable (near n) := by unfold near; exact inferInstance
theorem itoa_ne (n : Int) : Lib.itoa n ≠ [] := by
  unfold Lib.itoa
  split
  · simp
  · exact (decD_spec _).2.2.1
theorem itoa_bytes (n : Int) : ∀ b ∈ Lib.itoa n, b ≠ 10 ∧ b ≠ 32 := by
  have k : ∀ m : Nat, ∀ b ∈ Lib.decDigits m, b ≠ 10 ∧ b ≠ 32 := fun m b hb => by
    have h := (decD_spec m).1
    rw [List.all_eq_true] at h
    have := dig_rng (h b hb)
    constructor
    · rintro rfl
      have : (10 : UInt8).toNat = 10 := by decide
      omega
    · rintro rfl
      have : (32 : UInt8).toNat = 32 := by decide
      omega
  intro b hb
  unfold Lib.itoa at hb
  split at hb
  · rcases List.mem_cons.1 hb with rfl | hb
    · decide
    · exact k _ b hb
  · exact k _ b hb
/-- Words with a blank between them. -/
def blanks : List Str → Str
  | [] => []
  | [w] => w
  | w :: ws => w ++ 32 :: blanks ws
theorem words_blanks : ∀ {ws : List Str}, (∀ w ∈ ws, w ≠ [] ∧ ∀ b ∈ w, b ≠ 32) → wordsTx (blanks ws) = ws
  | [], _ => rfl
  | [w], h => by
    obtain ⟨h1, h2⟩ := h w (by simp)
    simp only [blanks, wordsTx, splitC_no h2]
    simp [h1]
  | w :: v :: ws, h => by
    obtain ⟨h1, h2⟩ := h w (by simp)
    have ih := words_blanks (ws := v :: ws) fun x hx => h x (by simp at hx ⊢; exact .inr hx)
    have e : blanks (w :: v :: ws) = w ++ 32 :: blanks (v :: ws) := rfl
    rw [e]
    unfold wordsTx at ih ⊢
    rw [splitC_append, splitC_no h2, List.filter_append, ih]
    simp [h1]
theorem blanks_no : ∀ {ws : List Str}, (∀ w ∈ ws, ∀ b ∈ w, b ≠ 10) → ∀ b ∈ blanks ws, b ≠ 10
  | [], _, b, hb => by simp [blanks] at hb
  | [w], h, b, hb => h w (by simp) b hb
  | w :: v :: ws, h, b, hb => by
    have e : blanks (w :: v :: ws) = w ++ 32 :: blanks (v :: ws) := rfl
    rw [e] at hb
    rcases List.mem_append.1 hb with hb | hb
    · exact h w (by simp) b hb
    · rcases List.mem_cons.1 hb with rfl | hb
      · decide
      · exact blanks_no (ws := v :: ws) (fun x hx => h x (by simp at hx ⊢; exact .inr hx)) b hb
/-- One line, read. -/
theorem parse_one {α : Type} (f : List Str → Option α) {ws : List Str} (h : ∀ w ∈ ws, w ≠ [] ∧ ∀ b ∈ w, b ≠ 32 ∧ b ≠ 10) (h0 : ws ≠ []) : parseTx f (blanks ws) = (f ws).map fun o => [o] := by
  have h1 : splitC 10 (blanks ws) = [blanks ws] := splitC_no (blanks_no fun w hw b hb => ((h w hw).2 b hb).2)
  have h2 := words_blanks (ws := ws) fun w hw => ⟨(h w hw).1, fun b hb => ((h w hw).2 b hb).1⟩
  simp only [parseTx, h1, parseL, h2, if_neg h0]
  cases f ws <;> rfl
theorem itoa_word (n : Int) : Lib.itoa n ≠ [] ∧ ∀ b ∈ Lib.itoa n, b ≠ 32 ∧ b ≠ 10 := ⟨itoa_ne n, fun b hb => (itoa_bytes n b hb).symm⟩

end Go.Proofs.YtjmldnpdfnklcaaDoor

namespace Go.Proofs.YtjmldnpdfnklcaaDoor

theorem one_byte_str (H : AHeap) (m : Nat) (h : m < 256) : cv 82 9 (.sl H.next 0 0 1 1 1 true) (H.new (.blk 0 5 [.s (.int .u8 (m : Int))])) = some (T [UInt8.ofNat m], H.new (.blk 0 5 [.s (.int .u8 (m : Int))])) := by
  have hb : bytesT? Tryd.prog 82 9 = true := by kernel_rfl
  have e : toStr [(m : Int)] = ⟨[UInt8.ofNat m].toArray⟩ := by
    simp only [toStr, List.foldl_cons, List.foldl_nil, Int.toNat_natCast]
    rfl
  simp only [cv, convertA, lookB, watchV, Option.map_some, getNew_eq, convertO, hb, if_true, strO]
  simp [byteList, e, T]
theorem digits_pos : ∀ (m : Nat), m ≤ 9223372036854775807 → ∀ H : AHeap, cl 51 [I (m : Int)] H = some (T (Lib.decDigits m), H) := by
  intro m
  induction m using Nat.strongRecOn with
  | ind m ih =>
    intro hm H
    refine pure_val rfl rfl (rn_51 _ _ _) ?_ frz_s
    have c0 : ¬ (m : Int) < 0 := by omega
    by_cases hs : m < 10
    · have c1 : (m : Int) < 10 := by omega
      have a1 : (48 : Int) + (m : Int) = ((48 + m : Nat) : Int) := by omega
      have a2 := wrap_i64 (a := ((48 + m : Nat) : Int)) (by omega) (by omega)
      have cc : ∀ H, cv 3 5 (I ((48 + m : Nat) : Int)) H = some (.s (.int .u8 ((48 + m : Nat) : Int)), H) := fun H => by
        have := cv_int (P := Tryd.prog) (s := 3) (d := 5) (k := .i64) (n := ((48 + m : Nat) : Int)) (H := H) (by kernel_rfl) Tryd.underlying3 Tryd.underlying5
        rw [wrap_u8 (by omega) (by omega)] at this
        exact this
      have eb := bsl_one (e := 5) (m := 1) (z := [.s (.int .u8 0)]) (v := .s (.int .u8 ((48 + m : Nat) : Int))) (H := H.guard) rfl rfl rfl
      have eb' : bs 82 1 [(0, .s (.int .u8 ((48 + m : Nat) : Int)))] H.guard = some (.sl H.guard.next 0 0 1 1 1 true, H.guard.new (.blk 0 5 [.s (.int .u8 ((48 + m : Nat) : Int))])) := (bs_82 (n := 1) (by decide)).trans eb
      have es := one_byte_str H.guard (48 + m) (by omega)
      rw [nGrd] at eb' es
      rw [decD_small hs]
      simp -implicitDefEqProofs only [Nat.reduceLT, bnd_some, bo_some, condK_true, condK_false, gdA_undef, decide_true, decide_false, Int.reduceLE, Int.reduceLT, Int.reduceEq, Int.reduceNeg, Int.reduceAdd, gd_tt, gd_tf, gd_ft, gd_ff, unG_pure, lift_some, bnd_lift, Option.map_some, Option.bind_some, fieldPtr_ref, fieldPtr_ip, nil_ref, nil_ip, nil_fn, ex_tup, fl_agg, List.getElem?_cons_zero, List.getElem?_cons_succ, Nat.zero_add, Nat.add_zero, Nat.reduceAdd, pk_t, pk_f, lss_int, leq_int, gtr_int, geq_int, eql_int, neq_int, not_bool, beq_self_eq_true, if_true, Bool.false_eq_true, if_false, List.nil_append, List.cons_append, List.append_nil, alc_eq, mkm_eq, nNew, nPut, bNew, bPut, nGrd, bGrd, sh_51, c0, c1, add_int, a1, a2, cc, eb', es]
    · have c1 : ¬ (m : Int) < 10 := by omega
      have q0 := quo_int (P := Tryd.prog) (t := 3) (k := .i64) (a := (m : Int)) (b := 10) (by decide)
      have r0 := rem_int (P := Tryd.prog) (t := 3) (k := .i64) (a := (m : Int)) (b := 10) (by decide)
      have hq : (m : Int).tdiv 10 = ((m / 10 : Nat) : Int) := by rw [Int.tdiv_eq_ediv_of_nonneg (by omega)]; omega
      have hr : (m : Int).tmod 10 = ((m % 10 : Nat) : Int) := by rw [Int.tmod_eq_emod_of_nonneg (by omega)]; omega
      rw [hq, wrap_i64 (by omega) (by omega)] at q0
      rw [hr] at r0
      have q1 : bi .quo 3 (I (m : Int)) (I 10) = some (I ((m / 10 : Nat) : Int)) := q0
      have r1 : bi .rem 3 (I (m : Int)) (I 10) = some (I ((m % 10 : Nat) : Int)) := r0
      have d1 := ih (m / 10) (by omega) (by omega) H.guard
      have d2 := ih (m % 10) (by omega) (by omega) H.guard
      rw [decD_small (show m % 10 < 10 by omega)] at d2
      have hl : (Lib.decDigits (m / 10)).length ≤ 19 := ((decD_spec (m / 10)).2.2.2.2 19 (by decide)).1 (by
        have : (10 : Nat) ^ 19 = 10000000000000000000 := by decide
        omega)
      have ad := add_T (P := Tryd.prog) (t := 9) (a := Lib.decDigits (m / 10)) (b := [UInt8.ofNat (48 + m % 10)]) (by simp; omega)
      rw [decD_big hs]
      simp -implicitDefEqProofs only [Nat.reduceLT, bnd_some, bo_some, condK_true, condK_false, gdA_undef, decide_true, decide_false, Int.reduceLE, Int.reduceLT, Int.reduceEq, Int.reduceNeg, Int.reduceAdd, gd_tt, gd_tf, gd_ft, gd_ff, unG_pure, lift_some, bnd_lift, Option.map_some, Option.bind_some, fieldPtr_ref, fieldPtr_ip, nil_ref, nil_ip, nil_fn, ex_tup, fl_agg, List.getElem?_cons_zero, List.getElem?_cons_succ, Nat.zero_add, Nat.add_zero, Nat.reduceAdd, pk_t, pk_f, lss_int, leq_int, gtr_int, geq_int, eql_int, neq_int, not_bool, beq_self_eq_true, if_true, Bool.false_eq_true, if_false, List.nil_append, List.cons_append, List.append_nil, alc_eq, mkm_eq, nNew, nPut, bNew, bPut, nGrd, bGrd, sh_51, c0, c1, q1, r1, d1, d2, ad]
theorem itoa_nat (m : Nat) : Lib.itoa (m : Int) = Lib.decDigits m := by
  unfold Lib.itoa
  rw [if_neg (by omega), Int.toNat_natCast]
theorem digits_neg : ∀ (m : Nat), 1 ≤ m → m ≤ 9223372036854775808 → ∀ H : AHeap, cl 51 [I (-(m : Int))] H = some (T (45 :: Lib.decDigits m), H) := by
  intro m
  induction m using Nat.strongRecOn with
  | ind m ih =>
    intro h1 hm H
    refine pure_val rfl rfl (rn_51 _ _ _) ?_ frz_s
    have c0 : -(m : Int) < 0 := by omega
    by_cases hs : m < 10
    · have c1 : (-10 : Int) < -(m : Int) := by omega
      have u := neg_int (P := Tryd.prog) (k := .i64) (a := -(m : Int))
      rw [Int.zero_sub, Int.neg_neg, wrap_i64 (by omega) (by omega)] at u
      have u' : un .neg (I (-(m : Int))) = some (I (m : Int)) := u
      have d1 := digits_pos m (by omega) H.guard
      have hl : (Lib.decDigits m).length ≤ 1 := ((decD_spec m).2.2.2.2 1 (by decide)).1 (by omega)
      have ad := add_T (P := Tryd.prog) (t := 9) (a := [45]) (b := Lib.decDigits m) (by simp; omega)
      simp -implicitDefEqProofs only [Nat.reduceLT, bnd_some, bo_some, condK_true, condK_false, gdA_undef, decide_true, decide_false, Int.reduceLE, Int.reduceLT, Int.reduceEq, Int.reduceNeg, Int.reduceAdd, gd_tt, gd_tf, gd_ft, gd_ff, unG_pure, lift_some, bnd_lift, Option.map_some, Option.bind_some, fieldPtr_ref, fieldPtr_ip, nil_ref, nil_ip, nil_fn, ex_tup, fl_agg, List.getElem?_cons_zero, List.getElem?_cons_succ, Nat.zero_add, Nat.add_zero, Nat.reduceAdd, pk_t, pk_f, lss_int, leq_int, gtr_int, geq_int, eql_int, neq_int, not_bool, beq_self_eq_true, if_true, Bool.false_eq_true, if_false, List.nil_append, List.cons_append, List.append_nil, alc_eq, mkm_eq, nNew, nPut, bNew, bPut, nGrd, bGrd, sh_51, c0, c1, u', d1, T_str, ad]
    · have c1 : ¬ (-10 : Int) < -(m : Int) := by omega
      have q0 := quo_int (P := Tryd.prog) (t := 3) (k := .i64) (a := -(m : Int)) (b := 10) (by decide)
      have r0 := rem_int (P := Tryd.prog) (t := 3) (k := .i64) (a := -(m : Int)) (b := 10) (by decide)
      have hq : (-(m : Int)).tdiv 10 = -((m / 10 : Nat) : Int) := by rw [Int.neg_tdiv, Int.tdiv_eq_ediv_of_nonneg (by omega)]; omega
      have hr : (-(m : Int)).tmod 10 = -((m % 10 : Nat) : Int) := by rw [Int.neg_tmod, Int.tmod_eq_emod_of_nonneg (by omega)]; omega
      rw [hq, wrap_i64 (by omega) (by omega)] at q0
      rw [hr] at r0
      have q1 : bi .quo 3 (I (-(m : Int))) (I 10) = some (I (-((m / 10 : Nat) : Int))) := q0
      have r1 : bi .rem 3 (I (-(m : Int))) (I 10) = some (I (-((m % 10 : Nat) : Int))) := r0
      have u := neg_int (P := Tryd.prog) (k := .i64) (a := -((m % 10 : Nat) : Int))
      rw [Int.zero_sub, Int.neg_neg, wrap_i64 (by omega) (by omega)] at u
      have u' : un .neg (I (-((m % 10 : Nat) : Int))) = some (I ((m % 10 : Nat) : Int)) := u
      have d1 := ih (m / 10) (by omega) (by omega) (by omega) H.guard
      have d2 := digits_pos (m % 10) (by omega) H.guard
      rw [decD_small (show m % 10 < 10 by omega)] at d2
      have hl : (Lib.decDigits (m / 10)).length ≤ 19 := ((decD_spec (m / 10)).2.2.2.2 19 (by decide)).1 (by
        have : (10 : Nat) ^ 19 = 10000000000000000000 := by decide
        omega)
      have ad := add_T (P := Tryd.prog) (t := 9) (a := 45 :: Lib.decDigits (m / 10)) (b := [UInt8.ofNat (48 + m % 10)]) (by simp; omega)
      rw [decD_big hs]
      simp -implicitDefEqProofs only [Nat.reduceLT, bnd_some, bo_some, condK_true, condK_false, gdA_undef, decide_true, decide_false, Int.reduceLE, Int.reduceLT, Int.reduceEq, Int.reduceNeg, Int.reduceAdd, gd_tt, gd_tf, gd_ft, gd_ff, unG_pure, lift_some, bnd_lift, Option.map_some, Option.bind_some, fieldPtr_ref, fieldPtr_ip, nil_ref, nil_ip, nil_fn, ex_tup, fl_agg, List.getElem?_cons_zero, List.getElem?_cons_succ, Nat.zero_add, Nat.add_zero, Nat.reduceAdd, pk_t, pk_f, lss_int, leq_int, gtr_int, geq_int, eql_int, neq_int, not_bool, beq_self_eq_true, if_true, Bool.false_eq_true, if_false, List.nil_append, List.cons_append, List.append_nil, alc_eq, mkm_eq, nNew, nPut, bNew, bPut, nGrd, bGrd, sh_51, c0, c1, q1, r1, d1, u', d2, ad]
theorem digits_sp (H : AHeap) {n : Int} (h : In64 n) : cl 51 [I n] H = some (T (Lib.itoa n), H) := by
  have h1 := h.1
  have h2 := h.2
  by_cases hn : n < 0
  · obtain ⟨m, rfl⟩ : ∃ m : Nat, n = -(m : Int) := ⟨n.natAbs, by omega⟩
    rw [digits_neg m (by omega) (by omega) H]
    unfold Lib.itoa
    rw [if_pos hn, Int.natAbs_neg, Int.natAbs_natCast]
  · obtain ⟨m, rfl⟩ : ∃ m : Nat, n = (m : Int) := ⟨n.toNat, by omega⟩
    rw [digits_pos m (by omega) H, itoa_nat]

end Go.Proofs.YtjmldnpdfnklcaaDoor

namespace Go.Proofs.YtjmldnpdfnklcaaDoor

instance pckDec : DecidableEq Pck := fun a b => decidable_of_iff (a.deliver = b.deliver ∧ a.at_ = b.at_ ∧ a.bit = b.bit ∧ a.mask = b.mask) (by cases a; cases b; simp)
theorem pr_eqU16 (d : Nat) (a b : Int) : pureRun Tryd.prog (Op.equalIn (d + 1) 50 (.int .u16 a) (.int .u16 b)) = some (a == b) := by
  rw [Op.equalIn, pureRun_bind, pr_und Tryd.underlying50]
  simp only [Option.bind_some, if_true]
  rfl
theorem neq_pck (a b : Pck) : bi .neq 52 (.agg a.av) (.agg b.av) = some (B (!decide (a = b))) := by
  have e0 : ∀ x : Pck, AV.val? (.agg x.av) = some (.agg #[.bool x.deliver, .int .i64 x.at_, .int .i64 x.bit, .int .u16 x.mask]) := fun x => rfl
  have g : Tryd.prog.eqGuardType Tryd.prog.depth 52 = false := by kernel_rfl
  have s : Tryd.prog.stoodInHeld 52 = false := by kernel_rfl
  have p0 : ∀ v0 v1 v2 v3, pureRun Tryd.prog (part 4 #[v0, v1, v2, v3] 0) = some v0 := fun v0 v1 v2 v3 => by kernel_rfl
  have p1 : ∀ v0 v1 v2 v3, pureRun Tryd.prog (part 3 #[v0, v1, v2, v3] 1) = some v1 := fun v0 v1 v2 v3 => by kernel_rfl
  have p2 : ∀ v0 v1 v2 v3, pureRun Tryd.prog (part 3 #[v0, v1, v2, v3] 2) = some v2 := fun v0 v1 v2 v3 => by kernel_rfl
  have p3 : ∀ v0 v1 v2 v3, pureRun Tryd.prog (part 50 #[v0, v1, v2, v3] 3) = some v3 := fun v0 v1 v2 v3 => by kernel_rfl
  have i3' := fun a b => pr_eqInt 9998 a b
  have i4' := fun a b => pr_eqBool 9998 a b
  have i5' := fun a b => pr_eqU16 9998 a b
  have pg := @pr_prog
  have main : pureRun Tryd.prog (Op.equalIn (9998 + 1 + 1) 52 (.agg #[.bool a.deliver, .int .i64 a.at_, .int .i64 a.bit, .int .u16 a.mask]) (.agg #[.bool b.deliver, .int .i64 b.at_, .int .i64 b.bit, .int .u16 b.mask])) = some (decide (a = b)) := by
    rw [Op.equalIn, pureRun_bind, pr_und Tryd.underlying52]
    simp only [Option.bind_some]
    simp only [pg, s]
    obtain ⟨a0, a1, a2, a3⟩ := a
    obtain ⟨b0, b1, b2, b3⟩ := b
    simp only [Pck.mk.injEq]
    by_cases h0 : a0 = b0
    rotate_left
    · simp [pureRun_bind, p0, p1, p2, p3, i3', i4', i5', pureRun_pure, h0]
    by_cases h1 : a1 = b1
    rotate_left
    · simp [pureRun_bind, p0, p1, p2, p3, i3', i4', i5', pureRun_pure, h0, h1]
    by_cases h2 : a2 = b2
    rotate_left
    · simp [pureRun_bind, p0, p1, p2, p3, i3', i4', i5', pureRun_pure, h0, h1, h2]
    by_cases h3 : a3 = b3 <;> simp [pureRun_bind, p0, p1, p2, p3, i3', i4', i5', pureRun_pure, h0, h1, h2, h3]
  simp only [bi, binA, e0]
  have : pureRun Tryd.prog (do eqGuard .neq 52 (.tmp 0) (.tmp 0) (.agg #[.bool a.deliver, .int .i64 a.at_, .int .i64 a.bit, .int .u16 a.mask]) (.agg #[.bool b.deliver, .int .i64 b.at_, .int .i64 b.bit, .int .u16 b.mask]); binOp .neq 52 (.agg #[.bool a.deliver, .int .i64 a.at_, .int .i64 a.bit, .int .u16 a.mask]) (.agg #[.bool b.deliver, .int .i64 b.at_, .int .i64 b.bit, .int .u16 b.mask])) = some (.bool (!decide (a = b))) := by
    rw [pureRun_bind]
    have e1 : pureRun Tryd.prog (eqGuard .neq 52 (.tmp 0) (.tmp 0) (.agg #[.bool a.deliver, .int .i64 a.at_, .int .i64 a.bit, .int .u16 a.mask]) (.agg #[.bool b.deliver, .int .i64 b.at_, .int .i64 b.bit, .int .u16 b.mask])) = some () := by
      simp only [eqGuard]
      simp [pureRun_bind, pg, g, pureRun_pure]
    rw [e1]
    simp only [Option.bind_some, binOp]
    rw [pureRun_bind]
    show (pureRun Tryd.prog (Op.equalIn (9998 + 1 + 1) 52 _ _)).bind _ = _
    rw [main]
    rfl
  rw [this]; rfl
theorem samePicks (H : AHeap) {x y : AV} {l : List Pck} (hl : l.length < 1000000000) (hx : SliceIs H x 4 l.length (l.flatMap Pck.av)) (hy : SliceIs H y 4 l.length (l.flatMap Pck.av)) : cl 26 [x, y] H = some (B true, H) := by
  refine pure_val rfl rfl (rn_26 _ _ _ _) ?_ frz_s
  have e1 := hx.guard.lnS
  have e2 := hy.guard.lnS
  have key : ∀ k i, i + k = l.length → lp_26x0 cl [x, y, I i] H.guard = some (B true, H.guard) := by
    intro k
    induction k with
    | zero =>
      intro i hi
      have h1 : ¬ (i : Int) < l.length := by omega
      rw [le_26x0]
      simp -implicitDefEqProofs only [Nat.reduceLT, bnd_some, bo_some, condK_true, condK_false, gdA_undef, decide_true, decide_false, Int.reduceLE, Int.reduceLT, Int.reduceEq, Int.reduceNeg, Int.reduceAdd, gd_tt, gd_tf, gd_ft, gd_ff, unG_pure, lift_some, bnd_lift, Option.map_some, Option.bind_some, fieldPtr_ref, fieldPtr_ip, nil_ref, nil_ip, nil_fn, ex_tup, fl_agg, List.getElem?_cons_zero, List.getElem?_cons_succ, Nat.zero_add, Nat.add_zero, Nat.reduceAdd, pk_t, pk_f, lss_int, leq_int, gtr_int, geq_int, eql_int, neq_int, not_bool, beq_self_eq_true, if_true, Bool.false_eq_true, if_false, List.nil_append, List.cons_append, List.append_nil, alc_eq, mkm_eq, nNew, nPut, bNew, bPut, nGrd, bGrd, e1, h1]
    | succ k ih =>
      intro i hi
      have h1 : (i : Int) < l.length := by omega
      have h6 : (i : Int) + 1 = ((i + 1 : Nat) : Int) := by omega
      have h7 := wrap_i64 (a := ((i + 1 : Nat) : Int)) (by omega) (by omega)
      have s1 := hx.guard.ix (k := .i64) (i := (i : Int)) (by omega) h1
      have s2 := hy.guard.ix (k := .i64) (i := (i : Int)) (by omega) h1
      rw [Int.toNat_natCast] at s1 s2
      obtain ⟨a, ha⟩ : ∃ a, l[i]? = some a := ⟨_, List.getElem?_eq_getElem (by omega)⟩
      have t1 := lda_elem av_len_pck hx.guard ha
      have t2 := lda_elem av_len_pck hy.guard ha
      have r1 := ih (i + 1) (by omega)
      rw [le_26x0]
      simp -implicitDefEqProofs only [Nat.reduceLT, bnd_some, bo_some, condK_true, condK_false, gdA_undef, decide_true, decide_false, Int.reduceLE, Int.reduceLT, Int.reduceEq, Int.reduceNeg, Int.reduceAdd, gd_tt, gd_tf, gd_ft, gd_ff, unG_pure, lift_some, bnd_lift, Option.map_some, Option.bind_some, fieldPtr_ref, fieldPtr_ip, nil_ref, nil_ip, nil_fn, ex_tup, fl_agg, List.getElem?_cons_zero, List.getElem?_cons_succ, Nat.zero_add, Nat.add_zero, Nat.reduceAdd, pk_t, pk_f, lss_int, leq_int, gtr_int, geq_int, eql_int, neq_int, not_bool, beq_self_eq_true, if_true, Bool.false_eq_true, if_false, List.nil_append, List.cons_append, List.append_nil, alc_eq, mkm_eq, nNew, nPut, bNew, bPut, nGrd, bGrd, e1, h1, s1, s2, t1, t2, neq_pck, eq_self, Bool.not_true, add_int, h6, h7, r1]
  have r1' : lp_26x0 cl [x, y, I 0] H.guard = some (B true, H.guard) := key l.length 0 (by omega)
  simp -implicitDefEqProofs only [Nat.reduceLT, bnd_some, bo_some, condK_true, condK_false, gdA_undef, decide_true, decide_false, Int.reduceLE, Int.reduceLT, Int.reduceEq, Int.reduceNeg, Int.reduceAdd, gd_tt, gd_tf, gd_ft, gd_ff, unG_pure, lift_some, bnd_lift, Option.map_some, Option.bind_some, fieldPtr_ref, fieldPtr_ip, nil_ref, nil_ip, nil_fn, ex_tup, fl_agg, List.getElem?_cons_zero, List.getElem?_cons_succ, Nat.zero_add, Nat.add_zero, Nat.reduceAdd, pk_t, pk_f, lss_int, leq_int, gtr_int, geq_int, eql_int, neq_int, not_bool, beq_self_eq_true, if_true, Bool.false_eq_true, if_false, List.nil_append, List.cons_append, List.append_nil, alc_eq, mkm_eq, nNew, nPut, bNew, bPut, nGrd, bGrd, sh_26, e1, e2, eq_self, Bool.not_true, r1']
theorem equalPicks (H : AHeap) {x y : AV} {l m : List Pck} (hl : l.length < 1000000000) (hm : m.length < 1000000000) (hx : SliceIs H x 4 l.length (l.flatMap Pck.av)) (hy : SliceIs H y 4 m.length (m.flatMap Pck.av)) : cl 46 [x, y] H = some (B (decide (l = m)), H) := by
  refine run_cl rfl rfl (rn_46 _ _ _ _ ?_)
  have e1 := hx.lnS
  have e2 := hy.lnS
  by_cases hlen : l.length = m.length
  · have hl2 : (l.length : Int) = (m.length : Int) := by omega
    have key : ∀ k i : Nat, i + k = l.length → l.take i = m.take i → lp_46x0 cl [x, y, I l.length, I i] H = some (B (decide (l = m)), H) := by
      intro k
      induction k with
      | zero =>
        intro i hi ht
        have h1 : ¬ (i : Int) < l.length := by omega
        rw [List.take_of_length_le (by omega), List.take_of_length_le (by omega)] at ht
        have hd : decide (l = m) = true := by simp [ht]
        rw [le_46x0, hd]
        simp -implicitDefEqProofs only [Nat.reduceLT, bnd_some, bo_some, condK_true, condK_false, gdA_undef, decide_true, decide_false, Int.reduceLE, Int.reduceLT, Int.reduceEq, Int.reduceNeg, Int.reduceAdd, gd_tt, gd_tf, gd_ft, gd_ff, unG_pure, lift_some, bnd_lift, Option.map_some, Option.bind_some, fieldPtr_ref, fieldPtr_ip, nil_ref, nil_ip, nil_fn, ex_tup, fl_agg, List.getElem?_cons_zero, List.getElem?_cons_succ, Nat.zero_add, Nat.add_zero, Nat.reduceAdd, pk_t, pk_f, lss_int, leq_int, gtr_int, geq_int, eql_int, neq_int, not_bool, beq_self_eq_true, if_true, Bool.false_eq_true, if_false, List.nil_append, List.cons_append, List.append_nil, alc_eq, mkm_eq, nNew, nPut, bNew, bPut, nGrd, bGrd, h1]
      | succ k ih =>
        intro i hi ht
        have h1 : (i : Int) < l.length := by omega
        have h6 : (i : Int) + 1 = ((i + 1 : Nat) : Int) := by omega
        have h7 := wrap_i64 (a := ((i + 1 : Nat) : Int)) (by omega) (by omega)
        have s1 := hx.ix (k := .i64) (i := (i : Int)) (by omega) h1
        have s2 := hy.ix (k := .i64) (i := (i : Int)) (by omega) (by omega)
        rw [Int.toNat_natCast] at s1 s2
        obtain ⟨a, ha⟩ : ∃ a, l[i]? = some a := ⟨_, List.getElem?_eq_getElem (by omega)⟩
        obtain ⟨c, hc⟩ : ∃ c, m[i]? = some c := ⟨_, List.getElem?_eq_getElem (by omega)⟩
        have t1 := lda_elem av_len_pck hx ha
        have t2 := lda_elem av_len_pck hy hc
        rw [le_46x0]
        by_cases hac : a = c
        · have hd : decide (a = c) = true := by simp [hac]
          have r1 := ih (i + 1) (by omega) (by rw [List.take_add_one, List.take_add_one, ht, ha, hc, hac])
          simp -implicitDefEqProofs only [Nat.reduceLT, bnd_some, bo_some, condK_true, condK_false, gdA_undef, decide_true, decide_false, Int.reduceLE, Int.reduceLT, Int.reduceEq, Int.reduceNeg, Int.reduceAdd, gd_tt, gd_tf, gd_ft, gd_ff, unG_pure, lift_some, bnd_lift, Option.map_some, Option.bind_some, fieldPtr_ref, fieldPtr_ip, nil_ref, nil_ip, nil_fn, ex_tup, fl_agg, List.getElem?_cons_zero, List.getElem?_cons_succ, Nat.zero_add, Nat.add_zero, Nat.reduceAdd, pk_t, pk_f, lss_int, leq_int, gtr_int, geq_int, eql_int, neq_int, not_bool, beq_self_eq_true, if_true, Bool.false_eq_true, if_false, List.nil_append, List.cons_append, List.append_nil, alc_eq, mkm_eq, nNew, nPut, bNew, bPut, nGrd, bGrd, h1, s1, s2, t1, t2, neq_pck, hd, Bool.not_true, add_int, h6, h7, r1]
        · have hd : decide (a = c) = false := by simp [hac]
          have hd2 : decide (l = m) = false := decide_eq_false fun e => by
            rw [e, hc] at ha
            exact hac (Option.some.inj ha).symm
          rw [hd2]
          simp -implicitDefEqProofs only [Nat.reduceLT, bnd_some, bo_some, condK_true, condK_false, gdA_undef, decide_true, decide_false, Int.reduceLE, Int.reduceLT, Int.reduceEq, Int.reduceNeg, Int.reduceAdd, gd_tt, gd_tf, gd_ft, gd_ff, unG_pure, lift_some, bnd_lift, Option.map_some, Option.bind_some, fieldPtr_ref, fieldPtr_ip, nil_ref, nil_ip, nil_fn, ex_tup, fl_agg, List.getElem?_cons_zero, List.getElem?_cons_succ, Nat.zero_add, Nat.add_zero, Nat.reduceAdd, pk_t, pk_f, lss_int, leq_int, gtr_int, geq_int, eql_int, neq_int, not_bool, beq_self_eq_true, if_true, Bool.false_eq_true, if_false, List.nil_append, List.cons_append, List.append_nil, alc_eq, mkm_eq, nNew, nPut, bNew, bPut, nGrd, bGrd, h1, s1, s2, t1, t2, neq_pck, hd, Bool.not_false]
    have r1 := key l.length 0 (by omega) rfl
    have r1' : lp_46x0 cl [x, y, I l.length, I 0] H = some (B (decide (l = m)), H) := r1
    have hd : decide ((l.length : Int) = (m.length : Int)) = true := by simp [hlen]
    simp -implicitDefEqProofs only [Nat.reduceLT, bnd_some, bo_some, condK_true, condK_false, gdA_undef, decide_true, decide_false, Int.reduceLE, Int.reduceLT, Int.reduceEq, Int.reduceNeg, Int.reduceAdd, gd_tt, gd_tf, gd_ft, gd_ff, unG_pure, lift_some, bnd_lift, Option.map_some, Option.bind_some, fieldPtr_ref, fieldPtr_ip, nil_ref, nil_ip, nil_fn, ex_tup, fl_agg, List.getElem?_cons_zero, List.getElem?_cons_succ, Nat.zero_add, Nat.add_zero, Nat.reduceAdd, pk_t, pk_f, lss_int, leq_int, gtr_int, geq_int, eql_int, neq_int, not_bool, beq_self_eq_true, if_true, Bool.false_eq_true, if_false, List.nil_append, List.cons_append, List.append_nil, alc_eq, mkm_eq, nNew, nPut, bNew, bPut, nGrd, bGrd, sh_46, e1, e2, hd, Bool.not_true, r1']
  · have hd : decide ((l.length : Int) = (m.length : Int)) = false := decide_eq_false fun e => hlen (by omega)
    have hd2 : decide (l = m) = false := decide_eq_false fun e => hlen (by rw [e])
    rw [hd2]
    simp -implicitDefEqProofs only [Nat.reduceLT, bnd_some, bo_some, condK_true, condK_false, gdA_undef, decide_true, decide_false, Int.reduceLE, Int.reduceLT, Int.reduceEq, Int.reduceNeg, Int.reduceAdd, gd_tt, gd_tf, gd_ft, gd_ff, unG_pure, lift_some, bnd_lift, Option.map_some, Option.bind_some, fieldPtr_ref, fieldPtr_ip, nil_ref, nil_ip, nil_fn, ex_tup, fl_agg, List.getElem?_cons_zero, List.getElem?_cons_succ, Nat.zero_add, Nat.add_zero, Nat.reduceAdd, pk_t, pk_f, lss_int, leq_int, gtr_int, geq_int, eql_int, neq_int, not_bool, beq_self_eq_true, if_true, Bool.false_eq_true, if_false, List.nil_append, List.cons_append, List.append_nil, alc_eq, mkm_eq, nNew, nPut, bNew, bPut, nGrd, bGrd, sh_46, e1, e2, hd, Bool.not_false]
theorem wakes22 (H : AHeap) : cl 28 [] H = some (B true, H) := by
  refine pure_val rfl rfl (rn_28 _ _) ?_ frz_s
  have e1 := parsePicks_sp H.guard (l := [115, 116, 101, 112, 32, 49, 10, 103, 105, 118, 101, 32, 50, 10, 115, 112, 111, 105, 108, 32, 51, 32, 52, 32, 53, 10]) (by decide)
  have e2 : parseTx pickTx [115, 116, 101, 112, 32, 49, 10, 103, 105, 118, 101, 32, 50, 10, 115, 112, 111, 105, 108, 32, 51, 32, 52, 32, 53, 10] = some [⟨false, 1, 0, 0⟩, ⟨true, 2, 0, 0⟩, ⟨true, 3, 4, 5⟩] := by decide +kernel
  rw [e2] at e1
  simp only [readA] at e1
  let ps : List Pck := [⟨false, 1, 0, 0⟩, ⟨true, 2, 0, 0⟩, ⟨true, 3, 4, 5⟩]
  let H1 := H.guard.new (.blk 0 52 (ps.flatMap Pck.av))
  have ex : SliceIs H1 (vsl 4 Pck.av ps) 4 3 (ps.flatMap Pck.av) := vsl_is av_len_pck H1 ps
  have ey : SliceIs H1 (.sl H.next 0 0 4 3 3 true) 4 3 (ps.flatMap Pck.av) := sl_new (H := H.guard) rfl
  have e3 := samePicks H1 (l := ps) (by decide) ex ey
  have b0 : bi .eql 25 (I 0) (I 0) = some (B true) := by kernel_rfl
  have eb : bs 46 3 [(0, .agg (Pck.av ⟨false, 1, 0, 0⟩)), (1, .agg (Pck.av ⟨true, 2, 0, 0⟩)), (2, .agg (Pck.av ⟨true, 3, 4, 5⟩))] H.guard = some (.sl H.next 0 0 4 3 3 true, H1) := (bs_46 (n := 3) (by decide)).trans rfl
  simp only [Pck.av] at eb
  simp -implicitDefEqProofs only [Nat.reduceLT, bnd_some, bo_some, condK_true, condK_false, gdA_undef, decide_true, decide_false, Int.reduceLE, Int.reduceLT, Int.reduceEq, Int.reduceNeg, Int.reduceAdd, gd_tt, gd_tf, gd_ft, gd_ff, unG_pure, lift_some, bnd_lift, Option.map_some, Option.bind_some, fieldPtr_ref, fieldPtr_ip, nil_ref, nil_ip, nil_fn, ex_tup, fl_agg, List.getElem?_cons_zero, List.getElem?_cons_succ, Nat.zero_add, Nat.add_zero, Nat.reduceAdd, pk_t, pk_f, lss_int, leq_int, gtr_int, geq_int, eql_int, neq_int, not_bool, beq_self_eq_true, if_true, Bool.false_eq_true, if_false, List.nil_append, List.cons_append, List.append_nil, alc_eq, mkm_eq, nNew, nPut, bNew, bPut, nGrd, bGrd, ldN_is, ldN_lt, ldaN_is, ldaN_lt, stN_is, stN_lt, Nat.lt_add_one, ne_eq, nx1, nx2, nx3, ny1, ny2, ny3, not_false_eq_true, List.length_cons, List.length_nil, Nat.reduceLeDiff, setAt, List.take_succ_cons, List.take_zero, List.drop_succ_cons, List.drop_zero, cells_dat, cells_int, cells_bool, cells_agg, List.all_cons, List.all_nil, isCell_int, isCell_bool, isCell_dat, isCell_ref, isCell_nil, isCell_vsl, cells_vsl, av_len_cfg, av_len_pkt, av_len_opn, av_len_evn, av_len_ent, av_len_row, av_len_deal, av_len_pck, tk_cfg, tk_pkt, tk_opn, tk_evn, tk_ent, tk_row, tk_deal, tk_pck, all_cfg, all_pkt, all_opn, all_evn, all_ent, all_row, all_deal, all_pck, List.drop_nil, Bool.and_true, Bool.and_self, and_self, Nat.le_refl, true_and, and_true, Nat.le_add_right, leS, ltS, sh_28, T_str, e1, b0, bd_52, bldA, fillA, pl_52, cells_u16, isCell_u16, eb, e3, ps]
  try rfl

end Go.Proofs.YtjmldnpdfnklcaaDoor

namespace Go.Proofs.YtjmldnpdfnklcaaDoor

/-- The line of a pick. -/
def pickLine (p : Pck) : Str :=
  if p.deliver = false then 115 :: 116 :: 101 :: 112 :: 32 :: Lib.itoa p.at_ else
  if p.mask = 0 then 103 :: 105 :: 118 :: 101 :: 32 :: Lib.itoa p.at_ else Lib.join [spoilW, Lib.itoa p.at_, Lib.itoa p.bit, Lib.itoa p.mask] [32]
theorem join4 (a b d e c : Str) : Lib.join [a, b, d, e] c = a ++ (c ++ b ++ (c ++ d ++ (c ++ e))) := by
  rw [Lib.join_cons]; simp [Lib.joinTail]
theorem pickLine_sp (H : AHeap) {p : Pck} (h1 : In64 p.at_) (h2 : In64 p.bit) (h3 : 0 ≤ p.mask) (h4 : p.mask ≤ 65535) : cl 45 [.agg p.av] H = some (T (pickLine p), H) := by
  refine pure_val rfl rfl (rn_45 _ _ _) ?_ frz_s
  let H1 := H.guard.new (.blk 0 52 p.av)
  have eb : boxA 52 (.agg p.av) H.guard = some (.ref H.next 0 0, H1) := box_agg (all_pck p)
  have l1 := itoa_len h1
  have l2 := itoa_len h2
  have t1 := itoa_sp H1 h1
  have m64 : In64 p.mask := ⟨by omega, by omega⟩
  have l3 := itoa_len m64
  cases hd : p.deliver with
  | false =>
    have hl : pickLine p = [115, 116, 101, 112, 32] ++ Lib.itoa p.at_ := by unfold pickLine; rw [if_pos hd]; rfl
    have ad := add_T (P := Tryd.prog) (t := 9) (a := [115, 116, 101, 112, 32]) (b := Lib.itoa p.at_) (by simp; omega)
    rw [hl]
    simp only [Pck.av, H1, hd] at eb t1
    simp -implicitDefEqProofs only [Nat.reduceLT, bnd_some, bo_some, condK_true, condK_false, gdA_undef, decide_true, decide_false, Int.reduceLE, Int.reduceLT, Int.reduceEq, Int.reduceNeg, Int.reduceAdd, gd_tt, gd_tf, gd_ft, gd_ff, unG_pure, lift_some, bnd_lift, Option.map_some, Option.bind_some, fieldPtr_ref, fieldPtr_ip, nil_ref, nil_ip, nil_fn, ex_tup, fl_agg, List.getElem?_cons_zero, List.getElem?_cons_succ, Nat.zero_add, Nat.add_zero, Nat.reduceAdd, pk_t, pk_f, lss_int, leq_int, gtr_int, geq_int, eql_int, neq_int, not_bool, beq_self_eq_true, if_true, Bool.false_eq_true, if_false, List.nil_append, List.cons_append, List.append_nil, alc_eq, mkm_eq, nNew, nPut, bNew, bPut, nGrd, bGrd, ldN_is, ldN_lt, ldaN_is, ldaN_lt, stN_is, stN_lt, Nat.lt_add_one, ne_eq, nx1, nx2, nx3, ny1, ny2, ny3, not_false_eq_true, List.length_cons, List.length_nil, Nat.reduceLeDiff, setAt, List.take_succ_cons, List.take_zero, List.drop_succ_cons, List.drop_zero, cells_dat, cells_int, cells_bool, cells_agg, List.all_cons, List.all_nil, isCell_int, isCell_bool, isCell_dat, isCell_ref, isCell_nil, isCell_vsl, cells_vsl, av_len_cfg, av_len_pkt, av_len_opn, av_len_evn, av_len_ent, av_len_row, av_len_deal, av_len_pck, tk_cfg, tk_pkt, tk_opn, tk_evn, tk_ent, tk_row, tk_deal, tk_pck, all_cfg, all_pkt, all_opn, all_evn, all_ent, all_row, all_deal, all_pck, List.drop_nil, Bool.and_true, Bool.and_self, and_self, Nat.le_refl, true_and, and_true, Nat.le_add_right, leS, ltS, sh_45, Pck.av, eb, hd, t1, T_str, ad, Bool.not_false]
    try rfl
  | true =>
    by_cases hm : p.mask = 0
    · have hl : pickLine p = [103, 105, 118, 101, 32] ++ Lib.itoa p.at_ := by unfold pickLine; rw [if_neg (by rw [hd]; decide), if_pos hm]; rfl
      have ad := add_T (P := Tryd.prog) (t := 9) (a := [103, 105, 118, 101, 32]) (b := Lib.itoa p.at_) (by simp; omega)
      rw [hl]
      simp only [Pck.av, H1, hd, hm] at eb t1
      simp -implicitDefEqProofs only [Nat.reduceLT, bnd_some, bo_some, condK_true, condK_false, gdA_undef, decide_true, decide_false, Int.reduceLE, Int.reduceLT, Int.reduceEq, Int.reduceNeg, Int.reduceAdd, gd_tt, gd_tf, gd_ft, gd_ff, unG_pure, lift_some, bnd_lift, Option.map_some, Option.bind_some, fieldPtr_ref, fieldPtr_ip, nil_ref, nil_ip, nil_fn, ex_tup, fl_agg, List.getElem?_cons_zero, List.getElem?_cons_succ, Nat.zero_add, Nat.add_zero, Nat.reduceAdd, pk_t, pk_f, lss_int, leq_int, gtr_int, geq_int, eql_int, neq_int, not_bool, beq_self_eq_true, if_true, Bool.false_eq_true, if_false, List.nil_append, List.cons_append, List.append_nil, alc_eq, mkm_eq, nNew, nPut, bNew, bPut, nGrd, bGrd, ldN_is, ldN_lt, ldaN_is, ldaN_lt, stN_is, stN_lt, Nat.lt_add_one, ne_eq, nx1, nx2, nx3, ny1, ny2, ny3, not_false_eq_true, List.length_cons, List.length_nil, Nat.reduceLeDiff, setAt, List.take_succ_cons, List.take_zero, List.drop_succ_cons, List.drop_zero, cells_dat, cells_int, cells_bool, cells_agg, List.all_cons, List.all_nil, isCell_int, isCell_bool, isCell_dat, isCell_ref, isCell_nil, isCell_vsl, cells_vsl, av_len_cfg, av_len_pkt, av_len_opn, av_len_evn, av_len_ent, av_len_row, av_len_deal, av_len_pck, tk_cfg, tk_pkt, tk_opn, tk_evn, tk_ent, tk_row, tk_deal, tk_pck, all_cfg, all_pkt, all_opn, all_evn, all_ent, all_row, all_deal, all_pck, List.drop_nil, Bool.and_true, Bool.and_self, and_self, Nat.le_refl, true_and, and_true, Nat.le_add_right, leS, ltS, sh_45, Pck.av, eb, hd, t1, T_str, ad, Bool.not_true, hm]
      try rfl
    · have hl : pickLine p = Lib.join [spoilW, Lib.itoa p.at_, Lib.itoa p.bit, Lib.itoa p.mask] [32] := by unfold pickLine; rw [if_neg (by rw [hd]; decide), if_neg hm]
      have t2 := itoa_sp H1.guard h2
      have t3 := itoa_sp H1 m64
      have cc : ∀ H, cv 50 3 (.s (.int .u16 p.mask)) H = some (I p.mask, H) := fun H => by
        have := cv_int (P := Tryd.prog) (s := 50) (d := 3) (k := .u16) (n := p.mask) (H := H) (by kernel_rfl) Tryd.underlying50 Tryd.underlying3
        rw [wrap_i64 (by omega) (by omega)] at this
        exact this
      let ws := [spoilW, Lib.itoa p.at_, Lib.itoa p.bit, Lib.itoa p.mask]
      let H2 := H1.new (.blk 0 9 (ws.map T))
      have hn1 : H1.next = H.next + 1 := by simp only [H1]; rw [nNew, nGrd]
      have e2 : bs 37 4 [(0, T spoilW), (1, T (Lib.itoa p.at_)), (2, T (Lib.itoa p.bit)), (3, T (Lib.itoa p.mask))] H1 = some (.sl (H.next + 1) 0 0 1 4 4 true, H2) := (bs_37 (n := 4) (by decide)).trans rfl
      have o2 : Own (H.next + 1) H2 (.sl (H.next + 1) 0 0 1 4 4 true) 1 (ws.map T) :=
        .inr ⟨H.next + 1, 0, 0, _, _, true, _, ws.map T, rfl, Nat.le_refl _, by simp only [H2]; rw [nNew]; omega, Nat.le_refl _, by simp only [H2]; rw [← hn1]; exact getNew_eq, by simp [ws], all_T ws, rfl⟩
      have j := join_sp (sep := [32]) o2 (by simp [ws]) (by simp [ws]) (by
        simp only [ws]
        rw [join4]
        simp [spoilW]; omega)
      rw [hl]
      have e2' : bs 37 4 [(0, T [115, 112, 111, 105, 108]), (1, T (Lib.itoa p.at_)), (2, T (Lib.itoa p.bit)), (3, T (Lib.itoa p.mask))] H1 = some (.sl (H.next + 1) 0 0 1 4 4 true, H2) := e2
      simp only [Pck.av, H1, H2, hd] at eb t1 t2 t3 e2' j
      simp -implicitDefEqProofs only [Nat.reduceLT, bnd_some, bo_some, condK_true, condK_false, gdA_undef, decide_true, decide_false, Int.reduceLE, Int.reduceLT, Int.reduceEq, Int.reduceNeg, Int.reduceAdd, gd_tt, gd_tf, gd_ft, gd_ff, unG_pure, lift_some, bnd_lift, Option.map_some, Option.bind_some, fieldPtr_ref, fieldPtr_ip, nil_ref, nil_ip, nil_fn, ex_tup, fl_agg, List.getElem?_cons_zero, List.getElem?_cons_succ, Nat.zero_add, Nat.add_zero, Nat.reduceAdd, pk_t, pk_f, lss_int, leq_int, gtr_int, geq_int, eql_int, neq_int, not_bool, beq_self_eq_true, if_true, Bool.false_eq_true, if_false, List.nil_append, List.cons_append, List.append_nil, alc_eq, mkm_eq, nNew, nPut, bNew, bPut, nGrd, bGrd, ldN_is, ldN_lt, ldaN_is, ldaN_lt, stN_is, stN_lt, Nat.lt_add_one, ne_eq, nx1, nx2, nx3, ny1, ny2, ny3, not_false_eq_true, List.length_cons, List.length_nil, Nat.reduceLeDiff, setAt, List.take_succ_cons, List.take_zero, List.drop_succ_cons, List.drop_zero, cells_dat, cells_int, cells_bool, cells_agg, List.all_cons, List.all_nil, isCell_int, isCell_bool, isCell_dat, isCell_ref, isCell_nil, isCell_vsl, cells_vsl, av_len_cfg, av_len_pkt, av_len_opn, av_len_evn, av_len_ent, av_len_row, av_len_deal, av_len_pck, tk_cfg, tk_pkt, tk_opn, tk_evn, tk_ent, tk_row, tk_deal, tk_pck, all_cfg, all_pkt, all_opn, all_evn, all_ent, all_row, all_deal, all_pck, List.drop_nil, Bool.and_true, Bool.and_self, and_self, Nat.le_refl, true_and, and_true, Nat.le_add_right, leS, ltS, sh_45, Pck.av, eb, hd, t1, T_str, Bool.not_true, hm, t2, cc, t3, e2', j]
      try rfl

end Go.Proofs.YtjmldnpdfnklcaaDoor

namespace Go.Proofs.YtjmldnpdfnklcaaDoor



end Go.Proofs.YtjmldnpdfnklcaaDoor

namespace Go.Proofs.YtjmldnpdfnklcaaDoor

def pickWords (p : Pck) : List Str :=
  if p.deliver = false then [stepW, Lib.itoa p.at_] else if p.mask = 0 then [giveW, Lib.itoa p.at_] else [spoilW, Lib.itoa p.at_, Lib.itoa p.bit, Lib.itoa p.mask]
theorem pickLine_is (p : Pck) : pickLine p = blanks (pickWords p) := by
  unfold pickLine pickWords
  by_cases h : p.deliver = false
  · rw [if_pos h, if_pos h]; rfl
  · rw [if_neg h, if_neg h]
    by_cases h2 : p.mask = 0
    · rw [if_pos h2, if_pos h2]; rfl
    · rw [if_neg h2, if_neg h2, join4]
      simp [blanks, List.append_assoc]
theorem pickWords_ok (p : Pck) : ∀ w ∈ pickWords p, w ≠ [] ∧ ∀ b ∈ w, b ≠ 32 ∧ b ≠ 10 := by
  have k1 : stepW ≠ [] ∧ ∀ b ∈ stepW, b ≠ 32 ∧ b ≠ 10 := ⟨by decide, by decide⟩
  have k2 : giveW ≠ [] ∧ ∀ b ∈ giveW, b ≠ 32 ∧ b ≠ 10 := ⟨by decide, by decide⟩
  have k3 : spoilW ≠ [] ∧ ∀ b ∈ spoilW, b ≠ 32 ∧ b ≠ 10 := ⟨by decide, by decide⟩
  intro w hw
  unfold pickWords at hw
  split at hw
  · simp only [List.mem_cons, List.not_mem_nil, or_false] at hw
    rcases hw with rfl | rfl
    · exact k1
    · exact itoa_word _
  · split at hw
    · simp only [List.mem_cons, List.not_mem_nil, or_false] at hw
      rcases hw with rfl | rfl
      · exact k2
      · exact itoa_word _
    · simp only [List.mem_cons, List.not_mem_nil, or_false] at hw
      rcases hw with rfl | rfl | rfl | rfl
      · exact k3
      · exact itoa_word _
      · exact itoa_word _
      · exact itoa_word _
theorem pickWords_ne (p : Pck) : pickWords p ≠ [] := by
  unfold pickWords
  split
  · simp
  · split <;> simp
theorem words_pick (p : Pck) : wordsTx (pickLine p) = pickWords p := by
  rw [pickLine_is, words_blanks fun w hw => ⟨(pickWords_ok p w hw).1, fun b hb => ((pickWords_ok p w hw).2 b hb).1⟩]
theorem parse_pick (p : Pck) : parseTx pickTx (pickLine p) = (pickTx (pickWords p)).map fun o => [o] := by
  rw [pickLine_is, parse_one _ (pickWords_ok p) (pickWords_ne p)]
/-- A pick whose numbers the machine's words hold. -/
def PckIn (p : Pck) : Prop := In64 p.at_ ∧ In64 p.bit ∧ 0 ≤ p.mask ∧ p.mask ≤ 65535
theorem pickLine_len {p : Pck} (h : PckIn p) : (pickLine p).length ≤ 80 := by
  have l1 := itoa_len h.1
  have l2 := itoa_len h.2.1
  have l3 := itoa_len (n := p.mask) ⟨by have := h.2.2.1; omega, by have := h.2.2.2; omega⟩
  unfold pickLine
  split
  · simp; omega
  · split
    · simp; omega
    · rw [join4]; simp [spoilW]; omega
theorem pickWords_wo {p : Pck} (h : PckIn p) : WordsOk (pickWords p) := by
  have := wordsTx_ok (l := pickLine p) (n := 80) (by rw [words_pick]; exact pickWords_ne p) (pickLine_len h) (by omega)
  rw [words_pick] at this
  exact this
/-- Picks, printed; 'none' where one has no line. -/
def printPk : List Pck → Option Str
  | [] => some []
  | p :: ps => if pickTx (pickWords p) = some p then (printPk ps).map fun t => pickLine p ++ (10 :: t) else none
theorem rprintPicks_sp (H : AHeap) {ps : List Pck} (hn : ps.length ≤ 1000) (hp : ∀ p ∈ ps, PckIn p) : cl 31 [vsl 4 Pck.av ps] H = some (.tup [T ((printPk ps).getD []), B (printPk ps).isSome], H) := by
  refine pure_val rfl rfl (rn_31 _ _ _) ?_ (frz_tup fun x hx => by
    simp only [List.mem_cons, List.mem_singleton, List.not_mem_nil, or_false] at hx
    rcases hx with rfl | rfl <;> exact frz_s)
  have hx := fun H => vsl_is av_len_pck H ps
  have key : ∀ k j : Nat, j + k = ps.length → ∀ (acc : Str), acc.length ≤ 100 * j → ∀ Hi : AHeap, Hi.base ≤ Hi.next →
      (lp_31x0 cl [T acc, vsl 4 Pck.av ps, I ps.length, I j] Hi).map Prod.fst = some (.tup [T (((printPk (ps.drop j)).map (acc ++ ·)).getD []), B (printPk (ps.drop j)).isSome]) := by
    intro k
    induction k with
    | zero =>
      intro j hj acc ha Hi hb
      have h1 : ¬ (j : Int) < ps.length := by omega
      rw [le_31x0, List.drop_eq_nil_of_le (by omega)]
      simp -implicitDefEqProofs only [Nat.reduceLT, bnd_some, bo_some, condK_true, condK_false, gdA_undef, decide_true, decide_false, Int.reduceLE, Int.reduceLT, Int.reduceEq, Int.reduceNeg, Int.reduceAdd, gd_tt, gd_tf, gd_ft, gd_ff, unG_pure, lift_some, bnd_lift, Option.map_some, Option.bind_some, fieldPtr_ref, fieldPtr_ip, nil_ref, nil_ip, nil_fn, ex_tup, fl_agg, List.getElem?_cons_zero, List.getElem?_cons_succ, Nat.zero_add, Nat.add_zero, Nat.reduceAdd, pk_t, pk_f, lss_int, leq_int, gtr_int, geq_int, eql_int, neq_int, not_bool, beq_self_eq_true, if_true, Bool.false_eq_true, if_false, List.nil_append, List.cons_append, List.append_nil, alc_eq, mkm_eq, nNew, nPut, bNew, bPut, nGrd, bGrd, h1, printPk, List.append_nil, Option.getD_some, Option.isSome_some]
    | succ k ih =>
      intro j hj acc ha Hi hb
      have h1 : (j : Int) < ps.length := by omega
      have h6 : (j : Int) + 1 = ((j + 1 : Nat) : Int) := by omega
      have h7 := wrap_i64 (a := ((j + 1 : Nat) : Int)) (by omega) (by omega)
      have s1 := (hx Hi).ix (k := .i64) (i := (j : Int)) (by omega) h1
      rw [Int.toNat_natCast] at s1
      obtain ⟨p, ho⟩ : ∃ p, ps[j]? = some p := ⟨_, List.getElem?_eq_getElem (by omega)⟩
      have t1 := lda_elem av_len_pck (hx Hi) ho
      have hdr : ps.drop j = p :: ps.drop (j + 1) := by
        rw [List.drop_eq_getElem_cons (by omega)]
        congr 1
        rw [List.getElem?_eq_getElem (by omega)] at ho
        exact Option.some.inj ho
      rw [hdr]
      have pin := hp p (List.mem_of_getElem? ho)
      have pin2 := pin
      obtain ⟨i1, i2, i3, i4⟩ := pin2
      have i5 : In64 p.mask := ⟨by omega, by omega⟩
      have l1 := itoa_len i1
      have l2 := itoa_len i2
      have l3 := itoa_len i5
      have ll := pickLine_len pin
      let H1 := Hi.new (.blk 0 52 p.av)
      -- behind the text
      have tail : (jn_31x0 cl (T acc) (.ref Hi.next 0 0) (T (pickLine p)) (vsl 4 Pck.av ps) (I ps.length) (I j) H1).map Prod.fst = some (.tup [T (((printPk (p :: ps.drop (j + 1))).map (acc ++ ·)).getD []), B (printPk (p :: ps.drop (j + 1))).isSome]) := by
        obtain ⟨y, w1, w2⟩ := rwords_sp H1 (l := pickLine p) (by omega)
        rw [words_pick] at w2
        have wl : (pickWords p).length ≤ 1000000 := by
          unfold pickWords
          split
          · simp
          · split <;> simp
        obtain ⟨o, q1, q2⟩ := rpick_sp H1 w2 (pickWords_wo pin) wl
        have a1 := add_T (P := Tryd.prog) (t := 9) (a := pickLine p) (b := [10]) (by simp; omega)
        have a2 := add_T (P := Tryd.prog) (t := 9) (a := acc) (b := pickLine p ++ [10]) (by simp; omega)
        have hb1 : H1.base ≤ H1.next := by simp only [H1]; rw [bNew, nNew]; omega
        have ld6 : lda 4 (.ref Hi.next 0 0) (H1.new (.blk 0 52 o.av)) = some (.agg p.av, H1.new (.blk 0 52 o.av)) := by
          rw [ldaN_lt (by simp only [H1]; rw [nNew]; omega), show lda 4 (.ref Hi.next 0 0) H1 = some (.agg p.av, H1) from by
            simp only [H1]
            rw [ldaN_is rfl, if_pos (by rw [av_len_pck]; decide)]
            rw [List.drop_zero, tk_pck]]
          rfl
        have ld8 : lda 4 (.ref (Hi.next + 1) 0 0) (H1.new (.blk 0 52 o.av)) = some (.agg o.av, H1.new (.blk 0 52 o.av)) := by
          rw [ldaN_is (by simp only [H1]; rw [nNew]), if_pos (by rw [av_len_pck]; decide), List.drop_zero, tk_pck]
        have st8 : st 4 (.ref (Hi.next + 1) 0 0) (.agg o.av) (H1.new (.blk 0 52 [zB, zI, zI, .s (.int .u16 0)])) = some (undefA, H1.new (.blk 0 52 o.av)) := by
          rw [stN_is (by simp only [H1]; rw [nNew]), if_pos ⟨by simp only [H1]; rw [bNew]; omega, rfl, all_pck o, by rw [cells_agg, av_len_pck]; decide⟩]
          congr 3
        have hn1 : H1.next = Hi.next + 1 := by simp only [H1]; rw [nNew]
        by_cases hk : pickTx (pickWords p) = some p
        · rw [hk] at q1
          have ho := q2 p hk
          subst ho
          have hd : decide (o = o) = true := by simp
          have r1 := ih (j + 1) (by omega) (acc ++ (pickLine o ++ [10])) (by simp; omega) (H1.new (.blk 0 52 o.av)) (by rw [bNew, nNew]; omega)
          have hP : printPk (o :: ps.drop (j + 1)) = (printPk (ps.drop (j + 1))).map fun t => pickLine o ++ (10 :: t) := by rw [printPk, if_pos hk]
          rw [hP]
          have r2 : some (AV.tup [T (((printPk (ps.drop (j + 1))).map (acc ++ (pickLine o ++ [10]) ++ ·)).getD []), B (printPk (ps.drop (j + 1))).isSome]) = some (AV.tup [T ((((printPk (ps.drop (j + 1))).map fun t => pickLine o ++ (10 :: t)).map (acc ++ ·)).getD []), B ((printPk (ps.drop (j + 1))).map fun t => pickLine o ++ (10 :: t)).isSome]) := by
            cases printPk (ps.drop (j + 1)) with
            | none => rfl
            | some u => simp [List.append_assoc]
          rw [← r2, ← r1]
          simp -implicitDefEqProofs only [Nat.reduceLT, bnd_some, bo_some, condK_true, condK_false, gdA_undef, decide_true, decide_false, Int.reduceLE, Int.reduceLT, Int.reduceEq, Int.reduceNeg, Int.reduceAdd, gd_tt, gd_tf, gd_ft, gd_ff, unG_pure, lift_some, bnd_lift, Option.map_some, Option.bind_some, fieldPtr_ref, fieldPtr_ip, nil_ref, nil_ip, nil_fn, ex_tup, fl_agg, List.getElem?_cons_zero, List.getElem?_cons_succ, Nat.zero_add, Nat.add_zero, Nat.reduceAdd, pk_t, pk_f, lss_int, leq_int, gtr_int, geq_int, eql_int, neq_int, not_bool, beq_self_eq_true, if_true, Bool.false_eq_true, if_false, List.nil_append, List.cons_append, List.append_nil, alc_eq, mkm_eq, nNew, nPut, bNew, bPut, nGrd, bGrd, jn_31x0, w1, q1, Option.isSome_some, hn1, st8, Bool.not_true, ld8, ld6, neq_pck, hd, T_str, a1, a2, add_int, h6, h7]
        · have hP : printPk (p :: ps.drop (j + 1)) = none := by rw [printPk, if_neg hk]
          rw [hP]
          cases hk2 : pickTx (pickWords p) with
          | none =>
            rw [hk2] at q1
            simp -implicitDefEqProofs only [Nat.reduceLT, bnd_some, bo_some, condK_true, condK_false, gdA_undef, decide_true, decide_false, Int.reduceLE, Int.reduceLT, Int.reduceEq, Int.reduceNeg, Int.reduceAdd, gd_tt, gd_tf, gd_ft, gd_ff, unG_pure, lift_some, bnd_lift, Option.map_some, Option.bind_some, fieldPtr_ref, fieldPtr_ip, nil_ref, nil_ip, nil_fn, ex_tup, fl_agg, List.getElem?_cons_zero, List.getElem?_cons_succ, Nat.zero_add, Nat.add_zero, Nat.reduceAdd, pk_t, pk_f, lss_int, leq_int, gtr_int, geq_int, eql_int, neq_int, not_bool, beq_self_eq_true, if_true, Bool.false_eq_true, if_false, List.nil_append, List.cons_append, List.append_nil, alc_eq, mkm_eq, nNew, nPut, bNew, bPut, nGrd, bGrd, jn_31x0, w1, q1, Option.isSome_none, hn1, st8, Bool.not_false, T_str]
            try rfl
          | some p' =>
            rw [hk2] at q1
            have ho := q2 p' hk2
            have hd : decide (o = p) = false := decide_eq_false fun e => hk (by rw [hk2, ← ho, e])
            simp -implicitDefEqProofs only [Nat.reduceLT, bnd_some, bo_some, condK_true, condK_false, gdA_undef, decide_true, decide_false, Int.reduceLE, Int.reduceLT, Int.reduceEq, Int.reduceNeg, Int.reduceAdd, gd_tt, gd_tf, gd_ft, gd_ff, unG_pure, lift_some, bnd_lift, Option.map_some, Option.bind_some, fieldPtr_ref, fieldPtr_ip, nil_ref, nil_ip, nil_fn, ex_tup, fl_agg, List.getElem?_cons_zero, List.getElem?_cons_succ, Nat.zero_add, Nat.add_zero, Nat.reduceAdd, pk_t, pk_f, lss_int, leq_int, gtr_int, geq_int, eql_int, neq_int, not_bool, beq_self_eq_true, if_true, Bool.false_eq_true, if_false, List.nil_append, List.cons_append, List.append_nil, alc_eq, mkm_eq, nNew, nPut, bNew, bPut, nGrd, bGrd, jn_31x0, w1, q1, Option.isSome_some, hn1, st8, Bool.not_true, Bool.not_false, ld8, ld6, neq_pck, hd, T_str]
            try rfl
      have g1 := digits_sp H1 i1
      simp only [Pck.av] at t1
      rw [le_31x0]
      cases hd : p.deliver with
      | false =>
        have hl : pickLine p = [115, 116, 101, 112, 32] ++ Lib.itoa p.at_ := by unfold pickLine; rw [if_pos hd]; rfl
        have ad := add_T (P := Tryd.prog) (t := 9) (a := [115, 116, 101, 112, 32]) (b := Lib.itoa p.at_) (by simp; omega)
        rw [← hl] at ad
        simp only [H1, Pck.av, hd] at g1 tail t1
        simp -implicitDefEqProofs only [Nat.reduceLT, bnd_some, bo_some, condK_true, condK_false, gdA_undef, decide_true, decide_false, Int.reduceLE, Int.reduceLT, Int.reduceEq, Int.reduceNeg, Int.reduceAdd, gd_tt, gd_tf, gd_ft, gd_ff, unG_pure, lift_some, bnd_lift, Option.map_some, Option.bind_some, fieldPtr_ref, fieldPtr_ip, nil_ref, nil_ip, nil_fn, ex_tup, fl_agg, List.getElem?_cons_zero, List.getElem?_cons_succ, Nat.zero_add, Nat.add_zero, Nat.reduceAdd, pk_t, pk_f, lss_int, leq_int, gtr_int, geq_int, eql_int, neq_int, not_bool, beq_self_eq_true, if_true, Bool.false_eq_true, if_false, List.nil_append, List.cons_append, List.append_nil, alc_eq, mkm_eq, nNew, nPut, bNew, bPut, nGrd, bGrd, ldN_is, ldN_lt, ldaN_is, ldaN_lt, stN_is, stN_lt, Nat.lt_add_one, ne_eq, nx1, nx2, nx3, ny1, ny2, ny3, not_false_eq_true, List.length_cons, List.length_nil, Nat.reduceLeDiff, setAt, List.take_succ_cons, List.take_zero, List.drop_succ_cons, List.drop_zero, cells_dat, cells_int, cells_bool, cells_agg, List.all_cons, List.all_nil, isCell_int, isCell_bool, isCell_dat, isCell_ref, isCell_nil, isCell_vsl, cells_vsl, av_len_cfg, av_len_pkt, av_len_opn, av_len_evn, av_len_ent, av_len_row, av_len_deal, av_len_pck, tk_cfg, tk_pkt, tk_opn, tk_evn, tk_ent, tk_row, tk_deal, tk_pck, all_cfg, all_pkt, all_opn, all_evn, all_ent, all_row, all_deal, all_pck, List.drop_nil, Bool.and_true, Bool.and_self, and_self, Nat.le_refl, true_and, and_true, Nat.le_add_right, leS, ltS, h1, s1, t1, hb, put_new, isCell_u16, T_str, g1, ad]
        exact tail
      | true =>
        have a1 := add_T (P := Tryd.prog) (t := 9) (a := [115, 116, 101, 112, 32]) (b := Lib.itoa p.at_) (by simp; omega)
        by_cases hm : p.mask = 0
        · have hl : pickLine p = [103, 105, 118, 101, 32] ++ Lib.itoa p.at_ := by unfold pickLine; rw [if_neg (by rw [hd]; decide), if_pos hm]; rfl
          have ad := add_T (P := Tryd.prog) (t := 9) (a := [103, 105, 118, 101, 32]) (b := Lib.itoa p.at_) (by simp; omega)
          rw [← hl] at ad
          have dm : decide (p.mask = 0) = true := decide_eq_true hm
          simp only [H1, Pck.av, hd] at g1 tail t1
          simp -implicitDefEqProofs only [Nat.reduceLT, bnd_some, bo_some, condK_true, condK_false, gdA_undef, decide_true, decide_false, Int.reduceLE, Int.reduceLT, Int.reduceEq, Int.reduceNeg, Int.reduceAdd, gd_tt, gd_tf, gd_ft, gd_ff, unG_pure, lift_some, bnd_lift, Option.map_some, Option.bind_some, fieldPtr_ref, fieldPtr_ip, nil_ref, nil_ip, nil_fn, ex_tup, fl_agg, List.getElem?_cons_zero, List.getElem?_cons_succ, Nat.zero_add, Nat.add_zero, Nat.reduceAdd, pk_t, pk_f, lss_int, leq_int, gtr_int, geq_int, eql_int, neq_int, not_bool, beq_self_eq_true, if_true, Bool.false_eq_true, if_false, List.nil_append, List.cons_append, List.append_nil, alc_eq, mkm_eq, nNew, nPut, bNew, bPut, nGrd, bGrd, ldN_is, ldN_lt, ldaN_is, ldaN_lt, stN_is, stN_lt, Nat.lt_add_one, ne_eq, nx1, nx2, nx3, ny1, ny2, ny3, not_false_eq_true, List.length_cons, List.length_nil, Nat.reduceLeDiff, setAt, List.take_succ_cons, List.take_zero, List.drop_succ_cons, List.drop_zero, cells_dat, cells_int, cells_bool, cells_agg, List.all_cons, List.all_nil, isCell_int, isCell_bool, isCell_dat, isCell_ref, isCell_nil, isCell_vsl, cells_vsl, av_len_cfg, av_len_pkt, av_len_opn, av_len_evn, av_len_ent, av_len_row, av_len_deal, av_len_pck, tk_cfg, tk_pkt, tk_opn, tk_evn, tk_ent, tk_row, tk_deal, tk_pck, all_cfg, all_pkt, all_opn, all_evn, all_ent, all_row, all_deal, all_pck, List.drop_nil, Bool.and_true, Bool.and_self, and_self, Nat.le_refl, true_and, and_true, Nat.le_add_right, leS, ltS, h1, s1, t1, hb, put_new, isCell_u16, T_str, g1, a1, ad, dm, Bool.not_true]
          exact tail
        · have hl : pickLine p = [115, 112, 111, 105, 108, 32] ++ Lib.itoa p.at_ ++ [32] ++ Lib.itoa p.bit ++ [32] ++ Lib.itoa p.mask := by
            unfold pickLine; rw [if_neg (by rw [hd]; decide), if_neg hm, join4]; simp [spoilW, List.append_assoc]
          have ad := add_T (P := Tryd.prog) (t := 9) (a := [103, 105, 118, 101, 32]) (b := Lib.itoa p.at_) (by simp; omega)
          have dm : decide (p.mask = 0) = false := decide_eq_false hm
          have g1' := digits_sp H1.guard i1
          have g2 := digits_sp H1.guard i2
          have g3 := digits_sp H1 i5
          have cc : ∀ H, cv 50 3 (.s (.int .u16 p.mask)) H = some (I p.mask, H) := fun H => by
            have := cv_int (P := Tryd.prog) (s := 50) (d := 3) (k := .u16) (n := p.mask) (H := H) (by kernel_rfl) Tryd.underlying50 Tryd.underlying3
            rw [wrap_i64 (by omega) (by omega)] at this
            exact this
          have b1 := add_T (P := Tryd.prog) (t := 9) (a := [115, 112, 111, 105, 108, 32]) (b := Lib.itoa p.at_) (by simp; omega)
          have b2 := add_T (P := Tryd.prog) (t := 9) (a := [115, 112, 111, 105, 108, 32] ++ Lib.itoa p.at_) (b := [32]) (by simp; omega)
          have b3 := add_T (P := Tryd.prog) (t := 9) (a := [115, 112, 111, 105, 108, 32] ++ Lib.itoa p.at_ ++ [32]) (b := Lib.itoa p.bit) (by simp; omega)
          have b4 := add_T (P := Tryd.prog) (t := 9) (a := [115, 112, 111, 105, 108, 32] ++ Lib.itoa p.at_ ++ [32] ++ Lib.itoa p.bit) (b := [32]) (by simp; omega)
          have b5 := add_T (P := Tryd.prog) (t := 9) (a := [115, 112, 111, 105, 108, 32] ++ Lib.itoa p.at_ ++ [32] ++ Lib.itoa p.bit ++ [32]) (b := Lib.itoa p.mask) (by simp; omega)
          rw [← hl] at b5
          simp only [H1, Pck.av, hd] at g1 g1' g2 g3 tail t1
          simp only [List.cons_append, List.nil_append] at b1 b2 b3 b4 b5 a1 ad
          simp -implicitDefEqProofs only [Nat.reduceLT, bnd_some, bo_some, condK_true, condK_false, gdA_undef, decide_true, decide_false, Int.reduceLE, Int.reduceLT, Int.reduceEq, Int.reduceNeg, Int.reduceAdd, gd_tt, gd_tf, gd_ft, gd_ff, unG_pure, lift_some, bnd_lift, Option.map_some, Option.bind_some, fieldPtr_ref, fieldPtr_ip, nil_ref, nil_ip, nil_fn, ex_tup, fl_agg, List.getElem?_cons_zero, List.getElem?_cons_succ, Nat.zero_add, Nat.add_zero, Nat.reduceAdd, pk_t, pk_f, lss_int, leq_int, gtr_int, geq_int, eql_int, neq_int, not_bool, beq_self_eq_true, if_true, Bool.false_eq_true, if_false, List.nil_append, List.cons_append, List.append_nil, alc_eq, mkm_eq, nNew, nPut, bNew, bPut, nGrd, bGrd, ldN_is, ldN_lt, ldaN_is, ldaN_lt, stN_is, stN_lt, Nat.lt_add_one, ne_eq, nx1, nx2, nx3, ny1, ny2, ny3, not_false_eq_true, List.length_cons, List.length_nil, Nat.reduceLeDiff, setAt, List.take_succ_cons, List.take_zero, List.drop_succ_cons, List.drop_zero, cells_dat, cells_int, cells_bool, cells_agg, List.all_cons, List.all_nil, isCell_int, isCell_bool, isCell_dat, isCell_ref, isCell_nil, isCell_vsl, cells_vsl, av_len_cfg, av_len_pkt, av_len_opn, av_len_evn, av_len_ent, av_len_row, av_len_deal, av_len_pck, tk_cfg, tk_pkt, tk_opn, tk_evn, tk_ent, tk_row, tk_deal, tk_pck, all_cfg, all_pkt, all_opn, all_evn, all_ent, all_row, all_deal, all_pck, List.drop_nil, Bool.and_true, Bool.and_self, and_self, Nat.le_refl, true_and, and_true, Nat.le_add_right, leS, ltS, h1, s1, t1, hb, put_new, isCell_u16, T_str, g1, a1, ad, dm, Bool.not_false, g1', b1, b2, g2, b3, b4, cc, g3, b5]
          exact tail
  have r1 := key ps.length 0 (by omega) [] (by simp) H.guard (Nat.le_refl _)
  rw [List.drop_zero] at r1
  have hln := (hx H.guard).lnS
  have r1' : (lp_31x0 cl [T [], vsl 4 Pck.av ps, I ps.length, I 0] H.guard).map Prod.fst = some (.tup [T ((printPk ps).getD []), B (printPk ps).isSome]) := by
    have : ((printPk ps).map ([] ++ ·)).getD [] = (printPk ps).getD [] := by cases printPk ps <;> rfl
    rw [this] at r1
    exact r1
  simp -implicitDefEqProofs only [Nat.reduceLT, bnd_some, bo_some, condK_true, condK_false, gdA_undef, decide_true, decide_false, Int.reduceLE, Int.reduceLT, Int.reduceEq, Int.reduceNeg, Int.reduceAdd, gd_tt, gd_tf, gd_ft, gd_ff, unG_pure, lift_some, bnd_lift, Option.map_some, Option.bind_some, fieldPtr_ref, fieldPtr_ip, nil_ref, nil_ip, nil_fn, ex_tup, fl_agg, List.getElem?_cons_zero, List.getElem?_cons_succ, Nat.zero_add, Nat.add_zero, Nat.reduceAdd, pk_t, pk_f, lss_int, leq_int, gtr_int, geq_int, eql_int, neq_int, not_bool, beq_self_eq_true, if_true, Bool.false_eq_true, if_false, List.nil_append, List.cons_append, List.append_nil, alc_eq, mkm_eq, nNew, nPut, bNew, bPut, nGrd, bGrd, sh_31, hln, T_str]
  exact r1'

end Go.Proofs.YtjmldnpdfnklcaaDoor

namespace Go.Proofs.YtjmldnpdfnklcaaDoor



end Go.Proofs.YtjmldnpdfnklcaaDoor

namespace Go.Proofs.YtjmldnpdfnklcaaDoor

/-- What a builder holds. -/
def BldIs (b : Nat) (H : AHeap) (r : Nat) (t : Str) : Prop :=
  b ≤ r ∧ r < H.next ∧ ∃ p v, H.get r = .blk 0 84 [p, v] ∧ (p = zP ∨ p = .ref r 0 0) ∧
    ((v = zN ∧ t = []) ∨ ∃ r2 g, v = .sl r2 g 0 1 t.length t.length false ∧ b ≤ r2 ∧ r2 < H.next ∧ r2 ≠ r ∧ t ≠ [] ∧ H.get r2 = .blk g (5 + tagB) (t.map U8))
theorem BldIs.ext {b : Nat} {H H' : AHeap} {r : Nat} {t : Str} (h : BldIs b H r t) (hn : H.next ≤ H'.next) (hg : ∀ x, b ≤ x → x < H.next → H'.get x = H.get x) : BldIs b H' r t := by
  obtain ⟨h1, h2, p, v, h3, h4, h5⟩ := h
  refine ⟨h1, by omega, p, v, by rw [hg r h1 h2]; exact h3, h4, h5.imp id fun ⟨r2, g, k1, k2, k3, k4, k5, k6⟩ => ⟨r2, g, k1, k2, by omega, k4, k5, by rw [hg r2 k2 k3]; exact k6⟩⟩
theorem app_T {e by_ : Nat} {v : AV} {s : Str} {H : AHeap} : app e 1 by_ v (T s) H = appendCells e 1 by_ v s.length (s.map U8) H := by
  simp only [app, T, sliceLen, sliceCells, size_T, toList_T]
theorem all_U8 : ∀ s : Str, (s.map U8).all AV.isCell = true
  | [] => rfl
  | b :: s => by rw [List.map_cons, List.all_cons, all_U8 s]; rfl
theorem grT_self {e : Nat} : grT e (e + tagB) 0 = e + tagB := by unfold grT; rw [if_pos ⟨.inr rfl, rfl⟩]
theorem write_sp {b : Nat} {H : AHeap} {r : Nat} {t : Str} (hbn : b ≤ H.next) (hb : H.base ≤ b) (h : BldIs b H r t) {s : Str} (hs : s ≠ []) (hl : t.length + s.length ≤ 1000000) :
    ∃ H', cl 47 [.ref r 0 0, T s] H = some (.tup [I s.length, .s .nilIface], H') ∧ BldIs b H' r (t ++ s) ∧ Step b H H' := by
  obtain ⟨h1, h2, p, v, h3, h4, h5⟩ := h
  have hv : v.isCell = true := by
    rcases h5 with ⟨rfl, _⟩ | ⟨r2, g, rfl, _⟩ <;> rfl
  have hs0 : s.length ≠ 0 := fun e => hs (List.eq_nil_of_length_eq_zero e)
  have c1 : ∃ H1, cl 75 [.ref r 0 0] H = some (.tup [], H1) ∧ H1.get r = .blk 0 84 [.ref r 0 0, v] ∧ (∀ x, x ≠ r → H1.get x = H.get x) ∧ H1.next = H.next ∧ H1.base = H.base := by
    rcases h4 with rfl | rfl
    · refine ⟨H.put r (.blk 0 84 [.ref r 0 0, v]), prim_of (p := copyP 84) (by rfl) ?_, getPut_eq, fun x hx => getPut_ne hx, rfl, rfl⟩
      simp only [copyP, h3]
      rw [if_pos ⟨trivial, by decide, by omega, hv⟩]
    · refine ⟨H, prim_of (p := copyP 84) (by rfl) ?_, h3, fun x _ => rfl, rfl, rfl⟩
      simp only [copyP, h3]
      rw [if_pos ⟨trivial, by decide, by omega, hv⟩]
      simp
  obtain ⟨H1, c1, g1, g2, g3, g4⟩ := c1
  have c2 : ∃ v' H2, app 5 1 1 v (T s) H1 = some (v', H2) ∧ H2.get r = .blk 0 84 [.ref r 0 0, v] ∧ v'.isCell = true ∧ v'.cells = [v'] ∧ H2.base = H1.base ∧ H1.next ≤ H2.next ∧ (∀ x, x < b → H2.get x = H1.get x) ∧
      ∃ r2 g, v' = .sl r2 g 0 1 (t ++ s).length (t ++ s).length false ∧ b ≤ r2 ∧ r2 < H2.next ∧ r2 ≠ r ∧ H2.get r2 = .blk g (5 + tagB) ((t ++ s).map U8) := by
    rcases h5 with ⟨rfl, rfl⟩ | ⟨r2, g, rfl, k2, k3, k4, k5, k6⟩
    · refine ⟨.sl H1.next 0 0 1 s.length s.length false, H1.new (.blk 0 (5 + tagB) (s.map U8)), ?_, by rw [getNew_lt (by omega)]; exact g1, rfl, rfl, rfl, by rw [nNew]; omega, fun x hx => getNew_lt (by omega), H1.next, 0, rfl, by omega, by rw [nNew]; omega, by omega, getNew_eq⟩
      rw [app_T, appendCells, if_pos ⟨by simp, all_U8 s⟩]
      rw [if_neg hs0, if_pos ⟨by unfold most; omega, by unfold most; omega⟩]
    · have k7 : H1.get r2 = .blk g (5 + tagB) (t.map U8) := by rw [g2 r2 k4]; exact k6
      refine ⟨.sl r2 (g + 1) 0 1 (t ++ s).length (t ++ s).length false, H1.put r2 (.blk (g + 1) (5 + tagB) ((t ++ s).map U8)), ?_, by rw [getPut_ne (Ne.symm k4)]; exact g1, rfl, rfl, rfl, Nat.le_refl _, fun x hx => getPut_ne (by omega), r2, g + 1, rfl, k2, by rw [nPut]; omega, k4, getPut_eq⟩
      rw [app_T, appendCells, if_pos ⟨by simp, all_U8 s⟩]
      simp only [k7]
      rw [if_pos ⟨trivial, trivial, by simp⟩, if_neg hs0, if_neg (by omega), if_pos ⟨by unfold most; omega, by unfold most; omega⟩]
      simp only [Bool.false_eq_true, if_false, grT_self, List.drop_zero, Nat.mul_one]
      rw [if_pos (by omega), List.take_of_length_le (by simp), ← List.map_append, List.length_append]
  obtain ⟨v', H2, c2, q1, q2, q3, q4, q5, q6, r2, g, q7, q8, q9, q10, q11⟩ := c2
  have c3 := st_new (n := 1) (off := 1) (v := v') q1 (by omega) (by rw [q3]; simp [q2]) (by rw [q3]; rfl) (by simp)
  rw [q3] at c3
  have e3 : setAt [AV.ref r 0 0, v] 1 [v'] = [.ref r 0 0, v'] := rfl
  rw [e3] at c3
  refine ⟨H2.put r (.blk 0 84 [.ref r 0 0, v']), run_cl rfl rfl (rn_47 _ _ _ _ ?_), ⟨h1, by rw [nPut]; omega, .ref r 0 0, v', getPut_eq, .inr rfl, .inr ⟨r2, g, q7, q8, by rw [nPut]; exact q9, q10, by simp [hs], by rw [getPut_ne q10]; exact q11⟩⟩, ⟨by rw [bPut, q4, g4], by rw [nPut]; omega, fun x hx => by rw [getPut_ne (by omega), q6 x hx, g2 x (by omega)]⟩⟩
  have c4 : ld (.ref r 0 1) H1 = some (v, H1) := by rw [ld_blk g1]; rfl
  simp -implicitDefEqProofs only [Nat.reduceLT, bnd_some, bo_some, condK_true, condK_false, gdA_undef, decide_true, decide_false, Int.reduceLE, Int.reduceLT, Int.reduceEq, Int.reduceNeg, Int.reduceAdd, gd_tt, gd_tf, gd_ft, gd_ff, unG_pure, lift_some, bnd_lift, Option.map_some, Option.bind_some, fieldPtr_ref, fieldPtr_ip, nil_ref, nil_ip, nil_fn, ex_tup, fl_agg, List.getElem?_cons_zero, List.getElem?_cons_succ, Nat.zero_add, Nat.add_zero, Nat.reduceAdd, pk_t, pk_f, lss_int, leq_int, gtr_int, geq_int, eql_int, neq_int, not_bool, beq_self_eq_true, if_true, Bool.false_eq_true, if_false, List.nil_append, List.cons_append, List.append_nil, alc_eq, mkm_eq, nNew, nPut, bNew, bPut, nGrd, bGrd, sh_47, c1, c4, c2, c3, lnT_T]
/-- A builder's text. -/
theorem string_sp {b : Nat} {H : AHeap} {r : Nat} {t : Str} (hb : H.base ≤ b) (h : BldIs b H r t) (hl : t.length ≤ 1000000) : ∃ H', cl 48 [.ref r 0 0] H = some (T t, H') := by
  obtain ⟨h1, h2, p, v, h3, h4, h5⟩ := h
  rcases h5 with ⟨rfl, rfl⟩ | ⟨r2, g, rfl, k2, k3, k4, k5, k6⟩
  · refine ⟨H, prim_of (p := stringP 84 5) (by rfl) ?_⟩
    simp only [stringP, h3, if_true]
  · refine ⟨H.put r2 (.blk (g + 1) 0 []), prim_of (p := stringP 84 5) (by rfl) ?_⟩
    have hb : ∀ t : Str, (t.map U8).mapM byteOf = some t := by
      intro t
      induction t with
      | nil => rfl
      | cons x t ih =>
        rw [List.map_cons, List.mapM_cons, ih]
        have hx : byteOf (U8 x) = some x := by
          have := x.toNat_lt
          simp only [byteOf]
          rw [if_pos ⟨by omega, by omega⟩]
          simp
        rw [hx]; rfl
    simp only [stringP, h3, k6]
    rw [if_pos ⟨trivial, trivial, trivial, fun e => k5 (List.eq_nil_of_length_eq_zero e), by omega, by simp, by omega⟩, List.take_of_length_le (by simp), hb]
/-- Things printed line by line: 'none' where a line, read again, is not its thing. -/
def prT {α : Type} [DecidableEq α] (K : List Str → Option α) (LN : α → Str) : List α → Option Str
  | [] => some []
  | o :: os => if parseTx K (LN o) = some [o] then (prT K LN os).map fun t => LN o ++ (10 :: t) else none
theorem prT_picks : ∀ ps : List Pck, prT pickTx pickLine ps = printPk ps
  | [] => rfl
  | p :: ps => by
    rw [prT, printPk, prT_picks ps, parse_pick]
    cases h : pickTx (pickWords p) with
    | none => simp
    | some q => simp
def prA (o : Option Str) : AV := match o with
  | some t => .tup [T t, I 0]
  | none => .tup [T [], I 1]
theorem printPicks_sp (H : AHeap) {x : AV} {ops : List Pck} (hx : SliceIs H x 4 ops.length (ops.flatMap Pck.av)) (hn : ops.length ≤ 1000) (hi : ∀ o ∈ ops, PckIn o) : cl 27 [x] H = some (prA (prT pickTx pickLine ops), H) := by
  refine pure_val rfl rfl (rn_27 _ _ _) ?_ (by
    unfold prA
    split <;> exact frz_tup fun x hx => by
      simp only [List.mem_cons, List.mem_singleton, List.not_mem_nil, or_false] at hx
      rcases hx with rfl | rfl <;> exact frz_s)
  let H0 := H.guard.new (.blk 0 84 [zP, zN])
  have s0 : Step H.next H.guard H0 := Step.new _ (Nat.le_refl _)
  have sx : ∀ {Hi : AHeap}, Step H.next H.guard Hi → SliceIs Hi x 4 ops.length (ops.flatMap Pck.av) := fun {Hi} s => hx.guard.of_get s.next fun r _ hr => s.low r hr
  have key : ∀ k j : Nat, j + k = ops.length → ∀ (acc : Str) (Hi : AHeap), acc.length ≤ 100 * j → BldIs H.next Hi H.next acc → Step H.next H.guard Hi →
      (lp_27x0 cl [.ref H.next 0 0, x, I ops.length, I j] Hi).map Prod.fst = some (prA ((prT pickTx pickLine (ops.drop j)).map (acc ++ ·))) := by
    intro k
    induction k with
    | zero =>
      intro j hj acc Hi ha hb s
      have h1 : ¬ (j : Int) < ops.length := by omega
      have sb : Hi.base = H.next := s.base
      obtain ⟨Hz, e1⟩ := string_sp (by omega) hb (by omega)
      rw [le_27x0, List.drop_eq_nil_of_le (by omega)]
      simp -implicitDefEqProofs only [Nat.reduceLT, bnd_some, bo_some, condK_true, condK_false, gdA_undef, decide_true, decide_false, Int.reduceLE, Int.reduceLT, Int.reduceEq, Int.reduceNeg, Int.reduceAdd, gd_tt, gd_tf, gd_ft, gd_ff, unG_pure, lift_some, bnd_lift, Option.map_some, Option.bind_some, fieldPtr_ref, fieldPtr_ip, nil_ref, nil_ip, nil_fn, ex_tup, fl_agg, List.getElem?_cons_zero, List.getElem?_cons_succ, Nat.zero_add, Nat.add_zero, Nat.reduceAdd, pk_t, pk_f, lss_int, leq_int, gtr_int, geq_int, eql_int, neq_int, not_bool, beq_self_eq_true, if_true, Bool.false_eq_true, if_false, List.nil_append, List.cons_append, List.append_nil, alc_eq, mkm_eq, nNew, nPut, bNew, bPut, nGrd, bGrd, h1, e1, prT, prA]
    | succ k ih =>
      intro j hj acc Hi ha hb s
      have h1 : (j : Int) < ops.length := by omega
      have h6 : (j : Int) + 1 = ((j + 1 : Nat) : Int) := by omega
      have h7 := wrap_i64 (a := ((j + 1 : Nat) : Int)) (by omega) (by omega)
      have s1 := (sx s).ix (k := .i64) (i := (j : Int)) (by omega) h1
      rw [Int.toNat_natCast] at s1
      obtain ⟨o, ho⟩ : ∃ o, ops[j]? = some o := ⟨_, List.getElem?_eq_getElem (by omega)⟩
      have t1 := lda_elem av_len_pck (sx s) ho
      have hdr : ops.drop j = o :: ops.drop (j + 1) := by
        rw [List.drop_eq_getElem_cons (by omega)]
        congr 1
        rw [List.getElem?_eq_getElem (by omega)] at ho
        exact Option.some.inj ho
      have hin : PckIn o := hi o (List.mem_of_getElem? ho)
      have hll := pickLine_len hin
      have sb : Hi.base = H.next := s.base
      have sn : H.next ≤ Hi.next := s.next
      have hbn : Hi.base ≤ Hi.next := by omega
      let H1 := Hi.new (.blk 0 52 o.av)
      have st1 : Step H.next Hi H1 := Step.new _ sn
      have l1 : cl _ [.agg o.av] H1 = _ := (pickLine_sp _ hin.1 hin.2.1 hin.2.2.1 hin.2.2.2)
      have p1 := parsePicks_sp H1 (l := pickLine o) (by omega)
      have b0 : bi .neq 25 (I 0) (I 0) = some (B false) := by kernel_rfl
      have b2 : bi .neq 25 (I 2) (I 0) = some (B true) := by kernel_rfl
      rw [hdr]
      cases hp : parseTx pickTx (pickLine o) with
      | none =>
        rw [hp] at p1
        simp only [readA] at p1
        have e0 : prT pickTx pickLine (o :: ops.drop (j + 1)) = none := by rw [prT, hp, if_neg (by simp)]
        rw [e0, le_27x0]
        simp only [Pck.av, H1] at t1 l1 p1
        simp -implicitDefEqProofs only [Nat.reduceLT, bnd_some, bo_some, condK_true, condK_false, gdA_undef, decide_true, decide_false, Int.reduceLE, Int.reduceLT, Int.reduceEq, Int.reduceNeg, Int.reduceAdd, gd_tt, gd_tf, gd_ft, gd_ff, unG_pure, lift_some, bnd_lift, Option.map_some, Option.bind_some, fieldPtr_ref, fieldPtr_ip, nil_ref, nil_ip, nil_fn, ex_tup, fl_agg, List.getElem?_cons_zero, List.getElem?_cons_succ, Nat.zero_add, Nat.add_zero, Nat.reduceAdd, pk_t, pk_f, lss_int, leq_int, gtr_int, geq_int, eql_int, neq_int, not_bool, beq_self_eq_true, if_true, Bool.false_eq_true, if_false, List.nil_append, List.cons_append, List.append_nil, alc_eq, mkm_eq, nNew, nPut, bNew, bPut, nGrd, bGrd, ldN_is, ldN_lt, ldaN_is, ldaN_lt, stN_is, stN_lt, Nat.lt_add_one, ne_eq, nx1, nx2, nx3, ny1, ny2, ny3, not_false_eq_true, List.length_cons, List.length_nil, Nat.reduceLeDiff, setAt, List.take_succ_cons, List.take_zero, List.drop_succ_cons, List.drop_zero, cells_dat, cells_int, cells_bool, cells_agg, List.all_cons, List.all_nil, isCell_int, isCell_bool, isCell_dat, isCell_ref, isCell_nil, isCell_vsl, cells_vsl, av_len_cfg, av_len_pkt, av_len_opn, av_len_evn, av_len_ent, av_len_row, av_len_deal, av_len_pck, tk_cfg, tk_pkt, tk_opn, tk_evn, tk_ent, tk_row, tk_deal, tk_pck, all_cfg, all_pkt, all_opn, all_evn, all_ent, all_row, all_deal, all_pck, List.drop_nil, Bool.and_true, Bool.and_self, and_self, Nat.le_refl, true_and, and_true, Nat.le_add_right, leS, ltS, h1, s1, t1, hbn, put_new, l1, p1, b2, T_str, Option.map_none, prA]
        try rfl
      | some back =>
        rw [hp] at p1
        simp only [readA] at p1
        let H2 := H1.new (.blk 0 52 o.av)
        have eb : bs 46 1 [(0, .agg o.av)] H1 = some (.sl H1.next 0 0 4 1 1 true, H2) := (bs_46 (n := 1) (by decide)).trans (bsl_one (e := 52) (m := 4) (v := .agg o.av) (H := H1) rfl rfl (all_pck o))
        have hlen := parseTx_len pickTx hp
        have eq1 := equalPicks H2 (l := back) (m := [o]) (by omega) (by simp) (vsl_is av_len_pck H2 back) (by
          have := sl_new (e := 52) (m := 4) (n := 1) (l := o.av) (H := H1) (ex := true) rfl
          simpa using this)
        by_cases hbk : back = [o]
        · have e0 : prT pickTx pickLine (o :: ops.drop (j + 1)) = (prT pickTx pickLine (ops.drop (j + 1))).map fun t => pickLine o ++ (10 :: t) := by rw [prT, hp, if_pos (by rw [hbk])]
          have d1 : decide (back = [o]) = true := decide_eq_true hbk
          have st2 : Step H.next Hi H2 := st1.trans (Step.new _ (by simp only [H1]; rw [nNew]; omega))
          have a1 := add_T (P := Tryd.prog) (t := 9) (a := pickLine o) (b := [10]) (by simp; omega)
          have B2 : BldIs H.next H2 H.next acc := hb.ext st2.next fun y hy hlt => by
            simp only [H2, H1]
            rw [getNew_lt (by rw [nNew]; omega), getNew_lt hlt]
          obtain ⟨H3, w1, w2, w3⟩ := write_sp (s := pickLine o ++ [10]) (by have := st2.next; omega) (by rw [st2.base]; omega) B2 (by simp) (by simp; omega)
          have r1 := ih (j + 1) (by omega) (acc ++ (pickLine o ++ [10])) H3 (by simp; omega) w2 ((s.trans st2).trans w3)
          rw [e0, le_27x0]
          have fin : (prT pickTx pickLine (ops.drop (j + 1))).map ((acc ++ (pickLine o ++ [10])) ++ ·) = ((prT pickTx pickLine (ops.drop (j + 1))).map fun t => pickLine o ++ (10 :: t)).map (acc ++ ·) := by
            cases prT pickTx pickLine (ops.drop (j + 1)) with
            | none => rfl
            | some t => simp [List.append_assoc]
          rw [fin] at r1
          rw [d1] at eq1
          simp only [Pck.av, H1, H2, nNew] at t1 l1 p1 eb eq1 w1
          simp -implicitDefEqProofs only [Nat.reduceLT, bnd_some, bo_some, condK_true, condK_false, gdA_undef, decide_true, decide_false, Int.reduceLE, Int.reduceLT, Int.reduceEq, Int.reduceNeg, Int.reduceAdd, gd_tt, gd_tf, gd_ft, gd_ff, unG_pure, lift_some, bnd_lift, Option.map_some, Option.bind_some, fieldPtr_ref, fieldPtr_ip, nil_ref, nil_ip, nil_fn, ex_tup, fl_agg, List.getElem?_cons_zero, List.getElem?_cons_succ, Nat.zero_add, Nat.add_zero, Nat.reduceAdd, pk_t, pk_f, lss_int, leq_int, gtr_int, geq_int, eql_int, neq_int, not_bool, beq_self_eq_true, if_true, Bool.false_eq_true, if_false, List.nil_append, List.cons_append, List.append_nil, alc_eq, mkm_eq, nNew, nPut, bNew, bPut, nGrd, bGrd, ldN_is, ldN_lt, ldaN_is, ldaN_lt, stN_is, stN_lt, Nat.lt_add_one, ne_eq, nx1, nx2, nx3, ny1, ny2, ny3, not_false_eq_true, List.length_cons, List.length_nil, Nat.reduceLeDiff, setAt, List.take_succ_cons, List.take_zero, List.drop_succ_cons, List.drop_zero, cells_dat, cells_int, cells_bool, cells_agg, List.all_cons, List.all_nil, isCell_int, isCell_bool, isCell_dat, isCell_ref, isCell_nil, isCell_vsl, cells_vsl, av_len_cfg, av_len_pkt, av_len_opn, av_len_evn, av_len_ent, av_len_row, av_len_deal, av_len_pck, tk_cfg, tk_pkt, tk_opn, tk_evn, tk_ent, tk_row, tk_deal, tk_pck, all_cfg, all_pkt, all_opn, all_evn, all_ent, all_row, all_deal, all_pck, List.drop_nil, Bool.and_true, Bool.and_self, and_self, Nat.le_refl, true_and, and_true, Nat.le_add_right, leS, ltS, h1, s1, t1, hbn, put_new, l1, p1, b0, eb, eq1, Bool.not_true, T_str, a1, w1, add_int, h6, h7]
          exact r1
        · have e0 : prT pickTx pickLine (o :: ops.drop (j + 1)) = none := by rw [prT, hp, if_neg (by simp [hbk])]
          have d1 : decide (back = [o]) = false := decide_eq_false hbk
          rw [d1] at eq1
          rw [e0, le_27x0]
          simp only [Pck.av, H1, H2, nNew] at t1 l1 p1 eb eq1
          simp -implicitDefEqProofs only [Nat.reduceLT, bnd_some, bo_some, condK_true, condK_false, gdA_undef, decide_true, decide_false, Int.reduceLE, Int.reduceLT, Int.reduceEq, Int.reduceNeg, Int.reduceAdd, gd_tt, gd_tf, gd_ft, gd_ff, unG_pure, lift_some, bnd_lift, Option.map_some, Option.bind_some, fieldPtr_ref, fieldPtr_ip, nil_ref, nil_ip, nil_fn, ex_tup, fl_agg, List.getElem?_cons_zero, List.getElem?_cons_succ, Nat.zero_add, Nat.add_zero, Nat.reduceAdd, pk_t, pk_f, lss_int, leq_int, gtr_int, geq_int, eql_int, neq_int, not_bool, beq_self_eq_true, if_true, Bool.false_eq_true, if_false, List.nil_append, List.cons_append, List.append_nil, alc_eq, mkm_eq, nNew, nPut, bNew, bPut, nGrd, bGrd, ldN_is, ldN_lt, ldaN_is, ldaN_lt, stN_is, stN_lt, Nat.lt_add_one, ne_eq, nx1, nx2, nx3, ny1, ny2, ny3, not_false_eq_true, List.length_cons, List.length_nil, Nat.reduceLeDiff, setAt, List.take_succ_cons, List.take_zero, List.drop_succ_cons, List.drop_zero, cells_dat, cells_int, cells_bool, cells_agg, List.all_cons, List.all_nil, isCell_int, isCell_bool, isCell_dat, isCell_ref, isCell_nil, isCell_vsl, cells_vsl, av_len_cfg, av_len_pkt, av_len_opn, av_len_evn, av_len_ent, av_len_row, av_len_deal, av_len_pck, tk_cfg, tk_pkt, tk_opn, tk_evn, tk_ent, tk_row, tk_deal, tk_pck, all_cfg, all_pkt, all_opn, all_evn, all_ent, all_row, all_deal, all_pck, List.drop_nil, Bool.and_true, Bool.and_self, and_self, Nat.le_refl, true_and, and_true, Nat.le_add_right, leS, ltS, h1, s1, t1, hbn, put_new, l1, p1, b0, eb, eq1, Bool.not_false, T_str, Option.map_none, prA]
          try rfl
  have r1 := key ops.length 0 (by omega) [] H0 (by simp) ⟨Nat.le_refl _, by simp only [H0]; rw [nNew, nGrd]; omega, zP, zN, by simp only [H0]; exact getNew_is (by rw [nGrd]), .inl rfl, .inl ⟨rfl, rfl⟩⟩ s0
  rw [List.drop_zero] at r1
  have hid : (prT pickTx pickLine ops).map ([] ++ ·) = prT pickTx pickLine ops := by cases prT pickTx pickLine ops <;> rfl
  rw [hid] at r1
  have hln := (sx s0).lnS
  simp only [H0] at hln r1
  simp -implicitDefEqProofs only [Nat.reduceLT, bnd_some, bo_some, condK_true, condK_false, gdA_undef, decide_true, decide_false, Int.reduceLE, Int.reduceLT, Int.reduceEq, Int.reduceNeg, Int.reduceAdd, gd_tt, gd_tf, gd_ft, gd_ff, unG_pure, lift_some, bnd_lift, Option.map_some, Option.bind_some, fieldPtr_ref, fieldPtr_ip, nil_ref, nil_ip, nil_fn, ex_tup, fl_agg, List.getElem?_cons_zero, List.getElem?_cons_succ, Nat.zero_add, Nat.add_zero, Nat.reduceAdd, pk_t, pk_f, lss_int, leq_int, gtr_int, geq_int, eql_int, neq_int, not_bool, beq_self_eq_true, if_true, Bool.false_eq_true, if_false, List.nil_append, List.cons_append, List.append_nil, alc_eq, mkm_eq, nNew, nPut, bNew, bPut, nGrd, bGrd, sh_27, hln]
  exact r1

end Go.Proofs.YtjmldnpdfnklcaaDoor

namespace Go.Proofs.YtjmldnpdfnklcaaDoor



end Go.Proofs.YtjmldnpdfnklcaaDoor

namespace Go.Proofs.YtjmldnpdfnklcaaDoor



end Go.Proofs.YtjmldnpdfnklcaaDoor

namespace Go.Proofs.YtjmldnpdfnklcaaDoor

def pickM (c : Cho) (nodes under : Int) : Pck :=
  if c.do_.tmod 23 = 22 then ⟨decide (c.bit.tmod 2 = 0), c.at_, c.bit, c.mask⟩ else
  if withinM c.do_ 2 = 0 then ⟨false, withinM c.at_ nodes, 0, 0⟩ else
  if c.do_.tmod 7 = 6 then ⟨true, withinM c.at_ under, withinM c.bit 120, c.mask⟩ else ⟨true, withinM c.at_ under, 0, 0⟩
theorem frz_pck (d : Nat) : ∀ (p : Pck), ∀ x ∈ p.av, Frz (d + 1) x := by
  intro p x hx
  simp only [Pck.av, List.mem_cons, List.mem_singleton, List.not_mem_nil, or_false] at hx
  rcases hx with rfl | rfl | rfl | rfl <;> exact frz_s
theorem frz_aggpck (p : Pck) : Frz 9 (.agg p.av) := frz_agg (frz_pck 7 p)
theorem cells_u16' {n : Int} : (AV.s (.int .u16 n)).cells = [.s (.int .u16 n)] := rfl
theorem isCell_u16' {n : Int} : (AV.s (.int .u16 n)).isCell = true := rfl
theorem pickM_sp (H : AHeap) (c : Cho) {nodes under : Int} (hn : nodes ≤ 9223372036854775807) (hu : under ≤ 9223372036854775807) : cl 50 [.agg c.av, I nodes, I under] H = some (.agg (pickM c nodes under).av, H) := by
  refine pure_val rfl rfl (rn_50 _ _ _ _ _) ?_ (frz_aggpck _)
  have r1 := rem_int (P := Tryd.prog) (t := 3) (k := .i64) (a := c.do_) (b := 23) (by decide)
  have r2 := rem_int (P := Tryd.prog) (t := 3) (k := .i64) (a := c.do_) (b := 7) (by decide)
  have r3 := rem_int (P := Tryd.prog) (t := 3) (k := .i64) (a := c.bit) (b := 2) (by decide)
  have r1' : bi .rem 3 (I c.do_) (I 23) = some (I (c.do_.tmod 23)) := r1
  have r2' : bi .rem 3 (I c.do_) (I 7) = some (I (c.do_.tmod 7)) := r2
  have r3' : bi .rem 3 (I c.bit) (I 2) = some (I (c.bit.tmod 2)) := r3
  have k1 := fun H => within64 H c.do_ 2 (by omega)
  have k2 := fun H => within64 H c.at_ nodes hn
  have k3 := fun H => within64 H c.at_ under hu
  have k4 := fun H => within64 H c.bit 120 (by omega)
  have eb : ∀ H, boxA 89 (.agg [I c.do_, I c.at_, I c.bit, .s (.int .u16 c.mask)]) H = some (.ref H.next 0 0, H.new (.blk 0 89 [I c.do_, I c.at_, I c.bit, .s (.int .u16 c.mask)])) := fun H => box_agg (all_cho c)
  simp only [Cho.av]
  by_cases h1 : c.do_.tmod 23 = 22
  · rw [show pickM c nodes under = ⟨decide (c.bit.tmod 2 = 0), c.at_, c.bit, c.mask⟩ by unfold pickM; rw [if_pos h1]]
    simp -implicitDefEqProofs only [Nat.reduceLT, bnd_some, bo_some, condK_true, condK_false, gdA_undef, decide_true, decide_false, Int.reduceLE, Int.reduceLT, Int.reduceEq, Int.reduceNeg, Int.reduceAdd, gd_tt, gd_tf, gd_ft, gd_ff, unG_pure, lift_some, bnd_lift, Option.map_some, Option.bind_some, fieldPtr_ref, fieldPtr_ip, nil_ref, nil_ip, nil_fn, ex_tup, fl_agg, List.getElem?_cons_zero, List.getElem?_cons_succ, Nat.zero_add, Nat.add_zero, Nat.reduceAdd, pk_t, pk_f, lss_int, leq_int, gtr_int, geq_int, eql_int, neq_int, not_bool, beq_self_eq_true, if_true, Bool.false_eq_true, if_false, List.nil_append, List.cons_append, List.append_nil, alc_eq, mkm_eq, nNew, nPut, bNew, bPut, nGrd, bGrd, ldN_is, ldN_lt, ldaN_is, ldaN_lt, stN_is, stN_lt, Nat.lt_add_one, ne_eq, nx1, nx2, nx3, ny1, ny2, ny3, not_false_eq_true, List.length_cons, List.length_nil, Nat.reduceLeDiff, setAt, List.take_succ_cons, List.take_zero, List.drop_succ_cons, List.drop_zero, cells_dat, cells_int, cells_bool, cells_agg, List.all_cons, List.all_nil, isCell_int, isCell_bool, isCell_dat, isCell_ref, isCell_nil, isCell_vsl, cells_vsl, av_len_cfg, av_len_pkt, av_len_opn, av_len_evn, av_len_ent, av_len_row, av_len_deal, av_len_pck, tk_cfg, tk_pkt, tk_opn, tk_evn, tk_ent, tk_row, tk_deal, tk_pck, all_cfg, all_pkt, all_opn, all_evn, all_ent, all_row, all_deal, all_pck, List.drop_nil, Bool.and_true, Bool.and_self, and_self, Nat.le_refl, true_and, and_true, Nat.le_add_right, leS, ltS, sh_50, eb, r1', h1, r3', bd_52, bldA, fillA, pl_52, cells_u16', isCell_u16', Pck.av]
    try rfl
  by_cases h2 : withinM c.do_ 2 = 0
  · rw [show pickM c nodes under = ⟨false, withinM c.at_ nodes, 0, 0⟩ by unfold pickM; rw [if_neg h1, if_pos h2]]
    simp -implicitDefEqProofs only [Nat.reduceLT, bnd_some, bo_some, condK_true, condK_false, gdA_undef, decide_true, decide_false, Int.reduceLE, Int.reduceLT, Int.reduceEq, Int.reduceNeg, Int.reduceAdd, gd_tt, gd_tf, gd_ft, gd_ff, unG_pure, lift_some, bnd_lift, Option.map_some, Option.bind_some, fieldPtr_ref, fieldPtr_ip, nil_ref, nil_ip, nil_fn, ex_tup, fl_agg, List.getElem?_cons_zero, List.getElem?_cons_succ, Nat.zero_add, Nat.add_zero, Nat.reduceAdd, pk_t, pk_f, lss_int, leq_int, gtr_int, geq_int, eql_int, neq_int, not_bool, beq_self_eq_true, if_true, Bool.false_eq_true, if_false, List.nil_append, List.cons_append, List.append_nil, alc_eq, mkm_eq, nNew, nPut, bNew, bPut, nGrd, bGrd, ldN_is, ldN_lt, ldaN_is, ldaN_lt, stN_is, stN_lt, Nat.lt_add_one, ne_eq, nx1, nx2, nx3, ny1, ny2, ny3, not_false_eq_true, List.length_cons, List.length_nil, Nat.reduceLeDiff, setAt, List.take_succ_cons, List.take_zero, List.drop_succ_cons, List.drop_zero, cells_dat, cells_int, cells_bool, cells_agg, List.all_cons, List.all_nil, isCell_int, isCell_bool, isCell_dat, isCell_ref, isCell_nil, isCell_vsl, cells_vsl, av_len_cfg, av_len_pkt, av_len_opn, av_len_evn, av_len_ent, av_len_row, av_len_deal, av_len_pck, tk_cfg, tk_pkt, tk_opn, tk_evn, tk_ent, tk_row, tk_deal, tk_pck, all_cfg, all_pkt, all_opn, all_evn, all_ent, all_row, all_deal, all_pck, List.drop_nil, Bool.and_true, Bool.and_self, and_self, Nat.le_refl, true_and, and_true, Nat.le_add_right, leS, ltS, sh_50, eb, r1', h1, k1, h2, k2, bd_52, bldA, fillA, pl_52, cells_u16', isCell_u16', Pck.av]
    try rfl
  by_cases h3 : c.do_.tmod 7 = 6
  · rw [show pickM c nodes under = ⟨true, withinM c.at_ under, withinM c.bit 120, c.mask⟩ by unfold pickM; rw [if_neg h1, if_neg h2, if_pos h3]]
    simp -implicitDefEqProofs only [Nat.reduceLT, bnd_some, bo_some, condK_true, condK_false, gdA_undef, decide_true, decide_false, Int.reduceLE, Int.reduceLT, Int.reduceEq, Int.reduceNeg, Int.reduceAdd, gd_tt, gd_tf, gd_ft, gd_ff, unG_pure, lift_some, bnd_lift, Option.map_some, Option.bind_some, fieldPtr_ref, fieldPtr_ip, nil_ref, nil_ip, nil_fn, ex_tup, fl_agg, List.getElem?_cons_zero, List.getElem?_cons_succ, Nat.zero_add, Nat.add_zero, Nat.reduceAdd, pk_t, pk_f, lss_int, leq_int, gtr_int, geq_int, eql_int, neq_int, not_bool, beq_self_eq_true, if_true, Bool.false_eq_true, if_false, List.nil_append, List.cons_append, List.append_nil, alc_eq, mkm_eq, nNew, nPut, bNew, bPut, nGrd, bGrd, ldN_is, ldN_lt, ldaN_is, ldaN_lt, stN_is, stN_lt, Nat.lt_add_one, ne_eq, nx1, nx2, nx3, ny1, ny2, ny3, not_false_eq_true, List.length_cons, List.length_nil, Nat.reduceLeDiff, setAt, List.take_succ_cons, List.take_zero, List.drop_succ_cons, List.drop_zero, cells_dat, cells_int, cells_bool, cells_agg, List.all_cons, List.all_nil, isCell_int, isCell_bool, isCell_dat, isCell_ref, isCell_nil, isCell_vsl, cells_vsl, av_len_cfg, av_len_pkt, av_len_opn, av_len_evn, av_len_ent, av_len_row, av_len_deal, av_len_pck, tk_cfg, tk_pkt, tk_opn, tk_evn, tk_ent, tk_row, tk_deal, tk_pck, all_cfg, all_pkt, all_opn, all_evn, all_ent, all_row, all_deal, all_pck, List.drop_nil, Bool.and_true, Bool.and_self, and_self, Nat.le_refl, true_and, and_true, Nat.le_add_right, leS, ltS, sh_50, eb, r1', h1, k1, h2, k3, bd_52, bldA, fillA, pl_52, cells_u16', isCell_u16', Pck.av, r2', h3, k4, jn_50x0]
    rw [ck_of fun r hr => by
      cases hr
      rw [getNew_lt (by simp only [nNew, nGrd]; omega), getNew_lt (by simp only [nNew, nGrd]; omega), getNew_is (by rw [nGrd]), getNew_lt (by simp only [nNew, nGrd]; omega), getNew_lt (by simp only [nNew, nGrd]; omega), getNew_is (by rw [nGrd])]]
    rfl
  · rw [show pickM c nodes under = ⟨true, withinM c.at_ under, 0, 0⟩ by unfold pickM; rw [if_neg h1, if_neg h2, if_neg h3]]
    simp -implicitDefEqProofs only [Nat.reduceLT, bnd_some, bo_some, condK_true, condK_false, gdA_undef, decide_true, decide_false, Int.reduceLE, Int.reduceLT, Int.reduceEq, Int.reduceNeg, Int.reduceAdd, gd_tt, gd_tf, gd_ft, gd_ff, unG_pure, lift_some, bnd_lift, Option.map_some, Option.bind_some, fieldPtr_ref, fieldPtr_ip, nil_ref, nil_ip, nil_fn, ex_tup, fl_agg, List.getElem?_cons_zero, List.getElem?_cons_succ, Nat.zero_add, Nat.add_zero, Nat.reduceAdd, pk_t, pk_f, lss_int, leq_int, gtr_int, geq_int, eql_int, neq_int, not_bool, beq_self_eq_true, if_true, Bool.false_eq_true, if_false, List.nil_append, List.cons_append, List.append_nil, alc_eq, mkm_eq, nNew, nPut, bNew, bPut, nGrd, bGrd, ldN_is, ldN_lt, ldaN_is, ldaN_lt, stN_is, stN_lt, Nat.lt_add_one, ne_eq, nx1, nx2, nx3, ny1, ny2, ny3, not_false_eq_true, List.length_cons, List.length_nil, Nat.reduceLeDiff, setAt, List.take_succ_cons, List.take_zero, List.drop_succ_cons, List.drop_zero, cells_dat, cells_int, cells_bool, cells_agg, List.all_cons, List.all_nil, isCell_int, isCell_bool, isCell_dat, isCell_ref, isCell_nil, isCell_vsl, cells_vsl, av_len_cfg, av_len_pkt, av_len_opn, av_len_evn, av_len_ent, av_len_row, av_len_deal, av_len_pck, tk_cfg, tk_pkt, tk_opn, tk_evn, tk_ent, tk_row, tk_deal, tk_pck, all_cfg, all_pkt, all_opn, all_evn, all_ent, all_row, all_deal, all_pck, List.drop_nil, Bool.and_true, Bool.and_self, and_self, Nat.le_refl, true_and, and_true, Nat.le_add_right, leS, ltS, sh_50, eb, r1', h1, k1, h2, k3, bd_52, bldA, fillA, pl_52, cells_u16', isCell_u16', Pck.av, r2', h3, jn_50x0]
    try rfl
theorem in64_0 : In64 0 := ⟨by decide, by decide⟩
theorem withinM_in {v n : Int} (h : In64 n) : In64 (withinM v n) := by
  by_cases h1 : n < 1
  · have : withinM v n = 0 := by unfold withinM; rw [if_pos h1]
    rw [this]; exact in64_0
  · have := withinM_rng (v := v) (n := n) (by omega)
    have h2 := h.2
    exact ⟨by omega, by omega⟩
theorem pickM_in {c : Cho} (h : c.In) {nodes under : Int} (h2 : In64 nodes) (h4 : In64 under) : In64 (pickM c nodes under).at_ ∧ In64 (pickM c nodes under).bit ∧ 0 ≤ (pickM c nodes under).mask ∧ (pickM c nodes under).mask ≤ 65535 := by
  have h120 : In64 120 := ⟨by decide, by decide⟩
  have z0 : (0 : Int) ≤ 0 := by decide
  have z1 : (0 : Int) ≤ 65535 := by decide
  unfold pickM
  split
  · exact ⟨h.at_, h.bit, h.mask0, h.mask⟩
  · split
    · exact ⟨withinM_in h2, in64_0, z0, z1⟩
    · split
      · exact ⟨withinM_in h4, withinM_in h120, h.mask0, h.mask⟩
      · exact ⟨withinM_in h4, in64_0, z0, z1⟩

end Go.Proofs.YtjmldnpdfnklcaaDoor

namespace Go.Proofs.YtjmldnpdfnklcaaDoor



end Go.Proofs.YtjmldnpdfnklcaaDoor

namespace Go.Proofs.YtjmldnpdfnklcaaDoor



end Go.Proofs.YtjmldnpdfnklcaaDoor

