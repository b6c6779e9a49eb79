/-
  Own work: an interpreter over named blocks, its soundness, and what the functions of this seat compute (part 6 of 7).
  Conditions: those of the statement alone.
-/
import Derived.Test.YtjmldnpdfnklcaaDoorXe
set_option linter.all false
set_option linter.unusedSectionVars false
set_option linter.unusedVariables false
set_option linter.unusedSimpArgs false
namespace Go.Proofs.YtjmldnpdfnklcaaDoor

theorem mapM_T : ∀ ws : List Str, (ws.map T).mapM strOf = some ws
  | [] => rfl
  | w :: ws => by
    rw [List.map_cons, List.mapM_cons, mapM_T ws]
    simp [strOf, T]
theorem join_sp {b : Nat} {H : AHeap} {x : AV} {ws : List Str} {sep : Str} (c : Own b H x 1 (ws.map T)) (h0 : ws ≠ []) (hn : ws.length ≤ 1000) (hj : (Lib.join ws sep).length ≤ 1000000) : cl 74 [x, T sep] H = some (T (Lib.join ws sep), H) := by
  refine prim_of (p := joinP) (by rfl) ?_
  rcases c with ⟨_, e⟩ | ⟨r, g, off, n, cap, ex, ty, all, rfl, k2, k3, k4, k5, k6, k7, e⟩
  · exact absurd (List.map_eq_nil_iff.1 e) h0
  have hl : n = ws.length := by
    have := congrArg List.length e
    rw [List.length_map, List.length_take, List.length_drop] at this
    omega
  simp only [joinP, T, toList_T, k5]
  rw [if_pos ⟨trivial, by omega, by omega⟩]
  rw [Nat.mul_one] at e
  rw [← e, mapM_T]
  simp only
  rw [if_pos hj]
theorem itoa_sp (H : AHeap) {n : Int} (h : In64 n) : cl 73 [I n] H = some (T (Lib.itoa n), H) :=
  prim_of (p := itoaP) (by rfl) (itoaP_I h.1 h.2)
theorem itoa_len {n : Int} (h : In64 n) : (Lib.itoa n).length ≤ 20 := by
  have h1 := h.1; have h2 := h.2
  have k : ∀ m : Nat, m ≤ 9223372036854775808 → (Lib.decDigits m).length ≤ 19 := fun m hm => ((decD_spec m).2.2.2.2 19 (by decide)).1 (by
    have : (10 : Nat) ^ 19 = 10000000000000000000 := by decide
    omega)
  unfold Lib.itoa
  split
  · have := k n.natAbs (by omega); simp; omega
  · have := k n.toNat (by omega); omega
/-- The line of an operation. -/
def lineTx (o : Opn) : Str :=
  if o.kind < 1 ∨ 4 < o.kind then [] else
  if o.kind = 2 ∨ o.kind = 3 then Lib.join [kindTxW o.kind, Lib.itoa o.addr, Lib.itoa o.value] [32] else Lib.join [kindTxW o.kind, Lib.itoa o.addr] [32]
theorem join2 (a b c : Str) : Lib.join [a, b] c = a ++ (c ++ b) := by
  rw [Lib.join_cons]; simp [Lib.joinTail]
theorem join3 (a b d c : Str) : Lib.join [a, b, d] c = a ++ (c ++ b ++ (c ++ d)) := by
  rw [Lib.join_cons]; simp [Lib.joinTail]
theorem kindTxW_len (k : Int) : (kindTxW k).length ≤ 5 := by
  unfold kindTxW
  split
  · decide
  · split
    · decide
    · split
      · decide
      · split <;> decide
theorem line_sp (H : AHeap) {o : Opn} (h1 : In64 o.addr) (h2 : In64 o.value) : cl 52 [.agg o.av] H = some (T (lineTx o), H) := by
  refine pure_val rfl rfl (rn_52 _ _ _) ?_ frz_s
  let H1 := H.guard.new (.blk 0 31 o.av)
  have eb : boxA 31 (.agg o.av) H.guard = some (.ref H.next 0 0, H1) := box_agg (all_opn o)
  by_cases hlo : o.kind < 1
  · have hl : lineTx o = [] := by unfold lineTx; rw [if_pos (.inl hlo)]
    rw [hl]
    simp only [Opn.av, H1] at eb
    simp -implicitDefEqProofs only [Nat.reduceLT, bnd_some, bo_some, condK_true, condK_false, gdA_undef, decide_true, decide_false, Int.reduceLE, Int.reduceLT, Int.reduceEq, Int.reduceNeg, Int.reduceAdd, gd_tt, gd_tf, gd_ft, gd_ff, unG_pure, lift_some, bnd_lift, Option.map_some, Option.bind_some, fieldPtr_ref, fieldPtr_ip, nil_ref, nil_ip, nil_fn, ex_tup, fl_agg, List.getElem?_cons_zero, List.getElem?_cons_succ, Nat.zero_add, Nat.add_zero, Nat.reduceAdd, pk_t, pk_f, lss_int, leq_int, gtr_int, geq_int, eql_int, neq_int, not_bool, beq_self_eq_true, if_true, Bool.false_eq_true, if_false, List.nil_append, List.cons_append, List.append_nil, alc_eq, mkm_eq, nNew, nPut, bNew, bPut, nGrd, bGrd, ldN_is, ldN_lt, ldaN_is, ldaN_lt, stN_is, stN_lt, Nat.lt_add_one, ne_eq, nx1, nx2, nx3, ny1, ny2, ny3, not_false_eq_true, List.length_cons, List.length_nil, Nat.reduceLeDiff, setAt, List.take_succ_cons, List.take_zero, List.drop_succ_cons, List.drop_zero, cells_dat, cells_int, cells_bool, cells_agg, List.all_cons, List.all_nil, isCell_int, isCell_bool, isCell_dat, isCell_ref, isCell_nil, isCell_vsl, cells_vsl, av_len_cfg, av_len_pkt, av_len_opn, av_len_evn, av_len_ent, av_len_row, av_len_deal, av_len_pck, tk_cfg, tk_pkt, tk_opn, tk_evn, tk_ent, tk_row, tk_deal, tk_pck, all_cfg, all_pkt, all_opn, all_evn, all_ent, all_row, all_deal, all_pck, List.drop_nil, Bool.and_true, Bool.and_self, and_self, Nat.le_refl, true_and, and_true, Nat.le_add_right, leS, ltS, sh_52, Opn.av, eb, hlo, T_str]
    try rfl
  by_cases hhi : 4 < o.kind
  · have hl : lineTx o = [] := by unfold lineTx; rw [if_pos (.inr hhi)]
    rw [hl]
    simp only [Opn.av, H1] at eb
    simp -implicitDefEqProofs only [Nat.reduceLT, bnd_some, bo_some, condK_true, condK_false, gdA_undef, decide_true, decide_false, Int.reduceLE, Int.reduceLT, Int.reduceEq, Int.reduceNeg, Int.reduceAdd, gd_tt, gd_tf, gd_ft, gd_ff, unG_pure, lift_some, bnd_lift, Option.map_some, Option.bind_some, fieldPtr_ref, fieldPtr_ip, nil_ref, nil_ip, nil_fn, ex_tup, fl_agg, List.getElem?_cons_zero, List.getElem?_cons_succ, Nat.zero_add, Nat.add_zero, Nat.reduceAdd, pk_t, pk_f, lss_int, leq_int, gtr_int, geq_int, eql_int, neq_int, not_bool, beq_self_eq_true, if_true, Bool.false_eq_true, if_false, List.nil_append, List.cons_append, List.append_nil, alc_eq, mkm_eq, nNew, nPut, bNew, bPut, nGrd, bGrd, ldN_is, ldN_lt, ldaN_is, ldaN_lt, stN_is, stN_lt, Nat.lt_add_one, ne_eq, nx1, nx2, nx3, ny1, ny2, ny3, not_false_eq_true, List.length_cons, List.length_nil, Nat.reduceLeDiff, setAt, List.take_succ_cons, List.take_zero, List.drop_succ_cons, List.drop_zero, cells_dat, cells_int, cells_bool, cells_agg, List.all_cons, List.all_nil, isCell_int, isCell_bool, isCell_dat, isCell_ref, isCell_nil, isCell_vsl, cells_vsl, av_len_cfg, av_len_pkt, av_len_opn, av_len_evn, av_len_ent, av_len_row, av_len_deal, av_len_pck, tk_cfg, tk_pkt, tk_opn, tk_evn, tk_ent, tk_row, tk_deal, tk_pck, all_cfg, all_pkt, all_opn, all_evn, all_ent, all_row, all_deal, all_pck, List.drop_nil, Bool.and_true, Bool.and_self, and_self, Nat.le_refl, true_and, and_true, Nat.le_add_right, leS, ltS, sh_52, Opn.av, eb, hlo, hhi, T_str]
    try rfl
  obtain ⟨ky, q1, q2⟩ := kinds_sp H1.guard
  have hk : kindL[o.kind.toNat]? = some (kindTxW o.kind) := by
    rcases (show o.kind = 1 ∨ o.kind = 2 ∨ o.kind = 3 ∨ o.kind = 4 by omega) with e | e | e | e <;> rw [e] <;> rfl
  obtain ⟨p, i1, i2⟩ := q2.at_ (i := o.kind) (w := kindTxW o.kind) (by omega) hk H1
  have t1 := itoa_sp H1.guard h1
  let H2 := H1.new (.blk 0 9 [T (kindTxW o.kind), T (Lib.itoa o.addr)])
  have e2 : bs 37 2 [(0, T (kindTxW o.kind)), (1, T (Lib.itoa o.addr))] H1 = some (.sl (H.next + 1) 0 0 1 2 2 true, H2) := (bs_37 (n := 2) (by decide)).trans rfl
  have hn1 : H1.next = H.next + 1 := by simp only [H1]; rw [nNew, nGrd]
  have o2 : Own (H.next + 1) H2 (.sl (H.next + 1) 0 0 1 2 2 true) 1 ([kindTxW o.kind, Lib.itoa o.addr].map T) :=
    .inr ⟨H.next + 1, 0, 0, _, _, true, _, [T (kindTxW o.kind), T (Lib.itoa o.addr)], rfl, Nat.le_refl _, by simp only [H2]; rw [nNew]; omega, Nat.le_refl _, by simp only [H2]; rw [← hn1]; exact getNew_eq, by simp, all_T [kindTxW o.kind, Lib.itoa o.addr], rfl⟩
  have wr := fun H => written_sp H o.kind
  have l1 := itoa_len h1
  have l2 := itoa_len h2
  have lk := kindTxW_len o.kind
  by_cases hw : o.kind = 2 ∨ o.kind = 3
  · have hl : lineTx o = Lib.join [kindTxW o.kind, Lib.itoa o.addr, Lib.itoa o.value] [32] := by unfold lineTx; rw [if_neg (by omega), if_pos hw]
    have hd : decide (o.kind = 2 ∨ o.kind = 3) = true := by simp [hw]
    have t2 := itoa_sp H2 h2
    obtain ⟨x3, H3, s1, s2, s3⟩ := app_str (b := H.next + 1) (by simp only [H2]; rw [nNew]; omega) (by simp only [H2, H1]; rw [bNew, bNew, bGrd]; omega) o2 (by simp) (Lib.itoa o.value)
    have j := join_sp (sep := [32]) s2 (by simp) (by simp) (by
      rw [show [kindTxW o.kind, Lib.itoa o.addr] ++ [Lib.itoa o.value] = [kindTxW o.kind, Lib.itoa o.addr, Lib.itoa o.value] from rfl, join3]
      simp; omega)
    rw [hl]
    have j' : cl 74 [x3, T [32]] H3 = some (T (Lib.join [kindTxW o.kind, Lib.itoa o.addr, Lib.itoa o.value] [32]), H3) := j
    simp only [Opn.av, H1, H2] at eb q1 i1 i2 t1 e2 t2 s1
    simp -implicitDefEqProofs only [Nat.reduceLT, bnd_some, bo_some, condK_true, condK_false, gdA_undef, decide_true, decide_false, Int.reduceLE, Int.reduceLT, Int.reduceEq, Int.reduceNeg, Int.reduceAdd, gd_tt, gd_tf, gd_ft, gd_ff, unG_pure, lift_some, bnd_lift, Option.map_some, Option.bind_some, fieldPtr_ref, fieldPtr_ip, nil_ref, nil_ip, nil_fn, ex_tup, fl_agg, List.getElem?_cons_zero, List.getElem?_cons_succ, Nat.zero_add, Nat.add_zero, Nat.reduceAdd, pk_t, pk_f, lss_int, leq_int, gtr_int, geq_int, eql_int, neq_int, not_bool, beq_self_eq_true, if_true, Bool.false_eq_true, if_false, List.nil_append, List.cons_append, List.append_nil, alc_eq, mkm_eq, nNew, nPut, bNew, bPut, nGrd, bGrd, ldN_is, ldN_lt, ldaN_is, ldaN_lt, stN_is, stN_lt, Nat.lt_add_one, ne_eq, nx1, nx2, nx3, ny1, ny2, ny3, not_false_eq_true, List.length_cons, List.length_nil, Nat.reduceLeDiff, setAt, List.take_succ_cons, List.take_zero, List.drop_succ_cons, List.drop_zero, cells_dat, cells_int, cells_bool, cells_agg, List.all_cons, List.all_nil, isCell_int, isCell_bool, isCell_dat, isCell_ref, isCell_nil, isCell_vsl, cells_vsl, av_len_cfg, av_len_pkt, av_len_opn, av_len_evn, av_len_ent, av_len_row, av_len_deal, av_len_pck, tk_cfg, tk_pkt, tk_opn, tk_evn, tk_ent, tk_row, tk_deal, tk_pck, all_cfg, all_pkt, all_opn, all_evn, all_ent, all_row, all_deal, all_pck, List.drop_nil, Bool.and_true, Bool.and_self, and_self, Nat.le_refl, true_and, and_true, Nat.le_add_right, leS, ltS, sh_52, Opn.av, eb, hlo, hhi, q1, i1, i2, t1, e2, wr, hd, t2]
    simp only [s1]
    simp -implicitDefEqProofs only [Nat.reduceLT, bnd_some, bo_some, condK_true, condK_false, gdA_undef, decide_true, decide_false, Int.reduceLE, Int.reduceLT, Int.reduceEq, Int.reduceNeg, Int.reduceAdd, gd_tt, gd_tf, gd_ft, gd_ff, unG_pure, lift_some, bnd_lift, Option.map_some, Option.bind_some, fieldPtr_ref, fieldPtr_ip, nil_ref, nil_ip, nil_fn, ex_tup, fl_agg, List.getElem?_cons_zero, List.getElem?_cons_succ, Nat.zero_add, Nat.add_zero, Nat.reduceAdd, pk_t, pk_f, lss_int, leq_int, gtr_int, geq_int, eql_int, neq_int, not_bool, beq_self_eq_true, if_true, Bool.false_eq_true, if_false, List.nil_append, List.cons_append, List.append_nil, alc_eq, mkm_eq, nNew, nPut, bNew, bPut, nGrd, bGrd, ldN_is, ldN_lt, ldaN_is, ldaN_lt, stN_is, stN_lt, Nat.lt_add_one, ne_eq, nx1, nx2, nx3, ny1, ny2, ny3, not_false_eq_true, List.length_cons, List.length_nil, Nat.reduceLeDiff, setAt, List.take_succ_cons, List.take_zero, List.drop_succ_cons, List.drop_zero, cells_dat, cells_int, cells_bool, cells_agg, List.all_cons, List.all_nil, isCell_int, isCell_bool, isCell_dat, isCell_ref, isCell_nil, isCell_vsl, cells_vsl, av_len_cfg, av_len_pkt, av_len_opn, av_len_evn, av_len_ent, av_len_row, av_len_deal, av_len_pck, tk_cfg, tk_pkt, tk_opn, tk_evn, tk_ent, tk_row, tk_deal, tk_pck, all_cfg, all_pkt, all_opn, all_evn, all_ent, all_row, all_deal, all_pck, List.drop_nil, Bool.and_true, Bool.and_self, and_self, Nat.le_refl, true_and, and_true, Nat.le_add_right, leS, ltS, jn_52x0, T_str, j']
    try rfl
  · have hl : lineTx o = Lib.join [kindTxW o.kind, Lib.itoa o.addr] [32] := by unfold lineTx; rw [if_neg (by omega), if_neg hw]
    have hd : decide (o.kind = 2 ∨ o.kind = 3) = false := by simp [hw]
    have j := join_sp (sep := [32]) o2 (by simp) (by simp) (by rw [join2]; simp; omega)
    rw [hl]
    simp only [Opn.av, H1, H2] at eb q1 i1 i2 t1 e2 j
    simp -implicitDefEqProofs only [Nat.reduceLT, bnd_some, bo_some, condK_true, condK_false, gdA_undef, decide_true, decide_false, Int.reduceLE, Int.reduceLT, Int.reduceEq, Int.reduceNeg, Int.reduceAdd, gd_tt, gd_tf, gd_ft, gd_ff, unG_pure, lift_some, bnd_lift, Option.map_some, Option.bind_some, fieldPtr_ref, fieldPtr_ip, nil_ref, nil_ip, nil_fn, ex_tup, fl_agg, List.getElem?_cons_zero, List.getElem?_cons_succ, Nat.zero_add, Nat.add_zero, Nat.reduceAdd, pk_t, pk_f, lss_int, leq_int, gtr_int, geq_int, eql_int, neq_int, not_bool, beq_self_eq_true, if_true, Bool.false_eq_true, if_false, List.nil_append, List.cons_append, List.append_nil, alc_eq, mkm_eq, nNew, nPut, bNew, bPut, nGrd, bGrd, ldN_is, ldN_lt, ldaN_is, ldaN_lt, stN_is, stN_lt, Nat.lt_add_one, ne_eq, nx1, nx2, nx3, ny1, ny2, ny3, not_false_eq_true, List.length_cons, List.length_nil, Nat.reduceLeDiff, setAt, List.take_succ_cons, List.take_zero, List.drop_succ_cons, List.drop_zero, cells_dat, cells_int, cells_bool, cells_agg, List.all_cons, List.all_nil, isCell_int, isCell_bool, isCell_dat, isCell_ref, isCell_nil, isCell_vsl, cells_vsl, av_len_cfg, av_len_pkt, av_len_opn, av_len_evn, av_len_ent, av_len_row, av_len_deal, av_len_pck, tk_cfg, tk_pkt, tk_opn, tk_evn, tk_ent, tk_row, tk_deal, tk_pck, all_cfg, all_pkt, all_opn, all_evn, all_ent, all_row, all_deal, all_pck, List.drop_nil, Bool.and_true, Bool.and_self, and_self, Nat.le_refl, true_and, and_true, Nat.le_add_right, leS, ltS, sh_52, Opn.av, eb, hlo, hhi, q1, i1, i2, t1, e2, wr, hd, jn_52x0, T_str, j]
    try rfl

end Go.Proofs.YtjmldnpdfnklcaaDoor

namespace Go.Proofs.YtjmldnpdfnklcaaDoor

/-- A number of at most nine digits. -/
def near (n : Int) : Prop := -999999999 ≤ n ∧ n ≤ 999999999
instance (n : Int) : Decidable (near n) := by unfold near; exact inferInstance
theorem num_far {n : Nat} (h : 1000000000 ≤ n) : numTx (Lib.decDigits n) = none := by
  obtain ⟨a1, a2, a3, a4, a5⟩ := decD_spec n
  have hl : 9 < (Lib.decDigits n).length := by
    have := (a5 9 (by decide))
    have e : (10 : Nat) ^ 9 = 1000000000 := by decide
    rw [e] at this
    omega
  unfold numTx
  rw [magTx_dig a1, if_pos (.inr (.inl hl))]
theorem num_farN {n : Nat} (h : 1000000000 ≤ n) : numTx (45 :: Lib.decDigits n) = none := by
  obtain ⟨a1, a2, a3, a4, a5⟩ := decD_spec n
  have hl : 9 < (Lib.decDigits n).length := by
    have := (a5 9 (by decide))
    have e : (10 : Nat) ^ 9 = 1000000000 := by decide
    rw [e] at this
    omega
  unfold numTx
  rw [magTx_minus, if_pos (.inr (.inl hl))]
theorem num_itoa (n : Int) : numTx (Lib.itoa n) = if near n then some n else none := by
  unfold Lib.itoa
  by_cases h : n < 0
  · rw [if_pos h]
    by_cases h2 : n.natAbs < 1000000000
    · have hn : near n := ⟨by omega, by omega⟩
      rw [num_neg h2, if_neg (by omega), if_pos hn]
      congr 1; omega
    · have hn : ¬ near n := fun h => by have := h.1; have := h.2; omega
      rw [num_farN (by omega), if_neg hn]
  · rw [if_neg h]
    by_cases h2 : n.toNat < 1000000000
    · have hn : near n := ⟨by omega, by omega⟩
      rw [num_dec h2, if_pos hn]
      congr 1; omega
    · have hn : ¬ near n := fun h => by have := h.1; have := h.2; omega
      rw [num_far (by omega), if_neg hn]
theorem itoa_ne (n : Int) : Lib.itoa n ≠ [] := by
  unfold Lib.itoa
  split
  · simp
  · exact (decD_spec _).2.2.1
theorem itoa_bytes (n : Int) : ∀ b ∈ Lib.itoa n, b ≠ 10 ∧ b ≠ 32 := by
  have k : ∀ m : Nat, ∀ b ∈ Lib.decDigits m, b ≠ 10 ∧ b ≠ 32 := fun m b hb => by
    have h := (decD_spec m).1
    rw [List.all_eq_true] at h
    have := dig_rng (h b hb)
    constructor
    · rintro rfl
      have : (10 : UInt8).toNat = 10 := by decide
      omega
    · rintro rfl
      have : (32 : UInt8).toNat = 32 := by decide
      omega
  intro b hb
  unfold Lib.itoa at hb
  split at hb
  · rcases List.mem_cons.1 hb with rfl | hb
    · decide
    · exact k _ b hb
  · exact k _ b hb
/-- Words with a blank between them. -/
def blanks : List Str → Str
  | [] => []
  | [w] => w
  | w :: ws => w ++ 32 :: blanks ws
theorem words_blanks : ∀ {ws : List Str}, (∀ w ∈ ws, w ≠ [] ∧ ∀ b ∈ w, b ≠ 32) → wordsTx (blanks ws) = ws
  | [], _ => rfl
  | [w], h => by
    obtain ⟨h1, h2⟩ := h w (by simp)
    simp only [blanks, wordsTx, splitC_no h2]
    simp [h1]
  | w :: v :: ws, h => by
    obtain ⟨h1, h2⟩ := h w (by simp)
    have ih := words_blanks (ws := v :: ws) fun x hx => h x (by simp at hx ⊢; exact .inr hx)
    have e : blanks (w :: v :: ws) = w ++ 32 :: blanks (v :: ws) := rfl
    rw [e]
    unfold wordsTx at ih ⊢
    rw [splitC_append, splitC_no h2, List.filter_append, ih]
    simp [h1]
theorem blanks_no : ∀ {ws : List Str}, (∀ w ∈ ws, ∀ b ∈ w, b ≠ 10) → ∀ b ∈ blanks ws, b ≠ 10
  | [], _, b, hb => by simp [blanks] at hb
  | [w], h, b, hb => h w (by simp) b hb
  | w :: v :: ws, h, b, hb => by
    have e : blanks (w :: v :: ws) = w ++ 32 :: blanks (v :: ws) := rfl
    rw [e] at hb
    rcases List.mem_append.1 hb with hb | hb
    · exact h w (by simp) b hb
    · rcases List.mem_cons.1 hb with rfl | hb
      · decide
      · exact blanks_no (ws := v :: ws) (fun x hx => h x (by simp at hx ⊢; exact .inr hx)) b hb
/-- One line, read. -/
theorem parse_one {α : Type} (f : List Str → Option α) {ws : List Str} (h : ∀ w ∈ ws, w ≠ [] ∧ ∀ b ∈ w, b ≠ 32 ∧ b ≠ 10) (h0 : ws ≠ []) : parseTx f (blanks ws) = (f ws).map fun o => [o] := by
  have h1 : splitC 10 (blanks ws) = [blanks ws] := splitC_no (blanks_no fun w hw b hb => ((h w hw).2 b hb).2)
  have h2 := words_blanks (ws := ws) fun w hw => ⟨(h w hw).1, fun b hb => ((h w hw).2 b hb).1⟩
  simp only [parseTx, h1, parseL, h2, if_neg h0]
  cases f ws <;> rfl
theorem kind_word {k : Int} (h : 1 ≤ k ∧ k ≤ 4) : kindTx (kindTxW k) = k ∧ kindTxW k ≠ [] ∧ ∀ b ∈ kindTxW k, b ≠ 32 ∧ b ≠ 10 := by
  rcases (show k = 1 ∨ k = 2 ∨ k = 3 ∨ k = 4 by omega) with e | e | e | e <;> subst e <;> refine ⟨by decide, by decide, by decide⟩
theorem itoa_word (n : Int) : Lib.itoa n ≠ [] ∧ ∀ b ∈ Lib.itoa n, b ≠ 32 ∧ b ≠ 10 := ⟨itoa_ne n, fun b hb => (itoa_bytes n b hb).symm⟩

end Go.Proofs.YtjmldnpdfnklcaaDoor

namespace Go.Proofs.YtjmldnpdfnklcaaDoor



end Go.Proofs.YtjmldnpdfnklcaaDoor

namespace Go.Proofs.YtjmldnpdfnklcaaDoor

instance pckDec : DecidableEq Pck := fun a b => decidable_of_iff (a.deliver = b.deliver ∧ a.at_ = b.at_ ∧ a.bit = b.bit ∧ a.mask = b.mask) (by cases a; cases b; simp)
theorem equalOps (H : AHeap) {x y : AV} {l m : List Opn} (hl : l.length < 1000000000) (hm : m.length < 1000000000) (hx : SliceIs H x 3 l.length (l.flatMap Opn.av)) (hy : SliceIs H y 3 m.length (m.flatMap Opn.av)) : cl 53 [x, y] H = some (B (decide (l = m)), H) := by
  refine run_cl rfl rfl (rn_53 _ _ _ _ ?_)
  have e1 := hx.lnS
  have e2 := hy.lnS
  by_cases hlen : l.length = m.length
  · have hl2 : (l.length : Int) = (m.length : Int) := by omega
    have key : ∀ k i : Nat, i + k = l.length → l.take i = m.take i → lp_53x0 cl [x, y, I l.length, I i] H = some (B (decide (l = m)), H) := by
      intro k
      induction k with
      | zero =>
        intro i hi ht
        have h1 : ¬ (i : Int) < l.length := by omega
        rw [List.take_of_length_le (by omega), List.take_of_length_le (by omega)] at ht
        have hd : decide (l = m) = true := by simp [ht]
        rw [le_53x0, hd]
        simp -implicitDefEqProofs only [Nat.reduceLT, bnd_some, bo_some, condK_true, condK_false, gdA_undef, decide_true, decide_false, Int.reduceLE, Int.reduceLT, Int.reduceEq, Int.reduceNeg, Int.reduceAdd, gd_tt, gd_tf, gd_ft, gd_ff, unG_pure, lift_some, bnd_lift, Option.map_some, Option.bind_some, fieldPtr_ref, fieldPtr_ip, nil_ref, nil_ip, nil_fn, ex_tup, fl_agg, List.getElem?_cons_zero, List.getElem?_cons_succ, Nat.zero_add, Nat.add_zero, Nat.reduceAdd, pk_t, pk_f, lss_int, leq_int, gtr_int, geq_int, eql_int, neq_int, not_bool, beq_self_eq_true, if_true, Bool.false_eq_true, if_false, List.nil_append, List.cons_append, List.append_nil, alc_eq, mkm_eq, nNew, nPut, bNew, bPut, nGrd, bGrd, h1]
      | succ k ih =>
        intro i hi ht
        have h1 : (i : Int) < l.length := by omega
        have h6 : (i : Int) + 1 = ((i + 1 : Nat) : Int) := by omega
        have h7 := wrap_i64 (a := ((i + 1 : Nat) : Int)) (by omega) (by omega)
        have s1 := hx.ix (k := .i64) (i := (i : Int)) (by omega) h1
        have s2 := hy.ix (k := .i64) (i := (i : Int)) (by omega) (by omega)
        rw [Int.toNat_natCast] at s1 s2
        obtain ⟨a, ha⟩ : ∃ a, l[i]? = some a := ⟨_, List.getElem?_eq_getElem (by omega)⟩
        obtain ⟨c, hc⟩ : ∃ c, m[i]? = some c := ⟨_, List.getElem?_eq_getElem (by omega)⟩
        have t1 := lda_elem av_len_opn hx ha
        have t2 := lda_elem av_len_opn hy hc
        rw [le_53x0]
        by_cases hac : a = c
        · have hd : decide (a = c) = true := by simp [hac]
          have r1 := ih (i + 1) (by omega) (by rw [List.take_add_one, List.take_add_one, ht, ha, hc, hac])
          simp -implicitDefEqProofs only [Nat.reduceLT, bnd_some, bo_some, condK_true, condK_false, gdA_undef, decide_true, decide_false, Int.reduceLE, Int.reduceLT, Int.reduceEq, Int.reduceNeg, Int.reduceAdd, gd_tt, gd_tf, gd_ft, gd_ff, unG_pure, lift_some, bnd_lift, Option.map_some, Option.bind_some, fieldPtr_ref, fieldPtr_ip, nil_ref, nil_ip, nil_fn, ex_tup, fl_agg, List.getElem?_cons_zero, List.getElem?_cons_succ, Nat.zero_add, Nat.add_zero, Nat.reduceAdd, pk_t, pk_f, lss_int, leq_int, gtr_int, geq_int, eql_int, neq_int, not_bool, beq_self_eq_true, if_true, Bool.false_eq_true, if_false, List.nil_append, List.cons_append, List.append_nil, alc_eq, mkm_eq, nNew, nPut, bNew, bPut, nGrd, bGrd, h1, s1, s2, t1, t2, neq_opn, hd, Bool.not_true, add_int, h6, h7, r1]
        · have hd : decide (a = c) = false := by simp [hac]
          have hd2 : decide (l = m) = false := decide_eq_false fun e => by
            rw [e, hc] at ha
            exact hac (Option.some.inj ha).symm
          rw [hd2]
          simp -implicitDefEqProofs only [Nat.reduceLT, bnd_some, bo_some, condK_true, condK_false, gdA_undef, decide_true, decide_false, Int.reduceLE, Int.reduceLT, Int.reduceEq, Int.reduceNeg, Int.reduceAdd, gd_tt, gd_tf, gd_ft, gd_ff, unG_pure, lift_some, bnd_lift, Option.map_some, Option.bind_some, fieldPtr_ref, fieldPtr_ip, nil_ref, nil_ip, nil_fn, ex_tup, fl_agg, List.getElem?_cons_zero, List.getElem?_cons_succ, Nat.zero_add, Nat.add_zero, Nat.reduceAdd, pk_t, pk_f, lss_int, leq_int, gtr_int, geq_int, eql_int, neq_int, not_bool, beq_self_eq_true, if_true, Bool.false_eq_true, if_false, List.nil_append, List.cons_append, List.append_nil, alc_eq, mkm_eq, nNew, nPut, bNew, bPut, nGrd, bGrd, h1, s1, s2, t1, t2, neq_opn, hd, Bool.not_false]
    have r1 := key l.length 0 (by omega) rfl
    have r1' : lp_53x0 cl [x, y, I l.length, I 0] H = some (B (decide (l = m)), H) := r1
    have hd : decide ((l.length : Int) = (m.length : Int)) = true := by simp [hlen]
    simp -implicitDefEqProofs only [Nat.reduceLT, bnd_some, bo_some, condK_true, condK_false, gdA_undef, decide_true, decide_false, Int.reduceLE, Int.reduceLT, Int.reduceEq, Int.reduceNeg, Int.reduceAdd, gd_tt, gd_tf, gd_ft, gd_ff, unG_pure, lift_some, bnd_lift, Option.map_some, Option.bind_some, fieldPtr_ref, fieldPtr_ip, nil_ref, nil_ip, nil_fn, ex_tup, fl_agg, List.getElem?_cons_zero, List.getElem?_cons_succ, Nat.zero_add, Nat.add_zero, Nat.reduceAdd, pk_t, pk_f, lss_int, leq_int, gtr_int, geq_int, eql_int, neq_int, not_bool, beq_self_eq_true, if_true, Bool.false_eq_true, if_false, List.nil_append, List.cons_append, List.append_nil, alc_eq, mkm_eq, nNew, nPut, bNew, bPut, nGrd, bGrd, sh_53, e1, e2, hd, Bool.not_true, r1']
  · have hd : decide ((l.length : Int) = (m.length : Int)) = false := decide_eq_false fun e => hlen (by omega)
    have hd2 : decide (l = m) = false := decide_eq_false fun e => hlen (by rw [e])
    rw [hd2]
    simp -implicitDefEqProofs only [Nat.reduceLT, bnd_some, bo_some, condK_true, condK_false, gdA_undef, decide_true, decide_false, Int.reduceLE, Int.reduceLT, Int.reduceEq, Int.reduceNeg, Int.reduceAdd, gd_tt, gd_tf, gd_ft, gd_ff, unG_pure, lift_some, bnd_lift, Option.map_some, Option.bind_some, fieldPtr_ref, fieldPtr_ip, nil_ref, nil_ip, nil_fn, ex_tup, fl_agg, List.getElem?_cons_zero, List.getElem?_cons_succ, Nat.zero_add, Nat.add_zero, Nat.reduceAdd, pk_t, pk_f, lss_int, leq_int, gtr_int, geq_int, eql_int, neq_int, not_bool, beq_self_eq_true, if_true, Bool.false_eq_true, if_false, List.nil_append, List.cons_append, List.append_nil, alc_eq, mkm_eq, nNew, nPut, bNew, bPut, nGrd, bGrd, sh_53, e1, e2, hd, Bool.not_false]

end Go.Proofs.YtjmldnpdfnklcaaDoor

namespace Go.Proofs.YtjmldnpdfnklcaaDoor



end Go.Proofs.YtjmldnpdfnklcaaDoor

namespace Go.Proofs.YtjmldnpdfnklcaaDoor

/-- An operation that has a line. -/
def okOp (o : Opn) : Bool := decide (1 ≤ o.kind) && decide (o.kind ≤ 4) && decide (0 ≤ o.addr) && decide (near o.addr) && decide (near o.value) && (decide (o.kind = 2 ∨ o.kind = 3) || decide (o.value = 0))
def printTx : List Opn → Option Str
  | [] => some []
  | o :: os => if okOp o = true then (printTx os).map fun t => lineTx o ++ (10 :: t) else none
theorem lineTx_len {o : Opn} (h1 : In64 o.addr) (h2 : In64 o.value) : (lineTx o).length ≤ 60 := by
  have l1 := itoa_len h1
  have l2 := itoa_len h2
  have lk := kindTxW_len o.kind
  unfold lineTx
  split
  · simp
  · split
    · rw [join3]; simp; omega
    · rw [join2]; simp; omega

end Go.Proofs.YtjmldnpdfnklcaaDoor

namespace Go.Proofs.YtjmldnpdfnklcaaDoor



end Go.Proofs.YtjmldnpdfnklcaaDoor

namespace Go.Proofs.YtjmldnpdfnklcaaDoor

theorem lineTx_is {o : Opn} (h : 1 ≤ o.kind ∧ o.kind ≤ 4) : lineTx o = blanks (if o.kind = 2 ∨ o.kind = 3 then [kindTxW o.kind, Lib.itoa o.addr, Lib.itoa o.value] else [kindTxW o.kind, Lib.itoa o.addr]) := by
  unfold lineTx
  rw [if_neg (by omega)]
  by_cases hw : o.kind = 2 ∨ o.kind = 3
  · rw [if_pos hw, if_pos hw, join3]; simp [blanks, List.append_assoc]
  · rw [if_neg hw, if_neg hw, join2]; simp [blanks]
theorem line_words {o : Opn} (h : 1 ≤ o.kind ∧ o.kind ≤ 4) : ∀ w ∈ (if o.kind = 2 ∨ o.kind = 3 then [kindTxW o.kind, Lib.itoa o.addr, Lib.itoa o.value] else [kindTxW o.kind, Lib.itoa o.addr]), w ≠ [] ∧ ∀ b ∈ w, b ≠ 32 ∧ b ≠ 10 := by
  intro w hw
  have k := kind_word h
  split at hw
  · simp only [List.mem_cons, List.not_mem_nil, or_false] at hw
    rcases hw with rfl | rfl | rfl
    · exact k.2
    · exact itoa_word _
    · exact itoa_word _
  · simp only [List.mem_cons, List.not_mem_nil, or_false] at hw
    rcases hw with rfl | rfl
    · exact k.2
    · exact itoa_word _
/-- A line, read again, is its operation just if the operation has a line. -/
theorem line_back (o : Opn) : parseTx opTx (lineTx o) = some [o] ↔ okOp o = true := by
  by_cases h : 1 ≤ o.kind ∧ o.kind ≤ 4
  · rw [lineTx_is h, parse_one _ (line_words h) (by split <;> simp)]
    have k := (kind_word h).1
    simp only [okOp, Bool.and_eq_true, Bool.or_eq_true, decide_eq_true_eq]
    by_cases hw : o.kind = 2 ∨ o.kind = 3
    · rw [if_pos hw]
      simp only [opTx, k, if_pos hw, num_itoa]
      by_cases h1 : near o.addr
      · by_cases h2 : near o.value
        · simp only [if_pos h1, if_pos h2]
          by_cases h3 : 0 ≤ o.addr
          · rw [if_pos h3]
            exact ⟨fun _ => ⟨⟨⟨⟨h, h3⟩, h1⟩, h2⟩, .inl hw⟩, fun _ => rfl⟩
          · rw [if_neg h3]
            exact ⟨fun e => (by cases e), fun e => absurd e.1.1.1.2 h3⟩
        · simp only [if_pos h1, if_neg h2]
          exact ⟨fun e => (by cases e), fun e => absurd e.1.2 h2⟩
      · simp only [if_neg h1]
        exact ⟨fun e => (by cases e), fun e => absurd e.1.1.2 h1⟩
    · rw [if_neg hw]
      have hk : o.kind = 1 ∨ o.kind = 4 := by omega
      simp only [opTx, k, if_pos hk, num_itoa]
      by_cases h1 : near o.addr
      · simp only [if_pos h1]
        by_cases h3 : 0 ≤ o.addr
        · rw [if_pos h3]
          constructor
          · intro e
            simp only [Option.map_some, Option.some.injEq, List.cons.injEq, and_true] at e
            have hv : o.value = 0 := by rw [← e]
            exact ⟨⟨⟨⟨h, h3⟩, h1⟩, by rw [hv]; exact ⟨by decide, by decide⟩⟩, .inr hv⟩
          · intro e
            rcases e.2 with e | e
            · exact absurd e hw
            · simp only [Option.map_some, Option.some.injEq, List.cons.injEq, and_true]
              obtain ⟨a, b, c⟩ := o
              simp only at e
              rw [e]
        · rw [if_neg h3]
          exact ⟨fun e => (by cases e), fun e => absurd e.1.1.1.2 h3⟩
      · simp only [if_neg h1]
        exact ⟨fun e => (by cases e), fun e => absurd e.1.1.2 h1⟩
  · have hl : lineTx o = [] := by unfold lineTx; rw [if_pos (by omega)]
    rw [hl]
    constructor
    · intro e; cases e
    · intro e
      simp only [okOp, Bool.and_eq_true, decide_eq_true_eq] at e
      exact absurd e.1.1.1.1 h
/-- What is printed, read again, is what was printed. -/
theorem print_back : ∀ (os : List Opn) (t : Str), printTx os = some t → parseTx opTx t = some os
  | [], t, h => by
    simp only [printTx, Option.some.injEq] at h
    subst h; rfl
  | o :: os, t, h => by
    simp only [printTx] at h
    split at h
    · rename_i hk
      cases hp : printTx os with
      | none => rw [hp] at h; cases h
      | some u =>
        rw [hp] at h
        simp only [Option.map_some, Option.some.injEq] at h
        subst h
        rw [parse_append, (line_back o).2 hk, print_back os u hp]
        rfl
    · cases h

end Go.Proofs.YtjmldnpdfnklcaaDoor

namespace Go.Proofs.YtjmldnpdfnklcaaDoor

/-- What a builder holds. -/
def BldIs (b : Nat) (H : AHeap) (r : Nat) (t : Str) : Prop :=
  b ≤ r ∧ r < H.next ∧ ∃ p v, H.get r = .blk 0 84 [p, v] ∧ (p = zP ∨ p = .ref r 0 0) ∧
    ((v = zN ∧ t = []) ∨ ∃ r2 g, v = .sl r2 g 0 1 t.length t.length false ∧ b ≤ r2 ∧ r2 < H.next ∧ r2 ≠ r ∧ t ≠ [] ∧ H.get r2 = .blk g (5 + tagB) (t.map U8))
theorem BldIs.ext {b : Nat} {H H' : AHeap} {r : Nat} {t : Str} (h : BldIs b H r t) (hn : H.next ≤ H'.next) (hg : ∀ x, b ≤ x → x < H.next → H'.get x = H.get x) : BldIs b H' r t := by
  obtain ⟨h1, h2, p, v, h3, h4, h5⟩ := h
  refine ⟨h1, by omega, p, v, by rw [hg r h1 h2]; exact h3, h4, h5.imp id fun ⟨r2, g, k1, k2, k3, k4, k5, k6⟩ => ⟨r2, g, k1, k2, by omega, k4, k5, by rw [hg r2 k2 k3]; exact k6⟩⟩
theorem app_T {e by_ : Nat} {v : AV} {s : Str} {H : AHeap} : app e 1 by_ v (T s) H = appendCells e 1 by_ v s.length (s.map U8) H := by
  simp only [app, T, sliceLen, sliceCells, size_T, toList_T]
theorem all_U8 : ∀ s : Str, (s.map U8).all AV.isCell = true
  | [] => rfl
  | b :: s => by rw [List.map_cons, List.all_cons, all_U8 s]; rfl
theorem grT_self {e : Nat} : grT e (e + tagB) 0 = e + tagB := by unfold grT; rw [if_pos ⟨.inr rfl, rfl⟩]
theorem write_sp {b : Nat} {H : AHeap} {r : Nat} {t : Str} (hbn : b ≤ H.next) (hb : H.base ≤ b) (h : BldIs b H r t) {s : Str} (hs : s ≠ []) (hl : t.length + s.length ≤ 1000000) :
    ∃ H', cl 47 [.ref r 0 0, T s] H = some (.tup [I s.length, .s .nilIface], H') ∧ BldIs b H' r (t ++ s) ∧ Step b H H' := by
  obtain ⟨h1, h2, p, v, h3, h4, h5⟩ := h
  have hv : v.isCell = true := by
    rcases h5 with ⟨rfl, _⟩ | ⟨r2, g, rfl, _⟩ <;> rfl
  have hs0 : s.length ≠ 0 := fun e => hs (List.eq_nil_of_length_eq_zero e)
  have c1 : ∃ H1, cl 75 [.ref r 0 0] H = some (.tup [], H1) ∧ H1.get r = .blk 0 84 [.ref r 0 0, v] ∧ (∀ x, x ≠ r → H1.get x = H.get x) ∧ H1.next = H.next ∧ H1.base = H.base := by
    rcases h4 with rfl | rfl
    · refine ⟨H.put r (.blk 0 84 [.ref r 0 0, v]), prim_of (p := copyP 84) (by rfl) ?_, getPut_eq, fun x hx => getPut_ne hx, rfl, rfl⟩
      simp only [copyP, h3]
      rw [if_pos ⟨trivial, by decide, by omega, hv⟩]
    · refine ⟨H, prim_of (p := copyP 84) (by rfl) ?_, h3, fun x _ => rfl, rfl, rfl⟩
      simp only [copyP, h3]
      rw [if_pos ⟨trivial, by decide, by omega, hv⟩]
      simp
  obtain ⟨H1, c1, g1, g2, g3, g4⟩ := c1
  have c2 : ∃ v' H2, app 5 1 1 v (T s) H1 = some (v', H2) ∧ H2.get r = .blk 0 84 [.ref r 0 0, v] ∧ v'.isCell = true ∧ v'.cells = [v'] ∧ H2.base = H1.base ∧ H1.next ≤ H2.next ∧ (∀ x, x < b → H2.get x = H1.get x) ∧
      ∃ r2 g, v' = .sl r2 g 0 1 (t ++ s).length (t ++ s).length false ∧ b ≤ r2 ∧ r2 < H2.next ∧ r2 ≠ r ∧ H2.get r2 = .blk g (5 + tagB) ((t ++ s).map U8) := by
    rcases h5 with ⟨rfl, rfl⟩ | ⟨r2, g, rfl, k2, k3, k4, k5, k6⟩
    · refine ⟨.sl H1.next 0 0 1 s.length s.length false, H1.new (.blk 0 (5 + tagB) (s.map U8)), ?_, by rw [getNew_lt (by omega)]; exact g1, rfl, rfl, rfl, by rw [nNew]; omega, fun x hx => getNew_lt (by omega), H1.next, 0, rfl, by omega, by rw [nNew]; omega, by omega, getNew_eq⟩
      rw [app_T, appendCells, if_pos ⟨by simp, all_U8 s⟩]
      rw [if_neg hs0, if_pos ⟨by unfold most; omega, by unfold most; omega⟩]
    · have k7 : H1.get r2 = .blk g (5 + tagB) (t.map U8) := by rw [g2 r2 k4]; exact k6
      refine ⟨.sl r2 (g + 1) 0 1 (t ++ s).length (t ++ s).length false, H1.put r2 (.blk (g + 1) (5 + tagB) ((t ++ s).map U8)), ?_, by rw [getPut_ne (Ne.symm k4)]; exact g1, rfl, rfl, rfl, Nat.le_refl _, fun x hx => getPut_ne (by omega), r2, g + 1, rfl, k2, by rw [nPut]; omega, k4, getPut_eq⟩
      rw [app_T, appendCells, if_pos ⟨by simp, all_U8 s⟩]
      simp only [k7]
      rw [if_pos ⟨trivial, trivial, by simp⟩, if_neg hs0, if_neg (by omega), if_pos ⟨by unfold most; omega, by unfold most; omega⟩]
      simp only [Bool.false_eq_true, if_false, grT_self, List.drop_zero, Nat.mul_one]
      rw [if_pos (by omega), List.take_of_length_le (by simp), ← List.map_append, List.length_append]
  obtain ⟨v', H2, c2, q1, q2, q3, q4, q5, q6, r2, g, q7, q8, q9, q10, q11⟩ := c2
  have c3 := st_new (n := 1) (off := 1) (v := v') q1 (by omega) (by rw [q3]; simp [q2]) (by rw [q3]; rfl) (by simp)
  rw [q3] at c3
  have e3 : setAt [AV.ref r 0 0, v] 1 [v'] = [.ref r 0 0, v'] := rfl
  rw [e3] at c3
  refine ⟨H2.put r (.blk 0 84 [.ref r 0 0, v']), run_cl rfl rfl (rn_47 _ _ _ _ ?_), ⟨h1, by rw [nPut]; omega, .ref r 0 0, v', getPut_eq, .inr rfl, .inr ⟨r2, g, q7, q8, by rw [nPut]; exact q9, q10, by simp [hs], by rw [getPut_ne q10]; exact q11⟩⟩, ⟨by rw [bPut, q4, g4], by rw [nPut]; omega, fun x hx => by rw [getPut_ne (by omega), q6 x hx, g2 x (by omega)]⟩⟩
  have c4 : ld (.ref r 0 1) H1 = some (v, H1) := by rw [ld_blk g1]; rfl
  simp -implicitDefEqProofs only [Nat.reduceLT, bnd_some, bo_some, condK_true, condK_false, gdA_undef, decide_true, decide_false, Int.reduceLE, Int.reduceLT, Int.reduceEq, Int.reduceNeg, Int.reduceAdd, gd_tt, gd_tf, gd_ft, gd_ff, unG_pure, lift_some, bnd_lift, Option.map_some, Option.bind_some, fieldPtr_ref, fieldPtr_ip, nil_ref, nil_ip, nil_fn, ex_tup, fl_agg, List.getElem?_cons_zero, List.getElem?_cons_succ, Nat.zero_add, Nat.add_zero, Nat.reduceAdd, pk_t, pk_f, lss_int, leq_int, gtr_int, geq_int, eql_int, neq_int, not_bool, beq_self_eq_true, if_true, Bool.false_eq_true, if_false, List.nil_append, List.cons_append, List.append_nil, alc_eq, mkm_eq, nNew, nPut, bNew, bPut, nGrd, bGrd, sh_47, c1, c4, c2, c3, lnT_T]
/-- A builder's text. -/
theorem string_sp {b : Nat} {H : AHeap} {r : Nat} {t : Str} (hb : H.base ≤ b) (h : BldIs b H r t) (hl : t.length ≤ 1000000) : ∃ H', cl 48 [.ref r 0 0] H = some (T t, H') := by
  obtain ⟨h1, h2, p, v, h3, h4, h5⟩ := h
  rcases h5 with ⟨rfl, rfl⟩ | ⟨r2, g, rfl, k2, k3, k4, k5, k6⟩
  · refine ⟨H, prim_of (p := stringP 84 5) (by rfl) ?_⟩
    simp only [stringP, h3, if_true]
  · refine ⟨H.put r2 (.blk (g + 1) 0 []), prim_of (p := stringP 84 5) (by rfl) ?_⟩
    have hb : ∀ t : Str, (t.map U8).mapM byteOf = some t := by
      intro t
      induction t with
      | nil => rfl
      | cons x t ih =>
        rw [List.map_cons, List.mapM_cons, ih]
        have hx : byteOf (U8 x) = some x := by
          have := x.toNat_lt
          simp only [byteOf]
          rw [if_pos ⟨by omega, by omega⟩]
          simp
        rw [hx]; rfl
    simp only [stringP, h3, k6]
    rw [if_pos ⟨trivial, trivial, trivial, fun e => k5 (List.eq_nil_of_length_eq_zero e), by omega, by simp, by omega⟩, List.take_of_length_le (by simp), hb]
/-- Things printed line by line: 'none' where a line, read again, is not its thing. -/
def prT {α : Type} [DecidableEq α] (K : List Str → Option α) (LN : α → Str) : List α → Option Str
  | [] => some []
  | o :: os => if parseTx K (LN o) = some [o] then (prT K LN os).map fun t => LN o ++ (10 :: t) else none
theorem prT_ops : ∀ os : List Opn, prT opTx lineTx os = printTx os
  | [] => rfl
  | o :: os => by
    rw [prT, printTx, prT_ops os]
    by_cases h : okOp o = true
    · rw [if_pos h, if_pos ((line_back o).2 h)]
    · rw [if_neg h, if_neg fun e => h ((line_back o).1 e)]
def prA (o : Option Str) : AV := match o with
  | some t => .tup [T t, I 0]
  | none => .tup [T [], I 1]
theorem opIn_len {o : Opn} (h : In64 o.addr ∧ In64 o.value) : (lineTx o).length ≤ 80 := by have := lineTx_len h.1 h.2; omega
theorem print_sp (H : AHeap) {x : AV} {ops : List Opn} (hx : SliceIs H x 3 ops.length (ops.flatMap Opn.av)) (hn : ops.length ≤ 1000) (hi : ∀ o ∈ ops, (fun o : Opn => In64 o.addr ∧ In64 o.value) o) : cl 32 [x] H = some (prA (prT opTx lineTx ops), H) := by
  refine pure_val rfl rfl (rn_32 _ _ _) ?_ (by
    unfold prA
    split <;> exact frz_tup fun x hx => by
      simp only [List.mem_cons, List.mem_singleton, List.not_mem_nil, or_false] at hx
      rcases hx with rfl | rfl <;> exact frz_s)
  let H0 := H.guard.new (.blk 0 84 [zP, zN])
  have s0 : Step H.next H.guard H0 := Step.new _ (Nat.le_refl _)
  have sx : ∀ {Hi : AHeap}, Step H.next H.guard Hi → SliceIs Hi x 3 ops.length (ops.flatMap Opn.av) := fun {Hi} s => hx.guard.of_get s.next fun r _ hr => s.low r hr
  have key : ∀ k j : Nat, j + k = ops.length → ∀ (acc : Str) (Hi : AHeap), acc.length ≤ 100 * j → BldIs H.next Hi H.next acc → Step H.next H.guard Hi →
      (lp_32x0 cl [.ref H.next 0 0, x, I ops.length, I j] Hi).map Prod.fst = some (prA ((prT opTx lineTx (ops.drop j)).map (acc ++ ·))) := by
    intro k
    induction k with
    | zero =>
      intro j hj acc Hi ha hb s
      have h1 : ¬ (j : Int) < ops.length := by omega
      have sb : Hi.base = H.next := s.base
      obtain ⟨Hz, e1⟩ := string_sp (by omega) hb (by omega)
      rw [le_32x0, List.drop_eq_nil_of_le (by omega)]
      simp -implicitDefEqProofs only [Nat.reduceLT, bnd_some, bo_some, condK_true, condK_false, gdA_undef, decide_true, decide_false, Int.reduceLE, Int.reduceLT, Int.reduceEq, Int.reduceNeg, Int.reduceAdd, gd_tt, gd_tf, gd_ft, gd_ff, unG_pure, lift_some, bnd_lift, Option.map_some, Option.bind_some, fieldPtr_ref, fieldPtr_ip, nil_ref, nil_ip, nil_fn, ex_tup, fl_agg, List.getElem?_cons_zero, List.getElem?_cons_succ, Nat.zero_add, Nat.add_zero, Nat.reduceAdd, pk_t, pk_f, lss_int, leq_int, gtr_int, geq_int, eql_int, neq_int, not_bool, beq_self_eq_true, if_true, Bool.false_eq_true, if_false, List.nil_append, List.cons_append, List.append_nil, alc_eq, mkm_eq, nNew, nPut, bNew, bPut, nGrd, bGrd, h1, e1, prT, prA]
    | succ k ih =>
      intro j hj acc Hi ha hb s
      have h1 : (j : Int) < ops.length := by omega
      have h6 : (j : Int) + 1 = ((j + 1 : Nat) : Int) := by omega
      have h7 := wrap_i64 (a := ((j + 1 : Nat) : Int)) (by omega) (by omega)
      have s1 := (sx s).ix (k := .i64) (i := (j : Int)) (by omega) h1
      rw [Int.toNat_natCast] at s1
      obtain ⟨o, ho⟩ : ∃ o, ops[j]? = some o := ⟨_, List.getElem?_eq_getElem (by omega)⟩
      have t1 := lda_elem av_len_opn (sx s) ho
      have hdr : ops.drop j = o :: ops.drop (j + 1) := by
        rw [List.drop_eq_getElem_cons (by omega)]
        congr 1
        rw [List.getElem?_eq_getElem (by omega)] at ho
        exact Option.some.inj ho
      have hin : (fun o : Opn => In64 o.addr ∧ In64 o.value) o := hi o (List.mem_of_getElem? ho)
      have hll := opIn_len hin
      have sb : Hi.base = H.next := s.base
      have sn : H.next ≤ Hi.next := s.next
      have hbn : Hi.base ≤ Hi.next := by omega
      let H1 := Hi.new (.blk 0 31 o.av)
      have st1 : Step H.next Hi H1 := Step.new _ sn
      have l1 : cl _ [.agg o.av] H1 = _ := (line_sp _ hin.1 hin.2)
      have p1 := parseOps_sp H1 (l := lineTx o) (by omega)
      have b0 : bi .neq 25 (I 0) (I 0) = some (B false) := by kernel_rfl
      have b2 : bi .neq 25 (I 2) (I 0) = some (B true) := by kernel_rfl
      rw [hdr]
      cases hp : parseTx opTx (lineTx o) with
      | none =>
        rw [hp] at p1
        simp only [readA] at p1
        have e0 : prT opTx lineTx (o :: ops.drop (j + 1)) = none := by rw [prT, hp, if_neg (by simp)]
        rw [e0, le_32x0]
        simp only [Opn.av, H1] at t1 l1 p1
        simp -implicitDefEqProofs only [Nat.reduceLT, bnd_some, bo_some, condK_true, condK_false, gdA_undef, decide_true, decide_false, Int.reduceLE, Int.reduceLT, Int.reduceEq, Int.reduceNeg, Int.reduceAdd, gd_tt, gd_tf, gd_ft, gd_ff, unG_pure, lift_some, bnd_lift, Option.map_some, Option.bind_some, fieldPtr_ref, fieldPtr_ip, nil_ref, nil_ip, nil_fn, ex_tup, fl_agg, List.getElem?_cons_zero, List.getElem?_cons_succ, Nat.zero_add, Nat.add_zero, Nat.reduceAdd, pk_t, pk_f, lss_int, leq_int, gtr_int, geq_int, eql_int, neq_int, not_bool, beq_self_eq_true, if_true, Bool.false_eq_true, if_false, List.nil_append, List.cons_append, List.append_nil, alc_eq, mkm_eq, nNew, nPut, bNew, bPut, nGrd, bGrd, ldN_is, ldN_lt, ldaN_is, ldaN_lt, stN_is, stN_lt, Nat.lt_add_one, ne_eq, nx1, nx2, nx3, ny1, ny2, ny3, not_false_eq_true, List.length_cons, List.length_nil, Nat.reduceLeDiff, setAt, List.take_succ_cons, List.take_zero, List.drop_succ_cons, List.drop_zero, cells_dat, cells_int, cells_bool, cells_agg, List.all_cons, List.all_nil, isCell_int, isCell_bool, isCell_dat, isCell_ref, isCell_nil, isCell_vsl, cells_vsl, av_len_cfg, av_len_pkt, av_len_opn, av_len_evn, av_len_ent, av_len_row, av_len_deal, av_len_pck, tk_cfg, tk_pkt, tk_opn, tk_evn, tk_ent, tk_row, tk_deal, tk_pck, all_cfg, all_pkt, all_opn, all_evn, all_ent, all_row, all_deal, all_pck, List.drop_nil, Bool.and_true, Bool.and_self, and_self, Nat.le_refl, true_and, and_true, Nat.le_add_right, leS, ltS, h1, s1, t1, hbn, put_new, l1, p1, b2, T_str, Option.map_none, prA]
        try rfl
      | some back =>
        rw [hp] at p1
        simp only [readA] at p1
        let H2 := H1.new (.blk 0 31 o.av)
        have eb : bs 24 1 [(0, .agg o.av)] H1 = some (.sl H1.next 0 0 3 1 1 true, H2) := (bs_24 (n := 1) (by decide)).trans (bsl_one (e := 31) (m := 3) (v := .agg o.av) (H := H1) rfl rfl (all_opn o))
        have hlen := parseTx_len opTx hp
        have eq1 := equalOps H2 (l := back) (m := [o]) (by omega) (by simp) (vsl_is av_len_opn H2 back) (by
          have := sl_new (e := 31) (m := 3) (n := 1) (l := o.av) (H := H1) (ex := true) rfl
          simpa using this)
        by_cases hbk : back = [o]
        · have e0 : prT opTx lineTx (o :: ops.drop (j + 1)) = (prT opTx lineTx (ops.drop (j + 1))).map fun t => lineTx o ++ (10 :: t) := by rw [prT, hp, if_pos (by rw [hbk])]
          have d1 : decide (back = [o]) = true := decide_eq_true hbk
          have st2 : Step H.next Hi H2 := st1.trans (Step.new _ (by simp only [H1]; rw [nNew]; omega))
          have a1 := add_T (P := Tryd.prog) (t := 9) (a := lineTx o) (b := [10]) (by simp; omega)
          have B2 : BldIs H.next H2 H.next acc := hb.ext st2.next fun y hy hlt => by
            simp only [H2, H1]
            rw [getNew_lt (by rw [nNew]; omega), getNew_lt hlt]
          obtain ⟨H3, w1, w2, w3⟩ := write_sp (s := lineTx o ++ [10]) (by have := st2.next; omega) (by rw [st2.base]; omega) B2 (by simp) (by simp; omega)
          have r1 := ih (j + 1) (by omega) (acc ++ (lineTx o ++ [10])) H3 (by simp; omega) w2 ((s.trans st2).trans w3)
          rw [e0, le_32x0]
          have fin : (prT opTx lineTx (ops.drop (j + 1))).map ((acc ++ (lineTx o ++ [10])) ++ ·) = ((prT opTx lineTx (ops.drop (j + 1))).map fun t => lineTx o ++ (10 :: t)).map (acc ++ ·) := by
            cases prT opTx lineTx (ops.drop (j + 1)) with
            | none => rfl
            | some t => simp [List.append_assoc]
          rw [fin] at r1
          rw [d1] at eq1
          simp only [Opn.av, H1, H2, nNew] at t1 l1 p1 eb eq1 w1
          simp -implicitDefEqProofs only [Nat.reduceLT, bnd_some, bo_some, condK_true, condK_false, gdA_undef, decide_true, decide_false, Int.reduceLE, Int.reduceLT, Int.reduceEq, Int.reduceNeg, Int.reduceAdd, gd_tt, gd_tf, gd_ft, gd_ff, unG_pure, lift_some, bnd_lift, Option.map_some, Option.bind_some, fieldPtr_ref, fieldPtr_ip, nil_ref, nil_ip, nil_fn, ex_tup, fl_agg, List.getElem?_cons_zero, List.getElem?_cons_succ, Nat.zero_add, Nat.add_zero, Nat.reduceAdd, pk_t, pk_f, lss_int, leq_int, gtr_int, geq_int, eql_int, neq_int, not_bool, beq_self_eq_true, if_true, Bool.false_eq_true, if_false, List.nil_append, List.cons_append, List.append_nil, alc_eq, mkm_eq, nNew, nPut, bNew, bPut, nGrd, bGrd, ldN_is, ldN_lt, ldaN_is, ldaN_lt, stN_is, stN_lt, Nat.lt_add_one, ne_eq, nx1, nx2, nx3, ny1, ny2, ny3, not_false_eq_true, List.length_cons, List.length_nil, Nat.reduceLeDiff, setAt, List.take_succ_cons, List.take_zero, List.drop_succ_cons, List.drop_zero, cells_dat, cells_int, cells_bool, cells_agg, List.all_cons, List.all_nil, isCell_int, isCell_bool, isCell_dat, isCell_ref, isCell_nil, isCell_vsl, cells_vsl, av_len_cfg, av_len_pkt, av_len_opn, av_len_evn, av_len_ent, av_len_row, av_len_deal, av_len_pck, tk_cfg, tk_pkt, tk_opn, tk_evn, tk_ent, tk_row, tk_deal, tk_pck, all_cfg, all_pkt, all_opn, all_evn, all_ent, all_row, all_deal, all_pck, List.drop_nil, Bool.and_true, Bool.and_self, and_self, Nat.le_refl, true_and, and_true, Nat.le_add_right, leS, ltS, h1, s1, t1, hbn, put_new, l1, p1, b0, eb, eq1, Bool.not_true, T_str, a1, w1, add_int, h6, h7]
          exact r1
        · have e0 : prT opTx lineTx (o :: ops.drop (j + 1)) = none := by rw [prT, hp, if_neg (by simp [hbk])]
          have d1 : decide (back = [o]) = false := decide_eq_false hbk
          rw [d1] at eq1
          rw [e0, le_32x0]
          simp only [Opn.av, H1, H2, nNew] at t1 l1 p1 eb eq1
          simp -implicitDefEqProofs only [Nat.reduceLT, bnd_some, bo_some, condK_true, condK_false, gdA_undef, decide_true, decide_false, Int.reduceLE, Int.reduceLT, Int.reduceEq, Int.reduceNeg, Int.reduceAdd, gd_tt, gd_tf, gd_ft, gd_ff, unG_pure, lift_some, bnd_lift, Option.map_some, Option.bind_some, fieldPtr_ref, fieldPtr_ip, nil_ref, nil_ip, nil_fn, ex_tup, fl_agg, List.getElem?_cons_zero, List.getElem?_cons_succ, Nat.zero_add, Nat.add_zero, Nat.reduceAdd, pk_t, pk_f, lss_int, leq_int, gtr_int, geq_int, eql_int, neq_int, not_bool, beq_self_eq_true, if_true, Bool.false_eq_true, if_false, List.nil_append, List.cons_append, List.append_nil, alc_eq, mkm_eq, nNew, nPut, bNew, bPut, nGrd, bGrd, ldN_is, ldN_lt, ldaN_is, ldaN_lt, stN_is, stN_lt, Nat.lt_add_one, ne_eq, nx1, nx2, nx3, ny1, ny2, ny3, not_false_eq_true, List.length_cons, List.length_nil, Nat.reduceLeDiff, setAt, List.take_succ_cons, List.take_zero, List.drop_succ_cons, List.drop_zero, cells_dat, cells_int, cells_bool, cells_agg, List.all_cons, List.all_nil, isCell_int, isCell_bool, isCell_dat, isCell_ref, isCell_nil, isCell_vsl, cells_vsl, av_len_cfg, av_len_pkt, av_len_opn, av_len_evn, av_len_ent, av_len_row, av_len_deal, av_len_pck, tk_cfg, tk_pkt, tk_opn, tk_evn, tk_ent, tk_row, tk_deal, tk_pck, all_cfg, all_pkt, all_opn, all_evn, all_ent, all_row, all_deal, all_pck, List.drop_nil, Bool.and_true, Bool.and_self, and_self, Nat.le_refl, true_and, and_true, Nat.le_add_right, leS, ltS, h1, s1, t1, hbn, put_new, l1, p1, b0, eb, eq1, Bool.not_false, T_str, Option.map_none, prA]
          try rfl
  have r1 := key ops.length 0 (by omega) [] H0 (by simp) ⟨Nat.le_refl _, by simp only [H0]; rw [nNew, nGrd]; omega, zP, zN, by simp only [H0]; exact getNew_is (by rw [nGrd]), .inl rfl, .inl ⟨rfl, rfl⟩⟩ s0
  rw [List.drop_zero] at r1
  have hid : (prT opTx lineTx ops).map ([] ++ ·) = prT opTx lineTx ops := by cases prT opTx lineTx ops <;> rfl
  rw [hid] at r1
  have hln := (sx s0).lnS
  simp only [H0] at hln r1
  simp -implicitDefEqProofs only [Nat.reduceLT, bnd_some, bo_some, condK_true, condK_false, gdA_undef, decide_true, decide_false, Int.reduceLE, Int.reduceLT, Int.reduceEq, Int.reduceNeg, Int.reduceAdd, gd_tt, gd_tf, gd_ft, gd_ff, unG_pure, lift_some, bnd_lift, Option.map_some, Option.bind_some, fieldPtr_ref, fieldPtr_ip, nil_ref, nil_ip, nil_fn, ex_tup, fl_agg, List.getElem?_cons_zero, List.getElem?_cons_succ, Nat.zero_add, Nat.add_zero, Nat.reduceAdd, pk_t, pk_f, lss_int, leq_int, gtr_int, geq_int, eql_int, neq_int, not_bool, beq_self_eq_true, if_true, Bool.false_eq_true, if_false, List.nil_append, List.cons_append, List.append_nil, alc_eq, mkm_eq, nNew, nPut, bNew, bPut, nGrd, bGrd, sh_32, hln]
  exact r1

end Go.Proofs.YtjmldnpdfnklcaaDoor

namespace Go.Proofs.YtjmldnpdfnklcaaDoor



end Go.Proofs.YtjmldnpdfnklcaaDoor

namespace Go.Proofs.YtjmldnpdfnklcaaDoor



end Go.Proofs.YtjmldnpdfnklcaaDoor

namespace Go.Proofs.YtjmldnpdfnklcaaDoor

theorem in64_0 : In64 0 := ⟨by decide, by decide⟩
theorem withinM_in {v n : Int} (h : In64 n) : In64 (withinM v n) := by
  by_cases h1 : n < 1
  · have : withinM v n = 0 := by unfold withinM; rw [if_pos h1]
    rw [this]; exact in64_0
  · have := withinM_rng (v := v) (n := n) (by omega)
    have h2 := h.2
    exact ⟨by omega, by omega⟩

end Go.Proofs.YtjmldnpdfnklcaaDoor

namespace Go.Proofs.YtjmldnpdfnklcaaDoor

theorem atM_in {l : List Int} (h : ∀ z ∈ l, In64 z) (i : Int) : In64 (atM l i) := by
  unfold atM
  split
  · rw [List.getD_eq_getElem?_getD]
    cases e : l[i.toNat]? with
    | none => exact in64_0
    | some z => exact h z (List.mem_of_getElem? e)
  · exact in64_0
theorem opsAny_in {zk za zv : List Int} (ha : ∀ z ∈ za, In64 z) (hv : ∀ z ∈ zv, In64 z) : ∀ o ∈ opsAny zk za zv, In64 o.addr ∧ In64 o.value := by
  intro o ho
  unfold opsAny at ho
  obtain ⟨i, _, rfl⟩ := List.mem_map.1 ho
  have a := atM_in ha (i : Int)
  have v := atM_in hv (i : Int)
  have w : In64 (withinM (atM za i) 12) := withinM_in ⟨by decide, by decide⟩
  have u : In64 (if 1 + withinM (zk.getD i 0) 4 = 2 ∨ 1 + withinM (zk.getD i 0) 4 = 3 then atM zv i else 0) := by
    split
    · exact v
    · exact in64_0
  unfold opAny
  simp only
  split
  · exact ⟨w, u⟩
  · split
    · exact ⟨a, u⟩
    · split
      · exact ⟨w, v⟩
      · exact ⟨w, u⟩
theorem opsAny_len (zk za zv : List Int) : (opsAny zk za zv).length ≤ 30 := by
  unfold opsAny
  rw [List.length_map, List.length_range]; omega
theorem mag_bound : ∀ (d : Str) (k : Int), 0 ≤ k → (d.all isDig = true) → 0 ≤ d.foldl (fun n b => 10 * n + ((b.toNat : Int) - 48)) k ∧ d.foldl (fun n b => 10 * n + ((b.toNat : Int) - 48)) k < (k + 1) * 10 ^ d.length
  | [], k, h, _ => by simp; omega
  | b :: d, k, h, hd => by
    simp only [List.all_cons, Bool.and_eq_true] at hd
    have hb := hd.1
    simp only [isDig, Bool.and_eq_true, decide_eq_true_eq] at hb
    have ih := mag_bound d (10 * k + ((b.toNat : Int) - 48)) (by omega) hd.2
    rw [List.foldl_cons]
    refine ⟨ih.1, Int.lt_of_lt_of_le ih.2 ?_⟩
    rw [List.length_cons, Int.pow_succ, Int.mul_comm (10 ^ d.length) 10, ← Int.mul_assoc]
    apply Int.mul_le_mul_of_nonneg_right
    · omega
    · exact Int.pow_nonneg (by decide)
theorem num_near {s : Str} {n : Int} (h : numTx s = some n) : near n := by
  unfold numTx at h
  split at h
  · cases h
  · rename_i hh
    simp only [not_or] at hh
    obtain ⟨_, h9, hd, _⟩ := hh
    have hd : (magTx s).all isDig = true := by simpa using hd
    have hb := mag_bound (magTx s) 0 (by decide) hd
    have hp : (10 : Int) ^ (magTx s).length ≤ 10 ^ 9 := by
      have : (10 : Nat) ^ (magTx s).length ≤ 10 ^ 9 := Nat.pow_le_pow_right (by decide) (by omega)
      exact_mod_cast this
    have hm : numMagTx (magTx s) = (magTx s).foldl (fun n b => 10 * n + ((b.toNat : Int) - 48)) 0 := rfl
    have e9 : (10 : Int) ^ 9 = 1000000000 := by decide
    simp only [Option.some.injEq] at h
    unfold near
    split at h <;> subst h <;> rw [hm] <;> constructor <;> omega
theorem opTx_ok {ws : List Str} {o : Opn} (h : opTx ws = some o) : okOp o = true := by
  unfold opTx at h
  split at h
  · split at h
    · rename_i hk
      split at h
      · rename_i n hn
        split at h
        · rename_i h0
          simp only [Option.some.injEq] at h
          subst h
          simp only [okOp, Bool.and_eq_true, Bool.or_eq_true, decide_eq_true_eq]
          have z : near 0 := ⟨by decide, by decide⟩
          exact ⟨⟨⟨⟨⟨by omega, by omega⟩, h0⟩, num_near hn⟩, z⟩, .inr (by first | rfl | trivial)⟩
        · cases h
      · cases h
    · cases h
  · split at h
    · rename_i hk
      split at h
      · rename_i n m hn hm
        split at h
        · rename_i h0
          simp only [Option.some.injEq] at h
          subst h
          simp only [okOp, Bool.and_eq_true, Bool.or_eq_true, decide_eq_true_eq]
          exact ⟨⟨⟨⟨⟨by omega, by omega⟩, h0⟩, num_near hn⟩, num_near hm⟩, .inl hk⟩
        · cases h
      · cases h
    · cases h
  · cases h
theorem parseL_all {α : Type} {f : List Str → Option α} {Q : α → Prop} (hf : ∀ ws o, f ws = some o → Q o) : ∀ (ls : List Str) (r : List α), parseL f ls = some r → ∀ o ∈ r, Q o
  | [], r, h, o, ho => by
    simp only [parseL, Option.some.injEq] at h
    subst h; cases ho
  | l :: ls, r, h, o, ho => by
    simp only [parseL] at h
    split at h
    · exact parseL_all hf ls r h o ho
    · split at h
      · cases h
      · rename_i q hq
        cases hr : parseL f ls with
        | none => rw [hr] at h; cases h
        | some r' =>
          rw [hr] at h
          simp only [Option.map_some, Option.some.injEq] at h
          subst h
          rcases List.mem_cons.1 ho with rfl | ho
          · exact hf _ _ hq
          · exact parseL_all hf ls r' hr o ho
theorem print_ok : ∀ os : List Opn, (∀ o ∈ os, okOp o = true) → ∃ t, printTx os = some t
  | [], _ => ⟨[], rfl⟩
  | o :: os, h => by
    obtain ⟨t, ht⟩ := print_ok os fun o ho => h o (by simp [ho])
    exact ⟨_, by rw [printTx, if_pos (h o (by simp)), ht]; rfl⟩
theorem prT_len {α : Type} [DecidableEq α] {K : List Str → Option α} {LN : α → Str} {n : Nat} : ∀ (os : List α) (t : Str), (∀ o ∈ os, (LN o).length ≤ n) → prT K LN os = some t → t.length ≤ (n + 1) * os.length
  | [], t, _, h => by
    simp only [prT, Option.some.injEq] at h
    subst h; simp
  | o :: os, t, hl, h => by
    simp only [prT] at h
    split at h
    · cases hr : prT K LN os with
      | none => rw [hr] at h; cases h
      | some u =>
        rw [hr] at h
        simp only [Option.map_some, Option.some.injEq] at h
        subst h
        have := prT_len os u (fun o ho => hl o (by simp [ho])) hr
        have h1 := hl o (by simp)
        simp only [List.length_append, List.length_cons, Nat.mul_add, Nat.mul_one]
        omega
    · cases h
/-- Blanks ahead of a text do not count. -/
theorem parse_blank {α : Type} (f : List Str → Option α) (l : Str) : parseTx f (32 :: l) = parseTx f l := by
  have hw : ∀ w : Str, wordsTx (32 :: w) = wordsTx w := fun w => by
    simp [wordsTx, splitC]
  unfold parseTx
  rw [splitC]
  rw [if_neg (by decide)]
  cases h : splitC 10 l with
  | nil => exact absurd h (splitC_ne 10 l)
  | cons w ws => simp only [parseL, hw]
theorem parse_around {α : Type} (f : List Str → Option α) (t : Str) : parseTx f ([10, 32, 32] ++ t ++ [10, 10]) = parseTx f t := by
  have e : [10, 32, 32] ++ t ++ [10, 10] = [] ++ 10 :: ((32 :: 32 :: t) ++ 10 :: ([] ++ 10 :: [])) := by simp
  rw [e, parse_append, parse_append, parse_append, parse_blank, parse_blank]
  have e0 : parseTx f [] = some [] := rfl
  rw [e0]
  cases parseTx f t with
  | none => rfl
  | some r => simp
theorem back_run {xk xa xv xp : AV} {zk za zv zp : List Int} (hk : SliceIs AHeap.empty xk 1 zk.length (zk.map I)) (wk : ∀ z ∈ zk, In64 z) (ha : SliceIs AHeap.empty xa 1 za.length (za.map I)) (wa : ∀ z ∈ za, In64 z) (hv : SliceIs AHeap.empty xv 1 zv.length (zv.map I)) (wv : ∀ z ∈ zv, In64 z) (s : Str) (hp : SliceIs AHeap.empty xp 1 zp.length (zp.map I)) :
    ∃ H', cl 10 [xk, xa, xv, T s, xp] AHeap.empty = some (B true, H') := by
  have e1 := opsAny_sp AHeap.empty hk ha hv wk
  have hl := opsAny_len zk za zv
  have hin := opsAny_in (zk := zk) wa wv
  have e2 := print_sp AHeap.empty (vsl_is av_len_opn AHeap.empty (opsAny zk za zv)) (by omega) hin
  have wk := wakes17 AHeap.empty
  have q0 : bi .eql 25 (I 0) (I 0) = some (B true) := by kernel_rfl
  have q1 : bi .eql 25 (I 1) (I 0) = some (B false) := by kernel_rfl
  have q2 : bi .neq 25 (I 0) (I 0) = some (B false) := by kernel_rfl
  have q3 : bi .neq 25 (I 2) (I 0) = some (B true) := by kernel_rfl
  -- the second part
  have jn : jn_10x0 cl (T s) xp AHeap.empty = some (B true, AHeap.empty) := by
    obtain ⟨t, t1, t2⟩ := text_sp AHeap.empty s hp false
    have p1 := parseOps_sp AHeap.empty (l := t) (by omega)
    cases hr : parseTx opTx t with
    | none =>
      rw [hr] at p1
      simp only [readA] at p1
      have l0 : lnS zN AHeap.empty = some (I 0, AHeap.empty) := rfl
      simp -implicitDefEqProofs only [Nat.reduceLT, bnd_some, bo_some, condK_true, condK_false, gdA_undef, decide_true, decide_false, Int.reduceLE, Int.reduceLT, Int.reduceEq, Int.reduceNeg, Int.reduceAdd, gd_tt, gd_tf, gd_ft, gd_ff, unG_pure, lift_some, bnd_lift, Option.map_some, Option.bind_some, fieldPtr_ref, fieldPtr_ip, nil_ref, nil_ip, nil_fn, ex_tup, fl_agg, List.getElem?_cons_zero, List.getElem?_cons_succ, Nat.zero_add, Nat.add_zero, Nat.reduceAdd, pk_t, pk_f, lss_int, leq_int, gtr_int, geq_int, eql_int, neq_int, not_bool, beq_self_eq_true, if_true, Bool.false_eq_true, if_false, List.nil_append, List.cons_append, List.append_nil, alc_eq, mkm_eq, nNew, nPut, bNew, bPut, nGrd, bGrd, jn_10x0, t2, p1, q3, l0, eq_self, wk]
    | some r =>
      rw [hr] at p1
      simp only [readA] at p1
      have hrl := parseTx_len opTx hr
      have hok : ∀ o ∈ r, okOp o = true := parseL_all (f := opTx) (fun ws o h => opTx_ok h) _ r hr
      have hri : ∀ o ∈ r, In64 o.addr ∧ In64 o.value := fun o ho => by
        have := hok o ho
        simp only [okOp, Bool.and_eq_true, Bool.or_eq_true, decide_eq_true_eq] at this
        obtain ⟨⟨⟨⟨_, _⟩, h1⟩, h2⟩, _⟩ := this
        exact ⟨⟨by have := h1.1; omega, by have := h1.2; omega⟩, ⟨by have := h2.1; omega, by have := h2.2; omega⟩⟩
      obtain ⟨u, hu⟩ := print_ok r hok
      have e2 := print_sp AHeap.empty (vsl_is av_len_opn AHeap.empty r) (by omega) hri
      rw [prT_ops, hu] at e2
      simp only [prA] at e2
      have hul := prT_len (K := opTx) (LN := lineTx) (n := 80) r u (fun o ho => opIn_len (hri o ho)) (by rw [prT_ops, hu])
      have p2 := parseOps_sp AHeap.empty (l := u) (by omega)
      rw [print_back r u hu] at p2
      simp only [readA] at p2
      have so := sameOps AHeap.empty (l := r) (by omega) (vsl_is av_len_opn AHeap.empty r) (vsl_is av_len_opn AHeap.empty r)
      simp -implicitDefEqProofs only [Nat.reduceLT, bnd_some, bo_some, condK_true, condK_false, gdA_undef, decide_true, decide_false, Int.reduceLE, Int.reduceLT, Int.reduceEq, Int.reduceNeg, Int.reduceAdd, gd_tt, gd_tf, gd_ft, gd_ff, unG_pure, lift_some, bnd_lift, Option.map_some, Option.bind_some, fieldPtr_ref, fieldPtr_ip, nil_ref, nil_ip, nil_fn, ex_tup, fl_agg, List.getElem?_cons_zero, List.getElem?_cons_succ, Nat.zero_add, Nat.add_zero, Nat.reduceAdd, pk_t, pk_f, lss_int, leq_int, gtr_int, geq_int, eql_int, neq_int, not_bool, beq_self_eq_true, if_true, Bool.false_eq_true, if_false, List.nil_append, List.cons_append, List.append_nil, alc_eq, mkm_eq, nNew, nPut, bNew, bPut, nGrd, bGrd, jn_10x0, t2, p1, q2, e2, p2, q0, so, wk]
  refine ⟨AHeap.empty, run_cl rfl rfl (rn_10 _ _ _ _ _ _ _ ?_)⟩
  rw [prT_ops] at e2
  cases hp : printTx (opsAny zk za zv) with
  | none =>
    rw [hp] at e2
    simp only [prA] at e2
    simp -implicitDefEqProofs only [Nat.reduceLT, bnd_some, bo_some, condK_true, condK_false, gdA_undef, decide_true, decide_false, Int.reduceLE, Int.reduceLT, Int.reduceEq, Int.reduceNeg, Int.reduceAdd, gd_tt, gd_tf, gd_ft, gd_ff, unG_pure, lift_some, bnd_lift, Option.map_some, Option.bind_some, fieldPtr_ref, fieldPtr_ip, nil_ref, nil_ip, nil_fn, ex_tup, fl_agg, List.getElem?_cons_zero, List.getElem?_cons_succ, Nat.zero_add, Nat.add_zero, Nat.reduceAdd, pk_t, pk_f, lss_int, leq_int, gtr_int, geq_int, eql_int, neq_int, not_bool, beq_self_eq_true, if_true, Bool.false_eq_true, if_false, List.nil_append, List.cons_append, List.append_nil, alc_eq, mkm_eq, nNew, nPut, bNew, bPut, nGrd, bGrd, sh_10, e1, e2, q1, jn]
  | some t =>
    rw [hp] at e2
    simp only [prA] at e2
    have htl := prT_len (K := opTx) (LN := lineTx) (n := 80) _ t (fun o ho => opIn_len (hin o ho)) (by rw [prT_ops, hp])
    have p2 := parseOps_sp AHeap.empty (l := t) (by omega)
    rw [print_back _ t hp] at p2
    have a1 := add_T (P := Tryd.prog) (t := 9) (a := [10, 32, 32]) (b := t) (by simp; omega)
    have a2 := add_T (P := Tryd.prog) (t := 9) (a := [10, 32, 32] ++ t) (b := [10, 10]) (by simp; omega)
    have p3 := parseOps_sp AHeap.empty (l := [10, 32, 32] ++ t ++ [10, 10]) (by simp; omega)
    rw [parse_around, print_back _ t hp] at p3
    simp only [readA] at p2 p3
    have so := sameOps AHeap.empty (l := opsAny zk za zv) (by omega) (vsl_is av_len_opn AHeap.empty _) (vsl_is av_len_opn AHeap.empty _)
    simp only [List.cons_append, List.nil_append] at a1 a2 p3
    simp -implicitDefEqProofs only [Nat.reduceLT, bnd_some, bo_some, condK_true, condK_false, gdA_undef, decide_true, decide_false, Int.reduceLE, Int.reduceLT, Int.reduceEq, Int.reduceNeg, Int.reduceAdd, gd_tt, gd_tf, gd_ft, gd_ff, unG_pure, lift_some, bnd_lift, Option.map_some, Option.bind_some, fieldPtr_ref, fieldPtr_ip, nil_ref, nil_ip, nil_fn, ex_tup, fl_agg, List.getElem?_cons_zero, List.getElem?_cons_succ, Nat.zero_add, Nat.add_zero, Nat.reduceAdd, pk_t, pk_f, lss_int, leq_int, gtr_int, geq_int, eql_int, neq_int, not_bool, beq_self_eq_true, if_true, Bool.false_eq_true, if_false, List.nil_append, List.cons_append, List.append_nil, alc_eq, mkm_eq, nNew, nPut, bNew, bPut, nGrd, bGrd, sh_10, e1, e2, q0, p2, T_str, a1, a2, p3, q2, so, Bool.not_true, jn]

end Go.Proofs.YtjmldnpdfnklcaaDoor

