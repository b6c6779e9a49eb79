/-
  Own work: an interpreter over named blocks, its soundness, and what the functions of this seat compute (part 7 of 8).
  Conditions: those of the statement alone.
-/
import Derived.Test.YtjmldnpdfnklcaaDoorXf
set_option linter.all false
set_option linter.unusedSectionVars false
set_option linter.unusedVariables false
set_option linter.unusedSimpArgs false
namespace Go.Proofs.YtjmldnpdfnklcaaDoor

theorem picks_sp (H : AHeap) {x : AV} {cs : List Cho} (hx : ∀ H, SliceIs H x 4 cs.length (cs.flatMap Cho.av)) {nodes under : Int} (hn : nodes ≤ 9223372036854775807) (hu : under ≤ 9223372036854775807) :
    cl 30 [x, I nodes, I under] H = some (vsl 4 Pck.av ((cs.take 60).map fun c => pickM c nodes under), H) := by
  let ps : Nat → List Pck := fun j => (cs.take j).map fun c => pickM c nodes under
  have key : ∀ k j, j + k = min cs.length 60 → ∀ (Hi : AHeap) (o : AV), Own H.next Hi o 4 ((ps j).flatMap Pck.av) → Step H.next H.guard Hi →
      ∃ y Hz, lp_30x0 cl [x, I nodes, I under, o, I j] Hi = some (y, Hz) ∧ Own H.next Hz y 4 ((ps (min cs.length 60)).flatMap Pck.av) ∧ (ps (min cs.length 60) = [] → y = o) := by
    intro k
    induction k with
    | zero =>
      intro j hj Hi o O s
      have hje : min cs.length 60 = j := by omega
      refine ⟨o, Hi, ?_, by rw [hje]; exact O, fun _ => rfl⟩
      have ew := (hx Hi).lnS
      rw [le_30x0]
      by_cases h1 : (j : Int) < cs.length
      · have h2 : ¬ (j : Int) < 60 := by omega
        simp -implicitDefEqProofs only [Nat.reduceLT, bnd_some, bo_some, condK_true, condK_false, gdA_undef, decide_true, decide_false, Int.reduceLE, Int.reduceLT, Int.reduceEq, Int.reduceNeg, Int.reduceAdd, gd_tt, gd_tf, gd_ft, gd_ff, unG_pure, lift_some, bnd_lift, Option.map_some, Option.bind_some, fieldPtr_ref, fieldPtr_ip, nil_ref, nil_ip, nil_fn, ex_tup, fl_agg, List.getElem?_cons_zero, List.getElem?_cons_succ, Nat.zero_add, Nat.add_zero, Nat.reduceAdd, pk_t, pk_f, lss_int, leq_int, gtr_int, geq_int, eql_int, neq_int, not_bool, beq_self_eq_true, if_true, Bool.false_eq_true, if_false, List.nil_append, List.cons_append, List.append_nil, alc_eq, mkm_eq, nNew, nPut, bNew, bPut, nGrd, bGrd, ew, h1, h2]
      · simp -implicitDefEqProofs only [Nat.reduceLT, bnd_some, bo_some, condK_true, condK_false, gdA_undef, decide_true, decide_false, Int.reduceLE, Int.reduceLT, Int.reduceEq, Int.reduceNeg, Int.reduceAdd, gd_tt, gd_tf, gd_ft, gd_ff, unG_pure, lift_some, bnd_lift, Option.map_some, Option.bind_some, fieldPtr_ref, fieldPtr_ip, nil_ref, nil_ip, nil_fn, ex_tup, fl_agg, List.getElem?_cons_zero, List.getElem?_cons_succ, Nat.zero_add, Nat.add_zero, Nat.reduceAdd, pk_t, pk_f, lss_int, leq_int, gtr_int, geq_int, eql_int, neq_int, not_bool, beq_self_eq_true, if_true, Bool.false_eq_true, if_false, List.nil_append, List.cons_append, List.append_nil, alc_eq, mkm_eq, nNew, nPut, bNew, bPut, nGrd, bGrd, ew, h1]
    | succ k ih =>
      intro j hj Hi o O s
      have h1 : (j : Int) < cs.length := by omega
      have h2 : (j : Int) < 60 := by omega
      have h6 : (j : Int) + 1 = ((j + 1 : Nat) : Int) := by omega
      have h7 := wrap_i64 (a := ((j + 1 : Nat) : Int)) (by omega) (by omega)
      have sb : Hi.base = H.next := s.base
      have sn : H.next ≤ Hi.next := s.next
      have ew := (hx Hi).lnS
      have i1 := (hx Hi).ix (k := .i64) (i := (j : Int)) (by omega) h1
      rw [Int.toNat_natCast] at i1
      obtain ⟨c, hc⟩ : ∃ c, cs[j]? = some c := ⟨_, List.getElem?_eq_getElem (by omega)⟩
      have t1 := lda_elem av_len_cho (hx Hi) hc
      have pk := pickM_sp Hi c hn hu
      have hs : ps (j + 1) = ps j ++ [pickM c nodes under] := by
        simp only [ps, List.take_add_one, hc]; simp
      let p := pickM c nodes under
      let o1 : AObj := .blk 0 52 p.av
      obtain ⟨o', H1, u1, u2, u3⟩ := (O.new o1).step (n := j) (k := 1) (e := 52) (by_ := 32) (y := .sl Hi.next 0 0 4 1 1 true) (new := p.av) (by simp only [nNew]; omega) (by simp only [bNew]; omega) (by decide) (by rw [flat_len av_len_pck]; simp [ps]; omega) (sl_new rfl) (all_pck p) (by unfold most; omega) (by unfold most; omega)
      have O' : Own H.next H1 o' 4 ((ps (j + 1)).flatMap Pck.av) := by
        rw [hs, List.flatMap_append, List.flatMap_cons, List.flatMap_nil, List.append_nil]; exact u2
      obtain ⟨y, Hz, r1, r2, r3⟩ := ih (j + 1) (by omega) H1 o' O' ((s.trans (Step.new o1 (by omega))).trans u3)
      refine ⟨y, Hz, ?_, r2, fun h => ?_⟩
      · have eb := bsl_one (e := 52) (m := 4) (z := [zB, zI, zI, .s (.int .u16 0)]) (v := .agg p.av) (H := Hi) rfl rfl (all_pck p)
        simp only [cells_agg] at eb
        rw [le_30x0]
        simp -implicitDefEqProofs only [Nat.reduceLT, bnd_some, bo_some, condK_true, condK_false, gdA_undef, decide_true, decide_false, Int.reduceLE, Int.reduceLT, Int.reduceEq, Int.reduceNeg, Int.reduceAdd, gd_tt, gd_tf, gd_ft, gd_ff, unG_pure, lift_some, bnd_lift, Option.map_some, Option.bind_some, fieldPtr_ref, fieldPtr_ip, nil_ref, nil_ip, nil_fn, ex_tup, fl_agg, List.getElem?_cons_zero, List.getElem?_cons_succ, Nat.zero_add, Nat.add_zero, Nat.reduceAdd, pk_t, pk_f, lss_int, leq_int, gtr_int, geq_int, eql_int, neq_int, not_bool, beq_self_eq_true, if_true, Bool.false_eq_true, if_false, List.nil_append, List.cons_append, List.append_nil, alc_eq, mkm_eq, nNew, nPut, bNew, bPut, nGrd, bGrd, ldN_is, ldN_lt, ldaN_is, ldaN_lt, stN_is, stN_lt, Nat.lt_add_one, ne_eq, nx1, nx2, nx3, ny1, ny2, ny3, not_false_eq_true, List.length_cons, List.length_nil, Nat.reduceLeDiff, setAt, List.take_succ_cons, List.take_zero, List.drop_succ_cons, List.drop_zero, cells_dat, cells_int, cells_bool, cells_agg, List.all_cons, List.all_nil, isCell_int, isCell_bool, isCell_dat, isCell_ref, isCell_nil, isCell_vsl, cells_vsl, av_len_cfg, av_len_pkt, av_len_opn, av_len_evn, av_len_ent, av_len_row, av_len_deal, av_len_pck, tk_cfg, tk_pkt, tk_opn, tk_evn, tk_ent, tk_row, tk_deal, tk_pck, all_cfg, all_pkt, all_opn, all_evn, all_ent, all_row, all_deal, all_pck, List.drop_nil, Bool.and_true, Bool.and_self, and_self, Nat.le_refl, true_and, and_true, Nat.le_add_right, leS, ltS, ew, h1, h2, i1, t1, pk, bs_46, Nat.one_mul, eb, u1, add_int, h6, h7, r1, p, o1]
      · exfalso
        have := congrArg List.length h
        simp only [ps, List.length_map, List.length_take, List.length_nil] at this
        omega
  obtain ⟨y, Hz, r1, r2, r3⟩ := key (min cs.length 60) 0 (by omega) H.guard zN (.inl ⟨rfl, by simp [ps]⟩) (Step.refl _ _)
  have hps : ps (min cs.length 60) = (cs.take 60).map fun c => pickM c nodes under := by
    simp only [ps]
    congr 1
    rcases Nat.le_total cs.length 60 with h | h
    · rw [Nat.min_eq_left h, List.take_of_length_le (Nat.le_refl _), List.take_of_length_le h]
    · rw [Nat.min_eq_right h]
  rw [hps] at r2 r3
  refine pure_cl rfl rfl (rn_30 _ _ _ _ _ (r := (y, Hz)) ?_) ?_
  · simp -implicitDefEqProofs only [Nat.reduceLT, bnd_some, bo_some, condK_true, condK_false, gdA_undef, decide_true, decide_false, Int.reduceLE, Int.reduceLT, Int.reduceEq, Int.reduceNeg, Int.reduceAdd, gd_tt, gd_tf, gd_ft, gd_ff, unG_pure, lift_some, bnd_lift, Option.map_some, Option.bind_some, fieldPtr_ref, fieldPtr_ip, nil_ref, nil_ip, nil_fn, ex_tup, fl_agg, List.getElem?_cons_zero, List.getElem?_cons_succ, Nat.zero_add, Nat.add_zero, Nat.reduceAdd, pk_t, pk_f, lss_int, leq_int, gtr_int, geq_int, eql_int, neq_int, not_bool, beq_self_eq_true, if_true, Bool.false_eq_true, if_false, List.nil_append, List.cons_append, List.append_nil, alc_eq, mkm_eq, nNew, nPut, bNew, bPut, nGrd, bGrd, sh_30]
    exact r1
  · by_cases h0 : ((cs.take 60).map fun c => pickM c nodes under) = []
    · rw [r3 h0, h0, vsl_nil]; exact freeze_s
    · rw [vsl_cons h0]
      exact freeze_own r2 (by decide) (flat_len av_len_pck _) (fun z hz => frz_list (frz_pck 7) _ z hz _ _) fun e => h0 (List.eq_nil_of_length_eq_zero e)
theorem texts_run (s : Str) {xa : AV} {za : List Int} (ha : SliceIs AHeap.empty xa 1 za.length (za.map I)) (raw : Bool) {xc : AV} {cs : List Cho} (hc : SliceIs AHeap.empty xc 4 cs.length (cs.flatMap Cho.av)) (wc : ∀ c ∈ cs, c.In) :
    ∃ H', cl 7 [T s, xa, B raw, xc] AHeap.empty = some (B true, H') := by
  obtain ⟨t, t1, t2⟩ := text_sp AHeap.empty s ha raw
  have p1 := parsePicks_sp AHeap.empty (l := t) (by omega)
  have p2 := rparsePicks_sp AHeap.empty (l := t) (by omega)
  have i4 : In64 4 := ⟨by decide, by decide⟩
  let ps : List Pck := (cs.take 60).map fun c => pickM c 4 4
  have e1 : cl 30 [xc, I 4, I 4] AHeap.empty = some (vsl 4 Pck.av ps, AHeap.empty) := picks_sp AHeap.empty (fun H => hc.of_get (Nat.zero_le _) fun r _ hr => absurd hr (Nat.not_lt_zero r)) i4.2 i4.2
  have hin : ∀ p ∈ ps, PckIn p := by
    intro p hp
    obtain ⟨c, hc, rfl⟩ := List.mem_map.1 hp
    exact pickM_in (wc c (List.mem_of_mem_take hc)) i4 i4
  have hl : ps.length ≤ 60 := by simp only [ps]; rw [List.length_map, List.length_take]; omega
  have e2 := printPicks_sp AHeap.empty (vsl_is av_len_pck AHeap.empty ps) (by omega) hin
  rw [prT_picks] at e2
  have e3 := rprintPicks_sp AHeap.empty (ps := ps) (by omega) hin
  have wk := wakes22 AHeap.empty
  have q0 : bi .eql 25 (I 0) (I 0) = some (B true) := by kernel_rfl
  have q1 : bi .eql 25 (I 1) (I 0) = some (B false) := by kernel_rfl
  have q2 : bi .eql 25 (I 1) (I 1) = some (B true) := by kernel_rfl
  have q3 : bi .eql 25 (I 2) (I 0) = some (B false) := by kernel_rfl
  have q4 : bi .eql 25 (I 2) (I 2) = some (B true) := by kernel_rfl
  refine ⟨AHeap.empty, run_cl rfl rfl (rn_7 _ _ _ _ _ _ ?_)⟩
  have so0 := samePicks AHeap.empty (l := []) (by decide) (SliceIs.nil (H := AHeap.empty) (m := 4)) SliceIs.nil
  cases hp : parseTx pickTx t with
  | none =>
    rw [hp] at p1 p2
    simp only [readA] at p1 p2
    cases hq : printPk ps with
    | none =>
      rw [hq] at e2 e3
      simp only [prA] at e2
      simp -implicitDefEqProofs only [Nat.reduceLT, bnd_some, bo_some, condK_true, condK_false, gdA_undef, decide_true, decide_false, Int.reduceLE, Int.reduceLT, Int.reduceEq, Int.reduceNeg, Int.reduceAdd, gd_tt, gd_tf, gd_ft, gd_ff, unG_pure, lift_some, bnd_lift, Option.map_some, Option.bind_some, fieldPtr_ref, fieldPtr_ip, nil_ref, nil_ip, nil_fn, ex_tup, fl_agg, List.getElem?_cons_zero, List.getElem?_cons_succ, Nat.zero_add, Nat.add_zero, Nat.reduceAdd, pk_t, pk_f, lss_int, leq_int, gtr_int, geq_int, eql_int, neq_int, not_bool, beq_self_eq_true, if_true, Bool.false_eq_true, if_false, List.nil_append, List.cons_append, List.append_nil, alc_eq, mkm_eq, nNew, nPut, bNew, bPut, nGrd, bGrd, sh_7, t2, p1, p2, e1, e2, e3, q1, q2, q3, q4, eql_bool, eq_self, so0, eql_T, wk, Option.isSome_none, Option.getD_none]
    | some u =>
      rw [hq] at e2 e3
      simp only [prA] at e2
      simp -implicitDefEqProofs only [Nat.reduceLT, bnd_some, bo_some, condK_true, condK_false, gdA_undef, decide_true, decide_false, Int.reduceLE, Int.reduceLT, Int.reduceEq, Int.reduceNeg, Int.reduceAdd, gd_tt, gd_tf, gd_ft, gd_ff, unG_pure, lift_some, bnd_lift, Option.map_some, Option.bind_some, fieldPtr_ref, fieldPtr_ip, nil_ref, nil_ip, nil_fn, ex_tup, fl_agg, List.getElem?_cons_zero, List.getElem?_cons_succ, Nat.zero_add, Nat.add_zero, Nat.reduceAdd, pk_t, pk_f, lss_int, leq_int, gtr_int, geq_int, eql_int, neq_int, not_bool, beq_self_eq_true, if_true, Bool.false_eq_true, if_false, List.nil_append, List.cons_append, List.append_nil, alc_eq, mkm_eq, nNew, nPut, bNew, bPut, nGrd, bGrd, sh_7, t2, p1, p2, e1, e2, e3, q0, q3, q4, eql_bool, eq_self, so0, eql_T, wk, Option.isSome_some, Option.getD_some]
  | some r =>
    rw [hp] at p1 p2
    simp only [readA] at p1 p2
    have so := samePicks AHeap.empty (by have := parseTx_len pickTx hp; omega) (vsl_is av_len_pck AHeap.empty r) (vsl_is av_len_pck AHeap.empty r)
    cases hq : printPk ps with
    | none =>
      rw [hq] at e2 e3
      simp only [prA] at e2
      simp -implicitDefEqProofs only [Nat.reduceLT, bnd_some, bo_some, condK_true, condK_false, gdA_undef, decide_true, decide_false, Int.reduceLE, Int.reduceLT, Int.reduceEq, Int.reduceNeg, Int.reduceAdd, gd_tt, gd_tf, gd_ft, gd_ff, unG_pure, lift_some, bnd_lift, Option.map_some, Option.bind_some, fieldPtr_ref, fieldPtr_ip, nil_ref, nil_ip, nil_fn, ex_tup, fl_agg, List.getElem?_cons_zero, List.getElem?_cons_succ, Nat.zero_add, Nat.add_zero, Nat.reduceAdd, pk_t, pk_f, lss_int, leq_int, gtr_int, geq_int, eql_int, neq_int, not_bool, beq_self_eq_true, if_true, Bool.false_eq_true, if_false, List.nil_append, List.cons_append, List.append_nil, alc_eq, mkm_eq, nNew, nPut, bNew, bPut, nGrd, bGrd, sh_7, t2, p1, p2, e1, e2, e3, q0, q1, q2, eql_bool, eq_self, so, eql_T, wk, Option.isSome_none, Option.getD_none]
    | some u =>
      rw [hq] at e2 e3
      simp only [prA] at e2
      simp -implicitDefEqProofs only [Nat.reduceLT, bnd_some, bo_some, condK_true, condK_false, gdA_undef, decide_true, decide_false, Int.reduceLE, Int.reduceLT, Int.reduceEq, Int.reduceNeg, Int.reduceAdd, gd_tt, gd_tf, gd_ft, gd_ff, unG_pure, lift_some, bnd_lift, Option.map_some, Option.bind_some, fieldPtr_ref, fieldPtr_ip, nil_ref, nil_ip, nil_fn, ex_tup, fl_agg, List.getElem?_cons_zero, List.getElem?_cons_succ, Nat.zero_add, Nat.add_zero, Nat.reduceAdd, pk_t, pk_f, lss_int, leq_int, gtr_int, geq_int, eql_int, neq_int, not_bool, beq_self_eq_true, if_true, Bool.false_eq_true, if_false, List.nil_append, List.cons_append, List.append_nil, alc_eq, mkm_eq, nNew, nPut, bNew, bPut, nGrd, bGrd, sh_7, t2, p1, p2, e1, e2, e3, q0, eql_bool, eq_self, so, eql_T, wk, Option.isSome_some, Option.getD_some]

end Go.Proofs.YtjmldnpdfnklcaaDoor

