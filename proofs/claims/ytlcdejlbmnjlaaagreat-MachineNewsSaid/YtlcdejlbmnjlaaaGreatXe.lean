/-
  Own work: an interpreter over named blocks, its soundness, and what the functions of this seat compute (part 5 of 8).
  Conditions: those of the statement alone.
-/
import Derived.Test.YtlcdejlbmnjlaaaGreatXd
set_option linter.all false
set_option linter.unusedSectionVars false
set_option linter.unusedVariables false
set_option linter.unusedSimpArgs false
namespace Go.Proofs.YtlcdejlbmnjlaaaGreat

section
variable {b : Nat} {H : AHeap} {g : Store} {q f : Nat} {P : Nat → Nat → Nat} {c : Cfg} {fab : Fab}
/-- An element of a slice of one's own: its place, and what is there. -/
theorem Cur.elemAt {i m n : Nat} {x : AV} {l : List AV} (cu : Cur b H q i x m l) (hm : 0 < m) (hl : l.length = n * m) {j : Nat} (hj : j < n) :
    ∃ r gg o, (∀ k : IntKind, ix m x (.s (.int k j)) H = some (.ref r gg o, H)) ∧ (∀ k, k < m → ld (.ref r gg (o + k)) H = (l[j * m + k]?).map fun v => (v, H)) ∧ lda m (.ref r gg o) H = some (.agg ((l.drop (j * m)).take m), H) := by
  have hs := cu.is hm hl
  have hjm : (j + 1) * m ≤ n * m := Nat.mul_le_mul_right _ (by omega)
  rw [Nat.add_mul, Nat.one_mul] at hjm
  rcases cu.length hm hl with ⟨_, h0⟩ | ⟨r, gg, off, cap, ex, ty, all, rfl, k1, k2, k3, k4, k5, k6, k7, k8⟩
  · omega
  have hcm : n * m ≤ cap * m := Nat.mul_le_mul_right _ k4
  refine ⟨r, gg, off + j * m, fun k => ?_, fun k hk => ?_, ?_⟩
  · have := hs.ix (k := k) (i := (j : Int)) (by omega) (by omega)
    rw [Int.toNat_natCast] at this
    exact this
  · rw [ld_blk k5, k8, List.getElem?_take, if_pos (by omega), List.getElem?_drop, Nat.add_assoc]
  · rw [lda_blk k5 (by omega), k8]
    congr 3
    rw [List.drop_take, List.drop_drop, List.take_take, Nat.min_eq_left (by omega)]
theorem flat_elem {α : Type} {enc : α → List AV} {m : Nat} (he : ∀ a, (enc a).length = m) (l : List α) (i : Nat) (a : α) (hi : l[i]? = some a) {k : Nat} (hk : k < m) : (l.flatMap enc)[i * m + k]? = (enc a)[k]? := by
  have := flat_get he l i a hi
  rw [← this, List.getElem?_take, if_pos hk, List.getElem?_drop]
theorem fabIs_sp (G : Good b H g) (F : FabIs g f P c fab) (hn : fab.l.length < 1000) (i : Int) : cl 62 [.ref f 0 0, I i] H = some (B (fab.is i), H) := by
  refine run_cl rfl rfl (rn_62 _ _ _ _ ?_)
  obtain ⟨x, hx, cu⟩ := G.seq F.1 (i := 0) rfl
  have e2 := (cu.is (by decide) (fabO_len P _)).lnS
  by_cases h0 : 0 ≤ i
  · simp -implicitDefEqProofs only [bnd_some, bo_some, condK_true, condK_false, gdA_undef, decide_true, decide_false, Int.reduceLE, Int.reduceLT, Int.reduceEq, Int.reduceNeg, Int.reduceAdd, gd_tt, gd_tf, gd_ft, gd_ff, unG_pure, lift_some, bnd_lift, Option.map_some, Option.bind_some, fieldPtr_ref, fieldPtr_ip, nil_ref, nil_ip, nil_fn, ex_tup, fl_agg, List.getElem?_cons_zero, List.getElem?_cons_succ, Nat.zero_add, Nat.add_zero, Nat.reduceAdd, pk_t, pk_f, lss_int, leq_int, gtr_int, geq_int, eql_int, neq_int, not_bool, beq_self_eq_true, if_true, Bool.false_eq_true, if_false, List.nil_append, List.cons_append, List.append_nil, alc_eq, mkm_eq, nNew, nPut, bNew, bPut, nGrd, bGrd, sh_62, h0, hx, e2, Fab.is, Bool.true_and]
  · simp -implicitDefEqProofs only [bnd_some, bo_some, condK_true, condK_false, gdA_undef, decide_true, decide_false, Int.reduceLE, Int.reduceLT, Int.reduceEq, Int.reduceNeg, Int.reduceAdd, gd_tt, gd_tf, gd_ft, gd_ff, unG_pure, lift_some, bnd_lift, Option.map_some, Option.bind_some, fieldPtr_ref, fieldPtr_ip, nil_ref, nil_ip, nil_fn, ex_tup, fl_agg, List.getElem?_cons_zero, List.getElem?_cons_succ, Nat.zero_add, Nat.add_zero, Nat.reduceAdd, pk_t, pk_f, lss_int, leq_int, gtr_int, geq_int, eql_int, neq_int, not_bool, beq_self_eq_true, if_true, Bool.false_eq_true, if_false, List.nil_append, List.cons_append, List.append_nil, alc_eq, mkm_eq, nNew, nPut, bNew, bPut, nGrd, bGrd, sh_62, h0, Fab.is, Bool.false_and]
theorem FabIs.port (F : FabIs g f P c fab) {i : Nat} (hi : i < fab.l.length) : PortIs g (P i) c (fab.port i) := by
  have := F.2.1 i (fab.l[i]) (List.getElem?_eq_getElem hi)
  unfold Fab.port
  rw [Int.toNat_natCast, List.getD_eq_getElem?_getD, List.getElem?_eq_getElem hi]
  exact this
theorem waiting_sp (G : Good b H g) (F : FabIs g f P c fab) (hn : fab.l.length < 1000) (i : Int) :
    cl 35 [.ref f 0 0, I i] H = some (.tup [I (fab.waiting i true), I (fab.waiting i false)], H) := by
  refine run_cl rfl rfl (rn_35 _ _ _ _ ?_)
  have e1 := fabIs_sp G F hn i
  cases hi : fab.is i with
  | false =>
    rw [hi] at e1
    simp -implicitDefEqProofs only [bnd_some, bo_some, condK_true, condK_false, gdA_undef, decide_true, decide_false, Int.reduceLE, Int.reduceLT, Int.reduceEq, Int.reduceNeg, Int.reduceAdd, gd_tt, gd_tf, gd_ft, gd_ff, unG_pure, lift_some, bnd_lift, Option.map_some, Option.bind_some, fieldPtr_ref, fieldPtr_ip, nil_ref, nil_ip, nil_fn, ex_tup, fl_agg, List.getElem?_cons_zero, List.getElem?_cons_succ, Nat.zero_add, Nat.add_zero, Nat.reduceAdd, pk_t, pk_f, lss_int, leq_int, gtr_int, geq_int, eql_int, neq_int, not_bool, beq_self_eq_true, if_true, Bool.false_eq_true, if_false, List.nil_append, List.cons_append, List.append_nil, alc_eq, mkm_eq, nNew, nPut, bNew, bPut, nGrd, bGrd, sh_35, e1, Bool.not_false, Fab.waiting, hi]
    rfl
  | true =>
    rw [hi] at e1
    simp only [Fab.is, Bool.and_eq_true, decide_eq_true_eq] at hi
    obtain ⟨n, rfl⟩ : ∃ n : Nat, i = n := ⟨i.toNat, by omega⟩
    have hl : n < fab.l.length := by omega
    obtain ⟨x, hx, cu⟩ := G.seq F.1 (i := 0) rfl
    obtain ⟨r, gg, o, a1, a2, _⟩ := cu.elemAt (by decide) (fabO_len P _) hl
    have hr : (List.range fab.l.length)[n]? = some n := List.getElem?_range hl
    have l1 := a2 1 (by decide)
    rw [flat_elem (m := 4) (fun _ => rfl) _ n n hr (by decide)] at l1
    have l3 := a2 3 (by decide)
    rw [flat_elem (m := 4) (fun _ => rfl) _ n n hr (by decide)] at l3
    have hp := F.port hl
    have q1 := queueLen G.guard hp.2.1
    have q3 := queueLen G hp.2.2.2
    have l1' : ld (.ref r gg (o + 1)) H = some (.ref (P n 1) 0 0, H) := l1
    have l3' : ld (.ref r gg (o + 2 + 1)) H = some (.ref (P n 3) 0 0, H) := l3
    have a1' := a1 .i64
    have w : ∀ req, fab.waiting n req = ((fab.port n).inOf req).length := fun req => by
      unfold Fab.waiting
      rw [if_pos (by simp only [Fab.is, Bool.and_eq_true, decide_eq_true_eq]; omega)]
    simp -implicitDefEqProofs only [bnd_some, bo_some, condK_true, condK_false, gdA_undef, decide_true, decide_false, Int.reduceLE, Int.reduceLT, Int.reduceEq, Int.reduceNeg, Int.reduceAdd, gd_tt, gd_tf, gd_ft, gd_ff, unG_pure, lift_some, bnd_lift, Option.map_some, Option.bind_some, fieldPtr_ref, fieldPtr_ip, nil_ref, nil_ip, nil_fn, ex_tup, fl_agg, List.getElem?_cons_zero, List.getElem?_cons_succ, Nat.zero_add, Nat.add_zero, Nat.reduceAdd, pk_t, pk_f, lss_int, leq_int, gtr_int, geq_int, eql_int, neq_int, not_bool, beq_self_eq_true, if_true, Bool.false_eq_true, if_false, List.nil_append, List.cons_append, List.append_nil, alc_eq, mkm_eq, nNew, nPut, bNew, bPut, nGrd, bGrd, sh_35, e1, Bool.not_true, hx, a1', l1', l3', q1, q3, w, Port.inOf]
end

end Go.Proofs.YtlcdejlbmnjlaaaGreat

namespace Go.Proofs.YtlcdejlbmnjlaaaGreat

section
variable {b : Nat} {H : AHeap} {g : Store} {q f : Nat} {P : Nat → Nat → Nat} {c : Cfg} {fab : Fab}
theorem bsl_two {e : TypeId} {H : AHeap} {a b c d : Nat} : bsl e 2 [zP, zP] 2 [(0, .agg [.ref a 0 0, .ref b 0 0]), (1, .agg [.ref c 0 0, .ref d 0 0])] H = some (.sl H.next 0 0 2 2 2 true, H.new (.blk 0 e [.ref a 0 0, .ref b 0 0, .ref c 0 0, .ref d 0 0])) := rfl
def poolsX (P : Nat → Nat → Nat) (n : Nat) : List AV := (List.range n).flatMap fun i => portX (P i)
theorem FabIs.lt (G : Good b H g) (F : FabIs g f P c fab) {i s : Nat} (hi : i < fab.l.length) (hs : s < 4) : P i s < H.next := by
  obtain ⟨l, r, h⟩ := (F.port hi).some hs
  exact G.lt h
theorem pools_sp (G : Good b H g) (F : FabIs g f P c fab) (hn : fab.l.length < 1000) (h0 : fab.l.length ≠ 0) :
    cl 58 [.ref f 0 0] H = some (.vs (2 * fab.l.length) 2 (poolsX P fab.l.length), H) := by
  obtain ⟨x, hx, cu⟩ := G.guard.seq F.1 (i := 0) rfl
  have e2 := (cu.is (by decide) (fabO_len P _)).lnS
  have hfr : ∀ d, ∀ y ∈ poolsX P fab.l.length, ∀ Hz, freezeA Hz H.next (d + 1) y = some y := fun d y hy Hz => by
    obtain ⟨i, hi, hy⟩ := List.mem_flatMap.1 hy
    have hi := List.mem_range.1 hi
    simp only [portX, List.mem_cons, List.not_mem_nil, or_false] at hy
    rcases hy with rfl | rfl | rfl | rfl <;> · rw [freezeA]; exact if_pos (F.lt G hi (by omega))
  have key : ∀ k i, i + k = fab.l.length → ∀ Hi t, Own H.next Hi t 2 (poolsX P i) → Step H.next H.guard Hi →
      ∃ v Hz, lp_58x0 cl [t, x, I fab.l.length, I i] Hi = some (v, Hz) ∧ Own H.next Hz v 2 (poolsX P fab.l.length) := by
    intro k
    induction k with
    | zero =>
      intro i hi Hi t o s
      have h1 : ¬ (i : Int) < fab.l.length := by omega
      rw [le_58x0]
      refine ⟨t, Hi, ?_, by rw [show fab.l.length = i by omega]; exact o⟩
      simp -implicitDefEqProofs only [bnd_some, bo_some, condK_true, condK_false, gdA_undef, decide_true, decide_false, Int.reduceLE, Int.reduceLT, Int.reduceEq, Int.reduceNeg, Int.reduceAdd, gd_tt, gd_tf, gd_ft, gd_ff, unG_pure, lift_some, bnd_lift, Option.map_some, Option.bind_some, fieldPtr_ref, fieldPtr_ip, nil_ref, nil_ip, nil_fn, ex_tup, fl_agg, List.getElem?_cons_zero, List.getElem?_cons_succ, Nat.zero_add, Nat.add_zero, Nat.reduceAdd, pk_t, pk_f, lss_int, leq_int, gtr_int, geq_int, eql_int, neq_int, not_bool, beq_self_eq_true, if_true, Bool.false_eq_true, if_false, List.nil_append, List.cons_append, List.append_nil, alc_eq, mkm_eq, nNew, nPut, bNew, bPut, nGrd, bGrd, h1]
    | succ k ih =>
      intro i hi Hi t o s
      have h1 : (i : Int) < fab.l.length := by omega
      have h6 : (i : Int) + 1 = ((i + 1 : Nat) : Int) := by omega
      have h7 := wrap_i64 (a := ((i + 1 : Nat) : Int)) (by omega) (by omega)
      obtain ⟨r, gg, off, a1, _, a3⟩ := (cu.ext s.next s.low).elemAt (by decide) (fabO_len P _) (j := i) (by omega)
      have a1 := a1 .i64
      rw [flat_get (m := 4) (fun _ => rfl) _ i i (List.getElem?_range (by omega))] at a3
      let H1 := Hi.new (.blk 0 101 (portX (P i)))
      have hpl : (poolsX P i).length = (2 * i) * 2 := by
        rw [poolsX, fabO_len]; omega
      have sb : Hi.base = H.next := s.base
      have sn : H.next ≤ Hi.next := s.next
      obtain ⟨v', Hj, t1, t2, t3⟩ := ((o.new (.blk 0 101 (portX (P i)))).new (.blk 0 99 (portX (P i)))).step (e := 99) (by_ := 16) (by simp only [nNew]; omega) (by simp only [bNew]; omega) (by decide) hpl (sl_new (ex := true) (n := 2) (m := 2) (l := portX (P i)) rfl) rfl (by unfold most; omega) (by unfold most; omega)
      have hs : poolsX P (i + 1) = poolsX P i ++ portX (P i) := by
        simp only [poolsX]
        rw [List.range_succ, List.flatMap_append, List.flatMap_cons, List.flatMap_nil, List.append_nil]
      rw [← hs] at t2
      obtain ⟨v, Hz, r1, r2⟩ := ih (i + 1) (by omega) Hj v' t2 ((s.trans ((Step.new _ (by omega)).trans (Step.new _ (by simp only [nNew]; omega)))).trans t3)
      refine ⟨v, Hz, ?_, r2⟩
      rw [le_58x0]
      have ca : ∀ a b c d, (AV.agg [.ref a 0 0, .ref b 0 0, .ref c 0 0, .ref d 0 0]).cells = [.ref a 0 0, .ref b 0 0, .ref c 0 0, .ref d 0 0] := fun _ _ _ _ => rfl
      have hbase : Hi.base ≤ Hi.next := by omega
      simp only [portX, nNew] at a3 t1
      simp -implicitDefEqProofs only [bnd_some, bo_some, condK_true, condK_false, gdA_undef, decide_true, decide_false, Int.reduceLE, Int.reduceLT, Int.reduceEq, Int.reduceNeg, Int.reduceAdd, gd_tt, gd_tf, gd_ft, gd_ff, unG_pure, lift_some, bnd_lift, Option.map_some, Option.bind_some, fieldPtr_ref, fieldPtr_ip, nil_ref, nil_ip, nil_fn, ex_tup, fl_agg, List.getElem?_cons_zero, List.getElem?_cons_succ, Nat.zero_add, Nat.add_zero, Nat.reduceAdd, pk_t, pk_f, lss_int, leq_int, gtr_int, geq_int, eql_int, neq_int, not_bool, beq_self_eq_true, if_true, Bool.false_eq_true, if_false, List.nil_append, List.cons_append, List.append_nil, alc_eq, mkm_eq, nNew, nPut, bNew, bPut, nGrd, bGrd, ldN_is, ldN_lt, ldaN_is, ldaN_lt, stN_is, stN_lt, Nat.lt_add_one, ne_eq, nx1, nx2, nx3, ny1, ny2, ny3, not_false_eq_true, List.length_cons, List.length_nil, Nat.reduceLeDiff, setAt, List.take_succ_cons, List.take_zero, List.drop_succ_cons, List.drop_zero, cells_dat, cells_int, cells_bool, cells_agg, List.all_cons, List.all_nil, isCell_int, isCell_bool, isCell_dat, isCell_ref, isCell_nil, isCell_vsl, cells_vsl, av_len_cfg, av_len_pkt, av_len_opn, av_len_evn, av_len_ent, av_len_row, av_len_deal, av_len_pck, tk_cfg, tk_pkt, tk_opn, tk_evn, tk_ent, tk_row, tk_deal, tk_pck, all_cfg, all_pkt, all_opn, all_evn, all_ent, all_row, all_deal, all_pck, List.drop_nil, Bool.and_true, Bool.and_self, and_self, Nat.le_refl, true_and, and_true, Nat.le_add_right, leS, ltS, h1, a1, a3, hbase, bs_132, Nat.reduceMul, bsl_two, t1, add_int, h6, h7, r1]
  obtain ⟨v, Hz, r1, r2⟩ := key fab.l.length 0 (by omega) H.guard zN (.inl ⟨rfl, rfl⟩) (Step.refl _ _)
  refine pure_cl rfl rfl (rn_58 _ _ _ (r := (v, Hz)) ?_) ?_
  · simp -implicitDefEqProofs only [bnd_some, bo_some, condK_true, condK_false, gdA_undef, decide_true, decide_false, Int.reduceLE, Int.reduceLT, Int.reduceEq, Int.reduceNeg, Int.reduceAdd, gd_tt, gd_tf, gd_ft, gd_ff, unG_pure, lift_some, bnd_lift, Option.map_some, Option.bind_some, fieldPtr_ref, fieldPtr_ip, nil_ref, nil_ip, nil_fn, ex_tup, fl_agg, List.getElem?_cons_zero, List.getElem?_cons_succ, Nat.zero_add, Nat.add_zero, Nat.reduceAdd, pk_t, pk_f, lss_int, leq_int, gtr_int, geq_int, eql_int, neq_int, not_bool, beq_self_eq_true, if_true, Bool.false_eq_true, if_false, List.nil_append, List.cons_append, List.append_nil, alc_eq, mkm_eq, nNew, nPut, bNew, bPut, nGrd, bGrd, sh_58, hx, e2]
    exact r1
  · have hpl : (poolsX P fab.l.length).length = (2 * fab.l.length) * 2 := by
      rw [poolsX, fabO_len]; omega
    have hs := r2.is (by decide) hpl
    obtain ⟨c1, c2⟩ := hs.cells_
    rcases r2 with ⟨rfl, e⟩ | ⟨r, gg, off, n', cap, ex, ty, all, rfl, k2, k3, k4, k5, k6, k7, k8⟩
    · rw [e] at hpl
      simp only [List.length_nil] at hpl
      omega
    · have hn' : n' = 2 * fab.l.length := by
        have := hs.2.2.1
        exact this
      subst hn'
      exact freeze_sl k2 c2 (freeze_all _ fun y hy => hfr _ y hy _)
theorem two_get {α β : Type} {u v : α → β} : ∀ (l : List α) (i : Nat), (l.flatMap fun p => [u p, v p])[2 * i]? = l[i]?.map u ∧ (l.flatMap fun p => [u p, v p])[2 * i + 1]? = l[i]?.map v
  | [], i => by simp
  | a :: l, 0 => by simp
  | a :: l, i + 1 => by
    have := two_get (u := u) (v := v) l i
    rw [show 2 * (i + 1) = 2 * i + 1 + 1 by omega]
    simpa using this
theorem FabIs.poolAt (F : FabIs g f P c fab) {j : Nat} (hj : j < 2 * fab.l.length) :
    ∃ l a a', fab.pools[j]? = some l ∧ ((poolsX P fab.l.length).drop (j * 2)).take 2 = [.ref a 0 0, .ref a' 0 0] ∧ g a = some (boxO l c.out) := by
  have hi : j / 2 < fab.l.length := by omega
  have hp := F.port hi
  have hg : fab.l[j / 2]? = some (fab.port (j / 2 : Nat)) := by
    unfold Fab.port
    rw [Int.toNat_natCast, List.getD_eq_getElem?_getD, List.getElem?_eq_getElem hi]; rfl
  have hfl := flat_get (m := 4) (enc := fun i => portX (P i)) (fun _ => rfl) (List.range fab.l.length) (j / 2) (j / 2) (List.getElem?_range hi)
  have h2 := two_get (u := Port.rq) (v := Port.an) fab.l (j / 2)
  rw [hg] at h2
  rcases Nat.mod_two_eq_zero_or_one j with h | h
  · refine ⟨_, P (j / 2) 0, P (j / 2) 1, ?_, ?_, hp.1⟩
    · have := h2.1
      rw [show 2 * (j / 2) = j by omega] at this
      exact this
    · have e : ((poolsX P fab.l.length).drop (j * 2)).take 2 = (((poolsX P fab.l.length).drop (j / 2 * 4)).take 4).take 2 := by
        rw [List.take_take, show j / 2 * 4 = j * 2 by omega]; rfl
      rw [e]
      exact (congrArg (List.take 2) hfl).trans rfl
  · refine ⟨_, P (j / 2) 2, P (j / 2) 3, ?_, ?_, hp.2.2.1⟩
    · have := h2.2
      rw [show 2 * (j / 2) + 1 = j by omega] at this
      exact this
    · have e : ((poolsX P fab.l.length).drop (j * 2)).take 2 = ((((poolsX P fab.l.length).drop (j / 2 * 4)).take 4).drop 2).take 2 := by
        rw [List.drop_take, List.drop_drop, List.take_take, show j / 2 * 4 + 2 = j * 2 by omega]; rfl
      rw [e]
      exact (congrArg (fun l => (List.drop 2 l).take 2) hfl).trans rfl
end

end Go.Proofs.YtlcdejlbmnjlaaaGreat

namespace Go.Proofs.YtlcdejlbmnjlaaaGreat

section
variable {b : Nat} {H : AHeap} {g : Store} {q f : Nat} {P : Nat → Nat → Nat} {c : Cfg} {fab : Fab}
theorem sum_take {ls : List (List Pkt)} {j : Nat} {l : List Pkt} (h : ls[j]? = some l) : ((ls.take (j + 1)).map List.length).sum = ((ls.take j).map List.length).sum + l.length := by
  rw [List.take_succ, h]
  simp
theorem pools_len : ∀ l : List Port, ((l.flatMap fun p => [p.rq, p.an]).map List.length).sum = (l.flatMap fun p => p.rq ++ p.an).length
  | [] => rfl
  | p :: l => by
    have := pools_len l
    simp only [List.flatMap_cons, List.map_append, List.sum_append, List.length_append, this]
    simp
theorem pools_count : ∀ l : List Port, (l.flatMap fun p => [p.rq, p.an]).length = 2 * l.length
  | [] => rfl
  | p :: l => by
    have := pools_count l
    simp only [List.flatMap_cons, List.length_append, this, List.length_cons, List.length_nil]
    omega
theorem sum_le {ls : List (List Pkt)} {m : Nat} (h : ∀ l ∈ ls, l.length ≤ m) : (ls.map List.length).sum ≤ ls.length * m := by
  induction ls with
  | nil => simp
  | cons l ls ih =>
    have h1 := h l (by simp)
    have := ih fun l' hl' => h l' (by simp [hl'])
    simp only [List.map_cons, List.sum_cons, List.length_cons, Nat.add_mul, Nat.one_mul]
    omega
theorem under_sp (G : Good b H g) (F : FabIs g f P c fab) (hn : fab.l.length < 1000) (h0 : fab.l.length ≠ 0) (hr : ∀ l ∈ fab.pools, l.length < 1000) :
    cl 32 [.ref f 0 0] H = some (I fab.under, H) := by
  have e1 := pools_sp G.guard F hn h0
  have hpl : (poolsX P fab.l.length).length = (2 * fab.l.length) * 2 := by
    rw [poolsX, fabO_len]; omega
  have hsl : ∀ H, SliceIs H (.vs (2 * fab.l.length) 2 (poolsX P fab.l.length)) 2 (2 * fab.l.length) (poolsX P fab.l.length) := fun H => SliceIs.vs hpl
  have e2 := (hsl H.guard).lnS
  have hcnt : fab.pools.length = 2 * fab.l.length := pools_count fab.l
  have key : ∀ k j, j + k = 2 * fab.l.length → ∀ Hi, Step H.next H.guard Hi →
      ∃ Hz, lp_32x0 cl [I ((fab.pools.take j).map List.length).sum, .vs (2 * fab.l.length) 2 (poolsX P fab.l.length), I (2 * fab.l.length : Nat), I j] Hi = some (I fab.under, Hz) := by
    intro k
    induction k with
    | zero =>
      intro j hj Hi s
      have h1 : ¬ (j : Int) < (2 * fab.l.length : Nat) := by omega
      rw [le_32x0]
      refine ⟨Hi, ?_⟩
      have h2 : ((fab.pools.take j).map List.length).sum = fab.under := by
        rw [List.take_of_length_le (by omega)]
        exact pools_len fab.l
      simp -implicitDefEqProofs only [bnd_some, bo_some, condK_true, condK_false, gdA_undef, decide_true, decide_false, Int.reduceLE, Int.reduceLT, Int.reduceEq, Int.reduceNeg, Int.reduceAdd, gd_tt, gd_tf, gd_ft, gd_ff, unG_pure, lift_some, bnd_lift, Option.map_some, Option.bind_some, fieldPtr_ref, fieldPtr_ip, nil_ref, nil_ip, nil_fn, ex_tup, fl_agg, List.getElem?_cons_zero, List.getElem?_cons_succ, Nat.zero_add, Nat.add_zero, Nat.reduceAdd, pk_t, pk_f, lss_int, leq_int, gtr_int, geq_int, eql_int, neq_int, not_bool, beq_self_eq_true, if_true, Bool.false_eq_true, if_false, List.nil_append, List.cons_append, List.append_nil, alc_eq, mkm_eq, nNew, nPut, bNew, bPut, nGrd, bGrd, h1, h2]
    | succ k ih =>
      intro j hj Hi s
      have h1 : (j : Int) < (2 * fab.l.length : Nat) := by omega
      have h6 : (j : Int) + 1 = ((j + 1 : Nat) : Int) := by omega
      have h7 := wrap_i64 (a := ((j + 1 : Nat) : Int)) (by omega) (by omega)
      have a1 := (hsl Hi).ix (k := .i64) (i := (j : Int)) (by omega) h1
      rw [Int.toNat_natCast] at a1
      have a3 := (hsl Hi).lda (i := j) (by omega)
      obtain ⟨l, a, a', p1, p2, p3⟩ := F.poolAt (j := j) (by omega)
      rw [p2] at a3
      have hsn := sum_take p1
      have hln : ((fab.pools.take (j + 1)).map List.length).sum ≤ (fab.pools.take (j + 1)).length * 1000 := sum_le fun l hl => Nat.le_of_lt (hr l (List.mem_of_mem_take hl))
      have hlt : (fab.pools.take (j + 1)).length ≤ 2 * fab.l.length := by rw [List.length_take]; omega
      have h8 : ((((fab.pools.take j).map List.length).sum : Nat) : Int) + (l.length : Int) = ((((fab.pools.take (j + 1)).map List.length).sum : Nat) : Int) := by omega
      have h9 := wrap_i64 (a := ((((fab.pools.take (j + 1)).map List.length).sum : Nat) : Int)) (by omega) (by omega)
      have G1 : Good b (Hi.new (.blk 0 99 [.ref a 0 0, .ref a' 0 0])) g := (G.guard.ext s.next s.low).new _
      have e3 := poolLen G1 p3
      have hsn' : H.next ≤ Hi.next := s.next
      have sb : Hi.base = H.next := s.base
      have hbase : Hi.base ≤ Hi.next := by omega
      obtain ⟨Hz, r1⟩ := ih (j + 1) (by omega) _ (s.trans (Step.new (.blk 0 99 [.ref a 0 0, .ref a' 0 0]) hsn'))
      refine ⟨Hz, ?_⟩
      rw [le_32x0]
      simp -implicitDefEqProofs only [bnd_some, bo_some, condK_true, condK_false, gdA_undef, decide_true, decide_false, Int.reduceLE, Int.reduceLT, Int.reduceEq, Int.reduceNeg, Int.reduceAdd, gd_tt, gd_tf, gd_ft, gd_ff, unG_pure, lift_some, bnd_lift, Option.map_some, Option.bind_some, fieldPtr_ref, fieldPtr_ip, nil_ref, nil_ip, nil_fn, ex_tup, fl_agg, List.getElem?_cons_zero, List.getElem?_cons_succ, Nat.zero_add, Nat.add_zero, Nat.reduceAdd, pk_t, pk_f, lss_int, leq_int, gtr_int, geq_int, eql_int, neq_int, not_bool, beq_self_eq_true, if_true, Bool.false_eq_true, if_false, List.nil_append, List.cons_append, List.append_nil, alc_eq, mkm_eq, nNew, nPut, bNew, bPut, nGrd, bGrd, ldN_is, ldN_lt, ldaN_is, ldaN_lt, stN_is, stN_lt, Nat.lt_add_one, ne_eq, nx1, nx2, nx3, ny1, ny2, ny3, not_false_eq_true, List.length_cons, List.length_nil, Nat.reduceLeDiff, setAt, List.take_succ_cons, List.take_zero, List.drop_succ_cons, List.drop_zero, cells_dat, cells_int, cells_bool, cells_agg, List.all_cons, List.all_nil, isCell_int, isCell_bool, isCell_dat, isCell_ref, isCell_nil, isCell_vsl, cells_vsl, av_len_cfg, av_len_pkt, av_len_opn, av_len_evn, av_len_ent, av_len_row, av_len_deal, av_len_pck, tk_cfg, tk_pkt, tk_opn, tk_evn, tk_ent, tk_row, tk_deal, tk_pck, all_cfg, all_pkt, all_opn, all_evn, all_ent, all_row, all_deal, all_pck, List.drop_nil, Bool.and_true, Bool.and_self, and_self, Nat.le_refl, true_and, and_true, Nat.le_add_right, leS, ltS, h1, a1, a3, hbase, e3, add_int, h8, h9, h6, h7, r1]
  obtain ⟨Hz, r1⟩ := key (2 * fab.l.length) 0 (by omega) H.guard (Step.refl _ _)
  refine pure_cl rfl rfl (rn_32 _ _ _ (r := (I fab.under, Hz)) ?_) freeze_s
  simp -implicitDefEqProofs only [bnd_some, bo_some, condK_true, condK_false, gdA_undef, decide_true, decide_false, Int.reduceLE, Int.reduceLT, Int.reduceEq, Int.reduceNeg, Int.reduceAdd, gd_tt, gd_tf, gd_ft, gd_ff, unG_pure, lift_some, bnd_lift, Option.map_some, Option.bind_some, fieldPtr_ref, fieldPtr_ip, nil_ref, nil_ip, nil_fn, ex_tup, fl_agg, List.getElem?_cons_zero, List.getElem?_cons_succ, Nat.zero_add, Nat.add_zero, Nat.reduceAdd, pk_t, pk_f, lss_int, leq_int, gtr_int, geq_int, eql_int, neq_int, not_bool, beq_self_eq_true, if_true, Bool.false_eq_true, if_false, List.nil_append, List.cons_append, List.append_nil, alc_eq, mkm_eq, nNew, nPut, bNew, bPut, nGrd, bGrd, sh_32, e1, e2]
  exact r1
end
section
variable {b : Nat} {H : AHeap} {g : Store} {A : Adr} {m : Mach}
/-- What is true of a machine's sizes. -/
structure Mach.fine (m : Mach) : Prop where
  ok : m.c.ok = true
  nodes : (m.nodes.length : Int) = m.c.nodes
  fab : m.fab.l.length = m.nodes.length
  ops : ∀ n ∈ m.nodes, n.proc.ops.length < 1000 ∧ n.proc.values.length < 1000
  pools : ∀ l ∈ m.fab.pools, l.length < 1000
  deal : ∀ n ∈ m.nodes, n.deal.data.length < 1000000000
  ins : ∀ p ∈ m.fab.l, p.rin.length < 1000 ∧ p.ain.length < 1000
def Mach.left (m : Mach) : Int := (m.nodes.map fun n => n.proc.left).sum
theorem nodes_len (N : Nat → Nat → Nat) (n : Nat) : (nodesX N n).length = n * 1 := by simp [nodesX]
theorem nodes_get {N : Nat → Nat → Nat} {n i : Nat} (h : i < n) : (nodesX N n)[i]? = some (.ref (N i 0) 0 0) := by
  simp [nodesX, List.getElem?_range h]
theorem left_sp (G : Good b H g) (M : MachIs g A m) (hm : m.fine) : cl 26 [.ref A.mach 0 0] H = some (I m.left, H) := by
  have Bd := cfgB hm.ok
  refine run_cl rfl rfl (rn_26 _ _ _ ?_)
  obtain ⟨x, hx, cu⟩ := G.seq M.mach (i := 10) rfl
  have e2 := (cu.is (by decide) (nodes_len _ _)).lnS
  have hbd : ∀ j, j ≤ m.nodes.length → -(j * 1000 : Int) ≤ ((m.nodes.take j).map fun n => n.proc.left).sum ∧ ((m.nodes.take j).map fun n => n.proc.left).sum ≤ j * 1000 := by
    intro j
    induction j with
    | zero => intro _; simp
    | succ j ih =>
      intro hj
      have i1 := ih (by omega)
      have hg : m.nodes[j]? = some (m.nodes[j]'(by omega)) := List.getElem?_eq_getElem (by omega)
      have i2 := hm.ops _ (List.mem_of_getElem? hg)
      have i3 : -1000 ≤ (m.nodes[j]'(by omega)).proc.left ∧ (m.nodes[j]'(by omega)).proc.left ≤ 1000 := by
        unfold Proc.left
        omega
      rw [List.take_succ, hg]
      simp only [Option.toList_some, List.map_append, List.map_cons, List.map_nil, List.sum_append, List.sum_cons, List.sum_nil]
      omega
  have key : ∀ k j, j + k = m.nodes.length → lp_26x0 cl [I ((m.nodes.take j).map fun n => n.proc.left).sum, x, I m.nodes.length, I j] H = some (I m.left, H) := by
    intro k
    induction k with
    | zero =>
      intro j hj
      have h1 : ¬ (j : Int) < m.nodes.length := by omega
      rw [le_26x0]
      have h2 : ((m.nodes.take j).map fun n => n.proc.left).sum = m.left := by
        rw [List.take_of_length_le (by omega)]; rfl
      simp -implicitDefEqProofs only [bnd_some, bo_some, condK_true, condK_false, gdA_undef, decide_true, decide_false, Int.reduceLE, Int.reduceLT, Int.reduceEq, Int.reduceNeg, Int.reduceAdd, gd_tt, gd_tf, gd_ft, gd_ff, unG_pure, lift_some, bnd_lift, Option.map_some, Option.bind_some, fieldPtr_ref, fieldPtr_ip, nil_ref, nil_ip, nil_fn, ex_tup, fl_agg, List.getElem?_cons_zero, List.getElem?_cons_succ, Nat.zero_add, Nat.add_zero, Nat.reduceAdd, pk_t, pk_f, lss_int, leq_int, gtr_int, geq_int, eql_int, neq_int, not_bool, beq_self_eq_true, if_true, Bool.false_eq_true, if_false, List.nil_append, List.cons_append, List.append_nil, alc_eq, mkm_eq, nNew, nPut, bNew, bPut, nGrd, bGrd, h1, h2]
    | succ k ih =>
      intro j hj
      have h1 : (j : Int) < m.nodes.length := by omega
      have hn := hm.nodes
      have hBn := Bd.nodes
      have h6 : (j : Int) + 1 = ((j + 1 : Nat) : Int) := by omega
      have h7 := wrap_i64 (a := ((j + 1 : Nat) : Int)) (by omega) (by omega)
      obtain ⟨r, gg, o, a1, a2, _⟩ := cu.elemAt (by decide) (nodes_len _ _) (j := j) (by omega)
      have a1 := a1 .i64
      have a2 := a2 0 (by decide)
      rw [Nat.mul_one, Nat.add_zero, Nat.add_zero, nodes_get (by omega)] at a2
      have hg : m.nodes[j]? = some (m.nodes[j]'(by omega)) := List.getElem?_eq_getElem (by omega)
      have Nj := M.node j _ hg
      have ho := hm.ops _ (List.mem_of_getElem? hg)
      have e3 := G.load Nj.1 (i := 1) rfl
      have e4 := procLeft G Nj.2.2.1 ho.1 ho.2
      have h8 : ((m.nodes.take j).map fun n => n.proc.left).sum + (m.nodes[j]'(by omega)).proc.left = ((m.nodes.take (j + 1)).map fun n => n.proc.left).sum := by
        rw [List.take_succ, hg]
        simp only [Option.toList_some, List.map_append, List.map_cons, List.map_nil, List.sum_append, List.sum_cons, List.sum_nil, Int.add_zero]
      have hb1 := hbd (j + 1) (by omega)
      have h9 := wrap_i64 (a := ((m.nodes.take (j + 1)).map fun n => n.proc.left).sum) (by omega) (by omega)
      have r1 := ih (j + 1) (by omega)
      rw [le_26x0]
      simp -implicitDefEqProofs only [bnd_some, bo_some, condK_true, condK_false, gdA_undef, decide_true, decide_false, Int.reduceLE, Int.reduceLT, Int.reduceEq, Int.reduceNeg, Int.reduceAdd, gd_tt, gd_tf, gd_ft, gd_ff, unG_pure, lift_some, bnd_lift, Option.map_some, Option.bind_some, fieldPtr_ref, fieldPtr_ip, nil_ref, nil_ip, nil_fn, ex_tup, fl_agg, List.getElem?_cons_zero, List.getElem?_cons_succ, Nat.zero_add, Nat.add_zero, Nat.reduceAdd, pk_t, pk_f, lss_int, leq_int, gtr_int, geq_int, eql_int, neq_int, not_bool, beq_self_eq_true, if_true, Bool.false_eq_true, if_false, List.nil_append, List.cons_append, List.append_nil, alc_eq, mkm_eq, nNew, nPut, bNew, bPut, nGrd, bGrd, h1, a1, a2, Option.map_some, e3, e4, add_int, h8, h9, h6, h7, r1]
  have r1 := key m.nodes.length 0 (by omega)
  simp -implicitDefEqProofs only [bnd_some, bo_some, condK_true, condK_false, gdA_undef, decide_true, decide_false, Int.reduceLE, Int.reduceLT, Int.reduceEq, Int.reduceNeg, Int.reduceAdd, gd_tt, gd_tf, gd_ft, gd_ff, unG_pure, lift_some, bnd_lift, Option.map_some, Option.bind_some, fieldPtr_ref, fieldPtr_ip, nil_ref, nil_ip, nil_fn, ex_tup, fl_agg, List.getElem?_cons_zero, List.getElem?_cons_succ, Nat.zero_add, Nat.add_zero, Nat.reduceAdd, pk_t, pk_f, lss_int, leq_int, gtr_int, geq_int, eql_int, neq_int, not_bool, beq_self_eq_true, if_true, Bool.false_eq_true, if_false, List.nil_append, List.cons_append, List.append_nil, alc_eq, mkm_eq, nNew, nPut, bNew, bPut, nGrd, bGrd, sh_26, hx, e2]
  exact r1
end

end Go.Proofs.YtlcdejlbmnjlaaaGreat

namespace Go.Proofs.YtlcdejlbmnjlaaaGreat

def Mach.busy (m : Mach) (i : Nat) : Bool := match m.nodes[i]? with
  | some n => !decide (n.deal.step = 0) || n.proc.begun || decide (0 < m.fab.waiting i true + m.fab.waiting i false)
  | none => false
def Mach.quiet (m : Mach) : Bool := (List.range m.nodes.length).all (fun i => !m.busy i) && decide (m.fab.under = 0)
theorem all_range_step {n : Nat} {p : Nat → Bool} {i : Nat} (hi : i < n) (h : ∀ j, j < i → p j = true) (hp : p i = false) : (List.range n).all p = false := by
  rw [List.all_eq_false]
  exact ⟨i, List.mem_range.2 hi, by rw [hp]; simp⟩
theorem all_range_all {n : Nat} {p : Nat → Bool} (h : ∀ j, j < n → p j = true) : (List.range n).all p = true := by
  rw [List.all_eq_true]
  exact fun i hi => h i (List.mem_range.1 hi)
section
variable {b : Nat} {H : AHeap} {g : Store} {A : Adr} {m : Mach}
theorem wait_bd (hm : m.fine) (i : Int) (req : Bool) : m.fab.waiting i req < 1000 := by
  unfold Fab.waiting
  split
  · rename_i h
    simp only [Fab.is, Bool.and_eq_true, decide_eq_true_eq] at h
    have hl : i.toNat < m.fab.l.length := by omega
    have e : m.fab.port i = m.fab.l[i.toNat] := by
      unfold Fab.port
      rw [List.getD_eq_getElem?_getD, List.getElem?_eq_getElem hl]; rfl
    have := hm.ins _ (List.getElem_mem hl)
    rw [e]
    cases req
    · exact this.2
    · exact this.1
  · omega
theorem quiet_sp (G : Good b H g) (M : MachIs g A m) (hm : m.fine) : cl 25 [.ref A.mach 0 0] H = some (B m.quiet, H) := by
  have Bd := cfgB hm.ok
  have hn := hm.nodes
  have hBn := Bd.nodes
  have hfl := hm.fab
  obtain ⟨x, hx, cu⟩ := G.guard.seq M.mach (i := 10) rfl
  have e2 := (cu.is (by decide) (nodes_len _ _)).lnS
  have key : ∀ k j, j + k = m.nodes.length → (∀ i, i < j → (!m.busy i) = true) → ∀ Hi, Step H.next H.guard Hi →
      ∃ Hz, lp_25x0 cl [.ref A.mach 0 0, x, I m.nodes.length, I j] Hi = some (B m.quiet, Hz) := by
    intro k
    induction k with
    | zero =>
      intro j hj hf Hi s
      have h1 : ¬ (j : Int) < m.nodes.length := by omega
      have Gi := G.guard.ext s.next s.low
      have e1 := Gi.load M.mach (i := 0) rfl
      have e3 := under_sp Gi M.fab (by omega) (by omega) hm.pools
      have hq : m.quiet = decide (m.fab.under = 0) := by
        unfold Mach.quiet
        rw [all_range_all fun i hi => hf i (by omega), Bool.true_and]
      have hz : decide ((m.fab.under : Int) = 0) = decide (m.fab.under = 0) := by simp
      rw [le_25x0]
      refine ⟨Hi, ?_⟩
      simp -implicitDefEqProofs only [bnd_some, bo_some, condK_true, condK_false, gdA_undef, decide_true, decide_false, Int.reduceLE, Int.reduceLT, Int.reduceEq, Int.reduceNeg, Int.reduceAdd, gd_tt, gd_tf, gd_ft, gd_ff, unG_pure, lift_some, bnd_lift, Option.map_some, Option.bind_some, fieldPtr_ref, fieldPtr_ip, nil_ref, nil_ip, nil_fn, ex_tup, fl_agg, List.getElem?_cons_zero, List.getElem?_cons_succ, Nat.zero_add, Nat.add_zero, Nat.reduceAdd, pk_t, pk_f, lss_int, leq_int, gtr_int, geq_int, eql_int, neq_int, not_bool, beq_self_eq_true, if_true, Bool.false_eq_true, if_false, List.nil_append, List.cons_append, List.append_nil, alc_eq, mkm_eq, nNew, nPut, bNew, bPut, nGrd, bGrd, h1, e1, e3, hq, hz]
    | succ k ih =>
      intro j hj hf Hi s
      have h1 : (j : Int) < m.nodes.length := by omega
      have h6 : (j : Int) + 1 = ((j + 1 : Nat) : Int) := by omega
      have h7 := wrap_i64 (a := ((j + 1 : Nat) : Int)) (by omega) (by omega)
      have Gi := G.guard.ext s.next s.low
      obtain ⟨r, gg, o, a1, a2, _⟩ := (cu.ext s.next s.low).elemAt (by decide) (nodes_len _ _) (j := j) (by omega)
      have a1 := a1 .i64
      have a2 := a2 0 (by decide)
      rw [Nat.mul_one, Nat.add_zero, Nat.add_zero, nodes_get (by omega)] at a2
      obtain ⟨n, hg⟩ : ∃ n, m.nodes[j]? = some n := ⟨_, List.getElem?_eq_getElem (by omega)⟩
      have Nj := M.node j _ hg
      have hnm := List.mem_of_getElem? hg
      have e3 := nodeDeal Gi Nj.1 (hm.deal _ hnm)
      obtain ⟨dl, hdl⟩ : ∃ dl : Deal, dl = if n.deal.step = 0 then Deal.zero else n.deal := ⟨_, rfl⟩
      rw [← hdl] at e3
      let dv := dl.av
      have sn : H.next ≤ Hi.next := s.next
      have sb : Hi.base = H.next := s.base
      have hbase : Hi.base ≤ Hi.next := by omega
      have Gj := Gi.new (.blk 0 113 dv)
      have sj := s.trans (Step.new (.blk 0 113 dv) sn)
      have e4 := Gj.load M.mach (i := 0) rfl
      have e5 := waiting_sp Gj M.fab (by omega) j
      have e6 := Gj.load Nj.1 (i := 1) rfl
      have e7 := procBegun Gj Nj.2.2.1
      have w1 := wait_bd hm j true
      have w2 := wait_bd hm j false
      have h9 := wrap_i64 (a := ((m.fab.waiting j true + m.fab.waiting j false : Nat) : Int)) (by omega) (by omega)
      have h8 : (m.fab.waiting j true : Int) + (m.fab.waiting j false : Int) = ((m.fab.waiting j true + m.fab.waiting j false : Nat) : Int) := by omega
      have hb : m.busy j = (!decide (n.deal.step = 0) || n.proc.begun || decide (0 < m.fab.waiting j true + m.fab.waiting j false)) := by
        unfold Mach.busy
        rw [hg]
      have cd : (AV.agg dv).cells = dv := rfl
      have ad : dv.all AV.isCell = true := all_deal _
      have ld9 : dv.length = 9 := rfl
      have E : lp_25x0 cl [.ref A.mach 0 0, x, I m.nodes.length, I j] Hi = if m.busy j = true then some (B false, Hi.new (.blk 0 113 dv)) else lp_25x0 cl [.ref A.mach 0 0, x, I m.nodes.length, I (j + 1 : Nat)] (Hi.new (.blk 0 113 dv)) := by
        rw [le_25x0, hb]
        simp only [dv] at e4 e5 e6 e7
        by_cases d0 : n.deal.step = 0
        · cases pb : n.proc.begun with
          | true =>
            rw [pb] at e7
            simp -implicitDefEqProofs only [bnd_some, bo_some, condK_true, condK_false, gdA_undef, decide_true, decide_false, Int.reduceLE, Int.reduceLT, Int.reduceEq, Int.reduceNeg, Int.reduceAdd, gd_tt, gd_tf, gd_ft, gd_ff, unG_pure, lift_some, bnd_lift, Option.map_some, Option.bind_some, fieldPtr_ref, fieldPtr_ip, nil_ref, nil_ip, nil_fn, ex_tup, fl_agg, List.getElem?_cons_zero, List.getElem?_cons_succ, Nat.zero_add, Nat.add_zero, Nat.reduceAdd, pk_t, pk_f, lss_int, leq_int, gtr_int, geq_int, eql_int, neq_int, not_bool, beq_self_eq_true, if_true, Bool.false_eq_true, if_false, List.nil_append, List.cons_append, List.append_nil, alc_eq, mkm_eq, nNew, nPut, bNew, bPut, nGrd, bGrd, ldN_is, ldN_lt, ldaN_is, ldaN_lt, stN_is, stN_lt, Nat.lt_add_one, ne_eq, nx1, nx2, nx3, ny1, ny2, ny3, not_false_eq_true, List.length_cons, List.length_nil, Nat.reduceLeDiff, setAt, List.take_succ_cons, List.take_zero, List.drop_succ_cons, List.drop_zero, cells_dat, cells_int, cells_bool, cells_agg, List.all_cons, List.all_nil, isCell_int, isCell_bool, isCell_dat, isCell_ref, isCell_nil, isCell_vsl, cells_vsl, av_len_cfg, av_len_pkt, av_len_opn, av_len_evn, av_len_ent, av_len_row, av_len_deal, av_len_pck, tk_cfg, tk_pkt, tk_opn, tk_evn, tk_ent, tk_row, tk_deal, tk_pck, all_cfg, all_pkt, all_opn, all_evn, all_ent, all_row, all_deal, all_pck, List.drop_nil, Bool.and_true, Bool.and_self, and_self, Nat.le_refl, true_and, and_true, Nat.le_add_right, leS, ltS, h1, a1, a2, Option.map_some, e3, d0, Bool.not_true, hbase, e4, e5, e6, e7, dv, Bool.false_or, Bool.true_or]
          | false =>
            rw [pb] at e7
            by_cases hw : 0 < m.fab.waiting j true + m.fab.waiting j false
            · have hw' : (0 : Int) < ((m.fab.waiting j true + m.fab.waiting j false : Nat) : Int) := by omega
              simp -implicitDefEqProofs only [bnd_some, bo_some, condK_true, condK_false, gdA_undef, decide_true, decide_false, Int.reduceLE, Int.reduceLT, Int.reduceEq, Int.reduceNeg, Int.reduceAdd, gd_tt, gd_tf, gd_ft, gd_ff, unG_pure, lift_some, bnd_lift, Option.map_some, Option.bind_some, fieldPtr_ref, fieldPtr_ip, nil_ref, nil_ip, nil_fn, ex_tup, fl_agg, List.getElem?_cons_zero, List.getElem?_cons_succ, Nat.zero_add, Nat.add_zero, Nat.reduceAdd, pk_t, pk_f, lss_int, leq_int, gtr_int, geq_int, eql_int, neq_int, not_bool, beq_self_eq_true, if_true, Bool.false_eq_true, if_false, List.nil_append, List.cons_append, List.append_nil, alc_eq, mkm_eq, nNew, nPut, bNew, bPut, nGrd, bGrd, ldN_is, ldN_lt, ldaN_is, ldaN_lt, stN_is, stN_lt, Nat.lt_add_one, ne_eq, nx1, nx2, nx3, ny1, ny2, ny3, not_false_eq_true, List.length_cons, List.length_nil, Nat.reduceLeDiff, setAt, List.take_succ_cons, List.take_zero, List.drop_succ_cons, List.drop_zero, cells_dat, cells_int, cells_bool, cells_agg, List.all_cons, List.all_nil, isCell_int, isCell_bool, isCell_dat, isCell_ref, isCell_nil, isCell_vsl, cells_vsl, av_len_cfg, av_len_pkt, av_len_opn, av_len_evn, av_len_ent, av_len_row, av_len_deal, av_len_pck, tk_cfg, tk_pkt, tk_opn, tk_evn, tk_ent, tk_row, tk_deal, tk_pck, all_cfg, all_pkt, all_opn, all_evn, all_ent, all_row, all_deal, all_pck, List.drop_nil, Bool.and_true, Bool.and_self, and_self, Nat.le_refl, true_and, and_true, Nat.le_add_right, leS, ltS, h1, a1, a2, Option.map_some, e3, d0, Bool.not_true, hbase, e4, e5, e6, e7, dv, Bool.false_or, hw, hw', add_int, h8, h9]
            · have hw' : ¬ (0 : Int) < ((m.fab.waiting j true + m.fab.waiting j false : Nat) : Int) := by omega
              simp -implicitDefEqProofs only [bnd_some, bo_some, condK_true, condK_false, gdA_undef, decide_true, decide_false, Int.reduceLE, Int.reduceLT, Int.reduceEq, Int.reduceNeg, Int.reduceAdd, gd_tt, gd_tf, gd_ft, gd_ff, unG_pure, lift_some, bnd_lift, Option.map_some, Option.bind_some, fieldPtr_ref, fieldPtr_ip, nil_ref, nil_ip, nil_fn, ex_tup, fl_agg, List.getElem?_cons_zero, List.getElem?_cons_succ, Nat.zero_add, Nat.add_zero, Nat.reduceAdd, pk_t, pk_f, lss_int, leq_int, gtr_int, geq_int, eql_int, neq_int, not_bool, beq_self_eq_true, if_true, Bool.false_eq_true, if_false, List.nil_append, List.cons_append, List.append_nil, alc_eq, mkm_eq, nNew, nPut, bNew, bPut, nGrd, bGrd, ldN_is, ldN_lt, ldaN_is, ldaN_lt, stN_is, stN_lt, Nat.lt_add_one, ne_eq, nx1, nx2, nx3, ny1, ny2, ny3, not_false_eq_true, List.length_cons, List.length_nil, Nat.reduceLeDiff, setAt, List.take_succ_cons, List.take_zero, List.drop_succ_cons, List.drop_zero, cells_dat, cells_int, cells_bool, cells_agg, List.all_cons, List.all_nil, isCell_int, isCell_bool, isCell_dat, isCell_ref, isCell_nil, isCell_vsl, cells_vsl, av_len_cfg, av_len_pkt, av_len_opn, av_len_evn, av_len_ent, av_len_row, av_len_deal, av_len_pck, tk_cfg, tk_pkt, tk_opn, tk_evn, tk_ent, tk_row, tk_deal, tk_pck, all_cfg, all_pkt, all_opn, all_evn, all_ent, all_row, all_deal, all_pck, List.drop_nil, Bool.and_true, Bool.and_self, and_self, Nat.le_refl, true_and, and_true, Nat.le_add_right, leS, ltS, h1, a1, a2, Option.map_some, e3, d0, Bool.not_true, hbase, e4, e5, e6, e7, dv, Bool.false_or, hw, hw', add_int, h8, h9, h6, h7]
        · simp -implicitDefEqProofs only [bnd_some, bo_some, condK_true, condK_false, gdA_undef, decide_true, decide_false, Int.reduceLE, Int.reduceLT, Int.reduceEq, Int.reduceNeg, Int.reduceAdd, gd_tt, gd_tf, gd_ft, gd_ff, unG_pure, lift_some, bnd_lift, Option.map_some, Option.bind_some, fieldPtr_ref, fieldPtr_ip, nil_ref, nil_ip, nil_fn, ex_tup, fl_agg, List.getElem?_cons_zero, List.getElem?_cons_succ, Nat.zero_add, Nat.add_zero, Nat.reduceAdd, pk_t, pk_f, lss_int, leq_int, gtr_int, geq_int, eql_int, neq_int, not_bool, beq_self_eq_true, if_true, Bool.false_eq_true, if_false, List.nil_append, List.cons_append, List.append_nil, alc_eq, mkm_eq, nNew, nPut, bNew, bPut, nGrd, bGrd, ldN_is, ldN_lt, ldaN_is, ldaN_lt, stN_is, stN_lt, Nat.lt_add_one, ne_eq, nx1, nx2, nx3, ny1, ny2, ny3, not_false_eq_true, List.length_cons, List.length_nil, Nat.reduceLeDiff, setAt, List.take_succ_cons, List.take_zero, List.drop_succ_cons, List.drop_zero, cells_dat, cells_int, cells_bool, cells_agg, List.all_cons, List.all_nil, isCell_int, isCell_bool, isCell_dat, isCell_ref, isCell_nil, isCell_vsl, cells_vsl, av_len_cfg, av_len_pkt, av_len_opn, av_len_evn, av_len_ent, av_len_row, av_len_deal, av_len_pck, tk_cfg, tk_pkt, tk_opn, tk_evn, tk_ent, tk_row, tk_deal, tk_pck, all_cfg, all_pkt, all_opn, all_evn, all_ent, all_row, all_deal, all_pck, List.drop_nil, Bool.and_true, Bool.and_self, and_self, Nat.le_refl, true_and, and_true, Nat.le_add_right, leS, ltS, h1, a1, a2, Option.map_some, e3, d0, Bool.not_false, Bool.not_true, hbase, e4, e5, e6, e7, dv, Bool.true_or]
      rw [E]
      cases hbz : m.busy j with
      | true =>
        have hq : m.quiet = false := by
          unfold Mach.quiet
          rw [all_range_step (i := j) (by omega) hf (by rw [hbz]; rfl), Bool.false_and]
        exact ⟨_, by rw [hq]; rfl⟩
      | false =>
        obtain ⟨Hz, r1⟩ := ih (j + 1) (by omega) (fun i hi => by
          by_cases hij : i = j
          · subst hij; rw [hbz]; rfl
          · exact hf i (by omega)) _ sj
        exact ⟨Hz, r1⟩
  obtain ⟨Hz, r1⟩ := key m.nodes.length 0 (by omega) (fun i hi => by omega) H.guard (Step.refl _ _)
  refine pure_cl rfl rfl (rn_25 _ _ _ (r := (B m.quiet, Hz)) ?_) freeze_s
  simp -implicitDefEqProofs only [bnd_some, bo_some, condK_true, condK_false, gdA_undef, decide_true, decide_false, Int.reduceLE, Int.reduceLT, Int.reduceEq, Int.reduceNeg, Int.reduceAdd, gd_tt, gd_tf, gd_ft, gd_ff, unG_pure, lift_some, bnd_lift, Option.map_some, Option.bind_some, fieldPtr_ref, fieldPtr_ip, nil_ref, nil_ip, nil_fn, ex_tup, fl_agg, List.getElem?_cons_zero, List.getElem?_cons_succ, Nat.zero_add, Nat.add_zero, Nat.reduceAdd, pk_t, pk_f, lss_int, leq_int, gtr_int, geq_int, eql_int, neq_int, not_bool, beq_self_eq_true, if_true, Bool.false_eq_true, if_false, List.nil_append, List.cons_append, List.append_nil, alc_eq, mkm_eq, nNew, nPut, bNew, bPut, nGrd, bGrd, sh_25, hx, e2]
  exact r1
end

end Go.Proofs.YtlcdejlbmnjlaaaGreat

namespace Go.Proofs.YtlcdejlbmnjlaaaGreat

section
variable {b : Nat} {H : AHeap} {g : Store} {A : Adr} {m : Mach}
end
theorem PsIs.zN {H : AHeap} : PsIs H zN [] := ⟨[], SliceIs.nil, fun i v l h => by simp at h⟩
/-- A new machine is as it should be. -/
theorem new_fine {c : Cfg} (h : c.ok = true) {ps : List (List Opn)} (hp : c.opsOk ps = true) : (Mach.new c ps).fine := by
  have Bd := cfgB h
  obtain ⟨h1, h2⟩ := opsOk_of hp
  have node : ∀ n ∈ (Mach.new c ps).nodes, ∃ i l, l ∈ ps ∧ n = .new c i l := fun n hn => by
    simp only [Mach.new, List.mem_mapIdx] at hn
    obtain ⟨i, hi, rfl⟩ := hn
    exact ⟨i, _, List.getElem_mem hi, rfl⟩
  have ports : ∀ p ∈ (Mach.new c ps).fab.l, p = .zero := fun p hp => by
    simp only [Mach.new, Fab.new] at hp
    exact List.eq_of_mem_replicate hp
  refine ⟨h, ?_, ?_, fun n hn => ?_, fun l hl => ?_, fun n hn => ?_, fun p hp => ?_⟩
  · simp only [Mach.new, List.length_mapIdx]; exact h1
  · simp only [Mach.new, Fab.new, List.length_mapIdx, List.length_replicate]; omega
  · obtain ⟨i, l, hl, rfl⟩ := node n hn
    have := h2 l hl
    exact ⟨by show l.length < 1000; omega, by show (0 : Nat) < 1000; omega⟩
  · simp only [Fab.pools, List.mem_flatMap] at hl
    obtain ⟨p, hp, hl⟩ := hl
    rw [ports p hp] at hl
    simp only [Port.zero, List.mem_cons, List.not_mem_nil, or_false, or_self] at hl
    rw [hl]; decide
  · obtain ⟨i, l, hl, rfl⟩ := node n hn
    show (0 : Nat) < _
    omega
  · rw [ports p hp]
    exact ⟨by decide, by decide⟩
def oneC : Cfg := ⟨1, 1, 1, 1, 1, 1, 1, []⟩

end Go.Proofs.YtlcdejlbmnjlaaaGreat

namespace Go.Proofs.YtlcdejlbmnjlaaaGreat

def withinM (v n : Int) : Int := if n < 1 then 0 else v % n
def atM (l : List Int) (i : Int) : Int := if i < l.length then l.getD i.toNat 0 else 0
theorem withinM_rng {v n : Int} (h : 1 ≤ n) : 0 ≤ withinM v n ∧ withinM v n < n := by
  unfold withinM
  rw [if_neg (by omega)]
  exact ⟨Int.emod_nonneg _ (by omega), Int.emod_lt_of_pos _ (by omega)⟩
theorem tmod_fix (v n : Int) (h : 1 ≤ n) : v % n = if v.tmod n < 0 then v.tmod n + n else v.tmod n := by
  have h1 := Int.tmod_eq_emod (a := v) (b := n)
  have h2 := Int.emod_nonneg v (b := n) (by omega)
  have h3 := Int.emod_lt_of_pos v (b := n) (by omega)
  rw [h1]
  rcases Decidable.em (0 ≤ v ∨ n ∣ v) with hv | hv
  · rw [if_pos hv]; split <;> omega
  · rw [if_neg hv]; split <;> omega
theorem tmod_rng (v n : Int) (h : 1 ≤ n) : -n < v.tmod n ∧ v.tmod n < n := by
  have h1 := Int.tmod_eq_emod (a := v) (b := n)
  have h2 := Int.emod_nonneg v (b := n) (by omega)
  have h3 := Int.emod_lt_of_pos v (b := n) (by omega)
  rw [h1]
  rcases Decidable.em (0 ≤ v ∨ n ∣ v) with hv | hv
  · rw [if_pos hv]; omega
  · rw [if_neg hv]; omega
theorem within64 (H : AHeap) (v n : Int) (hn : n ≤ 9223372036854775807) : cl 6 [I v, I n] H = some (I (withinM v n), H) := by
  refine run_cl rfl rfl (rn_6 _ _ _ _ ?_)
  by_cases h1 : n < 1
  · simp -implicitDefEqProofs only [bnd_some, bo_some, condK_true, condK_false, gdA_undef, decide_true, decide_false, Int.reduceLE, Int.reduceLT, Int.reduceEq, Int.reduceNeg, Int.reduceAdd, gd_tt, gd_tf, gd_ft, gd_ff, unG_pure, lift_some, bnd_lift, Option.map_some, Option.bind_some, fieldPtr_ref, fieldPtr_ip, nil_ref, nil_ip, nil_fn, ex_tup, fl_agg, List.getElem?_cons_zero, List.getElem?_cons_succ, Nat.zero_add, Nat.add_zero, Nat.reduceAdd, pk_t, pk_f, lss_int, leq_int, gtr_int, geq_int, eql_int, neq_int, not_bool, beq_self_eq_true, if_true, Bool.false_eq_true, if_false, List.nil_append, List.cons_append, List.append_nil, alc_eq, mkm_eq, nNew, nPut, bNew, bPut, nGrd, bGrd, sh_6, h1, withinM]
  · have e1 := fun (k : IntKind) (t : TypeId) => rem_int (P := Tryz.prog) (k := k) (t := t) (a := v) (b := n) (by omega)
    have e2 := tmod_fix v n (by omega)
    have e3 := tmod_rng v n (by omega)
    by_cases h2 : v.tmod n < 0
    · have w := wrap_i64 (a := v.tmod n + n) (by omega) (by omega)
      rw [if_pos h2] at e2
      simp -implicitDefEqProofs only [bnd_some, bo_some, condK_true, condK_false, gdA_undef, decide_true, decide_false, Int.reduceLE, Int.reduceLT, Int.reduceEq, Int.reduceNeg, Int.reduceAdd, gd_tt, gd_tf, gd_ft, gd_ff, unG_pure, lift_some, bnd_lift, Option.map_some, Option.bind_some, fieldPtr_ref, fieldPtr_ip, nil_ref, nil_ip, nil_fn, ex_tup, fl_agg, List.getElem?_cons_zero, List.getElem?_cons_succ, Nat.zero_add, Nat.add_zero, Nat.reduceAdd, pk_t, pk_f, lss_int, leq_int, gtr_int, geq_int, eql_int, neq_int, not_bool, beq_self_eq_true, if_true, Bool.false_eq_true, if_false, List.nil_append, List.cons_append, List.append_nil, alc_eq, mkm_eq, nNew, nPut, bNew, bPut, nGrd, bGrd, sh_6, jn_6x0, h1, e1, h2, add_int, w, withinM, e2]
    · rw [if_neg h2] at e2
      simp -implicitDefEqProofs only [bnd_some, bo_some, condK_true, condK_false, gdA_undef, decide_true, decide_false, Int.reduceLE, Int.reduceLT, Int.reduceEq, Int.reduceNeg, Int.reduceAdd, gd_tt, gd_tf, gd_ft, gd_ff, unG_pure, lift_some, bnd_lift, Option.map_some, Option.bind_some, fieldPtr_ref, fieldPtr_ip, nil_ref, nil_ip, nil_fn, ex_tup, fl_agg, List.getElem?_cons_zero, List.getElem?_cons_succ, Nat.zero_add, Nat.add_zero, Nat.reduceAdd, pk_t, pk_f, lss_int, leq_int, gtr_int, geq_int, eql_int, neq_int, not_bool, beq_self_eq_true, if_true, Bool.false_eq_true, if_false, List.nil_append, List.cons_append, List.append_nil, alc_eq, mkm_eq, nNew, nPut, bNew, bPut, nGrd, bGrd, sh_6, jn_6x0, h1, e1, h2, withinM, e2]
theorem at_sp (H : AHeap) {x : AV} {l : List Int} (hx : SliceIs H x 1 l.length (l.map I)) {i : Int} (h0 : 0 ≤ i) : cl 14 [x, I i] H = some (I (atM l i), H) := by
  refine run_cl rfl rfl (rn_14 _ _ _ _ ?_)
  have e1 := hx.lnS
  by_cases h : i < l.length
  · have a1 := hx.ix (k := .i64) h0 h
    have a2 := hx.ld (i := i.toNat) (by omega)
    have hlt : i.toNat < l.length := by omega
    rw [List.getElem?_map, List.getElem?_eq_getElem hlt] at a2
    have a2' : ld (elemPtr x i.toNat) H = some (I l[i.toNat], H) := a2
    have e : atM l i = l[i.toNat] := by
      unfold atM
      rw [if_pos h, List.getD_eq_getElem?_getD, List.getElem?_eq_getElem hlt]; rfl
    simp -implicitDefEqProofs only [bnd_some, bo_some, condK_true, condK_false, gdA_undef, decide_true, decide_false, Int.reduceLE, Int.reduceLT, Int.reduceEq, Int.reduceNeg, Int.reduceAdd, gd_tt, gd_tf, gd_ft, gd_ff, unG_pure, lift_some, bnd_lift, Option.map_some, Option.bind_some, fieldPtr_ref, fieldPtr_ip, nil_ref, nil_ip, nil_fn, ex_tup, fl_agg, List.getElem?_cons_zero, List.getElem?_cons_succ, Nat.zero_add, Nat.add_zero, Nat.reduceAdd, pk_t, pk_f, lss_int, leq_int, gtr_int, geq_int, eql_int, neq_int, not_bool, beq_self_eq_true, if_true, Bool.false_eq_true, if_false, List.nil_append, List.cons_append, List.append_nil, alc_eq, mkm_eq, nNew, nPut, bNew, bPut, nGrd, bGrd, sh_14, e1, h, a1, a2', e]
  · simp -implicitDefEqProofs only [bnd_some, bo_some, condK_true, condK_false, gdA_undef, decide_true, decide_false, Int.reduceLE, Int.reduceLT, Int.reduceEq, Int.reduceNeg, Int.reduceAdd, gd_tt, gd_tf, gd_ft, gd_ff, unG_pure, lift_some, bnd_lift, Option.map_some, Option.bind_some, fieldPtr_ref, fieldPtr_ip, nil_ref, nil_ip, nil_fn, ex_tup, fl_agg, List.getElem?_cons_zero, List.getElem?_cons_succ, Nat.zero_add, Nat.add_zero, Nat.reduceAdd, pk_t, pk_f, lss_int, leq_int, gtr_int, geq_int, eql_int, neq_int, not_bool, beq_self_eq_true, if_true, Bool.false_eq_true, if_false, List.nil_append, List.cons_append, List.append_nil, alc_eq, mkm_eq, nNew, nPut, bNew, bPut, nGrd, bGrd, sh_14, e1, h, atM]
/-- x[:hi] -/
theorem SliceIs.upto {H : AHeap} {x : AV} {m n : Nat} {cells : List AV} (h : SliceIs H x m n cells) {k : IntKind} {hi : Int} (h0 : 0 ≤ hi) (h1 : hi ≤ n) : ∃ y, slS m x none (some (.s (.int k hi))) none = some y ∧ SliceIs H y m hi.toNat (cells.take (hi.toNat * m)) := by
  obtain ⟨hl, h⟩ := h
  have hlm : hi.toNat * m ≤ n * m := Nat.mul_le_mul_right _ (by omega)
  cases x with
  | sl r g off esz len cap ex =>
    obtain ⟨rfl, rfl, ⟨hr, hc⟩, ty, all, h2, h3, h4⟩ := h
    refine ⟨_, slS_to h0 (by omega), by rw [List.length_take, hl]; omega, rfl, rfl, ⟨hr, by omega⟩, ty, all, h2, by omega, ?_⟩
    rw [h4, List.take_take, Nat.min_eq_left hlm]
  | vs k' esz cs =>
    obtain ⟨rfl, rfl, rfl⟩ := h
    refine ⟨.vs hi.toNat esz (cs.take (hi.toNat * esz)), ?_, by rw [List.length_take, hl]; omega, rfl, rfl, rfl⟩
    simp only [slS, boundA, h0, if_true]
    rw [if_pos ⟨trivial, Nat.zero_le _, by omega⟩]
    simp
  | s v =>
    cases v with
    | slice a b c =>
      cases a with
      | none =>
        obtain ⟨rfl, rfl, rfl⟩ := h
        have h3 : hi = 0 := by omega
        subst h3
        refine ⟨zN, by simp [slS, boundA], ?_⟩
        refine ⟨?_, rfl, rfl, rfl⟩
        simp
      | some a => exact h.elim
    | _ => exact h.elim
  | _ => exact h.elim
theorem copy_sp (H : AHeap) {x : AV} {l : List Int} (hx : SliceIs H x 1 l.length (l.map I)) (hl : l.length < 1000000000) : cl 38 [x] H = some (dat l, H) := by
  by_cases h0 : l = []
  · subst h0
    have e1 : app 3 1 8 zN x H.guard = some (zN, H.guard) := by
      obtain ⟨c1, c2⟩ := hx.guard.cells_
      simp only [app, c1, c2]
      rfl
    refine pure_cl rfl rfl (rn_38 _ _ _ (r := (zN, H.guard)) ?_) (by rw [dat, vsl_nil]; exact freeze_s)
    simp -implicitDefEqProofs only [bnd_some, bo_some, condK_true, condK_false, gdA_undef, decide_true, decide_false, Int.reduceLE, Int.reduceLT, Int.reduceEq, Int.reduceNeg, Int.reduceAdd, gd_tt, gd_tf, gd_ft, gd_ff, unG_pure, lift_some, bnd_lift, Option.map_some, Option.bind_some, fieldPtr_ref, fieldPtr_ip, nil_ref, nil_ip, nil_fn, ex_tup, fl_agg, List.getElem?_cons_zero, List.getElem?_cons_succ, Nat.zero_add, Nat.add_zero, Nat.reduceAdd, pk_t, pk_f, lss_int, leq_int, gtr_int, geq_int, eql_int, neq_int, not_bool, beq_self_eq_true, if_true, Bool.false_eq_true, if_false, List.nil_append, List.cons_append, List.append_nil, alc_eq, mkm_eq, nNew, nPut, bNew, bPut, nGrd, bGrd, sh_38, e1]
  · have e1 := app_nil (e := 3) (by_ := 8) hx.guard (ints_all l) (fun e => h0 (List.eq_nil_of_length_eq_zero e)) (by unfold most; omega) (by unfold most; omega)
    refine pure_cl rfl rfl (rn_38 _ _ _ (r := (.sl H.next 0 0 1 l.length l.length false, H.guard.new (.blk 0 3 (l.map I)))) ?_) (freeze_dat h0 (Nat.le_refl _) (getNew_is rfl))
    simp -implicitDefEqProofs only [bnd_some, bo_some, condK_true, condK_false, gdA_undef, decide_true, decide_false, Int.reduceLE, Int.reduceLT, Int.reduceEq, Int.reduceNeg, Int.reduceAdd, gd_tt, gd_tf, gd_ft, gd_ff, unG_pure, lift_some, bnd_lift, Option.map_some, Option.bind_some, fieldPtr_ref, fieldPtr_ip, nil_ref, nil_ip, nil_fn, ex_tup, fl_agg, List.getElem?_cons_zero, List.getElem?_cons_succ, Nat.zero_add, Nat.add_zero, Nat.reduceAdd, pk_t, pk_f, lss_int, leq_int, gtr_int, geq_int, eql_int, neq_int, not_bool, beq_self_eq_true, if_true, Bool.false_eq_true, if_false, List.nil_append, List.cons_append, List.append_nil, alc_eq, mkm_eq, nNew, nPut, bNew, bPut, nGrd, bGrd, sh_38, e1]
theorem cut_sp (H : AHeap) {x : AV} {l : List Int} (hx : SliceIs H x 1 l.length (l.map I)) {n : Int} (h0 : 0 ≤ n) (hn : n < 1000000000) : cl 13 [x, I n] H = some (dat (l.take n.toNat), H) := by
  refine run_cl rfl rfl (rn_13 _ _ _ _ ?_)
  have e1 := hx.lnS
  obtain ⟨y, e2, e3⟩ := hx.upto (k := .i64) (hi := min (l.length : Int) n) (by omega) (by omega)
  have ht : (min (l.length : Int) n).toNat = (l.take n.toNat).length := by rw [List.length_take]; omega
  rw [ht, Nat.mul_one, ← List.map_take, List.length_take] at e3
  have hm : l.take (min n.toNat l.length) = l.take n.toNat := by
    rcases Nat.le_total n.toNat l.length with h | h
    · rw [Nat.min_eq_left h]
    · rw [Nat.min_eq_right h, List.take_of_length_le (Nat.le_refl _), List.take_of_length_le h]
  rw [hm, ← List.length_take] at e3
  have e4 := copy_sp H e3 (by rw [List.length_take]; omega)
  simp -implicitDefEqProofs only [bnd_some, bo_some, condK_true, condK_false, gdA_undef, decide_true, decide_false, Int.reduceLE, Int.reduceLT, Int.reduceEq, Int.reduceNeg, Int.reduceAdd, gd_tt, gd_tf, gd_ft, gd_ff, unG_pure, lift_some, bnd_lift, Option.map_some, Option.bind_some, fieldPtr_ref, fieldPtr_ip, nil_ref, nil_ip, nil_fn, ex_tup, fl_agg, List.getElem?_cons_zero, List.getElem?_cons_succ, Nat.zero_add, Nat.add_zero, Nat.reduceAdd, pk_t, pk_f, lss_int, leq_int, gtr_int, geq_int, eql_int, neq_int, not_bool, beq_self_eq_true, if_true, Bool.false_eq_true, if_false, List.nil_append, List.cons_append, List.append_nil, alc_eq, mkm_eq, nNew, nPut, bNew, bPut, nGrd, bGrd, sh_13, e1, min_int, e2, e4]

end Go.Proofs.YtlcdejlbmnjlaaaGreat

namespace Go.Proofs.YtlcdejlbmnjlaaaGreat

def SetupA.cfg (s : SetupA) (zi : List Int) : Cfg :=
  ⟨1 + withinM s.nodes 4, 1 + withinM s.lines 4, 1 + withinM s.words 2, 1 + withinM s.sets 2, 1 + withinM s.ways 2, 1 + withinM s.out 3, 1 + withinM s.inn 3, zi.take ((1 + withinM s.lines 4) * (1 + withinM s.words 2)).toNat⟩
theorem ints_is {x : AV} {l : List Int} (h : SliceIs AHeap.empty x 1 l.length (l.map I)) (H : AHeap) : SliceIs H x 1 l.length (l.map I) :=
  h.of_get (Nat.zero_le _) fun r _ hr => absurd hr (Nat.not_lt_zero r)
theorem one_within (v : Int) {n : Int} (h : 1 ≤ n) (h' : n ≤ 1000) : 1 ≤ 1 + withinM v n ∧ 1 + withinM v n ≤ n ∧ IntKind.wrap .i64 (1 + withinM v n) = 1 + withinM v n := by
  have := withinM_rng (v := v) h
  exact ⟨by omega, by omega, wrap_i64 (by omega) (by omega)⟩
theorem cfg_ok (s : SetupA) (zi : List Int) : (s.cfg zi).ok = true := by
  have a1 := one_within s.nodes (n := 4) (by omega) (by omega)
  have a2 := one_within s.lines (n := 4) (by omega) (by omega)
  have a3 := one_within s.words (n := 2) (by omega) (by omega)
  have a4 := one_within s.sets (n := 2) (by omega) (by omega)
  have a5 := one_within s.ways (n := 2) (by omega) (by omega)
  have a6 := one_within s.out (n := 3) (by omega) (by omega)
  have a7 := one_within s.inn (n := 3) (by omega) (by omega)
  have hm : 0 ≤ (1 + withinM s.lines 4) * (1 + withinM s.words 2) := Int.mul_nonneg (by omega) (by omega)
  simp only [Cfg.ok, SetupA.cfg, Bool.and_eq_true, List.length_take]
  obtain ⟨b1, c1, _⟩ := a1
  obtain ⟨b2, c2, _⟩ := a2
  obtain ⟨b3, c3, _⟩ := a3
  obtain ⟨b4, c4, _⟩ := a4
  obtain ⟨b5, c5, _⟩ := a5
  obtain ⟨b6, c6, _⟩ := a6
  obtain ⟨b7, c7, _⟩ := a7
  generalize (1 + withinM s.lines 4) * (1 + withinM s.words 2) = z at hm ⊢
  exact ⟨⟨⟨⟨⟨⟨⟨⟨decide_eq_true b1, decide_eq_true (by omega)⟩, ⟨decide_eq_true b2, decide_eq_true (by omega)⟩⟩, ⟨decide_eq_true b3, decide_eq_true (by omega)⟩⟩, ⟨decide_eq_true b4, decide_eq_true (by omega)⟩⟩, ⟨decide_eq_true b5, decide_eq_true (by omega)⟩⟩, ⟨decide_eq_true b6, decide_eq_true (by omega)⟩⟩, ⟨decide_eq_true b7, decide_eq_true (by omega)⟩⟩, decide_eq_true (by omega)⟩
theorem frz_cfg (c : Cfg) : Frz 9 (.agg c.av) := frz_agg fun x hx => by
  simp only [Cfg.av, List.mem_cons, List.not_mem_nil, or_false] at hx
  rcases hx with rfl | rfl | rfl | rfl | rfl | rfl | rfl | rfl <;> first | exact frz_s | exact frz_dat
theorem config_sp (H : AHeap) {s : SetupA} {zi zw zk za zv : List Int} (h : s.Ok zi zw zk za zv) (hi : SliceIs AHeap.empty s.init 1 zi.length (zi.map I)) (hc : s.init.isCell = true ∧ s.who.isCell = true ∧ s.kinds.isCell = true ∧ s.addrs.isCell = true ∧ s.values.isCell = true) :
    cl 4 [.agg s.cells] H = some (.agg (s.cfg zi).av, H) := by
  refine pure_val rfl rfl (rn_4 _ _ _) ?_ (frz_cfg _)
  have a1 := one_within s.nodes (n := 4) (by omega) (by omega)
  have a2 := one_within s.lines (n := 4) (by omega) (by omega)
  have a3 := one_within s.words (n := 2) (by omega) (by omega)
  have a4 := one_within s.sets (n := 2) (by omega) (by omega)
  have a5 := one_within s.ways (n := 2) (by omega) (by omega)
  have a6 := one_within s.out (n := 3) (by omega) (by omega)
  have a7 := one_within s.inn (n := 3) (by omega) (by omega)
  have hm : 0 ≤ (1 + withinM s.lines 4) * (1 + withinM s.words 2) := Int.mul_nonneg (by omega) (by omega)
  have hm2 : (1 + withinM s.lines 4) * (1 + withinM s.words 2) ≤ 4 * 2 := Int.mul_le_mul (by omega) (by omega) (by omega) (by omega)
  have w := wrap_i64 (a := (1 + withinM s.lines 4) * (1 + withinM s.words 2)) (by omega) (by omega)
  have e1 := fun H v => within64 H v 4 (by omega)
  have e2 := fun H v => within64 H v 2 (by omega)
  have e3 := fun H v => within64 H v 3 (by omega)
  have e4 := fun H => cut_sp H (ints_is hi H) hm (by omega)
  have hall : s.cells.all AV.isCell = true := by
    simp only [SetupA.cells, List.all_cons, List.all_nil, hc, Bool.and_true]
    rfl
  simp only [SetupA.cells] at hall
  have ev : ∀ a b c d e f k : Int, bd 26 [(0, I a), (1, I b), (2, I c), (3, I d), (4, I e), (5, I f), (6, I k)] = some (.agg [I a, I b, I c, I d, I e, I f, I k, zN]) := fun _ _ _ _ _ _ _ => by
    simp -implicitDefEqProofs only [bnd_some, bo_some, condK_true, condK_false, gdA_undef, decide_true, decide_false, Int.reduceLE, Int.reduceLT, Int.reduceEq, Int.reduceNeg, Int.reduceAdd, gd_tt, gd_tf, gd_ft, gd_ff, unG_pure, lift_some, bnd_lift, Option.map_some, Option.bind_some, fieldPtr_ref, fieldPtr_ip, nil_ref, nil_ip, nil_fn, ex_tup, fl_agg, List.getElem?_cons_zero, List.getElem?_cons_succ, Nat.zero_add, Nat.add_zero, Nat.reduceAdd, pk_t, pk_f, lss_int, leq_int, gtr_int, geq_int, eql_int, neq_int, not_bool, beq_self_eq_true, if_true, Bool.false_eq_true, if_false, List.nil_append, List.cons_append, List.append_nil, alc_eq, mkm_eq, nNew, nPut, bNew, bPut, nGrd, bGrd, bd_26, bldA, fillA, pl_26]
    rfl
  have zc : zN.cells = [zN] := rfl
  have zi' : zN.isCell = true := rfl
  simp -implicitDefEqProofs only [bnd_some, bo_some, condK_true, condK_false, gdA_undef, decide_true, decide_false, Int.reduceLE, Int.reduceLT, Int.reduceEq, Int.reduceNeg, Int.reduceAdd, gd_tt, gd_tf, gd_ft, gd_ff, unG_pure, lift_some, bnd_lift, Option.map_some, Option.bind_some, fieldPtr_ref, fieldPtr_ip, nil_ref, nil_ip, nil_fn, ex_tup, fl_agg, List.getElem?_cons_zero, List.getElem?_cons_succ, Nat.zero_add, Nat.add_zero, Nat.reduceAdd, pk_t, pk_f, lss_int, leq_int, gtr_int, geq_int, eql_int, neq_int, not_bool, beq_self_eq_true, if_true, Bool.false_eq_true, if_false, List.nil_append, List.cons_append, List.append_nil, alc_eq, mkm_eq, nNew, nPut, bNew, bPut, nGrd, bGrd, ldN_is, ldN_lt, ldaN_is, ldaN_lt, stN_is, stN_lt, Nat.lt_add_one, ne_eq, nx1, nx2, nx3, ny1, ny2, ny3, not_false_eq_true, List.length_cons, List.length_nil, Nat.reduceLeDiff, setAt, List.take_succ_cons, List.take_zero, List.drop_succ_cons, List.drop_zero, cells_dat, cells_int, cells_bool, cells_agg, List.all_cons, List.all_nil, isCell_int, isCell_bool, isCell_dat, isCell_ref, isCell_nil, isCell_vsl, cells_vsl, av_len_cfg, av_len_pkt, av_len_opn, av_len_evn, av_len_ent, av_len_row, av_len_deal, av_len_pck, tk_cfg, tk_pkt, tk_opn, tk_evn, tk_ent, tk_row, tk_deal, tk_pck, all_cfg, all_pkt, all_opn, all_evn, all_ent, all_row, all_deal, all_pck, List.drop_nil, Bool.and_true, Bool.and_self, and_self, Nat.le_refl, true_and, and_true, Nat.le_add_right, leS, ltS, sh_4, box_agg hall, SetupA.cells, e1, e2, e3, add_int, a1, a2, a3, a4, a5, a6, a7, ev, mul_int, w, e4, zi']
  rfl

end Go.Proofs.YtlcdejlbmnjlaaaGreat

namespace Go.Proofs.YtlcdejlbmnjlaaaGreat

def kindOf (z : Int) : Int := [1, 2, 3, 1, 2, 1, 4].getD (withinM z 7).toNat 0
def opOf (c : Cfg) (zk za zv : List Int) (i : Nat) : Opn :=
  ⟨kindOf (atM zk i), withinM (atM za i) (c.lines * c.words), if kindOf (atM zk i) = 2 ∨ kindOf (atM zk i) = 3 then atM zv i else 0⟩
def progStep (c : Cfg) (zw zk za zv : List Int) (ps : List (List Opn)) (i : Nat) : List (List Opn) :=
  let n := (withinM (atM zw i) c.nodes).toNat
  if (ps.getD n []).length < 24 then ps.set n (ps.getD n [] ++ [opOf c zk za zv i]) else ps
def progsTo (c : Cfg) (zw zk za zv : List Int) : Nat → List (List Opn)
  | 0 => List.replicate c.nodes.toNat []
  | i + 1 => progStep c zw zk za zv (progsTo c zw zk za zv i) i
def progsOf (c : Cfg) (zw zk za zv : List Int) (most : Nat) : List (List Opn) := progsTo c zw zk za zv (min zw.length most)
def outO (ps : List (List Opn)) : List Cell := ps.map fun l => .seq 3 (l.flatMap Opn.av)
theorem progsTo_len (c : Cfg) (zw zk za zv : List Int) : ∀ i, (progsTo c zw zk za zv i).length = c.nodes.toNat
  | 0 => by simp [progsTo]
  | i + 1 => by
    simp only [progsTo, progStep]
    split
    · rw [List.length_set, progsTo_len c zw zk za zv i]
    · exact progsTo_len c zw zk za zv i
theorem ix_blk {H : AHeap} {r n j : Nat} {ty : TypeId} {xs : List AV} (hg : H.get r = .blk 0 ty xs) (h : j < n) {k : IntKind} : ix 1 (.sl r 0 0 1 n n true) (.s (.int k j)) H = some (.ref r 0 j, H) := by
  have h1 : (0 : Int) ≤ j ∧ (j : Int) < n := by omega
  simp [ix, lookB, ixO, h, watchV, hg, genO, AObj.gen]
theorem outO_get {ps : List (List Opn)} {j : Nat} (h : j < ps.length) : (outO ps)[j]? = some (.seq 3 ((ps.getD j []).flatMap Opn.av)) := by
  simp [outO, List.getD_eq_getElem?_getD, List.getElem?_eq_getElem h]
theorem outO_set {ps : List (List Opn)} {j : Nat} {l : List Opn} : (outO ps).set j (.seq 3 (l.flatMap Opn.av)) = outO (ps.set j l) := by
  simp [outO, List.map_set]
section
variable {H : AHeap} {s : SetupA} {zi zw zk za zv : List Int}
/-- One round of Programs. -/
theorem progs_round {C : Callee} (hCa : C 14 = cl 14) (hCw : C 6 = cl 6) (h : s.Ok zi zw zk za zv) (hi : SliceIs AHeap.empty s.init 1 zi.length (zi.map I)) (hw : SliceIs AHeap.empty s.who 1 zw.length (zw.map I)) (hk : SliceIs AHeap.empty s.kinds 1 zk.length (zk.map I)) (ha : SliceIs AHeap.empty s.addrs 1 za.length (za.map I)) (hv : SliceIs AHeap.empty s.values 1 zv.length (zv.map I))
    {c : Cfg} (hc : c.ok = true) {p q r n : Nat} {ty ty' : TypeId} (hp : p < H.next) (hq : q < H.next) (gp : H.get p = .blk 0 ty s.cells) (gq : H.get q = .blk 0 ty' c.av) {b : Nat} {ps : List (List Opn)} (G : Good b H (upd nil0 r (outO ps))) (hb : H.base ≤ b) (hn : ps.length = n) (hnc : (n : Int) = c.nodes)
    {i : Nat} {mo : Int} (him : (i : Int) < mo) (hm : mo ≤ 1000) (hil : i < zw.length) (hz : ∀ j, j < n → ps.getD j [] = [] → ld (.ref r 0 j) H = some (zN, H)) :
    ∃ H', lp_5x0 C [I mo, .ref p 0 0, .ref q 0 0, .sl r 0 0 1 n n true, I i] H = lp_5x0 C [I mo, .ref p 0 0, .ref q 0 0, .sl r 0 0 1 n n true, I (i + 1 : Nat)] H' ∧ Good b H' (upd nil0 r (outO (progStep c zw zk za zv ps i))) ∧ Step b H H' ∧ (∀ j, j < n → (progStep c zw zk za zv ps i).getD j [] = [] → ld (.ref r 0 j) H' = some (zN, H')) := by
  have Bd := cfgB hc
  have e8 : ld (.ref p 0 8) H = some (s.who, H) := by rw [ld_blk gp]; rfl
  have e9 : ld (.ref p 0 9) H = some (s.kinds, H) := by rw [ld_blk gp]; rfl
  have e10 : ld (.ref p 0 10) H = some (s.addrs, H) := by rw [ld_blk gp]; rfl
  have e11 : ld (.ref p 0 11) H = some (s.values, H) := by rw [ld_blk gp]; rfl
  have f0 : ld (.ref q 0 0) H = some (I c.nodes, H) := by rw [ld_blk gq]; rfl
  have f1 : ld (.ref q 0 1) H = some (I c.lines, H) := by rw [ld_blk gq]; rfl
  have f2 : ld (.ref q 0 2) H = some (I c.words, H) := by rw [ld_blk gq]; rfl
  have w0 := fun H => (ints_is hw H).lnS
  have h1 : (i : Int) < zw.length := by omega
  have a1 := fun H => at_sp H (ints_is hk H) (i := (i : Int)) (by omega)
  have a2 := fun H => at_sp H (ints_is ha H) (i := (i : Int)) (by omega)
  have a3 := fun H => at_sp H (ints_is hv H) (i := (i : Int)) (by omega)
  have k1 := fun H v => within64 H v 7 (by omega)
  have hlw := Bd.addrs
  have w := wrap_i64 (a := c.lines * c.words) (by omega) (by omega)
  have k2 := fun H v => within64 H v (c.lines * c.words) (by omega)
  have k3 := fun H v => within64 H v c.nodes (by have := Bd.nodes; omega)
  rw [← hCa] at a1 a2 a3
  rw [← hCw] at k1 k2 k3
  have eb7 : ∀ H, bs 22 7 [(0, I 1), (1, I 2), (2, I 3), (3, I 1), (4, I 2), (5, I 1), (6, I 4)] H = some (.sl H.next 0 0 1 7 7 true, H.new (.blk 0 3 [I 1, I 2, I 3, I 1, I 2, I 1, I 4])) := fun H =>
    (bs_22 (by decide)).trans rfl
  let b7 : AObj := .blk 0 3 [I 1, I 2, I 3, I 1, I 2, I 1, I 4]
  let Hc := (H.new b7).new (.blk 0 48 [zI, zI, zI])
  have hK := withinM_rng (v := atM zk i) (n := 7) (by omega)
  have s7 : SliceIs Hc (.sl H.next 0 0 1 7 7 true) 1 7 [I 1, I 2, I 3, I 1, I 2, I 1, I 4] := (sl_new (n := 7) (m := 1) rfl).new _
  have i7 := s7.ix (k := .i64) hK.1 hK.2
  have l7 := s7.ld (i := (withinM (atM zk i) 7).toNat) (by omega)
  have l7' : ld (elemPtr (.sl H.next 0 0 1 7 7 true) (withinM (atM zk i) 7).toNat) Hc = some (I (kindOf (atM zk i)), Hc) := by
    rw [l7]
    unfold kindOf
    generalize hk' : (withinM (atM zk i) 7).toNat = kk
    have : kk < 7 := by omega
    match kk, this with
    | 0, _ | 1, _ | 2, _ | 3, _ | 4, _ | 5, _ | 6, _ => rfl
  obtain ⟨o, ho⟩ : ∃ o : Opn, o = opOf c zk za zv i := ⟨_, rfl⟩
  let Hd := (H.new b7).new (.blk 0 48 o.av)
  have hcn := withinM_rng (v := atM zw i) (n := c.nodes) (by have := Bd.nodes; omega)
  obtain ⟨j, hj⟩ : ∃ j : Nat, withinM (atM zw i) c.nodes = j := ⟨(withinM (atM zw i) c.nodes).toNat, by omega⟩
  have hjn : j < n := by omega
  have wi := fun H => (ints_is hw H).ix (k := .i64) (i := (i : Int)) (by omega) h1
  have wl : ∀ H, ld (elemPtr s.who (i : Int).toNat) H = some (I (atM zw i), H) := fun H => by
    rw [Int.toNat_natCast, (ints_is hw H).ld hil, List.getElem?_map, List.getElem?_eq_getElem hil]
    unfold atM
    rw [if_pos h1, Int.toNat_natCast, List.getD_eq_getElem?_getD, List.getElem?_eq_getElem hil]
    rfl
  have G1 : Good b Hd (upd nil0 r (outO ps)) := (G.new _).new _
  have og := outO_get (ps := ps) (j := j) (by omega)
  obtain ⟨x, hx, cu⟩ := G1.seq upd_same og
  have hlen := (cu.is (by decide) (flat_len av_len_opn _)).lnS
  have hg : ∃ ty xs, Hd.get r = .blk 0 ty xs := by
    obtain ⟨_, τ, hR⟩ := G1
    obtain ⟨ty, xs, hg, _⟩ := (hR r _ upd_same).blk
    exact ⟨ty, xs, hg⟩
  obtain ⟨rty, rxs, hg⟩ := hg
  have ix1 := ix_blk (k := .i64) hg hjn
  have h6 : (i : Int) + 1 = ((i + 1 : Nat) : Int) := by omega
  have h7 := wrap_i64 (a := ((i + 1 : Nat) : Int)) (by omega) (by omega)
  have f0' : ld (.ref q 0 0) Hd = some (I c.nodes, Hd) := by
    simp only [Hd]
    rw [ldN_lt (by rw [nNew]; omega), ldN_lt hq, f0]; rfl
  have e8' : ld (.ref p 0 8) Hd = some (s.who, Hd) := by
    simp only [Hd]
    rw [ldN_lt (by rw [nNew]; omega), ldN_lt hp, e8]; rfl
  have hzd : ∀ j, j < n → ps.getD j [] = [] → ld (.ref r 0 j) Hd = some (zN, Hd) := fun j' h1 h2 => by
    simp only [Hd]
    rw [ldN_lt (by rw [nNew]; have := G.lt upd_same; omega), ldN_lt (G.lt upd_same), hz j' h1 h2]; rfl
  have sd : Step b H Hd := (Step.new _ G.1).trans (Step.new _ (G.new _).1)
  have tail : ∃ H', jn_5x0 C (I mo) (.ref p 0 0) (.ref q 0 0) (.sl r 0 0 1 n n true) (I i) (.ref (H.next + 1) 0 0) Hd = lp_5x0 C [I mo, .ref p 0 0, .ref q 0 0, .sl r 0 0 1 n n true, I (i + 1 : Nat)] H' ∧ Good b H' (upd nil0 r (outO (progStep c zw zk za zv ps i))) ∧ Step b H H' ∧ (∀ j, j < n → (progStep c zw zk za zv ps i).getD j [] = [] → ld (.ref r 0 j) H' = some (zN, H')) := by
    by_cases hl : (ps.getD j []).length < 24
    · have hl' : ((ps.getD j []).length : Int) < 24 := by omega
      obtain ⟨x', Hf, t1, fit, n1, b1, k1'⟩ := (cu.new (.blk 0 48 o.av)).app (e := 48) (by_ := 24) (by rw [bNew]; exact hb) (by decide) (flat_len av_len_opn _) (sl_new (ex := true) (n := 1) (m := 3) (l := o.av) rfl) (all_opn o) (by unfold most; omega) (by unfold most; omega)
      have hrl : r < Hd.next := G1.lt upd_same
      have hxr : nameOf x ≠ some r := by
        rcases cu.own with ⟨rfl, _⟩ | ⟨r', gg, off, n', cap, ex, ty2, all, rfl, kr, _⟩
        · intro e; cases e
        · intro e; simp only [nameOf, Option.some.injEq] at e; exact kr e
      have hgf : Hf.get r = .blk 0 rty rxs := by
        rw [k1' r (by rw [nNew]; omega) hxr, getNew_lt hrl, hg]
      have ix2 := ix_blk (k := .i64) hgf hjn
      obtain ⟨Hg, t2, G2, s2, n2⟩ := (G1.new (.blk 0 48 o.av)).seat upd_same og (cu.new _) n1 (by rw [b1, bNew]; exact hb) k1' fit
      have hfs : Step b (Hd.new (.blk 0 48 o.av)) Hf := ⟨b1, n1, fun r' hr' => k1' r' (by have := G1.1; rw [nNew]; omega) (cu.low hr')⟩
      refine ⟨Hg, ?_, ?_, ((sd.trans (Step.new _ G1.1)).trans hfs).trans s2, ?_⟩
      · have ldo : lda 3 (.ref (H.next + 1) 0 0) Hd = some (.agg o.av, Hd) := (lda_blk (off := 0) (n := 3) (xs := o.av) (getNew_is (by rw [nNew])) (Nat.le_refl 3)).trans rfl
        have eb := bsl_one (e := 48) (m := 3) (z := [zI, zI, zI]) (v := .agg o.av) (H := Hd) rfl rfl (all_opn o)
        simp only [cells_agg] at eb
        simp -implicitDefEqProofs only [bnd_some, bo_some, condK_true, condK_false, gdA_undef, decide_true, decide_false, Int.reduceLE, Int.reduceLT, Int.reduceEq, Int.reduceNeg, Int.reduceAdd, gd_tt, gd_tf, gd_ft, gd_ff, unG_pure, lift_some, bnd_lift, Option.map_some, Option.bind_some, fieldPtr_ref, fieldPtr_ip, nil_ref, nil_ip, nil_fn, ex_tup, fl_agg, List.getElem?_cons_zero, List.getElem?_cons_succ, Nat.zero_add, Nat.add_zero, Nat.reduceAdd, pk_t, pk_f, lss_int, leq_int, gtr_int, geq_int, eql_int, neq_int, not_bool, beq_self_eq_true, if_true, Bool.false_eq_true, if_false, List.nil_append, List.cons_append, List.append_nil, alc_eq, mkm_eq, nNew, nPut, bNew, bPut, nGrd, bGrd, jn_5x0, jn_5x1, e8', wi, wl, f0', k3, hj, ix1, hx, hlen, hl', ldo, bs_31, Nat.one_mul, Nat.reduceLeDiff, eb, t1, ix2, t2, add_int, h6, h7]
      · rw [upd_upd] at G2
        have e : progStep c zw zk za zv ps i = ps.set j (ps.getD j [] ++ [o]) := by
          simp only [progStep, hj, Int.toNat_natCast]
          rw [if_pos hl, ho]
        rw [e, ← outO_set, List.flatMap_append, List.flatMap_cons, List.flatMap_nil, List.append_nil]
        exact G2
      · have e : progStep c zw zk za zv ps i = ps.set j (ps.getD j [] ++ [o]) := by
          simp only [progStep, hj, Int.toNat_natCast]
          rw [if_pos hl, ho]
        intro j' hj' hem
        rw [e] at hem
        have hne : j' ≠ j := fun e' => by
          subst e'
          rw [List.getD_eq_getElem?_getD, List.getElem?_set_self (by omega)] at hem
          simp at hem
        have hem' : ps.getD j' [] = [] := by
          rw [List.getD_eq_getElem?_getD, List.getElem?_set_ne (by omega)] at hem
          rw [List.getD_eq_getElem?_getD]; exact hem
        have l0 := hzd j' hj' hem'
        rw [ld_blk hg] at l0
        have hxj : rxs[j']? = some zN := by
          cases hx' : rxs[j']? with
          | none => rw [hx'] at l0; cases l0
          | some v => rw [hx'] at l0; simp only [Option.map_some, Option.some.injEq, Prod.mk.injEq] at l0; rw [l0.1]
        rw [st_ref'] at t2
        simp only [hgf] at t2
        split at t2
        · rename_i hc'
          simp only [Option.some.injEq, Prod.mk.injEq, true_and] at t2
          subst t2
          obtain ⟨_, _, hx1, _, hx5⟩ := hc'
          rw [ld_blk (getPut_eq), setA_get hx5, if_neg (by omega), hxj]
          rfl
        · cases t2
    · have hl' : ¬ ((ps.getD j []).length : Int) < 24 := by omega
      refine ⟨Hd, ?_, ?_, sd, ?_⟩
      · simp -implicitDefEqProofs only [bnd_some, bo_some, condK_true, condK_false, gdA_undef, decide_true, decide_false, Int.reduceLE, Int.reduceLT, Int.reduceEq, Int.reduceNeg, Int.reduceAdd, gd_tt, gd_tf, gd_ft, gd_ff, unG_pure, lift_some, bnd_lift, Option.map_some, Option.bind_some, fieldPtr_ref, fieldPtr_ip, nil_ref, nil_ip, nil_fn, ex_tup, fl_agg, List.getElem?_cons_zero, List.getElem?_cons_succ, Nat.zero_add, Nat.add_zero, Nat.reduceAdd, pk_t, pk_f, lss_int, leq_int, gtr_int, geq_int, eql_int, neq_int, not_bool, beq_self_eq_true, if_true, Bool.false_eq_true, if_false, List.nil_append, List.cons_append, List.append_nil, alc_eq, mkm_eq, nNew, nPut, bNew, bPut, nGrd, bGrd, jn_5x0, jn_5x1, e8', wi, wl, f0', k3, hj, ix1, hx, hlen, hl', add_int, h6, h7]
      · have e : progStep c zw zk za zv ps i = ps := by
          simp only [progStep, hj, Int.toNat_natCast]
          rw [if_neg hl]
        rw [e]; exact G1
      · have e : progStep c zw zk za zv ps i = ps := by
          simp only [progStep, hj, Int.toNat_natCast]
          rw [if_neg hl]
        rw [e]
        exact hzd
  obtain ⟨H', t1, t2⟩ := tail
  refine ⟨H', ?_, t2⟩
  simp only [Hd, Hc, b7] at t1 i7 l7'
  have hb0 : H.base ≤ H.next := Nat.le_trans hb G.1
  have hb1 : H.base ≤ H.next + 1 := by omega
  rw [le_5x0, ← t1, ho]
  by_cases c2 : kindOf (atM zk i) = 2
  · have oe : (opOf c zk za zv i).av = [I (kindOf (atM zk i)), I (withinM (atM za i) (c.lines * c.words)), I (atM zv i)] := by simp [opOf, Opn.av, c2]
    simp -implicitDefEqProofs only [bnd_some, bo_some, condK_true, condK_false, gdA_undef, decide_true, decide_false, Int.reduceLE, Int.reduceLT, Int.reduceEq, Int.reduceNeg, Int.reduceAdd, gd_tt, gd_tf, gd_ft, gd_ff, unG_pure, lift_some, bnd_lift, Option.map_some, Option.bind_some, fieldPtr_ref, fieldPtr_ip, nil_ref, nil_ip, nil_fn, ex_tup, fl_agg, List.getElem?_cons_zero, List.getElem?_cons_succ, Nat.zero_add, Nat.add_zero, Nat.reduceAdd, pk_t, pk_f, lss_int, leq_int, gtr_int, geq_int, eql_int, neq_int, not_bool, beq_self_eq_true, if_true, Bool.false_eq_true, if_false, List.nil_append, List.cons_append, List.append_nil, alc_eq, mkm_eq, nNew, nPut, bNew, bPut, nGrd, bGrd, ldN_is, ldN_lt, ldaN_is, ldaN_lt, stN_is, stN_lt, Nat.lt_add_one, ne_eq, nx1, nx2, nx3, ny1, ny2, ny3, not_false_eq_true, List.length_cons, List.length_nil, Nat.reduceLeDiff, setAt, List.take_succ_cons, List.take_zero, List.drop_succ_cons, List.drop_zero, cells_dat, cells_int, cells_bool, cells_agg, List.all_cons, List.all_nil, isCell_int, isCell_bool, isCell_dat, isCell_ref, isCell_nil, isCell_vsl, cells_vsl, av_len_cfg, av_len_pkt, av_len_opn, av_len_evn, av_len_ent, av_len_row, av_len_deal, av_len_pck, tk_cfg, tk_pkt, tk_opn, tk_evn, tk_ent, tk_row, tk_deal, tk_pck, all_cfg, all_pkt, all_opn, all_evn, all_ent, all_row, all_deal, all_pck, List.drop_nil, Bool.and_true, Bool.and_self, and_self, Nat.le_refl, true_and, and_true, Nat.le_add_right, leS, ltS, hp, hq, e8, e9, e10, e11, f1, f2, w0, h1, him, eb7, a1, a2, a3, k1, k2, i7, l7', mul_int, w, bd_48, bldA, fillA, pl_48, hb1, hb0, c2, oe]
  · by_cases c3 : kindOf (atM zk i) = 3
    · have oe : (opOf c zk za zv i).av = [I (kindOf (atM zk i)), I (withinM (atM za i) (c.lines * c.words)), I (atM zv i)] := by simp [opOf, Opn.av, c3]
      simp -implicitDefEqProofs only [bnd_some, bo_some, condK_true, condK_false, gdA_undef, decide_true, decide_false, Int.reduceLE, Int.reduceLT, Int.reduceEq, Int.reduceNeg, Int.reduceAdd, gd_tt, gd_tf, gd_ft, gd_ff, unG_pure, lift_some, bnd_lift, Option.map_some, Option.bind_some, fieldPtr_ref, fieldPtr_ip, nil_ref, nil_ip, nil_fn, ex_tup, fl_agg, List.getElem?_cons_zero, List.getElem?_cons_succ, Nat.zero_add, Nat.add_zero, Nat.reduceAdd, pk_t, pk_f, lss_int, leq_int, gtr_int, geq_int, eql_int, neq_int, not_bool, beq_self_eq_true, if_true, Bool.false_eq_true, if_false, List.nil_append, List.cons_append, List.append_nil, alc_eq, mkm_eq, nNew, nPut, bNew, bPut, nGrd, bGrd, ldN_is, ldN_lt, ldaN_is, ldaN_lt, stN_is, stN_lt, Nat.lt_add_one, ne_eq, nx1, nx2, nx3, ny1, ny2, ny3, not_false_eq_true, List.length_cons, List.length_nil, Nat.reduceLeDiff, setAt, List.take_succ_cons, List.take_zero, List.drop_succ_cons, List.drop_zero, cells_dat, cells_int, cells_bool, cells_agg, List.all_cons, List.all_nil, isCell_int, isCell_bool, isCell_dat, isCell_ref, isCell_nil, isCell_vsl, cells_vsl, av_len_cfg, av_len_pkt, av_len_opn, av_len_evn, av_len_ent, av_len_row, av_len_deal, av_len_pck, tk_cfg, tk_pkt, tk_opn, tk_evn, tk_ent, tk_row, tk_deal, tk_pck, all_cfg, all_pkt, all_opn, all_evn, all_ent, all_row, all_deal, all_pck, List.drop_nil, Bool.and_true, Bool.and_self, and_self, Nat.le_refl, true_and, and_true, Nat.le_add_right, leS, ltS, hp, hq, e8, e9, e10, e11, f1, f2, w0, h1, him, eb7, a1, a2, a3, k1, k2, i7, l7', mul_int, w, bd_48, bldA, fillA, pl_48, hb1, hb0, c2, c3, oe]
    · have oe : (opOf c zk za zv i).av = [I (kindOf (atM zk i)), I (withinM (atM za i) (c.lines * c.words)), I 0] := by simp [opOf, Opn.av, c2, c3]
      simp -implicitDefEqProofs only [bnd_some, bo_some, condK_true, condK_false, gdA_undef, decide_true, decide_false, Int.reduceLE, Int.reduceLT, Int.reduceEq, Int.reduceNeg, Int.reduceAdd, gd_tt, gd_tf, gd_ft, gd_ff, unG_pure, lift_some, bnd_lift, Option.map_some, Option.bind_some, fieldPtr_ref, fieldPtr_ip, nil_ref, nil_ip, nil_fn, ex_tup, fl_agg, List.getElem?_cons_zero, List.getElem?_cons_succ, Nat.zero_add, Nat.add_zero, Nat.reduceAdd, pk_t, pk_f, lss_int, leq_int, gtr_int, geq_int, eql_int, neq_int, not_bool, beq_self_eq_true, if_true, Bool.false_eq_true, if_false, List.nil_append, List.cons_append, List.append_nil, alc_eq, mkm_eq, nNew, nPut, bNew, bPut, nGrd, bGrd, ldN_is, ldN_lt, ldaN_is, ldaN_lt, stN_is, stN_lt, Nat.lt_add_one, ne_eq, nx1, nx2, nx3, ny1, ny2, ny3, not_false_eq_true, List.length_cons, List.length_nil, Nat.reduceLeDiff, setAt, List.take_succ_cons, List.take_zero, List.drop_succ_cons, List.drop_zero, cells_dat, cells_int, cells_bool, cells_agg, List.all_cons, List.all_nil, isCell_int, isCell_bool, isCell_dat, isCell_ref, isCell_nil, isCell_vsl, cells_vsl, av_len_cfg, av_len_pkt, av_len_opn, av_len_evn, av_len_ent, av_len_row, av_len_deal, av_len_pck, tk_cfg, tk_pkt, tk_opn, tk_evn, tk_ent, tk_row, tk_deal, tk_pck, all_cfg, all_pkt, all_opn, all_evn, all_ent, all_row, all_deal, all_pck, List.drop_nil, Bool.and_true, Bool.and_self, and_self, Nat.le_refl, true_and, and_true, Nat.le_add_right, leS, ltS, hp, hq, e8, e9, e10, e11, f1, f2, w0, h1, him, eb7, a1, a2, a3, k1, k2, i7, l7', mul_int, w, bd_48, bldA, fillA, pl_48, hb1, hb0, c2, c3, oe]
end

end Go.Proofs.YtlcdejlbmnjlaaaGreat

namespace Go.Proofs.YtlcdejlbmnjlaaaGreat

section
variable {H : AHeap} {s : SetupA} {zi zw zk za zv : List Int}
/-- The run of Programs: its rows lie in memory of its own. -/
theorem programs_run {C : Callee} (hCa : C 14 = cl 14) (hCw : C 6 = cl 6) (hCc : C 4 = cl 4) (H : AHeap) (hbn : H.base ≤ H.next) (h : s.Ok zi zw zk za zv) (hi : SliceIs AHeap.empty s.init 1 zi.length (zi.map I)) (hw : SliceIs AHeap.empty s.who 1 zw.length (zw.map I)) (hk : SliceIs AHeap.empty s.kinds 1 zk.length (zk.map I)) (ha : SliceIs AHeap.empty s.addrs 1 za.length (za.map I)) (hv : SliceIs AHeap.empty s.values 1 zv.length (zv.map I))
    (hc : s.init.isCell = true ∧ s.who.isCell = true ∧ s.kinds.isCell = true ∧ s.addrs.isCell = true ∧ s.values.isCell = true) {mo : Nat} (hm : mo ≤ 1000) :
    ∃ Hz r, r = H.next + 2 ∧ sh_5 C (.agg s.cells) (I mo) H = some (.sl r 0 0 1 (s.cfg zi).nodes.toNat (s.cfg zi).nodes.toNat true, Hz) ∧ Good (H.next + 2) Hz (upd nil0 r (outO (progsOf (s.cfg zi) zw zk za zv mo))) ∧ Step H.next H Hz ∧ (∀ j, j < (s.cfg zi).nodes.toNat → (progsOf (s.cfg zi) zw zk za zv mo).getD j [] = [] → ld (.ref r 0 j) Hz = some (zN, Hz)) := by
  let c := s.cfg zi
  have hck : c.ok = true := cfg_ok s zi
  have Bd := cfgB hck
  let n := c.nodes.toNat
  let H1 := H.new (.blk 0 24 s.cells)
  let H2 := H1.new (.blk 0 26 c.av)
  let H3 := H2.new (.blk 0 31 (zerosL [zN] n))
  let r := H.next + 2
  have hall : s.cells.all AV.isCell = true := by
    simp only [SetupA.cells, List.all_cons, List.all_nil, hc, Bool.and_true]
    rfl
  have M0 : Made H2 H3 (upd nil0 r (outO (progsTo c zw zk za zv 0))) := by
    refine made_box ?_ ?_ fun i cc x hcc hx => ?_
    · rw [zerosL_one]; simp; right; rfl
    · rw [zerosL_one]; simp [outO, progsTo, n]
    · rw [zerosL_one, List.getElem?_replicate] at hx
      simp only [outO, progsTo, List.map_replicate, List.getElem?_replicate] at hcc
      by_cases hin : i < n
      · rw [if_pos hin] at hx hcc
        simp only [Option.some.injEq] at hx hcc
        subst hx; subst hcc
        exact .inr ⟨rfl, 3, rfl⟩
      · rw [if_neg hin] at hx
        cases hx
  have gp : H2.get H.next = .blk 0 24 s.cells := by
    simp only [H2]
    rw [getNew_lt (by simp only [H1, nNew]; omega)]
    exact getNew_is rfl
  have gq : H2.get (H.next + 1) = .blk 0 26 c.av := getNew_is rfl
  have b2 : H2.base = H.base := rfl
  have n2 : H2.next = H.next + 2 := rfl
  have key : ∀ k i, i + k = min zw.length mo → ∀ Hi, Good H2.next Hi (upd nil0 r (outO (progsTo c zw zk za zv i))) → Step H2.next H2 Hi → (∀ j, j < n → (progsTo c zw zk za zv i).getD j [] = [] → ld (.ref r 0 j) Hi = some (zN, Hi)) →
      ∃ Hz, Step H2.next H2 Hz ∧ lp_5x0 C [I mo, .ref H.next 0 0, .ref (H.next + 1) 0 0, .sl r 0 0 1 n n true, I i] Hi = some (.sl r 0 0 1 n n true, Hz) ∧ Good H2.next Hz (upd nil0 r (outO (progsOf c zw zk za zv mo))) ∧ (∀ j, j < n → (progsOf c zw zk za zv mo).getD j [] = [] → ld (.ref r 0 j) Hz = some (zN, Hz)) := by
    intro k
    induction k with
    | zero =>
      intro i hik Hi G st hz
      have e8 : ld (.ref H.next 0 8) Hi = some (s.who, Hi) := by rw [ld_blk (by rw [st.low _ (by omega)]; exact gp)]; rfl
      have w0 := fun H => (ints_is hw H).lnS
      have hi' : min zw.length mo = i := by omega
      refine ⟨Hi, st, ?_, by rw [progsOf, hi']; exact G, by rw [progsOf, hi']; exact hz⟩
      rw [le_5x0]
      by_cases h1 : (i : Int) < zw.length
      · have h2 : ¬ (i : Int) < mo := by omega
        simp -implicitDefEqProofs only [bnd_some, bo_some, condK_true, condK_false, gdA_undef, decide_true, decide_false, Int.reduceLE, Int.reduceLT, Int.reduceEq, Int.reduceNeg, Int.reduceAdd, gd_tt, gd_tf, gd_ft, gd_ff, unG_pure, lift_some, bnd_lift, Option.map_some, Option.bind_some, fieldPtr_ref, fieldPtr_ip, nil_ref, nil_ip, nil_fn, ex_tup, fl_agg, List.getElem?_cons_zero, List.getElem?_cons_succ, Nat.zero_add, Nat.add_zero, Nat.reduceAdd, pk_t, pk_f, lss_int, leq_int, gtr_int, geq_int, eql_int, neq_int, not_bool, beq_self_eq_true, if_true, Bool.false_eq_true, if_false, List.nil_append, List.cons_append, List.append_nil, alc_eq, mkm_eq, nNew, nPut, bNew, bPut, nGrd, bGrd, e8, w0, h1, h2]
      · simp -implicitDefEqProofs only [bnd_some, bo_some, condK_true, condK_false, gdA_undef, decide_true, decide_false, Int.reduceLE, Int.reduceLT, Int.reduceEq, Int.reduceNeg, Int.reduceAdd, gd_tt, gd_tf, gd_ft, gd_ff, unG_pure, lift_some, bnd_lift, Option.map_some, Option.bind_some, fieldPtr_ref, fieldPtr_ip, nil_ref, nil_ip, nil_fn, ex_tup, fl_agg, List.getElem?_cons_zero, List.getElem?_cons_succ, Nat.zero_add, Nat.add_zero, Nat.reduceAdd, pk_t, pk_f, lss_int, leq_int, gtr_int, geq_int, eql_int, neq_int, not_bool, beq_self_eq_true, if_true, Bool.false_eq_true, if_false, List.nil_append, List.cons_append, List.append_nil, alc_eq, mkm_eq, nNew, nPut, bNew, bPut, nGrd, bGrd, e8, w0, h1]
    | succ k ih =>
      intro i hik Hi G st hz
      obtain ⟨H', t1, t2, t3, t4⟩ := progs_round hCa hCw h hi hw hk ha hv hck (p := H.next) (q := H.next + 1) (r := r) (n := n) (by have := st.next; omega) (by have := st.next; omega) (by rw [st.low _ (by omega)]; exact gp) (by rw [st.low _ (by omega)]; exact gq) G (by rw [st.base, b2, n2]; omega) (progsTo_len _ _ _ _ _ _) (by have := Bd.nodes; omega) (i := i) (mo := mo) (by omega) (by omega) (by omega) hz
      rw [t1]
      exact ih (i + 1) (by omega) H' t2 (st.trans t3) t4
  have g3 : H3.get r = .blk 0 31 (zerosL [zN] n) := getNew_is n2.symm
  obtain ⟨Hz, r0, r1, r2, r3⟩ := key (min zw.length mo) 0 (by omega) H3 M0.good (Step.new _ (Nat.le_refl _)) (fun j hj _ => by
    rw [ld_blk g3, zerosL_one, List.getElem?_replicate, if_pos hj]; rfl)
  have hs : Step H.next H Hz := (Step.new _ (Nat.le_refl _)).trans ((Step.new _ (Nat.le_succ _)).trans ⟨r0.base, r0.next, fun r hr => r0.low r (by omega)⟩)
  refine ⟨Hz, r, rfl, ?_, r2, hs, r3⟩
  have e1 := fun H => config_sp H h hi hc
  rw [← hCc] at e1
  have hn := Bd.nodes
  have e2 := mks_eq (e := 31) (m := 1) (by_ := 24) (z := [zN]) (n := c.nodes) (H := H2) rfl rfl (by omega) (by omega) (by decide)
  have ls : s.cells.length = 12 := rfl
  have lt : s.cells.take 12 = s.cells := rfl
  have l0 : c.av[0]? = some (I c.nodes) := rfl
  have cc : (AV.agg c.av).cells = c.av := rfl
  have lc : c.av.length = 8 := rfl
  rw [n2] at e2
  simp only [H2, H1] at e2
  have hnn : c.nodes.toNat = n := rfl
  rw [hnn] at e2
  simp only [c] at e2 l0
  have hb1 : H.base ≤ H.next + 1 := by omega
  simp -implicitDefEqProofs only [bnd_some, bo_some, condK_true, condK_false, gdA_undef, decide_true, decide_false, Int.reduceLE, Int.reduceLT, Int.reduceEq, Int.reduceNeg, Int.reduceAdd, gd_tt, gd_tf, gd_ft, gd_ff, unG_pure, lift_some, bnd_lift, Option.map_some, Option.bind_some, fieldPtr_ref, fieldPtr_ip, nil_ref, nil_ip, nil_fn, ex_tup, fl_agg, List.getElem?_cons_zero, List.getElem?_cons_succ, Nat.zero_add, Nat.add_zero, Nat.reduceAdd, pk_t, pk_f, lss_int, leq_int, gtr_int, geq_int, eql_int, neq_int, not_bool, beq_self_eq_true, if_true, Bool.false_eq_true, if_false, List.nil_append, List.cons_append, List.append_nil, alc_eq, mkm_eq, nNew, nPut, bNew, bPut, nGrd, bGrd, ldN_is, ldN_lt, ldaN_is, ldaN_lt, stN_is, stN_lt, Nat.lt_add_one, ne_eq, nx1, nx2, nx3, ny1, ny2, ny3, not_false_eq_true, List.length_cons, List.length_nil, Nat.reduceLeDiff, setAt, List.take_succ_cons, List.take_zero, List.drop_succ_cons, List.drop_zero, cells_dat, cells_int, cells_bool, cells_agg, List.all_cons, List.all_nil, isCell_int, isCell_bool, isCell_dat, isCell_ref, isCell_nil, isCell_vsl, cells_vsl, av_len_cfg, av_len_pkt, av_len_opn, av_len_evn, av_len_ent, av_len_row, av_len_deal, av_len_pck, tk_cfg, tk_pkt, tk_opn, tk_evn, tk_ent, tk_row, tk_deal, tk_pck, all_cfg, all_pkt, all_opn, all_evn, all_ent, all_row, all_deal, all_pck, List.drop_nil, Bool.and_true, Bool.and_self, and_self, Nat.le_refl, true_and, and_true, Nat.le_add_right, leS, ltS, sh_5, box_agg hall, ls, lt, e1, cc, lc, l0, e2, hb1]
  exact r1
end

end Go.Proofs.YtlcdejlbmnjlaaaGreat

namespace Go.Proofs.YtlcdejlbmnjlaaaGreat

theorem progsTo_le (c : Cfg) (zw zk za zv : List Int) : ∀ i, ∀ l ∈ progsTo c zw zk za zv i, l.length ≤ 24
  | 0, l, h => by
    rw [List.eq_of_mem_replicate h]; decide
  | i + 1, l, h => by
    simp only [progsTo, progStep] at h
    split at h
    · rename_i hl
      rcases List.mem_or_eq_of_mem_set h with h | rfl
      · exact progsTo_le c zw zk za zv i l h
      · rw [List.length_append]; simp only [List.length_cons, List.length_nil]; omega
    · exact progsTo_le c zw zk za zv i l h
section
variable {H : AHeap} {s : SetupA} {zi zw zk za zv : List Int}
end

end Go.Proofs.YtlcdejlbmnjlaaaGreat

namespace Go.Proofs.YtlcdejlbmnjlaaaGreat

structure RTurns where
  owner : List (Int × Int)
  wait : List (Int × Int × Int)
structure RHomes where
  rows : List Row
  turns : RTurns
structure RNode where
  cache : Cache
  homes : RHomes
  ops : List Opn
  begun : Bool
  values : List Int
  has : Bool
  deal : Deal
  num : Int
structure RMach where
  c : Cfg
  fab : List Port
  nodes : List RNode
  ev : List Evn
def RHomes.new (c : Cfg) : RHomes := ⟨(List.range c.lines.toNat).map fun (i : Nat) => (⟨0, -1, c.first (i : Int)⟩ : Row), ⟨[], []⟩⟩
def RNode.new (c : Cfg) (l : List Opn) : RNode := ⟨⟨[], c.sets, c.ways, 0⟩, .new c, l, false, [], false, .zero, 0⟩
def RMach.new (c : Cfg) (ps : List (List Opn)) : RMach := ⟨c, List.replicate c.nodes.toNat .zero, ps.map (.new c), []⟩
inductive EncL {α : Type} (R : α → List AV → Prop) : List α → List AV → Prop
  | nil : EncL R [] []
  | cons {a : α} {l : List α} {cs cells : List AV} : R a cs → EncL R l cells → EncL R (a :: l) (cs ++ cells)
section
variable {α : Type} {R : α → List AV → Prop} {l : List α} {cells : List AV}
theorem EncL.length {m : Nat} (hm : ∀ a cs, R a cs → cs.length = m) (h : EncL R l cells) : cells.length = l.length * m := by
  induction h with
  | nil => simp
  | cons h1 _ ih => rw [List.length_append, hm _ _ h1, ih, List.length_cons, Nat.succ_mul, Nat.add_comm]
theorem EncL.all (hm : ∀ a cs, R a cs → cs.all AV.isCell = true) (h : EncL R l cells) : cells.all AV.isCell = true := by
  induction h with
  | nil => rfl
  | cons h1 _ ih => rw [List.all_append, hm _ _ h1, ih]; rfl
theorem EncL.append {l' : List α} {cells' : List AV} (h : EncL R l cells) (h' : EncL R l' cells') : EncL R (l ++ l') (cells ++ cells') := by
  induction h with
  | nil => exact h'
  | cons h1 _ ih => rw [List.cons_append, List.append_assoc]; exact .cons h1 ih
theorem EncL.one {a : α} {cs : List AV} (h : R a cs) : EncL R [a] cs := by
  have := EncL.cons h (EncL.nil (R := R))
  rwa [List.append_nil] at this
theorem EncL.mono {R' : α → List AV → Prop} (hr : ∀ a cs, a ∈ l → R a cs → R' a cs) (h : EncL R l cells) : EncL R' l cells := by
  induction h with
  | nil => exact .nil
  | cons h1 _ ih => exact .cons (hr _ _ (by simp) h1) (ih fun a cs ha => hr a cs (by simp [ha]))
theorem EncL.get {m : Nat} (hm : ∀ a cs, R a cs → cs.length = m) (h : EncL R l cells) : ∀ {i : Nat} {a : α}, l[i]? = some a → R a ((cells.drop (i * m)).take m) := by
  induction h with
  | nil => intro i a hi; simp at hi
  | cons h1 _ ih =>
    intro i a hi
    have hl := hm _ _ h1
    cases i with
    | zero =>
      simp only [List.getElem?_cons_zero, Option.some.injEq] at hi
      subst hi
      rw [Nat.zero_mul, List.drop_zero, List.take_append_of_le_length (by omega), List.take_of_length_le (by omega)]
      exact h1
    | succ i =>
      rw [Nat.succ_mul, List.drop_append, List.drop_of_length_le (by omega), List.nil_append, hl, Nat.add_sub_cancel]
      exact ih (by simpa using hi)
theorem EncL.plain {enc : α → List AV} : ∀ l : List α, EncL (fun a cs => cs = enc a) l (l.flatMap enc)
  | [] => .nil
  | a :: l => .cons rfl (EncL.plain l)
theorem EncL.of {enc : α → List AV} (hr : ∀ a, a ∈ l → R a (enc a)) : EncL R l (l.flatMap enc) :=
  (EncL.plain (enc := enc) l).mono fun a cs ha (h : cs = enc a) => by rw [h]; exact hr a ha
end
def Pkt.avx (p : Pkt) (x : AV) : List AV := [I p.kind, I p.src, I p.dst, I p.id, I p.line, I p.ptr, I p.state, B p.flag, x]
def Ent.avx (e : Ent) (x : AV) : List AV := [I e.fwd, I e.back, I e.line, I e.used, B e.dirty, x]
def Row.avx (r : Row) (x : AV) : List AV := [I r.state, I r.head, x]
def Deal.avx (d : Deal) (x : AV) : List AV := [I d.kind, I d.line, I d.id, I d.step, I d.state, I d.head, x, I d.next, I d.told]
def DatIs (g : Store) (x : AV) (l : List Int) : Prop := x = dat l ∨ ∃ q ex, l ≠ [] ∧ x = .sl q 0 0 1 l.length l.length ex ∧ g q = some (l.map fun n => .av (I n))
/-- An object that is no such row. -/
def NoDat (cs : List Cell) : Prop := ∃ c ∈ cs, ∀ n, c ≠ .av (I n)
section
variable {b : Nat} {H : AHeap} {g g' : Store} {x : AV} {l : List Int}
theorem DatIs.dat : DatIs g (dat l) l := .inl rfl
theorem DatIs.one (h : DatIs g x l) : One x := by
  rcases h with rfl | ⟨q, ex, _, rfl, _⟩
  · exact one_dat
  · exact one_sl
theorem DatIs.sub (h : DatIs g x l) (hg : ∀ q cs, g q = some cs → ¬ NoDat cs → g' q = some cs) : DatIs g' x l := by
  rcases h with rfl | ⟨q, ex, h0, rfl, h⟩
  · exact .inl rfl
  · refine .inr ⟨q, ex, h0, rfl, hg _ _ h fun ⟨c, hc, hn⟩ => ?_⟩
    obtain ⟨n, _, rfl⟩ := List.mem_map.1 hc
    exact hn n rfl
theorem DatIs.upd {q : Nat} {cs cs' : List Cell} (h : DatIs g x l) (hq : g q = some cs) (hn : NoDat cs) : DatIs (upd g q cs') x l :=
  h.sub fun q' ds h1 h2 => by
    rw [upd_ne]; exact h1
    intro e; subst e; rw [hq] at h1; cases h1; exact h2 hn
theorem DatIs.nil (h : DatIs g x l) (h0 : l = []) : x = zN := by
  rcases h with rfl | ⟨q, ex, h1, _⟩
  · rw [h0, Proofs.YtlcdejlbmnjlaaaGreat.dat, vsl_nil]
  · exact absurd h0 h1
theorem DatIs.is (G : Good b H g) (h : DatIs g x l) : SliceIs H x 1 l.length (l.map I) := by
  rcases h with rfl | ⟨q, ex, _, rfl, h⟩
  · exact dat_is H l
  · obtain ⟨_, τ, hR⟩ := G
    have R := hR q _ h
    obtain ⟨ty, xs, h1, h2, h3, h4⟩ := R.blk
    have : xs = l.map I := by
      apply List.ext_getElem?
      intro i
      rcases Nat.lt_or_ge i l.length with hi | hi
      · have hx : xs[i]? = some (xs[i]'(by simp at h2; omega)) := List.getElem?_eq_getElem _
        have := h4 i (.av (I l[i])) _ (by simp [hi]) hx
        simp only [CR] at this
        rw [hx, this]; simp [hi]
      · rw [List.getElem?_eq_none (by simp at h2; omega), List.getElem?_eq_none (by simp; omega)]
    subst this
    exact ⟨by simp, rfl, rfl, ⟨R.hi, Nat.le_refl _⟩, ty, _, h1, by simp, by simp [List.take_of_length_le]⟩
end
def PktR (g : Store) (p : Pkt) (cs : List AV) : Prop := ∃ x, DatIs g x p.data ∧ cs = p.avx x
def EntR (g : Store) (e : Ent) (cs : List AV) : Prop := ∃ x, DatIs g x e.data ∧ cs = e.avx x
def RowR (g : Store) (r : Row) (cs : List AV) : Prop := ∃ x, DatIs g x r.data ∧ cs = r.avx x
def DealR (g : Store) (d : Deal) (cs : List AV) : Prop := ∃ x, DatIs g x d.data ∧ cs = d.avx x
theorem pktR_len {g : Store} : ∀ (p : Pkt) cs, PktR g p cs → cs.length = 9 := fun p cs ⟨x, _, h⟩ => by subst h; rfl
theorem entR_len {g : Store} : ∀ (p : Ent) cs, EntR g p cs → cs.length = 6 := fun p cs ⟨x, _, h⟩ => by subst h; rfl
theorem rowR_len {g : Store} : ∀ (p : Row) cs, RowR g p cs → cs.length = 3 := fun p cs ⟨x, _, h⟩ => by subst h; rfl
theorem pktR_all {g : Store} : ∀ (p : Pkt) cs, PktR g p cs → cs.all AV.isCell = true := fun p cs ⟨x, h0, h⟩ => by subst h; simp [Pkt.avx, isCell_int, isCell_bool, h0.one.2]
theorem rowR_av {g : Store} (p : Row) : RowR g p p.av := ⟨_, .dat, rfl⟩
def rcacheO (c : Cache) (cells : List AV) : List Cell := [.av (I c.sets), .av (I c.ways), .av (I c.clock), .seq 6 cells]
def rhomesO (c : Cfg) (me : Int) (rows : List AV) (t : RTurns) : List Cell := c.av.map .av ++ [.av (I me), .seq 3 rows, .seq 2 (t.owner.flatMap fun e => [I e.1, I e.2]), .seq 3 (t.wait.flatMap fun e => [I e.1, I e.2.1, I e.2.2])]
def rnodeO (a : Nat → Nat) (c : Cfg) (me : Int) (n : RNode) (d : List AV) : List Cell :=
  c.av.map .av ++ [.av (I me), .av (.ref (a 1) 0 0), .av (.ref (a 2) 0 0), .seq 3 (n.ops.flatMap Opn.av), .av (B n.begun), .seq 1 (n.values.map I), .av (B n.has)] ++ d.map .av ++ [.av (I n.num)]
def rfabO (c : Cfg) (ls : List (List AV)) : List Cell := c.av.map .av ++ [.seqs 4 9 ls]
def rmachO (f : Nat) (N : Nat → Nat → Nat) (c : Cfg) (n : Nat) (ev : List Evn) : List Cell := c.av.map .av ++ [.av (.ref f 0 0), .seq 1 ((List.range n).map fun i => .ref (N i 0) 0 0), .seq 4 (ev.flatMap Evn.av)]
structure RNodeIs (g : Store) (a : Nat → Nat) (c : Cfg) (me : Int) (n : RNode) : Prop where
  node : ∃ d, DealR g n.deal d ∧ g (a 0) = some (rnodeO a c me n d)
  cache : ∃ cells, EncL (EntR g) n.cache.l cells ∧ g (a 1) = some (rcacheO n.cache cells)
  homes : ∃ rows, EncL (RowR g) n.homes.rows rows ∧ g (a 2) = some (rhomesO c me rows n.homes.turns)
def RInj (N : Nat → Nat → Nat) (n : Nat) : Prop := ∀ i j s t, i < n → j < n → s < 3 → t < 3 → N i s = N j t → i = j ∧ s = t
def portLs (p : Port) : List (List Pkt) := [p.rq, p.an, p.rin, p.ain]
structure RMachIs (g : Store) (q f : Nat) (N : Nat → Nat → Nat) (m : RMach) : Prop where
  mach : g q = some (rmachO f N m.c m.nodes.length m.ev)
  fab : ∃ ls : List (List AV), g f = some (rfabO m.c ls) ∧ ls.length = 4 * m.fab.length ∧ ∀ (i : Nat) l cells, (m.fab.flatMap portLs)[i]? = some l → ls[i]? = some cells → EncL (PktR g) l cells
  node : ∀ (i : Nat) n, m.nodes[i]? = some n → RNodeIs g (N i) m.c i n
  inj : RInj N m.nodes.length

end Go.Proofs.YtlcdejlbmnjlaaaGreat

namespace Go.Proofs.YtlcdejlbmnjlaaaGreat

theorem rwithin_sp (H : AHeap) (n m : Int) : cl 50 [I n, I m] H = some (B (within n m), H) := by
  refine pure_val rfl rfl (rn_50 _ _ _ _) ?_ frz_s
  by_cases h : 1 ≤ n
  · simp -implicitDefEqProofs only [bnd_some, bo_some, condK_true, condK_false, gdA_undef, decide_true, decide_false, Int.reduceLE, Int.reduceLT, Int.reduceEq, Int.reduceNeg, Int.reduceAdd, gd_tt, gd_tf, gd_ft, gd_ff, unG_pure, lift_some, bnd_lift, Option.map_some, Option.bind_some, fieldPtr_ref, fieldPtr_ip, nil_ref, nil_ip, nil_fn, ex_tup, fl_agg, List.getElem?_cons_zero, List.getElem?_cons_succ, Nat.zero_add, Nat.add_zero, Nat.reduceAdd, pk_t, pk_f, lss_int, leq_int, gtr_int, geq_int, eql_int, neq_int, not_bool, beq_self_eq_true, if_true, Bool.false_eq_true, if_false, List.nil_append, List.cons_append, List.append_nil, alc_eq, mkm_eq, nNew, nPut, bNew, bPut, nGrd, bGrd, sh_50, h, decide_true, within, Bool.true_and]
  · simp -implicitDefEqProofs only [bnd_some, bo_some, condK_true, condK_false, gdA_undef, decide_true, decide_false, Int.reduceLE, Int.reduceLT, Int.reduceEq, Int.reduceNeg, Int.reduceAdd, gd_tt, gd_tf, gd_ft, gd_ff, unG_pure, lift_some, bnd_lift, Option.map_some, Option.bind_some, fieldPtr_ref, fieldPtr_ip, nil_ref, nil_ip, nil_fn, ex_tup, fl_agg, List.getElem?_cons_zero, List.getElem?_cons_succ, Nat.zero_add, Nat.add_zero, Nat.reduceAdd, pk_t, pk_f, lss_int, leq_int, gtr_int, geq_int, eql_int, neq_int, not_bool, beq_self_eq_true, if_true, Bool.false_eq_true, if_false, List.nil_append, List.cons_append, List.append_nil, alc_eq, mkm_eq, nNew, nPut, bNew, bPut, nGrd, bGrd, sh_50, h, decide_false, within, Bool.false_and]
theorem mulLW {c : Cfg} (h1 : within c.lines 8 = true) (h2 : within c.words 4 = true) : IntKind.wrap .i64 (c.lines * c.words) = c.lines * c.words := by
  simp only [within, Bool.and_eq_true, decide_eq_true_eq] at h1 h2
  have : c.lines * c.words ≤ 8 * 4 := Int.mul_le_mul h1.2 h2.2 (by omega) (by omega)
  have : 0 ≤ c.lines * c.words := Int.mul_nonneg (by omega) (by omega)
  exact wrap_i64 (by omega) (by omega)
theorem rcheck_sp (H : AHeap) (c : Cfg) : cl 21 [.agg c.av] H = some (B c.ok, H) := by
  refine pure_val rfl rfl (rn_21 _ _ _) ?_ frz_s
  have w := fun H n m => rwithin_sp H n m
  have e1 := fun H => (dat_is H c.init).lnS
  cases h1 : within c.nodes 6
  · simp -implicitDefEqProofs only [bnd_some, bo_some, condK_true, condK_false, gdA_undef, decide_true, decide_false, Int.reduceLE, Int.reduceLT, Int.reduceEq, Int.reduceNeg, Int.reduceAdd, gd_tt, gd_tf, gd_ft, gd_ff, unG_pure, lift_some, bnd_lift, Option.map_some, Option.bind_some, fieldPtr_ref, fieldPtr_ip, nil_ref, nil_ip, nil_fn, ex_tup, fl_agg, List.getElem?_cons_zero, List.getElem?_cons_succ, Nat.zero_add, Nat.add_zero, Nat.reduceAdd, pk_t, pk_f, lss_int, leq_int, gtr_int, geq_int, eql_int, neq_int, not_bool, beq_self_eq_true, if_true, Bool.false_eq_true, if_false, List.nil_append, List.cons_append, List.append_nil, alc_eq, mkm_eq, nNew, nPut, bNew, bPut, nGrd, bGrd, ldN_is, ldN_lt, ldaN_is, ldaN_lt, stN_is, stN_lt, Nat.lt_add_one, ne_eq, nx1, nx2, nx3, ny1, ny2, ny3, not_false_eq_true, List.length_cons, List.length_nil, Nat.reduceLeDiff, setAt, List.take_succ_cons, List.take_zero, List.drop_succ_cons, List.drop_zero, cells_dat, cells_int, cells_bool, cells_agg, List.all_cons, List.all_nil, isCell_int, isCell_bool, isCell_dat, isCell_ref, isCell_nil, isCell_vsl, cells_vsl, av_len_cfg, av_len_pkt, av_len_opn, av_len_evn, av_len_ent, av_len_row, av_len_deal, av_len_pck, tk_cfg, tk_pkt, tk_opn, tk_evn, tk_ent, tk_row, tk_deal, tk_pck, all_cfg, all_pkt, all_opn, all_evn, all_ent, all_row, all_deal, all_pck, List.drop_nil, Bool.and_true, Bool.and_self, and_self, Nat.le_refl, true_and, and_true, Nat.le_add_right, leS, ltS, sh_21, box_agg, Cfg.av, Cfg.ok, w, h1, Bool.false_and]
  cases h2 : within c.lines 8
  · simp -implicitDefEqProofs only [bnd_some, bo_some, condK_true, condK_false, gdA_undef, decide_true, decide_false, Int.reduceLE, Int.reduceLT, Int.reduceEq, Int.reduceNeg, Int.reduceAdd, gd_tt, gd_tf, gd_ft, gd_ff, unG_pure, lift_some, bnd_lift, Option.map_some, Option.bind_some, fieldPtr_ref, fieldPtr_ip, nil_ref, nil_ip, nil_fn, ex_tup, fl_agg, List.getElem?_cons_zero, List.getElem?_cons_succ, Nat.zero_add, Nat.add_zero, Nat.reduceAdd, pk_t, pk_f, lss_int, leq_int, gtr_int, geq_int, eql_int, neq_int, not_bool, beq_self_eq_true, if_true, Bool.false_eq_true, if_false, List.nil_append, List.cons_append, List.append_nil, alc_eq, mkm_eq, nNew, nPut, bNew, bPut, nGrd, bGrd, ldN_is, ldN_lt, ldaN_is, ldaN_lt, stN_is, stN_lt, Nat.lt_add_one, ne_eq, nx1, nx2, nx3, ny1, ny2, ny3, not_false_eq_true, List.length_cons, List.length_nil, Nat.reduceLeDiff, setAt, List.take_succ_cons, List.take_zero, List.drop_succ_cons, List.drop_zero, cells_dat, cells_int, cells_bool, cells_agg, List.all_cons, List.all_nil, isCell_int, isCell_bool, isCell_dat, isCell_ref, isCell_nil, isCell_vsl, cells_vsl, av_len_cfg, av_len_pkt, av_len_opn, av_len_evn, av_len_ent, av_len_row, av_len_deal, av_len_pck, tk_cfg, tk_pkt, tk_opn, tk_evn, tk_ent, tk_row, tk_deal, tk_pck, all_cfg, all_pkt, all_opn, all_evn, all_ent, all_row, all_deal, all_pck, List.drop_nil, Bool.and_true, Bool.and_self, and_self, Nat.le_refl, true_and, and_true, Nat.le_add_right, leS, ltS, sh_21, box_agg, Cfg.av, Cfg.ok, w, h1, h2, Bool.false_and, Bool.true_and]
  cases h3 : within c.words 4
  · simp -implicitDefEqProofs only [bnd_some, bo_some, condK_true, condK_false, gdA_undef, decide_true, decide_false, Int.reduceLE, Int.reduceLT, Int.reduceEq, Int.reduceNeg, Int.reduceAdd, gd_tt, gd_tf, gd_ft, gd_ff, unG_pure, lift_some, bnd_lift, Option.map_some, Option.bind_some, fieldPtr_ref, fieldPtr_ip, nil_ref, nil_ip, nil_fn, ex_tup, fl_agg, List.getElem?_cons_zero, List.getElem?_cons_succ, Nat.zero_add, Nat.add_zero, Nat.reduceAdd, pk_t, pk_f, lss_int, leq_int, gtr_int, geq_int, eql_int, neq_int, not_bool, beq_self_eq_true, if_true, Bool.false_eq_true, if_false, List.nil_append, List.cons_append, List.append_nil, alc_eq, mkm_eq, nNew, nPut, bNew, bPut, nGrd, bGrd, ldN_is, ldN_lt, ldaN_is, ldaN_lt, stN_is, stN_lt, Nat.lt_add_one, ne_eq, nx1, nx2, nx3, ny1, ny2, ny3, not_false_eq_true, List.length_cons, List.length_nil, Nat.reduceLeDiff, setAt, List.take_succ_cons, List.take_zero, List.drop_succ_cons, List.drop_zero, cells_dat, cells_int, cells_bool, cells_agg, List.all_cons, List.all_nil, isCell_int, isCell_bool, isCell_dat, isCell_ref, isCell_nil, isCell_vsl, cells_vsl, av_len_cfg, av_len_pkt, av_len_opn, av_len_evn, av_len_ent, av_len_row, av_len_deal, av_len_pck, tk_cfg, tk_pkt, tk_opn, tk_evn, tk_ent, tk_row, tk_deal, tk_pck, all_cfg, all_pkt, all_opn, all_evn, all_ent, all_row, all_deal, all_pck, List.drop_nil, Bool.and_true, Bool.and_self, and_self, Nat.le_refl, true_and, and_true, Nat.le_add_right, leS, ltS, sh_21, box_agg, Cfg.av, Cfg.ok, w, h1, h2, h3, Bool.false_and, Bool.true_and]
  cases h4 : within c.sets 4
  · simp -implicitDefEqProofs only [bnd_some, bo_some, condK_true, condK_false, gdA_undef, decide_true, decide_false, Int.reduceLE, Int.reduceLT, Int.reduceEq, Int.reduceNeg, Int.reduceAdd, gd_tt, gd_tf, gd_ft, gd_ff, unG_pure, lift_some, bnd_lift, Option.map_some, Option.bind_some, fieldPtr_ref, fieldPtr_ip, nil_ref, nil_ip, nil_fn, ex_tup, fl_agg, List.getElem?_cons_zero, List.getElem?_cons_succ, Nat.zero_add, Nat.add_zero, Nat.reduceAdd, pk_t, pk_f, lss_int, leq_int, gtr_int, geq_int, eql_int, neq_int, not_bool, beq_self_eq_true, if_true, Bool.false_eq_true, if_false, List.nil_append, List.cons_append, List.append_nil, alc_eq, mkm_eq, nNew, nPut, bNew, bPut, nGrd, bGrd, ldN_is, ldN_lt, ldaN_is, ldaN_lt, stN_is, stN_lt, Nat.lt_add_one, ne_eq, nx1, nx2, nx3, ny1, ny2, ny3, not_false_eq_true, List.length_cons, List.length_nil, Nat.reduceLeDiff, setAt, List.take_succ_cons, List.take_zero, List.drop_succ_cons, List.drop_zero, cells_dat, cells_int, cells_bool, cells_agg, List.all_cons, List.all_nil, isCell_int, isCell_bool, isCell_dat, isCell_ref, isCell_nil, isCell_vsl, cells_vsl, av_len_cfg, av_len_pkt, av_len_opn, av_len_evn, av_len_ent, av_len_row, av_len_deal, av_len_pck, tk_cfg, tk_pkt, tk_opn, tk_evn, tk_ent, tk_row, tk_deal, tk_pck, all_cfg, all_pkt, all_opn, all_evn, all_ent, all_row, all_deal, all_pck, List.drop_nil, Bool.and_true, Bool.and_self, and_self, Nat.le_refl, true_and, and_true, Nat.le_add_right, leS, ltS, sh_21, box_agg, Cfg.av, Cfg.ok, w, h1, h2, h3, h4, Bool.false_and, Bool.true_and]
  cases h5 : within c.ways 3
  · simp -implicitDefEqProofs only [bnd_some, bo_some, condK_true, condK_false, gdA_undef, decide_true, decide_false, Int.reduceLE, Int.reduceLT, Int.reduceEq, Int.reduceNeg, Int.reduceAdd, gd_tt, gd_tf, gd_ft, gd_ff, unG_pure, lift_some, bnd_lift, Option.map_some, Option.bind_some, fieldPtr_ref, fieldPtr_ip, nil_ref, nil_ip, nil_fn, ex_tup, fl_agg, List.getElem?_cons_zero, List.getElem?_cons_succ, Nat.zero_add, Nat.add_zero, Nat.reduceAdd, pk_t, pk_f, lss_int, leq_int, gtr_int, geq_int, eql_int, neq_int, not_bool, beq_self_eq_true, if_true, Bool.false_eq_true, if_false, List.nil_append, List.cons_append, List.append_nil, alc_eq, mkm_eq, nNew, nPut, bNew, bPut, nGrd, bGrd, ldN_is, ldN_lt, ldaN_is, ldaN_lt, stN_is, stN_lt, Nat.lt_add_one, ne_eq, nx1, nx2, nx3, ny1, ny2, ny3, not_false_eq_true, List.length_cons, List.length_nil, Nat.reduceLeDiff, setAt, List.take_succ_cons, List.take_zero, List.drop_succ_cons, List.drop_zero, cells_dat, cells_int, cells_bool, cells_agg, List.all_cons, List.all_nil, isCell_int, isCell_bool, isCell_dat, isCell_ref, isCell_nil, isCell_vsl, cells_vsl, av_len_cfg, av_len_pkt, av_len_opn, av_len_evn, av_len_ent, av_len_row, av_len_deal, av_len_pck, tk_cfg, tk_pkt, tk_opn, tk_evn, tk_ent, tk_row, tk_deal, tk_pck, all_cfg, all_pkt, all_opn, all_evn, all_ent, all_row, all_deal, all_pck, List.drop_nil, Bool.and_true, Bool.and_self, and_self, Nat.le_refl, true_and, and_true, Nat.le_add_right, leS, ltS, sh_21, box_agg, Cfg.av, Cfg.ok, w, h1, h2, h3, h4, h5, Bool.false_and, Bool.true_and]
  cases h6 : within c.out 8
  · simp -implicitDefEqProofs only [bnd_some, bo_some, condK_true, condK_false, gdA_undef, decide_true, decide_false, Int.reduceLE, Int.reduceLT, Int.reduceEq, Int.reduceNeg, Int.reduceAdd, gd_tt, gd_tf, gd_ft, gd_ff, unG_pure, lift_some, bnd_lift, Option.map_some, Option.bind_some, fieldPtr_ref, fieldPtr_ip, nil_ref, nil_ip, nil_fn, ex_tup, fl_agg, List.getElem?_cons_zero, List.getElem?_cons_succ, Nat.zero_add, Nat.add_zero, Nat.reduceAdd, pk_t, pk_f, lss_int, leq_int, gtr_int, geq_int, eql_int, neq_int, not_bool, beq_self_eq_true, if_true, Bool.false_eq_true, if_false, List.nil_append, List.cons_append, List.append_nil, alc_eq, mkm_eq, nNew, nPut, bNew, bPut, nGrd, bGrd, ldN_is, ldN_lt, ldaN_is, ldaN_lt, stN_is, stN_lt, Nat.lt_add_one, ne_eq, nx1, nx2, nx3, ny1, ny2, ny3, not_false_eq_true, List.length_cons, List.length_nil, Nat.reduceLeDiff, setAt, List.take_succ_cons, List.take_zero, List.drop_succ_cons, List.drop_zero, cells_dat, cells_int, cells_bool, cells_agg, List.all_cons, List.all_nil, isCell_int, isCell_bool, isCell_dat, isCell_ref, isCell_nil, isCell_vsl, cells_vsl, av_len_cfg, av_len_pkt, av_len_opn, av_len_evn, av_len_ent, av_len_row, av_len_deal, av_len_pck, tk_cfg, tk_pkt, tk_opn, tk_evn, tk_ent, tk_row, tk_deal, tk_pck, all_cfg, all_pkt, all_opn, all_evn, all_ent, all_row, all_deal, all_pck, List.drop_nil, Bool.and_true, Bool.and_self, and_self, Nat.le_refl, true_and, and_true, Nat.le_add_right, leS, ltS, sh_21, box_agg, Cfg.av, Cfg.ok, w, h1, h2, h3, h4, h5, h6, Bool.false_and, Bool.true_and]
  cases h7 : within c.inn 8
  · simp -implicitDefEqProofs only [bnd_some, bo_some, condK_true, condK_false, gdA_undef, decide_true, decide_false, Int.reduceLE, Int.reduceLT, Int.reduceEq, Int.reduceNeg, Int.reduceAdd, gd_tt, gd_tf, gd_ft, gd_ff, unG_pure, lift_some, bnd_lift, Option.map_some, Option.bind_some, fieldPtr_ref, fieldPtr_ip, nil_ref, nil_ip, nil_fn, ex_tup, fl_agg, List.getElem?_cons_zero, List.getElem?_cons_succ, Nat.zero_add, Nat.add_zero, Nat.reduceAdd, pk_t, pk_f, lss_int, leq_int, gtr_int, geq_int, eql_int, neq_int, not_bool, beq_self_eq_true, if_true, Bool.false_eq_true, if_false, List.nil_append, List.cons_append, List.append_nil, alc_eq, mkm_eq, nNew, nPut, bNew, bPut, nGrd, bGrd, ldN_is, ldN_lt, ldaN_is, ldaN_lt, stN_is, stN_lt, Nat.lt_add_one, ne_eq, nx1, nx2, nx3, ny1, ny2, ny3, not_false_eq_true, List.length_cons, List.length_nil, Nat.reduceLeDiff, setAt, List.take_succ_cons, List.take_zero, List.drop_succ_cons, List.drop_zero, cells_dat, cells_int, cells_bool, cells_agg, List.all_cons, List.all_nil, isCell_int, isCell_bool, isCell_dat, isCell_ref, isCell_nil, isCell_vsl, cells_vsl, av_len_cfg, av_len_pkt, av_len_opn, av_len_evn, av_len_ent, av_len_row, av_len_deal, av_len_pck, tk_cfg, tk_pkt, tk_opn, tk_evn, tk_ent, tk_row, tk_deal, tk_pck, all_cfg, all_pkt, all_opn, all_evn, all_ent, all_row, all_deal, all_pck, List.drop_nil, Bool.and_true, Bool.and_self, and_self, Nat.le_refl, true_and, and_true, Nat.le_add_right, leS, ltS, sh_21, box_agg, Cfg.av, Cfg.ok, w, h1, h2, h3, h4, h5, h6, h7, Bool.false_and, Bool.true_and]
  have hm := mulLW h2 h3
  simp -implicitDefEqProofs only [bnd_some, bo_some, condK_true, condK_false, gdA_undef, decide_true, decide_false, Int.reduceLE, Int.reduceLT, Int.reduceEq, Int.reduceNeg, Int.reduceAdd, gd_tt, gd_tf, gd_ft, gd_ff, unG_pure, lift_some, bnd_lift, Option.map_some, Option.bind_some, fieldPtr_ref, fieldPtr_ip, nil_ref, nil_ip, nil_fn, ex_tup, fl_agg, List.getElem?_cons_zero, List.getElem?_cons_succ, Nat.zero_add, Nat.add_zero, Nat.reduceAdd, pk_t, pk_f, lss_int, leq_int, gtr_int, geq_int, eql_int, neq_int, not_bool, beq_self_eq_true, if_true, Bool.false_eq_true, if_false, List.nil_append, List.cons_append, List.append_nil, alc_eq, mkm_eq, nNew, nPut, bNew, bPut, nGrd, bGrd, ldN_is, ldN_lt, ldaN_is, ldaN_lt, stN_is, stN_lt, Nat.lt_add_one, ne_eq, nx1, nx2, nx3, ny1, ny2, ny3, not_false_eq_true, List.length_cons, List.length_nil, Nat.reduceLeDiff, setAt, List.take_succ_cons, List.take_zero, List.drop_succ_cons, List.drop_zero, cells_dat, cells_int, cells_bool, cells_agg, List.all_cons, List.all_nil, isCell_int, isCell_bool, isCell_dat, isCell_ref, isCell_nil, isCell_vsl, cells_vsl, av_len_cfg, av_len_pkt, av_len_opn, av_len_evn, av_len_ent, av_len_row, av_len_deal, av_len_pck, tk_cfg, tk_pkt, tk_opn, tk_evn, tk_ent, tk_row, tk_deal, tk_pck, all_cfg, all_pkt, all_opn, all_evn, all_ent, all_row, all_deal, all_pck, List.drop_nil, Bool.and_true, Bool.and_self, and_self, Nat.le_refl, true_and, and_true, Nat.le_add_right, leS, ltS, sh_21, box_agg, Cfg.av, Cfg.ok, w, h1, h2, h3, h4, h5, h6, h7, e1, mul_int, hm, Bool.true_and]
/-- Any configuration. -/
theorem check_sp (H : AHeap) (c : Cfg) : cl 15 [.agg c.av] H = some (I (if c.ok = true then 0 else 1), H) := by
  by_cases h : c.ok = true
  · rw [if_pos h]; exact check_ok H c h
  rw [if_neg h]
  refine pure_val rfl rfl (rn_15 _ _ _) ?_ frz_s
  have w := fun H n m => within_sp H n m
  have e1 := fun H => (dat_is H c.init).lnS
  have two : ∀ b : Bool, b = false ∨ b = true := fun b => by cases b <;> simp
  have hs : within c.nodes 6 = false ∨ (within c.nodes 6 = true ∧ within c.lines 8 = false) ∨ (within c.nodes 6 = true ∧ within c.lines 8 = true ∧ within c.words 4 = false) ∨ (within c.nodes 6 = true ∧ within c.lines 8 = true ∧ within c.words 4 = true) := by
    rcases two (within c.nodes 6) with a | a <;> rcases two (within c.lines 8) with b | b <;> rcases two (within c.words 4) with d | d <;> simp only [a, b, d, true_and, and_true, or_true, true_or, and_self, reduceCtorEq, false_and, or_false, false_or, Bool.true_eq_false, Bool.false_eq_true]
  have hc : within c.sets 4 = false ∨ (within c.sets 4 = true ∧ within c.ways 3 = false) ∨ (within c.sets 4 = true ∧ within c.ways 3 = true) := by
    rcases two (within c.sets 4) with a | a <;> rcases two (within c.ways 3) with b | b <;> simp only [a, b, true_and, and_true, or_true, true_or, and_self, reduceCtorEq, false_and, or_false, false_or, Bool.true_eq_false, Bool.false_eq_true]
  have hr : within c.out 8 = false ∨ (within c.out 8 = true ∧ within c.inn 8 = false) ∨ (within c.out 8 = true ∧ within c.inn 8 = true) := by
    rcases two (within c.out 8) with a | a <;> rcases two (within c.inn 8) with b | b <;> simp only [a, b, true_and, and_true, or_true, true_or, and_self, reduceCtorEq, false_and, or_false, false_or, Bool.true_eq_false, Bool.false_eq_true]
  by_cases hall : within c.nodes 6 = true ∧ within c.lines 8 = true ∧ within c.words 4 = true ∧ within c.sets 4 = true ∧ within c.ways 3 = true ∧ within c.out 8 = true ∧ within c.inn 8 = true
  · obtain ⟨h1, h2, h3, h4, h5, h6, h7⟩ := hall
    have hm := mulLW h2 h3
    have k : c.lines * c.words < c.init.length := by
      simp only [Cfg.ok, h1, h2, h3, h4, h5, h6, h7, Bool.true_and, decide_eq_true_eq] at h
      omega
    simp -implicitDefEqProofs only [bnd_some, bo_some, condK_true, condK_false, gdA_undef, decide_true, decide_false, Int.reduceLE, Int.reduceLT, Int.reduceEq, Int.reduceNeg, Int.reduceAdd, gd_tt, gd_tf, gd_ft, gd_ff, unG_pure, lift_some, bnd_lift, Option.map_some, Option.bind_some, fieldPtr_ref, fieldPtr_ip, nil_ref, nil_ip, nil_fn, ex_tup, fl_agg, List.getElem?_cons_zero, List.getElem?_cons_succ, Nat.zero_add, Nat.add_zero, Nat.reduceAdd, pk_t, pk_f, lss_int, leq_int, gtr_int, geq_int, eql_int, neq_int, not_bool, beq_self_eq_true, if_true, Bool.false_eq_true, if_false, List.nil_append, List.cons_append, List.append_nil, alc_eq, mkm_eq, nNew, nPut, bNew, bPut, nGrd, bGrd, ldN_is, ldN_lt, ldaN_is, ldaN_lt, stN_is, stN_lt, Nat.lt_add_one, ne_eq, nx1, nx2, nx3, ny1, ny2, ny3, not_false_eq_true, List.length_cons, List.length_nil, Nat.reduceLeDiff, setAt, List.take_succ_cons, List.take_zero, List.drop_succ_cons, List.drop_zero, cells_dat, cells_int, cells_bool, cells_agg, List.all_cons, List.all_nil, isCell_int, isCell_bool, isCell_dat, isCell_ref, isCell_nil, isCell_vsl, cells_vsl, av_len_cfg, av_len_pkt, av_len_opn, av_len_evn, av_len_ent, av_len_row, av_len_deal, av_len_pck, tk_cfg, tk_pkt, tk_opn, tk_evn, tk_ent, tk_row, tk_deal, tk_pck, all_cfg, all_pkt, all_opn, all_evn, all_ent, all_row, all_deal, all_pck, List.drop_nil, Bool.and_true, Bool.and_self, and_self, Nat.le_refl, true_and, and_true, Nat.le_add_right, leS, ltS, sh_15, box_agg, Cfg.av, w, h1, h2, h3, h4, h5, h6, h7, e1, mul_int, hm, k, Bool.not_true]
  · rcases hs with h1 | ⟨h1, h2⟩ | ⟨h1, h2, h3⟩ | ⟨h1, h2, h3⟩ <;> rcases hc with h4 | ⟨h4, h5⟩ | ⟨h4, h5⟩ <;> rcases hr with h6 | ⟨h6, h7⟩ | ⟨h6, h7⟩ <;>
      first
      | (simp -implicitDefEqProofs only [bnd_some, bo_some, condK_true, condK_false, gdA_undef, decide_true, decide_false, Int.reduceLE, Int.reduceLT, Int.reduceEq, Int.reduceNeg, Int.reduceAdd, gd_tt, gd_tf, gd_ft, gd_ff, unG_pure, lift_some, bnd_lift, Option.map_some, Option.bind_some, fieldPtr_ref, fieldPtr_ip, nil_ref, nil_ip, nil_fn, ex_tup, fl_agg, List.getElem?_cons_zero, List.getElem?_cons_succ, Nat.zero_add, Nat.add_zero, Nat.reduceAdd, pk_t, pk_f, lss_int, leq_int, gtr_int, geq_int, eql_int, neq_int, not_bool, beq_self_eq_true, if_true, Bool.false_eq_true, if_false, List.nil_append, List.cons_append, List.append_nil, alc_eq, mkm_eq, nNew, nPut, bNew, bPut, nGrd, bGrd, ldN_is, ldN_lt, ldaN_is, ldaN_lt, stN_is, stN_lt, Nat.lt_add_one, ne_eq, nx1, nx2, nx3, ny1, ny2, ny3, not_false_eq_true, List.length_cons, List.length_nil, Nat.reduceLeDiff, setAt, List.take_succ_cons, List.take_zero, List.drop_succ_cons, List.drop_zero, cells_dat, cells_int, cells_bool, cells_agg, List.all_cons, List.all_nil, isCell_int, isCell_bool, isCell_dat, isCell_ref, isCell_nil, isCell_vsl, cells_vsl, av_len_cfg, av_len_pkt, av_len_opn, av_len_evn, av_len_ent, av_len_row, av_len_deal, av_len_pck, tk_cfg, tk_pkt, tk_opn, tk_evn, tk_ent, tk_row, tk_deal, tk_pck, all_cfg, all_pkt, all_opn, all_evn, all_ent, all_row, all_deal, all_pck, List.drop_nil, Bool.and_true, Bool.and_self, and_self, Nat.le_refl, true_and, and_true, Nat.le_add_right, leS, ltS, sh_15, box_agg, Cfg.av, w, *, Bool.not_true, Bool.not_false]; done)
      | exact absurd ⟨h1, h2, h3, h4, h5, h6, h7⟩ hall

end Go.Proofs.YtlcdejlbmnjlaaaGreat

namespace Go.Proofs.YtlcdejlbmnjlaaaGreat

theorem lineOf_ne {c : Cfg} (h : c.ok = true) (a : Int) : decide (c.lineOf a ≠ -1) = (decide (0 ≤ a) && decide (a < c.lines * c.words)) := by
  have Bd := cfgB h
  have hw := Bd.words
  by_cases h0 : 0 ≤ a
  · by_cases h1 : a < c.lines * c.words
    · have : 0 ≤ a / c.words := Int.ediv_nonneg h0 (by omega)
      have : ¬ (a < 0 ∨ c.lines * c.words ≤ a) := by omega
      simp only [Cfg.lineOf, Cfg.addrs, this, if_false, h0, h1, decide_true, Bool.and_self, decide_eq_true_eq]; omega
    · have : a < 0 ∨ c.lines * c.words ≤ a := by omega
      simp [Cfg.lineOf, Cfg.addrs, this, h1]
  · have : a < 0 ∨ c.lines * c.words ≤ a := by omega
    simp [Cfg.lineOf, Cfg.addrs, this, h0]
theorem ropRight_sp (H : AHeap) (c : Cfg) (h : c.ok = true) (o : Opn) : cl 51 [.agg c.av, .agg o.av] H = some (B (c.right o), H) := by
  refine pure_val rfl rfl (rn_51 _ _ _ _) ?_ frz_s
  have hl := lineOf_ne h o.addr
  have Bd := cfgB h
  have hm := wrap_i64 (a := c.lines * c.words) (by have := Bd.addrs; omega) (by have := Bd.addrs; omega)
  rw [Cfg.right, hl]
  have b1 : c.av[1]? = some (I c.lines) := rfl
  have b2 : c.av[2]? = some (I c.words) := rfl
  by_cases a : 1 ≤ o.kind
  rotate_left
  · simp -implicitDefEqProofs only [bnd_some, bo_some, condK_true, condK_false, gdA_undef, decide_true, decide_false, Int.reduceLE, Int.reduceLT, Int.reduceEq, Int.reduceNeg, Int.reduceAdd, gd_tt, gd_tf, gd_ft, gd_ff, unG_pure, lift_some, bnd_lift, Option.map_some, Option.bind_some, fieldPtr_ref, fieldPtr_ip, nil_ref, nil_ip, nil_fn, ex_tup, fl_agg, List.getElem?_cons_zero, List.getElem?_cons_succ, Nat.zero_add, Nat.add_zero, Nat.reduceAdd, pk_t, pk_f, lss_int, leq_int, gtr_int, geq_int, eql_int, neq_int, not_bool, beq_self_eq_true, if_true, Bool.false_eq_true, if_false, List.nil_append, List.cons_append, List.append_nil, alc_eq, mkm_eq, nNew, nPut, bNew, bPut, nGrd, bGrd, ldN_is, ldN_lt, ldaN_is, ldaN_lt, stN_is, stN_lt, Nat.lt_add_one, ne_eq, nx1, nx2, nx3, ny1, ny2, ny3, not_false_eq_true, List.length_cons, List.length_nil, Nat.reduceLeDiff, setAt, List.take_succ_cons, List.take_zero, List.drop_succ_cons, List.drop_zero, cells_dat, cells_int, cells_bool, cells_agg, List.all_cons, List.all_nil, isCell_int, isCell_bool, isCell_dat, isCell_ref, isCell_nil, isCell_vsl, cells_vsl, av_len_cfg, av_len_pkt, av_len_opn, av_len_evn, av_len_ent, av_len_row, av_len_deal, av_len_pck, tk_cfg, tk_pkt, tk_opn, tk_evn, tk_ent, tk_row, tk_deal, tk_pck, all_cfg, all_pkt, all_opn, all_evn, all_ent, all_row, all_deal, all_pck, List.drop_nil, Bool.and_true, Bool.and_self, and_self, Nat.le_refl, true_and, and_true, Nat.le_add_right, leS, ltS, sh_51, box_agg, Opn.av, b1, b2, a, Bool.false_and]
  by_cases b : o.kind ≤ 4
  rotate_left
  · simp -implicitDefEqProofs only [bnd_some, bo_some, condK_true, condK_false, gdA_undef, decide_true, decide_false, Int.reduceLE, Int.reduceLT, Int.reduceEq, Int.reduceNeg, Int.reduceAdd, gd_tt, gd_tf, gd_ft, gd_ff, unG_pure, lift_some, bnd_lift, Option.map_some, Option.bind_some, fieldPtr_ref, fieldPtr_ip, nil_ref, nil_ip, nil_fn, ex_tup, fl_agg, List.getElem?_cons_zero, List.getElem?_cons_succ, Nat.zero_add, Nat.add_zero, Nat.reduceAdd, pk_t, pk_f, lss_int, leq_int, gtr_int, geq_int, eql_int, neq_int, not_bool, beq_self_eq_true, if_true, Bool.false_eq_true, if_false, List.nil_append, List.cons_append, List.append_nil, alc_eq, mkm_eq, nNew, nPut, bNew, bPut, nGrd, bGrd, ldN_is, ldN_lt, ldaN_is, ldaN_lt, stN_is, stN_lt, Nat.lt_add_one, ne_eq, nx1, nx2, nx3, ny1, ny2, ny3, not_false_eq_true, List.length_cons, List.length_nil, Nat.reduceLeDiff, setAt, List.take_succ_cons, List.take_zero, List.drop_succ_cons, List.drop_zero, cells_dat, cells_int, cells_bool, cells_agg, List.all_cons, List.all_nil, isCell_int, isCell_bool, isCell_dat, isCell_ref, isCell_nil, isCell_vsl, cells_vsl, av_len_cfg, av_len_pkt, av_len_opn, av_len_evn, av_len_ent, av_len_row, av_len_deal, av_len_pck, tk_cfg, tk_pkt, tk_opn, tk_evn, tk_ent, tk_row, tk_deal, tk_pck, all_cfg, all_pkt, all_opn, all_evn, all_ent, all_row, all_deal, all_pck, List.drop_nil, Bool.and_true, Bool.and_self, and_self, Nat.le_refl, true_and, and_true, Nat.le_add_right, leS, ltS, sh_51, box_agg, Opn.av, b1, b2, a, b, Bool.false_and, Bool.true_and]
  by_cases d : 0 ≤ o.addr
  rotate_left
  · simp -implicitDefEqProofs only [bnd_some, bo_some, condK_true, condK_false, gdA_undef, decide_true, decide_false, Int.reduceLE, Int.reduceLT, Int.reduceEq, Int.reduceNeg, Int.reduceAdd, gd_tt, gd_tf, gd_ft, gd_ff, unG_pure, lift_some, bnd_lift, Option.map_some, Option.bind_some, fieldPtr_ref, fieldPtr_ip, nil_ref, nil_ip, nil_fn, ex_tup, fl_agg, List.getElem?_cons_zero, List.getElem?_cons_succ, Nat.zero_add, Nat.add_zero, Nat.reduceAdd, pk_t, pk_f, lss_int, leq_int, gtr_int, geq_int, eql_int, neq_int, not_bool, beq_self_eq_true, if_true, Bool.false_eq_true, if_false, List.nil_append, List.cons_append, List.append_nil, alc_eq, mkm_eq, nNew, nPut, bNew, bPut, nGrd, bGrd, ldN_is, ldN_lt, ldaN_is, ldaN_lt, stN_is, stN_lt, Nat.lt_add_one, ne_eq, nx1, nx2, nx3, ny1, ny2, ny3, not_false_eq_true, List.length_cons, List.length_nil, Nat.reduceLeDiff, setAt, List.take_succ_cons, List.take_zero, List.drop_succ_cons, List.drop_zero, cells_dat, cells_int, cells_bool, cells_agg, List.all_cons, List.all_nil, isCell_int, isCell_bool, isCell_dat, isCell_ref, isCell_nil, isCell_vsl, cells_vsl, av_len_cfg, av_len_pkt, av_len_opn, av_len_evn, av_len_ent, av_len_row, av_len_deal, av_len_pck, tk_cfg, tk_pkt, tk_opn, tk_evn, tk_ent, tk_row, tk_deal, tk_pck, all_cfg, all_pkt, all_opn, all_evn, all_ent, all_row, all_deal, all_pck, List.drop_nil, Bool.and_true, Bool.and_self, and_self, Nat.le_refl, true_and, and_true, Nat.le_add_right, leS, ltS, sh_51, box_agg, Opn.av, b1, b2, a, b, d, Bool.false_and, Bool.true_and]
  by_cases e : o.addr < c.lines * c.words
  rotate_left
  · simp -implicitDefEqProofs only [bnd_some, bo_some, condK_true, condK_false, gdA_undef, decide_true, decide_false, Int.reduceLE, Int.reduceLT, Int.reduceEq, Int.reduceNeg, Int.reduceAdd, gd_tt, gd_tf, gd_ft, gd_ff, unG_pure, lift_some, bnd_lift, Option.map_some, Option.bind_some, fieldPtr_ref, fieldPtr_ip, nil_ref, nil_ip, nil_fn, ex_tup, fl_agg, List.getElem?_cons_zero, List.getElem?_cons_succ, Nat.zero_add, Nat.add_zero, Nat.reduceAdd, pk_t, pk_f, lss_int, leq_int, gtr_int, geq_int, eql_int, neq_int, not_bool, beq_self_eq_true, if_true, Bool.false_eq_true, if_false, List.nil_append, List.cons_append, List.append_nil, alc_eq, mkm_eq, nNew, nPut, bNew, bPut, nGrd, bGrd, ldN_is, ldN_lt, ldaN_is, ldaN_lt, stN_is, stN_lt, Nat.lt_add_one, ne_eq, nx1, nx2, nx3, ny1, ny2, ny3, not_false_eq_true, List.length_cons, List.length_nil, Nat.reduceLeDiff, setAt, List.take_succ_cons, List.take_zero, List.drop_succ_cons, List.drop_zero, cells_dat, cells_int, cells_bool, cells_agg, List.all_cons, List.all_nil, isCell_int, isCell_bool, isCell_dat, isCell_ref, isCell_nil, isCell_vsl, cells_vsl, av_len_cfg, av_len_pkt, av_len_opn, av_len_evn, av_len_ent, av_len_row, av_len_deal, av_len_pck, tk_cfg, tk_pkt, tk_opn, tk_evn, tk_ent, tk_row, tk_deal, tk_pck, all_cfg, all_pkt, all_opn, all_evn, all_ent, all_row, all_deal, all_pck, List.drop_nil, Bool.and_true, Bool.and_self, and_self, Nat.le_refl, true_and, and_true, Nat.le_add_right, leS, ltS, sh_51, box_agg, Opn.av, b1, b2, a, b, d, e, mul_int, hm, Bool.false_and, Bool.true_and]
  by_cases f : o.value = 0
  · simp -implicitDefEqProofs only [bnd_some, bo_some, condK_true, condK_false, gdA_undef, decide_true, decide_false, Int.reduceLE, Int.reduceLT, Int.reduceEq, Int.reduceNeg, Int.reduceAdd, gd_tt, gd_tf, gd_ft, gd_ff, unG_pure, lift_some, bnd_lift, Option.map_some, Option.bind_some, fieldPtr_ref, fieldPtr_ip, nil_ref, nil_ip, nil_fn, ex_tup, fl_agg, List.getElem?_cons_zero, List.getElem?_cons_succ, Nat.zero_add, Nat.add_zero, Nat.reduceAdd, pk_t, pk_f, lss_int, leq_int, gtr_int, geq_int, eql_int, neq_int, not_bool, beq_self_eq_true, if_true, Bool.false_eq_true, if_false, List.nil_append, List.cons_append, List.append_nil, alc_eq, mkm_eq, nNew, nPut, bNew, bPut, nGrd, bGrd, ldN_is, ldN_lt, ldaN_is, ldaN_lt, stN_is, stN_lt, Nat.lt_add_one, ne_eq, nx1, nx2, nx3, ny1, ny2, ny3, not_false_eq_true, List.length_cons, List.length_nil, Nat.reduceLeDiff, setAt, List.take_succ_cons, List.take_zero, List.drop_succ_cons, List.drop_zero, cells_dat, cells_int, cells_bool, cells_agg, List.all_cons, List.all_nil, isCell_int, isCell_bool, isCell_dat, isCell_ref, isCell_nil, isCell_vsl, cells_vsl, av_len_cfg, av_len_pkt, av_len_opn, av_len_evn, av_len_ent, av_len_row, av_len_deal, av_len_pck, tk_cfg, tk_pkt, tk_opn, tk_evn, tk_ent, tk_row, tk_deal, tk_pck, all_cfg, all_pkt, all_opn, all_evn, all_ent, all_row, all_deal, all_pck, List.drop_nil, Bool.and_true, Bool.and_self, and_self, Nat.le_refl, true_and, and_true, Nat.le_add_right, leS, ltS, sh_51, box_agg, Opn.av, b1, b2, a, b, d, e, f, mul_int, hm, Bool.false_and, Bool.true_and, Bool.true_or]
  by_cases g : o.kind = 2
  · simp -implicitDefEqProofs only [bnd_some, bo_some, condK_true, condK_false, gdA_undef, decide_true, decide_false, Int.reduceLE, Int.reduceLT, Int.reduceEq, Int.reduceNeg, Int.reduceAdd, gd_tt, gd_tf, gd_ft, gd_ff, unG_pure, lift_some, bnd_lift, Option.map_some, Option.bind_some, fieldPtr_ref, fieldPtr_ip, nil_ref, nil_ip, nil_fn, ex_tup, fl_agg, List.getElem?_cons_zero, List.getElem?_cons_succ, Nat.zero_add, Nat.add_zero, Nat.reduceAdd, pk_t, pk_f, lss_int, leq_int, gtr_int, geq_int, eql_int, neq_int, not_bool, beq_self_eq_true, if_true, Bool.false_eq_true, if_false, List.nil_append, List.cons_append, List.append_nil, alc_eq, mkm_eq, nNew, nPut, bNew, bPut, nGrd, bGrd, ldN_is, ldN_lt, ldaN_is, ldaN_lt, stN_is, stN_lt, Nat.lt_add_one, ne_eq, nx1, nx2, nx3, ny1, ny2, ny3, not_false_eq_true, List.length_cons, List.length_nil, Nat.reduceLeDiff, setAt, List.take_succ_cons, List.take_zero, List.drop_succ_cons, List.drop_zero, cells_dat, cells_int, cells_bool, cells_agg, List.all_cons, List.all_nil, isCell_int, isCell_bool, isCell_dat, isCell_ref, isCell_nil, isCell_vsl, cells_vsl, av_len_cfg, av_len_pkt, av_len_opn, av_len_evn, av_len_ent, av_len_row, av_len_deal, av_len_pck, tk_cfg, tk_pkt, tk_opn, tk_evn, tk_ent, tk_row, tk_deal, tk_pck, all_cfg, all_pkt, all_opn, all_evn, all_ent, all_row, all_deal, all_pck, List.drop_nil, Bool.and_true, Bool.and_self, and_self, Nat.le_refl, true_and, and_true, Nat.le_add_right, leS, ltS, sh_51, box_agg, Opn.av, b1, b2, a, b, d, e, f, g, mul_int, hm, Bool.false_and, Bool.true_and, Bool.true_or, Bool.false_or]
  by_cases i : o.kind = 3
  · simp -implicitDefEqProofs only [bnd_some, bo_some, condK_true, condK_false, gdA_undef, decide_true, decide_false, Int.reduceLE, Int.reduceLT, Int.reduceEq, Int.reduceNeg, Int.reduceAdd, gd_tt, gd_tf, gd_ft, gd_ff, unG_pure, lift_some, bnd_lift, Option.map_some, Option.bind_some, fieldPtr_ref, fieldPtr_ip, nil_ref, nil_ip, nil_fn, ex_tup, fl_agg, List.getElem?_cons_zero, List.getElem?_cons_succ, Nat.zero_add, Nat.add_zero, Nat.reduceAdd, pk_t, pk_f, lss_int, leq_int, gtr_int, geq_int, eql_int, neq_int, not_bool, beq_self_eq_true, if_true, Bool.false_eq_true, if_false, List.nil_append, List.cons_append, List.append_nil, alc_eq, mkm_eq, nNew, nPut, bNew, bPut, nGrd, bGrd, ldN_is, ldN_lt, ldaN_is, ldaN_lt, stN_is, stN_lt, Nat.lt_add_one, ne_eq, nx1, nx2, nx3, ny1, ny2, ny3, not_false_eq_true, List.length_cons, List.length_nil, Nat.reduceLeDiff, setAt, List.take_succ_cons, List.take_zero, List.drop_succ_cons, List.drop_zero, cells_dat, cells_int, cells_bool, cells_agg, List.all_cons, List.all_nil, isCell_int, isCell_bool, isCell_dat, isCell_ref, isCell_nil, isCell_vsl, cells_vsl, av_len_cfg, av_len_pkt, av_len_opn, av_len_evn, av_len_ent, av_len_row, av_len_deal, av_len_pck, tk_cfg, tk_pkt, tk_opn, tk_evn, tk_ent, tk_row, tk_deal, tk_pck, all_cfg, all_pkt, all_opn, all_evn, all_ent, all_row, all_deal, all_pck, List.drop_nil, Bool.and_true, Bool.and_self, and_self, Nat.le_refl, true_and, and_true, Nat.le_add_right, leS, ltS, sh_51, box_agg, Opn.av, b1, b2, a, b, d, e, f, g, i, mul_int, hm, Bool.false_and, Bool.true_and, Bool.true_or, Bool.false_or]
  · simp -implicitDefEqProofs only [bnd_some, bo_some, condK_true, condK_false, gdA_undef, decide_true, decide_false, Int.reduceLE, Int.reduceLT, Int.reduceEq, Int.reduceNeg, Int.reduceAdd, gd_tt, gd_tf, gd_ft, gd_ff, unG_pure, lift_some, bnd_lift, Option.map_some, Option.bind_some, fieldPtr_ref, fieldPtr_ip, nil_ref, nil_ip, nil_fn, ex_tup, fl_agg, List.getElem?_cons_zero, List.getElem?_cons_succ, Nat.zero_add, Nat.add_zero, Nat.reduceAdd, pk_t, pk_f, lss_int, leq_int, gtr_int, geq_int, eql_int, neq_int, not_bool, beq_self_eq_true, if_true, Bool.false_eq_true, if_false, List.nil_append, List.cons_append, List.append_nil, alc_eq, mkm_eq, nNew, nPut, bNew, bPut, nGrd, bGrd, ldN_is, ldN_lt, ldaN_is, ldaN_lt, stN_is, stN_lt, Nat.lt_add_one, ne_eq, nx1, nx2, nx3, ny1, ny2, ny3, not_false_eq_true, List.length_cons, List.length_nil, Nat.reduceLeDiff, setAt, List.take_succ_cons, List.take_zero, List.drop_succ_cons, List.drop_zero, cells_dat, cells_int, cells_bool, cells_agg, List.all_cons, List.all_nil, isCell_int, isCell_bool, isCell_dat, isCell_ref, isCell_nil, isCell_vsl, cells_vsl, av_len_cfg, av_len_pkt, av_len_opn, av_len_evn, av_len_ent, av_len_row, av_len_deal, av_len_pck, tk_cfg, tk_pkt, tk_opn, tk_evn, tk_ent, tk_row, tk_deal, tk_pck, all_cfg, all_pkt, all_opn, all_evn, all_ent, all_row, all_deal, all_pck, List.drop_nil, Bool.and_true, Bool.and_self, and_self, Nat.le_refl, true_and, and_true, Nat.le_add_right, leS, ltS, sh_51, box_agg, Opn.av, b1, b2, a, b, d, e, f, g, i, mul_int, hm, Bool.false_and, Bool.true_and, Bool.true_or, Bool.false_or]
def opsB (c : Cfg) (l : List Opn) : Bool := decide (l.length ≤ 24) && l.all c.right
theorem rops_sp (H : AHeap) (c : Cfg) (h : c.ok = true) {x : AV} {ps : List (List Opn)} (hx : PsIs H x ps) (hn : ps.length < 1000000000) (hl : ∀ l ∈ ps, l.length < 1000000000) : cl 22 [.agg c.av, x] H = some (B (c.opsOk ps), H) := by
  refine pure_val rfl rfl (rn_22 _ _ _ _) ?_ frz_s
  let H0 := H.guard.new (.blk 0 26 c.av)
  have n0 : H0.next = H.next + 1 := rfl
  have hx1 := hx.of_get (H' := H0) (by rw [n0]; omega) fun r hr => by simp only [H0]; rw [getNew_lt (by rw [nGrd]; exact hr), gGrd]
  -- what a memory is that has gone on from there
  have keep : ∀ {H1 : AHeap}, H0.next ≤ H1.next → (∀ r, r < H0.next → H1.get r = H0.get r) → PsIs H1 x ps ∧ lda 8 (.ref H.next 0 0) H1 = some (.agg c.av, H1) ∧ ld (.ref H.next 0 0) H1 = some (I c.nodes, H1) := by
    intro H1 a b
    have g : H1.get H.next = .blk 0 26 c.av := by rw [b _ (by omega)]; exact getNew_is rfl
    exact ⟨hx1.of_get a b, lda_cfg g, by rw [ld_blk g]; rfl⟩
  have l0 : c.av[0]? = some (I c.nodes) := rfl
  obtain ⟨cells0, x0, _⟩ := hx1
  have e1 := x0.lnS
  by_cases hc : (ps.length : Int) = c.nodes
  rotate_left
  · simp only [H0] at e1
    simp -implicitDefEqProofs only [bnd_some, bo_some, condK_true, condK_false, gdA_undef, decide_true, decide_false, Int.reduceLE, Int.reduceLT, Int.reduceEq, Int.reduceNeg, Int.reduceAdd, gd_tt, gd_tf, gd_ft, gd_ff, unG_pure, lift_some, bnd_lift, Option.map_some, Option.bind_some, fieldPtr_ref, fieldPtr_ip, nil_ref, nil_ip, nil_fn, ex_tup, fl_agg, List.getElem?_cons_zero, List.getElem?_cons_succ, Nat.zero_add, Nat.add_zero, Nat.reduceAdd, pk_t, pk_f, lss_int, leq_int, gtr_int, geq_int, eql_int, neq_int, not_bool, beq_self_eq_true, if_true, Bool.false_eq_true, if_false, List.nil_append, List.cons_append, List.append_nil, alc_eq, mkm_eq, nNew, nPut, bNew, bPut, nGrd, bGrd, ldN_is, ldN_lt, ldaN_is, ldaN_lt, stN_is, stN_lt, Nat.lt_add_one, ne_eq, nx1, nx2, nx3, ny1, ny2, ny3, not_false_eq_true, List.length_cons, List.length_nil, Nat.reduceLeDiff, setAt, List.take_succ_cons, List.take_zero, List.drop_succ_cons, List.drop_zero, cells_dat, cells_int, cells_bool, cells_agg, List.all_cons, List.all_nil, isCell_int, isCell_bool, isCell_dat, isCell_ref, isCell_nil, isCell_vsl, cells_vsl, av_len_cfg, av_len_pkt, av_len_opn, av_len_evn, av_len_ent, av_len_row, av_len_deal, av_len_pck, tk_cfg, tk_pkt, tk_opn, tk_evn, tk_ent, tk_row, tk_deal, tk_pck, all_cfg, all_pkt, all_opn, all_evn, all_ent, all_row, all_deal, all_pck, List.drop_nil, Bool.and_true, Bool.and_self, and_self, Nat.le_refl, true_and, and_true, Nat.le_add_right, leS, ltS, sh_22, box_agg (all_cfg c), e1, l0, hc, Cfg.opsOk, Bool.and_false, not_true_eq_false, decide_not, Bool.not_false]
  -- the operations of one program
  have inner : ∀ (i : Nat) (l : List Opn), ps[i]? = some l → l.length < 1000000000 → ∀ k j, j + k = l.length → (l.take j).all c.right = true → ∀ H1 : AHeap, H.next ≤ H1.base → H0.next ≤ H1.next → (∀ r, r < H0.next → H1.get r = H0.get r) → H1.base ≤ H1.next → ∀ (u v : AV), SliceIs H0 v 3 l.length (l.flatMap Opn.av) →
      (l.all c.right = false → (lp_22x1 cl [.ref H.next 0 0, x, I ps.length, I i, v, I l.length, I j] H1).map Prod.fst = some (B false)) ∧
      (l.all c.right = true → ∃ H2, H.next ≤ H2.base ∧ H0.next ≤ H2.next ∧ (∀ r, r < H0.next → H2.get r = H0.get r) ∧ H2.base ≤ H2.next ∧ lp_22x1 cl [.ref H.next 0 0, x, I ps.length, I i, v, I l.length, I j] H1 = lp_22x0 cl [.ref H.next 0 0, x, I ps.length, I (i + 1 : Nat)] H2) := by
    intro i l hi hll k
    have hip : i < ps.length := (List.getElem?_eq_some_iff.1 hi).1
    induction k with
    | zero =>
      intro j hj hall H1 b0 b1 b2 b3 u v hv
      have h1 : ¬ (j : Int) < l.length := by omega
      have hal : l.all c.right = true := by rw [List.take_of_length_le (by omega)] at hall; exact hall
      have h6 : (i : Int) + 1 = ((i + 1 : Nat) : Int) := by omega
      have h7 := wrap_i64 (a := ((i + 1 : Nat) : Int)) (by omega) (by omega)
      refine ⟨fun h => (by rw [hal] at h; cases h), fun _ => ⟨H1, b0, b1, b2, b3, ?_⟩⟩
      rw [le_22x1]
      simp -implicitDefEqProofs only [bnd_some, bo_some, condK_true, condK_false, gdA_undef, decide_true, decide_false, Int.reduceLE, Int.reduceLT, Int.reduceEq, Int.reduceNeg, Int.reduceAdd, gd_tt, gd_tf, gd_ft, gd_ff, unG_pure, lift_some, bnd_lift, Option.map_some, Option.bind_some, fieldPtr_ref, fieldPtr_ip, nil_ref, nil_ip, nil_fn, ex_tup, fl_agg, List.getElem?_cons_zero, List.getElem?_cons_succ, Nat.zero_add, Nat.add_zero, Nat.reduceAdd, pk_t, pk_f, lss_int, leq_int, gtr_int, geq_int, eql_int, neq_int, not_bool, beq_self_eq_true, if_true, Bool.false_eq_true, if_false, List.nil_append, List.cons_append, List.append_nil, alc_eq, mkm_eq, nNew, nPut, bNew, bPut, nGrd, bGrd, ldN_is, ldN_lt, ldaN_is, ldaN_lt, stN_is, stN_lt, Nat.lt_add_one, ne_eq, nx1, nx2, nx3, ny1, ny2, ny3, not_false_eq_true, List.length_cons, List.length_nil, Nat.reduceLeDiff, setAt, List.take_succ_cons, List.take_zero, List.drop_succ_cons, List.drop_zero, cells_dat, cells_int, cells_bool, cells_agg, List.all_cons, List.all_nil, isCell_int, isCell_bool, isCell_dat, isCell_ref, isCell_nil, isCell_vsl, cells_vsl, av_len_cfg, av_len_pkt, av_len_opn, av_len_evn, av_len_ent, av_len_row, av_len_deal, av_len_pck, tk_cfg, tk_pkt, tk_opn, tk_evn, tk_ent, tk_row, tk_deal, tk_pck, all_cfg, all_pkt, all_opn, all_evn, all_ent, all_row, all_deal, all_pck, List.drop_nil, Bool.and_true, Bool.and_self, and_self, Nat.le_refl, true_and, and_true, Nat.le_add_right, leS, ltS, h1, add_int, h6, h7]
    | succ k ih =>
      intro j hj hall H1 b0 b1 b2 b3 u v hv
      have h1 : (j : Int) < l.length := by omega
      have hv1 := hv.of_get (H' := H1) b1 fun r _ hr => b2 r hr
      have h3 := hv1.ix (k := .i64) (i := (j : Int)) (by omega) h1
      rw [Int.toNat_natCast] at h3
      obtain ⟨o, ho⟩ : ∃ o, l[j]? = some o := ⟨_, List.getElem?_eq_getElem (by omega)⟩
      have h4 := lda_elem av_len_opn hv1 ho
      obtain ⟨_, k2, _⟩ := keep b1 b2
      have h5 := fun H => ropRight_sp H c h o
      have lt0 : H.next < H1.next := by omega
      have h6 : (j : Int) + 1 = ((j + 1 : Nat) : Int) := by omega
      have h7 := wrap_i64 (a := ((j + 1 : Nat) : Int)) (by omega) (by omega)
      have hz : H1.base ≤ H1.next := b3
      cases hr : c.right o with
      | false =>
        have hal : l.all c.right = false := by
          rw [List.all_eq_false]; exact ⟨o, List.mem_of_getElem? ho, by simp [hr]⟩
        refine ⟨fun _ => ?_, fun h => (by rw [hal] at h; cases h)⟩
        rw [le_22x1]
        simp -implicitDefEqProofs only [bnd_some, bo_some, condK_true, condK_false, gdA_undef, decide_true, decide_false, Int.reduceLE, Int.reduceLT, Int.reduceEq, Int.reduceNeg, Int.reduceAdd, gd_tt, gd_tf, gd_ft, gd_ff, unG_pure, lift_some, bnd_lift, Option.map_some, Option.bind_some, fieldPtr_ref, fieldPtr_ip, nil_ref, nil_ip, nil_fn, ex_tup, fl_agg, List.getElem?_cons_zero, List.getElem?_cons_succ, Nat.zero_add, Nat.add_zero, Nat.reduceAdd, pk_t, pk_f, lss_int, leq_int, gtr_int, geq_int, eql_int, neq_int, not_bool, beq_self_eq_true, if_true, Bool.false_eq_true, if_false, List.nil_append, List.cons_append, List.append_nil, alc_eq, mkm_eq, nNew, nPut, bNew, bPut, nGrd, bGrd, ldN_is, ldN_lt, ldaN_is, ldaN_lt, stN_is, stN_lt, Nat.lt_add_one, ne_eq, nx1, nx2, nx3, ny1, ny2, ny3, not_false_eq_true, List.length_cons, List.length_nil, Nat.reduceLeDiff, setAt, List.take_succ_cons, List.take_zero, List.drop_succ_cons, List.drop_zero, cells_dat, cells_int, cells_bool, cells_agg, List.all_cons, List.all_nil, isCell_int, isCell_bool, isCell_dat, isCell_ref, isCell_nil, isCell_vsl, cells_vsl, av_len_cfg, av_len_pkt, av_len_opn, av_len_evn, av_len_ent, av_len_row, av_len_deal, av_len_pck, tk_cfg, tk_pkt, tk_opn, tk_evn, tk_ent, tk_row, tk_deal, tk_pck, all_cfg, all_pkt, all_opn, all_evn, all_ent, all_row, all_deal, all_pck, List.drop_nil, Bool.and_true, Bool.and_self, and_self, Nat.le_refl, true_and, and_true, Nat.le_add_right, leS, ltS, h1, h3, h4, k2, h5, lt0, hr, hz, put_new, Bool.not_false]
      | true =>
        have hall' : (l.take (j + 1)).all c.right = true := by
          rw [List.take_add_one, ho, List.all_append, hall]; simp [hr]
        have key := ih (j + 1) (by omega) hall' (H1.new (.blk 0 48 o.av)) b0 (Nat.le_succ_of_le b1) (fun r hr => by rw [getNew_lt (by omega)]; exact b2 r hr) (Nat.le_succ_of_le b3) u v hv
        have step : lp_22x1 cl [.ref H.next 0 0, x, I ps.length, I i, v, I l.length, I j] H1 = lp_22x1 cl [.ref H.next 0 0, x, I ps.length, I i, v, I l.length, I (j + 1 : Nat)] (H1.new (.blk 0 48 o.av)) := by
          rw [le_22x1]
          simp -implicitDefEqProofs only [bnd_some, bo_some, condK_true, condK_false, gdA_undef, decide_true, decide_false, Int.reduceLE, Int.reduceLT, Int.reduceEq, Int.reduceNeg, Int.reduceAdd, gd_tt, gd_tf, gd_ft, gd_ff, unG_pure, lift_some, bnd_lift, Option.map_some, Option.bind_some, fieldPtr_ref, fieldPtr_ip, nil_ref, nil_ip, nil_fn, ex_tup, fl_agg, List.getElem?_cons_zero, List.getElem?_cons_succ, Nat.zero_add, Nat.add_zero, Nat.reduceAdd, pk_t, pk_f, lss_int, leq_int, gtr_int, geq_int, eql_int, neq_int, not_bool, beq_self_eq_true, if_true, Bool.false_eq_true, if_false, List.nil_append, List.cons_append, List.append_nil, alc_eq, mkm_eq, nNew, nPut, bNew, bPut, nGrd, bGrd, ldN_is, ldN_lt, ldaN_is, ldaN_lt, stN_is, stN_lt, Nat.lt_add_one, ne_eq, nx1, nx2, nx3, ny1, ny2, ny3, not_false_eq_true, List.length_cons, List.length_nil, Nat.reduceLeDiff, setAt, List.take_succ_cons, List.take_zero, List.drop_succ_cons, List.drop_zero, cells_dat, cells_int, cells_bool, cells_agg, List.all_cons, List.all_nil, isCell_int, isCell_bool, isCell_dat, isCell_ref, isCell_nil, isCell_vsl, cells_vsl, av_len_cfg, av_len_pkt, av_len_opn, av_len_evn, av_len_ent, av_len_row, av_len_deal, av_len_pck, tk_cfg, tk_pkt, tk_opn, tk_evn, tk_ent, tk_row, tk_deal, tk_pck, all_cfg, all_pkt, all_opn, all_evn, all_ent, all_row, all_deal, all_pck, List.drop_nil, Bool.and_true, Bool.and_self, and_self, Nat.le_refl, true_and, and_true, Nat.le_add_right, leS, ltS, h1, h3, h4, k2, h5, lt0, hr, hz, put_new, Bool.not_true, add_int, h6, h7]
        rw [step]
        exact key
  have outer : ∀ k i, i + k = ps.length → (ps.take i).all (opsB c) = true → ∀ H1 : AHeap, H.next ≤ H1.base → H0.next ≤ H1.next → (∀ r, r < H0.next → H1.get r = H0.get r) → H1.base ≤ H1.next → (lp_22x0 cl [.ref H.next 0 0, x, I ps.length, I i] H1).map Prod.fst = some (B (ps.all (opsB c))) := by
    intro k
    induction k with
    | zero =>
      intro i hi hall H1 b0 b1 b2 b3
      have h1 : ¬ (i : Int) < ps.length := by omega
      rw [List.take_of_length_le (by omega)] at hall
      rw [hall, le_22x0]
      simp -implicitDefEqProofs only [bnd_some, bo_some, condK_true, condK_false, gdA_undef, decide_true, decide_false, Int.reduceLE, Int.reduceLT, Int.reduceEq, Int.reduceNeg, Int.reduceAdd, gd_tt, gd_tf, gd_ft, gd_ff, unG_pure, lift_some, bnd_lift, Option.map_some, Option.bind_some, fieldPtr_ref, fieldPtr_ip, nil_ref, nil_ip, nil_fn, ex_tup, fl_agg, List.getElem?_cons_zero, List.getElem?_cons_succ, Nat.zero_add, Nat.add_zero, Nat.reduceAdd, pk_t, pk_f, lss_int, leq_int, gtr_int, geq_int, eql_int, neq_int, not_bool, beq_self_eq_true, if_true, Bool.false_eq_true, if_false, List.nil_append, List.cons_append, List.append_nil, alc_eq, mkm_eq, nNew, nPut, bNew, bPut, nGrd, bGrd, ldN_is, ldN_lt, ldaN_is, ldaN_lt, stN_is, stN_lt, Nat.lt_add_one, ne_eq, nx1, nx2, nx3, ny1, ny2, ny3, not_false_eq_true, List.length_cons, List.length_nil, Nat.reduceLeDiff, setAt, List.take_succ_cons, List.take_zero, List.drop_succ_cons, List.drop_zero, cells_dat, cells_int, cells_bool, cells_agg, List.all_cons, List.all_nil, isCell_int, isCell_bool, isCell_dat, isCell_ref, isCell_nil, isCell_vsl, cells_vsl, av_len_cfg, av_len_pkt, av_len_opn, av_len_evn, av_len_ent, av_len_row, av_len_deal, av_len_pck, tk_cfg, tk_pkt, tk_opn, tk_evn, tk_ent, tk_row, tk_deal, tk_pck, all_cfg, all_pkt, all_opn, all_evn, all_ent, all_row, all_deal, all_pck, List.drop_nil, Bool.and_true, Bool.and_self, and_self, Nat.le_refl, true_and, and_true, Nat.le_add_right, leS, ltS, h1]
    | succ k ih =>
      intro i hi hall H1 b0 b1 b2 b3
      have h1 : (i : Int) < ps.length := by omega
      obtain ⟨⟨cells, x1, x2⟩, _, _⟩ := keep b1 b2
      have hcl : cells.length = ps.length := by have := x1.1; omega
      have h3 := x1.ix (k := .i64) (i := (i : Int)) (by omega) h1
      rw [Int.toNat_natCast] at h3
      obtain ⟨v, hv⟩ : ∃ v, cells[i]? = some v := ⟨_, List.getElem?_eq_getElem (by omega)⟩
      obtain ⟨l, hpl⟩ : ∃ l, ps[i]? = some l := ⟨_, List.getElem?_eq_getElem (by omega)⟩
      have h4 := x1.ld (i := i) (by omega)
      rw [hv] at h4
      obtain ⟨y1, _⟩ := x2 i v l hv hpl
      have h5 := y1.lnS
      have hll := hl l (List.mem_of_getElem? hpl)
      -- the same slice, at first
      have y0 : SliceIs H0 v 3 l.length (l.flatMap Opn.av) := by
        obtain ⟨⟨cells', z1, z2⟩, _, _⟩ := keep (H1 := H0) (Nat.le_refl _) fun _ _ => rfl
        have hv' : cells'[i]? = some v := by
          have := (z1.of_get (H' := H1) b1 fun r _ hr => b2 r hr).ld (i := i) (by omega)
          rw [h4] at this
          cases hc' : cells'[i]? with
          | none => rw [hc'] at this; cases this
          | some w => rw [hc'] at this; simp only [Option.map_some, Option.some.injEq, Prod.mk.injEq, and_true] at this; rw [this]
        exact (z2 i v l hv' hpl).1
      by_cases hlen : l.length ≤ 24
      · have h24 : ¬ (24 : Int) < l.length := by omega
        have := inner i l hpl hll l.length 0 (by omega) (by simp) H1 b0 b1 b2 b3 v v y0
        cases hr : l.all c.right with
        | false =>
          have hal : ps.all (opsB c) = false := by
            rw [List.all_eq_false]; exact ⟨l, List.mem_of_getElem? hpl, by simp [opsB, hr]⟩
          have t := this.1 hr
          rw [hal, le_22x0]
          simp -implicitDefEqProofs only [bnd_some, bo_some, condK_true, condK_false, gdA_undef, decide_true, decide_false, Int.reduceLE, Int.reduceLT, Int.reduceEq, Int.reduceNeg, Int.reduceAdd, gd_tt, gd_tf, gd_ft, gd_ff, unG_pure, lift_some, bnd_lift, Option.map_some, Option.bind_some, fieldPtr_ref, fieldPtr_ip, nil_ref, nil_ip, nil_fn, ex_tup, fl_agg, List.getElem?_cons_zero, List.getElem?_cons_succ, Nat.zero_add, Nat.add_zero, Nat.reduceAdd, pk_t, pk_f, lss_int, leq_int, gtr_int, geq_int, eql_int, neq_int, not_bool, beq_self_eq_true, if_true, Bool.false_eq_true, if_false, List.nil_append, List.cons_append, List.append_nil, alc_eq, mkm_eq, nNew, nPut, bNew, bPut, nGrd, bGrd, ldN_is, ldN_lt, ldaN_is, ldaN_lt, stN_is, stN_lt, Nat.lt_add_one, ne_eq, nx1, nx2, nx3, ny1, ny2, ny3, not_false_eq_true, List.length_cons, List.length_nil, Nat.reduceLeDiff, setAt, List.take_succ_cons, List.take_zero, List.drop_succ_cons, List.drop_zero, cells_dat, cells_int, cells_bool, cells_agg, List.all_cons, List.all_nil, isCell_int, isCell_bool, isCell_dat, isCell_ref, isCell_nil, isCell_vsl, cells_vsl, av_len_cfg, av_len_pkt, av_len_opn, av_len_evn, av_len_ent, av_len_row, av_len_deal, av_len_pck, tk_cfg, tk_pkt, tk_opn, tk_evn, tk_ent, tk_row, tk_deal, tk_pck, all_cfg, all_pkt, all_opn, all_evn, all_ent, all_row, all_deal, all_pck, List.drop_nil, Bool.and_true, Bool.and_self, and_self, Nat.le_refl, true_and, and_true, Nat.le_add_right, leS, ltS, h1, h3, h4, h5, h24]
          exact t
        | true =>
          obtain ⟨H2, c0, c1, c2, c3, t⟩ := this.2 hr
          have := ih (i + 1) (by omega) (by rw [List.take_add_one, hpl, List.all_append, hall]; simp [opsB, hlen, hr]) H2 c0 c1 c2 c3
          rw [le_22x0]
          simp -implicitDefEqProofs only [bnd_some, bo_some, condK_true, condK_false, gdA_undef, decide_true, decide_false, Int.reduceLE, Int.reduceLT, Int.reduceEq, Int.reduceNeg, Int.reduceAdd, gd_tt, gd_tf, gd_ft, gd_ff, unG_pure, lift_some, bnd_lift, Option.map_some, Option.bind_some, fieldPtr_ref, fieldPtr_ip, nil_ref, nil_ip, nil_fn, ex_tup, fl_agg, List.getElem?_cons_zero, List.getElem?_cons_succ, Nat.zero_add, Nat.add_zero, Nat.reduceAdd, pk_t, pk_f, lss_int, leq_int, gtr_int, geq_int, eql_int, neq_int, not_bool, beq_self_eq_true, if_true, Bool.false_eq_true, if_false, List.nil_append, List.cons_append, List.append_nil, alc_eq, mkm_eq, nNew, nPut, bNew, bPut, nGrd, bGrd, ldN_is, ldN_lt, ldaN_is, ldaN_lt, stN_is, stN_lt, Nat.lt_add_one, ne_eq, nx1, nx2, nx3, ny1, ny2, ny3, not_false_eq_true, List.length_cons, List.length_nil, Nat.reduceLeDiff, setAt, List.take_succ_cons, List.take_zero, List.drop_succ_cons, List.drop_zero, cells_dat, cells_int, cells_bool, cells_agg, List.all_cons, List.all_nil, isCell_int, isCell_bool, isCell_dat, isCell_ref, isCell_nil, isCell_vsl, cells_vsl, av_len_cfg, av_len_pkt, av_len_opn, av_len_evn, av_len_ent, av_len_row, av_len_deal, av_len_pck, tk_cfg, tk_pkt, tk_opn, tk_evn, tk_ent, tk_row, tk_deal, tk_pck, all_cfg, all_pkt, all_opn, all_evn, all_ent, all_row, all_deal, all_pck, List.drop_nil, Bool.and_true, Bool.and_self, and_self, Nat.le_refl, true_and, and_true, Nat.le_add_right, leS, ltS, h1, h3, h4, h5, h24]
          have t' : lp_22x1 cl [.ref H.next 0 0, x, I ps.length, I i, v, I l.length, I 0] H1 = lp_22x0 cl [.ref H.next 0 0, x, I ps.length, I (i + 1 : Nat)] H2 := t
          rw [t']; exact this
      · have h24 : (24 : Int) < l.length := by omega
        have hal : ps.all (opsB c) = false := by
          rw [List.all_eq_false]; exact ⟨l, List.mem_of_getElem? hpl, by simp [opsB, hlen]⟩
        rw [hal, le_22x0]
        simp -implicitDefEqProofs only [bnd_some, bo_some, condK_true, condK_false, gdA_undef, decide_true, decide_false, Int.reduceLE, Int.reduceLT, Int.reduceEq, Int.reduceNeg, Int.reduceAdd, gd_tt, gd_tf, gd_ft, gd_ff, unG_pure, lift_some, bnd_lift, Option.map_some, Option.bind_some, fieldPtr_ref, fieldPtr_ip, nil_ref, nil_ip, nil_fn, ex_tup, fl_agg, List.getElem?_cons_zero, List.getElem?_cons_succ, Nat.zero_add, Nat.add_zero, Nat.reduceAdd, pk_t, pk_f, lss_int, leq_int, gtr_int, geq_int, eql_int, neq_int, not_bool, beq_self_eq_true, if_true, Bool.false_eq_true, if_false, List.nil_append, List.cons_append, List.append_nil, alc_eq, mkm_eq, nNew, nPut, bNew, bPut, nGrd, bGrd, ldN_is, ldN_lt, ldaN_is, ldaN_lt, stN_is, stN_lt, Nat.lt_add_one, ne_eq, nx1, nx2, nx3, ny1, ny2, ny3, not_false_eq_true, List.length_cons, List.length_nil, Nat.reduceLeDiff, setAt, List.take_succ_cons, List.take_zero, List.drop_succ_cons, List.drop_zero, cells_dat, cells_int, cells_bool, cells_agg, List.all_cons, List.all_nil, isCell_int, isCell_bool, isCell_dat, isCell_ref, isCell_nil, isCell_vsl, cells_vsl, av_len_cfg, av_len_pkt, av_len_opn, av_len_evn, av_len_ent, av_len_row, av_len_deal, av_len_pck, tk_cfg, tk_pkt, tk_opn, tk_evn, tk_ent, tk_row, tk_deal, tk_pck, all_cfg, all_pkt, all_opn, all_evn, all_ent, all_row, all_deal, all_pck, List.drop_nil, Bool.and_true, Bool.and_self, and_self, Nat.le_refl, true_and, and_true, Nat.le_add_right, leS, ltS, h1, h3, h4, h5, h24]
  have fin := outer ps.length 0 (by omega) (by simp) H0 (Nat.le_refl _) (Nat.le_refl _) (fun _ _ => rfl) (by rw [n0]; show H.next ≤ _; omega)
  have eo : c.opsOk ps = ps.all (opsB c) := by simp only [Cfg.opsOk, hc, decide_true, Bool.and_true]; rfl
  rw [eo]
  simp only [H0] at e1 fin
  simp -implicitDefEqProofs only [bnd_some, bo_some, condK_true, condK_false, gdA_undef, decide_true, decide_false, Int.reduceLE, Int.reduceLT, Int.reduceEq, Int.reduceNeg, Int.reduceAdd, gd_tt, gd_tf, gd_ft, gd_ff, unG_pure, lift_some, bnd_lift, Option.map_some, Option.bind_some, fieldPtr_ref, fieldPtr_ip, nil_ref, nil_ip, nil_fn, ex_tup, fl_agg, List.getElem?_cons_zero, List.getElem?_cons_succ, Nat.zero_add, Nat.add_zero, Nat.reduceAdd, pk_t, pk_f, lss_int, leq_int, gtr_int, geq_int, eql_int, neq_int, not_bool, beq_self_eq_true, if_true, Bool.false_eq_true, if_false, List.nil_append, List.cons_append, List.append_nil, alc_eq, mkm_eq, nNew, nPut, bNew, bPut, nGrd, bGrd, ldN_is, ldN_lt, ldaN_is, ldaN_lt, stN_is, stN_lt, Nat.lt_add_one, ne_eq, nx1, nx2, nx3, ny1, ny2, ny3, not_false_eq_true, List.length_cons, List.length_nil, Nat.reduceLeDiff, setAt, List.take_succ_cons, List.take_zero, List.drop_succ_cons, List.drop_zero, cells_dat, cells_int, cells_bool, cells_agg, List.all_cons, List.all_nil, isCell_int, isCell_bool, isCell_dat, isCell_ref, isCell_nil, isCell_vsl, cells_vsl, av_len_cfg, av_len_pkt, av_len_opn, av_len_evn, av_len_ent, av_len_row, av_len_deal, av_len_pck, tk_cfg, tk_pkt, tk_opn, tk_evn, tk_ent, tk_row, tk_deal, tk_pck, all_cfg, all_pkt, all_opn, all_evn, all_ent, all_row, all_deal, all_pck, List.drop_nil, Bool.and_true, Bool.and_self, and_self, Nat.le_refl, true_and, and_true, Nat.le_add_right, leS, ltS, sh_22, box_agg (all_cfg c), e1, l0, hc]
  rw [← hc]
  exact fin

end Go.Proofs.YtlcdejlbmnjlaaaGreat

namespace Go.Proofs.YtlcdejlbmnjlaaaGreat

theorem ck_of {β : Type} {w : Option Nat} {H H' : AHeap} {k : Option β} (h : ∀ r, w = some r → H'.get r = H.get r) : ck w H H' k = k := if_pos h
theorem freeze_own {H1 : AHeap} {n d m k : Nat} {x : AV} {cells : List AV} (c : Own n H1 x m cells) (hm : 0 < m) (hl : cells.length = k * m) (hz : ∀ y ∈ cells, freezeA H1 n d y = some y) (hk : k ≠ 0) : freezeA H1 n (d + 1) x = some (.vs k m cells) := by
  rcases c with ⟨rfl, rfl⟩ | ⟨r, g, off, n', cap, ex, ty, all, rfl, k2, k3, k4, k5, k6, k7, rfl⟩
  · simp only [List.length_nil] at hl
    rcases Nat.mul_eq_zero.1 hl.symm with h | h <;> omega
  · have hcm : n' * m ≤ cap * m := Nat.mul_le_mul_right _ k4
    rw [List.length_take, List.length_drop, Nat.min_eq_left (by omega)] at hl
    have : n' = k := Nat.eq_of_mul_eq_mul_right hm hl
    subst this
    exact freeze_sl k2 (cells := (all.drop off).take (n' * m)) (by simp only [sliceCells, k5]; rw [if_pos ⟨trivial, by omega⟩]) (freeze_all _ hz)
theorem first_get {c : Cfg} {line : Int} (h0 : 0 ≤ line) (h1 : line < c.lines) {i : Nat} (hi : i < c.words.toNat) : (c.first line)[i]? = some (c.init.getD ((line * c.words).toNat + i) 0) := by
  unfold Cfg.first
  rw [if_neg (by omega), List.getElem?_map, List.getElem?_range hi]; rfl
theorem first_len {c : Cfg} {line : Int} (h0 : 0 ≤ line) (h1 : line < c.lines) : (c.first line).length = c.words.toNat := by
  unfold Cfg.first
  rw [if_neg (by omega)]; simp
theorem rwords_sp (H : AHeap) (c : Cfg) (h : c.ok = true) (line : Int) (h0 : 0 ≤ line) (h1 : line < c.lines) : cl 83 [.agg c.av, I line] H = some (dat (c.first line), H) := by
  have Bd := cfgB h
  have hw := Bd.words
  have hlw : 0 ≤ line * c.words := Int.mul_nonneg h0 (by omega)
  have hlw2 : line * c.words ≤ 8 * 4 := Int.mul_le_mul (by have := Bd.lines; omega) hw.2 (by omega) (by omega)
  have w := wrap_i64 (a := line * c.words) (by omega) (by omega)
  let H0 := H.guard.new (.blk 0 26 c.av)
  have g0 : H0.get H.next = .blk 0 26 c.av := getNew_is rfl
  have key : ∀ k i, i + k = c.words.toNat → ∀ (H1 : AHeap) (x : AV), H.next ≤ H1.next → H1.base = H.next → H1.get H.next = .blk 0 26 c.av → Own (H.next + 1) H1 x 1 (((c.first line).take i).map I) → H.next + 1 ≤ H1.next →
      ∃ H2 y, lp_83x0 cl [I line, .ref H.next 0 0, x, I i] H1 = some (y, H2) ∧ Own (H.next + 1) H2 y 1 ((c.first line).map I) := by
    intro k
    induction k with
    | zero =>
      intro i hi H1 x n1 b1 g1 O n2
      have l2 : ld (.ref H.next 0 2) H1 = some (I c.words, H1) := by rw [ld_blk g1]; rfl
      have hn : ¬ (i : Int) < c.words := by omega
      rw [List.take_of_length_le (by rw [first_len h0 h1]; omega)] at O
      refine ⟨H1, x, ?_, O⟩
      rw [le_83x0]
      simp -implicitDefEqProofs only [bnd_some, bo_some, condK_true, condK_false, gdA_undef, decide_true, decide_false, Int.reduceLE, Int.reduceLT, Int.reduceEq, Int.reduceNeg, Int.reduceAdd, gd_tt, gd_tf, gd_ft, gd_ff, unG_pure, lift_some, bnd_lift, Option.map_some, Option.bind_some, fieldPtr_ref, fieldPtr_ip, nil_ref, nil_ip, nil_fn, ex_tup, fl_agg, List.getElem?_cons_zero, List.getElem?_cons_succ, Nat.zero_add, Nat.add_zero, Nat.reduceAdd, pk_t, pk_f, lss_int, leq_int, gtr_int, geq_int, eql_int, neq_int, not_bool, beq_self_eq_true, if_true, Bool.false_eq_true, if_false, List.nil_append, List.cons_append, List.append_nil, alc_eq, mkm_eq, nNew, nPut, bNew, bPut, nGrd, bGrd, ldN_is, ldN_lt, ldaN_is, ldaN_lt, stN_is, stN_lt, Nat.lt_add_one, ne_eq, nx1, nx2, nx3, ny1, ny2, ny3, not_false_eq_true, List.length_cons, List.length_nil, Nat.reduceLeDiff, setAt, List.take_succ_cons, List.take_zero, List.drop_succ_cons, List.drop_zero, cells_dat, cells_int, cells_bool, cells_agg, List.all_cons, List.all_nil, isCell_int, isCell_bool, isCell_dat, isCell_ref, isCell_nil, isCell_vsl, cells_vsl, av_len_cfg, av_len_pkt, av_len_opn, av_len_evn, av_len_ent, av_len_row, av_len_deal, av_len_pck, tk_cfg, tk_pkt, tk_opn, tk_evn, tk_ent, tk_row, tk_deal, tk_pck, all_cfg, all_pkt, all_opn, all_evn, all_ent, all_row, all_deal, all_pck, List.drop_nil, Bool.and_true, Bool.and_self, and_self, Nat.le_refl, true_and, and_true, Nat.le_add_right, leS, ltS, l2, hn]
    | succ k ih =>
      intro i hi H1 x n1 b1 g1 O n2
      have l2 : ld (.ref H.next 0 2) H1 = some (I c.words, H1) := by rw [ld_blk g1]; rfl
      have l7 : ld (.ref H.next 0 7) H1 = some (dat c.init, H1) := by rw [ld_blk g1]; rfl
      have hn : (i : Int) < c.words := by omega
      have e1 := (dat_is H1 c.init).lnS
      have w2 := wrap_i64 (a := line * c.words + i) (by omega) (by omega)
      have h6 : (i : Int) + 1 = ((i + 1 : Nat) : Int) := by omega
      have h7 := wrap_i64 (a := ((i + 1 : Nat) : Int)) (by omega) (by omega)
      have hg := first_get (c := c) (line := line) h0 h1 (i := i) (by omega)
      have tail : ∀ v : Int, v = c.init.getD ((line * c.words).toNat + i) 0 → ∃ H2 y, jn_83x0 cl (I line) (.ref H.next 0 0) x (I i) (I v) H1 = some (y, H2) ∧ Own (H.next + 1) H2 y 1 ((c.first line).map I) := by
        intro v hv
        have eb : bs 22 1 [(0, I v)] H1 = some (.sl H1.next 0 0 1 1 1 true, H1.new (.blk 0 3 [I v])) := (bs_22 (by decide)).trans (bsl_one rfl rfl rfl)
        obtain ⟨x', H2, a1, a2, a3⟩ := (O.new (.blk 0 3 [I v])).step (n := i) (k := 1) (e := 3) (by_ := 8) (y := .sl H1.next 0 0 1 1 1 true) (new := [I v]) (by rw [nNew]; omega) (by rw [bNew, b1]; omega) (by decide) (by rw [List.length_map, List.length_take, first_len h0 h1]; omega) (sl_new rfl) rfl (by unfold most; omega) (by unfold most; omega)
        have O2 : Own (H.next + 1) H2 x' 1 (((c.first line).take (i + 1)).map I) := by
          rw [List.take_add_one, hg, List.map_append]
          rw [hv] at a2; exact a2
        obtain ⟨H3, y, r1, r2⟩ := ih (i + 1) (by omega) H2 x' (by have := a3.next; rw [nNew] at this; omega) (by rw [a3.base, bNew, b1]) (by rw [a3.low _ (by omega), getNew_lt (by omega), g1]) O2 (by have := a3.next; rw [nNew] at this; omega)
        refine ⟨H3, y, ?_, r2⟩
        simp -implicitDefEqProofs only [bnd_some, bo_some, condK_true, condK_false, gdA_undef, decide_true, decide_false, Int.reduceLE, Int.reduceLT, Int.reduceEq, Int.reduceNeg, Int.reduceAdd, gd_tt, gd_tf, gd_ft, gd_ff, unG_pure, lift_some, bnd_lift, Option.map_some, Option.bind_some, fieldPtr_ref, fieldPtr_ip, nil_ref, nil_ip, nil_fn, ex_tup, fl_agg, List.getElem?_cons_zero, List.getElem?_cons_succ, Nat.zero_add, Nat.add_zero, Nat.reduceAdd, pk_t, pk_f, lss_int, leq_int, gtr_int, geq_int, eql_int, neq_int, not_bool, beq_self_eq_true, if_true, Bool.false_eq_true, if_false, List.nil_append, List.cons_append, List.append_nil, alc_eq, mkm_eq, nNew, nPut, bNew, bPut, nGrd, bGrd, ldN_is, ldN_lt, ldaN_is, ldaN_lt, stN_is, stN_lt, Nat.lt_add_one, ne_eq, nx1, nx2, nx3, ny1, ny2, ny3, not_false_eq_true, List.length_cons, List.length_nil, Nat.reduceLeDiff, setAt, List.take_succ_cons, List.take_zero, List.drop_succ_cons, List.drop_zero, cells_dat, cells_int, cells_bool, cells_agg, List.all_cons, List.all_nil, isCell_int, isCell_bool, isCell_dat, isCell_ref, isCell_nil, isCell_vsl, cells_vsl, av_len_cfg, av_len_pkt, av_len_opn, av_len_evn, av_len_ent, av_len_row, av_len_deal, av_len_pck, tk_cfg, tk_pkt, tk_opn, tk_evn, tk_ent, tk_row, tk_deal, tk_pck, all_cfg, all_pkt, all_opn, all_evn, all_ent, all_row, all_deal, all_pck, List.drop_nil, Bool.and_true, Bool.and_self, and_self, Nat.le_refl, true_and, and_true, Nat.le_add_right, leS, ltS, jn_83x0, eb, a1, add_int, h6, h7, r1]
      rw [le_83x0]
      by_cases hc : line * c.words + i < c.init.length
      · have e2 := (dat_is H1 c.init).ix (k := .i64) (i := line * c.words + i) (by omega) hc
        have e3 := (dat_is H1 c.init).ld (i := (line * c.words + i).toNat) (by omega)
        have e4 : (c.init.map I)[(line * c.words + i).toNat]? = some (I (c.init.getD ((line * c.words).toNat + i) 0)) := by
          have : (line * c.words + i).toNat = (line * c.words).toNat + i := by omega
          rw [this, List.getElem?_map, List.getElem?_eq_getElem (by omega)]
          simp [List.getD, List.getElem?_eq_getElem (show (line * c.words).toNat + i < c.init.length by omega)]
        rw [e4] at e3
        obtain ⟨H2, y, r1, r2⟩ := tail _ rfl
        refine ⟨H2, y, ?_, r2⟩
        simp -implicitDefEqProofs only [bnd_some, bo_some, condK_true, condK_false, gdA_undef, decide_true, decide_false, Int.reduceLE, Int.reduceLT, Int.reduceEq, Int.reduceNeg, Int.reduceAdd, gd_tt, gd_tf, gd_ft, gd_ff, unG_pure, lift_some, bnd_lift, Option.map_some, Option.bind_some, fieldPtr_ref, fieldPtr_ip, nil_ref, nil_ip, nil_fn, ex_tup, fl_agg, List.getElem?_cons_zero, List.getElem?_cons_succ, Nat.zero_add, Nat.add_zero, Nat.reduceAdd, pk_t, pk_f, lss_int, leq_int, gtr_int, geq_int, eql_int, neq_int, not_bool, beq_self_eq_true, if_true, Bool.false_eq_true, if_false, List.nil_append, List.cons_append, List.append_nil, alc_eq, mkm_eq, nNew, nPut, bNew, bPut, nGrd, bGrd, ldN_is, ldN_lt, ldaN_is, ldaN_lt, stN_is, stN_lt, Nat.lt_add_one, ne_eq, nx1, nx2, nx3, ny1, ny2, ny3, not_false_eq_true, List.length_cons, List.length_nil, Nat.reduceLeDiff, setAt, List.take_succ_cons, List.take_zero, List.drop_succ_cons, List.drop_zero, cells_dat, cells_int, cells_bool, cells_agg, List.all_cons, List.all_nil, isCell_int, isCell_bool, isCell_dat, isCell_ref, isCell_nil, isCell_vsl, cells_vsl, av_len_cfg, av_len_pkt, av_len_opn, av_len_evn, av_len_ent, av_len_row, av_len_deal, av_len_pck, tk_cfg, tk_pkt, tk_opn, tk_evn, tk_ent, tk_row, tk_deal, tk_pck, all_cfg, all_pkt, all_opn, all_evn, all_ent, all_row, all_deal, all_pck, List.drop_nil, Bool.and_true, Bool.and_self, and_self, Nat.le_refl, true_and, and_true, Nat.le_add_right, leS, ltS, l2, hn, mul_int, w, add_int, w2, l7, e1, hc, e2, e3, r1]
      · obtain ⟨H2, y, r1, r2⟩ := tail 0 (by
          have : c.init.length ≤ (line * c.words).toNat + i := by omega
          simp [List.getD, List.getElem?_eq_none this])
        refine ⟨H2, y, ?_, r2⟩
        simp -implicitDefEqProofs only [bnd_some, bo_some, condK_true, condK_false, gdA_undef, decide_true, decide_false, Int.reduceLE, Int.reduceLT, Int.reduceEq, Int.reduceNeg, Int.reduceAdd, gd_tt, gd_tf, gd_ft, gd_ff, unG_pure, lift_some, bnd_lift, Option.map_some, Option.bind_some, fieldPtr_ref, fieldPtr_ip, nil_ref, nil_ip, nil_fn, ex_tup, fl_agg, List.getElem?_cons_zero, List.getElem?_cons_succ, Nat.zero_add, Nat.add_zero, Nat.reduceAdd, pk_t, pk_f, lss_int, leq_int, gtr_int, geq_int, eql_int, neq_int, not_bool, beq_self_eq_true, if_true, Bool.false_eq_true, if_false, List.nil_append, List.cons_append, List.append_nil, alc_eq, mkm_eq, nNew, nPut, bNew, bPut, nGrd, bGrd, ldN_is, ldN_lt, ldaN_is, ldaN_lt, stN_is, stN_lt, Nat.lt_add_one, ne_eq, nx1, nx2, nx3, ny1, ny2, ny3, not_false_eq_true, List.length_cons, List.length_nil, Nat.reduceLeDiff, setAt, List.take_succ_cons, List.take_zero, List.drop_succ_cons, List.drop_zero, cells_dat, cells_int, cells_bool, cells_agg, List.all_cons, List.all_nil, isCell_int, isCell_bool, isCell_dat, isCell_ref, isCell_nil, isCell_vsl, cells_vsl, av_len_cfg, av_len_pkt, av_len_opn, av_len_evn, av_len_ent, av_len_row, av_len_deal, av_len_pck, tk_cfg, tk_pkt, tk_opn, tk_evn, tk_ent, tk_row, tk_deal, tk_pck, all_cfg, all_pkt, all_opn, all_evn, all_ent, all_row, all_deal, all_pck, List.drop_nil, Bool.and_true, Bool.and_self, and_self, Nat.le_refl, true_and, and_true, Nat.le_add_right, leS, ltS, l2, hn, mul_int, w, add_int, w2, l7, e1, hc, r1]
  obtain ⟨H2, y, r1, r2⟩ := key c.words.toNat 0 (by omega) H0 zN (by show H.next ≤ H.next + 1; omega) rfl g0 (.inl ⟨rfl, by simp⟩) (Nat.le_refl _)
  refine pure_cl rfl rfl (rn_83 _ _ _ _ (r := (y, H2)) ?_) ?_
  · have n0 : ¬ line < 0 := by omega
    have n1 : ¬ c.lines ≤ line := by omega
    have l1 : c.av[1]? = some (I c.lines) := rfl
    simp -implicitDefEqProofs only [bnd_some, bo_some, condK_true, condK_false, gdA_undef, decide_true, decide_false, Int.reduceLE, Int.reduceLT, Int.reduceEq, Int.reduceNeg, Int.reduceAdd, gd_tt, gd_tf, gd_ft, gd_ff, unG_pure, lift_some, bnd_lift, Option.map_some, Option.bind_some, fieldPtr_ref, fieldPtr_ip, nil_ref, nil_ip, nil_fn, ex_tup, fl_agg, List.getElem?_cons_zero, List.getElem?_cons_succ, Nat.zero_add, Nat.add_zero, Nat.reduceAdd, pk_t, pk_f, lss_int, leq_int, gtr_int, geq_int, eql_int, neq_int, not_bool, beq_self_eq_true, if_true, Bool.false_eq_true, if_false, List.nil_append, List.cons_append, List.append_nil, alc_eq, mkm_eq, nNew, nPut, bNew, bPut, nGrd, bGrd, ldN_is, ldN_lt, ldaN_is, ldaN_lt, stN_is, stN_lt, Nat.lt_add_one, ne_eq, nx1, nx2, nx3, ny1, ny2, ny3, not_false_eq_true, List.length_cons, List.length_nil, Nat.reduceLeDiff, setAt, List.take_succ_cons, List.take_zero, List.drop_succ_cons, List.drop_zero, cells_dat, cells_int, cells_bool, cells_agg, List.all_cons, List.all_nil, isCell_int, isCell_bool, isCell_dat, isCell_ref, isCell_nil, isCell_vsl, cells_vsl, av_len_cfg, av_len_pkt, av_len_opn, av_len_evn, av_len_ent, av_len_row, av_len_deal, av_len_pck, tk_cfg, tk_pkt, tk_opn, tk_evn, tk_ent, tk_row, tk_deal, tk_pck, all_cfg, all_pkt, all_opn, all_evn, all_ent, all_row, all_deal, all_pck, List.drop_nil, Bool.and_true, Bool.and_self, and_self, Nat.le_refl, true_and, and_true, Nat.le_add_right, leS, ltS, sh_83, box_agg (all_cfg c), n0, n1, l1]
    exact r1
  · rw [dat_eq (first_ne h h0 h1)]
    have r3 : Own H.next H2 y 1 ((c.first line).map I) := by
      rcases r2 with r2 | ⟨r, g, off, n, cap, ex, ty, all, a0, a1, a2⟩
      · exact .inl r2
      · exact .inr ⟨r, g, off, n, cap, ex, ty, all, a0, by omega, a2⟩
    exact freeze_own r3 (by decide) (by simp) (fun y hy => frz_ints _ y hy _ _) (fun e => first_ne h h0 h1 (List.eq_nil_of_length_eq_zero e))
theorem rcacheNew (H : AHeap) (sets ways : Int) (h : 1 ≤ sets) (h' : 1 ≤ ways) : ∃ H' q, cl 52 [I sets, I ways] H = some (.ref q 0 0, H') ∧ Made H H' (upd nil0 q (rcacheO ⟨[], sets, ways, 0⟩ [])) := by
  refine ⟨_, H.next, run_cl rfl rfl (rn_52 _ _ _ _ (r := (_, H.new (.blk 0 142 [I sets, I ways, zI, zN]))) ?_), made_box rfl rfl fun i c x hc hx => ?_⟩
  · have e : max sets (1 : Int) = sets := by omega
    have e' : max ways (1 : Int) = ways := by omega
    simp -implicitDefEqProofs only [bnd_some, bo_some, condK_true, condK_false, gdA_undef, decide_true, decide_false, Int.reduceLE, Int.reduceLT, Int.reduceEq, Int.reduceNeg, Int.reduceAdd, gd_tt, gd_tf, gd_ft, gd_ff, unG_pure, lift_some, bnd_lift, Option.map_some, Option.bind_some, fieldPtr_ref, fieldPtr_ip, nil_ref, nil_ip, nil_fn, ex_tup, fl_agg, List.getElem?_cons_zero, List.getElem?_cons_succ, Nat.zero_add, Nat.add_zero, Nat.reduceAdd, pk_t, pk_f, lss_int, leq_int, gtr_int, geq_int, eql_int, neq_int, not_bool, beq_self_eq_true, if_true, Bool.false_eq_true, if_false, List.nil_append, List.cons_append, List.append_nil, alc_eq, mkm_eq, nNew, nPut, bNew, bPut, nGrd, bGrd, ldN_is, ldN_lt, ldaN_is, ldaN_lt, stN_is, stN_lt, Nat.lt_add_one, ne_eq, nx1, nx2, nx3, ny1, ny2, ny3, not_false_eq_true, List.length_cons, List.length_nil, Nat.reduceLeDiff, setAt, List.take_succ_cons, List.take_zero, List.drop_succ_cons, List.drop_zero, cells_dat, cells_int, cells_bool, cells_agg, List.all_cons, List.all_nil, isCell_int, isCell_bool, isCell_dat, isCell_ref, isCell_nil, isCell_vsl, cells_vsl, av_len_cfg, av_len_pkt, av_len_opn, av_len_evn, av_len_ent, av_len_row, av_len_deal, av_len_pck, tk_cfg, tk_pkt, tk_opn, tk_evn, tk_ent, tk_row, tk_deal, tk_pck, all_cfg, all_pkt, all_opn, all_evn, all_ent, all_row, all_deal, all_pck, List.drop_nil, Bool.and_true, Bool.and_self, and_self, Nat.le_refl, true_and, and_true, Nat.le_add_right, leS, ltS, sh_52, max_int, e, e', bd_142, bldA, fillA, pl_142, box_agg]
  · match i with
    | 0 => left; cases hc; cases hx; rfl
    | 1 => left; cases hc; cases hx; rfl
    | 2 => left; cases hc; cases hx; rfl
    | 3 => right; cases hc; cases hx; exact ⟨rfl, 6, rfl⟩
    | i + 4 => cases hc
/-- A new network: the slice of its nodes' parts, each of nil slices. -/
theorem rfabNew (H : AHeap) (c : Cfg) (h : c.ok = true) : ∃ H' f, cl 23 [.agg c.av] H = some (.ref f 0 0, H') ∧ Made H H' (upd nil0 f (rfabO c (List.replicate (4 * c.nodes.toNat) []))) := by
  have Bd := cfgB h
  have hn := Bd.nodes
  let H1 := H.new (.blk 0 26 c.av)
  let H2 := H1.new (.blk 0 131 (zerosL [zN, zN, zN, zN] c.nodes.toNat))
  let S : AV := .sl (H.next + 1) 0 0 4 c.nodes.toNat c.nodes.toNat true
  let H3 := H2.new (.blk 0 118 (c.av ++ [S]))
  have e1 := mks_eq (e := 131) (m := 4) (by_ := 96) (z := [zN, zN, zN, zN]) (n := c.nodes) (H := H1) rfl rfl (by omega) (by omega) (by decide)
  have l0 : c.av[0]? = some (I c.nodes) := rfl
  have zl : ∀ n, (zerosL [zN, zN, zN, zN] n).length = n * 4 ∧ ∀ (j : Nat) x, (zerosL [zN, zN, zN, zN] n)[j]? = some x → x = zN := by
    intro n
    induction n with
    | zero => exact ⟨rfl, fun j x hx => by simp [zerosL] at hx⟩
    | succ n ih =>
      refine ⟨by rw [zerosL, List.length_append, ih.1]; simp; omega, fun j x hx => ?_⟩
      rw [zerosL] at hx
      have := List.mem_of_getElem? hx
      rcases List.mem_append.1 this with hm | hm
      · simpa using hm
      · obtain ⟨k, hk, hk2⟩ := List.getElem_of_mem hm
        exact ih.2 k x (by rw [List.getElem?_eq_getElem hk, hk2])
  refine ⟨H3, H.next + 2, run_cl rfl rfl (rn_23 _ _ _ (r := (_, H3)) ?_), ⟨by show H.next ≤ H.next + 3; omega, rfl, fun r hr => ?_, by show H.next ≤ H.next + 3; omega, fun r => if r = H.next + 2 then some (r, 0, 0, 0) else if r = H.next + 1 then some (H.next + 2, 9, 0, 0) else none, fun q cs hq => ?_⟩⟩
  · have e : bd 118 [(0, .agg c.av), (1, S)] = some (.agg (c.av ++ [S])) := by
      simp -implicitDefEqProofs only [bnd_some, bo_some, condK_true, condK_false, gdA_undef, decide_true, decide_false, Int.reduceLE, Int.reduceLT, Int.reduceEq, Int.reduceNeg, Int.reduceAdd, gd_tt, gd_tf, gd_ft, gd_ff, unG_pure, lift_some, bnd_lift, Option.map_some, Option.bind_some, fieldPtr_ref, fieldPtr_ip, nil_ref, nil_ip, nil_fn, ex_tup, fl_agg, List.getElem?_cons_zero, List.getElem?_cons_succ, Nat.zero_add, Nat.add_zero, Nat.reduceAdd, pk_t, pk_f, lss_int, leq_int, gtr_int, geq_int, eql_int, neq_int, not_bool, beq_self_eq_true, if_true, Bool.false_eq_true, if_false, List.nil_append, List.cons_append, List.append_nil, alc_eq, mkm_eq, nNew, nPut, bNew, bPut, nGrd, bGrd, bd_118, bldA, fillA, pl_118, Cfg.av, cells_agg]
      rfl
    have ea : (c.av ++ [S]).all AV.isCell = true := by rw [List.all_append, all_cfg]; rfl
    have e0 := lda_cfg (H := H1) (r := H.next) (c := c) (getNew_is rfl)
    have s1 : H1.next = H.next + 1 := rfl
    simp only [s1] at e1
    simp only [H1] at e1 e0
    simp -implicitDefEqProofs only [bnd_some, bo_some, condK_true, condK_false, gdA_undef, decide_true, decide_false, Int.reduceLE, Int.reduceLT, Int.reduceEq, Int.reduceNeg, Int.reduceAdd, gd_tt, gd_tf, gd_ft, gd_ff, unG_pure, lift_some, bnd_lift, Option.map_some, Option.bind_some, fieldPtr_ref, fieldPtr_ip, nil_ref, nil_ip, nil_fn, ex_tup, fl_agg, List.getElem?_cons_zero, List.getElem?_cons_succ, Nat.zero_add, Nat.add_zero, Nat.reduceAdd, pk_t, pk_f, lss_int, leq_int, gtr_int, geq_int, eql_int, neq_int, not_bool, beq_self_eq_true, if_true, Bool.false_eq_true, if_false, List.nil_append, List.cons_append, List.append_nil, alc_eq, mkm_eq, nNew, nPut, bNew, bPut, nGrd, bGrd, ldN_is, ldN_lt, ldaN_is, ldaN_lt, stN_is, stN_lt, Nat.lt_add_one, ne_eq, nx1, nx2, nx3, ny1, ny2, ny3, not_false_eq_true, List.length_cons, List.length_nil, Nat.reduceLeDiff, setAt, List.take_succ_cons, List.take_zero, List.drop_succ_cons, List.drop_zero, cells_dat, cells_int, cells_bool, cells_agg, List.all_cons, List.all_nil, isCell_int, isCell_bool, isCell_dat, isCell_ref, isCell_nil, isCell_vsl, cells_vsl, av_len_cfg, av_len_pkt, av_len_opn, av_len_evn, av_len_ent, av_len_row, av_len_deal, av_len_pck, tk_cfg, tk_pkt, tk_opn, tk_evn, tk_ent, tk_row, tk_deal, tk_pck, all_cfg, all_pkt, all_opn, all_evn, all_ent, all_row, all_deal, all_pck, List.drop_nil, Bool.and_true, Bool.and_self, and_self, Nat.le_refl, true_and, and_true, Nat.le_add_right, leS, ltS, sh_23, box_agg (all_cfg c), l0, e1, e, box_agg ea, S]
    rfl
  · simp only [H3, H2, H1]
    rw [getNew_lt (by simp only [nNew]; omega), getNew_lt (by simp only [nNew]; omega), getNew_lt hr]
  · unfold upd at hq
    split at hq
    · rename_i e
      subst e
      cases hq
      refine ⟨by simp, by omega, by show _ < H.next + 3; omega, 118, c.av ++ [S], getNew_is rfl, by simp [rfabO, Cfg.av], by rw [List.all_append, all_cfg]; rfl, fun i cc x hc hx => ?_⟩
      rcases Nat.lt_or_ge i 8 with hi | hi
      · rw [rfabO, List.getElem?_append_left (by simp [Cfg.av]; omega), List.getElem?_map] at hc
        rw [List.getElem?_append_left (by simp [Cfg.av]; omega)] at hx
        rw [hx] at hc
        cases hc
        exact rfl
      · have hi8 : i = 8 := by
          have := (List.getElem?_eq_some_iff.1 hx).1
          simp [Cfg.av] at this; omega
        subst hi8
        cases hc; cases hx
        refine ⟨zerosL [zN, zN, zN, zN] c.nodes.toNat, .inr ⟨H.next + 1, 0, 0, c.nodes.toNat, c.nodes.toNat, true, 131, _, rfl, by simp, by omega, by show _ < H.next + 3; omega, Nat.le_refl _, by simp only [H3]; rw [getNew_lt (by show _ < H.next + 2; omega)]; exact getNew_is rfl, by rw [(zl _).1]; omega, zerosL_all rfl _, ?_⟩, by rw [(zl _).1, List.length_replicate]; omega, fun j cells y hj hy => ?_⟩
        · rw [List.drop_zero, List.take_of_length_le (by rw [(zl _).1]; omega)]
        · rw [List.getElem?_replicate] at hj
          split at hj
          · cases hj; exact .inl ⟨(zl _).2 _ _ hy, rfl⟩
          · cases hj
    · cases hq

end Go.Proofs.YtlcdejlbmnjlaaaGreat

namespace Go.Proofs.YtlcdejlbmnjlaaaGreat

def rowsTo (c : Cfg) (n : Nat) : List Row := (List.range n).map fun (i : Nat) => (⟨0, -1, c.first (i : Int)⟩ : Row)
theorem rowsTo_succ (c : Cfg) (n : Nat) : rowsTo c (n + 1) = rowsTo c n ++ [⟨0, -1, c.first n⟩] := by
  simp [rowsTo, List.range_succ]
theorem rhomesNew (H : AHeap) (hb : H.base ≤ H.next) (c : Cfg) (h : c.ok = true) (me : Int) : ∃ H' q, cl 53 [.agg c.av, I me] H = some (.ref q 0 0, H') ∧ Made H H' (upd nil0 q (rhomesO c me ((RHomes.new c).rows.flatMap Row.av) ⟨[], []⟩)) := by
  have Bd := cfgB h
  have hl := Bd.lines
  let H1 := H.new (.blk 0 26 c.av)
  let xs : List AV := c.av ++ [I me, zN, zN, zN]
  let H2 := H1.new (.blk 0 164 xs)
  let f := H.next + 1
  have ax : xs.all AV.isCell = true := by simp only [xs, List.all_append, all_cfg]; rfl
  have M0 : Made H1 H2 (upd nil0 f (rhomesO c me [] ⟨[], []⟩)) := made_box ax (by simp [xs, rhomesO]) fun i cc x hc hx => by
    rcases Nat.lt_or_ge i 8 with hi | hi
    · left
      rw [rhomesO, List.getElem?_append_left (by simp [Cfg.av]; omega), List.getElem?_map] at hc
      rw [List.getElem?_append_left (by simp [Cfg.av]; omega)] at hx
      rw [hx] at hc
      exact (Option.some.inj hc).symm
    · obtain ⟨j, rfl⟩ : ∃ j, i = 8 + j := ⟨i - 8, by omega⟩
      match j with
      | 0 => left; cases hc; cases hx; rfl
      | 1 => right; cases hc; cases hx; exact ⟨rfl, 3, rfl⟩
      | 2 => right; cases hc; cases hx; exact ⟨rfl, 2, rfl⟩
      | 3 => right; cases hc; cases hx; exact ⟨rfl, 3, rfl⟩
      | j + 4 => exfalso; have := (List.getElem?_eq_some_iff.1 hx).1; simp [xs, Cfg.av] at this; omega
  have key : ∀ k i, i + k = c.lines.toNat → ∀ Hi, Made H1 Hi (upd nil0 f (rhomesO c me ((rowsTo c i).flatMap Row.av) ⟨[], []⟩)) →
      ∃ H', lp_53x0 cl [.ref H.next 0 0, .ref f 0 0, I i] Hi = some (.ref f 0 0, H') ∧ Made H1 H' (upd nil0 f (rhomesO c me ((rowsTo c c.lines.toNat).flatMap Row.av) ⟨[], []⟩)) := by
    intro k
    induction k with
    | zero =>
      intro i hi Hi M
      have h1 : ¬ (i : Int) < c.lines := by omega
      have g : Hi.get H.next = .blk 0 26 c.av := by rw [M.same _ (by show H.next < H.next + 1; omega)]; exact getNew_is rfl
      have l1 : ld (.ref H.next 0 1) Hi = some (I c.lines, Hi) := by rw [ld_blk g]; rfl
      rw [le_53x0]
      refine ⟨Hi, ?_, by rw [show c.lines.toNat = i by omega]; exact M⟩
      simp -implicitDefEqProofs only [bnd_some, bo_some, condK_true, condK_false, gdA_undef, decide_true, decide_false, Int.reduceLE, Int.reduceLT, Int.reduceEq, Int.reduceNeg, Int.reduceAdd, gd_tt, gd_tf, gd_ft, gd_ff, unG_pure, lift_some, bnd_lift, Option.map_some, Option.bind_some, fieldPtr_ref, fieldPtr_ip, nil_ref, nil_ip, nil_fn, ex_tup, fl_agg, List.getElem?_cons_zero, List.getElem?_cons_succ, Nat.zero_add, Nat.add_zero, Nat.reduceAdd, pk_t, pk_f, lss_int, leq_int, gtr_int, geq_int, eql_int, neq_int, not_bool, beq_self_eq_true, if_true, Bool.false_eq_true, if_false, List.nil_append, List.cons_append, List.append_nil, alc_eq, mkm_eq, nNew, nPut, bNew, bPut, nGrd, bGrd, ldN_is, ldN_lt, ldaN_is, ldaN_lt, stN_is, stN_lt, Nat.lt_add_one, ne_eq, nx1, nx2, nx3, ny1, ny2, ny3, not_false_eq_true, List.length_cons, List.length_nil, Nat.reduceLeDiff, setAt, List.take_succ_cons, List.take_zero, List.drop_succ_cons, List.drop_zero, cells_dat, cells_int, cells_bool, cells_agg, List.all_cons, List.all_nil, isCell_int, isCell_bool, isCell_dat, isCell_ref, isCell_nil, isCell_vsl, cells_vsl, av_len_cfg, av_len_pkt, av_len_opn, av_len_evn, av_len_ent, av_len_row, av_len_deal, av_len_pck, tk_cfg, tk_pkt, tk_opn, tk_evn, tk_ent, tk_row, tk_deal, tk_pck, all_cfg, all_pkt, all_opn, all_evn, all_ent, all_row, all_deal, all_pck, List.drop_nil, Bool.and_true, Bool.and_self, and_self, Nat.le_refl, true_and, and_true, Nat.le_add_right, leS, ltS, l1, h1]
    | succ k ih =>
      intro i hi Hi M
      have h1 : (i : Int) < c.lines := by omega
      have h6 : (i : Int) + 1 = ((i + 1 : Nat) : Int) := by omega
      have h7 := wrap_i64 (a := ((i + 1 : Nat) : Int)) (by omega) (by omega)
      have n1 : H1.next = H.next + 1 := rfl
      have g : Hi.get H.next = .blk 0 26 c.av := by rw [M.same _ (by omega)]; exact getNew_is rfl
      have l1 : ld (.ref H.next 0 1) Hi = some (I c.lines, Hi) := by rw [ld_blk g]; rfl
      have l8 := lda_cfg g
      obtain ⟨x, hx, cx⟩ := M.good.seq upd_same (i := 9) rfl
      have e1 := rwords_sp Hi.guard c h i (by omega) h1
      let r : Row := ⟨0, -1, c.first i⟩
      have hlen : ((rowsTo c i).flatMap Row.av).length = i * 3 := by rw [flat_len av_len_row]; simp [rowsTo]
      have eb := bsl_one (e := 157) (m := 3) (z := [zI, zI, zN]) (v := .agg r.av) (H := Hi) rfl rfl (all_row r)
      simp only [cells_agg] at eb
      obtain ⟨x', He, Hf, t1, t2, t3, t4⟩ := (M.good.new (.blk 0 157 r.av)).append (e := 157) (by_ := 40) (by rw [bNew, M.base, n1]; simp only [H1, bNew]; omega) upd_same (i := 9) rfl (by decide) hlen (cx.new _) (sl_new (ex := true) (n := 1) (m := 3) (l := r.av) rfl) (all_row r) (by unfold most; omega) (by unfold most; omega)
      have Mf : Made H1 Hf (upd nil0 f (rhomesO c me ((rowsTo c (i + 1)).flatMap Row.av) ⟨[], []⟩)) := by
        refine ((M.new _).step t3 t4).as ?_
        rw [upd_upd, rowsTo_succ, List.flatMap_append]
        congr 1
      obtain ⟨H', r1, r2⟩ := ih (i + 1) (by omega) Hf Mf
      refine ⟨H', ?_, r2⟩
      rw [le_53x0]
      have er : bd 157 [(0, I 0), (1, I (-1)), (2, dat (c.first i))] = some (.agg r.av) := by
        simp -implicitDefEqProofs only [bnd_some, bo_some, condK_true, condK_false, gdA_undef, decide_true, decide_false, Int.reduceLE, Int.reduceLT, Int.reduceEq, Int.reduceNeg, Int.reduceAdd, gd_tt, gd_tf, gd_ft, gd_ff, unG_pure, lift_some, bnd_lift, Option.map_some, Option.bind_some, fieldPtr_ref, fieldPtr_ip, nil_ref, nil_ip, nil_fn, ex_tup, fl_agg, List.getElem?_cons_zero, List.getElem?_cons_succ, Nat.zero_add, Nat.add_zero, Nat.reduceAdd, pk_t, pk_f, lss_int, leq_int, gtr_int, geq_int, eql_int, neq_int, not_bool, beq_self_eq_true, if_true, Bool.false_eq_true, if_false, List.nil_append, List.cons_append, List.append_nil, alc_eq, mkm_eq, nNew, nPut, bNew, bPut, nGrd, bGrd, bd_157, bldA, fillA, pl_157, cells_dat]
        rfl
      simp -implicitDefEqProofs only [bnd_some, bo_some, condK_true, condK_false, gdA_undef, decide_true, decide_false, Int.reduceLE, Int.reduceLT, Int.reduceEq, Int.reduceNeg, Int.reduceAdd, gd_tt, gd_tf, gd_ft, gd_ff, unG_pure, lift_some, bnd_lift, Option.map_some, Option.bind_some, fieldPtr_ref, fieldPtr_ip, nil_ref, nil_ip, nil_fn, ex_tup, fl_agg, List.getElem?_cons_zero, List.getElem?_cons_succ, Nat.zero_add, Nat.add_zero, Nat.reduceAdd, pk_t, pk_f, lss_int, leq_int, gtr_int, geq_int, eql_int, neq_int, not_bool, beq_self_eq_true, if_true, Bool.false_eq_true, if_false, List.nil_append, List.cons_append, List.append_nil, alc_eq, mkm_eq, nNew, nPut, bNew, bPut, nGrd, bGrd, ldN_is, ldN_lt, ldaN_is, ldaN_lt, stN_is, stN_lt, Nat.lt_add_one, ne_eq, nx1, nx2, nx3, ny1, ny2, ny3, not_false_eq_true, List.length_cons, List.length_nil, Nat.reduceLeDiff, setAt, List.take_succ_cons, List.take_zero, List.drop_succ_cons, List.drop_zero, cells_dat, cells_int, cells_bool, cells_agg, List.all_cons, List.all_nil, isCell_int, isCell_bool, isCell_dat, isCell_ref, isCell_nil, isCell_vsl, cells_vsl, av_len_cfg, av_len_pkt, av_len_opn, av_len_evn, av_len_ent, av_len_row, av_len_deal, av_len_pck, tk_cfg, tk_pkt, tk_opn, tk_evn, tk_ent, tk_row, tk_deal, tk_pck, all_cfg, all_pkt, all_opn, all_evn, all_ent, all_row, all_deal, all_pck, List.drop_nil, Bool.and_true, Bool.and_self, and_self, Nat.le_refl, true_and, and_true, Nat.le_add_right, leS, ltS, l1, h1, hx, l8, e1, er, bs_158, Nat.one_mul, eb, t1, t2, add_int, h6, h7, r1]
  obtain ⟨H', r1, r2⟩ := key c.lines.toNat 0 (by omega) H2 M0
  refine ⟨H', f, run_cl rfl rfl (rn_53 _ _ _ _ (r := (_, H')) ?_), r2.of_new⟩
  have e : bd 164 [(0, .agg c.av), (1, I me)] = some (.agg xs) := by
    simp -implicitDefEqProofs only [bnd_some, bo_some, condK_true, condK_false, gdA_undef, decide_true, decide_false, Int.reduceLE, Int.reduceLT, Int.reduceEq, Int.reduceNeg, Int.reduceAdd, gd_tt, gd_tf, gd_ft, gd_ff, unG_pure, lift_some, bnd_lift, Option.map_some, Option.bind_some, fieldPtr_ref, fieldPtr_ip, nil_ref, nil_ip, nil_fn, ex_tup, fl_agg, List.getElem?_cons_zero, List.getElem?_cons_succ, Nat.zero_add, Nat.add_zero, Nat.reduceAdd, pk_t, pk_f, lss_int, leq_int, gtr_int, geq_int, eql_int, neq_int, not_bool, beq_self_eq_true, if_true, Bool.false_eq_true, if_false, List.nil_append, List.cons_append, List.append_nil, alc_eq, mkm_eq, nNew, nPut, bNew, bPut, nGrd, bGrd, bd_164, bldA, fillA, pl_164, Cfg.av, cells_agg]
    rfl
  have e0 := lda_cfg (H := H1) (r := H.next) (c := c) (getNew_is rfl)
  simp only [H1] at e0
  simp -implicitDefEqProofs only [bnd_some, bo_some, condK_true, condK_false, gdA_undef, decide_true, decide_false, Int.reduceLE, Int.reduceLT, Int.reduceEq, Int.reduceNeg, Int.reduceAdd, gd_tt, gd_tf, gd_ft, gd_ff, unG_pure, lift_some, bnd_lift, Option.map_some, Option.bind_some, fieldPtr_ref, fieldPtr_ip, nil_ref, nil_ip, nil_fn, ex_tup, fl_agg, List.getElem?_cons_zero, List.getElem?_cons_succ, Nat.zero_add, Nat.add_zero, Nat.reduceAdd, pk_t, pk_f, lss_int, leq_int, gtr_int, geq_int, eql_int, neq_int, not_bool, beq_self_eq_true, if_true, Bool.false_eq_true, if_false, List.nil_append, List.cons_append, List.append_nil, alc_eq, mkm_eq, nNew, nPut, bNew, bPut, nGrd, bGrd, ldN_is, ldN_lt, ldaN_is, ldaN_lt, stN_is, stN_lt, Nat.lt_add_one, ne_eq, nx1, nx2, nx3, ny1, ny2, ny3, not_false_eq_true, List.length_cons, List.length_nil, Nat.reduceLeDiff, setAt, List.take_succ_cons, List.take_zero, List.drop_succ_cons, List.drop_zero, cells_dat, cells_int, cells_bool, cells_agg, List.all_cons, List.all_nil, isCell_int, isCell_bool, isCell_dat, isCell_ref, isCell_nil, isCell_vsl, cells_vsl, av_len_cfg, av_len_pkt, av_len_opn, av_len_evn, av_len_ent, av_len_row, av_len_deal, av_len_pck, tk_cfg, tk_pkt, tk_opn, tk_evn, tk_ent, tk_row, tk_deal, tk_pck, all_cfg, all_pkt, all_opn, all_evn, all_ent, all_row, all_deal, all_pck, List.drop_nil, Bool.and_true, Bool.and_self, and_self, Nat.le_refl, true_and, and_true, Nat.le_add_right, leS, ltS, sh_53, box_agg (all_cfg c), e0, e, box_agg ax]
  exact r1
/-- A copy behind nothing: nil, or a slice of a block of its own. -/
theorem app_ops {H : AHeap} {v : AV} {l : List Opn} (hv : SliceIs H v 3 l.length (l.flatMap Opn.av)) (hl : l.length < 1000000) :
    ∃ y H', app 48 3 24 zN v H = some (y, H') ∧ Own H.next H' y 3 (l.flatMap Opn.av) ∧ Step H.next H H' := by
  have O : Own H.next H zN 3 [] := .inl ⟨rfl, rfl⟩
  have hz : most = most := rfl
  obtain ⟨c1, c2⟩ := hv.cells_
  by_cases h0 : l = []
  · subst h0
    refine ⟨zN, H, ?_, .inl ⟨rfl, rfl⟩, Step.refl _ _⟩
    simp only [app, c1, c2, appendCells]
    rfl
  · have hn : l.length ≠ 0 := fun e => h0 (List.eq_nil_of_length_eq_zero e)
    refine ⟨_, _, app_nil hv (all_flat all_opn l) hn (by unfold most; omega) (by unfold most; omega), .inr ⟨H.next, 0, 0, l.length, l.length, false, 48, l.flatMap Opn.av, rfl, Nat.le_refl _, by rw [nNew]; omega, Nat.le_refl _, getNew_is rfl, by rw [flat_len av_len_opn]; omega, all_flat all_opn l, ?_⟩, Step.new _ (Nat.le_refl _)⟩
    rw [List.drop_zero, List.take_of_length_le (by rw [flat_len av_len_opn]; exact Nat.le_refl _)]
/-- A new object with one slice of its own beside values and nil slices. -/
theorem made_own {H H1 : AHeap} {ty : TypeId} {xs : List AV} {cs : List Cell} {i0 m0 : Nat} {l0 : List AV} {y : AV} (s : Step H.next H H1) (hc : xs.all AV.isCell = true) (hl : xs.length = cs.length) (O : Own H.next H1 y m0 l0)
    (h : ∀ (i : Nat) (c : Cell) (x : AV), cs[i]? = some c → xs[i]? = some x → c = .av x ∨ (x = zN ∧ ∃ m, c = .seq m []) ∨ (i = i0 ∧ x = y ∧ c = .seq m0 l0)) :
    Made H (H1.new (.blk 0 ty xs)) (upd nil0 H1.next cs) := by
  have n1 := s.next
  refine ⟨by rw [nNew]; omega, s.base, fun r hr => by rw [getNew_lt (by omega), s.low r hr], by rw [nNew]; omega, fun r => if r = H1.next then some (r, 0, 0, 0) else if nameOf y = some r then some (H1.next, i0 + 1, 0, 0) else none, fun q cs' hq => ?_⟩
  unfold upd at hq
  split at hq
  · rename_i e
    subst e
    cases hq
    refine ⟨by simp, n1, by rw [nNew]; omega, ty, xs, getNew_is rfl, hl, hc, fun i c x hci hx => ?_⟩
    rcases h i c x hci hx with rfl | ⟨rfl, m, rfl⟩ | ⟨rfl, rfl, rfl⟩
    · exact rfl
    · exact .inl ⟨rfl, rfl⟩
    · rcases O with O | ⟨r, g, off, n, cap, ex, ty', all, rfl, k2, k3, k4, k5, k6⟩
      · exact .inl O
      · exact .inr ⟨r, g, off, n, cap, ex, ty', all, rfl, by simp only [nameOf]; rw [if_neg (by omega), if_pos trivial], k2, by rw [nNew]; omega, k4, by rw [getNew_lt k3]; exact k5, k6⟩
  · cases hq
theorem rnodeNew (H : AHeap) (c : Cfg) (h : c.ok = true) (me : Int) (l : List Opn) (hl : l.length < 1000000) {x : AV} (hx : SliceIs H x 3 l.length (l.flatMap Opn.av)) :
    ∃ H' a g', cl 24 [.agg c.av, I me, x] H = some (.ref (a 0) 0 0, H') ∧ Made H H' g' ∧ RNodeIs g' a c me (.new c l) := by
  have Bd := cfgB h
  let H1 := H.new (.blk 0 26 c.av)
  obtain ⟨H2', q1, e1, M1⟩ := rcacheNew H1.guard c.sets c.ways Bd.sets.1 Bd.ways.1
  obtain ⟨H2, e1, M1⟩ := drawn e1 M1
  obtain ⟨H3', q2, e2, M2⟩ := rhomesNew H2.guard (Nat.le_refl _) c h me
  obtain ⟨H3, e2, M2⟩ := drawn e2 M2
  have hx3 : SliceIs H3 x 3 l.length (l.flatMap Opn.av) := ((hx.new (.blk 0 26 c.av)).of_get M1.next fun r _ hr => M1.same r hr).of_get M2.next fun r _ hr => M2.same r hr
  obtain ⟨y, H4, e3, O, s4⟩ := app_ops hx3 hl
  let a := six H4.next q1 q2 0 0 0
  let xs : List AV := c.av ++ [I me, .ref q1 0 0, .ref q2 0 0, y, B false, zN, B false, zI, zI, zI, zI, zI, zI, zN, zI, zI, I 0]
  have hy : One y := by
    rcases O with ⟨rfl, _⟩ | ⟨r, g, off, n, cap, ex, ty', all, rfl, _⟩
    · exact one_nil
    · exact one_sl
  have ax : xs.all AV.isCell = true := by simp only [xs, List.all_append, all_cfg, List.all_cons, hy.2]; rfl
  have M3 : Made H3 (H4.new (.blk 0 125 xs)) (upd nil0 H4.next (rnodeO a c me (.new c l) [zI, zI, zI, zI, zI, zI, zN, zI, zI])) := by
    refine made_own (i0 := 11) (m0 := 3) (l0 := l.flatMap Opn.av) (y := y) s4 ax (by simp [xs, rnodeO]) O fun i cc x hc hx => ?_
    rcases Nat.lt_or_ge i 8 with hi | hi
    · left
      rw [rnodeO, List.append_assoc, List.append_assoc, List.getElem?_append_left (by simp [Cfg.av]; omega), List.getElem?_map] at hc
      rw [List.getElem?_append_left (by simp [Cfg.av]; omega)] at hx
      rw [hx] at hc
      exact (Option.some.inj hc).symm
    · obtain ⟨j, rfl⟩ : ∃ j, i = 8 + j := ⟨i - 8, by omega⟩
      match j with
      | 0 | 1 | 2 | 4 | 6 | 7 | 8 | 9 | 10 | 11 | 12 | 13 | 14 | 15 | 16 => left; cases hc; cases hx; rfl
      | 3 => right; right; cases hc; cases hx; exact ⟨rfl, rfl, rfl⟩
      | 5 => right; left; cases hc; cases hx; exact ⟨rfl, 1, rfl⟩
      | j + 17 => exfalso; have := (List.getElem?_eq_some_iff.1 hx).1; simp [xs, Cfg.av] at this; omega
  have g1 : H1.get H.next = .blk 0 26 c.av := getNew_is rfl
  have l1 : H.next < H1.next := by simp only [H1, nNew]; omega
  have l2 : H.next < H2.next := Nat.lt_of_lt_of_le l1 M1.next
  have g2 : H2.get H.next = .blk 0 26 c.av := by rw [M1.same _ l1, g1]
  have g3 : H3.get H.next = .blk 0 26 c.av := by rw [M2.same _ l2, g2]
  have l3 : H.next < H3.next := Nat.lt_of_lt_of_le l2 M2.next
  have g4 : H4.get H.next = H3.get H.next := s4.low _ l3
  have b1 := lda_cfg g1
  have b2 := lda_cfg g2
  have ec : ∀ {β : Type} (k : Option β), ck (watchV (.ref H.next 0 0)) H3 H4 k = k := fun k => ck_of fun r hr => by cases hr; exact g4
  have G12 := M1.good.merge M2
  refine ⟨_, a, _, run_cl rfl rfl (rn_24 _ _ _ _ _ (r := (_, H4.new (.blk 0 125 xs))) ?_), ((M1.trans M2).trans M3).of_new, ?_⟩
  · have e : bd 125 [(0, .agg c.av), (1, I me), (2, .ref q1 0 0), (3, .ref q2 0 0), (4, y)] = some (.agg xs) := by
      simp -implicitDefEqProofs only [bnd_some, bo_some, condK_true, condK_false, gdA_undef, decide_true, decide_false, Int.reduceLE, Int.reduceLT, Int.reduceEq, Int.reduceNeg, Int.reduceAdd, gd_tt, gd_tf, gd_ft, gd_ff, unG_pure, lift_some, bnd_lift, Option.map_some, Option.bind_some, fieldPtr_ref, fieldPtr_ip, nil_ref, nil_ip, nil_fn, ex_tup, fl_agg, List.getElem?_cons_zero, List.getElem?_cons_succ, Nat.zero_add, Nat.add_zero, Nat.reduceAdd, pk_t, pk_f, lss_int, leq_int, gtr_int, geq_int, eql_int, neq_int, not_bool, beq_self_eq_true, if_true, Bool.false_eq_true, if_false, List.nil_append, List.cons_append, List.append_nil, alc_eq, mkm_eq, nNew, nPut, bNew, bPut, nGrd, bGrd, bd_125, bldA, fillA, pl_125, Cfg.av, cells_agg, hy.1]
      rfl
    have l3 : c.av[3]? = some (I c.sets) := rfl
    have l4 : c.av[4]? = some (I c.ways) := rfl
    simp only [H1] at e1 b1
    simp -implicitDefEqProofs only [bnd_some, bo_some, condK_true, condK_false, gdA_undef, decide_true, decide_false, Int.reduceLE, Int.reduceLT, Int.reduceEq, Int.reduceNeg, Int.reduceAdd, gd_tt, gd_tf, gd_ft, gd_ff, unG_pure, lift_some, bnd_lift, Option.map_some, Option.bind_some, fieldPtr_ref, fieldPtr_ip, nil_ref, nil_ip, nil_fn, ex_tup, fl_agg, List.getElem?_cons_zero, List.getElem?_cons_succ, Nat.zero_add, Nat.add_zero, Nat.reduceAdd, pk_t, pk_f, lss_int, leq_int, gtr_int, geq_int, eql_int, neq_int, not_bool, beq_self_eq_true, if_true, Bool.false_eq_true, if_false, List.nil_append, List.cons_append, List.append_nil, alc_eq, mkm_eq, nNew, nPut, bNew, bPut, nGrd, bGrd, ldN_is, ldN_lt, ldaN_is, ldaN_lt, stN_is, stN_lt, Nat.lt_add_one, ne_eq, nx1, nx2, nx3, ny1, ny2, ny3, not_false_eq_true, List.length_cons, List.length_nil, Nat.reduceLeDiff, setAt, List.take_succ_cons, List.take_zero, List.drop_succ_cons, List.drop_zero, cells_dat, cells_int, cells_bool, cells_agg, List.all_cons, List.all_nil, isCell_int, isCell_bool, isCell_dat, isCell_ref, isCell_nil, isCell_vsl, cells_vsl, av_len_cfg, av_len_pkt, av_len_opn, av_len_evn, av_len_ent, av_len_row, av_len_deal, av_len_pck, tk_cfg, tk_pkt, tk_opn, tk_evn, tk_ent, tk_row, tk_deal, tk_pck, all_cfg, all_pkt, all_opn, all_evn, all_ent, all_row, all_deal, all_pck, List.drop_nil, Bool.and_true, Bool.and_self, and_self, Nat.le_refl, true_and, and_true, Nat.le_add_right, leS, ltS, sh_24, box_agg (all_cfg c), b1, l3, l4, e1, b2, e2, e3, e, box_agg ax, ec]
    rfl
  · have z : EncL (RowR (cup H3.next (cup H2.next (upd nil0 q1 (rcacheO ⟨[], c.sets, c.ways, 0⟩ [])) (upd nil0 q2 (rhomesO c me ((RHomes.new c).rows.flatMap Row.av) ⟨[], []⟩))) (upd nil0 H4.next (rnodeO a c me (.new c l) [zI, zI, zI, zI, zI, zI, zN, zI, zI])))) (RHomes.new c).rows ((RHomes.new c).rows.flatMap Row.av) := EncL.of fun r _ => rowR_av r
    exact ⟨⟨[zI, zI, zI, zI, zI, zI, zN, zI, zI], ⟨zN, .inl (by simp [RNode.new, Deal.zero, dat, vsl_nil]), by simp [RNode.new, Deal.zero, Deal.avx]⟩, cup_right M3.good upd_same (Nat.le_refl _)⟩, ⟨[], .nil, cup_left G12 (cup_left M1.good upd_same rfl) rfl⟩, ⟨_, z, cup_left G12 (cup_right M2.good upd_same (Nat.le_refl _)) rfl⟩⟩

end Go.Proofs.YtlcdejlbmnjlaaaGreat

namespace Go.Proofs.YtlcdejlbmnjlaaaGreat

theorem RNodeIs.has_ {g : Store} {a : Nat → Nat} {c : Cfg} {me : Int} {n : RNode} (h : RNodeIs g a c me n) {s : Nat} (hs : s < 3) : ∃ l, g (a s) = some l := by
  obtain ⟨⟨_, _, h0⟩, ⟨_, _, h1⟩, ⟨_, _, h2⟩⟩ := h
  match s, hs with
  | 0, _ => exact ⟨_, h0⟩
  | 1, _ => exact ⟨_, h1⟩
  | 2, _ => exact ⟨_, h2⟩
theorem RNodeIs.ext {g g' : Store} {a : Nat → Nat} {c : Cfg} {me : Int} {n : RNode} (h : RNodeIs g a c me n) (hd : ∀ q cs, g q = some cs → ¬ NoDat cs → g' q = some cs) (hg : ∀ s, s < 3 → g' (a s) = g (a s)) : RNodeIs g' a c me n := by
  obtain ⟨⟨d, ⟨x, d1, d2⟩, h0⟩, ⟨cells, k, h1⟩, ⟨rows, r, h2⟩⟩ := h
  exact ⟨⟨d, ⟨x, d1.sub hd, d2⟩, by rw [hg 0 (by omega), h0]⟩, ⟨cells, k.mono fun e cs _ ⟨x, e1, e2⟩ => ⟨x, e1.sub hd, e2⟩, by rw [hg 1 (by omega), h1]⟩, ⟨rows, r.mono fun e cs _ ⟨x, e1, e2⟩ => ⟨x, e1.sub hd, e2⟩, by rw [hg 2 (by omega), h2]⟩⟩
theorem RNodeIs.inj {g : Store} {a : Nat → Nat} {c : Cfg} {me : Int} {n : RNode} (h : RNodeIs g a c me n) {s t : Nat} (hs : s < 3) (ht : t < 3) (e : a s = a t) : s = t := by
  obtain ⟨⟨d, ⟨x, _, rfl⟩, h0⟩, ⟨_, _, h1⟩, ⟨_, _, h2⟩⟩ := h
  have hh : (g (a s)).map List.length = (g (a t)).map List.length := by rw [e]
  match s, hs, t, ht with
  | 0, _, 0, _ | 1, _, 1, _ | 2, _, 2, _ => rfl
  | 0, _, 1, _ | 0, _, 2, _ | 1, _, 0, _ | 1, _, 2, _ | 2, _, 0, _ | 2, _, 1, _ => simp [h0, h1, h2, rnodeO, rcacheO, rhomesO, Deal.avx, Cfg.av] at hh
theorem RNodeIs.lens {g : Store} {a : Nat → Nat} {c : Cfg} {me : Int} {n : RNode} (h : RNodeIs g a c me n) {s : Nat} (hs : s < 3) : ∃ l, g (a s) = some l ∧ NoDat l ∧ (l.length = 25 ∨ l.length = 4 ∨ l.length = 12) := by
  obtain ⟨⟨d, ⟨x, _, rfl⟩, h0⟩, ⟨_, _, h1⟩, ⟨_, _, h2⟩⟩ := h
  match s, hs with
  | 0, _ => exact ⟨_, h0, ⟨.av (.ref (a 1) 0 0), by simp [rnodeO], fun n e => by cases e⟩, by left; simp [rnodeO, Deal.avx, Cfg.av]⟩
  | 1, _ => exact ⟨_, h1, ⟨.seq 6 _, by simp [rcacheO]; rfl, fun n e => by cases e⟩, by right; left; simp [rcacheO]⟩
  | 2, _ => exact ⟨_, h2, ⟨.seq 3 _, by simp [rhomesO]; left; rfl, fun n e => by cases e⟩, by right; right; simp [rhomesO, Cfg.av]⟩
theorem noDat_mach {f : Nat} {N : Nat → Nat → Nat} {c : Cfg} {n : Nat} {ev : List Evn} : NoDat (rmachO f N c n ev) := ⟨.av (.ref f 0 0), by simp [rmachO], fun n e => by cases e⟩
theorem rmachNo (H : AHeap) (hb : H.base ≤ H.next) (c : Cfg) {x : AV} {ps : List (List Opn)} (hx : PsIs H x ps) (hn : ps.length < 1000000000) (hl : ∀ l ∈ ps, l.length < 1000000000) (hp : ¬ (c.ok = true ∧ c.opsOk ps = true)) :
    ∃ H', cl 9 [.agg c.av, x] H = some (.tup [zP, B false], H') ∧ Made H H' nil0 := by
  let H1 := H.new (.blk 0 26 c.av)
  have M1 : Made H H1 nil0 := (Made.refl hb).new _
  have b1 := lda_cfg (H := H1) (r := H.next) (c := c) (getNew_is rfl)
  have e1 := rcheck_sp H1 c
  refine ⟨H1, run_cl rfl rfl (rn_9 _ _ _ _ ?_), M1⟩
  cases hc : c.ok with
  | false =>
    rw [hc] at e1
    simp only [H1] at b1 e1
    simp -implicitDefEqProofs only [bnd_some, bo_some, condK_true, condK_false, gdA_undef, decide_true, decide_false, Int.reduceLE, Int.reduceLT, Int.reduceEq, Int.reduceNeg, Int.reduceAdd, gd_tt, gd_tf, gd_ft, gd_ff, unG_pure, lift_some, bnd_lift, Option.map_some, Option.bind_some, fieldPtr_ref, fieldPtr_ip, nil_ref, nil_ip, nil_fn, ex_tup, fl_agg, List.getElem?_cons_zero, List.getElem?_cons_succ, Nat.zero_add, Nat.add_zero, Nat.reduceAdd, pk_t, pk_f, lss_int, leq_int, gtr_int, geq_int, eql_int, neq_int, not_bool, beq_self_eq_true, if_true, Bool.false_eq_true, if_false, List.nil_append, List.cons_append, List.append_nil, alc_eq, mkm_eq, nNew, nPut, bNew, bPut, nGrd, bGrd, ldN_is, ldN_lt, ldaN_is, ldaN_lt, stN_is, stN_lt, Nat.lt_add_one, ne_eq, nx1, nx2, nx3, ny1, ny2, ny3, not_false_eq_true, List.length_cons, List.length_nil, Nat.reduceLeDiff, setAt, List.take_succ_cons, List.take_zero, List.drop_succ_cons, List.drop_zero, cells_dat, cells_int, cells_bool, cells_agg, List.all_cons, List.all_nil, isCell_int, isCell_bool, isCell_dat, isCell_ref, isCell_nil, isCell_vsl, cells_vsl, av_len_cfg, av_len_pkt, av_len_opn, av_len_evn, av_len_ent, av_len_row, av_len_deal, av_len_pck, tk_cfg, tk_pkt, tk_opn, tk_evn, tk_ent, tk_row, tk_deal, tk_pck, all_cfg, all_pkt, all_opn, all_evn, all_ent, all_row, all_deal, all_pck, List.drop_nil, Bool.and_true, Bool.and_self, and_self, Nat.le_refl, true_and, and_true, Nat.le_add_right, leS, ltS, sh_9, box_agg (all_cfg c), b1, e1, Bool.not_false]
    rfl
  | true =>
    have e2 := rops_sp H1 c hc (hx.of_get (H' := H1) (by simp only [H1, nNew]; omega) fun r hr => getNew_lt hr) hn hl
    have hp' : c.opsOk ps = false := by
      cases h : c.opsOk ps with
      | false => rfl
      | true => exact absurd ⟨hc, h⟩ hp
    rw [hc] at e1
    rw [hp'] at e2
    simp only [H1] at b1 e1 e2
    simp -implicitDefEqProofs only [bnd_some, bo_some, condK_true, condK_false, gdA_undef, decide_true, decide_false, Int.reduceLE, Int.reduceLT, Int.reduceEq, Int.reduceNeg, Int.reduceAdd, gd_tt, gd_tf, gd_ft, gd_ff, unG_pure, lift_some, bnd_lift, Option.map_some, Option.bind_some, fieldPtr_ref, fieldPtr_ip, nil_ref, nil_ip, nil_fn, ex_tup, fl_agg, List.getElem?_cons_zero, List.getElem?_cons_succ, Nat.zero_add, Nat.add_zero, Nat.reduceAdd, pk_t, pk_f, lss_int, leq_int, gtr_int, geq_int, eql_int, neq_int, not_bool, beq_self_eq_true, if_true, Bool.false_eq_true, if_false, List.nil_append, List.cons_append, List.append_nil, alc_eq, mkm_eq, nNew, nPut, bNew, bPut, nGrd, bGrd, ldN_is, ldN_lt, ldaN_is, ldaN_lt, stN_is, stN_lt, Nat.lt_add_one, ne_eq, nx1, nx2, nx3, ny1, ny2, ny3, not_false_eq_true, List.length_cons, List.length_nil, Nat.reduceLeDiff, setAt, List.take_succ_cons, List.take_zero, List.drop_succ_cons, List.drop_zero, cells_dat, cells_int, cells_bool, cells_agg, List.all_cons, List.all_nil, isCell_int, isCell_bool, isCell_dat, isCell_ref, isCell_nil, isCell_vsl, cells_vsl, av_len_cfg, av_len_pkt, av_len_opn, av_len_evn, av_len_ent, av_len_row, av_len_deal, av_len_pck, tk_cfg, tk_pkt, tk_opn, tk_evn, tk_ent, tk_row, tk_deal, tk_pck, all_cfg, all_pkt, all_opn, all_evn, all_ent, all_row, all_deal, all_pck, List.drop_nil, Bool.and_true, Bool.and_self, and_self, Nat.le_refl, true_and, and_true, Nat.le_add_right, leS, ltS, sh_9, box_agg (all_cfg c), b1, e1, e2, Bool.not_false, Bool.not_true]
    rfl
theorem rmachineNew (H : AHeap) (hb : H.base ≤ H.next) (c : Cfg) (h : c.ok = true) {x : AV} {ps : List (List Opn)} (hx : PsIs H x ps) (hp : c.opsOk ps = true) :
    ∃ H' q f N g', cl 9 [.agg c.av, x] H = some (.tup [.ref q 0 0, B true], H') ∧ Made H H' g' ∧ RMachIs g' q f N (.new c ps) := by
  have Bd := cfgB h
  obtain ⟨hp1, hp2⟩ := opsOk_of hp
  have hn := Bd.nodes
  let H1 := H.new (.blk 0 26 c.av)
  have n1 : H1.next = H.next + 1 := rfl
  have g1 : H1.get H.next = .blk 0 26 c.av := getNew_is rfl
  have b1 := lda_cfg g1
  have e1 := rcheck_sp H1 c
  rw [h] at e1
  have e2 := rops_sp H1 c h (hx.of_get (H' := H1) (by omega) fun r hr => getNew_lt hr) (by omega) fun l hl => by have := hp2 l hl; omega
  rw [hp] at e2
  obtain ⟨H2', f, e4, M1⟩ := rfabNew H1.guard c h
  obtain ⟨H2, e4, M1⟩ := drawn e4 M1
  let K := H2.next
  let xs : List AV := c.av ++ [.ref f 0 0, zN, zN]
  have hall : xs.all AV.isCell = true := by simp only [xs, List.all_append, all_cfg]; rfl
  have bx : ∀ H' : AHeap, (∀ r, r < H1.next → H'.get r = H1.get r) → H'.get H.next = .blk 0 26 c.av := fun H' hs => by rw [hs _ (by omega), g1]
  have M2 : Made H2 (H2.new (.blk 0 67 xs)) (upd nil0 K (rmachO f (fun _ _ => 0) c 0 [])) := by
    refine made_box hall (by simp [xs, rmachO]) fun i cc y hc hy => ?_
    rcases Nat.lt_or_ge i 8 with hi | hi
    · left
      rw [rmachO, List.getElem?_append_left (by simp [Cfg.av]; omega), List.getElem?_map] at hc
      rw [List.getElem?_append_left (by simp [Cfg.av]; omega)] at hy
      rw [hy] at hc
      exact (Option.some.inj hc).symm
    · obtain ⟨j, rfl⟩ : ∃ j, i = 8 + j := ⟨i - 8, by omega⟩
      match j with
      | 0 => left; cases hc; cases hy; rfl
      | 1 => right; cases hc; cases hy; exact ⟨rfl, 1, rfl⟩
      | 2 => right; cases hc; cases hy; exact ⟨rfl, 4, rfl⟩
      | j + 3 => exfalso; have := (List.getElem?_eq_some_iff.1 hy).1; simp [xs, Cfg.av] at this; omega
  have M0 := M1.add M2
  let g0 := upd (upd nil0 f (rfabO c (List.replicate (4 * c.nodes.toNat) []))) K (rmachO f (fun _ _ => 0) c 0 [])
  have key : ∀ k i, i + k = ps.length → ∀ Hi gi N, Made H1 Hi gi → gi K = some (rmachO f N c i []) → (∀ q, q < K → gi q = g0 q) → (∀ (j : Nat) l, j < i → ps[j]? = some l → RNodeIs gi (N j) c j (.new c l)) → RInj N i →
      ∃ H' g' N', lp_9x0 cl [x, .ref H.next 0 0, .ref K 0 0, I i] Hi = some (.tup [.ref K 0 0, B true], H') ∧ Made H1 H' g' ∧ g' K = some (rmachO f N' c ps.length []) ∧ (∀ q, q < K → g' q = g0 q) ∧ (∀ (j : Nat) l, j < ps.length → ps[j]? = some l → RNodeIs g' (N' j) c j (.new c l)) ∧ RInj N' ps.length := by
    intro k
    induction k with
    | zero =>
      intro i hi Hi gi N M hm hlow hnd hj
      have l0 : ld (.ref H.next 0 0) Hi = some (I c.nodes, Hi) := by rw [ld_blk (bx Hi M.same)]; rfl
      have h1 : ¬ (i : Int) < c.nodes := by omega
      have hi' : ps.length = i := by omega
      rw [le_9x0]
      refine ⟨Hi, gi, N, ?_, M, by rw [hi']; exact hm, hlow, by rw [hi']; exact hnd, by rw [hi']; exact hj⟩
      simp -implicitDefEqProofs only [bnd_some, bo_some, condK_true, condK_false, gdA_undef, decide_true, decide_false, Int.reduceLE, Int.reduceLT, Int.reduceEq, Int.reduceNeg, Int.reduceAdd, gd_tt, gd_tf, gd_ft, gd_ff, unG_pure, lift_some, bnd_lift, Option.map_some, Option.bind_some, fieldPtr_ref, fieldPtr_ip, nil_ref, nil_ip, nil_fn, ex_tup, fl_agg, List.getElem?_cons_zero, List.getElem?_cons_succ, Nat.zero_add, Nat.add_zero, Nat.reduceAdd, pk_t, pk_f, lss_int, leq_int, gtr_int, geq_int, eql_int, neq_int, not_bool, beq_self_eq_true, if_true, Bool.false_eq_true, if_false, List.nil_append, List.cons_append, List.append_nil, alc_eq, mkm_eq, nNew, nPut, bNew, bPut, nGrd, bGrd, ldN_is, ldN_lt, ldaN_is, ldaN_lt, stN_is, stN_lt, Nat.lt_add_one, ne_eq, nx1, nx2, nx3, ny1, ny2, ny3, not_false_eq_true, List.length_cons, List.length_nil, Nat.reduceLeDiff, setAt, List.take_succ_cons, List.take_zero, List.drop_succ_cons, List.drop_zero, cells_dat, cells_int, cells_bool, cells_agg, List.all_cons, List.all_nil, isCell_int, isCell_bool, isCell_dat, isCell_ref, isCell_nil, isCell_vsl, cells_vsl, av_len_cfg, av_len_pkt, av_len_opn, av_len_evn, av_len_ent, av_len_row, av_len_deal, av_len_pck, tk_cfg, tk_pkt, tk_opn, tk_evn, tk_ent, tk_row, tk_deal, tk_pck, all_cfg, all_pkt, all_opn, all_evn, all_ent, all_row, all_deal, all_pck, List.drop_nil, Bool.and_true, Bool.and_self, and_self, Nat.le_refl, true_and, and_true, Nat.le_add_right, leS, ltS, l0, h1]
    | succ k ih =>
      intro i hi Hi gi N M hm hlow hnd hj
      have l0 : ld (.ref H.next 0 0) Hi = some (I c.nodes, Hi) := by rw [ld_blk (bx Hi M.same)]; rfl
      have h1 : (i : Int) < c.nodes := by omega
      have h6 : (i : Int) + 1 = ((i + 1 : Nat) : Int) := by omega
      have h7 := wrap_i64 (a := ((i + 1 : Nat) : Int)) (by omega) (by omega)
      have hxi := hx.of_get (H' := Hi) (Nat.le_trans (by omega) M.next) fun r hr => by rw [M.same r (by omega)]; exact getNew_lt hr
      obtain ⟨cells, x1, x2⟩ := hxi
      have hcl : cells.length = ps.length := by have := x1.1; omega
      have s1 := x1.ix (k := .i64) (i := (i : Int)) (by omega) (by omega)
      rw [Int.toNat_natCast] at s1
      have s2 := x1.ld (i := i) (by omega)
      obtain ⟨v, hv⟩ : ∃ v, cells[i]? = some v := ⟨_, List.getElem?_eq_getElem (by omega)⟩
      obtain ⟨l, hl⟩ : ∃ l, ps[i]? = some l := ⟨_, List.getElem?_eq_getElem (by omega)⟩
      rw [hv] at s2
      obtain ⟨v1, v2⟩ := x2 i v l hv hl
      have s4 := lda_cfg (bx Hi M.same)
      obtain ⟨y, hy, cy⟩ := M.good.seq hm (i := 9) (m := 1) (l := nodesX N i) rfl
      obtain ⟨Ha', a, ga, a1, Ma, Ia⟩ := rnodeNew Hi.guard c h i l (by have := hp2 l (List.mem_of_getElem? hl); omega) v1.guard
      obtain ⟨Ha, a1, Ma⟩ := drawn a1 Ma
      have Na := M.trans Ma
      let ga' := cup Hi.next gi ga
      have hK := M.good.lt hm
      have glow : ∀ q, q < Hi.next → ga' q = gi q := fun q hq => by simp only [ga', cup, hq, if_true]
      have ghigh : ∀ q cs, ga q = some cs → ga' q = some cs := fun q cs hq => by
        have := (Ma.lt hq).1
        simp only [ga', cup]; rw [if_neg (by omega), hq]
      have hma : ga' K = some (rmachO f N c i []) := by rw [glow K hK, hm]
      let o : AObj := .blk 0 68 [.ref (a 0) 0 0]
      have hnl : (nodesX N i).length = i * 1 := by simp [nodesX]
      obtain ⟨y', He, Hf, t1, t2, t3, t4⟩ := (Na.good.new o).append (e := 68) (by_ := 8) (by rw [bNew, Na.base, n1]; simp only [H1, bNew]; omega) hma (i := 9) (l := nodesX N i) rfl (by decide) hnl ((cy.ext Ma.next Ma.same).new o) (sl_new (ex := true) (n := 1) (m := 1) (l := [.ref (a 0) 0 0]) rfl) rfl (by unfold most; omega) (by unfold most; omega)
      let N' : Nat → Nat → Nat := fun j => if j = i then a else N j
      have hN : ∀ j, j < i → N' j = N j := fun j hj => by simp only [N']; rw [if_neg (by omega)]
      have hNi : N' i = a := by simp only [N', if_true]
      have Mf : Made H1 Hf (upd ga' K (rmachO f N' c (i + 1) [])) := by
        refine ((Na.new o).step t3 t4).as ?_
        congr 1
        show rmachO f N' c (i + 1) [] = _
        have := nodesX_succ (N := N) (N' := N') hN
        simp only [nodesX] at this
        simp only [rmachO]
        rw [this, hNi]
        rfl
      have dat : ∀ q cs, ga' q = some cs → ¬ NoDat cs → upd ga' K (rmachO f N' c (i + 1) []) q = some cs := fun q cs hq hd => by
        rw [upd_ne]; exact hq
        intro e; subst e; rw [hma] at hq; cases hq; exact hd noDat_mach
      have hal : ∀ s, s < 3 → Hi.next ≤ a s ∧ ga' (a s) = ga (a s) := fun s hs => by
        obtain ⟨l, hg⟩ := Ia.has_ hs
        have := (Ma.lt hg).1
        exact ⟨this, by simp only [ga', cup]; rw [if_neg (by omega)]⟩
      have hNl : ∀ j, j < i → ∀ s, s < 3 → N j s < Hi.next := fun j hji s hs => by
        obtain ⟨lj, hlj⟩ : ∃ l, ps[j]? = some l := ⟨_, List.getElem?_eq_getElem (by omega)⟩
        obtain ⟨l, hg⟩ := (hnd j lj hji hlj).has_ hs
        exact M.good.lt hg
      obtain ⟨H', g', N'', r1, r2⟩ := ih (i + 1) (by omega) Hf _ N' Mf upd_same (fun q hq => by
        rw [upd_ne (by omega), glow q (by omega), hlow q hq]) (fun j lj hj1 hlj => by
        by_cases hji : j = i
        · subst hji
          rw [hl] at hlj
          cases hlj
          rw [hNi]
          exact Ia.ext (fun q cs hq hd => dat q cs (ghigh q cs hq) hd) fun s hs => by
            obtain ⟨h1, h2⟩ := hal s hs
            rw [upd_ne (by omega), h2]
        · rw [hN j (by omega)]
          refine (hnd j lj (by omega) hlj).ext (fun q cs hq hd => dat q cs (by rw [glow q (M.good.lt hq), hq]) hd) fun s hs => ?_
          have hlt := hNl j (by omega) s hs
          have hne : N j s ≠ K := fun e => by
            obtain ⟨l', hg, _, hl'⟩ := (hnd j lj (by omega) hlj).lens hs
            rw [e, hm] at hg
            cases hg
            simp [rmachO, Cfg.av] at hl'
          rw [upd_ne hne, glow _ hlt]) (fun j k s t hj1 hk1 hs ht e => by
        by_cases hji : j = i
        · by_cases hki : k = i
          · subst hji; subst hki
            rw [hNi] at e
            exact ⟨rfl, Ia.inj hs ht e⟩
          · subst hji
            rw [hNi, hN k (by omega)] at e
            have := (hal s hs).1
            have := hNl k (by omega) t ht
            omega
        · by_cases hki : k = i
          · subst hki
            rw [hNi, hN j (by omega)] at e
            have := (hal t ht).1
            have := hNl j (by omega) s hs
            omega
          · rw [hN j (by omega), hN k (by omega)] at e
            exact hj j k s t (by omega) (by omega) hs ht e)
      refine ⟨H', g', N'', ?_, r2⟩
      rw [le_9x0]
      have eb := bsl_one (e := 68) (m := 1) (z := [zP]) (v := .ref (a 0) 0 0) (H := Ha) rfl rfl rfl
      have ec : (AV.ref (a 0) 0 0).cells = [.ref (a 0) 0 0] := rfl
      rw [ec] at eb
      simp only [o] at t1 t2
      simp -implicitDefEqProofs only [bnd_some, bo_some, condK_true, condK_false, gdA_undef, decide_true, decide_false, Int.reduceLE, Int.reduceLT, Int.reduceEq, Int.reduceNeg, Int.reduceAdd, gd_tt, gd_tf, gd_ft, gd_ff, unG_pure, lift_some, bnd_lift, Option.map_some, Option.bind_some, fieldPtr_ref, fieldPtr_ip, nil_ref, nil_ip, nil_fn, ex_tup, fl_agg, List.getElem?_cons_zero, List.getElem?_cons_succ, Nat.zero_add, Nat.add_zero, Nat.reduceAdd, pk_t, pk_f, lss_int, leq_int, gtr_int, geq_int, eql_int, neq_int, not_bool, beq_self_eq_true, if_true, Bool.false_eq_true, if_false, List.nil_append, List.cons_append, List.append_nil, alc_eq, mkm_eq, nNew, nPut, bNew, bPut, nGrd, bGrd, ldN_is, ldN_lt, ldaN_is, ldaN_lt, stN_is, stN_lt, Nat.lt_add_one, ne_eq, nx1, nx2, nx3, ny1, ny2, ny3, not_false_eq_true, List.length_cons, List.length_nil, Nat.reduceLeDiff, setAt, List.take_succ_cons, List.take_zero, List.drop_succ_cons, List.drop_zero, cells_dat, cells_int, cells_bool, cells_agg, List.all_cons, List.all_nil, isCell_int, isCell_bool, isCell_dat, isCell_ref, isCell_nil, isCell_vsl, cells_vsl, av_len_cfg, av_len_pkt, av_len_opn, av_len_evn, av_len_ent, av_len_row, av_len_deal, av_len_pck, tk_cfg, tk_pkt, tk_opn, tk_evn, tk_ent, tk_row, tk_deal, tk_pck, all_cfg, all_pkt, all_opn, all_evn, all_ent, all_row, all_deal, all_pck, List.drop_nil, Bool.and_true, Bool.and_self, and_self, Nat.le_refl, true_and, and_true, Nat.le_add_right, leS, ltS, l0, h1, s1, s2, s4, hy, a1, bs_64, Nat.one_mul, eb, t1, t2, add_int, h6, h7, r1]
  have hf := M1.lt upd_same
  obtain ⟨H', g', N, r1, r2, r3, r4, r5, r6⟩ := key ps.length 0 (by omega) _ g0 (fun _ _ => 0) M0 upd_same (fun q hq => rfl) (fun j l hj => by omega) (fun i j s t hi => by omega)
  refine ⟨H', K, f, N, g', run_cl rfl rfl (rn_9 _ _ _ _ (r := (_, H')) ?_), r2.of_new, ?_⟩
  · have b2 := lda_cfg (bx H2 M1.same)
    have em : bd 67 [(0, .agg c.av), (1, .ref f 0 0)] = some (.agg xs) := by
      simp -implicitDefEqProofs only [bnd_some, bo_some, condK_true, condK_false, gdA_undef, decide_true, decide_false, Int.reduceLE, Int.reduceLT, Int.reduceEq, Int.reduceNeg, Int.reduceAdd, gd_tt, gd_tf, gd_ft, gd_ff, unG_pure, lift_some, bnd_lift, Option.map_some, Option.bind_some, fieldPtr_ref, fieldPtr_ip, nil_ref, nil_ip, nil_fn, ex_tup, fl_agg, List.getElem?_cons_zero, List.getElem?_cons_succ, Nat.zero_add, Nat.add_zero, Nat.reduceAdd, pk_t, pk_f, lss_int, leq_int, gtr_int, geq_int, eql_int, neq_int, not_bool, beq_self_eq_true, if_true, Bool.false_eq_true, if_false, List.nil_append, List.cons_append, List.append_nil, alc_eq, mkm_eq, nNew, nPut, bNew, bPut, nGrd, bGrd, bd_67, bldA, fillA, pl_67, Cfg.av, cells_agg]
      rfl
    simp only [H1] at b1 e1 e2 e4
    simp -implicitDefEqProofs only [bnd_some, bo_some, condK_true, condK_false, gdA_undef, decide_true, decide_false, Int.reduceLE, Int.reduceLT, Int.reduceEq, Int.reduceNeg, Int.reduceAdd, gd_tt, gd_tf, gd_ft, gd_ff, unG_pure, lift_some, bnd_lift, Option.map_some, Option.bind_some, fieldPtr_ref, fieldPtr_ip, nil_ref, nil_ip, nil_fn, ex_tup, fl_agg, List.getElem?_cons_zero, List.getElem?_cons_succ, Nat.zero_add, Nat.add_zero, Nat.reduceAdd, pk_t, pk_f, lss_int, leq_int, gtr_int, geq_int, eql_int, neq_int, not_bool, beq_self_eq_true, if_true, Bool.false_eq_true, if_false, List.nil_append, List.cons_append, List.append_nil, alc_eq, mkm_eq, nNew, nPut, bNew, bPut, nGrd, bGrd, ldN_is, ldN_lt, ldaN_is, ldaN_lt, stN_is, stN_lt, Nat.lt_add_one, ne_eq, nx1, nx2, nx3, ny1, ny2, ny3, not_false_eq_true, List.length_cons, List.length_nil, Nat.reduceLeDiff, setAt, List.take_succ_cons, List.take_zero, List.drop_succ_cons, List.drop_zero, cells_dat, cells_int, cells_bool, cells_agg, List.all_cons, List.all_nil, isCell_int, isCell_bool, isCell_dat, isCell_ref, isCell_nil, isCell_vsl, cells_vsl, av_len_cfg, av_len_pkt, av_len_opn, av_len_evn, av_len_ent, av_len_row, av_len_deal, av_len_pck, tk_cfg, tk_pkt, tk_opn, tk_evn, tk_ent, tk_row, tk_deal, tk_pck, all_cfg, all_pkt, all_opn, all_evn, all_ent, all_row, all_deal, all_pck, List.drop_nil, Bool.and_true, Bool.and_self, and_self, Nat.le_refl, true_and, and_true, Nat.le_add_right, leS, ltS, sh_9, box_agg (all_cfg c), b1, e1, e2, Bool.not_true, e4, em, box_agg hall]
    exact r1
  · have gf : g' f = some (rfabO c (List.replicate (4 * c.nodes.toNat) [])) := by
      rw [r4 f hf.2]
      simp only [g0]
      rw [upd_ne (by omega), upd_same]
    refine ⟨by rw [r3]; simp [RMach.new], ⟨_, gf, by simp [RMach.new], fun i l cells hl hc => ?_⟩, fun i n hi => ?_, by simp only [RMach.new, List.length_map]; exact r6⟩
    · have h1 : l = [] := by
        have hm := List.mem_of_getElem? hl
        simp only [RMach.new, List.mem_flatMap] at hm
        obtain ⟨p, hp, hl2⟩ := hm
        rw [List.eq_of_mem_replicate hp] at hl2
        simpa [portLs, Port.zero] using hl2
      rw [List.getElem?_replicate] at hc
      split at hc
      · cases hc; rw [h1]; exact .nil
      · cases hc
    · simp only [RMach.new, List.getElem?_map, Option.map_eq_some_iff] at hi
      obtain ⟨l, hl, rfl⟩ := hi
      exact r5 i l (List.getElem?_eq_some_iff.1 hl).1 hl

end Go.Proofs.YtlcdejlbmnjlaaaGreat

