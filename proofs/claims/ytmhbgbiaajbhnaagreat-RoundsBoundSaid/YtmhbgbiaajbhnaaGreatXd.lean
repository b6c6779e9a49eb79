/-
  Own work: an interpreter over named blocks, its soundness, and what the functions of this seat compute (part 4 of 5).
  Conditions: those of the statement alone.
-/
import Derived.ProofKit
import Derived.Test.YtmhbgbiaajbhnaaGreatXc
set_option linter.all false
set_option linter.unusedSectionVars false
set_option linter.unusedVariables false
set_option linter.unusedSimpArgs false
namespace Go.Proofs.YtmhbgbiaajbhnaaGreat

theorem first_ne {c : Cfg} (h : c.ok = true) {line : Int} (h0 : 0 ≤ line) (h1 : line < c.lines) : c.first line ≠ [] := by
  have B := cfgB h
  unfold Cfg.first
  rw [if_neg (by omega)]
  intro e
  have := congrArg List.length e
  simp only [List.length_map, List.length_range, List.length_nil] at this
  have := B.words
  omega
theorem first_cells {c : Cfg} (h : c.ok = true) {line : Int} (h0 : 0 ≤ line) (h1 : line < c.lines) {from_ : Nat} (hf : (from_ : Int) = min (line * c.words) c.init.length) :
    setAt (List.replicate c.words.toNat zI) 0 (((c.init.map I).drop from_).take (min (c.init.length - from_) c.words.toNat)) = (c.first line).map I := by
  have B := cfgB h
  have hw := B.words
  have hlw : 0 ≤ line * c.words := Int.mul_nonneg h0 (by omega)
  unfold Cfg.first
  rw [if_neg (by omega)]
  apply List.ext_getElem?
  intro i
  have hlen : (((c.init.map I).drop from_).take (min (c.init.length - from_) c.words.toNat)).length = min (c.init.length - from_) c.words.toNat := by
    rw [List.length_take, List.length_drop, List.length_map]; omega
  rw [setA_get (by rw [hlen, List.length_replicate]; omega), hlen]
  rcases Nat.lt_or_ge i c.words.toNat with hi | hi
  · simp only [List.getElem?_map, List.getElem?_range hi, Option.map_some]
    by_cases hc : i < c.init.length - from_
    · rw [if_pos (by omega), Nat.sub_zero, List.getElem?_take, if_pos (by omega), List.getElem?_drop, List.getElem?_map]
      have e : from_ = (line * c.words).toNat := by omega
      rw [e]
      have hlt : (line * c.words).toNat + i < c.init.length := by omega
      simp [List.getD, List.getElem?_eq_getElem hlt]
    · rw [if_neg (by omega), List.getElem?_replicate, if_pos hi]
      have hge : c.init.length ≤ (line * c.words).toNat + i := by omega
      simp [List.getD, List.getElem?_eq_none hge]
  · rw [if_neg (by omega), List.getElem?_eq_none (by simp; omega), List.getElem?_eq_none (by simp; omega)]
theorem words_sp (H : AHeap) (c : Cfg) (h : c.ok = true) (line : Int) (h0 : 0 ≤ line) (h1 : line < c.lines) : cl 56 [.agg c.av, I line] H = some (dat (c.first line), H) := by
  have B := cfgB h
  have hw := B.words
  have hlw : 0 ≤ line * c.words := Int.mul_nonneg h0 (by omega)
  have hlw2 : line * c.words ≤ 8 * 4 := Int.mul_le_mul (by have := B.lines; omega) hw.2 (by omega) (by omega)
  have w := wrap_i64 (a := line * c.words) (by omega) (by omega)
  have l1 : c.av[1]? = some (I c.lines) := rfl
  have l2 : c.av[2]? = some (I c.words) := rfl
  have l7 : c.av[7]? = some (dat c.init) := rfl
  let H1 := (H.guard.new (.blk 0 26 c.av)).new (.blk 0 3 (zerosL [zI] c.words.toNat))
  have e1 := mks_eq (e := 3) (m := 1) (by_ := 8) (z := [zI]) (n := c.words) (H := H.guard.new (.blk 0 26 c.av)) rfl rfl (by omega) (by omega) (by decide)
  have e2 := fun H => (dat_is H c.init).lnS
  have hm : 0 ≤ min (line * c.words) (c.init.length : Int) := by omega
  obtain ⟨y, e3, e4⟩ := (dat_is H1 c.init).from_ (k := .i64) (lo := min (line * c.words) (c.init.length : Int)) hm (by omega)
  obtain ⟨H2, e5, e6, e7, e8, e9⟩ := cpy_eq (H := H1) (r := H.next + 1) (g := 0) (off := 0) (m := 1) (len := c.words.toNat) (cap := c.words.toNat) (ex := true) (ty := 3) (getNew_is (by rw [nNew, nGrd])) (by show H.next ≤ _; omega) (by rw [zerosL_one]; simp) e4 (all_drop (ints_all _) _)
  refine pure_cl rfl rfl (rn_56 _ _ _ _ (r := (.sl (H.next + 1) 0 0 1 c.words.toNat c.words.toNat true, H2)) ?_) ?_
  · have n0 : ¬ line < 0 := by omega
    have n1 : ¬ c.lines ≤ line := by omega
    simp only [nNew, nGrd] at e1
    simp -implicitDefEqProofs only [bnd_some, bo_some, condK_true, condK_false, gdA_undef, decide_true, decide_false, Int.reduceLE, Int.reduceLT, Int.reduceEq, Int.reduceNeg, Int.reduceAdd, gd_tt, gd_tf, gd_ft, gd_ff, unG_pure, lift_some, bnd_lift, Option.map_some, Option.bind_some, fieldPtr_ref, fieldPtr_ip, nil_ref, nil_ip, nil_fn, ex_tup, fl_agg, List.getElem?_cons_zero, List.getElem?_cons_succ, Nat.zero_add, Nat.add_zero, Nat.reduceAdd, pk_t, pk_f, lss_int, leq_int, gtr_int, geq_int, eql_int, neq_int, not_bool, beq_self_eq_true, if_true, Bool.false_eq_true, if_false, List.nil_append, List.cons_append, List.append_nil, alc_eq, mkm_eq, nNew, nPut, bNew, bPut, nGrd, bGrd, ldN_is, ldN_lt, ldaN_is, ldaN_lt, stN_is, stN_lt, Nat.lt_add_one, ne_eq, nx1, nx2, nx3, ny1, ny2, ny3, not_false_eq_true, List.length_cons, List.length_nil, Nat.reduceLeDiff, setAt, List.take_succ_cons, List.take_zero, List.drop_succ_cons, List.drop_zero, cells_dat, cells_int, cells_bool, cells_agg, List.all_cons, List.all_nil, isCell_int, isCell_bool, isCell_dat, isCell_ref, isCell_nil, isCell_vsl, cells_vsl, av_len_cfg, av_len_pkt, av_len_opn, av_len_evn, av_len_ent, av_len_row, av_len_deal, av_len_pck, tk_cfg, tk_pkt, tk_opn, tk_evn, tk_ent, tk_row, tk_deal, tk_pck, all_cfg, all_pkt, all_opn, all_evn, all_ent, all_row, all_deal, all_pck, List.drop_nil, Bool.and_true, Bool.and_self, and_self, Nat.le_refl, true_and, and_true, Nat.le_add_right, leS, ltS, sh_56, box_agg (all_cfg c), n0, n1, l1, l2, l7, e1, e2, mul_int, w, min_int, e3, e5, H1]
  · rw [dat_eq (first_ne h h0 h1)]
    have hf := first_cells h h0 h1 (from_ := (min (line * c.words) (c.init.length : Int)).toNat) (by omega)
    rw [zerosL_one, Nat.mul_one, Nat.mul_one, hf] at e6
    have hlen : (c.first line).length = c.words.toNat := by
      unfold Cfg.first
      rw [if_neg (by omega)]; simp
    rw [hlen]
    refine freeze_sl (by omega) (cells := (c.first line).map I) ?_ (freeze_all _ fun x hx => frz_ints _ x hx _ _)
    simp only [sliceCells, e6]
    rw [if_pos ⟨trivial, by simp [hlen]⟩, List.drop_zero, List.take_of_length_le (by simp [hlen])]

end Go.Proofs.YtmhbgbiaajbhnaaGreat

namespace Go.Proofs.YtmhbgbiaajbhnaaGreat

structure Node where
  cache : Cache
  proc : Proc
  home : Home
  deal : Deal
  num : Int
structure Mach where
  c : Cfg
  nodes : List Node
  fab : Fab
  trace : List Evn
/-- The rows of a node's lines. -/
def Cfg.rowsTo (c : Cfg) (me : Int) : Nat → Rows
  | 0 => []
  | n + 1 => if c.homeOf n = me then aput (c.rowsTo me n) n ⟨0, -1, c.first n⟩ else c.rowsTo me n
def Home.new (c : Cfg) (me : Int) : Home := ⟨c.rowsTo me c.lines.toNat, ⟨[], []⟩⟩
def Node.new (c : Cfg) (me : Int) (l : List Opn) : Node := ⟨⟨[], c.sets, c.ways, 0⟩, ⟨l, [], false⟩, .new c me, .zero, 0⟩
def Fab.new (c : Cfg) : Fab := ⟨c.out, c.inn, List.replicate c.nodes.toNat .zero⟩
def Mach.new (c : Cfg) (ps : List (List Opn)) : Mach := ⟨c, ps.mapIdx fun i l => .new c i l, .new c, []⟩

end Go.Proofs.YtmhbgbiaajbhnaaGreat

namespace Go.Proofs.YtmhbgbiaajbhnaaGreat

theorem dirO_put (c : Cfg) (rows : Rows) (n : Int) (r : Row) : (dirO c rows).set 8 (.map .i64 (putE (encM (fun r => .agg r.av) rows) n (.agg r.av))) = dirO c (aput rows n r) := by
  have := put_enc (f := fun r : Row => AV.agg r.av) rows n r
  rw [this]
  rfl
theorem memdirNew (H : AHeap) (hb : H.base ≤ H.next) (c : Cfg) (h : c.ok = true) (me : Int) : ∃ H' q, cl 43 [.agg c.av, I me] H = some (.ref q 0 0, H') ∧ Made H H' (upd nil0 q (dirO c (c.rowsTo me c.lines.toNat))) := by
  have B := cfgB h
  let Hb := H.new (.blk 0 26 c.av)
  let Hm := Hb.new (.map .i64 [])
  let H0 := Hm.new (.blk 0 129 (c.av ++ [.mp (H.next + 1)]))
  have M0 : Made Hb H0 (upd nil0 (H.next + 2) (dirO c [])) := by
    refine made_maps (H' := Hm) (by simp only [Hb, nNew]; omega) (by simp only [Hm, Hb, nNew]) rfl (fun r hr => getNew_lt hr) (by rw [List.all_append, all_cfg]; rfl) (by simp [dirO]) (fun r => if r = H.next + 1 then some 8 else none) fun i cc x hc hx => ?_
    by_cases hi : i < 8
    · left
      simp only [dirO, List.length_map] at hc
      rw [List.getElem?_append_left (by simp [Cfg.av]; omega), List.getElem?_map] at hc
      rw [List.getElem?_append_left (by simp [Cfg.av]; omega)] at hx
      rw [hx] at hc
      exact (Option.some.inj hc).symm
    · have : i = 8 := by
        have := (List.getElem?_eq_some_iff.1 hx).1
        simp [Cfg.av] at this
        omega
      subst this
      right; right
      cases hc; cases hx
      exact ⟨H.next + 1, .i64, rfl, by simp only [Hb, nNew]; omega, by omega, by simp, getNew_is (by simp only [Hb, nNew]), .inl rfl⟩
  have key : ∀ k i, i + k = c.lines.toNat → ∀ Hi, Made Hb Hi (upd nil0 (H.next + 2) (dirO c (c.rowsTo me i))) → ∃ H', lp_43x0 cl [I me, .ref H.next 0 0, .ref (H.next + 2) 0 0, I c.lines, I i] Hi = some (.ref (H.next + 2) 0 0, H') ∧ Made Hb H' (upd nil0 (H.next + 2) (dirO c (c.rowsTo me c.lines.toNat))) := by
    intro k
    induction k with
    | zero =>
      intro i hi Hi M
      have h1 : ¬ (i : Int) < c.lines := by omega
      rw [le_43x0]
      refine ⟨Hi, ?_, by rw [show c.lines.toNat = i by omega]; exact M⟩
      simp -implicitDefEqProofs only [bnd_some, bo_some, condK_true, condK_false, gdA_undef, decide_true, decide_false, Int.reduceLE, Int.reduceLT, Int.reduceEq, Int.reduceNeg, Int.reduceAdd, gd_tt, gd_tf, gd_ft, gd_ff, unG_pure, lift_some, bnd_lift, Option.map_some, Option.bind_some, fieldPtr_ref, fieldPtr_ip, nil_ref, nil_ip, nil_fn, ex_tup, fl_agg, List.getElem?_cons_zero, List.getElem?_cons_succ, Nat.zero_add, Nat.add_zero, Nat.reduceAdd, pk_t, pk_f, lss_int, leq_int, gtr_int, geq_int, eql_int, neq_int, not_bool, beq_self_eq_true, if_true, Bool.false_eq_true, if_false, List.nil_append, List.cons_append, List.append_nil, alc_eq, mkm_eq, nNew, nPut, bNew, bPut, nGrd, bGrd, ldN_is, ldN_lt, ldaN_is, ldaN_lt, stN_is, stN_lt, Nat.lt_add_one, ne_eq, nx1, nx2, nx3, ny1, ny2, ny3, not_false_eq_true, List.length_cons, List.length_nil, Nat.reduceLeDiff, setAt, List.take_succ_cons, List.take_zero, List.drop_succ_cons, List.drop_zero, cells_dat, cells_int, cells_bool, cells_agg, List.all_cons, List.all_nil, isCell_int, isCell_bool, isCell_dat, isCell_ref, isCell_nil, isCell_vsl, cells_vsl, av_len_cfg, av_len_pkt, av_len_opn, av_len_evn, av_len_ent, av_len_row, av_len_deal, av_len_pck, tk_cfg, tk_pkt, tk_opn, tk_evn, tk_ent, tk_row, tk_deal, tk_pck, all_cfg, all_pkt, all_opn, all_evn, all_ent, all_row, all_deal, all_pck, List.drop_nil, Bool.and_true, Bool.and_self, and_self, Nat.le_refl, true_and, and_true, Nat.le_add_right, leS, ltS, h1]
    | succ k ih =>
      intro i hi Hi M
      have h1 : (i : Int) < c.lines := by omega
      have hbx : Hi.get H.next = .blk 0 26 c.av := by rw [M.same _ (by simp only [Hb, nNew]; omega)]; exact getNew_is rfl
      have hbn : H.next < Hi.next := Nat.lt_of_lt_of_le (by simp only [Hb, nNew]; omega) M.next
      have e1 : lda 8 (.ref H.next 0 0) Hi = some (.agg c.av, Hi) := (lda_blk (off := 0) (n := 8) hbx (Nat.le_refl 8)).trans rfl
      have e2 := homeOf_sp Hi c h i
      have h6 : (i : Int) + 1 = ((i + 1 : Nat) : Int) := by omega
      have h7 := wrap_i64 (a := ((i + 1 : Nat) : Int)) (by have := B.lines; omega) (by have := B.lines; omega)
      have tail : ∀ Hj, Made Hb Hj (upd nil0 (H.next + 2) (dirO c (c.rowsTo me (i + 1)))) → ∃ H', jn_43x0 cl (I me) (.ref H.next 0 0) (.ref (H.next + 2) 0 0) (I c.lines) (I i) Hj = some (.ref (H.next + 2) 0 0, H') ∧ Made Hb H' (upd nil0 (H.next + 2) (dirO c (c.rowsTo me c.lines.toNat))) := by
        intro Hj Mj
        obtain ⟨H', a1, a2⟩ := ih (i + 1) (by omega) Hj Mj
        refine ⟨H', ?_, a2⟩
        simp -implicitDefEqProofs only [bnd_some, bo_some, condK_true, condK_false, gdA_undef, decide_true, decide_false, Int.reduceLE, Int.reduceLT, Int.reduceEq, Int.reduceNeg, Int.reduceAdd, gd_tt, gd_tf, gd_ft, gd_ff, unG_pure, lift_some, bnd_lift, Option.map_some, Option.bind_some, fieldPtr_ref, fieldPtr_ip, nil_ref, nil_ip, nil_fn, ex_tup, fl_agg, List.getElem?_cons_zero, List.getElem?_cons_succ, Nat.zero_add, Nat.add_zero, Nat.reduceAdd, pk_t, pk_f, lss_int, leq_int, gtr_int, geq_int, eql_int, neq_int, not_bool, beq_self_eq_true, if_true, Bool.false_eq_true, if_false, List.nil_append, List.cons_append, List.append_nil, alc_eq, mkm_eq, nNew, nPut, bNew, bPut, nGrd, bGrd, ldN_is, ldN_lt, ldaN_is, ldaN_lt, stN_is, stN_lt, Nat.lt_add_one, ne_eq, nx1, nx2, nx3, ny1, ny2, ny3, not_false_eq_true, List.length_cons, List.length_nil, Nat.reduceLeDiff, setAt, List.take_succ_cons, List.take_zero, List.drop_succ_cons, List.drop_zero, cells_dat, cells_int, cells_bool, cells_agg, List.all_cons, List.all_nil, isCell_int, isCell_bool, isCell_dat, isCell_ref, isCell_nil, isCell_vsl, cells_vsl, av_len_cfg, av_len_pkt, av_len_opn, av_len_evn, av_len_ent, av_len_row, av_len_deal, av_len_pck, tk_cfg, tk_pkt, tk_opn, tk_evn, tk_ent, tk_row, tk_deal, tk_pck, all_cfg, all_pkt, all_opn, all_evn, all_ent, all_row, all_deal, all_pck, List.drop_nil, Bool.and_true, Bool.and_self, and_self, Nat.le_refl, true_and, and_true, Nat.le_add_right, leS, ltS, jn_43x0, add_int, h6, h7, a1]
      rw [le_43x0]
      by_cases hm : c.homeOf i = me
      · obtain ⟨r, f1, f2, f3, f4⟩ := M.good.map (q := H.next + 2) upd_same (i := 8) rfl
        obtain ⟨H', g1, g2, g3, g4⟩ := (f4 (by rw [M.base]; simp only [Hb, bNew, nNew]; omega)).1 i (.agg (Row.av ⟨0, -1, c.first i⟩))
        simp only [Row.av] at g1
        have e3 := words_sp Hi.guard c h i (by omega) h1
        have Mj : Made Hb H' (upd nil0 (H.next + 2) (dirO c (c.rowsTo me (i + 1)))) := by
          refine (M.step g2 g3).as ?_
          rw [upd_upd, dirO_put]
          simp only [Cfg.rowsTo, hm, if_true]
        obtain ⟨H2, t1, t2⟩ := tail H' Mj
        refine ⟨H2, ?_, t2⟩
        simp -implicitDefEqProofs only [bnd_some, bo_some, condK_true, condK_false, gdA_undef, decide_true, decide_false, Int.reduceLE, Int.reduceLT, Int.reduceEq, Int.reduceNeg, Int.reduceAdd, gd_tt, gd_tf, gd_ft, gd_ff, unG_pure, lift_some, bnd_lift, Option.map_some, Option.bind_some, fieldPtr_ref, fieldPtr_ip, nil_ref, nil_ip, nil_fn, ex_tup, fl_agg, List.getElem?_cons_zero, List.getElem?_cons_succ, Nat.zero_add, Nat.add_zero, Nat.reduceAdd, pk_t, pk_f, lss_int, leq_int, gtr_int, geq_int, eql_int, neq_int, not_bool, beq_self_eq_true, if_true, Bool.false_eq_true, if_false, List.nil_append, List.cons_append, List.append_nil, alc_eq, mkm_eq, nNew, nPut, bNew, bPut, nGrd, bGrd, ldN_is, ldN_lt, ldaN_is, ldaN_lt, stN_is, stN_lt, Nat.lt_add_one, ne_eq, nx1, nx2, nx3, ny1, ny2, ny3, not_false_eq_true, List.length_cons, List.length_nil, Nat.reduceLeDiff, setAt, List.take_succ_cons, List.take_zero, List.drop_succ_cons, List.drop_zero, cells_dat, cells_int, cells_bool, cells_agg, List.all_cons, List.all_nil, isCell_int, isCell_bool, isCell_dat, isCell_ref, isCell_nil, isCell_vsl, cells_vsl, av_len_cfg, av_len_pkt, av_len_opn, av_len_evn, av_len_ent, av_len_row, av_len_deal, av_len_pck, tk_cfg, tk_pkt, tk_opn, tk_evn, tk_ent, tk_row, tk_deal, tk_pck, all_cfg, all_pkt, all_opn, all_evn, all_ent, all_row, all_deal, all_pck, List.drop_nil, Bool.and_true, Bool.and_self, and_self, Nat.le_refl, true_and, and_true, Nat.le_add_right, leS, ltS, h1, e1, e2, hm, f1, e3, bd_133, bldA, fillA, pl_133, g1, t1]
      · have hm' : ¬ (c.homeOf i = me) := hm
        obtain ⟨H2, t1, t2⟩ := tail Hi (M.as (by simp only [Cfg.rowsTo, hm, if_false]))
        refine ⟨H2, ?_, t2⟩
        simp -implicitDefEqProofs only [bnd_some, bo_some, condK_true, condK_false, gdA_undef, decide_true, decide_false, Int.reduceLE, Int.reduceLT, Int.reduceEq, Int.reduceNeg, Int.reduceAdd, gd_tt, gd_tf, gd_ft, gd_ff, unG_pure, lift_some, bnd_lift, Option.map_some, Option.bind_some, fieldPtr_ref, fieldPtr_ip, nil_ref, nil_ip, nil_fn, ex_tup, fl_agg, List.getElem?_cons_zero, List.getElem?_cons_succ, Nat.zero_add, Nat.add_zero, Nat.reduceAdd, pk_t, pk_f, lss_int, leq_int, gtr_int, geq_int, eql_int, neq_int, not_bool, beq_self_eq_true, if_true, Bool.false_eq_true, if_false, List.nil_append, List.cons_append, List.append_nil, alc_eq, mkm_eq, nNew, nPut, bNew, bPut, nGrd, bGrd, ldN_is, ldN_lt, ldaN_is, ldaN_lt, stN_is, stN_lt, Nat.lt_add_one, ne_eq, nx1, nx2, nx3, ny1, ny2, ny3, not_false_eq_true, List.length_cons, List.length_nil, Nat.reduceLeDiff, setAt, List.take_succ_cons, List.take_zero, List.drop_succ_cons, List.drop_zero, cells_dat, cells_int, cells_bool, cells_agg, List.all_cons, List.all_nil, isCell_int, isCell_bool, isCell_dat, isCell_ref, isCell_nil, isCell_vsl, cells_vsl, av_len_cfg, av_len_pkt, av_len_opn, av_len_evn, av_len_ent, av_len_row, av_len_deal, av_len_pck, tk_cfg, tk_pkt, tk_opn, tk_evn, tk_ent, tk_row, tk_deal, tk_pck, all_cfg, all_pkt, all_opn, all_evn, all_ent, all_row, all_deal, all_pck, List.drop_nil, Bool.and_true, Bool.and_self, and_self, Nat.le_refl, true_and, and_true, Nat.le_add_right, leS, ltS, h1, e1, e2, hm, t1]
  obtain ⟨H', a1, a2⟩ := key c.lines.toNat 0 (by omega) H0 M0
  refine ⟨H', H.next + 2, run_cl rfl rfl (rn_43 _ _ _ _ (r := (_, H')) ?_), a2.of_new⟩
  have l1 : c.av[1]? = some (I c.lines) := rfl
  have e : ∀ r, bd 129 [(0, .agg c.av), (1, .mp r)] = some (.agg (c.av ++ [.mp r])) := fun r => by
    simp -implicitDefEqProofs only [bnd_some, bo_some, condK_true, condK_false, gdA_undef, decide_true, decide_false, Int.reduceLE, Int.reduceLT, Int.reduceEq, Int.reduceNeg, Int.reduceAdd, gd_tt, gd_tf, gd_ft, gd_ff, unG_pure, lift_some, bnd_lift, Option.map_some, Option.bind_some, fieldPtr_ref, fieldPtr_ip, nil_ref, nil_ip, nil_fn, ex_tup, fl_agg, List.getElem?_cons_zero, List.getElem?_cons_succ, Nat.zero_add, Nat.add_zero, Nat.reduceAdd, pk_t, pk_f, lss_int, leq_int, gtr_int, geq_int, eql_int, neq_int, not_bool, beq_self_eq_true, if_true, Bool.false_eq_true, if_false, List.nil_append, List.cons_append, List.append_nil, alc_eq, mkm_eq, nNew, nPut, bNew, bPut, nGrd, bGrd, bd_129, bldA, fillA, pl_129, Cfg.av, cells_agg]
    rfl
  have e2 : ∀ r, (c.av ++ [AV.mp r]).all AV.isCell = true := fun r => by rw [List.all_append, all_cfg]; rfl
  simp -implicitDefEqProofs only [bnd_some, bo_some, condK_true, condK_false, gdA_undef, decide_true, decide_false, Int.reduceLE, Int.reduceLT, Int.reduceEq, Int.reduceNeg, Int.reduceAdd, gd_tt, gd_tf, gd_ft, gd_ff, unG_pure, lift_some, bnd_lift, Option.map_some, Option.bind_some, fieldPtr_ref, fieldPtr_ip, nil_ref, nil_ip, nil_fn, ex_tup, fl_agg, List.getElem?_cons_zero, List.getElem?_cons_succ, Nat.zero_add, Nat.add_zero, Nat.reduceAdd, pk_t, pk_f, lss_int, leq_int, gtr_int, geq_int, eql_int, neq_int, not_bool, beq_self_eq_true, if_true, Bool.false_eq_true, if_false, List.nil_append, List.cons_append, List.append_nil, alc_eq, mkm_eq, nNew, nPut, bNew, bPut, nGrd, bGrd, ldN_is, ldN_lt, ldaN_is, ldaN_lt, stN_is, stN_lt, Nat.lt_add_one, ne_eq, nx1, nx2, nx3, ny1, ny2, ny3, not_false_eq_true, List.length_cons, List.length_nil, Nat.reduceLeDiff, setAt, List.take_succ_cons, List.take_zero, List.drop_succ_cons, List.drop_zero, cells_dat, cells_int, cells_bool, cells_agg, List.all_cons, List.all_nil, isCell_int, isCell_bool, isCell_dat, isCell_ref, isCell_nil, isCell_vsl, cells_vsl, av_len_cfg, av_len_pkt, av_len_opn, av_len_evn, av_len_ent, av_len_row, av_len_deal, av_len_pck, tk_cfg, tk_pkt, tk_opn, tk_evn, tk_ent, tk_row, tk_deal, tk_pck, all_cfg, all_pkt, all_opn, all_evn, all_ent, all_row, all_deal, all_pck, List.drop_nil, Bool.and_true, Bool.and_self, and_self, Nat.le_refl, true_and, and_true, Nat.le_add_right, leS, ltS, sh_43, box_agg (all_cfg c), e, box_agg (e2 _), l1]
  exact a1

end Go.Proofs.YtmhbgbiaajbhnaaGreat

namespace Go.Proofs.YtmhbgbiaajbhnaaGreat

theorem cup_left {b n : Nat} {H1 : AHeap} {g g' : Store} {q : Nat} {cs : List Cell} (G : Good b H1 g) (h : g q = some cs) (hn : H1.next = n) : cup n g g' q = some cs := by
  unfold cup
  rw [if_pos (by have := G.lt h; omega), h]
theorem cup_right {b n : Nat} {H1 : AHeap} {g g' : Store} {q : Nat} {cs : List Cell} (G : Good b H1 g') (h : g' q = some cs) (hn : n ≤ b) : cup n g g' q = some cs := by
  unfold cup
  rw [if_neg (by have := G.le h; omega), h]
/-- A call in a drawn region that makes something. -/
theorem drawn {H H' : AHeap} {x : Option (AV × AHeap)} {v : AV} {g : Store} (e : x = some (v, H')) (M : Made H.guard H' g) : ∃ H2, unG H x = some (v, H2) ∧ Made H H2 g :=
  ⟨_, by rw [e]; rfl, M.of_guard⟩
theorem lda_cfg {H : AHeap} {r : Nat} {ty : TypeId} {c : Cfg} (h : H.get r = .blk 0 ty c.av) : lda 8 (.ref r 0 0) H = some (.agg c.av, H) := (lda_blk (off := 0) (n := 8) h (Nat.le_refl 8)).trans rfl
/-- A slice with something in it is not nil. -/
theorem SliceIs.some_ne {P : Program} {t e : TypeId} (h : P.underlying t = some (.slice e)) {H : AHeap} {x : AV} {m n : Nat} {cells : List AV} (hx : SliceIs H x m n cells) (hn : n ≠ 0) : binA P .eql t x (.s (.slice none 0 0)) = some (B false) := by
  obtain ⟨_, hx⟩ := hx
  cases x with
  | sl r g o m n c ex => exact eql_nil_sl h
  | vs n m l => exact eql_nil_vs h
  | s v =>
    cases v with
    | slice a b c =>
      cases a with
      | none => exact absurd hx.2.2 hn
      | some a => exact hx.elim
    | _ => exact hx.elim
  | _ => exact hx.elim
def homeO (d t : Nat) (c : Cfg) (me : Int) : List Cell := [.av (.ref d 0 0), .av (.ref t 0 0)] ++ c.av.map .av ++ [.av (I me)]
def HomeIs (g : Store) (q d t : Nat) (c : Cfg) (me : Int) (h : Home) : Prop := g q = some (homeO d t c me) ∧ g d = some (dirO c h.rows) ∧ g t = some (turnsO h.turns)
theorem avs_cells {xs : List AV} {cs : List Cell} (h : cs = xs.map .av) : ∀ (i : Nat) (c : Cell) (x : AV), cs[i]? = some c → xs[i]? = some x → c = .av x ∨ (x = zN ∧ ∃ m, c = .seq m []) := by
  subst h
  intro i c x hc hx
  rw [List.getElem?_map, hx] at hc
  exact .inl (Option.some.inj hc).symm
theorem homeNew (H : AHeap) (hb : H.base ≤ H.next) (c : Cfg) (h : c.ok = true) (me : Int) : ∃ H' q d t g', cl 32 [.agg c.av, I me] H = some (.ref q 0 0, H') ∧ Made H H' g' ∧ HomeIs g' q d t c me (.new c me) := by
  let H1 := H.new (.blk 0 26 c.av)
  obtain ⟨H2', d, e1, M1⟩ := memdirNew H1.guard (Nat.le_refl _) c h me
  obtain ⟨H2, e1, M1⟩ := drawn e1 M1
  obtain ⟨H3', t, e2, M2⟩ := turnsNew H2.guard
  obtain ⟨H3, e2, M2⟩ := drawn e2 M2
  let xs : List AV := [.ref d 0 0, .ref t 0 0] ++ c.av ++ [I me]
  have hall : xs.all AV.isCell = true := by
    simp only [xs, List.all_append, all_cfg]
    rfl
  have M3 : Made H3 (H3.new (.blk 0 117 xs)) (upd nil0 H3.next (homeO d t c me)) := made_box hall (by simp [xs, homeO]) (avs_cells (by simp [xs, homeO]))
  have g1 : H1.get H.next = .blk 0 26 c.av := getNew_is rfl
  have l1 : H.next < H1.next := by simp only [H1, nNew]; omega
  have b1 := lda_cfg g1
  have g2 : H2.get H.next = .blk 0 26 c.av := by rw [M1.same _ l1, g1]
  have g3 : H3.get H.next = .blk 0 26 c.av := by rw [M2.same _ (Nat.lt_of_lt_of_le l1 M1.next), g2]
  have b3 := lda_cfg g3
  refine ⟨_, H3.next, d, t, _, run_cl rfl rfl (rn_32 _ _ _ _ (r := (_, H3.new (.blk 0 117 xs))) ?_), ((M1.trans M2).trans M3).of_new, ?_⟩
  · have e : bd 117 [(0, .ref d 0 0), (1, .ref t 0 0), (2, .agg c.av), (3, I me)] = some (.agg xs) := by
      simp -implicitDefEqProofs only [bnd_some, bo_some, condK_true, condK_false, gdA_undef, decide_true, decide_false, Int.reduceLE, Int.reduceLT, Int.reduceEq, Int.reduceNeg, Int.reduceAdd, gd_tt, gd_tf, gd_ft, gd_ff, unG_pure, lift_some, bnd_lift, Option.map_some, Option.bind_some, fieldPtr_ref, fieldPtr_ip, nil_ref, nil_ip, nil_fn, ex_tup, fl_agg, List.getElem?_cons_zero, List.getElem?_cons_succ, Nat.zero_add, Nat.add_zero, Nat.reduceAdd, pk_t, pk_f, lss_int, leq_int, gtr_int, geq_int, eql_int, neq_int, not_bool, beq_self_eq_true, if_true, Bool.false_eq_true, if_false, List.nil_append, List.cons_append, List.append_nil, alc_eq, mkm_eq, nNew, nPut, bNew, bPut, nGrd, bGrd, bd_117, bldA, fillA, pl_117, Cfg.av, cells_agg]
      rfl
    simp only [H1] at e1 b1
    simp -implicitDefEqProofs only [bnd_some, bo_some, condK_true, condK_false, gdA_undef, decide_true, decide_false, Int.reduceLE, Int.reduceLT, Int.reduceEq, Int.reduceNeg, Int.reduceAdd, gd_tt, gd_tf, gd_ft, gd_ff, unG_pure, lift_some, bnd_lift, Option.map_some, Option.bind_some, fieldPtr_ref, fieldPtr_ip, nil_ref, nil_ip, nil_fn, ex_tup, fl_agg, List.getElem?_cons_zero, List.getElem?_cons_succ, Nat.zero_add, Nat.add_zero, Nat.reduceAdd, pk_t, pk_f, lss_int, leq_int, gtr_int, geq_int, eql_int, neq_int, not_bool, beq_self_eq_true, if_true, Bool.false_eq_true, if_false, List.nil_append, List.cons_append, List.append_nil, alc_eq, mkm_eq, nNew, nPut, bNew, bPut, nGrd, bGrd, ldN_is, ldN_lt, ldaN_is, ldaN_lt, stN_is, stN_lt, Nat.lt_add_one, ne_eq, nx1, nx2, nx3, ny1, ny2, ny3, not_false_eq_true, List.length_cons, List.length_nil, Nat.reduceLeDiff, setAt, List.take_succ_cons, List.take_zero, List.drop_succ_cons, List.drop_zero, cells_dat, cells_int, cells_bool, cells_agg, List.all_cons, List.all_nil, isCell_int, isCell_bool, isCell_dat, isCell_ref, isCell_nil, isCell_vsl, cells_vsl, av_len_cfg, av_len_pkt, av_len_opn, av_len_evn, av_len_ent, av_len_row, av_len_deal, av_len_pck, tk_cfg, tk_pkt, tk_opn, tk_evn, tk_ent, tk_row, tk_deal, tk_pck, all_cfg, all_pkt, all_opn, all_evn, all_ent, all_row, all_deal, all_pck, List.drop_nil, Bool.and_true, Bool.and_self, and_self, Nat.le_refl, true_and, and_true, Nat.le_add_right, leS, ltS, sh_32, box_agg (all_cfg c), b1, e1, e2, b3, e, box_agg hall]
  · refine ⟨cup_right M3.good upd_same (Nat.le_refl _), cup_left (M1.good.merge M2) (cup_left M1.good upd_same rfl) rfl, cup_left (M1.good.merge M2) (cup_right M2.good upd_same (Nat.le_refl _)) rfl⟩
theorem procNew (H : AHeap) (l : List Opn) (hl : l.length < 1000000000) {x : AV} (hx : SliceIs H x 3 l.length (l.flatMap Opn.av)) (h0 : l = [] → x = zN) : ∃ H' q, cl 31 [x] H = some (.ref q 0 0, H') ∧ Made H H' (upd nil0 q (procO ⟨l, [], false⟩)) := by
  have e1 := cloneOpn H l hl hx h0 fun hn => hx.some_ne Tryz.underlying30 fun e => hn (List.eq_nil_of_length_eq_zero e)
  have hc : (vsl 3 Opn.av l).cells = [vsl 3 Opn.av l] := cells_vsl
  refine ⟨_, H.next, run_cl rfl rfl (rn_31 _ _ _ (r := (_, H.new (.blk 0 111 [vsl 3 Opn.av l, zN, zB]))) ?_), made_box ?_ rfl fun i c x hc hx => ?_⟩
  · simp -implicitDefEqProofs only [bnd_some, bo_some, condK_true, condK_false, gdA_undef, decide_true, decide_false, Int.reduceLE, Int.reduceLT, Int.reduceEq, Int.reduceNeg, Int.reduceAdd, gd_tt, gd_tf, gd_ft, gd_ff, unG_pure, lift_some, bnd_lift, Option.map_some, Option.bind_some, fieldPtr_ref, fieldPtr_ip, nil_ref, nil_ip, nil_fn, ex_tup, fl_agg, List.getElem?_cons_zero, List.getElem?_cons_succ, Nat.zero_add, Nat.add_zero, Nat.reduceAdd, pk_t, pk_f, lss_int, leq_int, gtr_int, geq_int, eql_int, neq_int, not_bool, beq_self_eq_true, if_true, Bool.false_eq_true, if_false, List.nil_append, List.cons_append, List.append_nil, alc_eq, mkm_eq, nNew, nPut, bNew, bPut, nGrd, bGrd, ldN_is, ldN_lt, ldaN_is, ldaN_lt, stN_is, stN_lt, Nat.lt_add_one, ne_eq, nx1, nx2, nx3, ny1, ny2, ny3, not_false_eq_true, List.length_cons, List.length_nil, Nat.reduceLeDiff, setAt, List.take_succ_cons, List.take_zero, List.drop_succ_cons, List.drop_zero, cells_dat, cells_int, cells_bool, cells_agg, List.all_cons, List.all_nil, isCell_int, isCell_bool, isCell_dat, isCell_ref, isCell_nil, isCell_vsl, cells_vsl, av_len_cfg, av_len_pkt, av_len_opn, av_len_evn, av_len_ent, av_len_row, av_len_deal, av_len_pck, tk_cfg, tk_pkt, tk_opn, tk_evn, tk_ent, tk_row, tk_deal, tk_pck, all_cfg, all_pkt, all_opn, all_evn, all_ent, all_row, all_deal, all_pck, List.drop_nil, Bool.and_true, Bool.and_self, and_self, Nat.le_refl, true_and, and_true, Nat.le_add_right, leS, ltS, sh_31, e1, bd_111, bldA, fillA, pl_111, box_agg]
  · simp -implicitDefEqProofs only [bnd_some, bo_some, condK_true, condK_false, gdA_undef, decide_true, decide_false, Int.reduceLE, Int.reduceLT, Int.reduceEq, Int.reduceNeg, Int.reduceAdd, gd_tt, gd_tf, gd_ft, gd_ff, unG_pure, lift_some, bnd_lift, Option.map_some, Option.bind_some, fieldPtr_ref, fieldPtr_ip, nil_ref, nil_ip, nil_fn, ex_tup, fl_agg, List.getElem?_cons_zero, List.getElem?_cons_succ, Nat.zero_add, Nat.add_zero, Nat.reduceAdd, pk_t, pk_f, lss_int, leq_int, gtr_int, geq_int, eql_int, neq_int, not_bool, beq_self_eq_true, if_true, Bool.false_eq_true, if_false, List.nil_append, List.cons_append, List.append_nil, alc_eq, mkm_eq, nNew, nPut, bNew, bPut, nGrd, bGrd, ldN_is, ldN_lt, ldaN_is, ldaN_lt, stN_is, stN_lt, Nat.lt_add_one, ne_eq, nx1, nx2, nx3, ny1, ny2, ny3, not_false_eq_true, List.length_cons, List.length_nil, Nat.reduceLeDiff, setAt, List.take_succ_cons, List.take_zero, List.drop_succ_cons, List.drop_zero, cells_dat, cells_int, cells_bool, cells_agg, List.all_cons, List.all_nil, isCell_int, isCell_bool, isCell_dat, isCell_ref, isCell_nil, isCell_vsl, cells_vsl, av_len_cfg, av_len_pkt, av_len_opn, av_len_evn, av_len_ent, av_len_row, av_len_deal, av_len_pck, tk_cfg, tk_pkt, tk_opn, tk_evn, tk_ent, tk_row, tk_deal, tk_pck, all_cfg, all_pkt, all_opn, all_evn, all_ent, all_row, all_deal, all_pck, List.drop_nil, Bool.and_true, Bool.and_self, and_self, Nat.le_refl, true_and, and_true, Nat.le_add_right, leS, ltS]
  · match i with
    | 0 => left; cases hc; cases hx; rfl
    | 1 => right; cases hc; cases hx; exact ⟨rfl, 1, rfl⟩
    | 2 => left; cases hc; cases hx; rfl
    | i + 3 => cases hc

end Go.Proofs.YtmhbgbiaajbhnaaGreat

namespace Go.Proofs.YtmhbgbiaajbhnaaGreat

theorem Made.add {H H1 H2 : AHeap} {g : Store} {q : Nat} {cs : List Cell} (M : Made H H1 g) (M' : Made H1 H2 (upd nil0 q cs)) : Made H H2 (upd g q cs) :=
  (M.trans M').as ((M.good.cupUpd (M'.lt upd_same).1).symm)
def nodeX (a : Nat → Nat) (c : Cfg) (me : Int) (d : Deal) (num : Int) : List AV := [.ref (a 1) 0 0, .ref (a 2) 0 0] ++ c.av ++ [I me, .ref (a 3) 0 0] ++ d.av ++ [I num]
def nodeO (a : Nat → Nat) (c : Cfg) (me : Int) (d : Deal) (num : Int) : List Cell := (nodeX a c me d num).map .av
def NodeIs (g : Store) (a : Nat → Nat) (c : Cfg) (me : Int) (n : Node) : Prop :=
  g (a 0) = some (nodeO a c me n.deal n.num) ∧ g (a 1) = some (cacheO n.cache) ∧ g (a 2) = some (procO n.proc) ∧ HomeIs g (a 3) (a 4) (a 5) c me n.home
theorem all_nodeX {a : Nat → Nat} {c : Cfg} {me : Int} {d : Deal} {num : Int} : (nodeX a c me d num).all AV.isCell = true := by
  simp only [nodeX, List.all_append, all_cfg, all_deal]
  rfl
/-- Six addresses. -/
def six (x0 x1 x2 x3 x4 x5 : Nat) : Nat → Nat
  | 0 => x0
  | 1 => x1
  | 2 => x2
  | 3 => x3
  | 4 => x4
  | _ => x5
theorem nodeNew (H : AHeap) (c : Cfg) (h : c.ok = true) (me : Int) (l : List Opn) (hl : l.length < 1000000000) {x : AV} (hx : SliceIs H x 3 l.length (l.flatMap Opn.av)) (h0 : l = [] → x = zN) :
    ∃ H' a g', cl 19 [.agg c.av, I me, x] H = some (.ref (a 0) 0 0, H') ∧ Made H H' g' ∧ NodeIs g' a c me (.new c me l) := by
  have Bd := cfgB h
  let H1 := H.new (.blk 0 26 c.av)
  obtain ⟨H2', q1, e1, M1⟩ := cacheNew H1.guard c.sets c.ways Bd.sets.1 Bd.ways.1
  obtain ⟨H2, e1, M1⟩ := drawn e1 M1
  have hx2 : SliceIs H2 x 3 l.length (l.flatMap Opn.av) := (hx.new (.blk 0 26 c.av)).of_get M1.next fun r _ hr => M1.same r hr
  obtain ⟨H3', q2, e2, M2⟩ := procNew H2.guard l hl hx2.guard h0
  obtain ⟨H3, e2, M2⟩ := drawn e2 M2
  obtain ⟨H4', q3, q4, q5, g4, e3, M3, I3⟩ := homeNew H3.guard (Nat.le_refl _) c h me
  obtain ⟨H4, e3, M3⟩ := drawn e3 M3
  let a := six H4.next q1 q2 q3 q4 q5
  let xs := nodeX a c me .zero 0
  have M4 : Made H4 (H4.new (.blk 0 89 xs)) (upd nil0 H4.next (nodeO a c me .zero 0)) := made_box all_nodeX (by simp [xs, nodeO]) (avs_cells rfl)
  have g1 : H1.get H.next = .blk 0 26 c.av := getNew_is rfl
  have l1 : H.next < H1.next := by simp only [H1, nNew]; omega
  have l3 : H.next < H3.next := Nat.lt_of_lt_of_le l1 (Nat.le_trans M1.next M2.next)
  have b1 := lda_cfg g1
  have g2 : H2.get H.next = .blk 0 26 c.av := by rw [M1.same _ l1, g1]
  have g3 : H3.get H.next = .blk 0 26 c.av := by rw [M2.same _ (Nat.lt_of_lt_of_le l1 M1.next), g2]
  have b3 := lda_cfg g3
  have G12 := M1.good.merge M2
  have G123 := G12.merge M3
  refine ⟨_, a, _, run_cl rfl rfl (rn_19 _ _ _ _ _ (r := (_, H4.new (.blk 0 89 xs))) ?_), (((M1.trans M2).trans M3).trans M4).of_new, ?_⟩
  · have e : bd 89 [(0, .ref q1 0 0), (1, .ref q2 0 0), (2, .agg c.av), (3, I me), (4, .agg [.ref q3 0 0])] = some (.agg xs) := by
      simp -implicitDefEqProofs only [bnd_some, bo_some, condK_true, condK_false, gdA_undef, decide_true, decide_false, Int.reduceLE, Int.reduceLT, Int.reduceEq, Int.reduceNeg, Int.reduceAdd, gd_tt, gd_tf, gd_ft, gd_ff, unG_pure, lift_some, bnd_lift, Option.map_some, Option.bind_some, fieldPtr_ref, fieldPtr_ip, nil_ref, nil_ip, nil_fn, ex_tup, fl_agg, List.getElem?_cons_zero, List.getElem?_cons_succ, Nat.zero_add, Nat.add_zero, Nat.reduceAdd, pk_t, pk_f, lss_int, leq_int, gtr_int, geq_int, eql_int, neq_int, not_bool, beq_self_eq_true, if_true, Bool.false_eq_true, if_false, List.nil_append, List.cons_append, List.append_nil, alc_eq, mkm_eq, nNew, nPut, bNew, bPut, nGrd, bGrd, bd_89, bldA, fillA, pl_89, Cfg.av, cells_agg]
      rfl
    have l3 : c.av[3]? = some (I c.sets) := rfl
    have l4 : c.av[4]? = some (I c.ways) := rfl
    have bx : ∀ r, (AV.ref r 0 0).cells = [.ref r 0 0] := fun _ => rfl
    have eb : ∀ r, bd 85 [(0, .ref r 0 0)] = some (.agg [.ref r 0 0]) := fun r => by
      simp -implicitDefEqProofs only [bnd_some, bo_some, condK_true, condK_false, gdA_undef, decide_true, decide_false, Int.reduceLE, Int.reduceLT, Int.reduceEq, Int.reduceNeg, Int.reduceAdd, gd_tt, gd_tf, gd_ft, gd_ff, unG_pure, lift_some, bnd_lift, Option.map_some, Option.bind_some, fieldPtr_ref, fieldPtr_ip, nil_ref, nil_ip, nil_fn, ex_tup, fl_agg, List.getElem?_cons_zero, List.getElem?_cons_succ, Nat.zero_add, Nat.add_zero, Nat.reduceAdd, pk_t, pk_f, lss_int, leq_int, gtr_int, geq_int, eql_int, neq_int, not_bool, beq_self_eq_true, if_true, Bool.false_eq_true, if_false, List.nil_append, List.cons_append, List.append_nil, alc_eq, mkm_eq, nNew, nPut, bNew, bPut, nGrd, bGrd, bd_85, bldA, fillA, pl_85]
      rfl
    simp only [H1] at e1 b1
    simp -implicitDefEqProofs only [bnd_some, bo_some, condK_true, condK_false, gdA_undef, decide_true, decide_false, Int.reduceLE, Int.reduceLT, Int.reduceEq, Int.reduceNeg, Int.reduceAdd, gd_tt, gd_tf, gd_ft, gd_ff, unG_pure, lift_some, bnd_lift, Option.map_some, Option.bind_some, fieldPtr_ref, fieldPtr_ip, nil_ref, nil_ip, nil_fn, ex_tup, fl_agg, List.getElem?_cons_zero, List.getElem?_cons_succ, Nat.zero_add, Nat.add_zero, Nat.reduceAdd, pk_t, pk_f, lss_int, leq_int, gtr_int, geq_int, eql_int, neq_int, not_bool, beq_self_eq_true, if_true, Bool.false_eq_true, if_false, List.nil_append, List.cons_append, List.append_nil, alc_eq, mkm_eq, nNew, nPut, bNew, bPut, nGrd, bGrd, ldN_is, ldN_lt, ldaN_is, ldaN_lt, stN_is, stN_lt, Nat.lt_add_one, ne_eq, nx1, nx2, nx3, ny1, ny2, ny3, not_false_eq_true, List.length_cons, List.length_nil, Nat.reduceLeDiff, setAt, List.take_succ_cons, List.take_zero, List.drop_succ_cons, List.drop_zero, cells_dat, cells_int, cells_bool, cells_agg, List.all_cons, List.all_nil, isCell_int, isCell_bool, isCell_dat, isCell_ref, isCell_nil, isCell_vsl, cells_vsl, av_len_cfg, av_len_pkt, av_len_opn, av_len_evn, av_len_ent, av_len_row, av_len_deal, av_len_pck, tk_cfg, tk_pkt, tk_opn, tk_evn, tk_ent, tk_row, tk_deal, tk_pck, all_cfg, all_pkt, all_opn, all_evn, all_ent, all_row, all_deal, all_pck, List.drop_nil, Bool.and_true, Bool.and_self, and_self, Nat.le_refl, true_and, and_true, Nat.le_add_right, leS, ltS, sh_19, box_agg (all_cfg c), b1, l3, l4, e1, e2, e3, b3, eb, e, box_agg all_nodeX, xs]
    rfl
  · refine ⟨cup_right M4.good upd_same (Nat.le_refl _), cup_left G123 (cup_left G12 (cup_left M1.good upd_same rfl) rfl) rfl, cup_left G123 (cup_left G12 (cup_right M2.good upd_same (Nat.le_refl _)) rfl) rfl, ?_⟩
    obtain ⟨i1, i2, i3⟩ := I3
    exact ⟨cup_left G123 (cup_right M3.good i1 (Nat.le_refl _)) rfl, cup_left G123 (cup_right M3.good i2 (Nat.le_refl _)) rfl, cup_left G123 (cup_right M3.good i3 (Nat.le_refl _)) rfl⟩

end Go.Proofs.YtmhbgbiaajbhnaaGreat

namespace Go.Proofs.YtmhbgbiaajbhnaaGreat

def portX (a : Nat → Nat) : List AV := [.ref (a 0) 0 0, .ref (a 1) 0 0, .ref (a 2) 0 0, .ref (a 3) 0 0]
def fabO (P : Nat → Nat → Nat) (n : Nat) : List Cell := [.seq 4 ((List.range n).flatMap fun i => portX (P i))]
def PortIs (g : Store) (a : Nat → Nat) (c : Cfg) (p : Port) : Prop :=
  g (a 0) = some (boxO p.rq c.out) ∧ g (a 1) = some (boxO p.rin c.inn) ∧ g (a 2) = some (boxO p.an c.out) ∧ g (a 3) = some (boxO p.ain 1)
def PInj (P : Nat → Nat → Nat) (n : Nat) : Prop := ∀ i j s t, i < n → j < n → s < 4 → t < 4 → P i s = P j t → i = j ∧ s = t
def FabIs (g : Store) (f : Nat) (P : Nat → Nat → Nat) (c : Cfg) (fab : Fab) : Prop :=
  g f = some (fabO P fab.l.length) ∧ (∀ i p, fab.l[i]? = some p → PortIs g (P i) c p) ∧ fab.out = c.out ∧ fab.inn = c.inn
def four (x0 x1 x2 x3 : Nat) : Nat → Nat
  | 0 => x0
  | 1 => x1
  | 2 => x2
  | _ => x3
theorem fabO_congr {P P' : Nat → Nat → Nat} : ∀ n, (∀ i, i < n → P' i = P i) → (List.range n).flatMap (fun i => portX (P' i)) = (List.range n).flatMap fun i => portX (P i)
  | 0, _ => rfl
  | n + 1, h => by
    rw [List.range_succ, List.flatMap_append, List.flatMap_append, fabO_congr n fun i hi => h i (by omega)]
    simp only [List.flatMap_cons, List.flatMap_nil, h n (by omega)]
theorem fabO_len (P : Nat → Nat → Nat) (n : Nat) : ((List.range n).flatMap fun i => portX (P i)).length = n * 4 := by
  rw [flat_len (m := 4) (fun _ => rfl), List.length_range]
theorem PortIs.ext {g g' : Store} {a : Nat → Nat} {c : Cfg} {p : Port} (h : PortIs g a c p) (hg : ∀ s, s < 4 → g' (a s) = g (a s)) : PortIs g' a c p := by
  obtain ⟨h0, h1, h2, h3⟩ := h
  exact ⟨by rw [hg 0 (by omega), h0], by rw [hg 1 (by omega), h1], by rw [hg 2 (by omega), h2], by rw [hg 3 (by omega), h3]⟩
theorem PortIs.some {g : Store} {a : Nat → Nat} {c : Cfg} {p : Port} (h : PortIs g a c p) {s : Nat} (hs : s < 4) : ∃ l r, g (a s) = some (boxO l r) := by
  obtain ⟨h0, h1, h2, h3⟩ := h
  match s, hs with
  | 0, _ => exact ⟨_, _, h0⟩
  | 1, _ => exact ⟨_, _, h1⟩
  | 2, _ => exact ⟨_, _, h2⟩
  | 3, _ => exact ⟨_, _, h3⟩
theorem fabricNew (H : AHeap) (hb : H.base ≤ H.next) (c : Cfg) (h : c.ok = true) : ∃ H' f P g', cl 17 [.agg c.av] H = some (.ref f 0 0, H') ∧ Made H H' g' ∧ FabIs g' f P c (.new c) ∧ PInj P c.nodes.toNat := by
  have Bd := cfgB h
  let H1 := H.new (.blk 0 26 c.av)
  let H2 := H1.new (.blk 0 66 [zN])
  let f := H.next + 1
  have M0 : Made H1 H2 (upd nil0 f (fabO (fun _ _ => 0) 0)) := made_box rfl rfl fun i c x hc hx => by
    match i with
    | 0 => right; cases hc; cases hx; exact ⟨rfl, 4, rfl⟩
    | i + 1 => cases hc
  have l0 : c.av[0]? = some (I c.nodes) := rfl
  have l5 : c.av[5]? = some (I c.out) := rfl
  have l6 : c.av[6]? = some (I c.inn) := rfl
  have key : ∀ k i, i + k = c.nodes.toNat → ∀ Hi gi P, Made H1 Hi gi → gi f = some (fabO P i) → (∀ j, j < i → PortIs gi (P j) c .zero) → PInj P i →
      ∃ H' g' P', lp_17x0 cl [.ref H.next 0 0, .ref f 0 0, I c.nodes, I i] Hi = some (.ref f 0 0, H') ∧ Made H1 H' g' ∧ g' f = some (fabO P' c.nodes.toNat) ∧ (∀ j, j < c.nodes.toNat → PortIs g' (P' j) c .zero) ∧ PInj P' c.nodes.toNat := by
    intro k
    induction k with
    | zero =>
      intro i hi Hi gi P M hf hp hj
      have h1 : ¬ (i : Int) < c.nodes := by omega
      have hi' : c.nodes.toNat = i := by omega
      rw [le_17x0]
      refine ⟨Hi, gi, P, ?_, M, by rw [hi']; exact hf, by rw [hi']; exact hp, by rw [hi']; exact hj⟩
      simp -implicitDefEqProofs only [bnd_some, bo_some, condK_true, condK_false, gdA_undef, decide_true, decide_false, Int.reduceLE, Int.reduceLT, Int.reduceEq, Int.reduceNeg, Int.reduceAdd, gd_tt, gd_tf, gd_ft, gd_ff, unG_pure, lift_some, bnd_lift, Option.map_some, Option.bind_some, fieldPtr_ref, fieldPtr_ip, nil_ref, nil_ip, nil_fn, ex_tup, fl_agg, List.getElem?_cons_zero, List.getElem?_cons_succ, Nat.zero_add, Nat.add_zero, Nat.reduceAdd, pk_t, pk_f, lss_int, leq_int, gtr_int, geq_int, eql_int, neq_int, not_bool, beq_self_eq_true, if_true, Bool.false_eq_true, if_false, List.nil_append, List.cons_append, List.append_nil, alc_eq, mkm_eq, nNew, nPut, bNew, bPut, nGrd, bGrd, ldN_is, ldN_lt, ldaN_is, ldaN_lt, stN_is, stN_lt, Nat.lt_add_one, ne_eq, nx1, nx2, nx3, ny1, ny2, ny3, not_false_eq_true, List.length_cons, List.length_nil, Nat.reduceLeDiff, setAt, List.take_succ_cons, List.take_zero, List.drop_succ_cons, List.drop_zero, cells_dat, cells_int, cells_bool, cells_agg, List.all_cons, List.all_nil, isCell_int, isCell_bool, isCell_dat, isCell_ref, isCell_nil, isCell_vsl, cells_vsl, av_len_cfg, av_len_pkt, av_len_opn, av_len_evn, av_len_ent, av_len_row, av_len_deal, av_len_pck, tk_cfg, tk_pkt, tk_opn, tk_evn, tk_ent, tk_row, tk_deal, tk_pck, all_cfg, all_pkt, all_opn, all_evn, all_ent, all_row, all_deal, all_pck, List.drop_nil, Bool.and_true, Bool.and_self, and_self, Nat.le_refl, true_and, and_true, Nat.le_add_right, leS, ltS, h1]
    | succ k ih =>
      intro i hi Hi gi P M hf hp hj
      have h1 : (i : Int) < c.nodes := by omega
      have h6 : (i : Int) + 1 = ((i + 1 : Nat) : Int) := by omega
      have h7 := wrap_i64 (a := ((i + 1 : Nat) : Int)) (by have := Bd.nodes; omega) (by have := Bd.nodes; omega)
      have lt1 : H.next < H1.next := by simp only [H1, nNew]; omega
      have bx : ∀ H' : AHeap, (∀ r, r < H1.next → H'.get r = H1.get r) → H'.get H.next = .blk 0 26 c.av := fun H' hs => by rw [hs _ lt1]; exact getNew_is rfl
      have ld5 : ∀ H' : AHeap, (∀ r, r < H1.next → H'.get r = H1.get r) → ld (.ref H.next 0 5) H' = some (I c.out, H') := fun H' hs => by rw [ld_blk (bx H' hs), l5]; rfl
      have ld6 : ∀ H' : AHeap, (∀ r, r < H1.next → H'.get r = H1.get r) → ld (.ref H.next 0 6) H' = some (I c.inn, H') := fun H' hs => by rw [ld_blk (bx H' hs), l6]; rfl
      obtain ⟨x, hx, cx⟩ := M.good.seq hf (i := 0) rfl
      obtain ⟨Ha', q1, a1, Ma⟩ := poolNew Hi.guard c.out (by have := Bd.out; omega)
      obtain ⟨Ha, a1, Ma⟩ := drawn a1 Ma
      have Na := M.add Ma
      obtain ⟨Hb', q2, a2, Mb⟩ := queueNew Ha.guard c.inn (by have := Bd.inn; omega)
      obtain ⟨Hb, a2, Mb⟩ := drawn a2 Mb
      have Nb := Na.add Mb
      obtain ⟨Hc', q3, a3, Mc⟩ := poolNew Hb.guard c.out (by have := Bd.out; omega)
      obtain ⟨Hc, a3, Mc⟩ := drawn a3 Mc
      have Nc := Nb.add Mc
      obtain ⟨Hd', q4, a4, Md⟩ := queueNew Hc.guard 1 (by omega)
      obtain ⟨Hd, a4, Md⟩ := drawn a4 Md
      have Nd := Nc.add Md
      have o1 := Ma.lt upd_same
      have o2 := Mb.lt upd_same
      have o3 := Mc.lt upd_same
      have o4 := Md.lt upd_same
      have hfl := M.good.lt hf
      have cd : Cur H1.next Hd f 0 x 4 _ := (((cx.ext Ma.next Ma.same).ext Mb.next Mb.same).ext Mc.next Mc.same).ext Md.next Md.same
      let a := four q1 q2 q3 q4
      let o : AObj := .blk 0 74 (portX a)
      let g4 := upd (upd (upd (upd gi q1 (boxO [] c.out)) q2 (boxO [] c.inn)) q3 (boxO [] c.out)) q4 (boxO [] 1)
      have low : ∀ q, q < Hi.next → g4 q = gi q := fun q hq => by
        simp only [g4]
        rw [upd_ne (by omega), upd_ne (by omega), upd_ne (by omega), upd_ne (by omega)]
      have hf4 : g4 f = some (fabO P i) := by rw [low f hfl, hf]
      obtain ⟨x', He, Hf, t1, t2, t3, t4⟩ := (Nd.good.new o).append (e := 74) (by_ := 32) (by rw [bNew, Nd.base]; simp only [H1, bNew, nNew]; omega) hf4 (i := 0) rfl (by decide) (fabO_len P i) (cd.new o) (sl_new (ex := true) (n := 1) (m := 4) (l := portX a) rfl) rfl (by have := Bd.nodes; unfold most; omega) (by have := Bd.nodes; unfold most; omega)
      let P' : Nat → Nat → Nat := fun j => if j = i then a else P j
      have hP : ∀ j, j < i → P' j = P j := fun j hj => by simp only [P']; rw [if_neg (by omega)]
      have hPi : P' i = a := by simp only [P', if_true]
      have Mf : Made H1 Hf (upd g4 f (fabO P' (i + 1))) := by
        refine ((Nd.new o).step t3 t4).as ?_
        congr 1
        simp only [fabO, List.set_cons_zero]
        rw [List.range_succ, List.flatMap_append, fabO_congr i hP, List.flatMap_cons, List.flatMap_nil, List.append_nil, hPi]
      have hq : ∀ s, s < 4 → Hi.next ≤ a s := fun s hs => by
        match s, hs with
        | 0, _ => exact o1.1
        | 1, _ => exact Nat.le_trans Ma.next o2.1
        | 2, _ => exact Nat.le_trans Ma.next (Nat.le_trans Mb.next o3.1)
        | 3, _ => exact Nat.le_trans Ma.next (Nat.le_trans Mb.next (Nat.le_trans Mc.next o4.1))
      have hpl : ∀ j, j < i → ∀ s, s < 4 → P j s < Hi.next := fun j hji s hs => by
        obtain ⟨l, r, hg⟩ := (hp j hji).some hs
        exact M.good.lt hg
      obtain ⟨H', g', P'', r1, r2⟩ := ih (i + 1) (by omega) Hf _ P' Mf upd_same (fun j hj1 => by
        by_cases hji : j = i
        · subst hji
          rw [hPi]
          have h4 : ∀ s, s < 4 → a s ≠ f := fun s hs => by have := hq s hs; omega
          refine PortIs.ext (g := g4) ⟨?_, ?_, ?_, ?_⟩ fun s hs => upd_ne (h4 s hs)
          · show g4 q1 = _
            simp only [g4]
            rw [upd_ne (by omega), upd_ne (by omega), upd_ne (by omega), upd_same]; rfl
          · show g4 q2 = _
            simp only [g4]
            rw [upd_ne (by omega), upd_ne (by omega), upd_same]; rfl
          · show g4 q3 = _
            simp only [g4]
            rw [upd_ne (by omega), upd_same]; rfl
          · show g4 q4 = _
            simp only [g4]
            rw [upd_same]; rfl
        · rw [hP j (by omega)]
          refine (hp j (by omega)).ext fun s hs => ?_
          have hlt := hpl j (by omega) s hs
          obtain ⟨l, r, hg⟩ := (hp j (by omega)).some hs
          have : P j s ≠ f := fun e => by rw [e, hf] at hg; cases hg
          rw [upd_ne this, low _ hlt]) (fun j k s t hj1 hk1 hs ht e => by
        by_cases hji : j = i
        · by_cases hki : k = i
          · subst hji; subst hki
            refine ⟨rfl, ?_⟩
            rw [hPi] at e
            match s, hs, t, ht with
            | 0, _, 0, _ | 1, _, 1, _ | 2, _, 2, _ | 3, _, 3, _ => rfl
            | 0, _, 1, _ | 0, _, 2, _ | 0, _, 3, _ | 1, _, 0, _ | 1, _, 2, _ | 1, _, 3, _ | 2, _, 0, _ | 2, _, 1, _ | 2, _, 3, _ | 3, _, 0, _ | 3, _, 1, _ | 3, _, 2, _ => simp only [a, four] at e; omega
          · subst hji
            rw [hPi, hP k (by omega)] at e
            have := hq s hs
            have := hpl k (by omega) t ht
            omega
        · by_cases hki : k = i
          · subst hki
            rw [hPi, hP j (by omega)] at e
            have := hq t ht
            have := hpl j (by omega) s hs
            omega
          · rw [hP j (by omega), hP k (by omega)] at e
            exact hj j k s t (by omega) (by omega) hs ht e)
      refine ⟨H', g', P'', ?_, r2⟩
      rw [le_17x0]
      have s1 := ld5 Hi M.same
      have s2 := ld6 Ha Na.same
      have s3 := ld5 Hb Nb.same
      have ep : ∀ r r', bd 72 [(0, .ref r 0 0), (1, .ref r' 0 0)] = some (.agg [.ref r 0 0, .ref r' 0 0]) := fun r r' => by
        simp -implicitDefEqProofs only [bnd_some, bo_some, condK_true, condK_false, gdA_undef, decide_true, decide_false, Int.reduceLE, Int.reduceLT, Int.reduceEq, Int.reduceNeg, Int.reduceAdd, gd_tt, gd_tf, gd_ft, gd_ff, unG_pure, lift_some, bnd_lift, Option.map_some, Option.bind_some, fieldPtr_ref, fieldPtr_ip, nil_ref, nil_ip, nil_fn, ex_tup, fl_agg, List.getElem?_cons_zero, List.getElem?_cons_succ, Nat.zero_add, Nat.add_zero, Nat.reduceAdd, pk_t, pk_f, lss_int, leq_int, gtr_int, geq_int, eql_int, neq_int, not_bool, beq_self_eq_true, if_true, Bool.false_eq_true, if_false, List.nil_append, List.cons_append, List.append_nil, alc_eq, mkm_eq, nNew, nPut, bNew, bPut, nGrd, bGrd, bd_72, bldA, fillA, pl_72]
        rfl
      have eq : ∀ r r' r2 r3, bd 74 [(0, .agg [.ref r 0 0, .ref r' 0 0]), (1, .agg [.ref r2 0 0, .ref r3 0 0])] = some (.agg [.ref r 0 0, .ref r' 0 0, .ref r2 0 0, .ref r3 0 0]) := fun r r' r2 r3 => by
        simp -implicitDefEqProofs only [bnd_some, bo_some, condK_true, condK_false, gdA_undef, decide_true, decide_false, Int.reduceLE, Int.reduceLT, Int.reduceEq, Int.reduceNeg, Int.reduceAdd, gd_tt, gd_tf, gd_ft, gd_ff, unG_pure, lift_some, bnd_lift, Option.map_some, Option.bind_some, fieldPtr_ref, fieldPtr_ip, nil_ref, nil_ip, nil_fn, ex_tup, fl_agg, List.getElem?_cons_zero, List.getElem?_cons_succ, Nat.zero_add, Nat.add_zero, Nat.reduceAdd, pk_t, pk_f, lss_int, leq_int, gtr_int, geq_int, eql_int, neq_int, not_bool, beq_self_eq_true, if_true, Bool.false_eq_true, if_false, List.nil_append, List.cons_append, List.append_nil, alc_eq, mkm_eq, nNew, nPut, bNew, bPut, nGrd, bGrd, bd_74, bldA, fillA, pl_74]
        rfl
      have eb := bsl_one (e := 74) (m := 4) (z := [zP, zP, zP, zP]) (v := .agg [.ref q1 0 0, .ref q2 0 0, .ref q3 0 0, .ref q4 0 0]) (H := Hd) rfl rfl rfl
      simp only [cells_agg] at eb
      simp only [o, a, portX, four, f] at t1 t2 r1 hx
      simp -implicitDefEqProofs only [bnd_some, bo_some, condK_true, condK_false, gdA_undef, decide_true, decide_false, Int.reduceLE, Int.reduceLT, Int.reduceEq, Int.reduceNeg, Int.reduceAdd, gd_tt, gd_tf, gd_ft, gd_ff, unG_pure, lift_some, bnd_lift, Option.map_some, Option.bind_some, fieldPtr_ref, fieldPtr_ip, nil_ref, nil_ip, nil_fn, ex_tup, fl_agg, List.getElem?_cons_zero, List.getElem?_cons_succ, Nat.zero_add, Nat.add_zero, Nat.reduceAdd, pk_t, pk_f, lss_int, leq_int, gtr_int, geq_int, eql_int, neq_int, not_bool, beq_self_eq_true, if_true, Bool.false_eq_true, if_false, List.nil_append, List.cons_append, List.append_nil, alc_eq, mkm_eq, nNew, nPut, bNew, bPut, nGrd, bGrd, ldN_is, ldN_lt, ldaN_is, ldaN_lt, stN_is, stN_lt, Nat.lt_add_one, ne_eq, nx1, nx2, nx3, ny1, ny2, ny3, not_false_eq_true, List.length_cons, List.length_nil, Nat.reduceLeDiff, setAt, List.take_succ_cons, List.take_zero, List.drop_succ_cons, List.drop_zero, cells_dat, cells_int, cells_bool, cells_agg, List.all_cons, List.all_nil, isCell_int, isCell_bool, isCell_dat, isCell_ref, isCell_nil, isCell_vsl, cells_vsl, av_len_cfg, av_len_pkt, av_len_opn, av_len_evn, av_len_ent, av_len_row, av_len_deal, av_len_pck, tk_cfg, tk_pkt, tk_opn, tk_evn, tk_ent, tk_row, tk_deal, tk_pck, all_cfg, all_pkt, all_opn, all_evn, all_ent, all_row, all_deal, all_pck, List.drop_nil, Bool.and_true, Bool.and_self, and_self, Nat.le_refl, true_and, and_true, Nat.le_add_right, leS, ltS, h1, f, hx, s1, s2, s3, a1, a2, a3, a4, ep, eq, bs_64, Nat.one_mul, eb, t1, t2, add_int, h6, h7, r1]
  obtain ⟨H', g', P, r1, r2, r3, r4, r5⟩ := key c.nodes.toNat 0 (by omega) H2 _ _ M0 upd_same (fun j hj => by omega) (fun i j s t hi => by omega)
  refine ⟨H', f, P, g', run_cl rfl rfl (rn_17 _ _ _ (r := (_, H')) ?_), r2.of_new, ⟨?_, ?_, rfl, rfl⟩, r5⟩
  · have e0 : bd 66 [] = some (.agg [zN]) := by
      simp -implicitDefEqProofs only [bnd_some, bo_some, condK_true, condK_false, gdA_undef, decide_true, decide_false, Int.reduceLE, Int.reduceLT, Int.reduceEq, Int.reduceNeg, Int.reduceAdd, gd_tt, gd_tf, gd_ft, gd_ff, unG_pure, lift_some, bnd_lift, Option.map_some, Option.bind_some, fieldPtr_ref, fieldPtr_ip, nil_ref, nil_ip, nil_fn, ex_tup, fl_agg, List.getElem?_cons_zero, List.getElem?_cons_succ, Nat.zero_add, Nat.add_zero, Nat.reduceAdd, pk_t, pk_f, lss_int, leq_int, gtr_int, geq_int, eql_int, neq_int, not_bool, beq_self_eq_true, if_true, Bool.false_eq_true, if_false, List.nil_append, List.cons_append, List.append_nil, alc_eq, mkm_eq, nNew, nPut, bNew, bPut, nGrd, bGrd, bd_66, bldA, fillA]
    have a0 : ([zN] : List AV).all AV.isCell = true := rfl
    simp -implicitDefEqProofs only [bnd_some, bo_some, condK_true, condK_false, gdA_undef, decide_true, decide_false, Int.reduceLE, Int.reduceLT, Int.reduceEq, Int.reduceNeg, Int.reduceAdd, gd_tt, gd_tf, gd_ft, gd_ff, unG_pure, lift_some, bnd_lift, Option.map_some, Option.bind_some, fieldPtr_ref, fieldPtr_ip, nil_ref, nil_ip, nil_fn, ex_tup, fl_agg, List.getElem?_cons_zero, List.getElem?_cons_succ, Nat.zero_add, Nat.add_zero, Nat.reduceAdd, pk_t, pk_f, lss_int, leq_int, gtr_int, geq_int, eql_int, neq_int, not_bool, beq_self_eq_true, if_true, Bool.false_eq_true, if_false, List.nil_append, List.cons_append, List.append_nil, alc_eq, mkm_eq, nNew, nPut, bNew, bPut, nGrd, bGrd, ldN_is, ldN_lt, ldaN_is, ldaN_lt, stN_is, stN_lt, Nat.lt_add_one, ne_eq, nx1, nx2, nx3, ny1, ny2, ny3, not_false_eq_true, List.length_cons, List.length_nil, Nat.reduceLeDiff, setAt, List.take_succ_cons, List.take_zero, List.drop_succ_cons, List.drop_zero, cells_dat, cells_int, cells_bool, cells_agg, List.all_cons, List.all_nil, isCell_int, isCell_bool, isCell_dat, isCell_ref, isCell_nil, isCell_vsl, cells_vsl, av_len_cfg, av_len_pkt, av_len_opn, av_len_evn, av_len_ent, av_len_row, av_len_deal, av_len_pck, tk_cfg, tk_pkt, tk_opn, tk_evn, tk_ent, tk_row, tk_deal, tk_pck, all_cfg, all_pkt, all_opn, all_evn, all_ent, all_row, all_deal, all_pck, List.drop_nil, Bool.and_true, Bool.and_self, and_self, Nat.le_refl, true_and, and_true, Nat.le_add_right, leS, ltS, sh_17, box_agg (all_cfg c), e0, box_agg a0, l0]
    exact r1
  · rw [r3]
    simp only [Fab.new, List.length_replicate]
  · intro i p hp
    simp only [Fab.new] at hp
    rw [List.getElem?_replicate] at hp
    split at hp
    · cases hp; exact r4 i (by omega)
    · cases hp

end Go.Proofs.YtmhbgbiaajbhnaaGreat

namespace Go.Proofs.YtmhbgbiaajbhnaaGreat

/-- Where the parts of a machine lie. -/
structure Adr where
  mach : Nat
  fab : Nat
  trace : Nat
  N : Nat → Nat → Nat
  P : Nat → Nat → Nat
def machX (A : Adr) (c : Cfg) : List AV := [.ref A.fab 0 0, .ref A.trace 0 0] ++ c.av
def nodesX (N : Nat → Nat → Nat) (n : Nat) : List AV := (List.range n).map fun i => .ref (N i 0) 0 0
def machO (A : Adr) (c : Cfg) (n : Nat) : List Cell := (machX A c).map .av ++ [.seq 1 (nodesX A.N n)]
def NInj (N : Nat → Nat → Nat) (n : Nat) : Prop := ∀ i j s t, i < n → j < n → s < 6 → t < 6 → N i s = N j t → i = j ∧ s = t
structure MachIs (g : Store) (A : Adr) (m : Mach) : Prop where
  mach : g A.mach = some (machO A m.c m.nodes.length)
  trace : g A.trace = some (traceO m.trace)
  fab : FabIs g A.fab A.P m.c m.fab
  node : ∀ (i : Nat) n, m.nodes[i]? = some n → NodeIs g (A.N i) m.c i n
  pinj : PInj A.P m.fab.l.length
  ninj : NInj A.N m.nodes.length
  tf : A.trace ≠ A.fab
theorem NodeIs.some {g : Store} {a : Nat → Nat} {c : Cfg} {me : Int} {n : Node} (h : NodeIs g a c me n) {s : Nat} (hs : s < 6) : ∃ l, g (a s) = some l := by
  obtain ⟨h0, h1, h2, h3, h4, h5⟩ := h
  match s, hs with
  | 0, _ => exact ⟨_, h0⟩
  | 1, _ => exact ⟨_, h1⟩
  | 2, _ => exact ⟨_, h2⟩
  | 3, _ => exact ⟨_, h3⟩
  | 4, _ => exact ⟨_, h4⟩
  | 5, _ => exact ⟨_, h5⟩
theorem NodeIs.ext {g g' : Store} {a : Nat → Nat} {c : Cfg} {me : Int} {n : Node} (h : NodeIs g a c me n) (hg : ∀ s, s < 6 → g' (a s) = g (a s)) : NodeIs g' a c me n := by
  obtain ⟨h0, h1, h2, h3, h4, h5⟩ := h
  exact ⟨by rw [hg 0 (by omega), h0], by rw [hg 1 (by omega), h1], by rw [hg 2 (by omega), h2], by rw [hg 3 (by omega), h3], by rw [hg 4 (by omega), h4], by rw [hg 5 (by omega), h5]⟩
/-- A node's parts lie apart. -/
theorem NodeIs.inj {g : Store} {a : Nat → Nat} {c : Cfg} {me : Int} {n : Node} (h : NodeIs g a c me n) {s t : Nat} (hs : s < 6) (ht : t < 6) (e : a s = a t) : s = t := by
  obtain ⟨h0, h1, h2, h3, h4, h5⟩ := h
  have hh : (g (a s)).map List.length = (g (a t)).map List.length := by rw [e]
  match s, hs, t, ht with
  | 0, _, 0, _ | 1, _, 1, _ | 2, _, 2, _ | 3, _, 3, _ | 4, _, 4, _ | 5, _, 5, _ => rfl
  | 0, _, 1, _ | 0, _, 2, _ | 0, _, 3, _ | 0, _, 4, _ | 0, _, 5, _ | 1, _, 0, _ | 1, _, 2, _ | 1, _, 3, _ | 1, _, 4, _ | 1, _, 5, _ | 2, _, 0, _ | 2, _, 1, _ | 2, _, 3, _ | 2, _, 4, _ | 2, _, 5, _ | 3, _, 0, _ | 3, _, 1, _ | 3, _, 2, _ | 3, _, 4, _ | 3, _, 5, _ | 4, _, 0, _ | 4, _, 1, _ | 4, _, 2, _ | 4, _, 3, _ | 4, _, 5, _ | 5, _, 0, _ | 5, _, 1, _ | 5, _, 2, _ | 5, _, 3, _ | 5, _, 4, _ =>
    simp [h0, h1, h2, h3, h4, h5, nodeO, nodeX, Cfg.av, Deal.av, cacheO, procO, homeO, dirO, turnsO] at hh
theorem nodesX_succ {N N' : Nat → Nat → Nat} {n : Nat} (h : ∀ i, i < n → N' i = N i) : nodesX N' (n + 1) = nodesX N n ++ [.ref (N' n 0) 0 0] := by
  unfold nodesX
  rw [List.range_succ, List.map_append]
  congr 1
  refine List.map_congr_left fun i hi => ?_
  rw [h i (List.mem_range.1 hi)]
theorem opsOk_of {c : Cfg} {ps : List (List Opn)} (h : c.opsOk ps = true) : (ps.length : Int) = c.nodes ∧ ∀ l ∈ ps, l.length ≤ 24 := by
  simp only [Cfg.opsOk, Bool.and_eq_true, decide_eq_true_eq, List.all_eq_true] at h
  exact ⟨h.2, fun l hl => (h.1 l hl).1⟩
theorem machineNew (H : AHeap) (hb : H.base ≤ H.next) (c : Cfg) (h : c.ok = true) {x : AV} {ps : List (List Opn)} (hx : PsIs H x ps) (hp : c.opsOk ps = true) : ∃ H' A g', cl 11 [.agg c.av, x] H = some (.tup [.ref A.mach 0 0, I 0], H') ∧ Made H H' g' ∧ MachIs g' A (.new c ps) := by
  have Bd := cfgB h
  obtain ⟨hp1, hp2⟩ := opsOk_of hp
  have hn := Bd.nodes
  let H1 := H.new (.blk 0 26 c.av)
  have lt1 : H.next < H1.next := by simp only [H1, nNew]; omega
  have g1 : H1.get H.next = .blk 0 26 c.av := getNew_is rfl
  have b1 := lda_cfg g1
  have e1 := check_ok H1 c h
  have e2 := ops_sp H1 c h (hx.of_get (H' := H1) (by omega) fun r hr => getNew_lt hr) (by omega) fun l hl => by have := hp2 l hl; omega
  rw [hp] at e2
  have e3 := cloneInts H1 c.init (by have := Bd.init; have := Bd.addrs; omega)
  obtain ⟨H2', f, P, gf, e4, M1, F1, J1⟩ := fabricNew H1.guard (Nat.le_refl _) c h
  obtain ⟨H2, e4, M1⟩ := drawn e4 M1
  obtain ⟨H3', t, e5, M2⟩ := traceNew H2.guard
  obtain ⟨H3, e5, M2⟩ := drawn e5 M2
  let A0 : Adr := ⟨H3.next, f, t, fun _ _ => 0, P⟩
  have bx : ∀ H' : AHeap, (∀ r, r < H1.next → H'.get r = H1.get r) → H'.get H.next = .blk 0 26 c.av := fun H' hs => by rw [hs _ lt1, g1]
  have M12 := M1.add M2
  have b3 := lda_cfg (bx H3 M12.same)
  have b2 := lda_cfg (bx H2 M1.same)
  let xs := machX A0 c ++ [zN]
  have hall : xs.all AV.isCell = true := by simp only [xs, machX, List.all_append, all_cfg]; rfl
  have M3 : Made H3 (H3.new (.blk 0 53 xs)) (upd nil0 H3.next (machO A0 c 0)) := by
    refine made_box hall (by simp [xs, machO]) fun i cc y hc hy => ?_
    simp only [machO] at hc
    by_cases hi : i < (machX A0 c).length
    · left
      rw [List.getElem?_append_left (by rw [List.length_map]; exact hi), List.getElem?_map] at hc
      rw [List.getElem?_append_left hi] at hy
      rw [hy] at hc
      exact (Option.some.inj hc).symm
    · right
      have hlen : (machX A0 c).length = 10 := rfl
      have : i = 10 := by
        have := (List.getElem?_eq_some_iff.1 hy).1
        simp only [xs, List.length_append, List.length_cons, List.length_nil] at this
        omega
      subst this
      cases hc; cases hy
      exact ⟨rfl, 1, rfl⟩
  have M0 := M12.add M3
  let g0 := upd (upd gf t (traceO [])) H3.next (machO A0 c 0)
  let K := H3.next
  have key : ∀ k i, i + k = ps.length → ∀ Hi gi N, Made H1 Hi gi → gi K = some (machO { A0 with N := N } c i) → (∀ q, q < K → gi q = g0 q) → (∀ (j : Nat) l, j < i → ps[j]? = some l → NodeIs gi (N j) c j (.new c j l)) → NInj N i →
      ∃ H' g' N', lp_11x0 cl [.ref H.next 0 0, .ref K 0 0, x, I ps.length, I i] Hi = some (.tup [.ref K 0 0, I 0], H') ∧ Made H1 H' g' ∧ g' K = some (machO { A0 with N := N' } c ps.length) ∧ (∀ q, q < K → g' q = g0 q) ∧ (∀ (j : Nat) l, j < ps.length → ps[j]? = some l → NodeIs g' (N' j) c j (.new c j l)) ∧ NInj N' ps.length := by
    intro k
    induction k with
    | zero =>
      intro i hi Hi gi N M hm hl hnd hj
      have h1 : ¬ (i : Int) < ps.length := by omega
      have hi' : ps.length = i := by omega
      rw [le_11x0]
      refine ⟨Hi, gi, N, ?_, M, by rw [hi']; exact hm, hl, by rw [hi']; exact hnd, by rw [hi']; exact hj⟩
      simp -implicitDefEqProofs only [bnd_some, bo_some, condK_true, condK_false, gdA_undef, decide_true, decide_false, Int.reduceLE, Int.reduceLT, Int.reduceEq, Int.reduceNeg, Int.reduceAdd, gd_tt, gd_tf, gd_ft, gd_ff, unG_pure, lift_some, bnd_lift, Option.map_some, Option.bind_some, fieldPtr_ref, fieldPtr_ip, nil_ref, nil_ip, nil_fn, ex_tup, fl_agg, List.getElem?_cons_zero, List.getElem?_cons_succ, Nat.zero_add, Nat.add_zero, Nat.reduceAdd, pk_t, pk_f, lss_int, leq_int, gtr_int, geq_int, eql_int, neq_int, not_bool, beq_self_eq_true, if_true, Bool.false_eq_true, if_false, List.nil_append, List.cons_append, List.append_nil, alc_eq, mkm_eq, nNew, nPut, bNew, bPut, nGrd, bGrd, ldN_is, ldN_lt, ldaN_is, ldaN_lt, stN_is, stN_lt, Nat.lt_add_one, ne_eq, nx1, nx2, nx3, ny1, ny2, ny3, not_false_eq_true, List.length_cons, List.length_nil, Nat.reduceLeDiff, setAt, List.take_succ_cons, List.take_zero, List.drop_succ_cons, List.drop_zero, cells_dat, cells_int, cells_bool, cells_agg, List.all_cons, List.all_nil, isCell_int, isCell_bool, isCell_dat, isCell_ref, isCell_nil, isCell_vsl, cells_vsl, av_len_cfg, av_len_pkt, av_len_opn, av_len_evn, av_len_ent, av_len_row, av_len_deal, av_len_pck, tk_cfg, tk_pkt, tk_opn, tk_evn, tk_ent, tk_row, tk_deal, tk_pck, all_cfg, all_pkt, all_opn, all_evn, all_ent, all_row, all_deal, all_pck, List.drop_nil, Bool.and_true, Bool.and_self, and_self, Nat.le_refl, true_and, and_true, Nat.le_add_right, leS, ltS, h1]
    | succ k ih =>
      intro i hi Hi gi N M hm hlow hnd hj
      have h1 : (i : Int) < ps.length := by omega
      have h6 : (i : Int) + 1 = ((i + 1 : Nat) : Int) := by omega
      have h7 := wrap_i64 (a := ((i + 1 : Nat) : Int)) (by omega) (by omega)
      have hxi := hx.of_get (H' := Hi) (Nat.le_trans (Nat.le_of_lt lt1) M.next) fun r hr => by rw [M.same r (by omega)]; exact getNew_lt hr
      obtain ⟨cells, x1, x2⟩ := hxi
      have hcl : cells.length = ps.length := by have := x1.1; omega
      have s1 := x1.ix (k := .i64) (i := (i : Int)) (by omega) h1
      rw [Int.toNat_natCast] at s1
      have s2 := x1.ld (i := i) (by omega)
      obtain ⟨v, hv⟩ : ∃ v, cells[i]? = some v := ⟨_, List.getElem?_eq_getElem (by omega)⟩
      obtain ⟨l, hl⟩ : ∃ l, ps[i]? = some l := ⟨_, List.getElem?_eq_getElem (by omega)⟩
      rw [hv] at s2
      obtain ⟨v1, v2⟩ := x2 i v l hv hl
      have s4 := lda_cfg (bx Hi M.same)
      obtain ⟨y, hy, cy⟩ := M.good.seq hm (i := 10) (m := 1) (l := nodesX N i) rfl
      obtain ⟨Ha', a, ga, a1, Ma, Ia⟩ := nodeNew Hi.guard c h i l (by have := hp2 l (List.mem_of_getElem? hl); omega) v1.guard v2
      obtain ⟨Ha, a1, Ma⟩ := drawn a1 Ma
      have Na := M.trans Ma
      let ga' := cup Hi.next gi ga
      have hK := M.good.lt hm
      have glow : ∀ q, q < Hi.next → ga' q = gi q := fun q hq => by simp only [ga', cup, hq, if_true]
      have hma : ga' K = some (machO { A0 with N := N } c i) := by rw [glow K hK, hm]
      let o : AObj := .blk 0 54 [.ref (a 0) 0 0]
      have hnl : (nodesX N i).length = i * 1 := by simp [nodesX]
      obtain ⟨y', He, Hf, t1, t2, t3, t4⟩ := (Na.good.new o).append (e := 54) (by_ := 8) (by rw [bNew, Na.base]; simp only [H1, bNew, nNew]; omega) hma (i := 10) rfl (by decide) hnl ((cy.ext Ma.next Ma.same).new o) (sl_new (ex := true) (n := 1) (m := 1) (l := [.ref (a 0) 0 0]) rfl) rfl (by unfold most; omega) (by unfold most; omega)
      let N' : Nat → Nat → Nat := fun j => if j = i then a else N j
      have hN : ∀ j, j < i → N' j = N j := fun j hj => by simp only [N']; rw [if_neg (by omega)]
      have hNi : N' i = a := by simp only [N', if_true]
      have Mf : Made H1 Hf (upd ga' K (machO { A0 with N := N' } c (i + 1))) := by
        refine ((Na.new o).step t3 t4).as ?_
        congr 1
        simp only [machO]
        rw [nodesX_succ hN, hNi]
        rfl
      have hal : ∀ s, s < 6 → Hi.next ≤ a s ∧ ga' (a s) = ga (a s) := fun s hs => by
        obtain ⟨l, hg⟩ := Ia.some hs
        have := (Ma.lt hg).1
        exact ⟨this, by simp only [ga', cup]; rw [if_neg (by omega)]⟩
      have hNl : ∀ j, j < i → ∀ s, s < 6 → N j s < Hi.next := fun j hji s hs => by
        obtain ⟨lj, hlj⟩ : ∃ l, ps[j]? = some l := ⟨_, List.getElem?_eq_getElem (by omega)⟩
        obtain ⟨l, hg⟩ := (hnd j lj hji hlj).some hs
        exact M.good.lt hg
      obtain ⟨H', g', N'', r1, r2⟩ := ih (i + 1) (by omega) Hf _ N' Mf upd_same (fun q hq => by
        rw [upd_ne (by omega), glow q (by omega), hlow q hq]) (fun j lj hj1 hlj => by
        by_cases hji : j = i
        · subst hji
          rw [hl] at hlj
          cases hlj
          rw [hNi]
          exact Ia.ext fun s hs => by
            obtain ⟨h1, h2⟩ := hal s hs
            rw [upd_ne (by omega), h2]
        · rw [hN j (by omega)]
          refine (hnd j lj (by omega) hlj).ext fun s hs => ?_
          have hlt := hNl j (by omega) s hs
          have hne : N j s ≠ K := fun e => by
            have I := hnd j lj (by omega) hlj
            obtain ⟨l', hg⟩ := I.some hs
            obtain ⟨h0, h1, h2, h3, h4, h5⟩ := I
            have hh : (gi (N j s)).map (fun l => l[10]?) = some (some (.seq 1 (nodesX N i))) := by rw [e, hm]; rfl
            match s, hs with
            | 0, _ => rw [h0] at hh; simp [nodeO, nodeX, Cfg.av, Deal.av] at hh
            | 1, _ => rw [h1] at hh; simp [cacheO] at hh
            | 2, _ => rw [h2] at hh; simp [procO] at hh
            | 3, _ => rw [h3] at hh; simp [homeO, Cfg.av] at hh
            | 4, _ => rw [h4] at hh; simp [dirO, Cfg.av] at hh
            | 5, _ => rw [h5] at hh; simp [turnsO] at hh
          rw [upd_ne hne, glow _ hlt]) (fun j k s t hj1 hk1 hs ht e => by
        by_cases hji : j = i
        · by_cases hki : k = i
          · subst hji; subst hki
            rw [hNi] at e
            exact ⟨rfl, Ia.inj hs ht e⟩
          · subst hji
            rw [hNi, hN k (by omega)] at e
            have := (hal s hs).1
            have := hNl k (by omega) t ht
            omega
        · by_cases hki : k = i
          · subst hki
            rw [hNi, hN j (by omega)] at e
            have := (hal t ht).1
            have := hNl j (by omega) s hs
            omega
          · rw [hN j (by omega), hN k (by omega)] at e
            exact hj j k s t (by omega) (by omega) hs ht e)
      refine ⟨H', g', N'', ?_, r2⟩
      rw [le_11x0]
      have eb := bsl_one (e := 54) (m := 1) (z := [zP]) (v := .ref (a 0) 0 0) (H := Ha) rfl rfl rfl
      have ec : (AV.ref (a 0) 0 0).cells = [.ref (a 0) 0 0] := rfl
      rw [ec] at eb
      simp only [o] at t1 t2
      simp -implicitDefEqProofs only [bnd_some, bo_some, condK_true, condK_false, gdA_undef, decide_true, decide_false, Int.reduceLE, Int.reduceLT, Int.reduceEq, Int.reduceNeg, Int.reduceAdd, gd_tt, gd_tf, gd_ft, gd_ff, unG_pure, lift_some, bnd_lift, Option.map_some, Option.bind_some, fieldPtr_ref, fieldPtr_ip, nil_ref, nil_ip, nil_fn, ex_tup, fl_agg, List.getElem?_cons_zero, List.getElem?_cons_succ, Nat.zero_add, Nat.add_zero, Nat.reduceAdd, pk_t, pk_f, lss_int, leq_int, gtr_int, geq_int, eql_int, neq_int, not_bool, beq_self_eq_true, if_true, Bool.false_eq_true, if_false, List.nil_append, List.cons_append, List.append_nil, alc_eq, mkm_eq, nNew, nPut, bNew, bPut, nGrd, bGrd, ldN_is, ldN_lt, ldaN_is, ldaN_lt, stN_is, stN_lt, Nat.lt_add_one, ne_eq, nx1, nx2, nx3, ny1, ny2, ny3, not_false_eq_true, List.length_cons, List.length_nil, Nat.reduceLeDiff, setAt, List.take_succ_cons, List.take_zero, List.drop_succ_cons, List.drop_zero, cells_dat, cells_int, cells_bool, cells_agg, List.all_cons, List.all_nil, isCell_int, isCell_bool, isCell_dat, isCell_ref, isCell_nil, isCell_vsl, cells_vsl, av_len_cfg, av_len_pkt, av_len_opn, av_len_evn, av_len_ent, av_len_row, av_len_deal, av_len_pck, tk_cfg, tk_pkt, tk_opn, tk_evn, tk_ent, tk_row, tk_deal, tk_pck, all_cfg, all_pkt, all_opn, all_evn, all_ent, all_row, all_deal, all_pck, List.drop_nil, Bool.and_true, Bool.and_self, and_self, Nat.le_refl, true_and, and_true, Nat.le_add_right, leS, ltS, h1, s1, s2, s4, hy, a1, bs_51, Nat.one_mul, eb, t1, t2, add_int, h6, h7, r1]
  have hfl : f < H2.next := M1.good.lt F1.1
  have ht := M2.lt upd_same
  obtain ⟨H', g', N, r1, r2, r3, r4, r5, r6⟩ := key ps.length 0 (by omega) _ g0 (fun _ _ => 0) M0 upd_same (fun q hq => rfl) (fun j l hj => by omega) (fun i j s t hi => by omega)
  have hg0 : ∀ q, q < H2.next → g0 q = gf q := fun q hq => by simp only [g0]; rw [upd_ne (by omega), upd_ne (by omega)]
  refine ⟨H', { A0 with N := N }, g', run_cl rfl rfl (rn_11 _ _ _ _ (r := (_, H')) ?_), r2.of_new, ?_⟩
  · have l7 : c.av[7]? = some (dat c.init) := rfl
    have b0 : binA Tryz.prog .neq 40 (I 0) (I 0) = some (B false) := by kernel_rfl
    have st7 : st 1 (.ref H.next 0 7) (dat c.init) H1 = some (undefA, H1) := by
      simp only [H1]
      rw [stN_is rfl]
      simp -implicitDefEqProofs only [bnd_some, bo_some, condK_true, condK_false, gdA_undef, decide_true, decide_false, Int.reduceLE, Int.reduceLT, Int.reduceEq, Int.reduceNeg, Int.reduceAdd, gd_tt, gd_tf, gd_ft, gd_ff, unG_pure, lift_some, bnd_lift, Option.map_some, Option.bind_some, fieldPtr_ref, fieldPtr_ip, nil_ref, nil_ip, nil_fn, ex_tup, fl_agg, List.getElem?_cons_zero, List.getElem?_cons_succ, Nat.zero_add, Nat.add_zero, Nat.reduceAdd, pk_t, pk_f, lss_int, leq_int, gtr_int, geq_int, eql_int, neq_int, not_bool, beq_self_eq_true, if_true, Bool.false_eq_true, if_false, List.nil_append, List.cons_append, List.append_nil, alc_eq, mkm_eq, nNew, nPut, bNew, bPut, nGrd, bGrd, ldN_is, ldN_lt, ldaN_is, ldaN_lt, stN_is, stN_lt, Nat.lt_add_one, ne_eq, nx1, nx2, nx3, ny1, ny2, ny3, not_false_eq_true, List.length_cons, List.length_nil, Nat.reduceLeDiff, setAt, List.take_succ_cons, List.take_zero, List.drop_succ_cons, List.drop_zero, cells_dat, cells_int, cells_bool, cells_agg, List.all_cons, List.all_nil, isCell_int, isCell_bool, isCell_dat, isCell_ref, isCell_nil, isCell_vsl, cells_vsl, av_len_cfg, av_len_pkt, av_len_opn, av_len_evn, av_len_ent, av_len_row, av_len_deal, av_len_pck, tk_cfg, tk_pkt, tk_opn, tk_evn, tk_ent, tk_row, tk_deal, tk_pck, all_cfg, all_pkt, all_opn, all_evn, all_ent, all_row, all_deal, all_pck, List.drop_nil, Bool.and_true, Bool.and_self, and_self, Nat.le_refl, true_and, and_true, Nat.le_add_right, leS, ltS, Cfg.av, hb]
    have em : bd 53 [(0, .ref f 0 0), (1, .ref t 0 0), (2, .agg c.av)] = some (.agg xs) := by
      simp -implicitDefEqProofs only [bnd_some, bo_some, condK_true, condK_false, gdA_undef, decide_true, decide_false, Int.reduceLE, Int.reduceLT, Int.reduceEq, Int.reduceNeg, Int.reduceAdd, gd_tt, gd_tf, gd_ft, gd_ff, unG_pure, lift_some, bnd_lift, Option.map_some, Option.bind_some, fieldPtr_ref, fieldPtr_ip, nil_ref, nil_ip, nil_fn, ex_tup, fl_agg, List.getElem?_cons_zero, List.getElem?_cons_succ, Nat.zero_add, Nat.add_zero, Nat.reduceAdd, pk_t, pk_f, lss_int, leq_int, gtr_int, geq_int, eql_int, neq_int, not_bool, beq_self_eq_true, if_true, Bool.false_eq_true, if_false, List.nil_append, List.cons_append, List.append_nil, alc_eq, mkm_eq, nNew, nPut, bNew, bPut, nGrd, bGrd, bd_53, bldA, fillA, pl_53, Cfg.av, cells_agg]
      rfl
    have el := (hx.of_get (H' := H3.new (.blk 0 53 xs)) (by have := M12.next; simp only [nNew]; omega) fun r hr => by rw [M0.same r (by omega)]; exact getNew_lt hr)
    obtain ⟨cells, x1, _⟩ := el
    have el := x1.lnS
    simp only [H1] at b1 e1 e2 e3 e4 e5 st7
    simp -implicitDefEqProofs only [bnd_some, bo_some, condK_true, condK_false, gdA_undef, decide_true, decide_false, Int.reduceLE, Int.reduceLT, Int.reduceEq, Int.reduceNeg, Int.reduceAdd, gd_tt, gd_tf, gd_ft, gd_ff, unG_pure, lift_some, bnd_lift, Option.map_some, Option.bind_some, fieldPtr_ref, fieldPtr_ip, nil_ref, nil_ip, nil_fn, ex_tup, fl_agg, List.getElem?_cons_zero, List.getElem?_cons_succ, Nat.zero_add, Nat.add_zero, Nat.reduceAdd, pk_t, pk_f, lss_int, leq_int, gtr_int, geq_int, eql_int, neq_int, not_bool, beq_self_eq_true, if_true, Bool.false_eq_true, if_false, List.nil_append, List.cons_append, List.append_nil, alc_eq, mkm_eq, nNew, nPut, bNew, bPut, nGrd, bGrd, ldN_is, ldN_lt, ldaN_is, ldaN_lt, stN_is, stN_lt, Nat.lt_add_one, ne_eq, nx1, nx2, nx3, ny1, ny2, ny3, not_false_eq_true, List.length_cons, List.length_nil, Nat.reduceLeDiff, setAt, List.take_succ_cons, List.take_zero, List.drop_succ_cons, List.drop_zero, cells_dat, cells_int, cells_bool, cells_agg, List.all_cons, List.all_nil, isCell_int, isCell_bool, isCell_dat, isCell_ref, isCell_nil, isCell_vsl, cells_vsl, av_len_cfg, av_len_pkt, av_len_opn, av_len_evn, av_len_ent, av_len_row, av_len_deal, av_len_pck, tk_cfg, tk_pkt, tk_opn, tk_evn, tk_ent, tk_row, tk_deal, tk_pck, all_cfg, all_pkt, all_opn, all_evn, all_ent, all_row, all_deal, all_pck, List.drop_nil, Bool.and_true, Bool.and_self, and_self, Nat.le_refl, true_and, and_true, Nat.le_add_right, leS, ltS, sh_11, box_agg (all_cfg c), b1, e1, b0, e2, e3, l7, st7, e4, e5, b3, b2, em, box_agg hall, el]
    exact r1
  · refine ⟨?_, ?_, ⟨?_, ?_, rfl, rfl⟩, ?_, ?_, ?_, ?_⟩
    · rw [r3]; simp only [Mach.new, List.length_mapIdx]
    · rw [r4 t ht.2]
      simp only [g0]
      rw [upd_ne (by omega), upd_same]
      rfl
    · show g' f = _
      rw [r4 f (by have := M2.next; omega), hg0 f hfl, F1.1]
      rfl
    · intro i p hp
      have I := F1.2.1 i p hp
      exact I.ext fun s hs => by
        obtain ⟨l, r, hg⟩ := I.some hs
        have := M1.good.lt hg
        rw [r4 _ (by have := M2.next; omega), hg0 _ this]
    · intro i n hi
      simp only [Mach.new, List.getElem?_mapIdx, Option.map_eq_some_iff] at hi
      obtain ⟨l, hl, rfl⟩ := hi
      exact r5 i l (List.getElem?_eq_some_iff.1 hl).1 hl
    · simp only [Mach.new, Fab.new, List.length_replicate]; exact J1
    · simp only [Mach.new, List.length_mapIdx]; exact r6
    · show t ≠ f
      omega

end Go.Proofs.YtmhbgbiaajbhnaaGreat

namespace Go.Proofs.YtmhbgbiaajbhnaaGreat

section
variable {b : Nat} {H : AHeap} {g : Store} {q : Nat}
theorem procLeft (G : Good b H g) {p : Proc} (h : g q = some (procO p)) (h1 : p.ops.length < 1000) (h2 : p.values.length < 1000) : cl 48 [.ref q 0 0] H = some (I p.left, H) := by
  refine run_cl rfl rfl (rn_48 _ _ _ ?_)
  have e1 := G.load h (i := 0) rfl
  have e2 := (vsl_is av_len_opn H p.ops).lnS
  obtain ⟨x, hx, c⟩ := G.seq h (i := 1) rfl
  have e3 := (c.is (n := p.values.length) (by decide) (by simp)).lnS
  simp -implicitDefEqProofs only [bnd_some, bo_some, condK_true, condK_false, gdA_undef, decide_true, decide_false, Int.reduceLE, Int.reduceLT, Int.reduceEq, Int.reduceNeg, Int.reduceAdd, gd_tt, gd_tf, gd_ft, gd_ff, unG_pure, lift_some, bnd_lift, Option.map_some, Option.bind_some, fieldPtr_ref, fieldPtr_ip, nil_ref, nil_ip, nil_fn, ex_tup, fl_agg, List.getElem?_cons_zero, List.getElem?_cons_succ, Nat.zero_add, Nat.add_zero, Nat.reduceAdd, pk_t, pk_f, lss_int, leq_int, gtr_int, geq_int, eql_int, neq_int, not_bool, beq_self_eq_true, if_true, Bool.false_eq_true, if_false, List.nil_append, List.cons_append, List.append_nil, alc_eq, mkm_eq, nNew, nPut, bNew, bPut, nGrd, bGrd, sh_48, e1, e2, hx, e3, sub_int, Proc.left]
  rw [wrap_i64 (by omega) (by omega)]
theorem procBegun (G : Good b H g) {p : Proc} (h : g q = some (procO p)) : cl 47 [.ref q 0 0] H = some (B p.begun, H) := by
  refine run_cl rfl rfl (rn_47 _ _ _ ?_)
  have e1 := G.load h (i := 2) rfl
  simp -implicitDefEqProofs only [bnd_some, bo_some, condK_true, condK_false, gdA_undef, decide_true, decide_false, Int.reduceLE, Int.reduceLT, Int.reduceEq, Int.reduceNeg, Int.reduceAdd, gd_tt, gd_tf, gd_ft, gd_ff, unG_pure, lift_some, bnd_lift, Option.map_some, Option.bind_some, fieldPtr_ref, fieldPtr_ip, nil_ref, nil_ip, nil_fn, ex_tup, fl_agg, List.getElem?_cons_zero, List.getElem?_cons_succ, Nat.zero_add, Nat.add_zero, Nat.reduceAdd, pk_t, pk_f, lss_int, leq_int, gtr_int, geq_int, eql_int, neq_int, not_bool, beq_self_eq_true, if_true, Bool.false_eq_true, if_false, List.nil_append, List.cons_append, List.append_nil, alc_eq, mkm_eq, nNew, nPut, bNew, bPut, nGrd, bGrd, sh_47, e1]
theorem poolLen (G : Good b H g) {l : List Pkt} {room : Int} (h : g q = some (boxO l room)) : cl 53 [.ref q 0 0] H = some (I l.length, H) := by
  refine run_cl rfl rfl (rn_53 _ _ _ ?_)
  obtain ⟨x, hx, c⟩ := G.seq h (i := 0) rfl
  have e2 := (c.is (by decide) (flat_len av_len_pkt l)).lnS
  simp -implicitDefEqProofs only [bnd_some, bo_some, condK_true, condK_false, gdA_undef, decide_true, decide_false, Int.reduceLE, Int.reduceLT, Int.reduceEq, Int.reduceNeg, Int.reduceAdd, gd_tt, gd_tf, gd_ft, gd_ff, unG_pure, lift_some, bnd_lift, Option.map_some, Option.bind_some, fieldPtr_ref, fieldPtr_ip, nil_ref, nil_ip, nil_fn, ex_tup, fl_agg, List.getElem?_cons_zero, List.getElem?_cons_succ, Nat.zero_add, Nat.add_zero, Nat.reduceAdd, pk_t, pk_f, lss_int, leq_int, gtr_int, geq_int, eql_int, neq_int, not_bool, beq_self_eq_true, if_true, Bool.false_eq_true, if_false, List.nil_append, List.cons_append, List.append_nil, alc_eq, mkm_eq, nNew, nPut, bNew, bPut, nGrd, bGrd, sh_53, hx, e2]
theorem queueLen (G : Good b H g) {l : List Pkt} {room : Int} (h : g q = some (boxO l room)) : cl 58 [.ref q 0 0] H = some (I l.length, H) := by
  refine run_cl rfl rfl (rn_58 _ _ _ ?_)
  obtain ⟨x, hx, c⟩ := G.seq h (i := 0) rfl
  have e2 := (c.is (by decide) (flat_len av_len_pkt l)).lnS
  simp -implicitDefEqProofs only [bnd_some, bo_some, condK_true, condK_false, gdA_undef, decide_true, decide_false, Int.reduceLE, Int.reduceLT, Int.reduceEq, Int.reduceNeg, Int.reduceAdd, gd_tt, gd_tf, gd_ft, gd_ff, unG_pure, lift_some, bnd_lift, Option.map_some, Option.bind_some, fieldPtr_ref, fieldPtr_ip, nil_ref, nil_ip, nil_fn, ex_tup, fl_agg, List.getElem?_cons_zero, List.getElem?_cons_succ, Nat.zero_add, Nat.add_zero, Nat.reduceAdd, pk_t, pk_f, lss_int, leq_int, gtr_int, geq_int, eql_int, neq_int, not_bool, beq_self_eq_true, if_true, Bool.false_eq_true, if_false, List.nil_append, List.cons_append, List.append_nil, alc_eq, mkm_eq, nNew, nPut, bNew, bPut, nGrd, bGrd, sh_58, hx, e2]
/-- A copy of numbers behind nothing. -/
theorem app_dat {H : AHeap} (l : List Int) (h : l.length < 1000000000) : app 3 1 8 zN (dat l) H = some (if l = [] then (zN, H) else (.sl H.next 0 0 1 l.length l.length false, H.new (.blk 0 3 (l.map I)))) := by
  by_cases h0 : l = []
  · subst h0
    simp only [dat, vsl_nil, if_true]
    rfl
  · rw [if_neg h0]
    exact app_nil (dat_is _ l) (ints_all l) (fun e => h0 (List.eq_nil_of_length_eq_zero e)) (by unfold most; omega) (by unfold most; omega)
/-- Such a copy, frozen. -/
theorem freeze_dat {H : AHeap} {s d r : Nat} {l : List Int} (hl : l ≠ []) (hr : s ≤ r) {ty : TypeId} (hg : H.get r = .blk 0 ty (l.map I)) {ex : Bool} : freezeA H s (d + 2) (.sl r 0 0 1 l.length l.length ex) = some (dat l) := by
  rw [dat_eq hl]
  refine freeze_sl hr (cells := l.map I) ?_ (freeze_all _ fun x hx => frz_ints _ x hx _ _)
  simp only [sliceCells, hg]
  rw [if_pos ⟨trivial, by simp⟩, List.drop_zero, List.take_of_length_le (by simp)]
theorem nodeDeal (G : Good b H g) {a : Nat → Nat} {c : Cfg} {me : Int} {d : Deal} {num : Int} (h : g q = some (nodeO a c me d num)) (hd : d.data.length < 1000000000) :
    cl 45 [.ref q 0 0] H = some (.tup [.agg (if d.step = 0 then Deal.zero else d).av, B (!decide (d.step = 0))], H) := by
  have zd : Deal.zero.av = [zI, zI, zI, zI, zI, zI, zN, zI, zI] := by simp [Deal.zero, Deal.av, dat, vsl_nil]
  have G1 := G.guard.new (.blk 0 87 [zI, zI, zI, zI, zI, zI, zN, zI, zI])
  have e1 := G1.load h (i := 15) (x := I d.step) rfl
  have ez : bd 87 [] = some (.agg [zI, zI, zI, zI, zI, zI, zN, zI, zI]) := by simp -implicitDefEqProofs only [bnd_some, bo_some, condK_true, condK_false, gdA_undef, decide_true, decide_false, Int.reduceLE, Int.reduceLT, Int.reduceEq, Int.reduceNeg, Int.reduceAdd, gd_tt, gd_tf, gd_ft, gd_ff, unG_pure, lift_some, bnd_lift, Option.map_some, Option.bind_some, fieldPtr_ref, fieldPtr_ip, nil_ref, nil_ip, nil_fn, ex_tup, fl_agg, List.getElem?_cons_zero, List.getElem?_cons_succ, Nat.zero_add, Nat.add_zero, Nat.reduceAdd, pk_t, pk_f, lss_int, leq_int, gtr_int, geq_int, eql_int, neq_int, not_bool, beq_self_eq_true, if_true, Bool.false_eq_true, if_false, List.nil_append, List.cons_append, List.append_nil, alc_eq, mkm_eq, nNew, nPut, bNew, bPut, nGrd, bGrd, bd_87, bldA, fillA]
  by_cases h0 : d.step = 0
  · refine pure_val rfl rfl (rn_45 _ _ _) ?_ ?_
    · simp -implicitDefEqProofs only [bnd_some, bo_some, condK_true, condK_false, gdA_undef, decide_true, decide_false, Int.reduceLE, Int.reduceLT, Int.reduceEq, Int.reduceNeg, Int.reduceAdd, gd_tt, gd_tf, gd_ft, gd_ff, unG_pure, lift_some, bnd_lift, Option.map_some, Option.bind_some, fieldPtr_ref, fieldPtr_ip, nil_ref, nil_ip, nil_fn, ex_tup, fl_agg, List.getElem?_cons_zero, List.getElem?_cons_succ, Nat.zero_add, Nat.add_zero, Nat.reduceAdd, pk_t, pk_f, lss_int, leq_int, gtr_int, geq_int, eql_int, neq_int, not_bool, beq_self_eq_true, if_true, Bool.false_eq_true, if_false, List.nil_append, List.cons_append, List.append_nil, alc_eq, mkm_eq, nNew, nPut, bNew, bPut, nGrd, bGrd, ldN_is, ldN_lt, ldaN_is, ldaN_lt, stN_is, stN_lt, Nat.lt_add_one, ne_eq, nx1, nx2, nx3, ny1, ny2, ny3, not_false_eq_true, List.length_cons, List.length_nil, Nat.reduceLeDiff, setAt, List.take_succ_cons, List.take_zero, List.drop_succ_cons, List.drop_zero, cells_dat, cells_int, cells_bool, cells_agg, List.all_cons, List.all_nil, isCell_int, isCell_bool, isCell_dat, isCell_ref, isCell_nil, isCell_vsl, cells_vsl, av_len_cfg, av_len_pkt, av_len_opn, av_len_evn, av_len_ent, av_len_row, av_len_deal, av_len_pck, tk_cfg, tk_pkt, tk_opn, tk_evn, tk_ent, tk_row, tk_deal, tk_pck, all_cfg, all_pkt, all_opn, all_evn, all_ent, all_row, all_deal, all_pck, List.drop_nil, Bool.and_true, Bool.and_self, and_self, Nat.le_refl, true_and, and_true, Nat.le_add_right, leS, ltS, sh_45, e1, h0, ez, zd, Bool.not_true]
    · rw [if_pos h0, zd]
      refine frz_tup fun x hx => ?_
      simp only [List.mem_cons, List.not_mem_nil, or_false] at hx
      rcases hx with rfl | rfl
      · refine frz_agg fun x hx => ?_
        simp only [List.mem_cons, List.not_mem_nil, or_false] at hx
        rcases hx with rfl | rfl | rfl | rfl | rfl | rfl | rfl | rfl | rfl <;> exact frz_s
      · exact frz_s
  · have e2 := G1.loads h (i := 12) (n := 9) (xs := d.av) rfl rfl (by decide)
    by_cases hl : d.data = []
    · refine pure_val rfl rfl (rn_45 _ _ _) (v := .tup [.agg d.av, B true]) ?_ ?_ |>.trans ?_
      · have e3 := fun H => app_dat (H := H) d.data hd
        have hz : dat ([] : List Int) = zN := by simp [dat, vsl_nil]
        simp only [hl, if_true, hz] at e3
        have zc : zN.cells = [zN] := rfl
        simp -implicitDefEqProofs only [bnd_some, bo_some, condK_true, condK_false, gdA_undef, decide_true, decide_false, Int.reduceLE, Int.reduceLT, Int.reduceEq, Int.reduceNeg, Int.reduceAdd, gd_tt, gd_tf, gd_ft, gd_ff, unG_pure, lift_some, bnd_lift, Option.map_some, Option.bind_some, fieldPtr_ref, fieldPtr_ip, nil_ref, nil_ip, nil_fn, ex_tup, fl_agg, List.getElem?_cons_zero, List.getElem?_cons_succ, Nat.zero_add, Nat.add_zero, Nat.reduceAdd, pk_t, pk_f, lss_int, leq_int, gtr_int, geq_int, eql_int, neq_int, not_bool, beq_self_eq_true, if_true, Bool.false_eq_true, if_false, List.nil_append, List.cons_append, List.append_nil, alc_eq, mkm_eq, nNew, nPut, bNew, bPut, nGrd, bGrd, ldN_is, ldN_lt, ldaN_is, ldaN_lt, stN_is, stN_lt, Nat.lt_add_one, ne_eq, nx1, nx2, nx3, ny1, ny2, ny3, not_false_eq_true, List.length_cons, List.length_nil, Nat.reduceLeDiff, setAt, List.take_succ_cons, List.take_zero, List.drop_succ_cons, List.drop_zero, cells_dat, cells_int, cells_bool, cells_agg, List.all_cons, List.all_nil, isCell_int, isCell_bool, isCell_dat, isCell_ref, isCell_nil, isCell_vsl, cells_vsl, av_len_cfg, av_len_pkt, av_len_opn, av_len_evn, av_len_ent, av_len_row, av_len_deal, av_len_pck, tk_cfg, tk_pkt, tk_opn, tk_evn, tk_ent, tk_row, tk_deal, tk_pck, all_cfg, all_pkt, all_opn, all_evn, all_ent, all_row, all_deal, all_pck, List.drop_nil, Bool.and_true, Bool.and_self, and_self, Nat.le_refl, true_and, and_true, Nat.le_add_right, leS, ltS, sh_45, e1, h0, e2, Deal.av, hl, e3, hz, zc]
      · refine frz_tup fun x hx => ?_
        simp only [List.mem_cons, List.not_mem_nil, or_false] at hx
        rcases hx with rfl | rfl
        · refine frz_agg fun x hx => ?_
          simp only [Deal.av, List.mem_cons, List.not_mem_nil, or_false] at hx
          rcases hx with rfl | rfl | rfl | rfl | rfl | rfl | rfl | rfl | rfl <;> first | exact frz_s | exact frz_dat
        · exact frz_s
      · simp only [h0, if_false, decide_false, Bool.not_false]
    · let Hr := H.next + 2
      have e3 := fun H => app_dat (H := H) d.data hd
      simp only [hl, if_false] at e3
      have key : ∃ Hz, sh_45 cl (.ref q 0 0) H.guard = some (.tup [.agg [I d.kind, I d.line, I d.id, I d.step, I d.state, I d.head, .sl (H.next + 2) 0 0 1 d.data.length d.data.length false, I d.next, I d.told], B true], Hz) ∧ Hz.get (H.next + 2) = .blk 0 3 (d.data.map I) := by
        have cs : ∀ r n m, (AV.sl r 0 0 1 n m false).cells = [.sl r 0 0 1 n m false] := fun _ _ _ => rfl
        have ic : ∀ r n m, AV.isCell (.sl r 0 0 1 n m false) = true := fun _ _ _ => rfl
        simp -implicitDefEqProofs only [bnd_some, bo_some, condK_true, condK_false, gdA_undef, decide_true, decide_false, Int.reduceLE, Int.reduceLT, Int.reduceEq, Int.reduceNeg, Int.reduceAdd, gd_tt, gd_tf, gd_ft, gd_ff, unG_pure, lift_some, bnd_lift, Option.map_some, Option.bind_some, fieldPtr_ref, fieldPtr_ip, nil_ref, nil_ip, nil_fn, ex_tup, fl_agg, List.getElem?_cons_zero, List.getElem?_cons_succ, Nat.zero_add, Nat.add_zero, Nat.reduceAdd, pk_t, pk_f, lss_int, leq_int, gtr_int, geq_int, eql_int, neq_int, not_bool, beq_self_eq_true, if_true, Bool.false_eq_true, if_false, List.nil_append, List.cons_append, List.append_nil, alc_eq, mkm_eq, nNew, nPut, bNew, bPut, nGrd, bGrd, ldN_is, ldN_lt, ldaN_is, ldaN_lt, stN_is, stN_lt, Nat.lt_add_one, ne_eq, nx1, nx2, nx3, ny1, ny2, ny3, not_false_eq_true, List.length_cons, List.length_nil, Nat.reduceLeDiff, setAt, List.take_succ_cons, List.take_zero, List.drop_succ_cons, List.drop_zero, cells_dat, cells_int, cells_bool, cells_agg, List.all_cons, List.all_nil, isCell_int, isCell_bool, isCell_dat, isCell_ref, isCell_nil, isCell_vsl, cells_vsl, av_len_cfg, av_len_pkt, av_len_opn, av_len_evn, av_len_ent, av_len_row, av_len_deal, av_len_pck, tk_cfg, tk_pkt, tk_opn, tk_evn, tk_ent, tk_row, tk_deal, tk_pck, all_cfg, all_pkt, all_opn, all_evn, all_ent, all_row, all_deal, all_pck, List.drop_nil, Bool.and_true, Bool.and_self, and_self, Nat.le_refl, true_and, and_true, Nat.le_add_right, leS, ltS, Option.some.injEq, Prod.mk.injEq, true_and, and_assoc, exists_eq_left', exists_eq_left, sh_45, e1, h0, e2, Deal.av, e3, cs, ic]
        exact getNew_is (by simp only [nNew, nGrd])
      obtain ⟨Hz, k1, k2⟩ := key
      refine pure_cl rfl rfl (rn_45 _ _ _ k1) ?_
      have f := freeze_dat (s := H.next) (d := 5) (ex := false) hl (by omega) k2
      have f' : ∀ v, freezeA Hz H.next 7 (.s v) = some (.s v) := fun v => freeze_s
      have f'' : ∀ v, freezeA Hz H.next 8 (.s v) = some (.s v) := fun v => freeze_s
      rw [freezeA, List.mapM_cons, freezeA]
      simp only [List.mapM_cons, List.mapM_nil, f, f', f'', h0, if_false, decide_false, Bool.not_false, Deal.av]
      rfl
end

end Go.Proofs.YtmhbgbiaajbhnaaGreat

namespace Go.Proofs.YtmhbgbiaajbhnaaGreat

section
variable {b : Nat} {H : AHeap} {g : Store} {q f : Nat} {P : Nat → Nat → Nat} {c : Cfg} {fab : Fab}
/-- An element of a slice of one's own: its place, and what is there. -/
theorem Cur.elemAt {i m n : Nat} {x : AV} {l : List AV} (cu : Cur b H q i x m l) (hm : 0 < m) (hl : l.length = n * m) {j : Nat} (hj : j < n) :
    ∃ r gg o, (∀ k : IntKind, ix m x (.s (.int k j)) H = some (.ref r gg o, H)) ∧ (∀ k, k < m → ld (.ref r gg (o + k)) H = (l[j * m + k]?).map fun v => (v, H)) ∧ lda m (.ref r gg o) H = some (.agg ((l.drop (j * m)).take m), H) := by
  have hs := cu.is hm hl
  have hjm : (j + 1) * m ≤ n * m := Nat.mul_le_mul_right _ (by omega)
  rw [Nat.add_mul, Nat.one_mul] at hjm
  rcases cu.length hm hl with ⟨_, h0⟩ | ⟨r, gg, off, cap, ex, ty, all, rfl, k1, k2, k3, k4, k5, k6, k7, k8⟩
  · omega
  have hcm : n * m ≤ cap * m := Nat.mul_le_mul_right _ k4
  refine ⟨r, gg, off + j * m, fun k => ?_, fun k hk => ?_, ?_⟩
  · have := hs.ix (k := k) (i := (j : Int)) (by omega) (by omega)
    rw [Int.toNat_natCast] at this
    exact this
  · rw [ld_blk k5, k8, List.getElem?_take, if_pos (by omega), List.getElem?_drop, Nat.add_assoc]
  · rw [lda_blk k5 (by omega), k8]
    congr 3
    rw [List.drop_take, List.drop_drop, List.take_take, Nat.min_eq_left (by omega)]
theorem flat_elem {α : Type} {enc : α → List AV} {m : Nat} (he : ∀ a, (enc a).length = m) (l : List α) (i : Nat) (a : α) (hi : l[i]? = some a) {k : Nat} (hk : k < m) : (l.flatMap enc)[i * m + k]? = (enc a)[k]? := by
  have := flat_get he l i a hi
  rw [← this, List.getElem?_take, if_pos hk, List.getElem?_drop]
theorem fabIs_sp (G : Good b H g) (F : FabIs g f P c fab) (hn : fab.l.length < 1000) (i : Int) : cl 57 [.ref f 0 0, I i] H = some (B (fab.is i), H) := by
  refine run_cl rfl rfl (rn_57 _ _ _ _ ?_)
  obtain ⟨x, hx, cu⟩ := G.seq F.1 (i := 0) rfl
  have e2 := (cu.is (by decide) (fabO_len P _)).lnS
  by_cases h0 : 0 ≤ i
  · simp -implicitDefEqProofs only [bnd_some, bo_some, condK_true, condK_false, gdA_undef, decide_true, decide_false, Int.reduceLE, Int.reduceLT, Int.reduceEq, Int.reduceNeg, Int.reduceAdd, gd_tt, gd_tf, gd_ft, gd_ff, unG_pure, lift_some, bnd_lift, Option.map_some, Option.bind_some, fieldPtr_ref, fieldPtr_ip, nil_ref, nil_ip, nil_fn, ex_tup, fl_agg, List.getElem?_cons_zero, List.getElem?_cons_succ, Nat.zero_add, Nat.add_zero, Nat.reduceAdd, pk_t, pk_f, lss_int, leq_int, gtr_int, geq_int, eql_int, neq_int, not_bool, beq_self_eq_true, if_true, Bool.false_eq_true, if_false, List.nil_append, List.cons_append, List.append_nil, alc_eq, mkm_eq, nNew, nPut, bNew, bPut, nGrd, bGrd, sh_57, h0, hx, e2, Fab.is, Bool.true_and]
  · simp -implicitDefEqProofs only [bnd_some, bo_some, condK_true, condK_false, gdA_undef, decide_true, decide_false, Int.reduceLE, Int.reduceLT, Int.reduceEq, Int.reduceNeg, Int.reduceAdd, gd_tt, gd_tf, gd_ft, gd_ff, unG_pure, lift_some, bnd_lift, Option.map_some, Option.bind_some, fieldPtr_ref, fieldPtr_ip, nil_ref, nil_ip, nil_fn, ex_tup, fl_agg, List.getElem?_cons_zero, List.getElem?_cons_succ, Nat.zero_add, Nat.add_zero, Nat.reduceAdd, pk_t, pk_f, lss_int, leq_int, gtr_int, geq_int, eql_int, neq_int, not_bool, beq_self_eq_true, if_true, Bool.false_eq_true, if_false, List.nil_append, List.cons_append, List.append_nil, alc_eq, mkm_eq, nNew, nPut, bNew, bPut, nGrd, bGrd, sh_57, h0, Fab.is, Bool.false_and]
theorem FabIs.port (F : FabIs g f P c fab) {i : Nat} (hi : i < fab.l.length) : PortIs g (P i) c (fab.port i) := by
  have := F.2.1 i (fab.l[i]) (List.getElem?_eq_getElem hi)
  unfold Fab.port
  rw [Int.toNat_natCast, List.getD_eq_getElem?_getD, List.getElem?_eq_getElem hi]
  exact this
theorem waiting_sp (G : Good b H g) (F : FabIs g f P c fab) (hn : fab.l.length < 1000) (i : Int) :
    cl 46 [.ref f 0 0, I i] H = some (.tup [I (fab.waiting i true), I (fab.waiting i false)], H) := by
  refine run_cl rfl rfl (rn_46 _ _ _ _ ?_)
  have e1 := fabIs_sp G F hn i
  cases hi : fab.is i with
  | false =>
    rw [hi] at e1
    simp -implicitDefEqProofs only [bnd_some, bo_some, condK_true, condK_false, gdA_undef, decide_true, decide_false, Int.reduceLE, Int.reduceLT, Int.reduceEq, Int.reduceNeg, Int.reduceAdd, gd_tt, gd_tf, gd_ft, gd_ff, unG_pure, lift_some, bnd_lift, Option.map_some, Option.bind_some, fieldPtr_ref, fieldPtr_ip, nil_ref, nil_ip, nil_fn, ex_tup, fl_agg, List.getElem?_cons_zero, List.getElem?_cons_succ, Nat.zero_add, Nat.add_zero, Nat.reduceAdd, pk_t, pk_f, lss_int, leq_int, gtr_int, geq_int, eql_int, neq_int, not_bool, beq_self_eq_true, if_true, Bool.false_eq_true, if_false, List.nil_append, List.cons_append, List.append_nil, alc_eq, mkm_eq, nNew, nPut, bNew, bPut, nGrd, bGrd, sh_46, e1, Bool.not_false, Fab.waiting, hi]
    rfl
  | true =>
    rw [hi] at e1
    simp only [Fab.is, Bool.and_eq_true, decide_eq_true_eq] at hi
    obtain ⟨n, rfl⟩ : ∃ n : Nat, i = n := ⟨i.toNat, by omega⟩
    have hl : n < fab.l.length := by omega
    obtain ⟨x, hx, cu⟩ := G.seq F.1 (i := 0) rfl
    obtain ⟨r, gg, o, a1, a2, _⟩ := cu.elemAt (by decide) (fabO_len P _) hl
    have hr : (List.range fab.l.length)[n]? = some n := List.getElem?_range hl
    have l1 := a2 1 (by decide)
    rw [flat_elem (m := 4) (fun _ => rfl) _ n n hr (by decide)] at l1
    have l3 := a2 3 (by decide)
    rw [flat_elem (m := 4) (fun _ => rfl) _ n n hr (by decide)] at l3
    have hp := F.port hl
    have q1 := queueLen G.guard hp.2.1
    have q3 := queueLen G hp.2.2.2
    have l1' : ld (.ref r gg (o + 1)) H = some (.ref (P n 1) 0 0, H) := l1
    have l3' : ld (.ref r gg (o + 2 + 1)) H = some (.ref (P n 3) 0 0, H) := l3
    have a1' := a1 .i64
    have w : ∀ req, fab.waiting n req = ((fab.port n).inOf req).length := fun req => by
      unfold Fab.waiting
      rw [if_pos (by simp only [Fab.is, Bool.and_eq_true, decide_eq_true_eq]; omega)]
    simp -implicitDefEqProofs only [bnd_some, bo_some, condK_true, condK_false, gdA_undef, decide_true, decide_false, Int.reduceLE, Int.reduceLT, Int.reduceEq, Int.reduceNeg, Int.reduceAdd, gd_tt, gd_tf, gd_ft, gd_ff, unG_pure, lift_some, bnd_lift, Option.map_some, Option.bind_some, fieldPtr_ref, fieldPtr_ip, nil_ref, nil_ip, nil_fn, ex_tup, fl_agg, List.getElem?_cons_zero, List.getElem?_cons_succ, Nat.zero_add, Nat.add_zero, Nat.reduceAdd, pk_t, pk_f, lss_int, leq_int, gtr_int, geq_int, eql_int, neq_int, not_bool, beq_self_eq_true, if_true, Bool.false_eq_true, if_false, List.nil_append, List.cons_append, List.append_nil, alc_eq, mkm_eq, nNew, nPut, bNew, bPut, nGrd, bGrd, sh_46, e1, Bool.not_true, hx, a1', l1', l3', q1, q3, w, Port.inOf]
end

end Go.Proofs.YtmhbgbiaajbhnaaGreat

namespace Go.Proofs.YtmhbgbiaajbhnaaGreat

section
variable {b : Nat} {H : AHeap} {g : Store} {q f : Nat} {P : Nat → Nat → Nat} {c : Cfg} {fab : Fab}
theorem bsl_two {e : TypeId} {H : AHeap} {a b c d : Nat} : bsl e 2 [zP, zP] 2 [(0, .agg [.ref a 0 0, .ref b 0 0]), (1, .agg [.ref c 0 0, .ref d 0 0])] H = some (.sl H.next 0 0 2 2 2 true, H.new (.blk 0 e [.ref a 0 0, .ref b 0 0, .ref c 0 0, .ref d 0 0])) := rfl
def poolsX (P : Nat → Nat → Nat) (n : Nat) : List AV := (List.range n).flatMap fun i => portX (P i)
theorem FabIs.lt (G : Good b H g) (F : FabIs g f P c fab) {i s : Nat} (hi : i < fab.l.length) (hs : s < 4) : P i s < H.next := by
  obtain ⟨l, r, h⟩ := (F.port hi).some hs
  exact G.lt h
theorem pools_sp (G : Good b H g) (F : FabIs g f P c fab) (hn : fab.l.length < 1000) (h0 : fab.l.length ≠ 0) :
    cl 52 [.ref f 0 0] H = some (.vs (2 * fab.l.length) 2 (poolsX P fab.l.length), H) := by
  obtain ⟨x, hx, cu⟩ := G.guard.seq F.1 (i := 0) rfl
  have e2 := (cu.is (by decide) (fabO_len P _)).lnS
  have hfr : ∀ d, ∀ y ∈ poolsX P fab.l.length, ∀ Hz, freezeA Hz H.next (d + 1) y = some y := fun d y hy Hz => by
    obtain ⟨i, hi, hy⟩ := List.mem_flatMap.1 hy
    have hi := List.mem_range.1 hi
    simp only [portX, List.mem_cons, List.not_mem_nil, or_false] at hy
    rcases hy with rfl | rfl | rfl | rfl <;> · rw [freezeA]; exact if_pos (F.lt G hi (by omega))
  have key : ∀ k i, i + k = fab.l.length → ∀ Hi t, Own H.next Hi t 2 (poolsX P i) → Step H.next H.guard Hi →
      ∃ v Hz, lp_52x0 cl [t, x, I fab.l.length, I i] Hi = some (v, Hz) ∧ Own H.next Hz v 2 (poolsX P fab.l.length) := by
    intro k
    induction k with
    | zero =>
      intro i hi Hi t o s
      have h1 : ¬ (i : Int) < fab.l.length := by omega
      rw [le_52x0]
      refine ⟨t, Hi, ?_, by rw [show fab.l.length = i by omega]; exact o⟩
      simp -implicitDefEqProofs only [bnd_some, bo_some, condK_true, condK_false, gdA_undef, decide_true, decide_false, Int.reduceLE, Int.reduceLT, Int.reduceEq, Int.reduceNeg, Int.reduceAdd, gd_tt, gd_tf, gd_ft, gd_ff, unG_pure, lift_some, bnd_lift, Option.map_some, Option.bind_some, fieldPtr_ref, fieldPtr_ip, nil_ref, nil_ip, nil_fn, ex_tup, fl_agg, List.getElem?_cons_zero, List.getElem?_cons_succ, Nat.zero_add, Nat.add_zero, Nat.reduceAdd, pk_t, pk_f, lss_int, leq_int, gtr_int, geq_int, eql_int, neq_int, not_bool, beq_self_eq_true, if_true, Bool.false_eq_true, if_false, List.nil_append, List.cons_append, List.append_nil, alc_eq, mkm_eq, nNew, nPut, bNew, bPut, nGrd, bGrd, h1]
    | succ k ih =>
      intro i hi Hi t o s
      have h1 : (i : Int) < fab.l.length := by omega
      have h6 : (i : Int) + 1 = ((i + 1 : Nat) : Int) := by omega
      have h7 := wrap_i64 (a := ((i + 1 : Nat) : Int)) (by omega) (by omega)
      obtain ⟨r, gg, off, a1, _, a3⟩ := (cu.ext s.next s.low).elemAt (by decide) (fabO_len P _) (j := i) (by omega)
      have a1 := a1 .i64
      rw [flat_get (m := 4) (fun _ => rfl) _ i i (List.getElem?_range (by omega))] at a3
      let H1 := Hi.new (.blk 0 74 (portX (P i)))
      have hpl : (poolsX P i).length = (2 * i) * 2 := by
        rw [poolsX, fabO_len]; omega
      have sb : Hi.base = H.next := s.base
      have sn : H.next ≤ Hi.next := s.next
      obtain ⟨v', Hj, t1, t2, t3⟩ := ((o.new (.blk 0 74 (portX (P i)))).new (.blk 0 72 (portX (P i)))).step (e := 72) (by_ := 16) (by simp only [nNew]; omega) (by simp only [bNew]; omega) (by decide) hpl (sl_new (ex := true) (n := 2) (m := 2) (l := portX (P i)) rfl) rfl (by unfold most; omega) (by unfold most; omega)
      have hs : poolsX P (i + 1) = poolsX P i ++ portX (P i) := by
        simp only [poolsX]
        rw [List.range_succ, List.flatMap_append, List.flatMap_cons, List.flatMap_nil, List.append_nil]
      rw [← hs] at t2
      obtain ⟨v, Hz, r1, r2⟩ := ih (i + 1) (by omega) Hj v' t2 ((s.trans ((Step.new _ (by omega)).trans (Step.new _ (by simp only [nNew]; omega)))).trans t3)
      refine ⟨v, Hz, ?_, r2⟩
      rw [le_52x0]
      have ca : ∀ a b c d, (AV.agg [.ref a 0 0, .ref b 0 0, .ref c 0 0, .ref d 0 0]).cells = [.ref a 0 0, .ref b 0 0, .ref c 0 0, .ref d 0 0] := fun _ _ _ _ => rfl
      have hbase : Hi.base ≤ Hi.next := by omega
      simp only [portX, nNew] at a3 t1
      simp -implicitDefEqProofs only [bnd_some, bo_some, condK_true, condK_false, gdA_undef, decide_true, decide_false, Int.reduceLE, Int.reduceLT, Int.reduceEq, Int.reduceNeg, Int.reduceAdd, gd_tt, gd_tf, gd_ft, gd_ff, unG_pure, lift_some, bnd_lift, Option.map_some, Option.bind_some, fieldPtr_ref, fieldPtr_ip, nil_ref, nil_ip, nil_fn, ex_tup, fl_agg, List.getElem?_cons_zero, List.getElem?_cons_succ, Nat.zero_add, Nat.add_zero, Nat.reduceAdd, pk_t, pk_f, lss_int, leq_int, gtr_int, geq_int, eql_int, neq_int, not_bool, beq_self_eq_true, if_true, Bool.false_eq_true, if_false, List.nil_append, List.cons_append, List.append_nil, alc_eq, mkm_eq, nNew, nPut, bNew, bPut, nGrd, bGrd, ldN_is, ldN_lt, ldaN_is, ldaN_lt, stN_is, stN_lt, Nat.lt_add_one, ne_eq, nx1, nx2, nx3, ny1, ny2, ny3, not_false_eq_true, List.length_cons, List.length_nil, Nat.reduceLeDiff, setAt, List.take_succ_cons, List.take_zero, List.drop_succ_cons, List.drop_zero, cells_dat, cells_int, cells_bool, cells_agg, List.all_cons, List.all_nil, isCell_int, isCell_bool, isCell_dat, isCell_ref, isCell_nil, isCell_vsl, cells_vsl, av_len_cfg, av_len_pkt, av_len_opn, av_len_evn, av_len_ent, av_len_row, av_len_deal, av_len_pck, tk_cfg, tk_pkt, tk_opn, tk_evn, tk_ent, tk_row, tk_deal, tk_pck, all_cfg, all_pkt, all_opn, all_evn, all_ent, all_row, all_deal, all_pck, List.drop_nil, Bool.and_true, Bool.and_self, and_self, Nat.le_refl, true_and, and_true, Nat.le_add_right, leS, ltS, h1, a1, a3, hbase, bs_124, Nat.reduceMul, bsl_two, t1, add_int, h6, h7, r1]
  obtain ⟨v, Hz, r1, r2⟩ := key fab.l.length 0 (by omega) H.guard zN (.inl ⟨rfl, rfl⟩) (Step.refl _ _)
  refine pure_cl rfl rfl (rn_52 _ _ _ (r := (v, Hz)) ?_) ?_
  · simp -implicitDefEqProofs only [bnd_some, bo_some, condK_true, condK_false, gdA_undef, decide_true, decide_false, Int.reduceLE, Int.reduceLT, Int.reduceEq, Int.reduceNeg, Int.reduceAdd, gd_tt, gd_tf, gd_ft, gd_ff, unG_pure, lift_some, bnd_lift, Option.map_some, Option.bind_some, fieldPtr_ref, fieldPtr_ip, nil_ref, nil_ip, nil_fn, ex_tup, fl_agg, List.getElem?_cons_zero, List.getElem?_cons_succ, Nat.zero_add, Nat.add_zero, Nat.reduceAdd, pk_t, pk_f, lss_int, leq_int, gtr_int, geq_int, eql_int, neq_int, not_bool, beq_self_eq_true, if_true, Bool.false_eq_true, if_false, List.nil_append, List.cons_append, List.append_nil, alc_eq, mkm_eq, nNew, nPut, bNew, bPut, nGrd, bGrd, sh_52, hx, e2]
    exact r1
  · have hpl : (poolsX P fab.l.length).length = (2 * fab.l.length) * 2 := by
      rw [poolsX, fabO_len]; omega
    have hs := r2.is (by decide) hpl
    obtain ⟨c1, c2⟩ := hs.cells_
    rcases r2 with ⟨rfl, e⟩ | ⟨r, gg, off, n', cap, ex, ty, all, rfl, k2, k3, k4, k5, k6, k7, k8⟩
    · rw [e] at hpl
      simp only [List.length_nil] at hpl
      omega
    · have hn' : n' = 2 * fab.l.length := by
        have := hs.2.2.1
        exact this
      subst hn'
      exact freeze_sl k2 c2 (freeze_all _ fun y hy => hfr _ y hy _)
theorem two_get {α β : Type} {u v : α → β} : ∀ (l : List α) (i : Nat), (l.flatMap fun p => [u p, v p])[2 * i]? = l[i]?.map u ∧ (l.flatMap fun p => [u p, v p])[2 * i + 1]? = l[i]?.map v
  | [], i => by simp
  | a :: l, 0 => by simp
  | a :: l, i + 1 => by
    have := two_get (u := u) (v := v) l i
    rw [show 2 * (i + 1) = 2 * i + 1 + 1 by omega]
    simpa using this
theorem FabIs.poolAt (F : FabIs g f P c fab) {j : Nat} (hj : j < 2 * fab.l.length) :
    ∃ l a a', fab.pools[j]? = some l ∧ ((poolsX P fab.l.length).drop (j * 2)).take 2 = [.ref a 0 0, .ref a' 0 0] ∧ g a = some (boxO l c.out) := by
  have hi : j / 2 < fab.l.length := by omega
  have hp := F.port hi
  have hg : fab.l[j / 2]? = some (fab.port (j / 2 : Nat)) := by
    unfold Fab.port
    rw [Int.toNat_natCast, List.getD_eq_getElem?_getD, List.getElem?_eq_getElem hi]; rfl
  have hfl := flat_get (m := 4) (enc := fun i => portX (P i)) (fun _ => rfl) (List.range fab.l.length) (j / 2) (j / 2) (List.getElem?_range hi)
  have h2 := two_get (u := Port.rq) (v := Port.an) fab.l (j / 2)
  rw [hg] at h2
  rcases Nat.mod_two_eq_zero_or_one j with h | h
  · refine ⟨_, P (j / 2) 0, P (j / 2) 1, ?_, ?_, hp.1⟩
    · have := h2.1
      rw [show 2 * (j / 2) = j by omega] at this
      exact this
    · have e : ((poolsX P fab.l.length).drop (j * 2)).take 2 = (((poolsX P fab.l.length).drop (j / 2 * 4)).take 4).take 2 := by
        rw [List.take_take, show j / 2 * 4 = j * 2 by omega]; rfl
      rw [e]
      exact (congrArg (List.take 2) hfl).trans rfl
  · refine ⟨_, P (j / 2) 2, P (j / 2) 3, ?_, ?_, hp.2.2.1⟩
    · have := h2.2
      rw [show 2 * (j / 2) + 1 = j by omega] at this
      exact this
    · have e : ((poolsX P fab.l.length).drop (j * 2)).take 2 = ((((poolsX P fab.l.length).drop (j / 2 * 4)).take 4).drop 2).take 2 := by
        rw [List.drop_take, List.drop_drop, List.take_take, show j / 2 * 4 + 2 = j * 2 by omega]; rfl
      rw [e]
      exact (congrArg (fun l => (List.drop 2 l).take 2) hfl).trans rfl
end

end Go.Proofs.YtmhbgbiaajbhnaaGreat

namespace Go.Proofs.YtmhbgbiaajbhnaaGreat

section
variable {b : Nat} {H : AHeap} {g : Store} {q f : Nat} {P : Nat → Nat → Nat} {c : Cfg} {fab : Fab}
theorem sum_take {ls : List (List Pkt)} {j : Nat} {l : List Pkt} (h : ls[j]? = some l) : ((ls.take (j + 1)).map List.length).sum = ((ls.take j).map List.length).sum + l.length := by
  rw [List.take_succ, h]
  simp
theorem pools_len : ∀ l : List Port, ((l.flatMap fun p => [p.rq, p.an]).map List.length).sum = (l.flatMap fun p => p.rq ++ p.an).length
  | [] => rfl
  | p :: l => by
    have := pools_len l
    simp only [List.flatMap_cons, List.map_append, List.sum_append, List.length_append, this]
    simp
theorem pools_count : ∀ l : List Port, (l.flatMap fun p => [p.rq, p.an]).length = 2 * l.length
  | [] => rfl
  | p :: l => by
    have := pools_count l
    simp only [List.flatMap_cons, List.length_append, this, List.length_cons, List.length_nil]
    omega
theorem sum_le {ls : List (List Pkt)} {m : Nat} (h : ∀ l ∈ ls, l.length ≤ m) : (ls.map List.length).sum ≤ ls.length * m := by
  induction ls with
  | nil => simp
  | cons l ls ih =>
    have h1 := h l (by simp)
    have := ih fun l' hl' => h l' (by simp [hl'])
    simp only [List.map_cons, List.sum_cons, List.length_cons, Nat.add_mul, Nat.one_mul]
    omega
theorem under_sp (G : Good b H g) (F : FabIs g f P c fab) (hn : fab.l.length < 1000) (h0 : fab.l.length ≠ 0) (hr : ∀ l ∈ fab.pools, l.length < 1000) :
    cl 38 [.ref f 0 0] H = some (I fab.under, H) := by
  have e1 := pools_sp G.guard F hn h0
  have hpl : (poolsX P fab.l.length).length = (2 * fab.l.length) * 2 := by
    rw [poolsX, fabO_len]; omega
  have hsl : ∀ H, SliceIs H (.vs (2 * fab.l.length) 2 (poolsX P fab.l.length)) 2 (2 * fab.l.length) (poolsX P fab.l.length) := fun H => SliceIs.vs hpl
  have e2 := (hsl H.guard).lnS
  have hcnt : fab.pools.length = 2 * fab.l.length := pools_count fab.l
  have key : ∀ k j, j + k = 2 * fab.l.length → ∀ Hi, Step H.next H.guard Hi →
      ∃ Hz, lp_38x0 cl [I ((fab.pools.take j).map List.length).sum, .vs (2 * fab.l.length) 2 (poolsX P fab.l.length), I (2 * fab.l.length : Nat), I j] Hi = some (I fab.under, Hz) := by
    intro k
    induction k with
    | zero =>
      intro j hj Hi s
      have h1 : ¬ (j : Int) < (2 * fab.l.length : Nat) := by omega
      rw [le_38x0]
      refine ⟨Hi, ?_⟩
      have h2 : ((fab.pools.take j).map List.length).sum = fab.under := by
        rw [List.take_of_length_le (by omega)]
        exact pools_len fab.l
      simp -implicitDefEqProofs only [bnd_some, bo_some, condK_true, condK_false, gdA_undef, decide_true, decide_false, Int.reduceLE, Int.reduceLT, Int.reduceEq, Int.reduceNeg, Int.reduceAdd, gd_tt, gd_tf, gd_ft, gd_ff, unG_pure, lift_some, bnd_lift, Option.map_some, Option.bind_some, fieldPtr_ref, fieldPtr_ip, nil_ref, nil_ip, nil_fn, ex_tup, fl_agg, List.getElem?_cons_zero, List.getElem?_cons_succ, Nat.zero_add, Nat.add_zero, Nat.reduceAdd, pk_t, pk_f, lss_int, leq_int, gtr_int, geq_int, eql_int, neq_int, not_bool, beq_self_eq_true, if_true, Bool.false_eq_true, if_false, List.nil_append, List.cons_append, List.append_nil, alc_eq, mkm_eq, nNew, nPut, bNew, bPut, nGrd, bGrd, h1, h2]
    | succ k ih =>
      intro j hj Hi s
      have h1 : (j : Int) < (2 * fab.l.length : Nat) := by omega
      have h6 : (j : Int) + 1 = ((j + 1 : Nat) : Int) := by omega
      have h7 := wrap_i64 (a := ((j + 1 : Nat) : Int)) (by omega) (by omega)
      have a1 := (hsl Hi).ix (k := .i64) (i := (j : Int)) (by omega) h1
      rw [Int.toNat_natCast] at a1
      have a3 := (hsl Hi).lda (i := j) (by omega)
      obtain ⟨l, a, a', p1, p2, p3⟩ := F.poolAt (j := j) (by omega)
      rw [p2] at a3
      have hsn := sum_take p1
      have hln : ((fab.pools.take (j + 1)).map List.length).sum ≤ (fab.pools.take (j + 1)).length * 1000 := sum_le fun l hl => Nat.le_of_lt (hr l (List.mem_of_mem_take hl))
      have hlt : (fab.pools.take (j + 1)).length ≤ 2 * fab.l.length := by rw [List.length_take]; omega
      have h8 : ((((fab.pools.take j).map List.length).sum : Nat) : Int) + (l.length : Int) = ((((fab.pools.take (j + 1)).map List.length).sum : Nat) : Int) := by omega
      have h9 := wrap_i64 (a := ((((fab.pools.take (j + 1)).map List.length).sum : Nat) : Int)) (by omega) (by omega)
      have G1 : Good b (Hi.new (.blk 0 72 [.ref a 0 0, .ref a' 0 0])) g := (G.guard.ext s.next s.low).new _
      have e3 := poolLen G1 p3
      have hsn' : H.next ≤ Hi.next := s.next
      have sb : Hi.base = H.next := s.base
      have hbase : Hi.base ≤ Hi.next := by omega
      obtain ⟨Hz, r1⟩ := ih (j + 1) (by omega) _ (s.trans (Step.new (.blk 0 72 [.ref a 0 0, .ref a' 0 0]) hsn'))
      refine ⟨Hz, ?_⟩
      rw [le_38x0]
      simp -implicitDefEqProofs only [bnd_some, bo_some, condK_true, condK_false, gdA_undef, decide_true, decide_false, Int.reduceLE, Int.reduceLT, Int.reduceEq, Int.reduceNeg, Int.reduceAdd, gd_tt, gd_tf, gd_ft, gd_ff, unG_pure, lift_some, bnd_lift, Option.map_some, Option.bind_some, fieldPtr_ref, fieldPtr_ip, nil_ref, nil_ip, nil_fn, ex_tup, fl_agg, List.getElem?_cons_zero, List.getElem?_cons_succ, Nat.zero_add, Nat.add_zero, Nat.reduceAdd, pk_t, pk_f, lss_int, leq_int, gtr_int, geq_int, eql_int, neq_int, not_bool, beq_self_eq_true, if_true, Bool.false_eq_true, if_false, List.nil_append, List.cons_append, List.append_nil, alc_eq, mkm_eq, nNew, nPut, bNew, bPut, nGrd, bGrd, ldN_is, ldN_lt, ldaN_is, ldaN_lt, stN_is, stN_lt, Nat.lt_add_one, ne_eq, nx1, nx2, nx3, ny1, ny2, ny3, not_false_eq_true, List.length_cons, List.length_nil, Nat.reduceLeDiff, setAt, List.take_succ_cons, List.take_zero, List.drop_succ_cons, List.drop_zero, cells_dat, cells_int, cells_bool, cells_agg, List.all_cons, List.all_nil, isCell_int, isCell_bool, isCell_dat, isCell_ref, isCell_nil, isCell_vsl, cells_vsl, av_len_cfg, av_len_pkt, av_len_opn, av_len_evn, av_len_ent, av_len_row, av_len_deal, av_len_pck, tk_cfg, tk_pkt, tk_opn, tk_evn, tk_ent, tk_row, tk_deal, tk_pck, all_cfg, all_pkt, all_opn, all_evn, all_ent, all_row, all_deal, all_pck, List.drop_nil, Bool.and_true, Bool.and_self, and_self, Nat.le_refl, true_and, and_true, Nat.le_add_right, leS, ltS, h1, a1, a3, hbase, e3, add_int, h8, h9, h6, h7, r1]
  obtain ⟨Hz, r1⟩ := key (2 * fab.l.length) 0 (by omega) H.guard (Step.refl _ _)
  refine pure_cl rfl rfl (rn_38 _ _ _ (r := (I fab.under, Hz)) ?_) freeze_s
  simp -implicitDefEqProofs only [bnd_some, bo_some, condK_true, condK_false, gdA_undef, decide_true, decide_false, Int.reduceLE, Int.reduceLT, Int.reduceEq, Int.reduceNeg, Int.reduceAdd, gd_tt, gd_tf, gd_ft, gd_ff, unG_pure, lift_some, bnd_lift, Option.map_some, Option.bind_some, fieldPtr_ref, fieldPtr_ip, nil_ref, nil_ip, nil_fn, ex_tup, fl_agg, List.getElem?_cons_zero, List.getElem?_cons_succ, Nat.zero_add, Nat.add_zero, Nat.reduceAdd, pk_t, pk_f, lss_int, leq_int, gtr_int, geq_int, eql_int, neq_int, not_bool, beq_self_eq_true, if_true, Bool.false_eq_true, if_false, List.nil_append, List.cons_append, List.append_nil, alc_eq, mkm_eq, nNew, nPut, bNew, bPut, nGrd, bGrd, sh_38, e1, e2]
  exact r1
end
section
variable {b : Nat} {H : AHeap} {g : Store} {A : Adr} {m : Mach}
/-- What is true of a machine's sizes. -/
structure Mach.fine (m : Mach) : Prop where
  ok : m.c.ok = true
  nodes : (m.nodes.length : Int) = m.c.nodes
  fab : m.fab.l.length = m.nodes.length
  ops : ∀ n ∈ m.nodes, n.proc.ops.length < 1000 ∧ n.proc.values.length < 1000
  pools : ∀ l ∈ m.fab.pools, l.length < 1000
  deal : ∀ n ∈ m.nodes, n.deal.data.length < 1000000000
  ins : ∀ p ∈ m.fab.l, p.rin.length < 1000 ∧ p.ain.length < 1000
def Mach.left (m : Mach) : Int := (m.nodes.map fun n => n.proc.left).sum
theorem nodes_len (N : Nat → Nat → Nat) (n : Nat) : (nodesX N n).length = n * 1 := by simp [nodesX]
theorem nodes_get {N : Nat → Nat → Nat} {n i : Nat} (h : i < n) : (nodesX N n)[i]? = some (.ref (N i 0) 0 0) := by
  simp [nodesX, List.getElem?_range h]
theorem left_sp (G : Good b H g) (M : MachIs g A m) (hm : m.fine) : cl 34 [.ref A.mach 0 0] H = some (I m.left, H) := by
  have Bd := cfgB hm.ok
  refine run_cl rfl rfl (rn_34 _ _ _ ?_)
  obtain ⟨x, hx, cu⟩ := G.seq M.mach (i := 10) rfl
  have e2 := (cu.is (by decide) (nodes_len _ _)).lnS
  have hbd : ∀ j, j ≤ m.nodes.length → -(j * 1000 : Int) ≤ ((m.nodes.take j).map fun n => n.proc.left).sum ∧ ((m.nodes.take j).map fun n => n.proc.left).sum ≤ j * 1000 := by
    intro j
    induction j with
    | zero => intro _; simp
    | succ j ih =>
      intro hj
      have i1 := ih (by omega)
      have hg : m.nodes[j]? = some (m.nodes[j]'(by omega)) := List.getElem?_eq_getElem (by omega)
      have i2 := hm.ops _ (List.mem_of_getElem? hg)
      have i3 : -1000 ≤ (m.nodes[j]'(by omega)).proc.left ∧ (m.nodes[j]'(by omega)).proc.left ≤ 1000 := by
        unfold Proc.left
        omega
      rw [List.take_succ, hg]
      simp only [Option.toList_some, List.map_append, List.map_cons, List.map_nil, List.sum_append, List.sum_cons, List.sum_nil]
      omega
  have key : ∀ k j, j + k = m.nodes.length → lp_34x0 cl [I ((m.nodes.take j).map fun n => n.proc.left).sum, x, I m.nodes.length, I j] H = some (I m.left, H) := by
    intro k
    induction k with
    | zero =>
      intro j hj
      have h1 : ¬ (j : Int) < m.nodes.length := by omega
      rw [le_34x0]
      have h2 : ((m.nodes.take j).map fun n => n.proc.left).sum = m.left := by
        rw [List.take_of_length_le (by omega)]; rfl
      simp -implicitDefEqProofs only [bnd_some, bo_some, condK_true, condK_false, gdA_undef, decide_true, decide_false, Int.reduceLE, Int.reduceLT, Int.reduceEq, Int.reduceNeg, Int.reduceAdd, gd_tt, gd_tf, gd_ft, gd_ff, unG_pure, lift_some, bnd_lift, Option.map_some, Option.bind_some, fieldPtr_ref, fieldPtr_ip, nil_ref, nil_ip, nil_fn, ex_tup, fl_agg, List.getElem?_cons_zero, List.getElem?_cons_succ, Nat.zero_add, Nat.add_zero, Nat.reduceAdd, pk_t, pk_f, lss_int, leq_int, gtr_int, geq_int, eql_int, neq_int, not_bool, beq_self_eq_true, if_true, Bool.false_eq_true, if_false, List.nil_append, List.cons_append, List.append_nil, alc_eq, mkm_eq, nNew, nPut, bNew, bPut, nGrd, bGrd, h1, h2]
    | succ k ih =>
      intro j hj
      have h1 : (j : Int) < m.nodes.length := by omega
      have hn := hm.nodes
      have hBn := Bd.nodes
      have h6 : (j : Int) + 1 = ((j + 1 : Nat) : Int) := by omega
      have h7 := wrap_i64 (a := ((j + 1 : Nat) : Int)) (by omega) (by omega)
      obtain ⟨r, gg, o, a1, a2, _⟩ := cu.elemAt (by decide) (nodes_len _ _) (j := j) (by omega)
      have a1 := a1 .i64
      have a2 := a2 0 (by decide)
      rw [Nat.mul_one, Nat.add_zero, Nat.add_zero, nodes_get (by omega)] at a2
      have hg : m.nodes[j]? = some (m.nodes[j]'(by omega)) := List.getElem?_eq_getElem (by omega)
      have Nj := M.node j _ hg
      have ho := hm.ops _ (List.mem_of_getElem? hg)
      have e3 := G.load Nj.1 (i := 1) rfl
      have e4 := procLeft G Nj.2.2.1 ho.1 ho.2
      have h8 : ((m.nodes.take j).map fun n => n.proc.left).sum + (m.nodes[j]'(by omega)).proc.left = ((m.nodes.take (j + 1)).map fun n => n.proc.left).sum := by
        rw [List.take_succ, hg]
        simp only [Option.toList_some, List.map_append, List.map_cons, List.map_nil, List.sum_append, List.sum_cons, List.sum_nil, Int.add_zero]
      have hb1 := hbd (j + 1) (by omega)
      have h9 := wrap_i64 (a := ((m.nodes.take (j + 1)).map fun n => n.proc.left).sum) (by omega) (by omega)
      have r1 := ih (j + 1) (by omega)
      rw [le_34x0]
      simp -implicitDefEqProofs only [bnd_some, bo_some, condK_true, condK_false, gdA_undef, decide_true, decide_false, Int.reduceLE, Int.reduceLT, Int.reduceEq, Int.reduceNeg, Int.reduceAdd, gd_tt, gd_tf, gd_ft, gd_ff, unG_pure, lift_some, bnd_lift, Option.map_some, Option.bind_some, fieldPtr_ref, fieldPtr_ip, nil_ref, nil_ip, nil_fn, ex_tup, fl_agg, List.getElem?_cons_zero, List.getElem?_cons_succ, Nat.zero_add, Nat.add_zero, Nat.reduceAdd, pk_t, pk_f, lss_int, leq_int, gtr_int, geq_int, eql_int, neq_int, not_bool, beq_self_eq_true, if_true, Bool.false_eq_true, if_false, List.nil_append, List.cons_append, List.append_nil, alc_eq, mkm_eq, nNew, nPut, bNew, bPut, nGrd, bGrd, h1, a1, a2, Option.map_some, e3, e4, add_int, h8, h9, h6, h7, r1]
  have r1 := key m.nodes.length 0 (by omega)
  simp -implicitDefEqProofs only [bnd_some, bo_some, condK_true, condK_false, gdA_undef, decide_true, decide_false, Int.reduceLE, Int.reduceLT, Int.reduceEq, Int.reduceNeg, Int.reduceAdd, gd_tt, gd_tf, gd_ft, gd_ff, unG_pure, lift_some, bnd_lift, Option.map_some, Option.bind_some, fieldPtr_ref, fieldPtr_ip, nil_ref, nil_ip, nil_fn, ex_tup, fl_agg, List.getElem?_cons_zero, List.getElem?_cons_succ, Nat.zero_add, Nat.add_zero, Nat.reduceAdd, pk_t, pk_f, lss_int, leq_int, gtr_int, geq_int, eql_int, neq_int, not_bool, beq_self_eq_true, if_true, Bool.false_eq_true, if_false, List.nil_append, List.cons_append, List.append_nil, alc_eq, mkm_eq, nNew, nPut, bNew, bPut, nGrd, bGrd, sh_34, hx, e2]
  exact r1
end

end Go.Proofs.YtmhbgbiaajbhnaaGreat

namespace Go.Proofs.YtmhbgbiaajbhnaaGreat

def Mach.busy (m : Mach) (i : Nat) : Bool := match m.nodes[i]? with
  | some n => !decide (n.deal.step = 0) || n.proc.begun || decide (0 < m.fab.waiting i true + m.fab.waiting i false)
  | none => false
def Mach.quiet (m : Mach) : Bool := (List.range m.nodes.length).all (fun i => !m.busy i) && decide (m.fab.under = 0)
theorem all_range_step {n : Nat} {p : Nat → Bool} {i : Nat} (hi : i < n) (h : ∀ j, j < i → p j = true) (hp : p i = false) : (List.range n).all p = false := by
  rw [List.all_eq_false]
  exact ⟨i, List.mem_range.2 hi, by rw [hp]; simp⟩
theorem all_range_all {n : Nat} {p : Nat → Bool} (h : ∀ j, j < n → p j = true) : (List.range n).all p = true := by
  rw [List.all_eq_true]
  exact fun i hi => h i (List.mem_range.1 hi)
section
variable {b : Nat} {H : AHeap} {g : Store} {A : Adr} {m : Mach}
theorem wait_bd (hm : m.fine) (i : Int) (req : Bool) : m.fab.waiting i req < 1000 := by
  unfold Fab.waiting
  split
  · rename_i h
    simp only [Fab.is, Bool.and_eq_true, decide_eq_true_eq] at h
    have hl : i.toNat < m.fab.l.length := by omega
    have e : m.fab.port i = m.fab.l[i.toNat] := by
      unfold Fab.port
      rw [List.getD_eq_getElem?_getD, List.getElem?_eq_getElem hl]; rfl
    have := hm.ins _ (List.getElem_mem hl)
    rw [e]
    cases req
    · exact this.2
    · exact this.1
  · omega
theorem quiet_sp (G : Good b H g) (M : MachIs g A m) (hm : m.fine) : cl 33 [.ref A.mach 0 0] H = some (B m.quiet, H) := by
  have Bd := cfgB hm.ok
  have hn := hm.nodes
  have hBn := Bd.nodes
  have hfl := hm.fab
  obtain ⟨x, hx, cu⟩ := G.guard.seq M.mach (i := 10) rfl
  have e2 := (cu.is (by decide) (nodes_len _ _)).lnS
  have key : ∀ k j, j + k = m.nodes.length → (∀ i, i < j → (!m.busy i) = true) → ∀ Hi, Step H.next H.guard Hi →
      ∃ Hz, lp_33x0 cl [.ref A.mach 0 0, x, I m.nodes.length, I j] Hi = some (B m.quiet, Hz) := by
    intro k
    induction k with
    | zero =>
      intro j hj hf Hi s
      have h1 : ¬ (j : Int) < m.nodes.length := by omega
      have Gi := G.guard.ext s.next s.low
      have e1 := Gi.load M.mach (i := 0) rfl
      have e3 := under_sp Gi M.fab (by omega) (by omega) hm.pools
      have hq : m.quiet = decide (m.fab.under = 0) := by
        unfold Mach.quiet
        rw [all_range_all fun i hi => hf i (by omega), Bool.true_and]
      have hz : decide ((m.fab.under : Int) = 0) = decide (m.fab.under = 0) := by simp
      rw [le_33x0]
      refine ⟨Hi, ?_⟩
      simp -implicitDefEqProofs only [bnd_some, bo_some, condK_true, condK_false, gdA_undef, decide_true, decide_false, Int.reduceLE, Int.reduceLT, Int.reduceEq, Int.reduceNeg, Int.reduceAdd, gd_tt, gd_tf, gd_ft, gd_ff, unG_pure, lift_some, bnd_lift, Option.map_some, Option.bind_some, fieldPtr_ref, fieldPtr_ip, nil_ref, nil_ip, nil_fn, ex_tup, fl_agg, List.getElem?_cons_zero, List.getElem?_cons_succ, Nat.zero_add, Nat.add_zero, Nat.reduceAdd, pk_t, pk_f, lss_int, leq_int, gtr_int, geq_int, eql_int, neq_int, not_bool, beq_self_eq_true, if_true, Bool.false_eq_true, if_false, List.nil_append, List.cons_append, List.append_nil, alc_eq, mkm_eq, nNew, nPut, bNew, bPut, nGrd, bGrd, h1, e1, e3, hq, hz]
    | succ k ih =>
      intro j hj hf Hi s
      have h1 : (j : Int) < m.nodes.length := by omega
      have h6 : (j : Int) + 1 = ((j + 1 : Nat) : Int) := by omega
      have h7 := wrap_i64 (a := ((j + 1 : Nat) : Int)) (by omega) (by omega)
      have Gi := G.guard.ext s.next s.low
      obtain ⟨r, gg, o, a1, a2, _⟩ := (cu.ext s.next s.low).elemAt (by decide) (nodes_len _ _) (j := j) (by omega)
      have a1 := a1 .i64
      have a2 := a2 0 (by decide)
      rw [Nat.mul_one, Nat.add_zero, Nat.add_zero, nodes_get (by omega)] at a2
      obtain ⟨n, hg⟩ : ∃ n, m.nodes[j]? = some n := ⟨_, List.getElem?_eq_getElem (by omega)⟩
      have Nj := M.node j _ hg
      have hnm := List.mem_of_getElem? hg
      have e3 := nodeDeal Gi Nj.1 (hm.deal _ hnm)
      obtain ⟨dl, hdl⟩ : ∃ dl : Deal, dl = if n.deal.step = 0 then Deal.zero else n.deal := ⟨_, rfl⟩
      rw [← hdl] at e3
      let dv := dl.av
      have sn : H.next ≤ Hi.next := s.next
      have sb : Hi.base = H.next := s.base
      have hbase : Hi.base ≤ Hi.next := by omega
      have Gj := Gi.new (.blk 0 87 dv)
      have sj := s.trans (Step.new (.blk 0 87 dv) sn)
      have e4 := Gj.load M.mach (i := 0) rfl
      have e5 := waiting_sp Gj M.fab (by omega) j
      have e6 := Gj.load Nj.1 (i := 1) rfl
      have e7 := procBegun Gj Nj.2.2.1
      have w1 := wait_bd hm j true
      have w2 := wait_bd hm j false
      have h9 := wrap_i64 (a := ((m.fab.waiting j true + m.fab.waiting j false : Nat) : Int)) (by omega) (by omega)
      have h8 : (m.fab.waiting j true : Int) + (m.fab.waiting j false : Int) = ((m.fab.waiting j true + m.fab.waiting j false : Nat) : Int) := by omega
      have hb : m.busy j = (!decide (n.deal.step = 0) || n.proc.begun || decide (0 < m.fab.waiting j true + m.fab.waiting j false)) := by
        unfold Mach.busy
        rw [hg]
      have cd : (AV.agg dv).cells = dv := rfl
      have ad : dv.all AV.isCell = true := all_deal _
      have ld9 : dv.length = 9 := rfl
      have E : lp_33x0 cl [.ref A.mach 0 0, x, I m.nodes.length, I j] Hi = if m.busy j = true then some (B false, Hi.new (.blk 0 87 dv)) else lp_33x0 cl [.ref A.mach 0 0, x, I m.nodes.length, I (j + 1 : Nat)] (Hi.new (.blk 0 87 dv)) := by
        rw [le_33x0, hb]
        simp only [dv] at e4 e5 e6 e7
        by_cases d0 : n.deal.step = 0
        · cases pb : n.proc.begun with
          | true =>
            rw [pb] at e7
            simp -implicitDefEqProofs only [bnd_some, bo_some, condK_true, condK_false, gdA_undef, decide_true, decide_false, Int.reduceLE, Int.reduceLT, Int.reduceEq, Int.reduceNeg, Int.reduceAdd, gd_tt, gd_tf, gd_ft, gd_ff, unG_pure, lift_some, bnd_lift, Option.map_some, Option.bind_some, fieldPtr_ref, fieldPtr_ip, nil_ref, nil_ip, nil_fn, ex_tup, fl_agg, List.getElem?_cons_zero, List.getElem?_cons_succ, Nat.zero_add, Nat.add_zero, Nat.reduceAdd, pk_t, pk_f, lss_int, leq_int, gtr_int, geq_int, eql_int, neq_int, not_bool, beq_self_eq_true, if_true, Bool.false_eq_true, if_false, List.nil_append, List.cons_append, List.append_nil, alc_eq, mkm_eq, nNew, nPut, bNew, bPut, nGrd, bGrd, ldN_is, ldN_lt, ldaN_is, ldaN_lt, stN_is, stN_lt, Nat.lt_add_one, ne_eq, nx1, nx2, nx3, ny1, ny2, ny3, not_false_eq_true, List.length_cons, List.length_nil, Nat.reduceLeDiff, setAt, List.take_succ_cons, List.take_zero, List.drop_succ_cons, List.drop_zero, cells_dat, cells_int, cells_bool, cells_agg, List.all_cons, List.all_nil, isCell_int, isCell_bool, isCell_dat, isCell_ref, isCell_nil, isCell_vsl, cells_vsl, av_len_cfg, av_len_pkt, av_len_opn, av_len_evn, av_len_ent, av_len_row, av_len_deal, av_len_pck, tk_cfg, tk_pkt, tk_opn, tk_evn, tk_ent, tk_row, tk_deal, tk_pck, all_cfg, all_pkt, all_opn, all_evn, all_ent, all_row, all_deal, all_pck, List.drop_nil, Bool.and_true, Bool.and_self, and_self, Nat.le_refl, true_and, and_true, Nat.le_add_right, leS, ltS, h1, a1, a2, Option.map_some, e3, d0, Bool.not_true, hbase, e4, e5, e6, e7, dv, Bool.false_or, Bool.true_or]
          | false =>
            rw [pb] at e7
            by_cases hw : 0 < m.fab.waiting j true + m.fab.waiting j false
            · have hw' : (0 : Int) < ((m.fab.waiting j true + m.fab.waiting j false : Nat) : Int) := by omega
              simp -implicitDefEqProofs only [bnd_some, bo_some, condK_true, condK_false, gdA_undef, decide_true, decide_false, Int.reduceLE, Int.reduceLT, Int.reduceEq, Int.reduceNeg, Int.reduceAdd, gd_tt, gd_tf, gd_ft, gd_ff, unG_pure, lift_some, bnd_lift, Option.map_some, Option.bind_some, fieldPtr_ref, fieldPtr_ip, nil_ref, nil_ip, nil_fn, ex_tup, fl_agg, List.getElem?_cons_zero, List.getElem?_cons_succ, Nat.zero_add, Nat.add_zero, Nat.reduceAdd, pk_t, pk_f, lss_int, leq_int, gtr_int, geq_int, eql_int, neq_int, not_bool, beq_self_eq_true, if_true, Bool.false_eq_true, if_false, List.nil_append, List.cons_append, List.append_nil, alc_eq, mkm_eq, nNew, nPut, bNew, bPut, nGrd, bGrd, ldN_is, ldN_lt, ldaN_is, ldaN_lt, stN_is, stN_lt, Nat.lt_add_one, ne_eq, nx1, nx2, nx3, ny1, ny2, ny3, not_false_eq_true, List.length_cons, List.length_nil, Nat.reduceLeDiff, setAt, List.take_succ_cons, List.take_zero, List.drop_succ_cons, List.drop_zero, cells_dat, cells_int, cells_bool, cells_agg, List.all_cons, List.all_nil, isCell_int, isCell_bool, isCell_dat, isCell_ref, isCell_nil, isCell_vsl, cells_vsl, av_len_cfg, av_len_pkt, av_len_opn, av_len_evn, av_len_ent, av_len_row, av_len_deal, av_len_pck, tk_cfg, tk_pkt, tk_opn, tk_evn, tk_ent, tk_row, tk_deal, tk_pck, all_cfg, all_pkt, all_opn, all_evn, all_ent, all_row, all_deal, all_pck, List.drop_nil, Bool.and_true, Bool.and_self, and_self, Nat.le_refl, true_and, and_true, Nat.le_add_right, leS, ltS, h1, a1, a2, Option.map_some, e3, d0, Bool.not_true, hbase, e4, e5, e6, e7, dv, Bool.false_or, hw, hw', add_int, h8, h9]
            · have hw' : ¬ (0 : Int) < ((m.fab.waiting j true + m.fab.waiting j false : Nat) : Int) := by omega
              simp -implicitDefEqProofs only [bnd_some, bo_some, condK_true, condK_false, gdA_undef, decide_true, decide_false, Int.reduceLE, Int.reduceLT, Int.reduceEq, Int.reduceNeg, Int.reduceAdd, gd_tt, gd_tf, gd_ft, gd_ff, unG_pure, lift_some, bnd_lift, Option.map_some, Option.bind_some, fieldPtr_ref, fieldPtr_ip, nil_ref, nil_ip, nil_fn, ex_tup, fl_agg, List.getElem?_cons_zero, List.getElem?_cons_succ, Nat.zero_add, Nat.add_zero, Nat.reduceAdd, pk_t, pk_f, lss_int, leq_int, gtr_int, geq_int, eql_int, neq_int, not_bool, beq_self_eq_true, if_true, Bool.false_eq_true, if_false, List.nil_append, List.cons_append, List.append_nil, alc_eq, mkm_eq, nNew, nPut, bNew, bPut, nGrd, bGrd, ldN_is, ldN_lt, ldaN_is, ldaN_lt, stN_is, stN_lt, Nat.lt_add_one, ne_eq, nx1, nx2, nx3, ny1, ny2, ny3, not_false_eq_true, List.length_cons, List.length_nil, Nat.reduceLeDiff, setAt, List.take_succ_cons, List.take_zero, List.drop_succ_cons, List.drop_zero, cells_dat, cells_int, cells_bool, cells_agg, List.all_cons, List.all_nil, isCell_int, isCell_bool, isCell_dat, isCell_ref, isCell_nil, isCell_vsl, cells_vsl, av_len_cfg, av_len_pkt, av_len_opn, av_len_evn, av_len_ent, av_len_row, av_len_deal, av_len_pck, tk_cfg, tk_pkt, tk_opn, tk_evn, tk_ent, tk_row, tk_deal, tk_pck, all_cfg, all_pkt, all_opn, all_evn, all_ent, all_row, all_deal, all_pck, List.drop_nil, Bool.and_true, Bool.and_self, and_self, Nat.le_refl, true_and, and_true, Nat.le_add_right, leS, ltS, h1, a1, a2, Option.map_some, e3, d0, Bool.not_true, hbase, e4, e5, e6, e7, dv, Bool.false_or, hw, hw', add_int, h8, h9, h6, h7]
        · simp -implicitDefEqProofs only [bnd_some, bo_some, condK_true, condK_false, gdA_undef, decide_true, decide_false, Int.reduceLE, Int.reduceLT, Int.reduceEq, Int.reduceNeg, Int.reduceAdd, gd_tt, gd_tf, gd_ft, gd_ff, unG_pure, lift_some, bnd_lift, Option.map_some, Option.bind_some, fieldPtr_ref, fieldPtr_ip, nil_ref, nil_ip, nil_fn, ex_tup, fl_agg, List.getElem?_cons_zero, List.getElem?_cons_succ, Nat.zero_add, Nat.add_zero, Nat.reduceAdd, pk_t, pk_f, lss_int, leq_int, gtr_int, geq_int, eql_int, neq_int, not_bool, beq_self_eq_true, if_true, Bool.false_eq_true, if_false, List.nil_append, List.cons_append, List.append_nil, alc_eq, mkm_eq, nNew, nPut, bNew, bPut, nGrd, bGrd, ldN_is, ldN_lt, ldaN_is, ldaN_lt, stN_is, stN_lt, Nat.lt_add_one, ne_eq, nx1, nx2, nx3, ny1, ny2, ny3, not_false_eq_true, List.length_cons, List.length_nil, Nat.reduceLeDiff, setAt, List.take_succ_cons, List.take_zero, List.drop_succ_cons, List.drop_zero, cells_dat, cells_int, cells_bool, cells_agg, List.all_cons, List.all_nil, isCell_int, isCell_bool, isCell_dat, isCell_ref, isCell_nil, isCell_vsl, cells_vsl, av_len_cfg, av_len_pkt, av_len_opn, av_len_evn, av_len_ent, av_len_row, av_len_deal, av_len_pck, tk_cfg, tk_pkt, tk_opn, tk_evn, tk_ent, tk_row, tk_deal, tk_pck, all_cfg, all_pkt, all_opn, all_evn, all_ent, all_row, all_deal, all_pck, List.drop_nil, Bool.and_true, Bool.and_self, and_self, Nat.le_refl, true_and, and_true, Nat.le_add_right, leS, ltS, h1, a1, a2, Option.map_some, e3, d0, Bool.not_false, Bool.not_true, hbase, e4, e5, e6, e7, dv, Bool.true_or]
      rw [E]
      cases hbz : m.busy j with
      | true =>
        have hq : m.quiet = false := by
          unfold Mach.quiet
          rw [all_range_step (i := j) (by omega) hf (by rw [hbz]; rfl), Bool.false_and]
        exact ⟨_, by rw [hq]; rfl⟩
      | false =>
        obtain ⟨Hz, r1⟩ := ih (j + 1) (by omega) (fun i hi => by
          by_cases hij : i = j
          · subst hij; rw [hbz]; rfl
          · exact hf i (by omega)) _ sj
        exact ⟨Hz, r1⟩
  obtain ⟨Hz, r1⟩ := key m.nodes.length 0 (by omega) (fun i hi => by omega) H.guard (Step.refl _ _)
  refine pure_cl rfl rfl (rn_33 _ _ _ (r := (B m.quiet, Hz)) ?_) freeze_s
  simp -implicitDefEqProofs only [bnd_some, bo_some, condK_true, condK_false, gdA_undef, decide_true, decide_false, Int.reduceLE, Int.reduceLT, Int.reduceEq, Int.reduceNeg, Int.reduceAdd, gd_tt, gd_tf, gd_ft, gd_ff, unG_pure, lift_some, bnd_lift, Option.map_some, Option.bind_some, fieldPtr_ref, fieldPtr_ip, nil_ref, nil_ip, nil_fn, ex_tup, fl_agg, List.getElem?_cons_zero, List.getElem?_cons_succ, Nat.zero_add, Nat.add_zero, Nat.reduceAdd, pk_t, pk_f, lss_int, leq_int, gtr_int, geq_int, eql_int, neq_int, not_bool, beq_self_eq_true, if_true, Bool.false_eq_true, if_false, List.nil_append, List.cons_append, List.append_nil, alc_eq, mkm_eq, nNew, nPut, bNew, bPut, nGrd, bGrd, sh_33, hx, e2]
  exact r1
end

end Go.Proofs.YtmhbgbiaajbhnaaGreat

namespace Go.Proofs.YtmhbgbiaajbhnaaGreat

section
variable {b : Nat} {H : AHeap} {g : Store} {A : Adr} {m : Mach}
theorem over_sp (G : Good b H g) (M : MachIs g A m) (hm : m.fine) : cl 20 [.ref A.mach 0 0] H = some (B (m.quiet && decide (m.left = 0)), H) := by
  refine run_cl rfl rfl (rn_20 _ _ _ ?_)
  have e1 := quiet_sp G M hm
  have e2 := left_sp G M hm
  cases hq : m.quiet with
  | true =>
    rw [hq] at e1
    simp -implicitDefEqProofs only [bnd_some, bo_some, condK_true, condK_false, gdA_undef, decide_true, decide_false, Int.reduceLE, Int.reduceLT, Int.reduceEq, Int.reduceNeg, Int.reduceAdd, gd_tt, gd_tf, gd_ft, gd_ff, unG_pure, lift_some, bnd_lift, Option.map_some, Option.bind_some, fieldPtr_ref, fieldPtr_ip, nil_ref, nil_ip, nil_fn, ex_tup, fl_agg, List.getElem?_cons_zero, List.getElem?_cons_succ, Nat.zero_add, Nat.add_zero, Nat.reduceAdd, pk_t, pk_f, lss_int, leq_int, gtr_int, geq_int, eql_int, neq_int, not_bool, beq_self_eq_true, if_true, Bool.false_eq_true, if_false, List.nil_append, List.cons_append, List.append_nil, alc_eq, mkm_eq, nNew, nPut, bNew, bPut, nGrd, bGrd, sh_20, e1, e2, Bool.true_and]
  | false =>
    rw [hq] at e1
    simp -implicitDefEqProofs only [bnd_some, bo_some, condK_true, condK_false, gdA_undef, decide_true, decide_false, Int.reduceLE, Int.reduceLT, Int.reduceEq, Int.reduceNeg, Int.reduceAdd, gd_tt, gd_tf, gd_ft, gd_ff, unG_pure, lift_some, bnd_lift, Option.map_some, Option.bind_some, fieldPtr_ref, fieldPtr_ip, nil_ref, nil_ip, nil_fn, ex_tup, fl_agg, List.getElem?_cons_zero, List.getElem?_cons_succ, Nat.zero_add, Nat.add_zero, Nat.reduceAdd, pk_t, pk_f, lss_int, leq_int, gtr_int, geq_int, eql_int, neq_int, not_bool, beq_self_eq_true, if_true, Bool.false_eq_true, if_false, List.nil_append, List.cons_append, List.append_nil, alc_eq, mkm_eq, nNew, nPut, bNew, bPut, nGrd, bGrd, sh_20, e1, Bool.false_and]
theorem finish_over (G : Good b H g) (M : MachIs g A m) (hm : m.fine) (h1 : m.quiet = true) (h2 : m.left = 0) (most : Int) (x : AV) : cl 12 [.ref A.mach 0 0, I most, x] H = some (I 0, H) := by
  have e := over_sp G M hm
  rw [h1, h2] at e
  have e' : (true && decide ((0 : Int) = 0)) = true := rfl
  rw [e'] at e
  refine run_cl rfl rfl (rn_12 _ _ _ _ _ ?_)
  rw [sh_12, le_12x0]
  by_cases h0 : 0 < most
  · simp -implicitDefEqProofs only [bnd_some, bo_some, condK_true, condK_false, gdA_undef, decide_true, decide_false, Int.reduceLE, Int.reduceLT, Int.reduceEq, Int.reduceNeg, Int.reduceAdd, gd_tt, gd_tf, gd_ft, gd_ff, unG_pure, lift_some, bnd_lift, Option.map_some, Option.bind_some, fieldPtr_ref, fieldPtr_ip, nil_ref, nil_ip, nil_fn, ex_tup, fl_agg, List.getElem?_cons_zero, List.getElem?_cons_succ, Nat.zero_add, Nat.add_zero, Nat.reduceAdd, pk_t, pk_f, lss_int, leq_int, gtr_int, geq_int, eql_int, neq_int, not_bool, beq_self_eq_true, if_true, Bool.false_eq_true, if_false, List.nil_append, List.cons_append, List.append_nil, alc_eq, mkm_eq, nNew, nPut, bNew, bPut, nGrd, bGrd, h0, e, Bool.not_true]
  · simp -implicitDefEqProofs only [bnd_some, bo_some, condK_true, condK_false, gdA_undef, decide_true, decide_false, Int.reduceLE, Int.reduceLT, Int.reduceEq, Int.reduceNeg, Int.reduceAdd, gd_tt, gd_tf, gd_ft, gd_ff, unG_pure, lift_some, bnd_lift, Option.map_some, Option.bind_some, fieldPtr_ref, fieldPtr_ip, nil_ref, nil_ip, nil_fn, ex_tup, fl_agg, List.getElem?_cons_zero, List.getElem?_cons_succ, Nat.zero_add, Nat.add_zero, Nat.reduceAdd, pk_t, pk_f, lss_int, leq_int, gtr_int, geq_int, eql_int, neq_int, not_bool, beq_self_eq_true, if_true, Bool.false_eq_true, if_false, List.nil_append, List.cons_append, List.append_nil, alc_eq, mkm_eq, nNew, nPut, bNew, bPut, nGrd, bGrd, h0]
end
def total (ps : List (List Opn)) : Nat := (ps.map List.length).sum
def bound (c : Cfg) (ps : List (List Opn)) : Int := 40 * ((total ps : Int) + 1) * (c.nodes + 6)
theorem total_take {ps : List (List Opn)} {j : Nat} {l : List Opn} (h : ps[j]? = some l) : total (ps.take (j + 1)) = total (ps.take j) + l.length := by
  unfold total
  rw [List.take_succ, h]
  simp only [Option.toList_some, List.map_append, List.map_cons, List.map_nil, List.sum_append, List.sum_cons, List.sum_nil, Nat.add_zero]
theorem total_le {ps : List (List Opn)} (j : Nat) : total (ps.take j) ≤ total ps := by
  have : total ps = total (ps.take j) + total (ps.drop j) := by
    unfold total
    rw [← List.sum_append, ← List.map_append, List.take_append_drop]
  omega
theorem bound_sp (H : AHeap) (c : Cfg) (hc : 0 ≤ c.nodes ∧ c.nodes ≤ 1000) {x : AV} {ps : List (List Opn)} (hx : PsIs H x ps) (hn : ps.length < 1000000) (ht : total ps < 1000000) : cl 6 [.agg c.av, x] H = some (I (bound c ps), H) := by
  have hx1 := hx.of_get (H' := H.guard.new (.blk 0 26 c.av)) (by rw [nNew, nGrd]; omega) fun r hr => by rw [getNew_lt (by rw [nGrd]; exact hr), gGrd]
  obtain ⟨cells, x1, x2⟩ := hx1
  have hcl : cells.length = ps.length := by have := x1.1; omega
  have e1 := x1.lnS
  have l0 : c.av[0]? = some (I c.nodes) := rfl
  have key : ∀ k j, j + k = ps.length → lp_6x0 cl [.ref H.next 0 0, I (total (ps.take j)), x, I ps.length, I j] (H.guard.new (.blk 0 26 c.av)) = some (I (bound c ps), H.guard.new (.blk 0 26 c.av)) := by
    intro k
    induction k with
    | zero =>
      intro j hj
      have h1 : ¬ (j : Int) < ps.length := by omega
      have h2 : ps.take j = ps := List.take_of_length_le (by omega)
      have w1 := wrap_i64 (a := (total ps : Int) + 1) (by omega) (by omega)
      have w2 := wrap_i64 (a := 40 * ((total ps : Int) + 1)) (by omega) (by omega)
      have w3 := wrap_i64 (a := c.nodes + 6) (by omega) (by omega)
      have hb1 : 0 ≤ 40 * ((total ps : Int) + 1) * (c.nodes + 6) := Int.mul_nonneg (by omega) (by omega)
      have hb2 : 40 * ((total ps : Int) + 1) * (c.nodes + 6) ≤ 40000000 * 1006 := Int.mul_le_mul (by omega) (by omega) (by omega) (by omega)
      have w4 := wrap_i64 (a := 40 * ((total ps : Int) + 1) * (c.nodes + 6)) (by omega) (by omega)
      rw [le_6x0, h2]
      simp -implicitDefEqProofs only [bnd_some, bo_some, condK_true, condK_false, gdA_undef, decide_true, decide_false, Int.reduceLE, Int.reduceLT, Int.reduceEq, Int.reduceNeg, Int.reduceAdd, gd_tt, gd_tf, gd_ft, gd_ff, unG_pure, lift_some, bnd_lift, Option.map_some, Option.bind_some, fieldPtr_ref, fieldPtr_ip, nil_ref, nil_ip, nil_fn, ex_tup, fl_agg, List.getElem?_cons_zero, List.getElem?_cons_succ, Nat.zero_add, Nat.add_zero, Nat.reduceAdd, pk_t, pk_f, lss_int, leq_int, gtr_int, geq_int, eql_int, neq_int, not_bool, beq_self_eq_true, if_true, Bool.false_eq_true, if_false, List.nil_append, List.cons_append, List.append_nil, alc_eq, mkm_eq, nNew, nPut, bNew, bPut, nGrd, bGrd, ldN_is, ldN_lt, ldaN_is, ldaN_lt, stN_is, stN_lt, Nat.lt_add_one, ne_eq, nx1, nx2, nx3, ny1, ny2, ny3, not_false_eq_true, List.length_cons, List.length_nil, Nat.reduceLeDiff, setAt, List.take_succ_cons, List.take_zero, List.drop_succ_cons, List.drop_zero, cells_dat, cells_int, cells_bool, cells_agg, List.all_cons, List.all_nil, isCell_int, isCell_bool, isCell_dat, isCell_ref, isCell_nil, isCell_vsl, cells_vsl, av_len_cfg, av_len_pkt, av_len_opn, av_len_evn, av_len_ent, av_len_row, av_len_deal, av_len_pck, tk_cfg, tk_pkt, tk_opn, tk_evn, tk_ent, tk_row, tk_deal, tk_pck, all_cfg, all_pkt, all_opn, all_evn, all_ent, all_row, all_deal, all_pck, List.drop_nil, Bool.and_true, Bool.and_self, and_self, Nat.le_refl, true_and, and_true, Nat.le_add_right, leS, ltS, h1, add_int, mul_int, w1, w2, w3, w4, l0, bound]
    | succ k ih =>
      intro j hj
      have h1 : (j : Int) < ps.length := by omega
      have h6 : (j : Int) + 1 = ((j + 1 : Nat) : Int) := by omega
      have h7 := wrap_i64 (a := ((j + 1 : Nat) : Int)) (by omega) (by omega)
      have a1 := x1.ix (k := .i64) (i := (j : Int)) (by omega) h1
      rw [Int.toNat_natCast] at a1
      have a2 := x1.ld (i := j) (by omega)
      obtain ⟨v, hv⟩ : ∃ v, cells[j]? = some v := ⟨_, List.getElem?_eq_getElem (by omega)⟩
      obtain ⟨l, hl⟩ : ∃ l, ps[j]? = some l := ⟨_, List.getElem?_eq_getElem (by omega)⟩
      rw [hv] at a2
      have a3 := (x2 j v l hv hl).1.lnS
      have h8 := total_take hl
      have h9 := total_le (ps := ps) (j + 1)
      have h8' : (total (ps.take j) : Int) + (l.length : Int) = (total (ps.take (j + 1)) : Int) := by omega
      have h10 := wrap_i64 (a := (total (ps.take (j + 1)) : Int)) (by omega) (by omega)
      have r1 := ih (j + 1) (by omega)
      rw [le_6x0]
      simp -implicitDefEqProofs only [bnd_some, bo_some, condK_true, condK_false, gdA_undef, decide_true, decide_false, Int.reduceLE, Int.reduceLT, Int.reduceEq, Int.reduceNeg, Int.reduceAdd, gd_tt, gd_tf, gd_ft, gd_ff, unG_pure, lift_some, bnd_lift, Option.map_some, Option.bind_some, fieldPtr_ref, fieldPtr_ip, nil_ref, nil_ip, nil_fn, ex_tup, fl_agg, List.getElem?_cons_zero, List.getElem?_cons_succ, Nat.zero_add, Nat.add_zero, Nat.reduceAdd, pk_t, pk_f, lss_int, leq_int, gtr_int, geq_int, eql_int, neq_int, not_bool, beq_self_eq_true, if_true, Bool.false_eq_true, if_false, List.nil_append, List.cons_append, List.append_nil, alc_eq, mkm_eq, nNew, nPut, bNew, bPut, nGrd, bGrd, h1, a1, a2, Option.map_some, a3, add_int, h8', h10, h6, h7, r1]
  refine pure_cl rfl rfl (rn_6 _ _ _ _ (r := (I (bound c ps), H.guard.new (.blk 0 26 c.av))) ?_) freeze_s
  have r1 := key ps.length 0 (by omega)
  simp -implicitDefEqProofs only [bnd_some, bo_some, condK_true, condK_false, gdA_undef, decide_true, decide_false, Int.reduceLE, Int.reduceLT, Int.reduceEq, Int.reduceNeg, Int.reduceAdd, gd_tt, gd_tf, gd_ft, gd_ff, unG_pure, lift_some, bnd_lift, Option.map_some, Option.bind_some, fieldPtr_ref, fieldPtr_ip, nil_ref, nil_ip, nil_fn, ex_tup, fl_agg, List.getElem?_cons_zero, List.getElem?_cons_succ, Nat.zero_add, Nat.add_zero, Nat.reduceAdd, pk_t, pk_f, lss_int, leq_int, gtr_int, geq_int, eql_int, neq_int, not_bool, beq_self_eq_true, if_true, Bool.false_eq_true, if_false, List.nil_append, List.cons_append, List.append_nil, alc_eq, mkm_eq, nNew, nPut, bNew, bPut, nGrd, bGrd, sh_6, box_agg (all_cfg c), e1]
  exact r1
theorem PsIs.zN {H : AHeap} : PsIs H zN [] := ⟨[], SliceIs.nil, fun i v l h => by simp at h⟩
/-- A new machine is as it should be. -/
theorem new_fine {c : Cfg} (h : c.ok = true) {ps : List (List Opn)} (hp : c.opsOk ps = true) : (Mach.new c ps).fine := by
  have Bd := cfgB h
  obtain ⟨h1, h2⟩ := opsOk_of hp
  have node : ∀ n ∈ (Mach.new c ps).nodes, ∃ i l, l ∈ ps ∧ n = .new c i l := fun n hn => by
    simp only [Mach.new, List.mem_mapIdx] at hn
    obtain ⟨i, hi, rfl⟩ := hn
    exact ⟨i, _, List.getElem_mem hi, rfl⟩
  have ports : ∀ p ∈ (Mach.new c ps).fab.l, p = .zero := fun p hp => by
    simp only [Mach.new, Fab.new] at hp
    exact List.eq_of_mem_replicate hp
  refine ⟨h, ?_, ?_, fun n hn => ?_, fun l hl => ?_, fun n hn => ?_, fun p hp => ?_⟩
  · simp only [Mach.new, List.length_mapIdx]; exact h1
  · simp only [Mach.new, Fab.new, List.length_mapIdx, List.length_replicate]; omega
  · obtain ⟨i, l, hl, rfl⟩ := node n hn
    have := h2 l hl
    exact ⟨by show l.length < 1000; omega, by show (0 : Nat) < 1000; omega⟩
  · simp only [Fab.pools, List.mem_flatMap] at hl
    obtain ⟨p, hp, hl⟩ := hl
    rw [ports p hp] at hl
    simp only [Port.zero, List.mem_cons, List.not_mem_nil, or_false, or_self] at hl
    rw [hl]; decide
  · obtain ⟨i, l, hl, rfl⟩ := node n hn
    show (0 : Nat) < _
    omega
  · rw [ports p hp]
    exact ⟨by decide, by decide⟩
def oneC : Cfg := ⟨1, 1, 1, 1, 1, 1, 1, []⟩
theorem wakes25 (H : AHeap) : cl 7 [] H = some (B true, H) := by
  have hc : oneC.ok = true := by decide
  have hp : oneC.opsOk [[]] = true := by decide
  have hav : oneC.av = [I 1, I 1, I 1, I 1, I 1, I 1, I 1, zN] := by simp [oneC, Cfg.av, dat, vsl_nil]
  let H1 := H.guard.new (.blk 0 26 oneC.av)
  let H2 := H1.new (.blk 0 30 [zN])
  have hps : PsIs H2 (.sl (H.next + 1) 0 0 1 1 1 true) [[]] := ⟨[zN], sl_new (n := 1) (m := 1) (l := [zN]) rfl, fun i v l a b => by
    match i with
    | 0 => cases a; cases b; exact ⟨SliceIs.nil, fun _ => rfl⟩
    | i + 1 => cases a⟩
  obtain ⟨H3, A, g, e1, M, MI⟩ := machineNew H2 (by simp only [H2, H1, bNew, nNew, bGrd, nGrd]; omega) oneC hc hps hp
  have hf := new_fine hc hp
  have e2 := finish_over M.good MI hf (by decide) (by decide) 9 zN
  let H4 := H3.new (.blk 0 30 [zN])
  have hps' : PsIs H4 (.sl H3.next 0 0 1 1 1 true) [[]] := ⟨[zN], sl_new (n := 1) (m := 1) (l := [zN]) rfl, fun i v l a b => by
    match i with
    | 0 => cases a; cases b; exact ⟨SliceIs.nil, fun _ => rfl⟩
    | i + 1 => cases a⟩
  have e3 := bound_sp H4 oneC (by decide) hps' (by decide) (by decide)
  have eb : bound oneC [[]] = 280 := by decide
  rw [eb] at e3
  have g1 : H3.get H.next = .blk 0 26 oneC.av := by
    rw [M.same _ (by simp only [H2, H1, nNew, nGrd]; omega), getNew_lt (by simp only [H1, nNew, nGrd]; omega)]
    exact getNew_is rfl
  have b1 := lda_cfg g1
  have ev : bd 26 [(0, I 1), (1, I 1), (2, I 1), (3, I 1), (4, I 1), (5, I 1), (6, I 1)] = some (.agg oneC.av) := by
    rw [hav]
    simp -implicitDefEqProofs only [bnd_some, bo_some, condK_true, condK_false, gdA_undef, decide_true, decide_false, Int.reduceLE, Int.reduceLT, Int.reduceEq, Int.reduceNeg, Int.reduceAdd, gd_tt, gd_tf, gd_ft, gd_ff, unG_pure, lift_some, bnd_lift, Option.map_some, Option.bind_some, fieldPtr_ref, fieldPtr_ip, nil_ref, nil_ip, nil_fn, ex_tup, fl_agg, List.getElem?_cons_zero, List.getElem?_cons_succ, Nat.zero_add, Nat.add_zero, Nat.reduceAdd, pk_t, pk_f, lss_int, leq_int, gtr_int, geq_int, eql_int, neq_int, not_bool, beq_self_eq_true, if_true, Bool.false_eq_true, if_false, List.nil_append, List.cons_append, List.append_nil, alc_eq, mkm_eq, nNew, nPut, bNew, bPut, nGrd, bGrd, bd_26, bldA, fillA, pl_26]
    rfl
  have b0 : binA Tryz.prog .eql 40 (I 0) (I 0) = some (B true) := by kernel_rfl
  have en : binA Tryz.prog .neq 39 (.ref A.mach 0 0) (.s (.pointer none)) = some (B true) := by kernel_rfl
  have es : ∀ H, bs 28 1 [(0, zN)] H = some (.sl H.next 0 0 1 1 1 true, H.new (.blk 0 30 [zN])) := fun H => by
    exact (bs_28 (by decide)).trans rfl
  refine pure_cl rfl rfl (rn_7 _ _ (r := (B true, H4)) ?_) freeze_s
  have ca : (AV.agg oneC.av).cells = oneC.av := rfl
  have la : oneC.av.length = 8 := rfl
  simp only [H2, H1] at e1
  simp -implicitDefEqProofs only [bnd_some, bo_some, condK_true, condK_false, gdA_undef, decide_true, decide_false, Int.reduceLE, Int.reduceLT, Int.reduceEq, Int.reduceNeg, Int.reduceAdd, gd_tt, gd_tf, gd_ft, gd_ff, unG_pure, lift_some, bnd_lift, Option.map_some, Option.bind_some, fieldPtr_ref, fieldPtr_ip, nil_ref, nil_ip, nil_fn, ex_tup, fl_agg, List.getElem?_cons_zero, List.getElem?_cons_succ, Nat.zero_add, Nat.add_zero, Nat.reduceAdd, pk_t, pk_f, lss_int, leq_int, gtr_int, geq_int, eql_int, neq_int, not_bool, beq_self_eq_true, if_true, Bool.false_eq_true, if_false, List.nil_append, List.cons_append, List.append_nil, alc_eq, mkm_eq, nNew, nPut, bNew, bPut, nGrd, bGrd, ldN_is, ldN_lt, ldaN_is, ldaN_lt, stN_is, stN_lt, Nat.lt_add_one, ne_eq, nx1, nx2, nx3, ny1, ny2, ny3, not_false_eq_true, List.length_cons, List.length_nil, Nat.reduceLeDiff, setAt, List.take_succ_cons, List.take_zero, List.drop_succ_cons, List.drop_zero, cells_dat, cells_int, cells_bool, cells_agg, List.all_cons, List.all_nil, isCell_int, isCell_bool, isCell_dat, isCell_ref, isCell_nil, isCell_vsl, cells_vsl, av_len_cfg, av_len_pkt, av_len_opn, av_len_evn, av_len_ent, av_len_row, av_len_deal, av_len_pck, tk_cfg, tk_pkt, tk_opn, tk_evn, tk_ent, tk_row, tk_deal, tk_pck, all_cfg, all_pkt, all_opn, all_evn, all_ent, all_row, all_deal, all_pck, List.drop_nil, Bool.and_true, Bool.and_self, and_self, Nat.le_refl, true_and, and_true, Nat.le_add_right, leS, ltS, sh_7, ev, ca, la, all_cfg, es, e1, b0, en, e2, b1, e3, H4]

end Go.Proofs.YtmhbgbiaajbhnaaGreat

namespace Go.Proofs.YtmhbgbiaajbhnaaGreat

open Go.ChangeShapes Go.WideShapes Go.ChangeAt Go.RowKit
abbrev ρ0 : Ren := fun _ => none
abbrev G0 : Nat → Nat := fun _ => 0
theorem rel_empty (w : World) : Rel ρ0 AHeap.empty w := ⟨fun r _ => ⟨rfl, rfl⟩, fun r b sh h => (by cases h), fun r r' b sh sh' h => (by cases h)⟩
/-- What the run of a law says of its calls. -/
theorem law_calls {P : Program} {L : Pol} (hL : PolOk P L) (hm : P.follows .mixedOrders = true) {k : FuncId} {xs : List AV} {b : Bool} {H' : AHeap} (h : callω P L k xs AHeap.empty = some (.s (.bool b), H')) {W : World} {args : Array Value} (ha : RVs ρ0 G0 W xs args.toList) :
    Calls P k args W fun e W' => e = .returned (.bool b) ∧ Below W.heap.size W W' := by
  refine ((callω_ok hL hm).1 k xs _ _ H' h ρ0 W args (rel_empty W) ha).mono fun e w' he => ?_
  obtain ⟨cv, ρ', rfl, _, r2, r3⟩ := he
  simp only [RV] at r2
  subst r2
  exact ⟨rfl, r3.os, r3.tape, r3.output, r3.size, fun k hk => r3.frame k hk fun r sh h => (by cases h)⟩
section
variable {H : Type} {enc : TypeId × Value → H} {P : Program}
theorem trodAll_below (hl : laidOutB P = true) {W W' : World} (hb : Below W.heap.size W W') : ∀ {ts : List TypeId} {vs : List Value} {ds : List (DataW H)} {ps : List MemPlace}, ts.all (fun t => P.readableRec t && decide (t < P.types.size)) = true →
    DataW.TrodAll enc P W 0 (fun _ => true) true ts vs ds ps → (∀ x ∈ ps, x.block < W.heap.size) → DataW.TrodAll enc P W' 0 (fun b => decide (b < W.heap.size)) true ts vs ds ps
  | [], vs, ds, ps, _, h, _ => by
    obtain ⟨rfl, rfl, rfl⟩ := trodAll_nil h
    exact trodAll_mk0
  | t :: ts, vs, ds, ps, ht, h, hlt => by
    simp only [List.all_cons, Bool.and_eq_true, decide_eq_true_eq] at ht
    obtain ⟨v, vs', d, ds', p, q, rfl, rfl, rfl, h1, h2⟩ := trodAll_cons h
    exact ⟨p, q, Below.trod hl ht.1.1 ht.1.2 h1 hb fun x hx => hlt x (by simp [hx]), trodAll_below hl hb (by simpa using ht.2) h2 fun x hx => hlt x (by simp [hx]), rfl⟩
/-- The row's postcondition, of a law that answered 'true'. -/
theorem post_true {f : Func} {s : ChangeSpec} {W W' : World} {args : Array Value} {ds gs : List (DataW H)} {before : List MemPlace} {tb : TypeId} (hl : laidOutB P = true)
    (hp : f.params.toList.all (fun t => P.readableRec t && decide (t < P.types.size)) = true) (hr : f.resultTypes = #[tb]) (hb : P.underlying tb = some .bool)
    (hW : DataW.Whole enc P f.params.toList s.vars false W args.toList ds gs before) (hv : s.vars = [])
    (h1 : (s.fn H ds).results = [.lit (.bool true)]) (h2 : (s.fn H ds).args = ds) (h3 : (s.fn H ds).vars = []) (B : Below W.heap.size W W') :
    s.post enc P f false true false false W args (.bool true) W' := by
  have hlt : ∀ x ∈ before, x.block < W.heap.size := fun x hx => hW.lt x hx
  have hW' := hW
  obtain ⟨p, q, hA, hV, rfl, _, _⟩ := hW
  rw [hv] at hV
  obtain ⟨rfl, rfl⟩ := trodVars_none hV
  rw [List.append_nil] at hlt
  refine ⟨ds, [], p ++ [], [], p, [], hW', ?_, ?_, ?_, B.frame _, fun h => by cases h⟩
  · rw [List.append_nil, h1, hr]
    exact trodAll_mk1 (shut_bool hb true)
  · rw [List.append_nil, h2]
    exact trodAll_below hl B hp hA hlt
  · rw [List.append_nil, h3, hv]
    exact rfl
theorem RV_int {W : World} {k : IntKind} {n : Int} : RV ρ0 G0 W (.s (.int k n)) (.int k n) := by simp [RV]
theorem rcons {W : World} {x : AV} {v : Value} {xs : List AV} {vs : List Value} (h : RV ρ0 G0 W x v) (h' : RVs ρ0 G0 W xs vs) : RVs ρ0 G0 W (x :: xs) (v :: vs) := by
  simp only [RVs]; exact ⟨v, vs, rfl, h, h'⟩
theorem rnil {W : World} : RVs ρ0 G0 W [] [] := by simp only [RVs]
/-- Numbers of kinds. -/
def ints (ks : List IntKind) (zs : List Int) : List AV := List.zipWith (fun k z => .s (.int k z)) ks zs
def intsV (ks : List IntKind) (zs : List Int) : List Value := List.zipWith (fun k z => .int k z) ks zs
/-- A type whose values are rows of numbers. -/
def FlatT (P : Program) (e : TypeId) (ks : List IntKind) : Prop :=
  ∀ {H : Type} {enc : TypeId × Value → H} {W : World} {base : Nat} {sp : Nat → Bool} {held : Bool} {n : Nat} {cs : List Value} {y : DataW H × List MemPlace}, DataW.trod enc P W base sp held n e cs = some y →
    ∃ zs : List Int, zs.length = ks.length ∧ cs = intsV ks zs ∧ ∀ (i : Nat) (k : IntKind) (z : Int), ks[i]? = some k → zs[i]? = some z → (Lit.int k z).wf = true
theorem flat_int {e : TypeId} {k : IntKind} (he : P.underlying e = some (.int k)) : FlatT P e [k] := by
  intro H enc W base sp held n cs y h
  obtain ⟨z, rfl, rfl, hw⟩ := DataW.trod_int he h
  refine ⟨[z], rfl, rfl, fun i k' z' h1 h2 => ?_⟩
  cases i with
  | zero => simp at h1 h2; subst h1; subst h2; exact hw
  | succ i => simp at h1
theorem ints_length {ks : List IntKind} {zs : List Int} (h : zs.length = ks.length) : (ints ks zs).length = ks.length := by
  simp [ints, h]
theorem RVs_ints {W : World} : ∀ (ks : List IntKind) (zs : List Int), RVs ρ0 G0 W (ints ks zs) (intsV ks zs)
  | [], zs => by simp [ints, intsV, RVs]
  | k :: ks, [] => by simp [ints, intsV, RVs]
  | k :: ks, z :: zs => by
    simp only [ints, intsV, List.zipWith_cons_cons, RVs]
    exact ⟨_, _, rfl, RV_int, RVs_ints ks zs⟩
/-- A slice of rows of numbers. -/
structure RowsOf (ks : List IntKind) (av : AV) (l : List (List Int)) : Prop where
  is : SliceIs AHeap.empty av ks.length l.length (l.flatMap (ints ks))
  len : ∀ zs ∈ l, zs.length = ks.length
  wf : ∀ zs ∈ l, ∀ (i : Nat) (k : IntKind) (z : Int), ks[i]? = some k → zs[i]? = some z → (Lit.int k z).wf = true
theorem rows_length {ks : List IntKind} : ∀ {l : List (List Int)}, (∀ zs ∈ l, zs.length = ks.length) → (l.flatMap (ints ks)).length = l.length * ks.length
  | [], _ => by simp
  | zs :: l, h => by
    rw [List.flatMap_cons, List.length_append, ints_length (h zs (by simp)), rows_length fun z hz => h z (by simp [hz]), List.length_cons, Nat.succ_mul]; omega
theorem open_rows {t e : TypeId} {ks : List IntKind} (ht : P.underlying t = some (.slice e)) (hc : P.cellsOf e = ks.length) (hF : FlatT P e ks) {W : World} {r : Reach} {b0 base : Nat} {sp : Nat → Bool} {held : Bool} {v : Value} {fuel : Nat} {y : DataW H × List MemPlace}
    (hval : Cell.okWide P W r b0 t v) (h : DataW.trod enc P W base sp held fuel t [v] = some y) : ∃ (av : AV) (l : List (List Int)), RV ρ0 G0 W av v ∧ RowsOf ks av l ∧ av.isCell = true := by
  rcases DataW.trod_slice ht h with ⟨h0, _⟩ | ⟨a, len, cap, elems, rest, n, _, hv, _, hb, hl, hm, hlen, hel, _, _⟩
  · have h0 : v = .slice none 0 0 := by simpa using h0
    subst h0
    exact ⟨.s (.slice none 0 0), [], by simp [RV], ⟨⟨by simp, rfl, rfl, rfl⟩, by simp, by simp⟩, rfl⟩
  · have hv : v = .slice (some a) len cap := by simpa using hv
    subst hv
    simp only [Cell.okWide, ht, Cell.ok] at hval
    obtain ⟨_, _, _, hspot, row, cells, hsh, _⟩ := hval
    obtain ⟨b, o, spot⟩ := a
    simp only at hspot
    subst hspot
    have hrow : ∀ i, ∃ zs : List Int, i < len → zs.length = ks.length ∧ (∀ (j : Nat) (k : IntKind) (z : Int), ks[j]? = some k → zs[j]? = some z → (Lit.int k z).wf = true) ∧ RVc ρ0 G0 W (ints ks zs) b (o + i * ks.length) := by
      intro i
      by_cases hi : i < len
      · have := hel i hi
        rw [List.getElem?_eq_getElem (by omega)] at this
        obtain ⟨cs, hcs, htr⟩ := Option.bind_eq_some_iff.1 this
        obtain ⟨zs, z1, z2, z3⟩ := hF htr
        refine ⟨zs, fun _ => ⟨z1, z3, RVc_of_get fun j x hx => ?_⟩⟩
        obtain ⟨_, c1, c2⟩ := World.cells?_some hcs
        have hj : j < ks.length := by
          have := (List.getElem?_eq_some_iff.1 hx).1
          rwa [ints_length z1] at this
        have hc2 := c2 j (by rw [hc]; exact hj)
        obtain ⟨u, hu, hrv⟩ := RVs_get (RVs_ints (W := W) ks zs) hx
        refine ⟨u, ?_, hrv⟩
        rw [z2, hu] at hc2
        rw [← hc2, hc]
        congr 1
        unfold Addr.add
        by_cases h1 : i * ks.length = 0
        · rw [if_pos h1, h1]
          by_cases h2 : j = 0
          · rw [if_pos h2, h2]; rfl
          · rw [if_neg h2]; rfl
        · rw [if_neg h1]
          by_cases h2 : j = 0
          · rw [if_pos h2, h2]; rfl
          · rw [if_neg h2]
      · exact ⟨[], fun h => absurd h hi⟩
    obtain ⟨f, hf⟩ := Classical.axiomOfChoice hrow
    have hl1 : ∀ zs ∈ (List.range len).map f, zs.length = ks.length := by
      intro zs hz
      obtain ⟨i, hi, rfl⟩ := List.mem_map.1 hz
      exact (hf i (List.mem_range.1 hi)).1
    have hcells : ∀ m s, s + m ≤ len → RVc ρ0 G0 W (((List.range' s m).map f).flatMap (ints ks)) b (o + s * ks.length) := by
      intro m
      induction m with
      | zero => intro s _; simp [RVc]
      | succ m ih =>
        intro s hs
        rw [List.range'_succ, List.map_cons, List.flatMap_cons]
        refine RVc_append (hf s (by omega)).2.2 ?_
        rw [ints_length (hf s (by omega)).1]
        have := ih (s + 1) (by omega)
        rwa [Nat.succ_mul, ← Nat.add_assoc] at this
    refine ⟨.vs len ks.length (((List.range len).map f).flatMap (ints ks)), (List.range len).map f, ?_, ⟨?_, hl1, fun zs hz => ?_⟩, rfl⟩
    · simp only [RV]
      refine ⟨b, o, cap, rfl, hl, ?_, shape?_lt hsh, fun r sh h => (by cases h), ?_⟩
      · rw [rows_length hl1]; simp
      · have := hcells len 0 (by omega)
        rw [List.range_eq_range']
        simpa using this
    · have := SliceIs.vs (H := AHeap.empty) (m := ks.length) (n := len) (cs := ((List.range len).map f).flatMap (ints ks)) (by rw [rows_length hl1]; simp)
      simpa using this
    · obtain ⟨i, hi, rfl⟩ := List.mem_map.1 hz
      exact (hf i (List.mem_range.1 hi)).2.1
/-- A value of a struct whose fields have one cell each: what its cells are. -/
theorem open_fields {t : TypeId} {fs : Array Field} {ts : List TypeId} (ht : P.underlying t = some (.struct fs)) (hts : P.cellTypes P.depth t = some ts) (hfs : fs.toList.map (fun (f : Field) => (f.type, f.offset)) = ts.zipIdx)
    (hc : ∀ u ∈ ts, P.cellsOf u = 1) (hct : P.cellsOf t = ts.length) {W : World} {r : Reach} {b0 base : Nat} {sp : Nat → Bool} {held : Bool} {v : Value} {d : DataW H} {ps : List MemPlace}
    (hval : Value.okWide P W r b0 t v) (h : DataW.Trod enc P W base sp held t v d ps) :
    ∃ cs : Array Value, v = .agg cs ∧ cs.size = ts.length ∧ ∀ (i : Nat) (u : TypeId), ts[i]? = some u → ∃ (c : Value) (n : Nat) (y : DataW H × List MemPlace), cs[i]? = some c ∧ Cell.okWide P W r b0 u c ∧ DataW.trod enc P W base sp held n u [c] = some y := by
  unfold Value.okWide at hval
  rw [ht] at hval
  obtain ⟨cs, rfl, hsz, ts', hts', _, hrow⟩ := hval
  rw [hts] at hts'
  cases hts'
  obtain ⟨fuel, hf⟩ := h
  obtain ⟨xs, n, _, _, hl, hx, hr⟩ := DataW.trod_struct ht hf
  have hfl : fs.size = ts.length := by
    have := congrArg List.length hfs
    simpa using this
  have hget : ∀ (i : Nat) (u : TypeId), ts[i]? = some u → ∃ f : Field, fs[i]? = some f ∧ f.type = u ∧ f.offset = i := by
    intro i u hu
    have hi : i < ts.length := (List.getElem?_eq_some_iff.1 hu).1
    have hfi : fs[i]? = some (fs[i]'(by omega)) := Array.getElem?_eq_getElem _
    have h1 : (fs.toList.map (fun (f : Field) => (f.type, f.offset)))[i]? = some ((fs[i]'(by omega)).type, (fs[i]'(by omega)).offset) := by
      rw [List.getElem?_map]; simp [hfi]
    rw [hfs, List.getElem?_zipIdx, hu] at h1
    simp at h1
    exact ⟨_, hfi, h1.1.symm, h1.2.symm⟩
  have each : ∀ (i : Nat) (u : TypeId), ts[i]? = some u → ∃ c y, cs[i]? = some c ∧ DataW.trod enc P W base sp held n u [c] = some y := by
    intro i u hu
    obtain ⟨f, h1, h2, h3⟩ := hget i u hu
    have hi : i < ts.length := (List.getElem?_eq_some_iff.1 hu).1
    have := hr i f h1
    rw [h2, h3, hc u (List.mem_of_getElem? hu), List.getElem?_eq_getElem (show i < xs.length by omega)] at this
    have hlt0 : i < cs.size := by rw [hsz, hct]; exact hi
    cases hci : cs[i]? with
    | none => rw [Array.getElem?_eq_getElem hlt0] at hci; cases hci
    | some c =>
      have hlt : i < cs.size := by
        rcases Nat.lt_or_ge i cs.size with h5 | h5
        · exact h5
        · rw [Array.getElem?_eq_none h5] at hci; cases hci
      have h5 : (((Value.agg cs).cells.toList.drop i).take 1) = [c] := by
        have hcl : cs.toList[i]? = some c := by simpa using hci
        show (cs.toList.drop i).take 1 = [c]
        rw [List.drop_eq_getElem_cons (by simpa using hlt)]
        rw [List.getElem?_eq_getElem (by simpa using hlt)] at hcl
        simp at hcl
        simp [hcl]
      rw [h5] at this
      exact ⟨c, _, rfl, this⟩
  refine ⟨cs, rfl, ?_, fun i u hu => ?_⟩
  · rw [hsz, hct]
  · obtain ⟨c, y, h1, h2⟩ := each i u hu
    obtain ⟨u', h3, h4⟩ := hrow i c h1
    have hi : i < ts.length := (List.getElem?_eq_some_iff.1 hu).1
    rw [Nat.mod_eq_of_lt hi, hu] at h3
    cases h3
    exact ⟨c, n, y, h1, h4, h2⟩
/-- A slice of numbers, at first. -/
structure IntsOf (k : IntKind) (av : AV) (zs : List Int) : Prop where
  is : SliceIs AHeap.empty av 1 zs.length (zs.map fun z => .s (.int k z))
  wf : ∀ z ∈ zs, (Lit.int k z).wf = true
  cell : av.isCell = true
theorem rows_ints {k : IntKind} : ∀ (l : List (List Int)), (∀ zs ∈ l, zs.length = 1) → l.flatMap (ints [k]) = (l.map (fun zs => zs.headD 0)).map fun z => .s (.int k z)
  | [], _ => rfl
  | zs :: l, h => by
    have h1 := h zs (by simp)
    rw [List.flatMap_cons, rows_ints l fun z hz => h z (by simp [hz])]
    cases zs with
    | nil => simp at h1
    | cons z zs =>
      cases zs with
      | nil => rfl
      | cons _ _ => simp at h1
theorem RowsOf.ints {k : IntKind} {av : AV} {l : List (List Int)} (h : RowsOf [k] av l) (hc : av.isCell = true) : IntsOf k av (l.map fun zs => zs.headD 0) := by
  refine ⟨?_, fun z hz => ?_, hc⟩
  · have := h.is
    rw [rows_ints l h.len] at this
    simpa using this
  · obtain ⟨zs, hzs, rfl⟩ := List.mem_map.1 hz
    have h1 := h.len zs hzs
    cases zs with
    | nil => simp at h1
    | cons z zs => exact h.wf _ hzs 0 k z rfl rfl
/-- A machine by small numbers, as the laws have it. -/
structure SetupA where
  nodes : Int
  lines : Int
  words : Int
  sets : Int
  ways : Int
  out : Int
  inn : Int
  init : AV
  who : AV
  kinds : AV
  addrs : AV
  values : AV
def SetupA.cells (s : SetupA) : List AV :=
  [.s (.int .i64 s.nodes), .s (.int .i64 s.lines), .s (.int .i64 s.words), .s (.int .i64 s.sets), .s (.int .i64 s.ways), .s (.int .i64 s.out), .s (.int .i64 s.inn), s.init, s.who, s.kinds, s.addrs, s.values]
abbrev In64 (z : Int) : Prop := -9223372036854775808 ≤ z ∧ z ≤ 9223372036854775807
theorem in64 {z : Int} (h : (Lit.int .i64 z).wf = true) : In64 z := by
  simp [Lit.wf, IntKind.min, IntKind.max, IntKind.signed, IntKind.bits] at h
  exact ⟨by omega, by omega⟩
structure SetupA.Ok (s : SetupA) (zi zw zk za zv : List Int) : Prop where
  nodes : In64 s.nodes
  lines : In64 s.lines
  words : In64 s.words
  sets : In64 s.sets
  ways : In64 s.ways
  out : In64 s.out
  inn : In64 s.inn
  init : IntsOf .i64 s.init zi
  who : IntsOf .i64 s.who zw
  kinds : IntsOf .i64 s.kinds zk
  addrs : IntsOf .i64 s.addrs za
  values : IntsOf .i64 s.values zv
theorem open_setup {t ti sl e : TypeId} {fs : Array Field} (ht : P.underlying t = some (.struct fs)) (hts : P.cellTypes P.depth t = some [ti, ti, ti, ti, ti, ti, ti, sl, sl, sl, sl, sl])
    (hfs : fs.toList.map (fun (f : Field) => (f.type, f.offset)) = [ti, ti, ti, ti, ti, ti, ti, sl, sl, sl, sl, sl].zipIdx) (hct : P.cellsOf t = 12) (hti : P.underlying ti = some (.int .i64)) (hci : P.cellsOf ti = 1)
    (hsl : P.underlying sl = some (.slice e)) (hcs : P.cellsOf sl = 1) (hee : P.underlying e = some (.int .i64)) (hce : P.cellsOf e = 1)
    {W : World} {r : Reach} {b0 base : Nat} {sp : Nat → Bool} {held : Bool} {v : Value} {d : DataW H} {ps : List MemPlace} (hval : Value.okWide P W r b0 t v) (h : DataW.Trod enc P W base sp held t v d ps) :
    ∃ (s : SetupA) (zi zw zk za zv : List Int), RV ρ0 G0 W (.agg s.cells) v ∧ s.Ok zi zw zk za zv := by
  obtain ⟨cs, rfl, hsz, each⟩ := open_fields ht hts hfs (fun u hu => by
    simp only [List.mem_cons, List.not_mem_nil, or_false] at hu
    rcases hu with rfl | rfl | rfl | rfl | rfl | rfl | rfl | rfl | rfl | rfl | rfl | rfl <;> assumption) hct hval h
  have num : ∀ i : Nat, [ti, ti, ti, ti, ti, ti, ti, sl, sl, sl, sl, sl][i]? = some ti → ∃ z, cs[i]? = some (.int .i64 z) ∧ In64 z := by
    intro i hi
    obtain ⟨c, n, y, h1, _, h3⟩ := each i ti hi
    obtain ⟨z, hz, _, hw⟩ := DataW.trod_int hti h3
    simp at hz
    subst hz
    exact ⟨z, h1, in64 hw⟩
  have row : ∀ i : Nat, [ti, ti, ti, ti, ti, ti, ti, sl, sl, sl, sl, sl][i]? = some sl → ∃ c av zs, cs[i]? = some c ∧ RV ρ0 G0 W av c ∧ IntsOf .i64 av zs := by
    intro i hi
    obtain ⟨c, n, y, h1, h2, h3⟩ := each i sl hi
    obtain ⟨av, l, r1, r2, r3⟩ := open_rows hsl (ks := [.i64]) hce (flat_int hee) h2 h3
    exact ⟨c, av, _, h1, r1, r2.ints r3⟩
  obtain ⟨z0, a0, w0⟩ := num 0 rfl
  obtain ⟨z1, a1, w1⟩ := num 1 rfl
  obtain ⟨z2, a2, w2⟩ := num 2 rfl
  obtain ⟨z3, a3, w3⟩ := num 3 rfl
  obtain ⟨z4, a4, w4⟩ := num 4 rfl
  obtain ⟨z5, a5, w5⟩ := num 5 rfl
  obtain ⟨z6, a6, w6⟩ := num 6 rfl
  obtain ⟨c7, v7, l7, a7, r7, o7⟩ := row 7 rfl
  obtain ⟨c8, v8, l8, a8, r8, o8⟩ := row 8 rfl
  obtain ⟨c9, v9, l9, a9, r9, o9⟩ := row 9 rfl
  obtain ⟨c10, v10, l10, a10, r10, o10⟩ := row 10 rfl
  obtain ⟨c11, v11, l11, a11, r11, o11⟩ := row 11 rfl
  have hcs : cs.toList = [.int .i64 z0, .int .i64 z1, .int .i64 z2, .int .i64 z3, .int .i64 z4, .int .i64 z5, .int .i64 z6, c7, c8, c9, c10, c11] := by
    apply List.ext_getElem?
    intro i
    rcases Nat.lt_or_ge i 12 with hi | hi
    · have : i = 0 ∨ i = 1 ∨ i = 2 ∨ i = 3 ∨ i = 4 ∨ i = 5 ∨ i = 6 ∨ i = 7 ∨ i = 8 ∨ i = 9 ∨ i = 10 ∨ i = 11 := by omega
      rcases this with rfl | rfl | rfl | rfl | rfl | rfl | rfl | rfl | rfl | rfl | rfl | rfl <;> simp [a0, a1, a2, a3, a4, a5, a6, a7, a8, a9, a10, a11]
    · have h1 : cs.toList.length = 12 := by simpa using hsz
      rw [List.getElem?_eq_none (by omega), List.getElem?_eq_none (by simpa using hi)]
  refine ⟨⟨z0, z1, z2, z3, z4, z5, z6, v7, v8, v9, v10, v11⟩, l7, l8, l9, l10, l11, ?_, ⟨w0, w1, w2, w3, w4, w5, w6, o7, o8, o9, o10, o11⟩⟩
  simp only [RV, SetupA.cells]
  refine ⟨cs, rfl, ?_⟩
  rw [hcs]
  exact rcons RV_int (rcons RV_int (rcons RV_int (rcons RV_int (rcons RV_int (rcons RV_int (rcons RV_int (rcons r7 (rcons r8 (rcons r9 (rcons r10 (rcons r11 rnil)))))))))))
end

end Go.Proofs.YtmhbgbiaajbhnaaGreat

namespace Go.Proofs.YtmhbgbiaajbhnaaGreat

def withinM (v n : Int) : Int := if n < 1 then 0 else v % n
def atM (l : List Int) (i : Int) : Int := if i < l.length then l.getD i.toNat 0 else 0
theorem withinM_rng {v n : Int} (h : 1 ≤ n) : 0 ≤ withinM v n ∧ withinM v n < n := by
  unfold withinM
  rw [if_neg (by omega)]
  exact ⟨Int.emod_nonneg _ (by omega), Int.emod_lt_of_pos _ (by omega)⟩
theorem tmod_fix (v n : Int) (h : 1 ≤ n) : v % n = if v.tmod n < 0 then v.tmod n + n else v.tmod n := by
  have h1 := Int.tmod_eq_emod (a := v) (b := n)
  have h2 := Int.emod_nonneg v (b := n) (by omega)
  have h3 := Int.emod_lt_of_pos v (b := n) (by omega)
  rw [h1]
  rcases Decidable.em (0 ≤ v ∨ n ∣ v) with hv | hv
  · rw [if_pos hv]; split <;> omega
  · rw [if_neg hv]; split <;> omega
theorem tmod_rng (v n : Int) (h : 1 ≤ n) : -n < v.tmod n ∧ v.tmod n < n := by
  have h1 := Int.tmod_eq_emod (a := v) (b := n)
  have h2 := Int.emod_nonneg v (b := n) (by omega)
  have h3 := Int.emod_lt_of_pos v (b := n) (by omega)
  rw [h1]
  rcases Decidable.em (0 ≤ v ∨ n ∣ v) with hv | hv
  · rw [if_pos hv]; omega
  · rw [if_neg hv]; omega
theorem within64 (H : AHeap) (v n : Int) (hn : n ≤ 9223372036854775807) : cl 8 [I v, I n] H = some (I (withinM v n), H) := by
  refine run_cl rfl rfl (rn_8 _ _ _ _ ?_)
  by_cases h1 : n < 1
  · simp -implicitDefEqProofs only [bnd_some, bo_some, condK_true, condK_false, gdA_undef, decide_true, decide_false, Int.reduceLE, Int.reduceLT, Int.reduceEq, Int.reduceNeg, Int.reduceAdd, gd_tt, gd_tf, gd_ft, gd_ff, unG_pure, lift_some, bnd_lift, Option.map_some, Option.bind_some, fieldPtr_ref, fieldPtr_ip, nil_ref, nil_ip, nil_fn, ex_tup, fl_agg, List.getElem?_cons_zero, List.getElem?_cons_succ, Nat.zero_add, Nat.add_zero, Nat.reduceAdd, pk_t, pk_f, lss_int, leq_int, gtr_int, geq_int, eql_int, neq_int, not_bool, beq_self_eq_true, if_true, Bool.false_eq_true, if_false, List.nil_append, List.cons_append, List.append_nil, alc_eq, mkm_eq, nNew, nPut, bNew, bPut, nGrd, bGrd, sh_8, h1, withinM]
  · have e1 := fun (k : IntKind) (t : TypeId) => rem_int (P := Tryz.prog) (k := k) (t := t) (a := v) (b := n) (by omega)
    have e2 := tmod_fix v n (by omega)
    have e3 := tmod_rng v n (by omega)
    by_cases h2 : v.tmod n < 0
    · have w := wrap_i64 (a := v.tmod n + n) (by omega) (by omega)
      rw [if_pos h2] at e2
      simp -implicitDefEqProofs only [bnd_some, bo_some, condK_true, condK_false, gdA_undef, decide_true, decide_false, Int.reduceLE, Int.reduceLT, Int.reduceEq, Int.reduceNeg, Int.reduceAdd, gd_tt, gd_tf, gd_ft, gd_ff, unG_pure, lift_some, bnd_lift, Option.map_some, Option.bind_some, fieldPtr_ref, fieldPtr_ip, nil_ref, nil_ip, nil_fn, ex_tup, fl_agg, List.getElem?_cons_zero, List.getElem?_cons_succ, Nat.zero_add, Nat.add_zero, Nat.reduceAdd, pk_t, pk_f, lss_int, leq_int, gtr_int, geq_int, eql_int, neq_int, not_bool, beq_self_eq_true, if_true, Bool.false_eq_true, if_false, List.nil_append, List.cons_append, List.append_nil, alc_eq, mkm_eq, nNew, nPut, bNew, bPut, nGrd, bGrd, sh_8, jn_8x0, h1, e1, h2, add_int, w, withinM, e2]
    · rw [if_neg h2] at e2
      simp -implicitDefEqProofs only [bnd_some, bo_some, condK_true, condK_false, gdA_undef, decide_true, decide_false, Int.reduceLE, Int.reduceLT, Int.reduceEq, Int.reduceNeg, Int.reduceAdd, gd_tt, gd_tf, gd_ft, gd_ff, unG_pure, lift_some, bnd_lift, Option.map_some, Option.bind_some, fieldPtr_ref, fieldPtr_ip, nil_ref, nil_ip, nil_fn, ex_tup, fl_agg, List.getElem?_cons_zero, List.getElem?_cons_succ, Nat.zero_add, Nat.add_zero, Nat.reduceAdd, pk_t, pk_f, lss_int, leq_int, gtr_int, geq_int, eql_int, neq_int, not_bool, beq_self_eq_true, if_true, Bool.false_eq_true, if_false, List.nil_append, List.cons_append, List.append_nil, alc_eq, mkm_eq, nNew, nPut, bNew, bPut, nGrd, bGrd, sh_8, jn_8x0, h1, e1, h2, withinM, e2]
theorem at_sp (H : AHeap) {x : AV} {l : List Int} (hx : SliceIs H x 1 l.length (l.map I)) {i : Int} (h0 : 0 ≤ i) : cl 10 [x, I i] H = some (I (atM l i), H) := by
  refine run_cl rfl rfl (rn_10 _ _ _ _ ?_)
  have e1 := hx.lnS
  by_cases h : i < l.length
  · have a1 := hx.ix (k := .i64) h0 h
    have a2 := hx.ld (i := i.toNat) (by omega)
    have hlt : i.toNat < l.length := by omega
    rw [List.getElem?_map, List.getElem?_eq_getElem hlt] at a2
    have a2' : ld (elemPtr x i.toNat) H = some (I l[i.toNat], H) := a2
    have e : atM l i = l[i.toNat] := by
      unfold atM
      rw [if_pos h, List.getD_eq_getElem?_getD, List.getElem?_eq_getElem hlt]; rfl
    simp -implicitDefEqProofs only [bnd_some, bo_some, condK_true, condK_false, gdA_undef, decide_true, decide_false, Int.reduceLE, Int.reduceLT, Int.reduceEq, Int.reduceNeg, Int.reduceAdd, gd_tt, gd_tf, gd_ft, gd_ff, unG_pure, lift_some, bnd_lift, Option.map_some, Option.bind_some, fieldPtr_ref, fieldPtr_ip, nil_ref, nil_ip, nil_fn, ex_tup, fl_agg, List.getElem?_cons_zero, List.getElem?_cons_succ, Nat.zero_add, Nat.add_zero, Nat.reduceAdd, pk_t, pk_f, lss_int, leq_int, gtr_int, geq_int, eql_int, neq_int, not_bool, beq_self_eq_true, if_true, Bool.false_eq_true, if_false, List.nil_append, List.cons_append, List.append_nil, alc_eq, mkm_eq, nNew, nPut, bNew, bPut, nGrd, bGrd, sh_10, e1, h, a1, a2', e]
  · simp -implicitDefEqProofs only [bnd_some, bo_some, condK_true, condK_false, gdA_undef, decide_true, decide_false, Int.reduceLE, Int.reduceLT, Int.reduceEq, Int.reduceNeg, Int.reduceAdd, gd_tt, gd_tf, gd_ft, gd_ff, unG_pure, lift_some, bnd_lift, Option.map_some, Option.bind_some, fieldPtr_ref, fieldPtr_ip, nil_ref, nil_ip, nil_fn, ex_tup, fl_agg, List.getElem?_cons_zero, List.getElem?_cons_succ, Nat.zero_add, Nat.add_zero, Nat.reduceAdd, pk_t, pk_f, lss_int, leq_int, gtr_int, geq_int, eql_int, neq_int, not_bool, beq_self_eq_true, if_true, Bool.false_eq_true, if_false, List.nil_append, List.cons_append, List.append_nil, alc_eq, mkm_eq, nNew, nPut, bNew, bPut, nGrd, bGrd, sh_10, e1, h, atM]
/-- x[:hi] -/
theorem SliceIs.upto {H : AHeap} {x : AV} {m n : Nat} {cells : List AV} (h : SliceIs H x m n cells) {k : IntKind} {hi : Int} (h0 : 0 ≤ hi) (h1 : hi ≤ n) : ∃ y, slS m x none (some (.s (.int k hi))) none = some y ∧ SliceIs H y m hi.toNat (cells.take (hi.toNat * m)) := by
  obtain ⟨hl, h⟩ := h
  have hlm : hi.toNat * m ≤ n * m := Nat.mul_le_mul_right _ (by omega)
  cases x with
  | sl r g off esz len cap ex =>
    obtain ⟨rfl, rfl, ⟨hr, hc⟩, ty, all, h2, h3, h4⟩ := h
    refine ⟨_, slS_to h0 (by omega), by rw [List.length_take, hl]; omega, rfl, rfl, ⟨hr, by omega⟩, ty, all, h2, by omega, ?_⟩
    rw [h4, List.take_take, Nat.min_eq_left hlm]
  | vs k' esz cs =>
    obtain ⟨rfl, rfl, rfl⟩ := h
    refine ⟨.vs hi.toNat esz (cs.take (hi.toNat * esz)), ?_, by rw [List.length_take, hl]; omega, rfl, rfl, rfl⟩
    simp only [slS, boundA, h0, if_true]
    rw [if_pos ⟨trivial, Nat.zero_le _, by omega⟩]
    simp
  | s v =>
    cases v with
    | slice a b c =>
      cases a with
      | none =>
        obtain ⟨rfl, rfl, rfl⟩ := h
        have h3 : hi = 0 := by omega
        subst h3
        refine ⟨zN, by simp [slS, boundA], ?_⟩
        refine ⟨?_, rfl, rfl, rfl⟩
        simp
      | some a => exact h.elim
    | _ => exact h.elim
  | _ => exact h.elim
theorem copy_sp (H : AHeap) {x : AV} {l : List Int} (hx : SliceIs H x 1 l.length (l.map I)) (hl : l.length < 1000000000) : cl 13 [x] H = some (dat l, H) := by
  by_cases h0 : l = []
  · subst h0
    have e1 : app 3 1 8 zN x H.guard = some (zN, H.guard) := by
      obtain ⟨c1, c2⟩ := hx.guard.cells_
      simp only [app, c1, c2]
      rfl
    refine pure_cl rfl rfl (rn_13 _ _ _ (r := (zN, H.guard)) ?_) (by rw [dat, vsl_nil]; exact freeze_s)
    simp -implicitDefEqProofs only [bnd_some, bo_some, condK_true, condK_false, gdA_undef, decide_true, decide_false, Int.reduceLE, Int.reduceLT, Int.reduceEq, Int.reduceNeg, Int.reduceAdd, gd_tt, gd_tf, gd_ft, gd_ff, unG_pure, lift_some, bnd_lift, Option.map_some, Option.bind_some, fieldPtr_ref, fieldPtr_ip, nil_ref, nil_ip, nil_fn, ex_tup, fl_agg, List.getElem?_cons_zero, List.getElem?_cons_succ, Nat.zero_add, Nat.add_zero, Nat.reduceAdd, pk_t, pk_f, lss_int, leq_int, gtr_int, geq_int, eql_int, neq_int, not_bool, beq_self_eq_true, if_true, Bool.false_eq_true, if_false, List.nil_append, List.cons_append, List.append_nil, alc_eq, mkm_eq, nNew, nPut, bNew, bPut, nGrd, bGrd, sh_13, e1]
  · have e1 := app_nil (e := 3) (by_ := 8) hx.guard (ints_all l) (fun e => h0 (List.eq_nil_of_length_eq_zero e)) (by unfold most; omega) (by unfold most; omega)
    refine pure_cl rfl rfl (rn_13 _ _ _ (r := (.sl H.next 0 0 1 l.length l.length false, H.guard.new (.blk 0 3 (l.map I)))) ?_) (freeze_dat h0 (Nat.le_refl _) (getNew_is rfl))
    simp -implicitDefEqProofs only [bnd_some, bo_some, condK_true, condK_false, gdA_undef, decide_true, decide_false, Int.reduceLE, Int.reduceLT, Int.reduceEq, Int.reduceNeg, Int.reduceAdd, gd_tt, gd_tf, gd_ft, gd_ff, unG_pure, lift_some, bnd_lift, Option.map_some, Option.bind_some, fieldPtr_ref, fieldPtr_ip, nil_ref, nil_ip, nil_fn, ex_tup, fl_agg, List.getElem?_cons_zero, List.getElem?_cons_succ, Nat.zero_add, Nat.add_zero, Nat.reduceAdd, pk_t, pk_f, lss_int, leq_int, gtr_int, geq_int, eql_int, neq_int, not_bool, beq_self_eq_true, if_true, Bool.false_eq_true, if_false, List.nil_append, List.cons_append, List.append_nil, alc_eq, mkm_eq, nNew, nPut, bNew, bPut, nGrd, bGrd, sh_13, e1]
theorem cut_sp (H : AHeap) {x : AV} {l : List Int} (hx : SliceIs H x 1 l.length (l.map I)) {n : Int} (h0 : 0 ≤ n) (hn : n < 1000000000) : cl 9 [x, I n] H = some (dat (l.take n.toNat), H) := by
  refine run_cl rfl rfl (rn_9 _ _ _ _ ?_)
  have e1 := hx.lnS
  obtain ⟨y, e2, e3⟩ := hx.upto (k := .i64) (hi := min (l.length : Int) n) (by omega) (by omega)
  have ht : (min (l.length : Int) n).toNat = (l.take n.toNat).length := by rw [List.length_take]; omega
  rw [ht, Nat.mul_one, ← List.map_take, List.length_take] at e3
  have hm : l.take (min n.toNat l.length) = l.take n.toNat := by
    rcases Nat.le_total n.toNat l.length with h | h
    · rw [Nat.min_eq_left h]
    · rw [Nat.min_eq_right h, List.take_of_length_le (Nat.le_refl _), List.take_of_length_le h]
  rw [hm, ← List.length_take] at e3
  have e4 := copy_sp H e3 (by rw [List.length_take]; omega)
  simp -implicitDefEqProofs only [bnd_some, bo_some, condK_true, condK_false, gdA_undef, decide_true, decide_false, Int.reduceLE, Int.reduceLT, Int.reduceEq, Int.reduceNeg, Int.reduceAdd, gd_tt, gd_tf, gd_ft, gd_ff, unG_pure, lift_some, bnd_lift, Option.map_some, Option.bind_some, fieldPtr_ref, fieldPtr_ip, nil_ref, nil_ip, nil_fn, ex_tup, fl_agg, List.getElem?_cons_zero, List.getElem?_cons_succ, Nat.zero_add, Nat.add_zero, Nat.reduceAdd, pk_t, pk_f, lss_int, leq_int, gtr_int, geq_int, eql_int, neq_int, not_bool, beq_self_eq_true, if_true, Bool.false_eq_true, if_false, List.nil_append, List.cons_append, List.append_nil, alc_eq, mkm_eq, nNew, nPut, bNew, bPut, nGrd, bGrd, sh_9, e1, min_int, e2, e4]

end Go.Proofs.YtmhbgbiaajbhnaaGreat

namespace Go.Proofs.YtmhbgbiaajbhnaaGreat

def SetupA.cfg (s : SetupA) (zi : List Int) : Cfg :=
  ⟨1 + withinM s.nodes 4, 1 + withinM s.lines 4, 1 + withinM s.words 2, 1 + withinM s.sets 2, 1 + withinM s.ways 2, 1 + withinM s.out 3, 1 + withinM s.inn 3, zi.take ((1 + withinM s.lines 4) * (1 + withinM s.words 2)).toNat⟩
theorem ints_is {x : AV} {l : List Int} (h : SliceIs AHeap.empty x 1 l.length (l.map I)) (H : AHeap) : SliceIs H x 1 l.length (l.map I) :=
  h.of_get (Nat.zero_le _) fun r _ hr => absurd hr (Nat.not_lt_zero r)
theorem one_within (v : Int) {n : Int} (h : 1 ≤ n) (h' : n ≤ 1000) : 1 ≤ 1 + withinM v n ∧ 1 + withinM v n ≤ n ∧ IntKind.wrap .i64 (1 + withinM v n) = 1 + withinM v n := by
  have := withinM_rng (v := v) h
  exact ⟨by omega, by omega, wrap_i64 (by omega) (by omega)⟩
theorem cfg_ok (s : SetupA) (zi : List Int) : (s.cfg zi).ok = true := by
  have a1 := one_within s.nodes (n := 4) (by omega) (by omega)
  have a2 := one_within s.lines (n := 4) (by omega) (by omega)
  have a3 := one_within s.words (n := 2) (by omega) (by omega)
  have a4 := one_within s.sets (n := 2) (by omega) (by omega)
  have a5 := one_within s.ways (n := 2) (by omega) (by omega)
  have a6 := one_within s.out (n := 3) (by omega) (by omega)
  have a7 := one_within s.inn (n := 3) (by omega) (by omega)
  have hm : 0 ≤ (1 + withinM s.lines 4) * (1 + withinM s.words 2) := Int.mul_nonneg (by omega) (by omega)
  simp only [Cfg.ok, SetupA.cfg, Bool.and_eq_true, List.length_take]
  obtain ⟨b1, c1, _⟩ := a1
  obtain ⟨b2, c2, _⟩ := a2
  obtain ⟨b3, c3, _⟩ := a3
  obtain ⟨b4, c4, _⟩ := a4
  obtain ⟨b5, c5, _⟩ := a5
  obtain ⟨b6, c6, _⟩ := a6
  obtain ⟨b7, c7, _⟩ := a7
  generalize (1 + withinM s.lines 4) * (1 + withinM s.words 2) = z at hm ⊢
  exact ⟨⟨⟨⟨⟨⟨⟨⟨decide_eq_true b1, decide_eq_true (by omega)⟩, ⟨decide_eq_true b2, decide_eq_true (by omega)⟩⟩, ⟨decide_eq_true b3, decide_eq_true (by omega)⟩⟩, ⟨decide_eq_true b4, decide_eq_true (by omega)⟩⟩, ⟨decide_eq_true b5, decide_eq_true (by omega)⟩⟩, ⟨decide_eq_true b6, decide_eq_true (by omega)⟩⟩, ⟨decide_eq_true b7, decide_eq_true (by omega)⟩⟩, decide_eq_true (by omega)⟩
theorem frz_cfg (c : Cfg) : Frz 9 (.agg c.av) := frz_agg fun x hx => by
  simp only [Cfg.av, List.mem_cons, List.not_mem_nil, or_false] at hx
  rcases hx with rfl | rfl | rfl | rfl | rfl | rfl | rfl | rfl <;> first | exact frz_s | exact frz_dat
theorem config_sp (H : AHeap) {s : SetupA} {zi zw zk za zv : List Int} (h : s.Ok zi zw zk za zv) (hi : SliceIs AHeap.empty s.init 1 zi.length (zi.map I)) (hc : s.init.isCell = true ∧ s.who.isCell = true ∧ s.kinds.isCell = true ∧ s.addrs.isCell = true ∧ s.values.isCell = true) :
    cl 4 [.agg s.cells] H = some (.agg (s.cfg zi).av, H) := by
  refine pure_val rfl rfl (rn_4 _ _ _) ?_ (frz_cfg _)
  have a1 := one_within s.nodes (n := 4) (by omega) (by omega)
  have a2 := one_within s.lines (n := 4) (by omega) (by omega)
  have a3 := one_within s.words (n := 2) (by omega) (by omega)
  have a4 := one_within s.sets (n := 2) (by omega) (by omega)
  have a5 := one_within s.ways (n := 2) (by omega) (by omega)
  have a6 := one_within s.out (n := 3) (by omega) (by omega)
  have a7 := one_within s.inn (n := 3) (by omega) (by omega)
  have hm : 0 ≤ (1 + withinM s.lines 4) * (1 + withinM s.words 2) := Int.mul_nonneg (by omega) (by omega)
  have hm2 : (1 + withinM s.lines 4) * (1 + withinM s.words 2) ≤ 4 * 2 := Int.mul_le_mul (by omega) (by omega) (by omega) (by omega)
  have w := wrap_i64 (a := (1 + withinM s.lines 4) * (1 + withinM s.words 2)) (by omega) (by omega)
  have e1 := fun H v => within64 H v 4 (by omega)
  have e2 := fun H v => within64 H v 2 (by omega)
  have e3 := fun H v => within64 H v 3 (by omega)
  have e4 := fun H => cut_sp H (ints_is hi H) hm (by omega)
  have hall : s.cells.all AV.isCell = true := by
    simp only [SetupA.cells, List.all_cons, List.all_nil, hc, Bool.and_true]
    rfl
  simp only [SetupA.cells] at hall
  have ev : ∀ a b c d e f k : Int, bd 26 [(0, I a), (1, I b), (2, I c), (3, I d), (4, I e), (5, I f), (6, I k)] = some (.agg [I a, I b, I c, I d, I e, I f, I k, zN]) := fun _ _ _ _ _ _ _ => by
    simp -implicitDefEqProofs only [bnd_some, bo_some, condK_true, condK_false, gdA_undef, decide_true, decide_false, Int.reduceLE, Int.reduceLT, Int.reduceEq, Int.reduceNeg, Int.reduceAdd, gd_tt, gd_tf, gd_ft, gd_ff, unG_pure, lift_some, bnd_lift, Option.map_some, Option.bind_some, fieldPtr_ref, fieldPtr_ip, nil_ref, nil_ip, nil_fn, ex_tup, fl_agg, List.getElem?_cons_zero, List.getElem?_cons_succ, Nat.zero_add, Nat.add_zero, Nat.reduceAdd, pk_t, pk_f, lss_int, leq_int, gtr_int, geq_int, eql_int, neq_int, not_bool, beq_self_eq_true, if_true, Bool.false_eq_true, if_false, List.nil_append, List.cons_append, List.append_nil, alc_eq, mkm_eq, nNew, nPut, bNew, bPut, nGrd, bGrd, bd_26, bldA, fillA, pl_26]
    rfl
  have zc : zN.cells = [zN] := rfl
  have zi' : zN.isCell = true := rfl
  simp -implicitDefEqProofs only [bnd_some, bo_some, condK_true, condK_false, gdA_undef, decide_true, decide_false, Int.reduceLE, Int.reduceLT, Int.reduceEq, Int.reduceNeg, Int.reduceAdd, gd_tt, gd_tf, gd_ft, gd_ff, unG_pure, lift_some, bnd_lift, Option.map_some, Option.bind_some, fieldPtr_ref, fieldPtr_ip, nil_ref, nil_ip, nil_fn, ex_tup, fl_agg, List.getElem?_cons_zero, List.getElem?_cons_succ, Nat.zero_add, Nat.add_zero, Nat.reduceAdd, pk_t, pk_f, lss_int, leq_int, gtr_int, geq_int, eql_int, neq_int, not_bool, beq_self_eq_true, if_true, Bool.false_eq_true, if_false, List.nil_append, List.cons_append, List.append_nil, alc_eq, mkm_eq, nNew, nPut, bNew, bPut, nGrd, bGrd, ldN_is, ldN_lt, ldaN_is, ldaN_lt, stN_is, stN_lt, Nat.lt_add_one, ne_eq, nx1, nx2, nx3, ny1, ny2, ny3, not_false_eq_true, List.length_cons, List.length_nil, Nat.reduceLeDiff, setAt, List.take_succ_cons, List.take_zero, List.drop_succ_cons, List.drop_zero, cells_dat, cells_int, cells_bool, cells_agg, List.all_cons, List.all_nil, isCell_int, isCell_bool, isCell_dat, isCell_ref, isCell_nil, isCell_vsl, cells_vsl, av_len_cfg, av_len_pkt, av_len_opn, av_len_evn, av_len_ent, av_len_row, av_len_deal, av_len_pck, tk_cfg, tk_pkt, tk_opn, tk_evn, tk_ent, tk_row, tk_deal, tk_pck, all_cfg, all_pkt, all_opn, all_evn, all_ent, all_row, all_deal, all_pck, List.drop_nil, Bool.and_true, Bool.and_self, and_self, Nat.le_refl, true_and, and_true, Nat.le_add_right, leS, ltS, sh_4, box_agg hall, SetupA.cells, e1, e2, e3, add_int, a1, a2, a3, a4, a5, a6, a7, ev, mul_int, w, e4, zi']
  rfl

end Go.Proofs.YtmhbgbiaajbhnaaGreat

namespace Go.Proofs.YtmhbgbiaajbhnaaGreat

def kindOf (z : Int) : Int := [1, 2, 3, 1, 2, 1, 4].getD (withinM z 7).toNat 0
def opOf (c : Cfg) (zk za zv : List Int) (i : Nat) : Opn :=
  ⟨kindOf (atM zk i), withinM (atM za i) (c.lines * c.words), if kindOf (atM zk i) = 2 ∨ kindOf (atM zk i) = 3 then atM zv i else 0⟩
def progStep (c : Cfg) (zw zk za zv : List Int) (ps : List (List Opn)) (i : Nat) : List (List Opn) :=
  let n := (withinM (atM zw i) c.nodes).toNat
  if (ps.getD n []).length < 24 then ps.set n (ps.getD n [] ++ [opOf c zk za zv i]) else ps
def progsTo (c : Cfg) (zw zk za zv : List Int) : Nat → List (List Opn)
  | 0 => List.replicate c.nodes.toNat []
  | i + 1 => progStep c zw zk za zv (progsTo c zw zk za zv i) i
def progsOf (c : Cfg) (zw zk za zv : List Int) (most : Nat) : List (List Opn) := progsTo c zw zk za zv (min zw.length most)
def outO (ps : List (List Opn)) : List Cell := ps.map fun l => .seq 3 (l.flatMap Opn.av)
theorem progsTo_len (c : Cfg) (zw zk za zv : List Int) : ∀ i, (progsTo c zw zk za zv i).length = c.nodes.toNat
  | 0 => by simp [progsTo]
  | i + 1 => by
    simp only [progsTo, progStep]
    split
    · rw [List.length_set, progsTo_len c zw zk za zv i]
    · exact progsTo_len c zw zk za zv i
theorem ix_blk {H : AHeap} {r n j : Nat} {ty : TypeId} {xs : List AV} (hg : H.get r = .blk 0 ty xs) (h : j < n) {k : IntKind} : ix 1 (.sl r 0 0 1 n n true) (.s (.int k j)) H = some (.ref r 0 j, H) := by
  have h1 : (0 : Int) ≤ j ∧ (j : Int) < n := by omega
  simp [ix, lookB, ixO, h, watchV, hg, genO, AObj.gen]
theorem outO_get {ps : List (List Opn)} {j : Nat} (h : j < ps.length) : (outO ps)[j]? = some (.seq 3 ((ps.getD j []).flatMap Opn.av)) := by
  simp [outO, List.getD_eq_getElem?_getD, List.getElem?_eq_getElem h]
theorem outO_set {ps : List (List Opn)} {j : Nat} {l : List Opn} : (outO ps).set j (.seq 3 (l.flatMap Opn.av)) = outO (ps.set j l) := by
  simp [outO, List.map_set]
section
variable {H : AHeap} {s : SetupA} {zi zw zk za zv : List Int}
/-- One round of Programs. -/
theorem progs_round (h : s.Ok zi zw zk za zv) (hi : SliceIs AHeap.empty s.init 1 zi.length (zi.map I)) (hw : SliceIs AHeap.empty s.who 1 zw.length (zw.map I)) (hk : SliceIs AHeap.empty s.kinds 1 zk.length (zk.map I)) (ha : SliceIs AHeap.empty s.addrs 1 za.length (za.map I)) (hv : SliceIs AHeap.empty s.values 1 zv.length (zv.map I))
    {c : Cfg} (hc : c.ok = true) {p q r n : Nat} {ty ty' : TypeId} (hp : p < H.next) (hq : q < H.next) (gp : H.get p = .blk 0 ty s.cells) (gq : H.get q = .blk 0 ty' c.av) {b : Nat} {ps : List (List Opn)} (G : Good b H (upd nil0 r (outO ps))) (hb : H.base ≤ b) (hn : ps.length = n) (hnc : (n : Int) = c.nodes)
    {i : Nat} {mo : Int} (him : (i : Int) < mo) (hm : mo ≤ 1000) (hil : i < zw.length) (hz : ∀ j, j < n → ps.getD j [] = [] → ld (.ref r 0 j) H = some (zN, H)) :
    ∃ H', lp_5x0 cl [I mo, .ref p 0 0, .ref q 0 0, .sl r 0 0 1 n n true, I i] H = lp_5x0 cl [I mo, .ref p 0 0, .ref q 0 0, .sl r 0 0 1 n n true, I (i + 1 : Nat)] H' ∧ Good b H' (upd nil0 r (outO (progStep c zw zk za zv ps i))) ∧ Step b H H' ∧ (∀ j, j < n → (progStep c zw zk za zv ps i).getD j [] = [] → ld (.ref r 0 j) H' = some (zN, H')) := by
  have Bd := cfgB hc
  have e8 : ld (.ref p 0 8) H = some (s.who, H) := by rw [ld_blk gp]; rfl
  have e9 : ld (.ref p 0 9) H = some (s.kinds, H) := by rw [ld_blk gp]; rfl
  have e10 : ld (.ref p 0 10) H = some (s.addrs, H) := by rw [ld_blk gp]; rfl
  have e11 : ld (.ref p 0 11) H = some (s.values, H) := by rw [ld_blk gp]; rfl
  have f0 : ld (.ref q 0 0) H = some (I c.nodes, H) := by rw [ld_blk gq]; rfl
  have f1 : ld (.ref q 0 1) H = some (I c.lines, H) := by rw [ld_blk gq]; rfl
  have f2 : ld (.ref q 0 2) H = some (I c.words, H) := by rw [ld_blk gq]; rfl
  have w0 := fun H => (ints_is hw H).lnS
  have h1 : (i : Int) < zw.length := by omega
  have a1 := fun H => at_sp H (ints_is hk H) (i := (i : Int)) (by omega)
  have a2 := fun H => at_sp H (ints_is ha H) (i := (i : Int)) (by omega)
  have a3 := fun H => at_sp H (ints_is hv H) (i := (i : Int)) (by omega)
  have k1 := fun H v => within64 H v 7 (by omega)
  have hlw := Bd.addrs
  have w := wrap_i64 (a := c.lines * c.words) (by omega) (by omega)
  have k2 := fun H v => within64 H v (c.lines * c.words) (by omega)
  have k3 := fun H v => within64 H v c.nodes (by have := Bd.nodes; omega)
  have eb7 : ∀ H, bs 22 7 [(0, I 1), (1, I 2), (2, I 3), (3, I 1), (4, I 2), (5, I 1), (6, I 4)] H = some (.sl H.next 0 0 1 7 7 true, H.new (.blk 0 3 [I 1, I 2, I 3, I 1, I 2, I 1, I 4])) := fun H =>
    (bs_22 (by decide)).trans rfl
  let b7 : AObj := .blk 0 3 [I 1, I 2, I 3, I 1, I 2, I 1, I 4]
  let Hc := (H.new b7).new (.blk 0 38 [zI, zI, zI])
  have hK := withinM_rng (v := atM zk i) (n := 7) (by omega)
  have s7 : SliceIs Hc (.sl H.next 0 0 1 7 7 true) 1 7 [I 1, I 2, I 3, I 1, I 2, I 1, I 4] := (sl_new (n := 7) (m := 1) rfl).new _
  have i7 := s7.ix (k := .i64) hK.1 hK.2
  have l7 := s7.ld (i := (withinM (atM zk i) 7).toNat) (by omega)
  have l7' : ld (elemPtr (.sl H.next 0 0 1 7 7 true) (withinM (atM zk i) 7).toNat) Hc = some (I (kindOf (atM zk i)), Hc) := by
    rw [l7]
    unfold kindOf
    generalize hk' : (withinM (atM zk i) 7).toNat = kk
    have : kk < 7 := by omega
    match kk, this with
    | 0, _ | 1, _ | 2, _ | 3, _ | 4, _ | 5, _ | 6, _ => rfl
  obtain ⟨o, ho⟩ : ∃ o : Opn, o = opOf c zk za zv i := ⟨_, rfl⟩
  let Hd := (H.new b7).new (.blk 0 38 o.av)
  have hcn := withinM_rng (v := atM zw i) (n := c.nodes) (by have := Bd.nodes; omega)
  obtain ⟨j, hj⟩ : ∃ j : Nat, withinM (atM zw i) c.nodes = j := ⟨(withinM (atM zw i) c.nodes).toNat, by omega⟩
  have hjn : j < n := by omega
  have wi := fun H => (ints_is hw H).ix (k := .i64) (i := (i : Int)) (by omega) h1
  have wl : ∀ H, ld (elemPtr s.who (i : Int).toNat) H = some (I (atM zw i), H) := fun H => by
    rw [Int.toNat_natCast, (ints_is hw H).ld hil, List.getElem?_map, List.getElem?_eq_getElem hil]
    unfold atM
    rw [if_pos h1, Int.toNat_natCast, List.getD_eq_getElem?_getD, List.getElem?_eq_getElem hil]
    rfl
  have G1 : Good b Hd (upd nil0 r (outO ps)) := (G.new _).new _
  have og := outO_get (ps := ps) (j := j) (by omega)
  obtain ⟨x, hx, cu⟩ := G1.seq upd_same og
  have hlen := (cu.is (by decide) (flat_len av_len_opn _)).lnS
  have hg : ∃ ty xs, Hd.get r = .blk 0 ty xs := by
    obtain ⟨_, τ, hR⟩ := G1
    obtain ⟨ty, xs, hg, _⟩ := (hR r _ upd_same).blk
    exact ⟨ty, xs, hg⟩
  obtain ⟨rty, rxs, hg⟩ := hg
  have ix1 := ix_blk (k := .i64) hg hjn
  have h6 : (i : Int) + 1 = ((i + 1 : Nat) : Int) := by omega
  have h7 := wrap_i64 (a := ((i + 1 : Nat) : Int)) (by omega) (by omega)
  have f0' : ld (.ref q 0 0) Hd = some (I c.nodes, Hd) := by
    simp only [Hd]
    rw [ldN_lt (by rw [nNew]; omega), ldN_lt hq, f0]; rfl
  have e8' : ld (.ref p 0 8) Hd = some (s.who, Hd) := by
    simp only [Hd]
    rw [ldN_lt (by rw [nNew]; omega), ldN_lt hp, e8]; rfl
  have hzd : ∀ j, j < n → ps.getD j [] = [] → ld (.ref r 0 j) Hd = some (zN, Hd) := fun j' h1 h2 => by
    simp only [Hd]
    rw [ldN_lt (by rw [nNew]; have := G.lt upd_same; omega), ldN_lt (G.lt upd_same), hz j' h1 h2]; rfl
  have sd : Step b H Hd := (Step.new _ G.1).trans (Step.new _ (G.new _).1)
  have tail : ∃ H', jn_5x0 cl (I mo) (.ref p 0 0) (.ref q 0 0) (.sl r 0 0 1 n n true) (I i) (.ref (H.next + 1) 0 0) Hd = lp_5x0 cl [I mo, .ref p 0 0, .ref q 0 0, .sl r 0 0 1 n n true, I (i + 1 : Nat)] H' ∧ Good b H' (upd nil0 r (outO (progStep c zw zk za zv ps i))) ∧ Step b H H' ∧ (∀ j, j < n → (progStep c zw zk za zv ps i).getD j [] = [] → ld (.ref r 0 j) H' = some (zN, H')) := by
    by_cases hl : (ps.getD j []).length < 24
    · have hl' : ((ps.getD j []).length : Int) < 24 := by omega
      obtain ⟨x', Hf, t1, fit, n1, b1, k1'⟩ := (cu.new (.blk 0 38 o.av)).app (e := 38) (by_ := 24) (by rw [bNew]; exact hb) (by decide) (flat_len av_len_opn _) (sl_new (ex := true) (n := 1) (m := 3) (l := o.av) rfl) (all_opn o) (by unfold most; omega) (by unfold most; omega)
      have hrl : r < Hd.next := G1.lt upd_same
      have hxr : nameOf x ≠ some r := by
        rcases cu.own with ⟨rfl, _⟩ | ⟨r', gg, off, n', cap, ex, ty2, all, rfl, kr, _⟩
        · intro e; cases e
        · intro e; simp only [nameOf, Option.some.injEq] at e; exact kr e
      have hgf : Hf.get r = .blk 0 rty rxs := by
        rw [k1' r (by rw [nNew]; omega) hxr, getNew_lt hrl, hg]
      have ix2 := ix_blk (k := .i64) hgf hjn
      obtain ⟨Hg, t2, G2, s2, n2⟩ := (G1.new (.blk 0 38 o.av)).seat upd_same og (cu.new _) n1 (by rw [b1, bNew]; exact hb) k1' fit
      have hfs : Step b (Hd.new (.blk 0 38 o.av)) Hf := ⟨b1, n1, fun r' hr' => k1' r' (by have := G1.1; rw [nNew]; omega) (cu.low hr')⟩
      refine ⟨Hg, ?_, ?_, ((sd.trans (Step.new _ G1.1)).trans hfs).trans s2, ?_⟩
      · have ldo : lda 3 (.ref (H.next + 1) 0 0) Hd = some (.agg o.av, Hd) := (lda_blk (off := 0) (n := 3) (xs := o.av) (getNew_is (by rw [nNew])) (Nat.le_refl 3)).trans rfl
        have eb := bsl_one (e := 38) (m := 3) (z := [zI, zI, zI]) (v := .agg o.av) (H := Hd) rfl rfl (all_opn o)
        simp only [cells_agg] at eb
        simp -implicitDefEqProofs only [bnd_some, bo_some, condK_true, condK_false, gdA_undef, decide_true, decide_false, Int.reduceLE, Int.reduceLT, Int.reduceEq, Int.reduceNeg, Int.reduceAdd, gd_tt, gd_tf, gd_ft, gd_ff, unG_pure, lift_some, bnd_lift, Option.map_some, Option.bind_some, fieldPtr_ref, fieldPtr_ip, nil_ref, nil_ip, nil_fn, ex_tup, fl_agg, List.getElem?_cons_zero, List.getElem?_cons_succ, Nat.zero_add, Nat.add_zero, Nat.reduceAdd, pk_t, pk_f, lss_int, leq_int, gtr_int, geq_int, eql_int, neq_int, not_bool, beq_self_eq_true, if_true, Bool.false_eq_true, if_false, List.nil_append, List.cons_append, List.append_nil, alc_eq, mkm_eq, nNew, nPut, bNew, bPut, nGrd, bGrd, jn_5x0, jn_5x1, e8', wi, wl, f0', k3, hj, ix1, hx, hlen, hl', ldo, bs_30, Nat.one_mul, Nat.reduceLeDiff, eb, t1, ix2, t2, add_int, h6, h7]
      · rw [upd_upd] at G2
        have e : progStep c zw zk za zv ps i = ps.set j (ps.getD j [] ++ [o]) := by
          simp only [progStep, hj, Int.toNat_natCast]
          rw [if_pos hl, ho]
        rw [e, ← outO_set, List.flatMap_append, List.flatMap_cons, List.flatMap_nil, List.append_nil]
        exact G2
      · have e : progStep c zw zk za zv ps i = ps.set j (ps.getD j [] ++ [o]) := by
          simp only [progStep, hj, Int.toNat_natCast]
          rw [if_pos hl, ho]
        intro j' hj' hem
        rw [e] at hem
        have hne : j' ≠ j := fun e' => by
          subst e'
          rw [List.getD_eq_getElem?_getD, List.getElem?_set_self (by omega)] at hem
          simp at hem
        have hem' : ps.getD j' [] = [] := by
          rw [List.getD_eq_getElem?_getD, List.getElem?_set_ne (by omega)] at hem
          rw [List.getD_eq_getElem?_getD]; exact hem
        have l0 := hzd j' hj' hem'
        rw [ld_blk hg] at l0
        have hxj : rxs[j']? = some zN := by
          cases hx' : rxs[j']? with
          | none => rw [hx'] at l0; cases l0
          | some v => rw [hx'] at l0; simp only [Option.map_some, Option.some.injEq, Prod.mk.injEq] at l0; rw [l0.1]
        rw [st_ref'] at t2
        simp only [hgf] at t2
        split at t2
        · rename_i hc'
          simp only [Option.some.injEq, Prod.mk.injEq, true_and] at t2
          subst t2
          obtain ⟨_, _, hx1, _, hx5⟩ := hc'
          rw [ld_blk (getPut_eq), setA_get hx5, if_neg (by omega), hxj]
          rfl
        · cases t2
    · have hl' : ¬ ((ps.getD j []).length : Int) < 24 := by omega
      refine ⟨Hd, ?_, ?_, sd, ?_⟩
      · simp -implicitDefEqProofs only [bnd_some, bo_some, condK_true, condK_false, gdA_undef, decide_true, decide_false, Int.reduceLE, Int.reduceLT, Int.reduceEq, Int.reduceNeg, Int.reduceAdd, gd_tt, gd_tf, gd_ft, gd_ff, unG_pure, lift_some, bnd_lift, Option.map_some, Option.bind_some, fieldPtr_ref, fieldPtr_ip, nil_ref, nil_ip, nil_fn, ex_tup, fl_agg, List.getElem?_cons_zero, List.getElem?_cons_succ, Nat.zero_add, Nat.add_zero, Nat.reduceAdd, pk_t, pk_f, lss_int, leq_int, gtr_int, geq_int, eql_int, neq_int, not_bool, beq_self_eq_true, if_true, Bool.false_eq_true, if_false, List.nil_append, List.cons_append, List.append_nil, alc_eq, mkm_eq, nNew, nPut, bNew, bPut, nGrd, bGrd, jn_5x0, jn_5x1, e8', wi, wl, f0', k3, hj, ix1, hx, hlen, hl', add_int, h6, h7]
      · have e : progStep c zw zk za zv ps i = ps := by
          simp only [progStep, hj, Int.toNat_natCast]
          rw [if_neg hl]
        rw [e]; exact G1
      · have e : progStep c zw zk za zv ps i = ps := by
          simp only [progStep, hj, Int.toNat_natCast]
          rw [if_neg hl]
        rw [e]
        exact hzd
  obtain ⟨H', t1, t2⟩ := tail
  refine ⟨H', ?_, t2⟩
  simp only [Hd, Hc, b7] at t1 i7 l7'
  have hb0 : H.base ≤ H.next := Nat.le_trans hb G.1
  have hb1 : H.base ≤ H.next + 1 := by omega
  rw [le_5x0, ← t1, ho]
  by_cases c2 : kindOf (atM zk i) = 2
  · have oe : (opOf c zk za zv i).av = [I (kindOf (atM zk i)), I (withinM (atM za i) (c.lines * c.words)), I (atM zv i)] := by simp [opOf, Opn.av, c2]
    simp -implicitDefEqProofs only [bnd_some, bo_some, condK_true, condK_false, gdA_undef, decide_true, decide_false, Int.reduceLE, Int.reduceLT, Int.reduceEq, Int.reduceNeg, Int.reduceAdd, gd_tt, gd_tf, gd_ft, gd_ff, unG_pure, lift_some, bnd_lift, Option.map_some, Option.bind_some, fieldPtr_ref, fieldPtr_ip, nil_ref, nil_ip, nil_fn, ex_tup, fl_agg, List.getElem?_cons_zero, List.getElem?_cons_succ, Nat.zero_add, Nat.add_zero, Nat.reduceAdd, pk_t, pk_f, lss_int, leq_int, gtr_int, geq_int, eql_int, neq_int, not_bool, beq_self_eq_true, if_true, Bool.false_eq_true, if_false, List.nil_append, List.cons_append, List.append_nil, alc_eq, mkm_eq, nNew, nPut, bNew, bPut, nGrd, bGrd, ldN_is, ldN_lt, ldaN_is, ldaN_lt, stN_is, stN_lt, Nat.lt_add_one, ne_eq, nx1, nx2, nx3, ny1, ny2, ny3, not_false_eq_true, List.length_cons, List.length_nil, Nat.reduceLeDiff, setAt, List.take_succ_cons, List.take_zero, List.drop_succ_cons, List.drop_zero, cells_dat, cells_int, cells_bool, cells_agg, List.all_cons, List.all_nil, isCell_int, isCell_bool, isCell_dat, isCell_ref, isCell_nil, isCell_vsl, cells_vsl, av_len_cfg, av_len_pkt, av_len_opn, av_len_evn, av_len_ent, av_len_row, av_len_deal, av_len_pck, tk_cfg, tk_pkt, tk_opn, tk_evn, tk_ent, tk_row, tk_deal, tk_pck, all_cfg, all_pkt, all_opn, all_evn, all_ent, all_row, all_deal, all_pck, List.drop_nil, Bool.and_true, Bool.and_self, and_self, Nat.le_refl, true_and, and_true, Nat.le_add_right, leS, ltS, hp, hq, e8, e9, e10, e11, f1, f2, w0, h1, him, eb7, a1, a2, a3, k1, k2, i7, l7', mul_int, w, bd_38, bldA, fillA, pl_38, hb1, hb0, c2, oe]
  · by_cases c3 : kindOf (atM zk i) = 3
    · have oe : (opOf c zk za zv i).av = [I (kindOf (atM zk i)), I (withinM (atM za i) (c.lines * c.words)), I (atM zv i)] := by simp [opOf, Opn.av, c3]
      simp -implicitDefEqProofs only [bnd_some, bo_some, condK_true, condK_false, gdA_undef, decide_true, decide_false, Int.reduceLE, Int.reduceLT, Int.reduceEq, Int.reduceNeg, Int.reduceAdd, gd_tt, gd_tf, gd_ft, gd_ff, unG_pure, lift_some, bnd_lift, Option.map_some, Option.bind_some, fieldPtr_ref, fieldPtr_ip, nil_ref, nil_ip, nil_fn, ex_tup, fl_agg, List.getElem?_cons_zero, List.getElem?_cons_succ, Nat.zero_add, Nat.add_zero, Nat.reduceAdd, pk_t, pk_f, lss_int, leq_int, gtr_int, geq_int, eql_int, neq_int, not_bool, beq_self_eq_true, if_true, Bool.false_eq_true, if_false, List.nil_append, List.cons_append, List.append_nil, alc_eq, mkm_eq, nNew, nPut, bNew, bPut, nGrd, bGrd, ldN_is, ldN_lt, ldaN_is, ldaN_lt, stN_is, stN_lt, Nat.lt_add_one, ne_eq, nx1, nx2, nx3, ny1, ny2, ny3, not_false_eq_true, List.length_cons, List.length_nil, Nat.reduceLeDiff, setAt, List.take_succ_cons, List.take_zero, List.drop_succ_cons, List.drop_zero, cells_dat, cells_int, cells_bool, cells_agg, List.all_cons, List.all_nil, isCell_int, isCell_bool, isCell_dat, isCell_ref, isCell_nil, isCell_vsl, cells_vsl, av_len_cfg, av_len_pkt, av_len_opn, av_len_evn, av_len_ent, av_len_row, av_len_deal, av_len_pck, tk_cfg, tk_pkt, tk_opn, tk_evn, tk_ent, tk_row, tk_deal, tk_pck, all_cfg, all_pkt, all_opn, all_evn, all_ent, all_row, all_deal, all_pck, List.drop_nil, Bool.and_true, Bool.and_self, and_self, Nat.le_refl, true_and, and_true, Nat.le_add_right, leS, ltS, hp, hq, e8, e9, e10, e11, f1, f2, w0, h1, him, eb7, a1, a2, a3, k1, k2, i7, l7', mul_int, w, bd_38, bldA, fillA, pl_38, hb1, hb0, c2, c3, oe]
    · have oe : (opOf c zk za zv i).av = [I (kindOf (atM zk i)), I (withinM (atM za i) (c.lines * c.words)), I 0] := by simp [opOf, Opn.av, c2, c3]
      simp -implicitDefEqProofs only [bnd_some, bo_some, condK_true, condK_false, gdA_undef, decide_true, decide_false, Int.reduceLE, Int.reduceLT, Int.reduceEq, Int.reduceNeg, Int.reduceAdd, gd_tt, gd_tf, gd_ft, gd_ff, unG_pure, lift_some, bnd_lift, Option.map_some, Option.bind_some, fieldPtr_ref, fieldPtr_ip, nil_ref, nil_ip, nil_fn, ex_tup, fl_agg, List.getElem?_cons_zero, List.getElem?_cons_succ, Nat.zero_add, Nat.add_zero, Nat.reduceAdd, pk_t, pk_f, lss_int, leq_int, gtr_int, geq_int, eql_int, neq_int, not_bool, beq_self_eq_true, if_true, Bool.false_eq_true, if_false, List.nil_append, List.cons_append, List.append_nil, alc_eq, mkm_eq, nNew, nPut, bNew, bPut, nGrd, bGrd, ldN_is, ldN_lt, ldaN_is, ldaN_lt, stN_is, stN_lt, Nat.lt_add_one, ne_eq, nx1, nx2, nx3, ny1, ny2, ny3, not_false_eq_true, List.length_cons, List.length_nil, Nat.reduceLeDiff, setAt, List.take_succ_cons, List.take_zero, List.drop_succ_cons, List.drop_zero, cells_dat, cells_int, cells_bool, cells_agg, List.all_cons, List.all_nil, isCell_int, isCell_bool, isCell_dat, isCell_ref, isCell_nil, isCell_vsl, cells_vsl, av_len_cfg, av_len_pkt, av_len_opn, av_len_evn, av_len_ent, av_len_row, av_len_deal, av_len_pck, tk_cfg, tk_pkt, tk_opn, tk_evn, tk_ent, tk_row, tk_deal, tk_pck, all_cfg, all_pkt, all_opn, all_evn, all_ent, all_row, all_deal, all_pck, List.drop_nil, Bool.and_true, Bool.and_self, and_self, Nat.le_refl, true_and, and_true, Nat.le_add_right, leS, ltS, hp, hq, e8, e9, e10, e11, f1, f2, w0, h1, him, eb7, a1, a2, a3, k1, k2, i7, l7', mul_int, w, bd_38, bldA, fillA, pl_38, hb1, hb0, c2, c3, oe]
end

end Go.Proofs.YtmhbgbiaajbhnaaGreat

namespace Go.Proofs.YtmhbgbiaajbhnaaGreat

theorem mapM_of {α β : Type} {f : α → Option β} : ∀ (xs : List α) (ys : List β), xs.length = ys.length → (∀ (i : Nat) x y, xs[i]? = some x → ys[i]? = some y → f x = some y) → xs.mapM f = some ys
  | [], [], _, _ => rfl
  | x :: xs, y :: ys, hl, h => by
    have h0 := h 0 x y rfl rfl
    have := mapM_of (f := f) xs ys (by simpa using hl) fun i a b ha hb => h (i + 1) a b ha hb
    rw [List.mapM_cons, h0, this]; rfl
  | [], _ :: _, hl, _ => by simp at hl
  | _ :: _, [], hl, _ => by simp at hl
theorem freeze_out {b r n sN : Nat} {H : AHeap} {ps : List (List Opn)} (G : Good b H (upd nil0 r (outO ps))) (hs : sN ≤ b) (hn : ps.length = n) (hz : ∀ j, j < n → ps.getD j [] = [] → ld (.ref r 0 j) H = some (zN, H)) :
    freezeA H sN 9 (.sl r 0 0 1 n n true) = some (.vs n 1 (ps.map (vsl 3 Opn.av))) := by
  have hg : ∃ ty xs, H.get r = .blk 0 ty xs ∧ xs.length = n := by
    obtain ⟨_, τ, hR⟩ := G
    obtain ⟨ty, xs, hg, hl, _⟩ := (hR r _ upd_same).blk
    exact ⟨ty, xs, hg, by rw [hl]; simp [outO, hn]⟩
  obtain ⟨ty, xs, hg, hl⟩ := hg
  have hbr : b ≤ r := G.le upd_same
  refine freeze_sl (by omega) (cells := xs) ?_ (mapM_of _ _ (by rw [hl, List.length_map, hn]) fun i x y hx hy => ?_)
  · simp only [sliceCells, hg]
    rw [if_pos ⟨trivial, by omega⟩, List.drop_zero, List.take_of_length_le (by omega)]
  · rw [List.getElem?_map, Option.map_eq_some_iff] at hy
    obtain ⟨l, hpl, rfl⟩ := hy
    have hi : i < n := by have := (List.getElem?_eq_some_iff.1 hpl).1; omega
    have hgd : ps.getD i [] = l := by rw [List.getD_eq_getElem?_getD, hpl]; rfl
    by_cases h0 : l = []
    · have e := hz i hi (by rw [hgd, h0])
      rw [ld_blk hg, hx] at e
      simp only [Option.map_some, Option.some.injEq, Prod.mk.injEq, and_true] at e
      rw [e, h0, vsl_nil]
      exact freeze_s
    · obtain ⟨x', hx', cu⟩ := G.seq upd_same (outO_get (ps := ps) (j := i) (by omega))
      rw [ld_blk hg, hx] at hx'
      simp only [Option.map_some, Option.some.injEq, Prod.mk.injEq, and_true] at hx'
      subst hx'
      rw [hgd] at cu
      have hs' := cu.is (by decide) (flat_len av_len_opn l)
      obtain ⟨c1, c2⟩ := hs'.cells_
      rcases cu.own with ⟨_, e⟩ | ⟨r', gg, off, n', cap, ex, ty2, all, rfl, kr, kb, _⟩
      · have := congrArg List.length e
        rw [flat_len av_len_opn] at this
        simp only [List.length_nil] at this
        exact absurd (List.eq_nil_of_length_eq_zero (by omega)) h0
      · have hn' : n' = l.length := hs'.2.2.1
        subst hn'
        rw [vsl_cons h0]
        refine freeze_sl (by omega) c2 (freeze_all _ fun y hy => ?_)
        obtain ⟨o, _, ho⟩ := List.mem_flatMap.1 hy
        simp only [Opn.av, List.mem_cons, List.not_mem_nil, or_false] at ho
        rcases ho with rfl | rfl | rfl <;> exact freeze_s
theorem vs_ps (H : AHeap) (ps : List (List Opn)) : PsIs H (.vs ps.length 1 (ps.map (vsl 3 Opn.av))) ps :=
  ⟨_, SliceIs.vs (by simp), fun i v l h1 h2 => by
    rw [List.getElem?_map, h2] at h1
    cases h1
    exact ⟨vsl_is av_len_opn H l, fun h => by rw [h, vsl_nil]⟩⟩
section
variable {H : AHeap} {s : SetupA} {zi zw zk za zv : List Int}
theorem programs_sp (H : AHeap) (h : s.Ok zi zw zk za zv) (hi : SliceIs AHeap.empty s.init 1 zi.length (zi.map I)) (hw : SliceIs AHeap.empty s.who 1 zw.length (zw.map I)) (hk : SliceIs AHeap.empty s.kinds 1 zk.length (zk.map I)) (ha : SliceIs AHeap.empty s.addrs 1 za.length (za.map I)) (hv : SliceIs AHeap.empty s.values 1 zv.length (zv.map I))
    (hc : s.init.isCell = true ∧ s.who.isCell = true ∧ s.kinds.isCell = true ∧ s.addrs.isCell = true ∧ s.values.isCell = true) {mo : Nat} (hm : mo ≤ 1000) :
    ∃ ps, ps = progsOf (s.cfg zi) zw zk za zv mo ∧ cl 5 [.agg s.cells, I mo] H = some (.vs ps.length 1 (ps.map (vsl 3 Opn.av)), H) := by
  refine ⟨_, rfl, ?_⟩
  let c := s.cfg zi
  have hck : c.ok = true := cfg_ok s zi
  have Bd := cfgB hck
  let n := c.nodes.toNat
  let H1 := H.guard.new (.blk 0 24 s.cells)
  let H2 := H1.new (.blk 0 26 c.av)
  let H3 := H2.new (.blk 0 30 (zerosL [zN] n))
  let r := H.next + 2
  have hall : s.cells.all AV.isCell = true := by
    simp only [SetupA.cells, List.all_cons, List.all_nil, hc, Bool.and_true]
    rfl
  have M0 : Made H2 H3 (upd nil0 r (outO (progsTo c zw zk za zv 0))) := by
    refine made_box ?_ ?_ fun i cc x hcc hx => ?_
    · rw [zerosL_one]; simp; right; rfl
    · rw [zerosL_one]; simp [outO, progsTo, n]
    · rw [zerosL_one, List.getElem?_replicate] at hx
      simp only [outO, progsTo, List.map_replicate, List.getElem?_replicate] at hcc
      by_cases hin : i < n
      · rw [if_pos hin] at hx hcc
        simp only [Option.some.injEq] at hx hcc
        subst hx; subst hcc
        exact .inr ⟨rfl, 3, rfl⟩
      · rw [if_neg hin] at hx
        cases hx
  have gp : H2.get H.next = .blk 0 24 s.cells := by
    simp only [H2]
    rw [getNew_lt (by simp only [H1, nNew, nGrd]; omega)]
    exact getNew_is rfl
  have gq : H2.get (H.next + 1) = .blk 0 26 c.av := getNew_is (by simp only [H1, nNew, nGrd])
  have b2 : H2.base = H.next := by simp only [H2, H1, bNew, bGrd]
  have n2 : H2.next = H.next + 2 := by simp only [H2, H1, nNew, nGrd]
  have key : ∀ k i, i + k = min zw.length mo → ∀ Hi, Good H2.next Hi (upd nil0 r (outO (progsTo c zw zk za zv i))) → Step H2.next H2 Hi → (∀ j, j < n → (progsTo c zw zk za zv i).getD j [] = [] → ld (.ref r 0 j) Hi = some (zN, Hi)) →
      ∃ Hz, lp_5x0 cl [I mo, .ref H.next 0 0, .ref (H.next + 1) 0 0, .sl r 0 0 1 n n true, I i] Hi = some (.sl r 0 0 1 n n true, Hz) ∧ Good H2.next Hz (upd nil0 r (outO (progsOf c zw zk za zv mo))) ∧ (∀ j, j < n → (progsOf c zw zk za zv mo).getD j [] = [] → ld (.ref r 0 j) Hz = some (zN, Hz)) := by
    intro k
    induction k with
    | zero =>
      intro i hik Hi G st hz
      have e8 : ld (.ref H.next 0 8) Hi = some (s.who, Hi) := by rw [ld_blk (by rw [st.low _ (by omega)]; exact gp)]; rfl
      have w0 := fun H => (ints_is hw H).lnS
      have hi' : min zw.length mo = i := by omega
      refine ⟨Hi, ?_, by rw [progsOf, hi']; exact G, by rw [progsOf, hi']; exact hz⟩
      rw [le_5x0]
      by_cases h1 : (i : Int) < zw.length
      · have h2 : ¬ (i : Int) < mo := by omega
        simp -implicitDefEqProofs only [bnd_some, bo_some, condK_true, condK_false, gdA_undef, decide_true, decide_false, Int.reduceLE, Int.reduceLT, Int.reduceEq, Int.reduceNeg, Int.reduceAdd, gd_tt, gd_tf, gd_ft, gd_ff, unG_pure, lift_some, bnd_lift, Option.map_some, Option.bind_some, fieldPtr_ref, fieldPtr_ip, nil_ref, nil_ip, nil_fn, ex_tup, fl_agg, List.getElem?_cons_zero, List.getElem?_cons_succ, Nat.zero_add, Nat.add_zero, Nat.reduceAdd, pk_t, pk_f, lss_int, leq_int, gtr_int, geq_int, eql_int, neq_int, not_bool, beq_self_eq_true, if_true, Bool.false_eq_true, if_false, List.nil_append, List.cons_append, List.append_nil, alc_eq, mkm_eq, nNew, nPut, bNew, bPut, nGrd, bGrd, e8, w0, h1, h2]
      · simp -implicitDefEqProofs only [bnd_some, bo_some, condK_true, condK_false, gdA_undef, decide_true, decide_false, Int.reduceLE, Int.reduceLT, Int.reduceEq, Int.reduceNeg, Int.reduceAdd, gd_tt, gd_tf, gd_ft, gd_ff, unG_pure, lift_some, bnd_lift, Option.map_some, Option.bind_some, fieldPtr_ref, fieldPtr_ip, nil_ref, nil_ip, nil_fn, ex_tup, fl_agg, List.getElem?_cons_zero, List.getElem?_cons_succ, Nat.zero_add, Nat.add_zero, Nat.reduceAdd, pk_t, pk_f, lss_int, leq_int, gtr_int, geq_int, eql_int, neq_int, not_bool, beq_self_eq_true, if_true, Bool.false_eq_true, if_false, List.nil_append, List.cons_append, List.append_nil, alc_eq, mkm_eq, nNew, nPut, bNew, bPut, nGrd, bGrd, e8, w0, h1]
    | succ k ih =>
      intro i hik Hi G st hz
      obtain ⟨H', t1, t2, t3, t4⟩ := progs_round h hi hw hk ha hv hck (p := H.next) (q := H.next + 1) (r := r) (n := n) (by have := st.next; omega) (by have := st.next; omega) (by rw [st.low _ (by omega)]; exact gp) (by rw [st.low _ (by omega)]; exact gq) G (by rw [st.base, b2, n2]; omega) (progsTo_len _ _ _ _ _ _) (by have := Bd.nodes; omega) (i := i) (mo := mo) (by omega) (by omega) (by omega) hz
      rw [t1]
      exact ih (i + 1) (by omega) H' t2 (st.trans t3) t4
  have g3 : H3.get r = .blk 0 30 (zerosL [zN] n) := getNew_is n2.symm
  obtain ⟨Hz, r1, r2, r3⟩ := key (min zw.length mo) 0 (by omega) H3 M0.good (Step.new _ (Nat.le_refl _)) (fun j hj _ => by
    rw [ld_blk g3, zerosL_one, List.getElem?_replicate, if_pos hj]; rfl)
  have hlen : (progsOf c zw zk za zv mo).length = n := progsTo_len _ _ _ _ _ _
  have fz := freeze_out (sN := H.next) r2 (by omega) hlen r3
  refine pure_cl rfl rfl (rn_5 _ _ _ _ (r := (.sl r 0 0 1 n n true, Hz)) ?_) (by rw [fz, hlen])
  have e1 := fun H => config_sp H h hi hc
  have hn := Bd.nodes
  have e2 := mks_eq (e := 30) (m := 1) (by_ := 24) (z := [zN]) (n := c.nodes) (H := H2) rfl rfl (by omega) (by omega) (by decide)
  have ls : s.cells.length = 12 := rfl
  have lt : s.cells.take 12 = s.cells := rfl
  have l0 : c.av[0]? = some (I c.nodes) := rfl
  have cc : (AV.agg c.av).cells = c.av := rfl
  have lc : c.av.length = 8 := rfl
  rw [n2] at e2
  simp only [H2, H1] at e2
  have hnn : c.nodes.toNat = n := rfl
  rw [hnn] at e2
  simp only [c] at e2 l0
  simp -implicitDefEqProofs only [bnd_some, bo_some, condK_true, condK_false, gdA_undef, decide_true, decide_false, Int.reduceLE, Int.reduceLT, Int.reduceEq, Int.reduceNeg, Int.reduceAdd, gd_tt, gd_tf, gd_ft, gd_ff, unG_pure, lift_some, bnd_lift, Option.map_some, Option.bind_some, fieldPtr_ref, fieldPtr_ip, nil_ref, nil_ip, nil_fn, ex_tup, fl_agg, List.getElem?_cons_zero, List.getElem?_cons_succ, Nat.zero_add, Nat.add_zero, Nat.reduceAdd, pk_t, pk_f, lss_int, leq_int, gtr_int, geq_int, eql_int, neq_int, not_bool, beq_self_eq_true, if_true, Bool.false_eq_true, if_false, List.nil_append, List.cons_append, List.append_nil, alc_eq, mkm_eq, nNew, nPut, bNew, bPut, nGrd, bGrd, ldN_is, ldN_lt, ldaN_is, ldaN_lt, stN_is, stN_lt, Nat.lt_add_one, ne_eq, nx1, nx2, nx3, ny1, ny2, ny3, not_false_eq_true, List.length_cons, List.length_nil, Nat.reduceLeDiff, setAt, List.take_succ_cons, List.take_zero, List.drop_succ_cons, List.drop_zero, cells_dat, cells_int, cells_bool, cells_agg, List.all_cons, List.all_nil, isCell_int, isCell_bool, isCell_dat, isCell_ref, isCell_nil, isCell_vsl, cells_vsl, av_len_cfg, av_len_pkt, av_len_opn, av_len_evn, av_len_ent, av_len_row, av_len_deal, av_len_pck, tk_cfg, tk_pkt, tk_opn, tk_evn, tk_ent, tk_row, tk_deal, tk_pck, all_cfg, all_pkt, all_opn, all_evn, all_ent, all_row, all_deal, all_pck, List.drop_nil, Bool.and_true, Bool.and_self, and_self, Nat.le_refl, true_and, and_true, Nat.le_add_right, leS, ltS, sh_5, box_agg hall, ls, lt, e1, cc, lc, l0, e2]
  exact r1
end

end Go.Proofs.YtmhbgbiaajbhnaaGreat

namespace Go.Proofs.YtmhbgbiaajbhnaaGreat

theorem progsTo_le (c : Cfg) (zw zk za zv : List Int) : ∀ i, ∀ l ∈ progsTo c zw zk za zv i, l.length ≤ 24
  | 0, l, h => by
    rw [List.eq_of_mem_replicate h]; decide
  | i + 1, l, h => by
    simp only [progsTo, progStep] at h
    split at h
    · rename_i hl
      rcases List.mem_or_eq_of_mem_set h with h | rfl
      · exact progsTo_le c zw zk za zv i l h
      · rw [List.length_append]; simp only [List.length_cons, List.length_nil]; omega
    · exact progsTo_le c zw zk za zv i l h
theorem total_bd : ∀ {ps : List (List Opn)} {m : Nat}, (∀ l ∈ ps, l.length ≤ m) → total ps ≤ ps.length * m
  | [], _, _ => by simp [total]
  | l :: ps, m, h => by
    have h1 := h l (by simp)
    have := total_bd (ps := ps) fun l' hl' => h l' (by simp [hl'])
    simp only [total, List.map_cons, List.sum_cons, List.length_cons, Nat.add_mul, Nat.one_mul] at *
    omega
section
variable {H : AHeap} {s : SetupA} {zi zw zk za zv : List Int}
theorem law_sp (H : AHeap) (hb : H.base ≤ H.next) (h : s.Ok zi zw zk za zv) (hi : SliceIs AHeap.empty s.init 1 zi.length (zi.map I)) (hw : SliceIs AHeap.empty s.who 1 zw.length (zw.map I)) (hk : SliceIs AHeap.empty s.kinds 1 zk.length (zk.map I)) (ha : SliceIs AHeap.empty s.addrs 1 za.length (za.map I)) (hv : SliceIs AHeap.empty s.values 1 zv.length (zv.map I))
    (hc : s.init.isCell = true ∧ s.who.isCell = true ∧ s.kinds.isCell = true ∧ s.addrs.isCell = true ∧ s.values.isCell = true) :
    ∃ H', cl 3 [.agg s.cells] H = some (B true, H') := by
  have hck : (s.cfg zi).ok = true := cfg_ok s zi
  have Bd := cfgB hck
  have e1 := fun H => config_sp H h hi hc
  obtain ⟨ps, hps, _⟩ := programs_sp H h hi hw hk ha hv hc (mo := 20) (by omega)
  have e2 : ∀ H, cl 5 [.agg s.cells, I 20] H = some (.vs ps.length 1 (ps.map (vsl 3 Opn.av)), H) := fun H => by
    obtain ⟨ps', hps', e⟩ := programs_sp H h hi hw hk ha hv hc (mo := 20) (by omega)
    rw [hps, ← hps']; exact e
  generalize hcc : s.cfg zi = c at *
  have hlen : ps.length = c.nodes.toNat := by rw [hps]; exact progsTo_len _ _ _ _ _ _
  have hle : ∀ l ∈ ps, l.length ≤ 24 := by rw [hps]; exact progsTo_le _ _ _ _ _ _
  have htot := total_bd hle
  have hn := Bd.nodes
  have htot2 : total ps ≤ 144 := by
    have : ps.length * 24 ≤ 6 * 24 := Nat.mul_le_mul_right _ (by omega)
    omega
  have b1 := fun H => bound_sp H c (by omega) (vs_ps H ps) (by omega) (by omega)
  have b2 := fun H => bound_sp H c (by omega) (PsIs.zN (H := H)) (by decide) (by decide)
  have hall : s.cells.all AV.isCell = true := by
    simp only [SetupA.cells, List.all_cons, List.all_nil, hc, Bool.and_true]
    rfl
  have v1 := fun H => (vs_ps H ps)
  let H1 := H.new (.blk 0 24 s.cells)
  let H2 := H1.new (.blk 0 26 c.av)
  have gq : H2.get (H.next + 1) = .blk 0 26 c.av := getNew_is (by simp only [H1, nNew])
  have n2 : H2.next = H.next + 2 := by simp only [H2, H1, nNew]
  have lq := lda_cfg gq
  have l0 : ld (.ref (H.next + 1) 0 0) H2 = some (I c.nodes, H2) := by rw [ld_blk gq]; rfl
  let z7 : List AV := zerosL [zI, zI, zI] 7
  let H3 := H2.new (.blk 0 38 z7)
  let H4 := H3.new (.blk 0 30 [.sl H2.next 0 0 3 7 7 true])
  have e7 := mks_eq (e := 38) (m := 3) (by_ := 24) (z := [zI, zI, zI]) (n := 7) (H := H2) rfl rfl (by omega) (by omega) (by decide)
  have e8 : bs 28 1 [(0, .sl H2.next 0 0 3 7 7 true)] H3 = some (.sl H3.next 0 0 1 1 1 true, H4) := (bs_28 (by decide)).trans rfl
  have hp7 : PsIs H4 (.sl H3.next 0 0 1 1 1 true) [List.replicate 7 Opn.zero] := ⟨_, sl_new (n := 1) (m := 1) rfl, fun i v l a b => by
    match i with
    | 0 => cases a; cases b; exact ⟨(sl_new (n := 7) (m := 3) (l := z7) rfl).new _, fun h => by cases h⟩
    | i + 1 => cases a⟩
  have b3 := bound_sp H4.guard c (by omega) (hp7.of_get (H' := H4.guard) (Nat.le_refl _) fun _ _ => rfl) (by decide) (by decide)
  have z2 : bound c [] = 40 * (c.nodes + 6) := by simp [bound, total]
  have z3 : bound c [List.replicate 7 Opn.zero] = 320 * (c.nodes + 6) := by simp [bound, total]
  rw [z3] at b3
  have b2' := fun H => (b2 H).trans (by rw [z2])
  have w1 := wrap_i64 (a := (total ps : Int) + 1) (by omega) (by omega)
  have w2 := wrap_i64 (a := 40 * ((total ps : Int) + 1)) (by omega) (by omega)
  have w3 := wrap_i64 (a := c.nodes + 6) (by omega) (by omega)
  have hb1 : 0 ≤ 40 * ((total ps : Int) + 1) * (c.nodes + 6) := Int.mul_nonneg (by omega) (by omega)
  have hb2 : 40 * ((total ps : Int) + 1) * (c.nodes + 6) ≤ 40000000 * 1006 := Int.mul_le_mul (by omega) (by omega) (by omega) (by omega)
  have w4 := wrap_i64 (a := 40 * ((total ps : Int) + 1) * (c.nodes + 6)) (by omega) (by omega)
  have w5 := wrap_i64 (a := 40 * (c.nodes + 6)) (by omega) (by omega)
  have w6 := wrap_i64 (a := 320 * (c.nodes + 6)) (by omega) (by omega)
  have wk := fun H => wakes25 H
  have key : ∀ k j, j + k = ps.length → ∃ H', lp_3x0 cl [.ref (H.next + 1) 0 0, .vs ps.length 1 (ps.map (vsl 3 Opn.av)), I (total (ps.take j)), .vs ps.length 1 (ps.map (vsl 3 Opn.av)), I ps.length, I j] H2 = some (B true, H') := by
    intro k
    induction k with
    | zero =>
      intro j hj
      have h1 : ¬ (j : Int) < ps.length := by omega
      have h2 : ps.take j = ps := List.take_of_length_le (by omega)
      refine ⟨H4, ?_⟩
      rw [le_3x0, h2]
      have q4 : lda 8 (.ref (H.next + 1) 0 0) H4 = some (.agg c.av, H4) := lda_cfg (by
        simp only [H4]
        rw [getNew_lt (by simp only [H3, nNew]; omega)]
        simp only [H3]
        rw [getNew_lt (by omega)]; exact gq)
      have l4 : ld (.ref (H.next + 1) 0 0) H4 = some (I c.nodes, H4) := by
        simp only [H4]
        rw [ldN_lt (by simp only [H3, nNew]; omega)]
        simp only [H3]
        rw [ldN_lt (by omega), l0]; rfl
      have e7' : mks 38 3 24 [zI, zI, zI] (I 7) (I 7) H2 = some (.sl H2.next 0 0 3 7 7 true, H3) := e7
      simp -implicitDefEqProofs only [bnd_some, bo_some, condK_true, condK_false, gdA_undef, decide_true, decide_false, Int.reduceLE, Int.reduceLT, Int.reduceEq, Int.reduceNeg, Int.reduceAdd, gd_tt, gd_tf, gd_ft, gd_ff, unG_pure, lift_some, bnd_lift, Option.map_some, Option.bind_some, fieldPtr_ref, fieldPtr_ip, nil_ref, nil_ip, nil_fn, ex_tup, fl_agg, List.getElem?_cons_zero, List.getElem?_cons_succ, Nat.zero_add, Nat.add_zero, Nat.reduceAdd, pk_t, pk_f, lss_int, leq_int, gtr_int, geq_int, eql_int, neq_int, not_bool, beq_self_eq_true, if_true, Bool.false_eq_true, if_false, List.nil_append, List.cons_append, List.append_nil, alc_eq, mkm_eq, nNew, nPut, bNew, bPut, nGrd, bGrd, h1, lq, b1, b2', b3, add_int, mul_int, w1, w2, w3, w4, w5, w6, l0, bound, e7', e8, q4, l4, wk]
    | succ k ih =>
      intro j hj
      have h1 : (j : Int) < ps.length := by omega
      have h6 : (j : Int) + 1 = ((j + 1 : Nat) : Int) := by omega
      have h7 := wrap_i64 (a := ((j + 1 : Nat) : Int)) (by omega) (by omega)
      have x1 : SliceIs H2 (.vs ps.length 1 (ps.map (vsl 3 Opn.av))) 1 ps.length (ps.map (vsl 3 Opn.av)) := SliceIs.vs (by simp)
      have a1 := x1.ix (k := .i64) (i := (j : Int)) (by omega) h1
      rw [Int.toNat_natCast] at a1
      have a2 := x1.ld (i := j) (by omega)
      obtain ⟨l, hl⟩ : ∃ l, ps[j]? = some l := ⟨_, List.getElem?_eq_getElem (by omega)⟩
      rw [List.getElem?_map, hl] at a2
      simp only [Option.map_some] at a2
      have a3 := (vsl_is av_len_opn H2 l).lnS
      have h8 := total_take hl
      have h9 := total_le (ps := ps) (j + 1)
      have h8' : (total (ps.take j) : Int) + (l.length : Int) = (total (ps.take (j + 1)) : Int) := by omega
      have h10 := wrap_i64 (a := (total (ps.take (j + 1)) : Int)) (by omega) (by omega)
      obtain ⟨H', r1⟩ := ih (j + 1) (by omega)
      refine ⟨H', ?_⟩
      rw [le_3x0]
      simp -implicitDefEqProofs only [bnd_some, bo_some, condK_true, condK_false, gdA_undef, decide_true, decide_false, Int.reduceLE, Int.reduceLT, Int.reduceEq, Int.reduceNeg, Int.reduceAdd, gd_tt, gd_tf, gd_ft, gd_ff, unG_pure, lift_some, bnd_lift, Option.map_some, Option.bind_some, fieldPtr_ref, fieldPtr_ip, nil_ref, nil_ip, nil_fn, ex_tup, fl_agg, List.getElem?_cons_zero, List.getElem?_cons_succ, Nat.zero_add, Nat.add_zero, Nat.reduceAdd, pk_t, pk_f, lss_int, leq_int, gtr_int, geq_int, eql_int, neq_int, not_bool, beq_self_eq_true, if_true, Bool.false_eq_true, if_false, List.nil_append, List.cons_append, List.append_nil, alc_eq, mkm_eq, nNew, nPut, bNew, bPut, nGrd, bGrd, h1, a1, a2, a3, add_int, h8', h10, h6, h7, r1]
  obtain ⟨H', r1⟩ := key ps.length 0 (by omega)
  refine ⟨H', run_cl rfl rfl (rn_3 _ _ _ (r := (_, H')) ?_)⟩
  have e0 := (vs_ps H2 ps)
  have x1 : ∀ H, SliceIs H (.vs ps.length 1 (ps.map (vsl 3 Opn.av))) 1 ps.length (ps.map (vsl 3 Opn.av)) := fun H => SliceIs.vs (by simp)
  have x2 := fun H => (x1 H).lnS
  have ls : s.cells.length = 12 := rfl
  have lt : s.cells.take 12 = s.cells := rfl
  have cc : (AV.agg c.av).cells = c.av := rfl
  have lc : c.av.length = 8 := rfl
  have hb1' : H.base ≤ H.next + 1 := by omega
  simp -implicitDefEqProofs only [bnd_some, bo_some, condK_true, condK_false, gdA_undef, decide_true, decide_false, Int.reduceLE, Int.reduceLT, Int.reduceEq, Int.reduceNeg, Int.reduceAdd, gd_tt, gd_tf, gd_ft, gd_ff, unG_pure, lift_some, bnd_lift, Option.map_some, Option.bind_some, fieldPtr_ref, fieldPtr_ip, nil_ref, nil_ip, nil_fn, ex_tup, fl_agg, List.getElem?_cons_zero, List.getElem?_cons_succ, Nat.zero_add, Nat.add_zero, Nat.reduceAdd, pk_t, pk_f, lss_int, leq_int, gtr_int, geq_int, eql_int, neq_int, not_bool, beq_self_eq_true, if_true, Bool.false_eq_true, if_false, List.nil_append, List.cons_append, List.append_nil, alc_eq, mkm_eq, nNew, nPut, bNew, bPut, nGrd, bGrd, ldN_is, ldN_lt, ldaN_is, ldaN_lt, stN_is, stN_lt, Nat.lt_add_one, ne_eq, nx1, nx2, nx3, ny1, ny2, ny3, not_false_eq_true, List.length_cons, List.length_nil, Nat.reduceLeDiff, setAt, List.take_succ_cons, List.take_zero, List.drop_succ_cons, List.drop_zero, cells_dat, cells_int, cells_bool, cells_agg, List.all_cons, List.all_nil, isCell_int, isCell_bool, isCell_dat, isCell_ref, isCell_nil, isCell_vsl, cells_vsl, av_len_cfg, av_len_pkt, av_len_opn, av_len_evn, av_len_ent, av_len_row, av_len_deal, av_len_pck, tk_cfg, tk_pkt, tk_opn, tk_evn, tk_ent, tk_row, tk_deal, tk_pck, all_cfg, all_pkt, all_opn, all_evn, all_ent, all_row, all_deal, all_pck, List.drop_nil, Bool.and_true, Bool.and_self, and_self, Nat.le_refl, true_and, and_true, Nat.le_add_right, leS, ltS, sh_3, box_agg hall, ls, lt, e1, cc, lc, e2, x2, hb1']
  exact r1
end

end Go.Proofs.YtmhbgbiaajbhnaaGreat

