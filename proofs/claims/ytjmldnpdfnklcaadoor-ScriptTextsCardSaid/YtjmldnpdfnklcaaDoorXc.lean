/-
  Own work: an interpreter over named blocks, its soundness, and what the functions of this seat compute (part 3 of 8).
  Conditions: those of the statement alone.
-/
import Derived.Test.YtjmldnpdfnklcaaDoorProg
import Derived.KernelRfl
import Derived.ProofKit
import Derived.Below
import Derived.Lib.SplitLaws
import Derived.Lib.AtoiAll
import Derived.Lib.ItoaNum
import Derived.Lib.SlTrimSet
import Derived.Lib.Join
import Derived.Shelf.Strings.SlTrimAscii
import Derived.Shelf.Strings.OnBuilder
import Derived.Shelf.LaysM
import Derived.Shelf.Strconv.Itoa3
import Derived.Shelf.Strconv.AtoiAll
import Derived.Shelf.Strings.Split
import Derived.Lib.AppendIntMem
import Derived.Shelf.Strings.BuilderF
import Derived.Test.YtjmldnpdfnklcaaDoorXb
set_option linter.all false
set_option linter.unusedSectionVars false
set_option linter.unusedVariables false
set_option linter.unusedSimpArgs false
namespace Go.Proofs.YtjmldnpdfnklcaaDoor

noncomputable abbrev bi (op : BinOp) (t : TypeId) (x y : AV) : Option AV := binA Tryd.prog op t x y
noncomputable abbrev bn (op : BinOp) (t : TypeId) (x : AV) : Option AV := binN Tryd.prog op t x
noncomputable abbrev un (op : UnOp) (x : AV) : Option AV := unA Tryd.prog op x
noncomputable abbrev cv (s d : TypeId) (x : AV) : AM AV := convertA Tryd.prog s d x
noncomputable abbrev bd (t : TypeId) (ps : List (Nat × AV)) : Option AV := buildA Tryd.prog t ps
noncomputable abbrev bs (t : TypeId) (n : Nat) (ps : List (Nat × AV)) : AM AV := buildSliceA Tryd.prog t n ps
theorem bs_22 {n : Nat} {ps : List (Nat × AV)} {H : AHeap} (h : n * 1 ≤ 16777216) : buildSliceA Tryd.prog 22 n ps H = bsl 3 1 [zI] n ps H := bsl_of (by kernel_rfl) (by kernel_rfl) (by kernel_rfl) rfl h
theorem bs_37 {n : Nat} {ps : List (Nat × AV)} {H : AHeap} (h : n * 1 ≤ 16777216) : buildSliceA Tryd.prog 37 n ps H = bsl 9 1 [zS] n ps H := bsl_of (by kernel_rfl) (by kernel_rfl) (by kernel_rfl) rfl h
theorem bs_46 {n : Nat} {ps : List (Nat × AV)} {H : AHeap} (h : n * 4 ≤ 16777216) : buildSliceA Tryd.prog 46 n ps H = bsl 52 4 [zB, zI, zI, .s (.int .u16 0)] n ps H := bsl_of (by kernel_rfl) (by kernel_rfl) (by kernel_rfl) rfl h
theorem bs_82 {n : Nat} {ps : List (Nat × AV)} {H : AHeap} (h : n * 1 ≤ 16777216) : buildSliceA Tryd.prog 82 n ps H = bsl 5 1 [.s (.int .u8 0)] n ps H := bsl_of (by kernel_rfl) (by kernel_rfl) (by kernel_rfl) rfl h
def pl_52 : Nat → Option (Nat × Nat)
  | 0 => some (0, 1)
  | 1 => some (1, 1)
  | 2 => some (2, 1)
  | 3 => some (3, 1)
  | _ => none
theorem bd_52 {ps : List (Nat × AV)} : buildA Tryd.prog 52 ps = bldA pl_52 [zB, zI, zI, .s (.int .u16 0)] ps := bld_of (by kernel_rfl) Tryd.underlying52 (by kernel_rfl) (by funext i; rcases i with _ | _ | _ | _ | i <;> kernel_rfl)

end Go.Proofs.YtjmldnpdfnklcaaDoor

namespace Go.Proofs.YtjmldnpdfnklcaaDoor

/-- What a cell of an object holds: a value; a slice of its own (m cells an element); a map of its own; a map of slices; a slice of slices. -/
inductive Cell where
  | av (x : AV)
  | seq (m : Nat) (cells : List AV)
  | map (k : IntKind) (es : List (Int × AV))
  | maps (k : IntKind) (m : Nat) (es : List (Int × List AV))
  | seqs (w m : Nat) (ls : List (List AV))
/-- The owner of a block: an object, its cell (from 1 on), a part of it. -/
abbrev Tag := Nat × Nat × Nat × Int
section
variable (b : Nat) (H : AHeap) (τ : Nat → Option Tag)
def OS (T : Tag) (x : AV) (m : Nat) (cells : List AV) : Prop :=
  (x = zN ∧ cells = []) ∨ ∃ r g off n cap ex ty all, x = .sl r g off m n cap ex ∧ τ r = some T ∧ b ≤ r ∧ r < H.next ∧ n ≤ cap ∧ H.get r = .blk g ty all ∧ off + cap * m ≤ all.length ∧ all.all AV.isCell = true ∧ cells = (all.drop off).take (n * m)
def OM (T : Tag) (x : AV) (k : IntKind) (es : List (Int × AV)) : Prop := ∃ r, x = .mp r ∧ τ r = some T ∧ b ≤ r ∧ r < H.next ∧ H.get r = .map k es
def CR (q i : Nat) : Cell → AV → Prop
  | .av x, y => y = x
  | .seq m cells, y => OS b H τ (q, i + 1, 0, 0) y m cells
  | .map k es, y => OM b H τ (q, i + 1, 0, 0) y k es
  | .maps k m es, y => ∃ aes : List (Int × AV), OM b H τ (q, i + 1, 0, 0) y k aes ∧ aes.map (·.1) = es.map (·.1) ∧ ∀ (j : Nat) n cells x, es[j]? = some (n, cells) → aes[j]? = some (n, x) → OS b H τ (q, i + 1, 1, n) x m cells
  | .seqs w m ls, y => ∃ xs : List AV, OS b H τ (q, i + 1, 0, 0) y w xs ∧ xs.length = ls.length ∧ ∀ (j : Nat) cells x, ls[j]? = some cells → xs[j]? = some x → OS b H τ (q, i + 1, 1, (j : Int)) x m cells
structure RepO (q : Nat) (cs : List Cell) : Prop where
  tag : τ q = some (q, 0, 0, 0)
  lo : b ≤ q
  hi : q < H.next
  blk : ∃ ty xs, H.get q = .blk 0 ty xs ∧ xs.length = cs.length ∧ xs.all AV.isCell = true ∧ ∀ (i : Nat) c x, cs[i]? = some c → xs[i]? = some x → CR b H τ q i c x
end
abbrev Store := Nat → Option (List Cell)
/-- A heap in which these objects lie. -/
def Good (b : Nat) (H : AHeap) (g : Store) : Prop := b ≤ H.next ∧ ∃ τ, ∀ q cs, g q = some cs → RepO b H τ q cs
def upd (g : Store) (q : Nat) (cs : List Cell) : Store := fun x => if x = q then some cs else g x
section
variable {b : Nat} {H H' : AHeap} {g : Store} {q : Nat} {cs : List Cell}
theorem upd_same : upd g q cs q = some cs := by simp [upd]
theorem upd_ne {x : Nat} (h : x ≠ q) : upd g q cs x = g x := by simp [upd, h]
/-- What is asked of blocks with other tags when one changes. -/
theorem OS.keep {τ τ' : Nat → Option Tag} {T : Tag} {x : AV} {m : Nat} {cells : List AV} (h : OS b H τ T x m cells) (hn : H.next ≤ H'.next) (hg : ∀ r, r < H.next → τ r = some T → τ' r = some T ∧ H'.get r = H.get r) : OS b H' τ' T x m cells := by
  rcases h with h | ⟨r, g, off, n, cap, ex, ty, all, rfl, h1, h2, h3, h4, h5, h6, h7, h8⟩
  · exact .inl h
  · obtain ⟨k1, k2⟩ := hg r h3 h1
    exact .inr ⟨r, g, off, n, cap, ex, ty, all, rfl, k1, h2, by omega, h4, by rw [k2]; exact h5, h6, h7, h8⟩
theorem OM.keep {τ τ' : Nat → Option Tag} {T : Tag} {x : AV} {k : IntKind} {es : List (Int × AV)} (h : OM b H τ T x k es) (hn : H.next ≤ H'.next) (hg : ∀ r, r < H.next → τ r = some T → τ' r = some T ∧ H'.get r = H.get r) : OM b H' τ' T x k es := by
  obtain ⟨r, rfl, h1, h2, h3, h4⟩ := h
  obtain ⟨k1, k2⟩ := hg r h3 h1
  exact ⟨r, rfl, k1, h2, by omega, by rw [k2]; exact h4⟩
theorem CR.keep {τ τ' : Nat → Option Tag} {i : Nat} : ∀ {c : Cell} {x : AV}, CR b H τ q i c x → H.next ≤ H'.next → (∀ r s t, r < H.next → τ r = some (q, i + 1, s, t) → τ' r = some (q, i + 1, s, t) ∧ H'.get r = H.get r) → CR b H' τ' q i c x
  | .av _, _, h, _, _ => h
  | .seq _ _, _, h, hn, hg => OS.keep h hn fun r h1 h2 => hg r 0 0 h1 h2
  | .map _ _, _, h, hn, hg => OM.keep h hn fun r h1 h2 => hg r 0 0 h1 h2
  | .maps _ _ _, _, ⟨aes, h1, h2, h3⟩, hn, hg => ⟨aes, h1.keep hn fun r h1 h2 => hg r 0 0 h1 h2, h2, fun j n cells x hj hx => (h3 j n cells x hj hx).keep hn fun r h1 h2 => hg r 1 n h1 h2⟩
  | .seqs _ _ _, _, ⟨xs, h1, h2, h3⟩, hn, hg => ⟨xs, h1.keep hn fun r h1 h2 => hg r 0 0 h1 h2, h2, fun j cells x hj hx => (h3 j cells x hj hx).keep hn fun r h1 h2 => hg r 1 j h1 h2⟩
theorem RepO.keep {τ τ' : Nat → Option Tag} (h : RepO b H τ q cs) (hn : H.next ≤ H'.next) (hg : ∀ r i s t, r < H.next → τ r = some (q, i, s, t) → τ' r = some (q, i, s, t) ∧ H'.get r = H.get r) : RepO b H' τ' q cs := by
  obtain ⟨k1, k2⟩ := hg q 0 0 0 h.hi h.tag
  obtain ⟨ty, xs, h1, h2, h3, h4⟩ := h.blk
  exact ⟨k1, h.lo, by have := h.hi; omega, ty, xs, by rw [k2]; exact h1, h2, h3, fun i c x hc hx => (h4 i c x hc hx).keep hn fun r s t hr ht => hg r (i + 1) s t hr ht⟩
theorem Good.lt (G : Good b H g) (h : g q = some cs) : q < H.next := (G.2.choose_spec q cs h).hi
theorem Good.le (G : Good b H g) (h : g q = some cs) : b ≤ q := (G.2.choose_spec q cs h).lo
theorem Good.isNone (G : Good b H g) (h : H.next ≤ q) : g q = none := by
  cases hq : g q with
  | none => rfl
  | some cs => have := G.lt hq; omega
/-- All old blocks are as they were. -/
theorem Good.ext (G : Good b H g) (hn : H.next ≤ H'.next) (hg : ∀ r, r < H.next → H'.get r = H.get r) : Good b H' g := by
  obtain ⟨h0, τ, h⟩ := G
  exact ⟨by omega, τ, fun q cs hq => (h q cs hq).keep hn fun r i s t hr ht => ⟨ht, hg r hr⟩⟩
theorem Good.new (G : Good b H g) (o : AObj) : Good b (H.new o) g := G.ext (Nat.le_succ _) fun r hr => by rw [get_new, if_neg (by omega)]
theorem Good.guard (G : Good b H g) : Good b H.guard g := G.ext (Nat.le_refl _) fun _ _ => rfl
theorem Good.sub (G : Good b H g) {g' : Store} (h : ∀ q cs, g' q = some cs → g q = some cs) : Good b H g' := by
  obtain ⟨h0, τ, h1⟩ := G
  exact ⟨h0, τ, fun q cs hq => h1 q cs (h q cs hq)⟩
theorem Good.empty (H : AHeap) : Good H.next H fun _ => none := ⟨Nat.le_refl _, fun _ => none, fun _ _ h => by cases h⟩
theorem Good.weak (G : Good b H g) {b' : Nat} (h : b' ≤ b) : Good b' H g := by
  obtain ⟨h0, τ, h1⟩ := G
  have os : ∀ {T x m cells}, OS b H τ T x m cells → OS b' H τ T x m cells := by
    intro T x m cells ho
    rcases ho with ho | ⟨r, g, off, n, cap, ex, ty, all, h2, h3, h4, h5⟩
    · exact .inl ho
    · exact .inr ⟨r, g, off, n, cap, ex, ty, all, h2, h3, by omega, h5⟩
  have om : ∀ {T x k es}, OM b H τ T x k es → OM b' H τ T x k es := by
    intro T x k es ⟨r, h2, h3, h4, h5⟩
    exact ⟨r, h2, h3, by omega, h5⟩
  refine ⟨by omega, τ, fun q cs hq => ?_⟩
  have R := h1 q cs hq
  obtain ⟨ty, xs, k1, k2, k3, k4⟩ := R.blk
  refine ⟨R.tag, by have := R.lo; omega, R.hi, ty, xs, k1, k2, k3, fun i c x hc hx => ?_⟩
  have := k4 i c x hc hx
  cases c with
  | av _ => exact this
  | seq _ _ => exact os this
  | map _ _ => exact om this
  | maps _ _ _ =>
    obtain ⟨aes, a1, a2, a3⟩ := this
    exact ⟨aes, om a1, a2, fun j n cells x hj hx => os (a3 j n cells x hj hx)⟩
  | seqs _ _ _ =>
    obtain ⟨ys, a1, a2, a3⟩ := this
    exact ⟨ys, os a1, a2, fun j cells x hj hx => os (a3 j cells x hj hx)⟩
/-- How the memory goes on: nothing below b is touched. -/
structure Step (b : Nat) (H H' : AHeap) : Prop where
  base : H'.base = H.base
  next : H.next ≤ H'.next
  low : ∀ r, r < b → H'.get r = H.get r
theorem Step.refl (b : Nat) (H : AHeap) : Step b H H := ⟨rfl, Nat.le_refl _, fun _ _ => rfl⟩
theorem Step.trans {b : Nat} {H H' H'' : AHeap} (s : Step b H H') (t : Step b H' H'') : Step b H H'' := ⟨t.base.trans s.base, Nat.le_trans s.next t.next, fun r hr => by rw [t.low r hr, s.low r hr]⟩
theorem Step.new {b : Nat} {H : AHeap} (o : AObj) (h : b ≤ H.next) : Step b H (H.new o) := ⟨rfl, Nat.le_succ _, fun r hr => by rw [get_new, if_neg (by omega)]⟩
theorem Step.put {b : Nat} {H : AHeap} {r : Nat} (o : AObj) (h : b ≤ r) : Step b H (H.put r o) := ⟨rfl, Nat.le_refl _, fun x hx => by rw [get_put, if_neg (by omega)]⟩
theorem ld_blk {r off g : Nat} {ty : TypeId} {xs : List AV} (h : H.get r = .blk g ty xs) : ld (.ref r g off) H = (xs[off]?).map fun v => (v, H) := by
  simp only [ld, lookB, watchV, Option.map_some, ldO, h, if_true]
theorem lda_blk {r off g n : Nat} {ty : TypeId} {xs : List AV} (h : H.get r = .blk g ty xs) (hl : off + n ≤ xs.length) : lda n (.ref r g off) H = some (.agg ((xs.drop off).take n), H) := by
  simp only [lda, lookB, watchV, Option.map_some, ldaO, h, if_true, hl]
theorem ld_ip {cells : List AV} : ld (.ip cells) H = (cells[0]?).map fun v => (v, H) := by simp only [ld, lookB, ldO]
theorem lda_ip {cells : List AV} {n : Nat} (h : n ≤ cells.length) : lda n (.ip cells) H = some (.agg (cells.take n), H) := by
  simp only [lda, lookB, ldaO, Nat.zero_add, h, if_true, List.drop_zero, Option.map_some]
end

end Go.Proofs.YtjmldnpdfnklcaaDoor

namespace Go.Proofs.YtjmldnpdfnklcaaDoor

/-- x is a slice of n elements, m cells each; what it has are these cells. -/
def SliceIs (H : AHeap) (x : AV) (m n : Nat) (cells : List AV) : Prop :=
  cells.length = n * m ∧
  match x with
  | .sl r g off esz len cap _ => esz = m ∧ len = n ∧ (r < H.next ∧ len ≤ cap) ∧ ∃ ty all, H.get r = .blk g ty all ∧ off + n * m ≤ all.length ∧ cells = (all.drop off).take (n * m)
  | .vs k esz cs => esz = m ∧ k = n ∧ cs = cells
  | .s (.slice none a b) => a = 0 ∧ b = 0 ∧ n = 0
  | _ => False
/-- The place of an element. -/
def elemPtr (x : AV) (i : Nat) : AV :=
  match x with
  | .sl r g off esz _ _ _ => .ref r g (off + i * esz)
  | .vs _ esz cs => .ip (cs.drop (i * esz))
  | _ => undefA
section
variable {P : Program} {H : AHeap} {x : AV} {m n : Nat} {cells : List AV}
theorem SliceIs.isCell (h : SliceIs H x m n cells) : x.isCell = true := by
  obtain ⟨_, h⟩ := h
  cases x with
  | s v => cases v <;> first | rfl | exact h.elim
  | _ => first | rfl | exact h.elim
theorem SliceIs.len (h : SliceIs H x m n cells) {t e : TypeId} (ht : elemT P t = some e) : lenA P t x H = some (.s (.int .i64 n), H) := by
  obtain ⟨_, h⟩ := h
  unfold elemT at ht
  split at ht <;> first | (cases ht; done) | skip
  rename_i e' hu
  unfold lenA lookB lenO
  cases x with
  | sl r g off esz len cap ex => simp only [hu]; rw [h.2.1]; rfl
  | vs k esz cs => simp only [hu]; rw [h.2.1]; rfl
  | s v =>
    cases v with
    | slice a b c =>
      cases a with
      | none => simp only [hu]; rw [h.2.2, h.1]; rfl
      | some a => exact h.elim
    | _ => exact h.elim
  | _ => exact h.elim
theorem SliceIs.cells_ (h : SliceIs H x m n cells) : sliceLen x = some n ∧ sliceCells H x = some cells := by
  obtain ⟨hl, h⟩ := h
  cases x with
  | sl r g off esz len cap ex =>
    obtain ⟨rfl, rfl, _, ty, all, h1, h2, h3⟩ := h
    refine ⟨rfl, ?_⟩
    simp only [sliceCells, h1]
    rw [if_pos ⟨trivial, h2⟩, h3]
  | vs k esz cs => obtain ⟨rfl, rfl, rfl⟩ := h; exact ⟨rfl, rfl⟩
  | s v =>
    cases v with
    | slice a b c =>
      cases a with
      | none =>
        obtain ⟨rfl, rfl, rfl⟩ := h
        refine ⟨rfl, ?_⟩
        have : cells = [] := List.eq_nil_of_length_eq_zero (by omega)
        rw [this]; rfl
      | some a => exact h.elim
    | _ => exact h.elim
  | _ => exact h.elim
theorem SliceIs.index (h : SliceIs H x m n cells) {t e : TypeId} (ht : elemT P t = some e) (hm : szT P e = some m) {k : IntKind} {i : Int} (h0 : 0 ≤ i) (h1 : i < n) :
    indexAddrA P t x (.s (.int k i)) H = some (elemPtr x i.toNat, H) := by
  obtain ⟨_, h⟩ := h
  unfold elemT at ht
  split at ht <;> first | (cases ht; done) | skip
  rename_i e' hu
  simp only [Option.some.injEq] at ht
  subst ht
  unfold indexAddrA lookB indexAddrO
  cases x with
  | sl r g off esz len cap ex =>
    obtain ⟨rfl, rfl, _, ty, all, h2, h3, h4⟩ := h
    simp only [hu, watchV, Option.map_some, h2, genO, AObj.gen, hm, true_and]
    rw [if_pos ⟨h0, by omega⟩]; rfl
  | vs k' esz cs =>
    obtain ⟨rfl, rfl, rfl⟩ := h
    simp only [hu, hm, true_and]
    rw [if_pos ⟨h0, by omega⟩]; rfl
  | s v =>
    cases v with
    | slice a b c =>
      cases a with
      | none => obtain ⟨rfl, rfl, rfl⟩ := h; omega
      | some a => exact h.elim
    | _ => exact h.elim
  | _ => exact h.elim
/-- The block of a slice. -/
def nameOf : AV → Option Nat
  | .sl r _ _ _ _ _ _ => some r
  | _ => none
theorem SliceIs.of_get {H' : AHeap} (h : SliceIs H x m n cells) (hn : H.next ≤ H'.next) (hg : ∀ r, nameOf x = some r → r < H.next → H'.get r = H.get r) : SliceIs H' x m n cells := by
  obtain ⟨hl, h⟩ := h
  refine ⟨hl, ?_⟩
  cases x with
  | sl r g off esz len cap ex =>
    obtain ⟨h0, h1, hr, ty, all, h2, h3, h4⟩ := h
    exact ⟨h0, h1, ⟨Nat.lt_of_lt_of_le hr.1 hn, hr.2⟩, ty, all, by rw [hg r rfl hr.1]; exact h2, h3, h4⟩
  | s v =>
    cases v with
    | slice a b c => cases a <;> exact h
    | _ => exact h
  | _ => exact h
theorem SliceIs.new (h : SliceIs H x m n cells) (o : AObj) : SliceIs (H.new o) x m n cells :=
  h.of_get (Nat.le_succ _) fun r _ hr => by rw [get_new, if_neg (by omega)]
theorem SliceIs.put (h : SliceIs H x m n cells) {r : Nat} (hr : nameOf x ≠ some r) (o : AObj) : SliceIs (H.put r o) x m n cells :=
  h.of_get (Nat.le_refl _) fun r' hx _ => by rw [get_put, if_neg (fun e => hr (by rw [hx, e]))]
theorem SliceIs.guard (h : SliceIs H x m n cells) : SliceIs H.guard x m n cells := h
theorem SliceIs.nil {m : Nat} : SliceIs H (.s (.slice none 0 0)) m 0 [] := ⟨by simp, rfl, rfl, rfl⟩
theorem SliceIs.vs {m n : Nat} {cs : List AV} (h : cs.length = n * m) : SliceIs H (.vs n m cs) m n cs := ⟨h, rfl, rfl, rfl⟩
end
theorem flat_length {α : Type} {enc : α → List AV} {m : Nat} (he : ∀ a, (enc a).length = m) (l : List α) : (l.flatMap enc).length = l.length * m := by
  induction l with
  | nil => simp
  | cons a l ih => simp only [List.flatMap_cons, List.length_append, he, ih, List.length_cons, Nat.succ_mul]; omega
theorem flat_get {α : Type} {enc : α → List AV} {m : Nat} (he : ∀ a, (enc a).length = m) : ∀ (l : List α) (i : Nat) (a : α), l[i]? = some a → ((l.flatMap enc).drop (i * m)).take m = enc a
  | [], i, a, h => by simp at h
  | b :: l, 0, a, h => by
    simp only [List.getElem?_cons_zero, Option.some.injEq] at h
    subst h
    rw [Nat.zero_mul, List.drop_zero, List.flatMap_cons, List.take_append_of_le_length (by rw [he]; omega), List.take_of_length_le (by rw [he]; omega)]
  | b :: l, i + 1, a, h => by
    simp only [List.getElem?_cons_succ] at h
    have e1 : (enc b).drop ((i + 1) * m) = [] := List.drop_of_length_le (by rw [he, Nat.succ_mul]; omega)
    have e2 : (i + 1) * m - (enc b).length = i * m := by rw [he, Nat.succ_mul]; omega
    rw [List.flatMap_cons, List.drop_append, e1, e2, List.nil_append]
    exact flat_get he l i a h

end Go.Proofs.YtjmldnpdfnklcaaDoor

namespace Go.Proofs.YtjmldnpdfnklcaaDoor

section
variable {b : Nat} {H H' : AHeap} {g : Store} {q : Nat} {cs : List Cell}
/-- Only q's blocks have changed. -/
theorem good_upd {τ τ' : Nat → Option Tag} {cs' : List Cell} (h0 : b ≤ H.next) (h : ∀ q cs, g q = some cs → RepO b H τ q cs) (hn : H.next ≤ H'.next)
    (hk : ∀ r, r < H.next → (∀ i s t, τ r ≠ some (q, i, s, t)) → τ' r = τ r ∧ H'.get r = H.get r) (hR : RepO b H' τ' q cs') : Good b H' (upd g q cs') := by
  refine ⟨by omega, τ', fun q2 cs2 hq2 => ?_⟩
  by_cases e : q2 = q
  · subst e
    rw [upd_same] at hq2
    cases hq2
    exact hR
  · rw [upd_ne e] at hq2
    refine (h q2 cs2 hq2).keep hn fun r i s t hr ht => ?_
    obtain ⟨k1, k2⟩ := hk r hr fun i' s' t' h' => by rw [ht] at h'; cases h'; exact e rfl
    exact ⟨by rw [k1]; exact ht, k2⟩
theorem set_cases {α : Type} {l : List α} {i j : Nat} {a x : α} (h : (l.set i a)[j]? = some x) : (j = i ∧ x = a) ∨ (j ≠ i ∧ l[j]? = some x) := by
  by_cases e : i = j
  · subst e
    have hl : i < l.length := by
      have := (List.getElem?_eq_some_iff.1 h).1
      simpa using this
    rw [List.getElem?_set_self hl] at h
    cases h
    exact .inl ⟨rfl, rfl⟩
  · rw [List.getElem?_set_ne e] at h
    exact .inr ⟨fun e' => e e'.symm, h⟩
theorem all_set {l : List AV} (h : l.all AV.isCell = true) {v : AV} (hv : v.isCell = true) (i : Nat) : (l.set i v).all AV.isCell = true := by
  rw [List.all_eq_true] at h ⊢
  intro x hx
  rcases List.mem_or_eq_of_mem_set hx with hx | rfl
  · exact h x hx
  · exact hv
theorem setAt_one {l : List AV} {i : Nat} {v : AV} (hi : i < l.length) : setAt l i [v] = l.set i v := by
  rw [List.set_eq_take_append_cons_drop]
  simp only [setAt, hi, if_true, List.length_cons, List.length_nil]
  rfl
/-- A cell's word itself. -/
def One (v : AV) : Prop := v.cells = [v] ∧ v.isCell = true
theorem one_sl {r g off esz len cap : Nat} {ex : Bool} : One (.sl r g off esz len cap ex) := ⟨rfl, rfl⟩
theorem one_vs {n esz : Nat} {cells : List AV} : One (.vs n esz cells) := ⟨rfl, rfl⟩
theorem one_nil : One zN := ⟨rfl, rfl⟩
theorem st_one {r gg off : Nat} {v : AV} {ty : TypeId} {xs : List AV} (hv : One v) (h : H.get r = .blk gg ty xs) (hb : H.base ≤ r) (hl : off < xs.length) : st 1 (.ref r gg off) v H = some (undefA, H.put r (.blk gg ty (xs.set off v))) := by
  show (match H.get r with
    | .blk g' ty cells => if g' = gg ∧ H.base ≤ r ∧ some 1 = some v.cells.length ∧ v.cells.all AV.isCell = true ∧ off + v.cells.length ≤ cells.length then some (undefA, H.put r (.blk gg ty (setAt cells off v.cells))) else none
    | .map .. => none) = _
  rw [h]
  simp only
  rw [if_pos ⟨trivial, hb, by rw [hv.1]; rfl, by rw [hv.1]; simp [hv.2], by rw [hv.1]; exact hl⟩, hv.1, setAt_one hl]
theorem setA_get {l : List AV} {i : Nat} {vs : List AV} (h : i + vs.length ≤ l.length) (j : Nat) : (setAt l i vs)[j]? = if i ≤ j ∧ j < i + vs.length then vs[j - i]? else l[j]? := by
  unfold setAt
  rcases Nat.lt_or_ge j i with hj | hj
  · rw [List.getElem?_append_left (by rw [List.length_take]; omega), List.getElem?_take, if_pos hj, if_neg (by omega)]
  · have h1 : (l.take i).length = i := by rw [List.length_take]; omega
    rw [List.getElem?_append_right (by omega), h1]
    rcases Nat.lt_or_ge j (i + vs.length) with hk | hk
    · rw [if_pos ⟨hj, hk⟩, List.getElem?_append_left (by omega)]
    · rw [if_neg (by omega), List.getElem?_append_right (by omega), List.getElem?_drop]
      congr 1; omega
theorem setA_length {l : List AV} {i : Nat} {vs : List AV} (h : i + vs.length ≤ l.length) : (setAt l i vs).length = l.length := by
  simp only [setAt, List.length_append, List.length_take, List.length_drop]; omega
theorem all_setAt {l vs : List AV} (h : l.all AV.isCell = true) (hv : vs.all AV.isCell = true) (i : Nat) : (setAt l i vs).all AV.isCell = true := by
  rw [List.all_eq_true] at h hv ⊢
  intro x hx
  simp only [setAt, List.mem_append] at hx
  rcases hx with hx | hx | hx
  · exact h x (List.mem_of_mem_take hx)
  · exact hv x hx
  · exact h x (List.mem_of_mem_drop hx)
/-- x is the slice in a cell of an object. -/
structure Cur (b : Nat) (H : AHeap) (q i : Nat) (x : AV) (m : Nat) (l : List AV) : Prop where
  at_ : ∃ ty xs, H.get q = .blk 0 ty xs ∧ xs[i]? = some x
  own : (x = zN ∧ l = []) ∨ ∃ r g off n cap ex ty all, x = .sl r g off m n cap ex ∧ r ≠ q ∧ b ≤ r ∧ r < H.next ∧ n ≤ cap ∧ H.get r = .blk g ty all ∧ off + cap * m ≤ all.length ∧ all.all AV.isCell = true ∧ l = (all.drop off).take (n * m)
  lt : q < H.next
theorem Good.seq (G : Good b H g) (h : g q = some cs) {i m : Nat} {l : List AV} (hi : cs[i]? = some (.seq m l)) : ∃ x, ld (.ref q 0 i) H = some (x, H) ∧ Cur b H q i x m l := by
  obtain ⟨_, τ, hR⟩ := G
  have R := hR q cs h
  obtain ⟨ty, xs, h1, h2, h3, h4⟩ := R.blk
  have hlt : i < xs.length := by rw [h2]; exact (List.getElem?_eq_some_iff.1 hi).1
  have hx : xs[i]? = some (xs[i]'hlt) := List.getElem?_eq_getElem hlt
  refine ⟨xs[i]'hlt, by rw [ld_blk h1, hx]; rfl, ⟨ty, xs, h1, hx⟩, ?_, R.hi⟩
  have := h4 i _ _ hi hx
  simp only [CR] at this
  rcases this with h5 | ⟨r, gg, off, n, cap, ex, ty, all, h5, h6, h7⟩
  · exact .inl h5
  · refine .inr ⟨r, gg, off, n, cap, ex, ty, all, h5, ?_, h7⟩
    intro e; subst e; rw [R.tag] at h6; cases h6
theorem Cur.ext {i m : Nat} {x : AV} {l : List AV} (c : Cur b H q i x m l) (hn : H.next ≤ H'.next) (hg : ∀ r, r < H.next → H'.get r = H.get r) : Cur b H' q i x m l := by
  obtain ⟨ty, xs, h1, h2⟩ := c.at_
  refine ⟨⟨ty, xs, by rw [hg q c.lt]; exact h1, h2⟩, ?_, by have := c.lt; omega⟩
  rcases c.own with h | ⟨r, g, off, n, cap, ex, ty, all, k0, k1, k2, k3, k4, k5, k6⟩
  · exact .inl h
  · exact .inr ⟨r, g, off, n, cap, ex, ty, all, k0, k1, k2, by omega, k4, by rw [hg r k3]; exact k5, k6⟩
theorem Cur.new {i m : Nat} {x : AV} {l : List AV} (c : Cur b H q i x m l) (o : AObj) : Cur b (H.new o) q i x m l := c.ext (Nat.le_succ _) fun r hr => by rw [get_new, if_neg (by omega)]
theorem Cur.one {i m : Nat} {x : AV} {l : List AV} (c : Cur b H q i x m l) : One x := by
  rcases c.own with ⟨rfl, _⟩ | ⟨r, g, off, n, cap, ex, ty, all, rfl, _⟩
  · exact one_nil
  · exact one_sl
theorem Cur.is {i m n : Nat} {x : AV} {l : List AV} (c : Cur b H q i x m l) (hm : 0 < m) (hl : l.length = n * m) : SliceIs H x m n l := by
  refine ⟨hl, ?_⟩
  rcases c.own with ⟨rfl, rfl⟩ | ⟨r, g, off, n', cap, ex, ty, all, rfl, k1, k2, k3, k4, k5, k6, k7, rfl⟩
  · refine ⟨rfl, rfl, ?_⟩
    simp only [List.length_nil] at hl
    rcases Nat.mul_eq_zero.1 hl.symm with h | h <;> omega
  · have h1 : n' * m ≤ cap * m := Nat.mul_le_mul_right _ k4
    rw [List.length_take, List.length_drop, Nat.min_eq_left (by omega)] at hl
    have : n' = n := Nat.eq_of_mul_eq_mul_right hm hl
    subst this
    exact ⟨rfl, rfl, ⟨k3, k4⟩, ty, all, k5, by omega, rfl⟩
theorem Cur.low {i m r : Nat} {x : AV} {l : List AV} (c : Cur b H q i x m l) (hr : r < b) : nameOf x ≠ some r := by
  rcases c.own with ⟨rfl, _⟩ | ⟨r', g, off, n, cap, ex, ty, all, rfl, k1, k2, _⟩
  · intro e; cases e
  · intro e; simp only [nameOf, Option.some.injEq] at e; omega
/-- What may be laid into a cell as a slice of its own: x0's block, or a new one. -/
def Fit (H H1 : AHeap) (x0 x : AV) (m : Nat) (l : List AV) : Prop :=
  (x = zN ∧ l = []) ∨ ∃ r g off n cap ex ty all, x = .sl r g off m n cap ex ∧ (nameOf x0 = some r ∨ H.next ≤ r) ∧ r < H1.next ∧ n ≤ cap ∧ H1.get r = .blk g ty all ∧ off + cap * m ≤ all.length ∧ all.all AV.isCell = true ∧ l = (all.drop off).take (n * m)
end

end Go.Proofs.YtjmldnpdfnklcaaDoor

namespace Go.Proofs.YtjmldnpdfnklcaaDoor

section
variable {b : Nat} {H H' : AHeap} {g : Store} {q : Nat} {cs : List Cell}
theorem SliceIs.lnS {x : AV} {m n : Nat} {cells : List AV} (h : SliceIs H x m n cells) : lnS x H = some (I n, H) := by
  obtain ⟨_, h⟩ := h
  unfold Go.Proofs.YtjmldnpdfnklcaaDoor.lnS lookB lnSO
  cases x with
  | sl r g off esz len cap ex => simp only; rw [h.2.1]; rfl
  | vs k esz cs => simp only; rw [h.2.1]; rfl
  | s v =>
    cases v with
    | slice a b c =>
      cases a with
      | none => simp only; rw [h.2.2, h.1]; rfl
      | some a => exact h.elim
    | _ => exact h.elim
  | _ => exact h.elim
theorem SliceIs.ix {x : AV} {m n : Nat} {cells : List AV} (h : SliceIs H x m n cells) {k : IntKind} {i : Int} (h0 : 0 ≤ i) (h1 : i < n) : ix m x (.s (.int k i)) H = some (elemPtr x i.toNat, H) := by
  obtain ⟨_, h⟩ := h
  unfold Go.Proofs.YtjmldnpdfnklcaaDoor.ix lookB ixO
  cases x with
  | sl r g off esz len cap ex =>
    obtain ⟨rfl, rfl, _, ty, all, h2, h3, h4⟩ := h
    simp only [watchV, Option.map_some, h2, genO, AObj.gen, true_and]
    rw [if_pos ⟨h0, by omega⟩]; rfl
  | vs k' esz cs =>
    obtain ⟨rfl, rfl, rfl⟩ := h
    simp only [true_and]
    rw [if_pos ⟨h0, by omega⟩]; rfl
  | s v =>
    cases v with
    | slice a b c =>
      cases a with
      | none => obtain ⟨rfl, rfl, rfl⟩ := h; omega
      | some a => exact h.elim
    | _ => exact h.elim
  | _ => exact h.elim
theorem SliceIs.ld {x : AV} {n : Nat} {cells : List AV} (h : SliceIs H x 1 n cells) {i : Nat} (hi : i < n) : ld (elemPtr x i) H = (cells[i]?).map fun v => (v, H) := by
  obtain ⟨_, h⟩ := h
  cases x with
  | sl r g off esz len cap ex =>
    obtain ⟨rfl, rfl, _, ty, all, h2, h3, h4⟩ := h
    simp only [elemPtr]
    rw [ld_blk h2, h4, List.getElem?_take, if_pos (by omega), List.getElem?_drop, Nat.mul_one]
  | vs k' esz cs =>
    obtain ⟨rfl, rfl, rfl⟩ := h
    simp only [elemPtr]
    rw [ld_ip, List.getElem?_drop, Nat.mul_one, Nat.add_zero]
  | s v =>
    cases v with
    | slice a b c =>
      cases a with
      | none => obtain ⟨rfl, rfl, rfl⟩ := h; omega
      | some a => exact h.elim
    | _ => exact h.elim
  | _ => exact h.elim
theorem SliceIs.lda {x : AV} {m n : Nat} {cells : List AV} (h : SliceIs H x m n cells) {i : Nat} (hi : i < n) : lda m (elemPtr x i) H = some (.agg ((cells.drop (i * m)).take m), H) := by
  obtain ⟨hl, h⟩ := h
  have him : i * m + m ≤ n * m := by
    have : (i + 1) * m ≤ n * m := Nat.mul_le_mul_right _ hi
    rwa [Nat.succ_mul] at this
  cases x with
  | sl r g off esz len cap ex =>
    obtain ⟨rfl, rfl, _, ty, all, h2, h3, h4⟩ := h
    simp only [elemPtr]
    rw [lda_blk h2 (by omega), h4, List.drop_take, List.take_take, List.drop_drop, Nat.min_eq_left (by omega)]
  | vs k' esz cs =>
    obtain ⟨rfl, rfl, rfl⟩ := h
    simp only [elemPtr]
    rw [lda_ip (by rw [List.length_drop]; omega)]
  | s v =>
    cases v with
    | slice a b c =>
      cases a with
      | none => obtain ⟨rfl, rfl, rfl⟩ := h; omega
      | some a => exact h.elim
    | _ => exact h.elim
  | _ => exact h.elim
theorem drop_take_setAt {all new : List AV} {off n : Nat} (h : off + n + new.length ≤ all.length) : ((setAt all (off + n) new).drop off).take (n + new.length) = (all.drop off).take n ++ new := by
  have hl : (setAt all (off + n) new).length = all.length := setA_length (by omega)
  apply List.ext_getElem?
  intro j
  rcases Nat.lt_or_ge j n with h1 | h1
  · rw [List.getElem?_take, if_pos (by omega), List.getElem?_drop, setA_get (by omega), if_neg (by omega), List.getElem?_append_left (by rw [List.length_take, List.length_drop]; omega), List.getElem?_take, if_pos h1, List.getElem?_drop]
  · rcases Nat.lt_or_ge j (n + new.length) with h2 | h2
    · rw [List.getElem?_take, if_pos h2, List.getElem?_drop, setA_get (by omega), if_pos (by omega), List.getElem?_append_right (by rw [List.length_take, List.length_drop]; omega), List.length_take, List.length_drop]
      congr 1; omega
    · rw [List.getElem?_take, if_neg (by omega), List.getElem?_append_right (by rw [List.length_take, List.length_drop]; omega), List.length_take, List.length_drop, List.getElem?_eq_none (by omega)]
theorem all_append {l l' : List AV} (h : l.all AV.isCell = true) (h' : l'.all AV.isCell = true) : (l ++ l').all AV.isCell = true := by rw [List.all_append, h, h']; rfl
theorem all_take {l : List AV} (h : l.all AV.isCell = true) (n : Nat) : (l.take n).all AV.isCell = true := by
  rw [List.all_eq_true] at h ⊢; exact fun x hx => h x (List.mem_of_mem_take hx)
theorem all_drop {l : List AV} (h : l.all AV.isCell = true) (n : Nat) : (l.drop n).all AV.isCell = true := by
  rw [List.all_eq_true] at h ⊢; exact fun x hx => h x (List.mem_of_mem_drop hx)
/-- A slice of this call's own. -/
def Own (b : Nat) (H : AHeap) (x : AV) (m : Nat) (l : List AV) : Prop :=
  (x = zN ∧ l = []) ∨ ∃ r g off n cap ex ty all, x = .sl r g off m n cap ex ∧ b ≤ r ∧ r < H.next ∧ n ≤ cap ∧ H.get r = .blk g ty all ∧ off + cap * m ≤ all.length ∧ all.all AV.isCell = true ∧ l = (all.drop off).take (n * m)
theorem Own.app {m n k : Nat} {x y : AV} {l new : List AV} (c : Own b H x m l) (hb : H.base ≤ b) (hm : 0 < m) (hl : l.length = n * m) (hy : SliceIs H y m k new) (hc : new.all AV.isCell = true) {e : TypeId} {by_ : Nat} (h1 : n + k ≤ most) (h2 : (n + k) * by_ ≤ most) :
    ∃ x' H1, app e m by_ x y H = some (x', H1) ∧ Fit H H1 x x' m (l ++ new) ∧ H.next ≤ H1.next ∧ H1.base = H.base ∧ ∀ r, r < H.next → nameOf x ≠ some r → H1.get r = H.get r := by
  obtain ⟨c1, c2⟩ := hy.cells_
  have c3 := hy.1
  have key : Go.Proofs.YtjmldnpdfnklcaaDoor.app e m by_ x y H = appendCells e m by_ x k new H := by simp only [Go.Proofs.YtjmldnpdfnklcaaDoor.app, c1, c2]
  rw [key]
  unfold appendCells
  rw [if_pos ⟨c3, hc⟩]
  rcases c with ⟨rfl, rfl⟩ | ⟨r, gg, off, n', cap, ex, ty, all, rfl, k2, k3, k4, k5, k6, k7, rfl⟩
  · simp only [List.length_nil] at hl
    have hn : n = 0 := by rcases Nat.mul_eq_zero.1 hl.symm with h | h <;> omega
    subst hn
    rw [Nat.zero_add] at h1 h2
    by_cases hk : k = 0
    · subst hk
      rw [Nat.zero_mul] at c3
      have : new = [] := List.eq_nil_of_length_eq_zero c3
      subst this
      exact ⟨zN, H, by simp only [if_true], .inl ⟨rfl, rfl⟩, Nat.le_refl _, rfl, fun _ _ _ => rfl⟩
    · refine ⟨.sl H.next 0 0 m k k false, H.new (.blk 0 (e + tagB) new), by simp only [hk, h1, h2, and_self, if_true, if_false], .inr ⟨H.next, 0, 0, k, k, false, e + tagB, new, rfl, .inr (Nat.le_refl _), by rw [next_new]; omega, Nat.le_refl _, by simp [get_new], by omega, hc, ?_⟩, Nat.le_succ _, rfl, fun r hr _ => by rw [get_new, if_neg (by omega)]⟩
      rw [List.nil_append, List.drop_zero, List.take_of_length_le (by omega)]
  · have hcm : n' * m ≤ cap * m := Nat.mul_le_mul_right _ k4
    rw [List.length_take, List.length_drop, Nat.min_eq_left (by omega)] at hl
    have hn : n' = n := Nat.eq_of_mul_eq_mul_right hm hl
    subst hn
    simp only [k5]
    rw [if_pos ⟨trivial, trivial, by omega⟩]
    by_cases hk : k = 0
    · subst hk
      rw [Nat.zero_mul] at c3
      have : new = [] := List.eq_nil_of_length_eq_zero c3
      subst this
      exact ⟨_, H, by rw [if_pos rfl], .inr ⟨r, gg, off, n', cap, ex, ty, all, rfl, .inl rfl, k3, k4, k5, k6, k7, by rw [List.append_nil]⟩, Nat.le_refl _, rfl, fun _ _ _ => rfl⟩
    · rw [if_neg hk]
      by_cases hf : n' + k ≤ cap
      · have hfm : (n' + k) * m ≤ cap * m := Nat.mul_le_mul_right _ hf
        rw [if_pos hf, if_pos ⟨by omega, by omega⟩]
        refine ⟨_, _, rfl, .inr ⟨r, gg, off, n' + k, cap, ex, ty, setAt all (off + n' * m) new, rfl, .inl rfl, k3, hf, by rw [get_put, if_pos rfl], ?_, all_setAt k7 hc _, ?_⟩, Nat.le_refl _, rfl, fun r' hr hne => ?_⟩
        · rw [Nat.add_mul] at hfm; rw [setA_length (by omega)]; exact k6
        · rw [Nat.add_mul] at hfm ⊢; rw [← c3, drop_take_setAt (by omega)]
        · rw [get_put, if_neg]; intro e'; subst e'; exact hne rfl
      · rw [if_neg hf, if_pos ⟨h1, h2⟩]
        have e1 : ((all.drop off).take (n' * m)).length = n' * m := by rw [List.length_take, List.length_drop]; omega
        have e2 : ((all.drop off).take (n' * m) ++ new).length = (n' + k) * m := by rw [List.length_append, e1, c3, Nat.add_mul]
        cases ex with
        | true =>
          simp only [if_true]
          refine ⟨_, _, rfl, .inr ⟨H.next, 0, 0, n' + k, n' + k, false, e + tagB, (all.drop off).take (n' * m) ++ new, rfl, .inr (Nat.le_refl _), by rw [next_new]; omega, Nat.le_refl _, by simp only [get_new, if_true], by rw [e2, Nat.zero_add]; exact Nat.le_refl _, all_append (all_take (all_drop k7 _) _) hc, ?_⟩, Nat.le_succ _, rfl, fun r' hr _ => by rw [get_new, if_neg (by omega)]⟩
          rw [List.drop_zero, List.take_of_length_le (Nat.le_of_eq e2)]
        | false =>
          simp only [Bool.false_eq_true, if_false]
          rw [if_pos (by omega)]
          refine ⟨_, _, rfl, .inr ⟨r, gg + 1, 0, n' + k, n' + k, false, grT e ty off, (all.drop off).take (n' * m) ++ new, rfl, .inl rfl, k3, Nat.le_refl _, by simp only [get_put, if_true], by rw [e2, Nat.zero_add]; exact Nat.le_refl _, all_append (all_take (all_drop k7 _) _) hc, ?_⟩, Nat.le_refl _, rfl, fun r' hr hne => ?_⟩
          · rw [List.drop_zero, List.take_of_length_le (Nat.le_of_eq e2)]
          · rw [get_put, if_neg]; intro e'; subst e'; exact hne rfl
theorem Cur.toOwn {i m : Nat} {x : AV} {l : List AV} (c : Cur b H q i x m l) : Own b H x m l := by
  rcases c.own with h | ⟨r, gg, off, n', cap, ex, ty, all, k0, k1, k2⟩
  · exact .inl h
  · exact .inr ⟨r, gg, off, n', cap, ex, ty, all, k0, k2⟩
theorem Cur.app {i m n k : Nat} {x y : AV} {l new : List AV} (c : Cur b H q i x m l) (hb : H.base ≤ b) (hm : 0 < m) (hl : l.length = n * m) (hy : SliceIs H y m k new) (hc : new.all AV.isCell = true) {e : TypeId} {by_ : Nat} (h1 : n + k ≤ most) (h2 : (n + k) * by_ ≤ most) :
    ∃ x' H1, app e m by_ x y H = some (x', H1) ∧ Fit H H1 x x' m (l ++ new) ∧ H.next ≤ H1.next ∧ H1.base = H.base ∧ ∀ r, r < H.next → nameOf x ≠ some r → H1.get r = H.get r :=
  c.toOwn.app hb hm hl hy hc h1 h2
/-- The slice goes on as this call's own. -/
theorem Own.step {m n k : Nat} {x y : AV} {l new : List AV} (c : Own b H x m l) (hbn : b ≤ H.next) (hb : H.base ≤ b) (hm : 0 < m) (hl : l.length = n * m) (hy : SliceIs H y m k new) (hc : new.all AV.isCell = true) {e : TypeId} {by_ : Nat} (h1 : n + k ≤ most) (h2 : (n + k) * by_ ≤ most) :
    ∃ x' H1, Go.Proofs.YtjmldnpdfnklcaaDoor.app e m by_ x y H = some (x', H1) ∧ Own b H1 x' m (l ++ new) ∧ Step b H H1 := by
  obtain ⟨x', H1, e1, f, n1, b1, k1⟩ := c.app hb hm hl hy hc (e := e) (by_ := by_) h1 h2
  have hx : ∀ r, nameOf x = some r → b ≤ r := fun r hr => by
    rcases c with ⟨rfl, _⟩ | ⟨r', g, off, n', cap, ex, ty, all, rfl, k2, _⟩
    · cases hr
    · simp only [nameOf, Option.some.injEq] at hr; omega
  refine ⟨x', H1, e1, ?_, b1, n1, fun r hr => k1 r (by omega) fun e => by have := hx r e; omega⟩
  rcases f with f | ⟨r, g, off, n', cap, ex, ty, all, rfl, f1, f2⟩
  · exact .inl f
  · exact .inr ⟨r, g, off, n', cap, ex, ty, all, rfl, f1.elim (hx r) fun f1 => by omega, f2⟩
theorem Own.is {m n : Nat} {x : AV} {l : List AV} (c : Own b H x m l) (hm : 0 < m) (hl : l.length = n * m) : SliceIs H x m n l := by
  refine ⟨hl, ?_⟩
  rcases c with ⟨rfl, rfl⟩ | ⟨r, g, off, n', cap, ex, ty, all, rfl, k2, k3, k4, k5, k6, k7, rfl⟩
  · refine ⟨rfl, rfl, ?_⟩
    simp only [List.length_nil] at hl
    rcases Nat.mul_eq_zero.1 hl.symm with h | h <;> omega
  · have hcm : n' * m ≤ cap * m := Nat.mul_le_mul_right _ k4
    rw [List.length_take, List.length_drop, Nat.min_eq_left (by omega)] at hl
    have hn : n' = n := Nat.eq_of_mul_eq_mul_right hm hl
    subst hn
    exact ⟨rfl, rfl, ⟨k3, k4⟩, ty, all, k5, by omega, rfl⟩
theorem Own.ext {m : Nat} {x : AV} {l : List AV} (c : Own b H x m l) (hn : H.next ≤ H'.next) (hg : ∀ r, r < H.next → H'.get r = H.get r) : Own b H' x m l := by
  rcases c with h | ⟨r, g, off, n, cap, ex, ty, all, k0, k2, k3, k4, k5, k6⟩
  · exact .inl h
  · exact .inr ⟨r, g, off, n, cap, ex, ty, all, k0, k2, by omega, k4, by rw [hg r k3]; exact k5, k6⟩
theorem Own.new {m : Nat} {x : AV} {l : List AV} (c : Own b H x m l) (o : AObj) : Own b (H.new o) x m l := c.ext (Nat.le_succ _) fun r hr => by rw [get_new, if_neg (by omega)]
theorem Good.map (G : Good b H g) (h : g q = some cs) {i : Nat} {k : IntKind} {es : List (Int × AV)} (hi : cs[i]? = some (.map k es)) :
    ∃ r, ld (.ref q 0 i) H = some (.mp r, H) ∧ (∀ z n ok, lk k z (.mp r) (.s (.int k n)) ok H = some ((match findE es n with
      | some v => if ok then .tup [v, .s (.bool true)] else v
      | none => if ok then .tup [.s z, .s (.bool false)] else .s z), H)) ∧ lnM (.mp r) H = some (I es.length, H) ∧ (H.base ≤ b →
      (∀ n v, ∃ H', mup k (.mp r) (.s (.int k n)) v H = some (undefA, H') ∧ Good b H' (upd g q (cs.set i (.map k (putE es n v)))) ∧ Step b H H' ∧ H'.next = H.next) ∧
      (∀ n, ∃ H', del k (.mp r) (.s (.int k n)) H = some (.tup [], H') ∧ Good b H' (upd g q (cs.set i (.map k (dropE es n)))) ∧ Step b H H' ∧ H'.next = H.next)) := by
  obtain ⟨h0, τ, hR⟩ := G
  have R := hR q cs h
  obtain ⟨ty, xs, h1, h2, h3, h4⟩ := R.blk
  have hlt : i < xs.length := by rw [h2]; exact (List.getElem?_eq_some_iff.1 hi).1
  have hx : xs[i]? = some (xs[i]'hlt) := List.getElem?_eq_getElem hlt
  have := h4 i _ _ hi hx
  simp only [CR] at this
  obtain ⟨r, e, t1, t2, t3, t4⟩ := this
  rw [e] at hx
  have hrq : q ≠ r := by intro e; subst e; rw [R.tag] at t1; cases t1
  have put : ∀ es', Good b (H.put r (.map k es')) (upd g q (cs.set i (.map k es'))) := by
    intro es'
    refine good_upd (τ' := τ) h0 hR (Nat.le_refl _) (fun r' hr ht => ⟨rfl, ?_⟩) ⟨R.tag, R.lo, R.hi, ty, xs, by rw [get_put, if_neg hrq]; exact h1, by simp [h2], h3, fun j c y hc hy => ?_⟩
    · rw [get_put, if_neg]; intro e; subst e; exact ht _ _ _ t1
    · rcases set_cases hc with ⟨rfl, rfl⟩ | ⟨hj, hc⟩
      · rw [hx] at hy; cases hy
        exact ⟨r, rfl, t1, t2, t3, by rw [get_put, if_pos rfl]⟩
      · refine (h4 j c y hc hy).keep (Nat.le_refl _) fun r' s t hr ht => ⟨ht, ?_⟩
        rw [get_put, if_neg]; intro e; subst e
        rw [t1] at ht
        simp only [Option.some.injEq, Prod.mk.injEq, Nat.add_right_cancel_iff] at ht
        exact hj ht.2.1.symm
  refine ⟨r, by rw [ld_blk h1, hx]; rfl, fun z n ok => ?_, ?_, fun hb => ⟨fun n v => ⟨H.put r (.map k (putE es n v)), ?_, put _, Step.put _ t2, rfl⟩, fun n => ⟨H.put r (.map k (dropE es n)), ?_, put _, Step.put _ t2, rfl⟩⟩⟩
  · simp only [lk, lookB, watchV, Option.map_some, lkO, t4, and_self, if_true]
    cases findE es n <;> rfl
  · simp only [lnM, lookB, watchV, Option.map_some, lnMO, t4]
  · simp only [mup, t4]
    rw [if_pos ⟨trivial, trivial, by omega⟩]
  · simp only [del, t4]
    rw [if_pos ⟨trivial, trivial, by omega⟩]
end

end Go.Proofs.YtjmldnpdfnklcaaDoor

namespace Go.Proofs.YtjmldnpdfnklcaaDoor

section
variable {β : Type} {x : Option (AV × AHeap)} {H : AHeap} {k : AV → AHeap → Option β}
theorem gd_tt : gdA (some (.s (.bool true))) true x H k = bnd x k := rfl
theorem gd_tf : gdA (some (.s (.bool true))) false x H k = k undefA H := rfl
theorem gd_ft : gdA (some (.s (.bool false))) true x H k = k undefA H := rfl
theorem gd_ff : gdA (some (.s (.bool false))) false x H k = bnd x k := rfl
theorem pk_t {a b : AV} : pickA (.s (.bool true)) a b = some a := rfl
theorem pk_f {a b : AV} : pickA (.s (.bool false)) a b = some b := rfl
end
theorem nil_ref {r g o : Nat} : nilCheckA (.ref r g o) = some (.ref r g o) := rfl
theorem nil_ip {l : List AV} : nilCheckA (.ip l) = some (.ip l) := rfl
theorem nil_fn {f : FuncId} {a c : List AV} : nilCheckA (.fn (.func f) a c) = some (.fn (.func f) a c) := rfl
theorem ex_tup {l : List AV} {i : Nat} : extractA (.tup l) i = l[i]? := rfl
theorem fl_agg {l : List AV} {o : Nat} : fl (.agg l) o = l[o]? := rfl
theorem ld_ref {r g off : Nat} {H : AHeap} : ld (.ref r g off) H = match H.get r with
    | .blk g' _ cells => if g' = g then (cells[off]?).map fun v => (v, H) else none
    | .map .. => none := by
  simp only [ld, lookB, watchV, Option.map_some, ldO]
  cases H.get r with
  | map k es => rfl
  | blk g' ty cells => simp only; split <;> rfl
theorem lda_ref {r g off n : Nat} {H : AHeap} : lda n (.ref r g off) H = match H.get r with
    | .blk g' _ cells => if g' = g then (if off + n ≤ cells.length then some (.agg ((cells.drop off).take n), H) else none) else none
    | .map .. => none := by
  simp only [lda, lookB, watchV, Option.map_some, ldaO]
  cases H.get r with
  | map k es => rfl
  | blk g' ty cells =>
    simp only
    split
    · split <;> rfl
    · rfl
theorem box_agg {t : TypeId} {l : List AV} {H : AHeap} (h : l.all AV.isCell = true) (ht : t < 1000000000 := by decide) : boxA t (.agg l) H = some (.ref H.next 0 0, H.new (.blk 0 t l)) := box_eq h ht
theorem alc_eq {t : TypeId} {z : List AV} {H : AHeap} : alc t z H = some (.ref H.next 0 0, H.new (.blk 0 t z)) := rfl
theorem mkm_eq {k : IntKind} {H : AHeap} : mkm k H = some (.mp H.next, H.new (.map k [])) := rfl
theorem leS {a b : Nat} (h : a ≤ b) : a ≤ b + 1 := by omega
theorem ltS {a b : Nat} (h : a < b) : a < b + 1 := by omega
theorem nNew {H : AHeap} {o : AObj} : (H.new o).next = H.next + 1 := Eq.trans rfl rfl
theorem nPut {H : AHeap} {r : Nat} {o : AObj} : (H.put r o).next = H.next := Eq.trans rfl rfl
theorem bNew {H : AHeap} {o : AObj} : (H.new o).base = H.base := Eq.trans rfl rfl
theorem bPut {H : AHeap} {r : Nat} {o : AObj} : (H.put r o).base = H.base := Eq.trans rfl rfl
theorem nGrd {H : AHeap} : H.guard.next = H.next := Eq.trans rfl rfl
theorem bGrd {H : AHeap} : H.guard.base = H.next := Eq.trans rfl rfl
theorem getNew_eq {H : AHeap} {o : AObj} : (H.new o).get H.next = o := by rw [get_new, if_pos rfl]
theorem getNew_is {H : AHeap} {o : AObj} {r : Nat} (h : r = H.next) : (H.new o).get r = o := by rw [get_new, if_pos h]
theorem getNew_lt {H : AHeap} {o : AObj} {r : Nat} (h : r < H.next) : (H.new o).get r = H.get r := by rw [get_new, if_neg (by omega)]
theorem getPut_eq {H : AHeap} {o : AObj} {r : Nat} : (H.put r o).get r = o := by rw [get_put, if_pos rfl]
theorem getPut_ne {H : AHeap} {o : AObj} {r r' : Nat} (h : r ≠ r') : (H.put r' o).get r = H.get r := by rw [get_put, if_neg h]
theorem st_ref' {n r off : Nat} {v : AV} {H : AHeap} : st n (.ref r 0 off) v H = match H.get r with
    | .blk g' ty cells => if g' = 0 ∧ H.base ≤ r ∧ n = v.cells.length ∧ v.cells.all AV.isCell = true ∧ off + v.cells.length ≤ cells.length then some (undefA, H.put r (.blk 0 ty (setAt cells off v.cells))) else none
    | .map .. => none := by
  unfold st
  simp only [Option.some.injEq]
  cases H.get r <;> rfl
theorem ldN_is {H : AHeap} {r off : Nat} {ty : TypeId} {cells : List AV} (h : r = H.next) : ld (.ref r 0 off) (H.new (.blk 0 ty cells)) = (cells[off]?).map fun v => (v, H.new (.blk 0 ty cells)) := ld_blk (getNew_is h)
theorem ldaN_is {H : AHeap} {r off n : Nat} {ty : TypeId} {cells : List AV} (h : r = H.next) : lda n (.ref r 0 off) (H.new (.blk 0 ty cells)) = if off + n ≤ cells.length then some (.agg ((cells.drop off).take n), H.new (.blk 0 ty cells)) else none := by
  split
  · rename_i hl; exact lda_blk (getNew_is h) hl
  · rename_i hl; rw [lda_ref, getNew_is h]; simp only [if_true, hl, if_false]
theorem ldN_lt {H : AHeap} {r off : Nat} {o : AObj} (h : r < H.next) : ld (.ref r 0 off) (H.new o) = (ld (.ref r 0 off) H).map fun p => (p.1, H.new o) := by
  rw [ld_ref, ld_ref, getNew_lt h]
  cases H.get r with
  | map k es => rfl
  | blk g ty cells => simp only; split <;> first | rfl | (cases cells[off]? <;> rfl)
theorem ldaN_lt {H : AHeap} {r off n : Nat} {o : AObj} (h : r < H.next) : lda n (.ref r 0 off) (H.new o) = (lda n (.ref r 0 off) H).map fun p => (p.1, H.new o) := by
  rw [lda_ref, lda_ref, getNew_lt h]
  cases H.get r with
  | map k es => rfl
  | blk g ty cells => simp only; split <;> first | rfl | (split <;> rfl)
theorem put_new {H : AHeap} {a b : AObj} : (H.new a).put H.next b = H.new b := by
  unfold AHeap.put AHeap.new
  simp only
  congr 1
  funext x
  split <;> rfl
theorem put_lt {H : AHeap} {r : Nat} {a b : AObj} (h : r < H.next) : (H.new a).put r b = (H.put r b).new a := by
  unfold AHeap.put AHeap.new
  simp only
  congr 1
  funext x
  split <;> split <;> first | rfl | (exfalso; omega)
theorem stN_is {n : Nat} {H : AHeap} {r off : Nat} {v : AV} {ty : TypeId} {cells : List AV} (h : r = H.next) : st n (.ref r 0 off) v (H.new (.blk 0 ty cells)) = if H.base ≤ r ∧ n = v.cells.length ∧ v.cells.all AV.isCell = true ∧ off + v.cells.length ≤ cells.length then some (undefA, H.new (.blk 0 ty (setAt cells off v.cells))) else none := by
  subst h
  rw [st_ref', getNew_is rfl]
  simp only [true_and, bNew, put_new]
theorem stN_lt {n : Nat} {H : AHeap} {r off : Nat} {v : AV} {o : AObj} (h : r < H.next) : st n (.ref r 0 off) v (H.new o) = (st n (.ref r 0 off) v H).map fun p => (p.1, p.2.new o) := by
  rw [st_ref', st_ref', getNew_lt h]
  cases H.get r with
  | map k es => rfl
  | blk g ty cells =>
    simp only [bNew]
    split
    · simp only [Option.map_some, put_lt h]
    · rfl
/-- A block of this call is written. -/
theorem st_new {r off n : Nat} {v : AV} {ty : TypeId} {xs : List AV} {H : AHeap} (h : H.get r = .blk 0 ty xs) (hb : H.base ≤ r) (hv : v.cells.all AV.isCell = true) (hn : v.cells.length = n) (hl : off + n ≤ xs.length) : st n (.ref r 0 off) v H = some (undefA, H.put r (.blk 0 ty (setAt xs off v.cells))) := by
  show (match H.get r with
    | .blk g' ty cells => if g' = 0 ∧ H.base ≤ r ∧ some n = some v.cells.length ∧ v.cells.all AV.isCell = true ∧ off + v.cells.length ≤ cells.length then some (undefA, H.put r (.blk 0 ty (setAt cells off v.cells))) else none
    | .map .. => none) = _
  rw [h]
  simp only
  rw [if_pos ⟨trivial, hb, by rw [hn], hv, by omega⟩]
theorem bsl_one {e m : Nat} {z : List AV} {v : AV} {H : AHeap} (hz : z.length = m) (hv : v.cells.length = m) (hc : v.cells.all AV.isCell = true) : bsl e m z 1 [(0, v)] H = some (.sl H.next 0 0 m 1 1 true, H.new (.blk 0 e v.cells)) := by
  have h1 : (zerosL z 1).length = m := by simp [zerosL, hz]
  unfold bsl
  rw [fillA]
  simp only [Nat.zero_mul, hv, h1, Nat.zero_add, Nat.le_refl, and_self, if_true, fillA]
  have : setAt (zerosL z 1) 0 v.cells = v.cells := by
    simp only [setAt, List.take_zero, List.nil_append, Nat.zero_add]
    rw [List.drop_of_length_le (by omega), List.append_nil]
  rw [this, if_pos hc]
theorem sl_new {e m n : Nat} {l : List AV} {H : AHeap} {ex : Bool} (h : l.length = n * m) : SliceIs (H.new (.blk 0 e l)) (.sl H.next 0 0 m n n ex) m n l :=
  ⟨h, rfl, rfl, ⟨by rw [nNew]; omega, Nat.le_refl _⟩, e, l, by simp [get_new], by omega, by rw [List.drop_zero, List.take_of_length_le (by omega)]⟩
theorem callA_fun {P : Program} {C : Callee} {f : FuncId} {a c args : List AV} {H : AHeap} (h : enterable P f = true) : callA P C (.fn (.func f) a c) args H = C f (a ++ args ++ c) H := callA_fn h
theorem wrap_i64 {a : Int} (h1 : -9223372036854775808 ≤ a) (h2 : a ≤ 9223372036854775807) : IntKind.wrap .i64 a = a := wrap64 h1 h2

end Go.Proofs.YtjmldnpdfnklcaaDoor

namespace Go.Proofs.YtjmldnpdfnklcaaDoor

def SubS (g g' : Store) : Prop := ∀ q cs, g q = some cs → g' q = some cs
theorem SubS.refl (g : Store) : SubS g g := fun _ _ h => h
section
variable {b : Nat} {H H' : AHeap} {g : Store} {q : Nat} {cs : List Cell}
theorem Cur.length {i m n : Nat} {x : AV} {l : List AV} (c : Cur b H q i x m l) (hm : 0 < m) (hl : l.length = n * m) : (x = zN ∧ n = 0) ∨ ∃ r g off cap ex ty all, x = .sl r g off m n cap ex ∧ r ≠ q ∧ b ≤ r ∧ r < H.next ∧ n ≤ cap ∧ H.get r = .blk g ty all ∧ off + cap * m ≤ all.length ∧ all.all AV.isCell = true ∧ l = (all.drop off).take (n * m) := by
  rcases c.own with ⟨rfl, rfl⟩ | ⟨r, g, off, n', cap, ex, ty, all, rfl, k1, k2, k3, k4, k5, k6, k7, rfl⟩
  · left
    simp only [List.length_nil] at hl
    refine ⟨rfl, ?_⟩
    rcases Nat.mul_eq_zero.1 hl.symm with h | h <;> omega
  · right
    have h1 : n' * m ≤ cap * m := Nat.mul_le_mul_right _ k4
    rw [List.length_take, List.length_drop, Nat.min_eq_left (by omega)] at hl
    have : n' = n := Nat.eq_of_mul_eq_mul_right hm hl
    subst this
    exact ⟨r, g, off, cap, ex, ty, all, rfl, k1, k2, k3, k4, k5, k6, k7, rfl⟩
theorem slS_to {r gg off m len cap : Nat} {ex : Bool} {k2 : IntKind} {hi : Int} (h0 : 0 ≤ hi) (h2 : hi ≤ cap) : slS m (.sl r gg off m len cap ex) none (some (.s (.int k2 hi))) none = some (.sl r gg off m hi.toNat cap ex) := by
  simp only [slS, boundA, h0, if_true, isNone, Bool.not_true, Bool.or_false]
  rw [if_pos ⟨trivial, by omega, by omega, by omega, by simp⟩]
  simp
theorem slS_from {r gg off m len cap : Nat} {ex : Bool} {k1 : IntKind} {lo : Int} (h0 : 0 ≤ lo) (h1 : lo ≤ len) (h2 : len ≤ cap) : slS m (.sl r gg off m len cap ex) (some (.s (.int k1 lo))) none none = some (.sl r gg (off + lo.toNat * m) m (len - lo.toNat) (cap - lo.toNat) ex) := by
  simp only [slS, boundA, h0, if_true, isNone, Bool.not_true, Bool.or_false]
  rw [if_pos ⟨trivial, by omega, by omega, by omega, by simp⟩]
theorem zerosL_all {z : List AV} (h : z.all AV.isCell = true) : ∀ n, (zerosL z n).all AV.isCell = true
  | 0 => rfl
  | n + 1 => by rw [zerosL, List.all_append, h, zerosL_all h n]; rfl
/-- x[lo:] -/
theorem SliceIs.from_ {x : AV} {m n : Nat} {cells : List AV} (h : SliceIs H x m n cells) {k : IntKind} {lo : Int} (h0 : 0 ≤ lo) (h1 : lo ≤ n) : ∃ y, slS m x (some (.s (.int k lo))) none none = some y ∧ SliceIs H y m (n - lo.toNat) (cells.drop (lo.toNat * m)) := by
  obtain ⟨hl, h⟩ := h
  have hlm : lo.toNat * m ≤ n * m := Nat.mul_le_mul_right _ (by omega)
  have hsub : (n - lo.toNat) * m = n * m - lo.toNat * m := Nat.sub_mul n lo.toNat m
  cases x with
  | sl r g off esz len cap ex =>
    obtain ⟨rfl, rfl, ⟨hr, hc⟩, ty, all, h2, h3, h4⟩ := h
    refine ⟨_, slS_from h0 h1 hc, by rw [List.length_drop, hl, hsub], rfl, rfl, ⟨hr, by omega⟩, ty, all, h2, by rw [hsub]; omega, ?_⟩
    rw [h4, List.drop_take, List.drop_drop, hsub]
  | vs k' esz cs =>
    obtain ⟨rfl, rfl, rfl⟩ := h
    refine ⟨.vs (k' - lo.toNat) esz ((cs.drop (lo.toNat * esz)).take ((k' - lo.toNat) * esz)), ?_, by rw [List.length_drop, hl, hsub], rfl, rfl, ?_⟩
    · simp only [slS, boundA, h0, if_true]
      rw [if_pos ⟨trivial, by omega, by omega⟩]
    · rw [List.take_of_length_le (by rw [List.length_drop, hl, hsub]; exact Nat.le_refl _)]
  | s v =>
    cases v with
    | slice a b c =>
      cases a with
      | none =>
        obtain ⟨rfl, rfl, rfl⟩ := h
        have h3 : lo = 0 := by omega
        subst h3
        refine ⟨zN, by simp [slS, boundA], ?_, rfl, rfl, rfl⟩
        simpa using hl
      | some a => exact h.elim
    | _ => exact h.elim
  | _ => exact h.elim
end

end Go.Proofs.YtjmldnpdfnklcaaDoor

namespace Go.Proofs.YtjmldnpdfnklcaaDoor

structure Cfg where
  nodes : Int
  lines : Int
  words : Int
  sets : Int
  ways : Int
  out : Int
  inn : Int
  init : List Int
structure Pkt where
  kind : Int
  src : Int
  dst : Int
  id : Int
  line : Int
  ptr : Int
  state : Int
  flag : Bool
  data : List Int
  deriving DecidableEq
structure Opn where
  kind : Int
  addr : Int
  value : Int
  deriving DecidableEq
structure Evn where
  node : Int
  index : Int
  done : Bool
  value : Int
  deriving DecidableEq
structure Ent where
  fwd : Int
  back : Int
  line : Int
  used : Int
  dirty : Bool
  data : List Int
  deriving DecidableEq
structure Row where
  state : Int
  head : Int
  data : List Int
  deriving DecidableEq
structure Deal where
  kind : Int
  line : Int
  id : Int
  step : Int
  state : Int
  head : Int
  data : List Int
  next : Int
  told : Int
  deriving DecidableEq
structure Pck where
  deliver : Bool
  at_ : Int
  bit : Int
  mask : Int
/-- A slice that nobody writes any more: nil, or rows of m cells. -/
def vsl {α : Type} (m : Nat) (enc : α → List AV) (l : List α) : AV := if l = [] then zN else .vs l.length m (l.flatMap enc)
def encI (n : Int) : List AV := [I n]
def dat (l : List Int) : AV := vsl 1 encI l
def Cfg.av (c : Cfg) : List AV := [I c.nodes, I c.lines, I c.words, I c.sets, I c.ways, I c.out, I c.inn, dat c.init]
def Pkt.av (p : Pkt) : List AV := [I p.kind, I p.src, I p.dst, I p.id, I p.line, I p.ptr, I p.state, B p.flag, dat p.data]
def Opn.av (o : Opn) : List AV := [I o.kind, I o.addr, I o.value]
def Evn.av (e : Evn) : List AV := [I e.node, I e.index, B e.done, I e.value]
def Ent.av (e : Ent) : List AV := [I e.fwd, I e.back, I e.line, I e.used, B e.dirty, dat e.data]
def Row.av (r : Row) : List AV := [I r.state, I r.head, dat r.data]
def Deal.av (d : Deal) : List AV := [I d.kind, I d.line, I d.id, I d.step, I d.state, I d.head, dat d.data, I d.next, I d.told]
def Pck.av (p : Pck) : List AV := [B p.deliver, I p.at_, I p.bit, .s (.int .u16 p.mask)]
def Pkt.zero : Pkt := ⟨0, 0, 0, 0, 0, 0, 0, false, []⟩
def Opn.zero : Opn := ⟨0, 0, 0⟩
def Ent.zero : Ent := ⟨0, 0, 0, 0, false, []⟩
def Row.zero : Row := ⟨0, 0, []⟩
def Deal.zero : Deal := ⟨0, 0, 0, 0, 0, 0, [], 0, 0⟩
theorem flat_len {α : Type} {enc : α → List AV} {m : Nat} (he : ∀ a, (enc a).length = m) (l : List α) : (l.flatMap enc).length = l.length * m := flat_length he l
theorem vsl_is {α : Type} {enc : α → List AV} {m : Nat} (he : ∀ a, (enc a).length = m) (H : AHeap) (l : List α) : SliceIs H (vsl m enc l) m l.length (l.flatMap enc) := by
  unfold vsl
  split
  · rename_i h; subst h; exact SliceIs.nil
  · exact SliceIs.vs (flat_len he l)
theorem vsl_nil {α : Type} {enc : α → List AV} {m : Nat} : vsl m enc ([] : List α) = zN := by simp [vsl]
theorem vsl_cons {α : Type} {enc : α → List AV} {m : Nat} {l : List α} (h : l ≠ []) : vsl m enc l = .vs l.length m (l.flatMap enc) := by simp [vsl, h]
theorem one_vsl {α : Type} {enc : α → List AV} {m : Nat} {l : List α} : One (vsl m enc l) := by
  unfold vsl; split
  · exact one_nil
  · exact one_vs
theorem one_dat {l : List Int} : One (dat l) := one_vsl
theorem encI_len (n : Int) : (encI n).length = 1 := rfl
theorem flat_encI (l : List Int) : l.flatMap encI = l.map I := by
  induction l with
  | nil => rfl
  | cons a l ih => rw [List.flatMap_cons, ih]; rfl
theorem dat_is (H : AHeap) (l : List Int) : SliceIs H (dat l) 1 l.length (l.map I) := by
  have := vsl_is encI_len H l
  rw [flat_encI] at this; exact this
theorem av_len_pkt (p : Pkt) : p.av.length = 9 := rfl
theorem av_len_opn (p : Opn) : p.av.length = 3 := rfl
theorem av_len_evn (p : Evn) : p.av.length = 4 := rfl
theorem av_len_ent (p : Ent) : p.av.length = 6 := rfl
theorem av_len_row (p : Row) : p.av.length = 3 := rfl
theorem av_len_cfg (p : Cfg) : p.av.length = 8 := rfl
theorem av_len_deal (p : Deal) : p.av.length = 9 := rfl
theorem av_len_pck (p : Pck) : p.av.length = 4 := rfl
theorem tk_cfg (p : Cfg) : p.av.take 8 = p.av := rfl
theorem tk_pkt (p : Pkt) : p.av.take 9 = p.av := rfl
theorem tk_opn (p : Opn) : p.av.take 3 = p.av := rfl
theorem tk_evn (p : Evn) : p.av.take 4 = p.av := rfl
theorem tk_ent (p : Ent) : p.av.take 6 = p.av := rfl
theorem tk_row (p : Row) : p.av.take 3 = p.av := rfl
theorem tk_deal (p : Deal) : p.av.take 9 = p.av := rfl
theorem tk_pck (p : Pck) : p.av.take 4 = p.av := rfl
theorem cells_dat {l : List Int} : (dat l).cells = [dat l] := one_dat.1
theorem isCell_dat {l : List Int} : (dat l).isCell = true := one_dat.2
theorem cells_vsl {α : Type} {enc : α → List AV} {m : Nat} {l : List α} : (vsl m enc l).cells = [vsl m enc l] := one_vsl.1
theorem isCell_vsl {α : Type} {enc : α → List AV} {m : Nat} {l : List α} : (vsl m enc l).isCell = true := one_vsl.2
theorem all_cfg (c : Cfg) : c.av.all AV.isCell = true := by simp [Cfg.av, isCell_int, isCell_dat]
theorem all_pkt (p : Pkt) : p.av.all AV.isCell = true := by simp [Pkt.av, isCell_int, isCell_bool, isCell_dat]
theorem all_opn (p : Opn) : p.av.all AV.isCell = true := by simp [Opn.av, isCell_int]
theorem all_evn (p : Evn) : p.av.all AV.isCell = true := by simp [Evn.av, isCell_int, isCell_bool]
theorem all_ent (p : Ent) : p.av.all AV.isCell = true := by simp [Ent.av, isCell_int, isCell_bool, isCell_dat]
theorem all_row (p : Row) : p.av.all AV.isCell = true := by simp [Row.av, isCell_int, isCell_dat]
theorem all_deal (p : Deal) : p.av.all AV.isCell = true := by simp [Deal.av, isCell_int, isCell_dat]
theorem all_pck (p : Pck) : p.av.all AV.isCell = true := by simp [Pck.av, isCell_int, isCell_bool]
theorem freeze_all {H : AHeap} {n d : Nat} : ∀ (l : List AV), (∀ x ∈ l, freezeA H n d x = some x) → l.mapM (freezeA H n d) = some l
  | [], _ => rfl
  | x :: l, h => by
    rw [List.mapM_cons, freeze_all l fun y hy => h y (by simp [hy]), h x (by simp)]
    rfl
theorem freeze_s {H : AHeap} {n d : Nat} {v : Value} : freezeA H n (d + 1) (.s v) = some (.s v) := by rw [freezeA]
theorem freeze_agg {H : AHeap} {n d : Nat} {l : List AV} (h : ∀ x ∈ l, freezeA H n d x = some x) : freezeA H n (d + 1) (.agg l) = some (.agg l) := by
  rw [freezeA]; simp only [freeze_all l h, Option.map_some]
theorem freeze_tup {H : AHeap} {n d : Nat} {l : List AV} (h : ∀ x ∈ l, freezeA H n d x = some x) : freezeA H n (d + 1) (.tup l) = some (.tup l) := by
  rw [freezeA]; simp only [freeze_all l h, Option.map_some]
theorem freeze_sl {H : AHeap} {n d r g off esz len cap : Nat} {ex : Bool} {l : List AV} (hr : n ≤ r) {cells : List AV} (hc : sliceCells H (.sl r g off esz len cap ex) = some cells) (hl : cells.mapM (freezeA H n d) = some l) : freezeA H n (d + 1) (.sl r g off esz len cap ex) = some (.vs len esz l) := by
  rw [freezeA]
  simp only [if_neg (Nat.not_lt.2 hr), hc, hl, Option.map_some]
/-- A value of numbers, texts and frozen rows. -/
def Frz (d : Nat) (x : AV) : Prop := ∀ H n, freezeA H n d x = some x
theorem frz_s {v : Value} {d : Nat} : Frz (d + 1) (.s v) := fun _ _ => freeze_s
theorem frz_agg {d : Nat} {l : List AV} (h : ∀ x ∈ l, Frz d x) : Frz (d + 1) (.agg l) := fun H n => freeze_agg fun x hx => h x hx H n
theorem frz_tup {d : Nat} {l : List AV} (h : ∀ x ∈ l, Frz d x) : Frz (d + 1) (.tup l) := fun H n => freeze_tup fun x hx => h x hx H n

end Go.Proofs.YtjmldnpdfnklcaaDoor

namespace Go.Proofs.YtjmldnpdfnklcaaDoor

def aget {α : Type} : List (Int × α) → Int → Option α
  | [], _ => none
  | (k, v) :: l, n => if k = n then some v else aget l n
def aput {α : Type} : List (Int × α) → Int → α → List (Int × α)
  | [], n, x => [(n, x)]
  | (k, v) :: l, n, x => if k = n then (n, x) :: l else (k, v) :: aput l n x
section
variable {α : Type} (f : α → AV)
def encM (l : List (Int × α)) : List (Int × AV) := l.map fun e => (e.1, f e.2)
end
abbrev within (n most : Int) : Bool := decide (1 ≤ n) && decide (n ≤ most)
def Cfg.ok (c : Cfg) : Bool :=
  within c.nodes 6 && within c.lines 8 && within c.words 4 && within c.sets 4 && within c.ways 3 && within c.out 8 && within c.inn 8 && decide ((c.init.length : Int) ≤ c.lines * c.words)
def restOf (line by_ : Int) : Int := if line < 0 then -1 else line % by_
def Cfg.homeOf (c : Cfg) (line : Int) : Int := restOf line c.nodes
def Cfg.addrs (c : Cfg) : Int := c.lines * c.words
def Cfg.first (c : Cfg) (line : Int) : List Int :=
  if line < 0 ∨ c.lines ≤ line then [] else (List.range c.words.toNat).map fun i => c.init.getD ((line * c.words).toNat + i) 0
def Pkt.ok (p : Pkt) : Bool :=
  decide (0 ≤ p.src) && decide (p.src < 6) && decide (0 ≤ p.dst) && decide (p.dst < 6) && decide (0 ≤ p.id) && decide (p.id < 4096) && decide (1 ≤ p.kind) && decide (p.kind < 10) && decide (0 ≤ p.line) && decide (p.line < 8) &&
  decide (-1 ≤ p.ptr) && decide (p.ptr < 6) && decide (0 ≤ p.state) && decide (p.state < 3) && decide (p.data.length ≤ 4)
structure Cache where
  l : List Ent
  sets : Int
  ways : Int
  clock : Int
def Cache.at_ (c : Cache) (line : Int) : Option Nat := c.l.findIdx? fun e => decide (e.line = line)
def Cache.set_ (c : Cache) (line : Int) : List Ent := c.l.filter fun e => decide (0 ≤ line) && decide (e.line.tmod c.sets = line.tmod c.sets)
def Cache.find (c : Cache) (line : Int) : Option Ent := c.l.find? fun e => decide (e.line = line)
def Cache.full (c : Cache) (line : Int) : Bool := (c.find line).isNone && decide (c.ways ≤ (c.set_ line).length)
def Cache.put (c : Cache) (e : Ent) : Cache × Int :=
  if e.line < 0 then (c, 1) else
  match c.at_ e.line with
  | some i => ({ c with l := c.l.set i { e with used := (c.l.getD i .zero).used } }, 0)
  | none => if c.full e.line then (c, 5) else ({ c with l := c.l ++ [{ e with used := c.clock + 1 }], clock := c.clock + 1 }, 0)
def Cache.drop (c : Cache) (line : Int) : Cache :=
  match c.at_ line with
  | some i => { c with l := c.l.eraseIdx i }
  | none => c
structure Turns where
  owners : List (Int × Int)
  wait : List (Int × List (Int × Int))
def Turns.owner (t : Turns) (line : Int) : Int := (aget t.owners line).getD (-1)
def Turns.owned (t : Turns) (line : Int) : Bool := (aget t.owners line).isSome
def Turns.ws (t : Turns) (line : Int) : List (Int × Int) := (aget t.wait line).getD []
def Turns.next (t : Turns) (line : Int) : Turns × Option (Int × Int) :=
  if t.owned line then (t, none) else
  match t.ws line with
  | [] => (t, none)
  | w :: ws => ({ owners := aput t.owners line w.1, wait := aput t.wait line ws }, some w)
abbrev Rows := List (Int × Row)
structure Home where
  rows : Rows
  turns : Turns

end Go.Proofs.YtjmldnpdfnklcaaDoor

namespace Go.Proofs.YtjmldnpdfnklcaaDoor

structure Proc where
  ops : List Opn
  values : List Int
  begun : Bool
structure Port where
  rq : List Pkt
  rin : List Pkt
  an : List Pkt
  ain : List Pkt
def Port.inOf (p : Port) (req : Bool) : List Pkt := if req then p.rin else p.ain
def Port.setIn (p : Port) (req : Bool) (l : List Pkt) : Port := if req then { p with rin := l } else { p with ain := l }
def Port.zero : Port := ⟨[], [], [], []⟩
structure Fab where
  out : Int
  inn : Int
  l : List Port
def Fab.is (f : Fab) (node : Int) : Bool := decide (0 ≤ node) && decide (node < f.l.length)
def Fab.port (f : Fab) (node : Int) : Port := f.l.getD node.toNat .zero
def Fab.room (f : Fab) (req : Bool) : Int := if req then f.inn else 1
def Fab.put (f : Fab) (node : Int) (p : Port) : Fab := { f with l := f.l.set node.toNat p }
def Fab.all (f : Fab) : List Pkt := f.l.flatMap fun p => p.rq ++ p.an
def Fab.under (f : Fab) : Nat := f.all.length
def Fab.take (f : Fab) (node : Int) (req : Bool) : Fab × Option Pkt :=
  if f.is node then
    match (f.port node).inOf req with
    | [] => (f, none)
    | p :: l => (f.put node ((f.port node).setIn req l), some p)
  else (f, none)

end Go.Proofs.YtjmldnpdfnklcaaDoor

namespace Go.Proofs.YtjmldnpdfnklcaaDoor

open Go.ChangeShapes Go.WideShapes Go.ChangeAt Go.RowKit
abbrev ρ0 : Ren := fun _ => none
abbrev G0 : Nat → Nat := fun _ => 0
theorem rel_empty {w : World} (hg : GlOk ρ0 w) : Rel ρ0 AHeap.empty w := ⟨fun r _ => ⟨rfl, rfl⟩, fun r b sh h => (by cases h), fun r r' b sh sh' h => (by cases h), hg⟩
/-- What the run of a law says of its calls. -/
theorem law_calls {P : Program} {L : Pol} (hL : PolOk P L) (hm : P.follows .mixedOrders = true) {k : FuncId} {xs : List AV} {b : Bool} {H' : AHeap} (h : callω P L k xs AHeap.empty = some (.s (.bool b), H')) {W : World} {args : Array Value} (hg : GlOk ρ0 W) (ha : RVs ρ0 G0 W xs args.toList) :
    Calls P k args W fun e W' => e = .returned (.bool b) ∧ Below W.heap.size W W' := by
  refine ((callω_ok hL hm).1 k xs _ _ H' h ρ0 W args (rel_empty hg) ha).mono fun e w' he => ?_
  obtain ⟨cv, ρ', rfl, _, r2, r3⟩ := he
  simp only [RV] at r2
  subst r2
  exact ⟨rfl, r3.os, r3.tape, r3.output, r3.size, fun k hk => r3.frame k hk fun r sh h => (by cases h)⟩
section
variable {H : Type} {enc : TypeId × Value → H} {P : Program}
theorem trodAll_below (hl : laidOutB P = true) {W W' : World} (hb : Below W.heap.size W W') : ∀ {ts : List TypeId} {vs : List Value} {ds : List (DataW H)} {ps : List MemPlace}, ts.all (fun t => P.readableRec t && decide (t < P.types.size)) = true →
    DataW.TrodAll enc P W 0 (fun _ => true) true ts vs ds ps → (∀ x ∈ ps, x.block < W.heap.size) → DataW.TrodAll enc P W' 0 (fun b => decide (b < W.heap.size)) true ts vs ds ps
  | [], vs, ds, ps, _, h, _ => by
    obtain ⟨rfl, rfl, rfl⟩ := trodAll_nil h
    exact trodAll_mk0
  | t :: ts, vs, ds, ps, ht, h, hlt => by
    simp only [List.all_cons, Bool.and_eq_true, decide_eq_true_eq] at ht
    obtain ⟨v, vs', d, ds', p, q, rfl, rfl, rfl, h1, h2⟩ := trodAll_cons h
    exact ⟨p, q, Below.trod hl ht.1.1 ht.1.2 h1 hb fun x hx => hlt x (by simp [hx]), trodAll_below hl hb (by simpa using ht.2) h2 fun x hx => hlt x (by simp [hx]), rfl⟩
/-- The row's postcondition, of a law that answered 'true'. -/
theorem post_true {f : Func} {s : ChangeSpec} {W W' : World} {args : Array Value} {ds gs : List (DataW H)} {before : List MemPlace} {tb : TypeId} (hl : laidOutB P = true)
    (hp : f.params.toList.all (fun t => P.readableRec t && decide (t < P.types.size)) = true) (hr : f.resultTypes = #[tb]) (hb : P.underlying tb = some .bool)
    (hW : DataW.Whole enc P f.params.toList s.vars false W args.toList ds gs before) (hv : s.vars = [])
    (h1 : (s.fn H ds).results = [.lit (.bool true)]) (h2 : (s.fn H ds).args = ds) (h3 : (s.fn H ds).vars = []) (B : Below W.heap.size W W') :
    s.post enc P f false true false false W args (.bool true) W' := by
  have hlt : ∀ x ∈ before, x.block < W.heap.size := fun x hx => hW.lt x hx
  have hW' := hW
  obtain ⟨p, q, hA, hV, rfl, _, _⟩ := hW
  rw [hv] at hV
  obtain ⟨rfl, rfl⟩ := trodVars_none hV
  rw [List.append_nil] at hlt
  refine ⟨ds, [], p ++ [], [], p, [], hW', ?_, ?_, ?_, B.frame _, fun h => by cases h⟩
  · rw [List.append_nil, h1, hr]
    exact trodAll_mk1 (shut_bool hb true)
  · rw [List.append_nil, h2]
    exact trodAll_below hl B hp hA hlt
  · rw [List.append_nil, h3, hv]
    exact rfl
theorem RV_int {W : World} {k : IntKind} {n : Int} : RV ρ0 G0 W (.s (.int k n)) (.int k n) := by simp [RV]
theorem RV_bool {W : World} {b : Bool} : RV ρ0 G0 W (.s (.bool b)) (.bool b) := by simp [RV]
theorem rcons {W : World} {x : AV} {v : Value} {xs : List AV} {vs : List Value} (h : RV ρ0 G0 W x v) (h' : RVs ρ0 G0 W xs vs) : RVs ρ0 G0 W (x :: xs) (v :: vs) := by
  simp only [RVs]; exact ⟨v, vs, rfl, h, h'⟩
theorem rnil {W : World} : RVs ρ0 G0 W [] [] := by simp only [RVs]
/-- Numbers of kinds. -/
def ints (ks : List IntKind) (zs : List Int) : List AV := List.zipWith (fun k z => .s (.int k z)) ks zs
def intsV (ks : List IntKind) (zs : List Int) : List Value := List.zipWith (fun k z => .int k z) ks zs
/-- A type whose values are rows of numbers. -/
def FlatT (P : Program) (e : TypeId) (ks : List IntKind) : Prop :=
  ∀ {H : Type} {enc : TypeId × Value → H} {W : World} {base : Nat} {sp : Nat → Bool} {held : Bool} {n : Nat} {cs : List Value} {y : DataW H × List MemPlace}, DataW.trod enc P W base sp held n e cs = some y →
    ∃ zs : List Int, zs.length = ks.length ∧ cs = intsV ks zs ∧ ∀ (i : Nat) (k : IntKind) (z : Int), ks[i]? = some k → zs[i]? = some z → (Lit.int k z).wf = true
theorem flat_int {e : TypeId} {k : IntKind} (he : P.underlying e = some (.int k)) : FlatT P e [k] := by
  intro H enc W base sp held n cs y h
  obtain ⟨z, rfl, rfl, hw⟩ := DataW.trod_int he h
  refine ⟨[z], rfl, rfl, fun i k' z' h1 h2 => ?_⟩
  cases i with
  | zero => simp at h1 h2; subst h1; subst h2; exact hw
  | succ i => simp at h1
theorem ints_length {ks : List IntKind} {zs : List Int} (h : zs.length = ks.length) : (ints ks zs).length = ks.length := by
  simp [ints, h]
theorem RVs_ints {W : World} : ∀ (ks : List IntKind) (zs : List Int), RVs ρ0 G0 W (ints ks zs) (intsV ks zs)
  | [], zs => by simp [ints, intsV, RVs]
  | k :: ks, [] => by simp [ints, intsV, RVs]
  | k :: ks, z :: zs => by
    simp only [ints, intsV, List.zipWith_cons_cons, RVs]
    exact ⟨_, _, rfl, RV_int, RVs_ints ks zs⟩
/-- The number in a cell. -/
def numV : Value → Int
  | .int _ n => n
  | _ => 0
theorem flat_struct {e : TypeId} {fs : Array Field} {ks : List IntKind} (he : P.underlying e = some (.struct fs)) (hc : P.cellsOf e = ks.length) (hn : fs.size = ks.length)
    (hf : ∀ (i : Nat) (f : Field) (k : IntKind), fs[i]? = some f → ks[i]? = some k → P.underlying f.type = some (.int k) ∧ f.offset = i ∧ P.cellsOf f.type = 1) : FlatT P e ks := by
  intro H enc W base sp held n cs y h
  obtain ⟨xs, m, rfl, rfl, hl, hx, hr⟩ := DataW.trod_struct he h
  have each : ∀ (i : Nat) (k : IntKind), ks[i]? = some k → ∃ z, cs[i]? = some (.int k z) ∧ (Lit.int k z).wf = true := by
    intro i k hk
    have hi : i < ks.length := (List.getElem?_eq_some_iff.1 hk).1
    have hfi : fs[i]? = some (fs[i]'(by omega)) := Array.getElem?_eq_getElem _
    obtain ⟨h1, h2, h3⟩ := hf i _ k hfi hk
    have hri := hr i _ hfi
    have hxi : xs[i]? = some (xs[i]'(by omega)) := List.getElem?_eq_getElem _
    rw [hxi, h2, h3] at hri
    obtain ⟨z, hz, _, hw⟩ := DataW.trod_int h1 hri
    refine ⟨z, ?_, hw⟩
    have : ((cs.drop i).take 1)[0]? = some (.int k z) := by rw [hz]; rfl
    rw [List.getElem?_take, if_pos (by omega), List.getElem?_drop, Nat.add_zero] at this
    exact this
  refine ⟨cs.map numV, by rw [List.length_map, hl, hc], ?_, fun i k z hk hz => ?_⟩
  · apply List.ext_getElem?
    intro i
    rcases Nat.lt_or_ge i ks.length with hi | hi
    · obtain ⟨z, hz, _⟩ := each i _ (List.getElem?_eq_getElem hi)
      simp [intsV, List.getElem?_zipWith, hz, List.getElem?_eq_getElem hi, numV]
    · have h1 : cs[i]? = none := List.getElem?_eq_none (by omega)
      have h2 : ks[i]? = none := List.getElem?_eq_none hi
      simp [intsV, List.getElem?_zipWith, h1, h2]
  · obtain ⟨z', hz', hw⟩ := each i k hk
    rw [List.getElem?_map, hz'] at hz
    simp [numV] at hz
    rw [← hz]; exact hw
/-- A slice of rows of numbers. -/
structure RowsOf (ks : List IntKind) (av : AV) (l : List (List Int)) : Prop where
  is : SliceIs AHeap.empty av ks.length l.length (l.flatMap (ints ks))
  len : ∀ zs ∈ l, zs.length = ks.length
  wf : ∀ zs ∈ l, ∀ (i : Nat) (k : IntKind) (z : Int), ks[i]? = some k → zs[i]? = some z → (Lit.int k z).wf = true
theorem rows_length {ks : List IntKind} : ∀ {l : List (List Int)}, (∀ zs ∈ l, zs.length = ks.length) → (l.flatMap (ints ks)).length = l.length * ks.length
  | [], _ => by simp
  | zs :: l, h => by
    rw [List.flatMap_cons, List.length_append, ints_length (h zs (by simp)), rows_length fun z hz => h z (by simp [hz]), List.length_cons, Nat.succ_mul]; omega
theorem open_rows {t e : TypeId} {ks : List IntKind} (ht : P.underlying t = some (.slice e)) (hc : P.cellsOf e = ks.length) (hF : FlatT P e ks) {W : World} {r : Reach} {b0 base : Nat} {sp : Nat → Bool} {held : Bool} {v : Value} {fuel : Nat} {y : DataW H × List MemPlace}
    (hval : Cell.okWide P W r b0 t v) (h : DataW.trod enc P W base sp held fuel t [v] = some y) : ∃ (av : AV) (l : List (List Int)), RV ρ0 G0 W av v ∧ RowsOf ks av l ∧ av.isCell = true := by
  rcases DataW.trod_slice ht h with ⟨h0, _⟩ | ⟨a, len, cap, elems, rest, n, _, hv, _, hb, hl, hm, hlen, hel, _, _⟩
  · have h0 : v = .slice none 0 0 := by simpa using h0
    subst h0
    exact ⟨.s (.slice none 0 0), [], by simp [RV], ⟨⟨by simp, rfl, rfl, rfl⟩, by simp, by simp⟩, rfl⟩
  · have hv : v = .slice (some a) len cap := by simpa using hv
    subst hv
    simp only [Cell.okWide, ht, Cell.ok] at hval
    obtain ⟨_, _, _, hspot, row, cells, hsh, _⟩ := hval
    obtain ⟨b, o, spot⟩ := a
    simp only at hspot
    subst hspot
    have hrow : ∀ i, ∃ zs : List Int, i < len → zs.length = ks.length ∧ (∀ (j : Nat) (k : IntKind) (z : Int), ks[j]? = some k → zs[j]? = some z → (Lit.int k z).wf = true) ∧ RVc ρ0 G0 W (ints ks zs) b (o + i * ks.length) := by
      intro i
      by_cases hi : i < len
      · have := hel i hi
        rw [List.getElem?_eq_getElem (by omega)] at this
        obtain ⟨cs, hcs, htr⟩ := Option.bind_eq_some_iff.1 this
        obtain ⟨zs, z1, z2, z3⟩ := hF htr
        refine ⟨zs, fun _ => ⟨z1, z3, RVc_of_get fun j x hx => ?_⟩⟩
        obtain ⟨_, c1, c2⟩ := World.cells?_some hcs
        have hj : j < ks.length := by
          have := (List.getElem?_eq_some_iff.1 hx).1
          rwa [ints_length z1] at this
        have hc2 := c2 j (by rw [hc]; exact hj)
        obtain ⟨u, hu, hrv⟩ := RVs_get (RVs_ints (W := W) ks zs) hx
        refine ⟨u, ?_, hrv⟩
        rw [z2, hu] at hc2
        rw [← hc2, hc]
        congr 1
        unfold Addr.add
        by_cases h1 : i * ks.length = 0
        · rw [if_pos h1, h1]
          by_cases h2 : j = 0
          · rw [if_pos h2, h2]; rfl
          · rw [if_neg h2]; rfl
        · rw [if_neg h1]
          by_cases h2 : j = 0
          · rw [if_pos h2, h2]; rfl
          · rw [if_neg h2]
      · exact ⟨[], fun h => absurd h hi⟩
    obtain ⟨f, hf⟩ := Classical.axiomOfChoice hrow
    have hl1 : ∀ zs ∈ (List.range len).map f, zs.length = ks.length := by
      intro zs hz
      obtain ⟨i, hi, rfl⟩ := List.mem_map.1 hz
      exact (hf i (List.mem_range.1 hi)).1
    have hcells : ∀ m s, s + m ≤ len → RVc ρ0 G0 W (((List.range' s m).map f).flatMap (ints ks)) b (o + s * ks.length) := by
      intro m
      induction m with
      | zero => intro s _; simp [RVc]
      | succ m ih =>
        intro s hs
        rw [List.range'_succ, List.map_cons, List.flatMap_cons]
        refine RVc_append (hf s (by omega)).2.2 ?_
        rw [ints_length (hf s (by omega)).1]
        have := ih (s + 1) (by omega)
        rwa [Nat.succ_mul, ← Nat.add_assoc] at this
    refine ⟨.vs len ks.length (((List.range len).map f).flatMap (ints ks)), (List.range len).map f, ?_, ⟨?_, hl1, fun zs hz => ?_⟩, rfl⟩
    · simp only [RV]
      refine ⟨b, o, cap, rfl, hl, ?_, shape?_lt hsh, fun r sh h => (by cases h), ?_⟩
      · rw [rows_length hl1]; simp
      · have := hcells len 0 (by omega)
        rw [List.range_eq_range']
        simpa using this
    · have := SliceIs.vs (H := AHeap.empty) (m := ks.length) (n := len) (cs := ((List.range len).map f).flatMap (ints ks)) (by rw [rows_length hl1]; simp)
      simpa using this
    · obtain ⟨i, hi, rfl⟩ := List.mem_map.1 hz
      exact (hf i (List.mem_range.1 hi)).2.1
/-- A slice of numbers, at first. -/
structure IntsOf (k : IntKind) (av : AV) (zs : List Int) : Prop where
  is : SliceIs AHeap.empty av 1 zs.length (zs.map fun z => .s (.int k z))
  wf : ∀ z ∈ zs, (Lit.int k z).wf = true
  cell : av.isCell = true
theorem rows_ints {k : IntKind} : ∀ (l : List (List Int)), (∀ zs ∈ l, zs.length = 1) → l.flatMap (ints [k]) = (l.map (fun zs => zs.headD 0)).map fun z => .s (.int k z)
  | [], _ => rfl
  | zs :: l, h => by
    have h1 := h zs (by simp)
    rw [List.flatMap_cons, rows_ints l fun z hz => h z (by simp [hz])]
    cases zs with
    | nil => simp at h1
    | cons z zs =>
      cases zs with
      | nil => rfl
      | cons _ _ => simp at h1
theorem RowsOf.ints {k : IntKind} {av : AV} {l : List (List Int)} (h : RowsOf [k] av l) (hc : av.isCell = true) : IntsOf k av (l.map fun zs => zs.headD 0) := by
  refine ⟨?_, fun z hz => ?_, hc⟩
  · have := h.is
    rw [rows_ints l h.len] at this
    simpa using this
  · obtain ⟨zs, hzs, rfl⟩ := List.mem_map.1 hz
    have h1 := h.len zs hzs
    cases zs with
    | nil => simp at h1
    | cons z zs => exact h.wf _ hzs 0 k z rfl rfl
/-- A machine by small numbers, as the laws have it. -/
structure SetupA where
  nodes : Int
  lines : Int
  words : Int
  sets : Int
  ways : Int
  out : Int
  inn : Int
  init : AV
  who : AV
  kinds : AV
  addrs : AV
  values : AV
def SetupA.cells (s : SetupA) : List AV :=
  [.s (.int .i64 s.nodes), .s (.int .i64 s.lines), .s (.int .i64 s.words), .s (.int .i64 s.sets), .s (.int .i64 s.ways), .s (.int .i64 s.out), .s (.int .i64 s.inn), s.init, s.who, s.kinds, s.addrs, s.values]
abbrev In64 (z : Int) : Prop := -9223372036854775808 ≤ z ∧ z ≤ 9223372036854775807
theorem in64 {z : Int} (h : (Lit.int .i64 z).wf = true) : In64 z := by
  simp [Lit.wf, IntKind.min, IntKind.max, IntKind.signed, IntKind.bits] at h
  exact ⟨by omega, by omega⟩
/-- A slice of whole numbers among the arguments. -/
theorem open_slice {t e : TypeId} (ht : P.underlying t = some (.slice e)) (hee : P.underlying e = some (.int .i64)) (hce : P.cellsOf e = 1) {W : World} {r : Reach} {b0 base : Nat} {sp : Nat → Bool} {held : Bool} {v : Value} {d : DataW H} {ps : List MemPlace}
    (hval : Value.okWide P W r b0 t v) (h : DataW.Trod enc P W base sp held t v d ps) : ∃ (x : AV) (zs : List Int), RV ρ0 G0 W x v ∧ IntsOf .i64 x zs := by
  unfold Value.okWide at hval
  rw [ht] at hval
  obtain ⟨fuel, hf⟩ := h
  have hv : v.cells.toList = [v] := by
    cases v <;> first | rfl | (simp [Cell.okWide, ht, Cell.ok] at hval)
  rw [hv] at hf
  obtain ⟨av, l, r1, r2, r3⟩ := open_rows ht (ks := [.i64]) hce (flat_int hee) hval hf
  exact ⟨av, _, r1, r2.ints r3⟩
end

end Go.Proofs.YtjmldnpdfnklcaaDoor

namespace Go.Proofs.YtjmldnpdfnklcaaDoor

open Go.RowKit
variable {P : Program} {ρ : Ren} {H : AHeap} {w w' : World}
/-- An answer of the table is the program's. -/
theorem sound_prim {f : FuncId} {p : List AV → AHeap → Option (AV × AHeap)}
    (h : ∀ args H v H', p args H = some (v, H') → ∀ (ρ : Ren) (w : World) (cargs : Array Value), Rel ρ H w → RVs ρ H.gen w args cargs.toList →
      Calls P f cargs w fun e w' => ∃ cv ρ', e = .returned cv ∧ Rel ρ' H' w' ∧ RV ρ' H'.gen w' v cv ∧ Ext ρ H w ρ' H' w') : Sound P (fun g args H => if g = f then p args H else none) := by
  intro g args H v H' he ρ w cargs R ha
  simp only at he
  split at he
  · rename_i e
    subst e
    exact h args H v H' he ρ w cargs R ha
  · cases he
theorem below_ext (R : Rel ρ H w) (B : Below w.heap.size w w') : Rel ρ H w' ∧ Ext ρ H w ρ H w' := by
  have E : Ext ρ H w ρ H w' := ⟨Nat.le_refl _, fun _ => Nat.le_refl _, fun _ _ h _ => h, fun _ _ h => h, fun _ _ sh h => .inr ⟨sh, h⟩, B.size, fun b hb _ => B.block b hb, fun b hb => by rw [shape?_eq, shape?_eq, B.block b hb], B.os, B.tape, B.output⟩
  exact ⟨⟨R.out, fun r b sh h => RObj.mono E.toMono (B.block b (R.block h)) (R.obj r b sh h), R.inj, R.gl.ext E⟩, E⟩
/-- What one argument is. -/
theorem rvs_one {G : Nat → Nat} {x : AV} {cargs : Array Value} (h : RVs ρ G w [x] cargs.toList) : ∃ c, cargs = #[c] ∧ RV ρ G w x c := by
  obtain ⟨cx, l, e, h1, h2⟩ := (by simpa only [RVs] using h)
  subst h2
  exact ⟨cx, Array.toList_inj.1 (by simpa using e), h1⟩
theorem rvs_two {G : Nat → Nat} {x y : AV} {cargs : Array Value} (h : RVs ρ G w [x, y] cargs.toList) : ∃ c d, cargs = #[c, d] ∧ RV ρ G w x c ∧ RV ρ G w y d := by
  obtain ⟨cx, l, e, h1, h2⟩ := (by simpa only [RVs] using h)
  obtain ⟨cy, l', e', h3, h4⟩ := (by simpa only [RVs] using h2)
  subst e' h4
  exact ⟨cx, cy, Array.toList_inj.1 (by simpa using e), h1, h3⟩

end Go.Proofs.YtjmldnpdfnklcaaDoor

namespace Go.Proofs.YtjmldnpdfnklcaaDoor

abbrev Str := List UInt8
/-- A text. -/
def T (l : Str) : AV := .s (.string ⟨l.toArray⟩)
abbrev U8 (b : UInt8) : AV := .s (.int .u8 b.toNat)
theorem T_str (a : Array UInt8) : AV.s (.string ⟨a⟩) = T a.toList := rfl
theorem isCell_T {l : Str} : (T l).isCell = true := rfl
theorem cells_T {l : Str} : (T l).cells = [T l] := rfl
theorem zS_T : (AV.s (.string ByteArray.empty)) = T [] := rfl
theorem size_T (l : Str) : (⟨l.toArray⟩ : ByteArray).size = l.length := by simp [ByteArray.size]
theorem lnT_T {l : Str} {H : AHeap} : lnT (T l) H = some (I l.length, H) := by
  simp only [lnT, lookB, lnTO, T, Option.map_some, size_T]
theorem get_T (l : Str) (i : Nat) : (⟨l.toArray⟩ : ByteArray)[i]? = l[i]? := by
  show (if h : i < (⟨l.toArray⟩ : ByteArray).size then some ((⟨l.toArray⟩ : ByteArray)[i]) else none) = l[i]?
  split
  · rename_i h
    rw [size_T] at h
    rw [List.getElem?_eq_getElem h]
    rfl
  · rename_i h
    rw [size_T] at h
    rw [List.getElem?_eq_none (by omega)]
theorem ixT_T {l : Str} {k : IntKind} {i : Int} (h : 0 ≤ i) : ixT (T l) (.s (.int k i)) = (l[i.toNat]?).map U8 := by
  simp only [ixT, T, h, if_true, get_T]
  cases l[i.toNat]? <;> rfl
theorem ixT_nat {l : Str} {k : IntKind} {i : Nat} : ixT (T l) (.s (.int k i)) = (l[i]?).map U8 := by
  rw [ixT_T (by omega), Int.toNat_natCast]
theorem extract_T (l : Str) (a b : Nat) : (⟨l.toArray⟩ : ByteArray).extract a b = ⟨((l.drop a).take (b - a)).toArray⟩ := by
  have h := Lib.extract_data ⟨l.toArray⟩ a b
  apply ByteArray.ext
  apply Array.toList_inj.1
  rw [h]
theorem slT_T {l : Str} {lo hi : Option AV} {a b : Nat} (h1 : boundA lo 0 = some a) (h2 : boundA hi l.length = some b) (ha : a ≤ b) (hb : b ≤ l.length) : slT (T l) lo hi = some (T ((l.drop a).take (b - a))) := by
  simp only [slT, T, h1, size_T, h2, ha, hb, and_self, if_true, extract_T]
theorem add_T {P : Program} {t : TypeId} {a b : Str} (h : a.length + b.length ≤ 1000000) : binA P .add t (T a) (T b) = some (T (a ++ b)) := by
  have hm : IntKind.i64.max = 9223372036854775807 := by decide
  have h2 : ¬ ((((⟨a.toArray⟩ : ByteArray).size + (⟨b.toArray⟩ : ByteArray).size : Nat) : Int) > IntKind.i64.max) := by
    rw [size_T, size_T, hm]; omega
  have e : (⟨a.toArray⟩ : ByteArray) ++ ⟨b.toArray⟩ = ⟨(a ++ b).toArray⟩ := by
    apply ByteArray.ext
    apply Array.toList_inj.1
    simp
  have : (Op.stringOp .add ⟨a.toArray⟩ ⟨b.toArray⟩ : Sem Value) = Pure.pure (Value.string ⟨(a ++ b).toArray⟩) := by
    unfold Op.stringOp
    simp only [if_neg h2, e]
  show (pureRun P (Op.stringOp .add ⟨a.toArray⟩ ⟨b.toArray⟩)).map AV.s = _
  rw [this]; rfl
theorem eqb_T {a b : Str} : ((⟨a.toArray⟩ : ByteArray).toList == (⟨b.toArray⟩ : ByteArray).toList) = decide (a = b) := by
  rw [Lib.toList_data, Lib.toList_data]
  by_cases h : a = b <;> simp [h]
theorem eql_T {P : Program} {t : TypeId} {a b : Str} : binA P .eql t (T a) (T b) = some (B (decide (a = b))) := by
  show (pureRun P (Op.stringOp .eql ⟨a.toArray⟩ ⟨b.toArray⟩)).map AV.s = _
  unfold Op.stringOp
  simp only [eqb_T]; rfl
theorem neq_T {P : Program} {t : TypeId} {a b : Str} : binA P .neq t (T a) (T b) = some (B (!decide (a = b))) := by
  show (pureRun P (Op.stringOp .neq ⟨a.toArray⟩ ⟨b.toArray⟩)).map AV.s = _
  unfold Op.stringOp
  simp only [eqb_T]; rfl

end Go.Proofs.YtjmldnpdfnklcaaDoor

namespace Go.Proofs.YtjmldnpdfnklcaaDoor

/-- A text cut at a byte. -/
def splitC (c : UInt8) : Str → List Str
  | [] => [[]]
  | b :: l => if b = c then [] :: splitC c l else match splitC c l with
    | [] => [[b]]
    | w :: ws => (b :: w) :: ws
def wordsTx (l : Str) : List Str := (splitC 32 l).filter fun w => decide (w ≠ [])
def isDig (b : UInt8) : Bool := decide (48 ≤ b.toNat) && decide (b.toNat ≤ 57)
def numMagTx (d : Str) : Int := d.foldl (fun n b => 10 * n + ((b.toNat : Int) - 48)) 0
def magTx (s : Str) : Str := if s.head? = some 45 then s.tail else s
/-- The number that a word is. -/
def numTx (s : Str) : Option Int :=
  if magTx s = [] ∨ 9 < (magTx s).length ∨ (magTx s).all isDig = false ∨ ((magTx s).head? = some 48 ∧ s ≠ [48]) then none
  else some (if s.head? = some 45 then -numMagTx (magTx s) else numMagTx (magTx s))
def stepW : Str := [115, 116, 101, 112]
def giveW : Str := [103, 105, 118, 101]
def spoilW : Str := [115, 112, 111, 105, 108]
/-- The pick that words are. -/
def pickTx : List Str → Option Pck
  | [k, a] => if k = stepW ∨ k = giveW then (match numTx a with
    | some n => if 0 ≤ n then some ⟨decide (k = giveW), n, 0, 0⟩ else none
    | none => none) else none
  | [k, a, b, m] => if k = spoilW then (match numTx a, numTx b, numTx m with
    | some n, some x, some y => if 0 ≤ n ∧ 0 ≤ x ∧ 1 ≤ y ∧ y ≤ 65535 then some ⟨true, n, x, y⟩ else none
    | _, _, _ => none) else none
  | _ => none
/-- Lines, one behind the other; 'none' where one is none. -/
def parseL {α : Type} (f : List Str → Option α) : List Str → Option (List α)
  | [] => some []
  | l :: ls => if wordsTx l = [] then parseL f ls else match f (wordsTx l) with
    | none => none
    | some o => (parseL f ls).map (o :: ·)
def parseTx {α : Type} (f : List Str → Option α) (l : Str) : Option (List α) := parseL f (splitC 10 l)
theorem splitC_ne (c : UInt8) : ∀ l, splitC c l ≠ []
  | [] => by simp [splitC]
  | b :: l => by
    simp only [splitC]
    split
    · simp
    · split <;> simp
theorem splitC_append (c : UInt8) : ∀ a b : Str, splitC c (a ++ c :: b) = splitC c a ++ splitC c b
  | [], b => by simp [splitC]
  | x :: a, b => by
    simp only [List.cons_append, splitC]
    split
    · rw [splitC_append c a b]; rfl
    · rw [splitC_append c a b]
      cases h : splitC c a with
      | nil => exact absurd h (splitC_ne c a)
      | cons w ws => rfl
theorem splitC_no {c : UInt8} : ∀ {l : Str}, (∀ b ∈ l, b ≠ c) → splitC c l = [l]
  | [], _ => rfl
  | b :: l, h => by
    simp only [splitC]
    rw [if_neg (h b (by simp)), splitC_no fun x hx => h x (by simp [hx])]
/-- No piece is longer than the whole. -/
theorem splitC_len (c : UInt8) : ∀ (l : Str), ∀ w ∈ splitC c l, w.length ≤ l.length
  | [], w, hw => by simp [splitC] at hw; subst hw; simp
  | b :: l, w, hw => by
    simp only [splitC] at hw
    have ih := splitC_len c l
    split at hw
    · rcases List.mem_cons.1 hw with rfl | hw
      · simp
      · have := ih w hw; simp; omega
    · split at hw
      · simp only [List.mem_singleton] at hw; subst hw; simp
      · rename_i w0 ws h
        rcases List.mem_cons.1 hw with rfl | hw
        · have := ih w0 (by rw [h]; simp); simp; omega
        · have := ih w (by rw [h]; simp [hw]); simp; omega
theorem splitC_count (c : UInt8) : ∀ (l : Str), (splitC c l).length ≤ l.length + 1
  | [] => by simp [splitC]
  | b :: l => by
    simp only [splitC]
    have ih := splitC_count c l
    split
    · simp; omega
    · split
      · simp
      · rename_i w0 ws h; rw [h] at ih; simp at ih ⊢; omega
def splitP (ty : TypeId) (args : List AV) (H : AHeap) : Option (AV × AHeap) :=
  match args with
  | [.s (.string s), .s (.string sep)] => match sep.data.toList with
    | [c] => if s.size < 4294967281 then some (.sl H.next 0 0 1 (splitC c s.data.toList).length (splitC c s.data.toList).length true, H.new (.blk 0 ty ((splitC c s.data.toList).map T))) else none
    | _ => none
  | _ => none
def trimP (args : List AV) (H : AHeap) : Option (AV × AHeap) :=
  match args with
  | [.s (.string s), .s (.string cs)] => if cs.data.toList.all (fun b => decide (b.toNat < 128)) = true ∧ s.size ≤ 1000000 ∧ cs.size ≤ 1000 then some (T (Lib.trimS s.data.toList cs.data.toList), H) else none
  | _ => none
def atoiP (args : List AV) (H : AHeap) : Option (AV × AHeap) :=
  match args with
  | [.s (.string s)] => if s.size ≤ 1000000 then (match Lib.atoiAll s.data.toList with
    | .ok v => some (.tup [I v, .s .nilIface], H)
    | _ => none) else none
  | _ => none
def itoaP (args : List AV) (H : AHeap) : Option (AV × AHeap) :=
  match args with
  | [.s (.int .i64 n)] => if -9223372036854775808 ≤ n ∧ n ≤ 9223372036854775807 then some (T (Lib.itoa n), H) else none
  | _ => none
def strOf : AV → Option Str
  | .s (.string s) => some s.data.toList
  | _ => none
def joinP (args : List AV) (H : AHeap) : Option (AV × AHeap) :=
  match args with
  | [.sl r g off 1 n _ _, .s (.string sep)] => match H.get r with
    | .blk g' _ cells => if g' = g ∧ off + n ≤ cells.length ∧ n ≤ 1000 then (match ((cells.drop off).take n).mapM strOf with
      | some ss => if (Lib.join ss sep.data.toList).length ≤ 1000000 then some (T (Lib.join ss sep.data.toList), H) else none
      | none => none) else none
    | _ => none
  | _ => none
/-- (*Builder).copyCheck: a builder of this call takes its own address. -/
def copyP (t : TypeId) : List AV → AHeap → Option (AV × AHeap)
  | [.ref r 0 0], H =>
    match H.get r with
    | .blk 0 ty [p, v] => if ty = t ∧ t < tagB ∧ H.base ≤ r ∧ v.isCell = true then
        (match p with
        | .s (.pointer none) => some (.tup [], H.put r (.blk 0 ty [.ref r 0 0, v]))
        | .ref r' 0 0 => if r' = r then some (.tup [], H) else none
        | _ => none) else none
    | _ => none
  | _, _ => none
def byteOf : AV → Option UInt8
  | .s (.int .u8 n) => if 0 ≤ n ∧ n < 256 then some (UInt8.ofNat n.toNat) else none
  | _ => none
/-- (*Builder).String: the bytes of the buffer; what it was is lost. -/
def stringP (tB tE : TypeId) : List AV → AHeap → Option (AV × AHeap)
  | [.ref r 0 0], H =>
    match H.get r with
    | .blk 0 ty [_, .s (.slice none 0 0)] => if ty = tB then some (T [], H) else none
    | .blk 0 ty [_, .sl r2 g 0 1 len _ _] => (match H.get r2 with
      | .blk g' ty2 cells => if ty = tB ∧ g' = g ∧ ty2 = tE + tagB ∧ len ≠ 0 ∧ len ≤ 1000000000 ∧ len ≤ cells.length ∧ H.base ≤ r2 then (match (cells.take len).mapM byteOf with
        | some bs => some (T bs, H.put r2 (.blk (g + 1) 0 []))
        | none => none) else none
      | _ => none)
    | _ => none
  | _, _ => none
theorem toList_T (l : Str) : (⟨l.toArray⟩ : ByteArray).data.toList = l := by simp
theorem splitP_T {ty : TypeId} {l : Str} {c : UInt8} {H : AHeap} (h : l.length ≤ 1000000) : splitP ty [T l, T [c]] H = some (.sl H.next 0 0 1 (splitC c l).length (splitC c l).length true, H.new (.blk 0 ty ((splitC c l).map T))) := by
  simp only [splitP, T, toList_T, size_T]
  rw [if_pos (by omega)]
theorem trimP_T {l cs : Str} {H : AHeap} (h : l.length ≤ 1000000) (hc : cs.all (fun b => decide (b.toNat < 128)) = true) (hl : cs.length ≤ 1000) : trimP [T l, T cs] H = some (T (Lib.trimS l cs), H) := by
  simp only [trimP, T, toList_T, size_T]
  rw [if_pos ⟨hc, h, hl⟩]
theorem atoiP_T {l : Str} {H : AHeap} {v : Int} (h : l.length ≤ 1000000) (hv : Lib.atoiAll l = .ok v) : atoiP [T l] H = some (.tup [I v, .s .nilIface], H) := by
  simp only [atoiP, T, toList_T, size_T]
  rw [if_pos h, hv]
theorem itoaP_I {n : Int} {H : AHeap} (h1 : -9223372036854775808 ≤ n) (h2 : n ≤ 9223372036854775807) : itoaP [I n] H = some (T (Lib.itoa n), H) := if_pos ⟨h1, h2⟩

end Go.Proofs.YtjmldnpdfnklcaaDoor

namespace Go.Proofs.YtjmldnpdfnklcaaDoor

def pureFns : List Nat := [
  33,
  50,
  22,
  43,
  17,
  58,
  36,
  12,
  52,
  32,
  27,
  72,
  44,
  25,
  45,
  23,
  20,
  51,
  40,
  70,
  41,
  18,
  34,
  29,
  49,
  31,
  11,
  13,
  28,
  30,
  21,
  14,
  26,
  0]
/-- What the library answers. -/
def prims : List (Nat × (List AV → AHeap → Option (AV × AHeap))) := [
  (35, splitP 9),
  (38, trimP),
  (39, atoiP),
  (73, itoaP),
  (74, joinP),
  (75, copyP 84),
  (48, stringP 84 5),
  (0, fun _ _ => none)]
def pol : Pol := ⟨fun f => pureFns.contains f, fun f => prims.lookup f⟩
noncomputable def cl : Callee := callω Tryd.prog pol
theorem run_cl {f : FuncId} {args : List AV} {H : AHeap} {r : AV × AHeap} (h1 : pol.prim f = none) (h2 : pol.pure f = false) (h : runF Tryd.prog cl f args H = some r) : cl f args H = some r := run_of h1 h2 h
theorem pure_cl {f : FuncId} {args : List AV} {H H1 : AHeap} {v v' : AV} (h1 : pol.prim f = none) (h2 : pol.pure f = true) (h : runF Tryd.prog cl f args H.guard = some (v, H1)) (hz : freezeA H1 H.next 9 v = some v') : cl f args H = some (v', H) := pure_of h1 h2 h hz
/-- A pure function whose answer is frozen as it stands. -/
theorem pure_val {f : FuncId} {args : List AV} {H : AHeap} {v : AV} {sh : Option (AV × AHeap)} (h1 : pol.prim f = none) (h2 : pol.pure f = true) (rn : ∀ {r}, sh = some r → runF Tryd.prog cl f args H.guard = some r) (h : sh.map Prod.fst = some v) (hz : Frz 9 v) : cl f args H = some (v, H) := by
  cases hs : sh with
  | none => rw [hs] at h; cases h
  | some r =>
    rw [hs] at h
    simp only [Option.map_some, Option.some.injEq] at h
    subst h
    exact pure_cl h1 h2 (rn hs) (hz _ _)

end Go.Proofs.YtjmldnpdfnklcaaDoor

namespace Go.Proofs.YtjmldnpdfnklcaaDoor

open Go.RowKit
structure Cho where
  do_ : Int
  at_ : Int
  bit : Int
  mask : Int
def Cho.av (c : Cho) : List AV := [I c.do_, I c.at_, I c.bit, .s (.int .u16 c.mask)]
theorem av_len_cho (c : Cho) : c.av.length = 4 := rfl
theorem all_cho (c : Cho) : c.av.all AV.isCell = true := by simp [Cho.av, isCell_int]
structure Cho.In (c : Cho) : Prop where
  do_ : In64 c.do_
  at_ : In64 c.at_
  bit : In64 c.bit
  mask0 : 0 ≤ c.mask
  mask : c.mask ≤ 65535
/-- A slice of choices, at first. -/
structure ChosOf (av : AV) (cs : List Cho) : Prop where
  is : SliceIs AHeap.empty av 4 cs.length (cs.flatMap Cho.av)
  wf : ∀ c ∈ cs, c.In
  cell : av.isCell = true
def choOf (zs : List Int) : Cho := ⟨zs.getD 0 0, zs.getD 1 0, zs.getD 2 0, zs.getD 3 0⟩
abbrev choK : List IntKind := [.i64, .i64, .i64, .u16]
theorem cho_ints {zs : List Int} (h : zs.length = 4) : ints choK zs = (choOf zs).av := by
  match zs, h with
  | [a, b, c, d], _ => rfl
theorem u16_wf {z : Int} (h : (Lit.int .u16 z).wf = true) : 0 ≤ z ∧ z ≤ 65535 := by
  simp [Lit.wf, IntKind.min, IntKind.max, IntKind.signed, IntKind.bits] at h
  exact ⟨by omega, by omega⟩
section
variable {P : Program} {H : Type} {enc : TypeId × Value → H}
theorem open_choices {t e : TypeId} (ht : P.underlying t = some (.slice e)) (hce : P.cellsOf e = 4) (hF : FlatT P e choK) {W : World} {r : Reach} {b0 base : Nat} {sp : Nat → Bool} {held : Bool} {v : Value} {d : DataW H} {ps : List MemPlace}
    (hval : Value.okWide P W r b0 t v) (h : DataW.Trod enc P W base sp held t v d ps) : ∃ (x : AV) (cs : List Cho), RV ρ0 G0 W x v ∧ ChosOf x cs := by
  unfold Value.okWide at hval
  rw [ht] at hval
  obtain ⟨fuel, hf⟩ := h
  have hv : v.cells.toList = [v] := by
    cases v <;> first | rfl | (simp [Cell.okWide, ht, Cell.ok] at hval)
  rw [hv] at hf
  obtain ⟨av, l, r1, r2, r3⟩ := open_rows ht (ks := choK) hce hF hval hf
  have key : ∀ l : List (List Int), (∀ zs ∈ l, zs.length = 4) → l.flatMap (ints choK) = (l.map choOf).flatMap Cho.av := by
    intro l
    induction l with
    | nil => intro _; rfl
    | cons zs l ih =>
      intro h
      rw [List.flatMap_cons, List.map_cons, List.flatMap_cons, ih fun z hz => h z (by simp [hz]), cho_ints (h zs (by simp))]
  refine ⟨av, l.map choOf, r1, ⟨?_, fun c hc => ?_, r3⟩⟩
  · have := r2.is
    rw [key l r2.len] at this
    simpa using this
  · obtain ⟨zs, hzs, rfl⟩ := List.mem_map.1 hc
    have hl := r2.len zs hzs
    have hw := r2.wf zs hzs
    match zs, hl with
    | [a, b, c, d], _ =>
      have h4 := u16_wf (hw 3 .u16 d rfl rfl)
      exact ⟨in64 (hw 0 .i64 a rfl rfl), in64 (hw 1 .i64 b rfl rfl), in64 (hw 2 .i64 c rfl rfl), h4.1, h4.2⟩
end

end Go.Proofs.YtjmldnpdfnklcaaDoor

namespace Go.Proofs.YtjmldnpdfnklcaaDoor

theorem index_cons_ne {b c : UInt8} {l : Str} (h : b ≠ c) : Lib.index (b :: l) [c] = if Lib.index l [c] == -1 then -1 else Lib.index l [c] + 1 := by
  have hp : ([c] : List UInt8).isPrefixOf (b :: l) = false := by simp [List.isPrefixOf, Ne.symm h]
  rw [Lib.index, hp]; simp
theorem index_cons_eq {c : UInt8} {l : Str} : Lib.index (c :: l) [c] = 0 := by
  rw [Lib.index]; simp [List.isPrefixOf]
theorem splitK_C (c : UInt8) : ∀ s : Str, Lib.splitK [c] 0 (Lib.count s [c]) s = splitC c s
  | [] => by rw [Lib.count_one]; rfl
  | b :: l => by
    have ih := splitK_C c l
    by_cases h : b = c
    · subst h
      rw [Lib.count_cons_eq, Nat.add_comm]
      simp only [Lib.splitK, index_cons_eq, splitC, if_true]
      rw [if_neg (by decide)]
      simp [ih]
    · rw [Lib.count_cons_ne b c l h]
      cases hk : Lib.count l [c] with
      | zero =>
        rw [hk] at ih
        simp only [Lib.splitK] at ih ⊢
        simp only [splitC, if_neg h, ← ih]
      | succ k =>
        rw [hk] at ih
        simp only [Lib.splitK, index_cons_ne h] at ih ⊢
        by_cases hi : Lib.index l [c] = -1
        · simp only [hi, beq_self_eq_true, if_true] at ih ⊢
          simp only [splitC, if_neg h, ← ih]
        · have hi' : (Lib.index l [c] == -1) = false := by simpa using hi
          simp only [hi', Bool.false_eq_true, if_false] at ih ⊢
          have hge := Lib.index_ge l [c]
          have hn : ¬ ((Lib.index l [c] + 1 == -1) = true) := fun e => by have := beq_iff_eq.1 e; omega
          rw [if_neg hn]
          obtain ⟨i, hi2⟩ : ∃ i : Nat, Lib.index l [c] = i := ⟨(Lib.index l [c]).toNat, by omega⟩
          rw [hi2] at ih ⊢
          simp only [splitC, if_neg h, ← ih]
          rw [show ((i : Int) + 1).toNat = i + 1 by omega]
          simp [show i + 1 + 1 = (i + 1) + 1 by omega]
theorem splitB_C {s sep : ByteArray} {c : UInt8} (h : sep.data.toList = [c]) : (Lib.splitB sep 0 (Lib.countB s sep) s).map (·.data.toList) = splitC c s.data.toList := by
  rw [Lib.splitB_data, h]
  have : Lib.countB s sep = Lib.count s.data.toList [c] := by rw [← h]
  rw [this, splitK_C]
theorem strs_T : ∀ (l : List ByteArray), l.map (fun s => AV.s (.string s)) = (l.map (·.data.toList)).map T
  | [] => rfl
  | s :: l => by
    simp only [List.map_cons, strs_T l, T]

end Go.Proofs.YtjmldnpdfnklcaaDoor

namespace Go.Proofs

open Go.Shelf
def Tryd.lays156_ren : Go.Shelf.Ren := ⟨fun | 156 => 74 | 165 => 90 | 166 => 47 | 169 => 48 | 240 => 75 | 241 => 102 | 276 => 91 | 277 => 115 | n => n, fun | 31 => 37 | 9 => 9 | 3 => 3 | 4 => 4 | 0 => 0 | 20 => 20 | 72 => 84 | 76 => 75 | 70 => 81 | 37 => 82 | 75 => 74 | 127 => 107 | 164 => 122 | 5 => 5 | 80 => 86 | n => n, fun | n => n⟩
theorem Tryd.lays156 : Go.Proofs.Lays.n156 Tryd.prog Tryd.lays156_ren := {
  mixed := by kernel_rfl
  f156 := Tryd.func74.trans (congrArg some (by kernel_rfl))
  f165 := Tryd.func90.trans (congrArg some (by kernel_rfl))
  f166 := Tryd.func47.trans (congrArg some (by kernel_rfl))
  f169 := Tryd.func48.trans (congrArg some (by kernel_rfl))
  f240 := Tryd.func75.trans (congrArg some (by kernel_rfl))
  f241 := Tryd.func102.trans (congrArg some (by kernel_rfl))
  f276 := Tryd.func91.trans (congrArg some (by kernel_rfl))
  f277 := Tryd.func115.trans (congrArg some (by kernel_rfl))
  t0 := Tryd.underlying0
  a0 := Tryd.isAgg0
  z0 := Tryd.sizeOf0
  v0 := Tryd.zeroValue0
  t3 := Tryd.underlying3
  a3 := Tryd.isAgg3
  z3 := Tryd.sizeOf3
  v3 := Tryd.zeroValue3
  t4 := Tryd.underlying4
  a4 := Tryd.isAgg4
  z4 := Tryd.sizeOf4
  v4 := Tryd.zeroValue4
  t9 := Tryd.underlying9
  a9 := Tryd.isAgg9
  z9 := Tryd.sizeOf9
  v9 := Tryd.zeroValue9
  t20 := Tryd.underlying20
  a20 := Tryd.isAgg20
  z20 := Tryd.sizeOf20
  v20 := Tryd.zeroValue20
  t31 := Tryd.underlying37
  a31 := Tryd.isAgg37
  z31 := Tryd.sizeOf37
  v31 := Tryd.zeroValue37
  t37 := Tryd.underlying82
  a37 := Tryd.isAgg82
  z37 := Tryd.sizeOf82
  v37 := Tryd.zeroValue82
  t70 := Tryd.underlying81
  a70 := Tryd.isAgg81
  z70 := Tryd.sizeOf81
  v70 := Tryd.zeroValue81
  t72 := Tryd.underlying84
  a72 := Tryd.isAgg84
  z72 := Tryd.sizeOf84
  v72 := Tryd.zeroValue84
  t75 := Tryd.underlying74
  a75 := Tryd.isAgg74
  z75 := Tryd.sizeOf74
  v75 := Tryd.zeroValue74
  t76 := Tryd.underlying75
  a76 := Tryd.isAgg75
  z76 := Tryd.sizeOf75
  v76 := Tryd.zeroValue75
  t127 := Tryd.underlying107
  a127 := Tryd.isAgg107
  z127 := Tryd.sizeOf107
  v127 := Tryd.zeroValue107
  t164 := Tryd.underlying122
  a164 := Tryd.isAgg122
  z164 := Tryd.sizeOf122
  v164 := Tryd.zeroValue122 }
theorem Tryd.Builder_Extra_156 : Builder.Extra Tryd.prog Tryd.lays156_ren := {
  sizeBuilder := by kernel_rfl
  liesBuilder := by kernel_rfl
  t5 := Tryd.underlying5
  a5 := Tryd.isAgg5
  z5 := Tryd.sizeOf5
  v5 := Tryd.zeroValue5
  infoByte := by kernel_rfl
  cellsByte := by kernel_rfl
  sizeByte := by kernel_rfl
  neB5 := by decide }
open Go.RowKit in
theorem Tryd.strings_Join (bk o c : Nat) (xs : List ByteArray) (sep : ByteArray) (w : World) (hcells : ∀ (j : Nat) x, xs[j]? = some x → w.cell? ⟨bk, o + j, none⟩ = some (.string x)) (hbk : bk < w.heap.size) (hN : xs.length ≤ 140737488355328) (hcap : xs.length ≤ c) (hlen : (Lib.join (xs.map (·.data.toList)) sep.data.toList).length ≤ 140737488355328) :
    Calls Tryd.prog 74 #[.slice (some ⟨bk, o, none⟩) xs.length c, .string sep] w fun e w' => e = .returned (.string ⟨(Lib.join (xs.map (·.data.toList)) sep.data.toList).toArray⟩) ∧ Below w.heap.size w w' := Any.strings_Join Tryd.lays156 Tryd.Builder_Extra_156 bk o c xs sep w hcells hbk hN hcap hlen
def Tryd.laysM171_ren : Go.Shelf.Ren := ⟨fun | 171 => 73 | 243 => 89 | 246 => 101 | 283 => 111 | 284 => 112 | 285 => 113 | 286 => 114 | 129 => 119 | 317 => 118 | 318 => 120 | 319 => 121 | 320 => 122 | 337 => 123 | 338 => 124 | n => n, fun | 3 => 3 | 9 => 9 | 2 => 2 | 4 => 4 | 171 => 146 | 0 => 0 | 53 => 127 | 37 => 82 | 5 => 5 | 173 => 149 | 212 => 156 | 51 => 152 | 20 => 20 | 213 => 157 | 46 => 130 | 232 => 160 | 233 => 161 | n => n, fun | 17 => 5 | 18 => 6 | 19 => 7 | n => n⟩
theorem Tryd.laysM171 : Go.Proofs.LaysM.n171 Tryd.prog Tryd.laysM171_ren := {
  mixed := by kernel_rfl
  f129 := Tryd.func119.trans (congrArg some (by kernel_rfl))
  f171 := Tryd.func73.trans (congrArg some (by kernel_rfl))
  f243 := Tryd.func89.trans (congrArg some (by kernel_rfl))
  f246 := Tryd.func101.trans (congrArg some (by kernel_rfl))
  f283 := Tryd.func111.trans (congrArg some (by kernel_rfl))
  f284 := Tryd.func112.trans (congrArg some (by kernel_rfl))
  f285 := Tryd.func113.trans (congrArg some (by kernel_rfl))
  f286 := Tryd.func114.trans (congrArg some (by kernel_rfl))
  f317 := Tryd.func118.trans (congrArg some (by kernel_rfl))
  f318 := Tryd.func120.trans (congrArg some (by kernel_rfl))
  f319 := Tryd.func121.trans (congrArg some (by kernel_rfl))
  f320 := Tryd.func122.trans (congrArg some (by kernel_rfl))
  f337 := Tryd.func123.trans (congrArg some (by kernel_rfl))
  f338 := Tryd.func124.trans (congrArg some (by kernel_rfl))
  t0 := Tryd.underlying0
  a0 := Tryd.isAgg0
  z0 := Tryd.sizeOf0
  v0 := Tryd.zeroValue0
  t2 := Tryd.underlying2
  a2 := Tryd.isAgg2
  z2 := Tryd.sizeOf2
  v2 := Tryd.zeroValue2
  t3 := Tryd.underlying3
  a3 := Tryd.isAgg3
  z3 := Tryd.sizeOf3
  v3 := Tryd.zeroValue3
  t4 := Tryd.underlying4
  a4 := Tryd.isAgg4
  z4 := Tryd.sizeOf4
  v4 := Tryd.zeroValue4
  t5 := Tryd.underlying5
  a5 := Tryd.isAgg5
  z5 := Tryd.sizeOf5
  v5 := Tryd.zeroValue5
  t9 := Tryd.underlying9
  a9 := Tryd.isAgg9
  z9 := Tryd.sizeOf9
  v9 := Tryd.zeroValue9
  t20 := Tryd.underlying20
  a20 := Tryd.isAgg20
  z20 := Tryd.sizeOf20
  v20 := Tryd.zeroValue20
  t37 := Tryd.underlying82
  a37 := Tryd.isAgg82
  z37 := Tryd.sizeOf82
  v37 := Tryd.zeroValue82
  t46 := Tryd.underlying130
  a46 := Tryd.isAgg130
  z46 := Tryd.sizeOf130
  v46 := Tryd.zeroValue130
  t51 := Tryd.underlying152
  a51 := Tryd.isAgg152
  z51 := Tryd.sizeOf152
  v51 := Tryd.zeroValue152
  t53 := Tryd.underlying127
  a53 := Tryd.isAgg127
  z53 := Tryd.sizeOf127
  v53 := Tryd.zeroValue127
  t171 := Tryd.underlying146
  a171 := Tryd.isAgg146
  z171 := Tryd.sizeOf146
  v171 := Tryd.zeroValue146
  t173 := Tryd.underlying149
  a173 := Tryd.isAgg149
  z173 := Tryd.sizeOf149
  v173 := Tryd.zeroValue149
  t212 := Tryd.underlying156
  a212 := Tryd.isAgg156
  z212 := Tryd.sizeOf156
  v212 := Tryd.zeroValue156
  t213 := Tryd.underlying157
  a213 := Tryd.isAgg157
  z213 := Tryd.sizeOf157
  t232 := Tryd.underlying160
  a232 := Tryd.isAgg160
  z232 := Tryd.sizeOf160
  v232 := Tryd.zeroValue160
  t233 := Tryd.underlying161
  a233 := Tryd.isAgg161
  z233 := Tryd.sizeOf161
  v233 := Tryd.zeroValue161
  g17 := by kernel_rfl
  g18 := by kernel_rfl
  g19 := by kernel_rfl
  i0 := by kernel_rfl
  i2 := by kernel_rfl
  i3 := by kernel_rfl
  i4 := by kernel_rfl
  i5 := by kernel_rfl
  i9 := by kernel_rfl
  i20 := by kernel_rfl
  i37 := by kernel_rfl
  i46 := by kernel_rfl
  i51 := by kernel_rfl
  i53 := by kernel_rfl
  i171 := by kernel_rfl
  i173 := by kernel_rfl
  i212 := by kernel_rfl
  i232 := by kernel_rfl
  i233 := by kernel_rfl
  m17 := by kernel_rfl
  m18 := by kernel_rfl
  m19 := by kernel_rfl }
open Go.RowKit Go.Sort Go.Lib in
theorem Tryd.strconv_Itoa (n : Int) (h0 : -9223372036854775808 ≤ n) (h1 : n ≤ 9223372036854775807) (w : World) (htab : Lib.TabIs Tryd.prog w "internal/strconv.uint64pow10" .u64 Lib.pow10Tab) :
    Calls Tryd.prog 73 #[.int .i64 n] w fun e w' => e = .returned (.string ⟨(Lib.itoa n).toArray⟩) ∧ ∃ k os, w' = grow (w.drewN k) os := Any.strconv_Itoa Tryd.laysM171 n h0 h1 w htab
def Tryd.laysC172_ren : Go.Shelf.Ren := ⟨fun | 172 => 39 | 244 => 68 | 245 => 69 | 247 => 84 | 279 => 85 | 280 => 86 | 281 => 87 | 282 => 88 | 287 => 98 | 316 => 99 | 171 => 73 | 205 => 100 | 321 => 109 | 322 => 110 | 243 => 89 | 246 => 101 | 283 => 111 | 284 => 112 | 285 => 113 | 286 => 114 | 129 => 119 | 317 => 118 | 318 => 120 | 319 => 121 | 320 => 122 | 337 => 123 | 338 => 124 | n => n, fun | 9 => 9 | 3 => 3 | 75 => 74 | 76 => 75 | 4 => 4 | 5 => 5 | 167 => 115 | 37 => 82 | 0 => 0 | 85 => 116 | 2 => 2 | 168 => 118 | 53 => 127 | 175 => 128 | 46 => 130 | 210 => 133 | 127 => 107 | 145 => 145 | 143 => 143 | 21 => 21 | 171 => 146 | 173 => 149 | 212 => 156 | 51 => 152 | 20 => 20 | 213 => 157 | 232 => 160 | 233 => 161 | 80 => 86 | n => n, fun | 15 => 0 | 16 => 1 | 17 => 5 | 18 => 6 | 19 => 7 | n => n⟩
theorem Tryd.laysC172 : Go.Proofs.LaysC.n172 Tryd.prog Tryd.laysC172_ren := {
  mixed := by kernel_rfl
  f129 := Tryd.func119.trans (congrArg some (by kernel_rfl))
  f171 := Tryd.func73.trans (congrArg some (by kernel_rfl))
  f172 := Tryd.func39.trans (congrArg some (by kernel_rfl))
  f205 := Tryd.func100.trans (congrArg some (by kernel_rfl))
  f243 := Tryd.func89.trans (congrArg some (by kernel_rfl))
  f244 := Tryd.func68.trans (congrArg some (by kernel_rfl))
  f245 := Tryd.func69.trans (congrArg some (by kernel_rfl))
  f246 := Tryd.func101.trans (congrArg some (by kernel_rfl))
  f247 := Tryd.func84.trans (congrArg some (by kernel_rfl))
  f279 := Tryd.func85.trans (congrArg some (by kernel_rfl))
  f280 := Tryd.func86.trans (congrArg some (by kernel_rfl))
  f281 := Tryd.func87.trans (congrArg some (by kernel_rfl))
  f282 := Tryd.func88.trans (congrArg some (by kernel_rfl))
  f283 := Tryd.func111.trans (congrArg some (by kernel_rfl))
  f284 := Tryd.func112.trans (congrArg some (by kernel_rfl))
  f285 := Tryd.func113.trans (congrArg some (by kernel_rfl))
  f286 := Tryd.func114.trans (congrArg some (by kernel_rfl))
  f287 := Tryd.func98.trans (congrArg some (by kernel_rfl))
  f316 := Tryd.func99.trans (congrArg some (by kernel_rfl))
  f317 := Tryd.func118.trans (congrArg some (by kernel_rfl))
  f318 := Tryd.func120.trans (congrArg some (by kernel_rfl))
  f319 := Tryd.func121.trans (congrArg some (by kernel_rfl))
  f320 := Tryd.func122.trans (congrArg some (by kernel_rfl))
  f321 := Tryd.func109.trans (congrArg some (by kernel_rfl))
  f322 := Tryd.func110.trans (congrArg some (by kernel_rfl))
  f337 := Tryd.func123.trans (congrArg some (by kernel_rfl))
  f338 := Tryd.func124.trans (congrArg some (by kernel_rfl))
  t0 := Tryd.underlying0
  a0 := Tryd.isAgg0
  z0 := Tryd.sizeOf0
  v0 := Tryd.zeroValue0
  t2 := Tryd.underlying2
  a2 := Tryd.isAgg2
  z2 := Tryd.sizeOf2
  v2 := Tryd.zeroValue2
  t3 := Tryd.underlying3
  a3 := Tryd.isAgg3
  z3 := Tryd.sizeOf3
  v3 := Tryd.zeroValue3
  t4 := Tryd.underlying4
  a4 := Tryd.isAgg4
  z4 := Tryd.sizeOf4
  v4 := Tryd.zeroValue4
  t5 := Tryd.underlying5
  a5 := Tryd.isAgg5
  z5 := Tryd.sizeOf5
  v5 := Tryd.zeroValue5
  t9 := Tryd.underlying9
  a9 := Tryd.isAgg9
  z9 := Tryd.sizeOf9
  v9 := Tryd.zeroValue9
  t20 := Tryd.underlying20
  a20 := Tryd.isAgg20
  z20 := Tryd.sizeOf20
  v20 := Tryd.zeroValue20
  t21 := Tryd.underlying21
  a21 := Tryd.isAgg21
  z21 := Tryd.sizeOf21
  v21 := Tryd.zeroValue21
  t37 := Tryd.underlying82
  a37 := Tryd.isAgg82
  z37 := Tryd.sizeOf82
  v37 := Tryd.zeroValue82
  t46 := Tryd.underlying130
  a46 := Tryd.isAgg130
  z46 := Tryd.sizeOf130
  v46 := Tryd.zeroValue130
  t51 := Tryd.underlying152
  a51 := Tryd.isAgg152
  z51 := Tryd.sizeOf152
  v51 := Tryd.zeroValue152
  t53 := Tryd.underlying127
  a53 := Tryd.isAgg127
  z53 := Tryd.sizeOf127
  v53 := Tryd.zeroValue127
  t75 := Tryd.underlying74
  a75 := Tryd.isAgg74
  z75 := Tryd.sizeOf74
  v75 := Tryd.zeroValue74
  t76 := Tryd.underlying75
  a76 := Tryd.isAgg75
  z76 := Tryd.sizeOf75
  v76 := Tryd.zeroValue75
  t85 := Tryd.underlying116
  a85 := Tryd.isAgg116
  z85 := Tryd.sizeOf116
  v85 := Tryd.zeroValue116
  t127 := Tryd.underlying107
  a127 := Tryd.isAgg107
  z127 := Tryd.sizeOf107
  v127 := Tryd.zeroValue107
  t143 := Tryd.underlying143
  a143 := Tryd.isAgg143
  z143 := Tryd.sizeOf143
  v143 := Tryd.zeroValue143
  t145 := Tryd.underlying145
  a145 := Tryd.isAgg145
  z145 := Tryd.sizeOf145
  v145 := Tryd.zeroValue145
  t167 := Tryd.underlying115
  a167 := Tryd.isAgg115
  z167 := Tryd.sizeOf115
  v167 := Tryd.zeroValue115
  t168 := Tryd.underlying118
  a168 := Tryd.isAgg118
  z168 := Tryd.sizeOf118
  v168 := Tryd.zeroValue118
  t171 := Tryd.underlying146
  a171 := Tryd.isAgg146
  z171 := Tryd.sizeOf146
  v171 := Tryd.zeroValue146
  t173 := Tryd.underlying149
  a173 := Tryd.isAgg149
  z173 := Tryd.sizeOf149
  v173 := Tryd.zeroValue149
  t175 := Tryd.underlying128
  a175 := Tryd.isAgg128
  z175 := Tryd.sizeOf128
  v175 := Tryd.zeroValue128
  t210 := Tryd.underlying133
  a210 := Tryd.isAgg133
  z210 := Tryd.sizeOf133
  v210 := Tryd.zeroValue133
  t212 := Tryd.underlying156
  a212 := Tryd.isAgg156
  z212 := Tryd.sizeOf156
  v212 := Tryd.zeroValue156
  t213 := Tryd.underlying157
  a213 := Tryd.isAgg157
  z213 := Tryd.sizeOf157
  t232 := Tryd.underlying160
  a232 := Tryd.isAgg160
  z232 := Tryd.sizeOf160
  v232 := Tryd.zeroValue160
  t233 := Tryd.underlying161
  a233 := Tryd.isAgg161
  z233 := Tryd.sizeOf161
  v233 := Tryd.zeroValue161
  g15 := by kernel_rfl
  g16 := by kernel_rfl
  g17 := by kernel_rfl
  g18 := by kernel_rfl
  g19 := by kernel_rfl
  t80 := Tryd.underlying86
  a80 := Tryd.isAgg86
  z80 := Tryd.sizeOf86
  v80 := Tryd.zeroValue86
  i0 := by kernel_rfl
  i2 := by kernel_rfl
  i3 := by kernel_rfl
  i4 := by kernel_rfl
  i5 := by kernel_rfl
  i9 := by kernel_rfl
  i20 := by kernel_rfl
  i21 := by kernel_rfl
  i37 := by kernel_rfl
  i46 := by kernel_rfl
  i51 := by kernel_rfl
  i53 := by kernel_rfl
  i75 := by kernel_rfl
  i76 := by kernel_rfl
  i80 := by kernel_rfl
  i85 := by kernel_rfl
  i127 := by kernel_rfl
  i143 := by kernel_rfl
  i145 := by kernel_rfl
  i167 := by kernel_rfl
  i168 := by kernel_rfl
  i171 := by kernel_rfl
  i173 := by kernel_rfl
  i175 := by kernel_rfl
  i210 := by kernel_rfl
  i212 := by kernel_rfl
  i232 := by kernel_rfl
  i233 := by kernel_rfl
  m15 := by kernel_rfl
  m16 := by kernel_rfl
  m17 := by kernel_rfl
  m18 := by kernel_rfl
  m19 := by kernel_rfl
  c0 := by kernel_rfl
  c2 := by kernel_rfl
  c3 := by kernel_rfl
  c4 := by kernel_rfl
  c5 := by kernel_rfl
  c9 := by kernel_rfl
  c20 := by kernel_rfl
  c21 := by kernel_rfl
  c37 := by kernel_rfl
  c46 := by kernel_rfl
  c51 := by kernel_rfl
  c53 := by kernel_rfl
  c75 := by kernel_rfl
  c76 := by kernel_rfl
  c80 := by kernel_rfl
  c85 := by kernel_rfl
  c127 := by kernel_rfl
  c143 := by kernel_rfl
  c145 := by kernel_rfl
  c167 := by kernel_rfl
  c168 := by kernel_rfl
  c171 := by kernel_rfl
  c173 := by kernel_rfl
  c175 := by kernel_rfl
  c210 := by kernel_rfl
  c212 := by kernel_rfl
  c213 := by kernel_rfl
  c232 := by kernel_rfl
  c233 := by kernel_rfl }
open Go.RowKit in
theorem Tryd.strconv_Atoi_ok (s : ByteArray) (hmax : s.size ≤ 9223372036854775806) (v : Int) (h : Lib.atoiAll s.data.toList = .ok v) (w : World) :
    Calls Tryd.prog 39 #[.string s] w fun e w' => e = .returned (.tuple #[.int .i64 v, .nilIface]) ∧ (w' = w ∨ ∃ t, w' = Lib.bytesWorld w 5 t) := Any.strconv_Atoi_ok Tryd.laysC172 s hmax v h w
def Tryd.lays146_ren : Go.Shelf.Ren := ⟨fun | 146 => 35 | 221 => 56 | 268 => 76 | 138 => 77 | 143 => 78 | 195 => 92 | 197 => 81 | 218 => 93 | 219 => 94 | 260 => 95 | 217 => 103 | 225 => 104 | 224 => 105 | 267 => 106 | 266 => 116 | 314 => 117 | n => n, fun | 9 => 9 | 31 => 37 | 3 => 3 | 4 => 4 | 0 => 0 | 105 => 112 | 21 => 21 | 5 => 5 | 46 => 130 | 119 => 137 | 139 => 140 | 138 => 139 | 146 => 153 | 51 => 152 | n => n, fun | 1 => 2 | 3 => 3 | 4 => 4 | n => n⟩
theorem Tryd.lays146 : Go.Proofs.Lays.n146 Tryd.prog Tryd.lays146_ren := {
  mixed := by kernel_rfl
  f138 := Tryd.func77.trans (congrArg some (by kernel_rfl))
  f143 := Tryd.func78.trans (congrArg some (by kernel_rfl))
  f146 := Tryd.func35.trans (congrArg some (by kernel_rfl))
  f195 := Tryd.func92.trans (congrArg some (by kernel_rfl))
  f197 := Tryd.func81.trans (congrArg some (by kernel_rfl))
  f217 := Tryd.func103.trans (congrArg some (by kernel_rfl))
  f218 := Tryd.func93.trans (congrArg some (by kernel_rfl))
  f219 := Tryd.func94.trans (congrArg some (by kernel_rfl))
  f221 := Tryd.func56.trans (congrArg some (by kernel_rfl))
  f224 := Tryd.func105.trans (congrArg some (by kernel_rfl))
  f225 := Tryd.func104.trans (congrArg some (by kernel_rfl))
  f260 := Tryd.func95.trans (congrArg some (by kernel_rfl))
  f266 := Tryd.func116.trans (congrArg some (by kernel_rfl))
  f267 := Tryd.func106.trans (congrArg some (by kernel_rfl))
  f268 := Tryd.func76.trans (congrArg some (by kernel_rfl))
  f314 := Tryd.func117.trans (congrArg some (by kernel_rfl))
  t0 := Tryd.underlying0
  a0 := Tryd.isAgg0
  z0 := Tryd.sizeOf0
  v0 := Tryd.zeroValue0
  t3 := Tryd.underlying3
  a3 := Tryd.isAgg3
  z3 := Tryd.sizeOf3
  v3 := Tryd.zeroValue3
  t4 := Tryd.underlying4
  a4 := Tryd.isAgg4
  z4 := Tryd.sizeOf4
  v4 := Tryd.zeroValue4
  t5 := Tryd.underlying5
  a5 := Tryd.isAgg5
  z5 := Tryd.sizeOf5
  v5 := Tryd.zeroValue5
  t9 := Tryd.underlying9
  a9 := Tryd.isAgg9
  z9 := Tryd.sizeOf9
  v9 := Tryd.zeroValue9
  t21 := Tryd.underlying21
  a21 := Tryd.isAgg21
  z21 := Tryd.sizeOf21
  v21 := Tryd.zeroValue21
  t31 := Tryd.underlying37
  a31 := Tryd.isAgg37
  z31 := Tryd.sizeOf37
  v31 := Tryd.zeroValue37
  t46 := Tryd.underlying130
  a46 := Tryd.isAgg130
  z46 := Tryd.sizeOf130
  v46 := Tryd.zeroValue130
  t51 := Tryd.underlying152
  a51 := Tryd.isAgg152
  z51 := Tryd.sizeOf152
  v51 := Tryd.zeroValue152
  t105 := Tryd.underlying112
  a105 := Tryd.isAgg112
  z105 := Tryd.sizeOf112
  v105 := Tryd.zeroValue112
  t119 := Tryd.underlying137
  a119 := Tryd.isAgg137
  z119 := Tryd.sizeOf137
  t138 := Tryd.underlying139
  a138 := Tryd.isAgg139
  z138 := Tryd.sizeOf139
  v138 := Tryd.zeroValue139
  t139 := Tryd.underlying140
  a139 := Tryd.isAgg140
  z139 := Tryd.sizeOf140
  v139 := Tryd.zeroValue140
  t146 := Tryd.underlying153
  a146 := Tryd.isAgg153
  z146 := Tryd.sizeOf153
  v146 := Tryd.zeroValue153
  g1 := by kernel_rfl
  g3 := by kernel_rfl
  g4 := by kernel_rfl }
open Go.RowKit Go.Lib in
theorem Tryd.strings_Split (s sep : ByteArray) (m : Int) (w : World) (hs : s.size < 4294967281) (hm : w.cell? ⟨2, 0, none⟩ = some (.int .i64 m)) (h1 : 1 ≤ sep.size) :
    Calls Tryd.prog 35 #[.string s, .string sep] w fun e w' =>
      e = .returned (.slice (some ⟨w.heap.size, 0, none⟩) (Lib.countB s sep + 1) (Lib.countB s sep + 1)) ∧ w' = w.alloc (.cells ((Lib.splitB sep 0 (Lib.countB s sep) s).map Value.string).toArray 9) := Any.strings_Split Tryd.lays146 (by kernel_rfl) s sep m w hs hm h1
def Tryd.lays160_ren : Go.Shelf.Ren := ⟨fun | 160 => 38 | 232 => 62 | 231 => 61 | 227 => 63 | 234 => 65 | 233 => 64 | 236 => 67 | 235 => 66 | 228 => 80 | 271 => 83 | 151 => 82 | 197 => 81 | 120 => 97 | 152 => 96 | 260 => 95 | 137 => 107 | 119 => 108 | 224 => 105 | 225 => 104 | 217 => 103 | 266 => 116 | n => n, fun | 9 => 9 | 4 => 4 | 3 => 3 | 5 => 5 | 117 => 98 | 116 => 97 | 0 => 0 | 124 => 101 | 21 => 21 | 105 => 112 | 46 => 130 | 119 => 137 | 139 => 140 | 138 => 139 | n => n, fun | 3 => 3 | 4 => 4 | n => n⟩
theorem Tryd.lays160 : Go.Proofs.Lays.n160 Tryd.prog Tryd.lays160_ren := {
  mixed := by kernel_rfl
  f119 := Tryd.func108.trans (congrArg some (by kernel_rfl))
  f120 := Tryd.func97.trans (congrArg some (by kernel_rfl))
  f137 := Tryd.func107.trans (congrArg some (by kernel_rfl))
  f151 := Tryd.func82.trans (congrArg some (by kernel_rfl))
  f152 := Tryd.func96.trans (congrArg some (by kernel_rfl))
  f160 := Tryd.func38.trans (congrArg some (by kernel_rfl))
  f197 := Tryd.func81.trans (congrArg some (by kernel_rfl))
  f217 := Tryd.func103.trans (congrArg some (by kernel_rfl))
  f224 := Tryd.func105.trans (congrArg some (by kernel_rfl))
  f225 := Tryd.func104.trans (congrArg some (by kernel_rfl))
  f227 := Tryd.func63.trans (congrArg some (by kernel_rfl))
  f228 := Tryd.func80.trans (congrArg some (by kernel_rfl))
  f231 := Tryd.func61.trans (congrArg some (by kernel_rfl))
  f232 := Tryd.func62.trans (congrArg some (by kernel_rfl))
  f233 := Tryd.func64.trans (congrArg some (by kernel_rfl))
  f234 := Tryd.func65.trans (congrArg some (by kernel_rfl))
  f235 := Tryd.func66.trans (congrArg some (by kernel_rfl))
  f236 := Tryd.func67.trans (congrArg some (by kernel_rfl))
  f260 := Tryd.func95.trans (congrArg some (by kernel_rfl))
  f266 := Tryd.func116.trans (congrArg some (by kernel_rfl))
  f271 := Tryd.func83.trans (congrArg some (by kernel_rfl))
  t0 := Tryd.underlying0
  a0 := Tryd.isAgg0
  z0 := Tryd.sizeOf0
  v0 := Tryd.zeroValue0
  t3 := Tryd.underlying3
  a3 := Tryd.isAgg3
  z3 := Tryd.sizeOf3
  v3 := Tryd.zeroValue3
  t4 := Tryd.underlying4
  a4 := Tryd.isAgg4
  z4 := Tryd.sizeOf4
  v4 := Tryd.zeroValue4
  t5 := Tryd.underlying5
  a5 := Tryd.isAgg5
  z5 := Tryd.sizeOf5
  v5 := Tryd.zeroValue5
  t9 := Tryd.underlying9
  a9 := Tryd.isAgg9
  z9 := Tryd.sizeOf9
  v9 := Tryd.zeroValue9
  t21 := Tryd.underlying21
  a21 := Tryd.isAgg21
  z21 := Tryd.sizeOf21
  v21 := Tryd.zeroValue21
  t46 := Tryd.underlying130
  a46 := Tryd.isAgg130
  z46 := Tryd.sizeOf130
  v46 := Tryd.zeroValue130
  t105 := Tryd.underlying112
  a105 := Tryd.isAgg112
  z105 := Tryd.sizeOf112
  v105 := Tryd.zeroValue112
  t116 := Tryd.underlying97
  a116 := Tryd.isAgg97
  z116 := Tryd.sizeOf97
  t117 := Tryd.underlying98
  a117 := Tryd.isAgg98
  z117 := Tryd.sizeOf98
  v117 := Tryd.zeroValue98
  t119 := Tryd.underlying137
  a119 := Tryd.isAgg137
  z119 := Tryd.sizeOf137
  t124 := Tryd.underlying101
  a124 := Tryd.isAgg101
  z124 := Tryd.sizeOf101
  v124 := Tryd.zeroValue101
  t138 := Tryd.underlying139
  a138 := Tryd.isAgg139
  z138 := Tryd.sizeOf139
  v138 := Tryd.zeroValue139
  t139 := Tryd.underlying140
  a139 := Tryd.isAgg140
  z139 := Tryd.sizeOf140
  v139 := Tryd.zeroValue140
  g3 := by kernel_rfl
  g4 := by kernel_rfl }

end Go.Proofs

namespace Go.Proofs.YtjmldnpdfnklcaaDoor

open Go.RowKit
/-- A function's answers by the table are the program's. -/
def PrimOk (f : FuncId) (p : List AV → AHeap → Option (AV × AHeap)) : Prop :=
  Sound Tryd.prog (fun g args H => if g = f then p args H else none) ∧ ∀ args H v H', p args H = some (v, H') → Keeps H H'
theorem keeps_refl (H : AHeap) : Keeps H H := Keeps.refl H
theorem prim_split : PrimOk 35 (splitP 9) := by
  have key : ∀ args H v H', splitP 9 args H = some (v, H') → ∃ (s sep : ByteArray) (c : UInt8), args = [.s (.string s), .s (.string sep)] ∧ sep.data.toList = [c] ∧ s.size < 4294967281 ∧
      v = .sl H.next 0 0 1 (splitC c s.data.toList).length (splitC c s.data.toList).length true ∧ H' = H.new (.blk 0 9 ((splitC c s.data.toList).map T)) := by
    intro args H v H' h
    unfold splitP at h
    split at h
    · rename_i s sep
      split at h
      · rename_i c hc
        split at h
        · rename_i hs
          simp only [Option.some.injEq, Prod.mk.injEq] at h
          exact ⟨s, sep, c, rfl, hc, hs, h.1.symm, h.2.symm⟩
        · cases h
      · cases h
    · cases h
  refine ⟨sound_prim fun args H v H' h ρ w cargs R ha => ?_, fun args H v H' h => ?_⟩
  · obtain ⟨s, sep, c, rfl, hc, hs, rfl, rfl⟩ := key _ _ _ _ h
    obtain ⟨x, y, rfl, h1, h2⟩ := rvs_two ha
    simp only [RV] at h1 h2
    subst h1 h2
    obtain ⟨m, hm⟩ := R.gl.2.1
    have hsz : 1 ≤ sep.size := by
      have : sep.data.toList.length = sep.size := by rw [Array.length_toList]; rfl
      rw [hc] at this; simp at this; omega
    refine (Tryd.strings_Split s sep m w hs hm hsz).mono fun e w' ⟨he, hw⟩ => ?_
    have hL := Lib.splitB_all sep hsz 0 _ s rfl
    have hC := splitB_C (s := s) hc
    have hl : (splitC c s.data.toList).length = Lib.countB s sep + 1 := by rw [← hC, List.length_map, hL]
    obtain ⟨r1, r2⟩ := new_blk (ty := 9) (cells := (splitC c s.data.toList).map T) (cs := ((Lib.splitB sep 0 (Lib.countB s sep) s).map Value.string).toArray) R (by rw [List.length_map, hl, List.size_toArray, List.length_map, hL]; exact Nat.le_refl _) (fun i x hx => by
      rw [← hC, ← strs_T, List.getElem?_map] at hx
      obtain ⟨y, hy, rfl⟩ := Option.map_eq_some_iff.1 hx
      exact ⟨.string y, by simp [hy], by simp only [RV]⟩) (Xct.low (by decide) (by rw [List.length_map, hl, List.size_toArray, List.length_map, hL]))
    refine ⟨_, updρ ρ H.next (w.heap.size, 0), he, by rw [hw]; exact r1, ?_, by rw [hw]; exact r2⟩
    rw [hw, hl]
    simp only [RV]
    refine ⟨_, _, _, rfl, Nat.le_refl _, Nat.le_refl _, fun _ => rfl, Nat.zero_le _, fun _ => ⟨0, 9, Lib.countB s sep + 1, by simp [updρ], fun _ => rfl, ?_, by omega⟩⟩
    rw [shape?_eq, alloc_heap]
    simp only [Option.bind_some, oshape, List.size_toArray, List.length_map, hL]
  · obtain ⟨s, sep, c, rfl, hc, hs, rfl, rfl⟩ := key _ _ _ _ h
    exact Keeps.new _ _
theorem prim_trim : PrimOk 38 trimP := by
  have key : ∀ args H v H', trimP args H = some (v, H') → ∃ (s cs : ByteArray), args = [.s (.string s), .s (.string cs)] ∧ cs.data.toList.all (fun b => decide (b.toNat < 128)) = true ∧ s.size ≤ 1000000 ∧ cs.size ≤ 1000 ∧ v = T (Lib.trimS s.data.toList cs.data.toList) ∧ H' = H := by
    intro args H v H' h
    unfold trimP at h
    split at h
    · rename_i s cs
      split at h
      · rename_i hh
        simp only [Option.some.injEq, Prod.mk.injEq] at h
        exact ⟨s, cs, rfl, hh.1, hh.2.1, hh.2.2, h.1.symm, h.2.symm⟩
      · cases h
    · cases h
  refine ⟨sound_prim fun args H v H' h ρ w cargs R ha => ?_, fun args H v H' h => ?_⟩
  · obtain ⟨s, cs, rfl, ha1, hs, hcs, rfl, rfl⟩ := key _ _ _ _ h
    obtain ⟨x, y, rfl, h1, h2⟩ := rvs_two ha
    simp only [RV] at h1 h2
    subst h1 h2
    have hasc : ∀ (j : Nat) b, cs.data.toList[j]? = some b → b.toNat < 128 := fun j b hb => by
      rw [List.all_eq_true] at ha1
      exact of_decide_eq_true (ha1 b (List.mem_of_getElem? hb))
    refine (Any.strings_Trim_laid Tryd.lays160 (by kernel_rfl) s cs w (by omega) (by omega) hasc).mono fun e w' ⟨he, hB⟩ => ?_
    obtain ⟨r1, r2⟩ := below_ext R hB
    exact ⟨_, ρ, he, r1, by simp only [T, RV], r2⟩
  · obtain ⟨s, cs, rfl, ha1, hs, hcs, rfl, rfl⟩ := key _ _ _ _ h
    exact keeps_refl _
theorem prim_atoi : PrimOk 39 atoiP := by
  have key : ∀ args H v H', atoiP args H = some (v, H') → ∃ (s : ByteArray) (n : Int), args = [.s (.string s)] ∧ s.size ≤ 1000000 ∧ Lib.atoiAll s.data.toList = .ok n ∧ v = .tup [I n, .s .nilIface] ∧ H' = H := by
    intro args H v H' h
    unfold atoiP at h
    split at h
    · rename_i s
      split at h
      · rename_i hs
        split at h
        · rename_i n hn
          simp only [Option.some.injEq, Prod.mk.injEq] at h
          exact ⟨s, n, rfl, hs, hn, h.1.symm, h.2.symm⟩
        · cases h
      · cases h
    · cases h
  refine ⟨sound_prim fun args H v H' h ρ w cargs R ha => ?_, fun args H v H' h => ?_⟩
  · obtain ⟨s, n, rfl, hs, hn, rfl, rfl⟩ := key _ _ _ _ h
    obtain ⟨x, rfl, h1⟩ := rvs_one ha
    simp only [RV] at h1
    subst h1
    refine (Tryd.strconv_Atoi_ok s (by omega) n hn w).mono fun e w' ⟨he, hB⟩ => ?_
    have hB : Below w.heap.size w w' := by
      rcases hB with rfl | ⟨t, rfl⟩
      · exact Below.refl _ _
      · exact Lib.bytesWorld_below _ _ _
    obtain ⟨r1, r2⟩ := below_ext R hB
    refine ⟨_, ρ, he, r1, ?_, r2⟩
    simp only [RV]
    exact ⟨_, rfl, RVs_cons (by simp only [RV]) (RVs_cons (by simp only [RV]) RVs_nil)⟩
  · obtain ⟨s, n, rfl, hs, hn, rfl, rfl⟩ := key _ _ _ _ h
    exact keeps_refl _
theorem prim_itoa : PrimOk 73 itoaP := by
  have key : ∀ args H v H', itoaP args H = some (v, H') → ∃ n : Int, args = [I n] ∧ -9223372036854775808 ≤ n ∧ n ≤ 9223372036854775807 ∧ v = T (Lib.itoa n) ∧ H' = H := by
    intro args H v H' h
    unfold itoaP at h
    split at h
    · rename_i n
      split at h
      · rename_i hn
        simp only [Option.some.injEq, Prod.mk.injEq] at h
        exact ⟨n, rfl, hn.1, hn.2, h.1.symm, h.2.symm⟩
      · cases h
    · cases h
  refine ⟨sound_prim fun args H v H' h ρ w cargs R ha => ?_, fun args H v H' h => ?_⟩
  · obtain ⟨n, rfl, h1, h2, rfl, rfl⟩ := key _ _ _ _ h
    obtain ⟨x, rfl, h3⟩ := rvs_one ha
    simp only [RV] at h3
    subst h3
    refine (Tryd.strconv_Itoa n h1 h2 w R.gl.2.2).mono fun e w' ⟨he, k, os, hB⟩ => ?_
    have hB : Below w.heap.size w w' := by rw [hB]; exact Lib.below_grow _ _ (Nat.le_refl _) _ _
    obtain ⟨r1, r2⟩ := below_ext R hB
    exact ⟨_, ρ, he, r1, by simp only [T, RV], r2⟩
  · obtain ⟨n, rfl, h1, h2, rfl, rfl⟩ := key _ _ _ _ h
    exact keeps_refl _
theorem mapM_strs : ∀ (l : List AV) (ss : List Str), l.mapM strOf = some ss → l = ss.map T
  | [], ss, h => by simp at h; subst h; rfl
  | x :: l, ss, h => by
    simp only [List.mapM_cons, Option.bind_eq_bind, Option.bind_eq_some_iff, Option.pure_def, Option.some.injEq] at h
    obtain ⟨a, ha, r, hr, rfl⟩ := h
    rw [List.map_cons, ← mapM_strs l r hr]
    congr 1
    unfold strOf at ha
    split at ha
    · simp only [Option.some.injEq] at ha
      subst ha
      simp only [T]
    · cases ha
theorem prim_join : PrimOk 74 joinP := by
  have key : ∀ args H v H', joinP args H = some (v, H') → ∃ (r g off n cap : Nat) (ex : Bool) (sep : ByteArray) (ty : TypeId) (cells : List AV) (ss : List Str), args = [.sl r g off 1 n cap ex, .s (.string sep)] ∧ H.get r = .blk g ty cells ∧ off + n ≤ cells.length ∧ n ≤ 1000 ∧ (cells.drop off).take n = ss.map T ∧ (Lib.join ss sep.data.toList).length ≤ 1000000 ∧ v = T (Lib.join ss sep.data.toList) ∧ H' = H := by
    intro args H v H' h
    unfold joinP at h
    split at h
    · rename_i r g off n cap ex sep
      split at h
      · rename_i g' ty cells ho
        split at h
        · rename_i hh
          obtain ⟨rfl, h1, h2⟩ := hh
          split at h
          · rename_i ss hss
            split at h
            · rename_i hj
              simp only [Option.some.injEq, Prod.mk.injEq] at h
              exact ⟨r, g', off, n, cap, ex, sep, ty, cells, ss, rfl, ho, h1, h2, mapM_strs _ _ hss, hj, h.1.symm, h.2.symm⟩
            · cases h
          · cases h
        · cases h
      · cases h
    · cases h
  refine ⟨sound_prim fun args H v H' h ρ w cargs R ha => ?_, fun args H v H' h => ?_⟩
  · obtain ⟨r, g, off, n, cap, ex, sep, ty, cells, ss, rfl, ho, h1, h2, h3, h4, rfl, rfl⟩ := key _ _ _ _ h
    obtain ⟨x, y, rfl, h5, h6⟩ := rvs_two ha
    simp only [RV] at h6
    subst h6
    simp only [RV] at h5
    obtain ⟨b, o, c, rfl, q1, q2, q3, q4, q5⟩ := h5
    have hg : H'.gen r = g := by simp [AHeap.gen, ho, AObj.gen]
    obtain ⟨sh, e, m, p1, p2, p3, p4⟩ := q5 hg
    have hobj := R.obj r b sh p1
    simp only [RObj, ho] at hobj
    obtain ⟨cs, e', o1, o2, o3, _⟩ := hobj
    have hlen : ss.length = n := by
      have := congrArg List.length h3
      rw [List.length_take, List.length_drop, List.length_map] at this
      omega
    have hcell : ∀ (j : Nat) x, (ss.map fun s => (⟨s.toArray⟩ : ByteArray))[j]? = some x → w.cell? ⟨b, o + j, none⟩ = some (.string x) := by
      intro j x hx
      rw [List.getElem?_map] at hx
      obtain ⟨s, hs, rfl⟩ := Option.map_eq_some_iff.1 hx
      have hjn : j < n := by rw [← hlen]; exact (List.getElem?_eq_some_iff.1 hs).1
      have ho' : o = sh + off := p2 (by omega)
      have hc : cells[off + j]? = some (T s) := by
        have := congrArg (·[j]?) h3
        simp only [List.getElem?_take, if_pos hjn, List.getElem?_drop, List.getElem?_map, hs, Option.map_some] at this
        exact this
      obtain ⟨v, hv, hr⟩ := RVc_get o3 hc
      simp only [T, RV] at hr
      subst hr
      rw [ho', Nat.add_assoc]; exact hv
    have hb : b < w.heap.size := R.block p1
    have hj : (ss.map fun s => (⟨s.toArray⟩ : ByteArray)).map (·.data.toList) = ss := by
      rw [List.map_map]
      conv => rhs; rw [← List.map_id ss]
      apply List.map_congr_left
      intro a _; simp
    have := Tryd.strings_Join b o c (ss.map fun s => (⟨s.toArray⟩ : ByteArray)) sep w hcell hb (by rw [List.length_map]; omega) (by rw [List.length_map]; omega) (by rw [hj]; omega)
    rw [List.length_map, hlen, hj] at this
    refine this.mono fun e w' ⟨he, hB⟩ => ?_
    obtain ⟨r1, r2⟩ := below_ext R hB
    exact ⟨_, ρ, he, r1, by simp only [T, RV], r2⟩
  · obtain ⟨r, g, off, n, cap, ex, sep, ty, cells, ss, rfl, ho, h1, h2, h3, h4, rfl, rfl⟩ := key _ _ _ _ h
    exact keeps_refl _

end Go.Proofs.YtjmldnpdfnklcaaDoor

namespace Go.Proofs.YtjmldnpdfnklcaaDoor

open Go.RowKit
theorem setCell_blk {w : World} {b o : Nat} {cs : Array Value} {e : TypeId} {v : Value} (hb : w.heap[b]? = some (.cells cs e (0, 0))) : w.setCell ⟨b, o, none⟩ v = setBlk w b (.cells (cs.setIfInBounds o v) e (0, 0)) := by
  have hlt := lt_of_heap hb
  simp only [World.setCell, setBlk]
  congr 1
  apply Array.ext_getElem?
  intro i
  rw [Array.getElem?_modify]
  by_cases hi : b = i
  · subst hi
    rw [hb]
    simp [hlt]
  · simp [hi, Array.getElem?_setIfInBounds_ne hi]
theorem prim_copyCheck : PrimOk 75 (copyP 84) := by
  have key : ∀ args H v H', copyP 84 args H = some (v, H') → ∃ (r : Nat) (p x : AV), args = [.ref r 0 0] ∧ H.get r = .blk 0 84 [p, x] ∧ 84 < tagB ∧ H.base ≤ r ∧ v = .tup [] ∧
      ((p = .s (.pointer none) ∧ H' = H.put r (.blk 0 84 [.ref r 0 0, x])) ∨ (p = .ref r 0 0 ∧ H' = H)) := by
    intro args H v H' h
    unfold copyP at h
    split at h
    · rename_i r
      split at h
      · rename_i ty p x ho
        split at h
        · rename_i hh
          obtain ⟨rfl, h1, h2, h3⟩ := hh
          split at h
          · simp only [Option.some.injEq, Prod.mk.injEq] at h
            exact ⟨r, _, x, rfl, ho, h1, h2, h.1.symm, .inl ⟨rfl, h.2.symm⟩⟩
          · split at h
            · rename_i e
              subst e
              simp only [Option.some.injEq, Prod.mk.injEq] at h
              exact ⟨_, _, x, rfl, ho, h1, h2, h.1.symm, .inr ⟨rfl, h.2.symm⟩⟩
            · cases h
          · cases h
        · cases h
      · cases h
    · cases h
  refine ⟨sound_prim fun args H v H' h ρ w cargs R ha => ?_, fun args H v H' h => ?_⟩
  · obtain ⟨r, p, x, rfl, ho, ht, hb, rfl, hcase⟩ := key _ _ _ _ h
    obtain ⟨c, rfl, h1⟩ := rvs_one ha
    simp only [RV] at h1
    obtain ⟨a, rfl, g1, g2⟩ := h1
    obtain ⟨b, sh, hr, rfl⟩ := g2 (by simp [AHeap.gen, ho, AObj.gen])
    have hobj := R.obj r b sh hr
    simp only [RObj, ho] at hobj
    obtain ⟨cs, e, hbk, hz, hcc, hX⟩ := hobj
    obtain ⟨rfl, rfl, hsz⟩ := hX.1 ht
    have hsz : cs.size = 2 := by simpa using hsz
    simp only [RVc] at hcc
    obtain ⟨⟨v0, c0, r0⟩, ⟨v1, c1, r1⟩, _⟩ := hcc
    rcases hcase with ⟨rfl, rfl⟩ | ⟨rfl, rfl⟩
    · simp only [RV] at r0
      subst r0
      refine (Any.Builder_copyCheck_fresh ({ Tryd.lays156 with } : Go.Proofs.Lays.n240 Tryd.prog Tryd.lays156_ren) Tryd.Builder_Extra_156.toX72 b w c0 (by rw [shape?_eq, hbk]; simp [oshape, hsz]; rfl) (by simp [World.frozen?, hbk])).mono fun e w' ⟨he, hw⟩ => ?_
      have hput := put_blk (hX := Xct.low ht (by simpa using hsz)) (ty' := 84) (cells' := [.ref r 0 0, x]) (cs' := cs.setIfInBounds 0 (.pointer (some ⟨b, 0, none⟩))) (g' := 0) (sh' := 0) R hr hbk (by simp) (by simp [AHeap.gen, ho, AObj.gen]) (fun _ => rfl)
        (by simp [hsz]) (by
          intro i u hu
          match i, hu with
          | 0, hu =>
            simp only [List.getElem?_cons_zero, Option.some.injEq] at hu
            subst hu
            refine ⟨.pointer (some ⟨b, 0, none⟩), by simp [hsz], ?_⟩
            simp only [RV]
            exact ⟨_, rfl, Nat.zero_le _, fun _ => ⟨b, 0, hr, rfl⟩⟩
          | 1, hu =>
            simp only [List.getElem?_cons_succ, List.getElem?_cons_zero, Option.some.injEq] at hu
            subst hu
            rw [Lib.cell_of_heap hbk] at c1
            exact ⟨v1, by simpa using c1, r1⟩)
      have hse : w.setCell ⟨b, 0, none⟩ (.pointer (some ⟨b, 0, none⟩)) = setBlk w b (.cells (cs.setIfInBounds 0 (.pointer (some ⟨b, 0, none⟩))) 84 (0, 0)) := setCell_blk hbk
      refine ⟨_, _, he, by rw [hw, hse]; exact hput.1, ?_, by rw [hw, hse]; exact hput.2⟩
      simp only [RV]
      exact ⟨_, rfl, RVs_nil⟩
    · simp only [RV] at r0
      obtain ⟨a, rfl, _, g3⟩ := r0
      obtain ⟨b', sh', hr', rfl⟩ := g3 (by simp [AHeap.gen, ho, AObj.gen])
      rw [hr] at hr'
      cases hr'
      refine (Any.Builder_copyCheck_used ({ Tryd.lays156 with } : Go.Proofs.Lays.n240 Tryd.prog Tryd.lays156_ren) Tryd.Builder_Extra_156.toX72 b w c0).mono fun e w' ⟨he, hw⟩ => ?_
      refine ⟨_, ρ, he, by rw [hw]; exact R, ?_, by rw [hw]; exact Ext.refl _ _ _⟩
      simp only [RV]
      exact ⟨_, rfl, RVs_nil⟩
  · obtain ⟨r, p, x, rfl, ho, ht, hb, rfl, hcase⟩ := key _ _ _ _ h
    rcases hcase with ⟨rfl, rfl⟩ | ⟨rfl, rfl⟩
    · exact Keeps.put _ hb
    · exact keeps_refl _
/-- A named row is lost. -/
theorem lose_ok {ρ : Ren} {H : AHeap} {w w' : World} (R : Rel ρ H w) {r b sh g' : Nat} {ty : TypeId} {cells : List AV} (hr : ρ r = some (b, sh)) (hg : H.gen r < g') (hsz : w'.heap.size = w.heap.size)
    (ho : ∀ b', b' ≠ b → w'.heap[b']? = w.heap[b']?) (hsh : w'.shape? b = w.shape? b) (h1 : w'.os = w.os) (h2 : w'.tape = w.tape) (h3 : w'.output = w.output) :
    Rel (fun x => if x = r then none else ρ x) (H.put r (.blk g' ty cells)) w' ∧ Ext ρ H w (fun x => if x = r then none else ρ x) (H.put r (.blk g' ty cells)) w' := by
  have E : Ext ρ H w (fun x => if x = r then none else ρ x) (H.put r (.blk g' ty cells)) w' := by
    refine ⟨Nat.le_refl _, fun x => ?_, fun x y hx h => ?_, fun x _ h => ?_, fun x b' s h => ?_, Nat.le_of_eq hsz.symm, fun b' _ hi => ho b' fun e => hi r sh (e ▸ hr), fun b' _ => ?_, h1, h2, h3⟩
    · rw [put_gen]; split
      · rename_i e; subst e; exact Nat.le_of_lt hg
      · exact Nat.le_refl _
    · rw [put_gen] at h
      try simp only
      split
      · rename_i e
        rw [if_pos e] at h
        subst e
        simp only [AObj.gen] at h
        omega
      · exact hx
    · try simp only
      split
      · rfl
      · exact h
    · try simp only at h
      split at h
      · cases h
      · exact .inr ⟨_, h⟩
    · by_cases e : b' = b
      · subst e; exact hsh
      · rw [shape?_eq, shape?_eq, ho b' e]
  refine ⟨⟨fun x hx => ?_, fun x b' s h => ?_, fun x y b' s s' h h' => ?_, R.gl.ext E⟩, E⟩
  · have hne : x ≠ r := fun e => by have := R.lt hr; subst e; exact absurd hx (by simpa [AHeap.put] using this)
    rw [put_gen, if_neg hne]
    simp only [if_neg hne]
    exact R.out x hx
  · try simp only at h
    split at h
    · cases h
    · rename_i e
      have hne : b' ≠ b := fun e' => e (R.inj x r b' s sh h (e' ▸ hr))
      have : (H.put r (.blk g' ty cells)).get x = H.get x := by simp [AHeap.put, e]
      rw [this]
      exact RObj.mono E.toMono (ho b' hne) (R.obj x b' s h)
  · try simp only at h h'
    split at h
    · cases h
    · split at h'
      · cases h'
      · exact R.inj _ _ _ _ _ h h'
theorem freeze_other (w : World) (g o n b : Nat) (h : b ≠ g) : (w.freeze ⟨g, o, none⟩ n).heap[b]? = w.heap[b]? := by
  unfold World.freeze
  split
  · rfl
  · simp only
    rw [Array.getElem?_modify, if_neg (Ne.symm h)]
theorem freeze_shape (w : World) (g o n : Nat) : (w.freeze ⟨g, o, none⟩ n).shape? g = w.shape? g := by
  rw [shape?_eq, shape?_eq]
  unfold World.freeze
  split
  · rfl
  · simp only
    rw [Array.getElem?_modify, if_pos rfl]
    cases w.heap[g]? with
    | none => rfl
    | some o => cases o <;> rfl
theorem freeze_size (w : World) (a : Addr) (n : Nat) : (w.freeze a n).heap.size = w.heap.size := by
  unfold World.freeze
  split
  · rfl
  · simp
theorem freeze_rest (w : World) (a : Addr) (n : Nat) : (w.freeze a n).os = w.os ∧ (w.freeze a n).tape = w.tape ∧ (w.freeze a n).output = w.output := by
  unfold World.freeze
  split <;> exact ⟨rfl, rfl, rfl⟩
section
variable {P : Program} {ν : Go.Shelf.Ren}
set_option maxHeartbeats 2000000 in
set_option maxRecDepth 100000 in
/-- A builder's text is taken: the very world behind it. -/
theorem string_run (L : Go.Proofs.Lays.n169 P ν) (X : Builder.Extra P ν) (b g cap m : Nat) (l : List UInt8) (w : World) (h0 : l ≠ []) (hcap : l.length ≤ cap) (c0 : w.cell? ⟨b, 1, none⟩ = some (.slice (some ⟨g, 0, none⟩) l.length cap))
    (hsh : w.shape? g = some (ν.t 5, m)) (hm : l.length ≤ m) (h63 : l.length ≤ 1000000000) (hcell : ∀ (j : Nat) (x : UInt8), l[j]? = some x → w.cell? ⟨g, j, none⟩ = some (.int .u8 x.toNat)) :
    Calls P (ν.f 169) #[.pointer (some ⟨b, 0, none⟩)] w fun e w' => e = .returned (.string ⟨l.toArray⟩) ∧ w' = w.drew.freeze ⟨g, 0, none⟩ l.length := by
  have hl0 : l.length ≠ 0 := by simpa using h0
  have c1 : w.drew.cell? ⟨b, 1, none⟩ = some (.slice (some ⟨g, 0, none⟩) l.length cap) := c0
  have hSD : (Builtin.unsafeSliceData_ #[(ν.t 37)] (ν.t 127) #[.slice (some ⟨g, 0, none⟩) l.length cap]).run P w.drew = .ok (.pointer (some ⟨g, 0, none⟩)) w.drew :=
    Lib.run_unsafeSliceData_row _ _ _ _ _ _ (by omega)
  have hUS : (Builtin.unsafeString_ #[(ν.t 127), (ν.t 3)] (ν.t 9) #[.pointer (some ⟨g, 0, none⟩), .int .i64 l.length]).run P w.drew = .ok (.string ⟨l.toArray⟩) (w.drew.freeze ⟨g, 0, none⟩ l.length) := by
    refine Lib.run_unsafeString_row w.drew (ν.t 127) (ν.t 3) (ν.t 9) (ν.t 5) L.t127 X.cellsByte g m hsh l h0 hm (by omega) fun j x hx => ?_
    rw [Addr.add_lit, Nat.zero_add]
    exact hcell j x hx
  have mixed := L.mixed
  have t72 := L.t72; have a72 := L.a72; have z72 := L.z72; have v72 := L.v72; have u72 := run_underlying L.t72
  have t70 := L.t70; have a70 := L.a70; have z70 := L.z70; have v70 := L.v70; have u70 := run_underlying L.t70
  have t37 := L.t37; have a37 := L.a37; have z37 := L.z37; have v37 := L.v37; have u37 := run_underlying L.t37
  have t127 := L.t127; have a127 := L.a127; have z127 := L.z127; have v127 := L.v127; have u127 := run_underlying L.t127
  have t3 := L.t3; have a3 := L.a3; have z3 := L.z3; have v3 := L.v3; have u3 := run_underlying L.t3
  have t9 := L.t9; have a9 := L.a9; have z9 := L.z9; have v9 := L.v9; have u9 := run_underlying L.t9
  have t5 := X.t5; have a5 := X.a5; have z5 := X.z5; have v5 := X.v5; have u5 := run_underlying X.t5
  go_enter L.f169, Body.n169_ntmps ν
  go_wp2
  go_region_o
  all_goals (go_wp2; go_ret; exact ⟨rfl, rfl⟩)
set_option maxHeartbeats 2000000 in
set_option maxRecDepth 100000 in
/-- A builder without a buffer has no text. -/
theorem string_run_nil (L : Go.Proofs.Lays.n169 P ν) (X : Builder.Extra P ν) (b : Nat) (w : World) (c0 : w.cell? ⟨b, 1, none⟩ = some (.slice none 0 0)) :
    Calls P (ν.f 169) #[.pointer (some ⟨b, 0, none⟩)] w fun e w' => e = .returned (.string ⟨#[]⟩) ∧ w' = w.drew := by
  have hUS := Any.unsafeString_none L X
  have c1 : w.drew.cell? ⟨b, 1, none⟩ = some (.slice none 0 0) := c0
  have hSD : (Builtin.unsafeSliceData_ #[(ν.t 37)] (ν.t 127) #[.slice none 0 0]).run P w.drew = .ok (.pointer none) w.drew := rfl
  have mixed := L.mixed
  have t72 := L.t72; have a72 := L.a72; have z72 := L.z72; have v72 := L.v72; have u72 := run_underlying L.t72
  have t70 := L.t70; have a70 := L.a70; have z70 := L.z70; have v70 := L.v70; have u70 := run_underlying L.t70
  have t37 := L.t37; have a37 := L.a37; have z37 := L.z37; have v37 := L.v37; have u37 := run_underlying L.t37
  have t127 := L.t127; have a127 := L.a127; have z127 := L.z127; have v127 := L.v127; have u127 := run_underlying L.t127
  have t3 := L.t3; have a3 := L.a3; have z3 := L.z3; have v3 := L.v3; have u3 := run_underlying L.t3
  have t9 := L.t9; have a9 := L.a9; have z9 := L.z9; have v9 := L.v9; have u9 := run_underlying L.t9
  have t5 := X.t5; have a5 := X.a5; have z5 := X.z5; have v5 := X.v5; have u5 := run_underlying X.t5
  go_enter L.f169, Body.n169_ntmps ν
  go_wp2
  go_region_o
  all_goals (go_wp2; go_ret; exact ⟨rfl, rfl⟩)
end
theorem mapM_bytes : ∀ (l : List AV) (bs : Str), l.mapM byteOf = some bs → l = bs.map U8
  | [], ss, h => by simp at h; subst h; rfl
  | x :: l, ss, h => by
    simp only [List.mapM_cons, Option.bind_eq_bind, Option.bind_eq_some_iff, Option.pure_def, Option.some.injEq] at h
    obtain ⟨a, ha, r, hr, rfl⟩ := h
    rw [List.map_cons, ← mapM_bytes l r hr]
    congr 1
    unfold byteOf at ha
    split at ha
    · rename_i n
      split at ha
      · rename_i hn
        simp only [Option.some.injEq] at ha
        subst ha
        simp only [U8, AV.s.injEq, Value.int.injEq, true_and]
        rw [UInt8.toNat_ofNat']
        omega
      · cases ha
    · cases ha
theorem prim_string : PrimOk 48 (stringP 84 5) := by
  have key : ∀ args H v H', stringP 84 5 args H = some (v, H') → ∃ (r : Nat) (p : AV), args = [.ref r 0 0] ∧
      ((H.get r = .blk 0 84 [p, zN] ∧ v = T [] ∧ H' = H) ∨
       ∃ (r2 g len cap : Nat) (ex : Bool) (cells : List AV) (bs : Str), H.get r = .blk 0 84 [p, .sl r2 g 0 1 len cap ex] ∧ H.get r2 = .blk g (5 + tagB) cells ∧ len ≠ 0 ∧ len ≤ 1000000000 ∧ len ≤ cells.length ∧ H.base ≤ r2 ∧ cells.take len = bs.map U8 ∧ v = T bs ∧ H' = H.put r2 (.blk (g + 1) 0 [])) := by
    intro args H v H' h
    unfold stringP at h
    split at h
    · rename_i r
      split at h
      · rename_i ty p ho
        split at h
        · rename_i hh
          subst hh
          simp only [Option.some.injEq, Prod.mk.injEq] at h
          exact ⟨r, p, rfl, .inl ⟨ho, h.1.symm, h.2.symm⟩⟩
        · cases h
      · rename_i ty p r2 g len cap ex ho
        split at h
        · rename_i g' ty2 cells ho2
          split at h
          · rename_i hh
            obtain ⟨rfl, rfl, rfl, h1, h2, h3, h4⟩ := hh
            split at h
            · rename_i bs hbs
              simp only [Option.some.injEq, Prod.mk.injEq] at h
              exact ⟨r, p, rfl, .inr ⟨r2, g', len, cap, ex, cells, bs, ho, ho2, h1, h2, h3, h4, mapM_bytes _ _ hbs, h.1.symm, h.2.symm⟩⟩
            · cases h
          · cases h
        · cases h
      · cases h
    · cases h
  refine ⟨sound_prim fun args H v H' h ρ w cargs R ha => ?_, fun args H v H' h => ?_⟩
  · obtain ⟨r, p, rfl, hcase⟩ := key _ _ _ _ h
    obtain ⟨c, rfl, h1⟩ := rvs_one ha
    simp only [RV] at h1
    obtain ⟨a, rfl, g1, g2⟩ := h1
    rcases hcase with ⟨ho, rfl, rfl⟩ | ⟨r2, g, len, cap, ex, cells, bs, ho, ho2, k1, k2, k3, k4, k5, rfl, rfl⟩
    · obtain ⟨b, sh, hr, rfl⟩ := g2 (by simp [AHeap.gen, ho, AObj.gen])
      have hobj := R.obj r b sh hr
      simp only [RObj, ho] at hobj
      obtain ⟨cs, e, hbk, hz, hcc, hX⟩ := hobj
      obtain ⟨rfl, rfl, hsz⟩ := hX.1 (by decide)
      simp only [RVc] at hcc
      obtain ⟨⟨v0, c0, r0⟩, ⟨v1, c1, r1⟩, _⟩ := hcc
      simp only [RV] at r1
      subst r1
      refine (string_run_nil ({ Tryd.lays156 with } : Go.Proofs.Lays.n169 Tryd.prog Tryd.lays156_ren) Tryd.Builder_Extra_156 b w c1).mono fun e w' ⟨he, hw⟩ => ?_
      exact ⟨_, ρ, he, by rw [hw]; exact R.drew, by simp only [T, RV], by rw [hw]; exact Ext.drew _ _ _⟩
    · obtain ⟨b, sh, hr, rfl⟩ := g2 (by simp [AHeap.gen, ho, AObj.gen])
      have hobj := R.obj r b sh hr
      simp only [RObj, ho] at hobj
      obtain ⟨cs, e, hbk, hz, hcc, hX⟩ := hobj
      obtain ⟨rfl, rfl, hsz⟩ := hX.1 (by decide)
      simp only [RVc] at hcc
      obtain ⟨⟨v0, c0, r0⟩, ⟨v1, c1, r1⟩, _⟩ := hcc
      simp only [RV] at r1
      obtain ⟨b2, o, cc, rfl, q1, q2, q3, q4, q5⟩ := r1
      have hgen : H.gen r2 = g := by simp [AHeap.gen, ho2, AObj.gen]
      obtain ⟨sh2, e2, n2, p1, p2, p3, p4⟩ := q5 hgen
      have hobj2 := R.obj r2 b2 sh2 p1
      simp only [RObj, ho2] at hobj2
      obtain ⟨cs2, e2', o1, o2, o3, o4⟩ := hobj2
      obtain ⟨o5, rfl⟩ := o4.2 (Nat.le_add_left _ _) (by decide)
      have o5 : e2' = 5 := (Nat.add_right_cancel o5).symm
      subst o5
      have hc0 : 0 < cc := Nat.lt_of_lt_of_le (Nat.pos_of_ne_zero k1) (Nat.le_trans q1 q2)
      obtain rfl : o = 0 := p2 hc0
      rw [shape?_eq, o1] at p3
      simp only [Option.bind_some, oshape, Option.some.injEq, Prod.mk.injEq] at p3
      obtain ⟨rfl, rfl⟩ := p3
      have hlen : bs.length = len := by
        have := congrArg List.length k5
        rw [List.length_take, List.length_map] at this
        omega
      subst hlen
      refine (string_run ({ Tryd.lays156 with } : Go.Proofs.Lays.n169 Tryd.prog Tryd.lays156_ren) Tryd.Builder_Extra_156 b b2 cc cs2.size bs w (fun e => k1 (by rw [e]; rfl)) (Nat.le_trans q1 q2) c1 (by rw [shape?_eq, o1]; rfl) (Nat.le_trans k3 (by rw [Nat.zero_add] at o2; exact o2)) k2 (fun j x hx => ?_)).mono fun e w' ⟨he, hw⟩ => ?_
      · have hj := (List.getElem?_eq_some_iff.1 hx).1
        have hc : cells[j]? = some (U8 x) := by
          have := congrArg (·[j]?) k5
          simp only [List.getElem?_take, if_pos hj, List.getElem?_map, hx, Option.map_some] at this
          exact this
        obtain ⟨v, hv, hr'⟩ := RVc_get o3 hc
        simp only [RV] at hr'
        subst hr'
        rw [Nat.zero_add] at hv
        exact hv
      · have hlo := lose_ok (w' := w.drew.freeze ⟨b2, 0, none⟩ bs.length) (g' := g + 1) (ty := 0) (cells := []) R p1 (by rw [hgen]; exact Nat.lt_succ_self g) (by rw [freeze_size]; rfl) (fun b' hb' => by rw [freeze_other _ _ _ _ _ hb']; rfl) (by rw [freeze_shape]; rfl) (freeze_rest _ _ _).1 (freeze_rest _ _ _).2.1 (freeze_rest _ _ _).2.2
        exact ⟨_, _, he, by rw [hw]; exact hlo.1, by simp only [T, RV], by rw [hw]; exact hlo.2⟩
  · obtain ⟨r, p, rfl, hcase⟩ := key _ _ _ _ h
    rcases hcase with ⟨ho, rfl, rfl⟩ | ⟨r2, g, len, cap, ex, cells, bs, ho, ho2, k1, k2, k3, k4, k5, rfl, rfl⟩
    · exact keeps_refl _
    · exact Keeps.put _ k4

end Go.Proofs.YtjmldnpdfnklcaaDoor

namespace Go.Proofs.YtjmldnpdfnklcaaDoor

open Go.RowKit
theorem primsOk : ∀ x ∈ prims, PrimOk x.1 x.2 := by
  unfold prims
  refine List.forall_mem_cons.2 ⟨prim_split, ?_⟩
  refine List.forall_mem_cons.2 ⟨prim_trim, ?_⟩
  refine List.forall_mem_cons.2 ⟨prim_atoi, ?_⟩
  refine List.forall_mem_cons.2 ⟨prim_itoa, ?_⟩
  refine List.forall_mem_cons.2 ⟨prim_join, ?_⟩
  refine List.forall_mem_cons.2 ⟨prim_copyCheck, ?_⟩
  refine List.forall_mem_cons.2 ⟨prim_string, ?_⟩
  refine List.forall_mem_cons.2 ⟨⟨fun f args H v H' h => ?_, fun args H v H' h => (by cases h)⟩, fun x hx => (by cases hx)⟩
  simp only at h
  split at h <;> cases h
theorem lookup_mem {α : Type} {f : Nat} {p : α} : ∀ {l : List (Nat × α)}, l.lookup f = some p → (f, p) ∈ l
  | [], h => by cases h
  | (k, q) :: l, h => by
    rw [List.lookup_cons] at h
    split at h
    · rename_i e
      cases h
      rw [beq_iff_eq] at e
      subst e
      simp
    · exact List.mem_cons_of_mem _ (lookup_mem h)
theorem polTx : PolOk Tryd.prog pol := fun f p h => primsOk (f, p) (lookup_mem h)

end Go.Proofs.YtjmldnpdfnklcaaDoor

namespace Go.Proofs.YtjmldnpdfnklcaaDoor

open Go.ChangeShapes Go.WideShapes Go.ChangeAt Go.RowKit
theorem polOk : PolOk Tryd.prog pol :=
  polTx
theorem z_own : ownKnob Tryd.prog.godebug = none := by kernel_rfl
theorem z_laid : laidOutB Tryd.prog = true := by kernel_rfl
theorem z_mixed : Tryd.prog.follows .mixedOrders = true := by kernel_rfl
set_option maxRecDepth 100000 in
theorem z_ints {H : Type} {enc : TypeId × Value → H} {W : World} {r : Reach} {b0 base : Nat} {sp : Nat → Bool} {held : Bool} {v : Value} {d : DataW H} {ps : List MemPlace} (hval : Value.okWide Tryd.prog W r b0 22 v) (h : DataW.Trod enc Tryd.prog W base sp held 22 v d ps) :
    ∃ (x : AV) (zs : List Int), RV ρ0 G0 W x v ∧ IntsOf .i64 x zs :=
  open_slice Tryd.underlying22 Tryd.underlying3 (by kernel_rfl) hval h
set_option maxRecDepth 100000 in
theorem z_choF : FlatT Tryd.prog 89 choK := by
  refine flat_struct Tryd.underlying89 (by kernel_rfl) rfl fun i f k h1 h2 => ?_
  match i, h1, h2 with
  | 0, h1, h2 => simp at h1 h2; subst h1; subst h2; exact ⟨Tryd.underlying3, rfl, by kernel_rfl⟩
  | 1, h1, h2 => simp at h1 h2; subst h1; subst h2; exact ⟨Tryd.underlying3, rfl, by kernel_rfl⟩
  | 2, h1, h2 => simp at h1 h2; subst h1; subst h2; exact ⟨Tryd.underlying3, rfl, by kernel_rfl⟩
  | 3, h1, h2 => simp at h1 h2; subst h1; subst h2; exact ⟨Tryd.underlying50, rfl, by kernel_rfl⟩
  | i + 4, h1, h2 => simp at h2
set_option maxRecDepth 100000 in
theorem z_choices {H : Type} {enc : TypeId × Value → H} {W : World} {r : Reach} {b0 base : Nat} {sp : Nat → Bool} {held : Bool} {v : Value} {d : DataW H} {ps : List MemPlace} (hval : Value.okWide Tryd.prog W r b0 56 v) (h : DataW.Trod enc Tryd.prog W base sp held 56 v d ps) :
    ∃ (x : AV) (cs : List Cho), RV ρ0 G0 W x v ∧ ChosOf x cs :=
  open_choices Tryd.underlying56 (by kernel_rfl) z_choF hval h

end Go.Proofs.YtjmldnpdfnklcaaDoor

