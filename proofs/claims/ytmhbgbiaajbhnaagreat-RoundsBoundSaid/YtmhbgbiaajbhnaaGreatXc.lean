/-
  Own work: an interpreter over named blocks, its soundness, and what the functions of this seat compute (part 3 of 5).
  Conditions: those of the statement alone.
-/
import Derived.Test.YtmhbgbiaajbhnaaGreatProg
import Derived.KernelRfl
import Derived.Test.YtmhbgbiaajbhnaaGreatXb
set_option linter.all false
set_option linter.unusedSectionVars false
set_option linter.unusedVariables false
set_option linter.unusedSimpArgs false
set_option maxRecDepth 100000
namespace Go.Proofs.YtmhbgbiaajbhnaaGreat

noncomputable abbrev bi (op : BinOp) (t : TypeId) (x y : AV) : Option AV := binA Tryz.prog op t x y
noncomputable abbrev un (op : UnOp) (x : AV) : Option AV := unA Tryz.prog op x
noncomputable abbrev cv (s d : TypeId) (x : AV) : AM AV := convertA Tryz.prog s d x
noncomputable abbrev bd (t : TypeId) (ps : List (Nat × AV)) : Option AV := buildA Tryz.prog t ps
noncomputable abbrev bs (t : TypeId) (n : Nat) (ps : List (Nat × AV)) : AM AV := buildSliceA Tryz.prog t n ps
theorem bs_22 {n : Nat} {ps : List (Nat × AV)} {H : AHeap} (h : n * 1 ≤ 16777216) : buildSliceA Tryz.prog 22 n ps H = bsl 3 1 [zI] n ps H := bsl_of (by kernel_rfl) (by kernel_rfl) (by kernel_rfl) rfl h
theorem bs_28 {n : Nat} {ps : List (Nat × AV)} {H : AHeap} (h : n * 1 ≤ 16777216) : buildSliceA Tryz.prog 28 n ps H = bsl 30 1 [zN] n ps H := bsl_of (by kernel_rfl) (by kernel_rfl) (by kernel_rfl) rfl h
theorem bs_30 {n : Nat} {ps : List (Nat × AV)} {H : AHeap} (h : n * 3 ≤ 16777216) : buildSliceA Tryz.prog 30 n ps H = bsl 38 3 [zI, zI, zI] n ps H := bsl_of (by kernel_rfl) (by kernel_rfl) (by kernel_rfl) rfl h
theorem bs_51 {n : Nat} {ps : List (Nat × AV)} {H : AHeap} (h : n * 1 ≤ 16777216) : buildSliceA Tryz.prog 51 n ps H = bsl 54 1 [zP] n ps H := bsl_of (by kernel_rfl) (by kernel_rfl) (by kernel_rfl) rfl h
theorem bs_64 {n : Nat} {ps : List (Nat × AV)} {H : AHeap} (h : n * 4 ≤ 16777216) : buildSliceA Tryz.prog 64 n ps H = bsl 74 4 [zP, zP, zP, zP] n ps H := bsl_of (by kernel_rfl) (by kernel_rfl) (by kernel_rfl) rfl h
theorem bs_124 {n : Nat} {ps : List (Nat × AV)} {H : AHeap} (h : n * 2 ≤ 16777216) : buildSliceA Tryz.prog 124 n ps H = bsl 72 2 [zP, zP] n ps H := bsl_of (by kernel_rfl) (by kernel_rfl) (by kernel_rfl) rfl h
def pl_26 : Nat → Option (Nat × Nat)
  | 0 => some (0, 1)
  | 1 => some (1, 1)
  | 2 => some (2, 1)
  | 3 => some (3, 1)
  | 4 => some (4, 1)
  | 5 => some (5, 1)
  | 6 => some (6, 1)
  | 7 => some (7, 1)
  | _ => none
theorem bd_26 {ps : List (Nat × AV)} : buildA Tryz.prog 26 ps = bldA pl_26 [zI, zI, zI, zI, zI, zI, zI, zN] ps := bld_of (by kernel_rfl) Tryz.underlying26 (by kernel_rfl) (by funext i; rcases i with _ | _ | _ | _ | _ | _ | _ | _ | i <;> kernel_rfl)
def pl_38 : Nat → Option (Nat × Nat)
  | 0 => some (0, 1)
  | 1 => some (1, 1)
  | 2 => some (2, 1)
  | _ => none
theorem bd_38 {ps : List (Nat × AV)} : buildA Tryz.prog 38 ps = bldA pl_38 [zI, zI, zI] ps := bld_of (by kernel_rfl) Tryz.underlying38 (by kernel_rfl) (by funext i; rcases i with _ | _ | _ | i <;> kernel_rfl)
def pl_53 : Nat → Option (Nat × Nat)
  | 0 => some (0, 1)
  | 1 => some (1, 1)
  | 2 => some (2, 8)
  | 3 => some (10, 1)
  | _ => none
theorem bd_53 {ps : List (Nat × AV)} : buildA Tryz.prog 53 ps = bldA pl_53 [zP, zP, zI, zI, zI, zI, zI, zI, zI, zN, zN] ps := bld_of (by kernel_rfl) Tryz.underlying53 (by kernel_rfl) (by funext i; rcases i with _ | _ | _ | _ | i <;> kernel_rfl)
def pl_66 : Nat → Option (Nat × Nat)
  | 0 => some (0, 1)
  | _ => none
theorem bd_66 {ps : List (Nat × AV)} : buildA Tryz.prog 66 ps = bldA pl_66 [zN] ps := bld_of (by kernel_rfl) Tryz.underlying66 (by kernel_rfl) (by funext i; rcases i with _ | i <;> kernel_rfl)
def pl_72 : Nat → Option (Nat × Nat)
  | 0 => some (0, 1)
  | 1 => some (1, 1)
  | _ => none
theorem bd_72 {ps : List (Nat × AV)} : buildA Tryz.prog 72 ps = bldA pl_72 [zP, zP] ps := bld_of (by kernel_rfl) Tryz.underlying72 (by kernel_rfl) (by funext i; rcases i with _ | _ | i <;> kernel_rfl)
def pl_74 : Nat → Option (Nat × Nat)
  | 0 => some (0, 2)
  | 1 => some (2, 2)
  | _ => none
theorem bd_74 {ps : List (Nat × AV)} : buildA Tryz.prog 74 ps = bldA pl_74 [zP, zP, zP, zP] ps := bld_of (by kernel_rfl) Tryz.underlying74 (by kernel_rfl) (by funext i; rcases i with _ | _ | i <;> kernel_rfl)
def pl_77 : Nat → Option (Nat × Nat)
  | 0 => some (0, 1)
  | _ => none
theorem bd_77 {ps : List (Nat × AV)} : buildA Tryz.prog 77 ps = bldA pl_77 [zN] ps := bld_of (by kernel_rfl) Tryz.underlying77 (by kernel_rfl) (by funext i; rcases i with _ | i <;> kernel_rfl)
def pl_85 : Nat → Option (Nat × Nat)
  | 0 => some (0, 1)
  | _ => none
theorem bd_85 {ps : List (Nat × AV)} : buildA Tryz.prog 85 ps = bldA pl_85 [zP] ps := bld_of (by kernel_rfl) Tryz.underlying85 (by kernel_rfl) (by funext i; rcases i with _ | i <;> kernel_rfl)
def pl_87 : Nat → Option (Nat × Nat)
  | 0 => some (0, 1)
  | 1 => some (1, 1)
  | 2 => some (2, 1)
  | 3 => some (3, 1)
  | 4 => some (4, 1)
  | 5 => some (5, 1)
  | 6 => some (6, 1)
  | 7 => some (7, 1)
  | 8 => some (8, 1)
  | _ => none
theorem bd_87 {ps : List (Nat × AV)} : buildA Tryz.prog 87 ps = bldA pl_87 [zI, zI, zI, zI, zI, zI, zN, zI, zI] ps := bld_of (by kernel_rfl) Tryz.underlying87 (by kernel_rfl) (by funext i; rcases i with _ | _ | _ | _ | _ | _ | _ | _ | _ | i <;> kernel_rfl)
def pl_89 : Nat → Option (Nat × Nat)
  | 0 => some (0, 1)
  | 1 => some (1, 1)
  | 2 => some (2, 8)
  | 3 => some (10, 1)
  | 4 => some (11, 1)
  | 5 => some (12, 9)
  | 6 => some (21, 1)
  | _ => none
theorem bd_89 {ps : List (Nat × AV)} : buildA Tryz.prog 89 ps = bldA pl_89 [zP, zP, zI, zI, zI, zI, zI, zI, zI, zN, zI, zP, zI, zI, zI, zI, zI, zI, zN, zI, zI, zI] ps := bld_of (by kernel_rfl) Tryz.underlying89 (by kernel_rfl) (by funext i; rcases i with _ | _ | _ | _ | _ | _ | _ | i <;> kernel_rfl)
def pl_103 : Nat → Option (Nat × Nat)
  | 0 => some (0, 1)
  | 1 => some (1, 1)
  | _ => none
theorem bd_103 {ps : List (Nat × AV)} : buildA Tryz.prog 103 ps = bldA pl_103 [zN, zI] ps := bld_of (by kernel_rfl) Tryz.underlying103 (by kernel_rfl) (by funext i; rcases i with _ | _ | i <;> kernel_rfl)
def pl_105 : Nat → Option (Nat × Nat)
  | 0 => some (0, 1)
  | 1 => some (1, 1)
  | _ => none
theorem bd_105 {ps : List (Nat × AV)} : buildA Tryz.prog 105 ps = bldA pl_105 [zN, zI] ps := bld_of (by kernel_rfl) Tryz.underlying105 (by kernel_rfl) (by funext i; rcases i with _ | _ | i <;> kernel_rfl)
def pl_108 : Nat → Option (Nat × Nat)
  | 0 => some (0, 1)
  | 1 => some (1, 1)
  | 2 => some (2, 1)
  | 3 => some (3, 1)
  | _ => none
theorem bd_108 {ps : List (Nat × AV)} : buildA Tryz.prog 108 ps = bldA pl_108 [zN, zI, zI, zI] ps := bld_of (by kernel_rfl) Tryz.underlying108 (by kernel_rfl) (by funext i; rcases i with _ | _ | _ | _ | i <;> kernel_rfl)
def pl_111 : Nat → Option (Nat × Nat)
  | 0 => some (0, 1)
  | 1 => some (1, 1)
  | 2 => some (2, 1)
  | _ => none
theorem bd_111 {ps : List (Nat × AV)} : buildA Tryz.prog 111 ps = bldA pl_111 [zN, zN, zB] ps := bld_of (by kernel_rfl) Tryz.underlying111 (by kernel_rfl) (by funext i; rcases i with _ | _ | _ | i <;> kernel_rfl)
def pl_117 : Nat → Option (Nat × Nat)
  | 0 => some (0, 1)
  | 1 => some (1, 1)
  | 2 => some (2, 8)
  | 3 => some (10, 1)
  | _ => none
theorem bd_117 {ps : List (Nat × AV)} : buildA Tryz.prog 117 ps = bldA pl_117 [zP, zP, zI, zI, zI, zI, zI, zI, zI, zN, zI] ps := bld_of (by kernel_rfl) Tryz.underlying117 (by kernel_rfl) (by funext i; rcases i with _ | _ | _ | _ | i <;> kernel_rfl)
def pl_129 : Nat → Option (Nat × Nat)
  | 0 => some (0, 8)
  | 1 => some (8, 1)
  | _ => none
theorem bd_129 {ps : List (Nat × AV)} : buildA Tryz.prog 129 ps = bldA pl_129 [zI, zI, zI, zI, zI, zI, zI, zN, zM] ps := bld_of (by kernel_rfl) Tryz.underlying129 (by kernel_rfl) (by funext i; rcases i with _ | _ | i <;> kernel_rfl)
def pl_133 : Nat → Option (Nat × Nat)
  | 0 => some (0, 1)
  | 1 => some (1, 1)
  | 2 => some (2, 1)
  | _ => none
theorem bd_133 {ps : List (Nat × AV)} : buildA Tryz.prog 133 ps = bldA pl_133 [zI, zI, zN] ps := bld_of (by kernel_rfl) Tryz.underlying133 (by kernel_rfl) (by funext i; rcases i with _ | _ | _ | i <;> kernel_rfl)
def pl_137 : Nat → Option (Nat × Nat)
  | 0 => some (0, 1)
  | 1 => some (1, 1)
  | _ => none
theorem bd_137 {ps : List (Nat × AV)} : buildA Tryz.prog 137 ps = bldA pl_137 [zM, zM] ps := bld_of (by kernel_rfl) Tryz.underlying137 (by kernel_rfl) (by funext i; rcases i with _ | _ | i <;> kernel_rfl)

end Go.Proofs.YtmhbgbiaajbhnaaGreat

namespace Go.Proofs.YtmhbgbiaajbhnaaGreat

/-- What a cell of an object holds: a value; a slice of its own (m cells an element); a map of its own; a map of slices; a slice of slices. -/
inductive Cell where
  | av (x : AV)
  | seq (m : Nat) (cells : List AV)
  | map (k : IntKind) (es : List (Int × AV))
  | maps (k : IntKind) (m : Nat) (es : List (Int × List AV))
  | seqs (m : Nat) (ls : List (List AV))
/-- The owner of a block: an object, its cell (from 1 on), a part of it. -/
abbrev Tag := Nat × Nat × Nat × Int
section
variable (b : Nat) (H : AHeap) (τ : Nat → Option Tag)
def OS (T : Tag) (x : AV) (m : Nat) (cells : List AV) : Prop :=
  (x = zN ∧ cells = []) ∨ ∃ r g off n cap ex ty all, x = .sl r g off m n cap ex ∧ τ r = some T ∧ b ≤ r ∧ r < H.next ∧ n ≤ cap ∧ H.get r = .blk g ty all ∧ off + cap * m ≤ all.length ∧ all.all AV.isCell = true ∧ cells = (all.drop off).take (n * m)
def OM (T : Tag) (x : AV) (k : IntKind) (es : List (Int × AV)) : Prop := ∃ r, x = .mp r ∧ τ r = some T ∧ b ≤ r ∧ r < H.next ∧ H.get r = .map k es
def CR (q i : Nat) : Cell → AV → Prop
  | .av x, y => y = x
  | .seq m cells, y => OS b H τ (q, i + 1, 0, 0) y m cells
  | .map k es, y => OM b H τ (q, i + 1, 0, 0) y k es
  | .maps k m es, y => ∃ aes : List (Int × AV), OM b H τ (q, i + 1, 0, 0) y k aes ∧ aes.map (·.1) = es.map (·.1) ∧ ∀ (j : Nat) n cells x, es[j]? = some (n, cells) → aes[j]? = some (n, x) → OS b H τ (q, i + 1, 1, n) x m cells
  | .seqs m ls, y => ∃ xs : List AV, (∃ w, OS b H τ (q, i + 1, 0, 0) y w xs) ∧ xs.length = ls.length ∧ ∀ (j : Nat) cells x, ls[j]? = some cells → xs[j]? = some x → OS b H τ (q, i + 1, 1, (j : Int)) x m cells
structure RepO (q : Nat) (cs : List Cell) : Prop where
  tag : τ q = some (q, 0, 0, 0)
  lo : b ≤ q
  hi : q < H.next
  blk : ∃ ty xs, H.get q = .blk 0 ty xs ∧ xs.length = cs.length ∧ xs.all AV.isCell = true ∧ ∀ (i : Nat) c x, cs[i]? = some c → xs[i]? = some x → CR b H τ q i c x
end
abbrev Store := Nat → Option (List Cell)
/-- A heap in which these objects lie. -/
def Good (b : Nat) (H : AHeap) (g : Store) : Prop := b ≤ H.next ∧ ∃ τ, ∀ q cs, g q = some cs → RepO b H τ q cs
def upd (g : Store) (q : Nat) (cs : List Cell) : Store := fun x => if x = q then some cs else g x
section
variable {b : Nat} {H H' : AHeap} {g : Store} {q : Nat} {cs : List Cell}
theorem upd_same : upd g q cs q = some cs := by simp [upd]
theorem upd_ne {x : Nat} (h : x ≠ q) : upd g q cs x = g x := by simp [upd, h]
theorem upd_upd {ds : List Cell} : upd (upd g q cs) q ds = upd g q ds := by funext x; simp only [upd]; split <;> rfl
/-- What is asked of blocks with other tags when one changes. -/
theorem OS.keep {τ τ' : Nat → Option Tag} {T : Tag} {x : AV} {m : Nat} {cells : List AV} (h : OS b H τ T x m cells) (hn : H.next ≤ H'.next) (hg : ∀ r, r < H.next → τ r = some T → τ' r = some T ∧ H'.get r = H.get r) : OS b H' τ' T x m cells := by
  rcases h with h | ⟨r, g, off, n, cap, ex, ty, all, rfl, h1, h2, h3, h4, h5, h6, h7, h8⟩
  · exact .inl h
  · obtain ⟨k1, k2⟩ := hg r h3 h1
    exact .inr ⟨r, g, off, n, cap, ex, ty, all, rfl, k1, h2, by omega, h4, by rw [k2]; exact h5, h6, h7, h8⟩
theorem OM.keep {τ τ' : Nat → Option Tag} {T : Tag} {x : AV} {k : IntKind} {es : List (Int × AV)} (h : OM b H τ T x k es) (hn : H.next ≤ H'.next) (hg : ∀ r, r < H.next → τ r = some T → τ' r = some T ∧ H'.get r = H.get r) : OM b H' τ' T x k es := by
  obtain ⟨r, rfl, h1, h2, h3, h4⟩ := h
  obtain ⟨k1, k2⟩ := hg r h3 h1
  exact ⟨r, rfl, k1, h2, by omega, by rw [k2]; exact h4⟩
theorem CR.keep {τ τ' : Nat → Option Tag} {i : Nat} : ∀ {c : Cell} {x : AV}, CR b H τ q i c x → H.next ≤ H'.next → (∀ r s t, r < H.next → τ r = some (q, i + 1, s, t) → τ' r = some (q, i + 1, s, t) ∧ H'.get r = H.get r) → CR b H' τ' q i c x
  | .av _, _, h, _, _ => h
  | .seq _ _, _, h, hn, hg => OS.keep h hn fun r h1 h2 => hg r 0 0 h1 h2
  | .map _ _, _, h, hn, hg => OM.keep h hn fun r h1 h2 => hg r 0 0 h1 h2
  | .maps _ _ _, _, ⟨aes, h1, h2, h3⟩, hn, hg => ⟨aes, h1.keep hn fun r h1 h2 => hg r 0 0 h1 h2, h2, fun j n cells x hj hx => (h3 j n cells x hj hx).keep hn fun r h1 h2 => hg r 1 n h1 h2⟩
  | .seqs _ _, _, ⟨xs, ⟨w, h1⟩, h2, h3⟩, hn, hg => ⟨xs, ⟨w, h1.keep hn fun r h1 h2 => hg r 0 0 h1 h2⟩, h2, fun j cells x hj hx => (h3 j cells x hj hx).keep hn fun r h1 h2 => hg r 1 j h1 h2⟩
theorem RepO.keep {τ τ' : Nat → Option Tag} (h : RepO b H τ q cs) (hn : H.next ≤ H'.next) (hg : ∀ r i s t, r < H.next → τ r = some (q, i, s, t) → τ' r = some (q, i, s, t) ∧ H'.get r = H.get r) : RepO b H' τ' q cs := by
  obtain ⟨k1, k2⟩ := hg q 0 0 0 h.hi h.tag
  obtain ⟨ty, xs, h1, h2, h3, h4⟩ := h.blk
  exact ⟨k1, h.lo, by have := h.hi; omega, ty, xs, by rw [k2]; exact h1, h2, h3, fun i c x hc hx => (h4 i c x hc hx).keep hn fun r s t hr ht => hg r (i + 1) s t hr ht⟩
theorem Good.lt (G : Good b H g) (h : g q = some cs) : q < H.next := (G.2.choose_spec q cs h).hi
theorem Good.le (G : Good b H g) (h : g q = some cs) : b ≤ q := (G.2.choose_spec q cs h).lo
theorem Good.isNone (G : Good b H g) (h : H.next ≤ q) : g q = none := by
  cases hq : g q with
  | none => rfl
  | some cs => have := G.lt hq; omega
/-- All old blocks are as they were. -/
theorem Good.ext (G : Good b H g) (hn : H.next ≤ H'.next) (hg : ∀ r, r < H.next → H'.get r = H.get r) : Good b H' g := by
  obtain ⟨h0, τ, h⟩ := G
  exact ⟨by omega, τ, fun q cs hq => (h q cs hq).keep hn fun r i s t hr ht => ⟨ht, hg r hr⟩⟩
theorem Good.new (G : Good b H g) (o : AObj) : Good b (H.new o) g := G.ext (Nat.le_succ _) fun r hr => by rw [get_new, if_neg (by omega)]
theorem Good.guard (G : Good b H g) : Good b H.guard g := G.ext (Nat.le_refl _) fun _ _ => rfl
theorem Good.sub (G : Good b H g) {g' : Store} (h : ∀ q cs, g' q = some cs → g q = some cs) : Good b H g' := by
  obtain ⟨h0, τ, h1⟩ := G
  exact ⟨h0, τ, fun q cs hq => h1 q cs (h q cs hq)⟩
theorem Good.empty (H : AHeap) : Good H.next H fun _ => none := ⟨Nat.le_refl _, fun _ => none, fun _ _ h => by cases h⟩
theorem Good.weak (G : Good b H g) {b' : Nat} (h : b' ≤ b) : Good b' H g := by
  obtain ⟨h0, τ, h1⟩ := G
  have os : ∀ {T x m cells}, OS b H τ T x m cells → OS b' H τ T x m cells := by
    intro T x m cells ho
    rcases ho with ho | ⟨r, g, off, n, cap, ex, ty, all, h2, h3, h4, h5⟩
    · exact .inl ho
    · exact .inr ⟨r, g, off, n, cap, ex, ty, all, h2, h3, by omega, h5⟩
  have om : ∀ {T x k es}, OM b H τ T x k es → OM b' H τ T x k es := by
    intro T x k es ⟨r, h2, h3, h4, h5⟩
    exact ⟨r, h2, h3, by omega, h5⟩
  refine ⟨by omega, τ, fun q cs hq => ?_⟩
  have R := h1 q cs hq
  obtain ⟨ty, xs, k1, k2, k3, k4⟩ := R.blk
  refine ⟨R.tag, by have := R.lo; omega, R.hi, ty, xs, k1, k2, k3, fun i c x hc hx => ?_⟩
  have := k4 i c x hc hx
  cases c with
  | av _ => exact this
  | seq _ _ => exact os this
  | map _ _ => exact om this
  | maps _ _ _ =>
    obtain ⟨aes, a1, a2, a3⟩ := this
    exact ⟨aes, om a1, a2, fun j n cells x hj hx => os (a3 j n cells x hj hx)⟩
  | seqs _ _ =>
    obtain ⟨ys, ⟨w, a1⟩, a2, a3⟩ := this
    exact ⟨ys, ⟨w, os a1⟩, a2, fun j cells x hj hx => os (a3 j cells x hj hx)⟩
/-- How the memory goes on: nothing below b is touched. -/
structure Step (b : Nat) (H H' : AHeap) : Prop where
  base : H'.base = H.base
  next : H.next ≤ H'.next
  low : ∀ r, r < b → H'.get r = H.get r
theorem Step.refl (b : Nat) (H : AHeap) : Step b H H := ⟨rfl, Nat.le_refl _, fun _ _ => rfl⟩
theorem Step.trans {b : Nat} {H H' H'' : AHeap} (s : Step b H H') (t : Step b H' H'') : Step b H H'' := ⟨t.base.trans s.base, Nat.le_trans s.next t.next, fun r hr => by rw [t.low r hr, s.low r hr]⟩
theorem Step.new {b : Nat} {H : AHeap} (o : AObj) (h : b ≤ H.next) : Step b H (H.new o) := ⟨rfl, Nat.le_succ _, fun r hr => by rw [get_new, if_neg (by omega)]⟩
theorem Step.put {b : Nat} {H : AHeap} {r : Nat} (o : AObj) (h : b ≤ r) : Step b H (H.put r o) := ⟨rfl, Nat.le_refl _, fun x hx => by rw [get_put, if_neg (by omega)]⟩
theorem ld_blk {r off g : Nat} {ty : TypeId} {xs : List AV} (h : H.get r = .blk g ty xs) : ld (.ref r g off) H = (xs[off]?).map fun v => (v, H) := by
  simp only [ld, lookB, watchV, Option.map_some, ldO, h, if_true]
theorem lda_blk {r off g n : Nat} {ty : TypeId} {xs : List AV} (h : H.get r = .blk g ty xs) (hl : off + n ≤ xs.length) : lda n (.ref r g off) H = some (.agg ((xs.drop off).take n), H) := by
  simp only [lda, lookB, watchV, Option.map_some, ldaO, h, if_true, hl]
theorem ld_ip {cells : List AV} : ld (.ip cells) H = (cells[0]?).map fun v => (v, H) := by simp only [ld, lookB, ldO]
theorem lda_ip {cells : List AV} {n : Nat} (h : n ≤ cells.length) : lda n (.ip cells) H = some (.agg (cells.take n), H) := by
  simp only [lda, lookB, ldaO, Nat.zero_add, h, if_true, List.drop_zero, Option.map_some]
theorem Good.load (G : Good b H g) (h : g q = some cs) {i : Nat} {x : AV} (hi : cs[i]? = some (.av x)) : ld (.ref q 0 i) H = some (x, H) := by
  obtain ⟨_, τ, hR⟩ := G
  obtain ⟨ty, xs, h1, h2, h3, h4⟩ := (hR q cs h).blk
  rw [ld_blk h1]
  have hlt : i < xs.length := by rw [h2]; exact (List.getElem?_eq_some_iff.1 hi).1
  have hx : xs[i]? = some (xs[i]'hlt) := List.getElem?_eq_getElem hlt
  have := h4 i _ _ hi hx
  simp only [CR] at this
  rw [hx, this]; rfl
/-- Some cells together. -/
theorem Good.loads (G : Good b H g) (h : g q = some cs) {i n : Nat} {xs : List AV} (hi : (cs.drop i).take n = xs.map .av) (hn : xs.length = n) (hp : 0 < n) : lda n (.ref q 0 i) H = some (.agg xs, H) := by
  obtain ⟨_, τ, hR⟩ := G
  obtain ⟨ty, ys, h1, h2, h3, h4⟩ := (hR q cs h).blk
  have hl := congrArg List.length hi
  simp only [List.length_take, List.length_drop, List.length_map] at hl
  · rw [lda_blk h1 (by omega)]
    congr 2
    congr 1
    apply List.ext_getElem?
    intro j
    rcases Nat.lt_or_ge j n with hj | hj
    · have hx : xs[j]? = some (xs[j]'(by omega)) := List.getElem?_eq_getElem _
      have hc : cs[i + j]? = some (.av (xs[j]'(by omega))) := by
        have := congrArg (fun l => l[j]?) hi
        simp only [List.getElem?_take, hj, if_true, List.getElem?_drop, List.getElem?_map, hx, Option.map_some] at this
        exact this
      have hlt : i + j < ys.length := by omega
      have hy : ys[i + j]? = some (ys[i + j]'hlt) := List.getElem?_eq_getElem hlt
      have := h4 _ _ _ hc hy
      simp only [CR] at this
      rw [List.getElem?_take, if_pos hj, List.getElem?_drop, hy, this, hx]
    · rw [List.getElem?_take, if_neg (by omega), List.getElem?_eq_none (by omega)]
end

end Go.Proofs.YtmhbgbiaajbhnaaGreat

namespace Go.Proofs.YtmhbgbiaajbhnaaGreat

/-- x is a slice of n elements, m cells each; what it has are these cells. -/
def SliceIs (H : AHeap) (x : AV) (m n : Nat) (cells : List AV) : Prop :=
  cells.length = n * m ∧
  match x with
  | .sl r g off esz len cap _ => esz = m ∧ len = n ∧ (r < H.next ∧ len ≤ cap) ∧ ∃ ty all, H.get r = .blk g ty all ∧ off + n * m ≤ all.length ∧ cells = (all.drop off).take (n * m)
  | .vs k esz cs => esz = m ∧ k = n ∧ cs = cells
  | .s (.slice none a b) => a = 0 ∧ b = 0 ∧ n = 0
  | _ => False
/-- The place of an element. -/
def elemPtr (x : AV) (i : Nat) : AV :=
  match x with
  | .sl r g off esz _ _ _ => .ref r g (off + i * esz)
  | .vs _ esz cs => .ip (cs.drop (i * esz))
  | _ => undefA
section
variable {P : Program} {H : AHeap} {x : AV} {m n : Nat} {cells : List AV}
theorem SliceIs.isCell (h : SliceIs H x m n cells) : x.isCell = true := by
  obtain ⟨_, h⟩ := h
  cases x with
  | s v => cases v <;> first | rfl | exact h.elim
  | _ => first | rfl | exact h.elim
theorem SliceIs.len (h : SliceIs H x m n cells) {t e : TypeId} (ht : elemT P t = some e) : lenA P t x H = some (.s (.int .i64 n), H) := by
  obtain ⟨_, h⟩ := h
  unfold elemT at ht
  split at ht <;> first | (cases ht; done) | skip
  rename_i e' hu
  unfold lenA lookB lenO
  cases x with
  | sl r g off esz len cap ex => simp only [hu]; rw [h.2.1]; rfl
  | vs k esz cs => simp only [hu]; rw [h.2.1]; rfl
  | s v =>
    cases v with
    | slice a b c =>
      cases a with
      | none => simp only [hu]; rw [h.2.2, h.1]; rfl
      | some a => exact h.elim
    | _ => exact h.elim
  | _ => exact h.elim
theorem SliceIs.cells_ (h : SliceIs H x m n cells) : sliceLen x = some n ∧ sliceCells H x = some cells := by
  obtain ⟨hl, h⟩ := h
  cases x with
  | sl r g off esz len cap ex =>
    obtain ⟨rfl, rfl, _, ty, all, h1, h2, h3⟩ := h
    refine ⟨rfl, ?_⟩
    simp only [sliceCells, h1]
    rw [if_pos ⟨trivial, h2⟩, h3]
  | vs k esz cs => obtain ⟨rfl, rfl, rfl⟩ := h; exact ⟨rfl, rfl⟩
  | s v =>
    cases v with
    | slice a b c =>
      cases a with
      | none =>
        obtain ⟨rfl, rfl, rfl⟩ := h
        refine ⟨rfl, ?_⟩
        have : cells = [] := List.eq_nil_of_length_eq_zero (by omega)
        rw [this]; rfl
      | some a => exact h.elim
    | _ => exact h.elim
  | _ => exact h.elim
theorem SliceIs.index (h : SliceIs H x m n cells) {t e : TypeId} (ht : elemT P t = some e) (hm : szT P e = some m) {k : IntKind} {i : Int} (h0 : 0 ≤ i) (h1 : i < n) :
    indexAddrA P t x (.s (.int k i)) H = some (elemPtr x i.toNat, H) := by
  obtain ⟨_, h⟩ := h
  unfold elemT at ht
  split at ht <;> first | (cases ht; done) | skip
  rename_i e' hu
  simp only [Option.some.injEq] at ht
  subst ht
  unfold indexAddrA lookB indexAddrO
  cases x with
  | sl r g off esz len cap ex =>
    obtain ⟨rfl, rfl, _, ty, all, h2, h3, h4⟩ := h
    simp only [hu, watchV, Option.map_some, h2, genO, AObj.gen, hm, true_and]
    rw [if_pos ⟨h0, by omega⟩]; rfl
  | vs k' esz cs =>
    obtain ⟨rfl, rfl, rfl⟩ := h
    simp only [hu, hm, true_and]
    rw [if_pos ⟨h0, by omega⟩]; rfl
  | s v =>
    cases v with
    | slice a b c =>
      cases a with
      | none => obtain ⟨rfl, rfl, rfl⟩ := h; omega
      | some a => exact h.elim
    | _ => exact h.elim
  | _ => exact h.elim
/-- The block of a slice. -/
def nameOf : AV → Option Nat
  | .sl r _ _ _ _ _ _ => some r
  | _ => none
theorem SliceIs.of_get {H' : AHeap} (h : SliceIs H x m n cells) (hn : H.next ≤ H'.next) (hg : ∀ r, nameOf x = some r → r < H.next → H'.get r = H.get r) : SliceIs H' x m n cells := by
  obtain ⟨hl, h⟩ := h
  refine ⟨hl, ?_⟩
  cases x with
  | sl r g off esz len cap ex =>
    obtain ⟨h0, h1, hr, ty, all, h2, h3, h4⟩ := h
    exact ⟨h0, h1, ⟨Nat.lt_of_lt_of_le hr.1 hn, hr.2⟩, ty, all, by rw [hg r rfl hr.1]; exact h2, h3, h4⟩
  | s v =>
    cases v with
    | slice a b c => cases a <;> exact h
    | _ => exact h
  | _ => exact h
theorem SliceIs.new (h : SliceIs H x m n cells) (o : AObj) : SliceIs (H.new o) x m n cells :=
  h.of_get (Nat.le_succ _) fun r _ hr => by rw [get_new, if_neg (by omega)]
theorem SliceIs.put (h : SliceIs H x m n cells) {r : Nat} (hr : nameOf x ≠ some r) (o : AObj) : SliceIs (H.put r o) x m n cells :=
  h.of_get (Nat.le_refl _) fun r' hx _ => by rw [get_put, if_neg (fun e => hr (by rw [hx, e]))]
theorem SliceIs.guard (h : SliceIs H x m n cells) : SliceIs H.guard x m n cells := h
theorem SliceIs.nil {m : Nat} : SliceIs H (.s (.slice none 0 0)) m 0 [] := ⟨by simp, rfl, rfl, rfl⟩
theorem SliceIs.vs {m n : Nat} {cs : List AV} (h : cs.length = n * m) : SliceIs H (.vs n m cs) m n cs := ⟨h, rfl, rfl, rfl⟩
end
theorem flat_length {α : Type} {enc : α → List AV} {m : Nat} (he : ∀ a, (enc a).length = m) (l : List α) : (l.flatMap enc).length = l.length * m := by
  induction l with
  | nil => simp
  | cons a l ih => simp only [List.flatMap_cons, List.length_append, he, ih, List.length_cons, Nat.succ_mul]; omega
theorem flat_get {α : Type} {enc : α → List AV} {m : Nat} (he : ∀ a, (enc a).length = m) : ∀ (l : List α) (i : Nat) (a : α), l[i]? = some a → ((l.flatMap enc).drop (i * m)).take m = enc a
  | [], i, a, h => by simp at h
  | b :: l, 0, a, h => by
    simp only [List.getElem?_cons_zero, Option.some.injEq] at h
    subst h
    rw [Nat.zero_mul, List.drop_zero, List.flatMap_cons, List.take_append_of_le_length (by rw [he]; omega), List.take_of_length_le (by rw [he]; omega)]
  | b :: l, i + 1, a, h => by
    simp only [List.getElem?_cons_succ] at h
    have e1 : (enc b).drop ((i + 1) * m) = [] := List.drop_of_length_le (by rw [he, Nat.succ_mul]; omega)
    have e2 : (i + 1) * m - (enc b).length = i * m := by rw [he, Nat.succ_mul]; omega
    rw [List.flatMap_cons, List.drop_append, e1, e2, List.nil_append]
    exact flat_get he l i a h

end Go.Proofs.YtmhbgbiaajbhnaaGreat

namespace Go.Proofs.YtmhbgbiaajbhnaaGreat

section
variable {b : Nat} {H H' : AHeap} {g : Store} {q : Nat} {cs : List Cell}
/-- Only q's blocks have changed. -/
theorem good_upd {τ τ' : Nat → Option Tag} {cs' : List Cell} (h0 : b ≤ H.next) (h : ∀ q cs, g q = some cs → RepO b H τ q cs) (hn : H.next ≤ H'.next)
    (hk : ∀ r, r < H.next → (∀ i s t, τ r ≠ some (q, i, s, t)) → τ' r = τ r ∧ H'.get r = H.get r) (hR : RepO b H' τ' q cs') : Good b H' (upd g q cs') := by
  refine ⟨by omega, τ', fun q2 cs2 hq2 => ?_⟩
  by_cases e : q2 = q
  · subst e
    rw [upd_same] at hq2
    cases hq2
    exact hR
  · rw [upd_ne e] at hq2
    refine (h q2 cs2 hq2).keep hn fun r i s t hr ht => ?_
    obtain ⟨k1, k2⟩ := hk r hr fun i' s' t' h' => by rw [ht] at h'; cases h'; exact e rfl
    exact ⟨by rw [k1]; exact ht, k2⟩
theorem set_cases {α : Type} {l : List α} {i j : Nat} {a x : α} (h : (l.set i a)[j]? = some x) : (j = i ∧ x = a) ∨ (j ≠ i ∧ l[j]? = some x) := by
  by_cases e : i = j
  · subst e
    have hl : i < l.length := by
      have := (List.getElem?_eq_some_iff.1 h).1
      simpa using this
    rw [List.getElem?_set_self hl] at h
    cases h
    exact .inl ⟨rfl, rfl⟩
  · rw [List.getElem?_set_ne e] at h
    exact .inr ⟨fun e' => e e'.symm, h⟩
theorem all_set {l : List AV} (h : l.all AV.isCell = true) {v : AV} (hv : v.isCell = true) (i : Nat) : (l.set i v).all AV.isCell = true := by
  rw [List.all_eq_true] at h ⊢
  intro x hx
  rcases List.mem_or_eq_of_mem_set hx with hx | rfl
  · exact h x hx
  · exact hv
theorem setAt_one {l : List AV} {i : Nat} {v : AV} (hi : i < l.length) : setAt l i [v] = l.set i v := by
  rw [List.set_eq_take_append_cons_drop]
  simp only [setAt, hi, if_true, List.length_cons, List.length_nil]
  rfl
/-- A cell's word itself. -/
def One (v : AV) : Prop := v.cells = [v] ∧ v.isCell = true
theorem one_sl {r g off esz len cap : Nat} {ex : Bool} : One (.sl r g off esz len cap ex) := ⟨rfl, rfl⟩
theorem one_vs {n esz : Nat} {cells : List AV} : One (.vs n esz cells) := ⟨rfl, rfl⟩
theorem one_nil : One zN := ⟨rfl, rfl⟩
theorem st_one {r gg off : Nat} {v : AV} {ty : TypeId} {xs : List AV} (hv : One v) (h : H.get r = .blk gg ty xs) (hb : H.base ≤ r) (hl : off < xs.length) : st 1 (.ref r gg off) v H = some (undefA, H.put r (.blk gg ty (xs.set off v))) := by
  show (match H.get r with
    | .blk g' ty cells => if g' = gg ∧ H.base ≤ r ∧ some 1 = some v.cells.length ∧ v.cells.all AV.isCell = true ∧ off + v.cells.length ≤ cells.length then some (undefA, H.put r (.blk gg ty (setAt cells off v.cells))) else none
    | .map .. => none) = _
  rw [h]
  simp only
  rw [if_pos ⟨trivial, hb, by rw [hv.1]; rfl, by rw [hv.1]; simp [hv.2], by rw [hv.1]; exact hl⟩, hv.1, setAt_one hl]
theorem setA_get {l : List AV} {i : Nat} {vs : List AV} (h : i + vs.length ≤ l.length) (j : Nat) : (setAt l i vs)[j]? = if i ≤ j ∧ j < i + vs.length then vs[j - i]? else l[j]? := by
  unfold setAt
  rcases Nat.lt_or_ge j i with hj | hj
  · rw [List.getElem?_append_left (by rw [List.length_take]; omega), List.getElem?_take, if_pos hj, if_neg (by omega)]
  · have h1 : (l.take i).length = i := by rw [List.length_take]; omega
    rw [List.getElem?_append_right (by omega), h1]
    rcases Nat.lt_or_ge j (i + vs.length) with hk | hk
    · rw [if_pos ⟨hj, hk⟩, List.getElem?_append_left (by omega)]
    · rw [if_neg (by omega), List.getElem?_append_right (by omega), List.getElem?_drop]
      congr 1; omega
theorem setA_length {l : List AV} {i : Nat} {vs : List AV} (h : i + vs.length ≤ l.length) : (setAt l i vs).length = l.length := by
  simp only [setAt, List.length_append, List.length_take, List.length_drop]; omega
theorem all_setAt {l vs : List AV} (h : l.all AV.isCell = true) (hv : vs.all AV.isCell = true) (i : Nat) : (setAt l i vs).all AV.isCell = true := by
  rw [List.all_eq_true] at h hv ⊢
  intro x hx
  simp only [setAt, List.mem_append] at hx
  rcases hx with hx | hx | hx
  · exact h x (List.mem_of_mem_take hx)
  · exact hv x hx
  · exact h x (List.mem_of_mem_drop hx)
/-- x is the slice in a cell of an object. -/
structure Cur (b : Nat) (H : AHeap) (q i : Nat) (x : AV) (m : Nat) (l : List AV) : Prop where
  at_ : ∃ ty xs, H.get q = .blk 0 ty xs ∧ xs[i]? = some x
  own : (x = zN ∧ l = []) ∨ ∃ r g off n cap ex ty all, x = .sl r g off m n cap ex ∧ r ≠ q ∧ b ≤ r ∧ r < H.next ∧ n ≤ cap ∧ H.get r = .blk g ty all ∧ off + cap * m ≤ all.length ∧ all.all AV.isCell = true ∧ l = (all.drop off).take (n * m)
  lt : q < H.next
theorem Good.seq (G : Good b H g) (h : g q = some cs) {i m : Nat} {l : List AV} (hi : cs[i]? = some (.seq m l)) : ∃ x, ld (.ref q 0 i) H = some (x, H) ∧ Cur b H q i x m l := by
  obtain ⟨_, τ, hR⟩ := G
  have R := hR q cs h
  obtain ⟨ty, xs, h1, h2, h3, h4⟩ := R.blk
  have hlt : i < xs.length := by rw [h2]; exact (List.getElem?_eq_some_iff.1 hi).1
  have hx : xs[i]? = some (xs[i]'hlt) := List.getElem?_eq_getElem hlt
  refine ⟨xs[i]'hlt, by rw [ld_blk h1, hx]; rfl, ⟨ty, xs, h1, hx⟩, ?_, R.hi⟩
  have := h4 i _ _ hi hx
  simp only [CR] at this
  rcases this with h5 | ⟨r, gg, off, n, cap, ex, ty, all, h5, h6, h7⟩
  · exact .inl h5
  · refine .inr ⟨r, gg, off, n, cap, ex, ty, all, h5, ?_, h7⟩
    intro e; subst e; rw [R.tag] at h6; cases h6
theorem Cur.load {i m : Nat} {x : AV} {l : List AV} (c : Cur b H q i x m l) : ld (.ref q 0 i) H = some (x, H) := by
  obtain ⟨ty, xs, h1, h2⟩ := c.at_
  rw [ld_blk h1, h2]; rfl
theorem Cur.ext {i m : Nat} {x : AV} {l : List AV} (c : Cur b H q i x m l) (hn : H.next ≤ H'.next) (hg : ∀ r, r < H.next → H'.get r = H.get r) : Cur b H' q i x m l := by
  obtain ⟨ty, xs, h1, h2⟩ := c.at_
  refine ⟨⟨ty, xs, by rw [hg q c.lt]; exact h1, h2⟩, ?_, by have := c.lt; omega⟩
  rcases c.own with h | ⟨r, g, off, n, cap, ex, ty, all, k0, k1, k2, k3, k4, k5, k6⟩
  · exact .inl h
  · exact .inr ⟨r, g, off, n, cap, ex, ty, all, k0, k1, k2, by omega, k4, by rw [hg r k3]; exact k5, k6⟩
theorem Cur.new {i m : Nat} {x : AV} {l : List AV} (c : Cur b H q i x m l) (o : AObj) : Cur b (H.new o) q i x m l := c.ext (Nat.le_succ _) fun r hr => by rw [get_new, if_neg (by omega)]
theorem Cur.is {i m n : Nat} {x : AV} {l : List AV} (c : Cur b H q i x m l) (hm : 0 < m) (hl : l.length = n * m) : SliceIs H x m n l := by
  refine ⟨hl, ?_⟩
  rcases c.own with ⟨rfl, rfl⟩ | ⟨r, g, off, n', cap, ex, ty, all, rfl, k1, k2, k3, k4, k5, k6, k7, rfl⟩
  · refine ⟨rfl, rfl, ?_⟩
    simp only [List.length_nil] at hl
    rcases Nat.mul_eq_zero.1 hl.symm with h | h <;> omega
  · have h1 : n' * m ≤ cap * m := Nat.mul_le_mul_right _ k4
    rw [List.length_take, List.length_drop, Nat.min_eq_left (by omega)] at hl
    have : n' = n := Nat.eq_of_mul_eq_mul_right hm hl
    subst this
    exact ⟨rfl, rfl, ⟨k3, k4⟩, ty, all, k5, by omega, rfl⟩
theorem Cur.low {i m r : Nat} {x : AV} {l : List AV} (c : Cur b H q i x m l) (hr : r < b) : nameOf x ≠ some r := by
  rcases c.own with ⟨rfl, _⟩ | ⟨r', g, off, n, cap, ex, ty, all, rfl, k1, k2, _⟩
  · intro e; cases e
  · intro e; simp only [nameOf, Option.some.injEq] at e; omega
/-- What may be laid into a cell as a slice of its own: x0's block, or a new one. -/
def Fit (H H1 : AHeap) (x0 x : AV) (m : Nat) (l : List AV) : Prop :=
  (x = zN ∧ l = []) ∨ ∃ r g off n cap ex ty all, x = .sl r g off m n cap ex ∧ (nameOf x0 = some r ∨ H.next ≤ r) ∧ r < H1.next ∧ n ≤ cap ∧ H1.get r = .blk g ty all ∧ off + cap * m ≤ all.length ∧ all.all AV.isCell = true ∧ l = (all.drop off).take (n * m)
/-- A slice is laid back into its cell; only its block has changed, and there may be new ones. -/
theorem Good.seat (G : Good b H g) (h : g q = some cs) {i m : Nat} {l0 : List AV} (hi : cs[i]? = some (.seq m l0)) {x0 : AV} (c : Cur b H q i x0 m l0) {H1 : AHeap} (hn : H.next ≤ H1.next) (hb : H1.base ≤ b)
    (hk : ∀ r, r < H.next → nameOf x0 ≠ some r → H1.get r = H.get r) {x : AV} {m' : Nat} {l : List AV} (hx : Fit H H1 x0 x m' l) :
    ∃ H', st 1 (.ref q 0 i) x H1 = some (undefA, H') ∧ Good b H' (upd g q (cs.set i (.seq m' l))) ∧ Step b H1 H' ∧ H'.next = H1.next := by
  obtain ⟨h0, τ, hR⟩ := G
  have R := hR q cs h
  obtain ⟨ty, xs, h1, h2, h3, h4⟩ := R.blk
  have lo := R.lo
  have hi' := R.hi
  have il : i < cs.length := (List.getElem?_eq_some_iff.1 hi).1
  have hx0 : xs[i]? = some x0 := by
    obtain ⟨ty', xs', e1, e2⟩ := c.at_
    rw [h1] at e1; cases e1; exact e2
  have htag : ∀ r, nameOf x0 = some r → τ r = some (q, i + 1, 0, 0) ∧ b ≤ r := by
    intro r hr
    have := h4 i _ _ hi hx0
    simp only [CR] at this
    rcases this with ⟨rfl, _⟩ | ⟨r', gg, off, n, cap, ex, ty', all, rfl, k1, k2, _⟩
    · cases hr
    · simp only [nameOf, Option.some.injEq] at hr; subst hr; exact ⟨k1, k2⟩
  have hqx : nameOf x0 ≠ some q := fun e => by have := (htag q e).1; rw [R.tag] at this; cases this
  have hq1 : H1.get q = .blk 0 ty xs := by rw [hk q hi' hqx]; exact h1
  have hone : One x := by
    rcases hx with ⟨rfl, _⟩ | ⟨r, gg, off, n, cap, ex, ty', all, rfl, _⟩
    · exact one_nil
    · exact one_sl
  refine ⟨_, st_one hone hq1 (by omega) (by omega), ?_, Step.put _ lo, rfl⟩
  refine good_upd (τ' := fun r => if H.next ≤ r then some (q, i + 1, 0, 0) else τ r) h0 hR (show H.next ≤ H1.next from hn) (fun r hr ht => ⟨by rw [if_neg (by omega)], ?_⟩)
    ⟨by rw [if_neg (by omega)]; exact R.tag, R.lo, show q < H1.next by omega, ty, xs.set i x, by rw [get_put, if_pos rfl], by simp [h2], all_set h3 hone.2 i, fun j cc y hc hy => ?_⟩
  · rw [get_put, if_neg (by intro e; subst e; exact ht 0 0 0 R.tag)]
    exact hk r hr fun e => ht (i + 1) 0 0 (htag r e).1
  · rcases set_cases hc with ⟨rfl, rfl⟩ | ⟨hj, hc⟩
    · rcases set_cases hy with ⟨_, rfl⟩ | ⟨hj, _⟩
      · rcases hx with hx | ⟨r, gg, off, n, cap, ex, ty', all, rfl, k1, k2, k3, k4, k5⟩
        · exact .inl hx
        · have hrq : r ≠ q := by
            rcases k1 with k1 | k1
            · intro e; subst e; exact hqx k1
            · omega
          refine .inr ⟨r, gg, off, n, cap, ex, ty', all, rfl, ?_, ?_, k2, k3, by rw [get_put, if_neg hrq]; exact k4, k5⟩
          · show (if H.next ≤ r then some (q, j + 1, 0, 0) else τ r) = some (q, j + 1, 0, 0)
            split
            · rfl
            · rcases k1 with k1 | k1
              · exact (htag r k1).1
              · omega
          · rcases k1 with k1 | k1
            · exact (htag r k1).2
            · omega
      · exact absurd rfl hj
    · rcases set_cases hy with ⟨rfl, _⟩ | ⟨_, hy⟩
      · exact absurd rfl hj
      · refine (h4 j cc y hc hy).keep (show H.next ≤ H1.next from hn) fun r s t hr ht => ⟨by rw [if_neg (by omega)]; exact ht, ?_⟩
        rw [get_put, if_neg (by intro e; subst e; rw [R.tag] at ht; cases ht)]
        refine hk r hr fun e => ?_
        have := (htag r e).1
        rw [this] at ht
        simp only [Option.some.injEq, Prod.mk.injEq, Nat.add_right_cancel_iff] at ht
        exact hj ht.2.1.symm
end

end Go.Proofs.YtmhbgbiaajbhnaaGreat

namespace Go.Proofs.YtmhbgbiaajbhnaaGreat

section
variable {b : Nat} {H H' : AHeap} {g : Store} {q : Nat} {cs : List Cell}
theorem SliceIs.lnS {x : AV} {m n : Nat} {cells : List AV} (h : SliceIs H x m n cells) : lnS x H = some (I n, H) := by
  obtain ⟨_, h⟩ := h
  unfold Go.Proofs.YtmhbgbiaajbhnaaGreat.lnS lookB lnSO
  cases x with
  | sl r g off esz len cap ex => simp only; rw [h.2.1]; rfl
  | vs k esz cs => simp only; rw [h.2.1]; rfl
  | s v =>
    cases v with
    | slice a b c =>
      cases a with
      | none => simp only; rw [h.2.2, h.1]; rfl
      | some a => exact h.elim
    | _ => exact h.elim
  | _ => exact h.elim
theorem SliceIs.ix {x : AV} {m n : Nat} {cells : List AV} (h : SliceIs H x m n cells) {k : IntKind} {i : Int} (h0 : 0 ≤ i) (h1 : i < n) : ix m x (.s (.int k i)) H = some (elemPtr x i.toNat, H) := by
  obtain ⟨_, h⟩ := h
  unfold Go.Proofs.YtmhbgbiaajbhnaaGreat.ix lookB ixO
  cases x with
  | sl r g off esz len cap ex =>
    obtain ⟨rfl, rfl, _, ty, all, h2, h3, h4⟩ := h
    simp only [watchV, Option.map_some, h2, genO, AObj.gen, true_and]
    rw [if_pos ⟨h0, by omega⟩]; rfl
  | vs k' esz cs =>
    obtain ⟨rfl, rfl, rfl⟩ := h
    simp only [true_and]
    rw [if_pos ⟨h0, by omega⟩]; rfl
  | s v =>
    cases v with
    | slice a b c =>
      cases a with
      | none => obtain ⟨rfl, rfl, rfl⟩ := h; omega
      | some a => exact h.elim
    | _ => exact h.elim
  | _ => exact h.elim
theorem SliceIs.ld {x : AV} {n : Nat} {cells : List AV} (h : SliceIs H x 1 n cells) {i : Nat} (hi : i < n) : ld (elemPtr x i) H = (cells[i]?).map fun v => (v, H) := by
  obtain ⟨_, h⟩ := h
  cases x with
  | sl r g off esz len cap ex =>
    obtain ⟨rfl, rfl, _, ty, all, h2, h3, h4⟩ := h
    simp only [elemPtr]
    rw [ld_blk h2, h4, List.getElem?_take, if_pos (by omega), List.getElem?_drop, Nat.mul_one]
  | vs k' esz cs =>
    obtain ⟨rfl, rfl, rfl⟩ := h
    simp only [elemPtr]
    rw [ld_ip, List.getElem?_drop, Nat.mul_one, Nat.add_zero]
  | s v =>
    cases v with
    | slice a b c =>
      cases a with
      | none => obtain ⟨rfl, rfl, rfl⟩ := h; omega
      | some a => exact h.elim
    | _ => exact h.elim
  | _ => exact h.elim
theorem SliceIs.lda {x : AV} {m n : Nat} {cells : List AV} (h : SliceIs H x m n cells) {i : Nat} (hi : i < n) : lda m (elemPtr x i) H = some (.agg ((cells.drop (i * m)).take m), H) := by
  obtain ⟨hl, h⟩ := h
  have him : i * m + m ≤ n * m := by
    have : (i + 1) * m ≤ n * m := Nat.mul_le_mul_right _ hi
    rwa [Nat.succ_mul] at this
  cases x with
  | sl r g off esz len cap ex =>
    obtain ⟨rfl, rfl, _, ty, all, h2, h3, h4⟩ := h
    simp only [elemPtr]
    rw [lda_blk h2 (by omega), h4, List.drop_take, List.take_take, List.drop_drop, Nat.min_eq_left (by omega)]
  | vs k' esz cs =>
    obtain ⟨rfl, rfl, rfl⟩ := h
    simp only [elemPtr]
    rw [lda_ip (by rw [List.length_drop]; omega)]
  | s v =>
    cases v with
    | slice a b c =>
      cases a with
      | none => obtain ⟨rfl, rfl, rfl⟩ := h; omega
      | some a => exact h.elim
    | _ => exact h.elim
  | _ => exact h.elim
theorem drop_take_setAt {all new : List AV} {off n : Nat} (h : off + n + new.length ≤ all.length) : ((setAt all (off + n) new).drop off).take (n + new.length) = (all.drop off).take n ++ new := by
  have hl : (setAt all (off + n) new).length = all.length := setA_length (by omega)
  apply List.ext_getElem?
  intro j
  rcases Nat.lt_or_ge j n with h1 | h1
  · rw [List.getElem?_take, if_pos (by omega), List.getElem?_drop, setA_get (by omega), if_neg (by omega), List.getElem?_append_left (by rw [List.length_take, List.length_drop]; omega), List.getElem?_take, if_pos h1, List.getElem?_drop]
  · rcases Nat.lt_or_ge j (n + new.length) with h2 | h2
    · rw [List.getElem?_take, if_pos h2, List.getElem?_drop, setA_get (by omega), if_pos (by omega), List.getElem?_append_right (by rw [List.length_take, List.length_drop]; omega), List.length_take, List.length_drop]
      congr 1; omega
    · rw [List.getElem?_take, if_neg (by omega), List.getElem?_append_right (by rw [List.length_take, List.length_drop]; omega), List.length_take, List.length_drop, List.getElem?_eq_none (by omega)]
theorem all_append {l l' : List AV} (h : l.all AV.isCell = true) (h' : l'.all AV.isCell = true) : (l ++ l').all AV.isCell = true := by rw [List.all_append, h, h']; rfl
theorem all_take {l : List AV} (h : l.all AV.isCell = true) (n : Nat) : (l.take n).all AV.isCell = true := by
  rw [List.all_eq_true] at h ⊢; exact fun x hx => h x (List.mem_of_mem_take hx)
theorem all_drop {l : List AV} (h : l.all AV.isCell = true) (n : Nat) : (l.drop n).all AV.isCell = true := by
  rw [List.all_eq_true] at h ⊢; exact fun x hx => h x (List.mem_of_mem_drop hx)
/-- A slice of this call's own. -/
def Own (b : Nat) (H : AHeap) (x : AV) (m : Nat) (l : List AV) : Prop :=
  (x = zN ∧ l = []) ∨ ∃ r g off n cap ex ty all, x = .sl r g off m n cap ex ∧ b ≤ r ∧ r < H.next ∧ n ≤ cap ∧ H.get r = .blk g ty all ∧ off + cap * m ≤ all.length ∧ all.all AV.isCell = true ∧ l = (all.drop off).take (n * m)
theorem Own.app {m n k : Nat} {x y : AV} {l new : List AV} (c : Own b H x m l) (hb : H.base ≤ b) (hm : 0 < m) (hl : l.length = n * m) (hy : SliceIs H y m k new) (hc : new.all AV.isCell = true) {e : TypeId} {by_ : Nat} (h1 : n + k ≤ most) (h2 : (n + k) * by_ ≤ most) :
    ∃ x' H1, app e m by_ x y H = some (x', H1) ∧ Fit H H1 x x' m (l ++ new) ∧ H.next ≤ H1.next ∧ H1.base = H.base ∧ ∀ r, r < H.next → nameOf x ≠ some r → H1.get r = H.get r := by
  obtain ⟨c1, c2⟩ := hy.cells_
  have c3 := hy.1
  have key : Go.Proofs.YtmhbgbiaajbhnaaGreat.app e m by_ x y H = appendCells e m by_ x k new H := by simp only [Go.Proofs.YtmhbgbiaajbhnaaGreat.app, c1, c2]
  rw [key]
  unfold appendCells
  rw [if_pos ⟨c3, hc⟩]
  rcases c with ⟨rfl, rfl⟩ | ⟨r, gg, off, n', cap, ex, ty, all, rfl, k2, k3, k4, k5, k6, k7, rfl⟩
  · simp only [List.length_nil] at hl
    have hn : n = 0 := by rcases Nat.mul_eq_zero.1 hl.symm with h | h <;> omega
    subst hn
    rw [Nat.zero_add] at h1 h2
    by_cases hk : k = 0
    · subst hk
      rw [Nat.zero_mul] at c3
      have : new = [] := List.eq_nil_of_length_eq_zero c3
      subst this
      exact ⟨zN, H, by simp only [if_true], .inl ⟨rfl, rfl⟩, Nat.le_refl _, rfl, fun _ _ _ => rfl⟩
    · refine ⟨.sl H.next 0 0 m k k false, H.new (.blk 0 e new), by simp only [hk, h1, h2, and_self, if_true, if_false], .inr ⟨H.next, 0, 0, k, k, false, e, new, rfl, .inr (Nat.le_refl _), by rw [next_new]; omega, Nat.le_refl _, by simp [get_new], by omega, hc, ?_⟩, Nat.le_succ _, rfl, fun r hr _ => by rw [get_new, if_neg (by omega)]⟩
      rw [List.nil_append, List.drop_zero, List.take_of_length_le (by omega)]
  · have hcm : n' * m ≤ cap * m := Nat.mul_le_mul_right _ k4
    rw [List.length_take, List.length_drop, Nat.min_eq_left (by omega)] at hl
    have hn : n' = n := Nat.eq_of_mul_eq_mul_right hm hl
    subst hn
    simp only [k5]
    rw [if_pos ⟨trivial, trivial, by omega⟩]
    by_cases hk : k = 0
    · subst hk
      rw [Nat.zero_mul] at c3
      have : new = [] := List.eq_nil_of_length_eq_zero c3
      subst this
      exact ⟨_, H, by rw [if_pos rfl], .inr ⟨r, gg, off, n', cap, ex, ty, all, rfl, .inl rfl, k3, k4, k5, k6, k7, by rw [List.append_nil]⟩, Nat.le_refl _, rfl, fun _ _ _ => rfl⟩
    · rw [if_neg hk]
      by_cases hf : n' + k ≤ cap
      · have hfm : (n' + k) * m ≤ cap * m := Nat.mul_le_mul_right _ hf
        rw [if_pos hf, if_pos ⟨by omega, by omega⟩]
        refine ⟨_, _, rfl, .inr ⟨r, gg, off, n' + k, cap, ex, ty, setAt all (off + n' * m) new, rfl, .inl rfl, k3, hf, by rw [get_put, if_pos rfl], ?_, all_setAt k7 hc _, ?_⟩, Nat.le_refl _, rfl, fun r' hr hne => ?_⟩
        · rw [Nat.add_mul] at hfm; rw [setA_length (by omega)]; exact k6
        · rw [Nat.add_mul] at hfm ⊢; rw [← c3, drop_take_setAt (by omega)]
        · rw [get_put, if_neg]; intro e'; subst e'; exact hne rfl
      · rw [if_neg hf, if_pos ⟨h1, h2⟩]
        have e1 : ((all.drop off).take (n' * m)).length = n' * m := by rw [List.length_take, List.length_drop]; omega
        have e2 : ((all.drop off).take (n' * m) ++ new).length = (n' + k) * m := by rw [List.length_append, e1, c3, Nat.add_mul]
        cases ex with
        | true =>
          simp only [if_true]
          refine ⟨_, _, rfl, .inr ⟨H.next, 0, 0, n' + k, n' + k, false, e, (all.drop off).take (n' * m) ++ new, rfl, .inr (Nat.le_refl _), by rw [next_new]; omega, Nat.le_refl _, by simp only [get_new, if_true], by rw [e2, Nat.zero_add]; exact Nat.le_refl _, all_append (all_take (all_drop k7 _) _) hc, ?_⟩, Nat.le_succ _, rfl, fun r' hr _ => by rw [get_new, if_neg (by omega)]⟩
          rw [List.drop_zero, List.take_of_length_le (Nat.le_of_eq e2)]
        | false =>
          simp only [Bool.false_eq_true, if_false]
          rw [if_pos (by omega)]
          refine ⟨_, _, rfl, .inr ⟨r, gg + 1, 0, n' + k, n' + k, false, e, (all.drop off).take (n' * m) ++ new, rfl, .inl rfl, k3, Nat.le_refl _, by simp only [get_put, if_true], by rw [e2, Nat.zero_add]; exact Nat.le_refl _, all_append (all_take (all_drop k7 _) _) hc, ?_⟩, Nat.le_refl _, rfl, fun r' hr hne => ?_⟩
          · rw [List.drop_zero, List.take_of_length_le (Nat.le_of_eq e2)]
          · rw [get_put, if_neg]; intro e'; subst e'; exact hne rfl
theorem Cur.toOwn {i m : Nat} {x : AV} {l : List AV} (c : Cur b H q i x m l) : Own b H x m l := by
  rcases c.own with h | ⟨r, gg, off, n', cap, ex, ty, all, k0, k1, k2⟩
  · exact .inl h
  · exact .inr ⟨r, gg, off, n', cap, ex, ty, all, k0, k2⟩
theorem Cur.app {i m n k : Nat} {x y : AV} {l new : List AV} (c : Cur b H q i x m l) (hb : H.base ≤ b) (hm : 0 < m) (hl : l.length = n * m) (hy : SliceIs H y m k new) (hc : new.all AV.isCell = true) {e : TypeId} {by_ : Nat} (h1 : n + k ≤ most) (h2 : (n + k) * by_ ≤ most) :
    ∃ x' H1, app e m by_ x y H = some (x', H1) ∧ Fit H H1 x x' m (l ++ new) ∧ H.next ≤ H1.next ∧ H1.base = H.base ∧ ∀ r, r < H.next → nameOf x ≠ some r → H1.get r = H.get r :=
  c.toOwn.app hb hm hl hy hc h1 h2
/-- The slice goes on as this call's own. -/
theorem Own.step {m n k : Nat} {x y : AV} {l new : List AV} (c : Own b H x m l) (hbn : b ≤ H.next) (hb : H.base ≤ b) (hm : 0 < m) (hl : l.length = n * m) (hy : SliceIs H y m k new) (hc : new.all AV.isCell = true) {e : TypeId} {by_ : Nat} (h1 : n + k ≤ most) (h2 : (n + k) * by_ ≤ most) :
    ∃ x' H1, Go.Proofs.YtmhbgbiaajbhnaaGreat.app e m by_ x y H = some (x', H1) ∧ Own b H1 x' m (l ++ new) ∧ Step b H H1 := by
  obtain ⟨x', H1, e1, f, n1, b1, k1⟩ := c.app hb hm hl hy hc (e := e) (by_ := by_) h1 h2
  have hx : ∀ r, nameOf x = some r → b ≤ r := fun r hr => by
    rcases c with ⟨rfl, _⟩ | ⟨r', g, off, n', cap, ex, ty, all, rfl, k2, _⟩
    · cases hr
    · simp only [nameOf, Option.some.injEq] at hr; omega
  refine ⟨x', H1, e1, ?_, b1, n1, fun r hr => k1 r (by omega) fun e => by have := hx r e; omega⟩
  rcases f with f | ⟨r, g, off, n', cap, ex, ty, all, rfl, f1, f2⟩
  · exact .inl f
  · exact .inr ⟨r, g, off, n', cap, ex, ty, all, rfl, f1.elim (hx r) fun f1 => by omega, f2⟩
theorem Own.is {m n : Nat} {x : AV} {l : List AV} (c : Own b H x m l) (hm : 0 < m) (hl : l.length = n * m) : SliceIs H x m n l := by
  refine ⟨hl, ?_⟩
  rcases c with ⟨rfl, rfl⟩ | ⟨r, g, off, n', cap, ex, ty, all, rfl, k2, k3, k4, k5, k6, k7, rfl⟩
  · refine ⟨rfl, rfl, ?_⟩
    simp only [List.length_nil] at hl
    rcases Nat.mul_eq_zero.1 hl.symm with h | h <;> omega
  · have hcm : n' * m ≤ cap * m := Nat.mul_le_mul_right _ k4
    rw [List.length_take, List.length_drop, Nat.min_eq_left (by omega)] at hl
    have hn : n' = n := Nat.eq_of_mul_eq_mul_right hm hl
    subst hn
    exact ⟨rfl, rfl, ⟨k3, k4⟩, ty, all, k5, by omega, rfl⟩
theorem Own.ext {m : Nat} {x : AV} {l : List AV} (c : Own b H x m l) (hn : H.next ≤ H'.next) (hg : ∀ r, r < H.next → H'.get r = H.get r) : Own b H' x m l := by
  rcases c with h | ⟨r, g, off, n, cap, ex, ty, all, k0, k2, k3, k4, k5, k6⟩
  · exact .inl h
  · exact .inr ⟨r, g, off, n, cap, ex, ty, all, k0, k2, by omega, k4, by rw [hg r k3]; exact k5, k6⟩
theorem Own.new {m : Nat} {x : AV} {l : List AV} (c : Own b H x m l) (o : AObj) : Own b (H.new o) x m l := c.ext (Nat.le_succ _) fun r hr => by rw [get_new, if_neg (by omega)]
/-- x.f = append(x.f, y..). -/
theorem Good.append (G : Good b H g) (hb : H.base ≤ b) (h : g q = some cs) {i m n k : Nat} {l new : List AV} (hi : cs[i]? = some (.seq m l)) (hm : 0 < m) (hl : l.length = n * m) {x y : AV} (c : Cur b H q i x m l) (hy : SliceIs H y m k new) (hc : new.all AV.isCell = true) {e : TypeId} {by_ : Nat} (h1 : n + k ≤ most) (h2 : (n + k) * by_ ≤ most) :
    ∃ x' H1 H2, app e m by_ x y H = some (x', H1) ∧ st 1 (.ref q 0 i) x' H1 = some (undefA, H2) ∧ Good b H2 (upd g q (cs.set i (.seq m (l ++ new)))) ∧ Step b H H2 := by
  obtain ⟨x', H1, e1, f, n1, b1, k1⟩ := c.app hb hm hl hy hc (e := e) (by_ := by_) h1 h2
  obtain ⟨H2, e2, G2, b2, n2⟩ := G.seat h hi c n1 (by omega) k1 f
  have hb0 := G.1
  exact ⟨x', H1, H2, e1, e2, G2, Step.trans ⟨b1, n1, fun r hr => k1 r (by omega) (c.low hr)⟩ b2⟩
theorem Good.map (G : Good b H g) (h : g q = some cs) {i : Nat} {k : IntKind} {es : List (Int × AV)} (hi : cs[i]? = some (.map k es)) :
    ∃ r, ld (.ref q 0 i) H = some (.mp r, H) ∧ (∀ z n ok, lk k z (.mp r) (.s (.int k n)) ok H = some ((match findE es n with
      | some v => if ok then .tup [v, .s (.bool true)] else v
      | none => if ok then .tup [.s z, .s (.bool false)] else .s z), H)) ∧ lnM (.mp r) H = some (I es.length, H) ∧ (H.base ≤ b →
      (∀ n v, ∃ H', mup k (.mp r) (.s (.int k n)) v H = some (undefA, H') ∧ Good b H' (upd g q (cs.set i (.map k (putE es n v)))) ∧ Step b H H' ∧ H'.next = H.next) ∧
      (∀ n, ∃ H', del k (.mp r) (.s (.int k n)) H = some (.tup [], H') ∧ Good b H' (upd g q (cs.set i (.map k (dropE es n)))) ∧ Step b H H' ∧ H'.next = H.next)) := by
  obtain ⟨h0, τ, hR⟩ := G
  have R := hR q cs h
  obtain ⟨ty, xs, h1, h2, h3, h4⟩ := R.blk
  have hlt : i < xs.length := by rw [h2]; exact (List.getElem?_eq_some_iff.1 hi).1
  have hx : xs[i]? = some (xs[i]'hlt) := List.getElem?_eq_getElem hlt
  have := h4 i _ _ hi hx
  simp only [CR] at this
  obtain ⟨r, e, t1, t2, t3, t4⟩ := this
  rw [e] at hx
  have hrq : q ≠ r := by intro e; subst e; rw [R.tag] at t1; cases t1
  have put : ∀ es', Good b (H.put r (.map k es')) (upd g q (cs.set i (.map k es'))) := by
    intro es'
    refine good_upd (τ' := τ) h0 hR (Nat.le_refl _) (fun r' hr ht => ⟨rfl, ?_⟩) ⟨R.tag, R.lo, R.hi, ty, xs, by rw [get_put, if_neg hrq]; exact h1, by simp [h2], h3, fun j c y hc hy => ?_⟩
    · rw [get_put, if_neg]; intro e; subst e; exact ht _ _ _ t1
    · rcases set_cases hc with ⟨rfl, rfl⟩ | ⟨hj, hc⟩
      · rw [hx] at hy; cases hy
        exact ⟨r, rfl, t1, t2, t3, by rw [get_put, if_pos rfl]⟩
      · refine (h4 j c y hc hy).keep (Nat.le_refl _) fun r' s t hr ht => ⟨ht, ?_⟩
        rw [get_put, if_neg]; intro e; subst e
        rw [t1] at ht
        simp only [Option.some.injEq, Prod.mk.injEq, Nat.add_right_cancel_iff] at ht
        exact hj ht.2.1.symm
  refine ⟨r, by rw [ld_blk h1, hx]; rfl, fun z n ok => ?_, ?_, fun hb => ⟨fun n v => ⟨H.put r (.map k (putE es n v)), ?_, put _, Step.put _ t2, rfl⟩, fun n => ⟨H.put r (.map k (dropE es n)), ?_, put _, Step.put _ t2, rfl⟩⟩⟩
  · simp only [lk, lookB, watchV, Option.map_some, lkO, t4, and_self, if_true]
    cases findE es n <;> rfl
  · simp only [lnM, lookB, watchV, Option.map_some, lnMO, t4]
  · simp only [mup, t4]
    rw [if_pos ⟨trivial, trivial, by omega⟩]
  · simp only [del, t4]
    rw [if_pos ⟨trivial, trivial, by omega⟩]
end

end Go.Proofs.YtmhbgbiaajbhnaaGreat

namespace Go.Proofs.YtmhbgbiaajbhnaaGreat

section
variable {β : Type} {x : Option (AV × AHeap)} {H : AHeap} {k : AV → AHeap → Option β}
theorem gd_tt : gdA (some (.s (.bool true))) true x H k = bnd x k := rfl
theorem gd_tf : gdA (some (.s (.bool true))) false x H k = k undefA H := rfl
theorem gd_ft : gdA (some (.s (.bool false))) true x H k = k undefA H := rfl
theorem gd_ff : gdA (some (.s (.bool false))) false x H k = bnd x k := rfl
theorem pk_t {a b : AV} : pickA (.s (.bool true)) a b = some a := rfl
theorem pk_f {a b : AV} : pickA (.s (.bool false)) a b = some b := rfl
end
theorem nil_ref {r g o : Nat} : nilCheckA (.ref r g o) = some (.ref r g o) := rfl
theorem nil_ip {l : List AV} : nilCheckA (.ip l) = some (.ip l) := rfl
theorem nil_fn {f : FuncId} {a c : List AV} : nilCheckA (.fn (.func f) a c) = some (.fn (.func f) a c) := rfl
theorem ex_tup {l : List AV} {i : Nat} : extractA (.tup l) i = l[i]? := rfl
theorem fl_agg {l : List AV} {o : Nat} : fl (.agg l) o = l[o]? := rfl
theorem ld_ref {r g off : Nat} {H : AHeap} : ld (.ref r g off) H = match H.get r with
    | .blk g' _ cells => if g' = g then (cells[off]?).map fun v => (v, H) else none
    | .map .. => none := by
  simp only [ld, lookB, watchV, Option.map_some, ldO]
  cases H.get r with
  | map k es => rfl
  | blk g' ty cells => simp only; split <;> rfl
theorem lda_ref {r g off n : Nat} {H : AHeap} : lda n (.ref r g off) H = match H.get r with
    | .blk g' _ cells => if g' = g then (if off + n ≤ cells.length then some (.agg ((cells.drop off).take n), H) else none) else none
    | .map .. => none := by
  simp only [lda, lookB, watchV, Option.map_some, ldaO]
  cases H.get r with
  | map k es => rfl
  | blk g' ty cells =>
    simp only
    split
    · split <;> rfl
    · rfl
theorem box_agg {t : TypeId} {l : List AV} {H : AHeap} (h : l.all AV.isCell = true) : boxA t (.agg l) H = some (.ref H.next 0 0, H.new (.blk 0 t l)) := box_eq h
theorem alc_eq {t : TypeId} {z : List AV} {H : AHeap} : alc t z H = some (.ref H.next 0 0, H.new (.blk 0 t z)) := rfl
theorem mkm_eq {k : IntKind} {H : AHeap} : mkm k H = some (.mp H.next, H.new (.map k [])) := rfl
theorem leS {a b : Nat} (h : a ≤ b) : a ≤ b + 1 := by omega
theorem ltS {a b : Nat} (h : a < b) : a < b + 1 := by omega
theorem nNew {H : AHeap} {o : AObj} : (H.new o).next = H.next + 1 := Eq.trans rfl rfl
theorem nPut {H : AHeap} {r : Nat} {o : AObj} : (H.put r o).next = H.next := Eq.trans rfl rfl
theorem bNew {H : AHeap} {o : AObj} : (H.new o).base = H.base := Eq.trans rfl rfl
theorem bPut {H : AHeap} {r : Nat} {o : AObj} : (H.put r o).base = H.base := Eq.trans rfl rfl
theorem nGrd {H : AHeap} : H.guard.next = H.next := Eq.trans rfl rfl
theorem bGrd {H : AHeap} : H.guard.base = H.next := Eq.trans rfl rfl
theorem gGrd {H : AHeap} : H.guard.get = H.get := Eq.trans rfl rfl
theorem getNew_eq {H : AHeap} {o : AObj} : (H.new o).get H.next = o := by rw [get_new, if_pos rfl]
theorem getNew_is {H : AHeap} {o : AObj} {r : Nat} (h : r = H.next) : (H.new o).get r = o := by rw [get_new, if_pos h]
theorem getNew_lt {H : AHeap} {o : AObj} {r : Nat} (h : r < H.next) : (H.new o).get r = H.get r := by rw [get_new, if_neg (by omega)]
theorem getPut_eq {H : AHeap} {o : AObj} {r : Nat} : (H.put r o).get r = o := by rw [get_put, if_pos rfl]
theorem st_ref' {n r off : Nat} {v : AV} {H : AHeap} : st n (.ref r 0 off) v H = match H.get r with
    | .blk g' ty cells => if g' = 0 ∧ H.base ≤ r ∧ n = v.cells.length ∧ v.cells.all AV.isCell = true ∧ off + v.cells.length ≤ cells.length then some (undefA, H.put r (.blk 0 ty (setAt cells off v.cells))) else none
    | .map .. => none := by
  unfold st
  simp only [Option.some.injEq]
  cases H.get r <;> rfl
theorem ldN_is {H : AHeap} {r off : Nat} {ty : TypeId} {cells : List AV} (h : r = H.next) : ld (.ref r 0 off) (H.new (.blk 0 ty cells)) = (cells[off]?).map fun v => (v, H.new (.blk 0 ty cells)) := ld_blk (getNew_is h)
theorem ldaN_is {H : AHeap} {r off n : Nat} {ty : TypeId} {cells : List AV} (h : r = H.next) : lda n (.ref r 0 off) (H.new (.blk 0 ty cells)) = if off + n ≤ cells.length then some (.agg ((cells.drop off).take n), H.new (.blk 0 ty cells)) else none := by
  split
  · rename_i hl; exact lda_blk (getNew_is h) hl
  · rename_i hl; rw [lda_ref, getNew_is h]; simp only [if_true, hl, if_false]
theorem ldN_lt {H : AHeap} {r off : Nat} {o : AObj} (h : r < H.next) : ld (.ref r 0 off) (H.new o) = (ld (.ref r 0 off) H).map fun p => (p.1, H.new o) := by
  rw [ld_ref, ld_ref, getNew_lt h]
  cases H.get r with
  | map k es => rfl
  | blk g ty cells => simp only; split <;> first | rfl | (cases cells[off]? <;> rfl)
theorem ldaN_lt {H : AHeap} {r off n : Nat} {o : AObj} (h : r < H.next) : lda n (.ref r 0 off) (H.new o) = (lda n (.ref r 0 off) H).map fun p => (p.1, H.new o) := by
  rw [lda_ref, lda_ref, getNew_lt h]
  cases H.get r with
  | map k es => rfl
  | blk g ty cells => simp only; split <;> first | rfl | (split <;> rfl)
theorem put_new {H : AHeap} {a b : AObj} : (H.new a).put H.next b = H.new b := by
  unfold AHeap.put AHeap.new
  simp only
  congr 1
  funext x
  split <;> rfl
theorem put_lt {H : AHeap} {r : Nat} {a b : AObj} (h : r < H.next) : (H.new a).put r b = (H.put r b).new a := by
  unfold AHeap.put AHeap.new
  simp only
  congr 1
  funext x
  split <;> split <;> first | rfl | (exfalso; omega)
theorem stN_is {n : Nat} {H : AHeap} {r off : Nat} {v : AV} {ty : TypeId} {cells : List AV} (h : r = H.next) : st n (.ref r 0 off) v (H.new (.blk 0 ty cells)) = if H.base ≤ r ∧ n = v.cells.length ∧ v.cells.all AV.isCell = true ∧ off + v.cells.length ≤ cells.length then some (undefA, H.new (.blk 0 ty (setAt cells off v.cells))) else none := by
  subst h
  rw [st_ref', getNew_is rfl]
  simp only [true_and, bNew, put_new]
theorem stN_lt {n : Nat} {H : AHeap} {r off : Nat} {v : AV} {o : AObj} (h : r < H.next) : st n (.ref r 0 off) v (H.new o) = (st n (.ref r 0 off) v H).map fun p => (p.1, p.2.new o) := by
  rw [st_ref', st_ref', getNew_lt h]
  cases H.get r with
  | map k es => rfl
  | blk g ty cells =>
    simp only [bNew]
    split
    · simp only [Option.map_some, put_lt h]
    · rfl
theorem bsl_nil {e m : Nat} {z : List AV} {H : AHeap} : bsl e m z 0 [] H = some (.sl H.next 0 0 m 0 0 true, H.new (.blk 0 e [])) := rfl
theorem bsl_one {e m : Nat} {z : List AV} {v : AV} {H : AHeap} (hz : z.length = m) (hv : v.cells.length = m) (hc : v.cells.all AV.isCell = true) : bsl e m z 1 [(0, v)] H = some (.sl H.next 0 0 m 1 1 true, H.new (.blk 0 e v.cells)) := by
  have h1 : (zerosL z 1).length = m := by simp [zerosL, hz]
  unfold bsl
  rw [fillA]
  simp only [Nat.zero_mul, hv, h1, Nat.zero_add, Nat.le_refl, and_self, if_true, fillA]
  have : setAt (zerosL z 1) 0 v.cells = v.cells := by
    simp only [setAt, List.take_zero, List.nil_append, Nat.zero_add]
    rw [List.drop_of_length_le (by omega), List.append_nil]
  rw [this, if_pos hc]
theorem sl_new {e m n : Nat} {l : List AV} {H : AHeap} {ex : Bool} (h : l.length = n * m) : SliceIs (H.new (.blk 0 e l)) (.sl H.next 0 0 m n n ex) m n l :=
  ⟨h, rfl, rfl, ⟨by rw [nNew]; omega, Nat.le_refl _⟩, e, l, by simp [get_new], by omega, by rw [List.drop_zero, List.take_of_length_le (by omega)]⟩
theorem app_empty {e m by_ r n ty : Nat} {y : AV} {cells : List AV} {H : AHeap} (hx : H.get r = .blk 0 ty []) (hy : SliceIs H y m n cells) (hc : cells.all AV.isCell = true) (hn : n ≠ 0) (h1 : n ≤ most) (h2 : n * by_ ≤ most) :
    app e m by_ (.sl r 0 0 m 0 0 true) y H = some (.sl H.next 0 0 m n n false, H.new (.blk 0 e cells)) := by
  obtain ⟨c1, c2⟩ := hy.cells_
  simp only [app, c1, c2]
  unfold appendCells
  rw [if_pos ⟨hy.1, hc⟩]
  simp only [hx]
  rw [if_pos ⟨trivial, trivial, by simp⟩, if_neg hn, if_neg (by omega), if_pos ⟨by omega, by rw [Nat.zero_add]; exact h2⟩]
  simp
theorem app_nil {e m by_ n : Nat} {y : AV} {cells : List AV} {H : AHeap} (hy : SliceIs H y m n cells) (hc : cells.all AV.isCell = true) (hn : n ≠ 0) (h1 : n ≤ most) (h2 : n * by_ ≤ most) :
    app e m by_ zN y H = some (.sl H.next 0 0 m n n false, H.new (.blk 0 e cells)) := by
  obtain ⟨c1, c2⟩ := hy.cells_
  simp only [app, c1, c2]
  unfold appendCells
  rw [if_pos ⟨hy.1, hc⟩]
  simp only
  rw [if_neg hn, if_pos ⟨h1, h2⟩]
theorem eql_nil_vs {P : Program} {t e : TypeId} {n m : Nat} {l : List AV} (h : P.underlying t = some (.slice e)) : binA P .eql t (.vs n m l) (.s (.slice none 0 0)) = some (B false) := by
  simp [binA, AV.val?, nilEq, h]
theorem eql_nil_sl {P : Program} {t e : TypeId} {r g o m n c : Nat} {ex : Bool} (h : P.underlying t = some (.slice e)) : binA P .eql t (.sl r g o m n c ex) (.s (.slice none 0 0)) = some (B false) := by
  simp [binA, AV.val?, nilEq, h]
theorem callA_fun {P : Program} {C : Callee} {f : FuncId} {a c args : List AV} {H : AHeap} (h : enterable P f = true) : callA P C (.fn (.func f) a c) args H = C f (a ++ args ++ c) H := callA_fn h
theorem wrap_i64 {a : Int} (h1 : -9223372036854775808 ≤ a) (h2 : a ≤ 9223372036854775807) : IntKind.wrap .i64 a = a := wrap64 h1 h2

end Go.Proofs.YtmhbgbiaajbhnaaGreat

namespace Go.Proofs.YtmhbgbiaajbhnaaGreat

def SubS (g g' : Store) : Prop := ∀ q cs, g q = some cs → g' q = some cs
theorem SubS.refl (g : Store) : SubS g g := fun _ _ h => h
section
variable {b : Nat} {H H' : AHeap} {g : Store} {q : Nat} {cs : List Cell}
theorem Cur.length {i m n : Nat} {x : AV} {l : List AV} (c : Cur b H q i x m l) (hm : 0 < m) (hl : l.length = n * m) : (x = zN ∧ n = 0) ∨ ∃ r g off cap ex ty all, x = .sl r g off m n cap ex ∧ r ≠ q ∧ b ≤ r ∧ r < H.next ∧ n ≤ cap ∧ H.get r = .blk g ty all ∧ off + cap * m ≤ all.length ∧ all.all AV.isCell = true ∧ l = (all.drop off).take (n * m) := by
  rcases c.own with ⟨rfl, rfl⟩ | ⟨r, g, off, n', cap, ex, ty, all, rfl, k1, k2, k3, k4, k5, k6, k7, rfl⟩
  · left
    simp only [List.length_nil] at hl
    refine ⟨rfl, ?_⟩
    rcases Nat.mul_eq_zero.1 hl.symm with h | h <;> omega
  · right
    have h1 : n' * m ≤ cap * m := Nat.mul_le_mul_right _ k4
    rw [List.length_take, List.length_drop, Nat.min_eq_left (by omega)] at hl
    have : n' = n := Nat.eq_of_mul_eq_mul_right hm hl
    subst this
    exact ⟨r, g, off, cap, ex, ty, all, rfl, k1, k2, k3, k4, k5, k6, k7, rfl⟩
theorem slS_to {r gg off m len cap : Nat} {ex : Bool} {k2 : IntKind} {hi : Int} (h0 : 0 ≤ hi) (h2 : hi ≤ cap) : slS m (.sl r gg off m len cap ex) none (some (.s (.int k2 hi))) none = some (.sl r gg off m hi.toNat cap ex) := by
  simp only [slS, boundA, h0, if_true, isNone, Bool.not_true, Bool.or_false]
  rw [if_pos ⟨trivial, by omega, by omega, by omega, by simp⟩]
  simp
theorem slS_from {r gg off m len cap : Nat} {ex : Bool} {k1 : IntKind} {lo : Int} (h0 : 0 ≤ lo) (h1 : lo ≤ len) (h2 : len ≤ cap) : slS m (.sl r gg off m len cap ex) (some (.s (.int k1 lo))) none none = some (.sl r gg (off + lo.toNat * m) m (len - lo.toNat) (cap - lo.toNat) ex) := by
  simp only [slS, boundA, h0, if_true, isNone, Bool.not_true, Bool.or_false]
  rw [if_pos ⟨trivial, by omega, by omega, by omega, by simp⟩]
theorem mks_eq {e m by_ : Nat} {z : List AV} {n : Int} {H : AHeap} (hz : z.length = m) (hc : z.all AV.isCell = true) (h0 : 0 ≤ n) (h1 : n ≤ 1000000) (hb : by_ ≤ 1000) : mks e m by_ z (I n) (I n) H = some (.sl H.next 0 0 m n.toNat n.toNat true, H.new (.blk 0 e (zerosL z n.toNat))) := by
  have h3 : (by_ : Int) * n ≤ 140737488355328 := by
    have : (by_ : Int) * n ≤ 1000 * 1000000 := Int.mul_le_mul (by omega) h1 h0 (by omega)
    omega
  simp only [mks]
  rw [if_pos ⟨hz, hc, h0, Int.le_refl _, by omega, h3⟩]
theorem zerosL_one {v : AV} : ∀ n, zerosL [v] n = List.replicate n v
  | 0 => rfl
  | n + 1 => by rw [zerosL, zerosL_one n]; rfl
/-- x[lo:] -/
theorem SliceIs.from_ {x : AV} {m n : Nat} {cells : List AV} (h : SliceIs H x m n cells) {k : IntKind} {lo : Int} (h0 : 0 ≤ lo) (h1 : lo ≤ n) : ∃ y, slS m x (some (.s (.int k lo))) none none = some y ∧ SliceIs H y m (n - lo.toNat) (cells.drop (lo.toNat * m)) := by
  obtain ⟨hl, h⟩ := h
  have hlm : lo.toNat * m ≤ n * m := Nat.mul_le_mul_right _ (by omega)
  have hsub : (n - lo.toNat) * m = n * m - lo.toNat * m := Nat.sub_mul n lo.toNat m
  cases x with
  | sl r g off esz len cap ex =>
    obtain ⟨rfl, rfl, ⟨hr, hc⟩, ty, all, h2, h3, h4⟩ := h
    refine ⟨_, slS_from h0 h1 hc, by rw [List.length_drop, hl, hsub], rfl, rfl, ⟨hr, by omega⟩, ty, all, h2, by rw [hsub]; omega, ?_⟩
    rw [h4, List.drop_take, List.drop_drop, hsub]
  | vs k' esz cs =>
    obtain ⟨rfl, rfl, rfl⟩ := h
    refine ⟨.vs (k' - lo.toNat) esz ((cs.drop (lo.toNat * esz)).take ((k' - lo.toNat) * esz)), ?_, by rw [List.length_drop, hl, hsub], rfl, rfl, ?_⟩
    · simp only [slS, boundA, h0, if_true]
      rw [if_pos ⟨trivial, by omega, by omega⟩]
    · rw [List.take_of_length_le (by rw [List.length_drop, hl, hsub]; exact Nat.le_refl _)]
  | s v =>
    cases v with
    | slice a b c =>
      cases a with
      | none =>
        obtain ⟨rfl, rfl, rfl⟩ := h
        have h3 : lo = 0 := by omega
        subst h3
        refine ⟨zN, by simp [slS, boundA], ?_, rfl, rfl, rfl⟩
        simpa using hl
      | some a => exact h.elim
    | _ => exact h.elim
  | _ => exact h.elim
/-- copy into a block that may be written. -/
theorem cpy_eq {r g off m len cap ty n : Nat} {ex : Bool} {cells new : List AV} {y : AV} (hx : H.get r = .blk g ty cells) (hb : H.base ≤ r) (hl : off + len * m ≤ cells.length) (hy : SliceIs H y m n new) (hc : new.all AV.isCell = true) :
    ∃ H', cpy m (.sl r g off m len cap ex) y H = some (I ((min n len : Nat) : Int), H') ∧ H'.get r = .blk g ty (setAt cells off (new.take (min n len * m))) ∧ (∀ r', r' ≠ r → H'.get r' = H.get r') ∧ H'.next = H.next ∧ H'.base = H.base := by
  obtain ⟨c1, c2⟩ := hy.cells_
  have c3 := hy.1
  have s1 : sliceLen (AV.sl r g off m len cap ex) = some len := rfl
  simp only [cpy, s1, c1, c2]
  rw [if_pos ⟨c3, hc⟩]
  by_cases hk : min n len = 0
  · refine ⟨H, by rw [if_pos hk, hk]; rfl, ?_, fun _ _ => rfl, rfl, rfl⟩
    rw [hx, hk, Nat.zero_mul, List.take_zero]
    simp only [setAt, List.nil_append, List.length_nil, Nat.add_zero, List.take_append_drop]
  · rw [if_neg hk]
    simp only [hx]
    rw [if_pos ⟨trivial, trivial, hb, hl⟩]
    exact ⟨_, rfl, by rw [get_put, if_pos rfl], fun r' hr => by rw [get_put, if_neg hr], rfl, rfl⟩
end

end Go.Proofs.YtmhbgbiaajbhnaaGreat

namespace Go.Proofs.YtmhbgbiaajbhnaaGreat

structure Cfg where
  nodes : Int
  lines : Int
  words : Int
  sets : Int
  ways : Int
  out : Int
  inn : Int
  init : List Int
structure Pkt where
  kind : Int
  src : Int
  dst : Int
  id : Int
  line : Int
  ptr : Int
  state : Int
  flag : Bool
  data : List Int
  deriving DecidableEq
structure Opn where
  kind : Int
  addr : Int
  value : Int
  deriving DecidableEq
structure Evn where
  node : Int
  index : Int
  done : Bool
  value : Int
  deriving DecidableEq
structure Ent where
  fwd : Int
  back : Int
  line : Int
  used : Int
  dirty : Bool
  data : List Int
  deriving DecidableEq
structure Row where
  state : Int
  head : Int
  data : List Int
  deriving DecidableEq
structure Deal where
  kind : Int
  line : Int
  id : Int
  step : Int
  state : Int
  head : Int
  data : List Int
  next : Int
  told : Int
  deriving DecidableEq
structure Pck where
  deliver : Bool
  at_ : Int
  bit : Int
  mask : Int
/-- A slice that nobody writes any more: nil, or rows of m cells. -/
def vsl {α : Type} (m : Nat) (enc : α → List AV) (l : List α) : AV := if l = [] then zN else .vs l.length m (l.flatMap enc)
def encI (n : Int) : List AV := [I n]
def dat (l : List Int) : AV := vsl 1 encI l
def Cfg.av (c : Cfg) : List AV := [I c.nodes, I c.lines, I c.words, I c.sets, I c.ways, I c.out, I c.inn, dat c.init]
def Pkt.av (p : Pkt) : List AV := [I p.kind, I p.src, I p.dst, I p.id, I p.line, I p.ptr, I p.state, B p.flag, dat p.data]
def Opn.av (o : Opn) : List AV := [I o.kind, I o.addr, I o.value]
def Evn.av (e : Evn) : List AV := [I e.node, I e.index, B e.done, I e.value]
def Ent.av (e : Ent) : List AV := [I e.fwd, I e.back, I e.line, I e.used, B e.dirty, dat e.data]
def Row.av (r : Row) : List AV := [I r.state, I r.head, dat r.data]
def Deal.av (d : Deal) : List AV := [I d.kind, I d.line, I d.id, I d.step, I d.state, I d.head, dat d.data, I d.next, I d.told]
def Pck.av (p : Pck) : List AV := [B p.deliver, I p.at_, I p.bit, .s (.int .u16 p.mask)]
def Pkt.zero : Pkt := ⟨0, 0, 0, 0, 0, 0, 0, false, []⟩
def Opn.zero : Opn := ⟨0, 0, 0⟩
def Ent.zero : Ent := ⟨0, 0, 0, 0, false, []⟩
def Row.zero : Row := ⟨0, 0, []⟩
def Deal.zero : Deal := ⟨0, 0, 0, 0, 0, 0, [], 0, 0⟩
theorem flat_len {α : Type} {enc : α → List AV} {m : Nat} (he : ∀ a, (enc a).length = m) (l : List α) : (l.flatMap enc).length = l.length * m := flat_length he l
theorem vsl_is {α : Type} {enc : α → List AV} {m : Nat} (he : ∀ a, (enc a).length = m) (H : AHeap) (l : List α) : SliceIs H (vsl m enc l) m l.length (l.flatMap enc) := by
  unfold vsl
  split
  · rename_i h; subst h; exact SliceIs.nil
  · exact SliceIs.vs (flat_len he l)
theorem vsl_nil {α : Type} {enc : α → List AV} {m : Nat} : vsl m enc ([] : List α) = zN := by simp [vsl]
theorem vsl_cons {α : Type} {enc : α → List AV} {m : Nat} {l : List α} (h : l ≠ []) : vsl m enc l = .vs l.length m (l.flatMap enc) := by simp [vsl, h]
theorem one_vsl {α : Type} {enc : α → List AV} {m : Nat} {l : List α} : One (vsl m enc l) := by
  unfold vsl; split
  · exact one_nil
  · exact one_vs
theorem one_dat {l : List Int} : One (dat l) := one_vsl
theorem encI_len (n : Int) : (encI n).length = 1 := rfl
theorem flat_encI (l : List Int) : l.flatMap encI = l.map I := by
  induction l with
  | nil => rfl
  | cons a l ih => rw [List.flatMap_cons, ih]; rfl
theorem dat_is (H : AHeap) (l : List Int) : SliceIs H (dat l) 1 l.length (l.map I) := by
  have := vsl_is encI_len H l
  rw [flat_encI] at this; exact this
theorem av_len_pkt (p : Pkt) : p.av.length = 9 := rfl
theorem av_len_opn (p : Opn) : p.av.length = 3 := rfl
theorem av_len_evn (p : Evn) : p.av.length = 4 := rfl
theorem av_len_ent (p : Ent) : p.av.length = 6 := rfl
theorem av_len_row (p : Row) : p.av.length = 3 := rfl
theorem av_len_cfg (p : Cfg) : p.av.length = 8 := rfl
theorem av_len_deal (p : Deal) : p.av.length = 9 := rfl
theorem av_len_pck (p : Pck) : p.av.length = 4 := rfl
theorem tk_cfg (p : Cfg) : p.av.take 8 = p.av := rfl
theorem tk_pkt (p : Pkt) : p.av.take 9 = p.av := rfl
theorem tk_opn (p : Opn) : p.av.take 3 = p.av := rfl
theorem tk_evn (p : Evn) : p.av.take 4 = p.av := rfl
theorem tk_ent (p : Ent) : p.av.take 6 = p.av := rfl
theorem tk_row (p : Row) : p.av.take 3 = p.av := rfl
theorem tk_deal (p : Deal) : p.av.take 9 = p.av := rfl
theorem tk_pck (p : Pck) : p.av.take 4 = p.av := rfl
theorem cells_dat {l : List Int} : (dat l).cells = [dat l] := one_dat.1
theorem isCell_dat {l : List Int} : (dat l).isCell = true := one_dat.2
theorem cells_vsl {α : Type} {enc : α → List AV} {m : Nat} {l : List α} : (vsl m enc l).cells = [vsl m enc l] := one_vsl.1
theorem isCell_vsl {α : Type} {enc : α → List AV} {m : Nat} {l : List α} : (vsl m enc l).isCell = true := one_vsl.2
theorem all_cfg (c : Cfg) : c.av.all AV.isCell = true := by simp [Cfg.av, isCell_int, isCell_dat]
theorem all_pkt (p : Pkt) : p.av.all AV.isCell = true := by simp [Pkt.av, isCell_int, isCell_bool, isCell_dat]
theorem all_opn (p : Opn) : p.av.all AV.isCell = true := by simp [Opn.av, isCell_int]
theorem all_evn (p : Evn) : p.av.all AV.isCell = true := by simp [Evn.av, isCell_int, isCell_bool]
theorem all_ent (p : Ent) : p.av.all AV.isCell = true := by simp [Ent.av, isCell_int, isCell_bool, isCell_dat]
theorem all_row (p : Row) : p.av.all AV.isCell = true := by simp [Row.av, isCell_int, isCell_dat]
theorem all_deal (p : Deal) : p.av.all AV.isCell = true := by simp [Deal.av, isCell_int, isCell_dat]
theorem all_pck (p : Pck) : p.av.all AV.isCell = true := by simp [Pck.av, isCell_int, isCell_bool]
theorem all_flat {α : Type} {enc : α → List AV} (h : ∀ a, (enc a).all AV.isCell = true) (l : List α) : (l.flatMap enc).all AV.isCell = true := by
  rw [List.all_eq_true]
  intro x hx
  obtain ⟨a, _, ha⟩ := List.mem_flatMap.1 hx
  exact List.all_eq_true.1 (h a) x ha
theorem freeze_all {H : AHeap} {n d : Nat} : ∀ (l : List AV), (∀ x ∈ l, freezeA H n d x = some x) → l.mapM (freezeA H n d) = some l
  | [], _ => rfl
  | x :: l, h => by
    rw [List.mapM_cons, freeze_all l fun y hy => h y (by simp [hy]), h x (by simp)]
    rfl
theorem freeze_s {H : AHeap} {n d : Nat} {v : Value} : freezeA H n (d + 1) (.s v) = some (.s v) := by rw [freezeA]
theorem freeze_vs {H : AHeap} {n d k m : Nat} {l : List AV} (h : ∀ x ∈ l, freezeA H n d x = some x) : freezeA H n (d + 1) (.vs k m l) = some (.vs k m l) := by
  rw [freezeA]; simp only [freeze_all l h, Option.map_some]
theorem freeze_agg {H : AHeap} {n d : Nat} {l : List AV} (h : ∀ x ∈ l, freezeA H n d x = some x) : freezeA H n (d + 1) (.agg l) = some (.agg l) := by
  rw [freezeA]; simp only [freeze_all l h, Option.map_some]
theorem freeze_tup {H : AHeap} {n d : Nat} {l : List AV} (h : ∀ x ∈ l, freezeA H n d x = some x) : freezeA H n (d + 1) (.tup l) = some (.tup l) := by
  rw [freezeA]; simp only [freeze_all l h, Option.map_some]
theorem freeze_sl {H : AHeap} {n d r g off esz len cap : Nat} {ex : Bool} {l : List AV} (hr : n ≤ r) {cells : List AV} (hc : sliceCells H (.sl r g off esz len cap ex) = some cells) (hl : cells.mapM (freezeA H n d) = some l) : freezeA H n (d + 1) (.sl r g off esz len cap ex) = some (.vs len esz l) := by
  rw [freezeA]
  simp only [if_neg (Nat.not_lt.2 hr), hc, hl, Option.map_some]
/-- A value of numbers, texts and frozen rows. -/
def Frz (d : Nat) (x : AV) : Prop := ∀ H n, freezeA H n d x = some x
theorem frz_s {v : Value} {d : Nat} : Frz (d + 1) (.s v) := fun _ _ => freeze_s
theorem frz_vs {d k m : Nat} {l : List AV} (h : ∀ x ∈ l, Frz d x) : Frz (d + 1) (.vs k m l) := fun H n => freeze_vs fun x hx => h x hx H n
theorem frz_agg {d : Nat} {l : List AV} (h : ∀ x ∈ l, Frz d x) : Frz (d + 1) (.agg l) := fun H n => freeze_agg fun x hx => h x hx H n
theorem frz_tup {d : Nat} {l : List AV} (h : ∀ x ∈ l, Frz d x) : Frz (d + 1) (.tup l) := fun H n => freeze_tup fun x hx => h x hx H n
theorem frz_vsl {α : Type} {enc : α → List AV} {m d : Nat} {l : List α} (h : ∀ a, ∀ x ∈ enc a, Frz (d + 1) x) : Frz (d + 2) (vsl m enc l) := by
  unfold vsl; split
  · exact frz_s
  · refine frz_vs fun x hx => ?_
    obtain ⟨a, _, ha⟩ := List.mem_flatMap.1 hx
    exact h a x ha
theorem frz_dat {l : List Int} {d : Nat} : Frz (d + 2) (dat l) := frz_vsl fun a x hx => by
  simp only [encI, List.mem_singleton] at hx; subst hx; exact frz_s

end Go.Proofs.YtmhbgbiaajbhnaaGreat

namespace Go.Proofs.YtmhbgbiaajbhnaaGreat

def aget {α : Type} : List (Int × α) → Int → Option α
  | [], _ => none
  | (k, v) :: l, n => if k = n then some v else aget l n
def aput {α : Type} : List (Int × α) → Int → α → List (Int × α)
  | [], n, x => [(n, x)]
  | (k, v) :: l, n, x => if k = n then (n, x) :: l else (k, v) :: aput l n x
section
variable {α : Type} (f : α → AV)
def encM (l : List (Int × α)) : List (Int × AV) := l.map fun e => (e.1, f e.2)
theorem put_enc : ∀ (l : List (Int × α)) (n : Int) (x : α), putE (encM f l) n (f x) = encM f (aput l n x)
  | [], _, _ => rfl
  | (k, v) :: l, n, x => by
    simp only [encM, List.map_cons, putE, aput]
    by_cases h : k = n
    · simp [h]
    · simp only [h, if_false, List.map_cons, List.cons.injEq, true_and]; exact put_enc l n x
end
abbrev within (n most : Int) : Bool := decide (1 ≤ n) && decide (n ≤ most)
def Cfg.ok (c : Cfg) : Bool :=
  within c.nodes 6 && within c.lines 8 && within c.words 4 && within c.sets 4 && within c.ways 3 && within c.out 8 && within c.inn 8 && decide ((c.init.length : Int) ≤ c.lines * c.words)
def restOf (line by_ : Int) : Int := if line < 0 then -1 else line % by_
def Cfg.homeOf (c : Cfg) (line : Int) : Int := restOf line c.nodes
def Cfg.addrs (c : Cfg) : Int := c.lines * c.words
def Cfg.lineOf (c : Cfg) (a : Int) : Int := if a < 0 ∨ c.addrs ≤ a then -1 else a / c.words
def Cfg.wordOf (c : Cfg) (a : Int) : Int := if a < 0 ∨ c.addrs ≤ a then 0 else a % c.words
def Cfg.first (c : Cfg) (line : Int) : List Int :=
  if line < 0 ∨ c.lines ≤ line then [] else (List.range c.words.toNat).map fun i => c.init.getD ((line * c.words).toNat + i) 0
def Cfg.right (c : Cfg) (o : Opn) : Bool := decide (1 ≤ o.kind) && decide (o.kind ≤ 4) && decide (c.lineOf o.addr ≠ -1) && (decide (o.value = 0) || decide (o.kind = 2) || decide (o.kind = 3))
def Cfg.opsOk (c : Cfg) (ps : List (List Opn)) : Bool := (ps.all fun l => decide (l.length ≤ 24) && l.all c.right) && decide ((ps.length : Int) = c.nodes)
def Pkt.ok (p : Pkt) : Bool :=
  decide (0 ≤ p.src) && decide (p.src < 6) && decide (0 ≤ p.dst) && decide (p.dst < 6) && decide (0 ≤ p.id) && decide (p.id < 4096) && decide (1 ≤ p.kind) && decide (p.kind < 10) && decide (0 ≤ p.line) && decide (p.line < 8) &&
  decide (-1 ≤ p.ptr) && decide (p.ptr < 6) && decide (0 ≤ p.state) && decide (p.state < 3) && decide (p.data.length ≤ 4)
structure Cache where
  l : List Ent
  sets : Int
  ways : Int
  clock : Int
def Cache.at_ (c : Cache) (line : Int) : Option Nat := c.l.findIdx? fun e => decide (e.line = line)
def Cache.set_ (c : Cache) (line : Int) : List Ent := c.l.filter fun e => decide (0 ≤ line) && decide (e.line.tmod c.sets = line.tmod c.sets)
def Cache.find (c : Cache) (line : Int) : Option Ent := c.l.find? fun e => decide (e.line = line)
def Cache.full (c : Cache) (line : Int) : Bool := (c.find line).isNone && decide (c.ways ≤ (c.set_ line).length)
def Cache.put (c : Cache) (e : Ent) : Cache × Int :=
  if e.line < 0 then (c, 1) else
  match c.at_ e.line with
  | some i => ({ c with l := c.l.set i { e with used := (c.l.getD i .zero).used } }, 0)
  | none => if c.full e.line then (c, 5) else ({ c with l := c.l ++ [{ e with used := c.clock + 1 }], clock := c.clock + 1 }, 0)
def Cache.drop (c : Cache) (line : Int) : Cache :=
  match c.at_ line with
  | some i => { c with l := c.l.eraseIdx i }
  | none => c
structure Turns where
  owners : List (Int × Int)
  wait : List (Int × List (Int × Int))
def Turns.owned (t : Turns) (line : Int) : Bool := (aget t.owners line).isSome
def Turns.ws (t : Turns) (line : Int) : List (Int × Int) := (aget t.wait line).getD []
def Turns.next (t : Turns) (line : Int) : Turns × Option (Int × Int) :=
  if t.owned line then (t, none) else
  match t.ws line with
  | [] => (t, none)
  | w :: ws => ({ owners := aput t.owners line w.1, wait := aput t.wait line ws }, some w)
abbrev Rows := List (Int × Row)
structure Home where
  rows : Rows
  turns : Turns

end Go.Proofs.YtmhbgbiaajbhnaaGreat

namespace Go.Proofs.YtmhbgbiaajbhnaaGreat

structure Proc where
  ops : List Opn
  values : List Int
  begun : Bool
def Proc.left (p : Proc) : Int := (p.ops.length : Int) - p.values.length
structure Port where
  rq : List Pkt
  rin : List Pkt
  an : List Pkt
  ain : List Pkt
def Port.inOf (p : Port) (req : Bool) : List Pkt := if req then p.rin else p.ain
def Port.setIn (p : Port) (req : Bool) (l : List Pkt) : Port := if req then { p with rin := l } else { p with ain := l }
def Port.zero : Port := ⟨[], [], [], []⟩
structure Fab where
  out : Int
  inn : Int
  l : List Port
def Fab.is (f : Fab) (node : Int) : Bool := decide (0 ≤ node) && decide (node < f.l.length)
def Fab.port (f : Fab) (node : Int) : Port := f.l.getD node.toNat .zero
def Fab.room (f : Fab) (req : Bool) : Int := if req then f.inn else 1
def Fab.put (f : Fab) (node : Int) (p : Port) : Fab := { f with l := f.l.set node.toNat p }
def Fab.pools (f : Fab) : List (List Pkt) := f.l.flatMap fun p => [p.rq, p.an]
def Fab.all (f : Fab) : List Pkt := f.l.flatMap fun p => p.rq ++ p.an
def Fab.under (f : Fab) : Nat := f.all.length
def Fab.take (f : Fab) (node : Int) (req : Bool) : Fab × Option Pkt :=
  if f.is node then
    match (f.port node).inOf req with
    | [] => (f, none)
    | p :: l => (f.put node ((f.port node).setIn req l), some p)
  else (f, none)
def Fab.waiting (f : Fab) (node : Int) (req : Bool) : Nat := if f.is node then ((f.port node).inOf req).length else 0

end Go.Proofs.YtmhbgbiaajbhnaaGreat

namespace Go.Proofs.YtmhbgbiaajbhnaaGreat

def pureFns : List Nat := [
  16,
  97,
  76,
  71,
  157,
  42,
  14,
  15,
  24,
  26,
  27,
  41,
  54,
  55,
  56,
  45,
  52,
  38,
  33,
  6,
  7,
  13,
  4,
  5,
  0]
def pol : Pol := ⟨fun f => pureFns.contains f, fun _ => none⟩
noncomputable def cl : Callee := callω Tryz.prog pol
theorem run_cl {f : FuncId} {args : List AV} {H : AHeap} {r : AV × AHeap} (h1 : pol.prim f = none) (h2 : pol.pure f = false) (h : runF Tryz.prog cl f args H = some r) : cl f args H = some r := run_of h1 h2 h
theorem pure_cl {f : FuncId} {args : List AV} {H H1 : AHeap} {v v' : AV} (h1 : pol.prim f = none) (h2 : pol.pure f = true) (h : runF Tryz.prog cl f args H.guard = some (v, H1)) (hz : freezeA H1 H.next 9 v = some v') : cl f args H = some (v', H) := pure_of h1 h2 h hz
/-- A pure function whose answer is frozen as it stands. -/
theorem pure_val {f : FuncId} {args : List AV} {H : AHeap} {v : AV} {sh : Option (AV × AHeap)} (h1 : pol.prim f = none) (h2 : pol.pure f = true) (rn : ∀ {r}, sh = some r → runF Tryz.prog cl f args H.guard = some r) (h : sh.map Prod.fst = some v) (hz : Frz 9 v) : cl f args H = some (v, H) := by
  cases hs : sh with
  | none => rw [hs] at h; cases h
  | some r =>
    rw [hs] at h
    simp only [Option.map_some, Option.some.injEq] at h
    subst h
    exact pure_cl h1 h2 (rn hs) (hz _ _)

end Go.Proofs.YtmhbgbiaajbhnaaGreat

namespace Go.Proofs.YtmhbgbiaajbhnaaGreat

def an_3 : Ann := ⟨[(6, [3, 4, 5, 12, 13, 14])], [(9, [some false, some false, some true, some false, some false, some false, some false, some false, some false, some false, some false, some false, some false, some true, some false, some false, some false, some false, some false, some false, some false, some false, some false, some false, some true, some false, some false, some false, some false, some false, some false, some false, some false, some false, some false])], []⟩
noncomputable def cd_3 : Code := Tryz.f3.body.getD .skip
noncomputable def lp_3x0 (C : Callee) : List AV → AHeap → Option (AV × AHeap) := (loopsK Tryz.prog C an_3 57 cd_3 (retK Tryz.prog 57 Tryz.f3.results.toList) (fun _ _ _ => none) (retK Tryz.prog 57 Tryz.f3.results.toList)).getD 0 fun _ _ => none
noncomputable def sh_3 (C : Callee) (a0 : AV) (H : AHeap) : Option (AV × AHeap) :=
  bnd (boxA 24 a0 H) fun v1 H =>
  bnd (lda 12 v1 H) fun v8 H => bnd (C 4 [v8] H) fun v9 H => bnd (alc 26 [zI, zI, zI, zI, zI, zI, zI, zN] H) fun v3 H => bnd (st 8 v3 v9 H) fun _ H =>
  bnd (lda 12 v1 H) fun v10 H => bnd (C 5 [v10, (I 20)] H) fun v11 H =>
  bnd (lnS v11 H) fun v13 H =>
  lp_3x0 C [v3, v11, (I 0), v11, v13, (I 0)] H
theorem le_3x0 (C : Callee) (t3 t4 t5 t12 t13 t14 : AV) (H : AHeap) : lp_3x0 C [t3, t4, t5, t12, t13, t14] H =
  bo (bi .lss 3 t14 t13) fun v15 =>
  condK v15
  (bnd (ix 1 t12 t14 H) fun v16 H => bnd (ld v16 H) fun v17 H =>
   bnd (lnS v17 H) fun v20 H => bo (bi .add 3 t5 v20) fun v21 =>
   bo (bi .add 3 t14 (I 1)) fun v22 =>
   lp_3x0 C [t3, t4, v21, t12, t13, v22] H)
  (bnd (lda 8 t3 H) fun v23 H => bnd (unG H (C 6 [v23, t4] H.guard)) fun v25 H => bo (bi .add 3 t5 (I 1)) fun v27 => bo (bi .mul 3 (I 40) v27) fun v28 => bo (fieldPtr t3 0) fun v29 => bnd (ld v29 H) fun v30 H => bo (bi .add 3 v30 (I 6)) fun v31 => bo (bi .mul 3 v28 v31) fun v32 => bo (bi .eql 3 v25 v32) fun v33 => gdA (some v33) true (lda 8 t3 H) H fun v35 H => gdA (some v33) true (unG H (C 6 [v35, (.s (Go.Value.slice none 0 0))] H.guard)) H fun v36 H => gdA (some v33) true (liftO (fieldPtr t3 0) H) H fun v37 H => gdA (some v33) true (ld v37 H) H fun v38 H => gdA (some v33) true (liftO (bi .add 3 v38 (I 6)) H) H fun v39 H => gdA (some v33) true (liftO (bi .mul 3 (I 40) v39) H) H fun v40 H => gdA (some v33) true (liftO (bi .eql 3 v36 v40) H) H fun v41 H => bo (pickA v33 v41 (B false)) fun v42 => gdA (some v42) true (lda 8 t3 H) H fun v44 H => gdA (some v42) true (mks 38 3 24 [zI, zI, zI] (I 7) (I 7) H) H fun v45 H => gdA (some v42) true (bs 28 1 [(0, v45)] H) H fun v46 H => gdA (some v42) true (unG H (C 6 [v44, v46] H.guard)) H fun v47 H => gdA (some v42) true (liftO (fieldPtr t3 0) H) H fun v48 H => gdA (some v42) true (ld v48 H) H fun v49 H => gdA (some v42) true (liftO (bi .add 3 v49 (I 6)) H) H fun v50 H => gdA (some v42) true (liftO (bi .mul 3 (I 320) v50) H) H fun v51 H => gdA (some v42) true (liftO (bi .eql 3 v47 v51) H) H fun v52 H => bo (pickA v42 v52 (B false)) fun v53 => gdA (some v53) true (C 7 [] H) H fun v55 H => bo (pickA v53 v55 (B false)) fun v56 =>
   some (v56, H)) :=
  (congrFun (congrFun (congrArg (fun l => l.getD 0 fun _ _ => none) (loops_eq cd_3 (retK Tryz.prog 57 Tryz.f3.results.toList) (fun _ _ _ => none) (retK Tryz.prog 57 Tryz.f3.results.toList))) [t3, t4, t5, t12, t13, t14]) H).trans (by kernel_rfl)
theorem rn_3 (C : Callee) (a0 : AV) (H : AHeap) {r : AV × AHeap} (h : sh_3 C a0 H = some r) : runF Tryz.prog C 3 [a0] H = some r :=
  runF_K (A := an_3) (c := cd_3) Tryz.func3 (by kernel_rfl) (by kernel_rfl) (by kernel_rfl) ((show _ = sh_3 C a0 H by kernel_rfl).trans h)
def an_4 : Ann := ⟨[], [(1, [some false, some false, some true, some false, some false, some false, some true, some false, some false, some false, some true, some false, some false, some false, some true, some false, some false, some false, some true, some false, some false, some false, some true, some false, some false, some false, some true, some false, some false, none, some false])], []⟩
noncomputable def cd_4 : Code := Tryz.f4.body.getD .skip
noncomputable def sh_4 (C : Callee) (a0 : AV) (H : AHeap) : Option (AV × AHeap) :=
  bnd (boxA 24 a0 H) fun v1 H => bnd (alc 26 [zI, zI, zI, zI, zI, zI, zI, zN] H) fun v2 H =>
  bnd (alc 26 [zI, zI, zI, zI, zI, zI, zI, zN] H) fun v3 H => bo (fieldPtr v1 0) fun v4 => bnd (ld v4 H) fun v5 H => bnd (unG H (C 8 [v5, (I 4)] H.guard)) fun v6 H => bo (bi .add 3 (I 1) v6) fun v7 => bo (fieldPtr v1 1) fun v8 => bnd (ld v8 H) fun v9 H => bnd (unG H (C 8 [v9, (I 4)] H.guard)) fun v10 H => bo (bi .add 3 (I 1) v10) fun v11 => bo (fieldPtr v1 2) fun v12 => bnd (ld v12 H) fun v13 H => bnd (unG H (C 8 [v13, (I 2)] H.guard)) fun v14 H => bo (bi .add 3 (I 1) v14) fun v15 => bo (fieldPtr v1 3) fun v16 => bnd (ld v16 H) fun v17 H => bnd (unG H (C 8 [v17, (I 2)] H.guard)) fun v18 H => bo (bi .add 3 (I 1) v18) fun v19 => bo (fieldPtr v1 4) fun v20 => bnd (ld v20 H) fun v21 H => bnd (unG H (C 8 [v21, (I 2)] H.guard)) fun v22 H => bo (bi .add 3 (I 1) v22) fun v23 => bo (fieldPtr v1 5) fun v24 => bnd (ld v24 H) fun v25 H => bnd (unG H (C 8 [v25, (I 3)] H.guard)) fun v26 H => bo (bi .add 3 (I 1) v26) fun v27 => bo (fieldPtr v1 6) fun v28 => bnd (ld v28 H) fun v29 H => bnd (unG H (C 8 [v29, (I 3)] H.guard)) fun v30 H => bo (bi .add 3 (I 1) v30) fun v31 => bo (bd 26 [(0, v7), (1, v11), (2, v15), (3, v19), (4, v23), (5, v27), (6, v31)]) fun v32 => bnd (st 8 v3 v32 H) fun _ H =>
  bo (fieldPtr v1 7) fun v33 => bnd (ld v33 H) fun v34 H => bo (fieldPtr v3 1) fun v35 => bnd (ld v35 H) fun v36 H => bo (fieldPtr v3 2) fun v37 => bnd (ld v37 H) fun v38 H => bo (bi .mul 3 v36 v38) fun v39 => bnd (C 9 [v34, v39] H) fun v40 H => bo (fieldPtr v3 7) fun v41 => bnd (st 1 v41 v40 H) fun _ H =>
  bnd (lda 8 v3 H) fun v42 H => bnd (st 8 v2 v42 H) fun _ H =>
  bnd (lda 8 v2 H) fun r0 _ => some (r0, H)
theorem rn_4 (C : Callee) (a0 : AV) (H : AHeap) {r : AV × AHeap} (h : sh_4 C a0 H = some r) : runF Tryz.prog C 4 [a0] H = some r :=
  runF_K (A := an_4) (c := cd_4) Tryz.func4 (by kernel_rfl) (by kernel_rfl) (by kernel_rfl) ((show _ = sh_4 C a0 H by kernel_rfl).trans h)
def an_5 : Ann := ⟨[(5, [1, 2, 5, 6, 7])], [(6, [none, some false, some false, some false, some true, some true, some false, some false, some false, some false, some false, some true, some false, some false, some false, some false, some false, some true, some false, none, some false]), (9, [some false, some false, some false, some false, some false, some false, some false, some false, some false]), (11, [some false, some false, some false, some false, some false, some false, some false, some false, some false, some false, some false])], []⟩
noncomputable def cd_5 : Code := Tryz.f5.body.getD .skip
noncomputable def lp_5x0 (C : Callee) : List AV → AHeap → Option (AV × AHeap) := (loopsK Tryz.prog C an_5 84 cd_5 (retK Tryz.prog 84 Tryz.f5.results.toList) (fun _ _ _ => none) (retK Tryz.prog 84 Tryz.f5.results.toList)).getD 0 fun _ _ => none
noncomputable def jn_5x1 (C : Callee) (t1 t2 t5 t6 t7 : AV) (H : AHeap) : Option (AV × AHeap) :=
  bo (bi .add 3 t7 (I 1)) fun v26 =>
  lp_5x0 C [t1, t2, t5, t6, v26] H
noncomputable def jn_5x0 (C : Callee) (t1 t2 t5 t6 t7 t8 : AV) (H : AHeap) : Option (AV × AHeap) :=
  bo (fieldPtr t2 8) fun v59 => bnd (ld v59 H) fun v60 H => bnd (ix 1 v60 t7 H) fun v62 H => bnd (ld v62 H) fun v63 H => bo (fieldPtr t5 0) fun v64 => bnd (ld v64 H) fun v65 H => bnd (C 8 [v63, v65] H) fun v66 H =>
  bnd (ix 1 t6 v66 H) fun v69 H => bnd (ld v69 H) fun v70 H => bnd (lnS v70 H) fun v71 H => bo (bi .lss 3 v71 (I 24)) fun v72 =>
  condK v72
  (bnd (ix 1 t6 v66 H) fun v77 H => bnd (ld v77 H) fun v78 H => bnd (lda 3 t8 H) fun v79 H => bnd (bs 30 1 [(0, v79)] H) fun v80 H => bnd (app 38 3 24 v78 v80 H) fun v81 H => bnd (ix 1 t6 v66 H) fun v82 H => bnd (st 1 v82 v81 H) fun _ H =>
   jn_5x1 C t1 t2 t5 t6 t7 H)
  (jn_5x1 C t1 t2 t5 t6 t7 H)
noncomputable def sh_5 (C : Callee) (a0 a1 : AV) (H : AHeap) : Option (AV × AHeap) :=
  bnd (boxA 24 a0 H) fun v2 H =>
  bnd (lda 12 v2 H) fun v10 H => bnd (C 4 [v10] H) fun v11 H => bnd (alc 26 [zI, zI, zI, zI, zI, zI, zI, zN] H) fun v5 H => bnd (st 8 v5 v11 H) fun _ H =>
  bo (fieldPtr v5 0) fun v12 => bnd (ld v12 H) fun v13 H => bnd (mks 30 1 24 [zN] v13 v13 H) fun v14 H =>
  lp_5x0 C [a1, v2, v5, v14, (I 0)] H
theorem le_5x0 (C : Callee) (t1 t2 t5 t6 t7 : AV) (H : AHeap) : lp_5x0 C [t1, t2, t5, t6, t7] H =
  bo (fieldPtr t2 8) fun v16 => bnd (ld v16 H) fun v17 H => bnd (lnS v17 H) fun v18 H => bo (bi .lss 3 t7 v18) fun v19 => gdA (some v19) true (liftO (some t7) H) H fun v21 H => gdA (some v19) true (liftO (some t1) H) H fun v22 H => gdA (some v19) true (liftO (bi .lss 3 v21 v22) H) H fun v23 H => bo (pickA v19 v23 (B false)) fun v24 =>
  condK v24
  (bnd (bs 22 7 [(0, (I 1)), (1, (I 2)), (2, (I 3)), (3, (I 1)), (4, (I 2)), (5, (I 1)), (6, (I 4))] H) fun v27 H => bnd (alc 38 [zI, zI, zI] H) fun v8 H => bo (fieldPtr t2 9) fun v28 => bnd (ld v28 H) fun v29 H => bnd (unG H (C 10 [v29, t7] H.guard)) fun v31 H => bnd (unG H (C 8 [v31, (I 7)] H.guard)) fun v32 H => bnd (ix 1 v27 v32 H) fun v33 H => bnd (ld v33 H) fun v34 H => bo (fieldPtr t2 10) fun v35 => bnd (ld v35 H) fun v36 H => bnd (unG H (C 10 [v36, t7] H.guard)) fun v38 H => bo (fieldPtr t5 1) fun v39 => bnd (ld v39 H) fun v40 H => bo (fieldPtr t5 2) fun v41 => bnd (ld v41 H) fun v42 H => bo (bi .mul 3 v40 v42) fun v43 => bnd (unG H (C 8 [v38, v43] H.guard)) fun v44 H => bo (bd 38 [(0, v34), (1, v44)]) fun v45 => bnd (st 3 v8 v45 H) fun _ H =>
   bo (fieldPtr v8 0) fun v46 => bnd (ld v46 H) fun v47 H => bo (bi .eql 3 v47 (I 2)) fun v48 => gdA (some v48) false (liftO (fieldPtr v8 0) H) H fun v50 H => gdA (some v48) false (ld v50 H) H fun v51 H => gdA (some v48) false (liftO (bi .eql 3 v51 (I 3)) H) H fun v52 H => bo (pickA v48 (B true) v52) fun v53 =>
   condK v53
   (bo (fieldPtr t2 11) fun v54 => bnd (ld v54 H) fun v55 H => bnd (C 10 [v55, t7] H) fun v57 H => bo (fieldPtr v8 2) fun v58 => bnd (st 1 v58 v57 H) fun _ H =>
    jn_5x0 C t1 t2 t5 t6 t7 v8 H)
   (jn_5x0 C t1 t2 t5 t6 t7 v8 H))
  (some (t6, H)) :=
  (congrFun (congrFun (congrArg (fun l => l.getD 0 fun _ _ => none) (loops_eq cd_5 (retK Tryz.prog 84 Tryz.f5.results.toList) (fun _ _ _ => none) (retK Tryz.prog 84 Tryz.f5.results.toList))) [t1, t2, t5, t6, t7]) H).trans (by kernel_rfl)
theorem rn_5 (C : Callee) (a0 a1 : AV) (H : AHeap) {r : AV × AHeap} (h : sh_5 C a0 a1 H = some r) : runF Tryz.prog C 5 [a0, a1] H = some r :=
  runF_K (A := an_5) (c := cd_5) Tryz.func5 (by kernel_rfl) (by kernel_rfl) (by kernel_rfl) ((show _ = sh_5 C a0 a1 H by kernel_rfl).trans h)
def an_6 : Ann := ⟨[(4, [2, 5, 8, 9, 10])], [], []⟩
noncomputable def cd_6 : Code := Tryz.f6.body.getD .skip
noncomputable def lp_6x0 (C : Callee) : List AV → AHeap → Option (AV × AHeap) := (loopsK Tryz.prog C an_6 26 cd_6 (retK Tryz.prog 26 Tryz.f6.results.toList) (fun _ _ _ => none) (retK Tryz.prog 26 Tryz.f6.results.toList)).getD 0 fun _ _ => none
noncomputable def sh_6 (C : Callee) (a0 a1 : AV) (H : AHeap) : Option (AV × AHeap) :=
  bnd (boxA 26 a0 H) fun v2 H =>
  bnd (lnS a1 H) fun v9 H =>
  lp_6x0 C [v2, (I 0), a1, v9, (I 0)] H
theorem le_6x0 (C : Callee) (t2 t5 t8 t9 t10 : AV) (H : AHeap) : lp_6x0 C [t2, t5, t8, t9, t10] H =
  bo (bi .lss 3 t10 t9) fun v11 =>
  condK v11
  (bnd (ix 1 t8 t10 H) fun v12 H => bnd (ld v12 H) fun v13 H =>
   bnd (lnS v13 H) fun v16 H => bo (bi .add 3 t5 v16) fun v17 =>
   bo (bi .add 3 t10 (I 1)) fun v18 =>
   lp_6x0 C [t2, v17, t8, t9, v18] H)
  (bo (bi .add 3 t5 (I 1)) fun v20 => bo (bi .mul 3 (I 40) v20) fun v21 => bo (fieldPtr t2 0) fun v22 => bnd (ld v22 H) fun v23 H => bo (bi .add 3 v23 (I 6)) fun v24 => bo (bi .mul 3 v21 v24) fun v25 =>
   some (v25, H)) :=
  (congrFun (congrFun (congrArg (fun l => l.getD 0 fun _ _ => none) (loops_eq cd_6 (retK Tryz.prog 26 Tryz.f6.results.toList) (fun _ _ _ => none) (retK Tryz.prog 26 Tryz.f6.results.toList))) [t2, t5, t8, t9, t10]) H).trans (by kernel_rfl)
theorem rn_6 (C : Callee) (a0 a1 : AV) (H : AHeap) {r : AV × AHeap} (h : sh_6 C a0 a1 H = some r) : runF Tryz.prog C 6 [a0, a1] H = some r :=
  runF_K (A := an_6) (c := cd_6) Tryz.func6 (by kernel_rfl) (by kernel_rfl) (by kernel_rfl) ((show _ = sh_6 C a0 a1 H by kernel_rfl).trans h)
def an_7 : Ann := ⟨[], [], []⟩
noncomputable def cd_7 : Code := Tryz.f7.body.getD .skip
noncomputable def sh_7 (C : Callee) (H : AHeap) : Option (AV × AHeap) :=
  bo (bd 26 [(0, (I 1)), (1, (I 1)), (2, (I 1)), (3, (I 1)), (4, (I 1)), (5, (I 1)), (6, (I 1))]) fun v4 => bnd (alc 26 [zI, zI, zI, zI, zI, zI, zI, zN] H) fun v1 H => bnd (st 8 v1 v4 H) fun _ H =>
  bnd (lda 8 v1 H) fun v6 H => bnd (bs 28 1 [(0, (.s (Go.Value.slice none 0 0)))] H) fun v7 H => bnd (C 11 [v6, v7] H) fun v8 H => bo (extractA v8 0) fun v9 => bo (extractA v8 1) fun v10 =>
  bo (bi .eql 40 v10 (I 0)) fun v12 => gdA (some v12) true (liftO (some v9) H) H fun v14 H => gdA (some v12) true (liftO (bi .neq 39 v14 (.s (Go.Value.pointer none))) H) H fun v15 H => bo (pickA v12 v15 (B false)) fun v16 => gdA (some v16) true (liftO (some v9) H) H fun v18 H => gdA (some v16) true (C 12 [v18, (I 9), (.s (Go.Value.slice none 0 0))] H) H fun v19 H => gdA (some v16) true (liftO (bi .eql 3 v19 (I 0)) H) H fun v20 H => bo (pickA v16 v20 (B false)) fun v21 => gdA (some v21) true (lda 8 v1 H) H fun v23 H => gdA (some v21) true (bs 28 1 [(0, (.s (Go.Value.slice none 0 0)))] H) H fun v24 H => gdA (some v21) true (C 6 [v23, v24] H) H fun v25 H => gdA (some v21) true (liftO (bi .eql 3 v25 (I 280)) H) H fun v26 H => bo (pickA v21 v26 (B false)) fun v27 =>
  some (v27, H)
theorem rn_7 (C : Callee) (H : AHeap) {r : AV × AHeap} (h : sh_7 C H = some r) : runF Tryz.prog C 7 [] H = some r :=
  runF_K (A := an_7) (c := cd_7) Tryz.func7 (by kernel_rfl) (by kernel_rfl) (by kernel_rfl) ((show _ = sh_7 C H by kernel_rfl).trans h)
def an_8 : Ann := ⟨[], [], []⟩
noncomputable def cd_8 : Code := Tryz.f8.body.getD .skip
noncomputable def jn_8x0 (C : Callee) (t5 : AV) (H : AHeap) : Option (AV × AHeap) :=
  some (t5, H)
noncomputable def sh_8 (C : Callee) (a0 a1 : AV) (H : AHeap) : Option (AV × AHeap) :=
  bo (bi .lss 3 a1 (I 1)) fun v7 =>
  condK v7
  (some ((I 0), H))
  (bo (bi .rem 3 a0 a1) fun v10 =>
   bo (bi .lss 3 v10 (I 0)) fun v12 =>
   condK v12
   (bo (bi .add 3 v10 a1) fun v15 =>
    jn_8x0 C v15 H)
   (jn_8x0 C v10 H))
theorem rn_8 (C : Callee) (a0 a1 : AV) (H : AHeap) {r : AV × AHeap} (h : sh_8 C a0 a1 H = some r) : runF Tryz.prog C 8 [a0, a1] H = some r :=
  runF_K (A := an_8) (c := cd_8) Tryz.func8 (by kernel_rfl) (by kernel_rfl) (by kernel_rfl) ((show _ = sh_8 C a0 a1 H by kernel_rfl).trans h)
def an_9 : Ann := ⟨[], [], []⟩
noncomputable def cd_9 : Code := Tryz.f9.body.getD .skip
noncomputable def sh_9 (C : Callee) (a0 a1 : AV) (H : AHeap) : Option (AV × AHeap) :=
  bnd (lnS a0 H) fun v7 H => bnd (liftO (minMaxA Tryz.prog false #[3, 3] 3 [v7, a1]) H) fun v9 H => bo (slS 1 a0 none (some v9) none) fun v10 => bnd (C 13 [v10] H) fun v11 H =>
  some (v11, H)
theorem rn_9 (C : Callee) (a0 a1 : AV) (H : AHeap) {r : AV × AHeap} (h : sh_9 C a0 a1 H = some r) : runF Tryz.prog C 9 [a0, a1] H = some r :=
  runF_K (A := an_9) (c := cd_9) Tryz.func9 (by kernel_rfl) (by kernel_rfl) (by kernel_rfl) ((show _ = sh_9 C a0 a1 H by kernel_rfl).trans h)
def an_10 : Ann := ⟨[], [], []⟩
noncomputable def cd_10 : Code := Tryz.f10.body.getD .skip
noncomputable def sh_10 (C : Callee) (a0 a1 : AV) (H : AHeap) : Option (AV × AHeap) :=
  bnd (lnS a0 H) fun v7 H => bo (bi .lss 3 a1 v7) fun v8 =>
  condK v8
  (bnd (ix 1 a0 a1 H) fun v11 H => bnd (ld v11 H) fun v12 H =>
   some (v12, H))
  (some ((I 0), H))
theorem rn_10 (C : Callee) (a0 a1 : AV) (H : AHeap) {r : AV × AHeap} (h : sh_10 C a0 a1 H = some r) : runF Tryz.prog C 10 [a0, a1] H = some r :=
  runF_K (A := an_10) (c := cd_10) Tryz.func10 (by kernel_rfl) (by kernel_rfl) (by kernel_rfl) ((show _ = sh_10 C a0 a1 H by kernel_rfl).trans h)
def an_11 : Ann := ⟨[(11, [2, 8, 32, 33, 34])], [(8, [some false, some true, some true, some false, some false, some false, some false]), (12, [some false, some false, some false, some false, some false, some false, some false, some false, some true, some false, some false, some false, some false, some false])], []⟩
noncomputable def cd_11 : Code := Tryz.f11.body.getD .skip
noncomputable def lp_11x0 (C : Callee) : List AV → AHeap → Option (AV × AHeap) := (loopsK Tryz.prog C an_11 54 cd_11 (retK Tryz.prog 54 Tryz.f11.results.toList) (fun _ _ _ => none) (retK Tryz.prog 54 Tryz.f11.results.toList)).getD 0 fun _ _ => none
noncomputable def sh_11 (C : Callee) (a0 a1 : AV) (H : AHeap) : Option (AV × AHeap) :=
  bnd (boxA 26 a0 H) fun v2 H =>
  bnd (lda 8 v2 H) fun v11 H => bnd (C 14 [v11] H) fun v12 H =>
  bo (bi .neq 40 v12 (I 0)) fun v14 =>
  condK v14
  (some (.tup [(.s (Go.Value.pointer none)), v12], H))
  (bnd (lda 8 v2 H) fun v16 H => bnd (C 15 [v16, a1] H) fun v18 H =>
   bo (bi .neq 40 v18 (I 0)) fun v20 =>
   condK v20
   (some (.tup [(.s (Go.Value.pointer none)), v18], H))
   (bo (fieldPtr v2 7) fun v22 => bnd (ld v22 H) fun v23 H => bnd (C 16 [v23] H) fun v24 H => bo (fieldPtr v2 7) fun v25 => bnd (st 1 v25 v24 H) fun _ H =>
    bnd (lda 8 v2 H) fun v26 H => bnd (unG H (C 17 [v26] H.guard)) fun v27 H => bnd (unG H (C 18 [] H.guard)) fun v28 H => bnd (lda 8 v2 H) fun v29 H => bo (bd 53 [(0, v27), (1, v28), (2, v29)]) fun v30 => bnd (boxA 53 v30 H) fun v31 H =>
    bnd (lnS a1 H) fun v33 H =>
    lp_11x0 C [v2, v31, a1, v33, (I 0)] H))
theorem le_11x0 (C : Callee) (t2 t8 t32 t33 t34 : AV) (H : AHeap) : lp_11x0 C [t2, t8, t32, t33, t34] H =
  bo (bi .lss 3 t34 t33) fun v35 =>
  condK v35
  (bnd (ix 1 t32 t34 H) fun v37 H => bnd (ld v37 H) fun v38 H =>
   bo (nilCheckA t8) fun v41 => bo (fieldPtr v41 10) fun v42 => bnd (ld v42 H) fun v43 H => bnd (lda 8 t2 H) fun v44 H => bnd (unG H (C 19 [v44, t34, v38] H.guard)) fun v47 H => bnd (bs 51 1 [(0, v47)] H) fun v48 H => bnd (app 54 1 8 v43 v48 H) fun v49 H => bo (nilCheckA t8) fun v50 => bo (fieldPtr v50 10) fun v51 => bnd (st 1 v51 v49 H) fun _ H =>
   bo (bi .add 3 t34 (I 1)) fun v52 =>
   lp_11x0 C [t2, t8, t32, t33, v52] H)
  (some (.tup [t8, (I 0)], H)) :=
  (congrFun (congrFun (congrArg (fun l => l.getD 0 fun _ _ => none) (loops_eq cd_11 (retK Tryz.prog 54 Tryz.f11.results.toList) (fun _ _ _ => none) (retK Tryz.prog 54 Tryz.f11.results.toList))) [t2, t8, t32, t33, t34]) H).trans (by kernel_rfl)
theorem rn_11 (C : Callee) (a0 a1 : AV) (H : AHeap) {r : AV × AHeap} (h : sh_11 C a0 a1 H = some r) : runF Tryz.prog C 11 [a0, a1] H = some r :=
  runF_K (A := an_11) (c := cd_11) Tryz.func11 (by kernel_rfl) (by kernel_rfl) (by kernel_rfl) ((show _ = sh_11 C a0 a1 H by kernel_rfl).trans h)
def an_12 : Ann := ⟨[(3, [0, 1, 2, 7])], [], []⟩
noncomputable def cd_12 : Code := Tryz.f12.body.getD .skip
noncomputable def lp_12x0 (C : Callee) : List AV → AHeap → Option (AV × AHeap) := (loopsK Tryz.prog C an_12 31 cd_12 (retK Tryz.prog 31 Tryz.f12.results.toList) (fun _ _ _ => none) (retK Tryz.prog 31 Tryz.f12.results.toList)).getD 0 fun _ _ => none
noncomputable def jn_12x0 (C : Callee) (t0 t1 t2 t7 t8 : AV) (H : AHeap) : Option (AV × AHeap) :=
  bnd (C 21 [t0, t8] H) fun v27 H =>
  bo (bi .add 3 t7 (I 1)) fun v29 =>
  lp_12x0 C [t0, t1, t2, v29] H
noncomputable def sh_12 (C : Callee) (a0 a1 a2 : AV) (H : AHeap) : Option (AV × AHeap) :=
  lp_12x0 C [a0, a1, a2, (I 0)] H
theorem le_12x0 (C : Callee) (t0 t1 t2 t7 : AV) (H : AHeap) : lp_12x0 C [t0, t1, t2, t7] H =
  bo (bi .lss 3 t7 t1) fun v11 => gdA (some v11) true (liftO (some t0) H) H fun v13 H => gdA (some v11) true (C 20 [v13] H) H fun v14 H => gdA (some v11) true (liftO (un .not v14) H) H fun v15 H => bo (pickA v11 v15 (B false)) fun v16 =>
  condK v16
  (bnd (lnS t2 H) fun v19 H => bo (bi .lss 3 t7 v19) fun v20 =>
   condK v20
   (bnd (ix 1 t2 t7 H) fun v23 H => bnd (ld v23 H) fun v24 H =>
    jn_12x0 C t0 t1 t2 t7 v24 H)
   (jn_12x0 C t0 t1 t2 t7 (I 0) H))
  (some (t7, H)) :=
  (congrFun (congrFun (congrArg (fun l => l.getD 0 fun _ _ => none) (loops_eq cd_12 (retK Tryz.prog 31 Tryz.f12.results.toList) (fun _ _ _ => none) (retK Tryz.prog 31 Tryz.f12.results.toList))) [t0, t1, t2, t7]) H).trans (by kernel_rfl)
theorem rn_12 (C : Callee) (a0 a1 a2 : AV) (H : AHeap) {r : AV × AHeap} (h : sh_12 C a0 a1 a2 H = some r) : runF Tryz.prog C 12 [a0, a1, a2] H = some r :=
  runF_K (A := an_12) (c := cd_12) Tryz.func12 (by kernel_rfl) (by kernel_rfl) (by kernel_rfl) ((show _ = sh_12 C a0 a1 a2 H by kernel_rfl).trans h)
def an_13 : Ann := ⟨[], [], []⟩
noncomputable def cd_13 : Code := Tryz.f13.body.getD .skip
noncomputable def sh_13 (C : Callee) (a0 : AV) (H : AHeap) : Option (AV × AHeap) :=
  bnd (app 3 1 8 (.s (Go.Value.slice none 0 0)) a0 H) fun v4 H =>
  some (v4, H)
theorem rn_13 (C : Callee) (a0 : AV) (H : AHeap) {r : AV × AHeap} (h : sh_13 C a0 H = some r) : runF Tryz.prog C 13 [a0] H = some r :=
  runF_K (A := an_13) (c := cd_13) Tryz.func13 (by kernel_rfl) (by kernel_rfl) (by kernel_rfl) ((show _ = sh_13 C a0 H by kernel_rfl).trans h)
def an_14 : Ann := ⟨[], [], []⟩
noncomputable def cd_14 : Code := Tryz.f14.body.getD .skip
noncomputable def sh_14 (C : Callee) (a0 : AV) (H : AHeap) : Option (AV × AHeap) :=
  bnd (boxA 26 a0 H) fun v1 H =>
  bo (fieldPtr v1 0) fun v6 => bnd (ld v6 H) fun v7 H => bnd (C 22 [v7, (I 6)] H) fun v8 H => gdA (some v8) true (liftO (fieldPtr v1 1) H) H fun v10 H => gdA (some v8) true (ld v10 H) H fun v11 H => gdA (some v8) true (C 22 [v11, (I 8)] H) H fun v12 H => bo (pickA v8 v12 (B false)) fun v13 => gdA (some v13) true (liftO (fieldPtr v1 2) H) H fun v15 H => gdA (some v13) true (ld v15 H) H fun v16 H => gdA (some v13) true (C 22 [v16, (I 4)] H) H fun v17 H => bo (pickA v13 v17 (B false)) fun v18 =>
  bo (fieldPtr v1 3) fun v19 => bnd (ld v19 H) fun v20 H => bnd (C 22 [v20, (I 4)] H) fun v21 H => gdA (some v21) true (liftO (fieldPtr v1 4) H) H fun v23 H => gdA (some v21) true (ld v23 H) H fun v24 H => gdA (some v21) true (C 22 [v24, (I 3)] H) H fun v25 H => bo (pickA v21 v25 (B false)) fun v26 =>
  bo (fieldPtr v1 5) fun v27 => bnd (ld v27 H) fun v28 H => bnd (C 22 [v28, (I 8)] H) fun v29 H => gdA (some v29) true (liftO (fieldPtr v1 6) H) H fun v31 H => gdA (some v29) true (ld v31 H) H fun v32 H => gdA (some v29) true (C 22 [v32, (I 8)] H) H fun v33 H => bo (pickA v29 v33 (B false)) fun v34 =>
  bo (un .not v18) fun v36 => gdA (some v36) false (liftO (some v26) H) H fun v38 H => gdA (some v36) false (liftO (un .not v38) H) H fun v39 H => bo (pickA v36 (B true) v39) fun v40 => gdA (some v40) false (liftO (some v34) H) H fun v42 H => gdA (some v40) false (liftO (un .not v42) H) H fun v43 H => bo (pickA v40 (B true) v43) fun v44 => gdA (some v44) false (liftO (fieldPtr v1 7) H) H fun v46 H => gdA (some v44) false (ld v46 H) H fun v47 H => gdA (some v44) false (lnS v47 H) H fun v48 H => gdA (some v44) false (liftO (fieldPtr v1 1) H) H fun v49 H => gdA (some v44) false (ld v49 H) H fun v50 H => gdA (some v44) false (liftO (fieldPtr v1 2) H) H fun v51 H => gdA (some v44) false (ld v51 H) H fun v52 H => gdA (some v44) false (liftO (bi .mul 3 v50 v52) H) H fun v53 H => gdA (some v44) false (liftO (bi .gtr 3 v48 v53) H) H fun v54 H => bo (pickA v44 (B true) v54) fun v55 =>
  condK v55
  (some ((I 1), H))
  (some ((I 0), H))
theorem rn_14 (C : Callee) (a0 : AV) (H : AHeap) {r : AV × AHeap} (h : sh_14 C a0 H = some r) : runF Tryz.prog C 14 [a0] H = some r :=
  runF_K (A := an_14) (c := cd_14) Tryz.func14 (by kernel_rfl) (by kernel_rfl) (by kernel_rfl) ((show _ = sh_14 C a0 H by kernel_rfl).trans h)
def an_15 : Ann := ⟨[], [], []⟩
noncomputable def cd_15 : Code := Tryz.f15.body.getD .skip
noncomputable def sh_15 (C : Callee) (a0 a1 : AV) (H : AHeap) : Option (AV × AHeap) :=
  bnd (boxA 26 a0 H) fun v2 H =>
  bnd (C 23 [a1, (.fn (.func 24) [] [v2])] H) fun v8 H =>
  gdA (some v8) false (liftO (some a1) H) H fun v11 H => gdA (some v8) false (lnS v11 H) H fun v12 H => gdA (some v8) false (liftO (fieldPtr v2 0) H) H fun v13 H => gdA (some v8) false (ld v13 H) H fun v14 H => gdA (some v8) false (liftO (bi .neq 3 v12 v14) H) H fun v15 H => bo (pickA v8 (B true) v15) fun v16 =>
  condK v16
  (some ((I 1), H))
  (some ((I 0), H))
theorem rn_15 (C : Callee) (a0 a1 : AV) (H : AHeap) {r : AV × AHeap} (h : sh_15 C a0 a1 H = some r) : runF Tryz.prog C 15 [a0, a1] H = some r :=
  runF_K (A := an_15) (c := cd_15) Tryz.func15 (by kernel_rfl) (by kernel_rfl) (by kernel_rfl) ((show _ = sh_15 C a0 a1 H by kernel_rfl).trans h)
def an_16 : Ann := ⟨[], [], []⟩
noncomputable def cd_16 : Code := Tryz.f16.body.getD .skip
noncomputable def sh_16 (C : Callee) (a0 : AV) (H : AHeap) : Option (AV × AHeap) :=
  bo (bi .eql 22 a0 (.s (Go.Value.slice none 0 0))) fun v4 =>
  condK v4
  (some ((.s (Go.Value.slice none 0 0)), H))
  (bnd (bs 22 0 [] H) fun v5 H => bnd (app 3 1 8 v5 a0 H) fun v7 H =>
   some (v7, H))
theorem rn_16 (C : Callee) (a0 : AV) (H : AHeap) {r : AV × AHeap} (h : sh_16 C a0 H = some r) : runF Tryz.prog C 16 [a0] H = some r :=
  runF_K (A := an_16) (c := cd_16) Tryz.func16 (by kernel_rfl) (by kernel_rfl) (by kernel_rfl) ((show _ = sh_16 C a0 H by kernel_rfl).trans h)
def an_17 : Ann := ⟨[(4, [1, 3, 7, 8])], [(4, [some false, some false, some false, some false, some false, some false, some false, some true, some false, some false, some true, some false, some false, some false, some true, some true, some false, some false, some false, some false, some false, some false, some false])], []⟩
noncomputable def cd_17 : Code := Tryz.f17.body.getD .skip
noncomputable def lp_17x0 (C : Callee) : List AV → AHeap → Option (AV × AHeap) := (loopsK Tryz.prog C an_17 34 cd_17 (retK Tryz.prog 34 Tryz.f17.results.toList) (fun _ _ _ => none) (retK Tryz.prog 34 Tryz.f17.results.toList)).getD 0 fun _ _ => none
noncomputable def sh_17 (C : Callee) (a0 : AV) (H : AHeap) : Option (AV × AHeap) :=
  bnd (boxA 26 a0 H) fun v1 H =>
  bo (bd 66 []) fun v4 => bnd (boxA 66 v4 H) fun v5 H =>
  bo (fieldPtr v1 0) fun v6 => bnd (ld v6 H) fun v7 H =>
  lp_17x0 C [v1, v5, v7, (I 0)] H
theorem le_17x0 (C : Callee) (t1 t3 t7 t8 : AV) (H : AHeap) : lp_17x0 C [t1, t3, t7, t8] H =
  bo (bi .lss 3 t8 t7) fun v9 =>
  condK v9
  (bo (nilCheckA t3) fun v12 => bo (fieldPtr v12 0) fun v13 => bnd (ld v13 H) fun v14 H => bo (fieldPtr t1 5) fun v15 => bnd (ld v15 H) fun v16 H => bnd (unG H (C 28 [v16] H.guard)) fun v17 H => bo (fieldPtr t1 6) fun v18 => bnd (ld v18 H) fun v19 H => bnd (unG H (C 29 [v19] H.guard)) fun v20 H => bo (bd 72 [(0, v17), (1, v20)]) fun v21 => bo (fieldPtr t1 5) fun v22 => bnd (ld v22 H) fun v23 H => bnd (unG H (C 28 [v23] H.guard)) fun v24 H => bnd (unG H (C 29 [(I 1)] H.guard)) fun v25 H => bo (bd 72 [(0, v24), (1, v25)]) fun v26 => bo (bd 74 [(0, v21), (1, v26)]) fun v27 => bnd (bs 64 1 [(0, v27)] H) fun v28 H => bnd (app 74 4 32 v14 v28 H) fun v29 H => bo (nilCheckA t3) fun v30 => bo (fieldPtr v30 0) fun v31 => bnd (st 1 v31 v29 H) fun _ H =>
   bo (bi .add 3 t8 (I 1)) fun v32 =>
   lp_17x0 C [t1, t3, t7, v32] H)
  (some (t3, H)) :=
  (congrFun (congrFun (congrArg (fun l => l.getD 0 fun _ _ => none) (loops_eq cd_17 (retK Tryz.prog 34 Tryz.f17.results.toList) (fun _ _ _ => none) (retK Tryz.prog 34 Tryz.f17.results.toList))) [t1, t3, t7, t8]) H).trans (by kernel_rfl)
theorem rn_17 (C : Callee) (a0 : AV) (H : AHeap) {r : AV × AHeap} (h : sh_17 C a0 H = some r) : runF Tryz.prog C 17 [a0] H = some r :=
  runF_K (A := an_17) (c := cd_17) Tryz.func17 (by kernel_rfl) (by kernel_rfl) (by kernel_rfl) ((show _ = sh_17 C a0 H by kernel_rfl).trans h)
def an_18 : Ann := ⟨[], [], []⟩
noncomputable def cd_18 : Code := Tryz.f18.body.getD .skip
noncomputable def sh_18 (C : Callee) (H : AHeap) : Option (AV × AHeap) :=
  bo (bd 77 []) fun v1 => bnd (boxA 77 v1 H) fun v2 H =>
  some (v2, H)
theorem rn_18 (C : Callee) (H : AHeap) {r : AV × AHeap} (h : sh_18 C H = some r) : runF Tryz.prog C 18 [] H = some r :=
  runF_K (A := an_18) (c := cd_18) Tryz.func18 (by kernel_rfl) (by kernel_rfl) (by kernel_rfl) ((show _ = sh_18 C H by kernel_rfl).trans h)
def an_19 : Ann := ⟨[], [(1, [some false, some false, some false, some false, some true, some false, some true, some false, some false, some false, some false, some true, some false, some false, some false, some false])], []⟩
noncomputable def cd_19 : Code := Tryz.f19.body.getD .skip
noncomputable def sh_19 (C : Callee) (a0 a1 a2 : AV) (H : AHeap) : Option (AV × AHeap) :=
  bnd (boxA 26 a0 H) fun v3 H =>
  bo (fieldPtr v3 3) fun v7 => bnd (ld v7 H) fun v8 H => bo (fieldPtr v3 4) fun v9 => bnd (ld v9 H) fun v10 H => bnd (unG H (C 30 [v8, v10] H.guard)) fun v11 H => bnd (unG H (C 31 [a2] H.guard)) fun v13 H => bnd (lda 8 v3 H) fun v14 H => bnd (lda 8 v3 H) fun v16 H => bnd (unG H (C 32 [v16, a1] H.guard)) fun v18 H => bo (bd 85 [(0, v18)]) fun v19 => bo (bd 89 [(0, v11), (1, v13), (2, v14), (3, a1), (4, v19)]) fun v20 => bnd (boxA 89 v20 H) fun v21 H =>
  some (v21, H)
theorem rn_19 (C : Callee) (a0 a1 a2 : AV) (H : AHeap) {r : AV × AHeap} (h : sh_19 C a0 a1 a2 H = some r) : runF Tryz.prog C 19 [a0, a1, a2] H = some r :=
  runF_K (A := an_19) (c := cd_19) Tryz.func19 (by kernel_rfl) (by kernel_rfl) (by kernel_rfl) ((show _ = sh_19 C a0 a1 a2 H by kernel_rfl).trans h)
def an_20 : Ann := ⟨[], [], []⟩
noncomputable def cd_20 : Code := Tryz.f20.body.getD .skip
noncomputable def sh_20 (C : Callee) (a0 : AV) (H : AHeap) : Option (AV × AHeap) :=
  bnd (C 33 [a0] H) fun v4 H => gdA (some v4) true (liftO (some a0) H) H fun v6 H => gdA (some v4) true (C 34 [v6] H) H fun v7 H => gdA (some v4) true (liftO (bi .eql 3 v7 (I 0)) H) H fun v8 H => bo (pickA v4 v8 (B false)) fun v9 =>
  some (v9, H)
theorem rn_20 (C : Callee) (a0 : AV) (H : AHeap) {r : AV × AHeap} (h : sh_20 C a0 H = some r) : runF Tryz.prog C 20 [a0] H = some r :=
  runF_K (A := an_20) (c := cd_20) Tryz.func20 (by kernel_rfl) (by kernel_rfl) (by kernel_rfl) ((show _ = sh_20 C a0 H by kernel_rfl).trans h)
def an_22 : Ann := ⟨[], [], []⟩
noncomputable def cd_22 : Code := Tryz.f22.body.getD .skip
noncomputable def sh_22 (C : Callee) (a0 a1 : AV) (H : AHeap) : Option (AV × AHeap) :=
  bo (bi .geq 3 a0 (I 1)) fun v6 => gdA (some v6) true (liftO (some a0) H) H fun v8 H => gdA (some v6) true (liftO (some a1) H) H fun v9 H => gdA (some v6) true (liftO (bi .leq 3 v8 v9) H) H fun v10 H => bo (pickA v6 v10 (B false)) fun v11 =>
  some (v11, H)
theorem rn_22 (C : Callee) (a0 a1 : AV) (H : AHeap) {r : AV × AHeap} (h : sh_22 C a0 a1 H = some r) : runF Tryz.prog C 22 [a0, a1] H = some r :=
  runF_K (A := an_22) (c := cd_22) Tryz.func22 (by kernel_rfl) (by kernel_rfl) (by kernel_rfl) ((show _ = sh_22 C a0 a1 H by kernel_rfl).trans h)
def an_23 : Ann := ⟨[], [], []⟩
noncomputable def cd_23 : Code := Tryz.f23.body.getD .skip
noncomputable def sh_23 (C : Callee) (a0 a1 : AV) (H : AHeap) : Option (AV × AHeap) :=
  bnd (C 39 [a0, a1] H) fun v7 H => bo (bi .geq 3 v7 (I 0)) fun v8 =>
  some (v8, H)
theorem rn_23 (C : Callee) (a0 a1 : AV) (H : AHeap) {r : AV × AHeap} (h : sh_23 C a0 a1 H = some r) : runF Tryz.prog C 23 [a0, a1] H = some r :=
  runF_K (A := an_23) (c := cd_23) Tryz.func23 (by kernel_rfl) (by kernel_rfl) (by kernel_rfl) ((show _ = sh_23 C a0 a1 H by kernel_rfl).trans h)
def an_24 : Ann := ⟨[], [], []⟩
noncomputable def cd_24 : Code := Tryz.f24.body.getD .skip
noncomputable def sh_24 (C : Callee) (a0 a1 : AV) (H : AHeap) : Option (AV × AHeap) :=
  bnd (lnS a0 H) fun v5 H => bo (bi .gtr 3 v5 (I 24)) fun v6 => gdA (some v6) false (liftO (some a0) H) H fun v8 H => gdA (some v6) false (liftO (some (.fn (.func 26) [] [a1])) H) H fun v9 H => gdA (some v6) false (C 25 [v8, v9] H) H fun v10 H => bo (pickA v6 (B true) v10) fun v11 =>
  some (v11, H)
theorem rn_24 (C : Callee) (a0 a1 : AV) (H : AHeap) {r : AV × AHeap} (h : sh_24 C a0 a1 H = some r) : runF Tryz.prog C 24 [a0, a1] H = some r :=
  runF_K (A := an_24) (c := cd_24) Tryz.func24 (by kernel_rfl) (by kernel_rfl) (by kernel_rfl) ((show _ = sh_24 C a0 a1 H by kernel_rfl).trans h)
def an_25 : Ann := ⟨[], [], []⟩
noncomputable def cd_25 : Code := Tryz.f25.body.getD .skip
noncomputable def sh_25 (C : Callee) (a0 a1 : AV) (H : AHeap) : Option (AV × AHeap) :=
  bnd (C 40 [a0, a1] H) fun v7 H => bo (bi .geq 3 v7 (I 0)) fun v8 =>
  some (v8, H)
theorem rn_25 (C : Callee) (a0 a1 : AV) (H : AHeap) {r : AV × AHeap} (h : sh_25 C a0 a1 H = some r) : runF Tryz.prog C 25 [a0, a1] H = some r :=
  runF_K (A := an_25) (c := cd_25) Tryz.func25 (by kernel_rfl) (by kernel_rfl) (by kernel_rfl) ((show _ = sh_25 C a0 a1 H by kernel_rfl).trans h)
def an_26 : Ann := ⟨[], [], []⟩
noncomputable def cd_26 : Code := Tryz.f26.body.getD .skip
noncomputable def sh_26 (C : Callee) (a0 a1 : AV) (H : AHeap) : Option (AV × AHeap) :=
  bnd (boxA 38 a0 H) fun v2 H =>
  bnd (lda 8 a1 H) fun v4 H => bnd (lda 3 v2 H) fun v5 H => bnd (C 27 [v4, v5] H) fun v6 H => bo (un .not v6) fun v7 =>
  some (v7, H)
theorem rn_26 (C : Callee) (a0 a1 : AV) (H : AHeap) {r : AV × AHeap} (h : sh_26 C a0 a1 H = some r) : runF Tryz.prog C 26 [a0, a1] H = some r :=
  runF_K (A := an_26) (c := cd_26) Tryz.func26 (by kernel_rfl) (by kernel_rfl) (by kernel_rfl) ((show _ = sh_26 C a0 a1 H by kernel_rfl).trans h)
def an_27 : Ann := ⟨[], [], []⟩
noncomputable def cd_27 : Code := Tryz.f27.body.getD .skip
noncomputable def sh_27 (C : Callee) (a0 a1 : AV) (H : AHeap) : Option (AV × AHeap) :=
  bnd (boxA 26 a0 H) fun v2 H => bnd (boxA 38 a1 H) fun v3 H =>
  bnd (lda 8 v2 H) fun v8 H => bo (fieldPtr v3 1) fun v9 => bnd (ld v9 H) fun v10 H => bnd (C 41 [v8, v10] H) fun v11 H => bo (extractA v11 0) fun v12 => bo (extractA v11 1) fun v13 =>
  bo (fieldPtr v3 0) fun v14 => bnd (ld v14 H) fun v15 H => bo (bi .geq 3 v15 (I 1)) fun v16 => gdA (some v16) true (liftO (fieldPtr v3 0) H) H fun v18 H => gdA (some v16) true (ld v18 H) H fun v19 H => gdA (some v16) true (liftO (bi .leq 3 v19 (I 4)) H) H fun v20 H => bo (pickA v16 v20 (B false)) fun v21 => gdA (some v21) true (liftO (some v12) H) H fun v23 H => gdA (some v21) true (liftO (bi .neq 3 v23 (I (-1))) H) H fun v24 H => bo (pickA v21 v24 (B false)) fun v25 => gdA (some v25) true (liftO (fieldPtr v3 2) H) H fun v27 H => gdA (some v25) true (ld v27 H) H fun v28 H => gdA (some v25) true (liftO (bi .eql 3 v28 (I 0)) H) H fun v29 H => gdA (some v25) true (liftO (some v29) H) H fun v30 H => gdA (some v30) false (liftO (fieldPtr v3 0) H) H fun v31 H => gdA (some v30) false (ld v31 H) H fun v32 H => gdA (some v30) false (liftO (bi .eql 3 v32 (I 2)) H) H fun v33 H => gdA (some v25) true (liftO (pickA v30 (B true) v33) H) H fun v34 H => gdA (some v25) true (liftO (some v34) H) H fun v35 H => gdA (some v35) false (liftO (fieldPtr v3 0) H) H fun v36 H => gdA (some v35) false (ld v36 H) H fun v37 H => gdA (some v35) false (liftO (bi .eql 3 v37 (I 3)) H) H fun v38 H => gdA (some v25) true (liftO (pickA v35 (B true) v38) H) H fun v39 H => bo (pickA v25 v39 (B false)) fun v40 =>
  some (v40, H)
theorem rn_27 (C : Callee) (a0 a1 : AV) (H : AHeap) {r : AV × AHeap} (h : sh_27 C a0 a1 H = some r) : runF Tryz.prog C 27 [a0, a1] H = some r :=
  runF_K (A := an_27) (c := cd_27) Tryz.func27 (by kernel_rfl) (by kernel_rfl) (by kernel_rfl) ((show _ = sh_27 C a0 a1 H by kernel_rfl).trans h)
def an_28 : Ann := ⟨[], [], []⟩
noncomputable def cd_28 : Code := Tryz.f28.body.getD .skip
noncomputable def sh_28 (C : Callee) (a0 : AV) (H : AHeap) : Option (AV × AHeap) :=
  bnd (liftO (minMaxA Tryz.prog true #[3, 3] 3 [(I 0), a0]) H) fun v4 H => bo (bd 103 [(1, v4)]) fun v5 => bnd (boxA 103 v5 H) fun v6 H =>
  some (v6, H)
theorem rn_28 (C : Callee) (a0 : AV) (H : AHeap) {r : AV × AHeap} (h : sh_28 C a0 H = some r) : runF Tryz.prog C 28 [a0] H = some r :=
  runF_K (A := an_28) (c := cd_28) Tryz.func28 (by kernel_rfl) (by kernel_rfl) (by kernel_rfl) ((show _ = sh_28 C a0 H by kernel_rfl).trans h)
def an_29 : Ann := ⟨[], [], []⟩
noncomputable def cd_29 : Code := Tryz.f29.body.getD .skip
noncomputable def sh_29 (C : Callee) (a0 : AV) (H : AHeap) : Option (AV × AHeap) :=
  bnd (liftO (minMaxA Tryz.prog true #[3, 3] 3 [(I 0), a0]) H) fun v4 H => bo (bd 105 [(1, v4)]) fun v5 => bnd (boxA 105 v5 H) fun v6 H =>
  some (v6, H)
theorem rn_29 (C : Callee) (a0 : AV) (H : AHeap) {r : AV × AHeap} (h : sh_29 C a0 H = some r) : runF Tryz.prog C 29 [a0] H = some r :=
  runF_K (A := an_29) (c := cd_29) Tryz.func29 (by kernel_rfl) (by kernel_rfl) (by kernel_rfl) ((show _ = sh_29 C a0 H by kernel_rfl).trans h)
def an_30 : Ann := ⟨[], [], []⟩
noncomputable def cd_30 : Code := Tryz.f30.body.getD .skip
noncomputable def sh_30 (C : Callee) (a0 a1 : AV) (H : AHeap) : Option (AV × AHeap) :=
  bnd (liftO (minMaxA Tryz.prog true #[3, 3] 3 [(I 1), a0]) H) fun v6 H => bnd (liftO (minMaxA Tryz.prog true #[3, 3] 3 [(I 1), a1]) H) fun v8 H => bo (bd 108 [(1, v6), (2, v8)]) fun v9 => bnd (boxA 108 v9 H) fun v10 H =>
  some (v10, H)
theorem rn_30 (C : Callee) (a0 a1 : AV) (H : AHeap) {r : AV × AHeap} (h : sh_30 C a0 a1 H = some r) : runF Tryz.prog C 30 [a0, a1] H = some r :=
  runF_K (A := an_30) (c := cd_30) Tryz.func30 (by kernel_rfl) (by kernel_rfl) (by kernel_rfl) ((show _ = sh_30 C a0 a1 H by kernel_rfl).trans h)
def an_31 : Ann := ⟨[], [], []⟩
noncomputable def cd_31 : Code := Tryz.f31.body.getD .skip
noncomputable def sh_31 (C : Callee) (a0 : AV) (H : AHeap) : Option (AV × AHeap) :=
  bnd (C 42 [a0] H) fun v4 H => bo (bd 111 [(0, v4)]) fun v5 => bnd (boxA 111 v5 H) fun v6 H =>
  some (v6, H)
theorem rn_31 (C : Callee) (a0 : AV) (H : AHeap) {r : AV × AHeap} (h : sh_31 C a0 H = some r) : runF Tryz.prog C 31 [a0] H = some r :=
  runF_K (A := an_31) (c := cd_31) Tryz.func31 (by kernel_rfl) (by kernel_rfl) (by kernel_rfl) ((show _ = sh_31 C a0 H by kernel_rfl).trans h)
def an_32 : Ann := ⟨[], [(1, [some false, some false, some true, some true, some false, some false, some false, some false, some false])], []⟩
noncomputable def cd_32 : Code := Tryz.f32.body.getD .skip
noncomputable def sh_32 (C : Callee) (a0 a1 : AV) (H : AHeap) : Option (AV × AHeap) :=
  bnd (boxA 26 a0 H) fun v2 H =>
  bnd (lda 8 v2 H) fun v5 H => bnd (unG H (C 43 [v5, a1] H.guard)) fun v7 H => bnd (unG H (C 44 [] H.guard)) fun v8 H => bnd (lda 8 v2 H) fun v9 H => bo (bd 117 [(0, v7), (1, v8), (2, v9), (3, a1)]) fun v11 => bnd (boxA 117 v11 H) fun v12 H =>
  some (v12, H)
theorem rn_32 (C : Callee) (a0 a1 : AV) (H : AHeap) {r : AV × AHeap} (h : sh_32 C a0 a1 H = some r) : runF Tryz.prog C 32 [a0, a1] H = some r :=
  runF_K (A := an_32) (c := cd_32) Tryz.func32 (by kernel_rfl) (by kernel_rfl) (by kernel_rfl) ((show _ = sh_32 C a0 a1 H by kernel_rfl).trans h)
def an_33 : Ann := ⟨[(3, [0, 12, 13, 14])], [], []⟩
noncomputable def cd_33 : Code := Tryz.f33.body.getD .skip
noncomputable def lp_33x0 (C : Callee) : List AV → AHeap → Option (AV × AHeap) := (loopsK Tryz.prog C an_33 54 cd_33 (retK Tryz.prog 54 Tryz.f33.results.toList) (fun _ _ _ => none) (retK Tryz.prog 54 Tryz.f33.results.toList)).getD 0 fun _ _ => none
noncomputable def sh_33 (C : Callee) (a0 : AV) (H : AHeap) : Option (AV × AHeap) :=
  bo (nilCheckA a0) fun v10 => bo (fieldPtr v10 10) fun v11 => bnd (ld v11 H) fun v12 H => bnd (lnS v12 H) fun v13 H =>
  lp_33x0 C [a0, v12, v13, (I 0)] H
theorem le_33x0 (C : Callee) (t0 t12 t13 t14 : AV) (H : AHeap) : lp_33x0 C [t0, t12, t13, t14] H =
  bo (bi .lss 3 t14 t13) fun v15 =>
  condK v15
  (bnd (ix 1 t12 t14 H) fun v17 H => bnd (ld v17 H) fun v18 H =>
   bnd (C 45 [v18] H) fun v21 H => bo (extractA v21 0) fun v22 => bo (extractA v21 1) fun v23 => bnd (alc 87 [zI, zI, zI, zI, zI, zI, zN, zI, zI] H) fun v5 H => bnd (st 9 v5 v22 H) fun _ H =>
   bo (nilCheckA t0) fun v26 => bo (fieldPtr v26 0) fun v27 => bnd (ld v27 H) fun v28 H => bnd (C 46 [v28, t14] H) fun v30 H => bo (extractA v30 0) fun v31 => bo (extractA v30 1) fun v32 =>
   gdA (some v23) false (liftO (some v18) H) H fun v35 H => gdA (some v23) false (liftO (nilCheckA v35) H) H fun v36 H => gdA (some v23) false (liftO (fieldPtr v36 1) H) H fun v37 H => gdA (some v23) false (ld v37 H) H fun v38 H => gdA (some v23) false (C 47 [v38] H) H fun v39 H => bo (pickA v23 (B true) v39) fun v40 => gdA (some v40) false (liftO (some v31) H) H fun v42 H => gdA (some v40) false (liftO (some v32) H) H fun v43 H => gdA (some v40) false (liftO (bi .add 3 v42 v43) H) H fun v44 H => gdA (some v40) false (liftO (bi .gtr 3 v44 (I 0)) H) H fun v45 H => bo (pickA v40 (B true) v45) fun v46 =>
   condK v46
   (some ((B false), H))
   (bo (bi .add 3 t14 (I 1)) fun v47 =>
    lp_33x0 C [t0, t12, t13, v47] H))
  (bo (nilCheckA t0) fun v49 => bo (fieldPtr v49 0) fun v50 => bnd (ld v50 H) fun v51 H => bnd (C 38 [v51] H) fun v52 H => bo (bi .eql 3 v52 (I 0)) fun v53 =>
   some (v53, H)) :=
  (congrFun (congrFun (congrArg (fun l => l.getD 0 fun _ _ => none) (loops_eq cd_33 (retK Tryz.prog 54 Tryz.f33.results.toList) (fun _ _ _ => none) (retK Tryz.prog 54 Tryz.f33.results.toList))) [t0, t12, t13, t14]) H).trans (by kernel_rfl)
theorem rn_33 (C : Callee) (a0 : AV) (H : AHeap) {r : AV × AHeap} (h : sh_33 C a0 H = some r) : runF Tryz.prog C 33 [a0] H = some r :=
  runF_K (A := an_33) (c := cd_33) Tryz.func33 (by kernel_rfl) (by kernel_rfl) (by kernel_rfl) ((show _ = sh_33 C a0 H by kernel_rfl).trans h)
def an_34 : Ann := ⟨[(4, [3, 9, 10, 11])], [], []⟩
noncomputable def cd_34 : Code := Tryz.f34.body.getD .skip
noncomputable def lp_34x0 (C : Callee) : List AV → AHeap → Option (AV × AHeap) := (loopsK Tryz.prog C an_34 24 cd_34 (retK Tryz.prog 24 Tryz.f34.results.toList) (fun _ _ _ => none) (retK Tryz.prog 24 Tryz.f34.results.toList)).getD 0 fun _ _ => none
noncomputable def sh_34 (C : Callee) (a0 : AV) (H : AHeap) : Option (AV × AHeap) :=
  bo (nilCheckA a0) fun v7 => bo (fieldPtr v7 10) fun v8 => bnd (ld v8 H) fun v9 H => bnd (lnS v9 H) fun v10 H =>
  lp_34x0 C [(I 0), v9, v10, (I 0)] H
theorem le_34x0 (C : Callee) (t3 t9 t10 t11 : AV) (H : AHeap) : lp_34x0 C [t3, t9, t10, t11] H =
  bo (bi .lss 3 t11 t10) fun v12 =>
  condK v12
  (bnd (ix 1 t9 t11 H) fun v13 H => bnd (ld v13 H) fun v14 H =>
   bo (nilCheckA v14) fun v17 => bo (fieldPtr v17 1) fun v18 => bnd (ld v18 H) fun v19 H => bnd (C 48 [v19] H) fun v20 H => bo (bi .add 3 t3 v20) fun v21 =>
   bo (bi .add 3 t11 (I 1)) fun v22 =>
   lp_34x0 C [v21, t9, t10, v22] H)
  (some (t3, H)) :=
  (congrFun (congrFun (congrArg (fun l => l.getD 0 fun _ _ => none) (loops_eq cd_34 (retK Tryz.prog 24 Tryz.f34.results.toList) (fun _ _ _ => none) (retK Tryz.prog 24 Tryz.f34.results.toList))) [t3, t9, t10, t11]) H).trans (by kernel_rfl)
theorem rn_34 (C : Callee) (a0 : AV) (H : AHeap) {r : AV × AHeap} (h : sh_34 C a0 H = some r) : runF Tryz.prog C 34 [a0] H = some r :=
  runF_K (A := an_34) (c := cd_34) Tryz.func34 (by kernel_rfl) (by kernel_rfl) (by kernel_rfl) ((show _ = sh_34 C a0 H by kernel_rfl).trans h)
def an_38 : Ann := ⟨[(4, [3, 7, 8, 9])], [], []⟩
noncomputable def cd_38 : Code := Tryz.f38.body.getD .skip
noncomputable def lp_38x0 (C : Callee) : List AV → AHeap → Option (AV × AHeap) := (loopsK Tryz.prog C an_38 20 cd_38 (retK Tryz.prog 20 Tryz.f38.results.toList) (fun _ _ _ => none) (retK Tryz.prog 20 Tryz.f38.results.toList)).getD 0 fun _ _ => none
noncomputable def sh_38 (C : Callee) (a0 : AV) (H : AHeap) : Option (AV × AHeap) :=
  bnd (C 52 [a0] H) fun v7 H => bnd (lnS v7 H) fun v8 H =>
  lp_38x0 C [(I 0), v7, v8, (I 0)] H
theorem le_38x0 (C : Callee) (t3 t7 t8 t9 : AV) (H : AHeap) : lp_38x0 C [t3, t7, t8, t9] H =
  bo (bi .lss 3 t9 t8) fun v10 =>
  condK v10
  (bnd (ix 2 t7 t9 H) fun v11 H => bnd (lda 2 v11 H) fun v12 H => bnd (alc 72 [zP, zP] H) fun v5 H => bnd (st 2 v5 v12 H) fun _ H =>
   bo (fieldPtr v5 0) fun v14 => bnd (ld v14 H) fun v15 H => bnd (C 53 [v15] H) fun v16 H => bo (bi .add 3 t3 v16) fun v17 =>
   bo (bi .add 3 t9 (I 1)) fun v18 =>
   lp_38x0 C [v17, t7, t8, v18] H)
  (some (t3, H)) :=
  (congrFun (congrFun (congrArg (fun l => l.getD 0 fun _ _ => none) (loops_eq cd_38 (retK Tryz.prog 20 Tryz.f38.results.toList) (fun _ _ _ => none) (retK Tryz.prog 20 Tryz.f38.results.toList))) [t3, t7, t8, t9]) H).trans (by kernel_rfl)
theorem rn_38 (C : Callee) (a0 : AV) (H : AHeap) {r : AV × AHeap} (h : sh_38 C a0 H = some r) : runF Tryz.prog C 38 [a0] H = some r :=
  runF_K (A := an_38) (c := cd_38) Tryz.func38 (by kernel_rfl) (by kernel_rfl) (by kernel_rfl) ((show _ = sh_38 C a0 H by kernel_rfl).trans h)
def an_39 : Ann := ⟨[(3, [0, 1, 7, 8])], [], []⟩
noncomputable def cd_39 : Code := Tryz.f39.body.getD .skip
noncomputable def lp_39x0 (C : Callee) : List AV → AHeap → Option (AV × AHeap) := (loopsK Tryz.prog C an_39 19 cd_39 (retK Tryz.prog 19 Tryz.f39.results.toList) (fun _ _ _ => none) (retK Tryz.prog 19 Tryz.f39.results.toList)).getD 0 fun _ _ => none
noncomputable def sh_39 (C : Callee) (a0 a1 : AV) (H : AHeap) : Option (AV × AHeap) :=
  bnd (lnS a0 H) fun v7 H =>
  lp_39x0 C [a0, a1, v7, (I 0)] H
theorem le_39x0 (C : Callee) (t0 t1 t7 t8 : AV) (H : AHeap) : lp_39x0 C [t0, t1, t7, t8] H =
  bo (bi .lss 3 t8 t7) fun v9 =>
  condK v9
  (bnd (ix 1 t0 t8 H) fun v14 H => bnd (ld v14 H) fun v15 H => bnd (callA Tryz.prog C t1 [v15] H) fun v16 H =>
   condK v16
   (some (t8, H))
   (bo (bi .add 3 t8 (I 1)) fun v18 =>
    lp_39x0 C [t0, t1, t7, v18] H))
  (some ((I (-1)), H)) :=
  (congrFun (congrFun (congrArg (fun l => l.getD 0 fun _ _ => none) (loops_eq cd_39 (retK Tryz.prog 19 Tryz.f39.results.toList) (fun _ _ _ => none) (retK Tryz.prog 19 Tryz.f39.results.toList))) [t0, t1, t7, t8]) H).trans (by kernel_rfl)
theorem rn_39 (C : Callee) (a0 a1 : AV) (H : AHeap) {r : AV × AHeap} (h : sh_39 C a0 a1 H = some r) : runF Tryz.prog C 39 [a0, a1] H = some r :=
  runF_K (A := an_39) (c := cd_39) Tryz.func39 (by kernel_rfl) (by kernel_rfl) (by kernel_rfl) ((show _ = sh_39 C a0 a1 H by kernel_rfl).trans h)
def an_40 : Ann := ⟨[(3, [0, 1, 7, 8])], [], []⟩
noncomputable def cd_40 : Code := Tryz.f40.body.getD .skip
noncomputable def lp_40x0 (C : Callee) : List AV → AHeap → Option (AV × AHeap) := (loopsK Tryz.prog C an_40 19 cd_40 (retK Tryz.prog 19 Tryz.f40.results.toList) (fun _ _ _ => none) (retK Tryz.prog 19 Tryz.f40.results.toList)).getD 0 fun _ _ => none
noncomputable def sh_40 (C : Callee) (a0 a1 : AV) (H : AHeap) : Option (AV × AHeap) :=
  bnd (lnS a0 H) fun v7 H =>
  lp_40x0 C [a0, a1, v7, (I 0)] H
theorem le_40x0 (C : Callee) (t0 t1 t7 t8 : AV) (H : AHeap) : lp_40x0 C [t0, t1, t7, t8] H =
  bo (bi .lss 3 t8 t7) fun v9 =>
  condK v9
  (bnd (ix 3 t0 t8 H) fun v14 H => bnd (lda 3 v14 H) fun v15 H => bnd (callA Tryz.prog C t1 [v15] H) fun v16 H =>
   condK v16
   (some (t8, H))
   (bo (bi .add 3 t8 (I 1)) fun v18 =>
    lp_40x0 C [t0, t1, t7, v18] H))
  (some ((I (-1)), H)) :=
  (congrFun (congrFun (congrArg (fun l => l.getD 0 fun _ _ => none) (loops_eq cd_40 (retK Tryz.prog 19 Tryz.f40.results.toList) (fun _ _ _ => none) (retK Tryz.prog 19 Tryz.f40.results.toList))) [t0, t1, t7, t8]) H).trans (by kernel_rfl)
theorem rn_40 (C : Callee) (a0 a1 : AV) (H : AHeap) {r : AV × AHeap} (h : sh_40 C a0 a1 H = some r) : runF Tryz.prog C 40 [a0, a1] H = some r :=
  runF_K (A := an_40) (c := cd_40) Tryz.func40 (by kernel_rfl) (by kernel_rfl) (by kernel_rfl) ((show _ = sh_40 C a0 a1 H by kernel_rfl).trans h)
def an_41 : Ann := ⟨[], [(3, [some false, some false, some false, some false, some false, some false, some false, some false, some false, some false])], []⟩
noncomputable def cd_41 : Code := Tryz.f41.body.getD .skip
noncomputable def sh_41 (C : Callee) (a0 a1 : AV) (H : AHeap) : Option (AV × AHeap) :=
  bnd (boxA 26 a0 H) fun v2 H =>
  bo (bi .lss 3 a1 (I 0)) fun v7 => gdA (some v7) false (liftO (some a1) H) H fun v9 H => gdA (some v7) false (lda 8 v2 H) H fun v10 H => gdA (some v7) false (C 54 [v10] H) H fun v11 H => gdA (some v7) false (liftO (bi .geq 3 v9 v11) H) H fun v12 H => bo (pickA v7 (B true) v12) fun v13 =>
  condK v13
  (some (.tup [(I (-1)), (I 0)], H))
  (bo (fieldPtr v2 2) fun v15 => bnd (ld v15 H) fun v16 H => bo (bi .quo 3 a1 v16) fun v17 => bo (fieldPtr v2 2) fun v19 => bnd (ld v19 H) fun v20 H => bo (bi .rem 3 a1 v20) fun v21 =>
   some (.tup [v17, v21], H))
theorem rn_41 (C : Callee) (a0 a1 : AV) (H : AHeap) {r : AV × AHeap} (h : sh_41 C a0 a1 H = some r) : runF Tryz.prog C 41 [a0, a1] H = some r :=
  runF_K (A := an_41) (c := cd_41) Tryz.func41 (by kernel_rfl) (by kernel_rfl) (by kernel_rfl) ((show _ = sh_41 C a0 a1 H by kernel_rfl).trans h)
def an_42 : Ann := ⟨[], [], []⟩
noncomputable def cd_42 : Code := Tryz.f42.body.getD .skip
noncomputable def sh_42 (C : Callee) (a0 : AV) (H : AHeap) : Option (AV × AHeap) :=
  bo (bi .eql 30 a0 (.s (Go.Value.slice none 0 0))) fun v4 =>
  condK v4
  (some ((.s (Go.Value.slice none 0 0)), H))
  (bnd (bs 30 0 [] H) fun v5 H => bnd (app 38 3 24 v5 a0 H) fun v7 H =>
   some (v7, H))
theorem rn_42 (C : Callee) (a0 : AV) (H : AHeap) {r : AV × AHeap} (h : sh_42 C a0 H = some r) : runF Tryz.prog C 42 [a0] H = some r :=
  runF_K (A := an_42) (c := cd_42) Tryz.func42 (by kernel_rfl) (by kernel_rfl) (by kernel_rfl) ((show _ = sh_42 C a0 H by kernel_rfl).trans h)
def an_43 : Ann := ⟨[(4, [1, 2, 5, 12, 13])], [(6, [some false, some false, some false, some false, some false, some false, some false, some true, some false, some false])], []⟩
noncomputable def cd_43 : Code := Tryz.f43.body.getD .skip
noncomputable def lp_43x0 (C : Callee) : List AV → AHeap → Option (AV × AHeap) := (loopsK Tryz.prog C an_43 32 cd_43 (retK Tryz.prog 32 Tryz.f43.results.toList) (fun _ _ _ => none) (retK Tryz.prog 32 Tryz.f43.results.toList)).getD 0 fun _ _ => none
noncomputable def jn_43x0 (C : Callee) (t1 t2 t5 t12 t13 : AV) (H : AHeap) : Option (AV × AHeap) :=
  bo (bi .add 3 t13 (I 1)) fun v30 =>
  lp_43x0 C [t1, t2, t5, t12, v30] H
noncomputable def sh_43 (C : Callee) (a0 a1 : AV) (H : AHeap) : Option (AV × AHeap) :=
  bnd (boxA 26 a0 H) fun v2 H =>
  bnd (lda 8 v2 H) fun v7 H => bnd (mkm .i64 H) fun v8 H => bo (bd 129 [(0, v7), (1, v8)]) fun v9 => bnd (boxA 129 v9 H) fun v10 H =>
  bo (fieldPtr v2 1) fun v11 => bnd (ld v11 H) fun v12 H =>
  lp_43x0 C [a1, v2, v10, v12, (I 0)] H
theorem le_43x0 (C : Callee) (t1 t2 t5 t12 t13 : AV) (H : AHeap) : lp_43x0 C [t1, t2, t5, t12, t13] H =
  bo (bi .lss 3 t13 t12) fun v14 =>
  condK v14
  (bnd (lda 8 t2 H) fun v16 H => bnd (C 55 [v16, t13] H) fun v18 H => bo (bi .eql 3 v18 t1) fun v20 =>
   condK v20
   (bo (nilCheckA t5) fun v22 => bo (fieldPtr v22 8) fun v23 => bnd (ld v23 H) fun v24 H => bnd (lda 8 t2 H) fun v26 H => bnd (unG H (C 56 [v26, t13] H.guard)) fun v28 H => bo (bd 133 [(0, (I 0)), (1, (I (-1))), (2, v28)]) fun v29 => bnd (mup .i64 v24 t13 v29 H) fun _ H =>
    jn_43x0 C t1 t2 t5 t12 t13 H)
   (jn_43x0 C t1 t2 t5 t12 t13 H))
  (some (t5, H)) :=
  (congrFun (congrFun (congrArg (fun l => l.getD 0 fun _ _ => none) (loops_eq cd_43 (retK Tryz.prog 32 Tryz.f43.results.toList) (fun _ _ _ => none) (retK Tryz.prog 32 Tryz.f43.results.toList))) [t1, t2, t5, t12, t13]) H).trans (by kernel_rfl)
theorem rn_43 (C : Callee) (a0 a1 : AV) (H : AHeap) {r : AV × AHeap} (h : sh_43 C a0 a1 H = some r) : runF Tryz.prog C 43 [a0, a1] H = some r :=
  runF_K (A := an_43) (c := cd_43) Tryz.func43 (by kernel_rfl) (by kernel_rfl) (by kernel_rfl) ((show _ = sh_43 C a0 a1 H by kernel_rfl).trans h)
def an_44 : Ann := ⟨[], [], []⟩
noncomputable def cd_44 : Code := Tryz.f44.body.getD .skip
noncomputable def sh_44 (C : Callee) (H : AHeap) : Option (AV × AHeap) :=
  bnd (mkm .i64 H) fun v1 H => bnd (mkm .i64 H) fun v2 H => bo (bd 137 [(0, v1), (1, v2)]) fun v3 => bnd (boxA 137 v3 H) fun v4 H =>
  some (v4, H)
theorem rn_44 (C : Callee) (H : AHeap) {r : AV × AHeap} (h : sh_44 C H = some r) : runF Tryz.prog C 44 [] H = some r :=
  runF_K (A := an_44) (c := cd_44) Tryz.func44 (by kernel_rfl) (by kernel_rfl) (by kernel_rfl) ((show _ = sh_44 C H by kernel_rfl).trans h)
def an_45 : Ann := ⟨[], [], []⟩
noncomputable def cd_45 : Code := Tryz.f45.body.getD .skip
noncomputable def sh_45 (C : Callee) (a0 : AV) (H : AHeap) : Option (AV × AHeap) :=
  bnd (alc 87 [zI, zI, zI, zI, zI, zI, zN, zI, zI] H) fun v2 H =>
  bo (nilCheckA a0) fun v6 => bo (fieldPtr v6 12) fun v7 => bo (fieldPtr v7 3) fun v8 => bnd (ld v8 H) fun v9 H => bo (bi .eql 3 v9 (I 0)) fun v10 =>
  condK v10
  (bo (bd 87 []) fun v11 => bnd (st 9 v2 v11 H) fun _ H =>
   bnd (lda 9 v2 H) fun r0 _ => some (.tup [r0, (B false)], H))
  (bo (nilCheckA a0) fun v13 => bo (fieldPtr v13 12) fun v14 => bnd (lda 9 v14 H) fun v15 H => bnd (alc 87 [zI, zI, zI, zI, zI, zI, zN, zI, zI] H) fun v4 H => bnd (st 9 v4 v15 H) fun _ H =>
   bo (fieldPtr v4 6) fun v16 => bnd (ld v16 H) fun v17 H => bnd (app 3 1 8 (.s (Go.Value.slice none 0 0)) v17 H) fun v18 H => bo (fieldPtr v4 6) fun v19 => bnd (st 1 v19 v18 H) fun _ H =>
   bnd (lda 9 v4 H) fun v20 H => bnd (st 9 v2 v20 H) fun _ H =>
   bnd (lda 9 v2 H) fun r0 _ => some (.tup [r0, (B true)], H))
theorem rn_45 (C : Callee) (a0 : AV) (H : AHeap) {r : AV × AHeap} (h : sh_45 C a0 H = some r) : runF Tryz.prog C 45 [a0] H = some r :=
  runF_K (A := an_45) (c := cd_45) Tryz.func45 (by kernel_rfl) (by kernel_rfl) (by kernel_rfl) ((show _ = sh_45 C a0 H by kernel_rfl).trans h)
def an_46 : Ann := ⟨[], [(3, [some false, some false, some false, some false, some false, some false, some false, some false, some false, some true, some false, some false, some false, some false, some false, some false, some false, some false, some false, some false, some false, some false])], []⟩
noncomputable def cd_46 : Code := Tryz.f46.body.getD .skip
noncomputable def sh_46 (C : Callee) (a0 a1 : AV) (H : AHeap) : Option (AV × AHeap) :=
  bnd (C 57 [a0, a1] H) fun v8 H => bo (un .not v8) fun v9 =>
  condK v9
  (some (.tup [(I 0), (I 0)], H))
  (bo (nilCheckA a0) fun v11 => bo (fieldPtr v11 0) fun v12 => bnd (ld v12 H) fun v13 H => bnd (ix 4 v13 a1 H) fun v15 H => bo (fieldPtr v15 0) fun v16 => bo (fieldPtr v16 1) fun v17 => bnd (ld v17 H) fun v18 H => bnd (unG H (C 58 [v18] H.guard)) fun v19 H => bo (nilCheckA a0) fun v21 => bo (fieldPtr v21 0) fun v22 => bnd (ld v22 H) fun v23 H => bnd (ix 4 v23 a1 H) fun v25 H => bo (fieldPtr v25 2) fun v26 => bo (fieldPtr v26 1) fun v27 => bnd (ld v27 H) fun v28 H => bnd (C 58 [v28] H) fun v29 H =>
   some (.tup [v19, v29], H))
theorem rn_46 (C : Callee) (a0 a1 : AV) (H : AHeap) {r : AV × AHeap} (h : sh_46 C a0 a1 H = some r) : runF Tryz.prog C 46 [a0, a1] H = some r :=
  runF_K (A := an_46) (c := cd_46) Tryz.func46 (by kernel_rfl) (by kernel_rfl) (by kernel_rfl) ((show _ = sh_46 C a0 a1 H by kernel_rfl).trans h)
def an_47 : Ann := ⟨[], [], []⟩
noncomputable def cd_47 : Code := Tryz.f47.body.getD .skip
noncomputable def sh_47 (C : Callee) (a0 : AV) (H : AHeap) : Option (AV × AHeap) :=
  bo (nilCheckA a0) fun v4 => bo (fieldPtr v4 2) fun v5 => bnd (ld v5 H) fun v6 H =>
  some (v6, H)
theorem rn_47 (C : Callee) (a0 : AV) (H : AHeap) {r : AV × AHeap} (h : sh_47 C a0 H = some r) : runF Tryz.prog C 47 [a0] H = some r :=
  runF_K (A := an_47) (c := cd_47) Tryz.func47 (by kernel_rfl) (by kernel_rfl) (by kernel_rfl) ((show _ = sh_47 C a0 H by kernel_rfl).trans h)
def an_48 : Ann := ⟨[], [(1, [some false, some false, some false, some false, some false, some false, some false, some false, some false, some false, some false, some false])], []⟩
noncomputable def cd_48 : Code := Tryz.f48.body.getD .skip
noncomputable def sh_48 (C : Callee) (a0 : AV) (H : AHeap) : Option (AV × AHeap) :=
  bo (nilCheckA a0) fun v4 => bo (fieldPtr v4 0) fun v5 => bnd (ld v5 H) fun v6 H => bnd (lnS v6 H) fun v7 H => bo (nilCheckA a0) fun v9 => bo (fieldPtr v9 1) fun v10 => bnd (ld v10 H) fun v11 H => bnd (lnS v11 H) fun v12 H => bo (bi .sub 3 v7 v12) fun v13 =>
  some (v13, H)
theorem rn_48 (C : Callee) (a0 : AV) (H : AHeap) {r : AV × AHeap} (h : sh_48 C a0 H = some r) : runF Tryz.prog C 48 [a0] H = some r :=
  runF_K (A := an_48) (c := cd_48) Tryz.func48 (by kernel_rfl) (by kernel_rfl) (by kernel_rfl) ((show _ = sh_48 C a0 H by kernel_rfl).trans h)
def an_52 : Ann := ⟨[(4, [3, 9, 10, 11])], [], []⟩
noncomputable def cd_52 : Code := Tryz.f52.body.getD .skip
noncomputable def lp_52x0 (C : Callee) : List AV → AHeap → Option (AV × AHeap) := (loopsK Tryz.prog C an_52 24 cd_52 (retK Tryz.prog 24 Tryz.f52.results.toList) (fun _ _ _ => none) (retK Tryz.prog 24 Tryz.f52.results.toList)).getD 0 fun _ _ => none
noncomputable def sh_52 (C : Callee) (a0 : AV) (H : AHeap) : Option (AV × AHeap) :=
  bo (nilCheckA a0) fun v7 => bo (fieldPtr v7 0) fun v8 => bnd (ld v8 H) fun v9 H => bnd (lnS v9 H) fun v10 H =>
  lp_52x0 C [(.s (Go.Value.slice none 0 0)), v9, v10, (I 0)] H
theorem le_52x0 (C : Callee) (t3 t9 t10 t11 : AV) (H : AHeap) : lp_52x0 C [t3, t9, t10, t11] H =
  bo (bi .lss 3 t11 t10) fun v12 =>
  condK v12
  (bnd (ix 4 t9 t11 H) fun v13 H => bnd (lda 4 v13 H) fun v14 H => bnd (alc 74 [zP, zP, zP, zP] H) fun v5 H => bnd (st 4 v5 v14 H) fun _ H =>
   bo (fieldPtr v5 0) fun v16 => bnd (lda 2 v16 H) fun v17 H => bo (fieldPtr v5 2) fun v18 => bnd (lda 2 v18 H) fun v19 H => bnd (bs 124 2 [(0, v17), (1, v19)] H) fun v20 H => bnd (app 72 2 16 t3 v20 H) fun v21 H =>
   bo (bi .add 3 t11 (I 1)) fun v22 =>
   lp_52x0 C [v21, t9, t10, v22] H)
  (some (t3, H)) :=
  (congrFun (congrFun (congrArg (fun l => l.getD 0 fun _ _ => none) (loops_eq cd_52 (retK Tryz.prog 24 Tryz.f52.results.toList) (fun _ _ _ => none) (retK Tryz.prog 24 Tryz.f52.results.toList))) [t3, t9, t10, t11]) H).trans (by kernel_rfl)
theorem rn_52 (C : Callee) (a0 : AV) (H : AHeap) {r : AV × AHeap} (h : sh_52 C a0 H = some r) : runF Tryz.prog C 52 [a0] H = some r :=
  runF_K (A := an_52) (c := cd_52) Tryz.func52 (by kernel_rfl) (by kernel_rfl) (by kernel_rfl) ((show _ = sh_52 C a0 H by kernel_rfl).trans h)
def an_53 : Ann := ⟨[], [], []⟩
noncomputable def cd_53 : Code := Tryz.f53.body.getD .skip
noncomputable def sh_53 (C : Callee) (a0 : AV) (H : AHeap) : Option (AV × AHeap) :=
  bo (nilCheckA a0) fun v4 => bo (fieldPtr v4 0) fun v5 => bnd (ld v5 H) fun v6 H => bnd (lnS v6 H) fun v7 H =>
  some (v7, H)
theorem rn_53 (C : Callee) (a0 : AV) (H : AHeap) {r : AV × AHeap} (h : sh_53 C a0 H = some r) : runF Tryz.prog C 53 [a0] H = some r :=
  runF_K (A := an_53) (c := cd_53) Tryz.func53 (by kernel_rfl) (by kernel_rfl) (by kernel_rfl) ((show _ = sh_53 C a0 H by kernel_rfl).trans h)
def an_54 : Ann := ⟨[], [], []⟩
noncomputable def cd_54 : Code := Tryz.f54.body.getD .skip
noncomputable def sh_54 (C : Callee) (a0 : AV) (H : AHeap) : Option (AV × AHeap) :=
  bnd (boxA 26 a0 H) fun v1 H =>
  bo (fieldPtr v1 1) fun v3 => bnd (ld v3 H) fun v4 H => bo (fieldPtr v1 2) fun v5 => bnd (ld v5 H) fun v6 H => bo (bi .mul 3 v4 v6) fun v7 =>
  some (v7, H)
theorem rn_54 (C : Callee) (a0 : AV) (H : AHeap) {r : AV × AHeap} (h : sh_54 C a0 H = some r) : runF Tryz.prog C 54 [a0] H = some r :=
  runF_K (A := an_54) (c := cd_54) Tryz.func54 (by kernel_rfl) (by kernel_rfl) (by kernel_rfl) ((show _ = sh_54 C a0 H by kernel_rfl).trans h)
def an_55 : Ann := ⟨[], [], []⟩
noncomputable def cd_55 : Code := Tryz.f55.body.getD .skip
noncomputable def sh_55 (C : Callee) (a0 a1 : AV) (H : AHeap) : Option (AV × AHeap) :=
  bnd (boxA 26 a0 H) fun v2 H =>
  bo (fieldPtr v2 0) fun v6 => bnd (ld v6 H) fun v7 H => bnd (C 70 [a1, v7] H) fun v8 H =>
  some (v8, H)
theorem rn_55 (C : Callee) (a0 a1 : AV) (H : AHeap) {r : AV × AHeap} (h : sh_55 C a0 a1 H = some r) : runF Tryz.prog C 55 [a0, a1] H = some r :=
  runF_K (A := an_55) (c := cd_55) Tryz.func55 (by kernel_rfl) (by kernel_rfl) (by kernel_rfl) ((show _ = sh_55 C a0 a1 H by kernel_rfl).trans h)
def an_56 : Ann := ⟨[], [], []⟩
noncomputable def cd_56 : Code := Tryz.f56.body.getD .skip
noncomputable def sh_56 (C : Callee) (a0 a1 : AV) (H : AHeap) : Option (AV × AHeap) :=
  bnd (boxA 26 a0 H) fun v2 H =>
  bo (bi .lss 3 a1 (I 0)) fun v8 => gdA (some v8) false (liftO (some a1) H) H fun v10 H => gdA (some v8) false (liftO (fieldPtr v2 1) H) H fun v11 H => gdA (some v8) false (ld v11 H) H fun v12 H => gdA (some v8) false (liftO (bi .geq 3 v10 v12) H) H fun v13 H => bo (pickA v8 (B true) v13) fun v14 =>
  condK v14
  (some ((.s (Go.Value.slice none 0 0)), H))
  (bo (fieldPtr v2 2) fun v15 => bnd (ld v15 H) fun v16 H => bnd (mks 3 1 8 [zI] v16 v16 H) fun v17 H =>
   bo (fieldPtr v2 2) fun v19 => bnd (ld v19 H) fun v20 H => bo (bi .mul 3 a1 v20) fun v21 => bo (fieldPtr v2 7) fun v22 => bnd (ld v22 H) fun v23 H => bnd (lnS v23 H) fun v24 H => bnd (liftO (minMaxA Tryz.prog false #[3, 3] 3 [v21, v24]) H) fun v25 H =>
   bo (fieldPtr v2 7) fun v27 => bnd (ld v27 H) fun v28 H => bo (slS 1 v28 (some v25) none none) fun v30 => bnd (cpy 1 v17 v30 H) fun v31 H =>
   some (v17, H))
theorem rn_56 (C : Callee) (a0 a1 : AV) (H : AHeap) {r : AV × AHeap} (h : sh_56 C a0 a1 H = some r) : runF Tryz.prog C 56 [a0, a1] H = some r :=
  runF_K (A := an_56) (c := cd_56) Tryz.func56 (by kernel_rfl) (by kernel_rfl) (by kernel_rfl) ((show _ = sh_56 C a0 a1 H by kernel_rfl).trans h)
def an_57 : Ann := ⟨[], [], []⟩
noncomputable def cd_57 : Code := Tryz.f57.body.getD .skip
noncomputable def sh_57 (C : Callee) (a0 a1 : AV) (H : AHeap) : Option (AV × AHeap) :=
  bo (bi .geq 3 a1 (I 0)) fun v6 => gdA (some v6) true (liftO (some a1) H) H fun v8 H => gdA (some v6) true (liftO (some a0) H) H fun v9 H => gdA (some v6) true (liftO (nilCheckA v9) H) H fun v10 H => gdA (some v6) true (liftO (fieldPtr v10 0) H) H fun v11 H => gdA (some v6) true (ld v11 H) H fun v12 H => gdA (some v6) true (lnS v12 H) H fun v13 H => gdA (some v6) true (liftO (bi .lss 3 v8 v13) H) H fun v14 H => bo (pickA v6 v14 (B false)) fun v15 =>
  some (v15, H)
theorem rn_57 (C : Callee) (a0 a1 : AV) (H : AHeap) {r : AV × AHeap} (h : sh_57 C a0 a1 H = some r) : runF Tryz.prog C 57 [a0, a1] H = some r :=
  runF_K (A := an_57) (c := cd_57) Tryz.func57 (by kernel_rfl) (by kernel_rfl) (by kernel_rfl) ((show _ = sh_57 C a0 a1 H by kernel_rfl).trans h)
def an_58 : Ann := ⟨[], [], []⟩
noncomputable def cd_58 : Code := Tryz.f58.body.getD .skip
noncomputable def sh_58 (C : Callee) (a0 : AV) (H : AHeap) : Option (AV × AHeap) :=
  bo (nilCheckA a0) fun v4 => bo (fieldPtr v4 0) fun v5 => bnd (ld v5 H) fun v6 H => bnd (lnS v6 H) fun v7 H =>
  some (v7, H)
theorem rn_58 (C : Callee) (a0 : AV) (H : AHeap) {r : AV × AHeap} (h : sh_58 C a0 H = some r) : runF Tryz.prog C 58 [a0] H = some r :=
  runF_K (A := an_58) (c := cd_58) Tryz.func58 (by kernel_rfl) (by kernel_rfl) (by kernel_rfl) ((show _ = sh_58 C a0 H by kernel_rfl).trans h)
def an_70 : Ann := ⟨[], [], []⟩
noncomputable def cd_70 : Code := Tryz.f70.body.getD .skip
noncomputable def sh_70 (C : Callee) (a0 a1 : AV) (H : AHeap) : Option (AV × AHeap) :=
  bo (bi .lss 3 a0 (I 0)) fun v6 =>
  condK v6
  (some ((I (-1)), H))
  (bo (bi .rem 3 a0 a1) fun v9 =>
   some (v9, H))
theorem rn_70 (C : Callee) (a0 a1 : AV) (H : AHeap) {r : AV × AHeap} (h : sh_70 C a0 a1 H = some r) : runF Tryz.prog C 70 [a0, a1] H = some r :=
  runF_K (A := an_70) (c := cd_70) Tryz.func70 (by kernel_rfl) (by kernel_rfl) (by kernel_rfl) ((show _ = sh_70 C a0 a1 H by kernel_rfl).trans h)

end Go.Proofs.YtmhbgbiaajbhnaaGreat

namespace Go.Proofs.YtmhbgbiaajbhnaaGreat



end Go.Proofs.YtmhbgbiaajbhnaaGreat

namespace Go.Proofs.YtmhbgbiaajbhnaaGreat



end Go.Proofs.YtmhbgbiaajbhnaaGreat

namespace Go.Proofs.YtmhbgbiaajbhnaaGreat



end Go.Proofs.YtmhbgbiaajbhnaaGreat

namespace Go.Proofs.YtmhbgbiaajbhnaaGreat

def boxO (l : List Pkt) (room : Int) : List Cell := [.seq 9 (l.flatMap Pkt.av), .av (I room)]
theorem ints_all (l : List Int) : (l.map I).all AV.isCell = true := by
  rw [List.all_eq_true]
  intro x hx
  obtain ⟨z, _, rfl⟩ := List.mem_map.1 hx
  rfl
theorem frz_ints (l : List Int) {d : Nat} : ∀ x ∈ l.map I, Frz (d + 1) x := fun x hx => by
  obtain ⟨z, _, rfl⟩ := List.mem_map.1 hx
  exact frz_s
theorem dat_eq {l : List Int} (h : l ≠ []) : dat l = .vs l.length 1 (l.map I) := by
  rw [dat, vsl_cons h, flat_encI]
theorem cloneInts (H : AHeap) (l : List Int) (hl : l.length < 1000000000) : cl 16 [dat l] H = some (dat l, H) := by
  by_cases h : l = []
  · subst h
    refine pure_cl rfl rfl (rn_16 _ _ _ (r := (zN, H.guard)) ?_) freeze_s
    have e : bi .eql 22 zN zN = some (B true) := by kernel_rfl
    simp -implicitDefEqProofs only [bnd_some, bo_some, condK_true, condK_false, gdA_undef, decide_true, decide_false, Int.reduceLE, Int.reduceLT, Int.reduceEq, Int.reduceNeg, Int.reduceAdd, gd_tt, gd_tf, gd_ft, gd_ff, unG_pure, lift_some, bnd_lift, Option.map_some, Option.bind_some, fieldPtr_ref, fieldPtr_ip, nil_ref, nil_ip, nil_fn, ex_tup, fl_agg, List.getElem?_cons_zero, List.getElem?_cons_succ, Nat.zero_add, Nat.add_zero, Nat.reduceAdd, pk_t, pk_f, lss_int, leq_int, gtr_int, geq_int, eql_int, neq_int, not_bool, beq_self_eq_true, if_true, Bool.false_eq_true, if_false, List.nil_append, List.cons_append, List.append_nil, alc_eq, mkm_eq, nNew, nPut, bNew, bPut, nGrd, bGrd, sh_16, dat, vsl_nil, e]
  · have h0 : l.length ≠ 0 := fun e => h (List.eq_nil_of_length_eq_zero e)
    have e2 := app_empty (e := 3) (by_ := 8) (r := H.guard.next) (H := H.guard.new (.blk 0 3 [])) getNew_eq (dat_is _ l) (ints_all l) h0 (by unfold most; omega) (by unfold most; omega)
    simp only [nGrd, nNew] at e2
    refine pure_cl rfl rfl (rn_16 _ _ _ (r := (.sl (H.next + 1) 0 0 1 l.length l.length false, (H.guard.new (.blk 0 3 [])).new (.blk 0 3 (l.map I)))) ?_) ?_
    · have e1 : bi .eql 22 (dat l) zN = some (B false) := by rw [dat_eq h]; exact eql_nil_vs Tryz.underlying22
      simp -implicitDefEqProofs only [bnd_some, bo_some, condK_true, condK_false, gdA_undef, decide_true, decide_false, Int.reduceLE, Int.reduceLT, Int.reduceEq, Int.reduceNeg, Int.reduceAdd, gd_tt, gd_tf, gd_ft, gd_ff, unG_pure, lift_some, bnd_lift, Option.map_some, Option.bind_some, fieldPtr_ref, fieldPtr_ip, nil_ref, nil_ip, nil_fn, ex_tup, fl_agg, List.getElem?_cons_zero, List.getElem?_cons_succ, Nat.zero_add, Nat.add_zero, Nat.reduceAdd, pk_t, pk_f, lss_int, leq_int, gtr_int, geq_int, eql_int, neq_int, not_bool, beq_self_eq_true, if_true, Bool.false_eq_true, if_false, List.nil_append, List.cons_append, List.append_nil, alc_eq, mkm_eq, nNew, nPut, bNew, bPut, nGrd, bGrd, sh_16, e1, bs_22, bsl_nil, e2, Nat.zero_mul, Nat.zero_le]
    · rw [dat_eq h]
      refine freeze_sl (by omega) (cells := l.map I) ?_ (freeze_all _ fun x hx => frz_ints l x hx _ _)
      simp only [sliceCells, get_new, nNew, nGrd, if_true]
      rw [if_pos (by simp), List.drop_zero, List.take_of_length_le (by simp)]
section
variable {b : Nat} {H : AHeap} {g : Store} {q : Nat} {l : List Pkt} {room : Int}
theorem lda_elem {α : Type} {enc : α → List AV} {m : Nat} (he : ∀ a, (enc a).length = m) {L : List α} {x : AV} (hs : SliceIs H x m L.length (L.flatMap enc)) {i : Nat} {a : α} (hi : L[i]? = some a) : lda m (elemPtr x i) H = some (.agg (enc a), H) := by
  have hl : i < L.length := (List.getElem?_eq_some_iff.1 hi).1
  rw [hs.lda hl, flat_get he L i a hi]
end

end Go.Proofs.YtmhbgbiaajbhnaaGreat

namespace Go.Proofs.YtmhbgbiaajbhnaaGreat

abbrev nil0 : Store := fun _ => none
/-- Two stores, one above the other. -/
def cup (n : Nat) (g g' : Store) : Store := fun q => if q < n then g q else g' q
/-- The memory goes on; what was there stays; there are these new objects. -/
structure Made (H H' : AHeap) (g' : Store) : Prop where
  next : H.next ≤ H'.next
  base : H'.base = H.base
  same : ∀ r, r < H.next → H'.get r = H.get r
  good : Good H.next H' g'
section
variable {b : Nat} {H H' H'' : AHeap} {g g' : Store} {q : Nat} {cs : List Cell}
theorem Good.merge (G : Good b H g) (M : Made H H' g') : Good b H' (cup H.next g g') := by
  obtain ⟨h0, τ, h1⟩ := G
  obtain ⟨k0, τ', k1⟩ := M.good
  have n1 := M.next
  refine ⟨by omega, fun r => if r < H.next then τ r else τ' r, fun q cs hq => ?_⟩
  unfold cup at hq
  split at hq
  · rename_i hl
    exact (h1 q cs hq).keep n1 fun r i s t hr ht => ⟨by rw [if_pos hr]; exact ht, M.same r hr⟩
  · rename_i hl
    have R := k1 q cs hq
    -- all its blocks are new
    have key : ∀ {T : Tag} {x : AV} {m : Nat} {cells : List AV}, OS H.next H' τ' T x m cells → OS b H' (fun r => if r < H.next then τ r else τ' r) T x m cells := by
      intro T x m cells ho
      rcases ho with ho | ⟨r, gg, off, n, cap, ex, ty, all, e, t1, t2, t3, t4⟩
      · exact .inl ho
      · exact .inr ⟨r, gg, off, n, cap, ex, ty, all, e, by simp only; rw [if_neg (by omega)]; exact t1, by omega, t3, t4⟩
    have keyM : ∀ {T : Tag} {x : AV} {k : IntKind} {es : List (Int × AV)}, OM H.next H' τ' T x k es → OM b H' (fun r => if r < H.next then τ r else τ' r) T x k es := by
      intro T x k es ⟨r, e, t1, t2, t3, t4⟩
      exact ⟨r, e, by simp only; rw [if_neg (by omega)]; exact t1, by omega, t3, t4⟩
    obtain ⟨ty, xs, b1, b2, b3, b4⟩ := R.blk
    have lo := R.lo
    refine ⟨by rw [if_neg hl]; exact R.tag, by omega, R.hi, ty, xs, b1, b2, b3, fun i c x hc hx => ?_⟩
    have := b4 i c x hc hx
    cases c with
    | av _ => exact this
    | seq _ _ => exact key this
    | map _ _ => exact keyM this
    | maps _ _ _ =>
      obtain ⟨aes, a1, a2, a3⟩ := this
      exact ⟨aes, keyM a1, a2, fun j n cells x hj hx => key (a3 j n cells x hj hx)⟩
    | seqs _ _ =>
      obtain ⟨ys, ⟨w, a1⟩, a2, a3⟩ := this
      exact ⟨ys, ⟨w, key a1⟩, a2, fun j cells x hj hx => key (a3 j cells x hj hx)⟩
theorem Good.cupUpd (G : Good b H g) (hq : H.next ≤ q) : cup H.next g (upd nil0 q cs) = upd g q cs := by
  funext x
  unfold cup upd
  split
  · rw [if_neg (by omega)]
  · split
    · rfl
    · exact (G.isNone (by omega)).symm
theorem Made.lt (M : Made H H' g') (h : g' q = some cs) : H.next ≤ q ∧ q < H'.next := ⟨M.good.le h, M.good.lt h⟩
theorem Made.refl (h : H.base ≤ H.next) : Made H H nil0 := ⟨Nat.le_refl _, rfl, fun _ _ => rfl, Good.empty H⟩
theorem Made.trans (M : Made H H' g) (M' : Made H' H'' g') : Made H H'' (cup H'.next g g') :=
  ⟨Nat.le_trans M.next M'.next, M'.base.trans M.base, fun r hr => by rw [M'.same r (Nat.lt_of_lt_of_le hr M.next), M.same r hr], M.good.merge M'⟩
theorem Made.new (M : Made H H' g) (o : AObj) : Made H (H'.new o) g :=
  ⟨by rw [nNew]; have := M.next; omega, by rw [bNew]; exact M.base, fun r hr => by rw [getNew_lt (Nat.lt_of_lt_of_le hr M.next), M.same r hr], M.good.new o⟩
/-- New blocks ahead of a call count for nothing. -/
theorem Made.of_new {o : AObj} (M : Made (H.new o) H' g) : Made H H' g :=
  ⟨by have := M.next; rw [nNew] at this; omega, by rw [M.base, bNew], fun r hr => by rw [M.same r (by rw [nNew]; omega), getNew_lt hr], M.good.weak (by rw [nNew]; omega)⟩
theorem Made.of_guard (M : Made H.guard H' g) : Made H { H' with base := H.base } g :=
  ⟨M.next, rfl, M.same, M.good.ext (Nat.le_refl _) fun _ _ => rfl⟩
/-- What a call does with what is new. -/
theorem Made.step (M : Made H H' g) (G : Good H.next H'' g') (s : Step H.next H' H'') : Made H H'' g' :=
  ⟨Nat.le_trans M.next s.next, s.base.trans M.base, fun r hr => by rw [s.low r hr, M.same r hr], G⟩
/-- The store may be looked at otherwise. -/
theorem Made.as (M : Made H H' g) (h : g' = g) : Made H H' g' := h ▸ M
/-- One object, of values and nil slices. -/
theorem made_box {ty : TypeId} {xs : List AV} {cs : List Cell} (hc : xs.all AV.isCell = true) (hl : xs.length = cs.length) (h : ∀ (i : Nat) (c : Cell) (x : AV), cs[i]? = some c → xs[i]? = some x → c = .av x ∨ (x = zN ∧ ∃ m, c = .seq m [])) :
    Made H (H.new (.blk 0 ty xs)) (upd nil0 H.next cs) := by
  refine ⟨Nat.le_succ _, rfl, fun r hr => getNew_lt hr, by rw [nNew]; omega, fun r => if r = H.next then some (r, 0, 0, 0) else none, fun q cs' hq => ?_⟩
  unfold upd at hq
  split at hq
  · rename_i e
    subst e
    cases hq
    refine ⟨by simp, Nat.le_refl _, by rw [nNew]; omega, ty, xs, by simp [get_new], hl, hc, fun i c x hci hx => ?_⟩
    rcases h i c x hci hx with rfl | ⟨rfl, m, rfl⟩
    · exact rfl
    · exact .inl ⟨rfl, rfl⟩
  · cases hq
/-- One object with maps of its own. -/
theorem made_maps {n : Nat} {ty : TypeId} {xs : List AV} {cs : List Cell} (hn : H.next ≤ n) (hm : H'.next = n) (hb : H'.base = H.base) (hs : ∀ r, r < H.next → H'.get r = H.get r) (hc : xs.all AV.isCell = true) (hl : xs.length = cs.length) (own : Nat → Option Nat)
    (h : ∀ (i : Nat) (c : Cell) (x : AV), cs[i]? = some c → xs[i]? = some x → c = .av x ∨ (x = zN ∧ ∃ m, c = .seq m []) ∨ ∃ r k, x = .mp r ∧ H.next ≤ r ∧ r < n ∧ own r = some i ∧ H'.get r = .map k [] ∧ (c = .map k [] ∨ ∃ m, c = .maps k m [])) :
    Made H (H'.new (.blk 0 ty xs)) (upd nil0 n cs) := by
  refine ⟨by rw [nNew]; omega, hb, fun r hr => by rw [getNew_lt (by omega), hs r hr], by rw [nNew]; omega, fun r => if r = n then some (r, 0, 0, 0) else match own r with
    | some i => some (n, i + 1, 0, 0)
    | none => none, fun q cs' hq => ?_⟩
  unfold upd at hq
  split at hq
  · rename_i e
    subst e
    cases hq
    refine ⟨by simp, hn, by rw [nNew]; omega, ty, xs, by rw [getNew_is hm.symm], hl, hc, fun i c x hci hx => ?_⟩
    have om : ∀ r k, H.next ≤ r → r < q → own r = some i → H'.get r = .map k [] → OM H.next (H'.new (.blk 0 ty xs)) (fun r => if r = q then some (r, 0, 0, 0) else match own r with
        | some i => some (q, i + 1, 0, 0)
        | none => none) (q, i + 1, 0, 0) (.mp r) k [] := fun r k h1 h2 h3 h4 => ⟨r, rfl, by simp only; rw [if_neg (by omega), h3], h1, by rw [nNew]; omega, by rw [getNew_lt (by omega)]; exact h4⟩
    rcases h i c x hci hx with rfl | ⟨rfl, m, rfl⟩ | ⟨r, k, rfl, h1, h2, h3, h4, rfl | ⟨m, rfl⟩⟩
    · exact rfl
    · exact .inl ⟨rfl, rfl⟩
    · exact om r k h1 h2 h3 h4
    · exact ⟨[], om r k h1 h2 h3 h4, rfl, fun j n cells x hj => by simp at hj⟩
  · cases hq
end

end Go.Proofs.YtmhbgbiaajbhnaaGreat

namespace Go.Proofs.YtmhbgbiaajbhnaaGreat

def cacheO (c : Cache) : List Cell := [.seq 6 (c.l.flatMap Ent.av), .av (I c.sets), .av (I c.ways), .av (I c.clock)]
def procO (p : Proc) : List Cell := [.av (vsl 3 Opn.av p.ops), .seq 1 (p.values.map I), .av (B p.begun)]
def traceO (l : List Evn) : List Cell := [.seq 4 (l.flatMap Evn.av)]
def turnsO (t : Turns) : List Cell := [.map .i64 (encM (fun n => I n) t.owners), .maps .i64 2 (t.wait.map fun e => (e.1, e.2.flatMap fun w => [I w.1, I w.2]))]
def dirO (c : Cfg) (rows : Rows) : List Cell := c.av.map .av ++ [.map .i64 (encM (fun r => .agg r.av) rows)]
section
variable {H : AHeap}
theorem poolNew (H : AHeap) (room : Int) (h : 0 ≤ room) : ∃ H' q, cl 28 [I room] H = some (.ref q 0 0, H') ∧ Made H H' (upd nil0 q (boxO [] room)) := by
  refine ⟨_, H.next, run_cl rfl rfl (rn_28 _ _ _ (r := (_, H.new (.blk 0 103 [zN, I room]))) ?_), made_box rfl rfl fun i c x hc hx => ?_⟩
  · have e : max (0 : Int) room = room := by omega
    simp -implicitDefEqProofs only [bnd_some, bo_some, condK_true, condK_false, gdA_undef, decide_true, decide_false, Int.reduceLE, Int.reduceLT, Int.reduceEq, Int.reduceNeg, Int.reduceAdd, gd_tt, gd_tf, gd_ft, gd_ff, unG_pure, lift_some, bnd_lift, Option.map_some, Option.bind_some, fieldPtr_ref, fieldPtr_ip, nil_ref, nil_ip, nil_fn, ex_tup, fl_agg, List.getElem?_cons_zero, List.getElem?_cons_succ, Nat.zero_add, Nat.add_zero, Nat.reduceAdd, pk_t, pk_f, lss_int, leq_int, gtr_int, geq_int, eql_int, neq_int, not_bool, beq_self_eq_true, if_true, Bool.false_eq_true, if_false, List.nil_append, List.cons_append, List.append_nil, alc_eq, mkm_eq, nNew, nPut, bNew, bPut, nGrd, bGrd, ldN_is, ldN_lt, ldaN_is, ldaN_lt, stN_is, stN_lt, Nat.lt_add_one, ne_eq, nx1, nx2, nx3, ny1, ny2, ny3, not_false_eq_true, List.length_cons, List.length_nil, Nat.reduceLeDiff, setAt, List.take_succ_cons, List.take_zero, List.drop_succ_cons, List.drop_zero, cells_dat, cells_int, cells_bool, cells_agg, List.all_cons, List.all_nil, isCell_int, isCell_bool, isCell_dat, isCell_ref, isCell_nil, isCell_vsl, cells_vsl, av_len_cfg, av_len_pkt, av_len_opn, av_len_evn, av_len_ent, av_len_row, av_len_deal, av_len_pck, tk_cfg, tk_pkt, tk_opn, tk_evn, tk_ent, tk_row, tk_deal, tk_pck, all_cfg, all_pkt, all_opn, all_evn, all_ent, all_row, all_deal, all_pck, List.drop_nil, Bool.and_true, Bool.and_self, and_self, Nat.le_refl, true_and, and_true, Nat.le_add_right, leS, ltS, sh_28, max_int, e, bd_103, bldA, fillA, pl_103, box_agg]
  · match i with
    | 0 => right; cases hc; cases hx; exact ⟨rfl, 9, rfl⟩
    | 1 => left; cases hc; cases hx; rfl
    | i + 2 => cases hc
theorem queueNew (H : AHeap) (room : Int) (h : 0 ≤ room) : ∃ H' q, cl 29 [I room] H = some (.ref q 0 0, H') ∧ Made H H' (upd nil0 q (boxO [] room)) := by
  refine ⟨_, H.next, run_cl rfl rfl (rn_29 _ _ _ (r := (_, H.new (.blk 0 105 [zN, I room]))) ?_), made_box rfl rfl fun i c x hc hx => ?_⟩
  · have e : max (0 : Int) room = room := by omega
    simp -implicitDefEqProofs only [bnd_some, bo_some, condK_true, condK_false, gdA_undef, decide_true, decide_false, Int.reduceLE, Int.reduceLT, Int.reduceEq, Int.reduceNeg, Int.reduceAdd, gd_tt, gd_tf, gd_ft, gd_ff, unG_pure, lift_some, bnd_lift, Option.map_some, Option.bind_some, fieldPtr_ref, fieldPtr_ip, nil_ref, nil_ip, nil_fn, ex_tup, fl_agg, List.getElem?_cons_zero, List.getElem?_cons_succ, Nat.zero_add, Nat.add_zero, Nat.reduceAdd, pk_t, pk_f, lss_int, leq_int, gtr_int, geq_int, eql_int, neq_int, not_bool, beq_self_eq_true, if_true, Bool.false_eq_true, if_false, List.nil_append, List.cons_append, List.append_nil, alc_eq, mkm_eq, nNew, nPut, bNew, bPut, nGrd, bGrd, ldN_is, ldN_lt, ldaN_is, ldaN_lt, stN_is, stN_lt, Nat.lt_add_one, ne_eq, nx1, nx2, nx3, ny1, ny2, ny3, not_false_eq_true, List.length_cons, List.length_nil, Nat.reduceLeDiff, setAt, List.take_succ_cons, List.take_zero, List.drop_succ_cons, List.drop_zero, cells_dat, cells_int, cells_bool, cells_agg, List.all_cons, List.all_nil, isCell_int, isCell_bool, isCell_dat, isCell_ref, isCell_nil, isCell_vsl, cells_vsl, av_len_cfg, av_len_pkt, av_len_opn, av_len_evn, av_len_ent, av_len_row, av_len_deal, av_len_pck, tk_cfg, tk_pkt, tk_opn, tk_evn, tk_ent, tk_row, tk_deal, tk_pck, all_cfg, all_pkt, all_opn, all_evn, all_ent, all_row, all_deal, all_pck, List.drop_nil, Bool.and_true, Bool.and_self, and_self, Nat.le_refl, true_and, and_true, Nat.le_add_right, leS, ltS, sh_29, max_int, e, bd_105, bldA, fillA, pl_105, box_agg]
  · match i with
    | 0 => right; cases hc; cases hx; exact ⟨rfl, 9, rfl⟩
    | 1 => left; cases hc; cases hx; rfl
    | i + 2 => cases hc
theorem cacheNew (H : AHeap) (sets ways : Int) (h : 1 ≤ sets) (h' : 1 ≤ ways) : ∃ H' q, cl 30 [I sets, I ways] H = some (.ref q 0 0, H') ∧ Made H H' (upd nil0 q (cacheO ⟨[], sets, ways, 0⟩)) := by
  refine ⟨_, H.next, run_cl rfl rfl (rn_30 _ _ _ _ (r := (_, H.new (.blk 0 108 [zN, I sets, I ways, zI]))) ?_), made_box rfl rfl fun i c x hc hx => ?_⟩
  · have e : max (1 : Int) sets = sets := by omega
    have e' : max (1 : Int) ways = ways := by omega
    simp -implicitDefEqProofs only [bnd_some, bo_some, condK_true, condK_false, gdA_undef, decide_true, decide_false, Int.reduceLE, Int.reduceLT, Int.reduceEq, Int.reduceNeg, Int.reduceAdd, gd_tt, gd_tf, gd_ft, gd_ff, unG_pure, lift_some, bnd_lift, Option.map_some, Option.bind_some, fieldPtr_ref, fieldPtr_ip, nil_ref, nil_ip, nil_fn, ex_tup, fl_agg, List.getElem?_cons_zero, List.getElem?_cons_succ, Nat.zero_add, Nat.add_zero, Nat.reduceAdd, pk_t, pk_f, lss_int, leq_int, gtr_int, geq_int, eql_int, neq_int, not_bool, beq_self_eq_true, if_true, Bool.false_eq_true, if_false, List.nil_append, List.cons_append, List.append_nil, alc_eq, mkm_eq, nNew, nPut, bNew, bPut, nGrd, bGrd, ldN_is, ldN_lt, ldaN_is, ldaN_lt, stN_is, stN_lt, Nat.lt_add_one, ne_eq, nx1, nx2, nx3, ny1, ny2, ny3, not_false_eq_true, List.length_cons, List.length_nil, Nat.reduceLeDiff, setAt, List.take_succ_cons, List.take_zero, List.drop_succ_cons, List.drop_zero, cells_dat, cells_int, cells_bool, cells_agg, List.all_cons, List.all_nil, isCell_int, isCell_bool, isCell_dat, isCell_ref, isCell_nil, isCell_vsl, cells_vsl, av_len_cfg, av_len_pkt, av_len_opn, av_len_evn, av_len_ent, av_len_row, av_len_deal, av_len_pck, tk_cfg, tk_pkt, tk_opn, tk_evn, tk_ent, tk_row, tk_deal, tk_pck, all_cfg, all_pkt, all_opn, all_evn, all_ent, all_row, all_deal, all_pck, List.drop_nil, Bool.and_true, Bool.and_self, and_self, Nat.le_refl, true_and, and_true, Nat.le_add_right, leS, ltS, sh_30, max_int, e, e', bd_108, bldA, fillA, pl_108, box_agg]
  · match i with
    | 0 => right; cases hc; cases hx; exact ⟨rfl, 6, rfl⟩
    | 1 => left; cases hc; cases hx; rfl
    | 2 => left; cases hc; cases hx; rfl
    | 3 => left; cases hc; cases hx; rfl
    | i + 4 => cases hc
theorem traceNew (H : AHeap) : ∃ H' q, cl 18 [] H = some (.ref q 0 0, H') ∧ Made H H' (upd nil0 q (traceO [])) := by
  refine ⟨_, H.next, run_cl rfl rfl (rn_18 _ _ (r := (_, H.new (.blk 0 77 [zN]))) ?_), made_box rfl rfl fun i c x hc hx => ?_⟩
  · simp -implicitDefEqProofs only [bnd_some, bo_some, condK_true, condK_false, gdA_undef, decide_true, decide_false, Int.reduceLE, Int.reduceLT, Int.reduceEq, Int.reduceNeg, Int.reduceAdd, gd_tt, gd_tf, gd_ft, gd_ff, unG_pure, lift_some, bnd_lift, Option.map_some, Option.bind_some, fieldPtr_ref, fieldPtr_ip, nil_ref, nil_ip, nil_fn, ex_tup, fl_agg, List.getElem?_cons_zero, List.getElem?_cons_succ, Nat.zero_add, Nat.add_zero, Nat.reduceAdd, pk_t, pk_f, lss_int, leq_int, gtr_int, geq_int, eql_int, neq_int, not_bool, beq_self_eq_true, if_true, Bool.false_eq_true, if_false, List.nil_append, List.cons_append, List.append_nil, alc_eq, mkm_eq, nNew, nPut, bNew, bPut, nGrd, bGrd, ldN_is, ldN_lt, ldaN_is, ldaN_lt, stN_is, stN_lt, Nat.lt_add_one, ne_eq, nx1, nx2, nx3, ny1, ny2, ny3, not_false_eq_true, List.length_cons, List.length_nil, Nat.reduceLeDiff, setAt, List.take_succ_cons, List.take_zero, List.drop_succ_cons, List.drop_zero, cells_dat, cells_int, cells_bool, cells_agg, List.all_cons, List.all_nil, isCell_int, isCell_bool, isCell_dat, isCell_ref, isCell_nil, isCell_vsl, cells_vsl, av_len_cfg, av_len_pkt, av_len_opn, av_len_evn, av_len_ent, av_len_row, av_len_deal, av_len_pck, tk_cfg, tk_pkt, tk_opn, tk_evn, tk_ent, tk_row, tk_deal, tk_pck, all_cfg, all_pkt, all_opn, all_evn, all_ent, all_row, all_deal, all_pck, List.drop_nil, Bool.and_true, Bool.and_self, and_self, Nat.le_refl, true_and, and_true, Nat.le_add_right, leS, ltS, sh_18, bd_77, bldA, fillA, pl_77, box_agg]
  · match i with
    | 0 => right; cases hc; cases hx; exact ⟨rfl, 4, rfl⟩
    | i + 1 => cases hc
theorem turnsNew (H : AHeap) : ∃ H' q, cl 44 [] H = some (.ref q 0 0, H') ∧ Made H H' (upd nil0 q (turnsO ⟨[], []⟩)) := by
  refine ⟨_, H.next + 2, run_cl rfl rfl (rn_44 _ _ (r := (_, ((H.new (.map .i64 [])).new (.map .i64 [])).new (.blk 0 137 [.mp H.next, .mp (H.next + 1)]))) ?_), made_maps (H' := (H.new (.map .i64 [])).new (.map .i64 [])) (by omega) (by rw [nNew, nNew]) rfl (fun r hr => by rw [getNew_lt (by rw [nNew]; omega), getNew_lt hr]) rfl rfl (fun r => if r = H.next then some 0 else if r = H.next + 1 then some 1 else none) fun i c x hc hx => ?_⟩
  · have e : ∀ r, (AV.mp r).cells = [.mp r] := fun _ => rfl
    simp -implicitDefEqProofs only [bnd_some, bo_some, condK_true, condK_false, gdA_undef, decide_true, decide_false, Int.reduceLE, Int.reduceLT, Int.reduceEq, Int.reduceNeg, Int.reduceAdd, gd_tt, gd_tf, gd_ft, gd_ff, unG_pure, lift_some, bnd_lift, Option.map_some, Option.bind_some, fieldPtr_ref, fieldPtr_ip, nil_ref, nil_ip, nil_fn, ex_tup, fl_agg, List.getElem?_cons_zero, List.getElem?_cons_succ, Nat.zero_add, Nat.add_zero, Nat.reduceAdd, pk_t, pk_f, lss_int, leq_int, gtr_int, geq_int, eql_int, neq_int, not_bool, beq_self_eq_true, if_true, Bool.false_eq_true, if_false, List.nil_append, List.cons_append, List.append_nil, alc_eq, mkm_eq, nNew, nPut, bNew, bPut, nGrd, bGrd, ldN_is, ldN_lt, ldaN_is, ldaN_lt, stN_is, stN_lt, Nat.lt_add_one, ne_eq, nx1, nx2, nx3, ny1, ny2, ny3, not_false_eq_true, List.length_cons, List.length_nil, Nat.reduceLeDiff, setAt, List.take_succ_cons, List.take_zero, List.drop_succ_cons, List.drop_zero, cells_dat, cells_int, cells_bool, cells_agg, List.all_cons, List.all_nil, isCell_int, isCell_bool, isCell_dat, isCell_ref, isCell_nil, isCell_vsl, cells_vsl, av_len_cfg, av_len_pkt, av_len_opn, av_len_evn, av_len_ent, av_len_row, av_len_deal, av_len_pck, tk_cfg, tk_pkt, tk_opn, tk_evn, tk_ent, tk_row, tk_deal, tk_pck, all_cfg, all_pkt, all_opn, all_evn, all_ent, all_row, all_deal, all_pck, List.drop_nil, Bool.and_true, Bool.and_self, and_self, Nat.le_refl, true_and, and_true, Nat.le_add_right, leS, ltS, sh_44, bd_137, bldA, fillA, pl_137, box_agg, e, isCell_mp]
  · match i with
    | 0 => right; right; cases hc; cases hx; exact ⟨H.next, .i64, rfl, Nat.le_refl _, by omega, by simp, by rw [getNew_lt (by rw [nNew]; omega), getNew_is rfl], .inl rfl⟩
    | 1 => right; right; cases hc; cases hx; exact ⟨H.next + 1, .i64, rfl, by omega, by omega, by simp, by rw [getNew_is (by rw [nNew])], .inr ⟨2, rfl⟩⟩
    | i + 2 => cases hc
end

end Go.Proofs.YtmhbgbiaajbhnaaGreat

namespace Go.Proofs.YtmhbgbiaajbhnaaGreat

theorem frz_list {d : Nat} {α : Type} {enc : α → List AV} (h : ∀ a, ∀ x ∈ enc a, Frz d x) (l : List α) : ∀ x ∈ l.flatMap enc, Frz d x := fun x hx => by
  obtain ⟨a, _, ha⟩ := List.mem_flatMap.1 hx
  exact h a x ha
theorem frz_opn (o : Opn) : ∀ x ∈ o.av, Frz 8 x := fun x hx => by
  simp only [Opn.av, List.mem_cons, List.not_mem_nil, or_false] at hx
  rcases hx with rfl | rfl | rfl <;> exact frz_s
/-- A copy of a list in whatever form, in new memory. -/
theorem cloneOpn (H : AHeap) (l : List Opn) (hl : l.length < 1000000000) {x : AV} (hx : SliceIs H x 3 l.length (l.flatMap Opn.av)) (h0 : l = [] → x = zN) (hn : l ≠ [] → bi .eql 30 x zN = some (B false)) : cl 42 [x] H = some (vsl 3 Opn.av l, H) := by
  by_cases h : l = []
  · rw [h0 h]
    subst h
    refine pure_cl rfl rfl (rn_42 _ _ _ (r := (zN, H.guard)) ?_) (by rw [vsl_nil]; exact freeze_s)
    have e : bi .eql 30 zN zN = some (B true) := by kernel_rfl
    simp -implicitDefEqProofs only [bnd_some, bo_some, condK_true, condK_false, gdA_undef, decide_true, decide_false, Int.reduceLE, Int.reduceLT, Int.reduceEq, Int.reduceNeg, Int.reduceAdd, gd_tt, gd_tf, gd_ft, gd_ff, unG_pure, lift_some, bnd_lift, Option.map_some, Option.bind_some, fieldPtr_ref, fieldPtr_ip, nil_ref, nil_ip, nil_fn, ex_tup, fl_agg, List.getElem?_cons_zero, List.getElem?_cons_succ, Nat.zero_add, Nat.add_zero, Nat.reduceAdd, pk_t, pk_f, lss_int, leq_int, gtr_int, geq_int, eql_int, neq_int, not_bool, beq_self_eq_true, if_true, Bool.false_eq_true, if_false, List.nil_append, List.cons_append, List.append_nil, alc_eq, mkm_eq, nNew, nPut, bNew, bPut, nGrd, bGrd, sh_42, e]
  · have h1 : l.length ≠ 0 := fun e => h (List.eq_nil_of_length_eq_zero e)
    have e2 := app_empty (e := 38) (by_ := 24) (r := H.guard.next) (H := H.guard.new (.blk 0 38 [])) getNew_eq (hx.guard.new _) (all_flat all_opn l) h1 (by unfold most; omega) (by unfold most; omega)
    simp only [nGrd, nNew] at e2
    refine pure_cl rfl rfl (rn_42 _ _ _ (r := (.sl (H.next + 1) 0 0 3 l.length l.length false, (H.guard.new (.blk 0 38 [])).new (.blk 0 38 (l.flatMap Opn.av)))) ?_) ?_
    · simp -implicitDefEqProofs only [bnd_some, bo_some, condK_true, condK_false, gdA_undef, decide_true, decide_false, Int.reduceLE, Int.reduceLT, Int.reduceEq, Int.reduceNeg, Int.reduceAdd, gd_tt, gd_tf, gd_ft, gd_ff, unG_pure, lift_some, bnd_lift, Option.map_some, Option.bind_some, fieldPtr_ref, fieldPtr_ip, nil_ref, nil_ip, nil_fn, ex_tup, fl_agg, List.getElem?_cons_zero, List.getElem?_cons_succ, Nat.zero_add, Nat.add_zero, Nat.reduceAdd, pk_t, pk_f, lss_int, leq_int, gtr_int, geq_int, eql_int, neq_int, not_bool, beq_self_eq_true, if_true, Bool.false_eq_true, if_false, List.nil_append, List.cons_append, List.append_nil, alc_eq, mkm_eq, nNew, nPut, bNew, bPut, nGrd, bGrd, sh_42, hn h, bs_30, bsl_nil, e2, Nat.zero_mul, Nat.zero_le]
    · rw [vsl_cons h]
      refine freeze_sl (by omega) (cells := l.flatMap Opn.av) ?_ (freeze_all _ fun x hx => frz_list frz_opn l x hx _ _)
      simp only [sliceCells, get_new, nNew, nGrd, if_true]
      rw [if_pos (by rw [flat_len av_len_opn, Nat.zero_add]; exact ⟨trivial, Nat.le_refl _⟩), List.drop_zero, List.take_of_length_le (by rw [flat_len av_len_opn]; exact Nat.le_refl _)]
theorem within_sp (H : AHeap) (n m : Int) : cl 22 [I n, I m] H = some (B (within n m), H) := by
  refine run_cl rfl rfl (rn_22 _ _ _ _ ?_)
  by_cases h : 1 ≤ n
  · simp -implicitDefEqProofs only [bnd_some, bo_some, condK_true, condK_false, gdA_undef, decide_true, decide_false, Int.reduceLE, Int.reduceLT, Int.reduceEq, Int.reduceNeg, Int.reduceAdd, gd_tt, gd_tf, gd_ft, gd_ff, unG_pure, lift_some, bnd_lift, Option.map_some, Option.bind_some, fieldPtr_ref, fieldPtr_ip, nil_ref, nil_ip, nil_fn, ex_tup, fl_agg, List.getElem?_cons_zero, List.getElem?_cons_succ, Nat.zero_add, Nat.add_zero, Nat.reduceAdd, pk_t, pk_f, lss_int, leq_int, gtr_int, geq_int, eql_int, neq_int, not_bool, beq_self_eq_true, if_true, Bool.false_eq_true, if_false, List.nil_append, List.cons_append, List.append_nil, alc_eq, mkm_eq, nNew, nPut, bNew, bPut, nGrd, bGrd, sh_22, h, decide_true, within, Bool.true_and]
  · simp -implicitDefEqProofs only [bnd_some, bo_some, condK_true, condK_false, gdA_undef, decide_true, decide_false, Int.reduceLE, Int.reduceLT, Int.reduceEq, Int.reduceNeg, Int.reduceAdd, gd_tt, gd_tf, gd_ft, gd_ff, unG_pure, lift_some, bnd_lift, Option.map_some, Option.bind_some, fieldPtr_ref, fieldPtr_ip, nil_ref, nil_ip, nil_fn, ex_tup, fl_agg, List.getElem?_cons_zero, List.getElem?_cons_succ, Nat.zero_add, Nat.add_zero, Nat.reduceAdd, pk_t, pk_f, lss_int, leq_int, gtr_int, geq_int, eql_int, neq_int, not_bool, beq_self_eq_true, if_true, Bool.false_eq_true, if_false, List.nil_append, List.cons_append, List.append_nil, alc_eq, mkm_eq, nNew, nPut, bNew, bPut, nGrd, bGrd, sh_22, h, decide_false, within, Bool.false_and]
/-- A configuration that may be. -/
theorem check_ok (H : AHeap) (c : Cfg) (h : c.ok = true) : cl 14 [.agg c.av] H = some (I 0, H) := by
  refine pure_val rfl rfl (rn_14 _ _ _) ?_ frz_s
  have w := fun H n m => within_sp H n m
  have e1 := fun H => (dat_is H c.init).lnS
  simp only [Cfg.ok, Bool.and_eq_true, decide_eq_true_eq] at h
  obtain ⟨⟨⟨⟨⟨⟨⟨a, b⟩, d⟩, f⟩, g⟩, i⟩, j⟩, k⟩ := h
  have t : ∀ n m, 1 ≤ n ∧ n ≤ m → within n m = true := fun n m h => by simp [within, h.1, h.2]
  have hm : IntKind.wrap .i64 (c.lines * c.words) = c.lines * c.words := by
    have : c.lines * c.words ≤ 8 * 4 := Int.mul_le_mul b.2 d.2 (by omega) (by omega)
    have : 0 ≤ c.lines * c.words := Int.mul_nonneg (by omega) (by omega)
    exact wrap_i64 (by omega) (by omega)
  have k' : ¬ c.lines * c.words < c.init.length := by omega
  simp -implicitDefEqProofs only [bnd_some, bo_some, condK_true, condK_false, gdA_undef, decide_true, decide_false, Int.reduceLE, Int.reduceLT, Int.reduceEq, Int.reduceNeg, Int.reduceAdd, gd_tt, gd_tf, gd_ft, gd_ff, unG_pure, lift_some, bnd_lift, Option.map_some, Option.bind_some, fieldPtr_ref, fieldPtr_ip, nil_ref, nil_ip, nil_fn, ex_tup, fl_agg, List.getElem?_cons_zero, List.getElem?_cons_succ, Nat.zero_add, Nat.add_zero, Nat.reduceAdd, pk_t, pk_f, lss_int, leq_int, gtr_int, geq_int, eql_int, neq_int, not_bool, beq_self_eq_true, if_true, Bool.false_eq_true, if_false, List.nil_append, List.cons_append, List.append_nil, alc_eq, mkm_eq, nNew, nPut, bNew, bPut, nGrd, bGrd, ldN_is, ldN_lt, ldaN_is, ldaN_lt, stN_is, stN_lt, Nat.lt_add_one, ne_eq, nx1, nx2, nx3, ny1, ny2, ny3, not_false_eq_true, List.length_cons, List.length_nil, Nat.reduceLeDiff, setAt, List.take_succ_cons, List.take_zero, List.drop_succ_cons, List.drop_zero, cells_dat, cells_int, cells_bool, cells_agg, List.all_cons, List.all_nil, isCell_int, isCell_bool, isCell_dat, isCell_ref, isCell_nil, isCell_vsl, cells_vsl, av_len_cfg, av_len_pkt, av_len_opn, av_len_evn, av_len_ent, av_len_row, av_len_deal, av_len_pck, tk_cfg, tk_pkt, tk_opn, tk_evn, tk_ent, tk_row, tk_deal, tk_pck, all_cfg, all_pkt, all_opn, all_evn, all_ent, all_row, all_deal, all_pck, List.drop_nil, Bool.and_true, Bool.and_self, and_self, Nat.le_refl, true_and, and_true, Nat.le_add_right, leS, ltS, sh_14, box_agg, Cfg.av, w, t _ _ a, t _ _ b, t _ _ d, t _ _ f, t _ _ g, t _ _ i, t _ _ j, e1, mul_int, hm, k', decide_false, Bool.not_true]
theorem addrs_sp (H : AHeap) (c : Cfg) (h : c.ok = true) : cl 54 [.agg c.av] H = some (I c.addrs, H) := by
  refine pure_val rfl rfl (rn_54 _ _ _) ?_ frz_s
  simp only [Cfg.ok, Bool.and_eq_true, decide_eq_true_eq] at h
  obtain ⟨⟨⟨⟨⟨⟨⟨a, b⟩, d⟩, f⟩, g⟩, i⟩, j⟩, k⟩ := h
  have hm : IntKind.wrap .i64 (c.lines * c.words) = c.lines * c.words := by
    have : c.lines * c.words ≤ 8 * 4 := Int.mul_le_mul b.2 d.2 (by omega) (by omega)
    have : 0 ≤ c.lines * c.words := Int.mul_nonneg (by omega) (by omega)
    exact wrap_i64 (by omega) (by omega)
  simp -implicitDefEqProofs only [bnd_some, bo_some, condK_true, condK_false, gdA_undef, decide_true, decide_false, Int.reduceLE, Int.reduceLT, Int.reduceEq, Int.reduceNeg, Int.reduceAdd, gd_tt, gd_tf, gd_ft, gd_ff, unG_pure, lift_some, bnd_lift, Option.map_some, Option.bind_some, fieldPtr_ref, fieldPtr_ip, nil_ref, nil_ip, nil_fn, ex_tup, fl_agg, List.getElem?_cons_zero, List.getElem?_cons_succ, Nat.zero_add, Nat.add_zero, Nat.reduceAdd, pk_t, pk_f, lss_int, leq_int, gtr_int, geq_int, eql_int, neq_int, not_bool, beq_self_eq_true, if_true, Bool.false_eq_true, if_false, List.nil_append, List.cons_append, List.append_nil, alc_eq, mkm_eq, nNew, nPut, bNew, bPut, nGrd, bGrd, ldN_is, ldN_lt, ldaN_is, ldaN_lt, stN_is, stN_lt, Nat.lt_add_one, ne_eq, nx1, nx2, nx3, ny1, ny2, ny3, not_false_eq_true, List.length_cons, List.length_nil, Nat.reduceLeDiff, setAt, List.take_succ_cons, List.take_zero, List.drop_succ_cons, List.drop_zero, cells_dat, cells_int, cells_bool, cells_agg, List.all_cons, List.all_nil, isCell_int, isCell_bool, isCell_dat, isCell_ref, isCell_nil, isCell_vsl, cells_vsl, av_len_cfg, av_len_pkt, av_len_opn, av_len_evn, av_len_ent, av_len_row, av_len_deal, av_len_pck, tk_cfg, tk_pkt, tk_opn, tk_evn, tk_ent, tk_row, tk_deal, tk_pck, all_cfg, all_pkt, all_opn, all_evn, all_ent, all_row, all_deal, all_pck, List.drop_nil, Bool.and_true, Bool.and_self, and_self, Nat.le_refl, true_and, and_true, Nat.le_add_right, leS, ltS, sh_54, box_agg, Cfg.av, mul_int, hm, Cfg.addrs]
structure CfgB (c : Cfg) : Prop where
  nodes : 1 ≤ c.nodes ∧ c.nodes ≤ 6
  lines : 1 ≤ c.lines ∧ c.lines ≤ 8
  words : 1 ≤ c.words ∧ c.words ≤ 4
  sets : 1 ≤ c.sets ∧ c.sets ≤ 4
  ways : 1 ≤ c.ways ∧ c.ways ≤ 3
  out : 1 ≤ c.out ∧ c.out ≤ 8
  inn : 1 ≤ c.inn ∧ c.inn ≤ 8
  init : (c.init.length : Int) ≤ c.lines * c.words
  addrs : 1 ≤ c.lines * c.words ∧ c.lines * c.words ≤ 32
theorem cfgB {c : Cfg} (h : c.ok = true) : CfgB c := by
  simp only [Cfg.ok, Bool.and_eq_true, decide_eq_true_eq] at h
  obtain ⟨⟨⟨⟨⟨⟨⟨a, b⟩, d⟩, f⟩, g⟩, i⟩, j⟩, k⟩ := h
  have h1 : c.lines * c.words ≤ 8 * 4 := Int.mul_le_mul b.2 d.2 (by omega) (by omega)
  have h2 : 1 * 1 ≤ c.lines * c.words := Int.mul_le_mul b.1 d.1 (by omega) (by omega)
  exact ⟨a, b, d, f, g, i, j, k, by omega, by omega⟩
theorem rest_sp (H : AHeap) (n m : Int) (h : 1 ≤ m) : cl 70 [I n, I m] H = some (I (restOf n m), H) := by
  refine run_cl rfl rfl (rn_70 _ _ _ _ ?_)
  by_cases h0 : n < 0
  · simp -implicitDefEqProofs only [bnd_some, bo_some, condK_true, condK_false, gdA_undef, decide_true, decide_false, Int.reduceLE, Int.reduceLT, Int.reduceEq, Int.reduceNeg, Int.reduceAdd, gd_tt, gd_tf, gd_ft, gd_ff, unG_pure, lift_some, bnd_lift, Option.map_some, Option.bind_some, fieldPtr_ref, fieldPtr_ip, nil_ref, nil_ip, nil_fn, ex_tup, fl_agg, List.getElem?_cons_zero, List.getElem?_cons_succ, Nat.zero_add, Nat.add_zero, Nat.reduceAdd, pk_t, pk_f, lss_int, leq_int, gtr_int, geq_int, eql_int, neq_int, not_bool, beq_self_eq_true, if_true, Bool.false_eq_true, if_false, List.nil_append, List.cons_append, List.append_nil, alc_eq, mkm_eq, nNew, nPut, bNew, bPut, nGrd, bGrd, sh_70, h0, decide_true, restOf]
  · have e : n.tmod m = n % m := Int.tmod_eq_emod_of_nonneg (by omega)
    simp -implicitDefEqProofs only [bnd_some, bo_some, condK_true, condK_false, gdA_undef, decide_true, decide_false, Int.reduceLE, Int.reduceLT, Int.reduceEq, Int.reduceNeg, Int.reduceAdd, gd_tt, gd_tf, gd_ft, gd_ff, unG_pure, lift_some, bnd_lift, Option.map_some, Option.bind_some, fieldPtr_ref, fieldPtr_ip, nil_ref, nil_ip, nil_fn, ex_tup, fl_agg, List.getElem?_cons_zero, List.getElem?_cons_succ, Nat.zero_add, Nat.add_zero, Nat.reduceAdd, pk_t, pk_f, lss_int, leq_int, gtr_int, geq_int, eql_int, neq_int, not_bool, beq_self_eq_true, if_true, Bool.false_eq_true, if_false, List.nil_append, List.cons_append, List.append_nil, alc_eq, mkm_eq, nNew, nPut, bNew, bPut, nGrd, bGrd, sh_70, h0, decide_false, rem_int (show m ≠ 0 by omega), restOf, e]
theorem homeOf_sp (H : AHeap) (c : Cfg) (h : c.ok = true) (line : Int) : cl 55 [.agg c.av, I line] H = some (I (c.homeOf line), H) := by
  have B := cfgB h
  refine pure_val rfl rfl (rn_55 _ _ _ _) ?_ frz_s
  have e := fun H => rest_sp H line c.nodes B.nodes.1
  simp -implicitDefEqProofs only [bnd_some, bo_some, condK_true, condK_false, gdA_undef, decide_true, decide_false, Int.reduceLE, Int.reduceLT, Int.reduceEq, Int.reduceNeg, Int.reduceAdd, gd_tt, gd_tf, gd_ft, gd_ff, unG_pure, lift_some, bnd_lift, Option.map_some, Option.bind_some, fieldPtr_ref, fieldPtr_ip, nil_ref, nil_ip, nil_fn, ex_tup, fl_agg, List.getElem?_cons_zero, List.getElem?_cons_succ, Nat.zero_add, Nat.add_zero, Nat.reduceAdd, pk_t, pk_f, lss_int, leq_int, gtr_int, geq_int, eql_int, neq_int, not_bool, beq_self_eq_true, if_true, Bool.false_eq_true, if_false, List.nil_append, List.cons_append, List.append_nil, alc_eq, mkm_eq, nNew, nPut, bNew, bPut, nGrd, bGrd, ldN_is, ldN_lt, ldaN_is, ldaN_lt, stN_is, stN_lt, Nat.lt_add_one, ne_eq, nx1, nx2, nx3, ny1, ny2, ny3, not_false_eq_true, List.length_cons, List.length_nil, Nat.reduceLeDiff, setAt, List.take_succ_cons, List.take_zero, List.drop_succ_cons, List.drop_zero, cells_dat, cells_int, cells_bool, cells_agg, List.all_cons, List.all_nil, isCell_int, isCell_bool, isCell_dat, isCell_ref, isCell_nil, isCell_vsl, cells_vsl, av_len_cfg, av_len_pkt, av_len_opn, av_len_evn, av_len_ent, av_len_row, av_len_deal, av_len_pck, tk_cfg, tk_pkt, tk_opn, tk_evn, tk_ent, tk_row, tk_deal, tk_pck, all_cfg, all_pkt, all_opn, all_evn, all_ent, all_row, all_deal, all_pck, List.drop_nil, Bool.and_true, Bool.and_self, and_self, Nat.le_refl, true_and, and_true, Nat.le_add_right, leS, ltS, sh_55, box_agg, Cfg.av, e, Cfg.homeOf]
theorem lineOf_sp (H : AHeap) (c : Cfg) (h : c.ok = true) (a : Int) : cl 41 [.agg c.av, I a] H = some (.tup [I (c.lineOf a), I (c.wordOf a)], H) := by
  have B := cfgB h
  refine pure_val rfl rfl (rn_41 _ _ _ _) ?_ (frz_tup fun x hx => by
    simp only [List.mem_cons, List.not_mem_nil, or_false] at hx
    rcases hx with rfl | rfl <;> exact frz_s)
  have e := fun H => addrs_sp H c h
  by_cases h0 : a < 0
  · simp -implicitDefEqProofs only [bnd_some, bo_some, condK_true, condK_false, gdA_undef, decide_true, decide_false, Int.reduceLE, Int.reduceLT, Int.reduceEq, Int.reduceNeg, Int.reduceAdd, gd_tt, gd_tf, gd_ft, gd_ff, unG_pure, lift_some, bnd_lift, Option.map_some, Option.bind_some, fieldPtr_ref, fieldPtr_ip, nil_ref, nil_ip, nil_fn, ex_tup, fl_agg, List.getElem?_cons_zero, List.getElem?_cons_succ, Nat.zero_add, Nat.add_zero, Nat.reduceAdd, pk_t, pk_f, lss_int, leq_int, gtr_int, geq_int, eql_int, neq_int, not_bool, beq_self_eq_true, if_true, Bool.false_eq_true, if_false, List.nil_append, List.cons_append, List.append_nil, alc_eq, mkm_eq, nNew, nPut, bNew, bPut, nGrd, bGrd, ldN_is, ldN_lt, ldaN_is, ldaN_lt, stN_is, stN_lt, Nat.lt_add_one, ne_eq, nx1, nx2, nx3, ny1, ny2, ny3, not_false_eq_true, List.length_cons, List.length_nil, Nat.reduceLeDiff, setAt, List.take_succ_cons, List.take_zero, List.drop_succ_cons, List.drop_zero, cells_dat, cells_int, cells_bool, cells_agg, List.all_cons, List.all_nil, isCell_int, isCell_bool, isCell_dat, isCell_ref, isCell_nil, isCell_vsl, cells_vsl, av_len_cfg, av_len_pkt, av_len_opn, av_len_evn, av_len_ent, av_len_row, av_len_deal, av_len_pck, tk_cfg, tk_pkt, tk_opn, tk_evn, tk_ent, tk_row, tk_deal, tk_pck, all_cfg, all_pkt, all_opn, all_evn, all_ent, all_row, all_deal, all_pck, List.drop_nil, Bool.and_true, Bool.and_self, and_self, Nat.le_refl, true_and, and_true, Nat.le_add_right, leS, ltS, sh_41, box_agg (all_cfg c), h0, decide_true, Cfg.lineOf, Cfg.wordOf, true_or]
  · by_cases h1 : c.addrs ≤ a
    · simp -implicitDefEqProofs only [bnd_some, bo_some, condK_true, condK_false, gdA_undef, decide_true, decide_false, Int.reduceLE, Int.reduceLT, Int.reduceEq, Int.reduceNeg, Int.reduceAdd, gd_tt, gd_tf, gd_ft, gd_ff, unG_pure, lift_some, bnd_lift, Option.map_some, Option.bind_some, fieldPtr_ref, fieldPtr_ip, nil_ref, nil_ip, nil_fn, ex_tup, fl_agg, List.getElem?_cons_zero, List.getElem?_cons_succ, Nat.zero_add, Nat.add_zero, Nat.reduceAdd, pk_t, pk_f, lss_int, leq_int, gtr_int, geq_int, eql_int, neq_int, not_bool, beq_self_eq_true, if_true, Bool.false_eq_true, if_false, List.nil_append, List.cons_append, List.append_nil, alc_eq, mkm_eq, nNew, nPut, bNew, bPut, nGrd, bGrd, ldN_is, ldN_lt, ldaN_is, ldaN_lt, stN_is, stN_lt, Nat.lt_add_one, ne_eq, nx1, nx2, nx3, ny1, ny2, ny3, not_false_eq_true, List.length_cons, List.length_nil, Nat.reduceLeDiff, setAt, List.take_succ_cons, List.take_zero, List.drop_succ_cons, List.drop_zero, cells_dat, cells_int, cells_bool, cells_agg, List.all_cons, List.all_nil, isCell_int, isCell_bool, isCell_dat, isCell_ref, isCell_nil, isCell_vsl, cells_vsl, av_len_cfg, av_len_pkt, av_len_opn, av_len_evn, av_len_ent, av_len_row, av_len_deal, av_len_pck, tk_cfg, tk_pkt, tk_opn, tk_evn, tk_ent, tk_row, tk_deal, tk_pck, all_cfg, all_pkt, all_opn, all_evn, all_ent, all_row, all_deal, all_pck, List.drop_nil, Bool.and_true, Bool.and_self, and_self, Nat.le_refl, true_and, and_true, Nat.le_add_right, leS, ltS, sh_41, box_agg (all_cfg c), h0, h1, decide_true, decide_false, Cfg.lineOf, Cfg.wordOf, or_true, e]
    · have q : a.tdiv c.words = a / c.words := Int.tdiv_eq_ediv_of_nonneg (by omega)
      have r : a.tmod c.words = a % c.words := Int.tmod_eq_emod_of_nonneg (by omega)
      have q1 : 0 ≤ a / c.words := Int.ediv_nonneg (by omega) (by have := B.words; omega)
      have q2 : a / c.words ≤ a := Int.ediv_le_self _ (by omega)
      have q3 : c.addrs ≤ 32 := B.addrs.2
      have w := wrap_i64 (a := a / c.words) (by omega) (by omega)
      have z : c.words ≠ 0 := by have := B.words; omega
      have l2 : c.av[2]? = some (I c.words) := rfl
      simp -implicitDefEqProofs only [bnd_some, bo_some, condK_true, condK_false, gdA_undef, decide_true, decide_false, Int.reduceLE, Int.reduceLT, Int.reduceEq, Int.reduceNeg, Int.reduceAdd, gd_tt, gd_tf, gd_ft, gd_ff, unG_pure, lift_some, bnd_lift, Option.map_some, Option.bind_some, fieldPtr_ref, fieldPtr_ip, nil_ref, nil_ip, nil_fn, ex_tup, fl_agg, List.getElem?_cons_zero, List.getElem?_cons_succ, Nat.zero_add, Nat.add_zero, Nat.reduceAdd, pk_t, pk_f, lss_int, leq_int, gtr_int, geq_int, eql_int, neq_int, not_bool, beq_self_eq_true, if_true, Bool.false_eq_true, if_false, List.nil_append, List.cons_append, List.append_nil, alc_eq, mkm_eq, nNew, nPut, bNew, bPut, nGrd, bGrd, ldN_is, ldN_lt, ldaN_is, ldaN_lt, stN_is, stN_lt, Nat.lt_add_one, ne_eq, nx1, nx2, nx3, ny1, ny2, ny3, not_false_eq_true, List.length_cons, List.length_nil, Nat.reduceLeDiff, setAt, List.take_succ_cons, List.take_zero, List.drop_succ_cons, List.drop_zero, cells_dat, cells_int, cells_bool, cells_agg, List.all_cons, List.all_nil, isCell_int, isCell_bool, isCell_dat, isCell_ref, isCell_nil, isCell_vsl, cells_vsl, av_len_cfg, av_len_pkt, av_len_opn, av_len_evn, av_len_ent, av_len_row, av_len_deal, av_len_pck, tk_cfg, tk_pkt, tk_opn, tk_evn, tk_ent, tk_row, tk_deal, tk_pck, all_cfg, all_pkt, all_opn, all_evn, all_ent, all_row, all_deal, all_pck, List.drop_nil, Bool.and_true, Bool.and_self, and_self, Nat.le_refl, true_and, and_true, Nat.le_add_right, leS, ltS, sh_41, box_agg (all_cfg c), h0, h1, decide_false, Cfg.lineOf, Cfg.wordOf, or_false, e, l2, quo_int z, rem_int z, q, r, w]

end Go.Proofs.YtmhbgbiaajbhnaaGreat

namespace Go.Proofs.YtmhbgbiaajbhnaaGreat

/-- The answer of a search. -/
def idxI (o : Option Nat) : Int := match o with
  | some i => (i : Int)
  | none => -1
theorem findIdx_at {α : Type} {p : α → Bool} : ∀ (l : List α) (i : Nat), (∀ j a, j < i → l[j]? = some a → p a = false) → l.findIdx? p = ((l.drop i).findIdx? p).map (· + i)
  | l, 0, _ => by cases h : l.findIdx? p <;> simp [h]
  | [], i + 1, _ => by simp
  | a :: l, i + 1, h => by
    have h0 := h 0 a (by omega) rfl
    rw [List.findIdx?_cons, h0, List.drop_succ_cons, findIdx_at l i fun j b hj hb => h (j + 1) b (by omega) hb]
    simp only [Bool.false_eq_true, if_false, Option.map_map]
    congr 1
theorem indexFuncOp (H : AHeap) {α : Type} {enc : α → List AV} (he : ∀ a, (enc a).length = 3) {x f : AV} {l : List α} (hx : SliceIs H x 3 l.length (l.flatMap enc)) (hl : l.length < 1000000000) (p : α → Bool)
    (hp : ∀ a ∈ l, callA Tryz.prog cl f [.agg (enc a)] H = some (B (p a), H)) : cl 40 [x, f] H = some (I (idxI (l.findIdx? p)), H) := by
  have e1 := hx.lnS
  have e2 : ∀ i a, l[i]? = some a → lda 3 (elemPtr x i) H = some (.agg (enc a), H) := fun i a hi => lda_elem he hx hi
  refine run_cl rfl rfl (rn_40 _ _ _ _ ?_)
  have key : ∀ k i, i + k = l.length → (∀ j a, j < i → l[j]? = some a → p a = false) → lp_40x0 cl [x, f, I l.length, I i] H = some (I (idxI (l.findIdx? p)), H) := by
    intro k
    induction k with
    | zero =>
      intro i hi hf
      have h1 : ¬ (i : Int) < l.length := by omega
      have h2 : l.findIdx? p = none := by rw [findIdx_at l i hf, List.drop_of_length_le (by omega)]; rfl
      rw [le_40x0]
      simp -implicitDefEqProofs only [bnd_some, bo_some, condK_true, condK_false, gdA_undef, decide_true, decide_false, Int.reduceLE, Int.reduceLT, Int.reduceEq, Int.reduceNeg, Int.reduceAdd, gd_tt, gd_tf, gd_ft, gd_ff, unG_pure, lift_some, bnd_lift, Option.map_some, Option.bind_some, fieldPtr_ref, fieldPtr_ip, nil_ref, nil_ip, nil_fn, ex_tup, fl_agg, List.getElem?_cons_zero, List.getElem?_cons_succ, Nat.zero_add, Nat.add_zero, Nat.reduceAdd, pk_t, pk_f, lss_int, leq_int, gtr_int, geq_int, eql_int, neq_int, not_bool, beq_self_eq_true, if_true, Bool.false_eq_true, if_false, List.nil_append, List.cons_append, List.append_nil, alc_eq, mkm_eq, nNew, nPut, bNew, bPut, nGrd, bGrd, h1, h2, decide_false, idxI]
    | succ k ih =>
      intro i hi hf
      have h1 : (i : Int) < l.length := by omega
      have h3 := hx.ix (k := .i64) (i := (i : Int)) (by omega) h1
      obtain ⟨a, ha⟩ : ∃ a, l[i]? = some a := ⟨_, List.getElem?_eq_getElem (by omega)⟩
      have h4 := e2 i a ha
      have h5 := hp a (List.mem_of_getElem? ha)
      rw [Int.toNat_natCast] at h3
      rw [le_40x0]
      cases hpa : p a with
      | true =>
        have h2 : l.findIdx? p = some i := by
          rw [findIdx_at l i hf, List.drop_eq_getElem_cons (by omega), List.findIdx?_cons]
          rw [List.getElem?_eq_getElem (by omega)] at ha
          simp only [Option.some.injEq] at ha
          rw [ha, hpa]; simp
        rw [hpa] at h5
        simp -implicitDefEqProofs only [bnd_some, bo_some, condK_true, condK_false, gdA_undef, decide_true, decide_false, Int.reduceLE, Int.reduceLT, Int.reduceEq, Int.reduceNeg, Int.reduceAdd, gd_tt, gd_tf, gd_ft, gd_ff, unG_pure, lift_some, bnd_lift, Option.map_some, Option.bind_some, fieldPtr_ref, fieldPtr_ip, nil_ref, nil_ip, nil_fn, ex_tup, fl_agg, List.getElem?_cons_zero, List.getElem?_cons_succ, Nat.zero_add, Nat.add_zero, Nat.reduceAdd, pk_t, pk_f, lss_int, leq_int, gtr_int, geq_int, eql_int, neq_int, not_bool, beq_self_eq_true, if_true, Bool.false_eq_true, if_false, List.nil_append, List.cons_append, List.append_nil, alc_eq, mkm_eq, nNew, nPut, bNew, bPut, nGrd, bGrd, h1, h2, h3, h4, h5, decide_true, idxI]
      | false =>
        rw [hpa] at h5
        have h6 : (i : Int) + 1 = ((i + 1 : Nat) : Int) := by omega
        have h7 := wrap_i64 (a := ((i + 1 : Nat) : Int)) (by omega) (by omega)
        have := ih (i + 1) (by omega) fun j b hj hb => by
          by_cases hji : j = i
          · subst hji; rw [ha] at hb; cases hb; exact hpa
          · exact hf j b (by omega) hb
        simp -implicitDefEqProofs only [bnd_some, bo_some, condK_true, condK_false, gdA_undef, decide_true, decide_false, Int.reduceLE, Int.reduceLT, Int.reduceEq, Int.reduceNeg, Int.reduceAdd, gd_tt, gd_tf, gd_ft, gd_ff, unG_pure, lift_some, bnd_lift, Option.map_some, Option.bind_some, fieldPtr_ref, fieldPtr_ip, nil_ref, nil_ip, nil_fn, ex_tup, fl_agg, List.getElem?_cons_zero, List.getElem?_cons_succ, Nat.zero_add, Nat.add_zero, Nat.reduceAdd, pk_t, pk_f, lss_int, leq_int, gtr_int, geq_int, eql_int, neq_int, not_bool, beq_self_eq_true, if_true, Bool.false_eq_true, if_false, List.nil_append, List.cons_append, List.append_nil, alc_eq, mkm_eq, nNew, nPut, bNew, bPut, nGrd, bGrd, h1, h3, h4, h5, decide_true, add_int, h6, h7, this]
  have := key l.length 0 (by omega) (fun j a hj => by omega)
  simp -implicitDefEqProofs only [bnd_some, bo_some, condK_true, condK_false, gdA_undef, decide_true, decide_false, Int.reduceLE, Int.reduceLT, Int.reduceEq, Int.reduceNeg, Int.reduceAdd, gd_tt, gd_tf, gd_ft, gd_ff, unG_pure, lift_some, bnd_lift, Option.map_some, Option.bind_some, fieldPtr_ref, fieldPtr_ip, nil_ref, nil_ip, nil_fn, ex_tup, fl_agg, List.getElem?_cons_zero, List.getElem?_cons_succ, Nat.zero_add, Nat.add_zero, Nat.reduceAdd, pk_t, pk_f, lss_int, leq_int, gtr_int, geq_int, eql_int, neq_int, not_bool, beq_self_eq_true, if_true, Bool.false_eq_true, if_false, List.nil_append, List.cons_append, List.append_nil, alc_eq, mkm_eq, nNew, nPut, bNew, bPut, nGrd, bGrd, sh_40, e1]
  exact this
theorem right_sp (H : AHeap) (c : Cfg) (h : c.ok = true) (o : Opn) : cl 27 [.agg c.av, .agg o.av] H = some (B (c.right o), H) := by
  refine pure_val rfl rfl (rn_27 _ _ _ _) ?_ frz_s
  have e := fun H => lineOf_sp H c h o.addr
  have f1 : c.right o = (decide (1 ≤ o.kind) && decide (o.kind ≤ 4) && !decide (c.lineOf o.addr = -1) && (decide (o.value = 0) || decide (o.kind = 2) || decide (o.kind = 3))) := by simp [Cfg.right]
  rw [f1]
  by_cases a : 1 ≤ o.kind
  rotate_left
  · simp -implicitDefEqProofs only [bnd_some, bo_some, condK_true, condK_false, gdA_undef, decide_true, decide_false, Int.reduceLE, Int.reduceLT, Int.reduceEq, Int.reduceNeg, Int.reduceAdd, gd_tt, gd_tf, gd_ft, gd_ff, unG_pure, lift_some, bnd_lift, Option.map_some, Option.bind_some, fieldPtr_ref, fieldPtr_ip, nil_ref, nil_ip, nil_fn, ex_tup, fl_agg, List.getElem?_cons_zero, List.getElem?_cons_succ, Nat.zero_add, Nat.add_zero, Nat.reduceAdd, pk_t, pk_f, lss_int, leq_int, gtr_int, geq_int, eql_int, neq_int, not_bool, beq_self_eq_true, if_true, Bool.false_eq_true, if_false, List.nil_append, List.cons_append, List.append_nil, alc_eq, mkm_eq, nNew, nPut, bNew, bPut, nGrd, bGrd, ldN_is, ldN_lt, ldaN_is, ldaN_lt, stN_is, stN_lt, Nat.lt_add_one, ne_eq, nx1, nx2, nx3, ny1, ny2, ny3, not_false_eq_true, List.length_cons, List.length_nil, Nat.reduceLeDiff, setAt, List.take_succ_cons, List.take_zero, List.drop_succ_cons, List.drop_zero, cells_dat, cells_int, cells_bool, cells_agg, List.all_cons, List.all_nil, isCell_int, isCell_bool, isCell_dat, isCell_ref, isCell_nil, isCell_vsl, cells_vsl, av_len_cfg, av_len_pkt, av_len_opn, av_len_evn, av_len_ent, av_len_row, av_len_deal, av_len_pck, tk_cfg, tk_pkt, tk_opn, tk_evn, tk_ent, tk_row, tk_deal, tk_pck, all_cfg, all_pkt, all_opn, all_evn, all_ent, all_row, all_deal, all_pck, List.drop_nil, Bool.and_true, Bool.and_self, and_self, Nat.le_refl, true_and, and_true, Nat.le_add_right, leS, ltS, sh_27, box_agg, Opn.av, e, a, decide_false, Bool.false_and]
  by_cases b : o.kind ≤ 4
  rotate_left
  · simp -implicitDefEqProofs only [bnd_some, bo_some, condK_true, condK_false, gdA_undef, decide_true, decide_false, Int.reduceLE, Int.reduceLT, Int.reduceEq, Int.reduceNeg, Int.reduceAdd, gd_tt, gd_tf, gd_ft, gd_ff, unG_pure, lift_some, bnd_lift, Option.map_some, Option.bind_some, fieldPtr_ref, fieldPtr_ip, nil_ref, nil_ip, nil_fn, ex_tup, fl_agg, List.getElem?_cons_zero, List.getElem?_cons_succ, Nat.zero_add, Nat.add_zero, Nat.reduceAdd, pk_t, pk_f, lss_int, leq_int, gtr_int, geq_int, eql_int, neq_int, not_bool, beq_self_eq_true, if_true, Bool.false_eq_true, if_false, List.nil_append, List.cons_append, List.append_nil, alc_eq, mkm_eq, nNew, nPut, bNew, bPut, nGrd, bGrd, ldN_is, ldN_lt, ldaN_is, ldaN_lt, stN_is, stN_lt, Nat.lt_add_one, ne_eq, nx1, nx2, nx3, ny1, ny2, ny3, not_false_eq_true, List.length_cons, List.length_nil, Nat.reduceLeDiff, setAt, List.take_succ_cons, List.take_zero, List.drop_succ_cons, List.drop_zero, cells_dat, cells_int, cells_bool, cells_agg, List.all_cons, List.all_nil, isCell_int, isCell_bool, isCell_dat, isCell_ref, isCell_nil, isCell_vsl, cells_vsl, av_len_cfg, av_len_pkt, av_len_opn, av_len_evn, av_len_ent, av_len_row, av_len_deal, av_len_pck, tk_cfg, tk_pkt, tk_opn, tk_evn, tk_ent, tk_row, tk_deal, tk_pck, all_cfg, all_pkt, all_opn, all_evn, all_ent, all_row, all_deal, all_pck, List.drop_nil, Bool.and_true, Bool.and_self, and_self, Nat.le_refl, true_and, and_true, Nat.le_add_right, leS, ltS, sh_27, box_agg, Opn.av, e, a, b, decide_false, decide_true, Bool.true_and, Bool.false_and]
  by_cases d : c.lineOf o.addr = -1
  · simp -implicitDefEqProofs only [bnd_some, bo_some, condK_true, condK_false, gdA_undef, decide_true, decide_false, Int.reduceLE, Int.reduceLT, Int.reduceEq, Int.reduceNeg, Int.reduceAdd, gd_tt, gd_tf, gd_ft, gd_ff, unG_pure, lift_some, bnd_lift, Option.map_some, Option.bind_some, fieldPtr_ref, fieldPtr_ip, nil_ref, nil_ip, nil_fn, ex_tup, fl_agg, List.getElem?_cons_zero, List.getElem?_cons_succ, Nat.zero_add, Nat.add_zero, Nat.reduceAdd, pk_t, pk_f, lss_int, leq_int, gtr_int, geq_int, eql_int, neq_int, not_bool, beq_self_eq_true, if_true, Bool.false_eq_true, if_false, List.nil_append, List.cons_append, List.append_nil, alc_eq, mkm_eq, nNew, nPut, bNew, bPut, nGrd, bGrd, ldN_is, ldN_lt, ldaN_is, ldaN_lt, stN_is, stN_lt, Nat.lt_add_one, ne_eq, nx1, nx2, nx3, ny1, ny2, ny3, not_false_eq_true, List.length_cons, List.length_nil, Nat.reduceLeDiff, setAt, List.take_succ_cons, List.take_zero, List.drop_succ_cons, List.drop_zero, cells_dat, cells_int, cells_bool, cells_agg, List.all_cons, List.all_nil, isCell_int, isCell_bool, isCell_dat, isCell_ref, isCell_nil, isCell_vsl, cells_vsl, av_len_cfg, av_len_pkt, av_len_opn, av_len_evn, av_len_ent, av_len_row, av_len_deal, av_len_pck, tk_cfg, tk_pkt, tk_opn, tk_evn, tk_ent, tk_row, tk_deal, tk_pck, all_cfg, all_pkt, all_opn, all_evn, all_ent, all_row, all_deal, all_pck, List.drop_nil, Bool.and_true, Bool.and_self, and_self, Nat.le_refl, true_and, and_true, Nat.le_add_right, leS, ltS, sh_27, box_agg, Opn.av, e, a, b, d, decide_false, decide_true, Bool.true_and, Bool.false_and, Bool.not_true]
  by_cases f : o.value = 0
  · simp -implicitDefEqProofs only [bnd_some, bo_some, condK_true, condK_false, gdA_undef, decide_true, decide_false, Int.reduceLE, Int.reduceLT, Int.reduceEq, Int.reduceNeg, Int.reduceAdd, gd_tt, gd_tf, gd_ft, gd_ff, unG_pure, lift_some, bnd_lift, Option.map_some, Option.bind_some, fieldPtr_ref, fieldPtr_ip, nil_ref, nil_ip, nil_fn, ex_tup, fl_agg, List.getElem?_cons_zero, List.getElem?_cons_succ, Nat.zero_add, Nat.add_zero, Nat.reduceAdd, pk_t, pk_f, lss_int, leq_int, gtr_int, geq_int, eql_int, neq_int, not_bool, beq_self_eq_true, if_true, Bool.false_eq_true, if_false, List.nil_append, List.cons_append, List.append_nil, alc_eq, mkm_eq, nNew, nPut, bNew, bPut, nGrd, bGrd, ldN_is, ldN_lt, ldaN_is, ldaN_lt, stN_is, stN_lt, Nat.lt_add_one, ne_eq, nx1, nx2, nx3, ny1, ny2, ny3, not_false_eq_true, List.length_cons, List.length_nil, Nat.reduceLeDiff, setAt, List.take_succ_cons, List.take_zero, List.drop_succ_cons, List.drop_zero, cells_dat, cells_int, cells_bool, cells_agg, List.all_cons, List.all_nil, isCell_int, isCell_bool, isCell_dat, isCell_ref, isCell_nil, isCell_vsl, cells_vsl, av_len_cfg, av_len_pkt, av_len_opn, av_len_evn, av_len_ent, av_len_row, av_len_deal, av_len_pck, tk_cfg, tk_pkt, tk_opn, tk_evn, tk_ent, tk_row, tk_deal, tk_pck, all_cfg, all_pkt, all_opn, all_evn, all_ent, all_row, all_deal, all_pck, List.drop_nil, Bool.and_true, Bool.and_self, and_self, Nat.le_refl, true_and, and_true, Nat.le_add_right, leS, ltS, sh_27, box_agg, Opn.av, e, a, b, d, f, decide_false, decide_true, Bool.true_and, Bool.false_and, Bool.not_false, Bool.true_or, Bool.and_true]
  by_cases g : o.kind = 2
  · simp -implicitDefEqProofs only [bnd_some, bo_some, condK_true, condK_false, gdA_undef, decide_true, decide_false, Int.reduceLE, Int.reduceLT, Int.reduceEq, Int.reduceNeg, Int.reduceAdd, gd_tt, gd_tf, gd_ft, gd_ff, unG_pure, lift_some, bnd_lift, Option.map_some, Option.bind_some, fieldPtr_ref, fieldPtr_ip, nil_ref, nil_ip, nil_fn, ex_tup, fl_agg, List.getElem?_cons_zero, List.getElem?_cons_succ, Nat.zero_add, Nat.add_zero, Nat.reduceAdd, pk_t, pk_f, lss_int, leq_int, gtr_int, geq_int, eql_int, neq_int, not_bool, beq_self_eq_true, if_true, Bool.false_eq_true, if_false, List.nil_append, List.cons_append, List.append_nil, alc_eq, mkm_eq, nNew, nPut, bNew, bPut, nGrd, bGrd, ldN_is, ldN_lt, ldaN_is, ldaN_lt, stN_is, stN_lt, Nat.lt_add_one, ne_eq, nx1, nx2, nx3, ny1, ny2, ny3, not_false_eq_true, List.length_cons, List.length_nil, Nat.reduceLeDiff, setAt, List.take_succ_cons, List.take_zero, List.drop_succ_cons, List.drop_zero, cells_dat, cells_int, cells_bool, cells_agg, List.all_cons, List.all_nil, isCell_int, isCell_bool, isCell_dat, isCell_ref, isCell_nil, isCell_vsl, cells_vsl, av_len_cfg, av_len_pkt, av_len_opn, av_len_evn, av_len_ent, av_len_row, av_len_deal, av_len_pck, tk_cfg, tk_pkt, tk_opn, tk_evn, tk_ent, tk_row, tk_deal, tk_pck, all_cfg, all_pkt, all_opn, all_evn, all_ent, all_row, all_deal, all_pck, List.drop_nil, Bool.and_true, Bool.and_self, and_self, Nat.le_refl, true_and, and_true, Nat.le_add_right, leS, ltS, sh_27, box_agg, Opn.av, e, a, b, d, f, g, decide_false, decide_true, Bool.true_and, Bool.false_and, Bool.not_false, Bool.true_or, Bool.or_true, Bool.and_true]
  by_cases i : o.kind = 3
  · simp -implicitDefEqProofs only [bnd_some, bo_some, condK_true, condK_false, gdA_undef, decide_true, decide_false, Int.reduceLE, Int.reduceLT, Int.reduceEq, Int.reduceNeg, Int.reduceAdd, gd_tt, gd_tf, gd_ft, gd_ff, unG_pure, lift_some, bnd_lift, Option.map_some, Option.bind_some, fieldPtr_ref, fieldPtr_ip, nil_ref, nil_ip, nil_fn, ex_tup, fl_agg, List.getElem?_cons_zero, List.getElem?_cons_succ, Nat.zero_add, Nat.add_zero, Nat.reduceAdd, pk_t, pk_f, lss_int, leq_int, gtr_int, geq_int, eql_int, neq_int, not_bool, beq_self_eq_true, if_true, Bool.false_eq_true, if_false, List.nil_append, List.cons_append, List.append_nil, alc_eq, mkm_eq, nNew, nPut, bNew, bPut, nGrd, bGrd, ldN_is, ldN_lt, ldaN_is, ldaN_lt, stN_is, stN_lt, Nat.lt_add_one, ne_eq, nx1, nx2, nx3, ny1, ny2, ny3, not_false_eq_true, List.length_cons, List.length_nil, Nat.reduceLeDiff, setAt, List.take_succ_cons, List.take_zero, List.drop_succ_cons, List.drop_zero, cells_dat, cells_int, cells_bool, cells_agg, List.all_cons, List.all_nil, isCell_int, isCell_bool, isCell_dat, isCell_ref, isCell_nil, isCell_vsl, cells_vsl, av_len_cfg, av_len_pkt, av_len_opn, av_len_evn, av_len_ent, av_len_row, av_len_deal, av_len_pck, tk_cfg, tk_pkt, tk_opn, tk_evn, tk_ent, tk_row, tk_deal, tk_pck, all_cfg, all_pkt, all_opn, all_evn, all_ent, all_row, all_deal, all_pck, List.drop_nil, Bool.and_true, Bool.and_self, and_self, Nat.le_refl, true_and, and_true, Nat.le_add_right, leS, ltS, sh_27, box_agg, Opn.av, e, a, b, d, f, g, i, decide_false, decide_true, Bool.true_and, Bool.false_and, Bool.not_false, Bool.true_or, Bool.or_true, Bool.and_true]
  · simp -implicitDefEqProofs only [bnd_some, bo_some, condK_true, condK_false, gdA_undef, decide_true, decide_false, Int.reduceLE, Int.reduceLT, Int.reduceEq, Int.reduceNeg, Int.reduceAdd, gd_tt, gd_tf, gd_ft, gd_ff, unG_pure, lift_some, bnd_lift, Option.map_some, Option.bind_some, fieldPtr_ref, fieldPtr_ip, nil_ref, nil_ip, nil_fn, ex_tup, fl_agg, List.getElem?_cons_zero, List.getElem?_cons_succ, Nat.zero_add, Nat.add_zero, Nat.reduceAdd, pk_t, pk_f, lss_int, leq_int, gtr_int, geq_int, eql_int, neq_int, not_bool, beq_self_eq_true, if_true, Bool.false_eq_true, if_false, List.nil_append, List.cons_append, List.append_nil, alc_eq, mkm_eq, nNew, nPut, bNew, bPut, nGrd, bGrd, ldN_is, ldN_lt, ldaN_is, ldaN_lt, stN_is, stN_lt, Nat.lt_add_one, ne_eq, nx1, nx2, nx3, ny1, ny2, ny3, not_false_eq_true, List.length_cons, List.length_nil, Nat.reduceLeDiff, setAt, List.take_succ_cons, List.take_zero, List.drop_succ_cons, List.drop_zero, cells_dat, cells_int, cells_bool, cells_agg, List.all_cons, List.all_nil, isCell_int, isCell_bool, isCell_dat, isCell_ref, isCell_nil, isCell_vsl, cells_vsl, av_len_cfg, av_len_pkt, av_len_opn, av_len_evn, av_len_ent, av_len_row, av_len_deal, av_len_pck, tk_cfg, tk_pkt, tk_opn, tk_evn, tk_ent, tk_row, tk_deal, tk_pck, all_cfg, all_pkt, all_opn, all_evn, all_ent, all_row, all_deal, all_pck, List.drop_nil, Bool.and_true, Bool.and_self, and_self, Nat.le_refl, true_and, and_true, Nat.le_add_right, leS, ltS, sh_27, box_agg, Opn.av, e, a, b, d, f, g, i, decide_false, decide_true, Bool.true_and, Bool.false_and, Bool.not_false, Bool.or_false, Bool.and_false]
theorem notRight_sp (H : AHeap) (c : Cfg) (h : c.ok = true) (o : Opn) {r ty : Nat} (hr : r < H.next) (hg : H.get r = .blk 0 ty c.av) : cl 26 [.agg o.av, .ref r 0 0] H = some (B (!c.right o), H) := by
  refine pure_val rfl rfl (rn_26 _ _ _ _) ?_ frz_s
  have e := fun H => right_sp H c h o
  have e1 : lda 8 (.ref r 0 0) (H.guard.new (.blk 0 38 o.av)) = some (.agg (c.av.take 8), _) := lda_blk (off := 0) (n := 8) (by rw [getNew_lt (by rw [nGrd]; exact hr), gGrd]; exact hg) (Nat.le_refl 8)
  simp -implicitDefEqProofs only [bnd_some, bo_some, condK_true, condK_false, gdA_undef, decide_true, decide_false, Int.reduceLE, Int.reduceLT, Int.reduceEq, Int.reduceNeg, Int.reduceAdd, gd_tt, gd_tf, gd_ft, gd_ff, unG_pure, lift_some, bnd_lift, Option.map_some, Option.bind_some, fieldPtr_ref, fieldPtr_ip, nil_ref, nil_ip, nil_fn, ex_tup, fl_agg, List.getElem?_cons_zero, List.getElem?_cons_succ, Nat.zero_add, Nat.add_zero, Nat.reduceAdd, pk_t, pk_f, lss_int, leq_int, gtr_int, geq_int, eql_int, neq_int, not_bool, beq_self_eq_true, if_true, Bool.false_eq_true, if_false, List.nil_append, List.cons_append, List.append_nil, alc_eq, mkm_eq, nNew, nPut, bNew, bPut, nGrd, bGrd, ldN_is, ldN_lt, ldaN_is, ldaN_lt, stN_is, stN_lt, Nat.lt_add_one, ne_eq, nx1, nx2, nx3, ny1, ny2, ny3, not_false_eq_true, List.length_cons, List.length_nil, Nat.reduceLeDiff, setAt, List.take_succ_cons, List.take_zero, List.drop_succ_cons, List.drop_zero, cells_dat, cells_int, cells_bool, cells_agg, List.all_cons, List.all_nil, isCell_int, isCell_bool, isCell_dat, isCell_ref, isCell_nil, isCell_vsl, cells_vsl, av_len_cfg, av_len_pkt, av_len_opn, av_len_evn, av_len_ent, av_len_row, av_len_deal, av_len_pck, tk_cfg, tk_pkt, tk_opn, tk_evn, tk_ent, tk_row, tk_deal, tk_pck, all_cfg, all_pkt, all_opn, all_evn, all_ent, all_row, all_deal, all_pck, List.drop_nil, Bool.and_true, Bool.and_self, and_self, Nat.le_refl, true_and, and_true, Nat.le_add_right, leS, ltS, sh_26, box_agg (all_opn o), e1, e, List.drop_zero]
theorem idxI_nonneg {o : Option Nat} : decide (0 ≤ idxI o) = o.isSome := by
  cases o with
  | none => rfl
  | some i => simp [idxI]
theorem badOps_sp (H : AHeap) (c : Cfg) (h : c.ok = true) {v : AV} {l : List Opn} (hv : SliceIs H v 3 l.length (l.flatMap Opn.av)) (hl : l.length < 1000000000) {r ty : Nat} (hr : r < H.next) (hg : H.get r = .blk 0 ty c.av) : cl 24 [v, .ref r 0 0] H = some (B (!(decide (l.length ≤ 24) && l.all c.right)), H) := by
  refine pure_val rfl rfl (rn_24 _ _ _ _) ?_ frz_s
  have e1 := hv.guard.lnS
  have e2 := indexFuncOp H.guard (enc := Opn.av) av_len_opn (f := .fn (.func 26) [] [.ref r 0 0]) hv.guard hl (fun o => !c.right o) (fun o _ => by
    rw [callA_fun (by kernel_rfl)]
    exact notRight_sp H.guard c h o hr hg)
  have e3 : cl 25 [v, .fn (.func 26) [] [.ref r 0 0]] H.guard = some (B (l.findIdx? fun o => !c.right o).isSome, H.guard) := by
    refine run_cl rfl rfl (rn_25 _ _ _ _ ?_)
    simp -implicitDefEqProofs only [bnd_some, bo_some, condK_true, condK_false, gdA_undef, decide_true, decide_false, Int.reduceLE, Int.reduceLT, Int.reduceEq, Int.reduceNeg, Int.reduceAdd, gd_tt, gd_tf, gd_ft, gd_ff, unG_pure, lift_some, bnd_lift, Option.map_some, Option.bind_some, fieldPtr_ref, fieldPtr_ip, nil_ref, nil_ip, nil_fn, ex_tup, fl_agg, List.getElem?_cons_zero, List.getElem?_cons_succ, Nat.zero_add, Nat.add_zero, Nat.reduceAdd, pk_t, pk_f, lss_int, leq_int, gtr_int, geq_int, eql_int, neq_int, not_bool, beq_self_eq_true, if_true, Bool.false_eq_true, if_false, List.nil_append, List.cons_append, List.append_nil, alc_eq, mkm_eq, nNew, nPut, bNew, bPut, nGrd, bGrd, sh_25, e2, idxI_nonneg]
  have e4 : (l.findIdx? fun o => !c.right o).isSome = !l.all c.right := by
    rw [List.findIdx?_isSome, List.not_all_eq_any_not]
  by_cases h0 : l.length ≤ 24
  · have h1 : ¬ (24 : Int) < l.length := by omega
    simp -implicitDefEqProofs only [bnd_some, bo_some, condK_true, condK_false, gdA_undef, decide_true, decide_false, Int.reduceLE, Int.reduceLT, Int.reduceEq, Int.reduceNeg, Int.reduceAdd, gd_tt, gd_tf, gd_ft, gd_ff, unG_pure, lift_some, bnd_lift, Option.map_some, Option.bind_some, fieldPtr_ref, fieldPtr_ip, nil_ref, nil_ip, nil_fn, ex_tup, fl_agg, List.getElem?_cons_zero, List.getElem?_cons_succ, Nat.zero_add, Nat.add_zero, Nat.reduceAdd, pk_t, pk_f, lss_int, leq_int, gtr_int, geq_int, eql_int, neq_int, not_bool, beq_self_eq_true, if_true, Bool.false_eq_true, if_false, List.nil_append, List.cons_append, List.append_nil, alc_eq, mkm_eq, nNew, nPut, bNew, bPut, nGrd, bGrd, ldN_is, ldN_lt, ldaN_is, ldaN_lt, stN_is, stN_lt, Nat.lt_add_one, ne_eq, nx1, nx2, nx3, ny1, ny2, ny3, not_false_eq_true, List.length_cons, List.length_nil, Nat.reduceLeDiff, setAt, List.take_succ_cons, List.take_zero, List.drop_succ_cons, List.drop_zero, cells_dat, cells_int, cells_bool, cells_agg, List.all_cons, List.all_nil, isCell_int, isCell_bool, isCell_dat, isCell_ref, isCell_nil, isCell_vsl, cells_vsl, av_len_cfg, av_len_pkt, av_len_opn, av_len_evn, av_len_ent, av_len_row, av_len_deal, av_len_pck, tk_cfg, tk_pkt, tk_opn, tk_evn, tk_ent, tk_row, tk_deal, tk_pck, all_cfg, all_pkt, all_opn, all_evn, all_ent, all_row, all_deal, all_pck, List.drop_nil, Bool.and_true, Bool.and_self, and_self, Nat.le_refl, true_and, and_true, Nat.le_add_right, leS, ltS, sh_24, e1, e3, e4, h0, h1, Bool.true_and]
  · have h1 : (24 : Int) < l.length := by omega
    simp -implicitDefEqProofs only [bnd_some, bo_some, condK_true, condK_false, gdA_undef, decide_true, decide_false, Int.reduceLE, Int.reduceLT, Int.reduceEq, Int.reduceNeg, Int.reduceAdd, gd_tt, gd_tf, gd_ft, gd_ff, unG_pure, lift_some, bnd_lift, Option.map_some, Option.bind_some, fieldPtr_ref, fieldPtr_ip, nil_ref, nil_ip, nil_fn, ex_tup, fl_agg, List.getElem?_cons_zero, List.getElem?_cons_succ, Nat.zero_add, Nat.add_zero, Nat.reduceAdd, pk_t, pk_f, lss_int, leq_int, gtr_int, geq_int, eql_int, neq_int, not_bool, beq_self_eq_true, if_true, Bool.false_eq_true, if_false, List.nil_append, List.cons_append, List.append_nil, alc_eq, mkm_eq, nNew, nPut, bNew, bPut, nGrd, bGrd, ldN_is, ldN_lt, ldaN_is, ldaN_lt, stN_is, stN_lt, Nat.lt_add_one, ne_eq, nx1, nx2, nx3, ny1, ny2, ny3, not_false_eq_true, List.length_cons, List.length_nil, Nat.reduceLeDiff, setAt, List.take_succ_cons, List.take_zero, List.drop_succ_cons, List.drop_zero, cells_dat, cells_int, cells_bool, cells_agg, List.all_cons, List.all_nil, isCell_int, isCell_bool, isCell_dat, isCell_ref, isCell_nil, isCell_vsl, cells_vsl, av_len_cfg, av_len_pkt, av_len_opn, av_len_evn, av_len_ent, av_len_row, av_len_deal, av_len_pck, tk_cfg, tk_pkt, tk_opn, tk_evn, tk_ent, tk_row, tk_deal, tk_pck, all_cfg, all_pkt, all_opn, all_evn, all_ent, all_row, all_deal, all_pck, List.drop_nil, Bool.and_true, Bool.and_self, and_self, Nat.le_refl, true_and, and_true, Nat.le_add_right, leS, ltS, sh_24, e1, h0, h1, Bool.false_and, Bool.not_false]
/-- Programs, in whatever form. -/
def PsIs (H : AHeap) (x : AV) (ps : List (List Opn)) : Prop :=
  ∃ cells : List AV, SliceIs H x 1 ps.length cells ∧ ∀ (i : Nat) v l, cells[i]? = some v → ps[i]? = some l → SliceIs H v 3 l.length (l.flatMap Opn.av) ∧ (l = [] → v = zN)
theorem PsIs.of_get {H H' : AHeap} {x : AV} {ps : List (List Opn)} (h : PsIs H x ps) (hn : H.next ≤ H'.next) (hg : ∀ r, r < H.next → H'.get r = H.get r) : PsIs H' x ps := by
  obtain ⟨cells, h1, h2⟩ := h
  exact ⟨cells, h1.of_get hn fun r _ hr => hg r hr, fun i v l a b => ⟨(h2 i v l a b).1.of_get hn fun r _ hr => hg r hr, (h2 i v l a b).2⟩⟩
theorem range_findIdx {n : Nat} {p : Nat → Bool} : ∀ i, i ≤ n → (∀ j, j < i → p j = false) → (List.range n).findIdx? p = ((List.range' i (n - i)).findIdx? p).map (· + i) := by
  intro i hi hf
  rw [findIdx_at (List.range n) i fun j a hj ha => by
    have : a = j := by
      rw [List.getElem?_range (by omega)] at ha
      simpa using ha.symm
    rw [this]; exact hf j hj]
  congr 2
  rw [List.range_eq_range', List.drop_range']
  simp
theorem indexFuncPs (H : AHeap) {x f : AV} {n : Nat} {cells : List AV} (hx : SliceIs H x 1 n cells) (hl : n < 1000000000) (p : Nat → Bool)
    (hp : ∀ i v, cells[i]? = some v → callA Tryz.prog cl f [v] H = some (B (p i), H)) : cl 39 [x, f] H = some (I (idxI ((List.range n).findIdx? p)), H) := by
  have e1 := hx.lnS
  have hcl : cells.length = n := by have := hx.1; omega
  refine run_cl rfl rfl (rn_39 _ _ _ _ ?_)
  have key : ∀ k i, i + k = n → (∀ j, j < i → p j = false) → lp_39x0 cl [x, f, I n, I i] H = some (I (idxI ((List.range n).findIdx? p)), H) := by
    intro k
    induction k with
    | zero =>
      intro i hi hf
      have h1 : ¬ (i : Int) < n := by omega
      have h2 : (List.range n).findIdx? p = none := by rw [range_findIdx i (by omega) hf, show n - i = 0 by omega]; rfl
      rw [le_39x0]
      simp -implicitDefEqProofs only [bnd_some, bo_some, condK_true, condK_false, gdA_undef, decide_true, decide_false, Int.reduceLE, Int.reduceLT, Int.reduceEq, Int.reduceNeg, Int.reduceAdd, gd_tt, gd_tf, gd_ft, gd_ff, unG_pure, lift_some, bnd_lift, Option.map_some, Option.bind_some, fieldPtr_ref, fieldPtr_ip, nil_ref, nil_ip, nil_fn, ex_tup, fl_agg, List.getElem?_cons_zero, List.getElem?_cons_succ, Nat.zero_add, Nat.add_zero, Nat.reduceAdd, pk_t, pk_f, lss_int, leq_int, gtr_int, geq_int, eql_int, neq_int, not_bool, beq_self_eq_true, if_true, Bool.false_eq_true, if_false, List.nil_append, List.cons_append, List.append_nil, alc_eq, mkm_eq, nNew, nPut, bNew, bPut, nGrd, bGrd, h1, h2, idxI]
    | succ k ih =>
      intro i hi hf
      have h1 : (i : Int) < n := by omega
      have h3 := hx.ix (k := .i64) (i := (i : Int)) (by omega) h1
      obtain ⟨v, hv⟩ : ∃ v, cells[i]? = some v := ⟨_, List.getElem?_eq_getElem (by omega)⟩
      have h4 := hx.ld (i := i) (by omega)
      rw [hv] at h4
      have h5 := hp i v hv
      rw [Int.toNat_natCast] at h3
      rw [le_39x0]
      cases hpa : p i with
      | true =>
        have h2 : (List.range n).findIdx? p = some i := by
          rw [range_findIdx i (by omega) hf, show n - i = k + 1 by omega, List.range'_succ, List.findIdx?_cons, hpa]; simp
        rw [hpa] at h5
        simp -implicitDefEqProofs only [bnd_some, bo_some, condK_true, condK_false, gdA_undef, decide_true, decide_false, Int.reduceLE, Int.reduceLT, Int.reduceEq, Int.reduceNeg, Int.reduceAdd, gd_tt, gd_tf, gd_ft, gd_ff, unG_pure, lift_some, bnd_lift, Option.map_some, Option.bind_some, fieldPtr_ref, fieldPtr_ip, nil_ref, nil_ip, nil_fn, ex_tup, fl_agg, List.getElem?_cons_zero, List.getElem?_cons_succ, Nat.zero_add, Nat.add_zero, Nat.reduceAdd, pk_t, pk_f, lss_int, leq_int, gtr_int, geq_int, eql_int, neq_int, not_bool, beq_self_eq_true, if_true, Bool.false_eq_true, if_false, List.nil_append, List.cons_append, List.append_nil, alc_eq, mkm_eq, nNew, nPut, bNew, bPut, nGrd, bGrd, h1, h2, h3, h4, h5, idxI]
      | false =>
        rw [hpa] at h5
        have h6 : (i : Int) + 1 = ((i + 1 : Nat) : Int) := by omega
        have h7 := wrap_i64 (a := ((i + 1 : Nat) : Int)) (by omega) (by omega)
        have := ih (i + 1) (by omega) fun j hj => by
          by_cases hji : j = i
          · rw [hji]; exact hpa
          · exact hf j (by omega)
        simp -implicitDefEqProofs only [bnd_some, bo_some, condK_true, condK_false, gdA_undef, decide_true, decide_false, Int.reduceLE, Int.reduceLT, Int.reduceEq, Int.reduceNeg, Int.reduceAdd, gd_tt, gd_tf, gd_ft, gd_ff, unG_pure, lift_some, bnd_lift, Option.map_some, Option.bind_some, fieldPtr_ref, fieldPtr_ip, nil_ref, nil_ip, nil_fn, ex_tup, fl_agg, List.getElem?_cons_zero, List.getElem?_cons_succ, Nat.zero_add, Nat.add_zero, Nat.reduceAdd, pk_t, pk_f, lss_int, leq_int, gtr_int, geq_int, eql_int, neq_int, not_bool, beq_self_eq_true, if_true, Bool.false_eq_true, if_false, List.nil_append, List.cons_append, List.append_nil, alc_eq, mkm_eq, nNew, nPut, bNew, bPut, nGrd, bGrd, h1, h3, h4, h5, add_int, h6, h7, this]
  have := key n 0 (by omega) (fun j hj => by omega)
  simp -implicitDefEqProofs only [bnd_some, bo_some, condK_true, condK_false, gdA_undef, decide_true, decide_false, Int.reduceLE, Int.reduceLT, Int.reduceEq, Int.reduceNeg, Int.reduceAdd, gd_tt, gd_tf, gd_ft, gd_ff, unG_pure, lift_some, bnd_lift, Option.map_some, Option.bind_some, fieldPtr_ref, fieldPtr_ip, nil_ref, nil_ip, nil_fn, ex_tup, fl_agg, List.getElem?_cons_zero, List.getElem?_cons_succ, Nat.zero_add, Nat.add_zero, Nat.reduceAdd, pk_t, pk_f, lss_int, leq_int, gtr_int, geq_int, eql_int, neq_int, not_bool, beq_self_eq_true, if_true, Bool.false_eq_true, if_false, List.nil_append, List.cons_append, List.append_nil, alc_eq, mkm_eq, nNew, nPut, bNew, bPut, nGrd, bGrd, sh_39, e1]
  exact this
theorem ops_sp (H : AHeap) (c : Cfg) (h : c.ok = true) {x : AV} {ps : List (List Opn)} (hx : PsIs H x ps) (hn : ps.length < 1000000000) (hl : ∀ l ∈ ps, l.length < 1000000000) : cl 15 [.agg c.av, x] H = some (I (if c.opsOk ps then 0 else 1), H) := by
  refine pure_val rfl rfl (rn_15 _ _ _ _) ?_ frz_s
  have hx1 := hx.of_get (H' := H.guard.new (.blk 0 26 c.av)) (by rw [nNew, nGrd]; omega) fun r hr => by rw [getNew_lt (by rw [nGrd]; exact hr), gGrd]
  obtain ⟨cells, x1, x2⟩ := hx1
  have hcl : cells.length = ps.length := by have := x1.1; omega
  let bad : List Opn → Bool := fun l => !(decide (l.length ≤ 24) && l.all c.right)
  have e2 := indexFuncPs (H.guard.new (.blk 0 26 c.av)) (f := .fn (.func 24) [] [.ref H.next 0 0]) x1 hn (fun i => bad (ps.getD i [])) (fun i v hv => by
    have hi : i < ps.length := by rw [← hcl]; exact (List.getElem?_eq_some_iff.1 hv).1
    have hpi : ps[i]? = some (ps.getD i []) := by simp [List.getD, List.getElem?_eq_getElem hi]
    rw [callA_fun (by kernel_rfl)]
    exact badOps_sp _ c h (x2 i v _ hv hpi).1 (hl _ (List.mem_of_getElem? hpi)) (by rw [nNew, nGrd]; omega) (getNew_is (by rw [nGrd])))
  have e4 : ((List.range ps.length).findIdx? fun i => bad (ps.getD i [])).isSome = !(ps.all fun l => decide (l.length ≤ 24) && l.all c.right) := by
    rw [List.findIdx?_isSome, List.not_all_eq_any_not, Bool.eq_iff_iff, List.any_eq_true, List.any_eq_true]
    constructor
    · rintro ⟨i, hi, hb⟩
      have hi : i < ps.length := List.mem_range.1 hi
      exact ⟨ps.getD i [], List.mem_of_getElem? (i := i) (by simp [List.getD, List.getElem?_eq_getElem hi]), hb⟩
    · rintro ⟨l, hm, hb⟩
      obtain ⟨i, hi, he⟩ := List.getElem_of_mem hm
      have hg : ps.getD i [] = l := by simp [List.getD, List.getElem?_eq_getElem hi, he]
      exact ⟨i, List.mem_range.2 hi, by rw [hg]; exact hb⟩
  have e3 : cl 23 [x, .fn (.func 24) [] [.ref H.next 0 0]] (H.guard.new (.blk 0 26 c.av)) = some (B (!(ps.all fun l => decide (l.length ≤ 24) && l.all c.right)), H.guard.new (.blk 0 26 c.av)) := by
    refine run_cl rfl rfl (rn_23 _ _ _ _ ?_)
    simp -implicitDefEqProofs only [bnd_some, bo_some, condK_true, condK_false, gdA_undef, decide_true, decide_false, Int.reduceLE, Int.reduceLT, Int.reduceEq, Int.reduceNeg, Int.reduceAdd, gd_tt, gd_tf, gd_ft, gd_ff, unG_pure, lift_some, bnd_lift, Option.map_some, Option.bind_some, fieldPtr_ref, fieldPtr_ip, nil_ref, nil_ip, nil_fn, ex_tup, fl_agg, List.getElem?_cons_zero, List.getElem?_cons_succ, Nat.zero_add, Nat.add_zero, Nat.reduceAdd, pk_t, pk_f, lss_int, leq_int, gtr_int, geq_int, eql_int, neq_int, not_bool, beq_self_eq_true, if_true, Bool.false_eq_true, if_false, List.nil_append, List.cons_append, List.append_nil, alc_eq, mkm_eq, nNew, nPut, bNew, bPut, nGrd, bGrd, sh_23, e2, idxI_nonneg, e4]
  have l0 : c.av[0]? = some (I c.nodes) := rfl
  have e5 := x1.lnS
  cases hb : ps.all fun l => decide (l.length ≤ 24) && l.all c.right with
  | false => simp -implicitDefEqProofs only [bnd_some, bo_some, condK_true, condK_false, gdA_undef, decide_true, decide_false, Int.reduceLE, Int.reduceLT, Int.reduceEq, Int.reduceNeg, Int.reduceAdd, gd_tt, gd_tf, gd_ft, gd_ff, unG_pure, lift_some, bnd_lift, Option.map_some, Option.bind_some, fieldPtr_ref, fieldPtr_ip, nil_ref, nil_ip, nil_fn, ex_tup, fl_agg, List.getElem?_cons_zero, List.getElem?_cons_succ, Nat.zero_add, Nat.add_zero, Nat.reduceAdd, pk_t, pk_f, lss_int, leq_int, gtr_int, geq_int, eql_int, neq_int, not_bool, beq_self_eq_true, if_true, Bool.false_eq_true, if_false, List.nil_append, List.cons_append, List.append_nil, alc_eq, mkm_eq, nNew, nPut, bNew, bPut, nGrd, bGrd, ldN_is, ldN_lt, ldaN_is, ldaN_lt, stN_is, stN_lt, Nat.lt_add_one, ne_eq, nx1, nx2, nx3, ny1, ny2, ny3, not_false_eq_true, List.length_cons, List.length_nil, Nat.reduceLeDiff, setAt, List.take_succ_cons, List.take_zero, List.drop_succ_cons, List.drop_zero, cells_dat, cells_int, cells_bool, cells_agg, List.all_cons, List.all_nil, isCell_int, isCell_bool, isCell_dat, isCell_ref, isCell_nil, isCell_vsl, cells_vsl, av_len_cfg, av_len_pkt, av_len_opn, av_len_evn, av_len_ent, av_len_row, av_len_deal, av_len_pck, tk_cfg, tk_pkt, tk_opn, tk_evn, tk_ent, tk_row, tk_deal, tk_pck, all_cfg, all_pkt, all_opn, all_evn, all_ent, all_row, all_deal, all_pck, List.drop_nil, Bool.and_true, Bool.and_self, and_self, Nat.le_refl, true_and, and_true, Nat.le_add_right, leS, ltS, sh_15, box_agg (all_cfg c), e3, hb, Bool.not_false, Cfg.opsOk, Bool.false_and]
  | true =>
    by_cases hc : (ps.length : Int) = c.nodes
    · simp -implicitDefEqProofs only [bnd_some, bo_some, condK_true, condK_false, gdA_undef, decide_true, decide_false, Int.reduceLE, Int.reduceLT, Int.reduceEq, Int.reduceNeg, Int.reduceAdd, gd_tt, gd_tf, gd_ft, gd_ff, unG_pure, lift_some, bnd_lift, Option.map_some, Option.bind_some, fieldPtr_ref, fieldPtr_ip, nil_ref, nil_ip, nil_fn, ex_tup, fl_agg, List.getElem?_cons_zero, List.getElem?_cons_succ, Nat.zero_add, Nat.add_zero, Nat.reduceAdd, pk_t, pk_f, lss_int, leq_int, gtr_int, geq_int, eql_int, neq_int, not_bool, beq_self_eq_true, if_true, Bool.false_eq_true, if_false, List.nil_append, List.cons_append, List.append_nil, alc_eq, mkm_eq, nNew, nPut, bNew, bPut, nGrd, bGrd, ldN_is, ldN_lt, ldaN_is, ldaN_lt, stN_is, stN_lt, Nat.lt_add_one, ne_eq, nx1, nx2, nx3, ny1, ny2, ny3, not_false_eq_true, List.length_cons, List.length_nil, Nat.reduceLeDiff, setAt, List.take_succ_cons, List.take_zero, List.drop_succ_cons, List.drop_zero, cells_dat, cells_int, cells_bool, cells_agg, List.all_cons, List.all_nil, isCell_int, isCell_bool, isCell_dat, isCell_ref, isCell_nil, isCell_vsl, cells_vsl, av_len_cfg, av_len_pkt, av_len_opn, av_len_evn, av_len_ent, av_len_row, av_len_deal, av_len_pck, tk_cfg, tk_pkt, tk_opn, tk_evn, tk_ent, tk_row, tk_deal, tk_pck, all_cfg, all_pkt, all_opn, all_evn, all_ent, all_row, all_deal, all_pck, List.drop_nil, Bool.and_true, Bool.and_self, and_self, Nat.le_refl, true_and, and_true, Nat.le_add_right, leS, ltS, sh_15, box_agg (all_cfg c), e3, e5, hb, l0, Bool.not_true, Cfg.opsOk, Bool.true_and, hc]
    · simp -implicitDefEqProofs only [bnd_some, bo_some, condK_true, condK_false, gdA_undef, decide_true, decide_false, Int.reduceLE, Int.reduceLT, Int.reduceEq, Int.reduceNeg, Int.reduceAdd, gd_tt, gd_tf, gd_ft, gd_ff, unG_pure, lift_some, bnd_lift, Option.map_some, Option.bind_some, fieldPtr_ref, fieldPtr_ip, nil_ref, nil_ip, nil_fn, ex_tup, fl_agg, List.getElem?_cons_zero, List.getElem?_cons_succ, Nat.zero_add, Nat.add_zero, Nat.reduceAdd, pk_t, pk_f, lss_int, leq_int, gtr_int, geq_int, eql_int, neq_int, not_bool, beq_self_eq_true, if_true, Bool.false_eq_true, if_false, List.nil_append, List.cons_append, List.append_nil, alc_eq, mkm_eq, nNew, nPut, bNew, bPut, nGrd, bGrd, ldN_is, ldN_lt, ldaN_is, ldaN_lt, stN_is, stN_lt, Nat.lt_add_one, ne_eq, nx1, nx2, nx3, ny1, ny2, ny3, not_false_eq_true, List.length_cons, List.length_nil, Nat.reduceLeDiff, setAt, List.take_succ_cons, List.take_zero, List.drop_succ_cons, List.drop_zero, cells_dat, cells_int, cells_bool, cells_agg, List.all_cons, List.all_nil, isCell_int, isCell_bool, isCell_dat, isCell_ref, isCell_nil, isCell_vsl, cells_vsl, av_len_cfg, av_len_pkt, av_len_opn, av_len_evn, av_len_ent, av_len_row, av_len_deal, av_len_pck, tk_cfg, tk_pkt, tk_opn, tk_evn, tk_ent, tk_row, tk_deal, tk_pck, all_cfg, all_pkt, all_opn, all_evn, all_ent, all_row, all_deal, all_pck, List.drop_nil, Bool.and_true, Bool.and_self, and_self, Nat.le_refl, true_and, and_true, Nat.le_add_right, leS, ltS, sh_15, box_agg (all_cfg c), e3, e5, hb, l0, Bool.not_true, Bool.not_false, Cfg.opsOk, Bool.true_and, hc]

end Go.Proofs.YtmhbgbiaajbhnaaGreat

