/-
  Own work: an interpreter over named blocks, its soundness, and what the functions of this seat compute (part 3 of 8).
  Conditions: those of the statement alone.
-/
import Derived.Test.YtlcdejlbmnjlaaaGreatProg
import Derived.KernelRfl
import Derived.ProofKit
import Derived.Test.YtlcdejlbmnjlaaaGreatXb
set_option linter.all false
set_option linter.unusedSectionVars false
set_option linter.unusedVariables false
set_option linter.unusedSimpArgs false
set_option maxRecDepth 100000
namespace Go.Proofs.YtlcdejlbmnjlaaaGreat

noncomputable abbrev bi (op : BinOp) (t : TypeId) (x y : AV) : Option AV := binA Tryz.prog op t x y
noncomputable abbrev un (op : UnOp) (x : AV) : Option AV := unA Tryz.prog op x
noncomputable abbrev cv (s d : TypeId) (x : AV) : AM AV := convertA Tryz.prog s d x
noncomputable abbrev bd (t : TypeId) (ps : List (Nat × AV)) : Option AV := buildA Tryz.prog t ps
noncomputable abbrev bs (t : TypeId) (n : Nat) (ps : List (Nat × AV)) : AM AV := buildSliceA Tryz.prog t n ps
theorem bs_22 {n : Nat} {ps : List (Nat × AV)} {H : AHeap} (h : n * 1 ≤ 16777216) : buildSliceA Tryz.prog 22 n ps H = bsl 3 1 [zI] n ps H := bsl_of (by kernel_rfl) (by kernel_rfl) (by kernel_rfl) rfl h
theorem bs_28 {n : Nat} {ps : List (Nat × AV)} {H : AHeap} (h : n * 1 ≤ 16777216) : buildSliceA Tryz.prog 28 n ps H = bsl 31 1 [zN] n ps H := bsl_of (by kernel_rfl) (by kernel_rfl) (by kernel_rfl) rfl h
theorem bs_31 {n : Nat} {ps : List (Nat × AV)} {H : AHeap} (h : n * 3 ≤ 16777216) : buildSliceA Tryz.prog 31 n ps H = bsl 48 3 [zI, zI, zI] n ps H := bsl_of (by kernel_rfl) (by kernel_rfl) (by kernel_rfl) rfl h
theorem bs_56 {n : Nat} {ps : List (Nat × AV)} {H : AHeap} (h : n * 1 ≤ 16777216) : buildSliceA Tryz.prog 56 n ps H = bsl 42 1 [zP] n ps H := bsl_of (by kernel_rfl) (by kernel_rfl) (by kernel_rfl) rfl h
theorem bs_64 {n : Nat} {ps : List (Nat × AV)} {H : AHeap} (h : n * 1 ≤ 16777216) : buildSliceA Tryz.prog 64 n ps H = bsl 68 1 [zP] n ps H := bsl_of (by kernel_rfl) (by kernel_rfl) (by kernel_rfl) rfl h
theorem bs_65 {n : Nat} {ps : List (Nat × AV)} {H : AHeap} (h : n * 4 ≤ 16777216) : buildSliceA Tryz.prog 65 n ps H = bsl 73 4 [zI, zI, zB, zI] n ps H := bsl_of (by kernel_rfl) (by kernel_rfl) (by kernel_rfl) rfl h
theorem bs_91 {n : Nat} {ps : List (Nat × AV)} {H : AHeap} (h : n * 4 ≤ 16777216) : buildSliceA Tryz.prog 91 n ps H = bsl 101 4 [zP, zP, zP, zP] n ps H := bsl_of (by kernel_rfl) (by kernel_rfl) (by kernel_rfl) rfl h
theorem bs_132 {n : Nat} {ps : List (Nat × AV)} {H : AHeap} (h : n * 2 ≤ 16777216) : buildSliceA Tryz.prog 132 n ps H = bsl 99 2 [zP, zP] n ps H := bsl_of (by kernel_rfl) (by kernel_rfl) (by kernel_rfl) rfl h
theorem bs_158 {n : Nat} {ps : List (Nat × AV)} {H : AHeap} (h : n * 3 ≤ 16777216) : buildSliceA Tryz.prog 158 n ps H = bsl 157 3 [zI, zI, zN] n ps H := bsl_of (by kernel_rfl) (by kernel_rfl) (by kernel_rfl) rfl h
def pl_26 : Nat → Option (Nat × Nat)
  | 0 => some (0, 1)
  | 1 => some (1, 1)
  | 2 => some (2, 1)
  | 3 => some (3, 1)
  | 4 => some (4, 1)
  | 5 => some (5, 1)
  | 6 => some (6, 1)
  | 7 => some (7, 1)
  | _ => none
theorem bd_26 {ps : List (Nat × AV)} : buildA Tryz.prog 26 ps = bldA pl_26 [zI, zI, zI, zI, zI, zI, zI, zN] ps := bld_of (by kernel_rfl) Tryz.underlying26 (by kernel_rfl) (by funext i; rcases i with _ | _ | _ | _ | _ | _ | _ | _ | i <;> kernel_rfl)
def pl_48 : Nat → Option (Nat × Nat)
  | 0 => some (0, 1)
  | 1 => some (1, 1)
  | 2 => some (2, 1)
  | _ => none
theorem bd_48 {ps : List (Nat × AV)} : buildA Tryz.prog 48 ps = bldA pl_48 [zI, zI, zI] ps := bld_of (by kernel_rfl) Tryz.underlying48 (by kernel_rfl) (by funext i; rcases i with _ | _ | _ | i <;> kernel_rfl)
def pl_58 : Nat → Option (Nat × Nat)
  | 0 => some (0, 1)
  | 1 => some (1, 1)
  | 2 => some (2, 8)
  | 3 => some (10, 1)
  | _ => none
theorem bd_58 {ps : List (Nat × AV)} : buildA Tryz.prog 58 ps = bldA pl_58 [zP, zP, zI, zI, zI, zI, zI, zI, zI, zN, zN] ps := bld_of (by kernel_rfl) Tryz.underlying58 (by kernel_rfl) (by funext i; rcases i with _ | _ | _ | _ | i <;> kernel_rfl)
def pl_67 : Nat → Option (Nat × Nat)
  | 0 => some (0, 8)
  | 1 => some (8, 1)
  | 2 => some (9, 1)
  | 3 => some (10, 1)
  | _ => none
theorem bd_67 {ps : List (Nat × AV)} : buildA Tryz.prog 67 ps = bldA pl_67 [zI, zI, zI, zI, zI, zI, zI, zN, zP, zN, zN] ps := bld_of (by kernel_rfl) Tryz.underlying67 (by kernel_rfl) (by funext i; rcases i with _ | _ | _ | _ | i <;> kernel_rfl)
def pl_78 : Nat → Option (Nat × Nat)
  | 0 => some (0, 1)
  | 1 => some (1, 1)
  | 2 => some (2, 1)
  | 3 => some (3, 1)
  | 4 => some (4, 1)
  | 5 => some (5, 1)
  | 6 => some (6, 1)
  | 7 => some (7, 1)
  | 8 => some (8, 1)
  | _ => none
theorem bd_78 {ps : List (Nat × AV)} : buildA Tryz.prog 78 ps = bldA pl_78 [zI, zI, zI, zI, zI, zI, zI, zB, zN] ps := bld_of (by kernel_rfl) Tryz.underlying78 (by kernel_rfl) (by funext i; rcases i with _ | _ | _ | _ | _ | _ | _ | _ | _ | i <;> kernel_rfl)
def pl_93 : Nat → Option (Nat × Nat)
  | 0 => some (0, 1)
  | _ => none
theorem bd_93 {ps : List (Nat × AV)} : buildA Tryz.prog 93 ps = bldA pl_93 [zN] ps := bld_of (by kernel_rfl) Tryz.underlying93 (by kernel_rfl) (by funext i; rcases i with _ | i <;> kernel_rfl)
def pl_99 : Nat → Option (Nat × Nat)
  | 0 => some (0, 1)
  | 1 => some (1, 1)
  | _ => none
theorem bd_99 {ps : List (Nat × AV)} : buildA Tryz.prog 99 ps = bldA pl_99 [zP, zP] ps := bld_of (by kernel_rfl) Tryz.underlying99 (by kernel_rfl) (by funext i; rcases i with _ | _ | i <;> kernel_rfl)
def pl_101 : Nat → Option (Nat × Nat)
  | 0 => some (0, 2)
  | 1 => some (2, 2)
  | _ => none
theorem bd_101 {ps : List (Nat × AV)} : buildA Tryz.prog 101 ps = bldA pl_101 [zP, zP, zP, zP] ps := bld_of (by kernel_rfl) Tryz.underlying101 (by kernel_rfl) (by funext i; rcases i with _ | _ | i <;> kernel_rfl)
def pl_103 : Nat → Option (Nat × Nat)
  | 0 => some (0, 1)
  | _ => none
theorem bd_103 {ps : List (Nat × AV)} : buildA Tryz.prog 103 ps = bldA pl_103 [zN] ps := bld_of (by kernel_rfl) Tryz.underlying103 (by kernel_rfl) (by funext i; rcases i with _ | i <;> kernel_rfl)
def pl_111 : Nat → Option (Nat × Nat)
  | 0 => some (0, 1)
  | _ => none
theorem bd_111 {ps : List (Nat × AV)} : buildA Tryz.prog 111 ps = bldA pl_111 [zP] ps := bld_of (by kernel_rfl) Tryz.underlying111 (by kernel_rfl) (by funext i; rcases i with _ | i <;> kernel_rfl)
def pl_113 : Nat → Option (Nat × Nat)
  | 0 => some (0, 1)
  | 1 => some (1, 1)
  | 2 => some (2, 1)
  | 3 => some (3, 1)
  | 4 => some (4, 1)
  | 5 => some (5, 1)
  | 6 => some (6, 1)
  | 7 => some (7, 1)
  | 8 => some (8, 1)
  | _ => none
theorem bd_113 {ps : List (Nat × AV)} : buildA Tryz.prog 113 ps = bldA pl_113 [zI, zI, zI, zI, zI, zI, zN, zI, zI] ps := bld_of (by kernel_rfl) Tryz.underlying113 (by kernel_rfl) (by funext i; rcases i with _ | _ | _ | _ | _ | _ | _ | _ | _ | i <;> kernel_rfl)
def pl_115 : Nat → Option (Nat × Nat)
  | 0 => some (0, 1)
  | 1 => some (1, 1)
  | 2 => some (2, 8)
  | 3 => some (10, 1)
  | 4 => some (11, 1)
  | 5 => some (12, 9)
  | 6 => some (21, 1)
  | _ => none
theorem bd_115 {ps : List (Nat × AV)} : buildA Tryz.prog 115 ps = bldA pl_115 [zP, zP, zI, zI, zI, zI, zI, zI, zI, zN, zI, zP, zI, zI, zI, zI, zI, zI, zN, zI, zI, zI] ps := bld_of (by kernel_rfl) Tryz.underlying115 (by kernel_rfl) (by funext i; rcases i with _ | _ | _ | _ | _ | _ | _ | i <;> kernel_rfl)
def pl_118 : Nat → Option (Nat × Nat)
  | 0 => some (0, 8)
  | 1 => some (8, 1)
  | _ => none
theorem bd_118 {ps : List (Nat × AV)} : buildA Tryz.prog 118 ps = bldA pl_118 [zI, zI, zI, zI, zI, zI, zI, zN, zN] ps := bld_of (by kernel_rfl) Tryz.underlying118 (by kernel_rfl) (by funext i; rcases i with _ | _ | i <;> kernel_rfl)
def pl_125 : Nat → Option (Nat × Nat)
  | 0 => some (0, 8)
  | 1 => some (8, 1)
  | 2 => some (9, 1)
  | 3 => some (10, 1)
  | 4 => some (11, 1)
  | 5 => some (12, 1)
  | 6 => some (13, 1)
  | 7 => some (14, 1)
  | 8 => some (15, 9)
  | 9 => some (24, 1)
  | _ => none
theorem bd_125 {ps : List (Nat × AV)} : buildA Tryz.prog 125 ps = bldA pl_125 [zI, zI, zI, zI, zI, zI, zI, zN, zI, zP, zP, zN, zB, zN, zB, zI, zI, zI, zI, zI, zI, zN, zI, zI, zI] ps := bld_of (by kernel_rfl) Tryz.underlying125 (by kernel_rfl) (by funext i; rcases i with _ | _ | _ | _ | _ | _ | _ | _ | _ | _ | i <;> kernel_rfl)
def pl_142 : Nat → Option (Nat × Nat)
  | 0 => some (0, 1)
  | 1 => some (1, 1)
  | 2 => some (2, 1)
  | 3 => some (3, 1)
  | _ => none
theorem bd_142 {ps : List (Nat × AV)} : buildA Tryz.prog 142 ps = bldA pl_142 [zI, zI, zI, zN] ps := bld_of (by kernel_rfl) Tryz.underlying142 (by kernel_rfl) (by funext i; rcases i with _ | _ | _ | _ | i <;> kernel_rfl)
def pl_148 : Nat → Option (Nat × Nat)
  | 0 => some (0, 2)
  | 1 => some (2, 1)
  | 2 => some (3, 1)
  | 3 => some (4, 1)
  | 4 => some (5, 1)
  | _ => none
theorem bd_148 {ps : List (Nat × AV)} : buildA Tryz.prog 148 ps = bldA pl_148 [zI, zI, zI, zI, zB, zN] ps := bld_of (by kernel_rfl) Tryz.underlying148 (by kernel_rfl) (by funext i; rcases i with _ | _ | _ | _ | _ | i <;> kernel_rfl)
def pl_153 : Nat → Option (Nat × Nat)
  | 0 => some (0, 1)
  | 1 => some (1, 1)
  | 2 => some (2, 1)
  | _ => none
theorem bd_153 {ps : List (Nat × AV)} : buildA Tryz.prog 153 ps = bldA pl_153 [zI, zI, zN] ps := bld_of (by kernel_rfl) Tryz.underlying153 (by kernel_rfl) (by funext i; rcases i with _ | _ | _ | i <;> kernel_rfl)
def pl_157 : Nat → Option (Nat × Nat)
  | 0 => some (0, 1)
  | 1 => some (1, 1)
  | 2 => some (2, 1)
  | _ => none
theorem bd_157 {ps : List (Nat × AV)} : buildA Tryz.prog 157 ps = bldA pl_157 [zI, zI, zN] ps := bld_of (by kernel_rfl) Tryz.underlying157 (by kernel_rfl) (by funext i; rcases i with _ | _ | _ | i <;> kernel_rfl)
def pl_164 : Nat → Option (Nat × Nat)
  | 0 => some (0, 8)
  | 1 => some (8, 1)
  | 2 => some (9, 1)
  | 3 => some (10, 2)
  | _ => none
theorem bd_164 {ps : List (Nat × AV)} : buildA Tryz.prog 164 ps = bldA pl_164 [zI, zI, zI, zI, zI, zI, zI, zN, zI, zN, zN, zN] ps := bld_of (by kernel_rfl) Tryz.underlying164 (by kernel_rfl) (by funext i; rcases i with _ | _ | _ | _ | i <;> kernel_rfl)
def pl_170 : Nat → Option (Nat × Nat)
  | 0 => some (0, 1)
  | 1 => some (1, 1)
  | _ => none
theorem bd_170 {ps : List (Nat × AV)} : buildA Tryz.prog 170 ps = bldA pl_170 [zN, zI] ps := bld_of (by kernel_rfl) Tryz.underlying170 (by kernel_rfl) (by funext i; rcases i with _ | _ | i <;> kernel_rfl)
def pl_172 : Nat → Option (Nat × Nat)
  | 0 => some (0, 1)
  | 1 => some (1, 1)
  | _ => none
theorem bd_172 {ps : List (Nat × AV)} : buildA Tryz.prog 172 ps = bldA pl_172 [zN, zI] ps := bld_of (by kernel_rfl) Tryz.underlying172 (by kernel_rfl) (by funext i; rcases i with _ | _ | i <;> kernel_rfl)
def pl_175 : Nat → Option (Nat × Nat)
  | 0 => some (0, 1)
  | 1 => some (1, 1)
  | 2 => some (2, 1)
  | 3 => some (3, 1)
  | _ => none
theorem bd_175 {ps : List (Nat × AV)} : buildA Tryz.prog 175 ps = bldA pl_175 [zN, zI, zI, zI] ps := bld_of (by kernel_rfl) Tryz.underlying175 (by kernel_rfl) (by funext i; rcases i with _ | _ | _ | _ | i <;> kernel_rfl)
def pl_178 : Nat → Option (Nat × Nat)
  | 0 => some (0, 1)
  | 1 => some (1, 1)
  | 2 => some (2, 1)
  | _ => none
theorem bd_178 {ps : List (Nat × AV)} : buildA Tryz.prog 178 ps = bldA pl_178 [zN, zN, zB] ps := bld_of (by kernel_rfl) Tryz.underlying178 (by kernel_rfl) (by funext i; rcases i with _ | _ | _ | i <;> kernel_rfl)
def pl_184 : Nat → Option (Nat × Nat)
  | 0 => some (0, 1)
  | 1 => some (1, 1)
  | 2 => some (2, 8)
  | 3 => some (10, 1)
  | _ => none
theorem bd_184 {ps : List (Nat × AV)} : buildA Tryz.prog 184 ps = bldA pl_184 [zP, zP, zI, zI, zI, zI, zI, zI, zI, zN, zI] ps := bld_of (by kernel_rfl) Tryz.underlying184 (by kernel_rfl) (by funext i; rcases i with _ | _ | _ | _ | i <;> kernel_rfl)
def pl_196 : Nat → Option (Nat × Nat)
  | 0 => some (0, 8)
  | 1 => some (8, 1)
  | _ => none
theorem bd_196 {ps : List (Nat × AV)} : buildA Tryz.prog 196 ps = bldA pl_196 [zI, zI, zI, zI, zI, zI, zI, zN, zM] ps := bld_of (by kernel_rfl) Tryz.underlying196 (by kernel_rfl) (by funext i; rcases i with _ | _ | i <;> kernel_rfl)
def pl_201 : Nat → Option (Nat × Nat)
  | 0 => some (0, 1)
  | 1 => some (1, 1)
  | _ => none
theorem bd_201 {ps : List (Nat × AV)} : buildA Tryz.prog 201 ps = bldA pl_201 [zM, zM] ps := bld_of (by kernel_rfl) Tryz.underlying201 (by kernel_rfl) (by funext i; rcases i with _ | _ | i <;> kernel_rfl)
theorem cv_3x204 {k : IntKind} {n : Int} {H : AHeap} : convertA Tryz.prog 3 204 (.s (.int k n)) H = some (.s (.int .u64 (IntKind.wrap .u64 n)), H) := cv_int (by kernel_rfl) Tryz.underlying3 Tryz.underlying204

end Go.Proofs.YtlcdejlbmnjlaaaGreat

namespace Go.Proofs.YtlcdejlbmnjlaaaGreat

/-- What a cell of an object holds: a value; a slice of its own (m cells an element); a map of its own; a map of slices; a slice of slices. -/
inductive Cell where
  | av (x : AV)
  | seq (m : Nat) (cells : List AV)
  | map (k : IntKind) (es : List (Int × AV))
  | maps (k : IntKind) (m : Nat) (es : List (Int × List AV))
  | seqs (w m : Nat) (ls : List (List AV))
/-- The owner of a block: an object, its cell (from 1 on), a part of it. -/
abbrev Tag := Nat × Nat × Nat × Int
section
variable (b : Nat) (H : AHeap) (τ : Nat → Option Tag)
def OS (T : Tag) (x : AV) (m : Nat) (cells : List AV) : Prop :=
  (x = zN ∧ cells = []) ∨ ∃ r g off n cap ex ty all, x = .sl r g off m n cap ex ∧ τ r = some T ∧ b ≤ r ∧ r < H.next ∧ n ≤ cap ∧ H.get r = .blk g ty all ∧ off + cap * m ≤ all.length ∧ all.all AV.isCell = true ∧ cells = (all.drop off).take (n * m)
def OM (T : Tag) (x : AV) (k : IntKind) (es : List (Int × AV)) : Prop := ∃ r, x = .mp r ∧ τ r = some T ∧ b ≤ r ∧ r < H.next ∧ H.get r = .map k es
def CR (q i : Nat) : Cell → AV → Prop
  | .av x, y => y = x
  | .seq m cells, y => OS b H τ (q, i + 1, 0, 0) y m cells
  | .map k es, y => OM b H τ (q, i + 1, 0, 0) y k es
  | .maps k m es, y => ∃ aes : List (Int × AV), OM b H τ (q, i + 1, 0, 0) y k aes ∧ aes.map (·.1) = es.map (·.1) ∧ ∀ (j : Nat) n cells x, es[j]? = some (n, cells) → aes[j]? = some (n, x) → OS b H τ (q, i + 1, 1, n) x m cells
  | .seqs w m ls, y => ∃ xs : List AV, OS b H τ (q, i + 1, 0, 0) y w xs ∧ xs.length = ls.length ∧ ∀ (j : Nat) cells x, ls[j]? = some cells → xs[j]? = some x → OS b H τ (q, i + 1, 1, (j : Int)) x m cells
structure RepO (q : Nat) (cs : List Cell) : Prop where
  tag : τ q = some (q, 0, 0, 0)
  lo : b ≤ q
  hi : q < H.next
  blk : ∃ ty xs, H.get q = .blk 0 ty xs ∧ xs.length = cs.length ∧ xs.all AV.isCell = true ∧ ∀ (i : Nat) c x, cs[i]? = some c → xs[i]? = some x → CR b H τ q i c x
end
abbrev Store := Nat → Option (List Cell)
/-- A heap in which these objects lie. -/
def Good (b : Nat) (H : AHeap) (g : Store) : Prop := b ≤ H.next ∧ ∃ τ, ∀ q cs, g q = some cs → RepO b H τ q cs
def upd (g : Store) (q : Nat) (cs : List Cell) : Store := fun x => if x = q then some cs else g x
section
variable {b : Nat} {H H' : AHeap} {g : Store} {q : Nat} {cs : List Cell}
theorem upd_same : upd g q cs q = some cs := by simp [upd]
theorem upd_ne {x : Nat} (h : x ≠ q) : upd g q cs x = g x := by simp [upd, h]
theorem upd_upd {ds : List Cell} : upd (upd g q cs) q ds = upd g q ds := by funext x; simp only [upd]; split <;> rfl
/-- What is asked of blocks with other tags when one changes. -/
theorem OS.keep {τ τ' : Nat → Option Tag} {T : Tag} {x : AV} {m : Nat} {cells : List AV} (h : OS b H τ T x m cells) (hn : H.next ≤ H'.next) (hg : ∀ r, r < H.next → τ r = some T → τ' r = some T ∧ H'.get r = H.get r) : OS b H' τ' T x m cells := by
  rcases h with h | ⟨r, g, off, n, cap, ex, ty, all, rfl, h1, h2, h3, h4, h5, h6, h7, h8⟩
  · exact .inl h
  · obtain ⟨k1, k2⟩ := hg r h3 h1
    exact .inr ⟨r, g, off, n, cap, ex, ty, all, rfl, k1, h2, by omega, h4, by rw [k2]; exact h5, h6, h7, h8⟩
theorem OM.keep {τ τ' : Nat → Option Tag} {T : Tag} {x : AV} {k : IntKind} {es : List (Int × AV)} (h : OM b H τ T x k es) (hn : H.next ≤ H'.next) (hg : ∀ r, r < H.next → τ r = some T → τ' r = some T ∧ H'.get r = H.get r) : OM b H' τ' T x k es := by
  obtain ⟨r, rfl, h1, h2, h3, h4⟩ := h
  obtain ⟨k1, k2⟩ := hg r h3 h1
  exact ⟨r, rfl, k1, h2, by omega, by rw [k2]; exact h4⟩
theorem CR.keep {τ τ' : Nat → Option Tag} {i : Nat} : ∀ {c : Cell} {x : AV}, CR b H τ q i c x → H.next ≤ H'.next → (∀ r s t, r < H.next → τ r = some (q, i + 1, s, t) → τ' r = some (q, i + 1, s, t) ∧ H'.get r = H.get r) → CR b H' τ' q i c x
  | .av _, _, h, _, _ => h
  | .seq _ _, _, h, hn, hg => OS.keep h hn fun r h1 h2 => hg r 0 0 h1 h2
  | .map _ _, _, h, hn, hg => OM.keep h hn fun r h1 h2 => hg r 0 0 h1 h2
  | .maps _ _ _, _, ⟨aes, h1, h2, h3⟩, hn, hg => ⟨aes, h1.keep hn fun r h1 h2 => hg r 0 0 h1 h2, h2, fun j n cells x hj hx => (h3 j n cells x hj hx).keep hn fun r h1 h2 => hg r 1 n h1 h2⟩
  | .seqs _ _ _, _, ⟨xs, h1, h2, h3⟩, hn, hg => ⟨xs, h1.keep hn fun r h1 h2 => hg r 0 0 h1 h2, h2, fun j cells x hj hx => (h3 j cells x hj hx).keep hn fun r h1 h2 => hg r 1 j h1 h2⟩
theorem RepO.keep {τ τ' : Nat → Option Tag} (h : RepO b H τ q cs) (hn : H.next ≤ H'.next) (hg : ∀ r i s t, r < H.next → τ r = some (q, i, s, t) → τ' r = some (q, i, s, t) ∧ H'.get r = H.get r) : RepO b H' τ' q cs := by
  obtain ⟨k1, k2⟩ := hg q 0 0 0 h.hi h.tag
  obtain ⟨ty, xs, h1, h2, h3, h4⟩ := h.blk
  exact ⟨k1, h.lo, by have := h.hi; omega, ty, xs, by rw [k2]; exact h1, h2, h3, fun i c x hc hx => (h4 i c x hc hx).keep hn fun r s t hr ht => hg r (i + 1) s t hr ht⟩
theorem Good.lt (G : Good b H g) (h : g q = some cs) : q < H.next := (G.2.choose_spec q cs h).hi
theorem Good.le (G : Good b H g) (h : g q = some cs) : b ≤ q := (G.2.choose_spec q cs h).lo
theorem Good.isNone (G : Good b H g) (h : H.next ≤ q) : g q = none := by
  cases hq : g q with
  | none => rfl
  | some cs => have := G.lt hq; omega
/-- All old blocks are as they were. -/
theorem Good.ext (G : Good b H g) (hn : H.next ≤ H'.next) (hg : ∀ r, r < H.next → H'.get r = H.get r) : Good b H' g := by
  obtain ⟨h0, τ, h⟩ := G
  exact ⟨by omega, τ, fun q cs hq => (h q cs hq).keep hn fun r i s t hr ht => ⟨ht, hg r hr⟩⟩
theorem Good.new (G : Good b H g) (o : AObj) : Good b (H.new o) g := G.ext (Nat.le_succ _) fun r hr => by rw [get_new, if_neg (by omega)]
theorem Good.guard (G : Good b H g) : Good b H.guard g := G.ext (Nat.le_refl _) fun _ _ => rfl
theorem Good.sub (G : Good b H g) {g' : Store} (h : ∀ q cs, g' q = some cs → g q = some cs) : Good b H g' := by
  obtain ⟨h0, τ, h1⟩ := G
  exact ⟨h0, τ, fun q cs hq => h1 q cs (h q cs hq)⟩
theorem Good.empty (H : AHeap) : Good H.next H fun _ => none := ⟨Nat.le_refl _, fun _ => none, fun _ _ h => by cases h⟩
theorem Good.weak (G : Good b H g) {b' : Nat} (h : b' ≤ b) : Good b' H g := by
  obtain ⟨h0, τ, h1⟩ := G
  have os : ∀ {T x m cells}, OS b H τ T x m cells → OS b' H τ T x m cells := by
    intro T x m cells ho
    rcases ho with ho | ⟨r, g, off, n, cap, ex, ty, all, h2, h3, h4, h5⟩
    · exact .inl ho
    · exact .inr ⟨r, g, off, n, cap, ex, ty, all, h2, h3, by omega, h5⟩
  have om : ∀ {T x k es}, OM b H τ T x k es → OM b' H τ T x k es := by
    intro T x k es ⟨r, h2, h3, h4, h5⟩
    exact ⟨r, h2, h3, by omega, h5⟩
  refine ⟨by omega, τ, fun q cs hq => ?_⟩
  have R := h1 q cs hq
  obtain ⟨ty, xs, k1, k2, k3, k4⟩ := R.blk
  refine ⟨R.tag, by have := R.lo; omega, R.hi, ty, xs, k1, k2, k3, fun i c x hc hx => ?_⟩
  have := k4 i c x hc hx
  cases c with
  | av _ => exact this
  | seq _ _ => exact os this
  | map _ _ => exact om this
  | maps _ _ _ =>
    obtain ⟨aes, a1, a2, a3⟩ := this
    exact ⟨aes, om a1, a2, fun j n cells x hj hx => os (a3 j n cells x hj hx)⟩
  | seqs _ _ _ =>
    obtain ⟨ys, a1, a2, a3⟩ := this
    exact ⟨ys, os a1, a2, fun j cells x hj hx => os (a3 j cells x hj hx)⟩
/-- How the memory goes on: nothing below b is touched. -/
structure Step (b : Nat) (H H' : AHeap) : Prop where
  base : H'.base = H.base
  next : H.next ≤ H'.next
  low : ∀ r, r < b → H'.get r = H.get r
theorem Step.refl (b : Nat) (H : AHeap) : Step b H H := ⟨rfl, Nat.le_refl _, fun _ _ => rfl⟩
theorem Step.trans {b : Nat} {H H' H'' : AHeap} (s : Step b H H') (t : Step b H' H'') : Step b H H'' := ⟨t.base.trans s.base, Nat.le_trans s.next t.next, fun r hr => by rw [t.low r hr, s.low r hr]⟩
theorem Step.new {b : Nat} {H : AHeap} (o : AObj) (h : b ≤ H.next) : Step b H (H.new o) := ⟨rfl, Nat.le_succ _, fun r hr => by rw [get_new, if_neg (by omega)]⟩
theorem Step.put {b : Nat} {H : AHeap} {r : Nat} (o : AObj) (h : b ≤ r) : Step b H (H.put r o) := ⟨rfl, Nat.le_refl _, fun x hx => by rw [get_put, if_neg (by omega)]⟩
theorem ld_blk {r off g : Nat} {ty : TypeId} {xs : List AV} (h : H.get r = .blk g ty xs) : ld (.ref r g off) H = (xs[off]?).map fun v => (v, H) := by
  simp only [ld, lookB, watchV, Option.map_some, ldO, h, if_true]
theorem lda_blk {r off g n : Nat} {ty : TypeId} {xs : List AV} (h : H.get r = .blk g ty xs) (hl : off + n ≤ xs.length) : lda n (.ref r g off) H = some (.agg ((xs.drop off).take n), H) := by
  simp only [lda, lookB, watchV, Option.map_some, ldaO, h, if_true, hl]
theorem ld_ip {cells : List AV} : ld (.ip cells) H = (cells[0]?).map fun v => (v, H) := by simp only [ld, lookB, ldO]
theorem lda_ip {cells : List AV} {n : Nat} (h : n ≤ cells.length) : lda n (.ip cells) H = some (.agg (cells.take n), H) := by
  simp only [lda, lookB, ldaO, Nat.zero_add, h, if_true, List.drop_zero, Option.map_some]
theorem Good.load (G : Good b H g) (h : g q = some cs) {i : Nat} {x : AV} (hi : cs[i]? = some (.av x)) : ld (.ref q 0 i) H = some (x, H) := by
  obtain ⟨_, τ, hR⟩ := G
  obtain ⟨ty, xs, h1, h2, h3, h4⟩ := (hR q cs h).blk
  rw [ld_blk h1]
  have hlt : i < xs.length := by rw [h2]; exact (List.getElem?_eq_some_iff.1 hi).1
  have hx : xs[i]? = some (xs[i]'hlt) := List.getElem?_eq_getElem hlt
  have := h4 i _ _ hi hx
  simp only [CR] at this
  rw [hx, this]; rfl
/-- Some cells together. -/
theorem Good.loads (G : Good b H g) (h : g q = some cs) {i n : Nat} {xs : List AV} (hi : (cs.drop i).take n = xs.map .av) (hn : xs.length = n) (hp : 0 < n) : lda n (.ref q 0 i) H = some (.agg xs, H) := by
  obtain ⟨_, τ, hR⟩ := G
  obtain ⟨ty, ys, h1, h2, h3, h4⟩ := (hR q cs h).blk
  have hl := congrArg List.length hi
  simp only [List.length_take, List.length_drop, List.length_map] at hl
  · rw [lda_blk h1 (by omega)]
    congr 2
    congr 1
    apply List.ext_getElem?
    intro j
    rcases Nat.lt_or_ge j n with hj | hj
    · have hx : xs[j]? = some (xs[j]'(by omega)) := List.getElem?_eq_getElem _
      have hc : cs[i + j]? = some (.av (xs[j]'(by omega))) := by
        have := congrArg (fun l => l[j]?) hi
        simp only [List.getElem?_take, hj, if_true, List.getElem?_drop, List.getElem?_map, hx, Option.map_some] at this
        exact this
      have hlt : i + j < ys.length := by omega
      have hy : ys[i + j]? = some (ys[i + j]'hlt) := List.getElem?_eq_getElem hlt
      have := h4 _ _ _ hc hy
      simp only [CR] at this
      rw [List.getElem?_take, if_pos hj, List.getElem?_drop, hy, this, hx]
    · rw [List.getElem?_take, if_neg (by omega), List.getElem?_eq_none (by omega)]
end

end Go.Proofs.YtlcdejlbmnjlaaaGreat

namespace Go.Proofs.YtlcdejlbmnjlaaaGreat

/-- x is a slice of n elements, m cells each; what it has are these cells. -/
def SliceIs (H : AHeap) (x : AV) (m n : Nat) (cells : List AV) : Prop :=
  cells.length = n * m ∧
  match x with
  | .sl r g off esz len cap _ => esz = m ∧ len = n ∧ (r < H.next ∧ len ≤ cap) ∧ ∃ ty all, H.get r = .blk g ty all ∧ off + n * m ≤ all.length ∧ cells = (all.drop off).take (n * m)
  | .vs k esz cs => esz = m ∧ k = n ∧ cs = cells
  | .s (.slice none a b) => a = 0 ∧ b = 0 ∧ n = 0
  | _ => False
/-- The place of an element. -/
def elemPtr (x : AV) (i : Nat) : AV :=
  match x with
  | .sl r g off esz _ _ _ => .ref r g (off + i * esz)
  | .vs _ esz cs => .ip (cs.drop (i * esz))
  | _ => undefA
section
variable {P : Program} {H : AHeap} {x : AV} {m n : Nat} {cells : List AV}
theorem SliceIs.isCell (h : SliceIs H x m n cells) : x.isCell = true := by
  obtain ⟨_, h⟩ := h
  cases x with
  | s v => cases v <;> first | rfl | exact h.elim
  | _ => first | rfl | exact h.elim
theorem SliceIs.len (h : SliceIs H x m n cells) {t e : TypeId} (ht : elemT P t = some e) : lenA P t x H = some (.s (.int .i64 n), H) := by
  obtain ⟨_, h⟩ := h
  unfold elemT at ht
  split at ht <;> first | (cases ht; done) | skip
  rename_i e' hu
  unfold lenA lookB lenO
  cases x with
  | sl r g off esz len cap ex => simp only [hu]; rw [h.2.1]; rfl
  | vs k esz cs => simp only [hu]; rw [h.2.1]; rfl
  | s v =>
    cases v with
    | slice a b c =>
      cases a with
      | none => simp only [hu]; rw [h.2.2, h.1]; rfl
      | some a => exact h.elim
    | _ => exact h.elim
  | _ => exact h.elim
theorem SliceIs.cells_ (h : SliceIs H x m n cells) : sliceLen x = some n ∧ sliceCells H x = some cells := by
  obtain ⟨hl, h⟩ := h
  cases x with
  | sl r g off esz len cap ex =>
    obtain ⟨rfl, rfl, _, ty, all, h1, h2, h3⟩ := h
    refine ⟨rfl, ?_⟩
    simp only [sliceCells, h1]
    rw [if_pos ⟨trivial, h2⟩, h3]
  | vs k esz cs => obtain ⟨rfl, rfl, rfl⟩ := h; exact ⟨rfl, rfl⟩
  | s v =>
    cases v with
    | slice a b c =>
      cases a with
      | none =>
        obtain ⟨rfl, rfl, rfl⟩ := h
        refine ⟨rfl, ?_⟩
        have : cells = [] := List.eq_nil_of_length_eq_zero (by omega)
        rw [this]; rfl
      | some a => exact h.elim
    | _ => exact h.elim
  | _ => exact h.elim
theorem SliceIs.index (h : SliceIs H x m n cells) {t e : TypeId} (ht : elemT P t = some e) (hm : szT P e = some m) {k : IntKind} {i : Int} (h0 : 0 ≤ i) (h1 : i < n) :
    indexAddrA P t x (.s (.int k i)) H = some (elemPtr x i.toNat, H) := by
  obtain ⟨_, h⟩ := h
  unfold elemT at ht
  split at ht <;> first | (cases ht; done) | skip
  rename_i e' hu
  simp only [Option.some.injEq] at ht
  subst ht
  unfold indexAddrA lookB indexAddrO
  cases x with
  | sl r g off esz len cap ex =>
    obtain ⟨rfl, rfl, _, ty, all, h2, h3, h4⟩ := h
    simp only [hu, watchV, Option.map_some, h2, genO, AObj.gen, hm, true_and]
    rw [if_pos ⟨h0, by omega⟩]; rfl
  | vs k' esz cs =>
    obtain ⟨rfl, rfl, rfl⟩ := h
    simp only [hu, hm, true_and]
    rw [if_pos ⟨h0, by omega⟩]; rfl
  | s v =>
    cases v with
    | slice a b c =>
      cases a with
      | none => obtain ⟨rfl, rfl, rfl⟩ := h; omega
      | some a => exact h.elim
    | _ => exact h.elim
  | _ => exact h.elim
/-- The block of a slice. -/
def nameOf : AV → Option Nat
  | .sl r _ _ _ _ _ _ => some r
  | _ => none
theorem SliceIs.of_get {H' : AHeap} (h : SliceIs H x m n cells) (hn : H.next ≤ H'.next) (hg : ∀ r, nameOf x = some r → r < H.next → H'.get r = H.get r) : SliceIs H' x m n cells := by
  obtain ⟨hl, h⟩ := h
  refine ⟨hl, ?_⟩
  cases x with
  | sl r g off esz len cap ex =>
    obtain ⟨h0, h1, hr, ty, all, h2, h3, h4⟩ := h
    exact ⟨h0, h1, ⟨Nat.lt_of_lt_of_le hr.1 hn, hr.2⟩, ty, all, by rw [hg r rfl hr.1]; exact h2, h3, h4⟩
  | s v =>
    cases v with
    | slice a b c => cases a <;> exact h
    | _ => exact h
  | _ => exact h
theorem SliceIs.new (h : SliceIs H x m n cells) (o : AObj) : SliceIs (H.new o) x m n cells :=
  h.of_get (Nat.le_succ _) fun r _ hr => by rw [get_new, if_neg (by omega)]
theorem SliceIs.put (h : SliceIs H x m n cells) {r : Nat} (hr : nameOf x ≠ some r) (o : AObj) : SliceIs (H.put r o) x m n cells :=
  h.of_get (Nat.le_refl _) fun r' hx _ => by rw [get_put, if_neg (fun e => hr (by rw [hx, e]))]
theorem SliceIs.guard (h : SliceIs H x m n cells) : SliceIs H.guard x m n cells := h
theorem SliceIs.nil {m : Nat} : SliceIs H (.s (.slice none 0 0)) m 0 [] := ⟨by simp, rfl, rfl, rfl⟩
theorem SliceIs.vs {m n : Nat} {cs : List AV} (h : cs.length = n * m) : SliceIs H (.vs n m cs) m n cs := ⟨h, rfl, rfl, rfl⟩
end
theorem flat_length {α : Type} {enc : α → List AV} {m : Nat} (he : ∀ a, (enc a).length = m) (l : List α) : (l.flatMap enc).length = l.length * m := by
  induction l with
  | nil => simp
  | cons a l ih => simp only [List.flatMap_cons, List.length_append, he, ih, List.length_cons, Nat.succ_mul]; omega
theorem flat_get {α : Type} {enc : α → List AV} {m : Nat} (he : ∀ a, (enc a).length = m) : ∀ (l : List α) (i : Nat) (a : α), l[i]? = some a → ((l.flatMap enc).drop (i * m)).take m = enc a
  | [], i, a, h => by simp at h
  | b :: l, 0, a, h => by
    simp only [List.getElem?_cons_zero, Option.some.injEq] at h
    subst h
    rw [Nat.zero_mul, List.drop_zero, List.flatMap_cons, List.take_append_of_le_length (by rw [he]; omega), List.take_of_length_le (by rw [he]; omega)]
  | b :: l, i + 1, a, h => by
    simp only [List.getElem?_cons_succ] at h
    have e1 : (enc b).drop ((i + 1) * m) = [] := List.drop_of_length_le (by rw [he, Nat.succ_mul]; omega)
    have e2 : (i + 1) * m - (enc b).length = i * m := by rw [he, Nat.succ_mul]; omega
    rw [List.flatMap_cons, List.drop_append, e1, e2, List.nil_append]
    exact flat_get he l i a h

end Go.Proofs.YtlcdejlbmnjlaaaGreat

namespace Go.Proofs.YtlcdejlbmnjlaaaGreat

section
variable {b : Nat} {H H' : AHeap} {g : Store} {q : Nat} {cs : List Cell}
/-- Only q's blocks have changed. -/
theorem good_upd {τ τ' : Nat → Option Tag} {cs' : List Cell} (h0 : b ≤ H.next) (h : ∀ q cs, g q = some cs → RepO b H τ q cs) (hn : H.next ≤ H'.next)
    (hk : ∀ r, r < H.next → (∀ i s t, τ r ≠ some (q, i, s, t)) → τ' r = τ r ∧ H'.get r = H.get r) (hR : RepO b H' τ' q cs') : Good b H' (upd g q cs') := by
  refine ⟨by omega, τ', fun q2 cs2 hq2 => ?_⟩
  by_cases e : q2 = q
  · subst e
    rw [upd_same] at hq2
    cases hq2
    exact hR
  · rw [upd_ne e] at hq2
    refine (h q2 cs2 hq2).keep hn fun r i s t hr ht => ?_
    obtain ⟨k1, k2⟩ := hk r hr fun i' s' t' h' => by rw [ht] at h'; cases h'; exact e rfl
    exact ⟨by rw [k1]; exact ht, k2⟩
theorem set_cases {α : Type} {l : List α} {i j : Nat} {a x : α} (h : (l.set i a)[j]? = some x) : (j = i ∧ x = a) ∨ (j ≠ i ∧ l[j]? = some x) := by
  by_cases e : i = j
  · subst e
    have hl : i < l.length := by
      have := (List.getElem?_eq_some_iff.1 h).1
      simpa using this
    rw [List.getElem?_set_self hl] at h
    cases h
    exact .inl ⟨rfl, rfl⟩
  · rw [List.getElem?_set_ne e] at h
    exact .inr ⟨fun e' => e e'.symm, h⟩
theorem all_set {l : List AV} (h : l.all AV.isCell = true) {v : AV} (hv : v.isCell = true) (i : Nat) : (l.set i v).all AV.isCell = true := by
  rw [List.all_eq_true] at h ⊢
  intro x hx
  rcases List.mem_or_eq_of_mem_set hx with hx | rfl
  · exact h x hx
  · exact hv
theorem setAt_one {l : List AV} {i : Nat} {v : AV} (hi : i < l.length) : setAt l i [v] = l.set i v := by
  rw [List.set_eq_take_append_cons_drop]
  simp only [setAt, hi, if_true, List.length_cons, List.length_nil]
  rfl
/-- A cell's word itself. -/
def One (v : AV) : Prop := v.cells = [v] ∧ v.isCell = true
theorem one_int {k : IntKind} {n : Int} : One (.s (.int k n)) := ⟨rfl, rfl⟩
theorem one_sl {r g off esz len cap : Nat} {ex : Bool} : One (.sl r g off esz len cap ex) := ⟨rfl, rfl⟩
theorem one_vs {n esz : Nat} {cells : List AV} : One (.vs n esz cells) := ⟨rfl, rfl⟩
theorem one_nil : One zN := ⟨rfl, rfl⟩
theorem st_one {r gg off : Nat} {v : AV} {ty : TypeId} {xs : List AV} (hv : One v) (h : H.get r = .blk gg ty xs) (hb : H.base ≤ r) (hl : off < xs.length) : st 1 (.ref r gg off) v H = some (undefA, H.put r (.blk gg ty (xs.set off v))) := by
  show (match H.get r with
    | .blk g' ty cells => if g' = gg ∧ H.base ≤ r ∧ some 1 = some v.cells.length ∧ v.cells.all AV.isCell = true ∧ off + v.cells.length ≤ cells.length then some (undefA, H.put r (.blk gg ty (setAt cells off v.cells))) else none
    | .map .. => none) = _
  rw [h]
  simp only
  rw [if_pos ⟨trivial, hb, by rw [hv.1]; rfl, by rw [hv.1]; simp [hv.2], by rw [hv.1]; exact hl⟩, hv.1, setAt_one hl]
theorem setA_get {l : List AV} {i : Nat} {vs : List AV} (h : i + vs.length ≤ l.length) (j : Nat) : (setAt l i vs)[j]? = if i ≤ j ∧ j < i + vs.length then vs[j - i]? else l[j]? := by
  unfold setAt
  rcases Nat.lt_or_ge j i with hj | hj
  · rw [List.getElem?_append_left (by rw [List.length_take]; omega), List.getElem?_take, if_pos hj, if_neg (by omega)]
  · have h1 : (l.take i).length = i := by rw [List.length_take]; omega
    rw [List.getElem?_append_right (by omega), h1]
    rcases Nat.lt_or_ge j (i + vs.length) with hk | hk
    · rw [if_pos ⟨hj, hk⟩, List.getElem?_append_left (by omega)]
    · rw [if_neg (by omega), List.getElem?_append_right (by omega), List.getElem?_drop]
      congr 1; omega
theorem setA_length {l : List AV} {i : Nat} {vs : List AV} (h : i + vs.length ≤ l.length) : (setAt l i vs).length = l.length := by
  simp only [setAt, List.length_append, List.length_take, List.length_drop]; omega
theorem all_setAt {l vs : List AV} (h : l.all AV.isCell = true) (hv : vs.all AV.isCell = true) (i : Nat) : (setAt l i vs).all AV.isCell = true := by
  rw [List.all_eq_true] at h hv ⊢
  intro x hx
  simp only [setAt, List.mem_append] at hx
  rcases hx with hx | hx | hx
  · exact h x (List.mem_of_mem_take hx)
  · exact hv x hx
  · exact h x (List.mem_of_mem_drop hx)
/-- x is the slice in a cell of an object. -/
structure Cur (b : Nat) (H : AHeap) (q i : Nat) (x : AV) (m : Nat) (l : List AV) : Prop where
  at_ : ∃ ty xs, H.get q = .blk 0 ty xs ∧ xs[i]? = some x
  own : (x = zN ∧ l = []) ∨ ∃ r g off n cap ex ty all, x = .sl r g off m n cap ex ∧ r ≠ q ∧ b ≤ r ∧ r < H.next ∧ n ≤ cap ∧ H.get r = .blk g ty all ∧ off + cap * m ≤ all.length ∧ all.all AV.isCell = true ∧ l = (all.drop off).take (n * m)
  lt : q < H.next
theorem Good.seq (G : Good b H g) (h : g q = some cs) {i m : Nat} {l : List AV} (hi : cs[i]? = some (.seq m l)) : ∃ x, ld (.ref q 0 i) H = some (x, H) ∧ Cur b H q i x m l := by
  obtain ⟨_, τ, hR⟩ := G
  have R := hR q cs h
  obtain ⟨ty, xs, h1, h2, h3, h4⟩ := R.blk
  have hlt : i < xs.length := by rw [h2]; exact (List.getElem?_eq_some_iff.1 hi).1
  have hx : xs[i]? = some (xs[i]'hlt) := List.getElem?_eq_getElem hlt
  refine ⟨xs[i]'hlt, by rw [ld_blk h1, hx]; rfl, ⟨ty, xs, h1, hx⟩, ?_, R.hi⟩
  have := h4 i _ _ hi hx
  simp only [CR] at this
  rcases this with h5 | ⟨r, gg, off, n, cap, ex, ty, all, h5, h6, h7⟩
  · exact .inl h5
  · refine .inr ⟨r, gg, off, n, cap, ex, ty, all, h5, ?_, h7⟩
    intro e; subst e; rw [R.tag] at h6; cases h6
theorem Cur.load {i m : Nat} {x : AV} {l : List AV} (c : Cur b H q i x m l) : ld (.ref q 0 i) H = some (x, H) := by
  obtain ⟨ty, xs, h1, h2⟩ := c.at_
  rw [ld_blk h1, h2]; rfl
theorem Cur.ext {i m : Nat} {x : AV} {l : List AV} (c : Cur b H q i x m l) (hn : H.next ≤ H'.next) (hg : ∀ r, r < H.next → H'.get r = H.get r) : Cur b H' q i x m l := by
  obtain ⟨ty, xs, h1, h2⟩ := c.at_
  refine ⟨⟨ty, xs, by rw [hg q c.lt]; exact h1, h2⟩, ?_, by have := c.lt; omega⟩
  rcases c.own with h | ⟨r, g, off, n, cap, ex, ty, all, k0, k1, k2, k3, k4, k5, k6⟩
  · exact .inl h
  · exact .inr ⟨r, g, off, n, cap, ex, ty, all, k0, k1, k2, by omega, k4, by rw [hg r k3]; exact k5, k6⟩
theorem Cur.new {i m : Nat} {x : AV} {l : List AV} (c : Cur b H q i x m l) (o : AObj) : Cur b (H.new o) q i x m l := c.ext (Nat.le_succ _) fun r hr => by rw [get_new, if_neg (by omega)]
theorem Cur.one {i m : Nat} {x : AV} {l : List AV} (c : Cur b H q i x m l) : One x := by
  rcases c.own with ⟨rfl, _⟩ | ⟨r, g, off, n, cap, ex, ty, all, rfl, _⟩
  · exact one_nil
  · exact one_sl
theorem Cur.is {i m n : Nat} {x : AV} {l : List AV} (c : Cur b H q i x m l) (hm : 0 < m) (hl : l.length = n * m) : SliceIs H x m n l := by
  refine ⟨hl, ?_⟩
  rcases c.own with ⟨rfl, rfl⟩ | ⟨r, g, off, n', cap, ex, ty, all, rfl, k1, k2, k3, k4, k5, k6, k7, rfl⟩
  · refine ⟨rfl, rfl, ?_⟩
    simp only [List.length_nil] at hl
    rcases Nat.mul_eq_zero.1 hl.symm with h | h <;> omega
  · have h1 : n' * m ≤ cap * m := Nat.mul_le_mul_right _ k4
    rw [List.length_take, List.length_drop, Nat.min_eq_left (by omega)] at hl
    have : n' = n := Nat.eq_of_mul_eq_mul_right hm hl
    subst this
    exact ⟨rfl, rfl, ⟨k3, k4⟩, ty, all, k5, by omega, rfl⟩
theorem Cur.low {i m r : Nat} {x : AV} {l : List AV} (c : Cur b H q i x m l) (hr : r < b) : nameOf x ≠ some r := by
  rcases c.own with ⟨rfl, _⟩ | ⟨r', g, off, n, cap, ex, ty, all, rfl, k1, k2, _⟩
  · intro e; cases e
  · intro e; simp only [nameOf, Option.some.injEq] at e; omega
/-- What may be laid into a cell as a slice of its own: x0's block, or a new one. -/
def Fit (H H1 : AHeap) (x0 x : AV) (m : Nat) (l : List AV) : Prop :=
  (x = zN ∧ l = []) ∨ ∃ r g off n cap ex ty all, x = .sl r g off m n cap ex ∧ (nameOf x0 = some r ∨ H.next ≤ r) ∧ r < H1.next ∧ n ≤ cap ∧ H1.get r = .blk g ty all ∧ off + cap * m ≤ all.length ∧ all.all AV.isCell = true ∧ l = (all.drop off).take (n * m)
/-- A slice is laid back into its cell; only its block has changed, and there may be new ones. -/
theorem Good.seat (G : Good b H g) (h : g q = some cs) {i m : Nat} {l0 : List AV} (hi : cs[i]? = some (.seq m l0)) {x0 : AV} (c : Cur b H q i x0 m l0) {H1 : AHeap} (hn : H.next ≤ H1.next) (hb : H1.base ≤ b)
    (hk : ∀ r, r < H.next → nameOf x0 ≠ some r → H1.get r = H.get r) {x : AV} {m' : Nat} {l : List AV} (hx : Fit H H1 x0 x m' l) :
    ∃ H', st 1 (.ref q 0 i) x H1 = some (undefA, H') ∧ Good b H' (upd g q (cs.set i (.seq m' l))) ∧ Step b H1 H' ∧ H'.next = H1.next := by
  obtain ⟨h0, τ, hR⟩ := G
  have R := hR q cs h
  obtain ⟨ty, xs, h1, h2, h3, h4⟩ := R.blk
  have lo := R.lo
  have hi' := R.hi
  have il : i < cs.length := (List.getElem?_eq_some_iff.1 hi).1
  have hx0 : xs[i]? = some x0 := by
    obtain ⟨ty', xs', e1, e2⟩ := c.at_
    rw [h1] at e1; cases e1; exact e2
  have htag : ∀ r, nameOf x0 = some r → τ r = some (q, i + 1, 0, 0) ∧ b ≤ r := by
    intro r hr
    have := h4 i _ _ hi hx0
    simp only [CR] at this
    rcases this with ⟨rfl, _⟩ | ⟨r', gg, off, n, cap, ex, ty', all, rfl, k1, k2, _⟩
    · cases hr
    · simp only [nameOf, Option.some.injEq] at hr; subst hr; exact ⟨k1, k2⟩
  have hqx : nameOf x0 ≠ some q := fun e => by have := (htag q e).1; rw [R.tag] at this; cases this
  have hq1 : H1.get q = .blk 0 ty xs := by rw [hk q hi' hqx]; exact h1
  have hone : One x := by
    rcases hx with ⟨rfl, _⟩ | ⟨r, gg, off, n, cap, ex, ty', all, rfl, _⟩
    · exact one_nil
    · exact one_sl
  refine ⟨_, st_one hone hq1 (by omega) (by omega), ?_, Step.put _ lo, rfl⟩
  refine good_upd (τ' := fun r => if H.next ≤ r then some (q, i + 1, 0, 0) else τ r) h0 hR (show H.next ≤ H1.next from hn) (fun r hr ht => ⟨by rw [if_neg (by omega)], ?_⟩)
    ⟨by rw [if_neg (by omega)]; exact R.tag, R.lo, show q < H1.next by omega, ty, xs.set i x, by rw [get_put, if_pos rfl], by simp [h2], all_set h3 hone.2 i, fun j cc y hc hy => ?_⟩
  · rw [get_put, if_neg (by intro e; subst e; exact ht 0 0 0 R.tag)]
    exact hk r hr fun e => ht (i + 1) 0 0 (htag r e).1
  · rcases set_cases hc with ⟨rfl, rfl⟩ | ⟨hj, hc⟩
    · rcases set_cases hy with ⟨_, rfl⟩ | ⟨hj, _⟩
      · rcases hx with hx | ⟨r, gg, off, n, cap, ex, ty', all, rfl, k1, k2, k3, k4, k5⟩
        · exact .inl hx
        · have hrq : r ≠ q := by
            rcases k1 with k1 | k1
            · intro e; subst e; exact hqx k1
            · omega
          refine .inr ⟨r, gg, off, n, cap, ex, ty', all, rfl, ?_, ?_, k2, k3, by rw [get_put, if_neg hrq]; exact k4, k5⟩
          · show (if H.next ≤ r then some (q, j + 1, 0, 0) else τ r) = some (q, j + 1, 0, 0)
            split
            · rfl
            · rcases k1 with k1 | k1
              · exact (htag r k1).1
              · omega
          · rcases k1 with k1 | k1
            · exact (htag r k1).2
            · omega
      · exact absurd rfl hj
    · rcases set_cases hy with ⟨rfl, _⟩ | ⟨_, hy⟩
      · exact absurd rfl hj
      · refine (h4 j cc y hc hy).keep (show H.next ≤ H1.next from hn) fun r s t hr ht => ⟨by rw [if_neg (by omega)]; exact ht, ?_⟩
        rw [get_put, if_neg (by intro e; subst e; rw [R.tag] at ht; cases ht)]
        refine hk r hr fun e => ?_
        have := (htag r e).1
        rw [this] at ht
        simp only [Option.some.injEq, Prod.mk.injEq, Nat.add_right_cancel_iff] at ht
        exact hj ht.2.1.symm
end

end Go.Proofs.YtlcdejlbmnjlaaaGreat

namespace Go.Proofs.YtlcdejlbmnjlaaaGreat

section
variable {b : Nat} {H H' : AHeap} {g : Store} {q : Nat} {cs : List Cell}
theorem SliceIs.lnS {x : AV} {m n : Nat} {cells : List AV} (h : SliceIs H x m n cells) : lnS x H = some (I n, H) := by
  obtain ⟨_, h⟩ := h
  unfold Go.Proofs.YtlcdejlbmnjlaaaGreat.lnS lookB lnSO
  cases x with
  | sl r g off esz len cap ex => simp only; rw [h.2.1]; rfl
  | vs k esz cs => simp only; rw [h.2.1]; rfl
  | s v =>
    cases v with
    | slice a b c =>
      cases a with
      | none => simp only; rw [h.2.2, h.1]; rfl
      | some a => exact h.elim
    | _ => exact h.elim
  | _ => exact h.elim
theorem SliceIs.ix {x : AV} {m n : Nat} {cells : List AV} (h : SliceIs H x m n cells) {k : IntKind} {i : Int} (h0 : 0 ≤ i) (h1 : i < n) : ix m x (.s (.int k i)) H = some (elemPtr x i.toNat, H) := by
  obtain ⟨_, h⟩ := h
  unfold Go.Proofs.YtlcdejlbmnjlaaaGreat.ix lookB ixO
  cases x with
  | sl r g off esz len cap ex =>
    obtain ⟨rfl, rfl, _, ty, all, h2, h3, h4⟩ := h
    simp only [watchV, Option.map_some, h2, genO, AObj.gen, true_and]
    rw [if_pos ⟨h0, by omega⟩]; rfl
  | vs k' esz cs =>
    obtain ⟨rfl, rfl, rfl⟩ := h
    simp only [true_and]
    rw [if_pos ⟨h0, by omega⟩]; rfl
  | s v =>
    cases v with
    | slice a b c =>
      cases a with
      | none => obtain ⟨rfl, rfl, rfl⟩ := h; omega
      | some a => exact h.elim
    | _ => exact h.elim
  | _ => exact h.elim
theorem SliceIs.ld {x : AV} {n : Nat} {cells : List AV} (h : SliceIs H x 1 n cells) {i : Nat} (hi : i < n) : ld (elemPtr x i) H = (cells[i]?).map fun v => (v, H) := by
  obtain ⟨_, h⟩ := h
  cases x with
  | sl r g off esz len cap ex =>
    obtain ⟨rfl, rfl, _, ty, all, h2, h3, h4⟩ := h
    simp only [elemPtr]
    rw [ld_blk h2, h4, List.getElem?_take, if_pos (by omega), List.getElem?_drop, Nat.mul_one]
  | vs k' esz cs =>
    obtain ⟨rfl, rfl, rfl⟩ := h
    simp only [elemPtr]
    rw [ld_ip, List.getElem?_drop, Nat.mul_one, Nat.add_zero]
  | s v =>
    cases v with
    | slice a b c =>
      cases a with
      | none => obtain ⟨rfl, rfl, rfl⟩ := h; omega
      | some a => exact h.elim
    | _ => exact h.elim
  | _ => exact h.elim
theorem SliceIs.lda {x : AV} {m n : Nat} {cells : List AV} (h : SliceIs H x m n cells) {i : Nat} (hi : i < n) : lda m (elemPtr x i) H = some (.agg ((cells.drop (i * m)).take m), H) := by
  obtain ⟨hl, h⟩ := h
  have him : i * m + m ≤ n * m := by
    have : (i + 1) * m ≤ n * m := Nat.mul_le_mul_right _ hi
    rwa [Nat.succ_mul] at this
  cases x with
  | sl r g off esz len cap ex =>
    obtain ⟨rfl, rfl, _, ty, all, h2, h3, h4⟩ := h
    simp only [elemPtr]
    rw [lda_blk h2 (by omega), h4, List.drop_take, List.take_take, List.drop_drop, Nat.min_eq_left (by omega)]
  | vs k' esz cs =>
    obtain ⟨rfl, rfl, rfl⟩ := h
    simp only [elemPtr]
    rw [lda_ip (by rw [List.length_drop]; omega)]
  | s v =>
    cases v with
    | slice a b c =>
      cases a with
      | none => obtain ⟨rfl, rfl, rfl⟩ := h; omega
      | some a => exact h.elim
    | _ => exact h.elim
  | _ => exact h.elim
theorem drop_take_setAt {all new : List AV} {off n : Nat} (h : off + n + new.length ≤ all.length) : ((setAt all (off + n) new).drop off).take (n + new.length) = (all.drop off).take n ++ new := by
  have hl : (setAt all (off + n) new).length = all.length := setA_length (by omega)
  apply List.ext_getElem?
  intro j
  rcases Nat.lt_or_ge j n with h1 | h1
  · rw [List.getElem?_take, if_pos (by omega), List.getElem?_drop, setA_get (by omega), if_neg (by omega), List.getElem?_append_left (by rw [List.length_take, List.length_drop]; omega), List.getElem?_take, if_pos h1, List.getElem?_drop]
  · rcases Nat.lt_or_ge j (n + new.length) with h2 | h2
    · rw [List.getElem?_take, if_pos h2, List.getElem?_drop, setA_get (by omega), if_pos (by omega), List.getElem?_append_right (by rw [List.length_take, List.length_drop]; omega), List.length_take, List.length_drop]
      congr 1; omega
    · rw [List.getElem?_take, if_neg (by omega), List.getElem?_append_right (by rw [List.length_take, List.length_drop]; omega), List.length_take, List.length_drop, List.getElem?_eq_none (by omega)]
theorem all_append {l l' : List AV} (h : l.all AV.isCell = true) (h' : l'.all AV.isCell = true) : (l ++ l').all AV.isCell = true := by rw [List.all_append, h, h']; rfl
theorem all_take {l : List AV} (h : l.all AV.isCell = true) (n : Nat) : (l.take n).all AV.isCell = true := by
  rw [List.all_eq_true] at h ⊢; exact fun x hx => h x (List.mem_of_mem_take hx)
theorem all_drop {l : List AV} (h : l.all AV.isCell = true) (n : Nat) : (l.drop n).all AV.isCell = true := by
  rw [List.all_eq_true] at h ⊢; exact fun x hx => h x (List.mem_of_mem_drop hx)
/-- A slice of this call's own. -/
def Own (b : Nat) (H : AHeap) (x : AV) (m : Nat) (l : List AV) : Prop :=
  (x = zN ∧ l = []) ∨ ∃ r g off n cap ex ty all, x = .sl r g off m n cap ex ∧ b ≤ r ∧ r < H.next ∧ n ≤ cap ∧ H.get r = .blk g ty all ∧ off + cap * m ≤ all.length ∧ all.all AV.isCell = true ∧ l = (all.drop off).take (n * m)
theorem Own.app {m n k : Nat} {x y : AV} {l new : List AV} (c : Own b H x m l) (hb : H.base ≤ b) (hm : 0 < m) (hl : l.length = n * m) (hy : SliceIs H y m k new) (hc : new.all AV.isCell = true) {e : TypeId} {by_ : Nat} (h1 : n + k ≤ most) (h2 : (n + k) * by_ ≤ most) :
    ∃ x' H1, app e m by_ x y H = some (x', H1) ∧ Fit H H1 x x' m (l ++ new) ∧ H.next ≤ H1.next ∧ H1.base = H.base ∧ ∀ r, r < H.next → nameOf x ≠ some r → H1.get r = H.get r := by
  obtain ⟨c1, c2⟩ := hy.cells_
  have c3 := hy.1
  have key : Go.Proofs.YtlcdejlbmnjlaaaGreat.app e m by_ x y H = appendCells e m by_ x k new H := by simp only [Go.Proofs.YtlcdejlbmnjlaaaGreat.app, c1, c2]
  rw [key]
  unfold appendCells
  rw [if_pos ⟨c3, hc⟩]
  rcases c with ⟨rfl, rfl⟩ | ⟨r, gg, off, n', cap, ex, ty, all, rfl, k2, k3, k4, k5, k6, k7, rfl⟩
  · simp only [List.length_nil] at hl
    have hn : n = 0 := by rcases Nat.mul_eq_zero.1 hl.symm with h | h <;> omega
    subst hn
    rw [Nat.zero_add] at h1 h2
    by_cases hk : k = 0
    · subst hk
      rw [Nat.zero_mul] at c3
      have : new = [] := List.eq_nil_of_length_eq_zero c3
      subst this
      exact ⟨zN, H, by simp only [if_true], .inl ⟨rfl, rfl⟩, Nat.le_refl _, rfl, fun _ _ _ => rfl⟩
    · refine ⟨.sl H.next 0 0 m k k false, H.new (.blk 0 e new), by simp only [hk, h1, h2, and_self, if_true, if_false], .inr ⟨H.next, 0, 0, k, k, false, e, new, rfl, .inr (Nat.le_refl _), by rw [next_new]; omega, Nat.le_refl _, by simp [get_new], by omega, hc, ?_⟩, Nat.le_succ _, rfl, fun r hr _ => by rw [get_new, if_neg (by omega)]⟩
      rw [List.nil_append, List.drop_zero, List.take_of_length_le (by omega)]
  · have hcm : n' * m ≤ cap * m := Nat.mul_le_mul_right _ k4
    rw [List.length_take, List.length_drop, Nat.min_eq_left (by omega)] at hl
    have hn : n' = n := Nat.eq_of_mul_eq_mul_right hm hl
    subst hn
    simp only [k5]
    rw [if_pos ⟨trivial, trivial, by omega⟩]
    by_cases hk : k = 0
    · subst hk
      rw [Nat.zero_mul] at c3
      have : new = [] := List.eq_nil_of_length_eq_zero c3
      subst this
      exact ⟨_, H, by rw [if_pos rfl], .inr ⟨r, gg, off, n', cap, ex, ty, all, rfl, .inl rfl, k3, k4, k5, k6, k7, by rw [List.append_nil]⟩, Nat.le_refl _, rfl, fun _ _ _ => rfl⟩
    · rw [if_neg hk]
      by_cases hf : n' + k ≤ cap
      · have hfm : (n' + k) * m ≤ cap * m := Nat.mul_le_mul_right _ hf
        rw [if_pos hf, if_pos ⟨by omega, by omega⟩]
        refine ⟨_, _, rfl, .inr ⟨r, gg, off, n' + k, cap, ex, ty, setAt all (off + n' * m) new, rfl, .inl rfl, k3, hf, by rw [get_put, if_pos rfl], ?_, all_setAt k7 hc _, ?_⟩, Nat.le_refl _, rfl, fun r' hr hne => ?_⟩
        · rw [Nat.add_mul] at hfm; rw [setA_length (by omega)]; exact k6
        · rw [Nat.add_mul] at hfm ⊢; rw [← c3, drop_take_setAt (by omega)]
        · rw [get_put, if_neg]; intro e'; subst e'; exact hne rfl
      · rw [if_neg hf, if_pos ⟨h1, h2⟩]
        have e1 : ((all.drop off).take (n' * m)).length = n' * m := by rw [List.length_take, List.length_drop]; omega
        have e2 : ((all.drop off).take (n' * m) ++ new).length = (n' + k) * m := by rw [List.length_append, e1, c3, Nat.add_mul]
        cases ex with
        | true =>
          simp only [if_true]
          refine ⟨_, _, rfl, .inr ⟨H.next, 0, 0, n' + k, n' + k, false, e, (all.drop off).take (n' * m) ++ new, rfl, .inr (Nat.le_refl _), by rw [next_new]; omega, Nat.le_refl _, by simp only [get_new, if_true], by rw [e2, Nat.zero_add]; exact Nat.le_refl _, all_append (all_take (all_drop k7 _) _) hc, ?_⟩, Nat.le_succ _, rfl, fun r' hr _ => by rw [get_new, if_neg (by omega)]⟩
          rw [List.drop_zero, List.take_of_length_le (Nat.le_of_eq e2)]
        | false =>
          simp only [Bool.false_eq_true, if_false]
          rw [if_pos (by omega)]
          refine ⟨_, _, rfl, .inr ⟨r, gg + 1, 0, n' + k, n' + k, false, e, (all.drop off).take (n' * m) ++ new, rfl, .inl rfl, k3, Nat.le_refl _, by simp only [get_put, if_true], by rw [e2, Nat.zero_add]; exact Nat.le_refl _, all_append (all_take (all_drop k7 _) _) hc, ?_⟩, Nat.le_refl _, rfl, fun r' hr hne => ?_⟩
          · rw [List.drop_zero, List.take_of_length_le (Nat.le_of_eq e2)]
          · rw [get_put, if_neg]; intro e'; subst e'; exact hne rfl
theorem Cur.toOwn {i m : Nat} {x : AV} {l : List AV} (c : Cur b H q i x m l) : Own b H x m l := by
  rcases c.own with h | ⟨r, gg, off, n', cap, ex, ty, all, k0, k1, k2⟩
  · exact .inl h
  · exact .inr ⟨r, gg, off, n', cap, ex, ty, all, k0, k2⟩
theorem Cur.app {i m n k : Nat} {x y : AV} {l new : List AV} (c : Cur b H q i x m l) (hb : H.base ≤ b) (hm : 0 < m) (hl : l.length = n * m) (hy : SliceIs H y m k new) (hc : new.all AV.isCell = true) {e : TypeId} {by_ : Nat} (h1 : n + k ≤ most) (h2 : (n + k) * by_ ≤ most) :
    ∃ x' H1, app e m by_ x y H = some (x', H1) ∧ Fit H H1 x x' m (l ++ new) ∧ H.next ≤ H1.next ∧ H1.base = H.base ∧ ∀ r, r < H.next → nameOf x ≠ some r → H1.get r = H.get r :=
  c.toOwn.app hb hm hl hy hc h1 h2
/-- The slice goes on as this call's own. -/
theorem Own.step {m n k : Nat} {x y : AV} {l new : List AV} (c : Own b H x m l) (hbn : b ≤ H.next) (hb : H.base ≤ b) (hm : 0 < m) (hl : l.length = n * m) (hy : SliceIs H y m k new) (hc : new.all AV.isCell = true) {e : TypeId} {by_ : Nat} (h1 : n + k ≤ most) (h2 : (n + k) * by_ ≤ most) :
    ∃ x' H1, Go.Proofs.YtlcdejlbmnjlaaaGreat.app e m by_ x y H = some (x', H1) ∧ Own b H1 x' m (l ++ new) ∧ Step b H H1 := by
  obtain ⟨x', H1, e1, f, n1, b1, k1⟩ := c.app hb hm hl hy hc (e := e) (by_ := by_) h1 h2
  have hx : ∀ r, nameOf x = some r → b ≤ r := fun r hr => by
    rcases c with ⟨rfl, _⟩ | ⟨r', g, off, n', cap, ex, ty, all, rfl, k2, _⟩
    · cases hr
    · simp only [nameOf, Option.some.injEq] at hr; omega
  refine ⟨x', H1, e1, ?_, b1, n1, fun r hr => k1 r (by omega) fun e => by have := hx r e; omega⟩
  rcases f with f | ⟨r, g, off, n', cap, ex, ty, all, rfl, f1, f2⟩
  · exact .inl f
  · exact .inr ⟨r, g, off, n', cap, ex, ty, all, rfl, f1.elim (hx r) fun f1 => by omega, f2⟩
theorem Own.is {m n : Nat} {x : AV} {l : List AV} (c : Own b H x m l) (hm : 0 < m) (hl : l.length = n * m) : SliceIs H x m n l := by
  refine ⟨hl, ?_⟩
  rcases c with ⟨rfl, rfl⟩ | ⟨r, g, off, n', cap, ex, ty, all, rfl, k2, k3, k4, k5, k6, k7, rfl⟩
  · refine ⟨rfl, rfl, ?_⟩
    simp only [List.length_nil] at hl
    rcases Nat.mul_eq_zero.1 hl.symm with h | h <;> omega
  · have hcm : n' * m ≤ cap * m := Nat.mul_le_mul_right _ k4
    rw [List.length_take, List.length_drop, Nat.min_eq_left (by omega)] at hl
    have hn : n' = n := Nat.eq_of_mul_eq_mul_right hm hl
    subst hn
    exact ⟨rfl, rfl, ⟨k3, k4⟩, ty, all, k5, by omega, rfl⟩
theorem Own.ext {m : Nat} {x : AV} {l : List AV} (c : Own b H x m l) (hn : H.next ≤ H'.next) (hg : ∀ r, r < H.next → H'.get r = H.get r) : Own b H' x m l := by
  rcases c with h | ⟨r, g, off, n, cap, ex, ty, all, k0, k2, k3, k4, k5, k6⟩
  · exact .inl h
  · exact .inr ⟨r, g, off, n, cap, ex, ty, all, k0, k2, by omega, k4, by rw [hg r k3]; exact k5, k6⟩
theorem Own.new {m : Nat} {x : AV} {l : List AV} (c : Own b H x m l) (o : AObj) : Own b (H.new o) x m l := c.ext (Nat.le_succ _) fun r hr => by rw [get_new, if_neg (by omega)]
/-- x.f = append(x.f, y..). -/
theorem Good.append (G : Good b H g) (hb : H.base ≤ b) (h : g q = some cs) {i m n k : Nat} {l new : List AV} (hi : cs[i]? = some (.seq m l)) (hm : 0 < m) (hl : l.length = n * m) {x y : AV} (c : Cur b H q i x m l) (hy : SliceIs H y m k new) (hc : new.all AV.isCell = true) {e : TypeId} {by_ : Nat} (h1 : n + k ≤ most) (h2 : (n + k) * by_ ≤ most) :
    ∃ x' H1 H2, app e m by_ x y H = some (x', H1) ∧ st 1 (.ref q 0 i) x' H1 = some (undefA, H2) ∧ Good b H2 (upd g q (cs.set i (.seq m (l ++ new)))) ∧ Step b H H2 := by
  obtain ⟨x', H1, e1, f, n1, b1, k1⟩ := c.app hb hm hl hy hc (e := e) (by_ := by_) h1 h2
  obtain ⟨H2, e2, G2, b2, n2⟩ := G.seat h hi c n1 (by omega) k1 f
  have hb0 := G.1
  exact ⟨x', H1, H2, e1, e2, G2, Step.trans ⟨b1, n1, fun r hr => k1 r (by omega) (c.low hr)⟩ b2⟩
theorem Good.map (G : Good b H g) (h : g q = some cs) {i : Nat} {k : IntKind} {es : List (Int × AV)} (hi : cs[i]? = some (.map k es)) :
    ∃ r, ld (.ref q 0 i) H = some (.mp r, H) ∧ (∀ z n ok, lk k z (.mp r) (.s (.int k n)) ok H = some ((match findE es n with
      | some v => if ok then .tup [v, .s (.bool true)] else v
      | none => if ok then .tup [.s z, .s (.bool false)] else .s z), H)) ∧ lnM (.mp r) H = some (I es.length, H) ∧ (H.base ≤ b →
      (∀ n v, ∃ H', mup k (.mp r) (.s (.int k n)) v H = some (undefA, H') ∧ Good b H' (upd g q (cs.set i (.map k (putE es n v)))) ∧ Step b H H' ∧ H'.next = H.next) ∧
      (∀ n, ∃ H', del k (.mp r) (.s (.int k n)) H = some (.tup [], H') ∧ Good b H' (upd g q (cs.set i (.map k (dropE es n)))) ∧ Step b H H' ∧ H'.next = H.next)) := by
  obtain ⟨h0, τ, hR⟩ := G
  have R := hR q cs h
  obtain ⟨ty, xs, h1, h2, h3, h4⟩ := R.blk
  have hlt : i < xs.length := by rw [h2]; exact (List.getElem?_eq_some_iff.1 hi).1
  have hx : xs[i]? = some (xs[i]'hlt) := List.getElem?_eq_getElem hlt
  have := h4 i _ _ hi hx
  simp only [CR] at this
  obtain ⟨r, e, t1, t2, t3, t4⟩ := this
  rw [e] at hx
  have hrq : q ≠ r := by intro e; subst e; rw [R.tag] at t1; cases t1
  have put : ∀ es', Good b (H.put r (.map k es')) (upd g q (cs.set i (.map k es'))) := by
    intro es'
    refine good_upd (τ' := τ) h0 hR (Nat.le_refl _) (fun r' hr ht => ⟨rfl, ?_⟩) ⟨R.tag, R.lo, R.hi, ty, xs, by rw [get_put, if_neg hrq]; exact h1, by simp [h2], h3, fun j c y hc hy => ?_⟩
    · rw [get_put, if_neg]; intro e; subst e; exact ht _ _ _ t1
    · rcases set_cases hc with ⟨rfl, rfl⟩ | ⟨hj, hc⟩
      · rw [hx] at hy; cases hy
        exact ⟨r, rfl, t1, t2, t3, by rw [get_put, if_pos rfl]⟩
      · refine (h4 j c y hc hy).keep (Nat.le_refl _) fun r' s t hr ht => ⟨ht, ?_⟩
        rw [get_put, if_neg]; intro e; subst e
        rw [t1] at ht
        simp only [Option.some.injEq, Prod.mk.injEq, Nat.add_right_cancel_iff] at ht
        exact hj ht.2.1.symm
  refine ⟨r, by rw [ld_blk h1, hx]; rfl, fun z n ok => ?_, ?_, fun hb => ⟨fun n v => ⟨H.put r (.map k (putE es n v)), ?_, put _, Step.put _ t2, rfl⟩, fun n => ⟨H.put r (.map k (dropE es n)), ?_, put _, Step.put _ t2, rfl⟩⟩⟩
  · simp only [lk, lookB, watchV, Option.map_some, lkO, t4, and_self, if_true]
    cases findE es n <;> rfl
  · simp only [lnM, lookB, watchV, Option.map_some, lnMO, t4]
  · simp only [mup, t4]
    rw [if_pos ⟨trivial, trivial, by omega⟩]
  · simp only [del, t4]
    rw [if_pos ⟨trivial, trivial, by omega⟩]
end

end Go.Proofs.YtlcdejlbmnjlaaaGreat

namespace Go.Proofs.YtlcdejlbmnjlaaaGreat

section
variable {β : Type} {x : Option (AV × AHeap)} {H : AHeap} {k : AV → AHeap → Option β}
theorem gd_tt : gdA (some (.s (.bool true))) true x H k = bnd x k := rfl
theorem gd_tf : gdA (some (.s (.bool true))) false x H k = k undefA H := rfl
theorem gd_ft : gdA (some (.s (.bool false))) true x H k = k undefA H := rfl
theorem gd_ff : gdA (some (.s (.bool false))) false x H k = bnd x k := rfl
theorem pk_t {a b : AV} : pickA (.s (.bool true)) a b = some a := rfl
theorem pk_f {a b : AV} : pickA (.s (.bool false)) a b = some b := rfl
end
theorem nil_ref {r g o : Nat} : nilCheckA (.ref r g o) = some (.ref r g o) := rfl
theorem nil_ip {l : List AV} : nilCheckA (.ip l) = some (.ip l) := rfl
theorem nil_fn {f : FuncId} {a c : List AV} : nilCheckA (.fn (.func f) a c) = some (.fn (.func f) a c) := rfl
theorem ex_tup {l : List AV} {i : Nat} : extractA (.tup l) i = l[i]? := rfl
theorem fl_agg {l : List AV} {o : Nat} : fl (.agg l) o = l[o]? := rfl
theorem ld_ref {r g off : Nat} {H : AHeap} : ld (.ref r g off) H = match H.get r with
    | .blk g' _ cells => if g' = g then (cells[off]?).map fun v => (v, H) else none
    | .map .. => none := by
  simp only [ld, lookB, watchV, Option.map_some, ldO]
  cases H.get r with
  | map k es => rfl
  | blk g' ty cells => simp only; split <;> rfl
theorem lda_ref {r g off n : Nat} {H : AHeap} : lda n (.ref r g off) H = match H.get r with
    | .blk g' _ cells => if g' = g then (if off + n ≤ cells.length then some (.agg ((cells.drop off).take n), H) else none) else none
    | .map .. => none := by
  simp only [lda, lookB, watchV, Option.map_some, ldaO]
  cases H.get r with
  | map k es => rfl
  | blk g' ty cells =>
    simp only
    split
    · split <;> rfl
    · rfl
theorem box_agg {t : TypeId} {l : List AV} {H : AHeap} (h : l.all AV.isCell = true) : boxA t (.agg l) H = some (.ref H.next 0 0, H.new (.blk 0 t l)) := box_eq h
theorem alc_eq {t : TypeId} {z : List AV} {H : AHeap} : alc t z H = some (.ref H.next 0 0, H.new (.blk 0 t z)) := rfl
theorem mkm_eq {k : IntKind} {H : AHeap} : mkm k H = some (.mp H.next, H.new (.map k [])) := rfl
theorem leS {a b : Nat} (h : a ≤ b) : a ≤ b + 1 := by omega
theorem ltS {a b : Nat} (h : a < b) : a < b + 1 := by omega
theorem nNew {H : AHeap} {o : AObj} : (H.new o).next = H.next + 1 := Eq.trans rfl rfl
theorem nPut {H : AHeap} {r : Nat} {o : AObj} : (H.put r o).next = H.next := Eq.trans rfl rfl
theorem bNew {H : AHeap} {o : AObj} : (H.new o).base = H.base := Eq.trans rfl rfl
theorem bPut {H : AHeap} {r : Nat} {o : AObj} : (H.put r o).base = H.base := Eq.trans rfl rfl
theorem nGrd {H : AHeap} : H.guard.next = H.next := Eq.trans rfl rfl
theorem bGrd {H : AHeap} : H.guard.base = H.next := Eq.trans rfl rfl
theorem gGrd {H : AHeap} : H.guard.get = H.get := Eq.trans rfl rfl
theorem getNew_eq {H : AHeap} {o : AObj} : (H.new o).get H.next = o := by rw [get_new, if_pos rfl]
theorem getNew_is {H : AHeap} {o : AObj} {r : Nat} (h : r = H.next) : (H.new o).get r = o := by rw [get_new, if_pos h]
theorem getNew_lt {H : AHeap} {o : AObj} {r : Nat} (h : r < H.next) : (H.new o).get r = H.get r := by rw [get_new, if_neg (by omega)]
theorem getPut_eq {H : AHeap} {o : AObj} {r : Nat} : (H.put r o).get r = o := by rw [get_put, if_pos rfl]
theorem getPut_ne {H : AHeap} {o : AObj} {r r' : Nat} (h : r ≠ r') : (H.put r' o).get r = H.get r := by rw [get_put, if_neg h]
theorem st_ref' {n r off : Nat} {v : AV} {H : AHeap} : st n (.ref r 0 off) v H = match H.get r with
    | .blk g' ty cells => if g' = 0 ∧ H.base ≤ r ∧ n = v.cells.length ∧ v.cells.all AV.isCell = true ∧ off + v.cells.length ≤ cells.length then some (undefA, H.put r (.blk 0 ty (setAt cells off v.cells))) else none
    | .map .. => none := by
  unfold st
  simp only [Option.some.injEq]
  cases H.get r <;> rfl
theorem ldN_is {H : AHeap} {r off : Nat} {ty : TypeId} {cells : List AV} (h : r = H.next) : ld (.ref r 0 off) (H.new (.blk 0 ty cells)) = (cells[off]?).map fun v => (v, H.new (.blk 0 ty cells)) := ld_blk (getNew_is h)
theorem ldaN_is {H : AHeap} {r off n : Nat} {ty : TypeId} {cells : List AV} (h : r = H.next) : lda n (.ref r 0 off) (H.new (.blk 0 ty cells)) = if off + n ≤ cells.length then some (.agg ((cells.drop off).take n), H.new (.blk 0 ty cells)) else none := by
  split
  · rename_i hl; exact lda_blk (getNew_is h) hl
  · rename_i hl; rw [lda_ref, getNew_is h]; simp only [if_true, hl, if_false]
theorem ldN_lt {H : AHeap} {r off : Nat} {o : AObj} (h : r < H.next) : ld (.ref r 0 off) (H.new o) = (ld (.ref r 0 off) H).map fun p => (p.1, H.new o) := by
  rw [ld_ref, ld_ref, getNew_lt h]
  cases H.get r with
  | map k es => rfl
  | blk g ty cells => simp only; split <;> first | rfl | (cases cells[off]? <;> rfl)
theorem ldaN_lt {H : AHeap} {r off n : Nat} {o : AObj} (h : r < H.next) : lda n (.ref r 0 off) (H.new o) = (lda n (.ref r 0 off) H).map fun p => (p.1, H.new o) := by
  rw [lda_ref, lda_ref, getNew_lt h]
  cases H.get r with
  | map k es => rfl
  | blk g ty cells => simp only; split <;> first | rfl | (split <;> rfl)
theorem put_new {H : AHeap} {a b : AObj} : (H.new a).put H.next b = H.new b := by
  unfold AHeap.put AHeap.new
  simp only
  congr 1
  funext x
  split <;> rfl
theorem put_lt {H : AHeap} {r : Nat} {a b : AObj} (h : r < H.next) : (H.new a).put r b = (H.put r b).new a := by
  unfold AHeap.put AHeap.new
  simp only
  congr 1
  funext x
  split <;> split <;> first | rfl | (exfalso; omega)
theorem stN_is {n : Nat} {H : AHeap} {r off : Nat} {v : AV} {ty : TypeId} {cells : List AV} (h : r = H.next) : st n (.ref r 0 off) v (H.new (.blk 0 ty cells)) = if H.base ≤ r ∧ n = v.cells.length ∧ v.cells.all AV.isCell = true ∧ off + v.cells.length ≤ cells.length then some (undefA, H.new (.blk 0 ty (setAt cells off v.cells))) else none := by
  subst h
  rw [st_ref', getNew_is rfl]
  simp only [true_and, bNew, put_new]
theorem stN_lt {n : Nat} {H : AHeap} {r off : Nat} {v : AV} {o : AObj} (h : r < H.next) : st n (.ref r 0 off) v (H.new o) = (st n (.ref r 0 off) v H).map fun p => (p.1, p.2.new o) := by
  rw [st_ref', st_ref', getNew_lt h]
  cases H.get r with
  | map k es => rfl
  | blk g ty cells =>
    simp only [bNew]
    split
    · simp only [Option.map_some, put_lt h]
    · rfl
/-- A block of this call is written. -/
theorem st_new {r off n : Nat} {v : AV} {ty : TypeId} {xs : List AV} {H : AHeap} (h : H.get r = .blk 0 ty xs) (hb : H.base ≤ r) (hv : v.cells.all AV.isCell = true) (hn : v.cells.length = n) (hl : off + n ≤ xs.length) : st n (.ref r 0 off) v H = some (undefA, H.put r (.blk 0 ty (setAt xs off v.cells))) := by
  show (match H.get r with
    | .blk g' ty cells => if g' = 0 ∧ H.base ≤ r ∧ some n = some v.cells.length ∧ v.cells.all AV.isCell = true ∧ off + v.cells.length ≤ cells.length then some (undefA, H.put r (.blk 0 ty (setAt cells off v.cells))) else none
    | .map .. => none) = _
  rw [h]
  simp only
  rw [if_pos ⟨trivial, hb, by rw [hn], hv, by omega⟩]
theorem fillA_nil {pl : Nat → Option (Nat × Nat)} {z : List AV} : fillA pl z [] = some z := rfl
theorem bsl_nil {e m : Nat} {z : List AV} {H : AHeap} : bsl e m z 0 [] H = some (.sl H.next 0 0 m 0 0 true, H.new (.blk 0 e [])) := rfl
theorem bsl_one {e m : Nat} {z : List AV} {v : AV} {H : AHeap} (hz : z.length = m) (hv : v.cells.length = m) (hc : v.cells.all AV.isCell = true) : bsl e m z 1 [(0, v)] H = some (.sl H.next 0 0 m 1 1 true, H.new (.blk 0 e v.cells)) := by
  have h1 : (zerosL z 1).length = m := by simp [zerosL, hz]
  unfold bsl
  rw [fillA]
  simp only [Nat.zero_mul, hv, h1, Nat.zero_add, Nat.le_refl, and_self, if_true, fillA]
  have : setAt (zerosL z 1) 0 v.cells = v.cells := by
    simp only [setAt, List.take_zero, List.nil_append, Nat.zero_add]
    rw [List.drop_of_length_le (by omega), List.append_nil]
  rw [this, if_pos hc]
theorem sl_new {e m n : Nat} {l : List AV} {H : AHeap} {ex : Bool} (h : l.length = n * m) : SliceIs (H.new (.blk 0 e l)) (.sl H.next 0 0 m n n ex) m n l :=
  ⟨h, rfl, rfl, ⟨by rw [nNew]; omega, Nat.le_refl _⟩, e, l, by simp [get_new], by omega, by rw [List.drop_zero, List.take_of_length_le (by omega)]⟩
theorem app_empty {e m by_ r n ty : Nat} {y : AV} {cells : List AV} {H : AHeap} (hx : H.get r = .blk 0 ty []) (hy : SliceIs H y m n cells) (hc : cells.all AV.isCell = true) (hn : n ≠ 0) (h1 : n ≤ most) (h2 : n * by_ ≤ most) :
    app e m by_ (.sl r 0 0 m 0 0 true) y H = some (.sl H.next 0 0 m n n false, H.new (.blk 0 e cells)) := by
  obtain ⟨c1, c2⟩ := hy.cells_
  simp only [app, c1, c2]
  unfold appendCells
  rw [if_pos ⟨hy.1, hc⟩]
  simp only [hx]
  rw [if_pos ⟨trivial, trivial, by simp⟩, if_neg hn, if_neg (by omega), if_pos ⟨by omega, by rw [Nat.zero_add]; exact h2⟩]
  simp
theorem app_nil {e m by_ n : Nat} {y : AV} {cells : List AV} {H : AHeap} (hy : SliceIs H y m n cells) (hc : cells.all AV.isCell = true) (hn : n ≠ 0) (h1 : n ≤ most) (h2 : n * by_ ≤ most) :
    app e m by_ zN y H = some (.sl H.next 0 0 m n n false, H.new (.blk 0 e cells)) := by
  obtain ⟨c1, c2⟩ := hy.cells_
  simp only [app, c1, c2]
  unfold appendCells
  rw [if_pos ⟨hy.1, hc⟩]
  simp only
  rw [if_neg hn, if_pos ⟨h1, h2⟩]
theorem eql_nil_vs {P : Program} {t e : TypeId} {n m : Nat} {l : List AV} (h : P.underlying t = some (.slice e)) : binA P .eql t (.vs n m l) (.s (.slice none 0 0)) = some (B false) := by
  simp [binA, AV.val?, nilEq, h]
theorem eql_nil_sl {P : Program} {t e : TypeId} {r g o m n c : Nat} {ex : Bool} (h : P.underlying t = some (.slice e)) : binA P .eql t (.sl r g o m n c ex) (.s (.slice none 0 0)) = some (B false) := by
  simp [binA, AV.val?, nilEq, h]
theorem callA_fun {P : Program} {C : Callee} {f : FuncId} {a c args : List AV} {H : AHeap} (h : enterable P f = true) : callA P C (.fn (.func f) a c) args H = C f (a ++ args ++ c) H := callA_fn h
theorem wrap_i64 {a : Int} (h1 : -9223372036854775808 ≤ a) (h2 : a ≤ 9223372036854775807) : IntKind.wrap .i64 a = a := wrap64 h1 h2

end Go.Proofs.YtlcdejlbmnjlaaaGreat

namespace Go.Proofs.YtlcdejlbmnjlaaaGreat

def SubS (g g' : Store) : Prop := ∀ q cs, g q = some cs → g' q = some cs
theorem SubS.refl (g : Store) : SubS g g := fun _ _ h => h
theorem SubS.more {g g' : Store} (h : SubS g g') {n : Nat} (hn : g n = none) (c : List Cell) : SubS g (upd g' n c) := fun q cs hq => by
  rw [upd_ne (fun e => by rw [e, hn] at hq; cases hq)]; exact h q cs hq
section
variable {b : Nat} {H H' : AHeap} {g : Store} {q : Nat} {cs : List Cell}
theorem Cur.length {i m n : Nat} {x : AV} {l : List AV} (c : Cur b H q i x m l) (hm : 0 < m) (hl : l.length = n * m) : (x = zN ∧ n = 0) ∨ ∃ r g off cap ex ty all, x = .sl r g off m n cap ex ∧ r ≠ q ∧ b ≤ r ∧ r < H.next ∧ n ≤ cap ∧ H.get r = .blk g ty all ∧ off + cap * m ≤ all.length ∧ all.all AV.isCell = true ∧ l = (all.drop off).take (n * m) := by
  rcases c.own with ⟨rfl, rfl⟩ | ⟨r, g, off, n', cap, ex, ty, all, rfl, k1, k2, k3, k4, k5, k6, k7, rfl⟩
  · left
    simp only [List.length_nil] at hl
    refine ⟨rfl, ?_⟩
    rcases Nat.mul_eq_zero.1 hl.symm with h | h <;> omega
  · right
    have h1 : n' * m ≤ cap * m := Nat.mul_le_mul_right _ k4
    rw [List.length_take, List.length_drop, Nat.min_eq_left (by omega)] at hl
    have : n' = n := Nat.eq_of_mul_eq_mul_right hm hl
    subst this
    exact ⟨r, g, off, cap, ex, ty, all, rfl, k1, k2, k3, k4, k5, k6, k7, rfl⟩
theorem slS_to {r gg off m len cap : Nat} {ex : Bool} {k2 : IntKind} {hi : Int} (h0 : 0 ≤ hi) (h2 : hi ≤ cap) : slS m (.sl r gg off m len cap ex) none (some (.s (.int k2 hi))) none = some (.sl r gg off m hi.toNat cap ex) := by
  simp only [slS, boundA, h0, if_true, isNone, Bool.not_true, Bool.or_false]
  rw [if_pos ⟨trivial, by omega, by omega, by omega, by simp⟩]
  simp
theorem slS_from {r gg off m len cap : Nat} {ex : Bool} {k1 : IntKind} {lo : Int} (h0 : 0 ≤ lo) (h1 : lo ≤ len) (h2 : len ≤ cap) : slS m (.sl r gg off m len cap ex) (some (.s (.int k1 lo))) none none = some (.sl r gg (off + lo.toNat * m) m (len - lo.toNat) (cap - lo.toNat) ex) := by
  simp only [slS, boundA, h0, if_true, isNone, Bool.not_true, Bool.or_false]
  rw [if_pos ⟨trivial, by omega, by omega, by omega, by simp⟩]
theorem zerosL_all {z : List AV} (h : z.all AV.isCell = true) : ∀ n, (zerosL z n).all AV.isCell = true
  | 0 => rfl
  | n + 1 => by rw [zerosL, List.all_append, h, zerosL_all h n]; rfl
theorem mks_eq {e m by_ : Nat} {z : List AV} {n : Int} {H : AHeap} (hz : z.length = m) (hc : z.all AV.isCell = true) (h0 : 0 ≤ n) (h1 : n ≤ 1000000) (hb : by_ ≤ 1000) : mks e m by_ z (I n) (I n) H = some (.sl H.next 0 0 m n.toNat n.toNat true, H.new (.blk 0 e (zerosL z n.toNat))) := by
  have h3 : (by_ : Int) * n ≤ 140737488355328 := by
    have : (by_ : Int) * n ≤ 1000 * 1000000 := Int.mul_le_mul (by omega) h1 h0 (by omega)
    omega
  simp only [mks]
  rw [if_pos ⟨hz, hc, h0, Int.le_refl _, by omega, h3⟩]
theorem zerosL_one {v : AV} : ∀ n, zerosL [v] n = List.replicate n v
  | 0 => rfl
  | n + 1 => by rw [zerosL, zerosL_one n]; rfl
/-- x[lo:] -/
theorem SliceIs.from_ {x : AV} {m n : Nat} {cells : List AV} (h : SliceIs H x m n cells) {k : IntKind} {lo : Int} (h0 : 0 ≤ lo) (h1 : lo ≤ n) : ∃ y, slS m x (some (.s (.int k lo))) none none = some y ∧ SliceIs H y m (n - lo.toNat) (cells.drop (lo.toNat * m)) := by
  obtain ⟨hl, h⟩ := h
  have hlm : lo.toNat * m ≤ n * m := Nat.mul_le_mul_right _ (by omega)
  have hsub : (n - lo.toNat) * m = n * m - lo.toNat * m := Nat.sub_mul n lo.toNat m
  cases x with
  | sl r g off esz len cap ex =>
    obtain ⟨rfl, rfl, ⟨hr, hc⟩, ty, all, h2, h3, h4⟩ := h
    refine ⟨_, slS_from h0 h1 hc, by rw [List.length_drop, hl, hsub], rfl, rfl, ⟨hr, by omega⟩, ty, all, h2, by rw [hsub]; omega, ?_⟩
    rw [h4, List.drop_take, List.drop_drop, hsub]
  | vs k' esz cs =>
    obtain ⟨rfl, rfl, rfl⟩ := h
    refine ⟨.vs (k' - lo.toNat) esz ((cs.drop (lo.toNat * esz)).take ((k' - lo.toNat) * esz)), ?_, by rw [List.length_drop, hl, hsub], rfl, rfl, ?_⟩
    · simp only [slS, boundA, h0, if_true]
      rw [if_pos ⟨trivial, by omega, by omega⟩]
    · rw [List.take_of_length_le (by rw [List.length_drop, hl, hsub]; exact Nat.le_refl _)]
  | s v =>
    cases v with
    | slice a b c =>
      cases a with
      | none =>
        obtain ⟨rfl, rfl, rfl⟩ := h
        have h3 : lo = 0 := by omega
        subst h3
        refine ⟨zN, by simp [slS, boundA], ?_, rfl, rfl, rfl⟩
        simpa using hl
      | some a => exact h.elim
    | _ => exact h.elim
  | _ => exact h.elim
/-- copy into a block that may be written. -/
theorem cpy_eq {r g off m len cap ty n : Nat} {ex : Bool} {cells new : List AV} {y : AV} (hx : H.get r = .blk g ty cells) (hb : H.base ≤ r) (hl : off + len * m ≤ cells.length) (hy : SliceIs H y m n new) (hc : new.all AV.isCell = true) :
    ∃ H', cpy m (.sl r g off m len cap ex) y H = some (I ((min n len : Nat) : Int), H') ∧ H'.get r = .blk g ty (setAt cells off (new.take (min n len * m))) ∧ (∀ r', r' ≠ r → H'.get r' = H.get r') ∧ H'.next = H.next ∧ H'.base = H.base := by
  obtain ⟨c1, c2⟩ := hy.cells_
  have c3 := hy.1
  have s1 : sliceLen (AV.sl r g off m len cap ex) = some len := rfl
  simp only [cpy, s1, c1, c2]
  rw [if_pos ⟨c3, hc⟩]
  by_cases hk : min n len = 0
  · refine ⟨H, by rw [if_pos hk, hk]; rfl, ?_, fun _ _ => rfl, rfl, rfl⟩
    rw [hx, hk, Nat.zero_mul, List.take_zero]
    simp only [setAt, List.nil_append, List.length_nil, Nat.add_zero, List.take_append_drop]
  · rw [if_neg hk]
    simp only [hx]
    rw [if_pos ⟨trivial, trivial, hb, hl⟩]
    exact ⟨_, rfl, by rw [get_put, if_pos rfl], fun r' hr => by rw [get_put, if_neg hr], rfl, rfl⟩
end

end Go.Proofs.YtlcdejlbmnjlaaaGreat

namespace Go.Proofs.YtlcdejlbmnjlaaaGreat

structure Cfg where
  nodes : Int
  lines : Int
  words : Int
  sets : Int
  ways : Int
  out : Int
  inn : Int
  init : List Int
structure Pkt where
  kind : Int
  src : Int
  dst : Int
  id : Int
  line : Int
  ptr : Int
  state : Int
  flag : Bool
  data : List Int
  deriving DecidableEq
structure Opn where
  kind : Int
  addr : Int
  value : Int
  deriving DecidableEq
structure Evn where
  node : Int
  index : Int
  done : Bool
  value : Int
  deriving DecidableEq
structure Ent where
  fwd : Int
  back : Int
  line : Int
  used : Int
  dirty : Bool
  data : List Int
  deriving DecidableEq
structure Row where
  state : Int
  head : Int
  data : List Int
  deriving DecidableEq
structure Deal where
  kind : Int
  line : Int
  id : Int
  step : Int
  state : Int
  head : Int
  data : List Int
  next : Int
  told : Int
  deriving DecidableEq
structure Pck where
  deliver : Bool
  at_ : Int
  bit : Int
  mask : Int
/-- A slice that nobody writes any more: nil, or rows of m cells. -/
def vsl {α : Type} (m : Nat) (enc : α → List AV) (l : List α) : AV := if l = [] then zN else .vs l.length m (l.flatMap enc)
def encI (n : Int) : List AV := [I n]
def dat (l : List Int) : AV := vsl 1 encI l
def Cfg.av (c : Cfg) : List AV := [I c.nodes, I c.lines, I c.words, I c.sets, I c.ways, I c.out, I c.inn, dat c.init]
def Pkt.av (p : Pkt) : List AV := [I p.kind, I p.src, I p.dst, I p.id, I p.line, I p.ptr, I p.state, B p.flag, dat p.data]
def Opn.av (o : Opn) : List AV := [I o.kind, I o.addr, I o.value]
def Evn.av (e : Evn) : List AV := [I e.node, I e.index, B e.done, I e.value]
def Ent.av (e : Ent) : List AV := [I e.fwd, I e.back, I e.line, I e.used, B e.dirty, dat e.data]
def Row.av (r : Row) : List AV := [I r.state, I r.head, dat r.data]
def Deal.av (d : Deal) : List AV := [I d.kind, I d.line, I d.id, I d.step, I d.state, I d.head, dat d.data, I d.next, I d.told]
def Pck.av (p : Pck) : List AV := [B p.deliver, I p.at_, I p.bit, .s (.int .u16 p.mask)]
def Pkt.zero : Pkt := ⟨0, 0, 0, 0, 0, 0, 0, false, []⟩
def Opn.zero : Opn := ⟨0, 0, 0⟩
def Ent.zero : Ent := ⟨0, 0, 0, 0, false, []⟩
def Row.zero : Row := ⟨0, 0, []⟩
def Deal.zero : Deal := ⟨0, 0, 0, 0, 0, 0, [], 0, 0⟩
theorem flat_len {α : Type} {enc : α → List AV} {m : Nat} (he : ∀ a, (enc a).length = m) (l : List α) : (l.flatMap enc).length = l.length * m := flat_length he l
theorem vsl_is {α : Type} {enc : α → List AV} {m : Nat} (he : ∀ a, (enc a).length = m) (H : AHeap) (l : List α) : SliceIs H (vsl m enc l) m l.length (l.flatMap enc) := by
  unfold vsl
  split
  · rename_i h; subst h; exact SliceIs.nil
  · exact SliceIs.vs (flat_len he l)
theorem vsl_nil {α : Type} {enc : α → List AV} {m : Nat} : vsl m enc ([] : List α) = zN := by simp [vsl]
theorem vsl_cons {α : Type} {enc : α → List AV} {m : Nat} {l : List α} (h : l ≠ []) : vsl m enc l = .vs l.length m (l.flatMap enc) := by simp [vsl, h]
theorem one_vsl {α : Type} {enc : α → List AV} {m : Nat} {l : List α} : One (vsl m enc l) := by
  unfold vsl; split
  · exact one_nil
  · exact one_vs
theorem one_dat {l : List Int} : One (dat l) := one_vsl
theorem encI_len (n : Int) : (encI n).length = 1 := rfl
theorem flat_encI (l : List Int) : l.flatMap encI = l.map I := by
  induction l with
  | nil => rfl
  | cons a l ih => rw [List.flatMap_cons, ih]; rfl
theorem dat_is (H : AHeap) (l : List Int) : SliceIs H (dat l) 1 l.length (l.map I) := by
  have := vsl_is encI_len H l
  rw [flat_encI] at this; exact this
theorem av_len_pkt (p : Pkt) : p.av.length = 9 := rfl
theorem av_len_opn (p : Opn) : p.av.length = 3 := rfl
theorem av_len_evn (p : Evn) : p.av.length = 4 := rfl
theorem av_len_ent (p : Ent) : p.av.length = 6 := rfl
theorem av_len_row (p : Row) : p.av.length = 3 := rfl
theorem av_len_cfg (p : Cfg) : p.av.length = 8 := rfl
theorem av_len_deal (p : Deal) : p.av.length = 9 := rfl
theorem av_len_pck (p : Pck) : p.av.length = 4 := rfl
theorem tk_cfg (p : Cfg) : p.av.take 8 = p.av := rfl
theorem tk_pkt (p : Pkt) : p.av.take 9 = p.av := rfl
theorem tk_opn (p : Opn) : p.av.take 3 = p.av := rfl
theorem tk_evn (p : Evn) : p.av.take 4 = p.av := rfl
theorem tk_ent (p : Ent) : p.av.take 6 = p.av := rfl
theorem tk_row (p : Row) : p.av.take 3 = p.av := rfl
theorem tk_deal (p : Deal) : p.av.take 9 = p.av := rfl
theorem tk_pck (p : Pck) : p.av.take 4 = p.av := rfl
theorem cells_dat {l : List Int} : (dat l).cells = [dat l] := one_dat.1
theorem isCell_dat {l : List Int} : (dat l).isCell = true := one_dat.2
theorem cells_vsl {α : Type} {enc : α → List AV} {m : Nat} {l : List α} : (vsl m enc l).cells = [vsl m enc l] := one_vsl.1
theorem isCell_vsl {α : Type} {enc : α → List AV} {m : Nat} {l : List α} : (vsl m enc l).isCell = true := one_vsl.2
theorem all_cfg (c : Cfg) : c.av.all AV.isCell = true := by simp [Cfg.av, isCell_int, isCell_dat]
theorem all_pkt (p : Pkt) : p.av.all AV.isCell = true := by simp [Pkt.av, isCell_int, isCell_bool, isCell_dat]
theorem all_opn (p : Opn) : p.av.all AV.isCell = true := by simp [Opn.av, isCell_int]
theorem all_evn (p : Evn) : p.av.all AV.isCell = true := by simp [Evn.av, isCell_int, isCell_bool]
theorem all_ent (p : Ent) : p.av.all AV.isCell = true := by simp [Ent.av, isCell_int, isCell_bool, isCell_dat]
theorem all_row (p : Row) : p.av.all AV.isCell = true := by simp [Row.av, isCell_int, isCell_dat]
theorem all_deal (p : Deal) : p.av.all AV.isCell = true := by simp [Deal.av, isCell_int, isCell_dat]
theorem all_pck (p : Pck) : p.av.all AV.isCell = true := by simp [Pck.av, isCell_int, isCell_bool]
theorem all_flat {α : Type} {enc : α → List AV} (h : ∀ a, (enc a).all AV.isCell = true) (l : List α) : (l.flatMap enc).all AV.isCell = true := by
  rw [List.all_eq_true]
  intro x hx
  obtain ⟨a, _, ha⟩ := List.mem_flatMap.1 hx
  exact List.all_eq_true.1 (h a) x ha
theorem freeze_all {H : AHeap} {n d : Nat} : ∀ (l : List AV), (∀ x ∈ l, freezeA H n d x = some x) → l.mapM (freezeA H n d) = some l
  | [], _ => rfl
  | x :: l, h => by
    rw [List.mapM_cons, freeze_all l fun y hy => h y (by simp [hy]), h x (by simp)]
    rfl
theorem freeze_s {H : AHeap} {n d : Nat} {v : Value} : freezeA H n (d + 1) (.s v) = some (.s v) := by rw [freezeA]
theorem freeze_vs {H : AHeap} {n d k m : Nat} {l : List AV} (h : ∀ x ∈ l, freezeA H n d x = some x) : freezeA H n (d + 1) (.vs k m l) = some (.vs k m l) := by
  rw [freezeA]; simp only [freeze_all l h, Option.map_some]
theorem freeze_agg {H : AHeap} {n d : Nat} {l : List AV} (h : ∀ x ∈ l, freezeA H n d x = some x) : freezeA H n (d + 1) (.agg l) = some (.agg l) := by
  rw [freezeA]; simp only [freeze_all l h, Option.map_some]
theorem freeze_tup {H : AHeap} {n d : Nat} {l : List AV} (h : ∀ x ∈ l, freezeA H n d x = some x) : freezeA H n (d + 1) (.tup l) = some (.tup l) := by
  rw [freezeA]; simp only [freeze_all l h, Option.map_some]
theorem freeze_sl {H : AHeap} {n d r g off esz len cap : Nat} {ex : Bool} {l : List AV} (hr : n ≤ r) {cells : List AV} (hc : sliceCells H (.sl r g off esz len cap ex) = some cells) (hl : cells.mapM (freezeA H n d) = some l) : freezeA H n (d + 1) (.sl r g off esz len cap ex) = some (.vs len esz l) := by
  rw [freezeA]
  simp only [if_neg (Nat.not_lt.2 hr), hc, hl, Option.map_some]
/-- A value of numbers, texts and frozen rows. -/
def Frz (d : Nat) (x : AV) : Prop := ∀ H n, freezeA H n d x = some x
theorem frz_s {v : Value} {d : Nat} : Frz (d + 1) (.s v) := fun _ _ => freeze_s
theorem frz_vs {d k m : Nat} {l : List AV} (h : ∀ x ∈ l, Frz d x) : Frz (d + 1) (.vs k m l) := fun H n => freeze_vs fun x hx => h x hx H n
theorem frz_agg {d : Nat} {l : List AV} (h : ∀ x ∈ l, Frz d x) : Frz (d + 1) (.agg l) := fun H n => freeze_agg fun x hx => h x hx H n
theorem frz_tup {d : Nat} {l : List AV} (h : ∀ x ∈ l, Frz d x) : Frz (d + 1) (.tup l) := fun H n => freeze_tup fun x hx => h x hx H n
theorem frz_vsl {α : Type} {enc : α → List AV} {m d : Nat} {l : List α} (h : ∀ a, ∀ x ∈ enc a, Frz (d + 1) x) : Frz (d + 2) (vsl m enc l) := by
  unfold vsl; split
  · exact frz_s
  · refine frz_vs fun x hx => ?_
    obtain ⟨a, _, ha⟩ := List.mem_flatMap.1 hx
    exact h a x ha
theorem frz_dat {l : List Int} {d : Nat} : Frz (d + 2) (dat l) := frz_vsl fun a x hx => by
  simp only [encI, List.mem_singleton] at hx; subst hx; exact frz_s

end Go.Proofs.YtlcdejlbmnjlaaaGreat

namespace Go.Proofs.YtlcdejlbmnjlaaaGreat

def aget {α : Type} : List (Int × α) → Int → Option α
  | [], _ => none
  | (k, v) :: l, n => if k = n then some v else aget l n
def aput {α : Type} : List (Int × α) → Int → α → List (Int × α)
  | [], n, x => [(n, x)]
  | (k, v) :: l, n, x => if k = n then (n, x) :: l else (k, v) :: aput l n x
section
variable {α : Type} (f : α → AV)
def encM (l : List (Int × α)) : List (Int × AV) := l.map fun e => (e.1, f e.2)
theorem find_enc : ∀ (l : List (Int × α)) (n : Int), findE (encM f l) n = (aget l n).map f
  | [], _ => rfl
  | (k, v) :: l, n => by
    simp only [encM, List.map_cons, findE, aget]
    by_cases h : k = n
    · simp [h]
    · simp only [h, if_false]; exact find_enc l n
theorem put_enc : ∀ (l : List (Int × α)) (n : Int) (x : α), putE (encM f l) n (f x) = encM f (aput l n x)
  | [], _, _ => rfl
  | (k, v) :: l, n, x => by
    simp only [encM, List.map_cons, putE, aput]
    by_cases h : k = n
    · simp [h]
    · simp only [h, if_false, List.map_cons, List.cons.injEq, true_and]; exact put_enc l n x
end
abbrev within (n most : Int) : Bool := decide (1 ≤ n) && decide (n ≤ most)
def Cfg.ok (c : Cfg) : Bool :=
  within c.nodes 6 && within c.lines 8 && within c.words 4 && within c.sets 4 && within c.ways 3 && within c.out 8 && within c.inn 8 && decide ((c.init.length : Int) ≤ c.lines * c.words)
def restOf (line by_ : Int) : Int := if line < 0 then -1 else line % by_
def Cfg.homeOf (c : Cfg) (line : Int) : Int := restOf line c.nodes
def Cfg.addrs (c : Cfg) : Int := c.lines * c.words
def Cfg.lineOf (c : Cfg) (a : Int) : Int := if a < 0 ∨ c.addrs ≤ a then -1 else a / c.words
def Cfg.wordOf (c : Cfg) (a : Int) : Int := if a < 0 ∨ c.addrs ≤ a then 0 else a % c.words
def Cfg.first (c : Cfg) (line : Int) : List Int :=
  if line < 0 ∨ c.lines ≤ line then [] else (List.range c.words.toNat).map fun i => c.init.getD ((line * c.words).toNat + i) 0
def Cfg.right (c : Cfg) (o : Opn) : Bool := decide (1 ≤ o.kind) && decide (o.kind ≤ 4) && decide (c.lineOf o.addr ≠ -1) && (decide (o.value = 0) || decide (o.kind = 2) || decide (o.kind = 3))
def Cfg.opsOk (c : Cfg) (ps : List (List Opn)) : Bool := (ps.all fun l => decide (l.length ≤ 24) && l.all c.right) && decide ((ps.length : Int) = c.nodes)
def Pkt.ok (p : Pkt) : Bool :=
  decide (0 ≤ p.src) && decide (p.src < 6) && decide (0 ≤ p.dst) && decide (p.dst < 6) && decide (0 ≤ p.id) && decide (p.id < 4096) && decide (1 ≤ p.kind) && decide (p.kind < 10) && decide (0 ≤ p.line) && decide (p.line < 8) &&
  decide (-1 ≤ p.ptr) && decide (p.ptr < 6) && decide (0 ≤ p.state) && decide (p.state < 3) && decide (p.data.length ≤ 4)
structure Cache where
  l : List Ent
  sets : Int
  ways : Int
  clock : Int
def Cache.at_ (c : Cache) (line : Int) : Option Nat := c.l.findIdx? fun e => decide (e.line = line)
def Cache.set_ (c : Cache) (line : Int) : List Ent := c.l.filter fun e => decide (0 ≤ line) && decide (e.line.tmod c.sets = line.tmod c.sets)
def Cache.find (c : Cache) (line : Int) : Option Ent := c.l.find? fun e => decide (e.line = line)
def Cache.full (c : Cache) (line : Int) : Bool := (c.find line).isNone && decide (c.ways ≤ (c.set_ line).length)
def Cache.put (c : Cache) (e : Ent) : Cache × Int :=
  if e.line < 0 then (c, 1) else
  match c.at_ e.line with
  | some i => ({ c with l := c.l.set i { e with used := (c.l.getD i .zero).used } }, 0)
  | none => if c.full e.line then (c, 5) else ({ c with l := c.l ++ [{ e with used := c.clock + 1 }], clock := c.clock + 1 }, 0)
def Cache.drop (c : Cache) (line : Int) : Cache :=
  match c.at_ line with
  | some i => { c with l := c.l.eraseIdx i }
  | none => c
structure Turns where
  owners : List (Int × Int)
  wait : List (Int × List (Int × Int))
def Turns.owner (t : Turns) (line : Int) : Int := (aget t.owners line).getD (-1)
def Turns.owned (t : Turns) (line : Int) : Bool := (aget t.owners line).isSome
def Turns.ws (t : Turns) (line : Int) : List (Int × Int) := (aget t.wait line).getD []
def Turns.next (t : Turns) (line : Int) : Turns × Option (Int × Int) :=
  if t.owned line then (t, none) else
  match t.ws line with
  | [] => (t, none)
  | w :: ws => ({ owners := aput t.owners line w.1, wait := aput t.wait line ws }, some w)
abbrev Rows := List (Int × Row)
structure Home where
  rows : Rows
  turns : Turns
def rowOf (rows : Rows) (line : Int) : Row := (aget rows line).getD .zero

end Go.Proofs.YtlcdejlbmnjlaaaGreat

namespace Go.Proofs.YtlcdejlbmnjlaaaGreat

structure Proc where
  ops : List Opn
  values : List Int
  begun : Bool
def Proc.left (p : Proc) : Int := (p.ops.length : Int) - p.values.length
structure Port where
  rq : List Pkt
  rin : List Pkt
  an : List Pkt
  ain : List Pkt
def Port.inOf (p : Port) (req : Bool) : List Pkt := if req then p.rin else p.ain
def Port.setIn (p : Port) (req : Bool) (l : List Pkt) : Port := if req then { p with rin := l } else { p with ain := l }
def Port.zero : Port := ⟨[], [], [], []⟩
structure Fab where
  out : Int
  inn : Int
  l : List Port
def Fab.is (f : Fab) (node : Int) : Bool := decide (0 ≤ node) && decide (node < f.l.length)
def Fab.port (f : Fab) (node : Int) : Port := f.l.getD node.toNat .zero
def Fab.room (f : Fab) (req : Bool) : Int := if req then f.inn else 1
def Fab.put (f : Fab) (node : Int) (p : Port) : Fab := { f with l := f.l.set node.toNat p }
def Fab.pools (f : Fab) : List (List Pkt) := f.l.flatMap fun p => [p.rq, p.an]
def Fab.all (f : Fab) : List Pkt := f.l.flatMap fun p => p.rq ++ p.an
def Fab.under (f : Fab) : Nat := f.all.length
def Fab.take (f : Fab) (node : Int) (req : Bool) : Fab × Option Pkt :=
  if f.is node then
    match (f.port node).inOf req with
    | [] => (f, none)
    | p :: l => (f.put node ((f.port node).setIn req l), some p)
  else (f, none)
def Fab.waiting (f : Fab) (node : Int) (req : Bool) : Nat := if f.is node then ((f.port node).inOf req).length else 0

end Go.Proofs.YtlcdejlbmnjlaaaGreat

namespace Go.Proofs.YtlcdejlbmnjlaaaGreat

def pureFns : List Nat := [
  17,
  84,
  61,
  80,
  57,
  15,
  16,
  41,
  43,
  44,
  79,
  91,
  92,
  93,
  54,
  58,
  32,
  25,
  38,
  4,
  5,
  50,
  21,
  51,
  22,
  83,
  31,
  34,
  64,
  29,
  66,
  69,
  72,
  27,
  28,
  74,
  76,
  71,
  36,
  37,
  11,
  87,
  86,
  68,
  67,
  88,
  70,
  65,
  30,
  60,
  33,
  137,
  10,
  97,
  89,
  90,
  73,
  75,
  12,
  7,
  0]
def pol : Pol := ⟨fun f => pureFns.contains f, fun _ => none⟩
noncomputable def cl : Callee := callω Tryz.prog pol
theorem run_cl {f : FuncId} {args : List AV} {H : AHeap} {r : AV × AHeap} (h1 : pol.prim f = none) (h2 : pol.pure f = false) (h : runF Tryz.prog cl f args H = some r) : cl f args H = some r := run_of h1 h2 h
theorem pure_cl {f : FuncId} {args : List AV} {H H1 : AHeap} {v v' : AV} (h1 : pol.prim f = none) (h2 : pol.pure f = true) (h : runF Tryz.prog cl f args H.guard = some (v, H1)) (hz : freezeA H1 H.next 9 v = some v') : cl f args H = some (v', H) := pure_of h1 h2 h hz
/-- A pure function whose answer is frozen as it stands. -/
theorem pure_val {f : FuncId} {args : List AV} {H : AHeap} {v : AV} {sh : Option (AV × AHeap)} (h1 : pol.prim f = none) (h2 : pol.pure f = true) (rn : ∀ {r}, sh = some r → runF Tryz.prog cl f args H.guard = some r) (h : sh.map Prod.fst = some v) (hz : Frz 9 v) : cl f args H = some (v, H) := by
  cases hs : sh with
  | none => rw [hs] at h; cases h
  | some r =>
    rw [hs] at h
    simp only [Option.map_some, Option.some.injEq] at h
    subst h
    exact pure_cl h1 h2 (rn hs) (hz _ _)

end Go.Proofs.YtlcdejlbmnjlaaaGreat

namespace Go.Proofs.YtlcdejlbmnjlaaaGreat

open Go.ChangeShapes Go.WideShapes Go.ChangeAt Go.RowKit
abbrev ρ0 : Ren := fun _ => none
abbrev G0 : Nat → Nat := fun _ => 0
theorem rel_empty (w : World) : Rel ρ0 AHeap.empty w := ⟨fun r _ => ⟨rfl, rfl⟩, fun r b sh h => (by cases h), fun r r' b sh sh' h => (by cases h)⟩
/-- What the run of a law says of its calls. -/
theorem law_calls {P : Program} {L : Pol} (hL : PolOk P L) (hm : P.follows .mixedOrders = true) {k : FuncId} {xs : List AV} {b : Bool} {H' : AHeap} (h : callω P L k xs AHeap.empty = some (.s (.bool b), H')) {W : World} {args : Array Value} (ha : RVs ρ0 G0 W xs args.toList) :
    Calls P k args W fun e W' => e = .returned (.bool b) ∧ Below W.heap.size W W' := by
  refine ((callω_ok hL hm).1 k xs _ _ H' h ρ0 W args (rel_empty W) ha).mono fun e w' he => ?_
  obtain ⟨cv, ρ', rfl, _, r2, r3⟩ := he
  simp only [RV] at r2
  subst r2
  exact ⟨rfl, r3.os, r3.tape, r3.output, r3.size, fun k hk => r3.frame k hk fun r sh h => (by cases h)⟩
section
variable {H : Type} {enc : TypeId × Value → H} {P : Program}
theorem trodAll_below (hl : laidOutB P = true) {W W' : World} (hb : Below W.heap.size W W') : ∀ {ts : List TypeId} {vs : List Value} {ds : List (DataW H)} {ps : List MemPlace}, ts.all (fun t => P.readableRec t && decide (t < P.types.size)) = true →
    DataW.TrodAll enc P W 0 (fun _ => true) true ts vs ds ps → (∀ x ∈ ps, x.block < W.heap.size) → DataW.TrodAll enc P W' 0 (fun b => decide (b < W.heap.size)) true ts vs ds ps
  | [], vs, ds, ps, _, h, _ => by
    obtain ⟨rfl, rfl, rfl⟩ := trodAll_nil h
    exact trodAll_mk0
  | t :: ts, vs, ds, ps, ht, h, hlt => by
    simp only [List.all_cons, Bool.and_eq_true, decide_eq_true_eq] at ht
    obtain ⟨v, vs', d, ds', p, q, rfl, rfl, rfl, h1, h2⟩ := trodAll_cons h
    exact ⟨p, q, Below.trod hl ht.1.1 ht.1.2 h1 hb fun x hx => hlt x (by simp [hx]), trodAll_below hl hb (by simpa using ht.2) h2 fun x hx => hlt x (by simp [hx]), rfl⟩
/-- The row's postcondition, of a law that answered 'true'. -/
theorem post_true {f : Func} {s : ChangeSpec} {W W' : World} {args : Array Value} {ds gs : List (DataW H)} {before : List MemPlace} {tb : TypeId} (hl : laidOutB P = true)
    (hp : f.params.toList.all (fun t => P.readableRec t && decide (t < P.types.size)) = true) (hr : f.resultTypes = #[tb]) (hb : P.underlying tb = some .bool)
    (hW : DataW.Whole enc P f.params.toList s.vars false W args.toList ds gs before) (hv : s.vars = [])
    (h1 : (s.fn H ds).results = [.lit (.bool true)]) (h2 : (s.fn H ds).args = ds) (h3 : (s.fn H ds).vars = []) (B : Below W.heap.size W W') :
    s.post enc P f false true false false W args (.bool true) W' := by
  have hlt : ∀ x ∈ before, x.block < W.heap.size := fun x hx => hW.lt x hx
  have hW' := hW
  obtain ⟨p, q, hA, hV, rfl, _, _⟩ := hW
  rw [hv] at hV
  obtain ⟨rfl, rfl⟩ := trodVars_none hV
  rw [List.append_nil] at hlt
  refine ⟨ds, [], p ++ [], [], p, [], hW', ?_, ?_, ?_, B.frame _, fun h => by cases h⟩
  · rw [List.append_nil, h1, hr]
    exact trodAll_mk1 (shut_bool hb true)
  · rw [List.append_nil, h2]
    exact trodAll_below hl B hp hA hlt
  · rw [List.append_nil, h3, hv]
    exact rfl
theorem RV_int {W : World} {k : IntKind} {n : Int} : RV ρ0 G0 W (.s (.int k n)) (.int k n) := by simp [RV]
theorem rcons {W : World} {x : AV} {v : Value} {xs : List AV} {vs : List Value} (h : RV ρ0 G0 W x v) (h' : RVs ρ0 G0 W xs vs) : RVs ρ0 G0 W (x :: xs) (v :: vs) := by
  simp only [RVs]; exact ⟨v, vs, rfl, h, h'⟩
theorem rnil {W : World} : RVs ρ0 G0 W [] [] := by simp only [RVs]
/-- Numbers of kinds. -/
def ints (ks : List IntKind) (zs : List Int) : List AV := List.zipWith (fun k z => .s (.int k z)) ks zs
def intsV (ks : List IntKind) (zs : List Int) : List Value := List.zipWith (fun k z => .int k z) ks zs
/-- A type whose values are rows of numbers. -/
def FlatT (P : Program) (e : TypeId) (ks : List IntKind) : Prop :=
  ∀ {H : Type} {enc : TypeId × Value → H} {W : World} {base : Nat} {sp : Nat → Bool} {held : Bool} {n : Nat} {cs : List Value} {y : DataW H × List MemPlace}, DataW.trod enc P W base sp held n e cs = some y →
    ∃ zs : List Int, zs.length = ks.length ∧ cs = intsV ks zs ∧ ∀ (i : Nat) (k : IntKind) (z : Int), ks[i]? = some k → zs[i]? = some z → (Lit.int k z).wf = true
theorem flat_int {e : TypeId} {k : IntKind} (he : P.underlying e = some (.int k)) : FlatT P e [k] := by
  intro H enc W base sp held n cs y h
  obtain ⟨z, rfl, rfl, hw⟩ := DataW.trod_int he h
  refine ⟨[z], rfl, rfl, fun i k' z' h1 h2 => ?_⟩
  cases i with
  | zero => simp at h1 h2; subst h1; subst h2; exact hw
  | succ i => simp at h1
theorem ints_length {ks : List IntKind} {zs : List Int} (h : zs.length = ks.length) : (ints ks zs).length = ks.length := by
  simp [ints, h]
theorem RVs_ints {W : World} : ∀ (ks : List IntKind) (zs : List Int), RVs ρ0 G0 W (ints ks zs) (intsV ks zs)
  | [], zs => by simp [ints, intsV, RVs]
  | k :: ks, [] => by simp [ints, intsV, RVs]
  | k :: ks, z :: zs => by
    simp only [ints, intsV, List.zipWith_cons_cons, RVs]
    exact ⟨_, _, rfl, RV_int, RVs_ints ks zs⟩
/-- A slice of rows of numbers. -/
structure RowsOf (ks : List IntKind) (av : AV) (l : List (List Int)) : Prop where
  is : SliceIs AHeap.empty av ks.length l.length (l.flatMap (ints ks))
  len : ∀ zs ∈ l, zs.length = ks.length
  wf : ∀ zs ∈ l, ∀ (i : Nat) (k : IntKind) (z : Int), ks[i]? = some k → zs[i]? = some z → (Lit.int k z).wf = true
theorem rows_length {ks : List IntKind} : ∀ {l : List (List Int)}, (∀ zs ∈ l, zs.length = ks.length) → (l.flatMap (ints ks)).length = l.length * ks.length
  | [], _ => by simp
  | zs :: l, h => by
    rw [List.flatMap_cons, List.length_append, ints_length (h zs (by simp)), rows_length fun z hz => h z (by simp [hz]), List.length_cons, Nat.succ_mul]; omega
theorem open_rows {t e : TypeId} {ks : List IntKind} (ht : P.underlying t = some (.slice e)) (hc : P.cellsOf e = ks.length) (hF : FlatT P e ks) {W : World} {r : Reach} {b0 base : Nat} {sp : Nat → Bool} {held : Bool} {v : Value} {fuel : Nat} {y : DataW H × List MemPlace}
    (hval : Cell.okWide P W r b0 t v) (h : DataW.trod enc P W base sp held fuel t [v] = some y) : ∃ (av : AV) (l : List (List Int)), RV ρ0 G0 W av v ∧ RowsOf ks av l ∧ av.isCell = true := by
  rcases DataW.trod_slice ht h with ⟨h0, _⟩ | ⟨a, len, cap, elems, rest, n, _, hv, _, hb, hl, hm, hlen, hel, _, _⟩
  · have h0 : v = .slice none 0 0 := by simpa using h0
    subst h0
    exact ⟨.s (.slice none 0 0), [], by simp [RV], ⟨⟨by simp, rfl, rfl, rfl⟩, by simp, by simp⟩, rfl⟩
  · have hv : v = .slice (some a) len cap := by simpa using hv
    subst hv
    simp only [Cell.okWide, ht, Cell.ok] at hval
    obtain ⟨_, _, _, hspot, row, cells, hsh, _⟩ := hval
    obtain ⟨b, o, spot⟩ := a
    simp only at hspot
    subst hspot
    have hrow : ∀ i, ∃ zs : List Int, i < len → zs.length = ks.length ∧ (∀ (j : Nat) (k : IntKind) (z : Int), ks[j]? = some k → zs[j]? = some z → (Lit.int k z).wf = true) ∧ RVc ρ0 G0 W (ints ks zs) b (o + i * ks.length) := by
      intro i
      by_cases hi : i < len
      · have := hel i hi
        rw [List.getElem?_eq_getElem (by omega)] at this
        obtain ⟨cs, hcs, htr⟩ := Option.bind_eq_some_iff.1 this
        obtain ⟨zs, z1, z2, z3⟩ := hF htr
        refine ⟨zs, fun _ => ⟨z1, z3, RVc_of_get fun j x hx => ?_⟩⟩
        obtain ⟨_, c1, c2⟩ := World.cells?_some hcs
        have hj : j < ks.length := by
          have := (List.getElem?_eq_some_iff.1 hx).1
          rwa [ints_length z1] at this
        have hc2 := c2 j (by rw [hc]; exact hj)
        obtain ⟨u, hu, hrv⟩ := RVs_get (RVs_ints (W := W) ks zs) hx
        refine ⟨u, ?_, hrv⟩
        rw [z2, hu] at hc2
        rw [← hc2, hc]
        congr 1
        unfold Addr.add
        by_cases h1 : i * ks.length = 0
        · rw [if_pos h1, h1]
          by_cases h2 : j = 0
          · rw [if_pos h2, h2]; rfl
          · rw [if_neg h2]; rfl
        · rw [if_neg h1]
          by_cases h2 : j = 0
          · rw [if_pos h2, h2]; rfl
          · rw [if_neg h2]
      · exact ⟨[], fun h => absurd h hi⟩
    obtain ⟨f, hf⟩ := Classical.axiomOfChoice hrow
    have hl1 : ∀ zs ∈ (List.range len).map f, zs.length = ks.length := by
      intro zs hz
      obtain ⟨i, hi, rfl⟩ := List.mem_map.1 hz
      exact (hf i (List.mem_range.1 hi)).1
    have hcells : ∀ m s, s + m ≤ len → RVc ρ0 G0 W (((List.range' s m).map f).flatMap (ints ks)) b (o + s * ks.length) := by
      intro m
      induction m with
      | zero => intro s _; simp [RVc]
      | succ m ih =>
        intro s hs
        rw [List.range'_succ, List.map_cons, List.flatMap_cons]
        refine RVc_append (hf s (by omega)).2.2 ?_
        rw [ints_length (hf s (by omega)).1]
        have := ih (s + 1) (by omega)
        rwa [Nat.succ_mul, ← Nat.add_assoc] at this
    refine ⟨.vs len ks.length (((List.range len).map f).flatMap (ints ks)), (List.range len).map f, ?_, ⟨?_, hl1, fun zs hz => ?_⟩, rfl⟩
    · simp only [RV]
      refine ⟨b, o, cap, rfl, hl, ?_, shape?_lt hsh, fun r sh h => (by cases h), ?_⟩
      · rw [rows_length hl1]; simp
      · have := hcells len 0 (by omega)
        rw [List.range_eq_range']
        simpa using this
    · have := SliceIs.vs (H := AHeap.empty) (m := ks.length) (n := len) (cs := ((List.range len).map f).flatMap (ints ks)) (by rw [rows_length hl1]; simp)
      simpa using this
    · obtain ⟨i, hi, rfl⟩ := List.mem_map.1 hz
      exact (hf i (List.mem_range.1 hi)).2.1
/-- A value of a struct whose fields have one cell each: what its cells are. -/
theorem open_fields {t : TypeId} {fs : Array Field} {ts : List TypeId} (ht : P.underlying t = some (.struct fs)) (hts : P.cellTypes P.depth t = some ts) (hfs : fs.toList.map (fun (f : Field) => (f.type, f.offset)) = ts.zipIdx)
    (hc : ∀ u ∈ ts, P.cellsOf u = 1) (hct : P.cellsOf t = ts.length) {W : World} {r : Reach} {b0 base : Nat} {sp : Nat → Bool} {held : Bool} {v : Value} {d : DataW H} {ps : List MemPlace}
    (hval : Value.okWide P W r b0 t v) (h : DataW.Trod enc P W base sp held t v d ps) :
    ∃ cs : Array Value, v = .agg cs ∧ cs.size = ts.length ∧ ∀ (i : Nat) (u : TypeId), ts[i]? = some u → ∃ (c : Value) (n : Nat) (y : DataW H × List MemPlace), cs[i]? = some c ∧ Cell.okWide P W r b0 u c ∧ DataW.trod enc P W base sp held n u [c] = some y := by
  unfold Value.okWide at hval
  rw [ht] at hval
  obtain ⟨cs, rfl, hsz, ts', hts', _, hrow⟩ := hval
  rw [hts] at hts'
  cases hts'
  obtain ⟨fuel, hf⟩ := h
  obtain ⟨xs, n, _, _, hl, hx, hr⟩ := DataW.trod_struct ht hf
  have hfl : fs.size = ts.length := by
    have := congrArg List.length hfs
    simpa using this
  have hget : ∀ (i : Nat) (u : TypeId), ts[i]? = some u → ∃ f : Field, fs[i]? = some f ∧ f.type = u ∧ f.offset = i := by
    intro i u hu
    have hi : i < ts.length := (List.getElem?_eq_some_iff.1 hu).1
    have hfi : fs[i]? = some (fs[i]'(by omega)) := Array.getElem?_eq_getElem _
    have h1 : (fs.toList.map (fun (f : Field) => (f.type, f.offset)))[i]? = some ((fs[i]'(by omega)).type, (fs[i]'(by omega)).offset) := by
      rw [List.getElem?_map]; simp [hfi]
    rw [hfs, List.getElem?_zipIdx, hu] at h1
    simp at h1
    exact ⟨_, hfi, h1.1.symm, h1.2.symm⟩
  have each : ∀ (i : Nat) (u : TypeId), ts[i]? = some u → ∃ c y, cs[i]? = some c ∧ DataW.trod enc P W base sp held n u [c] = some y := by
    intro i u hu
    obtain ⟨f, h1, h2, h3⟩ := hget i u hu
    have hi : i < ts.length := (List.getElem?_eq_some_iff.1 hu).1
    have := hr i f h1
    rw [h2, h3, hc u (List.mem_of_getElem? hu), List.getElem?_eq_getElem (show i < xs.length by omega)] at this
    have hlt0 : i < cs.size := by rw [hsz, hct]; exact hi
    cases hci : cs[i]? with
    | none => rw [Array.getElem?_eq_getElem hlt0] at hci; cases hci
    | some c =>
      have hlt : i < cs.size := by
        rcases Nat.lt_or_ge i cs.size with h5 | h5
        · exact h5
        · rw [Array.getElem?_eq_none h5] at hci; cases hci
      have h5 : (((Value.agg cs).cells.toList.drop i).take 1) = [c] := by
        have hcl : cs.toList[i]? = some c := by simpa using hci
        show (cs.toList.drop i).take 1 = [c]
        rw [List.drop_eq_getElem_cons (by simpa using hlt)]
        rw [List.getElem?_eq_getElem (by simpa using hlt)] at hcl
        simp at hcl
        simp [hcl]
      rw [h5] at this
      exact ⟨c, _, rfl, this⟩
  refine ⟨cs, rfl, ?_, fun i u hu => ?_⟩
  · rw [hsz, hct]
  · obtain ⟨c, y, h1, h2⟩ := each i u hu
    obtain ⟨u', h3, h4⟩ := hrow i c h1
    have hi : i < ts.length := (List.getElem?_eq_some_iff.1 hu).1
    rw [Nat.mod_eq_of_lt hi, hu] at h3
    cases h3
    exact ⟨c, n, y, h1, h4, h2⟩
/-- A slice of numbers, at first. -/
structure IntsOf (k : IntKind) (av : AV) (zs : List Int) : Prop where
  is : SliceIs AHeap.empty av 1 zs.length (zs.map fun z => .s (.int k z))
  wf : ∀ z ∈ zs, (Lit.int k z).wf = true
  cell : av.isCell = true
theorem rows_ints {k : IntKind} : ∀ (l : List (List Int)), (∀ zs ∈ l, zs.length = 1) → l.flatMap (ints [k]) = (l.map (fun zs => zs.headD 0)).map fun z => .s (.int k z)
  | [], _ => rfl
  | zs :: l, h => by
    have h1 := h zs (by simp)
    rw [List.flatMap_cons, rows_ints l fun z hz => h z (by simp [hz])]
    cases zs with
    | nil => simp at h1
    | cons z zs =>
      cases zs with
      | nil => rfl
      | cons _ _ => simp at h1
theorem RowsOf.ints {k : IntKind} {av : AV} {l : List (List Int)} (h : RowsOf [k] av l) (hc : av.isCell = true) : IntsOf k av (l.map fun zs => zs.headD 0) := by
  refine ⟨?_, fun z hz => ?_, hc⟩
  · have := h.is
    rw [rows_ints l h.len] at this
    simpa using this
  · obtain ⟨zs, hzs, rfl⟩ := List.mem_map.1 hz
    have h1 := h.len zs hzs
    cases zs with
    | nil => simp at h1
    | cons z zs => exact h.wf _ hzs 0 k z rfl rfl
/-- A machine by small numbers, as the laws have it. -/
structure SetupA where
  nodes : Int
  lines : Int
  words : Int
  sets : Int
  ways : Int
  out : Int
  inn : Int
  init : AV
  who : AV
  kinds : AV
  addrs : AV
  values : AV
def SetupA.cells (s : SetupA) : List AV :=
  [.s (.int .i64 s.nodes), .s (.int .i64 s.lines), .s (.int .i64 s.words), .s (.int .i64 s.sets), .s (.int .i64 s.ways), .s (.int .i64 s.out), .s (.int .i64 s.inn), s.init, s.who, s.kinds, s.addrs, s.values]
abbrev In64 (z : Int) : Prop := -9223372036854775808 ≤ z ∧ z ≤ 9223372036854775807
theorem in64 {z : Int} (h : (Lit.int .i64 z).wf = true) : In64 z := by
  simp [Lit.wf, IntKind.min, IntKind.max, IntKind.signed, IntKind.bits] at h
  exact ⟨by omega, by omega⟩
structure SetupA.Ok (s : SetupA) (zi zw zk za zv : List Int) : Prop where
  nodes : In64 s.nodes
  lines : In64 s.lines
  words : In64 s.words
  sets : In64 s.sets
  ways : In64 s.ways
  out : In64 s.out
  inn : In64 s.inn
  init : IntsOf .i64 s.init zi
  who : IntsOf .i64 s.who zw
  kinds : IntsOf .i64 s.kinds zk
  addrs : IntsOf .i64 s.addrs za
  values : IntsOf .i64 s.values zv
theorem open_setup {t ti sl e : TypeId} {fs : Array Field} (ht : P.underlying t = some (.struct fs)) (hts : P.cellTypes P.depth t = some [ti, ti, ti, ti, ti, ti, ti, sl, sl, sl, sl, sl])
    (hfs : fs.toList.map (fun (f : Field) => (f.type, f.offset)) = [ti, ti, ti, ti, ti, ti, ti, sl, sl, sl, sl, sl].zipIdx) (hct : P.cellsOf t = 12) (hti : P.underlying ti = some (.int .i64)) (hci : P.cellsOf ti = 1)
    (hsl : P.underlying sl = some (.slice e)) (hcs : P.cellsOf sl = 1) (hee : P.underlying e = some (.int .i64)) (hce : P.cellsOf e = 1)
    {W : World} {r : Reach} {b0 base : Nat} {sp : Nat → Bool} {held : Bool} {v : Value} {d : DataW H} {ps : List MemPlace} (hval : Value.okWide P W r b0 t v) (h : DataW.Trod enc P W base sp held t v d ps) :
    ∃ (s : SetupA) (zi zw zk za zv : List Int), RV ρ0 G0 W (.agg s.cells) v ∧ s.Ok zi zw zk za zv := by
  obtain ⟨cs, rfl, hsz, each⟩ := open_fields ht hts hfs (fun u hu => by
    simp only [List.mem_cons, List.not_mem_nil, or_false] at hu
    rcases hu with rfl | rfl | rfl | rfl | rfl | rfl | rfl | rfl | rfl | rfl | rfl | rfl <;> assumption) hct hval h
  have num : ∀ i : Nat, [ti, ti, ti, ti, ti, ti, ti, sl, sl, sl, sl, sl][i]? = some ti → ∃ z, cs[i]? = some (.int .i64 z) ∧ In64 z := by
    intro i hi
    obtain ⟨c, n, y, h1, _, h3⟩ := each i ti hi
    obtain ⟨z, hz, _, hw⟩ := DataW.trod_int hti h3
    simp at hz
    subst hz
    exact ⟨z, h1, in64 hw⟩
  have row : ∀ i : Nat, [ti, ti, ti, ti, ti, ti, ti, sl, sl, sl, sl, sl][i]? = some sl → ∃ c av zs, cs[i]? = some c ∧ RV ρ0 G0 W av c ∧ IntsOf .i64 av zs := by
    intro i hi
    obtain ⟨c, n, y, h1, h2, h3⟩ := each i sl hi
    obtain ⟨av, l, r1, r2, r3⟩ := open_rows hsl (ks := [.i64]) hce (flat_int hee) h2 h3
    exact ⟨c, av, _, h1, r1, r2.ints r3⟩
  obtain ⟨z0, a0, w0⟩ := num 0 rfl
  obtain ⟨z1, a1, w1⟩ := num 1 rfl
  obtain ⟨z2, a2, w2⟩ := num 2 rfl
  obtain ⟨z3, a3, w3⟩ := num 3 rfl
  obtain ⟨z4, a4, w4⟩ := num 4 rfl
  obtain ⟨z5, a5, w5⟩ := num 5 rfl
  obtain ⟨z6, a6, w6⟩ := num 6 rfl
  obtain ⟨c7, v7, l7, a7, r7, o7⟩ := row 7 rfl
  obtain ⟨c8, v8, l8, a8, r8, o8⟩ := row 8 rfl
  obtain ⟨c9, v9, l9, a9, r9, o9⟩ := row 9 rfl
  obtain ⟨c10, v10, l10, a10, r10, o10⟩ := row 10 rfl
  obtain ⟨c11, v11, l11, a11, r11, o11⟩ := row 11 rfl
  have hcs : cs.toList = [.int .i64 z0, .int .i64 z1, .int .i64 z2, .int .i64 z3, .int .i64 z4, .int .i64 z5, .int .i64 z6, c7, c8, c9, c10, c11] := by
    apply List.ext_getElem?
    intro i
    rcases Nat.lt_or_ge i 12 with hi | hi
    · have : i = 0 ∨ i = 1 ∨ i = 2 ∨ i = 3 ∨ i = 4 ∨ i = 5 ∨ i = 6 ∨ i = 7 ∨ i = 8 ∨ i = 9 ∨ i = 10 ∨ i = 11 := by omega
      rcases this with rfl | rfl | rfl | rfl | rfl | rfl | rfl | rfl | rfl | rfl | rfl | rfl <;> simp [a0, a1, a2, a3, a4, a5, a6, a7, a8, a9, a10, a11]
    · have h1 : cs.toList.length = 12 := by simpa using hsz
      rw [List.getElem?_eq_none (by omega), List.getElem?_eq_none (by simpa using hi)]
  refine ⟨⟨z0, z1, z2, z3, z4, z5, z6, v7, v8, v9, v10, v11⟩, l7, l8, l9, l10, l11, ?_, ⟨w0, w1, w2, w3, w4, w5, w6, o7, o8, o9, o10, o11⟩⟩
  simp only [RV, SetupA.cells]
  refine ⟨cs, rfl, ?_⟩
  rw [hcs]
  exact rcons RV_int (rcons RV_int (rcons RV_int (rcons RV_int (rcons RV_int (rcons RV_int (rcons RV_int (rcons r7 (rcons r8 (rcons r9 (rcons r10 (rcons r11 rnil)))))))))))
/-- A slice of whole numbers among the arguments. -/
theorem open_slice {t e : TypeId} (ht : P.underlying t = some (.slice e)) (hee : P.underlying e = some (.int .i64)) (hce : P.cellsOf e = 1) {W : World} {r : Reach} {b0 base : Nat} {sp : Nat → Bool} {held : Bool} {v : Value} {d : DataW H} {ps : List MemPlace}
    (hval : Value.okWide P W r b0 t v) (h : DataW.Trod enc P W base sp held t v d ps) : ∃ (x : AV) (zs : List Int), RV ρ0 G0 W x v ∧ IntsOf .i64 x zs := by
  unfold Value.okWide at hval
  rw [ht] at hval
  obtain ⟨fuel, hf⟩ := h
  have hv : v.cells.toList = [v] := by
    cases v <;> first | rfl | (simp [Cell.okWide, ht, Cell.ok] at hval)
  rw [hv] at hf
  obtain ⟨av, l, r1, r2, r3⟩ := open_rows ht (ks := [.i64]) hce (flat_int hee) hval hf
  exact ⟨av, _, r1, r2.ints r3⟩
end

end Go.Proofs.YtlcdejlbmnjlaaaGreat

namespace Go.Proofs.YtlcdejlbmnjlaaaGreat

open Go.ChangeShapes Go.WideShapes Go.ChangeAt Go.RowKit
theorem polOk : PolOk Tryz.prog pol := fun f p h => by cases h
theorem z_own : ownKnob Tryz.prog.godebug = none := by kernel_rfl
theorem z_laid : laidOutB Tryz.prog = true := by kernel_rfl
theorem z_mixed : Tryz.prog.follows .mixedOrders = true := by kernel_rfl
/-- A table whose answers are those of 'cl', but for functions that are run anew. -/
theorem polOk_of {L : Pol} (h : ∀ f p, L.prim f = some p → p = cl f) : PolOk Tryz.prog L := fun f p hp => by
  have hc := callω_ok (P := Tryz.prog) polOk z_mixed
  have := h f p hp
  subst this
  refine ⟨fun g args H v H' h => ?_, fun args H v H' h => hc.2 f args H v H' h⟩
  simp only at h
  split at h
  · rename_i e
    subst e
    exact hc.1 g args H v H' h
  · cases h
theorem z_setupT : Tryz.prog.cellTypes Tryz.prog.depth 24 = some [3, 3, 3, 3, 3, 3, 3, 22, 22, 22, 22, 22] := by kernel_rfl
set_option maxRecDepth 100000 in
theorem z_open {H : Type} {enc : TypeId × Value → H} {W : World} {r : Reach} {b0 base : Nat} {sp : Nat → Bool} {held : Bool} {v : Value} {d : DataW H} {ps : List MemPlace} (hval : Value.okWide Tryz.prog W r b0 24 v) (h : DataW.Trod enc Tryz.prog W base sp held 24 v d ps) :
    ∃ (s : SetupA) (zi zw zk za zv : List Int), RV ρ0 G0 W (.agg s.cells) v ∧ s.Ok zi zw zk za zv :=
  open_setup Tryz.underlying24 z_setupT (by kernel_rfl) (by kernel_rfl) Tryz.underlying3 (by kernel_rfl) Tryz.underlying22 (by kernel_rfl) Tryz.underlying3 (by kernel_rfl) hval h
set_option maxRecDepth 100000 in
theorem z_ints {H : Type} {enc : TypeId × Value → H} {W : World} {r : Reach} {b0 base : Nat} {sp : Nat → Bool} {held : Bool} {v : Value} {d : DataW H} {ps : List MemPlace} (hval : Value.okWide Tryz.prog W r b0 22 v) (h : DataW.Trod enc Tryz.prog W base sp held 22 v d ps) :
    ∃ (x : AV) (zs : List Int), RV ρ0 G0 W x v ∧ IntsOf .i64 x zs :=
  open_slice Tryz.underlying22 Tryz.underlying3 (by kernel_rfl) hval h

end Go.Proofs.YtlcdejlbmnjlaaaGreat

namespace Go.Proofs.YtlcdejlbmnjlaaaGreat

def an_3 : Ann := ⟨[], [(13, [some false, some false, some false, some false, some false, some false, some false, some true, some false, some false, some false])], []⟩
noncomputable def cd_3 : Code := Tryz.f3.body.getD .skip
noncomputable def jn_3x1 (C : Callee) (t15 t16 : AV) (H : AHeap) : Option (AV × AHeap) :=
  bnd (lda 8 t15 H) fun v58 H => bnd (C 8 [v58, t16] H) fun v60 H => bo (extractA v60 0) fun v61 => bo (extractA v60 1) fun v62 =>
  bnd (lda 8 t15 H) fun v64 H => bnd (C 9 [v64, t16] H) fun v66 H => bo (extractA v66 0) fun v67 => bo (extractA v66 1) fun v68 =>
  bo (un .not v68) fun v70 =>
  condK v70
  (bo (bi .eql 34 v62 (I 1)) fun v72 => gdA (some v72) true (liftO (some v61) H) H fun v74 H => gdA (some v72) true (liftO (bi .eql 33 v74 (.s (Go.Value.pointer none))) H) H fun v75 H => bo (pickA v72 v75 (B false)) fun v76 => gdA (some v76) true (C 10 [] H) H fun v78 H => bo (pickA v76 v78 (B false)) fun v79 =>
   some (v79, H))
  (bo (bi .eql 34 v62 (I 0)) fun v82 => gdA (some v82) true (liftO (some v61) H) H fun v84 H => gdA (some v82) true (liftO (some v67) H) H fun v85 H => gdA (some v82) true (C 11 [v84, v85] H) H fun v86 H => bo (pickA v82 v86 (B false)) fun v87 => gdA (some v87) true (liftO (some v61) H) H fun v89 H => gdA (some v87) true (C 12 [v89, (I (-1))] H) H fun v90 H => gdA (some v87) true (liftO (bi .eql 42 v90 (.s (Go.Value.pointer none))) H) H fun v91 H => bo (pickA v87 v91 (B false)) fun v92 => gdA (some v92) true (liftO (some v61) H) H fun v94 H => gdA (some v92) true (liftO (fieldPtr t15 0) H) H fun v95 H => gdA (some v92) true (ld v95 H) H fun v96 H => gdA (some v92) true (C 12 [v94, v96] H) H fun v97 H => gdA (some v92) true (liftO (bi .eql 42 v97 (.s (Go.Value.pointer none))) H) H fun v98 H => bo (pickA v92 v98 (B false)) fun v99 => gdA (some v99) true (C 10 [] H) H fun v101 H => bo (pickA v99 v101 (B false)) fun v102 =>
   some (v102, H))
noncomputable def jn_3x0 (C : Callee) (t3 t4 t5 t6 t15 t16 : AV) (H : AHeap) : Option (AV × AHeap) :=
  bo (bi .rem 3 t6 (I 3)) fun v45 => bo (bi .eql 3 v45 (I 0)) fun v46 =>
  condK v46
  (bnd (ix 1 t16 (I 0) H) fun v49 H => bnd (ld v49 H) fun v50 H => bnd (unG H (C 7 [t3, t4, t5] H.guard)) fun v54 H => bnd (app 48 3 24 v50 v54 H) fun v55 H => bnd (ix 1 t16 (I 0) H) fun v56 H => bnd (st 1 v56 v55 H) fun _ H =>
   jn_3x1 C t15 t16 H)
  (jn_3x1 C t15 t16 H)
noncomputable def sh_3 (C : Callee) (a0 a1 a2 a3 a4 a5 a6 : AV) (H : AHeap) : Option (AV × AHeap) :=
  bnd (boxA 24 a0 H) fun v7 H =>
  bnd (lda 12 v7 H) fun v22 H => bnd (C 4 [v22] H) fun v23 H => bnd (alc 26 [zI, zI, zI, zI, zI, zI, zI, zN] H) fun v15 H => bnd (st 8 v15 v23 H) fun _ H =>
  bnd (lda 12 v7 H) fun v24 H => bnd (C 5 [v24, (I 10)] H) fun v25 H =>
  bnd (C 6 [a1, (I 20)] H) fun v27 H =>
  bo (bi .eql 3 v27 (I 0)) fun v29 =>
  condK v29
  (bo (fieldPtr v15 0) fun v31 => bnd (st 1 v31 a2 H) fun _ H =>
   jn_3x0 C a3 a4 a5 a6 v15 v25 H)
  (bo (bi .eql 3 v27 (I 1)) fun v33 =>
   condK v33
   (bo (fieldPtr v15 4) fun v35 => bnd (st 1 v35 a2 H) fun _ H =>
    jn_3x0 C a3 a4 a5 a6 v15 v25 H)
   (bo (bi .eql 3 v27 (I 2)) fun v37 =>
    condK v37
    (bo (fieldPtr v15 6) fun v39 => bnd (st 1 v39 a2 H) fun _ H =>
     jn_3x0 C a3 a4 a5 a6 v15 v25 H)
    (bo (bi .eql 3 v27 (I 3)) fun v41 =>
     condK v41
     (bo (fieldPtr v15 2) fun v43 => bnd (st 1 v43 a2 H) fun _ H =>
      jn_3x0 C a3 a4 a5 a6 v15 v25 H)
     (jn_3x0 C a3 a4 a5 a6 v15 v25 H))))
theorem rn_3 (C : Callee) (a0 a1 a2 a3 a4 a5 a6 : AV) (H : AHeap) {r : AV × AHeap} (h : sh_3 C a0 a1 a2 a3 a4 a5 a6 H = some r) : runF Tryz.prog C 3 [a0, a1, a2, a3, a4, a5, a6] H = some r :=
  runF_K (A := an_3) (c := cd_3) Tryz.func3 (by kernel_rfl) (by kernel_rfl) (by kernel_rfl) ((show _ = sh_3 C a0 a1 a2 a3 a4 a5 a6 H by kernel_rfl).trans h)
def an_4 : Ann := ⟨[], [(1, [some false, some false, some true, some false, some false, some false, some true, some false, some false, some false, some true, some false, some false, some false, some true, some false, some false, some false, some true, some false, some false, some false, some true, some false, some false, some false, some true, some false, some false, none, some false])], []⟩
noncomputable def cd_4 : Code := Tryz.f4.body.getD .skip
noncomputable def sh_4 (C : Callee) (a0 : AV) (H : AHeap) : Option (AV × AHeap) :=
  bnd (boxA 24 a0 H) fun v1 H => bnd (alc 26 [zI, zI, zI, zI, zI, zI, zI, zN] H) fun v2 H =>
  bnd (alc 26 [zI, zI, zI, zI, zI, zI, zI, zN] H) fun v3 H => bo (fieldPtr v1 0) fun v4 => bnd (ld v4 H) fun v5 H => bnd (unG H (C 6 [v5, (I 4)] H.guard)) fun v6 H => bo (bi .add 3 (I 1) v6) fun v7 => bo (fieldPtr v1 1) fun v8 => bnd (ld v8 H) fun v9 H => bnd (unG H (C 6 [v9, (I 4)] H.guard)) fun v10 H => bo (bi .add 3 (I 1) v10) fun v11 => bo (fieldPtr v1 2) fun v12 => bnd (ld v12 H) fun v13 H => bnd (unG H (C 6 [v13, (I 2)] H.guard)) fun v14 H => bo (bi .add 3 (I 1) v14) fun v15 => bo (fieldPtr v1 3) fun v16 => bnd (ld v16 H) fun v17 H => bnd (unG H (C 6 [v17, (I 2)] H.guard)) fun v18 H => bo (bi .add 3 (I 1) v18) fun v19 => bo (fieldPtr v1 4) fun v20 => bnd (ld v20 H) fun v21 H => bnd (unG H (C 6 [v21, (I 2)] H.guard)) fun v22 H => bo (bi .add 3 (I 1) v22) fun v23 => bo (fieldPtr v1 5) fun v24 => bnd (ld v24 H) fun v25 H => bnd (unG H (C 6 [v25, (I 3)] H.guard)) fun v26 H => bo (bi .add 3 (I 1) v26) fun v27 => bo (fieldPtr v1 6) fun v28 => bnd (ld v28 H) fun v29 H => bnd (unG H (C 6 [v29, (I 3)] H.guard)) fun v30 H => bo (bi .add 3 (I 1) v30) fun v31 => bo (bd 26 [(0, v7), (1, v11), (2, v15), (3, v19), (4, v23), (5, v27), (6, v31)]) fun v32 => bnd (st 8 v3 v32 H) fun _ H =>
  bo (fieldPtr v1 7) fun v33 => bnd (ld v33 H) fun v34 H => bo (fieldPtr v3 1) fun v35 => bnd (ld v35 H) fun v36 H => bo (fieldPtr v3 2) fun v37 => bnd (ld v37 H) fun v38 H => bo (bi .mul 3 v36 v38) fun v39 => bnd (C 13 [v34, v39] H) fun v40 H => bo (fieldPtr v3 7) fun v41 => bnd (st 1 v41 v40 H) fun _ H =>
  bnd (lda 8 v3 H) fun v42 H => bnd (st 8 v2 v42 H) fun _ H =>
  bnd (lda 8 v2 H) fun r0 _ => some (r0, H)
theorem rn_4 (C : Callee) (a0 : AV) (H : AHeap) {r : AV × AHeap} (h : sh_4 C a0 H = some r) : runF Tryz.prog C 4 [a0] H = some r :=
  runF_K (A := an_4) (c := cd_4) Tryz.func4 (by kernel_rfl) (by kernel_rfl) (by kernel_rfl) ((show _ = sh_4 C a0 H by kernel_rfl).trans h)
def an_5 : Ann := ⟨[(5, [1, 2, 5, 6, 7])], [(6, [none, some false, some false, some false, some true, some true, some false, some false, some false, some false, some false, some true, some false, some false, some false, some false, some false, some true, some false, none, some false]), (9, [some false, some false, some false, some false, some false, some false, some false, some false, some false]), (11, [some false, some false, some false, some false, some false, some false, some false, some false, some false, some false, some false])], []⟩
noncomputable def cd_5 : Code := Tryz.f5.body.getD .skip
noncomputable def lp_5x0 (C : Callee) : List AV → AHeap → Option (AV × AHeap) := (loopsK Tryz.prog C an_5 84 cd_5 (retK Tryz.prog 84 Tryz.f5.results.toList) (fun _ _ _ => none) (retK Tryz.prog 84 Tryz.f5.results.toList)).getD 0 fun _ _ => none
noncomputable def jn_5x1 (C : Callee) (t1 t2 t5 t6 t7 : AV) (H : AHeap) : Option (AV × AHeap) :=
  bo (bi .add 3 t7 (I 1)) fun v26 =>
  lp_5x0 C [t1, t2, t5, t6, v26] H
noncomputable def jn_5x0 (C : Callee) (t1 t2 t5 t6 t7 t8 : AV) (H : AHeap) : Option (AV × AHeap) :=
  bo (fieldPtr t2 8) fun v59 => bnd (ld v59 H) fun v60 H => bnd (ix 1 v60 t7 H) fun v62 H => bnd (ld v62 H) fun v63 H => bo (fieldPtr t5 0) fun v64 => bnd (ld v64 H) fun v65 H => bnd (C 6 [v63, v65] H) fun v66 H =>
  bnd (ix 1 t6 v66 H) fun v69 H => bnd (ld v69 H) fun v70 H => bnd (lnS v70 H) fun v71 H => bo (bi .lss 3 v71 (I 24)) fun v72 =>
  condK v72
  (bnd (ix 1 t6 v66 H) fun v77 H => bnd (ld v77 H) fun v78 H => bnd (lda 3 t8 H) fun v79 H => bnd (bs 31 1 [(0, v79)] H) fun v80 H => bnd (app 48 3 24 v78 v80 H) fun v81 H => bnd (ix 1 t6 v66 H) fun v82 H => bnd (st 1 v82 v81 H) fun _ H =>
   jn_5x1 C t1 t2 t5 t6 t7 H)
  (jn_5x1 C t1 t2 t5 t6 t7 H)
noncomputable def sh_5 (C : Callee) (a0 a1 : AV) (H : AHeap) : Option (AV × AHeap) :=
  bnd (boxA 24 a0 H) fun v2 H =>
  bnd (lda 12 v2 H) fun v10 H => bnd (C 4 [v10] H) fun v11 H => bnd (alc 26 [zI, zI, zI, zI, zI, zI, zI, zN] H) fun v5 H => bnd (st 8 v5 v11 H) fun _ H =>
  bo (fieldPtr v5 0) fun v12 => bnd (ld v12 H) fun v13 H => bnd (mks 31 1 24 [zN] v13 v13 H) fun v14 H =>
  lp_5x0 C [a1, v2, v5, v14, (I 0)] H
theorem le_5x0 (C : Callee) (t1 t2 t5 t6 t7 : AV) (H : AHeap) : lp_5x0 C [t1, t2, t5, t6, t7] H =
  bo (fieldPtr t2 8) fun v16 => bnd (ld v16 H) fun v17 H => bnd (lnS v17 H) fun v18 H => bo (bi .lss 3 t7 v18) fun v19 => gdA (some v19) true (liftO (some t7) H) H fun v21 H => gdA (some v19) true (liftO (some t1) H) H fun v22 H => gdA (some v19) true (liftO (bi .lss 3 v21 v22) H) H fun v23 H => bo (pickA v19 v23 (B false)) fun v24 =>
  condK v24
  (bnd (bs 22 7 [(0, (I 1)), (1, (I 2)), (2, (I 3)), (3, (I 1)), (4, (I 2)), (5, (I 1)), (6, (I 4))] H) fun v27 H => bnd (alc 48 [zI, zI, zI] H) fun v8 H => bo (fieldPtr t2 9) fun v28 => bnd (ld v28 H) fun v29 H => bnd (unG H (C 14 [v29, t7] H.guard)) fun v31 H => bnd (unG H (C 6 [v31, (I 7)] H.guard)) fun v32 H => bnd (ix 1 v27 v32 H) fun v33 H => bnd (ld v33 H) fun v34 H => bo (fieldPtr t2 10) fun v35 => bnd (ld v35 H) fun v36 H => bnd (unG H (C 14 [v36, t7] H.guard)) fun v38 H => bo (fieldPtr t5 1) fun v39 => bnd (ld v39 H) fun v40 H => bo (fieldPtr t5 2) fun v41 => bnd (ld v41 H) fun v42 H => bo (bi .mul 3 v40 v42) fun v43 => bnd (unG H (C 6 [v38, v43] H.guard)) fun v44 H => bo (bd 48 [(0, v34), (1, v44)]) fun v45 => bnd (st 3 v8 v45 H) fun _ H =>
   bo (fieldPtr v8 0) fun v46 => bnd (ld v46 H) fun v47 H => bo (bi .eql 3 v47 (I 2)) fun v48 => gdA (some v48) false (liftO (fieldPtr v8 0) H) H fun v50 H => gdA (some v48) false (ld v50 H) H fun v51 H => gdA (some v48) false (liftO (bi .eql 3 v51 (I 3)) H) H fun v52 H => bo (pickA v48 (B true) v52) fun v53 =>
   condK v53
   (bo (fieldPtr t2 11) fun v54 => bnd (ld v54 H) fun v55 H => bnd (C 14 [v55, t7] H) fun v57 H => bo (fieldPtr v8 2) fun v58 => bnd (st 1 v58 v57 H) fun _ H =>
    jn_5x0 C t1 t2 t5 t6 t7 v8 H)
   (jn_5x0 C t1 t2 t5 t6 t7 v8 H))
  (some (t6, H)) :=
  (congrFun (congrFun (congrArg (fun l => l.getD 0 fun _ _ => none) (loops_eq cd_5 (retK Tryz.prog 84 Tryz.f5.results.toList) (fun _ _ _ => none) (retK Tryz.prog 84 Tryz.f5.results.toList))) [t1, t2, t5, t6, t7]) H).trans (by kernel_rfl)
theorem rn_5 (C : Callee) (a0 a1 : AV) (H : AHeap) {r : AV × AHeap} (h : sh_5 C a0 a1 H = some r) : runF Tryz.prog C 5 [a0, a1] H = some r :=
  runF_K (A := an_5) (c := cd_5) Tryz.func5 (by kernel_rfl) (by kernel_rfl) (by kernel_rfl) ((show _ = sh_5 C a0 a1 H by kernel_rfl).trans h)
def an_6 : Ann := ⟨[], [], []⟩
noncomputable def cd_6 : Code := Tryz.f6.body.getD .skip
noncomputable def jn_6x0 (C : Callee) (t5 : AV) (H : AHeap) : Option (AV × AHeap) :=
  some (t5, H)
noncomputable def sh_6 (C : Callee) (a0 a1 : AV) (H : AHeap) : Option (AV × AHeap) :=
  bo (bi .lss 3 a1 (I 1)) fun v7 =>
  condK v7
  (some ((I 0), H))
  (bo (bi .rem 3 a0 a1) fun v10 =>
   bo (bi .lss 3 v10 (I 0)) fun v12 =>
   condK v12
   (bo (bi .add 3 v10 a1) fun v15 =>
    jn_6x0 C v15 H)
   (jn_6x0 C v10 H))
theorem rn_6 (C : Callee) (a0 a1 : AV) (H : AHeap) {r : AV × AHeap} (h : sh_6 C a0 a1 H = some r) : runF Tryz.prog C 6 [a0, a1] H = some r :=
  runF_K (A := an_6) (c := cd_6) Tryz.func6 (by kernel_rfl) (by kernel_rfl) (by kernel_rfl) ((show _ = sh_6 C a0 a1 H by kernel_rfl).trans h)
def an_7 : Ann := ⟨[(4, [0, 1, 2, 7, 8])], [], []⟩
noncomputable def cd_7 : Code := Tryz.f7.body.getD .skip
noncomputable def lp_7x0 (C : Callee) : List AV → AHeap → Option (AV × AHeap) := (loopsK Tryz.prog C an_7 73 cd_7 (retK Tryz.prog 73 Tryz.f7.results.toList) (fun _ _ _ => none) (retK Tryz.prog 73 Tryz.f7.results.toList)).getD 0 fun _ _ => none
noncomputable def jn_7x1 (C : Callee) (t0 t1 t2 t7 t8 t9 : AV) (H : AHeap) : Option (AV × AHeap) :=
  bnd (lda 3 t9 H) fun v69 H => bnd (bs 31 1 [(0, v69)] H) fun v70 H => bnd (app 48 3 24 t7 v70 H) fun v71 H =>
  bo (bi .add 3 t8 (I 1)) fun v19 =>
  lp_7x0 C [t0, t1, t2, v71, v19] H
noncomputable def jn_7x0 (C : Callee) (t0 t1 t2 t7 t8 t9 : AV) (H : AHeap) : Option (AV × AHeap) :=
  bnd (ix 1 t0 t8 H) fun v45 H => bnd (ld v45 H) fun v46 H => bo (bi .rem 3 v46 (I 31)) fun v47 =>
  bo (bi .eql 3 v47 (I 28)) fun v49 =>
  condK v49
  (bnd (ix 1 t0 t8 H) fun v52 H => bnd (ld v52 H) fun v53 H => bo (bi .quo 3 v53 (I 31)) fun v54 => bo (fieldPtr t9 0) fun v55 => bnd (st 1 v55 v54 H) fun _ H =>
   jn_7x1 C t0 t1 t2 t7 t8 t9 H)
  (bo (bi .eql 3 v47 (I 29)) fun v57 =>
   condK v57
   (bnd (C 14 [t1, t8] H) fun v60 H => bo (fieldPtr t9 1) fun v61 => bnd (st 1 v61 v60 H) fun _ H =>
    jn_7x1 C t0 t1 t2 t7 t8 t9 H)
   (bo (bi .eql 3 v47 (I 30)) fun v63 =>
    condK v63
    (bnd (C 14 [t2, t8] H) fun v66 H => bo (fieldPtr t9 2) fun v67 => bnd (st 1 v67 v66 H) fun _ H =>
     jn_7x1 C t0 t1 t2 t7 t8 t9 H)
    (jn_7x1 C t0 t1 t2 t7 t8 t9 H)))
noncomputable def sh_7 (C : Callee) (a0 a1 a2 : AV) (H : AHeap) : Option (AV × AHeap) :=
  lp_7x0 C [a0, a1, a2, (.s (Go.Value.slice none 0 0)), (I 0)] H
theorem le_7x0 (C : Callee) (t0 t1 t2 t7 t8 : AV) (H : AHeap) : lp_7x0 C [t0, t1, t2, t7, t8] H =
  bnd (lnS t0 H) fun v12 H => bo (bi .lss 3 t8 v12) fun v13 => gdA (some v13) true (liftO (some t8) H) H fun v15 H => gdA (some v13) true (liftO (bi .lss 3 v15 (I 30)) H) H fun v16 H => bo (pickA v13 v16 (B false)) fun v17 =>
  condK v17
  (bnd (ix 1 t0 t8 H) fun v22 H => bnd (ld v22 H) fun v23 H => bnd (C 6 [v23, (I 4)] H) fun v24 H => bo (bi .add 3 (I 1) v24) fun v25 => bnd (C 14 [t1, t8] H) fun v28 H => bnd (C 6 [v28, (I 12)] H) fun v29 H => bo (bd 48 [(0, v25), (1, v29)]) fun v30 => bnd (alc 48 [zI, zI, zI] H) fun v9 H => bnd (st 3 v9 v30 H) fun _ H =>
   bo (fieldPtr v9 0) fun v31 => bnd (ld v31 H) fun v32 H => bo (bi .eql 3 v32 (I 2)) fun v33 => gdA (some v33) false (liftO (fieldPtr v9 0) H) H fun v35 H => gdA (some v33) false (ld v35 H) H fun v36 H => gdA (some v33) false (liftO (bi .eql 3 v36 (I 3)) H) H fun v37 H => bo (pickA v33 (B true) v37) fun v38 =>
   condK v38
   (bnd (C 14 [t2, t8] H) fun v41 H => bo (fieldPtr v9 2) fun v42 => bnd (st 1 v42 v41 H) fun _ H =>
    jn_7x0 C t0 t1 t2 t7 t8 v9 H)
   (jn_7x0 C t0 t1 t2 t7 t8 v9 H))
  (some (t7, H)) :=
  (congrFun (congrFun (congrArg (fun l => l.getD 0 fun _ _ => none) (loops_eq cd_7 (retK Tryz.prog 73 Tryz.f7.results.toList) (fun _ _ _ => none) (retK Tryz.prog 73 Tryz.f7.results.toList))) [t0, t1, t2, t7, t8]) H).trans (by kernel_rfl)
theorem rn_7 (C : Callee) (a0 a1 a2 : AV) (H : AHeap) {r : AV × AHeap} (h : sh_7 C a0 a1 a2 H = some r) : runF Tryz.prog C 7 [a0, a1, a2] H = some r :=
  runF_K (A := an_7) (c := cd_7) Tryz.func7 (by kernel_rfl) (by kernel_rfl) (by kernel_rfl) ((show _ = sh_7 C a0 a1 a2 H by kernel_rfl).trans h)
def an_8 : Ann := ⟨[(11, [2, 8, 32, 33, 34])], [(8, [some false, some true, some true, some false, some false, some false, some false]), (12, [some false, some false, some false, some false, some false, some false, some false, some false, some true, some false, some false, some false, some false, some false])], []⟩
noncomputable def cd_8 : Code := Tryz.f8.body.getD .skip
noncomputable def lp_8x0 (C : Callee) : List AV → AHeap → Option (AV × AHeap) := (loopsK Tryz.prog C an_8 54 cd_8 (retK Tryz.prog 54 Tryz.f8.results.toList) (fun _ _ _ => none) (retK Tryz.prog 54 Tryz.f8.results.toList)).getD 0 fun _ _ => none
noncomputable def sh_8 (C : Callee) (a0 a1 : AV) (H : AHeap) : Option (AV × AHeap) :=
  bnd (boxA 26 a0 H) fun v2 H =>
  bnd (lda 8 v2 H) fun v11 H => bnd (C 15 [v11] H) fun v12 H =>
  bo (bi .neq 34 v12 (I 0)) fun v14 =>
  condK v14
  (some (.tup [(.s (Go.Value.pointer none)), v12], H))
  (bnd (lda 8 v2 H) fun v16 H => bnd (C 16 [v16, a1] H) fun v18 H =>
   bo (bi .neq 34 v18 (I 0)) fun v20 =>
   condK v20
   (some (.tup [(.s (Go.Value.pointer none)), v18], H))
   (bo (fieldPtr v2 7) fun v22 => bnd (ld v22 H) fun v23 H => bnd (C 17 [v23] H) fun v24 H => bo (fieldPtr v2 7) fun v25 => bnd (st 1 v25 v24 H) fun _ H =>
    bnd (lda 8 v2 H) fun v26 H => bnd (unG H (C 18 [v26] H.guard)) fun v27 H => bnd (unG H (C 19 [] H.guard)) fun v28 H => bnd (lda 8 v2 H) fun v29 H => bo (bd 58 [(0, v27), (1, v28), (2, v29)]) fun v30 => bnd (boxA 58 v30 H) fun v31 H =>
    bnd (lnS a1 H) fun v33 H =>
    lp_8x0 C [v2, v31, a1, v33, (I 0)] H))
theorem le_8x0 (C : Callee) (t2 t8 t32 t33 t34 : AV) (H : AHeap) : lp_8x0 C [t2, t8, t32, t33, t34] H =
  bo (bi .lss 3 t34 t33) fun v35 =>
  condK v35
  (bnd (ix 1 t32 t34 H) fun v37 H => bnd (ld v37 H) fun v38 H =>
   bo (nilCheckA t8) fun v41 => bo (fieldPtr v41 10) fun v42 => bnd (ld v42 H) fun v43 H => bnd (lda 8 t2 H) fun v44 H => bnd (unG H (C 20 [v44, t34, v38] H.guard)) fun v47 H => bnd (bs 56 1 [(0, v47)] H) fun v48 H => bnd (app 42 1 8 v43 v48 H) fun v49 H => bo (nilCheckA t8) fun v50 => bo (fieldPtr v50 10) fun v51 => bnd (st 1 v51 v49 H) fun _ H =>
   bo (bi .add 3 t34 (I 1)) fun v52 =>
   lp_8x0 C [t2, t8, t32, t33, v52] H)
  (some (.tup [t8, (I 0)], H)) :=
  (congrFun (congrFun (congrArg (fun l => l.getD 0 fun _ _ => none) (loops_eq cd_8 (retK Tryz.prog 54 Tryz.f8.results.toList) (fun _ _ _ => none) (retK Tryz.prog 54 Tryz.f8.results.toList))) [t2, t8, t32, t33, t34]) H).trans (by kernel_rfl)
theorem rn_8 (C : Callee) (a0 a1 : AV) (H : AHeap) {r : AV × AHeap} (h : sh_8 C a0 a1 H = some r) : runF Tryz.prog C 8 [a0, a1] H = some r :=
  runF_K (A := an_8) (c := cd_8) Tryz.func8 (by kernel_rfl) (by kernel_rfl) (by kernel_rfl) ((show _ = sh_8 C a0 a1 H by kernel_rfl).trans h)
def an_9 : Ann := ⟨[(6, [1, 2, 6, 7])], [(3, [some false, some false, some true, some false, some false, some false]), (7, [some false, some false, some false, some false, some false, some false, some false, some false, some false, some false, some false, some true, some false, some false, some false, some false, some false])], []⟩
noncomputable def cd_9 : Code := Tryz.f9.body.getD .skip
noncomputable def lp_9x0 (C : Callee) : List AV → AHeap → Option (AV × AHeap) := (loopsK Tryz.prog C an_9 45 cd_9 (retK Tryz.prog 45 Tryz.f9.results.toList) (fun _ _ _ => none) (retK Tryz.prog 45 Tryz.f9.results.toList)).getD 0 fun _ _ => none
noncomputable def sh_9 (C : Callee) (a0 a1 : AV) (H : AHeap) : Option (AV × AHeap) :=
  bnd (boxA 26 a0 H) fun v2 H =>
  bnd (lda 8 v2 H) fun v8 H => bnd (C 21 [v8] H) fun v9 H => bo (un .not v9) fun v10 => gdA (some v10) false (lda 8 v2 H) H fun v12 H => gdA (some v10) false (liftO (some a1) H) H fun v13 H => gdA (some v10) false (C 22 [v12, v13] H) H fun v14 H => gdA (some v10) false (liftO (un .not v14) H) H fun v15 H => bo (pickA v10 (B true) v15) fun v16 =>
  condK v16
  (some (.tup [(.s (Go.Value.pointer none)), (B false)], H))
  (bnd (lda 8 v2 H) fun v17 H => bnd (lda 8 v2 H) fun v18 H => bnd (unG H (C 23 [v18] H.guard)) fun v19 H => bo (bd 67 [(0, v17), (1, v19)]) fun v20 => bnd (boxA 67 v20 H) fun v21 H =>
   lp_9x0 C [a1, v2, v21, (I 0)] H)
theorem le_9x0 (C : Callee) (t1 t2 t6 t7 : AV) (H : AHeap) : lp_9x0 C [t1, t2, t6, t7] H =
  bo (fieldPtr t2 0) fun v23 => bnd (ld v23 H) fun v24 H => bo (bi .lss 3 t7 v24) fun v25 =>
  condK v25
  (bo (nilCheckA t6) fun v30 => bo (fieldPtr v30 9) fun v31 => bnd (ld v31 H) fun v32 H => bnd (lda 8 t2 H) fun v33 H => bnd (ix 1 t1 t7 H) fun v37 H => bnd (ld v37 H) fun v38 H => bnd (unG H (C 24 [v33, t7, v38] H.guard)) fun v39 H => bnd (bs 64 1 [(0, v39)] H) fun v40 H => bnd (app 68 1 8 v32 v40 H) fun v41 H => bo (nilCheckA t6) fun v42 => bo (fieldPtr v42 9) fun v43 => bnd (st 1 v43 v41 H) fun _ H =>
   bo (bi .add 3 t7 (I 1)) fun v27 =>
   lp_9x0 C [t1, t2, t6, v27] H)
  (some (.tup [t6, (B true)], H)) :=
  (congrFun (congrFun (congrArg (fun l => l.getD 0 fun _ _ => none) (loops_eq cd_9 (retK Tryz.prog 45 Tryz.f9.results.toList) (fun _ _ _ => none) (retK Tryz.prog 45 Tryz.f9.results.toList))) [t1, t2, t6, t7]) H).trans (by kernel_rfl)
theorem rn_9 (C : Callee) (a0 a1 : AV) (H : AHeap) {r : AV × AHeap} (h : sh_9 C a0 a1 H = some r) : runF Tryz.prog C 9 [a0, a1] H = some r :=
  runF_K (A := an_9) (c := cd_9) Tryz.func9 (by kernel_rfl) (by kernel_rfl) (by kernel_rfl) ((show _ = sh_9 C a0 a1 H by kernel_rfl).trans h)
def an_10 : Ann := ⟨[], [], []⟩
noncomputable def cd_10 : Code := Tryz.f10.body.getD .skip
noncomputable def sh_10 (C : Callee) (H : AHeap) : Option (AV × AHeap) :=
  bo (bd 26 [(0, (I 1)), (1, (I 1)), (2, (I 1)), (3, (I 1)), (4, (I 1)), (5, (I 1)), (6, (I 1))]) fun v6 => bnd (bs 28 1 [(0, (.s (Go.Value.slice none 0 0)))] H) fun v7 H => bnd (C 8 [v6, v7] H) fun v8 H => bo (extractA v8 0) fun v9 => bo (extractA v8 1) fun v10 =>
  bo (bd 26 []) fun v12 => bnd (C 8 [v12, (.s (Go.Value.slice none 0 0))] H) fun v13 H => bo (extractA v13 0) fun v14 => bo (extractA v13 1) fun v15 =>
  bo (bi .eql 34 v10 (I 0)) fun v17 => gdA (some v17) true (liftO (some v9) H) H fun v19 H => gdA (some v17) true (liftO (bi .neq 33 v19 (.s (Go.Value.pointer none))) H) H fun v20 H => bo (pickA v17 v20 (B false)) fun v21 => gdA (some v21) true (liftO (some v9) H) H fun v23 H => gdA (some v21) true (C 25 [v23] H) H fun v24 H => bo (pickA v21 v24 (B false)) fun v25 => gdA (some v25) true (liftO (some v9) H) H fun v27 H => gdA (some v25) true (C 26 [v27] H) H fun v28 H => gdA (some v25) true (liftO (bi .eql 3 v28 (I 0)) H) H fun v29 H => bo (pickA v25 v29 (B false)) fun v30 => gdA (some v30) true (liftO (some v15) H) H fun v32 H => gdA (some v30) true (liftO (bi .eql 34 v32 (I 1)) H) H fun v33 H => bo (pickA v30 v33 (B false)) fun v34 => gdA (some v34) true (liftO (some v14) H) H fun v36 H => gdA (some v34) true (liftO (bi .eql 33 v36 (.s (Go.Value.pointer none))) H) H fun v37 H => bo (pickA v34 v37 (B false)) fun v38 =>
  some (v38, H)
theorem rn_10 (C : Callee) (H : AHeap) {r : AV × AHeap} (h : sh_10 C H = some r) : runF Tryz.prog C 10 [] H = some r :=
  runF_K (A := an_10) (c := cd_10) Tryz.func10 (by kernel_rfl) (by kernel_rfl) (by kernel_rfl) ((show _ = sh_10 C H by kernel_rfl).trans h)
def an_11 : Ann := ⟨[(8, [0, 1, 55, 56, 57]), (15, [0, 1, 84, 85])], [(1, [some false, some false, some false, some false, some false, some false, some false, some false, some false, some false, some false, some false, some false, some false, some false, some false, some false, some false, some false, some false, some false, some true, some false, some false, some false, some false, some false, some false, some false]), (17, [some false, some false, some false, some false, some false, some false, some false, some false, some false, some false, some false, some false, some false, some false, some false, some false, some false, some false, some false, some false, some false, some true, some false, some false, some false, some false, some false, some false, some false, some false, some false, some false])], []⟩
noncomputable def cd_11 : Code := Tryz.f11.body.getD .skip
noncomputable def lp_11x0 (C : Callee) : List AV → AHeap → Option (AV × AHeap) := (loopsK Tryz.prog C an_11 130 cd_11 (retK Tryz.prog 130 Tryz.f11.results.toList) (fun _ _ _ => none) (retK Tryz.prog 130 Tryz.f11.results.toList)).getD 0 fun _ _ => none
noncomputable def lp_11x1 (C : Callee) : List AV → AHeap → Option (AV × AHeap) := (loopsK Tryz.prog C an_11 130 cd_11 (retK Tryz.prog 130 Tryz.f11.results.toList) (fun _ _ _ => none) (retK Tryz.prog 130 Tryz.f11.results.toList)).getD 1 fun _ _ => none
noncomputable def sh_11 (C : Callee) (a0 a1 : AV) (H : AHeap) : Option (AV × AHeap) :=
  bo (bi .eql 33 a0 (.s (Go.Value.pointer none))) fun v14 => gdA (some v14) false (liftO (some a0) H) H fun v16 H => gdA (some v14) false (C 26 [v16] H) H fun v17 H => gdA (some v14) false (liftO (some a1) H) H fun v18 H => gdA (some v14) false (C 27 [v18] H) H fun v19 H => gdA (some v14) false (liftO (bi .neq 3 v17 v19) H) H fun v20 H => bo (pickA v14 (B true) v20) fun v21 => gdA (some v21) false (liftO (some a0) H) H fun v23 H => gdA (some v21) false (C 25 [v23] H) H fun v24 H => gdA (some v21) false (liftO (some a1) H) H fun v25 H => gdA (some v21) false (C 28 [v25] H) H fun v26 H => gdA (some v21) false (liftO (bi .neq 4 v24 v26) H) H fun v27 H => bo (pickA v21 (B true) v27) fun v28 => gdA (some v28) false (liftO (some a0) H) H fun v30 H => gdA (some v28) false (liftO (nilCheckA v30) H) H fun v31 H => gdA (some v28) false (liftO (fieldPtr v31 1) H) H fun v32 H => gdA (some v28) false (ld v32 H) H fun v33 H => gdA (some v28) false (unG H (C 30 [v33] H.guard)) H fun v34 H => gdA (some v28) false (liftO (some a1) H) H fun v35 H => gdA (some v28) false (liftO (nilCheckA v35) H) H fun v36 H => gdA (some v28) false (liftO (fieldPtr v36 10) H) H fun v37 H => gdA (some v28) false (ld v37 H) H fun v38 H => gdA (some v28) false (C 29 [v34, v38] H) H fun v39 H => gdA (some v28) false (liftO (un .not v39) H) H fun v40 H => bo (pickA v28 (B true) v40) fun v41 =>
  condK v41
  (some ((B false), H))
  (bo (nilCheckA a1) fun v43 => bo (fieldPtr v43 8) fun v44 => bnd (ld v44 H) fun v45 H => bnd (C 31 [v45] H) fun v46 H =>
   bo (nilCheckA a0) fun v48 => bo (fieldPtr v48 0) fun v49 => bnd (ld v49 H) fun v50 H => bnd (C 32 [v50] H) fun v51 H => bnd (lnS v46 H) fun v53 H => bo (bi .neq 3 v51 v53) fun v54 =>
   condK v54
   (some ((B false), H))
   (bnd (lnS v46 H) fun v56 H =>
    lp_11x0 C [a0, a1, v46, v56, (I 0)] H))
theorem le_11x0 (C : Callee) (t0 t1 t55 t56 t57 : AV) (H : AHeap) : lp_11x0 C [t0, t1, t55, t56, t57] H =
  bo (bi .lss 3 t57 t56) fun v58 =>
  condK v58
  (bnd (ix 9 t55 t57 H) fun v60 H => bnd (lda 9 v60 H) fun v61 H => bnd (alc 78 [zI, zI, zI, zI, zI, zI, zI, zB, zN] H) fun v7 H => bnd (st 9 v7 v61 H) fun _ H =>
   bo (nilCheckA t0) fun v64 => bo (fieldPtr v64 0) fun v65 => bnd (ld v65 H) fun v66 H => bnd (C 33 [v66, t57] H) fun v68 H => bo (extractA v68 0) fun v69 => bo (extractA v68 1) fun v70 => bnd (alc 78 [zI, zI, zI, zI, zI, zI, zI, zB, zN] H) fun v8 H => bnd (st 9 v8 v69 H) fun _ H =>
   bo (un .not v70) fun v72 => gdA (some v72) false (lda 9 v7 H) H fun v74 H => gdA (some v72) false (lda 9 v8 H) H fun v75 H => gdA (some v72) false (C 34 [v74, v75] H) H fun v76 H => gdA (some v72) false (liftO (un .not v76) H) H fun v77 H => bo (pickA v72 (B true) v77) fun v78 =>
   condK v78
   (some ((B false), H))
   (bo (bi .add 3 t57 (I 1)) fun v79 =>
    lp_11x0 C [t0, t1, t55, t56, v79] H))
  (bo (nilCheckA t1) fun v81 => bo (fieldPtr v81 9) fun v82 => bnd (ld v82 H) fun v83 H => bnd (lnS v83 H) fun v84 H =>
   lp_11x1 C [t0, t1, v84, (I 0)] H) :=
  (congrFun (congrFun (congrArg (fun l => l.getD 0 fun _ _ => none) (loops_eq cd_11 (retK Tryz.prog 130 Tryz.f11.results.toList) (fun _ _ _ => none) (retK Tryz.prog 130 Tryz.f11.results.toList))) [t0, t1, t55, t56, t57]) H).trans (by kernel_rfl)
theorem le_11x1 (C : Callee) (t0 t1 t84 t85 : AV) (H : AHeap) : lp_11x1 C [t0, t1, t84, t85] H =
  bo (bi .lss 3 t85 t84) fun v86 =>
  condK v86
  (bo (nilCheckA t0) fun v90 => bo (fieldPtr v90 0) fun v91 => bnd (ld v91 H) fun v92 H => bnd (C 35 [v92, t85] H) fun v94 H => bo (extractA v94 0) fun v95 => bo (extractA v94 1) fun v96 =>
   bo (nilCheckA t1) fun v99 => bo (fieldPtr v99 8) fun v100 => bnd (ld v100 H) fun v101 H => bnd (C 36 [v101, t85, (I 0)] H) fun v103 H => bo (bi .neq 3 v95 v103) fun v104 => gdA (some v104) false (liftO (some v96) H) H fun v106 H => gdA (some v104) false (liftO (some t1) H) H fun v107 H => gdA (some v104) false (liftO (nilCheckA v107) H) H fun v108 H => gdA (some v104) false (liftO (fieldPtr v108 8) H) H fun v109 H => gdA (some v104) false (ld v109 H) H fun v110 H => gdA (some v104) false (liftO (some t85) H) H fun v111 H => gdA (some v104) false (C 36 [v110, v111, (I 1)] H) H fun v112 H => gdA (some v104) false (liftO (bi .neq 3 v106 v112) H) H fun v113 H => bo (pickA v104 (B true) v113) fun v114 => gdA (some v114) false (liftO (some t0) H) H fun v116 H => gdA (some v114) false (liftO (some t85) H) H fun v117 H => gdA (some v114) false (unG H (C 12 [v116, v117] H.guard)) H fun v118 H => gdA (some v114) false (liftO (some t1) H) H fun v119 H => gdA (some v114) false (liftO (nilCheckA v119) H) H fun v120 H => gdA (some v114) false (liftO (fieldPtr v120 9) H) H fun v121 H => gdA (some v114) false (ld v121 H) H fun v122 H => gdA (some v114) false (liftO (some t85) H) H fun v123 H => gdA (some v114) false (ix 1 v122 v123 H) H fun v124 H => gdA (some v114) false (ld v124 H) H fun v125 H => gdA (some v114) false (C 37 [v118, v125] H) H fun v126 H => gdA (some v114) false (liftO (un .not v126) H) H fun v127 H => bo (pickA v114 (B true) v127) fun v128 =>
   condK v128
   (some ((B false), H))
   (bo (bi .add 3 t85 (I 1)) fun v129 =>
    lp_11x1 C [t0, t1, t84, v129] H))
  (some ((B true), H)) :=
  (congrFun (congrFun (congrArg (fun l => l.getD 1 fun _ _ => none) (loops_eq cd_11 (retK Tryz.prog 130 Tryz.f11.results.toList) (fun _ _ _ => none) (retK Tryz.prog 130 Tryz.f11.results.toList))) [t0, t1, t84, t85]) H).trans (by kernel_rfl)
theorem rn_11 (C : Callee) (a0 a1 : AV) (H : AHeap) {r : AV × AHeap} (h : sh_11 C a0 a1 H = some r) : runF Tryz.prog C 11 [a0, a1] H = some r :=
  runF_K (A := an_11) (c := cd_11) Tryz.func11 (by kernel_rfl) (by kernel_rfl) (by kernel_rfl) ((show _ = sh_11 C a0 a1 H by kernel_rfl).trans h)
def an_12 : Ann := ⟨[], [], []⟩
noncomputable def cd_12 : Code := Tryz.f12.body.getD .skip
noncomputable def sh_12 (C : Callee) (a0 a1 : AV) (H : AHeap) : Option (AV × AHeap) :=
  bo (bi .lss 3 a1 (I 0)) fun v6 => gdA (some v6) false (liftO (some a1) H) H fun v8 H => gdA (some v6) false (liftO (some a0) H) H fun v9 H => gdA (some v6) false (liftO (nilCheckA v9) H) H fun v10 H => gdA (some v6) false (liftO (fieldPtr v10 10) H) H fun v11 H => gdA (some v6) false (ld v11 H) H fun v12 H => gdA (some v6) false (lnS v12 H) H fun v13 H => gdA (some v6) false (liftO (bi .geq 3 v8 v13) H) H fun v14 H => bo (pickA v6 (B true) v14) fun v15 =>
  condK v15
  (some ((.s (Go.Value.pointer none)), H))
  (bo (nilCheckA a0) fun v17 => bo (fieldPtr v17 10) fun v18 => bnd (ld v18 H) fun v19 H => bnd (ix 1 v19 a1 H) fun v21 H => bnd (ld v21 H) fun v22 H =>
   some (v22, H))
theorem rn_12 (C : Callee) (a0 a1 : AV) (H : AHeap) {r : AV × AHeap} (h : sh_12 C a0 a1 H = some r) : runF Tryz.prog C 12 [a0, a1] H = some r :=
  runF_K (A := an_12) (c := cd_12) Tryz.func12 (by kernel_rfl) (by kernel_rfl) (by kernel_rfl) ((show _ = sh_12 C a0 a1 H by kernel_rfl).trans h)
def an_13 : Ann := ⟨[], [], []⟩
noncomputable def cd_13 : Code := Tryz.f13.body.getD .skip
noncomputable def sh_13 (C : Callee) (a0 a1 : AV) (H : AHeap) : Option (AV × AHeap) :=
  bnd (lnS a0 H) fun v7 H => bnd (liftO (minMaxA Tryz.prog false #[3, 3] 3 [v7, a1]) H) fun v9 H => bo (slS 1 a0 none (some v9) none) fun v10 => bnd (C 38 [v10] H) fun v11 H =>
  some (v11, H)
theorem rn_13 (C : Callee) (a0 a1 : AV) (H : AHeap) {r : AV × AHeap} (h : sh_13 C a0 a1 H = some r) : runF Tryz.prog C 13 [a0, a1] H = some r :=
  runF_K (A := an_13) (c := cd_13) Tryz.func13 (by kernel_rfl) (by kernel_rfl) (by kernel_rfl) ((show _ = sh_13 C a0 a1 H by kernel_rfl).trans h)
def an_14 : Ann := ⟨[], [], []⟩
noncomputable def cd_14 : Code := Tryz.f14.body.getD .skip
noncomputable def sh_14 (C : Callee) (a0 a1 : AV) (H : AHeap) : Option (AV × AHeap) :=
  bnd (lnS a0 H) fun v7 H => bo (bi .lss 3 a1 v7) fun v8 =>
  condK v8
  (bnd (ix 1 a0 a1 H) fun v11 H => bnd (ld v11 H) fun v12 H =>
   some (v12, H))
  (some ((I 0), H))
theorem rn_14 (C : Callee) (a0 a1 : AV) (H : AHeap) {r : AV × AHeap} (h : sh_14 C a0 a1 H = some r) : runF Tryz.prog C 14 [a0, a1] H = some r :=
  runF_K (A := an_14) (c := cd_14) Tryz.func14 (by kernel_rfl) (by kernel_rfl) (by kernel_rfl) ((show _ = sh_14 C a0 a1 H by kernel_rfl).trans h)
def an_15 : Ann := ⟨[], [], []⟩
noncomputable def cd_15 : Code := Tryz.f15.body.getD .skip
noncomputable def sh_15 (C : Callee) (a0 : AV) (H : AHeap) : Option (AV × AHeap) :=
  bnd (boxA 26 a0 H) fun v1 H =>
  bo (fieldPtr v1 0) fun v6 => bnd (ld v6 H) fun v7 H => bnd (C 39 [v7, (I 6)] H) fun v8 H => gdA (some v8) true (liftO (fieldPtr v1 1) H) H fun v10 H => gdA (some v8) true (ld v10 H) H fun v11 H => gdA (some v8) true (C 39 [v11, (I 8)] H) H fun v12 H => bo (pickA v8 v12 (B false)) fun v13 => gdA (some v13) true (liftO (fieldPtr v1 2) H) H fun v15 H => gdA (some v13) true (ld v15 H) H fun v16 H => gdA (some v13) true (C 39 [v16, (I 4)] H) H fun v17 H => bo (pickA v13 v17 (B false)) fun v18 =>
  bo (fieldPtr v1 3) fun v19 => bnd (ld v19 H) fun v20 H => bnd (C 39 [v20, (I 4)] H) fun v21 H => gdA (some v21) true (liftO (fieldPtr v1 4) H) H fun v23 H => gdA (some v21) true (ld v23 H) H fun v24 H => gdA (some v21) true (C 39 [v24, (I 3)] H) H fun v25 H => bo (pickA v21 v25 (B false)) fun v26 =>
  bo (fieldPtr v1 5) fun v27 => bnd (ld v27 H) fun v28 H => bnd (C 39 [v28, (I 8)] H) fun v29 H => gdA (some v29) true (liftO (fieldPtr v1 6) H) H fun v31 H => gdA (some v29) true (ld v31 H) H fun v32 H => gdA (some v29) true (C 39 [v32, (I 8)] H) H fun v33 H => bo (pickA v29 v33 (B false)) fun v34 =>
  bo (un .not v18) fun v36 => gdA (some v36) false (liftO (some v26) H) H fun v38 H => gdA (some v36) false (liftO (un .not v38) H) H fun v39 H => bo (pickA v36 (B true) v39) fun v40 => gdA (some v40) false (liftO (some v34) H) H fun v42 H => gdA (some v40) false (liftO (un .not v42) H) H fun v43 H => bo (pickA v40 (B true) v43) fun v44 => gdA (some v44) false (liftO (fieldPtr v1 7) H) H fun v46 H => gdA (some v44) false (ld v46 H) H fun v47 H => gdA (some v44) false (lnS v47 H) H fun v48 H => gdA (some v44) false (liftO (fieldPtr v1 1) H) H fun v49 H => gdA (some v44) false (ld v49 H) H fun v50 H => gdA (some v44) false (liftO (fieldPtr v1 2) H) H fun v51 H => gdA (some v44) false (ld v51 H) H fun v52 H => gdA (some v44) false (liftO (bi .mul 3 v50 v52) H) H fun v53 H => gdA (some v44) false (liftO (bi .gtr 3 v48 v53) H) H fun v54 H => bo (pickA v44 (B true) v54) fun v55 =>
  condK v55
  (some ((I 1), H))
  (some ((I 0), H))
theorem rn_15 (C : Callee) (a0 : AV) (H : AHeap) {r : AV × AHeap} (h : sh_15 C a0 H = some r) : runF Tryz.prog C 15 [a0] H = some r :=
  runF_K (A := an_15) (c := cd_15) Tryz.func15 (by kernel_rfl) (by kernel_rfl) (by kernel_rfl) ((show _ = sh_15 C a0 H by kernel_rfl).trans h)
def an_16 : Ann := ⟨[], [], []⟩
noncomputable def cd_16 : Code := Tryz.f16.body.getD .skip
noncomputable def sh_16 (C : Callee) (a0 a1 : AV) (H : AHeap) : Option (AV × AHeap) :=
  bnd (boxA 26 a0 H) fun v2 H =>
  bnd (C 40 [a1, (.fn (.func 41) [] [v2])] H) fun v8 H =>
  gdA (some v8) false (liftO (some a1) H) H fun v11 H => gdA (some v8) false (lnS v11 H) H fun v12 H => gdA (some v8) false (liftO (fieldPtr v2 0) H) H fun v13 H => gdA (some v8) false (ld v13 H) H fun v14 H => gdA (some v8) false (liftO (bi .neq 3 v12 v14) H) H fun v15 H => bo (pickA v8 (B true) v15) fun v16 =>
  condK v16
  (some ((I 1), H))
  (some ((I 0), H))
theorem rn_16 (C : Callee) (a0 a1 : AV) (H : AHeap) {r : AV × AHeap} (h : sh_16 C a0 a1 H = some r) : runF Tryz.prog C 16 [a0, a1] H = some r :=
  runF_K (A := an_16) (c := cd_16) Tryz.func16 (by kernel_rfl) (by kernel_rfl) (by kernel_rfl) ((show _ = sh_16 C a0 a1 H by kernel_rfl).trans h)
def an_17 : Ann := ⟨[], [], []⟩
noncomputable def cd_17 : Code := Tryz.f17.body.getD .skip
noncomputable def sh_17 (C : Callee) (a0 : AV) (H : AHeap) : Option (AV × AHeap) :=
  bo (bi .eql 22 a0 (.s (Go.Value.slice none 0 0))) fun v4 =>
  condK v4
  (some ((.s (Go.Value.slice none 0 0)), H))
  (bnd (bs 22 0 [] H) fun v5 H => bnd (app 3 1 8 v5 a0 H) fun v7 H =>
   some (v7, H))
theorem rn_17 (C : Callee) (a0 : AV) (H : AHeap) {r : AV × AHeap} (h : sh_17 C a0 H = some r) : runF Tryz.prog C 17 [a0] H = some r :=
  runF_K (A := an_17) (c := cd_17) Tryz.func17 (by kernel_rfl) (by kernel_rfl) (by kernel_rfl) ((show _ = sh_17 C a0 H by kernel_rfl).trans h)
def an_18 : Ann := ⟨[(4, [1, 3, 7, 8])], [(4, [some false, some false, some false, some false, some false, some false, some false, some true, some false, some false, some true, some false, some false, some false, some true, some true, some false, some false, some false, some false, some false, some false, some false])], []⟩
noncomputable def cd_18 : Code := Tryz.f18.body.getD .skip
noncomputable def lp_18x0 (C : Callee) : List AV → AHeap → Option (AV × AHeap) := (loopsK Tryz.prog C an_18 34 cd_18 (retK Tryz.prog 34 Tryz.f18.results.toList) (fun _ _ _ => none) (retK Tryz.prog 34 Tryz.f18.results.toList)).getD 0 fun _ _ => none
noncomputable def sh_18 (C : Callee) (a0 : AV) (H : AHeap) : Option (AV × AHeap) :=
  bnd (boxA 26 a0 H) fun v1 H =>
  bo (bd 93 []) fun v4 => bnd (boxA 93 v4 H) fun v5 H =>
  bo (fieldPtr v1 0) fun v6 => bnd (ld v6 H) fun v7 H =>
  lp_18x0 C [v1, v5, v7, (I 0)] H
theorem le_18x0 (C : Callee) (t1 t3 t7 t8 : AV) (H : AHeap) : lp_18x0 C [t1, t3, t7, t8] H =
  bo (bi .lss 3 t8 t7) fun v9 =>
  condK v9
  (bo (nilCheckA t3) fun v12 => bo (fieldPtr v12 0) fun v13 => bnd (ld v13 H) fun v14 H => bo (fieldPtr t1 5) fun v15 => bnd (ld v15 H) fun v16 H => bnd (unG H (C 45 [v16] H.guard)) fun v17 H => bo (fieldPtr t1 6) fun v18 => bnd (ld v18 H) fun v19 H => bnd (unG H (C 46 [v19] H.guard)) fun v20 H => bo (bd 99 [(0, v17), (1, v20)]) fun v21 => bo (fieldPtr t1 5) fun v22 => bnd (ld v22 H) fun v23 H => bnd (unG H (C 45 [v23] H.guard)) fun v24 H => bnd (unG H (C 46 [(I 1)] H.guard)) fun v25 H => bo (bd 99 [(0, v24), (1, v25)]) fun v26 => bo (bd 101 [(0, v21), (1, v26)]) fun v27 => bnd (bs 91 1 [(0, v27)] H) fun v28 H => bnd (app 101 4 32 v14 v28 H) fun v29 H => bo (nilCheckA t3) fun v30 => bo (fieldPtr v30 0) fun v31 => bnd (st 1 v31 v29 H) fun _ H =>
   bo (bi .add 3 t8 (I 1)) fun v32 =>
   lp_18x0 C [t1, t3, t7, v32] H)
  (some (t3, H)) :=
  (congrFun (congrFun (congrArg (fun l => l.getD 0 fun _ _ => none) (loops_eq cd_18 (retK Tryz.prog 34 Tryz.f18.results.toList) (fun _ _ _ => none) (retK Tryz.prog 34 Tryz.f18.results.toList))) [t1, t3, t7, t8]) H).trans (by kernel_rfl)
theorem rn_18 (C : Callee) (a0 : AV) (H : AHeap) {r : AV × AHeap} (h : sh_18 C a0 H = some r) : runF Tryz.prog C 18 [a0] H = some r :=
  runF_K (A := an_18) (c := cd_18) Tryz.func18 (by kernel_rfl) (by kernel_rfl) (by kernel_rfl) ((show _ = sh_18 C a0 H by kernel_rfl).trans h)
def an_19 : Ann := ⟨[], [], []⟩
noncomputable def cd_19 : Code := Tryz.f19.body.getD .skip
noncomputable def sh_19 (C : Callee) (H : AHeap) : Option (AV × AHeap) :=
  bo (bd 103 []) fun v1 => bnd (boxA 103 v1 H) fun v2 H =>
  some (v2, H)
theorem rn_19 (C : Callee) (H : AHeap) {r : AV × AHeap} (h : sh_19 C H = some r) : runF Tryz.prog C 19 [] H = some r :=
  runF_K (A := an_19) (c := cd_19) Tryz.func19 (by kernel_rfl) (by kernel_rfl) (by kernel_rfl) ((show _ = sh_19 C H by kernel_rfl).trans h)
def an_20 : Ann := ⟨[], [(1, [some false, some false, some false, some false, some true, some false, some true, some false, some false, some false, some false, some true, some false, some false, some false, some false])], []⟩
noncomputable def cd_20 : Code := Tryz.f20.body.getD .skip
noncomputable def sh_20 (C : Callee) (a0 a1 a2 : AV) (H : AHeap) : Option (AV × AHeap) :=
  bnd (boxA 26 a0 H) fun v3 H =>
  bo (fieldPtr v3 3) fun v7 => bnd (ld v7 H) fun v8 H => bo (fieldPtr v3 4) fun v9 => bnd (ld v9 H) fun v10 H => bnd (unG H (C 47 [v8, v10] H.guard)) fun v11 H => bnd (unG H (C 48 [a2] H.guard)) fun v13 H => bnd (lda 8 v3 H) fun v14 H => bnd (lda 8 v3 H) fun v16 H => bnd (unG H (C 49 [v16, a1] H.guard)) fun v18 H => bo (bd 111 [(0, v18)]) fun v19 => bo (bd 115 [(0, v11), (1, v13), (2, v14), (3, a1), (4, v19)]) fun v20 => bnd (boxA 115 v20 H) fun v21 H =>
  some (v21, H)
theorem rn_20 (C : Callee) (a0 a1 a2 : AV) (H : AHeap) {r : AV × AHeap} (h : sh_20 C a0 a1 a2 H = some r) : runF Tryz.prog C 20 [a0, a1, a2] H = some r :=
  runF_K (A := an_20) (c := cd_20) Tryz.func20 (by kernel_rfl) (by kernel_rfl) (by kernel_rfl) ((show _ = sh_20 C a0 a1 a2 H by kernel_rfl).trans h)
def an_21 : Ann := ⟨[], [], []⟩
noncomputable def cd_21 : Code := Tryz.f21.body.getD .skip
noncomputable def sh_21 (C : Callee) (a0 : AV) (H : AHeap) : Option (AV × AHeap) :=
  bnd (boxA 26 a0 H) fun v1 H =>
  bo (fieldPtr v1 0) fun v3 => bnd (ld v3 H) fun v4 H => bnd (C 50 [v4, (I 6)] H) fun v5 H => gdA (some v5) true (liftO (fieldPtr v1 1) H) H fun v7 H => gdA (some v5) true (ld v7 H) H fun v8 H => gdA (some v5) true (C 50 [v8, (I 8)] H) H fun v9 H => bo (pickA v5 v9 (B false)) fun v10 => gdA (some v10) true (liftO (fieldPtr v1 2) H) H fun v12 H => gdA (some v10) true (ld v12 H) H fun v13 H => gdA (some v10) true (C 50 [v13, (I 4)] H) H fun v14 H => bo (pickA v10 v14 (B false)) fun v15 => gdA (some v15) true (liftO (fieldPtr v1 3) H) H fun v17 H => gdA (some v15) true (ld v17 H) H fun v18 H => gdA (some v15) true (C 50 [v18, (I 4)] H) H fun v19 H => bo (pickA v15 v19 (B false)) fun v20 => gdA (some v20) true (liftO (fieldPtr v1 4) H) H fun v22 H => gdA (some v20) true (ld v22 H) H fun v23 H => gdA (some v20) true (C 50 [v23, (I 3)] H) H fun v24 H => bo (pickA v20 v24 (B false)) fun v25 => gdA (some v25) true (liftO (fieldPtr v1 5) H) H fun v27 H => gdA (some v25) true (ld v27 H) H fun v28 H => gdA (some v25) true (C 50 [v28, (I 8)] H) H fun v29 H => bo (pickA v25 v29 (B false)) fun v30 => gdA (some v30) true (liftO (fieldPtr v1 6) H) H fun v32 H => gdA (some v30) true (ld v32 H) H fun v33 H => gdA (some v30) true (C 50 [v33, (I 8)] H) H fun v34 H => bo (pickA v30 v34 (B false)) fun v35 => gdA (some v35) true (liftO (fieldPtr v1 7) H) H fun v37 H => gdA (some v35) true (ld v37 H) H fun v38 H => gdA (some v35) true (lnS v38 H) H fun v39 H => gdA (some v35) true (liftO (fieldPtr v1 1) H) H fun v40 H => gdA (some v35) true (ld v40 H) H fun v41 H => gdA (some v35) true (liftO (fieldPtr v1 2) H) H fun v42 H => gdA (some v35) true (ld v42 H) H fun v43 H => gdA (some v35) true (liftO (bi .mul 3 v41 v43) H) H fun v44 H => gdA (some v35) true (liftO (bi .leq 3 v39 v44) H) H fun v45 H => bo (pickA v35 v45 (B false)) fun v46 =>
  some (v46, H)
theorem rn_21 (C : Callee) (a0 : AV) (H : AHeap) {r : AV × AHeap} (h : sh_21 C a0 H = some r) : runF Tryz.prog C 21 [a0] H = some r :=
  runF_K (A := an_21) (c := cd_21) Tryz.func21 (by kernel_rfl) (by kernel_rfl) (by kernel_rfl) ((show _ = sh_21 C a0 H by kernel_rfl).trans h)
def an_22 : Ann := ⟨[(5, [2, 14, 15, 16]), (10, [2, 14, 15, 16, 23, 24, 25])], [], []⟩
noncomputable def cd_22 : Code := Tryz.f22.body.getD .skip
noncomputable def lp_22x0 (C : Callee) : List AV → AHeap → Option (AV × AHeap) := (loopsK Tryz.prog C an_22 35 cd_22 (retK Tryz.prog 35 Tryz.f22.results.toList) (fun _ _ _ => none) (retK Tryz.prog 35 Tryz.f22.results.toList)).getD 0 fun _ _ => none
noncomputable def lp_22x1 (C : Callee) : List AV → AHeap → Option (AV × AHeap) := (loopsK Tryz.prog C an_22 35 cd_22 (retK Tryz.prog 35 Tryz.f22.results.toList) (fun _ _ _ => none) (retK Tryz.prog 35 Tryz.f22.results.toList)).getD 1 fun _ _ => none
noncomputable def sh_22 (C : Callee) (a0 a1 : AV) (H : AHeap) : Option (AV × AHeap) :=
  bnd (boxA 26 a0 H) fun v2 H =>
  bnd (lnS a1 H) fun v10 H => bo (fieldPtr v2 0) fun v11 => bnd (ld v11 H) fun v12 H => bo (bi .neq 3 v10 v12) fun v13 =>
  condK v13
  (some ((B false), H))
  (bnd (lnS a1 H) fun v15 H =>
   lp_22x0 C [v2, a1, v15, (I 0)] H)
theorem le_22x0 (C : Callee) (t2 t14 t15 t16 : AV) (H : AHeap) : lp_22x0 C [t2, t14, t15, t16] H =
  bo (bi .lss 3 t16 t15) fun v17 =>
  condK v17
  (bnd (ix 1 t14 t16 H) fun v18 H => bnd (ld v18 H) fun v19 H =>
   bnd (lnS v19 H) fun v21 H => bo (bi .gtr 3 v21 (I 24)) fun v22 =>
   condK v22
   (some ((B false), H))
   (bnd (lnS v19 H) fun v24 H =>
    lp_22x1 C [t2, t14, t15, t16, v19, v24, (I 0)] H))
  (some ((B true), H)) :=
  (congrFun (congrFun (congrArg (fun l => l.getD 0 fun _ _ => none) (loops_eq cd_22 (retK Tryz.prog 35 Tryz.f22.results.toList) (fun _ _ _ => none) (retK Tryz.prog 35 Tryz.f22.results.toList))) [t2, t14, t15, t16]) H).trans (by kernel_rfl)
theorem le_22x1 (C : Callee) (t2 t14 t15 t16 t23 t24 t25 : AV) (H : AHeap) : lp_22x1 C [t2, t14, t15, t16, t23, t24, t25] H =
  bo (bi .lss 3 t25 t24) fun v26 =>
  condK v26
  (bnd (ix 3 t23 t25 H) fun v27 H => bnd (lda 3 v27 H) fun v28 H => bnd (alc 48 [zI, zI, zI] H) fun v8 H => bnd (st 3 v8 v28 H) fun _ H =>
   bnd (lda 8 t2 H) fun v29 H => bnd (lda 3 v8 H) fun v30 H => bnd (C 51 [v29, v30] H) fun v31 H => bo (un .not v31) fun v32 =>
   condK v32
   (some ((B false), H))
   (bo (bi .add 3 t25 (I 1)) fun v33 =>
    lp_22x1 C [t2, t14, t15, t16, t23, t24, v33] H))
  (bo (bi .add 3 t16 (I 1)) fun v34 =>
   lp_22x0 C [t2, t14, t15, v34] H) :=
  (congrFun (congrFun (congrArg (fun l => l.getD 1 fun _ _ => none) (loops_eq cd_22 (retK Tryz.prog 35 Tryz.f22.results.toList) (fun _ _ _ => none) (retK Tryz.prog 35 Tryz.f22.results.toList))) [t2, t14, t15, t16, t23, t24, t25]) H).trans (by kernel_rfl)
theorem rn_22 (C : Callee) (a0 a1 : AV) (H : AHeap) {r : AV × AHeap} (h : sh_22 C a0 a1 H = some r) : runF Tryz.prog C 22 [a0, a1] H = some r :=
  runF_K (A := an_22) (c := cd_22) Tryz.func22 (by kernel_rfl) (by kernel_rfl) (by kernel_rfl) ((show _ = sh_22 C a0 a1 H by kernel_rfl).trans h)
def an_23 : Ann := ⟨[], [(1, [some false, some false, some false, some false, some false, some false, some false])], []⟩
noncomputable def cd_23 : Code := Tryz.f23.body.getD .skip
noncomputable def sh_23 (C : Callee) (a0 : AV) (H : AHeap) : Option (AV × AHeap) :=
  bnd (boxA 26 a0 H) fun v1 H =>
  bnd (lda 8 v1 H) fun v3 H => bo (fieldPtr v1 0) fun v4 => bnd (ld v4 H) fun v5 H => bnd (mks 131 4 96 [zN, zN, zN, zN] v5 v5 H) fun v6 H => bo (bd 118 [(0, v3), (1, v6)]) fun v7 => bnd (boxA 118 v7 H) fun v8 H =>
  some (v8, H)
theorem rn_23 (C : Callee) (a0 : AV) (H : AHeap) {r : AV × AHeap} (h : sh_23 C a0 H = some r) : runF Tryz.prog C 23 [a0] H = some r :=
  runF_K (A := an_23) (c := cd_23) Tryz.func23 (by kernel_rfl) (by kernel_rfl) (by kernel_rfl) ((show _ = sh_23 C a0 H by kernel_rfl).trans h)
def an_24 : Ann := ⟨[], [(1, [some false, some false, some false, some false, some false, some false, some true, some false, some false, some true, some false, some false, some false, some false, some false])], [(1, [(0, 11)])]⟩
noncomputable def cd_24 : Code := Tryz.f24.body.getD .skip
noncomputable def sh_24 (C : Callee) (a0 a1 a2 : AV) (H : AHeap) : Option (AV × AHeap) :=
  bnd (boxA 26 a0 H) fun v3 H =>
  bnd (lda 8 v3 H) fun v7 H0 => bo (fieldPtr v3 3) fun v9 => bnd (ld v9 H0) fun v10 H3 => bo (fieldPtr v3 4) fun v11 => bnd (ld v11 H3) fun v12 H5 => bnd (unG H5 (C 52 [v10, v12] H5.guard)) fun v13 H6 => bnd (lda 8 v3 H6) fun v14 H7 => bnd (unG H7 (C 53 [v14, a1] H7.guard)) fun v16 H9 => bnd (app 48 3 24 (.s (Go.Value.slice none 0 0)) a2 H9) fun v18 H11 => bo (bd 125 [(0, v7), (1, a1), (2, v13), (3, v16), (4, v18)]) fun v19 => bnd (boxA 125 v19 H11) fun v20 H13 => ck (watchV v3) H9 H11 <|
  some (v20, H13)
theorem rn_24 (C : Callee) (a0 a1 a2 : AV) (H : AHeap) {r : AV × AHeap} (h : sh_24 C a0 a1 a2 H = some r) : runF Tryz.prog C 24 [a0, a1, a2] H = some r :=
  runF_K (A := an_24) (c := cd_24) Tryz.func24 (by kernel_rfl) (by kernel_rfl) (by kernel_rfl) ((show _ = sh_24 C a0 a1 a2 H by kernel_rfl).trans h)
def an_25 : Ann := ⟨[(3, [0, 12, 13, 14])], [], []⟩
noncomputable def cd_25 : Code := Tryz.f25.body.getD .skip
noncomputable def lp_25x0 (C : Callee) : List AV → AHeap → Option (AV × AHeap) := (loopsK Tryz.prog C an_25 54 cd_25 (retK Tryz.prog 54 Tryz.f25.results.toList) (fun _ _ _ => none) (retK Tryz.prog 54 Tryz.f25.results.toList)).getD 0 fun _ _ => none
noncomputable def sh_25 (C : Callee) (a0 : AV) (H : AHeap) : Option (AV × AHeap) :=
  bo (nilCheckA a0) fun v10 => bo (fieldPtr v10 10) fun v11 => bnd (ld v11 H) fun v12 H => bnd (lnS v12 H) fun v13 H =>
  lp_25x0 C [a0, v12, v13, (I 0)] H
theorem le_25x0 (C : Callee) (t0 t12 t13 t14 : AV) (H : AHeap) : lp_25x0 C [t0, t12, t13, t14] H =
  bo (bi .lss 3 t14 t13) fun v15 =>
  condK v15
  (bnd (ix 1 t12 t14 H) fun v17 H => bnd (ld v17 H) fun v18 H =>
   bnd (C 54 [v18] H) fun v21 H => bo (extractA v21 0) fun v22 => bo (extractA v21 1) fun v23 => bnd (alc 113 [zI, zI, zI, zI, zI, zI, zN, zI, zI] H) fun v5 H => bnd (st 9 v5 v22 H) fun _ H =>
   bo (nilCheckA t0) fun v26 => bo (fieldPtr v26 0) fun v27 => bnd (ld v27 H) fun v28 H => bnd (C 35 [v28, t14] H) fun v30 H => bo (extractA v30 0) fun v31 => bo (extractA v30 1) fun v32 =>
   gdA (some v23) false (liftO (some v18) H) H fun v35 H => gdA (some v23) false (liftO (nilCheckA v35) H) H fun v36 H => gdA (some v23) false (liftO (fieldPtr v36 1) H) H fun v37 H => gdA (some v23) false (ld v37 H) H fun v38 H => gdA (some v23) false (C 55 [v38] H) H fun v39 H => bo (pickA v23 (B true) v39) fun v40 => gdA (some v40) false (liftO (some v31) H) H fun v42 H => gdA (some v40) false (liftO (some v32) H) H fun v43 H => gdA (some v40) false (liftO (bi .add 3 v42 v43) H) H fun v44 H => gdA (some v40) false (liftO (bi .gtr 3 v44 (I 0)) H) H fun v45 H => bo (pickA v40 (B true) v45) fun v46 =>
   condK v46
   (some ((B false), H))
   (bo (bi .add 3 t14 (I 1)) fun v47 =>
    lp_25x0 C [t0, t12, t13, v47] H))
  (bo (nilCheckA t0) fun v49 => bo (fieldPtr v49 0) fun v50 => bnd (ld v50 H) fun v51 H => bnd (C 32 [v51] H) fun v52 H => bo (bi .eql 3 v52 (I 0)) fun v53 =>
   some (v53, H)) :=
  (congrFun (congrFun (congrArg (fun l => l.getD 0 fun _ _ => none) (loops_eq cd_25 (retK Tryz.prog 54 Tryz.f25.results.toList) (fun _ _ _ => none) (retK Tryz.prog 54 Tryz.f25.results.toList))) [t0, t12, t13, t14]) H).trans (by kernel_rfl)
theorem rn_25 (C : Callee) (a0 : AV) (H : AHeap) {r : AV × AHeap} (h : sh_25 C a0 H = some r) : runF Tryz.prog C 25 [a0] H = some r :=
  runF_K (A := an_25) (c := cd_25) Tryz.func25 (by kernel_rfl) (by kernel_rfl) (by kernel_rfl) ((show _ = sh_25 C a0 H by kernel_rfl).trans h)
def an_26 : Ann := ⟨[(4, [3, 9, 10, 11])], [], []⟩
noncomputable def cd_26 : Code := Tryz.f26.body.getD .skip
noncomputable def lp_26x0 (C : Callee) : List AV → AHeap → Option (AV × AHeap) := (loopsK Tryz.prog C an_26 24 cd_26 (retK Tryz.prog 24 Tryz.f26.results.toList) (fun _ _ _ => none) (retK Tryz.prog 24 Tryz.f26.results.toList)).getD 0 fun _ _ => none
noncomputable def sh_26 (C : Callee) (a0 : AV) (H : AHeap) : Option (AV × AHeap) :=
  bo (nilCheckA a0) fun v7 => bo (fieldPtr v7 10) fun v8 => bnd (ld v8 H) fun v9 H => bnd (lnS v9 H) fun v10 H =>
  lp_26x0 C [(I 0), v9, v10, (I 0)] H
theorem le_26x0 (C : Callee) (t3 t9 t10 t11 : AV) (H : AHeap) : lp_26x0 C [t3, t9, t10, t11] H =
  bo (bi .lss 3 t11 t10) fun v12 =>
  condK v12
  (bnd (ix 1 t9 t11 H) fun v13 H => bnd (ld v13 H) fun v14 H =>
   bo (nilCheckA v14) fun v17 => bo (fieldPtr v17 1) fun v18 => bnd (ld v18 H) fun v19 H => bnd (C 56 [v19] H) fun v20 H => bo (bi .add 3 t3 v20) fun v21 =>
   bo (bi .add 3 t11 (I 1)) fun v22 =>
   lp_26x0 C [v21, t9, t10, v22] H)
  (some (t3, H)) :=
  (congrFun (congrFun (congrArg (fun l => l.getD 0 fun _ _ => none) (loops_eq cd_26 (retK Tryz.prog 24 Tryz.f26.results.toList) (fun _ _ _ => none) (retK Tryz.prog 24 Tryz.f26.results.toList))) [t3, t9, t10, t11]) H).trans (by kernel_rfl)
theorem rn_26 (C : Callee) (a0 : AV) (H : AHeap) {r : AV × AHeap} (h : sh_26 C a0 H = some r) : runF Tryz.prog C 26 [a0] H = some r :=
  runF_K (A := an_26) (c := cd_26) Tryz.func26 (by kernel_rfl) (by kernel_rfl) (by kernel_rfl) ((show _ = sh_26 C a0 H by kernel_rfl).trans h)
def an_27 : Ann := ⟨[(4, [3, 9, 10, 11])], [(5, [some false, some false, some false, some false, some false, some false, some false, some false, some false, some false, some false, some false, some false, some false])], []⟩
noncomputable def cd_27 : Code := Tryz.f27.body.getD .skip
noncomputable def lp_27x0 (C : Callee) : List AV → AHeap → Option (AV × AHeap) := (loopsK Tryz.prog C an_27 30 cd_27 (retK Tryz.prog 30 Tryz.f27.results.toList) (fun _ _ _ => none) (retK Tryz.prog 30 Tryz.f27.results.toList)).getD 0 fun _ _ => none
noncomputable def sh_27 (C : Callee) (a0 : AV) (H : AHeap) : Option (AV × AHeap) :=
  bo (nilCheckA a0) fun v7 => bo (fieldPtr v7 9) fun v8 => bnd (ld v8 H) fun v9 H => bnd (lnS v9 H) fun v10 H =>
  lp_27x0 C [(I 0), v9, v10, (I 0)] H
theorem le_27x0 (C : Callee) (t3 t9 t10 t11 : AV) (H : AHeap) : lp_27x0 C [t3, t9, t10, t11] H =
  bo (bi .lss 3 t11 t10) fun v12 =>
  condK v12
  (bnd (ix 1 t9 t11 H) fun v13 H => bnd (ld v13 H) fun v14 H =>
   bo (nilCheckA v14) fun v17 => bo (fieldPtr v17 11) fun v18 => bnd (ld v18 H) fun v19 H => bnd (lnS v19 H) fun v20 H => bo (nilCheckA v14) fun v22 => bo (fieldPtr v22 13) fun v23 => bnd (ld v23 H) fun v24 H => bnd (lnS v24 H) fun v25 H => bo (bi .sub 3 v20 v25) fun v26 => bo (bi .add 3 t3 v26) fun v27 =>
   bo (bi .add 3 t11 (I 1)) fun v28 =>
   lp_27x0 C [v27, t9, t10, v28] H)
  (some (t3, H)) :=
  (congrFun (congrFun (congrArg (fun l => l.getD 0 fun _ _ => none) (loops_eq cd_27 (retK Tryz.prog 30 Tryz.f27.results.toList) (fun _ _ _ => none) (retK Tryz.prog 30 Tryz.f27.results.toList))) [t3, t9, t10, t11]) H).trans (by kernel_rfl)
theorem rn_27 (C : Callee) (a0 : AV) (H : AHeap) {r : AV × AHeap} (h : sh_27 C a0 H = some r) : runF Tryz.prog C 27 [a0] H = some r :=
  runF_K (A := an_27) (c := cd_27) Tryz.func27 (by kernel_rfl) (by kernel_rfl) (by kernel_rfl) ((show _ = sh_27 C a0 H by kernel_rfl).trans h)
def an_28 : Ann := ⟨[(5, [0, 15, 16, 17])], [], []⟩
noncomputable def cd_28 : Code := Tryz.f28.body.getD .skip
noncomputable def lp_28x0 (C : Callee) : List AV → AHeap → Option (AV × AHeap) := (loopsK Tryz.prog C an_28 51 cd_28 (retK Tryz.prog 51 Tryz.f28.results.toList) (fun _ _ _ => none) (retK Tryz.prog 51 Tryz.f28.results.toList)).getD 0 fun _ _ => none
noncomputable def sh_28 (C : Callee) (a0 : AV) (H : AHeap) : Option (AV × AHeap) :=
  bo (nilCheckA a0) fun v6 => bo (fieldPtr v6 8) fun v7 => bnd (ld v7 H) fun v8 H => bnd (C 31 [v8] H) fun v9 H => bnd (lnS v9 H) fun v10 H => bo (bi .gtr 3 v10 (I 0)) fun v11 =>
  condK v11
  (some ((B false), H))
  (bo (nilCheckA a0) fun v13 => bo (fieldPtr v13 9) fun v14 => bnd (ld v14 H) fun v15 H => bnd (lnS v15 H) fun v16 H =>
   lp_28x0 C [a0, v15, v16, (I 0)] H)
theorem le_28x0 (C : Callee) (t0 t15 t16 t17 : AV) (H : AHeap) : lp_28x0 C [t0, t15, t16, t17] H =
  bo (bi .lss 3 t17 t16) fun v18 =>
  condK v18
  (bnd (ix 1 t15 t17 H) fun v20 H => bnd (ld v20 H) fun v21 H =>
   bo (nilCheckA v21) fun v23 => bo (fieldPtr v23 12) fun v24 => bnd (ld v24 H) fun v25 H => gdA (some v25) false (liftO (some v21) H) H fun v27 H => gdA (some v25) false (liftO (nilCheckA v27) H) H fun v28 H => gdA (some v25) false (liftO (fieldPtr v28 14) H) H fun v29 H => gdA (some v25) false (ld v29 H) H fun v30 H => bo (pickA v25 (B true) v30) fun v31 => gdA (some v31) false (liftO (some t0) H) H fun v33 H => gdA (some v31) false (liftO (nilCheckA v33) H) H fun v34 H => gdA (some v31) false (liftO (fieldPtr v34 8) H) H fun v35 H => gdA (some v31) false (ld v35 H) H fun v36 H => gdA (some v31) false (liftO (some t17) H) H fun v37 H => gdA (some v31) false (C 36 [v36, v37, (I 0)] H) H fun v38 H => gdA (some v31) false (liftO (bi .gtr 3 v38 (I 0)) H) H fun v39 H => bo (pickA v31 (B true) v39) fun v40 => gdA (some v40) false (liftO (some t0) H) H fun v42 H => gdA (some v40) false (liftO (nilCheckA v42) H) H fun v43 H => gdA (some v40) false (liftO (fieldPtr v43 8) H) H fun v44 H => gdA (some v40) false (ld v44 H) H fun v45 H => gdA (some v40) false (liftO (some t17) H) H fun v46 H => gdA (some v40) false (C 36 [v45, v46, (I 1)] H) H fun v47 H => gdA (some v40) false (liftO (bi .gtr 3 v47 (I 0)) H) H fun v48 H => bo (pickA v40 (B true) v48) fun v49 =>
   condK v49
   (some ((B false), H))
   (bo (bi .add 3 t17 (I 1)) fun v50 =>
    lp_28x0 C [t0, t15, t16, v50] H))
  (some ((B true), H)) :=
  (congrFun (congrFun (congrArg (fun l => l.getD 0 fun _ _ => none) (loops_eq cd_28 (retK Tryz.prog 51 Tryz.f28.results.toList) (fun _ _ _ => none) (retK Tryz.prog 51 Tryz.f28.results.toList))) [t0, t15, t16, t17]) H).trans (by kernel_rfl)
theorem rn_28 (C : Callee) (a0 : AV) (H : AHeap) {r : AV × AHeap} (h : sh_28 C a0 H = some r) : runF Tryz.prog C 28 [a0] H = some r :=
  runF_K (A := an_28) (c := cd_28) Tryz.func28 (by kernel_rfl) (by kernel_rfl) (by kernel_rfl) ((show _ = sh_28 C a0 H by kernel_rfl).trans h)
def an_29 : Ann := ⟨[(5, [0, 1, 5])], [(6, [some false, some false, some false, some false, some false, some false, some false, some false, some false])], []⟩
noncomputable def cd_29 : Code := Tryz.f29.body.getD .skip
noncomputable def lp_29x0 (C : Callee) : List AV → AHeap → Option (AV × AHeap) := (loopsK Tryz.prog C an_29 26 cd_29 (retK Tryz.prog 26 Tryz.f29.results.toList) (fun _ _ _ => none) (retK Tryz.prog 26 Tryz.f29.results.toList)).getD 0 fun _ _ => none
noncomputable def sh_29 (C : Callee) (a0 a1 : AV) (H : AHeap) : Option (AV × AHeap) :=
  bnd (lnS a0 H) fun v7 H => bnd (lnS a1 H) fun v9 H => bo (bi .neq 3 v7 v9) fun v10 =>
  condK v10
  (some ((B false), H))
  (lp_29x0 C [a0, a1, (I 0)] H)
theorem le_29x0 (C : Callee) (t0 t1 t5 : AV) (H : AHeap) : lp_29x0 C [t0, t1, t5] H =
  bnd (lnS t0 H) fun v13 H => bo (bi .lss 3 t5 v13) fun v14 =>
  condK v14
  (bnd (ix 4 t0 t5 H) fun v19 H => bnd (lda 4 v19 H) fun v20 H => bnd (ix 4 t1 t5 H) fun v23 H => bnd (lda 4 v23 H) fun v24 H => bo (bi .neq 73 v20 v24) fun v25 =>
   condK v25
   (some ((B false), H))
   (bo (bi .add 3 t5 (I 1)) fun v16 =>
    lp_29x0 C [t0, t1, v16] H))
  (some ((B true), H)) :=
  (congrFun (congrFun (congrArg (fun l => l.getD 0 fun _ _ => none) (loops_eq cd_29 (retK Tryz.prog 26 Tryz.f29.results.toList) (fun _ _ _ => none) (retK Tryz.prog 26 Tryz.f29.results.toList))) [t0, t1, t5]) H).trans (by kernel_rfl)
theorem rn_29 (C : Callee) (a0 a1 : AV) (H : AHeap) {r : AV × AHeap} (h : sh_29 C a0 a1 H = some r) : runF Tryz.prog C 29 [a0, a1] H = some r :=
  runF_K (A := an_29) (c := cd_29) Tryz.func29 (by kernel_rfl) (by kernel_rfl) (by kernel_rfl) ((show _ = sh_29 C a0 a1 H by kernel_rfl).trans h)
def an_30 : Ann := ⟨[], [], []⟩
noncomputable def cd_30 : Code := Tryz.f30.body.getD .skip
noncomputable def sh_30 (C : Callee) (a0 : AV) (H : AHeap) : Option (AV × AHeap) :=
  bo (nilCheckA a0) fun v4 => bo (fieldPtr v4 0) fun v5 => bnd (ld v5 H) fun v6 H => bnd (C 57 [v6] H) fun v7 H =>
  some (v7, H)
theorem rn_30 (C : Callee) (a0 : AV) (H : AHeap) {r : AV × AHeap} (h : sh_30 C a0 H = some r) : runF Tryz.prog C 30 [a0] H = some r :=
  runF_K (A := an_30) (c := cd_30) Tryz.func30 (by kernel_rfl) (by kernel_rfl) (by kernel_rfl) ((show _ = sh_30 C a0 H by kernel_rfl).trans h)
def an_31 : Ann := ⟨[(4, [3, 9, 10, 11])], [(5, [some false, some false, some false, some false, some false, some false, some false, some false, some false, some false])], [(5, [(6, 4), (7, 4)])]⟩
noncomputable def cd_31 : Code := Tryz.f31.body.getD .skip
noncomputable def lp_31x0 (C : Callee) : List AV → AHeap → Option (AV × AHeap) := (loopsK Tryz.prog C an_31 26 cd_31 (retK Tryz.prog 26 Tryz.f31.results.toList) (fun _ _ _ => none) (retK Tryz.prog 26 Tryz.f31.results.toList)).getD 0 fun _ _ => none
noncomputable def sh_31 (C : Callee) (a0 : AV) (H : AHeap) : Option (AV × AHeap) :=
  bo (nilCheckA a0) fun v7 => bo (fieldPtr v7 8) fun v8 => bnd (ld v8 H) fun v9 H => bnd (lnS v9 H) fun v10 H =>
  lp_31x0 C [(.s (Go.Value.slice none 0 0)), v9, v10, (I 0)] H
theorem le_31x0 (C : Callee) (t3 t9 t10 t11 : AV) (H : AHeap) : lp_31x0 C [t3, t9, t10, t11] H =
  bo (bi .lss 3 t11 t10) fun v12 =>
  condK v12
  (bnd (ix 4 t9 t11 H) fun v13 H => bnd (lda 4 v13 H) fun v14 H => bnd (alc 131 [zN, zN, zN, zN] H) fun v5 H => bnd (st 4 v5 v14 H) fun _ H =>
   bo (fieldPtr v5 0) fun v16 => bnd (ixa 2 1 v16 (I 0) H) fun v17 H2 => bnd (ld v17 H2) fun v18 H3 => bnd (app 78 9 88 t3 v18 H3) fun v19 H4 => bo (fieldPtr v5 0) fun v20 => bnd (ixa 2 1 v20 (I 1) H4) fun v21 H6 => bnd (ld v21 H6) fun v22 H7 => bnd (app 78 9 88 v19 v22 H7) fun v23 H8 => ck (watchV v20) H3 H4 <| ck (watchV v21) H3 H4 <|
   bo (bi .add 3 t11 (I 1)) fun v24 =>
   lp_31x0 C [v23, t9, t10, v24] H8)
  (some (t3, H)) :=
  (congrFun (congrFun (congrArg (fun l => l.getD 0 fun _ _ => none) (loops_eq cd_31 (retK Tryz.prog 26 Tryz.f31.results.toList) (fun _ _ _ => none) (retK Tryz.prog 26 Tryz.f31.results.toList))) [t3, t9, t10, t11]) H).trans (by kernel_rfl)
theorem rn_31 (C : Callee) (a0 : AV) (H : AHeap) {r : AV × AHeap} (h : sh_31 C a0 H = some r) : runF Tryz.prog C 31 [a0] H = some r :=
  runF_K (A := an_31) (c := cd_31) Tryz.func31 (by kernel_rfl) (by kernel_rfl) (by kernel_rfl) ((show _ = sh_31 C a0 H by kernel_rfl).trans h)
def an_32 : Ann := ⟨[(4, [3, 7, 8, 9])], [], []⟩
noncomputable def cd_32 : Code := Tryz.f32.body.getD .skip
noncomputable def lp_32x0 (C : Callee) : List AV → AHeap → Option (AV × AHeap) := (loopsK Tryz.prog C an_32 20 cd_32 (retK Tryz.prog 20 Tryz.f32.results.toList) (fun _ _ _ => none) (retK Tryz.prog 20 Tryz.f32.results.toList)).getD 0 fun _ _ => none
noncomputable def sh_32 (C : Callee) (a0 : AV) (H : AHeap) : Option (AV × AHeap) :=
  bnd (C 58 [a0] H) fun v7 H => bnd (lnS v7 H) fun v8 H =>
  lp_32x0 C [(I 0), v7, v8, (I 0)] H
theorem le_32x0 (C : Callee) (t3 t7 t8 t9 : AV) (H : AHeap) : lp_32x0 C [t3, t7, t8, t9] H =
  bo (bi .lss 3 t9 t8) fun v10 =>
  condK v10
  (bnd (ix 2 t7 t9 H) fun v11 H => bnd (lda 2 v11 H) fun v12 H => bnd (alc 99 [zP, zP] H) fun v5 H => bnd (st 2 v5 v12 H) fun _ H =>
   bo (fieldPtr v5 0) fun v14 => bnd (ld v14 H) fun v15 H => bnd (C 59 [v15] H) fun v16 H => bo (bi .add 3 t3 v16) fun v17 =>
   bo (bi .add 3 t9 (I 1)) fun v18 =>
   lp_32x0 C [v17, t7, t8, v18] H)
  (some (t3, H)) :=
  (congrFun (congrFun (congrArg (fun l => l.getD 0 fun _ _ => none) (loops_eq cd_32 (retK Tryz.prog 20 Tryz.f32.results.toList) (fun _ _ _ => none) (retK Tryz.prog 20 Tryz.f32.results.toList))) [t3, t7, t8, t9]) H).trans (by kernel_rfl)
theorem rn_32 (C : Callee) (a0 : AV) (H : AHeap) {r : AV × AHeap} (h : sh_32 C a0 H = some r) : runF Tryz.prog C 32 [a0] H = some r :=
  runF_K (A := an_32) (c := cd_32) Tryz.func32 (by kernel_rfl) (by kernel_rfl) (by kernel_rfl) ((show _ = sh_32 C a0 H by kernel_rfl).trans h)
def an_33 : Ann := ⟨[], [], []⟩
noncomputable def cd_33 : Code := Tryz.f33.body.getD .skip
noncomputable def sh_33 (C : Callee) (a0 a1 : AV) (H : AHeap) : Option (AV × AHeap) :=
  bnd (alc 78 [zI, zI, zI, zI, zI, zI, zI, zB, zN] H) fun v4 H =>
  bnd (C 60 [a0, a1] H) fun v12 H => bo (extractA v12 0) fun v13 => bo (extractA v12 1) fun v14 => bo (extractA v12 2) fun v15 => bnd (alc 99 [zP, zP] H) fun v6 H => bnd (st 2 v6 v13 H) fun _ H =>
  bo (un .not v15) fun v17 => gdA (some v17) false (liftO (some a1) H) H fun v19 H => gdA (some v17) false (liftO (bi .lss 3 v19 (I 0)) H) H fun v20 H => bo (pickA v17 (B true) v20) fun v21 =>
  condK v21
  (bo (bd 78 []) fun v22 => bnd (st 9 v4 v22 H) fun _ H =>
   bnd (lda 9 v4 H) fun r0 _ => some (.tup [r0, (B false)], H))
  (bo (fieldPtr v6 0) fun v23 => bnd (ld v23 H) fun v24 H => bnd (C 61 [v24, v14] H) fun v26 H => bo (extractA v26 0) fun v27 => bo (extractA v26 1) fun v28 => bnd (st 9 v4 v27 H) fun _ H =>
   bnd (lda 9 v4 H) fun r0 _ => some (.tup [r0, v28], H))
theorem rn_33 (C : Callee) (a0 a1 : AV) (H : AHeap) {r : AV × AHeap} (h : sh_33 C a0 a1 H = some r) : runF Tryz.prog C 33 [a0, a1] H = some r :=
  runF_K (A := an_33) (c := cd_33) Tryz.func33 (by kernel_rfl) (by kernel_rfl) (by kernel_rfl) ((show _ = sh_33 C a0 a1 H by kernel_rfl).trans h)
def an_34 : Ann := ⟨[(5, [2, 3, 71, 72])], [(6, [some false, some false, some false, some false, some false, some false, some false, some false, some false, some false, some false])], []⟩
noncomputable def cd_34 : Code := Tryz.f34.body.getD .skip
noncomputable def lp_34x0 (C : Callee) : List AV → AHeap → Option (AV × AHeap) := (loopsK Tryz.prog C an_34 87 cd_34 (retK Tryz.prog 87 Tryz.f34.results.toList) (fun _ _ _ => none) (retK Tryz.prog 87 Tryz.f34.results.toList)).getD 0 fun _ _ => none
noncomputable def sh_34 (C : Callee) (a0 a1 : AV) (H : AHeap) : Option (AV × AHeap) :=
  bnd (boxA 78 a0 H) fun v2 H => bnd (boxA 78 a1 H) fun v3 H =>
  bo (fieldPtr v2 0) fun v6 => bnd (ld v6 H) fun v7 H => bo (fieldPtr v3 0) fun v8 => bnd (ld v8 H) fun v9 H => bo (bi .neq 3 v7 v9) fun v10 => gdA (some v10) false (liftO (fieldPtr v2 1) H) H fun v12 H => gdA (some v10) false (ld v12 H) H fun v13 H => gdA (some v10) false (liftO (fieldPtr v3 1) H) H fun v14 H => gdA (some v10) false (ld v14 H) H fun v15 H => gdA (some v10) false (liftO (bi .neq 3 v13 v15) H) H fun v16 H => bo (pickA v10 (B true) v16) fun v17 => gdA (some v17) false (liftO (fieldPtr v2 2) H) H fun v19 H => gdA (some v17) false (ld v19 H) H fun v20 H => gdA (some v17) false (liftO (fieldPtr v3 2) H) H fun v21 H => gdA (some v17) false (ld v21 H) H fun v22 H => gdA (some v17) false (liftO (bi .neq 3 v20 v22) H) H fun v23 H => bo (pickA v17 (B true) v23) fun v24 => gdA (some v24) false (liftO (fieldPtr v2 3) H) H fun v26 H => gdA (some v24) false (ld v26 H) H fun v27 H => gdA (some v24) false (liftO (fieldPtr v3 3) H) H fun v28 H => gdA (some v24) false (ld v28 H) H fun v29 H => gdA (some v24) false (liftO (bi .neq 3 v27 v29) H) H fun v30 H => bo (pickA v24 (B true) v30) fun v31 => gdA (some v31) false (liftO (fieldPtr v2 4) H) H fun v33 H => gdA (some v31) false (ld v33 H) H fun v34 H => gdA (some v31) false (liftO (fieldPtr v3 4) H) H fun v35 H => gdA (some v31) false (ld v35 H) H fun v36 H => gdA (some v31) false (liftO (bi .neq 3 v34 v36) H) H fun v37 H => bo (pickA v31 (B true) v37) fun v38 => gdA (some v38) false (liftO (fieldPtr v2 5) H) H fun v40 H => gdA (some v38) false (ld v40 H) H fun v41 H => gdA (some v38) false (liftO (fieldPtr v3 5) H) H fun v42 H => gdA (some v38) false (ld v42 H) H fun v43 H => gdA (some v38) false (liftO (bi .neq 3 v41 v43) H) H fun v44 H => bo (pickA v38 (B true) v44) fun v45 => gdA (some v45) false (liftO (fieldPtr v2 6) H) H fun v47 H => gdA (some v45) false (ld v47 H) H fun v48 H => gdA (some v45) false (liftO (fieldPtr v3 6) H) H fun v49 H => gdA (some v45) false (ld v49 H) H fun v50 H => gdA (some v45) false (liftO (bi .neq 3 v48 v50) H) H fun v51 H => bo (pickA v45 (B true) v51) fun v52 => gdA (some v52) false (liftO (fieldPtr v2 7) H) H fun v54 H => gdA (some v52) false (ld v54 H) H fun v55 H => gdA (some v52) false (liftO (fieldPtr v3 7) H) H fun v56 H => gdA (some v52) false (ld v56 H) H fun v57 H => gdA (some v52) false (liftO (bi .neq 4 v55 v57) H) H fun v58 H => bo (pickA v52 (B true) v58) fun v59 => gdA (some v59) false (liftO (fieldPtr v2 8) H) H fun v61 H => gdA (some v59) false (ld v61 H) H fun v62 H => gdA (some v59) false (lnS v62 H) H fun v63 H => gdA (some v59) false (liftO (fieldPtr v3 8) H) H fun v64 H => gdA (some v59) false (ld v64 H) H fun v65 H => gdA (some v59) false (lnS v65 H) H fun v66 H => gdA (some v59) false (liftO (bi .neq 3 v63 v66) H) H fun v67 H => bo (pickA v59 (B true) v67) fun v68 =>
  condK v68
  (some ((B false), H))
  (bo (fieldPtr v2 8) fun v69 => bnd (ld v69 H) fun v70 H => bnd (lnS v70 H) fun v71 H =>
   lp_34x0 C [v2, v3, v71, (I 0)] H)
theorem le_34x0 (C : Callee) (t2 t3 t71 t72 : AV) (H : AHeap) : lp_34x0 C [t2, t3, t71, t72] H =
  bo (bi .lss 3 t72 t71) fun v73 =>
  condK v73
  (bo (fieldPtr t2 8) fun v75 => bnd (ld v75 H) fun v76 H => bnd (ix 1 v76 t72 H) fun v78 H => bnd (ld v78 H) fun v79 H => bo (fieldPtr t3 8) fun v80 => bnd (ld v80 H) fun v81 H => bnd (ix 1 v81 t72 H) fun v83 H => bnd (ld v83 H) fun v84 H => bo (bi .neq 3 v79 v84) fun v85 =>
   condK v85
   (some ((B false), H))
   (bo (bi .add 3 t72 (I 1)) fun v86 =>
    lp_34x0 C [t2, t3, t71, v86] H))
  (some ((B true), H)) :=
  (congrFun (congrFun (congrArg (fun l => l.getD 0 fun _ _ => none) (loops_eq cd_34 (retK Tryz.prog 87 Tryz.f34.results.toList) (fun _ _ _ => none) (retK Tryz.prog 87 Tryz.f34.results.toList))) [t2, t3, t71, t72]) H).trans (by kernel_rfl)
theorem rn_34 (C : Callee) (a0 a1 : AV) (H : AHeap) {r : AV × AHeap} (h : sh_34 C a0 a1 H = some r) : runF Tryz.prog C 34 [a0, a1] H = some r :=
  runF_K (A := an_34) (c := cd_34) Tryz.func34 (by kernel_rfl) (by kernel_rfl) (by kernel_rfl) ((show _ = sh_34 C a0 a1 H by kernel_rfl).trans h)
def an_35 : Ann := ⟨[], [(3, [some false, some false, some false, some false, some false, some false, some false, some false, some false, some true, some false, some false, some false, some false, some false, some false, some false, some false, some false, some false, some false, some false])], []⟩
noncomputable def cd_35 : Code := Tryz.f35.body.getD .skip
noncomputable def sh_35 (C : Callee) (a0 a1 : AV) (H : AHeap) : Option (AV × AHeap) :=
  bnd (C 62 [a0, a1] H) fun v8 H => bo (un .not v8) fun v9 =>
  condK v9
  (some (.tup [(I 0), (I 0)], H))
  (bo (nilCheckA a0) fun v11 => bo (fieldPtr v11 0) fun v12 => bnd (ld v12 H) fun v13 H => bnd (ix 4 v13 a1 H) fun v15 H => bo (fieldPtr v15 0) fun v16 => bo (fieldPtr v16 1) fun v17 => bnd (ld v17 H) fun v18 H => bnd (unG H (C 63 [v18] H.guard)) fun v19 H => bo (nilCheckA a0) fun v21 => bo (fieldPtr v21 0) fun v22 => bnd (ld v22 H) fun v23 H => bnd (ix 4 v23 a1 H) fun v25 H => bo (fieldPtr v25 2) fun v26 => bo (fieldPtr v26 1) fun v27 => bnd (ld v27 H) fun v28 H => bnd (C 63 [v28] H) fun v29 H =>
   some (.tup [v19, v29], H))
theorem rn_35 (C : Callee) (a0 a1 : AV) (H : AHeap) {r : AV × AHeap} (h : sh_35 C a0 a1 H = some r) : runF Tryz.prog C 35 [a0, a1] H = some r :=
  runF_K (A := an_35) (c := cd_35) Tryz.func35 (by kernel_rfl) (by kernel_rfl) (by kernel_rfl) ((show _ = sh_35 C a0 a1 H by kernel_rfl).trans h)
def an_36 : Ann := ⟨[], [], []⟩
noncomputable def cd_36 : Code := Tryz.f36.body.getD .skip
noncomputable def sh_36 (C : Callee) (a0 a1 a2 : AV) (H : AHeap) : Option (AV × AHeap) :=
  bo (bi .lss 3 a1 (I 0)) fun v8 => gdA (some v8) false (liftO (some a1) H) H fun v10 H => gdA (some v8) false (liftO (some a0) H) H fun v11 H => gdA (some v8) false (liftO (nilCheckA v11) H) H fun v12 H => gdA (some v8) false (liftO (fieldPtr v12 8) H) H fun v13 H => gdA (some v8) false (ld v13 H) H fun v14 H => gdA (some v8) false (lnS v14 H) H fun v15 H => gdA (some v8) false (liftO (bi .geq 3 v10 v15) H) H fun v16 H => bo (pickA v8 (B true) v16) fun v17 =>
  condK v17
  (some ((I 0), H))
  (bo (nilCheckA a0) fun v19 => bo (fieldPtr v19 8) fun v20 => bnd (ld v20 H) fun v21 H => bnd (ix 4 v21 a1 H) fun v24 H => bo (fieldPtr v24 2) fun v25 => bnd (ixa 2 1 v25 a2 H) fun v26 H => bnd (ld v26 H) fun v27 H => bnd (lnS v27 H) fun v28 H =>
   some (v28, H))
theorem rn_36 (C : Callee) (a0 a1 a2 : AV) (H : AHeap) {r : AV × AHeap} (h : sh_36 C a0 a1 a2 H = some r) : runF Tryz.prog C 36 [a0, a1, a2] H = some r :=
  runF_K (A := an_36) (c := cd_36) Tryz.func36 (by kernel_rfl) (by kernel_rfl) (by kernel_rfl) ((show _ = sh_36 C a0 a1 a2 H by kernel_rfl).trans h)
def an_37 : Ann := ⟨[(11, [0, 1, 7, 91, 92, 93]), (18, [0, 1, 12])], [(1, [some false, some false, some false, some false, some false, some false, some false, some true, some false, some false, some false, some false, some false, some false, some false, some false, some false, some false, some false, some false, some false, some false, some false, some false, some false, some false, some true, some false, some false, some false, some false, some false, some false, some false]), (4, [some false, some false, some false, some false, some false, some false, some false, some false, some false, some false, some false, some false, some false, some false, some false]), (12, [some false, some false, some false, some false, some false, some false, some true, some false, some false, some false, none, some false, some false]), (13, [some false, some false, some false, some false, some false, some false, some false, some false, some false, some false, some false, some false, some false, some false, some false, some false, some false]), (20, [some false, some false, some false, some false, some false, some false, some false, some false, some false, some false, some false, some false, some false, some false, some false, some false, some false, some false, some false, some false, some false, some false, some false, some false, some false, some false, some false, some true, some false, some false, some false, some false, some false, some false, some false, some false, some false, some false, some false, some false, some false, some true, some false, some false, some false, some false, some false, some false, some false, some false, some false, some false, some false, some false])], []⟩
noncomputable def cd_37 : Code := Tryz.f37.body.getD .skip
noncomputable def lp_37x0 (C : Callee) : List AV → AHeap → Option (AV × AHeap) := (loopsK Tryz.prog C an_37 195 cd_37 (retK Tryz.prog 195 Tryz.f37.results.toList) (fun _ _ _ => none) (retK Tryz.prog 195 Tryz.f37.results.toList)).getD 0 fun _ _ => none
noncomputable def lp_37x1 (C : Callee) : List AV → AHeap → Option (AV × AHeap) := (loopsK Tryz.prog C an_37 195 cd_37 (retK Tryz.prog 195 Tryz.f37.results.toList) (fun _ _ _ => none) (retK Tryz.prog 195 Tryz.f37.results.toList)).getD 1 fun _ _ => none
noncomputable def sh_37 (C : Callee) (a0 a1 : AV) (H : AHeap) : Option (AV × AHeap) :=
  bo (bi .eql 42 a0 (.s (Go.Value.pointer none))) fun v16 => gdA (some v16) false (liftO (some a0) H) H fun v18 H => gdA (some v16) false (liftO (nilCheckA v18) H) H fun v19 H => gdA (some v16) false (liftO (fieldPtr v19 1) H) H fun v20 H => gdA (some v16) false (ld v20 H) H fun v21 H => gdA (some v16) false (unG H (C 56 [v21] H.guard)) H fun v22 H => gdA (some v16) false (liftO (some a1) H) H fun v23 H => gdA (some v16) false (liftO (nilCheckA v23) H) H fun v24 H => gdA (some v16) false (liftO (fieldPtr v24 11) H) H fun v25 H => gdA (some v16) false (ld v25 H) H fun v26 H => gdA (some v16) false (lnS v26 H) H fun v27 H => gdA (some v16) false (liftO (some a1) H) H fun v28 H => gdA (some v16) false (liftO (nilCheckA v28) H) H fun v29 H => gdA (some v16) false (liftO (fieldPtr v29 13) H) H fun v30 H => gdA (some v16) false (ld v30 H) H fun v31 H => gdA (some v16) false (lnS v31 H) H fun v32 H => gdA (some v16) false (liftO (bi .sub 3 v27 v32) H) H fun v33 H => gdA (some v16) false (liftO (bi .neq 3 v22 v33) H) H fun v34 H => bo (pickA v16 (B true) v34) fun v35 => gdA (some v35) false (liftO (some a0) H) H fun v37 H => gdA (some v35) false (liftO (nilCheckA v37) H) H fun v38 H => gdA (some v35) false (liftO (fieldPtr v38 1) H) H fun v39 H => gdA (some v35) false (ld v39 H) H fun v40 H => gdA (some v35) false (unG H (C 65 [v40] H.guard)) H fun v41 H => gdA (some v35) false (liftO (some a1) H) H fun v42 H => gdA (some v35) false (liftO (nilCheckA v42) H) H fun v43 H => gdA (some v35) false (liftO (fieldPtr v43 13) H) H fun v44 H => gdA (some v35) false (ld v44 H) H fun v45 H => gdA (some v35) false (C 64 [v41, v45] H) H fun v46 H => gdA (some v35) false (liftO (un .not v46) H) H fun v47 H => bo (pickA v35 (B true) v47) fun v48 =>
  condK v48
  (some ((B false), H))
  (bnd (C 54 [a0] H) fun v51 H => bo (extractA v51 0) fun v52 => bo (extractA v51 1) fun v53 => bnd (alc 113 [zI, zI, zI, zI, zI, zI, zN, zI, zI] H) fun v5 H => bnd (st 9 v5 v52 H) fun _ H =>
   bo (nilCheckA a1) fun v56 => bo (fieldPtr v56 14) fun v57 => bnd (ld v57 H) fun v58 H => bo (bi .neq 4 v53 v58) fun v59 => gdA (some v59) false (lda 9 v5 H) H fun v61 H => gdA (some v59) false (liftO (some a1) H) H fun v62 H => gdA (some v59) false (liftO (nilCheckA v62) H) H fun v63 H => gdA (some v59) false (liftO (fieldPtr v63 15) H) H fun v64 H => gdA (some v59) false (lda 9 v64 H) H fun v65 H => gdA (some v59) false (C 66 [v61, v65] H) H fun v66 H => gdA (some v59) false (liftO (un .not v66) H) H fun v67 H => bo (pickA v59 (B true) v67) fun v68 =>
   condK v68
   (some ((B false), H))
   (bo (nilCheckA a0) fun v70 => bo (fieldPtr v70 0) fun v71 => bnd (ld v71 H) fun v72 H => bnd (C 67 [v72] H) fun v73 H =>
    bnd (lnS v73 H) fun v75 H => bo (nilCheckA a1) fun v77 => bo (fieldPtr v77 9) fun v78 => bnd (ld v78 H) fun v79 H => bo (nilCheckA v79) fun v80 => bo (fieldPtr v80 3) fun v81 => bnd (ld v81 H) fun v82 H => bnd (lnS v82 H) fun v83 H => bo (bi .neq 3 v75 v83) fun v84 =>
    condK v84
    (some ((B false), H))
    (bo (nilCheckA a1) fun v86 => bo (fieldPtr v86 9) fun v87 => bnd (ld v87 H) fun v88 H => bo (nilCheckA v88) fun v89 => bo (fieldPtr v89 3) fun v90 => bnd (ld v90 H) fun v91 H => bnd (lnS v91 H) fun v92 H =>
     lp_37x0 C [a0, a1, v73, v91, v92, (I 0)] H)))
theorem le_37x0 (C : Callee) (t0 t1 t7 t91 t92 t93 : AV) (H : AHeap) : lp_37x0 C [t0, t1, t7, t91, t92, t93] H =
  bo (bi .lss 3 t93 t92) fun v94 =>
  condK v94
  (bnd (ix 6 t91 t93 H) fun v96 H => bnd (lda 6 v96 H) fun v97 H => bnd (alc 144 [zI, zI, zI, zI, zB, zN] H) fun v9 H => bnd (st 6 v9 v97 H) fun _ H =>
   bnd (alc 148 [zI, zI, zI, zI, zB, zN] H) fun v10 H => bo (nilCheckA t0) fun v100 => bo (fieldPtr v100 0) fun v101 => bnd (ld v101 H) fun v102 H => bo (fieldPtr v9 2) fun v103 => bnd (ld v103 H) fun v104 H => bnd (unG H (C 68 [v102, v104] H.guard)) fun v105 H => bo (extractA v105 0) fun v106 => bo (extractA v105 1) fun v107 => bnd (st 6 v10 v106 H) fun _ H =>
   bnd (ix 1 t7 t93 H) fun v110 H => bnd (ld v110 H) fun v111 H => bo (fieldPtr v9 2) fun v112 => bnd (ld v112 H) fun v113 H => bo (bi .neq 3 v111 v113) fun v114 => gdA (some v114) false (liftO (some v107) H) H fun v116 H => gdA (some v114) false (liftO (un .not v116) H) H fun v117 H => bo (pickA v114 (B true) v117) fun v118 => gdA (some v118) false (lda 6 v10 H) H fun v120 H => gdA (some v118) false (lda 6 v9 H) H fun v121 H => gdA (some v118) false (C 69 [v120, v121] H) H fun v122 H => gdA (some v118) false (liftO (un .not v122) H) H fun v123 H => bo (pickA v118 (B true) v123) fun v124 =>
   condK v124
   (some ((B false), H))
   (bo (bi .add 3 t93 (I 1)) fun v125 =>
    lp_37x0 C [t0, t1, t7, t91, t92, v125] H))
  (lp_37x1 C [t0, t1, (I (-1))] H) :=
  (congrFun (congrFun (congrArg (fun l => l.getD 0 fun _ _ => none) (loops_eq cd_37 (retK Tryz.prog 195 Tryz.f37.results.toList) (fun _ _ _ => none) (retK Tryz.prog 195 Tryz.f37.results.toList))) [t0, t1, t7, t91, t92, t93]) H).trans (by kernel_rfl)
theorem le_37x1 (C : Callee) (t0 t1 t12 : AV) (H : AHeap) : lp_37x1 C [t0, t1, t12] H =
  bo (nilCheckA t1) fun v128 => bo (fieldPtr v128 0) fun v129 => bo (fieldPtr v129 1) fun v130 => bnd (ld v130 H) fun v131 H => bo (bi .leq 3 t12 v131) fun v132 =>
  condK v132
  (bnd (C 70 [t0, t12] H) fun v138 H => bo (extractA v138 0) fun v139 => bo (extractA v138 1) fun v140 => bnd (alc 153 [zI, zI, zN] H) fun v13 H => bnd (st 3 v13 v139 H) fun _ H =>
   bo (nilCheckA t1) fun v143 => bo (fieldPtr v143 10) fun v144 => bnd (ld v144 H) fun v145 H => bnd (C 71 [v145, t12] H) fun v147 H => bo (bi .neq 4 v140 v147) fun v148 => gdA (some v148) false (liftO (some v140) H) H fun v150 H => gdA (some v148) false (liftO (some v150) H) H fun v151 H => gdA (some v151) true (lda 3 v13 H) H fun v152 H => gdA (some v151) true (liftO (some t1) H) H fun v153 H => gdA (some v151) true (liftO (nilCheckA v153) H) H fun v154 H => gdA (some v151) true (liftO (fieldPtr v154 10) H) H fun v155 H => gdA (some v151) true (ld v155 H) H fun v156 H => gdA (some v151) true (liftO (nilCheckA v156) H) H fun v157 H => gdA (some v151) true (liftO (fieldPtr v157 9) H) H fun v158 H => gdA (some v151) true (ld v158 H) H fun v159 H => gdA (some v151) true (liftO (some t12) H) H fun v160 H => gdA (some v151) true (ix 3 v159 v160 H) H fun v161 H => gdA (some v151) true (lda 3 v161 H) H fun v162 H => gdA (some v151) true (C 72 [v152, v162] H) H fun v163 H => gdA (some v151) true (liftO (un .not v163) H) H fun v164 H => gdA (some v151) true (liftO (some v164) H) H fun v165 H => gdA (some v165) false (liftO (some t0) H) H fun v166 H => gdA (some v165) false (liftO (some t12) H) H fun v167 H => gdA (some v165) false (unG H (C 73 [v166, v167] H.guard)) H fun v168 H => gdA (some v165) false (liftO (some t1) H) H fun v169 H => gdA (some v165) false (liftO (nilCheckA v169) H) H fun v170 H => gdA (some v165) false (liftO (fieldPtr v170 10) H) H fun v171 H => gdA (some v165) false (ld v171 H) H fun v172 H => gdA (some v165) false (liftO (nilCheckA v172) H) H fun v173 H => gdA (some v165) false (liftO (fieldPtr v173 10) H) H fun v174 H => gdA (some v165) false (liftO (some t12) H) H fun v175 H => gdA (some v165) false (C 74 [v174, v175] H) H fun v176 H => gdA (some v165) false (liftO (bi .neq 3 v168 v176) H) H fun v177 H => gdA (some v151) true (liftO (pickA v165 (B true) v177) H) H fun v178 H => gdA (some v151) true (liftO (some v178) H) H fun v179 H => gdA (some v179) false (liftO (some t0) H) H fun v180 H => gdA (some v179) false (liftO (some t12) H) H fun v181 H => gdA (some v179) false (unG H (C 75 [v180, v181] H.guard)) H fun v182 H => gdA (some v179) false (liftO (some t1) H) H fun v183 H => gdA (some v179) false (liftO (nilCheckA v183) H) H fun v184 H => gdA (some v179) false (liftO (fieldPtr v184 10) H) H fun v185 H => gdA (some v179) false (ld v185 H) H fun v186 H => gdA (some v179) false (liftO (nilCheckA v186) H) H fun v187 H => gdA (some v179) false (liftO (fieldPtr v187 10) H) H fun v188 H => gdA (some v179) false (liftO (some t12) H) H fun v189 H => gdA (some v179) false (C 76 [v188, v189] H) H fun v190 H => gdA (some v179) false (liftO (bi .neq 3 v182 v190) H) H fun v191 H => gdA (some v151) true (liftO (pickA v179 (B true) v191) H) H fun v192 H => gdA (some v148) false (liftO (pickA v151 v192 (B false)) H) H fun v193 H => bo (pickA v148 (B true) v193) fun v194 =>
   condK v194
   (some ((B false), H))
   (bo (bi .add 3 t12 (I 1)) fun v134 =>
    lp_37x1 C [t0, t1, v134] H))
  (some ((B true), H)) :=
  (congrFun (congrFun (congrArg (fun l => l.getD 1 fun _ _ => none) (loops_eq cd_37 (retK Tryz.prog 195 Tryz.f37.results.toList) (fun _ _ _ => none) (retK Tryz.prog 195 Tryz.f37.results.toList))) [t0, t1, t12]) H).trans (by kernel_rfl)
theorem rn_37 (C : Callee) (a0 a1 : AV) (H : AHeap) {r : AV × AHeap} (h : sh_37 C a0 a1 H = some r) : runF Tryz.prog C 37 [a0, a1] H = some r :=
  runF_K (A := an_37) (c := cd_37) Tryz.func37 (by kernel_rfl) (by kernel_rfl) (by kernel_rfl) ((show _ = sh_37 C a0 a1 H by kernel_rfl).trans h)
def an_38 : Ann := ⟨[], [], []⟩
noncomputable def cd_38 : Code := Tryz.f38.body.getD .skip
noncomputable def sh_38 (C : Callee) (a0 : AV) (H : AHeap) : Option (AV × AHeap) :=
  bnd (app 3 1 8 (.s (Go.Value.slice none 0 0)) a0 H) fun v4 H =>
  some (v4, H)
theorem rn_38 (C : Callee) (a0 : AV) (H : AHeap) {r : AV × AHeap} (h : sh_38 C a0 H = some r) : runF Tryz.prog C 38 [a0] H = some r :=
  runF_K (A := an_38) (c := cd_38) Tryz.func38 (by kernel_rfl) (by kernel_rfl) (by kernel_rfl) ((show _ = sh_38 C a0 H by kernel_rfl).trans h)
def an_39 : Ann := ⟨[], [], []⟩
noncomputable def cd_39 : Code := Tryz.f39.body.getD .skip
noncomputable def sh_39 (C : Callee) (a0 a1 : AV) (H : AHeap) : Option (AV × AHeap) :=
  bo (bi .geq 3 a0 (I 1)) fun v6 => gdA (some v6) true (liftO (some a0) H) H fun v8 H => gdA (some v6) true (liftO (some a1) H) H fun v9 H => gdA (some v6) true (liftO (bi .leq 3 v8 v9) H) H fun v10 H => bo (pickA v6 v10 (B false)) fun v11 =>
  some (v11, H)
theorem rn_39 (C : Callee) (a0 a1 : AV) (H : AHeap) {r : AV × AHeap} (h : sh_39 C a0 a1 H = some r) : runF Tryz.prog C 39 [a0, a1] H = some r :=
  runF_K (A := an_39) (c := cd_39) Tryz.func39 (by kernel_rfl) (by kernel_rfl) (by kernel_rfl) ((show _ = sh_39 C a0 a1 H by kernel_rfl).trans h)
def an_40 : Ann := ⟨[], [], []⟩
noncomputable def cd_40 : Code := Tryz.f40.body.getD .skip
noncomputable def sh_40 (C : Callee) (a0 a1 : AV) (H : AHeap) : Option (AV × AHeap) :=
  bnd (C 77 [a0, a1] H) fun v7 H => bo (bi .geq 3 v7 (I 0)) fun v8 =>
  some (v8, H)
theorem rn_40 (C : Callee) (a0 a1 : AV) (H : AHeap) {r : AV × AHeap} (h : sh_40 C a0 a1 H = some r) : runF Tryz.prog C 40 [a0, a1] H = some r :=
  runF_K (A := an_40) (c := cd_40) Tryz.func40 (by kernel_rfl) (by kernel_rfl) (by kernel_rfl) ((show _ = sh_40 C a0 a1 H by kernel_rfl).trans h)
def an_41 : Ann := ⟨[], [], []⟩
noncomputable def cd_41 : Code := Tryz.f41.body.getD .skip
noncomputable def sh_41 (C : Callee) (a0 a1 : AV) (H : AHeap) : Option (AV × AHeap) :=
  bnd (lnS a0 H) fun v5 H => bo (bi .gtr 3 v5 (I 24)) fun v6 => gdA (some v6) false (liftO (some a0) H) H fun v8 H => gdA (some v6) false (liftO (some (.fn (.func 43) [] [a1])) H) H fun v9 H => gdA (some v6) false (C 42 [v8, v9] H) H fun v10 H => bo (pickA v6 (B true) v10) fun v11 =>
  some (v11, H)
theorem rn_41 (C : Callee) (a0 a1 : AV) (H : AHeap) {r : AV × AHeap} (h : sh_41 C a0 a1 H = some r) : runF Tryz.prog C 41 [a0, a1] H = some r :=
  runF_K (A := an_41) (c := cd_41) Tryz.func41 (by kernel_rfl) (by kernel_rfl) (by kernel_rfl) ((show _ = sh_41 C a0 a1 H by kernel_rfl).trans h)
def an_42 : Ann := ⟨[], [], []⟩
noncomputable def cd_42 : Code := Tryz.f42.body.getD .skip
noncomputable def sh_42 (C : Callee) (a0 a1 : AV) (H : AHeap) : Option (AV × AHeap) :=
  bnd (C 78 [a0, a1] H) fun v7 H => bo (bi .geq 3 v7 (I 0)) fun v8 =>
  some (v8, H)
theorem rn_42 (C : Callee) (a0 a1 : AV) (H : AHeap) {r : AV × AHeap} (h : sh_42 C a0 a1 H = some r) : runF Tryz.prog C 42 [a0, a1] H = some r :=
  runF_K (A := an_42) (c := cd_42) Tryz.func42 (by kernel_rfl) (by kernel_rfl) (by kernel_rfl) ((show _ = sh_42 C a0 a1 H by kernel_rfl).trans h)
def an_43 : Ann := ⟨[], [], []⟩
noncomputable def cd_43 : Code := Tryz.f43.body.getD .skip
noncomputable def sh_43 (C : Callee) (a0 a1 : AV) (H : AHeap) : Option (AV × AHeap) :=
  bnd (boxA 48 a0 H) fun v2 H =>
  bnd (lda 8 a1 H) fun v4 H => bnd (lda 3 v2 H) fun v5 H => bnd (C 44 [v4, v5] H) fun v6 H => bo (un .not v6) fun v7 =>
  some (v7, H)
theorem rn_43 (C : Callee) (a0 a1 : AV) (H : AHeap) {r : AV × AHeap} (h : sh_43 C a0 a1 H = some r) : runF Tryz.prog C 43 [a0, a1] H = some r :=
  runF_K (A := an_43) (c := cd_43) Tryz.func43 (by kernel_rfl) (by kernel_rfl) (by kernel_rfl) ((show _ = sh_43 C a0 a1 H by kernel_rfl).trans h)
def an_44 : Ann := ⟨[], [], []⟩
noncomputable def cd_44 : Code := Tryz.f44.body.getD .skip
noncomputable def sh_44 (C : Callee) (a0 a1 : AV) (H : AHeap) : Option (AV × AHeap) :=
  bnd (boxA 26 a0 H) fun v2 H => bnd (boxA 48 a1 H) fun v3 H =>
  bnd (lda 8 v2 H) fun v8 H => bo (fieldPtr v3 1) fun v9 => bnd (ld v9 H) fun v10 H => bnd (C 79 [v8, v10] H) fun v11 H => bo (extractA v11 0) fun v12 => bo (extractA v11 1) fun v13 =>
  bo (fieldPtr v3 0) fun v14 => bnd (ld v14 H) fun v15 H => bo (bi .geq 3 v15 (I 1)) fun v16 => gdA (some v16) true (liftO (fieldPtr v3 0) H) H fun v18 H => gdA (some v16) true (ld v18 H) H fun v19 H => gdA (some v16) true (liftO (bi .leq 3 v19 (I 4)) H) H fun v20 H => bo (pickA v16 v20 (B false)) fun v21 => gdA (some v21) true (liftO (some v12) H) H fun v23 H => gdA (some v21) true (liftO (bi .neq 3 v23 (I (-1))) H) H fun v24 H => bo (pickA v21 v24 (B false)) fun v25 => gdA (some v25) true (liftO (fieldPtr v3 2) H) H fun v27 H => gdA (some v25) true (ld v27 H) H fun v28 H => gdA (some v25) true (liftO (bi .eql 3 v28 (I 0)) H) H fun v29 H => gdA (some v25) true (liftO (some v29) H) H fun v30 H => gdA (some v30) false (liftO (fieldPtr v3 0) H) H fun v31 H => gdA (some v30) false (ld v31 H) H fun v32 H => gdA (some v30) false (liftO (bi .eql 3 v32 (I 2)) H) H fun v33 H => gdA (some v25) true (liftO (pickA v30 (B true) v33) H) H fun v34 H => gdA (some v25) true (liftO (some v34) H) H fun v35 H => gdA (some v35) false (liftO (fieldPtr v3 0) H) H fun v36 H => gdA (some v35) false (ld v36 H) H fun v37 H => gdA (some v35) false (liftO (bi .eql 3 v37 (I 3)) H) H fun v38 H => gdA (some v25) true (liftO (pickA v35 (B true) v38) H) H fun v39 H => bo (pickA v25 v39 (B false)) fun v40 =>
  some (v40, H)
theorem rn_44 (C : Callee) (a0 a1 : AV) (H : AHeap) {r : AV × AHeap} (h : sh_44 C a0 a1 H = some r) : runF Tryz.prog C 44 [a0, a1] H = some r :=
  runF_K (A := an_44) (c := cd_44) Tryz.func44 (by kernel_rfl) (by kernel_rfl) (by kernel_rfl) ((show _ = sh_44 C a0 a1 H by kernel_rfl).trans h)
def an_45 : Ann := ⟨[], [], []⟩
noncomputable def cd_45 : Code := Tryz.f45.body.getD .skip
noncomputable def sh_45 (C : Callee) (a0 : AV) (H : AHeap) : Option (AV × AHeap) :=
  bnd (liftO (minMaxA Tryz.prog true #[3, 3] 3 [(I 0), a0]) H) fun v4 H => bo (bd 170 [(1, v4)]) fun v5 => bnd (boxA 170 v5 H) fun v6 H =>
  some (v6, H)
theorem rn_45 (C : Callee) (a0 : AV) (H : AHeap) {r : AV × AHeap} (h : sh_45 C a0 H = some r) : runF Tryz.prog C 45 [a0] H = some r :=
  runF_K (A := an_45) (c := cd_45) Tryz.func45 (by kernel_rfl) (by kernel_rfl) (by kernel_rfl) ((show _ = sh_45 C a0 H by kernel_rfl).trans h)
def an_46 : Ann := ⟨[], [], []⟩
noncomputable def cd_46 : Code := Tryz.f46.body.getD .skip
noncomputable def sh_46 (C : Callee) (a0 : AV) (H : AHeap) : Option (AV × AHeap) :=
  bnd (liftO (minMaxA Tryz.prog true #[3, 3] 3 [(I 0), a0]) H) fun v4 H => bo (bd 172 [(1, v4)]) fun v5 => bnd (boxA 172 v5 H) fun v6 H =>
  some (v6, H)
theorem rn_46 (C : Callee) (a0 : AV) (H : AHeap) {r : AV × AHeap} (h : sh_46 C a0 H = some r) : runF Tryz.prog C 46 [a0] H = some r :=
  runF_K (A := an_46) (c := cd_46) Tryz.func46 (by kernel_rfl) (by kernel_rfl) (by kernel_rfl) ((show _ = sh_46 C a0 H by kernel_rfl).trans h)
def an_47 : Ann := ⟨[], [], []⟩
noncomputable def cd_47 : Code := Tryz.f47.body.getD .skip
noncomputable def sh_47 (C : Callee) (a0 a1 : AV) (H : AHeap) : Option (AV × AHeap) :=
  bnd (liftO (minMaxA Tryz.prog true #[3, 3] 3 [(I 1), a0]) H) fun v6 H => bnd (liftO (minMaxA Tryz.prog true #[3, 3] 3 [(I 1), a1]) H) fun v8 H => bo (bd 175 [(1, v6), (2, v8)]) fun v9 => bnd (boxA 175 v9 H) fun v10 H =>
  some (v10, H)
theorem rn_47 (C : Callee) (a0 a1 : AV) (H : AHeap) {r : AV × AHeap} (h : sh_47 C a0 a1 H = some r) : runF Tryz.prog C 47 [a0, a1] H = some r :=
  runF_K (A := an_47) (c := cd_47) Tryz.func47 (by kernel_rfl) (by kernel_rfl) (by kernel_rfl) ((show _ = sh_47 C a0 a1 H by kernel_rfl).trans h)
def an_48 : Ann := ⟨[], [], []⟩
noncomputable def cd_48 : Code := Tryz.f48.body.getD .skip
noncomputable def sh_48 (C : Callee) (a0 : AV) (H : AHeap) : Option (AV × AHeap) :=
  bnd (C 80 [a0] H) fun v4 H => bo (bd 178 [(0, v4)]) fun v5 => bnd (boxA 178 v5 H) fun v6 H =>
  some (v6, H)
theorem rn_48 (C : Callee) (a0 : AV) (H : AHeap) {r : AV × AHeap} (h : sh_48 C a0 H = some r) : runF Tryz.prog C 48 [a0] H = some r :=
  runF_K (A := an_48) (c := cd_48) Tryz.func48 (by kernel_rfl) (by kernel_rfl) (by kernel_rfl) ((show _ = sh_48 C a0 H by kernel_rfl).trans h)
def an_49 : Ann := ⟨[], [(1, [some false, some false, some true, some true, some false, some false, some false, some false, some false])], []⟩
noncomputable def cd_49 : Code := Tryz.f49.body.getD .skip
noncomputable def sh_49 (C : Callee) (a0 a1 : AV) (H : AHeap) : Option (AV × AHeap) :=
  bnd (boxA 26 a0 H) fun v2 H =>
  bnd (lda 8 v2 H) fun v5 H => bnd (unG H (C 81 [v5, a1] H.guard)) fun v7 H => bnd (unG H (C 82 [] H.guard)) fun v8 H => bnd (lda 8 v2 H) fun v9 H => bo (bd 184 [(0, v7), (1, v8), (2, v9), (3, a1)]) fun v11 => bnd (boxA 184 v11 H) fun v12 H =>
  some (v12, H)
theorem rn_49 (C : Callee) (a0 a1 : AV) (H : AHeap) {r : AV × AHeap} (h : sh_49 C a0 a1 H = some r) : runF Tryz.prog C 49 [a0, a1] H = some r :=
  runF_K (A := an_49) (c := cd_49) Tryz.func49 (by kernel_rfl) (by kernel_rfl) (by kernel_rfl) ((show _ = sh_49 C a0 a1 H by kernel_rfl).trans h)
def an_50 : Ann := ⟨[], [], []⟩
noncomputable def cd_50 : Code := Tryz.f50.body.getD .skip
noncomputable def sh_50 (C : Callee) (a0 a1 : AV) (H : AHeap) : Option (AV × AHeap) :=
  bo (bi .geq 3 a0 (I 1)) fun v6 => gdA (some v6) true (liftO (some a0) H) H fun v8 H => gdA (some v6) true (liftO (some a1) H) H fun v9 H => gdA (some v6) true (liftO (bi .leq 3 v8 v9) H) H fun v10 H => bo (pickA v6 v10 (B false)) fun v11 =>
  some (v11, H)
theorem rn_50 (C : Callee) (a0 a1 : AV) (H : AHeap) {r : AV × AHeap} (h : sh_50 C a0 a1 H = some r) : runF Tryz.prog C 50 [a0, a1] H = some r :=
  runF_K (A := an_50) (c := cd_50) Tryz.func50 (by kernel_rfl) (by kernel_rfl) (by kernel_rfl) ((show _ = sh_50 C a0 a1 H by kernel_rfl).trans h)
def an_51 : Ann := ⟨[], [], []⟩
noncomputable def cd_51 : Code := Tryz.f51.body.getD .skip
noncomputable def sh_51 (C : Callee) (a0 a1 : AV) (H : AHeap) : Option (AV × AHeap) :=
  bnd (boxA 26 a0 H) fun v2 H => bnd (boxA 48 a1 H) fun v3 H =>
  bo (fieldPtr v3 0) fun v5 => bnd (ld v5 H) fun v6 H => bo (bi .geq 3 v6 (I 1)) fun v7 => gdA (some v7) true (liftO (fieldPtr v3 0) H) H fun v9 H => gdA (some v7) true (ld v9 H) H fun v10 H => gdA (some v7) true (liftO (bi .leq 3 v10 (I 4)) H) H fun v11 H => bo (pickA v7 v11 (B false)) fun v12 => gdA (some v12) true (liftO (fieldPtr v3 1) H) H fun v14 H => gdA (some v12) true (ld v14 H) H fun v15 H => gdA (some v12) true (liftO (bi .geq 3 v15 (I 0)) H) H fun v16 H => bo (pickA v12 v16 (B false)) fun v17 => gdA (some v17) true (liftO (fieldPtr v3 1) H) H fun v19 H => gdA (some v17) true (ld v19 H) H fun v20 H => gdA (some v17) true (liftO (fieldPtr v2 1) H) H fun v21 H => gdA (some v17) true (ld v21 H) H fun v22 H => gdA (some v17) true (liftO (fieldPtr v2 2) H) H fun v23 H => gdA (some v17) true (ld v23 H) H fun v24 H => gdA (some v17) true (liftO (bi .mul 3 v22 v24) H) H fun v25 H => gdA (some v17) true (liftO (bi .lss 3 v20 v25) H) H fun v26 H => bo (pickA v17 v26 (B false)) fun v27 => gdA (some v27) true (liftO (fieldPtr v3 2) H) H fun v29 H => gdA (some v27) true (ld v29 H) H fun v30 H => gdA (some v27) true (liftO (bi .eql 3 v30 (I 0)) H) H fun v31 H => gdA (some v27) true (liftO (some v31) H) H fun v32 H => gdA (some v32) false (liftO (fieldPtr v3 0) H) H fun v33 H => gdA (some v32) false (ld v33 H) H fun v34 H => gdA (some v32) false (liftO (bi .eql 3 v34 (I 2)) H) H fun v35 H => gdA (some v27) true (liftO (pickA v32 (B true) v35) H) H fun v36 H => gdA (some v27) true (liftO (some v36) H) H fun v37 H => gdA (some v37) false (liftO (fieldPtr v3 0) H) H fun v38 H => gdA (some v37) false (ld v38 H) H fun v39 H => gdA (some v37) false (liftO (bi .eql 3 v39 (I 3)) H) H fun v40 H => gdA (some v27) true (liftO (pickA v37 (B true) v40) H) H fun v41 H => bo (pickA v27 v41 (B false)) fun v42 =>
  some (v42, H)
theorem rn_51 (C : Callee) (a0 a1 : AV) (H : AHeap) {r : AV × AHeap} (h : sh_51 C a0 a1 H = some r) : runF Tryz.prog C 51 [a0, a1] H = some r :=
  runF_K (A := an_51) (c := cd_51) Tryz.func51 (by kernel_rfl) (by kernel_rfl) (by kernel_rfl) ((show _ = sh_51 C a0 a1 H by kernel_rfl).trans h)
def an_52 : Ann := ⟨[], [], []⟩
noncomputable def cd_52 : Code := Tryz.f52.body.getD .skip
noncomputable def sh_52 (C : Callee) (a0 a1 : AV) (H : AHeap) : Option (AV × AHeap) :=
  bnd (liftO (minMaxA Tryz.prog true #[3, 3] 3 [a0, (I 1)]) H) fun v6 H => bnd (liftO (minMaxA Tryz.prog true #[3, 3] 3 [a1, (I 1)]) H) fun v8 H => bo (bd 142 [(0, v6), (1, v8)]) fun v9 => bnd (boxA 142 v9 H) fun v10 H =>
  some (v10, H)
theorem rn_52 (C : Callee) (a0 a1 : AV) (H : AHeap) {r : AV × AHeap} (h : sh_52 C a0 a1 H = some r) : runF Tryz.prog C 52 [a0, a1] H = some r :=
  runF_K (A := an_52) (c := cd_52) Tryz.func52 (by kernel_rfl) (by kernel_rfl) (by kernel_rfl) ((show _ = sh_52 C a0 a1 H by kernel_rfl).trans h)
def an_53 : Ann := ⟨[(4, [2, 5, 6])], [(5, [some false, some false, some false, some false, some false, some false, some false, some true, some false, some false, some false, some false, some false, some false])], []⟩
noncomputable def cd_53 : Code := Tryz.f53.body.getD .skip
noncomputable def lp_53x0 (C : Callee) : List AV → AHeap → Option (AV × AHeap) := (loopsK Tryz.prog C an_53 31 cd_53 (retK Tryz.prog 31 Tryz.f53.results.toList) (fun _ _ _ => none) (retK Tryz.prog 31 Tryz.f53.results.toList)).getD 0 fun _ _ => none
noncomputable def sh_53 (C : Callee) (a0 a1 : AV) (H : AHeap) : Option (AV × AHeap) :=
  bnd (boxA 26 a0 H) fun v2 H =>
  bnd (lda 8 v2 H) fun v7 H => bo (bd 164 [(0, v7), (1, a1)]) fun v9 => bnd (boxA 164 v9 H) fun v10 H =>
  lp_53x0 C [v2, v10, (I 0)] H
theorem le_53x0 (C : Callee) (t2 t5 t6 : AV) (H : AHeap) : lp_53x0 C [t2, t5, t6] H =
  bo (fieldPtr t2 1) fun v12 => bnd (ld v12 H) fun v13 H => bo (bi .lss 3 t6 v13) fun v14 =>
  condK v14
  (bo (nilCheckA t5) fun v19 => bo (fieldPtr v19 9) fun v20 => bnd (ld v20 H) fun v21 H => bnd (lda 8 t2 H) fun v22 H => bnd (unG H (C 83 [v22, t6] H.guard)) fun v24 H => bo (bd 157 [(0, (I 0)), (1, (I (-1))), (2, v24)]) fun v25 => bnd (bs 158 1 [(0, v25)] H) fun v26 H => bnd (app 157 3 40 v21 v26 H) fun v27 H => bo (nilCheckA t5) fun v28 => bo (fieldPtr v28 9) fun v29 => bnd (st 1 v29 v27 H) fun _ H =>
   bo (bi .add 3 t6 (I 1)) fun v16 =>
   lp_53x0 C [t2, t5, v16] H)
  (some (t5, H)) :=
  (congrFun (congrFun (congrArg (fun l => l.getD 0 fun _ _ => none) (loops_eq cd_53 (retK Tryz.prog 31 Tryz.f53.results.toList) (fun _ _ _ => none) (retK Tryz.prog 31 Tryz.f53.results.toList))) [t2, t5, t6]) H).trans (by kernel_rfl)
theorem rn_53 (C : Callee) (a0 a1 : AV) (H : AHeap) {r : AV × AHeap} (h : sh_53 C a0 a1 H = some r) : runF Tryz.prog C 53 [a0, a1] H = some r :=
  runF_K (A := an_53) (c := cd_53) Tryz.func53 (by kernel_rfl) (by kernel_rfl) (by kernel_rfl) ((show _ = sh_53 C a0 a1 H by kernel_rfl).trans h)
def an_54 : Ann := ⟨[], [], []⟩
noncomputable def cd_54 : Code := Tryz.f54.body.getD .skip
noncomputable def sh_54 (C : Callee) (a0 : AV) (H : AHeap) : Option (AV × AHeap) :=
  bnd (alc 113 [zI, zI, zI, zI, zI, zI, zN, zI, zI] H) fun v2 H =>
  bo (nilCheckA a0) fun v6 => bo (fieldPtr v6 12) fun v7 => bo (fieldPtr v7 3) fun v8 => bnd (ld v8 H) fun v9 H => bo (bi .eql 3 v9 (I 0)) fun v10 =>
  condK v10
  (bo (bd 113 []) fun v11 => bnd (st 9 v2 v11 H) fun _ H =>
   bnd (lda 9 v2 H) fun r0 _ => some (.tup [r0, (B false)], H))
  (bo (nilCheckA a0) fun v13 => bo (fieldPtr v13 12) fun v14 => bnd (lda 9 v14 H) fun v15 H => bnd (alc 113 [zI, zI, zI, zI, zI, zI, zN, zI, zI] H) fun v4 H => bnd (st 9 v4 v15 H) fun _ H =>
   bo (fieldPtr v4 6) fun v16 => bnd (ld v16 H) fun v17 H => bnd (app 3 1 8 (.s (Go.Value.slice none 0 0)) v17 H) fun v18 H => bo (fieldPtr v4 6) fun v19 => bnd (st 1 v19 v18 H) fun _ H =>
   bnd (lda 9 v4 H) fun v20 H => bnd (st 9 v2 v20 H) fun _ H =>
   bnd (lda 9 v2 H) fun r0 _ => some (.tup [r0, (B true)], H))
theorem rn_54 (C : Callee) (a0 : AV) (H : AHeap) {r : AV × AHeap} (h : sh_54 C a0 H = some r) : runF Tryz.prog C 54 [a0] H = some r :=
  runF_K (A := an_54) (c := cd_54) Tryz.func54 (by kernel_rfl) (by kernel_rfl) (by kernel_rfl) ((show _ = sh_54 C a0 H by kernel_rfl).trans h)
def an_55 : Ann := ⟨[], [], []⟩
noncomputable def cd_55 : Code := Tryz.f55.body.getD .skip
noncomputable def sh_55 (C : Callee) (a0 : AV) (H : AHeap) : Option (AV × AHeap) :=
  bo (nilCheckA a0) fun v4 => bo (fieldPtr v4 2) fun v5 => bnd (ld v5 H) fun v6 H =>
  some (v6, H)
theorem rn_55 (C : Callee) (a0 : AV) (H : AHeap) {r : AV × AHeap} (h : sh_55 C a0 H = some r) : runF Tryz.prog C 55 [a0] H = some r :=
  runF_K (A := an_55) (c := cd_55) Tryz.func55 (by kernel_rfl) (by kernel_rfl) (by kernel_rfl) ((show _ = sh_55 C a0 H by kernel_rfl).trans h)
def an_56 : Ann := ⟨[], [(1, [some false, some false, some false, some false, some false, some false, some false, some false, some false, some false, some false, some false])], []⟩
noncomputable def cd_56 : Code := Tryz.f56.body.getD .skip
noncomputable def sh_56 (C : Callee) (a0 : AV) (H : AHeap) : Option (AV × AHeap) :=
  bo (nilCheckA a0) fun v4 => bo (fieldPtr v4 0) fun v5 => bnd (ld v5 H) fun v6 H => bnd (lnS v6 H) fun v7 H => bo (nilCheckA a0) fun v9 => bo (fieldPtr v9 1) fun v10 => bnd (ld v10 H) fun v11 H => bnd (lnS v11 H) fun v12 H => bo (bi .sub 3 v7 v12) fun v13 =>
  some (v13, H)
theorem rn_56 (C : Callee) (a0 : AV) (H : AHeap) {r : AV × AHeap} (h : sh_56 C a0 H = some r) : runF Tryz.prog C 56 [a0] H = some r :=
  runF_K (A := an_56) (c := cd_56) Tryz.func56 (by kernel_rfl) (by kernel_rfl) (by kernel_rfl) ((show _ = sh_56 C a0 H by kernel_rfl).trans h)
def an_57 : Ann := ⟨[], [], []⟩
noncomputable def cd_57 : Code := Tryz.f57.body.getD .skip
noncomputable def sh_57 (C : Callee) (a0 : AV) (H : AHeap) : Option (AV × AHeap) :=
  bo (bi .eql 65 a0 (.s (Go.Value.slice none 0 0))) fun v4 =>
  condK v4
  (some ((.s (Go.Value.slice none 0 0)), H))
  (bnd (bs 65 0 [] H) fun v5 H => bnd (app 73 4 32 v5 a0 H) fun v7 H =>
   some (v7, H))
theorem rn_57 (C : Callee) (a0 : AV) (H : AHeap) {r : AV × AHeap} (h : sh_57 C a0 H = some r) : runF Tryz.prog C 57 [a0] H = some r :=
  runF_K (A := an_57) (c := cd_57) Tryz.func57 (by kernel_rfl) (by kernel_rfl) (by kernel_rfl) ((show _ = sh_57 C a0 H by kernel_rfl).trans h)
def an_58 : Ann := ⟨[(4, [3, 9, 10, 11])], [], []⟩
noncomputable def cd_58 : Code := Tryz.f58.body.getD .skip
noncomputable def lp_58x0 (C : Callee) : List AV → AHeap → Option (AV × AHeap) := (loopsK Tryz.prog C an_58 24 cd_58 (retK Tryz.prog 24 Tryz.f58.results.toList) (fun _ _ _ => none) (retK Tryz.prog 24 Tryz.f58.results.toList)).getD 0 fun _ _ => none
noncomputable def sh_58 (C : Callee) (a0 : AV) (H : AHeap) : Option (AV × AHeap) :=
  bo (nilCheckA a0) fun v7 => bo (fieldPtr v7 0) fun v8 => bnd (ld v8 H) fun v9 H => bnd (lnS v9 H) fun v10 H =>
  lp_58x0 C [(.s (Go.Value.slice none 0 0)), v9, v10, (I 0)] H
theorem le_58x0 (C : Callee) (t3 t9 t10 t11 : AV) (H : AHeap) : lp_58x0 C [t3, t9, t10, t11] H =
  bo (bi .lss 3 t11 t10) fun v12 =>
  condK v12
  (bnd (ix 4 t9 t11 H) fun v13 H => bnd (lda 4 v13 H) fun v14 H => bnd (alc 101 [zP, zP, zP, zP] H) fun v5 H => bnd (st 4 v5 v14 H) fun _ H =>
   bo (fieldPtr v5 0) fun v16 => bnd (lda 2 v16 H) fun v17 H => bo (fieldPtr v5 2) fun v18 => bnd (lda 2 v18 H) fun v19 H => bnd (bs 132 2 [(0, v17), (1, v19)] H) fun v20 H => bnd (app 99 2 16 t3 v20 H) fun v21 H =>
   bo (bi .add 3 t11 (I 1)) fun v22 =>
   lp_58x0 C [v21, t9, t10, v22] H)
  (some (t3, H)) :=
  (congrFun (congrFun (congrArg (fun l => l.getD 0 fun _ _ => none) (loops_eq cd_58 (retK Tryz.prog 24 Tryz.f58.results.toList) (fun _ _ _ => none) (retK Tryz.prog 24 Tryz.f58.results.toList))) [t3, t9, t10, t11]) H).trans (by kernel_rfl)
theorem rn_58 (C : Callee) (a0 : AV) (H : AHeap) {r : AV × AHeap} (h : sh_58 C a0 H = some r) : runF Tryz.prog C 58 [a0] H = some r :=
  runF_K (A := an_58) (c := cd_58) Tryz.func58 (by kernel_rfl) (by kernel_rfl) (by kernel_rfl) ((show _ = sh_58 C a0 H by kernel_rfl).trans h)
def an_59 : Ann := ⟨[], [], []⟩
noncomputable def cd_59 : Code := Tryz.f59.body.getD .skip
noncomputable def sh_59 (C : Callee) (a0 : AV) (H : AHeap) : Option (AV × AHeap) :=
  bo (nilCheckA a0) fun v4 => bo (fieldPtr v4 0) fun v5 => bnd (ld v5 H) fun v6 H => bnd (lnS v6 H) fun v7 H =>
  some (v7, H)
theorem rn_59 (C : Callee) (a0 : AV) (H : AHeap) {r : AV × AHeap} (h : sh_59 C a0 H = some r) : runF Tryz.prog C 59 [a0] H = some r :=
  runF_K (A := an_59) (c := cd_59) Tryz.func59 (by kernel_rfl) (by kernel_rfl) (by kernel_rfl) ((show _ = sh_59 C a0 H by kernel_rfl).trans h)
def an_60 : Ann := ⟨[(3, [1, 4, 10, 11, 12])], [], []⟩
noncomputable def cd_60 : Code := Tryz.f60.body.getD .skip
noncomputable def lp_60x0 (C : Callee) : List AV → AHeap → Option (AV × AHeap) := (loopsK Tryz.prog C an_60 34 cd_60 (retK Tryz.prog 34 Tryz.f60.results.toList) (fun _ _ _ => none) (retK Tryz.prog 34 Tryz.f60.results.toList)).getD 0 fun _ _ => none
noncomputable def sh_60 (C : Callee) (a0 a1 : AV) (H : AHeap) : Option (AV × AHeap) :=
  bnd (alc 99 [zP, zP] H) fun v4 H =>
  bnd (C 58 [a0] H) fun v10 H => bnd (lnS v10 H) fun v11 H =>
  lp_60x0 C [a1, v4, v10, v11, (I 0)] H
theorem le_60x0 (C : Callee) (t1 t4 t10 t11 t12 : AV) (H : AHeap) : lp_60x0 C [t1, t4, t10, t11, t12] H =
  bo (bi .lss 3 t12 t11) fun v13 =>
  condK v13
  (bnd (ix 2 t10 t12 H) fun v14 H => bnd (lda 2 v14 H) fun v15 H => bnd (alc 99 [zP, zP] H) fun v8 H => bnd (st 2 v8 v15 H) fun _ H =>
   bo (bi .geq 3 t1 (I 0)) fun v17 => gdA (some v17) true (liftO (some t1) H) H fun v19 H => gdA (some v17) true (liftO (fieldPtr v8 0) H) H fun v20 H => gdA (some v17) true (ld v20 H) H fun v21 H => gdA (some v17) true (C 59 [v21] H) H fun v22 H => gdA (some v17) true (liftO (bi .lss 3 v19 v22) H) H fun v23 H => bo (pickA v17 v23 (B false)) fun v24 =>
   condK v24
   (bnd (lda 2 v8 H) fun v25 H => bnd (st 2 t4 v25 H) fun _ H =>
    bnd (lda 2 t4 H) fun r0 _ => some (.tup [r0, t1, (B true)], H))
   (bo (fieldPtr v8 0) fun v28 => bnd (ld v28 H) fun v29 H => bnd (C 59 [v29] H) fun v30 H => bo (bi .sub 3 t1 v30) fun v31 =>
    bo (bi .add 3 t12 (I 1)) fun v32 =>
    lp_60x0 C [v31, t4, t10, t11, v32] H))
  (bo (bd 99 []) fun v33 => bnd (st 2 t4 v33 H) fun _ H =>
   bnd (lda 2 t4 H) fun r0 _ => some (.tup [r0, (I 0), (B false)], H)) :=
  (congrFun (congrFun (congrArg (fun l => l.getD 0 fun _ _ => none) (loops_eq cd_60 (retK Tryz.prog 34 Tryz.f60.results.toList) (fun _ _ _ => none) (retK Tryz.prog 34 Tryz.f60.results.toList))) [t1, t4, t10, t11, t12]) H).trans (by kernel_rfl)
theorem rn_60 (C : Callee) (a0 a1 : AV) (H : AHeap) {r : AV × AHeap} (h : sh_60 C a0 a1 H = some r) : runF Tryz.prog C 60 [a0, a1] H = some r :=
  runF_K (A := an_60) (c := cd_60) Tryz.func60 (by kernel_rfl) (by kernel_rfl) (by kernel_rfl) ((show _ = sh_60 C a0 a1 H by kernel_rfl).trans h)
def an_61 : Ann := ⟨[], [], []⟩
noncomputable def cd_61 : Code := Tryz.f61.body.getD .skip
noncomputable def sh_61 (C : Callee) (a0 a1 : AV) (H : AHeap) : Option (AV × AHeap) :=
  bnd (alc 78 [zI, zI, zI, zI, zI, zI, zI, zB, zN] H) fun v4 H =>
  bo (bi .lss 3 a1 (I 0)) fun v7 => gdA (some v7) false (liftO (some a1) H) H fun v9 H => gdA (some v7) false (liftO (some a0) H) H fun v10 H => gdA (some v7) false (liftO (nilCheckA v10) H) H fun v11 H => gdA (some v7) false (liftO (fieldPtr v11 0) H) H fun v12 H => gdA (some v7) false (ld v12 H) H fun v13 H => gdA (some v7) false (lnS v13 H) H fun v14 H => gdA (some v7) false (liftO (bi .geq 3 v9 v14) H) H fun v15 H => bo (pickA v7 (B true) v15) fun v16 =>
  condK v16
  (bo (bd 78 []) fun v17 => bnd (st 9 v4 v17 H) fun _ H =>
   bnd (lda 9 v4 H) fun r0 _ => some (.tup [r0, (B false)], H))
  (bo (nilCheckA a0) fun v19 => bo (fieldPtr v19 0) fun v20 => bnd (ld v20 H) fun v21 H => bnd (ix 9 v21 a1 H) fun v23 H => bnd (lda 9 v23 H) fun v24 H => bnd (C 84 [v24] H) fun v25 H => bnd (st 9 v4 v25 H) fun _ H =>
   bnd (lda 9 v4 H) fun r0 _ => some (.tup [r0, (B true)], H))
theorem rn_61 (C : Callee) (a0 a1 : AV) (H : AHeap) {r : AV × AHeap} (h : sh_61 C a0 a1 H = some r) : runF Tryz.prog C 61 [a0, a1] H = some r :=
  runF_K (A := an_61) (c := cd_61) Tryz.func61 (by kernel_rfl) (by kernel_rfl) (by kernel_rfl) ((show _ = sh_61 C a0 a1 H by kernel_rfl).trans h)
def an_62 : Ann := ⟨[], [], []⟩
noncomputable def cd_62 : Code := Tryz.f62.body.getD .skip
noncomputable def sh_62 (C : Callee) (a0 a1 : AV) (H : AHeap) : Option (AV × AHeap) :=
  bo (bi .geq 3 a1 (I 0)) fun v6 => gdA (some v6) true (liftO (some a1) H) H fun v8 H => gdA (some v6) true (liftO (some a0) H) H fun v9 H => gdA (some v6) true (liftO (nilCheckA v9) H) H fun v10 H => gdA (some v6) true (liftO (fieldPtr v10 0) H) H fun v11 H => gdA (some v6) true (ld v11 H) H fun v12 H => gdA (some v6) true (lnS v12 H) H fun v13 H => gdA (some v6) true (liftO (bi .lss 3 v8 v13) H) H fun v14 H => bo (pickA v6 v14 (B false)) fun v15 =>
  some (v15, H)
theorem rn_62 (C : Callee) (a0 a1 : AV) (H : AHeap) {r : AV × AHeap} (h : sh_62 C a0 a1 H = some r) : runF Tryz.prog C 62 [a0, a1] H = some r :=
  runF_K (A := an_62) (c := cd_62) Tryz.func62 (by kernel_rfl) (by kernel_rfl) (by kernel_rfl) ((show _ = sh_62 C a0 a1 H by kernel_rfl).trans h)
def an_63 : Ann := ⟨[], [], []⟩
noncomputable def cd_63 : Code := Tryz.f63.body.getD .skip
noncomputable def sh_63 (C : Callee) (a0 : AV) (H : AHeap) : Option (AV × AHeap) :=
  bo (nilCheckA a0) fun v4 => bo (fieldPtr v4 0) fun v5 => bnd (ld v5 H) fun v6 H => bnd (lnS v6 H) fun v7 H =>
  some (v7, H)
theorem rn_63 (C : Callee) (a0 : AV) (H : AHeap) {r : AV × AHeap} (h : sh_63 C a0 H = some r) : runF Tryz.prog C 63 [a0] H = some r :=
  runF_K (A := an_63) (c := cd_63) Tryz.func63 (by kernel_rfl) (by kernel_rfl) (by kernel_rfl) ((show _ = sh_63 C a0 H by kernel_rfl).trans h)
def an_64 : Ann := ⟨[(5, [0, 1, 5])], [(6, [some false, some false, some false, some false, some false, some false, some false, some false, some false])], []⟩
noncomputable def cd_64 : Code := Tryz.f64.body.getD .skip
noncomputable def lp_64x0 (C : Callee) : List AV → AHeap → Option (AV × AHeap) := (loopsK Tryz.prog C an_64 26 cd_64 (retK Tryz.prog 26 Tryz.f64.results.toList) (fun _ _ _ => none) (retK Tryz.prog 26 Tryz.f64.results.toList)).getD 0 fun _ _ => none
noncomputable def sh_64 (C : Callee) (a0 a1 : AV) (H : AHeap) : Option (AV × AHeap) :=
  bnd (lnS a0 H) fun v7 H => bnd (lnS a1 H) fun v9 H => bo (bi .neq 3 v7 v9) fun v10 =>
  condK v10
  (some ((B false), H))
  (lp_64x0 C [a0, a1, (I 0)] H)
theorem le_64x0 (C : Callee) (t0 t1 t5 : AV) (H : AHeap) : lp_64x0 C [t0, t1, t5] H =
  bnd (lnS t0 H) fun v13 H => bo (bi .lss 3 t5 v13) fun v14 =>
  condK v14
  (bnd (ix 1 t0 t5 H) fun v19 H => bnd (ld v19 H) fun v20 H => bnd (ix 1 t1 t5 H) fun v23 H => bnd (ld v23 H) fun v24 H => bo (bi .neq 3 v20 v24) fun v25 =>
   condK v25
   (some ((B false), H))
   (bo (bi .add 3 t5 (I 1)) fun v16 =>
    lp_64x0 C [t0, t1, v16] H))
  (some ((B true), H)) :=
  (congrFun (congrFun (congrArg (fun l => l.getD 0 fun _ _ => none) (loops_eq cd_64 (retK Tryz.prog 26 Tryz.f64.results.toList) (fun _ _ _ => none) (retK Tryz.prog 26 Tryz.f64.results.toList))) [t0, t1, t5]) H).trans (by kernel_rfl)
theorem rn_64 (C : Callee) (a0 a1 : AV) (H : AHeap) {r : AV × AHeap} (h : sh_64 C a0 a1 H = some r) : runF Tryz.prog C 64 [a0, a1] H = some r :=
  runF_K (A := an_64) (c := cd_64) Tryz.func64 (by kernel_rfl) (by kernel_rfl) (by kernel_rfl) ((show _ = sh_64 C a0 a1 H by kernel_rfl).trans h)
def an_65 : Ann := ⟨[], [], []⟩
noncomputable def cd_65 : Code := Tryz.f65.body.getD .skip
noncomputable def sh_65 (C : Callee) (a0 : AV) (H : AHeap) : Option (AV × AHeap) :=
  bo (nilCheckA a0) fun v4 => bo (fieldPtr v4 1) fun v5 => bnd (ld v5 H) fun v6 H => bnd (C 17 [v6] H) fun v7 H =>
  some (v7, H)
theorem rn_65 (C : Callee) (a0 : AV) (H : AHeap) {r : AV × AHeap} (h : sh_65 C a0 H = some r) : runF Tryz.prog C 65 [a0] H = some r :=
  runF_K (A := an_65) (c := cd_65) Tryz.func65 (by kernel_rfl) (by kernel_rfl) (by kernel_rfl) ((show _ = sh_65 C a0 H by kernel_rfl).trans h)
def an_66 : Ann := ⟨[], [], []⟩
noncomputable def cd_66 : Code := Tryz.f66.body.getD .skip
noncomputable def sh_66 (C : Callee) (a0 a1 : AV) (H : AHeap) : Option (AV × AHeap) :=
  bnd (boxA 113 a0 H) fun v2 H => bnd (boxA 123 a1 H) fun v3 H =>
  bo (fieldPtr v2 0) fun v5 => bnd (ld v5 H) fun v6 H => bo (fieldPtr v3 0) fun v7 => bnd (ld v7 H) fun v8 H => bo (bi .eql 3 v6 v8) fun v9 => gdA (some v9) true (liftO (fieldPtr v2 1) H) H fun v11 H => gdA (some v9) true (ld v11 H) H fun v12 H => gdA (some v9) true (liftO (fieldPtr v3 1) H) H fun v13 H => gdA (some v9) true (ld v13 H) H fun v14 H => gdA (some v9) true (liftO (bi .eql 3 v12 v14) H) H fun v15 H => bo (pickA v9 v15 (B false)) fun v16 => gdA (some v16) true (liftO (fieldPtr v2 2) H) H fun v18 H => gdA (some v16) true (ld v18 H) H fun v19 H => gdA (some v16) true (liftO (fieldPtr v3 2) H) H fun v20 H => gdA (some v16) true (ld v20 H) H fun v21 H => gdA (some v16) true (liftO (bi .eql 3 v19 v21) H) H fun v22 H => bo (pickA v16 v22 (B false)) fun v23 => gdA (some v23) true (liftO (fieldPtr v2 3) H) H fun v25 H => gdA (some v23) true (ld v25 H) H fun v26 H => gdA (some v23) true (liftO (fieldPtr v3 3) H) H fun v27 H => gdA (some v23) true (ld v27 H) H fun v28 H => gdA (some v23) true (liftO (bi .eql 3 v26 v28) H) H fun v29 H => bo (pickA v23 v29 (B false)) fun v30 => gdA (some v30) true (liftO (fieldPtr v2 4) H) H fun v32 H => gdA (some v30) true (ld v32 H) H fun v33 H => gdA (some v30) true (liftO (fieldPtr v3 4) H) H fun v34 H => gdA (some v30) true (ld v34 H) H fun v35 H => gdA (some v30) true (liftO (bi .eql 3 v33 v35) H) H fun v36 H => bo (pickA v30 v36 (B false)) fun v37 => gdA (some v37) true (liftO (fieldPtr v2 5) H) H fun v39 H => gdA (some v37) true (ld v39 H) H fun v40 H => gdA (some v37) true (liftO (fieldPtr v3 5) H) H fun v41 H => gdA (some v37) true (ld v41 H) H fun v42 H => gdA (some v37) true (liftO (bi .eql 3 v40 v42) H) H fun v43 H => bo (pickA v37 v43 (B false)) fun v44 => gdA (some v44) true (liftO (fieldPtr v2 7) H) H fun v46 H => gdA (some v44) true (ld v46 H) H fun v47 H => gdA (some v44) true (liftO (fieldPtr v3 7) H) H fun v48 H => gdA (some v44) true (ld v48 H) H fun v49 H => gdA (some v44) true (liftO (bi .eql 3 v47 v49) H) H fun v50 H => bo (pickA v44 v50 (B false)) fun v51 => gdA (some v51) true (liftO (fieldPtr v2 8) H) H fun v53 H => gdA (some v51) true (ld v53 H) H fun v54 H => gdA (some v51) true (liftO (fieldPtr v3 8) H) H fun v55 H => gdA (some v51) true (ld v55 H) H fun v56 H => gdA (some v51) true (liftO (bi .eql 3 v54 v56) H) H fun v57 H => bo (pickA v51 v57 (B false)) fun v58 => gdA (some v58) true (liftO (fieldPtr v2 6) H) H fun v60 H => gdA (some v58) true (ld v60 H) H fun v61 H => gdA (some v58) true (liftO (fieldPtr v3 6) H) H fun v62 H => gdA (some v58) true (ld v62 H) H fun v63 H => gdA (some v58) true (C 64 [v61, v63] H) H fun v64 H => bo (pickA v58 v64 (B false)) fun v65 =>
  some (v65, H)
theorem rn_66 (C : Callee) (a0 a1 : AV) (H : AHeap) {r : AV × AHeap} (h : sh_66 C a0 a1 H = some r) : runF Tryz.prog C 66 [a0, a1] H = some r :=
  runF_K (A := an_66) (c := cd_66) Tryz.func66 (by kernel_rfl) (by kernel_rfl) (by kernel_rfl) ((show _ = sh_66 C a0 a1 H by kernel_rfl).trans h)
def an_67 : Ann := ⟨[(4, [3, 9, 10, 11])], [], []⟩
noncomputable def cd_67 : Code := Tryz.f67.body.getD .skip
noncomputable def lp_67x0 (C : Callee) : List AV → AHeap → Option (AV × AHeap) := (loopsK Tryz.prog C an_67 24 cd_67 (retK Tryz.prog 24 Tryz.f67.results.toList) (fun _ _ _ => none) (retK Tryz.prog 24 Tryz.f67.results.toList)).getD 0 fun _ _ => none
noncomputable def sh_67 (C : Callee) (a0 : AV) (H : AHeap) : Option (AV × AHeap) :=
  bo (nilCheckA a0) fun v7 => bo (fieldPtr v7 0) fun v8 => bnd (ld v8 H) fun v9 H => bnd (lnS v9 H) fun v10 H =>
  lp_67x0 C [(.s (Go.Value.slice none 0 0)), v9, v10, (I 0)] H
theorem le_67x0 (C : Callee) (t3 t9 t10 t11 : AV) (H : AHeap) : lp_67x0 C [t3, t9, t10, t11] H =
  bo (bi .lss 3 t11 t10) fun v12 =>
  condK v12
  (bnd (ix 6 t9 t11 H) fun v13 H => bnd (lda 6 v13 H) fun v14 H => bnd (alc 148 [zI, zI, zI, zI, zB, zN] H) fun v5 H => bnd (st 6 v5 v14 H) fun _ H =>
   bo (fieldPtr v5 2) fun v16 => bnd (ld v16 H) fun v17 H => bnd (bs 22 1 [(0, v17)] H) fun v18 H => bnd (app 3 1 8 t3 v18 H) fun v19 H =>
   bo (bi .add 3 t11 (I 1)) fun v20 =>
   lp_67x0 C [v19, t9, t10, v20] H)
  (bnd (C 85 [t3] H) fun v22 H =>
   some (t3, H)) :=
  (congrFun (congrFun (congrArg (fun l => l.getD 0 fun _ _ => none) (loops_eq cd_67 (retK Tryz.prog 24 Tryz.f67.results.toList) (fun _ _ _ => none) (retK Tryz.prog 24 Tryz.f67.results.toList))) [t3, t9, t10, t11]) H).trans (by kernel_rfl)
theorem rn_67 (C : Callee) (a0 : AV) (H : AHeap) {r : AV × AHeap} (h : sh_67 C a0 H = some r) : runF Tryz.prog C 67 [a0] H = some r :=
  runF_K (A := an_67) (c := cd_67) Tryz.func67 (by kernel_rfl) (by kernel_rfl) (by kernel_rfl) ((show _ = sh_67 C a0 H by kernel_rfl).trans h)
def an_68 : Ann := ⟨[], [], []⟩
noncomputable def cd_68 : Code := Tryz.f68.body.getD .skip
noncomputable def sh_68 (C : Callee) (a0 a1 : AV) (H : AHeap) : Option (AV × AHeap) :=
  bnd (alc 148 [zI, zI, zI, zI, zB, zN] H) fun v4 H =>
  bnd (C 86 [a0, a1] H) fun v9 H =>
  bo (bi .lss 3 v9 (I 0)) fun v11 =>
  condK v11
  (bo (bd 148 []) fun v12 => bnd (st 6 v4 v12 H) fun _ H =>
   bnd (lda 6 v4 H) fun r0 _ => some (.tup [r0, (B false)], H))
  (bo (nilCheckA a0) fun v14 => bo (fieldPtr v14 0) fun v15 => bnd (ld v15 H) fun v16 H => bnd (ix 6 v16 v9 H) fun v18 H => bnd (lda 6 v18 H) fun v19 H => bnd (C 87 [v19] H) fun v20 H => bnd (st 6 v4 v20 H) fun _ H =>
   bnd (lda 6 v4 H) fun r0 _ => some (.tup [r0, (B true)], H))
theorem rn_68 (C : Callee) (a0 a1 : AV) (H : AHeap) {r : AV × AHeap} (h : sh_68 C a0 a1 H = some r) : runF Tryz.prog C 68 [a0, a1] H = some r :=
  runF_K (A := an_68) (c := cd_68) Tryz.func68 (by kernel_rfl) (by kernel_rfl) (by kernel_rfl) ((show _ = sh_68 C a0 a1 H by kernel_rfl).trans h)

end Go.Proofs.YtlcdejlbmnjlaaaGreat

