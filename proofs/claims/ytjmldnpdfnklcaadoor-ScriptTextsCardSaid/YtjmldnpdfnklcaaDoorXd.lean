/-
  Own work: an interpreter over named blocks, its soundness, and what the functions of this seat compute (part 4 of 8).
  Conditions: those of the statement alone.
-/
import Derived.Deep.DeepHandedRow
import Derived.Deep.DeepWitnessRowRef
import Derived.LaidMore
import Derived.LaidSub
import Derived.LaidHandle
import Derived.MakeChecks
import Derived.Shelf.Vars
import Derived.OpenShut
import Derived.Test.YtjmldnpdfnklcaaDoorRows
import Derived.Lib.LaidU8
import Derived.Lib.DecodeN
import Derived.Test.YtjmldnpdfnklcaaDoorXc
set_option linter.all false
set_option linter.unusedSectionVars false
set_option linter.unusedVariables false
set_option linter.unusedSimpArgs false
namespace Go.Proofs.YtjmldnpdfnklcaaDoor

open Go.ChangeShapes Go.WideShapes Go.ChangeAt Go.RowKit
theorem RV_T {W : World} {s : ByteArray} : RV ρ0 G0 W (T s.data.toList) (.string s) := by simp [T, RV]
theorem z_glOk {W : World} {l : List (String × DataW Unit)} (hp : (l.all fun x => x.2.handleName?.isNone) = true) (hf : (l.filter fun x => x.1 == "internal/strconv.uint64pow10") = [("internal/strconv.uint64pow10", Lib.tabData .u64 Lib.pow10Tab)])
    (hL : laidMetH Tryd.prog l W) (hsh : W.ShapedOpen Tryd.prog) : GlOk ρ0 W := by
  have h1 : ∃ m, W.cell? ⟨2, 0, none⟩ = some (.int .i64 m) := cell_of_shapedOpen_int (zero := #[.int .i64 0]) (t := 3) hsh (of_decide_eq_true (by kernel_rfl)) (by kernel_rfl) rfl (by kernel_rfl) (by kernel_rfl) Tryd.underlying3
  have h2 : Lib.TabIs Tryd.prog W "internal/strconv.uint64pow10" .u64 Lib.pow10Tab := by
    rw [MakeChecks.laidMetH_plain _ _ _ hp] at hL
    have := laidMet.filter (fun x => x.1 == "internal/strconv.uint64pow10") hL
    rw [hf] at this
    exact Lib.tabIs_of_head g_pow (by kernel_rfl) Tryd.underlying156 Tryd.underlying127 (by kernel_rfl) (by kernel_rfl) this
  refine ⟨fun b hb => ⟨?_, fun r sh e => by cases e⟩, h1, h2⟩
  have hb' : b = 2 ∨ b = 5 := by simpa [fx] using hb
  rcases hb' with rfl | rfl
  · obtain ⟨m, hm⟩ := h1
    cases e : W.heap[2]? with
    | none => simp [World.cell?, e] at hm
    | some o => exact (Array.getElem?_eq_some_iff.1 e).1
  · unfold Lib.TabIs at h2
    simp only [World.var?, g_pow, Option.bind_some] at h2
    cases e : W.heap[5]? with
    | none => rw [e] at h2; cases h2
    | some o => exact (Array.getElem?_eq_some_iff.1 e).1
/-- A world in which the library's tables lie. -/
def z_nums {H : Type} : DataW H → List Int
  | .agg l => l.map fun
    | .lit (.int _ n) => n
    | _ => 0
  | _ => []
def z_put (h : Array Obj) (g : Nat) (cs : Array Value) : Array Obj := h.modify g fun
  | .cells _ t frozen => .cells cs t frozen
  | o => o
noncomputable def z_world (os : Os) : World :=
  let N := (World.settled Tryd.prog os).heap.size
  let w0 := World.holding Tryd.prog os ⟨#[.cells #[.string ⟨#[105, 110, 118, 97, 108, 105, 100, 32, 115, 121, 110, 116, 97, 120]⟩] 145, .cells #[.string ⟨#[118, 97, 108, 117, 101, 32, 111, 117, 116, 32, 111, 102, 32, 114, 97, 110, 103, 101]⟩] 145], #[], []⟩
  let h1 := z_put w0.heap 0 #[.iface 143 (.pointer (some ⟨N, 0, none⟩))]
  let h2 := z_put h1 1 #[.iface 143 (.pointer (some ⟨N + 1, 0, none⟩))]
  let h3 := z_put h2 3 (Lib.firstTab.map fun z => Value.int .u8 z).toArray
  let h4 := z_put h3 4 ((List.range 16).flatMap fun i => [Value.int .u8 (Lib.accLo i), Value.int .u8 (Lib.accHi i)]).toArray
  let h5 := z_put h4 5 (Lib.pow10Tab.map fun z => Value.int .u64 z).toArray
  let h6 := z_put h5 6 ((z_nums (Rows.laid_math_bits_deBruijn32tab (H := Unit))).map fun z => Value.int .u8 z).toArray
  let h7 := z_put h6 7 ((z_nums (Rows.laid_math_bits_deBruijn64tab (H := Unit))).map fun z => Value.int .u8 z).toArray
  { w0 with heap := h7 }

end Go.Proofs.YtjmldnpdfnklcaaDoor

