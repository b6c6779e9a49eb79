/-
  No cell of these rows narrows 'for every input' (looked for: loops, veiled, ifaces, maps, wideKeys, modest, calm, conditions, laid).
  DERIVED. THE GIVEN ROWS OF THIS SEAT. 5 by the template 'for every input the law returns true; each argument reads behind the call as it read before'; 0 by the template 'total and deterministic' (their statements: YtgplhpgkompkmaaGreatTotals.lean).
  GIVEN WITH THE SEED: the statements are not yours to turn. If you find one false, say at which input.
  Laid BY PROGRAM, IN A SANDBOX (cutbox-rows.mjs): the forced cells as the released guide's own fill.sh prints them over the translation 587965f61f00d1fa… (all of the seat's roots in one cut). By AI agents, Wed Nov 11 2026. No macro, syntax, notation, axiom, sorry.
-/
import Derived.Test.YtgplhpgkompkmaaGreatChecked
import GoSem.Claim
import GoSem.ClaimJoined
import GoSem.ClaimMapViews
import Derived.JoinedTies
import Derived.KernelRfl
namespace Go.Proofs.YtgplhpgkompkmaaGreat
/- THE CELL 'sum', in the pinned program and in every row, IS THE sha256 OF THE DUMP (.gsa) THAT YtgplhpgkompkmaaGreatProg.lean LOADS. Nothing in Lean hashes anything: it is a label: what it is worth is what the hold of that sum in a sandbox is worth. -/
noncomputable def Tryz.pinned : Pinned := { name := "ytgplhpgkompkmaagreat", sum := "587965f61f00d1fa1884d879d670277a500619ba19a28d35db5d826fd55c0cd7", checked := Tryz.checked }
namespace Rows
def none {H : Type} : Left H := { results := [], args := [] }

/-- 'chapletlaw24.WatchNone': WHATEVER THE INPUT: true; the input reads as it did. -/
def watchNoneSpec : ChangeSpec := { name := "watchNone", fn := fun _ => fun
  | [d1, d2] => { results := [.lit (.bool true)], args := [d1, d2] }
  | _ => none }
def watchNoneRow : OpenClaim := { program := "ytgplhpgkompkmaagreat", sum := "587965f61f00d1fa1884d879d670277a500619ba19a28d35db5d826fd55c0cd7", func := "chaplet/chapletlaw24.WatchNone", spec := "watchNone", unfollowed := true, recurses := true, apart := false }
def WatchNoneSaid : Prop := watchNoneRow.holds Tryz.pinned (OpenSpec.ofChange watchNoneSpec)

/-- ITS FALSE NEIGHBOUR: 'it returns false'. Refute it at one input. -/
def watchNoneWrong : ChangeSpec := { name := "watchNone", fn := fun _ => fun
  | [d1, d2] => { results := [.lit (.bool false)], args := [d1, d2] }
  | _ => none }
def WatchNoneWrongFalsely : Prop := watchNoneRow.holds Tryz.pinned (OpenSpec.ofChange watchNoneWrong)

/-- 'chapletlaw24.WatchWalks': WHATEVER THE INPUT: true; the input reads as it did. -/
def watchWalksSpec : ChangeSpec := { name := "watchWalks", fn := fun _ => fun
  | [d1, d2] => { results := [.lit (.bool true)], args := [d1, d2] }
  | _ => none }
def watchWalksRow : OpenClaim := { program := "ytgplhpgkompkmaagreat", sum := "587965f61f00d1fa1884d879d670277a500619ba19a28d35db5d826fd55c0cd7", func := "chaplet/chapletlaw24.WatchWalks", spec := "watchWalks", unfollowed := true, recurses := true, apart := false }
def WatchWalksSaid : Prop := watchWalksRow.holds Tryz.pinned (OpenSpec.ofChange watchWalksSpec)

/-- ITS FALSE NEIGHBOUR: 'it returns false'. Refute it at one input. -/
def watchWalksWrong : ChangeSpec := { name := "watchWalks", fn := fun _ => fun
  | [d1, d2] => { results := [.lit (.bool false)], args := [d1, d2] }
  | _ => none }
def WatchWalksWrongFalsely : Prop := watchWalksRow.holds Tryz.pinned (OpenSpec.ofChange watchWalksWrong)

/-- 'chapletlaw24.WatchSound': WHATEVER THE INPUT: true; the input reads as it did. -/
def watchSoundSpec : ChangeSpec := { name := "watchSound", fn := fun _ => fun
  | [d1, d2] => { results := [.lit (.bool true)], args := [d1, d2] }
  | _ => none }
def watchSoundRow : OpenClaim := { program := "ytgplhpgkompkmaagreat", sum := "587965f61f00d1fa1884d879d670277a500619ba19a28d35db5d826fd55c0cd7", func := "chaplet/chapletlaw24.WatchSound", spec := "watchSound", unfollowed := true, recurses := true, apart := false }
def WatchSoundSaid : Prop := watchSoundRow.holds Tryz.pinned (OpenSpec.ofChange watchSoundSpec)

/-- ITS FALSE NEIGHBOUR: 'it returns false'. Refute it at one input. -/
def watchSoundWrong : ChangeSpec := { name := "watchSound", fn := fun _ => fun
  | [d1, d2] => { results := [.lit (.bool false)], args := [d1, d2] }
  | _ => none }
def WatchSoundWrongFalsely : Prop := watchSoundRow.holds Tryz.pinned (OpenSpec.ofChange watchSoundWrong)

/-- 'chapletlaw25.RoundsOne': WHATEVER THE INPUT: true; the input reads as it did. -/
def roundsOneSpec : ChangeSpec := { name := "roundsOne", fn := fun _ => fun
  | [d1, d2] => { results := [.lit (.bool true)], args := [d1, d2] }
  | _ => none }
def roundsOneRow : OpenClaim := { program := "ytgplhpgkompkmaagreat", sum := "587965f61f00d1fa1884d879d670277a500619ba19a28d35db5d826fd55c0cd7", func := "chaplet/chapletlaw25.RoundsOne", spec := "roundsOne", unfollowed := true, recurses := true, apart := false }
def RoundsOneSaid : Prop := roundsOneRow.holds Tryz.pinned (OpenSpec.ofChange roundsOneSpec)

/-- ITS FALSE NEIGHBOUR: 'it returns false'. Refute it at one input. -/
def roundsOneWrong : ChangeSpec := { name := "roundsOne", fn := fun _ => fun
  | [d1, d2] => { results := [.lit (.bool false)], args := [d1, d2] }
  | _ => none }
def RoundsOneWrongFalsely : Prop := roundsOneRow.holds Tryz.pinned (OpenSpec.ofChange roundsOneWrong)

/-- 'chaplettop.TopBounds': WHATEVER THE INPUT: true; the input reads as it did. -/
def topBoundsSpec : ChangeSpec := { name := "topBounds", fn := fun _ => fun
  | [d1, d2] => { results := [.lit (.bool true)], args := [d1, d2] }
  | _ => none }
def topBoundsRow : OpenClaim := { program := "ytgplhpgkompkmaagreat", sum := "587965f61f00d1fa1884d879d670277a500619ba19a28d35db5d826fd55c0cd7", func := "chaplet/chaplettop.TopBounds", spec := "topBounds", unfollowed := true, recurses := true, apart := false }
def TopBoundsSaid : Prop := topBoundsRow.holds Tryz.pinned (OpenSpec.ofChange topBoundsSpec)

/-- ITS FALSE NEIGHBOUR: 'it returns false'. Refute it at one input. -/
def topBoundsWrong : ChangeSpec := { name := "topBounds", fn := fun _ => fun
  | [d1, d2] => { results := [.lit (.bool false)], args := [d1, d2] }
  | _ => none }
def TopBoundsWrongFalsely : Prop := topBoundsRow.holds Tryz.pinned (OpenSpec.ofChange topBoundsWrong)

/- THE SECOND FORM. 'bulk': how many values and letters a reading holds, each counted each time it is reached (what is shared counts as often as it is met; a slice's spare places count too). A statement '..UptoSaid' is the law's where the arguments, and the package variables that the reading takes, are together of bulk at most 1048576: NARROWER than '..Said'. Prove '..Said' where nothing that the law and all that it calls make is longer than what came in: it says more and counts as full. Else prove '..UptoSaid'. A law counts once. -/
mutual
def uptoBulk {H : Type} : DataW H → Nat
  | .lit (.string bytes) => bytes.length + 1
  | .lit _ => 1
  | .nil => 1
  | .ptr d => uptoBulk d + 1
  | .slice elems spare => uptoBulkAll elems + uptoBulkAll spare + 1
  | .agg parts => uptoBulkAll parts + 1
  | .iface _ d => uptoBulk d + 1
  | .map entries => uptoBulkEntries entries + 1
  | .held _ => 1
def uptoBulkAll {H : Type} : List (DataW H) → Nat
  | [] => 0
  | d :: r => uptoBulk d + uptoBulkAll r
def uptoBulkEntries {H : Type} : List (Lit × DataW H) → Nat
  | [] => 0
  | x :: r => uptoBulkEntry x + uptoBulkEntries r
def uptoBulkEntry {H : Type} : Lit × DataW H → Nat
  | (.string bytes, d) => bytes.length + uptoBulk d + 1
  | (_, d) => uptoBulk d + 1
 end
def uptoSmall : (H : Type) → List (DataW H) → Bool := fun _ ds => decide (uptoBulkAll ds ≤ 1048576)
def OpenSpec.upto (s : _root_.Go.ChangeSpec) : _root_.Go.OpenSpec := { _root_.Go.OpenSpec.ofChange s with cond := some uptoSmall }

/-- 'chapletlaw24.WatchNone', WHERE WHAT IT READS IS OF BULK AT MOST 1048576: true; the input reads as it did. -/
def watchNoneUptoRow : OpenClaim := { program := "ytgplhpgkompkmaagreat", sum := "587965f61f00d1fa1884d879d670277a500619ba19a28d35db5d826fd55c0cd7", func := "chaplet/chapletlaw24.WatchNone", spec := "watchNone", unfollowed := true, recurses := true, apart := false, narrowed := true }
def WatchNoneUptoSaid : Prop := watchNoneUptoRow.holds Tryz.pinned (OpenSpec.upto watchNoneSpec)

/-- 'chapletlaw24.WatchWalks', WHERE WHAT IT READS IS OF BULK AT MOST 1048576: true; the input reads as it did. -/
def watchWalksUptoRow : OpenClaim := { program := "ytgplhpgkompkmaagreat", sum := "587965f61f00d1fa1884d879d670277a500619ba19a28d35db5d826fd55c0cd7", func := "chaplet/chapletlaw24.WatchWalks", spec := "watchWalks", unfollowed := true, recurses := true, apart := false, narrowed := true }
def WatchWalksUptoSaid : Prop := watchWalksUptoRow.holds Tryz.pinned (OpenSpec.upto watchWalksSpec)

/-- 'chapletlaw24.WatchSound', WHERE WHAT IT READS IS OF BULK AT MOST 1048576: true; the input reads as it did. -/
def watchSoundUptoRow : OpenClaim := { program := "ytgplhpgkompkmaagreat", sum := "587965f61f00d1fa1884d879d670277a500619ba19a28d35db5d826fd55c0cd7", func := "chaplet/chapletlaw24.WatchSound", spec := "watchSound", unfollowed := true, recurses := true, apart := false, narrowed := true }
def WatchSoundUptoSaid : Prop := watchSoundUptoRow.holds Tryz.pinned (OpenSpec.upto watchSoundSpec)

/-- 'chapletlaw25.RoundsOne', WHERE WHAT IT READS IS OF BULK AT MOST 1048576: true; the input reads as it did. -/
def roundsOneUptoRow : OpenClaim := { program := "ytgplhpgkompkmaagreat", sum := "587965f61f00d1fa1884d879d670277a500619ba19a28d35db5d826fd55c0cd7", func := "chaplet/chapletlaw25.RoundsOne", spec := "roundsOne", unfollowed := true, recurses := true, apart := false, narrowed := true }
def RoundsOneUptoSaid : Prop := roundsOneUptoRow.holds Tryz.pinned (OpenSpec.upto roundsOneSpec)

/-- 'chaplettop.TopBounds', WHERE WHAT IT READS IS OF BULK AT MOST 1048576: true; the input reads as it did. -/
def topBoundsUptoRow : OpenClaim := { program := "ytgplhpgkompkmaagreat", sum := "587965f61f00d1fa1884d879d670277a500619ba19a28d35db5d826fd55c0cd7", func := "chaplet/chaplettop.TopBounds", spec := "topBounds", unfollowed := true, recurses := true, apart := false, narrowed := true }
def TopBoundsUptoSaid : Prop := topBoundsUptoRow.holds Tryz.pinned (OpenSpec.upto topBoundsSpec)

end Rows
end Go.Proofs.YtgplhpgkompkmaaGreat
