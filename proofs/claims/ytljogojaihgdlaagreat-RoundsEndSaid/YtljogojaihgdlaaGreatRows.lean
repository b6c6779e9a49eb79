/-
  No cell of these rows narrows 'for every input' (looked for: loops, veiled, ifaces, maps, wideKeys, modest, calm, conditions, laid).
  DERIVED. THE GIVEN ROWS OF THIS SEAT. 4 by the template 'for every input the law returns true; each argument reads behind the call as it read before'; 0 by the template 'total and deterministic' (their statements: YtljogojaihgdlaaGreatTotals.lean).
  GIVEN WITH THE SEED: the statements are not yours to turn. If you find one false, say at which input.
  Laid BY PROGRAM, IN A SANDBOX (cutbox-rows.mjs): the forced cells as the released guide's own fill.sh prints them over the translation 7a91db7ec076bd82… (all of the seat's roots in one cut). By AI agents, Wed Nov 11 2026. No macro, syntax, notation, axiom, sorry.
-/
import Derived.Test.YtljogojaihgdlaaGreatChecked
import GoSem.Claim
import GoSem.ClaimJoined
import GoSem.ClaimMapViews
import Derived.JoinedTies
import Derived.KernelRfl
namespace Go.Proofs.YtljogojaihgdlaaGreat
/- THE CELL 'sum', in the pinned program and in every row, IS THE sha256 OF THE DUMP (.gsa) THAT YtljogojaihgdlaaGreatProg.lean LOADS. Nothing in Lean hashes anything: it is a label: what it is worth is what the hold of that sum in a sandbox is worth. -/
noncomputable def Tryz.pinned : Pinned := { name := "ytljogojaihgdlaagreat", sum := "7a91db7ec076bd820f5812400b404e394a752cef830a816c4b152e0e5e4bd7a3", checked := Tryz.checked }
namespace Rows
def none {H : Type} : Left H := { results := [], args := [] }

/-- 'chapletlaw20.NodeAlone': WHATEVER THE INPUT: true; the input reads as it did. -/
def nodeAloneSpec : ChangeSpec := { name := "nodeAlone", fn := fun _ => fun
  | [d] => { results := [.lit (.bool true)], args := [d] }
  | _ => none }
def nodeAloneRow : OpenClaim := { program := "ytljogojaihgdlaagreat", sum := "7a91db7ec076bd820f5812400b404e394a752cef830a816c4b152e0e5e4bd7a3", func := "chaplet/chapletlaw20.NodeAlone", spec := "nodeAlone", unfollowed := true, recurses := true, apart := false }
def NodeAloneSaid : Prop := nodeAloneRow.holds Tryz.pinned (OpenSpec.ofChange nodeAloneSpec)

/-- ITS FALSE NEIGHBOUR: 'it returns false'. Refute it at one input. -/
def nodeAloneWrong : ChangeSpec := { name := "nodeAlone", fn := fun _ => fun
  | [d] => { results := [.lit (.bool false)], args := [d] }
  | _ => none }
def NodeAloneWrongFalsely : Prop := nodeAloneRow.holds Tryz.pinned (OpenSpec.ofChange nodeAloneWrong)

/-- 'chapletlaw20.NodeDeals': WHATEVER THE INPUT: true; the input reads as it did. -/
def nodeDealsSpec : ChangeSpec := { name := "nodeDeals", fn := fun _ => fun
  | [d] => { results := [.lit (.bool true)], args := [d] }
  | _ => none }
def nodeDealsRow : OpenClaim := { program := "ytljogojaihgdlaagreat", sum := "7a91db7ec076bd820f5812400b404e394a752cef830a816c4b152e0e5e4bd7a3", func := "chaplet/chapletlaw20.NodeDeals", spec := "nodeDeals", unfollowed := true, recurses := true, apart := false }
def NodeDealsSaid : Prop := nodeDealsRow.holds Tryz.pinned (OpenSpec.ofChange nodeDealsSpec)

/-- ITS FALSE NEIGHBOUR: 'it returns false'. Refute it at one input. -/
def nodeDealsWrong : ChangeSpec := { name := "nodeDeals", fn := fun _ => fun
  | [d] => { results := [.lit (.bool false)], args := [d] }
  | _ => none }
def NodeDealsWrongFalsely : Prop := nodeDealsRow.holds Tryz.pinned (OpenSpec.ofChange nodeDealsWrong)

/-- 'chapletlaw25.RoundsEnd': WHATEVER THE INPUT: true; the input reads as it did. -/
def roundsEndSpec : ChangeSpec := { name := "roundsEnd", fn := fun _ => fun
  | [d1, d2, d3] => { results := [.lit (.bool true)], args := [d1, d2, d3] }
  | _ => none }
def roundsEndRow : OpenClaim := { program := "ytljogojaihgdlaagreat", sum := "7a91db7ec076bd820f5812400b404e394a752cef830a816c4b152e0e5e4bd7a3", func := "chaplet/chapletlaw25.RoundsEnd", spec := "roundsEnd", unfollowed := true, recurses := true, apart := false }
def RoundsEndSaid : Prop := roundsEndRow.holds Tryz.pinned (OpenSpec.ofChange roundsEndSpec)

/-- ITS FALSE NEIGHBOUR: 'it returns false'. Refute it at one input. -/
def roundsEndWrong : ChangeSpec := { name := "roundsEnd", fn := fun _ => fun
  | [d1, d2, d3] => { results := [.lit (.bool false)], args := [d1, d2, d3] }
  | _ => none }
def RoundsEndWrongFalsely : Prop := roundsEndRow.holds Tryz.pinned (OpenSpec.ofChange roundsEndWrong)

/-- 'chapletlaw25.RoundsGo': WHATEVER THE INPUT: true; the input reads as it did. -/
def roundsGoSpec : ChangeSpec := { name := "roundsGo", fn := fun _ => fun
  | [d1, d2] => { results := [.lit (.bool true)], args := [d1, d2] }
  | _ => none }
def roundsGoRow : OpenClaim := { program := "ytljogojaihgdlaagreat", sum := "7a91db7ec076bd820f5812400b404e394a752cef830a816c4b152e0e5e4bd7a3", func := "chaplet/chapletlaw25.RoundsGo", spec := "roundsGo", unfollowed := true, recurses := true, apart := false }
def RoundsGoSaid : Prop := roundsGoRow.holds Tryz.pinned (OpenSpec.ofChange roundsGoSpec)

/-- ITS FALSE NEIGHBOUR: 'it returns false'. Refute it at one input. -/
def roundsGoWrong : ChangeSpec := { name := "roundsGo", fn := fun _ => fun
  | [d1, d2] => { results := [.lit (.bool false)], args := [d1, d2] }
  | _ => none }
def RoundsGoWrongFalsely : Prop := roundsGoRow.holds Tryz.pinned (OpenSpec.ofChange roundsGoWrong)

/- THE SECOND FORM. 'bulk': how many values and letters a reading holds, each counted each time it is reached (what is shared counts as often as it is met; a slice's spare places count too). A statement '..UptoSaid' is the law's where the arguments, and the package variables that the reading takes, are together of bulk at most 1048576: NARROWER than '..Said'. Prove '..Said' where nothing that the law and all that it calls make is longer than what came in: it says more and counts as full. Else prove '..UptoSaid'. A law counts once. -/
mutual
def uptoBulk {H : Type} : DataW H → Nat
  | .lit (.string bytes) => bytes.length + 1
  | .lit _ => 1
  | .nil => 1
  | .ptr d => uptoBulk d + 1
  | .slice elems spare => uptoBulkAll elems + uptoBulkAll spare + 1
  | .agg parts => uptoBulkAll parts + 1
  | .iface _ d => uptoBulk d + 1
  | .map entries => uptoBulkEntries entries + 1
  | .held _ => 1
def uptoBulkAll {H : Type} : List (DataW H) → Nat
  | [] => 0
  | d :: r => uptoBulk d + uptoBulkAll r
def uptoBulkEntries {H : Type} : List (Lit × DataW H) → Nat
  | [] => 0
  | x :: r => uptoBulkEntry x + uptoBulkEntries r
def uptoBulkEntry {H : Type} : Lit × DataW H → Nat
  | (.string bytes, d) => bytes.length + uptoBulk d + 1
  | (_, d) => uptoBulk d + 1
 end
def uptoSmall : (H : Type) → List (DataW H) → Bool := fun _ ds => decide (uptoBulkAll ds ≤ 1048576)
def OpenSpec.upto (s : _root_.Go.ChangeSpec) : _root_.Go.OpenSpec := { _root_.Go.OpenSpec.ofChange s with cond := some uptoSmall }

/-- 'chapletlaw20.NodeAlone', WHERE WHAT IT READS IS OF BULK AT MOST 1048576: true; the input reads as it did. -/
def nodeAloneUptoRow : OpenClaim := { program := "ytljogojaihgdlaagreat", sum := "7a91db7ec076bd820f5812400b404e394a752cef830a816c4b152e0e5e4bd7a3", func := "chaplet/chapletlaw20.NodeAlone", spec := "nodeAlone", unfollowed := true, recurses := true, apart := false, narrowed := true }
def NodeAloneUptoSaid : Prop := nodeAloneUptoRow.holds Tryz.pinned (OpenSpec.upto nodeAloneSpec)

/-- 'chapletlaw20.NodeDeals', WHERE WHAT IT READS IS OF BULK AT MOST 1048576: true; the input reads as it did. -/
def nodeDealsUptoRow : OpenClaim := { program := "ytljogojaihgdlaagreat", sum := "7a91db7ec076bd820f5812400b404e394a752cef830a816c4b152e0e5e4bd7a3", func := "chaplet/chapletlaw20.NodeDeals", spec := "nodeDeals", unfollowed := true, recurses := true, apart := false, narrowed := true }
def NodeDealsUptoSaid : Prop := nodeDealsUptoRow.holds Tryz.pinned (OpenSpec.upto nodeDealsSpec)

/-- 'chapletlaw25.RoundsEnd', WHERE WHAT IT READS IS OF BULK AT MOST 1048576: true; the input reads as it did. -/
def roundsEndUptoRow : OpenClaim := { program := "ytljogojaihgdlaagreat", sum := "7a91db7ec076bd820f5812400b404e394a752cef830a816c4b152e0e5e4bd7a3", func := "chaplet/chapletlaw25.RoundsEnd", spec := "roundsEnd", unfollowed := true, recurses := true, apart := false, narrowed := true }
def RoundsEndUptoSaid : Prop := roundsEndUptoRow.holds Tryz.pinned (OpenSpec.upto roundsEndSpec)

/-- 'chapletlaw25.RoundsGo', WHERE WHAT IT READS IS OF BULK AT MOST 1048576: true; the input reads as it did. -/
def roundsGoUptoRow : OpenClaim := { program := "ytljogojaihgdlaagreat", sum := "7a91db7ec076bd820f5812400b404e394a752cef830a816c4b152e0e5e4bd7a3", func := "chaplet/chapletlaw25.RoundsGo", spec := "roundsGo", unfollowed := true, recurses := true, apart := false, narrowed := true }
def RoundsGoUptoSaid : Prop := roundsGoUptoRow.holds Tryz.pinned (OpenSpec.upto roundsGoSpec)

end Rows
end Go.Proofs.YtljogojaihgdlaaGreat
