/-
  No cell of these rows narrows 'for every input' (looked for: loops, veiled, ifaces, maps, wideKeys, modest, calm, conditions, laid).
  DERIVED. THE GIVEN ROWS OF THIS SEAT. 6 by the template 'for every input the law returns true; each argument reads behind the call as it read before'; 0 by the template 'total and deterministic' (their statements: YthmoogcacpmjiaaGreatTotals.lean).
  GIVEN WITH THE SEED: the statements are not yours to turn. If you find one false, say at which input.
  Laid BY PROGRAM, IN A SANDBOX (cutbox-rows.mjs): the forced cells as the released guide's own fill.sh prints them over the translation 110e77e615a891be… (all of the seat's roots in one cut). By AI agents, Wed Nov 11 2026. No macro, syntax, notation, axiom, sorry.
-/
import Derived.Test.YthmoogcacpmjiaaGreatChecked
import GoSem.Claim
import GoSem.ClaimJoined
import GoSem.ClaimMapViews
import Derived.JoinedTies
import Derived.KernelRfl
namespace Go.Proofs.YthmoogcacpmjiaaGreat
/- THE CELL 'sum', in the pinned program and in every row, IS THE sha256 OF THE DUMP (.gsa) THAT YthmoogcacpmjiaaGreatProg.lean LOADS. Nothing in Lean hashes anything: it is a label: what it is worth is what the hold of that sum in a sandbox is worth. -/
noncomputable def Tryz.pinned : Pinned := { name := "ythmoogcacpmjiaagreat", sum := "110e77e615a891bec75be8bbe96f1e6d038565ec93b6216f68f1fd2b432c800f", checked := Tryz.checked }
namespace Rows
def none {H : Type} : Left H := { results := [], args := [] }

/-- 'chapletlaw21.MachineQuiet': WHATEVER THE INPUT: true; the input reads as it did. -/
def machineQuietSpec : ChangeSpec := { name := "machineQuiet", fn := fun _ => fun
  | [d1, d2] => { results := [.lit (.bool true)], args := [d1, d2] }
  | _ => none }
def machineQuietRow : OpenClaim := { program := "ythmoogcacpmjiaagreat", sum := "110e77e615a891bec75be8bbe96f1e6d038565ec93b6216f68f1fd2b432c800f", func := "chaplet/chapletlaw21.MachineQuiet", spec := "machineQuiet", unfollowed := true, recurses := true, apart := false }
def MachineQuietSaid : Prop := machineQuietRow.holds Tryz.pinned (OpenSpec.ofChange machineQuietSpec)

/-- ITS FALSE NEIGHBOUR: 'it returns false'. Refute it at one input. -/
def machineQuietWrong : ChangeSpec := { name := "machineQuiet", fn := fun _ => fun
  | [d1, d2] => { results := [.lit (.bool false)], args := [d1, d2] }
  | _ => none }
def MachineQuietWrongFalsely : Prop := machineQuietRow.holds Tryz.pinned (OpenSpec.ofChange machineQuietWrong)

/-- 'chapletlaw21.MachineOut': WHATEVER THE INPUT: true; the input reads as it did. -/
def machineOutSpec : ChangeSpec := { name := "machineOut", fn := fun _ => fun
  | [d1, d2, d3, d4, d5] => { results := [.lit (.bool true)], args := [d1, d2, d3, d4, d5] }
  | _ => none }
def machineOutRow : OpenClaim := { program := "ythmoogcacpmjiaagreat", sum := "110e77e615a891bec75be8bbe96f1e6d038565ec93b6216f68f1fd2b432c800f", func := "chaplet/chapletlaw21.MachineOut", spec := "machineOut", unfollowed := true, recurses := true, apart := false }
def MachineOutSaid : Prop := machineOutRow.holds Tryz.pinned (OpenSpec.ofChange machineOutSpec)

/-- ITS FALSE NEIGHBOUR: 'it returns false'. Refute it at one input. -/
def machineOutWrong : ChangeSpec := { name := "machineOut", fn := fun _ => fun
  | [d1, d2, d3, d4, d5] => { results := [.lit (.bool false)], args := [d1, d2, d3, d4, d5] }
  | _ => none }
def MachineOutWrongFalsely : Prop := machineOutRow.holds Tryz.pinned (OpenSpec.ofChange machineOutWrong)

/-- 'chapletlaw21.MachineAgain': WHATEVER THE INPUT: true; the input reads as it did. -/
def machineAgainSpec : ChangeSpec := { name := "machineAgain", fn := fun _ => fun
  | [d1, d2] => { results := [.lit (.bool true)], args := [d1, d2] }
  | _ => none }
def machineAgainRow : OpenClaim := { program := "ythmoogcacpmjiaagreat", sum := "110e77e615a891bec75be8bbe96f1e6d038565ec93b6216f68f1fd2b432c800f", func := "chaplet/chapletlaw21.MachineAgain", spec := "machineAgain", unfollowed := true, recurses := true, apart := false }
def MachineAgainSaid : Prop := machineAgainRow.holds Tryz.pinned (OpenSpec.ofChange machineAgainSpec)

/-- ITS FALSE NEIGHBOUR: 'it returns false'. Refute it at one input. -/
def machineAgainWrong : ChangeSpec := { name := "machineAgain", fn := fun _ => fun
  | [d1, d2] => { results := [.lit (.bool false)], args := [d1, d2] }
  | _ => none }
def MachineAgainWrongFalsely : Prop := machineAgainRow.holds Tryz.pinned (OpenSpec.ofChange machineAgainWrong)

/-- 'chapletlaw20.NodeHits': WHATEVER THE INPUT: true; the input reads as it did. -/
def nodeHitsSpec : ChangeSpec := { name := "nodeHits", fn := fun _ => fun
  | [d1, d2, d3] => { results := [.lit (.bool true)], args := [d1, d2, d3] }
  | _ => none }
def nodeHitsRow : OpenClaim := { program := "ythmoogcacpmjiaagreat", sum := "110e77e615a891bec75be8bbe96f1e6d038565ec93b6216f68f1fd2b432c800f", func := "chaplet/chapletlaw20.NodeHits", spec := "nodeHits", unfollowed := true, recurses := true, apart := false }
def NodeHitsSaid : Prop := nodeHitsRow.holds Tryz.pinned (OpenSpec.ofChange nodeHitsSpec)

/-- ITS FALSE NEIGHBOUR: 'it returns false'. Refute it at one input. -/
def nodeHitsWrong : ChangeSpec := { name := "nodeHits", fn := fun _ => fun
  | [d1, d2, d3] => { results := [.lit (.bool false)], args := [d1, d2, d3] }
  | _ => none }
def NodeHitsWrongFalsely : Prop := nodeHitsRow.holds Tryz.pinned (OpenSpec.ofChange nodeHitsWrong)

/-- 'chapletlaw20.NodeFlush': WHATEVER THE INPUT: true; the input reads as it did. -/
def nodeFlushSpec : ChangeSpec := { name := "nodeFlush", fn := fun _ => fun
  | [d1, d2] => { results := [.lit (.bool true)], args := [d1, d2] }
  | _ => none }
def nodeFlushRow : OpenClaim := { program := "ythmoogcacpmjiaagreat", sum := "110e77e615a891bec75be8bbe96f1e6d038565ec93b6216f68f1fd2b432c800f", func := "chaplet/chapletlaw20.NodeFlush", spec := "nodeFlush", unfollowed := true, recurses := true, apart := false }
def NodeFlushSaid : Prop := nodeFlushRow.holds Tryz.pinned (OpenSpec.ofChange nodeFlushSpec)

/-- ITS FALSE NEIGHBOUR: 'it returns false'. Refute it at one input. -/
def nodeFlushWrong : ChangeSpec := { name := "nodeFlush", fn := fun _ => fun
  | [d1, d2] => { results := [.lit (.bool false)], args := [d1, d2] }
  | _ => none }
def NodeFlushWrongFalsely : Prop := nodeFlushRow.holds Tryz.pinned (OpenSpec.ofChange nodeFlushWrong)

/-- 'chapletlaw20.NodeVictims': WHATEVER THE INPUT: true; the input reads as it did. -/
def nodeVictimsSpec : ChangeSpec := { name := "nodeVictims", fn := fun _ => fun
  | [d1, d2, d3] => { results := [.lit (.bool true)], args := [d1, d2, d3] }
  | _ => none }
def nodeVictimsRow : OpenClaim := { program := "ythmoogcacpmjiaagreat", sum := "110e77e615a891bec75be8bbe96f1e6d038565ec93b6216f68f1fd2b432c800f", func := "chaplet/chapletlaw20.NodeVictims", spec := "nodeVictims", unfollowed := true, recurses := true, apart := false }
def NodeVictimsSaid : Prop := nodeVictimsRow.holds Tryz.pinned (OpenSpec.ofChange nodeVictimsSpec)

/-- ITS FALSE NEIGHBOUR: 'it returns false'. Refute it at one input. -/
def nodeVictimsWrong : ChangeSpec := { name := "nodeVictims", fn := fun _ => fun
  | [d1, d2, d3] => { results := [.lit (.bool false)], args := [d1, d2, d3] }
  | _ => none }
def NodeVictimsWrongFalsely : Prop := nodeVictimsRow.holds Tryz.pinned (OpenSpec.ofChange nodeVictimsWrong)

/- THE SECOND FORM. 'bulk': how many values and letters a reading holds, each counted each time it is reached (what is shared counts as often as it is met; a slice's spare places count too). A statement '..UptoSaid' is the law's where the arguments, and the package variables that the reading takes, are together of bulk at most 1048576: NARROWER than '..Said'. Prove '..Said' where nothing that the law and all that it calls make is longer than what came in: it says more and counts as full. Else prove '..UptoSaid'. A law counts once. -/
mutual
def uptoBulk {H : Type} : DataW H → Nat
  | .lit (.string bytes) => bytes.length + 1
  | .lit _ => 1
  | .nil => 1
  | .ptr d => uptoBulk d + 1
  | .slice elems spare => uptoBulkAll elems + uptoBulkAll spare + 1
  | .agg parts => uptoBulkAll parts + 1
  | .iface _ d => uptoBulk d + 1
  | .map entries => uptoBulkEntries entries + 1
  | .held _ => 1
def uptoBulkAll {H : Type} : List (DataW H) → Nat
  | [] => 0
  | d :: r => uptoBulk d + uptoBulkAll r
def uptoBulkEntries {H : Type} : List (Lit × DataW H) → Nat
  | [] => 0
  | x :: r => uptoBulkEntry x + uptoBulkEntries r
def uptoBulkEntry {H : Type} : Lit × DataW H → Nat
  | (.string bytes, d) => bytes.length + uptoBulk d + 1
  | (_, d) => uptoBulk d + 1
 end
def uptoSmall : (H : Type) → List (DataW H) → Bool := fun _ ds => decide (uptoBulkAll ds ≤ 1048576)
def OpenSpec.upto (s : _root_.Go.ChangeSpec) : _root_.Go.OpenSpec := { _root_.Go.OpenSpec.ofChange s with cond := some uptoSmall }

/-- 'chapletlaw21.MachineQuiet', WHERE WHAT IT READS IS OF BULK AT MOST 1048576: true; the input reads as it did. -/
def machineQuietUptoRow : OpenClaim := { program := "ythmoogcacpmjiaagreat", sum := "110e77e615a891bec75be8bbe96f1e6d038565ec93b6216f68f1fd2b432c800f", func := "chaplet/chapletlaw21.MachineQuiet", spec := "machineQuiet", unfollowed := true, recurses := true, apart := false, narrowed := true }
def MachineQuietUptoSaid : Prop := machineQuietUptoRow.holds Tryz.pinned (OpenSpec.upto machineQuietSpec)

/-- 'chapletlaw21.MachineOut', WHERE WHAT IT READS IS OF BULK AT MOST 1048576: true; the input reads as it did. -/
def machineOutUptoRow : OpenClaim := { program := "ythmoogcacpmjiaagreat", sum := "110e77e615a891bec75be8bbe96f1e6d038565ec93b6216f68f1fd2b432c800f", func := "chaplet/chapletlaw21.MachineOut", spec := "machineOut", unfollowed := true, recurses := true, apart := false, narrowed := true }
def MachineOutUptoSaid : Prop := machineOutUptoRow.holds Tryz.pinned (OpenSpec.upto machineOutSpec)

/-- 'chapletlaw21.MachineAgain', WHERE WHAT IT READS IS OF BULK AT MOST 1048576: true; the input reads as it did. -/
def machineAgainUptoRow : OpenClaim := { program := "ythmoogcacpmjiaagreat", sum := "110e77e615a891bec75be8bbe96f1e6d038565ec93b6216f68f1fd2b432c800f", func := "chaplet/chapletlaw21.MachineAgain", spec := "machineAgain", unfollowed := true, recurses := true, apart := false, narrowed := true }
def MachineAgainUptoSaid : Prop := machineAgainUptoRow.holds Tryz.pinned (OpenSpec.upto machineAgainSpec)

/-- 'chapletlaw20.NodeHits', WHERE WHAT IT READS IS OF BULK AT MOST 1048576: true; the input reads as it did. -/
def nodeHitsUptoRow : OpenClaim := { program := "ythmoogcacpmjiaagreat", sum := "110e77e615a891bec75be8bbe96f1e6d038565ec93b6216f68f1fd2b432c800f", func := "chaplet/chapletlaw20.NodeHits", spec := "nodeHits", unfollowed := true, recurses := true, apart := false, narrowed := true }
def NodeHitsUptoSaid : Prop := nodeHitsUptoRow.holds Tryz.pinned (OpenSpec.upto nodeHitsSpec)

/-- 'chapletlaw20.NodeFlush', WHERE WHAT IT READS IS OF BULK AT MOST 1048576: true; the input reads as it did. -/
def nodeFlushUptoRow : OpenClaim := { program := "ythmoogcacpmjiaagreat", sum := "110e77e615a891bec75be8bbe96f1e6d038565ec93b6216f68f1fd2b432c800f", func := "chaplet/chapletlaw20.NodeFlush", spec := "nodeFlush", unfollowed := true, recurses := true, apart := false, narrowed := true }
def NodeFlushUptoSaid : Prop := nodeFlushUptoRow.holds Tryz.pinned (OpenSpec.upto nodeFlushSpec)

/-- 'chapletlaw20.NodeVictims', WHERE WHAT IT READS IS OF BULK AT MOST 1048576: true; the input reads as it did. -/
def nodeVictimsUptoRow : OpenClaim := { program := "ythmoogcacpmjiaagreat", sum := "110e77e615a891bec75be8bbe96f1e6d038565ec93b6216f68f1fd2b432c800f", func := "chaplet/chapletlaw20.NodeVictims", spec := "nodeVictims", unfollowed := true, recurses := true, apart := false, narrowed := true }
def NodeVictimsUptoSaid : Prop := nodeVictimsUptoRow.holds Tryz.pinned (OpenSpec.upto nodeVictimsSpec)

end Rows
end Go.Proofs.YthmoogcacpmjiaaGreat
