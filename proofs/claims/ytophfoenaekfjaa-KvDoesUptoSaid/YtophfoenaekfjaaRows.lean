/-
  No cell of these rows narrows 'for every input' (looked for: loops, veiled, ifaces, maps, wideKeys, modest, calm, conditions, laid).
  DERIVED. THE GIVEN ROWS OF THIS SEAT. 15 by the template 'for every input the law returns true; each argument reads behind the call as it read before'; 0 by the template 'total and deterministic' (their statements: YtophfoenaekfjaaTotals.lean).
  GIVEN WITH THE SEED: the statements are not yours to turn. If you find one false, say at which input.
  Laid BY PROGRAM, IN A SANDBOX (cutbox-rows.mjs): the forced cells as the released guide's own fill.sh prints them over the translation 723c07f3f4560a06… (all of the seat's roots in one cut). By AI agents, Wed Nov 11 2026. No macro, syntax, notation, axiom, sorry.
-/
import Derived.Test.YtophfoenaekfjaaChecked
import GoSem.Claim
import GoSem.ClaimJoined
import GoSem.ClaimMapViews
import Derived.JoinedTies
import Derived.KernelRfl
namespace Go.Proofs.Ytophfoenaekfjaa
/- THE CELL 'sum', in the pinned program and in every row, IS THE sha256 OF THE DUMP (.gsa) THAT YtophfoenaekfjaaProg.lean LOADS. Nothing in Lean hashes anything: it is a label: what it is worth is what the hold of that sum in a sandbox is worth. -/
noncomputable def Try.pinned : Pinned := { name := "ytophfoenaekfjaa", sum := "723c07f3f4560a066d87449af7f7934d931e224ea3bdee38a2978a73f226fea3", checked := Try.checked }
namespace Rows
def none {H : Type} : Left H := { results := [], args := [] }

/-- 'catenarylaw10.SnapEncodes': WHATEVER THE INPUT: true; the input reads as it did. -/
def snapEncodesSpec : ChangeSpec := { name := "snapEncodes", fn := fun _ => fun
  | [d] => { results := [.lit (.bool true)], args := [d] }
  | _ => none }
def snapEncodesRow : OpenClaim := { program := "ytophfoenaekfjaa", sum := "723c07f3f4560a066d87449af7f7934d931e224ea3bdee38a2978a73f226fea3", func := "catenary/catenarylaw10.SnapEncodes", spec := "snapEncodes", inPlace := ["internal/bytealg.Compare"], unfollowed := true, recurses := true, apart := false }
def SnapEncodesSaid : Prop := snapEncodesRow.holds Try.pinned (OpenSpec.ofChange snapEncodesSpec)

/-- ITS FALSE NEIGHBOUR: 'it returns false'. Refute it at one input. -/
def snapEncodesWrong : ChangeSpec := { name := "snapEncodes", fn := fun _ => fun
  | [d] => { results := [.lit (.bool false)], args := [d] }
  | _ => none }
def SnapEncodesWrongFalsely : Prop := snapEncodesRow.holds Try.pinned (OpenSpec.ofChange snapEncodesWrong)

/-- 'catenarylaw10.SnapDecodes': WHATEVER THE INPUT: true; the input reads as it did. -/
def snapDecodesSpec : ChangeSpec := { name := "snapDecodes", fn := fun _ => fun
  | [d] => { results := [.lit (.bool true)], args := [d] }
  | _ => none }
def snapDecodesRow : OpenClaim := { program := "ytophfoenaekfjaa", sum := "723c07f3f4560a066d87449af7f7934d931e224ea3bdee38a2978a73f226fea3", func := "catenary/catenarylaw10.SnapDecodes", spec := "snapDecodes", inPlace := ["internal/bytealg.Compare"], unfollowed := true, recurses := true, apart := false }
def SnapDecodesSaid : Prop := snapDecodesRow.holds Try.pinned (OpenSpec.ofChange snapDecodesSpec)

/-- ITS FALSE NEIGHBOUR: 'it returns false'. Refute it at one input. -/
def snapDecodesWrong : ChangeSpec := { name := "snapDecodes", fn := fun _ => fun
  | [d] => { results := [.lit (.bool false)], args := [d] }
  | _ => none }
def SnapDecodesWrongFalsely : Prop := snapDecodesRow.holds Try.pinned (OpenSpec.ofChange snapDecodesWrong)

/-- 'catenarytop.WholeKept': WHATEVER THE INPUT: true; the input reads as it did. -/
def wholeKeptSpec : ChangeSpec := { name := "wholeKept", fn := fun _ => fun
  | [d1, d2, d3] => { results := [.lit (.bool true)], args := [d1, d2, d3] }
  | _ => none }
def wholeKeptRow : OpenClaim := { program := "ytophfoenaekfjaa", sum := "723c07f3f4560a066d87449af7f7934d931e224ea3bdee38a2978a73f226fea3", func := "catenary/catenarytop.WholeKept", spec := "wholeKept", inPlace := ["internal/bytealg.Compare", "slices.overlaps[catenary/api.Entry]", "slices.overlaps[catenary/api.Lease]", "slices.overlaps[catenary/api.Session]"], unfollowed := true, recurses := true, apart := false }
def WholeKeptSaid : Prop := wholeKeptRow.holds Try.pinned (OpenSpec.ofChange wholeKeptSpec)

/-- ITS FALSE NEIGHBOUR: 'it returns false'. Refute it at one input. -/
def wholeKeptWrong : ChangeSpec := { name := "wholeKept", fn := fun _ => fun
  | [d1, d2, d3] => { results := [.lit (.bool false)], args := [d1, d2, d3] }
  | _ => none }
def WholeKeptWrongFalsely : Prop := wholeKeptRow.holds Try.pinned (OpenSpec.ofChange wholeKeptWrong)

/-- 'catenarylaw10.SnapUnlike': WHATEVER THE INPUT: true; the input reads as it did. -/
def snapUnlikeSpec : ChangeSpec := { name := "snapUnlike", fn := fun _ => fun
  | [d1, d2] => { results := [.lit (.bool true)], args := [d1, d2] }
  | _ => none }
def snapUnlikeRow : OpenClaim := { program := "ytophfoenaekfjaa", sum := "723c07f3f4560a066d87449af7f7934d931e224ea3bdee38a2978a73f226fea3", func := "catenary/catenarylaw10.SnapUnlike", spec := "snapUnlike", inPlace := ["internal/bytealg.Compare"], unfollowed := true, recurses := true, apart := false }
def SnapUnlikeSaid : Prop := snapUnlikeRow.holds Try.pinned (OpenSpec.ofChange snapUnlikeSpec)

/-- ITS FALSE NEIGHBOUR: 'it returns false'. Refute it at one input. -/
def snapUnlikeWrong : ChangeSpec := { name := "snapUnlike", fn := fun _ => fun
  | [d1, d2] => { results := [.lit (.bool false)], args := [d1, d2] }
  | _ => none }
def SnapUnlikeWrongFalsely : Prop := snapUnlikeRow.holds Try.pinned (OpenSpec.ofChange snapUnlikeWrong)

/-- 'catenarylaw07.KvDoes': WHATEVER THE INPUT: true; the input reads as it did. -/
def kvDoesSpec : ChangeSpec := { name := "kvDoes", fn := fun _ => fun
  | [d1, d2] => { results := [.lit (.bool true)], args := [d1, d2] }
  | _ => none }
def kvDoesRow : OpenClaim := { program := "ytophfoenaekfjaa", sum := "723c07f3f4560a066d87449af7f7934d931e224ea3bdee38a2978a73f226fea3", func := "catenary/catenarylaw07.KvDoes", spec := "kvDoes", inPlace := ["internal/bytealg.Compare", "slices.overlaps[catenary/api.Entry]"], unfollowed := true, recurses := true, apart := false }
def KvDoesSaid : Prop := kvDoesRow.holds Try.pinned (OpenSpec.ofChange kvDoesSpec)

/-- ITS FALSE NEIGHBOUR: 'it returns false'. Refute it at one input. -/
def kvDoesWrong : ChangeSpec := { name := "kvDoes", fn := fun _ => fun
  | [d1, d2] => { results := [.lit (.bool false)], args := [d1, d2] }
  | _ => none }
def KvDoesWrongFalsely : Prop := kvDoesRow.holds Try.pinned (OpenSpec.ofChange kvDoesWrong)

/-- 'catenarylaw07.KvKeeps': WHATEVER THE INPUT: true; the input reads as it did. -/
def kvKeepsSpec : ChangeSpec := { name := "kvKeeps", fn := fun _ => fun
  | [d1, d2, d3] => { results := [.lit (.bool true)], args := [d1, d2, d3] }
  | _ => none }
def kvKeepsRow : OpenClaim := { program := "ytophfoenaekfjaa", sum := "723c07f3f4560a066d87449af7f7934d931e224ea3bdee38a2978a73f226fea3", func := "catenary/catenarylaw07.KvKeeps", spec := "kvKeeps", inPlace := ["internal/bytealg.Compare", "slices.overlaps[catenary/api.Entry]"], unfollowed := true, recurses := true, apart := false }
def KvKeepsSaid : Prop := kvKeepsRow.holds Try.pinned (OpenSpec.ofChange kvKeepsSpec)

/-- ITS FALSE NEIGHBOUR: 'it returns false'. Refute it at one input. -/
def kvKeepsWrong : ChangeSpec := { name := "kvKeeps", fn := fun _ => fun
  | [d1, d2, d3] => { results := [.lit (.bool false)], args := [d1, d2, d3] }
  | _ => none }
def KvKeepsWrongFalsely : Prop := kvKeepsRow.holds Try.pinned (OpenSpec.ofChange kvKeepsWrong)

/-- 'catenarylaw07.KvCommutes': WHATEVER THE INPUT: true; the input reads as it did. -/
def kvCommutesSpec : ChangeSpec := { name := "kvCommutes", fn := fun _ => fun
  | [d1, d2, d3] => { results := [.lit (.bool true)], args := [d1, d2, d3] }
  | _ => none }
def kvCommutesRow : OpenClaim := { program := "ytophfoenaekfjaa", sum := "723c07f3f4560a066d87449af7f7934d931e224ea3bdee38a2978a73f226fea3", func := "catenary/catenarylaw07.KvCommutes", spec := "kvCommutes", inPlace := ["internal/bytealg.Compare", "slices.overlaps[catenary/api.Entry]"], unfollowed := true, recurses := true, apart := false }
def KvCommutesSaid : Prop := kvCommutesRow.holds Try.pinned (OpenSpec.ofChange kvCommutesSpec)

/-- ITS FALSE NEIGHBOUR: 'it returns false'. Refute it at one input. -/
def kvCommutesWrong : ChangeSpec := { name := "kvCommutes", fn := fun _ => fun
  | [d1, d2, d3] => { results := [.lit (.bool false)], args := [d1, d2, d3] }
  | _ => none }
def KvCommutesWrongFalsely : Prop := kvCommutesRow.holds Try.pinned (OpenSpec.ofChange kvCommutesWrong)

/-- 'catenarylaw08.LeaseDoes': WHATEVER THE INPUT: true; the input reads as it did. -/
def leaseDoesSpec : ChangeSpec := { name := "leaseDoes", fn := fun _ => fun
  | [d1, d2, d3] => { results := [.lit (.bool true)], args := [d1, d2, d3] }
  | _ => none }
def leaseDoesRow : OpenClaim := { program := "ytophfoenaekfjaa", sum := "723c07f3f4560a066d87449af7f7934d931e224ea3bdee38a2978a73f226fea3", func := "catenary/catenarylaw08.LeaseDoes", spec := "leaseDoes", inPlace := ["internal/bytealg.Compare", "slices.overlaps[catenary/api.Lease]"], unfollowed := true, recurses := true, apart := false }
def LeaseDoesSaid : Prop := leaseDoesRow.holds Try.pinned (OpenSpec.ofChange leaseDoesSpec)

/-- ITS FALSE NEIGHBOUR: 'it returns false'. Refute it at one input. -/
def leaseDoesWrong : ChangeSpec := { name := "leaseDoes", fn := fun _ => fun
  | [d1, d2, d3] => { results := [.lit (.bool false)], args := [d1, d2, d3] }
  | _ => none }
def LeaseDoesWrongFalsely : Prop := leaseDoesRow.holds Try.pinned (OpenSpec.ofChange leaseDoesWrong)

/-- 'catenarylaw07.KvReads': WHATEVER THE INPUT: true; the input reads as it did. -/
def kvReadsSpec : ChangeSpec := { name := "kvReads", fn := fun _ => fun
  | [d] => { results := [.lit (.bool true)], args := [d] }
  | _ => none }
def kvReadsRow : OpenClaim := { program := "ytophfoenaekfjaa", sum := "723c07f3f4560a066d87449af7f7934d931e224ea3bdee38a2978a73f226fea3", func := "catenary/catenarylaw07.KvReads", spec := "kvReads", inPlace := ["internal/bytealg.Compare", "slices.overlaps[catenary/api.Entry]"], unfollowed := true, recurses := true, apart := false }
def KvReadsSaid : Prop := kvReadsRow.holds Try.pinned (OpenSpec.ofChange kvReadsSpec)

/-- ITS FALSE NEIGHBOUR: 'it returns false'. Refute it at one input. -/
def kvReadsWrong : ChangeSpec := { name := "kvReads", fn := fun _ => fun
  | [d] => { results := [.lit (.bool false)], args := [d] }
  | _ => none }
def KvReadsWrongFalsely : Prop := kvReadsRow.holds Try.pinned (OpenSpec.ofChange kvReadsWrong)

/-- 'catenarylaw09.SessionNames': WHATEVER THE INPUT: true; the input reads as it did. -/
def sessionNamesSpec : ChangeSpec := { name := "sessionNames", fn := fun _ => fun
  | [] => { results := [.lit (.bool true)], args := [] }
  | _ => none }
def sessionNamesRow : OpenClaim := { program := "ytophfoenaekfjaa", sum := "723c07f3f4560a066d87449af7f7934d931e224ea3bdee38a2978a73f226fea3", func := "catenary/catenarylaw09.SessionNames", spec := "sessionNames", inPlace := ["internal/bytealg.Compare", "slices.overlaps[catenary/api.Entry]", "slices.overlaps[catenary/api.Lease]", "slices.overlaps[catenary/api.Session]"], unfollowed := true, recurses := true, apart := false }
def SessionNamesSaid : Prop := sessionNamesRow.holds Try.pinned (OpenSpec.ofChange sessionNamesSpec)

/-- ITS FALSE NEIGHBOUR: 'it returns false'. Refute it at one input. -/
def sessionNamesWrong : ChangeSpec := { name := "sessionNames", fn := fun _ => fun
  | [] => { results := [.lit (.bool false)], args := [] }
  | _ => none }
def SessionNamesWrongFalsely : Prop := sessionNamesRow.holds Try.pinned (OpenSpec.ofChange sessionNamesWrong)

/-- 'catenarylaw09.SessionApplies': WHATEVER THE INPUT: true; the input reads as it did. -/
def sessionAppliesSpec : ChangeSpec := { name := "sessionApplies", fn := fun _ => fun
  | [d1, d2] => { results := [.lit (.bool true)], args := [d1, d2] }
  | _ => none }
def sessionAppliesRow : OpenClaim := { program := "ytophfoenaekfjaa", sum := "723c07f3f4560a066d87449af7f7934d931e224ea3bdee38a2978a73f226fea3", func := "catenary/catenarylaw09.SessionApplies", spec := "sessionApplies", inPlace := ["internal/bytealg.Compare", "slices.overlaps[catenary/api.Entry]", "slices.overlaps[catenary/api.Lease]", "slices.overlaps[catenary/api.Session]"], unfollowed := true, recurses := true, apart := false }
def SessionAppliesSaid : Prop := sessionAppliesRow.holds Try.pinned (OpenSpec.ofChange sessionAppliesSpec)

/-- ITS FALSE NEIGHBOUR: 'it returns false'. Refute it at one input. -/
def sessionAppliesWrong : ChangeSpec := { name := "sessionApplies", fn := fun _ => fun
  | [d1, d2] => { results := [.lit (.bool false)], args := [d1, d2] }
  | _ => none }
def SessionAppliesWrongFalsely : Prop := sessionAppliesRow.holds Try.pinned (OpenSpec.ofChange sessionAppliesWrong)

/-- 'catenarylaw09.SessionOnce': WHATEVER THE INPUT: true; the input reads as it did. -/
def sessionOnceSpec : ChangeSpec := { name := "sessionOnce", fn := fun _ => fun
  | [d1, d2, d3] => { results := [.lit (.bool true)], args := [d1, d2, d3] }
  | _ => none }
def sessionOnceRow : OpenClaim := { program := "ytophfoenaekfjaa", sum := "723c07f3f4560a066d87449af7f7934d931e224ea3bdee38a2978a73f226fea3", func := "catenary/catenarylaw09.SessionOnce", spec := "sessionOnce", inPlace := ["internal/bytealg.Compare", "slices.overlaps[catenary/api.Entry]", "slices.overlaps[catenary/api.Lease]", "slices.overlaps[catenary/api.Session]"], unfollowed := true, recurses := true, apart := false }
def SessionOnceSaid : Prop := sessionOnceRow.holds Try.pinned (OpenSpec.ofChange sessionOnceSpec)

/-- ITS FALSE NEIGHBOUR: 'it returns false'. Refute it at one input. -/
def sessionOnceWrong : ChangeSpec := { name := "sessionOnce", fn := fun _ => fun
  | [d1, d2, d3] => { results := [.lit (.bool false)], args := [d1, d2, d3] }
  | _ => none }
def SessionOnceWrongFalsely : Prop := sessionOnceRow.holds Try.pinned (OpenSpec.ofChange sessionOnceWrong)

/-- 'catenarylaw09.SessionKeeps': WHATEVER THE INPUT: true; the input reads as it did. -/
def sessionKeepsSpec : ChangeSpec := { name := "sessionKeeps", fn := fun _ => fun
  | [d1, d2] => { results := [.lit (.bool true)], args := [d1, d2] }
  | _ => none }
def sessionKeepsRow : OpenClaim := { program := "ytophfoenaekfjaa", sum := "723c07f3f4560a066d87449af7f7934d931e224ea3bdee38a2978a73f226fea3", func := "catenary/catenarylaw09.SessionKeeps", spec := "sessionKeeps", inPlace := ["internal/bytealg.Compare", "slices.overlaps[catenary/api.Entry]", "slices.overlaps[catenary/api.Lease]", "slices.overlaps[catenary/api.Session]"], unfollowed := true, recurses := true, apart := false }
def SessionKeepsSaid : Prop := sessionKeepsRow.holds Try.pinned (OpenSpec.ofChange sessionKeepsSpec)

/-- ITS FALSE NEIGHBOUR: 'it returns false'. Refute it at one input. -/
def sessionKeepsWrong : ChangeSpec := { name := "sessionKeeps", fn := fun _ => fun
  | [d1, d2] => { results := [.lit (.bool false)], args := [d1, d2] }
  | _ => none }
def SessionKeepsWrongFalsely : Prop := sessionKeepsRow.holds Try.pinned (OpenSpec.ofChange sessionKeepsWrong)

/-- 'catenarylaw09.SessionRuns': WHATEVER THE INPUT: true; the input reads as it did. -/
def sessionRunsSpec : ChangeSpec := { name := "sessionRuns", fn := fun _ => fun
  | [d1, d2] => { results := [.lit (.bool true)], args := [d1, d2] }
  | _ => none }
def sessionRunsRow : OpenClaim := { program := "ytophfoenaekfjaa", sum := "723c07f3f4560a066d87449af7f7934d931e224ea3bdee38a2978a73f226fea3", func := "catenary/catenarylaw09.SessionRuns", spec := "sessionRuns", inPlace := ["internal/bytealg.Compare", "slices.overlaps[catenary/api.Entry]", "slices.overlaps[catenary/api.Lease]", "slices.overlaps[catenary/api.Session]"], unfollowed := true, recurses := true, apart := false }
def SessionRunsSaid : Prop := sessionRunsRow.holds Try.pinned (OpenSpec.ofChange sessionRunsSpec)

/-- ITS FALSE NEIGHBOUR: 'it returns false'. Refute it at one input. -/
def sessionRunsWrong : ChangeSpec := { name := "sessionRuns", fn := fun _ => fun
  | [d1, d2] => { results := [.lit (.bool false)], args := [d1, d2] }
  | _ => none }
def SessionRunsWrongFalsely : Prop := sessionRunsRow.holds Try.pinned (OpenSpec.ofChange sessionRunsWrong)

/-- 'catenarylaw10.SnapBack': WHATEVER THE INPUT: true; the input reads as it did. -/
def snapBackSpec : ChangeSpec := { name := "snapBack", fn := fun _ => fun
  | [d1, d2] => { results := [.lit (.bool true)], args := [d1, d2] }
  | _ => none }
def snapBackRow : OpenClaim := { program := "ytophfoenaekfjaa", sum := "723c07f3f4560a066d87449af7f7934d931e224ea3bdee38a2978a73f226fea3", func := "catenary/catenarylaw10.SnapBack", spec := "snapBack", inPlace := ["internal/bytealg.Compare", "slices.overlaps[catenary/api.Entry]", "slices.overlaps[catenary/api.Lease]", "slices.overlaps[catenary/api.Session]"], unfollowed := true, recurses := true, apart := false }
def SnapBackSaid : Prop := snapBackRow.holds Try.pinned (OpenSpec.ofChange snapBackSpec)

/-- ITS FALSE NEIGHBOUR: 'it returns false'. Refute it at one input. -/
def snapBackWrong : ChangeSpec := { name := "snapBack", fn := fun _ => fun
  | [d1, d2] => { results := [.lit (.bool false)], args := [d1, d2] }
  | _ => none }
def SnapBackWrongFalsely : Prop := snapBackRow.holds Try.pinned (OpenSpec.ofChange snapBackWrong)

/- THE SECOND FORM. 'bulk': how many values and letters a reading holds, each counted each time it is reached (what is shared counts as often as it is met; a slice's spare places count too). A statement '..UptoSaid' is the law's where the arguments, and the package variables that the reading takes, are together of bulk at most 1048576: NARROWER than '..Said'. Prove '..Said' where nothing that the law and all that it calls make is longer than what came in: it says more and counts as full. Else prove '..UptoSaid'. A law counts once. -/
mutual
def uptoBulk {H : Type} : DataW H → Nat
  | .lit (.string bytes) => bytes.length + 1
  | .lit _ => 1
  | .nil => 1
  | .ptr d => uptoBulk d + 1
  | .slice elems spare => uptoBulkAll elems + uptoBulkAll spare + 1
  | .agg parts => uptoBulkAll parts + 1
  | .iface _ d => uptoBulk d + 1
  | .map entries => uptoBulkEntries entries + 1
  | .held _ => 1
def uptoBulkAll {H : Type} : List (DataW H) → Nat
  | [] => 0
  | d :: r => uptoBulk d + uptoBulkAll r
def uptoBulkEntries {H : Type} : List (Lit × DataW H) → Nat
  | [] => 0
  | x :: r => uptoBulkEntry x + uptoBulkEntries r
def uptoBulkEntry {H : Type} : Lit × DataW H → Nat
  | (.string bytes, d) => bytes.length + uptoBulk d + 1
  | (_, d) => uptoBulk d + 1
 end
def uptoSmall : (H : Type) → List (DataW H) → Bool := fun _ ds => decide (uptoBulkAll ds ≤ 1048576)
def OpenSpec.upto (s : _root_.Go.ChangeSpec) : _root_.Go.OpenSpec := { _root_.Go.OpenSpec.ofChange s with cond := some uptoSmall }

/-- 'catenarylaw10.SnapEncodes', WHERE WHAT IT READS IS OF BULK AT MOST 1048576: true; the input reads as it did. -/
def snapEncodesUptoRow : OpenClaim := { program := "ytophfoenaekfjaa", sum := "723c07f3f4560a066d87449af7f7934d931e224ea3bdee38a2978a73f226fea3", func := "catenary/catenarylaw10.SnapEncodes", spec := "snapEncodes", inPlace := ["internal/bytealg.Compare"], unfollowed := true, recurses := true, apart := false, narrowed := true }
def SnapEncodesUptoSaid : Prop := snapEncodesUptoRow.holds Try.pinned (OpenSpec.upto snapEncodesSpec)

/-- 'catenarylaw10.SnapDecodes', WHERE WHAT IT READS IS OF BULK AT MOST 1048576: true; the input reads as it did. -/
def snapDecodesUptoRow : OpenClaim := { program := "ytophfoenaekfjaa", sum := "723c07f3f4560a066d87449af7f7934d931e224ea3bdee38a2978a73f226fea3", func := "catenary/catenarylaw10.SnapDecodes", spec := "snapDecodes", inPlace := ["internal/bytealg.Compare"], unfollowed := true, recurses := true, apart := false, narrowed := true }
def SnapDecodesUptoSaid : Prop := snapDecodesUptoRow.holds Try.pinned (OpenSpec.upto snapDecodesSpec)

/-- 'catenarytop.WholeKept', WHERE WHAT IT READS IS OF BULK AT MOST 1048576: true; the input reads as it did. -/
def wholeKeptUptoRow : OpenClaim := { program := "ytophfoenaekfjaa", sum := "723c07f3f4560a066d87449af7f7934d931e224ea3bdee38a2978a73f226fea3", func := "catenary/catenarytop.WholeKept", spec := "wholeKept", inPlace := ["internal/bytealg.Compare", "slices.overlaps[catenary/api.Entry]", "slices.overlaps[catenary/api.Lease]", "slices.overlaps[catenary/api.Session]"], unfollowed := true, recurses := true, apart := false, narrowed := true }
def WholeKeptUptoSaid : Prop := wholeKeptUptoRow.holds Try.pinned (OpenSpec.upto wholeKeptSpec)

/-- 'catenarylaw10.SnapUnlike', WHERE WHAT IT READS IS OF BULK AT MOST 1048576: true; the input reads as it did. -/
def snapUnlikeUptoRow : OpenClaim := { program := "ytophfoenaekfjaa", sum := "723c07f3f4560a066d87449af7f7934d931e224ea3bdee38a2978a73f226fea3", func := "catenary/catenarylaw10.SnapUnlike", spec := "snapUnlike", inPlace := ["internal/bytealg.Compare"], unfollowed := true, recurses := true, apart := false, narrowed := true }
def SnapUnlikeUptoSaid : Prop := snapUnlikeUptoRow.holds Try.pinned (OpenSpec.upto snapUnlikeSpec)

/-- 'catenarylaw07.KvDoes', WHERE WHAT IT READS IS OF BULK AT MOST 1048576: true; the input reads as it did. -/
def kvDoesUptoRow : OpenClaim := { program := "ytophfoenaekfjaa", sum := "723c07f3f4560a066d87449af7f7934d931e224ea3bdee38a2978a73f226fea3", func := "catenary/catenarylaw07.KvDoes", spec := "kvDoes", inPlace := ["internal/bytealg.Compare", "slices.overlaps[catenary/api.Entry]"], unfollowed := true, recurses := true, apart := false, narrowed := true }
def KvDoesUptoSaid : Prop := kvDoesUptoRow.holds Try.pinned (OpenSpec.upto kvDoesSpec)

/-- 'catenarylaw07.KvKeeps', WHERE WHAT IT READS IS OF BULK AT MOST 1048576: true; the input reads as it did. -/
def kvKeepsUptoRow : OpenClaim := { program := "ytophfoenaekfjaa", sum := "723c07f3f4560a066d87449af7f7934d931e224ea3bdee38a2978a73f226fea3", func := "catenary/catenarylaw07.KvKeeps", spec := "kvKeeps", inPlace := ["internal/bytealg.Compare", "slices.overlaps[catenary/api.Entry]"], unfollowed := true, recurses := true, apart := false, narrowed := true }
def KvKeepsUptoSaid : Prop := kvKeepsUptoRow.holds Try.pinned (OpenSpec.upto kvKeepsSpec)

/-- 'catenarylaw07.KvCommutes', WHERE WHAT IT READS IS OF BULK AT MOST 1048576: true; the input reads as it did. -/
def kvCommutesUptoRow : OpenClaim := { program := "ytophfoenaekfjaa", sum := "723c07f3f4560a066d87449af7f7934d931e224ea3bdee38a2978a73f226fea3", func := "catenary/catenarylaw07.KvCommutes", spec := "kvCommutes", inPlace := ["internal/bytealg.Compare", "slices.overlaps[catenary/api.Entry]"], unfollowed := true, recurses := true, apart := false, narrowed := true }
def KvCommutesUptoSaid : Prop := kvCommutesUptoRow.holds Try.pinned (OpenSpec.upto kvCommutesSpec)

/-- 'catenarylaw08.LeaseDoes', WHERE WHAT IT READS IS OF BULK AT MOST 1048576: true; the input reads as it did. -/
def leaseDoesUptoRow : OpenClaim := { program := "ytophfoenaekfjaa", sum := "723c07f3f4560a066d87449af7f7934d931e224ea3bdee38a2978a73f226fea3", func := "catenary/catenarylaw08.LeaseDoes", spec := "leaseDoes", inPlace := ["internal/bytealg.Compare", "slices.overlaps[catenary/api.Lease]"], unfollowed := true, recurses := true, apart := false, narrowed := true }
def LeaseDoesUptoSaid : Prop := leaseDoesUptoRow.holds Try.pinned (OpenSpec.upto leaseDoesSpec)

/-- 'catenarylaw07.KvReads', WHERE WHAT IT READS IS OF BULK AT MOST 1048576: true; the input reads as it did. -/
def kvReadsUptoRow : OpenClaim := { program := "ytophfoenaekfjaa", sum := "723c07f3f4560a066d87449af7f7934d931e224ea3bdee38a2978a73f226fea3", func := "catenary/catenarylaw07.KvReads", spec := "kvReads", inPlace := ["internal/bytealg.Compare", "slices.overlaps[catenary/api.Entry]"], unfollowed := true, recurses := true, apart := false, narrowed := true }
def KvReadsUptoSaid : Prop := kvReadsUptoRow.holds Try.pinned (OpenSpec.upto kvReadsSpec)

/-- 'catenarylaw09.SessionNames', WHERE WHAT IT READS IS OF BULK AT MOST 1048576: true; the input reads as it did. -/
def sessionNamesUptoRow : OpenClaim := { program := "ytophfoenaekfjaa", sum := "723c07f3f4560a066d87449af7f7934d931e224ea3bdee38a2978a73f226fea3", func := "catenary/catenarylaw09.SessionNames", spec := "sessionNames", inPlace := ["internal/bytealg.Compare", "slices.overlaps[catenary/api.Entry]", "slices.overlaps[catenary/api.Lease]", "slices.overlaps[catenary/api.Session]"], unfollowed := true, recurses := true, apart := false, narrowed := true }
def SessionNamesUptoSaid : Prop := sessionNamesUptoRow.holds Try.pinned (OpenSpec.upto sessionNamesSpec)

/-- 'catenarylaw09.SessionApplies', WHERE WHAT IT READS IS OF BULK AT MOST 1048576: true; the input reads as it did. -/
def sessionAppliesUptoRow : OpenClaim := { program := "ytophfoenaekfjaa", sum := "723c07f3f4560a066d87449af7f7934d931e224ea3bdee38a2978a73f226fea3", func := "catenary/catenarylaw09.SessionApplies", spec := "sessionApplies", inPlace := ["internal/bytealg.Compare", "slices.overlaps[catenary/api.Entry]", "slices.overlaps[catenary/api.Lease]", "slices.overlaps[catenary/api.Session]"], unfollowed := true, recurses := true, apart := false, narrowed := true }
def SessionAppliesUptoSaid : Prop := sessionAppliesUptoRow.holds Try.pinned (OpenSpec.upto sessionAppliesSpec)

/-- 'catenarylaw09.SessionOnce', WHERE WHAT IT READS IS OF BULK AT MOST 1048576: true; the input reads as it did. -/
def sessionOnceUptoRow : OpenClaim := { program := "ytophfoenaekfjaa", sum := "723c07f3f4560a066d87449af7f7934d931e224ea3bdee38a2978a73f226fea3", func := "catenary/catenarylaw09.SessionOnce", spec := "sessionOnce", inPlace := ["internal/bytealg.Compare", "slices.overlaps[catenary/api.Entry]", "slices.overlaps[catenary/api.Lease]", "slices.overlaps[catenary/api.Session]"], unfollowed := true, recurses := true, apart := false, narrowed := true }
def SessionOnceUptoSaid : Prop := sessionOnceUptoRow.holds Try.pinned (OpenSpec.upto sessionOnceSpec)

/-- 'catenarylaw09.SessionKeeps', WHERE WHAT IT READS IS OF BULK AT MOST 1048576: true; the input reads as it did. -/
def sessionKeepsUptoRow : OpenClaim := { program := "ytophfoenaekfjaa", sum := "723c07f3f4560a066d87449af7f7934d931e224ea3bdee38a2978a73f226fea3", func := "catenary/catenarylaw09.SessionKeeps", spec := "sessionKeeps", inPlace := ["internal/bytealg.Compare", "slices.overlaps[catenary/api.Entry]", "slices.overlaps[catenary/api.Lease]", "slices.overlaps[catenary/api.Session]"], unfollowed := true, recurses := true, apart := false, narrowed := true }
def SessionKeepsUptoSaid : Prop := sessionKeepsUptoRow.holds Try.pinned (OpenSpec.upto sessionKeepsSpec)

/-- 'catenarylaw09.SessionRuns', WHERE WHAT IT READS IS OF BULK AT MOST 1048576: true; the input reads as it did. -/
def sessionRunsUptoRow : OpenClaim := { program := "ytophfoenaekfjaa", sum := "723c07f3f4560a066d87449af7f7934d931e224ea3bdee38a2978a73f226fea3", func := "catenary/catenarylaw09.SessionRuns", spec := "sessionRuns", inPlace := ["internal/bytealg.Compare", "slices.overlaps[catenary/api.Entry]", "slices.overlaps[catenary/api.Lease]", "slices.overlaps[catenary/api.Session]"], unfollowed := true, recurses := true, apart := false, narrowed := true }
def SessionRunsUptoSaid : Prop := sessionRunsUptoRow.holds Try.pinned (OpenSpec.upto sessionRunsSpec)

/-- 'catenarylaw10.SnapBack', WHERE WHAT IT READS IS OF BULK AT MOST 1048576: true; the input reads as it did. -/
def snapBackUptoRow : OpenClaim := { program := "ytophfoenaekfjaa", sum := "723c07f3f4560a066d87449af7f7934d931e224ea3bdee38a2978a73f226fea3", func := "catenary/catenarylaw10.SnapBack", spec := "snapBack", inPlace := ["internal/bytealg.Compare", "slices.overlaps[catenary/api.Entry]", "slices.overlaps[catenary/api.Lease]", "slices.overlaps[catenary/api.Session]"], unfollowed := true, recurses := true, apart := false, narrowed := true }
def SnapBackUptoSaid : Prop := snapBackUptoRow.holds Try.pinned (OpenSpec.upto snapBackSpec)

end Rows
end Go.Proofs.Ytophfoenaekfjaa
