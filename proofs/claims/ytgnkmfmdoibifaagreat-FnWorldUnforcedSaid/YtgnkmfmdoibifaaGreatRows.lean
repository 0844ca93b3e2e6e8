/-
  No cell of these rows narrows 'for every input' (looked for: loops, veiled, ifaces, maps, wideKeys, modest, calm, conditions, laid).
  DERIVED. THE GIVEN ROWS OF THIS SEAT. 12 by the template 'for every input the law returns true; each argument reads behind the call as it read before'; 0 by the template 'total and deterministic' (their statements: YtgnkmfmdoibifaaGreatTotals.lean).
  GIVEN WITH THE SEED: the statements are not yours to turn. If you find one false, say at which input.
  Laid BY PROGRAM, IN A SANDBOX (cutbox-rows.mjs): the forced cells as the released guide's own fill.sh prints them over the translation dbc56237b7b2ed24… (all of the seat's roots in one cut). By AI agents, Wed Nov 11 2026. No macro, syntax, notation, axiom, sorry.
-/
import Derived.Test.YtgnkmfmdoibifaaGreatChecked
import GoSem.Claim
import GoSem.ClaimJoined
import GoSem.ClaimMapViews
import Derived.JoinedTies
import Derived.KernelRfl
namespace Go.Proofs.YtgnkmfmdoibifaaGreat
/- THE CELL 'sum', in the pinned program and in every row, IS THE sha256 OF THE DUMP (.gsa) THAT YtgnkmfmdoibifaaGreatProg.lean LOADS. Nothing in Lean hashes anything: it is a label: what it is worth is what the hold of that sum in a sandbox is worth. -/
noncomputable def Tryz.pinned : Pinned := { name := "ytgnkmfmdoibifaagreat", sum := "dbc56237b7b2ed242a5a931079a8b8f72a9337cc99fc639fdff78cad0ad98220", checked := Tryz.checked }
namespace Rows
def none {H : Type} : Left H := { results := [], args := [] }

/-- 'laws.FnWorldLogs': WHATEVER THE INPUT: true; the input reads as it did. -/
def fnWorldLogsSpec : ChangeSpec := { name := "fnWorldLogs", fn := fun _ => fun
  | [d] => { results := [.lit (.bool true)], args := [d] }
  | _ => none }
def fnWorldLogsRow : OpenClaim := { program := "ytgnkmfmdoibifaagreat", sum := "dbc56237b7b2ed242a5a931079a8b8f72a9337cc99fc639fdff78cad0ad98220", func := "loop.example/concierge/laws.FnWorldLogs", spec := "fnWorldLogs", unfollowed := true, recurses := true, apart := false }
def FnWorldLogsSaid : Prop := fnWorldLogsRow.holds Tryz.pinned (OpenSpec.ofChange fnWorldLogsSpec)

/-- ITS FALSE NEIGHBOUR: 'it returns false'. Refute it at one input. -/
def fnWorldLogsWrong : ChangeSpec := { name := "fnWorldLogs", fn := fun _ => fun
  | [d] => { results := [.lit (.bool false)], args := [d] }
  | _ => none }
def FnWorldLogsWrongFalsely : Prop := fnWorldLogsRow.holds Tryz.pinned (OpenSpec.ofChange fnWorldLogsWrong)

/-- 'laws.FnWorldNets': WHATEVER THE INPUT: true; the input reads as it did. -/
def fnWorldNetsSpec : ChangeSpec := { name := "fnWorldNets", fn := fun _ => fun
  | [d] => { results := [.lit (.bool true)], args := [d] }
  | _ => none }
def fnWorldNetsRow : OpenClaim := { program := "ytgnkmfmdoibifaagreat", sum := "dbc56237b7b2ed242a5a931079a8b8f72a9337cc99fc639fdff78cad0ad98220", func := "loop.example/concierge/laws.FnWorldNets", spec := "fnWorldNets", unfollowed := true, recurses := true, apart := false }
def FnWorldNetsSaid : Prop := fnWorldNetsRow.holds Tryz.pinned (OpenSpec.ofChange fnWorldNetsSpec)

/-- ITS FALSE NEIGHBOUR: 'it returns false'. Refute it at one input. -/
def fnWorldNetsWrong : ChangeSpec := { name := "fnWorldNets", fn := fun _ => fun
  | [d] => { results := [.lit (.bool false)], args := [d] }
  | _ => none }
def FnWorldNetsWrongFalsely : Prop := fnWorldNetsRow.holds Tryz.pinned (OpenSpec.ofChange fnWorldNetsWrong)

/-- 'laws.FnWorldTold': WHATEVER THE INPUT: true; the input reads as it did. -/
def fnWorldToldSpec : ChangeSpec := { name := "fnWorldTold", fn := fun _ => fun
  | [d] => { results := [.lit (.bool true)], args := [d] }
  | _ => none }
def fnWorldToldRow : OpenClaim := { program := "ytgnkmfmdoibifaagreat", sum := "dbc56237b7b2ed242a5a931079a8b8f72a9337cc99fc639fdff78cad0ad98220", func := "loop.example/concierge/laws.FnWorldTold", spec := "fnWorldTold", unfollowed := true, recurses := true, apart := false }
def FnWorldToldSaid : Prop := fnWorldToldRow.holds Tryz.pinned (OpenSpec.ofChange fnWorldToldSpec)

/-- ITS FALSE NEIGHBOUR: 'it returns false'. Refute it at one input. -/
def fnWorldToldWrong : ChangeSpec := { name := "fnWorldTold", fn := fun _ => fun
  | [d] => { results := [.lit (.bool false)], args := [d] }
  | _ => none }
def FnWorldToldWrongFalsely : Prop := fnWorldToldRow.holds Tryz.pinned (OpenSpec.ofChange fnWorldToldWrong)

/-- 'laws.FnWorldUnsaid': WHATEVER THE INPUT: true; the input reads as it did. -/
def fnWorldUnsaidSpec : ChangeSpec := { name := "fnWorldUnsaid", fn := fun _ => fun
  | [d] => { results := [.lit (.bool true)], args := [d] }
  | _ => none }
def fnWorldUnsaidRow : OpenClaim := { program := "ytgnkmfmdoibifaagreat", sum := "dbc56237b7b2ed242a5a931079a8b8f72a9337cc99fc639fdff78cad0ad98220", func := "loop.example/concierge/laws.FnWorldUnsaid", spec := "fnWorldUnsaid", unfollowed := true, recurses := true, apart := false }
def FnWorldUnsaidSaid : Prop := fnWorldUnsaidRow.holds Tryz.pinned (OpenSpec.ofChange fnWorldUnsaidSpec)

/-- ITS FALSE NEIGHBOUR: 'it returns false'. Refute it at one input. -/
def fnWorldUnsaidWrong : ChangeSpec := { name := "fnWorldUnsaid", fn := fun _ => fun
  | [d] => { results := [.lit (.bool false)], args := [d] }
  | _ => none }
def FnWorldUnsaidWrongFalsely : Prop := fnWorldUnsaidRow.holds Tryz.pinned (OpenSpec.ofChange fnWorldUnsaidWrong)

/-- 'laws.FnWorldUnforced': WHATEVER THE INPUT: true; the input reads as it did. -/
def fnWorldUnforcedSpec : ChangeSpec := { name := "fnWorldUnforced", fn := fun _ => fun
  | [d] => { results := [.lit (.bool true)], args := [d] }
  | _ => none }
def fnWorldUnforcedRow : OpenClaim := { program := "ytgnkmfmdoibifaagreat", sum := "dbc56237b7b2ed242a5a931079a8b8f72a9337cc99fc639fdff78cad0ad98220", func := "loop.example/concierge/laws.FnWorldUnforced", spec := "fnWorldUnforced", unfollowed := true, recurses := true, apart := false }
def FnWorldUnforcedSaid : Prop := fnWorldUnforcedRow.holds Tryz.pinned (OpenSpec.ofChange fnWorldUnforcedSpec)

/-- ITS FALSE NEIGHBOUR: 'it returns false'. Refute it at one input. -/
def fnWorldUnforcedWrong : ChangeSpec := { name := "fnWorldUnforced", fn := fun _ => fun
  | [d] => { results := [.lit (.bool false)], args := [d] }
  | _ => none }
def FnWorldUnforcedWrongFalsely : Prop := fnWorldUnforcedRow.holds Tryz.pinned (OpenSpec.ofChange fnWorldUnforcedWrong)

/-- 'laws.FnWorldNever': WHATEVER THE INPUT: true; the input reads as it did. -/
def fnWorldNeverSpec : ChangeSpec := { name := "fnWorldNever", fn := fun _ => fun
  | [d] => { results := [.lit (.bool true)], args := [d] }
  | _ => none }
def fnWorldNeverRow : OpenClaim := { program := "ytgnkmfmdoibifaagreat", sum := "dbc56237b7b2ed242a5a931079a8b8f72a9337cc99fc639fdff78cad0ad98220", func := "loop.example/concierge/laws.FnWorldNever", spec := "fnWorldNever", unfollowed := true, recurses := true, apart := false }
def FnWorldNeverSaid : Prop := fnWorldNeverRow.holds Tryz.pinned (OpenSpec.ofChange fnWorldNeverSpec)

/-- ITS FALSE NEIGHBOUR: 'it returns false'. Refute it at one input. -/
def fnWorldNeverWrong : ChangeSpec := { name := "fnWorldNever", fn := fun _ => fun
  | [d] => { results := [.lit (.bool false)], args := [d] }
  | _ => none }
def FnWorldNeverWrongFalsely : Prop := fnWorldNeverRow.holds Tryz.pinned (OpenSpec.ofChange fnWorldNeverWrong)

/-- 'laws.FnWorldCut': WHATEVER THE INPUT: true; the input reads as it did. -/
def fnWorldCutSpec : ChangeSpec := { name := "fnWorldCut", fn := fun _ => fun
  | [d1, d2] => { results := [.lit (.bool true)], args := [d1, d2] }
  | _ => none }
def fnWorldCutRow : OpenClaim := { program := "ytgnkmfmdoibifaagreat", sum := "dbc56237b7b2ed242a5a931079a8b8f72a9337cc99fc639fdff78cad0ad98220", func := "loop.example/concierge/laws.FnWorldCut", spec := "fnWorldCut", unfollowed := true, recurses := true, apart := false }
def FnWorldCutSaid : Prop := fnWorldCutRow.holds Tryz.pinned (OpenSpec.ofChange fnWorldCutSpec)

/-- ITS FALSE NEIGHBOUR: 'it returns false'. Refute it at one input. -/
def fnWorldCutWrong : ChangeSpec := { name := "fnWorldCut", fn := fun _ => fun
  | [d1, d2] => { results := [.lit (.bool false)], args := [d1, d2] }
  | _ => none }
def FnWorldCutWrongFalsely : Prop := fnWorldCutRow.holds Tryz.pinned (OpenSpec.ofChange fnWorldCutWrong)

/-- 'laws.FnWorldKeep': WHATEVER THE INPUT: true; the input reads as it did. -/
def fnWorldKeepSpec : ChangeSpec := { name := "fnWorldKeep", fn := fun _ => fun
  | [d1, d2] => { results := [.lit (.bool true)], args := [d1, d2] }
  | _ => none }
def fnWorldKeepRow : OpenClaim := { program := "ytgnkmfmdoibifaagreat", sum := "dbc56237b7b2ed242a5a931079a8b8f72a9337cc99fc639fdff78cad0ad98220", func := "loop.example/concierge/laws.FnWorldKeep", spec := "fnWorldKeep", unfollowed := true, recurses := true, apart := false }
def FnWorldKeepSaid : Prop := fnWorldKeepRow.holds Tryz.pinned (OpenSpec.ofChange fnWorldKeepSpec)

/-- ITS FALSE NEIGHBOUR: 'it returns false'. Refute it at one input. -/
def fnWorldKeepWrong : ChangeSpec := { name := "fnWorldKeep", fn := fun _ => fun
  | [d1, d2] => { results := [.lit (.bool false)], args := [d1, d2] }
  | _ => none }
def FnWorldKeepWrongFalsely : Prop := fnWorldKeepRow.holds Tryz.pinned (OpenSpec.ofChange fnWorldKeepWrong)

/-- 'laws.FnWorldAsked': WHATEVER THE INPUT: true; the input reads as it did. -/
def fnWorldAskedSpec : ChangeSpec := { name := "fnWorldAsked", fn := fun _ => fun
  | [d] => { results := [.lit (.bool true)], args := [d] }
  | _ => none }
def fnWorldAskedRow : OpenClaim := { program := "ytgnkmfmdoibifaagreat", sum := "dbc56237b7b2ed242a5a931079a8b8f72a9337cc99fc639fdff78cad0ad98220", func := "loop.example/concierge/laws.FnWorldAsked", spec := "fnWorldAsked", unfollowed := true, recurses := true, apart := false }
def FnWorldAskedSaid : Prop := fnWorldAskedRow.holds Tryz.pinned (OpenSpec.ofChange fnWorldAskedSpec)

/-- ITS FALSE NEIGHBOUR: 'it returns false'. Refute it at one input. -/
def fnWorldAskedWrong : ChangeSpec := { name := "fnWorldAsked", fn := fun _ => fun
  | [d] => { results := [.lit (.bool false)], args := [d] }
  | _ => none }
def FnWorldAskedWrongFalsely : Prop := fnWorldAskedRow.holds Tryz.pinned (OpenSpec.ofChange fnWorldAskedWrong)

/-- 'laws.FnWorldStays': WHATEVER THE INPUT: true; the input reads as it did. -/
def fnWorldStaysSpec : ChangeSpec := { name := "fnWorldStays", fn := fun _ => fun
  | [d1, d2] => { results := [.lit (.bool true)], args := [d1, d2] }
  | _ => none }
def fnWorldStaysRow : OpenClaim := { program := "ytgnkmfmdoibifaagreat", sum := "dbc56237b7b2ed242a5a931079a8b8f72a9337cc99fc639fdff78cad0ad98220", func := "loop.example/concierge/laws.FnWorldStays", spec := "fnWorldStays", unfollowed := true, recurses := true, apart := false }
def FnWorldStaysSaid : Prop := fnWorldStaysRow.holds Tryz.pinned (OpenSpec.ofChange fnWorldStaysSpec)

/-- ITS FALSE NEIGHBOUR: 'it returns false'. Refute it at one input. -/
def fnWorldStaysWrong : ChangeSpec := { name := "fnWorldStays", fn := fun _ => fun
  | [d1, d2] => { results := [.lit (.bool false)], args := [d1, d2] }
  | _ => none }
def FnWorldStaysWrongFalsely : Prop := fnWorldStaysRow.holds Tryz.pinned (OpenSpec.ofChange fnWorldStaysWrong)

/-- 'laws.FnWorldFit': WHATEVER THE INPUT: true; the input reads as it did. -/
def fnWorldFitSpec : ChangeSpec := { name := "fnWorldFit", fn := fun _ => fun
  | [d] => { results := [.lit (.bool true)], args := [d] }
  | _ => none }
def fnWorldFitRow : OpenClaim := { program := "ytgnkmfmdoibifaagreat", sum := "dbc56237b7b2ed242a5a931079a8b8f72a9337cc99fc639fdff78cad0ad98220", func := "loop.example/concierge/laws.FnWorldFit", spec := "fnWorldFit", unfollowed := true, recurses := true, apart := false }
def FnWorldFitSaid : Prop := fnWorldFitRow.holds Tryz.pinned (OpenSpec.ofChange fnWorldFitSpec)

/-- ITS FALSE NEIGHBOUR: 'it returns false'. Refute it at one input. -/
def fnWorldFitWrong : ChangeSpec := { name := "fnWorldFit", fn := fun _ => fun
  | [d] => { results := [.lit (.bool false)], args := [d] }
  | _ => none }
def FnWorldFitWrongFalsely : Prop := fnWorldFitRow.holds Tryz.pinned (OpenSpec.ofChange fnWorldFitWrong)

/-- 'laws.FnWorldAlways': WHATEVER THE INPUT: true; the input reads as it did. -/
def fnWorldAlwaysSpec : ChangeSpec := { name := "fnWorldAlways", fn := fun _ => fun
  | [d1, d2] => { results := [.lit (.bool true)], args := [d1, d2] }
  | _ => none }
def fnWorldAlwaysRow : OpenClaim := { program := "ytgnkmfmdoibifaagreat", sum := "dbc56237b7b2ed242a5a931079a8b8f72a9337cc99fc639fdff78cad0ad98220", func := "loop.example/concierge/laws.FnWorldAlways", spec := "fnWorldAlways", unfollowed := true, recurses := true, apart := false }
def FnWorldAlwaysSaid : Prop := fnWorldAlwaysRow.holds Tryz.pinned (OpenSpec.ofChange fnWorldAlwaysSpec)

/-- ITS FALSE NEIGHBOUR: 'it returns false'. Refute it at one input. -/
def fnWorldAlwaysWrong : ChangeSpec := { name := "fnWorldAlways", fn := fun _ => fun
  | [d1, d2] => { results := [.lit (.bool false)], args := [d1, d2] }
  | _ => none }
def FnWorldAlwaysWrongFalsely : Prop := fnWorldAlwaysRow.holds Tryz.pinned (OpenSpec.ofChange fnWorldAlwaysWrong)

/- THE SECOND FORM. 'bulk': how many values and letters a reading holds, each counted each time it is reached (what is shared counts as often as it is met; a slice's spare places count too). A statement '..UptoSaid' is the law's where the arguments, and the package variables that the reading takes, are together of bulk at most 1048576: NARROWER than '..Said'. Prove '..Said' where nothing that the law and all that it calls make is longer than what came in: it says more and counts as full. Else prove '..UptoSaid'. A law counts once. -/
mutual
def uptoBulk {H : Type} : DataW H → Nat
  | .lit (.string bytes) => bytes.length + 1
  | .lit _ => 1
  | .nil => 1
  | .ptr d => uptoBulk d + 1
  | .slice elems spare => uptoBulkAll elems + uptoBulkAll spare + 1
  | .agg parts => uptoBulkAll parts + 1
  | .iface _ d => uptoBulk d + 1
  | .map entries => uptoBulkEntries entries + 1
  | .held _ => 1
def uptoBulkAll {H : Type} : List (DataW H) → Nat
  | [] => 0
  | d :: r => uptoBulk d + uptoBulkAll r
def uptoBulkEntries {H : Type} : List (Lit × DataW H) → Nat
  | [] => 0
  | x :: r => uptoBulkEntry x + uptoBulkEntries r
def uptoBulkEntry {H : Type} : Lit × DataW H → Nat
  | (.string bytes, d) => bytes.length + uptoBulk d + 1
  | (_, d) => uptoBulk d + 1
 end
def uptoSmall : (H : Type) → List (DataW H) → Bool := fun _ ds => decide (uptoBulkAll ds ≤ 1048576)
def OpenSpec.upto (s : _root_.Go.ChangeSpec) : _root_.Go.OpenSpec := { _root_.Go.OpenSpec.ofChange s with cond := some uptoSmall }

/-- 'laws.FnWorldLogs', WHERE WHAT IT READS IS OF BULK AT MOST 1048576: true; the input reads as it did. -/
def fnWorldLogsUptoRow : OpenClaim := { program := "ytgnkmfmdoibifaagreat", sum := "dbc56237b7b2ed242a5a931079a8b8f72a9337cc99fc639fdff78cad0ad98220", func := "loop.example/concierge/laws.FnWorldLogs", spec := "fnWorldLogs", unfollowed := true, recurses := true, apart := false, narrowed := true }
def FnWorldLogsUptoSaid : Prop := fnWorldLogsUptoRow.holds Tryz.pinned (OpenSpec.upto fnWorldLogsSpec)

/-- 'laws.FnWorldNets', WHERE WHAT IT READS IS OF BULK AT MOST 1048576: true; the input reads as it did. -/
def fnWorldNetsUptoRow : OpenClaim := { program := "ytgnkmfmdoibifaagreat", sum := "dbc56237b7b2ed242a5a931079a8b8f72a9337cc99fc639fdff78cad0ad98220", func := "loop.example/concierge/laws.FnWorldNets", spec := "fnWorldNets", unfollowed := true, recurses := true, apart := false, narrowed := true }
def FnWorldNetsUptoSaid : Prop := fnWorldNetsUptoRow.holds Tryz.pinned (OpenSpec.upto fnWorldNetsSpec)

/-- 'laws.FnWorldTold', WHERE WHAT IT READS IS OF BULK AT MOST 1048576: true; the input reads as it did. -/
def fnWorldToldUptoRow : OpenClaim := { program := "ytgnkmfmdoibifaagreat", sum := "dbc56237b7b2ed242a5a931079a8b8f72a9337cc99fc639fdff78cad0ad98220", func := "loop.example/concierge/laws.FnWorldTold", spec := "fnWorldTold", unfollowed := true, recurses := true, apart := false, narrowed := true }
def FnWorldToldUptoSaid : Prop := fnWorldToldUptoRow.holds Tryz.pinned (OpenSpec.upto fnWorldToldSpec)

/-- 'laws.FnWorldUnsaid', WHERE WHAT IT READS IS OF BULK AT MOST 1048576: true; the input reads as it did. -/
def fnWorldUnsaidUptoRow : OpenClaim := { program := "ytgnkmfmdoibifaagreat", sum := "dbc56237b7b2ed242a5a931079a8b8f72a9337cc99fc639fdff78cad0ad98220", func := "loop.example/concierge/laws.FnWorldUnsaid", spec := "fnWorldUnsaid", unfollowed := true, recurses := true, apart := false, narrowed := true }
def FnWorldUnsaidUptoSaid : Prop := fnWorldUnsaidUptoRow.holds Tryz.pinned (OpenSpec.upto fnWorldUnsaidSpec)

/-- 'laws.FnWorldUnforced', WHERE WHAT IT READS IS OF BULK AT MOST 1048576: true; the input reads as it did. -/
def fnWorldUnforcedUptoRow : OpenClaim := { program := "ytgnkmfmdoibifaagreat", sum := "dbc56237b7b2ed242a5a931079a8b8f72a9337cc99fc639fdff78cad0ad98220", func := "loop.example/concierge/laws.FnWorldUnforced", spec := "fnWorldUnforced", unfollowed := true, recurses := true, apart := false, narrowed := true }
def FnWorldUnforcedUptoSaid : Prop := fnWorldUnforcedUptoRow.holds Tryz.pinned (OpenSpec.upto fnWorldUnforcedSpec)

/-- 'laws.FnWorldNever', WHERE WHAT IT READS IS OF BULK AT MOST 1048576: true; the input reads as it did. -/
def fnWorldNeverUptoRow : OpenClaim := { program := "ytgnkmfmdoibifaagreat", sum := "dbc56237b7b2ed242a5a931079a8b8f72a9337cc99fc639fdff78cad0ad98220", func := "loop.example/concierge/laws.FnWorldNever", spec := "fnWorldNever", unfollowed := true, recurses := true, apart := false, narrowed := true }
def FnWorldNeverUptoSaid : Prop := fnWorldNeverUptoRow.holds Tryz.pinned (OpenSpec.upto fnWorldNeverSpec)

/-- 'laws.FnWorldCut', WHERE WHAT IT READS IS OF BULK AT MOST 1048576: true; the input reads as it did. -/
def fnWorldCutUptoRow : OpenClaim := { program := "ytgnkmfmdoibifaagreat", sum := "dbc56237b7b2ed242a5a931079a8b8f72a9337cc99fc639fdff78cad0ad98220", func := "loop.example/concierge/laws.FnWorldCut", spec := "fnWorldCut", unfollowed := true, recurses := true, apart := false, narrowed := true }
def FnWorldCutUptoSaid : Prop := fnWorldCutUptoRow.holds Tryz.pinned (OpenSpec.upto fnWorldCutSpec)

/-- 'laws.FnWorldKeep', WHERE WHAT IT READS IS OF BULK AT MOST 1048576: true; the input reads as it did. -/
def fnWorldKeepUptoRow : OpenClaim := { program := "ytgnkmfmdoibifaagreat", sum := "dbc56237b7b2ed242a5a931079a8b8f72a9337cc99fc639fdff78cad0ad98220", func := "loop.example/concierge/laws.FnWorldKeep", spec := "fnWorldKeep", unfollowed := true, recurses := true, apart := false, narrowed := true }
def FnWorldKeepUptoSaid : Prop := fnWorldKeepUptoRow.holds Tryz.pinned (OpenSpec.upto fnWorldKeepSpec)

/-- 'laws.FnWorldAsked', WHERE WHAT IT READS IS OF BULK AT MOST 1048576: true; the input reads as it did. -/
def fnWorldAskedUptoRow : OpenClaim := { program := "ytgnkmfmdoibifaagreat", sum := "dbc56237b7b2ed242a5a931079a8b8f72a9337cc99fc639fdff78cad0ad98220", func := "loop.example/concierge/laws.FnWorldAsked", spec := "fnWorldAsked", unfollowed := true, recurses := true, apart := false, narrowed := true }
def FnWorldAskedUptoSaid : Prop := fnWorldAskedUptoRow.holds Tryz.pinned (OpenSpec.upto fnWorldAskedSpec)

/-- 'laws.FnWorldStays', WHERE WHAT IT READS IS OF BULK AT MOST 1048576: true; the input reads as it did. -/
def fnWorldStaysUptoRow : OpenClaim := { program := "ytgnkmfmdoibifaagreat", sum := "dbc56237b7b2ed242a5a931079a8b8f72a9337cc99fc639fdff78cad0ad98220", func := "loop.example/concierge/laws.FnWorldStays", spec := "fnWorldStays", unfollowed := true, recurses := true, apart := false, narrowed := true }
def FnWorldStaysUptoSaid : Prop := fnWorldStaysUptoRow.holds Tryz.pinned (OpenSpec.upto fnWorldStaysSpec)

/-- 'laws.FnWorldFit', WHERE WHAT IT READS IS OF BULK AT MOST 1048576: true; the input reads as it did. -/
def fnWorldFitUptoRow : OpenClaim := { program := "ytgnkmfmdoibifaagreat", sum := "dbc56237b7b2ed242a5a931079a8b8f72a9337cc99fc639fdff78cad0ad98220", func := "loop.example/concierge/laws.FnWorldFit", spec := "fnWorldFit", unfollowed := true, recurses := true, apart := false, narrowed := true }
def FnWorldFitUptoSaid : Prop := fnWorldFitUptoRow.holds Tryz.pinned (OpenSpec.upto fnWorldFitSpec)

/-- 'laws.FnWorldAlways', WHERE WHAT IT READS IS OF BULK AT MOST 1048576: true; the input reads as it did. -/
def fnWorldAlwaysUptoRow : OpenClaim := { program := "ytgnkmfmdoibifaagreat", sum := "dbc56237b7b2ed242a5a931079a8b8f72a9337cc99fc639fdff78cad0ad98220", func := "loop.example/concierge/laws.FnWorldAlways", spec := "fnWorldAlways", unfollowed := true, recurses := true, apart := false, narrowed := true }
def FnWorldAlwaysUptoSaid : Prop := fnWorldAlwaysUptoRow.holds Tryz.pinned (OpenSpec.upto fnWorldAlwaysSpec)

end Rows
end Go.Proofs.YtgnkmfmdoibifaaGreat
