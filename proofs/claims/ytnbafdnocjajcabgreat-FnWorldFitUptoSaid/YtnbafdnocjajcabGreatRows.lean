/-
  No cell of these rows narrows 'for every input' (looked for: loops, veiled, ifaces, maps, wideKeys, modest, calm, conditions, laid).
  DERIVED. THE GIVEN ROWS OF THIS SEAT. 12 by the template 'for every input the law returns true; each argument reads behind the call as it read before'; 0 by the template 'total and deterministic' (their statements: YtnbafdnocjajcabGreatTotals.lean).
  GIVEN WITH THE SEED: the statements are not yours to turn. If you find one false, say at which input.
  Laid BY PROGRAM, IN A SANDBOX (cutbox-rows.mjs): the forced cells as the released guide's own fill.sh prints them over the translation 0945b5cb41dbc484… (all of the seat's roots in one cut). By AI agents, Wed Nov 11 2026. No macro, syntax, notation, axiom, sorry.
-/
import Derived.Test.YtnbafdnocjajcabGreatChecked
import GoSem.Claim
import GoSem.ClaimJoined
import GoSem.ClaimMapViews
import Derived.JoinedTies
import Derived.KernelRfl
namespace Go.Proofs.YtnbafdnocjajcabGreat
/- THE CELL 'sum', in the pinned program and in every row, IS THE sha256 OF THE DUMP (.gsa) THAT YtnbafdnocjajcabGreatProg.lean LOADS. Nothing in Lean hashes anything: it is a label: what it is worth is what the hold of that sum in a sandbox is worth. -/
noncomputable def Tryz.pinned : Pinned := { name := "ytnbafdnocjajcabgreat", sum := "0945b5cb41dbc4842ec4821951870d384fc76d38c57e0b92147ed31cb256e303", checked := Tryz.checked }
namespace Rows
def none {H : Type} : Left H := { results := [], args := [] }

/-- 'laws.FnWorldStays': WHATEVER THE INPUT: true; the input reads as it did. -/
def fnWorldStaysSpec : ChangeSpec := { name := "fnWorldStays", fn := fun _ => fun
  | [d1, d2] => { results := [.lit (.bool true)], args := [d1, d2] }
  | _ => none }
def fnWorldStaysRow : OpenClaim := { program := "ytnbafdnocjajcabgreat", sum := "0945b5cb41dbc4842ec4821951870d384fc76d38c57e0b92147ed31cb256e303", func := "loop.example/concierge/laws.FnWorldStays", spec := "fnWorldStays", unfollowed := true, recurses := true, apart := false }
def FnWorldStaysSaid : Prop := fnWorldStaysRow.holds Tryz.pinned (OpenSpec.ofChange fnWorldStaysSpec)

/-- ITS FALSE NEIGHBOUR: 'it returns false'. Refute it at one input. -/
def fnWorldStaysWrong : ChangeSpec := { name := "fnWorldStays", fn := fun _ => fun
  | [d1, d2] => { results := [.lit (.bool false)], args := [d1, d2] }
  | _ => none }
def FnWorldStaysWrongFalsely : Prop := fnWorldStaysRow.holds Tryz.pinned (OpenSpec.ofChange fnWorldStaysWrong)

/-- 'laws.FnWorldUnforced': WHATEVER THE INPUT: true; the input reads as it did. -/
def fnWorldUnforcedSpec : ChangeSpec := { name := "fnWorldUnforced", fn := fun _ => fun
  | [d] => { results := [.lit (.bool true)], args := [d] }
  | _ => none }
def fnWorldUnforcedRow : OpenClaim := { program := "ytnbafdnocjajcabgreat", sum := "0945b5cb41dbc4842ec4821951870d384fc76d38c57e0b92147ed31cb256e303", func := "loop.example/concierge/laws.FnWorldUnforced", spec := "fnWorldUnforced", unfollowed := true, recurses := true, apart := false }
def FnWorldUnforcedSaid : Prop := fnWorldUnforcedRow.holds Tryz.pinned (OpenSpec.ofChange fnWorldUnforcedSpec)

/-- ITS FALSE NEIGHBOUR: 'it returns false'. Refute it at one input. -/
def fnWorldUnforcedWrong : ChangeSpec := { name := "fnWorldUnforced", fn := fun _ => fun
  | [d] => { results := [.lit (.bool false)], args := [d] }
  | _ => none }
def FnWorldUnforcedWrongFalsely : Prop := fnWorldUnforcedRow.holds Tryz.pinned (OpenSpec.ofChange fnWorldUnforcedWrong)

/-- 'laws.FnWorldNever': WHATEVER THE INPUT: true; the input reads as it did. -/
def fnWorldNeverSpec : ChangeSpec := { name := "fnWorldNever", fn := fun _ => fun
  | [d] => { results := [.lit (.bool true)], args := [d] }
  | _ => none }
def fnWorldNeverRow : OpenClaim := { program := "ytnbafdnocjajcabgreat", sum := "0945b5cb41dbc4842ec4821951870d384fc76d38c57e0b92147ed31cb256e303", func := "loop.example/concierge/laws.FnWorldNever", spec := "fnWorldNever", unfollowed := true, recurses := true, apart := false }
def FnWorldNeverSaid : Prop := fnWorldNeverRow.holds Tryz.pinned (OpenSpec.ofChange fnWorldNeverSpec)

/-- ITS FALSE NEIGHBOUR: 'it returns false'. Refute it at one input. -/
def fnWorldNeverWrong : ChangeSpec := { name := "fnWorldNever", fn := fun _ => fun
  | [d] => { results := [.lit (.bool false)], args := [d] }
  | _ => none }
def FnWorldNeverWrongFalsely : Prop := fnWorldNeverRow.holds Tryz.pinned (OpenSpec.ofChange fnWorldNeverWrong)

/-- 'laws.FnWorldCut': WHATEVER THE INPUT: true; the input reads as it did. -/
def fnWorldCutSpec : ChangeSpec := { name := "fnWorldCut", fn := fun _ => fun
  | [d1, d2] => { results := [.lit (.bool true)], args := [d1, d2] }
  | _ => none }
def fnWorldCutRow : OpenClaim := { program := "ytnbafdnocjajcabgreat", sum := "0945b5cb41dbc4842ec4821951870d384fc76d38c57e0b92147ed31cb256e303", func := "loop.example/concierge/laws.FnWorldCut", spec := "fnWorldCut", unfollowed := true, recurses := true, apart := false }
def FnWorldCutSaid : Prop := fnWorldCutRow.holds Tryz.pinned (OpenSpec.ofChange fnWorldCutSpec)

/-- ITS FALSE NEIGHBOUR: 'it returns false'. Refute it at one input. -/
def fnWorldCutWrong : ChangeSpec := { name := "fnWorldCut", fn := fun _ => fun
  | [d1, d2] => { results := [.lit (.bool false)], args := [d1, d2] }
  | _ => none }
def FnWorldCutWrongFalsely : Prop := fnWorldCutRow.holds Tryz.pinned (OpenSpec.ofChange fnWorldCutWrong)

/-- 'laws.FnWorldKeep': WHATEVER THE INPUT: true; the input reads as it did. -/
def fnWorldKeepSpec : ChangeSpec := { name := "fnWorldKeep", fn := fun _ => fun
  | [d1, d2] => { results := [.lit (.bool true)], args := [d1, d2] }
  | _ => none }
def fnWorldKeepRow : OpenClaim := { program := "ytnbafdnocjajcabgreat", sum := "0945b5cb41dbc4842ec4821951870d384fc76d38c57e0b92147ed31cb256e303", func := "loop.example/concierge/laws.FnWorldKeep", spec := "fnWorldKeep", unfollowed := true, recurses := true, apart := false }
def FnWorldKeepSaid : Prop := fnWorldKeepRow.holds Tryz.pinned (OpenSpec.ofChange fnWorldKeepSpec)

/-- ITS FALSE NEIGHBOUR: 'it returns false'. Refute it at one input. -/
def fnWorldKeepWrong : ChangeSpec := { name := "fnWorldKeep", fn := fun _ => fun
  | [d1, d2] => { results := [.lit (.bool false)], args := [d1, d2] }
  | _ => none }
def FnWorldKeepWrongFalsely : Prop := fnWorldKeepRow.holds Tryz.pinned (OpenSpec.ofChange fnWorldKeepWrong)

/-- 'laws.FnWorldAsked': WHATEVER THE INPUT: true; the input reads as it did. -/
def fnWorldAskedSpec : ChangeSpec := { name := "fnWorldAsked", fn := fun _ => fun
  | [d] => { results := [.lit (.bool true)], args := [d] }
  | _ => none }
def fnWorldAskedRow : OpenClaim := { program := "ytnbafdnocjajcabgreat", sum := "0945b5cb41dbc4842ec4821951870d384fc76d38c57e0b92147ed31cb256e303", func := "loop.example/concierge/laws.FnWorldAsked", spec := "fnWorldAsked", unfollowed := true, recurses := true, apart := false }
def FnWorldAskedSaid : Prop := fnWorldAskedRow.holds Tryz.pinned (OpenSpec.ofChange fnWorldAskedSpec)

/-- ITS FALSE NEIGHBOUR: 'it returns false'. Refute it at one input. -/
def fnWorldAskedWrong : ChangeSpec := { name := "fnWorldAsked", fn := fun _ => fun
  | [d] => { results := [.lit (.bool false)], args := [d] }
  | _ => none }
def FnWorldAskedWrongFalsely : Prop := fnWorldAskedRow.holds Tryz.pinned (OpenSpec.ofChange fnWorldAskedWrong)

/-- 'laws.FnWorldRounds': WHATEVER THE INPUT: true; the input reads as it did. -/
def fnWorldRoundsSpec : ChangeSpec := { name := "fnWorldRounds", fn := fun _ => fun
  | [d1, d2] => { results := [.lit (.bool true)], args := [d1, d2] }
  | _ => none }
def fnWorldRoundsRow : OpenClaim := { program := "ytnbafdnocjajcabgreat", sum := "0945b5cb41dbc4842ec4821951870d384fc76d38c57e0b92147ed31cb256e303", func := "loop.example/concierge/laws.FnWorldRounds", spec := "fnWorldRounds", unfollowed := true, recurses := true, apart := false }
def FnWorldRoundsSaid : Prop := fnWorldRoundsRow.holds Tryz.pinned (OpenSpec.ofChange fnWorldRoundsSpec)

/-- ITS FALSE NEIGHBOUR: 'it returns false'. Refute it at one input. -/
def fnWorldRoundsWrong : ChangeSpec := { name := "fnWorldRounds", fn := fun _ => fun
  | [d1, d2] => { results := [.lit (.bool false)], args := [d1, d2] }
  | _ => none }
def FnWorldRoundsWrongFalsely : Prop := fnWorldRoundsRow.holds Tryz.pinned (OpenSpec.ofChange fnWorldRoundsWrong)

/-- 'laws.FnWorldAlways': WHATEVER THE INPUT: true; the input reads as it did. -/
def fnWorldAlwaysSpec : ChangeSpec := { name := "fnWorldAlways", fn := fun _ => fun
  | [d1, d2] => { results := [.lit (.bool true)], args := [d1, d2] }
  | _ => none }
def fnWorldAlwaysRow : OpenClaim := { program := "ytnbafdnocjajcabgreat", sum := "0945b5cb41dbc4842ec4821951870d384fc76d38c57e0b92147ed31cb256e303", func := "loop.example/concierge/laws.FnWorldAlways", spec := "fnWorldAlways", unfollowed := true, recurses := true, apart := false }
def FnWorldAlwaysSaid : Prop := fnWorldAlwaysRow.holds Tryz.pinned (OpenSpec.ofChange fnWorldAlwaysSpec)

/-- ITS FALSE NEIGHBOUR: 'it returns false'. Refute it at one input. -/
def fnWorldAlwaysWrong : ChangeSpec := { name := "fnWorldAlways", fn := fun _ => fun
  | [d1, d2] => { results := [.lit (.bool false)], args := [d1, d2] }
  | _ => none }
def FnWorldAlwaysWrongFalsely : Prop := fnWorldAlwaysRow.holds Tryz.pinned (OpenSpec.ofChange fnWorldAlwaysWrong)

/-- 'laws.FnWorldFit': WHATEVER THE INPUT: true; the input reads as it did. -/
def fnWorldFitSpec : ChangeSpec := { name := "fnWorldFit", fn := fun _ => fun
  | [d] => { results := [.lit (.bool true)], args := [d] }
  | _ => none }
def fnWorldFitRow : OpenClaim := { program := "ytnbafdnocjajcabgreat", sum := "0945b5cb41dbc4842ec4821951870d384fc76d38c57e0b92147ed31cb256e303", func := "loop.example/concierge/laws.FnWorldFit", spec := "fnWorldFit", unfollowed := true, recurses := true, apart := false }
def FnWorldFitSaid : Prop := fnWorldFitRow.holds Tryz.pinned (OpenSpec.ofChange fnWorldFitSpec)

/-- ITS FALSE NEIGHBOUR: 'it returns false'. Refute it at one input. -/
def fnWorldFitWrong : ChangeSpec := { name := "fnWorldFit", fn := fun _ => fun
  | [d] => { results := [.lit (.bool false)], args := [d] }
  | _ => none }
def FnWorldFitWrongFalsely : Prop := fnWorldFitRow.holds Tryz.pinned (OpenSpec.ofChange fnWorldFitWrong)

/-- 'laws.FnWorldStill': WHATEVER THE INPUT: true; the input reads as it did. -/
def fnWorldStillSpec : ChangeSpec := { name := "fnWorldStill", fn := fun _ => fun
  | [d1, d2] => { results := [.lit (.bool true)], args := [d1, d2] }
  | _ => none }
def fnWorldStillRow : OpenClaim := { program := "ytnbafdnocjajcabgreat", sum := "0945b5cb41dbc4842ec4821951870d384fc76d38c57e0b92147ed31cb256e303", func := "loop.example/concierge/laws.FnWorldStill", spec := "fnWorldStill", unfollowed := true, recurses := true, apart := false }
def FnWorldStillSaid : Prop := fnWorldStillRow.holds Tryz.pinned (OpenSpec.ofChange fnWorldStillSpec)

/-- ITS FALSE NEIGHBOUR: 'it returns false'. Refute it at one input. -/
def fnWorldStillWrong : ChangeSpec := { name := "fnWorldStill", fn := fun _ => fun
  | [d1, d2] => { results := [.lit (.bool false)], args := [d1, d2] }
  | _ => none }
def FnWorldStillWrongFalsely : Prop := fnWorldStillRow.holds Tryz.pinned (OpenSpec.ofChange fnWorldStillWrong)

/-- 'laws.FnWorldOrder': WHATEVER THE INPUT: true; the input reads as it did. -/
def fnWorldOrderSpec : ChangeSpec := { name := "fnWorldOrder", fn := fun _ => fun
  | [d1, d2] => { results := [.lit (.bool true)], args := [d1, d2] }
  | _ => none }
def fnWorldOrderRow : OpenClaim := { program := "ytnbafdnocjajcabgreat", sum := "0945b5cb41dbc4842ec4821951870d384fc76d38c57e0b92147ed31cb256e303", func := "loop.example/concierge/laws.FnWorldOrder", spec := "fnWorldOrder", unfollowed := true, recurses := true, apart := false }
def FnWorldOrderSaid : Prop := fnWorldOrderRow.holds Tryz.pinned (OpenSpec.ofChange fnWorldOrderSpec)

/-- ITS FALSE NEIGHBOUR: 'it returns false'. Refute it at one input. -/
def fnWorldOrderWrong : ChangeSpec := { name := "fnWorldOrder", fn := fun _ => fun
  | [d1, d2] => { results := [.lit (.bool false)], args := [d1, d2] }
  | _ => none }
def FnWorldOrderWrongFalsely : Prop := fnWorldOrderRow.holds Tryz.pinned (OpenSpec.ofChange fnWorldOrderWrong)

/-- 'laws.FnWorldFree': WHATEVER THE INPUT: true; the input reads as it did. -/
def fnWorldFreeSpec : ChangeSpec := { name := "fnWorldFree", fn := fun _ => fun
  | [d] => { results := [.lit (.bool true)], args := [d] }
  | _ => none }
def fnWorldFreeRow : OpenClaim := { program := "ytnbafdnocjajcabgreat", sum := "0945b5cb41dbc4842ec4821951870d384fc76d38c57e0b92147ed31cb256e303", func := "loop.example/concierge/laws.FnWorldFree", spec := "fnWorldFree", unfollowed := true, recurses := true, apart := false }
def FnWorldFreeSaid : Prop := fnWorldFreeRow.holds Tryz.pinned (OpenSpec.ofChange fnWorldFreeSpec)

/-- ITS FALSE NEIGHBOUR: 'it returns false'. Refute it at one input. -/
def fnWorldFreeWrong : ChangeSpec := { name := "fnWorldFree", fn := fun _ => fun
  | [d] => { results := [.lit (.bool false)], args := [d] }
  | _ => none }
def FnWorldFreeWrongFalsely : Prop := fnWorldFreeRow.holds Tryz.pinned (OpenSpec.ofChange fnWorldFreeWrong)

/- THE SECOND FORM. 'bulk': how many values and letters a reading holds, each counted each time it is reached (what is shared counts as often as it is met; a slice's spare places count too). A statement '..UptoSaid' is the law's where the arguments, and the package variables that the reading takes, are together of bulk at most 1048576: NARROWER than '..Said'. Prove '..Said' where nothing that the law and all that it calls make is longer than what came in: it says more and counts as full. Else prove '..UptoSaid'. A law counts once. -/
mutual
def uptoBulk {H : Type} : DataW H → Nat
  | .lit (.string bytes) => bytes.length + 1
  | .lit _ => 1
  | .nil => 1
  | .ptr d => uptoBulk d + 1
  | .slice elems spare => uptoBulkAll elems + uptoBulkAll spare + 1
  | .agg parts => uptoBulkAll parts + 1
  | .iface _ d => uptoBulk d + 1
  | .map entries => uptoBulkEntries entries + 1
  | .held _ => 1
def uptoBulkAll {H : Type} : List (DataW H) → Nat
  | [] => 0
  | d :: r => uptoBulk d + uptoBulkAll r
def uptoBulkEntries {H : Type} : List (Lit × DataW H) → Nat
  | [] => 0
  | x :: r => uptoBulkEntry x + uptoBulkEntries r
def uptoBulkEntry {H : Type} : Lit × DataW H → Nat
  | (.string bytes, d) => bytes.length + uptoBulk d + 1
  | (_, d) => uptoBulk d + 1
 end
def uptoSmall : (H : Type) → List (DataW H) → Bool := fun _ ds => decide (uptoBulkAll ds ≤ 1048576)
def OpenSpec.upto (s : _root_.Go.ChangeSpec) : _root_.Go.OpenSpec := { _root_.Go.OpenSpec.ofChange s with cond := some uptoSmall }

/-- 'laws.FnWorldStays', WHERE WHAT IT READS IS OF BULK AT MOST 1048576: true; the input reads as it did. -/
def fnWorldStaysUptoRow : OpenClaim := { program := "ytnbafdnocjajcabgreat", sum := "0945b5cb41dbc4842ec4821951870d384fc76d38c57e0b92147ed31cb256e303", func := "loop.example/concierge/laws.FnWorldStays", spec := "fnWorldStays", unfollowed := true, recurses := true, apart := false, narrowed := true }
def FnWorldStaysUptoSaid : Prop := fnWorldStaysUptoRow.holds Tryz.pinned (OpenSpec.upto fnWorldStaysSpec)

/-- 'laws.FnWorldUnforced', WHERE WHAT IT READS IS OF BULK AT MOST 1048576: true; the input reads as it did. -/
def fnWorldUnforcedUptoRow : OpenClaim := { program := "ytnbafdnocjajcabgreat", sum := "0945b5cb41dbc4842ec4821951870d384fc76d38c57e0b92147ed31cb256e303", func := "loop.example/concierge/laws.FnWorldUnforced", spec := "fnWorldUnforced", unfollowed := true, recurses := true, apart := false, narrowed := true }
def FnWorldUnforcedUptoSaid : Prop := fnWorldUnforcedUptoRow.holds Tryz.pinned (OpenSpec.upto fnWorldUnforcedSpec)

/-- 'laws.FnWorldNever', WHERE WHAT IT READS IS OF BULK AT MOST 1048576: true; the input reads as it did. -/
def fnWorldNeverUptoRow : OpenClaim := { program := "ytnbafdnocjajcabgreat", sum := "0945b5cb41dbc4842ec4821951870d384fc76d38c57e0b92147ed31cb256e303", func := "loop.example/concierge/laws.FnWorldNever", spec := "fnWorldNever", unfollowed := true, recurses := true, apart := false, narrowed := true }
def FnWorldNeverUptoSaid : Prop := fnWorldNeverUptoRow.holds Tryz.pinned (OpenSpec.upto fnWorldNeverSpec)

/-- 'laws.FnWorldCut', WHERE WHAT IT READS IS OF BULK AT MOST 1048576: true; the input reads as it did. -/
def fnWorldCutUptoRow : OpenClaim := { program := "ytnbafdnocjajcabgreat", sum := "0945b5cb41dbc4842ec4821951870d384fc76d38c57e0b92147ed31cb256e303", func := "loop.example/concierge/laws.FnWorldCut", spec := "fnWorldCut", unfollowed := true, recurses := true, apart := false, narrowed := true }
def FnWorldCutUptoSaid : Prop := fnWorldCutUptoRow.holds Tryz.pinned (OpenSpec.upto fnWorldCutSpec)

/-- 'laws.FnWorldKeep', WHERE WHAT IT READS IS OF BULK AT MOST 1048576: true; the input reads as it did. -/
def fnWorldKeepUptoRow : OpenClaim := { program := "ytnbafdnocjajcabgreat", sum := "0945b5cb41dbc4842ec4821951870d384fc76d38c57e0b92147ed31cb256e303", func := "loop.example/concierge/laws.FnWorldKeep", spec := "fnWorldKeep", unfollowed := true, recurses := true, apart := false, narrowed := true }
def FnWorldKeepUptoSaid : Prop := fnWorldKeepUptoRow.holds Tryz.pinned (OpenSpec.upto fnWorldKeepSpec)

/-- 'laws.FnWorldAsked', WHERE WHAT IT READS IS OF BULK AT MOST 1048576: true; the input reads as it did. -/
def fnWorldAskedUptoRow : OpenClaim := { program := "ytnbafdnocjajcabgreat", sum := "0945b5cb41dbc4842ec4821951870d384fc76d38c57e0b92147ed31cb256e303", func := "loop.example/concierge/laws.FnWorldAsked", spec := "fnWorldAsked", unfollowed := true, recurses := true, apart := false, narrowed := true }
def FnWorldAskedUptoSaid : Prop := fnWorldAskedUptoRow.holds Tryz.pinned (OpenSpec.upto fnWorldAskedSpec)

/-- 'laws.FnWorldRounds', WHERE WHAT IT READS IS OF BULK AT MOST 1048576: true; the input reads as it did. -/
def fnWorldRoundsUptoRow : OpenClaim := { program := "ytnbafdnocjajcabgreat", sum := "0945b5cb41dbc4842ec4821951870d384fc76d38c57e0b92147ed31cb256e303", func := "loop.example/concierge/laws.FnWorldRounds", spec := "fnWorldRounds", unfollowed := true, recurses := true, apart := false, narrowed := true }
def FnWorldRoundsUptoSaid : Prop := fnWorldRoundsUptoRow.holds Tryz.pinned (OpenSpec.upto fnWorldRoundsSpec)

/-- 'laws.FnWorldAlways', WHERE WHAT IT READS IS OF BULK AT MOST 1048576: true; the input reads as it did. -/
def fnWorldAlwaysUptoRow : OpenClaim := { program := "ytnbafdnocjajcabgreat", sum := "0945b5cb41dbc4842ec4821951870d384fc76d38c57e0b92147ed31cb256e303", func := "loop.example/concierge/laws.FnWorldAlways", spec := "fnWorldAlways", unfollowed := true, recurses := true, apart := false, narrowed := true }
def FnWorldAlwaysUptoSaid : Prop := fnWorldAlwaysUptoRow.holds Tryz.pinned (OpenSpec.upto fnWorldAlwaysSpec)

/-- 'laws.FnWorldFit', WHERE WHAT IT READS IS OF BULK AT MOST 1048576: true; the input reads as it did. -/
def fnWorldFitUptoRow : OpenClaim := { program := "ytnbafdnocjajcabgreat", sum := "0945b5cb41dbc4842ec4821951870d384fc76d38c57e0b92147ed31cb256e303", func := "loop.example/concierge/laws.FnWorldFit", spec := "fnWorldFit", unfollowed := true, recurses := true, apart := false, narrowed := true }
def FnWorldFitUptoSaid : Prop := fnWorldFitUptoRow.holds Tryz.pinned (OpenSpec.upto fnWorldFitSpec)

/-- 'laws.FnWorldStill', WHERE WHAT IT READS IS OF BULK AT MOST 1048576: true; the input reads as it did. -/
def fnWorldStillUptoRow : OpenClaim := { program := "ytnbafdnocjajcabgreat", sum := "0945b5cb41dbc4842ec4821951870d384fc76d38c57e0b92147ed31cb256e303", func := "loop.example/concierge/laws.FnWorldStill", spec := "fnWorldStill", unfollowed := true, recurses := true, apart := false, narrowed := true }
def FnWorldStillUptoSaid : Prop := fnWorldStillUptoRow.holds Tryz.pinned (OpenSpec.upto fnWorldStillSpec)

/-- 'laws.FnWorldOrder', WHERE WHAT IT READS IS OF BULK AT MOST 1048576: true; the input reads as it did. -/
def fnWorldOrderUptoRow : OpenClaim := { program := "ytnbafdnocjajcabgreat", sum := "0945b5cb41dbc4842ec4821951870d384fc76d38c57e0b92147ed31cb256e303", func := "loop.example/concierge/laws.FnWorldOrder", spec := "fnWorldOrder", unfollowed := true, recurses := true, apart := false, narrowed := true }
def FnWorldOrderUptoSaid : Prop := fnWorldOrderUptoRow.holds Tryz.pinned (OpenSpec.upto fnWorldOrderSpec)

/-- 'laws.FnWorldFree', WHERE WHAT IT READS IS OF BULK AT MOST 1048576: true; the input reads as it did. -/
def fnWorldFreeUptoRow : OpenClaim := { program := "ytnbafdnocjajcabgreat", sum := "0945b5cb41dbc4842ec4821951870d384fc76d38c57e0b92147ed31cb256e303", func := "loop.example/concierge/laws.FnWorldFree", spec := "fnWorldFree", unfollowed := true, recurses := true, apart := false, narrowed := true }
def FnWorldFreeUptoSaid : Prop := fnWorldFreeUptoRow.holds Tryz.pinned (OpenSpec.upto fnWorldFreeSpec)

end Rows
end Go.Proofs.YtnbafdnocjajcabGreat
