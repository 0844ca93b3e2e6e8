/-
  No cell of these rows narrows 'for every input' (looked for: loops, veiled, ifaces, maps, wideKeys, modest, calm, conditions, laid).
  DERIVED. THE GIVEN ROWS OF THIS SEAT. 12 by the template 'for every input the law returns true; each argument reads behind the call as it read before'; 0 by the template 'total and deterministic' (their statements: YtahfbeiobndhkaaGreatTotals.lean).
  GIVEN WITH THE SEED: the statements are not yours to turn. If you find one false, say at which input.
  Laid BY PROGRAM, IN A SANDBOX (cutbox-rows.mjs): the forced cells as the released guide's own fill.sh prints them over the translation 228d4466a232c24b… (all of the seat's roots in one cut). By AI agents, Wed Nov 11 2026. No macro, syntax, notation, axiom, sorry.
-/
import Derived.Test.YtahfbeiobndhkaaGreatChecked
import GoSem.Claim
import GoSem.ClaimJoined
import GoSem.ClaimMapViews
import Derived.JoinedTies
import Derived.KernelRfl
namespace Go.Proofs.YtahfbeiobndhkaaGreat
/- THE CELL 'sum', in the pinned program and in every row, IS THE sha256 OF THE DUMP (.gsa) THAT YtahfbeiobndhkaaGreatProg.lean LOADS. Nothing in Lean hashes anything: it is a label: what it is worth is what the hold of that sum in a sandbox is worth. -/
noncomputable def Tryz.pinned : Pinned := { name := "ytahfbeiobndhkaagreat", sum := "228d4466a232c24be38495eb9a46be048820c001b493fadb8bb65b4c4603f956", checked := Tryz.checked }
namespace Rows
def none {H : Type} : Left H := { results := [], args := [] }

/-- 'laws.FnWorldDo': WHATEVER THE INPUT: true; the input reads as it did. -/
def fnWorldDoSpec : ChangeSpec := { name := "fnWorldDo", fn := fun _ => fun
  | [d] => { results := [.lit (.bool true)], args := [d] }
  | _ => none }
def fnWorldDoRow : OpenClaim := { program := "ytahfbeiobndhkaagreat", sum := "228d4466a232c24be38495eb9a46be048820c001b493fadb8bb65b4c4603f956", func := "loop.example/concierge/laws.FnWorldDo", spec := "fnWorldDo", unfollowed := true, recurses := true, apart := false }
def FnWorldDoSaid : Prop := fnWorldDoRow.holds Tryz.pinned (OpenSpec.ofChange fnWorldDoSpec)

/-- ITS FALSE NEIGHBOUR: 'it returns false'. Refute it at one input. -/
def fnWorldDoWrong : ChangeSpec := { name := "fnWorldDo", fn := fun _ => fun
  | [d] => { results := [.lit (.bool false)], args := [d] }
  | _ => none }
def FnWorldDoWrongFalsely : Prop := fnWorldDoRow.holds Tryz.pinned (OpenSpec.ofChange fnWorldDoWrong)

/-- 'laws.FnWorldTwice': WHATEVER THE INPUT: true; the input reads as it did. -/
def fnWorldTwiceSpec : ChangeSpec := { name := "fnWorldTwice", fn := fun _ => fun
  | [d1, d2] => { results := [.lit (.bool true)], args := [d1, d2] }
  | _ => none }
def fnWorldTwiceRow : OpenClaim := { program := "ytahfbeiobndhkaagreat", sum := "228d4466a232c24be38495eb9a46be048820c001b493fadb8bb65b4c4603f956", func := "loop.example/concierge/laws.FnWorldTwice", spec := "fnWorldTwice", unfollowed := true, recurses := true, apart := false }
def FnWorldTwiceSaid : Prop := fnWorldTwiceRow.holds Tryz.pinned (OpenSpec.ofChange fnWorldTwiceSpec)

/-- ITS FALSE NEIGHBOUR: 'it returns false'. Refute it at one input. -/
def fnWorldTwiceWrong : ChangeSpec := { name := "fnWorldTwice", fn := fun _ => fun
  | [d1, d2] => { results := [.lit (.bool false)], args := [d1, d2] }
  | _ => none }
def FnWorldTwiceWrongFalsely : Prop := fnWorldTwiceRow.holds Tryz.pinned (OpenSpec.ofChange fnWorldTwiceWrong)

/-- 'laws.FnWorldSay': WHATEVER THE INPUT: true; the input reads as it did. -/
def fnWorldSaySpec : ChangeSpec := { name := "fnWorldSay", fn := fun _ => fun
  | [d] => { results := [.lit (.bool true)], args := [d] }
  | _ => none }
def fnWorldSayRow : OpenClaim := { program := "ytahfbeiobndhkaagreat", sum := "228d4466a232c24be38495eb9a46be048820c001b493fadb8bb65b4c4603f956", func := "loop.example/concierge/laws.FnWorldSay", spec := "fnWorldSay", unfollowed := true, recurses := true, apart := false }
def FnWorldSaySaid : Prop := fnWorldSayRow.holds Tryz.pinned (OpenSpec.ofChange fnWorldSaySpec)

/-- ITS FALSE NEIGHBOUR: 'it returns false'. Refute it at one input. -/
def fnWorldSayWrong : ChangeSpec := { name := "fnWorldSay", fn := fun _ => fun
  | [d] => { results := [.lit (.bool false)], args := [d] }
  | _ => none }
def FnWorldSayWrongFalsely : Prop := fnWorldSayRow.holds Tryz.pinned (OpenSpec.ofChange fnWorldSayWrong)

/-- 'laws.FnWorldBegin': WHATEVER THE INPUT: true; the input reads as it did. -/
def fnWorldBeginSpec : ChangeSpec := { name := "fnWorldBegin", fn := fun _ => fun
  | [d1, d2] => { results := [.lit (.bool true)], args := [d1, d2] }
  | _ => none }
def fnWorldBeginRow : OpenClaim := { program := "ytahfbeiobndhkaagreat", sum := "228d4466a232c24be38495eb9a46be048820c001b493fadb8bb65b4c4603f956", func := "loop.example/concierge/laws.FnWorldBegin", spec := "fnWorldBegin", unfollowed := true, recurses := true, apart := false }
def FnWorldBeginSaid : Prop := fnWorldBeginRow.holds Tryz.pinned (OpenSpec.ofChange fnWorldBeginSpec)

/-- ITS FALSE NEIGHBOUR: 'it returns false'. Refute it at one input. -/
def fnWorldBeginWrong : ChangeSpec := { name := "fnWorldBegin", fn := fun _ => fun
  | [d1, d2] => { results := [.lit (.bool false)], args := [d1, d2] }
  | _ => none }
def FnWorldBeginWrongFalsely : Prop := fnWorldBeginRow.holds Tryz.pinned (OpenSpec.ofChange fnWorldBeginWrong)

/-- 'laws.FnDeskNew': WHATEVER THE INPUT: true; the input reads as it did. -/
def fnDeskNewSpec : ChangeSpec := { name := "fnDeskNew", fn := fun _ => fun
  | [d] => { results := [.lit (.bool true)], args := [d] }
  | _ => none }
def fnDeskNewRow : OpenClaim := { program := "ytahfbeiobndhkaagreat", sum := "228d4466a232c24be38495eb9a46be048820c001b493fadb8bb65b4c4603f956", func := "loop.example/concierge/laws.FnDeskNew", spec := "fnDeskNew", unfollowed := true, recurses := true, apart := false }
def FnDeskNewSaid : Prop := fnDeskNewRow.holds Tryz.pinned (OpenSpec.ofChange fnDeskNewSpec)

/-- ITS FALSE NEIGHBOUR: 'it returns false'. Refute it at one input. -/
def fnDeskNewWrong : ChangeSpec := { name := "fnDeskNew", fn := fun _ => fun
  | [d] => { results := [.lit (.bool false)], args := [d] }
  | _ => none }
def FnDeskNewWrongFalsely : Prop := fnDeskNewRow.holds Tryz.pinned (OpenSpec.ofChange fnDeskNewWrong)

/-- 'laws.FnDeskTwice': WHATEVER THE INPUT: true; the input reads as it did. -/
def fnDeskTwiceSpec : ChangeSpec := { name := "fnDeskTwice", fn := fun _ => fun
  | [d] => { results := [.lit (.bool true)], args := [d] }
  | _ => none }
def fnDeskTwiceRow : OpenClaim := { program := "ytahfbeiobndhkaagreat", sum := "228d4466a232c24be38495eb9a46be048820c001b493fadb8bb65b4c4603f956", func := "loop.example/concierge/laws.FnDeskTwice", spec := "fnDeskTwice", unfollowed := true, recurses := true, apart := false }
def FnDeskTwiceSaid : Prop := fnDeskTwiceRow.holds Tryz.pinned (OpenSpec.ofChange fnDeskTwiceSpec)

/-- ITS FALSE NEIGHBOUR: 'it returns false'. Refute it at one input. -/
def fnDeskTwiceWrong : ChangeSpec := { name := "fnDeskTwice", fn := fun _ => fun
  | [d] => { results := [.lit (.bool false)], args := [d] }
  | _ => none }
def FnDeskTwiceWrongFalsely : Prop := fnDeskTwiceRow.holds Tryz.pinned (OpenSpec.ofChange fnDeskTwiceWrong)

/-- 'laws.FnDeskBegin': WHATEVER THE INPUT: true; the input reads as it did. -/
def fnDeskBeginSpec : ChangeSpec := { name := "fnDeskBegin", fn := fun _ => fun
  | [d] => { results := [.lit (.bool true)], args := [d] }
  | _ => none }
def fnDeskBeginRow : OpenClaim := { program := "ytahfbeiobndhkaagreat", sum := "228d4466a232c24be38495eb9a46be048820c001b493fadb8bb65b4c4603f956", func := "loop.example/concierge/laws.FnDeskBegin", spec := "fnDeskBegin", unfollowed := true, recurses := true, apart := false }
def FnDeskBeginSaid : Prop := fnDeskBeginRow.holds Tryz.pinned (OpenSpec.ofChange fnDeskBeginSpec)

/-- ITS FALSE NEIGHBOUR: 'it returns false'. Refute it at one input. -/
def fnDeskBeginWrong : ChangeSpec := { name := "fnDeskBegin", fn := fun _ => fun
  | [d] => { results := [.lit (.bool false)], args := [d] }
  | _ => none }
def FnDeskBeginWrongFalsely : Prop := fnDeskBeginRow.holds Tryz.pinned (OpenSpec.ofChange fnDeskBeginWrong)

/-- 'laws.FnDeskAll': WHATEVER THE INPUT: true; the input reads as it did. -/
def fnDeskAllSpec : ChangeSpec := { name := "fnDeskAll", fn := fun _ => fun
  | [d1, d2] => { results := [.lit (.bool true)], args := [d1, d2] }
  | _ => none }
def fnDeskAllRow : OpenClaim := { program := "ytahfbeiobndhkaagreat", sum := "228d4466a232c24be38495eb9a46be048820c001b493fadb8bb65b4c4603f956", func := "loop.example/concierge/laws.FnDeskAll", spec := "fnDeskAll", unfollowed := true, recurses := true, apart := false }
def FnDeskAllSaid : Prop := fnDeskAllRow.holds Tryz.pinned (OpenSpec.ofChange fnDeskAllSpec)

/-- ITS FALSE NEIGHBOUR: 'it returns false'. Refute it at one input. -/
def fnDeskAllWrong : ChangeSpec := { name := "fnDeskAll", fn := fun _ => fun
  | [d1, d2] => { results := [.lit (.bool false)], args := [d1, d2] }
  | _ => none }
def FnDeskAllWrongFalsely : Prop := fnDeskAllRow.holds Tryz.pinned (OpenSpec.ofChange fnDeskAllWrong)

/-- 'laws.FnDeskTold': WHATEVER THE INPUT: true; the input reads as it did. -/
def fnDeskToldSpec : ChangeSpec := { name := "fnDeskTold", fn := fun _ => fun
  | [d] => { results := [.lit (.bool true)], args := [d] }
  | _ => none }
def fnDeskToldRow : OpenClaim := { program := "ytahfbeiobndhkaagreat", sum := "228d4466a232c24be38495eb9a46be048820c001b493fadb8bb65b4c4603f956", func := "loop.example/concierge/laws.FnDeskTold", spec := "fnDeskTold", unfollowed := true, recurses := true, apart := false }
def FnDeskToldSaid : Prop := fnDeskToldRow.holds Tryz.pinned (OpenSpec.ofChange fnDeskToldSpec)

/-- ITS FALSE NEIGHBOUR: 'it returns false'. Refute it at one input. -/
def fnDeskToldWrong : ChangeSpec := { name := "fnDeskTold", fn := fun _ => fun
  | [d] => { results := [.lit (.bool false)], args := [d] }
  | _ => none }
def FnDeskToldWrongFalsely : Prop := fnDeskToldRow.holds Tryz.pinned (OpenSpec.ofChange fnDeskToldWrong)

/-- 'laws.FnDeskOther': WHATEVER THE INPUT: true; the input reads as it did. -/
def fnDeskOtherSpec : ChangeSpec := { name := "fnDeskOther", fn := fun _ => fun
  | [d] => { results := [.lit (.bool true)], args := [d] }
  | _ => none }
def fnDeskOtherRow : OpenClaim := { program := "ytahfbeiobndhkaagreat", sum := "228d4466a232c24be38495eb9a46be048820c001b493fadb8bb65b4c4603f956", func := "loop.example/concierge/laws.FnDeskOther", spec := "fnDeskOther", unfollowed := true, recurses := true, apart := false }
def FnDeskOtherSaid : Prop := fnDeskOtherRow.holds Tryz.pinned (OpenSpec.ofChange fnDeskOtherSpec)

/-- ITS FALSE NEIGHBOUR: 'it returns false'. Refute it at one input. -/
def fnDeskOtherWrong : ChangeSpec := { name := "fnDeskOther", fn := fun _ => fun
  | [d] => { results := [.lit (.bool false)], args := [d] }
  | _ => none }
def FnDeskOtherWrongFalsely : Prop := fnDeskOtherRow.holds Tryz.pinned (OpenSpec.ofChange fnDeskOtherWrong)

/-- 'laws.FnDeskEnd': WHATEVER THE INPUT: true; the input reads as it did. -/
def fnDeskEndSpec : ChangeSpec := { name := "fnDeskEnd", fn := fun _ => fun
  | [d] => { results := [.lit (.bool true)], args := [d] }
  | _ => none }
def fnDeskEndRow : OpenClaim := { program := "ytahfbeiobndhkaagreat", sum := "228d4466a232c24be38495eb9a46be048820c001b493fadb8bb65b4c4603f956", func := "loop.example/concierge/laws.FnDeskEnd", spec := "fnDeskEnd", unfollowed := true, recurses := true, apart := false }
def FnDeskEndSaid : Prop := fnDeskEndRow.holds Tryz.pinned (OpenSpec.ofChange fnDeskEndSpec)

/-- ITS FALSE NEIGHBOUR: 'it returns false'. Refute it at one input. -/
def fnDeskEndWrong : ChangeSpec := { name := "fnDeskEnd", fn := fun _ => fun
  | [d] => { results := [.lit (.bool false)], args := [d] }
  | _ => none }
def FnDeskEndWrongFalsely : Prop := fnDeskEndRow.holds Tryz.pinned (OpenSpec.ofChange fnDeskEndWrong)

/-- 'laws.FnDeskYes': WHATEVER THE INPUT: true; the input reads as it did. -/
def fnDeskYesSpec : ChangeSpec := { name := "fnDeskYes", fn := fun _ => fun
  | [d] => { results := [.lit (.bool true)], args := [d] }
  | _ => none }
def fnDeskYesRow : OpenClaim := { program := "ytahfbeiobndhkaagreat", sum := "228d4466a232c24be38495eb9a46be048820c001b493fadb8bb65b4c4603f956", func := "loop.example/concierge/laws.FnDeskYes", spec := "fnDeskYes", unfollowed := true, recurses := true, apart := false }
def FnDeskYesSaid : Prop := fnDeskYesRow.holds Tryz.pinned (OpenSpec.ofChange fnDeskYesSpec)

/-- ITS FALSE NEIGHBOUR: 'it returns false'. Refute it at one input. -/
def fnDeskYesWrong : ChangeSpec := { name := "fnDeskYes", fn := fun _ => fun
  | [d] => { results := [.lit (.bool false)], args := [d] }
  | _ => none }
def FnDeskYesWrongFalsely : Prop := fnDeskYesRow.holds Tryz.pinned (OpenSpec.ofChange fnDeskYesWrong)

/- THE SECOND FORM. 'bulk': how many values and letters a reading holds, each counted each time it is reached (what is shared counts as often as it is met; a slice's spare places count too). A statement '..UptoSaid' is the law's where the arguments, and the package variables that the reading takes, are together of bulk at most 1048576: NARROWER than '..Said'. Prove '..Said' where nothing that the law and all that it calls make is longer than what came in: it says more and counts as full. Else prove '..UptoSaid'. A law counts once. -/
mutual
def uptoBulk {H : Type} : DataW H → Nat
  | .lit (.string bytes) => bytes.length + 1
  | .lit _ => 1
  | .nil => 1
  | .ptr d => uptoBulk d + 1
  | .slice elems spare => uptoBulkAll elems + uptoBulkAll spare + 1
  | .agg parts => uptoBulkAll parts + 1
  | .iface _ d => uptoBulk d + 1
  | .map entries => uptoBulkEntries entries + 1
  | .held _ => 1
def uptoBulkAll {H : Type} : List (DataW H) → Nat
  | [] => 0
  | d :: r => uptoBulk d + uptoBulkAll r
def uptoBulkEntries {H : Type} : List (Lit × DataW H) → Nat
  | [] => 0
  | x :: r => uptoBulkEntry x + uptoBulkEntries r
def uptoBulkEntry {H : Type} : Lit × DataW H → Nat
  | (.string bytes, d) => bytes.length + uptoBulk d + 1
  | (_, d) => uptoBulk d + 1
 end
def uptoSmall : (H : Type) → List (DataW H) → Bool := fun _ ds => decide (uptoBulkAll ds ≤ 1048576)
def OpenSpec.upto (s : _root_.Go.ChangeSpec) : _root_.Go.OpenSpec := { _root_.Go.OpenSpec.ofChange s with cond := some uptoSmall }

/-- 'laws.FnWorldDo', WHERE WHAT IT READS IS OF BULK AT MOST 1048576: true; the input reads as it did. -/
def fnWorldDoUptoRow : OpenClaim := { program := "ytahfbeiobndhkaagreat", sum := "228d4466a232c24be38495eb9a46be048820c001b493fadb8bb65b4c4603f956", func := "loop.example/concierge/laws.FnWorldDo", spec := "fnWorldDo", unfollowed := true, recurses := true, apart := false, narrowed := true }
def FnWorldDoUptoSaid : Prop := fnWorldDoUptoRow.holds Tryz.pinned (OpenSpec.upto fnWorldDoSpec)

/-- 'laws.FnWorldTwice', WHERE WHAT IT READS IS OF BULK AT MOST 1048576: true; the input reads as it did. -/
def fnWorldTwiceUptoRow : OpenClaim := { program := "ytahfbeiobndhkaagreat", sum := "228d4466a232c24be38495eb9a46be048820c001b493fadb8bb65b4c4603f956", func := "loop.example/concierge/laws.FnWorldTwice", spec := "fnWorldTwice", unfollowed := true, recurses := true, apart := false, narrowed := true }
def FnWorldTwiceUptoSaid : Prop := fnWorldTwiceUptoRow.holds Tryz.pinned (OpenSpec.upto fnWorldTwiceSpec)

/-- 'laws.FnWorldSay', WHERE WHAT IT READS IS OF BULK AT MOST 1048576: true; the input reads as it did. -/
def fnWorldSayUptoRow : OpenClaim := { program := "ytahfbeiobndhkaagreat", sum := "228d4466a232c24be38495eb9a46be048820c001b493fadb8bb65b4c4603f956", func := "loop.example/concierge/laws.FnWorldSay", spec := "fnWorldSay", unfollowed := true, recurses := true, apart := false, narrowed := true }
def FnWorldSayUptoSaid : Prop := fnWorldSayUptoRow.holds Tryz.pinned (OpenSpec.upto fnWorldSaySpec)

/-- 'laws.FnWorldBegin', WHERE WHAT IT READS IS OF BULK AT MOST 1048576: true; the input reads as it did. -/
def fnWorldBeginUptoRow : OpenClaim := { program := "ytahfbeiobndhkaagreat", sum := "228d4466a232c24be38495eb9a46be048820c001b493fadb8bb65b4c4603f956", func := "loop.example/concierge/laws.FnWorldBegin", spec := "fnWorldBegin", unfollowed := true, recurses := true, apart := false, narrowed := true }
def FnWorldBeginUptoSaid : Prop := fnWorldBeginUptoRow.holds Tryz.pinned (OpenSpec.upto fnWorldBeginSpec)

/-- 'laws.FnDeskNew', WHERE WHAT IT READS IS OF BULK AT MOST 1048576: true; the input reads as it did. -/
def fnDeskNewUptoRow : OpenClaim := { program := "ytahfbeiobndhkaagreat", sum := "228d4466a232c24be38495eb9a46be048820c001b493fadb8bb65b4c4603f956", func := "loop.example/concierge/laws.FnDeskNew", spec := "fnDeskNew", unfollowed := true, recurses := true, apart := false, narrowed := true }
def FnDeskNewUptoSaid : Prop := fnDeskNewUptoRow.holds Tryz.pinned (OpenSpec.upto fnDeskNewSpec)

/-- 'laws.FnDeskTwice', WHERE WHAT IT READS IS OF BULK AT MOST 1048576: true; the input reads as it did. -/
def fnDeskTwiceUptoRow : OpenClaim := { program := "ytahfbeiobndhkaagreat", sum := "228d4466a232c24be38495eb9a46be048820c001b493fadb8bb65b4c4603f956", func := "loop.example/concierge/laws.FnDeskTwice", spec := "fnDeskTwice", unfollowed := true, recurses := true, apart := false, narrowed := true }
def FnDeskTwiceUptoSaid : Prop := fnDeskTwiceUptoRow.holds Tryz.pinned (OpenSpec.upto fnDeskTwiceSpec)

/-- 'laws.FnDeskBegin', WHERE WHAT IT READS IS OF BULK AT MOST 1048576: true; the input reads as it did. -/
def fnDeskBeginUptoRow : OpenClaim := { program := "ytahfbeiobndhkaagreat", sum := "228d4466a232c24be38495eb9a46be048820c001b493fadb8bb65b4c4603f956", func := "loop.example/concierge/laws.FnDeskBegin", spec := "fnDeskBegin", unfollowed := true, recurses := true, apart := false, narrowed := true }
def FnDeskBeginUptoSaid : Prop := fnDeskBeginUptoRow.holds Tryz.pinned (OpenSpec.upto fnDeskBeginSpec)

/-- 'laws.FnDeskAll', WHERE WHAT IT READS IS OF BULK AT MOST 1048576: true; the input reads as it did. -/
def fnDeskAllUptoRow : OpenClaim := { program := "ytahfbeiobndhkaagreat", sum := "228d4466a232c24be38495eb9a46be048820c001b493fadb8bb65b4c4603f956", func := "loop.example/concierge/laws.FnDeskAll", spec := "fnDeskAll", unfollowed := true, recurses := true, apart := false, narrowed := true }
def FnDeskAllUptoSaid : Prop := fnDeskAllUptoRow.holds Tryz.pinned (OpenSpec.upto fnDeskAllSpec)

/-- 'laws.FnDeskTold', WHERE WHAT IT READS IS OF BULK AT MOST 1048576: true; the input reads as it did. -/
def fnDeskToldUptoRow : OpenClaim := { program := "ytahfbeiobndhkaagreat", sum := "228d4466a232c24be38495eb9a46be048820c001b493fadb8bb65b4c4603f956", func := "loop.example/concierge/laws.FnDeskTold", spec := "fnDeskTold", unfollowed := true, recurses := true, apart := false, narrowed := true }
def FnDeskToldUptoSaid : Prop := fnDeskToldUptoRow.holds Tryz.pinned (OpenSpec.upto fnDeskToldSpec)

/-- 'laws.FnDeskOther', WHERE WHAT IT READS IS OF BULK AT MOST 1048576: true; the input reads as it did. -/
def fnDeskOtherUptoRow : OpenClaim := { program := "ytahfbeiobndhkaagreat", sum := "228d4466a232c24be38495eb9a46be048820c001b493fadb8bb65b4c4603f956", func := "loop.example/concierge/laws.FnDeskOther", spec := "fnDeskOther", unfollowed := true, recurses := true, apart := false, narrowed := true }
def FnDeskOtherUptoSaid : Prop := fnDeskOtherUptoRow.holds Tryz.pinned (OpenSpec.upto fnDeskOtherSpec)

/-- 'laws.FnDeskEnd', WHERE WHAT IT READS IS OF BULK AT MOST 1048576: true; the input reads as it did. -/
def fnDeskEndUptoRow : OpenClaim := { program := "ytahfbeiobndhkaagreat", sum := "228d4466a232c24be38495eb9a46be048820c001b493fadb8bb65b4c4603f956", func := "loop.example/concierge/laws.FnDeskEnd", spec := "fnDeskEnd", unfollowed := true, recurses := true, apart := false, narrowed := true }
def FnDeskEndUptoSaid : Prop := fnDeskEndUptoRow.holds Tryz.pinned (OpenSpec.upto fnDeskEndSpec)

/-- 'laws.FnDeskYes', WHERE WHAT IT READS IS OF BULK AT MOST 1048576: true; the input reads as it did. -/
def fnDeskYesUptoRow : OpenClaim := { program := "ytahfbeiobndhkaagreat", sum := "228d4466a232c24be38495eb9a46be048820c001b493fadb8bb65b4c4603f956", func := "loop.example/concierge/laws.FnDeskYes", spec := "fnDeskYes", unfollowed := true, recurses := true, apart := false, narrowed := true }
def FnDeskYesUptoSaid : Prop := fnDeskYesUptoRow.holds Tryz.pinned (OpenSpec.upto fnDeskYesSpec)

end Rows
end Go.Proofs.YtahfbeiobndhkaaGreat
