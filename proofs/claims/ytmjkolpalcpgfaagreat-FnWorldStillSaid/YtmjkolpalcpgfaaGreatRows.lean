/-
  No cell of these rows narrows 'for every input' (looked for: loops, veiled, ifaces, maps, wideKeys, modest, calm, conditions, laid).
  DERIVED. THE GIVEN ROWS OF THIS SEAT. 12 by the template 'for every input the law returns true; each argument reads behind the call as it read before'; 0 by the template 'total and deterministic' (their statements: YtmjkolpalcpgfaaGreatTotals.lean).
  GIVEN WITH THE SEED: the statements are not yours to turn. If you find one false, say at which input.
  Laid BY PROGRAM, IN A SANDBOX (cutbox-rows.mjs): the forced cells as the released guide's own fill.sh prints them over the translation 6b1d36df96b2096a… (all of the seat's roots in one cut). By AI agents, Wed Nov 11 2026. No macro, syntax, notation, axiom, sorry.
-/
import Derived.Test.YtmjkolpalcpgfaaGreatChecked
import GoSem.Claim
import GoSem.ClaimJoined
import GoSem.ClaimMapViews
import Derived.JoinedTies
import Derived.KernelRfl
namespace Go.Proofs.YtmjkolpalcpgfaaGreat
/- THE CELL 'sum', in the pinned program and in every row, IS THE sha256 OF THE DUMP (.gsa) THAT YtmjkolpalcpgfaaGreatProg.lean LOADS. Nothing in Lean hashes anything: it is a label: what it is worth is what the hold of that sum in a sandbox is worth. -/
noncomputable def Tryz.pinned : Pinned := { name := "ytmjkolpalcpgfaagreat", sum := "6b1d36df96b2096aea57eba66dfeaed975de785209f74e6a0ea019ee7cc5ba1b", checked := Tryz.checked }
namespace Rows
def none {H : Type} : Left H := { results := [], args := [] }

/-- 'laws.FnWorldRounds': WHATEVER THE INPUT: true; the input reads as it did. -/
def fnWorldRoundsSpec : ChangeSpec := { name := "fnWorldRounds", fn := fun _ => fun
  | [d1, d2] => { results := [.lit (.bool true)], args := [d1, d2] }
  | _ => none }
def fnWorldRoundsRow : OpenClaim := { program := "ytmjkolpalcpgfaagreat", sum := "6b1d36df96b2096aea57eba66dfeaed975de785209f74e6a0ea019ee7cc5ba1b", func := "loop.example/concierge/laws.FnWorldRounds", spec := "fnWorldRounds", unfollowed := true, recurses := true, apart := false }
def FnWorldRoundsSaid : Prop := fnWorldRoundsRow.holds Tryz.pinned (OpenSpec.ofChange fnWorldRoundsSpec)

/-- ITS FALSE NEIGHBOUR: 'it returns false'. Refute it at one input. -/
def fnWorldRoundsWrong : ChangeSpec := { name := "fnWorldRounds", fn := fun _ => fun
  | [d1, d2] => { results := [.lit (.bool false)], args := [d1, d2] }
  | _ => none }
def FnWorldRoundsWrongFalsely : Prop := fnWorldRoundsRow.holds Tryz.pinned (OpenSpec.ofChange fnWorldRoundsWrong)

/-- 'laws.FnWorldStill': WHATEVER THE INPUT: true; the input reads as it did. -/
def fnWorldStillSpec : ChangeSpec := { name := "fnWorldStill", fn := fun _ => fun
  | [d1, d2] => { results := [.lit (.bool true)], args := [d1, d2] }
  | _ => none }
def fnWorldStillRow : OpenClaim := { program := "ytmjkolpalcpgfaagreat", sum := "6b1d36df96b2096aea57eba66dfeaed975de785209f74e6a0ea019ee7cc5ba1b", func := "loop.example/concierge/laws.FnWorldStill", spec := "fnWorldStill", unfollowed := true, recurses := true, apart := false }
def FnWorldStillSaid : Prop := fnWorldStillRow.holds Tryz.pinned (OpenSpec.ofChange fnWorldStillSpec)

/-- ITS FALSE NEIGHBOUR: 'it returns false'. Refute it at one input. -/
def fnWorldStillWrong : ChangeSpec := { name := "fnWorldStill", fn := fun _ => fun
  | [d1, d2] => { results := [.lit (.bool false)], args := [d1, d2] }
  | _ => none }
def FnWorldStillWrongFalsely : Prop := fnWorldStillRow.holds Tryz.pinned (OpenSpec.ofChange fnWorldStillWrong)

/-- 'laws.FnWorldFree': WHATEVER THE INPUT: true; the input reads as it did. -/
def fnWorldFreeSpec : ChangeSpec := { name := "fnWorldFree", fn := fun _ => fun
  | [d] => { results := [.lit (.bool true)], args := [d] }
  | _ => none }
def fnWorldFreeRow : OpenClaim := { program := "ytmjkolpalcpgfaagreat", sum := "6b1d36df96b2096aea57eba66dfeaed975de785209f74e6a0ea019ee7cc5ba1b", func := "loop.example/concierge/laws.FnWorldFree", spec := "fnWorldFree", unfollowed := true, recurses := true, apart := false }
def FnWorldFreeSaid : Prop := fnWorldFreeRow.holds Tryz.pinned (OpenSpec.ofChange fnWorldFreeSpec)

/-- ITS FALSE NEIGHBOUR: 'it returns false'. Refute it at one input. -/
def fnWorldFreeWrong : ChangeSpec := { name := "fnWorldFree", fn := fun _ => fun
  | [d] => { results := [.lit (.bool false)], args := [d] }
  | _ => none }
def FnWorldFreeWrongFalsely : Prop := fnWorldFreeRow.holds Tryz.pinned (OpenSpec.ofChange fnWorldFreeWrong)

/-- 'laws.FnWorldOrder': WHATEVER THE INPUT: true; the input reads as it did. -/
def fnWorldOrderSpec : ChangeSpec := { name := "fnWorldOrder", fn := fun _ => fun
  | [d1, d2] => { results := [.lit (.bool true)], args := [d1, d2] }
  | _ => none }
def fnWorldOrderRow : OpenClaim := { program := "ytmjkolpalcpgfaagreat", sum := "6b1d36df96b2096aea57eba66dfeaed975de785209f74e6a0ea019ee7cc5ba1b", func := "loop.example/concierge/laws.FnWorldOrder", spec := "fnWorldOrder", unfollowed := true, recurses := true, apart := false }
def FnWorldOrderSaid : Prop := fnWorldOrderRow.holds Tryz.pinned (OpenSpec.ofChange fnWorldOrderSpec)

/-- ITS FALSE NEIGHBOUR: 'it returns false'. Refute it at one input. -/
def fnWorldOrderWrong : ChangeSpec := { name := "fnWorldOrder", fn := fun _ => fun
  | [d1, d2] => { results := [.lit (.bool false)], args := [d1, d2] }
  | _ => none }
def FnWorldOrderWrongFalsely : Prop := fnWorldOrderRow.holds Tryz.pinned (OpenSpec.ofChange fnWorldOrderWrong)

/-- 'laws.FnWorldGive': WHATEVER THE INPUT: true; the input reads as it did. -/
def fnWorldGiveSpec : ChangeSpec := { name := "fnWorldGive", fn := fun _ => fun
  | [d1, d2] => { results := [.lit (.bool true)], args := [d1, d2] }
  | _ => none }
def fnWorldGiveRow : OpenClaim := { program := "ytmjkolpalcpgfaagreat", sum := "6b1d36df96b2096aea57eba66dfeaed975de785209f74e6a0ea019ee7cc5ba1b", func := "loop.example/concierge/laws.FnWorldGive", spec := "fnWorldGive", unfollowed := true, recurses := true, apart := false }
def FnWorldGiveSaid : Prop := fnWorldGiveRow.holds Tryz.pinned (OpenSpec.ofChange fnWorldGiveSpec)

/-- ITS FALSE NEIGHBOUR: 'it returns false'. Refute it at one input. -/
def fnWorldGiveWrong : ChangeSpec := { name := "fnWorldGive", fn := fun _ => fun
  | [d1, d2] => { results := [.lit (.bool false)], args := [d1, d2] }
  | _ => none }
def FnWorldGiveWrongFalsely : Prop := fnWorldGiveRow.holds Tryz.pinned (OpenSpec.ofChange fnWorldGiveWrong)

/-- 'laws.FnWorldRoom': WHATEVER THE INPUT: true; the input reads as it did. -/
def fnWorldRoomSpec : ChangeSpec := { name := "fnWorldRoom", fn := fun _ => fun
  | [d1, d2] => { results := [.lit (.bool true)], args := [d1, d2] }
  | _ => none }
def fnWorldRoomRow : OpenClaim := { program := "ytmjkolpalcpgfaagreat", sum := "6b1d36df96b2096aea57eba66dfeaed975de785209f74e6a0ea019ee7cc5ba1b", func := "loop.example/concierge/laws.FnWorldRoom", spec := "fnWorldRoom", unfollowed := true, recurses := true, apart := false }
def FnWorldRoomSaid : Prop := fnWorldRoomRow.holds Tryz.pinned (OpenSpec.ofChange fnWorldRoomSpec)

/-- ITS FALSE NEIGHBOUR: 'it returns false'. Refute it at one input. -/
def fnWorldRoomWrong : ChangeSpec := { name := "fnWorldRoom", fn := fun _ => fun
  | [d1, d2] => { results := [.lit (.bool false)], args := [d1, d2] }
  | _ => none }
def FnWorldRoomWrongFalsely : Prop := fnWorldRoomRow.holds Tryz.pinned (OpenSpec.ofChange fnWorldRoomWrong)

/-- 'laws.FnWorldScarce': WHATEVER THE INPUT: true; the input reads as it did. -/
def fnWorldScarceSpec : ChangeSpec := { name := "fnWorldScarce", fn := fun _ => fun
  | [d1, d2] => { results := [.lit (.bool true)], args := [d1, d2] }
  | _ => none }
def fnWorldScarceRow : OpenClaim := { program := "ytmjkolpalcpgfaagreat", sum := "6b1d36df96b2096aea57eba66dfeaed975de785209f74e6a0ea019ee7cc5ba1b", func := "loop.example/concierge/laws.FnWorldScarce", spec := "fnWorldScarce", unfollowed := true, recurses := true, apart := false }
def FnWorldScarceSaid : Prop := fnWorldScarceRow.holds Tryz.pinned (OpenSpec.ofChange fnWorldScarceSpec)

/-- ITS FALSE NEIGHBOUR: 'it returns false'. Refute it at one input. -/
def fnWorldScarceWrong : ChangeSpec := { name := "fnWorldScarce", fn := fun _ => fun
  | [d1, d2] => { results := [.lit (.bool false)], args := [d1, d2] }
  | _ => none }
def FnWorldScarceWrongFalsely : Prop := fnWorldScarceRow.holds Tryz.pinned (OpenSpec.ofChange fnWorldScarceWrong)

/-- 'laws.FnWorldCalm': WHATEVER THE INPUT: true; the input reads as it did. -/
def fnWorldCalmSpec : ChangeSpec := { name := "fnWorldCalm", fn := fun _ => fun
  | [d] => { results := [.lit (.bool true)], args := [d] }
  | _ => none }
def fnWorldCalmRow : OpenClaim := { program := "ytmjkolpalcpgfaagreat", sum := "6b1d36df96b2096aea57eba66dfeaed975de785209f74e6a0ea019ee7cc5ba1b", func := "loop.example/concierge/laws.FnWorldCalm", spec := "fnWorldCalm", unfollowed := true, recurses := true, apart := false }
def FnWorldCalmSaid : Prop := fnWorldCalmRow.holds Tryz.pinned (OpenSpec.ofChange fnWorldCalmSpec)

/-- ITS FALSE NEIGHBOUR: 'it returns false'. Refute it at one input. -/
def fnWorldCalmWrong : ChangeSpec := { name := "fnWorldCalm", fn := fun _ => fun
  | [d] => { results := [.lit (.bool false)], args := [d] }
  | _ => none }
def FnWorldCalmWrongFalsely : Prop := fnWorldCalmRow.holds Tryz.pinned (OpenSpec.ofChange fnWorldCalmWrong)

/-- 'laws.FnWorldDown': WHATEVER THE INPUT: true; the input reads as it did. -/
def fnWorldDownSpec : ChangeSpec := { name := "fnWorldDown", fn := fun _ => fun
  | [d] => { results := [.lit (.bool true)], args := [d] }
  | _ => none }
def fnWorldDownRow : OpenClaim := { program := "ytmjkolpalcpgfaagreat", sum := "6b1d36df96b2096aea57eba66dfeaed975de785209f74e6a0ea019ee7cc5ba1b", func := "loop.example/concierge/laws.FnWorldDown", spec := "fnWorldDown", unfollowed := true, recurses := true, apart := false }
def FnWorldDownSaid : Prop := fnWorldDownRow.holds Tryz.pinned (OpenSpec.ofChange fnWorldDownSpec)

/-- ITS FALSE NEIGHBOUR: 'it returns false'. Refute it at one input. -/
def fnWorldDownWrong : ChangeSpec := { name := "fnWorldDown", fn := fun _ => fun
  | [d] => { results := [.lit (.bool false)], args := [d] }
  | _ => none }
def FnWorldDownWrongFalsely : Prop := fnWorldDownRow.holds Tryz.pinned (OpenSpec.ofChange fnWorldDownWrong)

/-- 'laws.FnWorldLost': WHATEVER THE INPUT: true; the input reads as it did. -/
def fnWorldLostSpec : ChangeSpec := { name := "fnWorldLost", fn := fun _ => fun
  | [d] => { results := [.lit (.bool true)], args := [d] }
  | _ => none }
def fnWorldLostRow : OpenClaim := { program := "ytmjkolpalcpgfaagreat", sum := "6b1d36df96b2096aea57eba66dfeaed975de785209f74e6a0ea019ee7cc5ba1b", func := "loop.example/concierge/laws.FnWorldLost", spec := "fnWorldLost", unfollowed := true, recurses := true, apart := false }
def FnWorldLostSaid : Prop := fnWorldLostRow.holds Tryz.pinned (OpenSpec.ofChange fnWorldLostSpec)

/-- ITS FALSE NEIGHBOUR: 'it returns false'. Refute it at one input. -/
def fnWorldLostWrong : ChangeSpec := { name := "fnWorldLost", fn := fun _ => fun
  | [d] => { results := [.lit (.bool false)], args := [d] }
  | _ => none }
def FnWorldLostWrongFalsely : Prop := fnWorldLostRow.holds Tryz.pinned (OpenSpec.ofChange fnWorldLostWrong)

/-- 'laws.FnWorldIdle': WHATEVER THE INPUT: true; the input reads as it did. -/
def fnWorldIdleSpec : ChangeSpec := { name := "fnWorldIdle", fn := fun _ => fun
  | [d] => { results := [.lit (.bool true)], args := [d] }
  | _ => none }
def fnWorldIdleRow : OpenClaim := { program := "ytmjkolpalcpgfaagreat", sum := "6b1d36df96b2096aea57eba66dfeaed975de785209f74e6a0ea019ee7cc5ba1b", func := "loop.example/concierge/laws.FnWorldIdle", spec := "fnWorldIdle", unfollowed := true, recurses := true, apart := false }
def FnWorldIdleSaid : Prop := fnWorldIdleRow.holds Tryz.pinned (OpenSpec.ofChange fnWorldIdleSpec)

/-- ITS FALSE NEIGHBOUR: 'it returns false'. Refute it at one input. -/
def fnWorldIdleWrong : ChangeSpec := { name := "fnWorldIdle", fn := fun _ => fun
  | [d] => { results := [.lit (.bool false)], args := [d] }
  | _ => none }
def FnWorldIdleWrongFalsely : Prop := fnWorldIdleRow.holds Tryz.pinned (OpenSpec.ofChange fnWorldIdleWrong)

/-- 'laws.FnWorldApart': WHATEVER THE INPUT: true; the input reads as it did. -/
def fnWorldApartSpec : ChangeSpec := { name := "fnWorldApart", fn := fun _ => fun
  | [d] => { results := [.lit (.bool true)], args := [d] }
  | _ => none }
def fnWorldApartRow : OpenClaim := { program := "ytmjkolpalcpgfaagreat", sum := "6b1d36df96b2096aea57eba66dfeaed975de785209f74e6a0ea019ee7cc5ba1b", func := "loop.example/concierge/laws.FnWorldApart", spec := "fnWorldApart", unfollowed := true, recurses := true, apart := false }
def FnWorldApartSaid : Prop := fnWorldApartRow.holds Tryz.pinned (OpenSpec.ofChange fnWorldApartSpec)

/-- ITS FALSE NEIGHBOUR: 'it returns false'. Refute it at one input. -/
def fnWorldApartWrong : ChangeSpec := { name := "fnWorldApart", fn := fun _ => fun
  | [d] => { results := [.lit (.bool false)], args := [d] }
  | _ => none }
def FnWorldApartWrongFalsely : Prop := fnWorldApartRow.holds Tryz.pinned (OpenSpec.ofChange fnWorldApartWrong)

/- THE SECOND FORM. 'bulk': how many values and letters a reading holds, each counted each time it is reached (what is shared counts as often as it is met; a slice's spare places count too). A statement '..UptoSaid' is the law's where the arguments, and the package variables that the reading takes, are together of bulk at most 1048576: NARROWER than '..Said'. Prove '..Said' where nothing that the law and all that it calls make is longer than what came in: it says more and counts as full. Else prove '..UptoSaid'. A law counts once. -/
mutual
def uptoBulk {H : Type} : DataW H → Nat
  | .lit (.string bytes) => bytes.length + 1
  | .lit _ => 1
  | .nil => 1
  | .ptr d => uptoBulk d + 1
  | .slice elems spare => uptoBulkAll elems + uptoBulkAll spare + 1
  | .agg parts => uptoBulkAll parts + 1
  | .iface _ d => uptoBulk d + 1
  | .map entries => uptoBulkEntries entries + 1
  | .held _ => 1
def uptoBulkAll {H : Type} : List (DataW H) → Nat
  | [] => 0
  | d :: r => uptoBulk d + uptoBulkAll r
def uptoBulkEntries {H : Type} : List (Lit × DataW H) → Nat
  | [] => 0
  | x :: r => uptoBulkEntry x + uptoBulkEntries r
def uptoBulkEntry {H : Type} : Lit × DataW H → Nat
  | (.string bytes, d) => bytes.length + uptoBulk d + 1
  | (_, d) => uptoBulk d + 1
 end
def uptoSmall : (H : Type) → List (DataW H) → Bool := fun _ ds => decide (uptoBulkAll ds ≤ 1048576)
def OpenSpec.upto (s : _root_.Go.ChangeSpec) : _root_.Go.OpenSpec := { _root_.Go.OpenSpec.ofChange s with cond := some uptoSmall }

/-- 'laws.FnWorldRounds', WHERE WHAT IT READS IS OF BULK AT MOST 1048576: true; the input reads as it did. -/
def fnWorldRoundsUptoRow : OpenClaim := { program := "ytmjkolpalcpgfaagreat", sum := "6b1d36df96b2096aea57eba66dfeaed975de785209f74e6a0ea019ee7cc5ba1b", func := "loop.example/concierge/laws.FnWorldRounds", spec := "fnWorldRounds", unfollowed := true, recurses := true, apart := false, narrowed := true }
def FnWorldRoundsUptoSaid : Prop := fnWorldRoundsUptoRow.holds Tryz.pinned (OpenSpec.upto fnWorldRoundsSpec)

/-- 'laws.FnWorldStill', WHERE WHAT IT READS IS OF BULK AT MOST 1048576: true; the input reads as it did. -/
def fnWorldStillUptoRow : OpenClaim := { program := "ytmjkolpalcpgfaagreat", sum := "6b1d36df96b2096aea57eba66dfeaed975de785209f74e6a0ea019ee7cc5ba1b", func := "loop.example/concierge/laws.FnWorldStill", spec := "fnWorldStill", unfollowed := true, recurses := true, apart := false, narrowed := true }
def FnWorldStillUptoSaid : Prop := fnWorldStillUptoRow.holds Tryz.pinned (OpenSpec.upto fnWorldStillSpec)

/-- 'laws.FnWorldFree', WHERE WHAT IT READS IS OF BULK AT MOST 1048576: true; the input reads as it did. -/
def fnWorldFreeUptoRow : OpenClaim := { program := "ytmjkolpalcpgfaagreat", sum := "6b1d36df96b2096aea57eba66dfeaed975de785209f74e6a0ea019ee7cc5ba1b", func := "loop.example/concierge/laws.FnWorldFree", spec := "fnWorldFree", unfollowed := true, recurses := true, apart := false, narrowed := true }
def FnWorldFreeUptoSaid : Prop := fnWorldFreeUptoRow.holds Tryz.pinned (OpenSpec.upto fnWorldFreeSpec)

/-- 'laws.FnWorldOrder', WHERE WHAT IT READS IS OF BULK AT MOST 1048576: true; the input reads as it did. -/
def fnWorldOrderUptoRow : OpenClaim := { program := "ytmjkolpalcpgfaagreat", sum := "6b1d36df96b2096aea57eba66dfeaed975de785209f74e6a0ea019ee7cc5ba1b", func := "loop.example/concierge/laws.FnWorldOrder", spec := "fnWorldOrder", unfollowed := true, recurses := true, apart := false, narrowed := true }
def FnWorldOrderUptoSaid : Prop := fnWorldOrderUptoRow.holds Tryz.pinned (OpenSpec.upto fnWorldOrderSpec)

/-- 'laws.FnWorldGive', WHERE WHAT IT READS IS OF BULK AT MOST 1048576: true; the input reads as it did. -/
def fnWorldGiveUptoRow : OpenClaim := { program := "ytmjkolpalcpgfaagreat", sum := "6b1d36df96b2096aea57eba66dfeaed975de785209f74e6a0ea019ee7cc5ba1b", func := "loop.example/concierge/laws.FnWorldGive", spec := "fnWorldGive", unfollowed := true, recurses := true, apart := false, narrowed := true }
def FnWorldGiveUptoSaid : Prop := fnWorldGiveUptoRow.holds Tryz.pinned (OpenSpec.upto fnWorldGiveSpec)

/-- 'laws.FnWorldRoom', WHERE WHAT IT READS IS OF BULK AT MOST 1048576: true; the input reads as it did. -/
def fnWorldRoomUptoRow : OpenClaim := { program := "ytmjkolpalcpgfaagreat", sum := "6b1d36df96b2096aea57eba66dfeaed975de785209f74e6a0ea019ee7cc5ba1b", func := "loop.example/concierge/laws.FnWorldRoom", spec := "fnWorldRoom", unfollowed := true, recurses := true, apart := false, narrowed := true }
def FnWorldRoomUptoSaid : Prop := fnWorldRoomUptoRow.holds Tryz.pinned (OpenSpec.upto fnWorldRoomSpec)

/-- 'laws.FnWorldScarce', WHERE WHAT IT READS IS OF BULK AT MOST 1048576: true; the input reads as it did. -/
def fnWorldScarceUptoRow : OpenClaim := { program := "ytmjkolpalcpgfaagreat", sum := "6b1d36df96b2096aea57eba66dfeaed975de785209f74e6a0ea019ee7cc5ba1b", func := "loop.example/concierge/laws.FnWorldScarce", spec := "fnWorldScarce", unfollowed := true, recurses := true, apart := false, narrowed := true }
def FnWorldScarceUptoSaid : Prop := fnWorldScarceUptoRow.holds Tryz.pinned (OpenSpec.upto fnWorldScarceSpec)

/-- 'laws.FnWorldCalm', WHERE WHAT IT READS IS OF BULK AT MOST 1048576: true; the input reads as it did. -/
def fnWorldCalmUptoRow : OpenClaim := { program := "ytmjkolpalcpgfaagreat", sum := "6b1d36df96b2096aea57eba66dfeaed975de785209f74e6a0ea019ee7cc5ba1b", func := "loop.example/concierge/laws.FnWorldCalm", spec := "fnWorldCalm", unfollowed := true, recurses := true, apart := false, narrowed := true }
def FnWorldCalmUptoSaid : Prop := fnWorldCalmUptoRow.holds Tryz.pinned (OpenSpec.upto fnWorldCalmSpec)

/-- 'laws.FnWorldDown', WHERE WHAT IT READS IS OF BULK AT MOST 1048576: true; the input reads as it did. -/
def fnWorldDownUptoRow : OpenClaim := { program := "ytmjkolpalcpgfaagreat", sum := "6b1d36df96b2096aea57eba66dfeaed975de785209f74e6a0ea019ee7cc5ba1b", func := "loop.example/concierge/laws.FnWorldDown", spec := "fnWorldDown", unfollowed := true, recurses := true, apart := false, narrowed := true }
def FnWorldDownUptoSaid : Prop := fnWorldDownUptoRow.holds Tryz.pinned (OpenSpec.upto fnWorldDownSpec)

/-- 'laws.FnWorldLost', WHERE WHAT IT READS IS OF BULK AT MOST 1048576: true; the input reads as it did. -/
def fnWorldLostUptoRow : OpenClaim := { program := "ytmjkolpalcpgfaagreat", sum := "6b1d36df96b2096aea57eba66dfeaed975de785209f74e6a0ea019ee7cc5ba1b", func := "loop.example/concierge/laws.FnWorldLost", spec := "fnWorldLost", unfollowed := true, recurses := true, apart := false, narrowed := true }
def FnWorldLostUptoSaid : Prop := fnWorldLostUptoRow.holds Tryz.pinned (OpenSpec.upto fnWorldLostSpec)

/-- 'laws.FnWorldIdle', WHERE WHAT IT READS IS OF BULK AT MOST 1048576: true; the input reads as it did. -/
def fnWorldIdleUptoRow : OpenClaim := { program := "ytmjkolpalcpgfaagreat", sum := "6b1d36df96b2096aea57eba66dfeaed975de785209f74e6a0ea019ee7cc5ba1b", func := "loop.example/concierge/laws.FnWorldIdle", spec := "fnWorldIdle", unfollowed := true, recurses := true, apart := false, narrowed := true }
def FnWorldIdleUptoSaid : Prop := fnWorldIdleUptoRow.holds Tryz.pinned (OpenSpec.upto fnWorldIdleSpec)

/-- 'laws.FnWorldApart', WHERE WHAT IT READS IS OF BULK AT MOST 1048576: true; the input reads as it did. -/
def fnWorldApartUptoRow : OpenClaim := { program := "ytmjkolpalcpgfaagreat", sum := "6b1d36df96b2096aea57eba66dfeaed975de785209f74e6a0ea019ee7cc5ba1b", func := "loop.example/concierge/laws.FnWorldApart", spec := "fnWorldApart", unfollowed := true, recurses := true, apart := false, narrowed := true }
def FnWorldApartUptoSaid : Prop := fnWorldApartUptoRow.holds Tryz.pinned (OpenSpec.upto fnWorldApartSpec)

end Rows
end Go.Proofs.YtmjkolpalcpgfaaGreat
