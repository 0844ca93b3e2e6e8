import Derived.Test.YtcgenclbnnigeabGreatXd
import Derived.Deep.LoopGhost
import Derived.Deep.RegionLaw
import Derived.Lib.SliceRun
import Derived.Lib.Walk
import Derived.Shelf.RegionOpenPlain
import Derived.Shelf.SlBodiesN
import Derived.Shelf.SlGeneric
import Derived.Sort.WalkB12
import Derived.WalkKit
set_option linter.all false
set_option linter.unusedVariables false
set_option linter.unusedSimpArgs false
set_option linter.unnecessarySimpa false
/- The same: the machine's part. -/

namespace Dx
open Go Go.Proofs Go.Shelf Go.RowKit Go.Lib Go.Sort

structure DelAt (P : Program) (ρ : Ren) : Prop where
  mixed : P.follows .mixedOrders = true
  f45 : Bears P (ρ.f 45) (SlBodyN.n45 ρ)
  t3 : P.underlying (ρ.t 3) = some (TypeDesc.int IntKind.i64)
  t4 : P.underlying (ρ.t 4) = some (TypeDesc.bool)
  t22 : P.underlying (ρ.t 22) = some (TypeDesc.slice (ρ.t 23))
  i23 : (P.info? (ρ.t 23)).map (fun i => (i.size, i.zero)) = some (4, some (.agg #[.int .i64 0, .int .i64 0, .int .i64 0, .int .i64 0]))

variable {P : Program} {ρ : Ren}
end Dx

