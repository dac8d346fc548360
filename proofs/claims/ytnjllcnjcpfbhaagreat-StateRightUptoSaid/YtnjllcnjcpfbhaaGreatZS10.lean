/- Parts. -/
import Derived.Test.YtnjllcnjcpfbhaaGreatZS5
import Derived.Test.YtnjllcnjcpfbhaaGreatProg
import Derived.Test.YtnjllcnjcpfbhaaGreatRows
import Derived.ProofKit
import Derived.JoinedCond
namespace Go.Proofs.YtnjllcnjcpfbhaaGreat
set_option linter.unusedVariables false
set_option linter.unusedSimpArgs false
open Go.RowKit Go.Proofs.Tryz
set_option maxRecDepth 100000
set_option maxHeartbeats 8000000
section
open Go.RowKit Go.ChangeShapes Go.WideShapes Go.ChangeAt
theorem hdLaid:laidOutB Tryz.pinned.checked.prog=true:=by kernel_rfl
theorem hdMaps:mapsRowed Tryz.pinned.checked.prog=true:=by kernel_rfl
theorem hdStops:(Tryz.pinned.checked.prog.stops == [])=true:=by kernel_rfl
theorem hdKnobs:(Tryz.pinned.checked.prog.stopKnobs == [])=true:=by kernel_rfl
theorem hdHeard:Tryz.pinned.checked.prog.stopsHeard=true:=by kernel_rfl
theorem hdEnter:Tryz.pinned.checked.prog.mayEnter=true:=by kernel_rfl
end
