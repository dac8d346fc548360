/-
  No cell of these rows narrows 'for every input' (looked for: loops, veiled, ifaces, maps, wideKeys, modest, calm, conditions, laid).
  DERIVED. THE GIVEN ROWS OF THIS SEAT. 4 by the template 'for every input the law returns true; each argument reads behind the call as it read before'; 0 by the template 'total and deterministic' (their statements: YtifebijohmlnbaaGreatTotals.lean).
  GIVEN WITH THE SEED: the statements are not yours to turn. If you find one false, say at which input.
  Laid BY PROGRAM, IN A SANDBOX (cutbox-rows.mjs): the forced cells as the released guide's own fill.sh prints them over the translation 8c52781ca74e3381… (all of the seat's roots in one cut). By AI agents, Wed Nov 11 2026. No macro, syntax, notation, axiom, sorry.
-/
import Derived.Test.YtifebijohmlnbaaGreatChecked
import GoSem.Claim
import GoSem.ClaimJoined
import GoSem.ClaimMapViews
import Derived.JoinedTies
import Derived.KernelRfl
namespace Go.Proofs.YtifebijohmlnbaaGreat
/- THE CELL 'sum', in the pinned program and in every row, IS THE sha256 OF THE DUMP (.gsa) THAT YtifebijohmlnbaaGreatProg.lean LOADS. Nothing in Lean hashes anything: it is a label: what it is worth is what the hold of that sum in a sandbox is worth. -/
noncomputable def Tryz.pinned : Pinned := { name := "ytifebijohmlnbaagreat", sum := "8c52781ca74e3381c030c6c779c5437956987004d04433a733551d5cfa79836d", checked := Tryz.checked }
namespace Rows
def none {H : Type} : Left H := { results := [], args := [] }

/-- 'seneschallaw27.GatewayPlays': WHATEVER THE INPUT: true; the input reads as it did. -/
def gatewayPlaysSpec : ChangeSpec := { name := "gatewayPlays", fn := fun _ => fun
  | [d1, d2, d3] => { results := [.lit (.bool true)], args := [d1, d2, d3] }
  | _ => none }
def gatewayPlaysRow : OpenClaim := { program := "ytifebijohmlnbaagreat", sum := "8c52781ca74e3381c030c6c779c5437956987004d04433a733551d5cfa79836d", func := "seneschal/seneschallaw27.GatewayPlays", spec := "gatewayPlays", unfollowed := true, recurses := true, plainKeys := false, apart := false }
def GatewayPlaysSaid : Prop := gatewayPlaysRow.holds Tryz.pinned (OpenSpec.ofChange gatewayPlaysSpec)

/-- ITS FALSE NEIGHBOUR: 'it returns false'. Refute it at one input. -/
def gatewayPlaysWrong : ChangeSpec := { name := "gatewayPlays", fn := fun _ => fun
  | [d1, d2, d3] => { results := [.lit (.bool false)], args := [d1, d2, d3] }
  | _ => none }
def GatewayPlaysWrongFalsely : Prop := gatewayPlaysRow.holds Tryz.pinned (OpenSpec.ofChange gatewayPlaysWrong)

/-- 'seneschallaw27.GatewayOnce': WHATEVER THE INPUT: true; the input reads as it did. -/
def gatewayOnceSpec : ChangeSpec := { name := "gatewayOnce", fn := fun _ => fun
  | [d1, d2, d3] => { results := [.lit (.bool true)], args := [d1, d2, d3] }
  | _ => none }
def gatewayOnceRow : OpenClaim := { program := "ytifebijohmlnbaagreat", sum := "8c52781ca74e3381c030c6c779c5437956987004d04433a733551d5cfa79836d", func := "seneschal/seneschallaw27.GatewayOnce", spec := "gatewayOnce", unfollowed := true, recurses := true, plainKeys := false, apart := false }
def GatewayOnceSaid : Prop := gatewayOnceRow.holds Tryz.pinned (OpenSpec.ofChange gatewayOnceSpec)

/-- ITS FALSE NEIGHBOUR: 'it returns false'. Refute it at one input. -/
def gatewayOnceWrong : ChangeSpec := { name := "gatewayOnce", fn := fun _ => fun
  | [d1, d2, d3] => { results := [.lit (.bool false)], args := [d1, d2, d3] }
  | _ => none }
def GatewayOnceWrongFalsely : Prop := gatewayOnceRow.holds Tryz.pinned (OpenSpec.ofChange gatewayOnceWrong)

/-- 'seneschallaw27.GatewaySends': WHATEVER THE INPUT: true; the input reads as it did. -/
def gatewaySendsSpec : ChangeSpec := { name := "gatewaySends", fn := fun _ => fun
  | [d1, d2, d3] => { results := [.lit (.bool true)], args := [d1, d2, d3] }
  | _ => none }
def gatewaySendsRow : OpenClaim := { program := "ytifebijohmlnbaagreat", sum := "8c52781ca74e3381c030c6c779c5437956987004d04433a733551d5cfa79836d", func := "seneschal/seneschallaw27.GatewaySends", spec := "gatewaySends", unfollowed := true, recurses := true, plainKeys := false, apart := false }
def GatewaySendsSaid : Prop := gatewaySendsRow.holds Tryz.pinned (OpenSpec.ofChange gatewaySendsSpec)

/-- ITS FALSE NEIGHBOUR: 'it returns false'. Refute it at one input. -/
def gatewaySendsWrong : ChangeSpec := { name := "gatewaySends", fn := fun _ => fun
  | [d1, d2, d3] => { results := [.lit (.bool false)], args := [d1, d2, d3] }
  | _ => none }
def GatewaySendsWrongFalsely : Prop := gatewaySendsRow.holds Tryz.pinned (OpenSpec.ofChange gatewaySendsWrong)

/-- 'seneschallaw27.GatewayEpochs': WHATEVER THE INPUT: true; the input reads as it did. -/
def gatewayEpochsSpec : ChangeSpec := { name := "gatewayEpochs", fn := fun _ => fun
  | [d1, d2, d3] => { results := [.lit (.bool true)], args := [d1, d2, d3] }
  | _ => none }
def gatewayEpochsRow : OpenClaim := { program := "ytifebijohmlnbaagreat", sum := "8c52781ca74e3381c030c6c779c5437956987004d04433a733551d5cfa79836d", func := "seneschal/seneschallaw27.GatewayEpochs", spec := "gatewayEpochs", unfollowed := true, recurses := true, plainKeys := false, apart := false }
def GatewayEpochsSaid : Prop := gatewayEpochsRow.holds Tryz.pinned (OpenSpec.ofChange gatewayEpochsSpec)

/-- ITS FALSE NEIGHBOUR: 'it returns false'. Refute it at one input. -/
def gatewayEpochsWrong : ChangeSpec := { name := "gatewayEpochs", fn := fun _ => fun
  | [d1, d2, d3] => { results := [.lit (.bool false)], args := [d1, d2, d3] }
  | _ => none }
def GatewayEpochsWrongFalsely : Prop := gatewayEpochsRow.holds Tryz.pinned (OpenSpec.ofChange gatewayEpochsWrong)

/- THE SECOND FORM. 'bulk': how many values and letters a reading holds, each counted each time it is reached (what is shared counts as often as it is met; a slice's spare places count too). A statement '..UptoSaid' is the law's where the arguments, and the package variables that the reading takes, are together of bulk at most 1048576: NARROWER than '..Said'. Prove '..Said' where nothing that the law and all that it calls make is longer than what came in: it says more and counts as full. Else prove '..UptoSaid'. A law counts once. -/
mutual
def uptoBulk {H : Type} : DataW H → Nat
  | .lit (.string bytes) => bytes.length + 1
  | .lit _ => 1
  | .nil => 1
  | .ptr d => uptoBulk d + 1
  | .slice elems spare => uptoBulkAll elems + uptoBulkAll spare + 1
  | .agg parts => uptoBulkAll parts + 1
  | .iface _ d => uptoBulk d + 1
  | .map entries => uptoBulkEntries entries + 1
  | .held _ => 1
def uptoBulkAll {H : Type} : List (DataW H) → Nat
  | [] => 0
  | d :: r => uptoBulk d + uptoBulkAll r
def uptoBulkEntries {H : Type} : List (Lit × DataW H) → Nat
  | [] => 0
  | x :: r => uptoBulkEntry x + uptoBulkEntries r
def uptoBulkEntry {H : Type} : Lit × DataW H → Nat
  | (.string bytes, d) => bytes.length + uptoBulk d + 1
  | (_, d) => uptoBulk d + 1
 end
def uptoSmall : (H : Type) → List (DataW H) → Bool := fun _ ds => decide (uptoBulkAll ds ≤ 1048576)
def OpenSpec.upto (s : _root_.Go.ChangeSpec) : _root_.Go.OpenSpec := { _root_.Go.OpenSpec.ofChange s with cond := some uptoSmall }

/-- 'seneschallaw27.GatewayPlays', WHERE WHAT IT READS IS OF BULK AT MOST 1048576: true; the input reads as it did. -/
def gatewayPlaysUptoRow : OpenClaim := { program := "ytifebijohmlnbaagreat", sum := "8c52781ca74e3381c030c6c779c5437956987004d04433a733551d5cfa79836d", func := "seneschal/seneschallaw27.GatewayPlays", spec := "gatewayPlays", unfollowed := true, recurses := true, plainKeys := false, apart := false, narrowed := true }
def GatewayPlaysUptoSaid : Prop := gatewayPlaysUptoRow.holds Tryz.pinned (OpenSpec.upto gatewayPlaysSpec)

/-- 'seneschallaw27.GatewayOnce', WHERE WHAT IT READS IS OF BULK AT MOST 1048576: true; the input reads as it did. -/
def gatewayOnceUptoRow : OpenClaim := { program := "ytifebijohmlnbaagreat", sum := "8c52781ca74e3381c030c6c779c5437956987004d04433a733551d5cfa79836d", func := "seneschal/seneschallaw27.GatewayOnce", spec := "gatewayOnce", unfollowed := true, recurses := true, plainKeys := false, apart := false, narrowed := true }
def GatewayOnceUptoSaid : Prop := gatewayOnceUptoRow.holds Tryz.pinned (OpenSpec.upto gatewayOnceSpec)

/-- 'seneschallaw27.GatewaySends', WHERE WHAT IT READS IS OF BULK AT MOST 1048576: true; the input reads as it did. -/
def gatewaySendsUptoRow : OpenClaim := { program := "ytifebijohmlnbaagreat", sum := "8c52781ca74e3381c030c6c779c5437956987004d04433a733551d5cfa79836d", func := "seneschal/seneschallaw27.GatewaySends", spec := "gatewaySends", unfollowed := true, recurses := true, plainKeys := false, apart := false, narrowed := true }
def GatewaySendsUptoSaid : Prop := gatewaySendsUptoRow.holds Tryz.pinned (OpenSpec.upto gatewaySendsSpec)

/-- 'seneschallaw27.GatewayEpochs', WHERE WHAT IT READS IS OF BULK AT MOST 1048576: true; the input reads as it did. -/
def gatewayEpochsUptoRow : OpenClaim := { program := "ytifebijohmlnbaagreat", sum := "8c52781ca74e3381c030c6c779c5437956987004d04433a733551d5cfa79836d", func := "seneschal/seneschallaw27.GatewayEpochs", spec := "gatewayEpochs", unfollowed := true, recurses := true, plainKeys := false, apart := false, narrowed := true }
def GatewayEpochsUptoSaid : Prop := gatewayEpochsUptoRow.holds Tryz.pinned (OpenSpec.upto gatewayEpochsSpec)

end Rows
end Go.Proofs.YtifebijohmlnbaaGreat
