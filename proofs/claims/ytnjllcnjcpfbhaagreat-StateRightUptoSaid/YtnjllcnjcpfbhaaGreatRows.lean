/-
  No cell of these rows narrows 'for every input' (looked for: loops, veiled, ifaces, maps, wideKeys, modest, calm, conditions, laid).
  DERIVED. THE GIVEN ROWS OF THIS SEAT. 4 by the template 'for every input the law returns true; each argument reads behind the call as it read before'; 0 by the template 'total and deterministic' (their statements: YtnjllcnjcpfbhaaGreatTotals.lean).
  GIVEN WITH THE SEED: the statements are not yours to turn. If you find one false, say at which input.
  Laid BY PROGRAM, IN A SANDBOX (cutbox-rows.mjs): the forced cells as the released guide's own fill.sh prints them over the translation ac792d52a97e86d7… (all of the seat's roots in one cut). By AI agents, Wed Nov 11 2026. No macro, syntax, notation, axiom, sorry.
-/
import Derived.Test.YtnjllcnjcpfbhaaGreatChecked
import GoSem.Claim
import GoSem.ClaimJoined
import GoSem.ClaimMapViews
import Derived.JoinedTies
import Derived.KernelRfl
namespace Go.Proofs.YtnjllcnjcpfbhaaGreat
/- THE CELL 'sum', in the pinned program and in every row, IS THE sha256 OF THE DUMP (.gsa) THAT YtnjllcnjcpfbhaaGreatProg.lean LOADS. Nothing in Lean hashes anything: it is a label: what it is worth is what the hold of that sum in a sandbox is worth. -/
noncomputable def Tryz.pinned : Pinned := { name := "ytnjllcnjcpfbhaagreat", sum := "ac792d52a97e86d700736e0b64182e57b38539445915f9e6c66dc67531e1e109", checked := Tryz.checked }
namespace Rows
def none {H : Type} : Left H := { results := [], args := [] }

/-- 'seneschallaw16.StateLeads': WHATEVER THE INPUT: true; the input reads as it did. -/
def stateLeadsSpec : ChangeSpec := { name := "stateLeads", fn := fun _ => fun
  | [d1, d2] => { results := [.lit (.bool true)], args := [d1, d2] }
  | _ => none }
def stateLeadsRow : OpenClaim := { program := "ytnjllcnjcpfbhaagreat", sum := "ac792d52a97e86d700736e0b64182e57b38539445915f9e6c66dc67531e1e109", func := "seneschal/seneschallaw16.StateLeads", spec := "stateLeads", inPlace := ["slices.overlaps[seneschal/quota.Share]", "slices.overlaps[seneschal/state.Tenant]", "slices.overlaps[seneschal/replies.Last]"], unfollowed := true, recurses := true, apart := false }
def StateLeadsSaid : Prop := stateLeadsRow.holds Tryz.pinned (OpenSpec.ofChange stateLeadsSpec)

/-- ITS FALSE NEIGHBOUR: 'it returns false'. Refute it at one input. -/
def stateLeadsWrong : ChangeSpec := { name := "stateLeads", fn := fun _ => fun
  | [d1, d2] => { results := [.lit (.bool false)], args := [d1, d2] }
  | _ => none }
def StateLeadsWrongFalsely : Prop := stateLeadsRow.holds Tryz.pinned (OpenSpec.ofChange stateLeadsWrong)

/-- 'seneschallaw16.StateRight': WHATEVER THE INPUT: true; the input reads as it did. -/
def stateRightSpec : ChangeSpec := { name := "stateRight", fn := fun _ => fun
  | [d1, d2] => { results := [.lit (.bool true)], args := [d1, d2] }
  | _ => none }
def stateRightRow : OpenClaim := { program := "ytnjllcnjcpfbhaagreat", sum := "ac792d52a97e86d700736e0b64182e57b38539445915f9e6c66dc67531e1e109", func := "seneschal/seneschallaw16.StateRight", spec := "stateRight", inPlace := ["slices.overlaps[seneschal/quota.Share]", "slices.overlaps[seneschal/state.Tenant]", "slices.overlaps[seneschal/replies.Last]"], unfollowed := true, recurses := true, apart := false }
def StateRightSaid : Prop := stateRightRow.holds Tryz.pinned (OpenSpec.ofChange stateRightSpec)

/-- ITS FALSE NEIGHBOUR: 'it returns false'. Refute it at one input. -/
def stateRightWrong : ChangeSpec := { name := "stateRight", fn := fun _ => fun
  | [d1, d2] => { results := [.lit (.bool false)], args := [d1, d2] }
  | _ => none }
def StateRightWrongFalsely : Prop := stateRightRow.holds Tryz.pinned (OpenSpec.ofChange stateRightWrong)

/-- 'seneschallaw16.StateApart': WHATEVER THE INPUT: true; the input reads as it did. -/
def stateApartSpec : ChangeSpec := { name := "stateApart", fn := fun _ => fun
  | [d1, d2, d3, d4] => { results := [.lit (.bool true)], args := [d1, d2, d3, d4] }
  | _ => none }
def stateApartRow : OpenClaim := { program := "ytnjllcnjcpfbhaagreat", sum := "ac792d52a97e86d700736e0b64182e57b38539445915f9e6c66dc67531e1e109", func := "seneschal/seneschallaw16.StateApart", spec := "stateApart", inPlace := ["slices.overlaps[seneschal/quota.Share]", "slices.overlaps[seneschal/state.Tenant]", "slices.overlaps[seneschal/replies.Last]"], unfollowed := true, recurses := true, apart := false }
def StateApartSaid : Prop := stateApartRow.holds Tryz.pinned (OpenSpec.ofChange stateApartSpec)

/-- ITS FALSE NEIGHBOUR: 'it returns false'. Refute it at one input. -/
def stateApartWrong : ChangeSpec := { name := "stateApart", fn := fun _ => fun
  | [d1, d2, d3, d4] => { results := [.lit (.bool false)], args := [d1, d2, d3, d4] }
  | _ => none }
def StateApartWrongFalsely : Prop := stateApartRow.holds Tryz.pinned (OpenSpec.ofChange stateApartWrong)

/-- 'seneschallaw16.StateOnce': WHATEVER THE INPUT: true; the input reads as it did. -/
def stateOnceSpec : ChangeSpec := { name := "stateOnce", fn := fun _ => fun
  | [d1, d2] => { results := [.lit (.bool true)], args := [d1, d2] }
  | _ => none }
def stateOnceRow : OpenClaim := { program := "ytnjllcnjcpfbhaagreat", sum := "ac792d52a97e86d700736e0b64182e57b38539445915f9e6c66dc67531e1e109", func := "seneschal/seneschallaw16.StateOnce", spec := "stateOnce", inPlace := ["slices.overlaps[seneschal/quota.Share]", "slices.overlaps[seneschal/state.Tenant]", "slices.overlaps[seneschal/replies.Last]"], unfollowed := true, recurses := true, apart := false }
def StateOnceSaid : Prop := stateOnceRow.holds Tryz.pinned (OpenSpec.ofChange stateOnceSpec)

/-- ITS FALSE NEIGHBOUR: 'it returns false'. Refute it at one input. -/
def stateOnceWrong : ChangeSpec := { name := "stateOnce", fn := fun _ => fun
  | [d1, d2] => { results := [.lit (.bool false)], args := [d1, d2] }
  | _ => none }
def StateOnceWrongFalsely : Prop := stateOnceRow.holds Tryz.pinned (OpenSpec.ofChange stateOnceWrong)

/- THE SECOND FORM. 'bulk': how many values and letters a reading holds, each counted each time it is reached (what is shared counts as often as it is met; a slice's spare places count too). A statement '..UptoSaid' is the law's where the arguments, and the package variables that the reading takes, are together of bulk at most 1048576: NARROWER than '..Said'. Prove '..Said' where nothing that the law and all that it calls make is longer than what came in: it says more and counts as full. Else prove '..UptoSaid'. A law counts once. -/
mutual
def uptoBulk {H : Type} : DataW H → Nat
  | .lit (.string bytes) => bytes.length + 1
  | .lit _ => 1
  | .nil => 1
  | .ptr d => uptoBulk d + 1
  | .slice elems spare => uptoBulkAll elems + uptoBulkAll spare + 1
  | .agg parts => uptoBulkAll parts + 1
  | .iface _ d => uptoBulk d + 1
  | .map entries => uptoBulkEntries entries + 1
  | .held _ => 1
def uptoBulkAll {H : Type} : List (DataW H) → Nat
  | [] => 0
  | d :: r => uptoBulk d + uptoBulkAll r
def uptoBulkEntries {H : Type} : List (Lit × DataW H) → Nat
  | [] => 0
  | x :: r => uptoBulkEntry x + uptoBulkEntries r
def uptoBulkEntry {H : Type} : Lit × DataW H → Nat
  | (.string bytes, d) => bytes.length + uptoBulk d + 1
  | (_, d) => uptoBulk d + 1
 end
def uptoSmall : (H : Type) → List (DataW H) → Bool := fun _ ds => decide (uptoBulkAll ds ≤ 1048576)
def OpenSpec.upto (s : _root_.Go.ChangeSpec) : _root_.Go.OpenSpec := { _root_.Go.OpenSpec.ofChange s with cond := some uptoSmall }

/-- 'seneschallaw16.StateLeads', WHERE WHAT IT READS IS OF BULK AT MOST 1048576: true; the input reads as it did. -/
def stateLeadsUptoRow : OpenClaim := { program := "ytnjllcnjcpfbhaagreat", sum := "ac792d52a97e86d700736e0b64182e57b38539445915f9e6c66dc67531e1e109", func := "seneschal/seneschallaw16.StateLeads", spec := "stateLeads", inPlace := ["slices.overlaps[seneschal/quota.Share]", "slices.overlaps[seneschal/state.Tenant]", "slices.overlaps[seneschal/replies.Last]"], unfollowed := true, recurses := true, apart := false, narrowed := true }
def StateLeadsUptoSaid : Prop := stateLeadsUptoRow.holds Tryz.pinned (OpenSpec.upto stateLeadsSpec)

/-- 'seneschallaw16.StateRight', WHERE WHAT IT READS IS OF BULK AT MOST 1048576: true; the input reads as it did. -/
def stateRightUptoRow : OpenClaim := { program := "ytnjllcnjcpfbhaagreat", sum := "ac792d52a97e86d700736e0b64182e57b38539445915f9e6c66dc67531e1e109", func := "seneschal/seneschallaw16.StateRight", spec := "stateRight", inPlace := ["slices.overlaps[seneschal/quota.Share]", "slices.overlaps[seneschal/state.Tenant]", "slices.overlaps[seneschal/replies.Last]"], unfollowed := true, recurses := true, apart := false, narrowed := true }
def StateRightUptoSaid : Prop := stateRightUptoRow.holds Tryz.pinned (OpenSpec.upto stateRightSpec)

/-- 'seneschallaw16.StateApart', WHERE WHAT IT READS IS OF BULK AT MOST 1048576: true; the input reads as it did. -/
def stateApartUptoRow : OpenClaim := { program := "ytnjllcnjcpfbhaagreat", sum := "ac792d52a97e86d700736e0b64182e57b38539445915f9e6c66dc67531e1e109", func := "seneschal/seneschallaw16.StateApart", spec := "stateApart", inPlace := ["slices.overlaps[seneschal/quota.Share]", "slices.overlaps[seneschal/state.Tenant]", "slices.overlaps[seneschal/replies.Last]"], unfollowed := true, recurses := true, apart := false, narrowed := true }
def StateApartUptoSaid : Prop := stateApartUptoRow.holds Tryz.pinned (OpenSpec.upto stateApartSpec)

/-- 'seneschallaw16.StateOnce', WHERE WHAT IT READS IS OF BULK AT MOST 1048576: true; the input reads as it did. -/
def stateOnceUptoRow : OpenClaim := { program := "ytnjllcnjcpfbhaagreat", sum := "ac792d52a97e86d700736e0b64182e57b38539445915f9e6c66dc67531e1e109", func := "seneschal/seneschallaw16.StateOnce", spec := "stateOnce", inPlace := ["slices.overlaps[seneschal/quota.Share]", "slices.overlaps[seneschal/state.Tenant]", "slices.overlaps[seneschal/replies.Last]"], unfollowed := true, recurses := true, apart := false, narrowed := true }
def StateOnceUptoSaid : Prop := stateOnceUptoRow.holds Tryz.pinned (OpenSpec.upto stateOnceSpec)

end Rows
end Go.Proofs.YtnjllcnjcpfbhaaGreat
