/-
  No cell of these rows narrows 'for every input' (looked for: loops, veiled, ifaces, maps, wideKeys, modest, calm, conditions, laid).
  DERIVED. THE GIVEN ROWS OF THIS SEAT. 4 by the template 'for every input the law returns true; each argument reads behind the call as it read before'; 0 by the template 'total and deterministic' (their statements: YtmgneincjfhaoaaGreatTotals.lean).
  GIVEN WITH THE SEED: the statements are not yours to turn. If you find one false, say at which input.
  Laid BY PROGRAM, IN A SANDBOX (cutbox-rows.mjs): the forced cells as the released guide's own fill.sh prints them over the translation b825dc45f2840330… (all of the seat's roots in one cut). By AI agents, Wed Nov 11 2026. No macro, syntax, notation, axiom, sorry.
-/
import Derived.Test.YtmgneincjfhaoaaGreatChecked
import GoSem.Claim
import GoSem.ClaimJoined
import GoSem.ClaimMapViews
import Derived.JoinedTies
import Derived.KernelRfl
namespace Go.Proofs.YtmgneincjfhaoaaGreat
/- THE CELL 'sum', in the pinned program and in every row, IS THE sha256 OF THE DUMP (.gsa) THAT YtmgneincjfhaoaaGreatProg.lean LOADS. Nothing in Lean hashes anything: it is a label: what it is worth is what the hold of that sum in a sandbox is worth. -/
noncomputable def Tryz.pinned : Pinned := { name := "ytmgneincjfhaoaagreat", sum := "b825dc45f2840330fa8c01b88a31b44d7f6dafd705522a478ce13a9ee8fe391e", checked := Tryz.checked }
namespace Rows
def none {H : Type} : Left H := { results := [], args := [] }

/-- 'seneschallaw26.MasterPlays': WHATEVER THE INPUT: true; the input reads as it did. -/
def masterPlaysSpec : ChangeSpec := { name := "masterPlays", fn := fun _ => fun
  | [d1, d2, d3] => { results := [.lit (.bool true)], args := [d1, d2, d3] }
  | _ => none }
def masterPlaysRow : OpenClaim := { program := "ytmgneincjfhaoaagreat", sum := "b825dc45f2840330fa8c01b88a31b44d7f6dafd705522a478ce13a9ee8fe391e", func := "seneschal/seneschallaw26.MasterPlays", spec := "masterPlays", unfollowed := true, recurses := true, plainKeys := false, apart := false }
def MasterPlaysSaid : Prop := masterPlaysRow.holds Tryz.pinned (OpenSpec.ofChange masterPlaysSpec)

/-- ITS FALSE NEIGHBOUR: 'it returns false'. Refute it at one input. -/
def masterPlaysWrong : ChangeSpec := { name := "masterPlays", fn := fun _ => fun
  | [d1, d2, d3] => { results := [.lit (.bool false)], args := [d1, d2, d3] }
  | _ => none }
def MasterPlaysWrongFalsely : Prop := masterPlaysRow.holds Tryz.pinned (OpenSpec.ofChange masterPlaysWrong)

/-- 'seneschallaw26.MasterNil': WHATEVER THE INPUT: true; the input reads as it did. -/
def masterNilSpec : ChangeSpec := { name := "masterNil", fn := fun _ => fun
  | [d1, d2] => { results := [.lit (.bool true)], args := [d1, d2] }
  | _ => none }
def masterNilRow : OpenClaim := { program := "ytmgneincjfhaoaagreat", sum := "b825dc45f2840330fa8c01b88a31b44d7f6dafd705522a478ce13a9ee8fe391e", func := "seneschal/seneschallaw26.MasterNil", spec := "masterNil", unfollowed := true, recurses := true, plainKeys := false, apart := false }
def MasterNilSaid : Prop := masterNilRow.holds Tryz.pinned (OpenSpec.ofChange masterNilSpec)

/-- ITS FALSE NEIGHBOUR: 'it returns false'. Refute it at one input. -/
def masterNilWrong : ChangeSpec := { name := "masterNil", fn := fun _ => fun
  | [d1, d2] => { results := [.lit (.bool false)], args := [d1, d2] }
  | _ => none }
def MasterNilWrongFalsely : Prop := masterNilRow.holds Tryz.pinned (OpenSpec.ofChange masterNilWrong)

/-- 'seneschallaw26.MasterTells': WHATEVER THE INPUT: true; the input reads as it did. -/
def masterTellsSpec : ChangeSpec := { name := "masterTells", fn := fun _ => fun
  | [d1, d2, d3] => { results := [.lit (.bool true)], args := [d1, d2, d3] }
  | _ => none }
def masterTellsRow : OpenClaim := { program := "ytmgneincjfhaoaagreat", sum := "b825dc45f2840330fa8c01b88a31b44d7f6dafd705522a478ce13a9ee8fe391e", func := "seneschal/seneschallaw26.MasterTells", spec := "masterTells", unfollowed := true, recurses := true, plainKeys := false, apart := false }
def MasterTellsSaid : Prop := masterTellsRow.holds Tryz.pinned (OpenSpec.ofChange masterTellsSpec)

/-- ITS FALSE NEIGHBOUR: 'it returns false'. Refute it at one input. -/
def masterTellsWrong : ChangeSpec := { name := "masterTells", fn := fun _ => fun
  | [d1, d2, d3] => { results := [.lit (.bool false)], args := [d1, d2, d3] }
  | _ => none }
def MasterTellsWrongFalsely : Prop := masterTellsRow.holds Tryz.pinned (OpenSpec.ofChange masterTellsWrong)

/-- 'seneschallaw26.MasterKeeps': WHATEVER THE INPUT: true; the input reads as it did. -/
def masterKeepsSpec : ChangeSpec := { name := "masterKeeps", fn := fun _ => fun
  | [d1, d2, d3] => { results := [.lit (.bool true)], args := [d1, d2, d3] }
  | _ => none }
def masterKeepsRow : OpenClaim := { program := "ytmgneincjfhaoaagreat", sum := "b825dc45f2840330fa8c01b88a31b44d7f6dafd705522a478ce13a9ee8fe391e", func := "seneschal/seneschallaw26.MasterKeeps", spec := "masterKeeps", unfollowed := true, recurses := true, plainKeys := false, apart := false }
def MasterKeepsSaid : Prop := masterKeepsRow.holds Tryz.pinned (OpenSpec.ofChange masterKeepsSpec)

/-- ITS FALSE NEIGHBOUR: 'it returns false'. Refute it at one input. -/
def masterKeepsWrong : ChangeSpec := { name := "masterKeeps", fn := fun _ => fun
  | [d1, d2, d3] => { results := [.lit (.bool false)], args := [d1, d2, d3] }
  | _ => none }
def MasterKeepsWrongFalsely : Prop := masterKeepsRow.holds Tryz.pinned (OpenSpec.ofChange masterKeepsWrong)

/- THE SECOND FORM. 'bulk': how many values and letters a reading holds, each counted each time it is reached (what is shared counts as often as it is met; a slice's spare places count too). A statement '..UptoSaid' is the law's where the arguments, and the package variables that the reading takes, are together of bulk at most 1048576: NARROWER than '..Said'. Prove '..Said' where nothing that the law and all that it calls make is longer than what came in: it says more and counts as full. Else prove '..UptoSaid'. A law counts once. -/
mutual
def uptoBulk {H : Type} : DataW H → Nat
  | .lit (.string bytes) => bytes.length + 1
  | .lit _ => 1
  | .nil => 1
  | .ptr d => uptoBulk d + 1
  | .slice elems spare => uptoBulkAll elems + uptoBulkAll spare + 1
  | .agg parts => uptoBulkAll parts + 1
  | .iface _ d => uptoBulk d + 1
  | .map entries => uptoBulkEntries entries + 1
  | .held _ => 1
def uptoBulkAll {H : Type} : List (DataW H) → Nat
  | [] => 0
  | d :: r => uptoBulk d + uptoBulkAll r
def uptoBulkEntries {H : Type} : List (Lit × DataW H) → Nat
  | [] => 0
  | x :: r => uptoBulkEntry x + uptoBulkEntries r
def uptoBulkEntry {H : Type} : Lit × DataW H → Nat
  | (.string bytes, d) => bytes.length + uptoBulk d + 1
  | (_, d) => uptoBulk d + 1
 end
def uptoSmall : (H : Type) → List (DataW H) → Bool := fun _ ds => decide (uptoBulkAll ds ≤ 1048576)
def OpenSpec.upto (s : _root_.Go.ChangeSpec) : _root_.Go.OpenSpec := { _root_.Go.OpenSpec.ofChange s with cond := some uptoSmall }

/-- 'seneschallaw26.MasterPlays', WHERE WHAT IT READS IS OF BULK AT MOST 1048576: true; the input reads as it did. -/
def masterPlaysUptoRow : OpenClaim := { program := "ytmgneincjfhaoaagreat", sum := "b825dc45f2840330fa8c01b88a31b44d7f6dafd705522a478ce13a9ee8fe391e", func := "seneschal/seneschallaw26.MasterPlays", spec := "masterPlays", unfollowed := true, recurses := true, plainKeys := false, apart := false, narrowed := true }
def MasterPlaysUptoSaid : Prop := masterPlaysUptoRow.holds Tryz.pinned (OpenSpec.upto masterPlaysSpec)

/-- 'seneschallaw26.MasterNil', WHERE WHAT IT READS IS OF BULK AT MOST 1048576: true; the input reads as it did. -/
def masterNilUptoRow : OpenClaim := { program := "ytmgneincjfhaoaagreat", sum := "b825dc45f2840330fa8c01b88a31b44d7f6dafd705522a478ce13a9ee8fe391e", func := "seneschal/seneschallaw26.MasterNil", spec := "masterNil", unfollowed := true, recurses := true, plainKeys := false, apart := false, narrowed := true }
def MasterNilUptoSaid : Prop := masterNilUptoRow.holds Tryz.pinned (OpenSpec.upto masterNilSpec)

/-- 'seneschallaw26.MasterTells', WHERE WHAT IT READS IS OF BULK AT MOST 1048576: true; the input reads as it did. -/
def masterTellsUptoRow : OpenClaim := { program := "ytmgneincjfhaoaagreat", sum := "b825dc45f2840330fa8c01b88a31b44d7f6dafd705522a478ce13a9ee8fe391e", func := "seneschal/seneschallaw26.MasterTells", spec := "masterTells", unfollowed := true, recurses := true, plainKeys := false, apart := false, narrowed := true }
def MasterTellsUptoSaid : Prop := masterTellsUptoRow.holds Tryz.pinned (OpenSpec.upto masterTellsSpec)

/-- 'seneschallaw26.MasterKeeps', WHERE WHAT IT READS IS OF BULK AT MOST 1048576: true; the input reads as it did. -/
def masterKeepsUptoRow : OpenClaim := { program := "ytmgneincjfhaoaagreat", sum := "b825dc45f2840330fa8c01b88a31b44d7f6dafd705522a478ce13a9ee8fe391e", func := "seneschal/seneschallaw26.MasterKeeps", spec := "masterKeeps", unfollowed := true, recurses := true, plainKeys := false, apart := false, narrowed := true }
def MasterKeepsUptoSaid : Prop := masterKeepsUptoRow.holds Tryz.pinned (OpenSpec.upto masterKeepsSpec)

end Rows
end Go.Proofs.YtmgneincjfhaoaaGreat
