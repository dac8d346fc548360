/-
  No cell of these rows narrows 'for every input' (looked for: loops, veiled, ifaces, maps, wideKeys, modest, calm, conditions, laid).
  DERIVED. THE GIVEN ROWS OF THIS SEAT. 6 by the template 'for every input the law returns true; each argument reads behind the call as it read before'; 0 by the template 'total and deterministic' (their statements: YtnjfchigdpifmaaTotals.lean).
  GIVEN WITH THE SEED: the statements are not yours to turn. If you find one false, say at which input.
  Laid BY PROGRAM, IN A SANDBOX (cutbox-rows.mjs): the forced cells as the released guide's own fill.sh prints them over the translation 27d1b8bd4cdeb39d… (all of the seat's roots in one cut). By AI agents, Wed Nov 11 2026. No macro, syntax, notation, axiom, sorry.
-/
import Derived.Test.YtnjfchigdpifmaaChecked
import GoSem.Claim
import GoSem.ClaimJoined
import GoSem.ClaimMapViews
import Derived.JoinedTies
import Derived.KernelRfl
namespace Go.Proofs.Ytnjfchigdpifmaa
/- THE CELL 'sum', in the pinned program and in every row, IS THE sha256 OF THE DUMP (.gsa) THAT YtnjfchigdpifmaaProg.lean LOADS. Nothing in Lean hashes anything: it is a label: what it is worth is what the hold of that sum in a sandbox is worth. -/
noncomputable def Try.pinned : Pinned := { name := "ytnjfchigdpifmaa", sum := "27d1b8bd4cdeb39d22fde03f8a8217c64a1f8638cc7bd55f7968b1e47b4ca2fb", checked := Try.checked }
namespace Rows
def none {H : Type} : Left H := { results := [], args := [] }

/-- 'seneschallaw19.LinkParse': WHATEVER THE INPUT: true; the input reads as it did. -/
def linkParseSpec : ChangeSpec := { name := "linkParse", fn := fun _ => fun
  | [d] => { results := [.lit (.bool true)], args := [d] }
  | _ => none }
def linkParseRow : OpenClaim := { program := "ytnjfchigdpifmaa", sum := "27d1b8bd4cdeb39d22fde03f8a8217c64a1f8638cc7bd55f7968b1e47b4ca2fb", func := "seneschal/seneschallaw19.LinkParse", spec := "linkParse", unfollowed := true, recurses := true, plainKeys := false, apart := false }
def LinkParseSaid : Prop := linkParseRow.holds Try.pinned (OpenSpec.ofChange linkParseSpec)

/-- ITS FALSE NEIGHBOUR: 'it returns false'. Refute it at one input. -/
def linkParseWrong : ChangeSpec := { name := "linkParse", fn := fun _ => fun
  | [d] => { results := [.lit (.bool false)], args := [d] }
  | _ => none }
def LinkParseWrongFalsely : Prop := linkParseRow.holds Try.pinned (OpenSpec.ofChange linkParseWrong)

/-- 'seneschallaw19.LinkSeal': WHATEVER THE INPUT: true; the input reads as it did. -/
def linkSealSpec : ChangeSpec := { name := "linkSeal", fn := fun _ => fun
  | [d1, d2] => { results := [.lit (.bool true)], args := [d1, d2] }
  | _ => none }
def linkSealRow : OpenClaim := { program := "ytnjfchigdpifmaa", sum := "27d1b8bd4cdeb39d22fde03f8a8217c64a1f8638cc7bd55f7968b1e47b4ca2fb", func := "seneschal/seneschallaw19.LinkSeal", spec := "linkSeal", unfollowed := true, recurses := true, plainKeys := false, apart := false }
def LinkSealSaid : Prop := linkSealRow.holds Try.pinned (OpenSpec.ofChange linkSealSpec)

/-- ITS FALSE NEIGHBOUR: 'it returns false'. Refute it at one input. -/
def linkSealWrong : ChangeSpec := { name := "linkSeal", fn := fun _ => fun
  | [d1, d2] => { results := [.lit (.bool false)], args := [d1, d2] }
  | _ => none }
def LinkSealWrongFalsely : Prop := linkSealRow.holds Try.pinned (OpenSpec.ofChange linkSealWrong)

/-- 'seneschallaw19.LinkOnce': WHATEVER THE INPUT: true; the input reads as it did. -/
def linkOnceSpec : ChangeSpec := { name := "linkOnce", fn := fun _ => fun
  | [d1, d2, d3] => { results := [.lit (.bool true)], args := [d1, d2, d3] }
  | _ => none }
def linkOnceRow : OpenClaim := { program := "ytnjfchigdpifmaa", sum := "27d1b8bd4cdeb39d22fde03f8a8217c64a1f8638cc7bd55f7968b1e47b4ca2fb", func := "seneschal/seneschallaw19.LinkOnce", spec := "linkOnce", unfollowed := true, recurses := true, plainKeys := false, apart := false }
def LinkOnceSaid : Prop := linkOnceRow.holds Try.pinned (OpenSpec.ofChange linkOnceSpec)

/-- ITS FALSE NEIGHBOUR: 'it returns false'. Refute it at one input. -/
def linkOnceWrong : ChangeSpec := { name := "linkOnce", fn := fun _ => fun
  | [d1, d2, d3] => { results := [.lit (.bool false)], args := [d1, d2, d3] }
  | _ => none }
def LinkOnceWrongFalsely : Prop := linkOnceRow.holds Try.pinned (OpenSpec.ofChange linkOnceWrong)

/-- 'seneschallaw19.LinkBack': WHATEVER THE INPUT: true; the input reads as it did. -/
def linkBackSpec : ChangeSpec := { name := "linkBack", fn := fun _ => fun
  | [d1, d2] => { results := [.lit (.bool true)], args := [d1, d2] }
  | _ => none }
def linkBackRow : OpenClaim := { program := "ytnjfchigdpifmaa", sum := "27d1b8bd4cdeb39d22fde03f8a8217c64a1f8638cc7bd55f7968b1e47b4ca2fb", func := "seneschal/seneschallaw19.LinkBack", spec := "linkBack", unfollowed := true, recurses := true, plainKeys := false, apart := false }
def LinkBackSaid : Prop := linkBackRow.holds Try.pinned (OpenSpec.ofChange linkBackSpec)

/-- ITS FALSE NEIGHBOUR: 'it returns false'. Refute it at one input. -/
def linkBackWrong : ChangeSpec := { name := "linkBack", fn := fun _ => fun
  | [d1, d2] => { results := [.lit (.bool false)], args := [d1, d2] }
  | _ => none }
def LinkBackWrongFalsely : Prop := linkBackRow.holds Try.pinned (OpenSpec.ofChange linkBackWrong)

/-- 'seneschallaw19.LinkBoots': WHATEVER THE INPUT: true; the input reads as it did. -/
def linkBootsSpec : ChangeSpec := { name := "linkBoots", fn := fun _ => fun
  | [d1, d2, d3, d4] => { results := [.lit (.bool true)], args := [d1, d2, d3, d4] }
  | _ => none }
def linkBootsRow : OpenClaim := { program := "ytnjfchigdpifmaa", sum := "27d1b8bd4cdeb39d22fde03f8a8217c64a1f8638cc7bd55f7968b1e47b4ca2fb", func := "seneschal/seneschallaw19.LinkBoots", spec := "linkBoots", unfollowed := true, recurses := true, plainKeys := false, apart := false }
def LinkBootsSaid : Prop := linkBootsRow.holds Try.pinned (OpenSpec.ofChange linkBootsSpec)

/-- ITS FALSE NEIGHBOUR: 'it returns false'. Refute it at one input. -/
def linkBootsWrong : ChangeSpec := { name := "linkBoots", fn := fun _ => fun
  | [d1, d2, d3, d4] => { results := [.lit (.bool false)], args := [d1, d2, d3, d4] }
  | _ => none }
def LinkBootsWrongFalsely : Prop := linkBootsRow.holds Try.pinned (OpenSpec.ofChange linkBootsWrong)

/-- 'seneschallaw19.LinkNil': WHATEVER THE INPUT: true; the input reads as it did. -/
def linkNilSpec : ChangeSpec := { name := "linkNil", fn := fun _ => fun
  | [d] => { results := [.lit (.bool true)], args := [d] }
  | _ => none }
def linkNilRow : OpenClaim := { program := "ytnjfchigdpifmaa", sum := "27d1b8bd4cdeb39d22fde03f8a8217c64a1f8638cc7bd55f7968b1e47b4ca2fb", func := "seneschal/seneschallaw19.LinkNil", spec := "linkNil", unfollowed := true, recurses := true, plainKeys := false, apart := false }
def LinkNilSaid : Prop := linkNilRow.holds Try.pinned (OpenSpec.ofChange linkNilSpec)

/-- ITS FALSE NEIGHBOUR: 'it returns false'. Refute it at one input. -/
def linkNilWrong : ChangeSpec := { name := "linkNil", fn := fun _ => fun
  | [d] => { results := [.lit (.bool false)], args := [d] }
  | _ => none }
def LinkNilWrongFalsely : Prop := linkNilRow.holds Try.pinned (OpenSpec.ofChange linkNilWrong)

/- THE SECOND FORM. 'bulk': how many values and letters a reading holds, each counted each time it is reached (what is shared counts as often as it is met; a slice's spare places count too). A statement '..UptoSaid' is the law's where the arguments, and the package variables that the reading takes, are together of bulk at most 1048576: NARROWER than '..Said'. Prove '..Said' where nothing that the law and all that it calls make is longer than what came in: it says more and counts as full. Else prove '..UptoSaid'. A law counts once. -/
mutual
def uptoBulk {H : Type} : DataW H → Nat
  | .lit (.string bytes) => bytes.length + 1
  | .lit _ => 1
  | .nil => 1
  | .ptr d => uptoBulk d + 1
  | .slice elems spare => uptoBulkAll elems + uptoBulkAll spare + 1
  | .agg parts => uptoBulkAll parts + 1
  | .iface _ d => uptoBulk d + 1
  | .map entries => uptoBulkEntries entries + 1
  | .held _ => 1
def uptoBulkAll {H : Type} : List (DataW H) → Nat
  | [] => 0
  | d :: r => uptoBulk d + uptoBulkAll r
def uptoBulkEntries {H : Type} : List (Lit × DataW H) → Nat
  | [] => 0
  | x :: r => uptoBulkEntry x + uptoBulkEntries r
def uptoBulkEntry {H : Type} : Lit × DataW H → Nat
  | (.string bytes, d) => bytes.length + uptoBulk d + 1
  | (_, d) => uptoBulk d + 1
 end
def uptoSmall : (H : Type) → List (DataW H) → Bool := fun _ ds => decide (uptoBulkAll ds ≤ 1048576)
def OpenSpec.upto (s : _root_.Go.ChangeSpec) : _root_.Go.OpenSpec := { _root_.Go.OpenSpec.ofChange s with cond := some uptoSmall }

/-- 'seneschallaw19.LinkParse', WHERE WHAT IT READS IS OF BULK AT MOST 1048576: true; the input reads as it did. -/
def linkParseUptoRow : OpenClaim := { program := "ytnjfchigdpifmaa", sum := "27d1b8bd4cdeb39d22fde03f8a8217c64a1f8638cc7bd55f7968b1e47b4ca2fb", func := "seneschal/seneschallaw19.LinkParse", spec := "linkParse", unfollowed := true, recurses := true, plainKeys := false, apart := false, narrowed := true }
def LinkParseUptoSaid : Prop := linkParseUptoRow.holds Try.pinned (OpenSpec.upto linkParseSpec)

/-- 'seneschallaw19.LinkSeal', WHERE WHAT IT READS IS OF BULK AT MOST 1048576: true; the input reads as it did. -/
def linkSealUptoRow : OpenClaim := { program := "ytnjfchigdpifmaa", sum := "27d1b8bd4cdeb39d22fde03f8a8217c64a1f8638cc7bd55f7968b1e47b4ca2fb", func := "seneschal/seneschallaw19.LinkSeal", spec := "linkSeal", unfollowed := true, recurses := true, plainKeys := false, apart := false, narrowed := true }
def LinkSealUptoSaid : Prop := linkSealUptoRow.holds Try.pinned (OpenSpec.upto linkSealSpec)

/-- 'seneschallaw19.LinkOnce', WHERE WHAT IT READS IS OF BULK AT MOST 1048576: true; the input reads as it did. -/
def linkOnceUptoRow : OpenClaim := { program := "ytnjfchigdpifmaa", sum := "27d1b8bd4cdeb39d22fde03f8a8217c64a1f8638cc7bd55f7968b1e47b4ca2fb", func := "seneschal/seneschallaw19.LinkOnce", spec := "linkOnce", unfollowed := true, recurses := true, plainKeys := false, apart := false, narrowed := true }
def LinkOnceUptoSaid : Prop := linkOnceUptoRow.holds Try.pinned (OpenSpec.upto linkOnceSpec)

/-- 'seneschallaw19.LinkBack', WHERE WHAT IT READS IS OF BULK AT MOST 1048576: true; the input reads as it did. -/
def linkBackUptoRow : OpenClaim := { program := "ytnjfchigdpifmaa", sum := "27d1b8bd4cdeb39d22fde03f8a8217c64a1f8638cc7bd55f7968b1e47b4ca2fb", func := "seneschal/seneschallaw19.LinkBack", spec := "linkBack", unfollowed := true, recurses := true, plainKeys := false, apart := false, narrowed := true }
def LinkBackUptoSaid : Prop := linkBackUptoRow.holds Try.pinned (OpenSpec.upto linkBackSpec)

/-- 'seneschallaw19.LinkBoots', WHERE WHAT IT READS IS OF BULK AT MOST 1048576: true; the input reads as it did. -/
def linkBootsUptoRow : OpenClaim := { program := "ytnjfchigdpifmaa", sum := "27d1b8bd4cdeb39d22fde03f8a8217c64a1f8638cc7bd55f7968b1e47b4ca2fb", func := "seneschal/seneschallaw19.LinkBoots", spec := "linkBoots", unfollowed := true, recurses := true, plainKeys := false, apart := false, narrowed := true }
def LinkBootsUptoSaid : Prop := linkBootsUptoRow.holds Try.pinned (OpenSpec.upto linkBootsSpec)

/-- 'seneschallaw19.LinkNil', WHERE WHAT IT READS IS OF BULK AT MOST 1048576: true; the input reads as it did. -/
def linkNilUptoRow : OpenClaim := { program := "ytnjfchigdpifmaa", sum := "27d1b8bd4cdeb39d22fde03f8a8217c64a1f8638cc7bd55f7968b1e47b4ca2fb", func := "seneschal/seneschallaw19.LinkNil", spec := "linkNil", unfollowed := true, recurses := true, plainKeys := false, apart := false, narrowed := true }
def LinkNilUptoSaid : Prop := linkNilUptoRow.holds Try.pinned (OpenSpec.upto linkNilSpec)

end Rows
end Go.Proofs.Ytnjfchigdpifmaa
