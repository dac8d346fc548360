/-
  No cell of these rows narrows 'for every input' (looked for: loops, veiled, ifaces, maps, wideKeys, modest, calm, conditions, laid).
  DERIVED. THE GIVEN ROWS OF THIS SEAT. 8 by the template 'for every input the law returns true; each argument reads behind the call as it read before'; 0 by the template 'total and deterministic' (their statements: YtkdbedbefojieaaTotals.lean).
  GIVEN WITH THE SEED: the statements are not yours to turn. If you find one false, say at which input.
  Laid BY PROGRAM, IN A SANDBOX (cutbox-rows.mjs): the forced cells as the released guide's own fill.sh prints them over the translation 2b70269249f9ef13… (all of the seat's roots in one cut). By AI agents, Wed Nov 11 2026. No macro, syntax, notation, axiom, sorry.
-/
import Derived.Test.YtkdbedbefojieaaChecked
import GoSem.Claim
import GoSem.ClaimJoined
import GoSem.ClaimMapViews
import Derived.JoinedTies
import Derived.KernelRfl
namespace Go.Proofs.Ytkdbedbefojieaa
/- THE CELL 'sum', in the pinned program and in every row, IS THE sha256 OF THE DUMP (.gsa) THAT YtkdbedbefojieaaProg.lean LOADS. Nothing in Lean hashes anything: it is a label: what it is worth is what the hold of that sum in a sandbox is worth. -/
noncomputable def Try.pinned : Pinned := { name := "ytkdbedbefojieaa", sum := "2b70269249f9ef137f85546a6e09f3621123adea5a33864a9260dcf6654c8311", checked := Try.checked }
namespace Rows
def none {H : Type} : Left H := { results := [], args := [] }

/-- 'seneschallaw24.OverOver': WHATEVER THE INPUT: true; the input reads as it did. -/
def overOverSpec : ChangeSpec := { name := "overOver", fn := fun _ => fun
  | [d1, d2, d3, d4, d5] => { results := [.lit (.bool true)], args := [d1, d2, d3, d4, d5] }
  | _ => none }
def overOverRow : OpenClaim := { program := "ytkdbedbefojieaa", sum := "2b70269249f9ef137f85546a6e09f3621123adea5a33864a9260dcf6654c8311", func := "seneschal/seneschallaw24.OverOver", spec := "overOver", unfollowed := true, recurses := true, apart := false }
def OverOverSaid : Prop := overOverRow.holds Try.pinned (OpenSpec.ofChange overOverSpec)

/-- ITS FALSE NEIGHBOUR: 'it returns false'. Refute it at one input. -/
def overOverWrong : ChangeSpec := { name := "overOver", fn := fun _ => fun
  | [d1, d2, d3, d4, d5] => { results := [.lit (.bool false)], args := [d1, d2, d3, d4, d5] }
  | _ => none }
def OverOverWrongFalsely : Prop := overOverRow.holds Try.pinned (OpenSpec.ofChange overOverWrong)

/-- 'seneschallaw24.OverLives': WHATEVER THE INPUT: true; the input reads as it did. -/
def overLivesSpec : ChangeSpec := { name := "overLives", fn := fun _ => fun
  | [d1, d2] => { results := [.lit (.bool true)], args := [d1, d2] }
  | _ => none }
def overLivesRow : OpenClaim := { program := "ytkdbedbefojieaa", sum := "2b70269249f9ef137f85546a6e09f3621123adea5a33864a9260dcf6654c8311", func := "seneschal/seneschallaw24.OverLives", spec := "overLives", unfollowed := true, recurses := true, apart := false }
def OverLivesSaid : Prop := overLivesRow.holds Try.pinned (OpenSpec.ofChange overLivesSpec)

/-- ITS FALSE NEIGHBOUR: 'it returns false'. Refute it at one input. -/
def overLivesWrong : ChangeSpec := { name := "overLives", fn := fun _ => fun
  | [d1, d2] => { results := [.lit (.bool false)], args := [d1, d2] }
  | _ => none }
def OverLivesWrongFalsely : Prop := overLivesRow.holds Try.pinned (OpenSpec.ofChange overLivesWrong)

/-- 'seneschallaw24.OverRises': WHATEVER THE INPUT: true; the input reads as it did. -/
def overRisesSpec : ChangeSpec := { name := "overRises", fn := fun _ => fun
  | [d1, d2, d3] => { results := [.lit (.bool true)], args := [d1, d2, d3] }
  | _ => none }
def overRisesRow : OpenClaim := { program := "ytkdbedbefojieaa", sum := "2b70269249f9ef137f85546a6e09f3621123adea5a33864a9260dcf6654c8311", func := "seneschal/seneschallaw24.OverRises", spec := "overRises", unfollowed := true, recurses := true, apart := false }
def OverRisesSaid : Prop := overRisesRow.holds Try.pinned (OpenSpec.ofChange overRisesSpec)

/-- ITS FALSE NEIGHBOUR: 'it returns false'. Refute it at one input. -/
def overRisesWrong : ChangeSpec := { name := "overRises", fn := fun _ => fun
  | [d1, d2, d3] => { results := [.lit (.bool false)], args := [d1, d2, d3] }
  | _ => none }
def OverRisesWrongFalsely : Prop := overRisesRow.holds Try.pinned (OpenSpec.ofChange overRisesWrong)

/-- 'seneschallaw24.OverPrint': WHATEVER THE INPUT: true; the input reads as it did. -/
def overPrintSpec : ChangeSpec := { name := "overPrint", fn := fun _ => fun
  | [d] => { results := [.lit (.bool true)], args := [d] }
  | _ => none }
def overPrintRow : OpenClaim := { program := "ytkdbedbefojieaa", sum := "2b70269249f9ef137f85546a6e09f3621123adea5a33864a9260dcf6654c8311", func := "seneschal/seneschallaw24.OverPrint", spec := "overPrint", unfollowed := true, recurses := true, apart := false }
def OverPrintSaid : Prop := overPrintRow.holds Try.pinned (OpenSpec.ofChange overPrintSpec)

/-- ITS FALSE NEIGHBOUR: 'it returns false'. Refute it at one input. -/
def overPrintWrong : ChangeSpec := { name := "overPrint", fn := fun _ => fun
  | [d] => { results := [.lit (.bool false)], args := [d] }
  | _ => none }
def OverPrintWrongFalsely : Prop := overPrintRow.holds Try.pinned (OpenSpec.ofChange overPrintWrong)

/-- 'seneschallaw24.OverPieces': WHATEVER THE INPUT: true; the input reads as it did. -/
def overPiecesSpec : ChangeSpec := { name := "overPieces", fn := fun _ => fun
  | [d1, d2] => { results := [.lit (.bool true)], args := [d1, d2] }
  | _ => none }
def overPiecesRow : OpenClaim := { program := "ytkdbedbefojieaa", sum := "2b70269249f9ef137f85546a6e09f3621123adea5a33864a9260dcf6654c8311", func := "seneschal/seneschallaw24.OverPieces", spec := "overPieces", unfollowed := true, recurses := true, apart := false }
def OverPiecesSaid : Prop := overPiecesRow.holds Try.pinned (OpenSpec.ofChange overPiecesSpec)

/-- ITS FALSE NEIGHBOUR: 'it returns false'. Refute it at one input. -/
def overPiecesWrong : ChangeSpec := { name := "overPieces", fn := fun _ => fun
  | [d1, d2] => { results := [.lit (.bool false)], args := [d1, d2] }
  | _ => none }
def OverPiecesWrongFalsely : Prop := overPiecesRow.holds Try.pinned (OpenSpec.ofChange overPiecesWrong)

/-- 'seneschallaw24.OverDrops': WHATEVER THE INPUT: true; the input reads as it did. -/
def overDropsSpec : ChangeSpec := { name := "overDrops", fn := fun _ => fun
  | [d1, d2, d3] => { results := [.lit (.bool true)], args := [d1, d2, d3] }
  | _ => none }
def overDropsRow : OpenClaim := { program := "ytkdbedbefojieaa", sum := "2b70269249f9ef137f85546a6e09f3621123adea5a33864a9260dcf6654c8311", func := "seneschal/seneschallaw24.OverDrops", spec := "overDrops", unfollowed := true, recurses := true, apart := false }
def OverDropsSaid : Prop := overDropsRow.holds Try.pinned (OpenSpec.ofChange overDropsSpec)

/-- ITS FALSE NEIGHBOUR: 'it returns false'. Refute it at one input. -/
def overDropsWrong : ChangeSpec := { name := "overDrops", fn := fun _ => fun
  | [d1, d2, d3] => { results := [.lit (.bool false)], args := [d1, d2, d3] }
  | _ => none }
def OverDropsWrongFalsely : Prop := overDropsRow.holds Try.pinned (OpenSpec.ofChange overDropsWrong)

/-- 'seneschallaw24.OverParse': WHATEVER THE INPUT: true; the input reads as it did. -/
def overParseSpec : ChangeSpec := { name := "overParse", fn := fun _ => fun
  | [d] => { results := [.lit (.bool true)], args := [d] }
  | _ => none }
def overParseRow : OpenClaim := { program := "ytkdbedbefojieaa", sum := "2b70269249f9ef137f85546a6e09f3621123adea5a33864a9260dcf6654c8311", func := "seneschal/seneschallaw24.OverParse", spec := "overParse", unfollowed := true, recurses := true, apart := false }
def OverParseSaid : Prop := overParseRow.holds Try.pinned (OpenSpec.ofChange overParseSpec)

/-- ITS FALSE NEIGHBOUR: 'it returns false'. Refute it at one input. -/
def overParseWrong : ChangeSpec := { name := "overParse", fn := fun _ => fun
  | [d] => { results := [.lit (.bool false)], args := [d] }
  | _ => none }
def OverParseWrongFalsely : Prop := overParseRow.holds Try.pinned (OpenSpec.ofChange overParseWrong)

/-- 'seneschallaw24.OverBack': WHATEVER THE INPUT: true; the input reads as it did. -/
def overBackSpec : ChangeSpec := { name := "overBack", fn := fun _ => fun
  | [d1, d2, d3] => { results := [.lit (.bool true)], args := [d1, d2, d3] }
  | _ => none }
def overBackRow : OpenClaim := { program := "ytkdbedbefojieaa", sum := "2b70269249f9ef137f85546a6e09f3621123adea5a33864a9260dcf6654c8311", func := "seneschal/seneschallaw24.OverBack", spec := "overBack", unfollowed := true, recurses := true, apart := false }
def OverBackSaid : Prop := overBackRow.holds Try.pinned (OpenSpec.ofChange overBackSpec)

/-- ITS FALSE NEIGHBOUR: 'it returns false'. Refute it at one input. -/
def overBackWrong : ChangeSpec := { name := "overBack", fn := fun _ => fun
  | [d1, d2, d3] => { results := [.lit (.bool false)], args := [d1, d2, d3] }
  | _ => none }
def OverBackWrongFalsely : Prop := overBackRow.holds Try.pinned (OpenSpec.ofChange overBackWrong)

/- THE SECOND FORM. 'bulk': how many values and letters a reading holds, each counted each time it is reached (what is shared counts as often as it is met; a slice's spare places count too). A statement '..UptoSaid' is the law's where the arguments, and the package variables that the reading takes, are together of bulk at most 1048576: NARROWER than '..Said'. Prove '..Said' where nothing that the law and all that it calls make is longer than what came in: it says more and counts as full. Else prove '..UptoSaid'. A law counts once. -/
mutual
def uptoBulk {H : Type} : DataW H → Nat
  | .lit (.string bytes) => bytes.length + 1
  | .lit _ => 1
  | .nil => 1
  | .ptr d => uptoBulk d + 1
  | .slice elems spare => uptoBulkAll elems + uptoBulkAll spare + 1
  | .agg parts => uptoBulkAll parts + 1
  | .iface _ d => uptoBulk d + 1
  | .map entries => uptoBulkEntries entries + 1
  | .held _ => 1
def uptoBulkAll {H : Type} : List (DataW H) → Nat
  | [] => 0
  | d :: r => uptoBulk d + uptoBulkAll r
def uptoBulkEntries {H : Type} : List (Lit × DataW H) → Nat
  | [] => 0
  | x :: r => uptoBulkEntry x + uptoBulkEntries r
def uptoBulkEntry {H : Type} : Lit × DataW H → Nat
  | (.string bytes, d) => bytes.length + uptoBulk d + 1
  | (_, d) => uptoBulk d + 1
 end
def uptoSmall : (H : Type) → List (DataW H) → Bool := fun _ ds => decide (uptoBulkAll ds ≤ 1048576)
def OpenSpec.upto (s : _root_.Go.ChangeSpec) : _root_.Go.OpenSpec := { _root_.Go.OpenSpec.ofChange s with cond := some uptoSmall }

/-- 'seneschallaw24.OverOver', WHERE WHAT IT READS IS OF BULK AT MOST 1048576: true; the input reads as it did. -/
def overOverUptoRow : OpenClaim := { program := "ytkdbedbefojieaa", sum := "2b70269249f9ef137f85546a6e09f3621123adea5a33864a9260dcf6654c8311", func := "seneschal/seneschallaw24.OverOver", spec := "overOver", unfollowed := true, recurses := true, apart := false, narrowed := true }
def OverOverUptoSaid : Prop := overOverUptoRow.holds Try.pinned (OpenSpec.upto overOverSpec)

/-- 'seneschallaw24.OverLives', WHERE WHAT IT READS IS OF BULK AT MOST 1048576: true; the input reads as it did. -/
def overLivesUptoRow : OpenClaim := { program := "ytkdbedbefojieaa", sum := "2b70269249f9ef137f85546a6e09f3621123adea5a33864a9260dcf6654c8311", func := "seneschal/seneschallaw24.OverLives", spec := "overLives", unfollowed := true, recurses := true, apart := false, narrowed := true }
def OverLivesUptoSaid : Prop := overLivesUptoRow.holds Try.pinned (OpenSpec.upto overLivesSpec)

/-- 'seneschallaw24.OverRises', WHERE WHAT IT READS IS OF BULK AT MOST 1048576: true; the input reads as it did. -/
def overRisesUptoRow : OpenClaim := { program := "ytkdbedbefojieaa", sum := "2b70269249f9ef137f85546a6e09f3621123adea5a33864a9260dcf6654c8311", func := "seneschal/seneschallaw24.OverRises", spec := "overRises", unfollowed := true, recurses := true, apart := false, narrowed := true }
def OverRisesUptoSaid : Prop := overRisesUptoRow.holds Try.pinned (OpenSpec.upto overRisesSpec)

/-- 'seneschallaw24.OverPrint', WHERE WHAT IT READS IS OF BULK AT MOST 1048576: true; the input reads as it did. -/
def overPrintUptoRow : OpenClaim := { program := "ytkdbedbefojieaa", sum := "2b70269249f9ef137f85546a6e09f3621123adea5a33864a9260dcf6654c8311", func := "seneschal/seneschallaw24.OverPrint", spec := "overPrint", unfollowed := true, recurses := true, apart := false, narrowed := true }
def OverPrintUptoSaid : Prop := overPrintUptoRow.holds Try.pinned (OpenSpec.upto overPrintSpec)

/-- 'seneschallaw24.OverPieces', WHERE WHAT IT READS IS OF BULK AT MOST 1048576: true; the input reads as it did. -/
def overPiecesUptoRow : OpenClaim := { program := "ytkdbedbefojieaa", sum := "2b70269249f9ef137f85546a6e09f3621123adea5a33864a9260dcf6654c8311", func := "seneschal/seneschallaw24.OverPieces", spec := "overPieces", unfollowed := true, recurses := true, apart := false, narrowed := true }
def OverPiecesUptoSaid : Prop := overPiecesUptoRow.holds Try.pinned (OpenSpec.upto overPiecesSpec)

/-- 'seneschallaw24.OverDrops', WHERE WHAT IT READS IS OF BULK AT MOST 1048576: true; the input reads as it did. -/
def overDropsUptoRow : OpenClaim := { program := "ytkdbedbefojieaa", sum := "2b70269249f9ef137f85546a6e09f3621123adea5a33864a9260dcf6654c8311", func := "seneschal/seneschallaw24.OverDrops", spec := "overDrops", unfollowed := true, recurses := true, apart := false, narrowed := true }
def OverDropsUptoSaid : Prop := overDropsUptoRow.holds Try.pinned (OpenSpec.upto overDropsSpec)

/-- 'seneschallaw24.OverParse', WHERE WHAT IT READS IS OF BULK AT MOST 1048576: true; the input reads as it did. -/
def overParseUptoRow : OpenClaim := { program := "ytkdbedbefojieaa", sum := "2b70269249f9ef137f85546a6e09f3621123adea5a33864a9260dcf6654c8311", func := "seneschal/seneschallaw24.OverParse", spec := "overParse", unfollowed := true, recurses := true, apart := false, narrowed := true }
def OverParseUptoSaid : Prop := overParseUptoRow.holds Try.pinned (OpenSpec.upto overParseSpec)

/-- 'seneschallaw24.OverBack', WHERE WHAT IT READS IS OF BULK AT MOST 1048576: true; the input reads as it did. -/
def overBackUptoRow : OpenClaim := { program := "ytkdbedbefojieaa", sum := "2b70269249f9ef137f85546a6e09f3621123adea5a33864a9260dcf6654c8311", func := "seneschal/seneschallaw24.OverBack", spec := "overBack", unfollowed := true, recurses := true, apart := false, narrowed := true }
def OverBackUptoSaid : Prop := overBackUptoRow.holds Try.pinned (OpenSpec.upto overBackSpec)

end Rows
end Go.Proofs.Ytkdbedbefojieaa
