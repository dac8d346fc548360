/-
  For every act (of bulk at most 1048576) the law NodeNil returns true, and its argument reads behind the call as it did. No other condition.
-/
import Derived.Test.YtdjngjjjdkdfkaaGreatZ1
import Derived.Test.YtdjngjjjdkdfkaaGreatZ2
import Derived.Test.YtdjngjjjdkdfkaaGreatZ3
namespace Go.Proofs.YtdjngjjjdkdfkaaGreat
set_option linter.unusedVariables false
set_option linter.unusedSimpArgs false
open Go.RowKit Go.ChangeShapes Go.WideShapes Go.ChangeAt Go.Deep
set_option maxRecDepth 100000
theorem nf0:Rows.nodeNilUptoRow.wf (OpenSpec.ofChange (Rows.OpenSpec.upto Rows.nodeNilSpec).bare)=true:=by kernel_rfl
theorem nf1:laidOutB Tryz.prog=true:=by kernel_rfl
theorem nf2:mapsRowed Tryz.prog=true:=by kernel_rfl
theorem nf3:(Tryz.f3.params.all (Tryz.prog.readableRec ·))=true:=by kernel_rfl
theorem nf4:namedTie Tryz.prog Rows.nodeNilUptoRow.named (Rows.OpenSpec.upto Rows.nodeNilSpec).bare.vars=true:=by kernel_rfl
theorem nf5:(Rows.nodeNilUptoRow.stops == [])=true:=by kernel_rfl
theorem nf6:(Tryz.prog.stops == [])=true:=by kernel_rfl
theorem nf7:(Rows.nodeNilUptoRow.knobs == [])=true:=by kernel_rfl
theorem nf8:(Tryz.prog.stopKnobs == [])=true:=by kernel_rfl
theorem nf9:(Rows.nodeNilUptoRow.inPlace == Tryz.prog.inPlace 3)=true:=by kernel_rfl
theorem nf10:(Rows.nodeNilUptoRow.unfollowed == Tryz.prog.unfollowed 3)=true:=by kernel_rfl
theorem nf11:(Rows.nodeNilUptoRow.recurses == Tryz.prog.recurses 3)=true:=by kernel_rfl
theorem nf12:(Rows.nodeNilUptoRow.named == Tryz.prog.varsNamed 3)=true:=by kernel_rfl
theorem nf13:(Rows.nodeNilUptoRow.maps == (Tryz.f3.params.toList ++ (Rows.OpenSpec.upto Rows.nodeNilSpec).bare.plain.varTypes Tryz.prog).any (Tryz.prog.mapsRec ·))=true:=by kernel_rfl
theorem nf14:(Rows.nodeNilUptoRow.ifaces == (Tryz.f3.params.toList ++ (Rows.OpenSpec.upto Rows.nodeNilSpec).bare.plain.varTypes Tryz.prog).any (Tryz.prog.ifacesRec ·))=true:=by kernel_rfl
theorem nf15:(Rows.nodeNilUptoRow.mapsOut == Tryz.prog.mapsAmong Tryz.f3.resultTypes.toList)=true:=by kernel_rfl
theorem nf16:(Rows.nodeNilUptoRow.loops == (Tryz.f3.params.toList ++ (Rows.OpenSpec.upto Rows.nodeNilSpec).bare.plain.varTypes Tryz.prog).any (Tryz.prog.loopsFrom ·))=true:=by kernel_rfl
theorem nf17:(Rows.nodeNilUptoRow.wideKeys == (Tryz.f3.params.toList ++ (Rows.OpenSpec.upto Rows.nodeNilSpec).bare.plain.varTypes Tryz.prog ++ Tryz.f3.resultTypes.toList).any (Tryz.prog.wideKeysFrom ·))=true:=by kernel_rfl
theorem nf18:((Rows.OpenSpec.upto Rows.nodeNilSpec).bare.vars.all (Tryz.prog.varReadable ·))=true:=by kernel_rfl
theorem nf19:(Tryz.f3.resultTypes.all (fun t=>Tryz.prog.readableRec t && decide (t < Tryz.prog.types.size)))=true:=by kernel_rfl
theorem nf20:(Rows.nodeNilUptoRow.ifacesOut == Tryz.f3.resultTypes.toList.any (Tryz.prog.ifacesRec ·))=true:=by kernel_rfl
theorem nf21:(Rows.nodeNilUptoRow.loopsOut == Tryz.f3.resultTypes.toList.any (Tryz.prog.loopsFrom ·))=true:=by kernel_rfl
theorem nf22:(Rows.nodeNilUptoRow.plainKeys == Tryz.prog.plainKeys)=true:=by kernel_rfl
theorem nf23:Rows.nodeNilUptoRow.shortTexts.isNone=true:=by kernel_rfl
theorem nf24:Tryz.prog.stopsHeard=true:=by kernel_rfl
theorem nf25:Tryz.prog.mayEnter=true:=by kernel_rfl
theorem nf26:(Rows.nodeNilUptoRow.lifted == Tryz.prog.liftsFinal)=true:=by kernel_rfl
theorem nf27:(Tryz.prog.make == some Rows.nodeNilUptoRow.make)=true:=by kernel_rfl
theorem nf28:(Rows.nodeNilUptoRow.kinds == (if Rows.nodeNilUptoRow.domain.isEmpty then [] else Tryz.f3.params.toList.map fun t=>match Tryz.prog.underlying t with|some (.int k)=>some k | _=>none))=true:=by kernel_rfl
theorem nf29:(Rows.nodeNilUptoRow.pinned == Rows.nodeNilUptoRow.pinnedBy)=true:=by kernel_rfl
theorem nf30:(Rows.nodeNilUptoRow.veiled == (Tryz.f3.params.toList ++ (Rows.OpenSpec.upto Rows.nodeNilSpec).bare.plain.varTypes Tryz.prog ++ Tryz.f3.resultTypes.toList).any (Tryz.prog.veiledRec ·))=true:=by kernel_rfl
theorem nf31:Rows.nodeNilUptoRow.veiledFits Tryz.prog Tryz.f3.params.toList (Tryz.f3.params.toList ++ (Rows.OpenSpec.upto Rows.nodeNilSpec).bare.plain.varTypes Tryz.prog ++ Tryz.f3.resultTypes.toList)=true:=by kernel_rfl
theorem nodeNil_closed:joinedFacts Tryz.prog 3 Tryz.f3 (Rows.OpenSpec.upto Rows.nodeNilSpec).bare Rows.nodeNilUptoRow=true:=by
  unfold joinedFacts
  simp only [Bool.and_eq_true]
  exact ⟨⟨⟨⟨⟨⟨⟨⟨⟨⟨⟨⟨⟨⟨⟨⟨⟨⟨⟨⟨⟨⟨⟨⟨⟨⟨⟨⟨⟨⟨⟨nf0,nf1⟩,nf2⟩,nf3⟩,nf4⟩,nf5⟩,nf6⟩,nf7⟩,nf8⟩,nf9⟩,nf10⟩,nf11⟩,nf12⟩,nf13⟩,nf14⟩,nf15⟩,nf16⟩,nf17⟩,nf18⟩,nf19⟩,nf20⟩,nf21⟩,nf22⟩,nf23⟩,nf24⟩,nf25⟩,nf26⟩,nf27⟩,nf28⟩,nf29⟩,nf30⟩,nf31⟩
theorem nodeNil_name:Tryz.prog.funcNamed Rows.nodeNilUptoRow.func=some 3:=by kernel_rfl
theorem nodeNil_inst:Tryz.f3.isInstance Tryz.prog Rows.nodeNilUptoRow.origin Rows.nodeNilUptoRow.targs:=of_decide_eq_true (by kernel_rfl)
theorem nodeNil_wrap:Tryz.f3.isWrapper Tryz.prog Rows.nodeNilUptoRow.wrapper Rows.nodeNilUptoRow.mainSum:=by unfold Func.isWrapper;first|(rw [if_pos (by decide +kernel)];kernel_rfl)|(rw [if_neg (by decide +kernel)];exact ⟨rfl,rfl⟩)
theorem nodeNil_holds:Rows.NodeNilUptoSaid:=
  OpenClaim.holds_of_cond 3 Tryz.f3 rfl rfl rfl rfl rfl rfl rfl ⟨rfl,rfl,rfl,rfl,rfl⟩ rfl rfl rfl rfl rfl nodeNil_name Tryz.func3 nodeNil_closed nodeNil_inst nodeNil_wrap
    (fun os started H enc _ F=>nodeNil_lifted os started H enc F)
#print axioms nodeNil_holds
end Go.Proofs.YtdjngjjjdkdfkaaGreat
