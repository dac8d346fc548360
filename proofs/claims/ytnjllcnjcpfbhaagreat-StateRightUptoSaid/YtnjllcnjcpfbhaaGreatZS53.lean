/-
  For every root and calls (of bulk at most 1048576) the law StateRight returns true, and its arguments read behind the call as they did. No other condition.
-/
import Derived.Test.YtnjllcnjcpfbhaaGreatZS10
import Derived.Test.YtnjllcnjcpfbhaaGreatZS46
import Derived.Test.YtnjllcnjcpfbhaaGreatZS52
import Derived.Deep.CondSized
namespace Go.Proofs.YtnjllcnjcpfbhaaGreat
set_option linter.unusedVariables false
set_option linter.unusedSimpArgs false
open Go.RowKit Go.Proofs.Tryz
set_option maxRecDepth 100000
set_option maxHeartbeats 8000000
section
open Go.RowKit Go.ChangeShapes Go.WideShapes Go.ChangeAt Go.Deep
set_option maxRecDepth 100000 in
theorem stateRight_lifted (os:Os) (started:os.Started) (H:Type) (enc:TypeId×Value->H) (F:Stop.Interp) :
 ReturnsInHanded {} Tryz.checked os 4 .any ((Rows.OpenSpec.upto Rows.stateRightSpec).pre6 enc prog Tryz.f4 Rows.stateRightUptoRow.domain false) (((Rows.OpenSpec.upto Rows.stateRightSpec).at F).post enc prog Tryz.f4 false true false false):=by
 refine returnsInHanded_of_cond (C:=Tryz.checked) (s:=Rows.OpenSpec.upto Rows.stateRightSpec) (k:=Rows.uptoSmall) rfl own_knob started (by kernel_rfl) func4
  (OpenSpec.witness (enc:=enc) (C:=Tryz.checked) (s:=Rows.OpenSpec.upto Rows.stateRightSpec) (k:=Rows.uptoSmall) rfl false ⟨#[],#[.slice none 0 0,.slice none 0 0],[]⟩ 8 (by kernel_rfl) (by kernel_rfl) (by kernel_rfl)
    (x:=([.nil,.nil],[],[])) (by kernel_rfl) rfl (by kernel_rfl)) ?_
 intro W base args ds gs before hval0 hW _ hk _;have hval:∀ (j:Nat) t v,Tryz.f4.params[j]? = some t->args[j]? = some v->Value.okWide prog W .any base t v:=hval0;have hW':=hW;obtain ⟨p,q,hA0,hV,rfl,hfz,hnd⟩:=hW;have hA:DataW.TrodAll enc prog W 0 (fun _=>true) true Tryz.f4.params.toList args.toList ds p:=hA0;rw [Tryz.params4] at hA hval;obtain ⟨rfl,rfl⟩:=trodVars_none hV;have hb:=bulk_of hk;obtain ⟨v0,vs0,d0,ds0,p0,q0,hargs,rfl,rfl,h0,r0⟩:=trodAll_cons hA;obtain ⟨v1,vs1,d1,ds1,p1,q1,rfl,rfl,rfl,h1,r1⟩:=trodAll_cons r0;obtain ⟨rfl,rfl,rfl⟩:=trodAll_nil r1;obtain rfl:args=#[v0,v1]:=by cases args;simp_all
 simp only [List.append_nil,Rows.uptoBulkAll,Nat.add_zero] at hb;obtain ⟨b,hbk,hr0⟩:=arg_1 obs (cells_slice Tryz.underlying22 (hval 0 _ v0 rfl rfl)) h0;obtain ⟨l,hl,hr1⟩:=arg_1 ocalls (cells_slice Tryz.underlying23 (hval 1 _ v1 rfl rfl)) h1;refine (ac_law (stright_ac b (by have:=hbk.2;omega) l (by have:=hl.2;omega) (fun c hc=>okCall_small (by omega) (hl.1 c hc)) awake_ac) (W:=W) (vs:=[v0,v1]) fun φ κ=>.cons (S:=Ct.z) (T:=Ct.z) (hr0 φ κ) (.cons (S:=Ct.z) (T:=Ct.z) (hr1 φ κ) .nil fun _=>rfl) fun _=>rfl).mono fun e W' ⟨he,hb⟩=>⟨_,he,?_⟩
 exact law_post laidOut rfl (by kernel_rfl) Tryz.underlying4 (by kernel_rfl) hW' (fun gs' h=>by subst h;rfl) hb
theorem stateRight_c1:(Rows.stateRightUptoRow.inPlace == Tryz.pinned.checked.prog.inPlace 4)=true:=by kernel_rfl
theorem stateRight_c2:(Rows.stateRightUptoRow.unfollowed == Tryz.pinned.checked.prog.unfollowed 4)=true:=by kernel_rfl
theorem stateRight_c3:(Rows.stateRightUptoRow.recurses == Tryz.pinned.checked.prog.recurses 4)=true:=by kernel_rfl
theorem stateRight_c4:(Rows.stateRightUptoRow.named == Tryz.pinned.checked.prog.varsNamed 4)=true:=by kernel_rfl
theorem stateRight_c5:(Rows.stateRightUptoRow.plainKeys == Tryz.pinned.checked.prog.plainKeys)=true:=by kernel_rfl
theorem stateRight_c6:(Rows.stateRightUptoRow.lifted == Tryz.pinned.checked.prog.liftsFinal)=true:=by kernel_rfl
theorem stateRight_c7:(Tryz.pinned.checked.prog.make == some Rows.stateRightUptoRow.make)=true:=by kernel_rfl
theorem stateRight_closed:joinedFacts Tryz.pinned.checked.prog 4 Tryz.f4 (Rows.OpenSpec.upto Rows.stateRightSpec).bare Rows.stateRightUptoRow=true:=by
 unfold joinedFacts
 repeat' (with_reducible refine Bool.and_eq_true_iff.2 ⟨?_,?_⟩)
 all_goals (first|with_reducible exact stateRight_c1|with_reducible exact stateRight_c2|with_reducible exact stateRight_c3|with_reducible exact stateRight_c4|with_reducible exact stateRight_c5|with_reducible exact stateRight_c6|with_reducible exact stateRight_c7|with_reducible exact hdLaid|with_reducible exact hdMaps|with_reducible exact hdStops|with_reducible exact hdKnobs|with_reducible exact hdHeard|with_reducible exact hdEnter|kernel_rfl)
theorem stateRight_holds:Rows.StateRightUptoSaid:=
 OpenClaim.holds_of_cond 4 Tryz.f4 rfl rfl rfl rfl rfl rfl rfl ⟨rfl,rfl,rfl,rfl,rfl⟩ rfl rfl rfl rfl rfl (by kernel_rfl) func4 stateRight_closed
  (of_decide_eq_true (by kernel_rfl)) (by unfold Func.isWrapper;first|(rw [if_pos (by decide +kernel)];kernel_rfl)|(rw [if_neg (by decide +kernel)];exact ⟨rfl,rfl⟩))
  (fun os started H enc _ F=>stateRight_lifted os started H enc F)
end
