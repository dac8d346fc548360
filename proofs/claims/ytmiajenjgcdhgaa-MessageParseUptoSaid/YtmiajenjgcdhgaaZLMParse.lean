/-
  For all bytes (of bulk at most 1048576) the law MessageParse returns true, and its argument reads behind the call as it did. No other condition.
-/
import Derived.Test.YtmiajenjgcdhgaaZ1
import Derived.Test.YtmiajenjgcdhgaaZ2
import Derived.Test.YtmiajenjgcdhgaaZ3
import Derived.Test.YtmiajenjgcdhgaaZ4
import Derived.Deep.CondSized
namespace Go.Proofs.Ytmiajenjgcdhgaa
set_option linter.unusedVariables false
set_option linter.unusedSimpArgs false
open Go.RowKit Go.ChangeShapes Go.WideShapes Go.ChangeAt Go.Deep
set_option maxRecDepth 100000
set_option maxRecDepth 100000 in
theorem messageParse_lifted (os : Os) (started : os.Started) (H : Type) (enc : TypeId × Value → H) (F : Stop.Interp) :
    ReturnsInHanded {} Try.checked os 3 .any ((Rows.OpenSpec.upto Rows.messageParseSpec).pre6 enc Try.prog Try.f3 Rows.messageParseUptoRow.domain false) (((Rows.OpenSpec.upto Rows.messageParseSpec).at F).post enc Try.prog Try.f3 false true false false) := by
  refine returnsInHanded_of_cond (C := Try.checked) (s := Rows.OpenSpec.upto Rows.messageParseSpec) (k := Rows.uptoSmall) rfl own_knob started (by kernel_rfl) Try.func3
    (OpenSpec.witness (enc := enc) (C := Try.checked) (s := Rows.OpenSpec.upto Rows.messageParseSpec) (k := Rows.uptoSmall) rfl false ⟨#[], #[.slice none 0 0], []⟩ 8 (by kernel_rfl) (by kernel_rfl) (by kernel_rfl)
      (x := ([.nil], [], [])) (by kernel_rfl) rfl (by kernel_rfl)) ?_
  intro W base args ds gs before hval0 hW _ hk _
  have hval : ∀ (j : Nat) t v, Try.f3.params[j]? = some t → args[j]? = some v → Value.okWide Try.prog W .any base t v := hval0
  have hW' := hW
  obtain ⟨p, q, hA0, hV, rfl, hfz, hnd⟩ := hW
  have hA : DataW.TrodAll enc Try.prog W 0 (fun _ => true) true Try.f3.params.toList args.toList ds p := hA0
  rw [Try.params3] at hA hval
  obtain ⟨rfl, rfl⟩ := trodVars_none hV
  have hb := bulk_of hk
  obtain ⟨v0, vs0, d0, ds0, p0, q0, hargs, rfl, rfl, h0, r0⟩ := trodAll_cons hA
  obtain ⟨rfl, rfl, rfl⟩ := trodAll_nil r0
  obtain rfl : args = #[v0] := by cases args; simp_all
  simp only [List.append_nil, Rows.uptoBulkAll, Nat.add_zero] at hb
  obtain ⟨b, hbk, hr0⟩ := arg_1 obs (cells_slice Try.underlying22 (hval 0 _ v0 rfl rfl)) h0
  refine (ac_law (mparse_all b) (W := W) (vs := [v0]) fun φ κ => .cons (S := Ct.z) (T := Ct.z) (hr0 φ κ) .nil fun _ => rfl).mono fun e W' ⟨he, hb⟩ => ⟨_, he, ?_⟩
  exact law_post laidOut rfl (by kernel_rfl) Try.underlying4 (by kernel_rfl) hW' (fun gs' h => by subst h; rfl) hb
theorem messageParse_holds : Rows.MessageParseUptoSaid :=
  OpenClaim.holds_of_cond 3 Try.f3 rfl rfl rfl rfl rfl rfl rfl ⟨rfl, rfl, rfl, rfl, rfl⟩ rfl rfl rfl rfl rfl (by kernel_rfl) Try.func3 (by kernel_rfl)
    (of_decide_eq_true (by kernel_rfl)) (by unfold Func.isWrapper; first | (rw [if_pos (by decide +kernel)]; kernel_rfl) | (rw [if_neg (by decide +kernel)]; exact ⟨rfl, rfl⟩))
    (fun os started H enc _ F => messageParse_lifted os started H enc F)
#print axioms messageParse_holds
end Go.Proofs.Ytmiajenjgcdhgaa
