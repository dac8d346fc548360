/-
  For every root, bodies and order (of bulk at most 1048576) the law LinkOnce returns true, and its arguments read behind the call as they did. No other condition.
-/
import Derived.Test.YtnjfchigdpifmaaZ1
import Derived.Test.YtnjfchigdpifmaaZ2
import Derived.Test.YtnjfchigdpifmaaZ3
import Derived.Test.YtnjfchigdpifmaaZ4
import Derived.Test.YtnjfchigdpifmaaZ5
import Derived.Deep.CondSized
namespace Go.Proofs.Ytnjfchigdpifmaa
set_option linter.unusedVariables false
set_option linter.unusedSimpArgs false
open Go.RowKit Go.ChangeShapes Go.WideShapes Go.ChangeAt Go.Deep
set_option maxRecDepth 100000
theorem obss : OA Try.prog 43 1 (fun N (l : List (List UInt8)) => (∀ x ∈ l, (∀ y ∈ x, True) ∧ x.length < N) ∧ l.length < N) (fun l => [.sl none 1 (l.map fun l => [bs none l])]) := oa_slice (by decide) Try.underlying43 (by kernel_rfl) obs
theorem ois : OA Try.prog 44 1 (fun N (l : List Int) => (∀ x ∈ l, I64 x) ∧ l.length < N) (fun l => [.sl none 1 (l.map fun x => [I x])]) := oa_slice (by decide) Try.underlying44 (by kernel_rfl) oi
set_option maxRecDepth 100000 in
theorem linkOnce_lifted (os : Os) (started : os.Started) (H : Type) (enc : TypeId × Value → H) (F : Stop.Interp) :
    ReturnsInHanded {} Try.checked os 5 .any ((Rows.OpenSpec.upto Rows.linkOnceSpec).pre6 enc Try.prog Try.f5 Rows.linkOnceUptoRow.domain false) (((Rows.OpenSpec.upto Rows.linkOnceSpec).at F).post enc Try.prog Try.f5 false true false false) := by
  refine returnsInHanded_of_cond (C := Try.checked) (s := Rows.OpenSpec.upto Rows.linkOnceSpec) (k := Rows.uptoSmall) rfl own_knob started (by kernel_rfl) Try.func5
    (OpenSpec.witness (enc := enc) (C := Try.checked) (s := Rows.OpenSpec.upto Rows.linkOnceSpec) (k := Rows.uptoSmall) rfl false ⟨#[], #[.slice none 0 0, .slice none 0 0, .slice none 0 0], []⟩ 8 (by kernel_rfl) (by kernel_rfl) (by kernel_rfl)
      (x := ([.nil, .nil, .nil], [], [])) (by kernel_rfl) rfl (by kernel_rfl)) ?_
  intro W base args ds gs before hval0 hW _ hk _
  have hval : ∀ (j : Nat) t v, Try.f5.params[j]? = some t → args[j]? = some v → Value.okWide Try.prog W .any base t v := hval0
  have hW' := hW
  obtain ⟨p, q, hA0, hV, rfl, hfz, hnd⟩ := hW
  have hA : DataW.TrodAll enc Try.prog W 0 (fun _ => true) true Try.f5.params.toList args.toList ds p := hA0
  rw [Try.params5] at hA hval
  obtain ⟨rfl, rfl⟩ := trodVars_none hV
  have hb := bulk_of hk
  obtain ⟨v0, vs0, d0, ds0, p0, q0, hargs, rfl, rfl, h0, r0⟩ := trodAll_cons hA
  obtain ⟨v1, vs1, d1, ds1, p1, q1, rfl, rfl, rfl, h1, r1⟩ := trodAll_cons r0
  obtain ⟨v2, vs2, d2, ds2, p2, q2, rfl, rfl, rfl, h2, r2⟩ := trodAll_cons r1
  obtain ⟨rfl, rfl, rfl⟩ := trodAll_nil r2
  obtain rfl : args = #[v0, v1, v2] := by cases args; simp_all
  simp only [List.append_nil, Rows.uptoBulkAll, Nat.add_zero] at hb
  obtain ⟨b, hbk, hr0⟩ := arg_1 obs (cells_slice Try.underlying22 (hval 0 _ v0 rfl rfl)) h0
  obtain ⟨p, hp, hr1⟩ := arg_1 obss (cells_slice Try.underlying43 (hval 1 _ v1 rfl rfl)) h1
  obtain ⟨o, ho, hr2⟩ := arg_1 ois (cells_slice Try.underlying44 (hval 2 _ v2 rfl rfl)) h2
  refine (ac_law (lonc b p o) (W := W) (vs := [v0, v1, v2]) fun φ κ => .cons (S := Ct.z) (T := Ct.z) (hr0 φ κ) (.cons (S := Ct.z) (T := Ct.z) (hr1 φ κ) (.cons (S := Ct.z) (T := Ct.z) (hr2 φ κ) .nil fun _ => rfl) fun _ => rfl) fun _ => rfl).mono fun e W' ⟨he, hb⟩ => ⟨_, he, ?_⟩
  exact law_post laidOut rfl (by kernel_rfl) Try.underlying4 (by kernel_rfl) hW' (fun gs' h => by subst h; rfl) hb
theorem linkOnce_holds : Rows.LinkOnceUptoSaid :=
  OpenClaim.holds_of_cond 5 Try.f5 rfl rfl rfl rfl rfl rfl rfl ⟨rfl, rfl, rfl, rfl, rfl⟩ rfl rfl rfl rfl rfl (by kernel_rfl) Try.func5 (by kernel_rfl)
    (of_decide_eq_true (by kernel_rfl)) (by unfold Func.isWrapper; first | (rw [if_pos (by decide +kernel)]; kernel_rfl) | (rw [if_neg (by decide +kernel)]; exact ⟨rfl, rfl⟩))
    (fun os started H enc _ F => linkOnce_lifted os started H enc F)
#print axioms linkOnce_holds
end Go.Proofs.Ytnjfchigdpifmaa
