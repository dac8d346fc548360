/-
  For every root, one, boot and acts (of bulk at most 1048576) the law LinkEnds returns true, and its arguments read behind the call as they did. No other condition.
-/
import Derived.Test.YtnjfchigdpifmaaGreatZ1
import Derived.Test.YtnjfchigdpifmaaGreatZ2
import Derived.Test.YtnjfchigdpifmaaGreatZ3
import Derived.Test.YtnjfchigdpifmaaGreatZ4
import Derived.Test.YtnjfchigdpifmaaGreatZ5
import Derived.Test.YtnjfchigdpifmaaGreatZ6
import Derived.Deep.CondSized
namespace Go.Proofs.YtnjfchigdpifmaaGreat
set_option linter.unusedVariables false
set_option linter.unusedSimpArgs false
open Go.RowKit Go.ChangeShapes Go.WideShapes Go.ChangeAt Go.Deep
set_option maxRecDepth 100000
theorem oac : OA Tryz.prog 29 5 (fun N (a : Ac) => a.body.length < N ∧ a.bytes.length < N) eAc :=
  (oa_struct Tryz.underlying29 (by kernel_rfl) (of_cons rfl obl (of_cons rfl oi (of_cons rfl oi (of_cons rfl obs (of_cons rfl obs of_nil)))))).map (fun d => (⟨d.1, d.2.1, d.2.2.1, d.2.2.2.1, d.2.2.2.2.1⟩ : Ac)) (fun _ _ _ hmn h => ⟨by omega, by omega⟩) (fun _ _ h => ⟨h.2.2.2.1.2, h.2.2.2.2.1.2⟩) fun _ => rfl
theorem oacs : OA Tryz.prog 23 1 (fun N (l : List Ac) => (∀ a ∈ l, a.body.length < N ∧ a.bytes.length < N) ∧ l.length < N) (fun l => [.sl none 5 (l.map eAc)]) := oa_slice (by decide) Tryz.underlying23 (by kernel_rfl) oac
set_option maxRecDepth 100000 in
theorem linkEnds_lifted (os : Os) (started : os.Started) (H : Type) (enc : TypeId × Value → H) (F : Stop.Interp) :
    ReturnsInHanded {} Tryz.checked os 3 .any ((Rows.OpenSpec.upto Rows.linkEndsSpec).pre6 enc Tryz.prog Tryz.f3 Rows.linkEndsUptoRow.domain false) (((Rows.OpenSpec.upto Rows.linkEndsSpec).at F).post enc Tryz.prog Tryz.f3 false true false false) := by
  refine returnsInHanded_of_cond (C := Tryz.checked) (s := Rows.OpenSpec.upto Rows.linkEndsSpec) (k := Rows.uptoSmall) rfl own_knob started (by kernel_rfl) Tryz.func3
    (OpenSpec.witness (enc := enc) (C := Tryz.checked) (s := Rows.OpenSpec.upto Rows.linkEndsSpec) (k := Rows.uptoSmall) rfl false ⟨#[], #[.slice none 0 0, .int .i64 0, .int .i64 0, .slice none 0 0], []⟩ 8 (by kernel_rfl) (by kernel_rfl) (by kernel_rfl)
      (x := ([.nil, .lit (.int .i64 0), .lit (.int .i64 0), .nil], [], [])) (by kernel_rfl) rfl (by kernel_rfl)) ?_
  intro W base args ds gs before hval0 hW _ hk _
  have hval : ∀ (j : Nat) t v, Tryz.f3.params[j]? = some t → args[j]? = some v → Value.okWide Tryz.prog W .any base t v := hval0
  have hW' := hW
  obtain ⟨p, q, hA0, hV, rfl, hfz, hnd⟩ := hW
  have hA : DataW.TrodAll enc Tryz.prog W 0 (fun _ => true) true Tryz.f3.params.toList args.toList ds p := hA0
  rw [Tryz.params3] at hA hval
  obtain ⟨rfl, rfl⟩ := trodVars_none hV
  have hb := bulk_of hk
  obtain ⟨v0, vs0, d0, ds0, p0, q0, hargs, rfl, rfl, h0, r0⟩ := trodAll_cons hA
  obtain ⟨v1, vs1, d1, ds1, p1, q1, rfl, rfl, rfl, h1, r1⟩ := trodAll_cons r0
  obtain ⟨v2, vs2, d2, ds2, p2, q2, rfl, rfl, rfl, h2, r2⟩ := trodAll_cons r1
  obtain ⟨v3, vs3, d3, ds3, p3, q3, rfl, rfl, rfl, h3, r3⟩ := trodAll_cons r2
  obtain ⟨rfl, rfl, rfl⟩ := trodAll_nil r3
  obtain rfl : args = #[v0, v1, v2, v3] := by cases args; simp_all
  simp only [List.append_nil, Rows.uptoBulkAll, Nat.add_zero] at hb
  obtain ⟨b, hbk, hr0⟩ := arg_1 obs (cells_slice Tryz.underlying22 (hval 0 _ v0 rfl rfl)) h0
  obtain ⟨n, hn, hr1⟩ := arg_1 oi (cells_int Tryz.underlying3 (hval 1 _ v1 rfl rfl)) h1
  obtain ⟨m, hm, hr2⟩ := arg_1 oi (cells_int Tryz.underlying3 (hval 2 _ v2 rfl rfl)) h2
  obtain ⟨o, ho, hr3⟩ := arg_1 oacs (cells_slice Tryz.underlying23 (hval 3 _ v3 rfl rfl)) h3
  refine (ac_law (lend b n m o) (W := W) (vs := [v0, v1, v2, v3]) fun φ κ => .cons (S := Ct.z) (T := Ct.z) (hr0 φ κ) (.cons (S := Ct.z) (T := Ct.z) (hr1 φ κ) (.cons (S := Ct.z) (T := Ct.z) (hr2 φ κ) (.cons (S := Ct.z) (T := Ct.z) (hr3 φ κ) .nil fun _ => rfl) fun _ => rfl) fun _ => rfl) fun _ => rfl).mono fun e W' ⟨he, hb⟩ => ⟨_, he, ?_⟩
  exact law_post laidOut rfl (by kernel_rfl) Tryz.underlying4 (by kernel_rfl) hW' (fun gs' h => by subst h; rfl) hb
theorem linkEnds_holds : Rows.LinkEndsUptoSaid :=
  OpenClaim.holds_of_cond 3 Tryz.f3 rfl rfl rfl rfl rfl rfl rfl ⟨rfl, rfl, rfl, rfl, rfl⟩ rfl rfl rfl rfl rfl (by kernel_rfl) Tryz.func3 (by kernel_rfl)
    (of_decide_eq_true (by kernel_rfl)) (by unfold Func.isWrapper; first | (rw [if_pos (by decide +kernel)]; kernel_rfl) | (rw [if_neg (by decide +kernel)]; exact ⟨rfl, rfl⟩))
    (fun os started H enc _ F => linkEnds_lifted os started H enc F)
#print axioms linkEnds_holds
end Go.Proofs.YtnjfchigdpifmaaGreat
