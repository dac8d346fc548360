/-
  For all bytes (of bulk at most 1048576) the law LinkParse returns true, and its argument reads behind the call as it did. No other condition.
-/
import Derived.Test.YtnjfchigdpifmaaZ1
import Derived.Test.YtnjfchigdpifmaaZ2
import Derived.Test.YtnjfchigdpifmaaZ3
import Derived.Deep.CondSized
namespace Go.Proofs.Ytnjfchigdpifmaa
set_option linter.unusedVariables false
set_option linter.unusedSimpArgs false
set_option maxHeartbeats 8000000
open Go.RowKit Go.ChangeShapes Go.WideShapes Go.ChangeAt Go.Deep
set_option maxRecDepth 100000
theorem sameP_ac (p : Pkt) (hb : p.body.length ≤ 1000000000) : AC Try.prog 11 [.ag (eP p), .ag (eP p)] [] (fun v bs' => v = B true ∧ bs' = []) := by
  have h := same_ac p.body p.body hb
  rw [decide_eq_true rfl] at h
  refine AC.N Try.func11 Try.ntmps11 ?_
  intro X
  simp only [nx, Nat.reduceAdd, Nat.reduceSub, BEq.rfl]
  repeat' (first
    | ((first
    | ((with_reducible apply AP.k_any); first
            | refine AP.S ?_
            | (refine AP.Y ?_; dsimp only) | refine AP.G (fun hg => ?_) (fun hg => ?_)
            | refine AP.A ?_ | refine AP.AB 0 ?_ | refine AP.AB 1 ?_ | refine AP.AL ?_
            | refine AP.EQ ?_)
    ) <;> (try simp only [nx, Nat.reduceAdd, Nat.reduceSub, BEq.rfl]))
    | ((with_reducible apply AP.k_nil); first | (refine AP.nil (hQ' _ ?_); clear hQ' Q') | refine AP.nil ?_)
    | ((with_reducible apply CP.k_reg); refine cp_regG fun Q' hQ' => ?_)
      | (with_reducible apply CP.k_reg1; refine cp_region ?_)
      | ((with_reducible apply CP.k_cond); first | refine cp_condT rfl ?_ | refine cp_condF rfl ?_ | refine cp_cond rfl (fun hc => ?_) (fun hc => ?_))
      | refine CP.go ?_
      | (simp only [List.append_eq, List.cons_append, List.nil_append]))
  all_goals try (refine RetQ.B [] ?_; (try dsimp only [resV, List.getD_cons_succ, List.getD_cons_zero]); ((refine ⟨congrArg B ?_, rfl⟩; first | rfl | (simp [eqVs, eqV1]; done))))
  all_goals (exfalso; (repeat (rename AC _ _ _ _ _ => hzz; clear hzz)); simp [eqVs, eqV1] at *; done)
theorem llparse_ac (b : List UInt8) (hb : b.length ≤ 10000000) (hbl : (parseP b).1.body.length ≤ 10000000) : AC Try.prog 3 [bs none b] [] (fun v bs' => v = B true ∧ bs' = []) := by
  have h1 := parseP_ac b (by omega)
  have h2 := dparseP_ac b hb
  have h3 := sameP_ac (parseP b).1 (by omega)
  generalize parseP b = r at h1 h2 h3
  obtain ⟨p, e⟩ := r
  dsimp only at h1 h2 h3
  refine AC.N Try.func3 Try.ntmps3 ?_
  intro X
  simp only [nx, Nat.reduceAdd, Nat.reduceSub, BEq.rfl]
  refine CP.gh gh_slot ?_; simp only [nx, Nat.reduceAdd, Nat.reduceSub, BEq.rfl]
  refine CP.gh gh_slot ?_; simp only [nx, Nat.reduceAdd, Nat.reduceSub, BEq.rfl]
  refine CP.gh gh_slot ?_; simp only [nx, Nat.reduceAdd, Nat.reduceSub, BEq.rfl]
  repeat' (first
    | ((first
    | ((with_reducible apply AP.k_any); first
            | refine AP.S ?_
            | (refine AP.Y ?_; dsimp only) | refine AP.G (fun hg => ?_) (fun hg => ?_)
            | refine AP.A ?_ | refine AP.AB 0 ?_ | refine AP.AB 1 ?_ | refine AP.AL ?_
            )
    ) <;> (try simp only [nx, Nat.reduceAdd, Nat.reduceSub, BEq.rfl]))
    | ((with_reducible apply AP.k_nil); first | (refine AP.nil (hQ' _ ?_); clear hQ' Q') | refine AP.nil ?_)
    | ((with_reducible apply CP.k_reg); refine cp_regG fun Q' hQ' => ?_)
      | (with_reducible apply CP.k_reg1; refine cp_region ?_)
      | ((with_reducible apply CP.k_cond); first | refine cp_condT rfl ?_ | refine cp_condF rfl ?_ | refine cp_cond rfl (fun hc => ?_) (fun hc => ?_))
      | refine CP.go ?_
      | (simp only [List.append_eq, List.cons_append, List.nil_append]))
  all_goals first
    | (refine RetQ.B [] ?_; (try dsimp only [resV, List.getD_cons_succ, List.getD_cons_zero]); (exact ⟨by first | rfl | simp, rfl⟩))
    | (exfalso; (repeat (rename AC _ _ _ _ _ => hzz; clear hzz)); simp at *; done)
theorem parseP_body (b : List UInt8) {k : Nat} (h : b.length ≤ k) : (parseP b).1.body.length ≤ k := by
  unfold parseP
  split
  · show (takeS ([] : List UInt8) bytesG _ _).1.length ≤ k
    have h5 : (r5 (newR b)).2.length ≤ k := int_le (int_le (int_le (int_le (int_le (newR_le' h)))))
    have h6 : (lenR (r5 (newR b))).2.2.length ≤ k := takeS_len h5
    unfold takeS
    split
    · simp
    · split
      · simp
      · simp only [bytesG, if_true, List.length_take]; omega
  · simp [pk0]
set_option maxRecDepth 100000 in
theorem linkParse_lifted (os : Os) (started : os.Started) (H : Type) (enc : TypeId × Value → H) (F : Stop.Interp) :
    ReturnsInHanded {} Try.checked os 3 .any ((Rows.OpenSpec.upto Rows.linkParseSpec).pre6 enc Try.prog Try.f3 Rows.linkParseUptoRow.domain false) (((Rows.OpenSpec.upto Rows.linkParseSpec).at F).post enc Try.prog Try.f3 false true false false) := by
  refine returnsInHanded_of_cond (C := Try.checked) (s := Rows.OpenSpec.upto Rows.linkParseSpec) (k := Rows.uptoSmall) rfl own_knob started (by kernel_rfl) Try.func3
    (OpenSpec.witness (enc := enc) (C := Try.checked) (s := Rows.OpenSpec.upto Rows.linkParseSpec) (k := Rows.uptoSmall) rfl false ⟨#[], #[.slice none 0 0], []⟩ 8 (by kernel_rfl) (by kernel_rfl) (by kernel_rfl)
      (x := ([.nil], [], [])) (by kernel_rfl) rfl (by kernel_rfl)) ?_
  intro W base args ds gs before hval0 hW _ hk _
  have hval : ∀ (j : Nat) t v, Try.f3.params[j]? = some t → args[j]? = some v → Value.okWide Try.prog W .any base t v := hval0
  have hW' := hW
  obtain ⟨p, q, hA0, hV, rfl, hfz, hnd⟩ := hW
  have hA : DataW.TrodAll enc Try.prog W 0 (fun _ => true) true Try.f3.params.toList args.toList ds p := hA0
  rw [Try.params3] at hA hval
  obtain ⟨rfl, rfl⟩ := trodVars_none hV
  have hb := bulk_of hk
  obtain ⟨v0, vs0, d0, ds0, p0, q0, hargs, rfl, rfl, h0, r0⟩ := trodAll_cons hA
  obtain ⟨rfl, rfl, rfl⟩ := trodAll_nil r0
  obtain rfl : args = #[v0] := by cases args; simp_all
  simp only [List.append_nil, Rows.uptoBulkAll, Nat.add_zero] at hb
  obtain ⟨b, hbk, hr0⟩ := arg_1 obs (cells_slice Try.underlying22 (hval 0 _ v0 rfl rfl)) h0
  have hb2 := hbk.2
  refine (ac_law (llparse_ac b (by omega) (by have := parseP_body b (Nat.le_refl _); omega)) (W := W) (vs := [v0]) fun φ κ => .cons (S := Ct.z) (T := Ct.z) (hr0 φ κ) .nil fun _ => rfl).mono fun e W' ⟨he, hb⟩ => ⟨_, he, ?_⟩
  exact law_post laidOut rfl (by kernel_rfl) Try.underlying4 (by kernel_rfl) hW' (fun gs' h => by subst h; rfl) hb
theorem linkParse_holds : Rows.LinkParseUptoSaid :=
  OpenClaim.holds_of_cond 3 Try.f3 rfl rfl rfl rfl rfl rfl rfl ⟨rfl, rfl, rfl, rfl, rfl⟩ rfl rfl rfl rfl rfl (by kernel_rfl) Try.func3 (by kernel_rfl)
    (of_decide_eq_true (by kernel_rfl)) (by unfold Func.isWrapper; first | (rw [if_pos (by decide +kernel)]; kernel_rfl) | (rw [if_neg (by decide +kernel)]; exact ⟨rfl, rfl⟩))
    (fun os started H enc _ F => linkParse_lifted os started H enc F)
#print axioms linkParse_holds
end Go.Proofs.Ytnjfchigdpifmaa
