/-
  For every packet and cut (of bulk at most 1048576) the law LinkBack returns true, and its arguments read behind the call as they did. No other condition.
-/
import Derived.Test.YtnjfchigdpifmaaZ1
import Derived.Test.YtnjfchigdpifmaaZ2
import Derived.Test.YtnjfchigdpifmaaZ3
import Derived.Test.YtnjfchigdpifmaaZ4
import Derived.Test.YtnjfchigdpifmaaZ5
import Derived.Deep.CondSized
namespace Go.Proofs.Ytnjfchigdpifmaa
set_option linter.unusedVariables false
set_option linter.unusedSimpArgs false
open Go.RowKit Go.ChangeShapes Go.WideShapes Go.ChangeAt Go.Deep
set_option maxRecDepth 100000
def okP2 (N : Nat) (p : Pkt) : Prop := okP N p ∧ (I64 p.frm ∧ I64 p.to ∧ I64 p.epoch ∧ I64 p.boot ∧ I64 p.seqn)
theorem opk2 : OA Try.prog 26 38 okP2 eP :=
  (oa_struct Try.underlying26 (by kernel_rfl) (of_cons rfl oi (of_cons rfl oi (of_cons rfl oi (of_cons rfl oi (of_cons rfl oi (of_cons rfl obs (of_cons rfl otg of_nil)))))))).wmap
    (fun d => (⟨d.1, d.2.1, d.2.2.1, d.2.2.2.1, d.2.2.2.2.1, d.2.2.2.2.2.1, d.2.2.2.2.2.2.1⟩ : Pkt)) (fun _ _ _ h k => ⟨⟨Nat.lt_of_lt_of_le k.1.1 h, k.1.2⟩, k.2⟩)
    (fun n d h => ⟨⟨h.2.2.2.2.2.1.2, h.2.2.2.2.2.2.1.1⟩, h.1, h.2.1, h.2.2.1, h.2.2.2.1, h.2.2.2.2.1⟩)
    (fun n d h => by
      obtain ⟨a, b, c, e, f, g, t, u⟩ := d
      have ht : t.length = 32 := h.2.2.2.2.2.2.1.1
      show [I a, I b, I c, I e, I f, bs none g] ++ tagC t = [I a] ++ ([I b] ++ ([I c] ++ ([I e] ++ ([I f] ++ ([bs none g] ++ ((t.map eB).flatten ++ []))))))
      rw [tagC_flat ht]
      rfl)
theorem lback (p : Pkt) (cut : Int) (ht : p.tag.length = 32) (hr : I64 p.frm ∧ I64 p.to ∧ I64 p.epoch ∧ I64 p.boot ∧ I64 p.seqn) (hcut : I64 cut) : AC Try.prog 6 [.ag (eP p), I cut] [] (fun v bs' => v = B true ∧ bs' = []) := by
  by_cases hp : p.body.length > 500
  · exact lback_big p cut hp
  · cases hm : mayP p with
    | false => exact lback_no p cut (by omega) ht hm
    | true => exact lback_yes p cut (by omega) ht hm ⟨hr, by omega⟩ hcut
set_option maxRecDepth 100000 in
theorem linkBack_lifted (os : Os) (started : os.Started) (H : Type) (enc : TypeId × Value → H) (F : Stop.Interp) :
    ReturnsInHanded {} Try.checked os 6 .any ((Rows.OpenSpec.upto Rows.linkBackSpec).pre6 enc Try.prog Try.f6 Rows.linkBackUptoRow.domain false) (((Rows.OpenSpec.upto Rows.linkBackSpec).at F).post enc Try.prog Try.f6 false true false false) := by
  refine returnsInHanded_of_cond (C := Try.checked) (s := Rows.OpenSpec.upto Rows.linkBackSpec) (k := Rows.uptoSmall) rfl own_knob started (by kernel_rfl) Try.func6
    (OpenSpec.witness (enc := enc) (C := Try.checked) (s := Rows.OpenSpec.upto Rows.linkBackSpec) (k := Rows.uptoSmall) rfl false ⟨#[], #[.agg #[.int .i64 0, .int .i64 0, .int .i64 0, .int .i64 0, .int .i64 0, .slice none 0 0, .int .u8 0, .int .u8 0, .int .u8 0, .int .u8 0, .int .u8 0, .int .u8 0, .int .u8 0, .int .u8 0, .int .u8 0, .int .u8 0, .int .u8 0, .int .u8 0, .int .u8 0, .int .u8 0, .int .u8 0, .int .u8 0, .int .u8 0, .int .u8 0, .int .u8 0, .int .u8 0, .int .u8 0, .int .u8 0, .int .u8 0, .int .u8 0, .int .u8 0, .int .u8 0, .int .u8 0, .int .u8 0, .int .u8 0, .int .u8 0, .int .u8 0, .int .u8 0], .int .i64 0], []⟩ 8 (by kernel_rfl) (by kernel_rfl) (by kernel_rfl)
      (x := ([.agg [.lit (.int .i64 0), .lit (.int .i64 0), .lit (.int .i64 0), .lit (.int .i64 0), .lit (.int .i64 0), .nil, .agg [.lit (.int .u8 0), .lit (.int .u8 0), .lit (.int .u8 0), .lit (.int .u8 0), .lit (.int .u8 0), .lit (.int .u8 0), .lit (.int .u8 0), .lit (.int .u8 0), .lit (.int .u8 0), .lit (.int .u8 0), .lit (.int .u8 0), .lit (.int .u8 0), .lit (.int .u8 0), .lit (.int .u8 0), .lit (.int .u8 0), .lit (.int .u8 0), .lit (.int .u8 0), .lit (.int .u8 0), .lit (.int .u8 0), .lit (.int .u8 0), .lit (.int .u8 0), .lit (.int .u8 0), .lit (.int .u8 0), .lit (.int .u8 0), .lit (.int .u8 0), .lit (.int .u8 0), .lit (.int .u8 0), .lit (.int .u8 0), .lit (.int .u8 0), .lit (.int .u8 0), .lit (.int .u8 0), .lit (.int .u8 0)]], .lit (.int .i64 0)], [], [])) (by kernel_rfl) rfl (by kernel_rfl)) ?_
  intro W base args ds gs before hval0 hW _ hk _
  have hval : ∀ (j : Nat) t v, Try.f6.params[j]? = some t → args[j]? = some v → Value.okWide Try.prog W .any base t v := hval0
  have hW' := hW
  obtain ⟨p, q, hA0, hV, rfl, hfz, hnd⟩ := hW
  have hA : DataW.TrodAll enc Try.prog W 0 (fun _ => true) true Try.f6.params.toList args.toList ds p := hA0
  rw [Try.params6] at hA hval
  obtain ⟨rfl, rfl⟩ := trodVars_none hV
  have hb := bulk_of hk
  obtain ⟨v0, vs0, d0, ds0, p0, q0, hargs, rfl, rfl, h0, r0⟩ := trodAll_cons hA
  obtain ⟨v1, vs1, d1, ds1, p1, q1, rfl, rfl, rfl, h1, r1⟩ := trodAll_cons r0
  obtain ⟨rfl, rfl, rfl⟩ := trodAll_nil r1
  obtain rfl : args = #[v0, v1] := by cases args; simp_all
  simp only [List.append_nil, Rows.uptoBulkAll, Nat.add_zero] at hb
  obtain ⟨p, hpk, hr0⟩ := arg_ag Try.underlying26 opk2 (hval 0 _ v0 rfl rfl) h0
  obtain ⟨n, hn, hr1⟩ := arg_1 oi (cells_int Try.underlying3 (hval 1 _ v1 rfl rfl)) h1
  refine (ac_law (lback p n hpk.1.2 hpk.2 hn) (W := W) (vs := [v0, v1]) fun φ κ => .cons (S := Ct.z) (T := Ct.z) (hr0 φ κ) (.cons (S := Ct.z) (T := Ct.z) (hr1 φ κ) .nil fun _ => rfl) fun _ => rfl).mono fun e W' ⟨he, hb⟩ => ⟨_, he, ?_⟩
  exact law_post laidOut rfl (by kernel_rfl) Try.underlying4 (by kernel_rfl) hW' (fun gs' h => by subst h; rfl) hb
theorem linkBack_holds : Rows.LinkBackUptoSaid :=
  OpenClaim.holds_of_cond 6 Try.f6 rfl rfl rfl rfl rfl rfl rfl ⟨rfl, rfl, rfl, rfl, rfl⟩ rfl rfl rfl rfl rfl (by kernel_rfl) Try.func6 (by kernel_rfl)
    (of_decide_eq_true (by kernel_rfl)) (by unfold Func.isWrapper; first | (rw [if_pos (by decide +kernel)]; kernel_rfl) | (rw [if_neg (by decide +kernel)]; exact ⟨rfl, rfl⟩))
    (fun os started H enc _ F => linkBack_lifted os started H enc F)
#print axioms linkBack_holds
end Go.Proofs.Ytnjfchigdpifmaa
