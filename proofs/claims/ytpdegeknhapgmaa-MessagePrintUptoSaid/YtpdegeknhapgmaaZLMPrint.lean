/-
  For every message (of bulk at most 1048576) the law MessagePrint returns true, and its argument reads behind the call as it did. No other condition.
-/
import Derived.Test.YtpdegeknhapgmaaZ1
import Derived.Test.YtpdegeknhapgmaaZ2
import Derived.Test.YtpdegeknhapgmaaZ3
import Derived.Test.YtpdegeknhapgmaaZ4
import Derived.Deep.CondSized
namespace Go.Proofs.Ytpdegeknhapgmaa
set_option linter.unusedVariables false
set_option linter.unusedSimpArgs false
set_option maxHeartbeats 8000000
open Go.RowKit Go.ChangeShapes Go.WideShapes Go.ChangeAt Go.Deep
set_option maxRecDepth 100000
theorem grow_sum : ∀ {l : List Entry} {n : Nat}, growS n l = false → n + (l.map fun e => e.body.length).sum + 50 * l.length ≤ 25000
  | [], n, h => by simp [growS] at h; simp; omega
  | e :: l, n, h => by
    unfold growS at h
    split at h
    · cases h
    · have := grow_sum h; simp only [List.map_cons, List.sum_cons, List.length_cons]; omega
theorem le_sum : ∀ {l : List Nat} {x : Nat}, x ∈ l → x ≤ l.sum
  | y :: l, x, h => by
    rcases List.mem_cons.1 h with rfl | h
    · simp
    · have := le_sum h; simp; omega
def incN (l : List UInt8) (k : Nat) : List UInt8 := (l.take k).map (· + 1) ++ l.drop k
theorem incN_len (l : List UInt8) (k : Nat) : (incN l k).length = l.length := by simp [incN]; omega
theorem incN_zero (l : List UInt8) : incN l 0 = l := by simp [incN]
theorem incN_get {l : List UInt8} {k : Nat} (h : k < l.length) : (incN l k)[k]? = some l[k] := by
  rw [incN, List.getElem?_append_right (by simp; omega)]
  simp [Nat.min_eq_left (Nat.le_of_lt h), h]
theorem incN_set {l : List UInt8} {k : Nat} (h : k < l.length) : (incN l k).set k (l[k] + 1) = incN l (k + 1) := by
  refine List.ext_getElem? fun i => ?_
  simp only [incN]
  rw [List.getElem?_set]
  have hlen : ((l.take k).map (· + 1) ++ l.drop k).length = l.length := by simp; omega
  by_cases hi : k = i
  · subst hi
    rw [if_pos rfl, if_pos (by omega), List.getElem?_append_left (by simp; omega)]
    simp [h]
  · rw [if_neg hi]
    rcases Nat.lt_or_ge i k with h1 | h1
    · rw [List.getElem?_append_left (by simp; omega), List.getElem?_append_left (by simp; omega)]
      simp only [List.getElem?_map, List.getElem?_take]
      rw [if_pos h1, if_pos (by omega)]
    · rw [List.getElem?_append_right (by simp; omega), List.getElem?_append_right (by simp; omega)]
      simp only [List.length_map, List.length_take, List.getElem?_drop]
      rw [show k + (i - min k l.length) = i by omega, show k + 1 + (i - min (k + 1) l.length) = i by omega]
theorem incU (x : UInt8) : IntKind.u8.wrap ((x.toNat : Int) + 1) = (((x + 1 : UInt8).toNat : Nat) : Int) := by
  simp only [IntKind.wrap, IntKind.bits, IntKind.signed, UInt8.toNat_add]; simp
theorem mprint_ac (m : Msg) (hs : m.small) (hr : rng m) : AC Try.prog 4 [.ag (eG m)] [] (fun v bs' => v = B true ∧ bs' = []) := by
  have hgreat := great_ac m hs
  cases hg : greatS m with
  | true =>
    rw [hg] at hgreat
    refine AC.N Try.func4 Try.ntmps4 ?_
    intro X
    simp only [nx, Nat.reduceAdd, Nat.reduceSub, BEq.rfl]
    repeat' (first
      | ((first
      | ((with_reducible apply AP.k_any); first
              | refine AP.S ?_
              | refine AP.E ?_
              | (refine AP.Y ?_; dsimp only) | refine AP.G (fun hg => ?_) (fun hg => ?_)
              | refine AP.T ?_
              | refine AP.A ?_ | refine AP.AB 0 ?_ | refine AP.AB 1 ?_ | refine AP.AL ?_
              )
      ) <;> (try simp only [nx, Nat.reduceAdd, Nat.reduceSub, BEq.rfl]))
      | ((with_reducible apply AP.k_nil); first | (refine AP.nil (hQ' _ ?_); clear hQ' Q') | refine AP.nil ?_)
      | ((with_reducible apply CP.k_reg); refine cp_regG fun Q' hQ' => ?_)
        | (with_reducible apply CP.k_reg1; refine cp_region ?_)
        | ((with_reducible apply CP.k_cond); first | refine cp_condT rfl ?_ | refine cp_condF rfl ?_ | refine cp_cond rfl (fun hc => ?_) (fun hc => ?_))
        | refine CP.go ?_
        | (simp only [List.append_eq, List.cons_append, List.nil_append]))
    (refine RetQ.B [] ?_; (try dsimp only [resV, List.getD_cons_succ, List.getD_cons_zero]); (exact ⟨rfl, rfl⟩))
  | false =>
    rw [hg] at hgreat
    simp only [greatS, Bool.or_eq_false_iff, decide_eq_false_iff_not] at hg
    have hsum := grow_sum hg.1
    have hbd : ∀ e ∈ m.entries, e.body.length ≤ 25000 := fun e he => by
      have := le_sum (List.mem_map.2 ⟨e, he, rfl⟩ : e.body.length ∈ m.entries.map fun e => e.body.length); omega
    have hmay := mayMsg_ac m hs.2.1 hs.2.2.1
    have hmayD := dmayMsg_ac m hs
    rw [mayD_eq hr] at hmayD
    have hp := print_ac m hs
    have hform := dform_ac m hs ⟨by omega, fun e he => by have := hbd e he; omega⟩ (by omega) (by omega) (by omega)
    cases hm : mayM m with
    | false =>
      rw [hm] at hmay hmayD
      rw [printS, hm, if_neg (by decide)] at hp
      refine AC.N Try.func4 Try.ntmps4 ?_
      intro X
      simp only [nx, Nat.reduceAdd, Nat.reduceSub, BEq.rfl]
      repeat' (first
        | ((first
        | ((with_reducible apply AP.k_any); first
                | refine AP.S ?_
                | refine AP.E ?_
                | (refine AP.Y ?_; dsimp only) | refine AP.G (fun hg => ?_) (fun hg => ?_)
                | refine AP.T ?_
                | refine AP.A ?_ | refine AP.AB 0 ?_ | refine AP.AB 1 ?_ | refine AP.AL ?_
                )
        ) <;> (try simp only [nx, Nat.reduceAdd, Nat.reduceSub, BEq.rfl]))
        | ((with_reducible apply AP.k_nil); first | (refine AP.nil (hQ' _ ?_); clear hQ' Q') | refine AP.nil ?_)
        | ((with_reducible apply CP.k_reg); refine cp_regG fun Q' hQ' => ?_)
          | (with_reducible apply CP.k_reg1; refine cp_region ?_)
          | ((with_reducible apply CP.k_cond); first | refine cp_condT rfl ?_ | refine cp_condF rfl ?_ | refine cp_cond rfl (fun hc => ?_) (fun hc => ?_))
          | refine CP.go ?_
          | (simp only [List.append_eq, List.cons_append, List.nil_append]))
      refine cp_rounds 1 ?_
      repeat' (first
        | ((first
        | ((with_reducible apply AP.k_any); first
                | refine AP.S ?_
                | refine AP.E ?_
                | (refine AP.Y ?_; dsimp only) | refine AP.G (fun hg => ?_) (fun hg => ?_)
                | refine AP.T ?_
                | refine AP.A ?_ | refine AP.AB 0 ?_ | refine AP.AB 1 ?_ | refine AP.AL ?_
                )
        ) <;> (try simp only [nx, Nat.reduceAdd, Nat.reduceSub, BEq.rfl]))
        | ((with_reducible apply AP.k_nil); first | (refine AP.nil (hQ' _ ?_); clear hQ' Q') | refine AP.nil ?_)
        | ((with_reducible apply CP.k_reg); refine cp_regG fun Q' hQ' => ?_)
          | (with_reducible apply CP.k_reg1; refine cp_region ?_)
          | ((with_reducible apply CP.k_cond); first | refine cp_condT rfl ?_ | refine cp_condF rfl ?_ | refine cp_cond rfl (fun hc => ?_) (fun hc => ?_))
          | refine CP.go ?_
          | (simp only [List.append_eq, List.cons_append, List.nil_append]))
      all_goals (refine RetQ.B [] ?_; (try dsimp only [resV, List.getD_cons_succ, List.getD_cons_zero]); (exact ⟨rfl, rfl⟩))
    | true =>
      rw [hm] at hmay hmayD
      rw [printS, hm, if_pos rfl] at hp
      have hL := formM_length hm
      have hsame := same_ac (formM m) (formM m) (by omega)
      rw [decide_eq_true rfl] at hsame
      generalize formM m = f at hp hform hsame hL
      refine AC.N Try.func4 Try.ntmps4 ?_
      intro X
      simp only [nx, Nat.reduceAdd, Nat.reduceSub, BEq.rfl]
      refine CP.gh gh_slot ?_; simp only [nx, Nat.reduceAdd, Nat.reduceSub, BEq.rfl]
      refine CP.gh gh_slot ?_; simp only [nx, Nat.reduceAdd, Nat.reduceSub, BEq.rfl]
      refine CP.gh gh_slot ?_; simp only [nx, Nat.reduceAdd, Nat.reduceSub, BEq.rfl]
      repeat' (first
        | ((first
        | ((with_reducible apply AP.k_any); first
                | refine AP.S ?_
                | refine AP.E ?_
                | (refine AP.Y ?_; dsimp only) | refine AP.G (fun hg => ?_) (fun hg => ?_)
                | refine AP.T ?_
                | refine AP.A ?_ | refine AP.AB 0 ?_ | refine AP.AB 1 ?_ | refine AP.AL ?_
                )
        ) <;> (try simp only [nx, Nat.reduceAdd, Nat.reduceSub, BEq.rfl]))
        | ((with_reducible apply AP.k_nil); first | (refine AP.nil (hQ' _ ?_); clear hQ' Q') | refine AP.nil ?_)
        | ((with_reducible apply CP.k_reg); refine cp_regG fun Q' hQ' => ?_)
          | (with_reducible apply CP.k_reg1; refine cp_region ?_)
          | ((with_reducible apply CP.k_cond); first | refine cp_condT rfl ?_ | refine cp_condF rfl ?_ | refine cp_cond rfl (fun hc => ?_) (fun hc => ?_))
          | refine CP.go ?_
          | (simp only [List.append_eq, List.cons_append, List.nil_append]))
      refine cp_loopS [2, 4, 5, 6, 7, 12, 13, 14, 15, 16, 17, 18, 19, 20, 21, 22, 23, 24, 25, 26, 27, 28, 29, 30, 31, 32, 33, 34, 35, 36, 37, 38, 39, 40, 41, 42, 43, 44, 45, 46, 47, 48, 49, 50, 51, 52, 53, 54] (fun a : Nat × Nat × Nat => 2 - a.1) (fun a => a.1 ≤ 2) (fun a => [(4, I a.1)]) (fun a => [(1, ⟨a.2.1, .x⟩), (2, ⟨a.2.2, .x⟩)]) (0, 0, 0) (by omega) (by exact Gh.W) ?_
      rintro ⟨n, u, v⟩ hn
      simp only [setT, deT, setB, List.set_cons_succ, List.set_cons_zero]
      dsimp only at hn
      have hwn : IntKind.i64.wrap ((n : Int) + 1) = ((n + 1 : Nat) : Int) := wrap_i64 (by omega) (by omega)
      repeat' (first
        | ((first
        | ((with_reducible apply AP.k_any); first
                | refine AP.S ?_
                | refine AP.E ?_
                | (refine AP.Y ?_; dsimp only) | refine AP.G (fun hg => ?_) (fun hg => ?_)
                | refine AP.T ?_
                | refine AP.A ?_ | refine AP.AB 0 ?_ | refine AP.AB 1 ?_ | refine AP.AL ?_
                )
        ) <;> (try simp only [nx, Nat.reduceAdd, Nat.reduceSub, BEq.rfl]))
        | ((with_reducible apply AP.k_nil); first | (refine AP.nil (hQ' _ ?_); clear hQ' Q') | refine AP.nil ?_)
        | ((with_reducible apply CP.k_reg); refine cp_regG fun Q' hQ' => ?_)
          | (with_reducible apply CP.k_reg1; refine cp_region ?_)
          | ((with_reducible apply CP.k_cond); first | refine cp_condT rfl ?_ | refine cp_condF rfl ?_ | refine cp_cond rfl (fun hc => ?_) (fun hc => ?_))
          | refine CP.go ?_
          | (simp only [List.append_eq, List.cons_append, List.nil_append]))
      · refine cp_loopS [7, 43, 44, 45, 46, 47, 48, 49, 50, 51, 52, 53, 54] (fun a : Nat => f.length - a) (fun a => a ≤ f.length) (fun a => [(7, I a)]) (fun a => [(1, ⟨u + 1, .r tU 1 ((incN f a).map eB)⟩)]) 0 (Nat.zero_le _) (by (rw [incN_zero]; exact Gh.W)) ?_
        intro k hk
        simp only [setT, deT, setB, List.set_cons_succ, List.set_cons_zero]
        by_cases hlt : k < f.length
        · have hw : IntKind.i64.wrap ((k : Int) + 1) = ((k + 1 : Nat) : Int) := wrap_i64 (by omega) (by omega)
          have hrow : ((incN f k).map eB)[k]? = some (eB f[k]) := by rw [List.getElem?_map, incN_get hlt]; rfl
          have hset : ((incN f k).map eB).set k [.sc (.int .u8 (IntKind.u8.wrap ((f[k].toNat : Int) + 1)))] = (incN f (k + 1)).map eB := by rw [← incN_set hlt, List.map_set, incU]
          have hlk : ((incN f k).map eB).length = f.length := by rw [List.length_map, incN_len]
          repeat' (first
            | ((first
            | ((with_reducible apply AP.k_any); first
                    | refine AP.S ?_
                    | refine AP.E ?_
                    | (refine AP.Y ?_; dsimp only) | refine AP.G (fun hg => ?_) (fun hg => ?_)
                    | refine AP.T ?_
                    | refine AP.A ?_ | refine AP.AB 0 ?_ | refine AP.AB 1 ?_ | refine AP.AL ?_
                    )
            ) <;> (try simp only [nx, Nat.reduceAdd, Nat.reduceSub, BEq.rfl]))
            | ((with_reducible apply AP.k_nil); first | (refine AP.nil (hQ' _ ?_); clear hQ' Q') | refine AP.nil ?_)
            | ((with_reducible apply CP.k_reg); refine cp_regG fun Q' hQ' => ?_)
              | (with_reducible apply CP.k_reg1; refine cp_region ?_)
              | ((with_reducible apply CP.k_cond); first | refine cp_condT rfl ?_ | refine cp_condF rfl ?_ | refine cp_cond rfl (fun hc => ?_) (fun hc => ?_))
              | refine CP.go ?_
              | (simp only [List.append_eq, List.cons_append, List.nil_append]))
          · simp only [hw]
            exact ⟨k + 1, by omega, by omega, by (rw [← hset]; exact Gh.W)⟩
          · exfalso; (repeat (rename AC _ _ _ _ _ => hzz; clear hzz)); simp [incN_len] at *; omega
        · obtain rfl : k = f.length := by omega
          repeat' (first
            | ((first
            | ((with_reducible apply AP.k_any); first
                    | refine AP.S ?_
                    | refine AP.E ?_
                    | (refine AP.Y ?_; dsimp only) | refine AP.G (fun hg => ?_) (fun hg => ?_)
                    | refine AP.T ?_
                    | refine AP.A ?_ | refine AP.AB 0 ?_ | refine AP.AB 1 ?_ | refine AP.AL ?_
                    )
            ) <;> (try simp only [nx, Nat.reduceAdd, Nat.reduceSub, BEq.rfl]))
            | ((with_reducible apply AP.k_nil); first | (refine AP.nil (hQ' _ ?_); clear hQ' Q') | refine AP.nil ?_)
            | ((with_reducible apply CP.k_reg); refine cp_regG fun Q' hQ' => ?_)
              | (with_reducible apply CP.k_reg1; refine cp_region ?_)
              | ((with_reducible apply CP.k_cond); first | refine cp_condT rfl ?_ | refine cp_condF rfl ?_ | refine cp_cond rfl (fun hc => ?_) (fun hc => ?_))
              | refine CP.go ?_
              | (simp only [List.append_eq, List.cons_append, List.nil_append]))
          · exfalso; (repeat (rename AC _ _ _ _ _ => hzz; clear hzz)); simp [incN_len] at *
          · simp only [hwn]
            refine ⟨(n + 1, u + 1, v + 1), ?_, ?_, by exact Gh.W⟩
            · (repeat (rename AC _ _ _ _ _ => hzz; clear hzz)); simp at *; omega
            · (repeat (rename AC _ _ _ _ _ => hzz; clear hzz)); simp at *; omega
      · (refine RetQ.B [] ?_; (try dsimp only [resV, List.getD_cons_succ, List.getD_cons_zero]); (exact ⟨rfl, rfl⟩))
set_option maxRecDepth 100000 in
theorem messagePrint_lifted (os : Os) (started : os.Started) (H : Type) (enc : TypeId × Value → H) (F : Stop.Interp) :
    ReturnsInHanded {} Try.checked os 4 .any ((Rows.OpenSpec.upto Rows.messagePrintSpec).pre6 enc Try.prog Try.f4 Rows.messagePrintUptoRow.domain false) (((Rows.OpenSpec.upto Rows.messagePrintSpec).at F).post enc Try.prog Try.f4 false true false false) := by
  refine returnsInHanded_of_cond (C := Try.checked) (s := Rows.OpenSpec.upto Rows.messagePrintSpec) (k := Rows.uptoSmall) rfl own_knob started (by kernel_rfl) Try.func4
    (OpenSpec.witness (enc := enc) (C := Try.checked) (s := Rows.OpenSpec.upto Rows.messagePrintSpec) (k := Rows.uptoSmall) rfl false ⟨#[], #[.agg #[.int .u8 0, .int .i64 0, .int .i64 0, .slice none 0 0, .int .i64 0, .int .i64 0, .slice none 0 0, .int .i64 0, .int .i64 0, .int .i64 0, .slice none 0 0, .int .i64 0]], []⟩ 8 (by kernel_rfl) (by kernel_rfl) (by kernel_rfl)
      (x := ([.agg [.lit (.int .u8 0), .lit (.int .i64 0), .lit (.int .i64 0), .nil, .lit (.int .i64 0), .lit (.int .i64 0), .nil, .lit (.int .i64 0), .lit (.int .i64 0), .agg [.lit (.int .i64 0), .nil], .lit (.int .i64 0)]], [], [])) (by kernel_rfl) rfl (by kernel_rfl)) ?_
  intro W base args ds gs before hval0 hW _ hk _
  have hval : ∀ (j : Nat) t v, Try.f4.params[j]? = some t → args[j]? = some v → Value.okWide Try.prog W .any base t v := hval0
  have hW' := hW
  obtain ⟨p, q, hA0, hV, rfl, hfz, hnd⟩ := hW
  have hA : DataW.TrodAll enc Try.prog W 0 (fun _ => true) true Try.f4.params.toList args.toList ds p := hA0
  rw [Try.params4] at hA hval
  obtain ⟨rfl, rfl⟩ := trodVars_none hV
  have hb := bulk_of hk
  obtain ⟨v0, vs0, d0, ds0, p0, q0, hargs, rfl, rfl, h0, r0⟩ := trodAll_cons hA
  obtain ⟨rfl, rfl, rfl⟩ := trodAll_nil r0
  obtain rfl : args = #[v0] := by cases args; simp_all
  simp only [List.append_nil, Rows.uptoBulkAll, Nat.add_zero] at hb
  obtain ⟨m, hm, hr0⟩ := arg_ag Try.underlying43 omg (hval 0 _ v0 rfl rfl) h0
  have hs := hm.small (by omega)
  refine (ac_law (mprint_ac m hs hm.1) (W := W) (vs := [v0]) fun φ κ => .cons (S := Ct.z) (T := Ct.z) (hr0 φ κ) .nil fun _ => rfl).mono fun e W' ⟨he, hb⟩ => ⟨_, he, ?_⟩
  exact law_post laidOut rfl (by kernel_rfl) Try.underlying4 (by kernel_rfl) hW' (fun gs' h => by subst h; rfl) hb
theorem messagePrint_holds : Rows.MessagePrintUptoSaid :=
  OpenClaim.holds_of_cond 4 Try.f4 rfl rfl rfl rfl rfl rfl rfl ⟨rfl, rfl, rfl, rfl, rfl⟩ rfl rfl rfl rfl rfl (by kernel_rfl) Try.func4 (by kernel_rfl)
    (of_decide_eq_true (by kernel_rfl)) (by unfold Func.isWrapper; first | (rw [if_pos (by decide +kernel)]; kernel_rfl) | (rw [if_neg (by decide +kernel)]; exact ⟨rfl, rfl⟩))
    (fun os started H enc _ F => messagePrint_lifted os started H enc F)
#print axioms messagePrint_holds
end Go.Proofs.Ytpdegeknhapgmaa
