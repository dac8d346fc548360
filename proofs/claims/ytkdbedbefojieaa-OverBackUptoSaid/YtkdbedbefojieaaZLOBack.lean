/-
  For every record, all bytes and every cut (of bulk at most 1048576) the law OverBack returns true, and each argument reads behind the call as it did. No other condition.
-/
import Derived.Test.YtkdbedbefojieaaZ1
import Derived.Test.YtkdbedbefojieaaZ2
import Derived.Test.YtkdbedbefojieaaZ3
import Derived.Test.YtkdbedbefojieaaZ4
import Derived.Test.YtkdbedbefojieaaZ5
import Derived.Deep.CondSized
namespace Go.Proofs.Ytkdbedbefojieaa
set_option linter.unusedVariables false
set_option linter.unusedSimpArgs false
set_option maxHeartbeats 8000000
open Go.RowKit Go.ChangeShapes Go.WideShapes Go.ChangeAt Go.Deep
set_option maxRecDepth 100000
section
attribute [local irreducible] IntKind.wrap
theorem obw_0 (r : Record) (b : List UInt8) (cut : Int) (hb : b.length ≤ 100000000) (hgreat : AC Try.prog 18 [.ag (eR r)] [] (fun v bs => v = B (greatS r) ∧ bs = [])) (hgt : greatS r = true ∨ 3000 < b.length) :
    AC Try.prog 10 [.ag (eR r), bs none b, I cut] [] (fun v bs' => v = B true ∧ bs' = []) := by
  have ha := awake_ac
  refine AC.N Try.func10 Try.ntmps10 ?_
  intro X
  simp only [nx, Nat.reduceAdd, Nat.reduceSub, BEq.rfl]
  repeat' (first
    | ((first
    | ((with_reducible apply AP.k_any); first
            | refine AP.S ?_
            | (refine AP.Y ?_; dsimp only) | refine AP.G (fun hg => ?_) (fun hg => ?_)
            | refine AP.A ?_ | refine AP.AB 0 ?_ | refine AP.AB 1 ?_ | refine AP.AL ?_
            )
    ) <;> (try simp only [nx, Nat.reduceAdd, Nat.reduceSub, BEq.rfl]))
    | ((with_reducible apply AP.k_nil); first | (refine AP.nil (hQ' _ ?_); clear hQ' Q') | refine AP.nil ?_)
    | ((with_reducible apply CP.k_reg); refine cp_regG fun Q' hQ' => ?_)
      | (with_reducible apply CP.k_reg1; refine cp_region ?_)
      | ((with_reducible apply CP.k_cond); first | refine cp_condT rfl ?_ | refine cp_condF rfl ?_ | refine cp_cond rfl (fun hc => ?_) (fun hc => ?_))
      | refine CP.go ?_
      | (simp only [List.append_eq, List.cons_append, List.nil_append]))
  all_goals first
    | (exact RetQ.A [] (by exact ⟨rfl, rfl⟩))
    | (exfalso; (repeat (rename AC _ _ _ _ _ => hzz; clear hzz)); simp at *; simp_all; omega)
    | (exfalso; (repeat (rename AC _ _ _ _ _ => hzz; clear hzz)); simp at *; omega)
/-- the record may be; the cut is one -/
theorem obw_1 (r w : Record) (F b D : List UInt8) (cut : Int) (f g : Int) (hF : F.length ≤ 2000) (hb : b.length ≤ 3000) (hcut : 0 < cut ∧ cut ≤ (F.length : Int)) (hgreat : AC Try.prog 18 [.ag (eR r)] [] (fun v bs => v = B false ∧ bs = []))
    (hp : AC Try.prog 27 [.ag (eR r)] [] (fun v bs' => v = .tu [bs none F, I 0] ∧ bs' = []))
    (h1 : AC Try.prog 32 [bs none F] [] (fun v bs => v = .tu [.ag (eR r), I 0] ∧ bs = []))
    (h2 : AC Try.prog 34 [.ag (eR r), .ag (eR r)] [] (fun v bs => v = B true ∧ bs = []))
    (h3 : AC Try.prog 32 [bs none (F.take (IntKind.i64.wrap ((F.length : Int) - cut)).toNat)] [] (fun v bs => v = .tu [.ag (eR rec0), I 200] ∧ bs = []))
    (h4 : AC Try.prog 32 [bs none b] [] (fun v bs => v = .tu [.ag (eR w), I f] ∧ bs = []))
    (hf : f = 200 ∨ f = 0 ∧ (AC Try.prog 27 [.ag (eR w)] [] (fun v bs' => v = .tu [bs none b, I 0] ∧ bs' = [])) ∧ AC Try.prog 35 [bs none b, bs none b] [] (fun v bs' => v = B true ∧ bs' = [])) :
    AC Try.prog 10 [.ag (eR r), bs none b, I cut] [] (fun v bs' => v = B true ∧ bs' = []) := by
  have ha := awake_ac
  have hw : IntKind.i64.wrap (((F.length : Int)) - cut) = (F.length : Int) - cut := wrap_i64 (by omega) (by omega)
  have hwa : 0 ≤ IntKind.i64.wrap ((F.length : Int) - cut) ∧ IntKind.i64.wrap ((F.length : Int) - cut) ≤ (F.length : Int) := by omega
  have hwb : IntKind.i64.wrap ((F.length : Int) - cut) ≤ ((F.map eB).length : Int) := by simp; omega
  have hwc := hwa.1
  rcases hf with rfl | ⟨rfl, h5, h6⟩
  · refine AC.N Try.func10 Try.ntmps10 ?_
    intro X
    simp only [nx, Nat.reduceAdd, Nat.reduceSub, BEq.rfl]
    repeat' (first
      | ((first
      | ((with_reducible apply AP.k_any); first
              | refine AP.S ?_
              | (refine AP.Y ?_; dsimp only) | refine AP.G (fun hg => ?_) (fun hg => ?_)
              | refine AP.A ?_ | refine AP.AB 0 ?_ | refine AP.AB 1 ?_ | refine AP.AL ?_
              | ((with_reducible apply AP.k_any); refine AP.C (h1) ?_)
                    | ((with_reducible apply AP.k_any); refine AP.C (h3) ?_)
                    | ((with_reducible apply AP.k_any); refine AP.C (h4) ?_)
                    | ((with_reducible apply AP.k_any); refine AP.gh (gh_fz (b := 2) (u := 1) rfl rfl (by (repeat' (first | exact FzC.nil | apply FzC.cons | exact FzV.hd | apply FzV.ag | exact FzV.same))) (by (repeat' (first | exact FzB.nil | apply FzB.c | apply FzB.same | exact FzC.nil | apply FzC.cons | exact FzV.hd | apply FzV.ag | exact FzV.same)))) ?_; (try simp only [nx, Nat.reduceAdd, Nat.reduceSub, BEq.rfl]); (try simp only [ro_B])))
      ) <;> (try simp only [nx, Nat.reduceAdd, Nat.reduceSub, BEq.rfl]))
      | ((with_reducible apply AP.k_nil); first | (refine AP.nil (hQ' _ ?_); clear hQ' Q') | refine AP.nil ?_)
      | ((with_reducible apply CP.k_reg); refine cp_regG fun Q' hQ' => ?_)
        | (with_reducible apply CP.k_reg1; refine cp_region ?_)
        | ((with_reducible apply CP.k_cond); first | refine cp_condT rfl ?_ | refine cp_condF rfl ?_ | refine cp_cond rfl (fun hc => ?_) (fun hc => ?_))
        | refine CP.go ?_
        | (simp only [List.append_eq, List.cons_append, List.nil_append]))
    all_goals first
      | (exact RetQ.A [] (by exact ⟨rfl, rfl⟩))
      | (exfalso; (repeat (rename AC _ _ _ _ _ => hzz; clear hzz)); simp at *; omega)
  · refine AC.N Try.func10 Try.ntmps10 ?_
    intro X
    simp only [nx, Nat.reduceAdd, Nat.reduceSub, BEq.rfl]
    repeat' (first
      | ((first
      | ((with_reducible apply AP.k_any); first
              | refine AP.S ?_
              | (refine AP.Y ?_; dsimp only) | refine AP.G (fun hg => ?_) (fun hg => ?_)
              | refine AP.A ?_ | refine AP.AB 0 ?_ | refine AP.AB 1 ?_ | refine AP.AL ?_
              | ((with_reducible apply AP.k_any); refine AP.C (hp) ?_)
                    | ((with_reducible apply AP.k_any); refine AP.C (h1) ?_)
                    | ((with_reducible apply AP.k_any); refine AP.C (h3) ?_)
                    | ((with_reducible apply AP.k_any); refine AP.C (h4) ?_)
                    | ((with_reducible apply AP.k_any); refine AP.C (h5) ?_)
                    | ((with_reducible apply AP.k_any); refine AP.gh (gh_fz (b := 2) (u := 1) rfl rfl (by (repeat' (first | exact FzC.nil | apply FzC.cons | exact FzV.hd | apply FzV.ag | exact FzV.same))) (by (repeat' (first | exact FzB.nil | apply FzB.c | apply FzB.same | exact FzC.nil | apply FzC.cons | exact FzV.hd | apply FzV.ag | exact FzV.same)))) ?_; (try simp only [nx, Nat.reduceAdd, Nat.reduceSub, BEq.rfl]); (try simp only [ro_B])))
      ) <;> (try simp only [nx, Nat.reduceAdd, Nat.reduceSub, BEq.rfl]))
      | ((with_reducible apply AP.k_nil); first | (refine AP.nil (hQ' _ ?_); clear hQ' Q') | refine AP.nil ?_)
      | ((with_reducible apply CP.k_reg); refine cp_regG fun Q' hQ' => ?_)
        | (with_reducible apply CP.k_reg1; refine cp_region ?_)
        | ((with_reducible apply CP.k_cond); first | refine cp_condT rfl ?_ | refine cp_condF rfl ?_ | refine cp_cond rfl (fun hc => ?_) (fun hc => ?_))
        | refine CP.go ?_
        | (simp only [List.append_eq, List.cons_append, List.nil_append]))
    all_goals first
      | (exact RetQ.A [] (by exact ⟨rfl, rfl⟩))
      | (exfalso; (repeat (rename AC _ _ _ _ _ => hzz; clear hzz)); simp at *; omega)
theorem obw_2 (r w : Record) (F b D : List UInt8) (cut : Int) (f g : Int) (hF : F.length ≤ 2000) (hb : b.length ≤ 3000) (hcut : ¬ (0 < cut ∧ cut ≤ (F.length : Int))) (hgreat : AC Try.prog 18 [.ag (eR r)] [] (fun v bs => v = B false ∧ bs = []))
    (hp : AC Try.prog 27 [.ag (eR r)] [] (fun v bs' => v = .tu [bs none F, I 0] ∧ bs' = []))
    (h1 : AC Try.prog 32 [bs none F] [] (fun v bs => v = .tu [.ag (eR r), I 0] ∧ bs = []))
    (h2 : AC Try.prog 34 [.ag (eR r), .ag (eR r)] [] (fun v bs => v = B true ∧ bs = []))
    (h4 : AC Try.prog 32 [bs none b] [] (fun v bs => v = .tu [.ag (eR w), I f] ∧ bs = []))
    (hf : f = 200 ∨ f = 0 ∧ (AC Try.prog 27 [.ag (eR w)] [] (fun v bs' => v = .tu [bs none b, I 0] ∧ bs' = [])) ∧ AC Try.prog 35 [bs none b, bs none b] [] (fun v bs' => v = B true ∧ bs' = [])) :
    AC Try.prog 10 [.ag (eR r), bs none b, I cut] [] (fun v bs' => v = B true ∧ bs' = []) := by
  have ha := awake_ac
  rcases hf with rfl | ⟨rfl, h5, h6⟩
  · refine AC.N Try.func10 Try.ntmps10 ?_
    intro X
    simp only [nx, Nat.reduceAdd, Nat.reduceSub, BEq.rfl]
    repeat' (first
      | ((first
      | ((with_reducible apply AP.k_any); first
              | refine AP.S ?_
              | (refine AP.Y ?_; dsimp only) | refine AP.G (fun hg => ?_) (fun hg => ?_)
              | refine AP.A ?_ | refine AP.AB 0 ?_ | refine AP.AB 1 ?_ | refine AP.AL ?_
              | ((with_reducible apply AP.k_any); refine AP.C (h1) ?_)
                    | ((with_reducible apply AP.k_any); refine AP.C (h4) ?_)
                    | ((with_reducible apply AP.k_any); refine AP.gh (gh_fz (b := 2) (u := 1) rfl rfl (by (repeat' (first | exact FzC.nil | apply FzC.cons | exact FzV.hd | apply FzV.ag | exact FzV.same))) (by (repeat' (first | exact FzB.nil | apply FzB.c | apply FzB.same | exact FzC.nil | apply FzC.cons | exact FzV.hd | apply FzV.ag | exact FzV.same)))) ?_; (try simp only [nx, Nat.reduceAdd, Nat.reduceSub, BEq.rfl]); (try simp only [ro_B])))
      ) <;> (try simp only [nx, Nat.reduceAdd, Nat.reduceSub, BEq.rfl]))
      | ((with_reducible apply AP.k_nil); first | (refine AP.nil (hQ' _ ?_); clear hQ' Q') | refine AP.nil ?_)
      | ((with_reducible apply CP.k_reg); refine cp_regG fun Q' hQ' => ?_)
        | (with_reducible apply CP.k_reg1; refine cp_region ?_)
        | ((with_reducible apply CP.k_cond); first | refine cp_condT rfl ?_ | refine cp_condF rfl ?_ | refine cp_cond rfl (fun hc => ?_) (fun hc => ?_))
        | refine CP.go ?_
        | (simp only [List.append_eq, List.cons_append, List.nil_append]))
    all_goals first
      | (exact RetQ.A [] (by exact ⟨rfl, rfl⟩))
      | (exfalso; (repeat (rename AC _ _ _ _ _ => hzz; clear hzz)); simp at *; omega)
  · refine AC.N Try.func10 Try.ntmps10 ?_
    intro X
    simp only [nx, Nat.reduceAdd, Nat.reduceSub, BEq.rfl]
    repeat' (first
      | ((first
      | ((with_reducible apply AP.k_any); first
              | refine AP.S ?_
              | (refine AP.Y ?_; dsimp only) | refine AP.G (fun hg => ?_) (fun hg => ?_)
              | refine AP.A ?_ | refine AP.AB 0 ?_ | refine AP.AB 1 ?_ | refine AP.AL ?_
              | ((with_reducible apply AP.k_any); refine AP.C (hp) ?_)
                    | ((with_reducible apply AP.k_any); refine AP.C (h1) ?_)
                    | ((with_reducible apply AP.k_any); refine AP.C (h4) ?_)
                    | ((with_reducible apply AP.k_any); refine AP.C (h5) ?_)
                    | ((with_reducible apply AP.k_any); refine AP.gh (gh_fz (b := 2) (u := 1) rfl rfl (by (repeat' (first | exact FzC.nil | apply FzC.cons | exact FzV.hd | apply FzV.ag | exact FzV.same))) (by (repeat' (first | exact FzB.nil | apply FzB.c | apply FzB.same | exact FzC.nil | apply FzC.cons | exact FzV.hd | apply FzV.ag | exact FzV.same)))) ?_; (try simp only [nx, Nat.reduceAdd, Nat.reduceSub, BEq.rfl]); (try simp only [ro_B])))
      ) <;> (try simp only [nx, Nat.reduceAdd, Nat.reduceSub, BEq.rfl]))
      | ((with_reducible apply AP.k_nil); first | (refine AP.nil (hQ' _ ?_); clear hQ' Q') | refine AP.nil ?_)
      | ((with_reducible apply CP.k_reg); refine cp_regG fun Q' hQ' => ?_)
        | (with_reducible apply CP.k_reg1; refine cp_region ?_)
        | ((with_reducible apply CP.k_cond); first | refine cp_condT rfl ?_ | refine cp_condF rfl ?_ | refine cp_cond rfl (fun hc => ?_) (fun hc => ?_))
        | refine CP.go ?_
        | (simp only [List.append_eq, List.cons_append, List.nil_append]))
    all_goals first
      | (exact RetQ.A [] (by exact ⟨rfl, rfl⟩))
      | (exfalso; (repeat (rename AC _ _ _ _ _ => hzz; clear hzz)); simp at *; omega)
/-- the record may not be -/
theorem obw_3 (r w : Record) (b D : List UInt8) (cut : Int) (f g : Int) (hb : b.length ≤ 3000) (hgreat : AC Try.prog 18 [.ag (eR r)] [] (fun v bs => v = B false ∧ bs = []))
    (hp : AC Try.prog 27 [.ag (eR r)] [] (fun v bs' => v = .tu [bs none [], I 2] ∧ bs' = []))
    (h4 : AC Try.prog 32 [bs none b] [] (fun v bs => v = .tu [.ag (eR w), I f] ∧ bs = []))
    (hf : f = 200 ∨ f = 0 ∧ (AC Try.prog 27 [.ag (eR w)] [] (fun v bs' => v = .tu [bs none b, I 0] ∧ bs' = [])) ∧ AC Try.prog 35 [bs none b, bs none b] [] (fun v bs' => v = B true ∧ bs' = [])) :
    AC Try.prog 10 [.ag (eR r), bs none b, I cut] [] (fun v bs' => v = B true ∧ bs' = []) := by
  have ha := awake_ac
  rcases hf with rfl | ⟨rfl, h5, h6⟩
  · refine AC.N Try.func10 Try.ntmps10 ?_
    intro X
    simp only [nx, Nat.reduceAdd, Nat.reduceSub, BEq.rfl]
    repeat' (first
      | ((first
      | ((with_reducible apply AP.k_any); first
              | refine AP.S ?_
              | (refine AP.Y ?_; dsimp only) | refine AP.G (fun hg => ?_) (fun hg => ?_)
              | refine AP.A ?_ | refine AP.AB 0 ?_ | refine AP.AB 1 ?_ | refine AP.AL ?_
              | ((with_reducible apply AP.k_any); refine AP.gh (gh_fz (b := 2) (u := 1) rfl rfl (by (repeat' (first | exact FzC.nil | apply FzC.cons | exact FzV.hd | apply FzV.ag | exact FzV.same))) (by (repeat' (first | exact FzB.nil | apply FzB.c | apply FzB.same | exact FzC.nil | apply FzC.cons | exact FzV.hd | apply FzV.ag | exact FzV.same)))) ?_; (try simp only [nx, Nat.reduceAdd, Nat.reduceSub, BEq.rfl]); (try simp only [ro_B])))
      ) <;> (try simp only [nx, Nat.reduceAdd, Nat.reduceSub, BEq.rfl]))
      | ((with_reducible apply AP.k_nil); first | (refine AP.nil (hQ' _ ?_); clear hQ' Q') | refine AP.nil ?_)
      | ((with_reducible apply CP.k_reg); refine cp_regG fun Q' hQ' => ?_)
        | (with_reducible apply CP.k_reg1; refine cp_region ?_)
        | ((with_reducible apply CP.k_cond); first | refine cp_condT rfl ?_ | refine cp_condF rfl ?_ | refine cp_cond rfl (fun hc => ?_) (fun hc => ?_))
        | refine CP.go ?_
        | (simp only [List.append_eq, List.cons_append, List.nil_append]))
    all_goals first
      | (exact RetQ.A [] (by exact ⟨rfl, rfl⟩))
      | (exfalso; (repeat (rename AC _ _ _ _ _ => hzz; clear hzz)); simp at *; omega)
  · refine AC.N Try.func10 Try.ntmps10 ?_
    intro X
    simp only [nx, Nat.reduceAdd, Nat.reduceSub, BEq.rfl]
    repeat' (first
      | ((first
      | ((with_reducible apply AP.k_any); first
              | refine AP.S ?_
              | (refine AP.Y ?_; dsimp only) | refine AP.G (fun hg => ?_) (fun hg => ?_)
              | refine AP.A ?_ | refine AP.AB 0 ?_ | refine AP.AB 1 ?_ | refine AP.AL ?_
              | ((with_reducible apply AP.k_any); refine AP.C (hp) ?_)
                    | ((with_reducible apply AP.k_any); refine AP.C (h5) ?_)
                    | ((with_reducible apply AP.k_any); refine AP.gh (gh_fz (b := 2) (u := 1) rfl rfl (by (repeat' (first | exact FzC.nil | apply FzC.cons | exact FzV.hd | apply FzV.ag | exact FzV.same))) (by (repeat' (first | exact FzB.nil | apply FzB.c | apply FzB.same | exact FzC.nil | apply FzC.cons | exact FzV.hd | apply FzV.ag | exact FzV.same)))) ?_; (try simp only [nx, Nat.reduceAdd, Nat.reduceSub, BEq.rfl]); (try simp only [ro_B])))
      ) <;> (try simp only [nx, Nat.reduceAdd, Nat.reduceSub, BEq.rfl]))
      | ((with_reducible apply AP.k_nil); first | (refine AP.nil (hQ' _ ?_); clear hQ' Q') | refine AP.nil ?_)
      | ((with_reducible apply CP.k_reg); refine cp_regG fun Q' hQ' => ?_)
        | (with_reducible apply CP.k_reg1; refine cp_region ?_)
        | ((with_reducible apply CP.k_cond); first | refine cp_condT rfl ?_ | refine cp_condF rfl ?_ | refine cp_cond rfl (fun hc => ?_) (fun hc => ?_))
        | refine CP.go ?_
        | (simp only [List.append_eq, List.cons_append, List.nil_append]))
    all_goals first
      | (exact RetQ.A [] (by exact ⟨rfl, rfl⟩))
      | (exfalso; (repeat (rename AC _ _ _ _ _ => hzz; clear hzz)); simp at *; omega)
end
theorem oback_ac (r : Record) (b : List UInt8) (cut : Int) (hg : rngR r) (hl : r.book.cfg.members.length ≤ 100000000) (hbd : r.entry.body.length ≤ 100000000) (hb : b.length ≤ 100000000) (hcut : I64 cut) :
    AC Try.prog 10 [.ag (eR r), bs none b, I cut] [] (fun v bs' => v = B true ∧ bs' = []) := by
  have hgreat := great_ac r
  by_cases hgt : greatS r = true ∨ 3000 < b.length
  · exact obw_0 r b cut hb hgreat hgt
  · have hg1 : greatS r = false := by simpa using fun h => hgt (.inl h)
    have hb3 : b.length ≤ 3000 := by omega
    rw [hg1] at hgreat
    have hl1 : r.book.cfg.members.length ≤ 1000 := by simp [greatS] at hg1; omega
    have hb1 : r.entry.body.length ≤ 10000 := by simp [greatS] at hg1; omega
    have hp := print_ac r hl1 hb1
    have h4 := parse_ac b hb
    obtain ⟨w, f, hw, hf⟩ : ∃ w f, parseS b = (w, f) ∧ (f = 200 ∨ f = 0 ∧ (AC Try.prog 27 [.ag (eR w)] [] (fun v bs' => v = .tu [bs none b, I 0] ∧ bs' = [])) ∧ AC Try.prog 35 [bs none b, bs none b] [] (fun v bs' => v = B true ∧ bs' = [])) := by
      rcases rparse_cases b (by omega) with ⟨w, h1, h2, h3, h5⟩ | h1
      · have hm := recR_small b
        have hbo := recR_body b (Nat.le_refl _)
        have e : w = (recR (newR b)).1 := by
          unfold parseS at h1
          split at h1
          · exact (congrArg Prod.fst h1).symm
          · simp at h1
        have hp2 := print_ac w (by rw [e]; omega) (by rw [e]; omega)
        rw [printS, if_pos h2, h3] at hp2
        have hs := wsame_ac b b hb
        rw [decide_eq_true rfl] at hs
        exact ⟨w, 0, h1, .inr ⟨rfl, hp2, hs⟩⟩
      · exact ⟨_, _, h1, .inl rfl⟩
    rw [hw] at h4
    by_cases hm : mayR r = true
    · rw [printS, if_pos hm] at hp
      have hlen := recForm_len hm
      have h1 := parse_ac (recForm r) (by omega)
      rw [rparse_form hm hg] at h1
      have h2 := dsame_ac r r (by omega) (by omega)
      rw [eqRec_iff.2 rfl] at h2
      by_cases hc : 0 < cut ∧ cut ≤ ((recForm r).length : Int)
      · have hwr : IntKind.i64.wrap (((recForm r).length : Int) - cut) = ((recForm r).length : Int) - cut := wrap_i64 (by omega) (by omega)
        have h3 := parse_ac ((recForm r).take (IntKind.i64.wrap (((recForm r).length : Int) - cut)).toNat) (by rw [List.length_take]; omega)
        rw [rparse_cut hm hg (c := (recForm r).drop (IntKind.i64.wrap (((recForm r).length : Int) - cut)).toNat) (List.take_append_drop _ _).symm (fun h => by
          have := congrArg List.length h
          rw [List.length_drop, hwr] at this; simp at this; omega)] at h3
        exact obw_1 r w (recForm r) b [] cut f 0 hlen hb3 hc hgreat hp h1 h2 h3 h4 hf
      · exact obw_2 r w (recForm r) b [] cut f 0 hlen hb3 hc hgreat hp h1 h2 h4 hf
    · rw [printS, if_neg hm] at hp
      exact obw_3 r w b [] cut f 0 hb3 hgreat hp h4 hf
set_option maxRecDepth 100000 in
theorem overBack_lifted (os : Os) (started : os.Started) (H : Type) (enc : TypeId × Value → H) (F : Stop.Interp) :
    ReturnsInHanded {} Try.checked os 10 .any ((Rows.OpenSpec.upto Rows.overBackSpec).pre6 enc Try.prog Try.f10 Rows.overBackUptoRow.domain false) (((Rows.OpenSpec.upto Rows.overBackSpec).at F).post enc Try.prog Try.f10 false true false false) := by
  refine returnsInHanded_of_cond (C := Try.checked) (s := Rows.OpenSpec.upto Rows.overBackSpec) (k := Rows.uptoSmall) rfl own_knob started (by kernel_rfl) Try.func10
    (OpenSpec.witness (enc := enc) (C := Try.checked) (s := Rows.OpenSpec.upto Rows.overBackSpec) (k := Rows.uptoSmall) rfl false ⟨#[], #[.agg #[.int .u8 0, .int .i64 0, .slice none 0 0, .int .i64 0, .bool false, .int .i64 0, .bool false, .int .i64 0, .int .i64 0, .int .i64 0, .int .i64 0, .slice none 0 0], .slice none 0 0, .int .i64 0], []⟩ 8 (by kernel_rfl) (by kernel_rfl) (by kernel_rfl)
      (x := ([.agg [.lit (.int .u8 0), .agg [.agg [.lit (.int .i64 0), .nil], .lit (.int .i64 0), .lit (.bool false), .lit (.int .i64 0)], .lit (.bool false), .agg [.lit (.int .i64 0), .lit (.int .i64 0), .lit (.int .i64 0), .lit (.int .i64 0), .nil]], .nil, .lit (.int .i64 0)], [], [])) (by kernel_rfl) rfl (by kernel_rfl)) ?_
  intro W base args ds gs before hval0 hW _ hk _
  have hval : ∀ (j : Nat) t v, Try.f10.params[j]? = some t → args[j]? = some v → Value.okWide Try.prog W .any base t v := hval0
  have hW' := hW
  obtain ⟨p, q, hA0, hV, rfl, hfz, hnd⟩ := hW
  have hA : DataW.TrodAll enc Try.prog W 0 (fun _ => true) true Try.f10.params.toList args.toList ds p := hA0
  rw [Try.params10] at hA hval
  obtain ⟨rfl, rfl⟩ := trodVars_none hV
  have hb := bulk_of hk
  obtain ⟨v0, vs0, d0, ds0, p0, q0, hargs, rfl, rfl, h0, r0⟩ := trodAll_cons hA
  obtain ⟨v1, vs1, d1, ds1, p1, q1, rfl, rfl, rfl, h1, r1⟩ := trodAll_cons r0
  obtain ⟨v2, vs2, d2, ds2, p2, q2, rfl, rfl, rfl, h2, r2⟩ := trodAll_cons r1
  obtain ⟨rfl, rfl, rfl⟩ := trodAll_nil r2
  obtain rfl : args = #[v0, v1, v2] := by cases args; simp_all
  simp only [List.append_nil, Rows.uptoBulkAll, Nat.add_zero] at hb
  obtain ⟨r, hrk, hr0⟩ := arg_ag Try.underlying43 orc (hval 0 _ v0 rfl rfl) h0
  obtain ⟨b, hbk, hr1⟩ := arg_1 obs (cells_slice Try.underlying39 (hval 1 _ v1 rfl rfl)) h1
  obtain ⟨cut, hcut, hr2⟩ := arg_1 oi (cells_int Try.underlying3 (hval 2 _ v2 rfl rfl)) h2
  have hb2 := hbk.2
  have k1 := hrk.1.1.2.2
  have k2 := hrk.2.2.2.2.2
  refine (ac_law (oback_ac r b cut ⟨⟨hrk.1.1.1, fun x hx => hrk.1.1.2.1 x hx⟩, hrk.1.2.1, hrk.1.2.2, hrk.2.1, hrk.2.2.1, hrk.2.2.2.1, hrk.2.2.2.2.1⟩ (by omega) (by omega) (by omega) hcut) (W := W) (vs := [v0, v1, v2]) fun φ κ => .cons (S := Ct.z) (T := Ct.z) (hr0 φ κ) (.cons (S := Ct.z) (T := Ct.z) (hr1 φ κ) (.cons (S := Ct.z) (T := Ct.z) (hr2 φ κ) .nil fun _ => rfl) fun _ => rfl) fun _ => rfl).mono fun e W' ⟨he, hb⟩ => ⟨_, he, ?_⟩
  exact law_post laidOut rfl (by kernel_rfl) Try.underlying4 (by kernel_rfl) hW' (fun gs' h => by subst h; rfl) hb
theorem overBack_holds : Rows.OverBackUptoSaid :=
  OpenClaim.holds_of_cond 10 Try.f10 rfl rfl rfl rfl rfl rfl rfl ⟨rfl, rfl, rfl, rfl, rfl⟩ rfl rfl rfl rfl rfl (by kernel_rfl) Try.func10 (by kernel_rfl)
    (of_decide_eq_true (by kernel_rfl)) (by unfold Func.isWrapper; first | (rw [if_pos (by decide +kernel)]; kernel_rfl) | (rw [if_neg (by decide +kernel)]; exact ⟨rfl, rfl⟩))
    (fun os started H enc _ F => overBack_lifted os started H enc F)
#print axioms overBack_holds
end Go.Proofs.Ytkdbedbefojieaa
