/-
  For every act (of bulk at most 1048576) the law GatewayNil returns true, and its argument reads behind the call as it did. No other condition.
-/
import Derived.Test.YtkmbmhbhpjjchaaGreatZ1
import Derived.Test.YtkmbmhbhpjjchaaGreatZ2
import Derived.Test.YtkmbmhbhpjjchaaGreatZ3
import Derived.Deep.CondSized
namespace Go.Proofs.YtkmbmhbhpjjchaaGreat
set_option linter.unusedVariables false
set_option linter.unusedSimpArgs false
set_option maxHeartbeats 8000000
open Go.RowKit Go.ChangeShapes Go.WideShapes Go.ChangeAt Go.Deep
set_option maxRecDepth 100000
abbrev tGw : TypeId := 38
abbrev zGw : Bx := .c tGw [np, I 0, nsl, np, I 0, I 0, I 0, I 0]
theorem gnone_n : AC Tryz.prog 24 [np] [] (fun v bs' => v = B true ∧ bs' = []) := by
  refine AC.N Tryz.func24 Tryz.ntmps24 ?_
  intro X
  simp only [nx, Nat.reduceAdd, Nat.reduceSub, BEq.rfl]
  repeat' (first
    | ((first
    | ((with_reducible apply AP.k_any); first
            | refine AP.S ?_
            | (refine AP.Y ?_; dsimp only) | refine AP.G (fun hg => ?_) (fun hg => ?_)
            | (refine AP.V (fun c hnil => ?_); simp only [nz])
            | refine AP.A ?_ | refine AP.AB 0 ?_ | refine AP.AB 1 ?_ | refine AP.AL ?_
            )
    ) <;> (try simp only [nx, Nat.reduceAdd, Nat.reduceSub, BEq.rfl]))
    | ((with_reducible apply AP.k_nil); first | (refine AP.nil (hQ' _ ?_); clear hQ' Q') | refine AP.nil ?_)
    | ((with_reducible apply CP.k_reg); refine cp_regG fun Q' hQ' => ?_)
      | (with_reducible apply CP.k_reg1; refine cp_region ?_)
      | ((with_reducible apply CP.k_cond); first | refine cp_condT rfl ?_ | refine cp_condF rfl ?_ | refine cp_cond rfl (fun hc => ?_) (fun hc => ?_))
      | refine CP.go ?_
      | (simp only [List.append_eq, List.cons_append, List.nil_append]))
  (exact RetQ.A [] (by exact ⟨rfl, rfl⟩))
theorem gsub_n (c : Int) (b : List UInt8) : AC Tryz.prog 9 [np, I c, bs none b] [] (fun v bs' => v = .tu [I 0, .sl none 1 [], I 1] ∧ bs' = []) := by
  have h := gnone_n
  refine AC.N Tryz.func9 Tryz.ntmps9 ?_
  intro X
  simp only [nx, Nat.reduceAdd, Nat.reduceSub, BEq.rfl]
  repeat' (first
    | ((first
    | ((with_reducible apply AP.k_any); first
            | refine AP.S ?_
            | refine AP.E ?_
            | (refine AP.Y ?_; dsimp only) | refine AP.G (fun hg => ?_) (fun hg => ?_)
            | refine AP.T ?_
            | refine AP.A ?_ | refine AP.AB 0 ?_ | refine AP.AB 1 ?_ | refine AP.AL ?_
            )
      | ((with_reducible apply DW.k_any); first
        | refine DW.R ?_ | refine DW.R' ?_ | refine DW.W ?_ | refine DW.W' ?_ | refine DW.RA ?_ | refine DW.A 0 ?_ | refine DW.A 1 ?_ | refine DW.A 2 ?_ | refine DW.A' 0 ?_ | refine DW.A' 2 ?_ | ((fail_if_success refine DW.known rfl ?_); refine DW.G (fun hg => ?_) (fun hg => ?_))
        )
    ) <;> (try simp only [nx, Nat.reduceAdd, Nat.reduceSub, BEq.rfl]))
    | ((with_reducible apply AP.k_nil); first | (refine AP.nil (hQ' _ ?_); clear hQ' Q') | refine AP.nil ?_)
    | ((with_reducible apply CP.k_drw); refine cp_drwX fun Q' hQ' => ?_)
    | ((with_reducible apply CP.k_drw1); refine cp_drawX ?_)
    | ((with_reducible apply DW.k_nil); refine DW.nl ?_; first | (refine hQ' _ ?_; clear hQ' Q') | skip)
    | ((with_reducible apply CP.k_reg); refine cp_regG fun Q' hQ' => ?_)
      | (with_reducible apply CP.k_reg1; refine cp_region ?_)
      | ((with_reducible apply CP.k_cond); first | refine cp_condT rfl ?_ | refine cp_condF rfl ?_ | refine cp_cond rfl (fun hc => ?_) (fun hc => ?_))
      | refine CP.go ?_
      | (simp only [List.append_eq, List.cons_append, List.nil_append]))
  (exact RetQ.A [] (by exact ⟨rfl, rfl⟩))
theorem gget_n (b : List UInt8) : AC Tryz.prog 10 [np, bs none b] [] (fun v bs' => v = .tu [.sl none 1 [], .sl none 1 [], I 1] ∧ bs' = []) := by
  have h := gnone_n
  refine AC.N Tryz.func10 Tryz.ntmps10 ?_
  intro X
  simp only [nx, Nat.reduceAdd, Nat.reduceSub, BEq.rfl]
  repeat' (first
    | ((first
    | ((with_reducible apply AP.k_any); first
            | refine AP.S ?_
            | (refine AP.Y ?_; dsimp only) | refine AP.G (fun hg => ?_) (fun hg => ?_)
            | (refine AP.V (fun c hnil => ?_); simp only [nz])
            | refine AP.F ?_ | refine AP.F0 ?_
            | refine AP.A ?_ | refine AP.AB 0 ?_ | refine AP.AB 1 ?_ | refine AP.AL ?_
            )
      | ((with_reducible apply DW.k_any); first
        | refine DW.R ?_ | refine DW.R' ?_ | refine DW.W ?_ | refine DW.W' ?_ | refine DW.RA ?_ | refine DW.A 0 ?_ | refine DW.A 1 ?_ | refine DW.A 2 ?_ | refine DW.A' 0 ?_ | refine DW.A' 2 ?_ | ((fail_if_success refine DW.known rfl ?_); refine DW.G (fun hg => ?_) (fun hg => ?_))
        )
    ) <;> (try simp only [nx, Nat.reduceAdd, Nat.reduceSub, BEq.rfl]))
    | ((with_reducible apply AP.k_nil); first | (refine AP.nil (hQ' _ ?_); clear hQ' Q') | refine AP.nil ?_)
    | ((with_reducible apply CP.k_drw); refine cp_drwX fun Q' hQ' => ?_)
    | ((with_reducible apply CP.k_drw1); refine cp_drawX ?_)
    | ((with_reducible apply DW.k_nil); refine DW.nl ?_; first | (refine hQ' _ ?_; clear hQ' Q') | skip)
    | ((with_reducible apply CP.k_reg); refine cp_regG fun Q' hQ' => ?_)
      | (with_reducible apply CP.k_reg1; refine cp_region ?_)
      | ((with_reducible apply CP.k_cond); first | refine cp_condT rfl ?_ | refine cp_condF rfl ?_ | refine cp_cond rfl (fun hc => ?_) (fun hc => ?_))
      | refine CP.go ?_
      | (simp only [List.append_eq, List.cons_append, List.nil_append]))
  (exact RetQ.A [] (by exact ⟨rfl, rfl⟩))
theorem gwaits_n (c : Int) : AC Tryz.prog 11 [np, I c] [] (fun v bs' => v = .tu [I 0, B false] ∧ bs' = []) := by
  have h := gnone_n
  refine AC.N Tryz.func11 Tryz.ntmps11 ?_
  intro X
  simp only [nx, Nat.reduceAdd, Nat.reduceSub, BEq.rfl]
  repeat' (first
    | ((first
    | ((with_reducible apply AP.k_any); first
            | refine AP.S ?_
            | refine AP.E ?_
            | refine AP.A ?_ | refine AP.AB 0 ?_ | refine AP.AB 1 ?_ | refine AP.AL ?_
            )
    ) <;> (try simp only [nx, Nat.reduceAdd, Nat.reduceSub, BEq.rfl]))
    | ((with_reducible apply AP.k_nil); first | (refine AP.nil (hQ' _ ?_); clear hQ' Q') | refine AP.nil ?_)
    | ((with_reducible apply CP.k_reg); refine cp_regG fun Q' hQ' => ?_)
      | (with_reducible apply CP.k_reg1; refine cp_region ?_)
      | ((with_reducible apply CP.k_cond); first | refine cp_condT rfl ?_ | refine cp_condF rfl ?_ | refine cp_cond rfl (fun hc => ?_) (fun hc => ?_))
      | refine CP.go ?_
      | (simp only [List.append_eq, List.cons_append, List.nil_append]))
  (exact RetQ.A [] (by exact ⟨rfl, rfl⟩))
theorem gtick_n : AC Tryz.prog 12 [np] [] (fun v bs' => v = .sl none 1 [] ∧ bs' = []) := by
  have h := gnone_n
  refine AC.N Tryz.func12 Tryz.ntmps12 ?_
  intro X
  simp only [nx, Nat.reduceAdd, Nat.reduceSub, BEq.rfl]
  repeat' (first
    | ((first
    | ((with_reducible apply AP.k_any); first
            | refine AP.S ?_
            | refine AP.A ?_ | refine AP.AB 0 ?_ | refine AP.AB 1 ?_ | refine AP.AL ?_
            )
    ) <;> (try simp only [nx, Nat.reduceAdd, Nat.reduceSub, BEq.rfl]))
    | ((with_reducible apply AP.k_nil); first | (refine AP.nil (hQ' _ ?_); clear hQ' Q') | refine AP.nil ?_)
    | ((with_reducible apply CP.k_reg); refine cp_regG fun Q' hQ' => ?_)
      | (with_reducible apply CP.k_reg1; refine cp_region ?_)
      | ((with_reducible apply CP.k_cond); first | refine cp_condT rfl ?_ | refine cp_condF rfl ?_ | refine cp_cond rfl (fun hc => ?_) (fun hc => ?_))
      | refine CP.go ?_
      | (simp only [List.append_eq, List.cons_append, List.nil_append]))
  (exact RetQ.A [] (by exact ⟨rfl, rfl⟩))
theorem gconf_n : AC Tryz.prog 13 [np] [] (fun v bs' => v = .ag [I 0, .sl none 3 []] ∧ bs' = []) := by
  have h := gnone_n
  refine AC.N Tryz.func13 Tryz.ntmps13 ?_
  intro X
  simp only [nx, Nat.reduceAdd, Nat.reduceSub, BEq.rfl]
  repeat' (first
    | ((first
    | ((with_reducible apply AP.k_any); first
            | refine AP.S ?_
            | refine AP.A ?_ | refine AP.AB 0 ?_ | refine AP.AB 1 ?_ | refine AP.AL ?_
            )
      | ((with_reducible apply DW.k_any); first
        | refine DW.R ?_ | refine DW.R' ?_ | refine DW.W ?_ | refine DW.W' ?_ | refine DW.RA ?_ | refine DW.A 0 ?_ | refine DW.A 1 ?_ | refine DW.A 2 ?_ | refine DW.A' 0 ?_ | refine DW.A' 2 ?_ | ((fail_if_success refine DW.known rfl ?_); refine DW.G (fun hg => ?_) (fun hg => ?_))
        )
    ) <;> (try simp only [nx, Nat.reduceAdd, Nat.reduceSub, BEq.rfl]))
    | ((with_reducible apply AP.k_nil); first | (refine AP.nil (hQ' _ ?_); clear hQ' Q') | refine AP.nil ?_)
    | ((with_reducible apply CP.k_drw); refine cp_drwX fun Q' hQ' => ?_)
    | ((with_reducible apply CP.k_drw1); refine cp_drawX ?_)
    | ((with_reducible apply DW.k_nil); refine DW.nl ?_; first | (refine hQ' _ ?_; clear hQ' Q') | skip)
    | ((with_reducible apply CP.k_reg); refine cp_regG fun Q' hQ' => ?_)
      | (with_reducible apply CP.k_reg1; refine cp_region ?_)
      | ((with_reducible apply CP.k_cond); first | refine cp_condT rfl ?_ | refine cp_condF rfl ?_ | refine cp_cond rfl (fun hc => ?_) (fun hc => ?_))
      | refine CP.go ?_
      | (simp only [List.append_eq, List.cons_append, List.nil_append]))
  (exact RetQ.A [] (by exact ⟨rfl, rfl⟩))
theorem gnone_z : AC Tryz.prog 24 [.bp 0 0 0] [zGw] (fun v bs' => v = B true ∧ bs' = [zGw]) := by
  refine AC.N Tryz.func24 Tryz.ntmps24 ?_
  intro X
  simp only [nx, Nat.reduceAdd, Nat.reduceSub, BEq.rfl]
  repeat' (first
    | ((first
    | ((with_reducible apply AP.k_any); first
            | refine AP.S ?_
            | (refine AP.Y ?_; dsimp only) | refine AP.G (fun hg => ?_) (fun hg => ?_)
            | (refine AP.V (fun c hnil => ?_); simp only [nz])
            | refine AP.A ?_ | refine AP.AB 0 ?_ | refine AP.AB 1 ?_ | refine AP.AL ?_
            )
    ) <;> (try simp only [nx, Nat.reduceAdd, Nat.reduceSub, BEq.rfl]))
    | ((with_reducible apply AP.k_nil); first | (refine AP.nil (hQ' _ ?_); clear hQ' Q') | refine AP.nil ?_)
    | ((with_reducible apply CP.k_reg); refine cp_regG fun Q' hQ' => ?_)
      | (with_reducible apply CP.k_reg1; refine cp_region ?_)
      | ((with_reducible apply CP.k_cond); first | refine cp_condT rfl ?_ | refine cp_condF rfl ?_ | refine cp_cond rfl (fun hc => ?_) (fun hc => ?_))
      | refine CP.go ?_
      | (simp only [List.append_eq, List.cons_append, List.nil_append]))
  (exact RetQ.A [(0, 0)] (by exact ⟨rfl, rfl⟩))
theorem gsub_z (c : Int) (b : List UInt8) : AC Tryz.prog 9 [.bp 0 0 0, I c, bs none b] [zGw] (fun v bs' => v = .tu [I 0, .sl none 1 [], I 1] ∧ bs' = [zGw]) := by
  have h := gnone_z
  refine AC.N Tryz.func9 Tryz.ntmps9 ?_
  intro X
  simp only [nx, Nat.reduceAdd, Nat.reduceSub, BEq.rfl]
  repeat' (first
    | ((first
    | ((with_reducible apply AP.k_any); first
            | refine AP.S ?_
            | refine AP.E ?_
            | (refine AP.Y ?_; dsimp only) | refine AP.G (fun hg => ?_) (fun hg => ?_)
            | refine AP.T ?_
            | refine AP.A ?_ | refine AP.AB 0 ?_ | refine AP.AB 1 ?_ | refine AP.AL ?_
            )
      | ((with_reducible apply DW.k_any); first
        | refine DW.R ?_ | refine DW.R' ?_ | refine DW.W ?_ | refine DW.W' ?_ | refine DW.RA ?_ | refine DW.A 0 ?_ | refine DW.A 1 ?_ | refine DW.A 2 ?_ | refine DW.A' 0 ?_ | refine DW.A' 2 ?_ | ((fail_if_success refine DW.known rfl ?_); refine DW.G (fun hg => ?_) (fun hg => ?_))
        )
    ) <;> (try simp only [nx, Nat.reduceAdd, Nat.reduceSub, BEq.rfl]))
    | ((with_reducible apply AP.k_nil); first | (refine AP.nil (hQ' _ ?_); clear hQ' Q') | refine AP.nil ?_)
    | ((with_reducible apply CP.k_drw); refine cp_drwX fun Q' hQ' => ?_)
    | ((with_reducible apply CP.k_drw1); refine cp_drawX ?_)
    | ((with_reducible apply DW.k_nil); refine DW.nl ?_; first | (refine hQ' _ ?_; clear hQ' Q') | skip)
    | ((with_reducible apply CP.k_reg); refine cp_regG fun Q' hQ' => ?_)
      | (with_reducible apply CP.k_reg1; refine cp_region ?_)
      | ((with_reducible apply CP.k_cond); first | refine cp_condT rfl ?_ | refine cp_condF rfl ?_ | refine cp_cond rfl (fun hc => ?_) (fun hc => ?_))
      | refine CP.go ?_
      | (simp only [List.append_eq, List.cons_append, List.nil_append]))
  (exact RetQ.A [(0, 0)] (by exact ⟨rfl, rfl⟩))
theorem gget_z (b : List UInt8) : AC Tryz.prog 10 [.bp 0 0 0, bs none b] [zGw] (fun v bs' => v = .tu [.sl none 1 [], .sl none 1 [], I 1] ∧ bs' = [zGw]) := by
  have h := gnone_z
  refine AC.N Tryz.func10 Tryz.ntmps10 ?_
  intro X
  simp only [nx, Nat.reduceAdd, Nat.reduceSub, BEq.rfl]
  repeat' (first
    | ((first
    | ((with_reducible apply AP.k_any); first
            | refine AP.S ?_
            | (refine AP.Y ?_; dsimp only) | refine AP.G (fun hg => ?_) (fun hg => ?_)
            | (refine AP.V (fun c hnil => ?_); simp only [nz])
            | refine AP.F ?_ | refine AP.F0 ?_
            | refine AP.A ?_ | refine AP.AB 0 ?_ | refine AP.AB 1 ?_ | refine AP.AL ?_
            )
      | ((with_reducible apply DW.k_any); first
        | refine DW.R ?_ | refine DW.R' ?_ | refine DW.W ?_ | refine DW.W' ?_ | refine DW.RA ?_ | refine DW.A 0 ?_ | refine DW.A 1 ?_ | refine DW.A 2 ?_ | refine DW.A' 0 ?_ | refine DW.A' 2 ?_ | ((fail_if_success refine DW.known rfl ?_); refine DW.G (fun hg => ?_) (fun hg => ?_))
        )
    ) <;> (try simp only [nx, Nat.reduceAdd, Nat.reduceSub, BEq.rfl]))
    | ((with_reducible apply AP.k_nil); first | (refine AP.nil (hQ' _ ?_); clear hQ' Q') | refine AP.nil ?_)
    | ((with_reducible apply CP.k_drw); refine cp_drwX fun Q' hQ' => ?_)
    | ((with_reducible apply CP.k_drw1); refine cp_drawX ?_)
    | ((with_reducible apply DW.k_nil); refine DW.nl ?_; first | (refine hQ' _ ?_; clear hQ' Q') | skip)
    | ((with_reducible apply CP.k_reg); refine cp_regG fun Q' hQ' => ?_)
      | (with_reducible apply CP.k_reg1; refine cp_region ?_)
      | ((with_reducible apply CP.k_cond); first | refine cp_condT rfl ?_ | refine cp_condF rfl ?_ | refine cp_cond rfl (fun hc => ?_) (fun hc => ?_))
      | refine CP.go ?_
      | (simp only [List.append_eq, List.cons_append, List.nil_append]))
  (exact RetQ.A [(0, 0)] (by exact ⟨rfl, rfl⟩))
theorem gwaits_z (c : Int) : AC Tryz.prog 11 [.bp 0 0 0, I c] [zGw] (fun v bs' => v = .tu [I 0, B false] ∧ bs' = [zGw]) := by
  have h := gnone_z
  refine AC.N Tryz.func11 Tryz.ntmps11 ?_
  intro X
  simp only [nx, Nat.reduceAdd, Nat.reduceSub, BEq.rfl]
  repeat' (first
    | ((first
    | ((with_reducible apply AP.k_any); first
            | refine AP.S ?_
            | refine AP.E ?_
            | refine AP.A ?_ | refine AP.AB 0 ?_ | refine AP.AB 1 ?_ | refine AP.AL ?_
            )
    ) <;> (try simp only [nx, Nat.reduceAdd, Nat.reduceSub, BEq.rfl]))
    | ((with_reducible apply AP.k_nil); first | (refine AP.nil (hQ' _ ?_); clear hQ' Q') | refine AP.nil ?_)
    | ((with_reducible apply CP.k_reg); refine cp_regG fun Q' hQ' => ?_)
      | (with_reducible apply CP.k_reg1; refine cp_region ?_)
      | ((with_reducible apply CP.k_cond); first | refine cp_condT rfl ?_ | refine cp_condF rfl ?_ | refine cp_cond rfl (fun hc => ?_) (fun hc => ?_))
      | refine CP.go ?_
      | (simp only [List.append_eq, List.cons_append, List.nil_append]))
  (exact RetQ.A [(0, 0)] (by exact ⟨rfl, rfl⟩))
theorem gtick_z : AC Tryz.prog 12 [.bp 0 0 0] [zGw] (fun v bs' => v = .sl none 1 [] ∧ bs' = [zGw]) := by
  have h := gnone_z
  refine AC.N Tryz.func12 Tryz.ntmps12 ?_
  intro X
  simp only [nx, Nat.reduceAdd, Nat.reduceSub, BEq.rfl]
  repeat' (first
    | ((first
    | ((with_reducible apply AP.k_any); first
            | refine AP.S ?_
            | refine AP.A ?_ | refine AP.AB 0 ?_ | refine AP.AB 1 ?_ | refine AP.AL ?_
            )
    ) <;> (try simp only [nx, Nat.reduceAdd, Nat.reduceSub, BEq.rfl]))
    | ((with_reducible apply AP.k_nil); first | (refine AP.nil (hQ' _ ?_); clear hQ' Q') | refine AP.nil ?_)
    | ((with_reducible apply CP.k_reg); refine cp_regG fun Q' hQ' => ?_)
      | (with_reducible apply CP.k_reg1; refine cp_region ?_)
      | ((with_reducible apply CP.k_cond); first | refine cp_condT rfl ?_ | refine cp_condF rfl ?_ | refine cp_cond rfl (fun hc => ?_) (fun hc => ?_))
      | refine CP.go ?_
      | (simp only [List.append_eq, List.cons_append, List.nil_append]))
  (exact RetQ.A [(0, 0)] (by exact ⟨rfl, rfl⟩))
theorem gconf_z : AC Tryz.prog 13 [.bp 0 0 0] [zGw] (fun v bs' => v = .ag [I 0, .sl none 3 []] ∧ bs' = [zGw]) := by
  have h := gnone_z
  refine AC.N Tryz.func13 Tryz.ntmps13 ?_
  intro X
  simp only [nx, Nat.reduceAdd, Nat.reduceSub, BEq.rfl]
  repeat' (first
    | ((first
    | ((with_reducible apply AP.k_any); first
            | refine AP.S ?_
            | refine AP.A ?_ | refine AP.AB 0 ?_ | refine AP.AB 1 ?_ | refine AP.AL ?_
            )
      | ((with_reducible apply DW.k_any); first
        | refine DW.R ?_ | refine DW.R' ?_ | refine DW.W ?_ | refine DW.W' ?_ | refine DW.RA ?_ | refine DW.A 0 ?_ | refine DW.A 1 ?_ | refine DW.A 2 ?_ | refine DW.A' 0 ?_ | refine DW.A' 2 ?_ | ((fail_if_success refine DW.known rfl ?_); refine DW.G (fun hg => ?_) (fun hg => ?_))
        )
    ) <;> (try simp only [nx, Nat.reduceAdd, Nat.reduceSub, BEq.rfl]))
    | ((with_reducible apply AP.k_nil); first | (refine AP.nil (hQ' _ ?_); clear hQ' Q') | refine AP.nil ?_)
    | ((with_reducible apply CP.k_drw); refine cp_drwX fun Q' hQ' => ?_)
    | ((with_reducible apply CP.k_drw1); refine cp_drawX ?_)
    | ((with_reducible apply DW.k_nil); refine DW.nl ?_; first | (refine hQ' _ ?_; clear hQ' Q') | skip)
    | ((with_reducible apply CP.k_reg); refine cp_regG fun Q' hQ' => ?_)
      | (with_reducible apply CP.k_reg1; refine cp_region ?_)
      | ((with_reducible apply CP.k_cond); first | refine cp_condT rfl ?_ | refine cp_condF rfl ?_ | refine cp_cond rfl (fun hc => ?_) (fun hc => ?_))
      | refine CP.go ?_
      | (simp only [List.append_eq, List.cons_append, List.nil_append]))
  (exact RetQ.A [(0, 0)] (by exact ⟨rfl, rfl⟩))
structure GAct where
  kind : Int
  client : Int
  body : List UInt8
  frm : Int
  epoch : Int
  m : Msg
abbrev eGA (a : GAct) : List AV := [I a.kind, I a.client, bs none a.body, I a.frm, I a.epoch] ++ eG a.m
def GAct.small (a : GAct) : Prop := a.body.length ≤ 10000000 ∧ a.m.body.length ≤ 10000000 ∧ a.m.entries.length ≤ 10000000 ∧ a.m.cfg.members.length ≤ 10000000 ∧ ∀ e ∈ a.m.entries, e.body.length ≤ 10000000
def sumE : List Entry → Nat
  | [] => 0
  | e :: l => e.body.length + 50 + sumE l
theorem sumE_take (l : List Entry) (h : ∀ e ∈ l, e.body.length ≤ 10000000) : sumE l ≤ 10000050 * l.length := by
  induction l with
  | nil => simp [sumE]
  | cons e l ih =>
    have := h e (by simp)
    have := ih fun e he => h e (by simp [he])
    simp only [sumE, List.length_cons]; omega
theorem sumE_app (l : List Entry) (e : Entry) : sumE (l ++ [e]) = sumE l + e.body.length + 50 := by
  induction l with
  | nil => simp [sumE]
  | cons x l ih => simp only [List.cons_append, sumE, ih]; omega
def greatA (a : GAct) : Bool := decide (8000 < 100 + a.body.length + a.m.body.length + 20 * a.m.cfg.members.length + sumE a.m.entries)
theorem greatA_ac (a : GAct) (h : a.small) : AC Tryz.prog 8 [.sl none 17 [eGA a]] [] (fun v bs' => v = B (greatA a) ∧ bs' = []) := by
  obtain ⟨h1, h2, h3, h4, h5⟩ := h
  have hw : ∀ x : Nat, x ≤ 1000000000000000 → IntKind.i64.wrap (x : Int) = x := fun x hx => wrap_i64 (by omega) (by omega)
  have hs := sumE_take a.m.entries h5
  refine AC.N Tryz.func8 Tryz.ntmps8 ?_
  intro X
  simp only [nx, Nat.reduceAdd, Nat.reduceSub, BEq.rfl]
  repeat' (first
    | ((first
    | ((with_reducible apply AP.k_any); first
            | refine AP.S ?_
            | refine AP.E ?_
            | refine AP.A ?_ | refine AP.AB 0 ?_ | refine AP.AB 1 ?_ | refine AP.AL ?_
            )
      | ((with_reducible apply DW.k_any); first
        | refine DW.R ?_ | refine DW.R' ?_ | refine DW.W ?_ | refine DW.W' ?_ | refine DW.RA ?_ | refine DW.A 0 ?_ | refine DW.A 1 ?_ | refine DW.A 2 ?_ | refine DW.A' 0 ?_ | refine DW.A' 2 ?_ | ((fail_if_success refine DW.known rfl ?_); refine DW.G (fun hg => ?_) (fun hg => ?_))
        )
    ) <;> (try simp only [nx, Nat.reduceAdd, Nat.reduceSub, BEq.rfl]))
    | ((with_reducible apply AP.k_nil); first | (refine AP.nil (hQ' _ ?_); clear hQ' Q') | refine AP.nil ?_)
    | ((with_reducible apply CP.k_drw); refine cp_drwX fun Q' hQ' => ?_)
    | ((with_reducible apply CP.k_drw1); refine cp_drawX ?_)
    | ((with_reducible apply DW.k_nil); refine DW.nl ?_; first | (refine hQ' _ ?_; clear hQ' Q') | skip)
    | ((with_reducible apply CP.k_reg); refine cp_regG fun Q' hQ' => ?_)
      | (with_reducible apply CP.k_reg1; refine cp_region ?_)
      | ((with_reducible apply CP.k_cond); first | refine cp_condT rfl ?_ | refine cp_condF rfl ?_ | refine cp_cond rfl (fun hc => ?_) (fun hc => ?_))
      | refine CP.go ?_
      | (simp only [List.append_eq, List.cons_append, List.nil_append]))
  refine cp_rounds 3 ?_
  repeat' (first
    | ((first
    | ((with_reducible apply AP.k_any); first
            | refine AP.S ?_
            | refine AP.E ?_
            | refine AP.A ?_ | refine AP.AB 0 ?_ | refine AP.AB 1 ?_ | refine AP.AL ?_
            )
      | ((with_reducible apply DW.k_any); first
        | refine DW.R ?_ | refine DW.R' ?_ | refine DW.W ?_ | refine DW.W' ?_ | refine DW.RA ?_ | refine DW.A 0 ?_ | refine DW.A 1 ?_ | refine DW.A 2 ?_ | refine DW.A' 0 ?_ | refine DW.A' 2 ?_ | ((fail_if_success refine DW.known rfl ?_); refine DW.G (fun hg => ?_) (fun hg => ?_))
        )
    ) <;> (try simp only [nx, Nat.reduceAdd, Nat.reduceSub, BEq.rfl]))
    | ((with_reducible apply AP.k_nil); first | (refine AP.nil (hQ' _ ?_); clear hQ' Q') | refine AP.nil ?_)
    | ((with_reducible apply CP.k_drw); refine cp_drwX fun Q' hQ' => ?_)
    | ((with_reducible apply CP.k_drw1); refine cp_drawX ?_)
    | ((with_reducible apply DW.k_nil); refine DW.nl ?_; first | (refine hQ' _ ?_; clear hQ' Q') | skip)
    | ((with_reducible apply CP.k_reg); refine cp_regG fun Q' hQ' => ?_)
      | (with_reducible apply CP.k_reg1; refine cp_region ?_)
      | ((with_reducible apply CP.k_cond); first | refine cp_condT rfl ?_ | refine cp_condF rfl ?_ | refine cp_cond rfl (fun hc => ?_) (fun hc => ?_))
      | refine CP.go ?_
      | (simp only [List.append_eq, List.cons_append, List.nil_append]))
  have e0 : IntKind.i64.wrap (IntKind.i64.wrap (IntKind.i64.wrap (IntKind.i64.wrap (0 + 100) + (a.body.length : Int)) + (a.m.body.length : Int)) + IntKind.i64.wrap (20 * (a.m.cfg.members.length : Int))) = ((100 + a.body.length + a.m.body.length + 20 * a.m.cfg.members.length : Nat) : Int) := by
    rw [wrap_i64 (x := 0 + 100) (by omega) (by omega), wrap_i64 (x := 0 + 100 + (a.body.length : Int)) (by omega) (by omega), wrap_i64 (x := 0 + 100 + (a.body.length : Int) + (a.m.body.length : Int)) (by omega) (by omega), wrap_i64 (x := 20 * (a.m.cfg.members.length : Int)) (by omega) (by omega), wrap_i64 (by omega) (by omega)]; omega
  simp only [e0]
  generalize hT : 100 + a.body.length + a.m.body.length + 20 * a.m.cfg.members.length = T
  refine cp_loopS [3, 5, 39, 40, 41, 42, 43, 44, 45, 46, 47, 48, 49, 50, 51, 52, 53, 54, 55, 56, 57, 58, 59, 60, 61, 62, 63] (fun k : Nat => a.m.entries.length - k) (fun k => k ≤ a.m.entries.length) (fun k => [(5, I k), (3, I ((T + sumE (a.m.entries.take k) : Nat) : Int))]) (fun _ => []) 0 (Nat.zero_le _) (by (simp only [List.take_zero, sumE, Nat.add_zero]; exact Gh.W)) ?_
  intro k hk
  simp only [setT, deT, setB, List.set_cons_succ, List.set_cons_zero]
  by_cases hlt : k < a.m.entries.length
  · have hw1 : IntKind.i64.wrap ((k : Int) + 1) = ((k + 1 : Nat) : Int) := wrap_i64 (by omega) (by omega)
    have hbe := h5 _ (List.getElem_mem hlt)
    have hst := sumE_take (a.m.entries.take k) (fun e he => h5 e (List.mem_of_mem_take he))
    rw [List.length_take] at hst
    have hn : IntKind.i64.wrap (IntKind.i64.wrap (((T + sumE (a.m.entries.take k) : Nat) : Int) + ((a.m.entries[k]).body.length : Int)) + 50) = ((T + sumE (a.m.entries.take (k + 1)) : Nat) : Int) := by
      rw [List.take_succ_eq_append_getElem hlt, sumE_app, wrap_i64 (x := ((T + sumE (a.m.entries.take k) : Nat) : Int) + _) (by omega) (by omega), wrap_i64 (by omega) (by omega)]; omega
    repeat' (first
      | ((first
      | ((with_reducible apply AP.k_any); first
              | refine AP.S ?_
              | refine AP.E ?_
              | refine AP.A ?_ | refine AP.AB 0 ?_ | refine AP.AB 1 ?_ | refine AP.AL ?_
              )
        | ((with_reducible apply DW.k_any); first
          | refine DW.R ?_ | refine DW.R' ?_ | refine DW.W ?_ | refine DW.W' ?_ | refine DW.RA ?_ | refine DW.A 0 ?_ | refine DW.A 1 ?_ | refine DW.A 2 ?_ | refine DW.A' 0 ?_ | refine DW.A' 2 ?_ | ((fail_if_success refine DW.known rfl ?_); refine DW.G (fun hg => ?_) (fun hg => ?_))
          )
      ) <;> (try simp only [nx, Nat.reduceAdd, Nat.reduceSub, BEq.rfl]))
      | ((with_reducible apply AP.k_nil); first | (refine AP.nil (hQ' _ ?_); clear hQ' Q') | refine AP.nil ?_)
      | ((with_reducible apply CP.k_drw); refine cp_drwX fun Q' hQ' => ?_)
      | ((with_reducible apply CP.k_drw1); refine cp_drawX ?_)
      | ((with_reducible apply DW.k_nil); refine DW.nl ?_; first | (refine hQ' _ ?_; clear hQ' Q') | skip)
      | ((with_reducible apply CP.k_reg); refine cp_regG fun Q' hQ' => ?_)
        | (with_reducible apply CP.k_reg1; refine cp_region ?_)
        | ((with_reducible apply CP.k_cond); first | refine cp_condT rfl ?_ | refine cp_condF rfl ?_ | refine cp_cond rfl (fun hc => ?_) (fun hc => ?_))
        | refine CP.go ?_
        | (simp only [List.append_eq, List.cons_append, List.nil_append]))
    · simp only [hw1, hn]
      exact ⟨k + 1, by (first | omega | (dsimp only; omega)), by (first | omega | (dsimp only; omega)), by exact Gh.W⟩
    all_goals (exfalso; (repeat (rename AC _ _ _ _ _ => hzz; clear hzz)); simp at *; omega)
  · obtain rfl : k = a.m.entries.length := by omega
    rw [List.take_length]
    by_cases hg : 8000 < T + sumE a.m.entries
    · have hg2 : greatA a = true := by unfold greatA; rw [hT]; simpa using hg
      rw [hg2]
      repeat' (first
        | ((first
        | ((with_reducible apply AP.k_any); first
                | refine AP.S ?_
                | refine AP.E ?_
                | refine AP.A ?_ | refine AP.AB 0 ?_ | refine AP.AB 1 ?_ | refine AP.AL ?_
                )
          | ((with_reducible apply DW.k_any); first
            | refine DW.R ?_ | refine DW.R' ?_ | refine DW.W ?_ | refine DW.W' ?_ | refine DW.RA ?_ | refine DW.A 0 ?_ | refine DW.A 1 ?_ | refine DW.A 2 ?_ | refine DW.A' 0 ?_ | refine DW.A' 2 ?_ | ((fail_if_success refine DW.known rfl ?_); refine DW.G (fun hg => ?_) (fun hg => ?_))
            )
        ) <;> (try simp only [nx, Nat.reduceAdd, Nat.reduceSub, BEq.rfl]))
        | ((with_reducible apply AP.k_nil); first | (refine AP.nil (hQ' _ ?_); clear hQ' Q') | refine AP.nil ?_)
        | ((with_reducible apply CP.k_drw); refine cp_drwX fun Q' hQ' => ?_)
        | ((with_reducible apply CP.k_drw1); refine cp_drawX ?_)
        | ((with_reducible apply DW.k_nil); refine DW.nl ?_; first | (refine hQ' _ ?_; clear hQ' Q') | skip)
        | ((with_reducible apply CP.k_reg); refine cp_regG fun Q' hQ' => ?_)
          | (with_reducible apply CP.k_reg1; refine cp_region ?_)
          | ((with_reducible apply CP.k_cond); first | refine cp_condT rfl ?_ | refine cp_condF rfl ?_ | refine cp_cond rfl (fun hc => ?_) (fun hc => ?_))
          | refine CP.go ?_
          | (simp only [List.append_eq, List.cons_append, List.nil_append]))
      all_goals first
        | (exfalso; (repeat (rename AC _ _ _ _ _ => hzz; clear hzz)); simp at *; done)
        | (exfalso; (repeat (rename AC _ _ _ _ _ => hzz; clear hzz)); simp at *; omega)
        | (refine RetQ.B [] ?_; (try dsimp only [resV, List.getD_cons_succ, List.getD_cons_zero]); (exact ⟨rfl, rfl⟩))
    · have hg2 : greatA a = false := by unfold greatA; rw [hT]; simpa using hg
      rw [hg2]
      repeat' (first
        | ((first
        | ((with_reducible apply AP.k_any); first
                | refine AP.S ?_
                | refine AP.E ?_
                | refine AP.A ?_ | refine AP.AB 0 ?_ | refine AP.AB 1 ?_ | refine AP.AL ?_
                )
          | ((with_reducible apply DW.k_any); first
            | refine DW.R ?_ | refine DW.R' ?_ | refine DW.W ?_ | refine DW.W' ?_ | refine DW.RA ?_ | refine DW.A 0 ?_ | refine DW.A 1 ?_ | refine DW.A 2 ?_ | refine DW.A' 0 ?_ | refine DW.A' 2 ?_ | ((fail_if_success refine DW.known rfl ?_); refine DW.G (fun hg => ?_) (fun hg => ?_))
            )
        ) <;> (try simp only [nx, Nat.reduceAdd, Nat.reduceSub, BEq.rfl]))
        | ((with_reducible apply AP.k_nil); first | (refine AP.nil (hQ' _ ?_); clear hQ' Q') | refine AP.nil ?_)
        | ((with_reducible apply CP.k_drw); refine cp_drwX fun Q' hQ' => ?_)
        | ((with_reducible apply CP.k_drw1); refine cp_drawX ?_)
        | ((with_reducible apply DW.k_nil); refine DW.nl ?_; first | (refine hQ' _ ?_; clear hQ' Q') | skip)
        | ((with_reducible apply CP.k_reg); refine cp_regG fun Q' hQ' => ?_)
          | (with_reducible apply CP.k_reg1; refine cp_region ?_)
          | ((with_reducible apply CP.k_cond); first | refine cp_condT rfl ?_ | refine cp_condF rfl ?_ | refine cp_cond rfl (fun hc => ?_) (fun hc => ?_))
          | refine CP.go ?_
          | (simp only [List.append_eq, List.cons_append, List.nil_append]))
      all_goals first
        | (exfalso; (repeat (rename AC _ _ _ _ _ => hzz; clear hzz)); simp at *; done)
        | (exfalso; (repeat (rename AC _ _ _ _ _ => hzz; clear hzz)); simp at *; omega)
        | (refine RetQ.B [] ?_; (try dsimp only [resV, List.getD_cons_succ, List.getD_cons_zero]); (exact ⟨rfl, rfl⟩))
theorem gnil_ac (a : GAct) (h : a.small) : AC Tryz.prog 3 [.ag (eGA a)] [] (fun v bs' => v = B true ∧ bs' = []) := by
  have hg := greatA_ac a h
  cases hga : greatA a with
  | true =>
    rw [hga] at hg
    refine AC.N Tryz.func3 Tryz.ntmps3 ?_
    intro X
    simp only [nx, Nat.reduceAdd, Nat.reduceSub, BEq.rfl]
    refine CP.gh gh_slot ?_; simp only [nx, Nat.reduceAdd, Nat.reduceSub, BEq.rfl]
    refine CP.gh gh_slot ?_; simp only [nx, Nat.reduceAdd, Nat.reduceSub, BEq.rfl]
    repeat' (first
      | ((first
      | ((with_reducible apply AP.k_any); first
              | refine AP.S ?_
              | refine AP.E ?_
              | (refine AP.Y ?_; dsimp only) | refine AP.G (fun hg => ?_) (fun hg => ?_)
              | refine AP.A ?_ | refine AP.AB 0 ?_ | refine AP.AB 1 ?_ | refine AP.AL ?_
              | ((with_reducible apply AP.k_any); refine AP.gh (gh_fz (b := 1) (u := 1) rfl rfl (by (repeat' (first | exact FzC.nil | apply FzC.cons | exact FzV.hd | apply FzV.ag | exact FzV.same))) (by (repeat' (first | exact FzB.nil | apply FzB.c | apply FzB.same | exact FzC.nil | apply FzC.cons | exact FzV.hd | apply FzV.ag | exact FzV.same)))) ?_; first | simp only [roE, roC, AV.ro, ro_B, ro_M, ro_E] | simp only [roE, roC, AV.ro, ro_B]))
      ) <;> (try simp only [nx, Nat.reduceAdd, Nat.reduceSub, BEq.rfl]))
      | ((with_reducible apply AP.k_nil); first | (refine AP.nil (hQ' _ ?_); clear hQ' Q') | refine AP.nil ?_)
      | ((with_reducible apply CP.k_reg); refine cp_regG fun Q' hQ' => ?_)
        | (with_reducible apply CP.k_reg1; refine cp_region ?_)
        | ((with_reducible apply CP.k_cond); first | refine cp_condT rfl ?_ | refine cp_condF rfl ?_ | refine cp_cond rfl (fun hc => ?_) (fun hc => ?_))
        | refine CP.go ?_
        | (simp only [List.append_eq, List.cons_append, List.nil_append]))
    all_goals (exact RetQ.A [] (by exact ⟨rfl, rfl⟩))
  | false =>
    rw [hga] at hg
    have h1 := gsub_n a.client a.body
    have h2 := gget_n a.body
    have h3 := gwaits_n a.client
    have h4 := gtick_n
    have h5 := gconf_n
    refine AC.N Tryz.func3 Tryz.ntmps3 ?_
    intro X
    simp only [nx, Nat.reduceAdd, Nat.reduceSub, BEq.rfl]
    refine CP.gh gh_slot ?_; simp only [nx, Nat.reduceAdd, Nat.reduceSub, BEq.rfl]
    refine CP.gh gh_slot ?_; simp only [nx, Nat.reduceAdd, Nat.reduceSub, BEq.rfl]
    refine CP.gh gh_slot ?_; simp only [nx, Nat.reduceAdd, Nat.reduceSub, BEq.rfl]
    refine CP.gh gh_slot ?_; simp only [nx, Nat.reduceAdd, Nat.reduceSub, BEq.rfl]
    refine CP.gh gh_slot ?_; simp only [nx, Nat.reduceAdd, Nat.reduceSub, BEq.rfl]
    repeat' (first
      | ((first
      | ((with_reducible apply AP.k_any); first
              | refine AP.S ?_
              | refine AP.E ?_
              | (refine AP.Y ?_; dsimp only) | refine AP.G (fun hg => ?_) (fun hg => ?_)
              | refine AP.A ?_ | refine AP.AB 0 ?_ | refine AP.AB 1 ?_ | refine AP.AL ?_
              | ((with_reducible apply AP.k_any); refine AP.gh (gh_fz (b := 1) (u := 1) rfl rfl (by (repeat' (first | exact FzC.nil | apply FzC.cons | exact FzV.hd | apply FzV.ag | exact FzV.same))) (by (repeat' (first | exact FzB.nil | apply FzB.c | apply FzB.same | exact FzC.nil | apply FzC.cons | exact FzV.hd | apply FzV.ag | exact FzV.same)))) ?_; first | simp only [roE, roC, AV.ro, ro_B, ro_M, ro_E] | simp only [roE, roC, AV.ro, ro_B]))
      ) <;> (try simp only [nx, Nat.reduceAdd, Nat.reduceSub, BEq.rfl]))
      | ((with_reducible apply AP.k_nil); first | (refine AP.nil (hQ' _ ?_); clear hQ' Q') | refine AP.nil ?_)
      | ((with_reducible apply CP.k_reg); refine cp_regG fun Q' hQ' => ?_)
        | (with_reducible apply CP.k_reg1; refine cp_region ?_)
        | ((with_reducible apply CP.k_cond); first | refine cp_condT rfl ?_ | refine cp_condF rfl ?_ | refine cp_cond rfl (fun hc => ?_) (fun hc => ?_))
        | refine CP.go ?_
        | (simp only [List.append_eq, List.cons_append, List.nil_append]))
    refine cp_rounds 3 ?_
    repeat' (first
      | ((first
      | ((with_reducible apply AP.k_any); first
              | refine AP.S ?_
              | refine AP.E ?_
              | (refine AP.Y ?_; dsimp only) | refine AP.G (fun hg => ?_) (fun hg => ?_)
              | refine AP.A ?_ | refine AP.AB 0 ?_ | refine AP.AB 1 ?_ | refine AP.AL ?_
              | refine AP.FV ?_)
      ) <;> (try simp only [nx, Nat.reduceAdd, Nat.reduceSub, BEq.rfl]))
      | ((with_reducible apply AP.k_nil); first | (refine AP.nil (hQ' _ ?_); clear hQ' Q') | refine AP.nil ?_)
      | ((with_reducible apply CP.k_reg); refine cp_regG fun Q' hQ' => ?_)
        | (with_reducible apply CP.k_reg1; refine cp_region ?_)
        | ((with_reducible apply CP.k_cond); first | refine cp_condT rfl ?_ | refine cp_condF rfl ?_ | refine cp_cond rfl (fun hc => ?_) (fun hc => ?_))
        | refine CP.go ?_
        | (simp only [List.append_eq, List.cons_append, List.nil_append]))
    have h1 := gsub_z a.client a.body
    have h2 := gget_z a.body
    have h3 := gwaits_z a.client
    have h4 := gtick_z
    have h5 := gconf_z
    repeat' (first
      | ((first
      | ((with_reducible apply AP.k_any); first
              | refine AP.S ?_
              | refine AP.E ?_
              | (refine AP.Y ?_; dsimp only) | refine AP.G (fun hg => ?_) (fun hg => ?_)
              | refine AP.A ?_ | refine AP.AB 0 ?_ | refine AP.AB 1 ?_ | refine AP.AL ?_
              | refine AP.FV ?_)
      ) <;> (try simp only [nx, Nat.reduceAdd, Nat.reduceSub, BEq.rfl]))
      | ((with_reducible apply AP.k_nil); first | (refine AP.nil (hQ' _ ?_); clear hQ' Q') | refine AP.nil ?_)
      | ((with_reducible apply CP.k_reg); refine cp_regG fun Q' hQ' => ?_)
        | (with_reducible apply CP.k_reg1; refine cp_region ?_)
        | ((with_reducible apply CP.k_cond); first | refine cp_condT rfl ?_ | refine cp_condF rfl ?_ | refine cp_cond rfl (fun hc => ?_) (fun hc => ?_))
        | refine CP.go ?_
        | (simp only [List.append_eq, List.cons_append, List.nil_append]))
    all_goals (exact RetQ.A [] (by exact ⟨rfl, rfl⟩))
theorem oens' : OA Tryz.prog 23 1 (fun N (l : List Entry) => (∀ e ∈ l, okE N e) ∧ l.length < N) (fun l => [es none none l]) := oa_slice (by decide) Tryz.underlying23 (by kernel_rfl) oen
def okM0 (N : Nat) (m : Msg) : Prop := m.body.length < N ∧ m.entries.length < N ∧ m.cfg.members.length < N ∧ ∀ e ∈ m.entries, e.body.length < N
theorem omg0 : OA Tryz.prog 28 12 okM0 eG :=
  (oa_struct Tryz.underlying28 (by kernel_rfl) (of_cons rfl ou (of_cons rfl oi (of_cons rfl oi (of_cons rfl obs (of_cons rfl oi (of_cons rfl oi (of_cons rfl oens' (of_cons rfl oi (of_cons rfl oi (of_cons rfl ocf (of_cons rfl oi of_nil)))))))))))).map
    (fun d => ⟨d.1, d.2.1, d.2.2.1, d.2.2.2.1, d.2.2.2.2.1, d.2.2.2.2.2.1, d.2.2.2.2.2.2.1, d.2.2.2.2.2.2.2.1, d.2.2.2.2.2.2.2.2.1, d.2.2.2.2.2.2.2.2.2.1, d.2.2.2.2.2.2.2.2.2.2.1⟩) (fun _ _ _ hmn h => ⟨by have := h.1; omega, by have := h.2.1; omega, by have := h.2.2.1; omega, fun e he => by have := h.2.2.2 e he; omega⟩)
    (fun n d h => by
      obtain ⟨_, h1, h2, h3, h4, h5, h6, h7, h8, h9, h10, _⟩ := h
      exact ⟨h3.2, h6.2, h9.2.2, fun e he => (h6.1 e he).2.2.2.2⟩) fun _ => rfl
theorem oga : OA Tryz.prog 30 17 (fun N (a : GAct) => a.body.length < N ∧ okM0 N a.m) eGA :=
  (oa_struct Tryz.underlying30 (by kernel_rfl) (of_cons rfl oi (of_cons rfl oi (of_cons rfl obs (of_cons rfl oi (of_cons rfl oi (of_cons rfl omg0 of_nil))))))).map
    (fun d => ⟨d.1, d.2.1, d.2.2.1, d.2.2.2.1, d.2.2.2.2.1, d.2.2.2.2.2.1⟩) (fun _ _ _ hmn h => ⟨by have := h.1; omega, by have := h.2.1; omega, by have := h.2.2.1; omega, by have := h.2.2.2.1; omega, fun e he => by have := h.2.2.2.2 e he; omega⟩)
    (fun n d h => ⟨h.2.2.1.2, h.2.2.2.2.2.1⟩) fun _ => rfl
set_option maxRecDepth 100000 in
theorem gatewayNil_lifted (os : Os) (started : os.Started) (H : Type) (enc : TypeId × Value → H) (F : Stop.Interp) :
    ReturnsInHanded {} Tryz.checked os 3 .any ((Rows.OpenSpec.upto Rows.gatewayNilSpec).pre6 enc Tryz.prog Tryz.f3 Rows.gatewayNilUptoRow.domain false) (((Rows.OpenSpec.upto Rows.gatewayNilSpec).at F).post enc Tryz.prog Tryz.f3 false true false false) := by
  refine returnsInHanded_of_cond (C := Tryz.checked) (s := Rows.OpenSpec.upto Rows.gatewayNilSpec) (k := Rows.uptoSmall) rfl own_knob started (by kernel_rfl) Tryz.func3
    (OpenSpec.witness (enc := enc) (C := Tryz.checked) (s := Rows.OpenSpec.upto Rows.gatewayNilSpec) (k := Rows.uptoSmall) rfl false ⟨#[], #[.agg #[.int .i64 0, .int .i64 0, .slice none 0 0, .int .i64 0, .int .i64 0, .int .u8 0, .int .i64 0, .int .i64 0, .slice none 0 0, .int .i64 0, .int .i64 0, .slice none 0 0, .int .i64 0, .int .i64 0, .int .i64 0, .slice none 0 0, .int .i64 0]], []⟩ 8 (by kernel_rfl) (by kernel_rfl) (by kernel_rfl)
      (x := ([.agg [.lit (.int .i64 0), .lit (.int .i64 0), .nil, .lit (.int .i64 0), .lit (.int .i64 0), .agg [.lit (.int .u8 0), .lit (.int .i64 0), .lit (.int .i64 0), .nil, .lit (.int .i64 0), .lit (.int .i64 0), .nil, .lit (.int .i64 0), .lit (.int .i64 0), .agg [.lit (.int .i64 0), .nil], .lit (.int .i64 0)]]], [], [])) (by kernel_rfl) rfl (by kernel_rfl)) ?_
  intro W base args ds gs before hval0 hW _ hk _
  have hval : ∀ (j : Nat) t v, Tryz.f3.params[j]? = some t → args[j]? = some v → Value.okWide Tryz.prog W .any base t v := hval0
  have hW' := hW
  obtain ⟨p, q, hA0, hV, rfl, hfz, hnd⟩ := hW
  have hA : DataW.TrodAll enc Tryz.prog W 0 (fun _ => true) true Tryz.f3.params.toList args.toList ds p := hA0
  rw [Tryz.params3] at hA hval
  obtain ⟨rfl, rfl⟩ := trodVars_none hV
  have hb := bulk_of hk
  obtain ⟨v0, vs0, d0, ds0, p0, q0, hargs, rfl, rfl, h0, r0⟩ := trodAll_cons hA
  obtain ⟨rfl, rfl, rfl⟩ := trodAll_nil r0
  obtain rfl : args = #[v0] := by cases args; simp_all
  simp only [List.append_nil, Rows.uptoBulkAll, Nat.add_zero] at hb
  obtain ⟨a, ha, hr0⟩ := arg_ag Tryz.underlying30 oga (hval 0 _ v0 rfl rfl) h0
  have k1 := ha.1
  obtain ⟨k2, k3, k4, k5⟩ := ha.2
  refine (ac_law (gnil_ac a ⟨by omega, by omega, by omega, by omega, fun e he => by have := k5 e he; omega⟩) (W := W) (vs := [v0]) fun φ κ => .cons (S := Ct.z) (T := Ct.z) (hr0 φ κ) .nil fun _ => rfl).mono fun e W' ⟨he, hb⟩ => ⟨_, he, ?_⟩
  exact law_post laidOut rfl (by kernel_rfl) Tryz.underlying4 (by kernel_rfl) hW' (fun gs' h => by subst h; rfl) hb
theorem gatewayNil_holds : Rows.GatewayNilUptoSaid :=
  OpenClaim.holds_of_cond 3 Tryz.f3 rfl rfl rfl rfl rfl rfl rfl ⟨rfl, rfl, rfl, rfl, rfl⟩ rfl rfl rfl rfl rfl (by kernel_rfl) Tryz.func3 (by kernel_rfl)
    (of_decide_eq_true (by kernel_rfl)) (by unfold Func.isWrapper; first | (rw [if_pos (by decide +kernel)]; kernel_rfl) | (rw [if_neg (by decide +kernel)]; exact ⟨rfl, rfl⟩))
    (fun os started H enc _ F => gatewayNil_lifted os started H enc F)
#print axioms gatewayNil_holds
end Go.Proofs.YtkmbmhbhpjjchaaGreat
