/-
  Texts joined: Q3, Q4, Q5, Q6, Q7, Q8, Q9, R2, Ci, R3, R5, R6.
-/
import Derived.Test.YtnjfchigdpifmaaZ1
import Derived.Test.YtnjfchigdpifmaaZ2
import Derived.Test.YtnjfchigdpifmaaZ3
import Derived.Test.YtnjfchigdpifmaaZ4
namespace Go.Proofs.Ytnjfchigdpifmaa
set_option linter.unusedVariables false
set_option linter.unusedSimpArgs false
set_option maxHeartbeats 8000000
open Go.RowKit
set_option maxRecDepth 100000
abbrev v64 (c : Nat → Bool) : List Value := [.bool (c 0), .bool (c 1), .bool (c 2), .bool (c 3), .bool (c 4), .bool (c 5), .bool (c 6), .bool (c 7), .bool (c 8), .bool (c 9), .bool (c 10), .bool (c 11), .bool (c 12), .bool (c 13), .bool (c 14), .bool (c 15), .bool (c 16), .bool (c 17), .bool (c 18), .bool (c 19), .bool (c 20), .bool (c 21), .bool (c 22), .bool (c 23), .bool (c 24), .bool (c 25), .bool (c 26), .bool (c 27), .bool (c 28), .bool (c 29), .bool (c 30), .bool (c 31), .bool (c 32), .bool (c 33), .bool (c 34), .bool (c 35), .bool (c 36), .bool (c 37), .bool (c 38), .bool (c 39), .bool (c 40), .bool (c 41), .bool (c 42), .bool (c 43), .bool (c 44), .bool (c 45), .bool (c 46), .bool (c 47), .bool (c 48), .bool (c 49), .bool (c 50), .bool (c 51), .bool (c 52), .bool (c 53), .bool (c 54), .bool (c 55), .bool (c 56), .bool (c 57), .bool (c 58), .bool (c 59), .bool (c 60), .bool (c 61), .bool (c 62), .bool (c 63)]
abbrev wV (w : Wn) : List Value := .bool true :: .int .i64 w.boot :: .int .i64 w.top :: v64 w.came
theorem v64_eq (c : Nat → Bool) : v64 c = (List.range 64).map fun j => .bool (c j) := rfl
theorem eqVs_bools (c d : Nat → Bool) : ∀ l : List Nat, eqVs (l.map fun j => .bool (c j)) (l.map fun j => .bool (d j)) = l.all fun j => c j == d j
  | [] => rfl
  | j :: l => by simp [eqVs, eqV1, eqVs_bools c d l]
theorem wV_eq (x w : Wn) : eqVs (wV x) (wV w) = (x.boot == w.boot && (x.top == w.top && (List.range 64).all fun j => x.came j == w.came j)) := by
  show (eqV1 (.bool true) (.bool true) && (eqV1 (.int .i64 x.boot) (.int .i64 w.boot) && (eqV1 (.int .i64 x.top) (.int .i64 w.top) && eqVs (v64 x.came) (v64 w.came)))) = _
  rw [v64_eq, v64_eq, eqVs_bools]; rfl
theorem wV_refl (w : Wn) : eqVs (wV w) (wV w) = true := by rw [wV_eq]; simp
def Wn.taken (w : Wn) (boot n : Int) : Bool := !(decide (boot < w.boot)) && !((w.base boot).old n)
theorem Wn.go_ne {x : Wn} {n : Int} (h1 : 1 ≤ n) (ht : 0 ≤ x.top) (h : x.old n = false) : (x.go n).top ≠ x.top ∨ ((x.go n).came (res64 n) = true ∧ x.came (res64 n) = false) := by
  unfold Wn.go
  have hm : ∀ y : Wn, (y.mark n).came (res64 n) = true := fun y => by simp [Wn.mark, upd]
  by_cases hl : n ≤ x.top
  · refine .inr ⟨hm _, ?_⟩
    unfold Wn.old at h
    simp only [Bool.or_eq_false_iff, Bool.and_eq_false_iff, decide_eq_false_iff_not] at h
    exact h.2.resolve_left (by omega)
  · refine .inl ?_
    show ((x.far n).ups _).top ≠ x.top
    rw [Wn.ups_top]
    unfold Wn.far
    split
    · dsimp only; omega
    · omega
theorem Wn.taken_ne {w : Wn} {boot n : Int} (h1 : 1 ≤ n) (ht : w.ok) (h : w.taken boot n = true) : eqVs (wV (w.after boot n)) (wV w) = false := by
  simp only [Wn.taken, Bool.and_eq_true, Bool.not_eq_true', decide_eq_false_iff_not] at h
  have e : w.after boot n = (w.base boot).go n := by
    unfold Wn.after
    rw [if_neg (by omega), if_neg (by rw [h.2]; simp)]
  rw [e, wV_eq]
  unfold Wn.base at *
  by_cases hb : w.boot < boot
  · rw [if_pos hb] at *
    have : ((⟨boot, 0, fun _ => false⟩ : Wn).go n).boot = boot := by
      show (Wn.ups _ _).boot = boot
      rw [Wn.ups_boot]
      unfold Wn.far
      split <;> rfl
    rw [this]
    simp; omega
  · rw [if_neg hb] at *
    rcases Wn.go_ne h1 ht.1 h.2 with h3 | ⟨h3, h4⟩
    · simp [h3]
    · have : ((List.range 64).all fun j => (w.go n).came j == w.came j) = false := by
        rw [Bool.eq_false_iff]
        intro hall
        have := List.all_eq_true.1 hall (res64 n) (List.mem_range.2 (res64_lt n))
        rw [h3, h4] at this; cases this
      rw [this]; simp
theorem Wn.not_taken {w : Wn} {boot n : Int} (h : w.taken boot n = false) : w.after boot n = w := by
  unfold Wn.after
  split
  · rfl
  · rename_i h1
    simp only [Wn.taken, Bool.and_eq_false_iff, Bool.not_eq_false', decide_eq_true_eq] at h
    rw [if_pos (h.resolve_left (by omega))]
def Wn.take (w : Wn) (boot n : Int) : Int × Wn := if boot < 0 ∨ n < 1 then (2, w) else if w.taken boot n = true then (0, w.after boot n) else (180, w)
theorem take18_ac (w : Wn) (boot n : Int) (hn : n ≤ 9223372036854775807) (ht : w.ok) : AC Try.prog 53 [.bp 0 0 0, I boot, I n] [wnX w] (fun v bs' => v = I (w.take boot n).1 ∧ bs' = [wnX (w.take boot n).2]) := by
  have h1 := wnone18_ac w
  have h2 := after_ac w boot n hn ht
  by_cases hb : boot < 0
  · have e : w.take boot n = (2, w) := if_pos (.inl hb)
    rw [e]
    have d1 : decide (boot < 0) = true := by simp; omega
    refine AC.N Try.func53 Try.ntmps53 ?_
    intro X hρ hmks
    simp only [nx, Nat.reduceAdd, Nat.reduceSub, BEq.rfl]
    repeat' (first
      | ((first
        | ((with_reducible apply AP.k_any); first | refine AP.ST ?_ | (refine AP.Y ?_; dsimp only) | refine AP.G (fun hg => ?_) (fun hg => ?_) | (refine AP.V (fun c hnil => ?_); simp only [nz])  | refine AP.PF ?_)
          | ((with_reducible apply DW.k_any); first | refine DW.ST ?_ | ((fail_if_success refine DW.known rfl ?_); refine DW.G (fun hg => ?_) (fun hg => ?_)))
          | ((with_reducible apply DW.k_any); first
                      | refine DW.R ?_ | refine DW.R' ?_ | refine DW.W ?_ | refine DW.W' ?_
                      | (refine DW.known rfl ?_; (with_reducible first | apply DW.sx 2 | apply DW.sxN 2); (iterate 2 (focus (simp only [ft, nm, Nat.reduceAdd, Nat.reduceBEq, List.getElem?_cons_zero, List.getElem?_cons_succ]; exact rfl))); (focus (intro X V; simp only [ft, nm, Nat.reduceAdd, Nat.reduceBEq]; (try (refine AP.Y ?_; dsimp only)); (first  | fail); (try simp only [nx, Nat.reduceAdd, Nat.reduceSub, BEq.rfl]); refine AP.nil ?_; (first | refine ⟨trivial, rfl, ?_⟩ | refine ⟨rfl, rfl, ?_⟩); (repeat' (first | exact Mg.nil | apply Mg.keep rfl | apply Mg.take rfl)); done)); (focus (refine Exists.intro (fun _ => 0) ?_; apply Exists.intro; (repeat' (first | exact Mg.nil | apply Mg.keep rfl | apply Mg.take rfl)); done)); (iterate 2 (focus (exact rfl))))
                      | ((fail_if_success refine DW.known rfl ?_); refine DW.G (fun hg => ?_) (fun hg => ?_))
          )
        ) <;> (try simp only [d1, nx, mx, rn, fq, Nat.mul_one, Bool.and_true, Bool.and_false, Nat.reduceBEq, Nat.reduceAdd, Nat.reduceSub, BEq.rfl]))
      | ((with_reducible apply AP.k_nil); first | (refine AP.nil (hQ' _ ?_); clear hQ' Q') | refine AP.nil ?_)
      | ((with_reducible apply CP.k_drw); refine cp_drwX fun Q' hQ' => ?_)
      | ((with_reducible apply CP.k_drw1); refine cp_drawX ?_)
      | ((with_reducible apply DW.k_nil); refine DW.nl ?_; first | (refine hQ' _ ?_; clear hQ' Q') | skip)
      | ((with_reducible apply CP.k_reg); refine cp_regG fun Q' hQ' => ?_)
        | (with_reducible apply CP.k_reg1; refine cp_region ?_)
        | ((with_reducible apply CP.k_cond); first | refine cp_condT rfl ?_ | refine cp_condF rfl ?_ | refine cp_cond rfl (fun hc => ?_) (fun hc => ?_))
        | refine CP.go ?_
        | (simp only [List.append_eq, List.cons_append, List.nil_append]))
    (exact RetQ.A [(0, 0)] (by exact ⟨rfl, rfl⟩))
  · have d1 : decide (boot < 0) = false := by simp; omega
    by_cases hn1 : n < 1
    · have e : w.take boot n = (2, w) := if_pos (.inr hn1)
      rw [e]
      have d2 : decide (n < 1) = true := by simp; omega
      refine AC.N Try.func53 Try.ntmps53 ?_
      intro X hρ hmks
      simp only [nx, Nat.reduceAdd, Nat.reduceSub, BEq.rfl]
      repeat' (first
        | ((first
          | ((with_reducible apply AP.k_any); first | refine AP.ST ?_ | (refine AP.Y ?_; dsimp only) | refine AP.G (fun hg => ?_) (fun hg => ?_) | (refine AP.V (fun c hnil => ?_); simp only [nz])  | refine AP.PF ?_)
            | ((with_reducible apply DW.k_any); first | refine DW.ST ?_ | ((fail_if_success refine DW.known rfl ?_); refine DW.G (fun hg => ?_) (fun hg => ?_)))
            | ((with_reducible apply DW.k_any); first
                        | refine DW.R ?_ | refine DW.R' ?_ | refine DW.W ?_ | refine DW.W' ?_
                        | (refine DW.known rfl ?_; (with_reducible first | apply DW.sx 2 | apply DW.sxN 2); (iterate 2 (focus (simp only [ft, nm, Nat.reduceAdd, Nat.reduceBEq, List.getElem?_cons_zero, List.getElem?_cons_succ]; exact rfl))); (focus (intro X V; simp only [ft, nm, Nat.reduceAdd, Nat.reduceBEq]; (try (refine AP.Y ?_; dsimp only)); (first  | fail); (try simp only [nx, Nat.reduceAdd, Nat.reduceSub, BEq.rfl]); refine AP.nil ?_; (first | refine ⟨trivial, rfl, ?_⟩ | refine ⟨rfl, rfl, ?_⟩); (repeat' (first | exact Mg.nil | apply Mg.keep rfl | apply Mg.take rfl)); done)); (focus (refine Exists.intro (fun _ => 0) ?_; apply Exists.intro; (repeat' (first | exact Mg.nil | apply Mg.keep rfl | apply Mg.take rfl)); done)); (iterate 2 (focus (exact rfl))))
                        | ((fail_if_success refine DW.known rfl ?_); refine DW.G (fun hg => ?_) (fun hg => ?_))
            )
          ) <;> (try simp only [d1, d2, nx, mx, rn, fq, Nat.mul_one, Bool.and_true, Bool.and_false, Nat.reduceBEq, Nat.reduceAdd, Nat.reduceSub, BEq.rfl]))
        | ((with_reducible apply AP.k_nil); first | (refine AP.nil (hQ' _ ?_); clear hQ' Q') | refine AP.nil ?_)
        | ((with_reducible apply CP.k_drw); refine cp_drwX fun Q' hQ' => ?_)
        | ((with_reducible apply CP.k_drw1); refine cp_drawX ?_)
        | ((with_reducible apply DW.k_nil); refine DW.nl ?_; first | (refine hQ' _ ?_; clear hQ' Q') | skip)
        | ((with_reducible apply CP.k_reg); refine cp_regG fun Q' hQ' => ?_)
          | (with_reducible apply CP.k_reg1; refine cp_region ?_)
          | ((with_reducible apply CP.k_cond); first | refine cp_condT rfl ?_ | refine cp_condF rfl ?_ | refine cp_cond rfl (fun hc => ?_) (fun hc => ?_))
          | refine CP.go ?_
          | (simp only [List.append_eq, List.cons_append, List.nil_append]))
      (exact RetQ.A [(0, 0)] (by exact ⟨rfl, rfl⟩))
    · have d2 : decide (n < 1) = false := by simp; omega
      cases hk : w.taken boot n with
      | true =>
        have e : w.take boot n = (0, w.after boot n) := by unfold Wn.take; rw [if_neg (by omega), if_pos hk]
        rw [e]
        have hne := Wn.taken_ne (by omega) ht hk
        generalize w.after boot n = x at *
        refine AC.N Try.func53 Try.ntmps53 ?_
        intro X hρ hmks
        simp only [nx, Nat.reduceAdd, Nat.reduceSub, BEq.rfl]
        repeat' (first
          | ((first
            | ((with_reducible apply AP.k_any); first | refine AP.ST ?_ | (refine AP.Y ?_; dsimp only) | refine AP.G (fun hg => ?_) (fun hg => ?_) | (refine AP.V (fun c hnil => ?_); simp only [nz]) | refine AP.EQ ?_ | refine AP.PF ?_)
              | ((with_reducible apply DW.k_any); first | refine DW.ST ?_ | ((fail_if_success refine DW.known rfl ?_); refine DW.G (fun hg => ?_) (fun hg => ?_)))
              | ((with_reducible apply DW.k_any); first
                          | refine DW.R ?_ | refine DW.R' ?_ | refine DW.W ?_ | refine DW.W' ?_
                          | (refine DW.known rfl ?_; (with_reducible first | apply DW.sx 2 | apply DW.sxN 2); (iterate 2 (focus (simp only [ft, nm, Nat.reduceAdd, Nat.reduceBEq, List.getElem?_cons_zero, List.getElem?_cons_succ]; exact rfl))); (focus (intro X V; simp only [ft, nm, Nat.reduceAdd, Nat.reduceBEq]; (try (refine AP.Y ?_; dsimp only)); (first | refine AP.EQ ?_ | fail); (try simp only [nx, Nat.reduceAdd, Nat.reduceSub, BEq.rfl]); refine AP.nil ?_; (first | refine ⟨trivial, rfl, ?_⟩ | refine ⟨rfl, rfl, ?_⟩); (repeat' (first | exact Mg.nil | apply Mg.keep rfl | apply Mg.take rfl)); done)); (focus (refine Exists.intro (fun _ => 0) ?_; apply Exists.intro; (repeat' (first | exact Mg.nil | apply Mg.keep rfl | apply Mg.take rfl)); done)); (iterate 2 (focus (exact rfl))))
                          | ((fail_if_success refine DW.known rfl ?_); refine DW.G (fun hg => ?_) (fun hg => ?_))
              )
            ) <;> (try simp only [d1, d2, hne, nx, mx, rn, fq, Nat.mul_one, Bool.and_true, Bool.and_false, Nat.reduceBEq, Nat.reduceAdd, Nat.reduceSub, BEq.rfl]))
          | ((with_reducible apply AP.k_nil); first | (refine AP.nil (hQ' _ ?_); clear hQ' Q') | refine AP.nil ?_)
          | ((with_reducible apply CP.k_drw); refine cp_drwX fun Q' hQ' => ?_)
          | ((with_reducible apply CP.k_drw1); refine cp_drawX ?_)
          | ((with_reducible apply DW.k_nil); refine DW.nl ?_; first | (refine hQ' _ ?_; clear hQ' Q') | skip)
          | ((with_reducible apply CP.k_reg); refine cp_regG fun Q' hQ' => ?_)
            | (with_reducible apply CP.k_reg1; refine cp_region ?_)
            | ((with_reducible apply CP.k_cond); first | refine cp_condT rfl ?_ | refine cp_condF rfl ?_ | refine cp_cond rfl (fun hc => ?_) (fun hc => ?_))
            | refine CP.go ?_
            | (simp only [List.append_eq, List.cons_append, List.nil_append]))
        (exact RetQ.A [(0, 0)] (by exact ⟨rfl, rfl⟩))
      | false =>
        have e : w.take boot n = (180, w) := by unfold Wn.take; rw [if_neg (by omega), if_neg (by rw [hk]; simp)]
        rw [e]
        rw [Wn.not_taken hk] at h2
        have hne := wV_refl w
        refine AC.N Try.func53 Try.ntmps53 ?_
        intro X hρ hmks
        simp only [nx, Nat.reduceAdd, Nat.reduceSub, BEq.rfl]
        repeat' (first
          | ((first
            | ((with_reducible apply AP.k_any); first | refine AP.ST ?_ | (refine AP.Y ?_; dsimp only) | refine AP.G (fun hg => ?_) (fun hg => ?_) | (refine AP.V (fun c hnil => ?_); simp only [nz]) | refine AP.EQ ?_ | refine AP.PF ?_)
              | ((with_reducible apply DW.k_any); first | refine DW.ST ?_ | ((fail_if_success refine DW.known rfl ?_); refine DW.G (fun hg => ?_) (fun hg => ?_)))
              | ((with_reducible apply DW.k_any); first
                          | refine DW.R ?_ | refine DW.R' ?_ | refine DW.W ?_ | refine DW.W' ?_
                          | (refine DW.known rfl ?_; (with_reducible first | apply DW.sx 2 | apply DW.sxN 2); (iterate 2 (focus (simp only [ft, nm, Nat.reduceAdd, Nat.reduceBEq, List.getElem?_cons_zero, List.getElem?_cons_succ]; exact rfl))); (focus (intro X V; simp only [ft, nm, Nat.reduceAdd, Nat.reduceBEq]; (try (refine AP.Y ?_; dsimp only)); (first | refine AP.EQ ?_ | fail); (try simp only [nx, Nat.reduceAdd, Nat.reduceSub, BEq.rfl]); refine AP.nil ?_; (first | refine ⟨trivial, rfl, ?_⟩ | refine ⟨rfl, rfl, ?_⟩); (repeat' (first | exact Mg.nil | apply Mg.keep rfl | apply Mg.take rfl)); done)); (focus (refine Exists.intro (fun _ => 0) ?_; apply Exists.intro; (repeat' (first | exact Mg.nil | apply Mg.keep rfl | apply Mg.take rfl)); done)); (iterate 2 (focus (exact rfl))))
                          | ((fail_if_success refine DW.known rfl ?_); refine DW.G (fun hg => ?_) (fun hg => ?_))
              )
            ) <;> (try simp only [d1, d2, hne, nx, mx, rn, fq, Nat.mul_one, Bool.and_true, Bool.and_false, Nat.reduceBEq, Nat.reduceAdd, Nat.reduceSub, BEq.rfl]))
          | ((with_reducible apply AP.k_nil); first | (refine AP.nil (hQ' _ ?_); clear hQ' Q') | refine AP.nil ?_)
          | ((with_reducible apply CP.k_drw); refine cp_drwX fun Q' hQ' => ?_)
          | ((with_reducible apply CP.k_drw1); refine cp_drawX ?_)
          | ((with_reducible apply DW.k_nil); refine DW.nl ?_; first | (refine hQ' _ ?_; clear hQ' Q') | skip)
          | ((with_reducible apply CP.k_reg); refine cp_regG fun Q' hQ' => ?_)
            | (with_reducible apply CP.k_reg1; refine cp_region ?_)
            | ((with_reducible apply CP.k_cond); first | refine cp_condT rfl ?_ | refine cp_condF rfl ?_ | refine cp_cond rfl (fun hc => ?_) (fun hc => ?_))
            | refine CP.go ?_
            | (simp only [List.append_eq, List.cons_append, List.nil_append]))
        (exact RetQ.A [(0, 0)] (by exact ⟨rfl, rfl⟩))
end Go.Proofs.Ytnjfchigdpifmaa

namespace Go.Proofs.Ytnjfchigdpifmaa
set_option linter.unusedVariables false
set_option linter.unusedSimpArgs false
set_option maxHeartbeats 8000000
open Go.RowKit
set_option maxRecDepth 100000
abbrev Sd := Int × Int
abbrev kS (p : Sd) : Value := .agg #[.int .i64 p.1, .int .i64 p.2]
structure Ends where
  root : List UInt8
  who : Int
  boot : Int
  sent : List (Sd × Int)
  wins : List (Sd × Wn)
abbrev tEn : TypeId := 60
abbrev keyN (l : List (Sd × Int)) : List Value := l.map fun p => kS p.1
abbrev rowN (l : List (Sd × Int)) : List (List AV) := l.map fun p => [I p.2]
abbrev keyW (l : List (Sd × Wn)) : List Value := l.map fun p => kS p.1
abbrev rowW (l : List (Sd × Wn)) : List (List AV) := l.map fun p => [.ob tWn (wC p.2)]
abbrev enE (x : Ends) : List AV := [B true, bs none x.root, I x.who, I x.boot, .mo (keyN x.sent) (rowN x.sent), .mo (keyW x.wins) (rowW x.wins)]
abbrev xE (x : Ends) : Bx := .c tEn (enE x)
theorem lnew_ac (root : List UInt8) (who boot : Int) (hr : root.length ≤ 100000000) : AC Try.prog 22 [bs none root, I who, I boot] [] (fun v bs' => v = .bp 0 0 0 ∧ bs' = [xE ⟨root, who, boot, [], []⟩]) := by
  have h1 := sclone_ac root hr
  refine AC.N Try.func22 Try.ntmps22 ?_
  intro X hρ hmks
  simp only [nx, Nat.reduceAdd, Nat.reduceSub, BEq.rfl]
  refine CP.gh gh_slot ?_; simp only [nx, Nat.reduceAdd, Nat.reduceSub, BEq.rfl]
  refine CP.gh gh_slot ?_; simp only [nx, Nat.reduceAdd, Nat.reduceSub, BEq.rfl]
  refine CP.gh gh_slot ?_; simp only [nx, Nat.reduceAdd, Nat.reduceSub, BEq.rfl]
  refine CP.gh gh_slot ?_; simp only [nx, Nat.reduceAdd, Nat.reduceSub, BEq.rfl]
  repeat' (first
    | ((first
      | ((with_reducible apply AP.k_any); first | refine AP.ST ?_ | (refine AP.Y ?_; dsimp only) | refine AP.G (fun hg => ?_) (fun hg => ?_) | (refine AP.V (fun c hnil => ?_); simp only [nz])  | refine AP.PF ?_)
      ) <;> (try simp only [ nx, mx, rn, fq, Nat.mul_one, Bool.and_true, Bool.and_false, Nat.reduceBEq, Nat.reduceAdd, Nat.reduceSub, BEq.rfl]))
    | ((with_reducible apply AP.k_nil); first | (refine AP.nil (hQ' _ ?_); clear hQ' Q') | refine AP.nil ?_)
    | ((with_reducible apply CP.k_reg); refine cp_regG fun Q' hQ' => ?_)
      | (with_reducible apply CP.k_reg1; refine cp_region ?_)
      | ((with_reducible apply CP.k_cond); first | refine cp_condT rfl ?_ | refine cp_condF rfl ?_ | refine cp_cond rfl (fun hc => ?_) (fun hc => ?_))
      | refine CP.go ?_
      | (simp only [List.append_eq, List.cons_append, List.nil_append]))
  (exact RetQ.Fz [(3, 1)] (by exact ⟨rfl, rfl⟩))
theorem lnone_ac (x : Ends) : AC Try.prog 51 [.bp 0 0 0] [xE x] (fun v bs' => v = B false ∧ bs' = [xE x]) := by
  refine AC.N Try.func51 Try.ntmps51 ?_
  intro X hρ hmks
  simp only [nx, Nat.reduceAdd, Nat.reduceSub, BEq.rfl]
  repeat' (first
    | ((first
      | ((with_reducible apply AP.k_any); first | refine AP.ST ?_ | (refine AP.Y ?_; dsimp only) | refine AP.G (fun hg => ?_) (fun hg => ?_) | (refine AP.V (fun c hnil => ?_); simp only [nz])  | refine AP.PF ?_)
      ) <;> (try simp only [ nx, mx, rn, fq, Nat.mul_one, Bool.and_true, Bool.and_false, Nat.reduceBEq, Nat.reduceAdd, Nat.reduceSub, BEq.rfl]))
    | ((with_reducible apply AP.k_nil); first | (refine AP.nil (hQ' _ ?_); clear hQ' Q') | refine AP.nil ?_)
    | ((with_reducible apply CP.k_reg); refine cp_regG fun Q' hQ' => ?_)
      | (with_reducible apply CP.k_reg1; refine cp_region ?_)
      | ((with_reducible apply CP.k_cond); first | refine cp_condT rfl ?_ | refine cp_condF rfl ?_ | refine cp_cond rfl (fun hc => ?_) (fun hc => ?_))
      | refine CP.go ?_
      | (simp only [List.append_eq, List.cons_append, List.nil_append]))
  (exact RetQ.A [(0, 0)] (by exact ⟨rfl, rfl⟩))
end Go.Proofs.Ytnjfchigdpifmaa

namespace Go.Proofs.Ytnjfchigdpifmaa
set_option linter.unusedVariables false
set_option linter.unusedSimpArgs false
open Go.RowKit
set_option maxRecDepth 100000
abbrev tSd : TypeId := 82
theorem kin (l : List Value) (h : ∀ k ∈ l, ∃ p : Sd, k = kS p) : ∀ k ∈ l, isKey Try.prog tSd [.i .i64, .i .i64] k = true := fun k hk => by
  obtain ⟨p, rfl⟩ := h k hk
  have hA : aggT Try.prog tSd = true := by kernel_rfl
  unfold isKey
  rw [hA]; rfl
theorem kinS {α : Type} (l : List (Sd × α)) : ∀ k ∈ l.map (fun p => kS p.1), isKey Try.prog tSd [.i .i64, .i .i64] k = true := kin _ fun k hk => by
  obtain ⟨p, _, rfl⟩ := List.mem_map.1 hk
  exact ⟨_, rfl⟩
theorem kEq_kS (a b : Sd) : kEq (kS a) (kS b) = decide (a = b) := by
  obtain ⟨a1, a2⟩ := a
  obtain ⟨b1, b2⟩ := b
  simp only [kEq, eqVs, eqV1, Bool.and_true]
  rw [Bool.eq_iff_iff]; simp
/-- where a side stands -/
def at_ {α : Type} (s : Sd) : List (Sd × α) → Option Nat
  | [] => none
  | p :: l => if s = p.1 then some 0 else (at_ s l).map (· + 1)
theorem fnd_at_ {α : Type} (s : Sd) : ∀ l : List (Sd × α), fnd (kS s) (l.map fun p => kS p.1) = at_ s l
  | [] => rfl
  | p :: l => by
    simp only [List.map_cons, fnd, kEq_kS, at_, fnd_at_ s l]
    by_cases h : s = p.1
    · simp [h]
    · simp only [h, decide_false, if_false]
      cases at_ s l <;> rfl
theorem at_some {α : Type} {s : Sd} : ∀ {l : List (Sd × α)} {n : Nat}, at_ s l = some n → ∃ x, l[n]? = some (s, x)
  | [], _, h => by simp [at_] at h
  | p :: l, n, h => by
    unfold at_ at h
    split at h
    · rename_i hs; injection h with h; subst h; exact ⟨p.2, by simp [hs]⟩
    · obtain ⟨m, hm, rfl⟩ := Option.map_eq_some_iff.1 h
      obtain ⟨x, hx⟩ := at_some hm
      exact ⟨x, by simpa using hx⟩
/-- a side's, or what stands for none -/
def got {α : Type} (s : Sd) (l : List (Sd × α)) (d : α) : α := match at_ s l with
  | some n => match l[n]? with
    | some p => p.2
    | none => d
  | none => d
def puts {α : Type} (s : Sd) (l : List (Sd × α)) (v : α) : List (Sd × α) := match at_ s l with
  | some n => l.set n (s, v)
  | none => l ++ [(s, v)]
def Ends.pkt (x : Ends) (to epoch : Int) (body : List UInt8) : Pkt := ⟨x.who, to, epoch, x.boot, got (to, epoch) x.sent 0 + 1, body, List.replicate 32 0⟩
def Ends.sealed (x : Ends) (to epoch : Int) (body : List UInt8) : Pkt := { x.pkt to epoch body with tag := tagS x.root (x.pkt to epoch body) }
def Ends.bump (x : Ends) (to epoch : Int) : Ends := { x with sent := puts (to, epoch) x.sent (got (to, epoch) x.sent 0 + 1) }
theorem print_acO (p : Pkt) (hp : p.body.length ≤ 60000) (ht : p.tag.length = 32) : AC Try.prog 18 [.ag (ePO p)] [] (fun v bs' => v = .tu [if mayP p then bs none (headS p ++ p.tag) else bs none [], I (if mayP p then 0 else 2)] ∧ bs' = []) := by
  refine AC.own ?_
  have e : roC [.ag (ePO p)] = [.ag (eP p)] := by
    simp only [roC, AV.ro, ePO, eP, tagC, List.cons_append, List.nil_append, ro_B]
  rw [e]
  exact print_ac p hp ht
theorem tagC_z : tagC (List.replicate 32 0) = [.sc (.int .u8 0), .sc (.int .u8 0), .sc (.int .u8 0), .sc (.int .u8 0), .sc (.int .u8 0), .sc (.int .u8 0), .sc (.int .u8 0), .sc (.int .u8 0), .sc (.int .u8 0), .sc (.int .u8 0), .sc (.int .u8 0), .sc (.int .u8 0), .sc (.int .u8 0), .sc (.int .u8 0), .sc (.int .u8 0), .sc (.int .u8 0), .sc (.int .u8 0), .sc (.int .u8 0), .sc (.int .u8 0), .sc (.int .u8 0), .sc (.int .u8 0), .sc (.int .u8 0), .sc (.int .u8 0), .sc (.int .u8 0), .sc (.int .u8 0), .sc (.int .u8 0), .sc (.int .u8 0), .sc (.int .u8 0), .sc (.int .u8 0), .sc (.int .u8 0), .sc (.int .u8 0), .sc (.int .u8 0)] := by
  have h : ∀ i, i < 32 → (List.replicate 32 (0 : UInt8)).getD i 0 = 0 := fun i hi => by rw [List.getD_eq_getElem?_getD, List.getElem?_replicate, if_pos hi]; rfl
  have h0 : (((0 : UInt8).toNat : Nat) : Int) = 0 := rfl
  simp only [tagC, h _ (by decide : 0 < 32), h _ (by decide : 1 < 32), h _ (by decide : 2 < 32), h _ (by decide : 3 < 32), h _ (by decide : 4 < 32), h _ (by decide : 5 < 32), h _ (by decide : 6 < 32), h _ (by decide : 7 < 32), h _ (by decide : 8 < 32), h _ (by decide : 9 < 32), h _ (by decide : 10 < 32), h _ (by decide : 11 < 32), h _ (by decide : 12 < 32), h _ (by decide : 13 < 32), h _ (by decide : 14 < 32), h _ (by decide : 15 < 32), h _ (by decide : 16 < 32), h _ (by decide : 17 < 32), h _ (by decide : 18 < 32), h _ (by decide : 19 < 32), h _ (by decide : 20 < 32), h _ (by decide : 21 < 32), h _ (by decide : 22 < 32), h _ (by decide : 23 < 32), h _ (by decide : 24 < 32), h _ (by decide : 25 < 32), h _ (by decide : 26 < 32), h _ (by decide : 27 < 32), h _ (by decide : 28 < 32), h _ (by decide : 29 < 32), h _ (by decide : 30 < 32), h _ (by decide : 31 < 32), U, h0]
theorem eP_z (f t e b s : Int) (y : List UInt8) : eP ⟨f, t, e, b, s, y, List.replicate 32 0⟩ = [I f, I t, I e, I b, I s, bs none y, .sc (.int .u8 0), .sc (.int .u8 0), .sc (.int .u8 0), .sc (.int .u8 0), .sc (.int .u8 0), .sc (.int .u8 0), .sc (.int .u8 0), .sc (.int .u8 0), .sc (.int .u8 0), .sc (.int .u8 0), .sc (.int .u8 0), .sc (.int .u8 0), .sc (.int .u8 0), .sc (.int .u8 0), .sc (.int .u8 0), .sc (.int .u8 0), .sc (.int .u8 0), .sc (.int .u8 0), .sc (.int .u8 0), .sc (.int .u8 0), .sc (.int .u8 0), .sc (.int .u8 0), .sc (.int .u8 0), .sc (.int .u8 0), .sc (.int .u8 0), .sc (.int .u8 0), .sc (.int .u8 0), .sc (.int .u8 0), .sc (.int .u8 0), .sc (.int .u8 0), .sc (.int .u8 0), .sc (.int .u8 0)] := congrArg (fun l => I f :: I t :: I e :: I b :: I s :: bs none y :: l) tagC_z
theorem mayP_tag (p : Pkt) (t : List UInt8) : mayP { p with tag := t } = mayP p := rfl
theorem headS_tag (p : Pkt) (t : List UInt8) : headS { p with tag := t } = headS p := rfl
theorem puts_keys {α : Type} {s : Sd} {l : List (Sd × α)} {n : Nat} (h : at_ s l = some n) (v : α) : (l.set n (s, v)).map (fun p => kS p.1) = l.map fun p => kS p.1 := by
  obtain ⟨x, hx⟩ := at_some h
  apply List.ext_getElem?
  intro i
  rw [List.getElem?_map, List.getElem?_map, List.getElem?_set]
  split
  · rename_i hi; subst hi
    rw [hx, if_pos (List.getElem?_eq_some_iff.1 hx).1]; rfl
  · rfl
end Go.Proofs.Ytnjfchigdpifmaa

namespace Go.Proofs.Ytnjfchigdpifmaa
set_option linter.unusedVariables false
set_option linter.unusedSimpArgs false
set_option maxHeartbeats 8000000
open Go.RowKit
set_option maxRecDepth 100000
theorem send_no (x : Ends) (to epoch : Int) (body : List UInt8) (hr : x.root.length ≤ 10000) (hb : body.length ≤ 60000) (hn : 0 ≤ got (to, epoch) x.sent 0 ∧ got (to, epoch) x.sent 0 ≤ 1000000000) (hm : mayP (x.pkt to epoch body) = false) :
    AC Try.prog 23 [.bp 0 0 0, I to, I epoch, bs none body] [xE x] (fun v bs' => v = .tu [bs none [], I 2] ∧ bs' = [xE x]) := by
  have hm' : mayP (x.sealed to epoch body) = false := (mayP_tag _ _).trans hm
  have h1 := lnone_ac x
  have h2 := seal_ac x.root (x.pkt to epoch body) hr hb
  have h3 := print_acO (x.sealed to epoch body) hb (tagS_len _ _)
  have hk := kinS x.sent
  have hf := fnd_at_ (to, epoch) x.sent
  rw [hm'] at h3
  simp only [Bool.false_eq_true, if_false] at h3
  have hw : IntKind.i64.wrap (got (to, epoch) x.sent 0 + 1) = got (to, epoch) x.sent 0 + 1 := wrap_i64 (by omega) (by omega)
  unfold Ends.sealed at *
  generalize tagS x.root (x.pkt to epoch body) = T at *
  unfold Ends.pkt at *
  rw [eP_z] at h2
  cases ha : at_ (to, epoch) x.sent with
  | none =>
    have hg : got (to, epoch) x.sent 0 = 0 := by unfold got; rw [ha]
    rw [ha] at hf
    rw [hg] at hw h2 h3
    refine AC.N Try.func23 Try.ntmps23 ?_
    intro X hρ hmks
    simp only [nx, Nat.reduceAdd, Nat.reduceSub, BEq.rfl]
    refine CP.gh gh_slot ?_; simp only [nx, Nat.reduceAdd, Nat.reduceSub, BEq.rfl]
    refine CP.gh gh_slot ?_; simp only [nx, Nat.reduceAdd, Nat.reduceSub, BEq.rfl]
    refine CP.gh gh_slot ?_; simp only [nx, Nat.reduceAdd, Nat.reduceSub, BEq.rfl]
    repeat' (first
      | ((first
        | ((with_reducible apply AP.k_any); first | refine AP.ST ?_ | (refine AP.Y ?_; dsimp only) | refine AP.G (fun hg => ?_) (fun hg => ?_) | (refine AP.V (fun c hnil => ?_); simp only [nz])  | refine AP.PF ?_)
          | ((with_reducible apply DW.k_any); first | refine DW.ST ?_ | ((fail_if_success refine DW.known rfl ?_); refine DW.G (fun hg => ?_) (fun hg => ?_)))
          | ((with_reducible apply DW.k_any); first
                      | refine DW.R ?_ | refine DW.R' ?_ | refine DW.W ?_ | refine DW.W' ?_
                      | (refine DW.known rfl ?_; (with_reducible first | apply DW.sx 2 | apply DW.sxN 2); (iterate 2 (focus (simp only [ft, nm, Nat.reduceAdd, Nat.reduceBEq, List.getElem?_cons_zero, List.getElem?_cons_succ]; exact rfl))); (focus (intro X V; simp only [ft, nm, Nat.reduceAdd, Nat.reduceBEq]; (try (refine AP.Y ?_; dsimp only)); (first  | fail); (try simp only [nx, Nat.reduceAdd, Nat.reduceSub, BEq.rfl]); refine AP.nil ?_; (first | refine ⟨trivial, rfl, ?_⟩ | refine ⟨rfl, rfl, ?_⟩); (repeat' (first | exact Mg.nil | apply Mg.keep rfl | apply Mg.take rfl)); done)); (focus (refine Exists.intro (fun _ => 0) ?_; apply Exists.intro; (repeat' (first | exact Mg.nil | apply Mg.keep rfl | apply Mg.take rfl)); done)); (iterate 2 (focus (exact rfl))))
                      | ((fail_if_success refine DW.known rfl ?_); refine DW.G (fun hg => ?_) (fun hg => ?_))
          )
        ) <;> (try simp only [hw, nx, mx, rn, fq, Nat.mul_one, Bool.and_true, Bool.and_false, Nat.reduceBEq, Nat.reduceAdd, Nat.reduceSub, BEq.rfl]))
      | ((with_reducible apply AP.k_nil); first | (refine AP.nil (hQ' _ ?_); clear hQ' Q') | refine AP.nil ?_)
      | ((with_reducible apply CP.k_drw); refine cp_drwX fun Q' hQ' => ?_)
      | ((with_reducible apply CP.k_drw1); refine cp_drawX ?_)
      | ((with_reducible apply DW.k_nil); refine DW.nl ?_; first | (refine hQ' _ ?_; clear hQ' Q') | skip)
      | ((with_reducible apply CP.k_reg); refine cp_regG fun Q' hQ' => ?_)
        | (with_reducible apply CP.k_reg1; refine cp_region ?_)
        | ((with_reducible apply CP.k_cond); first | refine cp_condT rfl ?_ | refine cp_condF rfl ?_ | refine cp_cond rfl (fun hc => ?_) (fun hc => ?_))
        | refine CP.go ?_
        | (simp only [List.append_eq, List.cons_append, List.nil_append]))
    (exact RetQ.A [(0, 0)] (by exact ⟨rfl, rfl⟩))
  | some n =>
    obtain ⟨v, hv⟩ := at_some ha
    have hg : got (to, epoch) x.sent 0 = v := by unfold got; rw [ha]; dsimp only; rw [hv]
    have hro := rowAt_map (e := fun p : Sd × Int => [I p.2]) hv rfl
    rw [ha] at hf
    rw [hg] at hw h2 h3
    refine AC.N Try.func23 Try.ntmps23 ?_
    intro X hρ hmks
    simp only [nx, Nat.reduceAdd, Nat.reduceSub, BEq.rfl]
    refine CP.gh gh_slot ?_; simp only [nx, Nat.reduceAdd, Nat.reduceSub, BEq.rfl]
    refine CP.gh gh_slot ?_; simp only [nx, Nat.reduceAdd, Nat.reduceSub, BEq.rfl]
    refine CP.gh gh_slot ?_; simp only [nx, Nat.reduceAdd, Nat.reduceSub, BEq.rfl]
    repeat' (first
      | ((first
        | ((with_reducible apply AP.k_any); first | refine AP.ST ?_ | (refine AP.Y ?_; dsimp only) | refine AP.G (fun hg => ?_) (fun hg => ?_) | (refine AP.V (fun c hnil => ?_); simp only [nz])  | refine AP.PF ?_)
          | ((with_reducible apply DW.k_any); first | refine DW.ST ?_ | ((fail_if_success refine DW.known rfl ?_); refine DW.G (fun hg => ?_) (fun hg => ?_)))
          | ((with_reducible apply DW.k_any); first
                      | refine DW.R ?_ | refine DW.R' ?_ | refine DW.W ?_ | refine DW.W' ?_
                      | (refine DW.known rfl ?_; (with_reducible first | apply DW.sx 2 | apply DW.sxN 2); (iterate 2 (focus (simp only [ft, nm, Nat.reduceAdd, Nat.reduceBEq, List.getElem?_cons_zero, List.getElem?_cons_succ]; exact rfl))); (focus (intro X V; simp only [ft, nm, Nat.reduceAdd, Nat.reduceBEq]; (try (refine AP.Y ?_; dsimp only)); (first  | fail); (try simp only [nx, Nat.reduceAdd, Nat.reduceSub, BEq.rfl]); refine AP.nil ?_; (first | refine ⟨trivial, rfl, ?_⟩ | refine ⟨rfl, rfl, ?_⟩); (repeat' (first | exact Mg.nil | apply Mg.keep rfl | apply Mg.take rfl)); done)); (focus (refine Exists.intro (fun _ => 0) ?_; apply Exists.intro; (repeat' (first | exact Mg.nil | apply Mg.keep rfl | apply Mg.take rfl)); done)); (iterate 2 (focus (exact rfl))))
                      | ((fail_if_success refine DW.known rfl ?_); refine DW.G (fun hg => ?_) (fun hg => ?_))
          )
        ) <;> (try simp only [hw, nx, mx, rn, fq, Nat.mul_one, Bool.and_true, Bool.and_false, Nat.reduceBEq, Nat.reduceAdd, Nat.reduceSub, BEq.rfl]))
      | ((with_reducible apply AP.k_nil); first | (refine AP.nil (hQ' _ ?_); clear hQ' Q') | refine AP.nil ?_)
      | ((with_reducible apply CP.k_drw); refine cp_drwX fun Q' hQ' => ?_)
      | ((with_reducible apply CP.k_drw1); refine cp_drawX ?_)
      | ((with_reducible apply DW.k_nil); refine DW.nl ?_; first | (refine hQ' _ ?_; clear hQ' Q') | skip)
      | ((with_reducible apply CP.k_reg); refine cp_regG fun Q' hQ' => ?_)
        | (with_reducible apply CP.k_reg1; refine cp_region ?_)
        | ((with_reducible apply CP.k_cond); first | refine cp_condT rfl ?_ | refine cp_condF rfl ?_ | refine cp_cond rfl (fun hc => ?_) (fun hc => ?_))
        | refine CP.go ?_
        | (simp only [List.append_eq, List.cons_append, List.nil_append]))
    (exact RetQ.A [(0, 0)] (by exact ⟨rfl, rfl⟩))
theorem send_ok (x : Ends) (to epoch : Int) (body : List UInt8) (hr : x.root.length ≤ 10000) (hb : body.length ≤ 60000) (hn : 0 ≤ got (to, epoch) x.sent 0 ∧ got (to, epoch) x.sent 0 ≤ 1000000000) (hm : mayP (x.pkt to epoch body) = true) :
    AC Try.prog 23 [.bp 0 0 0, I to, I epoch, bs none body] [xE x] (fun v bs' => v = .tu [bs none (headS (x.pkt to epoch body) ++ tagS x.root (x.pkt to epoch body)), I 0] ∧ bs' = [xE (x.bump to epoch)]) := by
  have hm' : mayP (x.sealed to epoch body) = true := (mayP_tag _ _).trans hm
  have h1 := lnone_ac x
  have h2 := seal_ac x.root (x.pkt to epoch body) hr hb
  have h3 := print_acO (x.sealed to epoch body) hb (tagS_len _ _)
  have hk := kinS x.sent
  have hf := fnd_at_ (to, epoch) x.sent
  rw [hm'] at h3
  simp only [if_true] at h3
  have hw : IntKind.i64.wrap (got (to, epoch) x.sent 0 + 1) = got (to, epoch) x.sent 0 + 1 := wrap_i64 (by omega) (by omega)
  rw [show headS (x.sealed to epoch body) = headS (x.pkt to epoch body) from headS_tag _ _] at h3
  unfold Ends.sealed at *
  generalize headS (x.pkt to epoch body) = hd at *
  generalize tagS x.root (x.pkt to epoch body) = T at *
  unfold Ends.pkt at *
  rw [eP_z] at h2
  dsimp only at h3
  generalize hd ++ T = y at *
  cases ha : at_ (to, epoch) x.sent with
  | none =>
    have hg : got (to, epoch) x.sent 0 = 0 := by unfold got; rw [ha]
    have e1 : xE (x.bump to epoch) = .c tEn [B true, bs none x.root, I x.who, I x.boot, .mo (keyN x.sent ++ [kS (to, epoch)]) ((rowN x.sent ++ [[I 0]]).set x.sent.length [I 1]), .mo (keyW x.wins) (rowW x.wins)] := by
      have e2 : (rowN x.sent ++ [[I 0]]).set x.sent.length [I 1] = rowN x.sent ++ [[I 1]] := by
        rw [List.set_append_right _ _ (by simp)]; simp
      rw [e2]
      unfold Ends.bump puts
      rw [hg, ha]
      simp only [xE, enE, keyN, rowN, List.map_append, List.map_cons, List.map_nil]
      rfl
    rw [e1]
    have hk1 : ∀ k ∈ keyN x.sent ++ [kS (to, epoch)], isKey Try.prog tSd [.i .i64, .i .i64] k = true := kin _ fun k hk => by
      rcases List.mem_append.1 hk with hk | hk
      · obtain ⟨p, _, rfl⟩ := List.mem_map.1 hk; exact ⟨_, rfl⟩
      · simp at hk; exact ⟨_, hk⟩
    have hf1 : fnd (kS (to, epoch)) (keyN x.sent ++ [kS (to, epoch)]) = some x.sent.length := by
      rw [fnd_app (by rw [hf, ha])]
      simp [fnd, kEq_kS]
    have hro1 : rowAt (rowN x.sent ++ [[I 0]]) none x.sent.length = some (I 0) := by
      simp [rowAt, AV.cp]
    rw [ha] at hf
    rw [hg] at hw h2 h3
    have hw0 : IntKind.i64.wrap (0 + 1) = 1 := rfl
    refine AC.N Try.func23 Try.ntmps23 ?_
    intro X hρ hmks
    simp only [nx, Nat.reduceAdd, Nat.reduceSub, BEq.rfl]
    refine CP.gh gh_slot ?_; simp only [nx, Nat.reduceAdd, Nat.reduceSub, BEq.rfl]
    refine CP.gh gh_slot ?_; simp only [nx, Nat.reduceAdd, Nat.reduceSub, BEq.rfl]
    refine CP.gh gh_slot ?_; simp only [nx, Nat.reduceAdd, Nat.reduceSub, BEq.rfl]
    repeat' (first
      | ((first
        | ((with_reducible apply AP.k_any); first | refine AP.ST ?_ | (refine AP.Y ?_; dsimp only) | refine AP.G (fun hg => ?_) (fun hg => ?_) | (refine AP.V (fun c hnil => ?_); simp only [nz])  | refine AP.PF ?_)
        ) <;> (try simp only [hw, nx, mx, rn, fq, Nat.mul_one, Bool.and_true, Bool.and_false, Nat.reduceBEq, Nat.reduceAdd, Nat.reduceSub, BEq.rfl]))
      | ((with_reducible apply AP.k_nil); first | (refine AP.nil (hQ' _ ?_); clear hQ' Q') | refine AP.nil ?_)
      | ((with_reducible apply CP.k_reg); refine cp_regG fun Q' hQ' => ?_)
        | (with_reducible apply CP.k_reg1; refine cp_region ?_)
        | ((with_reducible apply CP.k_cond); first | refine cp_condT rfl ?_ | refine cp_condF rfl ?_ | refine cp_cond rfl (fun hc => ?_) (fun hc => ?_))
        | refine CP.go ?_
        | (simp only [List.append_eq, List.cons_append, List.nil_append]))
    first | refine cp_drwX fun Q' hQ' => ?_ | refine cp_drawX ?_
    repeat' (first
      | ((first
        | ((with_reducible apply AP.k_any); first | refine AP.ST ?_ | (refine AP.Y ?_; dsimp only) | refine AP.G (fun hg => ?_) (fun hg => ?_) | (refine AP.V (fun c hnil => ?_); simp only [nz])  | refine AP.PF ?_)
          | ((with_reducible apply DW.k_any); first | refine DW.ST ?_ | ((fail_if_success refine DW.known rfl ?_); refine DW.G (fun hg => ?_) (fun hg => ?_)))
          | ((with_reducible apply DW.k_any); first
                      | refine DW.R ?_ | refine DW.R' ?_ | refine DW.W ?_ | refine DW.W' ?_
                      | (refine DW.known rfl ?_; (with_reducible first | apply DW.sx 2 | apply DW.sxN 2); (iterate 2 (focus (simp only [ft, nm, Nat.reduceAdd, Nat.reduceBEq, List.getElem?_cons_zero, List.getElem?_cons_succ]; exact rfl))); (focus (intro X V; simp only [ft, nm, Nat.reduceAdd, Nat.reduceBEq]; (try (refine AP.Y ?_; dsimp only)); (first  | fail); (try simp only [nx, Nat.reduceAdd, Nat.reduceSub, BEq.rfl]); refine AP.nil ?_; (first | refine ⟨trivial, rfl, ?_⟩ | refine ⟨rfl, rfl, ?_⟩); (repeat' (first | exact Mg.nil | apply Mg.keep rfl | apply Mg.take rfl)); done)); (focus (refine Exists.intro (fun _ => 0) ?_; apply Exists.intro; (repeat' (first | exact Mg.nil | apply Mg.keep rfl | apply Mg.take rfl)); done)); (iterate 2 (focus (exact rfl))))
                      | ((fail_if_success refine DW.known rfl ?_); refine DW.G (fun hg => ?_) (fun hg => ?_))
          )
        ) <;> (try simp only [hw, nx, mx, rn, fq, Nat.mul_one, Bool.and_true, Bool.and_false, Nat.reduceBEq, Nat.reduceAdd, Nat.reduceSub, BEq.rfl]))
      | ((with_reducible apply AP.k_nil); first | (refine AP.nil (hQ' _ ?_); clear hQ' Q') | refine AP.nil ?_)
      | ((with_reducible apply DW.k_nil); refine DW.nl ?_; first | (refine hQ' _ ?_; clear hQ' Q') | skip)
      | ((with_reducible apply CP.k_reg); refine cp_regG fun Q' hQ' => ?_)
        | (with_reducible apply CP.k_reg1; refine cp_region ?_)
        | ((with_reducible apply CP.k_cond); first | refine cp_condT rfl ?_ | refine cp_condF rfl ?_ | refine cp_cond rfl (fun hc => ?_) (fun hc => ?_))
        | refine CP.go ?_
        | (simp only [List.append_eq, List.cons_append, List.nil_append]))
    first | refine cp_drwX fun Q' hQ' => ?_ | refine cp_drawX ?_
    repeat' (first
      | ((first
        | ((with_reducible apply AP.k_any); first | refine AP.ST ?_ | (refine AP.Y ?_; dsimp only) | refine AP.G (fun hg => ?_) (fun hg => ?_) | (refine AP.V (fun c hnil => ?_); simp only [nz])  | refine AP.PF ?_)
          | ((with_reducible apply DW.k_any); first | refine DW.ST ?_ | ((fail_if_success refine DW.known rfl ?_); refine DW.G (fun hg => ?_) (fun hg => ?_)))
          | ((with_reducible apply DW.k_any); first
                      | refine DW.R ?_ | refine DW.R' ?_ | refine DW.W ?_ | refine DW.W' ?_
                      | (refine DW.known rfl ?_; (with_reducible first | apply DW.sx 2 | apply DW.sxN 2); (iterate 2 (focus (simp only [ft, nm, Nat.reduceAdd, Nat.reduceBEq, List.getElem?_cons_zero, List.getElem?_cons_succ]; exact rfl))); (focus (intro X V; simp only [ft, nm, Nat.reduceAdd, Nat.reduceBEq]; (try (refine AP.Y ?_; dsimp only)); (first  | fail); (try simp only [nx, Nat.reduceAdd, Nat.reduceSub, BEq.rfl]); refine AP.nil ?_; (first | refine ⟨trivial, rfl, ?_⟩ | refine ⟨rfl, rfl, ?_⟩); (repeat' (first | exact Mg.nil | apply Mg.keep rfl | apply Mg.take rfl)); done)); (focus (refine Exists.intro (fun _ => 0) ?_; apply Exists.intro; (repeat' (first | exact Mg.nil | apply Mg.keep rfl | apply Mg.take rfl)); done)); (iterate 2 (focus (exact rfl))))
                      | ((fail_if_success refine DW.known rfl ?_); refine DW.G (fun hg => ?_) (fun hg => ?_))
          )
        ) <;> (try simp only [hw, nx, mx, rn, fq, Nat.mul_one, Bool.and_true, Bool.and_false, Nat.reduceBEq, Nat.reduceAdd, Nat.reduceSub, BEq.rfl]))
      | ((with_reducible apply AP.k_nil); first | (refine AP.nil (hQ' _ ?_); clear hQ' Q') | refine AP.nil ?_)
      | ((with_reducible apply DW.k_nil); refine DW.nl ?_; first | (refine hQ' _ ?_; clear hQ' Q') | skip)
      | ((with_reducible apply CP.k_reg); refine cp_regG fun Q' hQ' => ?_)
        | (with_reducible apply CP.k_reg1; refine cp_region ?_)
        | ((with_reducible apply CP.k_cond); first | refine cp_condT rfl ?_ | refine cp_condF rfl ?_ | refine cp_cond rfl (fun hc => ?_) (fun hc => ?_))
        | refine CP.go ?_
        | (simp only [List.append_eq, List.cons_append, List.nil_append]))
    refine cp_drawI (fun zs zb => ⟨setT zs.t [(50, cond (zb.getD 0 false) (.bp 0 0 0) (.tu [])), (51, cond (zb.getD 1 false) (.bp 0 0 0) (.tu [])), (52, cond (zb.getD 2 false) (.bp 0 0 4) (.tu [])), (53, cond (zb.getD 3 false) (.hd 1 2) (.tu [])), (54, cond (zb.getD 4 false) (.ag [I to, I epoch]) (.tu [])), (55, cond (zb.getD 5 false) (I 0) (.tu [])), (56, cond (zb.getD 6 false) (I (IntKind.i64.wrap (0 + 1))) (.tu [])), (57, cond (zb.getD 7 false) (.tu [I 0, .hd 5 2]) (.tu [])), (58, cond (zb.getD 8 false) (.hd 5 2) (.tu []))], ((zs.b.set 1 (cond (zb.getD 9 false) (⟨2, .m (keyN x.sent ++ [kS (to, epoch)]) ((rowN x.sent ++ [[I 0]]).set x.sent.length [I (IntKind.i64.wrap (0 + 1))]) none none⟩) (cond (zb.getD 7 false) (⟨2, .m (keyN x.sent ++ [kS (to, epoch)]) (rowN x.sent ++ [[I 0]]) none (some (x.sent.length, 5, 2))⟩) (zs.b.getD 1 ⟨0, .x⟩)))).set 5 (cond (zb.getD 7 false) (⟨2, .x⟩) (zs.b.getD 5 ⟨0, .x⟩)))⟩) (by kernel_rfl) (by kernel_rfl) (by kernel_rfl) ?_ ?_
    rotate_left
    simp only [cond_true, cond_false, setT, List.set_cons_succ, List.set_cons_zero, List.getD_cons_succ, List.getD_cons_zero, List.set_cons_succ, List.length_cons, List.length_nil, List.replicate_succ, List.replicate_zero, Nat.reduceAdd]
    rotate_left
    · intro b hb' hcl
      obtain ⟨l0, b0, rfl, hb0⟩ := len_cons hb'
      obtain ⟨l1, b1, rfl, hb1⟩ := len_cons hb0
      obtain ⟨l2, b2, rfl, hb2⟩ := len_cons hb1
      obtain ⟨l3, b3, rfl, hb3⟩ := len_cons hb2
      obtain ⟨l4, b4, rfl, hb4⟩ := len_cons hb3
      obtain ⟨l5, b5, rfl, hb5⟩ := len_cons hb4
      obtain ⟨l6, b6, rfl, hb6⟩ := len_cons hb5
      obtain ⟨l7, b7, rfl, hb7⟩ := len_cons hb6
      obtain ⟨l8, b8, rfl, hb8⟩ := len_cons hb7
      obtain ⟨l9, b9, rfl, hb9⟩ := len_cons hb8
      obtain rfl := List.length_eq_zero_iff.1 hb9
      clear hb' hb0 hb1 hb2 hb3 hb4 hb5 hb6 hb7 hb8 hb9
      · simp only [closedB, depsOk, Region.binds, List.toList_toArray, List.all_cons, List.all_nil, List.getD_cons_succ, List.getD_cons_zero, Bool.not_true, Bool.not_false, Bool.true_or, Bool.false_or, Bool.and_true, Bool.true_and, Bool.or_true, Bool.and_false, Bool.or_false, Bool.false_and, Bool.and_eq_true, Bool.or_eq_true, Bool.not_eq_true'] at hcl
        simp only [StepsP]
        refine ⟨?_, ?_, ?_, ?_, ?_, ?_, ?_, ?_, ?_, ?_, trivial⟩
        · intro h1 h2
          simp [depsOk, Region.binds] at h1 h2
          subst h1
          (repeat (obtain ⟨rfl, h2⟩ := h2))
          (try subst h2)
          clear hcl
          all_goals simp only [cond_true, cond_false, setT, List.set_cons_succ, List.set_cons_zero, List.getD_cons_succ, List.getD_cons_zero, List.set_cons_succ]
          all_goals ((with_reducible apply AP.k_any); first | (refine AP.sm false rfl ?_ ?_; focus ((repeat' (with_reducible apply And.intro)) <;> (first | exact True.intro | exact rfl | omega | decide | (simp; omega) | (simp; done) | assumption | exact .inl rfl | (refine .inr ?_; simp; try omega)))) | fail "no step")
          all_goals (try simp only [nx, Nat.reduceAdd, Nat.reduceSub, BEq.rfl])
          all_goals refine AP.nil ?_
          all_goals exact ⟨rfl, rfl⟩
        · intro h1 h2
          simp [depsOk, Region.binds] at h1 h2
          subst h1
          (repeat (obtain ⟨rfl, h2⟩ := h2))
          (try subst h2)
          clear hcl
          all_goals simp only [cond_true, cond_false, setT, List.set_cons_succ, List.set_cons_zero, List.getD_cons_succ, List.getD_cons_zero, List.set_cons_succ]
          all_goals ((with_reducible apply AP.k_any); first | (refine AP.sm false rfl ?_ ?_; focus ((repeat' (with_reducible apply And.intro)) <;> (first | exact True.intro | exact rfl | omega | decide | (simp; omega) | (simp; done) | assumption | exact .inl rfl | (refine .inr ?_; simp; try omega)))) | fail "no step")
          all_goals (try simp only [nx, Nat.reduceAdd, Nat.reduceSub, BEq.rfl])
          all_goals refine AP.nil ?_
          all_goals exact ⟨rfl, rfl⟩
        · intro h1 h2
          simp [depsOk, Region.binds] at h1 h2
          subst h1
          (repeat (obtain ⟨rfl, h2⟩ := h2))
          (try subst h2)
          clear hcl
          all_goals simp only [cond_true, cond_false, setT, List.set_cons_succ, List.set_cons_zero, List.getD_cons_succ, List.getD_cons_zero, List.set_cons_succ]
          all_goals ((with_reducible apply AP.k_any); first | (refine AP.sm false rfl ?_ ?_; focus ((repeat' (with_reducible apply And.intro)) <;> (first | exact True.intro | exact rfl | omega | decide | (simp; omega) | (simp; done) | assumption | exact .inl rfl | (refine .inr ?_; simp; try omega)))) | fail "no step")
          all_goals (try simp only [nx, Nat.reduceAdd, Nat.reduceSub, BEq.rfl])
          all_goals refine AP.nil ?_
          all_goals exact ⟨rfl, rfl⟩
        · intro h1 h2
          simp [depsOk, Region.binds] at h1 h2
          subst h1
          (repeat (obtain ⟨rfl, h2⟩ := h2))
          (try subst h2)
          (first | (obtain rfl : l7 = false := by grind only) | skip)
          (first | (obtain rfl : l9 = false := by grind only) | skip)
          clear hcl
          all_goals simp only [cond_true, cond_false, setT, List.set_cons_succ, List.set_cons_zero, List.getD_cons_succ, List.getD_cons_zero, List.set_cons_succ]
          all_goals ((with_reducible apply AP.k_any); first | (refine AP.sm false rfl ?_ ?_; focus ((repeat' (with_reducible apply And.intro)) <;> (first | exact True.intro | exact rfl | omega | decide | (simp; omega) | (simp; done) | assumption | exact .inl rfl | (refine .inr ?_; simp; try omega)))) | (refine AP.el rfl ?_ (by (first | (refine ⟨?_, ?_⟩; assumption; rfl) | exact ⟨mapAt (by (first | omega | (simp; omega) | (simp; done) | assumption)), rfl⟩ | exact ⟨rfl, rfl⟩)) ?_; focus ((repeat' (with_reducible apply And.intro)) <;> (first | exact True.intro | exact rfl | omega | decide | (simp; omega) | (simp; done) | assumption | exact .inl rfl | (refine .inr ?_; simp; try omega)))) | fail "no step")
          all_goals (try simp only [nx, Nat.reduceAdd, Nat.reduceSub, BEq.rfl])
          all_goals refine AP.nil ?_
          all_goals exact ⟨rfl, rfl⟩
        · intro h1 h2
          simp [depsOk, Region.binds] at h1 h2
          subst h1
          (repeat (obtain ⟨rfl, h2⟩ := h2))
          (try subst h2)
          (first | (obtain rfl : l7 = false := by grind only) | skip)
          (first | (obtain rfl : l9 = false := by grind only) | skip)
          clear hcl
          all_goals simp only [cond_true, cond_false, setT, List.set_cons_succ, List.set_cons_zero, List.getD_cons_succ, List.getD_cons_zero, List.set_cons_succ]
          all_goals ((with_reducible apply AP.k_any); first | (refine AP.sm false rfl ?_ ?_; focus ((repeat' (with_reducible apply And.intro)) <;> (first | exact True.intro | exact rfl | omega | decide | (simp; omega) | (simp; done) | assumption | exact .inl rfl | (refine .inr ?_; simp; try omega)))) | (refine AP.el rfl ?_ (by (first | (refine ⟨?_, ?_⟩; assumption; rfl) | exact ⟨mapAt (by (first | omega | (simp; omega) | (simp; done) | assumption)), rfl⟩ | exact ⟨rfl, rfl⟩)) ?_; focus ((repeat' (with_reducible apply And.intro)) <;> (first | exact True.intro | exact rfl | omega | decide | (simp; omega) | (simp; done) | assumption | exact .inl rfl | (refine .inr ?_; simp; try omega)))) | fail "no step")
          all_goals (try simp only [nx, Nat.reduceAdd, Nat.reduceSub, BEq.rfl])
          all_goals refine AP.nil ?_
          all_goals exact ⟨rfl, rfl⟩
        · intro h1 h2
          simp [depsOk, Region.binds] at h1 h2
          subst h1
          (repeat (obtain ⟨rfl, h2⟩ := h2))
          (try subst h2)
          (first | (obtain rfl : l9 = false := by grind only) | skip)
          clear hcl
          (first | cases l7 | skip)
          all_goals simp only [cond_true, cond_false, setT, List.set_cons_succ, List.set_cons_zero, List.getD_cons_succ, List.getD_cons_zero, List.set_cons_succ]
          all_goals ((with_reducible apply AP.k_any); first | refine AP.LK ?_ | refine AP.LN ?_ | fail "no step")
          all_goals (try simp only [nx, Nat.reduceAdd, Nat.reduceSub, BEq.rfl])
          all_goals refine AP.nil ?_
          all_goals exact ⟨rfl, rfl⟩
        · intro h1 h2
          simp [depsOk, Region.binds] at h1 h2
          subst h1
          (repeat (obtain ⟨rfl, h2⟩ := h2))
          (try subst h2)
          clear hcl
          all_goals simp only [cond_true, cond_false, setT, List.set_cons_succ, List.set_cons_zero, List.getD_cons_succ, List.getD_cons_zero, List.set_cons_succ]
          all_goals ((with_reducible apply AP.k_any); first | (refine AP.sm false rfl ?_ ?_; focus ((repeat' (with_reducible apply And.intro)) <;> (first | exact True.intro | exact rfl | omega | decide | (simp; omega) | (simp; done) | assumption | exact .inl rfl | (refine .inr ?_; simp; try omega)))) | fail "no step")
          all_goals (try simp only [nx, Nat.reduceAdd, Nat.reduceSub, BEq.rfl])
          all_goals refine AP.nil ?_
          all_goals exact ⟨rfl, rfl⟩
        · intro h1 h2
          simp [depsOk, Region.binds] at h1 h2
          subst h1
          (repeat (obtain ⟨rfl, h2⟩ := h2))
          (try subst h2)
          (first | (obtain rfl : l9 = false := by grind only) | skip)
          clear hcl
          all_goals simp only [cond_true, cond_false, setT, List.set_cons_succ, List.set_cons_zero, List.getD_cons_succ, List.getD_cons_zero, List.set_cons_succ]
          all_goals ((with_reducible apply AP.k_any); first | refine AP.ME ?_ | refine AP.MF ?_ | fail "no step")
          all_goals (try simp only [nx, Nat.reduceAdd, Nat.reduceSub, BEq.rfl])
          all_goals refine AP.nil ?_
          all_goals exact ⟨rfl, rfl⟩
        · intro h1 h2
          simp [depsOk, Region.binds] at h1 h2
          subst h1
          (repeat (obtain ⟨rfl, h2⟩ := h2))
          (try subst h2)
          clear hcl
          all_goals simp only [cond_true, cond_false, setT, List.set_cons_succ, List.set_cons_zero, List.getD_cons_succ, List.getD_cons_zero, List.set_cons_succ]
          all_goals ((with_reducible apply AP.k_any); first | (refine AP.sm false rfl ?_ ?_; focus ((repeat' (with_reducible apply And.intro)) <;> (first | exact True.intro | exact rfl | omega | decide | (simp; omega) | (simp; done) | assumption | exact .inl rfl | (refine .inr ?_; simp; try omega)))) | fail "no step")
          all_goals (try simp only [nx, Nat.reduceAdd, Nat.reduceSub, BEq.rfl])
          all_goals refine AP.nil ?_
          all_goals exact ⟨rfl, rfl⟩
        · intro h1 h2
          simp [depsOk, Region.binds] at h1 h2
          subst h1
          (repeat (obtain ⟨rfl, h2⟩ := h2))
          (try subst h2)
          (first | (obtain rfl : l7 = true := by grind only) | skip)
          clear hcl
          all_goals simp only [cond_true, cond_false, setT, List.set_cons_succ, List.set_cons_zero, List.getD_cons_succ, List.getD_cons_zero, List.set_cons_succ]
          all_goals ((with_reducible apply AP.k_any); first | refine AP.MS ?_ | fail "no step")
          all_goals (try simp only [nx, Nat.reduceAdd, Nat.reduceSub, BEq.rfl])
          all_goals refine AP.nil ?_
          all_goals exact ⟨rfl, rfl⟩
    simp only [hw0]
    repeat' (first
      | ((first
        | ((with_reducible apply AP.k_any); first | refine AP.ST ?_ | (refine AP.Y ?_; dsimp only) | refine AP.G (fun hg => ?_) (fun hg => ?_) | (refine AP.V (fun c hnil => ?_); simp only [nz])  | refine AP.PF ?_)
        ) <;> (try simp only [hw, nx, mx, rn, fq, Nat.mul_one, Bool.and_true, Bool.and_false, Nat.reduceBEq, Nat.reduceAdd, Nat.reduceSub, BEq.rfl]))
      | ((with_reducible apply AP.k_nil); first | (refine AP.nil (hQ' _ ?_); clear hQ' Q') | refine AP.nil ?_)
      | ((with_reducible apply CP.k_reg); refine cp_regG fun Q' hQ' => ?_)
        | (with_reducible apply CP.k_reg1; refine cp_region ?_)
        | ((with_reducible apply CP.k_cond); first | refine cp_condT rfl ?_ | refine cp_condF rfl ?_ | refine cp_cond rfl (fun hc => ?_) (fun hc => ?_))
        | refine CP.go ?_
        | (simp only [List.append_eq, List.cons_append, List.nil_append]))
    (exact RetQ.A [(0, 0)] (by exact ⟨rfl, rfl⟩))
  | some n =>
    obtain ⟨v, hv⟩ := at_some ha
    have hg : got (to, epoch) x.sent 0 = v := by unfold got; rw [ha]; dsimp only; rw [hv]
    have e1 : xE (x.bump to epoch) = .c tEn [B true, bs none x.root, I x.who, I x.boot, .mo (keyN x.sent) ((rowN x.sent).set n [I (v + 1)]), .mo (keyW x.wins) (rowW x.wins)] := by
      have e2 := puts_keys ha (v + 1)
      have e3 : (x.sent.set n ((to, epoch), v + 1)).map (fun p : Sd × Int => [I p.2]) = (rowN x.sent).set n [I (v + 1)] := by rw [List.map_set]
      unfold Ends.bump puts
      rw [hg, ha]
      dsimp only [xE, enE, keyN, rowN]
      rw [e2, e3]
    rw [e1]
    have hro := rowAt_map (e := fun p : Sd × Int => [I p.2]) hv rfl
    rw [ha] at hf
    rw [hg] at hw h2 h3
    refine AC.N Try.func23 Try.ntmps23 ?_
    intro X hρ hmks
    simp only [nx, Nat.reduceAdd, Nat.reduceSub, BEq.rfl]
    refine CP.gh gh_slot ?_; simp only [nx, Nat.reduceAdd, Nat.reduceSub, BEq.rfl]
    refine CP.gh gh_slot ?_; simp only [nx, Nat.reduceAdd, Nat.reduceSub, BEq.rfl]
    refine CP.gh gh_slot ?_; simp only [nx, Nat.reduceAdd, Nat.reduceSub, BEq.rfl]
    repeat' (first
      | ((first
        | ((with_reducible apply AP.k_any); first | refine AP.ST ?_ | (refine AP.Y ?_; dsimp only) | refine AP.G (fun hg => ?_) (fun hg => ?_) | (refine AP.V (fun c hnil => ?_); simp only [nz])  | refine AP.PF ?_)
        ) <;> (try simp only [hw, nx, mx, rn, fq, Nat.mul_one, Bool.and_true, Bool.and_false, Nat.reduceBEq, Nat.reduceAdd, Nat.reduceSub, BEq.rfl]))
      | ((with_reducible apply AP.k_nil); first | (refine AP.nil (hQ' _ ?_); clear hQ' Q') | refine AP.nil ?_)
      | ((with_reducible apply CP.k_reg); refine cp_regG fun Q' hQ' => ?_)
        | (with_reducible apply CP.k_reg1; refine cp_region ?_)
        | ((with_reducible apply CP.k_cond); first | refine cp_condT rfl ?_ | refine cp_condF rfl ?_ | refine cp_cond rfl (fun hc => ?_) (fun hc => ?_))
        | refine CP.go ?_
        | (simp only [List.append_eq, List.cons_append, List.nil_append]))
    first | refine cp_drwX fun Q' hQ' => ?_ | refine cp_drawX ?_
    repeat' (first
      | ((first
        | ((with_reducible apply AP.k_any); first | refine AP.ST ?_ | (refine AP.Y ?_; dsimp only) | refine AP.G (fun hg => ?_) (fun hg => ?_) | (refine AP.V (fun c hnil => ?_); simp only [nz])  | refine AP.PF ?_)
          | ((with_reducible apply DW.k_any); first | refine DW.ST ?_ | ((fail_if_success refine DW.known rfl ?_); refine DW.G (fun hg => ?_) (fun hg => ?_)))
          | ((with_reducible apply DW.k_any); first
                      | refine DW.R ?_ | refine DW.R' ?_ | refine DW.W ?_ | refine DW.W' ?_
                      | (refine DW.known rfl ?_; (with_reducible first | apply DW.sx 2 | apply DW.sxN 2); (iterate 2 (focus (simp only [ft, nm, Nat.reduceAdd, Nat.reduceBEq, List.getElem?_cons_zero, List.getElem?_cons_succ]; exact rfl))); (focus (intro X V; simp only [ft, nm, Nat.reduceAdd, Nat.reduceBEq]; (try (refine AP.Y ?_; dsimp only)); (first  | fail); (try simp only [nx, Nat.reduceAdd, Nat.reduceSub, BEq.rfl]); refine AP.nil ?_; (first | refine ⟨trivial, rfl, ?_⟩ | refine ⟨rfl, rfl, ?_⟩); (repeat' (first | exact Mg.nil | apply Mg.keep rfl | apply Mg.take rfl)); done)); (focus (refine Exists.intro (fun _ => 0) ?_; apply Exists.intro; (repeat' (first | exact Mg.nil | apply Mg.keep rfl | apply Mg.take rfl)); done)); (iterate 2 (focus (exact rfl))))
                      | ((fail_if_success refine DW.known rfl ?_); refine DW.G (fun hg => ?_) (fun hg => ?_))
          )
        ) <;> (try simp only [hw, nx, mx, rn, fq, Nat.mul_one, Bool.and_true, Bool.and_false, Nat.reduceBEq, Nat.reduceAdd, Nat.reduceSub, BEq.rfl]))
      | ((with_reducible apply AP.k_nil); first | (refine AP.nil (hQ' _ ?_); clear hQ' Q') | refine AP.nil ?_)
      | ((with_reducible apply DW.k_nil); refine DW.nl ?_; first | (refine hQ' _ ?_; clear hQ' Q') | skip)
      | ((with_reducible apply CP.k_reg); refine cp_regG fun Q' hQ' => ?_)
        | (with_reducible apply CP.k_reg1; refine cp_region ?_)
        | ((with_reducible apply CP.k_cond); first | refine cp_condT rfl ?_ | refine cp_condF rfl ?_ | refine cp_cond rfl (fun hc => ?_) (fun hc => ?_))
        | refine CP.go ?_
        | (simp only [List.append_eq, List.cons_append, List.nil_append]))
    first | refine cp_drwX fun Q' hQ' => ?_ | refine cp_drawX ?_
    repeat' (first
      | ((first
        | ((with_reducible apply AP.k_any); first | refine AP.ST ?_ | (refine AP.Y ?_; dsimp only) | refine AP.G (fun hg => ?_) (fun hg => ?_) | (refine AP.V (fun c hnil => ?_); simp only [nz])  | refine AP.PF ?_)
          | ((with_reducible apply DW.k_any); first | refine DW.ST ?_ | ((fail_if_success refine DW.known rfl ?_); refine DW.G (fun hg => ?_) (fun hg => ?_)))
          | ((with_reducible apply DW.k_any); first
                      | refine DW.R ?_ | refine DW.R' ?_ | refine DW.W ?_ | refine DW.W' ?_
                      | (refine DW.known rfl ?_; (with_reducible first | apply DW.sx 2 | apply DW.sxN 2); (iterate 2 (focus (simp only [ft, nm, Nat.reduceAdd, Nat.reduceBEq, List.getElem?_cons_zero, List.getElem?_cons_succ]; exact rfl))); (focus (intro X V; simp only [ft, nm, Nat.reduceAdd, Nat.reduceBEq]; (try (refine AP.Y ?_; dsimp only)); (first  | fail); (try simp only [nx, Nat.reduceAdd, Nat.reduceSub, BEq.rfl]); refine AP.nil ?_; (first | refine ⟨trivial, rfl, ?_⟩ | refine ⟨rfl, rfl, ?_⟩); (repeat' (first | exact Mg.nil | apply Mg.keep rfl | apply Mg.take rfl)); done)); (focus (refine Exists.intro (fun _ => 0) ?_; apply Exists.intro; (repeat' (first | exact Mg.nil | apply Mg.keep rfl | apply Mg.take rfl)); done)); (iterate 2 (focus (exact rfl))))
                      | ((fail_if_success refine DW.known rfl ?_); refine DW.G (fun hg => ?_) (fun hg => ?_))
          )
        ) <;> (try simp only [hw, nx, mx, rn, fq, Nat.mul_one, Bool.and_true, Bool.and_false, Nat.reduceBEq, Nat.reduceAdd, Nat.reduceSub, BEq.rfl]))
      | ((with_reducible apply AP.k_nil); first | (refine AP.nil (hQ' _ ?_); clear hQ' Q') | refine AP.nil ?_)
      | ((with_reducible apply DW.k_nil); refine DW.nl ?_; first | (refine hQ' _ ?_; clear hQ' Q') | skip)
      | ((with_reducible apply CP.k_reg); refine cp_regG fun Q' hQ' => ?_)
        | (with_reducible apply CP.k_reg1; refine cp_region ?_)
        | ((with_reducible apply CP.k_cond); first | refine cp_condT rfl ?_ | refine cp_condF rfl ?_ | refine cp_cond rfl (fun hc => ?_) (fun hc => ?_))
        | refine CP.go ?_
        | (simp only [List.append_eq, List.cons_append, List.nil_append]))
    refine cp_drawI (fun zs zb => ⟨setT zs.t [(50, cond (zb.getD 0 false) (.bp 0 0 0) (.tu [])), (51, cond (zb.getD 1 false) (.bp 0 0 0) (.tu [])), (52, cond (zb.getD 2 false) (.bp 0 0 4) (.tu [])), (53, cond (zb.getD 3 false) (.hd 1 2) (.tu [])), (54, cond (zb.getD 4 false) (.ag [I to, I epoch]) (.tu [])), (55, cond (zb.getD 5 false) (I v) (.tu [])), (56, cond (zb.getD 6 false) (I (IntKind.i64.wrap (v + 1))) (.tu [])), (57, cond (zb.getD 7 false) (.tu [I v, .hd 5 2]) (.tu [])), (58, cond (zb.getD 8 false) (.hd 5 2) (.tu []))], ((zs.b.set 1 (cond (zb.getD 9 false) (⟨2, .m (keyN x.sent) ((rowN x.sent).set n [I (IntKind.i64.wrap (v + 1))]) none none⟩) (cond (zb.getD 7 false) (⟨2, .m (keyN x.sent) (rowN x.sent) none (some (n, 5, 2))⟩) (zs.b.getD 1 ⟨0, .x⟩)))).set 5 (cond (zb.getD 7 false) (⟨2, .x⟩) (zs.b.getD 5 ⟨0, .x⟩)))⟩) (by kernel_rfl) (by kernel_rfl) (by kernel_rfl) ?_ ?_
    rotate_left
    simp only [cond_true, cond_false, setT, List.set_cons_succ, List.set_cons_zero, List.getD_cons_succ, List.getD_cons_zero, List.set_cons_succ, List.length_cons, List.length_nil, List.replicate_succ, List.replicate_zero, Nat.reduceAdd]
    rotate_left
    · intro b hb' hcl
      obtain ⟨l0, b0, rfl, hb0⟩ := len_cons hb'
      obtain ⟨l1, b1, rfl, hb1⟩ := len_cons hb0
      obtain ⟨l2, b2, rfl, hb2⟩ := len_cons hb1
      obtain ⟨l3, b3, rfl, hb3⟩ := len_cons hb2
      obtain ⟨l4, b4, rfl, hb4⟩ := len_cons hb3
      obtain ⟨l5, b5, rfl, hb5⟩ := len_cons hb4
      obtain ⟨l6, b6, rfl, hb6⟩ := len_cons hb5
      obtain ⟨l7, b7, rfl, hb7⟩ := len_cons hb6
      obtain ⟨l8, b8, rfl, hb8⟩ := len_cons hb7
      obtain ⟨l9, b9, rfl, hb9⟩ := len_cons hb8
      obtain rfl := List.length_eq_zero_iff.1 hb9
      clear hb' hb0 hb1 hb2 hb3 hb4 hb5 hb6 hb7 hb8 hb9
      · simp only [closedB, depsOk, Region.binds, List.toList_toArray, List.all_cons, List.all_nil, List.getD_cons_succ, List.getD_cons_zero, Bool.not_true, Bool.not_false, Bool.true_or, Bool.false_or, Bool.and_true, Bool.true_and, Bool.or_true, Bool.and_false, Bool.or_false, Bool.false_and, Bool.and_eq_true, Bool.or_eq_true, Bool.not_eq_true'] at hcl
        simp only [StepsP]
        refine ⟨?_, ?_, ?_, ?_, ?_, ?_, ?_, ?_, ?_, ?_, trivial⟩
        · intro h1 h2
          simp [depsOk, Region.binds] at h1 h2
          subst h1
          (repeat (obtain ⟨rfl, h2⟩ := h2))
          (try subst h2)
          clear hcl
          all_goals simp only [cond_true, cond_false, setT, List.set_cons_succ, List.set_cons_zero, List.getD_cons_succ, List.getD_cons_zero, List.set_cons_succ]
          all_goals ((with_reducible apply AP.k_any); first | (refine AP.sm false rfl ?_ ?_; focus ((repeat' (with_reducible apply And.intro)) <;> (first | exact True.intro | exact rfl | omega | decide | (simp; omega) | (simp; done) | assumption | exact .inl rfl | (refine .inr ?_; simp; try omega)))) | fail "no step")
          all_goals (try simp only [nx, Nat.reduceAdd, Nat.reduceSub, BEq.rfl])
          all_goals refine AP.nil ?_
          all_goals exact ⟨rfl, rfl⟩
        · intro h1 h2
          simp [depsOk, Region.binds] at h1 h2
          subst h1
          (repeat (obtain ⟨rfl, h2⟩ := h2))
          (try subst h2)
          clear hcl
          all_goals simp only [cond_true, cond_false, setT, List.set_cons_succ, List.set_cons_zero, List.getD_cons_succ, List.getD_cons_zero, List.set_cons_succ]
          all_goals ((with_reducible apply AP.k_any); first | (refine AP.sm false rfl ?_ ?_; focus ((repeat' (with_reducible apply And.intro)) <;> (first | exact True.intro | exact rfl | omega | decide | (simp; omega) | (simp; done) | assumption | exact .inl rfl | (refine .inr ?_; simp; try omega)))) | fail "no step")
          all_goals (try simp only [nx, Nat.reduceAdd, Nat.reduceSub, BEq.rfl])
          all_goals refine AP.nil ?_
          all_goals exact ⟨rfl, rfl⟩
        · intro h1 h2
          simp [depsOk, Region.binds] at h1 h2
          subst h1
          (repeat (obtain ⟨rfl, h2⟩ := h2))
          (try subst h2)
          clear hcl
          all_goals simp only [cond_true, cond_false, setT, List.set_cons_succ, List.set_cons_zero, List.getD_cons_succ, List.getD_cons_zero, List.set_cons_succ]
          all_goals ((with_reducible apply AP.k_any); first | (refine AP.sm false rfl ?_ ?_; focus ((repeat' (with_reducible apply And.intro)) <;> (first | exact True.intro | exact rfl | omega | decide | (simp; omega) | (simp; done) | assumption | exact .inl rfl | (refine .inr ?_; simp; try omega)))) | fail "no step")
          all_goals (try simp only [nx, Nat.reduceAdd, Nat.reduceSub, BEq.rfl])
          all_goals refine AP.nil ?_
          all_goals exact ⟨rfl, rfl⟩
        · intro h1 h2
          simp [depsOk, Region.binds] at h1 h2
          subst h1
          (repeat (obtain ⟨rfl, h2⟩ := h2))
          (try subst h2)
          (first | (obtain rfl : l7 = false := by grind only) | skip)
          (first | (obtain rfl : l9 = false := by grind only) | skip)
          clear hcl
          all_goals simp only [cond_true, cond_false, setT, List.set_cons_succ, List.set_cons_zero, List.getD_cons_succ, List.getD_cons_zero, List.set_cons_succ]
          all_goals ((with_reducible apply AP.k_any); first | (refine AP.sm false rfl ?_ ?_; focus ((repeat' (with_reducible apply And.intro)) <;> (first | exact True.intro | exact rfl | omega | decide | (simp; omega) | (simp; done) | assumption | exact .inl rfl | (refine .inr ?_; simp; try omega)))) | (refine AP.el rfl ?_ (by (first | (refine ⟨?_, ?_⟩; assumption; rfl) | exact ⟨mapAt (by (first | omega | (simp; omega) | (simp; done) | assumption)), rfl⟩ | exact ⟨rfl, rfl⟩)) ?_; focus ((repeat' (with_reducible apply And.intro)) <;> (first | exact True.intro | exact rfl | omega | decide | (simp; omega) | (simp; done) | assumption | exact .inl rfl | (refine .inr ?_; simp; try omega)))) | fail "no step")
          all_goals (try simp only [nx, Nat.reduceAdd, Nat.reduceSub, BEq.rfl])
          all_goals refine AP.nil ?_
          all_goals exact ⟨rfl, rfl⟩
        · intro h1 h2
          simp [depsOk, Region.binds] at h1 h2
          subst h1
          (repeat (obtain ⟨rfl, h2⟩ := h2))
          (try subst h2)
          (first | (obtain rfl : l7 = false := by grind only) | skip)
          (first | (obtain rfl : l9 = false := by grind only) | skip)
          clear hcl
          all_goals simp only [cond_true, cond_false, setT, List.set_cons_succ, List.set_cons_zero, List.getD_cons_succ, List.getD_cons_zero, List.set_cons_succ]
          all_goals ((with_reducible apply AP.k_any); first | (refine AP.sm false rfl ?_ ?_; focus ((repeat' (with_reducible apply And.intro)) <;> (first | exact True.intro | exact rfl | omega | decide | (simp; omega) | (simp; done) | assumption | exact .inl rfl | (refine .inr ?_; simp; try omega)))) | (refine AP.el rfl ?_ (by (first | (refine ⟨?_, ?_⟩; assumption; rfl) | exact ⟨mapAt (by (first | omega | (simp; omega) | (simp; done) | assumption)), rfl⟩ | exact ⟨rfl, rfl⟩)) ?_; focus ((repeat' (with_reducible apply And.intro)) <;> (first | exact True.intro | exact rfl | omega | decide | (simp; omega) | (simp; done) | assumption | exact .inl rfl | (refine .inr ?_; simp; try omega)))) | fail "no step")
          all_goals (try simp only [nx, Nat.reduceAdd, Nat.reduceSub, BEq.rfl])
          all_goals refine AP.nil ?_
          all_goals exact ⟨rfl, rfl⟩
        · intro h1 h2
          simp [depsOk, Region.binds] at h1 h2
          subst h1
          (repeat (obtain ⟨rfl, h2⟩ := h2))
          (try subst h2)
          (first | (obtain rfl : l9 = false := by grind only) | skip)
          clear hcl
          (first | cases l7 | skip)
          all_goals simp only [cond_true, cond_false, setT, List.set_cons_succ, List.set_cons_zero, List.getD_cons_succ, List.getD_cons_zero, List.set_cons_succ]
          all_goals ((with_reducible apply AP.k_any); first | refine AP.LK ?_ | refine AP.LN ?_ | fail "no step")
          all_goals (try simp only [nx, Nat.reduceAdd, Nat.reduceSub, BEq.rfl])
          all_goals refine AP.nil ?_
          all_goals exact ⟨rfl, rfl⟩
        · intro h1 h2
          simp [depsOk, Region.binds] at h1 h2
          subst h1
          (repeat (obtain ⟨rfl, h2⟩ := h2))
          (try subst h2)
          clear hcl
          all_goals simp only [cond_true, cond_false, setT, List.set_cons_succ, List.set_cons_zero, List.getD_cons_succ, List.getD_cons_zero, List.set_cons_succ]
          all_goals ((with_reducible apply AP.k_any); first | (refine AP.sm false rfl ?_ ?_; focus ((repeat' (with_reducible apply And.intro)) <;> (first | exact True.intro | exact rfl | omega | decide | (simp; omega) | (simp; done) | assumption | exact .inl rfl | (refine .inr ?_; simp; try omega)))) | fail "no step")
          all_goals (try simp only [nx, Nat.reduceAdd, Nat.reduceSub, BEq.rfl])
          all_goals refine AP.nil ?_
          all_goals exact ⟨rfl, rfl⟩
        · intro h1 h2
          simp [depsOk, Region.binds] at h1 h2
          subst h1
          (repeat (obtain ⟨rfl, h2⟩ := h2))
          (try subst h2)
          (first | (obtain rfl : l9 = false := by grind only) | skip)
          clear hcl
          all_goals simp only [cond_true, cond_false, setT, List.set_cons_succ, List.set_cons_zero, List.getD_cons_succ, List.getD_cons_zero, List.set_cons_succ]
          all_goals ((with_reducible apply AP.k_any); first | refine AP.ME ?_ | refine AP.MF ?_ | fail "no step")
          all_goals (try simp only [nx, Nat.reduceAdd, Nat.reduceSub, BEq.rfl])
          all_goals refine AP.nil ?_
          all_goals exact ⟨rfl, rfl⟩
        · intro h1 h2
          simp [depsOk, Region.binds] at h1 h2
          subst h1
          (repeat (obtain ⟨rfl, h2⟩ := h2))
          (try subst h2)
          clear hcl
          all_goals simp only [cond_true, cond_false, setT, List.set_cons_succ, List.set_cons_zero, List.getD_cons_succ, List.getD_cons_zero, List.set_cons_succ]
          all_goals ((with_reducible apply AP.k_any); first | (refine AP.sm false rfl ?_ ?_; focus ((repeat' (with_reducible apply And.intro)) <;> (first | exact True.intro | exact rfl | omega | decide | (simp; omega) | (simp; done) | assumption | exact .inl rfl | (refine .inr ?_; simp; try omega)))) | fail "no step")
          all_goals (try simp only [nx, Nat.reduceAdd, Nat.reduceSub, BEq.rfl])
          all_goals refine AP.nil ?_
          all_goals exact ⟨rfl, rfl⟩
        · intro h1 h2
          simp [depsOk, Region.binds] at h1 h2
          subst h1
          (repeat (obtain ⟨rfl, h2⟩ := h2))
          (try subst h2)
          (first | (obtain rfl : l7 = true := by grind only) | skip)
          clear hcl
          all_goals simp only [cond_true, cond_false, setT, List.set_cons_succ, List.set_cons_zero, List.getD_cons_succ, List.getD_cons_zero, List.set_cons_succ]
          all_goals ((with_reducible apply AP.k_any); first | refine AP.MS ?_ | fail "no step")
          all_goals (try simp only [nx, Nat.reduceAdd, Nat.reduceSub, BEq.rfl])
          all_goals refine AP.nil ?_
          all_goals exact ⟨rfl, rfl⟩
    simp only [hw]
    repeat' (first
      | ((first
        | ((with_reducible apply AP.k_any); first | refine AP.ST ?_ | (refine AP.Y ?_; dsimp only) | refine AP.G (fun hg => ?_) (fun hg => ?_) | (refine AP.V (fun c hnil => ?_); simp only [nz])  | refine AP.PF ?_)
        ) <;> (try simp only [hw, nx, mx, rn, fq, Nat.mul_one, Bool.and_true, Bool.and_false, Nat.reduceBEq, Nat.reduceAdd, Nat.reduceSub, BEq.rfl]))
      | ((with_reducible apply AP.k_nil); first | (refine AP.nil (hQ' _ ?_); clear hQ' Q') | refine AP.nil ?_)
      | ((with_reducible apply CP.k_reg); refine cp_regG fun Q' hQ' => ?_)
        | (with_reducible apply CP.k_reg1; refine cp_region ?_)
        | ((with_reducible apply CP.k_cond); first | refine cp_condT rfl ?_ | refine cp_condF rfl ?_ | refine cp_cond rfl (fun hc => ?_) (fun hc => ?_))
        | refine CP.go ?_
        | (simp only [List.append_eq, List.cons_append, List.nil_append]))
    (exact RetQ.A [(0, 0)] (by exact ⟨rfl, rfl⟩))
def Ends.send (x : Ends) (to epoch : Int) (body : List UInt8) : (List UInt8 × Int) × Ends := if mayP (x.pkt to epoch body) = true then ((headS (x.pkt to epoch body) ++ tagS x.root (x.pkt to epoch body), 0), x.bump to epoch) else (([], 2), x)
theorem send_ac (x : Ends) (to epoch : Int) (body : List UInt8) (hr : x.root.length ≤ 10000) (hb : body.length ≤ 60000) (hn : 0 ≤ got (to, epoch) x.sent 0 ∧ got (to, epoch) x.sent 0 ≤ 1000000000) :
    AC Try.prog 23 [.bp 0 0 0, I to, I epoch, bs none body] [xE x] (fun v bs' => v = .tu [bs none (x.send to epoch body).1.1, I (x.send to epoch body).1.2] ∧ bs' = [xE (x.send to epoch body).2]) := by
  cases hm : mayP (x.pkt to epoch body) with
  | true =>
    have e : x.send to epoch body = ((headS (x.pkt to epoch body) ++ tagS x.root (x.pkt to epoch body), 0), x.bump to epoch) := if_pos hm
    rw [e]; exact send_ok x to epoch body hr hb hn hm
  | false =>
    have e : x.send to epoch body = (([], 2), x) := if_neg (by rw [hm]; simp)
    rw [e]; exact send_no x to epoch body hr hb hn hm
end Go.Proofs.Ytnjfchigdpifmaa

namespace Go.Proofs.Ytnjfchigdpifmaa
set_option linter.unusedVariables false
set_option linter.unusedSimpArgs false
set_option maxHeartbeats 8000000
open Go.RowKit
set_option maxRecDepth 100000
def Ends.get (x : Ends) (b : List UInt8) : (Pkt × Int) × Ends :=
  if (parseP b).2 ≠ 0 ∨ (parseP b).1.to ≠ x.who then ((pk0, 190), x)
  else if (parseP b).1.tag ≠ tagS x.root (parseP b).1 then ((pk0, 91), x)
  else
    let p := (parseP b).1
    let t := (got (p.frm, p.epoch) x.wins Wn.new).take p.boot p.seqn
    let x' : Ends := { x with wins := puts (p.frm, p.epoch) x.wins t.2 }
    if t.1 ≠ 0 then ((pk0, t.1), x') else ((p, 0), x')
theorem pk0_eP : eP pk0 = eP ⟨0, 0, 0, 0, 0, [], List.replicate 32 0⟩ := rfl
theorem parse_two (b : List UInt8) : parseP b = (pk0, 190) ∨ ((parseP b).2 = 0 ∧ mayP (parseP b).1 = true) := by
  unfold parseP
  split
  · rename_i h; exact .inr ⟨rfl, h.2⟩
  · exact .inl rfl
theorem get_bad (x : Ends) (b : List UInt8) (hb : b.length ≤ 100000000) (h : parseP b = (pk0, 190)) : AC Try.prog 24 [.bp 0 0 0, bs none b] [xE x] (fun v bs' => v = .tu [.ag (eP (x.get b).1.1), I (x.get b).1.2] ∧ bs' = [xE (x.get b).2]) := by
  have e : x.get b = ((pk0, 190), x) := by
    unfold Ends.get
    rw [h, if_pos (.inl (by decide))]
  rw [e]
  have h1 := lnone_ac x
  have h2 := parseP_ac b hb
  rw [h] at h2
  dsimp only at h2 ⊢
  rw [pk0_eP, eP_z] at h2 ⊢
  refine AC.N Try.func24 Try.ntmps24 ?_
  intro X hρ hmks
  simp only [nx, Nat.reduceAdd, Nat.reduceSub, BEq.rfl]
  repeat' (first
    | ((first
      | ((with_reducible apply AP.k_any); first | refine AP.ST ?_ | (refine AP.Y ?_; dsimp only) | refine AP.G (fun hg => ?_) (fun hg => ?_) | (refine AP.V (fun c hnil => ?_); simp only [nz])  | refine AP.PF ?_)
        | ((with_reducible apply DW.k_any); first | refine DW.ST ?_ | ((fail_if_success refine DW.known rfl ?_); refine DW.G (fun hg => ?_) (fun hg => ?_)))
        | ((with_reducible apply DW.k_any); first
                    | refine DW.R ?_ | refine DW.R' ?_ | refine DW.W ?_ | refine DW.W' ?_
                    | (refine DW.known rfl ?_; (with_reducible first | apply DW.sx 2 | apply DW.sxN 2); (iterate 2 (focus (simp only [ft, nm, Nat.reduceAdd, Nat.reduceBEq, List.getElem?_cons_zero, List.getElem?_cons_succ]; exact rfl))); (focus (intro X V; simp only [ft, nm, Nat.reduceAdd, Nat.reduceBEq]; (try (refine AP.Y ?_; dsimp only)); (first  | fail); (try simp only [nx, Nat.reduceAdd, Nat.reduceSub, BEq.rfl]); refine AP.nil ?_; (first | refine ⟨trivial, rfl, ?_⟩ | refine ⟨rfl, rfl, ?_⟩); (repeat' (first | exact Mg.nil | apply Mg.keep rfl | apply Mg.take rfl)); done)); (focus (refine Exists.intro (fun _ => 0) ?_; apply Exists.intro; (repeat' (first | exact Mg.nil | apply Mg.keep rfl | apply Mg.take rfl)); done)); (iterate 2 (focus (exact rfl))))
                    | ((fail_if_success refine DW.known rfl ?_); refine DW.G (fun hg => ?_) (fun hg => ?_))
        )
      ) <;> (try simp only [ nx, mx, rn, fq, Nat.mul_one, Bool.and_true, Bool.and_false, Nat.reduceBEq, Nat.reduceAdd, Nat.reduceSub, BEq.rfl]))
    | ((with_reducible apply AP.k_nil); first | (refine AP.nil (hQ' _ ?_); clear hQ' Q') | refine AP.nil ?_)
    | ((with_reducible apply CP.k_drw); refine cp_drwX fun Q' hQ' => ?_)
    | ((with_reducible apply CP.k_drw1); refine cp_drawX ?_)
    | ((with_reducible apply DW.k_nil); refine DW.nl ?_; first | (refine hQ' _ ?_; clear hQ' Q') | skip)
    | ((with_reducible apply CP.k_reg); refine cp_regG fun Q' hQ' => ?_)
      | (with_reducible apply CP.k_reg1; refine cp_region ?_)
      | ((with_reducible apply CP.k_cond); first | refine cp_condT rfl ?_ | refine cp_condF rfl ?_ | refine cp_cond rfl (fun hc => ?_) (fun hc => ?_))
      | refine CP.go ?_
      | (simp only [List.append_eq, List.cons_append, List.nil_append]))
  (exact RetQ.A [(0, 0)] (by exact ⟨rfl, rfl⟩))
theorem get_far (x : Ends) (b : List UInt8) (hb : b.length ≤ 100000000) (h : (parseP b).2 = 0) (h3 : (parseP b).1.to ≠ x.who) : AC Try.prog 24 [.bp 0 0 0, bs none b] [xE x] (fun v bs' => v = .tu [.ag (eP (x.get b).1.1), I (x.get b).1.2] ∧ bs' = [xE (x.get b).2]) := by
  have e : x.get b = ((pk0, 190), x) := by
    unfold Ends.get
    rw [if_pos (.inr h3)]
  rw [e]
  have h1 := lnone_ac x
  have h2 := parseP_ac b hb
  rw [h] at h2
  generalize (parseP b).1 = p at *
  dsimp only at h2 ⊢
  rw [pk0_eP, eP_z]
  have d1 : (p.to != x.who) = true := by simpa using h3
  refine AC.N Try.func24 Try.ntmps24 ?_
  intro X hρ hmks
  simp only [nx, Nat.reduceAdd, Nat.reduceSub, BEq.rfl]
  repeat' (first
    | ((first
      | ((with_reducible apply AP.k_any); first | refine AP.ST ?_ | (refine AP.Y ?_; dsimp only) | refine AP.G (fun hg => ?_) (fun hg => ?_) | (refine AP.V (fun c hnil => ?_); simp only [nz])  | refine AP.PF ?_)
        | ((with_reducible apply DW.k_any); first | refine DW.ST ?_ | ((fail_if_success refine DW.known rfl ?_); refine DW.G (fun hg => ?_) (fun hg => ?_)))
        | ((with_reducible apply DW.k_any); first
                    | refine DW.R ?_ | refine DW.R' ?_ | refine DW.W ?_ | refine DW.W' ?_
                    | (refine DW.known rfl ?_; (with_reducible first | apply DW.sx 2 | apply DW.sxN 2); (iterate 2 (focus (simp only [ft, nm, Nat.reduceAdd, Nat.reduceBEq, List.getElem?_cons_zero, List.getElem?_cons_succ]; exact rfl))); (focus (intro X V; simp only [ft, nm, Nat.reduceAdd, Nat.reduceBEq]; (try (refine AP.Y ?_; dsimp only)); (first  | fail); (try simp only [nx, Nat.reduceAdd, Nat.reduceSub, BEq.rfl]); refine AP.nil ?_; (first | refine ⟨trivial, rfl, ?_⟩ | refine ⟨rfl, rfl, ?_⟩); (repeat' (first | exact Mg.nil | apply Mg.keep rfl | apply Mg.take rfl)); done)); (focus (refine Exists.intro (fun _ => 0) ?_; apply Exists.intro; (repeat' (first | exact Mg.nil | apply Mg.keep rfl | apply Mg.take rfl)); done)); (iterate 2 (focus (exact rfl))))
                    | ((fail_if_success refine DW.known rfl ?_); refine DW.G (fun hg => ?_) (fun hg => ?_))
        )
      ) <;> (try simp only [d1, nx, mx, rn, fq, Nat.mul_one, Bool.and_true, Bool.and_false, Nat.reduceBEq, Nat.reduceAdd, Nat.reduceSub, BEq.rfl]))
    | ((with_reducible apply AP.k_nil); first | (refine AP.nil (hQ' _ ?_); clear hQ' Q') | refine AP.nil ?_)
    | ((with_reducible apply CP.k_drw); refine cp_drwX fun Q' hQ' => ?_)
    | ((with_reducible apply CP.k_drw1); refine cp_drawX ?_)
    | ((with_reducible apply DW.k_nil); refine DW.nl ?_; first | (refine hQ' _ ?_; clear hQ' Q') | skip)
    | ((with_reducible apply CP.k_reg); refine cp_regG fun Q' hQ' => ?_)
      | (with_reducible apply CP.k_reg1; refine cp_region ?_)
      | ((with_reducible apply CP.k_cond); first | refine cp_condT rfl ?_ | refine cp_condF rfl ?_ | refine cp_cond rfl (fun hc => ?_) (fun hc => ?_))
      | refine CP.go ?_
      | (simp only [List.append_eq, List.cons_append, List.nil_append]))
  (exact RetQ.A [(0, 0)] (by exact ⟨rfl, rfl⟩))
theorem get_tag (x : Ends) (b : List UInt8) (hb : b.length ≤ 60000) (hr : x.root.length ≤ 10000) (h : (parseP b).2 = 0) (h3 : (parseP b).1.to = x.who) (h4 : (parseP b).1.tag ≠ tagS x.root (parseP b).1) : AC Try.prog 24 [.bp 0 0 0, bs none b] [xE x] (fun v bs' => v = .tu [.ag (eP (x.get b).1.1), I (x.get b).1.2] ∧ bs' = [xE (x.get b).2]) := by
  have e : x.get b = ((pk0, 91), x) := by
    unfold Ends.get
    rw [if_neg (by rw [h, h3]; simp), if_pos h4]
  rw [e]
  have h1 := lnone_ac x
  have h2 := parseP_ac b (by omega)
  have hbl := parseP_body b hb
  have htl := parseP_tag b
  rw [h] at h2
  generalize (parseP b).1 = p at *
  have h5 := right_ac x.root p hr hbl htl
  rw [decide_eq_false h4] at h5
  dsimp only at h2 ⊢
  rw [pk0_eP, eP_z]
  have d1 : (p.to != x.who) = false := by simpa using h3
  clear h4 e
  refine AC.N Try.func24 Try.ntmps24 ?_
  intro X hρ hmks
  simp only [nx, Nat.reduceAdd, Nat.reduceSub, BEq.rfl]
  repeat' (first
    | ((first
      | ((with_reducible apply AP.k_any); first | refine AP.ST ?_ | (refine AP.Y ?_; dsimp only) | refine AP.G (fun hg => ?_) (fun hg => ?_) | (refine AP.V (fun c hnil => ?_); simp only [nz])  | refine AP.PF ?_)
        | ((with_reducible apply DW.k_any); first | refine DW.ST ?_ | ((fail_if_success refine DW.known rfl ?_); refine DW.G (fun hg => ?_) (fun hg => ?_)))
        | ((with_reducible apply DW.k_any); first
                    | refine DW.R ?_ | refine DW.R' ?_ | refine DW.W ?_ | refine DW.W' ?_
                    | (refine DW.known rfl ?_; (with_reducible first | apply DW.sx 2 | apply DW.sxN 2); (iterate 2 (focus (simp only [ft, nm, Nat.reduceAdd, Nat.reduceBEq, List.getElem?_cons_zero, List.getElem?_cons_succ]; exact rfl))); (focus (intro X V; simp only [ft, nm, Nat.reduceAdd, Nat.reduceBEq]; (try (refine AP.Y ?_; dsimp only)); (first  | fail); (try simp only [nx, Nat.reduceAdd, Nat.reduceSub, BEq.rfl]); refine AP.nil ?_; (first | refine ⟨trivial, rfl, ?_⟩ | refine ⟨rfl, rfl, ?_⟩); (repeat' (first | exact Mg.nil | apply Mg.keep rfl | apply Mg.take rfl)); done)); (focus (refine Exists.intro (fun _ => 0) ?_; apply Exists.intro; (repeat' (first | exact Mg.nil | apply Mg.keep rfl | apply Mg.take rfl)); done)); (iterate 2 (focus (exact rfl))))
                    | ((fail_if_success refine DW.known rfl ?_); refine DW.G (fun hg => ?_) (fun hg => ?_))
        )
      ) <;> (try simp only [d1, nx, mx, rn, fq, Nat.mul_one, Bool.and_true, Bool.and_false, Nat.reduceBEq, Nat.reduceAdd, Nat.reduceSub, BEq.rfl]))
    | ((with_reducible apply AP.k_nil); first | (refine AP.nil (hQ' _ ?_); clear hQ' Q') | refine AP.nil ?_)
    | ((with_reducible apply CP.k_drw); refine cp_drwX fun Q' hQ' => ?_)
    | ((with_reducible apply CP.k_drw1); refine cp_drawX ?_)
    | ((with_reducible apply DW.k_nil); refine DW.nl ?_; first | (refine hQ' _ ?_; clear hQ' Q') | skip)
    | ((with_reducible apply CP.k_reg); refine cp_regG fun Q' hQ' => ?_)
      | (with_reducible apply CP.k_reg1; refine cp_region ?_)
      | ((with_reducible apply CP.k_cond); first | refine cp_condT rfl ?_ | refine cp_condF rfl ?_ | refine cp_cond rfl (fun hc => ?_) (fun hc => ?_))
      | refine CP.go ?_
      | (simp only [List.append_eq, List.cons_append, List.nil_append]))
  (exact RetQ.A [(0, 0)] (by exact ⟨rfl, rfl⟩))
end Go.Proofs.Ytnjfchigdpifmaa

namespace Go.Proofs.Ytnjfchigdpifmaa
set_option linter.unusedVariables false
set_option linter.unusedSimpArgs false
set_option maxHeartbeats 8000000
open Go.RowKit
set_option maxRecDepth 100000
theorem mayP_of {p : Pkt} (h : mayP p = true) : 1 ≤ p.epoch ∧ 0 ≤ p.boot ∧ 1 ≤ p.seqn := by
  simp only [mayP, Bool.and_eq_true, decide_eq_true_eq] at h
  exact ⟨h.1.1.2, h.1.2, h.2⟩
theorem take_two (w : Wn) (boot n : Int) (h0 : 0 ≤ boot) (h1 : 1 ≤ n) : w.take boot n = (0, w.after boot n) ∨ w.take boot n = (180, w) := by
  unfold Wn.take
  rw [if_neg (by omega)]
  split
  · exact .inl rfl
  · exact .inr rfl
theorem get_go (x : Ends) (b : List UInt8) (h : (parseP b).2 = 0) (h3 : (parseP b).1.to = x.who) (h4 : (parseP b).1.tag = tagS x.root (parseP b).1) :
    x.get b = (let p := (parseP b).1
    let t := (got (p.frm, p.epoch) x.wins Wn.new).take p.boot p.seqn
    let x' : Ends := { x with wins := puts (p.frm, p.epoch) x.wins t.2 }
    if t.1 ≠ 0 then ((pk0, t.1), x') else ((p, 0), x')) := by
  unfold Ends.get
  rw [if_neg (by rw [h, h3]; simp), if_neg (by rw [← h4]; simp)]
theorem get_new (x : Ends) (b : List UInt8) (hb : b.length ≤ 60000) (hr : x.root.length ≤ 10000) (h : (parseP b).2 = 0) (h3 : (parseP b).1.to = x.who) (h4 : (parseP b).1.tag = tagS x.root (parseP b).1) (hm : mayP (parseP b).1 = true)
    (ha : at_ ((parseP b).1.frm, (parseP b).1.epoch) x.wins = none) : AC Try.prog 24 [.bp 0 0 0, bs none b] [xE x] (fun v bs' => v = .tu [.ag (eP (x.get b).1.1), I (x.get b).1.2] ∧ bs' = [xE (x.get b).2]) := by
  rw [get_go x b h h3 h4]
  have h1 := lnone_ac x
  have h2 := parseP_ac b (by omega)
  have hbl := parseP_body b hb
  have htl := parseP_tag b
  have hsq := parseP_seqn b
  rw [h] at h2
  generalize (parseP b).1 = p at *
  have h5 := right_ac x.root p hr hbl htl
  rw [decide_eq_true h4] at h5
  obtain ⟨he, hbo, hs⟩ := mayP_of hm
  have hg : got (p.frm, p.epoch) x.wins Wn.new = Wn.new := by unfold got; rw [ha]
  have hp : ∀ w1, puts (p.frm, p.epoch) x.wins w1 = x.wins ++ [((p.frm, p.epoch), w1)] := fun w1 => by unfold puts; rw [ha]
  dsimp only
  rw [hg]
  have h6 := wnew18_ac
  have h7 := take18_ac Wn.new p.boot p.seqn hsq (by unfold Wn.ok Wn.new; decide)
  have hk := kinS x.wins
  have hk1 : ∀ k ∈ keyW x.wins ++ [.agg #[.int .i64 p.frm, .int .i64 p.epoch]], isKey Try.prog tSd [.i .i64, .i .i64] k = true := kin _ fun k hk => by
    rcases List.mem_append.1 hk with hk | hk
    · obtain ⟨p, _, rfl⟩ := List.mem_map.1 hk; exact ⟨_, rfl⟩
    · simp at hk; exact ⟨(p.frm, p.epoch), hk⟩
  have hf := fnd_at_ (p.frm, p.epoch) x.wins
  have hf1 : fnd (kS (p.frm, p.epoch)) (keyW x.wins ++ [.agg #[.int .i64 p.frm, .int .i64 p.epoch]]) = some x.wins.length := by
    rw [fnd_app (by rw [hf, ha])]
    have := kEq_kS (p.frm, p.epoch) (p.frm, p.epoch)
    rw [decide_eq_true rfl] at this
    simp [fnd, this]
  rw [ha] at hf
  have e1 : ∀ w1, xE { x with wins := puts (p.frm, p.epoch) x.wins w1 } = .c tEn [B true, bs none x.root, I x.who, I x.boot, .mo (keyN x.sent) (rowN x.sent), .mo (keyW x.wins ++ [.agg #[.int .i64 p.frm, .int .i64 p.epoch]]) ((rowW x.wins ++ [[AV.de]]).set x.wins.length [.ob tWn (wC w1)])] := fun w1 => by
    have e2 : (rowW x.wins ++ [[AV.de]]).set x.wins.length [.ob tWn (wC w1)] = rowW x.wins ++ [[.ob tWn (wC w1)]] := by
      rw [List.set_append_right _ _ (by simp)]; simp
    rw [e2, hp]
    simp only [xE, enE, keyW, rowW, List.map_append, List.map_cons, List.map_nil]
  have d1 : (p.to != x.who) = false := by simpa using h3
  clear h4 hp
  rcases take_two Wn.new p.boot p.seqn hbo hs with ht | ht
  · rw [ht] at h7 ⊢
    dsimp only at h7 ⊢
    generalize Wn.new.after p.boot p.seqn = w1 at *
    rw [if_neg (by decide)]
    dsimp only
    rw [e1]
    clear e1
    generalize Wn.new = w0 at *
    refine AC.N Try.func24 Try.ntmps24 ?_
    intro X hρ hmks
    simp only [nx, Nat.reduceAdd, Nat.reduceSub, BEq.rfl]
    refine CP.gh gh_slot ?_; simp only [nx, Nat.reduceAdd, Nat.reduceSub, BEq.rfl]
    refine CP.gh gh_slot ?_; simp only [nx, Nat.reduceAdd, Nat.reduceSub, BEq.rfl]
    refine CP.gh gh_slot ?_; simp only [nx, Nat.reduceAdd, Nat.reduceSub, BEq.rfl]
    refine CP.gh gh_slot ?_; simp only [nx, Nat.reduceAdd, Nat.reduceSub, BEq.rfl]
    refine CP.gh gh_slot ?_; simp only [nx, Nat.reduceAdd, Nat.reduceSub, BEq.rfl]
    repeat' (first
      | ((first
        | ((with_reducible apply AP.k_any); first | refine AP.ST ?_ | (refine AP.Y ?_; dsimp only) | refine AP.G (fun hg => ?_) (fun hg => ?_) | (refine AP.V (fun c hnil => ?_); simp only [nz]) | ((with_reducible apply AP.k_any); refine AP.B 1 (h6) ?_) | ((with_reducible apply AP.k_any); refine AP.B 0 (h7) ?_) | refine AP.PF ?_)
          | ((with_reducible apply DW.k_any); first | refine DW.ST ?_ | ((fail_if_success refine DW.known rfl ?_); refine DW.G (fun hg => ?_) (fun hg => ?_)))
          | ((with_reducible apply DW.k_any); first
                      | refine DW.R ?_ | refine DW.R' ?_ | refine DW.W ?_ | refine DW.W' ?_
                      | (refine DW.known rfl ?_; (with_reducible first | apply DW.sx 2 | apply DW.sxN 2); (iterate 2 (focus (simp only [ft, nm, Nat.reduceAdd, Nat.reduceBEq, List.getElem?_cons_zero, List.getElem?_cons_succ]; exact rfl))); (focus (intro X V; simp only [ft, nm, Nat.reduceAdd, Nat.reduceBEq]; (try (refine AP.Y ?_; dsimp only)); (first | ((with_reducible apply AP.k_any); refine AP.B 1 (h6) ?_) | ((with_reducible apply AP.k_any); refine AP.B 0 (h7) ?_) | fail); (try simp only [nx, Nat.reduceAdd, Nat.reduceSub, BEq.rfl]); refine AP.nil ?_; (first | refine ⟨trivial, rfl, ?_⟩ | refine ⟨rfl, rfl, ?_⟩); (repeat' (first | exact Mg.nil | apply Mg.keep rfl | apply Mg.take rfl)); done)); (focus (refine Exists.intro (fun _ => 0) ?_; apply Exists.intro; (repeat' (first | exact Mg.nil | apply Mg.keep rfl | apply Mg.take rfl)); done)); (iterate 2 (focus (exact rfl))))
                      | ((fail_if_success refine DW.known rfl ?_); refine DW.G (fun hg => ?_) (fun hg => ?_))
          )
        ) <;> (try simp only [d1, nx, mx, rn, fq, Nat.mul_one, Bool.and_true, Bool.and_false, Nat.reduceBEq, Nat.reduceAdd, Nat.reduceSub, BEq.rfl]))
      | ((with_reducible apply AP.k_nil); first | (refine AP.nil (hQ' _ ?_); clear hQ' Q') | refine AP.nil ?_)
      | ((with_reducible apply CP.k_drw); refine cp_drwX fun Q' hQ' => ?_)
      | ((with_reducible apply CP.k_drw1); refine cp_drawX ?_)
      | ((with_reducible apply DW.k_nil); refine DW.nl ?_; first | (refine hQ' _ ?_; clear hQ' Q') | skip)
      | ((with_reducible apply CP.k_reg); refine cp_regG fun Q' hQ' => ?_)
        | (with_reducible apply CP.k_reg1; refine cp_region ?_)
        | ((with_reducible apply CP.k_cond); first | refine cp_condT rfl ?_ | refine cp_condF rfl ?_ | refine cp_cond rfl (fun hc => ?_) (fun hc => ?_))
        | refine CP.go ?_
        | (simp only [List.append_eq, List.cons_append, List.nil_append]))
    (exact RetQ.A [(0, 0)] (by exact ⟨rfl, rfl⟩))
  · rw [ht] at h7 ⊢
    dsimp only at h7 ⊢
    rw [if_pos (by decide)]
    dsimp only
    rw [e1, pk0_eP, eP_z]
    clear e1
    generalize Wn.new = w0 at *
    refine AC.N Try.func24 Try.ntmps24 ?_
    intro X hρ hmks
    simp only [nx, Nat.reduceAdd, Nat.reduceSub, BEq.rfl]
    refine CP.gh gh_slot ?_; simp only [nx, Nat.reduceAdd, Nat.reduceSub, BEq.rfl]
    refine CP.gh gh_slot ?_; simp only [nx, Nat.reduceAdd, Nat.reduceSub, BEq.rfl]
    refine CP.gh gh_slot ?_; simp only [nx, Nat.reduceAdd, Nat.reduceSub, BEq.rfl]
    refine CP.gh gh_slot ?_; simp only [nx, Nat.reduceAdd, Nat.reduceSub, BEq.rfl]
    refine CP.gh gh_slot ?_; simp only [nx, Nat.reduceAdd, Nat.reduceSub, BEq.rfl]
    repeat' (first
      | ((first
        | ((with_reducible apply AP.k_any); first | refine AP.ST ?_ | (refine AP.Y ?_; dsimp only) | refine AP.G (fun hg => ?_) (fun hg => ?_) | (refine AP.V (fun c hnil => ?_); simp only [nz]) | ((with_reducible apply AP.k_any); refine AP.B 1 (h6) ?_) | ((with_reducible apply AP.k_any); refine AP.B 0 (h7) ?_) | refine AP.PF ?_)
          | ((with_reducible apply DW.k_any); first | refine DW.ST ?_ | ((fail_if_success refine DW.known rfl ?_); refine DW.G (fun hg => ?_) (fun hg => ?_)))
          | ((with_reducible apply DW.k_any); first
                      | refine DW.R ?_ | refine DW.R' ?_ | refine DW.W ?_ | refine DW.W' ?_
                      | (refine DW.known rfl ?_; (with_reducible first | apply DW.sx 2 | apply DW.sxN 2); (iterate 2 (focus (simp only [ft, nm, Nat.reduceAdd, Nat.reduceBEq, List.getElem?_cons_zero, List.getElem?_cons_succ]; exact rfl))); (focus (intro X V; simp only [ft, nm, Nat.reduceAdd, Nat.reduceBEq]; (try (refine AP.Y ?_; dsimp only)); (first | ((with_reducible apply AP.k_any); refine AP.B 1 (h6) ?_) | ((with_reducible apply AP.k_any); refine AP.B 0 (h7) ?_) | fail); (try simp only [nx, Nat.reduceAdd, Nat.reduceSub, BEq.rfl]); refine AP.nil ?_; (first | refine ⟨trivial, rfl, ?_⟩ | refine ⟨rfl, rfl, ?_⟩); (repeat' (first | exact Mg.nil | apply Mg.keep rfl | apply Mg.take rfl)); done)); (focus (refine Exists.intro (fun _ => 0) ?_; apply Exists.intro; (repeat' (first | exact Mg.nil | apply Mg.keep rfl | apply Mg.take rfl)); done)); (iterate 2 (focus (exact rfl))))
                      | ((fail_if_success refine DW.known rfl ?_); refine DW.G (fun hg => ?_) (fun hg => ?_))
          )
        ) <;> (try simp only [d1, nx, mx, rn, fq, Nat.mul_one, Bool.and_true, Bool.and_false, Nat.reduceBEq, Nat.reduceAdd, Nat.reduceSub, BEq.rfl]))
      | ((with_reducible apply AP.k_nil); first | (refine AP.nil (hQ' _ ?_); clear hQ' Q') | refine AP.nil ?_)
      | ((with_reducible apply CP.k_drw); refine cp_drwX fun Q' hQ' => ?_)
      | ((with_reducible apply CP.k_drw1); refine cp_drawX ?_)
      | ((with_reducible apply DW.k_nil); refine DW.nl ?_; first | (refine hQ' _ ?_; clear hQ' Q') | skip)
      | ((with_reducible apply CP.k_reg); refine cp_regG fun Q' hQ' => ?_)
        | (with_reducible apply CP.k_reg1; refine cp_region ?_)
        | ((with_reducible apply CP.k_cond); first | refine cp_condT rfl ?_ | refine cp_condF rfl ?_ | refine cp_cond rfl (fun hc => ?_) (fun hc => ?_))
        | refine CP.go ?_
        | (simp only [List.append_eq, List.cons_append, List.nil_append]))
    (exact RetQ.A [(0, 0)] (by exact ⟨rfl, rfl⟩))
end Go.Proofs.Ytnjfchigdpifmaa

namespace Go.Proofs.Ytnjfchigdpifmaa
set_option linter.unusedVariables false
set_option linter.unusedSimpArgs false
set_option maxHeartbeats 8000000
open Go.RowKit
set_option maxRecDepth 100000
theorem get_old (x : Ends) (b : List UInt8) (hb : b.length ≤ 60000) (hr : x.root.length ≤ 10000) (hwo : ∀ q ∈ x.wins, q.2.ok) (h : (parseP b).2 = 0) (h3 : (parseP b).1.to = x.who) (h4 : (parseP b).1.tag = tagS x.root (parseP b).1) (hm : mayP (parseP b).1 = true)
    {n : Nat} (ha : at_ ((parseP b).1.frm, (parseP b).1.epoch) x.wins = some n) : AC Try.prog 24 [.bp 0 0 0, bs none b] [xE x] (fun v bs' => v = .tu [.ag (eP (x.get b).1.1), I (x.get b).1.2] ∧ bs' = [xE (x.get b).2]) := by
  rw [get_go x b h h3 h4]
  have h1 := lnone_ac x
  have h2 := parseP_ac b (by omega)
  have hbl := parseP_body b hb
  have htl := parseP_tag b
  have hsq := parseP_seqn b
  rw [h] at h2
  generalize (parseP b).1 = p at *
  have h5 := right_ac x.root p hr hbl htl
  rw [decide_eq_true h4] at h5
  obtain ⟨he, hbo, hs⟩ := mayP_of hm
  obtain ⟨w, hv⟩ := at_some ha
  have hg : got (p.frm, p.epoch) x.wins Wn.new = w := by unfold got; rw [ha]; dsimp only; rw [hv]
  have hp : ∀ w1, puts (p.frm, p.epoch) x.wins w1 = x.wins.set n ((p.frm, p.epoch), w1) := fun w1 => by unfold puts; rw [ha]
  dsimp only
  rw [hg]
  have h7 := take18_ac w p.boot p.seqn hsq (hwo _ (List.mem_of_getElem? hv))
  have hk := kinS x.wins
  have hf := fnd_at_ (p.frm, p.epoch) x.wins
  rw [ha] at hf
  have e1 : ∀ w1, xE { x with wins := puts (p.frm, p.epoch) x.wins w1 } = .c tEn [B true, bs none x.root, I x.who, I x.boot, .mo (keyN x.sent) (rowN x.sent), .mo (keyW x.wins) ((rowW x.wins).set n [.ob tWn (wC w1)])] := fun w1 => by
    rw [hp]
    have e2 := puts_keys ha w1
    have e3 : (x.wins.set n ((p.frm, p.epoch), w1)).map (fun p : Sd × Wn => [AV.ob tWn (wC p.2)]) = (rowW x.wins).set n [.ob tWn (wC w1)] := by rw [List.map_set]
    dsimp only [xE, enE, keyW, rowW]
    rw [e2, e3]
  have hc : (rowW x.wins)[n]? = some [.ob tWn (wC w)] := by rw [List.getElem?_map, hv]; rfl
  have d1 : (p.to != x.who) = false := by simpa using h3
  clear h4 hp
  rcases take_two w p.boot p.seqn hbo hs with ht | ht
  · rw [ht] at h7 ⊢
    dsimp only at h7 ⊢
    generalize w.after p.boot p.seqn = w1 at *
    rw [if_neg (by decide)]
    dsimp only
    rw [e1]
    clear e1
    refine AC.N Try.func24 Try.ntmps24 ?_
    intro X hρ hmks
    simp only [nx, Nat.reduceAdd, Nat.reduceSub, BEq.rfl]
    refine CP.gh gh_slot ?_; simp only [nx, Nat.reduceAdd, Nat.reduceSub, BEq.rfl]
    refine CP.gh gh_slot ?_; simp only [nx, Nat.reduceAdd, Nat.reduceSub, BEq.rfl]
    refine CP.gh gh_slot ?_; simp only [nx, Nat.reduceAdd, Nat.reduceSub, BEq.rfl]
    refine CP.gh gh_slot ?_; simp only [nx, Nat.reduceAdd, Nat.reduceSub, BEq.rfl]
    repeat' (first
      | ((first
        | ((with_reducible apply AP.k_any); first | refine AP.ST ?_ | (refine AP.Y ?_; dsimp only) | refine AP.G (fun hg => ?_) (fun hg => ?_) | (refine AP.V (fun c hnil => ?_); simp only [nz])  | refine AP.PF ?_)
        ) <;> (try simp only [d1, nx, mx, rn, fq, Nat.mul_one, Bool.and_true, Bool.and_false, Nat.reduceBEq, Nat.reduceAdd, Nat.reduceSub, BEq.rfl]))
      | ((with_reducible apply AP.k_nil); first | (refine AP.nil (hQ' _ ?_); clear hQ' Q') | refine AP.nil ?_)
      | ((with_reducible apply CP.k_reg); refine cp_regG fun Q' hQ' => ?_)
        | (with_reducible apply CP.k_reg1; refine cp_region ?_)
        | ((with_reducible apply CP.k_cond); first | refine cp_condT rfl ?_ | refine cp_condF rfl ?_ | refine cp_cond rfl (fun hc => ?_) (fun hc => ?_))
        | refine CP.go ?_
        | (simp only [List.append_eq, List.cons_append, List.nil_append]))
    first | refine cp_drwX fun Q' hQ' => ?_ | refine cp_drawX ?_
    repeat' (first
      | ((first
        | ((with_reducible apply AP.k_any); first | refine AP.ST ?_ | (refine AP.Y ?_; dsimp only) | refine AP.G (fun hg => ?_) (fun hg => ?_) | (refine AP.V (fun c hnil => ?_); simp only [nz])  | refine AP.PF ?_)
          | ((with_reducible apply DW.k_any); first | refine DW.ST ?_ | ((fail_if_success refine DW.known rfl ?_); refine DW.G (fun hg => ?_) (fun hg => ?_)))
          | ((with_reducible apply DW.k_any); first
                      | refine DW.R ?_ | refine DW.R' ?_ | refine DW.W ?_ | refine DW.W' ?_
                      | (refine DW.known rfl ?_; (with_reducible first | apply DW.sx 2 | apply DW.sxN 2); (iterate 2 (focus (simp only [ft, nm, Nat.reduceAdd, Nat.reduceBEq, List.getElem?_cons_zero, List.getElem?_cons_succ]; exact rfl))); (focus (intro X V; simp only [ft, nm, Nat.reduceAdd, Nat.reduceBEq]; (try (refine AP.Y ?_; dsimp only)); (first  | fail); (try simp only [nx, Nat.reduceAdd, Nat.reduceSub, BEq.rfl]); refine AP.nil ?_; (first | refine ⟨trivial, rfl, ?_⟩ | refine ⟨rfl, rfl, ?_⟩); (repeat' (first | exact Mg.nil | apply Mg.keep rfl | apply Mg.take rfl)); done)); (focus (refine Exists.intro (fun _ => 0) ?_; apply Exists.intro; (repeat' (first | exact Mg.nil | apply Mg.keep rfl | apply Mg.take rfl)); done)); (iterate 2 (focus (exact rfl))))
                      | ((fail_if_success refine DW.known rfl ?_); refine DW.G (fun hg => ?_) (fun hg => ?_))
          )
        ) <;> (try simp only [d1, nx, mx, rn, fq, Nat.mul_one, Bool.and_true, Bool.and_false, Nat.reduceBEq, Nat.reduceAdd, Nat.reduceSub, BEq.rfl]))
      | ((with_reducible apply AP.k_nil); first | (refine AP.nil (hQ' _ ?_); clear hQ' Q') | refine AP.nil ?_)
      | ((with_reducible apply DW.k_nil); refine DW.nl ?_; first | (refine hQ' _ ?_; clear hQ' Q') | skip)
      | ((with_reducible apply CP.k_reg); refine cp_regG fun Q' hQ' => ?_)
        | (with_reducible apply CP.k_reg1; refine cp_region ?_)
        | ((with_reducible apply CP.k_cond); first | refine cp_condT rfl ?_ | refine cp_condF rfl ?_ | refine cp_cond rfl (fun hc => ?_) (fun hc => ?_))
        | refine CP.go ?_
        | (simp only [List.append_eq, List.cons_append, List.nil_append]))
    first | refine cp_drwX fun Q' hQ' => ?_ | refine cp_drawX ?_
    repeat' (first
      | ((first
        | ((with_reducible apply AP.k_any); first | refine AP.ST ?_ | (refine AP.Y ?_; dsimp only) | refine AP.G (fun hg => ?_) (fun hg => ?_) | (refine AP.V (fun c hnil => ?_); simp only [nz])  | refine AP.PF ?_)
          | ((with_reducible apply DW.k_any); first | refine DW.ST ?_ | ((fail_if_success refine DW.known rfl ?_); refine DW.G (fun hg => ?_) (fun hg => ?_)))
          | ((with_reducible apply DW.k_any); first
                      | refine DW.R ?_ | refine DW.R' ?_ | refine DW.W ?_ | refine DW.W' ?_
                      | (refine DW.known rfl ?_; (with_reducible first | apply DW.sx 2 | apply DW.sxN 2); (iterate 2 (focus (simp only [ft, nm, Nat.reduceAdd, Nat.reduceBEq, List.getElem?_cons_zero, List.getElem?_cons_succ]; exact rfl))); (focus (intro X V; simp only [ft, nm, Nat.reduceAdd, Nat.reduceBEq]; (try (refine AP.Y ?_; dsimp only)); (first  | fail); (try simp only [nx, Nat.reduceAdd, Nat.reduceSub, BEq.rfl]); refine AP.nil ?_; (first | refine ⟨trivial, rfl, ?_⟩ | refine ⟨rfl, rfl, ?_⟩); (repeat' (first | exact Mg.nil | apply Mg.keep rfl | apply Mg.take rfl)); done)); (focus (refine Exists.intro (fun _ => 0) ?_; apply Exists.intro; (repeat' (first | exact Mg.nil | apply Mg.keep rfl | apply Mg.take rfl)); done)); (iterate 2 (focus (exact rfl))))
                      | ((fail_if_success refine DW.known rfl ?_); refine DW.G (fun hg => ?_) (fun hg => ?_))
          )
        ) <;> (try simp only [d1, nx, mx, rn, fq, Nat.mul_one, Bool.and_true, Bool.and_false, Nat.reduceBEq, Nat.reduceAdd, Nat.reduceSub, BEq.rfl]))
      | ((with_reducible apply AP.k_nil); first | (refine AP.nil (hQ' _ ?_); clear hQ' Q') | refine AP.nil ?_)
      | ((with_reducible apply DW.k_nil); refine DW.nl ?_; first | (refine hQ' _ ?_; clear hQ' Q') | skip)
      | ((with_reducible apply CP.k_reg); refine cp_regG fun Q' hQ' => ?_)
        | (with_reducible apply CP.k_reg1; refine cp_region ?_)
        | ((with_reducible apply CP.k_cond); first | refine cp_condT rfl ?_ | refine cp_condF rfl ?_ | refine cp_cond rfl (fun hc => ?_) (fun hc => ?_))
        | refine CP.go ?_
        | (simp only [List.append_eq, List.cons_append, List.nil_append]))
    refine CP.gh (gh_openM (j := 2) (n := n) rfl hc rfl rfl) ?_
    simp only [nx, Nat.reduceAdd, Nat.reduceSub, BEq.rfl]
    repeat' (first
      | ((first
        | ((with_reducible apply AP.k_any); first | refine AP.ST ?_ | (refine AP.Y ?_; dsimp only) | refine AP.G (fun hg => ?_) (fun hg => ?_) | (refine AP.V (fun c hnil => ?_); simp only [nz]) | ((with_reducible apply AP.k_any); refine AP.B 0 (h7) ?_) | refine AP.PF ?_)
          | ((with_reducible apply DW.k_any); first | refine DW.ST ?_ | ((fail_if_success refine DW.known rfl ?_); refine DW.G (fun hg => ?_) (fun hg => ?_)))
          | ((with_reducible apply DW.k_any); first
                      | refine DW.R ?_ | refine DW.R' ?_ | refine DW.W ?_ | refine DW.W' ?_
                      | (refine DW.known rfl ?_; (with_reducible first | apply DW.sx 2 | apply DW.sxN 2); (iterate 2 (focus (simp only [ft, nm, Nat.reduceAdd, Nat.reduceBEq, List.getElem?_cons_zero, List.getElem?_cons_succ]; exact rfl))); (focus (intro X V; simp only [ft, nm, Nat.reduceAdd, Nat.reduceBEq]; (try (refine AP.Y ?_; dsimp only)); (first | ((with_reducible apply AP.k_any); refine AP.B 0 (h7) ?_) | fail); (try simp only [nx, Nat.reduceAdd, Nat.reduceSub, BEq.rfl]); refine AP.nil ?_; (first | refine ⟨trivial, rfl, ?_⟩ | refine ⟨rfl, rfl, ?_⟩); (repeat' (first | exact Mg.nil | apply Mg.keep rfl | apply Mg.take rfl)); done)); (focus (refine Exists.intro (fun _ => 0) ?_; apply Exists.intro; (repeat' (first | exact Mg.nil | apply Mg.keep rfl | apply Mg.take rfl)); done)); (iterate 2 (focus (exact rfl))))
                      | ((fail_if_success refine DW.known rfl ?_); refine DW.G (fun hg => ?_) (fun hg => ?_))
          )
        ) <;> (try simp only [d1, nx, mx, rn, fq, Nat.mul_one, Bool.and_true, Bool.and_false, Nat.reduceBEq, Nat.reduceAdd, Nat.reduceSub, BEq.rfl]))
      | ((with_reducible apply AP.k_nil); first | (refine AP.nil (hQ' _ ?_); clear hQ' Q') | refine AP.nil ?_)
      | ((with_reducible apply CP.k_drw); refine cp_drwX fun Q' hQ' => ?_)
      | ((with_reducible apply CP.k_drw1); refine cp_drawX ?_)
      | ((with_reducible apply DW.k_nil); refine DW.nl ?_; first | (refine hQ' _ ?_; clear hQ' Q') | skip)
      | ((with_reducible apply CP.k_reg); refine cp_regG fun Q' hQ' => ?_)
        | (with_reducible apply CP.k_reg1; refine cp_region ?_)
        | ((with_reducible apply CP.k_cond); first | refine cp_condT rfl ?_ | refine cp_condF rfl ?_ | refine cp_cond rfl (fun hc => ?_) (fun hc => ?_))
        | refine CP.go ?_
        | (simp only [List.append_eq, List.cons_append, List.nil_append]))
    (exact RetQ.A [(0, 0)] (by exact ⟨rfl, rfl⟩))
  · rw [ht] at h7 ⊢
    dsimp only at h7 ⊢
    rw [if_pos (by decide)]
    dsimp only
    rw [e1, pk0_eP, eP_z]
    clear e1
    refine AC.N Try.func24 Try.ntmps24 ?_
    intro X hρ hmks
    simp only [nx, Nat.reduceAdd, Nat.reduceSub, BEq.rfl]
    refine CP.gh gh_slot ?_; simp only [nx, Nat.reduceAdd, Nat.reduceSub, BEq.rfl]
    refine CP.gh gh_slot ?_; simp only [nx, Nat.reduceAdd, Nat.reduceSub, BEq.rfl]
    refine CP.gh gh_slot ?_; simp only [nx, Nat.reduceAdd, Nat.reduceSub, BEq.rfl]
    refine CP.gh gh_slot ?_; simp only [nx, Nat.reduceAdd, Nat.reduceSub, BEq.rfl]
    repeat' (first
      | ((first
        | ((with_reducible apply AP.k_any); first | refine AP.ST ?_ | (refine AP.Y ?_; dsimp only) | refine AP.G (fun hg => ?_) (fun hg => ?_) | (refine AP.V (fun c hnil => ?_); simp only [nz])  | refine AP.PF ?_)
        ) <;> (try simp only [d1, nx, mx, rn, fq, Nat.mul_one, Bool.and_true, Bool.and_false, Nat.reduceBEq, Nat.reduceAdd, Nat.reduceSub, BEq.rfl]))
      | ((with_reducible apply AP.k_nil); first | (refine AP.nil (hQ' _ ?_); clear hQ' Q') | refine AP.nil ?_)
      | ((with_reducible apply CP.k_reg); refine cp_regG fun Q' hQ' => ?_)
        | (with_reducible apply CP.k_reg1; refine cp_region ?_)
        | ((with_reducible apply CP.k_cond); first | refine cp_condT rfl ?_ | refine cp_condF rfl ?_ | refine cp_cond rfl (fun hc => ?_) (fun hc => ?_))
        | refine CP.go ?_
        | (simp only [List.append_eq, List.cons_append, List.nil_append]))
    first | refine cp_drwX fun Q' hQ' => ?_ | refine cp_drawX ?_
    repeat' (first
      | ((first
        | ((with_reducible apply AP.k_any); first | refine AP.ST ?_ | (refine AP.Y ?_; dsimp only) | refine AP.G (fun hg => ?_) (fun hg => ?_) | (refine AP.V (fun c hnil => ?_); simp only [nz])  | refine AP.PF ?_)
          | ((with_reducible apply DW.k_any); first | refine DW.ST ?_ | ((fail_if_success refine DW.known rfl ?_); refine DW.G (fun hg => ?_) (fun hg => ?_)))
          | ((with_reducible apply DW.k_any); first
                      | refine DW.R ?_ | refine DW.R' ?_ | refine DW.W ?_ | refine DW.W' ?_
                      | (refine DW.known rfl ?_; (with_reducible first | apply DW.sx 2 | apply DW.sxN 2); (iterate 2 (focus (simp only [ft, nm, Nat.reduceAdd, Nat.reduceBEq, List.getElem?_cons_zero, List.getElem?_cons_succ]; exact rfl))); (focus (intro X V; simp only [ft, nm, Nat.reduceAdd, Nat.reduceBEq]; (try (refine AP.Y ?_; dsimp only)); (first  | fail); (try simp only [nx, Nat.reduceAdd, Nat.reduceSub, BEq.rfl]); refine AP.nil ?_; (first | refine ⟨trivial, rfl, ?_⟩ | refine ⟨rfl, rfl, ?_⟩); (repeat' (first | exact Mg.nil | apply Mg.keep rfl | apply Mg.take rfl)); done)); (focus (refine Exists.intro (fun _ => 0) ?_; apply Exists.intro; (repeat' (first | exact Mg.nil | apply Mg.keep rfl | apply Mg.take rfl)); done)); (iterate 2 (focus (exact rfl))))
                      | ((fail_if_success refine DW.known rfl ?_); refine DW.G (fun hg => ?_) (fun hg => ?_))
          )
        ) <;> (try simp only [d1, nx, mx, rn, fq, Nat.mul_one, Bool.and_true, Bool.and_false, Nat.reduceBEq, Nat.reduceAdd, Nat.reduceSub, BEq.rfl]))
      | ((with_reducible apply AP.k_nil); first | (refine AP.nil (hQ' _ ?_); clear hQ' Q') | refine AP.nil ?_)
      | ((with_reducible apply DW.k_nil); refine DW.nl ?_; first | (refine hQ' _ ?_; clear hQ' Q') | skip)
      | ((with_reducible apply CP.k_reg); refine cp_regG fun Q' hQ' => ?_)
        | (with_reducible apply CP.k_reg1; refine cp_region ?_)
        | ((with_reducible apply CP.k_cond); first | refine cp_condT rfl ?_ | refine cp_condF rfl ?_ | refine cp_cond rfl (fun hc => ?_) (fun hc => ?_))
        | refine CP.go ?_
        | (simp only [List.append_eq, List.cons_append, List.nil_append]))
    first | refine cp_drwX fun Q' hQ' => ?_ | refine cp_drawX ?_
    repeat' (first
      | ((first
        | ((with_reducible apply AP.k_any); first | refine AP.ST ?_ | (refine AP.Y ?_; dsimp only) | refine AP.G (fun hg => ?_) (fun hg => ?_) | (refine AP.V (fun c hnil => ?_); simp only [nz])  | refine AP.PF ?_)
          | ((with_reducible apply DW.k_any); first | refine DW.ST ?_ | ((fail_if_success refine DW.known rfl ?_); refine DW.G (fun hg => ?_) (fun hg => ?_)))
          | ((with_reducible apply DW.k_any); first
                      | refine DW.R ?_ | refine DW.R' ?_ | refine DW.W ?_ | refine DW.W' ?_
                      | (refine DW.known rfl ?_; (with_reducible first | apply DW.sx 2 | apply DW.sxN 2); (iterate 2 (focus (simp only [ft, nm, Nat.reduceAdd, Nat.reduceBEq, List.getElem?_cons_zero, List.getElem?_cons_succ]; exact rfl))); (focus (intro X V; simp only [ft, nm, Nat.reduceAdd, Nat.reduceBEq]; (try (refine AP.Y ?_; dsimp only)); (first  | fail); (try simp only [nx, Nat.reduceAdd, Nat.reduceSub, BEq.rfl]); refine AP.nil ?_; (first | refine ⟨trivial, rfl, ?_⟩ | refine ⟨rfl, rfl, ?_⟩); (repeat' (first | exact Mg.nil | apply Mg.keep rfl | apply Mg.take rfl)); done)); (focus (refine Exists.intro (fun _ => 0) ?_; apply Exists.intro; (repeat' (first | exact Mg.nil | apply Mg.keep rfl | apply Mg.take rfl)); done)); (iterate 2 (focus (exact rfl))))
                      | ((fail_if_success refine DW.known rfl ?_); refine DW.G (fun hg => ?_) (fun hg => ?_))
          )
        ) <;> (try simp only [d1, nx, mx, rn, fq, Nat.mul_one, Bool.and_true, Bool.and_false, Nat.reduceBEq, Nat.reduceAdd, Nat.reduceSub, BEq.rfl]))
      | ((with_reducible apply AP.k_nil); first | (refine AP.nil (hQ' _ ?_); clear hQ' Q') | refine AP.nil ?_)
      | ((with_reducible apply DW.k_nil); refine DW.nl ?_; first | (refine hQ' _ ?_; clear hQ' Q') | skip)
      | ((with_reducible apply CP.k_reg); refine cp_regG fun Q' hQ' => ?_)
        | (with_reducible apply CP.k_reg1; refine cp_region ?_)
        | ((with_reducible apply CP.k_cond); first | refine cp_condT rfl ?_ | refine cp_condF rfl ?_ | refine cp_cond rfl (fun hc => ?_) (fun hc => ?_))
        | refine CP.go ?_
        | (simp only [List.append_eq, List.cons_append, List.nil_append]))
    refine CP.gh (gh_openM (j := 2) (n := n) rfl hc rfl rfl) ?_
    simp only [nx, Nat.reduceAdd, Nat.reduceSub, BEq.rfl]
    repeat' (first
      | ((first
        | ((with_reducible apply AP.k_any); first | refine AP.ST ?_ | (refine AP.Y ?_; dsimp only) | refine AP.G (fun hg => ?_) (fun hg => ?_) | (refine AP.V (fun c hnil => ?_); simp only [nz]) | ((with_reducible apply AP.k_any); refine AP.B 0 (h7) ?_) | refine AP.PF ?_)
          | ((with_reducible apply DW.k_any); first | refine DW.ST ?_ | ((fail_if_success refine DW.known rfl ?_); refine DW.G (fun hg => ?_) (fun hg => ?_)))
          | ((with_reducible apply DW.k_any); first
                      | refine DW.R ?_ | refine DW.R' ?_ | refine DW.W ?_ | refine DW.W' ?_
                      | (refine DW.known rfl ?_; (with_reducible first | apply DW.sx 2 | apply DW.sxN 2); (iterate 2 (focus (simp only [ft, nm, Nat.reduceAdd, Nat.reduceBEq, List.getElem?_cons_zero, List.getElem?_cons_succ]; exact rfl))); (focus (intro X V; simp only [ft, nm, Nat.reduceAdd, Nat.reduceBEq]; (try (refine AP.Y ?_; dsimp only)); (first | ((with_reducible apply AP.k_any); refine AP.B 0 (h7) ?_) | fail); (try simp only [nx, Nat.reduceAdd, Nat.reduceSub, BEq.rfl]); refine AP.nil ?_; (first | refine ⟨trivial, rfl, ?_⟩ | refine ⟨rfl, rfl, ?_⟩); (repeat' (first | exact Mg.nil | apply Mg.keep rfl | apply Mg.take rfl)); done)); (focus (refine Exists.intro (fun _ => 0) ?_; apply Exists.intro; (repeat' (first | exact Mg.nil | apply Mg.keep rfl | apply Mg.take rfl)); done)); (iterate 2 (focus (exact rfl))))
                      | ((fail_if_success refine DW.known rfl ?_); refine DW.G (fun hg => ?_) (fun hg => ?_))
          )
        ) <;> (try simp only [d1, nx, mx, rn, fq, Nat.mul_one, Bool.and_true, Bool.and_false, Nat.reduceBEq, Nat.reduceAdd, Nat.reduceSub, BEq.rfl]))
      | ((with_reducible apply AP.k_nil); first | (refine AP.nil (hQ' _ ?_); clear hQ' Q') | refine AP.nil ?_)
      | ((with_reducible apply CP.k_drw); refine cp_drwX fun Q' hQ' => ?_)
      | ((with_reducible apply CP.k_drw1); refine cp_drawX ?_)
      | ((with_reducible apply DW.k_nil); refine DW.nl ?_; first | (refine hQ' _ ?_; clear hQ' Q') | skip)
      | ((with_reducible apply CP.k_reg); refine cp_regG fun Q' hQ' => ?_)
        | (with_reducible apply CP.k_reg1; refine cp_region ?_)
        | ((with_reducible apply CP.k_cond); first | refine cp_condT rfl ?_ | refine cp_condF rfl ?_ | refine cp_cond rfl (fun hc => ?_) (fun hc => ?_))
        | refine CP.go ?_
        | (simp only [List.append_eq, List.cons_append, List.nil_append]))
    (exact RetQ.A [(0, 0)] (by exact ⟨rfl, rfl⟩))
theorem get_ac (x : Ends) (b : List UInt8) (hb : b.length ≤ 60000) (hr : x.root.length ≤ 10000) (hwo : ∀ q ∈ x.wins, q.2.ok) : AC Try.prog 24 [.bp 0 0 0, bs none b] [xE x] (fun v bs' => v = .tu [.ag (eP (x.get b).1.1), I (x.get b).1.2] ∧ bs' = [xE (x.get b).2]) := by
  rcases parse_two b with h | ⟨h, hm⟩
  · exact get_bad x b (by omega) h
  · by_cases h3 : (parseP b).1.to = x.who
    · by_cases h4 : (parseP b).1.tag = tagS x.root (parseP b).1
      · cases ha : at_ ((parseP b).1.frm, (parseP b).1.epoch) x.wins with
        | none => exact get_new x b hb hr h h3 h4 hm ha
        | some n => exact get_old x b hb hr hwo h h3 h4 hm ha
      · exact get_tag x b hb hr h h3 h4
    · exact get_far x b (by omega) h h3
end Go.Proofs.Ytnjfchigdpifmaa

namespace Go.Proofs.Ytnjfchigdpifmaa
set_option linter.unusedVariables false
set_option linter.unusedSimpArgs false
theorem tagS_tag (root : List UInt8) (p : Pkt) (t : List UInt8) : tagS root { p with tag := t } = tagS root p := rfl
theorem pkt_eta (p : Pkt) (t : List UInt8) : ({ p with tag := t } : Pkt) = ⟨p.frm, p.to, p.epoch, p.boot, p.seqn, p.body, t⟩ := rfl
/-- within range -/
def Pkt.rg (p : Pkt) : Prop := (I64 p.frm ∧ I64 p.to ∧ I64 p.epoch ∧ I64 p.boot ∧ I64 p.seqn) ∧ p.body.length ≤ 60000
theorem parse_tagged {p : Pkt} {t : List UInt8} (hm : mayP p = true) (hp : p.rg) (ht : t.length = 32) : parseP (headS p ++ t) = ({ p with tag := t }, 0) := by
  have hm' : mayP { p with tag := t } = true := (mayP_tag p t).trans hm
  have := parse_ok (p := { p with tag := t }) hm' ⟨hp.1, by have := hp.2; show p.body.length ≤ 65536; omega, ht⟩ hp.2
  rwa [headS_tag] at this
/-- bytes under a tag, got -/
theorem get_tagged (x : Ends) {p : Pkt} {t : List UInt8} (hm : mayP p = true) (hp : p.rg) (ht : t.length = 32) :
    x.get (headS p ++ t) = if p.to ≠ x.who then ((pk0, 190), x) else if t ≠ tagS x.root p then ((pk0, 91), x) else
      (let r := (got (p.frm, p.epoch) x.wins Wn.new).take p.boot p.seqn
       if r.1 ≠ 0 then ((pk0, r.1), { x with wins := puts (p.frm, p.epoch) x.wins r.2 }) else (({ p with tag := t }, 0), { x with wins := puts (p.frm, p.epoch) x.wins r.2 })) := by
  unfold Ends.get
  rw [parse_tagged hm hp ht]
  dsimp only
  by_cases h1 : p.to = x.who
  · rw [if_neg (by simp [h1]), if_neg (by simp [h1] : ¬ p.to ≠ x.who)]
    have : tagS x.root { p with tag := t } = tagS x.root p := tagS_tag _ _ _
    rw [pkt_eta] at this
    rw [this]
  · rw [if_pos (.inr h1), if_pos h1]
theorem got_new {α : Type} (s : Sd) (d : α) : got s [] d = d := rfl
theorem got_one {α : Type} (s : Sd) (v d : α) : got s [(s, v)] d = v := by simp [got, at_]
theorem puts_one {α : Type} (s : Sd) (u v : α) : puts s [(s, u)] v = [(s, v)] := by simp [puts, at_]
theorem bad_short {b : List UInt8} (h : b.length < 8) : parseP b = (pk0, 190) := by
  rcases parse_two b with h1 | ⟨h1, _⟩
  · exact h1
  · exfalso
    have h2 := (parse_back (by omega) h1).1
    have h3 := headS_len (parseP b).1
    rw [h2] at h
    simp at h; omega
end Go.Proofs.Ytnjfchigdpifmaa

namespace Go.Proofs.Ytnjfchigdpifmaa
set_option linter.unusedVariables false
set_option linter.unusedSimpArgs false
open Go.RowKit
set_option maxRecDepth 100000
section
variable {X : Cx} {φ φ' : Fi} {κ κ' : Ka} {f : Nat → Ct} {L L' : Ct} {s s' : AS} {a : Act} {w w' : World} {o : Oper} {ops : Array Oper} {rest : List Oper} {Q : Exit → AS → Prop}
theorem freeze_heap (w : World) (g n : Nat) (x : Nat) (hx : x ≠ g) : (w.freeze ⟨g, n, none⟩ 1).heap[x]? = w.heap[x]? := by
  unfold World.freeze
  rw [if_neg (by decide)]
  simp [Array.getElem?_modify, Ne.symm hx]
theorem Mk.freeze {g : Nat} {cur : Array Value} {e : TypeId} (h : Mk w g cur e) : Mk (w.freeze ⟨g, cur.size, none⟩ 1) g cur e := by
  obtain ⟨z, h1, h2⟩ := h
  refine ⟨if z.1 == z.2 then (cur.size, cur.size + 1) else (min z.1 cur.size, max z.2 (cur.size + 1)), ?_, ?_⟩
  · unfold World.freeze
    rw [if_neg (by decide)]
    simp [Array.getElem?_modify, h1]
  · right
    split
    · exact Nat.le_refl _
    · rename_i hz
      have : z.1 ≠ z.2 := by simpa using hz
      show cur.size ≤ min z.1 cur.size
      have := h2.resolve_left this
      omega
/-- bytes, as bytes of the same type: a mark -/
theorem ap_convI {T e e' k j u : Nat} {x : Operand} {rows : List (List AV)} {i ie : TI} (hg : o.guard = none) (ho : o.op = .convert T T x) (hx : aev s x = .hd j u) (hs : s.b[j]? = some ⟨u, .r e k rows⟩) (hT : tt[T]? = some i) (hk : i.kd = .sl e') (he : tt[e']? = some ie) (hke : ie.kd = .it .u8) (hr : rows.isEmpty = false)
    (K : AP Try.prog X ops Q rest (s.put o.dst (.hd j u))) : AP Try.prog X ops Q (o :: rest) s :=
  .run (s' := AS.put ⟨s.t, s.b.set j ⟨u, .r e k rows⟩⟩ o.dst (.hd j u)) hg (fun X φ κ f a w h => by
    have h1 := h.evs hx
    have h2 := h.sl j _ hs
    have hjl : j < s.b.length := (List.getElem?_eq_some_iff.1 hs).1
    have hone : ∀ x, f j x ≤ 1 := fun x => by have := sumF_le f x _ j hjl; have := h.one x; omega
    generalize hF : f j = F at h2
    generalize hp : a.eval x = p at h1
    cases h1 with
    | hd hκ _ =>
      cases h2 with
      | r hκ' hv =>
        rw [hκ] at hκ'; injection hκ' with e0; subst e0
        cases hv with
        | ni => simp at hr
        | ne => simp at hr
        | @om _ _ _ g cap cur us S _ hre hmk hle hm hsz htk hS =>
          have hgl := hmk.lt
          have hsh : w.shape? g = some (e, cur.size) := by
            obtain ⟨z, hz, _⟩ := hmk
            unfold World.shape?
            rw [hz]
          have hrun : (execOp a.eval o).run Try.prog w = .ok (.value (.slice (some ⟨g, 0, none⟩) rows.length cap)) (w.freeze ⟨g, cur.size, none⟩ 1) := by
            have : (convert T T (.slice (some ⟨g, 0, none⟩) rows.length cap)).run Try.prog w = .ok (.slice (some ⟨g, 0, none⟩) rows.length cap) (w.freeze ⟨g, cur.size, none⟩ 1) := by
              simp [convert, run_underlying (ty_sl hT hk), run_underlying (ty_it he hke), markStringish, hsh]
            simp only [execOp, ho, hp, Sem.run_bind, this]; rfl
          have hblk : ∀ x, x ≠ g → (w.freeze ⟨g, cur.size, none⟩ 1).heap[x]? = w.heap[x]? := fun x hx => freeze_heap w g cur.size x hx
          have hsize : (w.freeze ⟨g, cur.size, none⟩ 1).heap.size = w.heap.size := by unfold World.freeze; rw [if_neg (by decide)]; simp
          have hR : ∀ x, X.R x → (w.freeze ⟨g, cur.size, none⟩ 1).heap[x]? = w.heap[x]? := fun x hx => by
            have h3 := h.not_rd hx
            have h4 := sumF_le f x _ j hjl
            rw [hF] at h4
            have h5 := hS x
            exact hblk x (by rintro rfl; simp at h5; omega)
          have hSk : ∀ x, S x ≠ 0 → (w.freeze ⟨g, cur.size, none⟩ 1).heap[x]? = w.heap[x]? := fun x hx => by
            have h5 := hS x
            have h6 := hone x
            rw [hF] at h6
            exact hblk x (by rintro rfl; simp at h5; omega)
          have hv' := RV.om (e := e) (RE.keep hR hre hSk) hmk.freeze hle hm hsz htk hS
          refine ⟨_, _, φ, κ, _, hrun, SatW.puts (h.turn (w' := w.freeze ⟨g, cur.size, none⟩ 1) (B := .r e k rows) (u := u) (g := F) (L' := Ct.z) hs (fun _ _ _ h => h) (fun _ _ _ h => h) (by rw [hsize]; exact Nat.le_refl _) (by unfold World.freeze; rw [if_neg (by decide)]) (by unfold World.freeze; rw [if_neg (by decide)]) (by unfold World.freeze; rw [if_neg (by decide)]) ?_ (.r hκ hv') (fun x _ => by rw [hF]; simp [Ct.z]) (fun x hx => ?_) (Nat.le_refl _) (fun _ _ _ h => h) (fun _ _ _ h => h)) o.dst ?_⟩
          · intro x hx h0
            rw [hF] at h0
            have := hS x
            exact hblk x (by rintro rfl; simp at this; omega)
          · have h8 : F x = 0 := by
              by_cases h8 : F x = 0
              · exact h8
              · have := sumF_le f x _ j hjl
                have := h.own x (by rw [hF] at this; omega); omega
            simp only [Ct.z]
            exact ⟨by omega, fun h0 => by omega⟩
          · exact .hd hκ rfl) (by
    have e1 : s.b.set j ⟨u, .r e k rows⟩ = s.b := by
      apply List.ext_getElem?
      intro i
      rw [List.getElem?_set]
      split
      · rename_i hi; subst hi
        rw [if_pos (List.getElem?_eq_some_iff.1 hs).1, hs]
      · rfl
    rw [e1]; exact K)
end
theorem AP.CI {X : Cx} {s : AS} {ops : Array Oper} {rest : List Oper} {Q : Exit → AS → Prop} {T e e' k j u : Nat} {x : Operand} {rows : List (List AV)} {i ie : TI} {d : Option Nat} {ty : Nat} {pos : String} {aft : Array Edge} (K : AP Try.prog X ops Q rest (s.put d (.hd j u))) (hx : aev s x = .hd j u := by exact rfl) (hs : s.b[j]? = some ⟨u, .r e k rows⟩ := by exact rfl) (hT : tt[T]? = some i := by exact rfl) (hk : i.kd = .sl e' := by exact rfl) (he : tt[e']? = some ie := by exact rfl) (hke : ie.kd = .it .u8 := by exact rfl) (hr : rows.isEmpty = false := by exact rfl) : AP Try.prog X ops Q (⟨d, .convert T T x, ty, pos, aft, none⟩ :: rest) s := ap_convI rfl rfl hx hs hT hk he hke hr K
end Go.Proofs.Ytnjfchigdpifmaa

namespace Go.Proofs.Ytnjfchigdpifmaa
set_option linter.unusedVariables false
set_option linter.unusedSimpArgs false
set_option maxHeartbeats 8000000
open Go.RowKit
set_option maxRecDepth 100000
theorem take_t {w : Wn} {boot n : Int} (h0 : 0 ≤ boot) (h1 : 1 ≤ n) (h : w.taken boot n = true) : w.take boot n = (0, w.after boot n) := by
  unfold Wn.take
  rw [if_neg (by omega), if_pos h]
theorem take_f {w : Wn} {boot n : Int} (h0 : 0 ≤ boot) (h1 : 1 ≤ n) (h : w.taken boot n = false) : w.take boot n = (180, w) := by
  unfold Wn.take
  rw [if_neg (by omega), if_neg (by rw [h]; simp)]
abbrev rt : List UInt8 := [114, 111, 111, 116]
def p1 : Pkt := ⟨0, 1, 1, 0, 1, [97], z32⟩
def p2 : Pkt := ⟨0, 1, 1, 0, 2, [97], z32⟩
def w1 : Wn := Wn.new.after 0 1
def w2 : Wn := w1.after 0 2
theorem p1_may : mayP p1 = true := by decide
theorem p2_may : mayP p2 = true := by decide
theorem p1_rg : p1.rg := by unfold Pkt.rg I64 p1; decide
theorem p2_rg : p2.rg := by unfold Pkt.rg I64 p2; decide
theorem send1 : (⟨rt, 0, 0, [], []⟩ : Ends).send 1 1 [97] = ((headS p1 ++ tagS rt p1, 0), ⟨rt, 0, 0, [((1, 1), 1)], []⟩) := by
  have h : (⟨rt, 0, 0, [], []⟩ : Ends).pkt 1 1 [97] = p1 := rfl
  unfold Ends.send
  rw [h, if_pos p1_may]; rfl
theorem send2 : (⟨rt, 0, 0, [((1, 1), 1)], []⟩ : Ends).send 1 1 [97] = ((headS p2 ++ tagS rt p2, 0), ⟨rt, 0, 0, [((1, 1), 2)], []⟩) := by
  have h : (⟨rt, 0, 0, [((1, 1), 1)], []⟩ : Ends).pkt 1 1 [97] = p2 := rfl
  unfold Ends.send
  rw [h, if_pos p2_may]; rfl
theorem tk1 : Wn.new.take 0 1 = (0, w1) := take_t (by decide) (by decide) (by decide)
theorem tk2 : w1.take 0 1 = (180, w1) := take_f (by decide) (by decide) (by decide)
theorem tk3 : w1.take 0 2 = (0, w2) := take_t (by decide) (by decide) (by decide)
theorem get1 : (⟨rt, 1, 0, [], []⟩ : Ends).get (headS p1 ++ tagS rt p1) = (({ p1 with tag := tagS rt p1 }, 0), ⟨rt, 1, 0, [], [((0, 1), w1)]⟩) := by
  rw [get_tagged _ p1_may p1_rg (tagS_len _ _), if_neg (by simp [p1]), if_neg (by simp)]
  show (let r := (got ((0 : Int), (1 : Int)) [] Wn.new).take 0 1; _) = _
  rw [got_new, tk1]; rfl
theorem get2 : (⟨rt, 1, 0, [], [((0, 1), w1)]⟩ : Ends).get (headS p1 ++ tagS rt p1) = ((pk0, 180), ⟨rt, 1, 0, [], [((0, 1), w1)]⟩) := by
  rw [get_tagged _ p1_may p1_rg (tagS_len _ _), if_neg (by simp [p1]), if_neg (by simp)]
  show (let r := (got ((0 : Int), (1 : Int)) [((0, 1), w1)] Wn.new).take 0 1; _) = _
  rw [got_one, tk2]; rfl
theorem get3 : (⟨rt, 1, 0, [], [((0, 1), w1)]⟩ : Ends).get (headS p2 ++ tagS rt p2) = (({ p2 with tag := tagS rt p2 }, 0), ⟨rt, 1, 0, [], [((0, 1), w2)]⟩) := by
  rw [get_tagged _ p2_may p2_rg (tagS_len _ _), if_neg (by simp [p2]), if_neg (by simp)]
  show (let r := (got ((0 : Int), (1 : Int)) [((0, 1), w1)] Wn.new).take 0 2; _) = _
  rw [got_one, tk3]; rfl
theorem get4 : (⟨rt, 2, 0, [], []⟩ : Ends).get (headS p1 ++ tagS rt p1) = ((pk0, 190), ⟨rt, 2, 0, [], []⟩) := by
  rw [get_tagged _ p1_may p1_rg (tagS_len _ _), if_pos (by simp [p1])]
theorem get5 {t : List UInt8} (ht : t.length = 32) (hne : t ≠ tagS rt p1) : (⟨rt, 1, 0, [], [((0, 1), w2)]⟩ : Ends).get (headS p1 ++ t) = ((pk0, 91), ⟨rt, 1, 0, [], [((0, 1), w2)]⟩) := by
  rw [get_tagged _ p1_may p1_rg ht, if_neg (by simp [p1]), if_pos hne]
theorem get6 : (⟨rt, 1, 0, [], [((0, 1), w2)]⟩ : Ends).get [120] = ((pk0, 190), ⟨rt, 1, 0, [], [((0, 1), w2)]⟩) := by
  unfold Ends.get
  rw [bad_short (b := [120]) (by decide), if_pos (.inl (by decide))]
/-- the last byte turned -/
theorem flip_last {h t : List UInt8} (ht : t.length = 32) : (h ++ t).set ((h ++ t).length - 1) (((h ++ t).getD ((h ++ t).length - 1) 0) ^^^ 1) = h ++ t.set 31 ((t.getD 31 0) ^^^ 1) := by
  have e : (h ++ t).length - 1 = h.length + 31 := by simp; omega
  rw [e, List.set_append_right _ _ (by omega), Nat.add_sub_cancel_left, List.getD_eq_getElem?_getD, List.getElem?_append_right (by omega), Nat.add_sub_cancel_left, ← List.getD_eq_getElem?_getD]
theorem flip_ne {t : List UInt8} (ht : t.length = 32) : t.set 31 ((t.getD 31 0) ^^^ 1) ≠ t := by
  intro h
  have h1 := congrArg (fun l => l.getD 31 0) h
  simp only [List.getD_eq_getElem?_getD, List.getElem?_set_self (show 31 < t.length by omega), Option.getD_some] at h1
  generalize (t[31]?.getD 0) = x at h1
  have key : ∀ n : _root_.Fin 256, (UInt8.ofNat n.val) ^^^ 1 ≠ UInt8.ofNat n.val := by decide
  have h2 := key ⟨x.toNat, x.toNat_lt⟩
  simp only [UInt8.ofNat_toNat] at h2
  exact h2 h1
theorem w1_ok : w1.ok := by unfold Wn.ok; decide
theorem w2_ok : w2.ok := by unfold Wn.ok; decide
theorem awake_ac : AC Try.prog 21 [] [] (fun v bs' => v = B true ∧ bs' = []) := by
  have hp0 := mayP_ac ⟨0, 1, 1, 0, 1, [], List.replicate 32 0⟩
  have hp1 := mayP_ac ⟨1, 1, 1, 0, 1, [], List.replicate 32 0⟩
  have hp2 := mayP_ac ⟨0, 5, 1, 0, 1, [], List.replicate 32 0⟩
  have hp3 := mayP_ac ⟨0, 1, 1, 0, 0, [], List.replicate 32 0⟩
  rw [show mayP ⟨0, 1, 1, 0, 1, [], List.replicate 32 0⟩ = true by decide, eP_z] at hp0
  rw [show mayP ⟨1, 1, 1, 0, 1, [], List.replicate 32 0⟩ = false by decide, eP_z] at hp1
  rw [show mayP ⟨0, 5, 1, 0, 1, [], List.replicate 32 0⟩ = false by decide, eP_z] at hp2
  rw [show mayP ⟨0, 1, 1, 0, 0, [], List.replicate 32 0⟩ = false by decide, eP_z] at hp3
  have n0 := lnew_ac rt 0 0 (by decide)
  have n1 := lnew_ac rt 1 0 (by decide)
  have n2 := lnew_ac rt 2 0 (by decide)
  have hl1 := headS_len p1
  have hl2 := headS_len p2
  have ht1 := tagS_len rt p1
  have ht2 := tagS_len rt p2
  have s1 := send_ac ⟨rt, 0, 0, [], []⟩ 1 1 [97] (by decide) (by decide) (by decide)
  have s2 := send_ac ⟨rt, 0, 0, [((1, 1), 1)], []⟩ 1 1 [97] (by decide) (by decide) (by decide)
  rw [send1] at s1
  rw [send2] at s2
  have hx1 : (headS p1 ++ tagS rt p1).length = 77 := by rw [List.length_append, hl1, ht1]; rfl
  have hx2 : (headS p2 ++ tagS rt p2).length = 77 := by rw [List.length_append, hl2, ht2]; rfl
  have g1 := get_ac ⟨rt, 1, 0, [], []⟩ (headS p1 ++ tagS rt p1) (by omega) (by decide) (by simp)
  have g2 := get_ac ⟨rt, 1, 0, [], [((0, 1), w1)]⟩ (headS p1 ++ tagS rt p1) (by omega) (by dsimp only; decide) (by simp; exact w1_ok)
  have g3 := get_ac ⟨rt, 1, 0, [], [((0, 1), w1)]⟩ (headS p2 ++ tagS rt p2) (by omega) (by dsimp only; decide) (by simp; exact w1_ok)
  have g4 := get_ac ⟨rt, 2, 0, [], []⟩ (headS p1 ++ tagS rt p1) (by omega) (by decide) (by simp)
  have g6 := get_ac ⟨rt, 1, 0, [], [((0, 1), w2)]⟩ [120] (by decide) (by dsimp only; decide) (by simp; exact w2_ok)
  have hf := flip_last (h := headS p1) ht1
  have g5 := get_ac ⟨rt, 1, 0, [], [((0, 1), w2)]⟩ (headS p1 ++ (tagS rt p1).set 31 (((tagS rt p1).getD 31 0) ^^^ 1)) (by rw [← hf, List.length_set]; omega) (by dsimp only; decide) (by simp; exact w2_ok)
  rw [get1] at g1
  rw [get2] at g2
  rw [get3] at g3
  rw [get4] at g4
  rw [get5 (by simp [ht1]) (flip_ne ht1), ← hf] at g5
  rw [get6] at g6
  clear hf hl1 hl2
  dsimp only at s1 s2 g1 g2 g3 g4 g5 g6
  have hw := wsame_ac [97] [97] (by decide)
  rw [decide_eq_true rfl] at hw
  rw [show ({ p1 with tag := tagS rt p1 } : Pkt) = ⟨0, 1, 1, 0, 1, [97], tagS rt p1⟩ from rfl] at g1
  rw [show ({ p2 with tag := tagS rt p2 } : Pkt) = ⟨0, 1, 1, 0, 2, [97], tagS rt p2⟩ from rfl] at g3
  rw [pk0_eP, eP_z] at g2 g4 g5 g6
  have hc := wcat_ac [headS p1 ++ tagS rt p1] (by decide) (by simp at *; omega)
  rw [show [headS p1 ++ tagS rt p1].flatten = headS p1 ++ tagS rt p1 by simp] at hc
  generalize headS p1 ++ tagS rt p1 = x1 at *
  generalize headS p2 ++ tagS rt p2 = x2 at *
  generalize tagS rt p1 = T1 at *
  generalize tagS rt p2 = T2 at *
  generalize w1 = W1 at *
  generalize w2 = W2 at *
  dsimp only at hp0 hp1 hp2 hp3 g2 g4 g5 g6
  have h76 : 76 < x1.length := by omega
  have e76 : x1.set (x1.length - 1) (x1.getD (x1.length - 1) 0 ^^^ 1) = x1.set 76 (x1[76] ^^^ 1) := by
    rw [List.getD_eq_getElem?_getD, hx1]
    simp only [Nat.reduceSub]
    rw [List.getElem?_eq_getElem h76]; rfl
  rw [e76] at g5
  have hz : (x1.map eB).set 76 [AV.sc (.int .u8 ((x1[76] ^^^ 1).toNat : Int))] = (x1.set 76 (x1[76] ^^^ 1)).map eB := by rw [List.map_set]
  generalize x1.set 76 (x1[76] ^^^ 1) = z1 at *
  have hx8 : IntKind.u8.wrap (((BitVec.ofInt IntKind.u8.bits (x1[76].toNat : Int)) ^^^ (BitVec.ofInt IntKind.u8.bits 1)).toNat : Int) = ((x1[76] ^^^ 1).toNat : Int) := xor8 x1[76] 1
  have hw76 : IntKind.i64.wrap (((77 : Nat) : Int) - 1) = ((76 : Nat) : Int) := rfl
  have d77 : decide (((77 : Nat) : Int) < 1) = false := by decide
  refine AC.N Try.func21 Try.ntmps21 ?_
  intro X hρ hmks
  simp only [nx, Nat.reduceAdd, Nat.reduceSub, BEq.rfl]
  refine CP.gh gh_slot ?_; simp only [nx, Nat.reduceAdd, Nat.reduceSub, BEq.rfl]
  refine CP.gh gh_slot ?_; simp only [nx, Nat.reduceAdd, Nat.reduceSub, BEq.rfl]
  refine CP.gh gh_slot ?_; simp only [nx, Nat.reduceAdd, Nat.reduceSub, BEq.rfl]
  refine CP.gh gh_slot ?_; simp only [nx, Nat.reduceAdd, Nat.reduceSub, BEq.rfl]
  refine CP.gh gh_slot ?_; simp only [nx, Nat.reduceAdd, Nat.reduceSub, BEq.rfl]
  repeat' (first
    | ((first
      | ((with_reducible apply AP.k_any); first | refine AP.ST ?_ | (refine AP.Y ?_; dsimp only) | refine AP.G (fun hg => ?_) (fun hg => ?_) | (refine AP.V (fun c hnil => ?_); simp only [nz]) | ((with_reducible apply AP.k_any); refine AP.C (hp0) ?_) | ((with_reducible apply AP.k_any); refine AP.C (hp1) ?_) | ((with_reducible apply AP.k_any); refine AP.C (hp2) ?_) | ((with_reducible apply AP.k_any); refine AP.C (hp3) ?_) | ((with_reducible apply AP.k_any); refine AP.B 1 (n0) ?_) | ((with_reducible apply AP.k_any); refine AP.B 1 (n1) ?_) | ((with_reducible apply AP.k_any); refine AP.B 1 (n2) ?_) | ((with_reducible apply AP.k_any); refine AP.B 0 (s1) ?_) | ((with_reducible apply AP.k_any); refine AP.B 0 (s2) ?_) | ((with_reducible apply AP.k_any); refine AP.B 0 (g1) ?_) | ((with_reducible apply AP.k_any); refine AP.B 0 (g2) ?_) | ((with_reducible apply AP.k_any); refine AP.B 0 (g3) ?_) | ((with_reducible apply AP.k_any); refine AP.B 0 (g4) ?_) | ((with_reducible apply AP.k_any); refine AP.B 0 (g5) ?_) | ((with_reducible apply AP.k_any); refine AP.B 0 (g6) ?_) | refine AP.CI ?_ | refine AP.PF ?_)
        | ((with_reducible apply DW.k_any); first | refine DW.ST ?_ | ((fail_if_success refine DW.known rfl ?_); refine DW.G (fun hg => ?_) (fun hg => ?_)))
        | ((with_reducible apply DW.k_any); first
                    | refine DW.R ?_ | refine DW.R' ?_ | refine DW.W ?_ | refine DW.W' ?_
                    | (refine DW.known rfl ?_; (with_reducible first | apply DW.sx 2 | apply DW.sxN 2); (iterate 2 (focus (simp only [ft, nm, Nat.reduceAdd, Nat.reduceBEq, List.getElem?_cons_zero, List.getElem?_cons_succ]; exact rfl))); (focus (intro X V; simp only [ft, nm, Nat.reduceAdd, Nat.reduceBEq]; (try (refine AP.Y ?_; dsimp only)); (first | ((with_reducible apply AP.k_any); refine AP.C (hp0) ?_) | ((with_reducible apply AP.k_any); refine AP.C (hp1) ?_) | ((with_reducible apply AP.k_any); refine AP.C (hp2) ?_) | ((with_reducible apply AP.k_any); refine AP.C (hp3) ?_) | ((with_reducible apply AP.k_any); refine AP.B 1 (n0) ?_) | ((with_reducible apply AP.k_any); refine AP.B 1 (n1) ?_) | ((with_reducible apply AP.k_any); refine AP.B 1 (n2) ?_) | ((with_reducible apply AP.k_any); refine AP.B 0 (s1) ?_) | ((with_reducible apply AP.k_any); refine AP.B 0 (s2) ?_) | ((with_reducible apply AP.k_any); refine AP.B 0 (g1) ?_) | ((with_reducible apply AP.k_any); refine AP.B 0 (g2) ?_) | ((with_reducible apply AP.k_any); refine AP.B 0 (g3) ?_) | ((with_reducible apply AP.k_any); refine AP.B 0 (g4) ?_) | ((with_reducible apply AP.k_any); refine AP.B 0 (g5) ?_) | ((with_reducible apply AP.k_any); refine AP.B 0 (g6) ?_) | refine AP.CI ?_ | fail); (try simp only [nx, Nat.reduceAdd, Nat.reduceSub, BEq.rfl]); refine AP.nil ?_; (first | refine ⟨trivial, rfl, ?_⟩ | refine ⟨rfl, rfl, ?_⟩); (repeat' (first | exact Mg.nil | apply Mg.keep rfl | apply Mg.take rfl)); done)); (focus (refine Exists.intro (fun _ => 0) ?_; apply Exists.intro; (repeat' (first | exact Mg.nil | apply Mg.keep rfl | apply Mg.take rfl)); done)); (iterate 2 (focus (exact rfl))))
                    | ((fail_if_success refine DW.known rfl ?_); refine DW.G (fun hg => ?_) (fun hg => ?_))
        )
      ) <;> (try simp only [hx1, hw76, d77, hx8, hz, Int.toNat_natCast, nx, mx, rn, fq, Nat.mul_one, Bool.and_true, Bool.and_false, Nat.reduceBEq, Nat.reduceAdd, Nat.reduceSub, BEq.rfl]))
    | ((with_reducible apply AP.k_nil); first | (refine AP.nil (hQ' _ ?_); clear hQ' Q') | refine AP.nil ?_)
    | ((with_reducible apply CP.k_drw); refine cp_drwX fun Q' hQ' => ?_)
    | ((with_reducible apply CP.k_drw1); refine cp_drawX ?_)
    | ((with_reducible apply DW.k_nil); refine DW.nl ?_; first | (refine hQ' _ ?_; clear hQ' Q') | skip)
    | ((with_reducible apply CP.k_reg); refine cp_regG fun Q' hQ' => ?_)
      | (with_reducible apply CP.k_reg1; refine cp_region ?_)
      | ((with_reducible apply CP.k_cond); first | refine cp_condT rfl ?_ | refine cp_condF rfl ?_ | refine cp_cond rfl (fun hc => ?_) (fun hc => ?_))
      | refine CP.go ?_
      | (simp only [List.append_eq, List.cons_append, List.nil_append]))
  (exact RetQ.A [] (by exact ⟨rfl, rfl⟩))
end Go.Proofs.Ytnjfchigdpifmaa

namespace Go.Proofs.Ytnjfchigdpifmaa
set_option linter.unusedVariables false
set_option linter.unusedSimpArgs false
/-- a window behind numbers that rise -/
theorem go_top {x : Wn} {n : Int} (h : x.top ≤ n) : (x.go n).top = n ∧ (x.go n).boot = x.boot := by
  unfold Wn.go
  show ((x.far n).ups _).top = n ∧ ((x.far n).ups _).boot = x.boot
  rw [Wn.ups_top, Wn.ups_boot]
  unfold Wn.far
  split
  · exact ⟨by dsimp only; omega, rfl⟩
  · exact ⟨by omega, rfl⟩
theorem rise {w : Wn} {b n : Int} (hb : w.boot < b ∨ (w.boot = b ∧ w.top < n)) (h1 : 1 ≤ n) : w.taken b n = true ∧ (w.after b n).top = n ∧ (w.after b n).boot = b := by
  have hold : (w.base b).old n = false := by
    unfold Wn.base Wn.old
    simp only [Bool.or_eq_false_iff, Bool.and_eq_false_iff, decide_eq_false_iff_not]
    split
    · exact ⟨by dsimp only; omega, .inl (by dsimp only; omega)⟩
    · exact ⟨by omega, .inl (by omega)⟩
  have ht : w.taken b n = true := by
    unfold Wn.taken
    rw [hold]
    simp; omega
  have e : w.after b n = (w.base b).go n := by
    unfold Wn.after
    rw [if_neg (by omega), if_neg (by rw [hold]; simp)]
  rw [e]
  unfold Wn.base
  split
  · rename_i hlt
    have := go_top (x := ⟨b, 0, fun _ => false⟩) (n := n) (by dsimp only; omega)
    exact ⟨ht, this.1, this.2⟩
  · rename_i hlt
    have := go_top (x := w) (n := n) (by omega)
    exact ⟨ht, this.1, by rw [this.2]; omega⟩
/-- the packets -/
def bPk (boot : Int) (i : Nat) : Pkt := ⟨0, 9, 2, boot, i, [], z32⟩
theorem bPk_may {boot : Int} {i : Nat} (h : 0 ≤ boot) (hi : 1 ≤ i) : mayP (bPk boot i) = true := by
  show (whoS 0 && whoS 9 && !((0 : Int) == 9) && decide ((1 : Int) ≤ 2) && decide (0 ≤ boot) && decide ((1 : Int) ≤ (i : Int))) = true
  rw [decide_eq_true h, decide_eq_true (show (1 : Int) ≤ (i : Int) by omega)]
  rfl
theorem bPk_rg {boot : Int} {i : Nat} (h : 0 ≤ boot) (hb : boot ≤ 1099511627777) (hi : i ≤ 100) : (bPk boot i).rg := by
  unfold Pkt.rg I64 bPk
  dsimp only
  exact ⟨⟨by omega, by omega, by omega, by omega, by omega⟩, by simp⟩
def bX (root : List UInt8) (boot : Int) (i : Nat) : List UInt8 := headS (bPk boot i) ++ tagS root (bPk boot i)
def sL : Nat → List (Sd × Int)
  | 0 => []
  | i + 1 => [((9, 2), ((i + 1 : Nat) : Int))]
def oldE (root : List UInt8) (boot : Int) (i : Nat) : Ends := ⟨root, 0, boot, sL i, []⟩
theorem old_got (root : List UInt8) (boot : Int) (i : Nat) : got ((9 : Int), (2 : Int)) (oldE root boot i).sent 0 = i := by
  cases i with
  | zero => rfl
  | succ i => exact got_one _ _ _
theorem old_send (root : List UInt8) {boot : Int} (h : 0 ≤ boot) (i : Nat) : (oldE root boot i).send 9 2 [] = ((bX root boot (i + 1), 0), oldE root boot (i + 1)) := by
  have hp : (oldE root boot i).pkt 9 2 [] = bPk boot (i + 1) := by
    unfold Ends.pkt
    rw [old_got]
    cases i <;> rfl
  have hr : (oldE root boot i).root = root := rfl
  unfold Ends.send
  rw [hp, if_pos (bPk_may h (by omega)), hr]
  congr 1
  unfold Ends.bump
  rw [old_got]
  cases i with
  | zero => rfl
  | succ i =>
    show (⟨root, 0, boot, puts ((9 : Int), (2 : Int)) [((9, 2), ((i + 1 : Nat) : Int))] _, []⟩ : Ends) = _
    rw [puts_one]; rfl
/-- who gets: one's window, if there is one -/
def wL : Option Wn → List (Sd × Wn)
  | none => []
  | some w => [((0, 2), w)]
def toE (root : List UInt8) (o : Option Wn) : Ends := ⟨root, 9, 0, [], wL o⟩
def wOf (o : Option Wn) : Wn := o.getD Wn.new
theorem to_get (root : List UInt8) (o : Option Wn) {boot : Int} {i : Nat} (h : 0 ≤ boot) (hb : boot ≤ 1099511627777) (hi : 1 ≤ i) (hi2 : i ≤ 100) (ht : (wOf o).taken boot i = true) :
    (toE root o).get (bX root boot i) = (({ bPk boot i with tag := tagS root (bPk boot i) }, 0), toE root (some ((wOf o).after boot i))) := by
  have hr : (toE root o).root = root := by cases o <;> rfl
  have hw : (toE root o).who = 9 := by cases o <;> rfl
  have hg : got ((0 : Int), (2 : Int)) (toE root o).wins Wn.new = wOf o := by
    cases o with
    | none => rfl
    | some w => exact got_one _ _ _
  have hp : ∀ v, (⟨(toE root o).root, (toE root o).who, (toE root o).boot, (toE root o).sent, puts ((0 : Int), (2 : Int)) (toE root o).wins v⟩ : Ends) = toE root (some v) := fun v => by
    cases o with
    | none => rfl
    | some w =>
      show (⟨root, 9, 0, [], puts ((0 : Int), (2 : Int)) [((0, 2), w)] v⟩ : Ends) = _
      rw [puts_one]; rfl
  unfold bX
  rw [get_tagged _ (bPk_may h hi) (bPk_rg h hb hi2) (tagS_len _ _), if_neg (by rw [hw]; simp [bPk]), if_neg (by rw [hr]; simp)]
  have e1 : (bPk boot i).frm = 0 := rfl
  have e2 : (bPk boot i).epoch = 2 := rfl
  have e3 : (bPk boot i).boot = boot := rfl
  have e4 : (bPk boot i).seqn = i := rfl
  rw [e1, e2, e3, e4, hg, take_t h (by omega) ht]
  dsimp only
  rw [if_neg (by simp), hp]
  rfl
theorem to_replay (root : List UInt8) (o : Option Wn) {boot : Int} {i : Nat} (h : 0 ≤ boot) (hb : boot ≤ 1099511627777) (hi : 1 ≤ i) (hi2 : i ≤ 100) (ht : (wOf o).taken boot i = false) :
    (toE root o).get (bX root boot i) = ((pk0, 180), toE root (some (wOf o))) := by
  have hr : (toE root o).root = root := by cases o <;> rfl
  have hw : (toE root o).who = 9 := by cases o <;> rfl
  have hg : got ((0 : Int), (2 : Int)) (toE root o).wins Wn.new = wOf o := by
    cases o with
    | none => rfl
    | some w => exact got_one _ _ _
  have hp : ∀ v, (⟨(toE root o).root, (toE root o).who, (toE root o).boot, (toE root o).sent, puts ((0 : Int), (2 : Int)) (toE root o).wins v⟩ : Ends) = toE root (some v) := fun v => by
    cases o with
    | none => rfl
    | some w =>
      show (⟨root, 9, 0, [], puts ((0 : Int), (2 : Int)) [((0, 2), w)] v⟩ : Ends) = _
      rw [puts_one]; rfl
  unfold bX
  rw [get_tagged _ (bPk_may h hi) (bPk_rg h hb hi2) (tagS_len _ _), if_neg (by rw [hw]; simp [bPk]), if_neg (by rw [hr]; simp)]
  have e1 : (bPk boot i).frm = 0 := rfl
  have e2 : (bPk boot i).epoch = 2 := rfl
  have e3 : (bPk boot i).boot = boot := rfl
  have e4 : (bPk boot i).seqn = i := rfl
  rw [e1, e2, e3, e4, hg, take_f h (by omega) ht]
  dsimp only
  rw [if_pos (by decide), hp]
/-- the windows, one behind the other -/
def wnA (boot : Int) : Nat → Option Wn
  | 0 => none
  | i + 1 => if i = 0 then none else some ((wOf (wnA boot i)).after boot ((i + 1 : Nat) : Int))
def wnB (boot : Int) (n : Nat) : Nat → Option Wn
  | 0 => wnA boot n
  | j + 1 => some ((wOf (wnB boot n j)).after (boot + 1) ((j + 1 : Nat) : Int))
theorem wA_at {boot : Int} (h : 0 ≤ boot) : ∀ i, (wOf (wnA boot i)).boot < boot ∨ ((wOf (wnA boot i)).boot = boot ∧ (wOf (wnA boot i)).top = i)
  | 0 => .inl (by show (-1 : Int) < boot; omega)
  | i + 1 => by
    unfold wnA
    split
    · exact .inl (by show (-1 : Int) < boot; omega)
    · have ih := wA_at h i
      have := rise (w := wOf (wnA boot i)) (b := boot) (n := ((i + 1 : Nat) : Int)) (by omega) (by omega)
      exact .inr ⟨this.2.2, this.2.1⟩
theorem wA_tk {boot : Int} (h : 0 ≤ boot) (i : Nat) : (wOf (wnA boot i)).taken boot ((i + 1 : Nat) : Int) = true := by
  have := wA_at h i
  exact (rise (by omega) (by omega)).1
theorem wB_at {boot : Int} (h : 0 ≤ boot) (n : Nat) : ∀ j, (wOf (wnB boot n j)).boot < boot + 1 ∨ ((wOf (wnB boot n j)).boot = boot + 1 ∧ (wOf (wnB boot n j)).top = j)
  | 0 => by have := wA_at h n; exact .inl (by show (wOf (wnA boot n)).boot < boot + 1; omega)
  | j + 1 => by
    have ih := wB_at h n j
    have := rise (w := wOf (wnB boot n j)) (b := boot + 1) (n := ((j + 1 : Nat) : Int)) (by omega) (by omega)
    exact .inr ⟨this.2.2, this.2.1⟩
theorem wB_tk {boot : Int} (h : 0 ≤ boot) (n j : Nat) : (wOf (wnB boot n j)).taken (boot + 1) ((j + 1 : Nat) : Int) = true := by
  have := wB_at h n j
  exact (rise (by omega) (by omega)).1
theorem wB_old {boot : Int} (h : 0 ≤ boot) (n : Nat) {j : Nat} (hj : 1 ≤ j) : (wOf (wnB boot n j)).taken boot 1 = false := by
  have h1 : (wOf (wnB boot n j)).boot = boot + 1 := by
    cases j with
    | zero => omega
    | succ j =>
      have := wB_at h n j
      exact (rise (w := wOf (wnB boot n j)) (b := boot + 1) (n := ((j + 1 : Nat) : Int)) (by omega) (by omega)).2.2
  unfold Wn.taken
  rw [h1]
  simp; omega
theorem wn_ok {w : Wn} {b n : Int} (h : w.taken b n = true) (hb : w.boot < b ∨ (w.boot = b ∧ w.top < n)) (h1 : 1 ≤ n) (hn : n ≤ 9223372036854775807) : (w.after b n).ok := by
  have := (rise hb h1).2.1
  unfold Wn.ok; omega
theorem new_ok : Wn.new.ok := by unfold Wn.ok Wn.new; decide
theorem wA_ok {boot : Int} (h : 0 ≤ boot) : ∀ {i : Nat}, i ≤ 100 → (wOf (wnA boot i)).ok
  | 0, _ => new_ok
  | i + 1, hi => by
    unfold wnA
    split
    · exact new_ok
    · have ih := wA_at h i
      exact wn_ok (wA_tk h i) (by omega) (by omega) (by omega)
theorem wB_ok {boot : Int} (h : 0 ≤ boot) {n : Nat} (hn : n ≤ 100) : ∀ {j : Nat}, j ≤ 100 → (wOf (wnB boot n j)).ok
  | 0, _ => wA_ok h hn
  | j + 1, hj => by
    have ih := wB_at h n j
    exact wn_ok (wB_tk h n j) (by omega) (by omega) (by omega)
end Go.Proofs.Ytnjfchigdpifmaa

namespace Go.Proofs.Ytnjfchigdpifmaa
set_option linter.unusedVariables false
set_option linter.unusedSimpArgs false
set_option maxHeartbeats 8000000
open Go.RowKit
set_option maxRecDepth 100000
/-- a packet of no body that is got, as cells -/
abbrev ePb (boot : Int) (i : Nat) (T : List UInt8) : List AV := eP ⟨0, 9, 2, boot, i, [], T⟩
theorem osend_ac (root : List UInt8) (boot : Int) (i : Nat) (hr : root.length ≤ 100) (h : 0 ≤ boot) (hi : i ≤ 1000) : AC Try.prog 23 [.bp 0 0 0, I 9, I 2, bs none []] [xE (oldE root boot i)] (fun v bs' => v = .tu [bs none (bX root boot (i + 1)), I 0] ∧ bs' = [xE (oldE root boot (i + 1))]) := by
  have := send_ac (oldE root boot i) 9 2 [] (by show root.length ≤ 10000; omega) (by simp) (by rw [old_got]; omega)
  rw [old_send root h i] at this
  exact this
theorem bX_len (root : List UInt8) (boot : Int) (i : Nat) : (bX root boot i).length = 76 := by
  unfold bX
  rw [List.length_append, headS_len, tagS_len]; rfl
theorem oget_ac (root : List UInt8) (o : Option Wn) (boot : Int) (i : Nat) (hr : root.length ≤ 100) (h : 0 ≤ boot) (hb : boot ≤ 1099511627777) (hi : 1 ≤ i) (hi2 : i ≤ 100) (ho : (wOf o).ok) (ht : (wOf o).taken boot i = true) :
    AC Try.prog 24 [.bp 0 0 0, bs none (bX root boot i)] [xE (toE root o)] (fun v bs' => v = .tu [.ag (ePb boot i (tagS root (bPk boot i))), I 0] ∧ bs' = [xE (toE root (some ((wOf o).after boot i)))]) := by
  have := get_ac (toE root o) (bX root boot i) (by rw [bX_len]; omega) (by show root.length ≤ 10000; omega) (by
    cases o with
    | none => intro q hq; cases hq
    | some w => intro q hq; obtain rfl := List.mem_singleton.1 hq; exact ho)
  rw [to_get root o h hb hi hi2 ht] at this
  exact this
theorem oget_no (root : List UInt8) (o : Option Wn) (boot : Int) (i : Nat) (hr : root.length ≤ 100) (h : 0 ≤ boot) (hb : boot ≤ 1099511627777) (hi : 1 ≤ i) (hi2 : i ≤ 100) (ho : (wOf o).ok) (ht : (wOf o).taken boot i = false) :
    AC Try.prog 24 [.bp 0 0 0, bs none (bX root boot i)] [xE (toE root o)] (fun v bs' => v = .tu [.ag (eP ⟨0, 0, 0, 0, 0, [], List.replicate 32 0⟩), I 180] ∧ bs' = [xE (toE root (some (wOf o)))]) := by
  have := get_ac (toE root o) (bX root boot i) (by rw [bX_len]; omega) (by show root.length ≤ 10000; omega) (by
    cases o with
    | none => intro q hq; cases hq
    | some w => intro q hq; obtain rfl := List.mem_singleton.1 hq; exact ho)
  rw [to_replay root o h hb hi hi2 ht, pk0_eP] at this
  exact this
def fstV (root : List UInt8) (boot : Int) : Nat → AV
  | 0 => .sc (.slice none 0 0)
  | _ + 1 => bs none (bX root boot 1)
def tvN : Nat → Nat
  | 0 => 1
  | i + 1 => i + 1
theorem lboots (root : List UInt8) (n m : Nat) (boot : Int) (hr : root.length ≤ 100) (hn1 : 1 ≤ n) (hn : n ≤ 20) (hm1 : 1 ≤ m) (hm : m ≤ 20) (h : 0 ≤ boot) (hb : boot ≤ 1099511627776) :
    AC Try.prog 7 [bs none root, I n, I m, I boot] [] (fun v bs' => v = B true ∧ bs' = []) := by
  have h0 := awake_ac
  have d1 : decide ((100 : Int) < (root.length : Int)) = false := by simp; omega
  have d2 : decide ((n : Int) < 1) = false := by simp; omega
  have d3 : decide ((20 : Int) < (n : Int)) = false := by simp; omega
  have d4 : decide ((m : Int) < 1) = false := by simp; omega
  have d5 : decide ((20 : Int) < (m : Int)) = false := by simp; omega
  have d6 : decide (boot < 0) = false := by simp; omega
  have d7 : decide ((1099511627776 : Int) < boot) = false := by simp; omega
  have hw1 : IntKind.i64.wrap (boot + 1) = boot + 1 := wrap_i64 (by omega) (by omega)
  have n0 := lnew_ac root 0 boot (by omega)
  have n1 := lnew_ac root 0 (boot + 1) (by omega)
  have n2 := lnew_ac root 9 0 (by omega)
  refine AC.N Try.func7 Try.ntmps7 ?_
  intro X hρ hmks
  simp only [nx, Nat.reduceAdd, Nat.reduceSub, BEq.rfl]
  repeat' (first
    | ((first
      | ((with_reducible apply AP.k_any); first | refine AP.ST ?_ | (refine AP.Y ?_; dsimp only) | refine AP.G (fun hg => ?_) (fun hg => ?_) | (refine AP.V (fun c hnil => ?_); simp only [nz]) | ((with_reducible apply AP.k_any); refine AP.B 1 (n0) ?_) | ((with_reducible apply AP.k_any); refine AP.B 1 (n1) ?_) | ((with_reducible apply AP.k_any); refine AP.B 1 (n2) ?_) | refine AP.PF ?_)
      ) <;> (try simp only [d1, d2, d3, d4, d5, d6, d7, hw1, nx, mx, rn, fq, Nat.mul_one, Bool.and_true, Bool.and_false, Nat.reduceBEq, Nat.reduceAdd, Nat.reduceSub, BEq.rfl]))
    | ((with_reducible apply AP.k_nil); first | (refine AP.nil (hQ' _ ?_); clear hQ' Q') | refine AP.nil ?_)
    | ((with_reducible apply CP.k_reg); refine cp_regG fun Q' hQ' => ?_)
      | (with_reducible apply CP.k_reg1; refine cp_region ?_)
      | ((with_reducible apply CP.k_cond); first | refine cp_condT rfl ?_ | refine cp_condF rfl ?_ | refine cp_cond rfl (fun hc => ?_) (fun hc => ?_))
      | refine CP.go ?_
      | (simp only [List.append_eq, List.cons_append, List.nil_append]))
  clear n0 n1 n2 h0
  refine CP.gh gh_slot ?_; simp only [nx, Nat.reduceAdd, Nat.reduceSub, BEq.rfl]
  refine cp_loopS [8, 12, 13, 14, 15, 16, 17, 63, 64, 65, 66, 67, 68, 69, 70, 71, 72, 73, 74, 75, 76, 77, 78, 79, 80, 81, 82, 83, 84, 85] (fun a : Nat => n - a) (fun a => a ≤ n) (fun a => [(13, I a), (12, fstV root boot a)])
    (fun a => [(0, ⟨1, .c tEn [B true, bs none root, I 0, I boot, .hd 1 (a + 1), .hd 2 (a + 1)]⟩), (1, ⟨a + 1, .m (keyN (sL a)) (rowN (sL a)) none none⟩), (2, ⟨a + 1, .m [] [] none none⟩),
      (6, ⟨1, .c tEn [B true, bs none root, I 9, I 0, .hd 7 (tvN a), .hd 8 (tvN a)]⟩), (7, ⟨tvN a, .m [] [] none none⟩), (8, ⟨tvN a, .m (keyW (wL (wnA boot a))) (rowW (wL (wnA boot a))) none none⟩), (9, ⟨a - 1, .x⟩)]) 0 (Nat.zero_le _) (by exact Gh.W) ?_
  intro a ha
  simp only [setT, deT, setB, List.set_cons_succ, List.set_cons_zero]
  by_cases hlt : a < n
  · have q1 : decide ((a : Int) < (n : Int)) = true := by simp; omega
    have q2 : IntKind.i64.wrap ((a : Int) + 1) = ((a + 1 : Nat) : Int) := wrap_i64 (by omega) (by omega)
    have hs := osend_ac root boot a hr h (by omega)
    unfold oldE at hs
    rcases a with _ | i
    · repeat' (first
        | ((first
          | ((with_reducible apply AP.k_any); first | refine AP.ST ?_ | (refine AP.Y ?_; dsimp only) | refine AP.G (fun hg => ?_) (fun hg => ?_) | (refine AP.V (fun c hnil => ?_); simp only [nz]) | ((with_reducible apply AP.k_any); refine AP.B 0 (hs) ?_) | refine AP.PF ?_)
          ) <;> (try simp only [q1, q2, nx, mx, rn, fq, Nat.mul_one, Bool.and_true, Bool.and_false, Nat.reduceBEq, Nat.reduceAdd, Nat.reduceSub, BEq.rfl]))
        | ((with_reducible apply AP.k_nil); first | (refine AP.nil (hQ' _ ?_); clear hQ' Q') | refine AP.nil ?_)
        | ((with_reducible apply CP.k_reg); refine cp_regG fun Q' hQ' => ?_)
          | (with_reducible apply CP.k_reg1; refine cp_region ?_)
          | ((with_reducible apply CP.k_cond); first | refine cp_condT rfl ?_ | refine cp_condF rfl ?_ | refine cp_cond rfl (fun hc => ?_) (fun hc => ?_))
          | refine CP.go ?_
          | (simp only [List.append_eq, List.cons_append, List.nil_append]))
      exact ⟨1, by omega, by omega, by exact Gh.W⟩
    · have q3 : (((i + 1 : Nat) : Int) == 0) = false := by simp; omega
      have hg := oget_ac root (wnA boot (i + 1)) boot (i + 1 + 1) hr h (by omega) (by omega) (by omega) (wA_ok h (by omega)) (wA_tk h (i + 1))
      have hwn : some ((wOf (wnA boot (i + 1))).after boot ((i + 1 + 1 : Nat) : Int)) = wnA boot (i + 1 + 1) := by
        conv => rhs; unfold wnA
        rw [if_neg (by omega)]
      rw [hwn] at hg
      unfold toE at hg
      repeat' (first
        | ((first
          | ((with_reducible apply AP.k_any); first | refine AP.ST ?_ | (refine AP.Y ?_; dsimp only) | refine AP.G (fun hg => ?_) (fun hg => ?_) | (refine AP.V (fun c hnil => ?_); simp only [nz]) | ((with_reducible apply AP.k_any); refine AP.B 0 (hs) ?_) | ((with_reducible apply AP.k_any); refine AP.B 0 (hg) ?_) | refine AP.PF ?_)
          ) <;> (try simp only [q1, q2, q3, nx, mx, rn, fq, Nat.mul_one, Bool.and_true, Bool.and_false, Nat.reduceBEq, Nat.reduceAdd, Nat.reduceSub, BEq.rfl]))
        | ((with_reducible apply AP.k_nil); first | (refine AP.nil (hQ' _ ?_); clear hQ' Q') | refine AP.nil ?_)
        | ((with_reducible apply CP.k_reg); refine cp_regG fun Q' hQ' => ?_)
          | (with_reducible apply CP.k_reg1; refine cp_region ?_)
          | ((with_reducible apply CP.k_cond); first | refine cp_condT rfl ?_ | refine cp_condF rfl ?_ | refine cp_cond rfl (fun hc => ?_) (fun hc => ?_))
          | refine CP.go ?_
          | (simp only [List.append_eq, List.cons_append, List.nil_append]))
      exact ⟨i + 1 + 1, by omega, by omega, by exact Gh.W⟩
  · obtain rfl : a = n := by omega
    have q1 : decide ((a : Int) < (a : Int)) = false := by simp
    obtain ⟨k, rfl⟩ : ∃ k, a = k + 1 := ⟨a - 1, by omega⟩
    have hz := oget_no root (wnB boot (k + 1) m) boot 1 hr h (by omega) (by omega) (by omega) (wB_ok h (by omega) (by omega)) (wB_old h (k + 1) hm1)
    repeat' (first
      | ((first
        | ((with_reducible apply AP.k_any); first | refine AP.ST ?_ | (refine AP.Y ?_; dsimp only) | refine AP.G (fun hg => ?_) (fun hg => ?_) | (refine AP.V (fun c hnil => ?_); simp only [nz])  | refine AP.PF ?_)
        ) <;> (try simp only [q1, nx, mx, rn, fq, Nat.mul_one, Bool.and_true, Bool.and_false, Nat.reduceBEq, Nat.reduceAdd, Nat.reduceSub, BEq.rfl]))
      | ((with_reducible apply AP.k_nil); first | (refine AP.nil (hQ' _ ?_); clear hQ' Q') | refine AP.nil ?_)
      | ((with_reducible apply CP.k_reg); refine cp_regG fun Q' hQ' => ?_)
        | (with_reducible apply CP.k_reg1; refine cp_region ?_)
        | ((with_reducible apply CP.k_cond); first | refine cp_condT rfl ?_ | refine cp_condF rfl ?_ | refine cp_cond rfl (fun hc => ?_) (fun hc => ?_))
        | refine CP.go ?_
        | (simp only [List.append_eq, List.cons_append, List.nil_append]))
    refine CP.gh gh_slot ?_; simp only [nx, Nat.reduceAdd, Nat.reduceSub, BEq.rfl]
    refine cp_loopS [8, 18, 19, 20, 21, 22, 86, 87, 88, 89, 90, 91, 92, 93, 94, 95, 96, 97, 98, 99, 100, 101, 102, 103, 104, 105, 106, 107] (fun j : Nat => m - j) (fun j => j ≤ m) (fun j => [(18, I j)])
      (fun j => [(3, ⟨1, .c tEn [B true, bs none root, I 0, I (boot + 1), .hd 4 (j + 1), .hd 5 (j + 1)]⟩), (4, ⟨j + 1, .m (keyN (sL j)) (rowN (sL j)) none none⟩), (5, ⟨j + 1, .m [] [] none none⟩),
        (6, ⟨1, .c tEn [B true, bs none root, I 9, I 0, .hd 7 (k + 1 + j), .hd 8 (k + 1 + j)]⟩), (7, ⟨k + 1 + j, .m [] [] none none⟩), (8, ⟨k + 1 + j, .m (keyW (wL (wnB boot (k + 1) j))) (rowW (wL (wnB boot (k + 1) j))) none none⟩), (9, ⟨k + j, .x⟩)]) 0 (Nat.zero_le _) (by exact Gh.W) ?_
    intro j hj
    simp only [setT, deT, setB, List.set_cons_succ, List.set_cons_zero]
    by_cases hlt : j < m
    · have q1 : decide ((j : Int) < (m : Int)) = true := by simp; omega
      have q2 : IntKind.i64.wrap ((j : Int) + 1) = ((j + 1 : Nat) : Int) := wrap_i64 (by omega) (by omega)
      have hs := osend_ac root (boot + 1) j hr (by omega) (by omega)
      have hg := oget_ac root (wnB boot (k + 1) j) (boot + 1) (j + 1) hr (by omega) (by omega) (by omega) (by omega) (wB_ok h (by omega) (by omega)) (wB_tk h (k + 1) j)
      have hwn : some ((wOf (wnB boot (k + 1) j)).after (boot + 1) ((j + 1 : Nat) : Int)) = wnB boot (k + 1) (j + 1) := rfl
      rw [hwn] at hg
      unfold oldE at hs
      unfold toE at hg
      clear hz
      repeat' (first
        | ((first
          | ((with_reducible apply AP.k_any); first | refine AP.ST ?_ | (refine AP.Y ?_; dsimp only) | refine AP.G (fun hg => ?_) (fun hg => ?_) | (refine AP.V (fun c hnil => ?_); simp only [nz]) | ((with_reducible apply AP.k_any); refine AP.B 0 (hs) ?_) | ((with_reducible apply AP.k_any); refine AP.B 0 (hg) ?_) | refine AP.PF ?_)
          ) <;> (try simp only [q1, q2, nx, mx, rn, fq, Nat.mul_one, Bool.and_true, Bool.and_false, Nat.reduceBEq, Nat.reduceAdd, Nat.reduceSub, BEq.rfl]))
        | ((with_reducible apply AP.k_nil); first | (refine AP.nil (hQ' _ ?_); clear hQ' Q') | refine AP.nil ?_)
        | ((with_reducible apply CP.k_reg); refine cp_regG fun Q' hQ' => ?_)
          | (with_reducible apply CP.k_reg1; refine cp_region ?_)
          | ((with_reducible apply CP.k_cond); first | refine cp_condT rfl ?_ | refine cp_condF rfl ?_ | refine cp_cond rfl (fun hc => ?_) (fun hc => ?_))
          | refine CP.go ?_
          | (simp only [List.append_eq, List.cons_append, List.nil_append]))
      exact ⟨j + 1, by omega, by omega, by exact Gh.W⟩
    · obtain rfl : j = m := by omega
      have q1 : decide ((j : Int) < (j : Int)) = false := by simp
      unfold toE at hz
      repeat' (first
        | ((first
          | ((with_reducible apply AP.k_any); first | refine AP.ST ?_ | (refine AP.Y ?_; dsimp only) | refine AP.G (fun hg => ?_) (fun hg => ?_) | (refine AP.V (fun c hnil => ?_); simp only [nz]) | ((with_reducible apply AP.k_any); refine AP.B 0 (hz) ?_) | refine AP.PF ?_)
          ) <;> (try simp only [q1, nx, mx, rn, fq, Nat.mul_one, Bool.and_true, Bool.and_false, Nat.reduceBEq, Nat.reduceAdd, Nat.reduceSub, BEq.rfl]))
        | ((with_reducible apply AP.k_nil); first | (refine AP.nil (hQ' _ ?_); clear hQ' Q') | refine AP.nil ?_)
        | ((with_reducible apply CP.k_reg); refine cp_regG fun Q' hQ' => ?_)
          | (with_reducible apply CP.k_reg1; refine cp_region ?_)
          | ((with_reducible apply CP.k_cond); first | refine cp_condT rfl ?_ | refine cp_condF rfl ?_ | refine cp_cond rfl (fun hc => ?_) (fun hc => ?_))
          | refine CP.go ?_
          | (simp only [List.append_eq, List.cons_append, List.nil_append]))
      (exact RetQ.A [] (by exact ⟨rfl, rfl⟩))
theorem lboots_bad (root : List UInt8) (n m boot : Int) (hb : decide ((100 : Int) < (root.length : Int)) = true ∨ decide (n < 1) = true ∨ decide ((20 : Int) < n) = true ∨ decide (m < 1) = true ∨ decide ((20 : Int) < m) = true ∨ decide (boot < 0) = true ∨ decide ((1099511627776 : Int) < boot) = true) :
    AC Try.prog 7 [bs none root, I n, I m, I boot] [] (fun v bs' => v = B true ∧ bs' = []) := by
  have h0 := awake_ac
  cases d1 : decide ((100 : Int) < (root.length : Int)) with
  | true =>
    clear hb
    refine AC.N Try.func7 Try.ntmps7 ?_
    intro X hρ hmks
    simp only [nx, Nat.reduceAdd, Nat.reduceSub, BEq.rfl]
    repeat' (first
      | ((first
        | ((with_reducible apply AP.k_any); first | refine AP.ST ?_ | (refine AP.Y ?_; dsimp only) | refine AP.G (fun hg => ?_) (fun hg => ?_) | (refine AP.V (fun c hnil => ?_); simp only [nz])  | refine AP.PF ?_)
        ) <;> (try simp only [d1, nx, mx, rn, fq, Nat.mul_one, Bool.and_true, Bool.and_false, Nat.reduceBEq, Nat.reduceAdd, Nat.reduceSub, BEq.rfl]))
      | ((with_reducible apply AP.k_nil); first | (refine AP.nil (hQ' _ ?_); clear hQ' Q') | refine AP.nil ?_)
      | ((with_reducible apply CP.k_reg); refine cp_regG fun Q' hQ' => ?_)
        | (with_reducible apply CP.k_reg1; refine cp_region ?_)
        | ((with_reducible apply CP.k_cond); first | refine cp_condT rfl ?_ | refine cp_condF rfl ?_ | refine cp_cond rfl (fun hc => ?_) (fun hc => ?_))
        | refine CP.go ?_
        | (simp only [List.append_eq, List.cons_append, List.nil_append]))
    (exact RetQ.A [] (by exact ⟨rfl, rfl⟩))
  | false =>
  cases d2 : decide (n < 1) with
  | true =>
    clear hb
    refine AC.N Try.func7 Try.ntmps7 ?_
    intro X hρ hmks
    simp only [nx, Nat.reduceAdd, Nat.reduceSub, BEq.rfl]
    repeat' (first
      | ((first
        | ((with_reducible apply AP.k_any); first | refine AP.ST ?_ | (refine AP.Y ?_; dsimp only) | refine AP.G (fun hg => ?_) (fun hg => ?_) | (refine AP.V (fun c hnil => ?_); simp only [nz])  | refine AP.PF ?_)
        ) <;> (try simp only [d1, d2, nx, mx, rn, fq, Nat.mul_one, Bool.and_true, Bool.and_false, Nat.reduceBEq, Nat.reduceAdd, Nat.reduceSub, BEq.rfl]))
      | ((with_reducible apply AP.k_nil); first | (refine AP.nil (hQ' _ ?_); clear hQ' Q') | refine AP.nil ?_)
      | ((with_reducible apply CP.k_reg); refine cp_regG fun Q' hQ' => ?_)
        | (with_reducible apply CP.k_reg1; refine cp_region ?_)
        | ((with_reducible apply CP.k_cond); first | refine cp_condT rfl ?_ | refine cp_condF rfl ?_ | refine cp_cond rfl (fun hc => ?_) (fun hc => ?_))
        | refine CP.go ?_
        | (simp only [List.append_eq, List.cons_append, List.nil_append]))
    (exact RetQ.A [] (by exact ⟨rfl, rfl⟩))
  | false =>
  cases d3 : decide ((20 : Int) < n) with
  | true =>
    clear hb
    refine AC.N Try.func7 Try.ntmps7 ?_
    intro X hρ hmks
    simp only [nx, Nat.reduceAdd, Nat.reduceSub, BEq.rfl]
    repeat' (first
      | ((first
        | ((with_reducible apply AP.k_any); first | refine AP.ST ?_ | (refine AP.Y ?_; dsimp only) | refine AP.G (fun hg => ?_) (fun hg => ?_) | (refine AP.V (fun c hnil => ?_); simp only [nz])  | refine AP.PF ?_)
        ) <;> (try simp only [d1, d2, d3, nx, mx, rn, fq, Nat.mul_one, Bool.and_true, Bool.and_false, Nat.reduceBEq, Nat.reduceAdd, Nat.reduceSub, BEq.rfl]))
      | ((with_reducible apply AP.k_nil); first | (refine AP.nil (hQ' _ ?_); clear hQ' Q') | refine AP.nil ?_)
      | ((with_reducible apply CP.k_reg); refine cp_regG fun Q' hQ' => ?_)
        | (with_reducible apply CP.k_reg1; refine cp_region ?_)
        | ((with_reducible apply CP.k_cond); first | refine cp_condT rfl ?_ | refine cp_condF rfl ?_ | refine cp_cond rfl (fun hc => ?_) (fun hc => ?_))
        | refine CP.go ?_
        | (simp only [List.append_eq, List.cons_append, List.nil_append]))
    (exact RetQ.A [] (by exact ⟨rfl, rfl⟩))
  | false =>
  cases d4 : decide (m < 1) with
  | true =>
    clear hb
    refine AC.N Try.func7 Try.ntmps7 ?_
    intro X hρ hmks
    simp only [nx, Nat.reduceAdd, Nat.reduceSub, BEq.rfl]
    repeat' (first
      | ((first
        | ((with_reducible apply AP.k_any); first | refine AP.ST ?_ | (refine AP.Y ?_; dsimp only) | refine AP.G (fun hg => ?_) (fun hg => ?_) | (refine AP.V (fun c hnil => ?_); simp only [nz])  | refine AP.PF ?_)
        ) <;> (try simp only [d1, d2, d3, d4, nx, mx, rn, fq, Nat.mul_one, Bool.and_true, Bool.and_false, Nat.reduceBEq, Nat.reduceAdd, Nat.reduceSub, BEq.rfl]))
      | ((with_reducible apply AP.k_nil); first | (refine AP.nil (hQ' _ ?_); clear hQ' Q') | refine AP.nil ?_)
      | ((with_reducible apply CP.k_reg); refine cp_regG fun Q' hQ' => ?_)
        | (with_reducible apply CP.k_reg1; refine cp_region ?_)
        | ((with_reducible apply CP.k_cond); first | refine cp_condT rfl ?_ | refine cp_condF rfl ?_ | refine cp_cond rfl (fun hc => ?_) (fun hc => ?_))
        | refine CP.go ?_
        | (simp only [List.append_eq, List.cons_append, List.nil_append]))
    (exact RetQ.A [] (by exact ⟨rfl, rfl⟩))
  | false =>
  cases d5 : decide ((20 : Int) < m) with
  | true =>
    clear hb
    refine AC.N Try.func7 Try.ntmps7 ?_
    intro X hρ hmks
    simp only [nx, Nat.reduceAdd, Nat.reduceSub, BEq.rfl]
    repeat' (first
      | ((first
        | ((with_reducible apply AP.k_any); first | refine AP.ST ?_ | (refine AP.Y ?_; dsimp only) | refine AP.G (fun hg => ?_) (fun hg => ?_) | (refine AP.V (fun c hnil => ?_); simp only [nz])  | refine AP.PF ?_)
        ) <;> (try simp only [d1, d2, d3, d4, d5, nx, mx, rn, fq, Nat.mul_one, Bool.and_true, Bool.and_false, Nat.reduceBEq, Nat.reduceAdd, Nat.reduceSub, BEq.rfl]))
      | ((with_reducible apply AP.k_nil); first | (refine AP.nil (hQ' _ ?_); clear hQ' Q') | refine AP.nil ?_)
      | ((with_reducible apply CP.k_reg); refine cp_regG fun Q' hQ' => ?_)
        | (with_reducible apply CP.k_reg1; refine cp_region ?_)
        | ((with_reducible apply CP.k_cond); first | refine cp_condT rfl ?_ | refine cp_condF rfl ?_ | refine cp_cond rfl (fun hc => ?_) (fun hc => ?_))
        | refine CP.go ?_
        | (simp only [List.append_eq, List.cons_append, List.nil_append]))
    (exact RetQ.A [] (by exact ⟨rfl, rfl⟩))
  | false =>
  cases d6 : decide (boot < 0) with
  | true =>
    clear hb
    refine AC.N Try.func7 Try.ntmps7 ?_
    intro X hρ hmks
    simp only [nx, Nat.reduceAdd, Nat.reduceSub, BEq.rfl]
    repeat' (first
      | ((first
        | ((with_reducible apply AP.k_any); first | refine AP.ST ?_ | (refine AP.Y ?_; dsimp only) | refine AP.G (fun hg => ?_) (fun hg => ?_) | (refine AP.V (fun c hnil => ?_); simp only [nz])  | refine AP.PF ?_)
        ) <;> (try simp only [d1, d2, d3, d4, d5, d6, nx, mx, rn, fq, Nat.mul_one, Bool.and_true, Bool.and_false, Nat.reduceBEq, Nat.reduceAdd, Nat.reduceSub, BEq.rfl]))
      | ((with_reducible apply AP.k_nil); first | (refine AP.nil (hQ' _ ?_); clear hQ' Q') | refine AP.nil ?_)
      | ((with_reducible apply CP.k_reg); refine cp_regG fun Q' hQ' => ?_)
        | (with_reducible apply CP.k_reg1; refine cp_region ?_)
        | ((with_reducible apply CP.k_cond); first | refine cp_condT rfl ?_ | refine cp_condF rfl ?_ | refine cp_cond rfl (fun hc => ?_) (fun hc => ?_))
        | refine CP.go ?_
        | (simp only [List.append_eq, List.cons_append, List.nil_append]))
    (exact RetQ.A [] (by exact ⟨rfl, rfl⟩))
  | false =>
  cases d7 : decide ((1099511627776 : Int) < boot) with
  | true =>
    clear hb
    refine AC.N Try.func7 Try.ntmps7 ?_
    intro X hρ hmks
    simp only [nx, Nat.reduceAdd, Nat.reduceSub, BEq.rfl]
    repeat' (first
      | ((first
        | ((with_reducible apply AP.k_any); first | refine AP.ST ?_ | (refine AP.Y ?_; dsimp only) | refine AP.G (fun hg => ?_) (fun hg => ?_) | (refine AP.V (fun c hnil => ?_); simp only [nz])  | refine AP.PF ?_)
        ) <;> (try simp only [d1, d2, d3, d4, d5, d6, d7, nx, mx, rn, fq, Nat.mul_one, Bool.and_true, Bool.and_false, Nat.reduceBEq, Nat.reduceAdd, Nat.reduceSub, BEq.rfl]))
      | ((with_reducible apply AP.k_nil); first | (refine AP.nil (hQ' _ ?_); clear hQ' Q') | refine AP.nil ?_)
      | ((with_reducible apply CP.k_reg); refine cp_regG fun Q' hQ' => ?_)
        | (with_reducible apply CP.k_reg1; refine cp_region ?_)
        | ((with_reducible apply CP.k_cond); first | refine cp_condT rfl ?_ | refine cp_condF rfl ?_ | refine cp_cond rfl (fun hc => ?_) (fun hc => ?_))
        | refine CP.go ?_
        | (simp only [List.append_eq, List.cons_append, List.nil_append]))
    (exact RetQ.A [] (by exact ⟨rfl, rfl⟩))
  | false =>
  exfalso
  rw [d1, d2, d3, d4, d5, d6, d7] at hb
  simp at hb
theorem lbts (root : List UInt8) (n m boot : Int) : AC Try.prog 7 [bs none root, I n, I m, I boot] [] (fun v bs' => v = B true ∧ bs' = []) := by
  by_cases hb : decide ((100 : Int) < (root.length : Int)) = true ∨ decide (n < 1) = true ∨ decide ((20 : Int) < n) = true ∨ decide (m < 1) = true ∨ decide ((20 : Int) < m) = true ∨ decide (boot < 0) = true ∨ decide ((1099511627776 : Int) < boot) = true
  · exact lboots_bad root n m boot hb
  · simp only [decide_eq_true_eq, not_or] at hb
    obtain ⟨k, rfl⟩ : ∃ k : Nat, n = (k : Int) := ⟨n.toNat, by omega⟩
    obtain ⟨l, rfl⟩ : ∃ l : Nat, m = (l : Int) := ⟨m.toNat, by omega⟩
    exact lboots root k l boot (by omega) (by omega) (by omega) (by omega) (by omega) (by omega) (by omega)
end Go.Proofs.Ytnjfchigdpifmaa
