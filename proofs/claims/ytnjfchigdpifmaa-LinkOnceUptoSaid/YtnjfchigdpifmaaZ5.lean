/-
  Texts joined: Q3, Q4, Q5, Q6, Q7, Q8, Q9, R2, Ci, R3, R5, R7, R8, Okd, R9.
-/
import Derived.Test.YtnjfchigdpifmaaZ1
import Derived.Test.YtnjfchigdpifmaaZ2
import Derived.Test.YtnjfchigdpifmaaZ3
import Derived.Test.YtnjfchigdpifmaaZ4
namespace Go.Proofs.Ytnjfchigdpifmaa
set_option linter.unusedVariables false
set_option linter.unusedSimpArgs false
set_option maxHeartbeats 8000000
open Go.RowKit
set_option maxRecDepth 100000
abbrev v64 (c : Nat → Bool) : List Value := [.bool (c 0), .bool (c 1), .bool (c 2), .bool (c 3), .bool (c 4), .bool (c 5), .bool (c 6), .bool (c 7), .bool (c 8), .bool (c 9), .bool (c 10), .bool (c 11), .bool (c 12), .bool (c 13), .bool (c 14), .bool (c 15), .bool (c 16), .bool (c 17), .bool (c 18), .bool (c 19), .bool (c 20), .bool (c 21), .bool (c 22), .bool (c 23), .bool (c 24), .bool (c 25), .bool (c 26), .bool (c 27), .bool (c 28), .bool (c 29), .bool (c 30), .bool (c 31), .bool (c 32), .bool (c 33), .bool (c 34), .bool (c 35), .bool (c 36), .bool (c 37), .bool (c 38), .bool (c 39), .bool (c 40), .bool (c 41), .bool (c 42), .bool (c 43), .bool (c 44), .bool (c 45), .bool (c 46), .bool (c 47), .bool (c 48), .bool (c 49), .bool (c 50), .bool (c 51), .bool (c 52), .bool (c 53), .bool (c 54), .bool (c 55), .bool (c 56), .bool (c 57), .bool (c 58), .bool (c 59), .bool (c 60), .bool (c 61), .bool (c 62), .bool (c 63)]
abbrev wV (w : Wn) : List Value := .bool true :: .int .i64 w.boot :: .int .i64 w.top :: v64 w.came
theorem v64_eq (c : Nat → Bool) : v64 c = (List.range 64).map fun j => .bool (c j) := rfl
theorem eqVs_bools (c d : Nat → Bool) : ∀ l : List Nat, eqVs (l.map fun j => .bool (c j)) (l.map fun j => .bool (d j)) = l.all fun j => c j == d j
  | [] => rfl
  | j :: l => by simp [eqVs, eqV1, eqVs_bools c d l]
theorem wV_eq (x w : Wn) : eqVs (wV x) (wV w) = (x.boot == w.boot && (x.top == w.top && (List.range 64).all fun j => x.came j == w.came j)) := by
  show (eqV1 (.bool true) (.bool true) && (eqV1 (.int .i64 x.boot) (.int .i64 w.boot) && (eqV1 (.int .i64 x.top) (.int .i64 w.top) && eqVs (v64 x.came) (v64 w.came)))) = _
  rw [v64_eq, v64_eq, eqVs_bools]; rfl
theorem wV_refl (w : Wn) : eqVs (wV w) (wV w) = true := by rw [wV_eq]; simp
def Wn.taken (w : Wn) (boot n : Int) : Bool := !(decide (boot < w.boot)) && !((w.base boot).old n)
theorem Wn.go_ne {x : Wn} {n : Int} (h1 : 1 ≤ n) (ht : 0 ≤ x.top) (h : x.old n = false) : (x.go n).top ≠ x.top ∨ ((x.go n).came (res64 n) = true ∧ x.came (res64 n) = false) := by
  unfold Wn.go
  have hm : ∀ y : Wn, (y.mark n).came (res64 n) = true := fun y => by simp [Wn.mark, upd]
  by_cases hl : n ≤ x.top
  · refine .inr ⟨hm _, ?_⟩
    unfold Wn.old at h
    simp only [Bool.or_eq_false_iff, Bool.and_eq_false_iff, decide_eq_false_iff_not] at h
    exact h.2.resolve_left (by omega)
  · refine .inl ?_
    show ((x.far n).ups _).top ≠ x.top
    rw [Wn.ups_top]
    unfold Wn.far
    split
    · dsimp only; omega
    · omega
theorem Wn.taken_ne {w : Wn} {boot n : Int} (h1 : 1 ≤ n) (ht : w.ok) (h : w.taken boot n = true) : eqVs (wV (w.after boot n)) (wV w) = false := by
  simp only [Wn.taken, Bool.and_eq_true, Bool.not_eq_true', decide_eq_false_iff_not] at h
  have e : w.after boot n = (w.base boot).go n := by
    unfold Wn.after
    rw [if_neg (by omega), if_neg (by rw [h.2]; simp)]
  rw [e, wV_eq]
  unfold Wn.base at *
  by_cases hb : w.boot < boot
  · rw [if_pos hb] at *
    have : ((⟨boot, 0, fun _ => false⟩ : Wn).go n).boot = boot := by
      show (Wn.ups _ _).boot = boot
      rw [Wn.ups_boot]
      unfold Wn.far
      split <;> rfl
    rw [this]
    simp; omega
  · rw [if_neg hb] at *
    rcases Wn.go_ne h1 ht.1 h.2 with h3 | ⟨h3, h4⟩
    · simp [h3]
    · have : ((List.range 64).all fun j => (w.go n).came j == w.came j) = false := by
        rw [Bool.eq_false_iff]
        intro hall
        have := List.all_eq_true.1 hall (res64 n) (List.mem_range.2 (res64_lt n))
        rw [h3, h4] at this; cases this
      rw [this]; simp
theorem Wn.not_taken {w : Wn} {boot n : Int} (h : w.taken boot n = false) : w.after boot n = w := by
  unfold Wn.after
  split
  · rfl
  · rename_i h1
    simp only [Wn.taken, Bool.and_eq_false_iff, Bool.not_eq_false', decide_eq_true_eq] at h
    rw [if_pos (h.resolve_left (by omega))]
def Wn.take (w : Wn) (boot n : Int) : Int × Wn := if boot < 0 ∨ n < 1 then (2, w) else if w.taken boot n = true then (0, w.after boot n) else (180, w)
theorem take18_ac (w : Wn) (boot n : Int) (hn : n ≤ 9223372036854775807) (ht : w.ok) : AC Try.prog 53 [.bp 0 0 0, I boot, I n] [wnX w] (fun v bs' => v = I (w.take boot n).1 ∧ bs' = [wnX (w.take boot n).2]) := by
  have h1 := wnone18_ac w
  have h2 := after_ac w boot n hn ht
  by_cases hb : boot < 0
  · have e : w.take boot n = (2, w) := if_pos (.inl hb)
    rw [e]
    have d1 : decide (boot < 0) = true := by simp; omega
    refine AC.N Try.func53 Try.ntmps53 ?_
    intro X hρ hmks
    simp only [nx, Nat.reduceAdd, Nat.reduceSub, BEq.rfl]
    repeat' (first
      | ((first
        | ((with_reducible apply AP.k_any); first | refine AP.ST ?_ | (refine AP.Y ?_; dsimp only) | refine AP.G (fun hg => ?_) (fun hg => ?_) | (refine AP.V (fun c hnil => ?_); simp only [nz])  | refine AP.PF ?_)
          | ((with_reducible apply DW.k_any); first | refine DW.ST ?_ | ((fail_if_success refine DW.known rfl ?_); refine DW.G (fun hg => ?_) (fun hg => ?_)))
          | ((with_reducible apply DW.k_any); first
                      | refine DW.R ?_ | refine DW.R' ?_ | refine DW.W ?_ | refine DW.W' ?_
                      | (refine DW.known rfl ?_; (with_reducible first | apply DW.sx 2 | apply DW.sxN 2); (iterate 2 (focus (simp only [ft, nm, Nat.reduceAdd, Nat.reduceBEq, List.getElem?_cons_zero, List.getElem?_cons_succ]; exact rfl))); (focus (intro X V; simp only [ft, nm, Nat.reduceAdd, Nat.reduceBEq]; (try (refine AP.Y ?_; dsimp only)); (first  | fail); (try simp only [nx, Nat.reduceAdd, Nat.reduceSub, BEq.rfl]); refine AP.nil ?_; (first | refine ⟨trivial, rfl, ?_⟩ | refine ⟨rfl, rfl, ?_⟩); (repeat' (first | exact Mg.nil | apply Mg.keep rfl | apply Mg.take rfl)); done)); (focus (refine Exists.intro (fun _ => 0) ?_; apply Exists.intro; (repeat' (first | exact Mg.nil | apply Mg.keep rfl | apply Mg.take rfl)); done)); (iterate 2 (focus (exact rfl))))
                      | ((fail_if_success refine DW.known rfl ?_); refine DW.G (fun hg => ?_) (fun hg => ?_))
          )
        ) <;> (try simp only [d1, nx, mx, rn, fq, Nat.mul_one, Bool.and_true, Bool.and_false, Nat.reduceBEq, Nat.reduceAdd, Nat.reduceSub, BEq.rfl]))
      | ((with_reducible apply AP.k_nil); first | (refine AP.nil (hQ' _ ?_); clear hQ' Q') | refine AP.nil ?_)
      | ((with_reducible apply CP.k_drw); refine cp_drwX fun Q' hQ' => ?_)
      | ((with_reducible apply CP.k_drw1); refine cp_drawX ?_)
      | ((with_reducible apply DW.k_nil); refine DW.nl ?_; first | (refine hQ' _ ?_; clear hQ' Q') | skip)
      | ((with_reducible apply CP.k_reg); refine cp_regG fun Q' hQ' => ?_)
        | (with_reducible apply CP.k_reg1; refine cp_region ?_)
        | ((with_reducible apply CP.k_cond); first | refine cp_condT rfl ?_ | refine cp_condF rfl ?_ | refine cp_cond rfl (fun hc => ?_) (fun hc => ?_))
        | refine CP.go ?_
        | (simp only [List.append_eq, List.cons_append, List.nil_append]))
    (exact RetQ.A [(0, 0)] (by exact ⟨rfl, rfl⟩))
  · have d1 : decide (boot < 0) = false := by simp; omega
    by_cases hn1 : n < 1
    · have e : w.take boot n = (2, w) := if_pos (.inr hn1)
      rw [e]
      have d2 : decide (n < 1) = true := by simp; omega
      refine AC.N Try.func53 Try.ntmps53 ?_
      intro X hρ hmks
      simp only [nx, Nat.reduceAdd, Nat.reduceSub, BEq.rfl]
      repeat' (first
        | ((first
          | ((with_reducible apply AP.k_any); first | refine AP.ST ?_ | (refine AP.Y ?_; dsimp only) | refine AP.G (fun hg => ?_) (fun hg => ?_) | (refine AP.V (fun c hnil => ?_); simp only [nz])  | refine AP.PF ?_)
            | ((with_reducible apply DW.k_any); first | refine DW.ST ?_ | ((fail_if_success refine DW.known rfl ?_); refine DW.G (fun hg => ?_) (fun hg => ?_)))
            | ((with_reducible apply DW.k_any); first
                        | refine DW.R ?_ | refine DW.R' ?_ | refine DW.W ?_ | refine DW.W' ?_
                        | (refine DW.known rfl ?_; (with_reducible first | apply DW.sx 2 | apply DW.sxN 2); (iterate 2 (focus (simp only [ft, nm, Nat.reduceAdd, Nat.reduceBEq, List.getElem?_cons_zero, List.getElem?_cons_succ]; exact rfl))); (focus (intro X V; simp only [ft, nm, Nat.reduceAdd, Nat.reduceBEq]; (try (refine AP.Y ?_; dsimp only)); (first  | fail); (try simp only [nx, Nat.reduceAdd, Nat.reduceSub, BEq.rfl]); refine AP.nil ?_; (first | refine ⟨trivial, rfl, ?_⟩ | refine ⟨rfl, rfl, ?_⟩); (repeat' (first | exact Mg.nil | apply Mg.keep rfl | apply Mg.take rfl)); done)); (focus (refine Exists.intro (fun _ => 0) ?_; apply Exists.intro; (repeat' (first | exact Mg.nil | apply Mg.keep rfl | apply Mg.take rfl)); done)); (iterate 2 (focus (exact rfl))))
                        | ((fail_if_success refine DW.known rfl ?_); refine DW.G (fun hg => ?_) (fun hg => ?_))
            )
          ) <;> (try simp only [d1, d2, nx, mx, rn, fq, Nat.mul_one, Bool.and_true, Bool.and_false, Nat.reduceBEq, Nat.reduceAdd, Nat.reduceSub, BEq.rfl]))
        | ((with_reducible apply AP.k_nil); first | (refine AP.nil (hQ' _ ?_); clear hQ' Q') | refine AP.nil ?_)
        | ((with_reducible apply CP.k_drw); refine cp_drwX fun Q' hQ' => ?_)
        | ((with_reducible apply CP.k_drw1); refine cp_drawX ?_)
        | ((with_reducible apply DW.k_nil); refine DW.nl ?_; first | (refine hQ' _ ?_; clear hQ' Q') | skip)
        | ((with_reducible apply CP.k_reg); refine cp_regG fun Q' hQ' => ?_)
          | (with_reducible apply CP.k_reg1; refine cp_region ?_)
          | ((with_reducible apply CP.k_cond); first | refine cp_condT rfl ?_ | refine cp_condF rfl ?_ | refine cp_cond rfl (fun hc => ?_) (fun hc => ?_))
          | refine CP.go ?_
          | (simp only [List.append_eq, List.cons_append, List.nil_append]))
      (exact RetQ.A [(0, 0)] (by exact ⟨rfl, rfl⟩))
    · have d2 : decide (n < 1) = false := by simp; omega
      cases hk : w.taken boot n with
      | true =>
        have e : w.take boot n = (0, w.after boot n) := by unfold Wn.take; rw [if_neg (by omega), if_pos hk]
        rw [e]
        have hne := Wn.taken_ne (by omega) ht hk
        generalize w.after boot n = x at *
        refine AC.N Try.func53 Try.ntmps53 ?_
        intro X hρ hmks
        simp only [nx, Nat.reduceAdd, Nat.reduceSub, BEq.rfl]
        repeat' (first
          | ((first
            | ((with_reducible apply AP.k_any); first | refine AP.ST ?_ | (refine AP.Y ?_; dsimp only) | refine AP.G (fun hg => ?_) (fun hg => ?_) | (refine AP.V (fun c hnil => ?_); simp only [nz]) | refine AP.EQ ?_ | refine AP.PF ?_)
              | ((with_reducible apply DW.k_any); first | refine DW.ST ?_ | ((fail_if_success refine DW.known rfl ?_); refine DW.G (fun hg => ?_) (fun hg => ?_)))
              | ((with_reducible apply DW.k_any); first
                          | refine DW.R ?_ | refine DW.R' ?_ | refine DW.W ?_ | refine DW.W' ?_
                          | (refine DW.known rfl ?_; (with_reducible first | apply DW.sx 2 | apply DW.sxN 2); (iterate 2 (focus (simp only [ft, nm, Nat.reduceAdd, Nat.reduceBEq, List.getElem?_cons_zero, List.getElem?_cons_succ]; exact rfl))); (focus (intro X V; simp only [ft, nm, Nat.reduceAdd, Nat.reduceBEq]; (try (refine AP.Y ?_; dsimp only)); (first | refine AP.EQ ?_ | fail); (try simp only [nx, Nat.reduceAdd, Nat.reduceSub, BEq.rfl]); refine AP.nil ?_; (first | refine ⟨trivial, rfl, ?_⟩ | refine ⟨rfl, rfl, ?_⟩); (repeat' (first | exact Mg.nil | apply Mg.keep rfl | apply Mg.take rfl)); done)); (focus (refine Exists.intro (fun _ => 0) ?_; apply Exists.intro; (repeat' (first | exact Mg.nil | apply Mg.keep rfl | apply Mg.take rfl)); done)); (iterate 2 (focus (exact rfl))))
                          | ((fail_if_success refine DW.known rfl ?_); refine DW.G (fun hg => ?_) (fun hg => ?_))
              )
            ) <;> (try simp only [d1, d2, hne, nx, mx, rn, fq, Nat.mul_one, Bool.and_true, Bool.and_false, Nat.reduceBEq, Nat.reduceAdd, Nat.reduceSub, BEq.rfl]))
          | ((with_reducible apply AP.k_nil); first | (refine AP.nil (hQ' _ ?_); clear hQ' Q') | refine AP.nil ?_)
          | ((with_reducible apply CP.k_drw); refine cp_drwX fun Q' hQ' => ?_)
          | ((with_reducible apply CP.k_drw1); refine cp_drawX ?_)
          | ((with_reducible apply DW.k_nil); refine DW.nl ?_; first | (refine hQ' _ ?_; clear hQ' Q') | skip)
          | ((with_reducible apply CP.k_reg); refine cp_regG fun Q' hQ' => ?_)
            | (with_reducible apply CP.k_reg1; refine cp_region ?_)
            | ((with_reducible apply CP.k_cond); first | refine cp_condT rfl ?_ | refine cp_condF rfl ?_ | refine cp_cond rfl (fun hc => ?_) (fun hc => ?_))
            | refine CP.go ?_
            | (simp only [List.append_eq, List.cons_append, List.nil_append]))
        (exact RetQ.A [(0, 0)] (by exact ⟨rfl, rfl⟩))
      | false =>
        have e : w.take boot n = (180, w) := by unfold Wn.take; rw [if_neg (by omega), if_neg (by rw [hk]; simp)]
        rw [e]
        rw [Wn.not_taken hk] at h2
        have hne := wV_refl w
        refine AC.N Try.func53 Try.ntmps53 ?_
        intro X hρ hmks
        simp only [nx, Nat.reduceAdd, Nat.reduceSub, BEq.rfl]
        repeat' (first
          | ((first
            | ((with_reducible apply AP.k_any); first | refine AP.ST ?_ | (refine AP.Y ?_; dsimp only) | refine AP.G (fun hg => ?_) (fun hg => ?_) | (refine AP.V (fun c hnil => ?_); simp only [nz]) | refine AP.EQ ?_ | refine AP.PF ?_)
              | ((with_reducible apply DW.k_any); first | refine DW.ST ?_ | ((fail_if_success refine DW.known rfl ?_); refine DW.G (fun hg => ?_) (fun hg => ?_)))
              | ((with_reducible apply DW.k_any); first
                          | refine DW.R ?_ | refine DW.R' ?_ | refine DW.W ?_ | refine DW.W' ?_
                          | (refine DW.known rfl ?_; (with_reducible first | apply DW.sx 2 | apply DW.sxN 2); (iterate 2 (focus (simp only [ft, nm, Nat.reduceAdd, Nat.reduceBEq, List.getElem?_cons_zero, List.getElem?_cons_succ]; exact rfl))); (focus (intro X V; simp only [ft, nm, Nat.reduceAdd, Nat.reduceBEq]; (try (refine AP.Y ?_; dsimp only)); (first | refine AP.EQ ?_ | fail); (try simp only [nx, Nat.reduceAdd, Nat.reduceSub, BEq.rfl]); refine AP.nil ?_; (first | refine ⟨trivial, rfl, ?_⟩ | refine ⟨rfl, rfl, ?_⟩); (repeat' (first | exact Mg.nil | apply Mg.keep rfl | apply Mg.take rfl)); done)); (focus (refine Exists.intro (fun _ => 0) ?_; apply Exists.intro; (repeat' (first | exact Mg.nil | apply Mg.keep rfl | apply Mg.take rfl)); done)); (iterate 2 (focus (exact rfl))))
                          | ((fail_if_success refine DW.known rfl ?_); refine DW.G (fun hg => ?_) (fun hg => ?_))
              )
            ) <;> (try simp only [d1, d2, hne, nx, mx, rn, fq, Nat.mul_one, Bool.and_true, Bool.and_false, Nat.reduceBEq, Nat.reduceAdd, Nat.reduceSub, BEq.rfl]))
          | ((with_reducible apply AP.k_nil); first | (refine AP.nil (hQ' _ ?_); clear hQ' Q') | refine AP.nil ?_)
          | ((with_reducible apply CP.k_drw); refine cp_drwX fun Q' hQ' => ?_)
          | ((with_reducible apply CP.k_drw1); refine cp_drawX ?_)
          | ((with_reducible apply DW.k_nil); refine DW.nl ?_; first | (refine hQ' _ ?_; clear hQ' Q') | skip)
          | ((with_reducible apply CP.k_reg); refine cp_regG fun Q' hQ' => ?_)
            | (with_reducible apply CP.k_reg1; refine cp_region ?_)
            | ((with_reducible apply CP.k_cond); first | refine cp_condT rfl ?_ | refine cp_condF rfl ?_ | refine cp_cond rfl (fun hc => ?_) (fun hc => ?_))
            | refine CP.go ?_
            | (simp only [List.append_eq, List.cons_append, List.nil_append]))
        (exact RetQ.A [(0, 0)] (by exact ⟨rfl, rfl⟩))
end Go.Proofs.Ytnjfchigdpifmaa

namespace Go.Proofs.Ytnjfchigdpifmaa
set_option linter.unusedVariables false
set_option linter.unusedSimpArgs false
set_option maxHeartbeats 8000000
open Go.RowKit
set_option maxRecDepth 100000
abbrev Sd := Int × Int
abbrev kS (p : Sd) : Value := .agg #[.int .i64 p.1, .int .i64 p.2]
structure Ends where
  root : List UInt8
  who : Int
  boot : Int
  sent : List (Sd × Int)
  wins : List (Sd × Wn)
abbrev tEn : TypeId := 60
abbrev keyN (l : List (Sd × Int)) : List Value := l.map fun p => kS p.1
abbrev rowN (l : List (Sd × Int)) : List (List AV) := l.map fun p => [I p.2]
abbrev keyW (l : List (Sd × Wn)) : List Value := l.map fun p => kS p.1
abbrev rowW (l : List (Sd × Wn)) : List (List AV) := l.map fun p => [.ob tWn (wC p.2)]
abbrev enE (x : Ends) : List AV := [B true, bs none x.root, I x.who, I x.boot, .mo (keyN x.sent) (rowN x.sent), .mo (keyW x.wins) (rowW x.wins)]
abbrev xE (x : Ends) : Bx := .c tEn (enE x)
theorem lnew_ac (root : List UInt8) (who boot : Int) (hr : root.length ≤ 100000000) : AC Try.prog 22 [bs none root, I who, I boot] [] (fun v bs' => v = .bp 0 0 0 ∧ bs' = [xE ⟨root, who, boot, [], []⟩]) := by
  have h1 := sclone_ac root hr
  refine AC.N Try.func22 Try.ntmps22 ?_
  intro X hρ hmks
  simp only [nx, Nat.reduceAdd, Nat.reduceSub, BEq.rfl]
  refine CP.gh gh_slot ?_; simp only [nx, Nat.reduceAdd, Nat.reduceSub, BEq.rfl]
  refine CP.gh gh_slot ?_; simp only [nx, Nat.reduceAdd, Nat.reduceSub, BEq.rfl]
  refine CP.gh gh_slot ?_; simp only [nx, Nat.reduceAdd, Nat.reduceSub, BEq.rfl]
  refine CP.gh gh_slot ?_; simp only [nx, Nat.reduceAdd, Nat.reduceSub, BEq.rfl]
  repeat' (first
    | ((first
      | ((with_reducible apply AP.k_any); first | refine AP.ST ?_ | (refine AP.Y ?_; dsimp only) | refine AP.G (fun hg => ?_) (fun hg => ?_) | (refine AP.V (fun c hnil => ?_); simp only [nz])  | refine AP.PF ?_)
      ) <;> (try simp only [ nx, mx, rn, fq, Nat.mul_one, Bool.and_true, Bool.and_false, Nat.reduceBEq, Nat.reduceAdd, Nat.reduceSub, BEq.rfl]))
    | ((with_reducible apply AP.k_nil); first | (refine AP.nil (hQ' _ ?_); clear hQ' Q') | refine AP.nil ?_)
    | ((with_reducible apply CP.k_reg); refine cp_regG fun Q' hQ' => ?_)
      | (with_reducible apply CP.k_reg1; refine cp_region ?_)
      | ((with_reducible apply CP.k_cond); first | refine cp_condT rfl ?_ | refine cp_condF rfl ?_ | refine cp_cond rfl (fun hc => ?_) (fun hc => ?_))
      | refine CP.go ?_
      | (simp only [List.append_eq, List.cons_append, List.nil_append]))
  (exact RetQ.Fz [(3, 1)] (by exact ⟨rfl, rfl⟩))
theorem lnone_ac (x : Ends) : AC Try.prog 51 [.bp 0 0 0] [xE x] (fun v bs' => v = B false ∧ bs' = [xE x]) := by
  refine AC.N Try.func51 Try.ntmps51 ?_
  intro X hρ hmks
  simp only [nx, Nat.reduceAdd, Nat.reduceSub, BEq.rfl]
  repeat' (first
    | ((first
      | ((with_reducible apply AP.k_any); first | refine AP.ST ?_ | (refine AP.Y ?_; dsimp only) | refine AP.G (fun hg => ?_) (fun hg => ?_) | (refine AP.V (fun c hnil => ?_); simp only [nz])  | refine AP.PF ?_)
      ) <;> (try simp only [ nx, mx, rn, fq, Nat.mul_one, Bool.and_true, Bool.and_false, Nat.reduceBEq, Nat.reduceAdd, Nat.reduceSub, BEq.rfl]))
    | ((with_reducible apply AP.k_nil); first | (refine AP.nil (hQ' _ ?_); clear hQ' Q') | refine AP.nil ?_)
    | ((with_reducible apply CP.k_reg); refine cp_regG fun Q' hQ' => ?_)
      | (with_reducible apply CP.k_reg1; refine cp_region ?_)
      | ((with_reducible apply CP.k_cond); first | refine cp_condT rfl ?_ | refine cp_condF rfl ?_ | refine cp_cond rfl (fun hc => ?_) (fun hc => ?_))
      | refine CP.go ?_
      | (simp only [List.append_eq, List.cons_append, List.nil_append]))
  (exact RetQ.A [(0, 0)] (by exact ⟨rfl, rfl⟩))
end Go.Proofs.Ytnjfchigdpifmaa

namespace Go.Proofs.Ytnjfchigdpifmaa
set_option linter.unusedVariables false
set_option linter.unusedSimpArgs false
open Go.RowKit
set_option maxRecDepth 100000
abbrev tSd : TypeId := 82
theorem kin (l : List Value) (h : ∀ k ∈ l, ∃ p : Sd, k = kS p) : ∀ k ∈ l, isKey Try.prog tSd [.i .i64, .i .i64] k = true := fun k hk => by
  obtain ⟨p, rfl⟩ := h k hk
  have hA : aggT Try.prog tSd = true := by kernel_rfl
  unfold isKey
  rw [hA]; rfl
theorem kinS {α : Type} (l : List (Sd × α)) : ∀ k ∈ l.map (fun p => kS p.1), isKey Try.prog tSd [.i .i64, .i .i64] k = true := kin _ fun k hk => by
  obtain ⟨p, _, rfl⟩ := List.mem_map.1 hk
  exact ⟨_, rfl⟩
theorem kEq_kS (a b : Sd) : kEq (kS a) (kS b) = decide (a = b) := by
  obtain ⟨a1, a2⟩ := a
  obtain ⟨b1, b2⟩ := b
  simp only [kEq, eqVs, eqV1, Bool.and_true]
  rw [Bool.eq_iff_iff]; simp
/-- where a side stands -/
def at_ {α : Type} (s : Sd) : List (Sd × α) → Option Nat
  | [] => none
  | p :: l => if s = p.1 then some 0 else (at_ s l).map (· + 1)
theorem fnd_at_ {α : Type} (s : Sd) : ∀ l : List (Sd × α), fnd (kS s) (l.map fun p => kS p.1) = at_ s l
  | [] => rfl
  | p :: l => by
    simp only [List.map_cons, fnd, kEq_kS, at_, fnd_at_ s l]
    by_cases h : s = p.1
    · simp [h]
    · simp only [h, decide_false, if_false]
      cases at_ s l <;> rfl
theorem at_some {α : Type} {s : Sd} : ∀ {l : List (Sd × α)} {n : Nat}, at_ s l = some n → ∃ x, l[n]? = some (s, x)
  | [], _, h => by simp [at_] at h
  | p :: l, n, h => by
    unfold at_ at h
    split at h
    · rename_i hs; injection h with h; subst h; exact ⟨p.2, by simp [hs]⟩
    · obtain ⟨m, hm, rfl⟩ := Option.map_eq_some_iff.1 h
      obtain ⟨x, hx⟩ := at_some hm
      exact ⟨x, by simpa using hx⟩
/-- a side's, or what stands for none -/
def got {α : Type} (s : Sd) (l : List (Sd × α)) (d : α) : α := match at_ s l with
  | some n => match l[n]? with
    | some p => p.2
    | none => d
  | none => d
def puts {α : Type} (s : Sd) (l : List (Sd × α)) (v : α) : List (Sd × α) := match at_ s l with
  | some n => l.set n (s, v)
  | none => l ++ [(s, v)]
def Ends.pkt (x : Ends) (to epoch : Int) (body : List UInt8) : Pkt := ⟨x.who, to, epoch, x.boot, got (to, epoch) x.sent 0 + 1, body, List.replicate 32 0⟩
def Ends.sealed (x : Ends) (to epoch : Int) (body : List UInt8) : Pkt := { x.pkt to epoch body with tag := tagS x.root (x.pkt to epoch body) }
def Ends.bump (x : Ends) (to epoch : Int) : Ends := { x with sent := puts (to, epoch) x.sent (got (to, epoch) x.sent 0 + 1) }
theorem print_acO (p : Pkt) (hp : p.body.length ≤ 60000) (ht : p.tag.length = 32) : AC Try.prog 18 [.ag (ePO p)] [] (fun v bs' => v = .tu [if mayP p then bs none (headS p ++ p.tag) else bs none [], I (if mayP p then 0 else 2)] ∧ bs' = []) := by
  refine AC.own ?_
  have e : roC [.ag (ePO p)] = [.ag (eP p)] := by
    simp only [roC, AV.ro, ePO, eP, tagC, List.cons_append, List.nil_append, ro_B]
  rw [e]
  exact print_ac p hp ht
theorem tagC_z : tagC (List.replicate 32 0) = [.sc (.int .u8 0), .sc (.int .u8 0), .sc (.int .u8 0), .sc (.int .u8 0), .sc (.int .u8 0), .sc (.int .u8 0), .sc (.int .u8 0), .sc (.int .u8 0), .sc (.int .u8 0), .sc (.int .u8 0), .sc (.int .u8 0), .sc (.int .u8 0), .sc (.int .u8 0), .sc (.int .u8 0), .sc (.int .u8 0), .sc (.int .u8 0), .sc (.int .u8 0), .sc (.int .u8 0), .sc (.int .u8 0), .sc (.int .u8 0), .sc (.int .u8 0), .sc (.int .u8 0), .sc (.int .u8 0), .sc (.int .u8 0), .sc (.int .u8 0), .sc (.int .u8 0), .sc (.int .u8 0), .sc (.int .u8 0), .sc (.int .u8 0), .sc (.int .u8 0), .sc (.int .u8 0), .sc (.int .u8 0)] := by
  have h : ∀ i, i < 32 → (List.replicate 32 (0 : UInt8)).getD i 0 = 0 := fun i hi => by rw [List.getD_eq_getElem?_getD, List.getElem?_replicate, if_pos hi]; rfl
  have h0 : (((0 : UInt8).toNat : Nat) : Int) = 0 := rfl
  simp only [tagC, h _ (by decide : 0 < 32), h _ (by decide : 1 < 32), h _ (by decide : 2 < 32), h _ (by decide : 3 < 32), h _ (by decide : 4 < 32), h _ (by decide : 5 < 32), h _ (by decide : 6 < 32), h _ (by decide : 7 < 32), h _ (by decide : 8 < 32), h _ (by decide : 9 < 32), h _ (by decide : 10 < 32), h _ (by decide : 11 < 32), h _ (by decide : 12 < 32), h _ (by decide : 13 < 32), h _ (by decide : 14 < 32), h _ (by decide : 15 < 32), h _ (by decide : 16 < 32), h _ (by decide : 17 < 32), h _ (by decide : 18 < 32), h _ (by decide : 19 < 32), h _ (by decide : 20 < 32), h _ (by decide : 21 < 32), h _ (by decide : 22 < 32), h _ (by decide : 23 < 32), h _ (by decide : 24 < 32), h _ (by decide : 25 < 32), h _ (by decide : 26 < 32), h _ (by decide : 27 < 32), h _ (by decide : 28 < 32), h _ (by decide : 29 < 32), h _ (by decide : 30 < 32), h _ (by decide : 31 < 32), U, h0]
theorem eP_z (f t e b s : Int) (y : List UInt8) : eP ⟨f, t, e, b, s, y, List.replicate 32 0⟩ = [I f, I t, I e, I b, I s, bs none y, .sc (.int .u8 0), .sc (.int .u8 0), .sc (.int .u8 0), .sc (.int .u8 0), .sc (.int .u8 0), .sc (.int .u8 0), .sc (.int .u8 0), .sc (.int .u8 0), .sc (.int .u8 0), .sc (.int .u8 0), .sc (.int .u8 0), .sc (.int .u8 0), .sc (.int .u8 0), .sc (.int .u8 0), .sc (.int .u8 0), .sc (.int .u8 0), .sc (.int .u8 0), .sc (.int .u8 0), .sc (.int .u8 0), .sc (.int .u8 0), .sc (.int .u8 0), .sc (.int .u8 0), .sc (.int .u8 0), .sc (.int .u8 0), .sc (.int .u8 0), .sc (.int .u8 0), .sc (.int .u8 0), .sc (.int .u8 0), .sc (.int .u8 0), .sc (.int .u8 0), .sc (.int .u8 0), .sc (.int .u8 0)] := congrArg (fun l => I f :: I t :: I e :: I b :: I s :: bs none y :: l) tagC_z
theorem mayP_tag (p : Pkt) (t : List UInt8) : mayP { p with tag := t } = mayP p := rfl
theorem headS_tag (p : Pkt) (t : List UInt8) : headS { p with tag := t } = headS p := rfl
theorem puts_keys {α : Type} {s : Sd} {l : List (Sd × α)} {n : Nat} (h : at_ s l = some n) (v : α) : (l.set n (s, v)).map (fun p => kS p.1) = l.map fun p => kS p.1 := by
  obtain ⟨x, hx⟩ := at_some h
  apply List.ext_getElem?
  intro i
  rw [List.getElem?_map, List.getElem?_map, List.getElem?_set]
  split
  · rename_i hi; subst hi
    rw [hx, if_pos (List.getElem?_eq_some_iff.1 hx).1]; rfl
  · rfl
end Go.Proofs.Ytnjfchigdpifmaa

namespace Go.Proofs.Ytnjfchigdpifmaa
set_option linter.unusedVariables false
set_option linter.unusedSimpArgs false
set_option maxHeartbeats 8000000
open Go.RowKit
set_option maxRecDepth 100000
theorem send_no (x : Ends) (to epoch : Int) (body : List UInt8) (hr : x.root.length ≤ 10000) (hb : body.length ≤ 60000) (hn : 0 ≤ got (to, epoch) x.sent 0 ∧ got (to, epoch) x.sent 0 ≤ 1000000000) (hm : mayP (x.pkt to epoch body) = false) :
    AC Try.prog 23 [.bp 0 0 0, I to, I epoch, bs none body] [xE x] (fun v bs' => v = .tu [bs none [], I 2] ∧ bs' = [xE x]) := by
  have hm' : mayP (x.sealed to epoch body) = false := (mayP_tag _ _).trans hm
  have h1 := lnone_ac x
  have h2 := seal_ac x.root (x.pkt to epoch body) hr hb
  have h3 := print_acO (x.sealed to epoch body) hb (tagS_len _ _)
  have hk := kinS x.sent
  have hf := fnd_at_ (to, epoch) x.sent
  rw [hm'] at h3
  simp only [Bool.false_eq_true, if_false] at h3
  have hw : IntKind.i64.wrap (got (to, epoch) x.sent 0 + 1) = got (to, epoch) x.sent 0 + 1 := wrap_i64 (by omega) (by omega)
  unfold Ends.sealed at *
  generalize tagS x.root (x.pkt to epoch body) = T at *
  unfold Ends.pkt at *
  rw [eP_z] at h2
  cases ha : at_ (to, epoch) x.sent with
  | none =>
    have hg : got (to, epoch) x.sent 0 = 0 := by unfold got; rw [ha]
    rw [ha] at hf
    rw [hg] at hw h2 h3
    refine AC.N Try.func23 Try.ntmps23 ?_
    intro X hρ hmks
    simp only [nx, Nat.reduceAdd, Nat.reduceSub, BEq.rfl]
    refine CP.gh gh_slot ?_; simp only [nx, Nat.reduceAdd, Nat.reduceSub, BEq.rfl]
    refine CP.gh gh_slot ?_; simp only [nx, Nat.reduceAdd, Nat.reduceSub, BEq.rfl]
    refine CP.gh gh_slot ?_; simp only [nx, Nat.reduceAdd, Nat.reduceSub, BEq.rfl]
    repeat' (first
      | ((first
        | ((with_reducible apply AP.k_any); first | refine AP.ST ?_ | (refine AP.Y ?_; dsimp only) | refine AP.G (fun hg => ?_) (fun hg => ?_) | (refine AP.V (fun c hnil => ?_); simp only [nz])  | refine AP.PF ?_)
          | ((with_reducible apply DW.k_any); first | refine DW.ST ?_ | ((fail_if_success refine DW.known rfl ?_); refine DW.G (fun hg => ?_) (fun hg => ?_)))
          | ((with_reducible apply DW.k_any); first
                      | refine DW.R ?_ | refine DW.R' ?_ | refine DW.W ?_ | refine DW.W' ?_
                      | (refine DW.known rfl ?_; (with_reducible first | apply DW.sx 2 | apply DW.sxN 2); (iterate 2 (focus (simp only [ft, nm, Nat.reduceAdd, Nat.reduceBEq, List.getElem?_cons_zero, List.getElem?_cons_succ]; exact rfl))); (focus (intro X V; simp only [ft, nm, Nat.reduceAdd, Nat.reduceBEq]; (try (refine AP.Y ?_; dsimp only)); (first  | fail); (try simp only [nx, Nat.reduceAdd, Nat.reduceSub, BEq.rfl]); refine AP.nil ?_; (first | refine ⟨trivial, rfl, ?_⟩ | refine ⟨rfl, rfl, ?_⟩); (repeat' (first | exact Mg.nil | apply Mg.keep rfl | apply Mg.take rfl)); done)); (focus (refine Exists.intro (fun _ => 0) ?_; apply Exists.intro; (repeat' (first | exact Mg.nil | apply Mg.keep rfl | apply Mg.take rfl)); done)); (iterate 2 (focus (exact rfl))))
                      | ((fail_if_success refine DW.known rfl ?_); refine DW.G (fun hg => ?_) (fun hg => ?_))
          )
        ) <;> (try simp only [hw, nx, mx, rn, fq, Nat.mul_one, Bool.and_true, Bool.and_false, Nat.reduceBEq, Nat.reduceAdd, Nat.reduceSub, BEq.rfl]))
      | ((with_reducible apply AP.k_nil); first | (refine AP.nil (hQ' _ ?_); clear hQ' Q') | refine AP.nil ?_)
      | ((with_reducible apply CP.k_drw); refine cp_drwX fun Q' hQ' => ?_)
      | ((with_reducible apply CP.k_drw1); refine cp_drawX ?_)
      | ((with_reducible apply DW.k_nil); refine DW.nl ?_; first | (refine hQ' _ ?_; clear hQ' Q') | skip)
      | ((with_reducible apply CP.k_reg); refine cp_regG fun Q' hQ' => ?_)
        | (with_reducible apply CP.k_reg1; refine cp_region ?_)
        | ((with_reducible apply CP.k_cond); first | refine cp_condT rfl ?_ | refine cp_condF rfl ?_ | refine cp_cond rfl (fun hc => ?_) (fun hc => ?_))
        | refine CP.go ?_
        | (simp only [List.append_eq, List.cons_append, List.nil_append]))
    (exact RetQ.A [(0, 0)] (by exact ⟨rfl, rfl⟩))
  | some n =>
    obtain ⟨v, hv⟩ := at_some ha
    have hg : got (to, epoch) x.sent 0 = v := by unfold got; rw [ha]; dsimp only; rw [hv]
    have hro := rowAt_map (e := fun p : Sd × Int => [I p.2]) hv rfl
    rw [ha] at hf
    rw [hg] at hw h2 h3
    refine AC.N Try.func23 Try.ntmps23 ?_
    intro X hρ hmks
    simp only [nx, Nat.reduceAdd, Nat.reduceSub, BEq.rfl]
    refine CP.gh gh_slot ?_; simp only [nx, Nat.reduceAdd, Nat.reduceSub, BEq.rfl]
    refine CP.gh gh_slot ?_; simp only [nx, Nat.reduceAdd, Nat.reduceSub, BEq.rfl]
    refine CP.gh gh_slot ?_; simp only [nx, Nat.reduceAdd, Nat.reduceSub, BEq.rfl]
    repeat' (first
      | ((first
        | ((with_reducible apply AP.k_any); first | refine AP.ST ?_ | (refine AP.Y ?_; dsimp only) | refine AP.G (fun hg => ?_) (fun hg => ?_) | (refine AP.V (fun c hnil => ?_); simp only [nz])  | refine AP.PF ?_)
          | ((with_reducible apply DW.k_any); first | refine DW.ST ?_ | ((fail_if_success refine DW.known rfl ?_); refine DW.G (fun hg => ?_) (fun hg => ?_)))
          | ((with_reducible apply DW.k_any); first
                      | refine DW.R ?_ | refine DW.R' ?_ | refine DW.W ?_ | refine DW.W' ?_
                      | (refine DW.known rfl ?_; (with_reducible first | apply DW.sx 2 | apply DW.sxN 2); (iterate 2 (focus (simp only [ft, nm, Nat.reduceAdd, Nat.reduceBEq, List.getElem?_cons_zero, List.getElem?_cons_succ]; exact rfl))); (focus (intro X V; simp only [ft, nm, Nat.reduceAdd, Nat.reduceBEq]; (try (refine AP.Y ?_; dsimp only)); (first  | fail); (try simp only [nx, Nat.reduceAdd, Nat.reduceSub, BEq.rfl]); refine AP.nil ?_; (first | refine ⟨trivial, rfl, ?_⟩ | refine ⟨rfl, rfl, ?_⟩); (repeat' (first | exact Mg.nil | apply Mg.keep rfl | apply Mg.take rfl)); done)); (focus (refine Exists.intro (fun _ => 0) ?_; apply Exists.intro; (repeat' (first | exact Mg.nil | apply Mg.keep rfl | apply Mg.take rfl)); done)); (iterate 2 (focus (exact rfl))))
                      | ((fail_if_success refine DW.known rfl ?_); refine DW.G (fun hg => ?_) (fun hg => ?_))
          )
        ) <;> (try simp only [hw, nx, mx, rn, fq, Nat.mul_one, Bool.and_true, Bool.and_false, Nat.reduceBEq, Nat.reduceAdd, Nat.reduceSub, BEq.rfl]))
      | ((with_reducible apply AP.k_nil); first | (refine AP.nil (hQ' _ ?_); clear hQ' Q') | refine AP.nil ?_)
      | ((with_reducible apply CP.k_drw); refine cp_drwX fun Q' hQ' => ?_)
      | ((with_reducible apply CP.k_drw1); refine cp_drawX ?_)
      | ((with_reducible apply DW.k_nil); refine DW.nl ?_; first | (refine hQ' _ ?_; clear hQ' Q') | skip)
      | ((with_reducible apply CP.k_reg); refine cp_regG fun Q' hQ' => ?_)
        | (with_reducible apply CP.k_reg1; refine cp_region ?_)
        | ((with_reducible apply CP.k_cond); first | refine cp_condT rfl ?_ | refine cp_condF rfl ?_ | refine cp_cond rfl (fun hc => ?_) (fun hc => ?_))
        | refine CP.go ?_
        | (simp only [List.append_eq, List.cons_append, List.nil_append]))
    (exact RetQ.A [(0, 0)] (by exact ⟨rfl, rfl⟩))
theorem send_ok (x : Ends) (to epoch : Int) (body : List UInt8) (hr : x.root.length ≤ 10000) (hb : body.length ≤ 60000) (hn : 0 ≤ got (to, epoch) x.sent 0 ∧ got (to, epoch) x.sent 0 ≤ 1000000000) (hm : mayP (x.pkt to epoch body) = true) :
    AC Try.prog 23 [.bp 0 0 0, I to, I epoch, bs none body] [xE x] (fun v bs' => v = .tu [bs none (headS (x.pkt to epoch body) ++ tagS x.root (x.pkt to epoch body)), I 0] ∧ bs' = [xE (x.bump to epoch)]) := by
  have hm' : mayP (x.sealed to epoch body) = true := (mayP_tag _ _).trans hm
  have h1 := lnone_ac x
  have h2 := seal_ac x.root (x.pkt to epoch body) hr hb
  have h3 := print_acO (x.sealed to epoch body) hb (tagS_len _ _)
  have hk := kinS x.sent
  have hf := fnd_at_ (to, epoch) x.sent
  rw [hm'] at h3
  simp only [if_true] at h3
  have hw : IntKind.i64.wrap (got (to, epoch) x.sent 0 + 1) = got (to, epoch) x.sent 0 + 1 := wrap_i64 (by omega) (by omega)
  rw [show headS (x.sealed to epoch body) = headS (x.pkt to epoch body) from headS_tag _ _] at h3
  unfold Ends.sealed at *
  generalize headS (x.pkt to epoch body) = hd at *
  generalize tagS x.root (x.pkt to epoch body) = T at *
  unfold Ends.pkt at *
  rw [eP_z] at h2
  dsimp only at h3
  generalize hd ++ T = y at *
  cases ha : at_ (to, epoch) x.sent with
  | none =>
    have hg : got (to, epoch) x.sent 0 = 0 := by unfold got; rw [ha]
    have e1 : xE (x.bump to epoch) = .c tEn [B true, bs none x.root, I x.who, I x.boot, .mo (keyN x.sent ++ [kS (to, epoch)]) ((rowN x.sent ++ [[I 0]]).set x.sent.length [I 1]), .mo (keyW x.wins) (rowW x.wins)] := by
      have e2 : (rowN x.sent ++ [[I 0]]).set x.sent.length [I 1] = rowN x.sent ++ [[I 1]] := by
        rw [List.set_append_right _ _ (by simp)]; simp
      rw [e2]
      unfold Ends.bump puts
      rw [hg, ha]
      simp only [xE, enE, keyN, rowN, List.map_append, List.map_cons, List.map_nil]
      rfl
    rw [e1]
    have hk1 : ∀ k ∈ keyN x.sent ++ [kS (to, epoch)], isKey Try.prog tSd [.i .i64, .i .i64] k = true := kin _ fun k hk => by
      rcases List.mem_append.1 hk with hk | hk
      · obtain ⟨p, _, rfl⟩ := List.mem_map.1 hk; exact ⟨_, rfl⟩
      · simp at hk; exact ⟨_, hk⟩
    have hf1 : fnd (kS (to, epoch)) (keyN x.sent ++ [kS (to, epoch)]) = some x.sent.length := by
      rw [fnd_app (by rw [hf, ha])]
      simp [fnd, kEq_kS]
    have hro1 : rowAt (rowN x.sent ++ [[I 0]]) none x.sent.length = some (I 0) := by
      simp [rowAt, AV.cp]
    rw [ha] at hf
    rw [hg] at hw h2 h3
    have hw0 : IntKind.i64.wrap (0 + 1) = 1 := rfl
    refine AC.N Try.func23 Try.ntmps23 ?_
    intro X hρ hmks
    simp only [nx, Nat.reduceAdd, Nat.reduceSub, BEq.rfl]
    refine CP.gh gh_slot ?_; simp only [nx, Nat.reduceAdd, Nat.reduceSub, BEq.rfl]
    refine CP.gh gh_slot ?_; simp only [nx, Nat.reduceAdd, Nat.reduceSub, BEq.rfl]
    refine CP.gh gh_slot ?_; simp only [nx, Nat.reduceAdd, Nat.reduceSub, BEq.rfl]
    repeat' (first
      | ((first
        | ((with_reducible apply AP.k_any); first | refine AP.ST ?_ | (refine AP.Y ?_; dsimp only) | refine AP.G (fun hg => ?_) (fun hg => ?_) | (refine AP.V (fun c hnil => ?_); simp only [nz])  | refine AP.PF ?_)
        ) <;> (try simp only [hw, nx, mx, rn, fq, Nat.mul_one, Bool.and_true, Bool.and_false, Nat.reduceBEq, Nat.reduceAdd, Nat.reduceSub, BEq.rfl]))
      | ((with_reducible apply AP.k_nil); first | (refine AP.nil (hQ' _ ?_); clear hQ' Q') | refine AP.nil ?_)
      | ((with_reducible apply CP.k_reg); refine cp_regG fun Q' hQ' => ?_)
        | (with_reducible apply CP.k_reg1; refine cp_region ?_)
        | ((with_reducible apply CP.k_cond); first | refine cp_condT rfl ?_ | refine cp_condF rfl ?_ | refine cp_cond rfl (fun hc => ?_) (fun hc => ?_))
        | refine CP.go ?_
        | (simp only [List.append_eq, List.cons_append, List.nil_append]))
    first | refine cp_drwX fun Q' hQ' => ?_ | refine cp_drawX ?_
    repeat' (first
      | ((first
        | ((with_reducible apply AP.k_any); first | refine AP.ST ?_ | (refine AP.Y ?_; dsimp only) | refine AP.G (fun hg => ?_) (fun hg => ?_) | (refine AP.V (fun c hnil => ?_); simp only [nz])  | refine AP.PF ?_)
          | ((with_reducible apply DW.k_any); first | refine DW.ST ?_ | ((fail_if_success refine DW.known rfl ?_); refine DW.G (fun hg => ?_) (fun hg => ?_)))
          | ((with_reducible apply DW.k_any); first
                      | refine DW.R ?_ | refine DW.R' ?_ | refine DW.W ?_ | refine DW.W' ?_
                      | (refine DW.known rfl ?_; (with_reducible first | apply DW.sx 2 | apply DW.sxN 2); (iterate 2 (focus (simp only [ft, nm, Nat.reduceAdd, Nat.reduceBEq, List.getElem?_cons_zero, List.getElem?_cons_succ]; exact rfl))); (focus (intro X V; simp only [ft, nm, Nat.reduceAdd, Nat.reduceBEq]; (try (refine AP.Y ?_; dsimp only)); (first  | fail); (try simp only [nx, Nat.reduceAdd, Nat.reduceSub, BEq.rfl]); refine AP.nil ?_; (first | refine ⟨trivial, rfl, ?_⟩ | refine ⟨rfl, rfl, ?_⟩); (repeat' (first | exact Mg.nil | apply Mg.keep rfl | apply Mg.take rfl)); done)); (focus (refine Exists.intro (fun _ => 0) ?_; apply Exists.intro; (repeat' (first | exact Mg.nil | apply Mg.keep rfl | apply Mg.take rfl)); done)); (iterate 2 (focus (exact rfl))))
                      | ((fail_if_success refine DW.known rfl ?_); refine DW.G (fun hg => ?_) (fun hg => ?_))
          )
        ) <;> (try simp only [hw, nx, mx, rn, fq, Nat.mul_one, Bool.and_true, Bool.and_false, Nat.reduceBEq, Nat.reduceAdd, Nat.reduceSub, BEq.rfl]))
      | ((with_reducible apply AP.k_nil); first | (refine AP.nil (hQ' _ ?_); clear hQ' Q') | refine AP.nil ?_)
      | ((with_reducible apply DW.k_nil); refine DW.nl ?_; first | (refine hQ' _ ?_; clear hQ' Q') | skip)
      | ((with_reducible apply CP.k_reg); refine cp_regG fun Q' hQ' => ?_)
        | (with_reducible apply CP.k_reg1; refine cp_region ?_)
        | ((with_reducible apply CP.k_cond); first | refine cp_condT rfl ?_ | refine cp_condF rfl ?_ | refine cp_cond rfl (fun hc => ?_) (fun hc => ?_))
        | refine CP.go ?_
        | (simp only [List.append_eq, List.cons_append, List.nil_append]))
    first | refine cp_drwX fun Q' hQ' => ?_ | refine cp_drawX ?_
    repeat' (first
      | ((first
        | ((with_reducible apply AP.k_any); first | refine AP.ST ?_ | (refine AP.Y ?_; dsimp only) | refine AP.G (fun hg => ?_) (fun hg => ?_) | (refine AP.V (fun c hnil => ?_); simp only [nz])  | refine AP.PF ?_)
          | ((with_reducible apply DW.k_any); first | refine DW.ST ?_ | ((fail_if_success refine DW.known rfl ?_); refine DW.G (fun hg => ?_) (fun hg => ?_)))
          | ((with_reducible apply DW.k_any); first
                      | refine DW.R ?_ | refine DW.R' ?_ | refine DW.W ?_ | refine DW.W' ?_
                      | (refine DW.known rfl ?_; (with_reducible first | apply DW.sx 2 | apply DW.sxN 2); (iterate 2 (focus (simp only [ft, nm, Nat.reduceAdd, Nat.reduceBEq, List.getElem?_cons_zero, List.getElem?_cons_succ]; exact rfl))); (focus (intro X V; simp only [ft, nm, Nat.reduceAdd, Nat.reduceBEq]; (try (refine AP.Y ?_; dsimp only)); (first  | fail); (try simp only [nx, Nat.reduceAdd, Nat.reduceSub, BEq.rfl]); refine AP.nil ?_; (first | refine ⟨trivial, rfl, ?_⟩ | refine ⟨rfl, rfl, ?_⟩); (repeat' (first | exact Mg.nil | apply Mg.keep rfl | apply Mg.take rfl)); done)); (focus (refine Exists.intro (fun _ => 0) ?_; apply Exists.intro; (repeat' (first | exact Mg.nil | apply Mg.keep rfl | apply Mg.take rfl)); done)); (iterate 2 (focus (exact rfl))))
                      | ((fail_if_success refine DW.known rfl ?_); refine DW.G (fun hg => ?_) (fun hg => ?_))
          )
        ) <;> (try simp only [hw, nx, mx, rn, fq, Nat.mul_one, Bool.and_true, Bool.and_false, Nat.reduceBEq, Nat.reduceAdd, Nat.reduceSub, BEq.rfl]))
      | ((with_reducible apply AP.k_nil); first | (refine AP.nil (hQ' _ ?_); clear hQ' Q') | refine AP.nil ?_)
      | ((with_reducible apply DW.k_nil); refine DW.nl ?_; first | (refine hQ' _ ?_; clear hQ' Q') | skip)
      | ((with_reducible apply CP.k_reg); refine cp_regG fun Q' hQ' => ?_)
        | (with_reducible apply CP.k_reg1; refine cp_region ?_)
        | ((with_reducible apply CP.k_cond); first | refine cp_condT rfl ?_ | refine cp_condF rfl ?_ | refine cp_cond rfl (fun hc => ?_) (fun hc => ?_))
        | refine CP.go ?_
        | (simp only [List.append_eq, List.cons_append, List.nil_append]))
    refine cp_drawI (fun zs zb => ⟨setT zs.t [(50, cond (zb.getD 0 false) (.bp 0 0 0) (.tu [])), (51, cond (zb.getD 1 false) (.bp 0 0 0) (.tu [])), (52, cond (zb.getD 2 false) (.bp 0 0 4) (.tu [])), (53, cond (zb.getD 3 false) (.hd 1 2) (.tu [])), (54, cond (zb.getD 4 false) (.ag [I to, I epoch]) (.tu [])), (55, cond (zb.getD 5 false) (I 0) (.tu [])), (56, cond (zb.getD 6 false) (I (IntKind.i64.wrap (0 + 1))) (.tu [])), (57, cond (zb.getD 7 false) (.tu [I 0, .hd 5 2]) (.tu [])), (58, cond (zb.getD 8 false) (.hd 5 2) (.tu []))], ((zs.b.set 1 (cond (zb.getD 9 false) (⟨2, .m (keyN x.sent ++ [kS (to, epoch)]) ((rowN x.sent ++ [[I 0]]).set x.sent.length [I (IntKind.i64.wrap (0 + 1))]) none none⟩) (cond (zb.getD 7 false) (⟨2, .m (keyN x.sent ++ [kS (to, epoch)]) (rowN x.sent ++ [[I 0]]) none (some (x.sent.length, 5, 2))⟩) (zs.b.getD 1 ⟨0, .x⟩)))).set 5 (cond (zb.getD 7 false) (⟨2, .x⟩) (zs.b.getD 5 ⟨0, .x⟩)))⟩) (by kernel_rfl) (by kernel_rfl) (by kernel_rfl) ?_ ?_
    rotate_left
    simp only [cond_true, cond_false, setT, List.set_cons_succ, List.set_cons_zero, List.getD_cons_succ, List.getD_cons_zero, List.set_cons_succ, List.length_cons, List.length_nil, List.replicate_succ, List.replicate_zero, Nat.reduceAdd]
    rotate_left
    · intro b hb' hcl
      obtain ⟨l0, b0, rfl, hb0⟩ := len_cons hb'
      obtain ⟨l1, b1, rfl, hb1⟩ := len_cons hb0
      obtain ⟨l2, b2, rfl, hb2⟩ := len_cons hb1
      obtain ⟨l3, b3, rfl, hb3⟩ := len_cons hb2
      obtain ⟨l4, b4, rfl, hb4⟩ := len_cons hb3
      obtain ⟨l5, b5, rfl, hb5⟩ := len_cons hb4
      obtain ⟨l6, b6, rfl, hb6⟩ := len_cons hb5
      obtain ⟨l7, b7, rfl, hb7⟩ := len_cons hb6
      obtain ⟨l8, b8, rfl, hb8⟩ := len_cons hb7
      obtain ⟨l9, b9, rfl, hb9⟩ := len_cons hb8
      obtain rfl := List.length_eq_zero_iff.1 hb9
      clear hb' hb0 hb1 hb2 hb3 hb4 hb5 hb6 hb7 hb8 hb9
      · simp only [closedB, depsOk, Region.binds, List.toList_toArray, List.all_cons, List.all_nil, List.getD_cons_succ, List.getD_cons_zero, Bool.not_true, Bool.not_false, Bool.true_or, Bool.false_or, Bool.and_true, Bool.true_and, Bool.or_true, Bool.and_false, Bool.or_false, Bool.false_and, Bool.and_eq_true, Bool.or_eq_true, Bool.not_eq_true'] at hcl
        simp only [StepsP]
        refine ⟨?_, ?_, ?_, ?_, ?_, ?_, ?_, ?_, ?_, ?_, trivial⟩
        · intro h1 h2
          simp [depsOk, Region.binds] at h1 h2
          subst h1
          (repeat (obtain ⟨rfl, h2⟩ := h2))
          (try subst h2)
          clear hcl
          all_goals simp only [cond_true, cond_false, setT, List.set_cons_succ, List.set_cons_zero, List.getD_cons_succ, List.getD_cons_zero, List.set_cons_succ]
          all_goals ((with_reducible apply AP.k_any); first | (refine AP.sm false rfl ?_ ?_; focus ((repeat' (with_reducible apply And.intro)) <;> (first | exact True.intro | exact rfl | omega | decide | (simp; omega) | (simp; done) | assumption | exact .inl rfl | (refine .inr ?_; simp; try omega)))) | fail "no step")
          all_goals (try simp only [nx, Nat.reduceAdd, Nat.reduceSub, BEq.rfl])
          all_goals refine AP.nil ?_
          all_goals exact ⟨rfl, rfl⟩
        · intro h1 h2
          simp [depsOk, Region.binds] at h1 h2
          subst h1
          (repeat (obtain ⟨rfl, h2⟩ := h2))
          (try subst h2)
          clear hcl
          all_goals simp only [cond_true, cond_false, setT, List.set_cons_succ, List.set_cons_zero, List.getD_cons_succ, List.getD_cons_zero, List.set_cons_succ]
          all_goals ((with_reducible apply AP.k_any); first | (refine AP.sm false rfl ?_ ?_; focus ((repeat' (with_reducible apply And.intro)) <;> (first | exact True.intro | exact rfl | omega | decide | (simp; omega) | (simp; done) | assumption | exact .inl rfl | (refine .inr ?_; simp; try omega)))) | fail "no step")
          all_goals (try simp only [nx, Nat.reduceAdd, Nat.reduceSub, BEq.rfl])
          all_goals refine AP.nil ?_
          all_goals exact ⟨rfl, rfl⟩
        · intro h1 h2
          simp [depsOk, Region.binds] at h1 h2
          subst h1
          (repeat (obtain ⟨rfl, h2⟩ := h2))
          (try subst h2)
          clear hcl
          all_goals simp only [cond_true, cond_false, setT, List.set_cons_succ, List.set_cons_zero, List.getD_cons_succ, List.getD_cons_zero, List.set_cons_succ]
          all_goals ((with_reducible apply AP.k_any); first | (refine AP.sm false rfl ?_ ?_; focus ((repeat' (with_reducible apply And.intro)) <;> (first | exact True.intro | exact rfl | omega | decide | (simp; omega) | (simp; done) | assumption | exact .inl rfl | (refine .inr ?_; simp; try omega)))) | fail "no step")
          all_goals (try simp only [nx, Nat.reduceAdd, Nat.reduceSub, BEq.rfl])
          all_goals refine AP.nil ?_
          all_goals exact ⟨rfl, rfl⟩
        · intro h1 h2
          simp [depsOk, Region.binds] at h1 h2
          subst h1
          (repeat (obtain ⟨rfl, h2⟩ := h2))
          (try subst h2)
          (first | (obtain rfl : l7 = false := by grind only) | skip)
          (first | (obtain rfl : l9 = false := by grind only) | skip)
          clear hcl
          all_goals simp only [cond_true, cond_false, setT, List.set_cons_succ, List.set_cons_zero, List.getD_cons_succ, List.getD_cons_zero, List.set_cons_succ]
          all_goals ((with_reducible apply AP.k_any); first | (refine AP.sm false rfl ?_ ?_; focus ((repeat' (with_reducible apply And.intro)) <;> (first | exact True.intro | exact rfl | omega | decide | (simp; omega) | (simp; done) | assumption | exact .inl rfl | (refine .inr ?_; simp; try omega)))) | (refine AP.el rfl ?_ (by (first | (refine ⟨?_, ?_⟩; assumption; rfl) | exact ⟨mapAt (by (first | omega | (simp; omega) | (simp; done) | assumption)), rfl⟩ | exact ⟨rfl, rfl⟩)) ?_; focus ((repeat' (with_reducible apply And.intro)) <;> (first | exact True.intro | exact rfl | omega | decide | (simp; omega) | (simp; done) | assumption | exact .inl rfl | (refine .inr ?_; simp; try omega)))) | fail "no step")
          all_goals (try simp only [nx, Nat.reduceAdd, Nat.reduceSub, BEq.rfl])
          all_goals refine AP.nil ?_
          all_goals exact ⟨rfl, rfl⟩
        · intro h1 h2
          simp [depsOk, Region.binds] at h1 h2
          subst h1
          (repeat (obtain ⟨rfl, h2⟩ := h2))
          (try subst h2)
          (first | (obtain rfl : l7 = false := by grind only) | skip)
          (first | (obtain rfl : l9 = false := by grind only) | skip)
          clear hcl
          all_goals simp only [cond_true, cond_false, setT, List.set_cons_succ, List.set_cons_zero, List.getD_cons_succ, List.getD_cons_zero, List.set_cons_succ]
          all_goals ((with_reducible apply AP.k_any); first | (refine AP.sm false rfl ?_ ?_; focus ((repeat' (with_reducible apply And.intro)) <;> (first | exact True.intro | exact rfl | omega | decide | (simp; omega) | (simp; done) | assumption | exact .inl rfl | (refine .inr ?_; simp; try omega)))) | (refine AP.el rfl ?_ (by (first | (refine ⟨?_, ?_⟩; assumption; rfl) | exact ⟨mapAt (by (first | omega | (simp; omega) | (simp; done) | assumption)), rfl⟩ | exact ⟨rfl, rfl⟩)) ?_; focus ((repeat' (with_reducible apply And.intro)) <;> (first | exact True.intro | exact rfl | omega | decide | (simp; omega) | (simp; done) | assumption | exact .inl rfl | (refine .inr ?_; simp; try omega)))) | fail "no step")
          all_goals (try simp only [nx, Nat.reduceAdd, Nat.reduceSub, BEq.rfl])
          all_goals refine AP.nil ?_
          all_goals exact ⟨rfl, rfl⟩
        · intro h1 h2
          simp [depsOk, Region.binds] at h1 h2
          subst h1
          (repeat (obtain ⟨rfl, h2⟩ := h2))
          (try subst h2)
          (first | (obtain rfl : l9 = false := by grind only) | skip)
          clear hcl
          (first | cases l7 | skip)
          all_goals simp only [cond_true, cond_false, setT, List.set_cons_succ, List.set_cons_zero, List.getD_cons_succ, List.getD_cons_zero, List.set_cons_succ]
          all_goals ((with_reducible apply AP.k_any); first | refine AP.LK ?_ | refine AP.LN ?_ | fail "no step")
          all_goals (try simp only [nx, Nat.reduceAdd, Nat.reduceSub, BEq.rfl])
          all_goals refine AP.nil ?_
          all_goals exact ⟨rfl, rfl⟩
        · intro h1 h2
          simp [depsOk, Region.binds] at h1 h2
          subst h1
          (repeat (obtain ⟨rfl, h2⟩ := h2))
          (try subst h2)
          clear hcl
          all_goals simp only [cond_true, cond_false, setT, List.set_cons_succ, List.set_cons_zero, List.getD_cons_succ, List.getD_cons_zero, List.set_cons_succ]
          all_goals ((with_reducible apply AP.k_any); first | (refine AP.sm false rfl ?_ ?_; focus ((repeat' (with_reducible apply And.intro)) <;> (first | exact True.intro | exact rfl | omega | decide | (simp; omega) | (simp; done) | assumption | exact .inl rfl | (refine .inr ?_; simp; try omega)))) | fail "no step")
          all_goals (try simp only [nx, Nat.reduceAdd, Nat.reduceSub, BEq.rfl])
          all_goals refine AP.nil ?_
          all_goals exact ⟨rfl, rfl⟩
        · intro h1 h2
          simp [depsOk, Region.binds] at h1 h2
          subst h1
          (repeat (obtain ⟨rfl, h2⟩ := h2))
          (try subst h2)
          (first | (obtain rfl : l9 = false := by grind only) | skip)
          clear hcl
          all_goals simp only [cond_true, cond_false, setT, List.set_cons_succ, List.set_cons_zero, List.getD_cons_succ, List.getD_cons_zero, List.set_cons_succ]
          all_goals ((with_reducible apply AP.k_any); first | refine AP.ME ?_ | refine AP.MF ?_ | fail "no step")
          all_goals (try simp only [nx, Nat.reduceAdd, Nat.reduceSub, BEq.rfl])
          all_goals refine AP.nil ?_
          all_goals exact ⟨rfl, rfl⟩
        · intro h1 h2
          simp [depsOk, Region.binds] at h1 h2
          subst h1
          (repeat (obtain ⟨rfl, h2⟩ := h2))
          (try subst h2)
          clear hcl
          all_goals simp only [cond_true, cond_false, setT, List.set_cons_succ, List.set_cons_zero, List.getD_cons_succ, List.getD_cons_zero, List.set_cons_succ]
          all_goals ((with_reducible apply AP.k_any); first | (refine AP.sm false rfl ?_ ?_; focus ((repeat' (with_reducible apply And.intro)) <;> (first | exact True.intro | exact rfl | omega | decide | (simp; omega) | (simp; done) | assumption | exact .inl rfl | (refine .inr ?_; simp; try omega)))) | fail "no step")
          all_goals (try simp only [nx, Nat.reduceAdd, Nat.reduceSub, BEq.rfl])
          all_goals refine AP.nil ?_
          all_goals exact ⟨rfl, rfl⟩
        · intro h1 h2
          simp [depsOk, Region.binds] at h1 h2
          subst h1
          (repeat (obtain ⟨rfl, h2⟩ := h2))
          (try subst h2)
          (first | (obtain rfl : l7 = true := by grind only) | skip)
          clear hcl
          all_goals simp only [cond_true, cond_false, setT, List.set_cons_succ, List.set_cons_zero, List.getD_cons_succ, List.getD_cons_zero, List.set_cons_succ]
          all_goals ((with_reducible apply AP.k_any); first | refine AP.MS ?_ | fail "no step")
          all_goals (try simp only [nx, Nat.reduceAdd, Nat.reduceSub, BEq.rfl])
          all_goals refine AP.nil ?_
          all_goals exact ⟨rfl, rfl⟩
    simp only [hw0]
    repeat' (first
      | ((first
        | ((with_reducible apply AP.k_any); first | refine AP.ST ?_ | (refine AP.Y ?_; dsimp only) | refine AP.G (fun hg => ?_) (fun hg => ?_) | (refine AP.V (fun c hnil => ?_); simp only [nz])  | refine AP.PF ?_)
        ) <;> (try simp only [hw, nx, mx, rn, fq, Nat.mul_one, Bool.and_true, Bool.and_false, Nat.reduceBEq, Nat.reduceAdd, Nat.reduceSub, BEq.rfl]))
      | ((with_reducible apply AP.k_nil); first | (refine AP.nil (hQ' _ ?_); clear hQ' Q') | refine AP.nil ?_)
      | ((with_reducible apply CP.k_reg); refine cp_regG fun Q' hQ' => ?_)
        | (with_reducible apply CP.k_reg1; refine cp_region ?_)
        | ((with_reducible apply CP.k_cond); first | refine cp_condT rfl ?_ | refine cp_condF rfl ?_ | refine cp_cond rfl (fun hc => ?_) (fun hc => ?_))
        | refine CP.go ?_
        | (simp only [List.append_eq, List.cons_append, List.nil_append]))
    (exact RetQ.A [(0, 0)] (by exact ⟨rfl, rfl⟩))
  | some n =>
    obtain ⟨v, hv⟩ := at_some ha
    have hg : got (to, epoch) x.sent 0 = v := by unfold got; rw [ha]; dsimp only; rw [hv]
    have e1 : xE (x.bump to epoch) = .c tEn [B true, bs none x.root, I x.who, I x.boot, .mo (keyN x.sent) ((rowN x.sent).set n [I (v + 1)]), .mo (keyW x.wins) (rowW x.wins)] := by
      have e2 := puts_keys ha (v + 1)
      have e3 : (x.sent.set n ((to, epoch), v + 1)).map (fun p : Sd × Int => [I p.2]) = (rowN x.sent).set n [I (v + 1)] := by rw [List.map_set]
      unfold Ends.bump puts
      rw [hg, ha]
      dsimp only [xE, enE, keyN, rowN]
      rw [e2, e3]
    rw [e1]
    have hro := rowAt_map (e := fun p : Sd × Int => [I p.2]) hv rfl
    rw [ha] at hf
    rw [hg] at hw h2 h3
    refine AC.N Try.func23 Try.ntmps23 ?_
    intro X hρ hmks
    simp only [nx, Nat.reduceAdd, Nat.reduceSub, BEq.rfl]
    refine CP.gh gh_slot ?_; simp only [nx, Nat.reduceAdd, Nat.reduceSub, BEq.rfl]
    refine CP.gh gh_slot ?_; simp only [nx, Nat.reduceAdd, Nat.reduceSub, BEq.rfl]
    refine CP.gh gh_slot ?_; simp only [nx, Nat.reduceAdd, Nat.reduceSub, BEq.rfl]
    repeat' (first
      | ((first
        | ((with_reducible apply AP.k_any); first | refine AP.ST ?_ | (refine AP.Y ?_; dsimp only) | refine AP.G (fun hg => ?_) (fun hg => ?_) | (refine AP.V (fun c hnil => ?_); simp only [nz])  | refine AP.PF ?_)
        ) <;> (try simp only [hw, nx, mx, rn, fq, Nat.mul_one, Bool.and_true, Bool.and_false, Nat.reduceBEq, Nat.reduceAdd, Nat.reduceSub, BEq.rfl]))
      | ((with_reducible apply AP.k_nil); first | (refine AP.nil (hQ' _ ?_); clear hQ' Q') | refine AP.nil ?_)
      | ((with_reducible apply CP.k_reg); refine cp_regG fun Q' hQ' => ?_)
        | (with_reducible apply CP.k_reg1; refine cp_region ?_)
        | ((with_reducible apply CP.k_cond); first | refine cp_condT rfl ?_ | refine cp_condF rfl ?_ | refine cp_cond rfl (fun hc => ?_) (fun hc => ?_))
        | refine CP.go ?_
        | (simp only [List.append_eq, List.cons_append, List.nil_append]))
    first | refine cp_drwX fun Q' hQ' => ?_ | refine cp_drawX ?_
    repeat' (first
      | ((first
        | ((with_reducible apply AP.k_any); first | refine AP.ST ?_ | (refine AP.Y ?_; dsimp only) | refine AP.G (fun hg => ?_) (fun hg => ?_) | (refine AP.V (fun c hnil => ?_); simp only [nz])  | refine AP.PF ?_)
          | ((with_reducible apply DW.k_any); first | refine DW.ST ?_ | ((fail_if_success refine DW.known rfl ?_); refine DW.G (fun hg => ?_) (fun hg => ?_)))
          | ((with_reducible apply DW.k_any); first
                      | refine DW.R ?_ | refine DW.R' ?_ | refine DW.W ?_ | refine DW.W' ?_
                      | (refine DW.known rfl ?_; (with_reducible first | apply DW.sx 2 | apply DW.sxN 2); (iterate 2 (focus (simp only [ft, nm, Nat.reduceAdd, Nat.reduceBEq, List.getElem?_cons_zero, List.getElem?_cons_succ]; exact rfl))); (focus (intro X V; simp only [ft, nm, Nat.reduceAdd, Nat.reduceBEq]; (try (refine AP.Y ?_; dsimp only)); (first  | fail); (try simp only [nx, Nat.reduceAdd, Nat.reduceSub, BEq.rfl]); refine AP.nil ?_; (first | refine ⟨trivial, rfl, ?_⟩ | refine ⟨rfl, rfl, ?_⟩); (repeat' (first | exact Mg.nil | apply Mg.keep rfl | apply Mg.take rfl)); done)); (focus (refine Exists.intro (fun _ => 0) ?_; apply Exists.intro; (repeat' (first | exact Mg.nil | apply Mg.keep rfl | apply Mg.take rfl)); done)); (iterate 2 (focus (exact rfl))))
                      | ((fail_if_success refine DW.known rfl ?_); refine DW.G (fun hg => ?_) (fun hg => ?_))
          )
        ) <;> (try simp only [hw, nx, mx, rn, fq, Nat.mul_one, Bool.and_true, Bool.and_false, Nat.reduceBEq, Nat.reduceAdd, Nat.reduceSub, BEq.rfl]))
      | ((with_reducible apply AP.k_nil); first | (refine AP.nil (hQ' _ ?_); clear hQ' Q') | refine AP.nil ?_)
      | ((with_reducible apply DW.k_nil); refine DW.nl ?_; first | (refine hQ' _ ?_; clear hQ' Q') | skip)
      | ((with_reducible apply CP.k_reg); refine cp_regG fun Q' hQ' => ?_)
        | (with_reducible apply CP.k_reg1; refine cp_region ?_)
        | ((with_reducible apply CP.k_cond); first | refine cp_condT rfl ?_ | refine cp_condF rfl ?_ | refine cp_cond rfl (fun hc => ?_) (fun hc => ?_))
        | refine CP.go ?_
        | (simp only [List.append_eq, List.cons_append, List.nil_append]))
    first | refine cp_drwX fun Q' hQ' => ?_ | refine cp_drawX ?_
    repeat' (first
      | ((first
        | ((with_reducible apply AP.k_any); first | refine AP.ST ?_ | (refine AP.Y ?_; dsimp only) | refine AP.G (fun hg => ?_) (fun hg => ?_) | (refine AP.V (fun c hnil => ?_); simp only [nz])  | refine AP.PF ?_)
          | ((with_reducible apply DW.k_any); first | refine DW.ST ?_ | ((fail_if_success refine DW.known rfl ?_); refine DW.G (fun hg => ?_) (fun hg => ?_)))
          | ((with_reducible apply DW.k_any); first
                      | refine DW.R ?_ | refine DW.R' ?_ | refine DW.W ?_ | refine DW.W' ?_
                      | (refine DW.known rfl ?_; (with_reducible first | apply DW.sx 2 | apply DW.sxN 2); (iterate 2 (focus (simp only [ft, nm, Nat.reduceAdd, Nat.reduceBEq, List.getElem?_cons_zero, List.getElem?_cons_succ]; exact rfl))); (focus (intro X V; simp only [ft, nm, Nat.reduceAdd, Nat.reduceBEq]; (try (refine AP.Y ?_; dsimp only)); (first  | fail); (try simp only [nx, Nat.reduceAdd, Nat.reduceSub, BEq.rfl]); refine AP.nil ?_; (first | refine ⟨trivial, rfl, ?_⟩ | refine ⟨rfl, rfl, ?_⟩); (repeat' (first | exact Mg.nil | apply Mg.keep rfl | apply Mg.take rfl)); done)); (focus (refine Exists.intro (fun _ => 0) ?_; apply Exists.intro; (repeat' (first | exact Mg.nil | apply Mg.keep rfl | apply Mg.take rfl)); done)); (iterate 2 (focus (exact rfl))))
                      | ((fail_if_success refine DW.known rfl ?_); refine DW.G (fun hg => ?_) (fun hg => ?_))
          )
        ) <;> (try simp only [hw, nx, mx, rn, fq, Nat.mul_one, Bool.and_true, Bool.and_false, Nat.reduceBEq, Nat.reduceAdd, Nat.reduceSub, BEq.rfl]))
      | ((with_reducible apply AP.k_nil); first | (refine AP.nil (hQ' _ ?_); clear hQ' Q') | refine AP.nil ?_)
      | ((with_reducible apply DW.k_nil); refine DW.nl ?_; first | (refine hQ' _ ?_; clear hQ' Q') | skip)
      | ((with_reducible apply CP.k_reg); refine cp_regG fun Q' hQ' => ?_)
        | (with_reducible apply CP.k_reg1; refine cp_region ?_)
        | ((with_reducible apply CP.k_cond); first | refine cp_condT rfl ?_ | refine cp_condF rfl ?_ | refine cp_cond rfl (fun hc => ?_) (fun hc => ?_))
        | refine CP.go ?_
        | (simp only [List.append_eq, List.cons_append, List.nil_append]))
    refine cp_drawI (fun zs zb => ⟨setT zs.t [(50, cond (zb.getD 0 false) (.bp 0 0 0) (.tu [])), (51, cond (zb.getD 1 false) (.bp 0 0 0) (.tu [])), (52, cond (zb.getD 2 false) (.bp 0 0 4) (.tu [])), (53, cond (zb.getD 3 false) (.hd 1 2) (.tu [])), (54, cond (zb.getD 4 false) (.ag [I to, I epoch]) (.tu [])), (55, cond (zb.getD 5 false) (I v) (.tu [])), (56, cond (zb.getD 6 false) (I (IntKind.i64.wrap (v + 1))) (.tu [])), (57, cond (zb.getD 7 false) (.tu [I v, .hd 5 2]) (.tu [])), (58, cond (zb.getD 8 false) (.hd 5 2) (.tu []))], ((zs.b.set 1 (cond (zb.getD 9 false) (⟨2, .m (keyN x.sent) ((rowN x.sent).set n [I (IntKind.i64.wrap (v + 1))]) none none⟩) (cond (zb.getD 7 false) (⟨2, .m (keyN x.sent) (rowN x.sent) none (some (n, 5, 2))⟩) (zs.b.getD 1 ⟨0, .x⟩)))).set 5 (cond (zb.getD 7 false) (⟨2, .x⟩) (zs.b.getD 5 ⟨0, .x⟩)))⟩) (by kernel_rfl) (by kernel_rfl) (by kernel_rfl) ?_ ?_
    rotate_left
    simp only [cond_true, cond_false, setT, List.set_cons_succ, List.set_cons_zero, List.getD_cons_succ, List.getD_cons_zero, List.set_cons_succ, List.length_cons, List.length_nil, List.replicate_succ, List.replicate_zero, Nat.reduceAdd]
    rotate_left
    · intro b hb' hcl
      obtain ⟨l0, b0, rfl, hb0⟩ := len_cons hb'
      obtain ⟨l1, b1, rfl, hb1⟩ := len_cons hb0
      obtain ⟨l2, b2, rfl, hb2⟩ := len_cons hb1
      obtain ⟨l3, b3, rfl, hb3⟩ := len_cons hb2
      obtain ⟨l4, b4, rfl, hb4⟩ := len_cons hb3
      obtain ⟨l5, b5, rfl, hb5⟩ := len_cons hb4
      obtain ⟨l6, b6, rfl, hb6⟩ := len_cons hb5
      obtain ⟨l7, b7, rfl, hb7⟩ := len_cons hb6
      obtain ⟨l8, b8, rfl, hb8⟩ := len_cons hb7
      obtain ⟨l9, b9, rfl, hb9⟩ := len_cons hb8
      obtain rfl := List.length_eq_zero_iff.1 hb9
      clear hb' hb0 hb1 hb2 hb3 hb4 hb5 hb6 hb7 hb8 hb9
      · simp only [closedB, depsOk, Region.binds, List.toList_toArray, List.all_cons, List.all_nil, List.getD_cons_succ, List.getD_cons_zero, Bool.not_true, Bool.not_false, Bool.true_or, Bool.false_or, Bool.and_true, Bool.true_and, Bool.or_true, Bool.and_false, Bool.or_false, Bool.false_and, Bool.and_eq_true, Bool.or_eq_true, Bool.not_eq_true'] at hcl
        simp only [StepsP]
        refine ⟨?_, ?_, ?_, ?_, ?_, ?_, ?_, ?_, ?_, ?_, trivial⟩
        · intro h1 h2
          simp [depsOk, Region.binds] at h1 h2
          subst h1
          (repeat (obtain ⟨rfl, h2⟩ := h2))
          (try subst h2)
          clear hcl
          all_goals simp only [cond_true, cond_false, setT, List.set_cons_succ, List.set_cons_zero, List.getD_cons_succ, List.getD_cons_zero, List.set_cons_succ]
          all_goals ((with_reducible apply AP.k_any); first | (refine AP.sm false rfl ?_ ?_; focus ((repeat' (with_reducible apply And.intro)) <;> (first | exact True.intro | exact rfl | omega | decide | (simp; omega) | (simp; done) | assumption | exact .inl rfl | (refine .inr ?_; simp; try omega)))) | fail "no step")
          all_goals (try simp only [nx, Nat.reduceAdd, Nat.reduceSub, BEq.rfl])
          all_goals refine AP.nil ?_
          all_goals exact ⟨rfl, rfl⟩
        · intro h1 h2
          simp [depsOk, Region.binds] at h1 h2
          subst h1
          (repeat (obtain ⟨rfl, h2⟩ := h2))
          (try subst h2)
          clear hcl
          all_goals simp only [cond_true, cond_false, setT, List.set_cons_succ, List.set_cons_zero, List.getD_cons_succ, List.getD_cons_zero, List.set_cons_succ]
          all_goals ((with_reducible apply AP.k_any); first | (refine AP.sm false rfl ?_ ?_; focus ((repeat' (with_reducible apply And.intro)) <;> (first | exact True.intro | exact rfl | omega | decide | (simp; omega) | (simp; done) | assumption | exact .inl rfl | (refine .inr ?_; simp; try omega)))) | fail "no step")
          all_goals (try simp only [nx, Nat.reduceAdd, Nat.reduceSub, BEq.rfl])
          all_goals refine AP.nil ?_
          all_goals exact ⟨rfl, rfl⟩
        · intro h1 h2
          simp [depsOk, Region.binds] at h1 h2
          subst h1
          (repeat (obtain ⟨rfl, h2⟩ := h2))
          (try subst h2)
          clear hcl
          all_goals simp only [cond_true, cond_false, setT, List.set_cons_succ, List.set_cons_zero, List.getD_cons_succ, List.getD_cons_zero, List.set_cons_succ]
          all_goals ((with_reducible apply AP.k_any); first | (refine AP.sm false rfl ?_ ?_; focus ((repeat' (with_reducible apply And.intro)) <;> (first | exact True.intro | exact rfl | omega | decide | (simp; omega) | (simp; done) | assumption | exact .inl rfl | (refine .inr ?_; simp; try omega)))) | fail "no step")
          all_goals (try simp only [nx, Nat.reduceAdd, Nat.reduceSub, BEq.rfl])
          all_goals refine AP.nil ?_
          all_goals exact ⟨rfl, rfl⟩
        · intro h1 h2
          simp [depsOk, Region.binds] at h1 h2
          subst h1
          (repeat (obtain ⟨rfl, h2⟩ := h2))
          (try subst h2)
          (first | (obtain rfl : l7 = false := by grind only) | skip)
          (first | (obtain rfl : l9 = false := by grind only) | skip)
          clear hcl
          all_goals simp only [cond_true, cond_false, setT, List.set_cons_succ, List.set_cons_zero, List.getD_cons_succ, List.getD_cons_zero, List.set_cons_succ]
          all_goals ((with_reducible apply AP.k_any); first | (refine AP.sm false rfl ?_ ?_; focus ((repeat' (with_reducible apply And.intro)) <;> (first | exact True.intro | exact rfl | omega | decide | (simp; omega) | (simp; done) | assumption | exact .inl rfl | (refine .inr ?_; simp; try omega)))) | (refine AP.el rfl ?_ (by (first | (refine ⟨?_, ?_⟩; assumption; rfl) | exact ⟨mapAt (by (first | omega | (simp; omega) | (simp; done) | assumption)), rfl⟩ | exact ⟨rfl, rfl⟩)) ?_; focus ((repeat' (with_reducible apply And.intro)) <;> (first | exact True.intro | exact rfl | omega | decide | (simp; omega) | (simp; done) | assumption | exact .inl rfl | (refine .inr ?_; simp; try omega)))) | fail "no step")
          all_goals (try simp only [nx, Nat.reduceAdd, Nat.reduceSub, BEq.rfl])
          all_goals refine AP.nil ?_
          all_goals exact ⟨rfl, rfl⟩
        · intro h1 h2
          simp [depsOk, Region.binds] at h1 h2
          subst h1
          (repeat (obtain ⟨rfl, h2⟩ := h2))
          (try subst h2)
          (first | (obtain rfl : l7 = false := by grind only) | skip)
          (first | (obtain rfl : l9 = false := by grind only) | skip)
          clear hcl
          all_goals simp only [cond_true, cond_false, setT, List.set_cons_succ, List.set_cons_zero, List.getD_cons_succ, List.getD_cons_zero, List.set_cons_succ]
          all_goals ((with_reducible apply AP.k_any); first | (refine AP.sm false rfl ?_ ?_; focus ((repeat' (with_reducible apply And.intro)) <;> (first | exact True.intro | exact rfl | omega | decide | (simp; omega) | (simp; done) | assumption | exact .inl rfl | (refine .inr ?_; simp; try omega)))) | (refine AP.el rfl ?_ (by (first | (refine ⟨?_, ?_⟩; assumption; rfl) | exact ⟨mapAt (by (first | omega | (simp; omega) | (simp; done) | assumption)), rfl⟩ | exact ⟨rfl, rfl⟩)) ?_; focus ((repeat' (with_reducible apply And.intro)) <;> (first | exact True.intro | exact rfl | omega | decide | (simp; omega) | (simp; done) | assumption | exact .inl rfl | (refine .inr ?_; simp; try omega)))) | fail "no step")
          all_goals (try simp only [nx, Nat.reduceAdd, Nat.reduceSub, BEq.rfl])
          all_goals refine AP.nil ?_
          all_goals exact ⟨rfl, rfl⟩
        · intro h1 h2
          simp [depsOk, Region.binds] at h1 h2
          subst h1
          (repeat (obtain ⟨rfl, h2⟩ := h2))
          (try subst h2)
          (first | (obtain rfl : l9 = false := by grind only) | skip)
          clear hcl
          (first | cases l7 | skip)
          all_goals simp only [cond_true, cond_false, setT, List.set_cons_succ, List.set_cons_zero, List.getD_cons_succ, List.getD_cons_zero, List.set_cons_succ]
          all_goals ((with_reducible apply AP.k_any); first | refine AP.LK ?_ | refine AP.LN ?_ | fail "no step")
          all_goals (try simp only [nx, Nat.reduceAdd, Nat.reduceSub, BEq.rfl])
          all_goals refine AP.nil ?_
          all_goals exact ⟨rfl, rfl⟩
        · intro h1 h2
          simp [depsOk, Region.binds] at h1 h2
          subst h1
          (repeat (obtain ⟨rfl, h2⟩ := h2))
          (try subst h2)
          clear hcl
          all_goals simp only [cond_true, cond_false, setT, List.set_cons_succ, List.set_cons_zero, List.getD_cons_succ, List.getD_cons_zero, List.set_cons_succ]
          all_goals ((with_reducible apply AP.k_any); first | (refine AP.sm false rfl ?_ ?_; focus ((repeat' (with_reducible apply And.intro)) <;> (first | exact True.intro | exact rfl | omega | decide | (simp; omega) | (simp; done) | assumption | exact .inl rfl | (refine .inr ?_; simp; try omega)))) | fail "no step")
          all_goals (try simp only [nx, Nat.reduceAdd, Nat.reduceSub, BEq.rfl])
          all_goals refine AP.nil ?_
          all_goals exact ⟨rfl, rfl⟩
        · intro h1 h2
          simp [depsOk, Region.binds] at h1 h2
          subst h1
          (repeat (obtain ⟨rfl, h2⟩ := h2))
          (try subst h2)
          (first | (obtain rfl : l9 = false := by grind only) | skip)
          clear hcl
          all_goals simp only [cond_true, cond_false, setT, List.set_cons_succ, List.set_cons_zero, List.getD_cons_succ, List.getD_cons_zero, List.set_cons_succ]
          all_goals ((with_reducible apply AP.k_any); first | refine AP.ME ?_ | refine AP.MF ?_ | fail "no step")
          all_goals (try simp only [nx, Nat.reduceAdd, Nat.reduceSub, BEq.rfl])
          all_goals refine AP.nil ?_
          all_goals exact ⟨rfl, rfl⟩
        · intro h1 h2
          simp [depsOk, Region.binds] at h1 h2
          subst h1
          (repeat (obtain ⟨rfl, h2⟩ := h2))
          (try subst h2)
          clear hcl
          all_goals simp only [cond_true, cond_false, setT, List.set_cons_succ, List.set_cons_zero, List.getD_cons_succ, List.getD_cons_zero, List.set_cons_succ]
          all_goals ((with_reducible apply AP.k_any); first | (refine AP.sm false rfl ?_ ?_; focus ((repeat' (with_reducible apply And.intro)) <;> (first | exact True.intro | exact rfl | omega | decide | (simp; omega) | (simp; done) | assumption | exact .inl rfl | (refine .inr ?_; simp; try omega)))) | fail "no step")
          all_goals (try simp only [nx, Nat.reduceAdd, Nat.reduceSub, BEq.rfl])
          all_goals refine AP.nil ?_
          all_goals exact ⟨rfl, rfl⟩
        · intro h1 h2
          simp [depsOk, Region.binds] at h1 h2
          subst h1
          (repeat (obtain ⟨rfl, h2⟩ := h2))
          (try subst h2)
          (first | (obtain rfl : l7 = true := by grind only) | skip)
          clear hcl
          all_goals simp only [cond_true, cond_false, setT, List.set_cons_succ, List.set_cons_zero, List.getD_cons_succ, List.getD_cons_zero, List.set_cons_succ]
          all_goals ((with_reducible apply AP.k_any); first | refine AP.MS ?_ | fail "no step")
          all_goals (try simp only [nx, Nat.reduceAdd, Nat.reduceSub, BEq.rfl])
          all_goals refine AP.nil ?_
          all_goals exact ⟨rfl, rfl⟩
    simp only [hw]
    repeat' (first
      | ((first
        | ((with_reducible apply AP.k_any); first | refine AP.ST ?_ | (refine AP.Y ?_; dsimp only) | refine AP.G (fun hg => ?_) (fun hg => ?_) | (refine AP.V (fun c hnil => ?_); simp only [nz])  | refine AP.PF ?_)
        ) <;> (try simp only [hw, nx, mx, rn, fq, Nat.mul_one, Bool.and_true, Bool.and_false, Nat.reduceBEq, Nat.reduceAdd, Nat.reduceSub, BEq.rfl]))
      | ((with_reducible apply AP.k_nil); first | (refine AP.nil (hQ' _ ?_); clear hQ' Q') | refine AP.nil ?_)
      | ((with_reducible apply CP.k_reg); refine cp_regG fun Q' hQ' => ?_)
        | (with_reducible apply CP.k_reg1; refine cp_region ?_)
        | ((with_reducible apply CP.k_cond); first | refine cp_condT rfl ?_ | refine cp_condF rfl ?_ | refine cp_cond rfl (fun hc => ?_) (fun hc => ?_))
        | refine CP.go ?_
        | (simp only [List.append_eq, List.cons_append, List.nil_append]))
    (exact RetQ.A [(0, 0)] (by exact ⟨rfl, rfl⟩))
def Ends.send (x : Ends) (to epoch : Int) (body : List UInt8) : (List UInt8 × Int) × Ends := if mayP (x.pkt to epoch body) = true then ((headS (x.pkt to epoch body) ++ tagS x.root (x.pkt to epoch body), 0), x.bump to epoch) else (([], 2), x)
theorem send_ac (x : Ends) (to epoch : Int) (body : List UInt8) (hr : x.root.length ≤ 10000) (hb : body.length ≤ 60000) (hn : 0 ≤ got (to, epoch) x.sent 0 ∧ got (to, epoch) x.sent 0 ≤ 1000000000) :
    AC Try.prog 23 [.bp 0 0 0, I to, I epoch, bs none body] [xE x] (fun v bs' => v = .tu [bs none (x.send to epoch body).1.1, I (x.send to epoch body).1.2] ∧ bs' = [xE (x.send to epoch body).2]) := by
  cases hm : mayP (x.pkt to epoch body) with
  | true =>
    have e : x.send to epoch body = ((headS (x.pkt to epoch body) ++ tagS x.root (x.pkt to epoch body), 0), x.bump to epoch) := if_pos hm
    rw [e]; exact send_ok x to epoch body hr hb hn hm
  | false =>
    have e : x.send to epoch body = (([], 2), x) := if_neg (by rw [hm]; simp)
    rw [e]; exact send_no x to epoch body hr hb hn hm
end Go.Proofs.Ytnjfchigdpifmaa

namespace Go.Proofs.Ytnjfchigdpifmaa
set_option linter.unusedVariables false
set_option linter.unusedSimpArgs false
set_option maxHeartbeats 8000000
open Go.RowKit
set_option maxRecDepth 100000
def Ends.get (x : Ends) (b : List UInt8) : (Pkt × Int) × Ends :=
  if (parseP b).2 ≠ 0 ∨ (parseP b).1.to ≠ x.who then ((pk0, 190), x)
  else if (parseP b).1.tag ≠ tagS x.root (parseP b).1 then ((pk0, 91), x)
  else
    let p := (parseP b).1
    let t := (got (p.frm, p.epoch) x.wins Wn.new).take p.boot p.seqn
    let x' : Ends := { x with wins := puts (p.frm, p.epoch) x.wins t.2 }
    if t.1 ≠ 0 then ((pk0, t.1), x') else ((p, 0), x')
theorem pk0_eP : eP pk0 = eP ⟨0, 0, 0, 0, 0, [], List.replicate 32 0⟩ := rfl
theorem parse_two (b : List UInt8) : parseP b = (pk0, 190) ∨ ((parseP b).2 = 0 ∧ mayP (parseP b).1 = true) := by
  unfold parseP
  split
  · rename_i h; exact .inr ⟨rfl, h.2⟩
  · exact .inl rfl
theorem get_bad (x : Ends) (b : List UInt8) (hb : b.length ≤ 100000000) (h : parseP b = (pk0, 190)) : AC Try.prog 24 [.bp 0 0 0, bs none b] [xE x] (fun v bs' => v = .tu [.ag (eP (x.get b).1.1), I (x.get b).1.2] ∧ bs' = [xE (x.get b).2]) := by
  have e : x.get b = ((pk0, 190), x) := by
    unfold Ends.get
    rw [h, if_pos (.inl (by decide))]
  rw [e]
  have h1 := lnone_ac x
  have h2 := parseP_ac b hb
  rw [h] at h2
  dsimp only at h2 ⊢
  rw [pk0_eP, eP_z] at h2 ⊢
  refine AC.N Try.func24 Try.ntmps24 ?_
  intro X hρ hmks
  simp only [nx, Nat.reduceAdd, Nat.reduceSub, BEq.rfl]
  repeat' (first
    | ((first
      | ((with_reducible apply AP.k_any); first | refine AP.ST ?_ | (refine AP.Y ?_; dsimp only) | refine AP.G (fun hg => ?_) (fun hg => ?_) | (refine AP.V (fun c hnil => ?_); simp only [nz])  | refine AP.PF ?_)
        | ((with_reducible apply DW.k_any); first | refine DW.ST ?_ | ((fail_if_success refine DW.known rfl ?_); refine DW.G (fun hg => ?_) (fun hg => ?_)))
        | ((with_reducible apply DW.k_any); first
                    | refine DW.R ?_ | refine DW.R' ?_ | refine DW.W ?_ | refine DW.W' ?_
                    | (refine DW.known rfl ?_; (with_reducible first | apply DW.sx 2 | apply DW.sxN 2); (iterate 2 (focus (simp only [ft, nm, Nat.reduceAdd, Nat.reduceBEq, List.getElem?_cons_zero, List.getElem?_cons_succ]; exact rfl))); (focus (intro X V; simp only [ft, nm, Nat.reduceAdd, Nat.reduceBEq]; (try (refine AP.Y ?_; dsimp only)); (first  | fail); (try simp only [nx, Nat.reduceAdd, Nat.reduceSub, BEq.rfl]); refine AP.nil ?_; (first | refine ⟨trivial, rfl, ?_⟩ | refine ⟨rfl, rfl, ?_⟩); (repeat' (first | exact Mg.nil | apply Mg.keep rfl | apply Mg.take rfl)); done)); (focus (refine Exists.intro (fun _ => 0) ?_; apply Exists.intro; (repeat' (first | exact Mg.nil | apply Mg.keep rfl | apply Mg.take rfl)); done)); (iterate 2 (focus (exact rfl))))
                    | ((fail_if_success refine DW.known rfl ?_); refine DW.G (fun hg => ?_) (fun hg => ?_))
        )
      ) <;> (try simp only [ nx, mx, rn, fq, Nat.mul_one, Bool.and_true, Bool.and_false, Nat.reduceBEq, Nat.reduceAdd, Nat.reduceSub, BEq.rfl]))
    | ((with_reducible apply AP.k_nil); first | (refine AP.nil (hQ' _ ?_); clear hQ' Q') | refine AP.nil ?_)
    | ((with_reducible apply CP.k_drw); refine cp_drwX fun Q' hQ' => ?_)
    | ((with_reducible apply CP.k_drw1); refine cp_drawX ?_)
    | ((with_reducible apply DW.k_nil); refine DW.nl ?_; first | (refine hQ' _ ?_; clear hQ' Q') | skip)
    | ((with_reducible apply CP.k_reg); refine cp_regG fun Q' hQ' => ?_)
      | (with_reducible apply CP.k_reg1; refine cp_region ?_)
      | ((with_reducible apply CP.k_cond); first | refine cp_condT rfl ?_ | refine cp_condF rfl ?_ | refine cp_cond rfl (fun hc => ?_) (fun hc => ?_))
      | refine CP.go ?_
      | (simp only [List.append_eq, List.cons_append, List.nil_append]))
  (exact RetQ.A [(0, 0)] (by exact ⟨rfl, rfl⟩))
theorem get_far (x : Ends) (b : List UInt8) (hb : b.length ≤ 100000000) (h : (parseP b).2 = 0) (h3 : (parseP b).1.to ≠ x.who) : AC Try.prog 24 [.bp 0 0 0, bs none b] [xE x] (fun v bs' => v = .tu [.ag (eP (x.get b).1.1), I (x.get b).1.2] ∧ bs' = [xE (x.get b).2]) := by
  have e : x.get b = ((pk0, 190), x) := by
    unfold Ends.get
    rw [if_pos (.inr h3)]
  rw [e]
  have h1 := lnone_ac x
  have h2 := parseP_ac b hb
  rw [h] at h2
  generalize (parseP b).1 = p at *
  dsimp only at h2 ⊢
  rw [pk0_eP, eP_z]
  have d1 : (p.to != x.who) = true := by simpa using h3
  refine AC.N Try.func24 Try.ntmps24 ?_
  intro X hρ hmks
  simp only [nx, Nat.reduceAdd, Nat.reduceSub, BEq.rfl]
  repeat' (first
    | ((first
      | ((with_reducible apply AP.k_any); first | refine AP.ST ?_ | (refine AP.Y ?_; dsimp only) | refine AP.G (fun hg => ?_) (fun hg => ?_) | (refine AP.V (fun c hnil => ?_); simp only [nz])  | refine AP.PF ?_)
        | ((with_reducible apply DW.k_any); first | refine DW.ST ?_ | ((fail_if_success refine DW.known rfl ?_); refine DW.G (fun hg => ?_) (fun hg => ?_)))
        | ((with_reducible apply DW.k_any); first
                    | refine DW.R ?_ | refine DW.R' ?_ | refine DW.W ?_ | refine DW.W' ?_
                    | (refine DW.known rfl ?_; (with_reducible first | apply DW.sx 2 | apply DW.sxN 2); (iterate 2 (focus (simp only [ft, nm, Nat.reduceAdd, Nat.reduceBEq, List.getElem?_cons_zero, List.getElem?_cons_succ]; exact rfl))); (focus (intro X V; simp only [ft, nm, Nat.reduceAdd, Nat.reduceBEq]; (try (refine AP.Y ?_; dsimp only)); (first  | fail); (try simp only [nx, Nat.reduceAdd, Nat.reduceSub, BEq.rfl]); refine AP.nil ?_; (first | refine ⟨trivial, rfl, ?_⟩ | refine ⟨rfl, rfl, ?_⟩); (repeat' (first | exact Mg.nil | apply Mg.keep rfl | apply Mg.take rfl)); done)); (focus (refine Exists.intro (fun _ => 0) ?_; apply Exists.intro; (repeat' (first | exact Mg.nil | apply Mg.keep rfl | apply Mg.take rfl)); done)); (iterate 2 (focus (exact rfl))))
                    | ((fail_if_success refine DW.known rfl ?_); refine DW.G (fun hg => ?_) (fun hg => ?_))
        )
      ) <;> (try simp only [d1, nx, mx, rn, fq, Nat.mul_one, Bool.and_true, Bool.and_false, Nat.reduceBEq, Nat.reduceAdd, Nat.reduceSub, BEq.rfl]))
    | ((with_reducible apply AP.k_nil); first | (refine AP.nil (hQ' _ ?_); clear hQ' Q') | refine AP.nil ?_)
    | ((with_reducible apply CP.k_drw); refine cp_drwX fun Q' hQ' => ?_)
    | ((with_reducible apply CP.k_drw1); refine cp_drawX ?_)
    | ((with_reducible apply DW.k_nil); refine DW.nl ?_; first | (refine hQ' _ ?_; clear hQ' Q') | skip)
    | ((with_reducible apply CP.k_reg); refine cp_regG fun Q' hQ' => ?_)
      | (with_reducible apply CP.k_reg1; refine cp_region ?_)
      | ((with_reducible apply CP.k_cond); first | refine cp_condT rfl ?_ | refine cp_condF rfl ?_ | refine cp_cond rfl (fun hc => ?_) (fun hc => ?_))
      | refine CP.go ?_
      | (simp only [List.append_eq, List.cons_append, List.nil_append]))
  (exact RetQ.A [(0, 0)] (by exact ⟨rfl, rfl⟩))
theorem get_tag (x : Ends) (b : List UInt8) (hb : b.length ≤ 60000) (hr : x.root.length ≤ 10000) (h : (parseP b).2 = 0) (h3 : (parseP b).1.to = x.who) (h4 : (parseP b).1.tag ≠ tagS x.root (parseP b).1) : AC Try.prog 24 [.bp 0 0 0, bs none b] [xE x] (fun v bs' => v = .tu [.ag (eP (x.get b).1.1), I (x.get b).1.2] ∧ bs' = [xE (x.get b).2]) := by
  have e : x.get b = ((pk0, 91), x) := by
    unfold Ends.get
    rw [if_neg (by rw [h, h3]; simp), if_pos h4]
  rw [e]
  have h1 := lnone_ac x
  have h2 := parseP_ac b (by omega)
  have hbl := parseP_body b hb
  have htl := parseP_tag b
  rw [h] at h2
  generalize (parseP b).1 = p at *
  have h5 := right_ac x.root p hr hbl htl
  rw [decide_eq_false h4] at h5
  dsimp only at h2 ⊢
  rw [pk0_eP, eP_z]
  have d1 : (p.to != x.who) = false := by simpa using h3
  clear h4 e
  refine AC.N Try.func24 Try.ntmps24 ?_
  intro X hρ hmks
  simp only [nx, Nat.reduceAdd, Nat.reduceSub, BEq.rfl]
  repeat' (first
    | ((first
      | ((with_reducible apply AP.k_any); first | refine AP.ST ?_ | (refine AP.Y ?_; dsimp only) | refine AP.G (fun hg => ?_) (fun hg => ?_) | (refine AP.V (fun c hnil => ?_); simp only [nz])  | refine AP.PF ?_)
        | ((with_reducible apply DW.k_any); first | refine DW.ST ?_ | ((fail_if_success refine DW.known rfl ?_); refine DW.G (fun hg => ?_) (fun hg => ?_)))
        | ((with_reducible apply DW.k_any); first
                    | refine DW.R ?_ | refine DW.R' ?_ | refine DW.W ?_ | refine DW.W' ?_
                    | (refine DW.known rfl ?_; (with_reducible first | apply DW.sx 2 | apply DW.sxN 2); (iterate 2 (focus (simp only [ft, nm, Nat.reduceAdd, Nat.reduceBEq, List.getElem?_cons_zero, List.getElem?_cons_succ]; exact rfl))); (focus (intro X V; simp only [ft, nm, Nat.reduceAdd, Nat.reduceBEq]; (try (refine AP.Y ?_; dsimp only)); (first  | fail); (try simp only [nx, Nat.reduceAdd, Nat.reduceSub, BEq.rfl]); refine AP.nil ?_; (first | refine ⟨trivial, rfl, ?_⟩ | refine ⟨rfl, rfl, ?_⟩); (repeat' (first | exact Mg.nil | apply Mg.keep rfl | apply Mg.take rfl)); done)); (focus (refine Exists.intro (fun _ => 0) ?_; apply Exists.intro; (repeat' (first | exact Mg.nil | apply Mg.keep rfl | apply Mg.take rfl)); done)); (iterate 2 (focus (exact rfl))))
                    | ((fail_if_success refine DW.known rfl ?_); refine DW.G (fun hg => ?_) (fun hg => ?_))
        )
      ) <;> (try simp only [d1, nx, mx, rn, fq, Nat.mul_one, Bool.and_true, Bool.and_false, Nat.reduceBEq, Nat.reduceAdd, Nat.reduceSub, BEq.rfl]))
    | ((with_reducible apply AP.k_nil); first | (refine AP.nil (hQ' _ ?_); clear hQ' Q') | refine AP.nil ?_)
    | ((with_reducible apply CP.k_drw); refine cp_drwX fun Q' hQ' => ?_)
    | ((with_reducible apply CP.k_drw1); refine cp_drawX ?_)
    | ((with_reducible apply DW.k_nil); refine DW.nl ?_; first | (refine hQ' _ ?_; clear hQ' Q') | skip)
    | ((with_reducible apply CP.k_reg); refine cp_regG fun Q' hQ' => ?_)
      | (with_reducible apply CP.k_reg1; refine cp_region ?_)
      | ((with_reducible apply CP.k_cond); first | refine cp_condT rfl ?_ | refine cp_condF rfl ?_ | refine cp_cond rfl (fun hc => ?_) (fun hc => ?_))
      | refine CP.go ?_
      | (simp only [List.append_eq, List.cons_append, List.nil_append]))
  (exact RetQ.A [(0, 0)] (by exact ⟨rfl, rfl⟩))
end Go.Proofs.Ytnjfchigdpifmaa

namespace Go.Proofs.Ytnjfchigdpifmaa
set_option linter.unusedVariables false
set_option linter.unusedSimpArgs false
set_option maxHeartbeats 8000000
open Go.RowKit
set_option maxRecDepth 100000
theorem mayP_of {p : Pkt} (h : mayP p = true) : 1 ≤ p.epoch ∧ 0 ≤ p.boot ∧ 1 ≤ p.seqn := by
  simp only [mayP, Bool.and_eq_true, decide_eq_true_eq] at h
  exact ⟨h.1.1.2, h.1.2, h.2⟩
theorem take_two (w : Wn) (boot n : Int) (h0 : 0 ≤ boot) (h1 : 1 ≤ n) : w.take boot n = (0, w.after boot n) ∨ w.take boot n = (180, w) := by
  unfold Wn.take
  rw [if_neg (by omega)]
  split
  · exact .inl rfl
  · exact .inr rfl
theorem get_go (x : Ends) (b : List UInt8) (h : (parseP b).2 = 0) (h3 : (parseP b).1.to = x.who) (h4 : (parseP b).1.tag = tagS x.root (parseP b).1) :
    x.get b = (let p := (parseP b).1
    let t := (got (p.frm, p.epoch) x.wins Wn.new).take p.boot p.seqn
    let x' : Ends := { x with wins := puts (p.frm, p.epoch) x.wins t.2 }
    if t.1 ≠ 0 then ((pk0, t.1), x') else ((p, 0), x')) := by
  unfold Ends.get
  rw [if_neg (by rw [h, h3]; simp), if_neg (by rw [← h4]; simp)]
theorem get_new (x : Ends) (b : List UInt8) (hb : b.length ≤ 60000) (hr : x.root.length ≤ 10000) (h : (parseP b).2 = 0) (h3 : (parseP b).1.to = x.who) (h4 : (parseP b).1.tag = tagS x.root (parseP b).1) (hm : mayP (parseP b).1 = true)
    (ha : at_ ((parseP b).1.frm, (parseP b).1.epoch) x.wins = none) : AC Try.prog 24 [.bp 0 0 0, bs none b] [xE x] (fun v bs' => v = .tu [.ag (eP (x.get b).1.1), I (x.get b).1.2] ∧ bs' = [xE (x.get b).2]) := by
  rw [get_go x b h h3 h4]
  have h1 := lnone_ac x
  have h2 := parseP_ac b (by omega)
  have hbl := parseP_body b hb
  have htl := parseP_tag b
  have hsq := parseP_seqn b
  rw [h] at h2
  generalize (parseP b).1 = p at *
  have h5 := right_ac x.root p hr hbl htl
  rw [decide_eq_true h4] at h5
  obtain ⟨he, hbo, hs⟩ := mayP_of hm
  have hg : got (p.frm, p.epoch) x.wins Wn.new = Wn.new := by unfold got; rw [ha]
  have hp : ∀ w1, puts (p.frm, p.epoch) x.wins w1 = x.wins ++ [((p.frm, p.epoch), w1)] := fun w1 => by unfold puts; rw [ha]
  dsimp only
  rw [hg]
  have h6 := wnew18_ac
  have h7 := take18_ac Wn.new p.boot p.seqn hsq (by unfold Wn.ok Wn.new; decide)
  have hk := kinS x.wins
  have hk1 : ∀ k ∈ keyW x.wins ++ [.agg #[.int .i64 p.frm, .int .i64 p.epoch]], isKey Try.prog tSd [.i .i64, .i .i64] k = true := kin _ fun k hk => by
    rcases List.mem_append.1 hk with hk | hk
    · obtain ⟨p, _, rfl⟩ := List.mem_map.1 hk; exact ⟨_, rfl⟩
    · simp at hk; exact ⟨(p.frm, p.epoch), hk⟩
  have hf := fnd_at_ (p.frm, p.epoch) x.wins
  have hf1 : fnd (kS (p.frm, p.epoch)) (keyW x.wins ++ [.agg #[.int .i64 p.frm, .int .i64 p.epoch]]) = some x.wins.length := by
    rw [fnd_app (by rw [hf, ha])]
    have := kEq_kS (p.frm, p.epoch) (p.frm, p.epoch)
    rw [decide_eq_true rfl] at this
    simp [fnd, this]
  rw [ha] at hf
  have e1 : ∀ w1, xE { x with wins := puts (p.frm, p.epoch) x.wins w1 } = .c tEn [B true, bs none x.root, I x.who, I x.boot, .mo (keyN x.sent) (rowN x.sent), .mo (keyW x.wins ++ [.agg #[.int .i64 p.frm, .int .i64 p.epoch]]) ((rowW x.wins ++ [[AV.de]]).set x.wins.length [.ob tWn (wC w1)])] := fun w1 => by
    have e2 : (rowW x.wins ++ [[AV.de]]).set x.wins.length [.ob tWn (wC w1)] = rowW x.wins ++ [[.ob tWn (wC w1)]] := by
      rw [List.set_append_right _ _ (by simp)]; simp
    rw [e2, hp]
    simp only [xE, enE, keyW, rowW, List.map_append, List.map_cons, List.map_nil]
  have d1 : (p.to != x.who) = false := by simpa using h3
  clear h4 hp
  rcases take_two Wn.new p.boot p.seqn hbo hs with ht | ht
  · rw [ht] at h7 ⊢
    dsimp only at h7 ⊢
    generalize Wn.new.after p.boot p.seqn = w1 at *
    rw [if_neg (by decide)]
    dsimp only
    rw [e1]
    clear e1
    generalize Wn.new = w0 at *
    refine AC.N Try.func24 Try.ntmps24 ?_
    intro X hρ hmks
    simp only [nx, Nat.reduceAdd, Nat.reduceSub, BEq.rfl]
    refine CP.gh gh_slot ?_; simp only [nx, Nat.reduceAdd, Nat.reduceSub, BEq.rfl]
    refine CP.gh gh_slot ?_; simp only [nx, Nat.reduceAdd, Nat.reduceSub, BEq.rfl]
    refine CP.gh gh_slot ?_; simp only [nx, Nat.reduceAdd, Nat.reduceSub, BEq.rfl]
    refine CP.gh gh_slot ?_; simp only [nx, Nat.reduceAdd, Nat.reduceSub, BEq.rfl]
    refine CP.gh gh_slot ?_; simp only [nx, Nat.reduceAdd, Nat.reduceSub, BEq.rfl]
    repeat' (first
      | ((first
        | ((with_reducible apply AP.k_any); first | refine AP.ST ?_ | (refine AP.Y ?_; dsimp only) | refine AP.G (fun hg => ?_) (fun hg => ?_) | (refine AP.V (fun c hnil => ?_); simp only [nz]) | ((with_reducible apply AP.k_any); refine AP.B 1 (h6) ?_) | ((with_reducible apply AP.k_any); refine AP.B 0 (h7) ?_) | refine AP.PF ?_)
          | ((with_reducible apply DW.k_any); first | refine DW.ST ?_ | ((fail_if_success refine DW.known rfl ?_); refine DW.G (fun hg => ?_) (fun hg => ?_)))
          | ((with_reducible apply DW.k_any); first
                      | refine DW.R ?_ | refine DW.R' ?_ | refine DW.W ?_ | refine DW.W' ?_
                      | (refine DW.known rfl ?_; (with_reducible first | apply DW.sx 2 | apply DW.sxN 2); (iterate 2 (focus (simp only [ft, nm, Nat.reduceAdd, Nat.reduceBEq, List.getElem?_cons_zero, List.getElem?_cons_succ]; exact rfl))); (focus (intro X V; simp only [ft, nm, Nat.reduceAdd, Nat.reduceBEq]; (try (refine AP.Y ?_; dsimp only)); (first | ((with_reducible apply AP.k_any); refine AP.B 1 (h6) ?_) | ((with_reducible apply AP.k_any); refine AP.B 0 (h7) ?_) | fail); (try simp only [nx, Nat.reduceAdd, Nat.reduceSub, BEq.rfl]); refine AP.nil ?_; (first | refine ⟨trivial, rfl, ?_⟩ | refine ⟨rfl, rfl, ?_⟩); (repeat' (first | exact Mg.nil | apply Mg.keep rfl | apply Mg.take rfl)); done)); (focus (refine Exists.intro (fun _ => 0) ?_; apply Exists.intro; (repeat' (first | exact Mg.nil | apply Mg.keep rfl | apply Mg.take rfl)); done)); (iterate 2 (focus (exact rfl))))
                      | ((fail_if_success refine DW.known rfl ?_); refine DW.G (fun hg => ?_) (fun hg => ?_))
          )
        ) <;> (try simp only [d1, nx, mx, rn, fq, Nat.mul_one, Bool.and_true, Bool.and_false, Nat.reduceBEq, Nat.reduceAdd, Nat.reduceSub, BEq.rfl]))
      | ((with_reducible apply AP.k_nil); first | (refine AP.nil (hQ' _ ?_); clear hQ' Q') | refine AP.nil ?_)
      | ((with_reducible apply CP.k_drw); refine cp_drwX fun Q' hQ' => ?_)
      | ((with_reducible apply CP.k_drw1); refine cp_drawX ?_)
      | ((with_reducible apply DW.k_nil); refine DW.nl ?_; first | (refine hQ' _ ?_; clear hQ' Q') | skip)
      | ((with_reducible apply CP.k_reg); refine cp_regG fun Q' hQ' => ?_)
        | (with_reducible apply CP.k_reg1; refine cp_region ?_)
        | ((with_reducible apply CP.k_cond); first | refine cp_condT rfl ?_ | refine cp_condF rfl ?_ | refine cp_cond rfl (fun hc => ?_) (fun hc => ?_))
        | refine CP.go ?_
        | (simp only [List.append_eq, List.cons_append, List.nil_append]))
    (exact RetQ.A [(0, 0)] (by exact ⟨rfl, rfl⟩))
  · rw [ht] at h7 ⊢
    dsimp only at h7 ⊢
    rw [if_pos (by decide)]
    dsimp only
    rw [e1, pk0_eP, eP_z]
    clear e1
    generalize Wn.new = w0 at *
    refine AC.N Try.func24 Try.ntmps24 ?_
    intro X hρ hmks
    simp only [nx, Nat.reduceAdd, Nat.reduceSub, BEq.rfl]
    refine CP.gh gh_slot ?_; simp only [nx, Nat.reduceAdd, Nat.reduceSub, BEq.rfl]
    refine CP.gh gh_slot ?_; simp only [nx, Nat.reduceAdd, Nat.reduceSub, BEq.rfl]
    refine CP.gh gh_slot ?_; simp only [nx, Nat.reduceAdd, Nat.reduceSub, BEq.rfl]
    refine CP.gh gh_slot ?_; simp only [nx, Nat.reduceAdd, Nat.reduceSub, BEq.rfl]
    refine CP.gh gh_slot ?_; simp only [nx, Nat.reduceAdd, Nat.reduceSub, BEq.rfl]
    repeat' (first
      | ((first
        | ((with_reducible apply AP.k_any); first | refine AP.ST ?_ | (refine AP.Y ?_; dsimp only) | refine AP.G (fun hg => ?_) (fun hg => ?_) | (refine AP.V (fun c hnil => ?_); simp only [nz]) | ((with_reducible apply AP.k_any); refine AP.B 1 (h6) ?_) | ((with_reducible apply AP.k_any); refine AP.B 0 (h7) ?_) | refine AP.PF ?_)
          | ((with_reducible apply DW.k_any); first | refine DW.ST ?_ | ((fail_if_success refine DW.known rfl ?_); refine DW.G (fun hg => ?_) (fun hg => ?_)))
          | ((with_reducible apply DW.k_any); first
                      | refine DW.R ?_ | refine DW.R' ?_ | refine DW.W ?_ | refine DW.W' ?_
                      | (refine DW.known rfl ?_; (with_reducible first | apply DW.sx 2 | apply DW.sxN 2); (iterate 2 (focus (simp only [ft, nm, Nat.reduceAdd, Nat.reduceBEq, List.getElem?_cons_zero, List.getElem?_cons_succ]; exact rfl))); (focus (intro X V; simp only [ft, nm, Nat.reduceAdd, Nat.reduceBEq]; (try (refine AP.Y ?_; dsimp only)); (first | ((with_reducible apply AP.k_any); refine AP.B 1 (h6) ?_) | ((with_reducible apply AP.k_any); refine AP.B 0 (h7) ?_) | fail); (try simp only [nx, Nat.reduceAdd, Nat.reduceSub, BEq.rfl]); refine AP.nil ?_; (first | refine ⟨trivial, rfl, ?_⟩ | refine ⟨rfl, rfl, ?_⟩); (repeat' (first | exact Mg.nil | apply Mg.keep rfl | apply Mg.take rfl)); done)); (focus (refine Exists.intro (fun _ => 0) ?_; apply Exists.intro; (repeat' (first | exact Mg.nil | apply Mg.keep rfl | apply Mg.take rfl)); done)); (iterate 2 (focus (exact rfl))))
                      | ((fail_if_success refine DW.known rfl ?_); refine DW.G (fun hg => ?_) (fun hg => ?_))
          )
        ) <;> (try simp only [d1, nx, mx, rn, fq, Nat.mul_one, Bool.and_true, Bool.and_false, Nat.reduceBEq, Nat.reduceAdd, Nat.reduceSub, BEq.rfl]))
      | ((with_reducible apply AP.k_nil); first | (refine AP.nil (hQ' _ ?_); clear hQ' Q') | refine AP.nil ?_)
      | ((with_reducible apply CP.k_drw); refine cp_drwX fun Q' hQ' => ?_)
      | ((with_reducible apply CP.k_drw1); refine cp_drawX ?_)
      | ((with_reducible apply DW.k_nil); refine DW.nl ?_; first | (refine hQ' _ ?_; clear hQ' Q') | skip)
      | ((with_reducible apply CP.k_reg); refine cp_regG fun Q' hQ' => ?_)
        | (with_reducible apply CP.k_reg1; refine cp_region ?_)
        | ((with_reducible apply CP.k_cond); first | refine cp_condT rfl ?_ | refine cp_condF rfl ?_ | refine cp_cond rfl (fun hc => ?_) (fun hc => ?_))
        | refine CP.go ?_
        | (simp only [List.append_eq, List.cons_append, List.nil_append]))
    (exact RetQ.A [(0, 0)] (by exact ⟨rfl, rfl⟩))
end Go.Proofs.Ytnjfchigdpifmaa

namespace Go.Proofs.Ytnjfchigdpifmaa
set_option linter.unusedVariables false
set_option linter.unusedSimpArgs false
set_option maxHeartbeats 8000000
open Go.RowKit
set_option maxRecDepth 100000
theorem get_old (x : Ends) (b : List UInt8) (hb : b.length ≤ 60000) (hr : x.root.length ≤ 10000) (hwo : ∀ q ∈ x.wins, q.2.ok) (h : (parseP b).2 = 0) (h3 : (parseP b).1.to = x.who) (h4 : (parseP b).1.tag = tagS x.root (parseP b).1) (hm : mayP (parseP b).1 = true)
    {n : Nat} (ha : at_ ((parseP b).1.frm, (parseP b).1.epoch) x.wins = some n) : AC Try.prog 24 [.bp 0 0 0, bs none b] [xE x] (fun v bs' => v = .tu [.ag (eP (x.get b).1.1), I (x.get b).1.2] ∧ bs' = [xE (x.get b).2]) := by
  rw [get_go x b h h3 h4]
  have h1 := lnone_ac x
  have h2 := parseP_ac b (by omega)
  have hbl := parseP_body b hb
  have htl := parseP_tag b
  have hsq := parseP_seqn b
  rw [h] at h2
  generalize (parseP b).1 = p at *
  have h5 := right_ac x.root p hr hbl htl
  rw [decide_eq_true h4] at h5
  obtain ⟨he, hbo, hs⟩ := mayP_of hm
  obtain ⟨w, hv⟩ := at_some ha
  have hg : got (p.frm, p.epoch) x.wins Wn.new = w := by unfold got; rw [ha]; dsimp only; rw [hv]
  have hp : ∀ w1, puts (p.frm, p.epoch) x.wins w1 = x.wins.set n ((p.frm, p.epoch), w1) := fun w1 => by unfold puts; rw [ha]
  dsimp only
  rw [hg]
  have h7 := take18_ac w p.boot p.seqn hsq (hwo _ (List.mem_of_getElem? hv))
  have hk := kinS x.wins
  have hf := fnd_at_ (p.frm, p.epoch) x.wins
  rw [ha] at hf
  have e1 : ∀ w1, xE { x with wins := puts (p.frm, p.epoch) x.wins w1 } = .c tEn [B true, bs none x.root, I x.who, I x.boot, .mo (keyN x.sent) (rowN x.sent), .mo (keyW x.wins) ((rowW x.wins).set n [.ob tWn (wC w1)])] := fun w1 => by
    rw [hp]
    have e2 := puts_keys ha w1
    have e3 : (x.wins.set n ((p.frm, p.epoch), w1)).map (fun p : Sd × Wn => [AV.ob tWn (wC p.2)]) = (rowW x.wins).set n [.ob tWn (wC w1)] := by rw [List.map_set]
    dsimp only [xE, enE, keyW, rowW]
    rw [e2, e3]
  have hc : (rowW x.wins)[n]? = some [.ob tWn (wC w)] := by rw [List.getElem?_map, hv]; rfl
  have d1 : (p.to != x.who) = false := by simpa using h3
  clear h4 hp
  rcases take_two w p.boot p.seqn hbo hs with ht | ht
  · rw [ht] at h7 ⊢
    dsimp only at h7 ⊢
    generalize w.after p.boot p.seqn = w1 at *
    rw [if_neg (by decide)]
    dsimp only
    rw [e1]
    clear e1
    refine AC.N Try.func24 Try.ntmps24 ?_
    intro X hρ hmks
    simp only [nx, Nat.reduceAdd, Nat.reduceSub, BEq.rfl]
    refine CP.gh gh_slot ?_; simp only [nx, Nat.reduceAdd, Nat.reduceSub, BEq.rfl]
    refine CP.gh gh_slot ?_; simp only [nx, Nat.reduceAdd, Nat.reduceSub, BEq.rfl]
    refine CP.gh gh_slot ?_; simp only [nx, Nat.reduceAdd, Nat.reduceSub, BEq.rfl]
    refine CP.gh gh_slot ?_; simp only [nx, Nat.reduceAdd, Nat.reduceSub, BEq.rfl]
    repeat' (first
      | ((first
        | ((with_reducible apply AP.k_any); first | refine AP.ST ?_ | (refine AP.Y ?_; dsimp only) | refine AP.G (fun hg => ?_) (fun hg => ?_) | (refine AP.V (fun c hnil => ?_); simp only [nz])  | refine AP.PF ?_)
        ) <;> (try simp only [d1, nx, mx, rn, fq, Nat.mul_one, Bool.and_true, Bool.and_false, Nat.reduceBEq, Nat.reduceAdd, Nat.reduceSub, BEq.rfl]))
      | ((with_reducible apply AP.k_nil); first | (refine AP.nil (hQ' _ ?_); clear hQ' Q') | refine AP.nil ?_)
      | ((with_reducible apply CP.k_reg); refine cp_regG fun Q' hQ' => ?_)
        | (with_reducible apply CP.k_reg1; refine cp_region ?_)
        | ((with_reducible apply CP.k_cond); first | refine cp_condT rfl ?_ | refine cp_condF rfl ?_ | refine cp_cond rfl (fun hc => ?_) (fun hc => ?_))
        | refine CP.go ?_
        | (simp only [List.append_eq, List.cons_append, List.nil_append]))
    first | refine cp_drwX fun Q' hQ' => ?_ | refine cp_drawX ?_
    repeat' (first
      | ((first
        | ((with_reducible apply AP.k_any); first | refine AP.ST ?_ | (refine AP.Y ?_; dsimp only) | refine AP.G (fun hg => ?_) (fun hg => ?_) | (refine AP.V (fun c hnil => ?_); simp only [nz])  | refine AP.PF ?_)
          | ((with_reducible apply DW.k_any); first | refine DW.ST ?_ | ((fail_if_success refine DW.known rfl ?_); refine DW.G (fun hg => ?_) (fun hg => ?_)))
          | ((with_reducible apply DW.k_any); first
                      | refine DW.R ?_ | refine DW.R' ?_ | refine DW.W ?_ | refine DW.W' ?_
                      | (refine DW.known rfl ?_; (with_reducible first | apply DW.sx 2 | apply DW.sxN 2); (iterate 2 (focus (simp only [ft, nm, Nat.reduceAdd, Nat.reduceBEq, List.getElem?_cons_zero, List.getElem?_cons_succ]; exact rfl))); (focus (intro X V; simp only [ft, nm, Nat.reduceAdd, Nat.reduceBEq]; (try (refine AP.Y ?_; dsimp only)); (first  | fail); (try simp only [nx, Nat.reduceAdd, Nat.reduceSub, BEq.rfl]); refine AP.nil ?_; (first | refine ⟨trivial, rfl, ?_⟩ | refine ⟨rfl, rfl, ?_⟩); (repeat' (first | exact Mg.nil | apply Mg.keep rfl | apply Mg.take rfl)); done)); (focus (refine Exists.intro (fun _ => 0) ?_; apply Exists.intro; (repeat' (first | exact Mg.nil | apply Mg.keep rfl | apply Mg.take rfl)); done)); (iterate 2 (focus (exact rfl))))
                      | ((fail_if_success refine DW.known rfl ?_); refine DW.G (fun hg => ?_) (fun hg => ?_))
          )
        ) <;> (try simp only [d1, nx, mx, rn, fq, Nat.mul_one, Bool.and_true, Bool.and_false, Nat.reduceBEq, Nat.reduceAdd, Nat.reduceSub, BEq.rfl]))
      | ((with_reducible apply AP.k_nil); first | (refine AP.nil (hQ' _ ?_); clear hQ' Q') | refine AP.nil ?_)
      | ((with_reducible apply DW.k_nil); refine DW.nl ?_; first | (refine hQ' _ ?_; clear hQ' Q') | skip)
      | ((with_reducible apply CP.k_reg); refine cp_regG fun Q' hQ' => ?_)
        | (with_reducible apply CP.k_reg1; refine cp_region ?_)
        | ((with_reducible apply CP.k_cond); first | refine cp_condT rfl ?_ | refine cp_condF rfl ?_ | refine cp_cond rfl (fun hc => ?_) (fun hc => ?_))
        | refine CP.go ?_
        | (simp only [List.append_eq, List.cons_append, List.nil_append]))
    first | refine cp_drwX fun Q' hQ' => ?_ | refine cp_drawX ?_
    repeat' (first
      | ((first
        | ((with_reducible apply AP.k_any); first | refine AP.ST ?_ | (refine AP.Y ?_; dsimp only) | refine AP.G (fun hg => ?_) (fun hg => ?_) | (refine AP.V (fun c hnil => ?_); simp only [nz])  | refine AP.PF ?_)
          | ((with_reducible apply DW.k_any); first | refine DW.ST ?_ | ((fail_if_success refine DW.known rfl ?_); refine DW.G (fun hg => ?_) (fun hg => ?_)))
          | ((with_reducible apply DW.k_any); first
                      | refine DW.R ?_ | refine DW.R' ?_ | refine DW.W ?_ | refine DW.W' ?_
                      | (refine DW.known rfl ?_; (with_reducible first | apply DW.sx 2 | apply DW.sxN 2); (iterate 2 (focus (simp only [ft, nm, Nat.reduceAdd, Nat.reduceBEq, List.getElem?_cons_zero, List.getElem?_cons_succ]; exact rfl))); (focus (intro X V; simp only [ft, nm, Nat.reduceAdd, Nat.reduceBEq]; (try (refine AP.Y ?_; dsimp only)); (first  | fail); (try simp only [nx, Nat.reduceAdd, Nat.reduceSub, BEq.rfl]); refine AP.nil ?_; (first | refine ⟨trivial, rfl, ?_⟩ | refine ⟨rfl, rfl, ?_⟩); (repeat' (first | exact Mg.nil | apply Mg.keep rfl | apply Mg.take rfl)); done)); (focus (refine Exists.intro (fun _ => 0) ?_; apply Exists.intro; (repeat' (first | exact Mg.nil | apply Mg.keep rfl | apply Mg.take rfl)); done)); (iterate 2 (focus (exact rfl))))
                      | ((fail_if_success refine DW.known rfl ?_); refine DW.G (fun hg => ?_) (fun hg => ?_))
          )
        ) <;> (try simp only [d1, nx, mx, rn, fq, Nat.mul_one, Bool.and_true, Bool.and_false, Nat.reduceBEq, Nat.reduceAdd, Nat.reduceSub, BEq.rfl]))
      | ((with_reducible apply AP.k_nil); first | (refine AP.nil (hQ' _ ?_); clear hQ' Q') | refine AP.nil ?_)
      | ((with_reducible apply DW.k_nil); refine DW.nl ?_; first | (refine hQ' _ ?_; clear hQ' Q') | skip)
      | ((with_reducible apply CP.k_reg); refine cp_regG fun Q' hQ' => ?_)
        | (with_reducible apply CP.k_reg1; refine cp_region ?_)
        | ((with_reducible apply CP.k_cond); first | refine cp_condT rfl ?_ | refine cp_condF rfl ?_ | refine cp_cond rfl (fun hc => ?_) (fun hc => ?_))
        | refine CP.go ?_
        | (simp only [List.append_eq, List.cons_append, List.nil_append]))
    refine CP.gh (gh_openM (j := 2) (n := n) rfl hc rfl rfl) ?_
    simp only [nx, Nat.reduceAdd, Nat.reduceSub, BEq.rfl]
    repeat' (first
      | ((first
        | ((with_reducible apply AP.k_any); first | refine AP.ST ?_ | (refine AP.Y ?_; dsimp only) | refine AP.G (fun hg => ?_) (fun hg => ?_) | (refine AP.V (fun c hnil => ?_); simp only [nz]) | ((with_reducible apply AP.k_any); refine AP.B 0 (h7) ?_) | refine AP.PF ?_)
          | ((with_reducible apply DW.k_any); first | refine DW.ST ?_ | ((fail_if_success refine DW.known rfl ?_); refine DW.G (fun hg => ?_) (fun hg => ?_)))
          | ((with_reducible apply DW.k_any); first
                      | refine DW.R ?_ | refine DW.R' ?_ | refine DW.W ?_ | refine DW.W' ?_
                      | (refine DW.known rfl ?_; (with_reducible first | apply DW.sx 2 | apply DW.sxN 2); (iterate 2 (focus (simp only [ft, nm, Nat.reduceAdd, Nat.reduceBEq, List.getElem?_cons_zero, List.getElem?_cons_succ]; exact rfl))); (focus (intro X V; simp only [ft, nm, Nat.reduceAdd, Nat.reduceBEq]; (try (refine AP.Y ?_; dsimp only)); (first | ((with_reducible apply AP.k_any); refine AP.B 0 (h7) ?_) | fail); (try simp only [nx, Nat.reduceAdd, Nat.reduceSub, BEq.rfl]); refine AP.nil ?_; (first | refine ⟨trivial, rfl, ?_⟩ | refine ⟨rfl, rfl, ?_⟩); (repeat' (first | exact Mg.nil | apply Mg.keep rfl | apply Mg.take rfl)); done)); (focus (refine Exists.intro (fun _ => 0) ?_; apply Exists.intro; (repeat' (first | exact Mg.nil | apply Mg.keep rfl | apply Mg.take rfl)); done)); (iterate 2 (focus (exact rfl))))
                      | ((fail_if_success refine DW.known rfl ?_); refine DW.G (fun hg => ?_) (fun hg => ?_))
          )
        ) <;> (try simp only [d1, nx, mx, rn, fq, Nat.mul_one, Bool.and_true, Bool.and_false, Nat.reduceBEq, Nat.reduceAdd, Nat.reduceSub, BEq.rfl]))
      | ((with_reducible apply AP.k_nil); first | (refine AP.nil (hQ' _ ?_); clear hQ' Q') | refine AP.nil ?_)
      | ((with_reducible apply CP.k_drw); refine cp_drwX fun Q' hQ' => ?_)
      | ((with_reducible apply CP.k_drw1); refine cp_drawX ?_)
      | ((with_reducible apply DW.k_nil); refine DW.nl ?_; first | (refine hQ' _ ?_; clear hQ' Q') | skip)
      | ((with_reducible apply CP.k_reg); refine cp_regG fun Q' hQ' => ?_)
        | (with_reducible apply CP.k_reg1; refine cp_region ?_)
        | ((with_reducible apply CP.k_cond); first | refine cp_condT rfl ?_ | refine cp_condF rfl ?_ | refine cp_cond rfl (fun hc => ?_) (fun hc => ?_))
        | refine CP.go ?_
        | (simp only [List.append_eq, List.cons_append, List.nil_append]))
    (exact RetQ.A [(0, 0)] (by exact ⟨rfl, rfl⟩))
  · rw [ht] at h7 ⊢
    dsimp only at h7 ⊢
    rw [if_pos (by decide)]
    dsimp only
    rw [e1, pk0_eP, eP_z]
    clear e1
    refine AC.N Try.func24 Try.ntmps24 ?_
    intro X hρ hmks
    simp only [nx, Nat.reduceAdd, Nat.reduceSub, BEq.rfl]
    refine CP.gh gh_slot ?_; simp only [nx, Nat.reduceAdd, Nat.reduceSub, BEq.rfl]
    refine CP.gh gh_slot ?_; simp only [nx, Nat.reduceAdd, Nat.reduceSub, BEq.rfl]
    refine CP.gh gh_slot ?_; simp only [nx, Nat.reduceAdd, Nat.reduceSub, BEq.rfl]
    refine CP.gh gh_slot ?_; simp only [nx, Nat.reduceAdd, Nat.reduceSub, BEq.rfl]
    repeat' (first
      | ((first
        | ((with_reducible apply AP.k_any); first | refine AP.ST ?_ | (refine AP.Y ?_; dsimp only) | refine AP.G (fun hg => ?_) (fun hg => ?_) | (refine AP.V (fun c hnil => ?_); simp only [nz])  | refine AP.PF ?_)
        ) <;> (try simp only [d1, nx, mx, rn, fq, Nat.mul_one, Bool.and_true, Bool.and_false, Nat.reduceBEq, Nat.reduceAdd, Nat.reduceSub, BEq.rfl]))
      | ((with_reducible apply AP.k_nil); first | (refine AP.nil (hQ' _ ?_); clear hQ' Q') | refine AP.nil ?_)
      | ((with_reducible apply CP.k_reg); refine cp_regG fun Q' hQ' => ?_)
        | (with_reducible apply CP.k_reg1; refine cp_region ?_)
        | ((with_reducible apply CP.k_cond); first | refine cp_condT rfl ?_ | refine cp_condF rfl ?_ | refine cp_cond rfl (fun hc => ?_) (fun hc => ?_))
        | refine CP.go ?_
        | (simp only [List.append_eq, List.cons_append, List.nil_append]))
    first | refine cp_drwX fun Q' hQ' => ?_ | refine cp_drawX ?_
    repeat' (first
      | ((first
        | ((with_reducible apply AP.k_any); first | refine AP.ST ?_ | (refine AP.Y ?_; dsimp only) | refine AP.G (fun hg => ?_) (fun hg => ?_) | (refine AP.V (fun c hnil => ?_); simp only [nz])  | refine AP.PF ?_)
          | ((with_reducible apply DW.k_any); first | refine DW.ST ?_ | ((fail_if_success refine DW.known rfl ?_); refine DW.G (fun hg => ?_) (fun hg => ?_)))
          | ((with_reducible apply DW.k_any); first
                      | refine DW.R ?_ | refine DW.R' ?_ | refine DW.W ?_ | refine DW.W' ?_
                      | (refine DW.known rfl ?_; (with_reducible first | apply DW.sx 2 | apply DW.sxN 2); (iterate 2 (focus (simp only [ft, nm, Nat.reduceAdd, Nat.reduceBEq, List.getElem?_cons_zero, List.getElem?_cons_succ]; exact rfl))); (focus (intro X V; simp only [ft, nm, Nat.reduceAdd, Nat.reduceBEq]; (try (refine AP.Y ?_; dsimp only)); (first  | fail); (try simp only [nx, Nat.reduceAdd, Nat.reduceSub, BEq.rfl]); refine AP.nil ?_; (first | refine ⟨trivial, rfl, ?_⟩ | refine ⟨rfl, rfl, ?_⟩); (repeat' (first | exact Mg.nil | apply Mg.keep rfl | apply Mg.take rfl)); done)); (focus (refine Exists.intro (fun _ => 0) ?_; apply Exists.intro; (repeat' (first | exact Mg.nil | apply Mg.keep rfl | apply Mg.take rfl)); done)); (iterate 2 (focus (exact rfl))))
                      | ((fail_if_success refine DW.known rfl ?_); refine DW.G (fun hg => ?_) (fun hg => ?_))
          )
        ) <;> (try simp only [d1, nx, mx, rn, fq, Nat.mul_one, Bool.and_true, Bool.and_false, Nat.reduceBEq, Nat.reduceAdd, Nat.reduceSub, BEq.rfl]))
      | ((with_reducible apply AP.k_nil); first | (refine AP.nil (hQ' _ ?_); clear hQ' Q') | refine AP.nil ?_)
      | ((with_reducible apply DW.k_nil); refine DW.nl ?_; first | (refine hQ' _ ?_; clear hQ' Q') | skip)
      | ((with_reducible apply CP.k_reg); refine cp_regG fun Q' hQ' => ?_)
        | (with_reducible apply CP.k_reg1; refine cp_region ?_)
        | ((with_reducible apply CP.k_cond); first | refine cp_condT rfl ?_ | refine cp_condF rfl ?_ | refine cp_cond rfl (fun hc => ?_) (fun hc => ?_))
        | refine CP.go ?_
        | (simp only [List.append_eq, List.cons_append, List.nil_append]))
    first | refine cp_drwX fun Q' hQ' => ?_ | refine cp_drawX ?_
    repeat' (first
      | ((first
        | ((with_reducible apply AP.k_any); first | refine AP.ST ?_ | (refine AP.Y ?_; dsimp only) | refine AP.G (fun hg => ?_) (fun hg => ?_) | (refine AP.V (fun c hnil => ?_); simp only [nz])  | refine AP.PF ?_)
          | ((with_reducible apply DW.k_any); first | refine DW.ST ?_ | ((fail_if_success refine DW.known rfl ?_); refine DW.G (fun hg => ?_) (fun hg => ?_)))
          | ((with_reducible apply DW.k_any); first
                      | refine DW.R ?_ | refine DW.R' ?_ | refine DW.W ?_ | refine DW.W' ?_
                      | (refine DW.known rfl ?_; (with_reducible first | apply DW.sx 2 | apply DW.sxN 2); (iterate 2 (focus (simp only [ft, nm, Nat.reduceAdd, Nat.reduceBEq, List.getElem?_cons_zero, List.getElem?_cons_succ]; exact rfl))); (focus (intro X V; simp only [ft, nm, Nat.reduceAdd, Nat.reduceBEq]; (try (refine AP.Y ?_; dsimp only)); (first  | fail); (try simp only [nx, Nat.reduceAdd, Nat.reduceSub, BEq.rfl]); refine AP.nil ?_; (first | refine ⟨trivial, rfl, ?_⟩ | refine ⟨rfl, rfl, ?_⟩); (repeat' (first | exact Mg.nil | apply Mg.keep rfl | apply Mg.take rfl)); done)); (focus (refine Exists.intro (fun _ => 0) ?_; apply Exists.intro; (repeat' (first | exact Mg.nil | apply Mg.keep rfl | apply Mg.take rfl)); done)); (iterate 2 (focus (exact rfl))))
                      | ((fail_if_success refine DW.known rfl ?_); refine DW.G (fun hg => ?_) (fun hg => ?_))
          )
        ) <;> (try simp only [d1, nx, mx, rn, fq, Nat.mul_one, Bool.and_true, Bool.and_false, Nat.reduceBEq, Nat.reduceAdd, Nat.reduceSub, BEq.rfl]))
      | ((with_reducible apply AP.k_nil); first | (refine AP.nil (hQ' _ ?_); clear hQ' Q') | refine AP.nil ?_)
      | ((with_reducible apply DW.k_nil); refine DW.nl ?_; first | (refine hQ' _ ?_; clear hQ' Q') | skip)
      | ((with_reducible apply CP.k_reg); refine cp_regG fun Q' hQ' => ?_)
        | (with_reducible apply CP.k_reg1; refine cp_region ?_)
        | ((with_reducible apply CP.k_cond); first | refine cp_condT rfl ?_ | refine cp_condF rfl ?_ | refine cp_cond rfl (fun hc => ?_) (fun hc => ?_))
        | refine CP.go ?_
        | (simp only [List.append_eq, List.cons_append, List.nil_append]))
    refine CP.gh (gh_openM (j := 2) (n := n) rfl hc rfl rfl) ?_
    simp only [nx, Nat.reduceAdd, Nat.reduceSub, BEq.rfl]
    repeat' (first
      | ((first
        | ((with_reducible apply AP.k_any); first | refine AP.ST ?_ | (refine AP.Y ?_; dsimp only) | refine AP.G (fun hg => ?_) (fun hg => ?_) | (refine AP.V (fun c hnil => ?_); simp only [nz]) | ((with_reducible apply AP.k_any); refine AP.B 0 (h7) ?_) | refine AP.PF ?_)
          | ((with_reducible apply DW.k_any); first | refine DW.ST ?_ | ((fail_if_success refine DW.known rfl ?_); refine DW.G (fun hg => ?_) (fun hg => ?_)))
          | ((with_reducible apply DW.k_any); first
                      | refine DW.R ?_ | refine DW.R' ?_ | refine DW.W ?_ | refine DW.W' ?_
                      | (refine DW.known rfl ?_; (with_reducible first | apply DW.sx 2 | apply DW.sxN 2); (iterate 2 (focus (simp only [ft, nm, Nat.reduceAdd, Nat.reduceBEq, List.getElem?_cons_zero, List.getElem?_cons_succ]; exact rfl))); (focus (intro X V; simp only [ft, nm, Nat.reduceAdd, Nat.reduceBEq]; (try (refine AP.Y ?_; dsimp only)); (first | ((with_reducible apply AP.k_any); refine AP.B 0 (h7) ?_) | fail); (try simp only [nx, Nat.reduceAdd, Nat.reduceSub, BEq.rfl]); refine AP.nil ?_; (first | refine ⟨trivial, rfl, ?_⟩ | refine ⟨rfl, rfl, ?_⟩); (repeat' (first | exact Mg.nil | apply Mg.keep rfl | apply Mg.take rfl)); done)); (focus (refine Exists.intro (fun _ => 0) ?_; apply Exists.intro; (repeat' (first | exact Mg.nil | apply Mg.keep rfl | apply Mg.take rfl)); done)); (iterate 2 (focus (exact rfl))))
                      | ((fail_if_success refine DW.known rfl ?_); refine DW.G (fun hg => ?_) (fun hg => ?_))
          )
        ) <;> (try simp only [d1, nx, mx, rn, fq, Nat.mul_one, Bool.and_true, Bool.and_false, Nat.reduceBEq, Nat.reduceAdd, Nat.reduceSub, BEq.rfl]))
      | ((with_reducible apply AP.k_nil); first | (refine AP.nil (hQ' _ ?_); clear hQ' Q') | refine AP.nil ?_)
      | ((with_reducible apply CP.k_drw); refine cp_drwX fun Q' hQ' => ?_)
      | ((with_reducible apply CP.k_drw1); refine cp_drawX ?_)
      | ((with_reducible apply DW.k_nil); refine DW.nl ?_; first | (refine hQ' _ ?_; clear hQ' Q') | skip)
      | ((with_reducible apply CP.k_reg); refine cp_regG fun Q' hQ' => ?_)
        | (with_reducible apply CP.k_reg1; refine cp_region ?_)
        | ((with_reducible apply CP.k_cond); first | refine cp_condT rfl ?_ | refine cp_condF rfl ?_ | refine cp_cond rfl (fun hc => ?_) (fun hc => ?_))
        | refine CP.go ?_
        | (simp only [List.append_eq, List.cons_append, List.nil_append]))
    (exact RetQ.A [(0, 0)] (by exact ⟨rfl, rfl⟩))
theorem get_ac (x : Ends) (b : List UInt8) (hb : b.length ≤ 60000) (hr : x.root.length ≤ 10000) (hwo : ∀ q ∈ x.wins, q.2.ok) : AC Try.prog 24 [.bp 0 0 0, bs none b] [xE x] (fun v bs' => v = .tu [.ag (eP (x.get b).1.1), I (x.get b).1.2] ∧ bs' = [xE (x.get b).2]) := by
  rcases parse_two b with h | ⟨h, hm⟩
  · exact get_bad x b (by omega) h
  · by_cases h3 : (parseP b).1.to = x.who
    · by_cases h4 : (parseP b).1.tag = tagS x.root (parseP b).1
      · cases ha : at_ ((parseP b).1.frm, (parseP b).1.epoch) x.wins with
        | none => exact get_new x b hb hr h h3 h4 hm ha
        | some n => exact get_old x b hb hr hwo h h3 h4 hm ha
      · exact get_tag x b hb hr h h3 h4
    · exact get_far x b (by omega) h h3
end Go.Proofs.Ytnjfchigdpifmaa

namespace Go.Proofs.Ytnjfchigdpifmaa
set_option linter.unusedVariables false
set_option linter.unusedSimpArgs false
theorem tagS_tag (root : List UInt8) (p : Pkt) (t : List UInt8) : tagS root { p with tag := t } = tagS root p := rfl
theorem pkt_eta (p : Pkt) (t : List UInt8) : ({ p with tag := t } : Pkt) = ⟨p.frm, p.to, p.epoch, p.boot, p.seqn, p.body, t⟩ := rfl
/-- within range -/
def Pkt.rg (p : Pkt) : Prop := (I64 p.frm ∧ I64 p.to ∧ I64 p.epoch ∧ I64 p.boot ∧ I64 p.seqn) ∧ p.body.length ≤ 60000
theorem parse_tagged {p : Pkt} {t : List UInt8} (hm : mayP p = true) (hp : p.rg) (ht : t.length = 32) : parseP (headS p ++ t) = ({ p with tag := t }, 0) := by
  have hm' : mayP { p with tag := t } = true := (mayP_tag p t).trans hm
  have := parse_ok (p := { p with tag := t }) hm' ⟨hp.1, by have := hp.2; show p.body.length ≤ 65536; omega, ht⟩ hp.2
  rwa [headS_tag] at this
/-- bytes under a tag, got -/
theorem get_tagged (x : Ends) {p : Pkt} {t : List UInt8} (hm : mayP p = true) (hp : p.rg) (ht : t.length = 32) :
    x.get (headS p ++ t) = if p.to ≠ x.who then ((pk0, 190), x) else if t ≠ tagS x.root p then ((pk0, 91), x) else
      (let r := (got (p.frm, p.epoch) x.wins Wn.new).take p.boot p.seqn
       if r.1 ≠ 0 then ((pk0, r.1), { x with wins := puts (p.frm, p.epoch) x.wins r.2 }) else (({ p with tag := t }, 0), { x with wins := puts (p.frm, p.epoch) x.wins r.2 })) := by
  unfold Ends.get
  rw [parse_tagged hm hp ht]
  dsimp only
  by_cases h1 : p.to = x.who
  · rw [if_neg (by simp [h1]), if_neg (by simp [h1] : ¬ p.to ≠ x.who)]
    have : tagS x.root { p with tag := t } = tagS x.root p := tagS_tag _ _ _
    rw [pkt_eta] at this
    rw [this]
  · rw [if_pos (.inr h1), if_pos h1]
theorem got_new {α : Type} (s : Sd) (d : α) : got s [] d = d := rfl
theorem got_one {α : Type} (s : Sd) (v d : α) : got s [(s, v)] d = v := by simp [got, at_]
theorem puts_one {α : Type} (s : Sd) (u v : α) : puts s [(s, u)] v = [(s, v)] := by simp [puts, at_]
theorem bad_short {b : List UInt8} (h : b.length < 8) : parseP b = (pk0, 190) := by
  rcases parse_two b with h1 | ⟨h1, _⟩
  · exact h1
  · exfalso
    have h2 := (parse_back (by omega) h1).1
    have h3 := headS_len (parseP b).1
    rw [h2] at h
    simp at h; omega
end Go.Proofs.Ytnjfchigdpifmaa

namespace Go.Proofs.Ytnjfchigdpifmaa
set_option linter.unusedVariables false
set_option linter.unusedSimpArgs false
open Go.RowKit
set_option maxRecDepth 100000
section
variable {X : Cx} {φ φ' : Fi} {κ κ' : Ka} {f : Nat → Ct} {L L' : Ct} {s s' : AS} {a : Act} {w w' : World} {o : Oper} {ops : Array Oper} {rest : List Oper} {Q : Exit → AS → Prop}
theorem freeze_heap (w : World) (g n : Nat) (x : Nat) (hx : x ≠ g) : (w.freeze ⟨g, n, none⟩ 1).heap[x]? = w.heap[x]? := by
  unfold World.freeze
  rw [if_neg (by decide)]
  simp [Array.getElem?_modify, Ne.symm hx]
theorem Mk.freeze {g : Nat} {cur : Array Value} {e : TypeId} (h : Mk w g cur e) : Mk (w.freeze ⟨g, cur.size, none⟩ 1) g cur e := by
  obtain ⟨z, h1, h2⟩ := h
  refine ⟨if z.1 == z.2 then (cur.size, cur.size + 1) else (min z.1 cur.size, max z.2 (cur.size + 1)), ?_, ?_⟩
  · unfold World.freeze
    rw [if_neg (by decide)]
    simp [Array.getElem?_modify, h1]
  · right
    split
    · exact Nat.le_refl _
    · rename_i hz
      have : z.1 ≠ z.2 := by simpa using hz
      show cur.size ≤ min z.1 cur.size
      have := h2.resolve_left this
      omega
/-- bytes, as bytes of the same type: a mark -/
theorem ap_convI {T e e' k j u : Nat} {x : Operand} {rows : List (List AV)} {i ie : TI} (hg : o.guard = none) (ho : o.op = .convert T T x) (hx : aev s x = .hd j u) (hs : s.b[j]? = some ⟨u, .r e k rows⟩) (hT : tt[T]? = some i) (hk : i.kd = .sl e') (he : tt[e']? = some ie) (hke : ie.kd = .it .u8) (hr : rows.isEmpty = false)
    (K : AP Try.prog X ops Q rest (s.put o.dst (.hd j u))) : AP Try.prog X ops Q (o :: rest) s :=
  .run (s' := AS.put ⟨s.t, s.b.set j ⟨u, .r e k rows⟩⟩ o.dst (.hd j u)) hg (fun X φ κ f a w h => by
    have h1 := h.evs hx
    have h2 := h.sl j _ hs
    have hjl : j < s.b.length := (List.getElem?_eq_some_iff.1 hs).1
    have hone : ∀ x, f j x ≤ 1 := fun x => by have := sumF_le f x _ j hjl; have := h.one x; omega
    generalize hF : f j = F at h2
    generalize hp : a.eval x = p at h1
    cases h1 with
    | hd hκ _ =>
      cases h2 with
      | r hκ' hv =>
        rw [hκ] at hκ'; injection hκ' with e0; subst e0
        cases hv with
        | ni => simp at hr
        | ne => simp at hr
        | @om _ _ _ g cap cur us S _ hre hmk hle hm hsz htk hS =>
          have hgl := hmk.lt
          have hsh : w.shape? g = some (e, cur.size) := by
            obtain ⟨z, hz, _⟩ := hmk
            unfold World.shape?
            rw [hz]
          have hrun : (execOp a.eval o).run Try.prog w = .ok (.value (.slice (some ⟨g, 0, none⟩) rows.length cap)) (w.freeze ⟨g, cur.size, none⟩ 1) := by
            have : (convert T T (.slice (some ⟨g, 0, none⟩) rows.length cap)).run Try.prog w = .ok (.slice (some ⟨g, 0, none⟩) rows.length cap) (w.freeze ⟨g, cur.size, none⟩ 1) := by
              simp [convert, run_underlying (ty_sl hT hk), run_underlying (ty_it he hke), markStringish, hsh]
            simp only [execOp, ho, hp, Sem.run_bind, this]; rfl
          have hblk : ∀ x, x ≠ g → (w.freeze ⟨g, cur.size, none⟩ 1).heap[x]? = w.heap[x]? := fun x hx => freeze_heap w g cur.size x hx
          have hsize : (w.freeze ⟨g, cur.size, none⟩ 1).heap.size = w.heap.size := by unfold World.freeze; rw [if_neg (by decide)]; simp
          have hR : ∀ x, X.R x → (w.freeze ⟨g, cur.size, none⟩ 1).heap[x]? = w.heap[x]? := fun x hx => by
            have h3 := h.not_rd hx
            have h4 := sumF_le f x _ j hjl
            rw [hF] at h4
            have h5 := hS x
            exact hblk x (by rintro rfl; simp at h5; omega)
          have hSk : ∀ x, S x ≠ 0 → (w.freeze ⟨g, cur.size, none⟩ 1).heap[x]? = w.heap[x]? := fun x hx => by
            have h5 := hS x
            have h6 := hone x
            rw [hF] at h6
            exact hblk x (by rintro rfl; simp at h5; omega)
          have hv' := RV.om (e := e) (RE.keep hR hre hSk) hmk.freeze hle hm hsz htk hS
          refine ⟨_, _, φ, κ, _, hrun, SatW.puts (h.turn (w' := w.freeze ⟨g, cur.size, none⟩ 1) (B := .r e k rows) (u := u) (g := F) (L' := Ct.z) hs (fun _ _ _ h => h) (fun _ _ _ h => h) (by rw [hsize]; exact Nat.le_refl _) (by unfold World.freeze; rw [if_neg (by decide)]) (by unfold World.freeze; rw [if_neg (by decide)]) (by unfold World.freeze; rw [if_neg (by decide)]) ?_ (.r hκ hv') (fun x _ => by rw [hF]; simp [Ct.z]) (fun x hx => ?_) (Nat.le_refl _) (fun _ _ _ h => h) (fun _ _ _ h => h)) o.dst ?_⟩
          · intro x hx h0
            rw [hF] at h0
            have := hS x
            exact hblk x (by rintro rfl; simp at this; omega)
          · have h8 : F x = 0 := by
              by_cases h8 : F x = 0
              · exact h8
              · have := sumF_le f x _ j hjl
                have := h.own x (by rw [hF] at this; omega); omega
            simp only [Ct.z]
            exact ⟨by omega, fun h0 => by omega⟩
          · exact .hd hκ rfl) (by
    have e1 : s.b.set j ⟨u, .r e k rows⟩ = s.b := by
      apply List.ext_getElem?
      intro i
      rw [List.getElem?_set]
      split
      · rename_i hi; subst hi
        rw [if_pos (List.getElem?_eq_some_iff.1 hs).1, hs]
      · rfl
    rw [e1]; exact K)
end
theorem AP.CI {X : Cx} {s : AS} {ops : Array Oper} {rest : List Oper} {Q : Exit → AS → Prop} {T e e' k j u : Nat} {x : Operand} {rows : List (List AV)} {i ie : TI} {d : Option Nat} {ty : Nat} {pos : String} {aft : Array Edge} (K : AP Try.prog X ops Q rest (s.put d (.hd j u))) (hx : aev s x = .hd j u := by exact rfl) (hs : s.b[j]? = some ⟨u, .r e k rows⟩ := by exact rfl) (hT : tt[T]? = some i := by exact rfl) (hk : i.kd = .sl e' := by exact rfl) (he : tt[e']? = some ie := by exact rfl) (hke : ie.kd = .it .u8 := by exact rfl) (hr : rows.isEmpty = false := by exact rfl) : AP Try.prog X ops Q (⟨d, .convert T T x, ty, pos, aft, none⟩ :: rest) s := ap_convI rfl rfl hx hs hT hk he hke hr K
end Go.Proofs.Ytnjfchigdpifmaa

namespace Go.Proofs.Ytnjfchigdpifmaa
set_option linter.unusedVariables false
set_option linter.unusedSimpArgs false
set_option maxHeartbeats 8000000
open Go.RowKit
set_option maxRecDepth 100000
theorem take_t {w : Wn} {boot n : Int} (h0 : 0 ≤ boot) (h1 : 1 ≤ n) (h : w.taken boot n = true) : w.take boot n = (0, w.after boot n) := by
  unfold Wn.take
  rw [if_neg (by omega), if_pos h]
theorem take_f {w : Wn} {boot n : Int} (h0 : 0 ≤ boot) (h1 : 1 ≤ n) (h : w.taken boot n = false) : w.take boot n = (180, w) := by
  unfold Wn.take
  rw [if_neg (by omega), if_neg (by rw [h]; simp)]
abbrev rt : List UInt8 := [114, 111, 111, 116]
def p1 : Pkt := ⟨0, 1, 1, 0, 1, [97], z32⟩
def p2 : Pkt := ⟨0, 1, 1, 0, 2, [97], z32⟩
def w1 : Wn := Wn.new.after 0 1
def w2 : Wn := w1.after 0 2
theorem p1_may : mayP p1 = true := by decide
theorem p2_may : mayP p2 = true := by decide
theorem p1_rg : p1.rg := by unfold Pkt.rg I64 p1; decide
theorem p2_rg : p2.rg := by unfold Pkt.rg I64 p2; decide
theorem send1 : (⟨rt, 0, 0, [], []⟩ : Ends).send 1 1 [97] = ((headS p1 ++ tagS rt p1, 0), ⟨rt, 0, 0, [((1, 1), 1)], []⟩) := by
  have h : (⟨rt, 0, 0, [], []⟩ : Ends).pkt 1 1 [97] = p1 := rfl
  unfold Ends.send
  rw [h, if_pos p1_may]; rfl
theorem send2 : (⟨rt, 0, 0, [((1, 1), 1)], []⟩ : Ends).send 1 1 [97] = ((headS p2 ++ tagS rt p2, 0), ⟨rt, 0, 0, [((1, 1), 2)], []⟩) := by
  have h : (⟨rt, 0, 0, [((1, 1), 1)], []⟩ : Ends).pkt 1 1 [97] = p2 := rfl
  unfold Ends.send
  rw [h, if_pos p2_may]; rfl
theorem tk1 : Wn.new.take 0 1 = (0, w1) := take_t (by decide) (by decide) (by decide)
theorem tk2 : w1.take 0 1 = (180, w1) := take_f (by decide) (by decide) (by decide)
theorem tk3 : w1.take 0 2 = (0, w2) := take_t (by decide) (by decide) (by decide)
theorem get1 : (⟨rt, 1, 0, [], []⟩ : Ends).get (headS p1 ++ tagS rt p1) = (({ p1 with tag := tagS rt p1 }, 0), ⟨rt, 1, 0, [], [((0, 1), w1)]⟩) := by
  rw [get_tagged _ p1_may p1_rg (tagS_len _ _), if_neg (by simp [p1]), if_neg (by simp)]
  show (let r := (got ((0 : Int), (1 : Int)) [] Wn.new).take 0 1; _) = _
  rw [got_new, tk1]; rfl
theorem get2 : (⟨rt, 1, 0, [], [((0, 1), w1)]⟩ : Ends).get (headS p1 ++ tagS rt p1) = ((pk0, 180), ⟨rt, 1, 0, [], [((0, 1), w1)]⟩) := by
  rw [get_tagged _ p1_may p1_rg (tagS_len _ _), if_neg (by simp [p1]), if_neg (by simp)]
  show (let r := (got ((0 : Int), (1 : Int)) [((0, 1), w1)] Wn.new).take 0 1; _) = _
  rw [got_one, tk2]; rfl
theorem get3 : (⟨rt, 1, 0, [], [((0, 1), w1)]⟩ : Ends).get (headS p2 ++ tagS rt p2) = (({ p2 with tag := tagS rt p2 }, 0), ⟨rt, 1, 0, [], [((0, 1), w2)]⟩) := by
  rw [get_tagged _ p2_may p2_rg (tagS_len _ _), if_neg (by simp [p2]), if_neg (by simp)]
  show (let r := (got ((0 : Int), (1 : Int)) [((0, 1), w1)] Wn.new).take 0 2; _) = _
  rw [got_one, tk3]; rfl
theorem get4 : (⟨rt, 2, 0, [], []⟩ : Ends).get (headS p1 ++ tagS rt p1) = ((pk0, 190), ⟨rt, 2, 0, [], []⟩) := by
  rw [get_tagged _ p1_may p1_rg (tagS_len _ _), if_pos (by simp [p1])]
theorem get5 {t : List UInt8} (ht : t.length = 32) (hne : t ≠ tagS rt p1) : (⟨rt, 1, 0, [], [((0, 1), w2)]⟩ : Ends).get (headS p1 ++ t) = ((pk0, 91), ⟨rt, 1, 0, [], [((0, 1), w2)]⟩) := by
  rw [get_tagged _ p1_may p1_rg ht, if_neg (by simp [p1]), if_pos hne]
theorem get6 : (⟨rt, 1, 0, [], [((0, 1), w2)]⟩ : Ends).get [120] = ((pk0, 190), ⟨rt, 1, 0, [], [((0, 1), w2)]⟩) := by
  unfold Ends.get
  rw [bad_short (b := [120]) (by decide), if_pos (.inl (by decide))]
/-- the last byte turned -/
theorem flip_last {h t : List UInt8} (ht : t.length = 32) : (h ++ t).set ((h ++ t).length - 1) (((h ++ t).getD ((h ++ t).length - 1) 0) ^^^ 1) = h ++ t.set 31 ((t.getD 31 0) ^^^ 1) := by
  have e : (h ++ t).length - 1 = h.length + 31 := by simp; omega
  rw [e, List.set_append_right _ _ (by omega), Nat.add_sub_cancel_left, List.getD_eq_getElem?_getD, List.getElem?_append_right (by omega), Nat.add_sub_cancel_left, ← List.getD_eq_getElem?_getD]
theorem flip_ne {t : List UInt8} (ht : t.length = 32) : t.set 31 ((t.getD 31 0) ^^^ 1) ≠ t := by
  intro h
  have h1 := congrArg (fun l => l.getD 31 0) h
  simp only [List.getD_eq_getElem?_getD, List.getElem?_set_self (show 31 < t.length by omega), Option.getD_some] at h1
  generalize (t[31]?.getD 0) = x at h1
  have key : ∀ n : _root_.Fin 256, (UInt8.ofNat n.val) ^^^ 1 ≠ UInt8.ofNat n.val := by decide
  have h2 := key ⟨x.toNat, x.toNat_lt⟩
  simp only [UInt8.ofNat_toNat] at h2
  exact h2 h1
theorem w1_ok : w1.ok := by unfold Wn.ok; decide
theorem w2_ok : w2.ok := by unfold Wn.ok; decide
theorem awake_ac : AC Try.prog 21 [] [] (fun v bs' => v = B true ∧ bs' = []) := by
  have hp0 := mayP_ac ⟨0, 1, 1, 0, 1, [], List.replicate 32 0⟩
  have hp1 := mayP_ac ⟨1, 1, 1, 0, 1, [], List.replicate 32 0⟩
  have hp2 := mayP_ac ⟨0, 5, 1, 0, 1, [], List.replicate 32 0⟩
  have hp3 := mayP_ac ⟨0, 1, 1, 0, 0, [], List.replicate 32 0⟩
  rw [show mayP ⟨0, 1, 1, 0, 1, [], List.replicate 32 0⟩ = true by decide, eP_z] at hp0
  rw [show mayP ⟨1, 1, 1, 0, 1, [], List.replicate 32 0⟩ = false by decide, eP_z] at hp1
  rw [show mayP ⟨0, 5, 1, 0, 1, [], List.replicate 32 0⟩ = false by decide, eP_z] at hp2
  rw [show mayP ⟨0, 1, 1, 0, 0, [], List.replicate 32 0⟩ = false by decide, eP_z] at hp3
  have n0 := lnew_ac rt 0 0 (by decide)
  have n1 := lnew_ac rt 1 0 (by decide)
  have n2 := lnew_ac rt 2 0 (by decide)
  have hl1 := headS_len p1
  have hl2 := headS_len p2
  have ht1 := tagS_len rt p1
  have ht2 := tagS_len rt p2
  have s1 := send_ac ⟨rt, 0, 0, [], []⟩ 1 1 [97] (by decide) (by decide) (by decide)
  have s2 := send_ac ⟨rt, 0, 0, [((1, 1), 1)], []⟩ 1 1 [97] (by decide) (by decide) (by decide)
  rw [send1] at s1
  rw [send2] at s2
  have hx1 : (headS p1 ++ tagS rt p1).length = 77 := by rw [List.length_append, hl1, ht1]; rfl
  have hx2 : (headS p2 ++ tagS rt p2).length = 77 := by rw [List.length_append, hl2, ht2]; rfl
  have g1 := get_ac ⟨rt, 1, 0, [], []⟩ (headS p1 ++ tagS rt p1) (by omega) (by decide) (by simp)
  have g2 := get_ac ⟨rt, 1, 0, [], [((0, 1), w1)]⟩ (headS p1 ++ tagS rt p1) (by omega) (by dsimp only; decide) (by simp; exact w1_ok)
  have g3 := get_ac ⟨rt, 1, 0, [], [((0, 1), w1)]⟩ (headS p2 ++ tagS rt p2) (by omega) (by dsimp only; decide) (by simp; exact w1_ok)
  have g4 := get_ac ⟨rt, 2, 0, [], []⟩ (headS p1 ++ tagS rt p1) (by omega) (by decide) (by simp)
  have g6 := get_ac ⟨rt, 1, 0, [], [((0, 1), w2)]⟩ [120] (by decide) (by dsimp only; decide) (by simp; exact w2_ok)
  have hf := flip_last (h := headS p1) ht1
  have g5 := get_ac ⟨rt, 1, 0, [], [((0, 1), w2)]⟩ (headS p1 ++ (tagS rt p1).set 31 (((tagS rt p1).getD 31 0) ^^^ 1)) (by rw [← hf, List.length_set]; omega) (by dsimp only; decide) (by simp; exact w2_ok)
  rw [get1] at g1
  rw [get2] at g2
  rw [get3] at g3
  rw [get4] at g4
  rw [get5 (by simp [ht1]) (flip_ne ht1), ← hf] at g5
  rw [get6] at g6
  clear hf hl1 hl2
  dsimp only at s1 s2 g1 g2 g3 g4 g5 g6
  have hw := wsame_ac [97] [97] (by decide)
  rw [decide_eq_true rfl] at hw
  rw [show ({ p1 with tag := tagS rt p1 } : Pkt) = ⟨0, 1, 1, 0, 1, [97], tagS rt p1⟩ from rfl] at g1
  rw [show ({ p2 with tag := tagS rt p2 } : Pkt) = ⟨0, 1, 1, 0, 2, [97], tagS rt p2⟩ from rfl] at g3
  rw [pk0_eP, eP_z] at g2 g4 g5 g6
  have hc := wcat_ac [headS p1 ++ tagS rt p1] (by decide) (by simp at *; omega)
  rw [show [headS p1 ++ tagS rt p1].flatten = headS p1 ++ tagS rt p1 by simp] at hc
  generalize headS p1 ++ tagS rt p1 = x1 at *
  generalize headS p2 ++ tagS rt p2 = x2 at *
  generalize tagS rt p1 = T1 at *
  generalize tagS rt p2 = T2 at *
  generalize w1 = W1 at *
  generalize w2 = W2 at *
  dsimp only at hp0 hp1 hp2 hp3 g2 g4 g5 g6
  have h76 : 76 < x1.length := by omega
  have e76 : x1.set (x1.length - 1) (x1.getD (x1.length - 1) 0 ^^^ 1) = x1.set 76 (x1[76] ^^^ 1) := by
    rw [List.getD_eq_getElem?_getD, hx1]
    simp only [Nat.reduceSub]
    rw [List.getElem?_eq_getElem h76]; rfl
  rw [e76] at g5
  have hz : (x1.map eB).set 76 [AV.sc (.int .u8 ((x1[76] ^^^ 1).toNat : Int))] = (x1.set 76 (x1[76] ^^^ 1)).map eB := by rw [List.map_set]
  generalize x1.set 76 (x1[76] ^^^ 1) = z1 at *
  have hx8 : IntKind.u8.wrap (((BitVec.ofInt IntKind.u8.bits (x1[76].toNat : Int)) ^^^ (BitVec.ofInt IntKind.u8.bits 1)).toNat : Int) = ((x1[76] ^^^ 1).toNat : Int) := xor8 x1[76] 1
  have hw76 : IntKind.i64.wrap (((77 : Nat) : Int) - 1) = ((76 : Nat) : Int) := rfl
  have d77 : decide (((77 : Nat) : Int) < 1) = false := by decide
  refine AC.N Try.func21 Try.ntmps21 ?_
  intro X hρ hmks
  simp only [nx, Nat.reduceAdd, Nat.reduceSub, BEq.rfl]
  refine CP.gh gh_slot ?_; simp only [nx, Nat.reduceAdd, Nat.reduceSub, BEq.rfl]
  refine CP.gh gh_slot ?_; simp only [nx, Nat.reduceAdd, Nat.reduceSub, BEq.rfl]
  refine CP.gh gh_slot ?_; simp only [nx, Nat.reduceAdd, Nat.reduceSub, BEq.rfl]
  refine CP.gh gh_slot ?_; simp only [nx, Nat.reduceAdd, Nat.reduceSub, BEq.rfl]
  refine CP.gh gh_slot ?_; simp only [nx, Nat.reduceAdd, Nat.reduceSub, BEq.rfl]
  repeat' (first
    | ((first
      | ((with_reducible apply AP.k_any); first | refine AP.ST ?_ | (refine AP.Y ?_; dsimp only) | refine AP.G (fun hg => ?_) (fun hg => ?_) | (refine AP.V (fun c hnil => ?_); simp only [nz]) | ((with_reducible apply AP.k_any); refine AP.C (hp0) ?_) | ((with_reducible apply AP.k_any); refine AP.C (hp1) ?_) | ((with_reducible apply AP.k_any); refine AP.C (hp2) ?_) | ((with_reducible apply AP.k_any); refine AP.C (hp3) ?_) | ((with_reducible apply AP.k_any); refine AP.B 1 (n0) ?_) | ((with_reducible apply AP.k_any); refine AP.B 1 (n1) ?_) | ((with_reducible apply AP.k_any); refine AP.B 1 (n2) ?_) | ((with_reducible apply AP.k_any); refine AP.B 0 (s1) ?_) | ((with_reducible apply AP.k_any); refine AP.B 0 (s2) ?_) | ((with_reducible apply AP.k_any); refine AP.B 0 (g1) ?_) | ((with_reducible apply AP.k_any); refine AP.B 0 (g2) ?_) | ((with_reducible apply AP.k_any); refine AP.B 0 (g3) ?_) | ((with_reducible apply AP.k_any); refine AP.B 0 (g4) ?_) | ((with_reducible apply AP.k_any); refine AP.B 0 (g5) ?_) | ((with_reducible apply AP.k_any); refine AP.B 0 (g6) ?_) | refine AP.CI ?_ | refine AP.PF ?_)
        | ((with_reducible apply DW.k_any); first | refine DW.ST ?_ | ((fail_if_success refine DW.known rfl ?_); refine DW.G (fun hg => ?_) (fun hg => ?_)))
        | ((with_reducible apply DW.k_any); first
                    | refine DW.R ?_ | refine DW.R' ?_ | refine DW.W ?_ | refine DW.W' ?_
                    | (refine DW.known rfl ?_; (with_reducible first | apply DW.sx 2 | apply DW.sxN 2); (iterate 2 (focus (simp only [ft, nm, Nat.reduceAdd, Nat.reduceBEq, List.getElem?_cons_zero, List.getElem?_cons_succ]; exact rfl))); (focus (intro X V; simp only [ft, nm, Nat.reduceAdd, Nat.reduceBEq]; (try (refine AP.Y ?_; dsimp only)); (first | ((with_reducible apply AP.k_any); refine AP.C (hp0) ?_) | ((with_reducible apply AP.k_any); refine AP.C (hp1) ?_) | ((with_reducible apply AP.k_any); refine AP.C (hp2) ?_) | ((with_reducible apply AP.k_any); refine AP.C (hp3) ?_) | ((with_reducible apply AP.k_any); refine AP.B 1 (n0) ?_) | ((with_reducible apply AP.k_any); refine AP.B 1 (n1) ?_) | ((with_reducible apply AP.k_any); refine AP.B 1 (n2) ?_) | ((with_reducible apply AP.k_any); refine AP.B 0 (s1) ?_) | ((with_reducible apply AP.k_any); refine AP.B 0 (s2) ?_) | ((with_reducible apply AP.k_any); refine AP.B 0 (g1) ?_) | ((with_reducible apply AP.k_any); refine AP.B 0 (g2) ?_) | ((with_reducible apply AP.k_any); refine AP.B 0 (g3) ?_) | ((with_reducible apply AP.k_any); refine AP.B 0 (g4) ?_) | ((with_reducible apply AP.k_any); refine AP.B 0 (g5) ?_) | ((with_reducible apply AP.k_any); refine AP.B 0 (g6) ?_) | refine AP.CI ?_ | fail); (try simp only [nx, Nat.reduceAdd, Nat.reduceSub, BEq.rfl]); refine AP.nil ?_; (first | refine ⟨trivial, rfl, ?_⟩ | refine ⟨rfl, rfl, ?_⟩); (repeat' (first | exact Mg.nil | apply Mg.keep rfl | apply Mg.take rfl)); done)); (focus (refine Exists.intro (fun _ => 0) ?_; apply Exists.intro; (repeat' (first | exact Mg.nil | apply Mg.keep rfl | apply Mg.take rfl)); done)); (iterate 2 (focus (exact rfl))))
                    | ((fail_if_success refine DW.known rfl ?_); refine DW.G (fun hg => ?_) (fun hg => ?_))
        )
      ) <;> (try simp only [hx1, hw76, d77, hx8, hz, Int.toNat_natCast, nx, mx, rn, fq, Nat.mul_one, Bool.and_true, Bool.and_false, Nat.reduceBEq, Nat.reduceAdd, Nat.reduceSub, BEq.rfl]))
    | ((with_reducible apply AP.k_nil); first | (refine AP.nil (hQ' _ ?_); clear hQ' Q') | refine AP.nil ?_)
    | ((with_reducible apply CP.k_drw); refine cp_drwX fun Q' hQ' => ?_)
    | ((with_reducible apply CP.k_drw1); refine cp_drawX ?_)
    | ((with_reducible apply DW.k_nil); refine DW.nl ?_; first | (refine hQ' _ ?_; clear hQ' Q') | skip)
    | ((with_reducible apply CP.k_reg); refine cp_regG fun Q' hQ' => ?_)
      | (with_reducible apply CP.k_reg1; refine cp_region ?_)
      | ((with_reducible apply CP.k_cond); first | refine cp_condT rfl ?_ | refine cp_condF rfl ?_ | refine cp_cond rfl (fun hc => ?_) (fun hc => ?_))
      | refine CP.go ?_
      | (simp only [List.append_eq, List.cons_append, List.nil_append]))
  (exact RetQ.A [] (by exact ⟨rfl, rfl⟩))
end Go.Proofs.Ytnjfchigdpifmaa

namespace Go.Proofs.Ytnjfchigdpifmaa
set_option linter.unusedVariables false
set_option linter.unusedSimpArgs false
def wOf (o : Option Wn) : Wn := o.getD Wn.new
theorem new_ok : Wn.new.ok := by unfold Wn.ok Wn.new; decide
end Go.Proofs.Ytnjfchigdpifmaa

namespace Go.Proofs.Ytnjfchigdpifmaa
set_option linter.unusedVariables false
set_option linter.unusedSimpArgs false
/-- a packet of one's own -/
def oPk (k : Nat) (body : List UInt8) : Pkt := ⟨0, 1, 4, 2, ((k + 1 : Nat) : Int), body, z32⟩
def oX (root : List UInt8) (k : Nat) (body : List UInt8) : List UInt8 := headS (oPk k body) ++ tagS root (oPk k body)
theorem oPk_may (k : Nat) (body : List UInt8) : mayP (oPk k body) = true := by
  show (whoS 0 && whoS 1 && !((0 : Int) == 1) && decide ((1 : Int) ≤ 4) && decide ((0 : Int) ≤ 2) && decide ((1 : Int) ≤ ((k + 1 : Nat) : Int))) = true
  rw [decide_eq_true (show (1 : Int) ≤ ((k + 1 : Nat) : Int) by omega)]
  rfl
theorem oPk_rg {k : Nat} {body : List UInt8} (hk : k ≤ 1000) (hb : body.length ≤ 100) : (oPk k body).rg := by
  unfold Pkt.rg I64 oPk
  dsimp only
  exact ⟨⟨by omega, by omega, by omega, by omega, by omega⟩, by omega⟩
/-- what a window knows of the numbers up to 30 in boot 2 -/
def Kn (w : Wn) (g : Nat → Bool) : Prop := (w.boot < 2 ∧ ∀ k, g k = false) ∨ (w.boot = 2 ∧ 0 ≤ w.top ∧ w.top ≤ 30 ∧ ∀ k, k < 30 → (((k + 1 : Nat) : Int) ≤ w.top → w.came (k + 1) = g k) ∧ (w.top < ((k + 1 : Nat) : Int) → g k = false))
theorem ups_came_at (w : Wn) (h0 : 0 ≤ w.top) : ∀ (d j : Nat), w.top + d ≤ 30 → j < 64 → (w.ups d).came j = if w.top < (j : Int) ∧ (j : Int) ≤ w.top + d then false else w.came j
  | 0, j, _, _ => by
    rw [if_neg (by omega)]; rfl
  | d + 1, j, h, hj => by
    have ih := ups_came_at w h0 d j (by omega) hj
    have ht := Wn.ups_top w d
    have hr : res64 ((w.ups d).top + 1) = (w.top + d + 1).toNat := by
      rw [ht]; unfold res64; omega
    show (upd (w.ups d).came (res64 ((w.ups d).top + 1)) false) j = _
    unfold upd
    rw [hr, ih]
    by_cases h1 : j = (w.top + d + 1).toNat
    · rw [if_pos h1, if_pos (by omega)]
    · rw [if_neg h1]
      by_cases h2 : w.top < (j : Int) ∧ (j : Int) ≤ w.top + d
      · rw [if_pos h2, if_pos (by omega)]
      · rw [if_neg h2, if_neg (by omega)]
theorem res_small {k : Nat} (hk : k < 30) : res64 ((k + 1 : Nat) : Int) = k + 1 := by unfold res64; omega
theorem Kn.tk {w : Wn} {g : Nat → Bool} (h : Kn w g) {k : Nat} (hk : k < 30) : w.taken 2 ((k + 1 : Nat) : Int) = !(g k) := by
  unfold Wn.taken Wn.base Wn.old
  rcases h with ⟨h1, h2⟩ | ⟨h1, h2, h3, h4⟩
  · rw [if_pos h1, h2]
    dsimp only
    rw [decide_eq_false (by omega), decide_eq_false (by omega), decide_eq_false (by omega)]
    rfl
  · rw [if_neg (by omega), decide_eq_false (by omega), decide_eq_false (by omega), res_small hk]
    obtain ⟨h5, h6⟩ := h4 k hk
    by_cases h7 : ((k + 1 : Nat) : Int) ≤ w.top
    · rw [decide_eq_true h7, h5 h7]; simp
    · rw [decide_eq_false h7, h6 (by omega)]; simp
theorem Kn.after {w : Wn} {g : Nat → Bool} (h : Kn w g) {k : Nat} (hk : k < 30) (hg : g k = false) : Kn (w.after 2 ((k + 1 : Nat) : Int)) (fun j => if j = k then true else g j) := by
  have hold : (w.base 2).old ((k + 1 : Nat) : Int) = false := by
    have := h.tk hk
    rw [hg] at this
    unfold Wn.taken at this
    simp only [Bool.and_eq_true, Bool.not_eq_true', Bool.not_false] at this
    exact this.2
  have e : w.after 2 ((k + 1 : Nat) : Int) = (w.base 2).go ((k + 1 : Nat) : Int) := by
    unfold Wn.after
    rw [if_neg (by rcases h with ⟨h1, _⟩ | ⟨h1, _⟩ <;> omega), if_neg (by rw [hold]; simp)]
  rw [e]
  have hb : (w.base 2).boot = 2 ∧ 0 ≤ (w.base 2).top ∧ (w.base 2).top ≤ 30 ∧ ∀ j, j < 30 → (((j + 1 : Nat) : Int) ≤ (w.base 2).top → (w.base 2).came (j + 1) = g j) ∧ ((w.base 2).top < ((j + 1 : Nat) : Int) → g j = false) := by
    unfold Wn.base
    rcases h with ⟨h1, h2⟩ | ⟨h1, h2⟩
    · rw [if_pos h1]
      exact ⟨rfl, Int.le_refl _, by dsimp only; omega, fun j hj => ⟨fun h => by dsimp only at h; omega, fun _ => h2 j⟩⟩
    · rw [if_neg (by omega)]
      exact ⟨h1, h2⟩
  generalize w.base 2 = x at hb hold
  obtain ⟨b1, b2, b3, b4⟩ := hb
  unfold Wn.go
  have hf : x.far ((k + 1 : Nat) : Int) = x := if_neg (by omega)
  rw [hf]
  refine .inr ⟨?_, ?_, ?_, fun j hj => ?_⟩
  · show (x.ups _).boot = 2
    rw [Wn.ups_boot]; exact b1
  · show 0 ≤ (x.ups _).top
    rw [Wn.ups_top]; omega
  · show (x.ups _).top ≤ 30
    rw [Wn.ups_top]; omega
  · have ht : ((x.ups (((k + 1 : Nat) : Int) - x.top).toNat).mark ((k + 1 : Nat) : Int)).top = x.top + (((k + 1 : Nat) : Int) - x.top).toNat := Wn.ups_top _ _
    have hc := ups_came_at x b2 (((k + 1 : Nat) : Int) - x.top).toNat (j + 1) (by omega) (by omega)
    have hcm : ((x.ups (((k + 1 : Nat) : Int) - x.top).toNat).mark ((k + 1 : Nat) : Int)).came (j + 1) = if j + 1 = k + 1 then true else (x.ups (((k + 1 : Nat) : Int) - x.top).toNat).came (j + 1) := by
      unfold Wn.mark upd
      dsimp only
      rw [res_small hk]
    obtain ⟨b5, b6⟩ := b4 j hj
    rw [ht]
    constructor
    · intro hle
      show _ = if j = k then true else g j
      rw [hcm]
      by_cases hjk : j = k
      · rw [if_pos (by omega), if_pos hjk]
      · rw [if_neg (by omega), if_neg hjk, hc]
        by_cases h8 : x.top < ((j + 1 : Nat) : Int) ∧ ((j + 1 : Nat) : Int) ≤ x.top + (((k + 1 : Nat) : Int) - x.top).toNat
        · rw [if_pos h8, b6 h8.1]
        · rw [if_neg h8]
          exact b5 (by omega)
    · intro hgt
      show (if j = k then true else g j) = false
      rw [if_neg (by omega)]
      exact b6 (by omega)
end Go.Proofs.Ytnjfchigdpifmaa

namespace Go.Proofs.Ytnjfchigdpifmaa
set_option linter.unusedVariables false
set_option linter.unusedSimpArgs false
def sO : Nat → List (Sd × Int)
  | 0 => []
  | k + 1 => [((1, 4), ((k + 1 : Nat) : Int))]
def frE (root : List UInt8) (k : Nat) : Ends := ⟨root, 0, 2, sO k, []⟩
theorem fr_got (root : List UInt8) (k : Nat) : got ((1 : Int), (4 : Int)) (frE root k).sent 0 = k := by
  cases k with
  | zero => rfl
  | succ k => exact got_one _ _ _
theorem fr_send (root : List UInt8) (k : Nat) (body : List UInt8) : (frE root k).send 1 4 body = ((oX root k body, 0), frE root (k + 1)) := by
  have hp : (frE root k).pkt 1 4 body = oPk k body := by
    unfold Ends.pkt
    rw [fr_got]
    cases k <;> rfl
  have hr : (frE root k).root = root := rfl
  unfold Ends.send
  rw [hp, if_pos (oPk_may k body), hr]
  congr 1
  unfold Ends.bump
  rw [fr_got]
  cases k with
  | zero => rfl
  | succ k =>
    show (⟨root, 0, 2, puts ((1 : Int), (4 : Int)) [((1, 4), ((k + 1 : Nat) : Int))] _, []⟩ : Ends) = _
    rw [puts_one]; rfl
def wO : Option Wn → List (Sd × Wn)
  | none => []
  | some w => [((0, 4), w)]
def raE (root : List UInt8) (who : Int) (o : Option Wn) : Ends := ⟨root, who, 0, [], wO o⟩
theorem ra_get (root : List UInt8) (o : Option Wn) {k : Nat} {body : List UInt8} (hk : k ≤ 1000) (hb : body.length ≤ 100) (ht : (wOf o).taken 2 ((k + 1 : Nat) : Int) = true) :
    (raE root 1 o).get (oX root k body) = (({ oPk k body with tag := tagS root (oPk k body) }, 0), raE root 1 (some ((wOf o).after 2 ((k + 1 : Nat) : Int)))) := by
  have hr : (raE root 1 o).root = root := by cases o <;> rfl
  have hw : (raE root 1 o).who = 1 := by cases o <;> rfl
  have hg : got ((0 : Int), (4 : Int)) (raE root 1 o).wins Wn.new = wOf o := by
    cases o with
    | none => rfl
    | some w => exact got_one _ _ _
  have hp : ∀ v, (⟨(raE root 1 o).root, (raE root 1 o).who, (raE root 1 o).boot, (raE root 1 o).sent, puts ((0 : Int), (4 : Int)) (raE root 1 o).wins v⟩ : Ends) = raE root 1 (some v) := fun v => by
    cases o with
    | none => rfl
    | some w =>
      show (⟨root, 1, 0, [], puts ((0 : Int), (4 : Int)) [((0, 4), w)] v⟩ : Ends) = _
      rw [puts_one]; rfl
  unfold oX
  rw [get_tagged _ (oPk_may k body) (oPk_rg hk hb) (tagS_len _ _), if_neg (by rw [hw]; simp [oPk]), if_neg (by rw [hr]; simp)]
  have e1 : (oPk k body).frm = 0 := rfl
  have e2 : (oPk k body).epoch = 4 := rfl
  have e3 : (oPk k body).boot = 2 := rfl
  have e4 : (oPk k body).seqn = ((k + 1 : Nat) : Int) := rfl
  rw [e1, e2, e3, e4, hg, take_t (by omega) (by omega) ht]
  dsimp only
  rw [if_neg (by simp), hp]
  rfl
theorem ra_replay (root : List UInt8) (o : Option Wn) {k : Nat} {body : List UInt8} (hk : k ≤ 1000) (hb : body.length ≤ 100) (ht : (wOf o).taken 2 ((k + 1 : Nat) : Int) = false) :
    (raE root 1 o).get (oX root k body) = ((pk0, 180), raE root 1 (some (wOf o))) := by
  have hr : (raE root 1 o).root = root := by cases o <;> rfl
  have hw : (raE root 1 o).who = 1 := by cases o <;> rfl
  have hg : got ((0 : Int), (4 : Int)) (raE root 1 o).wins Wn.new = wOf o := by
    cases o with
    | none => rfl
    | some w => exact got_one _ _ _
  have hp : ∀ v, (⟨(raE root 1 o).root, (raE root 1 o).who, (raE root 1 o).boot, (raE root 1 o).sent, puts ((0 : Int), (4 : Int)) (raE root 1 o).wins v⟩ : Ends) = raE root 1 (some v) := fun v => by
    cases o with
    | none => rfl
    | some w =>
      show (⟨root, 1, 0, [], puts ((0 : Int), (4 : Int)) [((0, 4), w)] v⟩ : Ends) = _
      rw [puts_one]; rfl
  unfold oX
  rw [get_tagged _ (oPk_may k body) (oPk_rg hk hb) (tagS_len _ _), if_neg (by rw [hw]; simp [oPk]), if_neg (by rw [hr]; simp)]
  have e1 : (oPk k body).frm = 0 := rfl
  have e2 : (oPk k body).epoch = 4 := rfl
  have e3 : (oPk k body).boot = 2 := rfl
  have e4 : (oPk k body).seqn = ((k + 1 : Nat) : Int) := rfl
  rw [e1, e2, e3, e4, hg, take_f (by omega) (by omega) ht]
  dsimp only
  rw [if_pos (by decide), hp]
theorem ra_other (root : List UInt8) {k : Nat} {body : List UInt8} (hk : k ≤ 1000) (hb : body.length ≤ 100) :
    (raE root 3 none).get (oX root k body) = ((pk0, 190), raE root 3 none) := by
  have hw : (raE root 3 none).who = 3 := rfl
  unfold oX
  rw [get_tagged _ (oPk_may k body) (oPk_rg hk hb) (tagS_len _ _), if_pos (by rw [hw]; simp [oPk])]
end Go.Proofs.Ytnjfchigdpifmaa

namespace Go.Proofs.Ytnjfchigdpifmaa
set_option linter.unusedVariables false
set_option linter.unusedSimpArgs false
open Go.RowKit
set_option maxRecDepth 100000
def dd : List Nat → List Nat → List Nat
  | [], acc => acc
  | n :: l, acc => match inN n acc with
    | true => dd l acc
    | false => dd l (n :: acc)
theorem dd_mem {i : Nat} : ∀ {l acc : List Nat}, i ∈ dd l acc ↔ i ∈ l ∨ i ∈ acc
  | [], acc => by simp [dd]
  | n :: l, acc => by
    unfold dd
    cases h : inN n acc with
    | true =>
      dsimp only
      rw [dd_mem]
      have := inN_mem.1 h
      constructor
      · rintro (h1 | h1)
        · exact .inl (List.mem_cons_of_mem _ h1)
        · exact .inr h1
      · rintro (h1 | h1)
        · rcases List.mem_cons.1 h1 with rfl | h1
          · exact .inr this
          · exact .inl h1
        · exact .inr h1
    | false =>
      dsimp only
      rw [dd_mem]
      constructor
      · rintro (h1 | h1)
        · exact .inl (List.mem_cons_of_mem _ h1)
        · rcases List.mem_cons.1 h1 with rfl | h1
          · exact .inl (List.mem_cons_self ..)
          · exact .inr h1
      · rintro (h1 | h1)
        · rcases List.mem_cons.1 h1 with rfl | h1
          · exact .inr (List.mem_cons_self ..)
          · exact .inl h1
        · exact .inr (List.mem_cons_of_mem _ h1)
def anc2 : List Oper → List (List Nat) → List (List Nat)
  | [], acc => acc
  | o :: l, acc => anc2 l (acc ++ [dd ((depL o).flatMap fun d => d :: acc.getD d []) []])
def sameM (A B : List (List Nat)) : Prop := A.length = B.length ∧ ∀ k i, i ∈ A.getD k [] ↔ i ∈ B.getD k []
theorem anc2_same : ∀ {l : List Oper} {A B : List (List Nat)}, sameM A B → sameM (anc2 l A) (ancs l B)
  | [], _, _, h => h
  | o :: l, A, B, h => by
    refine anc2_same (l := l) ⟨by simp [h.1], fun k i => ?_⟩
    simp only [List.getD_eq_getElem?_getD]
    by_cases hk : k < A.length
    · rw [List.getElem?_append_left hk, List.getElem?_append_left (by rw [← h.1]; exact hk)]
      have := h.2 k i
      simpa only [List.getD_eq_getElem?_getD] using this
    · rw [List.getElem?_append_right (by omega), List.getElem?_append_right (by rw [← h.1]; omega), h.1]
      by_cases hz : k - B.length = 0
      · rw [hz]
        show i ∈ dd _ [] ↔ i ∈ (depL o).flatMap fun d => d :: B.getD d []
        rw [dd_mem]
        simp only [List.mem_flatMap, List.mem_cons, List.not_mem_nil, or_false, List.getD_eq_getElem?_getD]
        constructor
        · rintro ⟨d, hd, h1 | h1⟩
          · exact ⟨d, hd, .inl h1⟩
          · exact ⟨d, hd, .inr (by have := (h.2 d i).1 (by rw [List.getD_eq_getElem?_getD]; exact h1); rwa [List.getD_eq_getElem?_getD] at this)⟩
        · rintro ⟨d, hd, h1 | h1⟩
          · exact ⟨d, hd, .inl h1⟩
          · exact ⟨d, hd, .inr (by have := (h.2 d i).2 (by rw [List.getD_eq_getElem?_getD]; exact h1); rwa [List.getD_eq_getElem?_getD] at this)⟩
      · obtain ⟨m, hm⟩ : ∃ m, k - B.length = m + 1 := ⟨k - B.length - 1, by omega⟩
        rw [hm]; simp
theorem okRow_same {A B : List Nat} (h : ∀ i, i ∈ A ↔ i ∈ B) (b : Fp) : ∀ (i : Nat) (l : List Fp), okRow A b i l = okRow B b i l
  | _, [] => rfl
  | i, a :: l => by
    have e : inN i A = inN i B := by
      rw [Bool.eq_iff_iff, inN_mem, inN_mem]; exact h i
    simp only [okRow, e, okRow_same h b (i + 1) l]
theorem okAll_same {A B : List (List Nat)} (h : sameM A B) (fs : List Fp) : ∀ (k : Nat) (l : List Fp), okAll A fs k l = okAll B fs k l
  | _, [] => rfl
  | k, b :: l => by
    simp only [okAll, okRow_same (h.2 k) b, okAll_same h fs (k + 1) l]
def okD2 (l : List Oper) (fs : List Fp) : Bool := okAll (anc2 l []) fs 0 fs
theorem okD2_of {l : List Oper} {fs : List Fp} (h : okD2 l fs = true) : okD l fs = true := by
  unfold okD2 at h
  unfold okD
  rw [← h]
  exact (okAll_same (anc2_same ⟨rfl, fun _ _ => Iff.rfl⟩) fs 0 fs).symm
theorem DW.nl2 {ops : Array Oper} {all : List Oper} {K : AS → Prop} {acc : List Fp} {s : AS} (hk : K s) (h : okD2 all acc.reverse = true := by kernel_rfl) : DW Try.prog ops all K acc [] s := DW.nil (okD2_of h) hk
end Go.Proofs.Ytnjfchigdpifmaa

namespace Go.Proofs.Ytnjfchigdpifmaa
set_option linter.unusedVariables false
set_option linter.unusedSimpArgs false
set_option maxHeartbeats 8000000
open Go.RowKit
set_option maxRecDepth 100000
theorem fsend_ac (root : List UInt8) (k : Nat) (body : List UInt8) (hr : root.length ≤ 100) (hb : body.length ≤ 100) (hk : k ≤ 1000) : AC Try.prog 23 [.bp 0 0 0, I 1, I 4, bs none body] [xE (frE root k)] (fun v bs' => v = .tu [bs none (oX root k body), I 0] ∧ bs' = [xE (frE root (k + 1))]) := by
  have := send_ac (frE root k) 1 4 body (by show root.length ≤ 10000; omega) (by omega) (by rw [fr_got]; omega)
  rw [fr_send root k body] at this
  exact this
def oxs (root : List UInt8) (P : List (List UInt8)) : Nat → List (List UInt8)
  | 0 => []
  | k + 1 => oxs root P k ++ [oX root k (P.getD k [])]
theorem oxs_len (root : List UInt8) (P : List (List UInt8)) : ∀ n, (oxs root P n).length = n
  | 0 => rfl
  | n + 1 => by
    show (oxs root P n ++ [oX root n (P.getD n [])]).length = _
    rw [List.length_append, oxs_len root P n]; rfl
theorem oxs_at (root : List UInt8) (P : List (List UInt8)) : ∀ n k, k < n → (oxs root P n)[k]? = some (oX root k (P.getD k []))
  | 0, k, h => by omega
  | n + 1, k, h => by
    show (oxs root P n ++ [oX root n (P.getD n [])])[k]? = _
    by_cases hk : k < n
    · rw [List.getElem?_append_left (by rw [oxs_len]; exact hk), oxs_at root P n k hk]
    · obtain rfl : k = n := by omega
      rw [List.getElem?_append_right (by rw [oxs_len]; omega), oxs_len, Nat.sub_self]; rfl
theorem rget_ac (root : List UInt8) (o : Option Wn) (k : Nat) (body : List UInt8) (hr : root.length ≤ 100) (hk : k ≤ 1000) (hb : body.length ≤ 100) (ho : (wOf o).ok) (ht : (wOf o).taken 2 ((k + 1 : Nat) : Int) = true) :
    AC Try.prog 24 [.bp 0 0 0, bs none (oX root k body)] [xE (raE root 1 o)] (fun v bs' => v = .tu [.ag (eP ⟨0, 1, 4, 2, ((k + 1 : Nat) : Int), body, tagS root (oPk k body)⟩), I 0] ∧ bs' = [xE (raE root 1 (some ((wOf o).after 2 ((k + 1 : Nat) : Int))))]) := by
  have := get_ac (raE root 1 o) (oX root k body) (by unfold oX; rw [List.length_append, headS_len, tagS_len]; dsimp only [oPk]; omega) (by show root.length ≤ 10000; omega) (by
    cases o with
    | none => intro q hq; cases hq
    | some w => intro q hq; obtain rfl := List.mem_singleton.1 hq; exact ho)
  rw [ra_get root o hk hb ht] at this
  exact this
theorem rget_no (root : List UInt8) (o : Option Wn) (k : Nat) (body : List UInt8) (hr : root.length ≤ 100) (hk : k ≤ 1000) (hb : body.length ≤ 100) (ho : (wOf o).ok) (ht : (wOf o).taken 2 ((k + 1 : Nat) : Int) = false) :
    AC Try.prog 24 [.bp 0 0 0, bs none (oX root k body)] [xE (raE root 1 o)] (fun v bs' => v = .tu [.ag (eP ⟨0, 0, 0, 0, 0, [], List.replicate 32 0⟩), I 180] ∧ bs' = [xE (raE root 1 (some (wOf o)))]) := by
  have := get_ac (raE root 1 o) (oX root k body) (by unfold oX; rw [List.length_append, headS_len, tagS_len]; dsimp only [oPk]; omega) (by show root.length ≤ 10000; omega) (by
    cases o with
    | none => intro q hq; cases hq
    | some w => intro q hq; obtain rfl := List.mem_singleton.1 hq; exact ho)
  rw [ra_replay root o hk hb ht, pk0_eP] at this
  exact this
theorem rget_third (root : List UInt8) (k : Nat) (body : List UInt8) (hr : root.length ≤ 100) (hk : k ≤ 1000) (hb : body.length ≤ 100) :
    AC Try.prog 24 [.bp 0 0 0, bs none (oX root k body)] [xE (raE root 3 none)] (fun v bs' => v = .tu [.ag (eP ⟨0, 0, 0, 0, 0, [], List.replicate 32 0⟩), I 190] ∧ bs' = [xE (raE root 3 none)]) := by
  have := get_ac (raE root 3 none) (oX root k body) (by unfold oX; rw [List.length_append, headS_len, tagS_len]; dsimp only [oPk]; omega) (by show root.length ≤ 10000; omega) (by intro q hq; cases hq)
  rw [ra_other root hk hb, pk0_eP] at this
  exact this
theorem once_k (x : Int) {n : Nat} (h1 : 1 ≤ n) (h2 : n ≤ 30) : ∃ k : Nat, k < n ∧ IntKind.i64.wrap ((IntKind.u64.wrap x).tmod (IntKind.u64.wrap (n : Int))) = (k : Int) := by
  have hw : IntKind.u64.wrap (n : Int) = (n : Int) := by unfold IntKind.wrap; simp [IntKind.signed, IntKind.bits]; omega
  have h0 : 0 ≤ IntKind.u64.wrap x := by unfold IntKind.wrap; simp [IntKind.signed, IntKind.bits]; omega
  rw [hw, Int.tmod_eq_emod_of_nonneg h0]
  have h3 := Int.emod_nonneg (IntKind.u64.wrap x) (show (n : Int) ≠ 0 by omega)
  have h4 := Int.emod_lt_of_pos (IntKind.u64.wrap x) (show (0 : Int) < (n : Int) by omega)
  generalize IntKind.u64.wrap x % (n : Int) = y at *
  refine ⟨y.toNat, by omega, ?_⟩
  rw [wrap_i64 (by omega) (by omega)]
  omega
theorem wn_after_ok {w : Wn} {b n : Int} (h : w.ok) (h1 : 1 ≤ n) (hn : n ≤ 9223372036854775807) : (w.after b n).ok := by
  unfold Wn.after
  split
  · exact h
  split
  · exact h
  have hb : (w.base b).ok := by
    unfold Wn.base
    split
    · exact ⟨Int.le_refl _, (by decide : (0 : Int) ≤ 9223372036854775807)⟩
    · exact h
  generalize w.base b = x at *
  have hf : (x.far n).ok := by
    unfold Wn.far
    split
    · exact ⟨by dsimp only; omega, hn⟩
    · exact hb
  unfold Wn.go
  generalize x.far n = y at *
  show 0 ≤ (y.ups _).top ∧ (y.ups _).top ≤ _
  rw [Wn.ups_top]
  unfold Wn.ok at hf
  omega
theorem set_get_true (L : List Bool) {k : Nat} (h : L.getD k false = true) : L.set k true = L := by
  apply List.ext_getElem?
  intro i
  rw [List.getElem?_set]
  rw [List.getD_eq_getElem?_getD] at h
  split
  · rename_i he
    subst he
    cases hx : L[k]? with
    | none => rw [hx] at h; cases h
    | some b =>
      rw [hx] at h
      cases h
      have := (List.getElem?_eq_some_iff.1 hx).1
      rw [if_pos this]
  · rfl
theorem set_getD (L : List Bool) {k : Nat} (h : k < L.length) : (fun j => if j = k then true else L.getD j false) = fun j => (L.set k true).getD j false := by
  funext j
  rw [List.getD_eq_getElem?_getD, List.getD_eq_getElem?_getD, List.getElem?_set]
  by_cases hj : j = k
  · rw [if_pos hj, if_pos hj.symm, if_pos h]; rfl
  · rw [if_neg hj, if_neg (Ne.symm hj)]
theorem lonce (root : List UInt8) (P : List (List UInt8)) (O : List Int) (hr : root.length ≤ 100) (hp1 : 1 ≤ P.length) (hp : P.length ≤ 30) (ho : O.length ≤ 60) :
    AC Try.prog 5 [bs none root, bss none P, .sl none 1 (O.map fun x => [I x])] [] (fun v bs' => v = B true ∧ bs' = []) := by
  have h0 := awake_ac
  have d1 : decide ((100 : Int) < (root.length : Int)) = false := by simp; omega
  have d2 : decide ((30 : Int) < (P.length : Int)) = false := by simp; omega
  have d3 : decide ((60 : Int) < (O.length : Int)) = false := by simp; omega
  have d4 : ((P.length : Int) == 0) = false := beq_eq_false_iff_ne.2 (by omega)
  have n0 := lnew_ac root 0 2 (by omega)
  have n1 := lnew_ac root 1 0 (by omega)
  have n2 := lnew_ac root 3 0 (by omega)
  refine AC.N Try.func5 Try.ntmps5 ?_
  intro X hρ hmks
  simp only [nx, Nat.reduceAdd, Nat.reduceSub, BEq.rfl]
  repeat' (first
    | ((first
      | ((with_reducible apply AP.k_any); first | refine AP.ST ?_ | (refine AP.Y ?_; dsimp only) | refine AP.G (fun hg => ?_) (fun hg => ?_) | (refine AP.V (fun c hnil => ?_); simp only [nz]) | ((with_reducible apply AP.k_any); refine AP.B 1 (n0) ?_) | ((with_reducible apply AP.k_any); refine AP.B 1 (n1) ?_) | ((with_reducible apply AP.k_any); refine AP.B 1 (n2) ?_) | refine AP.PF ?_)
        | ((with_reducible apply DW.k_any); first | refine DW.ST ?_ | ((fail_if_success refine DW.known rfl ?_); refine DW.G (fun hg => ?_) (fun hg => ?_)))
        | ((with_reducible apply DW.k_any); first
                    | refine DW.R ?_ | refine DW.R' ?_ | refine DW.W ?_ | refine DW.W' ?_
                    | (refine DW.known rfl ?_; (with_reducible first | apply DW.sx 2 | apply DW.sxN 2); (iterate 2 (focus (simp only [ft, nm, Nat.reduceAdd, Nat.reduceBEq, List.getElem?_cons_zero, List.getElem?_cons_succ]; exact rfl))); (focus (intro X V; simp only [ft, nm, Nat.reduceAdd, Nat.reduceBEq]; (try (refine AP.Y ?_; dsimp only)); (first | ((with_reducible apply AP.k_any); refine AP.B 1 (n0) ?_) | ((with_reducible apply AP.k_any); refine AP.B 1 (n1) ?_) | ((with_reducible apply AP.k_any); refine AP.B 1 (n2) ?_) | fail); (try simp only [nx, Nat.reduceAdd, Nat.reduceSub, BEq.rfl]); refine AP.nil ?_; (first | refine ⟨trivial, rfl, ?_⟩ | refine ⟨rfl, rfl, ?_⟩); (repeat' (first | exact Mg.nil | apply Mg.keep rfl | apply Mg.take rfl)); done)); (focus (refine Exists.intro (fun _ => 0) ?_; apply Exists.intro; (repeat' (first | exact Mg.nil | apply Mg.keep rfl | apply Mg.take rfl)); done)); (iterate 2 (focus (exact rfl))))
                    | ((fail_if_success refine DW.known rfl ?_); refine DW.G (fun hg => ?_) (fun hg => ?_))
        )
      ) <;> (try simp only [d1, d2, d3, d4, List.length_map, nx, mx, rn, fq, Nat.mul_one, Bool.and_true, Bool.and_false, Nat.reduceBEq, Nat.reduceAdd, Nat.reduceSub, BEq.rfl]))
    | ((with_reducible apply AP.k_nil); first | (refine AP.nil (hQ' _ ?_); clear hQ' Q') | refine AP.nil ?_)
    | ((with_reducible apply CP.k_drw); refine cp_drwX fun Q' hQ' => ?_)
    | ((with_reducible apply CP.k_drw1); refine cp_drawX ?_)
    | ((with_reducible apply DW.k_nil); refine DW.nl ?_; first | (refine hQ' _ ?_; clear hQ' Q') | skip)
    | ((with_reducible apply CP.k_reg); refine cp_regG fun Q' hQ' => ?_)
      | (with_reducible apply CP.k_reg1; refine cp_region ?_)
      | ((with_reducible apply CP.k_cond); first | refine cp_condT rfl ?_ | refine cp_condF rfl ?_ | refine cp_cond rfl (fun hc => ?_) (fun hc => ?_))
      | refine CP.go ?_
      | (simp only [List.append_eq, List.cons_append, List.nil_append]))
  clear n0 n1 n2 h0
  refine CP.gh (gh_nil (t := 10) (e := 22) (k := 1) rfl) ?_
  simp only [nx, Nat.reduceAdd, Nat.reduceSub, BEq.rfl]
  refine CP.gh gh_slot ?_; simp only [nx, Nat.reduceAdd, Nat.reduceSub, BEq.rfl]
  refine cp_loopS [6, 10, 11, 12, 13, 47, 48, 49, 50, 51, 52, 53, 54, 55, 56, 57, 58, 59, 60, 61, 62, 63, 64, 65, 66, 67, 68, 69, 70, 71, 72, 73] (fun a : Nat × Nat => P.length - a.1) (fun a => a.1 ≤ P.length ∧ ∀ i, i < a.1 → (P.getD i []).length ≤ 100) (fun a => [(11, I a.1), (10, .hd 9 a.2)])
    (fun a => [(0, ⟨1, .c tEn [B true, bs none root, I 0, I 2, .hd 1 (a.1 + 1), .hd 2 (a.1 + 1)]⟩), (1, ⟨a.1 + 1, .m (keyN (sO a.1)) (rowN (sO a.1)) none none⟩), (2, ⟨a.1 + 1, .m [] [] none none⟩), (9, ⟨a.2, .r 22 1 ((oxs root P a.1).map eS)⟩), (10, ⟨a.1, .x⟩)]) (0, 1) ⟨Nat.zero_le _, fun i hi => by dsimp only at hi; omega⟩ (by exact Gh.W) ?_
  rintro ⟨k, u⟩ ⟨hk, hbs⟩
  simp only [setT, deT, setB, List.set_cons_succ, List.set_cons_zero]
  dsimp only at hk hbs
  by_cases hlt : k < P.length
  · have q1 : decide ((k : Int) < (P.length : Int)) = true := by simp; omega
    have q2 : IntKind.i64.wrap ((k : Int) + 1) = ((k + 1 : Nat) : Int) := wrap_i64 (by omega) (by omega)
    by_cases hbig : 100 < P[k].length
    · have q3 : decide ((100 : Int) < (P[k].length : Int)) = true := by simp; omega
      repeat' (first
        | ((first
          | ((with_reducible apply AP.k_any); first | refine AP.ST ?_ | (refine AP.Y ?_; dsimp only) | refine AP.G (fun hg => ?_) (fun hg => ?_) | (refine AP.V (fun c hnil => ?_); simp only [nz])  | refine AP.PF ?_)
            | ((with_reducible apply DW.k_any); first | refine DW.ST ?_ | ((fail_if_success refine DW.known rfl ?_); refine DW.G (fun hg => ?_) (fun hg => ?_)))
            | ((with_reducible apply DW.k_any); first
                        | refine DW.R ?_ | refine DW.R' ?_ | refine DW.W ?_ | refine DW.W' ?_
                        | (refine DW.known rfl ?_; (with_reducible first | apply DW.sx 2 | apply DW.sxN 2); (iterate 2 (focus (simp only [ft, nm, Nat.reduceAdd, Nat.reduceBEq, List.getElem?_cons_zero, List.getElem?_cons_succ]; exact rfl))); (focus (intro X V; simp only [ft, nm, Nat.reduceAdd, Nat.reduceBEq]; (try (refine AP.Y ?_; dsimp only)); (first  | fail); (try simp only [nx, Nat.reduceAdd, Nat.reduceSub, BEq.rfl]); refine AP.nil ?_; (first | refine ⟨trivial, rfl, ?_⟩ | refine ⟨rfl, rfl, ?_⟩); (repeat' (first | exact Mg.nil | apply Mg.keep rfl | apply Mg.take rfl)); done)); (focus (refine Exists.intro (fun _ => 0) ?_; apply Exists.intro; (repeat' (first | exact Mg.nil | apply Mg.keep rfl | apply Mg.take rfl)); done)); (iterate 2 (focus (exact rfl))))
                        | ((fail_if_success refine DW.known rfl ?_); refine DW.G (fun hg => ?_) (fun hg => ?_))
            )
          ) <;> (try simp only [q1, q2, q3, nx, mx, rn, fq, Nat.mul_one, Bool.and_true, Bool.and_false, Nat.reduceBEq, Nat.reduceAdd, Nat.reduceSub, BEq.rfl]))
        | ((with_reducible apply AP.k_nil); first | (refine AP.nil (hQ' _ ?_); clear hQ' Q') | refine AP.nil ?_)
        | ((with_reducible apply CP.k_drw); refine cp_drwX fun Q' hQ' => ?_)
        | ((with_reducible apply CP.k_drw1); refine cp_drawX ?_)
        | ((with_reducible apply DW.k_nil); refine DW.nl ?_; first | (refine hQ' _ ?_; clear hQ' Q') | skip)
        | ((with_reducible apply CP.k_reg); refine cp_regG fun Q' hQ' => ?_)
          | (with_reducible apply CP.k_reg1; refine cp_region ?_)
          | ((with_reducible apply CP.k_cond); first | refine cp_condT rfl ?_ | refine cp_condF rfl ?_ | refine cp_cond rfl (fun hc => ?_) (fun hc => ?_))
          | refine CP.go ?_
          | (simp only [List.append_eq, List.cons_append, List.nil_append]))
      (exact RetQ.A [] (by exact ⟨rfl, rfl⟩))
    · have q3 : decide ((100 : Int) < (P[k].length : Int)) = false := by simp; omega
      have hs := fsend_ac root k P[k] hr (by omega) (by omega)
      unfold frE at hs
      have hg : P.getD k [] = P[k] := by rw [List.getD_eq_getElem?_getD, List.getElem?_eq_getElem hlt]; rfl
      have hx : (oxs root P (k + 1)).map eS = (oxs root P k).map eS ++ [eS (oX root k P[k])] := by
        show (oxs root P k ++ [oX root k (P.getD k [])]).map eS = _
        rw [hg, List.map_append]; rfl
      have hl : ((oxs root P k).map eS).length + 1 ≤ 1000000000 := by
        have : ∀ k, (oxs root P k).length = k := fun k => by induction k with | zero => rfl | succ k ih => (unfold oxs; rw [List.length_append, ih]; rfl)
        rw [List.length_map, this]; omega
      repeat' (first
        | ((first
          | ((with_reducible apply AP.k_any); first | refine AP.ST ?_ | (refine AP.Y ?_; dsimp only) | refine AP.G (fun hg => ?_) (fun hg => ?_) | (refine AP.V (fun c hnil => ?_); simp only [nz]) | ((with_reducible apply AP.k_any); refine AP.B 0 (hs) ?_) | refine AP.PF ?_)
            | ((with_reducible apply DW.k_any); first | refine DW.ST ?_ | ((fail_if_success refine DW.known rfl ?_); refine DW.G (fun hg => ?_) (fun hg => ?_)))
            | ((with_reducible apply DW.k_any); first
                        | refine DW.R ?_ | refine DW.R' ?_ | refine DW.W ?_ | refine DW.W' ?_
                        | (refine DW.known rfl ?_; (with_reducible first | apply DW.sx 2 | apply DW.sxN 2); (iterate 2 (focus (simp only [ft, nm, Nat.reduceAdd, Nat.reduceBEq, List.getElem?_cons_zero, List.getElem?_cons_succ]; exact rfl))); (focus (intro X V; simp only [ft, nm, Nat.reduceAdd, Nat.reduceBEq]; (try (refine AP.Y ?_; dsimp only)); (first | ((with_reducible apply AP.k_any); refine AP.B 0 (hs) ?_) | fail); (try simp only [nx, Nat.reduceAdd, Nat.reduceSub, BEq.rfl]); refine AP.nil ?_; (first | refine ⟨trivial, rfl, ?_⟩ | refine ⟨rfl, rfl, ?_⟩); (repeat' (first | exact Mg.nil | apply Mg.keep rfl | apply Mg.take rfl)); done)); (focus (refine Exists.intro (fun _ => 0) ?_; apply Exists.intro; (repeat' (first | exact Mg.nil | apply Mg.keep rfl | apply Mg.take rfl)); done)); (iterate 2 (focus (exact rfl))))
                        | ((fail_if_success refine DW.known rfl ?_); refine DW.G (fun hg => ?_) (fun hg => ?_))
            )
          ) <;> (try simp only [q1, q2, q3, nx, mx, rn, fq, Nat.mul_one, Bool.and_true, Bool.and_false, Nat.reduceBEq, Nat.reduceAdd, Nat.reduceSub, BEq.rfl]))
        | ((with_reducible apply AP.k_nil); first | (refine AP.nil (hQ' _ ?_); clear hQ' Q') | refine AP.nil ?_)
        | ((with_reducible apply CP.k_drw); refine cp_drwX fun Q' hQ' => ?_)
        | ((with_reducible apply CP.k_drw1); refine cp_drawX ?_)
        | ((with_reducible apply DW.k_nil); refine DW.nl ?_; first | (refine hQ' _ ?_; clear hQ' Q') | skip)
        | ((with_reducible apply CP.k_reg); refine cp_regG fun Q' hQ' => ?_)
          | (with_reducible apply CP.k_reg1; refine cp_region ?_)
          | ((with_reducible apply CP.k_cond); first | refine cp_condT rfl ?_ | refine cp_condF rfl ?_ | refine cp_cond rfl (fun hc => ?_) (fun hc => ?_))
          | refine CP.go ?_
          | (simp only [List.append_eq, List.cons_append, List.nil_append]))
      refine ⟨(k + 1, u + 1), by (dsimp only; omega), ⟨by (dsimp only; omega), fun i hi => ?_⟩, ?_⟩
      · dsimp only at hi
        by_cases hik : i = k
        · rw [hik, hg]; omega
        · exact hbs i (by omega)
      simp only [hx]
      exact Gh.W
  · obtain rfl : k = P.length := by omega
    have q1 : decide ((P.length : Int) < (P.length : Int)) = false := by simp
    repeat' (first
      | ((first
        | ((with_reducible apply AP.k_any); first | refine AP.ST ?_ | (refine AP.Y ?_; dsimp only) | refine AP.G (fun hg => ?_) (fun hg => ?_) | (refine AP.V (fun c hnil => ?_); simp only [nz]) | refine ap_makeS rfl rfl rfl rfl rfl rfl rfl rfl rfl rfl rfl (by omega) ?_ | refine AP.PF ?_)
          | ((with_reducible apply DW.k_any); first | refine DW.ST ?_ | ((fail_if_success refine DW.known rfl ?_); refine DW.G (fun hg => ?_) (fun hg => ?_)))
          | ((with_reducible apply DW.k_any); first
                      | refine DW.R ?_ | refine DW.R' ?_ | refine DW.W ?_ | refine DW.W' ?_
                      | (refine DW.known rfl ?_; (with_reducible first | apply DW.sx 2 | apply DW.sxN 2); (iterate 2 (focus (simp only [ft, nm, Nat.reduceAdd, Nat.reduceBEq, List.getElem?_cons_zero, List.getElem?_cons_succ]; exact rfl))); (focus (intro X V; simp only [ft, nm, Nat.reduceAdd, Nat.reduceBEq]; (try (refine AP.Y ?_; dsimp only)); (first | refine ap_makeS rfl rfl rfl rfl rfl rfl rfl rfl rfl rfl rfl (by omega) ?_ | fail); (try simp only [nx, Nat.reduceAdd, Nat.reduceSub, BEq.rfl]); refine AP.nil ?_; (first | refine ⟨trivial, rfl, ?_⟩ | refine ⟨rfl, rfl, ?_⟩); (repeat' (first | exact Mg.nil | apply Mg.keep rfl | apply Mg.take rfl)); done)); (focus (refine Exists.intro (fun _ => 0) ?_; apply Exists.intro; (repeat' (first | exact Mg.nil | apply Mg.keep rfl | apply Mg.take rfl)); done)); (iterate 2 (focus (exact rfl))))
                      | ((fail_if_success refine DW.known rfl ?_); refine DW.G (fun hg => ?_) (fun hg => ?_))
          )
        ) <;> (try simp only [q1, nx, mx, rn, fq, Nat.mul_one, Bool.and_true, Bool.and_false, Nat.reduceBEq, Nat.reduceAdd, Nat.reduceSub, BEq.rfl]))
      | ((with_reducible apply AP.k_nil); first | (refine AP.nil (hQ' _ ?_); clear hQ' Q') | refine AP.nil ?_)
      | ((with_reducible apply CP.k_drw); refine cp_drwX fun Q' hQ' => ?_)
      | ((with_reducible apply CP.k_drw1); refine cp_drawX ?_)
      | ((with_reducible apply DW.k_nil); refine DW.nl ?_; first | (refine hQ' _ ?_; clear hQ' Q') | skip)
      | ((with_reducible apply CP.k_reg); refine cp_regG fun Q' hQ' => ?_)
        | (with_reducible apply CP.k_reg1; refine cp_region ?_)
        | ((with_reducible apply CP.k_cond); first | refine cp_condT rfl ?_ | refine cp_condF rfl ?_ | refine cp_cond rfl (fun hc => ?_) (fun hc => ?_))
        | refine CP.go ?_
        | (simp only [List.append_eq, List.cons_append, List.nil_append]))
    rw [show List.replicate P.length [AV.sc (.bool false)] = (List.replicate P.length false).map (fun b => [B b]) from by rw [List.map_replicate]]
    refine CP.gh gh_slot ?_; simp only [nx, Nat.reduceAdd, Nat.reduceSub, BEq.rfl]
    refine CP.gh gh_slot ?_; simp only [nx, Nat.reduceAdd, Nat.reduceSub, BEq.rfl]
    refine cp_loopS [6, 15, 16, 17, 18, 19, 20, 77, 78, 79, 80, 81, 82, 83, 84, 85, 86, 87, 88, 89, 90, 91, 92, 93, 94, 95, 96, 97, 98, 99, 100, 101, 102, 103, 104, 105, 106, 107, 108, 109, 110, 111, 112, 113, 114, 115, 116, 117, 118, 119, 120, 121, 122, 123, 124, 125, 126, 127, 128, 129, 130, 131, 132, 133, 134, 135, 136, 137, 138, 139, 140, 141, 142, 143, 144, 145, 146, 147, 148, 149, 150, 151, 152, 153, 154, 155, 156, 157, 158, 159, 160, 161, 162, 163, 164, 165, 166, 167, 168, 169, 170, 171, 172, 173] (fun a : Nat × Option Wn × List Bool => O.length - a.1) (fun a => a.1 ≤ O.length ∧ a.2.2.length = P.length ∧ (wOf a.2.1).ok ∧ Kn (wOf a.2.1) (fun k => a.2.2.getD k false)) (fun a => [(15, I a.1)])
      (fun a => [(3, ⟨1, .c tEn [B true, bs none root, I 1, I 0, .hd 4 (a.1 + 1), .hd 5 (a.1 + 1)]⟩), (4, ⟨a.1 + 1, .m [] [] none none⟩), (5, ⟨a.1 + 1, .m (keyW (wO a.2.1)) (rowW (wO a.2.1)) none none⟩),
        (6, ⟨1, .c tEn [B true, bs none root, I 3, I 0, .hd 7 (a.1 + 1), .hd 8 (a.1 + 1)]⟩), (7, ⟨a.1 + 1, .m [] [] none none⟩), (8, ⟨a.1 + 1, .m [] [] none none⟩), (10, ⟨P.length + 1, .r 4 1 (a.2.2.map fun b => [B b])⟩), (11, ⟨a.1, .x⟩), (12, ⟨a.1, .x⟩)]) (0, none, List.replicate P.length false) ⟨Nat.zero_le _, List.length_replicate, new_ok, .inl ⟨by show (-1 : Int) < 2; decide, fun k => by dsimp only; simp [List.getD_eq_getElem?_getD, List.getElem?_replicate]; split <;> rfl⟩⟩ (by exact Gh.W) ?_
    rintro ⟨j, o, L⟩ ⟨hj, hL, hok, hkn⟩
    simp only [setT, deT, setB, List.set_cons_succ, List.set_cons_zero]
    dsimp only at hj hL hok hkn
    by_cases hlj : j < O.length
    · have q2 : decide ((j : Int) < (O.length : Int)) = true := by simp; omega
      have q3 : IntKind.i64.wrap ((j : Int) + 1) = ((j + 1 : Nat) : Int) := wrap_i64 (by omega) (by omega)
      have hO : (O.map fun x => [I x])[j]? = some [I O[j]] := by rw [List.getElem?_map, List.getElem?_eq_getElem hlj]; rfl
      have hw : IntKind.u64.wrap (P.length : Int) = (P.length : Int) := by unfold IntKind.wrap; simp [IntKind.signed, IntKind.bits]; omega
      have hj0 : IntKind.u64.wrap (P.length : Int) ≠ 0 := by rw [hw]; omega
      obtain ⟨k, hk1, hk2⟩ := once_k O[j] hp1 hp
      have hkP : P.getD k [] = P[k] := by rw [List.getD_eq_getElem?_getD, List.getElem?_eq_getElem hk1]; rfl
      have hbk : P[k].length ≤ 100 := by rw [← hkP]; exact hbs k hk1
      have hPk : (P.map eS)[k]? = some (eS P[k]) := by rw [List.getElem?_map, List.getElem?_eq_getElem hk1]; rfl
      have hX : ((oxs root P P.length).map eS)[k]? = some (eS (oX root k P[k])) := by rw [List.getElem?_map, oxs_at root P _ k hk1, hkP]; rfl
      have hLk : (L.map fun b => [B b])[k]? = some [B (L.getD k false)] := by rw [List.getElem?_map, List.getD_eq_getElem?_getD, List.getElem?_eq_getElem (by omega)]; rfl
      have hlX : ((oxs root P P.length).map eS).length = P.length := by rw [List.length_map, oxs_len]
      have hlL : (L.map fun b => [B b]).length = P.length := by rw [List.length_map, hL]
      have hlP : (P.map eS).length = P.length := List.length_map ..
      have hth := rget_third root k P[k] hr (by omega) hbk
      unfold raE at hth
      have q4 : (((k + 1 : Nat) : Int) != ((k + 1 : Nat) : Int)) = false := by simp
      have hk3 : IntKind.i64.wrap ((k : Int) + 1) = ((k + 1 : Nat) : Int) := wrap_i64 (by omega) (by omega)
      have htk := hkn.tk (show k < 30 by omega)
      cases hg : L.getD k false with
      | false =>
        rw [hg] at hLk htk
        have hge := rget_ac root o k P[k] hr (by omega) hbk hok htk
        unfold raE at hge
        have h5 := wsame_ac P[k] P[k] (by omega)
        rw [decide_eq_true rfl] at h5
        have hk4 := hkn.after (show k < 30 by omega) hg
        rw [set_getD L (by omega)] at hk4
        have hok1 : ((wOf o).after 2 ((k + 1 : Nat) : Int)).ok := wn_after_ok hok (by omega) (by omega)
        generalize (wOf o).after 2 ((k + 1 : Nat) : Int) = w1 at *
        generalize tagS root (oPk k P[k]) = T at *
        generalize oX root k P[k] = ox at *
        clear hkn htk hbs hok
        repeat' (first
          | ((first
            | ((with_reducible apply AP.k_any); first | refine AP.ST ?_ | (refine AP.Y ?_; dsimp only) | refine AP.G (fun hg => ?_) (fun hg => ?_) | (refine AP.V (fun c hnil => ?_); simp only [nz]) | refine AP.pure rfl (pq_rem rfl rfl rfl hj0) ?_ | ((with_reducible apply AP.k_any); refine AP.B 0 (hge) ?_) | ((with_reducible apply AP.k_any); refine AP.B 0 (hth) ?_) | ((with_reducible apply AP.k_any); refine AP.C (h5) ?_) | refine AP.PF ?_)
              | ((with_reducible apply DW.k_any); first | refine DW.ST ?_ | ((fail_if_success refine DW.known rfl ?_); refine DW.G (fun hg => ?_) (fun hg => ?_)))
              | ((with_reducible apply DW.k_any); first
                          | refine DW.R ?_ | refine DW.R' ?_ | refine DW.W ?_ | refine DW.W' ?_
                          | (refine DW.known rfl ?_; (with_reducible first | apply DW.sx 2 | apply DW.sxN 2); (iterate 2 (focus (simp only [ft, nm, Nat.reduceAdd, Nat.reduceBEq, List.getElem?_cons_zero, List.getElem?_cons_succ]; exact rfl))); (focus (intro X V; simp only [ft, nm, Nat.reduceAdd, Nat.reduceBEq]; (try (refine AP.Y ?_; dsimp only)); (first | refine AP.pure rfl (pq_rem rfl rfl rfl hj0) ?_ | ((with_reducible apply AP.k_any); refine AP.B 0 (hge) ?_) | ((with_reducible apply AP.k_any); refine AP.B 0 (hth) ?_) | ((with_reducible apply AP.k_any); refine AP.C (h5) ?_) | fail); (try simp only [nx, Nat.reduceAdd, Nat.reduceSub, BEq.rfl]); refine AP.nil ?_; (first | refine ⟨trivial, rfl, ?_⟩ | refine ⟨rfl, rfl, ?_⟩); (repeat' (first | exact Mg.nil | apply Mg.keep rfl | apply Mg.take rfl)); done)); (focus (refine Exists.intro (fun _ => 0) ?_; apply Exists.intro; (repeat' (first | exact Mg.nil | apply Mg.keep rfl | apply Mg.take rfl)); done)); (iterate 2 (focus (exact rfl))))
                          | ((fail_if_success refine DW.known rfl ?_); refine DW.G (fun hg => ?_) (fun hg => ?_))
              )
            ) <;> (try simp only [q2, q3, q4, hk2, hk3, List.length_map, nx, mx, rn, fq, Nat.mul_one, Bool.and_true, Bool.and_false, Nat.reduceBEq, Nat.reduceAdd, Nat.reduceSub, BEq.rfl]))
          | ((with_reducible apply AP.k_nil); first | (refine AP.nil (hQ' _ ?_); clear hQ' Q') | refine AP.nil ?_)
          | ((with_reducible apply CP.k_drw); refine cp_drwX fun Q' hQ' => ?_)
          | ((with_reducible apply CP.k_drw1); refine cp_drawX ?_)
          | ((with_reducible apply DW.k_nil); refine DW.nl2 ?_; first | (refine hQ' _ ?_; clear hQ' Q') | skip)
          | ((with_reducible apply CP.k_reg); refine cp_regG fun Q' hQ' => ?_)
            | (with_reducible apply CP.k_reg1; refine cp_region ?_)
            | ((with_reducible apply CP.k_cond); first | refine cp_condT rfl ?_ | refine cp_condF rfl ?_ | refine cp_cond rfl (fun hc => ?_) (fun hc => ?_))
            | refine CP.go ?_
            | (simp only [List.append_eq, List.cons_append, List.nil_append]))
        refine ⟨(j + 1, some w1, L.set k true), by (dsimp only; omega), ⟨by (dsimp only; omega), by (dsimp only; rw [List.length_set]; exact hL), hok1, hk4⟩, ?_⟩
        simp only [List.map_set]
        exact Gh.W
      | true =>
        rw [hg] at hLk htk
        have hge := rget_no root o k P[k] hr (by omega) hbk hok htk
        unfold raE at hge
        have hset := set_get_true L hg
        generalize oX root k P[k] = ox at *
        repeat' (first
          | ((first
            | ((with_reducible apply AP.k_any); first | refine AP.ST ?_ | (refine AP.Y ?_; dsimp only) | refine AP.G (fun hg => ?_) (fun hg => ?_) | (refine AP.V (fun c hnil => ?_); simp only [nz]) | refine AP.pure rfl (pq_rem rfl rfl rfl hj0) ?_ | ((with_reducible apply AP.k_any); refine AP.B 0 (hge) ?_) | ((with_reducible apply AP.k_any); refine AP.B 0 (hth) ?_) | refine AP.PF ?_)
              | ((with_reducible apply DW.k_any); first | refine DW.ST ?_ | ((fail_if_success refine DW.known rfl ?_); refine DW.G (fun hg => ?_) (fun hg => ?_)))
              | ((with_reducible apply DW.k_any); first
                          | refine DW.R ?_ | refine DW.R' ?_ | refine DW.W ?_ | refine DW.W' ?_
                          | (refine DW.known rfl ?_; (with_reducible first | apply DW.sx 2 | apply DW.sxN 2); (iterate 2 (focus (simp only [ft, nm, Nat.reduceAdd, Nat.reduceBEq, List.getElem?_cons_zero, List.getElem?_cons_succ]; exact rfl))); (focus (intro X V; simp only [ft, nm, Nat.reduceAdd, Nat.reduceBEq]; (try (refine AP.Y ?_; dsimp only)); (first | refine AP.pure rfl (pq_rem rfl rfl rfl hj0) ?_ | ((with_reducible apply AP.k_any); refine AP.B 0 (hge) ?_) | ((with_reducible apply AP.k_any); refine AP.B 0 (hth) ?_) | fail); (try simp only [nx, Nat.reduceAdd, Nat.reduceSub, BEq.rfl]); refine AP.nil ?_; (first | refine ⟨trivial, rfl, ?_⟩ | refine ⟨rfl, rfl, ?_⟩); (repeat' (first | exact Mg.nil | apply Mg.keep rfl | apply Mg.take rfl)); done)); (focus (refine Exists.intro (fun _ => 0) ?_; apply Exists.intro; (repeat' (first | exact Mg.nil | apply Mg.keep rfl | apply Mg.take rfl)); done)); (iterate 2 (focus (exact rfl))))
                          | ((fail_if_success refine DW.known rfl ?_); refine DW.G (fun hg => ?_) (fun hg => ?_))
              )
            ) <;> (try simp only [q2, q3, q4, hk2, hk3, List.length_map, nx, mx, rn, fq, Nat.mul_one, Bool.and_true, Bool.and_false, Nat.reduceBEq, Nat.reduceAdd, Nat.reduceSub, BEq.rfl]))
          | ((with_reducible apply AP.k_nil); first | (refine AP.nil (hQ' _ ?_); clear hQ' Q') | refine AP.nil ?_)
          | ((with_reducible apply CP.k_drw); refine cp_drwX fun Q' hQ' => ?_)
          | ((with_reducible apply CP.k_drw1); refine cp_drawX ?_)
          | ((with_reducible apply DW.k_nil); refine DW.nl2 ?_; first | (refine hQ' _ ?_; clear hQ' Q') | skip)
          | ((with_reducible apply CP.k_reg); refine cp_regG fun Q' hQ' => ?_)
            | (with_reducible apply CP.k_reg1; refine cp_region ?_)
            | ((with_reducible apply CP.k_cond); first | refine cp_condT rfl ?_ | refine cp_condF rfl ?_ | refine cp_cond rfl (fun hc => ?_) (fun hc => ?_))
            | refine CP.go ?_
            | (simp only [List.append_eq, List.cons_append, List.nil_append]))
        refine ⟨(j + 1, some (wOf o), L.set k true), by (dsimp only; omega), ⟨by (dsimp only; omega), by (dsimp only; rw [List.length_set]; exact hL), hok, by (dsimp only; rw [hset]; exact hkn)⟩, ?_⟩
        simp only [List.map_set]
        exact Gh.W
    · obtain rfl : j = O.length := by omega
      have q2 : decide ((O.length : Int) < (O.length : Int)) = false := by simp
      repeat' (first
        | ((first
          | ((with_reducible apply AP.k_any); first | refine AP.ST ?_ | (refine AP.Y ?_; dsimp only) | refine AP.G (fun hg => ?_) (fun hg => ?_) | (refine AP.V (fun c hnil => ?_); simp only [nz])  | refine AP.PF ?_)
            | ((with_reducible apply DW.k_any); first | refine DW.ST ?_ | ((fail_if_success refine DW.known rfl ?_); refine DW.G (fun hg => ?_) (fun hg => ?_)))
            | ((with_reducible apply DW.k_any); first
                        | refine DW.R ?_ | refine DW.R' ?_ | refine DW.W ?_ | refine DW.W' ?_
                        | (refine DW.known rfl ?_; (with_reducible first | apply DW.sx 2 | apply DW.sxN 2); (iterate 2 (focus (simp only [ft, nm, Nat.reduceAdd, Nat.reduceBEq, List.getElem?_cons_zero, List.getElem?_cons_succ]; exact rfl))); (focus (intro X V; simp only [ft, nm, Nat.reduceAdd, Nat.reduceBEq]; (try (refine AP.Y ?_; dsimp only)); (first  | fail); (try simp only [nx, Nat.reduceAdd, Nat.reduceSub, BEq.rfl]); refine AP.nil ?_; (first | refine ⟨trivial, rfl, ?_⟩ | refine ⟨rfl, rfl, ?_⟩); (repeat' (first | exact Mg.nil | apply Mg.keep rfl | apply Mg.take rfl)); done)); (focus (refine Exists.intro (fun _ => 0) ?_; apply Exists.intro; (repeat' (first | exact Mg.nil | apply Mg.keep rfl | apply Mg.take rfl)); done)); (iterate 2 (focus (exact rfl))))
                        | ((fail_if_success refine DW.known rfl ?_); refine DW.G (fun hg => ?_) (fun hg => ?_))
            )
          ) <;> (try simp only [q2, List.length_map, nx, mx, rn, fq, Nat.mul_one, Bool.and_true, Bool.and_false, Nat.reduceBEq, Nat.reduceAdd, Nat.reduceSub, BEq.rfl]))
        | ((with_reducible apply AP.k_nil); first | (refine AP.nil (hQ' _ ?_); clear hQ' Q') | refine AP.nil ?_)
        | ((with_reducible apply CP.k_drw); refine cp_drwX fun Q' hQ' => ?_)
        | ((with_reducible apply CP.k_drw1); refine cp_drawX ?_)
        | ((with_reducible apply DW.k_nil); refine DW.nl ?_; first | (refine hQ' _ ?_; clear hQ' Q') | skip)
        | ((with_reducible apply CP.k_reg); refine cp_regG fun Q' hQ' => ?_)
          | (with_reducible apply CP.k_reg1; refine cp_region ?_)
          | ((with_reducible apply CP.k_cond); first | refine cp_condT rfl ?_ | refine cp_condF rfl ?_ | refine cp_cond rfl (fun hc => ?_) (fun hc => ?_))
          | refine CP.go ?_
          | (simp only [List.append_eq, List.cons_append, List.nil_append]))
      (exact RetQ.A [] (by exact ⟨rfl, rfl⟩))
theorem lonce_bad (root : List UInt8) (P : List (List UInt8)) (O : List Int) (hb : decide ((100 : Int) < (root.length : Int)) = true ∨ decide ((30 : Int) < (P.length : Int)) = true ∨ decide ((60 : Int) < (O.length : Int)) = true ∨ ((P.length : Int) == 0) = true) :
    AC Try.prog 5 [bs none root, bss none P, .sl none 1 (O.map fun x => [I x])] [] (fun v bs' => v = B true ∧ bs' = []) := by
  have h0 := awake_ac
  cases d1 : decide ((100 : Int) < (root.length : Int)) with
  | true =>
    clear hb
    refine AC.N Try.func5 Try.ntmps5 ?_
    intro X hρ hmks
    simp only [nx, Nat.reduceAdd, Nat.reduceSub, BEq.rfl]
    repeat' (first
      | ((first
        | ((with_reducible apply AP.k_any); first | refine AP.ST ?_ | (refine AP.Y ?_; dsimp only) | refine AP.G (fun hg => ?_) (fun hg => ?_) | (refine AP.V (fun c hnil => ?_); simp only [nz])  | refine AP.PF ?_)
          | ((with_reducible apply DW.k_any); first | refine DW.ST ?_ | ((fail_if_success refine DW.known rfl ?_); refine DW.G (fun hg => ?_) (fun hg => ?_)))
          | ((with_reducible apply DW.k_any); first
                      | refine DW.R ?_ | refine DW.R' ?_ | refine DW.W ?_ | refine DW.W' ?_
                      | (refine DW.known rfl ?_; (with_reducible first | apply DW.sx 2 | apply DW.sxN 2); (iterate 2 (focus (simp only [ft, nm, Nat.reduceAdd, Nat.reduceBEq, List.getElem?_cons_zero, List.getElem?_cons_succ]; exact rfl))); (focus (intro X V; simp only [ft, nm, Nat.reduceAdd, Nat.reduceBEq]; (try (refine AP.Y ?_; dsimp only)); (first  | fail); (try simp only [nx, Nat.reduceAdd, Nat.reduceSub, BEq.rfl]); refine AP.nil ?_; (first | refine ⟨trivial, rfl, ?_⟩ | refine ⟨rfl, rfl, ?_⟩); (repeat' (first | exact Mg.nil | apply Mg.keep rfl | apply Mg.take rfl)); done)); (focus (refine Exists.intro (fun _ => 0) ?_; apply Exists.intro; (repeat' (first | exact Mg.nil | apply Mg.keep rfl | apply Mg.take rfl)); done)); (iterate 2 (focus (exact rfl))))
                      | ((fail_if_success refine DW.known rfl ?_); refine DW.G (fun hg => ?_) (fun hg => ?_))
          )
        ) <;> (try simp only [d1, List.length_map, nx, mx, rn, fq, Nat.mul_one, Bool.and_true, Bool.and_false, Nat.reduceBEq, Nat.reduceAdd, Nat.reduceSub, BEq.rfl]))
      | ((with_reducible apply AP.k_nil); first | (refine AP.nil (hQ' _ ?_); clear hQ' Q') | refine AP.nil ?_)
      | ((with_reducible apply CP.k_drw); refine cp_drwX fun Q' hQ' => ?_)
      | ((with_reducible apply CP.k_drw1); refine cp_drawX ?_)
      | ((with_reducible apply DW.k_nil); refine DW.nl ?_; first | (refine hQ' _ ?_; clear hQ' Q') | skip)
      | ((with_reducible apply CP.k_reg); refine cp_regG fun Q' hQ' => ?_)
        | (with_reducible apply CP.k_reg1; refine cp_region ?_)
        | ((with_reducible apply CP.k_cond); first | refine cp_condT rfl ?_ | refine cp_condF rfl ?_ | refine cp_cond rfl (fun hc => ?_) (fun hc => ?_))
        | refine CP.go ?_
        | (simp only [List.append_eq, List.cons_append, List.nil_append]))
    (exact RetQ.A [] (by exact ⟨rfl, rfl⟩))
  | false =>
  cases d2 : decide ((30 : Int) < (P.length : Int)) with
  | true =>
    clear hb
    refine AC.N Try.func5 Try.ntmps5 ?_
    intro X hρ hmks
    simp only [nx, Nat.reduceAdd, Nat.reduceSub, BEq.rfl]
    repeat' (first
      | ((first
        | ((with_reducible apply AP.k_any); first | refine AP.ST ?_ | (refine AP.Y ?_; dsimp only) | refine AP.G (fun hg => ?_) (fun hg => ?_) | (refine AP.V (fun c hnil => ?_); simp only [nz])  | refine AP.PF ?_)
          | ((with_reducible apply DW.k_any); first | refine DW.ST ?_ | ((fail_if_success refine DW.known rfl ?_); refine DW.G (fun hg => ?_) (fun hg => ?_)))
          | ((with_reducible apply DW.k_any); first
                      | refine DW.R ?_ | refine DW.R' ?_ | refine DW.W ?_ | refine DW.W' ?_
                      | (refine DW.known rfl ?_; (with_reducible first | apply DW.sx 2 | apply DW.sxN 2); (iterate 2 (focus (simp only [ft, nm, Nat.reduceAdd, Nat.reduceBEq, List.getElem?_cons_zero, List.getElem?_cons_succ]; exact rfl))); (focus (intro X V; simp only [ft, nm, Nat.reduceAdd, Nat.reduceBEq]; (try (refine AP.Y ?_; dsimp only)); (first  | fail); (try simp only [nx, Nat.reduceAdd, Nat.reduceSub, BEq.rfl]); refine AP.nil ?_; (first | refine ⟨trivial, rfl, ?_⟩ | refine ⟨rfl, rfl, ?_⟩); (repeat' (first | exact Mg.nil | apply Mg.keep rfl | apply Mg.take rfl)); done)); (focus (refine Exists.intro (fun _ => 0) ?_; apply Exists.intro; (repeat' (first | exact Mg.nil | apply Mg.keep rfl | apply Mg.take rfl)); done)); (iterate 2 (focus (exact rfl))))
                      | ((fail_if_success refine DW.known rfl ?_); refine DW.G (fun hg => ?_) (fun hg => ?_))
          )
        ) <;> (try simp only [d1, d2, List.length_map, nx, mx, rn, fq, Nat.mul_one, Bool.and_true, Bool.and_false, Nat.reduceBEq, Nat.reduceAdd, Nat.reduceSub, BEq.rfl]))
      | ((with_reducible apply AP.k_nil); first | (refine AP.nil (hQ' _ ?_); clear hQ' Q') | refine AP.nil ?_)
      | ((with_reducible apply CP.k_drw); refine cp_drwX fun Q' hQ' => ?_)
      | ((with_reducible apply CP.k_drw1); refine cp_drawX ?_)
      | ((with_reducible apply DW.k_nil); refine DW.nl ?_; first | (refine hQ' _ ?_; clear hQ' Q') | skip)
      | ((with_reducible apply CP.k_reg); refine cp_regG fun Q' hQ' => ?_)
        | (with_reducible apply CP.k_reg1; refine cp_region ?_)
        | ((with_reducible apply CP.k_cond); first | refine cp_condT rfl ?_ | refine cp_condF rfl ?_ | refine cp_cond rfl (fun hc => ?_) (fun hc => ?_))
        | refine CP.go ?_
        | (simp only [List.append_eq, List.cons_append, List.nil_append]))
    (exact RetQ.A [] (by exact ⟨rfl, rfl⟩))
  | false =>
  cases d3 : decide ((60 : Int) < (O.length : Int)) with
  | true =>
    clear hb
    refine AC.N Try.func5 Try.ntmps5 ?_
    intro X hρ hmks
    simp only [nx, Nat.reduceAdd, Nat.reduceSub, BEq.rfl]
    repeat' (first
      | ((first
        | ((with_reducible apply AP.k_any); first | refine AP.ST ?_ | (refine AP.Y ?_; dsimp only) | refine AP.G (fun hg => ?_) (fun hg => ?_) | (refine AP.V (fun c hnil => ?_); simp only [nz])  | refine AP.PF ?_)
          | ((with_reducible apply DW.k_any); first | refine DW.ST ?_ | ((fail_if_success refine DW.known rfl ?_); refine DW.G (fun hg => ?_) (fun hg => ?_)))
          | ((with_reducible apply DW.k_any); first
                      | refine DW.R ?_ | refine DW.R' ?_ | refine DW.W ?_ | refine DW.W' ?_
                      | (refine DW.known rfl ?_; (with_reducible first | apply DW.sx 2 | apply DW.sxN 2); (iterate 2 (focus (simp only [ft, nm, Nat.reduceAdd, Nat.reduceBEq, List.getElem?_cons_zero, List.getElem?_cons_succ]; exact rfl))); (focus (intro X V; simp only [ft, nm, Nat.reduceAdd, Nat.reduceBEq]; (try (refine AP.Y ?_; dsimp only)); (first  | fail); (try simp only [nx, Nat.reduceAdd, Nat.reduceSub, BEq.rfl]); refine AP.nil ?_; (first | refine ⟨trivial, rfl, ?_⟩ | refine ⟨rfl, rfl, ?_⟩); (repeat' (first | exact Mg.nil | apply Mg.keep rfl | apply Mg.take rfl)); done)); (focus (refine Exists.intro (fun _ => 0) ?_; apply Exists.intro; (repeat' (first | exact Mg.nil | apply Mg.keep rfl | apply Mg.take rfl)); done)); (iterate 2 (focus (exact rfl))))
                      | ((fail_if_success refine DW.known rfl ?_); refine DW.G (fun hg => ?_) (fun hg => ?_))
          )
        ) <;> (try simp only [d1, d2, d3, List.length_map, nx, mx, rn, fq, Nat.mul_one, Bool.and_true, Bool.and_false, Nat.reduceBEq, Nat.reduceAdd, Nat.reduceSub, BEq.rfl]))
      | ((with_reducible apply AP.k_nil); first | (refine AP.nil (hQ' _ ?_); clear hQ' Q') | refine AP.nil ?_)
      | ((with_reducible apply CP.k_drw); refine cp_drwX fun Q' hQ' => ?_)
      | ((with_reducible apply CP.k_drw1); refine cp_drawX ?_)
      | ((with_reducible apply DW.k_nil); refine DW.nl ?_; first | (refine hQ' _ ?_; clear hQ' Q') | skip)
      | ((with_reducible apply CP.k_reg); refine cp_regG fun Q' hQ' => ?_)
        | (with_reducible apply CP.k_reg1; refine cp_region ?_)
        | ((with_reducible apply CP.k_cond); first | refine cp_condT rfl ?_ | refine cp_condF rfl ?_ | refine cp_cond rfl (fun hc => ?_) (fun hc => ?_))
        | refine CP.go ?_
        | (simp only [List.append_eq, List.cons_append, List.nil_append]))
    (exact RetQ.A [] (by exact ⟨rfl, rfl⟩))
  | false =>
  cases d4 : ((P.length : Int) == 0) with
  | true =>
    clear hb
    refine AC.N Try.func5 Try.ntmps5 ?_
    intro X hρ hmks
    simp only [nx, Nat.reduceAdd, Nat.reduceSub, BEq.rfl]
    repeat' (first
      | ((first
        | ((with_reducible apply AP.k_any); first | refine AP.ST ?_ | (refine AP.Y ?_; dsimp only) | refine AP.G (fun hg => ?_) (fun hg => ?_) | (refine AP.V (fun c hnil => ?_); simp only [nz])  | refine AP.PF ?_)
          | ((with_reducible apply DW.k_any); first | refine DW.ST ?_ | ((fail_if_success refine DW.known rfl ?_); refine DW.G (fun hg => ?_) (fun hg => ?_)))
          | ((with_reducible apply DW.k_any); first
                      | refine DW.R ?_ | refine DW.R' ?_ | refine DW.W ?_ | refine DW.W' ?_
                      | (refine DW.known rfl ?_; (with_reducible first | apply DW.sx 2 | apply DW.sxN 2); (iterate 2 (focus (simp only [ft, nm, Nat.reduceAdd, Nat.reduceBEq, List.getElem?_cons_zero, List.getElem?_cons_succ]; exact rfl))); (focus (intro X V; simp only [ft, nm, Nat.reduceAdd, Nat.reduceBEq]; (try (refine AP.Y ?_; dsimp only)); (first  | fail); (try simp only [nx, Nat.reduceAdd, Nat.reduceSub, BEq.rfl]); refine AP.nil ?_; (first | refine ⟨trivial, rfl, ?_⟩ | refine ⟨rfl, rfl, ?_⟩); (repeat' (first | exact Mg.nil | apply Mg.keep rfl | apply Mg.take rfl)); done)); (focus (refine Exists.intro (fun _ => 0) ?_; apply Exists.intro; (repeat' (first | exact Mg.nil | apply Mg.keep rfl | apply Mg.take rfl)); done)); (iterate 2 (focus (exact rfl))))
                      | ((fail_if_success refine DW.known rfl ?_); refine DW.G (fun hg => ?_) (fun hg => ?_))
          )
        ) <;> (try simp only [d1, d2, d3, d4, List.length_map, nx, mx, rn, fq, Nat.mul_one, Bool.and_true, Bool.and_false, Nat.reduceBEq, Nat.reduceAdd, Nat.reduceSub, BEq.rfl]))
      | ((with_reducible apply AP.k_nil); first | (refine AP.nil (hQ' _ ?_); clear hQ' Q') | refine AP.nil ?_)
      | ((with_reducible apply CP.k_drw); refine cp_drwX fun Q' hQ' => ?_)
      | ((with_reducible apply CP.k_drw1); refine cp_drawX ?_)
      | ((with_reducible apply DW.k_nil); refine DW.nl ?_; first | (refine hQ' _ ?_; clear hQ' Q') | skip)
      | ((with_reducible apply CP.k_reg); refine cp_regG fun Q' hQ' => ?_)
        | (with_reducible apply CP.k_reg1; refine cp_region ?_)
        | ((with_reducible apply CP.k_cond); first | refine cp_condT rfl ?_ | refine cp_condF rfl ?_ | refine cp_cond rfl (fun hc => ?_) (fun hc => ?_))
        | refine CP.go ?_
        | (simp only [List.append_eq, List.cons_append, List.nil_append]))
    (exact RetQ.A [] (by exact ⟨rfl, rfl⟩))
  | false =>
  exfalso
  rw [d1, d2, d3, d4] at hb
  simp at hb
theorem lonc (root : List UInt8) (P : List (List UInt8)) (O : List Int) :
    AC Try.prog 5 [bs none root, bss none P, .sl none 1 (O.map fun x => [I x])] [] (fun v bs' => v = B true ∧ bs' = []) := by
  by_cases hb : decide ((100 : Int) < (root.length : Int)) = true ∨ decide ((30 : Int) < (P.length : Int)) = true ∨ decide ((60 : Int) < (O.length : Int)) = true ∨ ((P.length : Int) == 0) = true
  · exact lonce_bad root P O hb
  · simp only [decide_eq_true_eq, not_or, beq_iff_eq] at hb
    exact lonce root P O (by omega) (by omega) (by omega) (by omega)
end Go.Proofs.Ytnjfchigdpifmaa
