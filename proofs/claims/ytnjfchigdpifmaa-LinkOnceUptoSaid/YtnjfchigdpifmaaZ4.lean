/-
  Texts joined: S5, S6, X1, H1, H3, H4, H5, H6, Cv, H7, H8, H9, R1, Ky, Ob, Mp, Mq, Wk, Q1, Q2.
-/
import Derived.Test.YtnjfchigdpifmaaZ1
import Derived.Test.YtnjfchigdpifmaaZ2
import Derived.Test.YtnjfchigdpifmaaZ3
import Derived.Lib.ConvBytes
import Derived.MapKept
import Derived.WideShapes
import Derived.ChangeMaps4
namespace Go.Proofs.Ytnjfchigdpifmaa
set_option linter.unusedVariables false
set_option linter.unusedSimpArgs false
set_option maxHeartbeats 8000000
open Go.RowKit
set_option maxRecDepth 100000
structure Hs where
  n : S8
  rest : List UInt8
  all : Nat
abbrev hC (h : Hs) : List AV := [B true, Q4 h.n.a, Q4 h.n.b, Q4 h.n.c, Q4 h.n.d, Q4 h.n.e, Q4 h.n.f, Q4 h.n.g, Q4 h.n.h, bs none h.rest, I h.all]
abbrev hB (h : Hs) : Bx := .c 139 (hC h)
theorem hnew_ac : AC Try.prog 94 [] [] (fun v bs' => v = .bp 0 0 0 ∧ bs' = [hB ⟨s8z, [], 0⟩]) := by
  have h := first_ac
  refine AC.N Try.func94 Try.ntmps94 ?_
  intro X hρ hmks
  simp only [nx, Nat.reduceAdd, Nat.reduceSub, BEq.rfl]
  repeat' (first
    | ((first
    | ((with_reducible apply AP.k_any); first
            | refine AP.S ?_
            | refine AP.A ?_ | refine AP.AB 0 ?_ | refine AP.AB 1 ?_ | refine AP.AL ?_
            | refine AP.LB ?_ | refine AP.TB ?_ | refine AP.IX ?_ | refine AP.SF ?_ | refine AP.SV ?_ | refine AP.CV ?_ | refine AP.CO ?_ | refine AP.FV ?_  | refine AP.PF ?_)
    ) <;> (try simp only [ nx, q4, rn, fq, Nat.mul_one, Bool.and_true, Bool.and_false, Nat.reduceBEq, Nat.reduceAdd, Nat.reduceSub, BEq.rfl]))
    | ((with_reducible apply AP.k_nil); first | (refine AP.nil (hQ' _ ?_); clear hQ' Q') | refine AP.nil ?_)
    | ((with_reducible apply CP.k_reg); refine cp_regG fun Q' hQ' => ?_)
      | (with_reducible apply CP.k_reg1; refine cp_region ?_)
      | ((with_reducible apply CP.k_cond); first | refine cp_condT rfl ?_ | refine cp_condF rfl ?_ | refine cp_cond rfl (fun hc => ?_) (fun hc => ?_))
      | refine CP.go ?_
      | (simp only [List.append_eq, List.cons_append, List.nil_append]))
  (exact RetQ.A [(0, 1)] (by exact ⟨rfl, rfl⟩))
theorem hnone_ac (h : Hs) : AC Try.prog 99 [.bp 0 0 0] [hB h] (fun v bs' => v = B false ∧ bs' = [hB h]) := by
  refine AC.N Try.func99 Try.ntmps99 ?_
  intro X hρ hmks
  simp only [nx, Nat.reduceAdd, Nat.reduceSub, BEq.rfl]
  repeat' (first
    | ((first
    | ((with_reducible apply AP.k_any); first
            | refine AP.S ?_
            | (refine AP.Y ?_; dsimp only) | refine AP.G (fun hg => ?_) (fun hg => ?_)
            | (refine AP.V (fun c hnil => ?_); simp only [nz])
            | refine AP.A ?_ | refine AP.AB 0 ?_ | refine AP.AB 1 ?_ | refine AP.AL ?_
            | refine AP.LB ?_ | refine AP.TB ?_ | refine AP.IX ?_ | refine AP.SF ?_ | refine AP.SV ?_ | refine AP.CV ?_ | refine AP.CO ?_ | refine AP.FV ?_  | refine AP.PF ?_)
    ) <;> (try simp only [ nx, q4, rn, fq, Nat.mul_one, Bool.and_true, Bool.and_false, Nat.reduceBEq, Nat.reduceAdd, Nat.reduceSub, BEq.rfl]))
    | ((with_reducible apply AP.k_nil); first | (refine AP.nil (hQ' _ ?_); clear hQ' Q') | refine AP.nil ?_)
    | ((with_reducible apply CP.k_reg); refine cp_regG fun Q' hQ' => ?_)
      | (with_reducible apply CP.k_reg1; refine cp_region ?_)
      | ((with_reducible apply CP.k_cond); first | refine cp_condT rfl ?_ | refine cp_condF rfl ?_ | refine cp_cond rfl (fun hc => ?_) (fun hc => ?_))
      | refine CP.go ?_
      | (simp only [List.append_eq, List.cons_append, List.nil_append]))
  (exact RetQ.A [(0, 0)] (by exact ⟨rfl, rfl⟩))
def foldB (n : S8) (l : List (List UInt8)) : S8 := l.foldl blockS n
theorem foldB_take {n : S8} {l : List (List UInt8)} {i : Nat} {c : List UInt8} (h : l[i]? = some c) : foldB n (l.take (i + 1)) = blockS (foldB n (l.take i)) c := by
  obtain ⟨hi, rfl⟩ := List.getElem?_eq_some_iff.1 h
  unfold foldB
  rw [List.take_succ_eq_append_getElem hi, List.foldl_append]; rfl
theorem chS_len {b : List UInt8} {i : Nat} {c : List UInt8} (h : (chS b)[i]? = some c) : c.length ≤ 100000000 := by
  have := List.mem_of_getElem? h
  unfold chS at this
  obtain ⟨j, _, rfl⟩ := List.mem_map.1 this
  simp; omega
def writeS (h : Hs) (b : List UInt8) : Hs := ⟨foldB h.n (chS (h.rest ++ b)), (h.rest ++ b).drop ((h.rest ++ b).length / 64 * 64), h.all + b.length⟩
theorem hwrite_ac (h : Hs) (b : List UInt8) (hr : h.rest.length ≤ 100) (hb : b.length ≤ 50000000) (ha : h.all ≤ 10000000) : AC Try.prog 95 [.bp 0 0 0, bs none b] [hB h] (fun v bs' => v = I 0 ∧ bs' = [hB (writeS h b)]) := by
  have h1 := hnone_ac h
  have h2 := wcat_ac [h.rest, b] (by simp) (by simp; omega)
  rw [show [h.rest, b].flatten = h.rest ++ b by simp] at h2
  have h3 := blocks_ac (h.rest ++ b)
  refine AC.N Try.func95 Try.ntmps95 ?_
  intro X hρ hmks
  simp only [nx, Nat.reduceAdd, Nat.reduceSub, BEq.rfl]
  refine CP.gh gh_slot ?_; simp only [nx, Nat.reduceAdd, Nat.reduceSub, BEq.rfl]
  repeat' (first
    | ((first
    | ((with_reducible apply AP.k_any); first
            | refine AP.S ?_
            | refine AP.A ?_ | refine AP.AB 0 ?_ | refine AP.AB 1 ?_ | refine AP.AL ?_
            | refine AP.LB ?_ | refine AP.TB ?_ | refine AP.IX ?_ | refine AP.SF ?_ | refine AP.SV ?_ | refine AP.CV ?_ | refine AP.CO ?_ | refine AP.FV ?_  | refine AP.PF ?_)
      | ((with_reducible apply DW.k_any); first
        | refine DW.R ?_ | refine DW.R' ?_ | refine DW.W ?_ | refine DW.W' ?_ | refine DW.RA ?_ | refine DW.A 0 ?_ | refine DW.A 1 ?_ | refine DW.A 2 ?_ | refine DW.A' 0 ?_ | refine DW.A' 2 ?_ | ((fail_if_success refine DW.known rfl ?_); refine DW.G (fun hg => ?_) (fun hg => ?_))
        | refine DW.RX ?_ | refine DW.WX ?_ | refine DW.WX' ?_)
    | ((with_reducible apply DW.k_any); first
                | refine DW.R ?_ | refine DW.R' ?_ | refine DW.W ?_ | refine DW.W' ?_
                | (refine DW.known rfl ?_; (with_reducible first | apply DW.sx 2 | apply DW.sxN 2); (iterate 2 (focus (simp only [ft, nm, Nat.reduceAdd, Nat.reduceBEq, List.getElem?_cons_zero, List.getElem?_cons_succ]; exact rfl))); (focus (intro X V; simp only [ft, nm, Nat.reduceAdd, Nat.reduceBEq]; (try (refine AP.Y ?_; dsimp only)); (first  | fail); (try simp only [nx, Nat.reduceAdd, Nat.reduceSub, BEq.rfl]); refine AP.nil ?_; (first | refine ⟨trivial, rfl, ?_⟩ | refine ⟨rfl, rfl, ?_⟩); (repeat' (first | exact Mg.nil | apply Mg.keep rfl | apply Mg.take rfl)); done)); (focus (refine Exists.intro (fun _ => 0) ?_; apply Exists.intro; (repeat' (first | exact Mg.nil | apply Mg.keep rfl | apply Mg.take rfl)); done)); (iterate 2 (focus (exact rfl))))
                | ((fail_if_success refine DW.known rfl ?_); refine DW.G (fun hg => ?_) (fun hg => ?_))
    )
    ) <;> (try simp only [ nx, q4, rn, fq, Nat.mul_one, Bool.and_true, Bool.and_false, Nat.reduceBEq, Nat.reduceAdd, Nat.reduceSub, BEq.rfl]))
    | ((with_reducible apply AP.k_nil); first | (refine AP.nil (hQ' _ ?_); clear hQ' Q') | refine AP.nil ?_)
    | ((with_reducible apply CP.k_drw); refine cp_drwX fun Q' hQ' => ?_)
    | ((with_reducible apply CP.k_drw1); refine cp_drawX ?_)
    | ((with_reducible apply DW.k_nil); refine DW.nl ?_; first | (refine hQ' _ ?_; clear hQ' Q') | skip)
    | ((with_reducible apply CP.k_reg); refine cp_regG fun Q' hQ' => ?_)
      | (with_reducible apply CP.k_reg1; refine cp_region ?_)
      | ((with_reducible apply CP.k_cond); first | refine cp_condT rfl ?_ | refine cp_condF rfl ?_ | refine cp_cond rfl (fun hc => ?_) (fun hc => ?_))
      | refine CP.go ?_
      | (simp only [List.append_eq, List.cons_append, List.nil_append]))
  refine CP.RG (blocks_ic (h.rest ++ b) (by simp; omega)) (fun i => [⟨0, hB ⟨foldB h.n ((chS (h.rest ++ b)).take i), h.rest, h.all⟩⟩, ⟨1, .c 130 [.bp 0 0 0]⟩, ⟨1, .x⟩, ⟨2, .x⟩]) (fun _ _ => False) (fun y hy => by obtain ⟨c, _, rfl⟩ := List.mem_map.1 hy; rfl) ?_ ?_ (fun _ => ⟨fun h => h.elim, fun _ h => h.elim⟩)
  · intro i y hy Xr l hρ
    obtain ⟨c, hc, rfl⟩ : ∃ c, (chS (h.rest ++ b))[i]? = some c ∧ y = [bs none c] := by
      rw [List.getElem?_map, Option.map_eq_some_iff] at hy
      obtain ⟨c, h1, h2⟩ := hy
      exact ⟨c, h1, h2.symm⟩
    have hs := foldB_take (n := h.n) hc
    generalize foldB h.n (List.take i (chS (h.rest ++ b))) = m at *
    generalize foldB h.n (List.take (i + 1) (chS (h.rest ++ b))) = m' at *
    subst hs
    have h4 := block_ac m c (chS_len hc)
    simp only [putL, List.set_cons_succ, List.set_cons_zero]
    repeat' (first
      | ((first
      | ((with_reducible apply AP.k_any); first
              | refine AP.S ?_
              | refine AP.A ?_ | refine AP.AB 0 ?_ | refine AP.AB 1 ?_ | refine AP.AL ?_
              | refine AP.LB ?_ | refine AP.TB ?_ | refine AP.IX ?_ | refine AP.SF ?_ | refine AP.SV ?_ | refine AP.CV ?_ | refine AP.CO ?_ | refine AP.FV ?_  | refine AP.PF ?_)
        | ((with_reducible apply DW.k_any); first
          | refine DW.R ?_ | refine DW.R' ?_ | refine DW.W ?_ | refine DW.W' ?_ | refine DW.RA ?_ | refine DW.A 0 ?_ | refine DW.A 1 ?_ | refine DW.A 2 ?_ | refine DW.A' 0 ?_ | refine DW.A' 2 ?_ | ((fail_if_success refine DW.known rfl ?_); refine DW.G (fun hg => ?_) (fun hg => ?_))
          | refine DW.RX ?_ | refine DW.WX ?_ | refine DW.WX' ?_)
      | ((with_reducible apply DW.k_any); first
                  | refine DW.R ?_ | refine DW.R' ?_ | refine DW.W ?_ | refine DW.W' ?_
                  | (refine DW.known rfl ?_; (with_reducible first | apply DW.sx 2 | apply DW.sxN 2); (iterate 2 (focus (simp only [ft, nm, Nat.reduceAdd, Nat.reduceBEq, List.getElem?_cons_zero, List.getElem?_cons_succ]; exact rfl))); (focus (intro X V; simp only [ft, nm, Nat.reduceAdd, Nat.reduceBEq]; (try (refine AP.Y ?_; dsimp only)); (first  | fail); (try simp only [nx, Nat.reduceAdd, Nat.reduceSub, BEq.rfl]); refine AP.nil ?_; (first | refine ⟨trivial, rfl, ?_⟩ | refine ⟨rfl, rfl, ?_⟩); (repeat' (first | exact Mg.nil | apply Mg.keep rfl | apply Mg.take rfl)); done)); (focus (refine Exists.intro (fun _ => 0) ?_; apply Exists.intro; (repeat' (first | exact Mg.nil | apply Mg.keep rfl | apply Mg.take rfl)); done)); (iterate 2 (focus (exact rfl))))
                  | ((fail_if_success refine DW.known rfl ?_); refine DW.G (fun hg => ?_) (fun hg => ?_))
      )
      ) <;> (try simp only [ nx, q4, rn, fq, Nat.mul_one, Bool.and_true, Bool.and_false, Nat.reduceBEq, Nat.reduceAdd, Nat.reduceSub, BEq.rfl]))
      | ((with_reducible apply AP.k_nil); first | (refine AP.nil (hQ' _ ?_); clear hQ' Q') | refine AP.nil ?_)
      | ((with_reducible apply CP.k_drw); refine cp_drwX fun Q' hQ' => ?_)
      | ((with_reducible apply CP.k_drw1); refine cp_drawX ?_)
      | ((with_reducible apply DW.k_nil); refine DW.nl ?_; first | (refine hQ' _ ?_; clear hQ' Q') | skip)
      | ((with_reducible apply CP.k_reg); refine cp_regG fun Q' hQ' => ?_)
        | (with_reducible apply CP.k_reg1; refine cp_region ?_)
        | ((with_reducible apply CP.k_cond); first | refine cp_condT rfl ?_ | refine cp_condF rfl ?_ | refine cp_cond rfl (fun hc => ?_) (fun hc => ?_))
        | refine CP.go ?_
        | (simp only [List.append_eq, List.cons_append, List.nil_append]))
    refine ⟨trivial, rfl, fun Xb hρ => ?_⟩
    repeat' (first
      | ((first
      | ((with_reducible apply AP.k_any); first
              | refine AP.S ?_
              | refine AP.A ?_ | refine AP.AB 0 ?_ | refine AP.AB 1 ?_ | refine AP.AL ?_
              | refine AP.LB ?_ | refine AP.TB ?_ | refine AP.IX ?_ | refine AP.SF ?_ | refine AP.SV ?_ | refine AP.CV ?_ | refine AP.CO ?_ | refine AP.FV ?_  | refine AP.PF ?_)
        | ((with_reducible apply DW.k_any); first
          | refine DW.R ?_ | refine DW.R' ?_ | refine DW.W ?_ | refine DW.W' ?_ | refine DW.RA ?_ | refine DW.A 0 ?_ | refine DW.A 1 ?_ | refine DW.A 2 ?_ | refine DW.A' 0 ?_ | refine DW.A' 2 ?_ | ((fail_if_success refine DW.known rfl ?_); refine DW.G (fun hg => ?_) (fun hg => ?_))
          | refine DW.RX ?_ | refine DW.WX ?_ | refine DW.WX' ?_)
      | ((with_reducible apply DW.k_any); first
                  | refine DW.R ?_ | refine DW.R' ?_ | refine DW.W ?_ | refine DW.W' ?_
                  | (refine DW.known rfl ?_; (with_reducible first | apply DW.sx 2 | apply DW.sxN 2); (iterate 2 (focus (simp only [ft, nm, Nat.reduceAdd, Nat.reduceBEq, List.getElem?_cons_zero, List.getElem?_cons_succ]; exact rfl))); (focus (intro X V; simp only [ft, nm, Nat.reduceAdd, Nat.reduceBEq]; (try (refine AP.Y ?_; dsimp only)); (first  | fail); (try simp only [nx, Nat.reduceAdd, Nat.reduceSub, BEq.rfl]); refine AP.nil ?_; (first | refine ⟨trivial, rfl, ?_⟩ | refine ⟨rfl, rfl, ?_⟩); (repeat' (first | exact Mg.nil | apply Mg.keep rfl | apply Mg.take rfl)); done)); (focus (refine Exists.intro (fun _ => 0) ?_; apply Exists.intro; (repeat' (first | exact Mg.nil | apply Mg.keep rfl | apply Mg.take rfl)); done)); (iterate 2 (focus (exact rfl))))
                  | ((fail_if_success refine DW.known rfl ?_); refine DW.G (fun hg => ?_) (fun hg => ?_))
      )
      ) <;> (try simp only [ nx, q4, rn, fq, Nat.mul_one, Bool.and_true, Bool.and_false, Nat.reduceBEq, Nat.reduceAdd, Nat.reduceSub, BEq.rfl]))
      | ((with_reducible apply AP.k_nil); first | (refine AP.nil (hQ' _ ?_); clear hQ' Q') | refine AP.nil ?_)
      | ((with_reducible apply CP.k_drw); refine cp_drwX fun Q' hQ' => ?_)
      | ((with_reducible apply CP.k_drw1); refine cp_drawX ?_)
      | ((with_reducible apply DW.k_nil); refine DW.nl ?_; first | (refine hQ' _ ?_; clear hQ' Q') | skip)
      | ((with_reducible apply CP.k_reg); refine cp_regG fun Q' hQ' => ?_)
        | (with_reducible apply CP.k_reg1; refine cp_region ?_)
        | ((with_reducible apply CP.k_cond); first | refine cp_condT rfl ?_ | refine cp_condF rfl ?_ | refine cp_cond rfl (fun hc => ?_) (fun hc => ?_))
        | refine CP.go ?_
        | (simp only [List.append_eq, List.cons_append, List.nil_append]))
    exact ⟨_, by exact Gh.W⟩
  · simp only [List.length_map]
    rw [List.take_of_length_le (Nat.le_refl _)]
    have hl : (h.rest ++ b).length = h.rest.length + b.length := by simp
    have hq1 : IntKind.i64.wrap (Int.tdiv ((h.rest ++ b).length : Int) 64) = (((h.rest ++ b).length / 64 : Nat) : Int) := by
      rw [show Int.tdiv ((h.rest ++ b).length : Int) 64 = (((h.rest ++ b).length / 64 : Nat) : Int) from rfl]
      exact wrap_i64 (by omega) (by omega)
    have hq2 : IntKind.i64.wrap ((((h.rest ++ b).length / 64 : Nat) : Int) * 64) = (((h.rest ++ b).length / 64 * 64 : Nat) : Int) := by
      rw [wrap_i64 (by omega) (by omega)]; omega
    have hq3 : IntKind.i64.wrap ((h.all : Int) + (b.length : Int)) = ((h.all + b.length : Nat) : Int) := by
      rw [wrap_i64 (by omega) (by omega)]; omega
    have hd : List.take ((h.rest ++ b).length - (h.rest ++ b).length / 64 * 64) (List.drop ((h.rest ++ b).length / 64 * 64) (h.rest ++ b)) = List.drop ((h.rest ++ b).length / 64 * 64) (h.rest ++ b) := List.take_of_length_le (by simp)
    repeat' (first
      | ((first
      | ((with_reducible apply AP.k_any); first
              | refine AP.S ?_
              | refine AP.A ?_ | refine AP.AB 0 ?_ | refine AP.AB 1 ?_ | refine AP.AL ?_
              | refine AP.LB ?_ | refine AP.TB ?_ | refine AP.IX ?_ | refine AP.SF ?_ | refine AP.SV ?_ | refine AP.CV ?_ | refine AP.CO ?_ | refine AP.FV ?_  | refine AP.PF ?_)
        | ((with_reducible apply DW.k_any); first
          | refine DW.R ?_ | refine DW.R' ?_ | refine DW.W ?_ | refine DW.W' ?_ | refine DW.RA ?_ | refine DW.A 0 ?_ | refine DW.A 1 ?_ | refine DW.A 2 ?_ | refine DW.A' 0 ?_ | refine DW.A' 2 ?_ | ((fail_if_success refine DW.known rfl ?_); refine DW.G (fun hg => ?_) (fun hg => ?_))
          | refine DW.RX ?_ | refine DW.WX ?_ | refine DW.WX' ?_)
      | ((with_reducible apply DW.k_any); first
                  | refine DW.R ?_ | refine DW.R' ?_ | refine DW.W ?_ | refine DW.W' ?_
                  | (refine DW.known rfl ?_; (with_reducible first | apply DW.sx 2 | apply DW.sxN 2); (iterate 2 (focus (simp only [ft, nm, Nat.reduceAdd, Nat.reduceBEq, List.getElem?_cons_zero, List.getElem?_cons_succ]; exact rfl))); (focus (intro X V; simp only [ft, nm, Nat.reduceAdd, Nat.reduceBEq]; (try (refine AP.Y ?_; dsimp only)); (first  | fail); (try simp only [nx, Nat.reduceAdd, Nat.reduceSub, BEq.rfl]); refine AP.nil ?_; (first | refine ⟨trivial, rfl, ?_⟩ | refine ⟨rfl, rfl, ?_⟩); (repeat' (first | exact Mg.nil | apply Mg.keep rfl | apply Mg.take rfl)); done)); (focus (refine Exists.intro (fun _ => 0) ?_; apply Exists.intro; (repeat' (first | exact Mg.nil | apply Mg.keep rfl | apply Mg.take rfl)); done)); (iterate 2 (focus (exact rfl))))
                  | ((fail_if_success refine DW.known rfl ?_); refine DW.G (fun hg => ?_) (fun hg => ?_))
      )
      ) <;> (try simp only [hq1, hq2, hq3, Int.toNat_natCast, nx, q4, rn, fq, Nat.mul_one, Bool.and_true, Bool.and_false, Nat.reduceBEq, Nat.reduceAdd, Nat.reduceSub, BEq.rfl]))
      | ((with_reducible apply AP.k_nil); first | (refine AP.nil (hQ' _ ?_); clear hQ' Q') | refine AP.nil ?_)
      | ((with_reducible apply CP.k_drw); refine cp_drwX fun Q' hQ' => ?_)
      | ((with_reducible apply CP.k_drw1); refine cp_drawX ?_)
      | ((with_reducible apply DW.k_nil); refine DW.nl ?_; first | (refine hQ' _ ?_; clear hQ' Q') | skip)
      | ((with_reducible apply CP.k_reg); refine cp_regG fun Q' hQ' => ?_)
        | (with_reducible apply CP.k_reg1; refine cp_region ?_)
        | ((with_reducible apply CP.k_cond); first | refine cp_condT rfl ?_ | refine cp_condF rfl ?_ | refine cp_cond rfl (fun hc => ?_) (fun hc => ?_))
        | refine CP.go ?_
        | (simp only [List.append_eq, List.cons_append, List.nil_append]))
    simp only [hd]
    (exact RetQ.A [(0, 0)] (by exact ⟨rfl, rfl⟩))
end Go.Proofs.Ytnjfchigdpifmaa

namespace Go.Proofs.Ytnjfchigdpifmaa
set_option linter.unusedVariables false
set_option linter.unusedSimpArgs false
set_option maxHeartbeats 8000000
open Go.RowKit
set_option maxRecDepth 100000
def byS (x : UInt32) (i : Nat) : UInt8 := UInt8.ofNat (x.toNat / 256 ^ i % 256)
theorem p32_ac (x : UInt32) : AC Try.prog 92 [Q4 x] [] (fun v bs' => v = bs none [byS x 3, byS x 2, byS x 1, byS x 0] ∧ bs' = []) := by
  have h := (put_ac x.toNat 4 (by omega)).ro (r2 := bs none (putS x.toNat 4)) (by simp only [AV.ro, ro_B])
  refine AC.N Try.func92 Try.ntmps92 ?_
  intro X hρ hmks
  simp only [nx, Nat.reduceAdd, Nat.reduceSub, BEq.rfl]
  repeat' (first
    | ((first
    | ((with_reducible apply AP.k_any); first
            | refine AP.S ?_
            | refine AP.A ?_ | refine AP.AB 0 ?_ | refine AP.AB 1 ?_ | refine AP.AL ?_
            | refine AP.LB ?_ | refine AP.TB ?_ | refine AP.IX ?_ | refine AP.SF ?_ | refine AP.SV ?_ | refine AP.CV ?_ | refine AP.CO ?_ | refine AP.FV ?_  | refine AP.PF ?_)
    ) <;> (try simp only [ nx, q4, rn, fq, Nat.mul_one, Bool.and_true, Bool.and_false, Nat.reduceBEq, Nat.reduceAdd, Nat.reduceSub, BEq.rfl]))
    | ((with_reducible apply AP.k_nil); first | (refine AP.nil (hQ' _ ?_); clear hQ' Q') | refine AP.nil ?_)
    | ((with_reducible apply CP.k_reg); refine cp_regG fun Q' hQ' => ?_)
      | (with_reducible apply CP.k_reg1; refine cp_region ?_)
      | ((with_reducible apply CP.k_cond); first | refine cp_condT rfl ?_ | refine cp_condF rfl ?_ | refine cp_cond rfl (fun hc => ?_) (fun hc => ?_))
      | refine CP.go ?_
      | (simp only [List.append_eq, List.cons_append, List.nil_append]))
  (exact RetQ.A [] (by exact ⟨rfl, rfl⟩))
theorem blocks_acO (b : List UInt8) : AC Try.prog 100 [bs (some tU) b] [] (fun v bs' => v = .fn 102 [.bp 0 0 0] ∧ bs' = [bxB b]) := by
  refine AC.N Try.func100 Try.ntmps100 ?_
  intro X hρ hmks
  simp only [nx, Nat.reduceAdd, Nat.reduceSub, BEq.rfl]
  refine CP.gh (gh_fzS (b := 0) rfl) ?_
  simp only [ nx, q4, rn, fq, Nat.mul_one, Bool.and_true, Bool.and_false, Nat.reduceBEq, Nat.reduceAdd, Nat.reduceSub, BEq.rfl]
  repeat' (first
    | ((first
    | ((with_reducible apply AP.k_any); first
            | refine AP.S ?_
            | refine AP.A ?_ | refine AP.AB 0 ?_ | refine AP.AB 1 ?_ | refine AP.AL ?_
            | refine AP.LB ?_ | refine AP.TB ?_ | refine AP.IX ?_ | refine AP.SF ?_ | refine AP.SV ?_ | refine AP.CV ?_ | refine AP.CO ?_ | refine AP.FV ?_  | refine AP.PF ?_)
    ) <;> (try simp only [ nx, q4, rn, fq, Nat.mul_one, Bool.and_true, Bool.and_false, Nat.reduceBEq, Nat.reduceAdd, Nat.reduceSub, BEq.rfl]))
    | ((with_reducible apply AP.k_nil); first | (refine AP.nil (hQ' _ ?_); clear hQ' Q') | refine AP.nil ?_)
    | ((with_reducible apply CP.k_reg); refine cp_regG fun Q' hQ' => ?_)
      | (with_reducible apply CP.k_reg1; refine cp_region ?_)
      | ((with_reducible apply CP.k_cond); first | refine cp_condT rfl ?_ | refine cp_condF rfl ?_ | refine cp_cond rfl (fun hc => ?_) (fun hc => ?_))
      | refine CP.go ?_
      | (simp only [List.append_eq, List.cons_append, List.nil_append]))
  (exact RetQ.A [(0, 2)] (by exact ⟨rfl, rfl⟩))
def padS (rest : List UInt8) (all : Nat) : List UInt8 := [rest, [0x80], List.replicate ((119 - rest.length) % 64) 0, putS (8 * all) 8].flatten
def wordsB (m : S8) : List UInt8 := [byS m.a 3, byS m.a 2, byS m.a 1, byS m.a 0, byS m.b 3, byS m.b 2, byS m.b 1, byS m.b 0, byS m.c 3, byS m.c 2, byS m.c 1, byS m.c 0, byS m.d 3, byS m.d 2, byS m.d 1, byS m.d 0, byS m.e 3, byS m.e 2, byS m.e 1, byS m.e 0, byS m.f 3, byS m.f 2, byS m.f 1, byS m.f 0, byS m.g 3, byS m.g 2, byS m.g 1, byS m.g 0, byS m.h 3, byS m.h 2, byS m.h 1, byS m.h 0]
def sumS (h : Hs) : List UInt8 := wordsB (foldB h.n (chS (padS h.rest h.all)))
def mw (m : S8) (i : Nat) : UInt32 := [m.a, m.b, m.c, m.d, m.e, m.f, m.g, m.h].getD i 0
theorem mw_at (m : S8) {i : Nat} (h : i < 8) : (e8 m)[i]? = some (Q4 (mw m i)) := by
  rcases i with _ | _ | _ | _ | _ | _ | _ | _ | i <;> first | rfl | (exfalso; omega)
theorem mix_cpy (m : S8) {i : Nat} (h : i < 8) : cpy (mixT (wordsB m) (4 * i)) (4 * i) [U (byS (mw m i) 3), U (byS (mw m i) 2), U (byS (mw m i) 1), U (byS (mw m i) 0)] = mixT (wordsB m) (4 * (i + 1)) := by
  rcases i with _ | _ | _ | _ | _ | _ | _ | _ | i <;> first | rfl | (exfalso; omega)
theorem hsum_ac (h : Hs) (hr : h.rest.length < 64) (ha : h.all ≤ 100000000) : AC Try.prog 96 [.bp 0 0 0] [hB h] (fun v bs' => v = .tu [tg (sumS h), I 0] ∧ bs' = [hB h]) := by
  have h1 := hnone_ac h
  have hq0 : IntKind.i64.wrap (119 - (h.rest.length : Int)) = ((119 - h.rest.length : Nat) : Int) := by rw [wrap_i64 (by omega) (by omega)]; omega
  have hq1 : Int.tmod ((119 - h.rest.length : Nat) : Int) 64 = (((119 - h.rest.length) % 64 : Nat) : Int) := rfl
  have hq2 : IntKind.i64.wrap (8 * (h.all : Int)) = ((8 * h.all : Nat) : Int) := by rw [wrap_i64 (by omega) (by omega)]; omega
  have hq3 : IntKind.u64.wrap ((8 * h.all : Nat) : Int) = ((8 * h.all : Nat) : Int) := wrap_u64 (by omega) (by omega)
  have hk : (119 - h.rest.length) % 64 < 64 := Nat.mod_lt _ (by omega)
  have h2 := put64_ac (8 * h.all)
  have h3 := wcat_ac [h.rest, [0x80], List.replicate ((119 - h.rest.length) % 64) 0, putS (8 * h.all) 8] (by simp) (by simp [putS_length]; omega)
  have h4 := blocks_acO (padS h.rest h.all)
  have hpl : (padS h.rest h.all).length ≤ 1000 := by simp [padS, putS_length]; omega
  rw [show [h.rest, [0x80], List.replicate ((119 - h.rest.length) % 64) 0, putS (8 * h.all) 8].flatten = padS h.rest h.all from rfl] at h3
  unfold sumS
  generalize padS h.rest h.all = p at *
  refine AC.N Try.func96 Try.ntmps96 ?_
  intro X hρ hmks
  simp only [nx, Nat.reduceAdd, Nat.reduceSub, BEq.rfl]
  refine CP.gh gh_slot ?_; simp only [nx, Nat.reduceAdd, Nat.reduceSub, BEq.rfl]
  refine CP.gh gh_slot ?_; simp only [nx, Nat.reduceAdd, Nat.reduceSub, BEq.rfl]
  refine CP.gh gh_slot ?_; simp only [nx, Nat.reduceAdd, Nat.reduceSub, BEq.rfl]
  refine CP.gh gh_slot ?_; simp only [nx, Nat.reduceAdd, Nat.reduceSub, BEq.rfl]
  refine CP.gh gh_slot ?_; simp only [nx, Nat.reduceAdd, Nat.reduceSub, BEq.rfl]
  refine CP.gh gh_slot ?_; simp only [nx, Nat.reduceAdd, Nat.reduceSub, BEq.rfl]
  refine CP.gh gh_slot ?_; simp only [nx, Nat.reduceAdd, Nat.reduceSub, BEq.rfl]
  refine CP.gh gh_slot ?_; simp only [nx, Nat.reduceAdd, Nat.reduceSub, BEq.rfl]
  repeat' (first
    | ((first
    | ((with_reducible apply AP.k_any); first
            | refine AP.S ?_
            | refine AP.A ?_ | refine AP.AB 0 ?_ | refine AP.AB 1 ?_ | refine AP.AL ?_
            | refine AP.LB ?_ | refine AP.TB ?_ | refine AP.IX ?_ | refine AP.SF ?_ | refine AP.SV ?_ | refine AP.CV ?_ | refine AP.CO ?_ | refine AP.FV ?_ | refine ap_makeS rfl rfl rfl rfl rfl rfl rfl rfl rfl rfl rfl (by omega) ?_ | refine AP.PF ?_)
      | ((with_reducible apply DW.k_any); first
        | refine DW.R ?_ | refine DW.R' ?_ | refine DW.W ?_ | refine DW.W' ?_ | refine DW.RA ?_ | refine DW.A 0 ?_ | refine DW.A 1 ?_ | refine DW.A 2 ?_ | refine DW.A' 0 ?_ | refine DW.A' 2 ?_ | ((fail_if_success refine DW.known rfl ?_); refine DW.G (fun hg => ?_) (fun hg => ?_))
        | refine DW.RX ?_ | refine DW.WX ?_ | refine DW.WX' ?_)
    | ((with_reducible apply DW.k_any); first
                | refine DW.R ?_ | refine DW.R' ?_ | refine DW.W ?_ | refine DW.W' ?_
                | (refine DW.known rfl ?_; (with_reducible first | apply DW.sx 2 | apply DW.sxN 2); (iterate 2 (focus (simp only [ft, nm, Nat.reduceAdd, Nat.reduceBEq, List.getElem?_cons_zero, List.getElem?_cons_succ]; exact rfl))); (focus (intro X V; simp only [ft, nm, Nat.reduceAdd, Nat.reduceBEq]; (try (refine AP.Y ?_; dsimp only)); (first | refine ap_makeS rfl rfl rfl rfl rfl rfl rfl rfl rfl rfl rfl (by omega) ?_ | fail); (try simp only [nx, Nat.reduceAdd, Nat.reduceSub, BEq.rfl]); refine AP.nil ?_; (first | refine ⟨trivial, rfl, ?_⟩ | refine ⟨rfl, rfl, ?_⟩); (repeat' (first | exact Mg.nil | apply Mg.keep rfl | apply Mg.take rfl)); done)); (focus (refine Exists.intro (fun _ => 0) ?_; apply Exists.intro; (repeat' (first | exact Mg.nil | apply Mg.keep rfl | apply Mg.take rfl)); done)); (iterate 2 (focus (exact rfl))))
                | ((fail_if_success refine DW.known rfl ?_); refine DW.G (fun hg => ?_) (fun hg => ?_))
    )
    ) <;> (try simp only [mk0, hq0, hq1, hq2, hq3, nx, q4, rn, fq, Nat.mul_one, Bool.and_true, Bool.and_false, Nat.reduceBEq, Nat.reduceAdd, Nat.reduceSub, BEq.rfl]))
    | ((with_reducible apply AP.k_nil); first | (refine AP.nil (hQ' _ ?_); clear hQ' Q') | refine AP.nil ?_)
    | ((with_reducible apply CP.k_drw); refine cp_drwX fun Q' hQ' => ?_)
    | ((with_reducible apply CP.k_drw1); refine cp_drawX ?_)
    | ((with_reducible apply DW.k_nil); refine DW.nl ?_; first | (refine hQ' _ ?_; clear hQ' Q') | skip)
    | ((with_reducible apply CP.k_reg); refine cp_regG fun Q' hQ' => ?_)
      | (with_reducible apply CP.k_reg1; refine cp_region ?_)
      | ((with_reducible apply CP.k_cond); first | refine cp_condT rfl ?_ | refine cp_condF rfl ?_ | refine cp_cond rfl (fun hc => ?_) (fun hc => ?_))
      | refine CP.go ?_
      | (simp only [List.append_eq, List.cons_append, List.nil_append]))
  refine CP.RG (blocks_ic p (by omega)) (fun i => [⟨0, hB h⟩, ⟨1, .c 24 (tagC (List.replicate 32 0))⟩, ⟨1, .c 136 (e8 (foldB h.n ((chS p).take i)))⟩, ⟨2, .x⟩, ⟨3, .x⟩, ⟨0, .x⟩, ⟨0, .x⟩, ⟨0, .x⟩, ⟨0, .x⟩]) (fun _ _ => False) (fun y hy => by obtain ⟨c, _, rfl⟩ := List.mem_map.1 hy; rfl) ?_ ?_ (fun _ => ⟨fun h => h.elim, fun _ h => h.elim⟩)
  · intro i y hy Xr l hρ
    obtain ⟨c, hc, rfl⟩ : ∃ c, (chS p)[i]? = some c ∧ y = [bs none c] := by
      rw [List.getElem?_map, Option.map_eq_some_iff] at hy
      obtain ⟨c, h1, h2⟩ := hy
      exact ⟨c, h1, h2.symm⟩
    have hs := foldB_take (n := h.n) hc
    generalize foldB h.n (List.take i (chS p)) = m at *
    generalize foldB h.n (List.take (i + 1) (chS p)) = m' at *
    subst hs
    have h5 := block_ac m c (chS_len hc)
    simp only [putL, List.set_cons_succ, List.set_cons_zero]
    repeat' (first
      | ((first
      | ((with_reducible apply AP.k_any); first
              | refine AP.S ?_
              | refine AP.A ?_ | refine AP.AB 0 ?_ | refine AP.AB 1 ?_ | refine AP.AL ?_
              | refine AP.LB ?_ | refine AP.TB ?_ | refine AP.IX ?_ | refine AP.SF ?_ | refine AP.SV ?_ | refine AP.CV ?_ | refine AP.CO ?_ | refine AP.FV ?_  | refine AP.PF ?_)
        | ((with_reducible apply DW.k_any); first
          | refine DW.R ?_ | refine DW.R' ?_ | refine DW.W ?_ | refine DW.W' ?_ | refine DW.RA ?_ | refine DW.A 0 ?_ | refine DW.A 1 ?_ | refine DW.A 2 ?_ | refine DW.A' 0 ?_ | refine DW.A' 2 ?_ | ((fail_if_success refine DW.known rfl ?_); refine DW.G (fun hg => ?_) (fun hg => ?_))
          | refine DW.RX ?_ | refine DW.WX ?_ | refine DW.WX' ?_)
      | ((with_reducible apply DW.k_any); first
                  | refine DW.R ?_ | refine DW.R' ?_ | refine DW.W ?_ | refine DW.W' ?_
                  | (refine DW.known rfl ?_; (with_reducible first | apply DW.sx 2 | apply DW.sxN 2); (iterate 2 (focus (simp only [ft, nm, Nat.reduceAdd, Nat.reduceBEq, List.getElem?_cons_zero, List.getElem?_cons_succ]; exact rfl))); (focus (intro X V; simp only [ft, nm, Nat.reduceAdd, Nat.reduceBEq]; (try (refine AP.Y ?_; dsimp only)); (first  | fail); (try simp only [nx, Nat.reduceAdd, Nat.reduceSub, BEq.rfl]); refine AP.nil ?_; (first | refine ⟨trivial, rfl, ?_⟩ | refine ⟨rfl, rfl, ?_⟩); (repeat' (first | exact Mg.nil | apply Mg.keep rfl | apply Mg.take rfl)); done)); (focus (refine Exists.intro (fun _ => 0) ?_; apply Exists.intro; (repeat' (first | exact Mg.nil | apply Mg.keep rfl | apply Mg.take rfl)); done)); (iterate 2 (focus (exact rfl))))
                  | ((fail_if_success refine DW.known rfl ?_); refine DW.G (fun hg => ?_) (fun hg => ?_))
      )
      ) <;> (try simp only [ nx, q4, rn, fq, Nat.mul_one, Bool.and_true, Bool.and_false, Nat.reduceBEq, Nat.reduceAdd, Nat.reduceSub, BEq.rfl]))
      | ((with_reducible apply AP.k_nil); first | (refine AP.nil (hQ' _ ?_); clear hQ' Q') | refine AP.nil ?_)
      | ((with_reducible apply CP.k_drw); refine cp_drwX fun Q' hQ' => ?_)
      | ((with_reducible apply CP.k_drw1); refine cp_drawX ?_)
      | ((with_reducible apply DW.k_nil); refine DW.nl ?_; first | (refine hQ' _ ?_; clear hQ' Q') | skip)
      | ((with_reducible apply CP.k_reg); refine cp_regG fun Q' hQ' => ?_)
        | (with_reducible apply CP.k_reg1; refine cp_region ?_)
        | ((with_reducible apply CP.k_cond); first | refine cp_condT rfl ?_ | refine cp_condF rfl ?_ | refine cp_cond rfl (fun hc => ?_) (fun hc => ?_))
        | refine CP.go ?_
        | (simp only [List.append_eq, List.cons_append, List.nil_append]))
    refine ⟨trivial, rfl, fun Xb hρ => ?_⟩
    repeat' (first
      | ((first
      | ((with_reducible apply AP.k_any); first
              | refine AP.S ?_
              | refine AP.A ?_ | refine AP.AB 0 ?_ | refine AP.AB 1 ?_ | refine AP.AL ?_
              | refine AP.LB ?_ | refine AP.TB ?_ | refine AP.IX ?_ | refine AP.SF ?_ | refine AP.SV ?_ | refine AP.CV ?_ | refine AP.CO ?_ | refine AP.FV ?_  | refine AP.PF ?_)
        | ((with_reducible apply DW.k_any); first
          | refine DW.R ?_ | refine DW.R' ?_ | refine DW.W ?_ | refine DW.W' ?_ | refine DW.RA ?_ | refine DW.A 0 ?_ | refine DW.A 1 ?_ | refine DW.A 2 ?_ | refine DW.A' 0 ?_ | refine DW.A' 2 ?_ | ((fail_if_success refine DW.known rfl ?_); refine DW.G (fun hg => ?_) (fun hg => ?_))
          | refine DW.RX ?_ | refine DW.WX ?_ | refine DW.WX' ?_)
      | ((with_reducible apply DW.k_any); first
                  | refine DW.R ?_ | refine DW.R' ?_ | refine DW.W ?_ | refine DW.W' ?_
                  | (refine DW.known rfl ?_; (with_reducible first | apply DW.sx 2 | apply DW.sxN 2); (iterate 2 (focus (simp only [ft, nm, Nat.reduceAdd, Nat.reduceBEq, List.getElem?_cons_zero, List.getElem?_cons_succ]; exact rfl))); (focus (intro X V; simp only [ft, nm, Nat.reduceAdd, Nat.reduceBEq]; (try (refine AP.Y ?_; dsimp only)); (first  | fail); (try simp only [nx, Nat.reduceAdd, Nat.reduceSub, BEq.rfl]); refine AP.nil ?_; (first | refine ⟨trivial, rfl, ?_⟩ | refine ⟨rfl, rfl, ?_⟩); (repeat' (first | exact Mg.nil | apply Mg.keep rfl | apply Mg.take rfl)); done)); (focus (refine Exists.intro (fun _ => 0) ?_; apply Exists.intro; (repeat' (first | exact Mg.nil | apply Mg.keep rfl | apply Mg.take rfl)); done)); (iterate 2 (focus (exact rfl))))
                  | ((fail_if_success refine DW.known rfl ?_); refine DW.G (fun hg => ?_) (fun hg => ?_))
      )
      ) <;> (try simp only [ nx, q4, rn, fq, Nat.mul_one, Bool.and_true, Bool.and_false, Nat.reduceBEq, Nat.reduceAdd, Nat.reduceSub, BEq.rfl]))
      | ((with_reducible apply AP.k_nil); first | (refine AP.nil (hQ' _ ?_); clear hQ' Q') | refine AP.nil ?_)
      | ((with_reducible apply CP.k_drw); refine cp_drwX fun Q' hQ' => ?_)
      | ((with_reducible apply CP.k_drw1); refine cp_drawX ?_)
      | ((with_reducible apply DW.k_nil); refine DW.nl ?_; first | (refine hQ' _ ?_; clear hQ' Q') | skip)
      | ((with_reducible apply CP.k_reg); refine cp_regG fun Q' hQ' => ?_)
        | (with_reducible apply CP.k_reg1; refine cp_region ?_)
        | ((with_reducible apply CP.k_cond); first | refine cp_condT rfl ?_ | refine cp_condF rfl ?_ | refine cp_cond rfl (fun hc => ?_) (fun hc => ?_))
        | refine CP.go ?_
        | (simp only [List.append_eq, List.cons_append, List.nil_append]))
    exact ⟨_, by exact Gh.W⟩
  · simp only [List.length_map]
    rw [List.take_of_length_le (Nat.le_refl _)]
    generalize foldB h.n (chS p) = m
    repeat' (first
      | ((first
      | ((with_reducible apply AP.k_any); first
              | refine AP.S ?_
              | refine AP.A ?_ | refine AP.AB 0 ?_ | refine AP.AB 1 ?_ | refine AP.AL ?_
              | refine AP.LB ?_ | refine AP.TB ?_ | refine AP.IX ?_ | refine AP.SF ?_ | refine AP.SV ?_ | refine AP.CV ?_ | refine AP.CO ?_ | refine AP.FV ?_  | refine AP.PF ?_)
        | ((with_reducible apply DW.k_any); first
          | refine DW.R ?_ | refine DW.R' ?_ | refine DW.W ?_ | refine DW.W' ?_ | refine DW.RA ?_ | refine DW.A 0 ?_ | refine DW.A 1 ?_ | refine DW.A 2 ?_ | refine DW.A' 0 ?_ | refine DW.A' 2 ?_ | ((fail_if_success refine DW.known rfl ?_); refine DW.G (fun hg => ?_) (fun hg => ?_))
          | refine DW.RX ?_ | refine DW.WX ?_ | refine DW.WX' ?_)
      | ((with_reducible apply DW.k_any); first
                  | refine DW.R ?_ | refine DW.R' ?_ | refine DW.W ?_ | refine DW.W' ?_
                  | (refine DW.known rfl ?_; (with_reducible first | apply DW.sx 2 | apply DW.sxN 2); (iterate 2 (focus (simp only [ft, nm, Nat.reduceAdd, Nat.reduceBEq, List.getElem?_cons_zero, List.getElem?_cons_succ]; exact rfl))); (focus (intro X V; simp only [ft, nm, Nat.reduceAdd, Nat.reduceBEq]; (try (refine AP.Y ?_; dsimp only)); (first  | fail); (try simp only [nx, Nat.reduceAdd, Nat.reduceSub, BEq.rfl]); refine AP.nil ?_; (first | refine ⟨trivial, rfl, ?_⟩ | refine ⟨rfl, rfl, ?_⟩); (repeat' (first | exact Mg.nil | apply Mg.keep rfl | apply Mg.take rfl)); done)); (focus (refine Exists.intro (fun _ => 0) ?_; apply Exists.intro; (repeat' (first | exact Mg.nil | apply Mg.keep rfl | apply Mg.take rfl)); done)); (iterate 2 (focus (exact rfl))))
                  | ((fail_if_success refine DW.known rfl ?_); refine DW.G (fun hg => ?_) (fun hg => ?_))
      )
      ) <;> (try simp only [ nx, q4, rn, fq, Nat.mul_one, Bool.and_true, Bool.and_false, Nat.reduceBEq, Nat.reduceAdd, Nat.reduceSub, BEq.rfl]))
      | ((with_reducible apply AP.k_nil); first | (refine AP.nil (hQ' _ ?_); clear hQ' Q') | refine AP.nil ?_)
      | ((with_reducible apply CP.k_drw); refine cp_drwX fun Q' hQ' => ?_)
      | ((with_reducible apply CP.k_drw1); refine cp_drawX ?_)
      | ((with_reducible apply DW.k_nil); refine DW.nl ?_; first | (refine hQ' _ ?_; clear hQ' Q') | skip)
      | ((with_reducible apply CP.k_reg); refine cp_regG fun Q' hQ' => ?_)
        | (with_reducible apply CP.k_reg1; refine cp_region ?_)
        | ((with_reducible apply CP.k_cond); first | refine cp_condT rfl ?_ | refine cp_condF rfl ?_ | refine cp_cond rfl (fun hc => ?_) (fun hc => ?_))
        | refine CP.go ?_
        | (simp only [List.append_eq, List.cons_append, List.nil_append]))
    refine cp_loopS [8, 9, 46, 47, 48, 49, 50, 51, 52, 53, 54, 55, 56] (fun a : Nat => 8 - a) (fun a => a ≤ 8) (fun a => [(46, I a)]) (fun a => [(3, ⟨3, .c 24 (mixT (wordsB m) (4 * a))⟩)]) 0 (Nat.zero_le _) (by exact Gh.W) ?_
    intro i hi
    simp only [setT, deT, setB, List.set_cons_succ, List.set_cons_zero]
    by_cases hlt : i < 8
    · have hw : IntKind.i64.wrap ((i : Int) + 1) = ((i + 1 : Nat) : Int) := wrap_i64 (by omega) (by omega)
      have hw4 : IntKind.i64.wrap (4 * (i : Int)) = ((4 * i : Nat) : Int) := wrap_i64 (by omega) (by omega)
      have d8 : decide ((i : Int) < 8) = true := by simp; omega
      have hx := mw_at m hlt
      have hset := mix_cpy m hlt
      have hlen := mixT_len (wordsB m) (4 * i)
      generalize mw m i = x at *
      have h5 := p32_ac x
      repeat' (first
        | ((first
        | ((with_reducible apply AP.k_any); first
                | refine AP.S ?_
                | refine AP.A ?_ | refine AP.AB 0 ?_ | refine AP.AB 1 ?_ | refine AP.AL ?_
                | refine AP.LB ?_ | refine AP.TB ?_ | refine AP.IX ?_ | refine AP.SF ?_ | refine AP.SV ?_ | refine AP.CV ?_ | refine AP.CO ?_ | refine AP.FV ?_  | refine AP.PF ?_)
          | ((with_reducible apply DW.k_any); first
            | refine DW.R ?_ | refine DW.R' ?_ | refine DW.W ?_ | refine DW.W' ?_ | refine DW.RA ?_ | refine DW.A 0 ?_ | refine DW.A 1 ?_ | refine DW.A 2 ?_ | refine DW.A' 0 ?_ | refine DW.A' 2 ?_ | ((fail_if_success refine DW.known rfl ?_); refine DW.G (fun hg => ?_) (fun hg => ?_))
            | refine DW.RX ?_ | refine DW.WX ?_ | refine DW.WX' ?_)
        | ((with_reducible apply DW.k_any); first
                    | refine DW.R ?_ | refine DW.R' ?_ | refine DW.W ?_ | refine DW.W' ?_
                    | (refine DW.known rfl ?_; (with_reducible first | apply DW.sx 2 | apply DW.sxN 2); (iterate 2 (focus (simp only [ft, nm, Nat.reduceAdd, Nat.reduceBEq, List.getElem?_cons_zero, List.getElem?_cons_succ]; exact rfl))); (focus (intro X V; simp only [ft, nm, Nat.reduceAdd, Nat.reduceBEq]; (try (refine AP.Y ?_; dsimp only)); (first  | fail); (try simp only [nx, Nat.reduceAdd, Nat.reduceSub, BEq.rfl]); refine AP.nil ?_; (first | refine ⟨trivial, rfl, ?_⟩ | refine ⟨rfl, rfl, ?_⟩); (repeat' (first | exact Mg.nil | apply Mg.keep rfl | apply Mg.take rfl)); done)); (focus (refine Exists.intro (fun _ => 0) ?_; apply Exists.intro; (repeat' (first | exact Mg.nil | apply Mg.keep rfl | apply Mg.take rfl)); done)); (iterate 2 (focus (exact rfl))))
                    | ((fail_if_success refine DW.known rfl ?_); refine DW.G (fun hg => ?_) (fun hg => ?_))
        )
        ) <;> (try simp only [hw4, d8, Int.toNat_natCast, nx, q4, rn, fq, Nat.mul_one, Bool.and_true, Bool.and_false, Nat.reduceBEq, Nat.reduceAdd, Nat.reduceSub, BEq.rfl]))
        | ((with_reducible apply AP.k_nil); first | (refine AP.nil (hQ' _ ?_); clear hQ' Q') | refine AP.nil ?_)
        | ((with_reducible apply CP.k_drw); refine cp_drwX fun Q' hQ' => ?_)
        | ((with_reducible apply CP.k_drw1); refine cp_drawX ?_)
        | ((with_reducible apply DW.k_nil); refine DW.nl ?_; first | (refine hQ' _ ?_; clear hQ' Q') | skip)
        | ((with_reducible apply CP.k_reg); refine cp_regG fun Q' hQ' => ?_)
          | (with_reducible apply CP.k_reg1; refine cp_region ?_)
          | ((with_reducible apply CP.k_cond); first | refine cp_condT rfl ?_ | refine cp_condF rfl ?_ | refine cp_cond rfl (fun hc => ?_) (fun hc => ?_))
          | refine CP.go ?_
          | (simp only [List.append_eq, List.cons_append, List.nil_append]))
      have hm : min 4 (32 - 4 * i) = 4 := by omega
      simp only [hw, hm]
      exact ⟨i + 1, by omega, by omega, by (rw [← hset]; exact Gh.W)⟩
    · obtain rfl : i = 8 := by omega
      rw [show 4 * 8 = 32 from rfl, mixT_32]
      repeat' (first
        | ((first
        | ((with_reducible apply AP.k_any); first
                | refine AP.S ?_
                | refine AP.A ?_ | refine AP.AB 0 ?_ | refine AP.AB 1 ?_ | refine AP.AL ?_
                | refine AP.LB ?_ | refine AP.TB ?_ | refine AP.IX ?_ | refine AP.SF ?_ | refine AP.SV ?_ | refine AP.CV ?_ | refine AP.CO ?_ | refine AP.FV ?_  | refine AP.PF ?_)
          | ((with_reducible apply DW.k_any); first
            | refine DW.R ?_ | refine DW.R' ?_ | refine DW.W ?_ | refine DW.W' ?_ | refine DW.RA ?_ | refine DW.A 0 ?_ | refine DW.A 1 ?_ | refine DW.A 2 ?_ | refine DW.A' 0 ?_ | refine DW.A' 2 ?_ | ((fail_if_success refine DW.known rfl ?_); refine DW.G (fun hg => ?_) (fun hg => ?_))
            | refine DW.RX ?_ | refine DW.WX ?_ | refine DW.WX' ?_)
        | ((with_reducible apply DW.k_any); first
                    | refine DW.R ?_ | refine DW.R' ?_ | refine DW.W ?_ | refine DW.W' ?_
                    | (refine DW.known rfl ?_; (with_reducible first | apply DW.sx 2 | apply DW.sxN 2); (iterate 2 (focus (simp only [ft, nm, Nat.reduceAdd, Nat.reduceBEq, List.getElem?_cons_zero, List.getElem?_cons_succ]; exact rfl))); (focus (intro X V; simp only [ft, nm, Nat.reduceAdd, Nat.reduceBEq]; (try (refine AP.Y ?_; dsimp only)); (first  | fail); (try simp only [nx, Nat.reduceAdd, Nat.reduceSub, BEq.rfl]); refine AP.nil ?_; (first | refine ⟨trivial, rfl, ?_⟩ | refine ⟨rfl, rfl, ?_⟩); (repeat' (first | exact Mg.nil | apply Mg.keep rfl | apply Mg.take rfl)); done)); (focus (refine Exists.intro (fun _ => 0) ?_; apply Exists.intro; (repeat' (first | exact Mg.nil | apply Mg.keep rfl | apply Mg.take rfl)); done)); (iterate 2 (focus (exact rfl))))
                    | ((fail_if_success refine DW.known rfl ?_); refine DW.G (fun hg => ?_) (fun hg => ?_))
        )
        ) <;> (try simp only [ nx, q4, rn, fq, Nat.mul_one, Bool.and_true, Bool.and_false, Nat.reduceBEq, Nat.reduceAdd, Nat.reduceSub, BEq.rfl]))
        | ((with_reducible apply AP.k_nil); first | (refine AP.nil (hQ' _ ?_); clear hQ' Q') | refine AP.nil ?_)
        | ((with_reducible apply CP.k_drw); refine cp_drwX fun Q' hQ' => ?_)
        | ((with_reducible apply CP.k_drw1); refine cp_drawX ?_)
        | ((with_reducible apply DW.k_nil); refine DW.nl ?_; first | (refine hQ' _ ?_; clear hQ' Q') | skip)
        | ((with_reducible apply CP.k_reg); refine cp_regG fun Q' hQ' => ?_)
          | (with_reducible apply CP.k_reg1; refine cp_region ?_)
          | ((with_reducible apply CP.k_cond); first | refine cp_condT rfl ?_ | refine cp_condF rfl ?_ | refine cp_cond rfl (fun hc => ?_) (fun hc => ?_))
          | refine CP.go ?_
          | (simp only [List.append_eq, List.cons_append, List.nil_append]))
      (exact RetQ.A [(0, 0)] (by exact ⟨rfl, rfl⟩))
/-- the tag of some bytes -/
def shaS (b : List UInt8) : List UInt8 := sumS (writeS ⟨s8z, [], 0⟩ b)
theorem sha_ac (b : List UInt8) (hb : b.length ≤ 1000000) : AC Try.prog 85 [bs none b] [] (fun v bs' => v = tg (shaS b) ∧ bs' = []) := by
  have h1 := hnew_ac
  have h2 := hwrite_ac ⟨s8z, [], 0⟩ b (by simp) (by omega) (by simp)
  have h3 := hsum_ac (writeS ⟨s8z, [], 0⟩ b) (by simp [writeS]; omega) (by simp [writeS]; omega)
  unfold shaS
  generalize writeS ⟨s8z, [], 0⟩ b = st at *
  generalize sumS st = t at *
  refine AC.N Try.func85 Try.ntmps85 ?_
  intro X hρ hmks
  simp only [nx, Nat.reduceAdd, Nat.reduceSub, BEq.rfl]
  repeat' (first
    | ((first
    | ((with_reducible apply AP.k_any); first
            | refine AP.S ?_
            | refine AP.A ?_ | refine AP.AB 0 ?_ | refine AP.AB 1 ?_ | refine AP.AL ?_
            | refine AP.LB ?_ | refine AP.TB ?_ | refine AP.IX ?_ | refine AP.SF ?_ | refine AP.SV ?_ | refine AP.CV ?_ | refine AP.CO ?_ | refine AP.FV ?_  | refine AP.PF ?_)
    ) <;> (try simp only [ nx, q4, rn, fq, Nat.mul_one, Bool.and_true, Bool.and_false, Nat.reduceBEq, Nat.reduceAdd, Nat.reduceSub, BEq.rfl]))
    | ((with_reducible apply AP.k_nil); first | (refine AP.nil (hQ' _ ?_); clear hQ' Q') | refine AP.nil ?_)
    | ((with_reducible apply CP.k_reg); refine cp_regG fun Q' hQ' => ?_)
      | (with_reducible apply CP.k_reg1; refine cp_region ?_)
      | ((with_reducible apply CP.k_cond); first | refine cp_condT rfl ?_ | refine cp_condF rfl ?_ | refine cp_cond rfl (fun hc => ?_) (fun hc => ?_))
      | refine CP.go ?_
      | (simp only [List.append_eq, List.cons_append, List.nil_append]))
  (exact RetQ.A [] (by exact ⟨rfl, rfl⟩))
end Go.Proofs.Ytnjfchigdpifmaa

namespace Go.Proofs.Ytnjfchigdpifmaa
set_option linter.unusedVariables false
set_option linter.unusedSimpArgs false
set_option maxHeartbeats 8000000
open Go.RowKit
set_option maxRecDepth 100000
def xorS (a b : List UInt8) : List UInt8 := List.zipWith (fun x y => x ^^^ y) a b
theorem wrap_u8 {n : Nat} (h : n < 256) : IntKind.u8.wrap (n : Int) = n := by
  simp [IntKind.wrap, IntKind.bits, IntKind.signed]; omega
theorem xor8 (x y : UInt8) : IntKind.u8.wrap ((BitVec.toNat (BitVec.ofInt 8 (x.toNat : Int) ^^^ BitVec.ofInt 8 (y.toNat : Int)) : Nat) : Int) = ((x ^^^ y).toNat : Int) := by
  have hx : BitVec.ofInt 8 (x.toNat : Int) = x.toBitVec := by apply BitVec.eq_of_toNat_eq; simp
  have hy : BitVec.ofInt 8 (y.toNat : Int) = y.toBitVec := by apply BitVec.eq_of_toNat_eq; simp
  rw [hx, hy]
  have h : (x.toBitVec ^^^ y.toBitVec).toNat = (x ^^^ y).toNat := rfl
  rw [h]
  exact wrap_u8 (x ^^^ y).toNat_lt
theorem or8b (x y : UInt8) : IntKind.u8.wrap ((BitVec.toNat (BitVec.ofInt 8 (x.toNat : Int) ||| BitVec.ofInt 8 (y.toNat : Int)) : Nat) : Int) = ((x ||| y).toNat : Int) := by
  have hx : BitVec.ofInt 8 (x.toNat : Int) = x.toBitVec := by apply BitVec.eq_of_toNat_eq; simp
  have hy : BitVec.ofInt 8 (y.toNat : Int) = y.toBitVec := by apply BitVec.eq_of_toNat_eq; simp
  rw [hx, hy]
  have h : (x.toBitVec ||| y.toBitVec).toNat = (x ||| y).toNat := rfl
  rw [h]
  exact wrap_u8 (x ||| y).toNat_lt
def xst (a b : List UInt8) (k : Nat) : List UInt8 := (xorS a b).take k ++ a.drop k
theorem xst_len {a b : List UInt8} (h : a.length = b.length) (k : Nat) : (xst a b k).length = a.length := by simp [xst, xorS]; omega
theorem xst_at {a b : List UInt8} (h : a.length = b.length) {k : Nat} (hk : k < a.length) : (xst a b k)[k]? = some a[k] := by
  unfold xst
  rw [List.getElem?_append_right (by simp [xorS]; omega)]
  simp [xorS]
  rw [show k + (k - min k (min a.length b.length)) = k by omega]
  simp [hk]
theorem xst_set {a b : List UInt8} (h : a.length = b.length) {k : Nat} (hk : k < a.length) : (xst a b k).set k (a[k] ^^^ b[k]'(by omega)) = xst a b (k + 1) := by
  have hl : ((xorS a b).take k).length = k := by simp [xorS]; omega
  unfold xst
  rw [List.set_append_right _ _ (by omega), hl, Nat.sub_self, List.drop_eq_getElem_cons hk, List.set_cons_zero, List.take_succ_eq_append_getElem (by simp [xorS]; omega)]
  simp [xorS]
theorem xor_ac (a b : List UInt8) (h : a.length = b.length) (hl : a.length ≤ 100000000) : AC Try.prog 54 [bs none a, bs none b] [] (fun v bs' => v = bs (some tU) (xorS a b) ∧ bs' = []) := by
  have hc := wcat_ac [a] (by simp) (by simp; omega)
  have hm : (if (b.length : Int) < (a.length : Int) then (b.length : Int) else (a.length : Int)) = (a.length : Int) := by rw [if_neg (by omega)]
  refine AC.N Try.func54 Try.ntmps54 ?_
  intro X hρ hmks
  simp only [nx, Nat.reduceAdd, Nat.reduceSub, BEq.rfl]
  repeat' (first
    | ((first
    | ((with_reducible apply AP.k_any); first
             | refine AP.S ?_
             | refine AP.E ?_
             | refine AP.T ?_
      )
    | ((with_reducible apply AP.k_any); simp only [hm, Int.toNat_natCast, List.take_length]; refine ap_callX rfl rfl (fn := 26) rfl (hc) (by (repeat' (first | exact PasC.nil | apply PasC.nil | apply PasC.cons | apply PasV.leaf rfl | apply PasV.nl | apply PasV.bp rfl | apply PasV.lend rfl rfl rfl | apply PasV.lend rfl rfl (ro_B _) | apply PasV.lend rfl rfl (ro_M _) | apply PasV.lend rfl rfl (ro_E _ _) | apply PasV.lend rfl rfl (ro_I _) | apply PasV.lend rfl rfl (by (simp only [rn, List.map_cons, List.map_nil]; first | done | rfl)) | apply PasV.mv rfl | apply PasV.ag | apply PasV.fn | exact PasV.fs | apply PasV.any))) rfl rfl ?_)
    | ((with_reducible apply AP.k_any); refine AP.gh (gh_fz (b := 0) (u := 1) rfl rfl (by (repeat' (first | exact FzC.nil | apply FzC.cons | exact FzV.hd | apply FzV.ag | exact FzV.same))) (by (repeat' (first | exact FzB.nil | apply FzB.c | apply FzB.same | exact FzC.nil | apply FzC.cons | exact FzV.hd | apply FzV.ag | exact FzV.same)))) ?_; first | simp only [roE, roC, AV.ro, ro_B, ro_M, ro_E] | simp only [roE, roC, AV.ro, ro_B])
    )
      <;> (try simp only [nx, Nat.reduceAdd, Nat.reduceSub, BEq.rfl]))
    | ((with_reducible apply AP.k_nil); first
        | (refine AP.nil (hQ' _ ?_); clear hQ' Q')
        | refine AP.nil ?_)
    | ((with_reducible apply CP.k_reg); refine cp_regG fun Q' hQ' => ?_)
      | (with_reducible apply CP.k_reg1; refine cp_region ?_)
      | ((with_reducible apply CP.k_cond); first | refine cp_condT rfl ?_ | refine cp_condF rfl ?_ | refine cp_cond rfl (fun hc => ?_) (fun hc => ?_))
      | refine CP.go ?_
      | (simp only [List.append_eq, List.cons_append, List.nil_append]))
  simp only [List.flatten_cons, List.flatten_nil, List.append_nil]
  refine cp_loopS [6, 18, 19, 20, 21, 22, 23, 24, 25, 26, 27, 28, 29, 30, 31] (fun k : Nat => a.length - k) (fun k => k ≤ a.length) (fun k => [(18, I k), (17, I a.length)]) (fun k => [(0, ⟨2, .r tU 1 ((xst a b k).map eB)⟩)]) 0 (Nat.zero_le _) (by exact Gh.W) ?_
  rintro k hk
  simp only [setT, deT, setB, List.set_cons_succ, List.set_cons_zero]
  have hxl := xst_len h k
  by_cases hlt : k < a.length
  · have hw : IntKind.i64.wrap ((k : Int) + 1) = ((k + 1 : Nat) : Int) := wrap_i64 (by omega) (by omega)
    have hkb : k < b.length := by omega
    have hxa : (xst a b k)[k] = a[k] := by have := xst_at h hlt; rw [List.getElem?_eq_getElem (by omega)] at this; simpa using this
    have hset := xst_set h hlt
    have hx8 : IntKind.u8.wrap (((BitVec.ofInt IntKind.u8.bits (a[k].toNat : Int)) ^^^ (BitVec.ofInt IntKind.u8.bits (b[k].toNat : Int))).toNat : Int) = ((a[k] ^^^ b[k]).toNat : Int) := xor8 a[k] b[k]
    repeat' (first
      | ((first
      | ((with_reducible apply AP.k_any); first
               | refine AP.S ?_
               | refine AP.E ?_
               | refine AP.T ?_
        )
      
      | ((with_reducible apply DW.k_any); first
                  | refine DW.R ?_ | refine DW.R' ?_ | refine DW.W ?_ | refine DW.W' ?_
                  | (refine DW.known rfl ?_; (with_reducible first | apply DW.sx 2 | apply DW.sxN 2); (iterate 2 (focus (simp only [ft, nm, Nat.reduceAdd, Nat.reduceBEq, List.getElem?_cons_zero, List.getElem?_cons_succ]; exact rfl))); (focus (intro X V; simp only [ft, nm, Nat.reduceAdd, Nat.reduceBEq]; (try (refine AP.Y ?_; dsimp only)); (first  | fail); (try simp only [nx, Nat.reduceAdd, Nat.reduceSub, BEq.rfl]); refine AP.nil ?_; (first | refine ⟨trivial, rfl, ?_⟩ | refine ⟨rfl, rfl, ?_⟩); (repeat' (first | exact Mg.nil | apply Mg.keep rfl | apply Mg.take rfl)); done)); (focus (refine Exists.intro (fun _ => 0) ?_; apply Exists.intro; (repeat' (first | exact Mg.nil | apply Mg.keep rfl | apply Mg.take rfl)); done)); (iterate 2 (focus (exact rfl))))
                  | ((fail_if_success refine DW.known rfl ?_); refine DW.G (fun hg => ?_) (fun hg => ?_))
      )
      )
        <;> (try simp only [nx, Nat.reduceAdd, Nat.reduceSub, BEq.rfl]))
      | ((with_reducible apply AP.k_nil); first
          | (refine AP.nil (hQ' _ ?_); clear hQ' Q')
          | refine AP.nil ?_)
      | ((with_reducible apply CP.k_drw); refine cp_drwX fun Q' hQ' => ?_)
      | ((with_reducible apply CP.k_drw1); refine cp_drawX ?_)
      | ((with_reducible apply DW.k_nil); refine DW.nl ?_; first | (refine hQ' _ ?_; clear hQ' Q') | skip)
      | ((with_reducible apply CP.k_reg); refine cp_regG fun Q' hQ' => ?_)
        | (with_reducible apply CP.k_reg1; refine cp_region ?_)
        | ((with_reducible apply CP.k_cond); first | refine cp_condT rfl ?_ | refine cp_condF rfl ?_ | refine cp_cond rfl (fun hc => ?_) (fun hc => ?_))
        | refine CP.go ?_
        | (simp only [List.append_eq, List.cons_append, List.nil_append]))
    · simp only [hw, hxa, hx8]
      rw [show ∀ y : UInt8, [AV.sc (.int .u8 (y.toNat : Int))] = eB y from fun _ => rfl, ← List.map_set, hset]
      exact ⟨k + 1, by omega, by omega, by exact Gh.W⟩
    · exfalso; simp at *; omega
  · obtain rfl : k = a.length := by omega
    have e1 : xst a b a.length = xorS a b := by unfold xst; rw [List.drop_length, List.append_nil, List.take_of_length_le (by simp [xorS]; omega)]
    rw [e1] at hxl ⊢
    repeat' (first
      | ((first
      | ((with_reducible apply AP.k_any); first
               | refine AP.S ?_
               | refine AP.E ?_
               | refine AP.T ?_
        )
      
      | ((with_reducible apply DW.k_any); first
                  | refine DW.R ?_ | refine DW.R' ?_ | refine DW.W ?_ | refine DW.W' ?_
                  | (refine DW.known rfl ?_; (with_reducible first | apply DW.sx 2 | apply DW.sxN 2); (iterate 2 (focus (simp only [ft, nm, Nat.reduceAdd, Nat.reduceBEq, List.getElem?_cons_zero, List.getElem?_cons_succ]; exact rfl))); (focus (intro X V; simp only [ft, nm, Nat.reduceAdd, Nat.reduceBEq]; (try (refine AP.Y ?_; dsimp only)); (first  | fail); (try simp only [nx, Nat.reduceAdd, Nat.reduceSub, BEq.rfl]); refine AP.nil ?_; (first | refine ⟨trivial, rfl, ?_⟩ | refine ⟨rfl, rfl, ?_⟩); (repeat' (first | exact Mg.nil | apply Mg.keep rfl | apply Mg.take rfl)); done)); (focus (refine Exists.intro (fun _ => 0) ?_; apply Exists.intro; (repeat' (first | exact Mg.nil | apply Mg.keep rfl | apply Mg.take rfl)); done)); (iterate 2 (focus (exact rfl))))
                  | ((fail_if_success refine DW.known rfl ?_); refine DW.G (fun hg => ?_) (fun hg => ?_))
      )
      )
        <;> (try simp only [nx, Nat.reduceAdd, Nat.reduceSub, BEq.rfl]))
      | ((with_reducible apply AP.k_nil); first
          | (refine AP.nil (hQ' _ ?_); clear hQ' Q')
          | refine AP.nil ?_)
      | ((with_reducible apply CP.k_drw); refine cp_drwX fun Q' hQ' => ?_)
      | ((with_reducible apply CP.k_drw1); refine cp_drawX ?_)
      | ((with_reducible apply DW.k_nil); refine DW.nl ?_; first | (refine hQ' _ ?_; clear hQ' Q') | skip)
      | ((with_reducible apply CP.k_reg); refine cp_regG fun Q' hQ' => ?_)
        | (with_reducible apply CP.k_reg1; refine cp_region ?_)
        | ((with_reducible apply CP.k_cond); first | refine cp_condT rfl ?_ | refine cp_condF rfl ?_ | refine cp_cond rfl (fun hc => ?_) (fun hc => ?_))
        | refine CP.go ?_
        | (simp only [List.append_eq, List.cons_append, List.nil_append]))
    all_goals first
      | (exfalso; simp at *; done)
      | (exfalso; simp at *; omega)
      | (refine RetQ.B [] ?_; (try dsimp only [resV, List.getD_cons_succ, List.getD_cons_zero]); (exact ⟨rfl, rfl⟩))
def orS (l : List UInt8) : UInt8 := l.foldl (fun x y => x ||| y) 0
theorem orS_snoc (l : List UInt8) (x : UInt8) : orS (l ++ [x]) = orS l ||| x := by simp [orS, List.foldl_append]
theorem or_zero {x y : UInt8} : x ||| y = 0 ↔ x = 0 ∧ y = 0 := by
  constructor
  · intro h
    have h' := congrArg UInt8.toNat h
    rw [UInt8.toNat_or] at h'
    have h1 : x.toNat = 0 := by
      have := Nat.left_le_or (n := x.toNat) (m := y.toNat); simp at h'; omega
    have h2 : y.toNat = 0 := by
      have := Nat.right_le_or (n := x.toNat) (m := y.toNat); simp at h'; omega
    exact ⟨UInt8.toNat_inj.1 (by simpa using h1), UInt8.toNat_inj.1 (by simpa using h2)⟩
  · rintro ⟨rfl, rfl⟩; rfl
theorem fold_or : ∀ {l : List UInt8} {x : UInt8}, l.foldl (fun x y => x ||| y) x = 0 ↔ x = 0 ∧ ∀ y ∈ l, y = 0
  | [], x => by simp
  | y :: l, x => by
    rw [List.foldl_cons, fold_or (l := l), or_zero]
    simp [and_assoc]
theorem xor_zero {x y : UInt8} : x ^^^ y = 0 ↔ x = y := by
  constructor
  · intro h
    have : x ^^^ y ^^^ y = 0 ^^^ y := by rw [h]
    simpa [UInt8.xor_assoc] using this
  · rintro rfl; simp
theorem orS_xor : ∀ {a b : List UInt8}, a.length = b.length → (orS (xorS a b) = 0 ↔ a = b)
  | [], [], _ => by simp [orS, xorS]
  | [], _ :: _, h => by simp at h
  | _ :: _, [], h => by simp at h
  | x :: a, y :: b, h => by
    have ih := orS_xor (a := a) (b := b) (by simpa using h)
    unfold orS at ih ⊢
    rw [fold_or] at ih
    rw [xorS, List.zipWith_cons_cons, List.foldl_cons, fold_or, or_zero, xor_zero]
    simp only [true_and] at ih ⊢
    rw [show List.zipWith (fun x y => x ^^^ y) a b = xorS a b from rfl, ih]
    simp
theorem wsame_ac (a b : List UInt8) (hl : a.length ≤ 100000000) : AC Try.prog 25 [bs none a, bs none b] [] (fun v bs' => v = B (decide (a = b)) ∧ bs' = []) := by
  by_cases h : a.length = b.length
  · have hx := (xor_ac a b h hl).ro (r2 := bs none (xorS a b)) (by simp only [AV.ro, ro_B])
    have hxl : (xorS a b).length = a.length := by simp [xorS]; omega
    refine AC.N Try.func25 Try.ntmps25 ?_
    intro X hρ hmks
    simp only [nx, Nat.reduceAdd, Nat.reduceSub, BEq.rfl]
    repeat' (first
      | ((first
      | ((with_reducible apply AP.k_any); first
               | refine AP.S ?_
               | refine AP.E ?_
        )
      | ((with_reducible apply AP.k_any); refine AP.C (hx) ?_)
      )
        <;> (try simp only [nx, Nat.reduceAdd, Nat.reduceSub, BEq.rfl]))
      | ((with_reducible apply AP.k_nil); first
          | (refine AP.nil (hQ' _ ?_); clear hQ' Q')
          | refine AP.nil ?_)
      | ((with_reducible apply CP.k_reg); refine cp_regG fun Q' hQ' => ?_)
        | (with_reducible apply CP.k_reg1; refine cp_region ?_)
        | ((with_reducible apply CP.k_cond); first | refine cp_condT rfl ?_ | refine cp_condF rfl ?_ | refine cp_cond rfl (fun hc => ?_) (fun hc => ?_))
        | refine CP.go ?_
        | (simp only [List.append_eq, List.cons_append, List.nil_append]))
    · exfalso; simp at *; omega
    refine cp_loopS [5, 7, 17, 18, 19, 20, 21, 22, 23, 24] (fun k : Nat => a.length - k) (fun k => k ≤ a.length) (fun k => [(17, I k), (16, I a.length), (15, bs none (xorS a b)), (5, U (orS ((xorS a b).take k)))]) (fun k => []) 0 (Nat.zero_le _) (by (try rw [hxl]); exact Gh.W) ?_
    rintro k hk
    simp only [setT, deT, setB, List.set_cons_succ, List.set_cons_zero]
    by_cases hlt : k < a.length
    · have hw : IntKind.i64.wrap ((k : Int) + 1) = ((k + 1 : Nat) : Int) := wrap_i64 (by omega) (by omega)
      have hkx : k < (xorS a b).length := by omega
      have ho : IntKind.u8.wrap (((BitVec.ofInt IntKind.u8.bits ((orS ((xorS a b).take k)).toNat : Int)) ||| (BitVec.ofInt IntKind.u8.bits ((xorS a b)[k].toNat : Int))).toNat : Int) = ((orS ((xorS a b).take k) ||| (xorS a b)[k]).toNat : Int) := or8b _ _
      have hs : orS ((xorS a b).take (k + 1)) = orS ((xorS a b).take k) ||| (xorS a b)[k] := by rw [List.take_succ_eq_append_getElem hkx, orS_snoc]
      repeat' (first
        | ((first
        | ((with_reducible apply AP.k_any); first
                 | refine AP.S ?_
                 | refine AP.E ?_
          )
        
        )
          <;> (try simp only [nx, Nat.reduceAdd, Nat.reduceSub, BEq.rfl]))
        | ((with_reducible apply AP.k_nil); first
            | (refine AP.nil (hQ' _ ?_); clear hQ' Q')
            | refine AP.nil ?_)
        | ((with_reducible apply CP.k_reg); refine cp_regG fun Q' hQ' => ?_)
          | (with_reducible apply CP.k_reg1; refine cp_region ?_)
          | ((with_reducible apply CP.k_cond); first | refine cp_condT rfl ?_ | refine cp_condF rfl ?_ | refine cp_cond rfl (fun hc => ?_) (fun hc => ?_))
          | refine CP.go ?_
          | (simp only [List.append_eq, List.cons_append, List.nil_append]))
      · simp only [hw, ho]
        refine ⟨k + 1, by omega, by omega, ?_⟩
        rw [hs]
        exact Gh.W
      · exfalso; simp at *; omega
    · obtain rfl : k = a.length := by omega
      have ht : (xorS a b).take a.length = xorS a b := List.take_of_length_le (by omega)
      rw [ht]
      have hz := orS_xor h
      have hq : (((orS (xorS a b)).toNat : Int) == 0) = decide (a = b) := by
        rw [Bool.eq_iff_iff]
        simp only [beq_iff_eq, decide_eq_true_eq, ← hz, ← UInt8.toNat_inj]
        simp
      repeat' (first
        | ((first
        | ((with_reducible apply AP.k_any); first
                 | refine AP.S ?_
                 | refine AP.E ?_
          )
        
        )
          <;> (try simp only [nx, Nat.reduceAdd, Nat.reduceSub, BEq.rfl]))
        | ((with_reducible apply AP.k_nil); first
            | (refine AP.nil (hQ' _ ?_); clear hQ' Q')
            | refine AP.nil ?_)
        | ((with_reducible apply CP.k_reg); refine cp_regG fun Q' hQ' => ?_)
          | (with_reducible apply CP.k_reg1; refine cp_region ?_)
          | ((with_reducible apply CP.k_cond); first | refine cp_condT rfl ?_ | refine cp_condF rfl ?_ | refine cp_cond rfl (fun hc => ?_) (fun hc => ?_))
          | refine CP.go ?_
          | (simp only [List.append_eq, List.cons_append, List.nil_append]))
      all_goals first
        | (exfalso; simp at *; done)
        | (exfalso; simp at *; omega)
        | (refine RetQ.B [] ?_; (try dsimp only [resV, List.getD_cons_succ, List.getD_cons_zero]); (exact ⟨by rw [← hq], rfl⟩))
  · have hd : decide (a = b) = false := by simp; rintro rfl; exact h rfl
    rw [hd]
    refine AC.N Try.func25 Try.ntmps25 ?_
    intro X hρ hmks
    simp only [nx, Nat.reduceAdd, Nat.reduceSub, BEq.rfl]
    repeat' (first
      | ((first
      | ((with_reducible apply AP.k_any); first
               | refine AP.S ?_
               | refine AP.E ?_
        )
      
      )
        <;> (try simp only [nx, Nat.reduceAdd, Nat.reduceSub, BEq.rfl]))
      | ((with_reducible apply AP.k_nil); first
          | (refine AP.nil (hQ' _ ?_); clear hQ' Q')
          | refine AP.nil ?_)
      | ((with_reducible apply CP.k_reg); refine cp_regG fun Q' hQ' => ?_)
        | (with_reducible apply CP.k_reg1; refine cp_region ?_)
        | ((with_reducible apply CP.k_cond); first | refine cp_condT rfl ?_ | refine cp_condF rfl ?_ | refine cp_cond rfl (fun hc => ?_) (fun hc => ?_))
        | refine CP.go ?_
        | (simp only [List.append_eq, List.cons_append, List.nil_append]))
    · (refine RetQ.B [] ?_; (try dsimp only [resV, List.getD_cons_succ, List.getD_cons_zero]); (exact ⟨rfl, rfl⟩))
    all_goals (exfalso; simp at *; omega)
end Go.Proofs.Ytnjfchigdpifmaa

namespace Go.Proofs.Ytnjfchigdpifmaa
set_option linter.unusedVariables false
set_option linter.unusedSimpArgs false
set_option maxHeartbeats 8000000
open Go.RowKit
set_option maxRecDepth 100000
theorem shaS_len (b : List UInt8) : (shaS b).length = 32 := rfl
def keyS (key : List UInt8) : List UInt8 := if 64 < key.length then shaS key else key
theorem keyS_len (key : List UInt8) : (keyS key).length ≤ 64 := by
  unfold keyS
  split
  · rw [shaS_len]; omega
  · omega
/-- a key of 64 bytes -/
def fullS (k : List UInt8) : List UInt8 := k ++ List.replicate (64 - k.length) 0
theorem fullS_len {k : List UInt8} (h : k.length ≤ 64) : (fullS k).length = 64 := by simp [fullS]; omega
def xorK (k : List UInt8) (x : UInt8) : List UInt8 := (fullS k).map (· ^^^ x)
theorem xorK_len {k : List UInt8} (h : k.length ≤ 64) (x : UInt8) : (xorK k x).length = 64 := by rw [xorK, List.length_map, fullS_len h]
def hmacS (key b : List UInt8) : List UInt8 := shaS (xorK (keyS key) 0x5c ++ shaS (xorK (keyS key) 0x36 ++ b))
theorem xor8v (x y : UInt8) : IntKind.u8.wrap (((BitVec.ofInt IntKind.u8.bits (x.toNat : Int)) ^^^ (BitVec.ofInt IntKind.u8.bits (y.toNat : Int))).toNat : Int) = ((x ^^^ y).toNat : Int) := xor8 x y
end Go.Proofs.Ytnjfchigdpifmaa

namespace Go.Proofs.Ytnjfchigdpifmaa
set_option linter.unusedVariables false
set_option linter.unusedSimpArgs false
set_option maxHeartbeats 8000000
open Go.RowKit
set_option maxRecDepth 100000
theorem tagC_map {t : List UInt8} (h : t.length = 32) : (tagC t).map (fun a => [a]) = t.map eB := by
  have : (tagC t) = (List.range 32).map fun j => U (t.getD j 0) := rfl
  rw [this, List.map_map]
  apply List.ext_getElem?
  intro i
  by_cases hi : i < 32
  · simp [hi, h, List.getD_eq_getElem?_getD]
  · rw [List.getElem?_eq_none (by simp; omega), List.getElem?_eq_none (by simp; omega)]
def xst1 (k : List UInt8) (x : UInt8) (i : Nat) : List UInt8 := (k.map (· ^^^ x)).take i ++ k.drop i
theorem xst1_len (k : List UInt8) (x : UInt8) (i : Nat) : (xst1 k x i).length = k.length := by simp [xst1]; omega
theorem xst1_at {k : List UInt8} {x : UInt8} {i : Nat} (h : i < k.length) : ((xst1 k x i).map eB)[i]? = some (eB k[i]) := by
  unfold xst1
  rw [List.getElem?_map, List.getElem?_append_right (by simp; omega)]
  simp [show i - min i k.length = 0 by omega, h]
theorem xst1_set {k : List UInt8} {x : UInt8} {i : Nat} (h : i < k.length) : ((xst1 k x i).map eB).set i (eB (k[i] ^^^ x)) = (xst1 k x (i + 1)).map eB := by
  have hl : ((k.map (· ^^^ x)).take i).length = i := by simp; omega
  unfold xst1
  rw [← List.map_set, List.set_append_right _ _ (by omega), hl, Nat.sub_self, List.drop_eq_getElem_cons h, List.set_cons_zero, List.take_succ_eq_append_getElem (by simp; omega)]
  simp
theorem clos_ac (k : List UInt8) (x : UInt8) (hk : k.length ≤ 1000) : AC Try.prog 93 [U x, .bp 0 0 0] [bxB k] (fun v bs' => v = bs (some tU) (k.map (· ^^^ x)) ∧ bs' = [bxB k]) := by
  have h1 := wcat_ac [k] (by simp) (by simp; omega)
  rw [show [k].flatten = k by simp] at h1
  refine AC.N Try.func93 Try.ntmps93 ?_
  intro X hρ hmks
  simp only [nx, Nat.reduceAdd, Nat.reduceSub, BEq.rfl]
  refine CP.gh gh_slot ?_; simp only [nx, Nat.reduceAdd, Nat.reduceSub, BEq.rfl]
  refine CP.gh gh_slot ?_; simp only [nx, Nat.reduceAdd, Nat.reduceSub, BEq.rfl]
  repeat' (first
    | ((first
    | ((with_reducible apply AP.k_any); first
            | refine AP.S ?_
            | refine AP.E ?_
            | refine AP.T ?_
            | refine AP.A ?_ | refine AP.AB 0 ?_ | refine AP.AB 1 ?_ | refine AP.AL ?_
            | refine AP.LB ?_ | refine AP.TB ?_ | refine AP.IX ?_ | refine AP.SF ?_ | refine AP.SV ?_ | refine AP.CV ?_ | refine AP.CO ?_ | refine AP.FV ?_  | refine AP.PF ?_)
    ) <;> (try simp only [ nx, q4, rn, fq, Nat.mul_one, Bool.and_true, Bool.and_false, Nat.reduceBEq, Nat.reduceAdd, Nat.reduceSub, BEq.rfl]))
    | ((with_reducible apply AP.k_nil); first | (refine AP.nil (hQ' _ ?_); clear hQ' Q') | refine AP.nil ?_)
    | ((with_reducible apply CP.k_reg); refine cp_regG fun Q' hQ' => ?_)
      | (with_reducible apply CP.k_reg1; refine cp_region ?_)
      | ((with_reducible apply CP.k_cond); first | refine cp_condT rfl ?_ | refine cp_condF rfl ?_ | refine cp_cond rfl (fun hc => ?_) (fun hc => ?_))
      | refine CP.go ?_
      | (simp only [List.append_eq, List.cons_append, List.nil_append]))
  refine cp_loopS [5, 11, 12, 13, 14, 15, 16, 17, 18, 19, 20, 21] (fun i : Nat => k.length - i) (fun i => i ≤ k.length) (fun i => [(11, I i)]) (fun i => [(2, ⟨1, .r tU 1 ((xst1 k x i).map eB)⟩)]) 0 (Nat.zero_le _) (by exact Gh.W) ?_
  intro i hi
  simp only [setT, deT, setB, List.set_cons_succ, List.set_cons_zero]
  have hln := xst1_len k x i
  have hln2 : ((xst1 k x i).map eB).length = k.length := by simp [hln]
  by_cases hlt : i < k.length
  · have hw : IntKind.i64.wrap ((i : Int) + 1) = ((i + 1 : Nat) : Int) := wrap_i64 (by omega) (by omega)
    have d1 : decide ((i : Int) < (k.length : Int)) = true := by simp; omega
    have hset := xst1_set (x := x) hlt
    have hat := xst1_at (x := x) hlt
    generalize k[i] = c at *
    generalize (xst1 k x i).map eB = W at *
    repeat' (first
      | ((first
      | ((with_reducible apply AP.k_any); first
              | refine AP.S ?_
              | refine AP.E ?_
              | refine AP.T ?_
              | refine AP.A ?_ | refine AP.AB 0 ?_ | refine AP.AB 1 ?_ | refine AP.AL ?_
              | refine AP.LB ?_ | refine AP.TB ?_ | refine AP.IX ?_ | refine AP.SF ?_ | refine AP.SV ?_ | refine AP.CV ?_ | refine AP.CO ?_ | refine AP.FV ?_  | refine AP.PF ?_)
      ) <;> (try simp only [d1, xor8v, nx, q4, rn, fq, Nat.mul_one, Bool.and_true, Bool.and_false, Nat.reduceBEq, Nat.reduceAdd, Nat.reduceSub, BEq.rfl]))
      | ((with_reducible apply AP.k_nil); first | (refine AP.nil (hQ' _ ?_); clear hQ' Q') | refine AP.nil ?_)
      | ((with_reducible apply CP.k_reg); refine cp_regG fun Q' hQ' => ?_)
        | (with_reducible apply CP.k_reg1; refine cp_region ?_)
        | ((with_reducible apply CP.k_cond); first | refine cp_condT rfl ?_ | refine cp_condF rfl ?_ | refine cp_cond rfl (fun hc => ?_) (fun hc => ?_))
        | refine CP.go ?_
        | (simp only [List.append_eq, List.cons_append, List.nil_append]))
    simp only [hw]
    exact ⟨i + 1, by omega, by omega, by (rw [← hset]; exact Gh.W)⟩
  · obtain rfl : i = k.length := by omega
    have d1 : decide ((k.length : Int) < (k.length : Int)) = false := by simp
    have he : xst1 k x k.length = k.map (· ^^^ x) := by
      unfold xst1; rw [List.drop_length, List.append_nil, List.take_of_length_le (by simp)]
    rw [he]
    repeat' (first
      | ((first
      | ((with_reducible apply AP.k_any); first
              | refine AP.S ?_
              | refine AP.E ?_
              | refine AP.T ?_
              | refine AP.A ?_ | refine AP.AB 0 ?_ | refine AP.AB 1 ?_ | refine AP.AL ?_
              | refine AP.LB ?_ | refine AP.TB ?_ | refine AP.IX ?_ | refine AP.SF ?_ | refine AP.SV ?_ | refine AP.CV ?_ | refine AP.CO ?_ | refine AP.FV ?_  | refine AP.PF ?_)
      ) <;> (try simp only [d1, nx, q4, rn, fq, Nat.mul_one, Bool.and_true, Bool.and_false, Nat.reduceBEq, Nat.reduceAdd, Nat.reduceSub, BEq.rfl]))
      | ((with_reducible apply AP.k_nil); first | (refine AP.nil (hQ' _ ?_); clear hQ' Q') | refine AP.nil ?_)
      | ((with_reducible apply CP.k_reg); refine cp_regG fun Q' hQ' => ?_)
        | (with_reducible apply CP.k_reg1; refine cp_region ?_)
        | ((with_reducible apply CP.k_cond); first | refine cp_condT rfl ?_ | refine cp_condF rfl ?_ | refine cp_cond rfl (fun hc => ?_) (fun hc => ?_))
        | refine CP.go ?_
        | (simp only [List.append_eq, List.cons_append, List.nil_append]))
    (refine RetQ.B [(0, 0)] ?_; (try dsimp only [resV, List.getD_cons_succ, List.getD_cons_zero]); (exact ⟨rfl, rfl⟩))
theorem wcat2_ac (a b : List UInt8) (h : a.length + b.length ≤ 10000000) : AC Try.prog 26 [bss none [a, b]] [] (fun v bs' => v = bs none (a ++ b) ∧ bs' = []) := by
  have h1 := (wcat_ac [a, b] (by simp) (by simp; omega)).ro (r2 := bs none (a ++ b)) (by simp only [AV.ro, List.flatten_cons, List.flatten_nil, List.append_nil, ro_B])
  exact h1
theorem hblocks1_ac (K : List UInt8) (hK : K.length ≤ 64) : AC Try.prog 84 [bs none K] [] (fun v bs' => v = .fn 93 [.bp 0 0 0] ∧ bs' = [bxB (fullS K)]) := by
  have d0 : decide ((64 : Int) < (K.length : Int)) = false := by simp; omega
  have hw : IntKind.i64.wrap (64 - (K.length : Int)) = ((64 - K.length : Nat) : Int) := by rw [wrap_i64 (by omega) (by omega)]; omega
  have h1 := wcat2_ac K (List.replicate (64 - K.length) 0) (by simp; omega)
  rw [show K ++ List.replicate (64 - K.length) 0 = fullS K from rfl] at h1
  generalize fullS K = L at *
  refine AC.N Try.func84 Try.ntmps84 ?_
  intro X hρ hmks
  simp only [nx, Nat.reduceAdd, Nat.reduceSub, BEq.rfl]
  refine CP.gh gh_slot ?_; simp only [nx, Nat.reduceAdd, Nat.reduceSub, BEq.rfl]
  refine CP.gh gh_slot ?_; simp only [nx, Nat.reduceAdd, Nat.reduceSub, BEq.rfl]
  refine CP.gh gh_slot ?_; simp only [nx, Nat.reduceAdd, Nat.reduceSub, BEq.rfl]
  repeat' (first
    | ((first
    | ((with_reducible apply AP.k_any); first
            | refine AP.S ?_
            | refine AP.A ?_ | refine AP.AB 0 ?_ | refine AP.AB 1 ?_ | refine AP.AL ?_
            | refine AP.LB ?_ | refine AP.TB ?_ | refine AP.IX ?_ | refine AP.SF ?_ | refine AP.SV ?_ | refine AP.CV ?_ | refine AP.CO ?_ | refine AP.FV ?_ | refine ap_makeS rfl rfl rfl rfl rfl rfl rfl rfl rfl rfl rfl (by omega) ?_ | refine AP.PF ?_)
    ) <;> (try simp only [d0, mk0, hw, nx, q4, rn, fq, Nat.mul_one, Bool.and_true, Bool.and_false, Nat.reduceBEq, Nat.reduceAdd, Nat.reduceSub, BEq.rfl]))
    | ((with_reducible apply AP.k_nil); first | (refine AP.nil (hQ' _ ?_); clear hQ' Q') | refine AP.nil ?_)
    | ((with_reducible apply CP.k_reg); refine cp_regG fun Q' hQ' => ?_)
      | (with_reducible apply CP.k_reg1; refine cp_region ?_)
      | ((with_reducible apply CP.k_cond); first | refine cp_condT rfl ?_ | refine cp_condF rfl ?_ | refine cp_cond rfl (fun hc => ?_) (fun hc => ?_))
      | refine CP.go ?_
      | (simp only [List.append_eq, List.cons_append, List.nil_append]))
  (exact RetQ.A [(0, 3)] (by exact ⟨rfl, rfl⟩))
theorem hblocks2_ac (key : List UInt8) (hk : key.length ≤ 1000000) (h64 : 64 < key.length) : AC Try.prog 84 [bs none key] [] (fun v bs' => v = .fn 93 [.bp 0 0 0] ∧ bs' = [bxB (fullS (shaS key))]) := by
  have d0 : decide ((64 : Int) < (key.length : Int)) = true := by simp; omega
  have h0 := sha_ac key hk
  have hK := shaS_len key
  have htm := tagC_map hK
  generalize shaS key = K at *
  have hw : IntKind.i64.wrap (64 - (K.length : Int)) = ((64 - K.length : Nat) : Int) := by rw [wrap_i64 (by omega) (by omega)]; omega
  have h1 := wcat2_ac K (List.replicate (64 - K.length) 0) (by simp; omega)
  rw [show K ++ List.replicate (64 - K.length) 0 = fullS K from rfl] at h1
  generalize fullS K = L at *
  refine AC.N Try.func84 Try.ntmps84 ?_
  intro X hρ hmks
  simp only [nx, Nat.reduceAdd, Nat.reduceSub, BEq.rfl]
  refine CP.gh gh_slot ?_; simp only [nx, Nat.reduceAdd, Nat.reduceSub, BEq.rfl]
  refine CP.gh gh_slot ?_; simp only [nx, Nat.reduceAdd, Nat.reduceSub, BEq.rfl]
  refine CP.gh gh_slot ?_; simp only [nx, Nat.reduceAdd, Nat.reduceSub, BEq.rfl]
  refine CP.gh gh_slot ?_; simp only [nx, Nat.reduceAdd, Nat.reduceSub, BEq.rfl]
  repeat' (first
    | ((first
    | ((with_reducible apply AP.k_any); first
            | refine AP.S ?_
            | refine AP.A ?_ | refine AP.AB 0 ?_ | refine AP.AB 1 ?_ | refine AP.AL ?_
            | refine AP.LB ?_ | refine AP.TB ?_ | refine AP.IX ?_ | refine AP.SF ?_ | refine AP.SV ?_ | refine AP.CV ?_ | refine AP.CO ?_ | refine AP.FV ?_ | refine ap_makeS rfl rfl rfl rfl rfl rfl rfl rfl rfl rfl rfl (by omega) ?_ | refine AP.PF ?_)
    ) <;> (try simp only [d0, mk0, hw, htm, nx, q4, rn, fq, Nat.mul_one, Bool.and_true, Bool.and_false, Nat.reduceBEq, Nat.reduceAdd, Nat.reduceSub, BEq.rfl]))
    | ((with_reducible apply AP.k_nil); first | (refine AP.nil (hQ' _ ?_); clear hQ' Q') | refine AP.nil ?_)
    | ((with_reducible apply CP.k_reg); refine cp_regG fun Q' hQ' => ?_)
      | (with_reducible apply CP.k_reg1; refine cp_region ?_)
      | ((with_reducible apply CP.k_cond); first | refine cp_condT rfl ?_ | refine cp_condF rfl ?_ | refine cp_cond rfl (fun hc => ?_) (fun hc => ?_))
      | refine CP.go ?_
      | (simp only [List.append_eq, List.cons_append, List.nil_append]))
  (exact RetQ.A [(0, 4)] (by exact ⟨rfl, rfl⟩))
theorem hblocks_ac (key : List UInt8) (hk : key.length ≤ 1000000) : AC Try.prog 84 [bs none key] [] (fun v bs' => v = .fn 93 [.bp 0 0 0] ∧ bs' = [bxB (fullS (keyS key))]) := by
  unfold keyS
  split
  · exact hblocks2_ac key hk (by assumption)
  · exact hblocks1_ac key (by omega)
end Go.Proofs.Ytnjfchigdpifmaa

namespace Go.Proofs.Ytnjfchigdpifmaa
set_option linter.unusedVariables false
set_option linter.unusedSimpArgs false
set_option maxHeartbeats 8000000
open Go.RowKit
set_option maxRecDepth 100000
theorem wcatO_ac (ls : List (List UInt8)) (hl : ls.length ≤ 100000000) (hf : ls.flatten.length ≤ 100000000) :
    AC Try.prog 26 [bss (some tB) ls] [] (fun v bs' => v = bs (some tU) ls.flatten ∧ bs' = []) := by
  refine AC.N Try.func26 Try.ntmps26 ?_
  intro X hρ hmks
  simp only [nx, Nat.reduceAdd, Nat.reduceSub, BEq.rfl]
  refine CP.gh (gh_fzS (b := 0) rfl) ?_
  simp only [ro_S, nx, q4, rn, fq, Nat.mul_one, Bool.and_true, Bool.and_false, Nat.reduceBEq, Nat.reduceAdd, Nat.reduceSub, BEq.rfl]
  repeat' (first
    | ((first
    | ((with_reducible apply AP.k_any); first
             | refine AP.S ?_
             | refine AP.E ?_
      )
    
    )
      <;> (try simp only [nx, Nat.reduceAdd, Nat.reduceSub, BEq.rfl]))
    | ((with_reducible apply AP.k_nil); first
        | (refine AP.nil (hQ' _ ?_); clear hQ' Q')
        | refine AP.nil ?_)
    | ((with_reducible apply CP.k_reg); refine cp_regG fun Q' hQ' => ?_)
      | (with_reducible apply CP.k_reg1; refine cp_region ?_)
      | ((with_reducible apply CP.k_cond); first | refine cp_condT rfl ?_ | refine cp_condF rfl ?_ | refine cp_cond rfl (fun hc => ?_) (fun hc => ?_))
      | refine CP.go ?_
      | (simp only [List.append_eq, List.cons_append, List.nil_append]))
  refine CP.gh (gh_nil (t := 3) (e := tU) (k := 1) rfl) ?_
  simp only [nx, Nat.reduceAdd, Nat.reduceSub, BEq.rfl]
  refine cp_loopS [3, 5, 8, 9, 10, 11, 12, 13, 14, 15] (fun a : Nat × Nat => ls.length - a.1) (fun a => a.1 ≤ ls.length) (fun a => [(8, I a.1), (3, .hd 0 a.2)]) (fun a => [(0, ⟨a.2, .r tU 1 ((ls.take a.1).flatten.map eB)⟩)]) (0, 2) (Nat.zero_le _) (by exact Gh.W) ?_
  rintro ⟨k, u⟩ hk
  simp only [setT, deT, setB, List.set_cons_succ, List.set_cons_zero]
  dsimp only at hk
  by_cases hlt : k < ls.length
  · have hw : IntKind.i64.wrap ((k : Int) + 1) = ((k + 1 : Nat) : Int) := wrap_i64 (by omega) (by omega)
    have hlen : (ls.take k).flatten.length + ls[k].length ≤ 100000000 := by
      have h1 : (ls.take k).flatten ++ ls[k] = (ls.take (k + 1)).flatten := by rw [List.take_succ_eq_append_getElem hlt, List.flatten_append, List.flatten_cons, List.flatten_nil, List.append_nil]
      have h2 : (ls.take (k + 1)).flatten ++ (ls.drop (k + 1)).flatten = ls.flatten := by rw [← List.flatten_append, List.take_append_drop]
      have h3 := congrArg List.length h1
      have h4 := congrArg List.length h2
      simp only [List.length_append] at h3 h4
      omega
    have hlen2 : ((ls.take k).flatten.map eB).length + (ls[k].map eB).length ≤ 1000000000 := by rw [List.length_map, List.length_map]; omega
    repeat' (first
      | ((first
      | ((with_reducible apply AP.k_any); first
               | refine AP.S ?_
               | refine AP.E ?_
        )
      
      )
        <;> (try simp only [nx, Nat.reduceAdd, Nat.reduceSub, BEq.rfl]))
      | ((with_reducible apply AP.k_nil); first
          | (refine AP.nil (hQ' _ ?_); clear hQ' Q')
          | refine AP.nil ?_)
      | ((with_reducible apply CP.k_reg); refine cp_regG fun Q' hQ' => ?_)
        | (with_reducible apply CP.k_reg1; refine cp_region ?_)
        | ((with_reducible apply CP.k_cond); first | refine cp_condT rfl ?_ | refine cp_condF rfl ?_ | refine cp_cond rfl (fun hc => ?_) (fun hc => ?_))
        | refine CP.go ?_
        | (simp only [List.append_eq, List.cons_append, List.nil_append]))
    · simp only [hw]
      refine ⟨(k + 1, u + 1), by (dsimp only; omega), by (dsimp only; omega), ?_⟩
      have h1 : (ls.take (k + 1)).flatten.map eB = (ls.take k).flatten.map eB ++ ls[k].map eB := by rw [List.take_succ_eq_append_getElem hlt, List.flatten_append, List.flatten_cons, List.flatten_nil, List.append_nil, List.map_append]
      simp only [h1]
      exact Gh.W
    · exfalso; simp at *; omega
  · obtain rfl : k = ls.length := by omega
    rw [List.take_length]
    repeat' (first
      | ((first
      | ((with_reducible apply AP.k_any); first
               | refine AP.S ?_
               | refine AP.E ?_
        )
      
      )
        <;> (try simp only [nx, Nat.reduceAdd, Nat.reduceSub, BEq.rfl]))
      | ((with_reducible apply AP.k_nil); first
          | (refine AP.nil (hQ' _ ?_); clear hQ' Q')
          | refine AP.nil ?_)
      | ((with_reducible apply CP.k_reg); refine cp_regG fun Q' hQ' => ?_)
        | (with_reducible apply CP.k_reg1; refine cp_region ?_)
        | ((with_reducible apply CP.k_cond); first | refine cp_condT rfl ?_ | refine cp_condF rfl ?_ | refine cp_cond rfl (fun hc => ?_) (fun hc => ?_))
        | refine CP.go ?_
        | (simp only [List.append_eq, List.cons_append, List.nil_append]))
    all_goals first
      | (exfalso; simp at *; done)
      | (exfalso; simp at *; omega)
      | (refine RetQ.B [] ?_; (try dsimp only [resV, List.getD_cons_succ, List.getD_cons_zero]); (exact ⟨rfl, rfl⟩))
theorem wcat2O_ac (a b : List UInt8) (h : a.length + b.length ≤ 10000000) : AC Try.prog 26 [bss (some tB) [a, b]] [] (fun v bs' => v = bs none (a ++ b) ∧ bs' = []) := by
  have h1 := (wcatO_ac [a, b] (by simp) (by simp; omega)).ro (r2 := bs none (a ++ b)) (by simp only [AV.ro, List.flatten_cons, List.flatten_nil, List.append_nil, ro_B])
  exact h1
theorem hmac_ac (key b : List UInt8) (hk : key.length ≤ 1000000) (hb : b.length ≤ 900000) : AC Try.prog 67 [bs none key, bs none b] [] (fun v bs' => v = tg (hmacS key b) ∧ bs' = []) := by
  have hkl := keyS_len key
  have hfl := fullS_len hkl
  have h0 := hblocks_ac key hk
  have h1 := AC.ro (clos_ac (fullS (keyS key)) 0x36 (by omega)) (r2 := bs none (xorK (keyS key) 0x36)) (by simp only [AV.ro, ro_B]; rfl)
  have h2 := AC.ro (clos_ac (fullS (keyS key)) 0x5c (by omega)) (r2 := bs none (xorK (keyS key) 0x5c)) (by simp only [AV.ro, ro_B]; rfl)
  have hl1 := xorK_len hkl 0x36
  have hl2 := xorK_len hkl 0x5c
  unfold hmacS
  generalize xorK (keyS key) 0x36 = k1 at *
  generalize xorK (keyS key) 0x5c = k2 at *
  generalize fullS (keyS key) = L at *
  have h3 := wcat2_ac k1 b (by omega)
  have h4 := sha_ac (k1 ++ b) (by simp; omega)
  have hs := shaS_len (k1 ++ b)
  generalize shaS (k1 ++ b) = t at *
  have htm := tagC_map hs
  simp only [tagC, List.map_cons, List.map_nil] at htm
  have h6 := wcat2_ac k2 t (by omega)
  have h8 := wcat2O_ac k2 t (by omega)
  have h7 := sha_ac (k2 ++ t) (by simp; omega)
  generalize shaS (k2 ++ t) = t2 at *
  refine AC.N Try.func67 Try.ntmps67 ?_
  intro X hρ hmks
  simp only [nx, Nat.reduceAdd, Nat.reduceSub, BEq.rfl]
  refine CP.gh gh_slot ?_; simp only [nx, Nat.reduceAdd, Nat.reduceSub, BEq.rfl]
  refine CP.gh gh_slot ?_; simp only [nx, Nat.reduceAdd, Nat.reduceSub, BEq.rfl]
  refine CP.gh gh_slot ?_; simp only [nx, Nat.reduceAdd, Nat.reduceSub, BEq.rfl]
  refine CP.gh gh_slot ?_; simp only [nx, Nat.reduceAdd, Nat.reduceSub, BEq.rfl]
  repeat' (first
    | ((first
    | ((with_reducible apply AP.k_any); first
            | refine AP.S ?_
            | refine AP.A ?_ | refine AP.AB 0 ?_ | refine AP.AB 1 ?_ | refine AP.AL ?_
            | refine AP.LB ?_ | refine AP.TB ?_ | refine AP.IX ?_ | refine AP.SF ?_ | refine AP.SV ?_ | refine AP.CV ?_ | refine AP.CO ?_ | refine AP.FV ?_ | ((with_reducible apply AP.k_any); refine AP.B 1 (h0) ?_) | ((with_reducible apply AP.k_any); refine AP.B 0 (h1) ?_) | ((with_reducible apply AP.k_any); refine AP.B 0 (h2) ?_) | ((with_reducible apply AP.k_any); refine AP.C (h3) ?_) | ((with_reducible apply AP.k_any); refine AP.C (h4) ?_) | ((with_reducible apply AP.k_any); refine AP.C (h6) ?_) | ((with_reducible apply AP.k_any); refine AP.C (h7) ?_)  | ((with_reducible apply AP.k_any); refine AP.C (h8) ?_) | refine AP.PF ?_)
      | ((with_reducible apply DW.k_any); first
        | refine DW.R ?_ | refine DW.R' ?_ | refine DW.W ?_ | refine DW.W' ?_ | refine DW.RA ?_ | refine DW.A 0 ?_ | refine DW.A 1 ?_ | refine DW.A 2 ?_ | refine DW.A' 0 ?_ | refine DW.A' 2 ?_ | ((fail_if_success refine DW.known rfl ?_); refine DW.G (fun hg => ?_) (fun hg => ?_))
        | refine DW.WX ?_ | refine DW.RX ?_ | refine DW.WX' ?_)
    | ((with_reducible apply DW.k_any); first
                | refine DW.R ?_ | refine DW.R' ?_ | refine DW.W ?_ | refine DW.W' ?_
                | (refine DW.known rfl ?_; (with_reducible first | apply DW.sx 2 | apply DW.sxN 2); (iterate 2 (focus (simp only [ft, nm, Nat.reduceAdd, Nat.reduceBEq, List.getElem?_cons_zero, List.getElem?_cons_succ]; exact rfl))); (focus (intro X V; simp only [ft, nm, Nat.reduceAdd, Nat.reduceBEq]; (try (refine AP.Y ?_; dsimp only)); (first | ((with_reducible apply AP.k_any); refine AP.B 1 (h0) ?_) | ((with_reducible apply AP.k_any); refine AP.B 0 (h1) ?_) | ((with_reducible apply AP.k_any); refine AP.B 0 (h2) ?_) | ((with_reducible apply AP.k_any); refine AP.C (h3) ?_) | ((with_reducible apply AP.k_any); refine AP.C (h4) ?_) | ((with_reducible apply AP.k_any); refine AP.C (h6) ?_) | ((with_reducible apply AP.k_any); refine AP.C (h7) ?_) | ((with_reducible apply AP.k_any); refine AP.C (h8) ?_) | fail); (try simp only [nx, Nat.reduceAdd, Nat.reduceSub, BEq.rfl]); refine AP.nil ?_; (first | refine ⟨trivial, rfl, ?_⟩ | refine ⟨rfl, rfl, ?_⟩); (repeat' (first | exact Mg.nil | apply Mg.keep rfl | apply Mg.take rfl)); done)); (focus (refine Exists.intro (fun _ => 0) ?_; apply Exists.intro; (repeat' (first | exact Mg.nil | apply Mg.keep rfl | apply Mg.take rfl)); done)); (iterate 2 (focus (exact rfl))))
                | ((fail_if_success refine DW.known rfl ?_); refine DW.G (fun hg => ?_) (fun hg => ?_))
    )
    ) <;> (try simp only [htm, nx, q4, rn, fq, Nat.mul_one, Bool.and_true, Bool.and_false, Nat.reduceBEq, Nat.reduceAdd, Nat.reduceSub, BEq.rfl]))
    | ((with_reducible apply AP.k_nil); first | (refine AP.nil (hQ' _ ?_); clear hQ' Q') | refine AP.nil ?_)
    | ((with_reducible apply CP.k_drw); refine cp_drwX fun Q' hQ' => ?_)
    | ((with_reducible apply CP.k_drw1); refine cp_drawX ?_)
    | ((with_reducible apply DW.k_nil); refine DW.nl ?_; first | (refine hQ' _ ?_; clear hQ' Q') | skip)
    | ((with_reducible apply CP.k_reg); refine cp_regG fun Q' hQ' => ?_)
      | (with_reducible apply CP.k_reg1; refine cp_region ?_)
      | ((with_reducible apply CP.k_cond); first | refine cp_condT rfl ?_ | refine cp_condF rfl ?_ | refine cp_cond rfl (fun hc => ?_) (fun hc => ?_))
      | refine CP.go ?_
      | (simp only [List.append_eq, List.cons_append, List.nil_append]))
  (exact RetQ.A [] (by exact ⟨rfl, rfl⟩))
end Go.Proofs.Ytnjfchigdpifmaa

namespace Go.Proofs.Ytnjfchigdpifmaa
set_option linter.unusedVariables false
set_option linter.unusedSimpArgs false
set_option maxHeartbeats 8000000
open Go.RowKit
set_option maxRecDepth 100000
theorem hsame_ac (a b : List UInt8) (ha : a.length = 32) (hb : b.length = 32) : AC Try.prog 44 [tg a, tg b] [] (fun v bs' => v = B (decide (a = b)) ∧ bs' = []) := by
  have h1 := wsame_ac a b (by omega)
  have hma := tagC_map ha
  have hmb := tagC_map hb
  simp only [tagC, List.map_cons, List.map_nil] at hma hmb
  refine AC.N Try.func44 Try.ntmps44 ?_
  intro X hρ hmks
  simp only [nx, Nat.reduceAdd, Nat.reduceSub, BEq.rfl]
  refine CP.gh gh_slot ?_; simp only [nx, Nat.reduceAdd, Nat.reduceSub, BEq.rfl]
  repeat' (first
    | ((first
    | ((with_reducible apply AP.k_any); first
            | refine AP.S ?_
            | refine AP.A ?_ | refine AP.AB 0 ?_ | refine AP.AB 1 ?_ | refine AP.AL ?_
            | refine AP.LB ?_ | refine AP.TB ?_ | refine AP.IX ?_ | refine AP.SF ?_ | refine AP.SV ?_ | refine AP.CV ?_ | refine AP.CO ?_ | refine AP.FV ?_  | refine AP.PF ?_)
      | ((with_reducible apply DW.k_any); first
        | refine DW.R ?_ | refine DW.R' ?_ | refine DW.W ?_ | refine DW.W' ?_ | refine DW.RA ?_ | refine DW.A 0 ?_ | refine DW.A 1 ?_ | refine DW.A 2 ?_ | refine DW.A' 0 ?_ | refine DW.A' 2 ?_ | ((fail_if_success refine DW.known rfl ?_); refine DW.G (fun hg => ?_) (fun hg => ?_))
        | refine DW.WX ?_ | refine DW.RX ?_ | refine DW.WX' ?_)
    | ((with_reducible apply DW.k_any); first
                | refine DW.R ?_ | refine DW.R' ?_ | refine DW.W ?_ | refine DW.W' ?_
                | (refine DW.known rfl ?_; (with_reducible first | apply DW.sx 2 | apply DW.sxN 2); (iterate 2 (focus (simp only [ft, nm, Nat.reduceAdd, Nat.reduceBEq, List.getElem?_cons_zero, List.getElem?_cons_succ]; exact rfl))); (focus (intro X V; simp only [ft, nm, Nat.reduceAdd, Nat.reduceBEq]; (try (refine AP.Y ?_; dsimp only)); (first  | fail); (try simp only [nx, Nat.reduceAdd, Nat.reduceSub, BEq.rfl]); refine AP.nil ?_; (first | refine ⟨trivial, rfl, ?_⟩ | refine ⟨rfl, rfl, ?_⟩); (repeat' (first | exact Mg.nil | apply Mg.keep rfl | apply Mg.take rfl)); done)); (focus (refine Exists.intro (fun _ => 0) ?_; apply Exists.intro; (repeat' (first | exact Mg.nil | apply Mg.keep rfl | apply Mg.take rfl)); done)); (iterate 2 (focus (exact rfl))))
                | ((fail_if_success refine DW.known rfl ?_); refine DW.G (fun hg => ?_) (fun hg => ?_))
    )
    ) <;> (try simp only [hma, hmb, nx, q4, rn, fq, Nat.mul_one, Bool.and_true, Bool.and_false, Nat.reduceBEq, Nat.reduceAdd, Nat.reduceSub, BEq.rfl]))
    | ((with_reducible apply AP.k_nil); first | (refine AP.nil (hQ' _ ?_); clear hQ' Q') | refine AP.nil ?_)
    | ((with_reducible apply CP.k_drw); refine cp_drwX fun Q' hQ' => ?_)
    | ((with_reducible apply CP.k_drw1); refine cp_drawX ?_)
    | ((with_reducible apply DW.k_nil); refine DW.nl ?_; first | (refine hQ' _ ?_; clear hQ' Q') | skip)
    | ((with_reducible apply CP.k_reg); refine cp_regG fun Q' hQ' => ?_)
      | (with_reducible apply CP.k_reg1; refine cp_region ?_)
      | ((with_reducible apply CP.k_cond); first | refine cp_condT rfl ?_ | refine cp_condF rfl ?_ | refine cp_cond rfl (fun hc => ?_) (fun hc => ?_))
      | refine CP.go ?_
      | (simp only [List.append_eq, List.cons_append, List.nil_append]))
  (exact RetQ.A [] (by exact ⟨rfl, rfl⟩))
end Go.Proofs.Ytnjfchigdpifmaa

namespace Go.Proofs.Ytnjfchigdpifmaa
set_option linter.unusedVariables false
set_option linter.unusedSimpArgs false
set_option maxHeartbeats 8000000
open Go.RowKit
set_option maxRecDepth 100000
abbrev Wst := Bool × List UInt8
theorem wtag_ac (st : Wst) (t : List UInt8) (hst : st.2.length ≤ 65536) (ht : t.length = 32) : AC Try.prog 48 [.bp 0 0 0, tg t] [wB st] (fun v bs' => v = .bp 0 0 0 ∧ bs' = [wB (addS st t)]) := by
  have h2 := add_ac st [t] hst (by simp) (by simp; omega)
  rw [show [t].foldl addS st = addS st t from rfl] at h2
  have htm := tagC_map ht
  simp only [tagC, List.map_cons, List.map_nil] at htm
  refine AC.N Try.func48 Try.ntmps48 ?_
  intro X hρ hmks
  simp only [nx, Nat.reduceAdd, Nat.reduceSub, BEq.rfl]
  refine CP.gh gh_slot ?_; simp only [nx, Nat.reduceAdd, Nat.reduceSub, BEq.rfl]
  repeat' (first
    | ((first
    | ((with_reducible apply AP.k_any); first
            | refine AP.S ?_
            | refine AP.A ?_ | refine AP.AB 0 ?_ | refine AP.AB 1 ?_ | refine AP.AL ?_
            | refine AP.LB ?_ | refine AP.TB ?_ | refine AP.IX ?_ | refine AP.SF ?_ | refine AP.SV ?_ | refine AP.CV ?_ | refine AP.CO ?_ | refine AP.FV ?_  | refine AP.PF ?_)
    ) <;> (try simp only [htm, nx, q4, rn, fq, Nat.mul_one, Bool.and_true, Bool.and_false, Nat.reduceBEq, Nat.reduceAdd, Nat.reduceSub, BEq.rfl]))
    | ((with_reducible apply AP.k_nil); first | (refine AP.nil (hQ' _ ?_); clear hQ' Q') | refine AP.nil ?_)
    | ((with_reducible apply CP.k_reg); refine cp_regG fun Q' hQ' => ?_)
      | (with_reducible apply CP.k_reg1; refine cp_region ?_)
      | ((with_reducible apply CP.k_cond); first | refine cp_condT rfl ?_ | refine cp_condF rfl ?_ | refine cp_cond rfl (fun hc => ?_) (fun hc => ?_))
      | refine CP.go ?_
      | (simp only [List.append_eq, List.cons_append, List.nil_append]))
  (exact RetQ.A [(0, 0)] (by exact ⟨rfl, rfl⟩))
theorem headQ_ac (p : Pkt) (s0 s1 s2 s3 s4 s5 s6 : Wst)
    (h0 : AC Try.prog 75 [] [] (fun v bs' => v = .bp 0 0 0 ∧ bs' = [wB s0]))
    (i1 : AC Try.prog 76 [.bp 0 0 0, I p.frm] [wB s0] (fun v bs' => v = .bp 0 0 0 ∧ bs' = [wB s1]))
    (i2 : AC Try.prog 76 [.bp 0 0 0, I p.to] [wB s1] (fun v bs' => v = .bp 0 0 0 ∧ bs' = [wB s2]))
    (i3 : AC Try.prog 76 [.bp 0 0 0, I p.epoch] [wB s2] (fun v bs' => v = .bp 0 0 0 ∧ bs' = [wB s3]))
    (i4 : AC Try.prog 76 [.bp 0 0 0, I p.boot] [wB s3] (fun v bs' => v = .bp 0 0 0 ∧ bs' = [wB s4]))
    (i5 : AC Try.prog 76 [.bp 0 0 0, I p.seqn] [wB s4] (fun v bs' => v = .bp 0 0 0 ∧ bs' = [wB s5]))
    (i6 : AC Try.prog 77 [.bp 0 0 0, bs none p.body] [wB s5] (fun v bs' => v = .bp 0 0 0 ∧ bs' = [wB s6])) :
    AC Try.prog 47 [.ag (eP p)] [] (fun v bs' => v = .bp 0 0 0 ∧ bs' = [wB s6]) := by
  refine AC.N Try.func47 Try.ntmps47 ?_
  intro X hρ hmks
  simp only [nx, Nat.reduceAdd, Nat.reduceSub, BEq.rfl]
  refine CP.gh gh_slot ?_; simp only [nx, Nat.reduceAdd, Nat.reduceSub, BEq.rfl]
  refine CP.gh gh_slot ?_; simp only [nx, Nat.reduceAdd, Nat.reduceSub, BEq.rfl]
  refine CP.gh gh_slot ?_; simp only [nx, Nat.reduceAdd, Nat.reduceSub, BEq.rfl]
  repeat' (first
    | ((first
    | ((with_reducible apply AP.k_any); first
            | refine AP.S ?_
            | refine AP.A ?_ | refine AP.AB 0 ?_ | refine AP.AB 1 ?_ | refine AP.AL ?_
            | refine AP.LB ?_ | refine AP.TB ?_ | refine AP.IX ?_ | refine AP.SF ?_ | refine AP.SV ?_ | refine AP.CV ?_ | refine AP.CO ?_ | refine AP.FV ?_ | ((with_reducible apply AP.k_any); refine AP.B 0 (i1) ?_) | ((with_reducible apply AP.k_any); refine AP.B 0 (i2) ?_) | ((with_reducible apply AP.k_any); refine AP.B 0 (i3) ?_) | ((with_reducible apply AP.k_any); refine AP.B 0 (i4) ?_) | ((with_reducible apply AP.k_any); refine AP.B 0 (i5) ?_) | ((with_reducible apply AP.k_any); refine AP.B 0 (i6) ?_) | ((with_reducible apply AP.k_any); refine AP.B 2 (h0) ?_) | refine AP.PF ?_)
      | ((with_reducible apply DW.k_any); first
        | refine DW.R ?_ | refine DW.R' ?_ | refine DW.W ?_ | refine DW.W' ?_ | refine DW.RA ?_ | refine DW.A 0 ?_ | refine DW.A 1 ?_ | refine DW.A 2 ?_ | refine DW.A' 0 ?_ | refine DW.A' 2 ?_ | ((fail_if_success refine DW.known rfl ?_); refine DW.G (fun hg => ?_) (fun hg => ?_))
        | refine DW.RX ?_ | refine DW.WX ?_ | refine DW.WX' ?_)
    | ((with_reducible apply DW.k_any); first
                | refine DW.R ?_ | refine DW.R' ?_ | refine DW.W ?_ | refine DW.W' ?_
                | (refine DW.known rfl ?_; (with_reducible first | apply DW.sx 2 | apply DW.sxN 2); (iterate 2 (focus (simp only [ft, nm, Nat.reduceAdd, Nat.reduceBEq, List.getElem?_cons_zero, List.getElem?_cons_succ]; exact rfl))); (focus (intro X V; simp only [ft, nm, Nat.reduceAdd, Nat.reduceBEq]; (try (refine AP.Y ?_; dsimp only)); (first | ((with_reducible apply AP.k_any); refine AP.B 0 (i1) ?_) | ((with_reducible apply AP.k_any); refine AP.B 0 (i2) ?_) | ((with_reducible apply AP.k_any); refine AP.B 0 (i3) ?_) | ((with_reducible apply AP.k_any); refine AP.B 0 (i4) ?_) | ((with_reducible apply AP.k_any); refine AP.B 0 (i5) ?_) | ((with_reducible apply AP.k_any); refine AP.B 0 (i6) ?_) | ((with_reducible apply AP.k_any); refine AP.B 2 (h0) ?_) | fail); (try simp only [nx, Nat.reduceAdd, Nat.reduceSub, BEq.rfl]); refine AP.nil ?_; (first | refine ⟨trivial, rfl, ?_⟩ | refine ⟨rfl, rfl, ?_⟩); (repeat' (first | exact Mg.nil | apply Mg.keep rfl | apply Mg.take rfl)); done)); (focus (refine Exists.intro (fun _ => 0) ?_; apply Exists.intro; (repeat' (first | exact Mg.nil | apply Mg.keep rfl | apply Mg.take rfl)); done)); (iterate 2 (focus (exact rfl))))
                | ((fail_if_success refine DW.known rfl ?_); refine DW.G (fun hg => ?_) (fun hg => ?_))
    )
    ) <;> (try simp only [ nx, q4, rn, fq, Nat.mul_one, Bool.and_true, Bool.and_false, Nat.reduceBEq, Nat.reduceAdd, Nat.reduceSub, BEq.rfl]))
    | ((with_reducible apply AP.k_nil); first | (refine AP.nil (hQ' _ ?_); clear hQ' Q') | refine AP.nil ?_)
    | ((with_reducible apply CP.k_drw); refine cp_drwX fun Q' hQ' => ?_)
    | ((with_reducible apply CP.k_drw1); refine cp_drawX ?_)
    | ((with_reducible apply DW.k_nil); refine DW.nl ?_; first | (refine hQ' _ ?_; clear hQ' Q') | skip)
    | ((with_reducible apply CP.k_reg); refine cp_regG fun Q' hQ' => ?_)
      | (with_reducible apply CP.k_reg1; refine cp_region ?_)
      | ((with_reducible apply CP.k_cond); first | refine cp_condT rfl ?_ | refine cp_condF rfl ?_ | refine cp_cond rfl (fun hc => ?_) (fun hc => ?_))
      | refine CP.go ?_
      | (simp only [List.append_eq, List.cons_append, List.nil_append]))
  (exact RetQ.A [(1, 1)] (by exact ⟨rfl, rfl⟩))
def headS (p : Pkt) : List UInt8 := intS p.frm ++ intS p.to ++ intS p.epoch ++ intS p.boot ++ intS p.seqn ++ putS p.body.length 4 ++ p.body
theorem headS_len (p : Pkt) : (headS p).length = 44 + p.body.length := by
  have (n : Int) : (intS n).length = 8 := putS_length _ _
  simp [headS, this, putS_length]; omega
theorem addS_ok {x b : List UInt8} (h : x.length + b.length ≤ 65536) : addS (false, x) b = (false, x ++ b) := by
  rw [addS, if_neg (by simp; omega)]
theorem head_ac (p : Pkt) (hp : p.body.length ≤ 60000) : AC Try.prog 47 [.ag (eP p)] [] (fun v bs' => v = .bp 0 0 0 ∧ bs' = [wB (false, headS p)]) := by
  have hi (n : Int) : (intS n).length = 8 := putS_length _ _
  have e : addS (addS (addS (addS (addS (addS (addS (false, []) (intS p.frm)) (intS p.to)) (intS p.epoch)) (intS p.boot)) (intS p.seqn)) (putS p.body.length 4)) p.body = (false, headS p) := by
    rw [addS_ok, addS_ok, addS_ok, addS_ok, addS_ok, addS_ok, addS_ok]
    · rfl
    all_goals (simp only [List.length_append, List.length_nil, hi, putS_length]; omega)
  have g0 : ((false, []) : Wst).2.length ≤ 65536 := by simp
  have g1 := addS_len (b := intS p.frm) g0
  have g2 := addS_len (b := intS p.to) g1
  have g3 := addS_len (b := intS p.epoch) g2
  have g4 := addS_len (b := intS p.boot) g3
  have g5 := addS_len (b := intS p.seqn) g4
  have := headQ_ac p _ _ _ _ _ _ _ wnew_ac (wint_ac _ _ g0) (wint_ac _ _ g1) (wint_ac _ _ g2) (wint_ac _ _ g3) (wint_ac _ _ g4) (wbytes_ac _ p.body g5 (by omega))
  rw [e] at this
  exact this
end Go.Proofs.Ytnjfchigdpifmaa

namespace Go.Proofs.Ytnjfchigdpifmaa
set_option linter.unusedVariables false
set_option linter.unusedSimpArgs false
open Go.RowKit
set_option maxRecDepth 100000
theorem re_bytes {w : World} {φ : Fi} {κ : Ka} {R : Nat → Prop} : ∀ l : List UInt8, RE w φ κ R 1 (l.map eB) (l.map fun b => Value.int .u8 (b.toNat : Int)) Ct.z
  | [] => .nil
  | b :: l => by
    have := RE.cons (k := 1) (c := eB b) (us := [Value.int .u8 (b.toNat : Int)]) (S := Ct.z) (T := Ct.z) (U := Ct.z) (.cons (S := Ct.z) (T := Ct.z) (.sc rfl) .nil fun _ => rfl) rfl ⟨fun u hu => by simp at hu; subst hu; rfl, fun x hx => by simp [eB] at hx; subst hx; rfl⟩ (re_bytes (w := w) (φ := φ) (κ := κ) (R := R) l) fun _ => rfl
    exact this
section
variable {X : Cx} {s : AS} {ops : Array Oper} {rest : List Oper} {o : Oper} {Q : Exit → AS → Prop}
theorem ap_convS {U T e : Nat} {x : Operand} {sb : ByteArray} {iu i ie : TI} (hg : o.guard = none) (ho : o.op = .convert U T x) (hx : aev s x = .sc (.string sb)) (hU : tt[U]? = some iu) (hku : iu.kd = .sr) (hT : tt[T]? = some i) (hk : i.kd = .sl e) (he : tt[e]? = some ie) (hke : ie.kd = .it .u8) (hn : sb.size ≤ 1000000)
    (K : AP Try.prog X ops Q rest (AS.put ⟨s.t, (newS s.b (.r e 1 (sb.data.toList.map eB))).2⟩ o.dst (.hd (newS s.b (.r e 1 (sb.data.toList.map eB))).1.1 (newS s.b (.r e 1 (sb.data.toList.map eB))).1.2))) : AP Try.prog X ops Q (o :: rest) s :=
  .run hg (fun X φ κ f a w h => by
    have hx' := h.evc hx
    have hrun : (execOp a.eval o).run Try.prog w = .ok (.value (.slice (some ⟨w.heap.size, 0, none⟩) sb.size (grownCap w sb.size 0 e))) (Lib.bytesWorld w e sb) := by
      simp only [execOp, ho, hx', Sem.run_bind, Lib.run_convert_string_bytes w U T e sb (ty_sr hU hku) (ty_sl hT hk) (ty_it he hke)]; rfl
    have hge := grownCap_ge w sb.size 0 e
    have hcm : grownCap w sb.size 0 e ≤ maxLen := grownCap_le_maxLen w sb.size 0 e (by unfold maxLen; omega)
    have hcs : (Lib.bytesCells w e sb).size = grownCap w sb.size 0 e := by
      have : sb.data.size = sb.size := rfl
      simp [Lib.bytesCells]; omega
    have hmk : Mk (Lib.bytesWorld w e sb) w.heap.size (Lib.bytesCells w e sb) e := ⟨_, Lib.bytesWorld_at_new w e sb, .inr (Nat.le_refl _)⟩
    have hold : ∀ x, x < w.heap.size → (Lib.bytesWorld w e sb).heap[x]? = w.heap[x]? := fun x hx => Lib.bytesWorld_at_old w e sb x hx
    have hlr : (sb.data.toList.map eB).length = sb.size := by simp
    have htk : (Lib.bytesCells w e sb).toList.take ((sb.data.toList.map eB).length * 1) = sb.data.toList.map fun b => Value.int .u8 (b.toNat : Int) := by
      rw [hlr, Nat.mul_one]
      have : sb.data.size = sb.size := rfl
      simp only [Lib.bytesCells, Array.toList_append, Array.toList_map]
      exact List.take_left' (by simp [this])
    generalize hW : Lib.bytesWorld w e sb = w' at *
    have hos : w'.os = w.os := by rw [← hW]; rfl
    have htp : w'.tape = w.tape := by rw [← hW]; rfl
    have hou : w'.output = w.output := by rw [← hW]; rfl
    have hsz : w.heap.size < w'.heap.size := by rw [← hW, Lib.bytesWorld_size]; omega
    obtain ⟨φ', κ', f', e1, e2, e3, e4, e5⟩ := h.newS_ (w' := w') (B := .r e 1 (sb.data.toList.map eB)) (g := fun x => (if x = w.heap.size then 1 else 0) + Ct.z x) (L' := Ct.z) none (some (.slice (some ⟨w.heap.size, 0, none⟩) sb.size (grownCap w sb.size 0 e))) (by omega) hos htp hou
      (fun x hx _ => hold x hx)
      (fun φ' κ' j u a b c d => .r d (by
        have := RV.om (e := e) (cap := grownCap w sb.size 0 e) (cur := Lib.bytesCells w e sb) (re_bytes (w := w') (φ := φ') (κ := κ') (R := X.R) sb.data.toList) hmk (by rw [hlr]; exact hge) hcm (by rw [hcs, Nat.mul_one]) htk (T := fun x => (if x = w.heap.size then 1 else 0) + Ct.z x) fun _ => rfl
        rw [hlr] at this; exact this))
      (fun x hx => by simp only [Ct.z]; rw [if_neg (by omega)]; omega)
      (fun x hx => by simp only [Ct.z]; split <;> simp_all)
    exact ⟨_, _, φ', κ', f', hrun, e5.puts o.dst (.hd e4 rfl)⟩) K
end
theorem AP.CS {X : Cx} {s : AS} {ops : Array Oper} {rest : List Oper} {Q : Exit → AS → Prop} {U T e : Nat} {x : Operand} {sb : ByteArray} {iu i ie : TI} {d : Option Nat} {ty : Nat} {pos : String} {aft : Array Edge}
    (K : AP Try.prog X ops Q rest (AS.put ⟨s.t, (newS s.b (.r e 1 (sb.data.toList.map eB))).2⟩ d (.hd (newS s.b (.r e 1 (sb.data.toList.map eB))).1.1 (newS s.b (.r e 1 (sb.data.toList.map eB))).1.2)))
    (hx : aev s x = .sc (.string sb) := by exact rfl) (hU : tt[U]? = some iu := by exact rfl) (hku : iu.kd = .sr := by exact rfl) (hT : tt[T]? = some i := by exact rfl) (hk : i.kd = .sl e := by exact rfl) (he : tt[e]? = some ie := by exact rfl) (hke : ie.kd = .it .u8 := by exact rfl) (hn : sb.size ≤ 1000000 := by omega) :
    AP Try.prog X ops Q (⟨d, .convert U T x, ty, pos, aft, none⟩ :: rest) s := ap_convS rfl rfl hx hU hku hT hk he hke hn K
end Go.Proofs.Ytnjfchigdpifmaa

namespace Go.Proofs.Ytnjfchigdpifmaa
set_option linter.unusedVariables false
set_option linter.unusedSimpArgs false
set_option maxHeartbeats 8000000
open Go.RowKit
set_option maxRecDepth 100000
def formS (s : ByteArray) (l : List Int) : List UInt8 := s.data.toList ++ [0] ++ numS l
def deriveS (key : List UInt8) (s : ByteArray) (l : List Int) : List UInt8 := hmacS key (formS s l)
theorem hmacS_len (key b : List UInt8) : (hmacS key b).length = 32 := rfl
theorem formS_take (s : ByteArray) (l : List Int) {i : Nat} (h : i < l.length) : formS s (l.take (i + 1)) = formS s (l.take i) ++ intS l[i] := by
  rw [formS, List.take_succ_eq_append_getElem h, numS_snoc, ← List.append_assoc]; rfl
theorem formS_len (s : ByteArray) (l : List Int) : (formS s l).length = s.size + 1 + 8 * l.length := by
  have : s.data.toList.length = s.size := by simp
  simp only [formS, List.length_append, numS_length, this]; rfl
theorem hderive_ac (key : List UInt8) (s : ByteArray) (l : List Int) (hk : key.length ≤ 100000) (hs : s.size ≤ 1000) (hl : l.length ≤ 1000) : AC Try.prog 68 [bs none key, .sc (.string s), .sl none 1 (l.map eI)] [] (fun v bs' => v = bs none (deriveS key s l) ∧ bs' = []) := by
  have hsl : s.data.toList.length = s.size := by simp
  have h1 := wcat2_ac s.data.toList [0] (by simp; omega)
  rw [show s.data.toList ++ [0] = formS s (l.take 0) by simp [formS, numS]] at h1
  have hfl := formS_len s l
  have h5 := hmac_ac key (formS s l) (by omega) (by omega)
  have htl := hmacS_len key (formS s l)
  have htm := tagC_map htl
  unfold deriveS
  generalize hmacS key (formS s l) = t at *
  refine AC.N Try.func68 Try.ntmps68 ?_
  intro X hρ hmks
  simp only [nx, Nat.reduceAdd, Nat.reduceSub, BEq.rfl]
  refine CP.gh gh_slot ?_; simp only [nx, Nat.reduceAdd, Nat.reduceSub, BEq.rfl]
  refine CP.gh gh_slot ?_; simp only [nx, Nat.reduceAdd, Nat.reduceSub, BEq.rfl]
  refine CP.gh gh_slot ?_; simp only [nx, Nat.reduceAdd, Nat.reduceSub, BEq.rfl]
  refine CP.gh gh_slot ?_; simp only [nx, Nat.reduceAdd, Nat.reduceSub, BEq.rfl]
  repeat' (first
    | ((first
    | ((with_reducible apply AP.k_any); first
            | refine AP.S ?_
            | refine AP.E ?_
            | refine AP.T ?_
            | refine AP.A ?_ | refine AP.AB 0 ?_ | refine AP.AB 1 ?_ | refine AP.AL ?_
            | refine AP.LB ?_ | refine AP.TB ?_ | refine AP.IX ?_ | refine AP.SF ?_ | refine AP.SV ?_ | refine AP.CV ?_ | refine AP.CO ?_ | refine AP.FV ?_ | refine AP.CS ?_ | ((with_reducible apply AP.k_any); refine AP.C (h1) ?_) | refine AP.PF ?_)
    ) <;> (try simp only [ nx, q4, rn, fq, Nat.mul_one, Bool.and_true, Bool.and_false, Nat.reduceBEq, Nat.reduceAdd, Nat.reduceSub, BEq.rfl]))
    | ((with_reducible apply AP.k_nil); first | (refine AP.nil (hQ' _ ?_); clear hQ' Q') | refine AP.nil ?_)
    | ((with_reducible apply CP.k_reg); refine cp_regG fun Q' hQ' => ?_)
      | (with_reducible apply CP.k_reg1; refine cp_region ?_)
      | ((with_reducible apply CP.k_cond); first | refine cp_condT rfl ?_ | refine cp_condF rfl ?_ | refine cp_cond rfl (fun hc => ?_) (fun hc => ?_))
      | refine CP.go ?_
      | (simp only [List.append_eq, List.cons_append, List.nil_append]))
  refine cp_loopS [7, 9, 18, 19, 20, 21, 22, 23, 24, 25, 26, 27, 28] (fun a : Nat × Nat => l.length - a.1) (fun a => a.1 ≤ l.length) (fun a => [(18, I a.1), (7, bs none (formS s (l.take a.1))), (12, .de), (13, .de)]) (fun a => [(0, ⟨a.2, .x⟩)]) (0, 2) (Nat.zero_le _) (by exact Gh.W) ?_
  clear h1
  rintro ⟨i, v⟩ hi
  simp only [setT, deT, setB, List.set_cons_succ, List.set_cons_zero]
  dsimp only at hi
  by_cases hlt : i < l.length
  · have hw : IntKind.i64.wrap ((i : Int) + 1) = ((i + 1 : Nat) : Int) := wrap_i64 (by omega) (by omega)
    have d1 : decide ((i : Int) < (l.length : Int)) = true := by simp; omega
    have hx : (l.map eI)[i]? = some (eI l[i]) := by simp [hlt]
    have hft := formS_take s l hlt
    have hln := formS_len s (l.take i)
    rw [List.length_take] at hln
    have h3 := put64_ac (IntKind.u64.wrap l[i]).toNat
    rw [← u64_nn] at h3
    have hil : (intS l[i]).length = 8 := intS_length _
    rw [show putS (IntKind.u64.wrap l[i]).toNat 8 = intS l[i] from rfl] at h3
    generalize l[i] = n at *
    generalize intS n = z at *
    have h4 := wcat2_ac (formS s (l.take i)) z (by omega)
    rw [← hft] at h4
    generalize formS s (l.take i) = F at *
    repeat' (first
      | ((first
      | ((with_reducible apply AP.k_any); first
              | refine AP.S ?_
              | refine AP.E ?_
              | refine AP.T ?_
              | refine AP.A ?_ | refine AP.AB 0 ?_ | refine AP.AB 1 ?_ | refine AP.AL ?_
              | refine AP.LB ?_ | refine AP.TB ?_ | refine AP.IX ?_ | refine AP.SF ?_ | refine AP.SV ?_ | refine AP.CV ?_ | refine AP.CO ?_ | refine AP.FV ?_ | ((with_reducible apply AP.k_any); refine AP.C (h3) ?_) | ((with_reducible apply AP.k_any); refine AP.C (h4) ?_) | refine AP.PF ?_)
      ) <;> (try simp only [d1, nx, q4, rn, fq, Nat.mul_one, Bool.and_true, Bool.and_false, Nat.reduceBEq, Nat.reduceAdd, Nat.reduceSub, BEq.rfl]))
      | ((with_reducible apply AP.k_nil); first | (refine AP.nil (hQ' _ ?_); clear hQ' Q') | refine AP.nil ?_)
      | ((with_reducible apply CP.k_reg); refine cp_regG fun Q' hQ' => ?_)
        | (with_reducible apply CP.k_reg1; refine cp_region ?_)
        | ((with_reducible apply CP.k_cond); first | refine cp_condT rfl ?_ | refine cp_condF rfl ?_ | refine cp_cond rfl (fun hc => ?_) (fun hc => ?_))
        | refine CP.go ?_
        | (simp only [List.append_eq, List.cons_append, List.nil_append]))
    simp only [hw]
    exact ⟨(i + 1, v + 1), by (dsimp only; omega), by (dsimp only; omega), by (dsimp only; exact Gh.W)⟩
  · obtain rfl : i = l.length := by omega
    have d1 : decide ((l.length : Int) < (l.length : Int)) = false := by simp
    rw [List.take_of_length_le (Nat.le_refl _)]
    generalize formS s l = F at *
    repeat' (first
      | ((first
      | ((with_reducible apply AP.k_any); first
              | refine AP.S ?_
              | refine AP.E ?_
              | refine AP.T ?_
              | refine AP.A ?_ | refine AP.AB 0 ?_ | refine AP.AB 1 ?_ | refine AP.AL ?_
              | refine AP.LB ?_ | refine AP.TB ?_ | refine AP.IX ?_ | refine AP.SF ?_ | refine AP.SV ?_ | refine AP.CV ?_ | refine AP.CO ?_ | refine AP.FV ?_  | refine AP.PF ?_)
      ) <;> (try simp only [d1, htm, nx, q4, rn, fq, Nat.mul_one, Bool.and_true, Bool.and_false, Nat.reduceBEq, Nat.reduceAdd, Nat.reduceSub, BEq.rfl]))
      | ((with_reducible apply AP.k_nil); first | (refine AP.nil (hQ' _ ?_); clear hQ' Q') | refine AP.nil ?_)
      | ((with_reducible apply CP.k_reg); refine cp_regG fun Q' hQ' => ?_)
        | (with_reducible apply CP.k_reg1; refine cp_region ?_)
        | ((with_reducible apply CP.k_cond); first | refine cp_condT rfl ?_ | refine cp_condF rfl ?_ | refine cp_cond rfl (fun hc => ?_) (fun hc => ?_))
        | refine CP.go ?_
        | (simp only [List.append_eq, List.cons_append, List.nil_append]))
    (exact RetQ.A [] (by exact ⟨rfl, rfl⟩))
end Go.Proofs.Ytnjfchigdpifmaa

namespace Go.Proofs.Ytnjfchigdpifmaa
set_option linter.unusedVariables false
set_option linter.unusedSimpArgs false
set_option maxHeartbeats 8000000
open Go.RowKit
set_option maxRecDepth 100000
def lkS : ByteArray := ⟨#[108, 105, 110, 107]⟩
def tagS (root : List UInt8) (p : Pkt) : List UInt8 := hmacS (deriveS root lkS [p.frm, p.to, p.epoch]) (headS p)
theorem tagS_len (root : List UInt8) (p : Pkt) : (tagS root p).length = 32 := rfl
theorem done_ac (b : List UInt8) (hb : b.length ≤ 65536) : AC Try.prog 49 [.bp 0 0 0] [wB (false, b)] (fun v bs' => v = .tu [bs none b, I 0] ∧ bs' = [wD (false, b)]) := wdone_ac (false, b) hb
theorem ltag_ac (root : List UInt8) (p : Pkt) (hr : root.length ≤ 10000) (hp : p.body.length ≤ 60000) : AC Try.prog 40 [bs none root, .ag (eP p)] [] (fun v bs' => v = tg (tagS root p) ∧ bs' = []) := by
  have hl := headS_len p
  have h1 := head_ac p hp
  have h2 := done_ac (headS p) (by omega)
  have h3 := hderive_ac root lkS [p.frm, p.to, p.epoch] (by omega) (by decide) (by simp)
  have hd : (deriveS root lkS [p.frm, p.to, p.epoch]).length = 32 := hmacS_len _ _
  have h4 := hmac_ac (deriveS root lkS [p.frm, p.to, p.epoch]) (headS p) (by omega) (by omega)
  unfold tagS
  generalize deriveS root lkS [p.frm, p.to, p.epoch] = k at *
  generalize headS p = hd at *
  generalize hmacS k hd = t at *
  refine AC.N Try.func40 Try.ntmps40 ?_
  intro X hρ hmks
  simp only [nx, Nat.reduceAdd, Nat.reduceSub, BEq.rfl]
  refine CP.gh gh_slot ?_; simp only [nx, Nat.reduceAdd, Nat.reduceSub, BEq.rfl]
  refine CP.gh gh_slot ?_; simp only [nx, Nat.reduceAdd, Nat.reduceSub, BEq.rfl]
  refine CP.gh gh_slot ?_; simp only [nx, Nat.reduceAdd, Nat.reduceSub, BEq.rfl]
  refine CP.gh gh_slot ?_; simp only [nx, Nat.reduceAdd, Nat.reduceSub, BEq.rfl]
  repeat' (first
    | ((first
    | ((with_reducible apply AP.k_any); first
            | refine AP.S ?_
            | refine AP.A ?_ | refine AP.AB 0 ?_ | refine AP.AB 1 ?_ | refine AP.AL ?_
            | refine AP.LB ?_ | refine AP.TB ?_ | refine AP.IX ?_ | refine AP.SF ?_ | refine AP.SV ?_ | refine AP.CV ?_ | refine AP.CO ?_ | refine AP.FV ?_ | ((with_reducible apply AP.k_any); refine AP.B 2 (h1) ?_) | ((with_reducible apply AP.k_any); refine AP.B 0 (h2) ?_) | ((with_reducible apply AP.k_any); refine AP.C (h3) ?_) | ((with_reducible apply AP.k_any); refine AP.C (h4) ?_) | refine AP.PF ?_)
    ) <;> (try simp only [ nx, q4, rn, fq, Nat.mul_one, Bool.and_true, Bool.and_false, Nat.reduceBEq, Nat.reduceAdd, Nat.reduceSub, BEq.rfl]))
    | ((with_reducible apply AP.k_nil); first | (refine AP.nil (hQ' _ ?_); clear hQ' Q') | refine AP.nil ?_)
    | ((with_reducible apply CP.k_reg); refine cp_regG fun Q' hQ' => ?_)
      | (with_reducible apply CP.k_reg1; refine cp_region ?_)
      | ((with_reducible apply CP.k_cond); first | refine cp_condT rfl ?_ | refine cp_condF rfl ?_ | refine cp_cond rfl (fun hc => ?_) (fun hc => ?_))
      | refine CP.go ?_
      | (simp only [List.append_eq, List.cons_append, List.nil_append]))
  (exact RetQ.A [] (by exact ⟨rfl, rfl⟩))
theorem right_ac (root : List UInt8) (p : Pkt) (hr : root.length ≤ 10000) (hp : p.body.length ≤ 60000) (ht : p.tag.length = 32) : AC Try.prog 15 [bs none root, .ag (eP p)] [] (fun v bs' => v = B (decide (p.tag = tagS root p)) ∧ bs' = []) := by
  have h1 := ltag_ac root p hr hp
  have h2 := hsame_ac p.tag (tagS root p) ht (tagS_len root p)
  generalize decide (p.tag = tagS root p) = r at *
  generalize tagS root p = t at *
  refine AC.N Try.func15 Try.ntmps15 ?_
  intro X hρ hmks
  simp only [nx, Nat.reduceAdd, Nat.reduceSub, BEq.rfl]
  refine CP.gh gh_slot ?_; simp only [nx, Nat.reduceAdd, Nat.reduceSub, BEq.rfl]
  repeat' (first
    | ((first
    | ((with_reducible apply AP.k_any); first
            | refine AP.S ?_
            | refine AP.A ?_ | refine AP.AB 0 ?_ | refine AP.AB 1 ?_ | refine AP.AL ?_
            | refine AP.LB ?_ | refine AP.TB ?_ | refine AP.IX ?_ | refine AP.SF ?_ | refine AP.SV ?_ | refine AP.CV ?_ | refine AP.CO ?_ | refine AP.FV ?_  | refine AP.PF ?_)
      | ((with_reducible apply DW.k_any); first
        | refine DW.R ?_ | refine DW.R' ?_ | refine DW.W ?_ | refine DW.W' ?_ | refine DW.RA ?_ | refine DW.A 0 ?_ | refine DW.A 1 ?_ | refine DW.A 2 ?_ | refine DW.A' 0 ?_ | refine DW.A' 2 ?_ | ((fail_if_success refine DW.known rfl ?_); refine DW.G (fun hg => ?_) (fun hg => ?_))
        | refine DW.RX ?_ | refine DW.WX ?_ | refine DW.WX' ?_)
    | ((with_reducible apply DW.k_any); first
                | refine DW.R ?_ | refine DW.R' ?_ | refine DW.W ?_ | refine DW.W' ?_
                | (refine DW.known rfl ?_; (with_reducible first | apply DW.sx 2 | apply DW.sxN 2); (iterate 2 (focus (simp only [ft, nm, Nat.reduceAdd, Nat.reduceBEq, List.getElem?_cons_zero, List.getElem?_cons_succ]; exact rfl))); (focus (intro X V; simp only [ft, nm, Nat.reduceAdd, Nat.reduceBEq]; (try (refine AP.Y ?_; dsimp only)); (first  | fail); (try simp only [nx, Nat.reduceAdd, Nat.reduceSub, BEq.rfl]); refine AP.nil ?_; (first | refine ⟨trivial, rfl, ?_⟩ | refine ⟨rfl, rfl, ?_⟩); (repeat' (first | exact Mg.nil | apply Mg.keep rfl | apply Mg.take rfl)); done)); (focus (refine Exists.intro (fun _ => 0) ?_; apply Exists.intro; (repeat' (first | exact Mg.nil | apply Mg.keep rfl | apply Mg.take rfl)); done)); (iterate 2 (focus (exact rfl))))
                | ((fail_if_success refine DW.known rfl ?_); refine DW.G (fun hg => ?_) (fun hg => ?_))
    )
    ) <;> (try simp only [ nx, q4, rn, fq, Nat.mul_one, Bool.and_true, Bool.and_false, Nat.reduceBEq, Nat.reduceAdd, Nat.reduceSub, BEq.rfl]))
    | ((with_reducible apply AP.k_nil); first | (refine AP.nil (hQ' _ ?_); clear hQ' Q') | refine AP.nil ?_)
    | ((with_reducible apply CP.k_drw); refine cp_drwX fun Q' hQ' => ?_)
    | ((with_reducible apply CP.k_drw1); refine cp_drawX ?_)
    | ((with_reducible apply DW.k_nil); refine DW.nl ?_; first | (refine hQ' _ ?_; clear hQ' Q') | skip)
    | ((with_reducible apply CP.k_reg); refine cp_regG fun Q' hQ' => ?_)
      | (with_reducible apply CP.k_reg1; refine cp_region ?_)
      | ((with_reducible apply CP.k_cond); first | refine cp_condT rfl ?_ | refine cp_condF rfl ?_ | refine cp_cond rfl (fun hc => ?_) (fun hc => ?_))
      | refine CP.go ?_
      | (simp only [List.append_eq, List.cons_append, List.nil_append]))
  (exact RetQ.A [] (by exact ⟨rfl, rfl⟩))
abbrev ePO (p : Pkt) : List AV := [I p.frm, I p.to, I p.epoch, I p.boot, I p.seqn, bs (some tU) p.body] ++ tagC p.tag
theorem print_ac (p : Pkt) (hp : p.body.length ≤ 60000) (ht : p.tag.length = 32) : AC Try.prog 18 [.ag (eP p)] [] (fun v bs' => v = .tu [if mayP p then bs none (headS p ++ p.tag) else bs none [], I (if mayP p then 0 else 2)] ∧ bs' = []) := by
  have hl := headS_len p
  have h0 := mayP_ac p
  have h1 := head_ac p hp
  have h2 := wtag_ac (false, headS p) p.tag (by dsimp only; omega) ht
  rw [addS_ok (by omega)] at h2
  have h3 := done_ac (headS p ++ p.tag) (by simp; omega)
  generalize headS p ++ p.tag = x at *
  generalize headS p = hd at *
  cases hm : mayP p with
  | true =>
    rw [hm] at h0
    refine AC.N Try.func18 Try.ntmps18 ?_
    intro X hρ hmks
    simp only [nx, Nat.reduceAdd, Nat.reduceSub, BEq.rfl]
    refine CP.gh gh_slot ?_; simp only [nx, Nat.reduceAdd, Nat.reduceSub, BEq.rfl]
    refine CP.gh gh_slot ?_; simp only [nx, Nat.reduceAdd, Nat.reduceSub, BEq.rfl]
    refine CP.gh gh_slot ?_; simp only [nx, Nat.reduceAdd, Nat.reduceSub, BEq.rfl]
    repeat' (first
      | ((first
      | ((with_reducible apply AP.k_any); first
              | refine AP.S ?_
              | refine AP.A ?_ | refine AP.AB 0 ?_ | refine AP.AB 1 ?_ | refine AP.AL ?_
              | refine AP.LB ?_ | refine AP.TB ?_ | refine AP.IX ?_ | refine AP.SF ?_ | refine AP.SV ?_ | refine AP.CV ?_ | refine AP.CO ?_ | refine AP.FV ?_ | ((with_reducible apply AP.k_any); refine AP.B 2 (h1) ?_) | ((with_reducible apply AP.k_any); refine AP.B 0 (h2) ?_) | ((with_reducible apply AP.k_any); refine AP.B 0 (h3) ?_) | refine AP.PF ?_)
        | ((with_reducible apply DW.k_any); first
          | refine DW.R ?_ | refine DW.R' ?_ | refine DW.W ?_ | refine DW.W' ?_ | refine DW.RA ?_ | refine DW.A 0 ?_ | refine DW.A 1 ?_ | refine DW.A 2 ?_ | refine DW.A' 0 ?_ | refine DW.A' 2 ?_ | ((fail_if_success refine DW.known rfl ?_); refine DW.G (fun hg => ?_) (fun hg => ?_))
          | refine DW.RX ?_ | refine DW.WX ?_ | refine DW.WX' ?_)
      | ((with_reducible apply DW.k_any); first
                  | refine DW.R ?_ | refine DW.R' ?_ | refine DW.W ?_ | refine DW.W' ?_
                  | (refine DW.known rfl ?_; (with_reducible first | apply DW.sx 2 | apply DW.sxN 2); (iterate 2 (focus (simp only [ft, nm, Nat.reduceAdd, Nat.reduceBEq, List.getElem?_cons_zero, List.getElem?_cons_succ]; exact rfl))); (focus (intro X V; simp only [ft, nm, Nat.reduceAdd, Nat.reduceBEq]; (try (refine AP.Y ?_; dsimp only)); (first | ((with_reducible apply AP.k_any); refine AP.B 2 (h1) ?_) | ((with_reducible apply AP.k_any); refine AP.B 0 (h2) ?_) | ((with_reducible apply AP.k_any); refine AP.B 0 (h3) ?_) | fail); (try simp only [nx, Nat.reduceAdd, Nat.reduceSub, BEq.rfl]); refine AP.nil ?_; (first | refine ⟨trivial, rfl, ?_⟩ | refine ⟨rfl, rfl, ?_⟩); (repeat' (first | exact Mg.nil | apply Mg.keep rfl | apply Mg.take rfl)); done)); (focus (refine Exists.intro (fun _ => 0) ?_; apply Exists.intro; (repeat' (first | exact Mg.nil | apply Mg.keep rfl | apply Mg.take rfl)); done)); (iterate 2 (focus (exact rfl))))
                  | ((fail_if_success refine DW.known rfl ?_); refine DW.G (fun hg => ?_) (fun hg => ?_))
      )
      ) <;> (try simp only [ nx, q4, rn, fq, Nat.mul_one, Bool.and_true, Bool.and_false, Nat.reduceBEq, Nat.reduceAdd, Nat.reduceSub, BEq.rfl]))
      | ((with_reducible apply AP.k_nil); first | (refine AP.nil (hQ' _ ?_); clear hQ' Q') | refine AP.nil ?_)
      | ((with_reducible apply CP.k_drw); refine cp_drwX fun Q' hQ' => ?_)
      | ((with_reducible apply CP.k_drw1); refine cp_drawX ?_)
      | ((with_reducible apply DW.k_nil); refine DW.nl ?_; first | (refine hQ' _ ?_; clear hQ' Q') | skip)
      | ((with_reducible apply CP.k_reg); refine cp_regG fun Q' hQ' => ?_)
        | (with_reducible apply CP.k_reg1; refine cp_region ?_)
        | ((with_reducible apply CP.k_cond); first | refine cp_condT rfl ?_ | refine cp_condF rfl ?_ | refine cp_cond rfl (fun hc => ?_) (fun hc => ?_))
        | refine CP.go ?_
        | (simp only [List.append_eq, List.cons_append, List.nil_append]))
    (exact RetQ.A [] (by exact ⟨rfl, rfl⟩))
  | false =>
    rw [hm] at h0
    refine AC.N Try.func18 Try.ntmps18 ?_
    intro X hρ hmks
    simp only [nx, Nat.reduceAdd, Nat.reduceSub, BEq.rfl]
    repeat' (first
      | ((first
      | ((with_reducible apply AP.k_any); first
              | refine AP.S ?_
              | refine AP.A ?_ | refine AP.AB 0 ?_ | refine AP.AB 1 ?_ | refine AP.AL ?_
              | refine AP.LB ?_ | refine AP.TB ?_ | refine AP.IX ?_ | refine AP.SF ?_ | refine AP.SV ?_ | refine AP.CV ?_ | refine AP.CO ?_ | refine AP.FV ?_  | refine AP.PF ?_)
        | ((with_reducible apply DW.k_any); first
          | refine DW.R ?_ | refine DW.R' ?_ | refine DW.W ?_ | refine DW.W' ?_ | refine DW.RA ?_ | refine DW.A 0 ?_ | refine DW.A 1 ?_ | refine DW.A 2 ?_ | refine DW.A' 0 ?_ | refine DW.A' 2 ?_ | ((fail_if_success refine DW.known rfl ?_); refine DW.G (fun hg => ?_) (fun hg => ?_))
          | refine DW.RX ?_ | refine DW.WX ?_ | refine DW.WX' ?_)
      | ((with_reducible apply DW.k_any); first
                  | refine DW.R ?_ | refine DW.R' ?_ | refine DW.W ?_ | refine DW.W' ?_
                  | (refine DW.known rfl ?_; (with_reducible first | apply DW.sx 2 | apply DW.sxN 2); (iterate 2 (focus (simp only [ft, nm, Nat.reduceAdd, Nat.reduceBEq, List.getElem?_cons_zero, List.getElem?_cons_succ]; exact rfl))); (focus (intro X V; simp only [ft, nm, Nat.reduceAdd, Nat.reduceBEq]; (try (refine AP.Y ?_; dsimp only)); (first  | fail); (try simp only [nx, Nat.reduceAdd, Nat.reduceSub, BEq.rfl]); refine AP.nil ?_; (first | refine ⟨trivial, rfl, ?_⟩ | refine ⟨rfl, rfl, ?_⟩); (repeat' (first | exact Mg.nil | apply Mg.keep rfl | apply Mg.take rfl)); done)); (focus (refine Exists.intro (fun _ => 0) ?_; apply Exists.intro; (repeat' (first | exact Mg.nil | apply Mg.keep rfl | apply Mg.take rfl)); done)); (iterate 2 (focus (exact rfl))))
                  | ((fail_if_success refine DW.known rfl ?_); refine DW.G (fun hg => ?_) (fun hg => ?_))
      )
      ) <;> (try simp only [ nx, q4, rn, fq, Nat.mul_one, Bool.and_true, Bool.and_false, Nat.reduceBEq, Nat.reduceAdd, Nat.reduceSub, BEq.rfl]))
      | ((with_reducible apply AP.k_nil); first | (refine AP.nil (hQ' _ ?_); clear hQ' Q') | refine AP.nil ?_)
      | ((with_reducible apply CP.k_drw); refine cp_drwX fun Q' hQ' => ?_)
      | ((with_reducible apply CP.k_drw1); refine cp_drawX ?_)
      | ((with_reducible apply DW.k_nil); refine DW.nl ?_; first | (refine hQ' _ ?_; clear hQ' Q') | skip)
      | ((with_reducible apply CP.k_reg); refine cp_regG fun Q' hQ' => ?_)
        | (with_reducible apply CP.k_reg1; refine cp_region ?_)
        | ((with_reducible apply CP.k_cond); first | refine cp_condT rfl ?_ | refine cp_condF rfl ?_ | refine cp_cond rfl (fun hc => ?_) (fun hc => ?_))
        | refine CP.go ?_
        | (simp only [List.append_eq, List.cons_append, List.nil_append]))
    (exact RetQ.A [] (by exact ⟨rfl, rfl⟩))
end Go.Proofs.Ytnjfchigdpifmaa

namespace Go.Proofs.Ytnjfchigdpifmaa
set_option linter.unusedVariables false
set_option linter.unusedSimpArgs false
set_option maxHeartbeats 8000000
open Go.RowKit
set_option maxRecDepth 100000
theorem sclone_ac (a : List UInt8) (ha : a.length ≤ 100000000) :
    AC Try.prog 39 [bs none a] [] (fun v bs' => v = bs (some tU) a ∧ bs' = []) := by
  refine AC.N Try.func39 Try.ntmps39 ?_
  intro X hρ hmks
  simp only [nx, Nat.reduceAdd, Nat.reduceSub, BEq.rfl]
  repeat' (first
    | ((first
    | ((with_reducible apply AP.k_any); first
             | refine AP.S ?_
             | (refine AP.V (fun c hnil => ?_); simp only [nz])
      )
    
    
    )
      <;> (try simp only [nx, Nat.reduceAdd, Nat.reduceSub, BEq.rfl]))
    | ((with_reducible apply AP.k_nil); first
        | (refine AP.nil (hQ' _ ?_); clear hQ' Q')
        | refine AP.nil ?_)
    | ((with_reducible apply CP.k_reg); refine cp_regG fun Q' hQ' => ?_)
      | (with_reducible apply CP.k_reg1; refine cp_region ?_)
      | ((with_reducible apply CP.k_cond); first | refine cp_condT rfl ?_ | refine cp_condF rfl ?_ | refine cp_cond rfl (fun hc => ?_) (fun hc => ?_))
      | refine CP.go ?_
      | (simp only [List.append_eq, List.cons_append, List.nil_append]))
  · obtain rfl : a = [] := by simpa using hnil hc
    (exact RetQ.A [] (by exact ⟨rfl, rfl⟩))
  · (refine RetQ.B [] ?_; (try dsimp only [resV, List.getD_cons_succ, List.getD_cons_zero]); (exact ⟨by simp, rfl⟩))
theorem nr_tg (t : List UInt8) : NR (tg t) := by
  apply NR.ag
  intro a ha
  rw [← mixT_32] at ha
  obtain ⟨j, _, rfl⟩ := List.mem_map.1 ha
  exact NR.sc
theorem seal_ac (root : List UInt8) (p : Pkt) (hr : root.length ≤ 10000) (hp : p.body.length ≤ 60000) : AC Try.prog 13 [bs none root, .ag (eP p)] [] (fun v bs' => v = .ag (ePO { p with tag := tagS root p }) ∧ bs' = []) := by
  have h1 := sclone_ac p.body (by omega)
  have h2 := ltag_ac root p hr hp
  generalize tagS root p = t at *
  refine AC.N Try.func13 Try.ntmps13 ?_
  intro X hρ hmks
  simp only [nx, Nat.reduceAdd, Nat.reduceSub, BEq.rfl]
  refine CP.gh gh_slot ?_; simp only [nx, Nat.reduceAdd, Nat.reduceSub, BEq.rfl]
  refine CP.gh gh_slot ?_; simp only [nx, Nat.reduceAdd, Nat.reduceSub, BEq.rfl]
  repeat' (first
    | ((first
    | ((with_reducible apply AP.k_any); first
            | refine AP.S ?_
            | refine AP.A ?_ | refine AP.AB 0 ?_ | refine AP.AB 1 ?_ | refine AP.AL ?_
            | refine AP.LB ?_ | refine AP.TB ?_ | refine AP.IX ?_ | refine AP.SF ?_ | refine AP.SV ?_ | refine AP.CV ?_ | refine AP.CO ?_ | refine AP.FV ?_ | ((with_reducible apply AP.k_any); refine AP.CL (h2) (hnr := nr_tg t) ?_) | refine AP.PF ?_)
    ) <;> (try simp only [ nx, q4, rn, fq, Nat.mul_one, Bool.and_true, Bool.and_false, Nat.reduceBEq, Nat.reduceAdd, Nat.reduceSub, BEq.rfl]))
    | ((with_reducible apply AP.k_nil); first | (refine AP.nil (hQ' _ ?_); clear hQ' Q') | refine AP.nil ?_)
    | ((with_reducible apply CP.k_reg); refine cp_regG fun Q' hQ' => ?_)
      | (with_reducible apply CP.k_reg1; refine cp_region ?_)
      | ((with_reducible apply CP.k_cond); first | refine cp_condT rfl ?_ | refine cp_condF rfl ?_ | refine cp_cond rfl (fun hc => ?_) (fun hc => ?_))
      | refine CP.go ?_
      | (simp only [List.append_eq, List.cons_append, List.nil_append]))
  (refine RetQ.B [] ?_; (try dsimp only [resV, List.getD_cons_succ, List.getD_cons_zero]); (exact ⟨rfl, rfl⟩))
theorem headS_num (p : Pkt) : headS p = numS [p.frm, p.to, p.epoch, p.boot, p.seqn] ++ (putS p.body.length 4 ++ p.body) := by
  simp [headS, numS]
end Go.Proofs.Ytnjfchigdpifmaa

namespace Go.Proofs.Ytnjfchigdpifmaa
set_option linter.unusedVariables false
set_option linter.unusedSimpArgs false
theorem cod_tag : Cod tagR (fun t => t) (fun t => t.length = 32) where
  fwd a rest h := takeS_fwd (z := z32) (f := tagG) (n := 32) (b := a) (rest := rest) h rfl
  bwd st h := by
    obtain ⟨h1, h2, h3, h4⟩ := takeS_zero (n := 32) (f := tagG) (z := z32) (st := st) h
    have e : tagR st = (st.2.take 32, (0, st.2.drop 32)) := h4
    rw [e]
    exact ⟨(List.take_append_drop _ _).symm, by simp; omega⟩
  stk st h := takeS_stk h
def okPk (p : Pkt) : Prop := (I64 p.frm ∧ I64 p.to ∧ I64 p.epoch ∧ I64 p.boot ∧ I64 p.seqn) ∧ p.body.length ≤ 65536 ∧ p.tag.length = 32
def pktR (st : Rd) : Pkt × Rd := (packR st, r7 st)
theorem cod_pkt : Cod pktR (fun p => headS p ++ p.tag) okPk :=
  (cod_int.seq (fun _ _ => cod_int.seq (fun _ _ => cod_int.seq (fun _ _ => cod_int.seq (fun _ _ => cod_int.seq (fun _ _ => cod_bytes.seq (fun _ _ => cod_tag) fun _ => cod_tag.stk)
      fun _ st h => cod_tag.stk _ (cod_bytes.stk _ h)) fun _ st h => cod_tag.stk _ (cod_bytes.stk _ (cod_int.stk _ h))) fun _ st h => cod_tag.stk _ (cod_bytes.stk _ (cod_int.stk _ (cod_int.stk _ h))))
      fun _ st h => cod_tag.stk _ (cod_bytes.stk _ (cod_int.stk _ (cod_int.stk _ (cod_int.stk _ h))))) fun _ st h => cod_tag.stk _ (cod_bytes.stk _ (cod_int.stk _ (cod_int.stk _ (cod_int.stk _ (cod_int.stk _ h)))))).iso
    (fun x => ⟨x.1, x.2.1, x.2.2.1, x.2.2.2.1, x.2.2.2.2.1, x.2.2.2.2.2.1, x.2.2.2.2.2.2⟩) (fun p => (p.frm, (p.to, (p.epoch, (p.boot, (p.seqn, (p.body, p.tag))))))) (fun st => rfl)
    (fun p _ => by rw [headS_num]; simp [numS, bytesF'])
    (fun p h => ⟨⟨h.1.1, h.1.2.1, h.1.2.2.1, h.1.2.2.2.1, h.1.2.2.2.2, h.2.1, h.2.2⟩, rfl⟩)
    fun x h => ⟨⟨⟨h.1, h.2.1, h.2.2.1, h.2.2.2.1, h.2.2.2.2.1⟩, h.2.2.2.2.2.1, h.2.2.2.2.2.2⟩, rfl⟩
theorem end0 {q : Rd} (h : endR q = 0) : q = (0, []) := by
  obtain ⟨q1, q2⟩ := q
  unfold endR at h
  by_cases h1 : q1 = 0
  · subst h1
    cases q2 with
    | nil => rfl
    | cons x l => simp at h
  · exact absurd h (by rw [if_neg h1]; exact h1)
theorem parse_rest {p : Pkt} {c : List UInt8} (hp : okPk p) (hl : (headS p ++ p.tag ++ c).length ≤ 65536) : packR (newR (headS p ++ p.tag ++ c)) = p ∧ r7 (newR (headS p ++ p.tag ++ c)) = (0, c) := by
  have e : (packR (0, headS p ++ p.tag ++ c), r7 (0, headS p ++ p.tag ++ c)) = (p, ((0 : Int), c)) := cod_pkt.fwd p c hp
  have hn : newR (headS p ++ p.tag ++ c) = (0, headS p ++ p.tag ++ c) := by unfold newR; rw [if_neg (by omega)]
  rw [hn]
  exact Prod.mk.inj e
theorem parse_ok {p : Pkt} (h : mayP p = true) (hp : okPk p) (hb : p.body.length ≤ 60000) : parseP (headS p ++ p.tag) = (p, 0) := by
  obtain ⟨e1, e2⟩ := parse_rest (c := []) hp (by have := headS_len p; have := hp.2.2; simp; omega)
  rw [List.append_nil] at e1 e2
  unfold parseP
  rw [e1, e2]
  exact if_pos ⟨rfl, h⟩
theorem parse_back {b : List UInt8} (hb : b.length ≤ 65536) (h : (parseP b).2 = 0) : b = headS (parseP b).1 ++ (parseP b).1.tag ∧ okPk (parseP b).1 := by
  have hn : newR b = (0, b) := by unfold newR; rw [if_neg (by omega)]
  unfold parseP at h ⊢
  split at h
  · rename_i hc
    rw [if_pos hc]
    rw [hn] at hc ⊢
    dsimp only
    have hz : r7 (0, b) = (0, []) := end0 hc.1
    have e0 := cod_pkt.bwd (0, b) (by show (r7 (0, b)).1 = 0; rw [hz])
    have := e0.1
    change b = _ ++ (r7 (0, b)).2 at this
    rw [hz, List.append_nil] at this
    exact ⟨this, e0.2⟩
  · cases h
end Go.Proofs.Ytnjfchigdpifmaa

namespace Go.Proofs.Ytnjfchigdpifmaa
set_option linter.unusedVariables false
set_option linter.unusedSimpArgs false
open Go.RowKit
set_option maxRecDepth 100000
theorem ba_beq (a b : ByteArray) : (a == b) = (a.data.toList == b.data.toList) := by
  cases a; cases b
  show ByteArray.beq _ _ = _
  unfold ByteArray.beq
  simp
def kEq : Value → Value → Bool
  | .agg a, .agg b => eqVs a.toList b.toList
  | a, b => eqV1 a b
/-- where a key stands -/
def fnd (k : Value) : List Value → Option Nat
  | [] => none
  | x :: l => match kEq k x with
    | true => some 0
    | false => match fnd k l with
      | some n => some (n + 1)
      | none => none
/-- a key of a type -/
def isKey (P : Program) (K : TypeId) (sh : List Sh) (v : Value) : Bool := match aggT P K with
  | true => match v with
    | .agg cs => shC sh cs.toList
    | _ => false
  | false => match v with
    | .agg _ => false
    | v => shC sh [v]
theorem fnd_lt {k : Value} : ∀ {l : List Value} {n : Nat}, fnd k l = some n → n < l.length
  | [], _, h => by simp [fnd] at h
  | x :: l, n, h => by
    unfold fnd at h
    split at h
    · injection h with h; subst h; simp
    · split at h <;> cases h
      rename_i hm
      have := fnd_lt hm
      simp; omega
theorem fnd_at {k : Value} : ∀ {l : List Value} {n : Nat}, fnd k l = some n → ∃ x, l[n]? = some x ∧ kEq k x = true
  | [], _, h => by simp [fnd] at h
  | x :: l, n, h => by
    unfold fnd at h
    split at h
    · rename_i hx; injection h with h; subst h; exact ⟨x, rfl, hx⟩
    · split at h <;> cases h
      rename_i hm
      simpa using fnd_at hm
theorem fnd_app {k : Value} : ∀ {l m : List Value}, fnd k l = none → fnd k (l ++ m) = (fnd k m).map (· + l.length)
  | [], m, _ => by simp
  | x :: l, m, h => by
    unfold fnd at h
    split at h
    · cases h
    · rename_i hx
      split at h <;> cases h
      rename_i hm
      simp only [List.cons_append, fnd, hx, fnd_app hm]
      cases fnd k m with
      | none => rfl
      | some n => simp; omega
theorem eqV1_eq {h : Sh} {u v : Value} (hu : shC1 h u = true) (hv : shC1 h v = true) (he : eqV1 u v = true) : u = v := by
  cases h <;> cases u <;> simp [shC1] at hu <;> cases v <;> simp [shC1] at hv <;> simp [eqV1] at he
  · subst hu; subst hv; subst he; rfl
  · subst he; rfl
  · congr 1
    rw [ByteArray.toList_eq, ByteArray.toList_eq] at he
    exact Go.WideShapes.bytes_inj he
theorem eqVs_eq : ∀ {sh : List Sh} {us vs : List Value}, shC sh us = true → shC sh vs = true → eqVs us vs = true → us = vs
  | [], [], [], _, _, _ => rfl
  | h :: sh, u :: us, v :: vs, h1, h2, he => by
    simp only [shC, eqVs, Bool.and_eq_true] at h1 h2 he
    rw [eqV1_eq h1.1 h2.1 he.1, eqVs_eq h1.2 h2.2 he.2]
section
variable {P : Program} {K : TypeId} {sh : List Sh} {w : World}
theorem isKey_val {v : Value} (h : isKey P K sh v = true) : ∃ cs, v = valT P K cs ∧ shC sh cs = true := by
  unfold isKey at h
  split at h
  · rename_i hA
    split at h
    · rename_i cs; exact ⟨cs.toList, by rw [valT_agg hA], h⟩
    · cases h
  · rename_i hA
    split at h
    · cases h
    · exact ⟨[v], by simp [valT, hA], h⟩
theorem kEq_val {a b : Value} (ha : isKey P K sh a = true) (hb : isKey P K sh b = true) : ∃ xs ys, a = valT P K xs ∧ b = valT P K ys ∧ shC sh xs = true ∧ shC sh ys = true ∧ kEq a b = eqVs xs ys := by
  unfold isKey at ha hb
  cases hA : aggT P K with
  | true =>
    rw [hA] at ha hb
    cases a <;> simp at ha
    cases b <;> simp at hb
    rename_i x y
    exact ⟨x.toList, y.toList, by rw [valT_agg hA], by rw [valT_agg hA], ha, hb, rfl⟩
  | false =>
    rw [hA] at ha hb
    dsimp only at ha hb
    refine ⟨[a], [b], by simp [valT, hA], by simp [valT, hA], ?_, ?_, ?_⟩
    · cases a <;> first | exact ha | (simp at ha; done)
    · cases b <;> first | exact hb | (simp at hb; done)
    · have : kEq a b = eqV1 a b := by
        cases a <;> first | rfl | (simp at ha; done)
      rw [this]; simp [eqVs]
theorem kEq_eq {a b : Value} (ha : isKey P K sh a = true) (hb : isKey P K sh b = true) (h : kEq a b = true) : a = b := by
  obtain ⟨xs, ys, rfl, rfl, h1, h2, h3⟩ := kEq_val ha hb
  rw [h3] at h
  rw [eqVs_eq h1 h2 h]
theorem run_key_eq {a b : Value} (hf : flatT P 9 K = some sh) (ha : isKey P K sh a = true) (hb : isKey P K sh b = true) : (Op.equal K a b).run P w = .ok (kEq a b) w := by
  obtain ⟨xs, ys, rfl, rfl, h1, h2, h3⟩ := kEq_val ha hb
  rw [h3]
  exact eqF 9 9991 K sh hf w xs ys h1 h2
def fndE (k : Value) (es : List MapEntry) : Option (Nat × Value) := match fnd k (es.map (·.key)) with
  | some n => some (n, (es[n]?.map (·.val)).getD undef)
  | none => none
theorem run_findAsking_flat {k : Value} (hf : flatT P 9 K = some sh) (hk : isKey P K sh k = true) : ∀ (es : List MapEntry) (i : Nat), (∀ e ∈ es, isKey P K sh e.key = true) →
    (Instr.findAsking K k es i).run P w = .ok ((fndE k es).map fun x => (i + x.1, x.2)) w
  | [], i, _ => by simp [Instr.findAsking, fndE, fnd]
  | e :: es, i, h => by
    have h1 := run_key_eq (w := w) hf hk (h e (by simp))
    have ih := run_findAsking_flat hf hk es (i + 1) fun x hx => h x (by simp [hx])
    simp only [Instr.findAsking, Sem.run_bind, h1, Result.andThen_ok]
    cases hq : kEq k e.key with
    | true => simp [fndE, fnd, hq]
    | false =>
      simp only [Bool.false_eq_true, if_false, ih]
      congr 1
      simp only [fndE, List.map_cons, fnd, hq]
      cases fnd k (es.map (·.key)) with
      | none => rfl
      | some n => simp; omega
theorem findNow_flat {d : TypeDesc} {k : Value} (hs : ∀ e : Value, isKey P K sh e = true → Instr.sameNow d k e = some (kEq k e)) : ∀ (es : List MapEntry) (i : Nat), (∀ e ∈ es, isKey P K sh e.key = true) → Instr.findNow d k es i = some ((fndE k es).map fun x => (i + x.1, x.2))
  | [], i, _ => by simp [Instr.findNow, fndE, fnd]
  | e :: es, i, h => by
    have ih := findNow_flat hs es (i + 1) fun x hx => h x (by simp [hx])
    simp only [Instr.findNow, hs e.key (h e (by simp))]
    cases hq : kEq k e.key with
    | true => simp [fndE, fnd, hq]
    | false =>
      dsimp only
      rw [ih]
      congr 1
      simp only [fndE, List.map_cons, fnd, hq]
      cases fnd k (es.map (·.key)) with
      | none => rfl
      | some n => simp; omega
theorem run_findKey_flat {k : Value} {es : List MapEntry} (hf : flatT P 9 K = some sh) (hk : isKey P K sh k = true) (h : ∀ e ∈ es, isKey P K sh e.key = true) : (Instr.findKey K k es).run P w = .ok (fndE k es) w := by
  have hid : (fndE k es).map (fun x => (0 + x.1, x.2)) = fndE k es := by cases fndE k es <;> simp
  cases hu : P.underlying K with
  | none => simp [flatT, hu] at hf
  | some d =>
    cases hA : aggT P K with
    | true =>
      have hd : ∀ a b : Value, Instr.sameNow d a b = none := by
        unfold aggT at hA
        rw [hu] at hA
        intro a b
        cases d <;> simp at hA <;> rfl
      cases es with
      | nil => simp [Instr.findKey, run_underlying hu, Result.andThen, Instr.findNow, fndE, fnd]
      | cons e es =>
        have h0 : Instr.findNow d k (e :: es) 0 = none := by simp [Instr.findNow, hd]
        have := run_findAsking_flat (w := w) hf hk (e :: es) 0 h
        rw [hid] at this
        simp [Instr.findKey, run_underlying hu, Result.andThen, h0, this]
    | false =>
      have hs : ∀ e : Value, isKey P K sh e = true → Instr.sameNow d k e = some (kEq k e) := fun e he => by
        unfold isKey at hk he
        rw [hA] at hk he
        unfold flatT at hf
        rw [hu] at hf
        unfold aggT at hA
        rw [hu] at hA
        cases d <;> simp at hf hA
        all_goals
          subst hf
          cases k <;> simp [shC, shC1] at hk
          cases e <;> simp [shC, shC1] at he
        · rfl
        · subst hk; subst he; simp [Instr.sameNow, kEq, eqV1]
        · simp only [Instr.sameNow, kEq, eqV1]
          congr 1
          rename_i a b
          rw [ByteArray.toList_eq, ByteArray.toList_eq]
          exact ba_beq _ _
      have := findNow_flat hs es 0 h
      rw [hid] at this
      exact MapKept.run_findKey hu this
theorem run_checkKey_flat (em : Bool) : ∀ (d n : Nat) (t : TypeId) (sh : List Sh) (cs : List Value) (w : World), flatT P d t = some sh → shC sh cs = true → (Instr.checkKey em (n + d) t (valT P t cs)).run P w = .ok () w
  | 0, _, _, _, _, _, h, _ => by simp [flatT] at h
  | d + 1, n, t, sh, cs, w, h, hc => by
    unfold flatT at h
    have two : ∀ {h0 : Sh}, sh = [h0] → ∃ v, cs = [v] ∧ shC1 h0 v = true := by
      intro h0 hs
      subst hs
      have l1 := shC_length hc
      obtain ⟨v, rfl⟩ := List.length_eq_one_iff.1 l1
      exact ⟨v, rfl, by simpa [shC] using hc⟩
    rw [← Nat.add_assoc, Instr.checkKey]
    split at h <;> try cases h
    · rename_i hu
      obtain ⟨v, rfl, h1⟩ := two rfl
      cases v <;> simp [shC1] at h1
      simp [valT, aggT, hu, run_underlying hu, Result.andThen_ok, Sem.run_bind]
    · rename_i q hu
      obtain ⟨v, rfl, h1⟩ := two rfl
      cases v <;> simp [shC1] at h1
      simp [valT, aggT, hu, run_underlying hu, Result.andThen_ok, Sem.run_bind]
    · rename_i hu
      obtain ⟨v, rfl, h1⟩ := two rfl
      cases v <;> simp [shC1] at h1
      simp [valT, aggT, hu, run_underlying hu, Result.andThen_ok, Sem.run_bind]
    · rename_i m e hu
      split at h <;> try cases h
      rename_i sh0 hf
      split at h <;> cases h
      rename_i hn
      have hn := Nat.eq_of_beq_eq_true hn
      have hA : aggT P t = true := by unfold aggT; rw [hu]
      obtain ⟨i, hi⟩ : ∃ i, P.info? e = some i := by
        cases d with
        | zero => simp [flatT] at hf
        | succ d =>
          cases hu2 : P.underlying e with
          | none => simp [flatT, hu2] at hf
          | some kd => exact info_of_underlying hu2
      rw [valT_agg hA]
      simp only [Sem.run_bind, run_underlying hu, Result.andThen_ok]
      simp only [Std.Legacy.Range.forIn_eq_forIn_range', Std.Legacy.Range.size, Nat.sub_zero, Nat.add_one_sub_one, Nat.div_one]
      have key : ∀ (m k : Nat), shC (repS sh0 m) (cs.drop (k * sh0.length)) = true → ∀ b : PUnit, (forIn (List.range' k m) b fun i _ => (do
          let sz ← sizeOf e
          let v ← part e cs.toArray (i * sz)
          Instr.checkKey em (n + d) e v
          pure (ForInStep.yield PUnit.unit) : Sem (ForInStep PUnit))).run P w = .ok PUnit.unit w := by
        intro m
        induction m with
        | zero => intro k _ b; simp
        | succ m ih =>
          intro k hk b
          obtain ⟨a1, a2⟩ := shC_split (a := sh0) (b := repS sh0 m) hk
          rw [List.drop_drop, show k * sh0.length + sh0.length = (k + 1) * sh0.length by rw [Nat.add_mul]; omega] at a2
          have p1 := run_part_flat hf hn w cs (k * sh0.length) a1
          have p2 := run_checkKey_flat em d n e sh0 _ w hf a1
          rw [List.range'_succ]
          simp only [List.forIn_cons, Sem.run_bind, run_sizeOf w hi, Result.andThen_ok, hn, p1, p2, Sem.run_pure]
          exact ih (k + 1) a2 _
      rw [key m 0 (by simpa using hc) PUnit.unit]
      rfl
    · rename_i fs hu
      split at h <;> try cases h
      have hA : aggT P t = true := by unfold aggT; rw [hu]
      rw [valT_agg hA]
      simp only [Sem.run_bind, run_underlying hu, Result.andThen_ok]
      rw [← Array.forIn_toList]
      generalize fs.toList = L at h
      have hc0 : shC sh (cs.drop 0) = true := by simpa using hc
      clear hc two
      revert h hc0
      generalize 0 = off
      intro h hc0
      induction L generalizing off sh with
      | nil => simp
      | cons x L ih =>
        unfold flatFs at h
        split at h <;> try cases h
        rename_i sx hx hfx
        split at h <;> try cases h
        rename_i r hr
        split at hfx <;> try cases hfx
        rename_i sx' hfx'
        split at hfx <;> cases hfx
        rename_i hcl
        simp only [Bool.and_eq_true, bne_iff_ne, ne_eq] at hx
        obtain ⟨hnm, hof⟩ := hx
        have hof : x.offset = off := Nat.eq_of_beq_eq_true hof
        obtain ⟨a1, a2⟩ := shC_split hc0
        rw [List.drop_drop] at a2
        have p1 := run_part_flat hfx' (Nat.eq_of_beq_eq_true hcl) w cs off a1
        have p2 := run_checkKey_flat em d n x.type sx _ w hfx' a1
        simp only [List.forIn_cons, Sem.run_bind, hnm, ne_eq, not_false_eq_true, if_true, Result.andThen_ok, hof, p1, p2, Sem.run_pure]
        exact ih _ _ hr a2
theorem run_check {k : Value} (em : Bool) (hf : flatT P 9 K = some sh) (hk : isKey P K sh k = true) : (Instr.checkKey em 10000 K k).run P w = .ok () w := by
  obtain ⟨cs, rfl, h⟩ := isKey_val hk
  exact run_checkKey_flat em 9 9991 K sh cs w hf h
theorem sameBits1 {h : Sh} {v : Value} (n : Nat) (hs : shC1 h v = true) : Instr.sameBits n v v = true := by
  have hb : ∀ s : ByteArray, (s == s) = true := fun s => by rw [ba_beq]; simp
  cases h <;> cases v <;> simp [shC1] at hs <;> (cases n <;> simp [Instr.sameBits, hb])
theorem run_stays {k : Value} (hk : isKey P K sh k = true) : (Instr.keyThatStays k k).run P w = .ok k w := by
  have : Instr.sameBits 10000 k k = true := by
    unfold isKey at hk
    split at hk
    · split at hk
      · rename_i cs
        rw [show (10000 : Nat) = 9999 + 1 from rfl, Instr.sameBits]
        simp only [beq_self_eq_true, Bool.true_and, List.all_eq_true]
        have key : ∀ {sh : List Sh} {l : List Value}, shC sh l = true → ∀ x ∈ l.zip l, Instr.sameBits 9999 x.1 x.2 = true := by
          intro sh
          induction sh with
          | nil => intro l h x hx; cases l <;> simp [shC] at h; simp at hx
          | cons h0 sh ih =>
            intro l h x hx
            cases l with
            | nil => simp [shC] at h
            | cons v l =>
              simp only [shC, Bool.and_eq_true] at h
              simp only [List.zip_cons_cons, List.mem_cons] at hx
              rcases hx with rfl | hx
              · exact sameBits1 _ h.1
              · exact ih h.2 x hx
        exact key hk
      · cases hk
    · split at hk
      · cases hk
      · cases sh with
        | nil => simp [shC] at hk
        | cons h0 sh =>
          simp only [shC, Bool.and_eq_true] at hk
          exact sameBits1 _ hk.1
  simp [Instr.keyThatStays, this]
end
/-! a map's entries -/
section
variable {es : Array MapEntry} {clock : Nat} {ks us : List Value}
theorem MapIn.kl (h : MapIn es clock ks us) : ks.length = es.size ∧ us.length = es.size := by
  rw [← h.ky, ← h.vl]; simp
theorem MapIn.nil : MapIn #[] 0 [] [] := ⟨rfl, rfl, by simp, fun e he => by simp at he⟩
theorem MapIn.push (h : MapIn es clock ks us) (k v : Value) : MapIn (es.push ⟨k, v, clock⟩) (clock + 1) (ks ++ [k]) (us ++ [v]) := by
  refine ⟨by simp [h.ky], by simp [h.vl], ?_, fun e he => ?_⟩
  · rw [Array.toList_push, List.map_append, List.pairwise_append]
    refine ⟨h.st, by simp, fun a ha b hb => ?_⟩
    simp at hb; subst hb
    obtain ⟨e, he, rfl⟩ := List.mem_map.1 ha
    exact h.ck e he
  · simp at he
    rcases he with he | rfl
    · have := h.ck e (by simpa using he); omega
    · simp
theorem MapIn.mod (h : MapIn es clock ks us) {n : Nat} {e : MapEntry} (hn : es[n]? = some e) (v : Value) (f : MapEntry → MapEntry) (hf : f e = { e with val := v }) : MapIn (es.modify n f) clock ks (us.set n v) := by
  have hl : (es.modify n f).toList = es.toList.set n { e with val := v } := by
    rw [Array.toList_modify]
    apply List.ext_getElem?
    intro i
    rw [List.getElem?_modify, List.getElem?_set]
    by_cases hi : n = i
    · subst hi
      have : es.toList[n]? = some e := by simpa using hn
      have hlt := (List.getElem?_eq_some_iff.1 this).1
      rw [this]; simp only [if_true, if_pos hlt]; exact congrArg some hf
    · simp [hi]
  refine ⟨?_, ?_, ?_, fun x hx => ?_⟩
  · rw [hl, List.map_set, h.ky]
    have h1 : ks[n]? = some e.key := by rw [← h.ky]; simp [hn]
    apply List.ext_getElem?
    intro i
    rw [List.getElem?_set]
    split
    · rename_i hi; subst hi
      rw [if_pos (List.getElem?_eq_some_iff.1 h1).1, h1]
    · rfl
  · rw [hl, List.map_set, h.vl]
  · rw [hl, List.map_set]
    have h1 : (es.toList.map (·.born))[n]? = some e.born := by simp [hn]
    have e2 : (es.toList.map (·.born)).set n e.born = es.toList.map (·.born) := by
      apply List.ext_getElem?
      intro i
      rw [List.getElem?_set]
      split
      · rename_i hi; subst hi
        rw [if_pos (List.getElem?_eq_some_iff.1 h1).1, h1]
      · rfl
    rw [e2]; exact h.st
  · rw [hl] at hx
    rcases List.mem_or_eq_of_mem_set hx with hx | rfl
    · exact h.ck x hx
    · exact h.ck e (by simpa using Array.mem_of_getElem? hn)
theorem MapIn.erase (h : MapIn es clock ks us) (n : Nat) : MapIn (es.eraseIdxIfInBounds n) clock (ks.eraseIdx n) (us.eraseIdx n) := by
  have hsub : (es.eraseIdxIfInBounds n).toList = es.toList.eraseIdx n := by
    unfold Array.eraseIdxIfInBounds
    split
    · simp
    · rename_i hn
      rw [List.eraseIdx_of_length_le (by simpa using hn)]
  refine ⟨?_, ?_, ?_, fun x hx => ?_⟩
  · rw [hsub, ← h.ky, Go.ChangeMaps.map_eraseIdx]
  · rw [hsub, ← h.vl, Go.ChangeMaps.map_eraseIdx]
  · rw [hsub, Go.ChangeMaps.map_eraseIdx]
    exact h.st.sublist (List.eraseIdx_sublist _ _)
  · rw [hsub] at hx
    exact h.ck x ((List.eraseIdx_sublist _ _).subset hx)
/-- a stamp tells its entry -/
theorem MapIn.born (h : MapIn es clock ks us) {n : Nat} {e : MapEntry} (hn : es[n]? = some e) : es.findIdx? (fun x => (x.born : Int) == (e.born : Int)) = some n := by
  rw [Array.findIdx?_eq_some_iff_getElem]
  obtain ⟨hlt, he⟩ := Array.getElem?_eq_some_iff.1 hn
  refine ⟨hlt, by simp [he], fun j hj => ?_⟩
  have := List.pairwise_iff_getElem.1 h.st j n (by simp; omega) (by simpa using hlt) hj
  simp at this
  rw [he] at this
  simp; omega
end
end Go.Proofs.Ytnjfchigdpifmaa

namespace Go.Proofs.Ytnjfchigdpifmaa
set_option linter.unusedVariables false
set_option linter.unusedSimpArgs false
open Go.RowKit
set_option maxRecDepth 100000
section
variable {X : Cx} {φ φ' : Fi} {κ κ' : Ka} {f : Nat → Ct} {L L' : Ct} {s s' : AS} {a : Act} {w w' : World} {R : Nat → Prop}
theorem SatW.openM (h : SatW X φ κ f L s a w) {j u n : Nat} {ks : List Value} {rows : List (List AV)} {c c' : List AV} {b2 : List Sl} (hj : s.b[j]? = some ⟨u, .m ks rows none none⟩) (hc : rows[n]? = some c) (hop : opnC c (s.b.set j ⟨u, .o⟩) = (c', b2)) (hk : b2[j]? = some ⟨u, .o⟩) :
    ∃ φ' κ' f', (∀ b u g, φ b u = some g → φ' b u = some g) ∧ (∀ b u v, κ b u = some v → κ' b u = some v) ∧ SatW X φ' κ' f' L ⟨s.t, b2.set j ⟨u, .m ks rows (some (n, c')) none⟩⟩ a w := by
  obtain ⟨hrs, ht⟩ := h.take hj .o fun _ _ => .o
  generalize hF : f j = F at hrs ht
  cases hrs with
  | @m _ _ _ _ g es clock us S' _ hκ hro hh hmi hst hS =>
    cases hro with
    | no he =>
      obtain ⟨us1, cs, us2, S1, Sc, S2, e1, e2, e3, e4, e5, e6, e7, e8⟩ := RE.part he hc
      obtain ⟨φ1, κ1, f1, p1, p2, p3, p4⟩ := SatW.opnC_ (L' := fun x => ((if x = g then 1 else 0) + (S1 x + S2 x)) + L x) ht e2 (fun x => by (try dsimp only); rw [hS, e8]; omega) fun x hx => leaf_fl (e5 x hx)
      simp only [hop] at p3 p4
      have hz : ∀ x, f1 j x = 0 := fun x => by
        have := p4.sl j _ hk
        generalize f1 j = F at this
        cases this; rfl
      refine ⟨φ1, κ1, _, p1, p2, p4.turn (w' := w) (B := .m ks rows (some (n, c')) none) (u := u) (g := fun x => (if x = g then 1 else 0) + (S1 x + S2 x)) (L' := L) hk (fun _ _ _ h => h) (fun _ _ _ h => h) (Nat.le_refl _) rfl rfl rfl (fun _ _ _ => rfl) ?_ (fun x _ => by (try dsimp only); rw [hz x]; omega) (fun x hx => ?_) (Nat.le_refl _) (fun _ _ _ h => h) (fun _ _ _ h => h)⟩
      · exact .m (p2 _ _ _ hκ) (.yes (List.getElem?_eq_some_iff.1 hc).1 (RE.hist p1 p2 (fun _ h => h) e1) p3 e3 e4 (RE.hist p1 p2 (fun _ h => h) e6) e7 fun _ => rfl) hh hmi trivial fun _ => rfl
      · have h7 := p4.one x
        have h8 := p4.own x
        dsimp only at h7 h8
        exact ⟨by omega, fun h0 => (h8 (by omega)).1⟩
end
/-- shut, by a function: what is owned goes back as owned -/
def clsO : Nat → List Sl → List AV → Option (List AV × List Sl)
  | 0, _, _ => none
  | _ + 1, b, [] => some ([], b)
  | n + 1, b, a :: l =>
    match a with
    | .hd i u => match b[i]? with
      | some ⟨v, .r e k r⟩ => match Nat.beq v u, clsO n (b.set i ⟨v, .x⟩) l with
        | true, some (l', b') => some (.sl (some e) k r :: l', b')
        | _, _ => none
      | some ⟨v, .m ks r none _⟩ => match Nat.beq v u, clsO n (b.set i ⟨v, .x⟩) l with
        | true, some (l', b') => some (.mo ks r :: l', b')
        | _, _ => none
      | some ⟨v, .m ks r (some (m, c)) _⟩ => match Nat.beq v u, clsO n (b.set i ⟨v, .x⟩) c with
        | true, some (c', b1) => match clsO n b1 l with
          | some (l', b') => some (.mo ks (r.set m c') :: l', b')
          | none => none
        | _, _ => none
      | some ⟨v, .f e k r m c⟩ => match Nat.beq v u, clsO n (b.set i ⟨v, .x⟩) c with
        | true, some (c', b1) => match clsO n b1 l with
          | some (l', b') => some (.sl (some e) k (r.set m c') :: l', b')
          | none => none
        | _, _ => none
      | _ => none
    | .bp i u 0 => match b[i]? with
      | some ⟨v, .c T c⟩ => match Nat.beq v u, clsO n (b.set i ⟨v, .x⟩) c with
        | true, some (c', b1) => match clsO n b1 l with
          | some (l', b') => some (.ob T c' :: l', b')
          | none => none
        | _, _ => none
      | _ => none
    | .fn f c => match c, clsO n b l with
      | [], some (l', b') => some (.sc (.func (.func f) #[] #[]) :: l', b')
      | _, _ => none
    | .sc v => match clsO n b l with
      | some (l', b') => some (.sc v :: l', b')
      | none => none
    | .sl o k r => match clsO n b l with
      | some (l', b') => some (.sl o k r :: l', b')
      | none => none
    | .ob T c => match clsO n b l with
      | some (l', b') => some (.ob T c :: l', b')
      | none => none
    | .mo ks r => match clsO n b l with
      | some (l', b') => some (.mo ks r :: l', b')
      | none => none
    | _ => none
theorem clsO_of : ∀ {n : Nat} {b : List Sl} {l l' : List AV} {b' : List Sl}, clsO n b l = some (l', b') → ClsC b l l' b'
  | 0, b, l, l', b', h => by simp [clsO] at h
  | n + 1, b, [], l', b', h => by simp only [clsO, Option.some.injEq, Prod.mk.injEq] at h; obtain ⟨rfl, rfl⟩ := h; exact .nil
  | n + 1, b, a :: l, l', b', h => by
    unfold clsO at h
    split at h
    · split at h <;> try cases h
      · rename_i hb
        split at h <;> try cases h
        rename_i hv hc
        have := Nat.eq_of_beq_eq_true hv; subst this
        exact .hd hb (clsO_of hc)
      · rename_i hb
        split at h <;> try cases h
        rename_i hv hc
        have := Nat.eq_of_beq_eq_true hv; subst this
        exact .mo hb (clsO_of hc)
      · rename_i hb
        split at h <;> try cases h
        rename_i hv hc
        have := Nat.eq_of_beq_eq_true hv; subst this
        split at h <;> try cases h
        rename_i hd
        exact .mp hb (clsO_of hc) (clsO_of hd)
      · rename_i hb
        split at h <;> try cases h
        rename_i hv hc
        have := Nat.eq_of_beq_eq_true hv; subst this
        split at h <;> try cases h
        rename_i hd
        exact .hp hb (clsO_of hc) (clsO_of hd)
    · split at h <;> try cases h
      rename_i hb
      split at h <;> try cases h
      rename_i hv hc
      have := Nat.eq_of_beq_eq_true hv; subst this
      split at h <;> try cases h
      rename_i hd
      exact .ob hb (clsO_of hc) (clsO_of hd)
    · split at h <;> try cases h
      rename_i hc
      exact .fn (clsO_of hc)
    · split at h <;> try cases h
      rename_i hc
      exact .leaf rfl (clsO_of hc)
    · split at h <;> try cases h
      rename_i hc
      exact .leaf rfl (clsO_of hc)
    · split at h <;> try cases h
      rename_i hc
      exact .leaf rfl (clsO_of hc)
    · split at h <;> try cases h
      rename_i hc
      exact .leaf rfl (clsO_of hc)
    · cases h
section
variable {s s' : AS}
theorem gh_openM {j u n : Nat} {ks : List Value} {rows : List (List AV)} {c c' : List AV} {b2 : List Sl} (hj : s.b[j]? = some ⟨u, .m ks rows none none⟩) (hc : rows[n]? = some c) (hop : opnC c (s.b.set j ⟨u, .o⟩) = (c', b2)) (hk : b2[j]? = some ⟨u, .o⟩) : Gh s ⟨s.t, b2.set j ⟨u, .m ks rows (some (n, c')) none⟩⟩ := by
  rintro X a w ⟨X', φ, κ, f, hX, h⟩
  obtain ⟨φ', κ', f', _, _, h1⟩ := h.openM hj hc hop hk
  exact ⟨X', φ', κ', f', hX, h1⟩
end
end Go.Proofs.Ytnjfchigdpifmaa

namespace Go.Proofs.Ytnjfchigdpifmaa
set_option linter.unusedVariables false
set_option linter.unusedSimpArgs false
open Go.RowKit
set_option maxRecDepth 100000
theorem ty_mp {T K E : Nat} {i : TI} (hT : tt[T]? = some i) (hk : i.kd = .mp K E) : Try.prog.underlying T = some (.map K E) := by
  obtain ⟨d, j, hd, _, h1, _⟩ := TI.parts (ty hT)
  rw [hk] at h1
  cases d with
  | map k v =>
    simp only [Kd.is, Bool.and_eq_true, beq_iff_eq] at h1
    obtain ⟨rfl, rfl⟩ := h1
    exact hd
  | _ => simp [Kd.is] at h1
/-- a key's value -/
def kvl : AV → Option Value
  | .sc v => some v
  | .ag l => match scs l with
    | some vs => some (.agg vs.toArray)
    | none => none
  | _ => none
/-- the cell of a row, also of the one that lies open -/
def rowAt (rows : List (List AV)) : Option (Nat × List AV) → Nat → Option AV
  | some (m, c), n => match Nat.beq m n with
    | true => c[0]?
    | false => match rows[n]? with
      | some r => match r[0]? with
        | some a => some a.cp
        | none => none
      | none => none
  | none, n => match rows[n]? with
    | some r => match r[0]? with
      | some a => some a.cp
      | none => none
    | none => none
/-- what a look-up tells -/
def lkV (ok : Bool) (av : AV) (is : Bool) : AV := match ok with
  | true => .tu [av, .sc (.bool is)]
  | false => av
/-- what may lie in a row as it is -/
def AV.pl : AV → Bool
  | .sc _ | .sl none _ _ => true
  | _ => false
def AV.nag : AV → Bool
  | .ag _ => false
  | _ => true
def oRow (n : Nat) (av : AV) : Option (Nat × List AV) := match av.pl with
  | true => none
  | false => some (n, [av])
def cRow (av : AV) : List AV := match av.pl with
  | true => [av]
  | false => [.de]
section
variable {X : Cx} {φ φ' : Fi} {κ κ' : Ka} {f : Nat → Ct} {L L' : Ct} {s s' : AS} {a : Act} {w w' : World} {R : Nat → Prop} {o : Oper} {av : AV}
theorem RV.kvl {a : AV} {v kv : Value} {S : Ct} (h : RV w φ κ R a v S) (hk : kvl a = some kv) : v = kv := by
  cases a <;> simp only [Go.Proofs.Ytnjfchigdpifmaa.kvl] at hk <;> try cases hk
  · cases h; rfl
  · split at hk <;> cases hk
    rename_i hs
    cases h with
    | ag hc _ => rw [hc.scs hs]
theorem RE.k1 {rows : List (List AV)} {us : List Value} {S : Ct} (h : RE w φ κ R 1 rows us S) {n : Nat} {r : List AV} {x : AV} (hr : rows[n]? = some r) (hx : r[0]? = some x) : ∃ v, us[n]? = some v ∧ RV w φ κ R x.cp v Ct.z := by
  obtain ⟨cs, T, hc, hl, ho, hat⟩ := RE.at' h hr
  obtain ⟨v, hv, hrv⟩ := hc.at' ho.2 hx
  exact ⟨v, by simpa using hat 0 v hv, hrv⟩
theorem RO.at_ {rows : List (List AV)} {op : Option (Nat × List AV)} {us : List Value} {S : Ct} (h : RO w φ κ R 1 rows op us S) {n : Nat} (hn : rowAt rows op n = some av) : ∃ v, us[n]? = some v ∧ RV w φ κ R av v Ct.z := by
  cases h with
  | no he =>
    simp only [rowAt] at hn
    split at hn <;> try cases hn
    rename_i hr
    split at hn <;> cases hn
    rename_i hx
    exact he.k1 hr hx
  | @yes m c us1 cs us2 _ S1 S2 _ hm e1 e2 e3 e4 e6 e7 e8 =>
    have l1 := e1.length
    rw [List.length_take, Nat.mul_one, Nat.min_eq_left (Nat.le_of_lt hm)] at l1
    simp only [rowAt] at hn
    split at hn
    · rename_i hb
      have := Nat.eq_of_beq_eq_true hb; subst this
      obtain ⟨v, hv, hr⟩ := e2.at_ hn
      refine ⟨v, ?_, hr⟩
      rw [e7, List.append_assoc, List.getElem?_append_right (by omega), l1, Nat.sub_self]
      rw [List.getElem?_append_left (by omega)]; exact hv
    · rename_i hb
      have hne : m ≠ n := by intro h; subst h; simp at hb
      split at hn <;> try cases hn
      rename_i r hr
      split at hn <;> cases hn
      rename_i hx
      rcases Nat.lt_or_gt_of_ne hne with hlt | hlt
      · have : (rows.drop (m + 1))[n - (m + 1)]? = some r := by rw [List.getElem?_drop, show m + 1 + (n - (m + 1)) = n by omega]; exact hr
        obtain ⟨v, hv, hrv⟩ := e6.k1 this hx
        refine ⟨v, ?_, hrv⟩
        rw [e7, List.getElem?_append_right (by simp; omega)]
        rw [show n - (us1 ++ cs).length = n - (m + 1) by simp; omega]; exact hv
      · have : (rows.take m)[n]? = some r := by rw [List.getElem?_take, if_pos hlt]; exact hr
        obtain ⟨v, hv, hrv⟩ := e1.k1 this hx
        refine ⟨v, ?_, hrv⟩
        rw [e7, List.append_assoc, List.getElem?_append_left (by omega)]; exact hv
theorem RO.len {rows : List (List AV)} {op : Option (Nat × List AV)} {us : List Value} {S : Ct} {k : Nat} (h : RO w φ κ R k rows op us S) : us.length = rows.length * k := by
  cases h with
  | no he => exact he.length
  | @yes m c us1 cs us2 _ S1 S2 _ hm e1 e2 e3 e4 e6 e7 e8 =>
    have l1 := e1.length
    have l2 := e6.length
    rw [e7]
    simp only [List.length_append, l1, l2, e3, List.length_take, List.length_drop]
    rw [Nat.min_eq_left (Nat.le_of_lt hm)]
    have : rows.length = m + (1 + (rows.length - (m + 1))) := by omega
    conv => rhs; rw [this]
    rw [Nat.add_mul, Nat.add_mul]; omega
/-- what a map's number stands for -/
theorem SatW.map_ (h : SatW X φ κ f L s a w) {x : Operand} {j u : Nat} {ks : List Value} {rows : List (List AV)} {op : Option (Nat × List AV)} {st : Option (Nat × Nat × Nat)} (hx : aev s x = .hd j u) (hs : s.b[j]? = some ⟨u, .m ks rows op st⟩) :
    ∃ g es clock us S, a.eval x = .map (some g) ∧ w.heap[g]? = some (.map es clock) ∧ MapIn es clock ks us ∧ RO w φ κ X.R 1 rows op us S ∧ StIn κ es st ∧ κ j u = some (.map (some g)) ∧ ∀ y, f j y = (if y = g then 1 else 0) + S y := by
  have h1 := h.evs hx
  have h2 := h.sl j _ hs
  generalize a.eval x = p at h1
  generalize f j = F at h2
  cases h1 with
  | hd hκ _ =>
    cases h2 with
    | @m _ _ _ _ g es clock us S _ hκ' hro hh hm hst hS =>
      rw [hκ] at hκ'; injection hκ' with e; subst e
      exact ⟨g, es, clock, us, S, rfl, hh, hm, hro, hst, hκ, hS⟩
theorem MapIn.keys {es : Array MapEntry} {clock : Nat} {ks us : List Value} (h : MapIn es clock ks us) {P : Program} {K : TypeId} {sh : List Sh} (hk : ∀ k ∈ ks, isKey P K sh k = true) : ∀ e ∈ es.toList, isKey P K sh e.key = true := fun e he => hk _ (by rw [← h.ky]; exact List.mem_map.2 ⟨e, he, rfl⟩)
theorem MapIn.at_ {es : Array MapEntry} {clock : Nat} {ks us : List Value} (h : MapIn es clock ks us) {n : Nat} {k v : Value} (hk : ks[n]? = some k) (hv : us[n]? = some v) : ∃ e, es[n]? = some e ∧ e.key = k ∧ e.val = v := by
  rw [← h.ky, List.getElem?_map, Option.map_eq_some_iff] at hk
  obtain ⟨e, he, rfl⟩ := hk
  rw [← h.vl, List.getElem?_map, he] at hv
  simp at hv
  exact ⟨e, by simpa using he, rfl, hv⟩
theorem run_zero1 {E : Nat} {ie : TI} {c : ZC} (hE : tt[E]? = some ie) (hz : ie.zero = some [c]) (hr : rowK ie.kd = false) (w : World) : (zeroValue E).run Try.prog w = .ok c.val w := by
  obtain ⟨d, j, hd, hj, h1, _, _, hzz⟩ := TI.parts (ty hE)
  obtain ⟨v, hv, hvc, _, hag, htu⟩ := hzz _ hz
  have : v = c.val := by
    have hna : ¬ ∃ c, v = .agg c := by
      rw [hag]
      cases hk : ie.kd <;> rw [hk] at h1 hr <;> simp [rowK] at hr <;> cases d <;> simp [Kd.is] at h1 ⊢
    have : v.cells.toList = [v] := by
      cases v <;> first | rfl | (exact absurd ⟨_, rfl⟩ hna) | (exact absurd rfl (htu _))
    rw [this] at hvc
    simpa using hvc
  subst this
  simp [zeroValue, typeInfo, hj, hv, go_sem]
/-- looked up, found -/
theorem pq_look {T K E n : Nat} {x y : Operand} {ok : Bool} {j u : Nat} {ks : List Value} {rows : List (List AV)} {op : Option (Nat × List AV)} {st : Option (Nat × Nat × Nat)} {kv : Value} {i : TI} {sh : List Sh}
    (ho : o.op = .lookup T x y ok) (hx : aev s x = .hd j u) (hs : s.b[j]? = some ⟨u, .m ks rows op st⟩) (hy : kvl (aev s y) = some kv) (hT : tt[T]? = some i) (hk : i.kd = .mp K E) (hf : flatT Try.prog 9 K = some sh) (hkv : isKey Try.prog K sh kv = true) (hks : ∀ k ∈ ks, isKey Try.prog K sh k = true)
    (hn : fnd kv ks = some n) (hr : rowAt rows op n = some av) : Pq Try.prog X s o (lkV ok av true) := .of_run fun X φ κ f a w h => by
  obtain ⟨g, es, clock, us, S, he, hh, hm, hro, _, _, hS⟩ := h.map_ hx hs
  have hyv := (h.ev y).kvl hy
  obtain ⟨v, hv, hrv⟩ := hro.at_ hr
  obtain ⟨k', hk', hkq⟩ := fnd_at hn
  obtain ⟨e, hen, hek, hev⟩ := hm.at_ hk' hv
  have hfE : fndE kv es.toList = some (n, v) := by
    simp only [fndE, hm.ky, hn]; simp [hen, hev]
  have hjl : j < s.b.length := (List.getElem?_eq_some_iff.1 hs).1
  have hrun : ∀ w', Below w.heap.size w w' → (execOp a.eval o).run Try.prog w' = .ok (.value (if ok then .tuple #[v, .bool true] else v)) w' := fun w' hb => by
    have hgl : g < w.heap.size := (Array.getElem?_eq_some_iff.1 hh).1
    have hh' : w'.heap[g]? = some (.map es clock) := (hb.block g hgl).trans hh
    have e1 := run_findKey_flat (w := w') (es := es.toList) hf hkv (hm.keys hks)
    have e2 : (Instr.lookup T (.map (some g)) kv ok).run Try.prog w' = .ok (if ok then .tuple #[v, .bool true] else v) w' := by
      simp [Instr.lookup, run_underlying (ty_mp hT hk), MapKept.run_getObj_map hh', run_check es.isEmpty hf hkv, e1, hfE, Result.andThen]
    simp only [execOp, ho, he, hyv, Sem.run_bind, e2]; rfl
  cases ok with
  | true => exact ⟨_, .tu (.cons (S := Ct.z) (T := Ct.z) hrv (.cons (S := Ct.z) (T := Ct.z) (.sc rfl) .nil fun _ => rfl) fun _ => rfl), fun w' hb => by simpa using hrun w' hb⟩
  | false => exact ⟨_, hrv, fun w' hb => by simpa using hrun w' hb⟩
/-- looked up, not there -/
theorem pq_lookN {T K E : Nat} {x y : Operand} {ok : Bool} {j u : Nat} {ks : List Value} {rows : List (List AV)} {op : Option (Nat × List AV)} {st : Option (Nat × Nat × Nat)} {kv : Value} {i ie : TI} {sh : List Sh} {c : ZC}
    (ho : o.op = .lookup T x y ok) (hx : aev s x = .hd j u) (hs : s.b[j]? = some ⟨u, .m ks rows op st⟩) (hy : kvl (aev s y) = some kv) (hT : tt[T]? = some i) (hk : i.kd = .mp K E) (hE : tt[E]? = some ie) (hz : ie.zero = some [c]) (hrk : rowK ie.kd = false) (hf : flatT Try.prog 9 K = some sh) (hkv : isKey Try.prog K sh kv = true) (hks : ∀ k ∈ ks, isKey Try.prog K sh k = true)
    (hn : fnd kv ks = none) : Pq Try.prog X s o (lkV ok (.sc c.val) false) := .of_run fun X φ κ f a w h => by
  obtain ⟨g, es, clock, us, S, he, hh, hm, hro, _, _, hS⟩ := h.map_ hx hs
  have hyv := (h.ev y).kvl hy
  have hfE : fndE kv es.toList = none := by simp only [fndE, hm.ky, hn]
  have hone : c.val.oneCell' = true := by cases c <;> rfl
  have hrun : ∀ w', Below w.heap.size w w' → (execOp a.eval o).run Try.prog w' = .ok (.value (if ok then .tuple #[c.val, .bool false] else c.val)) w' := fun w' hb => by
    have hgl : g < w.heap.size := (Array.getElem?_eq_some_iff.1 hh).1
    have hh' : w'.heap[g]? = some (.map es clock) := (hb.block g hgl).trans hh
    have e1 := run_findKey_flat (w := w') (es := es.toList) hf hkv (hm.keys hks)
    have e2 : (Instr.lookup T (.map (some g)) kv ok).run Try.prog w' = .ok (if ok then .tuple #[c.val, .bool false] else c.val) w' := by
      simp [Instr.lookup, run_underlying (ty_mp hT hk), MapKept.run_getObj_map hh', run_check es.isEmpty hf hkv, e1, hfE, run_zero1 hE hz hrk, Result.andThen]
    simp only [execOp, ho, he, hyv, Sem.run_bind, e2]; rfl
  cases ok with
  | true => exact ⟨_, .tu (.cons (S := Ct.z) (T := Ct.z) (.sc hone) (.cons (S := Ct.z) (T := Ct.z) (.sc rfl) .nil fun _ => rfl) fun _ => rfl), fun w' hb => by simpa using hrun w' hb⟩
  | false => exact ⟨_, .sc hone, fun w' hb => by simpa using hrun w' hb⟩
variable {ops : Array Oper} {rest : List Oper} {Q : Exit → AS → Prop}
/-- a map is made -/
theorem ap_makeMap {T : Nat} (hg : o.guard = none) (ho : o.op = .makeMap T none)
    (K : AP Try.prog X ops Q rest (AS.put ⟨s.t, (newS s.b (.m [] [] none none)).2⟩ o.dst (.hd (newS s.b (.m [] [] none none)).1.1 (newS s.b (.m [] [] none none)).1.2))) : AP Try.prog X ops Q (o :: rest) s :=
  .run hg (fun X φ κ f a w h => by
    have hrun : (execOp a.eval o).run Try.prog w = .ok (.value (.map (some w.heap.size))) (w.alloc (.map #[] 0)) := by
      simp only [execOp, ho]; rfl
    obtain ⟨φ', κ', f', e1, e2, _, e4, e5⟩ := h.newS_ (w' := w.alloc (.map #[] 0)) (B := .m [] [] none none) (g := fun x => (if x = w.heap.size then 1 else 0) + Ct.z x) (L' := Ct.z) none (some (.map (some w.heap.size))) (by simp) rfl rfl rfl
      (fun x hx _ => Below.heap_alloc w _ x hx) (fun φ' κ' j u a b c d => .m d (.no .nil) (heap_alloc_new w _) MapIn.nil trivial fun _ => rfl)
      (fun x hx => by simp [Ct.z]; omega) (fun x hx => by simp only [Ct.z]; split <;> simp_all)
    exact ⟨_, _, φ', κ', f', hrun, e5.puts o.dst (.hd e4 rfl)⟩) K
/-- what a value is, as a row -/
theorem RO.put {rows : List (List AV)} {us : List Value} {S : Ct} {v : Value} {n : Nat} (he : RE w φ κ R 1 (rows.take n) (us.take n) S) {S2 : Ct} (hd : RE w φ κ R 1 (rows.drop (n + 1)) (us.drop (n + 1)) S2) (hn : n < rows.length) (hv : RV w φ κ R av v Ct.z) (ho : v.oneCell' = true) (T : Ct) (hT : ∀ x, T x = S x + S2 x) :
    RO w φ κ R 1 (rows.set n (cRow av)) (oRow n av) (us.take n ++ [v] ++ us.drop (n + 1)) T := by
  have hl : rows.set n (cRow av) = rows.take n ++ cRow av :: rows.drop (n + 1) := by rw [List.set_eq_take_append_cons_drop, if_pos hn]
  cases hp : av.pl with
  | true =>
    have hc : cRow av = [av] := by unfold cRow; rw [hp]
    have hor : oRow n av = none := by unfold oRow; rw [hp]
    have hlf : av.leaf = true := by cases av <;> first | rfl | (cases hp; done)
    rw [hor, hl, hc, List.append_assoc]
    refine .no (he.append (T := fun x => Ct.z x + S2 x) (.cons (S := Ct.z) (T := S2) (us := [v]) (.cons (S := Ct.z) (T := Ct.z) hv .nil fun _ => rfl) rfl ⟨fun u hu => (by simp at hu; subst hu; exact ho), fun x hx => (by simp at hx; subst hx; exact hlf)⟩ hd fun _ => rfl) fun x => ?_)
    rw [hT]; simp [Ct.z]
  | false =>
    have hor : oRow n av = some (n, [av]) := by unfold oRow; rw [hp]
    have ht : ∀ c : List AV, (rows.set n c).take n = rows.take n := fun c => by rw [List.take_set_of_le (Nat.le_refl _)]
    have hdr : ∀ c : List AV, (rows.set n c).drop (n + 1) = rows.drop (n + 1) := fun c => by rw [List.drop_set_of_lt (by omega)]
    rw [hor]
    exact .yes (by simpa using hn) (by rw [ht]; exact he) (.cons (S := Ct.z) (T := Ct.z) hv .nil fun _ => rfl) rfl (fun u hu => (by simp at hu; subst hu; exact ho)) (by rw [hdr]; exact hd) rfl hT
theorem RE.split {k n : Nat} : ∀ {rows : List (List AV)} {us : List Value} {S : Ct}, RE w φ κ R k rows us S → n ≤ rows.length → ∃ S1 S2, RE w φ κ R k (rows.take n) (us.take (n * k)) S1 ∧ RE w φ κ R k (rows.drop n) (us.drop (n * k)) S2 ∧ ∀ x, S x = S1 x + S2 x := by
  induction n with
  | zero => intro rows us S h _; exact ⟨Ct.z, S, by simpa using RE.nil, by simpa using h, fun x => by simp [Ct.z]⟩
  | succ n ih =>
    intro rows us S h hn
    cases h with
    | nil => simp at hn
    | cons h1 h2 h3 h4 h5 =>
      obtain ⟨S1, S2, e1, e2, e3⟩ := ih h4 (by simpa using hn)
      rename_i us' vs Sc T
      have q : (n + 1) * k = us'.length + n * k := by rw [Nat.add_mul, h2]; omega
      refine ⟨_, S2, ?_, ?_, fun x => (by rw [h5, e3, ← Nat.add_assoc])⟩
      · rw [q, List.take_succ_cons, List.take_length_add_append]
        exact .cons h1 h2 h3 e1 fun _ => rfl
      · rw [q, List.drop_succ_cons, List.drop_length_add_append]
        exact e2
theorem RO.drp {rows : List (List AV)} {us : List Value} {S : Ct} {n : Nat} (h : RO w φ κ R 1 rows none us S) (hn : n < rows.length) : ∃ S1 S2, RE w φ κ R 1 (rows.take n) (us.take n) S1 ∧ RE w φ κ R 1 (rows.drop (n + 1)) (us.drop (n + 1)) S2 ∧ ∀ x, S1 x + S2 x ≤ S x := by
  cases h with
  | no he =>
    obtain ⟨S1, S2, e1, e2, e3⟩ := he.split (n := n) (Nat.le_of_lt hn)
    obtain ⟨S3, S4, e4, e5, e6⟩ := e2.split (n := 1) (by simp; omega)
    refine ⟨S1, S4, by simpa using e1, ?_, fun x => (by rw [e3, e6]; omega)⟩
    simp only [List.drop_drop, Nat.mul_one] at e5
    exact e5
/-- one's own map turns -/
theorem SatW.mapTurn (h : SatW X φ κ f Ct.z s a w) {j u g : Nat} {ks : List Value} {rows : List (List AV)} {op : Option (Nat × List AV)} {st : Option (Nat × Nat × Nat)} {es es' : Array MapEntry} {clock clock' : Nat} {ks' us' : List Value} {rows' : List (List AV)} {op' : Option (Nat × List AV)} {st' : Option (Nat × Nat × Nat)} {S S' : Ct}
    (hs : s.b[j]? = some ⟨u, .m ks rows op st⟩) (hκ : κ j u = some (.map (some g))) (hh : w.heap[g]? = some (.map es clock)) (hS : ∀ y, f j y = (if y = g then 1 else 0) + S y)
    (hro : RO w φ κ X.R 1 rows' op' us' S') (hm : MapIn es' clock' ks' us') (hst : StIn κ es' st') (hle : ∀ x, S' x ≤ S x) :
    ∃ f', SatW X φ κ f' Ct.z ⟨s.t, s.b.set j ⟨u, .m ks' rows' op' st'⟩⟩ a (ChangeMaps.setBlock w g (.map es' clock')) := by
  have hjl : j < s.b.length := (List.getElem?_eq_some_iff.1 hs).1
  have hgl : g < w.heap.size := (Array.getElem?_eq_some_iff.1 hh).1
  have hhp : ∀ x, x ≠ g → (ChangeMaps.setBlock w g (.map es' clock')).heap[x]? = w.heap[x]? := fun x hx => by simp [ChangeMaps.setBlock, Array.getElem?_setIfInBounds, Ne.symm hx]
  have hone : ∀ x, f j x ≤ 1 := fun x => by have := sumF_le f x _ j hjl; have := h.one x; omega
  have hR : ∀ x, X.R x → (ChangeMaps.setBlock w g (.map es' clock')).heap[x]? = w.heap[x]? := fun x hx => by
    have h3 := h.not_rd hx
    have h4 := sumF_le f x _ j hjl
    have h5 := hS x
    exact hhp x (by rintro rfl; simp at h5; omega)
  refine ⟨_, h.turn (w' := ChangeMaps.setBlock w g (.map es' clock')) (B := .m ks' rows' op' st') (u := u) (g := fun x => (if x = g then 1 else 0) + S' x) (L' := Ct.z) hs (fun _ _ _ h => h) (fun _ _ _ h => h) (by simp [ChangeMaps.setBlock]) rfl rfl rfl ?_ ?_ (fun x _ => ?_) (fun x hx => ?_) (Nat.le_refl _) (fun _ _ _ h => h) (fun _ _ _ h => h)⟩
  · intro x hx h0
    have := hS x
    exact hhp x (by rintro rfl; simp at this; omega)
  · refine .m hκ (RO.keep hR hro fun x hx => ?_) (by simp [ChangeMaps.setBlock, Array.getElem?_setIfInBounds, hgl]) hm hst fun _ => rfl
    have h5 := hS x
    have h6 := hone x
    have h7 := hle x
    exact hhp x (by rintro rfl; simp at h5; omega)
  · have := hS x; have := hle x; simp only [Ct.z]; omega
  · simp only [Ct.z]
    have h5 := hS x
    have h7 := hle x
    have h8 : f j x = 0 := by
      by_cases h8 : f j x = 0
      · exact h8
      · have := sumF_le f x _ j hjl
        have := h.own x (by omega); omega
    exact ⟨by omega, fun h0 => by omega⟩
theorem RV.one {v : Value} {S : Ct} (h : RV w φ κ R av v S) (hk : av.known = true) (ha : av.nag = true) : v.oneCell' = true := by
  cases h <;> first | assumption | rfl | (cases hk; done) | (cases ha; done)
/-- an entry is written, where there is one -/
theorem ap_mapUpd {T K E n : Nat} {x y z : Operand} {j u : Nat} {ks : List Value} {rows : List (List AV)} {st : Option (Nat × Nat × Nat)} {kv : Value} {i : TI} {sh : List Sh}
    (hg : o.guard = none) (ho : o.op = .mapUpdate T x y z) (hx : aev s x = .hd j u) (hs : s.b[j]? = some ⟨u, .m ks rows none st⟩) (hy : kvl (aev s y) = some kv) (hz : aev s z = av) (hav : av.known = true) (hag : av.nag = true) (hT : tt[T]? = some i) (hk : i.kd = .mp K E) (hf : flatT Try.prog 9 K = some sh) (hkv : isKey Try.prog K sh kv = true) (hks : ∀ k ∈ ks, isKey Try.prog K sh k = true)
    (hn : fnd kv ks = some n) (KK : AP Try.prog X ops Q rest (AS.put ⟨s.t, s.b.set j ⟨u, .m ks (rows.set n (cRow av)) (oRow n av) none⟩⟩ o.dst (.tu []))) : AP Try.prog X ops Q (o :: rest) s :=
  .runU hg (fun X φ κ f a w h => by
    obtain ⟨g, es, clock, us, S, he, hh, hm, hro, hst, hκ, hS⟩ := h.map_ hx hs
    have hyv := (h.ev y).kvl hy
    have hzv := h.evs hz
    have hone := hzv.one hav hag
    have hlen := hro.len
    obtain ⟨l1, l2⟩ := hm.kl
    have hnl := fnd_lt hn
    obtain ⟨k', hk', hkq⟩ := fnd_at hn
    obtain ⟨v0, hv0⟩ : ∃ v0, us[n]? = some v0 := ⟨_, List.getElem?_eq_getElem (by omega)⟩
    obtain ⟨e, hen, hek, hev⟩ := hm.at_ hk' hv0
    have hkk : k' = kv := (kEq_eq hkv (hks k' (List.mem_of_getElem? hk')) hkq).symm
    subst hkk
    have hfE : fndE k' es.toList = some (n, v0) := by simp only [fndE, hm.ky, hn]; simp [hen, hev]
    have e1 := run_findKey_flat (w := w) (es := es.toList) hf hkv (hm.keys hks)
    have hrun : (execOp a.eval o).run Try.prog w = .ok .skip (ChangeMaps.setBlock w g (.map (es.modify n fun e => { e with key := k', val := a.eval z }) clock)) := by
      have : (Instr.mapUpdate T (.map (some g)) k' (a.eval z)).run Try.prog w = .ok () (ChangeMaps.setBlock w g (.map (es.modify n fun e => { e with key := k', val := a.eval z }) clock)) := by
        simp [Instr.mapUpdate, run_underlying (ty_mp hT hk), MapKept.run_getObj_map hh, run_check false hf hkv, e1, hfE, hen, hek, run_stays hkv, MapKept.run_setObj_map _ hh, Result.andThen, ChangeMaps.setBlock]
      simp only [execOp, ho, he, hyv, Sem.run_bind, this]; rfl
    obtain ⟨S1, S2, r1, r2, r3⟩ := hro.drp (n := n) (by omega)
    have hm' := hm.mod hen (a.eval z) (fun e => { e with key := k', val := a.eval z }) (by rw [← hek])
    have hset : us.set n (a.eval z) = us.take n ++ [a.eval z] ++ us.drop (n + 1) := by rw [List.set_eq_take_append_cons_drop, if_pos (by omega)]; simp
    rw [hset] at hm'
    obtain ⟨f', h'⟩ := h.mapTurn hs hκ hh hS (RO.put r1 r2 (by omega) hzv hone _ fun _ => rfl) hm' (st' := none) trivial r3
    exact ⟨_, φ, κ, f', hrun, h'.puts o.dst (RV.tu RC.nil)⟩) KK
/-- an entry is written, where there is none -/
theorem ap_mapNew {T K E : Nat} {x y z : Operand} {j u : Nat} {ks : List Value} {rows : List (List AV)} {st : Option (Nat × Nat × Nat)} {kv : Value} {i : TI} {sh : List Sh}
    (hg : o.guard = none) (ho : o.op = .mapUpdate T x y z) (hx : aev s x = .hd j u) (hs : s.b[j]? = some ⟨u, .m ks rows none st⟩) (hy : kvl (aev s y) = some kv) (hz : aev s z = av) (hav : av.known = true) (hag : av.nag = true) (hT : tt[T]? = some i) (hk : i.kd = .mp K E) (hf : flatT Try.prog 9 K = some sh) (hkv : isKey Try.prog K sh kv = true) (hks : ∀ k ∈ ks, isKey Try.prog K sh k = true)
    (hn : fnd kv ks = none) (KK : AP Try.prog X ops Q rest (AS.put ⟨s.t, s.b.set j ⟨u, .m (ks ++ [kv]) (rows ++ [cRow av]) (oRow rows.length av) none⟩⟩ o.dst (.tu []))) : AP Try.prog X ops Q (o :: rest) s :=
  .runU hg (fun X φ κ f a w h => by
    obtain ⟨g, es, clock, us, S, he, hh, hm, hro, hst, hκ, hS⟩ := h.map_ hx hs
    have hyv := (h.ev y).kvl hy
    have hzv := h.evs hz
    have hone := hzv.one hav hag
    have hlen := hro.len
    obtain ⟨l1, l2⟩ := hm.kl
    have hfE : fndE kv es.toList = none := by simp only [fndE, hm.ky, hn]
    have e1 := run_findKey_flat (w := w) (es := es.toList) hf hkv (hm.keys hks)
    have hrun : (execOp a.eval o).run Try.prog w = .ok .skip (ChangeMaps.setBlock w g (.map (es.push ⟨kv, a.eval z, clock⟩) (clock + 1))) := by
      have : (Instr.mapUpdate T (.map (some g)) kv (a.eval z)).run Try.prog w = .ok () (ChangeMaps.setBlock w g (.map (es.push ⟨kv, a.eval z, clock⟩) (clock + 1))) := by
        simp [Instr.mapUpdate, run_underlying (ty_mp hT hk), MapKept.run_getObj_map hh, run_check false hf hkv, e1, hfE, MapKept.run_setObj_map _ hh, Result.andThen, ChangeMaps.setBlock]
      simp only [execOp, ho, he, hyv, Sem.run_bind, this]; rfl
    have hm' := hm.push kv (a.eval z)
    cases hro with
    | no hre =>
      rw [Nat.mul_one] at hlen
      have e3 := RO.put (rows := rows ++ [cRow av]) (us := us ++ [a.eval z]) (n := rows.length) (av := av) (v := a.eval z) (S := S) (S2 := Ct.z) (w := w) (φ := φ) (κ := κ) (R := X.R) (by simpa [hlen] using hre) (by rw [List.drop_of_length_le (by simp), List.drop_of_length_le (by simp; omega)]; exact .nil) (by simp) hzv hone S fun x => by simp [Ct.z]
      have q1 : (rows ++ [cRow av]).set rows.length (cRow av) = rows ++ [cRow av] := by simp
      have q2 : (us ++ [a.eval z]).take rows.length ++ [a.eval z] ++ (us ++ [a.eval z]).drop (rows.length + 1) = us ++ [a.eval z] := by simp [← hlen]
      rw [q1, q2] at e3
      obtain ⟨f', h'⟩ := h.mapTurn hs hκ hh hS e3 hm' (st' := none) trivial fun x => Nat.le_refl _
      exact ⟨_, φ, κ, f', hrun, h'.puts o.dst (RV.tu RC.nil)⟩) KK
/-- an entry that is turned: its value, its stamp -/
theorem ap_entry {T K E n : Nat} {x y : Operand} {j u : Nat} {ks : List Value} {rows : List (List AV)} {st : Option (Nat × Nat × Nat)} {kv : Value} {i : TI} {sh : List Sh}
    (hg : o.guard = none) (ho : o.op = .mapEntry T x y) (hx : aev s x = .hd j u) (hs : s.b[j]? = some ⟨u, .m ks rows none st⟩) (hy : kvl (aev s y) = some kv) (hT : tt[T]? = some i) (hk : i.kd = .mp K E) (hf : flatT Try.prog 9 K = some sh) (hkv : isKey Try.prog K sh kv = true) (hks : ∀ k ∈ ks, isKey Try.prog K sh k = true)
    (hn : fnd kv ks = some n) (hr : rowAt rows none n = some av) (hjx : j ≠ (newS s.b .x).1.1)
    (KK : AP Try.prog X ops Q rest (AS.put ⟨s.t, (newS s.b .x).2.set j ⟨u, .m ks rows none (some (n, (newS s.b .x).1.1, (newS s.b .x).1.2))⟩⟩ o.dst (.tu [av, .hd (newS s.b .x).1.1 (newS s.b .x).1.2]))) : AP Try.prog X ops Q (o :: rest) s :=
  .run hg (fun X φ κ f a w h => by
    obtain ⟨g, es, clock, us, S, he, hh, hm, hro, hst, hκ, hS⟩ := h.map_ hx hs
    have hyv := (h.ev y).kvl hy
    obtain ⟨l1, l2⟩ := hm.kl
    have hnl := fnd_lt hn
    obtain ⟨k', hk', hkq⟩ := fnd_at hn
    obtain ⟨v0, hv0, hrv⟩ := hro.at_ hr
    obtain ⟨e, hen, hek, hev⟩ := hm.at_ hk' hv0
    have hkk : k' = kv := (kEq_eq hkv (hks k' (List.mem_of_getElem? hk')) hkq).symm
    subst hkk
    have hfE : fndE k' es.toList = some (n, v0) := by simp only [fndE, hm.ky, hn]; simp [hen, hev]
    have e1 := run_findKey_flat (w := w) (es := es.toList) hf hkv (hm.keys hks)
    have hrun : (execOp a.eval o).run Try.prog w = .ok (.value (.tuple #[v0, goInt e.born])) (ChangeMaps.setBlock w g (.map (es.modify n fun e => { e with key := k' }) clock)) := by
      have : (Instr.mapEntry T (.map (some g)) k').run Try.prog w = .ok (.tuple #[v0, goInt e.born]) (ChangeMaps.setBlock w g (.map (es.modify n fun e => { e with key := k' }) clock)) := by
        simp [Instr.mapEntry, run_underlying (ty_mp hT hk), MapKept.run_getObj_map hh, run_check false hf hkv, e1, hfE, hen, hek, run_stays hkv, MapKept.run_setObj_map _ hh, Result.andThen, ChangeMaps.setBlock]
      simp only [execOp, ho, he, hyv, Sem.run_bind, this]; rfl
    have hm' := hm.mod hen v0 (fun e => { e with key := k' }) (by rw [← hek, ← hev])
    have hset : us.set n v0 = us := by
      apply List.ext_getElem?
      intro i
      rw [List.getElem?_set]
      split
      · rename_i hi; subst hi; rw [if_pos (by omega), hv0]
      · rfl
    rw [hset] at hm'
    have hen' : (es.modify n fun e => { e with key := k' })[n]? = some e := by
      rw [Array.getElem?_modify]; simp [hen, ← hek]
    obtain ⟨φ1, κ1, f1, q1, q2, _, q4, q5⟩ := h.newS_ (w' := w) (B := .x) (g := Ct.z) (L' := Ct.z) none (some (goInt e.born)) (Nat.le_refl _) rfl rfl rfl (fun _ _ _ => rfl) (fun _ _ _ _ _ _ _ _ => .x) (fun x _ => by simp [Ct.z]) (fun x _ => by simp [Ct.z])
    have hs1 : (newS s.b .x).2[j]? = some ⟨u, .m ks rows none st⟩ := by
      unfold newS at hjx ⊢
      cases hfx : findX s.b 0 with
      | some p =>
        obtain ⟨d, v⟩ := p
        rw [hfx] at hjx
        dsimp only at hjx ⊢
        rw [List.getElem?_set_ne (Ne.symm hjx)]; exact hs
      | none =>
        dsimp only
        rw [List.getElem?_append_left (List.getElem?_eq_some_iff.1 hs).1]; exact hs
    obtain ⟨g1, es1, clock1, us1, S1, he1, hh1, hm1, hro1, hst1, hκ1, hS1⟩ := SatW.map_ (s := ⟨s.t, (newS s.b .x).2⟩) q5 (x := x) (by cases x <;> exact hx) hs1
    rw [he] at he1; injection he1 with he1; injection he1 with he1; subst he1
    rw [hh] at hh1; injection hh1 with hh1; injection hh1 with ha hb; subst ha; subst hb
    have husq : us1 = us := by rw [← hm1.vl, ← hm.vl]
    subst husq
    obtain ⟨f2, h2⟩ := SatW.mapTurn (s := ⟨s.t, (newS s.b .x).2⟩) q5 hs1 hκ1 hh hS1 hro1 hm' (st' := some (n, (newS s.b .x).1.1, (newS s.b .x).1.2)) ⟨e, hen', q4⟩ fun x => Nat.le_refl _
    have hrv1 : RV (ChangeMaps.setBlock w g (.map (es.modify n fun e => { e with key := k' }) clock)) φ1 κ1 X.R av v0 Ct.z := by
      have := RV.hist q1 q2 (fun _ h => h) hrv
      refine RV.keep (fun x hx => ?_) this fun x hx => absurd rfl hx
      have h3 := h.not_rd hx
      have hjl : j < s.b.length := (List.getElem?_eq_some_iff.1 hs).1
      have h4 := sumF_le f x _ j hjl
      have h5 := hS x
      have : x ≠ g := by rintro rfl; simp at h5; omega
      simp [ChangeMaps.setBlock, Array.getElem?_setIfInBounds, Ne.symm this]
    exact ⟨_, _, φ1, κ1, f2, hrun, h2.puts o.dst (.tu (.cons (S := Ct.z) (T := Ct.z) hrv1 (.cons (S := Ct.z) (T := Ct.z) (.hd q4 rfl) .nil fun _ => rfl) fun _ => rfl))⟩) KK
/-- an entry that is turned, where there was none -/
theorem ap_entryN {T K E : Nat} {x y : Operand} {j u : Nat} {ks : List Value} {rows : List (List AV)} {st : Option (Nat × Nat × Nat)} {kv : Value} {i ie : TI} {sh : List Sh} {c : ZC}
    (hg : o.guard = none) (ho : o.op = .mapEntry T x y) (hx : aev s x = .hd j u) (hs : s.b[j]? = some ⟨u, .m ks rows none st⟩) (hy : kvl (aev s y) = some kv) (hT : tt[T]? = some i) (hk : i.kd = .mp K E) (hE : tt[E]? = some ie) (hzc : ie.zero = some [c]) (hrk : rowK ie.kd = false) (hf : flatT Try.prog 9 K = some sh) (hkv : isKey Try.prog K sh kv = true) (hks : ∀ k ∈ ks, isKey Try.prog K sh k = true)
    (hn : fnd kv ks = none) (hjx : j ≠ (newS s.b .x).1.1)
    (KK : AP Try.prog X ops Q rest (AS.put ⟨s.t, (newS s.b .x).2.set j ⟨u, .m (ks ++ [kv]) (rows ++ [[.sc c.val]]) none (some (rows.length, (newS s.b .x).1.1, (newS s.b .x).1.2))⟩⟩ o.dst (.tu [.sc c.val, .hd (newS s.b .x).1.1 (newS s.b .x).1.2]))) : AP Try.prog X ops Q (o :: rest) s :=
  .run hg (fun X φ κ f a w h => by
    obtain ⟨g, es, clock, us, S, he, hh, hm, hro, hst, hκ, hS⟩ := h.map_ hx hs
    have hyv := (h.ev y).kvl hy
    obtain ⟨l1, l2⟩ := hm.kl
    have hlen := hro.len
    have hone : c.val.oneCell' = true := by cases c <;> rfl
    have hfE : fndE kv es.toList = none := by simp only [fndE, hm.ky, hn]
    have e1 := run_findKey_flat (w := w) (es := es.toList) hf hkv (hm.keys hks)
    have hrun : (execOp a.eval o).run Try.prog w = .ok (.value (.tuple #[c.val, goInt clock])) (ChangeMaps.setBlock w g (.map (es.push ⟨kv, c.val, clock⟩) (clock + 1))) := by
      have : (Instr.mapEntry T (.map (some g)) kv).run Try.prog w = .ok (.tuple #[c.val, goInt clock]) (ChangeMaps.setBlock w g (.map (es.push ⟨kv, c.val, clock⟩) (clock + 1))) := by
        simp [Instr.mapEntry, run_underlying (ty_mp hT hk), MapKept.run_getObj_map hh, run_check false hf hkv, e1, hfE, run_zero1 hE hzc hrk, MapKept.run_setObj_map _ hh, Result.andThen, ChangeMaps.setBlock]
      simp only [execOp, ho, he, hyv, Sem.run_bind, this]; rfl
    have hm' := hm.push kv c.val
    have hen' : (es.push ⟨kv, c.val, clock⟩)[rows.length]? = some ⟨kv, c.val, clock⟩ := by
      rw [show rows.length = es.size by omega]; simp
    obtain ⟨φ1, κ1, f1, q1, q2, _, q4, q5⟩ := h.newS_ (w' := w) (B := .x) (g := Ct.z) (L' := Ct.z) none (some (goInt clock)) (Nat.le_refl _) rfl rfl rfl (fun _ _ _ => rfl) (fun _ _ _ _ _ _ _ _ => .x) (fun x _ => by simp [Ct.z]) (fun x _ => by simp [Ct.z])
    have hs1 : (newS s.b .x).2[j]? = some ⟨u, .m ks rows none st⟩ := by
      unfold newS at hjx ⊢
      cases hfx : findX s.b 0 with
      | some p =>
        obtain ⟨d, v⟩ := p
        rw [hfx] at hjx
        dsimp only at hjx ⊢
        rw [List.getElem?_set_ne (Ne.symm hjx)]; exact hs
      | none =>
        dsimp only
        rw [List.getElem?_append_left (List.getElem?_eq_some_iff.1 hs).1]; exact hs
    obtain ⟨g1, es1, clock1, us1, S1, he1, hh1, hm1, hro1, hst1, hκ1, hS1⟩ := SatW.map_ (s := ⟨s.t, (newS s.b .x).2⟩) q5 (x := x) (by cases x <;> exact hx) hs1
    rw [he] at he1; injection he1 with he1; injection he1 with he1; subst he1
    rw [hh] at hh1; injection hh1 with hh1; injection hh1 with ha hb; subst ha; subst hb
    have husq : us1 = us := by rw [← hm1.vl, ← hm.vl]
    subst husq
    cases hro1 with
    | no hre =>
      have hre' := hre.append (T := Ct.z) (U := S1) (.cons (k := 1) (c := [.sc c.val]) (us := [c.val]) (S := Ct.z) (T := Ct.z) (U := Ct.z) (.cons (S := Ct.z) (T := Ct.z) (.sc hone) .nil fun _ => rfl) rfl ⟨fun u hu => (by simp at hu; subst hu; exact hone), fun x hx => (by simp at hx; subst hx; rfl)⟩ .nil fun _ => rfl) fun x => by simp [Ct.z]
      rw [List.append_nil] at hre'
      obtain ⟨f2, h2⟩ := SatW.mapTurn (s := ⟨s.t, (newS s.b .x).2⟩) q5 hs1 hκ1 hh hS1 (.no hre') hm' (st' := some (rows.length, (newS s.b .x).1.1, (newS s.b .x).1.2)) ⟨_, hen', q4⟩ fun x => Nat.le_refl _
      exact ⟨_, _, φ1, κ1, f2, hrun, h2.puts o.dst (.tu (.cons (S := Ct.z) (T := Ct.z) (.sc hone) (.cons (S := Ct.z) (T := Ct.z) (.hd q4 rfl) .nil fun _ => rfl) fun _ => rfl))⟩) KK
/-- the entry is written by its stamp -/
theorem ap_stamp {T n : Nat} {x y z : Operand} {j u jd vd : Nat} {ks : List Value} {rows : List (List AV)}
    (hg : o.guard = none) (ho : o.op = .entryStore T x y z) (hx : aev s x = .hd j u) (hs : s.b[j]? = some ⟨u, .m ks rows none (some (n, jd, vd))⟩) (hy : aev s y = .hd jd vd) (hz : aev s z = av) (hav : av.known = true) (hag : av.nag = true)
    (KK : AP Try.prog X ops Q rest (AS.put ⟨s.t, s.b.set j ⟨u, .m ks (rows.set n (cRow av)) (oRow n av) none⟩⟩ o.dst (.tu []))) : AP Try.prog X ops Q (o :: rest) s :=
  .runU hg (fun X φ κ f a w h => by
    obtain ⟨g, es, clock, us, S, he, hh, hm, hro, hst, hκ, hS⟩ := h.map_ hx hs
    have hzv := h.evs hz
    have hone := hzv.one hav hag
    obtain ⟨e, hen, hkb⟩ := hst
    have hyv : a.eval y = goInt e.born := by
      have := h.evs hy
      generalize a.eval y = p at this
      cases this with
      | hd hκ' _ => rw [hkb] at hκ'; injection hκ' with e; exact e.symm
    obtain ⟨l1, l2⟩ := hm.kl
    have hlen := hro.len
    have hnl := (Array.getElem?_eq_some_iff.1 hen).1
    have hrun : (execOp a.eval o).run Try.prog w = .ok .skip (ChangeMaps.setBlock w g (.map (es.modify n fun e => { e with val := a.eval z }) clock)) := by
      have hb := hm.born hen
      have : (Instr.entryStore T (.map (some g)) (goInt e.born) (a.eval z)).run Try.prog w = .ok () (ChangeMaps.setBlock w g (.map (es.modify n fun e => { e with val := a.eval z }) clock)) := by
        simp [Instr.entryStore, MapKept.run_getObj_map hh, goInt, go_sem, hb, MapKept.run_setObj_map _ hh, Result.andThen, ChangeMaps.setBlock]
      simp only [execOp, ho, he, hyv, Sem.run_bind, this]; rfl
    obtain ⟨S1, S2, r1, r2, r3⟩ := hro.drp (n := n) (by omega)
    have hm' := hm.mod hen (a.eval z) (fun e => { e with val := a.eval z }) rfl
    have hset : us.set n (a.eval z) = us.take n ++ [a.eval z] ++ us.drop (n + 1) := by rw [List.set_eq_take_append_cons_drop, if_pos (by omega)]; simp
    rw [hset] at hm'
    obtain ⟨f', h'⟩ := h.mapTurn hs hκ hh hS (RO.put r1 r2 (by omega) hzv hone _ fun _ => rfl) hm' (st' := none) trivial r3
    exact ⟨_, φ, κ, f', hrun, h'.puts o.dst (RV.tu RC.nil)⟩) KK
end
end Go.Proofs.Ytnjfchigdpifmaa

namespace Go.Proofs.Ytnjfchigdpifmaa
set_option linter.unusedVariables false
set_option linter.unusedSimpArgs false
open Go.RowKit
set_option maxRecDepth 100000
section
variable {X : Cx} {φ φ' : Fi} {κ κ' : Ka} {f : Nat → Ct} {L L' : Ct} {s s' : AS} {a : Act} {w w' : World} {R : Nat → Prop} {o : Oper} {av : AV} {ops : Array Oper} {rest : List Oper} {Q : Exit → AS → Prop}
/-- what an array with an open row stands for -/
theorem SatW.opn_ (h : SatW X φ κ f L s a w) {j u k n : Nat} {e : TypeId} {rows : List (List AV)} {c : List AV} (hs : s.b[j]? = some ⟨u, .f e k rows n c⟩) :
    ∃ g cap cur us1 cs us2 S1 S2, κ j u = some (.slice (some ⟨g, 0, none⟩) rows.length cap) ∧ n < rows.length ∧ RE w φ κ X.R k (rows.take n) us1 S1 ∧ RC w φ κ X.R c cs Ct.z ∧ cs.length = k ∧ (∀ u ∈ cs, u.oneCell' = true) ∧ RE w φ κ X.R k (rows.drop (n + 1)) us2 S2 ∧
      Mk w g cur e ∧ rows.length ≤ cap ∧ cap ≤ maxLen ∧ cur.size = cap * k ∧ cur.toList.take (rows.length * k) = us1 ++ cs ++ us2 ∧ (∀ x, f j x = (if x = g then 1 else 0) + (S1 x + S2 x)) ∧ us1.length = n * k := by
  have h2 := h.sl j _ hs
  generalize f j = F at h2
  cases h2 with
  | @f _ _ _ _ _ g cap cur us S' _ hκ hro hmk hle hm hsz htk hS =>
    cases hro with
    | yes hn e1 e2 e3 e4 e6 e7 e8 =>
      have l1 := e1.length
      rw [List.length_take, Nat.min_eq_left (Nat.le_of_lt hn)] at l1
      exact ⟨g, cap, cur, _, _, _, _, _, hκ, hn, e1, e2, e3, e4, e6, hmk, hle, hm, hsz, by rw [htk, e7], fun x => by rw [hS, e8], l1⟩
theorem pq_index_f {T e e' : Nat} {x y : Operand} {b u k n : Nat} {rows : List (List AV)} {c : List AV} {i ie : TI} {kk : IntKind} {j : Int} (ho : o.op = .indexAddr T x y) (hx : aev s x = .hd b u) (hs : s.b[b]? = some ⟨u, .f e' k rows n c⟩) (hy : aev s y = .sc (.int kk j)) (hT : tt[T]? = some i) (hk : i.kd = .sl e) (he : tt[e]? = some ie) (hsz : ie.size = k)
    (h0 : 0 ≤ j) (hj : j < rows.length) : Pq Try.prog X s o (.ep b u k j.toNat 0) := .of_run fun X φ κ f a w h => by
  obtain ⟨g, cap, cur, us1, cs, us2, S1, S2, hκ, _⟩ := h.opn_ hs
  have h1 := h.evs hx
  have h2 := h.evc hy
  generalize hp : a.eval x = p at h1
  cases h1 with
  | hd hκ' _ =>
    rw [hκ] at hκ'; injection hκ' with e; subst e
    refine ⟨_, .ep hκ, fun w' _ => ?_⟩
    simp only [execOp, ho, hp, h2, Sem.run_bind, run_index hT hk he h0 hj w']; simp [go_sem, hsz]
theorem pq_len_f {T e e' k b u n : Nat} {x : Operand} {rows : List (List AV)} {c : List AV} {i : TI} (ho : o.op = .call { callee := .builtin .len, args := #[x], argTypes := #[T] }) (hx : aev s x = .hd b u) (hs : s.b[b]? = some ⟨u, .f e' k rows n c⟩) (hT : tt[T]? = some i) (hk : i.kd = .sl e) : Pq Try.prog X s o (.sc (.int .i64 rows.length)) := .of_run fun X φ κ f a w h => by
  obtain ⟨g, cap, cur, us1, cs, us2, S1, S2, hκ, _⟩ := h.opn_ hs
  have h1 := h.evs hx
  generalize hp : a.eval x = p at h1
  cases h1 with
  | hd hκ' _ =>
    rw [hκ] at hκ'; injection hκ' with e; subst e
    exact ⟨_, .sc rfl, fun w' _ => run_len (ty := 0) ho fun ty => by rw [hp]; exact len_ty (tys := #[T]) hT hk ty w'⟩
/-- the open row's cells -/
theorem SatW.elemf (h : SatW X φ κ f L s a w) {x : Operand} {b u k n off : Nat} {e : TypeId} {rows : List (List AV)} {c : List AV} (hx : aev s x = .ep b u k n off) (hs : s.b[b]? = some ⟨u, .f e k rows n c⟩) :
    ∃ g cs, a.eval x = .pointer (some ⟨g, n * k + off, none⟩) ∧ RC w φ κ X.R c cs Ct.z ∧ cs.length = k ∧ (∀ u ∈ cs, u.oneCell' = true) ∧ ∀ w', Below w.heap.size w w' → w'.rangeAt g (n * k) cs := by
  obtain ⟨g, cap, cur, us1, cs, us2, S1, S2, hκ, hn, e1, e2, e3, e4, e6, hmk, hle, hm, hsz, htk, hS, l1⟩ := h.opn_ hs
  have h1 := h.evs hx
  generalize hp : a.eval x = p at h1
  cases h1 with
  | ep hκ' =>
    rw [hκ] at hκ'; injection hκ' with e; injection e with e; injection e with e; injection e with e; subst e
    refine ⟨g, cs, rfl, e2, e3, e4, fun w' hb j v hv => ?_⟩
    rw [(Mk.keep (hb.block g hmk.lt) hmk).cell (n * k + j)]
    have hjl : j < cs.length := (List.getElem?_eq_some_iff.1 hv).1
    have h5 : (cur.toList.take (rows.length * k))[n * k + j]? = some v := by
      rw [htk, List.append_assoc, List.getElem?_append_right (by omega), l1, Nat.add_sub_cancel_left, List.getElem?_append_left hjl]; exact hv
    rw [List.getElem?_take] at h5
    split at h5
    · simpa using h5
    · cases h5
theorem pq_load1_f {T : TypeId} {x : Operand} {b u k n off : Nat} {e : TypeId} {rows : List (List AV)} {c : List AV} {ti : TI} (ho : o.op = .load T x) (hx : aev s x = .ep b u k n off) (hs : s.b[b]? = some ⟨u, .f e k rows n c⟩)
    (hT : tt[T]? = some ti) (hk : rowK ti.kd = false) (hl : c[off]? = some av) : Pq Try.prog X s o av := .of_run fun X φ κ f a w h => by
  obtain ⟨d, hd, hr, _⟩ := ty_flat hT hk
  obtain ⟨g, cs, he, hrc, hkl, _, hrange⟩ := h.elemf hx hs
  obtain ⟨v, hv, hrv⟩ := hrc.at_ hl
  refine ⟨v, hrv, fun w' hb => ?_⟩
  simp only [execOp, ho, he, Sem.run_bind, run_loadAt_flat w' hd hr (hrange w' hb off v hv)]; simp [go_sem]
theorem pq_loadN_f {T : TypeId} {x : Operand} {b u k n off : Nat} {e : TypeId} {rows : List (List AV)} {c : List AV} {ti : TI} (ho : o.op = .load T x) (hx : aev s x = .ep b u k n off) (hs : s.b[b]? = some ⟨u, .f e k rows n c⟩)
    (hT : tt[T]? = some ti) (hk : rowK ti.kd = true) (hl : Nat.ble (off + ti.size) c.length = true) : Pq Try.prog X s o (.ag ((c.drop off).take ti.size)) := .of_run fun X φ κ f a w h => by
  have hl := Nat.le_of_ble_eq_true hl
  obtain ⟨d, hd, hr, hi⟩ := ty_row hT hk
  obtain ⟨g, cs, he, hrc, hkl, h1, hrange⟩ := h.elemf hx hs
  have hlen := hrc.length
  refine ⟨_, .ag (hrc.drop_ off ti.size) (fun v hv => h1 v (List.mem_of_mem_drop (List.mem_of_mem_take hv))), fun w' hb => ?_⟩
  have hr2 : w'.rangeAt g (n * k + off) ((cs.drop off).take ti.size) := fun j v hv => by
    rw [List.getElem?_take] at hv
    split at hv
    · rw [List.getElem?_drop] at hv
      have := hrange w' hb _ _ hv
      rwa [show n * k + off + j = n * k + (off + j) by omega]
    · cases hv
  simp only [execOp, ho, he, Sem.run_bind, run_loadAt_mid w' g (n * k + off) T _ d hr2 hd hr (by rw [hi]; simp; omega)]; simp [go_sem]
theorem spl_append_mid {α : Type} : ∀ (r a b c : List α) (o : Nat), o + r.length ≤ b.length → spl (a ++ b ++ c) (a.length + o) r = a ++ spl b o r ++ c
  | [], _, _, _, _, _ => rfl
  | x :: r, a, b, c, o, h => by
    simp only [spl]
    have h1 : (a ++ b ++ c).set (a.length + o) x = a ++ b.set o x ++ c := by
      rw [List.append_assoc, List.set_append_right _ _ (by omega), Nat.add_sub_cancel_left, List.set_append_left _ _ (by simp at h; omega), List.append_assoc]
    rw [h1, Nat.add_assoc, spl_append_mid r a (b.set o x) c (o + 1) (by simp at h ⊢; omega)]
theorem Mk.spl {g : Nat} {cur : Array Value} {e : TypeId} (h : Mk w g cur e) : ∀ (us : List Value) (o : Nat), Mk (w.setCells g o us) g (spl cur.toList o us).toArray e := by
  intro us o
  induction us generalizing w cur o with
  | nil => simpa [Go.Proofs.Ytnjfchigdpifmaa.spl, World.setCells] using h
  | cons u us ih =>
    have h1 : Mk (w.setCell ⟨g, o, none⟩ u) g (cur.setIfInBounds o u) e := by
      obtain ⟨z, hz1, hz2⟩ := h
      exact ⟨z, by simp [World.setCell, Array.getElem?_modify, hz1], by simpa using hz2⟩
    have := ih h1 (o + 1)
    simpa [Go.Proofs.Ytnjfchigdpifmaa.spl, World.setCells] using this
/-- a store into the open row -/
theorem ap_storeF {T k n : Nat} {e : TypeId} {x y : Operand} {b u off : Nat} {rows : List (List AV)} {c : List AV} {ti : TI} (hg : o.guard = none) (ho : o.op = .store T x y) (hx : aev s x = .ep b u k n off) (hs : s.b[b]? = some ⟨u, .f e k rows n c⟩) (hy : aev s y = av) (hkn : av.known = true)
    (hT : tt[T]? = some ti) (hn : av.cells.length = ti.size) (hl : Nat.ble (off + ti.size) c.length = true)
    (K : AP Try.prog X ops Q rest (AS.put ⟨s.t, s.b.set b ⟨u, .f e k rows n (spl c off av.cells)⟩⟩ o.dst (.tu []))) : AP Try.prog X ops Q (o :: rest) s :=
  .runU hg (fun X φ κ f a w h => by
    have hl := Nat.le_of_ble_eq_true hl
    obtain ⟨hr, h1⟩ := (h.evs hy).cells_ hkn
    obtain ⟨g, cap, cur, us1, cs, us2, S1, S2, hκ, hnl, e1, e2, e3, e4, e6, hmk, hle, hm, hsz, htk, hS, l1⟩ := h.opn_ hs
    obtain ⟨g', cs', he, _, _, _, _⟩ := h.elemf hx hs
    have hgg : g' = g := by
      have h2 := h.evs hx
      rw [he] at h2
      cases h2 with
      | ep hκ' => rw [hκ] at hκ'; injection hκ' with e; injection e with e; injection e with e; injection e with e; exact e.symm
    subst hgg
    obtain ⟨d, j, hd, hj, _, hjs, _⟩ := TI.parts (ty hT)
    have hbl : b < s.b.length := (List.getElem?_eq_some_iff.1 hs).1
    have hgl := hmk.lt
    have hlen := hr.length
    have hclen := e2.length
    have hpos : n * k + k ≤ rows.length * k := by
      have : (n + 1) * k ≤ rows.length * k := Nat.mul_le_mul_right k hnl
      rw [Nat.add_mul] at this; omega
    have hpos2 : rows.length * k ≤ cur.size := by rw [hsz]; exact Nat.mul_le_mul_right k hle
    have hth : w.there g' (n * k + off) ti.size := fun i hi => by
      refine ⟨?_, hmk.frozen (by omega)⟩
      rw [hmk.cell]
      simp; omega
    have hrun := run_storeAny (P := Try.prog) (T := T) (b := g') (off := n * k + off) (v := a.eval y) w (n := ti.size) (by rw [hj]; simp [hjs]) (by rw [← hn, ← hlen]; simp) h1 hth
    have hrun' : (execOp a.eval o).run Try.prog w = .ok .skip (w.setCells g' (n * k + off) (a.eval y).cells.toList) := by
      simp only [execOp, ho, he, Sem.run_bind, hrun]; rfl
    have hone : ∀ x, f b x ≤ 1 := fun x => by have := sumF_le f x _ b hbl; have := h.one x; omega
    generalize hU : (a.eval y).cells.toList = us at hr h1 hlen hrun'
    have hmk' := hmk.spl us (n * k + off)
    have hblk : ∀ x, x ≠ g' → (w.setCells g' (n * k + off) us).heap[x]? = w.heap[x]? := fun x hx => heap_setCells_ne g' _ _ w x hx
    have hR : ∀ x, X.R x → (w.setCells g' (n * k + off) us).heap[x]? = w.heap[x]? := fun x hx => by
      have h3 := h.not_rd hx
      have h4 := sumF_le f x _ b hbl
      have h5 := hS x
      exact hblk x (by rintro rfl; simp at h5; omega)
    have hSk : ∀ x, S1 x + S2 x ≠ 0 → (w.setCells g' (n * k + off) us).heap[x]? = w.heap[x]? := fun x hx => by
      have h5 := hS x
      have h6 := hone x
      exact hblk x (by rintro rfl; simp at h5; omega)
    have hol : off + us.length ≤ cs.length := by omega
    have htk' : ((spl cur.toList (n * k + off) us).toArray.toList).take (rows.length * k) = us1 ++ spl cs off us ++ us2 := by
      have h7 : cur.toList = us1 ++ cs ++ (us2 ++ cur.toList.drop (rows.length * k)) := by
        have := List.take_append_drop (rows.length * k) cur.toList
        rw [htk] at this
        rw [← List.append_assoc]; exact this.symm
      have h8 : (us1 ++ cs ++ us2).length = rows.length * k := by rw [← htk, List.length_take]; simp; omega
      have h9 : spl cur.toList (n * k + off) us = us1 ++ spl cs off us ++ (us2 ++ cur.toList.drop (rows.length * k)) := by
        conv => lhs; rw [h7]
        rw [← l1]
        exact spl_append_mid us us1 cs _ off hol
      have h10 : (us1 ++ spl cs off us ++ us2).length = rows.length * k := by rw [← h8]; simp [spl_length]
      show (spl cur.toList (n * k + off) us).take (rows.length * k) = _
      rw [h9, ← List.append_assoc, ← h10, List.take_left]
    refine ⟨_, φ, κ, updF f b (fun x => (if x = g' then 1 else 0) + (S1 x + S2 x)), hrun', SatW.puts ?_ o.dst (RV.tu RC.nil)⟩
    refine h.turn (w' := w.setCells g' (n * k + off) us) hs (fun _ _ _ h => h) (fun _ _ _ h => h) (by rw [size_setCells]; exact Nat.le_refl _) (os_setCells' g' _ _ w) (tape_setCells g' _ _ w) (out_setCells g' _ _ w) ?_ (.f hκ (.yes hnl (RE.keep hR e1 fun x hx => hSk x (by omega)) (RC.keep hR (e2.spl_ hr) fun x hx => absurd rfl hx) (by rw [spl_length]; exact e3) (spl_one e4 h1) (RE.keep hR e6 fun x hx => hSk x (by omega)) rfl fun _ => rfl) hmk' hle hm (by simpa [spl_length] using hsz) htk' fun _ => rfl) (g := fun x => (if x = g' then 1 else 0) + (S1 x + S2 x)) (L' := Ct.z) ?_ ?_ (Nat.le_refl _) (fun _ _ _ h => h) (fun _ _ _ h => h)
    · intro x hx h0
      have := hS x
      exact hblk x (by rintro rfl; simp at this; omega)
    · intro x hx; have := hS x; simp only [Ct.z]; omega
    · intro x hx; simp only [Ct.z]
      have h8 : f b x = 0 := by
        by_cases h8 : f b x = 0
        · exact h8
        · have := sumF_le f x _ b hbl
          have := h.own x (by omega); omega
      have := hS x
      exact ⟨by omega, fun h0 => by omega⟩) K
def delK {α : Type} (l : List α) : Option Nat → List α
  | some n => l.eraseIdx n
  | none => l
/-- taken out of a map -/
theorem run_del {x y : Operand} {tys : Array TypeId} {a : Act} {v : Value} (ho : o.op = .call { callee := .builtin .delete, args := #[x, y], argTypes := tys }) (h : ∀ ty, (Builtin.delete_ tys ty #[a.eval x, a.eval y]).run Try.prog w = .ok v w') :
    (execOp a.eval o).run Try.prog w = .ok (.value v) w' := by
  simp only [execOp, ho, resolve, invoke, builtin, Sem.run_bind, Sem.run_pure, Result.andThen_ok, List.map_toArray, List.map_cons, List.map_nil, h]
theorem ap_del {T K E : Nat} {x y : Operand} {j u : Nat} {ks : List Value} {rows : List (List AV)} {st : Option (Nat × Nat × Nat)} {kv : Value} {i : TI} {sh : List Sh} {r : Option Nat}
    (hg : o.guard = none) (ho : o.op = .call { callee := .builtin .delete, args := #[x, y], argTypes := #[T, K] }) (hx : aev s x = .hd j u) (hs : s.b[j]? = some ⟨u, .m ks rows none st⟩) (hy : kvl (aev s y) = some kv) (hT : tt[T]? = some i) (hk : i.kd = .mp K E) (hf : flatT Try.prog 9 K = some sh) (hkv : isKey Try.prog K sh kv = true) (hks : ∀ k ∈ ks, isKey Try.prog K sh k = true)
    (hn : fnd kv ks = r) (KK : AP Try.prog X ops Q rest (AS.put ⟨s.t, s.b.set j ⟨u, .m (delK ks r) (delK rows r) none none⟩⟩ o.dst (.tu []))) : AP Try.prog X ops Q (o :: rest) s :=
  .run hg (fun X φ κ f a w h => by
    obtain ⟨g, es, clock, us, S, he, hh, hm, hro, hst, hκ, hS⟩ := h.map_ hx hs
    have hyv := (h.ev y).kvl hy
    have hlen := hro.len
    obtain ⟨l1, l2⟩ := hm.kl
    have e1 := run_findKey_flat (w := w) (es := es.toList) hf hkv (hm.keys hks)
    cases r with
    | none =>
      have hfE : fndE kv es.toList = none := by simp only [fndE, hm.ky, hn]
      have hrun : (execOp a.eval o).run Try.prog w = .ok (.value (.tuple #[])) (ChangeMaps.setBlock w g (.map es clock)) := run_del ho fun ty => by
        rw [he, hyv]
        simp [Builtin.delete_, run_underlying (ty_mp hT hk), MapKept.run_getObj_map hh, run_check es.isEmpty hf hkv, e1, hfE, MapKept.run_setObj_map _ hh, Result.andThen, ChangeMaps.setBlock]
      obtain ⟨f', h'⟩ := h.mapTurn hs hκ hh hS hro hm (st' := none) trivial fun x => Nat.le_refl _
      exact ⟨_, _, φ, κ, f', hrun, h'.puts o.dst (RV.tu RC.nil)⟩
    | some n =>
      have hnl := fnd_lt hn
      have hfE : ∃ v, fndE kv es.toList = some (n, v) := by simp only [fndE, hm.ky, hn]; exact ⟨_, rfl⟩
      obtain ⟨v0, hfE⟩ := hfE
      have hrun : (execOp a.eval o).run Try.prog w = .ok (.value (.tuple #[])) (ChangeMaps.setBlock w g (.map (es.eraseIdxIfInBounds n) clock)) := run_del ho fun ty => by
        rw [he, hyv]
        simp [Builtin.delete_, run_underlying (ty_mp hT hk), MapKept.run_getObj_map hh, run_check es.isEmpty hf hkv, e1, hfE, MapKept.run_setObj_map _ hh, Result.andThen, ChangeMaps.setBlock]
      obtain ⟨S1, S2, r1, r2, r3⟩ := hro.drp (n := n) (by omega)
      have q := r1.append (U := fun x => S1 x + S2 x) r2 fun _ => rfl
      rw [← List.eraseIdx_eq_take_drop_succ, ← List.eraseIdx_eq_take_drop_succ] at q
      obtain ⟨f', h'⟩ := h.mapTurn hs hκ hh hS (.no q) (hm.erase n) (st' := none) trivial r3
      exact ⟨_, _, φ, κ, f', hrun, h'.puts o.dst (RV.tu RC.nil)⟩) KK
/-- a map of one's own isn't nil -/
theorem run_eq_map {P : Program} {T K E : TypeId} (hT : P.underlying T = some (.map K E)) (p : Option Nat) (w : World) : (Op.equal T (.map p) (.map none)).run P w = .ok p.isNone w := by
  have key : ∀ d, (Op.equalIn (d + 1) T (.map p) (.map none)).run P w = .ok p.isNone w := fun d => by
    cases p <;> simp [Op.equalIn, run_underlying hT]
  exact key 9999
theorem run_bin_map {op : BinOp} {T T' K E : TypeId} {x y : Operand} {a : Act} {p : Option Nat} {r : Bool} (hT : Try.prog.underlying T = some (.map K E)) (ho : o.op = .binOp op T x y T') (hx : a.eval x = .map p) (hy : a.eval y = .map none) (hr : nilB op p.isNone = some r) (w : World) :
    (execOp a.eval o).run Try.prog w = .ok (.value (.bool r)) w := by
  unfold nilB at hr
  cases op <;> simp only [Option.some.injEq, reduceCtorEq] at hr <;> subst hr <;> simp only [execOp, ho, hx, hy] <;>
    simp [eqGuard, binOp, run_eq_map hT, go_sem]
theorem pq_mnil {op : BinOp} {T T' K E : TypeId} {x y : Operand} {j u : Nat} {ks : List Value} {rows : List (List AV)} {p : Option (Nat × List AV)} {st : Option (Nat × Nat × Nat)} {i : TI} {r : Bool} (ho : o.op = .binOp op T x y T') (hx : aev s x = .hd j u) (hs : s.b[j]? = some ⟨u, .m ks rows p st⟩) (hy : aev s y = .sc (.map none)) (hr : nilB op false = some r) (hT : tt[T]? = some i) (hk : i.kd = .mp K E) : Pq Try.prog X s o (.sc (.bool r)) := .of_run fun X φ κ f a w h => by
  obtain ⟨g, es, clock, us, S, he, _⟩ := h.map_ hx hs
  exact ⟨_, .sc rfl, fun w' _ => run_bin_map (ty_mp hT hk) ho he (h.evc hy) hr w'⟩
theorem pq_mnn {op : BinOp} {T T' K E : TypeId} {x y : Operand} {i : TI} {r : Bool} (ho : o.op = .binOp op T x y T') (hx : aev s x = .sc (.map none)) (hy : aev s y = .sc (.map none)) (hr : nilB op true = some r) (hT : tt[T]? = some i) (hk : i.kd = .mp K E) : Pq Try.prog X s o (.sc (.bool r)) := .of_run fun X φ κ f a w h =>
  ⟨_, .sc rfl, fun w' _ => run_bin_map (ty_mp hT hk) ho (h.evc hx) (h.evc hy) hr w'⟩
end
theorem rowAt_open {rows : List (List AV)} {n : Nat} {a : AV} {l : List AV} : rowAt rows (some (n, a :: l)) n = some a := by
  have : Nat.beq n n = true := Nat.beq_refl n
  simp [rowAt, this]
theorem rowAt_map {α : Type} {l : List α} {n : Nat} {e : α → List AV} {x : α} {a : AV} {r : List AV} (h : l[n]? = some x) (he : e x = a :: r) : rowAt (l.map e) none n = some a.cp := by
  simp [rowAt, h, he]
section
variable {X : Cx} {s : AS} {ops : Array Oper} {rest : List Oper} {Q : Exit → AS → Prop} {av : AV} {d : Option Nat} {ty : Nat} {pos : String} {aft : Array Edge} {T K E n : Nat} {x y z : Operand} {j u : Nat} {ks : List Value} {rows : List (List AV)} {op : Option (Nat × List AV)} {st : Option (Nat × Nat × Nat)} {kv : Value} {i ie : TI} {sh : List Sh} {c : ZC}
theorem AP.LK (KK : AP Try.prog X ops Q rest (s.put d av)) (hx : aev s x = .hd j u := by exact rfl) (hs : s.b[j]? = some ⟨u, .m ks rows op st⟩ := by exact rfl) (hy : kvl (aev s y) = some kv := by exact rfl) (hT : tt[T]? = some i := by exact rfl) (hk : i.kd = .mp K E := by exact rfl) (hks : ∀ k ∈ ks, isKey Try.prog K sh k = true := by with_reducible assumption) (hf : flatT Try.prog 9 K = some sh := by kernel_rfl) (hkv : isKey Try.prog K sh kv = true := by kernel_rfl)
    (hn : fnd kv ks = some n := by assumption) (hr : rowAt rows op n = some av := by first | assumption | exact rowAt_open | exact rfl) : AP Try.prog X ops Q (⟨d, .lookup T x y false, ty, pos, aft, none⟩ :: rest) s := AP.pure rfl (pq_look (ok := false) rfl hx hs hy hT hk hf hkv hks hn hr) KK
theorem AP.LK2 (KK : AP Try.prog X ops Q rest (s.put d (.tu [av, .sc (.bool true)]))) (hx : aev s x = .hd j u := by exact rfl) (hs : s.b[j]? = some ⟨u, .m ks rows op st⟩ := by exact rfl) (hy : kvl (aev s y) = some kv := by exact rfl) (hT : tt[T]? = some i := by exact rfl) (hk : i.kd = .mp K E := by exact rfl) (hks : ∀ k ∈ ks, isKey Try.prog K sh k = true := by with_reducible assumption) (hf : flatT Try.prog 9 K = some sh := by kernel_rfl) (hkv : isKey Try.prog K sh kv = true := by kernel_rfl)
    (hn : fnd kv ks = some n := by assumption) (hr : rowAt rows op n = some av := by first | assumption | exact rowAt_open | exact rfl) : AP Try.prog X ops Q (⟨d, .lookup T x y true, ty, pos, aft, none⟩ :: rest) s := AP.pure rfl (pq_look (ok := true) rfl hx hs hy hT hk hf hkv hks hn hr) KK
theorem AP.LN (KK : AP Try.prog X ops Q rest (s.put d (.sc c.val))) (hx : aev s x = .hd j u := by exact rfl) (hs : s.b[j]? = some ⟨u, .m ks rows op st⟩ := by exact rfl) (hy : kvl (aev s y) = some kv := by exact rfl) (hT : tt[T]? = some i := by exact rfl) (hk : i.kd = .mp K E := by exact rfl) (hE : tt[E]? = some ie := by exact rfl) (hz : ie.zero = some [c] := by exact rfl) (hrk : rowK ie.kd = false := by exact rfl) (hks : ∀ k ∈ ks, isKey Try.prog K sh k = true := by with_reducible assumption) (hf : flatT Try.prog 9 K = some sh := by kernel_rfl) (hkv : isKey Try.prog K sh kv = true := by kernel_rfl)
    (hn : fnd kv ks = none := by assumption) : AP Try.prog X ops Q (⟨d, .lookup T x y false, ty, pos, aft, none⟩ :: rest) s := AP.pure rfl (pq_lookN (ok := false) rfl hx hs hy hT hk hE hz hrk hf hkv hks hn) KK
theorem AP.LN2 (KK : AP Try.prog X ops Q rest (s.put d (.tu [.sc c.val, .sc (.bool false)]))) (hx : aev s x = .hd j u := by exact rfl) (hs : s.b[j]? = some ⟨u, .m ks rows op st⟩ := by exact rfl) (hy : kvl (aev s y) = some kv := by exact rfl) (hT : tt[T]? = some i := by exact rfl) (hk : i.kd = .mp K E := by exact rfl) (hE : tt[E]? = some ie := by exact rfl) (hz : ie.zero = some [c] := by exact rfl) (hrk : rowK ie.kd = false := by exact rfl) (hks : ∀ k ∈ ks, isKey Try.prog K sh k = true := by with_reducible assumption) (hf : flatT Try.prog 9 K = some sh := by kernel_rfl) (hkv : isKey Try.prog K sh kv = true := by kernel_rfl)
    (hn : fnd kv ks = none := by assumption) : AP Try.prog X ops Q (⟨d, .lookup T x y true, ty, pos, aft, none⟩ :: rest) s := AP.pure rfl (pq_lookN (ok := true) rfl hx hs hy hT hk hE hz hrk hf hkv hks hn) KK
theorem AP.MM (KK : AP Try.prog X ops Q rest (AS.put ⟨s.t, (newS s.b (.m [] [] none none)).2⟩ d (.hd (newS s.b (.m [] [] none none)).1.1 (newS s.b (.m [] [] none none)).1.2))) : AP Try.prog X ops Q (⟨d, .makeMap T none, ty, pos, aft, none⟩ :: rest) s := ap_makeMap rfl rfl KK
theorem AP.MU (KK : AP Try.prog X ops Q rest (AS.put ⟨s.t, s.b.set j ⟨u, .m ks (rows.set n (cRow av)) (oRow n av) none⟩⟩ d (.tu []))) (hx : aev s x = .hd j u := by exact rfl) (hs : s.b[j]? = some ⟨u, .m ks rows none st⟩ := by exact rfl) (hy : kvl (aev s y) = some kv := by exact rfl) (hz : aev s z = av := by exact rfl) (hav : av.known = true := by exact rfl) (hag : av.nag = true := by exact rfl) (hT : tt[T]? = some i := by exact rfl) (hk : i.kd = .mp K E := by exact rfl) (hks : ∀ k ∈ ks, isKey Try.prog K sh k = true := by with_reducible assumption) (hf : flatT Try.prog 9 K = some sh := by kernel_rfl) (hkv : isKey Try.prog K sh kv = true := by kernel_rfl)
    (hn : fnd kv ks = some n := by assumption) : AP Try.prog X ops Q (⟨d, .mapUpdate T x y z, ty, pos, aft, none⟩ :: rest) s := ap_mapUpd rfl rfl hx hs hy hz hav hag hT hk hf hkv hks hn KK
theorem AP.MN (KK : AP Try.prog X ops Q rest (AS.put ⟨s.t, s.b.set j ⟨u, .m (ks ++ [kv]) (rows ++ [cRow av]) (oRow rows.length av) none⟩⟩ d (.tu []))) (hx : aev s x = .hd j u := by exact rfl) (hs : s.b[j]? = some ⟨u, .m ks rows none st⟩ := by exact rfl) (hy : kvl (aev s y) = some kv := by exact rfl) (hz : aev s z = av := by exact rfl) (hav : av.known = true := by exact rfl) (hag : av.nag = true := by exact rfl) (hT : tt[T]? = some i := by exact rfl) (hk : i.kd = .mp K E := by exact rfl) (hks : ∀ k ∈ ks, isKey Try.prog K sh k = true := by with_reducible assumption) (hf : flatT Try.prog 9 K = some sh := by kernel_rfl) (hkv : isKey Try.prog K sh kv = true := by kernel_rfl)
    (hn : fnd kv ks = none := by assumption) : AP Try.prog X ops Q (⟨d, .mapUpdate T x y z, ty, pos, aft, none⟩ :: rest) s := ap_mapNew rfl rfl hx hs hy hz hav hag hT hk hf hkv hks hn KK
theorem AP.ME (KK : AP Try.prog X ops Q rest (AS.put ⟨s.t, (newS s.b .x).2.set j ⟨u, .m ks rows none (some (n, (newS s.b .x).1.1, (newS s.b .x).1.2))⟩⟩ d (.tu [av, .hd (newS s.b .x).1.1 (newS s.b .x).1.2]))) (hx : aev s x = .hd j u := by exact rfl) (hs : s.b[j]? = some ⟨u, .m ks rows none st⟩ := by exact rfl) (hy : kvl (aev s y) = some kv := by exact rfl) (hT : tt[T]? = some i := by exact rfl) (hk : i.kd = .mp K E := by exact rfl) (hks : ∀ k ∈ ks, isKey Try.prog K sh k = true := by with_reducible assumption) (hf : flatT Try.prog 9 K = some sh := by kernel_rfl) (hkv : isKey Try.prog K sh kv = true := by kernel_rfl)
    (hn : fnd kv ks = some n := by assumption) (hr : rowAt rows none n = some av := by first | assumption | exact rfl) (hjx : Nat.beq j (newS s.b .x).1.1 = false := by exact rfl) : AP Try.prog X ops Q (⟨d, .mapEntry T x y, ty, pos, aft, none⟩ :: rest) s := ap_entry rfl rfl hx hs hy hT hk hf hkv hks hn hr (fun h => by rw [h] at hjx; simp at hjx) KK
theorem AP.MF (KK : AP Try.prog X ops Q rest (AS.put ⟨s.t, (newS s.b .x).2.set j ⟨u, .m (ks ++ [kv]) (rows ++ [[.sc c.val]]) none (some (rows.length, (newS s.b .x).1.1, (newS s.b .x).1.2))⟩⟩ d (.tu [.sc c.val, .hd (newS s.b .x).1.1 (newS s.b .x).1.2]))) (hx : aev s x = .hd j u := by exact rfl) (hs : s.b[j]? = some ⟨u, .m ks rows none st⟩ := by exact rfl) (hy : kvl (aev s y) = some kv := by exact rfl) (hT : tt[T]? = some i := by exact rfl) (hk : i.kd = .mp K E := by exact rfl) (hE : tt[E]? = some ie := by exact rfl) (hz : ie.zero = some [c] := by exact rfl) (hrk : rowK ie.kd = false := by exact rfl) (hks : ∀ k ∈ ks, isKey Try.prog K sh k = true := by with_reducible assumption) (hf : flatT Try.prog 9 K = some sh := by kernel_rfl) (hkv : isKey Try.prog K sh kv = true := by kernel_rfl)
    (hn : fnd kv ks = none := by assumption) (hjx : Nat.beq j (newS s.b .x).1.1 = false := by exact rfl) : AP Try.prog X ops Q (⟨d, .mapEntry T x y, ty, pos, aft, none⟩ :: rest) s := ap_entryN rfl rfl hx hs hy hT hk hE hz hrk hf hkv hks hn (fun h => by rw [h] at hjx; simp at hjx) KK
theorem AP.MS {jd vd : Nat} (KK : AP Try.prog X ops Q rest (AS.put ⟨s.t, s.b.set j ⟨u, .m ks (rows.set n (cRow av)) (oRow n av) none⟩⟩ d (.tu []))) (hx : aev s x = .hd j u := by exact rfl) (hs : s.b[j]? = some ⟨u, .m ks rows none (some (n, jd, vd))⟩ := by exact rfl) (hy : aev s y = .hd jd vd := by exact rfl) (hz : aev s z = av := by exact rfl) (hav : av.known = true := by exact rfl) (hag : av.nag = true := by exact rfl) : AP Try.prog X ops Q (⟨d, .entryStore T x y z, ty, pos, aft, none⟩ :: rest) s := ap_stamp rfl rfl hx hs hy hz hav hag KK
theorem AP.MD {r : Option Nat} (KK : AP Try.prog X ops Q rest (AS.put ⟨s.t, s.b.set j ⟨u, .m (delK ks r) (delK rows r) none none⟩⟩ d (.tu []))) (hx : aev s x = .hd j u := by exact rfl) (hs : s.b[j]? = some ⟨u, .m ks rows none st⟩ := by exact rfl) (hy : kvl (aev s y) = some kv := by exact rfl) (hT : tt[T]? = some i := by exact rfl) (hk : i.kd = .mp K E := by exact rfl) (hks : ∀ k ∈ ks, isKey Try.prog K sh k = true := by with_reducible assumption) (hf : flatT Try.prog 9 K = some sh := by kernel_rfl) (hkv : isKey Try.prog K sh kv = true := by kernel_rfl)
    (hn : fnd kv ks = r := by assumption) : AP Try.prog X ops Q (⟨d, .call { callee := .builtin .delete, args := #[x, y], argTypes := #[T, K] }, ty, pos, aft, none⟩ :: rest) s := ap_del rfl rfl hx hs hy hT hk hf hkv hks hn KK
theorem AP.MZ {bo : BinOp} {T' : TypeId} {r : Bool} (KK : AP Try.prog X ops Q rest (s.put d (.sc (.bool r)))) (hx : aev s x = .hd j u := by exact rfl) (hs : s.b[j]? = some ⟨u, .m ks rows op st⟩ := by exact rfl) (hy : aev s y = .sc (.map none) := by exact rfl) (hr : nilB bo false = some r := by exact rfl) (hT : tt[T]? = some i := by exact rfl) (hk : i.kd = .mp K E := by exact rfl) : AP Try.prog X ops Q (⟨d, .binOp bo T x y T', ty, pos, aft, none⟩ :: rest) s := AP.pure rfl (pq_mnil rfl hx hs hy hr hT hk) KK
theorem AP.MZ0 {bo : BinOp} {T' : TypeId} {r : Bool} (KK : AP Try.prog X ops Q rest (s.put d (.sc (.bool r)))) (hx : aev s x = .sc (.map none) := by exact rfl) (hy : aev s y = .sc (.map none) := by exact rfl) (hr : nilB bo true = some r := by exact rfl) (hT : tt[T]? = some i := by exact rfl) (hk : i.kd = .mp K E := by exact rfl) : AP Try.prog X ops Q (⟨d, .binOp bo T x y T', ty, pos, aft, none⟩ :: rest) s := AP.pure rfl (pq_mnn rfl hx hy hr hT hk) KK
/-! open rows -/
variable {e e' k off b : Nat} {cl : List AV} {ti : TI} {kk : IntKind} {jj : Int}
theorem AP.FI (KK : AP Try.prog X ops Q rest (s.put d (.ep b u k jj.toNat 0))) (hx : aev s x = .hd b u := by exact rfl) (hs : s.b[b]? = some ⟨u, .f e' k rows n cl⟩ := by exact rfl) (hy : aev s y = .sc (.int kk jj) := by exact rfl) (hT : tt[T]? = some i := by exact rfl) (hk : i.kd = .sl e := by exact rfl) (he : tt[e]? = some ie := by exact rfl) (hsz : ie.size = k := by exact rfl) (h0 : 0 ≤ jj ∧ jj < rows.length := by ((repeat' (with_reducible apply And.intro)) <;> (first | exact True.intro | exact rfl | omega | decide | (simp; omega) | (simp; done) | assumption | exact .inl rfl | (refine .inr ?_; simp; try omega)))) : AP Try.prog X ops Q (⟨d, .indexAddr T x y, ty, pos, aft, none⟩ :: rest) s := AP.pure rfl (pq_index_f rfl hx hs hy hT hk he hsz h0.1 h0.2) KK
theorem AP.FL (KK : AP Try.prog X ops Q rest (s.put d (.sc (.int .i64 rows.length)))) (hx : aev s x = .hd b u := by exact rfl) (hs : s.b[b]? = some ⟨u, .f e' k rows n cl⟩ := by exact rfl) (hT : tt[T]? = some i := by exact rfl) (hk : i.kd = .sl e := by exact rfl) : AP Try.prog X ops Q (⟨d, .call { callee := .builtin .len, args := #[x], argTypes := #[T] }, ty, pos, aft, none⟩ :: rest) s := AP.pure rfl (pq_len_f rfl hx hs hT hk) KK
theorem AP.F1 (KK : AP Try.prog X ops Q rest (s.put d av)) (hx : aev s x = .ep b u k n off := by exact rfl) (hs : s.b[b]? = some ⟨u, .f e k rows n cl⟩ := by exact rfl) (hT : tt[T]? = some ti := by exact rfl) (hk : rowK ti.kd = false := by exact rfl) (hl : cl[off]? = some av := by exact rfl) : AP Try.prog X ops Q (⟨d, .load T x, ty, pos, aft, none⟩ :: rest) s := AP.pure rfl (pq_load1_f rfl hx hs hT hk hl) KK
theorem AP.FN (KK : AP Try.prog X ops Q rest (s.put d (.ag ((cl.drop off).take ti.size)))) (hx : aev s x = .ep b u k n off := by exact rfl) (hs : s.b[b]? = some ⟨u, .f e k rows n cl⟩ := by exact rfl) (hT : tt[T]? = some ti := by exact rfl) (hk : rowK ti.kd = true := by exact rfl) (hl : Nat.ble (off + ti.size) cl.length = true := by exact rfl) : AP Try.prog X ops Q (⟨d, .load T x, ty, pos, aft, none⟩ :: rest) s := AP.pure rfl (pq_loadN_f rfl hx hs hT hk hl) KK
theorem AP.FT (KK : AP Try.prog X ops Q rest (AS.put ⟨s.t, s.b.set b ⟨u, .f e k rows n (spl cl off av.cells)⟩⟩ d (.tu []))) (hx : aev s x = .ep b u k n off := by exact rfl) (hs : s.b[b]? = some ⟨u, .f e k rows n cl⟩ := by exact rfl) (hy : aev s y = av := by exact rfl) (hkn : av.known = true := by exact rfl) (hT : tt[T]? = some ti := by exact rfl) (hn : av.cells.length = ti.size := by exact rfl) (hl : Nat.ble (off + ti.size) cl.length = true := by exact rfl) : AP Try.prog X ops Q (⟨d, .store T x y, ty, pos, aft, none⟩ :: rest) s := ap_storeF rfl rfl hx hs hy hkn hT hn hl KK
/-- a slice out of owned things -/
theorem AP.BO {parts : Array (Nat × Operand)} {z : List ZC} {fl fl' : List AV} {b' : List Sl} {q : List (List AV)} (KK : AP Try.prog X ops Q rest (AS.put ⟨s.t, (newS b' (.r e k q)).2⟩ d (.hd (newS b' (.r e k q)).1.1 (newS b' (.r e k q)).1.2))) (hT : tt[T]? = some i := by exact rfl) (hk : i.kd = .sl e := by exact rfl) (he : tt[e]? = some ie := by exact rfl) (hz : ie.zero = some z := by exact rfl) (hsz : ie.size = k := by exact rfl)
    (h1 : Nat.ble 1 k = true := by exact rfl) (h2 : Nat.ble (n * k) 1000000 = true := by exact rfl) (h3 : parts.toList.all (fun p => (aev s p.2).known && ((aev s p.2).cells.length == k) && Nat.ble (p.1 * k + k) (n * k)) = true := by exact rfl) (hfl : bldA s k parts.toList (zrow z n) = fl := by exact rfl) (hcl : clsO 60 s.b fl = some (fl', b') := by exact rfl) (hq : chunks k n fl' = q := by exact rfl) : AP Try.prog X ops Q (⟨d, .buildSlice T n parts, ty, pos, aft, none⟩ :: rest) s :=
  ap_buildSlice rfl rfl hT hk he hz hsz h1 h2 h3 hfl (clsO_of hcl) hq KK
end
/-! in drawn regions -/
section
variable {s : AS} {ops : Array Oper} {all : List Oper} {K : AS → Prop} {acc : List Fp} {l : List Oper} {av : AV} {op : Op} {ty : Nat} {pos : String} {aft : Array Edge} {g : Option (Nat × Bool)} {d : Nat} {T : List Nat} {F : List Nat} {b2 : List Sl} {r : Bool}
theorem DW.RM (hk : DW Try.prog ops all K (⟨T, some d, F, false⟩ :: acc) l ⟨s.t.set d av, s.b⟩) (hg : gdS ops s g = some r := by exact rfl) (hT : opTs ops ⟨some d, op, ty, pos, aft, g⟩ = T := by (simp only [ft, nm, Nat.reduceAdd, Nat.reduceBEq, List.getElem?_cons_zero, List.getElem?_cons_succ]; exact rfl)) (hF : ftF 0 s op = F := by (simp only [ft, nm, Nat.reduceAdd, Nat.reduceBEq, List.getElem?_cons_zero, List.getElem?_cons_succ]; exact rfl)) (h : ∀ X V, AP Try.prog X ops (fun e s' => e = .normal ∧ s' = ⟨(msT T 0 s.t).set d av, msB F V 0 s.b⟩) [⟨some d, op, ty, pos, aft, g⟩] ⟨msT T 0 s.t, msB F V 0 s.b⟩ := by (intro X V; simp only [ft, nm, Nat.reduceAdd, Nat.reduceBEq]; (try (refine AP.Y ?_; dsimp only)); (first | refine AP.LK ?_ | refine AP.LN ?_ | refine AP.LK2 ?_ | refine AP.LN2 ?_ | refine AP.FI ?_ | refine AP.FL ?_ | refine AP.F1 ?_ | refine AP.FN ?_ | refine AP.MZ ?_ | refine AP.MZ0 ?_); (try simp only [nx, Nat.reduceAdd, Nat.reduceSub, BEq.rfl]); refine AP.nil ?_; first | exact ⟨trivial, rfl⟩ | exact ⟨rfl, rfl⟩)) (hy : nyF F 0 s.b = true := by exact rfl) :
    DW Try.prog ops all K acc (⟨some d, op, ty, pos, aft, g⟩ :: l) s := DW.rd 0 hT hF h hk hy
theorem DW.WM (hk : DW Try.prog ops all K (⟨T, some d, F, true⟩ :: acc) l ⟨s.t.set d av, b2⟩) (hg : gdS ops s g = some r := by exact rfl) (hT : opTs ops ⟨some d, op, ty, pos, aft, g⟩ = T := by (simp only [ft, nm, Nat.reduceAdd, Nat.reduceBEq, List.getElem?_cons_zero, List.getElem?_cons_succ]; exact rfl)) (hF : ftF 1 s op = F := by (simp only [ft, nm, Nat.reduceAdd, Nat.reduceBEq, List.getElem?_cons_zero, List.getElem?_cons_succ]; exact rfl)) (h : ∀ X V, AP Try.prog X ops (fun e s' => e = .normal ∧ s'.t = (msT T 0 s.t).set d av ∧ Mg F V 0 s.b s'.b b2) [⟨some d, op, ty, pos, aft, g⟩] ⟨msT T 0 s.t, msB F V 0 s.b⟩ := by (intro X V; simp only [ft, nm, Nat.reduceAdd, Nat.reduceBEq]; (try (refine AP.Y ?_; dsimp only)); (first | refine AP.MM ?_ | refine AP.MD ?_ | refine AP.BO ?_); (try simp only [nx, Nat.reduceAdd, Nat.reduceSub, BEq.rfl]); refine AP.nil ?_; (first | refine ⟨trivial, rfl, ?_⟩ | refine ⟨rfl, rfl, ?_⟩); (repeat' (first | exact Mg.nil | apply Mg.keep rfl | apply Mg.take rfl)); all_goals fail))
    (hb : (∃ V : Nat → Nat, ∃ b1, Mg F V 0 s.b b1 b2) := by (refine Exists.intro (fun _ => 0) ?_; apply Exists.intro; (repeat' (first | exact Mg.nil | apply Mg.keep rfl | apply Mg.take rfl)); all_goals fail)) (hy : nyF F 0 s.b = true := by exact rfl) (hy2 : nyF F 0 b2 = true := by exact rfl) : DW Try.prog ops all K acc (⟨some d, op, ty, pos, aft, g⟩ :: l) s := DW.st 1 hT hF h hb hk hy hy2
theorem DW.WM' (hk : DW Try.prog ops all K (⟨T, none, F, true⟩ :: acc) l ⟨s.t, b2⟩) (hg : gdS ops s g = some r := by exact rfl) (hT : opTs ops ⟨none, op, ty, pos, aft, g⟩ = T := by (simp only [ft, nm, Nat.reduceAdd, Nat.reduceBEq, List.getElem?_cons_zero, List.getElem?_cons_succ]; exact rfl)) (hF : ftF 1 s op = F := by (simp only [ft, nm, Nat.reduceAdd, Nat.reduceBEq, List.getElem?_cons_zero, List.getElem?_cons_succ]; exact rfl)) (h : ∀ X V, AP Try.prog X ops (fun e s' => e = .normal ∧ s'.t = msT T 0 s.t ∧ Mg F V 0 s.b s'.b b2) [⟨none, op, ty, pos, aft, g⟩] ⟨msT T 0 s.t, msB F V 0 s.b⟩ := by (intro X V; simp only [ft, nm, Nat.reduceAdd, Nat.reduceBEq]; (try (refine AP.Y ?_; dsimp only)); (first | refine AP.MU ?_ | refine AP.MN ?_ | refine AP.MS ?_ | refine AP.MD ?_ | refine AP.FT ?_); (try simp only [nx, Nat.reduceAdd, Nat.reduceSub, BEq.rfl]); refine AP.nil ?_; (first | refine ⟨trivial, rfl, ?_⟩ | refine ⟨rfl, rfl, ?_⟩); (repeat' (first | exact Mg.nil | apply Mg.keep rfl | apply Mg.take rfl)); all_goals fail))
    (hb : (∃ V : Nat → Nat, ∃ b1, Mg F V 0 s.b b1 b2) := by (refine Exists.intro (fun _ => 0) ?_; apply Exists.intro; (repeat' (first | exact Mg.nil | apply Mg.keep rfl | apply Mg.take rfl)); all_goals fail)) (hy : nyF F 0 s.b = true := by exact rfl) (hy2 : nyF F 0 b2 = true := by exact rfl) : DW Try.prog ops all K acc (⟨none, op, ty, pos, aft, g⟩ :: l) s := DW.stN 1 hT hF h hb hk hy hy2
end
end Go.Proofs.Ytnjfchigdpifmaa

namespace Go.Proofs.Ytnjfchigdpifmaa
set_option linter.unusedVariables false
set_option linter.unusedSimpArgs false
open Go.RowKit
set_option maxRecDepth 100000
section
variable {v : Value} {k n b u o i : Nat} {r : List (List AV)} {α : Type} {l : List α}
theorem cr_sc : cRow (.sc v) = [.sc v] := rfl
theorem cr_sl : cRow (.sl none k r) = [.sl none k r] := rfl
theorem cr_bp : cRow (.bp b u o) = [.de] := rfl
theorem cr_hd : cRow (.hd b u) = [.de] := rfl
theorem ow_sc : oRow n (.sc v) = none := rfl
theorem ow_sl : oRow n (.sl none k r) = none := rfl
theorem ow_bp : oRow n (.bp b u o) = some (n, [.bp b u o]) := rfl
theorem ow_hd : oRow n (.hd b u) = some (n, [.hd b u]) := rfl
theorem cp_sc : (AV.sc v).cp = .sc v := rfl
theorem cp_sl : (AV.sl none k r).cp = .sl none k r := rfl
theorem cp_bp : (AV.bp b u o).cp = .bp b u o := rfl
theorem dk_some : delK l (some n) = l.eraseIdx n := rfl
theorem dk_none : delK l none = l := rfl
end
theorem mx : type_of% (And.intro @cr_sc (And.intro @cr_sl (And.intro @cr_bp (And.intro @cr_hd (And.intro @ow_sc (And.intro @ow_sl (And.intro @ow_bp (And.intro @ow_hd (And.intro @cp_sc (And.intro @cp_sl (And.intro @cp_bp (And.intro @dk_some @dk_none)))))))))))) := And.intro @cr_sc (And.intro @cr_sl (And.intro @cr_bp (And.intro @cr_hd (And.intro @ow_sc (And.intro @ow_sl (And.intro @ow_bp (And.intro @ow_hd (And.intro @cp_sc (And.intro @cp_sl (And.intro @cp_bp (And.intro @dk_some @dk_none)))))))))))
theorem AP.ST {G G' : Prop} (K : G') (h : G' → G := by (intro k; first | exact AP.S k | exact AP.E k | exact AP.T k | exact AP.F k | exact AP.F0 k | exact AP.A k | exact AP.AB 0 k | exact AP.AB 1 k | exact AP.AL k | exact AP.LB k | exact AP.TB k | exact AP.IX k | exact AP.SF k | exact AP.SV k | exact AP.CV k | exact AP.CO k | exact AP.FV k | exact AP.LK k | exact AP.LN k | exact AP.LK2 k | exact AP.LN2 k | exact AP.MM k | exact AP.MU k | exact AP.MN k | exact AP.MS k | exact AP.MD k | exact AP.MZ k | exact AP.MZ0 k | exact AP.FI k | exact AP.FL k | exact AP.F1 k | exact AP.FN k | exact AP.FT k | fail)) : G := h K
theorem DW.ST {G G' : Prop} (K : G') (h : G' → G := by (intro k; first | exact DW.R k | exact DW.R' k | exact DW.W k | exact DW.W' k | exact DW.RA k | exact DW.A 0 k | exact DW.A 1 k | exact DW.A 2 k | exact DW.A' 0 k | exact DW.A' 2 k | exact DW.RX k | exact DW.WX k | exact DW.WX' k | exact DW.RM k | exact DW.WM k | exact DW.WM' k | fail)) : G := h K
/-- a contract over what may be read serves for what is owned: it is given up -/
theorem AC.own {P : Program} {fn : Nat} {args : List AV} {bs : List Bx} {Q : AV → List Bx → Prop} (h : AC P fn (roC args) bs Q) : AC P fn args bs Q := by
  refine ⟨h.1, fun w φ κ R vs gs Sa Sb hr hrx hφ hφn hκ hone hown hR => ?_⟩
  have h2 := h.2 w φ κ (fun b => R b ∨ Sa b ≠ 0) vs gs Ct.z Sb (RC.ro_ hr) (RXs.mono (fun _ h => .inl h) hrx) hφ hφn hκ (fun x => by have := hone x; simp only [Ct.z]; omega) (fun x hx => hown x (by simp only [Ct.z] at hx; omega)) (fun x hx => by
    rcases hx with hx | hx
    · have := hR x hx; simp only [Ct.z]; exact ⟨this.1, by omega⟩
    · have h1 := hone x; have := hown x (by omega); simp only [Ct.z]; exact ⟨this, by omega⟩)
  refine h2.mono ?_
  rintro e w' ⟨v, r, bs', gs', Sr, Sb', φ', F, h1, h3, h4, h5, h6, h7, h8, h9, h10, h11⟩
  have hup : ∀ x, ((R x ∨ Sa x ≠ 0) ∨ F x) → (R x ∨ (Sa x ≠ 0 ∨ F x)) := fun x hx => by
    rcases hx with (hx | hx) | hx
    · exact .inl hx
    · exact .inr (.inl hx)
    · exact .inr (.inr hx)
  refine ⟨v, r, bs', gs', Sr, Sb', φ', fun x => Sa x ≠ 0 ∨ F x, h1, h3, RV.hist (fun _ _ _ h => h) (fun _ _ _ h => h) hup h4, RXs.mono hup h5, h6, h7, h8, fun x hx => ?_, fun x hx => ?_, ⟨h11.os, h11.tape, h11.output, h11.size, fun b hb hS => h11.block b hb (by simp only [Ct.z]; omega)⟩⟩
  · rcases hx with hx | hx | hx
    · have := h9 x (.inl hx); simp only [Ct.z] at this; exact ⟨this.1, by omega⟩
    · have h12 := hown x (by omega); have h13 := h11.size; exact ⟨by omega, .inl (by omega)⟩
    · have := h9 x (.inr hx); simp only [Ct.z] at this; exact ⟨this.1, by omega⟩
  · rcases hx with hx | hx
    · have h12 := hown x (by omega)
      have h13 := hone x
      by_cases h14 : Sr x + Sb' x = 0
      · exact h14
      · have := h9 x (.inl h14); simp only [Ct.z] at this; omega
    · exact h10 x hx
end Go.Proofs.Ytnjfchigdpifmaa

namespace Go.Proofs.Ytnjfchigdpifmaa
set_option linter.unusedVariables false
set_option linter.unusedSimpArgs false
set_option maxHeartbeats 8000000
open Go.RowKit
set_option maxRecDepth 100000
structure Wn where
  boot : Int
  top : Int
  came : Nat → Bool
abbrev c64 (c : Nat → Bool) : List AV := [B (c 0), B (c 1), B (c 2), B (c 3), B (c 4), B (c 5), B (c 6), B (c 7), B (c 8), B (c 9), B (c 10), B (c 11), B (c 12), B (c 13), B (c 14), B (c 15), B (c 16), B (c 17), B (c 18), B (c 19), B (c 20), B (c 21), B (c 22), B (c 23), B (c 24), B (c 25), B (c 26), B (c 27), B (c 28), B (c 29), B (c 30), B (c 31), B (c 32), B (c 33), B (c 34), B (c 35), B (c 36), B (c 37), B (c 38), B (c 39), B (c 40), B (c 41), B (c 42), B (c 43), B (c 44), B (c 45), B (c 46), B (c 47), B (c 48), B (c 49), B (c 50), B (c 51), B (c 52), B (c 53), B (c 54), B (c 55), B (c 56), B (c 57), B (c 58), B (c 59), B (c 60), B (c 61), B (c 62), B (c 63)]
abbrev wC (w : Wn) : List AV := B true :: I w.boot :: I w.top :: c64 w.came
abbrev tWn : TypeId := 116
abbrev wnX (w : Wn) : Bx := .c tWn (wC w)
def Wn.new : Wn := ⟨-1, 0, fun _ => false⟩
def upd (c : Nat → Bool) (k : Nat) (v : Bool) : Nat → Bool := fun j => if j = k then v else c j
theorem c64_eq (c : Nat → Bool) : c64 c = (List.range 64).map fun j => B (c j) := rfl
theorem c64_at (c : Nat → Bool) {k : Nat} (h : k < 64) : (c64 c)[k]? = some (B (c k)) := by
  rw [c64_eq, List.getElem?_map, List.getElem?_range h]; rfl
theorem c64_set (c : Nat → Bool) (k : Nat) (v : Bool) : (c64 c).set k (B v) = c64 (upd c k v) := by
  rw [c64_eq, c64_eq]
  apply List.ext_getElem?
  intro i
  rw [List.getElem?_set]
  simp only [List.length_map, List.length_range, List.getElem?_map]
  by_cases hi : i < 64
  · rw [List.getElem?_range hi]
    by_cases hk : k = i
    · subst hk; simp [upd, hi]
    · simp [upd, hk, Ne.symm hk]
  · rw [List.getElem?_eq_none (by simpa using hi)]
    split
    · rename_i hk; subst hk; simp [hi]
    · rfl
theorem wC_at (w : Wn) {k : Nat} (h : k < 64) : (wC w)[3 + k]? = some (B (w.came k)) := by
  rw [Nat.add_comm]; exact c64_at w.came h
theorem wC_set (b t : Int) (c : Nat → Bool) (k : Nat) (v : Bool) : (B true :: I b :: I t :: c64 c).set (3 + k) (B v) = B true :: I b :: I t :: c64 (upd c k v) := by
  rw [Nat.add_comm]; exact congrArg (fun l => B true :: I b :: I t :: l) (c64_set c k v)
theorem wnew18_ac : AC Try.prog 52 [] [] (fun v bs' => v = .bp 0 0 0 ∧ bs' = [wnX Wn.new]) := by
  refine AC.N Try.func52 Try.ntmps52 ?_
  intro X hρ hmks
  simp only [nx, Nat.reduceAdd, Nat.reduceSub, BEq.rfl]
  repeat' (first
    | ((first
      | ((with_reducible apply AP.k_any); first | refine AP.ST ?_ | (refine AP.Y ?_; dsimp only) | refine AP.G (fun hg => ?_) (fun hg => ?_) | (refine AP.V (fun c hnil => ?_); simp only [nz])  | refine AP.PF ?_)
      ) <;> (try simp only [ nx, mx, rn, fq, Nat.mul_one, Bool.and_true, Bool.and_false, Nat.reduceBEq, Nat.reduceAdd, Nat.reduceSub, BEq.rfl]))
    | ((with_reducible apply AP.k_nil); first | (refine AP.nil (hQ' _ ?_); clear hQ' Q') | refine AP.nil ?_)
    | ((with_reducible apply CP.k_reg); refine cp_regG fun Q' hQ' => ?_)
      | (with_reducible apply CP.k_reg1; refine cp_region ?_)
      | ((with_reducible apply CP.k_cond); first | refine cp_condT rfl ?_ | refine cp_condF rfl ?_ | refine cp_cond rfl (fun hc => ?_) (fun hc => ?_))
      | refine CP.go ?_
      | (simp only [List.append_eq, List.cons_append, List.nil_append]))
  (exact RetQ.A [(0, 1)] (by exact ⟨rfl, rfl⟩))
theorem wnone18_ac (w : Wn) : AC Try.prog 79 [.bp 0 0 0] [wnX w] (fun v bs' => v = B false ∧ bs' = [wnX w]) := by
  refine AC.N Try.func79 Try.ntmps79 ?_
  intro X hρ hmks
  simp only [nx, Nat.reduceAdd, Nat.reduceSub, BEq.rfl]
  repeat' (first
    | ((first
      | ((with_reducible apply AP.k_any); first | refine AP.ST ?_ | (refine AP.Y ?_; dsimp only) | refine AP.G (fun hg => ?_) (fun hg => ?_) | (refine AP.V (fun c hnil => ?_); simp only [nz])  | refine AP.PF ?_)
      ) <;> (try simp only [ nx, mx, rn, fq, Nat.mul_one, Bool.and_true, Bool.and_false, Nat.reduceBEq, Nat.reduceAdd, Nat.reduceSub, BEq.rfl]))
    | ((with_reducible apply AP.k_nil); first | (refine AP.nil (hQ' _ ?_); clear hQ' Q') | refine AP.nil ?_)
    | ((with_reducible apply CP.k_reg); refine cp_regG fun Q' hQ' => ?_)
      | (with_reducible apply CP.k_reg1; refine cp_region ?_)
      | ((with_reducible apply CP.k_cond); first | refine cp_condT rfl ?_ | refine cp_condF rfl ?_ | refine cp_cond rfl (fun hc => ?_) (fun hc => ?_))
      | refine CP.go ?_
      | (simp only [List.append_eq, List.cons_append, List.nil_append]))
  (exact RetQ.A [(0, 0)] (by exact ⟨rfl, rfl⟩))
def res64 (n : Int) : Nat := (n % 64).toNat
theorem res64_lt (n : Int) : res64 n < 64 := by unfold res64; omega
theorem res64_tmod {n : Int} (h : 0 ≤ n) : n.tmod 64 = (res64 n : Int) := by
  unfold res64
  rw [Int.tmod_eq_emod_of_nonneg h]; omega
def Wn.up (w : Wn) : Wn := ⟨w.boot, w.top + 1, upd w.came (res64 (w.top + 1)) false⟩
def Wn.ups : Nat → Wn → Wn
  | 0, w => w
  | k + 1, w => (Wn.ups k w).up
theorem Wn.ups_top (w : Wn) : ∀ k, (w.ups k).top = w.top + k
  | 0 => by simp [Wn.ups]
  | k + 1 => by simp [Wn.ups, Wn.up, Wn.ups_top w k]; omega
theorem Wn.ups_boot (w : Wn) : ∀ k, (w.ups k).boot = w.boot
  | 0 => rfl
  | k + 1 => by simp [Wn.ups, Wn.up, Wn.ups_boot w k]
def Wn.base (w : Wn) (boot : Int) : Wn := if w.boot < boot then ⟨boot, 0, fun _ => false⟩ else w
def Wn.far (x : Wn) (n : Int) : Wn := if x.top ≤ n - 64 then ⟨x.boot, n, fun _ => false⟩ else x
def Wn.mark (x : Wn) (n : Int) : Wn := ⟨x.boot, x.top, upd x.came (res64 n) true⟩
def Wn.old (x : Wn) (n : Int) : Bool := decide (n ≤ x.top - 64) || (decide (n ≤ x.top) && x.came (res64 n))
def Wn.go (x : Wn) (n : Int) : Wn := ((x.far n).ups (n - (x.far n).top).toNat).mark n
def Wn.after (w : Wn) (boot n : Int) : Wn := if boot < w.boot ∨ n < 1 then w else if (w.base boot).old n = true then w else (w.base boot).go n
/-- in range -/
def Wn.ok (w : Wn) : Prop := 0 ≤ w.top ∧ w.top ≤ 9223372036854775807
end Go.Proofs.Ytnjfchigdpifmaa

namespace Go.Proofs.Ytnjfchigdpifmaa
set_option linter.unusedVariables false
set_option linter.unusedSimpArgs false
set_option maxHeartbeats 8000000
open Go.RowKit
set_option maxRecDepth 100000
theorem after_no (w : Wn) (boot n : Int) (h : boot < w.boot ∨ n < 1) : AC Try.prog 80 [.ag (wC w), I boot, I n] [] (fun v bs' => v = .ag (wC (w.after boot n)) ∧ bs' = []) := by
  have e : w.after boot n = w := if_pos h
  rw [e]
  rcases h with h | h
  · have d1 : decide (boot < w.boot) = true := by simp; omega
    refine AC.N Try.func80 Try.ntmps80 ?_
    intro X hρ hmks
    simp only [nx, Nat.reduceAdd, Nat.reduceSub, BEq.rfl]
    repeat' (first
      | ((first
        | ((with_reducible apply AP.k_any); first | refine AP.ST ?_ | (refine AP.Y ?_; dsimp only) | refine AP.G (fun hg => ?_) (fun hg => ?_) | (refine AP.V (fun c hnil => ?_); simp only [nz])  | refine AP.PF ?_)
        ) <;> (try simp only [d1, nx, mx, rn, fq, Nat.mul_one, Bool.and_true, Bool.and_false, Nat.reduceBEq, Nat.reduceAdd, Nat.reduceSub, BEq.rfl]))
      | ((with_reducible apply AP.k_nil); first | (refine AP.nil (hQ' _ ?_); clear hQ' Q') | refine AP.nil ?_)
      | ((with_reducible apply CP.k_reg); refine cp_regG fun Q' hQ' => ?_)
        | (with_reducible apply CP.k_reg1; refine cp_region ?_)
        | ((with_reducible apply CP.k_cond); first | refine cp_condT rfl ?_ | refine cp_condF rfl ?_ | refine cp_cond rfl (fun hc => ?_) (fun hc => ?_))
        | refine CP.go ?_
        | (simp only [List.append_eq, List.cons_append, List.nil_append]))
    (exact RetQ.A [] (by exact ⟨rfl, rfl⟩))
  · by_cases h1 : boot < w.boot
    · have d1 : decide (boot < w.boot) = true := by simp; omega
      refine AC.N Try.func80 Try.ntmps80 ?_
      intro X hρ hmks
      simp only [nx, Nat.reduceAdd, Nat.reduceSub, BEq.rfl]
      repeat' (first
        | ((first
          | ((with_reducible apply AP.k_any); first | refine AP.ST ?_ | (refine AP.Y ?_; dsimp only) | refine AP.G (fun hg => ?_) (fun hg => ?_) | (refine AP.V (fun c hnil => ?_); simp only [nz])  | refine AP.PF ?_)
          ) <;> (try simp only [d1, nx, mx, rn, fq, Nat.mul_one, Bool.and_true, Bool.and_false, Nat.reduceBEq, Nat.reduceAdd, Nat.reduceSub, BEq.rfl]))
        | ((with_reducible apply AP.k_nil); first | (refine AP.nil (hQ' _ ?_); clear hQ' Q') | refine AP.nil ?_)
        | ((with_reducible apply CP.k_reg); refine cp_regG fun Q' hQ' => ?_)
          | (with_reducible apply CP.k_reg1; refine cp_region ?_)
          | ((with_reducible apply CP.k_cond); first | refine cp_condT rfl ?_ | refine cp_condF rfl ?_ | refine cp_cond rfl (fun hc => ?_) (fun hc => ?_))
          | refine CP.go ?_
          | (simp only [List.append_eq, List.cons_append, List.nil_append]))
      (exact RetQ.A [] (by exact ⟨rfl, rfl⟩))
    · have d1 : decide (boot < w.boot) = false := by simp; omega
      have d2 : decide (n < 1) = true := by simp; omega
      refine AC.N Try.func80 Try.ntmps80 ?_
      intro X hρ hmks
      simp only [nx, Nat.reduceAdd, Nat.reduceSub, BEq.rfl]
      repeat' (first
        | ((first
          | ((with_reducible apply AP.k_any); first | refine AP.ST ?_ | (refine AP.Y ?_; dsimp only) | refine AP.G (fun hg => ?_) (fun hg => ?_) | (refine AP.V (fun c hnil => ?_); simp only [nz])  | refine AP.PF ?_)
          ) <;> (try simp only [d1, d2, nx, mx, rn, fq, Nat.mul_one, Bool.and_true, Bool.and_false, Nat.reduceBEq, Nat.reduceAdd, Nat.reduceSub, BEq.rfl]))
        | ((with_reducible apply AP.k_nil); first | (refine AP.nil (hQ' _ ?_); clear hQ' Q') | refine AP.nil ?_)
        | ((with_reducible apply CP.k_reg); refine cp_regG fun Q' hQ' => ?_)
          | (with_reducible apply CP.k_reg1; refine cp_region ?_)
          | ((with_reducible apply CP.k_cond); first | refine cp_condT rfl ?_ | refine cp_condF rfl ?_ | refine cp_cond rfl (fun hc => ?_) (fun hc => ?_))
          | refine CP.go ?_
          | (simp only [List.append_eq, List.cons_append, List.nil_append]))
      (exact RetQ.A [] (by exact ⟨rfl, rfl⟩))
theorem after_old (w : Wn) (boot n : Int) (hb : boot = w.boot) (h1 : 1 ≤ n) (hn : n ≤ 9223372036854775807) (ht : w.ok) (h : w.old n = true) : AC Try.prog 80 [.ag (wC w), I boot, I n] [] (fun v bs' => v = .ag (wC (w.after boot n)) ∧ bs' = []) := by
  have e : w.after boot n = w := by
    unfold Wn.after
    rw [if_neg (by omega)]
    have : w.base boot = w := if_neg (by omega)
    rw [this, if_pos h]
  rw [e]
  obtain ⟨ht1, ht2⟩ := ht
  have d1 : decide (boot < w.boot) = false := by simp; omega
  have d2 : decide (n < 1) = false := by simp; omega
  have d3 : decide (w.boot < boot) = false := by simp; omega
  have hw1 : IntKind.i64.wrap (w.top - 64) = w.top - 64 := wrap_i64 (by omega) (by omega)
  have hm := res64_tmod (n := n) (by omega)
  have hk := res64_lt n
  have hat := wC_at w hk
  unfold Wn.old at h
  generalize res64 n = k at *
  generalize w.came k = v at *
  by_cases h4 : n ≤ w.top - 64
  · have d4 : decide (n ≤ w.top - 64) = true := by simp; omega
    refine AC.N Try.func80 Try.ntmps80 ?_
    intro X hρ hmks
    simp only [nx, Nat.reduceAdd, Nat.reduceSub, BEq.rfl]
    repeat' (first
      | ((first
        | ((with_reducible apply AP.k_any); first | refine AP.ST ?_ | (refine AP.Y ?_; dsimp only) | refine AP.G (fun hg => ?_) (fun hg => ?_) | (refine AP.V (fun c hnil => ?_); simp only [nz])  | refine AP.PF ?_)
        ) <;> (try simp only [d1, d2, d3, d4, hw1, nx, mx, rn, fq, Nat.mul_one, Bool.and_true, Bool.and_false, Nat.reduceBEq, Nat.reduceAdd, Nat.reduceSub, BEq.rfl]))
      | ((with_reducible apply AP.k_nil); first | (refine AP.nil (hQ' _ ?_); clear hQ' Q') | refine AP.nil ?_)
      | ((with_reducible apply CP.k_reg); refine cp_regG fun Q' hQ' => ?_)
        | (with_reducible apply CP.k_reg1; refine cp_region ?_)
        | ((with_reducible apply CP.k_cond); first | refine cp_condT rfl ?_ | refine cp_condF rfl ?_ | refine cp_cond rfl (fun hc => ?_) (fun hc => ?_))
        | refine CP.go ?_
        | (simp only [List.append_eq, List.cons_append, List.nil_append]))
    (exact RetQ.A [] (by exact ⟨rfl, rfl⟩))
  · have d4 : decide (n ≤ w.top - 64) = false := by simp; omega
    rw [d4] at h
    simp only [Bool.false_or, Bool.and_eq_true, decide_eq_true_eq] at h
    have d5 : decide (n ≤ w.top) = true := by simp; omega
    obtain ⟨_, rfl⟩ := h
    refine AC.N Try.func80 Try.ntmps80 ?_
    intro X hρ hmks
    simp only [nx, Nat.reduceAdd, Nat.reduceSub, BEq.rfl]
    repeat' (first
      | ((first
        | ((with_reducible apply AP.k_any); first | refine AP.ST ?_ | (refine AP.Y ?_; dsimp only) | refine AP.G (fun hg => ?_) (fun hg => ?_) | (refine AP.V (fun c hnil => ?_); simp only [nz])  | refine AP.PF ?_)
        ) <;> (try simp only [d1, d2, d3, d4, d5, hw1, hm, nx, mx, rn, fq, Nat.mul_one, Bool.and_true, Bool.and_false, Nat.reduceBEq, Nat.reduceAdd, Nat.reduceSub, BEq.rfl]))
      | ((with_reducible apply AP.k_nil); first | (refine AP.nil (hQ' _ ?_); clear hQ' Q') | refine AP.nil ?_)
      | ((with_reducible apply CP.k_reg); refine cp_regG fun Q' hQ' => ?_)
        | (with_reducible apply CP.k_reg1; refine cp_region ?_)
        | ((with_reducible apply CP.k_cond); first | refine cp_condT rfl ?_ | refine cp_condF rfl ?_ | refine cp_cond rfl (fun hc => ?_) (fun hc => ?_))
        | refine CP.go ?_
        | (simp only [List.append_eq, List.cons_append, List.nil_append]))
    (exact RetQ.A [] (by exact ⟨rfl, rfl⟩))
theorem after_near (w : Wn) (boot n : Int) (hb : boot = w.boot) (h1 : 1 ≤ n) (hn : n ≤ 9223372036854775807) (ht : w.ok) (h : w.old n = false) (hf : ¬ w.top ≤ n - 64) : AC Try.prog 80 [.ag (wC w), I boot, I n] [] (fun v bs' => v = .ag (wC (w.after boot n)) ∧ bs' = []) := by
  have e : w.after boot n = (w.ups (n - w.top).toNat).mark n := by
    unfold Wn.after
    rw [if_neg (by omega)]
    have e1 : w.base boot = w := if_neg (by omega)
    have e2 : w.far n = w := if_neg hf
    rw [e1, if_neg (by rw [h]; simp)]
    unfold Wn.go
    rw [e2]
  rw [e]
  obtain ⟨ht1, ht2⟩ := ht
  have d1 : decide (boot < w.boot) = false := by simp; omega
  have d2 : decide (n < 1) = false := by simp; omega
  have d3 : decide (w.boot < boot) = false := by simp; omega
  have d7 : decide (w.top ≤ n - 64) = false := by simp; omega
  have hw1 : IntKind.i64.wrap (w.top - 64) = w.top - 64 := wrap_i64 (by omega) (by omega)
  have hw2 : IntKind.i64.wrap (n - 64) = n - 64 := wrap_i64 (by omega) (by omega)
  have hm := res64_tmod (n := n) (by omega)
  have hk := res64_lt n
  have hat := wC_at w hk
  unfold Wn.old at h
  simp only [Bool.or_eq_false_iff, Bool.and_eq_false_iff, decide_eq_false_iff_not] at h
  obtain ⟨h4, h5⟩ := h
  have d4 : decide (n ≤ w.top - 64) = false := by simp; omega
  unfold Wn.mark
  generalize res64 n = k at *
  generalize w.came k = v at *
  by_cases hl : n ≤ w.top
  · have d5 : decide (n ≤ w.top) = true := by simp; omega
    have hv : v = false := h5.resolve_left (by omega)
    subst hv
    refine AC.N Try.func80 Try.ntmps80 ?_
    intro X hρ hmks
    simp only [nx, Nat.reduceAdd, Nat.reduceSub, BEq.rfl]
    repeat' (first
      | ((first
        | ((with_reducible apply AP.k_any); first | refine AP.ST ?_ | (refine AP.Y ?_; dsimp only) | refine AP.G (fun hg => ?_) (fun hg => ?_) | (refine AP.V (fun c hnil => ?_); simp only [nz])  | refine AP.PF ?_)
        ) <;> (try simp only [d1, d2, d3, d4, d5, d7, hw1, hw2, hm, nx, mx, rn, fq, Nat.mul_one, Bool.and_true, Bool.and_false, Nat.reduceBEq, Nat.reduceAdd, Nat.reduceSub, BEq.rfl]))
      | ((with_reducible apply AP.k_nil); first | (refine AP.nil (hQ' _ ?_); clear hQ' Q') | refine AP.nil ?_)
      | ((with_reducible apply CP.k_reg); refine cp_regG fun Q' hQ' => ?_)
        | (with_reducible apply CP.k_reg1; refine cp_region ?_)
        | ((with_reducible apply CP.k_cond); first | refine cp_condT rfl ?_ | refine cp_condF rfl ?_ | refine cp_cond rfl (fun hc => ?_) (fun hc => ?_))
        | refine CP.go ?_
        | (simp only [List.append_eq, List.cons_append, List.nil_append]))
    refine cp_loopS [54, 55, 56, 57, 58, 59, 60, 61, 62, 63, 64, 65, 66] (fun a : Nat => (n - w.top).toNat - a) (fun a => a ≤ (n - w.top).toNat) (fun a => []) (fun a => [(2, ⟨1, wnX (w.ups a)⟩)]) 0 (Nat.zero_le _) (by exact Gh.W) ?_
    intro a ha
    simp only [setT, deT, setB, List.set_cons_succ, List.set_cons_zero]
    have hut : (w.ups a).top = w.top + a := Wn.ups_top w a
    have hub := Wn.ups_boot w a
    by_cases hlt : a < (n - w.top).toNat
    · have e2 : w.ups (a + 1) = (w.ups a).up := rfl
      generalize w.ups a = y at *
      have q1 : decide (y.top < n) = true := by simp; omega
      have q2 : IntKind.i64.wrap (y.top + 1) = y.top + 1 := wrap_i64 (by omega) (by omega)
      have q3 := res64_tmod (n := y.top + 1) (by omega)
      have q4 := res64_lt (y.top + 1)
      have q5 := wC_set y.boot (y.top + 1) y.came (res64 (y.top + 1)) false
      unfold Wn.up at e2
      generalize res64 (y.top + 1) = r at *
      repeat' (first
        | ((first
          | ((with_reducible apply AP.k_any); first | refine AP.ST ?_ | (refine AP.Y ?_; dsimp only) | refine AP.G (fun hg => ?_) (fun hg => ?_) | (refine AP.V (fun c hnil => ?_); simp only [nz])  | refine AP.PF ?_)
          ) <;> (try simp only [q1, q2, q3, q5, Int.toNat_natCast, nx, mx, rn, fq, Nat.mul_one, Bool.and_true, Bool.and_false, Nat.reduceBEq, Nat.reduceAdd, Nat.reduceSub, BEq.rfl]))
        | ((with_reducible apply AP.k_nil); first | (refine AP.nil (hQ' _ ?_); clear hQ' Q') | refine AP.nil ?_)
        | ((with_reducible apply CP.k_reg); refine cp_regG fun Q' hQ' => ?_)
          | (with_reducible apply CP.k_reg1; refine cp_region ?_)
          | ((with_reducible apply CP.k_cond); first | refine cp_condT rfl ?_ | refine cp_condF rfl ?_ | refine cp_cond rfl (fun hc => ?_) (fun hc => ?_))
          | refine CP.go ?_
          | (simp only [List.append_eq, List.cons_append, List.nil_append]))
      exact ⟨a + 1, by omega, by omega, by (rw [e2]; exact Gh.W)⟩
    · obtain rfl : a = (n - w.top).toNat := by omega
      generalize w.ups (n - w.top).toNat = y at *
      have q1 : decide (y.top < n) = false := by simp; omega
      have q5 := wC_set y.boot y.top y.came k true
      repeat' (first
        | ((first
          | ((with_reducible apply AP.k_any); first | refine AP.ST ?_ | (refine AP.Y ?_; dsimp only) | refine AP.G (fun hg => ?_) (fun hg => ?_) | (refine AP.V (fun c hnil => ?_); simp only [nz])  | refine AP.PF ?_)
          ) <;> (try simp only [q1, hm, q5, Int.toNat_natCast, nx, mx, rn, fq, Nat.mul_one, Bool.and_true, Bool.and_false, Nat.reduceBEq, Nat.reduceAdd, Nat.reduceSub, BEq.rfl]))
        | ((with_reducible apply AP.k_nil); first | (refine AP.nil (hQ' _ ?_); clear hQ' Q') | refine AP.nil ?_)
        | ((with_reducible apply CP.k_reg); refine cp_regG fun Q' hQ' => ?_)
          | (with_reducible apply CP.k_reg1; refine cp_region ?_)
          | ((with_reducible apply CP.k_cond); first | refine cp_condT rfl ?_ | refine cp_condF rfl ?_ | refine cp_cond rfl (fun hc => ?_) (fun hc => ?_))
          | refine CP.go ?_
          | (simp only [List.append_eq, List.cons_append, List.nil_append]))
      (exact RetQ.A [] (by exact ⟨rfl, rfl⟩))
  · have d5 : decide (n ≤ w.top) = false := by simp; omega
    refine AC.N Try.func80 Try.ntmps80 ?_
    intro X hρ hmks
    simp only [nx, Nat.reduceAdd, Nat.reduceSub, BEq.rfl]
    repeat' (first
      | ((first
        | ((with_reducible apply AP.k_any); first | refine AP.ST ?_ | (refine AP.Y ?_; dsimp only) | refine AP.G (fun hg => ?_) (fun hg => ?_) | (refine AP.V (fun c hnil => ?_); simp only [nz])  | refine AP.PF ?_)
        ) <;> (try simp only [d1, d2, d3, d4, d5, d7, hw1, hw2, hm, nx, mx, rn, fq, Nat.mul_one, Bool.and_true, Bool.and_false, Nat.reduceBEq, Nat.reduceAdd, Nat.reduceSub, BEq.rfl]))
      | ((with_reducible apply AP.k_nil); first | (refine AP.nil (hQ' _ ?_); clear hQ' Q') | refine AP.nil ?_)
      | ((with_reducible apply CP.k_reg); refine cp_regG fun Q' hQ' => ?_)
        | (with_reducible apply CP.k_reg1; refine cp_region ?_)
        | ((with_reducible apply CP.k_cond); first | refine cp_condT rfl ?_ | refine cp_condF rfl ?_ | refine cp_cond rfl (fun hc => ?_) (fun hc => ?_))
        | refine CP.go ?_
        | (simp only [List.append_eq, List.cons_append, List.nil_append]))
    refine cp_loopS [54, 55, 56, 57, 58, 59, 60, 61, 62, 63, 64, 65, 66] (fun a : Nat => (n - w.top).toNat - a) (fun a => a ≤ (n - w.top).toNat) (fun a => []) (fun a => [(2, ⟨1, wnX (w.ups a)⟩)]) 0 (Nat.zero_le _) (by exact Gh.W) ?_
    intro a ha
    simp only [setT, deT, setB, List.set_cons_succ, List.set_cons_zero]
    have hut : (w.ups a).top = w.top + a := Wn.ups_top w a
    have hub := Wn.ups_boot w a
    by_cases hlt : a < (n - w.top).toNat
    · have e2 : w.ups (a + 1) = (w.ups a).up := rfl
      generalize w.ups a = y at *
      have q1 : decide (y.top < n) = true := by simp; omega
      have q2 : IntKind.i64.wrap (y.top + 1) = y.top + 1 := wrap_i64 (by omega) (by omega)
      have q3 := res64_tmod (n := y.top + 1) (by omega)
      have q4 := res64_lt (y.top + 1)
      have q5 := wC_set y.boot (y.top + 1) y.came (res64 (y.top + 1)) false
      unfold Wn.up at e2
      generalize res64 (y.top + 1) = r at *
      repeat' (first
        | ((first
          | ((with_reducible apply AP.k_any); first | refine AP.ST ?_ | (refine AP.Y ?_; dsimp only) | refine AP.G (fun hg => ?_) (fun hg => ?_) | (refine AP.V (fun c hnil => ?_); simp only [nz])  | refine AP.PF ?_)
          ) <;> (try simp only [q1, q2, q3, q5, Int.toNat_natCast, nx, mx, rn, fq, Nat.mul_one, Bool.and_true, Bool.and_false, Nat.reduceBEq, Nat.reduceAdd, Nat.reduceSub, BEq.rfl]))
        | ((with_reducible apply AP.k_nil); first | (refine AP.nil (hQ' _ ?_); clear hQ' Q') | refine AP.nil ?_)
        | ((with_reducible apply CP.k_reg); refine cp_regG fun Q' hQ' => ?_)
          | (with_reducible apply CP.k_reg1; refine cp_region ?_)
          | ((with_reducible apply CP.k_cond); first | refine cp_condT rfl ?_ | refine cp_condF rfl ?_ | refine cp_cond rfl (fun hc => ?_) (fun hc => ?_))
          | refine CP.go ?_
          | (simp only [List.append_eq, List.cons_append, List.nil_append]))
      exact ⟨a + 1, by omega, by omega, by (rw [e2]; exact Gh.W)⟩
    · obtain rfl : a = (n - w.top).toNat := by omega
      generalize w.ups (n - w.top).toNat = y at *
      have q1 : decide (y.top < n) = false := by simp; omega
      have q5 := wC_set y.boot y.top y.came k true
      repeat' (first
        | ((first
          | ((with_reducible apply AP.k_any); first | refine AP.ST ?_ | (refine AP.Y ?_; dsimp only) | refine AP.G (fun hg => ?_) (fun hg => ?_) | (refine AP.V (fun c hnil => ?_); simp only [nz])  | refine AP.PF ?_)
          ) <;> (try simp only [q1, hm, q5, Int.toNat_natCast, nx, mx, rn, fq, Nat.mul_one, Bool.and_true, Bool.and_false, Nat.reduceBEq, Nat.reduceAdd, Nat.reduceSub, BEq.rfl]))
        | ((with_reducible apply AP.k_nil); first | (refine AP.nil (hQ' _ ?_); clear hQ' Q') | refine AP.nil ?_)
        | ((with_reducible apply CP.k_reg); refine cp_regG fun Q' hQ' => ?_)
          | (with_reducible apply CP.k_reg1; refine cp_region ?_)
          | ((with_reducible apply CP.k_cond); first | refine cp_condT rfl ?_ | refine cp_condF rfl ?_ | refine cp_cond rfl (fun hc => ?_) (fun hc => ?_))
          | refine CP.go ?_
          | (simp only [List.append_eq, List.cons_append, List.nil_append]))
      (exact RetQ.A [] (by exact ⟨rfl, rfl⟩))
theorem after_far (w : Wn) (boot n : Int) (hb : boot = w.boot) (h1 : 1 ≤ n) (hn : n ≤ 9223372036854775807) (ht : w.ok) (hf : w.top ≤ n - 64) : AC Try.prog 80 [.ag (wC w), I boot, I n] [] (fun v bs' => v = .ag (wC (w.after boot n)) ∧ bs' = []) := by
  have e : w.after boot n = ((⟨w.boot, n, fun _ => false⟩ : Wn).ups (n - n).toNat).mark n := by
    unfold Wn.after
    rw [if_neg (by omega)]
    have e1 : w.base boot = w := if_neg (by omega)
    have e2 : w.far n = ⟨w.boot, n, fun _ => false⟩ := if_pos hf
    have h : w.old n = false := by
      unfold Wn.old
      simp only [Bool.or_eq_false_iff, Bool.and_eq_false_iff, decide_eq_false_iff_not]
      obtain ⟨ht1, ht2⟩ := ht
      exact ⟨by omega, .inl (by omega)⟩
    rw [e1, if_neg (by rw [h]; simp)]
    unfold Wn.go
    rw [e2]
  rw [e]
  obtain ⟨ht1, ht2⟩ := ht
  have d1 : decide (boot < w.boot) = false := by simp; omega
  have d2 : decide (n < 1) = false := by simp; omega
  have d3 : decide (w.boot < boot) = false := by simp; omega
  have d7 : decide (w.top ≤ n - 64) = true := by simp; omega
  have hw1 : IntKind.i64.wrap (w.top - 64) = w.top - 64 := wrap_i64 (by omega) (by omega)
  have hw2 : IntKind.i64.wrap (n - 64) = n - 64 := wrap_i64 (by omega) (by omega)
  have hm := res64_tmod (n := n) (by omega)
  have hk := res64_lt n
  have d4 : decide (n ≤ w.top - 64) = false := by simp; omega
  have d5 : decide (n ≤ w.top) = false := by simp; omega
  unfold Wn.mark
  generalize res64 n = k at *
  refine AC.N Try.func80 Try.ntmps80 ?_
  intro X hρ hmks
  simp only [nx, Nat.reduceAdd, Nat.reduceSub, BEq.rfl]
  repeat' (first
    | ((first
      | ((with_reducible apply AP.k_any); first | refine AP.ST ?_ | (refine AP.Y ?_; dsimp only) | refine AP.G (fun hg => ?_) (fun hg => ?_) | (refine AP.V (fun c hnil => ?_); simp only [nz])  | refine AP.PF ?_)
      ) <;> (try simp only [d1, d2, d3, d4, d5, d7, hw1, hw2, hm, nx, mx, rn, fq, Nat.mul_one, Bool.and_true, Bool.and_false, Nat.reduceBEq, Nat.reduceAdd, Nat.reduceSub, BEq.rfl]))
    | ((with_reducible apply AP.k_nil); first | (refine AP.nil (hQ' _ ?_); clear hQ' Q') | refine AP.nil ?_)
    | ((with_reducible apply CP.k_reg); refine cp_regG fun Q' hQ' => ?_)
      | (with_reducible apply CP.k_reg1; refine cp_region ?_)
      | ((with_reducible apply CP.k_cond); first | refine cp_condT rfl ?_ | refine cp_condF rfl ?_ | refine cp_cond rfl (fun hc => ?_) (fun hc => ?_))
      | refine CP.go ?_
      | (simp only [List.append_eq, List.cons_append, List.nil_append]))
  refine cp_loopS [54, 55, 56, 57, 58, 59, 60, 61, 62, 63, 64, 65, 66] (fun a : Nat => (n - n).toNat - a) (fun a => a ≤ (n - n).toNat) (fun a => []) (fun a => [(2, ⟨1, wnX ((⟨w.boot, n, fun _ => false⟩ : Wn).ups a)⟩)]) 0 (Nat.zero_le _) (by exact Gh.W) ?_
  intro a ha
  simp only [setT, deT, setB, List.set_cons_succ, List.set_cons_zero]
  have hut : ((⟨w.boot, n, fun _ => false⟩ : Wn).ups a).top = n + a := Wn.ups_top (⟨w.boot, n, fun _ => false⟩ : Wn) a
  have hub := Wn.ups_boot (⟨w.boot, n, fun _ => false⟩ : Wn) a
  by_cases hlt : a < (n - n).toNat
  · have e2 : (⟨w.boot, n, fun _ => false⟩ : Wn).ups (a + 1) = ((⟨w.boot, n, fun _ => false⟩ : Wn).ups a).up := rfl
    generalize (⟨w.boot, n, fun _ => false⟩ : Wn).ups a = y at *
    have q1 : decide (y.top < n) = true := by simp; omega
    have q2 : IntKind.i64.wrap (y.top + 1) = y.top + 1 := wrap_i64 (by omega) (by omega)
    have q3 := res64_tmod (n := y.top + 1) (by omega)
    have q4 := res64_lt (y.top + 1)
    have q5 := wC_set y.boot (y.top + 1) y.came (res64 (y.top + 1)) false
    unfold Wn.up at e2
    generalize res64 (y.top + 1) = r at *
    repeat' (first
      | ((first
        | ((with_reducible apply AP.k_any); first | refine AP.ST ?_ | (refine AP.Y ?_; dsimp only) | refine AP.G (fun hg => ?_) (fun hg => ?_) | (refine AP.V (fun c hnil => ?_); simp only [nz])  | refine AP.PF ?_)
        ) <;> (try simp only [q1, q2, q3, q5, Int.toNat_natCast, nx, mx, rn, fq, Nat.mul_one, Bool.and_true, Bool.and_false, Nat.reduceBEq, Nat.reduceAdd, Nat.reduceSub, BEq.rfl]))
      | ((with_reducible apply AP.k_nil); first | (refine AP.nil (hQ' _ ?_); clear hQ' Q') | refine AP.nil ?_)
      | ((with_reducible apply CP.k_reg); refine cp_regG fun Q' hQ' => ?_)
        | (with_reducible apply CP.k_reg1; refine cp_region ?_)
        | ((with_reducible apply CP.k_cond); first | refine cp_condT rfl ?_ | refine cp_condF rfl ?_ | refine cp_cond rfl (fun hc => ?_) (fun hc => ?_))
        | refine CP.go ?_
        | (simp only [List.append_eq, List.cons_append, List.nil_append]))
    exact ⟨a + 1, by omega, by omega, by (rw [e2]; exact Gh.W)⟩
  · obtain rfl : a = (n - n).toNat := by omega
    generalize (⟨w.boot, n, fun _ => false⟩ : Wn).ups (n - n).toNat = y at *
    have q1 : decide (y.top < n) = false := by simp; omega
    have q5 := wC_set y.boot y.top y.came k true
    repeat' (first
      | ((first
        | ((with_reducible apply AP.k_any); first | refine AP.ST ?_ | (refine AP.Y ?_; dsimp only) | refine AP.G (fun hg => ?_) (fun hg => ?_) | (refine AP.V (fun c hnil => ?_); simp only [nz])  | refine AP.PF ?_)
        ) <;> (try simp only [q1, hm, q5, Int.toNat_natCast, nx, mx, rn, fq, Nat.mul_one, Bool.and_true, Bool.and_false, Nat.reduceBEq, Nat.reduceAdd, Nat.reduceSub, BEq.rfl]))
      | ((with_reducible apply AP.k_nil); first | (refine AP.nil (hQ' _ ?_); clear hQ' Q') | refine AP.nil ?_)
      | ((with_reducible apply CP.k_reg); refine cp_regG fun Q' hQ' => ?_)
        | (with_reducible apply CP.k_reg1; refine cp_region ?_)
        | ((with_reducible apply CP.k_cond); first | refine cp_condT rfl ?_ | refine cp_condF rfl ?_ | refine cp_cond rfl (fun hc => ?_) (fun hc => ?_))
        | refine CP.go ?_
        | (simp only [List.append_eq, List.cons_append, List.nil_append]))
    (exact RetQ.A [] (by exact ⟨rfl, rfl⟩))
theorem base_new {w : Wn} {boot n : Int} (hb : w.boot < boot) (h1 : 1 ≤ n) : w.after boot n = (⟨boot, 0, fun _ => false⟩ : Wn).go n := by
  unfold Wn.after
  rw [if_neg (by omega)]
  have e1 : w.base boot = ⟨boot, 0, fun _ => false⟩ := if_pos hb
  have h : (⟨boot, 0, fun _ => false⟩ : Wn).old n = false := by
    unfold Wn.old
    simp only [Bool.or_eq_false_iff, Bool.and_eq_false_iff, decide_eq_false_iff_not]
    exact ⟨by omega, .inr trivial⟩
  rw [e1, if_neg (by rw [h]; simp)]
theorem new_near (w : Wn) (boot n : Int) (hb : w.boot < boot) (h1 : 1 ≤ n) (hn : n ≤ 9223372036854775807) (ht : w.ok) (hf : n < 64) : AC Try.prog 80 [.ag (wC w), I boot, I n] [] (fun v bs' => v = .ag (wC (w.after boot n)) ∧ bs' = []) := by
  have e : w.after boot n = ((⟨boot, 0, fun _ => false⟩ : Wn).ups (n - 0).toNat).mark n := by
    rw [base_new hb h1]
    unfold Wn.go
    have e2 : (⟨boot, 0, fun _ => false⟩ : Wn).far n = ⟨boot, 0, fun _ => false⟩ := if_neg (by dsimp only; omega)
    rw [e2]
  have d7 : decide (0 ≤ n - 64) = false := by simp; omega
  rw [e]
  obtain ⟨ht1, ht2⟩ := ht
  have d1 : decide (boot < w.boot) = false := by simp; omega
  have d2 : decide (n < 1) = false := by simp; omega
  have d3 : decide (w.boot < boot) = true := by simp; omega
  have hw1 : IntKind.i64.wrap (0 - 64) = -64 := wrap_i64 (by omega) (by omega)
  have hw2 : IntKind.i64.wrap (n - 64) = n - 64 := wrap_i64 (by omega) (by omega)
  have hm := res64_tmod (n := n) (by omega)
  have hk := res64_lt n
  have d4 : decide (n ≤ -64) = false := by simp; omega
  have d5 : decide (n ≤ 0) = false := by simp; omega
  unfold Wn.mark
  generalize res64 n = k at *
  refine AC.N Try.func80 Try.ntmps80 ?_
  intro X hρ hmks
  simp only [nx, Nat.reduceAdd, Nat.reduceSub, BEq.rfl]
  repeat' (first
    | ((first
      | ((with_reducible apply AP.k_any); first | refine AP.ST ?_ | (refine AP.Y ?_; dsimp only) | refine AP.G (fun hg => ?_) (fun hg => ?_) | (refine AP.V (fun c hnil => ?_); simp only [nz])  | refine AP.PF ?_)
      ) <;> (try simp only [d1, d2, d3, d4, d5, d7, hw1, hw2, hm, nx, mx, rn, fq, Nat.mul_one, Bool.and_true, Bool.and_false, Nat.reduceBEq, Nat.reduceAdd, Nat.reduceSub, BEq.rfl]))
    | ((with_reducible apply AP.k_nil); first | (refine AP.nil (hQ' _ ?_); clear hQ' Q') | refine AP.nil ?_)
    | ((with_reducible apply CP.k_reg); refine cp_regG fun Q' hQ' => ?_)
      | (with_reducible apply CP.k_reg1; refine cp_region ?_)
      | ((with_reducible apply CP.k_cond); first | refine cp_condT rfl ?_ | refine cp_condF rfl ?_ | refine cp_cond rfl (fun hc => ?_) (fun hc => ?_))
      | refine CP.go ?_
      | (simp only [List.append_eq, List.cons_append, List.nil_append]))
  refine cp_loopS [54, 55, 56, 57, 58, 59, 60, 61, 62, 63, 64, 65, 66] (fun a : Nat => (n - 0).toNat - a) (fun a => a ≤ (n - 0).toNat) (fun a => []) (fun a => [(2, ⟨1, wnX ((⟨boot, 0, fun _ => false⟩ : Wn).ups a)⟩)]) 0 (Nat.zero_le _) (by exact Gh.W) ?_
  intro a ha
  simp only [setT, deT, setB, List.set_cons_succ, List.set_cons_zero]
  have hut : ((⟨boot, 0, fun _ => false⟩ : Wn).ups a).top = 0 + a := Wn.ups_top (⟨boot, 0, fun _ => false⟩ : Wn) a
  have hub := Wn.ups_boot (⟨boot, 0, fun _ => false⟩ : Wn) a
  by_cases hlt : a < (n - 0).toNat
  · have e2 : (⟨boot, 0, fun _ => false⟩ : Wn).ups (a + 1) = ((⟨boot, 0, fun _ => false⟩ : Wn).ups a).up := rfl
    generalize (⟨boot, 0, fun _ => false⟩ : Wn).ups a = y at *
    have q1 : decide (y.top < n) = true := by simp; omega
    have q2 : IntKind.i64.wrap (y.top + 1) = y.top + 1 := wrap_i64 (by omega) (by omega)
    have q3 := res64_tmod (n := y.top + 1) (by omega)
    have q4 := res64_lt (y.top + 1)
    have q5 := wC_set y.boot (y.top + 1) y.came (res64 (y.top + 1)) false
    unfold Wn.up at e2
    generalize res64 (y.top + 1) = r at *
    repeat' (first
      | ((first
        | ((with_reducible apply AP.k_any); first | refine AP.ST ?_ | (refine AP.Y ?_; dsimp only) | refine AP.G (fun hg => ?_) (fun hg => ?_) | (refine AP.V (fun c hnil => ?_); simp only [nz])  | refine AP.PF ?_)
        ) <;> (try simp only [q1, q2, q3, q5, Int.toNat_natCast, nx, mx, rn, fq, Nat.mul_one, Bool.and_true, Bool.and_false, Nat.reduceBEq, Nat.reduceAdd, Nat.reduceSub, BEq.rfl]))
      | ((with_reducible apply AP.k_nil); first | (refine AP.nil (hQ' _ ?_); clear hQ' Q') | refine AP.nil ?_)
      | ((with_reducible apply CP.k_reg); refine cp_regG fun Q' hQ' => ?_)
        | (with_reducible apply CP.k_reg1; refine cp_region ?_)
        | ((with_reducible apply CP.k_cond); first | refine cp_condT rfl ?_ | refine cp_condF rfl ?_ | refine cp_cond rfl (fun hc => ?_) (fun hc => ?_))
        | refine CP.go ?_
        | (simp only [List.append_eq, List.cons_append, List.nil_append]))
    exact ⟨a + 1, by omega, by omega, by (rw [e2]; exact Gh.W)⟩
  · obtain rfl : a = (n - 0).toNat := by omega
    generalize (⟨boot, 0, fun _ => false⟩ : Wn).ups (n - 0).toNat = y at *
    have q1 : decide (y.top < n) = false := by simp; omega
    have q5 := wC_set y.boot y.top y.came k true
    repeat' (first
      | ((first
        | ((with_reducible apply AP.k_any); first | refine AP.ST ?_ | (refine AP.Y ?_; dsimp only) | refine AP.G (fun hg => ?_) (fun hg => ?_) | (refine AP.V (fun c hnil => ?_); simp only [nz])  | refine AP.PF ?_)
        ) <;> (try simp only [q1, hm, q5, Int.toNat_natCast, nx, mx, rn, fq, Nat.mul_one, Bool.and_true, Bool.and_false, Nat.reduceBEq, Nat.reduceAdd, Nat.reduceSub, BEq.rfl]))
      | ((with_reducible apply AP.k_nil); first | (refine AP.nil (hQ' _ ?_); clear hQ' Q') | refine AP.nil ?_)
      | ((with_reducible apply CP.k_reg); refine cp_regG fun Q' hQ' => ?_)
        | (with_reducible apply CP.k_reg1; refine cp_region ?_)
        | ((with_reducible apply CP.k_cond); first | refine cp_condT rfl ?_ | refine cp_condF rfl ?_ | refine cp_cond rfl (fun hc => ?_) (fun hc => ?_))
        | refine CP.go ?_
        | (simp only [List.append_eq, List.cons_append, List.nil_append]))
    (exact RetQ.A [] (by exact ⟨rfl, rfl⟩))
theorem new_far (w : Wn) (boot n : Int) (hb : w.boot < boot) (h1 : 1 ≤ n) (hn : n ≤ 9223372036854775807) (ht : w.ok) (hf : ¬ n < 64) : AC Try.prog 80 [.ag (wC w), I boot, I n] [] (fun v bs' => v = .ag (wC (w.after boot n)) ∧ bs' = []) := by
  have e : w.after boot n = ((⟨boot, n, fun _ => false⟩ : Wn).ups (n - n).toNat).mark n := by
    rw [base_new hb h1]
    unfold Wn.go
    have e2 : (⟨boot, 0, fun _ => false⟩ : Wn).far n = ⟨boot, n, fun _ => false⟩ := if_pos (by dsimp only; omega)
    rw [e2]
  have d7 : decide (0 ≤ n - 64) = true := by simp; omega
  rw [e]
  obtain ⟨ht1, ht2⟩ := ht
  have d1 : decide (boot < w.boot) = false := by simp; omega
  have d2 : decide (n < 1) = false := by simp; omega
  have d3 : decide (w.boot < boot) = true := by simp; omega
  have hw1 : IntKind.i64.wrap (0 - 64) = -64 := wrap_i64 (by omega) (by omega)
  have hw2 : IntKind.i64.wrap (n - 64) = n - 64 := wrap_i64 (by omega) (by omega)
  have hm := res64_tmod (n := n) (by omega)
  have hk := res64_lt n
  have d4 : decide (n ≤ -64) = false := by simp; omega
  have d5 : decide (n ≤ 0) = false := by simp; omega
  unfold Wn.mark
  generalize res64 n = k at *
  refine AC.N Try.func80 Try.ntmps80 ?_
  intro X hρ hmks
  simp only [nx, Nat.reduceAdd, Nat.reduceSub, BEq.rfl]
  repeat' (first
    | ((first
      | ((with_reducible apply AP.k_any); first | refine AP.ST ?_ | (refine AP.Y ?_; dsimp only) | refine AP.G (fun hg => ?_) (fun hg => ?_) | (refine AP.V (fun c hnil => ?_); simp only [nz])  | refine AP.PF ?_)
      ) <;> (try simp only [d1, d2, d3, d4, d5, d7, hw1, hw2, hm, nx, mx, rn, fq, Nat.mul_one, Bool.and_true, Bool.and_false, Nat.reduceBEq, Nat.reduceAdd, Nat.reduceSub, BEq.rfl]))
    | ((with_reducible apply AP.k_nil); first | (refine AP.nil (hQ' _ ?_); clear hQ' Q') | refine AP.nil ?_)
    | ((with_reducible apply CP.k_reg); refine cp_regG fun Q' hQ' => ?_)
      | (with_reducible apply CP.k_reg1; refine cp_region ?_)
      | ((with_reducible apply CP.k_cond); first | refine cp_condT rfl ?_ | refine cp_condF rfl ?_ | refine cp_cond rfl (fun hc => ?_) (fun hc => ?_))
      | refine CP.go ?_
      | (simp only [List.append_eq, List.cons_append, List.nil_append]))
  refine cp_loopS [54, 55, 56, 57, 58, 59, 60, 61, 62, 63, 64, 65, 66] (fun a : Nat => (n - n).toNat - a) (fun a => a ≤ (n - n).toNat) (fun a => []) (fun a => [(2, ⟨1, wnX ((⟨boot, n, fun _ => false⟩ : Wn).ups a)⟩)]) 0 (Nat.zero_le _) (by exact Gh.W) ?_
  intro a ha
  simp only [setT, deT, setB, List.set_cons_succ, List.set_cons_zero]
  have hut : ((⟨boot, n, fun _ => false⟩ : Wn).ups a).top = n + a := Wn.ups_top (⟨boot, n, fun _ => false⟩ : Wn) a
  have hub := Wn.ups_boot (⟨boot, n, fun _ => false⟩ : Wn) a
  by_cases hlt : a < (n - n).toNat
  · have e2 : (⟨boot, n, fun _ => false⟩ : Wn).ups (a + 1) = ((⟨boot, n, fun _ => false⟩ : Wn).ups a).up := rfl
    generalize (⟨boot, n, fun _ => false⟩ : Wn).ups a = y at *
    have q1 : decide (y.top < n) = true := by simp; omega
    have q2 : IntKind.i64.wrap (y.top + 1) = y.top + 1 := wrap_i64 (by omega) (by omega)
    have q3 := res64_tmod (n := y.top + 1) (by omega)
    have q4 := res64_lt (y.top + 1)
    have q5 := wC_set y.boot (y.top + 1) y.came (res64 (y.top + 1)) false
    unfold Wn.up at e2
    generalize res64 (y.top + 1) = r at *
    repeat' (first
      | ((first
        | ((with_reducible apply AP.k_any); first | refine AP.ST ?_ | (refine AP.Y ?_; dsimp only) | refine AP.G (fun hg => ?_) (fun hg => ?_) | (refine AP.V (fun c hnil => ?_); simp only [nz])  | refine AP.PF ?_)
        ) <;> (try simp only [q1, q2, q3, q5, Int.toNat_natCast, nx, mx, rn, fq, Nat.mul_one, Bool.and_true, Bool.and_false, Nat.reduceBEq, Nat.reduceAdd, Nat.reduceSub, BEq.rfl]))
      | ((with_reducible apply AP.k_nil); first | (refine AP.nil (hQ' _ ?_); clear hQ' Q') | refine AP.nil ?_)
      | ((with_reducible apply CP.k_reg); refine cp_regG fun Q' hQ' => ?_)
        | (with_reducible apply CP.k_reg1; refine cp_region ?_)
        | ((with_reducible apply CP.k_cond); first | refine cp_condT rfl ?_ | refine cp_condF rfl ?_ | refine cp_cond rfl (fun hc => ?_) (fun hc => ?_))
        | refine CP.go ?_
        | (simp only [List.append_eq, List.cons_append, List.nil_append]))
    exact ⟨a + 1, by omega, by omega, by (rw [e2]; exact Gh.W)⟩
  · obtain rfl : a = (n - n).toNat := by omega
    generalize (⟨boot, n, fun _ => false⟩ : Wn).ups (n - n).toNat = y at *
    have q1 : decide (y.top < n) = false := by simp; omega
    have q5 := wC_set y.boot y.top y.came k true
    repeat' (first
      | ((first
        | ((with_reducible apply AP.k_any); first | refine AP.ST ?_ | (refine AP.Y ?_; dsimp only) | refine AP.G (fun hg => ?_) (fun hg => ?_) | (refine AP.V (fun c hnil => ?_); simp only [nz])  | refine AP.PF ?_)
        ) <;> (try simp only [q1, hm, q5, Int.toNat_natCast, nx, mx, rn, fq, Nat.mul_one, Bool.and_true, Bool.and_false, Nat.reduceBEq, Nat.reduceAdd, Nat.reduceSub, BEq.rfl]))
      | ((with_reducible apply AP.k_nil); first | (refine AP.nil (hQ' _ ?_); clear hQ' Q') | refine AP.nil ?_)
      | ((with_reducible apply CP.k_reg); refine cp_regG fun Q' hQ' => ?_)
        | (with_reducible apply CP.k_reg1; refine cp_region ?_)
        | ((with_reducible apply CP.k_cond); first | refine cp_condT rfl ?_ | refine cp_condF rfl ?_ | refine cp_cond rfl (fun hc => ?_) (fun hc => ?_))
        | refine CP.go ?_
        | (simp only [List.append_eq, List.cons_append, List.nil_append]))
    (exact RetQ.A [] (by exact ⟨rfl, rfl⟩))
theorem after_ac (w : Wn) (boot n : Int) (hn : n ≤ 9223372036854775807) (ht : w.ok) : AC Try.prog 80 [.ag (wC w), I boot, I n] [] (fun v bs' => v = .ag (wC (w.after boot n)) ∧ bs' = []) := by
  by_cases h1 : boot < w.boot ∨ n < 1
  · exact after_no w boot n h1
  · by_cases hb : w.boot < boot
    · by_cases hf : n < 64
      · exact new_near w boot n hb (by omega) hn ht hf
      · exact new_far w boot n hb (by omega) hn ht hf
    · by_cases hf : w.top ≤ n - 64
      · exact after_far w boot n (by omega) (by omega) hn ht hf
      · cases h : w.old n with
        | true => exact after_old w boot n (by omega) (by omega) hn ht h
        | false => exact after_near w boot n (by omega) (by omega) hn ht h hf
end Go.Proofs.Ytnjfchigdpifmaa
