/-
  Texts joined: S6, T3, T4, T5, X1, Enc, V2, H1, H2, H3, H4, H5, Lk1, H6, Cv, H7, H8, H9, Br, BrA, BrP, Ls1, Ls2, Ls3.
-/
import Derived.Test.YtnjfchigdpifmaaZ1
import Derived.Test.YtnjfchigdpifmaaZ2
import Derived.Test.YtnjfchigdpifmaaZ3
import Derived.Lib.ConvBytes
import Derived.Test.YtnjfchigdpifmaaRows
import Derived.OpenShut
import Derived.Carry
import Derived.ChangeArms
import Derived.ChangeSame
import Derived.ChangeMaps5
import Derived.JoinedCond
import Derived.Deep.Slices
import Derived.Deep.CondSized
namespace Go.Proofs.Ytnjfchigdpifmaa
set_option linter.unusedVariables false
set_option linter.unusedSimpArgs false
set_option maxHeartbeats 8000000
open Go.RowKit
set_option maxRecDepth 100000
def byS (x : UInt32) (i : Nat) : UInt8 := UInt8.ofNat (x.toNat / 256 ^ i % 256)
theorem p32_ac (x : UInt32) : AC Try.prog 92 [Q4 x] [] (fun v bs' => v = bs none [byS x 3, byS x 2, byS x 1, byS x 0] ∧ bs' = []) := by
  have h := (put_ac x.toNat 4 (by omega)).ro (r2 := bs none (putS x.toNat 4)) (by simp only [AV.ro, ro_B])
  refine AC.N Try.func92 Try.ntmps92 ?_
  intro X hρ hmks
  simp only [nx, Nat.reduceAdd, Nat.reduceSub, BEq.rfl]
  repeat' (first
    | ((first
    | ((with_reducible apply AP.k_any); first
            | refine AP.S ?_
            | refine AP.A ?_ | refine AP.AB 0 ?_ | refine AP.AB 1 ?_ | refine AP.AL ?_
            | refine AP.LB ?_ | refine AP.TB ?_ | refine AP.IX ?_ | refine AP.SF ?_ | refine AP.SV ?_ | refine AP.CV ?_ | refine AP.CO ?_ | refine AP.FV ?_  | refine AP.PF ?_)
    ) <;> (try simp only [ nx, q4, rn, fq, Nat.mul_one, Bool.and_true, Bool.and_false, Nat.reduceBEq, Nat.reduceAdd, Nat.reduceSub, BEq.rfl]))
    | ((with_reducible apply AP.k_nil); first | (refine AP.nil (hQ' _ ?_); clear hQ' Q') | refine AP.nil ?_)
    | ((with_reducible apply CP.k_reg); refine cp_regG fun Q' hQ' => ?_)
      | (with_reducible apply CP.k_reg1; refine cp_region ?_)
      | ((with_reducible apply CP.k_cond); first | refine cp_condT rfl ?_ | refine cp_condF rfl ?_ | refine cp_cond rfl (fun hc => ?_) (fun hc => ?_))
      | refine CP.go ?_
      | (simp only [List.append_eq, List.cons_append, List.nil_append]))
  (exact RetQ.A [] (by exact ⟨rfl, rfl⟩))
theorem blocks_acO (b : List UInt8) : AC Try.prog 100 [bs (some tU) b] [] (fun v bs' => v = .fn 102 [.bp 0 0 0] ∧ bs' = [bxB b]) := by
  refine AC.N Try.func100 Try.ntmps100 ?_
  intro X hρ hmks
  simp only [nx, Nat.reduceAdd, Nat.reduceSub, BEq.rfl]
  refine CP.gh (gh_fzS (b := 0) rfl) ?_
  simp only [ nx, q4, rn, fq, Nat.mul_one, Bool.and_true, Bool.and_false, Nat.reduceBEq, Nat.reduceAdd, Nat.reduceSub, BEq.rfl]
  repeat' (first
    | ((first
    | ((with_reducible apply AP.k_any); first
            | refine AP.S ?_
            | refine AP.A ?_ | refine AP.AB 0 ?_ | refine AP.AB 1 ?_ | refine AP.AL ?_
            | refine AP.LB ?_ | refine AP.TB ?_ | refine AP.IX ?_ | refine AP.SF ?_ | refine AP.SV ?_ | refine AP.CV ?_ | refine AP.CO ?_ | refine AP.FV ?_  | refine AP.PF ?_)
    ) <;> (try simp only [ nx, q4, rn, fq, Nat.mul_one, Bool.and_true, Bool.and_false, Nat.reduceBEq, Nat.reduceAdd, Nat.reduceSub, BEq.rfl]))
    | ((with_reducible apply AP.k_nil); first | (refine AP.nil (hQ' _ ?_); clear hQ' Q') | refine AP.nil ?_)
    | ((with_reducible apply CP.k_reg); refine cp_regG fun Q' hQ' => ?_)
      | (with_reducible apply CP.k_reg1; refine cp_region ?_)
      | ((with_reducible apply CP.k_cond); first | refine cp_condT rfl ?_ | refine cp_condF rfl ?_ | refine cp_cond rfl (fun hc => ?_) (fun hc => ?_))
      | refine CP.go ?_
      | (simp only [List.append_eq, List.cons_append, List.nil_append]))
  (exact RetQ.A [(0, 2)] (by exact ⟨rfl, rfl⟩))
def padS (rest : List UInt8) (all : Nat) : List UInt8 := [rest, [0x80], List.replicate ((119 - rest.length) % 64) 0, putS (8 * all) 8].flatten
def wordsB (m : S8) : List UInt8 := [byS m.a 3, byS m.a 2, byS m.a 1, byS m.a 0, byS m.b 3, byS m.b 2, byS m.b 1, byS m.b 0, byS m.c 3, byS m.c 2, byS m.c 1, byS m.c 0, byS m.d 3, byS m.d 2, byS m.d 1, byS m.d 0, byS m.e 3, byS m.e 2, byS m.e 1, byS m.e 0, byS m.f 3, byS m.f 2, byS m.f 1, byS m.f 0, byS m.g 3, byS m.g 2, byS m.g 1, byS m.g 0, byS m.h 3, byS m.h 2, byS m.h 1, byS m.h 0]
def sumS (h : Hs) : List UInt8 := wordsB (foldB h.n (chS (padS h.rest h.all)))
def mw (m : S8) (i : Nat) : UInt32 := [m.a, m.b, m.c, m.d, m.e, m.f, m.g, m.h].getD i 0
theorem mw_at (m : S8) {i : Nat} (h : i < 8) : (e8 m)[i]? = some (Q4 (mw m i)) := by
  rcases i with _ | _ | _ | _ | _ | _ | _ | _ | i <;> first | rfl | (exfalso; omega)
theorem mix_cpy (m : S8) {i : Nat} (h : i < 8) : cpy (mixT (wordsB m) (4 * i)) (4 * i) [U (byS (mw m i) 3), U (byS (mw m i) 2), U (byS (mw m i) 1), U (byS (mw m i) 0)] = mixT (wordsB m) (4 * (i + 1)) := by
  rcases i with _ | _ | _ | _ | _ | _ | _ | _ | i <;> first | rfl | (exfalso; omega)
theorem hsum_ac (h : Hs) (hr : h.rest.length < 64) (ha : h.all ≤ 100000000) : AC Try.prog 96 [.bp 0 0 0] [hB h] (fun v bs' => v = .tu [tg (sumS h), I 0] ∧ bs' = [hB h]) := by
  have h1 := hnone_ac h
  have hq0 : IntKind.i64.wrap (119 - (h.rest.length : Int)) = ((119 - h.rest.length : Nat) : Int) := by rw [wrap_i64 (by omega) (by omega)]; omega
  have hq1 : Int.tmod ((119 - h.rest.length : Nat) : Int) 64 = (((119 - h.rest.length) % 64 : Nat) : Int) := rfl
  have hq2 : IntKind.i64.wrap (8 * (h.all : Int)) = ((8 * h.all : Nat) : Int) := by rw [wrap_i64 (by omega) (by omega)]; omega
  have hq3 : IntKind.u64.wrap ((8 * h.all : Nat) : Int) = ((8 * h.all : Nat) : Int) := wrap_u64 (by omega) (by omega)
  have hk : (119 - h.rest.length) % 64 < 64 := Nat.mod_lt _ (by omega)
  have h2 := put64_ac (8 * h.all)
  have h3 := wcat_ac [h.rest, [0x80], List.replicate ((119 - h.rest.length) % 64) 0, putS (8 * h.all) 8] (by simp) (by simp [putS_length]; omega)
  have h4 := blocks_acO (padS h.rest h.all)
  have hpl : (padS h.rest h.all).length ≤ 1000 := by simp [padS, putS_length]; omega
  rw [show [h.rest, [0x80], List.replicate ((119 - h.rest.length) % 64) 0, putS (8 * h.all) 8].flatten = padS h.rest h.all from rfl] at h3
  unfold sumS
  generalize padS h.rest h.all = p at *
  refine AC.N Try.func96 Try.ntmps96 ?_
  intro X hρ hmks
  simp only [nx, Nat.reduceAdd, Nat.reduceSub, BEq.rfl]
  refine CP.gh gh_slot ?_; simp only [nx, Nat.reduceAdd, Nat.reduceSub, BEq.rfl]
  refine CP.gh gh_slot ?_; simp only [nx, Nat.reduceAdd, Nat.reduceSub, BEq.rfl]
  refine CP.gh gh_slot ?_; simp only [nx, Nat.reduceAdd, Nat.reduceSub, BEq.rfl]
  refine CP.gh gh_slot ?_; simp only [nx, Nat.reduceAdd, Nat.reduceSub, BEq.rfl]
  refine CP.gh gh_slot ?_; simp only [nx, Nat.reduceAdd, Nat.reduceSub, BEq.rfl]
  refine CP.gh gh_slot ?_; simp only [nx, Nat.reduceAdd, Nat.reduceSub, BEq.rfl]
  refine CP.gh gh_slot ?_; simp only [nx, Nat.reduceAdd, Nat.reduceSub, BEq.rfl]
  refine CP.gh gh_slot ?_; simp only [nx, Nat.reduceAdd, Nat.reduceSub, BEq.rfl]
  repeat' (first
    | ((first
    | ((with_reducible apply AP.k_any); first
            | refine AP.S ?_
            | refine AP.A ?_ | refine AP.AB 0 ?_ | refine AP.AB 1 ?_ | refine AP.AL ?_
            | refine AP.LB ?_ | refine AP.TB ?_ | refine AP.IX ?_ | refine AP.SF ?_ | refine AP.SV ?_ | refine AP.CV ?_ | refine AP.CO ?_ | refine AP.FV ?_ | refine ap_makeS rfl rfl rfl rfl rfl rfl rfl rfl rfl rfl rfl (by omega) ?_ | refine AP.PF ?_)
      | ((with_reducible apply DW.k_any); first
        | refine DW.R ?_ | refine DW.R' ?_ | refine DW.W ?_ | refine DW.W' ?_ | refine DW.RA ?_ | refine DW.A 0 ?_ | refine DW.A 1 ?_ | refine DW.A 2 ?_ | refine DW.A' 0 ?_ | refine DW.A' 2 ?_ | ((fail_if_success refine DW.known rfl ?_); refine DW.G (fun hg => ?_) (fun hg => ?_))
        | refine DW.RX ?_ | refine DW.WX ?_ | refine DW.WX' ?_)
    | ((with_reducible apply DW.k_any); first
                | refine DW.R ?_ | refine DW.R' ?_ | refine DW.W ?_ | refine DW.W' ?_
                | (refine DW.known rfl ?_; (with_reducible first | apply DW.sx 2 | apply DW.sxN 2); (iterate 2 (focus (simp only [ft, nm, Nat.reduceAdd, Nat.reduceBEq, List.getElem?_cons_zero, List.getElem?_cons_succ]; exact rfl))); (focus (intro X V; simp only [ft, nm, Nat.reduceAdd, Nat.reduceBEq]; (try (refine AP.Y ?_; dsimp only)); (first | refine ap_makeS rfl rfl rfl rfl rfl rfl rfl rfl rfl rfl rfl (by omega) ?_ | fail); (try simp only [nx, Nat.reduceAdd, Nat.reduceSub, BEq.rfl]); refine AP.nil ?_; (first | refine ⟨trivial, rfl, ?_⟩ | refine ⟨rfl, rfl, ?_⟩); (repeat' (first | exact Mg.nil | apply Mg.keep rfl | apply Mg.take rfl)); done)); (focus (refine Exists.intro (fun _ => 0) ?_; apply Exists.intro; (repeat' (first | exact Mg.nil | apply Mg.keep rfl | apply Mg.take rfl)); done)); (iterate 2 (focus (exact rfl))))
                | ((fail_if_success refine DW.known rfl ?_); refine DW.G (fun hg => ?_) (fun hg => ?_))
    )
    ) <;> (try simp only [mk0, hq0, hq1, hq2, hq3, nx, q4, rn, fq, Nat.mul_one, Bool.and_true, Bool.and_false, Nat.reduceBEq, Nat.reduceAdd, Nat.reduceSub, BEq.rfl]))
    | ((with_reducible apply AP.k_nil); first | (refine AP.nil (hQ' _ ?_); clear hQ' Q') | refine AP.nil ?_)
    | ((with_reducible apply CP.k_drw); refine cp_drwX fun Q' hQ' => ?_)
    | ((with_reducible apply CP.k_drw1); refine cp_drawX ?_)
    | ((with_reducible apply DW.k_nil); refine DW.nl ?_; first | (refine hQ' _ ?_; clear hQ' Q') | skip)
    | ((with_reducible apply CP.k_reg); refine cp_regG fun Q' hQ' => ?_)
      | (with_reducible apply CP.k_reg1; refine cp_region ?_)
      | ((with_reducible apply CP.k_cond); first | refine cp_condT rfl ?_ | refine cp_condF rfl ?_ | refine cp_cond rfl (fun hc => ?_) (fun hc => ?_))
      | refine CP.go ?_
      | (simp only [List.append_eq, List.cons_append, List.nil_append]))
  refine CP.RG (blocks_ic p (by omega)) (fun i => [⟨0, hB h⟩, ⟨1, .c 24 (tagC (List.replicate 32 0))⟩, ⟨1, .c 136 (e8 (foldB h.n ((chS p).take i)))⟩, ⟨2, .x⟩, ⟨3, .x⟩, ⟨0, .x⟩, ⟨0, .x⟩, ⟨0, .x⟩, ⟨0, .x⟩]) (fun _ _ => False) (fun y hy => by obtain ⟨c, _, rfl⟩ := List.mem_map.1 hy; rfl) ?_ ?_ (fun _ => ⟨fun h => h.elim, fun _ h => h.elim⟩)
  · intro i y hy Xr l hρ
    obtain ⟨c, hc, rfl⟩ : ∃ c, (chS p)[i]? = some c ∧ y = [bs none c] := by
      rw [List.getElem?_map, Option.map_eq_some_iff] at hy
      obtain ⟨c, h1, h2⟩ := hy
      exact ⟨c, h1, h2.symm⟩
    have hs := foldB_take (n := h.n) hc
    generalize foldB h.n (List.take i (chS p)) = m at *
    generalize foldB h.n (List.take (i + 1) (chS p)) = m' at *
    subst hs
    have h5 := block_ac m c (chS_len hc)
    simp only [putL, List.set_cons_succ, List.set_cons_zero]
    repeat' (first
      | ((first
      | ((with_reducible apply AP.k_any); first
              | refine AP.S ?_
              | refine AP.A ?_ | refine AP.AB 0 ?_ | refine AP.AB 1 ?_ | refine AP.AL ?_
              | refine AP.LB ?_ | refine AP.TB ?_ | refine AP.IX ?_ | refine AP.SF ?_ | refine AP.SV ?_ | refine AP.CV ?_ | refine AP.CO ?_ | refine AP.FV ?_  | refine AP.PF ?_)
        | ((with_reducible apply DW.k_any); first
          | refine DW.R ?_ | refine DW.R' ?_ | refine DW.W ?_ | refine DW.W' ?_ | refine DW.RA ?_ | refine DW.A 0 ?_ | refine DW.A 1 ?_ | refine DW.A 2 ?_ | refine DW.A' 0 ?_ | refine DW.A' 2 ?_ | ((fail_if_success refine DW.known rfl ?_); refine DW.G (fun hg => ?_) (fun hg => ?_))
          | refine DW.RX ?_ | refine DW.WX ?_ | refine DW.WX' ?_)
      | ((with_reducible apply DW.k_any); first
                  | refine DW.R ?_ | refine DW.R' ?_ | refine DW.W ?_ | refine DW.W' ?_
                  | (refine DW.known rfl ?_; (with_reducible first | apply DW.sx 2 | apply DW.sxN 2); (iterate 2 (focus (simp only [ft, nm, Nat.reduceAdd, Nat.reduceBEq, List.getElem?_cons_zero, List.getElem?_cons_succ]; exact rfl))); (focus (intro X V; simp only [ft, nm, Nat.reduceAdd, Nat.reduceBEq]; (try (refine AP.Y ?_; dsimp only)); (first  | fail); (try simp only [nx, Nat.reduceAdd, Nat.reduceSub, BEq.rfl]); refine AP.nil ?_; (first | refine ⟨trivial, rfl, ?_⟩ | refine ⟨rfl, rfl, ?_⟩); (repeat' (first | exact Mg.nil | apply Mg.keep rfl | apply Mg.take rfl)); done)); (focus (refine Exists.intro (fun _ => 0) ?_; apply Exists.intro; (repeat' (first | exact Mg.nil | apply Mg.keep rfl | apply Mg.take rfl)); done)); (iterate 2 (focus (exact rfl))))
                  | ((fail_if_success refine DW.known rfl ?_); refine DW.G (fun hg => ?_) (fun hg => ?_))
      )
      ) <;> (try simp only [ nx, q4, rn, fq, Nat.mul_one, Bool.and_true, Bool.and_false, Nat.reduceBEq, Nat.reduceAdd, Nat.reduceSub, BEq.rfl]))
      | ((with_reducible apply AP.k_nil); first | (refine AP.nil (hQ' _ ?_); clear hQ' Q') | refine AP.nil ?_)
      | ((with_reducible apply CP.k_drw); refine cp_drwX fun Q' hQ' => ?_)
      | ((with_reducible apply CP.k_drw1); refine cp_drawX ?_)
      | ((with_reducible apply DW.k_nil); refine DW.nl ?_; first | (refine hQ' _ ?_; clear hQ' Q') | skip)
      | ((with_reducible apply CP.k_reg); refine cp_regG fun Q' hQ' => ?_)
        | (with_reducible apply CP.k_reg1; refine cp_region ?_)
        | ((with_reducible apply CP.k_cond); first | refine cp_condT rfl ?_ | refine cp_condF rfl ?_ | refine cp_cond rfl (fun hc => ?_) (fun hc => ?_))
        | refine CP.go ?_
        | (simp only [List.append_eq, List.cons_append, List.nil_append]))
    refine ⟨trivial, rfl, fun Xb hρ => ?_⟩
    repeat' (first
      | ((first
      | ((with_reducible apply AP.k_any); first
              | refine AP.S ?_
              | refine AP.A ?_ | refine AP.AB 0 ?_ | refine AP.AB 1 ?_ | refine AP.AL ?_
              | refine AP.LB ?_ | refine AP.TB ?_ | refine AP.IX ?_ | refine AP.SF ?_ | refine AP.SV ?_ | refine AP.CV ?_ | refine AP.CO ?_ | refine AP.FV ?_  | refine AP.PF ?_)
        | ((with_reducible apply DW.k_any); first
          | refine DW.R ?_ | refine DW.R' ?_ | refine DW.W ?_ | refine DW.W' ?_ | refine DW.RA ?_ | refine DW.A 0 ?_ | refine DW.A 1 ?_ | refine DW.A 2 ?_ | refine DW.A' 0 ?_ | refine DW.A' 2 ?_ | ((fail_if_success refine DW.known rfl ?_); refine DW.G (fun hg => ?_) (fun hg => ?_))
          | refine DW.RX ?_ | refine DW.WX ?_ | refine DW.WX' ?_)
      | ((with_reducible apply DW.k_any); first
                  | refine DW.R ?_ | refine DW.R' ?_ | refine DW.W ?_ | refine DW.W' ?_
                  | (refine DW.known rfl ?_; (with_reducible first | apply DW.sx 2 | apply DW.sxN 2); (iterate 2 (focus (simp only [ft, nm, Nat.reduceAdd, Nat.reduceBEq, List.getElem?_cons_zero, List.getElem?_cons_succ]; exact rfl))); (focus (intro X V; simp only [ft, nm, Nat.reduceAdd, Nat.reduceBEq]; (try (refine AP.Y ?_; dsimp only)); (first  | fail); (try simp only [nx, Nat.reduceAdd, Nat.reduceSub, BEq.rfl]); refine AP.nil ?_; (first | refine ⟨trivial, rfl, ?_⟩ | refine ⟨rfl, rfl, ?_⟩); (repeat' (first | exact Mg.nil | apply Mg.keep rfl | apply Mg.take rfl)); done)); (focus (refine Exists.intro (fun _ => 0) ?_; apply Exists.intro; (repeat' (first | exact Mg.nil | apply Mg.keep rfl | apply Mg.take rfl)); done)); (iterate 2 (focus (exact rfl))))
                  | ((fail_if_success refine DW.known rfl ?_); refine DW.G (fun hg => ?_) (fun hg => ?_))
      )
      ) <;> (try simp only [ nx, q4, rn, fq, Nat.mul_one, Bool.and_true, Bool.and_false, Nat.reduceBEq, Nat.reduceAdd, Nat.reduceSub, BEq.rfl]))
      | ((with_reducible apply AP.k_nil); first | (refine AP.nil (hQ' _ ?_); clear hQ' Q') | refine AP.nil ?_)
      | ((with_reducible apply CP.k_drw); refine cp_drwX fun Q' hQ' => ?_)
      | ((with_reducible apply CP.k_drw1); refine cp_drawX ?_)
      | ((with_reducible apply DW.k_nil); refine DW.nl ?_; first | (refine hQ' _ ?_; clear hQ' Q') | skip)
      | ((with_reducible apply CP.k_reg); refine cp_regG fun Q' hQ' => ?_)
        | (with_reducible apply CP.k_reg1; refine cp_region ?_)
        | ((with_reducible apply CP.k_cond); first | refine cp_condT rfl ?_ | refine cp_condF rfl ?_ | refine cp_cond rfl (fun hc => ?_) (fun hc => ?_))
        | refine CP.go ?_
        | (simp only [List.append_eq, List.cons_append, List.nil_append]))
    exact ⟨_, by exact Gh.W⟩
  · simp only [List.length_map]
    rw [List.take_of_length_le (Nat.le_refl _)]
    generalize foldB h.n (chS p) = m
    repeat' (first
      | ((first
      | ((with_reducible apply AP.k_any); first
              | refine AP.S ?_
              | refine AP.A ?_ | refine AP.AB 0 ?_ | refine AP.AB 1 ?_ | refine AP.AL ?_
              | refine AP.LB ?_ | refine AP.TB ?_ | refine AP.IX ?_ | refine AP.SF ?_ | refine AP.SV ?_ | refine AP.CV ?_ | refine AP.CO ?_ | refine AP.FV ?_  | refine AP.PF ?_)
        | ((with_reducible apply DW.k_any); first
          | refine DW.R ?_ | refine DW.R' ?_ | refine DW.W ?_ | refine DW.W' ?_ | refine DW.RA ?_ | refine DW.A 0 ?_ | refine DW.A 1 ?_ | refine DW.A 2 ?_ | refine DW.A' 0 ?_ | refine DW.A' 2 ?_ | ((fail_if_success refine DW.known rfl ?_); refine DW.G (fun hg => ?_) (fun hg => ?_))
          | refine DW.RX ?_ | refine DW.WX ?_ | refine DW.WX' ?_)
      | ((with_reducible apply DW.k_any); first
                  | refine DW.R ?_ | refine DW.R' ?_ | refine DW.W ?_ | refine DW.W' ?_
                  | (refine DW.known rfl ?_; (with_reducible first | apply DW.sx 2 | apply DW.sxN 2); (iterate 2 (focus (simp only [ft, nm, Nat.reduceAdd, Nat.reduceBEq, List.getElem?_cons_zero, List.getElem?_cons_succ]; exact rfl))); (focus (intro X V; simp only [ft, nm, Nat.reduceAdd, Nat.reduceBEq]; (try (refine AP.Y ?_; dsimp only)); (first  | fail); (try simp only [nx, Nat.reduceAdd, Nat.reduceSub, BEq.rfl]); refine AP.nil ?_; (first | refine ⟨trivial, rfl, ?_⟩ | refine ⟨rfl, rfl, ?_⟩); (repeat' (first | exact Mg.nil | apply Mg.keep rfl | apply Mg.take rfl)); done)); (focus (refine Exists.intro (fun _ => 0) ?_; apply Exists.intro; (repeat' (first | exact Mg.nil | apply Mg.keep rfl | apply Mg.take rfl)); done)); (iterate 2 (focus (exact rfl))))
                  | ((fail_if_success refine DW.known rfl ?_); refine DW.G (fun hg => ?_) (fun hg => ?_))
      )
      ) <;> (try simp only [ nx, q4, rn, fq, Nat.mul_one, Bool.and_true, Bool.and_false, Nat.reduceBEq, Nat.reduceAdd, Nat.reduceSub, BEq.rfl]))
      | ((with_reducible apply AP.k_nil); first | (refine AP.nil (hQ' _ ?_); clear hQ' Q') | refine AP.nil ?_)
      | ((with_reducible apply CP.k_drw); refine cp_drwX fun Q' hQ' => ?_)
      | ((with_reducible apply CP.k_drw1); refine cp_drawX ?_)
      | ((with_reducible apply DW.k_nil); refine DW.nl ?_; first | (refine hQ' _ ?_; clear hQ' Q') | skip)
      | ((with_reducible apply CP.k_reg); refine cp_regG fun Q' hQ' => ?_)
        | (with_reducible apply CP.k_reg1; refine cp_region ?_)
        | ((with_reducible apply CP.k_cond); first | refine cp_condT rfl ?_ | refine cp_condF rfl ?_ | refine cp_cond rfl (fun hc => ?_) (fun hc => ?_))
        | refine CP.go ?_
        | (simp only [List.append_eq, List.cons_append, List.nil_append]))
    refine cp_loopS [8, 9, 46, 47, 48, 49, 50, 51, 52, 53, 54, 55, 56] (fun a : Nat => 8 - a) (fun a => a ≤ 8) (fun a => [(46, I a)]) (fun a => [(3, ⟨3, .c 24 (mixT (wordsB m) (4 * a))⟩)]) 0 (Nat.zero_le _) (by exact Gh.W) ?_
    intro i hi
    simp only [setT, deT, setB, List.set_cons_succ, List.set_cons_zero]
    by_cases hlt : i < 8
    · have hw : IntKind.i64.wrap ((i : Int) + 1) = ((i + 1 : Nat) : Int) := wrap_i64 (by omega) (by omega)
      have hw4 : IntKind.i64.wrap (4 * (i : Int)) = ((4 * i : Nat) : Int) := wrap_i64 (by omega) (by omega)
      have d8 : decide ((i : Int) < 8) = true := by simp; omega
      have hx := mw_at m hlt
      have hset := mix_cpy m hlt
      have hlen := mixT_len (wordsB m) (4 * i)
      generalize mw m i = x at *
      have h5 := p32_ac x
      repeat' (first
        | ((first
        | ((with_reducible apply AP.k_any); first
                | refine AP.S ?_
                | refine AP.A ?_ | refine AP.AB 0 ?_ | refine AP.AB 1 ?_ | refine AP.AL ?_
                | refine AP.LB ?_ | refine AP.TB ?_ | refine AP.IX ?_ | refine AP.SF ?_ | refine AP.SV ?_ | refine AP.CV ?_ | refine AP.CO ?_ | refine AP.FV ?_  | refine AP.PF ?_)
          | ((with_reducible apply DW.k_any); first
            | refine DW.R ?_ | refine DW.R' ?_ | refine DW.W ?_ | refine DW.W' ?_ | refine DW.RA ?_ | refine DW.A 0 ?_ | refine DW.A 1 ?_ | refine DW.A 2 ?_ | refine DW.A' 0 ?_ | refine DW.A' 2 ?_ | ((fail_if_success refine DW.known rfl ?_); refine DW.G (fun hg => ?_) (fun hg => ?_))
            | refine DW.RX ?_ | refine DW.WX ?_ | refine DW.WX' ?_)
        | ((with_reducible apply DW.k_any); first
                    | refine DW.R ?_ | refine DW.R' ?_ | refine DW.W ?_ | refine DW.W' ?_
                    | (refine DW.known rfl ?_; (with_reducible first | apply DW.sx 2 | apply DW.sxN 2); (iterate 2 (focus (simp only [ft, nm, Nat.reduceAdd, Nat.reduceBEq, List.getElem?_cons_zero, List.getElem?_cons_succ]; exact rfl))); (focus (intro X V; simp only [ft, nm, Nat.reduceAdd, Nat.reduceBEq]; (try (refine AP.Y ?_; dsimp only)); (first  | fail); (try simp only [nx, Nat.reduceAdd, Nat.reduceSub, BEq.rfl]); refine AP.nil ?_; (first | refine ⟨trivial, rfl, ?_⟩ | refine ⟨rfl, rfl, ?_⟩); (repeat' (first | exact Mg.nil | apply Mg.keep rfl | apply Mg.take rfl)); done)); (focus (refine Exists.intro (fun _ => 0) ?_; apply Exists.intro; (repeat' (first | exact Mg.nil | apply Mg.keep rfl | apply Mg.take rfl)); done)); (iterate 2 (focus (exact rfl))))
                    | ((fail_if_success refine DW.known rfl ?_); refine DW.G (fun hg => ?_) (fun hg => ?_))
        )
        ) <;> (try simp only [hw4, d8, Int.toNat_natCast, nx, q4, rn, fq, Nat.mul_one, Bool.and_true, Bool.and_false, Nat.reduceBEq, Nat.reduceAdd, Nat.reduceSub, BEq.rfl]))
        | ((with_reducible apply AP.k_nil); first | (refine AP.nil (hQ' _ ?_); clear hQ' Q') | refine AP.nil ?_)
        | ((with_reducible apply CP.k_drw); refine cp_drwX fun Q' hQ' => ?_)
        | ((with_reducible apply CP.k_drw1); refine cp_drawX ?_)
        | ((with_reducible apply DW.k_nil); refine DW.nl ?_; first | (refine hQ' _ ?_; clear hQ' Q') | skip)
        | ((with_reducible apply CP.k_reg); refine cp_regG fun Q' hQ' => ?_)
          | (with_reducible apply CP.k_reg1; refine cp_region ?_)
          | ((with_reducible apply CP.k_cond); first | refine cp_condT rfl ?_ | refine cp_condF rfl ?_ | refine cp_cond rfl (fun hc => ?_) (fun hc => ?_))
          | refine CP.go ?_
          | (simp only [List.append_eq, List.cons_append, List.nil_append]))
      have hm : min 4 (32 - 4 * i) = 4 := by omega
      simp only [hw, hm]
      exact ⟨i + 1, by omega, by omega, by (rw [← hset]; exact Gh.W)⟩
    · obtain rfl : i = 8 := by omega
      rw [show 4 * 8 = 32 from rfl, mixT_32]
      repeat' (first
        | ((first
        | ((with_reducible apply AP.k_any); first
                | refine AP.S ?_
                | refine AP.A ?_ | refine AP.AB 0 ?_ | refine AP.AB 1 ?_ | refine AP.AL ?_
                | refine AP.LB ?_ | refine AP.TB ?_ | refine AP.IX ?_ | refine AP.SF ?_ | refine AP.SV ?_ | refine AP.CV ?_ | refine AP.CO ?_ | refine AP.FV ?_  | refine AP.PF ?_)
          | ((with_reducible apply DW.k_any); first
            | refine DW.R ?_ | refine DW.R' ?_ | refine DW.W ?_ | refine DW.W' ?_ | refine DW.RA ?_ | refine DW.A 0 ?_ | refine DW.A 1 ?_ | refine DW.A 2 ?_ | refine DW.A' 0 ?_ | refine DW.A' 2 ?_ | ((fail_if_success refine DW.known rfl ?_); refine DW.G (fun hg => ?_) (fun hg => ?_))
            | refine DW.RX ?_ | refine DW.WX ?_ | refine DW.WX' ?_)
        | ((with_reducible apply DW.k_any); first
                    | refine DW.R ?_ | refine DW.R' ?_ | refine DW.W ?_ | refine DW.W' ?_
                    | (refine DW.known rfl ?_; (with_reducible first | apply DW.sx 2 | apply DW.sxN 2); (iterate 2 (focus (simp only [ft, nm, Nat.reduceAdd, Nat.reduceBEq, List.getElem?_cons_zero, List.getElem?_cons_succ]; exact rfl))); (focus (intro X V; simp only [ft, nm, Nat.reduceAdd, Nat.reduceBEq]; (try (refine AP.Y ?_; dsimp only)); (first  | fail); (try simp only [nx, Nat.reduceAdd, Nat.reduceSub, BEq.rfl]); refine AP.nil ?_; (first | refine ⟨trivial, rfl, ?_⟩ | refine ⟨rfl, rfl, ?_⟩); (repeat' (first | exact Mg.nil | apply Mg.keep rfl | apply Mg.take rfl)); done)); (focus (refine Exists.intro (fun _ => 0) ?_; apply Exists.intro; (repeat' (first | exact Mg.nil | apply Mg.keep rfl | apply Mg.take rfl)); done)); (iterate 2 (focus (exact rfl))))
                    | ((fail_if_success refine DW.known rfl ?_); refine DW.G (fun hg => ?_) (fun hg => ?_))
        )
        ) <;> (try simp only [ nx, q4, rn, fq, Nat.mul_one, Bool.and_true, Bool.and_false, Nat.reduceBEq, Nat.reduceAdd, Nat.reduceSub, BEq.rfl]))
        | ((with_reducible apply AP.k_nil); first | (refine AP.nil (hQ' _ ?_); clear hQ' Q') | refine AP.nil ?_)
        | ((with_reducible apply CP.k_drw); refine cp_drwX fun Q' hQ' => ?_)
        | ((with_reducible apply CP.k_drw1); refine cp_drawX ?_)
        | ((with_reducible apply DW.k_nil); refine DW.nl ?_; first | (refine hQ' _ ?_; clear hQ' Q') | skip)
        | ((with_reducible apply CP.k_reg); refine cp_regG fun Q' hQ' => ?_)
          | (with_reducible apply CP.k_reg1; refine cp_region ?_)
          | ((with_reducible apply CP.k_cond); first | refine cp_condT rfl ?_ | refine cp_condF rfl ?_ | refine cp_cond rfl (fun hc => ?_) (fun hc => ?_))
          | refine CP.go ?_
          | (simp only [List.append_eq, List.cons_append, List.nil_append]))
      (exact RetQ.A [(0, 0)] (by exact ⟨rfl, rfl⟩))
/-- the tag of some bytes -/
def shaS (b : List UInt8) : List UInt8 := sumS (writeS ⟨s8z, [], 0⟩ b)
theorem sha_ac (b : List UInt8) (hb : b.length ≤ 1000000) : AC Try.prog 85 [bs none b] [] (fun v bs' => v = tg (shaS b) ∧ bs' = []) := by
  have h1 := hnew_ac
  have h2 := hwrite_ac ⟨s8z, [], 0⟩ b (by simp) (by omega) (by simp)
  have h3 := hsum_ac (writeS ⟨s8z, [], 0⟩ b) (by simp [writeS]; omega) (by simp [writeS]; omega)
  unfold shaS
  generalize writeS ⟨s8z, [], 0⟩ b = st at *
  generalize sumS st = t at *
  refine AC.N Try.func85 Try.ntmps85 ?_
  intro X hρ hmks
  simp only [nx, Nat.reduceAdd, Nat.reduceSub, BEq.rfl]
  repeat' (first
    | ((first
    | ((with_reducible apply AP.k_any); first
            | refine AP.S ?_
            | refine AP.A ?_ | refine AP.AB 0 ?_ | refine AP.AB 1 ?_ | refine AP.AL ?_
            | refine AP.LB ?_ | refine AP.TB ?_ | refine AP.IX ?_ | refine AP.SF ?_ | refine AP.SV ?_ | refine AP.CV ?_ | refine AP.CO ?_ | refine AP.FV ?_  | refine AP.PF ?_)
    ) <;> (try simp only [ nx, q4, rn, fq, Nat.mul_one, Bool.and_true, Bool.and_false, Nat.reduceBEq, Nat.reduceAdd, Nat.reduceSub, BEq.rfl]))
    | ((with_reducible apply AP.k_nil); first | (refine AP.nil (hQ' _ ?_); clear hQ' Q') | refine AP.nil ?_)
    | ((with_reducible apply CP.k_reg); refine cp_regG fun Q' hQ' => ?_)
      | (with_reducible apply CP.k_reg1; refine cp_region ?_)
      | ((with_reducible apply CP.k_cond); first | refine cp_condT rfl ?_ | refine cp_condF rfl ?_ | refine cp_cond rfl (fun hc => ?_) (fun hc => ?_))
      | refine CP.go ?_
      | (simp only [List.append_eq, List.cons_append, List.nil_append]))
  (exact RetQ.A [] (by exact ⟨rfl, rfl⟩))
end Go.Proofs.Ytnjfchigdpifmaa

namespace Go.Proofs.Ytnjfchigdpifmaa
set_option linter.unusedVariables false
set_option linter.unusedSimpArgs false
set_option maxHeartbeats 8000000
open Go.RowKit
set_option maxRecDepth 100000
def nzS (n : Nat) : Nat := (119 - n % 64) % 64
def wholeS (b : List UInt8) : List UInt8 := b ++ [0x80] ++ List.replicate (nzS b.length) 0 ++ putS (8 * b.length) 8
theorem whole_ac (b : List UInt8) (hb : b.length ≤ 10000000) : AC Try.prog 89 [bs none b] [] (fun v bs' => v = bs none (wholeS b) ∧ bs' = []) := by
  have hwu : IntKind.u64.wrap (b.length : Int) = (b.length : Int) := wrap_u64 (by omega) (by omega)
  have hwu8 : IntKind.u64.wrap (8 * (b.length : Int)) = ((8 * b.length : Nat) : Int) := by rw [wrap_u64 (by omega) (by omega)]; omega
  have hnzS : nzS b.length < 64 := Nat.mod_lt _ (by omega)
  have h1 := copy_ac b (by omega)
  have h2 := (rput_ac (8 * b.length) 8 (by omega) (by omega)).ro (r2 := bs none (putS (8 * b.length) 8)) (by simp only [AV.ro, ro_B])
  have h3 := (cat_ac (b ++ [0x80] ++ List.replicate (nzS b.length) 0) (putS (8 * b.length) 8) (by simp; omega) (by simp [putS_length])).ro (r2 := bs none (wholeS b)) (by simp only [AV.ro, ro_B]; rfl)
  refine AC.N Try.func89 Try.ntmps89 ?_
  intro X hρ hmks
  simp only [nx, Nat.reduceAdd, Nat.reduceSub, BEq.rfl]
  refine CP.gh gh_slot ?_; simp only [nx, Nat.reduceAdd, Nat.reduceSub, BEq.rfl]
  have hl0 : (b.map eB).length + 1 ≤ 1000000000 := by simp; omega
  repeat' (first
    | ((first
    | ((with_reducible apply AP.k_any); first
            | refine AP.S ?_
            | (refine AP.V (fun c hnil => ?_); simp only [nz])
            | refine AP.A ?_ | refine AP.AB 0 ?_ | refine AP.AB 1 ?_ | refine AP.AL ?_
            | refine AP.LB ?_ | refine AP.TB ?_ | refine AP.IX ?_ | refine AP.SF ?_ | refine AP.SV ?_ | refine AP.CV ?_ | refine AP.CO ?_ | refine AP.FV ?_  | refine AP.PF ?_)
    ) <;> (try simp only [ nx, q4, rn, fq, Nat.mul_one, Bool.and_true, Bool.and_false, Nat.reduceBEq, Nat.reduceAdd, Nat.reduceSub, BEq.rfl]))
    | ((with_reducible apply AP.k_nil); first | (refine AP.nil (hQ' _ ?_); clear hQ' Q') | refine AP.nil ?_)
    | ((with_reducible apply CP.k_reg); refine cp_regG fun Q' hQ' => ?_)
      | (with_reducible apply CP.k_reg1; refine cp_region ?_)
      | ((with_reducible apply CP.k_cond); first | refine cp_condT rfl ?_ | refine cp_condF rfl ?_ | refine cp_cond rfl (fun hc => ?_) (fun hc => ?_))
      | refine CP.go ?_
      | (simp only [List.append_eq, List.cons_append, List.nil_append]))
  refine cp_loopS [3, 9, 10, 11, 12, 13, 14, 15] (fun a : Nat × Nat × Nat => nzS b.length - a.1) (fun a => a.1 ≤ nzS b.length) (fun a => [(3, .hd 0 a.2.1)]) (fun a => [(0, ⟨a.2.1, .r tU 1 ((b ++ [0x80] ++ List.replicate a.1 0).map eB)⟩), (1, ⟨a.2.2, .x⟩)]) (0, 2, 1) (Nat.zero_le _) (by (simp only [List.replicate_zero, List.append_nil, List.map_append]; exact Gh.W)) ?_
  rintro ⟨k, u, v⟩ hk
  simp only [setT, deT, setB, List.set_cons_succ, List.set_cons_zero]
  dsimp only at hk
  have hln : (b ++ [0x80] ++ List.replicate k 0).length = b.length + 1 + k := by simp; omega
  have hln2 : ((b ++ [0x80] ++ List.replicate k 0).map eB).length = b.length + 1 + k := by simp; omega
  have hm : Int.tmod ((b.length + 1 + k : Nat) : Int) 64 = (((b.length + 1 + k) % 64 : Nat) : Int) := rfl
  by_cases hlt : k < nzS b.length
  · have d1 : ((((b.length + 1 + k) % 64 : Nat) : Int) != 56) = true := by
      unfold nzS at hlt; simp; omega
    have hsn : (b ++ [0x80] ++ List.replicate k 0).map eB ++ [[U 0]] = (b ++ [0x80] ++ List.replicate (k + 1) 0).map eB := by
      rw [List.replicate_succ']; simp
    clear h1 h2 h3
    generalize (b ++ [0x80] ++ List.replicate k 0).map eB = W at *
    have hlen2 : W.length + 1 ≤ 1000000000 := by omega
    repeat' (first
      | ((first
      | ((with_reducible apply AP.k_any); first
              | refine AP.S ?_
              | (refine AP.V (fun c hnil => ?_); simp only [nz])
              | refine AP.A ?_ | refine AP.AB 0 ?_ | refine AP.AB 1 ?_ | refine AP.AL ?_
              | refine AP.LB ?_ | refine AP.TB ?_ | refine AP.IX ?_ | refine AP.SF ?_ | refine AP.SV ?_ | refine AP.CV ?_ | refine AP.CO ?_ | refine AP.FV ?_  | refine AP.PF ?_)
      ) <;> (try simp only [hln, hln2, hm, d1, nx, q4, rn, fq, Nat.mul_one, Bool.and_true, Bool.and_false, Nat.reduceBEq, Nat.reduceAdd, Nat.reduceSub, BEq.rfl]))
      | ((with_reducible apply AP.k_nil); first | (refine AP.nil (hQ' _ ?_); clear hQ' Q') | refine AP.nil ?_)
      | ((with_reducible apply CP.k_reg); refine cp_regG fun Q' hQ' => ?_)
        | (with_reducible apply CP.k_reg1; refine cp_region ?_)
        | ((with_reducible apply CP.k_cond); first | refine cp_condT rfl ?_ | refine cp_condF rfl ?_ | refine cp_cond rfl (fun hc => ?_) (fun hc => ?_))
        | refine CP.go ?_
        | (simp only [List.append_eq, List.cons_append, List.nil_append]))
    refine ⟨(k + 1, u + 1, v + 1), by (dsimp only; omega), by (dsimp only; omega), ?_⟩
    dsimp only
    rw [← hsn]
    exact Gh.W
  · obtain rfl : k = nzS b.length := by omega
    have d1 : ((((b.length + 1 + nzS b.length) % 64 : Nat) : Int) != 56) = false := by
      unfold nzS; simp; omega
    generalize (b ++ [0x80] ++ List.replicate (nzS b.length) 0) = W at *
    repeat' (first
      | ((first
      | ((with_reducible apply AP.k_any); first
              | refine AP.S ?_
              | (refine AP.V (fun c hnil => ?_); simp only [nz])
              | refine AP.A ?_ | refine AP.AB 0 ?_ | refine AP.AB 1 ?_ | refine AP.AL ?_
              | refine AP.LB ?_ | refine AP.TB ?_ | refine AP.IX ?_ | refine AP.SF ?_ | refine AP.SV ?_ | refine AP.CV ?_ | refine AP.CO ?_ | refine AP.FV ?_  | refine AP.PF ?_)
      ) <;> (try simp only [hln, hln2, hm, d1, hwu, hwu8, nx, q4, rn, fq, Nat.mul_one, Bool.and_true, Bool.and_false, Nat.reduceBEq, Nat.reduceAdd, Nat.reduceSub, BEq.rfl]))
      | ((with_reducible apply AP.k_nil); first | (refine AP.nil (hQ' _ ?_); clear hQ' Q') | refine AP.nil ?_)
      | ((with_reducible apply CP.k_reg); refine cp_regG fun Q' hQ' => ?_)
        | (with_reducible apply CP.k_reg1; refine cp_region ?_)
        | ((with_reducible apply CP.k_cond); first | refine cp_condT rfl ?_ | refine cp_condF rfl ?_ | refine cp_cond rfl (fun hc => ?_) (fun hc => ?_))
        | refine CP.go ?_
        | (simp only [List.append_eq, List.cons_append, List.nil_append]))
    (exact RetQ.A [] (by exact ⟨rfl, rfl⟩))
end Go.Proofs.Ytnjfchigdpifmaa

namespace Go.Proofs.Ytnjfchigdpifmaa
set_option linter.unusedVariables false
set_option linter.unusedSimpArgs false
open Go.RowKit
set_option maxRecDepth 100000
theorem u32_ext {a b : UInt32} (h : ∀ i, i < 32 → a.toBitVec.getLsbD i = b.toBitVec.getLsbD i) : a = b := by
  have : a.toBitVec = b.toBitVec := BitVec.eq_of_getLsbD_eq h
  cases a; cases b; simp_all
theorem ch_eq (e f g : UInt32) : (e &&& f) ^^^ (~~~e &&& g) = (e &&& f ||| ~~~e &&& g) := by
  apply u32_ext
  intro i hi
  simp only [UInt32.toBitVec_xor, UInt32.toBitVec_and, UInt32.toBitVec_or, UInt32.toBitVec_not, BitVec.getLsbD_xor, BitVec.getLsbD_and, BitVec.getLsbD_or, BitVec.getLsbD_not, hi, decide_true, Bool.true_and]
  cases e.toBitVec.getLsbD i <;> cases f.toBitVec.getLsbD i <;> cases g.toBitVec.getLsbD i <;> rfl
theorem maj_eq (a b c : UInt32) : (a &&& b) ^^^ (a &&& c) ^^^ (b &&& c) = (a &&& b ||| a &&& c ||| b &&& c) := by
  apply u32_ext
  intro i hi
  simp only [UInt32.toBitVec_xor, UInt32.toBitVec_and, UInt32.toBitVec_or, BitVec.getLsbD_xor, BitVec.getLsbD_and, BitVec.getLsbD_or]
  cases a.toBitVec.getLsbD i <;> cases b.toBitVec.getLsbD i <;> cases c.toBitVec.getLsbD i <;> rfl
theorem chS_app {x : List UInt8} {q : Nat} (h : x.length = 64 * q) (y : List UInt8) : chS (x ++ y) = chS x ++ chS y := by
  have hl : (x ++ y).length / 64 = q + y.length / 64 := by simp [h]; omega
  have hq : x.length / 64 = q := by omega
  unfold chS
  rw [hl, hq, List.range_add, List.map_append, List.map_map]
  congr 1
  · apply List.map_congr_left
    intro i hi
    have hi := List.mem_range.1 hi
    rw [List.drop_append_of_le_length (by omega), List.take_append_of_le_length (by simp; omega)]
  · apply List.map_congr_left
    intro i hi
    show ((x ++ y).drop (64 * (q + i))).take 64 = _
    rw [List.drop_append, List.drop_of_length_le (by omega), List.nil_append, show 64 * (q + i) - x.length = 64 * i by omega]
theorem chS_of (b : List UInt8) : chS b = chS (b.take (b.length / 64 * 64)) := by
  have hl : (b.take (b.length / 64 * 64)).length / 64 = b.length / 64 := by rw [List.length_take]; omega
  unfold chS
  rw [hl]
  apply List.map_congr_left
  intro i hi
  have hi := List.mem_range.1 hi
  rw [List.drop_take, List.take_take, show min 64 (b.length / 64 * 64 - 64 * i) = 64 by omega]
theorem shaS_eq (b : List UInt8) : shaS b = wordsB (foldB s8z (chS (wholeS b))) := by
  have e1 : wholeS b = b.take (b.length / 64 * 64) ++ padS (b.drop (b.length / 64 * 64)) b.length := by
    have h2 : (b.drop (b.length / 64 * 64)).length = b.length % 64 := by rw [List.length_drop]; omega
    unfold wholeS padS nzS
    rw [h2]
    simp only [List.flatten_cons, List.flatten_nil, List.append_nil, List.append_assoc]
    rw [← List.append_assoc (List.take _ _), List.take_append_drop]
  have e2 : shaS b = wordsB (foldB (foldB s8z (chS b)) (chS (padS (b.drop (b.length / 64 * 64)) b.length))) := by
    simp only [shaS, sumS, writeS, List.nil_append, Nat.zero_add]
  rw [e2, e1, chS_app (q := b.length / 64) (by rw [List.length_take]; omega), ← chS_of]
  unfold foldB
  rw [List.foldl_append]
theorem whole_len (b : List UInt8) : ∃ m, (wholeS b).length = 64 * m ∧ (wholeS b).length ≤ b.length + 100 := by
  have : (wholeS b).length = b.length + 1 + nzS b.length + 8 := by simp [wholeS, putS_length]; omega
  have h : nzS b.length < 64 := Nat.mod_lt _ (by omega)
  refine ⟨(b.length + 1 + nzS b.length + 8) / 64, ?_, by omega⟩
  rw [this]
  unfold nzS; omega
end Go.Proofs.Ytnjfchigdpifmaa

namespace Go.Proofs.Ytnjfchigdpifmaa
set_option linter.unusedVariables false
set_option linter.unusedSimpArgs false
set_option maxHeartbeats 8000000
open Go.RowKit
set_option maxRecDepth 100000
abbrev eN (s : S8) : List (List AV) := [eQ s.a, eQ s.b, eQ s.c, eQ s.d, eQ s.e, eQ s.f, eQ s.g, eQ s.h]
theorem eN_at (m : S8) {i : Nat} (h : i < 8) : (eN m)[i]? = some (eQ (mw m i)) := by
  rcases i with _ | _ | _ | _ | _ | _ | _ | _ | i <;> first | rfl | (exfalso; omega)
theorem wb_at (m : S8) {i k : Nat} (h : i < 8) (hk : k < 4) : (wordsB m)[4 * i + k]? = (putS (mw m i).toNat 4)[k]? := by
  rcases i with _ | _ | _ | _ | _ | _ | _ | _ | i <;> rcases k with _ | _ | _ | _ | k <;> first | rfl | (exfalso; omega)
theorem kQ_at {i : Nat} (h : i < 64) : (K32.map eQ)[i]? = some (eQ (K32.getD i 0)) := by
  have : K32.length = 64 := rfl
  simp [List.getD_eq_getElem?_getD, List.getElem?_eq_getElem (show i < K32.length by omega)]
theorem dsha_ac (b : List UInt8) (hb : b.length ≤ 1000000) : AC Try.prog 73 [bs none b] [] (fun v bs' => v = tg (shaS b) ∧ bs' = []) := by
  have h1 := whole_ac b (by omega)
  have h2 := (dconstants_ac).ro (r2 := .sl none 1 (K32.map eQ)) (by simp only [AV.ro, ro_Q])
  rw [shaS_eq]
  obtain ⟨m, hm1, hm2⟩ := whole_len b
  generalize wholeS b = all at *
  refine AC.N Try.func73 Try.ntmps73 ?_
  intro X hρ hmks
  simp only [nx, Nat.reduceAdd, Nat.reduceSub, BEq.rfl]
  refine CP.gh gh_slot ?_; simp only [nx, Nat.reduceAdd, Nat.reduceSub, BEq.rfl]
  repeat' (first
    | ((first
    | ((with_reducible apply AP.k_any); first
            | refine AP.S ?_
            | refine AP.E ?_
            | refine AP.T ?_
            | refine AP.A ?_ | refine AP.AB 0 ?_ | refine AP.AB 1 ?_ | refine AP.AL ?_
            | refine AP.LB ?_ | refine AP.TB ?_ | refine AP.IX ?_ | refine AP.SF ?_ | refine AP.SV ?_ | refine AP.CV ?_ | refine AP.CO ?_ | refine AP.FV ?_  | refine AP.PF ?_)
      | ((with_reducible apply DW.k_any); first
        | refine DW.R ?_ | refine DW.R' ?_ | refine DW.W ?_ | refine DW.W' ?_ | refine DW.RA ?_ | refine DW.A 0 ?_ | refine DW.A 1 ?_ | refine DW.A 2 ?_ | refine DW.A' 0 ?_ | refine DW.A' 2 ?_ | ((fail_if_success refine DW.known rfl ?_); refine DW.G (fun hg => ?_) (fun hg => ?_))
        | refine DW.RX ?_ | refine DW.WX ?_ | refine DW.WX' ?_)
    | ((with_reducible apply DW.k_any); first
                | refine DW.R ?_ | refine DW.R' ?_ | refine DW.W ?_ | refine DW.W' ?_
                | (refine DW.known rfl ?_; (with_reducible first | apply DW.sx 2 | apply DW.sxN 2); (iterate 2 (focus (simp only [ft, nm, Nat.reduceAdd, Nat.reduceBEq, List.getElem?_cons_zero, List.getElem?_cons_succ]; exact rfl))); (focus (intro X V; simp only [ft, nm, Nat.reduceAdd, Nat.reduceBEq]; (try (refine AP.Y ?_; dsimp only)); (first  | fail); (try simp only [nx, Nat.reduceAdd, Nat.reduceSub, BEq.rfl]); refine AP.nil ?_; (first | refine ⟨trivial, rfl, ?_⟩ | refine ⟨rfl, rfl, ?_⟩); (repeat' (first | exact Mg.nil | apply Mg.keep rfl | apply Mg.take rfl)); done)); (focus (refine Exists.intro (fun _ => 0) ?_; apply Exists.intro; (repeat' (first | exact Mg.nil | apply Mg.keep rfl | apply Mg.take rfl)); done)); (iterate 2 (focus (exact rfl))))
                | ((fail_if_success refine DW.known rfl ?_); refine DW.G (fun hg => ?_) (fun hg => ?_))
    )
    ) <;> (try simp only [ nx, q4, rn, fq, Nat.mul_one, Bool.and_true, Bool.and_false, Nat.reduceBEq, Nat.reduceAdd, Nat.reduceSub, BEq.rfl]))
    | ((with_reducible apply AP.k_nil); first | (refine AP.nil (hQ' _ ?_); clear hQ' Q') | refine AP.nil ?_)
    | ((with_reducible apply CP.k_drw); refine cp_drwX fun Q' hQ' => ?_)
    | ((with_reducible apply CP.k_drw1); refine cp_drawX ?_)
    | ((with_reducible apply DW.k_nil); refine DW.nl ?_; first | (refine hQ' _ ?_; clear hQ' Q') | skip)
    | ((with_reducible apply CP.k_reg); refine cp_regG fun Q' hQ' => ?_)
      | (with_reducible apply CP.k_reg1; refine cp_region ?_)
      | ((with_reducible apply CP.k_cond); first | refine cp_condT rfl ?_ | refine cp_condF rfl ?_ | refine cp_cond rfl (fun hc => ?_) (fun hc => ?_))
      | refine CP.go ?_
      | (simp only [List.append_eq, List.cons_append, List.nil_append]))
  have hgk : ∀ i, i < 64 → (K32.map eQ)[i]? = some (eQ (K32.getD i 0)) := fun i h => kQ_at h
  have hkl : (K32.map eQ).length = 64 := rfl
  generalize K32.map eQ = KK at *
  refine cp_loopS [6, 7, 8, 9, 10, 11, 12, 13, 14, 15, 16, 17, 18, 19, 20, 29, 30, 31, 32, 33, 34, 35, 36, 37, 38, 39, 40, 41, 42, 43, 44, 45, 46, 47, 48, 49, 50, 51, 52, 53, 54, 55, 56, 57, 58, 59, 60, 61, 62, 63, 64, 65, 66, 67, 68, 69, 70, 71, 72, 73, 74, 75, 76, 77, 78, 79, 80, 81, 82, 83, 84, 85, 86, 87, 88, 89, 90, 91, 92, 93, 94, 95, 96, 97, 98, 99, 100, 101, 102, 103, 104, 105, 106, 107, 108, 109, 110, 111, 112, 113, 114, 115, 116, 117, 118, 119, 120, 121, 122, 123, 124, 125, 126, 127, 128, 129, 130, 131, 132, 133, 134, 135, 136, 137, 138, 139, 140, 141, 142, 143, 144, 145, 146, 147, 148, 149, 150, 151, 152, 153, 154, 155, 156, 157, 158, 159, 160, 161, 162, 163, 164, 165, 166, 167, 168, 169, 170, 171, 172, 173, 174, 175] (fun a : Nat => m - a) (fun a => a ≤ m) (fun a => [(6, I ((64 * a : Nat) : Int))]) (fun a => [(1, ⟨1, .r tQ 1 (eN (foldB s8z ((chS all).take a)))⟩)]) 0 (Nat.zero_le _) (by exact Gh.W) ?_
  clear h1 h2
  intro i hi
  simp only [setT, deT, setB, List.set_cons_succ, List.set_cons_zero]
  by_cases hlt : i < m
  · have hw : IntKind.i64.wrap (((64 * i : Nat) : Int) + 64) = ((64 * (i + 1) : Nat) : Int) := by rw [wrap_i64 (by omega) (by omega)]; omega
    have d0 : decide (((64 * i : Nat) : Int) < (all.length : Int)) = true := by simp; omega
    have hc : (chS all)[i]? = some ((all.drop (64 * i)).take 64) := by
      have : i < all.length / 64 := by omega
      simp [chS, this]
    have hs := foldB_take (n := s8z) hc
    have hcl : ((all.drop (64 * i)).take 64).length = 64 := by simp; omega
    have hsl : List.take (64 * (i + 1) - 64 * i) (List.drop (64 * i) all) = (all.drop (64 * i)).take 64 := by congr 1; omega
    generalize foldB s8z (List.take i (chS all)) = n at *
    generalize (all.drop (64 * i)).take 64 = c at *
    have h3 := (schedule_ac c hcl).ro (r2 := .sl none 1 ((wS c 64).map eQ)) (by simp only [AV.ro, ro_Q])
    repeat' (first
      | ((first
      | ((with_reducible apply AP.k_any); first
              | refine AP.S ?_
              | refine AP.E ?_
              | refine AP.T ?_
              | refine AP.A ?_ | refine AP.AB 0 ?_ | refine AP.AB 1 ?_ | refine AP.AL ?_
              | refine AP.LB ?_ | refine AP.TB ?_ | refine AP.IX ?_ | refine AP.SF ?_ | refine AP.SV ?_ | refine AP.CV ?_ | refine AP.CO ?_ | refine AP.FV ?_  | refine AP.PF ?_)
        | ((with_reducible apply DW.k_any); first
          | refine DW.R ?_ | refine DW.R' ?_ | refine DW.W ?_ | refine DW.W' ?_ | refine DW.RA ?_ | refine DW.A 0 ?_ | refine DW.A 1 ?_ | refine DW.A 2 ?_ | refine DW.A' 0 ?_ | refine DW.A' 2 ?_ | ((fail_if_success refine DW.known rfl ?_); refine DW.G (fun hg => ?_) (fun hg => ?_))
          | refine DW.RX ?_ | refine DW.WX ?_ | refine DW.WX' ?_)
      | ((with_reducible apply DW.k_any); first
                  | refine DW.R ?_ | refine DW.R' ?_ | refine DW.W ?_ | refine DW.W' ?_
                  | (refine DW.known rfl ?_; (with_reducible first | apply DW.sx 2 | apply DW.sxN 2); (iterate 2 (focus (simp only [ft, nm, Nat.reduceAdd, Nat.reduceBEq, List.getElem?_cons_zero, List.getElem?_cons_succ]; exact rfl))); (focus (intro X V; simp only [ft, nm, Nat.reduceAdd, Nat.reduceBEq]; (try (refine AP.Y ?_; dsimp only)); (first  | fail); (try simp only [nx, Nat.reduceAdd, Nat.reduceSub, BEq.rfl]); refine AP.nil ?_; (first | refine ⟨trivial, rfl, ?_⟩ | refine ⟨rfl, rfl, ?_⟩); (repeat' (first | exact Mg.nil | apply Mg.keep rfl | apply Mg.take rfl)); done)); (focus (refine Exists.intro (fun _ => 0) ?_; apply Exists.intro; (repeat' (first | exact Mg.nil | apply Mg.keep rfl | apply Mg.take rfl)); done)); (iterate 2 (focus (exact rfl))))
                  | ((fail_if_success refine DW.known rfl ?_); refine DW.G (fun hg => ?_) (fun hg => ?_))
      )
      ) <;> (try simp only [hw, d0, hsl, Int.toNat_natCast, nx, q4, rn, fq, Nat.mul_one, Bool.and_true, Bool.and_false, Nat.reduceBEq, Nat.reduceAdd, Nat.reduceSub, BEq.rfl]))
      | ((with_reducible apply AP.k_nil); first | (refine AP.nil (hQ' _ ?_); clear hQ' Q') | refine AP.nil ?_)
      | ((with_reducible apply CP.k_drw); refine cp_drwX fun Q' hQ' => ?_)
      | ((with_reducible apply CP.k_drw1); refine cp_drawX ?_)
      | ((with_reducible apply DW.k_nil); refine DW.nl ?_; first | (refine hQ' _ ?_; clear hQ' Q') | skip)
      | ((with_reducible apply CP.k_reg); refine cp_regG fun Q' hQ' => ?_)
        | (with_reducible apply CP.k_reg1; refine cp_region ?_)
        | ((with_reducible apply CP.k_cond); first | refine cp_condT rfl ?_ | refine cp_condF rfl ?_ | refine cp_cond rfl (fun hc => ?_) (fun hc => ?_))
        | refine CP.go ?_
        | (simp only [List.append_eq, List.cons_append, List.nil_append]))
    have hgw : ∀ i, i < 64 → ((wS c 64).map eQ)[i]? = some (eQ ((wS c 64).getD i 0)) := fun i h => wQ_at c h
    have hwl := wQ_len c 64
    generalize (wS c 64).map eQ = WW at *
    refine cp_loopS [8, 9, 10, 11, 12, 13, 14, 15, 16, 17, 18, 19, 20, 65, 66, 67, 68, 69, 70, 71, 72, 73, 74, 75, 76, 77, 78, 79, 80, 81, 82, 83, 84, 85, 86, 87, 88, 89, 90, 91, 92, 93, 94, 95, 96, 97, 98, 99, 100, 101, 102, 103, 104, 105, 106, 107, 108, 109, 110, 111, 112, 113, 114, 115, 116, 117, 118, 119] (fun a : Nat => 64 - a) (fun a => a ≤ 64) (fun a => [(16, I a), (8, Q4 (rS n c a).a), (9, Q4 (rS n c a).b), (10, Q4 (rS n c a).c), (11, Q4 (rS n c a).d), (12, Q4 (rS n c a).e), (13, Q4 (rS n c a).f), (14, Q4 (rS n c a).g), (15, Q4 (rS n c a).h)]) (fun _ => []) 0 (Nat.zero_le _) (by exact Gh.W) ?_
    intro t ht
    simp only [setT, deT, setB, List.set_cons_succ, List.set_cons_zero]
    by_cases htt : t < 64
    · have hw1 : IntKind.i64.wrap ((t : Int) + 1) = ((t + 1 : Nat) : Int) := wrap_i64 (by omega) (by omega)
      have d64 : decide ((t : Int) < 64) = true := by simp; omega
      have hr : rS n c (t + 1) = rnd (rS n c t) (K32.getD t 0) ((wS c 64).getD t 0) := rfl
      have gk := hgk t htt
      have gw := hgw t htt
      generalize rS n c t = s at *
      generalize K32.getD t 0 = k at *
      generalize (wS c 64).getD t 0 = w at *
      have h1 := dturns_ac s.e 6 11 25 (by omega) (by omega) (by omega)
      have h2 := dturns_ac s.a 2 13 22 (by omega) (by omega) (by omega)
      repeat' (first
        | ((first
        | ((with_reducible apply AP.k_any); first
                | refine AP.S ?_
                | refine AP.E ?_
                | refine AP.T ?_
                | refine AP.A ?_ | refine AP.AB 0 ?_ | refine AP.AB 1 ?_ | refine AP.AL ?_
                | refine AP.LB ?_ | refine AP.TB ?_ | refine AP.IX ?_ | refine AP.SF ?_ | refine AP.SV ?_ | refine AP.CV ?_ | refine AP.CO ?_ | refine AP.FV ?_ | ((with_reducible apply AP.k_any); refine AP.C (h1) ?_) | ((with_reducible apply AP.k_any); refine AP.C (h2) ?_) | refine AP.PF ?_)
          | ((with_reducible apply DW.k_any); first
            | refine DW.R ?_ | refine DW.R' ?_ | refine DW.W ?_ | refine DW.W' ?_ | refine DW.RA ?_ | refine DW.A 0 ?_ | refine DW.A 1 ?_ | refine DW.A 2 ?_ | refine DW.A' 0 ?_ | refine DW.A' 2 ?_ | ((fail_if_success refine DW.known rfl ?_); refine DW.G (fun hg => ?_) (fun hg => ?_))
            | refine DW.RX ?_ | refine DW.WX ?_ | refine DW.WX' ?_)
        | ((with_reducible apply DW.k_any); first
                    | refine DW.R ?_ | refine DW.R' ?_ | refine DW.W ?_ | refine DW.W' ?_
                    | (refine DW.known rfl ?_; (with_reducible first | apply DW.sx 2 | apply DW.sxN 2); (iterate 2 (focus (simp only [ft, nm, Nat.reduceAdd, Nat.reduceBEq, List.getElem?_cons_zero, List.getElem?_cons_succ]; exact rfl))); (focus (intro X V; simp only [ft, nm, Nat.reduceAdd, Nat.reduceBEq]; (try (refine AP.Y ?_; dsimp only)); (first | ((with_reducible apply AP.k_any); refine AP.C (h1) ?_) | ((with_reducible apply AP.k_any); refine AP.C (h2) ?_) | fail); (try simp only [nx, Nat.reduceAdd, Nat.reduceSub, BEq.rfl]); refine AP.nil ?_; (first | refine ⟨trivial, rfl, ?_⟩ | refine ⟨rfl, rfl, ?_⟩); (repeat' (first | exact Mg.nil | apply Mg.keep rfl | apply Mg.take rfl)); done)); (focus (refine Exists.intro (fun _ => 0) ?_; apply Exists.intro; (repeat' (first | exact Mg.nil | apply Mg.keep rfl | apply Mg.take rfl)); done)); (iterate 2 (focus (exact rfl))))
                    | ((fail_if_success refine DW.known rfl ?_); refine DW.G (fun hg => ?_) (fun hg => ?_))
        )
        ) <;> (try simp only [d64, ch_eq, maj_eq, nx, q4, rn, fq, Nat.mul_one, Bool.and_true, Bool.and_false, Nat.reduceBEq, Nat.reduceAdd, Nat.reduceSub, BEq.rfl]))
        | ((with_reducible apply AP.k_nil); first | (refine AP.nil (hQ' _ ?_); clear hQ' Q') | refine AP.nil ?_)
        | ((with_reducible apply CP.k_drw); refine cp_drwX fun Q' hQ' => ?_)
        | ((with_reducible apply CP.k_drw1); refine cp_drawX ?_)
        | ((with_reducible apply DW.k_nil); refine DW.nl ?_; first | (refine hQ' _ ?_; clear hQ' Q') | skip)
        | ((with_reducible apply CP.k_reg); refine cp_regG fun Q' hQ' => ?_)
          | (with_reducible apply CP.k_reg1; refine cp_region ?_)
          | ((with_reducible apply CP.k_cond); first | refine cp_condT rfl ?_ | refine cp_condF rfl ?_ | refine cp_cond rfl (fun hc => ?_) (fun hc => ?_))
          | refine CP.go ?_
          | (simp only [List.append_eq, List.cons_append, List.nil_append]))
      simp only [hw1]
      exact ⟨t + 1, by omega, by omega, by (rw [hr]; exact Gh.W)⟩
    · obtain rfl : t = 64 := by omega
      have d64 : decide (((64 : Nat) : Int) < 64) = false := by simp
      have hbl : blockS n c = ⟨n.a + (rS n c 64).a, n.b + (rS n c 64).b, n.c + (rS n c 64).c, n.d + (rS n c 64).d, n.e + (rS n c 64).e, n.f + (rS n c 64).f, n.g + (rS n c 64).g, n.h + (rS n c 64).h⟩ := rfl
      generalize rS n c 64 = s at *
      repeat' (first
        | ((first
        | ((with_reducible apply AP.k_any); first
                | refine AP.S ?_
                | refine AP.E ?_
                | refine AP.T ?_
                | refine AP.A ?_ | refine AP.AB 0 ?_ | refine AP.AB 1 ?_ | refine AP.AL ?_
                | refine AP.LB ?_ | refine AP.TB ?_ | refine AP.IX ?_ | refine AP.SF ?_ | refine AP.SV ?_ | refine AP.CV ?_ | refine AP.CO ?_ | refine AP.FV ?_  | refine AP.PF ?_)
          | ((with_reducible apply DW.k_any); first
            | refine DW.R ?_ | refine DW.R' ?_ | refine DW.W ?_ | refine DW.W' ?_ | refine DW.RA ?_ | refine DW.A 0 ?_ | refine DW.A 1 ?_ | refine DW.A 2 ?_ | refine DW.A' 0 ?_ | refine DW.A' 2 ?_ | ((fail_if_success refine DW.known rfl ?_); refine DW.G (fun hg => ?_) (fun hg => ?_))
            | refine DW.RX ?_ | refine DW.WX ?_ | refine DW.WX' ?_)
        | ((with_reducible apply DW.k_any); first
                    | refine DW.R ?_ | refine DW.R' ?_ | refine DW.W ?_ | refine DW.W' ?_
                    | (refine DW.known rfl ?_; (with_reducible first | apply DW.sx 2 | apply DW.sxN 2); (iterate 2 (focus (simp only [ft, nm, Nat.reduceAdd, Nat.reduceBEq, List.getElem?_cons_zero, List.getElem?_cons_succ]; exact rfl))); (focus (intro X V; simp only [ft, nm, Nat.reduceAdd, Nat.reduceBEq]; (try (refine AP.Y ?_; dsimp only)); (first  | fail); (try simp only [nx, Nat.reduceAdd, Nat.reduceSub, BEq.rfl]); refine AP.nil ?_; (first | refine ⟨trivial, rfl, ?_⟩ | refine ⟨rfl, rfl, ?_⟩); (repeat' (first | exact Mg.nil | apply Mg.keep rfl | apply Mg.take rfl)); done)); (focus (refine Exists.intro (fun _ => 0) ?_; apply Exists.intro; (repeat' (first | exact Mg.nil | apply Mg.keep rfl | apply Mg.take rfl)); done)); (iterate 2 (focus (exact rfl))))
                    | ((fail_if_success refine DW.known rfl ?_); refine DW.G (fun hg => ?_) (fun hg => ?_))
        )
        ) <;> (try simp only [d64, hw, nx, q4, rn, fq, Nat.mul_one, Bool.and_true, Bool.and_false, Nat.reduceBEq, Nat.reduceAdd, Nat.reduceSub, BEq.rfl]))
        | ((with_reducible apply AP.k_nil); first | (refine AP.nil (hQ' _ ?_); clear hQ' Q') | refine AP.nil ?_)
        | ((with_reducible apply CP.k_drw); refine cp_drwX fun Q' hQ' => ?_)
        | ((with_reducible apply CP.k_drw1); refine cp_drawX ?_)
        | ((with_reducible apply DW.k_nil); refine DW.nl ?_; first | (refine hQ' _ ?_; clear hQ' Q') | skip)
        | ((with_reducible apply CP.k_reg); refine cp_regG fun Q' hQ' => ?_)
          | (with_reducible apply CP.k_reg1; refine cp_region ?_)
          | ((with_reducible apply CP.k_cond); first | refine cp_condT rfl ?_ | refine cp_condF rfl ?_ | refine cp_cond rfl (fun hc => ?_) (fun hc => ?_))
          | refine CP.go ?_
          | (simp only [List.append_eq, List.cons_append, List.nil_append]))
      exact ⟨i + 1, by omega, by omega, by (rw [hs, hbl]; exact Gh.W)⟩
  · obtain rfl : i = m := by omega
    have d0 : decide (((64 * i : Nat) : Int) < (all.length : Int)) = false := by simp; omega
    have htk : (chS all).take i = chS all := List.take_of_length_le (by simp [chS]; omega)
    rw [htk]
    generalize foldB s8z (chS all) = n at *
    repeat' (first
      | ((first
      | ((with_reducible apply AP.k_any); first
              | refine AP.S ?_
              | refine AP.E ?_
              | refine AP.T ?_
              | refine AP.A ?_ | refine AP.AB 0 ?_ | refine AP.AB 1 ?_ | refine AP.AL ?_
              | refine AP.LB ?_ | refine AP.TB ?_ | refine AP.IX ?_ | refine AP.SF ?_ | refine AP.SV ?_ | refine AP.CV ?_ | refine AP.CO ?_ | refine AP.FV ?_  | refine AP.PF ?_)
        | ((with_reducible apply DW.k_any); first
          | refine DW.R ?_ | refine DW.R' ?_ | refine DW.W ?_ | refine DW.W' ?_ | refine DW.RA ?_ | refine DW.A 0 ?_ | refine DW.A 1 ?_ | refine DW.A 2 ?_ | refine DW.A' 0 ?_ | refine DW.A' 2 ?_ | ((fail_if_success refine DW.known rfl ?_); refine DW.G (fun hg => ?_) (fun hg => ?_))
          | refine DW.RX ?_ | refine DW.WX ?_ | refine DW.WX' ?_)
      | ((with_reducible apply DW.k_any); first
                  | refine DW.R ?_ | refine DW.R' ?_ | refine DW.W ?_ | refine DW.W' ?_
                  | (refine DW.known rfl ?_; (with_reducible first | apply DW.sx 2 | apply DW.sxN 2); (iterate 2 (focus (simp only [ft, nm, Nat.reduceAdd, Nat.reduceBEq, List.getElem?_cons_zero, List.getElem?_cons_succ]; exact rfl))); (focus (intro X V; simp only [ft, nm, Nat.reduceAdd, Nat.reduceBEq]; (try (refine AP.Y ?_; dsimp only)); (first  | fail); (try simp only [nx, Nat.reduceAdd, Nat.reduceSub, BEq.rfl]); refine AP.nil ?_; (first | refine ⟨trivial, rfl, ?_⟩ | refine ⟨rfl, rfl, ?_⟩); (repeat' (first | exact Mg.nil | apply Mg.keep rfl | apply Mg.take rfl)); done)); (focus (refine Exists.intro (fun _ => 0) ?_; apply Exists.intro; (repeat' (first | exact Mg.nil | apply Mg.keep rfl | apply Mg.take rfl)); done)); (iterate 2 (focus (exact rfl))))
                  | ((fail_if_success refine DW.known rfl ?_); refine DW.G (fun hg => ?_) (fun hg => ?_))
      )
      ) <;> (try simp only [d0, nx, q4, rn, fq, Nat.mul_one, Bool.and_true, Bool.and_false, Nat.reduceBEq, Nat.reduceAdd, Nat.reduceSub, BEq.rfl]))
      | ((with_reducible apply AP.k_nil); first | (refine AP.nil (hQ' _ ?_); clear hQ' Q') | refine AP.nil ?_)
      | ((with_reducible apply CP.k_drw); refine cp_drwX fun Q' hQ' => ?_)
      | ((with_reducible apply CP.k_drw1); refine cp_drawX ?_)
      | ((with_reducible apply DW.k_nil); refine DW.nl ?_; first | (refine hQ' _ ?_; clear hQ' Q') | skip)
      | ((with_reducible apply CP.k_reg); refine cp_regG fun Q' hQ' => ?_)
        | (with_reducible apply CP.k_reg1; refine cp_region ?_)
        | ((with_reducible apply CP.k_cond); first | refine cp_condT rfl ?_ | refine cp_condF rfl ?_ | refine cp_cond rfl (fun hc => ?_) (fun hc => ?_))
        | refine CP.go ?_
        | (simp only [List.append_eq, List.cons_append, List.nil_append]))
    refine cp_loopS [22, 23, 24, 176, 177, 178, 179, 180, 181, 182, 183, 184, 185, 186, 187, 188, 189, 190, 191, 192, 193, 194, 195, 196, 197, 198] (fun a : Nat => 8 - a) (fun a => a ≤ 8) (fun a => [(22, I a)]) (fun a => [(2, ⟨1, .c 24 (mixT (wordsB n) (4 * a))⟩)]) 0 (Nat.zero_le _) (by exact Gh.W) ?_
    intro j hj
    simp only [setT, deT, setB, List.set_cons_succ, List.set_cons_zero]
    by_cases hjj : j < 8
    · have hwj : IntKind.i64.wrap ((j : Int) + 1) = ((j + 1 : Nat) : Int) := wrap_i64 (by omega) (by omega)
      have hw4 : IntKind.i64.wrap (4 * (j : Int)) = ((4 * j : Nat) : Int) := wrap_i64 (by omega) (by omega)
      have d8 : decide ((j : Int) < 8) = true := by simp; omega
      have gn := eN_at n hjj
      have hwb : ∀ k, k < 4 → (wordsB n)[4 * j + k]? = (putS (mw n j).toNat 4)[k]? := fun k hk => wb_at n hjj hk
      have hwl : (wordsB n).length = 32 := rfl
      have h5 := (rput_ac (mw n j).toNat 4 (by omega) (by have := u32_lt (mw n j); omega)).ro (r2 := bs none (putS (mw n j).toNat 4)) (by simp only [AV.ro, ro_B])
      have hpl := putS_length (mw n j).toNat 4
      generalize putS (mw n j).toNat 4 = y at *
      generalize mw n j = x at *
      generalize wordsB n = z at *
      repeat' (first
        | ((first
        | ((with_reducible apply AP.k_any); first
                | refine AP.S ?_
                | refine AP.E ?_
                | refine AP.T ?_
                | refine AP.A ?_ | refine AP.AB 0 ?_ | refine AP.AB 1 ?_ | refine AP.AL ?_
                | refine AP.LB ?_ | refine AP.TB ?_ | refine AP.IX ?_ | refine AP.SF ?_ | refine AP.SV ?_ | refine AP.CV ?_ | refine AP.CO ?_ | refine AP.FV ?_  | refine AP.PF ?_)
          | ((with_reducible apply DW.k_any); first
            | refine DW.R ?_ | refine DW.R' ?_ | refine DW.W ?_ | refine DW.W' ?_ | refine DW.RA ?_ | refine DW.A 0 ?_ | refine DW.A 1 ?_ | refine DW.A 2 ?_ | refine DW.A' 0 ?_ | refine DW.A' 2 ?_ | ((fail_if_success refine DW.known rfl ?_); refine DW.G (fun hg => ?_) (fun hg => ?_))
            | refine DW.RX ?_ | refine DW.WX ?_ | refine DW.WX' ?_)
        | ((with_reducible apply DW.k_any); first
                    | refine DW.R ?_ | refine DW.R' ?_ | refine DW.W ?_ | refine DW.W' ?_
                    | (refine DW.known rfl ?_; (with_reducible first | apply DW.sx 2 | apply DW.sxN 2); (iterate 2 (focus (simp only [ft, nm, Nat.reduceAdd, Nat.reduceBEq, List.getElem?_cons_zero, List.getElem?_cons_succ]; exact rfl))); (focus (intro X V; simp only [ft, nm, Nat.reduceAdd, Nat.reduceBEq]; (try (refine AP.Y ?_; dsimp only)); (first  | fail); (try simp only [nx, Nat.reduceAdd, Nat.reduceSub, BEq.rfl]); refine AP.nil ?_; (first | refine ⟨trivial, rfl, ?_⟩ | refine ⟨rfl, rfl, ?_⟩); (repeat' (first | exact Mg.nil | apply Mg.keep rfl | apply Mg.take rfl)); done)); (focus (refine Exists.intro (fun _ => 0) ?_; apply Exists.intro; (repeat' (first | exact Mg.nil | apply Mg.keep rfl | apply Mg.take rfl)); done)); (iterate 2 (focus (exact rfl))))
                    | ((fail_if_success refine DW.known rfl ?_); refine DW.G (fun hg => ?_) (fun hg => ?_))
        )
        ) <;> (try simp only [d8, nx, q4, rn, fq, Nat.mul_one, Bool.and_true, Bool.and_false, Nat.reduceBEq, Nat.reduceAdd, Nat.reduceSub, BEq.rfl]))
        | ((with_reducible apply AP.k_nil); first | (refine AP.nil (hQ' _ ?_); clear hQ' Q') | refine AP.nil ?_)
        | ((with_reducible apply CP.k_drw); refine cp_drwX fun Q' hQ' => ?_)
        | ((with_reducible apply CP.k_drw1); refine cp_drawX ?_)
        | ((with_reducible apply DW.k_nil); refine DW.nl ?_; first | (refine hQ' _ ?_; clear hQ' Q') | skip)
        | ((with_reducible apply CP.k_reg); refine cp_regG fun Q' hQ' => ?_)
          | (with_reducible apply CP.k_reg1; refine cp_region ?_)
          | ((with_reducible apply CP.k_cond); first | refine cp_condT rfl ?_ | refine cp_condF rfl ?_ | refine cp_cond rfl (fun hc => ?_) (fun hc => ?_))
          | refine CP.go ?_
          | (simp only [List.append_eq, List.cons_append, List.nil_append]))
      refine cp_loopS [24, 186, 187, 188, 189, 190, 191, 192, 193, 194, 195, 196, 197, 198] (fun k : Nat => 4 - k) (fun k => k ≤ 4) (fun k => [(24, I k)]) (fun k => [(2, ⟨1, .c 24 (mixT z (4 * j + k))⟩)]) 0 (Nat.zero_le _) (by exact Gh.W) ?_
      intro k hk
      simp only [setT, deT, setB, List.set_cons_succ, List.set_cons_zero]
      by_cases hkk : k < 4
      · have hwk : IntKind.i64.wrap ((k : Int) + 1) = ((k + 1 : Nat) : Int) := wrap_i64 (by omega) (by omega)
        have hwa : IntKind.i64.wrap (((4 * j : Nat) : Int) + (k : Int)) = ((4 * j + k : Nat) : Int) := wrap_i64 (by omega) (by omega)
        have d4 : decide ((k : Int) < 4) = true := by simp; omega
        have hset := mixT_set (l := z) (i := 4 * j + k) (by omega)
        have hzk : z[4 * j + k]'(by omega) = y[k]'(by omega) := by
          have := hwb k hkk
          rw [List.getElem?_eq_getElem (by omega), List.getElem?_eq_getElem (by omega)] at this
          exact Option.some.inj this
        rw [hzk] at hset
        have hyk : (y.map eB)[k]? = some (eB (y[k]'(by omega))) := by simp [show k < y.length by omega]
        generalize y[k]'(by omega) = c at *
        have hml := mixT_len z (4 * j + k)
        repeat' (first
          | ((first
          | ((with_reducible apply AP.k_any); first
                  | refine AP.S ?_
                  | refine AP.E ?_
                  | refine AP.T ?_
                  | refine AP.A ?_ | refine AP.AB 0 ?_ | refine AP.AB 1 ?_ | refine AP.AL ?_
                  | refine AP.LB ?_ | refine AP.TB ?_ | refine AP.IX ?_ | refine AP.SF ?_ | refine AP.SV ?_ | refine AP.CV ?_ | refine AP.CO ?_ | refine AP.FV ?_  | refine AP.PF ?_)
            | ((with_reducible apply DW.k_any); first
              | refine DW.R ?_ | refine DW.R' ?_ | refine DW.W ?_ | refine DW.W' ?_ | refine DW.RA ?_ | refine DW.A 0 ?_ | refine DW.A 1 ?_ | refine DW.A 2 ?_ | refine DW.A' 0 ?_ | refine DW.A' 2 ?_ | ((fail_if_success refine DW.known rfl ?_); refine DW.G (fun hg => ?_) (fun hg => ?_))
              | refine DW.RX ?_ | refine DW.WX ?_ | refine DW.WX' ?_)
          | ((with_reducible apply DW.k_any); first
                      | refine DW.R ?_ | refine DW.R' ?_ | refine DW.W ?_ | refine DW.W' ?_
                      | (refine DW.known rfl ?_; (with_reducible first | apply DW.sx 2 | apply DW.sxN 2); (iterate 2 (focus (simp only [ft, nm, Nat.reduceAdd, Nat.reduceBEq, List.getElem?_cons_zero, List.getElem?_cons_succ]; exact rfl))); (focus (intro X V; simp only [ft, nm, Nat.reduceAdd, Nat.reduceBEq]; (try (refine AP.Y ?_; dsimp only)); (first  | fail); (try simp only [nx, Nat.reduceAdd, Nat.reduceSub, BEq.rfl]); refine AP.nil ?_; (first | refine ⟨trivial, rfl, ?_⟩ | refine ⟨rfl, rfl, ?_⟩); (repeat' (first | exact Mg.nil | apply Mg.keep rfl | apply Mg.take rfl)); done)); (focus (refine Exists.intro (fun _ => 0) ?_; apply Exists.intro; (repeat' (first | exact Mg.nil | apply Mg.keep rfl | apply Mg.take rfl)); done)); (iterate 2 (focus (exact rfl))))
                      | ((fail_if_success refine DW.known rfl ?_); refine DW.G (fun hg => ?_) (fun hg => ?_))
          )
          ) <;> (try simp only [d4, hw4, hwa, Int.toNat_natCast, nx, q4, rn, fq, Nat.mul_one, Bool.and_true, Bool.and_false, Nat.reduceBEq, Nat.reduceAdd, Nat.reduceSub, BEq.rfl]))
          | ((with_reducible apply AP.k_nil); first | (refine AP.nil (hQ' _ ?_); clear hQ' Q') | refine AP.nil ?_)
          | ((with_reducible apply CP.k_drw); refine cp_drwX fun Q' hQ' => ?_)
          | ((with_reducible apply CP.k_drw1); refine cp_drawX ?_)
          | ((with_reducible apply DW.k_nil); refine DW.nl ?_; first | (refine hQ' _ ?_; clear hQ' Q') | skip)
          | ((with_reducible apply CP.k_reg); refine cp_regG fun Q' hQ' => ?_)
            | (with_reducible apply CP.k_reg1; refine cp_region ?_)
            | ((with_reducible apply CP.k_cond); first | refine cp_condT rfl ?_ | refine cp_condF rfl ?_ | refine cp_cond rfl (fun hc => ?_) (fun hc => ?_))
            | refine CP.go ?_
            | (simp only [List.append_eq, List.cons_append, List.nil_append]))
        simp only [hwk]
        exact ⟨k + 1, by omega, by omega, by (rw [show 4 * j + (k + 1) = 4 * j + k + 1 from rfl, ← hset]; exact Gh.W)⟩
      · obtain rfl : k = 4 := by omega
        have d4 : decide (((4 : Nat) : Int) < 4) = false := by simp
        repeat' (first
          | ((first
          | ((with_reducible apply AP.k_any); first
                  | refine AP.S ?_
                  | refine AP.E ?_
                  | refine AP.T ?_
                  | refine AP.A ?_ | refine AP.AB 0 ?_ | refine AP.AB 1 ?_ | refine AP.AL ?_
                  | refine AP.LB ?_ | refine AP.TB ?_ | refine AP.IX ?_ | refine AP.SF ?_ | refine AP.SV ?_ | refine AP.CV ?_ | refine AP.CO ?_ | refine AP.FV ?_  | refine AP.PF ?_)
            | ((with_reducible apply DW.k_any); first
              | refine DW.R ?_ | refine DW.R' ?_ | refine DW.W ?_ | refine DW.W' ?_ | refine DW.RA ?_ | refine DW.A 0 ?_ | refine DW.A 1 ?_ | refine DW.A 2 ?_ | refine DW.A' 0 ?_ | refine DW.A' 2 ?_ | ((fail_if_success refine DW.known rfl ?_); refine DW.G (fun hg => ?_) (fun hg => ?_))
              | refine DW.RX ?_ | refine DW.WX ?_ | refine DW.WX' ?_)
          | ((with_reducible apply DW.k_any); first
                      | refine DW.R ?_ | refine DW.R' ?_ | refine DW.W ?_ | refine DW.W' ?_
                      | (refine DW.known rfl ?_; (with_reducible first | apply DW.sx 2 | apply DW.sxN 2); (iterate 2 (focus (simp only [ft, nm, Nat.reduceAdd, Nat.reduceBEq, List.getElem?_cons_zero, List.getElem?_cons_succ]; exact rfl))); (focus (intro X V; simp only [ft, nm, Nat.reduceAdd, Nat.reduceBEq]; (try (refine AP.Y ?_; dsimp only)); (first  | fail); (try simp only [nx, Nat.reduceAdd, Nat.reduceSub, BEq.rfl]); refine AP.nil ?_; (first | refine ⟨trivial, rfl, ?_⟩ | refine ⟨rfl, rfl, ?_⟩); (repeat' (first | exact Mg.nil | apply Mg.keep rfl | apply Mg.take rfl)); done)); (focus (refine Exists.intro (fun _ => 0) ?_; apply Exists.intro; (repeat' (first | exact Mg.nil | apply Mg.keep rfl | apply Mg.take rfl)); done)); (iterate 2 (focus (exact rfl))))
                      | ((fail_if_success refine DW.known rfl ?_); refine DW.G (fun hg => ?_) (fun hg => ?_))
          )
          ) <;> (try simp only [d4, hwj, nx, q4, rn, fq, Nat.mul_one, Bool.and_true, Bool.and_false, Nat.reduceBEq, Nat.reduceAdd, Nat.reduceSub, BEq.rfl]))
          | ((with_reducible apply AP.k_nil); first | (refine AP.nil (hQ' _ ?_); clear hQ' Q') | refine AP.nil ?_)
          | ((with_reducible apply CP.k_drw); refine cp_drwX fun Q' hQ' => ?_)
          | ((with_reducible apply CP.k_drw1); refine cp_drawX ?_)
          | ((with_reducible apply DW.k_nil); refine DW.nl ?_; first | (refine hQ' _ ?_; clear hQ' Q') | skip)
          | ((with_reducible apply CP.k_reg); refine cp_regG fun Q' hQ' => ?_)
            | (with_reducible apply CP.k_reg1; refine cp_region ?_)
            | ((with_reducible apply CP.k_cond); first | refine cp_condT rfl ?_ | refine cp_condF rfl ?_ | refine cp_cond rfl (fun hc => ?_) (fun hc => ?_))
            | refine CP.go ?_
            | (simp only [List.append_eq, List.cons_append, List.nil_append]))
        exact ⟨j + 1, by omega, by omega, by (rw [show 4 * (j + 1) = 4 * j + 4 from rfl]; exact Gh.W)⟩
    · obtain rfl : j = 8 := by omega
      have d8 : decide (((8 : Nat) : Int) < 8) = false := by simp
      rw [show 4 * 8 = 32 from rfl, mixT_32]
      repeat' (first
        | ((first
        | ((with_reducible apply AP.k_any); first
                | refine AP.S ?_
                | refine AP.E ?_
                | refine AP.T ?_
                | refine AP.A ?_ | refine AP.AB 0 ?_ | refine AP.AB 1 ?_ | refine AP.AL ?_
                | refine AP.LB ?_ | refine AP.TB ?_ | refine AP.IX ?_ | refine AP.SF ?_ | refine AP.SV ?_ | refine AP.CV ?_ | refine AP.CO ?_ | refine AP.FV ?_  | refine AP.PF ?_)
          | ((with_reducible apply DW.k_any); first
            | refine DW.R ?_ | refine DW.R' ?_ | refine DW.W ?_ | refine DW.W' ?_ | refine DW.RA ?_ | refine DW.A 0 ?_ | refine DW.A 1 ?_ | refine DW.A 2 ?_ | refine DW.A' 0 ?_ | refine DW.A' 2 ?_ | ((fail_if_success refine DW.known rfl ?_); refine DW.G (fun hg => ?_) (fun hg => ?_))
            | refine DW.RX ?_ | refine DW.WX ?_ | refine DW.WX' ?_)
        | ((with_reducible apply DW.k_any); first
                    | refine DW.R ?_ | refine DW.R' ?_ | refine DW.W ?_ | refine DW.W' ?_
                    | (refine DW.known rfl ?_; (with_reducible first | apply DW.sx 2 | apply DW.sxN 2); (iterate 2 (focus (simp only [ft, nm, Nat.reduceAdd, Nat.reduceBEq, List.getElem?_cons_zero, List.getElem?_cons_succ]; exact rfl))); (focus (intro X V; simp only [ft, nm, Nat.reduceAdd, Nat.reduceBEq]; (try (refine AP.Y ?_; dsimp only)); (first  | fail); (try simp only [nx, Nat.reduceAdd, Nat.reduceSub, BEq.rfl]); refine AP.nil ?_; (first | refine ⟨trivial, rfl, ?_⟩ | refine ⟨rfl, rfl, ?_⟩); (repeat' (first | exact Mg.nil | apply Mg.keep rfl | apply Mg.take rfl)); done)); (focus (refine Exists.intro (fun _ => 0) ?_; apply Exists.intro; (repeat' (first | exact Mg.nil | apply Mg.keep rfl | apply Mg.take rfl)); done)); (iterate 2 (focus (exact rfl))))
                    | ((fail_if_success refine DW.known rfl ?_); refine DW.G (fun hg => ?_) (fun hg => ?_))
        )
        ) <;> (try simp only [d8, nx, q4, rn, fq, Nat.mul_one, Bool.and_true, Bool.and_false, Nat.reduceBEq, Nat.reduceAdd, Nat.reduceSub, BEq.rfl]))
        | ((with_reducible apply AP.k_nil); first | (refine AP.nil (hQ' _ ?_); clear hQ' Q') | refine AP.nil ?_)
        | ((with_reducible apply CP.k_drw); refine cp_drwX fun Q' hQ' => ?_)
        | ((with_reducible apply CP.k_drw1); refine cp_drawX ?_)
        | ((with_reducible apply DW.k_nil); refine DW.nl ?_; first | (refine hQ' _ ?_; clear hQ' Q') | skip)
        | ((with_reducible apply CP.k_reg); refine cp_regG fun Q' hQ' => ?_)
          | (with_reducible apply CP.k_reg1; refine cp_region ?_)
          | ((with_reducible apply CP.k_cond); first | refine cp_condT rfl ?_ | refine cp_condF rfl ?_ | refine cp_cond rfl (fun hc => ?_) (fun hc => ?_))
          | refine CP.go ?_
          | (simp only [List.append_eq, List.cons_append, List.nil_append]))
      (exact RetQ.A [] (by exact ⟨rfl, rfl⟩))
end Go.Proofs.Ytnjfchigdpifmaa

namespace Go.Proofs.Ytnjfchigdpifmaa
set_option linter.unusedVariables false
set_option linter.unusedSimpArgs false
set_option maxHeartbeats 8000000
open Go.RowKit
set_option maxRecDepth 100000
def xorS (a b : List UInt8) : List UInt8 := List.zipWith (fun x y => x ^^^ y) a b
theorem wrap_u8 {n : Nat} (h : n < 256) : IntKind.u8.wrap (n : Int) = n := by
  simp [IntKind.wrap, IntKind.bits, IntKind.signed]; omega
theorem xor8 (x y : UInt8) : IntKind.u8.wrap ((BitVec.toNat (BitVec.ofInt 8 (x.toNat : Int) ^^^ BitVec.ofInt 8 (y.toNat : Int)) : Nat) : Int) = ((x ^^^ y).toNat : Int) := by
  have hx : BitVec.ofInt 8 (x.toNat : Int) = x.toBitVec := by apply BitVec.eq_of_toNat_eq; simp
  have hy : BitVec.ofInt 8 (y.toNat : Int) = y.toBitVec := by apply BitVec.eq_of_toNat_eq; simp
  rw [hx, hy]
  have h : (x.toBitVec ^^^ y.toBitVec).toNat = (x ^^^ y).toNat := rfl
  rw [h]
  exact wrap_u8 (x ^^^ y).toNat_lt
theorem or8b (x y : UInt8) : IntKind.u8.wrap ((BitVec.toNat (BitVec.ofInt 8 (x.toNat : Int) ||| BitVec.ofInt 8 (y.toNat : Int)) : Nat) : Int) = ((x ||| y).toNat : Int) := by
  have hx : BitVec.ofInt 8 (x.toNat : Int) = x.toBitVec := by apply BitVec.eq_of_toNat_eq; simp
  have hy : BitVec.ofInt 8 (y.toNat : Int) = y.toBitVec := by apply BitVec.eq_of_toNat_eq; simp
  rw [hx, hy]
  have h : (x.toBitVec ||| y.toBitVec).toNat = (x ||| y).toNat := rfl
  rw [h]
  exact wrap_u8 (x ||| y).toNat_lt
def xst (a b : List UInt8) (k : Nat) : List UInt8 := (xorS a b).take k ++ a.drop k
theorem xst_len {a b : List UInt8} (h : a.length = b.length) (k : Nat) : (xst a b k).length = a.length := by simp [xst, xorS]; omega
theorem xst_at {a b : List UInt8} (h : a.length = b.length) {k : Nat} (hk : k < a.length) : (xst a b k)[k]? = some a[k] := by
  unfold xst
  rw [List.getElem?_append_right (by simp [xorS]; omega)]
  simp [xorS]
  rw [show k + (k - min k (min a.length b.length)) = k by omega]
  simp [hk]
theorem xst_set {a b : List UInt8} (h : a.length = b.length) {k : Nat} (hk : k < a.length) : (xst a b k).set k (a[k] ^^^ b[k]'(by omega)) = xst a b (k + 1) := by
  have hl : ((xorS a b).take k).length = k := by simp [xorS]; omega
  unfold xst
  rw [List.set_append_right _ _ (by omega), hl, Nat.sub_self, List.drop_eq_getElem_cons hk, List.set_cons_zero, List.take_succ_eq_append_getElem (by simp [xorS]; omega)]
  simp [xorS]
theorem xor_ac (a b : List UInt8) (h : a.length = b.length) (hl : a.length ≤ 100000000) : AC Try.prog 54 [bs none a, bs none b] [] (fun v bs' => v = bs (some tU) (xorS a b) ∧ bs' = []) := by
  have hc := wcat_ac [a] (by simp) (by simp; omega)
  have hm : (if (b.length : Int) < (a.length : Int) then (b.length : Int) else (a.length : Int)) = (a.length : Int) := by rw [if_neg (by omega)]
  refine AC.N Try.func54 Try.ntmps54 ?_
  intro X hρ hmks
  simp only [nx, Nat.reduceAdd, Nat.reduceSub, BEq.rfl]
  repeat' (first
    | ((first
    | ((with_reducible apply AP.k_any); first
             | refine AP.S ?_
             | refine AP.E ?_
             | refine AP.T ?_
      )
    | ((with_reducible apply AP.k_any); simp only [hm, Int.toNat_natCast, List.take_length]; refine ap_callX rfl rfl (fn := 26) rfl (hc) (by (repeat' (first | exact PasC.nil | apply PasC.nil | apply PasC.cons | apply PasV.leaf rfl | apply PasV.nl | apply PasV.bp rfl | apply PasV.lend rfl rfl rfl | apply PasV.lend rfl rfl (ro_B _) | apply PasV.lend rfl rfl (ro_M _) | apply PasV.lend rfl rfl (ro_E _ _) | apply PasV.lend rfl rfl (ro_I _) | apply PasV.lend rfl rfl (by (simp only [rn, List.map_cons, List.map_nil]; first | done | rfl)) | apply PasV.mv rfl | apply PasV.ag | apply PasV.fn | exact PasV.fs | apply PasV.any))) rfl rfl ?_)
    | ((with_reducible apply AP.k_any); refine AP.gh (gh_fz (b := 0) (u := 1) rfl rfl (by (repeat' (first | exact FzC.nil | apply FzC.cons | exact FzV.hd | apply FzV.ag | exact FzV.same))) (by (repeat' (first | exact FzB.nil | apply FzB.c | apply FzB.same | exact FzC.nil | apply FzC.cons | exact FzV.hd | apply FzV.ag | exact FzV.same)))) ?_; first | simp only [roE, roC, AV.ro, ro_B, ro_M, ro_E] | simp only [roE, roC, AV.ro, ro_B])
    )
      <;> (try simp only [nx, Nat.reduceAdd, Nat.reduceSub, BEq.rfl]))
    | ((with_reducible apply AP.k_nil); first
        | (refine AP.nil (hQ' _ ?_); clear hQ' Q')
        | refine AP.nil ?_)
    | ((with_reducible apply CP.k_reg); refine cp_regG fun Q' hQ' => ?_)
      | (with_reducible apply CP.k_reg1; refine cp_region ?_)
      | ((with_reducible apply CP.k_cond); first | refine cp_condT rfl ?_ | refine cp_condF rfl ?_ | refine cp_cond rfl (fun hc => ?_) (fun hc => ?_))
      | refine CP.go ?_
      | (simp only [List.append_eq, List.cons_append, List.nil_append]))
  simp only [List.flatten_cons, List.flatten_nil, List.append_nil]
  refine cp_loopS [6, 18, 19, 20, 21, 22, 23, 24, 25, 26, 27, 28, 29, 30, 31] (fun k : Nat => a.length - k) (fun k => k ≤ a.length) (fun k => [(18, I k), (17, I a.length)]) (fun k => [(0, ⟨2, .r tU 1 ((xst a b k).map eB)⟩)]) 0 (Nat.zero_le _) (by exact Gh.W) ?_
  rintro k hk
  simp only [setT, deT, setB, List.set_cons_succ, List.set_cons_zero]
  have hxl := xst_len h k
  by_cases hlt : k < a.length
  · have hw : IntKind.i64.wrap ((k : Int) + 1) = ((k + 1 : Nat) : Int) := wrap_i64 (by omega) (by omega)
    have hkb : k < b.length := by omega
    have hxa : (xst a b k)[k] = a[k] := by have := xst_at h hlt; rw [List.getElem?_eq_getElem (by omega)] at this; simpa using this
    have hset := xst_set h hlt
    have hx8 : IntKind.u8.wrap (((BitVec.ofInt IntKind.u8.bits (a[k].toNat : Int)) ^^^ (BitVec.ofInt IntKind.u8.bits (b[k].toNat : Int))).toNat : Int) = ((a[k] ^^^ b[k]).toNat : Int) := xor8 a[k] b[k]
    repeat' (first
      | ((first
      | ((with_reducible apply AP.k_any); first
               | refine AP.S ?_
               | refine AP.E ?_
               | refine AP.T ?_
        )
      
      | ((with_reducible apply DW.k_any); first
                  | refine DW.R ?_ | refine DW.R' ?_ | refine DW.W ?_ | refine DW.W' ?_
                  | (refine DW.known rfl ?_; (with_reducible first | apply DW.sx 2 | apply DW.sxN 2); (iterate 2 (focus (simp only [ft, nm, Nat.reduceAdd, Nat.reduceBEq, List.getElem?_cons_zero, List.getElem?_cons_succ]; exact rfl))); (focus (intro X V; simp only [ft, nm, Nat.reduceAdd, Nat.reduceBEq]; (try (refine AP.Y ?_; dsimp only)); (first  | fail); (try simp only [nx, Nat.reduceAdd, Nat.reduceSub, BEq.rfl]); refine AP.nil ?_; (first | refine ⟨trivial, rfl, ?_⟩ | refine ⟨rfl, rfl, ?_⟩); (repeat' (first | exact Mg.nil | apply Mg.keep rfl | apply Mg.take rfl)); done)); (focus (refine Exists.intro (fun _ => 0) ?_; apply Exists.intro; (repeat' (first | exact Mg.nil | apply Mg.keep rfl | apply Mg.take rfl)); done)); (iterate 2 (focus (exact rfl))))
                  | ((fail_if_success refine DW.known rfl ?_); refine DW.G (fun hg => ?_) (fun hg => ?_))
      )
      )
        <;> (try simp only [nx, Nat.reduceAdd, Nat.reduceSub, BEq.rfl]))
      | ((with_reducible apply AP.k_nil); first
          | (refine AP.nil (hQ' _ ?_); clear hQ' Q')
          | refine AP.nil ?_)
      | ((with_reducible apply CP.k_drw); refine cp_drwX fun Q' hQ' => ?_)
      | ((with_reducible apply CP.k_drw1); refine cp_drawX ?_)
      | ((with_reducible apply DW.k_nil); refine DW.nl ?_; first | (refine hQ' _ ?_; clear hQ' Q') | skip)
      | ((with_reducible apply CP.k_reg); refine cp_regG fun Q' hQ' => ?_)
        | (with_reducible apply CP.k_reg1; refine cp_region ?_)
        | ((with_reducible apply CP.k_cond); first | refine cp_condT rfl ?_ | refine cp_condF rfl ?_ | refine cp_cond rfl (fun hc => ?_) (fun hc => ?_))
        | refine CP.go ?_
        | (simp only [List.append_eq, List.cons_append, List.nil_append]))
    · simp only [hw, hxa, hx8]
      rw [show ∀ y : UInt8, [AV.sc (.int .u8 (y.toNat : Int))] = eB y from fun _ => rfl, ← List.map_set, hset]
      exact ⟨k + 1, by omega, by omega, by exact Gh.W⟩
    · exfalso; simp at *; omega
  · obtain rfl : k = a.length := by omega
    have e1 : xst a b a.length = xorS a b := by unfold xst; rw [List.drop_length, List.append_nil, List.take_of_length_le (by simp [xorS]; omega)]
    rw [e1] at hxl ⊢
    repeat' (first
      | ((first
      | ((with_reducible apply AP.k_any); first
               | refine AP.S ?_
               | refine AP.E ?_
               | refine AP.T ?_
        )
      
      | ((with_reducible apply DW.k_any); first
                  | refine DW.R ?_ | refine DW.R' ?_ | refine DW.W ?_ | refine DW.W' ?_
                  | (refine DW.known rfl ?_; (with_reducible first | apply DW.sx 2 | apply DW.sxN 2); (iterate 2 (focus (simp only [ft, nm, Nat.reduceAdd, Nat.reduceBEq, List.getElem?_cons_zero, List.getElem?_cons_succ]; exact rfl))); (focus (intro X V; simp only [ft, nm, Nat.reduceAdd, Nat.reduceBEq]; (try (refine AP.Y ?_; dsimp only)); (first  | fail); (try simp only [nx, Nat.reduceAdd, Nat.reduceSub, BEq.rfl]); refine AP.nil ?_; (first | refine ⟨trivial, rfl, ?_⟩ | refine ⟨rfl, rfl, ?_⟩); (repeat' (first | exact Mg.nil | apply Mg.keep rfl | apply Mg.take rfl)); done)); (focus (refine Exists.intro (fun _ => 0) ?_; apply Exists.intro; (repeat' (first | exact Mg.nil | apply Mg.keep rfl | apply Mg.take rfl)); done)); (iterate 2 (focus (exact rfl))))
                  | ((fail_if_success refine DW.known rfl ?_); refine DW.G (fun hg => ?_) (fun hg => ?_))
      )
      )
        <;> (try simp only [nx, Nat.reduceAdd, Nat.reduceSub, BEq.rfl]))
      | ((with_reducible apply AP.k_nil); first
          | (refine AP.nil (hQ' _ ?_); clear hQ' Q')
          | refine AP.nil ?_)
      | ((with_reducible apply CP.k_drw); refine cp_drwX fun Q' hQ' => ?_)
      | ((with_reducible apply CP.k_drw1); refine cp_drawX ?_)
      | ((with_reducible apply DW.k_nil); refine DW.nl ?_; first | (refine hQ' _ ?_; clear hQ' Q') | skip)
      | ((with_reducible apply CP.k_reg); refine cp_regG fun Q' hQ' => ?_)
        | (with_reducible apply CP.k_reg1; refine cp_region ?_)
        | ((with_reducible apply CP.k_cond); first | refine cp_condT rfl ?_ | refine cp_condF rfl ?_ | refine cp_cond rfl (fun hc => ?_) (fun hc => ?_))
        | refine CP.go ?_
        | (simp only [List.append_eq, List.cons_append, List.nil_append]))
    all_goals first
      | (exfalso; simp at *; done)
      | (exfalso; simp at *; omega)
      | (refine RetQ.B [] ?_; (try dsimp only [resV, List.getD_cons_succ, List.getD_cons_zero]); (exact ⟨rfl, rfl⟩))
def orS (l : List UInt8) : UInt8 := l.foldl (fun x y => x ||| y) 0
theorem orS_snoc (l : List UInt8) (x : UInt8) : orS (l ++ [x]) = orS l ||| x := by simp [orS, List.foldl_append]
theorem or_zero {x y : UInt8} : x ||| y = 0 ↔ x = 0 ∧ y = 0 := by
  constructor
  · intro h
    have h' := congrArg UInt8.toNat h
    rw [UInt8.toNat_or] at h'
    have h1 : x.toNat = 0 := by
      have := Nat.left_le_or (n := x.toNat) (m := y.toNat); simp at h'; omega
    have h2 : y.toNat = 0 := by
      have := Nat.right_le_or (n := x.toNat) (m := y.toNat); simp at h'; omega
    exact ⟨UInt8.toNat_inj.1 (by simpa using h1), UInt8.toNat_inj.1 (by simpa using h2)⟩
  · rintro ⟨rfl, rfl⟩; rfl
theorem fold_or : ∀ {l : List UInt8} {x : UInt8}, l.foldl (fun x y => x ||| y) x = 0 ↔ x = 0 ∧ ∀ y ∈ l, y = 0
  | [], x => by simp
  | y :: l, x => by
    rw [List.foldl_cons, fold_or (l := l), or_zero]
    simp [and_assoc]
theorem xor_zero {x y : UInt8} : x ^^^ y = 0 ↔ x = y := by
  constructor
  · intro h
    have : x ^^^ y ^^^ y = 0 ^^^ y := by rw [h]
    simpa [UInt8.xor_assoc] using this
  · rintro rfl; simp
theorem orS_xor : ∀ {a b : List UInt8}, a.length = b.length → (orS (xorS a b) = 0 ↔ a = b)
  | [], [], _ => by simp [orS, xorS]
  | [], _ :: _, h => by simp at h
  | _ :: _, [], h => by simp at h
  | x :: a, y :: b, h => by
    have ih := orS_xor (a := a) (b := b) (by simpa using h)
    unfold orS at ih ⊢
    rw [fold_or] at ih
    rw [xorS, List.zipWith_cons_cons, List.foldl_cons, fold_or, or_zero, xor_zero]
    simp only [true_and] at ih ⊢
    rw [show List.zipWith (fun x y => x ^^^ y) a b = xorS a b from rfl, ih]
    simp
theorem wsame_ac (a b : List UInt8) (hl : a.length ≤ 100000000) : AC Try.prog 25 [bs none a, bs none b] [] (fun v bs' => v = B (decide (a = b)) ∧ bs' = []) := by
  by_cases h : a.length = b.length
  · have hx := (xor_ac a b h hl).ro (r2 := bs none (xorS a b)) (by simp only [AV.ro, ro_B])
    have hxl : (xorS a b).length = a.length := by simp [xorS]; omega
    refine AC.N Try.func25 Try.ntmps25 ?_
    intro X hρ hmks
    simp only [nx, Nat.reduceAdd, Nat.reduceSub, BEq.rfl]
    repeat' (first
      | ((first
      | ((with_reducible apply AP.k_any); first
               | refine AP.S ?_
               | refine AP.E ?_
        )
      | ((with_reducible apply AP.k_any); refine AP.C (hx) ?_)
      )
        <;> (try simp only [nx, Nat.reduceAdd, Nat.reduceSub, BEq.rfl]))
      | ((with_reducible apply AP.k_nil); first
          | (refine AP.nil (hQ' _ ?_); clear hQ' Q')
          | refine AP.nil ?_)
      | ((with_reducible apply CP.k_reg); refine cp_regG fun Q' hQ' => ?_)
        | (with_reducible apply CP.k_reg1; refine cp_region ?_)
        | ((with_reducible apply CP.k_cond); first | refine cp_condT rfl ?_ | refine cp_condF rfl ?_ | refine cp_cond rfl (fun hc => ?_) (fun hc => ?_))
        | refine CP.go ?_
        | (simp only [List.append_eq, List.cons_append, List.nil_append]))
    · exfalso; simp at *; omega
    refine cp_loopS [5, 7, 17, 18, 19, 20, 21, 22, 23, 24] (fun k : Nat => a.length - k) (fun k => k ≤ a.length) (fun k => [(17, I k), (16, I a.length), (15, bs none (xorS a b)), (5, U (orS ((xorS a b).take k)))]) (fun k => []) 0 (Nat.zero_le _) (by (try rw [hxl]); exact Gh.W) ?_
    rintro k hk
    simp only [setT, deT, setB, List.set_cons_succ, List.set_cons_zero]
    by_cases hlt : k < a.length
    · have hw : IntKind.i64.wrap ((k : Int) + 1) = ((k + 1 : Nat) : Int) := wrap_i64 (by omega) (by omega)
      have hkx : k < (xorS a b).length := by omega
      have ho : IntKind.u8.wrap (((BitVec.ofInt IntKind.u8.bits ((orS ((xorS a b).take k)).toNat : Int)) ||| (BitVec.ofInt IntKind.u8.bits ((xorS a b)[k].toNat : Int))).toNat : Int) = ((orS ((xorS a b).take k) ||| (xorS a b)[k]).toNat : Int) := or8b _ _
      have hs : orS ((xorS a b).take (k + 1)) = orS ((xorS a b).take k) ||| (xorS a b)[k] := by rw [List.take_succ_eq_append_getElem hkx, orS_snoc]
      repeat' (first
        | ((first
        | ((with_reducible apply AP.k_any); first
                 | refine AP.S ?_
                 | refine AP.E ?_
          )
        
        )
          <;> (try simp only [nx, Nat.reduceAdd, Nat.reduceSub, BEq.rfl]))
        | ((with_reducible apply AP.k_nil); first
            | (refine AP.nil (hQ' _ ?_); clear hQ' Q')
            | refine AP.nil ?_)
        | ((with_reducible apply CP.k_reg); refine cp_regG fun Q' hQ' => ?_)
          | (with_reducible apply CP.k_reg1; refine cp_region ?_)
          | ((with_reducible apply CP.k_cond); first | refine cp_condT rfl ?_ | refine cp_condF rfl ?_ | refine cp_cond rfl (fun hc => ?_) (fun hc => ?_))
          | refine CP.go ?_
          | (simp only [List.append_eq, List.cons_append, List.nil_append]))
      · simp only [hw, ho]
        refine ⟨k + 1, by omega, by omega, ?_⟩
        rw [hs]
        exact Gh.W
      · exfalso; simp at *; omega
    · obtain rfl : k = a.length := by omega
      have ht : (xorS a b).take a.length = xorS a b := List.take_of_length_le (by omega)
      rw [ht]
      have hz := orS_xor h
      have hq : (((orS (xorS a b)).toNat : Int) == 0) = decide (a = b) := by
        rw [Bool.eq_iff_iff]
        simp only [beq_iff_eq, decide_eq_true_eq, ← hz, ← UInt8.toNat_inj]
        simp
      repeat' (first
        | ((first
        | ((with_reducible apply AP.k_any); first
                 | refine AP.S ?_
                 | refine AP.E ?_
          )
        
        )
          <;> (try simp only [nx, Nat.reduceAdd, Nat.reduceSub, BEq.rfl]))
        | ((with_reducible apply AP.k_nil); first
            | (refine AP.nil (hQ' _ ?_); clear hQ' Q')
            | refine AP.nil ?_)
        | ((with_reducible apply CP.k_reg); refine cp_regG fun Q' hQ' => ?_)
          | (with_reducible apply CP.k_reg1; refine cp_region ?_)
          | ((with_reducible apply CP.k_cond); first | refine cp_condT rfl ?_ | refine cp_condF rfl ?_ | refine cp_cond rfl (fun hc => ?_) (fun hc => ?_))
          | refine CP.go ?_
          | (simp only [List.append_eq, List.cons_append, List.nil_append]))
      all_goals first
        | (exfalso; simp at *; done)
        | (exfalso; simp at *; omega)
        | (refine RetQ.B [] ?_; (try dsimp only [resV, List.getD_cons_succ, List.getD_cons_zero]); (exact ⟨by rw [← hq], rfl⟩))
  · have hd : decide (a = b) = false := by simp; rintro rfl; exact h rfl
    rw [hd]
    refine AC.N Try.func25 Try.ntmps25 ?_
    intro X hρ hmks
    simp only [nx, Nat.reduceAdd, Nat.reduceSub, BEq.rfl]
    repeat' (first
      | ((first
      | ((with_reducible apply AP.k_any); first
               | refine AP.S ?_
               | refine AP.E ?_
        )
      
      )
        <;> (try simp only [nx, Nat.reduceAdd, Nat.reduceSub, BEq.rfl]))
      | ((with_reducible apply AP.k_nil); first
          | (refine AP.nil (hQ' _ ?_); clear hQ' Q')
          | refine AP.nil ?_)
      | ((with_reducible apply CP.k_reg); refine cp_regG fun Q' hQ' => ?_)
        | (with_reducible apply CP.k_reg1; refine cp_region ?_)
        | ((with_reducible apply CP.k_cond); first | refine cp_condT rfl ?_ | refine cp_condF rfl ?_ | refine cp_cond rfl (fun hc => ?_) (fun hc => ?_))
        | refine CP.go ?_
        | (simp only [List.append_eq, List.cons_append, List.nil_append]))
    · (refine RetQ.B [] ?_; (try dsimp only [resV, List.getD_cons_succ, List.getD_cons_zero]); (exact ⟨rfl, rfl⟩))
    all_goals (exfalso; simp at *; omega)
end Go.Proofs.Ytnjfchigdpifmaa

namespace Go.Proofs.Ytnjfchigdpifmaa
set_option linter.unusedVariables false
set_option linter.unusedSimpArgs false
open Go.RowKit
set_option maxRecDepth 100000

structure Member where
  node : Int
  since : Int
  whole : Bool
structure Config where
  epoch : Int
  members : List Member
structure Book where
  cfg : Config
  since : Int
  whole : Bool
  upto : Int
structure Entry where
  pos : Int
  stamp : Int
  client : Int
  id : Int
  body : List UInt8
structure Record where
  kind : UInt8
  book : Book
  drop : Bool
  entry : Entry
structure Life where
  book : Book
  boot : Int
  log : List Entry
abbrev eM (m : Member) : List AV := [I m.node, I m.since, B m.whole]
abbrev ms (o : Option TypeId) (l : List Member) : AV := .sl o 3 (l.map eM)
abbrev eC (o : Option TypeId) (c : Config) : List AV := [I c.epoch, ms o c.members]
abbrev eK (o : Option TypeId) (b : Book) : List AV := [I b.cfg.epoch, ms o b.cfg.members, I b.since, B b.whole, I b.upto]
abbrev eE (o : Option TypeId) (e : Entry) : List AV := [I e.pos, I e.stamp, I e.client, I e.id, bs o e.body]
abbrev eR (r : Record) : List AV := [U r.kind, I r.book.cfg.epoch, ms none r.book.cfg.members, I r.book.since, B r.book.whole, I r.book.upto, B r.drop, I r.entry.pos, I r.entry.stamp, I r.entry.client, I r.entry.id, bs none r.entry.body]
abbrev es (o q : Option TypeId) (l : List Entry) : AV := .sl o 5 (l.map (eE q))
abbrev eL (oM oE oB : Option TypeId) (x : Life) : List AV := [I x.book.cfg.epoch, ms oM x.book.cfg.members, I x.book.since, B x.book.whole, I x.book.upto, I x.boot, es oE oB x.log]

def eqM (a b : Member) : Bool := a.node == b.node && a.since == b.since && a.whole == b.whole
def eqMs : List Member → List Member → Bool
  | [], [] => true
  | a :: l, b :: m => eqM a b && eqMs l m
  | _, _ => false
def eqC (a b : Config) : Bool := a.epoch == b.epoch && eqMs a.members b.members
def eqK (a b : Book) : Bool := eqC a.cfg b.cfg && a.since == b.since && a.whole == b.whole && a.upto == b.upto
def eqE (a b : Entry) : Bool := a.pos == b.pos && a.stamp == b.stamp && a.client == b.client && a.id == b.id && decide (a.body = b.body)
def eqEs : List Entry → List Entry → Bool
  | [], [] => true
  | a :: l, b :: m => eqE a b && eqEs l m
  | _, _ => false
def eqLf (a b : Life) : Bool := eqK a.book b.book && a.boot == b.boot && eqEs a.log b.log
theorem eqM_iff {a b : Member} : eqM a b = true ↔ a = b := by
  cases a; cases b; simp [eqM, and_assoc]
theorem eqMs_iff : ∀ {l m : List Member}, eqMs l m = true ↔ l = m
  | [], [] => by simp [eqMs]
  | [], _ :: _ => by simp [eqMs]
  | _ :: _, [] => by simp [eqMs]
  | a :: l, b :: m => by simp [eqMs, eqM_iff, eqMs_iff (l := l) (m := m)]
theorem eqC_iff {a b : Config} : eqC a b = true ↔ a = b := by
  cases a; cases b; simp [eqC, eqMs_iff]
theorem eqK_iff {a b : Book} : eqK a b = true ↔ a = b := by
  cases a; cases b; simp [eqK, eqC_iff, and_assoc]
theorem eqE_iff {a b : Entry} : eqE a b = true ↔ a = b := by
  cases a; cases b; simp [eqE, and_assoc]
theorem eqEs_iff : ∀ {l m : List Entry}, eqEs l m = true ↔ l = m
  | [], [] => by simp [eqEs]
  | [], _ :: _ => by simp [eqEs]
  | _ :: _, [] => by simp [eqEs]
  | a :: l, b :: m => by simp [eqEs, eqE_iff, eqEs_iff (l := l) (m := m)]
theorem eqLf_iff {a b : Life} : eqLf a b = true ↔ a = b := by
  cases a; cases b; simp [eqLf, eqK_iff, eqEs_iff, and_assoc]
/-- two rows, held against each other one by one -/
theorem eqMs_len {l m : List Member} (h : l.length ≠ m.length) : eqMs l m = false := by
  cases he : eqMs l m with
  | false => rfl
  | true => rw [eqMs_iff] at he; subst he; exact absurd rfl h
theorem eqEs_len {l m : List Entry} (h : l.length ≠ m.length) : eqEs l m = false := by
  cases he : eqEs l m with
  | false => rfl
  | true => rw [eqEs_iff] at he; subst he; exact absurd rfl h
theorem nr_M {e k : Nat} {l : List Member} : NR (.sl (some e) k (l.map eM)) := NR.leafs fun x a ha => by simp [eM] at ha; rcases ha with rfl | rfl | rfl <;> exact .sc
theorem nr_E {e k q : Nat} {l : List Entry} : NR (.sl (some e) k (l.map (eE (some q)))) := NR.leafs fun x a ha => by
  simp [eE] at ha; rcases ha with rfl | rfl | rfl | rfl | rfl <;> first | exact .sc | exact nr_B
theorem ro_M (l : List Member) : roE (l.map eM) = l.map eM := by rw [roE_map]; rfl
theorem ro_E (q : Option TypeId) (l : List Entry) : roE (l.map (eE q)) = l.map (eE none) := by
  rw [roE_map]
  refine List.map_congr_left fun x _ => ?_
  simp only [eE, roC, AV.ro, ro_B]
end Go.Proofs.Ytnjfchigdpifmaa

namespace Go.Proofs.Ytnjfchigdpifmaa
set_option linter.unusedVariables false
set_option linter.unusedSimpArgs false
set_option maxHeartbeats 8000000
open Go.RowKit
set_option maxRecDepth 100000
abbrev tI : TypeId := 3
abbrev eI (x : Int) : List AV := [I x]
theorem ro_I (l : List Int) : roE (l.map eI) = l.map eI := by rw [roE_map]; rfl
theorem wrap_u64_lt (n : Int) : (IntKind.u64.wrap n).toNat < 18446744073709551616 := by
  simp [IntKind.wrap, IntKind.bits, IntKind.signed]; omega
theorem dint_ac (n : Int) : AC Try.prog 71 [I n] [] (fun v bs' => v = bs none (intS n) ∧ bs' = []) := by
  have h := (rput_ac (IntKind.u64.wrap n).toNat 8 (by omega) (wrap_u64_lt n)).ro (r2 := bs none (intS n)) (by simp [AV.ro, ro_B, intS])
  rw [← u64_nn] at h
  refine AC.N Try.func71 Try.ntmps71 ?_
  intro X hρ hmks
  simp only [nx, Nat.reduceAdd, Nat.reduceSub, BEq.rfl]
  repeat' (first
    | ((first
    | ((with_reducible apply AP.k_any); first
             | refine AP.S ?_
      )
    | ((with_reducible apply AP.k_any); refine AP.C (h) ?_)
    )
      <;> (try simp only [nx, Nat.reduceAdd, Nat.reduceSub, BEq.rfl]))
    | ((with_reducible apply AP.k_nil); first
        | (refine AP.nil (hQ' _ ?_); clear hQ' Q')
        | refine AP.nil ?_)
    | ((with_reducible apply CP.k_reg); refine cp_regG fun Q' hQ' => ?_)
      | (with_reducible apply CP.k_reg1; refine cp_region ?_)
      | ((with_reducible apply CP.k_cond); first | refine cp_condT rfl ?_ | refine cp_condF rfl ?_ | refine cp_cond rfl (fun hc => ?_) (fun hc => ?_))
      | refine CP.go ?_
      | (simp only [List.append_eq, List.cons_append, List.nil_append]))
  (refine RetQ.B [] ?_; (try dsimp only [resV, List.getD_cons_succ, List.getD_cons_zero]); (exact ⟨rfl, rfl⟩))
theorem dbytes_ac (b : List UInt8) (hb : b.length ≤ 10000000) : AC Try.prog 72 [bs none b] [] (fun v bs' => v = bs (some tU) (putS b.length 4 ++ b) ∧ bs' = []) := by
  have hw : IntKind.u64.wrap (b.length : Int) = (b.length : Int) := by simp [IntKind.wrap, IntKind.bits, IntKind.signed]; omega
  have h := (rput_ac b.length 4 (by omega) (by omega)).ro (r2 := bs none (putS b.length 4)) (by simp [AV.ro, ro_B])
  rw [← hw] at h
  have h2 := cat_ac (putS b.length 4) b (by simp [putS_length]) (by omega)
  refine AC.N Try.func72 Try.ntmps72 ?_
  intro X hρ hmks
  simp only [nx, Nat.reduceAdd, Nat.reduceSub, BEq.rfl]
  repeat' (first
    | ((first
    | ((with_reducible apply AP.k_any); first
             | refine AP.S ?_
      )
    | ((with_reducible apply AP.k_any); refine AP.C (h) ?_)
    | ((with_reducible apply AP.k_any); refine AP.C (h2) ?_)
    )
      <;> (try simp only [nx, Nat.reduceAdd, Nat.reduceSub, BEq.rfl]))
    | ((with_reducible apply AP.k_nil); first
        | (refine AP.nil (hQ' _ ?_); clear hQ' Q')
        | refine AP.nil ?_)
    | ((with_reducible apply CP.k_reg); refine cp_regG fun Q' hQ' => ?_)
      | (with_reducible apply CP.k_reg1; refine cp_region ?_)
      | ((with_reducible apply CP.k_cond); first | refine cp_condT rfl ?_ | refine cp_condF rfl ?_ | refine cp_cond rfl (fun hc => ?_) (fun hc => ?_))
      | refine CP.go ?_
      | (simp only [List.append_eq, List.cons_append, List.nil_append]))
  (refine RetQ.B [] ?_; (try dsimp only [resV, List.getD_cons_succ, List.getD_cons_zero]); (exact ⟨rfl, rfl⟩))
def numS (l : List Int) : List UInt8 := (l.map intS).flatten
theorem intS_length (n : Int) : (intS n).length = 8 := putS_length _ _
theorem numS_length (l : List Int) : (numS l).length = 8 * l.length := by
  induction l with
  | nil => rfl
  | cons a l ih => simp only [numS, List.map_cons, List.flatten_cons, List.length_append, List.length_cons, intS_length] at ih ⊢; omega
theorem numS_snoc (l : List Int) (x : Int) : numS (l ++ [x]) = numS l ++ intS x := by simp [numS]
end Go.Proofs.Ytnjfchigdpifmaa

namespace Go.Proofs.Ytnjfchigdpifmaa
set_option linter.unusedVariables false
set_option linter.unusedSimpArgs false
set_option maxHeartbeats 8000000
open Go.RowKit
set_option maxRecDepth 100000
theorem shaS_len (b : List UInt8) : (shaS b).length = 32 := rfl
def keyS (key : List UInt8) : List UInt8 := if 64 < key.length then shaS key else key
theorem keyS_len (key : List UInt8) : (keyS key).length ≤ 64 := by
  unfold keyS
  split
  · rw [shaS_len]; omega
  · omega
/-- a key of 64 bytes -/
def fullS (k : List UInt8) : List UInt8 := k ++ List.replicate (64 - k.length) 0
theorem fullS_len {k : List UInt8} (h : k.length ≤ 64) : (fullS k).length = 64 := by simp [fullS]; omega
def xorK (k : List UInt8) (x : UInt8) : List UInt8 := (fullS k).map (· ^^^ x)
theorem xorK_len {k : List UInt8} (h : k.length ≤ 64) (x : UInt8) : (xorK k x).length = 64 := by rw [xorK, List.length_map, fullS_len h]
def hmacS (key b : List UInt8) : List UInt8 := shaS (xorK (keyS key) 0x5c ++ shaS (xorK (keyS key) 0x36 ++ b))
theorem dbytes03_ac (t : List UInt8) (ht : t.length = 32) : AC Try.prog 69 [tg t] [] (fun v bs' => v = bs (some tU) t ∧ bs' = []) := by
  have hT : (tagC t).length = 32 := rfl
  have hTt : ∀ i, i < 32 → (tagC t)[i]? = some (U (t.getD i 0)) := by
    intro i hi
    have := mixT_32 t
    rw [← this]
    simp [mixT, hi]
  refine AC.N Try.func69 Try.ntmps69 ?_
  intro X hρ hmks
  simp only [nx, Nat.reduceAdd, Nat.reduceSub, BEq.rfl]
  repeat' (first
    | ((first
    | ((with_reducible apply AP.k_any); first
            | refine AP.S ?_
            | refine AP.E ?_
            | refine AP.A ?_ | refine AP.AB 0 ?_ | refine AP.AB 1 ?_ | refine AP.AL ?_
            | refine AP.LB ?_ | refine AP.TB ?_ | refine AP.IX ?_ | refine AP.SF ?_ | refine AP.SV ?_ | refine AP.CV ?_ | refine AP.CO ?_ | refine AP.FV ?_  | refine AP.PF ?_)
    ) <;> (try simp only [ nx, q4, rn, fq, Nat.mul_one, Bool.and_true, Bool.and_false, Nat.reduceBEq, Nat.reduceAdd, Nat.reduceSub, BEq.rfl]))
    | ((with_reducible apply AP.k_nil); first | (refine AP.nil (hQ' _ ?_); clear hQ' Q') | refine AP.nil ?_)
    | ((with_reducible apply CP.k_reg); refine cp_regG fun Q' hQ' => ?_)
      | (with_reducible apply CP.k_reg1; refine cp_region ?_)
      | ((with_reducible apply CP.k_cond); first | refine cp_condT rfl ?_ | refine cp_condF rfl ?_ | refine cp_cond rfl (fun hc => ?_) (fun hc => ?_))
      | refine CP.go ?_
      | (simp only [List.append_eq, List.cons_append, List.nil_append]))
  refine CP.gh (gh_nil (t := 3) (e := tU) (k := 1) rfl) ?_
  simp only [nx, Nat.reduceAdd, Nat.reduceSub, BEq.rfl]
  refine CP.gh gh_slot ?_
  simp only [nx, Nat.reduceAdd, Nat.reduceSub, BEq.rfl]
  refine cp_loopS [3, 4, 5, 6, 7, 8, 9, 10, 11, 12, 13, 14] (fun a : Nat × Nat × Nat => 32 - a.1) (fun a => a.1 ≤ 32) (fun a => [(4, I a.1), (3, .hd 1 a.2.1)]) (fun a => [(1, ⟨a.2.1, .r tU 1 ((t.take a.1).map eB)⟩), (2, ⟨a.2.2, .x⟩)]) (0, 1, 0) (Nat.zero_le _) (by exact Gh.W) ?_
  rintro ⟨i, u, v⟩ hi
  simp only [setT, deT, setB, List.set_cons_succ, List.set_cons_zero]
  dsimp only at hi
  by_cases hlt : i < 32
  · have hw : IntKind.i64.wrap ((i : Int) + 1) = ((i + 1 : Nat) : Int) := wrap_i64 (by omega) (by omega)
    have d32 : decide ((i : Int) < 32) = true := by simp; omega
    have hx := hTt i hlt
    have hsn : (t.take i).map eB ++ [[U (t.getD i 0)]] = (t.take (i + 1)).map eB := by
      rw [List.take_succ_eq_append_getElem (by omega), List.map_append, List.getD_eq_getElem?_getD, List.getElem?_eq_getElem (by omega)]; rfl
    have hlen : ((t.take i).map eB).length + 1 ≤ 1000000000 := by simp; omega
    generalize t.getD i 0 = c at *
    generalize (t.take i).map eB = W at *
    repeat' (first
      | ((first
      | ((with_reducible apply AP.k_any); first
              | refine AP.S ?_
              | refine AP.E ?_
              | refine AP.A ?_ | refine AP.AB 0 ?_ | refine AP.AB 1 ?_ | refine AP.AL ?_
              | refine AP.LB ?_ | refine AP.TB ?_ | refine AP.IX ?_ | refine AP.SF ?_ | refine AP.SV ?_ | refine AP.CV ?_ | refine AP.CO ?_ | refine AP.FV ?_  | refine AP.PF ?_)
      ) <;> (try simp only [d32, Int.toNat_natCast, nx, q4, rn, fq, Nat.mul_one, Bool.and_true, Bool.and_false, Nat.reduceBEq, Nat.reduceAdd, Nat.reduceSub, BEq.rfl]))
      | ((with_reducible apply AP.k_nil); first | (refine AP.nil (hQ' _ ?_); clear hQ' Q') | refine AP.nil ?_)
      | ((with_reducible apply CP.k_reg); refine cp_regG fun Q' hQ' => ?_)
        | (with_reducible apply CP.k_reg1; refine cp_region ?_)
        | ((with_reducible apply CP.k_cond); first | refine cp_condT rfl ?_ | refine cp_condF rfl ?_ | refine cp_cond rfl (fun hc => ?_) (fun hc => ?_))
        | refine CP.go ?_
        | (simp only [List.append_eq, List.cons_append, List.nil_append]))
    simp only [hw]
    refine ⟨(i + 1, u + 1, v + 1), by (dsimp only; omega), by (dsimp only; omega), ?_⟩
    dsimp only
    rw [← hsn]
    exact Gh.W
  · obtain rfl : i = 32 := by omega
    have d32 : decide (((32 : Nat) : Int) < 32) = false := by simp
    rw [List.take_of_length_le (by omega)]
    repeat' (first
      | ((first
      | ((with_reducible apply AP.k_any); first
              | refine AP.S ?_
              | refine AP.E ?_
              | refine AP.A ?_ | refine AP.AB 0 ?_ | refine AP.AB 1 ?_ | refine AP.AL ?_
              | refine AP.LB ?_ | refine AP.TB ?_ | refine AP.IX ?_ | refine AP.SF ?_ | refine AP.SV ?_ | refine AP.CV ?_ | refine AP.CO ?_ | refine AP.FV ?_  | refine AP.PF ?_)
      ) <;> (try simp only [d32, nx, q4, rn, fq, Nat.mul_one, Bool.and_true, Bool.and_false, Nat.reduceBEq, Nat.reduceAdd, Nat.reduceSub, BEq.rfl]))
      | ((with_reducible apply AP.k_nil); first | (refine AP.nil (hQ' _ ?_); clear hQ' Q') | refine AP.nil ?_)
      | ((with_reducible apply CP.k_reg); refine cp_regG fun Q' hQ' => ?_)
        | (with_reducible apply CP.k_reg1; refine cp_region ?_)
        | ((with_reducible apply CP.k_cond); first | refine cp_condT rfl ?_ | refine cp_condF rfl ?_ | refine cp_cond rfl (fun hc => ?_) (fun hc => ?_))
        | refine CP.go ?_
        | (simp only [List.append_eq, List.cons_append, List.nil_append]))
    (refine RetQ.B [] ?_; (try dsimp only [resV, List.getD_cons_succ, List.getD_cons_zero]); (exact ⟨rfl, rfl⟩))
theorem xor8v (x y : UInt8) : IntKind.u8.wrap (((BitVec.ofInt IntKind.u8.bits (x.toNat : Int)) ^^^ (BitVec.ofInt IntKind.u8.bits (y.toNat : Int))).toNat : Int) = ((x ^^^ y).toNat : Int) := xor8 x y
theorem xor8z (y : UInt8) : IntKind.u8.wrap (((BitVec.ofInt IntKind.u8.bits 0) ^^^ (BitVec.ofInt IntKind.u8.bits (y.toNat : Int))).toNat : Int) = (((0 : UInt8) ^^^ y).toNat : Int) := xor8 0 y
theorem dblock_ac1 (K : List UInt8) (x : UInt8) (hK : K.length ≤ 64) : AC Try.prog 74 [bs none K, U x] [] (fun v bs' => v = bs (some tU) (xorK K x) ∧ bs' = []) := by
  have d0 : decide ((64 : Int) < (K.length : Int)) = false := by simp; omega
  refine AC.N Try.func74 Try.ntmps74 ?_
  intro X hρ hmks
  simp only [nx, Nat.reduceAdd, Nat.reduceSub, BEq.rfl]
  repeat' (first
    | ((first
    | ((with_reducible apply AP.k_any); first
            | refine AP.S ?_
            | refine AP.E ?_
            | refine AP.A ?_ | refine AP.AB 0 ?_ | refine AP.AB 1 ?_ | refine AP.AL ?_
            | refine AP.LB ?_ | refine AP.TB ?_ | refine AP.IX ?_ | refine AP.SF ?_ | refine AP.SV ?_ | refine AP.CV ?_ | refine AP.CO ?_ | refine AP.FV ?_  | refine AP.PF ?_)
    ) <;> (try simp only [d0, nx, q4, rn, fq, Nat.mul_one, Bool.and_true, Bool.and_false, Nat.reduceBEq, Nat.reduceAdd, Nat.reduceSub, BEq.rfl]))
    | ((with_reducible apply AP.k_nil); first | (refine AP.nil (hQ' _ ?_); clear hQ' Q') | refine AP.nil ?_)
    | ((with_reducible apply CP.k_reg); refine cp_regG fun Q' hQ' => ?_)
      | (with_reducible apply CP.k_reg1; refine cp_region ?_)
      | ((with_reducible apply CP.k_cond); first | refine cp_condT rfl ?_ | refine cp_condF rfl ?_ | refine cp_cond rfl (fun hc => ?_) (fun hc => ?_))
      | refine CP.go ?_
      | (simp only [List.append_eq, List.cons_append, List.nil_append]))
  refine CP.gh (gh_nil (t := 5) (e := tU) (k := 1) rfl) ?_
  simp only [nx, Nat.reduceAdd, Nat.reduceSub, BEq.rfl]
  refine CP.gh gh_slot ?_
  simp only [nx, Nat.reduceAdd, Nat.reduceSub, BEq.rfl]
  refine cp_loopS [5, 6, 7, 14, 15, 16, 17, 18, 19, 20, 21, 22, 23, 24, 25, 26, 27, 28, 29, 30, 31] (fun a : Nat × Nat × Nat => 64 - a.1) (fun a => a.1 ≤ 64) (fun a => [(6, I a.1), (5, .hd 0 a.2.1)]) (fun a => [(0, ⟨a.2.1, .r tU 1 (((xorK K x).take a.1).map eB)⟩), (1, ⟨a.2.2, .x⟩)]) (0, 1, 0) (Nat.zero_le _) (by exact Gh.W) ?_
  rintro ⟨i, u, v⟩ hi
  simp only [setT, deT, setB, List.set_cons_succ, List.set_cons_zero]
  dsimp only at hi
  by_cases hlt : i < 64
  · have hw : IntKind.i64.wrap ((i : Int) + 1) = ((i + 1 : Nat) : Int) := wrap_i64 (by omega) (by omega)
    have d64 : decide ((i : Int) < 64) = true := by simp; omega
    have hfl := fullS_len hK
    have hsn : ((xorK K x).take i).map eB ++ [[U ((fullS K)[i] ^^^ x)]] = ((xorK K x).take (i + 1)).map eB := by
      rw [List.take_succ_eq_append_getElem (by rw [xorK_len hK]; omega), List.map_append]; simp [xorK]
    have hlen : (((xorK K x).take i).map eB).length + 1 ≤ 1000000000 := by simp; omega
    by_cases hki : i < K.length
    · have dk : decide ((i : Int) < (K.length : Int)) = true := by simp; omega
      have hx : (K.map eB)[i]? = some (eB (fullS K)[i]) := by
        simp [fullS, hki, List.getElem_append_left]
      generalize (fullS K)[i] = c at *
      have hx8 := xor8 c x
      generalize ((xorK K x).take i).map eB = W at *
      repeat' (first
        | ((first
        | ((with_reducible apply AP.k_any); first
                | refine AP.S ?_
                | refine AP.E ?_
                | refine AP.A ?_ | refine AP.AB 0 ?_ | refine AP.AB 1 ?_ | refine AP.AL ?_
                | refine AP.LB ?_ | refine AP.TB ?_ | refine AP.IX ?_ | refine AP.SF ?_ | refine AP.SV ?_ | refine AP.CV ?_ | refine AP.CO ?_ | refine AP.FV ?_  | refine AP.PF ?_)
        ) <;> (try simp only [d64, dk, xor8v, nx, q4, rn, fq, Nat.mul_one, Bool.and_true, Bool.and_false, Nat.reduceBEq, Nat.reduceAdd, Nat.reduceSub, BEq.rfl]))
        | ((with_reducible apply AP.k_nil); first | (refine AP.nil (hQ' _ ?_); clear hQ' Q') | refine AP.nil ?_)
        | ((with_reducible apply CP.k_reg); refine cp_regG fun Q' hQ' => ?_)
          | (with_reducible apply CP.k_reg1; refine cp_region ?_)
          | ((with_reducible apply CP.k_cond); first | refine cp_condT rfl ?_ | refine cp_condF rfl ?_ | refine cp_cond rfl (fun hc => ?_) (fun hc => ?_))
          | refine CP.go ?_
          | (simp only [List.append_eq, List.cons_append, List.nil_append]))
      simp only [hw]
      refine ⟨(i + 1, u + 1, v + 1), by (dsimp only; omega), by (dsimp only; omega), ?_⟩
      dsimp only
      rw [← hsn]
      exact Gh.W
    · have dk : decide ((i : Int) < (K.length : Int)) = false := by simp; omega
      have hx : (fullS K)[i] = 0 := by
        simp [fullS, List.getElem_append_right (show K.length ≤ i by omega)]
      rw [hx] at hsn
      have hx8 := xor8 0 x
      generalize ((xorK K x).take i).map eB = W at *
      repeat' (first
        | ((first
        | ((with_reducible apply AP.k_any); first
                | refine AP.S ?_
                | refine AP.E ?_
                | refine AP.A ?_ | refine AP.AB 0 ?_ | refine AP.AB 1 ?_ | refine AP.AL ?_
                | refine AP.LB ?_ | refine AP.TB ?_ | refine AP.IX ?_ | refine AP.SF ?_ | refine AP.SV ?_ | refine AP.CV ?_ | refine AP.CO ?_ | refine AP.FV ?_  | refine AP.PF ?_)
        ) <;> (try simp only [d64, dk, xor8z, nx, q4, rn, fq, Nat.mul_one, Bool.and_true, Bool.and_false, Nat.reduceBEq, Nat.reduceAdd, Nat.reduceSub, BEq.rfl]))
        | ((with_reducible apply AP.k_nil); first | (refine AP.nil (hQ' _ ?_); clear hQ' Q') | refine AP.nil ?_)
        | ((with_reducible apply CP.k_reg); refine cp_regG fun Q' hQ' => ?_)
          | (with_reducible apply CP.k_reg1; refine cp_region ?_)
          | ((with_reducible apply CP.k_cond); first | refine cp_condT rfl ?_ | refine cp_condF rfl ?_ | refine cp_cond rfl (fun hc => ?_) (fun hc => ?_))
          | refine CP.go ?_
          | (simp only [List.append_eq, List.cons_append, List.nil_append]))
      simp only [hw]
      refine ⟨(i + 1, u + 1, v + 1), by (dsimp only; omega), by (dsimp only; omega), ?_⟩
      dsimp only
      rw [← hsn]
      exact Gh.W
  · obtain rfl : i = 64 := by omega
    have d64 : decide (((64 : Nat) : Int) < 64) = false := by simp
    rw [List.take_of_length_le (by rw [xorK_len hK]; omega)]
    repeat' (first
      | ((first
      | ((with_reducible apply AP.k_any); first
              | refine AP.S ?_
              | refine AP.E ?_
              | refine AP.A ?_ | refine AP.AB 0 ?_ | refine AP.AB 1 ?_ | refine AP.AL ?_
              | refine AP.LB ?_ | refine AP.TB ?_ | refine AP.IX ?_ | refine AP.SF ?_ | refine AP.SV ?_ | refine AP.CV ?_ | refine AP.CO ?_ | refine AP.FV ?_  | refine AP.PF ?_)
      ) <;> (try simp only [d64, nx, q4, rn, fq, Nat.mul_one, Bool.and_true, Bool.and_false, Nat.reduceBEq, Nat.reduceAdd, Nat.reduceSub, BEq.rfl]))
      | ((with_reducible apply AP.k_nil); first | (refine AP.nil (hQ' _ ?_); clear hQ' Q') | refine AP.nil ?_)
      | ((with_reducible apply CP.k_reg); refine cp_regG fun Q' hQ' => ?_)
        | (with_reducible apply CP.k_reg1; refine cp_region ?_)
        | ((with_reducible apply CP.k_cond); first | refine cp_condT rfl ?_ | refine cp_condF rfl ?_ | refine cp_cond rfl (fun hc => ?_) (fun hc => ?_))
        | refine CP.go ?_
        | (simp only [List.append_eq, List.cons_append, List.nil_append]))
    (refine RetQ.B [] ?_; (try dsimp only [resV, List.getD_cons_succ, List.getD_cons_zero]); (exact ⟨rfl, rfl⟩))
theorem dblock_ac2 (key : List UInt8) (x : UInt8) (hk : key.length ≤ 1000000) (h64 : 64 < key.length) : AC Try.prog 74 [bs none key, U x] [] (fun v bs' => v = bs (some tU) (xorK (shaS key) x) ∧ bs' = []) := by
  have d0 : decide ((64 : Int) < (key.length : Int)) = true := by simp; omega
  have h1 := dsha_ac key hk
  have h2 := (dbytes03_ac (shaS key) (shaS_len key)).ro (r2 := bs none (shaS key)) (by simp only [AV.ro, ro_B])
  have hK : (shaS key).length ≤ 64 := by rw [shaS_len]; omega
  generalize shaS key = K at *
  refine AC.N Try.func74 Try.ntmps74 ?_
  intro X hρ hmks
  simp only [nx, Nat.reduceAdd, Nat.reduceSub, BEq.rfl]
  repeat' (first
    | ((first
    | ((with_reducible apply AP.k_any); first
            | refine AP.S ?_
            | refine AP.E ?_
            | refine AP.A ?_ | refine AP.AB 0 ?_ | refine AP.AB 1 ?_ | refine AP.AL ?_
            | refine AP.LB ?_ | refine AP.TB ?_ | refine AP.IX ?_ | refine AP.SF ?_ | refine AP.SV ?_ | refine AP.CV ?_ | refine AP.CO ?_ | refine AP.FV ?_  | refine AP.PF ?_)
    ) <;> (try simp only [d0, nx, q4, rn, fq, Nat.mul_one, Bool.and_true, Bool.and_false, Nat.reduceBEq, Nat.reduceAdd, Nat.reduceSub, BEq.rfl]))
    | ((with_reducible apply AP.k_nil); first | (refine AP.nil (hQ' _ ?_); clear hQ' Q') | refine AP.nil ?_)
    | ((with_reducible apply CP.k_reg); refine cp_regG fun Q' hQ' => ?_)
      | (with_reducible apply CP.k_reg1; refine cp_region ?_)
      | ((with_reducible apply CP.k_cond); first | refine cp_condT rfl ?_ | refine cp_condF rfl ?_ | refine cp_cond rfl (fun hc => ?_) (fun hc => ?_))
      | refine CP.go ?_
      | (simp only [List.append_eq, List.cons_append, List.nil_append]))
  refine CP.gh (gh_nil (t := 5) (e := tU) (k := 1) rfl) ?_
  simp only [nx, Nat.reduceAdd, Nat.reduceSub, BEq.rfl]
  refine CP.gh gh_slot ?_
  simp only [nx, Nat.reduceAdd, Nat.reduceSub, BEq.rfl]
  refine cp_loopS [5, 6, 7, 14, 15, 16, 17, 18, 19, 20, 21, 22, 23, 24, 25, 26, 27, 28, 29, 30, 31] (fun a : Nat × Nat × Nat => 64 - a.1) (fun a => a.1 ≤ 64) (fun a => [(6, I a.1), (5, .hd 0 a.2.1)]) (fun a => [(0, ⟨a.2.1, .r tU 1 (((xorK K x).take a.1).map eB)⟩), (1, ⟨a.2.2, .x⟩)]) (0, 1, 0) (Nat.zero_le _) (by exact Gh.W) ?_
  rintro ⟨i, u, v⟩ hi
  simp only [setT, deT, setB, List.set_cons_succ, List.set_cons_zero]
  dsimp only at hi
  by_cases hlt : i < 64
  · have hw : IntKind.i64.wrap ((i : Int) + 1) = ((i + 1 : Nat) : Int) := wrap_i64 (by omega) (by omega)
    have d64 : decide ((i : Int) < 64) = true := by simp; omega
    have hfl := fullS_len hK
    have hsn : ((xorK K x).take i).map eB ++ [[U ((fullS K)[i] ^^^ x)]] = ((xorK K x).take (i + 1)).map eB := by
      rw [List.take_succ_eq_append_getElem (by rw [xorK_len hK]; omega), List.map_append]; simp [xorK]
    have hlen : (((xorK K x).take i).map eB).length + 1 ≤ 1000000000 := by simp; omega
    by_cases hki : i < K.length
    · have dk : decide ((i : Int) < (K.length : Int)) = true := by simp; omega
      have hx : (K.map eB)[i]? = some (eB (fullS K)[i]) := by
        simp [fullS, hki, List.getElem_append_left]
      generalize (fullS K)[i] = c at *
      have hx8 := xor8 c x
      generalize ((xorK K x).take i).map eB = W at *
      repeat' (first
        | ((first
        | ((with_reducible apply AP.k_any); first
                | refine AP.S ?_
                | refine AP.E ?_
                | refine AP.A ?_ | refine AP.AB 0 ?_ | refine AP.AB 1 ?_ | refine AP.AL ?_
                | refine AP.LB ?_ | refine AP.TB ?_ | refine AP.IX ?_ | refine AP.SF ?_ | refine AP.SV ?_ | refine AP.CV ?_ | refine AP.CO ?_ | refine AP.FV ?_  | refine AP.PF ?_)
        ) <;> (try simp only [d64, dk, xor8v, nx, q4, rn, fq, Nat.mul_one, Bool.and_true, Bool.and_false, Nat.reduceBEq, Nat.reduceAdd, Nat.reduceSub, BEq.rfl]))
        | ((with_reducible apply AP.k_nil); first | (refine AP.nil (hQ' _ ?_); clear hQ' Q') | refine AP.nil ?_)
        | ((with_reducible apply CP.k_reg); refine cp_regG fun Q' hQ' => ?_)
          | (with_reducible apply CP.k_reg1; refine cp_region ?_)
          | ((with_reducible apply CP.k_cond); first | refine cp_condT rfl ?_ | refine cp_condF rfl ?_ | refine cp_cond rfl (fun hc => ?_) (fun hc => ?_))
          | refine CP.go ?_
          | (simp only [List.append_eq, List.cons_append, List.nil_append]))
      simp only [hw]
      refine ⟨(i + 1, u + 1, v + 1), by (dsimp only; omega), by (dsimp only; omega), ?_⟩
      dsimp only
      rw [← hsn]
      exact Gh.W
    · have dk : decide ((i : Int) < (K.length : Int)) = false := by simp; omega
      have hx : (fullS K)[i] = 0 := by
        simp [fullS, List.getElem_append_right (show K.length ≤ i by omega)]
      rw [hx] at hsn
      have hx8 := xor8 0 x
      generalize ((xorK K x).take i).map eB = W at *
      repeat' (first
        | ((first
        | ((with_reducible apply AP.k_any); first
                | refine AP.S ?_
                | refine AP.E ?_
                | refine AP.A ?_ | refine AP.AB 0 ?_ | refine AP.AB 1 ?_ | refine AP.AL ?_
                | refine AP.LB ?_ | refine AP.TB ?_ | refine AP.IX ?_ | refine AP.SF ?_ | refine AP.SV ?_ | refine AP.CV ?_ | refine AP.CO ?_ | refine AP.FV ?_  | refine AP.PF ?_)
        ) <;> (try simp only [d64, dk, xor8z, nx, q4, rn, fq, Nat.mul_one, Bool.and_true, Bool.and_false, Nat.reduceBEq, Nat.reduceAdd, Nat.reduceSub, BEq.rfl]))
        | ((with_reducible apply AP.k_nil); first | (refine AP.nil (hQ' _ ?_); clear hQ' Q') | refine AP.nil ?_)
        | ((with_reducible apply CP.k_reg); refine cp_regG fun Q' hQ' => ?_)
          | (with_reducible apply CP.k_reg1; refine cp_region ?_)
          | ((with_reducible apply CP.k_cond); first | refine cp_condT rfl ?_ | refine cp_condF rfl ?_ | refine cp_cond rfl (fun hc => ?_) (fun hc => ?_))
          | refine CP.go ?_
          | (simp only [List.append_eq, List.cons_append, List.nil_append]))
      simp only [hw]
      refine ⟨(i + 1, u + 1, v + 1), by (dsimp only; omega), by (dsimp only; omega), ?_⟩
      dsimp only
      rw [← hsn]
      exact Gh.W
  · obtain rfl : i = 64 := by omega
    have d64 : decide (((64 : Nat) : Int) < 64) = false := by simp
    rw [List.take_of_length_le (by rw [xorK_len hK]; omega)]
    repeat' (first
      | ((first
      | ((with_reducible apply AP.k_any); first
              | refine AP.S ?_
              | refine AP.E ?_
              | refine AP.A ?_ | refine AP.AB 0 ?_ | refine AP.AB 1 ?_ | refine AP.AL ?_
              | refine AP.LB ?_ | refine AP.TB ?_ | refine AP.IX ?_ | refine AP.SF ?_ | refine AP.SV ?_ | refine AP.CV ?_ | refine AP.CO ?_ | refine AP.FV ?_  | refine AP.PF ?_)
      ) <;> (try simp only [d64, nx, q4, rn, fq, Nat.mul_one, Bool.and_true, Bool.and_false, Nat.reduceBEq, Nat.reduceAdd, Nat.reduceSub, BEq.rfl]))
      | ((with_reducible apply AP.k_nil); first | (refine AP.nil (hQ' _ ?_); clear hQ' Q') | refine AP.nil ?_)
      | ((with_reducible apply CP.k_reg); refine cp_regG fun Q' hQ' => ?_)
        | (with_reducible apply CP.k_reg1; refine cp_region ?_)
        | ((with_reducible apply CP.k_cond); first | refine cp_condT rfl ?_ | refine cp_condF rfl ?_ | refine cp_cond rfl (fun hc => ?_) (fun hc => ?_))
        | refine CP.go ?_
        | (simp only [List.append_eq, List.cons_append, List.nil_append]))
    (refine RetQ.B [] ?_; (try dsimp only [resV, List.getD_cons_succ, List.getD_cons_zero]); (exact ⟨rfl, rfl⟩))
theorem dblock_ac (key : List UInt8) (x : UInt8) (hk : key.length ≤ 1000000) : AC Try.prog 74 [bs none key, U x] [] (fun v bs' => v = bs none (xorK (keyS key) x) ∧ bs' = []) := by
  unfold keyS
  split
  · exact (dblock_ac2 key x hk (by assumption)).ro (by simp only [AV.ro, ro_B])
  · exact (dblock_ac1 key x (by omega)).ro (by simp only [AV.ro, ro_B])
end Go.Proofs.Ytnjfchigdpifmaa

namespace Go.Proofs.Ytnjfchigdpifmaa
set_option linter.unusedVariables false
set_option linter.unusedSimpArgs false
set_option maxHeartbeats 8000000
open Go.RowKit
set_option maxRecDepth 100000
theorem dhmac_ac (key b : List UInt8) (hk : key.length ≤ 1000000) (hb : b.length ≤ 900000) : AC Try.prog 43 [bs none key, bs none b] [] (fun v bs' => v = tg (hmacS key b) ∧ bs' = []) := by
  have hkl := keyS_len key
  have hl1 := xorK_len hkl 0x36
  have hl2 := xorK_len hkl 0x5c
  have h1 := dblock_ac key 0x36 hk
  have h2 := dblock_ac key 0x5c hk
  unfold hmacS
  generalize xorK (keyS key) 0x36 = k1 at *
  generalize xorK (keyS key) 0x5c = k2 at *
  have h3 := (cat_ac k1 b (by omega) (by omega)).ro (r2 := bs none (k1 ++ b)) (by simp only [AV.ro, ro_B])
  have h4 := dsha_ac (k1 ++ b) (by simp; omega)
  have hs := shaS_len (k1 ++ b)
  have h5 := (dbytes03_ac (shaS (k1 ++ b)) hs).ro (r2 := bs none (shaS (k1 ++ b))) (by simp only [AV.ro, ro_B])
  generalize shaS (k1 ++ b) = t at *
  have h6 := (cat_ac k2 t (by omega) (by omega)).ro (r2 := bs none (k2 ++ t)) (by simp only [AV.ro, ro_B])
  have h7 := dsha_ac (k2 ++ t) (by simp; omega)
  generalize shaS (k2 ++ t) = t2 at *
  refine AC.N Try.func43 Try.ntmps43 ?_
  intro X hρ hmks
  simp only [nx, Nat.reduceAdd, Nat.reduceSub, BEq.rfl]
  repeat' (first
    | ((first
    | ((with_reducible apply AP.k_any); first
            | refine AP.S ?_
            | refine AP.A ?_ | refine AP.AB 0 ?_ | refine AP.AB 1 ?_ | refine AP.AL ?_
            | refine AP.LB ?_ | refine AP.TB ?_ | refine AP.IX ?_ | refine AP.SF ?_ | refine AP.SV ?_ | refine AP.CV ?_ | refine AP.CO ?_ | refine AP.FV ?_ | ((with_reducible apply AP.k_any); refine AP.C (h1) ?_) | ((with_reducible apply AP.k_any); refine AP.C (h2) ?_) | ((with_reducible apply AP.k_any); refine AP.C (h3) ?_) | ((with_reducible apply AP.k_any); refine AP.C (h4) ?_) | ((with_reducible apply AP.k_any); refine AP.C (h5) ?_) | ((with_reducible apply AP.k_any); refine AP.C (h6) ?_) | ((with_reducible apply AP.k_any); refine AP.C (h7) ?_) | refine AP.PF ?_)
      | ((with_reducible apply DW.k_any); first
        | refine DW.R ?_ | refine DW.R' ?_ | refine DW.W ?_ | refine DW.W' ?_ | refine DW.RA ?_ | refine DW.A 0 ?_ | refine DW.A 1 ?_ | refine DW.A 2 ?_ | refine DW.A' 0 ?_ | refine DW.A' 2 ?_ | ((fail_if_success refine DW.known rfl ?_); refine DW.G (fun hg => ?_) (fun hg => ?_))
        | refine DW.RX ?_ | refine DW.WX ?_ | refine DW.WX' ?_)
    | ((with_reducible apply DW.k_any); first
                | refine DW.R ?_ | refine DW.R' ?_ | refine DW.W ?_ | refine DW.W' ?_
                | (refine DW.known rfl ?_; (with_reducible first | apply DW.sx 2 | apply DW.sxN 2); (iterate 2 (focus (simp only [ft, nm, Nat.reduceAdd, Nat.reduceBEq, List.getElem?_cons_zero, List.getElem?_cons_succ]; exact rfl))); (focus (intro X V; simp only [ft, nm, Nat.reduceAdd, Nat.reduceBEq]; (try (refine AP.Y ?_; dsimp only)); (first | ((with_reducible apply AP.k_any); refine AP.C (h1) ?_) | ((with_reducible apply AP.k_any); refine AP.C (h2) ?_) | ((with_reducible apply AP.k_any); refine AP.C (h3) ?_) | ((with_reducible apply AP.k_any); refine AP.C (h4) ?_) | ((with_reducible apply AP.k_any); refine AP.C (h5) ?_) | ((with_reducible apply AP.k_any); refine AP.C (h6) ?_) | ((with_reducible apply AP.k_any); refine AP.C (h7) ?_) | fail); (try simp only [nx, Nat.reduceAdd, Nat.reduceSub, BEq.rfl]); refine AP.nil ?_; (first | refine ⟨trivial, rfl, ?_⟩ | refine ⟨rfl, rfl, ?_⟩); (repeat' (first | exact Mg.nil | apply Mg.keep rfl | apply Mg.take rfl)); done)); (focus (refine Exists.intro (fun _ => 0) ?_; apply Exists.intro; (repeat' (first | exact Mg.nil | apply Mg.keep rfl | apply Mg.take rfl)); done)); (iterate 2 (focus (exact rfl))))
                | ((fail_if_success refine DW.known rfl ?_); refine DW.G (fun hg => ?_) (fun hg => ?_))
    )
    ) <;> (try simp only [ nx, q4, rn, fq, Nat.mul_one, Bool.and_true, Bool.and_false, Nat.reduceBEq, Nat.reduceAdd, Nat.reduceSub, BEq.rfl]))
    | ((with_reducible apply AP.k_nil); first | (refine AP.nil (hQ' _ ?_); clear hQ' Q') | refine AP.nil ?_)
    | ((with_reducible apply CP.k_drw); refine cp_drwX fun Q' hQ' => ?_)
    | ((with_reducible apply CP.k_drw1); refine cp_drawX ?_)
    | ((with_reducible apply DW.k_nil); refine DW.nl ?_; first | (refine hQ' _ ?_; clear hQ' Q') | skip)
    | ((with_reducible apply CP.k_reg); refine cp_regG fun Q' hQ' => ?_)
      | (with_reducible apply CP.k_reg1; refine cp_region ?_)
      | ((with_reducible apply CP.k_cond); first | refine cp_condT rfl ?_ | refine cp_condF rfl ?_ | refine cp_cond rfl (fun hc => ?_) (fun hc => ?_))
      | refine CP.go ?_
      | (simp only [List.append_eq, List.cons_append, List.nil_append]))
  (exact RetQ.A [] (by exact ⟨rfl, rfl⟩))
end Go.Proofs.Ytnjfchigdpifmaa

namespace Go.Proofs.Ytnjfchigdpifmaa
set_option linter.unusedVariables false
set_option linter.unusedSimpArgs false
set_option maxHeartbeats 8000000
open Go.RowKit
set_option maxRecDepth 100000
theorem tagC_map {t : List UInt8} (h : t.length = 32) : (tagC t).map (fun a => [a]) = t.map eB := by
  have : (tagC t) = (List.range 32).map fun j => U (t.getD j 0) := rfl
  rw [this, List.map_map]
  apply List.ext_getElem?
  intro i
  by_cases hi : i < 32
  · simp [hi, h, List.getD_eq_getElem?_getD]
  · rw [List.getElem?_eq_none (by simp; omega), List.getElem?_eq_none (by simp; omega)]
def xst1 (k : List UInt8) (x : UInt8) (i : Nat) : List UInt8 := (k.map (· ^^^ x)).take i ++ k.drop i
theorem xst1_len (k : List UInt8) (x : UInt8) (i : Nat) : (xst1 k x i).length = k.length := by simp [xst1]; omega
theorem xst1_at {k : List UInt8} {x : UInt8} {i : Nat} (h : i < k.length) : ((xst1 k x i).map eB)[i]? = some (eB k[i]) := by
  unfold xst1
  rw [List.getElem?_map, List.getElem?_append_right (by simp; omega)]
  simp [show i - min i k.length = 0 by omega, h]
theorem xst1_set {k : List UInt8} {x : UInt8} {i : Nat} (h : i < k.length) : ((xst1 k x i).map eB).set i (eB (k[i] ^^^ x)) = (xst1 k x (i + 1)).map eB := by
  have hl : ((k.map (· ^^^ x)).take i).length = i := by simp; omega
  unfold xst1
  rw [← List.map_set, List.set_append_right _ _ (by omega), hl, Nat.sub_self, List.drop_eq_getElem_cons h, List.set_cons_zero, List.take_succ_eq_append_getElem (by simp; omega)]
  simp
theorem clos_ac (k : List UInt8) (x : UInt8) (hk : k.length ≤ 1000) : AC Try.prog 93 [U x, .bp 0 0 0] [bxB k] (fun v bs' => v = bs (some tU) (k.map (· ^^^ x)) ∧ bs' = [bxB k]) := by
  have h1 := wcat_ac [k] (by simp) (by simp; omega)
  rw [show [k].flatten = k by simp] at h1
  refine AC.N Try.func93 Try.ntmps93 ?_
  intro X hρ hmks
  simp only [nx, Nat.reduceAdd, Nat.reduceSub, BEq.rfl]
  refine CP.gh gh_slot ?_; simp only [nx, Nat.reduceAdd, Nat.reduceSub, BEq.rfl]
  refine CP.gh gh_slot ?_; simp only [nx, Nat.reduceAdd, Nat.reduceSub, BEq.rfl]
  repeat' (first
    | ((first
    | ((with_reducible apply AP.k_any); first
            | refine AP.S ?_
            | refine AP.E ?_
            | refine AP.T ?_
            | refine AP.A ?_ | refine AP.AB 0 ?_ | refine AP.AB 1 ?_ | refine AP.AL ?_
            | refine AP.LB ?_ | refine AP.TB ?_ | refine AP.IX ?_ | refine AP.SF ?_ | refine AP.SV ?_ | refine AP.CV ?_ | refine AP.CO ?_ | refine AP.FV ?_  | refine AP.PF ?_)
    ) <;> (try simp only [ nx, q4, rn, fq, Nat.mul_one, Bool.and_true, Bool.and_false, Nat.reduceBEq, Nat.reduceAdd, Nat.reduceSub, BEq.rfl]))
    | ((with_reducible apply AP.k_nil); first | (refine AP.nil (hQ' _ ?_); clear hQ' Q') | refine AP.nil ?_)
    | ((with_reducible apply CP.k_reg); refine cp_regG fun Q' hQ' => ?_)
      | (with_reducible apply CP.k_reg1; refine cp_region ?_)
      | ((with_reducible apply CP.k_cond); first | refine cp_condT rfl ?_ | refine cp_condF rfl ?_ | refine cp_cond rfl (fun hc => ?_) (fun hc => ?_))
      | refine CP.go ?_
      | (simp only [List.append_eq, List.cons_append, List.nil_append]))
  refine cp_loopS [5, 11, 12, 13, 14, 15, 16, 17, 18, 19, 20, 21] (fun i : Nat => k.length - i) (fun i => i ≤ k.length) (fun i => [(11, I i)]) (fun i => [(2, ⟨1, .r tU 1 ((xst1 k x i).map eB)⟩)]) 0 (Nat.zero_le _) (by exact Gh.W) ?_
  intro i hi
  simp only [setT, deT, setB, List.set_cons_succ, List.set_cons_zero]
  have hln := xst1_len k x i
  have hln2 : ((xst1 k x i).map eB).length = k.length := by simp [hln]
  by_cases hlt : i < k.length
  · have hw : IntKind.i64.wrap ((i : Int) + 1) = ((i + 1 : Nat) : Int) := wrap_i64 (by omega) (by omega)
    have d1 : decide ((i : Int) < (k.length : Int)) = true := by simp; omega
    have hset := xst1_set (x := x) hlt
    have hat := xst1_at (x := x) hlt
    generalize k[i] = c at *
    generalize (xst1 k x i).map eB = W at *
    repeat' (first
      | ((first
      | ((with_reducible apply AP.k_any); first
              | refine AP.S ?_
              | refine AP.E ?_
              | refine AP.T ?_
              | refine AP.A ?_ | refine AP.AB 0 ?_ | refine AP.AB 1 ?_ | refine AP.AL ?_
              | refine AP.LB ?_ | refine AP.TB ?_ | refine AP.IX ?_ | refine AP.SF ?_ | refine AP.SV ?_ | refine AP.CV ?_ | refine AP.CO ?_ | refine AP.FV ?_  | refine AP.PF ?_)
      ) <;> (try simp only [d1, xor8v, nx, q4, rn, fq, Nat.mul_one, Bool.and_true, Bool.and_false, Nat.reduceBEq, Nat.reduceAdd, Nat.reduceSub, BEq.rfl]))
      | ((with_reducible apply AP.k_nil); first | (refine AP.nil (hQ' _ ?_); clear hQ' Q') | refine AP.nil ?_)
      | ((with_reducible apply CP.k_reg); refine cp_regG fun Q' hQ' => ?_)
        | (with_reducible apply CP.k_reg1; refine cp_region ?_)
        | ((with_reducible apply CP.k_cond); first | refine cp_condT rfl ?_ | refine cp_condF rfl ?_ | refine cp_cond rfl (fun hc => ?_) (fun hc => ?_))
        | refine CP.go ?_
        | (simp only [List.append_eq, List.cons_append, List.nil_append]))
    simp only [hw]
    exact ⟨i + 1, by omega, by omega, by (rw [← hset]; exact Gh.W)⟩
  · obtain rfl : i = k.length := by omega
    have d1 : decide ((k.length : Int) < (k.length : Int)) = false := by simp
    have he : xst1 k x k.length = k.map (· ^^^ x) := by
      unfold xst1; rw [List.drop_length, List.append_nil, List.take_of_length_le (by simp)]
    rw [he]
    repeat' (first
      | ((first
      | ((with_reducible apply AP.k_any); first
              | refine AP.S ?_
              | refine AP.E ?_
              | refine AP.T ?_
              | refine AP.A ?_ | refine AP.AB 0 ?_ | refine AP.AB 1 ?_ | refine AP.AL ?_
              | refine AP.LB ?_ | refine AP.TB ?_ | refine AP.IX ?_ | refine AP.SF ?_ | refine AP.SV ?_ | refine AP.CV ?_ | refine AP.CO ?_ | refine AP.FV ?_  | refine AP.PF ?_)
      ) <;> (try simp only [d1, nx, q4, rn, fq, Nat.mul_one, Bool.and_true, Bool.and_false, Nat.reduceBEq, Nat.reduceAdd, Nat.reduceSub, BEq.rfl]))
      | ((with_reducible apply AP.k_nil); first | (refine AP.nil (hQ' _ ?_); clear hQ' Q') | refine AP.nil ?_)
      | ((with_reducible apply CP.k_reg); refine cp_regG fun Q' hQ' => ?_)
        | (with_reducible apply CP.k_reg1; refine cp_region ?_)
        | ((with_reducible apply CP.k_cond); first | refine cp_condT rfl ?_ | refine cp_condF rfl ?_ | refine cp_cond rfl (fun hc => ?_) (fun hc => ?_))
        | refine CP.go ?_
        | (simp only [List.append_eq, List.cons_append, List.nil_append]))
    (refine RetQ.B [(0, 0)] ?_; (try dsimp only [resV, List.getD_cons_succ, List.getD_cons_zero]); (exact ⟨rfl, rfl⟩))
theorem wcat2_ac (a b : List UInt8) (h : a.length + b.length ≤ 10000000) : AC Try.prog 26 [bss none [a, b]] [] (fun v bs' => v = bs none (a ++ b) ∧ bs' = []) := by
  have h1 := (wcat_ac [a, b] (by simp) (by simp; omega)).ro (r2 := bs none (a ++ b)) (by simp only [AV.ro, List.flatten_cons, List.flatten_nil, List.append_nil, ro_B])
  exact h1
theorem hblocks1_ac (K : List UInt8) (hK : K.length ≤ 64) : AC Try.prog 84 [bs none K] [] (fun v bs' => v = .fn 93 [.bp 0 0 0] ∧ bs' = [bxB (fullS K)]) := by
  have d0 : decide ((64 : Int) < (K.length : Int)) = false := by simp; omega
  have hw : IntKind.i64.wrap (64 - (K.length : Int)) = ((64 - K.length : Nat) : Int) := by rw [wrap_i64 (by omega) (by omega)]; omega
  have h1 := wcat2_ac K (List.replicate (64 - K.length) 0) (by simp; omega)
  rw [show K ++ List.replicate (64 - K.length) 0 = fullS K from rfl] at h1
  generalize fullS K = L at *
  refine AC.N Try.func84 Try.ntmps84 ?_
  intro X hρ hmks
  simp only [nx, Nat.reduceAdd, Nat.reduceSub, BEq.rfl]
  refine CP.gh gh_slot ?_; simp only [nx, Nat.reduceAdd, Nat.reduceSub, BEq.rfl]
  refine CP.gh gh_slot ?_; simp only [nx, Nat.reduceAdd, Nat.reduceSub, BEq.rfl]
  refine CP.gh gh_slot ?_; simp only [nx, Nat.reduceAdd, Nat.reduceSub, BEq.rfl]
  repeat' (first
    | ((first
    | ((with_reducible apply AP.k_any); first
            | refine AP.S ?_
            | refine AP.A ?_ | refine AP.AB 0 ?_ | refine AP.AB 1 ?_ | refine AP.AL ?_
            | refine AP.LB ?_ | refine AP.TB ?_ | refine AP.IX ?_ | refine AP.SF ?_ | refine AP.SV ?_ | refine AP.CV ?_ | refine AP.CO ?_ | refine AP.FV ?_ | refine ap_makeS rfl rfl rfl rfl rfl rfl rfl rfl rfl rfl rfl (by omega) ?_ | refine AP.PF ?_)
    ) <;> (try simp only [d0, mk0, hw, nx, q4, rn, fq, Nat.mul_one, Bool.and_true, Bool.and_false, Nat.reduceBEq, Nat.reduceAdd, Nat.reduceSub, BEq.rfl]))
    | ((with_reducible apply AP.k_nil); first | (refine AP.nil (hQ' _ ?_); clear hQ' Q') | refine AP.nil ?_)
    | ((with_reducible apply CP.k_reg); refine cp_regG fun Q' hQ' => ?_)
      | (with_reducible apply CP.k_reg1; refine cp_region ?_)
      | ((with_reducible apply CP.k_cond); first | refine cp_condT rfl ?_ | refine cp_condF rfl ?_ | refine cp_cond rfl (fun hc => ?_) (fun hc => ?_))
      | refine CP.go ?_
      | (simp only [List.append_eq, List.cons_append, List.nil_append]))
  (exact RetQ.A [(0, 3)] (by exact ⟨rfl, rfl⟩))
theorem hblocks2_ac (key : List UInt8) (hk : key.length ≤ 1000000) (h64 : 64 < key.length) : AC Try.prog 84 [bs none key] [] (fun v bs' => v = .fn 93 [.bp 0 0 0] ∧ bs' = [bxB (fullS (shaS key))]) := by
  have d0 : decide ((64 : Int) < (key.length : Int)) = true := by simp; omega
  have h0 := sha_ac key hk
  have hK := shaS_len key
  have htm := tagC_map hK
  generalize shaS key = K at *
  have hw : IntKind.i64.wrap (64 - (K.length : Int)) = ((64 - K.length : Nat) : Int) := by rw [wrap_i64 (by omega) (by omega)]; omega
  have h1 := wcat2_ac K (List.replicate (64 - K.length) 0) (by simp; omega)
  rw [show K ++ List.replicate (64 - K.length) 0 = fullS K from rfl] at h1
  generalize fullS K = L at *
  refine AC.N Try.func84 Try.ntmps84 ?_
  intro X hρ hmks
  simp only [nx, Nat.reduceAdd, Nat.reduceSub, BEq.rfl]
  refine CP.gh gh_slot ?_; simp only [nx, Nat.reduceAdd, Nat.reduceSub, BEq.rfl]
  refine CP.gh gh_slot ?_; simp only [nx, Nat.reduceAdd, Nat.reduceSub, BEq.rfl]
  refine CP.gh gh_slot ?_; simp only [nx, Nat.reduceAdd, Nat.reduceSub, BEq.rfl]
  refine CP.gh gh_slot ?_; simp only [nx, Nat.reduceAdd, Nat.reduceSub, BEq.rfl]
  repeat' (first
    | ((first
    | ((with_reducible apply AP.k_any); first
            | refine AP.S ?_
            | refine AP.A ?_ | refine AP.AB 0 ?_ | refine AP.AB 1 ?_ | refine AP.AL ?_
            | refine AP.LB ?_ | refine AP.TB ?_ | refine AP.IX ?_ | refine AP.SF ?_ | refine AP.SV ?_ | refine AP.CV ?_ | refine AP.CO ?_ | refine AP.FV ?_ | refine ap_makeS rfl rfl rfl rfl rfl rfl rfl rfl rfl rfl rfl (by omega) ?_ | refine AP.PF ?_)
    ) <;> (try simp only [d0, mk0, hw, htm, nx, q4, rn, fq, Nat.mul_one, Bool.and_true, Bool.and_false, Nat.reduceBEq, Nat.reduceAdd, Nat.reduceSub, BEq.rfl]))
    | ((with_reducible apply AP.k_nil); first | (refine AP.nil (hQ' _ ?_); clear hQ' Q') | refine AP.nil ?_)
    | ((with_reducible apply CP.k_reg); refine cp_regG fun Q' hQ' => ?_)
      | (with_reducible apply CP.k_reg1; refine cp_region ?_)
      | ((with_reducible apply CP.k_cond); first | refine cp_condT rfl ?_ | refine cp_condF rfl ?_ | refine cp_cond rfl (fun hc => ?_) (fun hc => ?_))
      | refine CP.go ?_
      | (simp only [List.append_eq, List.cons_append, List.nil_append]))
  (exact RetQ.A [(0, 4)] (by exact ⟨rfl, rfl⟩))
theorem hblocks_ac (key : List UInt8) (hk : key.length ≤ 1000000) : AC Try.prog 84 [bs none key] [] (fun v bs' => v = .fn 93 [.bp 0 0 0] ∧ bs' = [bxB (fullS (keyS key))]) := by
  unfold keyS
  split
  · exact hblocks2_ac key hk (by assumption)
  · exact hblocks1_ac key (by omega)
end Go.Proofs.Ytnjfchigdpifmaa

namespace Go.Proofs.Ytnjfchigdpifmaa
set_option linter.unusedVariables false
set_option linter.unusedSimpArgs false
set_option maxHeartbeats 8000000
open Go.RowKit
set_option maxRecDepth 100000
theorem wcatO_ac (ls : List (List UInt8)) (hl : ls.length ≤ 100000000) (hf : ls.flatten.length ≤ 100000000) :
    AC Try.prog 26 [bss (some tB) ls] [] (fun v bs' => v = bs (some tU) ls.flatten ∧ bs' = []) := by
  refine AC.N Try.func26 Try.ntmps26 ?_
  intro X hρ hmks
  simp only [nx, Nat.reduceAdd, Nat.reduceSub, BEq.rfl]
  refine CP.gh (gh_fzS (b := 0) rfl) ?_
  simp only [ro_S, nx, q4, rn, fq, Nat.mul_one, Bool.and_true, Bool.and_false, Nat.reduceBEq, Nat.reduceAdd, Nat.reduceSub, BEq.rfl]
  repeat' (first
    | ((first
    | ((with_reducible apply AP.k_any); first
             | refine AP.S ?_
             | refine AP.E ?_
      )
    
    )
      <;> (try simp only [nx, Nat.reduceAdd, Nat.reduceSub, BEq.rfl]))
    | ((with_reducible apply AP.k_nil); first
        | (refine AP.nil (hQ' _ ?_); clear hQ' Q')
        | refine AP.nil ?_)
    | ((with_reducible apply CP.k_reg); refine cp_regG fun Q' hQ' => ?_)
      | (with_reducible apply CP.k_reg1; refine cp_region ?_)
      | ((with_reducible apply CP.k_cond); first | refine cp_condT rfl ?_ | refine cp_condF rfl ?_ | refine cp_cond rfl (fun hc => ?_) (fun hc => ?_))
      | refine CP.go ?_
      | (simp only [List.append_eq, List.cons_append, List.nil_append]))
  refine CP.gh (gh_nil (t := 3) (e := tU) (k := 1) rfl) ?_
  simp only [nx, Nat.reduceAdd, Nat.reduceSub, BEq.rfl]
  refine cp_loopS [3, 5, 8, 9, 10, 11, 12, 13, 14, 15] (fun a : Nat × Nat => ls.length - a.1) (fun a => a.1 ≤ ls.length) (fun a => [(8, I a.1), (3, .hd 0 a.2)]) (fun a => [(0, ⟨a.2, .r tU 1 ((ls.take a.1).flatten.map eB)⟩)]) (0, 2) (Nat.zero_le _) (by exact Gh.W) ?_
  rintro ⟨k, u⟩ hk
  simp only [setT, deT, setB, List.set_cons_succ, List.set_cons_zero]
  dsimp only at hk
  by_cases hlt : k < ls.length
  · have hw : IntKind.i64.wrap ((k : Int) + 1) = ((k + 1 : Nat) : Int) := wrap_i64 (by omega) (by omega)
    have hlen : (ls.take k).flatten.length + ls[k].length ≤ 100000000 := by
      have h1 : (ls.take k).flatten ++ ls[k] = (ls.take (k + 1)).flatten := by rw [List.take_succ_eq_append_getElem hlt, List.flatten_append, List.flatten_cons, List.flatten_nil, List.append_nil]
      have h2 : (ls.take (k + 1)).flatten ++ (ls.drop (k + 1)).flatten = ls.flatten := by rw [← List.flatten_append, List.take_append_drop]
      have h3 := congrArg List.length h1
      have h4 := congrArg List.length h2
      simp only [List.length_append] at h3 h4
      omega
    have hlen2 : ((ls.take k).flatten.map eB).length + (ls[k].map eB).length ≤ 1000000000 := by rw [List.length_map, List.length_map]; omega
    repeat' (first
      | ((first
      | ((with_reducible apply AP.k_any); first
               | refine AP.S ?_
               | refine AP.E ?_
        )
      
      )
        <;> (try simp only [nx, Nat.reduceAdd, Nat.reduceSub, BEq.rfl]))
      | ((with_reducible apply AP.k_nil); first
          | (refine AP.nil (hQ' _ ?_); clear hQ' Q')
          | refine AP.nil ?_)
      | ((with_reducible apply CP.k_reg); refine cp_regG fun Q' hQ' => ?_)
        | (with_reducible apply CP.k_reg1; refine cp_region ?_)
        | ((with_reducible apply CP.k_cond); first | refine cp_condT rfl ?_ | refine cp_condF rfl ?_ | refine cp_cond rfl (fun hc => ?_) (fun hc => ?_))
        | refine CP.go ?_
        | (simp only [List.append_eq, List.cons_append, List.nil_append]))
    · simp only [hw]
      refine ⟨(k + 1, u + 1), by (dsimp only; omega), by (dsimp only; omega), ?_⟩
      have h1 : (ls.take (k + 1)).flatten.map eB = (ls.take k).flatten.map eB ++ ls[k].map eB := by rw [List.take_succ_eq_append_getElem hlt, List.flatten_append, List.flatten_cons, List.flatten_nil, List.append_nil, List.map_append]
      simp only [h1]
      exact Gh.W
    · exfalso; simp at *; omega
  · obtain rfl : k = ls.length := by omega
    rw [List.take_length]
    repeat' (first
      | ((first
      | ((with_reducible apply AP.k_any); first
               | refine AP.S ?_
               | refine AP.E ?_
        )
      
      )
        <;> (try simp only [nx, Nat.reduceAdd, Nat.reduceSub, BEq.rfl]))
      | ((with_reducible apply AP.k_nil); first
          | (refine AP.nil (hQ' _ ?_); clear hQ' Q')
          | refine AP.nil ?_)
      | ((with_reducible apply CP.k_reg); refine cp_regG fun Q' hQ' => ?_)
        | (with_reducible apply CP.k_reg1; refine cp_region ?_)
        | ((with_reducible apply CP.k_cond); first | refine cp_condT rfl ?_ | refine cp_condF rfl ?_ | refine cp_cond rfl (fun hc => ?_) (fun hc => ?_))
        | refine CP.go ?_
        | (simp only [List.append_eq, List.cons_append, List.nil_append]))
    all_goals first
      | (exfalso; simp at *; done)
      | (exfalso; simp at *; omega)
      | (refine RetQ.B [] ?_; (try dsimp only [resV, List.getD_cons_succ, List.getD_cons_zero]); (exact ⟨rfl, rfl⟩))
theorem wcat2O_ac (a b : List UInt8) (h : a.length + b.length ≤ 10000000) : AC Try.prog 26 [bss (some tB) [a, b]] [] (fun v bs' => v = bs none (a ++ b) ∧ bs' = []) := by
  have h1 := (wcatO_ac [a, b] (by simp) (by simp; omega)).ro (r2 := bs none (a ++ b)) (by simp only [AV.ro, List.flatten_cons, List.flatten_nil, List.append_nil, ro_B])
  exact h1
theorem hmac_ac (key b : List UInt8) (hk : key.length ≤ 1000000) (hb : b.length ≤ 900000) : AC Try.prog 67 [bs none key, bs none b] [] (fun v bs' => v = tg (hmacS key b) ∧ bs' = []) := by
  have hkl := keyS_len key
  have hfl := fullS_len hkl
  have h0 := hblocks_ac key hk
  have h1 := AC.ro (clos_ac (fullS (keyS key)) 0x36 (by omega)) (r2 := bs none (xorK (keyS key) 0x36)) (by simp only [AV.ro, ro_B]; rfl)
  have h2 := AC.ro (clos_ac (fullS (keyS key)) 0x5c (by omega)) (r2 := bs none (xorK (keyS key) 0x5c)) (by simp only [AV.ro, ro_B]; rfl)
  have hl1 := xorK_len hkl 0x36
  have hl2 := xorK_len hkl 0x5c
  unfold hmacS
  generalize xorK (keyS key) 0x36 = k1 at *
  generalize xorK (keyS key) 0x5c = k2 at *
  generalize fullS (keyS key) = L at *
  have h3 := wcat2_ac k1 b (by omega)
  have h4 := sha_ac (k1 ++ b) (by simp; omega)
  have hs := shaS_len (k1 ++ b)
  generalize shaS (k1 ++ b) = t at *
  have htm := tagC_map hs
  simp only [tagC, List.map_cons, List.map_nil] at htm
  have h6 := wcat2_ac k2 t (by omega)
  have h8 := wcat2O_ac k2 t (by omega)
  have h7 := sha_ac (k2 ++ t) (by simp; omega)
  generalize shaS (k2 ++ t) = t2 at *
  refine AC.N Try.func67 Try.ntmps67 ?_
  intro X hρ hmks
  simp only [nx, Nat.reduceAdd, Nat.reduceSub, BEq.rfl]
  refine CP.gh gh_slot ?_; simp only [nx, Nat.reduceAdd, Nat.reduceSub, BEq.rfl]
  refine CP.gh gh_slot ?_; simp only [nx, Nat.reduceAdd, Nat.reduceSub, BEq.rfl]
  refine CP.gh gh_slot ?_; simp only [nx, Nat.reduceAdd, Nat.reduceSub, BEq.rfl]
  refine CP.gh gh_slot ?_; simp only [nx, Nat.reduceAdd, Nat.reduceSub, BEq.rfl]
  repeat' (first
    | ((first
    | ((with_reducible apply AP.k_any); first
            | refine AP.S ?_
            | refine AP.A ?_ | refine AP.AB 0 ?_ | refine AP.AB 1 ?_ | refine AP.AL ?_
            | refine AP.LB ?_ | refine AP.TB ?_ | refine AP.IX ?_ | refine AP.SF ?_ | refine AP.SV ?_ | refine AP.CV ?_ | refine AP.CO ?_ | refine AP.FV ?_ | ((with_reducible apply AP.k_any); refine AP.B 1 (h0) ?_) | ((with_reducible apply AP.k_any); refine AP.B 0 (h1) ?_) | ((with_reducible apply AP.k_any); refine AP.B 0 (h2) ?_) | ((with_reducible apply AP.k_any); refine AP.C (h3) ?_) | ((with_reducible apply AP.k_any); refine AP.C (h4) ?_) | ((with_reducible apply AP.k_any); refine AP.C (h6) ?_) | ((with_reducible apply AP.k_any); refine AP.C (h7) ?_)  | ((with_reducible apply AP.k_any); refine AP.C (h8) ?_) | refine AP.PF ?_)
      | ((with_reducible apply DW.k_any); first
        | refine DW.R ?_ | refine DW.R' ?_ | refine DW.W ?_ | refine DW.W' ?_ | refine DW.RA ?_ | refine DW.A 0 ?_ | refine DW.A 1 ?_ | refine DW.A 2 ?_ | refine DW.A' 0 ?_ | refine DW.A' 2 ?_ | ((fail_if_success refine DW.known rfl ?_); refine DW.G (fun hg => ?_) (fun hg => ?_))
        | refine DW.WX ?_ | refine DW.RX ?_ | refine DW.WX' ?_)
    | ((with_reducible apply DW.k_any); first
                | refine DW.R ?_ | refine DW.R' ?_ | refine DW.W ?_ | refine DW.W' ?_
                | (refine DW.known rfl ?_; (with_reducible first | apply DW.sx 2 | apply DW.sxN 2); (iterate 2 (focus (simp only [ft, nm, Nat.reduceAdd, Nat.reduceBEq, List.getElem?_cons_zero, List.getElem?_cons_succ]; exact rfl))); (focus (intro X V; simp only [ft, nm, Nat.reduceAdd, Nat.reduceBEq]; (try (refine AP.Y ?_; dsimp only)); (first | ((with_reducible apply AP.k_any); refine AP.B 1 (h0) ?_) | ((with_reducible apply AP.k_any); refine AP.B 0 (h1) ?_) | ((with_reducible apply AP.k_any); refine AP.B 0 (h2) ?_) | ((with_reducible apply AP.k_any); refine AP.C (h3) ?_) | ((with_reducible apply AP.k_any); refine AP.C (h4) ?_) | ((with_reducible apply AP.k_any); refine AP.C (h6) ?_) | ((with_reducible apply AP.k_any); refine AP.C (h7) ?_) | ((with_reducible apply AP.k_any); refine AP.C (h8) ?_) | fail); (try simp only [nx, Nat.reduceAdd, Nat.reduceSub, BEq.rfl]); refine AP.nil ?_; (first | refine ⟨trivial, rfl, ?_⟩ | refine ⟨rfl, rfl, ?_⟩); (repeat' (first | exact Mg.nil | apply Mg.keep rfl | apply Mg.take rfl)); done)); (focus (refine Exists.intro (fun _ => 0) ?_; apply Exists.intro; (repeat' (first | exact Mg.nil | apply Mg.keep rfl | apply Mg.take rfl)); done)); (iterate 2 (focus (exact rfl))))
                | ((fail_if_success refine DW.known rfl ?_); refine DW.G (fun hg => ?_) (fun hg => ?_))
    )
    ) <;> (try simp only [htm, nx, q4, rn, fq, Nat.mul_one, Bool.and_true, Bool.and_false, Nat.reduceBEq, Nat.reduceAdd, Nat.reduceSub, BEq.rfl]))
    | ((with_reducible apply AP.k_nil); first | (refine AP.nil (hQ' _ ?_); clear hQ' Q') | refine AP.nil ?_)
    | ((with_reducible apply CP.k_drw); refine cp_drwX fun Q' hQ' => ?_)
    | ((with_reducible apply CP.k_drw1); refine cp_drawX ?_)
    | ((with_reducible apply DW.k_nil); refine DW.nl ?_; first | (refine hQ' _ ?_; clear hQ' Q') | skip)
    | ((with_reducible apply CP.k_reg); refine cp_regG fun Q' hQ' => ?_)
      | (with_reducible apply CP.k_reg1; refine cp_region ?_)
      | ((with_reducible apply CP.k_cond); first | refine cp_condT rfl ?_ | refine cp_condF rfl ?_ | refine cp_cond rfl (fun hc => ?_) (fun hc => ?_))
      | refine CP.go ?_
      | (simp only [List.append_eq, List.cons_append, List.nil_append]))
  (exact RetQ.A [] (by exact ⟨rfl, rfl⟩))
end Go.Proofs.Ytnjfchigdpifmaa

namespace Go.Proofs.Ytnjfchigdpifmaa
set_option linter.unusedVariables false
set_option linter.unusedSimpArgs false
set_option maxHeartbeats 8000000
open Go.RowKit
set_option maxRecDepth 100000
theorem hsame_ac (a b : List UInt8) (ha : a.length = 32) (hb : b.length = 32) : AC Try.prog 44 [tg a, tg b] [] (fun v bs' => v = B (decide (a = b)) ∧ bs' = []) := by
  have h1 := wsame_ac a b (by omega)
  have hma := tagC_map ha
  have hmb := tagC_map hb
  simp only [tagC, List.map_cons, List.map_nil] at hma hmb
  refine AC.N Try.func44 Try.ntmps44 ?_
  intro X hρ hmks
  simp only [nx, Nat.reduceAdd, Nat.reduceSub, BEq.rfl]
  refine CP.gh gh_slot ?_; simp only [nx, Nat.reduceAdd, Nat.reduceSub, BEq.rfl]
  repeat' (first
    | ((first
    | ((with_reducible apply AP.k_any); first
            | refine AP.S ?_
            | refine AP.A ?_ | refine AP.AB 0 ?_ | refine AP.AB 1 ?_ | refine AP.AL ?_
            | refine AP.LB ?_ | refine AP.TB ?_ | refine AP.IX ?_ | refine AP.SF ?_ | refine AP.SV ?_ | refine AP.CV ?_ | refine AP.CO ?_ | refine AP.FV ?_  | refine AP.PF ?_)
      | ((with_reducible apply DW.k_any); first
        | refine DW.R ?_ | refine DW.R' ?_ | refine DW.W ?_ | refine DW.W' ?_ | refine DW.RA ?_ | refine DW.A 0 ?_ | refine DW.A 1 ?_ | refine DW.A 2 ?_ | refine DW.A' 0 ?_ | refine DW.A' 2 ?_ | ((fail_if_success refine DW.known rfl ?_); refine DW.G (fun hg => ?_) (fun hg => ?_))
        | refine DW.WX ?_ | refine DW.RX ?_ | refine DW.WX' ?_)
    | ((with_reducible apply DW.k_any); first
                | refine DW.R ?_ | refine DW.R' ?_ | refine DW.W ?_ | refine DW.W' ?_
                | (refine DW.known rfl ?_; (with_reducible first | apply DW.sx 2 | apply DW.sxN 2); (iterate 2 (focus (simp only [ft, nm, Nat.reduceAdd, Nat.reduceBEq, List.getElem?_cons_zero, List.getElem?_cons_succ]; exact rfl))); (focus (intro X V; simp only [ft, nm, Nat.reduceAdd, Nat.reduceBEq]; (try (refine AP.Y ?_; dsimp only)); (first  | fail); (try simp only [nx, Nat.reduceAdd, Nat.reduceSub, BEq.rfl]); refine AP.nil ?_; (first | refine ⟨trivial, rfl, ?_⟩ | refine ⟨rfl, rfl, ?_⟩); (repeat' (first | exact Mg.nil | apply Mg.keep rfl | apply Mg.take rfl)); done)); (focus (refine Exists.intro (fun _ => 0) ?_; apply Exists.intro; (repeat' (first | exact Mg.nil | apply Mg.keep rfl | apply Mg.take rfl)); done)); (iterate 2 (focus (exact rfl))))
                | ((fail_if_success refine DW.known rfl ?_); refine DW.G (fun hg => ?_) (fun hg => ?_))
    )
    ) <;> (try simp only [hma, hmb, nx, q4, rn, fq, Nat.mul_one, Bool.and_true, Bool.and_false, Nat.reduceBEq, Nat.reduceAdd, Nat.reduceSub, BEq.rfl]))
    | ((with_reducible apply AP.k_nil); first | (refine AP.nil (hQ' _ ?_); clear hQ' Q') | refine AP.nil ?_)
    | ((with_reducible apply CP.k_drw); refine cp_drwX fun Q' hQ' => ?_)
    | ((with_reducible apply CP.k_drw1); refine cp_drawX ?_)
    | ((with_reducible apply DW.k_nil); refine DW.nl ?_; first | (refine hQ' _ ?_; clear hQ' Q') | skip)
    | ((with_reducible apply CP.k_reg); refine cp_regG fun Q' hQ' => ?_)
      | (with_reducible apply CP.k_reg1; refine cp_region ?_)
      | ((with_reducible apply CP.k_cond); first | refine cp_condT rfl ?_ | refine cp_condF rfl ?_ | refine cp_cond rfl (fun hc => ?_) (fun hc => ?_))
      | refine CP.go ?_
      | (simp only [List.append_eq, List.cons_append, List.nil_append]))
  (exact RetQ.A [] (by exact ⟨rfl, rfl⟩))
end Go.Proofs.Ytnjfchigdpifmaa

namespace Go.Proofs.Ytnjfchigdpifmaa
set_option linter.unusedVariables false
set_option linter.unusedSimpArgs false
set_option maxHeartbeats 8000000
open Go.RowKit
set_option maxRecDepth 100000
structure Pkt where
  frm : Int
  to : Int
  epoch : Int
  boot : Int
  seqn : Int
  body : List UInt8
  tag : List UInt8
abbrev eP (p : Pkt) : List AV := [I p.frm, I p.to, I p.epoch, I p.boot, I p.seqn, bs none p.body, U (p.tag.getD 0 0), U (p.tag.getD 1 0), U (p.tag.getD 2 0), U (p.tag.getD 3 0), U (p.tag.getD 4 0), U (p.tag.getD 5 0), U (p.tag.getD 6 0), U (p.tag.getD 7 0), U (p.tag.getD 8 0), U (p.tag.getD 9 0), U (p.tag.getD 10 0), U (p.tag.getD 11 0), U (p.tag.getD 12 0), U (p.tag.getD 13 0), U (p.tag.getD 14 0), U (p.tag.getD 15 0), U (p.tag.getD 16 0), U (p.tag.getD 17 0), U (p.tag.getD 18 0), U (p.tag.getD 19 0), U (p.tag.getD 20 0), U (p.tag.getD 21 0), U (p.tag.getD 22 0), U (p.tag.getD 23 0), U (p.tag.getD 24 0), U (p.tag.getD 25 0), U (p.tag.getD 26 0), U (p.tag.getD 27 0), U (p.tag.getD 28 0), U (p.tag.getD 29 0), U (p.tag.getD 30 0), U (p.tag.getD 31 0)]
def whoS (n : Int) : Bool := (decide (0 ≤ n) && decide (n ≤ 4)) || n == 8 || n == 9
def mayP (p : Pkt) : Bool := whoS p.frm && whoS p.to && !(p.frm == p.to) && decide (1 ≤ p.epoch) && decide (0 ≤ p.boot) && decide (1 ≤ p.seqn)
theorem known_ac (n : Int) : AC Try.prog 45 [I n] [] (fun v bs' => v = B (whoS n) ∧ bs' = []) := by
  refine AC.N Try.func45 Try.ntmps45 ?_
  intro X hρ hmks
  simp only [nx, Nat.reduceAdd, Nat.reduceSub, BEq.rfl]
  repeat' (first
    | ((first
    | ((with_reducible apply AP.k_any); first
            | refine AP.S ?_
            | (refine AP.Y ?_; dsimp only) | refine AP.G (fun hg => ?_) (fun hg => ?_)
            | refine AP.A ?_ | refine AP.AB 0 ?_ | refine AP.AB 1 ?_ | refine AP.AL ?_
            )
    ) <;> (try simp only [nx, Nat.reduceAdd, Nat.reduceSub, BEq.rfl]))
    | ((with_reducible apply AP.k_nil); first | (refine AP.nil (hQ' _ ?_); clear hQ' Q') | refine AP.nil ?_)
    | ((with_reducible apply CP.k_reg); refine cp_regG fun Q' hQ' => ?_)
      | (with_reducible apply CP.k_reg1; refine cp_region ?_)
      | ((with_reducible apply CP.k_cond); first | refine cp_condT rfl ?_ | refine cp_condF rfl ?_ | refine cp_cond rfl (fun hc => ?_) (fun hc => ?_))
      | refine CP.go ?_
      | (simp only [List.append_eq, List.cons_append, List.nil_append]))
  all_goals (refine RetQ.B [] ?_; (try dsimp only [resV, List.getD_cons_succ, List.getD_cons_zero]); ((refine ⟨congrArg B ?_, rfl⟩; (repeat (rename AC _ _ _ _ _ => hzz; clear hzz)); simp at *; simp [whoS, *]; try omega)))
theorem who_ac (n : Int) : AC Try.prog 46 [I n] [] (fun v bs' => v = B (whoS n) ∧ bs' = []) := by
  refine AC.N Try.func46 Try.ntmps46 ?_
  intro X hρ hmks
  simp only [nx, Nat.reduceAdd, Nat.reduceSub, BEq.rfl]
  repeat' (first
    | ((first
    | ((with_reducible apply AP.k_any); first
            | refine AP.S ?_
            | (refine AP.Y ?_; dsimp only) | refine AP.G (fun hg => ?_) (fun hg => ?_)
            | refine AP.A ?_ | refine AP.AB 0 ?_ | refine AP.AB 1 ?_ | refine AP.AL ?_
            )
    ) <;> (try simp only [nx, Nat.reduceAdd, Nat.reduceSub, BEq.rfl]))
    | ((with_reducible apply AP.k_nil); first | (refine AP.nil (hQ' _ ?_); clear hQ' Q') | refine AP.nil ?_)
    | ((with_reducible apply CP.k_reg); refine cp_regG fun Q' hQ' => ?_)
      | (with_reducible apply CP.k_reg1; refine cp_region ?_)
      | ((with_reducible apply CP.k_cond); first | refine cp_condT rfl ?_ | refine cp_condF rfl ?_ | refine cp_cond rfl (fun hc => ?_) (fun hc => ?_))
      | refine CP.go ?_
      | (simp only [List.append_eq, List.cons_append, List.nil_append]))
  all_goals (refine RetQ.B [] ?_; (try dsimp only [resV, List.getD_cons_succ, List.getD_cons_zero]); ((refine ⟨congrArg B ?_, rfl⟩; (repeat (rename AC _ _ _ _ _ => hzz; clear hzz)); simp at *; simp [whoS, *]; try omega)))
theorem mayP_ac (p : Pkt) : AC Try.prog 16 [.ag (eP p)] [] (fun v bs' => v = B (mayP p) ∧ bs' = []) := by
  have h1 := known_ac p.frm
  have h2 := known_ac p.to
  unfold mayP
  generalize whoS p.frm = x at h1 ⊢
  generalize whoS p.to = y at h2 ⊢
  refine AC.N Try.func16 Try.ntmps16 ?_
  intro X hρ hmks
  simp only [nx, Nat.reduceAdd, Nat.reduceSub, BEq.rfl]
  repeat' (first
    | ((first
    | ((with_reducible apply AP.k_any); first
            | refine AP.S ?_
            | (refine AP.Y ?_; dsimp only) | refine AP.G (fun hg => ?_) (fun hg => ?_)
            | refine AP.A ?_ | refine AP.AB 0 ?_ | refine AP.AB 1 ?_ | refine AP.AL ?_
            | ((with_reducible apply AP.k_any); refine AP.C (h1) ?_))
    ) <;> (try simp only [nx, Nat.reduceAdd, Nat.reduceSub, BEq.rfl]))
    | ((with_reducible apply AP.k_nil); first | (refine AP.nil (hQ' _ ?_); clear hQ' Q') | refine AP.nil ?_)
    | ((with_reducible apply CP.k_reg); refine cp_regG fun Q' hQ' => ?_)
      | (with_reducible apply CP.k_reg1; refine cp_region ?_)
      | ((with_reducible apply CP.k_cond); first | refine cp_condT rfl ?_ | refine cp_condF rfl ?_ | refine cp_cond rfl (fun hc => ?_) (fun hc => ?_))
      | refine CP.go ?_
      | (simp only [List.append_eq, List.cons_append, List.nil_append]))
  all_goals (refine RetQ.B [] ?_; (try dsimp only [resV, List.getD_cons_succ, List.getD_cons_zero]); ((refine ⟨congrArg B ?_, rfl⟩; (repeat (rename AC _ _ _ _ _ => hzz; clear hzz)); first | (simp_all; done) | (simp at *; simp_all; omega) | (rw [Bool.eq_iff_iff]; simp at *; simp_all; try omega))))
theorem dmayP_ac (p : Pkt) : AC Try.prog 17 [.ag (eP p)] [] (fun v bs' => v = B (mayP p) ∧ bs' = []) := by
  have h1 := who_ac p.frm
  have h2 := who_ac p.to
  unfold mayP
  generalize whoS p.frm = x at h1 ⊢
  generalize whoS p.to = y at h2 ⊢
  refine AC.N Try.func17 Try.ntmps17 ?_
  intro X hρ hmks
  simp only [nx, Nat.reduceAdd, Nat.reduceSub, BEq.rfl]
  repeat' (first
    | ((first
    | ((with_reducible apply AP.k_any); first
            | refine AP.S ?_
            | (refine AP.Y ?_; dsimp only) | refine AP.G (fun hg => ?_) (fun hg => ?_)
            | refine AP.A ?_ | refine AP.AB 0 ?_ | refine AP.AB 1 ?_ | refine AP.AL ?_
            | ((with_reducible apply AP.k_any); refine AP.C (h1) ?_))
    ) <;> (try simp only [nx, Nat.reduceAdd, Nat.reduceSub, BEq.rfl]))
    | ((with_reducible apply AP.k_nil); first | (refine AP.nil (hQ' _ ?_); clear hQ' Q') | refine AP.nil ?_)
    | ((with_reducible apply CP.k_reg); refine cp_regG fun Q' hQ' => ?_)
      | (with_reducible apply CP.k_reg1; refine cp_region ?_)
      | ((with_reducible apply CP.k_cond); first | refine cp_condT rfl ?_ | refine cp_condF rfl ?_ | refine cp_cond rfl (fun hc => ?_) (fun hc => ?_))
      | refine CP.go ?_
      | (simp only [List.append_eq, List.cons_append, List.nil_append]))
  all_goals (refine RetQ.B [] ?_; (try dsimp only [resV, List.getD_cons_succ, List.getD_cons_zero]); ((refine ⟨congrArg B ?_, rfl⟩; (repeat (rename AC _ _ _ _ _ => hzz; clear hzz)); first | (simp_all; done) | (simp at *; simp_all; omega) | (rw [Bool.eq_iff_iff]; simp at *; simp_all; try omega))))
end Go.Proofs.Ytnjfchigdpifmaa

namespace Go.Proofs.Ytnjfchigdpifmaa
set_option linter.unusedVariables false
set_option linter.unusedSimpArgs false
set_option maxHeartbeats 8000000
open Go.RowKit
set_option maxRecDepth 100000
abbrev Wst := Bool × List UInt8
theorem wtag_ac (st : Wst) (t : List UInt8) (hst : st.2.length ≤ 65536) (ht : t.length = 32) : AC Try.prog 48 [.bp 0 0 0, tg t] [wB st] (fun v bs' => v = .bp 0 0 0 ∧ bs' = [wB (addS st t)]) := by
  have h2 := add_ac st [t] hst (by simp) (by simp; omega)
  rw [show [t].foldl addS st = addS st t from rfl] at h2
  have htm := tagC_map ht
  simp only [tagC, List.map_cons, List.map_nil] at htm
  refine AC.N Try.func48 Try.ntmps48 ?_
  intro X hρ hmks
  simp only [nx, Nat.reduceAdd, Nat.reduceSub, BEq.rfl]
  refine CP.gh gh_slot ?_; simp only [nx, Nat.reduceAdd, Nat.reduceSub, BEq.rfl]
  repeat' (first
    | ((first
    | ((with_reducible apply AP.k_any); first
            | refine AP.S ?_
            | refine AP.A ?_ | refine AP.AB 0 ?_ | refine AP.AB 1 ?_ | refine AP.AL ?_
            | refine AP.LB ?_ | refine AP.TB ?_ | refine AP.IX ?_ | refine AP.SF ?_ | refine AP.SV ?_ | refine AP.CV ?_ | refine AP.CO ?_ | refine AP.FV ?_  | refine AP.PF ?_)
    ) <;> (try simp only [htm, nx, q4, rn, fq, Nat.mul_one, Bool.and_true, Bool.and_false, Nat.reduceBEq, Nat.reduceAdd, Nat.reduceSub, BEq.rfl]))
    | ((with_reducible apply AP.k_nil); first | (refine AP.nil (hQ' _ ?_); clear hQ' Q') | refine AP.nil ?_)
    | ((with_reducible apply CP.k_reg); refine cp_regG fun Q' hQ' => ?_)
      | (with_reducible apply CP.k_reg1; refine cp_region ?_)
      | ((with_reducible apply CP.k_cond); first | refine cp_condT rfl ?_ | refine cp_condF rfl ?_ | refine cp_cond rfl (fun hc => ?_) (fun hc => ?_))
      | refine CP.go ?_
      | (simp only [List.append_eq, List.cons_append, List.nil_append]))
  (exact RetQ.A [(0, 0)] (by exact ⟨rfl, rfl⟩))
theorem headQ_ac (p : Pkt) (s0 s1 s2 s3 s4 s5 s6 : Wst)
    (h0 : AC Try.prog 75 [] [] (fun v bs' => v = .bp 0 0 0 ∧ bs' = [wB s0]))
    (i1 : AC Try.prog 76 [.bp 0 0 0, I p.frm] [wB s0] (fun v bs' => v = .bp 0 0 0 ∧ bs' = [wB s1]))
    (i2 : AC Try.prog 76 [.bp 0 0 0, I p.to] [wB s1] (fun v bs' => v = .bp 0 0 0 ∧ bs' = [wB s2]))
    (i3 : AC Try.prog 76 [.bp 0 0 0, I p.epoch] [wB s2] (fun v bs' => v = .bp 0 0 0 ∧ bs' = [wB s3]))
    (i4 : AC Try.prog 76 [.bp 0 0 0, I p.boot] [wB s3] (fun v bs' => v = .bp 0 0 0 ∧ bs' = [wB s4]))
    (i5 : AC Try.prog 76 [.bp 0 0 0, I p.seqn] [wB s4] (fun v bs' => v = .bp 0 0 0 ∧ bs' = [wB s5]))
    (i6 : AC Try.prog 77 [.bp 0 0 0, bs none p.body] [wB s5] (fun v bs' => v = .bp 0 0 0 ∧ bs' = [wB s6])) :
    AC Try.prog 47 [.ag (eP p)] [] (fun v bs' => v = .bp 0 0 0 ∧ bs' = [wB s6]) := by
  refine AC.N Try.func47 Try.ntmps47 ?_
  intro X hρ hmks
  simp only [nx, Nat.reduceAdd, Nat.reduceSub, BEq.rfl]
  refine CP.gh gh_slot ?_; simp only [nx, Nat.reduceAdd, Nat.reduceSub, BEq.rfl]
  refine CP.gh gh_slot ?_; simp only [nx, Nat.reduceAdd, Nat.reduceSub, BEq.rfl]
  refine CP.gh gh_slot ?_; simp only [nx, Nat.reduceAdd, Nat.reduceSub, BEq.rfl]
  repeat' (first
    | ((first
    | ((with_reducible apply AP.k_any); first
            | refine AP.S ?_
            | refine AP.A ?_ | refine AP.AB 0 ?_ | refine AP.AB 1 ?_ | refine AP.AL ?_
            | refine AP.LB ?_ | refine AP.TB ?_ | refine AP.IX ?_ | refine AP.SF ?_ | refine AP.SV ?_ | refine AP.CV ?_ | refine AP.CO ?_ | refine AP.FV ?_ | ((with_reducible apply AP.k_any); refine AP.B 0 (i1) ?_) | ((with_reducible apply AP.k_any); refine AP.B 0 (i2) ?_) | ((with_reducible apply AP.k_any); refine AP.B 0 (i3) ?_) | ((with_reducible apply AP.k_any); refine AP.B 0 (i4) ?_) | ((with_reducible apply AP.k_any); refine AP.B 0 (i5) ?_) | ((with_reducible apply AP.k_any); refine AP.B 0 (i6) ?_) | ((with_reducible apply AP.k_any); refine AP.B 2 (h0) ?_) | refine AP.PF ?_)
      | ((with_reducible apply DW.k_any); first
        | refine DW.R ?_ | refine DW.R' ?_ | refine DW.W ?_ | refine DW.W' ?_ | refine DW.RA ?_ | refine DW.A 0 ?_ | refine DW.A 1 ?_ | refine DW.A 2 ?_ | refine DW.A' 0 ?_ | refine DW.A' 2 ?_ | ((fail_if_success refine DW.known rfl ?_); refine DW.G (fun hg => ?_) (fun hg => ?_))
        | refine DW.RX ?_ | refine DW.WX ?_ | refine DW.WX' ?_)
    | ((with_reducible apply DW.k_any); first
                | refine DW.R ?_ | refine DW.R' ?_ | refine DW.W ?_ | refine DW.W' ?_
                | (refine DW.known rfl ?_; (with_reducible first | apply DW.sx 2 | apply DW.sxN 2); (iterate 2 (focus (simp only [ft, nm, Nat.reduceAdd, Nat.reduceBEq, List.getElem?_cons_zero, List.getElem?_cons_succ]; exact rfl))); (focus (intro X V; simp only [ft, nm, Nat.reduceAdd, Nat.reduceBEq]; (try (refine AP.Y ?_; dsimp only)); (first | ((with_reducible apply AP.k_any); refine AP.B 0 (i1) ?_) | ((with_reducible apply AP.k_any); refine AP.B 0 (i2) ?_) | ((with_reducible apply AP.k_any); refine AP.B 0 (i3) ?_) | ((with_reducible apply AP.k_any); refine AP.B 0 (i4) ?_) | ((with_reducible apply AP.k_any); refine AP.B 0 (i5) ?_) | ((with_reducible apply AP.k_any); refine AP.B 0 (i6) ?_) | ((with_reducible apply AP.k_any); refine AP.B 2 (h0) ?_) | fail); (try simp only [nx, Nat.reduceAdd, Nat.reduceSub, BEq.rfl]); refine AP.nil ?_; (first | refine ⟨trivial, rfl, ?_⟩ | refine ⟨rfl, rfl, ?_⟩); (repeat' (first | exact Mg.nil | apply Mg.keep rfl | apply Mg.take rfl)); done)); (focus (refine Exists.intro (fun _ => 0) ?_; apply Exists.intro; (repeat' (first | exact Mg.nil | apply Mg.keep rfl | apply Mg.take rfl)); done)); (iterate 2 (focus (exact rfl))))
                | ((fail_if_success refine DW.known rfl ?_); refine DW.G (fun hg => ?_) (fun hg => ?_))
    )
    ) <;> (try simp only [ nx, q4, rn, fq, Nat.mul_one, Bool.and_true, Bool.and_false, Nat.reduceBEq, Nat.reduceAdd, Nat.reduceSub, BEq.rfl]))
    | ((with_reducible apply AP.k_nil); first | (refine AP.nil (hQ' _ ?_); clear hQ' Q') | refine AP.nil ?_)
    | ((with_reducible apply CP.k_drw); refine cp_drwX fun Q' hQ' => ?_)
    | ((with_reducible apply CP.k_drw1); refine cp_drawX ?_)
    | ((with_reducible apply DW.k_nil); refine DW.nl ?_; first | (refine hQ' _ ?_; clear hQ' Q') | skip)
    | ((with_reducible apply CP.k_reg); refine cp_regG fun Q' hQ' => ?_)
      | (with_reducible apply CP.k_reg1; refine cp_region ?_)
      | ((with_reducible apply CP.k_cond); first | refine cp_condT rfl ?_ | refine cp_condF rfl ?_ | refine cp_cond rfl (fun hc => ?_) (fun hc => ?_))
      | refine CP.go ?_
      | (simp only [List.append_eq, List.cons_append, List.nil_append]))
  (exact RetQ.A [(1, 1)] (by exact ⟨rfl, rfl⟩))
def headS (p : Pkt) : List UInt8 := intS p.frm ++ intS p.to ++ intS p.epoch ++ intS p.boot ++ intS p.seqn ++ putS p.body.length 4 ++ p.body
theorem headS_len (p : Pkt) : (headS p).length = 44 + p.body.length := by
  have (n : Int) : (intS n).length = 8 := putS_length _ _
  simp [headS, this, putS_length]; omega
theorem addS_ok {x b : List UInt8} (h : x.length + b.length ≤ 65536) : addS (false, x) b = (false, x ++ b) := by
  rw [addS, if_neg (by simp; omega)]
theorem head_ac (p : Pkt) (hp : p.body.length ≤ 60000) : AC Try.prog 47 [.ag (eP p)] [] (fun v bs' => v = .bp 0 0 0 ∧ bs' = [wB (false, headS p)]) := by
  have hi (n : Int) : (intS n).length = 8 := putS_length _ _
  have e : addS (addS (addS (addS (addS (addS (addS (false, []) (intS p.frm)) (intS p.to)) (intS p.epoch)) (intS p.boot)) (intS p.seqn)) (putS p.body.length 4)) p.body = (false, headS p) := by
    rw [addS_ok, addS_ok, addS_ok, addS_ok, addS_ok, addS_ok, addS_ok]
    · rfl
    all_goals (simp only [List.length_append, List.length_nil, hi, putS_length]; omega)
  have g0 : ((false, []) : Wst).2.length ≤ 65536 := by simp
  have g1 := addS_len (b := intS p.frm) g0
  have g2 := addS_len (b := intS p.to) g1
  have g3 := addS_len (b := intS p.epoch) g2
  have g4 := addS_len (b := intS p.boot) g3
  have g5 := addS_len (b := intS p.seqn) g4
  have := headQ_ac p _ _ _ _ _ _ _ wnew_ac (wint_ac _ _ g0) (wint_ac _ _ g1) (wint_ac _ _ g2) (wint_ac _ _ g3) (wint_ac _ _ g4) (wbytes_ac _ p.body g5 (by omega))
  rw [e] at this
  exact this
end Go.Proofs.Ytnjfchigdpifmaa

namespace Go.Proofs.Ytnjfchigdpifmaa
set_option linter.unusedVariables false
set_option linter.unusedSimpArgs false
open Go.RowKit
set_option maxRecDepth 100000
theorem re_bytes {w : World} {φ : Fi} {κ : Ka} {R : Nat → Prop} : ∀ l : List UInt8, RE w φ κ R 1 (l.map eB) (l.map fun b => Value.int .u8 (b.toNat : Int)) Ct.z
  | [] => .nil
  | b :: l => by
    have := RE.cons (k := 1) (c := eB b) (us := [Value.int .u8 (b.toNat : Int)]) (S := Ct.z) (T := Ct.z) (U := Ct.z) (.cons (S := Ct.z) (T := Ct.z) (.sc rfl) .nil fun _ => rfl) rfl ⟨fun u hu => by simp at hu; subst hu; rfl, fun x hx => by simp [eB] at hx; subst hx; rfl⟩ (re_bytes (w := w) (φ := φ) (κ := κ) (R := R) l) fun _ => rfl
    exact this
section
variable {X : Cx} {s : AS} {ops : Array Oper} {rest : List Oper} {o : Oper} {Q : Exit → AS → Prop}
theorem ap_convS {U T e : Nat} {x : Operand} {sb : ByteArray} {iu i ie : TI} (hg : o.guard = none) (ho : o.op = .convert U T x) (hx : aev s x = .sc (.string sb)) (hU : tt[U]? = some iu) (hku : iu.kd = .sr) (hT : tt[T]? = some i) (hk : i.kd = .sl e) (he : tt[e]? = some ie) (hke : ie.kd = .it .u8) (hn : sb.size ≤ 1000000)
    (K : AP Try.prog X ops Q rest (AS.put ⟨s.t, (newS s.b (.r e 1 (sb.data.toList.map eB))).2⟩ o.dst (.hd (newS s.b (.r e 1 (sb.data.toList.map eB))).1.1 (newS s.b (.r e 1 (sb.data.toList.map eB))).1.2))) : AP Try.prog X ops Q (o :: rest) s :=
  .run hg (fun X φ κ f a w h => by
    have hx' := h.evc hx
    have hrun : (execOp a.eval o).run Try.prog w = .ok (.value (.slice (some ⟨w.heap.size, 0, none⟩) sb.size (grownCap w sb.size 0 e))) (Lib.bytesWorld w e sb) := by
      simp only [execOp, ho, hx', Sem.run_bind, Lib.run_convert_string_bytes w U T e sb (ty_sr hU hku) (ty_sl hT hk) (ty_it he hke)]; rfl
    have hge := grownCap_ge w sb.size 0 e
    have hcm : grownCap w sb.size 0 e ≤ maxLen := grownCap_le_maxLen w sb.size 0 e (by unfold maxLen; omega)
    have hcs : (Lib.bytesCells w e sb).size = grownCap w sb.size 0 e := by
      have : sb.data.size = sb.size := rfl
      simp [Lib.bytesCells]; omega
    have hmk : Mk (Lib.bytesWorld w e sb) w.heap.size (Lib.bytesCells w e sb) e := ⟨_, Lib.bytesWorld_at_new w e sb, .inr (Nat.le_refl _)⟩
    have hold : ∀ x, x < w.heap.size → (Lib.bytesWorld w e sb).heap[x]? = w.heap[x]? := fun x hx => Lib.bytesWorld_at_old w e sb x hx
    have hlr : (sb.data.toList.map eB).length = sb.size := by simp
    have htk : (Lib.bytesCells w e sb).toList.take ((sb.data.toList.map eB).length * 1) = sb.data.toList.map fun b => Value.int .u8 (b.toNat : Int) := by
      rw [hlr, Nat.mul_one]
      have : sb.data.size = sb.size := rfl
      simp only [Lib.bytesCells, Array.toList_append, Array.toList_map]
      exact List.take_left' (by simp [this])
    generalize hW : Lib.bytesWorld w e sb = w' at *
    have hos : w'.os = w.os := by rw [← hW]; rfl
    have htp : w'.tape = w.tape := by rw [← hW]; rfl
    have hou : w'.output = w.output := by rw [← hW]; rfl
    have hsz : w.heap.size < w'.heap.size := by rw [← hW, Lib.bytesWorld_size]; omega
    obtain ⟨φ', κ', f', e1, e2, e3, e4, e5⟩ := h.newS_ (w' := w') (B := .r e 1 (sb.data.toList.map eB)) (g := fun x => (if x = w.heap.size then 1 else 0) + Ct.z x) (L' := Ct.z) none (some (.slice (some ⟨w.heap.size, 0, none⟩) sb.size (grownCap w sb.size 0 e))) (by omega) hos htp hou
      (fun x hx _ => hold x hx)
      (fun φ' κ' j u a b c d => .r d (by
        have := RV.om (e := e) (cap := grownCap w sb.size 0 e) (cur := Lib.bytesCells w e sb) (re_bytes (w := w') (φ := φ') (κ := κ') (R := X.R) sb.data.toList) hmk (by rw [hlr]; exact hge) hcm (by rw [hcs, Nat.mul_one]) htk (T := fun x => (if x = w.heap.size then 1 else 0) + Ct.z x) fun _ => rfl
        rw [hlr] at this; exact this))
      (fun x hx => by simp only [Ct.z]; rw [if_neg (by omega)]; omega)
      (fun x hx => by simp only [Ct.z]; split <;> simp_all)
    exact ⟨_, _, φ', κ', f', hrun, e5.puts o.dst (.hd e4 rfl)⟩) K
end
theorem AP.CS {X : Cx} {s : AS} {ops : Array Oper} {rest : List Oper} {Q : Exit → AS → Prop} {U T e : Nat} {x : Operand} {sb : ByteArray} {iu i ie : TI} {d : Option Nat} {ty : Nat} {pos : String} {aft : Array Edge}
    (K : AP Try.prog X ops Q rest (AS.put ⟨s.t, (newS s.b (.r e 1 (sb.data.toList.map eB))).2⟩ d (.hd (newS s.b (.r e 1 (sb.data.toList.map eB))).1.1 (newS s.b (.r e 1 (sb.data.toList.map eB))).1.2)))
    (hx : aev s x = .sc (.string sb) := by exact rfl) (hU : tt[U]? = some iu := by exact rfl) (hku : iu.kd = .sr := by exact rfl) (hT : tt[T]? = some i := by exact rfl) (hk : i.kd = .sl e := by exact rfl) (he : tt[e]? = some ie := by exact rfl) (hke : ie.kd = .it .u8 := by exact rfl) (hn : sb.size ≤ 1000000 := by omega) :
    AP Try.prog X ops Q (⟨d, .convert U T x, ty, pos, aft, none⟩ :: rest) s := ap_convS rfl rfl hx hU hku hT hk he hke hn K
end Go.Proofs.Ytnjfchigdpifmaa

namespace Go.Proofs.Ytnjfchigdpifmaa
set_option linter.unusedVariables false
set_option linter.unusedSimpArgs false
set_option maxHeartbeats 8000000
open Go.RowKit
set_option maxRecDepth 100000
def formS (s : ByteArray) (l : List Int) : List UInt8 := s.data.toList ++ [0] ++ numS l
def deriveS (key : List UInt8) (s : ByteArray) (l : List Int) : List UInt8 := hmacS key (formS s l)
theorem hmacS_len (key b : List UInt8) : (hmacS key b).length = 32 := rfl
theorem formS_take (s : ByteArray) (l : List Int) {i : Nat} (h : i < l.length) : formS s (l.take (i + 1)) = formS s (l.take i) ++ intS l[i] := by
  rw [formS, List.take_succ_eq_append_getElem h, numS_snoc, ← List.append_assoc]; rfl
theorem formS_len (s : ByteArray) (l : List Int) : (formS s l).length = s.size + 1 + 8 * l.length := by
  have : s.data.toList.length = s.size := by simp
  simp only [formS, List.length_append, numS_length, this]; rfl
theorem hderive_ac (key : List UInt8) (s : ByteArray) (l : List Int) (hk : key.length ≤ 100000) (hs : s.size ≤ 1000) (hl : l.length ≤ 1000) : AC Try.prog 68 [bs none key, .sc (.string s), .sl none 1 (l.map eI)] [] (fun v bs' => v = bs none (deriveS key s l) ∧ bs' = []) := by
  have hsl : s.data.toList.length = s.size := by simp
  have h1 := wcat2_ac s.data.toList [0] (by simp; omega)
  rw [show s.data.toList ++ [0] = formS s (l.take 0) by simp [formS, numS]] at h1
  have hfl := formS_len s l
  have h5 := hmac_ac key (formS s l) (by omega) (by omega)
  have htl := hmacS_len key (formS s l)
  have htm := tagC_map htl
  unfold deriveS
  generalize hmacS key (formS s l) = t at *
  refine AC.N Try.func68 Try.ntmps68 ?_
  intro X hρ hmks
  simp only [nx, Nat.reduceAdd, Nat.reduceSub, BEq.rfl]
  refine CP.gh gh_slot ?_; simp only [nx, Nat.reduceAdd, Nat.reduceSub, BEq.rfl]
  refine CP.gh gh_slot ?_; simp only [nx, Nat.reduceAdd, Nat.reduceSub, BEq.rfl]
  refine CP.gh gh_slot ?_; simp only [nx, Nat.reduceAdd, Nat.reduceSub, BEq.rfl]
  refine CP.gh gh_slot ?_; simp only [nx, Nat.reduceAdd, Nat.reduceSub, BEq.rfl]
  repeat' (first
    | ((first
    | ((with_reducible apply AP.k_any); first
            | refine AP.S ?_
            | refine AP.E ?_
            | refine AP.T ?_
            | refine AP.A ?_ | refine AP.AB 0 ?_ | refine AP.AB 1 ?_ | refine AP.AL ?_
            | refine AP.LB ?_ | refine AP.TB ?_ | refine AP.IX ?_ | refine AP.SF ?_ | refine AP.SV ?_ | refine AP.CV ?_ | refine AP.CO ?_ | refine AP.FV ?_ | refine AP.CS ?_ | ((with_reducible apply AP.k_any); refine AP.C (h1) ?_) | refine AP.PF ?_)
    ) <;> (try simp only [ nx, q4, rn, fq, Nat.mul_one, Bool.and_true, Bool.and_false, Nat.reduceBEq, Nat.reduceAdd, Nat.reduceSub, BEq.rfl]))
    | ((with_reducible apply AP.k_nil); first | (refine AP.nil (hQ' _ ?_); clear hQ' Q') | refine AP.nil ?_)
    | ((with_reducible apply CP.k_reg); refine cp_regG fun Q' hQ' => ?_)
      | (with_reducible apply CP.k_reg1; refine cp_region ?_)
      | ((with_reducible apply CP.k_cond); first | refine cp_condT rfl ?_ | refine cp_condF rfl ?_ | refine cp_cond rfl (fun hc => ?_) (fun hc => ?_))
      | refine CP.go ?_
      | (simp only [List.append_eq, List.cons_append, List.nil_append]))
  refine cp_loopS [7, 9, 18, 19, 20, 21, 22, 23, 24, 25, 26, 27, 28] (fun a : Nat × Nat => l.length - a.1) (fun a => a.1 ≤ l.length) (fun a => [(18, I a.1), (7, bs none (formS s (l.take a.1))), (12, .de), (13, .de)]) (fun a => [(0, ⟨a.2, .x⟩)]) (0, 2) (Nat.zero_le _) (by exact Gh.W) ?_
  clear h1
  rintro ⟨i, v⟩ hi
  simp only [setT, deT, setB, List.set_cons_succ, List.set_cons_zero]
  dsimp only at hi
  by_cases hlt : i < l.length
  · have hw : IntKind.i64.wrap ((i : Int) + 1) = ((i + 1 : Nat) : Int) := wrap_i64 (by omega) (by omega)
    have d1 : decide ((i : Int) < (l.length : Int)) = true := by simp; omega
    have hx : (l.map eI)[i]? = some (eI l[i]) := by simp [hlt]
    have hft := formS_take s l hlt
    have hln := formS_len s (l.take i)
    rw [List.length_take] at hln
    have h3 := put64_ac (IntKind.u64.wrap l[i]).toNat
    rw [← u64_nn] at h3
    have hil : (intS l[i]).length = 8 := intS_length _
    rw [show putS (IntKind.u64.wrap l[i]).toNat 8 = intS l[i] from rfl] at h3
    generalize l[i] = n at *
    generalize intS n = z at *
    have h4 := wcat2_ac (formS s (l.take i)) z (by omega)
    rw [← hft] at h4
    generalize formS s (l.take i) = F at *
    repeat' (first
      | ((first
      | ((with_reducible apply AP.k_any); first
              | refine AP.S ?_
              | refine AP.E ?_
              | refine AP.T ?_
              | refine AP.A ?_ | refine AP.AB 0 ?_ | refine AP.AB 1 ?_ | refine AP.AL ?_
              | refine AP.LB ?_ | refine AP.TB ?_ | refine AP.IX ?_ | refine AP.SF ?_ | refine AP.SV ?_ | refine AP.CV ?_ | refine AP.CO ?_ | refine AP.FV ?_ | ((with_reducible apply AP.k_any); refine AP.C (h3) ?_) | ((with_reducible apply AP.k_any); refine AP.C (h4) ?_) | refine AP.PF ?_)
      ) <;> (try simp only [d1, nx, q4, rn, fq, Nat.mul_one, Bool.and_true, Bool.and_false, Nat.reduceBEq, Nat.reduceAdd, Nat.reduceSub, BEq.rfl]))
      | ((with_reducible apply AP.k_nil); first | (refine AP.nil (hQ' _ ?_); clear hQ' Q') | refine AP.nil ?_)
      | ((with_reducible apply CP.k_reg); refine cp_regG fun Q' hQ' => ?_)
        | (with_reducible apply CP.k_reg1; refine cp_region ?_)
        | ((with_reducible apply CP.k_cond); first | refine cp_condT rfl ?_ | refine cp_condF rfl ?_ | refine cp_cond rfl (fun hc => ?_) (fun hc => ?_))
        | refine CP.go ?_
        | (simp only [List.append_eq, List.cons_append, List.nil_append]))
    simp only [hw]
    exact ⟨(i + 1, v + 1), by (dsimp only; omega), by (dsimp only; omega), by (dsimp only; exact Gh.W)⟩
  · obtain rfl : i = l.length := by omega
    have d1 : decide ((l.length : Int) < (l.length : Int)) = false := by simp
    rw [List.take_of_length_le (Nat.le_refl _)]
    generalize formS s l = F at *
    repeat' (first
      | ((first
      | ((with_reducible apply AP.k_any); first
              | refine AP.S ?_
              | refine AP.E ?_
              | refine AP.T ?_
              | refine AP.A ?_ | refine AP.AB 0 ?_ | refine AP.AB 1 ?_ | refine AP.AL ?_
              | refine AP.LB ?_ | refine AP.TB ?_ | refine AP.IX ?_ | refine AP.SF ?_ | refine AP.SV ?_ | refine AP.CV ?_ | refine AP.CO ?_ | refine AP.FV ?_  | refine AP.PF ?_)
      ) <;> (try simp only [d1, htm, nx, q4, rn, fq, Nat.mul_one, Bool.and_true, Bool.and_false, Nat.reduceBEq, Nat.reduceAdd, Nat.reduceSub, BEq.rfl]))
      | ((with_reducible apply AP.k_nil); first | (refine AP.nil (hQ' _ ?_); clear hQ' Q') | refine AP.nil ?_)
      | ((with_reducible apply CP.k_reg); refine cp_regG fun Q' hQ' => ?_)
        | (with_reducible apply CP.k_reg1; refine cp_region ?_)
        | ((with_reducible apply CP.k_cond); first | refine cp_condT rfl ?_ | refine cp_condF rfl ?_ | refine cp_cond rfl (fun hc => ?_) (fun hc => ?_))
        | refine CP.go ?_
        | (simp only [List.append_eq, List.cons_append, List.nil_append]))
    (exact RetQ.A [] (by exact ⟨rfl, rfl⟩))
theorem dform_ac (s : ByteArray) (l : List Int) (hs : s.size ≤ 1000) (hl : l.length ≤ 1000) : AC Try.prog 70 [.sc (.string s), .sl none 1 (l.map eI)] [] (fun v bs' => v = bs none (formS s l) ∧ bs' = []) := by
  have hsl : s.data.toList.length = s.size := by simp
  have hlen : (s.data.toList.map eB).length + 1 ≤ 1000000000 := by simp; omega
  have e0 : roE (s.data.toList.map eB ++ [[AV.sc (.int .u8 0)]]) = (formS s (l.take 0)).map eB := by
    rw [show s.data.toList.map eB ++ [[AV.sc (.int .u8 0)]] = (formS s (l.take 0)).map eB by simp [formS, numS], ro_B]
  refine AC.N Try.func70 Try.ntmps70 ?_
  intro X hρ hmks
  simp only [nx, Nat.reduceAdd, Nat.reduceSub, BEq.rfl]
  refine CP.gh gh_slot ?_; simp only [nx, Nat.reduceAdd, Nat.reduceSub, BEq.rfl]
  repeat' (first
    | ((first
    | ((with_reducible apply AP.k_any); first
            | refine AP.S ?_
            | refine AP.E ?_
            | refine AP.A ?_ | refine AP.AB 0 ?_ | refine AP.AB 1 ?_ | refine AP.AL ?_
            | refine AP.LB ?_ | refine AP.TB ?_ | refine AP.IX ?_ | refine AP.SF ?_ | refine AP.SV ?_ | refine AP.CV ?_ | refine AP.CO ?_ | refine AP.FV ?_ | refine AP.CS ?_ | refine AP.PF ?_)
    ) <;> (try simp only [ nx, q4, rn, fq, Nat.mul_one, Bool.and_true, Bool.and_false, Nat.reduceBEq, Nat.reduceAdd, Nat.reduceSub, BEq.rfl]))
    | ((with_reducible apply AP.k_nil); first | (refine AP.nil (hQ' _ ?_); clear hQ' Q') | refine AP.nil ?_)
    | ((with_reducible apply CP.k_reg); refine cp_regG fun Q' hQ' => ?_)
      | (with_reducible apply CP.k_reg1; refine cp_region ?_)
      | ((with_reducible apply CP.k_cond); first | refine cp_condT rfl ?_ | refine cp_condF rfl ?_ | refine cp_cond rfl (fun hc => ?_) (fun hc => ?_))
      | refine CP.go ?_
      | (simp only [List.append_eq, List.cons_append, List.nil_append]))
  refine CP.gh (gh_fzS (b := 0) rfl) ?_
  simp only [e0, nx, q4, rn, fq, Nat.mul_one, Bool.and_true, Bool.and_false, Nat.reduceBEq, Nat.reduceAdd, Nat.reduceSub, BEq.rfl]
  refine cp_loopS [5, 6, 12, 13, 14, 15, 16, 17, 18, 19, 20, 21, 22, 23, 24, 25] (fun i : Nat => l.length - i) (fun i => i ≤ l.length) (fun i => [(6, I i), (5, bs none (formS s (l.take i)))]) (fun _ => []) 0 (Nat.zero_le _) (by exact Gh.W) ?_
  intro i hi
  simp only [setT, deT, setB, List.set_cons_succ, List.set_cons_zero]
  by_cases hlt : i < l.length
  · have hw : IntKind.i64.wrap ((i : Int) + 1) = ((i + 1 : Nat) : Int) := wrap_i64 (by omega) (by omega)
    have d1 : decide ((i : Int) < (l.length : Int)) = true := by simp; omega
    have hx : (l.map eI)[i]? = some (eI l[i]) := by simp [hlt]
    have hft := formS_take s l hlt
    have hln := formS_len s (l.take i)
    rw [List.length_take] at hln
    have h3 := (rput_ac (IntKind.u64.wrap l[i]).toNat 8 (by omega) (wrap_u64_lt l[i])).ro (r2 := bs none (intS l[i])) (by simp only [AV.ro, ro_B]; rfl)
    rw [← u64_nn] at h3
    have hil : (intS l[i]).length = 8 := intS_length _
    generalize l[i] = n at *
    generalize intS n = z at *
    have h4 := (cat_ac (formS s (l.take i)) z (by omega) (by omega)).ro (r2 := bs none (formS s (l.take i) ++ z)) (by simp only [AV.ro, ro_B])
    rw [← hft] at h4
    generalize formS s (l.take i) = F at *
    repeat' (first
      | ((first
      | ((with_reducible apply AP.k_any); first
              | refine AP.S ?_
              | refine AP.E ?_
              | refine AP.A ?_ | refine AP.AB 0 ?_ | refine AP.AB 1 ?_ | refine AP.AL ?_
              | refine AP.LB ?_ | refine AP.TB ?_ | refine AP.IX ?_ | refine AP.SF ?_ | refine AP.SV ?_ | refine AP.CV ?_ | refine AP.CO ?_ | refine AP.FV ?_ | ((with_reducible apply AP.k_any); refine AP.C (h3) ?_) | ((with_reducible apply AP.k_any); refine AP.C (h4) ?_) | refine AP.PF ?_)
      ) <;> (try simp only [d1, nx, q4, rn, fq, Nat.mul_one, Bool.and_true, Bool.and_false, Nat.reduceBEq, Nat.reduceAdd, Nat.reduceSub, BEq.rfl]))
      | ((with_reducible apply AP.k_nil); first | (refine AP.nil (hQ' _ ?_); clear hQ' Q') | refine AP.nil ?_)
      | ((with_reducible apply CP.k_reg); refine cp_regG fun Q' hQ' => ?_)
        | (with_reducible apply CP.k_reg1; refine cp_region ?_)
        | ((with_reducible apply CP.k_cond); first | refine cp_condT rfl ?_ | refine cp_condF rfl ?_ | refine cp_cond rfl (fun hc => ?_) (fun hc => ?_))
        | refine CP.go ?_
        | (simp only [List.append_eq, List.cons_append, List.nil_append]))
    simp only [hw]
    exact ⟨i + 1, by omega, by omega, by exact Gh.W⟩
  · obtain rfl : i = l.length := by omega
    have d1 : decide ((l.length : Int) < (l.length : Int)) = false := by simp
    rw [List.take_of_length_le (Nat.le_refl _)]
    generalize formS s l = F at *
    repeat' (first
      | ((first
      | ((with_reducible apply AP.k_any); first
              | refine AP.S ?_
              | refine AP.E ?_
              | refine AP.A ?_ | refine AP.AB 0 ?_ | refine AP.AB 1 ?_ | refine AP.AL ?_
              | refine AP.LB ?_ | refine AP.TB ?_ | refine AP.IX ?_ | refine AP.SF ?_ | refine AP.SV ?_ | refine AP.CV ?_ | refine AP.CO ?_ | refine AP.FV ?_  | refine AP.PF ?_)
      ) <;> (try simp only [d1, nx, q4, rn, fq, Nat.mul_one, Bool.and_true, Bool.and_false, Nat.reduceBEq, Nat.reduceAdd, Nat.reduceSub, BEq.rfl]))
      | ((with_reducible apply AP.k_nil); first | (refine AP.nil (hQ' _ ?_); clear hQ' Q') | refine AP.nil ?_)
      | ((with_reducible apply CP.k_reg); refine cp_regG fun Q' hQ' => ?_)
        | (with_reducible apply CP.k_reg1; refine cp_region ?_)
        | ((with_reducible apply CP.k_cond); first | refine cp_condT rfl ?_ | refine cp_condF rfl ?_ | refine cp_cond rfl (fun hc => ?_) (fun hc => ?_))
        | refine CP.go ?_
        | (simp only [List.append_eq, List.cons_append, List.nil_append]))
    (exact RetQ.A [] (by exact ⟨rfl, rfl⟩))
theorem dderive_ac (key : List UInt8) (s : ByteArray) (l : List Int) (hk : key.length ≤ 100000) (hs : s.size ≤ 1000) (hl : l.length ≤ 1000) : AC Try.prog 41 [bs none key, .sc (.string s), .sl none 1 (l.map eI)] [] (fun v bs' => v = bs none (deriveS key s l) ∧ bs' = []) := by
  have h1 := dform_ac s l hs hl
  have hfl := formS_len s l
  have h5 := dhmac_ac key (formS s l) (by omega) (by omega)
  have h6 := (dbytes03_ac (hmacS key (formS s l)) (hmacS_len _ _)).ro (r2 := bs none (hmacS key (formS s l))) (by simp only [AV.ro, ro_B])
  unfold deriveS
  generalize hmacS key (formS s l) = t at *
  generalize formS s l = F at *
  refine AC.N Try.func41 Try.ntmps41 ?_
  intro X hρ hmks
  simp only [nx, Nat.reduceAdd, Nat.reduceSub, BEq.rfl]
  repeat' (first
    | ((first
    | ((with_reducible apply AP.k_any); first
            | refine AP.S ?_
            | refine AP.A ?_ | refine AP.AB 0 ?_ | refine AP.AB 1 ?_ | refine AP.AL ?_
            | refine AP.LB ?_ | refine AP.TB ?_ | refine AP.IX ?_ | refine AP.SF ?_ | refine AP.SV ?_ | refine AP.CV ?_ | refine AP.CO ?_ | refine AP.FV ?_  | refine AP.PF ?_)
    ) <;> (try simp only [ nx, q4, rn, fq, Nat.mul_one, Bool.and_true, Bool.and_false, Nat.reduceBEq, Nat.reduceAdd, Nat.reduceSub, BEq.rfl]))
    | ((with_reducible apply AP.k_nil); first | (refine AP.nil (hQ' _ ?_); clear hQ' Q') | refine AP.nil ?_)
    | ((with_reducible apply CP.k_reg); refine cp_regG fun Q' hQ' => ?_)
      | (with_reducible apply CP.k_reg1; refine cp_region ?_)
      | ((with_reducible apply CP.k_cond); first | refine cp_condT rfl ?_ | refine cp_condF rfl ?_ | refine cp_cond rfl (fun hc => ?_) (fun hc => ?_))
      | refine CP.go ?_
      | (simp only [List.append_eq, List.cons_append, List.nil_append]))
  (exact RetQ.A [] (by exact ⟨rfl, rfl⟩))
end Go.Proofs.Ytnjfchigdpifmaa

namespace Go.Proofs.Ytnjfchigdpifmaa
set_option linter.unusedVariables false
set_option linter.unusedSimpArgs false
set_option maxHeartbeats 8000000
open Go.RowKit
set_option maxRecDepth 100000
def lkS : ByteArray := ⟨#[108, 105, 110, 107]⟩
def tagS (root : List UInt8) (p : Pkt) : List UInt8 := hmacS (deriveS root lkS [p.frm, p.to, p.epoch]) (headS p)
theorem tagS_len (root : List UInt8) (p : Pkt) : (tagS root p).length = 32 := rfl
theorem done_ac (b : List UInt8) (hb : b.length ≤ 65536) : AC Try.prog 49 [.bp 0 0 0] [wB (false, b)] (fun v bs' => v = .tu [bs none b, I 0] ∧ bs' = [wD (false, b)]) := wdone_ac (false, b) hb
theorem ltag_ac (root : List UInt8) (p : Pkt) (hr : root.length ≤ 10000) (hp : p.body.length ≤ 60000) : AC Try.prog 40 [bs none root, .ag (eP p)] [] (fun v bs' => v = tg (tagS root p) ∧ bs' = []) := by
  have hl := headS_len p
  have h1 := head_ac p hp
  have h2 := done_ac (headS p) (by omega)
  have h3 := hderive_ac root lkS [p.frm, p.to, p.epoch] (by omega) (by decide) (by simp)
  have hd : (deriveS root lkS [p.frm, p.to, p.epoch]).length = 32 := hmacS_len _ _
  have h4 := hmac_ac (deriveS root lkS [p.frm, p.to, p.epoch]) (headS p) (by omega) (by omega)
  unfold tagS
  generalize deriveS root lkS [p.frm, p.to, p.epoch] = k at *
  generalize headS p = hd at *
  generalize hmacS k hd = t at *
  refine AC.N Try.func40 Try.ntmps40 ?_
  intro X hρ hmks
  simp only [nx, Nat.reduceAdd, Nat.reduceSub, BEq.rfl]
  refine CP.gh gh_slot ?_; simp only [nx, Nat.reduceAdd, Nat.reduceSub, BEq.rfl]
  refine CP.gh gh_slot ?_; simp only [nx, Nat.reduceAdd, Nat.reduceSub, BEq.rfl]
  refine CP.gh gh_slot ?_; simp only [nx, Nat.reduceAdd, Nat.reduceSub, BEq.rfl]
  refine CP.gh gh_slot ?_; simp only [nx, Nat.reduceAdd, Nat.reduceSub, BEq.rfl]
  repeat' (first
    | ((first
    | ((with_reducible apply AP.k_any); first
            | refine AP.S ?_
            | refine AP.A ?_ | refine AP.AB 0 ?_ | refine AP.AB 1 ?_ | refine AP.AL ?_
            | refine AP.LB ?_ | refine AP.TB ?_ | refine AP.IX ?_ | refine AP.SF ?_ | refine AP.SV ?_ | refine AP.CV ?_ | refine AP.CO ?_ | refine AP.FV ?_ | ((with_reducible apply AP.k_any); refine AP.B 2 (h1) ?_) | ((with_reducible apply AP.k_any); refine AP.B 0 (h2) ?_) | ((with_reducible apply AP.k_any); refine AP.C (h3) ?_) | ((with_reducible apply AP.k_any); refine AP.C (h4) ?_) | refine AP.PF ?_)
    ) <;> (try simp only [ nx, q4, rn, fq, Nat.mul_one, Bool.and_true, Bool.and_false, Nat.reduceBEq, Nat.reduceAdd, Nat.reduceSub, BEq.rfl]))
    | ((with_reducible apply AP.k_nil); first | (refine AP.nil (hQ' _ ?_); clear hQ' Q') | refine AP.nil ?_)
    | ((with_reducible apply CP.k_reg); refine cp_regG fun Q' hQ' => ?_)
      | (with_reducible apply CP.k_reg1; refine cp_region ?_)
      | ((with_reducible apply CP.k_cond); first | refine cp_condT rfl ?_ | refine cp_condF rfl ?_ | refine cp_cond rfl (fun hc => ?_) (fun hc => ?_))
      | refine CP.go ?_
      | (simp only [List.append_eq, List.cons_append, List.nil_append]))
  (exact RetQ.A [] (by exact ⟨rfl, rfl⟩))
theorem right_ac (root : List UInt8) (p : Pkt) (hr : root.length ≤ 10000) (hp : p.body.length ≤ 60000) (ht : p.tag.length = 32) : AC Try.prog 15 [bs none root, .ag (eP p)] [] (fun v bs' => v = B (decide (p.tag = tagS root p)) ∧ bs' = []) := by
  have h1 := ltag_ac root p hr hp
  have h2 := hsame_ac p.tag (tagS root p) ht (tagS_len root p)
  generalize decide (p.tag = tagS root p) = r at *
  generalize tagS root p = t at *
  refine AC.N Try.func15 Try.ntmps15 ?_
  intro X hρ hmks
  simp only [nx, Nat.reduceAdd, Nat.reduceSub, BEq.rfl]
  refine CP.gh gh_slot ?_; simp only [nx, Nat.reduceAdd, Nat.reduceSub, BEq.rfl]
  repeat' (first
    | ((first
    | ((with_reducible apply AP.k_any); first
            | refine AP.S ?_
            | refine AP.A ?_ | refine AP.AB 0 ?_ | refine AP.AB 1 ?_ | refine AP.AL ?_
            | refine AP.LB ?_ | refine AP.TB ?_ | refine AP.IX ?_ | refine AP.SF ?_ | refine AP.SV ?_ | refine AP.CV ?_ | refine AP.CO ?_ | refine AP.FV ?_  | refine AP.PF ?_)
      | ((with_reducible apply DW.k_any); first
        | refine DW.R ?_ | refine DW.R' ?_ | refine DW.W ?_ | refine DW.W' ?_ | refine DW.RA ?_ | refine DW.A 0 ?_ | refine DW.A 1 ?_ | refine DW.A 2 ?_ | refine DW.A' 0 ?_ | refine DW.A' 2 ?_ | ((fail_if_success refine DW.known rfl ?_); refine DW.G (fun hg => ?_) (fun hg => ?_))
        | refine DW.RX ?_ | refine DW.WX ?_ | refine DW.WX' ?_)
    | ((with_reducible apply DW.k_any); first
                | refine DW.R ?_ | refine DW.R' ?_ | refine DW.W ?_ | refine DW.W' ?_
                | (refine DW.known rfl ?_; (with_reducible first | apply DW.sx 2 | apply DW.sxN 2); (iterate 2 (focus (simp only [ft, nm, Nat.reduceAdd, Nat.reduceBEq, List.getElem?_cons_zero, List.getElem?_cons_succ]; exact rfl))); (focus (intro X V; simp only [ft, nm, Nat.reduceAdd, Nat.reduceBEq]; (try (refine AP.Y ?_; dsimp only)); (first  | fail); (try simp only [nx, Nat.reduceAdd, Nat.reduceSub, BEq.rfl]); refine AP.nil ?_; (first | refine ⟨trivial, rfl, ?_⟩ | refine ⟨rfl, rfl, ?_⟩); (repeat' (first | exact Mg.nil | apply Mg.keep rfl | apply Mg.take rfl)); done)); (focus (refine Exists.intro (fun _ => 0) ?_; apply Exists.intro; (repeat' (first | exact Mg.nil | apply Mg.keep rfl | apply Mg.take rfl)); done)); (iterate 2 (focus (exact rfl))))
                | ((fail_if_success refine DW.known rfl ?_); refine DW.G (fun hg => ?_) (fun hg => ?_))
    )
    ) <;> (try simp only [ nx, q4, rn, fq, Nat.mul_one, Bool.and_true, Bool.and_false, Nat.reduceBEq, Nat.reduceAdd, Nat.reduceSub, BEq.rfl]))
    | ((with_reducible apply AP.k_nil); first | (refine AP.nil (hQ' _ ?_); clear hQ' Q') | refine AP.nil ?_)
    | ((with_reducible apply CP.k_drw); refine cp_drwX fun Q' hQ' => ?_)
    | ((with_reducible apply CP.k_drw1); refine cp_drawX ?_)
    | ((with_reducible apply DW.k_nil); refine DW.nl ?_; first | (refine hQ' _ ?_; clear hQ' Q') | skip)
    | ((with_reducible apply CP.k_reg); refine cp_regG fun Q' hQ' => ?_)
      | (with_reducible apply CP.k_reg1; refine cp_region ?_)
      | ((with_reducible apply CP.k_cond); first | refine cp_condT rfl ?_ | refine cp_condF rfl ?_ | refine cp_cond rfl (fun hc => ?_) (fun hc => ?_))
      | refine CP.go ?_
      | (simp only [List.append_eq, List.cons_append, List.nil_append]))
  (exact RetQ.A [] (by exact ⟨rfl, rfl⟩))
abbrev ePO (p : Pkt) : List AV := [I p.frm, I p.to, I p.epoch, I p.boot, I p.seqn, bs (some tU) p.body] ++ tagC p.tag
theorem print_ac (p : Pkt) (hp : p.body.length ≤ 60000) (ht : p.tag.length = 32) : AC Try.prog 18 [.ag (eP p)] [] (fun v bs' => v = .tu [if mayP p then bs none (headS p ++ p.tag) else bs none [], I (if mayP p then 0 else 2)] ∧ bs' = []) := by
  have hl := headS_len p
  have h0 := mayP_ac p
  have h1 := head_ac p hp
  have h2 := wtag_ac (false, headS p) p.tag (by dsimp only; omega) ht
  rw [addS_ok (by omega)] at h2
  have h3 := done_ac (headS p ++ p.tag) (by simp; omega)
  generalize headS p ++ p.tag = x at *
  generalize headS p = hd at *
  cases hm : mayP p with
  | true =>
    rw [hm] at h0
    refine AC.N Try.func18 Try.ntmps18 ?_
    intro X hρ hmks
    simp only [nx, Nat.reduceAdd, Nat.reduceSub, BEq.rfl]
    refine CP.gh gh_slot ?_; simp only [nx, Nat.reduceAdd, Nat.reduceSub, BEq.rfl]
    refine CP.gh gh_slot ?_; simp only [nx, Nat.reduceAdd, Nat.reduceSub, BEq.rfl]
    refine CP.gh gh_slot ?_; simp only [nx, Nat.reduceAdd, Nat.reduceSub, BEq.rfl]
    repeat' (first
      | ((first
      | ((with_reducible apply AP.k_any); first
              | refine AP.S ?_
              | refine AP.A ?_ | refine AP.AB 0 ?_ | refine AP.AB 1 ?_ | refine AP.AL ?_
              | refine AP.LB ?_ | refine AP.TB ?_ | refine AP.IX ?_ | refine AP.SF ?_ | refine AP.SV ?_ | refine AP.CV ?_ | refine AP.CO ?_ | refine AP.FV ?_ | ((with_reducible apply AP.k_any); refine AP.B 2 (h1) ?_) | ((with_reducible apply AP.k_any); refine AP.B 0 (h2) ?_) | ((with_reducible apply AP.k_any); refine AP.B 0 (h3) ?_) | refine AP.PF ?_)
        | ((with_reducible apply DW.k_any); first
          | refine DW.R ?_ | refine DW.R' ?_ | refine DW.W ?_ | refine DW.W' ?_ | refine DW.RA ?_ | refine DW.A 0 ?_ | refine DW.A 1 ?_ | refine DW.A 2 ?_ | refine DW.A' 0 ?_ | refine DW.A' 2 ?_ | ((fail_if_success refine DW.known rfl ?_); refine DW.G (fun hg => ?_) (fun hg => ?_))
          | refine DW.RX ?_ | refine DW.WX ?_ | refine DW.WX' ?_)
      | ((with_reducible apply DW.k_any); first
                  | refine DW.R ?_ | refine DW.R' ?_ | refine DW.W ?_ | refine DW.W' ?_
                  | (refine DW.known rfl ?_; (with_reducible first | apply DW.sx 2 | apply DW.sxN 2); (iterate 2 (focus (simp only [ft, nm, Nat.reduceAdd, Nat.reduceBEq, List.getElem?_cons_zero, List.getElem?_cons_succ]; exact rfl))); (focus (intro X V; simp only [ft, nm, Nat.reduceAdd, Nat.reduceBEq]; (try (refine AP.Y ?_; dsimp only)); (first | ((with_reducible apply AP.k_any); refine AP.B 2 (h1) ?_) | ((with_reducible apply AP.k_any); refine AP.B 0 (h2) ?_) | ((with_reducible apply AP.k_any); refine AP.B 0 (h3) ?_) | fail); (try simp only [nx, Nat.reduceAdd, Nat.reduceSub, BEq.rfl]); refine AP.nil ?_; (first | refine ⟨trivial, rfl, ?_⟩ | refine ⟨rfl, rfl, ?_⟩); (repeat' (first | exact Mg.nil | apply Mg.keep rfl | apply Mg.take rfl)); done)); (focus (refine Exists.intro (fun _ => 0) ?_; apply Exists.intro; (repeat' (first | exact Mg.nil | apply Mg.keep rfl | apply Mg.take rfl)); done)); (iterate 2 (focus (exact rfl))))
                  | ((fail_if_success refine DW.known rfl ?_); refine DW.G (fun hg => ?_) (fun hg => ?_))
      )
      ) <;> (try simp only [ nx, q4, rn, fq, Nat.mul_one, Bool.and_true, Bool.and_false, Nat.reduceBEq, Nat.reduceAdd, Nat.reduceSub, BEq.rfl]))
      | ((with_reducible apply AP.k_nil); first | (refine AP.nil (hQ' _ ?_); clear hQ' Q') | refine AP.nil ?_)
      | ((with_reducible apply CP.k_drw); refine cp_drwX fun Q' hQ' => ?_)
      | ((with_reducible apply CP.k_drw1); refine cp_drawX ?_)
      | ((with_reducible apply DW.k_nil); refine DW.nl ?_; first | (refine hQ' _ ?_; clear hQ' Q') | skip)
      | ((with_reducible apply CP.k_reg); refine cp_regG fun Q' hQ' => ?_)
        | (with_reducible apply CP.k_reg1; refine cp_region ?_)
        | ((with_reducible apply CP.k_cond); first | refine cp_condT rfl ?_ | refine cp_condF rfl ?_ | refine cp_cond rfl (fun hc => ?_) (fun hc => ?_))
        | refine CP.go ?_
        | (simp only [List.append_eq, List.cons_append, List.nil_append]))
    (exact RetQ.A [] (by exact ⟨rfl, rfl⟩))
  | false =>
    rw [hm] at h0
    refine AC.N Try.func18 Try.ntmps18 ?_
    intro X hρ hmks
    simp only [nx, Nat.reduceAdd, Nat.reduceSub, BEq.rfl]
    repeat' (first
      | ((first
      | ((with_reducible apply AP.k_any); first
              | refine AP.S ?_
              | refine AP.A ?_ | refine AP.AB 0 ?_ | refine AP.AB 1 ?_ | refine AP.AL ?_
              | refine AP.LB ?_ | refine AP.TB ?_ | refine AP.IX ?_ | refine AP.SF ?_ | refine AP.SV ?_ | refine AP.CV ?_ | refine AP.CO ?_ | refine AP.FV ?_  | refine AP.PF ?_)
        | ((with_reducible apply DW.k_any); first
          | refine DW.R ?_ | refine DW.R' ?_ | refine DW.W ?_ | refine DW.W' ?_ | refine DW.RA ?_ | refine DW.A 0 ?_ | refine DW.A 1 ?_ | refine DW.A 2 ?_ | refine DW.A' 0 ?_ | refine DW.A' 2 ?_ | ((fail_if_success refine DW.known rfl ?_); refine DW.G (fun hg => ?_) (fun hg => ?_))
          | refine DW.RX ?_ | refine DW.WX ?_ | refine DW.WX' ?_)
      | ((with_reducible apply DW.k_any); first
                  | refine DW.R ?_ | refine DW.R' ?_ | refine DW.W ?_ | refine DW.W' ?_
                  | (refine DW.known rfl ?_; (with_reducible first | apply DW.sx 2 | apply DW.sxN 2); (iterate 2 (focus (simp only [ft, nm, Nat.reduceAdd, Nat.reduceBEq, List.getElem?_cons_zero, List.getElem?_cons_succ]; exact rfl))); (focus (intro X V; simp only [ft, nm, Nat.reduceAdd, Nat.reduceBEq]; (try (refine AP.Y ?_; dsimp only)); (first  | fail); (try simp only [nx, Nat.reduceAdd, Nat.reduceSub, BEq.rfl]); refine AP.nil ?_; (first | refine ⟨trivial, rfl, ?_⟩ | refine ⟨rfl, rfl, ?_⟩); (repeat' (first | exact Mg.nil | apply Mg.keep rfl | apply Mg.take rfl)); done)); (focus (refine Exists.intro (fun _ => 0) ?_; apply Exists.intro; (repeat' (first | exact Mg.nil | apply Mg.keep rfl | apply Mg.take rfl)); done)); (iterate 2 (focus (exact rfl))))
                  | ((fail_if_success refine DW.known rfl ?_); refine DW.G (fun hg => ?_) (fun hg => ?_))
      )
      ) <;> (try simp only [ nx, q4, rn, fq, Nat.mul_one, Bool.and_true, Bool.and_false, Nat.reduceBEq, Nat.reduceAdd, Nat.reduceSub, BEq.rfl]))
      | ((with_reducible apply AP.k_nil); first | (refine AP.nil (hQ' _ ?_); clear hQ' Q') | refine AP.nil ?_)
      | ((with_reducible apply CP.k_drw); refine cp_drwX fun Q' hQ' => ?_)
      | ((with_reducible apply CP.k_drw1); refine cp_drawX ?_)
      | ((with_reducible apply DW.k_nil); refine DW.nl ?_; first | (refine hQ' _ ?_; clear hQ' Q') | skip)
      | ((with_reducible apply CP.k_reg); refine cp_regG fun Q' hQ' => ?_)
        | (with_reducible apply CP.k_reg1; refine cp_region ?_)
        | ((with_reducible apply CP.k_cond); first | refine cp_condT rfl ?_ | refine cp_condF rfl ?_ | refine cp_cond rfl (fun hc => ?_) (fun hc => ?_))
        | refine CP.go ?_
        | (simp only [List.append_eq, List.cons_append, List.nil_append]))
    (exact RetQ.A [] (by exact ⟨rfl, rfl⟩))
end Go.Proofs.Ytnjfchigdpifmaa

namespace Go.Proofs.Ytnjfchigdpifmaa
set_option linter.unusedVariables false
set_option linter.unusedSimpArgs false
set_option maxHeartbeats 8000000
open Go.RowKit
set_option maxRecDepth 100000
theorem sclone_ac (a : List UInt8) (ha : a.length ≤ 100000000) :
    AC Try.prog 39 [bs none a] [] (fun v bs' => v = bs (some tU) a ∧ bs' = []) := by
  refine AC.N Try.func39 Try.ntmps39 ?_
  intro X hρ hmks
  simp only [nx, Nat.reduceAdd, Nat.reduceSub, BEq.rfl]
  repeat' (first
    | ((first
    | ((with_reducible apply AP.k_any); first
             | refine AP.S ?_
             | (refine AP.V (fun c hnil => ?_); simp only [nz])
      )
    
    
    )
      <;> (try simp only [nx, Nat.reduceAdd, Nat.reduceSub, BEq.rfl]))
    | ((with_reducible apply AP.k_nil); first
        | (refine AP.nil (hQ' _ ?_); clear hQ' Q')
        | refine AP.nil ?_)
    | ((with_reducible apply CP.k_reg); refine cp_regG fun Q' hQ' => ?_)
      | (with_reducible apply CP.k_reg1; refine cp_region ?_)
      | ((with_reducible apply CP.k_cond); first | refine cp_condT rfl ?_ | refine cp_condF rfl ?_ | refine cp_cond rfl (fun hc => ?_) (fun hc => ?_))
      | refine CP.go ?_
      | (simp only [List.append_eq, List.cons_append, List.nil_append]))
  · obtain rfl : a = [] := by simpa using hnil hc
    (exact RetQ.A [] (by exact ⟨rfl, rfl⟩))
  · (refine RetQ.B [] ?_; (try dsimp only [resV, List.getD_cons_succ, List.getD_cons_zero]); (exact ⟨by simp, rfl⟩))
theorem nr_tg (t : List UInt8) : NR (tg t) := by
  apply NR.ag
  intro a ha
  rw [← mixT_32] at ha
  obtain ⟨j, _, rfl⟩ := List.mem_map.1 ha
  exact NR.sc
theorem seal_ac (root : List UInt8) (p : Pkt) (hr : root.length ≤ 10000) (hp : p.body.length ≤ 60000) : AC Try.prog 13 [bs none root, .ag (eP p)] [] (fun v bs' => v = .ag (ePO { p with tag := tagS root p }) ∧ bs' = []) := by
  have h1 := sclone_ac p.body (by omega)
  have h2 := ltag_ac root p hr hp
  generalize tagS root p = t at *
  refine AC.N Try.func13 Try.ntmps13 ?_
  intro X hρ hmks
  simp only [nx, Nat.reduceAdd, Nat.reduceSub, BEq.rfl]
  refine CP.gh gh_slot ?_; simp only [nx, Nat.reduceAdd, Nat.reduceSub, BEq.rfl]
  refine CP.gh gh_slot ?_; simp only [nx, Nat.reduceAdd, Nat.reduceSub, BEq.rfl]
  repeat' (first
    | ((first
    | ((with_reducible apply AP.k_any); first
            | refine AP.S ?_
            | refine AP.A ?_ | refine AP.AB 0 ?_ | refine AP.AB 1 ?_ | refine AP.AL ?_
            | refine AP.LB ?_ | refine AP.TB ?_ | refine AP.IX ?_ | refine AP.SF ?_ | refine AP.SV ?_ | refine AP.CV ?_ | refine AP.CO ?_ | refine AP.FV ?_ | ((with_reducible apply AP.k_any); refine AP.CL (h2) (hnr := nr_tg t) ?_) | refine AP.PF ?_)
    ) <;> (try simp only [ nx, q4, rn, fq, Nat.mul_one, Bool.and_true, Bool.and_false, Nat.reduceBEq, Nat.reduceAdd, Nat.reduceSub, BEq.rfl]))
    | ((with_reducible apply AP.k_nil); first | (refine AP.nil (hQ' _ ?_); clear hQ' Q') | refine AP.nil ?_)
    | ((with_reducible apply CP.k_reg); refine cp_regG fun Q' hQ' => ?_)
      | (with_reducible apply CP.k_reg1; refine cp_region ?_)
      | ((with_reducible apply CP.k_cond); first | refine cp_condT rfl ?_ | refine cp_condF rfl ?_ | refine cp_cond rfl (fun hc => ?_) (fun hc => ?_))
      | refine CP.go ?_
      | (simp only [List.append_eq, List.cons_append, List.nil_append]))
  (refine RetQ.B [] ?_; (try dsimp only [resV, List.getD_cons_succ, List.getD_cons_zero]); (exact ⟨rfl, rfl⟩))
theorem numS_take (l : List Int) {i : Nat} (h : i < l.length) : numS (l.take (i + 1)) = numS (l.take i) ++ intS l[i] := by
  rw [List.take_succ_eq_append_getElem h, numS_snoc]
theorem headS_num (p : Pkt) : headS p = numS [p.frm, p.to, p.epoch, p.boot, p.seqn] ++ (putS p.body.length 4 ++ p.body) := by
  simp [headS, numS]
theorem dhead_ac (p : Pkt) (hp : p.body.length ≤ 60000) : AC Try.prog 42 [.ag (eP p)] [] (fun v bs' => v = bs (some tU) (headS p) ∧ bs' = []) := by
  have h2 := (dbytes_ac p.body (by omega)).ro (r2 := bs none (putS p.body.length 4 ++ p.body)) (by simp only [AV.ro, ro_B])
  rw [headS_num]
  have hpl : (putS p.body.length 4 ++ p.body).length ≤ 70000 := by simp [putS_length]; omega
  generalize putS p.body.length 4 ++ p.body = y at *
  have hL : [p.frm, p.to, p.epoch, p.boot, p.seqn].length = 5 := rfl
  refine AC.N Try.func42 Try.ntmps42 ?_
  intro X hρ hmks
  simp only [nx, Nat.reduceAdd, Nat.reduceSub, BEq.rfl]
  refine CP.gh gh_slot ?_; simp only [nx, Nat.reduceAdd, Nat.reduceSub, BEq.rfl]
  repeat' (first
    | ((first
    | ((with_reducible apply AP.k_any); first
            | refine AP.S ?_
            | refine AP.E ?_
            | refine AP.A ?_ | refine AP.AB 0 ?_ | refine AP.AB 1 ?_ | refine AP.AL ?_
            | refine AP.LB ?_ | refine AP.TB ?_ | refine AP.IX ?_ | refine AP.SF ?_ | refine AP.SV ?_ | refine AP.CV ?_ | refine AP.CO ?_ | refine AP.FV ?_  | refine AP.PF ?_)
    ) <;> (try simp only [ nx, q4, rn, fq, Nat.mul_one, Bool.and_true, Bool.and_false, Nat.reduceBEq, Nat.reduceAdd, Nat.reduceSub, BEq.rfl]))
    | ((with_reducible apply AP.k_nil); first | (refine AP.nil (hQ' _ ?_); clear hQ' Q') | refine AP.nil ?_)
    | ((with_reducible apply CP.k_reg); refine cp_regG fun Q' hQ' => ?_)
      | (with_reducible apply CP.k_reg1; refine cp_region ?_)
      | ((with_reducible apply CP.k_cond); first | refine cp_condT rfl ?_ | refine cp_condF rfl ?_ | refine cp_cond rfl (fun hc => ?_) (fun hc => ?_))
      | refine CP.go ?_
      | (simp only [List.append_eq, List.cons_append, List.nil_append]))
  refine CP.gh (gh_nil (t := 3) (e := tU) (k := 1) rfl) ?_
  simp only [nx, Nat.reduceAdd, Nat.reduceSub, BEq.rfl]
  refine cp_loopS [3, 5, 17, 18, 19, 20, 21, 22, 23, 24, 25, 26, 27, 28, 29] (fun a : Nat × Nat => 5 - a.1) (fun a => a.1 ≤ 5) (fun a => [(5, I a.1), (3, .hd 2 a.2)]) (fun a => [(2, ⟨a.2, .r tU 1 ((numS ([p.frm, p.to, p.epoch, p.boot, p.seqn].take a.1)).map eB)⟩)]) (0, 1) (Nat.zero_le _) (by exact Gh.W) ?_
  rintro ⟨i, u⟩ hi
  simp only [setT, deT, setB, List.set_cons_succ, List.set_cons_zero]
  dsimp only at hi
  have hln := numS_length ([p.frm, p.to, p.epoch, p.boot, p.seqn].take i)
  by_cases hlt : i < 5
  · have hw : IntKind.i64.wrap ((i : Int) + 1) = ((i + 1 : Nat) : Int) := wrap_i64 (by omega) (by omega)
    have d5 : decide ((i : Int) < ((5 : Nat) : Int)) = true := by simp; omega
    have hx : ([[I p.frm], [I p.to], [I p.epoch], [I p.boot], [I p.seqn]] : List (List AV))[i]? = some [I ([p.frm, p.to, p.epoch, p.boot, p.seqn][i]'(by rw [hL]; exact hlt))] := by
      rcases i with _ | _ | _ | _ | _ | i <;> first | rfl | (exfalso; omega)
    have hn := numS_take [p.frm, p.to, p.epoch, p.boot, p.seqn] (i := i) (by rw [hL]; exact hlt)
    generalize [p.frm, p.to, p.epoch, p.boot, p.seqn][i]'(by rw [hL]; exact hlt) = n at *
    have h1 := dint_ac n
    have hil := intS_length n
    have hlen : ((numS ([p.frm, p.to, p.epoch, p.boot, p.seqn].take i)).map eB).length + ((intS n).map eB).length ≤ 1000000000 := by
      rw [List.length_map, List.length_map, hln, hil, List.length_take]; omega
    generalize numS ([p.frm, p.to, p.epoch, p.boot, p.seqn].take i) = W at *
    generalize intS n = z at *
    repeat' (first
      | ((first
      | ((with_reducible apply AP.k_any); first
              | refine AP.S ?_
              | refine AP.E ?_
              | refine AP.A ?_ | refine AP.AB 0 ?_ | refine AP.AB 1 ?_ | refine AP.AL ?_
              | refine AP.LB ?_ | refine AP.TB ?_ | refine AP.IX ?_ | refine AP.SF ?_ | refine AP.SV ?_ | refine AP.CV ?_ | refine AP.CO ?_ | refine AP.FV ?_  | refine AP.PF ?_)
      ) <;> (try simp only [d5, nx, q4, rn, fq, Nat.mul_one, Bool.and_true, Bool.and_false, Nat.reduceBEq, Nat.reduceAdd, Nat.reduceSub, BEq.rfl]))
      | ((with_reducible apply AP.k_nil); first | (refine AP.nil (hQ' _ ?_); clear hQ' Q') | refine AP.nil ?_)
      | ((with_reducible apply CP.k_reg); refine cp_regG fun Q' hQ' => ?_)
        | (with_reducible apply CP.k_reg1; refine cp_region ?_)
        | ((with_reducible apply CP.k_cond); first | refine cp_condT rfl ?_ | refine cp_condF rfl ?_ | refine cp_cond rfl (fun hc => ?_) (fun hc => ?_))
        | refine CP.go ?_
        | (simp only [List.append_eq, List.cons_append, List.nil_append]))
    simp only [hw]
    refine ⟨(i + 1, u + 1), by (dsimp only; omega), by (dsimp only; omega), ?_⟩
    dsimp only
    rw [hn, List.map_append]
    exact Gh.W
  · obtain rfl : i = 5 := by omega
    have d5 : decide (((5 : Nat) : Int) < ((5 : Nat) : Int)) = false := by simp
    rw [List.take_of_length_le (by rw [hL]; omega)] at hln ⊢
    have hlen : ((numS [p.frm, p.to, p.epoch, p.boot, p.seqn]).map eB).length + (y.map eB).length ≤ 1000000000 := by
      rw [List.length_map, List.length_map, hln, hL]; omega
    repeat' (first
      | ((first
      | ((with_reducible apply AP.k_any); first
              | refine AP.S ?_
              | refine AP.E ?_
              | refine AP.A ?_ | refine AP.AB 0 ?_ | refine AP.AB 1 ?_ | refine AP.AL ?_
              | refine AP.LB ?_ | refine AP.TB ?_ | refine AP.IX ?_ | refine AP.SF ?_ | refine AP.SV ?_ | refine AP.CV ?_ | refine AP.CO ?_ | refine AP.FV ?_  | refine AP.PF ?_)
      ) <;> (try simp only [d5, nx, q4, rn, fq, Nat.mul_one, Bool.and_true, Bool.and_false, Nat.reduceBEq, Nat.reduceAdd, Nat.reduceSub, BEq.rfl]))
      | ((with_reducible apply AP.k_nil); first | (refine AP.nil (hQ' _ ?_); clear hQ' Q') | refine AP.nil ?_)
      | ((with_reducible apply CP.k_reg); refine cp_regG fun Q' hQ' => ?_)
        | (with_reducible apply CP.k_reg1; refine cp_region ?_)
        | ((with_reducible apply CP.k_cond); first | refine cp_condT rfl ?_ | refine cp_condF rfl ?_ | refine cp_cond rfl (fun hc => ?_) (fun hc => ?_))
        | refine CP.go ?_
        | (simp only [List.append_eq, List.cons_append, List.nil_append]))
    (refine RetQ.B [] ?_; (try dsimp only [resV, List.getD_cons_succ, List.getD_cons_zero]); (exact ⟨by simp, rfl⟩))
theorem dtag_ac' (t : List UInt8) (ht : t.length = 32) : AC Try.prog 50 [tg t] [] (fun v bs' => v = bs none t ∧ bs' = []) := by
  have h1 := (dbytes03_ac t ht).ro (r2 := bs none t) (by simp only [AV.ro, ro_B])
  refine AC.N Try.func50 Try.ntmps50 ?_
  intro X hρ hmks
  simp only [nx, Nat.reduceAdd, Nat.reduceSub, BEq.rfl]
  repeat' (first
    | ((first
    | ((with_reducible apply AP.k_any); first
            | refine AP.S ?_
            | refine AP.A ?_ | refine AP.AB 0 ?_ | refine AP.AB 1 ?_ | refine AP.AL ?_
            | refine AP.LB ?_ | refine AP.TB ?_ | refine AP.IX ?_ | refine AP.SF ?_ | refine AP.SV ?_ | refine AP.CV ?_ | refine AP.CO ?_ | refine AP.FV ?_  | refine AP.PF ?_)
    ) <;> (try simp only [ nx, q4, rn, fq, Nat.mul_one, Bool.and_true, Bool.and_false, Nat.reduceBEq, Nat.reduceAdd, Nat.reduceSub, BEq.rfl]))
    | ((with_reducible apply AP.k_nil); first | (refine AP.nil (hQ' _ ?_); clear hQ' Q') | refine AP.nil ?_)
    | ((with_reducible apply CP.k_reg); refine cp_regG fun Q' hQ' => ?_)
      | (with_reducible apply CP.k_reg1; refine cp_region ?_)
      | ((with_reducible apply CP.k_cond); first | refine cp_condT rfl ?_ | refine cp_condF rfl ?_ | refine cp_cond rfl (fun hc => ?_) (fun hc => ?_))
      | refine CP.go ?_
      | (simp only [List.append_eq, List.cons_append, List.nil_append]))
  (exact RetQ.A [] (by exact ⟨rfl, rfl⟩))
theorem dpbytes_ac (p : Pkt) (hp : p.body.length ≤ 60000) (ht : p.tag.length = 32) : AC Try.prog 20 [.ag (eP p)] [] (fun v bs' => v = bs none (headS p ++ p.tag) ∧ bs' = []) := by
  have hl := headS_len p
  have h1 := (dhead_ac p hp).ro (r2 := bs none (headS p)) (by simp only [AV.ro, ro_B])
  have h2 := dtag_ac' p.tag ht
  have h3 := (cat_ac (headS p) p.tag (by omega) (by omega)).ro (r2 := bs none (headS p ++ p.tag)) (by simp only [AV.ro, ro_B])
  generalize headS p ++ p.tag = x at *
  generalize headS p = y at *
  refine AC.N Try.func20 Try.ntmps20 ?_
  intro X hρ hmks
  simp only [nx, Nat.reduceAdd, Nat.reduceSub, BEq.rfl]
  refine CP.gh gh_slot ?_; simp only [nx, Nat.reduceAdd, Nat.reduceSub, BEq.rfl]
  repeat' (first
    | ((first
    | ((with_reducible apply AP.k_any); first
            | refine AP.S ?_
            | refine AP.A ?_ | refine AP.AB 0 ?_ | refine AP.AB 1 ?_ | refine AP.AL ?_
            | refine AP.LB ?_ | refine AP.TB ?_ | refine AP.IX ?_ | refine AP.SF ?_ | refine AP.SV ?_ | refine AP.CV ?_ | refine AP.CO ?_ | refine AP.FV ?_  | refine AP.PF ?_)
      | ((with_reducible apply DW.k_any); first
        | refine DW.R ?_ | refine DW.R' ?_ | refine DW.W ?_ | refine DW.W' ?_ | refine DW.RA ?_ | refine DW.A 0 ?_ | refine DW.A 1 ?_ | refine DW.A 2 ?_ | refine DW.A' 0 ?_ | refine DW.A' 2 ?_ | ((fail_if_success refine DW.known rfl ?_); refine DW.G (fun hg => ?_) (fun hg => ?_))
        | refine DW.RX ?_ | refine DW.WX ?_ | refine DW.WX' ?_)
    | ((with_reducible apply DW.k_any); first
                | refine DW.R ?_ | refine DW.R' ?_ | refine DW.W ?_ | refine DW.W' ?_
                | (refine DW.known rfl ?_; (with_reducible first | apply DW.sx 2 | apply DW.sxN 2); (iterate 2 (focus (simp only [ft, nm, Nat.reduceAdd, Nat.reduceBEq, List.getElem?_cons_zero, List.getElem?_cons_succ]; exact rfl))); (focus (intro X V; simp only [ft, nm, Nat.reduceAdd, Nat.reduceBEq]; (try (refine AP.Y ?_; dsimp only)); (first  | fail); (try simp only [nx, Nat.reduceAdd, Nat.reduceSub, BEq.rfl]); refine AP.nil ?_; (first | refine ⟨trivial, rfl, ?_⟩ | refine ⟨rfl, rfl, ?_⟩); (repeat' (first | exact Mg.nil | apply Mg.keep rfl | apply Mg.take rfl)); done)); (focus (refine Exists.intro (fun _ => 0) ?_; apply Exists.intro; (repeat' (first | exact Mg.nil | apply Mg.keep rfl | apply Mg.take rfl)); done)); (iterate 2 (focus (exact rfl))))
                | ((fail_if_success refine DW.known rfl ?_); refine DW.G (fun hg => ?_) (fun hg => ?_))
    )
    ) <;> (try simp only [ nx, q4, rn, fq, Nat.mul_one, Bool.and_true, Bool.and_false, Nat.reduceBEq, Nat.reduceAdd, Nat.reduceSub, BEq.rfl]))
    | ((with_reducible apply AP.k_nil); first | (refine AP.nil (hQ' _ ?_); clear hQ' Q') | refine AP.nil ?_)
    | ((with_reducible apply CP.k_drw); refine cp_drwX fun Q' hQ' => ?_)
    | ((with_reducible apply CP.k_drw1); refine cp_drawX ?_)
    | ((with_reducible apply DW.k_nil); refine DW.nl ?_; first | (refine hQ' _ ?_; clear hQ' Q') | skip)
    | ((with_reducible apply CP.k_reg); refine cp_regG fun Q' hQ' => ?_)
      | (with_reducible apply CP.k_reg1; refine cp_region ?_)
      | ((with_reducible apply CP.k_cond); first | refine cp_condT rfl ?_ | refine cp_condF rfl ?_ | refine cp_cond rfl (fun hc => ?_) (fun hc => ?_))
      | refine CP.go ?_
      | (simp only [List.append_eq, List.cons_append, List.nil_append]))
  (exact RetQ.A [] (by exact ⟨rfl, rfl⟩))
theorem dtagP_ac (root : List UInt8) (p : Pkt) (hr : root.length ≤ 10000) (hp : p.body.length ≤ 60000) : AC Try.prog 14 [bs none root, .ag (eP p)] [] (fun v bs' => v = tg (tagS root p) ∧ bs' = []) := by
  have hl := headS_len p
  have h1 := dderive_ac root lkS [p.frm, p.to, p.epoch] (by omega) (by decide) (by simp)
  have h2 := (dhead_ac p hp).ro (r2 := bs none (headS p)) (by simp only [AV.ro, ro_B])
  have hd : (deriveS root lkS [p.frm, p.to, p.epoch]).length = 32 := hmacS_len _ _
  have h4 := dhmac_ac (deriveS root lkS [p.frm, p.to, p.epoch]) (headS p) (by omega) (by omega)
  unfold tagS
  generalize deriveS root lkS [p.frm, p.to, p.epoch] = k at *
  generalize headS p = y at *
  have d1 : decide ((65536 : Int) < (y.length : Int)) = false := by simp; omega
  generalize hmacS k y = t at *
  refine AC.N Try.func14 Try.ntmps14 ?_
  intro X hρ hmks
  simp only [nx, Nat.reduceAdd, Nat.reduceSub, BEq.rfl]
  refine CP.gh gh_slot ?_; simp only [nx, Nat.reduceAdd, Nat.reduceSub, BEq.rfl]
  refine CP.gh gh_slot ?_; simp only [nx, Nat.reduceAdd, Nat.reduceSub, BEq.rfl]
  repeat' (first
    | ((first
    | ((with_reducible apply AP.k_any); first
            | refine AP.S ?_
            | refine AP.A ?_ | refine AP.AB 0 ?_ | refine AP.AB 1 ?_ | refine AP.AL ?_
            | refine AP.LB ?_ | refine AP.TB ?_ | refine AP.IX ?_ | refine AP.SF ?_ | refine AP.SV ?_ | refine AP.CV ?_ | refine AP.CO ?_ | refine AP.FV ?_  | refine AP.PF ?_)
    ) <;> (try simp only [d1, nx, q4, rn, fq, Nat.mul_one, Bool.and_true, Bool.and_false, Nat.reduceBEq, Nat.reduceAdd, Nat.reduceSub, BEq.rfl]))
    | ((with_reducible apply AP.k_nil); first | (refine AP.nil (hQ' _ ?_); clear hQ' Q') | refine AP.nil ?_)
    | ((with_reducible apply CP.k_reg); refine cp_regG fun Q' hQ' => ?_)
      | (with_reducible apply CP.k_reg1; refine cp_region ?_)
      | ((with_reducible apply CP.k_cond); first | refine cp_condT rfl ?_ | refine cp_condF rfl ?_ | refine cp_cond rfl (fun hc => ?_) (fun hc => ?_))
      | refine CP.go ?_
      | (simp only [List.append_eq, List.cons_append, List.nil_append]))
  (exact RetQ.A [] (by exact ⟨rfl, rfl⟩))
end Go.Proofs.Ytnjfchigdpifmaa

namespace Go.Proofs.Ytnjfchigdpifmaa
set_option linter.unusedVariables false
set_option linter.unusedSimpArgs false
open Go.RowKit Go.ChangeShapes Go.WideShapes Go.ChangeAt Go.Deep
set_option maxRecDepth 100000

/-! bulk -/
theorem bulk_one {H : Type} (d : DataW H) : 1 ≤ Rows.uptoBulk d := by
  cases d with
  | lit l => cases l <;> simp [Rows.uptoBulk]
  | _ => simp [Rows.uptoBulk]
theorem bulk_part {H : Type} {d : DataW H} {l : List (DataW H)} (h : d ∈ l) : Rows.uptoBulk d ≤ Rows.uptoBulkAll l := by
  induction l with
  | nil => cases h
  | cons x r ih =>
    simp only [Rows.uptoBulkAll]
    cases List.mem_cons.1 h with
    | inl e => subst e; omega
    | inr e => have := ih e; omega
theorem bulk_length {H : Type} (l : List (DataW H)) : l.length ≤ Rows.uptoBulkAll l := by
  induction l with
  | nil => simp [Rows.uptoBulkAll]
  | cons x r ih => have := bulk_one x; simp only [Rows.uptoBulkAll, List.length_cons]; omega

/-- what reads as data of a type is k cells of my data; N: its bulk -/
def OA (P : Program) (t : TypeId) (k : Nat) {α : Type} (ok : Nat → α → Prop) (e : α → List AV) : Prop :=
  P.cellsOf t = k ∧ (∀ m n d, m ≤ n → ok m d → ok n d) ∧ ∀ {H : Type} {enc : TypeId × Value → H} {w : World} {base : Nat} {fuel : Nat} {cs : List Value} {x : DataW H × List MemPlace},
    DataW.trod enc P w base (fun _ => true) true fuel t cs = some x → ∃ d : α, ok (Rows.uptoBulk x.1) d ∧ (∀ φ κ, RC w φ κ (fun b => b < w.heap.size) (e d) cs Ct.z) ∧ (∀ u ∈ cs, u.oneCell' = true) ∧ (∀ a ∈ e d, a.leaf = true) ∧ cs.length = k
section
variable {P : Program} {t e : TypeId} {α β : Type} {ok : Nat → α → Prop} {k : Nat} {en : α → List AV}
theorem OA.map (h : OA P t k ok en) (f : α → β) {ok' : Nat → β → Prop} {en' : β → List AV} (hm : ∀ m n d, m ≤ n → ok' m d → ok' n d) (h1 : ∀ n a, ok n a → ok' n (f a)) (h2 : ∀ a, en' (f a) = en a) : OA P t k ok' en' :=
  ⟨h.1, hm, fun hx => by
    obtain ⟨d, a, b, c⟩ := h.2.2 hx
    exact ⟨f d, h1 _ _ a, by rw [h2]; exact b, by rw [h2]; exact c⟩⟩
theorem OA.wmap (h : OA P t k ok en) (f : α → β) {ok' : Nat → β → Prop} {en' : β → List AV} (hm : ∀ m n d, m ≤ n → ok' m d → ok' n d) (h1 : ∀ n a, ok n a → ok' n (f a)) (h2 : ∀ n a, ok n a → en' (f a) = en a) : OA P t k ok' en' :=
  ⟨h.1, hm, fun hx => by
    obtain ⟨d, a, b, c⟩ := h.2.2 hx
    exact ⟨f d, h1 _ _ a, by rw [h2 _ _ a]; exact b, by rw [h2 _ _ a]; exact c⟩⟩
theorem RC.one_ {w : World} {φ : Fi} {κ : Ka} {R : Nat → Prop} {a : AV} {v : Value} (h : RV w φ κ R a v Ct.z) : RC w φ κ R [a] [v] Ct.z := .cons (S := Ct.z) (T := Ct.z) h .nil fun _ => rfl
theorem oa_int {κ : IntKind} (ht : P.underlying t = some (.int κ)) (hc : P.cellsOf t = 1) : OA P t 1 (fun _ (n : Int) => (Lit.int κ n).wf = true) (fun n => [.sc (.int κ n)]) :=
  ⟨hc, fun _ _ _ _ h => h, fun h => by
    obtain ⟨n, rfl, _, hw⟩ := DataW.trod_int ht h
    exact ⟨n, hw, fun _ _ => RC.one_ (.sc rfl), fun u hu => by simp at hu; subst hu; rfl, fun a ha => by simp at ha; subst ha; rfl, rfl⟩⟩
theorem oa_bool (ht : P.underlying t = some .bool) (hc : P.cellsOf t = 1) : OA P t 1 (fun _ (_ : Bool) => True) (fun n => [.sc (.bool n)]) :=
  ⟨hc, fun _ _ _ _ h => h, fun h => by
    obtain ⟨n, rfl, _⟩ := DataW.trod_bool ht h
    exact ⟨n, trivial, fun _ _ => RC.one_ (.sc rfl), fun u hu => by simp at hu; subst hu; rfl, fun a ha => by simp at ha; subst ha; rfl, rfl⟩⟩
theorem oa_string (ht : P.underlying t = some .string) (hc : P.cellsOf t = 1) : OA P t 1 (fun m (n : ByteArray) => n.size < m) (fun n => [.sc (.string n)]) :=
  ⟨hc, fun _ _ _ h k => Nat.lt_of_lt_of_le k h, fun h => by
    obtain ⟨n, rfl, rfl, hw⟩ := DataW.trod_string ht h
    exact ⟨n, by (simp [Rows.uptoBulk]), fun _ _ => RC.one_ (.sc rfl), fun u hu => by simp at hu; subst hu; rfl, fun a ha => by simp at ha; subst ha; rfl, rfl⟩⟩
theorem RE.of_rows {w : World} {φ : Fi} {κ : Ka} {R : Nat → Prop} {k : Nat} {en : α → List AV} {l : List α} (css : Nat → List Value) (h : ∀ i x, l[i]? = some x → RC w φ κ R (en x) (css i) Ct.z ∧ (∀ u ∈ css i, u.oneCell' = true) ∧ (∀ a ∈ en x, a.leaf = true) ∧ (css i).length = k) :
    RE w φ κ R k (l.map en) ((List.range l.length).flatMap css) Ct.z := by
  induction l generalizing css with
  | nil => exact .nil
  | cons x l ih =>
    have h0 := h 0 x rfl
    have h1 := ih (fun i => css (i + 1)) fun i y hy => h (i + 1) y (by simpa using hy)
    rw [List.length_cons, List.range_succ_eq_map, List.flatMap_cons, List.flatMap_map]
    exact .cons (S := Ct.z) (T := Ct.z) h0.1 h0.2.2.2 ⟨h0.2.1, h0.2.2.1⟩ h1 fun _ => rfl
theorem flat_at {css : Nat → List Value} {k n : Nat} (h : ∀ i, i < n → (css i).length = k) : ∀ {j : Nat} {u : Value}, ((List.range n).flatMap css)[j]? = some u → ∃ i r, i < n ∧ j = i * k + r ∧ (css i)[r]? = some u := by
  induction n generalizing css with
  | zero => intro j u hj; simp at hj
  | succ n ih =>
    intro j u hj
    rw [List.range_succ_eq_map, List.flatMap_cons, List.flatMap_map] at hj
    have h0 := h 0 (by omega)
    by_cases hjk : j < k
    · rw [List.getElem?_append_left (by omega)] at hj
      exact ⟨0, j, by omega, by omega, hj⟩
    · rw [List.getElem?_append_right (by omega)] at hj
      obtain ⟨i, r, hi, hr, hu⟩ := ih (css := fun i => css (i + 1)) (fun i hi => h (i + 1) (by omega)) hj
      refine ⟨i + 1, r, by omega, ?_, hu⟩
      rw [Nat.add_mul]; omega
theorem spot_none {w : World} {a : Addr} {u : Value} (h : w.cell? (a.add 0) = some u) : a.spot = none := by
  obtain ⟨ab, ao, asp⟩ := a
  cases hsp : asp with
  | none => rfl
  | some s =>
    rw [hsp] at h
    simp [Addr.add, World.cell?] at h
    split at h <;> simp at h
theorem oa_slice (hk : 0 < k) (ht : P.underlying t = some (.slice e)) (hc : P.cellsOf t = 1) (hE : OA P e k ok en) : OA P t 1 (fun N (l : List α) => (∀ x ∈ l, ok N x) ∧ l.length < N) (fun l => [.sl none k (l.map en)]) := by
  refine ⟨hc, fun m n d h k => ⟨fun x hx => hE.2.1 _ _ _ h (k.1 x hx), Nat.lt_of_lt_of_le k.2 h⟩, ?_⟩
  intro H enc w base fuel cs x h
  rcases open_slice ht h with ⟨rfl, rfl⟩ | ⟨a, len, cap, m, n, D, Pl, rfl, hb, hl, hm, hmm, hx, hi⟩
  · exact ⟨[], ⟨fun x hx => by simp at hx, by simp [Rows.uptoBulk]⟩, fun _ _ => RC.one_ .ni, fun u hu => by simp at hu; subst hu; rfl, fun a ha => by simp at ha; subst ha; rfl, rfl⟩
  · obtain rfl : m = cap := by simpa using hmm
    clear hmm
    have hbulk : ∀ i, i < len → Rows.uptoBulk (D i) ≤ Rows.uptoBulk x.1 := by
      intro i hi
      rw [hx]
      have := bulk_part (d := D i) (l := (List.range len).map D) (List.mem_map.2 ⟨i, List.mem_range.2 hi, rfl⟩)
      simp only [Rows.uptoBulk]
      omega
    have hlenb : len < Rows.uptoBulk x.1 := by
      rw [hx]
      have := bulk_length ((List.range len).map D)
      simp only [Rows.uptoBulk]
      simp only [List.length_map, List.length_range] at this
      omega
    have hall : ∀ i, i < len → ∃ (d : α) (cs' : List Value), (ok (Rows.uptoBulk x.1) d ∧ (∀ φ κ, RC w φ κ (fun b => b < w.heap.size) (en d) cs' Ct.z) ∧ (∀ u ∈ cs', u.oneCell' = true) ∧ (∀ a ∈ en d, a.leaf = true) ∧ cs'.length = k) ∧ ∀ j u, cs'[j]? = some u → w.cell? ((a.add (i * k)).add j) = some u := by
      intro i hil
      obtain ⟨cs', hcs, htr⟩ := hi i (by omega)
      obtain ⟨d, hd0, hd⟩ := hE.2.2 htr
      rw [hE.1] at hcs
      obtain ⟨_, hlen, hat⟩ := World.cells?_some hcs
      exact ⟨d, cs', ⟨hE.2.1 _ _ _ (hbulk i hil) hd0, hd⟩, fun j u hu => (hat j (by have := (List.getElem?_eq_some_iff.1 hu).1; omega)).trans hu⟩
    have hsp0 : 0 < m → a.spot = none := by
      intro h0
      obtain ⟨cs', hcs, _⟩ := hi 0 h0
      rw [hE.1] at hcs
      obtain ⟨_, hlen, hat⟩ := World.cells?_some hcs
      have hz := hat 0 (by omega)
      rw [List.getElem?_eq_getElem (by omega)] at hz
      have e0 : a.add (0 * k) = a := by simp [Addr.add]
      rw [e0] at hz
      exact spot_none hz
    have hex : ∃ (l : List α) (css : Nat → List Value), l.length = len ∧ ∀ i y, l[i]? = some y → (ok (Rows.uptoBulk x.1) y ∧ (∀ φ κ, RC w φ κ (fun b => b < w.heap.size) (en y) (css i) Ct.z) ∧ (∀ u ∈ css i, u.oneCell' = true) ∧ (∀ a ∈ en y, a.leaf = true) ∧ (css i).length = k) ∧ ∀ j u, (css i)[j]? = some u → w.cell? ((a.add (i * k)).add j) = some u := by
      clear hi hbulk hlenb h hx
      revert hall
      clear hl
      induction len with
      | zero => exact fun _ => ⟨[], fun _ => [], rfl, fun i x h => by simp at h⟩
      | succ q ih =>
        intro hall
        obtain ⟨l, css, hl, hq⟩ := ih (fun i hi => hall i (by omega))
        obtain ⟨d, cs', hd, hcs⟩ := hall q (by omega)
        refine ⟨l ++ [d], fun i => if i = q then cs' else css i, by simp [hl], fun i x hx => ?_⟩
        by_cases hik : i < q
        · rw [List.getElem?_append_left (by omega)] at hx
          simp only [show i ≠ q by omega, if_false]
          exact hq i x hx
        · have hik' : i = q := by have := (List.getElem?_eq_some_iff.1 hx).1; simp at this; omega
          subst hik'
          rw [List.getElem?_append_right (by omega), hl] at hx
          simp at hx
          subst hx
          simp only [if_true]
          exact ⟨hd, hcs⟩
    obtain ⟨l, css, hll, hq⟩ := hex
    refine ⟨l, ⟨fun y hy => ?_, by omega⟩, fun φ κ => ?_, fun u hu => by simp at hu; subst hu; rfl, fun a ha => by simp at ha; subst ha; rfl, rfl⟩
    · obtain ⟨i, hi, rfl⟩ := List.mem_iff_getElem.1 hy
      exact (hq i _ (List.getElem?_eq_getElem hi)).1.1
    · refine RC.one_ ?_
      subst hll
      by_cases h0 : m = 0
      · subst h0
        obtain rfl : l = [] := List.eq_nil_of_length_eq_zero (by omega)
        exact .ne
      · obtain ⟨ab, ao, asp⟩ := a
        have hspn := hsp0 (by omega)
        simp only at hspn
        subst hspn
        have hflat : ∀ j u, ((List.range l.length).flatMap css)[j]? = some u → w.cell? ⟨ab, ao + j, none⟩ = some u := by
          intro j u hj
          obtain ⟨i, r, hi, rfl, hu⟩ := flat_at (k := k) (fun i hi => (hq i _ (List.getElem?_eq_getElem hi)).1.2.2.2.2) hj
          have := (hq i _ (List.getElem?_eq_getElem hi)).2 r u hu
          have e1 : (Addr.add (Addr.add ⟨ab, ao, none⟩ (i * k)) r) = ⟨ab, ao + (i * k + r), none⟩ := by
            unfold Addr.add
            split <;> split <;> simp_all [Nat.add_assoc]
          rw [e1] at this
          exact this
        have hE' : RE w φ κ (fun b => b < w.heap.size) k (l.map en) ((List.range l.length).flatMap css) Ct.z := RE.of_rows css fun i x hx => ⟨(hq i x hx).1.2.1 φ κ, (hq i x hx).1.2.2⟩
        have := RV.ro (c := m) (b := ab) (o := ao) hE' (by simp; omega) hm (fun hne => by
          have hl0 : 0 < l.length := by cases l with
            | nil => exact absurd rfl hne
            | cons _ _ => simp
          have hc0 := (hq 0 _ (List.getElem?_eq_getElem hl0)).1.2.2.2.2
          have hz := (hq 0 _ (List.getElem?_eq_getElem hl0)).2 0 _ (List.getElem?_eq_getElem (by omega))
          simp only [Addr.add, Nat.zero_mul, if_true, World.cell?] at hz
          cases hh : w.heap[ab]? with
          | none => simp [hh] at hz
          | some o => exact (Array.getElem?_eq_some_iff.1 hh).1) hflat
        simpa using this
/-- fields from an offset on -/
def OFs (P : Program) (fs : List Field) (off k : Nat) {α : Type} (ok : Nat → α → Prop) (e : α → List AV) : Prop :=
  (∀ m n d, m ≤ n → ok m d → ok n d) ∧ ∀ {H : Type} {enc : TypeId × Value → H} {w : World} {base : Nat} {cs : List Value} {N : Nat},
    (∀ f ∈ fs, ∃ n y, DataW.trod enc P w base (fun _ => true) true n f.type ((cs.drop f.offset).take (P.cellsOf f.type)) = some y ∧ Rows.uptoBulk y.1 ≤ N) → off + k ≤ cs.length →
    ∃ d : α, ok N d ∧ (∀ φ κ, RC w φ κ (fun b => b < w.heap.size) (e d) ((cs.drop off).take k) Ct.z) ∧ (∀ u ∈ (cs.drop off).take k, u.oneCell' = true) ∧ (∀ a ∈ e d, a.leaf = true)
theorem of_nil {off : Nat} : OFs P [] off 0 (fun _ (_ : Unit) => True) (fun _ => []) :=
  ⟨fun _ _ _ _ _ => trivial, fun {H enc w base cs N} _ _ => ⟨(), trivial, fun φ κ => by simp; exact .nil, fun u hu => by simp at hu, fun a ha => by cases ha⟩⟩
theorem of_cons {f : Field} {fs : List Field} {off k2 : Nat} {ok2 : Nat → β → Prop} {en2 : β → List AV} (hoff : f.offset = off) (h1 : OA P f.type k ok en) (h2 : OFs P fs (off + k) k2 ok2 en2) :
    OFs P (f :: fs) off (k + k2) (fun N (d : α × β) => ok N d.1 ∧ ok2 N d.2) (fun d => en d.1 ++ en2 d.2) :=
  ⟨fun m n d h k => ⟨h1.2.1 _ _ _ h k.1, h2.1 _ _ _ h k.2⟩, fun {H enc w base cs N} hf hl => by
    subst hoff
    obtain ⟨n, y, hy, hyb⟩ := hf f (by simp)
    rw [h1.1] at hy
    obtain ⟨a, a1, a2, a3, a4, a5⟩ := h1.2.2 hy
    obtain ⟨b, b1, b2, b3, b4⟩ := h2.2 (cs := cs) (N := N) (fun g hg => hf g (by simp [hg])) (by omega)
    have e0 : (cs.drop f.offset).take (k + k2) = (cs.drop f.offset).take k ++ (cs.drop (f.offset + k)).take k2 := by
      rw [List.take_add, List.drop_drop]
    refine ⟨(a, b), ⟨h1.2.1 _ _ _ hyb a1, b1⟩, fun φ κ => ?_, fun u hu => ?_, fun x hx => ?_⟩
    · rw [e0]; exact (a2 φ κ).append (b2 φ κ) fun _ => rfl
    · rw [e0] at hu; exact (List.mem_append.1 hu).elim (a3 u) (b3 u)
    · exact (List.mem_append.1 hx).elim (a4 x) (b4 x)⟩
theorem oa_struct {fs : Array Field} (ht : P.underlying t = some (.struct fs)) (hc : P.cellsOf t = k) (h : OFs P fs.toList 0 k ok en) : OA P t k ok en :=
  ⟨hc, h.1, fun {H enc w base fuel cs x} hx => by
    obtain ⟨xs, n, _, hxx, hl, hn, hg⟩ := DataW.trod_struct ht hx
    obtain ⟨d, d1, d2, d3, d4⟩ := h.2 (cs := cs) (N := Rows.uptoBulk x.1) (fun f hf => by
      obtain ⟨i, hi, rfl⟩ := List.mem_iff_getElem.1 hf
      have hi' : i < fs.size := by simpa using hi
      have := hg i (fs.toList[i]) (by simp [hi'])
      rw [List.getElem?_eq_getElem (by omega)] at this
      refine ⟨n, _, this, ?_⟩
      have hb := bulk_part (d := (xs[i]'(by omega)).1) (l := xs.map (·.1)) (List.mem_map.2 ⟨_, List.getElem_mem _, rfl⟩)
      rw [hxx]
      simp only [Rows.uptoBulk]
      omega) (by omega)
    rw [hc] at hl
    have e0 : (cs.drop 0).take k = cs := by rw [List.drop_zero]; exact List.take_of_length_le (by omega)
    rw [e0] at d2 d3
    exact ⟨d, d1, d2, d3, d4, hl⟩⟩

/-! arguments -/
variable {H : Type} {enc : TypeId × Value → H} {w : World} {base b0 : Nat} {r : Reach} {v : Value} {d : DataW H} {p : List MemPlace}
theorem arg_ag {fs : Array Field} (ht : P.underlying t = some (.struct fs)) (hE : OA P t k ok en) (hv : Value.okWide P w r b0 t v) (h : DataW.Trod enc P w base (fun _ => true) true t v d p) :
    ∃ x, ok (Rows.uptoBulk d) x ∧ ∀ φ κ, RV w φ κ (fun b => b < w.heap.size) (.ag (en x)) v Ct.z := by
  obtain ⟨cs, rfl, _⟩ := okWide_struct ht hv
  obtain ⟨fuel, hf⟩ := h
  obtain ⟨x, x1, x2, x3, _⟩ := hE.2.2 hf
  simp only [Value.cells] at x2 x3
  refine ⟨x, x1, fun φ κ => ?_⟩
  have := RV.ag (x2 φ κ) x3
  simpa using this
theorem arg_1 {f : α → AV} (hE : OA P t 1 ok (fun x => [f x])) (hv : v.cells.toList = [v]) (h : DataW.Trod enc P w base (fun _ => true) true t v d p) :
    ∃ x, ok (Rows.uptoBulk d) x ∧ ∀ φ κ, RV w φ κ (fun b => b < w.heap.size) (f x) v Ct.z := by
  obtain ⟨fuel, hf⟩ := h
  obtain ⟨x, x1, x2, x3, _⟩ := hE.2.2 hf
  refine ⟨x, x1, fun φ κ => ?_⟩
  have h1 := x2 φ κ
  rw [hv] at h1
  cases h1 with
  | cons a b c => obtain ⟨rfl, rfl⟩ := Ct.split c; exact a
theorem cells_slice (ht : P.underlying t = some (.slice e)) (hv : Value.okWide P w r b0 t v) : v.cells.toList = [v] := by
  unfold Value.okWide at hv
  rw [ht] at hv
  cases v with
  | agg cs => simp only [Cell.okWide, ht] at hv; simp [Cell.ok, ht] at hv
  | tuple cs => simp only [Cell.okWide, ht] at hv; simp [Cell.ok, ht] at hv
  | _ => rfl
theorem cells_int {κ : IntKind} (ht : P.underlying t = some (.int κ)) (hv : Value.okWide P w r b0 t v) : v.cells.toList = [v] := by
  unfold Value.okWide at hv
  rw [ht] at hv
  cases v with
  | agg cs => simp only [Cell.okWide, ht] at hv; simp [Cell.ok, ht] at hv
  | tuple cs => simp only [Cell.okWide, ht] at hv; simp [Cell.ok, ht] at hv
  | _ => rfl
theorem cells_bool (ht : P.underlying t = some .bool) (hv : Value.okWide P w r b0 t v) : v.cells.toList = [v] := by
  unfold Value.okWide at hv
  rw [ht] at hv
  cases v with
  | agg cs => simp only [Cell.okWide, ht] at hv; simp [Cell.ok, ht] at hv
  | tuple cs => simp only [Cell.okWide, ht] at hv; simp [Cell.ok, ht] at hv
  | _ => rfl
theorem cells_string (ht : P.underlying t = some .string) (hv : Value.okWide P w r b0 t v) : v.cells.toList = [v] := by
  unfold Value.okWide at hv
  rw [ht] at hv
  cases v with
  | agg cs => simp only [Cell.okWide, ht] at hv; simp [Cell.ok, ht] at hv
  | tuple cs => simp only [Cell.okWide, ht] at hv; simp [Cell.ok, ht] at hv
  | _ => rfl

/-! what was there reads as it did -/
theorem trodAll_below (hl : laidOutB P = true) {W W' : World} (hb : Below W.heap.size W W') :
    ∀ (ts : List TypeId) (vs : List Value) (ds : List (DataW H)) (ps : List MemPlace), (∀ t ∈ ts, P.readableRec t = true ∧ t < P.types.size) → (∀ x ∈ ps, x.block < W.heap.size) →
      DataW.TrodAll enc P W 0 (fun _ => true) true ts vs ds ps → DataW.TrodAll enc P W' 0 (fun b => decide (b < W.heap.size)) true ts vs ds ps
  | [], [], [], ps, _, _, h => h
  | t :: ts, v :: vs, d :: ds, ps, hr, hlt, h => by
    obtain ⟨p, q, hd, hs, rfl⟩ := h
    have hrt := hr t (by simp)
    exact ⟨p, q, Below.trod hl hrt.1 hrt.2 hd hb fun x hx => hlt x (by simp [hx]), trodAll_below hl hb ts vs ds q (fun t ht => hr t (by simp [ht])) (fun x hx => hlt x (by simp [hx])) hs, rfl⟩
  | [], _ :: _, _, _, _, _, h => by simp [DataW.TrodAll] at h
  | [], [], _ :: _, _, _, _, h => by simp [DataW.TrodAll] at h
  | _ :: _, [], _, _, _, _, h => by simp [DataW.TrodAll] at h
  | _ :: _, _ :: _, [], _, _, _, h => by simp [DataW.TrodAll] at h
/-- THE LAST STEP: the law returns true and leaves alone what was there -/
theorem law_post {f : Func} {s : ChangeSpec} {apart fresh handsOn : Bool} {W W' : World} {args : Array Value} {ds gs : List (DataW H)} {before : List MemPlace} {tb : TypeId}
    (hl : laidOutB P = true) (hv : s.vars = []) (hrt : f.resultTypes = #[tb]) (hub : P.underlying tb = some .bool) (hread : (f.params.toList.all fun t => P.readableRec t && decide (t < P.types.size)) = true)
    (hW : DataW.Whole enc P f.params.toList s.vars apart W args.toList ds gs before) (hfn : ∀ gs', gs' = [] → s.fn H (ds ++ gs') = { results := [.lit (.bool true)], args := ds }) (hb : Below W.heap.size W W') :
    s.post enc P f apart fresh handsOn false W args (.bool true) W' := by
  have hread' : ∀ t ∈ f.params.toList, P.readableRec t = true ∧ t < P.types.size := fun t ht => by
    have := List.all_eq_true.1 hread t ht
    simpa using this
  have hW' := hW
  obtain ⟨p, q, hA, hV, rfl, hfz, hnd⟩ := hW
  rw [hv] at hV
  obtain ⟨rfl, rfl⟩ := trodVars_none hV
  have hlt : ∀ x ∈ p, x.block < W.heap.size := fun x hx => hW'.lt x (by simpa using hx)
  refine ⟨ds, [], p ++ [], [], p, [], hW', ?_, ?_, ?_, ?_, fun h => by cases h⟩
  · rw [hfn [] rfl, hrt]
    exact trodAll_mk1 (shut_bool hub true)
  · rw [hfn [] rfl]
    exact trodAll_below hl hb _ _ _ _ hread' hlt hA
  · rw [hv, hfn [] rfl]
    rfl
  · refine World.keptBut_mono (fun x hx => ⟨hx, .inr (.inl (by simpa using hx))⟩) (hb.frame (· ∈ p ++ []))
/-- a contract that tells true, in the world that the law is called in -/
theorem ac_law {fn : Nat} {args : List AV} {vs : List Value} {W : World} (h : AC P fn args [] (fun v bs' => v = .sc (.bool true) ∧ bs' = [])) (ha : ∀ φ κ, RC W φ κ (fun b => b < W.heap.size) args vs Ct.z) :
    Calls P fn vs.toArray W fun e W' => e = .returned (.bool true) ∧ Below W.heap.size W W' := by
  refine (h.2 W (fun _ _ => none) (fun _ _ => none) _ vs [] Ct.z Ct.z (ha _ _) .nil (fun i g hi => by simp at hi) (fun _ _ _ => rfl) (fun _ _ => rfl) (fun x => by simp [Ct.z]) (fun x hx => by simp [Ct.z] at hx) (fun x hx => ⟨hx, rfl⟩)).mono ?_
  rintro e W' ⟨v, r, bs', gs', Sr, Sb', φ', F, rfl, ⟨rfl, rfl⟩, hr, _, _, _, _, _, _, hf⟩
  cases hr with
  | sc => exact ⟨rfl, hf.os, hf.tape, hf.output, hf.size, fun b hb => hf.block b hb rfl⟩
theorem bulk_of {l : List (DataW H)} (hk : Rows.uptoSmall H l = true) : Rows.uptoBulkAll l ≤ 1048576 := of_decide_eq_true hk
end
end Go.Proofs.Ytnjfchigdpifmaa

namespace Go.Proofs.Ytnjfchigdpifmaa
set_option linter.unusedVariables false
set_option linter.unusedSimpArgs false
open Go.RowKit Go.ChangeShapes Go.WideShapes Go.ChangeAt Go.Deep
set_option maxRecDepth 100000
theorem laidOut : laidOutB Try.prog = true := by kernel_rfl
theorem own_knob : ownKnob Try.prog.godebug = none := by kernel_rfl
def I64 (x : Int) : Prop := -9223372036854775808 ≤ x ∧ x ≤ 9223372036854775807
theorem i64_of {x : Int} (h : (Lit.int .i64 x).wf = true) : I64 x := by simpa [Lit.wf, IntKind.min, IntKind.max, IntKind.signed, IntKind.bits, I64] using h
theorem u8_of {x : Int} (h : (Lit.int .u8 x).wf = true) : 0 ≤ x ∧ x ≤ 255 := by simpa [Lit.wf, IntKind.min, IntKind.max, IntKind.signed, IntKind.bits] using h
theorem oi : OA Try.prog 3 1 (fun _ x => I64 x) (fun x => [I x]) := (oa_int Try.underlying3 (by kernel_rfl)).map id (fun _ _ _ _ h => h) (fun _ _ h => i64_of h) fun _ => rfl
theorem obl : OA Try.prog 4 1 (fun _ (_ : Bool) => True) (fun x => [B x]) := oa_bool Try.underlying4 (by kernel_rfl)
theorem ou : OA Try.prog 5 1 (fun _ (_ : UInt8) => True) eB := (oa_int Try.underlying5 (by kernel_rfl)).wmap (fun x : Int => UInt8.ofNat x.toNat) (fun _ _ _ _ h => h) (fun _ _ _ => trivial) fun n x hx => by
  have h := u8_of hx
  have e : ((UInt8.ofNat x.toNat).toNat : Int) = x := by rw [UInt8.toNat_ofNat']; omega
  simp only [eB, U, e]
theorem obs : OA Try.prog 22 1 (fun N (l : List UInt8) => (∀ x ∈ l, True) ∧ l.length < N) (fun l => [bs none l]) := oa_slice (by decide) Try.underlying22 (by kernel_rfl) ou
end Go.Proofs.Ytnjfchigdpifmaa

namespace Go.Proofs.Ytnjfchigdpifmaa
set_option linter.unusedVariables false
set_option linter.unusedSimpArgs false
open Go.RowKit Go.ChangeShapes Go.WideShapes Go.ChangeAt Go.Deep
set_option maxRecDepth 100000
section
variable {P : Program} {t e : TypeId} {α : Type} {ok : Nat → α → Prop} {k : Nat} {en : α → List AV}
theorem oa_list (hE : OA P e k ok en) {H : Type} {enc : TypeId × Value → H} {w : World} {base N : Nat} : ∀ (n : Nat) (cs : List Value),
    (∀ i, i < n → ∃ m y, DataW.trod enc P w base (fun _ => true) true m e ((cs.drop (i * k)).take k) = some y ∧ Rows.uptoBulk y.1 ≤ N) → cs.length = n * k →
    ∃ l : List α, l.length = n ∧ (∀ x ∈ l, ok N x) ∧ (∀ φ κ, RC w φ κ (fun b => b < w.heap.size) (l.map en).flatten cs Ct.z) ∧ (∀ u ∈ cs, u.oneCell' = true) ∧ (∀ a ∈ (l.map en).flatten, a.leaf = true)
  | 0, cs, _, hl => by
    obtain rfl : cs = [] := List.eq_nil_of_length_eq_zero (by omega)
    exact ⟨[], rfl, fun x hx => by simp at hx, fun φ κ => .nil, fun u hu => by simp at hu, fun a ha => by simp at ha⟩
  | n + 1, cs, h, hl => by
    have hl' : cs.length = n * k + k := by rw [hl, Nat.add_mul, Nat.one_mul]
    obtain ⟨m, y, hy, hyb⟩ := h 0 (by omega)
    rw [Nat.zero_mul, List.drop_zero] at hy
    obtain ⟨a, a1, a2, a3, a4, a5⟩ := hE.2.2 hy
    obtain ⟨l, l1, l2, l3, l4, l5⟩ := oa_list hE n (cs.drop k) (fun i hi => by
      obtain ⟨m, y, hy, hyb⟩ := h (i + 1) (by omega)
      refine ⟨m, y, ?_, hyb⟩
      rw [List.drop_drop]
      rw [show (i + 1) * k = k + i * k by rw [Nat.add_mul, Nat.one_mul]; omega] at hy
      exact hy) (by rw [List.length_drop, hl']; omega)
    have e0 : cs = cs.take k ++ cs.drop k := (List.take_append_drop k cs).symm
    refine ⟨a :: l, by simp [l1], fun x hx => ?_, fun φ κ => ?_, fun u hu => ?_, fun x hx => ?_⟩
    · rcases List.mem_cons.1 hx with rfl | hx
      · exact hE.2.1 _ _ _ hyb a1
      · exact l2 x hx
    · rw [e0, List.map_cons, List.flatten_cons]
      exact (a2 φ κ).append (l3 φ κ) fun _ => rfl
    · rw [e0] at hu; exact (List.mem_append.1 hu).elim (a3 u) (l4 u)
    · rw [List.map_cons, List.flatten_cons] at hx
      exact (List.mem_append.1 hx).elim (a4 x) (l5 x)
theorem oa_array {n c : Nat} (ht : P.underlying t = some (.array n e)) (hc : P.cellsOf t = c) (hE : OA P e k ok en) (hn : Nat.beq (n * k) c = true) : OA P t c (fun N (l : List α) => l.length = n ∧ ∀ x ∈ l, ok N x) (fun l => (l.map en).flatten) := by
  refine ⟨hc, fun m n d h k => ⟨k.1, fun x hx => hE.2.1 _ _ _ h (k.2 x hx)⟩, ?_⟩
  intro H enc w base fuel cs x h
  obtain ⟨xs, m, _, hx, hl, hn', hg⟩ := DataW.trod_array ht h
  have hn := Nat.eq_of_beq_eq_true hn
  rw [hc] at hl
  rw [hE.1] at hg
  obtain ⟨l, l1, l2, l3, l4, l5⟩ := oa_list (N := Rows.uptoBulk x.1) hE n cs (fun i hi => by
    have := hg i hi
    rw [List.getElem?_eq_getElem (by omega)] at this
    refine ⟨m, _, this, ?_⟩
    have hb := bulk_part (d := (xs[i]'(by omega)).1) (l := xs.map (·.1)) (List.mem_map.2 ⟨_, List.getElem_mem _, rfl⟩)
    rw [hx]
    simp only [Rows.uptoBulk]
    omega) (by omega)
  exact ⟨l, ⟨l1, l2⟩, l3, l4, l5, hl⟩
end
theorem otg : OA Try.prog 24 32 (fun _ (l : List UInt8) => l.length = 32 ∧ ∀ x ∈ l, True) (fun l => (l.map eB).flatten) := oa_array Try.underlying24 (by kernel_rfl) ou (by kernel_rfl)
theorem tagC_flat {t : List UInt8} (h : t.length = 32) : (t.map eB).flatten = tagC t := by
  have : (tagC t) = (List.range 32).map fun j => U (t.getD j 0) := rfl
  rw [this]
  have e : (t.map eB).flatten = t.map U := by
    clear h this
    induction t with
    | nil => rfl
    | cons a l ih => simp only [List.map_cons, List.flatten_cons, ih]; rfl
  rw [e]
  apply List.ext_getElem?
  intro i
  by_cases hi : i < 32
  · simp [hi, h, List.getD_eq_getElem?_getD]
  · rw [List.getElem?_eq_none (by simp; omega), List.getElem?_eq_none (by simp; omega)]
def okP (N : Nat) (p : Pkt) : Prop := p.body.length < N ∧ p.tag.length = 32
theorem opk : OA Try.prog 26 38 okP eP :=
  (oa_struct Try.underlying26 (by kernel_rfl) (of_cons rfl oi (of_cons rfl oi (of_cons rfl oi (of_cons rfl oi (of_cons rfl oi (of_cons rfl obs (of_cons rfl otg of_nil)))))))).wmap
    (fun d => (⟨d.1, d.2.1, d.2.2.1, d.2.2.2.1, d.2.2.2.2.1, d.2.2.2.2.2.1, d.2.2.2.2.2.2.1⟩ : Pkt)) (fun _ _ _ h k => ⟨Nat.lt_of_lt_of_le k.1 h, k.2⟩)
    (fun n d h => ⟨h.2.2.2.2.2.1.2, h.2.2.2.2.2.2.1.1⟩)
    (fun n d h => by
      obtain ⟨a, b, c, e, f, g, t, u⟩ := d
      have ht : t.length = 32 := h.2.2.2.2.2.2.1.1
      show [I a, I b, I c, I e, I f, bs none g] ++ tagC t = [I a] ++ ([I b] ++ ([I c] ++ ([I e] ++ ([I f] ++ ([bs none g] ++ ((t.map eB).flatten ++ []))))))
      rw [tagC_flat ht]
      rfl)
end Go.Proofs.Ytnjfchigdpifmaa

namespace Go.Proofs.Ytnjfchigdpifmaa
set_option linter.unusedVariables false
set_option linter.unusedSimpArgs false
set_option maxHeartbeats 8000000
open Go.RowKit Go.ChangeShapes Go.WideShapes Go.ChangeAt Go.Deep
set_option maxRecDepth 100000
theorem sameP_ac (p : Pkt) (hb : p.body.length ≤ 1000000000) : AC Try.prog 11 [.ag (eP p), .ag (eP p)] [] (fun v bs' => v = B true ∧ bs' = []) := by
  have h := same_ac p.body p.body hb
  rw [decide_eq_true rfl] at h
  refine AC.N Try.func11 Try.ntmps11 ?_
  intro X hρ hmks
  simp only [nx, Nat.reduceAdd, Nat.reduceSub, BEq.rfl]
  repeat' (first
    | ((first
    | ((with_reducible apply AP.k_any); first
            | refine AP.S ?_
            | (refine AP.Y ?_; dsimp only) | refine AP.G (fun hg => ?_) (fun hg => ?_)
            | refine AP.A ?_ | refine AP.AB 0 ?_ | refine AP.AB 1 ?_ | refine AP.AL ?_
            | refine AP.EQ ?_)
    ) <;> (try simp only [nx, Nat.reduceAdd, Nat.reduceSub, BEq.rfl]))
    | ((with_reducible apply AP.k_nil); first | (refine AP.nil (hQ' _ ?_); clear hQ' Q') | refine AP.nil ?_)
    | ((with_reducible apply CP.k_reg); refine cp_regG fun Q' hQ' => ?_)
      | (with_reducible apply CP.k_reg1; refine cp_region ?_)
      | ((with_reducible apply CP.k_cond); first | refine cp_condT rfl ?_ | refine cp_condF rfl ?_ | refine cp_cond rfl (fun hc => ?_) (fun hc => ?_))
      | refine CP.go ?_
      | (simp only [List.append_eq, List.cons_append, List.nil_append]))
  all_goals try (refine RetQ.B [] ?_; (try dsimp only [resV, List.getD_cons_succ, List.getD_cons_zero]); ((refine ⟨congrArg B ?_, rfl⟩; first | rfl | (simp [eqVs, eqV1]; done))))
  all_goals (exfalso; (repeat (rename AC _ _ _ _ _ => hzz; clear hzz)); simp [eqVs, eqV1] at *; done)
abbrev tagVs (t : List UInt8) : List Value := [.int .u8 ((t.getD 0 0).toNat : Int), .int .u8 ((t.getD 1 0).toNat : Int), .int .u8 ((t.getD 2 0).toNat : Int), .int .u8 ((t.getD 3 0).toNat : Int), .int .u8 ((t.getD 4 0).toNat : Int), .int .u8 ((t.getD 5 0).toNat : Int), .int .u8 ((t.getD 6 0).toNat : Int), .int .u8 ((t.getD 7 0).toNat : Int), .int .u8 ((t.getD 8 0).toNat : Int), .int .u8 ((t.getD 9 0).toNat : Int), .int .u8 ((t.getD 10 0).toNat : Int), .int .u8 ((t.getD 11 0).toNat : Int), .int .u8 ((t.getD 12 0).toNat : Int), .int .u8 ((t.getD 13 0).toNat : Int), .int .u8 ((t.getD 14 0).toNat : Int), .int .u8 ((t.getD 15 0).toNat : Int), .int .u8 ((t.getD 16 0).toNat : Int), .int .u8 ((t.getD 17 0).toNat : Int), .int .u8 ((t.getD 18 0).toNat : Int), .int .u8 ((t.getD 19 0).toNat : Int), .int .u8 ((t.getD 20 0).toNat : Int), .int .u8 ((t.getD 21 0).toNat : Int), .int .u8 ((t.getD 22 0).toNat : Int), .int .u8 ((t.getD 23 0).toNat : Int), .int .u8 ((t.getD 24 0).toNat : Int), .int .u8 ((t.getD 25 0).toNat : Int), .int .u8 ((t.getD 26 0).toNat : Int), .int .u8 ((t.getD 27 0).toNat : Int), .int .u8 ((t.getD 28 0).toNat : Int), .int .u8 ((t.getD 29 0).toNat : Int), .int .u8 ((t.getD 30 0).toNat : Int), .int .u8 ((t.getD 31 0).toNat : Int)]
theorem tagVs_map {t : List UInt8} (h : t.length = 32) : tagVs t = t.map fun c => Value.int .u8 (c.toNat : Int) := by
  have : tagVs t = (List.range 32).map fun j => Value.int .u8 ((t.getD j 0).toNat : Int) := rfl
  rw [this]
  apply List.ext_getElem?
  intro i
  by_cases hi : i < 32
  · simp [hi, h, List.getD_eq_getElem?_getD]
  · rw [List.getElem?_eq_none (by simp; omega), List.getElem?_eq_none (by simp; omega)]
theorem eqVs_map : ∀ {a b : List UInt8}, a.length = b.length → eqVs (a.map fun c => Value.int .u8 (c.toNat : Int)) (b.map fun c => Value.int .u8 (c.toNat : Int)) = decide (a = b)
  | [], [], _ => by simp [eqVs]
  | x :: a, y :: b, h => by
    have ih := eqVs_map (a := a) (b := b) (by simpa using h)
    have hx : ((x.toNat : Int) == (y.toNat : Int)) = decide (x = y) := by
      rw [Bool.eq_iff_iff]
      simp only [beq_iff_eq, decide_eq_true_iff, Int.ofNat_inj, UInt8.toNat_inj]
    simp only [List.map_cons, eqVs, ih, eqV1, List.cons.injEq, Bool.decide_and, hx]
theorem eqT {a b : List UInt8} (ha : a.length = 32) (hb : b.length = 32) : eqVs (tagVs a) (tagVs b) = decide (a = b) := by
  rw [tagVs_map ha, tagVs_map hb, eqVs_map (by omega)]
def incB (k : List UInt8) (i : Nat) : List UInt8 := (k.map (· + 1)).take i ++ k.drop i
theorem incB_len (k : List UInt8) (i : Nat) : (incB k i).length = k.length := by simp [incB]; omega
theorem incB_at {k : List UInt8} {i : Nat} (h : i < k.length) : ((incB k i).map eB)[i]? = some (eB k[i]) := by
  unfold incB
  rw [List.getElem?_map, List.getElem?_append_right (by simp; omega)]
  simp [show i - min i k.length = 0 by omega, h]
theorem incB_set {k : List UInt8} {i : Nat} (h : i < k.length) : ((incB k i).map eB).set i (eB (k[i] + 1)) = (incB k (i + 1)).map eB := by
  have hl : ((k.map (· + 1)).take i).length = i := by simp; omega
  unfold incB
  rw [← List.map_set, List.set_append_right _ _ (by omega), hl, Nat.sub_self, List.drop_eq_getElem_cons h, List.set_cons_zero, List.take_succ_eq_append_getElem (by simp; omega)]
  simp
theorem incU (x : UInt8) : IntKind.u8.wrap ((x.toNat : Int) + 1) = (((x + 1 : UInt8).toNat : Nat) : Int) := by
  simp only [IntKind.wrap, IntKind.bits, IntKind.signed, UInt8.toNat_add]; simp
theorem lseal_big (root : List UInt8) (p : Pkt) (h : 2000 < root.length ∨ 2000 < p.body.length) : AC Try.prog 4 [bs none root, .ag (eP p)] [] (fun v bs' => v = B true ∧ bs' = []) := by
  by_cases h1 : 2000 < root.length
  · have d1 : decide ((2000 : Int) < (root.length : Int)) = true := by simp; omega
    refine AC.N Try.func4 Try.ntmps4 ?_
    intro X hρ hmks
    simp only [nx, Nat.reduceAdd, Nat.reduceSub, BEq.rfl]
    repeat' (first
      | ((first
      | ((with_reducible apply AP.k_any); first
              | refine AP.S ?_
              | refine AP.E ?_
              | (refine AP.Y ?_; dsimp only) | refine AP.G (fun hg => ?_) (fun hg => ?_)
              | refine AP.T ?_
              | refine AP.A ?_ | refine AP.AB 0 ?_ | refine AP.AB 1 ?_ | refine AP.AL ?_
              | refine AP.LB ?_ | refine AP.TB ?_ | refine AP.IX ?_ | refine AP.SF ?_ | refine AP.SV ?_ | refine AP.CV ?_ | refine AP.CO ?_ | refine AP.FV ?_  | refine AP.PF ?_)
        | ((with_reducible apply DW.k_any); first
          | refine DW.R ?_ | refine DW.R' ?_ | refine DW.W ?_ | refine DW.W' ?_ | refine DW.RA ?_ | refine DW.A 0 ?_ | refine DW.A 1 ?_ | refine DW.A 2 ?_ | refine DW.A' 0 ?_ | refine DW.A' 2 ?_ | ((fail_if_success refine DW.known rfl ?_); refine DW.G (fun hg => ?_) (fun hg => ?_))
          | refine DW.RX ?_ | refine DW.WX ?_ | refine DW.WX' ?_)
      | ((with_reducible apply DW.k_any); first
                  | refine DW.R ?_ | refine DW.R' ?_ | refine DW.W ?_ | refine DW.W' ?_
                  | (refine DW.known rfl ?_; (with_reducible first | apply DW.sx 2 | apply DW.sxN 2); (iterate 2 (focus (simp only [ft, nm, Nat.reduceAdd, Nat.reduceBEq, List.getElem?_cons_zero, List.getElem?_cons_succ]; exact rfl))); (focus (intro X V; simp only [ft, nm, Nat.reduceAdd, Nat.reduceBEq]; (try (refine AP.Y ?_; dsimp only)); (first  | fail); (try simp only [nx, Nat.reduceAdd, Nat.reduceSub, BEq.rfl]); refine AP.nil ?_; (first | refine ⟨trivial, rfl, ?_⟩ | refine ⟨rfl, rfl, ?_⟩); (repeat' (first | exact Mg.nil | apply Mg.keep rfl | apply Mg.take rfl)); done)); (focus (refine Exists.intro (fun _ => 0) ?_; apply Exists.intro; (repeat' (first | exact Mg.nil | apply Mg.keep rfl | apply Mg.take rfl)); done)); (iterate 2 (focus (exact rfl))))
                  | ((fail_if_success refine DW.known rfl ?_); refine DW.G (fun hg => ?_) (fun hg => ?_))
      )
      ) <;> (try simp only [d1, nx, q4, rn, fq, Nat.mul_one, Bool.and_true, Bool.and_false, Nat.reduceBEq, Nat.reduceAdd, Nat.reduceSub, BEq.rfl]))
      | ((with_reducible apply AP.k_nil); first | (refine AP.nil (hQ' _ ?_); clear hQ' Q') | refine AP.nil ?_)
      | ((with_reducible apply CP.k_drw); refine cp_drwX fun Q' hQ' => ?_)
      | ((with_reducible apply CP.k_drw1); refine cp_drawX ?_)
      | ((with_reducible apply DW.k_nil); refine DW.nl ?_; first | (refine hQ' _ ?_; clear hQ' Q') | skip)
      | ((with_reducible apply CP.k_reg); refine cp_regG fun Q' hQ' => ?_)
        | (with_reducible apply CP.k_reg1; refine cp_region ?_)
        | ((with_reducible apply CP.k_cond); first | refine cp_condT rfl ?_ | refine cp_condF rfl ?_ | refine cp_cond rfl (fun hc => ?_) (fun hc => ?_))
        | refine CP.go ?_
        | (simp only [List.append_eq, List.cons_append, List.nil_append]))
    (exact RetQ.A [] (by exact ⟨rfl, rfl⟩))
  · have d1 : decide ((2000 : Int) < (root.length : Int)) = false := by simp; omega
    have d2 : decide ((2000 : Int) < (p.body.length : Int)) = true := by simp; omega
    refine AC.N Try.func4 Try.ntmps4 ?_
    intro X hρ hmks
    simp only [nx, Nat.reduceAdd, Nat.reduceSub, BEq.rfl]
    repeat' (first
      | ((first
      | ((with_reducible apply AP.k_any); first
              | refine AP.S ?_
              | refine AP.E ?_
              | (refine AP.Y ?_; dsimp only) | refine AP.G (fun hg => ?_) (fun hg => ?_)
              | refine AP.T ?_
              | refine AP.A ?_ | refine AP.AB 0 ?_ | refine AP.AB 1 ?_ | refine AP.AL ?_
              | refine AP.LB ?_ | refine AP.TB ?_ | refine AP.IX ?_ | refine AP.SF ?_ | refine AP.SV ?_ | refine AP.CV ?_ | refine AP.CO ?_ | refine AP.FV ?_  | refine AP.PF ?_)
        | ((with_reducible apply DW.k_any); first
          | refine DW.R ?_ | refine DW.R' ?_ | refine DW.W ?_ | refine DW.W' ?_ | refine DW.RA ?_ | refine DW.A 0 ?_ | refine DW.A 1 ?_ | refine DW.A 2 ?_ | refine DW.A' 0 ?_ | refine DW.A' 2 ?_ | ((fail_if_success refine DW.known rfl ?_); refine DW.G (fun hg => ?_) (fun hg => ?_))
          | refine DW.RX ?_ | refine DW.WX ?_ | refine DW.WX' ?_)
      | ((with_reducible apply DW.k_any); first
                  | refine DW.R ?_ | refine DW.R' ?_ | refine DW.W ?_ | refine DW.W' ?_
                  | (refine DW.known rfl ?_; (with_reducible first | apply DW.sx 2 | apply DW.sxN 2); (iterate 2 (focus (simp only [ft, nm, Nat.reduceAdd, Nat.reduceBEq, List.getElem?_cons_zero, List.getElem?_cons_succ]; exact rfl))); (focus (intro X V; simp only [ft, nm, Nat.reduceAdd, Nat.reduceBEq]; (try (refine AP.Y ?_; dsimp only)); (first  | fail); (try simp only [nx, Nat.reduceAdd, Nat.reduceSub, BEq.rfl]); refine AP.nil ?_; (first | refine ⟨trivial, rfl, ?_⟩ | refine ⟨rfl, rfl, ?_⟩); (repeat' (first | exact Mg.nil | apply Mg.keep rfl | apply Mg.take rfl)); done)); (focus (refine Exists.intro (fun _ => 0) ?_; apply Exists.intro; (repeat' (first | exact Mg.nil | apply Mg.keep rfl | apply Mg.take rfl)); done)); (iterate 2 (focus (exact rfl))))
                  | ((fail_if_success refine DW.known rfl ?_); refine DW.G (fun hg => ?_) (fun hg => ?_))
      )
      ) <;> (try simp only [d1, d2, nx, q4, rn, fq, Nat.mul_one, Bool.and_true, Bool.and_false, Nat.reduceBEq, Nat.reduceAdd, Nat.reduceSub, BEq.rfl]))
      | ((with_reducible apply AP.k_nil); first | (refine AP.nil (hQ' _ ?_); clear hQ' Q') | refine AP.nil ?_)
      | ((with_reducible apply CP.k_drw); refine cp_drwX fun Q' hQ' => ?_)
      | ((with_reducible apply CP.k_drw1); refine cp_drawX ?_)
      | ((with_reducible apply DW.k_nil); refine DW.nl ?_; first | (refine hQ' _ ?_; clear hQ' Q') | skip)
      | ((with_reducible apply CP.k_reg); refine cp_regG fun Q' hQ' => ?_)
        | (with_reducible apply CP.k_reg1; refine cp_region ?_)
        | ((with_reducible apply CP.k_cond); first | refine cp_condT rfl ?_ | refine cp_condF rfl ?_ | refine cp_cond rfl (fun hc => ?_) (fun hc => ?_))
        | refine CP.go ?_
        | (simp only [List.append_eq, List.cons_append, List.nil_append]))
    (exact RetQ.A [] (by exact ⟨rfl, rfl⟩))
end Go.Proofs.Ytnjfchigdpifmaa

namespace Go.Proofs.Ytnjfchigdpifmaa
set_option linter.unusedVariables false
set_option linter.unusedSimpArgs false
set_option maxHeartbeats 8000000
open Go.RowKit
set_option maxRecDepth 100000
theorem lseal_t (root : List UInt8) (p : Pkt) (hr : root.length ≤ 2000) (hp : p.body.length ≤ 2000) (ht : p.tag.length = 32) (hm : mayP p = true) : AC Try.prog 4 [bs none root, .ag (eP p)] [] (fun v bs' => v = B true ∧ bs' = []) := by
  have d1 : decide ((2000 : Int) < (root.length : Int)) = false := by simp; omega
  have d2 : decide ((2000 : Int) < (p.body.length : Int)) = false := by simp; omega
  have h1 := (copy_ac p.body (by omega)).ro (r2 := bs none p.body) (by simp only [AV.ro, ro_B])
  have h2 := seal_ac root p (by omega) (by omega)
  have h3 := dtagP_ac root p (by omega) (by omega)
  have hT := tagS_len root p
  have h4 := sameP_ac { p with tag := tagS root p } (by dsimp only; omega)
  have h5 := right_ac root p (by omega) (by omega) ht
  have h6 := right_ac root { p with tag := tagS root p } (by omega) (by dsimp only; omega) hT
  have e6 : decide (({ p with tag := tagS root p } : Pkt).tag = tagS root { p with tag := tagS root p }) = true := decide_eq_true rfl
  rw [e6] at h6
  clear e6
  have heq := eqT ht hT
  have h7 := mayP_ac p
  have h8 := dmayP_ac p
  have h9 := print_ac p (by omega) ht
  have h10 := dpbytes_ac p (by omega) ht
  have hx1 : (headS p ++ p.tag).length ≤ 1000000000 := by have := headS_len p; simp; omega
  have h11 := same_ac (headS p ++ p.tag) (headS p ++ p.tag) hx1
  rw [decide_eq_true rfl] at h11
  have h12 := same_ac p.body p.body (by omega)
  rw [decide_eq_true rfl] at h12
  generalize headS p ++ p.tag = x at *
  generalize tagS root p = T at *
  generalize decide (p.tag = T) = r at *
  have rr : (r != r) = false := by simp
  rw [hm] at h7 h8 h9
  refine AC.N Try.func4 Try.ntmps4 ?_
  intro X hρ hmks
  simp only [nx, Nat.reduceAdd, Nat.reduceSub, BEq.rfl]
  refine CP.gh gh_slot ?_; simp only [nx, Nat.reduceAdd, Nat.reduceSub, BEq.rfl]
  refine CP.gh gh_slot ?_; simp only [nx, Nat.reduceAdd, Nat.reduceSub, BEq.rfl]
  refine CP.gh gh_slot ?_; simp only [nx, Nat.reduceAdd, Nat.reduceSub, BEq.rfl]
  refine CP.gh gh_slot ?_; simp only [nx, Nat.reduceAdd, Nat.reduceSub, BEq.rfl]
  repeat' (first
    | ((first
    | ((with_reducible apply AP.k_any); first
            | refine AP.S ?_
            | refine AP.E ?_
            | (refine AP.Y ?_; dsimp only) | refine AP.G (fun hg => ?_) (fun hg => ?_)
            | refine AP.T ?_
            | refine AP.A ?_ | refine AP.AB 0 ?_ | refine AP.AB 1 ?_ | refine AP.AL ?_
            | refine AP.LB ?_ | refine AP.TB ?_ | refine AP.IX ?_ | refine AP.SF ?_ | refine AP.SV ?_ | refine AP.CV ?_ | refine AP.CO ?_ | refine AP.FV ?_ | refine AP.EQ ?_ | ((with_reducible apply AP.k_any); refine AP.C (h1) ?_) | ((with_reducible apply AP.k_any); refine AP.C (h2) ?_) | ((with_reducible apply AP.k_any); refine AP.C (h3) ?_) | ((with_reducible apply AP.k_any); refine AP.CQ (h4) ?_) | ((with_reducible apply AP.k_any); refine AP.C (h5) ?_) | ((with_reducible apply AP.k_any); refine AP.C (h6) ?_) | ((with_reducible apply AP.k_any); refine AP.C (h7) ?_) | ((with_reducible apply AP.k_any); refine AP.C (h8) ?_) | ((with_reducible apply AP.k_any); refine AP.C (h9) ?_) | ((with_reducible apply AP.k_any); refine AP.C (h10) ?_) | ((with_reducible apply AP.k_any); refine AP.C (h11) ?_) | ((with_reducible apply AP.k_any); refine AP.C (h12) ?_) | refine AP.PF ?_)
      | ((with_reducible apply DW.k_any); first
        | refine DW.R ?_ | refine DW.R' ?_ | refine DW.W ?_ | refine DW.W' ?_ | refine DW.RA ?_ | refine DW.A 0 ?_ | refine DW.A 1 ?_ | refine DW.A 2 ?_ | refine DW.A' 0 ?_ | refine DW.A' 2 ?_ | ((fail_if_success refine DW.known rfl ?_); refine DW.G (fun hg => ?_) (fun hg => ?_))
        | refine DW.RX ?_ | refine DW.WX ?_ | refine DW.WX' ?_)
    | ((with_reducible apply DW.k_any); first
                | refine DW.R ?_ | refine DW.R' ?_ | refine DW.W ?_ | refine DW.W' ?_
                | (refine DW.known rfl ?_; (with_reducible first | apply DW.sx 2 | apply DW.sxN 2); (iterate 2 (focus (simp only [ft, nm, Nat.reduceAdd, Nat.reduceBEq, List.getElem?_cons_zero, List.getElem?_cons_succ]; exact rfl))); (focus (intro X V; simp only [ft, nm, Nat.reduceAdd, Nat.reduceBEq]; (try (refine AP.Y ?_; dsimp only)); (first | refine AP.EQ ?_ | ((with_reducible apply AP.k_any); refine AP.C (h1) ?_) | ((with_reducible apply AP.k_any); refine AP.C (h2) ?_) | ((with_reducible apply AP.k_any); refine AP.C (h3) ?_) | ((with_reducible apply AP.k_any); refine AP.CQ (h4) ?_) | ((with_reducible apply AP.k_any); refine AP.C (h5) ?_) | ((with_reducible apply AP.k_any); refine AP.C (h6) ?_) | ((with_reducible apply AP.k_any); refine AP.C (h7) ?_) | ((with_reducible apply AP.k_any); refine AP.C (h8) ?_) | ((with_reducible apply AP.k_any); refine AP.C (h9) ?_) | ((with_reducible apply AP.k_any); refine AP.C (h10) ?_) | ((with_reducible apply AP.k_any); refine AP.C (h11) ?_) | ((with_reducible apply AP.k_any); refine AP.C (h12) ?_) | fail); (try simp only [nx, Nat.reduceAdd, Nat.reduceSub, BEq.rfl]); refine AP.nil ?_; (first | refine ⟨trivial, rfl, ?_⟩ | refine ⟨rfl, rfl, ?_⟩); (repeat' (first | exact Mg.nil | apply Mg.keep rfl | apply Mg.take rfl)); done)); (focus (refine Exists.intro (fun _ => 0) ?_; apply Exists.intro; (repeat' (first | exact Mg.nil | apply Mg.keep rfl | apply Mg.take rfl)); done)); (iterate 2 (focus (exact rfl))))
                | ((fail_if_success refine DW.known rfl ?_); refine DW.G (fun hg => ?_) (fun hg => ?_))
    )
    ) <;> (try simp only [d1, d2, heq, rr, nx, q4, rn, fq, Nat.mul_one, Bool.and_true, Bool.and_false, Nat.reduceBEq, Nat.reduceAdd, Nat.reduceSub, BEq.rfl]))
    | ((with_reducible apply AP.k_nil); first | (refine AP.nil (hQ' _ ?_); clear hQ' Q') | refine AP.nil ?_)
    | ((with_reducible apply CP.k_drw); refine cp_drwX fun Q' hQ' => ?_)
    | ((with_reducible apply CP.k_drw1); refine cp_drawX ?_)
    | ((with_reducible apply DW.k_nil); refine DW.nl ?_; first | (refine hQ' _ ?_; clear hQ' Q') | skip)
    | ((with_reducible apply CP.k_reg); refine cp_regG fun Q' hQ' => ?_)
      | (with_reducible apply CP.k_reg1; refine cp_region ?_)
      | ((with_reducible apply CP.k_cond); first | refine cp_condT rfl ?_ | refine cp_condF rfl ?_ | refine cp_cond rfl (fun hc => ?_) (fun hc => ?_))
      | refine CP.go ?_
      | (simp only [List.append_eq, List.cons_append, List.nil_append]))
  refine cp_loopS [10, 76, 77, 78, 79, 80, 81, 82, 83, 84, 85, 86, 87, 88, 89] (fun i : Nat => p.body.length - i) (fun i => i ≤ p.body.length) (fun i => [(10, I i)]) (fun i => [(2, ⟨1, .r tU 1 ((incB p.body i).map eB)⟩)]) 0 (Nat.zero_le _) (by exact Gh.W) ?_
  clear h1 h2 h3 h4 h5 h6 h7 h8 h9
  intro i hi
  simp only [setT, deT, setB, List.set_cons_succ, List.set_cons_zero]
  have hln := incB_len p.body i
  have hln2 : ((incB p.body i).map eB).length = p.body.length := by simp [hln]
  by_cases hlt : i < p.body.length
  · have hw : IntKind.i64.wrap ((i : Int) + 1) = ((i + 1 : Nat) : Int) := wrap_i64 (by omega) (by omega)
    have di : decide ((i : Int) < (p.body.length : Int)) = true := by simp; omega
    have hset := incB_set hlt
    have hat := incB_at hlt
    generalize p.body[i] = c at *
    generalize (incB p.body i).map eB = W at *
    repeat' (first
      | ((first
      | ((with_reducible apply AP.k_any); first
              | refine AP.S ?_
              | refine AP.E ?_
              | (refine AP.Y ?_; dsimp only) | refine AP.G (fun hg => ?_) (fun hg => ?_)
              | refine AP.T ?_
              | refine AP.A ?_ | refine AP.AB 0 ?_ | refine AP.AB 1 ?_ | refine AP.AL ?_
              | refine AP.LB ?_ | refine AP.TB ?_ | refine AP.IX ?_ | refine AP.SF ?_ | refine AP.SV ?_ | refine AP.CV ?_ | refine AP.CO ?_ | refine AP.FV ?_  | refine AP.PF ?_)
        | ((with_reducible apply DW.k_any); first
          | refine DW.R ?_ | refine DW.R' ?_ | refine DW.W ?_ | refine DW.W' ?_ | refine DW.RA ?_ | refine DW.A 0 ?_ | refine DW.A 1 ?_ | refine DW.A 2 ?_ | refine DW.A' 0 ?_ | refine DW.A' 2 ?_ | ((fail_if_success refine DW.known rfl ?_); refine DW.G (fun hg => ?_) (fun hg => ?_))
          | refine DW.RX ?_ | refine DW.WX ?_ | refine DW.WX' ?_)
      | ((with_reducible apply DW.k_any); first
                  | refine DW.R ?_ | refine DW.R' ?_ | refine DW.W ?_ | refine DW.W' ?_
                  | (refine DW.known rfl ?_; (with_reducible first | apply DW.sx 2 | apply DW.sxN 2); (iterate 2 (focus (simp only [ft, nm, Nat.reduceAdd, Nat.reduceBEq, List.getElem?_cons_zero, List.getElem?_cons_succ]; exact rfl))); (focus (intro X V; simp only [ft, nm, Nat.reduceAdd, Nat.reduceBEq]; (try (refine AP.Y ?_; dsimp only)); (first  | fail); (try simp only [nx, Nat.reduceAdd, Nat.reduceSub, BEq.rfl]); refine AP.nil ?_; (first | refine ⟨trivial, rfl, ?_⟩ | refine ⟨rfl, rfl, ?_⟩); (repeat' (first | exact Mg.nil | apply Mg.keep rfl | apply Mg.take rfl)); done)); (focus (refine Exists.intro (fun _ => 0) ?_; apply Exists.intro; (repeat' (first | exact Mg.nil | apply Mg.keep rfl | apply Mg.take rfl)); done)); (iterate 2 (focus (exact rfl))))
                  | ((fail_if_success refine DW.known rfl ?_); refine DW.G (fun hg => ?_) (fun hg => ?_))
      )
      ) <;> (try simp only [di, hln2, hln, incU, nx, q4, rn, fq, Nat.mul_one, Bool.and_true, Bool.and_false, Nat.reduceBEq, Nat.reduceAdd, Nat.reduceSub, BEq.rfl]))
      | ((with_reducible apply AP.k_nil); first | (refine AP.nil (hQ' _ ?_); clear hQ' Q') | refine AP.nil ?_)
      | ((with_reducible apply CP.k_drw); refine cp_drwX fun Q' hQ' => ?_)
      | ((with_reducible apply CP.k_drw1); refine cp_drawX ?_)
      | ((with_reducible apply DW.k_nil); refine DW.nl ?_; first | (refine hQ' _ ?_; clear hQ' Q') | skip)
      | ((with_reducible apply CP.k_reg); refine cp_regG fun Q' hQ' => ?_)
        | (with_reducible apply CP.k_reg1; refine cp_region ?_)
        | ((with_reducible apply CP.k_cond); first | refine cp_condT rfl ?_ | refine cp_condF rfl ?_ | refine cp_cond rfl (fun hc => ?_) (fun hc => ?_))
        | refine CP.go ?_
        | (simp only [List.append_eq, List.cons_append, List.nil_append]))
    simp only [hw]
    exact ⟨i + 1, by omega, by omega, by (rw [← hset]; exact Gh.W)⟩
  · obtain rfl : i = p.body.length := by omega
    have di : decide ((p.body.length : Int) < (p.body.length : Int)) = false := by simp
    repeat' (first
      | ((first
      | ((with_reducible apply AP.k_any); first
              | refine AP.S ?_
              | refine AP.E ?_
              | (refine AP.Y ?_; dsimp only) | refine AP.G (fun hg => ?_) (fun hg => ?_)
              | refine AP.T ?_
              | refine AP.A ?_ | refine AP.AB 0 ?_ | refine AP.AB 1 ?_ | refine AP.AL ?_
              | refine AP.LB ?_ | refine AP.TB ?_ | refine AP.IX ?_ | refine AP.SF ?_ | refine AP.SV ?_ | refine AP.CV ?_ | refine AP.CO ?_ | refine AP.FV ?_ | ((with_reducible apply AP.k_any); refine AP.C (h10) ?_) | ((with_reducible apply AP.k_any); refine AP.C (h11) ?_) | ((with_reducible apply AP.k_any); refine AP.C (h12) ?_) | refine AP.PF ?_)
        | ((with_reducible apply DW.k_any); first
          | refine DW.R ?_ | refine DW.R' ?_ | refine DW.W ?_ | refine DW.W' ?_ | refine DW.RA ?_ | refine DW.A 0 ?_ | refine DW.A 1 ?_ | refine DW.A 2 ?_ | refine DW.A' 0 ?_ | refine DW.A' 2 ?_ | ((fail_if_success refine DW.known rfl ?_); refine DW.G (fun hg => ?_) (fun hg => ?_))
          | refine DW.RX ?_ | refine DW.WX ?_ | refine DW.WX' ?_)
      | ((with_reducible apply DW.k_any); first
                  | refine DW.R ?_ | refine DW.R' ?_ | refine DW.W ?_ | refine DW.W' ?_
                  | (refine DW.known rfl ?_; (with_reducible first | apply DW.sx 2 | apply DW.sxN 2); (iterate 2 (focus (simp only [ft, nm, Nat.reduceAdd, Nat.reduceBEq, List.getElem?_cons_zero, List.getElem?_cons_succ]; exact rfl))); (focus (intro X V; simp only [ft, nm, Nat.reduceAdd, Nat.reduceBEq]; (try (refine AP.Y ?_; dsimp only)); (first | ((with_reducible apply AP.k_any); refine AP.C (h10) ?_) | ((with_reducible apply AP.k_any); refine AP.C (h11) ?_) | ((with_reducible apply AP.k_any); refine AP.C (h12) ?_) | fail); (try simp only [nx, Nat.reduceAdd, Nat.reduceSub, BEq.rfl]); refine AP.nil ?_; (first | refine ⟨trivial, rfl, ?_⟩ | refine ⟨rfl, rfl, ?_⟩); (repeat' (first | exact Mg.nil | apply Mg.keep rfl | apply Mg.take rfl)); done)); (focus (refine Exists.intro (fun _ => 0) ?_; apply Exists.intro; (repeat' (first | exact Mg.nil | apply Mg.keep rfl | apply Mg.take rfl)); done)); (iterate 2 (focus (exact rfl))))
                  | ((fail_if_success refine DW.known rfl ?_); refine DW.G (fun hg => ?_) (fun hg => ?_))
      )
      ) <;> (try simp only [di, hln2, hln, nx, q4, rn, fq, Nat.mul_one, Bool.and_true, Bool.and_false, Nat.reduceBEq, Nat.reduceAdd, Nat.reduceSub, BEq.rfl]))
      | ((with_reducible apply AP.k_nil); first | (refine AP.nil (hQ' _ ?_); clear hQ' Q') | refine AP.nil ?_)
      | ((with_reducible apply CP.k_drw); refine cp_drwX fun Q' hQ' => ?_)
      | ((with_reducible apply CP.k_drw1); refine cp_drawX ?_)
      | ((with_reducible apply DW.k_nil); refine DW.nl ?_; first | (refine hQ' _ ?_; clear hQ' Q') | skip)
      | ((with_reducible apply CP.k_reg); refine cp_regG fun Q' hQ' => ?_)
        | (with_reducible apply CP.k_reg1; refine cp_region ?_)
        | ((with_reducible apply CP.k_cond); first | refine cp_condT rfl ?_ | refine cp_condF rfl ?_ | refine cp_cond rfl (fun hc => ?_) (fun hc => ?_))
        | refine CP.go ?_
        | (simp only [List.append_eq, List.cons_append, List.nil_append]))
    (exact RetQ.A [] (by exact ⟨rfl, rfl⟩))
end Go.Proofs.Ytnjfchigdpifmaa

namespace Go.Proofs.Ytnjfchigdpifmaa
set_option linter.unusedVariables false
set_option linter.unusedSimpArgs false
set_option maxHeartbeats 8000000
open Go.RowKit
set_option maxRecDepth 100000
theorem lseal_f (root : List UInt8) (p : Pkt) (hr : root.length ≤ 2000) (hp : p.body.length ≤ 2000) (ht : p.tag.length = 32) (hm : mayP p = false) : AC Try.prog 4 [bs none root, .ag (eP p)] [] (fun v bs' => v = B true ∧ bs' = []) := by
  have d1 : decide ((2000 : Int) < (root.length : Int)) = false := by simp; omega
  have d2 : decide ((2000 : Int) < (p.body.length : Int)) = false := by simp; omega
  have h1 := (copy_ac p.body (by omega)).ro (r2 := bs none p.body) (by simp only [AV.ro, ro_B])
  have h2 := seal_ac root p (by omega) (by omega)
  have h3 := dtagP_ac root p (by omega) (by omega)
  have hT := tagS_len root p
  have h4 := sameP_ac { p with tag := tagS root p } (by dsimp only; omega)
  have h5 := right_ac root p (by omega) (by omega) ht
  have h6 := right_ac root { p with tag := tagS root p } (by omega) (by dsimp only; omega) hT
  have e6 : decide (({ p with tag := tagS root p } : Pkt).tag = tagS root { p with tag := tagS root p }) = true := decide_eq_true rfl
  rw [e6] at h6
  clear e6
  have heq := eqT ht hT
  have h7 := mayP_ac p
  have h8 := dmayP_ac p
  have h9 := print_ac p (by omega) ht
  have h10 := dpbytes_ac p (by omega) ht
  have hx1 : (headS p ++ p.tag).length ≤ 1000000000 := by have := headS_len p; simp; omega
  have h11 := same_ac (headS p ++ p.tag) (headS p ++ p.tag) hx1
  rw [decide_eq_true rfl] at h11
  have h12 := same_ac p.body p.body (by omega)
  rw [decide_eq_true rfl] at h12
  generalize headS p ++ p.tag = x at *
  generalize tagS root p = T at *
  generalize decide (p.tag = T) = r at *
  have rr : (r != r) = false := by simp
  rw [hm] at h7 h8 h9
  refine AC.N Try.func4 Try.ntmps4 ?_
  intro X hρ hmks
  simp only [nx, Nat.reduceAdd, Nat.reduceSub, BEq.rfl]
  refine CP.gh gh_slot ?_; simp only [nx, Nat.reduceAdd, Nat.reduceSub, BEq.rfl]
  refine CP.gh gh_slot ?_; simp only [nx, Nat.reduceAdd, Nat.reduceSub, BEq.rfl]
  refine CP.gh gh_slot ?_; simp only [nx, Nat.reduceAdd, Nat.reduceSub, BEq.rfl]
  refine CP.gh gh_slot ?_; simp only [nx, Nat.reduceAdd, Nat.reduceSub, BEq.rfl]
  repeat' (first
    | ((first
    | ((with_reducible apply AP.k_any); first
            | refine AP.S ?_
            | refine AP.E ?_
            | (refine AP.Y ?_; dsimp only) | refine AP.G (fun hg => ?_) (fun hg => ?_)
            | refine AP.T ?_
            | refine AP.A ?_ | refine AP.AB 0 ?_ | refine AP.AB 1 ?_ | refine AP.AL ?_
            | refine AP.LB ?_ | refine AP.TB ?_ | refine AP.IX ?_ | refine AP.SF ?_ | refine AP.SV ?_ | refine AP.CV ?_ | refine AP.CO ?_ | refine AP.FV ?_ | refine AP.EQ ?_ | ((with_reducible apply AP.k_any); refine AP.C (h1) ?_) | ((with_reducible apply AP.k_any); refine AP.C (h2) ?_) | ((with_reducible apply AP.k_any); refine AP.C (h3) ?_) | ((with_reducible apply AP.k_any); refine AP.CQ (h4) ?_) | ((with_reducible apply AP.k_any); refine AP.C (h5) ?_) | ((with_reducible apply AP.k_any); refine AP.C (h6) ?_) | ((with_reducible apply AP.k_any); refine AP.C (h7) ?_) | ((with_reducible apply AP.k_any); refine AP.C (h8) ?_) | ((with_reducible apply AP.k_any); refine AP.C (h9) ?_) | refine AP.PF ?_)
      | ((with_reducible apply DW.k_any); first
        | refine DW.R ?_ | refine DW.R' ?_ | refine DW.W ?_ | refine DW.W' ?_ | refine DW.RA ?_ | refine DW.A 0 ?_ | refine DW.A 1 ?_ | refine DW.A 2 ?_ | refine DW.A' 0 ?_ | refine DW.A' 2 ?_ | ((fail_if_success refine DW.known rfl ?_); refine DW.G (fun hg => ?_) (fun hg => ?_))
        | refine DW.RX ?_ | refine DW.WX ?_ | refine DW.WX' ?_)
    | ((with_reducible apply DW.k_any); first
                | refine DW.R ?_ | refine DW.R' ?_ | refine DW.W ?_ | refine DW.W' ?_
                | (refine DW.known rfl ?_; (with_reducible first | apply DW.sx 2 | apply DW.sxN 2); (iterate 2 (focus (simp only [ft, nm, Nat.reduceAdd, Nat.reduceBEq, List.getElem?_cons_zero, List.getElem?_cons_succ]; exact rfl))); (focus (intro X V; simp only [ft, nm, Nat.reduceAdd, Nat.reduceBEq]; (try (refine AP.Y ?_; dsimp only)); (first | refine AP.EQ ?_ | ((with_reducible apply AP.k_any); refine AP.C (h1) ?_) | ((with_reducible apply AP.k_any); refine AP.C (h2) ?_) | ((with_reducible apply AP.k_any); refine AP.C (h3) ?_) | ((with_reducible apply AP.k_any); refine AP.CQ (h4) ?_) | ((with_reducible apply AP.k_any); refine AP.C (h5) ?_) | ((with_reducible apply AP.k_any); refine AP.C (h6) ?_) | ((with_reducible apply AP.k_any); refine AP.C (h7) ?_) | ((with_reducible apply AP.k_any); refine AP.C (h8) ?_) | ((with_reducible apply AP.k_any); refine AP.C (h9) ?_) | fail); (try simp only [nx, Nat.reduceAdd, Nat.reduceSub, BEq.rfl]); refine AP.nil ?_; (first | refine ⟨trivial, rfl, ?_⟩ | refine ⟨rfl, rfl, ?_⟩); (repeat' (first | exact Mg.nil | apply Mg.keep rfl | apply Mg.take rfl)); done)); (focus (refine Exists.intro (fun _ => 0) ?_; apply Exists.intro; (repeat' (first | exact Mg.nil | apply Mg.keep rfl | apply Mg.take rfl)); done)); (iterate 2 (focus (exact rfl))))
                | ((fail_if_success refine DW.known rfl ?_); refine DW.G (fun hg => ?_) (fun hg => ?_))
    )
    ) <;> (try simp only [d1, d2, heq, rr, nx, q4, rn, fq, Nat.mul_one, Bool.and_true, Bool.and_false, Nat.reduceBEq, Nat.reduceAdd, Nat.reduceSub, BEq.rfl]))
    | ((with_reducible apply AP.k_nil); first | (refine AP.nil (hQ' _ ?_); clear hQ' Q') | refine AP.nil ?_)
    | ((with_reducible apply CP.k_drw); refine cp_drwX fun Q' hQ' => ?_)
    | ((with_reducible apply CP.k_drw1); refine cp_drawX ?_)
    | ((with_reducible apply DW.k_nil); refine DW.nl ?_; first | (refine hQ' _ ?_; clear hQ' Q') | skip)
    | ((with_reducible apply CP.k_reg); refine cp_regG fun Q' hQ' => ?_)
      | (with_reducible apply CP.k_reg1; refine cp_region ?_)
      | ((with_reducible apply CP.k_cond); first | refine cp_condT rfl ?_ | refine cp_condF rfl ?_ | refine cp_cond rfl (fun hc => ?_) (fun hc => ?_))
      | refine CP.go ?_
      | (simp only [List.append_eq, List.cons_append, List.nil_append]))
  (exact RetQ.A [] (by exact ⟨rfl, rfl⟩))
end Go.Proofs.Ytnjfchigdpifmaa
