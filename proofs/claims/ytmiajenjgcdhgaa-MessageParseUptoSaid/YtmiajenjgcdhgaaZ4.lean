/-
  Texts joined: M9, Ca, V2, Cb, N1, Br, BrA, P1, P2, P4, V4, D1, D2, V7, V8, V9, V10, D3, D4, D5, Mix, Fe, Mpw.
-/
import Derived.Test.YtmiajenjgcdhgaaZ1
import Derived.Test.YtmiajenjgcdhgaaZ2
import Derived.Test.YtmiajenjgcdhgaaZ3
import Derived.Test.YtmiajenjgcdhgaaRows
import Derived.OpenShut
import Derived.Carry
import Derived.ChangeArms
import Derived.ChangeSame
import Derived.ChangeMaps5
import Derived.JoinedCond
import Derived.Deep.Slices
namespace Go.Proofs.Ytmiajenjgcdhgaa
set_option linter.unusedVariables false
set_option linter.unusedSimpArgs false
set_option maxHeartbeats 8000000
open Go.RowKit
set_option maxRecDepth 100000
abbrev eGO (m : Msg) : List AV := [U m.kind, I m.client, I m.id, bs (some tU) m.body, I m.upto, I m.frm, es (some tE) (some tU) m.entries, I m.have_, I m.done, I m.cfg.epoch, ms none m.cfg.members, I m.since]
theorem rbytes1o_ac (b : List UInt8) (h : b.length ≤ 100000000) : AC Try.prog 76 [bs none b] [] (fun v bs' => v = .tu [bs (some tU) (bytesG b).1, B (bytesG b).2] ∧ bs' = []) := by
  have hcat := wcat_ac [b] (by simp) (by simp; omega)
  rw [show [b].flatten = b by simp] at hcat
  refine AC.N Try.func76 Try.ntmps76 ?_
  intro X hρ hmks
  simp only [nx, Nat.reduceAdd, Nat.reduceSub, BEq.rfl]
  refine CP.gh gh_slot ?_; simp only [nx, Nat.reduceAdd, Nat.reduceSub, BEq.rfl]
  refine CP.gh gh_slot ?_; simp only [nx, Nat.reduceAdd, Nat.reduceSub, BEq.rfl]
  repeat' (first | ((first | ((with_reducible apply AP.k_any); first | refine AP.ST ?_ | (refine AP.Y ?_; dsimp only) | refine AP.G (fun hg => ?_) (fun hg => ?_) | (refine AP.V (fun c hnil => ?_); simp only [nz])  | refine AP.PF ?_)) <;> (try simp only [ nx, mx, rn, fq, Nat.mul_one, Bool.and_true, Bool.and_false, Nat.reduceBEq, Nat.reduceAdd, Nat.reduceSub, BEq.rfl])) | ((with_reducible apply AP.k_nil); first | (refine AP.nil (hQ' _ ?_); clear hQ' Q') | refine AP.nil ?_) | ((with_reducible apply CP.k_reg); refine cp_regG fun Q' hQ' => ?_) | refine CP.W ?_ | refine cp_cond rfl (fun hc => ?_) (fun hc => ?_) | (simp only [List.append_eq, List.cons_append, List.nil_append]))
  (exact RetQ.A [] (by exact ⟨rfl, rfl⟩))
theorem take4o_ac  (f : Nat) (g : List UInt8 → List UInt8 × Bool) (n : Int) (st : Int × List UInt8) (hst : st.2.length ≤ 100000000) (hf : ∀ b : List UInt8, b.length = n.toNat → b.length ≤ st.2.length → AC Try.prog f [bs none b] [] (fun v bs' => v = .tu [bs (some tU) (g b).1, B (g b).2] ∧ bs' = [])) :
    AC Try.prog 75 [.bp 0 0 0, I n, .fn f []] [rB st] (fun v bs' => v = bs (some tU) (takeS ([] : List UInt8) g n st).1 ∧ bs' = [rB (takeS ([] : List UInt8) g n st).2]) := by
  obtain ⟨e, b⟩ := st
  by_cases he : e = 0
  · subst he
    by_cases hn : n < 0 ∨ (b.length : Int) < n
    · have ht : takeS ([] : List UInt8) g n (0, b) = (([] : List UInt8), (40, [])) := by simp only [takeS, hn]; simp
      rw [ht]
      refine AC.N Try.func75 Try.ntmps75 ?_
      intro X hρ hmks
      simp only [nx, Nat.reduceAdd, Nat.reduceSub, BEq.rfl]
      repeat' (first | ((first | ((with_reducible apply AP.k_any); first | refine AP.S ?_ | (refine AP.Y ?_; dsimp only) | refine AP.G (fun hg => ?_) (fun hg => ?_)) | ((with_reducible apply AP.k_any); refine AP.CB [(0, 0)] 0 (fine_ac (0, b)) ?_) | ((with_reducible apply AP.k_any); refine AP.CB [(0, 0)] 0 (rbad_ac (0, b)) ?_)) <;> (try simp only [nx, Nat.reduceAdd, Nat.reduceSub, BEq.rfl])) | ((with_reducible apply AP.k_nil); first | (refine AP.nil (hQ' _ ?_); clear hQ' Q') | refine AP.nil ?_) | ((with_reducible apply CP.k_reg); refine cp_regG fun Q' hQ' => ?_) | refine CP.W ?_ | refine cp_cond rfl (fun hc => ?_) (fun hc => ?_) | (simp only [List.append_eq, List.cons_append, List.nil_append]))
      all_goals first
        | (exfalso; simp at *; done)
        | (exfalso; simp at *; omega)
        | (exact RetQ.A [(0, 0)] (by exact ⟨rfl, rfl⟩))
    · have hl : (b.take n.toNat).length = n.toNat := by simp; omega
      have hf' := hf (b.take n.toNat) hl (by rw [List.length_take]; exact Nat.min_le_right _ _)
      have htk : List.take (b.length - n.toNat) (List.drop n.toNat b) = List.drop n.toNat b := List.take_of_length_le (by simp)
      have hn0 : 0 ≤ n := by omega
      have hn1 : n ≤ (b.length : Int) := by omega
      have hm : n ≤ ((b.map eB).length : Int) := by simp; omega
      have ht : takeS ([] : List UInt8) g n (0, b) = if (g (b.take n.toNat)).2 = true then ((g (b.take n.toNat)).1, (0, b.drop n.toNat)) else (([] : List UInt8), (40, [])) := by simp only [takeS, hn]; simp
      rw [ht]
      cases hg2 : (g (b.take n.toNat)).2 with
      | true =>
        rw [hg2] at hf'
        simp only [if_true]
        refine AC.N Try.func75 Try.ntmps75 ?_
        intro X hρ hmks
        simp only [nx, Nat.reduceAdd, Nat.reduceSub, BEq.rfl]
        repeat' (first | ((first | ((with_reducible apply AP.k_any); first | refine AP.S ?_ | (refine AP.Y ?_; dsimp only) | refine AP.G (fun hg => ?_) (fun hg => ?_)) | ((with_reducible apply AP.k_any); refine AP.CB [(0, 0)] 0 (fine_ac (0, b)) ?_) | ((with_reducible apply AP.k_any); refine ap_callX rfl rfl (fn := f) rfl hf' (by (repeat' (first | exact PasC.nil | apply PasC.nil | apply PasC.cons | apply PasV.leaf rfl | apply PasV.nl | apply PasV.bp rfl | apply PasV.lend rfl rfl rfl | apply PasV.lend rfl rfl (ro_B _) | apply PasV.lend rfl rfl (ro_M _) | apply PasV.lend rfl rfl (ro_E _ _) | apply PasV.lend rfl rfl (ro_I _) | apply PasV.lend rfl rfl (by (simp only [rn, List.map_cons, List.map_nil]; first | done | rfl)) | apply PasV.mv rfl | apply PasV.ag | apply PasV.fn | exact PasV.fs | apply PasV.any))) rfl rfl ?_) | ((with_reducible apply AP.k_any); refine AP.CB [(0, 0)] 0 (rbad_ac (0, b)) ?_)) <;> (try simp only [nx, Nat.reduceAdd, Nat.reduceSub, BEq.rfl])) | ((with_reducible apply AP.k_nil); first | (refine AP.nil (hQ' _ ?_); clear hQ' Q') | refine AP.nil ?_) | ((with_reducible apply CP.k_reg); refine cp_regG fun Q' hQ' => ?_) | refine CP.W ?_ | refine cp_cond rfl (fun hc => ?_) (fun hc => ?_) | (simp only [List.append_eq, List.cons_append, List.nil_append]))
        all_goals first
          | (exfalso; simp at *; done)
          | (exfalso; simp at *; omega)
          | (simp only [htk]
             (exact RetQ.A [(0, 0)] (by exact ⟨rfl, rfl⟩)))
      | false =>
        rw [hg2] at hf'
        simp only [Bool.false_eq_true, if_false]
        refine AC.N Try.func75 Try.ntmps75 ?_
        intro X hρ hmks
        simp only [nx, Nat.reduceAdd, Nat.reduceSub, BEq.rfl]
        repeat' (first | ((first | ((with_reducible apply AP.k_any); first | refine AP.S ?_ | (refine AP.Y ?_; dsimp only) | refine AP.G (fun hg => ?_) (fun hg => ?_)) | ((with_reducible apply AP.k_any); refine AP.CB [(0, 0)] 0 (fine_ac (0, b)) ?_) | ((with_reducible apply AP.k_any); refine ap_callX rfl rfl (fn := f) rfl hf' (by (repeat' (first | exact PasC.nil | apply PasC.nil | apply PasC.cons | apply PasV.leaf rfl | apply PasV.nl | apply PasV.bp rfl | apply PasV.lend rfl rfl rfl | apply PasV.lend rfl rfl (ro_B _) | apply PasV.lend rfl rfl (ro_M _) | apply PasV.lend rfl rfl (ro_E _ _) | apply PasV.lend rfl rfl (ro_I _) | apply PasV.lend rfl rfl (by (simp only [rn, List.map_cons, List.map_nil]; first | done | rfl)) | apply PasV.mv rfl | apply PasV.ag | apply PasV.fn | exact PasV.fs | apply PasV.any))) rfl rfl ?_) | ((with_reducible apply AP.k_any); refine AP.CB [(0, 0)] 0 (rbad_ac (0, b)) ?_)) <;> (try simp only [nx, Nat.reduceAdd, Nat.reduceSub, BEq.rfl])) | ((with_reducible apply AP.k_nil); first | (refine AP.nil (hQ' _ ?_); clear hQ' Q') | refine AP.nil ?_) | ((with_reducible apply CP.k_reg); refine cp_regG fun Q' hQ' => ?_) | refine CP.W ?_ | refine cp_cond rfl (fun hc => ?_) (fun hc => ?_) | (simp only [List.append_eq, List.cons_append, List.nil_append]))
        all_goals first
          | (exfalso; simp at *; done)
          | (exfalso; simp at *; omega)
          | (exact RetQ.A [(0, 0)] (by exact ⟨rfl, rfl⟩))
  · have ht : takeS ([] : List UInt8) g n (e, b) = (([] : List UInt8), (e, b)) := by simp [takeS, he]
    have hb : ((e : Int) == 0) = false := by simp [he]
    rw [ht]
    refine AC.N Try.func75 Try.ntmps75 ?_
    intro X hρ hmks
    simp only [nx, Nat.reduceAdd, Nat.reduceSub, BEq.rfl]
    repeat' (first | ((first | ((with_reducible apply AP.k_any); first | refine AP.S ?_ | (refine AP.Y ?_; dsimp only) | refine AP.G (fun hg => ?_) (fun hg => ?_)) | ((with_reducible apply AP.k_any); refine AP.CB [(0, 0)] 0 (fine_ac (e, b)) ?_)) <;> (try simp only [nx, Nat.reduceAdd, Nat.reduceSub, BEq.rfl])) | ((with_reducible apply AP.k_nil); first | (refine AP.nil (hQ' _ ?_); clear hQ' Q') | refine AP.nil ?_) | ((with_reducible apply CP.k_reg); refine cp_regG fun Q' hQ' => ?_) | refine CP.W ?_ | refine cp_cond rfl (fun hc => ?_) (fun hc => ?_) | (simp only [List.append_eq, List.cons_append, List.nil_append]))
    all_goals first
      | (exfalso; simp at *; done)
      | (exfalso; simp at *; omega)
      | (exact RetQ.A [(0, 0)] (by exact ⟨rfl, rfl⟩))
theorem rbyteso_ac (st : Int × List UInt8) (hst : st.2.length ≤ 100000000) : AC Try.prog 50 [.bp 0 0 0] [rB st] (fun v bs' => v = bs (some tU) (bytesR st).1 ∧ bs' = [rB (bytesR st).2]) := by
  have h := take3_ac 73 lenG 4 st hst (fun b hb _ => rlen1_ac b hb)
  have h2 := take4o_ac 76 bytesG (lenR st).1 (lenR st).2 (takeS_len hst) (fun b _ hb => rbytes1o_ac b (Nat.le_trans hb (takeS_len hst)))
  refine AC.N Try.func50 Try.ntmps50 ?_
  intro X hρ hmks
  simp only [nx, Nat.reduceAdd, Nat.reduceSub, BEq.rfl]
  repeat' (first | ((first | ((with_reducible apply AP.k_any); first | refine AP.S ?_) | ((with_reducible apply AP.k_any); refine AP.CB [(0, 0)] 0 (h) ?_) | ((with_reducible apply AP.k_any); refine AP.CB [(0, 0)] 0 (h2) ?_)) <;> (try simp only [nx, Nat.reduceAdd, Nat.reduceSub, BEq.rfl])) | ((with_reducible apply AP.k_nil); first | (refine AP.nil (hQ' _ ?_); clear hQ' Q') | refine AP.nil ?_) | ((with_reducible apply CP.k_reg); refine cp_regG fun Q' hQ' => ?_) | refine CP.W ?_ | refine cp_cond rfl (fun hc => ?_) (fun hc => ?_) | (simp only [List.append_eq, List.cons_append, List.nil_append]))
  (exact RetQ.A [(0, 0)] (by exact ⟨rfl, rfl⟩))
theorem takeResto_ac (pos : Int) (st : Int × List UInt8) (hst : st.2.length ≤ 100000000) :
    AC Try.prog 86 [.bp 0 0 0, I pos] [rB st] (fun v bs => v = .ag (eE (some tU) (restR pos st).1) ∧ bs = [rB (restR pos st).2]) := by
  have h1 := intR_len hst
  have h2 := intR_len h1
  have h3 := intR_len h2
  refine AC.N Try.func86 Try.ntmps86 ?_
  intro X hρ hmks
  simp only [nx, Nat.reduceAdd, Nat.reduceSub, BEq.rfl]
  repeat' (first | ((first | ((with_reducible apply AP.k_any); first | refine AP.S ?_) | ((with_reducible apply AP.k_any); refine AP.CB [(0, 0)] 0 (rbyteso_ac (intR (intR (intR st).2).2).2 h3) ?_) | ((with_reducible apply AP.k_any); refine AP.CB [(0, 0)] 0 (rint_ac (intR (intR st).2).2 h2) ?_) | ((with_reducible apply AP.k_any); refine AP.CB [(0, 0)] 0 (rint_ac (intR st).2 h1) ?_) | ((with_reducible apply AP.k_any); refine AP.CB [(0, 0)] 0 (rint_ac st hst) ?_)) <;> (try simp only [nx, Nat.reduceAdd, Nat.reduceSub, BEq.rfl])) | ((with_reducible apply AP.k_nil); first | (refine AP.nil (hQ' _ ?_); clear hQ' Q') | refine AP.nil ?_) | ((with_reducible apply CP.k_reg); refine cp_regG fun Q' hQ' => ?_) | refine CP.W ?_ | refine cp_cond rfl (fun hc => ?_) (fun hc => ?_) | (simp only [List.append_eq, List.cons_append, List.nil_append]))
  (exact RetQ.A [(0, 0)] (by exact ⟨rfl, rfl⟩))
theorem ktake4o_ac (k : UInt8) (st : St) (hst : st.2.length ≤ 100000000) :
    AC Try.prog 48 [.bp 0 0 0, .bp 1 0 0] [rB st, eZ k 0 0 nl 0 0 nl 0 0 0 nl 0] (fun v bs' => v = .tu [] ∧ bs' = [rB (takeAsk k st).2, .c tMsg (eGO (takeAsk k st).1)]) := by
  have h1 := intR_len hst
  have h2 := intR_len h1
  refine AC.N Try.func48 Try.ntmps48 ?_
  intro X hρ hmks
  simp only [nx, Nat.reduceAdd, Nat.reduceSub, BEq.rfl]
  repeat' (first | ((first | ((with_reducible apply AP.k_any); first | refine AP.S ?_) | ((with_reducible apply AP.k_any); refine AP.CB [(0, 0)] 0 (rbyteso_ac (intR (intR st).2).2 h2) ?_) | ((with_reducible apply AP.k_any); refine AP.CB [(0, 0)] 0 (rint_ac (intR st).2 h1) ?_) | ((with_reducible apply AP.k_any); refine AP.CB [(0, 0)] 0 (rint_ac st hst) ?_)) <;> (try simp only [nx, Nat.reduceAdd, Nat.reduceSub, BEq.rfl])) | ((with_reducible apply AP.k_nil); first | (refine AP.nil (hQ' _ ?_); clear hQ' Q') | refine AP.nil ?_) | ((with_reducible apply CP.k_reg); refine cp_regG fun Q' hQ' => ?_) | refine CP.W ?_ | refine cp_cond rfl (fun hc => ?_) (fun hc => ?_) | (simp only [List.append_eq, List.cons_append, List.nil_append]))
  (exact RetQ.A [(0, 0), (1, 0)] (by exact ⟨rfl, rfl⟩))
theorem ktake8o_ac (k : UInt8) (st : St) (hst : st.2.length ≤ 100000000) :
    AC Try.prog 55 [.bp 0 0 0, .bp 1 0 0] [rB st, eZ k 0 0 nl 0 0 nl 0 0 0 nl 0] (fun v bs' => v = .tu [] ∧ bs' = [rB (takeHave k st).2, .c tMsg (eGO (takeHave k st).1)]) := by
  have h1 := intR_len hst
  refine AC.N Try.func55 Try.ntmps55 ?_
  intro X hρ hmks
  simp only [nx, Nat.reduceAdd, Nat.reduceSub, BEq.rfl]
  repeat' (first | ((first | ((with_reducible apply AP.k_any); first | refine AP.S ?_) | ((with_reducible apply AP.k_any); refine AP.CB [(0, 0)] 0 (rint_ac (intR st).2 h1) ?_) | ((with_reducible apply AP.k_any); refine AP.CB [(0, 0)] 0 (rint_ac st hst) ?_)) <;> (try simp only [nx, Nat.reduceAdd, Nat.reduceSub, BEq.rfl])) | ((with_reducible apply AP.k_nil); first | (refine AP.nil (hQ' _ ?_); clear hQ' Q') | refine AP.nil ?_) | ((with_reducible apply CP.k_reg); refine cp_regG fun Q' hQ' => ?_) | refine CP.W ?_ | refine cp_cond rfl (fun hc => ?_) (fun hc => ?_) | (simp only [List.append_eq, List.cons_append, List.nil_append]))
  (exact RetQ.A [(0, 0), (1, 0)] (by exact ⟨rfl, rfl⟩))
theorem ktake12o_ac (k : UInt8) (st : St) (hst : st.2.length ≤ 100000000) :
    AC Try.prog 61 [.bp 0 0 0, .bp 1 0 0] [rB st, eZ k 0 0 nl 0 0 nl 0 0 0 nl 0] (fun v bs' => v = .tu [] ∧ bs' = [rB (takeCfg k st).2, .c tMsg (eGO (takeCfg k st).1)]) := by
  refine AC.N Try.func61 Try.ntmps61 ?_
  intro X hρ hmks
  simp only [nx, Nat.reduceAdd, Nat.reduceSub, BEq.rfl]
  repeat' (first | ((first | ((with_reducible apply AP.k_any); first | refine AP.S ?_) | ((with_reducible apply AP.k_any); refine AP.CB [(0, 0)] 0 (takeConfig_ac st hst) ?_)) <;> (try simp only [nx, Nat.reduceAdd, Nat.reduceSub, BEq.rfl])) | ((with_reducible apply AP.k_nil); first | (refine AP.nil (hQ' _ ?_); clear hQ' Q') | refine AP.nil ?_) | ((with_reducible apply CP.k_reg); refine cp_regG fun Q' hQ' => ?_) | refine CP.W ?_ | refine cp_cond rfl (fun hc => ?_) (fun hc => ?_) | (simp only [List.append_eq, List.cons_append, List.nil_append]))
  (exact RetQ.A [(0, 0), (1, 0)] (by exact ⟨rfl, rfl⟩))
theorem ktake16o_ac (k : UInt8) (st : St) (hst : st.2.length ≤ 100000000) :
    AC Try.prog 66 [.bp 0 0 0, .bp 1 0 0] [rB st, eZ k 0 0 nl 0 0 nl 0 0 0 nl 0] (fun v bs' => v = .tu [] ∧ bs' = [rB (takeWhole k st).2, .c tMsg (eGO (takeWhole k st).1)]) := by
  refine AC.N Try.func66 Try.ntmps66 ?_
  intro X hρ hmks
  simp only [nx, Nat.reduceAdd, Nat.reduceSub, BEq.rfl]
  repeat' (first | ((first | ((with_reducible apply AP.k_any); first | refine AP.S ?_) | ((with_reducible apply AP.k_any); refine AP.CB [(0, 0)] 0 (rint_ac st hst) ?_)) <;> (try simp only [nx, Nat.reduceAdd, Nat.reduceSub, BEq.rfl])) | ((with_reducible apply AP.k_nil); first | (refine AP.nil (hQ' _ ?_); clear hQ' Q') | refine AP.nil ?_) | ((with_reducible apply CP.k_reg); refine cp_regG fun Q' hQ' => ?_) | refine CP.W ?_ | refine cp_cond rfl (fun hc => ?_) (fun hc => ?_) | (simp only [List.append_eq, List.cons_append, List.nil_append]))
  (exact RetQ.A [(0, 0), (1, 0)] (by exact ⟨rfl, rfl⟩))
theorem etake4o_ac (k : UInt8) (st : St) (hst : st.2.length ≤ 100000000) :
    AC Try.prog 84 [.bp 0 0 0, .bp 1 0 0] [rB st, eZ k 0 0 nl 0 0 nl 0 0 0 nl 0] (fun v bs' => v = .tu [] ∧ bs' = [rB (takeEnt k st).2, .c tMsg (eGO (takeEnt k st).1)]) := by
  have h1 := intR_len hst
  have h2 := intR_len h1
  have h3 := countR_len (m := 4) h2
  obtain ⟨hc0, hc5⟩ := countR_le (m := 4) (st := (intR (intR st).2).2) (by omega)
  refine AC.N Try.func84 Try.ntmps84 ?_
  intro X hρ hmks
  simp only [nx, Nat.reduceAdd, Nat.reduceSub, BEq.rfl]
  repeat' (first | ((first | ((with_reducible apply AP.k_any); first | refine AP.S ?_) | ((with_reducible apply AP.k_any); refine AP.CB [(0, 0)] 0 (rint_ac (intR st).2 h1) ?_) | ((with_reducible apply AP.k_any); refine AP.CB [(0, 0)] 0 (rint_ac st hst) ?_) | ((with_reducible apply AP.k_any); refine AP.CB [(0, 0)] 0 (rcount_ac 4 _ h2) ?_)) <;> (try simp only [nx, Nat.reduceAdd, Nat.reduceSub, BEq.rfl])) | ((with_reducible apply AP.k_nil); first | (refine AP.nil (hQ' _ ?_); clear hQ' Q') | refine AP.nil ?_) | ((with_reducible apply CP.k_reg); refine cp_regG fun Q' hQ' => ?_) | refine CP.W ?_ | refine cp_cond rfl (fun hc => ?_) (fun hc => ?_) | (simp only [List.append_eq, List.cons_append, List.nil_append]))
  refine CP.gh (gh_nilc (j := 1) (u := 0) (off := 6) (e := tE) (k := 5) rfl rfl) ?_
  simp only [nx, Nat.reduceAdd, Nat.reduceSub, BEq.rfl]
  refine CP.gh gh_slot ?_; simp only [nx, Nat.reduceAdd, Nat.reduceSub, BEq.rfl]
  refine CP.gh gh_slot ?_; simp only [nx, Nat.reduceAdd, Nat.reduceSub, BEq.rfl]
  have h0 : takeEnt k st = ({ msg0 with kind := k, upto := (intR st).1, frm := (intR (intR st).2).1, entries := (entsR (intR (intR st).2).1 0 (countR 4 (intR (intR st).2).2).1.toNat (countR 4 (intR (intR st).2).2).2).1 }, (entsR (intR (intR st).2).1 0 (countR 4 (intR (intR st).2).2).1.toNat (countR 4 (intR (intR st).2).2).2).2) := rfl
  rw [h0]
  clear h0
  obtain ⟨n, hN⟩ : ∃ n : Nat, (countR 4 (intR (intR st).2).2).1 = n := ⟨(countR 4 (intR (intR st).2).2).1.toNat, by omega⟩
  rw [hN] at hc5 ⊢
  rw [Int.toNat_natCast]
  generalize (countR 4 (intR (intR st).2).2).2 = S0 at h3 ⊢
  generalize (intR (intR st).2).1 = p
  generalize (intR st).1 = up
  refine cp_loopS [4, 17, 18, 19, 20, 21, 22, 23, 24, 25, 26, 27, 28, 29, 30, 31, 32, 33, 34, 35, 36, 37] (fun a : Nat × Nat × Nat × Nat => n - a.1) (fun a => a.1 ≤ n) (fun a => [(17, I a.1)]) (fun a => [(0, ⟨0, rB (entsR p 0 a.1 S0).2⟩), (1, ⟨0, eZ k 0 0 nl up p (.hd 2 a.2.1) 0 0 0 nl 0⟩), (2, ⟨a.2.1, .r tE 5 ((entsR p 0 a.1 S0).1.map (eE (some tU)))⟩), (3, ⟨a.2.2.1, .x⟩), (4, ⟨a.2.2.2, .x⟩)]) (0, 1, 0, 0) (Nat.zero_le _) (by exact Gh.W) ?_
  rintro ⟨i, u, v, w⟩ hk
  simp only [setT, deT, setB, List.set_cons_succ, List.set_cons_zero]
  dsimp only at hk
  have hS := entsR_len (p := p) (n := i) (i := 0) h3
  have hL := entsR_fst_len p i 0 S0
  have hs1 := (entsR_snoc p i 0 S0).1
  have hs2 := (entsR_snoc p i 0 S0).2
  rw [Nat.zero_add] at hs1 hs2
  by_cases hlt : i < n
  · have hw : IntKind.i64.wrap ((i : Int) + 1) = ((i + 1 : Nat) : Int) := wrap_i64 (by omega) (by omega)
    have q1 : decide ((i : Int) < (n : Int)) = true := by simp; omega
    generalize hms : entsR p 0 i S0 = ms at hS hL hs1 hs2 ⊢
    obtain ⟨ml, S⟩ := ms
    dsimp only at hS hL hs1 hs2 ⊢
    have hlen : (ml.map (eE (some tU))).length + 1 ≤ 1000000000 := by rw [List.length_map]; omega
    have hr := takeResto_ac (IntKind.i64.wrap (p + i)) _ hS
    repeat' (first | ((first | ((with_reducible apply AP.k_any); first | refine AP.ST ?_ | (refine AP.Y ?_; dsimp only) | refine AP.G (fun hg => ?_) (fun hg => ?_) | (refine AP.V (fun c hnil => ?_); simp only [nz]) | ((with_reducible apply AP.k_any); refine AP.B 0 (hr) ?_) | refine AP.PF ?_) | ((with_reducible apply DW.k_any); first | refine DW.ST ?_ | ((fail_if_success refine DW.known rfl ?_); refine DW.G (fun hg => ?_) (fun hg => ?_))) | ((with_reducible apply DW.k_any); first | refine DW.R ?_ | refine DW.R' ?_ | refine DW.W ?_ | refine DW.W' ?_ | (refine DW.known rfl ?_; (with_reducible first | apply DW.sx 2 | apply DW.sxN 2); (iterate 2 (focus (simp only [ft, nm, Nat.reduceAdd, Nat.reduceBEq, List.getElem?_cons_zero, List.getElem?_cons_succ]; exact rfl))); (focus (intro X V; simp only [ft, nm, Nat.reduceAdd, Nat.reduceBEq]; (try (refine AP.Y ?_; dsimp only)); (first | ((with_reducible apply AP.k_any); refine AP.B 0 (hr) ?_) | fail); (try simp only [nx, Nat.reduceAdd, Nat.reduceSub, BEq.rfl]); refine AP.nil ?_; (first | refine ⟨trivial, rfl, ?_⟩ | refine ⟨rfl, rfl, ?_⟩); (repeat' (first | exact Mg.nil | apply Mg.keep rfl | apply Mg.take rfl)); done)); (focus (refine Exists.intro (fun _ => 0) ?_; apply Exists.intro; (repeat' (first | exact Mg.nil | apply Mg.keep rfl | apply Mg.take rfl)); done)); (iterate 2 (focus (exact rfl)))) | ((fail_if_success refine DW.known rfl ?_); refine DW.G (fun hg => ?_) (fun hg => ?_)))) <;> (try simp only [q1, hw, nx, mx, rn, fq, Nat.mul_one, Bool.and_true, Bool.and_false, Nat.reduceBEq, Nat.reduceAdd, Nat.reduceSub, BEq.rfl])) | ((with_reducible apply AP.k_nil); first | (refine AP.nil (hQ' _ ?_); clear hQ' Q') | refine AP.nil ?_) | ((with_reducible apply CP.k_drw); refine cp_drwX fun Q' hQ' => ?_) | ((with_reducible apply CP.k_drw1); refine cp_drawX ?_) | ((with_reducible apply DW.k_nil); refine DW.nl ?_; first | (refine hQ' _ ?_; clear hQ' Q') | skip) | ((with_reducible apply CP.k_reg); refine cp_regG fun Q' hQ' => ?_) | refine CP.W ?_ | refine cp_cond rfl (fun hc => ?_) (fun hc => ?_) | (simp only [List.append_eq, List.cons_append, List.nil_append]))
    refine ⟨(i + 1, u + 1, v + 1 + 1, w), by (dsimp only; omega), by (dsimp only; omega), ?_⟩
    dsimp only
    rw [hs1, hs2, List.map_append, List.map_cons, List.map_nil]
    exact Gh.W
  · obtain rfl : i = n := by omega
    have q1 : decide ((i : Int) < (i : Int)) = false := by simp
    repeat' (first | ((first | ((with_reducible apply AP.k_any); first | refine AP.ST ?_ | (refine AP.Y ?_; dsimp only) | refine AP.G (fun hg => ?_) (fun hg => ?_) | (refine AP.V (fun c hnil => ?_); simp only [nz])  | refine AP.PF ?_) | ((with_reducible apply DW.k_any); first | refine DW.ST ?_ | ((fail_if_success refine DW.known rfl ?_); refine DW.G (fun hg => ?_) (fun hg => ?_))) ) <;> (try simp only [q1, nx, mx, rn, fq, Nat.mul_one, Bool.and_true, Bool.and_false, Nat.reduceBEq, Nat.reduceAdd, Nat.reduceSub, BEq.rfl])) | ((with_reducible apply AP.k_nil); first | (refine AP.nil (hQ' _ ?_); clear hQ' Q') | refine AP.nil ?_) | ((with_reducible apply CP.k_drw); refine cp_drwX fun Q' hQ' => ?_) | ((with_reducible apply CP.k_drw1); refine cp_drawX ?_) | ((with_reducible apply DW.k_nil); refine DW.nl ?_; first | (refine hQ' _ ?_; clear hQ' Q') | skip) | ((with_reducible apply CP.k_reg); refine cp_regG fun Q' hQ' => ?_) | refine CP.W ?_ | refine cp_cond rfl (fun hc => ?_) (fun hc => ?_) | (simp only [List.append_eq, List.cons_append, List.nil_append]))
    (exact RetQ.A [(0, 0), (1, 0)] (by exact ⟨rfl, rfl⟩))
theorem parseGo_ac (f1 f2 f3 f4 : Nat) (b : List UInt8) (hb : b.length ≤ 100000000) (k : UInt8) (S S2 : St) (m : Msg) (hr : byteR (newR b) = (k, S)) (hR : readM b = (m, S2))
    (hof : AC Try.prog 21 [.ag (eG { msg0 with kind := k })] [] (fun v bs => v = .tu [.ag [fnv f1, fnv f2, fnv f3, fnv f4], B true] ∧ bs = []))
    (htk : AC Try.prog f4 [.bp 0 0 0, .bp 1 0 0] [rB S, eZ k 0 0 nl 0 0 nl 0 0 0 nl 0] (fun v bs' => v = .tu [] ∧ bs' = [rB S2, .c tMsg (eGO m)]))
    (h1 : m.entries.length ≤ 100000000) (h2 : m.cfg.members.length ≤ 100000000) :
    AC Try.prog 6 [bs none b] [] (fun v bs' => v = .tu [.ag (eGO (parseM b).1), I (parseM b).2] ∧ bs' = []) := by
  have hrb := rbyte_ac (newR b) (newR_le hb)
  rw [hr] at hrb
  dsimp only at hrb
  have hnew := rnew_ac b hb
  have hend := rend_ac S2
  have hm := mayMsg_ac m h1 h2
  unfold parseM
  rw [hR]
  dsimp only
  generalize hms : mayM m = mm at hm ⊢
  generalize hee : endR S2 = ee at hend ⊢
  by_cases hg : ee = 0
  · subst hg
    have q0 : ((0 : Int) != 0) = false := rfl
    cases mm with
    | true =>
      rw [if_pos ⟨rfl, rfl⟩]
      refine AC.N Try.func6 Try.ntmps6 ?_
      intro X hρ hmks
      simp only [nx, Nat.reduceAdd, Nat.reduceSub, BEq.rfl]
      repeat' (first | ((first | ((with_reducible apply AP.k_any); first | refine AP.ST ?_ | (refine AP.Y ?_; dsimp only) | refine AP.G (fun hg => ?_) (fun hg => ?_) | (refine AP.V (fun c hnil => ?_); simp only [nz]) | ((with_reducible apply AP.k_any); refine ap_callB 0 [(1, 1), (2, 1)] rfl rfl (fn := f4) rfl (htk) (by (repeat' (first | exact PasC.nil | apply PasC.nil | apply PasC.cons | apply PasV.leaf rfl | apply PasV.nl | apply PasV.bp rfl | apply PasV.lend rfl rfl rfl | apply PasV.lend rfl rfl (ro_B _) | apply PasV.lend rfl rfl (ro_M _) | apply PasV.lend rfl rfl (ro_E _ _) | apply PasV.lend rfl rfl (ro_I _) | apply PasV.lend rfl rfl (by (simp only [rn, List.map_cons, List.map_nil]; first | done | rfl)) | apply PasV.mv rfl | apply PasV.ag | apply PasV.fn | exact PasV.fs | apply PasV.any))) (by (repeat' (first | exact Out.nil | apply Out.cons rfl | exact ClsC.nil | apply ClsC.nl | apply ClsC.leaf rfl | apply ClsC.hd rfl | apply ClsC.ob rfl | apply ClsC.mo rfl | apply ClsC.mp rfl | apply ClsC.hp rfl | apply ClsC.fn | apply ClsC.fz rfl (ro_B _) | apply ClsC.fz rfl (ro_M _) | apply ClsC.fz rfl (ro_E _ _) | apply ClsC.fz rfl rfl))) rfl (by (repeat' (first | exact Bk.nil | apply Bk.cons rfl rfl rfl))) (by (repeat' (first | exact RnV.leaf rfl | exact RnC.nil | apply RnC.cons | apply RnV.ag | apply RnV.tu | apply RnV.fn | exact RnV.bp rfl))) rfl ?_) | refine AP.PF ?_)) <;> (try simp only [q0, nx, mx, rn, fq, Nat.mul_one, Bool.and_true, Bool.and_false, Nat.reduceBEq, Nat.reduceAdd, Nat.reduceSub, BEq.rfl])) | ((with_reducible apply AP.k_nil); first | (refine AP.nil (hQ' _ ?_); clear hQ' Q') | refine AP.nil ?_) | ((with_reducible apply CP.k_reg); refine cp_regG fun Q' hQ' => ?_) | refine CP.W ?_ | refine cp_cond rfl (fun hc => ?_) (fun hc => ?_) | (simp only [List.append_eq, List.cons_append, List.nil_append]))
      (exact RetQ.A [] (by exact ⟨rfl, rfl⟩))
    | false =>
      rw [if_neg (by simp)]
      refine AC.N Try.func6 Try.ntmps6 ?_
      intro X hρ hmks
      simp only [nx, Nat.reduceAdd, Nat.reduceSub, BEq.rfl]
      repeat' (first | ((first | ((with_reducible apply AP.k_any); first | refine AP.ST ?_ | (refine AP.Y ?_; dsimp only) | refine AP.G (fun hg => ?_) (fun hg => ?_) | (refine AP.V (fun c hnil => ?_); simp only [nz]) | ((with_reducible apply AP.k_any); refine ap_callB 0 [(1, 1), (2, 1)] rfl rfl (fn := f4) rfl (htk) (by (repeat' (first | exact PasC.nil | apply PasC.nil | apply PasC.cons | apply PasV.leaf rfl | apply PasV.nl | apply PasV.bp rfl | apply PasV.lend rfl rfl rfl | apply PasV.lend rfl rfl (ro_B _) | apply PasV.lend rfl rfl (ro_M _) | apply PasV.lend rfl rfl (ro_E _ _) | apply PasV.lend rfl rfl (ro_I _) | apply PasV.lend rfl rfl (by (simp only [rn, List.map_cons, List.map_nil]; first | done | rfl)) | apply PasV.mv rfl | apply PasV.ag | apply PasV.fn | exact PasV.fs | apply PasV.any))) (by (repeat' (first | exact Out.nil | apply Out.cons rfl | exact ClsC.nil | apply ClsC.nl | apply ClsC.leaf rfl | apply ClsC.hd rfl | apply ClsC.ob rfl | apply ClsC.mo rfl | apply ClsC.mp rfl | apply ClsC.hp rfl | apply ClsC.fn | apply ClsC.fz rfl (ro_B _) | apply ClsC.fz rfl (ro_M _) | apply ClsC.fz rfl (ro_E _ _) | apply ClsC.fz rfl rfl))) rfl (by (repeat' (first | exact Bk.nil | apply Bk.cons rfl rfl rfl))) (by (repeat' (first | exact RnV.leaf rfl | exact RnC.nil | apply RnC.cons | apply RnV.ag | apply RnV.tu | apply RnV.fn | exact RnV.bp rfl))) rfl ?_) | refine AP.PF ?_)) <;> (try simp only [q0, nx, mx, rn, fq, Nat.mul_one, Bool.and_true, Bool.and_false, Nat.reduceBEq, Nat.reduceAdd, Nat.reduceSub, BEq.rfl])) | ((with_reducible apply AP.k_nil); first | (refine AP.nil (hQ' _ ?_); clear hQ' Q') | refine AP.nil ?_) | ((with_reducible apply CP.k_reg); refine cp_regG fun Q' hQ' => ?_) | refine CP.W ?_ | refine cp_cond rfl (fun hc => ?_) (fun hc => ?_) | (simp only [List.append_eq, List.cons_append, List.nil_append]))
      (exact RetQ.A [] (by exact ⟨rfl, rfl⟩))
  · rw [if_neg fun h => hg h.1]
    have q0 : (ee != 0) = true := by simpa using hg
    refine AC.N Try.func6 Try.ntmps6 ?_
    intro X hρ hmks
    simp only [nx, Nat.reduceAdd, Nat.reduceSub, BEq.rfl]
    repeat' (first | ((first | ((with_reducible apply AP.k_any); first | refine AP.ST ?_ | (refine AP.Y ?_; dsimp only) | refine AP.G (fun hg => ?_) (fun hg => ?_) | (refine AP.V (fun c hnil => ?_); simp only [nz]) | ((with_reducible apply AP.k_any); refine ap_callB 0 [(1, 1), (2, 1)] rfl rfl (fn := f4) rfl (htk) (by (repeat' (first | exact PasC.nil | apply PasC.nil | apply PasC.cons | apply PasV.leaf rfl | apply PasV.nl | apply PasV.bp rfl | apply PasV.lend rfl rfl rfl | apply PasV.lend rfl rfl (ro_B _) | apply PasV.lend rfl rfl (ro_M _) | apply PasV.lend rfl rfl (ro_E _ _) | apply PasV.lend rfl rfl (ro_I _) | apply PasV.lend rfl rfl (by (simp only [rn, List.map_cons, List.map_nil]; first | done | rfl)) | apply PasV.mv rfl | apply PasV.ag | apply PasV.fn | exact PasV.fs | apply PasV.any))) (by (repeat' (first | exact Out.nil | apply Out.cons rfl | exact ClsC.nil | apply ClsC.nl | apply ClsC.leaf rfl | apply ClsC.hd rfl | apply ClsC.ob rfl | apply ClsC.mo rfl | apply ClsC.mp rfl | apply ClsC.hp rfl | apply ClsC.fn | apply ClsC.fz rfl (ro_B _) | apply ClsC.fz rfl (ro_M _) | apply ClsC.fz rfl (ro_E _ _) | apply ClsC.fz rfl rfl))) rfl (by (repeat' (first | exact Bk.nil | apply Bk.cons rfl rfl rfl))) (by (repeat' (first | exact RnV.leaf rfl | exact RnC.nil | apply RnC.cons | apply RnV.ag | apply RnV.tu | apply RnV.fn | exact RnV.bp rfl))) rfl ?_) | refine AP.PF ?_)) <;> (try simp only [q0, nx, mx, rn, fq, Nat.mul_one, Bool.and_true, Bool.and_false, Nat.reduceBEq, Nat.reduceAdd, Nat.reduceSub, BEq.rfl])) | ((with_reducible apply AP.k_nil); first | (refine AP.nil (hQ' _ ?_); clear hQ' Q') | refine AP.nil ?_) | ((with_reducible apply CP.k_reg); refine cp_regG fun Q' hQ' => ?_) | refine CP.W ?_ | refine cp_cond rfl (fun hc => ?_) (fun hc => ?_) | (simp only [List.append_eq, List.cons_append, List.nil_append]))
    (exact RetQ.A [] (by exact ⟨rfl, rfl⟩))
theorem parseo_ac (b : List UInt8) (hb : b.length ≤ 100000000) : AC Try.prog 6 [bs none b] [] (fun v bs' => v = .tu [.ag (eGO (parseM b).1), I (parseM b).2] ∧ bs' = []) := by
  rcases kind_cases (byteR (newR b)).1 with hk | hk | hk | hk | hk | hk | hk
  · exact parseGo_ac _ _ _ _ b hb _ _ (takeAsk (byteR (newR b)).1 (byteR (newR b)).2).2 (takeAsk (byteR (newR b)).1 (byteR (newR b)).2).1 rfl (by simp only [readM, takeM, hk]) (of1_ac { msg0 with kind := (byteR (newR b)).1 } hk) (ktake4o_ac _ _ (byteR_len (newR_le hb))) (by simp [takeAsk, msg0]) (by simp [takeAsk, msg0, cfg0])
  · exact parseGo_ac _ _ _ _ b hb _ _ (takeEnt (byteR (newR b)).1 (byteR (newR b)).2).2 (takeEnt (byteR (newR b)).1 (byteR (newR b)).2).1 rfl (by simp only [readM, takeM, hk]) (of2_ac { msg0 with kind := (byteR (newR b)).1 } hk) (etake4o_ac _ _ (byteR_len (newR_le hb))) (by simp [takeEnt, entsR_fst_len]; have := countR_le (m := 4) (st := (intR (intR (byteR (newR b)).2).2).2) (by omega); omega) (by simp [takeEnt, msg0, cfg0])
  · exact parseGo_ac _ _ _ _ b hb _ _ (takeHave (byteR (newR b)).1 (byteR (newR b)).2).2 (takeHave (byteR (newR b)).1 (byteR (newR b)).2).1 rfl (by simp only [readM, takeM, hk]) (of3_ac { msg0 with kind := (byteR (newR b)).1 } hk) (ktake8o_ac _ _ (byteR_len (newR_le hb))) (by simp [takeHave, msg0]) (by simp [takeHave, msg0, cfg0])
  · exact parseGo_ac _ _ _ _ b hb _ _ (takeCfg (byteR (newR b)).1 (byteR (newR b)).2).2 (takeCfg (byteR (newR b)).1 (byteR (newR b)).2).1 rfl (by simp only [readM, takeM, hk]) (of4_ac { msg0 with kind := (byteR (newR b)).1 } hk) (ktake12o_ac _ _ (byteR_len (newR_le hb))) (by simp [takeCfg, msg0]) (by simp [takeCfg, configR]; rw [memsR_fst_len]; have := countR_le (m := 5) (st := (intR (byteR (newR b)).2).2) (by omega); omega)
  · exact parseGo_ac _ _ _ _ b hb _ _ (takeWhole (byteR (newR b)).1 (byteR (newR b)).2).2 (takeWhole (byteR (newR b)).1 (byteR (newR b)).2).1 rfl (by simp only [readM, takeM, hk]) (of5_ac { msg0 with kind := (byteR (newR b)).1 } hk) (ktake16o_ac _ _ (byteR_len (newR_le hb))) (by simp [takeWhole, msg0]) (by simp [takeWhole, msg0, cfg0])
  · exact parseGo_ac _ _ _ _ b hb _ _ (takeAsk (byteR (newR b)).1 (byteR (newR b)).2).2 (takeAsk (byteR (newR b)).1 (byteR (newR b)).2).1 rfl (by simp only [readM, takeM, hk]) (of6_ac { msg0 with kind := (byteR (newR b)).1 } hk) (ktake4o_ac _ _ (byteR_len (newR_le hb))) (by simp [takeAsk, msg0]) (by simp [takeAsk, msg0, cfg0])
  · have hn := newR_le hb
    have hof := ofNo_ac { msg0 with kind := (byteR (newR b)).1 } hk
    have hrb := rbyte_ac (newR b) hn
    have hR : readM b = (msg0, (40, [])) := by
      unfold readM takeM
      split <;> first | omega | rfl
    have hP : parseM b = (msg0, 200) := by rw [parseM, hR, if_neg (by simp [endR])]
    rw [hP]
    generalize (byteR (newR b)).2 = S at hrb ⊢
    generalize (byteR (newR b)).1 = k at hof hrb ⊢
    refine AC.N Try.func6 Try.ntmps6 ?_
    intro X hρ hmks
    simp only [nx, Nat.reduceAdd, Nat.reduceSub, BEq.rfl]
    repeat' (first | ((first | ((with_reducible apply AP.k_any); first | refine AP.S ?_ | (refine AP.Y ?_; dsimp only) | refine AP.G (fun hg => ?_) (fun hg => ?_)) | ((with_reducible apply AP.k_any); refine AP.CB [] 1 (rnew_ac b hb) ?_) | ((with_reducible apply AP.k_any); refine AP.CB [(1, 1)] 0 (hrb) ?_) | ((with_reducible apply AP.k_any); refine AP.C (hof) ?_)) <;> (try simp only [nx, Nat.reduceAdd, Nat.reduceSub, BEq.rfl])) | ((with_reducible apply AP.k_nil); first | (refine AP.nil (hQ' _ ?_); clear hQ' Q') | refine AP.nil ?_) | ((with_reducible apply CP.k_reg); refine cp_regG fun Q' hQ' => ?_) | refine CP.W ?_ | refine cp_cond rfl (fun hc => ?_) (fun hc => ?_) | (simp only [List.append_eq, List.cons_append, List.nil_append]))
    all_goals first
      | (exfalso; simp at *; done)
      | (exact RetQ.A [] (by exact ⟨rfl, rfl⟩))
end Go.Proofs.Ytmiajenjgcdhgaa

namespace Go.Proofs.Ytmiajenjgcdhgaa
set_option linter.unusedVariables false
set_option linter.unusedSimpArgs false
set_option maxHeartbeats 8000000
open Go.RowKit
set_option maxRecDepth 100000
theorem same_ac (a b : List UInt8) (ha : a.length ≤ 1000000000) :
    AC Try.prog 8 [bs none a, bs none b] [] (fun v bs => v = B (decide (a = b)) ∧ bs = []) := by
  refine AC.N Try.func8 Try.ntmps8 ?_
  intro X hρ hmks
  simp only [nx, Nat.reduceAdd, Nat.reduceSub, BEq.rfl]
  repeat' (first | ((first | ((with_reducible apply AP.k_any); first | refine AP.S ?_ | refine AP.E ?_ | (refine AP.V (fun c hnil => ?_); simp only [nz])) | ((with_reducible apply AQ.k_any); first | refine AQ.S ?_ | refine AQ.E ?_)) <;> (try simp only [nx, Nat.reduceAdd, Nat.reduceSub, BEq.rfl])) | ((with_reducible apply AP.k_nil); first | (refine AP.nil (hQ' _ ?_); clear hQ' Q') | refine AP.nil ?_) | ((with_reducible apply AQ.k_nil); first | (refine AQ.nil (hQ' _ ?_); clear hQ' Q') | refine AQ.nil ?_) | ((with_reducible apply CP.k_drw); refine cp_drw (by kernel_rfl) (by kernel_rfl) fun Q' hQ' => ?_) | ((with_reducible apply CP.k_drw1); refine cp_draw (by kernel_rfl) (by kernel_rfl) ?_) | ((with_reducible apply CP.k_reg); refine cp_regG fun Q' hQ' => ?_) | refine CP.W ?_ | refine cp_cond rfl (fun hc => ?_) (fun hc => ?_) | (simp only [List.append_eq, List.cons_append, List.nil_append]))
  · (refine RetQ.B [] ?_; (try dsimp only [resV, List.getD_cons_succ, List.getD_cons_zero]); ((have h : ¬ a = b := by rintro rfl; simp at hc); exact ⟨by simp [h], rfl⟩))
  · have hl : a.length = b.length := by simp at hc; omega
    refine cp_loopW (fun n s => ∃ k : Nat, k ≤ a.length ∧ n = a.length - k ∧ a.take k = b.take k ∧ s = ⟨tm 26 [(0, bs none a), (1, bs none b), (4, B false), (5, I k)], []⟩) a.length ⟨tm 26 [(0, bs none a), (1, bs none b), (4, B false), (5, I (0 : Nat))], []⟩ (by simp only [tm, List.foldl_cons, List.foldl_nil, List.replicate_succ, List.replicate_zero, List.set_cons_succ, List.set_cons_zero, Nat.reduceAdd]; (refine ⟨?_, ?_⟩ <;> (try dsimp only) <;> (repeat' (first | exact Wk.nil | exact WkB.nil | apply Wk.same | apply Wk.de | apply Wk.nl | apply WkB.same | apply WkB.drop)))) ⟨0, by omega, by omega, by simp, rfl⟩ ?_
    rintro n s ⟨k, hk, rfl, he, rfl⟩
    simp only [tm, List.foldl_cons, List.foldl_nil, List.replicate_succ, List.replicate_zero, List.set_cons_succ, List.set_cons_zero, Nat.reduceAdd]
    by_cases hlt : k < a.length
    · have hx : (a.map eB)[k]? = some (eB a[k]) := by simp [hlt]
      have hy : (b.map eB)[k]? = some (eB (b[k]'(by omega))) := by simp [show k < b.length by omega]
      have hw : IntKind.i64.wrap ((k : Int) + 1) = ((k + 1 : Nat) : Int) := wrap_i64 (by omega) (by omega)
      repeat' (first | ((first | ((with_reducible apply AP.k_any); first | refine AP.S ?_ | refine AP.E ?_ | (refine AP.V (fun c hnil => ?_); simp only [nz])) | ((with_reducible apply AQ.k_any); first | refine AQ.S ?_ | refine AQ.E ?_)) <;> (try simp only [nx, Nat.reduceAdd, Nat.reduceSub, BEq.rfl])) | ((with_reducible apply AP.k_nil); first | (refine AP.nil (hQ' _ ?_); clear hQ' Q') | refine AP.nil ?_) | ((with_reducible apply AQ.k_nil); first | (refine AQ.nil (hQ' _ ?_); clear hQ' Q') | refine AQ.nil ?_) | ((with_reducible apply CP.k_drw); refine cp_drw (by kernel_rfl) (by kernel_rfl) fun Q' hQ' => ?_) | ((with_reducible apply CP.k_drw1); refine cp_draw (by kernel_rfl) (by kernel_rfl) ?_) | ((with_reducible apply CP.k_reg); refine cp_regG fun Q' hQ' => ?_) | refine CP.W ?_ | refine cp_cond rfl (fun hc => ?_) (fun hc => ?_) | (simp only [List.append_eq, List.cons_append, List.nil_append]))
      · (refine RetQ.B [] ?_; (try dsimp only [resV, List.getD_cons_succ, List.getD_cons_zero]); ((have h : ¬ a = b := by rintro rfl; simp at hc); exact ⟨by simp [h], rfl⟩))
      · simp only [hw]
        refine ⟨a.length - (k + 1), ⟨tm 26 [(0, bs none a), (1, bs none b), (4, B false), (5, I (k + 1 : Nat))], []⟩, by omega, (by simp only [tm, List.foldl_cons, List.foldl_nil, List.replicate_succ, List.replicate_zero, List.set_cons_succ, List.set_cons_zero, Nat.reduceAdd]; (refine ⟨?_, ?_⟩ <;> (try dsimp only) <;> (repeat' (first | exact Wk.nil | exact WkB.nil | apply Wk.same | apply Wk.de | apply Wk.nl | apply WkB.same | apply WkB.drop)))), k + 1, by omega, rfl, ?_, rfl⟩
        rename_i hc
        have : a[k] = b[k]'(by omega) := by
          simp at hc
          exact UInt8.toNat_inj.1 (by omega)
        rw [List.take_succ_eq_append_getElem hlt, List.take_succ_eq_append_getElem (by omega), he, this]
      · exfalso; simp at *; omega
    · have hk' : k = a.length := by omega
      have hab : a = b := by
        rw [hk', List.take_of_length_le (Nat.le_refl _), List.take_of_length_le (by omega)] at he; exact he
      subst hab
      repeat' (first | ((first | ((with_reducible apply AP.k_any); first | refine AP.S ?_ | refine AP.E ?_ | (refine AP.V (fun c hnil => ?_); simp only [nz])) | ((with_reducible apply AQ.k_any); first | refine AQ.S ?_ | refine AQ.E ?_)) <;> (try simp only [nx, Nat.reduceAdd, Nat.reduceSub, BEq.rfl])) | ((with_reducible apply AP.k_nil); first | (refine AP.nil (hQ' _ ?_); clear hQ' Q') | refine AP.nil ?_) | ((with_reducible apply AQ.k_nil); first | (refine AQ.nil (hQ' _ ?_); clear hQ' Q') | refine AQ.nil ?_) | ((with_reducible apply CP.k_drw); refine cp_drw (by kernel_rfl) (by kernel_rfl) fun Q' hQ' => ?_) | ((with_reducible apply CP.k_drw1); refine cp_draw (by kernel_rfl) (by kernel_rfl) ?_) | ((with_reducible apply CP.k_reg); refine cp_regG fun Q' hQ' => ?_) | refine CP.W ?_ | refine cp_cond rfl (fun hc => ?_) (fun hc => ?_) | (simp only [List.append_eq, List.cons_append, List.nil_append]))
      all_goals first
        | (exfalso; simp at *; omega)
        | (refine RetQ.B [] ?_; (try dsimp only [resV, List.getD_cons_succ, List.getD_cons_zero]); (exact ⟨by simp, rfl⟩))
theorem cat_ac (a b : List UInt8) (ha : a.length ≤ 100000000) (hb : b.length ≤ 100000000) :
    AC Try.prog 9 [bs none a, bs none b] [] (fun v bs' => v = bs (some tU) (a ++ b) ∧ bs' = []) := by
  refine AC.N Try.func9 Try.ntmps9 ?_
  intro X hρ hmks
  simp only [nx, Nat.reduceAdd, Nat.reduceSub, BEq.rfl]
  repeat' (first | ((first | ((with_reducible apply AP.k_any); first | refine AP.S ?_)) <;> (try simp only [nx, Nat.reduceAdd, Nat.reduceSub, BEq.rfl])) | ((with_reducible apply AP.k_nil); first | (refine AP.nil (hQ' _ ?_); clear hQ' Q') | refine AP.nil ?_) | ((with_reducible apply CP.k_reg); refine cp_regG fun Q' hQ' => ?_) | refine CP.W ?_ | refine cp_cond rfl (fun hc => ?_) (fun hc => ?_) | (simp only [List.append_eq, List.cons_append, List.nil_append]))
  (refine RetQ.B [] ?_; (try dsimp only [resV, List.getD_cons_succ, List.getD_cons_zero]); (exact ⟨by simp, rfl⟩))
theorem copy_ac (a : List UInt8) (ha : a.length ≤ 100000000) :
    AC Try.prog 4 [bs none a] [] (fun v bs' => v = bs (some tU) a ∧ bs' = []) := by
  refine AC.N Try.func4 Try.ntmps4 ?_
  intro X hρ hmks
  simp only [nx, Nat.reduceAdd, Nat.reduceSub, BEq.rfl]
  repeat' (first | ((first | ((with_reducible apply AP.k_any); first | refine AP.S ?_) | ((with_reducible apply AP.k_any); refine AP.C (cat_ac a [] ha (by simp)) ?_)) <;> (try simp only [nx, Nat.reduceAdd, Nat.reduceSub, BEq.rfl])) | ((with_reducible apply AP.k_nil); first | (refine AP.nil (hQ' _ ?_); clear hQ' Q') | refine AP.nil ?_) | ((with_reducible apply CP.k_reg); refine cp_regG fun Q' hQ' => ?_) | refine CP.W ?_ | refine cp_cond rfl (fun hc => ?_) (fun hc => ?_) | (simp only [List.append_eq, List.cons_append, List.nil_append]))
  (refine RetQ.B [] ?_; (try dsimp only [resV, List.getD_cons_succ, List.getD_cons_zero]); (exact ⟨by simp, rfl⟩))
end Go.Proofs.Ytmiajenjgcdhgaa

namespace Go.Proofs.Ytmiajenjgcdhgaa
set_option linter.unusedVariables false
set_option linter.unusedSimpArgs false
set_option maxHeartbeats 8000000
open Go.RowKit
set_option maxRecDepth 100000
abbrev eI (x : Int) : List AV := [I x]
theorem ro_I (l : List Int) : roE (l.map eI) = l.map eI := by rw [roE_map]; rfl
end Go.Proofs.Ytmiajenjgcdhgaa

namespace Go.Proofs.Ytmiajenjgcdhgaa
set_option linter.unusedVariables false
set_option linter.unusedSimpArgs false
set_option maxHeartbeats 8000000
open Go.RowKit
set_option maxRecDepth 100000
theorem eq_member (a b : Member) (w : World) : (Op.equal tM (.agg [.int .i64 a.node, .int .i64 a.since, .bool a.whole].toArray) (.agg [.int .i64 b.node, .int .i64 b.since, .bool b.whole].toArray)).run Try.prog w = .ok (a.node == b.node && a.since == b.since && a.whole == b.whole) w := by
  show (Op.equalIn (9999 + 1) tM _ _).run Try.prog w = _
  rw [run_equalIn_struct w 9999 tM _ _ (by kernel_rfl) (by kernel_rfl)]
  have hi := Try.underlying3
  have hb := Try.underlying4
  simp [Program.fieldsOf, Try.underlying71, Op.eqFields, go_sem, part, isAgg, hi, hb, run_underlying hi, run_underlying hb]
  by_cases h1 : a.node = b.node <;> by_cases h2 : a.since = b.since <;> by_cases h3 : a.whole = b.whole <;> simp [h1, h2, h3]
theorem sameEntry_ac (a b : Entry) (ha : a.body.length ≤ 1000000000) :
    AC Try.prog 39 [.ag (eE none a), .ag (eE none b)] [] (fun v bs' => v = B (eqE a b) ∧ bs' = []) := by
  refine AC.N Try.func39 Try.ntmps39 ?_
  intro X hρ hmks
  simp only [nx, Nat.reduceAdd, Nat.reduceSub, BEq.rfl]
  repeat' (first | ((first | ((with_reducible apply AP.k_any); first | refine AP.S ?_ | (refine AP.Y ?_; dsimp only) | refine AP.G (fun hg => ?_) (fun hg => ?_)) | ((with_reducible apply AP.k_any); refine AP.CQ (same_ac _ _ ha) ?_)) <;> (try simp only [nx, Nat.reduceAdd, Nat.reduceSub, BEq.rfl])) | ((with_reducible apply AP.k_nil); first | (refine AP.nil (hQ' _ ?_); clear hQ' Q') | refine AP.nil ?_) | ((with_reducible apply CP.k_reg); refine cp_regG fun Q' hQ' => ?_) | refine CP.W ?_ | refine cp_cond rfl (fun hc => ?_) (fun hc => ?_) | (simp only [List.append_eq, List.cons_append, List.nil_append]))
  all_goals (refine RetQ.B [] ?_; (try dsimp only [resV, List.getD_cons_succ, List.getD_cons_zero]); (exact ⟨by simp_all [eqE], rfl⟩))
theorem sameConfig_ac (a b : Config) (ha : a.members.length ≤ 1000000000) :
    AC Try.prog 25 [.ag (eC none a), .ag (eC none b)] [] (fun v bs' => v = B (eqC a b) ∧ bs' = []) := by
  refine AC.N Try.func25 Try.ntmps25 ?_
  intro X hρ hmks
  simp only [nx, Nat.reduceAdd, Nat.reduceSub, BEq.rfl]
  repeat' (first | ((first | ((with_reducible apply AP.k_any); first | refine AP.S ?_ | refine AP.E ?_ | (refine AP.Y ?_; dsimp only) | refine AP.G (fun hg => ?_) (fun hg => ?_) | (refine AP.V (fun c hnil => ?_); simp only [nz])) | ((with_reducible apply AQ.k_any); first | refine AQ.S ?_ | refine AQ.E ?_ | (refine AQ.Y ?_; dsimp only) | refine AQ.G (fun hg => ?_) (fun hg => ?_)) | ((with_reducible apply AQ.k_bin); refine AQ.pure rfl (pq_eqAg rfl rfl rfl rfl rfl (by kernel_rfl) (eq_member _ _) rfl) ?_; simp only [nx, Nat.reduceAdd, Nat.reduceSub, BEq.rfl])) <;> (try simp only [nx, Nat.reduceAdd, Nat.reduceSub, BEq.rfl])) | ((with_reducible apply AP.k_nil); first | (refine AP.nil (hQ' _ ?_); clear hQ' Q') | refine AP.nil ?_) | ((with_reducible apply AQ.k_nil); first | (refine AQ.nil (hQ' _ ?_); clear hQ' Q') | refine AQ.nil ?_) | ((with_reducible apply CP.k_drw); refine cp_drw (by kernel_rfl) (by kernel_rfl) fun Q' hQ' => ?_) | ((with_reducible apply CP.k_drw1); refine cp_draw (by kernel_rfl) (by kernel_rfl) ?_) | ((with_reducible apply CP.k_reg); refine cp_regG fun Q' hQ' => ?_) | refine CP.W ?_ | refine cp_cond rfl (fun hc => ?_) (fun hc => ?_) | (simp only [List.append_eq, List.cons_append, List.nil_append]))
  · (refine RetQ.B [] ?_; (try dsimp only [resV, List.getD_cons_succ, List.getD_cons_zero]); (exact ⟨by simp at hg; simp [eqC, hg], rfl⟩))
  · (refine RetQ.B [] ?_; (try dsimp only [resV, List.getD_cons_succ, List.getD_cons_zero]); ((have h8 : a.members.length ≠ b.members.length := by simp at hc; omega); exact ⟨by simp [eqC, eqMs_len h8], rfl⟩))
  · have hl : a.members.length = b.members.length := by simp at hc; omega
    have he0 : a.epoch = b.epoch := by simpa using hg
    refine cp_loopW (fun n s => ∃ k : Nat, k ≤ a.members.length ∧ n = a.members.length - k ∧ a.members.take k = b.members.take k ∧ s = ⟨tm 38 [(2, .bp 0 1 0), (3, .bp 1 1 0), (4, B false), (5, I k)], [⟨1, .c 27 (eC none a)⟩, ⟨1, .c 27 (eC none b)⟩]⟩) a.members.length ⟨tm 38 [(2, .bp 0 1 0), (3, .bp 1 1 0), (4, B false), (5, I (0 : Nat))], [⟨1, .c 27 (eC none a)⟩, ⟨1, .c 27 (eC none b)⟩]⟩ (by simp only [tm, List.foldl_cons, List.foldl_nil, List.replicate_succ, List.replicate_zero, List.set_cons_succ, List.set_cons_zero, Nat.reduceAdd]; (refine ⟨?_, ?_⟩ <;> (try dsimp only) <;> (repeat' (first | exact Wk.nil | exact WkB.nil | apply Wk.same | apply Wk.de | apply Wk.nl | apply WkB.same | apply WkB.drop)))) ⟨0, by omega, by omega, by simp, rfl⟩ ?_
    rintro n s ⟨k, hk, rfl, he, rfl⟩
    simp only [tm, List.foldl_cons, List.foldl_nil, List.replicate_succ, List.replicate_zero, List.set_cons_succ, List.set_cons_zero, Nat.reduceAdd]
    by_cases hlt : k < a.members.length
    · have hx : (a.members.map eM)[k]? = some (eM a.members[k]) := by simp [hlt]
      have hy : (b.members.map eM)[k]? = some (eM (b.members[k]'(by omega))) := by simp [show k < b.members.length by omega]
      have hw : IntKind.i64.wrap ((k : Int) + 1) = ((k + 1 : Nat) : Int) := wrap_i64 (by omega) (by omega)
      repeat' (first | ((first | ((with_reducible apply AP.k_any); first | refine AP.S ?_ | refine AP.E ?_ | (refine AP.Y ?_; dsimp only) | refine AP.G (fun hg => ?_) (fun hg => ?_) | (refine AP.V (fun c hnil => ?_); simp only [nz])) | ((with_reducible apply AQ.k_any); first | refine AQ.S ?_ | refine AQ.E ?_ | (refine AQ.Y ?_; dsimp only) | refine AQ.G (fun hg => ?_) (fun hg => ?_)) | ((with_reducible apply AQ.k_bin); refine AQ.pure rfl (pq_eqAg rfl rfl rfl rfl rfl (by kernel_rfl) (eq_member _ _) rfl) ?_; simp only [nx, Nat.reduceAdd, Nat.reduceSub, BEq.rfl])) <;> (try simp only [nx, Nat.reduceAdd, Nat.reduceSub, BEq.rfl])) | ((with_reducible apply AP.k_nil); first | (refine AP.nil (hQ' _ ?_); clear hQ' Q') | refine AP.nil ?_) | ((with_reducible apply AQ.k_nil); first | (refine AQ.nil (hQ' _ ?_); clear hQ' Q') | refine AQ.nil ?_) | ((with_reducible apply CP.k_drw); refine cp_drw (by kernel_rfl) (by kernel_rfl) fun Q' hQ' => ?_) | ((with_reducible apply CP.k_drw1); refine cp_draw (by kernel_rfl) (by kernel_rfl) ?_) | ((with_reducible apply CP.k_reg); refine cp_regG fun Q' hQ' => ?_) | refine CP.W ?_ | refine cp_cond rfl (fun hc => ?_) (fun hc => ?_) | (simp only [List.append_eq, List.cons_append, List.nil_append]))
      · (refine RetQ.B [] ?_; (try dsimp only [resV, List.getD_cons_succ, List.getD_cons_zero]); ((have h : eqC a b = false := by (cases h9 : eqC a b with | false => rfl | true => (rw [eqC_iff] at h9; subst h9; simp at *))); exact ⟨by rw [h], rfl⟩))
      · simp only [hw]
        refine ⟨a.members.length - (k + 1), ⟨tm 38 [(2, .bp 0 1 0), (3, .bp 1 1 0), (4, B false), (5, I (k + 1 : Nat))], [⟨1, .c 27 (eC none a)⟩, ⟨1, .c 27 (eC none b)⟩]⟩, by omega, (by simp only [tm, List.foldl_cons, List.foldl_nil, List.replicate_succ, List.replicate_zero, List.set_cons_succ, List.set_cons_zero, Nat.reduceAdd]; (refine ⟨?_, ?_⟩ <;> (try dsimp only) <;> (repeat' (first | exact Wk.nil | exact WkB.nil | apply Wk.same | apply Wk.de | apply Wk.nl | apply WkB.same | apply WkB.drop)))), k + 1, by omega, rfl, take_ext he hlt (by omega) ?_, rfl⟩
        rename_i hc
        exact eqM_iff.1 (by simpa [eqM] using hc)
      · exfalso; simp at *; omega
    · have hk' : k = a.members.length := by omega
      have hab : a = b := by
        rw [hk', List.take_of_length_le (Nat.le_refl _), List.take_of_length_le (by omega)] at he
        cases a; cases b; simp at he he0 ⊢; exact ⟨he0, he⟩
      have h9 : eqC a b = true := eqC_iff.2 hab
      repeat' (first | ((first | ((with_reducible apply AP.k_any); first | refine AP.S ?_ | refine AP.E ?_ | (refine AP.Y ?_; dsimp only) | refine AP.G (fun hg => ?_) (fun hg => ?_) | (refine AP.V (fun c hnil => ?_); simp only [nz])) | ((with_reducible apply AQ.k_any); first | refine AQ.S ?_ | refine AQ.E ?_ | (refine AQ.Y ?_; dsimp only) | refine AQ.G (fun hg => ?_) (fun hg => ?_)) | ((with_reducible apply AQ.k_bin); refine AQ.pure rfl (pq_eqAg rfl rfl rfl rfl rfl (by kernel_rfl) (eq_member _ _) rfl) ?_; simp only [nx, Nat.reduceAdd, Nat.reduceSub, BEq.rfl])) <;> (try simp only [nx, Nat.reduceAdd, Nat.reduceSub, BEq.rfl])) | ((with_reducible apply AP.k_nil); first | (refine AP.nil (hQ' _ ?_); clear hQ' Q') | refine AP.nil ?_) | ((with_reducible apply AQ.k_nil); first | (refine AQ.nil (hQ' _ ?_); clear hQ' Q') | refine AQ.nil ?_) | ((with_reducible apply CP.k_drw); refine cp_drw (by kernel_rfl) (by kernel_rfl) fun Q' hQ' => ?_) | ((with_reducible apply CP.k_drw1); refine cp_draw (by kernel_rfl) (by kernel_rfl) ?_) | ((with_reducible apply CP.k_reg); refine cp_regG fun Q' hQ' => ?_) | refine CP.W ?_ | refine cp_cond rfl (fun hc => ?_) (fun hc => ?_) | (simp only [List.append_eq, List.cons_append, List.nil_append]))
      all_goals first
        | (exfalso; simp at *; omega)
        | (refine RetQ.B [] ?_; (try dsimp only [resV, List.getD_cons_succ, List.getD_cons_zero]); (exact ⟨by rw [h9], rfl⟩))
theorem sameEntries_ac (a b : List Entry) (ha : a.length ≤ 1000000000) (hb : ∀ x ∈ a, x.body.length ≤ 1000000000) :
    AC Try.prog 24 [es none none a, es none none b] [] (fun v bs' => v = B (eqEs a b) ∧ bs' = []) := by
  refine AC.N Try.func24 Try.ntmps24 ?_
  intro X hρ hmks
  simp only [nx, Nat.reduceAdd, Nat.reduceSub, BEq.rfl]
  repeat' (first | ((first | ((with_reducible apply AP.k_any); first | refine AP.S ?_ | refine AP.E ?_ | (refine AP.V (fun c hnil => ?_); simp only [nz])) | ((with_reducible apply AQ.k_any); first | refine AQ.S ?_ | refine AQ.E ?_)) <;> (try simp only [nx, Nat.reduceAdd, Nat.reduceSub, BEq.rfl])) | ((with_reducible apply AP.k_nil); first | (refine AP.nil (hQ' _ ?_); clear hQ' Q') | refine AP.nil ?_) | ((with_reducible apply AQ.k_nil); first | (refine AQ.nil (hQ' _ ?_); clear hQ' Q') | refine AQ.nil ?_) | ((with_reducible apply CP.k_drw); refine cp_drw (by kernel_rfl) (by kernel_rfl) fun Q' hQ' => ?_) | ((with_reducible apply CP.k_drw1); refine cp_draw (by kernel_rfl) (by kernel_rfl) ?_) | ((with_reducible apply CP.k_reg); refine cp_regG fun Q' hQ' => ?_) | refine CP.W ?_ | refine cp_cond rfl (fun hc => ?_) (fun hc => ?_) | (simp only [List.append_eq, List.cons_append, List.nil_append]))
  · (refine RetQ.B [] ?_; (try dsimp only [resV, List.getD_cons_succ, List.getD_cons_zero]); ((have h8 : a.length ≠ b.length := by simp at hc; omega); exact ⟨by simp [eqEs_len h8], rfl⟩))
  · have hl : a.length = b.length := by simp at hc; omega
    refine cp_loopW (fun n s => ∃ k : Nat, k ≤ a.length ∧ n = a.length - k ∧ a.take k = b.take k ∧ s = ⟨tm 27 [(0, es none none a), (1, es none none b), (4, B false), (5, I k)], []⟩) a.length ⟨tm 27 [(0, es none none a), (1, es none none b), (4, B false), (5, I (0 : Nat))], []⟩ (by simp only [tm, List.foldl_cons, List.foldl_nil, List.replicate_succ, List.replicate_zero, List.set_cons_succ, List.set_cons_zero, Nat.reduceAdd]; (refine ⟨?_, ?_⟩ <;> (try dsimp only) <;> (repeat' (first | exact Wk.nil | exact WkB.nil | apply Wk.same | apply Wk.de | apply Wk.nl | apply WkB.same | apply WkB.drop)))) ⟨0, by omega, by omega, by simp, rfl⟩ ?_
    rintro n s ⟨k, hk, rfl, he, rfl⟩
    simp only [tm, List.foldl_cons, List.foldl_nil, List.replicate_succ, List.replicate_zero, List.set_cons_succ, List.set_cons_zero, Nat.reduceAdd]
    by_cases hlt : k < a.length
    · have hx : (a.map (eE none))[k]? = some (eE none a[k]) := by simp [hlt]
      have hy : (b.map (eE none))[k]? = some (eE none (b[k]'(by omega))) := by simp [show k < b.length by omega]
      have hw : IntKind.i64.wrap ((k : Int) + 1) = ((k + 1 : Nat) : Int) := wrap_i64 (by omega) (by omega)
      repeat' (first | ((first | ((with_reducible apply AP.k_any); first | refine AP.S ?_ | refine AP.E ?_ | (refine AP.V (fun c hnil => ?_); simp only [nz])) | ((with_reducible apply AQ.k_any); first | refine AQ.S ?_ | refine AQ.E ?_) | ((with_reducible apply AQ.k_any); refine AQ.CQ (sameEntry_ac a[k] (b[k]'(by omega)) (hb _ (by simp))) ?_)) <;> (try simp only [nx, Nat.reduceAdd, Nat.reduceSub, BEq.rfl])) | ((with_reducible apply AP.k_nil); first | (refine AP.nil (hQ' _ ?_); clear hQ' Q') | refine AP.nil ?_) | ((with_reducible apply AQ.k_nil); first | (refine AQ.nil (hQ' _ ?_); clear hQ' Q') | refine AQ.nil ?_) | ((with_reducible apply CP.k_drw); refine cp_drw (by kernel_rfl) (by kernel_rfl) fun Q' hQ' => ?_) | ((with_reducible apply CP.k_drw1); refine cp_draw (by kernel_rfl) (by kernel_rfl) ?_) | ((with_reducible apply CP.k_reg); refine cp_regG fun Q' hQ' => ?_) | refine CP.W ?_ | refine cp_cond rfl (fun hc => ?_) (fun hc => ?_) | (simp only [List.append_eq, List.cons_append, List.nil_append]))
      · (refine RetQ.B [] ?_; (try dsimp only [resV, List.getD_cons_succ, List.getD_cons_zero]); ((have h : eqEs a b = false := by (cases h9 : eqEs a b with | false => rfl | true => (rw [eqEs_iff] at h9; subst h9; simp [eqE] at *))); exact ⟨by rw [h], rfl⟩))
      · simp only [hw]
        refine ⟨a.length - (k + 1), ⟨tm 27 [(0, es none none a), (1, es none none b), (4, B false), (5, I (k + 1 : Nat))], []⟩, by omega, (by simp only [tm, List.foldl_cons, List.foldl_nil, List.replicate_succ, List.replicate_zero, List.set_cons_succ, List.set_cons_zero, Nat.reduceAdd]; (refine ⟨?_, ?_⟩ <;> (try dsimp only) <;> (repeat' (first | exact Wk.nil | exact WkB.nil | apply Wk.same | apply Wk.de | apply Wk.nl | apply WkB.same | apply WkB.drop)))), k + 1, by omega, rfl, take_ext he hlt (by omega) ?_, rfl⟩
        rename_i hc
        exact eqE_iff.1 (by simpa using hc)
      · exfalso; simp at *; omega
    · have hk' : k = a.length := by omega
      have hab : a = b := by
        rw [hk', List.take_of_length_le (Nat.le_refl _), List.take_of_length_le (by omega)] at he; exact he
      have h9 : eqEs a b = true := eqEs_iff.2 hab
      repeat' (first | ((first | ((with_reducible apply AP.k_any); first | refine AP.S ?_ | refine AP.E ?_ | (refine AP.V (fun c hnil => ?_); simp only [nz])) | ((with_reducible apply AQ.k_any); first | refine AQ.S ?_ | refine AQ.E ?_)) <;> (try simp only [nx, Nat.reduceAdd, Nat.reduceSub, BEq.rfl])) | ((with_reducible apply AP.k_nil); first | (refine AP.nil (hQ' _ ?_); clear hQ' Q') | refine AP.nil ?_) | ((with_reducible apply AQ.k_nil); first | (refine AQ.nil (hQ' _ ?_); clear hQ' Q') | refine AQ.nil ?_) | ((with_reducible apply CP.k_drw); refine cp_drw (by kernel_rfl) (by kernel_rfl) fun Q' hQ' => ?_) | ((with_reducible apply CP.k_drw1); refine cp_draw (by kernel_rfl) (by kernel_rfl) ?_) | ((with_reducible apply CP.k_reg); refine cp_regG fun Q' hQ' => ?_) | refine CP.W ?_ | refine cp_cond rfl (fun hc => ?_) (fun hc => ?_) | (simp only [List.append_eq, List.cons_append, List.nil_append]))
      all_goals first
        | (exfalso; simp at *; omega)
        | (refine RetQ.B [] ?_; (try dsimp only [resV, List.getD_cons_succ, List.getD_cons_zero]); (exact ⟨by rw [h9], rfl⟩))
end Go.Proofs.Ytmiajenjgcdhgaa

namespace Go.Proofs.Ytmiajenjgcdhgaa
set_option linter.unusedVariables false
set_option linter.unusedSimpArgs false
set_option maxHeartbeats 8000000
open Go.RowKit
set_option maxRecDepth 100000
def eqG (a b : Msg) : Bool := a.kind == b.kind && a.client == b.client && a.id == b.id && decide (a.body = b.body) && a.upto == b.upto && a.frm == b.frm && eqEs a.entries b.entries && a.have_ == b.have_ && a.done == b.done && eqC a.cfg b.cfg && a.since == b.since
theorem eqG_iff {a b : Msg} : eqG a b = true ↔ a = b := by
  cases a; cases b; simp [eqG, eqEs_iff, eqC_iff, and_assoc]
theorem ukind (a b : UInt8) : ((a.toNat : Int) == (b.toNat : Int)) = (a == b) := by
  rw [Bool.eq_iff_iff]; simp [← UInt8.toNat_inj]; try omega
theorem dsameG_ac (a b : Msg) (ha : a.small) : AC Try.prog 7 [.ag (eG a), .ag (eG b)] [] (fun v bs => v = B (eqG a b) ∧ bs = []) := by
  obtain ⟨h1, h2, h3, h4⟩ := ha
  refine AC.N Try.func7 Try.ntmps7 ?_
  intro X hρ hmks
  simp only [nx, Nat.reduceAdd, Nat.reduceSub, BEq.rfl]
  repeat' (first | ((first | ((with_reducible apply AP.k_any); first | refine AP.S ?_ | (refine AP.Y ?_; dsimp only) | refine AP.G (fun hg => ?_) (fun hg => ?_)) | ((with_reducible apply AP.k_any); refine AP.C (same_ac a.body b.body (by omega)) ?_) | ((with_reducible apply AP.k_any); refine AP.C (sameEntries_ac a.entries b.entries (by omega) (fun x hx => by have := h4 x hx; omega)) ?_) | ((with_reducible apply AP.k_any); refine AP.C (sameConfig_ac a.cfg b.cfg (by omega)) ?_)) <;> (try simp only [nx, Nat.reduceAdd, Nat.reduceSub, BEq.rfl])) | ((with_reducible apply AP.k_nil); first | (refine AP.nil (hQ' _ ?_); clear hQ' Q') | refine AP.nil ?_) | ((with_reducible apply CP.k_reg); refine cp_regG fun Q' hQ' => ?_) | refine CP.W ?_ | refine cp_cond rfl (fun hc => ?_) (fun hc => ?_) | (simp only [List.append_eq, List.cons_append, List.nil_append]))
  all_goals (refine RetQ.B [] ?_; (try dsimp only [resV, List.getD_cons_succ, List.getD_cons_zero]); (exact ⟨by simp_all [eqG, ukind], rfl⟩))
theorem small0 : msg0.small := by simp [Msg.small, msg0, cfg0]
end Go.Proofs.Ytmiajenjgcdhgaa

namespace Go.Proofs.Ytmiajenjgcdhgaa
set_option linter.unusedVariables false
set_option linter.unusedSimpArgs false
open Go.RowKit Go.ChangeShapes Go.WideShapes Go.ChangeAt Go.Deep
set_option maxRecDepth 100000
/-! bulk -/
theorem bulk_one {H : Type} (d : DataW H) : 1 ≤ Rows.uptoBulk d := by
  cases d with
  | lit l => cases l <;> simp [Rows.uptoBulk]
  | _ => simp [Rows.uptoBulk]
theorem bulk_part {H : Type} {d : DataW H} {l : List (DataW H)} (h : d ∈ l) : Rows.uptoBulk d ≤ Rows.uptoBulkAll l := by
  induction l with
  | nil => cases h
  | cons x r ih =>
    simp only [Rows.uptoBulkAll]
    cases List.mem_cons.1 h with
    | inl e => subst e; omega
    | inr e => have := ih e; omega
theorem bulk_length {H : Type} (l : List (DataW H)) : l.length ≤ Rows.uptoBulkAll l := by
  induction l with
  | nil => simp [Rows.uptoBulkAll]
  | cons x r ih => have := bulk_one x; simp only [Rows.uptoBulkAll, List.length_cons]; omega
/-- what reads as data of a type is k cells of my data; N: its bulk -/
def OA (P : Program) (t : TypeId) (k : Nat) {α : Type} (ok : Nat → α → Prop) (e : α → List AV) : Prop :=
  P.cellsOf t = k ∧ (∀ m n d, m ≤ n → ok m d → ok n d) ∧ ∀ {H : Type} {enc : TypeId × Value → H} {w : World} {base : Nat} {fuel : Nat} {cs : List Value} {x : DataW H × List MemPlace},
    DataW.trod enc P w base (fun _ => true) true fuel t cs = some x → ∃ d : α, ok (Rows.uptoBulk x.1) d ∧ (∀ φ κ, RC w φ κ (fun b => b < w.heap.size) (e d) cs Ct.z) ∧ (∀ u ∈ cs, u.oneCell' = true) ∧ (∀ a ∈ e d, a.leaf = true) ∧ cs.length = k
section
variable {P : Program} {t e : TypeId} {α β : Type} {ok : Nat → α → Prop} {k : Nat} {en : α → List AV}
theorem OA.map (h : OA P t k ok en) (f : α → β) {ok' : Nat → β → Prop} {en' : β → List AV} (hm : ∀ m n d, m ≤ n → ok' m d → ok' n d) (h1 : ∀ n a, ok n a → ok' n (f a)) (h2 : ∀ a, en' (f a) = en a) : OA P t k ok' en' :=
  ⟨h.1, hm, fun hx => by
    obtain ⟨d, a, b, c⟩ := h.2.2 hx
    exact ⟨f d, h1 _ _ a, by rw [h2]; exact b, by rw [h2]; exact c⟩⟩
theorem OA.wmap (h : OA P t k ok en) (f : α → β) {ok' : Nat → β → Prop} {en' : β → List AV} (hm : ∀ m n d, m ≤ n → ok' m d → ok' n d) (h1 : ∀ n a, ok n a → ok' n (f a)) (h2 : ∀ n a, ok n a → en' (f a) = en a) : OA P t k ok' en' :=
  ⟨h.1, hm, fun hx => by
    obtain ⟨d, a, b, c⟩ := h.2.2 hx
    exact ⟨f d, h1 _ _ a, by rw [h2 _ _ a]; exact b, by rw [h2 _ _ a]; exact c⟩⟩
theorem RC.one_ {w : World} {φ : Fi} {κ : Ka} {R : Nat → Prop} {a : AV} {v : Value} (h : RV w φ κ R a v Ct.z) : RC w φ κ R [a] [v] Ct.z := .cons (S := Ct.z) (T := Ct.z) h .nil fun _ => rfl
theorem oa_int {κ : IntKind} (ht : P.underlying t = some (.int κ)) (hc : P.cellsOf t = 1) : OA P t 1 (fun _ (n : Int) => (Lit.int κ n).wf = true) (fun n => [.sc (.int κ n)]) :=
  ⟨hc, fun _ _ _ _ h => h, fun h => by
    obtain ⟨n, rfl, _, hw⟩ := DataW.trod_int ht h
    exact ⟨n, hw, fun _ _ => RC.one_ (.sc rfl), fun u hu => by simp at hu; subst hu; rfl, fun a ha => by simp at ha; subst ha; rfl, rfl⟩⟩
theorem RE.of_rows {w : World} {φ : Fi} {κ : Ka} {R : Nat → Prop} {k : Nat} {en : α → List AV} {l : List α} (css : Nat → List Value) (h : ∀ i x, l[i]? = some x → RC w φ κ R (en x) (css i) Ct.z ∧ (∀ u ∈ css i, u.oneCell' = true) ∧ (∀ a ∈ en x, a.leaf = true) ∧ (css i).length = k) :
    RE w φ κ R k (l.map en) ((List.range l.length).flatMap css) Ct.z := by
  induction l generalizing css with
  | nil => exact .nil
  | cons x l ih =>
    have h0 := h 0 x rfl
    have h1 := ih (fun i => css (i + 1)) fun i y hy => h (i + 1) y (by simpa using hy)
    rw [List.length_cons, List.range_succ_eq_map, List.flatMap_cons, List.flatMap_map]
    exact .cons (S := Ct.z) (T := Ct.z) h0.1 h0.2.2.2 ⟨h0.2.1, h0.2.2.1⟩ h1 fun _ => rfl
theorem flat_at {css : Nat → List Value} {k n : Nat} (h : ∀ i, i < n → (css i).length = k) : ∀ {j : Nat} {u : Value}, ((List.range n).flatMap css)[j]? = some u → ∃ i r, i < n ∧ j = i * k + r ∧ (css i)[r]? = some u := by
  induction n generalizing css with
  | zero => intro j u hj; simp at hj
  | succ n ih =>
    intro j u hj
    rw [List.range_succ_eq_map, List.flatMap_cons, List.flatMap_map] at hj
    have h0 := h 0 (by omega)
    by_cases hjk : j < k
    · rw [List.getElem?_append_left (by omega)] at hj
      exact ⟨0, j, by omega, by omega, hj⟩
    · rw [List.getElem?_append_right (by omega)] at hj
      obtain ⟨i, r, hi, hr, hu⟩ := ih (css := fun i => css (i + 1)) (fun i hi => h (i + 1) (by omega)) hj
      refine ⟨i + 1, r, by omega, ?_, hu⟩
      rw [Nat.add_mul]; omega
theorem spot_none {w : World} {a : Addr} {u : Value} (h : w.cell? (a.add 0) = some u) : a.spot = none := by
  obtain ⟨ab, ao, asp⟩ := a
  cases hsp : asp with
  | none => rfl
  | some s =>
    rw [hsp] at h
    simp [Addr.add, World.cell?] at h
    split at h <;> simp at h
theorem oa_slice (hk : 0 < k) (ht : P.underlying t = some (.slice e)) (hc : P.cellsOf t = 1) (hE : OA P e k ok en) : OA P t 1 (fun N (l : List α) => (∀ x ∈ l, ok N x) ∧ l.length < N) (fun l => [.sl none k (l.map en)]) := by
  refine ⟨hc, fun m n d h k => ⟨fun x hx => hE.2.1 _ _ _ h (k.1 x hx), Nat.lt_of_lt_of_le k.2 h⟩, ?_⟩
  intro H enc w base fuel cs x h
  rcases open_slice ht h with ⟨rfl, rfl⟩ | ⟨a, len, cap, m, n, D, Pl, rfl, hb, hl, hm, hmm, hx, hi⟩
  · exact ⟨[], ⟨fun x hx => by simp at hx, by simp [Rows.uptoBulk]⟩, fun _ _ => RC.one_ .ni, fun u hu => by simp at hu; subst hu; rfl, fun a ha => by simp at ha; subst ha; rfl, rfl⟩
  · obtain rfl : m = cap := by simpa using hmm
    clear hmm
    have hbulk : ∀ i, i < len → Rows.uptoBulk (D i) ≤ Rows.uptoBulk x.1 := by
      intro i hi
      rw [hx]
      have := bulk_part (d := D i) (l := (List.range len).map D) (List.mem_map.2 ⟨i, List.mem_range.2 hi, rfl⟩)
      simp only [Rows.uptoBulk]
      omega
    have hlenb : len < Rows.uptoBulk x.1 := by
      rw [hx]
      have := bulk_length ((List.range len).map D)
      simp only [Rows.uptoBulk]
      simp only [List.length_map, List.length_range] at this
      omega
    have hall : ∀ i, i < len → ∃ (d : α) (cs' : List Value), (ok (Rows.uptoBulk x.1) d ∧ (∀ φ κ, RC w φ κ (fun b => b < w.heap.size) (en d) cs' Ct.z) ∧ (∀ u ∈ cs', u.oneCell' = true) ∧ (∀ a ∈ en d, a.leaf = true) ∧ cs'.length = k) ∧ ∀ j u, cs'[j]? = some u → w.cell? ((a.add (i * k)).add j) = some u := by
      intro i hil
      obtain ⟨cs', hcs, htr⟩ := hi i (by omega)
      obtain ⟨d, hd0, hd⟩ := hE.2.2 htr
      rw [hE.1] at hcs
      obtain ⟨_, hlen, hat⟩ := World.cells?_some hcs
      exact ⟨d, cs', ⟨hE.2.1 _ _ _ (hbulk i hil) hd0, hd⟩, fun j u hu => (hat j (by have := (List.getElem?_eq_some_iff.1 hu).1; omega)).trans hu⟩
    have hsp0 : 0 < m → a.spot = none := by
      intro h0
      obtain ⟨cs', hcs, _⟩ := hi 0 h0
      rw [hE.1] at hcs
      obtain ⟨_, hlen, hat⟩ := World.cells?_some hcs
      have hz := hat 0 (by omega)
      rw [List.getElem?_eq_getElem (by omega)] at hz
      have e0 : a.add (0 * k) = a := by simp [Addr.add]
      rw [e0] at hz
      exact spot_none hz
    have hex : ∃ (l : List α) (css : Nat → List Value), l.length = len ∧ ∀ i y, l[i]? = some y → (ok (Rows.uptoBulk x.1) y ∧ (∀ φ κ, RC w φ κ (fun b => b < w.heap.size) (en y) (css i) Ct.z) ∧ (∀ u ∈ css i, u.oneCell' = true) ∧ (∀ a ∈ en y, a.leaf = true) ∧ (css i).length = k) ∧ ∀ j u, (css i)[j]? = some u → w.cell? ((a.add (i * k)).add j) = some u := by
      clear hi hbulk hlenb h hx
      revert hall
      clear hl
      induction len with
      | zero => exact fun _ => ⟨[], fun _ => [], rfl, fun i x h => by simp at h⟩
      | succ q ih =>
        intro hall
        obtain ⟨l, css, hl, hq⟩ := ih (fun i hi => hall i (by omega))
        obtain ⟨d, cs', hd, hcs⟩ := hall q (by omega)
        refine ⟨l ++ [d], fun i => if i = q then cs' else css i, by simp [hl], fun i x hx => ?_⟩
        by_cases hik : i < q
        · rw [List.getElem?_append_left (by omega)] at hx
          simp only [show i ≠ q by omega, if_false]
          exact hq i x hx
        · have hik' : i = q := by have := (List.getElem?_eq_some_iff.1 hx).1; simp at this; omega
          subst hik'
          rw [List.getElem?_append_right (by omega), hl] at hx
          simp at hx
          subst hx
          simp only [if_true]
          exact ⟨hd, hcs⟩
    obtain ⟨l, css, hll, hq⟩ := hex
    refine ⟨l, ⟨fun y hy => ?_, by omega⟩, fun φ κ => ?_, fun u hu => by simp at hu; subst hu; rfl, fun a ha => by simp at ha; subst ha; rfl, rfl⟩
    · obtain ⟨i, hi, rfl⟩ := List.mem_iff_getElem.1 hy
      exact (hq i _ (List.getElem?_eq_getElem hi)).1.1
    · refine RC.one_ ?_
      subst hll
      by_cases h0 : m = 0
      · subst h0
        obtain rfl : l = [] := List.eq_nil_of_length_eq_zero (by omega)
        exact .ne
      · obtain ⟨ab, ao, asp⟩ := a
        have hspn := hsp0 (by omega)
        simp only at hspn
        subst hspn
        have hflat : ∀ j u, ((List.range l.length).flatMap css)[j]? = some u → w.cell? ⟨ab, ao + j, none⟩ = some u := by
          intro j u hj
          obtain ⟨i, r, hi, rfl, hu⟩ := flat_at (k := k) (fun i hi => (hq i _ (List.getElem?_eq_getElem hi)).1.2.2.2.2) hj
          have := (hq i _ (List.getElem?_eq_getElem hi)).2 r u hu
          have e1 : (Addr.add (Addr.add ⟨ab, ao, none⟩ (i * k)) r) = ⟨ab, ao + (i * k + r), none⟩ := by
            unfold Addr.add
            split <;> split <;> simp_all [Nat.add_assoc]
          rw [e1] at this
          exact this
        have hE' : RE w φ κ (fun b => b < w.heap.size) k (l.map en) ((List.range l.length).flatMap css) Ct.z := RE.of_rows css fun i x hx => ⟨(hq i x hx).1.2.1 φ κ, (hq i x hx).1.2.2⟩
        have := RV.ro (c := m) (b := ab) (o := ao) hE' (by simp; omega) hm (fun hne => by
          have hl0 : 0 < l.length := by cases l with
            | nil => exact absurd rfl hne
            | cons _ _ => simp
          have hc0 := (hq 0 _ (List.getElem?_eq_getElem hl0)).1.2.2.2.2
          have hz := (hq 0 _ (List.getElem?_eq_getElem hl0)).2 0 _ (List.getElem?_eq_getElem (by omega))
          simp only [Addr.add, Nat.zero_mul, if_true, World.cell?] at hz
          cases hh : w.heap[ab]? with
          | none => simp [hh] at hz
          | some o => exact (Array.getElem?_eq_some_iff.1 hh).1) hflat
        simpa using this
/-! arguments -/
variable {H : Type} {enc : TypeId × Value → H} {w : World} {base b0 : Nat} {r : Reach} {v : Value} {d : DataW H} {p : List MemPlace}
theorem arg_1 {f : α → AV} (hE : OA P t 1 ok (fun x => [f x])) (hv : v.cells.toList = [v]) (h : DataW.Trod enc P w base (fun _ => true) true t v d p) :
    ∃ x, ok (Rows.uptoBulk d) x ∧ ∀ φ κ, RV w φ κ (fun b => b < w.heap.size) (f x) v Ct.z := by
  obtain ⟨fuel, hf⟩ := h
  obtain ⟨x, x1, x2, x3, _⟩ := hE.2.2 hf
  refine ⟨x, x1, fun φ κ => ?_⟩
  have h1 := x2 φ κ
  rw [hv] at h1
  cases h1 with
  | cons a b c => obtain ⟨rfl, rfl⟩ := Ct.split c; exact a
theorem cells_slice (ht : P.underlying t = some (.slice e)) (hv : Value.okWide P w r b0 t v) : v.cells.toList = [v] := by
  unfold Value.okWide at hv
  rw [ht] at hv
  cases v with
  | agg cs => simp only [Cell.okWide, ht] at hv; simp [Cell.ok, ht] at hv
  | tuple cs => simp only [Cell.okWide, ht] at hv; simp [Cell.ok, ht] at hv
  | _ => rfl
/-! what was there reads as it did -/
theorem trodAll_below (hl : laidOutB P = true) {W W' : World} (hb : Below W.heap.size W W') :
    ∀ (ts : List TypeId) (vs : List Value) (ds : List (DataW H)) (ps : List MemPlace), (∀ t ∈ ts, P.readableRec t = true ∧ t < P.types.size) → (∀ x ∈ ps, x.block < W.heap.size) →
      DataW.TrodAll enc P W 0 (fun _ => true) true ts vs ds ps → DataW.TrodAll enc P W' 0 (fun b => decide (b < W.heap.size)) true ts vs ds ps
  | [], [], [], ps, _, _, h => h
  | t :: ts, v :: vs, d :: ds, ps, hr, hlt, h => by
    obtain ⟨p, q, hd, hs, rfl⟩ := h
    have hrt := hr t (by simp)
    exact ⟨p, q, Below.trod hl hrt.1 hrt.2 hd hb fun x hx => hlt x (by simp [hx]), trodAll_below hl hb ts vs ds q (fun t ht => hr t (by simp [ht])) (fun x hx => hlt x (by simp [hx])) hs, rfl⟩
  | [], _ :: _, _, _, _, _, h => by simp [DataW.TrodAll] at h
  | [], [], _ :: _, _, _, _, h => by simp [DataW.TrodAll] at h
  | _ :: _, [], _, _, _, _, h => by simp [DataW.TrodAll] at h
  | _ :: _, _ :: _, [], _, _, _, h => by simp [DataW.TrodAll] at h
/-- THE LAST STEP: the law returns true and leaves alone what was there -/
theorem law_post {f : Func} {s : ChangeSpec} {apart fresh handsOn : Bool} {W W' : World} {args : Array Value} {ds gs : List (DataW H)} {before : List MemPlace} {tb : TypeId}
    (hl : laidOutB P = true) (hv : s.vars = []) (hrt : f.resultTypes = #[tb]) (hub : P.underlying tb = some .bool) (hread : (f.params.toList.all fun t => P.readableRec t && decide (t < P.types.size)) = true)
    (hW : DataW.Whole enc P f.params.toList s.vars apart W args.toList ds gs before) (hfn : ∀ gs', gs' = [] → s.fn H (ds ++ gs') = { results := [.lit (.bool true)], args := ds }) (hb : Below W.heap.size W W') :
    s.post enc P f apart fresh handsOn false W args (.bool true) W' := by
  have hread' : ∀ t ∈ f.params.toList, P.readableRec t = true ∧ t < P.types.size := fun t ht => by
    have := List.all_eq_true.1 hread t ht
    simpa using this
  have hW' := hW
  obtain ⟨p, q, hA, hV, rfl, hfz, hnd⟩ := hW
  rw [hv] at hV
  obtain ⟨rfl, rfl⟩ := trodVars_none hV
  have hlt : ∀ x ∈ p, x.block < W.heap.size := fun x hx => hW'.lt x (by simpa using hx)
  refine ⟨ds, [], p ++ [], [], p, [], hW', ?_, ?_, ?_, ?_, fun h => by cases h⟩
  · rw [hfn [] rfl, hrt]
    exact trodAll_mk1 (shut_bool hub true)
  · rw [hfn [] rfl]
    exact trodAll_below hl hb _ _ _ _ hread' hlt hA
  · rw [hv, hfn [] rfl]
    rfl
  · refine World.keptBut_mono (fun x hx => ⟨hx, .inr (.inl (by simpa using hx))⟩) (hb.frame (· ∈ p ++ []))
/-- a contract that tells true, in the world that the law is called in -/
theorem ac_law {fn : Nat} {args : List AV} {vs : List Value} {W : World} (h : AC P fn args [] (fun v bs' => v = .sc (.bool true) ∧ bs' = [])) (ha : ∀ φ κ, RC W φ κ (fun b => b < W.heap.size) args vs Ct.z) :
    Calls P fn vs.toArray W fun e W' => e = .returned (.bool true) ∧ Below W.heap.size W W' := by
  refine (h.2 W (fun _ _ => none) (fun _ _ => none) _ vs [] Ct.z Ct.z (ha _ _) .nil (fun i g hi => by simp at hi) (fun _ _ _ => rfl) (fun _ _ => rfl) (fun x => by simp [Ct.z]) (fun x hx => by simp [Ct.z] at hx) (fun x hx => ⟨hx, rfl⟩)).mono ?_
  rintro e W' ⟨v, r, bs', gs', Sr, Sb', φ', F, rfl, ⟨rfl, rfl⟩, hr, _, _, _, _, _, _, hf⟩
  cases hr with
  | sc => exact ⟨rfl, hf.os, hf.tape, hf.output, hf.size, fun b hb => hf.block b hb rfl⟩
theorem bulk_of {l : List (DataW H)} (hk : Rows.uptoSmall H l = true) : Rows.uptoBulkAll l ≤ 1048576 := of_decide_eq_true hk
end
end Go.Proofs.Ytmiajenjgcdhgaa

namespace Go.Proofs.Ytmiajenjgcdhgaa
set_option linter.unusedVariables false
set_option linter.unusedSimpArgs false
open Go.RowKit Go.ChangeShapes Go.WideShapes Go.ChangeAt Go.Deep
set_option maxRecDepth 100000
theorem laidOut : laidOutB Try.prog = true := by kernel_rfl
theorem own_knob : ownKnob Try.prog.godebug = none := by kernel_rfl
def I64 (x : Int) : Prop := -9223372036854775808 ≤ x ∧ x ≤ 9223372036854775807
theorem u8_of {x : Int} (h : (Lit.int .u8 x).wf = true) : 0 ≤ x ∧ x ≤ 255 := by simpa [Lit.wf, IntKind.min, IntKind.max, IntKind.signed, IntKind.bits] using h
theorem ou : OA Try.prog 5 1 (fun _ (_ : UInt8) => True) eB := (oa_int Try.underlying5 (by kernel_rfl)).wmap (fun x : Int => UInt8.ofNat x.toNat) (fun _ _ _ _ h => h) (fun _ _ _ => trivial) fun n x hx => by
  have h := u8_of hx
  have e : ((UInt8.ofNat x.toNat).toNat : Int) = x := by rw [UInt8.toNat_ofNat']; omega
  simp only [eB, U, e]
theorem obs : OA Try.prog 22 1 (fun N (l : List UInt8) => (∀ x ∈ l, True) ∧ l.length < N) (fun l => [bs none l]) := oa_slice (by decide) Try.underlying22 (by kernel_rfl) ou
end Go.Proofs.Ytmiajenjgcdhgaa

namespace Go.Proofs.Ytmiajenjgcdhgaa
set_option linter.unusedVariables false
set_option linter.unusedSimpArgs false
abbrev Rd := Int × List UInt8
/-- a reader f reads what g writes, of what is ok; and what it reads is so written -/
structure Cod {α : Type} (f : Rd → α × Rd) (g : α → List UInt8) (ok : α → Prop) : Prop where
  fwd : ∀ a rest, ok a → f (0, g a ++ rest) = (a, (0, rest))
  bwd : ∀ st, (f st).2.1 = 0 → st.2 = g (f st).1 ++ (f st).2.2 ∧ ok (f st).1
  stk : ∀ st, st.1 ≠ 0 → (f st).2.1 ≠ 0
theorem Cod.zero {α : Type} {f : Rd → α × Rd} {g : α → List UInt8} {ok : α → Prop} (h : Cod f g ok) {st : Rd} (h0 : (f st).2.1 = 0) : st.1 = 0 := by
  by_cases h1 : st.1 = 0
  · exact h1
  · exact absurd h0 (h.stk st h1)
theorem toI_in (x : Nat) : I64 (toI x) := by
  simp [toI, I64, IntKind.wrap, IntKind.bits, IntKind.signed]; omega
/-- one behind the other -/
theorem Cod.seq {α β : Type} {f : Rd → α × Rd} {g : α → List UInt8} {ok : α → Prop} {f2 : α → Rd → β × Rd} {g2 : α → β → List UInt8} {ok2 : α → β → Prop} (h : Cod f g ok) (h2 : ∀ a, ok a → Cod (f2 a) (g2 a) (ok2 a)) (hs : ∀ a st, st.1 ≠ 0 → (f2 a st).2.1 ≠ 0) :
    Cod (fun st => (((f st).1, (f2 (f st).1 (f st).2).1), (f2 (f st).1 (f st).2).2)) (fun x => g x.1 ++ g2 x.1 x.2) (fun x => ok x.1 ∧ ok2 x.1 x.2) where
  fwd a rest hk := by
    rw [List.append_assoc, h.fwd _ _ hk.1]
    dsimp only
    rw [(h2 _ hk.1).fwd _ _ hk.2]
  bwd st h0 := by
    dsimp only at h0 ⊢
    have hz : (f st).2.1 = 0 := by
      by_cases h1 : (f st).2.1 = 0
      · exact h1
      · exact absurd h0 (hs _ _ h1)
    obtain ⟨a1, a2⟩ := h.bwd st hz
    obtain ⟨b1, b2⟩ := (h2 _ a2).bwd _ h0
    exact ⟨by rw [a1, List.append_assoc]; congr 1, a2, b2⟩
  stk st h0 := hs _ _ (h.stk st h0)
end Go.Proofs.Ytmiajenjgcdhgaa

namespace Go.Proofs.Ytmiajenjgcdhgaa
set_option linter.unusedVariables false
set_option linter.unusedSimpArgs false
def okMb (m : Member) : Prop := I64 m.node ∧ I64 m.since
end Go.Proofs.Ytmiajenjgcdhgaa

namespace Go.Proofs.Ytmiajenjgcdhgaa
set_option linter.unusedVariables false
set_option linter.unusedSimpArgs false
def rng (m : Msg) : Prop := (I64 m.client ∧ I64 m.id ∧ I64 m.upto ∧ I64 m.frm ∧ I64 m.have_ ∧ I64 m.done ∧ I64 m.since) ∧ (I64 m.cfg.epoch ∧ ∀ x ∈ m.cfg.members, okMb x) ∧ ∀ e ∈ m.entries, I64 e.pos ∧ I64 e.stamp ∧ I64 e.client ∧ I64 e.id
end Go.Proofs.Ytmiajenjgcdhgaa

namespace Go.Proofs.Ytmiajenjgcdhgaa
set_option linter.unusedVariables false
set_option linter.unusedSimpArgs false
set_option maxHeartbeats 8000000
open Go.RowKit
set_option maxRecDepth 100000
theorem dclient_ac (who id : Int) : AC Try.prog 30 [I who, I id] [] (fun v bs => v = B (clientS who id) ∧ bs = []) := by
  refine AC.N Try.func30 Try.ntmps30 ?_
  intro X hρ hmks
  simp only [nx, Nat.reduceAdd, Nat.reduceSub, BEq.rfl]
  repeat' (first | ((first | ((with_reducible apply AP.k_any); first | refine AP.S ?_ | (refine AP.Y ?_; dsimp only) | refine AP.G (fun hg => ?_) (fun hg => ?_))) <;> (try simp only [nx, Nat.reduceAdd, Nat.reduceSub, BEq.rfl])) | ((with_reducible apply AP.k_nil); first | (refine AP.nil (hQ' _ ?_); clear hQ' Q') | refine AP.nil ?_) | ((with_reducible apply CP.k_reg); refine cp_regG fun Q' hQ' => ?_) | refine CP.W ?_ | refine cp_cond rfl (fun hc => ?_) (fun hc => ?_) | (simp only [List.append_eq, List.cons_append, List.nil_append]))
  all_goals (refine RetQ.B [] ?_; (try dsimp only [resV, List.getD_cons_succ, List.getD_cons_zero]); ((refine ⟨?_, rfl⟩; simp at *; simp [clientS]; try omega)))
theorem dmayEntry_ac (e : Entry) : AC Try.prog 31 [.ag (eE none e)] [] (fun v bs => v = B (mayE e) ∧ bs = []) := by
  refine AC.N Try.func31 Try.ntmps31 ?_
  intro X hρ hmks
  simp only [nx, Nat.reduceAdd, Nat.reduceSub, BEq.rfl]
  repeat' (first | ((first | ((with_reducible apply AP.k_any); first | refine AP.S ?_ | (refine AP.Y ?_; dsimp only) | refine AP.G (fun hg => ?_) (fun hg => ?_)) | ((with_reducible apply AP.k_any); refine AP.C (dclient_ac _ _) ?_) | ((with_reducible apply AQ.k_any); refine AQ.CQ (dclient_ac _ _) ?_)) <;> (try simp only [nx, Nat.reduceAdd, Nat.reduceSub, BEq.rfl])) | ((with_reducible apply AP.k_nil); first | (refine AP.nil (hQ' _ ?_); clear hQ' Q') | refine AP.nil ?_) | ((with_reducible apply CP.k_reg); refine cp_regG fun Q' hQ' => ?_) | refine CP.W ?_ | refine cp_cond rfl (fun hc => ?_) (fun hc => ?_) | (simp only [List.append_eq, List.cons_append, List.nil_append]))
  all_goals (refine RetQ.B [] ?_; (try dsimp only [resV, List.getD_cons_succ, List.getD_cons_zero]); ((refine ⟨?_, rfl⟩; simp at *; simp [mayE, *]; try omega)))
theorem dmayConfig_ac (c : Config) (hl : c.members.length ≤ 100000000) : AC Try.prog 32 [.ag (eC none c)] [] (fun v bs => v = B (mayCfg c) ∧ bs = []) := by
  refine AC.N Try.func32 Try.ntmps32 ?_
  intro X hρ hmks
  simp only [nx, Nat.reduceAdd, Nat.reduceSub, BEq.rfl]
  repeat' (first | ((first | ((with_reducible apply AP.k_any); first | refine AP.S ?_ | refine AP.E ?_ | (refine AP.Y ?_; dsimp only) | refine AP.G (fun hg => ?_) (fun hg => ?_) | refine AP.T ?_ | (refine AP.V (fun c hnil => ?_); simp only [nz]))) <;> (try simp only [nx, Nat.reduceAdd, Nat.reduceSub, BEq.rfl])) | ((with_reducible apply AP.k_nil); first | (refine AP.nil (hQ' _ ?_); clear hQ' Q') | refine AP.nil ?_) | ((with_reducible apply CP.k_reg); refine cp_regG fun Q' hQ' => ?_) | refine CP.W ?_ | refine cp_cond rfl (fun hc => ?_) (fun hc => ?_) | (simp only [List.append_eq, List.cons_append, List.nil_append]))
  · (refine RetQ.B [] ?_; (try dsimp only [resV, List.getD_cons_succ, List.getD_cons_zero]); ((have h : mayCfg c = false := by (simp [mayCfg]; simp at *; omega)); exact ⟨by rw [h], rfl⟩))
  · (refine RetQ.B [] ?_; (try dsimp only [resV, List.getD_cons_succ, List.getD_cons_zero]); ((have h : mayCfg c = false := by (simp [mayCfg]; simp at *; omega)); exact ⟨by rw [h], rfl⟩))
  have hm : mayCfg c = allG (pMem c) 0 c.members := by
    have e1 : 1 ≤ c.epoch := by simp at *; omega
    have e2 : c.members.length ≤ 5 := by simp at *; omega
    simp [mayCfg, e1, e2]
  refine CP.gh gh_slot ?_; simp only [nx, Nat.reduceAdd, Nat.reduceSub, BEq.rfl]
  refine cp_loopS [2, 3, 4, 5, 15, 16, 17, 18, 19, 20, 21, 22, 23, 24, 25, 26, 27, 28, 29, 30, 31, 32, 33, 34, 35, 36, 37, 38, 39, 40, 41, 42, 43, 44, 45, 46, 47, 48, 49, 50, 51, 52, 53, 54, 55, 56, 57, 58, 59, 60] (fun a : Nat × Nat => c.members.length - a.1) (fun a => a.1 ≤ c.members.length ∧ mayCfg c = allG (pMem c) a.1 (c.members.drop a.1)) (fun a => [(3, I a.1)]) (fun a => [(1, ⟨a.2, .x⟩)]) (0, 0) ⟨Nat.zero_le _, hm⟩ (by exact Gh.W) ?_
  rintro ⟨i, u⟩ ⟨hi, he⟩
  simp only [setT, deT, setB, List.set_cons_succ, List.set_cons_zero]
  dsimp only at hi he
  by_cases hlt : i < c.members.length
  · have hw : IntKind.i64.wrap ((i : Int) + 1) = ((i + 1 : Nat) : Int) := wrap_i64 (by omega) (by omega)
    rw [List.drop_eq_getElem_cons hlt, allG] at he
    repeat' (first | ((first | ((with_reducible apply AP.k_any); first | refine AP.S ?_ | refine AP.E ?_ | (refine AP.Y ?_; dsimp only) | refine AP.G (fun hg => ?_) (fun hg => ?_) | refine AP.T ?_ | (refine AP.V (fun c hnil => ?_); simp only [nz]))) <;> (try simp only [nx, Nat.reduceAdd, Nat.reduceSub, BEq.rfl])) | ((with_reducible apply AP.k_nil); first | (refine AP.nil (hQ' _ ?_); clear hQ' Q') | refine AP.nil ?_) | ((with_reducible apply CP.k_reg); refine cp_regG fun Q' hQ' => ?_) | refine CP.W ?_ | refine cp_cond rfl (fun hc => ?_) (fun hc => ?_) | (simp only [List.append_eq, List.cons_append, List.nil_append]))
    · (refine RetQ.B [] ?_; (try dsimp only [resV, List.getD_cons_succ, List.getD_cons_zero]); ((have h : pMem c i c.members[i] = false := by (cases h : pMem c i c.members[i] with | false => rfl | true => (exfalso; clear he hm hw; simp [pMem] at h; simp at *; omega))); exact ⟨by rw [he, h, Bool.false_and], rfl⟩))
    · (refine RetQ.B [] ?_; (try dsimp only [resV, List.getD_cons_succ, List.getD_cons_zero]); ((have h : pMem c i c.members[i] = false := by (cases h : pMem c i c.members[i] with | false => rfl | true => (exfalso; clear he hm hw; simp [pMem] at h; simp at *; omega))); exact ⟨by rw [he, h, Bool.false_and], rfl⟩))
    · (refine RetQ.B [] ?_; (try dsimp only [resV, List.getD_cons_succ, List.getD_cons_zero]); ((have h : pMem c i c.members[i] = false := by (cases h : pMem c i c.members[i] with | false => rfl | true => (exfalso; clear he hm hw; simp [pMem] at h; simp at *; omega))); exact ⟨by rw [he, h, Bool.false_and], rfl⟩))
    · (refine RetQ.B [] ?_; (try dsimp only [resV, List.getD_cons_succ, List.getD_cons_zero]); ((have h : pMem c i c.members[i] = false := by (cases h : pMem c i c.members[i] with | false => rfl | true => (exfalso; clear he hm hw; simp [pMem] at h; simp at *; omega))); exact ⟨by rw [he, h, Bool.false_and], rfl⟩))
    · have hq : pMem c i c.members[i] = allG (pNode c.members[i].node) 0 (c.members.take i) := by
        have f1 : 0 ≤ c.members[i].node := by clear he hm hw; simp at *; omega
        have f2 : c.members[i].node < 5 := by clear he hm hw; simp at *; omega
        have f3 : 1 ≤ c.members[i].since := by clear he hm hw; simp at *; omega
        have f4 : c.members[i].since ≤ c.epoch := by clear he hm hw; simp at *; omega
        simp [pMem, f1, f2, f3, f4]
      rw [hq] at he
      refine cp_loopS [2, 5, 47, 48, 49, 50, 51, 52, 53, 54, 55, 56, 57, 58, 59, 60] (fun k : Nat => i - k) (fun k => k ≤ i ∧ allG (pNode c.members[i].node) 0 (c.members.take i) = allG (pNode c.members[i].node) k ((c.members.take i).drop k)) (fun k => [(5, I k)]) (fun _ => []) 0 ⟨Nat.zero_le _, rfl⟩ (by exact Gh.W) ?_
      rintro k ⟨hk, hke⟩
      simp only [setT, deT, setB, List.set_cons_succ, List.set_cons_zero]
      by_cases hlk : k < i
      · have hwk : IntKind.i64.wrap ((k : Int) + 1) = ((k + 1 : Nat) : Int) := wrap_i64 (by omega) (by omega)
        have hkm : k < c.members.length := by omega
        have e5 : (c.members.take i).drop k = c.members[k] :: (c.members.take i).drop (k + 1) := by
          rw [List.drop_eq_getElem_cons (by simp; omega)]
          simp
        rw [e5, allG] at hke
        repeat' (first | ((first | ((with_reducible apply AP.k_any); first | refine AP.S ?_ | refine AP.E ?_ | (refine AP.Y ?_; dsimp only) | refine AP.G (fun hg => ?_) (fun hg => ?_) | refine AP.T ?_ | (refine AP.V (fun c hnil => ?_); simp only [nz])) | ((with_reducible apply AQ.k_any); first | refine AQ.S ?_ | refine AQ.E ?_ | (refine AQ.Y ?_; dsimp only) | refine AQ.G (fun hg => ?_) (fun hg => ?_))) <;> (try simp only [nx, Nat.reduceAdd, Nat.reduceSub, BEq.rfl])) | ((with_reducible apply AP.k_nil); first | (refine AP.nil (hQ' _ ?_); clear hQ' Q') | refine AP.nil ?_) | ((with_reducible apply AQ.k_nil); first | (refine AQ.nil (hQ' _ ?_); clear hQ' Q') | refine AQ.nil ?_) | ((with_reducible apply CP.k_drw); refine cp_drw (by kernel_rfl) (by kernel_rfl) fun Q' hQ' => ?_) | ((with_reducible apply CP.k_drw1); refine cp_draw (by kernel_rfl) (by kernel_rfl) ?_) | ((with_reducible apply CP.k_reg); refine cp_regG fun Q' hQ' => ?_) | refine CP.W ?_ | refine cp_cond rfl (fun hc => ?_) (fun hc => ?_) | (simp only [List.append_eq, List.cons_append, List.nil_append]))
        · have h : pNode c.members[i].node k c.members[k] = false := by simp [pNode]; simpa using hc
          (refine RetQ.B [] ?_; (try dsimp only [resV, List.getD_cons_succ, List.getD_cons_zero]); (exact ⟨by rw [he, hke, h, Bool.false_and, Bool.false_and], rfl⟩))
        · have h : pNode c.members[i].node k c.members[k] = true := by simp [pNode]; simpa using hc
          simp only [hwk]
          exact ⟨k + 1, by omega, ⟨by omega, by rw [hke, h, Bool.true_and]⟩, by exact Gh.W⟩
        · exfalso; simp at *; omega
      · obtain rfl : k = i := by omega
        rw [List.drop_of_length_le (by simp; omega), allG] at hke
        repeat' (first | ((first | ((with_reducible apply AP.k_any); first | refine AP.S ?_ | refine AP.E ?_ | (refine AP.Y ?_; dsimp only) | refine AP.G (fun hg => ?_) (fun hg => ?_) | refine AP.T ?_ | (refine AP.V (fun c hnil => ?_); simp only [nz])) | ((with_reducible apply AQ.k_any); first | refine AQ.S ?_ | refine AQ.E ?_ | (refine AQ.Y ?_; dsimp only) | refine AQ.G (fun hg => ?_) (fun hg => ?_))) <;> (try simp only [nx, Nat.reduceAdd, Nat.reduceSub, BEq.rfl])) | ((with_reducible apply AP.k_nil); first | (refine AP.nil (hQ' _ ?_); clear hQ' Q') | refine AP.nil ?_) | ((with_reducible apply AQ.k_nil); first | (refine AQ.nil (hQ' _ ?_); clear hQ' Q') | refine AQ.nil ?_) | ((with_reducible apply CP.k_drw); refine cp_drw (by kernel_rfl) (by kernel_rfl) fun Q' hQ' => ?_) | ((with_reducible apply CP.k_drw1); refine cp_draw (by kernel_rfl) (by kernel_rfl) ?_) | ((with_reducible apply CP.k_reg); refine cp_regG fun Q' hQ' => ?_) | refine CP.W ?_ | refine cp_cond rfl (fun hc => ?_) (fun hc => ?_) | (simp only [List.append_eq, List.cons_append, List.nil_append]))
        · exfalso; simp at *
        · simp only [hw]
          exact ⟨(k + 1, u + 1), by (dsimp only; omega), ⟨by (dsimp only; omega), by (dsimp only; rw [he, hke, Bool.true_and])⟩, by exact Gh.W⟩
    · exfalso; simp at *; omega
  · rw [List.drop_of_length_le (by omega), allG] at he
    repeat' (first | ((first | ((with_reducible apply AP.k_any); first | refine AP.S ?_ | refine AP.E ?_ | (refine AP.Y ?_; dsimp only) | refine AP.G (fun hg => ?_) (fun hg => ?_) | refine AP.T ?_ | (refine AP.V (fun c hnil => ?_); simp only [nz]))) <;> (try simp only [nx, Nat.reduceAdd, Nat.reduceSub, BEq.rfl])) | ((with_reducible apply AP.k_nil); first | (refine AP.nil (hQ' _ ?_); clear hQ' Q') | refine AP.nil ?_) | ((with_reducible apply CP.k_reg); refine cp_regG fun Q' hQ' => ?_) | refine CP.W ?_ | refine cp_cond rfl (fun hc => ?_) (fun hc => ?_) | (simp only [List.append_eq, List.cons_append, List.nil_append]))
    all_goals first
      | (exfalso; simp at *; done)
      | (exfalso; simp at *; omega)
      | (refine RetQ.B [] ?_; (try dsimp only [resV, List.getD_cons_succ, List.getD_cons_zero]); (exact ⟨by rw [he], rfl⟩))
end Go.Proofs.Ytmiajenjgcdhgaa

namespace Go.Proofs.Ytmiajenjgcdhgaa
set_option linter.unusedVariables false
set_option linter.unusedSimpArgs false
set_option maxHeartbeats 8000000
open Go.RowKit
set_option maxRecDepth 100000
def fieldsS (m : Msg) : Msg := match m.kind.toNat with
  | 1 => { msg0 with kind := m.kind, client := m.client, id := m.id, body := m.body }
  | 2 => { msg0 with kind := m.kind, upto := m.upto, frm := m.frm, entries := m.entries }
  | 3 => { msg0 with kind := m.kind, have_ := m.have_, done := m.done }
  | 4 => { msg0 with kind := m.kind, cfg := m.cfg }
  | 5 => { msg0 with kind := m.kind, since := m.since }
  | 6 => { msg0 with kind := m.kind, client := m.client, id := m.id, body := m.body }
  | _ => { msg0 with kind := m.kind }
theorem dfields_ac (m : Msg) : AC Try.prog 29 [.ag (eG m)] [] (fun v bs => v = .ag (eG (fieldsS m)) ∧ bs = []) := by
  rcases kind_cases m.kind with hk | hk | hk | hk | hk | hk | hk
  case inr.inr.inr.inr.inr.inr =>
    have e : fieldsS m = { msg0 with kind := m.kind } := by unfold fieldsS; split <;> first | omega | rfl
    rw [e]
    refine AC.N Try.func29 Try.ntmps29 ?_
    intro X hρ hmks
    simp only [nx, Nat.reduceAdd, Nat.reduceSub, BEq.rfl]
    repeat' (first | ((first | ((with_reducible apply AP.k_any); first | refine AP.S ?_ | refine AP.A ?_ | refine AP.AB 0 ?_ | refine AP.AB 1 ?_ | refine AP.AL ?_) | ((with_reducible apply DW.k_any); first | refine DW.R ?_ | refine DW.R' ?_ | refine DW.W ?_ | refine DW.W' ?_ | refine DW.RA ?_ | refine DW.A 0 ?_ | refine DW.A 1 ?_ | refine DW.A 2 ?_ | refine DW.A' 0 ?_ | refine DW.A' 2 ?_ | ((fail_if_success refine DW.known rfl ?_); refine DW.G (fun hg => ?_) (fun hg => ?_)))) <;> (try simp only [nx, Nat.reduceAdd, Nat.reduceSub, BEq.rfl])) | ((with_reducible apply AP.k_nil); first | (refine AP.nil (hQ' _ ?_); clear hQ' Q') | refine AP.nil ?_) | ((with_reducible apply CP.k_drw); refine cp_drwX fun Q' hQ' => ?_) | ((with_reducible apply CP.k_drw1); refine cp_drawX ?_) | ((with_reducible apply DW.k_nil); refine DW.nl ?_; first | (refine hQ' _ ?_; clear hQ' Q') | skip) | ((with_reducible apply CP.k_reg); refine cp_regG fun Q' hQ' => ?_) | refine CP.W ?_ | refine cp_cond rfl (fun hc => ?_) (fun hc => ?_) | (simp only [List.append_eq, List.cons_append, List.nil_append]))
    all_goals first
      | (exfalso; simp at *; omega)
      | (exact RetQ.A [] (by exact ⟨rfl, rfl⟩))
  all_goals
    have hk' := congrArg Int.ofNat hk
    simp only [Int.ofNat_eq_natCast] at hk'
    unfold fieldsS; simp only [hk]
    refine AC.N Try.func29 Try.ntmps29 ?_
    intro X hρ hmks
    simp only [nx, Nat.reduceAdd, Nat.reduceSub, BEq.rfl]
    simp only [hk', eG, U]
    repeat' (first | ((first | ((with_reducible apply AP.k_any); first | refine AP.S ?_ | refine AP.A ?_ | refine AP.AB 0 ?_ | refine AP.AB 1 ?_ | refine AP.AL ?_) | ((with_reducible apply DW.k_any); first | refine DW.R ?_ | refine DW.R' ?_ | refine DW.W ?_ | refine DW.W' ?_ | refine DW.RA ?_ | refine DW.A 0 ?_ | refine DW.A 1 ?_ | refine DW.A 2 ?_ | refine DW.A' 0 ?_ | refine DW.A' 2 ?_ | ((fail_if_success refine DW.known rfl ?_); refine DW.G (fun hg => ?_) (fun hg => ?_)))) <;> (try simp only [nx, Nat.reduceAdd, Nat.reduceSub, BEq.rfl])) | ((with_reducible apply AP.k_nil); first | (refine AP.nil (hQ' _ ?_); clear hQ' Q') | refine AP.nil ?_) | ((with_reducible apply CP.k_drw); refine cp_drwX fun Q' hQ' => ?_) | ((with_reducible apply CP.k_drw1); refine cp_drawX ?_) | ((with_reducible apply DW.k_nil); refine DW.nl ?_; first | (refine hQ' _ ?_; clear hQ' Q') | skip) | ((with_reducible apply CP.k_reg); refine cp_regG fun Q' hQ' => ?_) | refine CP.W ?_ | refine cp_cond rfl (fun hc => ?_) (fun hc => ?_) | (simp only [List.append_eq, List.cons_append, List.nil_append]))
    (exact RetQ.A [] (by exact ⟨rfl, rfl⟩))
end Go.Proofs.Ytmiajenjgcdhgaa

namespace Go.Proofs.Ytmiajenjgcdhgaa
set_option linter.unusedVariables false
set_option linter.unusedSimpArgs false
set_option maxHeartbeats 8000000
open Go.RowKit
set_option maxRecDepth 100000
def pEntD (m : Msg) : Nat → Entry → Bool := fun i e => mayE e && e.pos == IntKind.i64.wrap (m.frm + i)
def mayEntD (m : Msg) : Bool := decide (0 ≤ m.upto) && decide (1 ≤ m.frm) && decide (m.entries.length ≤ 4) && allGE (pEntD m) 0 m.entries
def kindD (m : Msg) : Bool := match m.kind.toNat with
  | 1 => mayAsk m
  | 2 => mayEntD m
  | 3 => mayHave m
  | 4 => mayCfg m.cfg
  | 5 => mayWhole m
  | 6 => mayAsk m
  | _ => false
def mayD (m : Msg) : Bool := eqG m (fieldsS m) && kindD m
theorem allGE_congr {p q : Nat → Entry → Bool} : ∀ {l : List Entry} {k : Nat}, (∀ (i : Nat) (e : Entry), l[i]? = some e → p (k + i) e = q (k + i) e) → allGE p k l = allGE q k l
  | [], _, _ => rfl
  | x :: l, k, h => by
    simp only [allGE]
    have h0 : p k x = q k x := h 0 x rfl
    have h1 : allGE p (k + 1) l = allGE q (k + 1) l := allGE_congr fun i e he => by
      have := h (i + 1) e (by simpa using he)
      rwa [show k + (i + 1) = k + 1 + i by omega] at this
    rw [h0, h1]
theorem mayEntD_eq {m : Msg} (r : rng m) : mayEntD m = mayEnt m := by
  unfold mayEntD mayEnt
  by_cases h : 1 ≤ m.frm ∧ m.entries.length ≤ 4
  · congr 1
    refine allGE_congr fun i e he => ?_
    have hi : i < m.entries.length := (List.getElem?_eq_some_iff.1 he).1
    have h1 := (r.2.2 e (List.mem_of_getElem? he)).1
    have h2 := r.1.2.2.2.1
    unfold pEntD pEnt
    cases hE : mayE e with
    | false => rfl
    | true =>
      simp only [mayE, Bool.and_eq_true, decide_eq_true_eq] at hE
      have h3 := hE.1.1.1
      unfold I64 at h1 h2
      rw [Bool.eq_iff_iff]
      simp only [Bool.true_and, beq_iff_eq, Nat.zero_add]
      rw [wrap_i64 (x := e.pos - m.frm) (by omega) (by omega)]
      by_cases hb : m.frm + i ≤ 9223372036854775807
      · rw [wrap_i64 (by omega) (by omega)]; omega
      · have : IntKind.i64.wrap (m.frm + i) = m.frm + i - 18446744073709551616 := by
          simp only [IntKind.wrap, IntKind.bits, IntKind.signed]; simp; omega
        rw [this]; omega
  · have : (decide (1 ≤ m.frm) && decide (m.entries.length ≤ 4)) = false := by
      rw [Bool.eq_false_iff]; simp only [ne_eq, Bool.and_eq_true, decide_eq_true_eq]; exact h
    rw [Bool.and_assoc (decide (0 ≤ m.upto)), this]; simp
theorem mayD_eq {m : Msg} (r : rng m) : mayD m = mayM m := by
  have he := mayEntD_eq r
  unfold mayD kindD mayM
  rw [he]
  rcases kind_cases m.kind with hk | hk | hk | hk | hk | hk | hk
  case inr.inr.inr.inr.inr.inr => split <;> first | omega | simp
  all_goals
    simp only [hk]
    rw [Bool.and_comm]
    congr 1
    rw [Bool.eq_iff_iff, eqG_iff]
    unfold fieldsS; simp only [hk]
    obtain ⟨k, a, b, c, d, e, f, g, h, ⟨ce, cm⟩, i⟩ := m
    simp [noneM, bareAsk, bareEnt, bareHave, bareCfg, bareWhole, msg0, cfg0, and_assoc]
theorem dmayMsg_ac (m : Msg) (hs : m.small) : AC Try.prog 18 [.ag (eG m)] [] (fun v bs => v = B (mayD m) ∧ bs = []) := by
  have h1 := dfields_ac m
  have h2 := dsameG_ac m (fieldsS m) hs
  have h3 := dclient_ac m.client m.id
  have h4 := dmayConfig_ac m.cfg hs.2.2.1
  unfold mayD
  generalize hq : eqG m (fieldsS m) = q at h2 ⊢
  generalize fieldsS m = mf at h1 h2
  cases q with
  | false =>
    refine AC.N Try.func18 Try.ntmps18 ?_
    intro X hρ hmks
    simp only [nx, Nat.reduceAdd, Nat.reduceSub, BEq.rfl]
    repeat' (first | ((first | ((with_reducible apply AP.k_any); first | refine AP.S ?_ | refine AP.E ?_ | (refine AP.Y ?_; dsimp only) | refine AP.G (fun hg => ?_) (fun hg => ?_) | (refine AP.V (fun c hnil => ?_); simp only [nz]) | refine AP.A ?_ | refine AP.AB 0 ?_ | refine AP.AB 1 ?_ | refine AP.AL ?_) | ((with_reducible apply DW.k_any); first | refine DW.R ?_ | refine DW.R' ?_ | refine DW.W ?_ | refine DW.W' ?_ | refine DW.RA ?_ | refine DW.A 0 ?_ | refine DW.A 1 ?_ | refine DW.A 2 ?_ | refine DW.A' 0 ?_ | refine DW.A' 2 ?_ | ((fail_if_success refine DW.known rfl ?_); refine DW.G (fun hg => ?_) (fun hg => ?_)))) <;> (try simp only [nx, Nat.reduceAdd, Nat.reduceSub, BEq.rfl])) | ((with_reducible apply AP.k_nil); first | (refine AP.nil (hQ' _ ?_); clear hQ' Q') | refine AP.nil ?_) | ((with_reducible apply CP.k_drw); refine cp_drwX fun Q' hQ' => ?_) | ((with_reducible apply CP.k_drw1); refine cp_drawX ?_) | ((with_reducible apply DW.k_nil); refine DW.nl ?_; first | (refine hQ' _ ?_; clear hQ' Q') | skip) | ((with_reducible apply CP.k_reg); refine cp_regG fun Q' hQ' => ?_) | refine CP.W ?_ | refine cp_cond rfl (fun hc => ?_) (fun hc => ?_) | (simp only [List.append_eq, List.cons_append, List.nil_append]))
    (refine RetQ.B [] ?_; (try dsimp only [resV, List.getD_cons_succ, List.getD_cons_zero]); (exact ⟨rfl, rfl⟩))
  | true =>
    rcases kind_cases m.kind with hk | hk | hk | hk | hk | hk | hk
    case inr.inr.inr.inr.inr.inr =>
      have e : kindD m = false := by unfold kindD; split <;> first | omega | rfl
      rw [e]
      refine AC.N Try.func18 Try.ntmps18 ?_
      intro X hρ hmks
      simp only [nx, Nat.reduceAdd, Nat.reduceSub, BEq.rfl]
      repeat' (first | ((first | ((with_reducible apply AP.k_any); first | refine AP.S ?_ | refine AP.E ?_ | (refine AP.Y ?_; dsimp only) | refine AP.G (fun hg => ?_) (fun hg => ?_) | (refine AP.V (fun c hnil => ?_); simp only [nz]) | refine AP.A ?_ | refine AP.AB 0 ?_ | refine AP.AB 1 ?_ | refine AP.AL ?_) | ((with_reducible apply DW.k_any); first | refine DW.R ?_ | refine DW.R' ?_ | refine DW.W ?_ | refine DW.W' ?_ | refine DW.RA ?_ | refine DW.A 0 ?_ | refine DW.A 1 ?_ | refine DW.A 2 ?_ | refine DW.A' 0 ?_ | refine DW.A' 2 ?_ | ((fail_if_success refine DW.known rfl ?_); refine DW.G (fun hg => ?_) (fun hg => ?_)))) <;> (try simp only [nx, Nat.reduceAdd, Nat.reduceSub, BEq.rfl])) | ((with_reducible apply AP.k_nil); first | (refine AP.nil (hQ' _ ?_); clear hQ' Q') | refine AP.nil ?_) | ((with_reducible apply CP.k_drw); refine cp_drwX fun Q' hQ' => ?_) | ((with_reducible apply CP.k_drw1); refine cp_drawX ?_) | ((with_reducible apply DW.k_nil); refine DW.nl ?_; first | (refine hQ' _ ?_; clear hQ' Q') | skip) | ((with_reducible apply CP.k_reg); refine cp_regG fun Q' hQ' => ?_) | refine CP.W ?_ | refine cp_cond rfl (fun hc => ?_) (fun hc => ?_) | (simp only [List.append_eq, List.cons_append, List.nil_append]))
      all_goals try (exfalso; (repeat (rename AC _ _ _ _ _ => hzz; clear hzz)); simp at *; omega)
      (refine RetQ.B [] ?_; (try dsimp only [resV, List.getD_cons_succ, List.getD_cons_zero]); (exact ⟨rfl, rfl⟩))
    case inr.inl =>
      have hk' := congrArg Int.ofNat hk
      simp only [Int.ofNat_eq_natCast] at hk'
      unfold kindD; simp only [hk]
      obtain ⟨hs1, hs2, hs3, hs4⟩ := hs
      refine AC.N Try.func18 Try.ntmps18 ?_
      intro X hρ hmks
      simp only [nx, Nat.reduceAdd, Nat.reduceSub, BEq.rfl]
      simp only [hk', eG, U] at h1 h2 ⊢
      repeat' (first | ((first | ((with_reducible apply AP.k_any); first | refine AP.S ?_ | refine AP.E ?_ | (refine AP.Y ?_; dsimp only) | refine AP.G (fun hg => ?_) (fun hg => ?_) | (refine AP.V (fun c hnil => ?_); simp only [nz]) | refine AP.A ?_ | refine AP.AB 0 ?_ | refine AP.AB 1 ?_ | refine AP.AL ?_) | ((with_reducible apply DW.k_any); first | refine DW.R ?_ | refine DW.R' ?_ | refine DW.W ?_ | refine DW.W' ?_ | refine DW.RA ?_ | refine DW.A 0 ?_ | refine DW.A 1 ?_ | refine DW.A 2 ?_ | refine DW.A' 0 ?_ | refine DW.A' 2 ?_ | ((fail_if_success refine DW.known rfl ?_); refine DW.G (fun hg => ?_) (fun hg => ?_)))) <;> (try simp only [nx, Nat.reduceAdd, Nat.reduceSub, BEq.rfl])) | ((with_reducible apply AP.k_nil); first | (refine AP.nil (hQ' _ ?_); clear hQ' Q') | refine AP.nil ?_) | ((with_reducible apply CP.k_drw); refine cp_drwX fun Q' hQ' => ?_) | ((with_reducible apply CP.k_drw1); refine cp_drawX ?_) | ((with_reducible apply DW.k_nil); refine DW.nl ?_; first | (refine hQ' _ ?_; clear hQ' Q') | skip) | ((with_reducible apply CP.k_reg); refine cp_regG fun Q' hQ' => ?_) | refine CP.W ?_ | refine cp_cond rfl (fun hc => ?_) (fun hc => ?_) | (simp only [List.append_eq, List.cons_append, List.nil_append]))
      all_goals try (refine RetQ.B [] ?_; (try dsimp only [resV, List.getD_cons_succ, List.getD_cons_zero]); ((refine ⟨congrArg B ?_, rfl⟩; (repeat (rename AC _ _ _ _ _ => hzz; clear hzz)); simp at *; simp [mayEntD]; omega)))
      refine cp_loopS [2, 3, 41, 42, 43, 44, 45, 46, 47, 48, 49, 50, 51, 52, 53, 54, 55, 56, 57, 58, 59, 60, 61, 62, 63, 64, 65, 66, 67] (fun a : Nat => m.entries.length - a) (fun a => a ≤ m.entries.length ∧ allGE (pEntD m) 0 m.entries = allGE (pEntD m) a (m.entries.drop a)) (fun a => [(3, I a)]) (fun a => []) 0 ⟨Nat.zero_le _, rfl⟩ (by exact Gh.W) ?_
      rintro k ⟨hk2, he⟩
      simp only [setT, deT, setB, List.set_cons_succ, List.set_cons_zero]
      by_cases hlt : k < m.entries.length
      · have hw : IntKind.i64.wrap ((k : Int) + 1) = ((k + 1 : Nat) : Int) := wrap_i64 (by omega) (by omega)
        rw [List.drop_eq_getElem_cons hlt, allGE] at he
        have h5 := dmayEntry_ac m.entries[k]
        repeat' (first | ((first | ((with_reducible apply AP.k_any); first | refine AP.S ?_ | refine AP.E ?_ | (refine AP.Y ?_; dsimp only) | refine AP.G (fun hg => ?_) (fun hg => ?_) | (refine AP.V (fun c hnil => ?_); simp only [nz]) | refine AP.A ?_ | refine AP.AB 0 ?_ | refine AP.AB 1 ?_ | refine AP.AL ?_) | ((with_reducible apply DW.k_any); first | refine DW.R ?_ | refine DW.R' ?_ | refine DW.W ?_ | refine DW.W' ?_ | refine DW.RA ?_ | refine DW.A 0 ?_ | refine DW.A 1 ?_ | refine DW.A 2 ?_ | refine DW.A' 0 ?_ | refine DW.A' 2 ?_ | ((fail_if_success refine DW.known rfl ?_); refine DW.G (fun hg => ?_) (fun hg => ?_)))) <;> (try simp only [nx, Nat.reduceAdd, Nat.reduceSub, BEq.rfl])) | ((with_reducible apply AP.k_nil); first | (refine AP.nil (hQ' _ ?_); clear hQ' Q') | refine AP.nil ?_) | ((with_reducible apply CP.k_drw); refine cp_drwX fun Q' hQ' => ?_) | ((with_reducible apply CP.k_drw1); refine cp_drawX ?_) | ((with_reducible apply DW.k_nil); refine DW.nl ?_; first | (refine hQ' _ ?_; clear hQ' Q') | skip) | ((with_reducible apply CP.k_reg); refine cp_regG fun Q' hQ' => ?_) | refine CP.W ?_ | refine cp_cond rfl (fun hc => ?_) (fun hc => ?_) | (simp only [List.append_eq, List.cons_append, List.nil_append]))
        all_goals first
          | (exfalso; (repeat (rename AC _ _ _ _ _ => hzz; clear hzz)); simp at *; omega)
          | (refine RetQ.B [] ?_; (try dsimp only [resV, List.getD_cons_succ, List.getD_cons_zero]); ((refine ⟨congrArg B ?_, rfl⟩; (repeat (rename AC _ _ _ _ _ => hzz; clear hzz)); simp at *; simp [mayEntD, he, pEntD, *])))
          | (simp only [hw]; exact ⟨k + 1, by (first | omega | (dsimp only; omega)), ⟨by (first | omega | (dsimp only; omega)), by (rw [he]; (repeat (rename AC _ _ _ _ _ => hzz; clear hzz)); simp at *; simp [pEntD, *])⟩, by exact Gh.W⟩)
      · obtain rfl : k = m.entries.length := by omega
        rw [List.drop_length, allGE] at he
        repeat' (first | ((first | ((with_reducible apply AP.k_any); first | refine AP.S ?_ | refine AP.E ?_ | (refine AP.Y ?_; dsimp only) | refine AP.G (fun hg => ?_) (fun hg => ?_) | (refine AP.V (fun c hnil => ?_); simp only [nz]) | refine AP.A ?_ | refine AP.AB 0 ?_ | refine AP.AB 1 ?_ | refine AP.AL ?_) | ((with_reducible apply DW.k_any); first | refine DW.R ?_ | refine DW.R' ?_ | refine DW.W ?_ | refine DW.W' ?_ | refine DW.RA ?_ | refine DW.A 0 ?_ | refine DW.A 1 ?_ | refine DW.A 2 ?_ | refine DW.A' 0 ?_ | refine DW.A' 2 ?_ | ((fail_if_success refine DW.known rfl ?_); refine DW.G (fun hg => ?_) (fun hg => ?_)))) <;> (try simp only [nx, Nat.reduceAdd, Nat.reduceSub, BEq.rfl])) | ((with_reducible apply AP.k_nil); first | (refine AP.nil (hQ' _ ?_); clear hQ' Q') | refine AP.nil ?_) | ((with_reducible apply CP.k_drw); refine cp_drwX fun Q' hQ' => ?_) | ((with_reducible apply CP.k_drw1); refine cp_drawX ?_) | ((with_reducible apply DW.k_nil); refine DW.nl ?_; first | (refine hQ' _ ?_; clear hQ' Q') | skip) | ((with_reducible apply CP.k_reg); refine cp_regG fun Q' hQ' => ?_) | refine CP.W ?_ | refine cp_cond rfl (fun hc => ?_) (fun hc => ?_) | (simp only [List.append_eq, List.cons_append, List.nil_append]))
        all_goals first
          | (exfalso; (repeat (rename AC _ _ _ _ _ => hzz; clear hzz)); simp at *; done)
          | (exfalso; (repeat (rename AC _ _ _ _ _ => hzz; clear hzz)); simp at *; omega)
          | (refine RetQ.B [] ?_; (try dsimp only [resV, List.getD_cons_succ, List.getD_cons_zero]); ((refine ⟨congrArg B ?_, rfl⟩; (repeat (rename AC _ _ _ _ _ => hzz; clear hzz)); simp at *; simp [mayEntD, he]; omega)))
    all_goals
      have hk' := congrArg Int.ofNat hk
      simp only [Int.ofNat_eq_natCast] at hk'
      unfold kindD; simp only [hk]
      refine AC.N Try.func18 Try.ntmps18 ?_
      intro X hρ hmks
      simp only [nx, Nat.reduceAdd, Nat.reduceSub, BEq.rfl]
      simp only [hk', eG, U] at h1 h2 ⊢
      repeat' (first | ((first | ((with_reducible apply AP.k_any); first | refine AP.S ?_ | refine AP.E ?_ | (refine AP.Y ?_; dsimp only) | refine AP.G (fun hg => ?_) (fun hg => ?_) | (refine AP.V (fun c hnil => ?_); simp only [nz]) | refine AP.A ?_ | refine AP.AB 0 ?_ | refine AP.AB 1 ?_ | refine AP.AL ?_) | ((with_reducible apply DW.k_any); first | refine DW.R ?_ | refine DW.R' ?_ | refine DW.W ?_ | refine DW.W' ?_ | refine DW.RA ?_ | refine DW.A 0 ?_ | refine DW.A 1 ?_ | refine DW.A 2 ?_ | refine DW.A' 0 ?_ | refine DW.A' 2 ?_ | ((fail_if_success refine DW.known rfl ?_); refine DW.G (fun hg => ?_) (fun hg => ?_)))) <;> (try simp only [nx, Nat.reduceAdd, Nat.reduceSub, BEq.rfl])) | ((with_reducible apply AP.k_nil); first | (refine AP.nil (hQ' _ ?_); clear hQ' Q') | refine AP.nil ?_) | ((with_reducible apply CP.k_drw); refine cp_drwX fun Q' hQ' => ?_) | ((with_reducible apply CP.k_drw1); refine cp_drawX ?_) | ((with_reducible apply DW.k_nil); refine DW.nl ?_; first | (refine hQ' _ ?_; clear hQ' Q') | skip) | ((with_reducible apply CP.k_reg); refine cp_regG fun Q' hQ' => ?_) | refine CP.W ?_ | refine cp_cond rfl (fun hc => ?_) (fun hc => ?_) | (simp only [List.append_eq, List.cons_append, List.nil_append]))
      all_goals (refine RetQ.B [] ?_; (try dsimp only [resV, List.getD_cons_succ, List.getD_cons_zero]); ((refine ⟨congrArg B ?_, rfl⟩; (repeat (rename AC _ _ _ _ _ => hzz; clear hzz)); simp at * <;> (try simp [mayAsk, mayHave, mayWhole, *]) <;> (try omega))))
end Go.Proofs.Ytmiajenjgcdhgaa

namespace Go.Proofs.Ytmiajenjgcdhgaa
set_option linter.unusedVariables false
set_option linter.unusedSimpArgs false
set_option maxHeartbeats 8000000
open Go.RowKit
set_option maxRecDepth 100000
/-- a reader of the document: bytes, how many are read, why it is bad -/
structure Rf where
  b : List UInt8
  at_ : Nat
  bad : Int
abbrev tRf : TypeId := 64
abbrev fB (s : Rf) : Bx := .c tRf [bs none s.b, I s.at_, I s.bad]
/-- as the program's -/
def Rf.st (s : Rf) : Int × List UInt8 := (s.bad, if s.bad = 0 then s.b.drop s.at_ else [])
def Rf.ok (s : Rf) : Prop := s.at_ ≤ s.b.length ∧ s.b.length ≤ 100000000
def someF (n : Nat) (s : Rf) : (List UInt8 × Bool) × Rf :=
  if s.bad ≠ 0 then (([], false), s) else if s.b.length - s.at_ < n then (([], false), ⟨s.b, s.at_, 40⟩) else (((s.b.drop s.at_).take n, true), ⟨s.b, s.at_ + n, 0⟩)
theorem dload_ac (b : List UInt8) (n : Nat) (hn : n ≤ 8) (hb : b.length = n) : AC Try.prog 27 [bs none b, I 0, I n] [] (fun v bs' => v = .tu [.sc (.int .u64 (beN b : Int)), B true] ∧ bs' = []) := by
  have hw0 : IntKind.i64.wrap ((b.length : Int) - 0) = (b.length : Int) := by rw [wrap_i64 (by omega) (by omega)]; omega
  have hw1 : IntKind.i64.wrap (0 + (n : Int)) = n := by rw [wrap_i64 (by omega) (by omega)]; omega
  refine AC.N Try.func27 Try.ntmps27 ?_
  intro X hρ hmks
  simp only [nx, Nat.reduceAdd, Nat.reduceSub, BEq.rfl]
  repeat' (first | ((first | ((with_reducible apply AP.k_any); first | refine AP.S ?_ | refine AP.E ?_ | (refine AP.Y ?_; dsimp only) | refine AP.G (fun hg => ?_) (fun hg => ?_))) <;> (try simp only [nx, Nat.reduceAdd, Nat.reduceSub, BEq.rfl])) | ((with_reducible apply AP.k_nil); first | (refine AP.nil (hQ' _ ?_); clear hQ' Q') | refine AP.nil ?_) | ((with_reducible apply CP.k_reg); refine cp_regG fun Q' hQ' => ?_) | refine CP.W ?_ | refine cp_cond rfl (fun hc => ?_) (fun hc => ?_) | (simp only [List.append_eq, List.cons_append, List.nil_append]))
  all_goals first
    | (exfalso; simp [hw0, hb] at *; done)
    | (exfalso; simp [hw0, hb] at *; omega)
    | skip
  refine cp_loopS [8, 9, 27, 28, 29, 30, 31, 32, 33, 34, 35, 36, 37, 38, 39, 40, 41] (fun k : Nat => n - k) (fun k => k ≤ n) (fun k => [(9, I k), (8, .sc (.int .u64 (beN (b.take k) : Int)))]) (fun _ => []) 0 (Nat.zero_le _) (by exact Gh.W) ?_
  rintro k hk
  simp only [setT, deT, setB, List.set_cons_succ, List.set_cons_zero]
  by_cases hlt : k < n
  · have hw : IntKind.i64.wrap ((k : Int) + 1) = ((k + 1 : Nat) : Int) := wrap_i64 (by omega) (by omega)
    have hb1 := beN_lt (b.take k)
    have hb2 : 256 ^ (b.take k).length ≤ 256 ^ 7 := Nat.pow_le_pow_right (by omega) (by simp; omega)
    have hkb : k < b.length := by omega
    have hsn : beN (b.take (k + 1)) = 256 * beN (b.take k) + b[k].toNat := by rw [List.take_succ_eq_append_getElem hkb, beN_snoc]
    have hcl := b[k].toNat_lt
    have hm : IntKind.u64.wrap (IntKind.u64.wrap (256 * (beN (b.take k) : Int)) + IntKind.u64.wrap (b[k].toNat : Int)) = ((beN (b.take (k + 1)) : Nat) : Int) := by
      rw [hsn]
      generalize beN (b.take k) = x at hb1 hb2
      simp [IntKind.wrap, IntKind.bits, IntKind.signed]; omega
    repeat' (first | ((first | ((with_reducible apply AP.k_any); first | refine AP.S ?_ | refine AP.E ?_ | (refine AP.Y ?_; dsimp only) | refine AP.G (fun hg => ?_) (fun hg => ?_))) <;> (try simp only [nx, Nat.reduceAdd, Nat.reduceSub, BEq.rfl])) | ((with_reducible apply AP.k_nil); first | (refine AP.nil (hQ' _ ?_); clear hQ' Q') | refine AP.nil ?_) | ((with_reducible apply CP.k_reg); refine cp_regG fun Q' hQ' => ?_) | refine CP.W ?_ | refine cp_cond rfl (fun hc => ?_) (fun hc => ?_) | (simp only [List.append_eq, List.cons_append, List.nil_append]))
    · simp only [hw, hm]
      exact ⟨k + 1, by omega, by omega, by exact Gh.W⟩
    · exfalso; simp [hw1] at *; omega
  · obtain rfl : k = n := by omega
    rw [List.take_of_length_le (by omega)]
    repeat' (first | ((first | ((with_reducible apply AP.k_any); first | refine AP.S ?_ | refine AP.E ?_ | (refine AP.Y ?_; dsimp only) | refine AP.G (fun hg => ?_) (fun hg => ?_))) <;> (try simp only [nx, Nat.reduceAdd, Nat.reduceSub, BEq.rfl])) | ((with_reducible apply AP.k_nil); first | (refine AP.nil (hQ' _ ?_); clear hQ' Q') | refine AP.nil ?_) | ((with_reducible apply CP.k_reg); refine cp_regG fun Q' hQ' => ?_) | refine CP.W ?_ | refine cp_cond rfl (fun hc => ?_) (fun hc => ?_) | (simp only [List.append_eq, List.cons_append, List.nil_append]))
    all_goals first
      | (exfalso; rw [hw1] at hc; simp at hc; done)
      | (refine RetQ.B [] ?_; (try dsimp only [resV, List.getD_cons_succ, List.getD_cons_zero]); (exact ⟨rfl, rfl⟩))
theorem some_ac (n : Nat) (s : Rf) (hs : s.ok) (hn : n ≤ 4294967295) : AC Try.prog 26 [.bp 0 0 0, I n] [fB s] (fun v bs' => v = .tu [bs none (someF n s).1.1, B (someF n s).1.2] ∧ bs' = [fB (someF n s).2]) := by
  obtain ⟨b, p, e⟩ := s
  obtain ⟨h1, h2⟩ := hs
  dsimp only at h1 h2
  have hw0 : IntKind.i64.wrap ((b.length : Int) - p) = ((b.length - p : Nat) : Int) := by rw [wrap_i64 (by omega) (by omega)]; omega
  by_cases he : e = 0
  · subst he
    by_cases hl : b.length - p < n
    · have e1 : someF n ⟨b, p, 0⟩ = (([], false), ⟨b, p, 40⟩) := by simp [someF, hl]
      rw [e1]
      refine AC.N Try.func26 Try.ntmps26 ?_
      intro X hρ hmks
      simp only [nx, Nat.reduceAdd, Nat.reduceSub, BEq.rfl]
      repeat' (first | ((first | ((with_reducible apply AP.k_any); first | refine AP.S ?_ | (refine AP.V (fun c hnil => ?_); simp only [nz])) | ((with_reducible apply AQ.k_any); first | refine AQ.S ?_)) <;> (try simp only [nx, Nat.reduceAdd, Nat.reduceSub, BEq.rfl])) | ((with_reducible apply AP.k_nil); first | (refine AP.nil (hQ' _ ?_); clear hQ' Q') | refine AP.nil ?_) | ((with_reducible apply AQ.k_nil); first | (refine AQ.nil (hQ' _ ?_); clear hQ' Q') | refine AQ.nil ?_) | ((with_reducible apply CP.k_drw); refine cp_drw (by kernel_rfl) (by kernel_rfl) fun Q' hQ' => ?_) | ((with_reducible apply CP.k_drw1); refine cp_draw (by kernel_rfl) (by kernel_rfl) ?_) | ((with_reducible apply CP.k_reg); refine cp_regG fun Q' hQ' => ?_) | refine CP.W ?_ | refine cp_cond rfl (fun hc => ?_) (fun hc => ?_) | (simp only [List.append_eq, List.cons_append, List.nil_append]))
      all_goals first
        | (exfalso; simp [hw0] at *; done)
        | (exfalso; simp [hw0] at *; omega)
        | (exact RetQ.A [(0, 0)] (by exact ⟨rfl, rfl⟩))
    · have e1 : someF n ⟨b, p, 0⟩ = (((b.drop p).take n, true), ⟨b, p + n, 0⟩) := by simp [someF, hl]
      rw [e1]
      have hw1 : IntKind.i64.wrap ((p : Int) + n) = ((p + n : Nat) : Int) := by rw [wrap_i64 (by omega) (by omega)]; omega
      have hw2 : IntKind.i64.wrap (IntKind.i64.wrap ((p : Int) + n) - n) = (p : Int) := by rw [hw1, wrap_i64 (by omega) (by omega)]; omega
      have hcopy := (copy_ac ((b.drop p).take n) (by simp; omega)).ro (r2 := bs none ((b.drop p).take n)) (by simp only [AV.ro, ro_B])
      rw [hw1] at hw2
      have esl : (List.take ((((p + n : Nat) : Int)).toNat - (IntKind.i64.wrap (((p + n : Nat) : Int) - n)).toNat) (List.drop (IntKind.i64.wrap (((p + n : Nat) : Int) - n)).toNat b)) = (b.drop p).take n := by rw [hw2, show (((p + n : Nat) : Int)).toNat - (p : Int).toNat = n by omega, Int.toNat_natCast]
      have g3 : ((p + n : Nat) : Int) ≤ ((b.map eB).length : Int) := by simp; omega
      rw [← esl] at hcopy
      refine AC.N Try.func26 Try.ntmps26 ?_
      intro X hρ hmks
      simp only [nx, Nat.reduceAdd, Nat.reduceSub, BEq.rfl]
      repeat' (first | ((first | ((with_reducible apply AP.k_any); first | refine AP.S ?_ | (refine AP.V (fun c hnil => ?_); simp only [nz]))) <;> (try simp only [nx, Nat.reduceAdd, Nat.reduceSub, BEq.rfl])) | ((with_reducible apply AP.k_nil); first | (refine AP.nil (hQ' _ ?_); clear hQ' Q') | refine AP.nil ?_) | ((with_reducible apply CP.k_reg); refine cp_regG fun Q' hQ' => ?_) | refine CP.W ?_ | refine cp_cond rfl (fun hc => ?_) (fun hc => ?_) | (simp only [List.append_eq, List.cons_append, List.nil_append]))
      first | refine cp_drw (by kernel_rfl) (by kernel_rfl) fun Q' hQ' => ?_ | refine cp_draw (by kernel_rfl) (by kernel_rfl) ?_
      repeat' (first | ((first | ((with_reducible apply AP.k_any); first | refine AP.S ?_ | (refine AP.V (fun c hnil => ?_); simp only [nz])) | ((with_reducible apply AQ.k_any); first | refine AQ.S ?_)) <;> (try simp only [nx, Nat.reduceAdd, Nat.reduceSub, BEq.rfl])) | ((with_reducible apply AP.k_nil); first | (refine AP.nil (hQ' _ ?_); clear hQ' Q') | refine AP.nil ?_) | ((with_reducible apply AQ.k_nil); first | (refine AQ.nil (hQ' _ ?_); clear hQ' Q') | refine AQ.nil ?_) | ((with_reducible apply CP.k_reg); refine cp_regG fun Q' hQ' => ?_) | refine CP.W ?_ | refine cp_cond rfl (fun hc => ?_) (fun hc => ?_) | (simp only [List.append_eq, List.cons_append, List.nil_append]))
      · exfalso; simp [hw0] at *; omega
      simp only [hw1]
      refine cp_drawI (fun zs zb => ⟨setT zs.t [(35, cond (zb.getD 0 false) (.bp 0 0 0) (.tu [])), (36, cond (zb.getD 1 false) (.bp 0 0 0) (.tu [])), (37, cond (zb.getD 2 false) (.bp 0 0 0) (.tu [])), (38, cond (zb.getD 3 false) (bs none b) (.tu [])), (39, cond (zb.getD 4 false) (.bp 0 0 0) (.tu [])), (40, cond (zb.getD 5 false) (.bp 0 0 0) (.tu [])), (41, cond (zb.getD 6 false) (.bp 0 0 1) (.tu [])), (42, cond (zb.getD 7 false) (I ((p + n : Nat) : Int)) (.tu [])), (43, cond (zb.getD 8 false) (I n) (.tu [])), (44, cond (zb.getD 9 false) (I (IntKind.i64.wrap (((p + n : Nat) : Int) - n))) (.tu [])), (45, cond (zb.getD 10 false) (.bp 0 0 0) (.tu [])), (46, cond (zb.getD 11 false) (.bp 0 0 0) (.tu [])), (47, cond (zb.getD 12 false) (.bp 0 0 1) (.tu [])), (48, cond (zb.getD 13 false) (I ((p + n : Nat) : Int)) (.tu [])), (49, cond (zb.getD 14 false) (bs none (List.take ((((p + n : Nat) : Int)).toNat - (IntKind.i64.wrap (((p + n : Nat) : Int) - n)).toNat) (List.drop (IntKind.i64.wrap (((p + n : Nat) : Int) - n)).toNat b))) (.tu [])), (50, cond (zb.getD 15 false) (bs none (List.take ((((p + n : Nat) : Int)).toNat - (IntKind.i64.wrap (((p + n : Nat) : Int) - n)).toNat) (List.drop (IntKind.i64.wrap (((p + n : Nat) : Int) - n)).toNat b))) (.tu [])), (4, cond (zb.getD 16 false) (bs none (List.take ((((p + n : Nat) : Int)).toNat - (IntKind.i64.wrap (((p + n : Nat) : Int) - n)).toNat) (List.drop (IntKind.i64.wrap (((p + n : Nat) : Int) - n)).toNat b))) (.sc (.slice none 0 0))), (5, cond (zb.getD 17 false) (B true) (B false))], zs.b⟩) (by kernel_rfl) (by kernel_rfl) (by kernel_rfl) ?_ ?_
      rotate_left
      simp only [cond_true, cond_false, setT, List.set_cons_succ, List.set_cons_zero, List.getD_cons_succ, List.getD_cons_zero, List.set_cons_succ, List.length_cons, List.length_nil, List.replicate_succ, List.replicate_zero, Nat.reduceAdd]
      rotate_left
      · intro b hb' hcl
        obtain ⟨l0, b0, rfl, hb0⟩ := len_cons hb'
        obtain ⟨l1, b1, rfl, hb1⟩ := len_cons hb0
        obtain ⟨l2, b2, rfl, hb2⟩ := len_cons hb1
        obtain ⟨l3, b3, rfl, hb3⟩ := len_cons hb2
        obtain ⟨l4, b4, rfl, hb4⟩ := len_cons hb3
        obtain ⟨l5, b5, rfl, hb5⟩ := len_cons hb4
        obtain ⟨l6, b6, rfl, hb6⟩ := len_cons hb5
        obtain ⟨l7, b7, rfl, hb7⟩ := len_cons hb6
        obtain ⟨l8, b8, rfl, hb8⟩ := len_cons hb7
        obtain ⟨l9, b9, rfl, hb9⟩ := len_cons hb8
        obtain ⟨l10, b10, rfl, hb10⟩ := len_cons hb9
        obtain ⟨l11, b11, rfl, hb11⟩ := len_cons hb10
        obtain ⟨l12, b12, rfl, hb12⟩ := len_cons hb11
        obtain ⟨l13, b13, rfl, hb13⟩ := len_cons hb12
        obtain ⟨l14, b14, rfl, hb14⟩ := len_cons hb13
        obtain ⟨l15, b15, rfl, hb15⟩ := len_cons hb14
        obtain ⟨l16, b16, rfl, hb16⟩ := len_cons hb15
        obtain ⟨l17, b17, rfl, hb17⟩ := len_cons hb16
        obtain rfl := List.length_eq_zero_iff.1 hb17
        clear hb' hb0 hb1 hb2 hb3 hb4 hb5 hb6 hb7 hb8 hb9 hb10 hb11 hb12 hb13 hb14 hb15 hb16 hb17
        · simp only [closedB, depsOk, Region.binds, List.toList_toArray, List.all_cons, List.all_nil, List.getD_cons_succ, List.getD_cons_zero, Bool.not_true, Bool.not_false, Bool.true_or, Bool.false_or, Bool.and_true, Bool.true_and, Bool.or_true, Bool.and_false, Bool.or_false, Bool.false_and, Bool.and_eq_true, Bool.or_eq_true, Bool.not_eq_true'] at hcl
          simp only [StepsP]
          refine ⟨?_, ?_, ?_, ?_, ?_, ?_, ?_, ?_, ?_, ?_, ?_, ?_, ?_, ?_, ?_, ?_, ?_, ?_, trivial⟩
          · intro h1 h2
            simp [depsOk, Region.binds] at h1 h2
            subst h1
            (repeat (obtain ⟨rfl, h2⟩ := h2))
            (try subst h2)
            clear hcl
            all_goals simp only [cond_true, cond_false, setT, List.set_cons_succ, List.set_cons_zero, List.getD_cons_succ, List.getD_cons_zero, List.set_cons_succ]
            all_goals ((with_reducible apply AP.k_any); first | (refine AP.sm false rfl ?_ ?_; focus ((repeat' (with_reducible apply And.intro)) <;> (first | exact True.intro | exact rfl | omega | decide | (simp; omega) | (simp; done) | assumption | exact .inl rfl | (refine .inr ?_; simp; try omega)))) | fail "no step")
            all_goals (try simp only [nx, Nat.reduceAdd, Nat.reduceSub, BEq.rfl])
            all_goals refine AP.nil ?_
            all_goals exact ⟨rfl, rfl⟩
          · intro h1 h2
            simp [depsOk, Region.binds] at h1 h2
            subst h1
            (repeat (obtain ⟨rfl, h2⟩ := h2))
            (try subst h2)
            clear hcl
            all_goals simp only [cond_true, cond_false, setT, List.set_cons_succ, List.set_cons_zero, List.getD_cons_succ, List.getD_cons_zero, List.set_cons_succ]
            all_goals ((with_reducible apply AP.k_any); first | (refine AP.sm false rfl ?_ ?_; focus ((repeat' (with_reducible apply And.intro)) <;> (first | exact True.intro | exact rfl | omega | decide | (simp; omega) | (simp; done) | assumption | exact .inl rfl | (refine .inr ?_; simp; try omega)))) | fail "no step")
            all_goals (try simp only [nx, Nat.reduceAdd, Nat.reduceSub, BEq.rfl])
            all_goals refine AP.nil ?_
            all_goals exact ⟨rfl, rfl⟩
          · intro h1 h2
            simp [depsOk, Region.binds] at h1 h2
            subst h1
            (repeat (obtain ⟨rfl, h2⟩ := h2))
            (try subst h2)
            clear hcl
            all_goals simp only [cond_true, cond_false, setT, List.set_cons_succ, List.set_cons_zero, List.getD_cons_succ, List.getD_cons_zero, List.set_cons_succ]
            all_goals ((with_reducible apply AP.k_any); first | (refine AP.sm false rfl ?_ ?_; focus ((repeat' (with_reducible apply And.intro)) <;> (first | exact True.intro | exact rfl | omega | decide | (simp; omega) | (simp; done) | assumption | exact .inl rfl | (refine .inr ?_; simp; try omega)))) | fail "no step")
            all_goals (try simp only [nx, Nat.reduceAdd, Nat.reduceSub, BEq.rfl])
            all_goals refine AP.nil ?_
            all_goals exact ⟨rfl, rfl⟩
          · intro h1 h2
            simp [depsOk, Region.binds] at h1 h2
            subst h1
            (repeat (obtain ⟨rfl, h2⟩ := h2))
            (try subst h2)
            clear hcl
            all_goals simp only [cond_true, cond_false, setT, List.set_cons_succ, List.set_cons_zero, List.getD_cons_succ, List.getD_cons_zero, List.set_cons_succ]
            all_goals ((with_reducible apply AP.k_any); first | (refine AP.sm false rfl ?_ ?_; focus ((repeat' (with_reducible apply And.intro)) <;> (first | exact True.intro | exact rfl | omega | decide | (simp; omega) | (simp; done) | assumption | exact .inl rfl | (refine .inr ?_; simp; try omega)))) | (refine AP.el rfl ?_ (by (first | (refine ⟨?_, ?_⟩; assumption; rfl) | exact ⟨mapAt (by (first | omega | (simp; omega) | (simp; done) | assumption)), rfl⟩ | exact ⟨rfl, rfl⟩)) ?_; focus ((repeat' (with_reducible apply And.intro)) <;> (first | exact True.intro | exact rfl | omega | decide | (simp; omega) | (simp; done) | assumption | exact .inl rfl | (refine .inr ?_; simp; try omega)))) | fail "no step")
            all_goals (try simp only [nx, Nat.reduceAdd, Nat.reduceSub, BEq.rfl])
            all_goals refine AP.nil ?_
            all_goals exact ⟨rfl, rfl⟩
          · intro h1 h2
            simp [depsOk, Region.binds] at h1 h2
            subst h1
            (repeat (obtain ⟨rfl, h2⟩ := h2))
            (try subst h2)
            clear hcl
            all_goals simp only [cond_true, cond_false, setT, List.set_cons_succ, List.set_cons_zero, List.getD_cons_succ, List.getD_cons_zero, List.set_cons_succ]
            all_goals ((with_reducible apply AP.k_any); first | (refine AP.sm false rfl ?_ ?_; focus ((repeat' (with_reducible apply And.intro)) <;> (first | exact True.intro | exact rfl | omega | decide | (simp; omega) | (simp; done) | assumption | exact .inl rfl | (refine .inr ?_; simp; try omega)))) | fail "no step")
            all_goals (try simp only [nx, Nat.reduceAdd, Nat.reduceSub, BEq.rfl])
            all_goals refine AP.nil ?_
            all_goals exact ⟨rfl, rfl⟩
          · intro h1 h2
            simp [depsOk, Region.binds] at h1 h2
            subst h1
            (repeat (obtain ⟨rfl, h2⟩ := h2))
            (try subst h2)
            clear hcl
            all_goals simp only [cond_true, cond_false, setT, List.set_cons_succ, List.set_cons_zero, List.getD_cons_succ, List.getD_cons_zero, List.set_cons_succ]
            all_goals ((with_reducible apply AP.k_any); first | (refine AP.sm false rfl ?_ ?_; focus ((repeat' (with_reducible apply And.intro)) <;> (first | exact True.intro | exact rfl | omega | decide | (simp; omega) | (simp; done) | assumption | exact .inl rfl | (refine .inr ?_; simp; try omega)))) | fail "no step")
            all_goals (try simp only [nx, Nat.reduceAdd, Nat.reduceSub, BEq.rfl])
            all_goals refine AP.nil ?_
            all_goals exact ⟨rfl, rfl⟩
          · intro h1 h2
            simp [depsOk, Region.binds] at h1 h2
            subst h1
            (repeat (obtain ⟨rfl, h2⟩ := h2))
            (try subst h2)
            clear hcl
            all_goals simp only [cond_true, cond_false, setT, List.set_cons_succ, List.set_cons_zero, List.getD_cons_succ, List.getD_cons_zero, List.set_cons_succ]
            all_goals ((with_reducible apply AP.k_any); first | (refine AP.sm false rfl ?_ ?_; focus ((repeat' (with_reducible apply And.intro)) <;> (first | exact True.intro | exact rfl | omega | decide | (simp; omega) | (simp; done) | assumption | exact .inl rfl | (refine .inr ?_; simp; try omega)))) | fail "no step")
            all_goals (try simp only [nx, Nat.reduceAdd, Nat.reduceSub, BEq.rfl])
            all_goals refine AP.nil ?_
            all_goals exact ⟨rfl, rfl⟩
          · intro h1 h2
            simp [depsOk, Region.binds] at h1 h2
            subst h1
            (repeat (obtain ⟨rfl, h2⟩ := h2))
            (try subst h2)
            clear hcl
            all_goals simp only [cond_true, cond_false, setT, List.set_cons_succ, List.set_cons_zero, List.getD_cons_succ, List.getD_cons_zero, List.set_cons_succ]
            all_goals ((with_reducible apply AP.k_any); first | (refine AP.sm false rfl ?_ ?_; focus ((repeat' (with_reducible apply And.intro)) <;> (first | exact True.intro | exact rfl | omega | decide | (simp; omega) | (simp; done) | assumption | exact .inl rfl | (refine .inr ?_; simp; try omega)))) | (refine AP.el rfl ?_ (by (first | (refine ⟨?_, ?_⟩; assumption; rfl) | exact ⟨mapAt (by (first | omega | (simp; omega) | (simp; done) | assumption)), rfl⟩ | exact ⟨rfl, rfl⟩)) ?_; focus ((repeat' (with_reducible apply And.intro)) <;> (first | exact True.intro | exact rfl | omega | decide | (simp; omega) | (simp; done) | assumption | exact .inl rfl | (refine .inr ?_; simp; try omega)))) | fail "no step")
            all_goals (try simp only [nx, Nat.reduceAdd, Nat.reduceSub, BEq.rfl])
            all_goals refine AP.nil ?_
            all_goals exact ⟨rfl, rfl⟩
          · intro h1 h2
            simp [depsOk, Region.binds] at h1 h2
            subst h1
            (repeat (obtain ⟨rfl, h2⟩ := h2))
            (try subst h2)
            clear hcl
            all_goals simp only [cond_true, cond_false, setT, List.set_cons_succ, List.set_cons_zero, List.getD_cons_succ, List.getD_cons_zero, List.set_cons_succ]
            all_goals ((with_reducible apply AP.k_any); first | (refine AP.sm false rfl ?_ ?_; focus ((repeat' (with_reducible apply And.intro)) <;> (first | exact True.intro | exact rfl | omega | decide | (simp; omega) | (simp; done) | assumption | exact .inl rfl | (refine .inr ?_; simp; try omega)))) | fail "no step")
            all_goals (try simp only [nx, Nat.reduceAdd, Nat.reduceSub, BEq.rfl])
            all_goals refine AP.nil ?_
            all_goals exact ⟨rfl, rfl⟩
          · intro h1 h2
            simp [depsOk, Region.binds] at h1 h2
            subst h1
            (repeat (obtain ⟨rfl, h2⟩ := h2))
            (try subst h2)
            clear hcl
            all_goals simp only [cond_true, cond_false, setT, List.set_cons_succ, List.set_cons_zero, List.getD_cons_succ, List.getD_cons_zero, List.set_cons_succ]
            all_goals ((with_reducible apply AP.k_any); first | (refine AP.sm false rfl ?_ ?_; focus ((repeat' (with_reducible apply And.intro)) <;> (first | exact True.intro | exact rfl | omega | decide | (simp; omega) | (simp; done) | assumption | exact .inl rfl | (refine .inr ?_; simp; try omega)))) | fail "no step")
            all_goals (try simp only [nx, Nat.reduceAdd, Nat.reduceSub, BEq.rfl])
            all_goals refine AP.nil ?_
            all_goals exact ⟨rfl, rfl⟩
          · intro h1 h2
            simp [depsOk, Region.binds] at h1 h2
            subst h1
            (repeat (obtain ⟨rfl, h2⟩ := h2))
            (try subst h2)
            clear hcl
            all_goals simp only [cond_true, cond_false, setT, List.set_cons_succ, List.set_cons_zero, List.getD_cons_succ, List.getD_cons_zero, List.set_cons_succ]
            all_goals ((with_reducible apply AP.k_any); first | (refine AP.sm false rfl ?_ ?_; focus ((repeat' (with_reducible apply And.intro)) <;> (first | exact True.intro | exact rfl | omega | decide | (simp; omega) | (simp; done) | assumption | exact .inl rfl | (refine .inr ?_; simp; try omega)))) | fail "no step")
            all_goals (try simp only [nx, Nat.reduceAdd, Nat.reduceSub, BEq.rfl])
            all_goals refine AP.nil ?_
            all_goals exact ⟨rfl, rfl⟩
          · intro h1 h2
            simp [depsOk, Region.binds] at h1 h2
            subst h1
            (repeat (obtain ⟨rfl, h2⟩ := h2))
            (try subst h2)
            clear hcl
            all_goals simp only [cond_true, cond_false, setT, List.set_cons_succ, List.set_cons_zero, List.getD_cons_succ, List.getD_cons_zero, List.set_cons_succ]
            all_goals ((with_reducible apply AP.k_any); first | (refine AP.sm false rfl ?_ ?_; focus ((repeat' (with_reducible apply And.intro)) <;> (first | exact True.intro | exact rfl | omega | decide | (simp; omega) | (simp; done) | assumption | exact .inl rfl | (refine .inr ?_; simp; try omega)))) | fail "no step")
            all_goals (try simp only [nx, Nat.reduceAdd, Nat.reduceSub, BEq.rfl])
            all_goals refine AP.nil ?_
            all_goals exact ⟨rfl, rfl⟩
          · intro h1 h2
            simp [depsOk, Region.binds] at h1 h2
            subst h1
            (repeat (obtain ⟨rfl, h2⟩ := h2))
            (try subst h2)
            clear hcl
            all_goals simp only [cond_true, cond_false, setT, List.set_cons_succ, List.set_cons_zero, List.getD_cons_succ, List.getD_cons_zero, List.set_cons_succ]
            all_goals ((with_reducible apply AP.k_any); first | (refine AP.sm false rfl ?_ ?_; focus ((repeat' (with_reducible apply And.intro)) <;> (first | exact True.intro | exact rfl | omega | decide | (simp; omega) | (simp; done) | assumption | exact .inl rfl | (refine .inr ?_; simp; try omega)))) | fail "no step")
            all_goals (try simp only [nx, Nat.reduceAdd, Nat.reduceSub, BEq.rfl])
            all_goals refine AP.nil ?_
            all_goals exact ⟨rfl, rfl⟩
          · intro h1 h2
            simp [depsOk, Region.binds] at h1 h2
            subst h1
            (repeat (obtain ⟨rfl, h2⟩ := h2))
            (try subst h2)
            clear hcl
            all_goals simp only [cond_true, cond_false, setT, List.set_cons_succ, List.set_cons_zero, List.getD_cons_succ, List.getD_cons_zero, List.set_cons_succ]
            all_goals ((with_reducible apply AP.k_any); first | (refine AP.sm false rfl ?_ ?_; focus ((repeat' (with_reducible apply And.intro)) <;> (first | exact True.intro | exact rfl | omega | decide | (simp; omega) | (simp; done) | assumption | exact .inl rfl | (refine .inr ?_; simp; try omega)))) | (refine AP.el rfl ?_ (by (first | (refine ⟨?_, ?_⟩; assumption; rfl) | exact ⟨mapAt (by (first | omega | (simp; omega) | (simp; done) | assumption)), rfl⟩ | exact ⟨rfl, rfl⟩)) ?_; focus ((repeat' (with_reducible apply And.intro)) <;> (first | exact True.intro | exact rfl | omega | decide | (simp; omega) | (simp; done) | assumption | exact .inl rfl | (refine .inr ?_; simp; try omega)))) | fail "no step")
            all_goals (try simp only [nx, Nat.reduceAdd, Nat.reduceSub, BEq.rfl])
            all_goals refine AP.nil ?_
            all_goals exact ⟨rfl, rfl⟩
          · intro h1 h2
            simp [depsOk, Region.binds] at h1 h2
            subst h1
            (repeat (obtain ⟨rfl, h2⟩ := h2))
            (try subst h2)
            clear hcl
            all_goals simp only [cond_true, cond_false, setT, List.set_cons_succ, List.set_cons_zero, List.getD_cons_succ, List.getD_cons_zero, List.set_cons_succ]
            all_goals ((with_reducible apply AP.k_any); first | (refine AP.sm false rfl ?_ ?_; focus ((repeat' (with_reducible apply And.intro)) <;> (first | exact True.intro | exact rfl | omega | decide | (simp; omega) | (simp; done) | assumption | exact .inl rfl | (refine .inr ?_; simp; try omega)))) | fail "no step")
            all_goals (try simp only [nx, Nat.reduceAdd, Nat.reduceSub, BEq.rfl])
            all_goals refine AP.nil ?_
            all_goals exact ⟨rfl, rfl⟩
          · intro h1 h2
            simp [depsOk, Region.binds] at h1 h2
            subst h1
            (repeat (obtain ⟨rfl, h2⟩ := h2))
            (try subst h2)
            clear hcl
            all_goals simp only [cond_true, cond_false, setT, List.set_cons_succ, List.set_cons_zero, List.getD_cons_succ, List.getD_cons_zero, List.set_cons_succ]
            (first
            | ((with_reducible apply AP.k_any); refine AP.C (hcopy) ?_)
            | fail "no arm")
            all_goals (try simp only [nx, Nat.reduceAdd, Nat.reduceSub, BEq.rfl])
            all_goals refine AP.nil ?_
            all_goals exact ⟨rfl, rfl⟩
          · intro h1 h2
            simp [depsOk, Region.binds] at h1 h2
            subst h1
            (repeat (obtain ⟨rfl, h2⟩ := h2))
            (try subst h2)
            clear hcl
            all_goals simp only [cond_true, cond_false, setT, List.set_cons_succ, List.set_cons_zero, List.getD_cons_succ, List.getD_cons_zero, List.set_cons_succ]
            all_goals ((with_reducible apply AP.k_any); first | (refine AP.sm false rfl ?_ ?_; focus ((repeat' (with_reducible apply And.intro)) <;> (first | exact True.intro | exact rfl | omega | decide | (simp; omega) | (simp; done) | assumption | exact .inl rfl | (refine .inr ?_; simp; try omega)))) | fail "no step")
            all_goals (try simp only [nx, Nat.reduceAdd, Nat.reduceSub, BEq.rfl])
            all_goals refine AP.nil ?_
            all_goals exact ⟨rfl, rfl⟩
          · intro h1 h2
            simp [depsOk, Region.binds] at h1 h2
            subst h1
            (repeat (obtain ⟨rfl, h2⟩ := h2))
            (try subst h2)
            clear hcl
            all_goals simp only [cond_true, cond_false, setT, List.set_cons_succ, List.set_cons_zero, List.getD_cons_succ, List.getD_cons_zero, List.set_cons_succ]
            all_goals ((with_reducible apply AP.k_any); first | (refine AP.sm false rfl ?_ ?_; focus ((repeat' (with_reducible apply And.intro)) <;> (first | exact True.intro | exact rfl | omega | decide | (simp; omega) | (simp; done) | assumption | exact .inl rfl | (refine .inr ?_; simp; try omega)))) | fail "no step")
            all_goals (try simp only [nx, Nat.reduceAdd, Nat.reduceSub, BEq.rfl])
            all_goals refine AP.nil ?_
            all_goals exact ⟨rfl, rfl⟩
      simp only [esl]
      repeat' (first | ((first | ((with_reducible apply AP.k_any); first | refine AP.S ?_ | (refine AP.V (fun c hnil => ?_); simp only [nz]))) <;> (try simp only [nx, Nat.reduceAdd, Nat.reduceSub, BEq.rfl])) | ((with_reducible apply AP.k_nil); first | (refine AP.nil (hQ' _ ?_); clear hQ' Q') | refine AP.nil ?_) | ((with_reducible apply CP.k_reg); refine cp_regG fun Q' hQ' => ?_) | refine CP.W ?_ | refine cp_cond rfl (fun hc => ?_) (fun hc => ?_) | (simp only [List.append_eq, List.cons_append, List.nil_append]))
      (exact RetQ.A [(0, 0)] (by exact ⟨rfl, rfl⟩))
  · have e1 : someF n ⟨b, p, e⟩ = (([], false), ⟨b, p, e⟩) := by simp [someF, he]
    rw [e1]
    refine AC.N Try.func26 Try.ntmps26 ?_
    intro X hρ hmks
    simp only [nx, Nat.reduceAdd, Nat.reduceSub, BEq.rfl]
    repeat' (first | ((first | ((with_reducible apply AP.k_any); first | refine AP.S ?_ | (refine AP.V (fun c hnil => ?_); simp only [nz])) | ((with_reducible apply AQ.k_any); first | refine AQ.S ?_)) <;> (try simp only [nx, Nat.reduceAdd, Nat.reduceSub, BEq.rfl])) | ((with_reducible apply AP.k_nil); first | (refine AP.nil (hQ' _ ?_); clear hQ' Q') | refine AP.nil ?_) | ((with_reducible apply AQ.k_nil); first | (refine AQ.nil (hQ' _ ?_); clear hQ' Q') | refine AQ.nil ?_) | ((with_reducible apply CP.k_drw); refine cp_drw (by kernel_rfl) (by kernel_rfl) fun Q' hQ' => ?_) | ((with_reducible apply CP.k_drw1); refine cp_draw (by kernel_rfl) (by kernel_rfl) ?_) | ((with_reducible apply CP.k_reg); refine cp_regG fun Q' hQ' => ?_) | refine CP.W ?_ | refine cp_cond rfl (fun hc => ?_) (fun hc => ?_) | (simp only [List.append_eq, List.cons_append, List.nil_append]))
    all_goals first
      | (exfalso; simp at *; omega)
      | (exact RetQ.A [(0, 0)] (by exact ⟨rfl, rfl⟩))
end Go.Proofs.Ytmiajenjgcdhgaa

namespace Go.Proofs.Ytmiajenjgcdhgaa
set_option linter.unusedVariables false
set_option linter.unusedSimpArgs false
open Go.RowKit
set_option maxRecDepth 100000
abbrev Stq := Int × List UInt8
def newF (b : List UInt8) : Rf := if 65536 < b.length then ⟨[], 0, 3⟩ else ⟨b, 0, 0⟩
def byteF (s : Rf) : UInt8 × Rf := (if (someF 1 s).1.2 then (someF 1 s).1.1.headD 0 else 0, (someF 1 s).2)
def intF (s : Rf) : Int × Rf := (if (someF 8 s).1.2 then toI (beN (someF 8 s).1.1) else 0, (someF 8 s).2)
def Rf.spoil (s : Rf) : Rf := ⟨s.b, s.at_, 40⟩
def flagF (s : Rf) : Bool × Rf := ((byteF s).1 == 1, if 1 < (byteF s).1.toNat then (byteF s).2.spoil else (byteF s).2)
def bytesF (s : Rf) : List UInt8 × Rf :=
  if (someF 4 s).1.2 then (if 65536 < beN (someF 4 s).1.1 then ([], (someF 4 s).2.spoil) else ((someF (beN (someF 4 s).1.1) (someF 4 s).2).1.1, (someF (beN (someF 4 s).1.1) (someF 4 s).2).2)) else ([], (someF 4 s).2)
def Rf.left (s : Rf) : Nat := s.b.length - s.at_
def countF (m : Int) (s : Rf) : Int × Rf :=
  if (intF s).2.bad = 0 then (if (intF s).1 < 0 ∨ m < (intF s).1 ∨ ((intF s).2.left : Int) < (intF s).1 then (0, (intF s).2.spoil) else intF s) else (0, (intF s).2)
def endF (s : Rf) : Int := if s.bad = 0 ∧ s.at_ < s.b.length then 40 else s.bad
theorem someF_len {n : Nat} {s : Rf} (hs : s.ok) (h : (someF n s).1.2 = true) : (someF n s).1.1.length = n := by
  unfold someF at h ⊢
  split
  · rename_i h1; simp [h1] at h
  · split
    · rename_i h1 h2; simp [h1, h2] at h
    · simp; omega
theorem someF_nil {n : Nat} {s : Rf} (h : (someF n s).1.2 = false) : (someF n s).1.1 = [] := by
  unfold someF at h ⊢
  split
  · rfl
  · split
    · rfl
    · rename_i h1 h2; simp [h1, h2] at h
theorem someF_ok {n : Nat} {s : Rf} (hs : s.ok) : (someF n s).2.ok := by
  unfold someF
  split
  · exact hs
  · split
    · exact hs
    · exact ⟨by have := hs.1; dsimp only; omega, hs.2⟩
theorem someF_st {n : Nat} {s : Rf} (hs : s.ok) : (someF n s).2.st = (if (someF n s).1.2 then (0, s.st.2.drop n) else ((someF n s).2.bad, [])) ∧ ((someF n s).1.2 = true → s.bad = 0 ∧ (someF n s).2.bad = 0 ∧ (someF n s).1.1 = s.st.2.take n ∧ n ≤ s.st.2.length) ∧ ((someF n s).1.2 = false → ((s.bad ≠ 0 ∧ (someF n s).2 = s) ∨ (s.bad = 0 ∧ (someF n s).2.bad = 40 ∧ s.st.2.length < n))) := by
  obtain ⟨b, p, e⟩ := s
  by_cases he : e = 0
  · subst he
    by_cases hl : b.length - p < n
    · simp [someF, hl, Rf.st]
    · simp [someF, hl, Rf.st]
      omega
  · simp [someF, he, Rf.st]
theorem take_some {α : Type} (z : α) (g : List UInt8 → α × Bool) (n : Nat) {s : Rf} (hs : s.ok) {n' : Int} (hn' : n' = n) :
    takeS z g n' s.st = if (someF n s).1.2 then (if (g (someF n s).1.1).2 = true then ((g (someF n s).1.1).1, (someF n s).2.st) else (z, (40, []))) else (z, (someF n s).2.st) := by
  subst hn'
  obtain ⟨h1, h2, h3⟩ := someF_st (n := n) hs
  cases h : (someF n s).1.2 with
  | true =>
    obtain ⟨a1, a2, a3, a4⟩ := h2 h
    rw [h] at h1
    rw [h1]
    have e1 : s.st.1 = 0 := a1
    simp only [takeS, e1, if_true]
    rw [if_neg (by simp), if_neg (by omega), Int.toNat_natCast, a3]
  | false =>
    rw [h] at h1
    rw [h1]
    rcases h3 h with ⟨a1, a2⟩ | ⟨a1, a2, a3⟩
    · rw [a2]
      simp [takeS, Rf.st, a1]
    · have e1 : s.st.1 = 0 := a1
      simp only [takeS, e1]
      rw [if_neg (by simp), if_pos (by omega), a2]
      simp
def Sim {α : Type} (f : Rf → α × Rf) (r : Stq → α × Stq) : Prop := ∀ s : Rf, s.ok → (f s).1 = (r s.st).1 ∧ (f s).2.st = (r s.st).2 ∧ (f s).2.ok
theorem spoil_st (s : Rf) : s.spoil.st = (40, []) := by simp [Rf.spoil, Rf.st]
theorem sim_byte : Sim byteF byteR := fun s hs => by
  have h := take_some (0 : UInt8) byteG 1 hs (n' := 1) rfl
  refine ⟨?_, ?_, someF_ok hs⟩ <;> (unfold byteF byteR; rw [h]) <;> (cases hb : (someF 1 s).1.2 <;> simp [byteG, hb])
theorem sim_int : Sim intF intR := fun s hs => by
  have h := take_some (0 : Int) intG 8 hs (n' := 8) rfl
  refine ⟨?_, ?_, someF_ok hs⟩ <;> (unfold intF intR; rw [h]) <;> (cases hb : (someF 8 s).1.2 <;> simp [intG, hb])
theorem sim_flag : Sim flagF flagR := fun s hs => by
  have h := take_some false flagG 1 hs (n' := 1) rfl
  refine ⟨?_, ?_, ?_⟩
  · unfold flagF flagR byteF
    rw [h]
    cases hb : (someF 1 s).1.2
    · simp
    · by_cases h1 : (someF 1 s).1.1.headD 0 ≤ 1
      · simp only [flagG, h1, decide_true, if_true]
      · simp only [flagG, h1]
        simp
        rintro h2
        simp [h2] at h1
  · unfold flagF flagR byteF
    rw [h]
    cases hb : (someF 1 s).1.2
    · simp
    · by_cases h1 : (someF 1 s).1.1.headD 0 ≤ 1
      · have h2 : ¬ 1 < ((someF 1 s).1.1.headD 0).toNat := by rw [UInt8.le_iff_toNat_le] at h1; simpa using h1
        simp only [flagG, h1]
        simp [-List.headD_eq_head?_getD, h2]
      · have h2 : 1 < ((someF 1 s).1.1.headD 0).toNat := by rw [UInt8.le_iff_toNat_le] at h1; simp at h1 ⊢; omega
        simp only [flagG, h1]
        simp [-List.headD_eq_head?_getD, h2, spoil_st]
  · unfold flagF
    dsimp only
    split
    · exact someF_ok (n := 1) hs
    · exact someF_ok (n := 1) hs
theorem sim_bytes : Sim bytesF bytesR := fun s hs => by
  have h := take_some (0 : Int) lenG 4 hs (n' := 4) rfl
  have hok := someF_ok (n := 4) hs
  have hl : lenR s.st = if (someF 4 s).1.2 then (if 65536 < beN (someF 4 s).1.1 then ((0 : Int), ((40 : Int), ([] : List UInt8))) else ((beN (someF 4 s).1.1 : Int), (someF 4 s).2.st)) else (0, (someF 4 s).2.st) := by
    unfold lenR
    rw [h]
    cases hb : (someF 4 s).1.2
    · simp
    · by_cases hn : 65536 < beN (someF 4 s).1.1
      · have h2 : ¬ beN (someF 4 s).1.1 ≤ 65536 := by omega
        simp [lenG, hn, h2]
      · have h2 : beN (someF 4 s).1.1 ≤ 65536 := by omega
        simp [lenG, hn, h2]
  unfold bytesF bytesR
  rw [hl]
  cases hb : (someF 4 s).1.2
  · obtain ⟨h1, h2, h3⟩ := someF_st (n := 4) hs
    rw [hb] at h1
    simp only [Bool.false_eq_true, if_false]
    have hbad : (someF 4 s).2.bad ≠ 0 := by
      rcases h3 hb with ⟨a1, a2⟩ | ⟨a1, a2, a3⟩
      · rw [a2]; exact a1
      · rw [a2]; decide
    have e : takeS ([] : List UInt8) bytesG 0 (someF 4 s).2.st = ([], (someF 4 s).2.st) := by simp [takeS, Rf.st, hbad]
    rw [e]
    exact ⟨rfl, rfl, hok⟩
  · by_cases hn : 65536 < beN (someF 4 s).1.1
    · simp only [if_true, if_pos hn]
      refine ⟨?_, ?_, hok⟩
      · simp [takeS]
      · simp [takeS, spoil_st]
    · simp only [if_true, if_neg hn]
      have h4 := take_some ([] : List UInt8) bytesG (beN (someF 4 s).1.1) hok rfl
      rw [h4]
      refine ⟨?_, ?_, someF_ok hok⟩
      · cases hb2 : (someF (beN (someF 4 s).1.1) (someF 4 s).2).1.2
        · simp [bytesG, someF_nil hb2]
        · simp [bytesG]
      · cases hb2 : (someF (beN (someF 4 s).1.1) (someF 4 s).2).1.2 <;> simp [bytesG]
theorem st_left {s : Rf} (hs : s.ok) (h : s.bad = 0) : s.st.2.length = s.left := by simp [Rf.st, h, Rf.left]
theorem sim_count (m : Int) : Sim (countF m) (countR m) := fun s hs => by
  have h := take_some (0 : Int) (countG m (leftR s.st - 8)) 8 hs (n' := 8) rfl
  have hok := someF_ok (n := 8) hs
  obtain ⟨h1, h2, h3⟩ := someF_st (n := 8) hs
  unfold countF countR
  rw [h]
  cases hb : (someF 8 s).1.2
  · have hbad : (intF s).2.bad ≠ 0 := by
      show (someF 8 s).2.bad ≠ 0
      rcases h3 hb with ⟨a1, a2⟩ | ⟨a1, a2, a3⟩
      · rw [a2]; exact a1
      · rw [a2]; decide
    simp only [Bool.false_eq_true, if_false, if_neg hbad]
    refine ⟨?_, ?_, ?_⟩ <;> first | trivial | rfl | exact hok
  · obtain ⟨a1, a2, a3, a4⟩ := h2 hb
    have hbad : (intF s).2.bad = 0 := a2
    have e1 : (intF s).1 = toI (beN (someF 8 s).1.1) := by simp [intF, hb]
    have e2 : leftR s.st - 8 = ((intF s).2.left : Int) := by
      have g1 := st_left hs a1
      have g2 := st_left (s := (someF 8 s).2) hok a2
      rw [hb] at h1
      rw [h1] at g2
      simp at g2
      show leftR s.st - 8 = ((someF 8 s).2.left : Int)
      rw [leftR, show s.st.1 = 0 from a1, if_pos rfl]
      omega
    rw [e2]
    simp only [if_true, if_pos hbad]
    by_cases hc : (intF s).1 < 0 ∨ m < (intF s).1 ∨ ((intF s).2.left : Int) < (intF s).1
    · have hg : (countG m ((intF s).2.left : Int) (someF 8 s).1.1).2 = false := by
        cases hx : (countG m ((intF s).2.left : Int) (someF 8 s).1.1).2 with
        | false => rfl
        | true => simp [countG] at hx; rw [e1] at hc; omega
      rw [if_pos hc, hg]
      exact ⟨rfl, spoil_st _, hok⟩
    · have hg : (countG m ((intF s).2.left : Int) (someF 8 s).1.1).2 = true := by
        rw [e1] at hc
        simp [countG]
        omega
      rw [if_neg hc, hg]
      exact ⟨e1, rfl, hok⟩
theorem sim_end (s : Rf) (hs : s.ok) : endF s = endR s.st := by
  obtain ⟨b, p, e⟩ := s
  obtain ⟨h1, h2⟩ := hs
  dsimp only at h1 h2
  by_cases he : e = 0
  · subst he
    simp [endF, endR, Rf.st]
    by_cases hp : p < b.length
    · rw [if_pos hp, if_neg (by omega)]
    · rw [if_neg hp, if_pos (by omega)]
  · simp [endF, endR, Rf.st, he]
theorem sim_new (b : List UInt8) (hb : b.length ≤ 100000000) : (newF b).st = newR b ∧ (newF b).ok := by
  unfold newF newR
  split
  · exact ⟨by simp [Rf.st], by simp [Rf.ok]⟩
  · exact ⟨by simp [Rf.st], by simp [Rf.ok]; omega⟩
end Go.Proofs.Ytmiajenjgcdhgaa

namespace Go.Proofs.Ytmiajenjgcdhgaa
set_option linter.unusedVariables false
set_option linter.unusedSimpArgs false
set_option maxHeartbeats 8000000
open Go.RowKit
set_option maxRecDepth 100000
theorem dnew_ac (b : List UInt8) (hb : b.length ≤ 100000000) : AC Try.prog 10 [bs none b] [] (fun v bs' => v = .bp 0 0 0 ∧ bs' = [fB (newF b)]) := by
  by_cases h : 65536 < b.length
  · have e : newF b = ⟨[], 0, 3⟩ := by simp [newF, h]
    rw [e]
    refine AC.N Try.func10 Try.ntmps10 ?_
    intro X hρ hmks
    simp only [nx, Nat.reduceAdd, Nat.reduceSub, BEq.rfl]
    repeat' (first | ((first | ((with_reducible apply AP.k_any); first | refine AP.S ?_)) <;> (try simp only [nx, Nat.reduceAdd, Nat.reduceSub, BEq.rfl])) | ((with_reducible apply AP.k_nil); first | (refine AP.nil (hQ' _ ?_); clear hQ' Q') | refine AP.nil ?_) | ((with_reducible apply CP.k_reg); refine cp_regG fun Q' hQ' => ?_) | refine CP.W ?_ | refine cp_cond rfl (fun hc => ?_) (fun hc => ?_) | (simp only [List.append_eq, List.cons_append, List.nil_append]))
    · (exact RetQ.A [(0, 1)] (by exact ⟨rfl, rfl⟩))
    · exfalso; simp at *; omega
  · have e : newF b = ⟨b, 0, 0⟩ := by simp [newF, h]
    rw [e]
    refine AC.N Try.func10 Try.ntmps10 ?_
    intro X hρ hmks
    simp only [nx, Nat.reduceAdd, Nat.reduceSub, BEq.rfl]
    repeat' (first | ((first | ((with_reducible apply AP.k_any); first | refine AP.S ?_)) <;> (try simp only [nx, Nat.reduceAdd, Nat.reduceSub, BEq.rfl])) | ((with_reducible apply AP.k_nil); first | (refine AP.nil (hQ' _ ?_); clear hQ' Q') | refine AP.nil ?_) | ((with_reducible apply CP.k_reg); refine cp_regG fun Q' hQ' => ?_) | refine CP.W ?_ | refine cp_cond rfl (fun hc => ?_) (fun hc => ?_) | (simp only [List.append_eq, List.cons_append, List.nil_append]))
    · exfalso; simp at *; omega
    · (exact RetQ.A [(0, 1)] (by exact ⟨rfl, rfl⟩))
theorem dbyte_ac (s : Rf) (hs : s.ok) : AC Try.prog 11 [.bp 0 0 0] [fB s] (fun v bs' => v = U (byteF s).1 ∧ bs' = [fB (byteF s).2]) := by
  have h := some_ac 1 s hs (by omega)
  have hl := someF_len (n := 1) hs
  unfold byteF
  generalize someF 1 s = r at h hl ⊢
  obtain ⟨⟨l, o⟩, s'⟩ := r
  dsimp only at h hl ⊢
  cases o with
  | false =>
    simp only [Bool.false_eq_true, if_false]
    refine AC.N Try.func11 Try.ntmps11 ?_
    intro X hρ hmks
    simp only [nx, Nat.reduceAdd, Nat.reduceSub, BEq.rfl]
    repeat' (first | ((first | ((with_reducible apply AP.k_any); first | refine AP.S ?_ | refine AP.E ?_) | ((with_reducible apply AP.k_any); refine AP.CB [(0, 0)] 0 (h) ?_)) <;> (try simp only [nx, Nat.reduceAdd, Nat.reduceSub, BEq.rfl])) | ((with_reducible apply AP.k_nil); first | (refine AP.nil (hQ' _ ?_); clear hQ' Q') | refine AP.nil ?_) | ((with_reducible apply CP.k_reg); refine cp_regG fun Q' hQ' => ?_) | refine CP.W ?_ | refine cp_cond rfl (fun hc => ?_) (fun hc => ?_) | (simp only [List.append_eq, List.cons_append, List.nil_append]))
    (exact RetQ.A [(0, 0)] (by exact ⟨rfl, rfl⟩))
  | true =>
    obtain ⟨x, rfl⟩ := len1 (hl rfl)
    simp only [if_true, List.headD_cons]
    refine AC.N Try.func11 Try.ntmps11 ?_
    intro X hρ hmks
    simp only [nx, Nat.reduceAdd, Nat.reduceSub, BEq.rfl]
    repeat' (first | ((first | ((with_reducible apply AP.k_any); first | refine AP.S ?_ | refine AP.E ?_) | ((with_reducible apply AP.k_any); refine AP.CB [(0, 0)] 0 (h) ?_)) <;> (try simp only [nx, Nat.reduceAdd, Nat.reduceSub, BEq.rfl])) | ((with_reducible apply AP.k_nil); first | (refine AP.nil (hQ' _ ?_); clear hQ' Q') | refine AP.nil ?_) | ((with_reducible apply CP.k_reg); refine cp_regG fun Q' hQ' => ?_) | refine CP.W ?_ | refine cp_cond rfl (fun hc => ?_) (fun hc => ?_) | (simp only [List.append_eq, List.cons_append, List.nil_append]))
    (exact RetQ.A [(0, 0)] (by exact ⟨rfl, rfl⟩))
theorem dintR_ac (s : Rf) (hs : s.ok) : AC Try.prog 12 [.bp 0 0 0] [fB s] (fun v bs' => v = I (intF s).1 ∧ bs' = [fB (intF s).2]) := by
  have h := some_ac 8 s hs (by omega)
  have hl := someF_len (n := 8) hs
  unfold intF
  generalize someF 8 s = r at h hl ⊢
  obtain ⟨⟨l, o⟩, s'⟩ := r
  dsimp only at h hl ⊢
  cases o with
  | false =>
    simp only [Bool.false_eq_true, if_false]
    refine AC.N Try.func12 Try.ntmps12 ?_
    intro X hρ hmks
    simp only [nx, Nat.reduceAdd, Nat.reduceSub, BEq.rfl]
    repeat' (first | ((first | ((with_reducible apply AP.k_any); first | refine AP.S ?_) | ((with_reducible apply AP.k_any); refine AP.CB [(0, 0)] 0 (h) ?_)) <;> (try simp only [nx, Nat.reduceAdd, Nat.reduceSub, BEq.rfl])) | ((with_reducible apply AP.k_nil); first | (refine AP.nil (hQ' _ ?_); clear hQ' Q') | refine AP.nil ?_) | ((with_reducible apply CP.k_reg); refine cp_regG fun Q' hQ' => ?_) | refine CP.W ?_ | refine cp_cond rfl (fun hc => ?_) (fun hc => ?_) | (simp only [List.append_eq, List.cons_append, List.nil_append]))
    (exact RetQ.A [(0, 0)] (by exact ⟨rfl, rfl⟩))
  | true =>
    have hd := dload_ac l 8 (by omega) (hl rfl)
    simp only [if_true]
    refine AC.N Try.func12 Try.ntmps12 ?_
    intro X hρ hmks
    simp only [nx, Nat.reduceAdd, Nat.reduceSub, BEq.rfl]
    repeat' (first | ((first | ((with_reducible apply AP.k_any); first | refine AP.S ?_) | ((with_reducible apply AP.k_any); refine AP.CB [(0, 0)] 0 (h) ?_) | ((with_reducible apply AP.k_any); refine AP.C (hd) ?_)) <;> (try simp only [nx, Nat.reduceAdd, Nat.reduceSub, BEq.rfl])) | ((with_reducible apply AP.k_nil); first | (refine AP.nil (hQ' _ ?_); clear hQ' Q') | refine AP.nil ?_) | ((with_reducible apply CP.k_reg); refine cp_regG fun Q' hQ' => ?_) | refine CP.W ?_ | refine cp_cond rfl (fun hc => ?_) (fun hc => ?_) | (simp only [List.append_eq, List.cons_append, List.nil_append]))
    (exact RetQ.A [(0, 0)] (by exact ⟨rfl, rfl⟩))
theorem dflagR_ac (s : Rf) (hs : s.ok) : AC Try.prog 28 [.bp 0 0 0] [fB s] (fun v bs' => v = B (flagF s).1 ∧ bs' = [fB (flagF s).2]) := by
  have h := dbyte_ac s hs
  unfold flagF
  generalize byteF s = r at h ⊢
  obtain ⟨x, s'⟩ := r
  dsimp only at h ⊢
  have e2 : ((x.toNat : Int) == 1) = (x == 1) := by
    rw [Bool.eq_iff_iff]; simp [← UInt8.toNat_inj]; omega
  by_cases h1 : 1 < x.toNat
  · rw [if_pos h1]
    refine AC.N Try.func28 Try.ntmps28 ?_
    intro X hρ hmks
    simp only [nx, Nat.reduceAdd, Nat.reduceSub, BEq.rfl]
    repeat' (first | ((first | ((with_reducible apply AP.k_any); first | refine AP.S ?_ | (refine AP.V (fun c hnil => ?_); simp only [nz])) | ((with_reducible apply AP.k_any); refine AP.CB [(0, 0)] 0 (h) ?_)) <;> (try simp only [nx, Nat.reduceAdd, Nat.reduceSub, BEq.rfl])) | ((with_reducible apply AP.k_nil); first | (refine AP.nil (hQ' _ ?_); clear hQ' Q') | refine AP.nil ?_) | ((with_reducible apply CP.k_reg); refine cp_regG fun Q' hQ' => ?_) | refine CP.W ?_ | refine cp_cond rfl (fun hc => ?_) (fun hc => ?_) | (simp only [List.append_eq, List.cons_append, List.nil_append]))
    · (refine RetQ.B [(0, 0)] ?_; (try dsimp only [resV, List.getD_cons_succ, List.getD_cons_zero]); (exact ⟨congrArg B (by rw [Bool.eq_iff_iff]; simp [← UInt8.toNat_inj]; try omega), rfl⟩))
    · exfalso; simp at *; omega
  · rw [if_neg h1]
    refine AC.N Try.func28 Try.ntmps28 ?_
    intro X hρ hmks
    simp only [nx, Nat.reduceAdd, Nat.reduceSub, BEq.rfl]
    repeat' (first | ((first | ((with_reducible apply AP.k_any); first | refine AP.S ?_ | (refine AP.V (fun c hnil => ?_); simp only [nz])) | ((with_reducible apply AP.k_any); refine AP.CB [(0, 0)] 0 (h) ?_)) <;> (try simp only [nx, Nat.reduceAdd, Nat.reduceSub, BEq.rfl])) | ((with_reducible apply AP.k_nil); first | (refine AP.nil (hQ' _ ?_); clear hQ' Q') | refine AP.nil ?_) | ((with_reducible apply CP.k_reg); refine cp_regG fun Q' hQ' => ?_) | refine CP.W ?_ | refine cp_cond rfl (fun hc => ?_) (fun hc => ?_) | (simp only [List.append_eq, List.cons_append, List.nil_append]))
    · exfalso; simp at *; omega
    · (refine RetQ.B [(0, 0)] ?_; (try dsimp only [resV, List.getD_cons_succ, List.getD_cons_zero]); (exact ⟨congrArg B (by rw [Bool.eq_iff_iff]; simp [← UInt8.toNat_inj]; try omega), rfl⟩))
theorem dbytesR_ac (s : Rf) (hs : s.ok) : AC Try.prog 13 [.bp 0 0 0] [fB s] (fun v bs' => v = bs none (bytesF s).1 ∧ bs' = [fB (bytesF s).2]) := by
  have h := some_ac 4 s hs (by omega)
  have hl := someF_len (n := 4) hs
  have hok := someF_ok (n := 4) hs
  unfold bytesF
  generalize someF 4 s = r at h hl hok ⊢
  obtain ⟨⟨l, o⟩, s'⟩ := r
  dsimp only at h hl hok ⊢
  cases o with
  | false =>
    simp only [Bool.false_eq_true, if_false]
    refine AC.N Try.func13 Try.ntmps13 ?_
    intro X hρ hmks
    simp only [nx, Nat.reduceAdd, Nat.reduceSub, BEq.rfl]
    repeat' (first | ((first | ((with_reducible apply AP.k_any); first | refine AP.S ?_) | ((with_reducible apply AP.k_any); refine AP.CB [(0, 0)] 0 (h) ?_)) <;> (try simp only [nx, Nat.reduceAdd, Nat.reduceSub, BEq.rfl])) | ((with_reducible apply AP.k_nil); first | (refine AP.nil (hQ' _ ?_); clear hQ' Q') | refine AP.nil ?_) | ((with_reducible apply CP.k_reg); refine cp_regG fun Q' hQ' => ?_) | refine CP.W ?_ | refine cp_cond rfl (fun hc => ?_) (fun hc => ?_) | (simp only [List.append_eq, List.cons_append, List.nil_append]))
    (exact RetQ.A [(0, 0)] (by exact ⟨rfl, rfl⟩))
  | true =>
    have hd := dload_ac l 4 (by omega) (hl rfl)
    have hlt := beN_lt l
    rw [hl rfl] at hlt
    simp only [if_true]
    by_cases hn : 65536 < beN l
    · simp only [if_pos hn]
      refine AC.N Try.func13 Try.ntmps13 ?_
      intro X hρ hmks
      simp only [nx, Nat.reduceAdd, Nat.reduceSub, BEq.rfl]
      repeat' (first | ((first | ((with_reducible apply AP.k_any); first | refine AP.S ?_) | ((with_reducible apply AP.k_any); refine AP.CB [(0, 0)] 0 (h) ?_) | ((with_reducible apply AP.k_any); refine AP.C (hd) ?_)) <;> (try simp only [nx, Nat.reduceAdd, Nat.reduceSub, BEq.rfl])) | ((with_reducible apply AP.k_nil); first | (refine AP.nil (hQ' _ ?_); clear hQ' Q') | refine AP.nil ?_) | ((with_reducible apply CP.k_reg); refine cp_regG fun Q' hQ' => ?_) | refine CP.W ?_ | refine cp_cond rfl (fun hc => ?_) (fun hc => ?_) | (simp only [List.append_eq, List.cons_append, List.nil_append]))
      · (exact RetQ.A [(0, 0)] (by exact ⟨rfl, rfl⟩))
      · exfalso; simp at *; omega
    · simp only [if_neg hn]
      have h4 := some_ac (beN l) s' hok (by omega)
      have hw : IntKind.i64.wrap (beN l : Int) = (beN l : Int) := wrap_i64 (by omega) (by omega)
      rw [← hw] at h4
      refine AC.N Try.func13 Try.ntmps13 ?_
      intro X hρ hmks
      simp only [nx, Nat.reduceAdd, Nat.reduceSub, BEq.rfl]
      repeat' (first | ((first | ((with_reducible apply AP.k_any); first | refine AP.S ?_) | ((with_reducible apply AP.k_any); refine AP.CB [(0, 0)] 0 (h) ?_) | ((with_reducible apply AP.k_any); refine AP.C (hd) ?_) | ((with_reducible apply AP.k_any); refine AP.CB [(0, 0)] 0 (h4) ?_)) <;> (try simp only [nx, Nat.reduceAdd, Nat.reduceSub, BEq.rfl])) | ((with_reducible apply AP.k_nil); first | (refine AP.nil (hQ' _ ?_); clear hQ' Q') | refine AP.nil ?_) | ((with_reducible apply CP.k_reg); refine cp_regG fun Q' hQ' => ?_) | refine CP.W ?_ | refine cp_cond rfl (fun hc => ?_) (fun hc => ?_) | (simp only [List.append_eq, List.cons_append, List.nil_append]))
      · exfalso; simp at *; omega
      · (exact RetQ.A [(0, 0)] (by exact ⟨rfl, rfl⟩))
theorem dend_ac (s : Rf) : AC Try.prog 17 [.bp 0 0 0] [fB s] (fun v bs' => v = I (endF s) ∧ bs' = [fB s]) := by
  refine AC.N Try.func17 Try.ntmps17 ?_
  intro X hρ hmks
  simp only [nx, Nat.reduceAdd, Nat.reduceSub, BEq.rfl]
  repeat' (first | ((first | ((with_reducible apply AP.k_any); first | refine AP.S ?_ | (refine AP.Y ?_; dsimp only) | refine AP.G (fun hg => ?_) (fun hg => ?_) | (refine AP.V (fun c hnil => ?_); simp only [nz])) | ((with_reducible apply AQ.k_any); first | refine AQ.S ?_ | (refine AQ.Y ?_; dsimp only) | refine AQ.G (fun hg => ?_) (fun hg => ?_))) <;> (try simp only [nx, Nat.reduceAdd, Nat.reduceSub, BEq.rfl])) | ((with_reducible apply AP.k_nil); first | (refine AP.nil (hQ' _ ?_); clear hQ' Q') | refine AP.nil ?_) | ((with_reducible apply AQ.k_nil); first | (refine AQ.nil (hQ' _ ?_); clear hQ' Q') | refine AQ.nil ?_) | ((with_reducible apply CP.k_drw); refine cp_drw (by kernel_rfl) (by kernel_rfl) fun Q' hQ' => ?_) | ((with_reducible apply CP.k_drw1); refine cp_draw (by kernel_rfl) (by kernel_rfl) ?_) | ((with_reducible apply CP.k_reg); refine cp_regG fun Q' hQ' => ?_) | refine CP.W ?_ | refine cp_cond rfl (fun hc => ?_) (fun hc => ?_) | (simp only [List.append_eq, List.cons_append, List.nil_append]))
  all_goals (refine RetQ.B [(0, 0)] ?_; (try dsimp only [resV, List.getD_cons_succ, List.getD_cons_zero]); ((refine ⟨?_, rfl⟩; simp at *; simp [endF, *]; try omega)))
theorem dcount_ac (m : Int) (s : Rf) (hs : s.ok) : AC Try.prog 14 [.bp 0 0 0, I m] [fB s] (fun v bs' => v = I (countF m s).1 ∧ bs' = [fB (countF m s).2]) := by
  have h := dintR_ac s hs
  have hok : (intF s).2.ok := someF_ok hs
  rcases hr : intF s with ⟨n, b, p, e⟩
  rw [hr] at h hok
  obtain ⟨o1, o2⟩ := hok
  dsimp only at h o1 o2
  have hw : IntKind.i64.wrap ((b.length : Int) - p) = ((b.length - p : Nat) : Int) := by rw [wrap_i64 (by omega) (by omega)]; omega
  by_cases he : e = 0
  · subst he
    by_cases hc0 : n < 0 ∨ m < n ∨ ((b.length - p : Nat) : Int) < n
    · have e1 : countF m s = (0, ⟨b, p, 40⟩) := by unfold countF; rw [hr]; dsimp only [Rf.left, Rf.spoil]; rw [if_pos rfl]; exact if_pos hc0
      rw [e1]
      refine AC.N Try.func14 Try.ntmps14 ?_
      intro X hρ hmks
      simp only [nx, Nat.reduceAdd, Nat.reduceSub, BEq.rfl]
      repeat' (first | ((first | ((with_reducible apply AP.k_any); first | refine AP.S ?_ | (refine AP.Y ?_; dsimp only) | refine AP.G (fun hg => ?_) (fun hg => ?_) | (refine AP.V (fun c hnil => ?_); simp only [nz])) | ((with_reducible apply AP.k_any); refine AP.CB [(0, 0)] 0 (h) ?_) | ((with_reducible apply AQ.k_any); first | refine AQ.S ?_ | (refine AQ.Y ?_; dsimp only) | refine AQ.G (fun hg => ?_) (fun hg => ?_))) <;> (try simp only [nx, Nat.reduceAdd, Nat.reduceSub, BEq.rfl])) | ((with_reducible apply AP.k_nil); first | (refine AP.nil (hQ' _ ?_); clear hQ' Q') | refine AP.nil ?_) | ((with_reducible apply AQ.k_nil); first | (refine AQ.nil (hQ' _ ?_); clear hQ' Q') | refine AQ.nil ?_) | ((with_reducible apply CP.k_drw); refine cp_drw (by kernel_rfl) (by kernel_rfl) fun Q' hQ' => ?_) | ((with_reducible apply CP.k_drw1); refine cp_draw (by kernel_rfl) (by kernel_rfl) ?_) | ((with_reducible apply CP.k_reg); refine cp_regG fun Q' hQ' => ?_) | refine CP.W ?_ | refine cp_cond rfl (fun hc => ?_) (fun hc => ?_) | (simp only [List.append_eq, List.cons_append, List.nil_append]))
      all_goals first
        | (exact RetQ.A [(0, 0)] (by exact ⟨rfl, rfl⟩))
        | (exfalso; simp [hw] at *; done)
        | (exfalso; simp [hw] at *; omega)
    · have e1 : countF m s = (n, ⟨b, p, 0⟩) := by unfold countF; rw [hr]; dsimp only [Rf.left, Rf.spoil]; rw [if_pos rfl]; exact if_neg hc0
      rw [e1]
      refine AC.N Try.func14 Try.ntmps14 ?_
      intro X hρ hmks
      simp only [nx, Nat.reduceAdd, Nat.reduceSub, BEq.rfl]
      repeat' (first | ((first | ((with_reducible apply AP.k_any); first | refine AP.S ?_ | (refine AP.Y ?_; dsimp only) | refine AP.G (fun hg => ?_) (fun hg => ?_) | (refine AP.V (fun c hnil => ?_); simp only [nz])) | ((with_reducible apply AP.k_any); refine AP.CB [(0, 0)] 0 (h) ?_) | ((with_reducible apply AQ.k_any); first | refine AQ.S ?_ | (refine AQ.Y ?_; dsimp only) | refine AQ.G (fun hg => ?_) (fun hg => ?_))) <;> (try simp only [nx, Nat.reduceAdd, Nat.reduceSub, BEq.rfl])) | ((with_reducible apply AP.k_nil); first | (refine AP.nil (hQ' _ ?_); clear hQ' Q') | refine AP.nil ?_) | ((with_reducible apply AQ.k_nil); first | (refine AQ.nil (hQ' _ ?_); clear hQ' Q') | refine AQ.nil ?_) | ((with_reducible apply CP.k_drw); refine cp_drw (by kernel_rfl) (by kernel_rfl) fun Q' hQ' => ?_) | ((with_reducible apply CP.k_drw1); refine cp_draw (by kernel_rfl) (by kernel_rfl) ?_) | ((with_reducible apply CP.k_reg); refine cp_regG fun Q' hQ' => ?_) | refine CP.W ?_ | refine cp_cond rfl (fun hc => ?_) (fun hc => ?_) | (simp only [List.append_eq, List.cons_append, List.nil_append]))
      all_goals first
        | (exact RetQ.A [(0, 0)] (by exact ⟨rfl, rfl⟩))
        | (exfalso; simp [hw] at *; done)
        | (exfalso; simp [hw] at *; omega)
  · have e1 : countF m s = (0, ⟨b, p, e⟩) := by unfold countF; rw [hr]; exact if_neg he
    rw [e1]
    refine AC.N Try.func14 Try.ntmps14 ?_
    intro X hρ hmks
    simp only [nx, Nat.reduceAdd, Nat.reduceSub, BEq.rfl]
    repeat' (first | ((first | ((with_reducible apply AP.k_any); first | refine AP.S ?_ | (refine AP.Y ?_; dsimp only) | refine AP.G (fun hg => ?_) (fun hg => ?_) | (refine AP.V (fun c hnil => ?_); simp only [nz])) | ((with_reducible apply AP.k_any); refine AP.CB [(0, 0)] 0 (h) ?_) | ((with_reducible apply AQ.k_any); first | refine AQ.S ?_ | (refine AQ.Y ?_; dsimp only) | refine AQ.G (fun hg => ?_) (fun hg => ?_))) <;> (try simp only [nx, Nat.reduceAdd, Nat.reduceSub, BEq.rfl])) | ((with_reducible apply AP.k_nil); first | (refine AP.nil (hQ' _ ?_); clear hQ' Q') | refine AP.nil ?_) | ((with_reducible apply AQ.k_nil); first | (refine AQ.nil (hQ' _ ?_); clear hQ' Q') | refine AQ.nil ?_) | ((with_reducible apply CP.k_drw); refine cp_drw (by kernel_rfl) (by kernel_rfl) fun Q' hQ' => ?_) | ((with_reducible apply CP.k_drw1); refine cp_draw (by kernel_rfl) (by kernel_rfl) ?_) | ((with_reducible apply CP.k_reg); refine cp_regG fun Q' hQ' => ?_) | refine CP.W ?_ | refine cp_cond rfl (fun hc => ?_) (fun hc => ?_) | (simp only [List.append_eq, List.cons_append, List.nil_append]))
    all_goals first
      | (exact RetQ.A [(0, 0)] (by exact ⟨rfl, rfl⟩))
      | (exfalso; simp at *; omega)
end Go.Proofs.Ytmiajenjgcdhgaa

namespace Go.Proofs.Ytmiajenjgcdhgaa
set_option linter.unusedVariables false
set_option linter.unusedSimpArgs false
set_option maxHeartbeats 8000000
open Go.RowKit
set_option maxRecDepth 100000
def restRF (pos : Int) (s : Rf) : Entry × Rf :=
  (⟨pos, (intF s).1, (intF (intF s).2).1, (intF (intF (intF s).2).2).1, (bytesF (intF (intF (intF s).2).2).2).1⟩, (bytesF (intF (intF (intF s).2).2).2).2)
def memRF (s : Rf) : Member × Rf := (⟨(intF s).1, (intF (intF s).2).1, (flagF (intF (intF s).2).2).1⟩, (flagF (intF (intF s).2).2).2)
def memsRF : Nat → Rf → List Member × Rf
  | 0, s => ([], s)
  | n + 1, s => ((memRF s).1 :: (memsRF n (memRF s).2).1, (memsRF n (memRF s).2).2)
def configRF (s : Rf) : Config × Rf :=
  (⟨(intF s).1, (memsRF (countF 5 (intF s).2).1.toNat (countF 5 (intF s).2).2).1⟩, (memsRF (countF 5 (intF s).2).1.toNat (countF 5 (intF s).2).2).2)
theorem sim_rest (pos : Int) : Sim (restRF pos) (restR pos) := fun s hs => by
  obtain ⟨a1, a2, a3⟩ := sim_int s hs
  obtain ⟨b1, b2, b3⟩ := sim_int _ a3
  obtain ⟨c1, c2, c3⟩ := sim_int _ b3
  obtain ⟨d1, d2, d3⟩ := sim_bytes _ c3
  unfold restRF restR
  refine ⟨?_, ?_, d3⟩
  · dsimp only
    rw [a1, b1, a2, c1, b2, a2, d1, c2, b2, a2]
  · dsimp only
    rw [d2, c2, b2, a2]
theorem sim_mem : Sim memRF memR := fun s hs => by
  obtain ⟨a1, a2, a3⟩ := sim_int s hs
  obtain ⟨b1, b2, b3⟩ := sim_int _ a3
  obtain ⟨c1, c2, c3⟩ := sim_flag _ b3
  unfold memRF memR
  refine ⟨?_, ?_, c3⟩
  · dsimp only
    rw [a1, b1, a2, c1, b2, a2]
  · dsimp only
    rw [c2, b2, a2]
theorem sim_mems : ∀ n, Sim (memsRF n) (memsR n)
  | 0 => fun _ hs => ⟨rfl, rfl, hs⟩
  | n + 1 => fun s hs => by
    obtain ⟨a1, a2, a3⟩ := sim_mem s hs
    obtain ⟨b1, b2, b3⟩ := sim_mems n _ a3
    unfold memsRF memsR
    refine ⟨?_, ?_, b3⟩
    · dsimp only
      rw [a1, b1, a2]
    · dsimp only
      rw [b2, a2]
theorem sim_config : Sim configRF configR := fun s hs => by
  obtain ⟨a1, a2, a3⟩ := sim_int s hs
  obtain ⟨b1, b2, b3⟩ := sim_count 5 _ a3
  obtain ⟨c1, c2, c3⟩ := sim_mems (countF 5 (intF s).2).1.toNat _ b3
  unfold configRF configR
  refine ⟨?_, ?_, c3⟩
  · dsimp only
    rw [c1, a1, b1, b2, a2]
  · dsimp only
    rw [c2, b1, b2, a2]
theorem memsRF_snoc : ∀ (n : Nat) (s : Rf), (memsRF (n + 1) s).1 = (memsRF n s).1 ++ [(memRF (memsRF n s).2).1] ∧ (memsRF (n + 1) s).2 = (memRF (memsRF n s).2).2
  | 0, s => ⟨rfl, rfl⟩
  | n + 1, s => by
    have h := memsRF_snoc n (memRF s).2
    exact ⟨by show (memRF s).1 :: (memsRF (n + 1) (memRF s).2).1 = _; rw [h.1]; rfl, h.2⟩
theorem memsRF_len : ∀ (n : Nat) (s : Rf), (memsRF n s).1.length = n
  | 0, _ => rfl
  | n + 1, s => by show (_ :: _).length = _; rw [List.length_cons, memsRF_len n]
theorem dtakeRest_ac (pos : Int) (s : Rf) (hs : s.ok) : AC Try.prog 15 [.bp 0 0 0, I pos] [fB s] (fun v bs => v = .ag (eE none (restRF pos s).1) ∧ bs = [fB (restRF pos s).2]) := by
  have h1 := (sim_int s hs).2.2
  have h2 := (sim_int _ h1).2.2
  have h3 := (sim_int _ h2).2.2
  refine AC.N Try.func15 Try.ntmps15 ?_
  intro X hρ hmks
  simp only [nx, Nat.reduceAdd, Nat.reduceSub, BEq.rfl]
  repeat' (first | ((first | ((with_reducible apply AP.k_any); first | refine AP.S ?_) | ((with_reducible apply AP.k_any); refine AP.CB [(0, 0)] 0 (dbytesR_ac _ h3) ?_) | ((with_reducible apply AP.k_any); refine AP.CB [(0, 0)] 0 (dintR_ac (intF (intF s).2).2 h2) ?_) | ((with_reducible apply AP.k_any); refine AP.CB [(0, 0)] 0 (dintR_ac (intF s).2 h1) ?_) | ((with_reducible apply AP.k_any); refine AP.CB [(0, 0)] 0 (dintR_ac s hs) ?_)) <;> (try simp only [nx, Nat.reduceAdd, Nat.reduceSub, BEq.rfl])) | ((with_reducible apply AP.k_nil); first | (refine AP.nil (hQ' _ ?_); clear hQ' Q') | refine AP.nil ?_) | ((with_reducible apply CP.k_reg); refine cp_regG fun Q' hQ' => ?_) | refine CP.W ?_ | refine cp_cond rfl (fun hc => ?_) (fun hc => ?_) | (simp only [List.append_eq, List.cons_append, List.nil_append]))
  (exact RetQ.A [(0, 0)] (by exact ⟨rfl, rfl⟩))
theorem dtakeConfig_ac (s : Rf) (hs : s.ok) : AC Try.prog 16 [.bp 0 0 0] [fB s] (fun v bs => v = .ag (eC none (configRF s).1) ∧ bs = [fB (configRF s).2]) := by
  have h1 := (sim_int s hs).2.2
  have h2 := (sim_count 5 _ h1).2.2
  obtain ⟨hc0, hc5⟩ : 0 ≤ (countF 5 (intF s).2).1 ∧ (countF 5 (intF s).2).1 ≤ 5 := by
    rw [(sim_count 5 _ h1).1]
    exact countR_le (by omega)
  refine AC.N Try.func16 Try.ntmps16 ?_
  intro X hρ hmks
  simp only [nx, Nat.reduceAdd, Nat.reduceSub, BEq.rfl]
  repeat' (first | ((first | ((with_reducible apply AP.k_any); first | refine AP.S ?_) | ((with_reducible apply AP.k_any); refine AP.CB [(0, 0)] 0 (dintR_ac s hs) ?_) | ((with_reducible apply AP.k_any); refine AP.CB [(0, 0)] 0 (dcount_ac 5 _ h1) ?_)) <;> (try simp only [nx, Nat.reduceAdd, Nat.reduceSub, BEq.rfl])) | ((with_reducible apply AP.k_nil); first | (refine AP.nil (hQ' _ ?_); clear hQ' Q') | refine AP.nil ?_) | ((with_reducible apply CP.k_reg); refine cp_regG fun Q' hQ' => ?_) | refine CP.W ?_ | refine cp_cond rfl (fun hc => ?_) (fun hc => ?_) | (simp only [List.append_eq, List.cons_append, List.nil_append]))
  refine CP.gh (gh_nilc (j := 2) (u := 1) (off := 1) (e := tM) (k := 3) rfl rfl) ?_
  simp only [nx, Nat.reduceAdd, Nat.reduceSub, BEq.rfl]
  refine CP.gh gh_slot ?_; simp only [nx, Nat.reduceAdd, Nat.reduceSub, BEq.rfl]
  refine CP.gh gh_slot ?_; simp only [nx, Nat.reduceAdd, Nat.reduceSub, BEq.rfl]
  have h0 : (configRF s) = (⟨(intF s).1, (memsRF (countF 5 (intF s).2).1.toNat (countF 5 (intF s).2).2).1⟩, (memsRF (countF 5 (intF s).2).1.toNat (countF 5 (intF s).2).2).2) := rfl
  rw [h0]
  clear h0
  obtain ⟨N, hN⟩ : ∃ N : Nat, (countF 5 (intF s).2).1 = N := ⟨(countF 5 (intF s).2).1.toNat, by omega⟩
  rw [hN] at hc5 ⊢
  rw [Int.toNat_natCast]
  generalize (countF 5 (intF s).2).2 = S0 at h2 ⊢
  refine cp_loopS [5, 6, 12, 13, 14, 15, 16, 17, 18, 19, 20, 21, 22, 23, 24, 25, 26, 27, 28, 29, 30, 31] (fun a : Nat × Nat × Nat × Nat => N - a.1) (fun a => a.1 ≤ N) (fun a => [(5, I a.1)]) (fun a => [(0, ⟨0, fB (memsRF a.1 S0).2⟩), (2, ⟨1, .c 27 [I (intF s).1, .hd 3 a.2.1]⟩), (3, ⟨a.2.1, .r tM 3 ((memsRF a.1 S0).1.map eM)⟩), (4, ⟨a.2.2.1, .x⟩), (5, ⟨a.2.2.2, .x⟩)]) (0, 1, 0, 0) (Nat.zero_le _) (by exact Gh.W) ?_
  rintro ⟨k, u, v, w⟩ hk
  simp only [setT, deT, setB, List.set_cons_succ, List.set_cons_zero]
  dsimp only at hk
  have hS := (sim_mems k S0 h2).2.2
  have hL := memsRF_len k S0
  have hs1 := (memsRF_snoc k S0).1
  have hs2 := (memsRF_snoc k S0).2
  by_cases hlt : k < N
  · have hw : IntKind.i64.wrap ((k : Int) + 1) = ((k + 1 : Nat) : Int) := wrap_i64 (by omega) (by omega)
    generalize hms : memsRF k S0 = ms at hS hL hs1 hs2 ⊢
    obtain ⟨ml, S⟩ := ms
    dsimp only at hS hL hs1 hs2 ⊢
    have g1 := (sim_int S hS).2.2
    have g2 := (sim_int _ g1).2.2
    have hlen : (ml.map eM).length + 1 ≤ 1000000000 := by rw [List.length_map]; omega
    repeat' (first | ((first | ((with_reducible apply AP.k_any); first | refine AP.S ?_) | ((with_reducible apply AP.k_any); refine AP.CB [(0, 0)] 0 (dintR_ac (intF S).2 g1) ?_) | ((with_reducible apply AP.k_any); refine AP.CB [(0, 0)] 0 (dintR_ac S hS) ?_) | ((with_reducible apply AP.k_any); refine AP.CB [(0, 0)] 0 (dflagR_ac _ g2) ?_)) <;> (try simp only [nx, Nat.reduceAdd, Nat.reduceSub, BEq.rfl])) | ((with_reducible apply AP.k_nil); first | (refine AP.nil (hQ' _ ?_); clear hQ' Q') | refine AP.nil ?_) | ((with_reducible apply CP.k_reg); refine cp_regG fun Q' hQ' => ?_) | refine CP.W ?_ | refine cp_cond rfl (fun hc => ?_) (fun hc => ?_) | (simp only [List.append_eq, List.cons_append, List.nil_append]))
    · simp only [hw]
      refine ⟨(k + 1, u + 1, v + 1, w + 1), by (dsimp only; omega), by (dsimp only; omega), ?_⟩
      dsimp only
      rw [hs1, hs2, List.map_append, List.map_cons, List.map_nil]
      exact Gh.W
    · exfalso; simp at *; omega
  · obtain rfl : k = N := by omega
    refine CP.gh (gh_fz (b := 3) (u := u) rfl rfl (by (repeat' (first | exact FzC.nil | apply FzC.cons | exact FzV.hd | apply FzV.ag | exact FzV.same))) (by (repeat' (first | exact FzB.nil | apply FzB.c | apply FzB.same | exact FzC.nil | apply FzC.cons | exact FzV.hd | apply FzV.ag | exact FzV.same)))) ?_
    simp only [ro_M]
    repeat' (first | ((first | ((with_reducible apply AP.k_any); first | refine AP.S ?_)) <;> (try simp only [nx, Nat.reduceAdd, Nat.reduceSub, BEq.rfl])) | ((with_reducible apply AP.k_nil); first | (refine AP.nil (hQ' _ ?_); clear hQ' Q') | refine AP.nil ?_) | ((with_reducible apply CP.k_reg); refine cp_regG fun Q' hQ' => ?_) | refine CP.W ?_ | refine cp_cond rfl (fun hc => ?_) (fun hc => ?_) | (simp only [List.append_eq, List.cons_append, List.nil_append]))
    all_goals first
      | (exfalso; simp at *; done)
      | (exfalso; simp at *; omega)
      | (exact RetQ.A [(0, 0)] (by exact ⟨rfl, rfl⟩))
end Go.Proofs.Ytmiajenjgcdhgaa

namespace Go.Proofs.Ytmiajenjgcdhgaa
set_option linter.unusedVariables false
set_option linter.unusedSimpArgs false
theorem takeS_all {α : Type} (p : α → Prop) {z : α} {f : List UInt8 → α × Bool} {n : Int} {st : Int × List UInt8} (hz : p z) (hf : ∀ b, p (f b).1) : p (takeS z f n st).1 := by
  unfold takeS
  split
  · exact hz
  · split
    · exact hz
    · split
      · exact hf _
      · exact hz
theorem intR_rg (st : St) : I64 (intR st).1 := takeS_all I64 (by unfold I64; omega) fun b => toI_in _
theorem wrap_rg (x : Int) : I64 (IntKind.i64.wrap x) := by
  unfold I64 IntKind.wrap
  simp [IntKind.signed, IntKind.bits]
  omega
theorem entsR_rg (p : Int) : ∀ (n i : Nat) (st : St), ∀ e ∈ (entsR p i n st).1, I64 e.pos ∧ I64 e.stamp ∧ I64 e.client ∧ I64 e.id
  | 0, _, _, e, he => by cases he
  | n + 1, i, st, e, he => by
    rcases List.mem_cons.1 he with rfl | he
    · exact ⟨wrap_rg _, intR_rg _, intR_rg _, intR_rg _⟩
    · exact entsR_rg p n (i + 1) _ e he
theorem memsR_rg : ∀ (n : Nat) (st : St), ∀ m ∈ (memsR n st).1, okMb m
  | 0, _, m, hm => by cases hm
  | n + 1, st, m, hm => by
    rcases List.mem_cons.1 hm with rfl | hm
    · exact ⟨intR_rg _, intR_rg _⟩
    · exact memsR_rg n _ m hm
theorem i64_0 : I64 0 := by unfold I64; omega
theorem readM_rg (b : List UInt8) : rng (readM b).1 := by
  have z := i64_0
  unfold readM takeM
  split
  · exact ⟨⟨intR_rg _, intR_rg _, z, z, z, z, z⟩, ⟨z, fun x hx => by cases hx⟩, fun e he => by cases he⟩
  · exact ⟨⟨z, z, intR_rg _, intR_rg _, z, z, z⟩, ⟨z, fun x hx => by cases hx⟩, fun e he => entsR_rg _ _ _ _ e he⟩
  · exact ⟨⟨z, z, z, z, intR_rg _, intR_rg _, z⟩, ⟨z, fun x hx => by cases hx⟩, fun e he => by cases he⟩
  · exact ⟨⟨z, z, z, z, z, z, z⟩, ⟨intR_rg _, fun x hx => memsR_rg _ _ x hx⟩, fun e he => by cases he⟩
  · exact ⟨⟨z, z, z, z, z, z, intR_rg _⟩, ⟨z, fun x hx => by cases hx⟩, fun e he => by cases he⟩
  · exact ⟨⟨intR_rg _, intR_rg _, z, z, z, z, z⟩, ⟨z, fun x hx => by cases hx⟩, fun e he => by cases he⟩
  · exact ⟨⟨z, z, z, z, z, z, z⟩, ⟨z, fun x hx => by cases hx⟩, fun e he => by cases he⟩
theorem takeS_take {α : Type} (p : α → Prop) {z : α} {f : List UInt8 → α × Bool} {n : Int} {st : Int × List UInt8} (hz : p z) (hf : ∀ m, p (f (st.2.take m)).1) : p (takeS z f n st).1 := by
  unfold takeS
  split
  · exact hz
  · split
    · exact hz
    · split
      · exact hf _
      · exact hz
theorem bytesR_le {st : St} {k : Nat} (h : st.2.length ≤ k) : (bytesR st).1.length ≤ k := by
  have h2 : (lenR st).2.2.length ≤ k := takeS_len h
  refine takeS_take (fun l : List UInt8 => l.length ≤ k) (Nat.zero_le _) fun m => ?_
  show (List.take m _).length ≤ k
  rw [List.length_take]; omega
theorem entsR_body {k : Nat} (p : Int) : ∀ (n i : Nat) (st : St), st.2.length ≤ k → ∀ e ∈ (entsR p i n st).1, e.body.length ≤ k
  | 0, _, _, _, e, he => by cases he
  | n + 1, i, st, h, e, he => by
    rcases List.mem_cons.1 he with rfl | he
    · exact bytesR_le (intR_len (intR_len (intR_len h)))
    · exact entsR_body p n (i + 1) _ (restR_len h) e he
theorem readM_small {b : List UInt8} (hb : b.length ≤ 100000000) : (readM b).1.small := by
  have h0 := byteR_len (newR_le hb)
  have z : ([] : List UInt8).length ≤ 100000000 := Nat.zero_le _
  unfold readM takeM
  split
  · exact ⟨bytesR_le (intR_len (intR_len h0)), Nat.zero_le _, Nat.zero_le _, fun e he => by cases he⟩
  · have hc := countR_le (m := 4) (st := (intR (intR (byteR (newR b)).2).2).2) (by omega)
    refine ⟨Nat.zero_le _, ?_, Nat.zero_le _, fun e he => entsR_body _ _ _ _ (countR_len (intR_len (intR_len h0))) e he⟩
    show (entsR _ _ _ _).1.length ≤ _
    rw [entsR_fst_len]; omega
  · exact ⟨Nat.zero_le _, Nat.zero_le _, Nat.zero_le _, fun e he => by cases he⟩
  · have hc := countR_le (m := 5) (st := (intR (byteR (newR b)).2).2) (by omega)
    refine ⟨Nat.zero_le _, Nat.zero_le _, ?_, fun e he => by cases he⟩
    show (memsR _ _).1.length ≤ _
    rw [memsR_fst_len]; omega
  · exact ⟨Nat.zero_le _, Nat.zero_le _, Nat.zero_le _, fun e he => by cases he⟩
  · exact ⟨bytesR_le (intR_len (intR_len h0)), Nat.zero_le _, Nat.zero_le _, fun e he => by cases he⟩
  · exact ⟨Nat.zero_le _, Nat.zero_le _, Nat.zero_le _, fun e he => by cases he⟩
/-- the document's reading, kind by kind -/
def askQ (k : UInt8) (s : Rf) : Msg × Rf := ({ msg0 with kind := k, client := (intF s).1, id := (intF (intF s).2).1, body := (bytesF (intF (intF s).2).2).1 }, (bytesF (intF (intF s).2).2).2)
def haveQ (k : UInt8) (s : Rf) : Msg × Rf := ({ msg0 with kind := k, have_ := (intF s).1, done := (intF (intF s).2).1 }, (intF (intF s).2).2)
def cfgQ (k : UInt8) (s : Rf) : Msg × Rf := ({ msg0 with kind := k, cfg := (configRF s).1 }, (configRF s).2)
def wholeQ (k : UInt8) (s : Rf) : Msg × Rf := ({ msg0 with kind := k, since := (intF s).1 }, (intF s).2)
def entsQ (p : Int) : Nat → Nat → Rf → List Entry × Rf
  | _, 0, s => ([], s)
  | i, n + 1, s => ((restRF (IntKind.i64.wrap (p + i)) s).1 :: (entsQ p (i + 1) n (restRF (IntKind.i64.wrap (p + i)) s).2).1, (entsQ p (i + 1) n (restRF (IntKind.i64.wrap (p + i)) s).2).2)
def entQ (k : UInt8) (s : Rf) : Msg × Rf :=
  ({ msg0 with kind := k, upto := (intF s).1, frm := (intF (intF s).2).1, entries := (entsQ (intF (intF s).2).1 0 (countF 4 (intF (intF s).2).2).1.toNat (countF 4 (intF (intF s).2).2).2).1 },
    (entsQ (intF (intF s).2).1 0 (countF 4 (intF (intF s).2).2).1.toNat (countF 4 (intF (intF s).2).2).2).2)
theorem sim_ents (p : Int) : ∀ (n i : Nat), Sim (entsQ p i n) (entsR p i n)
  | 0, _, s, hs => ⟨rfl, rfl, hs⟩
  | n + 1, i, s, hs => by
    obtain ⟨a1, a2, a3⟩ := sim_rest (IntKind.i64.wrap (p + i)) s hs
    obtain ⟨b1, b2, b3⟩ := sim_ents p n (i + 1) _ a3
    rw [a2] at b1 b2
    exact ⟨by simp only [entsQ, entsR]; rw [a1, b1], b2, b3⟩
theorem sim_ask (k : UInt8) : Sim (askQ k) (takeAsk k) := fun s hs => by
  obtain ⟨a1, a2, a3⟩ := sim_int s hs
  obtain ⟨b1, b2, b3⟩ := sim_int _ a3
  obtain ⟨c1, c2, c3⟩ := sim_bytes _ b3
  unfold askQ takeAsk
  refine ⟨?_, ?_, c3⟩
  · dsimp only
    rw [a1, b1, a2, c1, b2, a2]
  · dsimp only
    rw [c2, b2, a2]
theorem sim_have (k : UInt8) : Sim (haveQ k) (takeHave k) := fun s hs => by
  obtain ⟨a1, a2, a3⟩ := sim_int s hs
  obtain ⟨b1, b2, b3⟩ := sim_int _ a3
  unfold haveQ takeHave
  refine ⟨?_, ?_, b3⟩
  · dsimp only
    rw [a1, b1, a2]
  · dsimp only
    rw [b2, a2]
theorem sim_cfg (k : UInt8) : Sim (cfgQ k) (takeCfg k) := fun s hs => by
  obtain ⟨a1, a2, a3⟩ := sim_config s hs
  unfold cfgQ takeCfg
  exact ⟨by dsimp only; rw [a1], a2, a3⟩
theorem sim_whole (k : UInt8) : Sim (wholeQ k) (takeWhole k) := fun s hs => by
  obtain ⟨a1, a2, a3⟩ := sim_int s hs
  unfold wholeQ takeWhole
  exact ⟨by dsimp only; rw [a1], a2, a3⟩
theorem sim_entm (k : UInt8) : Sim (entQ k) (takeEnt k) := fun s hs => by
  obtain ⟨a1, a2, a3⟩ := sim_int s hs
  obtain ⟨b1, b2, b3⟩ := sim_int _ a3
  obtain ⟨c1, c2, c3⟩ := sim_count 4 _ b3
  obtain ⟨d1, d2, d3⟩ := sim_ents (intF (intF s).2).1 (countF 4 (intF (intF s).2).2).1.toNat 0 _ c3
  unfold entQ takeEnt
  refine ⟨?_, ?_, d3⟩
  · dsimp only
    rw [d1, c1, c2, b1, b2, a1, a2]
  · dsimp only
    rw [d2, c1, c2, b1, b2, a2]
def parseRes (m : Msg) (e : Int) (mm : Bool) : Msg × Int := if e = 0 ∧ mm = true then (m, 0) else (msg0, 200)
/-- what the document's reading comes to -/
theorem parseD_eq {b : List UInt8} {m : Msg} {S : St} {s : Rf} (h : readM b = (m, S)) (hs : s.st = S) (hok : s.ok) : parseRes m (endF s) (mayD m) = parseM b := by
  have hr := readM_rg b
  unfold parseRes parseM
  rw [h] at hr ⊢
  rw [mayD_eq hr, sim_end s hok, hs]
end Go.Proofs.Ytmiajenjgcdhgaa

namespace Go.Proofs.Ytmiajenjgcdhgaa
set_option linter.unusedVariables false
set_option linter.unusedSimpArgs false
open Go.RowKit
set_option maxRecDepth 100000
theorem kne {k : UInt8} {n m : Nat} (h : k.toNat = n) (hm : n ≠ m) : ((k.toNat : Int) == (m : Int)) = false := by
  rw [beq_eq_false_iff_ne]; omega
theorem keq {k : UInt8} {n : Nat} (h : k.toNat = n) : ((k.toNat : Int) == (n : Int)) = true := by
  rw [beq_iff_eq]; omega
theorem dparse1 (b : List UInt8) (k : UInt8) (s0 s1 s2 s3 s4 : Rf) (a1 a2 ee : Int) (bd : List UInt8) (mm : Bool) (hk : k.toNat = 1) (h0 : AC Try.prog 10 [bs none b] [] (fun v bs' => v = .bp 0 0 0 ∧ bs' = [fB s0])) (hb : AC Try.prog 11 [.bp 0 0 0] [fB s0] (fun v bs' => v = U k ∧ bs' = [fB s1])) (i1 : AC Try.prog 12 [.bp 0 0 0] [fB s1] (fun v bs' => v = I a1 ∧ bs' = [fB s2])) (i2 : AC Try.prog 12 [.bp 0 0 0] [fB s2] (fun v bs' => v = I a2 ∧ bs' = [fB s3]))
    (i3 : AC Try.prog 13 [.bp 0 0 0] [fB s3] (fun v bs' => v = bs none bd ∧ bs' = [fB s4])) (he : AC Try.prog 17 [.bp 0 0 0] [fB s4] (fun v bs' => v = I ee ∧ bs' = [fB s4])) (hm : AC Try.prog 18 [.ag (eG ⟨k, a1, a2, bd, 0, 0, [], 0, 0, cfg0, 0⟩)] [] (fun v bs' => v = B mm ∧ bs' = [])) : AC Try.prog 5 [bs none b] [] (fun v bs' => v = .tu [.ag (eG (parseRes ⟨k, a1, a2, bd, 0, 0, [], 0, 0, cfg0, 0⟩ ee mm).1), I (parseRes ⟨k, a1, a2, bd, 0, 0, [], 0, 0, cfg0, 0⟩ ee mm).2] ∧ bs' = []) := by
  have k1 := (show ((k.toNat : Int) == 1) = true from keq hk)
  by_cases h1 : ee = 0
  · subst h1
    have q0 : ((0 : Int) != 0) = false := rfl
    cases mm with
    | true =>
      refine AC.N Try.func5 Try.ntmps5 ?_
      intro X hρ hmks
      simp only [nx, Nat.reduceAdd, Nat.reduceSub, BEq.rfl]
      refine CP.gh gh_slot ?_; simp only [nx, Nat.reduceAdd, Nat.reduceSub, BEq.rfl]
      refine CP.gh gh_slot ?_; simp only [nx, Nat.reduceAdd, Nat.reduceSub, BEq.rfl]
      refine CP.gh gh_slot ?_; simp only [nx, Nat.reduceAdd, Nat.reduceSub, BEq.rfl]
      repeat' (first | ((first | ((with_reducible apply AP.k_any); first | refine AP.ST ?_ | (refine AP.Y ?_; dsimp only) | refine AP.G (fun hg => ?_) (fun hg => ?_) | (refine AP.V (fun c hnil => ?_); simp only [nz]) | ((with_reducible apply AP.k_any); refine AP.B 0 (i1) ?_) | ((with_reducible apply AP.k_any); refine AP.B 0 (i2) ?_) | refine AP.PF ?_) | ((with_reducible apply DW.k_any); first | refine DW.ST ?_ | ((fail_if_success refine DW.known rfl ?_); refine DW.G (fun hg => ?_) (fun hg => ?_))) | ((with_reducible apply DW.k_any); first | refine DW.R ?_ | refine DW.R' ?_ | refine DW.W ?_ | refine DW.W' ?_ | (refine DW.known rfl ?_; (with_reducible first | apply DW.sx 2 | apply DW.sxN 2); (iterate 2 (focus (simp only [ft, nm, Nat.reduceAdd, Nat.reduceBEq, List.getElem?_cons_zero, List.getElem?_cons_succ]; exact rfl))); (focus (intro X V; simp only [ft, nm, Nat.reduceAdd, Nat.reduceBEq]; (try (refine AP.Y ?_; dsimp only)); (first | ((with_reducible apply AP.k_any); refine AP.B 0 (i1) ?_) | ((with_reducible apply AP.k_any); refine AP.B 0 (i2) ?_) | fail); (try simp only [nx, Nat.reduceAdd, Nat.reduceSub, BEq.rfl]); refine AP.nil ?_; (first | refine ⟨trivial, rfl, ?_⟩ | refine ⟨rfl, rfl, ?_⟩); (repeat' (first | exact Mg.nil | apply Mg.keep rfl | apply Mg.take rfl)); done)); (focus (refine Exists.intro (fun _ => 0) ?_; apply Exists.intro; (repeat' (first | exact Mg.nil | apply Mg.keep rfl | apply Mg.take rfl)); done)); (iterate 2 (focus (exact rfl)))) | ((fail_if_success refine DW.known rfl ?_); refine DW.G (fun hg => ?_) (fun hg => ?_)))) <;> (try simp only [q0, k1, nx, mx, rn, fq, Nat.mul_one, Bool.and_true, Bool.and_false, Nat.reduceBEq, Nat.reduceAdd, Nat.reduceSub, BEq.rfl])) | ((with_reducible apply AP.k_nil); first | (refine AP.nil (hQ' _ ?_); clear hQ' Q') | refine AP.nil ?_) | ((with_reducible apply CP.k_drw); refine cp_drwX fun Q' hQ' => ?_) | ((with_reducible apply CP.k_drw1); refine cp_drawX ?_) | ((with_reducible apply DW.k_nil); refine DW.nl ?_; first | (refine hQ' _ ?_; clear hQ' Q') | skip) | ((with_reducible apply CP.k_reg); refine cp_regG fun Q' hQ' => ?_) | refine CP.W ?_ | refine cp_cond rfl (fun hc => ?_) (fun hc => ?_) | (simp only [List.append_eq, List.cons_append, List.nil_append]))
      (exact RetQ.A [] (by exact ⟨rfl, rfl⟩))
    | false =>
      refine AC.N Try.func5 Try.ntmps5 ?_
      intro X hρ hmks
      simp only [nx, Nat.reduceAdd, Nat.reduceSub, BEq.rfl]
      refine CP.gh gh_slot ?_; simp only [nx, Nat.reduceAdd, Nat.reduceSub, BEq.rfl]
      refine CP.gh gh_slot ?_; simp only [nx, Nat.reduceAdd, Nat.reduceSub, BEq.rfl]
      refine CP.gh gh_slot ?_; simp only [nx, Nat.reduceAdd, Nat.reduceSub, BEq.rfl]
      repeat' (first | ((first | ((with_reducible apply AP.k_any); first | refine AP.ST ?_ | (refine AP.Y ?_; dsimp only) | refine AP.G (fun hg => ?_) (fun hg => ?_) | (refine AP.V (fun c hnil => ?_); simp only [nz]) | ((with_reducible apply AP.k_any); refine AP.B 0 (i1) ?_) | ((with_reducible apply AP.k_any); refine AP.B 0 (i2) ?_) | refine AP.PF ?_) | ((with_reducible apply DW.k_any); first | refine DW.ST ?_ | ((fail_if_success refine DW.known rfl ?_); refine DW.G (fun hg => ?_) (fun hg => ?_))) | ((with_reducible apply DW.k_any); first | refine DW.R ?_ | refine DW.R' ?_ | refine DW.W ?_ | refine DW.W' ?_ | (refine DW.known rfl ?_; (with_reducible first | apply DW.sx 2 | apply DW.sxN 2); (iterate 2 (focus (simp only [ft, nm, Nat.reduceAdd, Nat.reduceBEq, List.getElem?_cons_zero, List.getElem?_cons_succ]; exact rfl))); (focus (intro X V; simp only [ft, nm, Nat.reduceAdd, Nat.reduceBEq]; (try (refine AP.Y ?_; dsimp only)); (first | ((with_reducible apply AP.k_any); refine AP.B 0 (i1) ?_) | ((with_reducible apply AP.k_any); refine AP.B 0 (i2) ?_) | fail); (try simp only [nx, Nat.reduceAdd, Nat.reduceSub, BEq.rfl]); refine AP.nil ?_; (first | refine ⟨trivial, rfl, ?_⟩ | refine ⟨rfl, rfl, ?_⟩); (repeat' (first | exact Mg.nil | apply Mg.keep rfl | apply Mg.take rfl)); done)); (focus (refine Exists.intro (fun _ => 0) ?_; apply Exists.intro; (repeat' (first | exact Mg.nil | apply Mg.keep rfl | apply Mg.take rfl)); done)); (iterate 2 (focus (exact rfl)))) | ((fail_if_success refine DW.known rfl ?_); refine DW.G (fun hg => ?_) (fun hg => ?_)))) <;> (try simp only [q0, k1, nx, mx, rn, fq, Nat.mul_one, Bool.and_true, Bool.and_false, Nat.reduceBEq, Nat.reduceAdd, Nat.reduceSub, BEq.rfl])) | ((with_reducible apply AP.k_nil); first | (refine AP.nil (hQ' _ ?_); clear hQ' Q') | refine AP.nil ?_) | ((with_reducible apply CP.k_drw); refine cp_drwX fun Q' hQ' => ?_) | ((with_reducible apply CP.k_drw1); refine cp_drawX ?_) | ((with_reducible apply DW.k_nil); refine DW.nl ?_; first | (refine hQ' _ ?_; clear hQ' Q') | skip) | ((with_reducible apply CP.k_reg); refine cp_regG fun Q' hQ' => ?_) | refine CP.W ?_ | refine cp_cond rfl (fun hc => ?_) (fun hc => ?_) | (simp only [List.append_eq, List.cons_append, List.nil_append]))
      (exact RetQ.A [] (by exact ⟨rfl, rfl⟩))
  · have q0 : (ee != 0) = true := by simpa using h1
    have e : ∀ m, parseRes m ee mm = (msg0, 200) := fun m => if_neg fun h => h1 h.1
    rw [e]
    refine AC.N Try.func5 Try.ntmps5 ?_
    intro X hρ hmks
    simp only [nx, Nat.reduceAdd, Nat.reduceSub, BEq.rfl]
    refine CP.gh gh_slot ?_; simp only [nx, Nat.reduceAdd, Nat.reduceSub, BEq.rfl]
    refine CP.gh gh_slot ?_; simp only [nx, Nat.reduceAdd, Nat.reduceSub, BEq.rfl]
    refine CP.gh gh_slot ?_; simp only [nx, Nat.reduceAdd, Nat.reduceSub, BEq.rfl]
    repeat' (first | ((first | ((with_reducible apply AP.k_any); first | refine AP.ST ?_ | (refine AP.Y ?_; dsimp only) | refine AP.G (fun hg => ?_) (fun hg => ?_) | (refine AP.V (fun c hnil => ?_); simp only [nz]) | ((with_reducible apply AP.k_any); refine AP.B 0 (i1) ?_) | ((with_reducible apply AP.k_any); refine AP.B 0 (i2) ?_) | refine AP.PF ?_) | ((with_reducible apply DW.k_any); first | refine DW.ST ?_ | ((fail_if_success refine DW.known rfl ?_); refine DW.G (fun hg => ?_) (fun hg => ?_))) | ((with_reducible apply DW.k_any); first | refine DW.R ?_ | refine DW.R' ?_ | refine DW.W ?_ | refine DW.W' ?_ | (refine DW.known rfl ?_; (with_reducible first | apply DW.sx 2 | apply DW.sxN 2); (iterate 2 (focus (simp only [ft, nm, Nat.reduceAdd, Nat.reduceBEq, List.getElem?_cons_zero, List.getElem?_cons_succ]; exact rfl))); (focus (intro X V; simp only [ft, nm, Nat.reduceAdd, Nat.reduceBEq]; (try (refine AP.Y ?_; dsimp only)); (first | ((with_reducible apply AP.k_any); refine AP.B 0 (i1) ?_) | ((with_reducible apply AP.k_any); refine AP.B 0 (i2) ?_) | fail); (try simp only [nx, Nat.reduceAdd, Nat.reduceSub, BEq.rfl]); refine AP.nil ?_; (first | refine ⟨trivial, rfl, ?_⟩ | refine ⟨rfl, rfl, ?_⟩); (repeat' (first | exact Mg.nil | apply Mg.keep rfl | apply Mg.take rfl)); done)); (focus (refine Exists.intro (fun _ => 0) ?_; apply Exists.intro; (repeat' (first | exact Mg.nil | apply Mg.keep rfl | apply Mg.take rfl)); done)); (iterate 2 (focus (exact rfl)))) | ((fail_if_success refine DW.known rfl ?_); refine DW.G (fun hg => ?_) (fun hg => ?_)))) <;> (try simp only [q0, k1, nx, mx, rn, fq, Nat.mul_one, Bool.and_true, Bool.and_false, Nat.reduceBEq, Nat.reduceAdd, Nat.reduceSub, BEq.rfl])) | ((with_reducible apply AP.k_nil); first | (refine AP.nil (hQ' _ ?_); clear hQ' Q') | refine AP.nil ?_) | ((with_reducible apply CP.k_drw); refine cp_drwX fun Q' hQ' => ?_) | ((with_reducible apply CP.k_drw1); refine cp_drawX ?_) | ((with_reducible apply DW.k_nil); refine DW.nl ?_; first | (refine hQ' _ ?_; clear hQ' Q') | skip) | ((with_reducible apply CP.k_reg); refine cp_regG fun Q' hQ' => ?_) | refine CP.W ?_ | refine cp_cond rfl (fun hc => ?_) (fun hc => ?_) | (simp only [List.append_eq, List.cons_append, List.nil_append]))
    (exact RetQ.A [] (by exact ⟨rfl, rfl⟩))
theorem dparse6 (b : List UInt8) (k : UInt8) (s0 s1 s2 s3 s4 : Rf) (a1 a2 ee : Int) (bd : List UInt8) (mm : Bool) (hk : k.toNat = 6) (h0 : AC Try.prog 10 [bs none b] [] (fun v bs' => v = .bp 0 0 0 ∧ bs' = [fB s0])) (hb : AC Try.prog 11 [.bp 0 0 0] [fB s0] (fun v bs' => v = U k ∧ bs' = [fB s1])) (i1 : AC Try.prog 12 [.bp 0 0 0] [fB s1] (fun v bs' => v = I a1 ∧ bs' = [fB s2])) (i2 : AC Try.prog 12 [.bp 0 0 0] [fB s2] (fun v bs' => v = I a2 ∧ bs' = [fB s3]))
    (i3 : AC Try.prog 13 [.bp 0 0 0] [fB s3] (fun v bs' => v = bs none bd ∧ bs' = [fB s4])) (he : AC Try.prog 17 [.bp 0 0 0] [fB s4] (fun v bs' => v = I ee ∧ bs' = [fB s4])) (hm : AC Try.prog 18 [.ag (eG ⟨k, a1, a2, bd, 0, 0, [], 0, 0, cfg0, 0⟩)] [] (fun v bs' => v = B mm ∧ bs' = [])) : AC Try.prog 5 [bs none b] [] (fun v bs' => v = .tu [.ag (eG (parseRes ⟨k, a1, a2, bd, 0, 0, [], 0, 0, cfg0, 0⟩ ee mm).1), I (parseRes ⟨k, a1, a2, bd, 0, 0, [], 0, 0, cfg0, 0⟩ ee mm).2] ∧ bs' = []) := by
  have k1 := (show ((k.toNat : Int) == 1) = false from kne (m := 1) hk (by decide))
  have k6 := (show ((k.toNat : Int) == 6) = true from keq hk)
  by_cases h1 : ee = 0
  · subst h1
    have q0 : ((0 : Int) != 0) = false := rfl
    cases mm with
    | true =>
      refine AC.N Try.func5 Try.ntmps5 ?_
      intro X hρ hmks
      simp only [nx, Nat.reduceAdd, Nat.reduceSub, BEq.rfl]
      refine CP.gh gh_slot ?_; simp only [nx, Nat.reduceAdd, Nat.reduceSub, BEq.rfl]
      refine CP.gh gh_slot ?_; simp only [nx, Nat.reduceAdd, Nat.reduceSub, BEq.rfl]
      refine CP.gh gh_slot ?_; simp only [nx, Nat.reduceAdd, Nat.reduceSub, BEq.rfl]
      repeat' (first | ((first | ((with_reducible apply AP.k_any); first | refine AP.ST ?_ | (refine AP.Y ?_; dsimp only) | refine AP.G (fun hg => ?_) (fun hg => ?_) | (refine AP.V (fun c hnil => ?_); simp only [nz]) | ((with_reducible apply AP.k_any); refine AP.B 0 (i1) ?_) | ((with_reducible apply AP.k_any); refine AP.B 0 (i2) ?_) | refine AP.PF ?_) | ((with_reducible apply DW.k_any); first | refine DW.ST ?_ | ((fail_if_success refine DW.known rfl ?_); refine DW.G (fun hg => ?_) (fun hg => ?_))) | ((with_reducible apply DW.k_any); first | refine DW.R ?_ | refine DW.R' ?_ | refine DW.W ?_ | refine DW.W' ?_ | (refine DW.known rfl ?_; (with_reducible first | apply DW.sx 2 | apply DW.sxN 2); (iterate 2 (focus (simp only [ft, nm, Nat.reduceAdd, Nat.reduceBEq, List.getElem?_cons_zero, List.getElem?_cons_succ]; exact rfl))); (focus (intro X V; simp only [ft, nm, Nat.reduceAdd, Nat.reduceBEq]; (try (refine AP.Y ?_; dsimp only)); (first | ((with_reducible apply AP.k_any); refine AP.B 0 (i1) ?_) | ((with_reducible apply AP.k_any); refine AP.B 0 (i2) ?_) | fail); (try simp only [nx, Nat.reduceAdd, Nat.reduceSub, BEq.rfl]); refine AP.nil ?_; (first | refine ⟨trivial, rfl, ?_⟩ | refine ⟨rfl, rfl, ?_⟩); (repeat' (first | exact Mg.nil | apply Mg.keep rfl | apply Mg.take rfl)); done)); (focus (refine Exists.intro (fun _ => 0) ?_; apply Exists.intro; (repeat' (first | exact Mg.nil | apply Mg.keep rfl | apply Mg.take rfl)); done)); (iterate 2 (focus (exact rfl)))) | ((fail_if_success refine DW.known rfl ?_); refine DW.G (fun hg => ?_) (fun hg => ?_)))) <;> (try simp only [q0, k1, k6, nx, mx, rn, fq, Nat.mul_one, Bool.and_true, Bool.and_false, Nat.reduceBEq, Nat.reduceAdd, Nat.reduceSub, BEq.rfl])) | ((with_reducible apply AP.k_nil); first | (refine AP.nil (hQ' _ ?_); clear hQ' Q') | refine AP.nil ?_) | ((with_reducible apply CP.k_drw); refine cp_drwX fun Q' hQ' => ?_) | ((with_reducible apply CP.k_drw1); refine cp_drawX ?_) | ((with_reducible apply DW.k_nil); refine DW.nl ?_; first | (refine hQ' _ ?_; clear hQ' Q') | skip) | ((with_reducible apply CP.k_reg); refine cp_regG fun Q' hQ' => ?_) | refine CP.W ?_ | refine cp_cond rfl (fun hc => ?_) (fun hc => ?_) | (simp only [List.append_eq, List.cons_append, List.nil_append]))
      (exact RetQ.A [] (by exact ⟨rfl, rfl⟩))
    | false =>
      refine AC.N Try.func5 Try.ntmps5 ?_
      intro X hρ hmks
      simp only [nx, Nat.reduceAdd, Nat.reduceSub, BEq.rfl]
      refine CP.gh gh_slot ?_; simp only [nx, Nat.reduceAdd, Nat.reduceSub, BEq.rfl]
      refine CP.gh gh_slot ?_; simp only [nx, Nat.reduceAdd, Nat.reduceSub, BEq.rfl]
      refine CP.gh gh_slot ?_; simp only [nx, Nat.reduceAdd, Nat.reduceSub, BEq.rfl]
      repeat' (first | ((first | ((with_reducible apply AP.k_any); first | refine AP.ST ?_ | (refine AP.Y ?_; dsimp only) | refine AP.G (fun hg => ?_) (fun hg => ?_) | (refine AP.V (fun c hnil => ?_); simp only [nz]) | ((with_reducible apply AP.k_any); refine AP.B 0 (i1) ?_) | ((with_reducible apply AP.k_any); refine AP.B 0 (i2) ?_) | refine AP.PF ?_) | ((with_reducible apply DW.k_any); first | refine DW.ST ?_ | ((fail_if_success refine DW.known rfl ?_); refine DW.G (fun hg => ?_) (fun hg => ?_))) | ((with_reducible apply DW.k_any); first | refine DW.R ?_ | refine DW.R' ?_ | refine DW.W ?_ | refine DW.W' ?_ | (refine DW.known rfl ?_; (with_reducible first | apply DW.sx 2 | apply DW.sxN 2); (iterate 2 (focus (simp only [ft, nm, Nat.reduceAdd, Nat.reduceBEq, List.getElem?_cons_zero, List.getElem?_cons_succ]; exact rfl))); (focus (intro X V; simp only [ft, nm, Nat.reduceAdd, Nat.reduceBEq]; (try (refine AP.Y ?_; dsimp only)); (first | ((with_reducible apply AP.k_any); refine AP.B 0 (i1) ?_) | ((with_reducible apply AP.k_any); refine AP.B 0 (i2) ?_) | fail); (try simp only [nx, Nat.reduceAdd, Nat.reduceSub, BEq.rfl]); refine AP.nil ?_; (first | refine ⟨trivial, rfl, ?_⟩ | refine ⟨rfl, rfl, ?_⟩); (repeat' (first | exact Mg.nil | apply Mg.keep rfl | apply Mg.take rfl)); done)); (focus (refine Exists.intro (fun _ => 0) ?_; apply Exists.intro; (repeat' (first | exact Mg.nil | apply Mg.keep rfl | apply Mg.take rfl)); done)); (iterate 2 (focus (exact rfl)))) | ((fail_if_success refine DW.known rfl ?_); refine DW.G (fun hg => ?_) (fun hg => ?_)))) <;> (try simp only [q0, k1, k6, nx, mx, rn, fq, Nat.mul_one, Bool.and_true, Bool.and_false, Nat.reduceBEq, Nat.reduceAdd, Nat.reduceSub, BEq.rfl])) | ((with_reducible apply AP.k_nil); first | (refine AP.nil (hQ' _ ?_); clear hQ' Q') | refine AP.nil ?_) | ((with_reducible apply CP.k_drw); refine cp_drwX fun Q' hQ' => ?_) | ((with_reducible apply CP.k_drw1); refine cp_drawX ?_) | ((with_reducible apply DW.k_nil); refine DW.nl ?_; first | (refine hQ' _ ?_; clear hQ' Q') | skip) | ((with_reducible apply CP.k_reg); refine cp_regG fun Q' hQ' => ?_) | refine CP.W ?_ | refine cp_cond rfl (fun hc => ?_) (fun hc => ?_) | (simp only [List.append_eq, List.cons_append, List.nil_append]))
      (exact RetQ.A [] (by exact ⟨rfl, rfl⟩))
  · have q0 : (ee != 0) = true := by simpa using h1
    have e : ∀ m, parseRes m ee mm = (msg0, 200) := fun m => if_neg fun h => h1 h.1
    rw [e]
    refine AC.N Try.func5 Try.ntmps5 ?_
    intro X hρ hmks
    simp only [nx, Nat.reduceAdd, Nat.reduceSub, BEq.rfl]
    refine CP.gh gh_slot ?_; simp only [nx, Nat.reduceAdd, Nat.reduceSub, BEq.rfl]
    refine CP.gh gh_slot ?_; simp only [nx, Nat.reduceAdd, Nat.reduceSub, BEq.rfl]
    refine CP.gh gh_slot ?_; simp only [nx, Nat.reduceAdd, Nat.reduceSub, BEq.rfl]
    repeat' (first | ((first | ((with_reducible apply AP.k_any); first | refine AP.ST ?_ | (refine AP.Y ?_; dsimp only) | refine AP.G (fun hg => ?_) (fun hg => ?_) | (refine AP.V (fun c hnil => ?_); simp only [nz]) | ((with_reducible apply AP.k_any); refine AP.B 0 (i1) ?_) | ((with_reducible apply AP.k_any); refine AP.B 0 (i2) ?_) | refine AP.PF ?_) | ((with_reducible apply DW.k_any); first | refine DW.ST ?_ | ((fail_if_success refine DW.known rfl ?_); refine DW.G (fun hg => ?_) (fun hg => ?_))) | ((with_reducible apply DW.k_any); first | refine DW.R ?_ | refine DW.R' ?_ | refine DW.W ?_ | refine DW.W' ?_ | (refine DW.known rfl ?_; (with_reducible first | apply DW.sx 2 | apply DW.sxN 2); (iterate 2 (focus (simp only [ft, nm, Nat.reduceAdd, Nat.reduceBEq, List.getElem?_cons_zero, List.getElem?_cons_succ]; exact rfl))); (focus (intro X V; simp only [ft, nm, Nat.reduceAdd, Nat.reduceBEq]; (try (refine AP.Y ?_; dsimp only)); (first | ((with_reducible apply AP.k_any); refine AP.B 0 (i1) ?_) | ((with_reducible apply AP.k_any); refine AP.B 0 (i2) ?_) | fail); (try simp only [nx, Nat.reduceAdd, Nat.reduceSub, BEq.rfl]); refine AP.nil ?_; (first | refine ⟨trivial, rfl, ?_⟩ | refine ⟨rfl, rfl, ?_⟩); (repeat' (first | exact Mg.nil | apply Mg.keep rfl | apply Mg.take rfl)); done)); (focus (refine Exists.intro (fun _ => 0) ?_; apply Exists.intro; (repeat' (first | exact Mg.nil | apply Mg.keep rfl | apply Mg.take rfl)); done)); (iterate 2 (focus (exact rfl)))) | ((fail_if_success refine DW.known rfl ?_); refine DW.G (fun hg => ?_) (fun hg => ?_)))) <;> (try simp only [q0, k1, k6, nx, mx, rn, fq, Nat.mul_one, Bool.and_true, Bool.and_false, Nat.reduceBEq, Nat.reduceAdd, Nat.reduceSub, BEq.rfl])) | ((with_reducible apply AP.k_nil); first | (refine AP.nil (hQ' _ ?_); clear hQ' Q') | refine AP.nil ?_) | ((with_reducible apply CP.k_drw); refine cp_drwX fun Q' hQ' => ?_) | ((with_reducible apply CP.k_drw1); refine cp_drawX ?_) | ((with_reducible apply DW.k_nil); refine DW.nl ?_; first | (refine hQ' _ ?_; clear hQ' Q') | skip) | ((with_reducible apply CP.k_reg); refine cp_regG fun Q' hQ' => ?_) | refine CP.W ?_ | refine cp_cond rfl (fun hc => ?_) (fun hc => ?_) | (simp only [List.append_eq, List.cons_append, List.nil_append]))
    (exact RetQ.A [] (by exact ⟨rfl, rfl⟩))
theorem dparse3 (b : List UInt8) (k : UInt8) (s0 s1 s2 s3 : Rf) (a1 a2 ee : Int) (mm : Bool) (hk : k.toNat = 3) (h0 : AC Try.prog 10 [bs none b] [] (fun v bs' => v = .bp 0 0 0 ∧ bs' = [fB s0])) (hb : AC Try.prog 11 [.bp 0 0 0] [fB s0] (fun v bs' => v = U k ∧ bs' = [fB s1])) (i1 : AC Try.prog 12 [.bp 0 0 0] [fB s1] (fun v bs' => v = I a1 ∧ bs' = [fB s2])) (i2 : AC Try.prog 12 [.bp 0 0 0] [fB s2] (fun v bs' => v = I a2 ∧ bs' = [fB s3])) (he : AC Try.prog 17 [.bp 0 0 0] [fB s3] (fun v bs' => v = I ee ∧ bs' = [fB s3])) (hm : AC Try.prog 18 [.ag (eG ⟨k, 0, 0, [], 0, 0, [], a1, a2, cfg0, 0⟩)] [] (fun v bs' => v = B mm ∧ bs' = [])) : AC Try.prog 5 [bs none b] [] (fun v bs' => v = .tu [.ag (eG (parseRes ⟨k, 0, 0, [], 0, 0, [], a1, a2, cfg0, 0⟩ ee mm).1), I (parseRes ⟨k, 0, 0, [], 0, 0, [], a1, a2, cfg0, 0⟩ ee mm).2] ∧ bs' = []) := by
  have k1 := (show ((k.toNat : Int) == 1) = false from kne (m := 1) hk (by decide))
  have k6 := (show ((k.toNat : Int) == 6) = false from kne (m := 6) hk (by decide))
  have k2 := (show ((k.toNat : Int) == 2) = false from kne (m := 2) hk (by decide))
  have k3 := (show ((k.toNat : Int) == 3) = true from keq hk)
  by_cases h1 : ee = 0
  · subst h1
    have q0 : ((0 : Int) != 0) = false := rfl
    cases mm with
    | true =>
      refine AC.N Try.func5 Try.ntmps5 ?_
      intro X hρ hmks
      simp only [nx, Nat.reduceAdd, Nat.reduceSub, BEq.rfl]
      refine CP.gh gh_slot ?_; simp only [nx, Nat.reduceAdd, Nat.reduceSub, BEq.rfl]
      refine CP.gh gh_slot ?_; simp only [nx, Nat.reduceAdd, Nat.reduceSub, BEq.rfl]
      refine CP.gh gh_slot ?_; simp only [nx, Nat.reduceAdd, Nat.reduceSub, BEq.rfl]
      repeat' (first | ((first | ((with_reducible apply AP.k_any); first | refine AP.ST ?_ | (refine AP.Y ?_; dsimp only) | refine AP.G (fun hg => ?_) (fun hg => ?_) | (refine AP.V (fun c hnil => ?_); simp only [nz]) | ((with_reducible apply AP.k_any); refine AP.B 0 (i1) ?_) | ((with_reducible apply AP.k_any); refine AP.B 0 (i2) ?_) | refine AP.PF ?_) | ((with_reducible apply DW.k_any); first | refine DW.ST ?_ | ((fail_if_success refine DW.known rfl ?_); refine DW.G (fun hg => ?_) (fun hg => ?_))) | ((with_reducible apply DW.k_any); first | refine DW.R ?_ | refine DW.R' ?_ | refine DW.W ?_ | refine DW.W' ?_ | (refine DW.known rfl ?_; (with_reducible first | apply DW.sx 2 | apply DW.sxN 2); (iterate 2 (focus (simp only [ft, nm, Nat.reduceAdd, Nat.reduceBEq, List.getElem?_cons_zero, List.getElem?_cons_succ]; exact rfl))); (focus (intro X V; simp only [ft, nm, Nat.reduceAdd, Nat.reduceBEq]; (try (refine AP.Y ?_; dsimp only)); (first | ((with_reducible apply AP.k_any); refine AP.B 0 (i1) ?_) | ((with_reducible apply AP.k_any); refine AP.B 0 (i2) ?_) | fail); (try simp only [nx, Nat.reduceAdd, Nat.reduceSub, BEq.rfl]); refine AP.nil ?_; (first | refine ⟨trivial, rfl, ?_⟩ | refine ⟨rfl, rfl, ?_⟩); (repeat' (first | exact Mg.nil | apply Mg.keep rfl | apply Mg.take rfl)); done)); (focus (refine Exists.intro (fun _ => 0) ?_; apply Exists.intro; (repeat' (first | exact Mg.nil | apply Mg.keep rfl | apply Mg.take rfl)); done)); (iterate 2 (focus (exact rfl)))) | ((fail_if_success refine DW.known rfl ?_); refine DW.G (fun hg => ?_) (fun hg => ?_)))) <;> (try simp only [q0, k1, k6, k2, k3, nx, mx, rn, fq, Nat.mul_one, Bool.and_true, Bool.and_false, Nat.reduceBEq, Nat.reduceAdd, Nat.reduceSub, BEq.rfl])) | ((with_reducible apply AP.k_nil); first | (refine AP.nil (hQ' _ ?_); clear hQ' Q') | refine AP.nil ?_) | ((with_reducible apply CP.k_drw); refine cp_drwX fun Q' hQ' => ?_) | ((with_reducible apply CP.k_drw1); refine cp_drawX ?_) | ((with_reducible apply DW.k_nil); refine DW.nl ?_; first | (refine hQ' _ ?_; clear hQ' Q') | skip) | ((with_reducible apply CP.k_reg); refine cp_regG fun Q' hQ' => ?_) | refine CP.W ?_ | refine cp_cond rfl (fun hc => ?_) (fun hc => ?_) | (simp only [List.append_eq, List.cons_append, List.nil_append]))
      (exact RetQ.A [] (by exact ⟨rfl, rfl⟩))
    | false =>
      refine AC.N Try.func5 Try.ntmps5 ?_
      intro X hρ hmks
      simp only [nx, Nat.reduceAdd, Nat.reduceSub, BEq.rfl]
      refine CP.gh gh_slot ?_; simp only [nx, Nat.reduceAdd, Nat.reduceSub, BEq.rfl]
      refine CP.gh gh_slot ?_; simp only [nx, Nat.reduceAdd, Nat.reduceSub, BEq.rfl]
      refine CP.gh gh_slot ?_; simp only [nx, Nat.reduceAdd, Nat.reduceSub, BEq.rfl]
      repeat' (first | ((first | ((with_reducible apply AP.k_any); first | refine AP.ST ?_ | (refine AP.Y ?_; dsimp only) | refine AP.G (fun hg => ?_) (fun hg => ?_) | (refine AP.V (fun c hnil => ?_); simp only [nz]) | ((with_reducible apply AP.k_any); refine AP.B 0 (i1) ?_) | ((with_reducible apply AP.k_any); refine AP.B 0 (i2) ?_) | refine AP.PF ?_) | ((with_reducible apply DW.k_any); first | refine DW.ST ?_ | ((fail_if_success refine DW.known rfl ?_); refine DW.G (fun hg => ?_) (fun hg => ?_))) | ((with_reducible apply DW.k_any); first | refine DW.R ?_ | refine DW.R' ?_ | refine DW.W ?_ | refine DW.W' ?_ | (refine DW.known rfl ?_; (with_reducible first | apply DW.sx 2 | apply DW.sxN 2); (iterate 2 (focus (simp only [ft, nm, Nat.reduceAdd, Nat.reduceBEq, List.getElem?_cons_zero, List.getElem?_cons_succ]; exact rfl))); (focus (intro X V; simp only [ft, nm, Nat.reduceAdd, Nat.reduceBEq]; (try (refine AP.Y ?_; dsimp only)); (first | ((with_reducible apply AP.k_any); refine AP.B 0 (i1) ?_) | ((with_reducible apply AP.k_any); refine AP.B 0 (i2) ?_) | fail); (try simp only [nx, Nat.reduceAdd, Nat.reduceSub, BEq.rfl]); refine AP.nil ?_; (first | refine ⟨trivial, rfl, ?_⟩ | refine ⟨rfl, rfl, ?_⟩); (repeat' (first | exact Mg.nil | apply Mg.keep rfl | apply Mg.take rfl)); done)); (focus (refine Exists.intro (fun _ => 0) ?_; apply Exists.intro; (repeat' (first | exact Mg.nil | apply Mg.keep rfl | apply Mg.take rfl)); done)); (iterate 2 (focus (exact rfl)))) | ((fail_if_success refine DW.known rfl ?_); refine DW.G (fun hg => ?_) (fun hg => ?_)))) <;> (try simp only [q0, k1, k6, k2, k3, nx, mx, rn, fq, Nat.mul_one, Bool.and_true, Bool.and_false, Nat.reduceBEq, Nat.reduceAdd, Nat.reduceSub, BEq.rfl])) | ((with_reducible apply AP.k_nil); first | (refine AP.nil (hQ' _ ?_); clear hQ' Q') | refine AP.nil ?_) | ((with_reducible apply CP.k_drw); refine cp_drwX fun Q' hQ' => ?_) | ((with_reducible apply CP.k_drw1); refine cp_drawX ?_) | ((with_reducible apply DW.k_nil); refine DW.nl ?_; first | (refine hQ' _ ?_; clear hQ' Q') | skip) | ((with_reducible apply CP.k_reg); refine cp_regG fun Q' hQ' => ?_) | refine CP.W ?_ | refine cp_cond rfl (fun hc => ?_) (fun hc => ?_) | (simp only [List.append_eq, List.cons_append, List.nil_append]))
      (exact RetQ.A [] (by exact ⟨rfl, rfl⟩))
  · have q0 : (ee != 0) = true := by simpa using h1
    have e : ∀ m, parseRes m ee mm = (msg0, 200) := fun m => if_neg fun h => h1 h.1
    rw [e]
    refine AC.N Try.func5 Try.ntmps5 ?_
    intro X hρ hmks
    simp only [nx, Nat.reduceAdd, Nat.reduceSub, BEq.rfl]
    refine CP.gh gh_slot ?_; simp only [nx, Nat.reduceAdd, Nat.reduceSub, BEq.rfl]
    refine CP.gh gh_slot ?_; simp only [nx, Nat.reduceAdd, Nat.reduceSub, BEq.rfl]
    refine CP.gh gh_slot ?_; simp only [nx, Nat.reduceAdd, Nat.reduceSub, BEq.rfl]
    repeat' (first | ((first | ((with_reducible apply AP.k_any); first | refine AP.ST ?_ | (refine AP.Y ?_; dsimp only) | refine AP.G (fun hg => ?_) (fun hg => ?_) | (refine AP.V (fun c hnil => ?_); simp only [nz]) | ((with_reducible apply AP.k_any); refine AP.B 0 (i1) ?_) | ((with_reducible apply AP.k_any); refine AP.B 0 (i2) ?_) | refine AP.PF ?_) | ((with_reducible apply DW.k_any); first | refine DW.ST ?_ | ((fail_if_success refine DW.known rfl ?_); refine DW.G (fun hg => ?_) (fun hg => ?_))) | ((with_reducible apply DW.k_any); first | refine DW.R ?_ | refine DW.R' ?_ | refine DW.W ?_ | refine DW.W' ?_ | (refine DW.known rfl ?_; (with_reducible first | apply DW.sx 2 | apply DW.sxN 2); (iterate 2 (focus (simp only [ft, nm, Nat.reduceAdd, Nat.reduceBEq, List.getElem?_cons_zero, List.getElem?_cons_succ]; exact rfl))); (focus (intro X V; simp only [ft, nm, Nat.reduceAdd, Nat.reduceBEq]; (try (refine AP.Y ?_; dsimp only)); (first | ((with_reducible apply AP.k_any); refine AP.B 0 (i1) ?_) | ((with_reducible apply AP.k_any); refine AP.B 0 (i2) ?_) | fail); (try simp only [nx, Nat.reduceAdd, Nat.reduceSub, BEq.rfl]); refine AP.nil ?_; (first | refine ⟨trivial, rfl, ?_⟩ | refine ⟨rfl, rfl, ?_⟩); (repeat' (first | exact Mg.nil | apply Mg.keep rfl | apply Mg.take rfl)); done)); (focus (refine Exists.intro (fun _ => 0) ?_; apply Exists.intro; (repeat' (first | exact Mg.nil | apply Mg.keep rfl | apply Mg.take rfl)); done)); (iterate 2 (focus (exact rfl)))) | ((fail_if_success refine DW.known rfl ?_); refine DW.G (fun hg => ?_) (fun hg => ?_)))) <;> (try simp only [q0, k1, k6, k2, k3, nx, mx, rn, fq, Nat.mul_one, Bool.and_true, Bool.and_false, Nat.reduceBEq, Nat.reduceAdd, Nat.reduceSub, BEq.rfl])) | ((with_reducible apply AP.k_nil); first | (refine AP.nil (hQ' _ ?_); clear hQ' Q') | refine AP.nil ?_) | ((with_reducible apply CP.k_drw); refine cp_drwX fun Q' hQ' => ?_) | ((with_reducible apply CP.k_drw1); refine cp_drawX ?_) | ((with_reducible apply DW.k_nil); refine DW.nl ?_; first | (refine hQ' _ ?_; clear hQ' Q') | skip) | ((with_reducible apply CP.k_reg); refine cp_regG fun Q' hQ' => ?_) | refine CP.W ?_ | refine cp_cond rfl (fun hc => ?_) (fun hc => ?_) | (simp only [List.append_eq, List.cons_append, List.nil_append]))
    (exact RetQ.A [] (by exact ⟨rfl, rfl⟩))
theorem dparse4 (b : List UInt8) (k : UInt8) (s0 s1 s2 : Rf) (c : Config) (ee : Int) (mm : Bool) (hk : k.toNat = 4) (h0 : AC Try.prog 10 [bs none b] [] (fun v bs' => v = .bp 0 0 0 ∧ bs' = [fB s0])) (hb : AC Try.prog 11 [.bp 0 0 0] [fB s0] (fun v bs' => v = U k ∧ bs' = [fB s1]))
    (i1 : AC Try.prog 16 [.bp 0 0 0] [fB s1] (fun v bs' => v = .ag (eC none c) ∧ bs' = [fB s2])) (he : AC Try.prog 17 [.bp 0 0 0] [fB s2] (fun v bs' => v = I ee ∧ bs' = [fB s2])) (hm : AC Try.prog 18 [.ag (eG ⟨k, 0, 0, [], 0, 0, [], 0, 0, c, 0⟩)] [] (fun v bs' => v = B mm ∧ bs' = [])) : AC Try.prog 5 [bs none b] [] (fun v bs' => v = .tu [.ag (eG (parseRes ⟨k, 0, 0, [], 0, 0, [], 0, 0, c, 0⟩ ee mm).1), I (parseRes ⟨k, 0, 0, [], 0, 0, [], 0, 0, c, 0⟩ ee mm).2] ∧ bs' = []) := by
  have k1 := (show ((k.toNat : Int) == 1) = false from kne (m := 1) hk (by decide))
  have k6 := (show ((k.toNat : Int) == 6) = false from kne (m := 6) hk (by decide))
  have k2 := (show ((k.toNat : Int) == 2) = false from kne (m := 2) hk (by decide))
  have k3 := (show ((k.toNat : Int) == 3) = false from kne (m := 3) hk (by decide))
  have k4 := (show ((k.toNat : Int) == 4) = true from keq hk)
  by_cases h1 : ee = 0
  · subst h1
    have q0 : ((0 : Int) != 0) = false := rfl
    cases mm with
    | true =>
      refine AC.N Try.func5 Try.ntmps5 ?_
      intro X hρ hmks
      simp only [nx, Nat.reduceAdd, Nat.reduceSub, BEq.rfl]
      refine CP.gh gh_slot ?_; simp only [nx, Nat.reduceAdd, Nat.reduceSub, BEq.rfl]
      refine CP.gh gh_slot ?_; simp only [nx, Nat.reduceAdd, Nat.reduceSub, BEq.rfl]
      refine CP.gh gh_slot ?_; simp only [nx, Nat.reduceAdd, Nat.reduceSub, BEq.rfl]
      repeat' (first | ((first | ((with_reducible apply AP.k_any); first | refine AP.ST ?_ | (refine AP.Y ?_; dsimp only) | refine AP.G (fun hg => ?_) (fun hg => ?_) | (refine AP.V (fun c hnil => ?_); simp only [nz])  | refine AP.PF ?_) | ((with_reducible apply DW.k_any); first | refine DW.ST ?_ | ((fail_if_success refine DW.known rfl ?_); refine DW.G (fun hg => ?_) (fun hg => ?_))) ) <;> (try simp only [q0, k1, k6, k2, k3, k4, nx, mx, rn, fq, Nat.mul_one, Bool.and_true, Bool.and_false, Nat.reduceBEq, Nat.reduceAdd, Nat.reduceSub, BEq.rfl])) | ((with_reducible apply AP.k_nil); first | (refine AP.nil (hQ' _ ?_); clear hQ' Q') | refine AP.nil ?_) | ((with_reducible apply CP.k_drw); refine cp_drwX fun Q' hQ' => ?_) | ((with_reducible apply CP.k_drw1); refine cp_drawX ?_) | ((with_reducible apply DW.k_nil); refine DW.nl ?_; first | (refine hQ' _ ?_; clear hQ' Q') | skip) | ((with_reducible apply CP.k_reg); refine cp_regG fun Q' hQ' => ?_) | refine CP.W ?_ | refine cp_cond rfl (fun hc => ?_) (fun hc => ?_) | (simp only [List.append_eq, List.cons_append, List.nil_append]))
      (exact RetQ.A [] (by exact ⟨rfl, rfl⟩))
    | false =>
      refine AC.N Try.func5 Try.ntmps5 ?_
      intro X hρ hmks
      simp only [nx, Nat.reduceAdd, Nat.reduceSub, BEq.rfl]
      refine CP.gh gh_slot ?_; simp only [nx, Nat.reduceAdd, Nat.reduceSub, BEq.rfl]
      refine CP.gh gh_slot ?_; simp only [nx, Nat.reduceAdd, Nat.reduceSub, BEq.rfl]
      refine CP.gh gh_slot ?_; simp only [nx, Nat.reduceAdd, Nat.reduceSub, BEq.rfl]
      repeat' (first | ((first | ((with_reducible apply AP.k_any); first | refine AP.ST ?_ | (refine AP.Y ?_; dsimp only) | refine AP.G (fun hg => ?_) (fun hg => ?_) | (refine AP.V (fun c hnil => ?_); simp only [nz])  | refine AP.PF ?_) | ((with_reducible apply DW.k_any); first | refine DW.ST ?_ | ((fail_if_success refine DW.known rfl ?_); refine DW.G (fun hg => ?_) (fun hg => ?_))) ) <;> (try simp only [q0, k1, k6, k2, k3, k4, nx, mx, rn, fq, Nat.mul_one, Bool.and_true, Bool.and_false, Nat.reduceBEq, Nat.reduceAdd, Nat.reduceSub, BEq.rfl])) | ((with_reducible apply AP.k_nil); first | (refine AP.nil (hQ' _ ?_); clear hQ' Q') | refine AP.nil ?_) | ((with_reducible apply CP.k_drw); refine cp_drwX fun Q' hQ' => ?_) | ((with_reducible apply CP.k_drw1); refine cp_drawX ?_) | ((with_reducible apply DW.k_nil); refine DW.nl ?_; first | (refine hQ' _ ?_; clear hQ' Q') | skip) | ((with_reducible apply CP.k_reg); refine cp_regG fun Q' hQ' => ?_) | refine CP.W ?_ | refine cp_cond rfl (fun hc => ?_) (fun hc => ?_) | (simp only [List.append_eq, List.cons_append, List.nil_append]))
      (exact RetQ.A [] (by exact ⟨rfl, rfl⟩))
  · have q0 : (ee != 0) = true := by simpa using h1
    have e : ∀ m, parseRes m ee mm = (msg0, 200) := fun m => if_neg fun h => h1 h.1
    rw [e]
    refine AC.N Try.func5 Try.ntmps5 ?_
    intro X hρ hmks
    simp only [nx, Nat.reduceAdd, Nat.reduceSub, BEq.rfl]
    refine CP.gh gh_slot ?_; simp only [nx, Nat.reduceAdd, Nat.reduceSub, BEq.rfl]
    refine CP.gh gh_slot ?_; simp only [nx, Nat.reduceAdd, Nat.reduceSub, BEq.rfl]
    refine CP.gh gh_slot ?_; simp only [nx, Nat.reduceAdd, Nat.reduceSub, BEq.rfl]
    repeat' (first | ((first | ((with_reducible apply AP.k_any); first | refine AP.ST ?_ | (refine AP.Y ?_; dsimp only) | refine AP.G (fun hg => ?_) (fun hg => ?_) | (refine AP.V (fun c hnil => ?_); simp only [nz])  | refine AP.PF ?_) | ((with_reducible apply DW.k_any); first | refine DW.ST ?_ | ((fail_if_success refine DW.known rfl ?_); refine DW.G (fun hg => ?_) (fun hg => ?_))) ) <;> (try simp only [q0, k1, k6, k2, k3, k4, nx, mx, rn, fq, Nat.mul_one, Bool.and_true, Bool.and_false, Nat.reduceBEq, Nat.reduceAdd, Nat.reduceSub, BEq.rfl])) | ((with_reducible apply AP.k_nil); first | (refine AP.nil (hQ' _ ?_); clear hQ' Q') | refine AP.nil ?_) | ((with_reducible apply CP.k_drw); refine cp_drwX fun Q' hQ' => ?_) | ((with_reducible apply CP.k_drw1); refine cp_drawX ?_) | ((with_reducible apply DW.k_nil); refine DW.nl ?_; first | (refine hQ' _ ?_; clear hQ' Q') | skip) | ((with_reducible apply CP.k_reg); refine cp_regG fun Q' hQ' => ?_) | refine CP.W ?_ | refine cp_cond rfl (fun hc => ?_) (fun hc => ?_) | (simp only [List.append_eq, List.cons_append, List.nil_append]))
    (exact RetQ.A [] (by exact ⟨rfl, rfl⟩))
theorem dparse5 (b : List UInt8) (k : UInt8) (s0 s1 s2 : Rf) (a1 ee : Int) (mm : Bool) (hk : k.toNat = 5) (h0 : AC Try.prog 10 [bs none b] [] (fun v bs' => v = .bp 0 0 0 ∧ bs' = [fB s0])) (hb : AC Try.prog 11 [.bp 0 0 0] [fB s0] (fun v bs' => v = U k ∧ bs' = [fB s1])) (i1 : AC Try.prog 12 [.bp 0 0 0] [fB s1] (fun v bs' => v = I a1 ∧ bs' = [fB s2])) (he : AC Try.prog 17 [.bp 0 0 0] [fB s2] (fun v bs' => v = I ee ∧ bs' = [fB s2])) (hm : AC Try.prog 18 [.ag (eG ⟨k, 0, 0, [], 0, 0, [], 0, 0, cfg0, a1⟩)] [] (fun v bs' => v = B mm ∧ bs' = [])) : AC Try.prog 5 [bs none b] [] (fun v bs' => v = .tu [.ag (eG (parseRes ⟨k, 0, 0, [], 0, 0, [], 0, 0, cfg0, a1⟩ ee mm).1), I (parseRes ⟨k, 0, 0, [], 0, 0, [], 0, 0, cfg0, a1⟩ ee mm).2] ∧ bs' = []) := by
  have k1 := (show ((k.toNat : Int) == 1) = false from kne (m := 1) hk (by decide))
  have k6 := (show ((k.toNat : Int) == 6) = false from kne (m := 6) hk (by decide))
  have k2 := (show ((k.toNat : Int) == 2) = false from kne (m := 2) hk (by decide))
  have k3 := (show ((k.toNat : Int) == 3) = false from kne (m := 3) hk (by decide))
  have k4 := (show ((k.toNat : Int) == 4) = false from kne (m := 4) hk (by decide))
  have k5 := (show ((k.toNat : Int) == 5) = true from keq hk)
  by_cases h1 : ee = 0
  · subst h1
    have q0 : ((0 : Int) != 0) = false := rfl
    cases mm with
    | true =>
      refine AC.N Try.func5 Try.ntmps5 ?_
      intro X hρ hmks
      simp only [nx, Nat.reduceAdd, Nat.reduceSub, BEq.rfl]
      refine CP.gh gh_slot ?_; simp only [nx, Nat.reduceAdd, Nat.reduceSub, BEq.rfl]
      refine CP.gh gh_slot ?_; simp only [nx, Nat.reduceAdd, Nat.reduceSub, BEq.rfl]
      refine CP.gh gh_slot ?_; simp only [nx, Nat.reduceAdd, Nat.reduceSub, BEq.rfl]
      repeat' (first | ((first | ((with_reducible apply AP.k_any); first | refine AP.ST ?_ | (refine AP.Y ?_; dsimp only) | refine AP.G (fun hg => ?_) (fun hg => ?_) | (refine AP.V (fun c hnil => ?_); simp only [nz])  | refine AP.PF ?_) | ((with_reducible apply DW.k_any); first | refine DW.ST ?_ | ((fail_if_success refine DW.known rfl ?_); refine DW.G (fun hg => ?_) (fun hg => ?_))) ) <;> (try simp only [q0, k1, k6, k2, k3, k4, k5, nx, mx, rn, fq, Nat.mul_one, Bool.and_true, Bool.and_false, Nat.reduceBEq, Nat.reduceAdd, Nat.reduceSub, BEq.rfl])) | ((with_reducible apply AP.k_nil); first | (refine AP.nil (hQ' _ ?_); clear hQ' Q') | refine AP.nil ?_) | ((with_reducible apply CP.k_drw); refine cp_drwX fun Q' hQ' => ?_) | ((with_reducible apply CP.k_drw1); refine cp_drawX ?_) | ((with_reducible apply DW.k_nil); refine DW.nl ?_; first | (refine hQ' _ ?_; clear hQ' Q') | skip) | ((with_reducible apply CP.k_reg); refine cp_regG fun Q' hQ' => ?_) | refine CP.W ?_ | refine cp_cond rfl (fun hc => ?_) (fun hc => ?_) | (simp only [List.append_eq, List.cons_append, List.nil_append]))
      (exact RetQ.A [] (by exact ⟨rfl, rfl⟩))
    | false =>
      refine AC.N Try.func5 Try.ntmps5 ?_
      intro X hρ hmks
      simp only [nx, Nat.reduceAdd, Nat.reduceSub, BEq.rfl]
      refine CP.gh gh_slot ?_; simp only [nx, Nat.reduceAdd, Nat.reduceSub, BEq.rfl]
      refine CP.gh gh_slot ?_; simp only [nx, Nat.reduceAdd, Nat.reduceSub, BEq.rfl]
      refine CP.gh gh_slot ?_; simp only [nx, Nat.reduceAdd, Nat.reduceSub, BEq.rfl]
      repeat' (first | ((first | ((with_reducible apply AP.k_any); first | refine AP.ST ?_ | (refine AP.Y ?_; dsimp only) | refine AP.G (fun hg => ?_) (fun hg => ?_) | (refine AP.V (fun c hnil => ?_); simp only [nz])  | refine AP.PF ?_) | ((with_reducible apply DW.k_any); first | refine DW.ST ?_ | ((fail_if_success refine DW.known rfl ?_); refine DW.G (fun hg => ?_) (fun hg => ?_))) ) <;> (try simp only [q0, k1, k6, k2, k3, k4, k5, nx, mx, rn, fq, Nat.mul_one, Bool.and_true, Bool.and_false, Nat.reduceBEq, Nat.reduceAdd, Nat.reduceSub, BEq.rfl])) | ((with_reducible apply AP.k_nil); first | (refine AP.nil (hQ' _ ?_); clear hQ' Q') | refine AP.nil ?_) | ((with_reducible apply CP.k_drw); refine cp_drwX fun Q' hQ' => ?_) | ((with_reducible apply CP.k_drw1); refine cp_drawX ?_) | ((with_reducible apply DW.k_nil); refine DW.nl ?_; first | (refine hQ' _ ?_; clear hQ' Q') | skip) | ((with_reducible apply CP.k_reg); refine cp_regG fun Q' hQ' => ?_) | refine CP.W ?_ | refine cp_cond rfl (fun hc => ?_) (fun hc => ?_) | (simp only [List.append_eq, List.cons_append, List.nil_append]))
      (exact RetQ.A [] (by exact ⟨rfl, rfl⟩))
  · have q0 : (ee != 0) = true := by simpa using h1
    have e : ∀ m, parseRes m ee mm = (msg0, 200) := fun m => if_neg fun h => h1 h.1
    rw [e]
    refine AC.N Try.func5 Try.ntmps5 ?_
    intro X hρ hmks
    simp only [nx, Nat.reduceAdd, Nat.reduceSub, BEq.rfl]
    refine CP.gh gh_slot ?_; simp only [nx, Nat.reduceAdd, Nat.reduceSub, BEq.rfl]
    refine CP.gh gh_slot ?_; simp only [nx, Nat.reduceAdd, Nat.reduceSub, BEq.rfl]
    refine CP.gh gh_slot ?_; simp only [nx, Nat.reduceAdd, Nat.reduceSub, BEq.rfl]
    repeat' (first | ((first | ((with_reducible apply AP.k_any); first | refine AP.ST ?_ | (refine AP.Y ?_; dsimp only) | refine AP.G (fun hg => ?_) (fun hg => ?_) | (refine AP.V (fun c hnil => ?_); simp only [nz])  | refine AP.PF ?_) | ((with_reducible apply DW.k_any); first | refine DW.ST ?_ | ((fail_if_success refine DW.known rfl ?_); refine DW.G (fun hg => ?_) (fun hg => ?_))) ) <;> (try simp only [q0, k1, k6, k2, k3, k4, k5, nx, mx, rn, fq, Nat.mul_one, Bool.and_true, Bool.and_false, Nat.reduceBEq, Nat.reduceAdd, Nat.reduceSub, BEq.rfl])) | ((with_reducible apply AP.k_nil); first | (refine AP.nil (hQ' _ ?_); clear hQ' Q') | refine AP.nil ?_) | ((with_reducible apply CP.k_drw); refine cp_drwX fun Q' hQ' => ?_) | ((with_reducible apply CP.k_drw1); refine cp_drawX ?_) | ((with_reducible apply DW.k_nil); refine DW.nl ?_; first | (refine hQ' _ ?_; clear hQ' Q') | skip) | ((with_reducible apply CP.k_reg); refine cp_regG fun Q' hQ' => ?_) | refine CP.W ?_ | refine cp_cond rfl (fun hc => ?_) (fun hc => ?_) | (simp only [List.append_eq, List.cons_append, List.nil_append]))
    (exact RetQ.A [] (by exact ⟨rfl, rfl⟩))
end Go.Proofs.Ytmiajenjgcdhgaa

namespace Go.Proofs.Ytmiajenjgcdhgaa
set_option linter.unusedVariables false
set_option linter.unusedSimpArgs false
set_option maxHeartbeats 8000000
open Go.RowKit
set_option maxRecDepth 100000
theorem entsQ_len (p : Int) : ∀ (n i : Nat) (s : Rf), (entsQ p i n s).1.length = n
  | 0, _, _ => rfl
  | n + 1, i, s => by show (_ :: _).length = _; rw [List.length_cons, entsQ_len p n]
theorem entsQ_snoc (p : Int) : ∀ (n i : Nat) (s : Rf), (entsQ p i (n + 1) s).1 = (entsQ p i n s).1 ++ [(restRF (IntKind.i64.wrap (p + ((i + n : Nat) : Int))) (entsQ p i n s).2).1] ∧ (entsQ p i (n + 1) s).2 = (restRF (IntKind.i64.wrap (p + ((i + n : Nat) : Int))) (entsQ p i n s).2).2
  | 0, i, s => ⟨rfl, rfl⟩
  | n + 1, i, s => by
    have h := entsQ_snoc p n (i + 1) (restRF (IntKind.i64.wrap (p + i)) s).2
    have e : i + 1 + n = i + (n + 1) := by omega
    rw [e] at h
    refine ⟨?_, h.2⟩
    show _ :: (entsQ p (i + 1) (n + 1) _).1 = _ :: (_ ++ _)
    rw [h.1]; rfl
theorem dparse2 (b : List UInt8) (k : UInt8) (s0 s1 s2 s3 s4 : Rf) (a1 a2 ee : Int) (n : Nat) (mm : Bool) (hk : k.toNat = 2) (hs : s4.ok) (hn : n ≤ 4) (h0 : AC Try.prog 10 [bs none b] [] (fun v bs' => v = .bp 0 0 0 ∧ bs' = [fB s0])) (hb : AC Try.prog 11 [.bp 0 0 0] [fB s0] (fun v bs' => v = U k ∧ bs' = [fB s1])) (i1 : AC Try.prog 12 [.bp 0 0 0] [fB s1] (fun v bs' => v = I a1 ∧ bs' = [fB s2])) (i2 : AC Try.prog 12 [.bp 0 0 0] [fB s2] (fun v bs' => v = I a2 ∧ bs' = [fB s3]))
    (i3 : AC Try.prog 14 [.bp 0 0 0, I 4] [fB s3] (fun v bs' => v = I n ∧ bs' = [fB s4])) (he : AC Try.prog 17 [.bp 0 0 0] [fB (entsQ a2 0 n s4).2] (fun v bs' => v = I ee ∧ bs' = [fB (entsQ a2 0 n s4).2])) (hm : AC Try.prog 18 [.ag (eG ⟨k, 0, 0, [], a1, a2, (entsQ a2 0 n s4).1, 0, 0, cfg0, 0⟩)] [] (fun v bs' => v = B mm ∧ bs' = [])) : AC Try.prog 5 [bs none b] [] (fun v bs' => v = .tu [.ag (eG (parseRes ⟨k, 0, 0, [], a1, a2, (entsQ a2 0 n s4).1, 0, 0, cfg0, 0⟩ ee mm).1), I (parseRes ⟨k, 0, 0, [], a1, a2, (entsQ a2 0 n s4).1, 0, 0, cfg0, 0⟩ ee mm).2] ∧ bs' = []) := by
  have k1 := (show ((k.toNat : Int) == 1) = false from kne (m := 1) hk (by decide))
  have k6 := (show ((k.toNat : Int) == 6) = false from kne (m := 6) hk (by decide))
  have k2 := (show ((k.toNat : Int) == 2) = true from keq hk)
  refine AC.N Try.func5 Try.ntmps5 ?_
  intro X hρ hmks
  simp only [nx, Nat.reduceAdd, Nat.reduceSub, BEq.rfl]
  repeat' (first | ((first | ((with_reducible apply AP.k_any); first | refine AP.ST ?_ | (refine AP.Y ?_; dsimp only) | refine AP.G (fun hg => ?_) (fun hg => ?_) | (refine AP.V (fun c hnil => ?_); simp only [nz]) | ((with_reducible apply AP.k_any); refine AP.B 0 (i1) ?_) | ((with_reducible apply AP.k_any); refine AP.B 0 (i2) ?_) | refine AP.PF ?_) | ((with_reducible apply DW.k_any); first | refine DW.ST ?_ | ((fail_if_success refine DW.known rfl ?_); refine DW.G (fun hg => ?_) (fun hg => ?_))) | ((with_reducible apply DW.k_any); first | refine DW.R ?_ | refine DW.R' ?_ | refine DW.W ?_ | refine DW.W' ?_ | (refine DW.known rfl ?_; (with_reducible first | apply DW.sx 2 | apply DW.sxN 2); (iterate 2 (focus (simp only [ft, nm, Nat.reduceAdd, Nat.reduceBEq, List.getElem?_cons_zero, List.getElem?_cons_succ]; exact rfl))); (focus (intro X V; simp only [ft, nm, Nat.reduceAdd, Nat.reduceBEq]; (try (refine AP.Y ?_; dsimp only)); (first | ((with_reducible apply AP.k_any); refine AP.B 0 (i1) ?_) | ((with_reducible apply AP.k_any); refine AP.B 0 (i2) ?_) | fail); (try simp only [nx, Nat.reduceAdd, Nat.reduceSub, BEq.rfl]); refine AP.nil ?_; (first | refine ⟨trivial, rfl, ?_⟩ | refine ⟨rfl, rfl, ?_⟩); (repeat' (first | exact Mg.nil | apply Mg.keep rfl | apply Mg.take rfl)); done)); (focus (refine Exists.intro (fun _ => 0) ?_; apply Exists.intro; (repeat' (first | exact Mg.nil | apply Mg.keep rfl | apply Mg.take rfl)); done)); (iterate 2 (focus (exact rfl)))) | ((fail_if_success refine DW.known rfl ?_); refine DW.G (fun hg => ?_) (fun hg => ?_)))) <;> (try simp only [k1, k6, k2, nx, mx, rn, fq, Nat.mul_one, Bool.and_true, Bool.and_false, Nat.reduceBEq, Nat.reduceAdd, Nat.reduceSub, BEq.rfl])) | ((with_reducible apply AP.k_nil); first | (refine AP.nil (hQ' _ ?_); clear hQ' Q') | refine AP.nil ?_) | ((with_reducible apply CP.k_drw); refine cp_drwX fun Q' hQ' => ?_) | ((with_reducible apply CP.k_drw1); refine cp_drawX ?_) | ((with_reducible apply DW.k_nil); refine DW.nl ?_; first | (refine hQ' _ ?_; clear hQ' Q') | skip) | ((with_reducible apply CP.k_reg); refine cp_regG fun Q' hQ' => ?_) | refine CP.W ?_ | refine cp_cond rfl (fun hc => ?_) (fun hc => ?_) | (simp only [List.append_eq, List.cons_append, List.nil_append]))
  refine CP.gh (gh_nilc (j := 2) (u := 1) (off := 6) (e := tE) (k := 5) rfl rfl) ?_
  simp only [nx, Nat.reduceAdd, Nat.reduceSub, BEq.rfl]
  refine CP.gh gh_slot ?_; simp only [nx, Nat.reduceAdd, Nat.reduceSub, BEq.rfl]
  refine CP.gh gh_slot ?_; simp only [nx, Nat.reduceAdd, Nat.reduceSub, BEq.rfl]
  refine cp_loopS [7, 37, 38, 39, 40, 41, 42, 43, 44, 45, 46, 47, 48, 49, 50, 51, 52] (fun a : Nat => n - a) (fun a => a ≤ n) (fun a => [(7, I a)]) (fun a => [(1, ⟨1, fB (entsQ a2 0 a s4).2⟩), (2, ⟨1, eZ k 0 0 nl a1 a2 (.hd 3 (a + 1)) 0 0 0 nl 0⟩), (3, ⟨a + 1, .r tE 5 ((entsQ a2 0 a s4).1.map (eE none))⟩), (4, ⟨a, .x⟩), (5, ⟨0, .x⟩)]) 0 (Nat.zero_le _) (by exact Gh.W) ?_
  intro j hj
  simp only [setT, deT, setB, List.set_cons_succ, List.set_cons_zero]
  have hsj := (sim_ents a2 j 0 s4 hs).2.2
  have hL := entsQ_len a2 j 0 s4
  have hs1 := (entsQ_snoc a2 j 0 s4).1
  have hs2 := (entsQ_snoc a2 j 0 s4).2
  rw [Nat.zero_add] at hs1 hs2
  by_cases hlt : j < n
  · have q1 : decide ((j : Int) < (n : Int)) = true := by simp; omega
    have q2 : IntKind.i64.wrap ((j : Int) + 1) = ((j + 1 : Nat) : Int) := wrap_i64 (by omega) (by omega)
    have hr := dtakeRest_ac (IntKind.i64.wrap (a2 + j)) _ hsj
    clear he hm
    generalize hms : entsQ a2 0 j s4 = ms at hsj hL hs1 hs2 hr ⊢
    obtain ⟨ml, S⟩ := ms
    dsimp only at hsj hL hs1 hs2 hr ⊢
    have hlen : (ml.map (eE none)).length + 1 ≤ 1000000000 := by rw [List.length_map]; omega
    repeat' (first | ((first | ((with_reducible apply AP.k_any); first | refine AP.ST ?_ | (refine AP.Y ?_; dsimp only) | refine AP.G (fun hg => ?_) (fun hg => ?_) | (refine AP.V (fun c hnil => ?_); simp only [nz]) | ((with_reducible apply AP.k_any); refine AP.B 0 (hr) ?_) | refine AP.PF ?_) | ((with_reducible apply DW.k_any); first | refine DW.ST ?_ | ((fail_if_success refine DW.known rfl ?_); refine DW.G (fun hg => ?_) (fun hg => ?_))) | ((with_reducible apply DW.k_any); first | refine DW.R ?_ | refine DW.R' ?_ | refine DW.W ?_ | refine DW.W' ?_ | (refine DW.known rfl ?_; (with_reducible first | apply DW.sx 2 | apply DW.sxN 2); (iterate 2 (focus (simp only [ft, nm, Nat.reduceAdd, Nat.reduceBEq, List.getElem?_cons_zero, List.getElem?_cons_succ]; exact rfl))); (focus (intro X V; simp only [ft, nm, Nat.reduceAdd, Nat.reduceBEq]; (try (refine AP.Y ?_; dsimp only)); (first | ((with_reducible apply AP.k_any); refine AP.B 0 (hr) ?_) | fail); (try simp only [nx, Nat.reduceAdd, Nat.reduceSub, BEq.rfl]); refine AP.nil ?_; (first | refine ⟨trivial, rfl, ?_⟩ | refine ⟨rfl, rfl, ?_⟩); (repeat' (first | exact Mg.nil | apply Mg.keep rfl | apply Mg.take rfl)); done)); (focus (refine Exists.intro (fun _ => 0) ?_; apply Exists.intro; (repeat' (first | exact Mg.nil | apply Mg.keep rfl | apply Mg.take rfl)); done)); (iterate 2 (focus (exact rfl)))) | ((fail_if_success refine DW.known rfl ?_); refine DW.G (fun hg => ?_) (fun hg => ?_)))) <;> (try simp only [q1, q2, nx, mx, rn, fq, Nat.mul_one, Bool.and_true, Bool.and_false, Nat.reduceBEq, Nat.reduceAdd, Nat.reduceSub, BEq.rfl])) | ((with_reducible apply AP.k_nil); first | (refine AP.nil (hQ' _ ?_); clear hQ' Q') | refine AP.nil ?_) | ((with_reducible apply CP.k_drw); refine cp_drwX fun Q' hQ' => ?_) | ((with_reducible apply CP.k_drw1); refine cp_drawX ?_) | ((with_reducible apply DW.k_nil); refine DW.nl ?_; first | (refine hQ' _ ?_; clear hQ' Q') | skip) | ((with_reducible apply CP.k_reg); refine cp_regG fun Q' hQ' => ?_) | refine CP.W ?_ | refine cp_cond rfl (fun hc => ?_) (fun hc => ?_) | (simp only [List.append_eq, List.cons_append, List.nil_append]))
    refine ⟨j + 1, by omega, by omega, ?_⟩
    rw [hs1, hs2, List.map_append, List.map_cons, List.map_nil]
    exact Gh.W
  · obtain rfl : j = n := by omega
    have q1 : decide ((j : Int) < (j : Int)) = false := by simp
    refine CP.gh (gh_fz (b := 3) (u := j + 1) rfl rfl (by (repeat' (first | exact FzC.nil | apply FzC.cons | exact FzV.hd | apply FzV.ag | exact FzV.same))) (by (repeat' (first | exact FzB.nil | apply FzB.c | apply FzB.same | exact FzC.nil | apply FzC.cons | exact FzV.hd | apply FzV.ag | exact FzV.same)))) ?_
    simp only [ro_E]
    by_cases h1 : ee = 0
    · subst h1
      have q0 : ((0 : Int) != 0) = false := rfl
      cases mm with
      | true =>
        repeat' (first | ((first | ((with_reducible apply AP.k_any); first | refine AP.ST ?_ | (refine AP.Y ?_; dsimp only) | refine AP.G (fun hg => ?_) (fun hg => ?_) | (refine AP.V (fun c hnil => ?_); simp only [nz])  | refine AP.PF ?_) | ((with_reducible apply DW.k_any); first | refine DW.ST ?_ | ((fail_if_success refine DW.known rfl ?_); refine DW.G (fun hg => ?_) (fun hg => ?_))) ) <;> (try simp only [q0, q1, nx, mx, rn, fq, Nat.mul_one, Bool.and_true, Bool.and_false, Nat.reduceBEq, Nat.reduceAdd, Nat.reduceSub, BEq.rfl])) | ((with_reducible apply AP.k_nil); first | (refine AP.nil (hQ' _ ?_); clear hQ' Q') | refine AP.nil ?_) | ((with_reducible apply CP.k_drw); refine cp_drwX fun Q' hQ' => ?_) | ((with_reducible apply CP.k_drw1); refine cp_drawX ?_) | ((with_reducible apply DW.k_nil); refine DW.nl ?_; first | (refine hQ' _ ?_; clear hQ' Q') | skip) | ((with_reducible apply CP.k_reg); refine cp_regG fun Q' hQ' => ?_) | refine CP.W ?_ | refine cp_cond rfl (fun hc => ?_) (fun hc => ?_) | (simp only [List.append_eq, List.cons_append, List.nil_append]))
        (exact RetQ.A [] (by exact ⟨rfl, rfl⟩))
      | false =>
        repeat' (first | ((first | ((with_reducible apply AP.k_any); first | refine AP.ST ?_ | (refine AP.Y ?_; dsimp only) | refine AP.G (fun hg => ?_) (fun hg => ?_) | (refine AP.V (fun c hnil => ?_); simp only [nz])  | refine AP.PF ?_) | ((with_reducible apply DW.k_any); first | refine DW.ST ?_ | ((fail_if_success refine DW.known rfl ?_); refine DW.G (fun hg => ?_) (fun hg => ?_))) ) <;> (try simp only [q0, q1, nx, mx, rn, fq, Nat.mul_one, Bool.and_true, Bool.and_false, Nat.reduceBEq, Nat.reduceAdd, Nat.reduceSub, BEq.rfl])) | ((with_reducible apply AP.k_nil); first | (refine AP.nil (hQ' _ ?_); clear hQ' Q') | refine AP.nil ?_) | ((with_reducible apply CP.k_drw); refine cp_drwX fun Q' hQ' => ?_) | ((with_reducible apply CP.k_drw1); refine cp_drawX ?_) | ((with_reducible apply DW.k_nil); refine DW.nl ?_; first | (refine hQ' _ ?_; clear hQ' Q') | skip) | ((with_reducible apply CP.k_reg); refine cp_regG fun Q' hQ' => ?_) | refine CP.W ?_ | refine cp_cond rfl (fun hc => ?_) (fun hc => ?_) | (simp only [List.append_eq, List.cons_append, List.nil_append]))
        (exact RetQ.A [] (by exact ⟨rfl, rfl⟩))
    · have q0 : (ee != 0) = true := by simpa using h1
      have e : ∀ m, parseRes m ee mm = (msg0, 200) := fun m => if_neg fun h => h1 h.1
      rw [e]
      repeat' (first | ((first | ((with_reducible apply AP.k_any); first | refine AP.ST ?_ | (refine AP.Y ?_; dsimp only) | refine AP.G (fun hg => ?_) (fun hg => ?_) | (refine AP.V (fun c hnil => ?_); simp only [nz])  | refine AP.PF ?_) | ((with_reducible apply DW.k_any); first | refine DW.ST ?_ | ((fail_if_success refine DW.known rfl ?_); refine DW.G (fun hg => ?_) (fun hg => ?_))) ) <;> (try simp only [q0, q1, nx, mx, rn, fq, Nat.mul_one, Bool.and_true, Bool.and_false, Nat.reduceBEq, Nat.reduceAdd, Nat.reduceSub, BEq.rfl])) | ((with_reducible apply AP.k_nil); first | (refine AP.nil (hQ' _ ?_); clear hQ' Q') | refine AP.nil ?_) | ((with_reducible apply CP.k_drw); refine cp_drwX fun Q' hQ' => ?_) | ((with_reducible apply CP.k_drw1); refine cp_drawX ?_) | ((with_reducible apply DW.k_nil); refine DW.nl ?_; first | (refine hQ' _ ?_; clear hQ' Q') | skip) | ((with_reducible apply CP.k_reg); refine cp_regG fun Q' hQ' => ?_) | refine CP.W ?_ | refine cp_cond rfl (fun hc => ?_) (fun hc => ?_) | (simp only [List.append_eq, List.cons_append, List.nil_append]))
      (exact RetQ.A [] (by exact ⟨rfl, rfl⟩))
theorem dparse0 (b : List UInt8) (k : UInt8) (s0 s1 : Rf) (ee : Int) (mm : Bool) (hk : k.toNat = 0 ∨ 7 ≤ k.toNat) (h0 : AC Try.prog 10 [bs none b] [] (fun v bs' => v = .bp 0 0 0 ∧ bs' = [fB s0])) (hb : AC Try.prog 11 [.bp 0 0 0] [fB s0] (fun v bs' => v = U k ∧ bs' = [fB s1])) (he : AC Try.prog 17 [.bp 0 0 0] [fB s1] (fun v bs' => v = I ee ∧ bs' = [fB s1])) (hm : AC Try.prog 18 [.ag (eG ⟨k, 0, 0, [], 0, 0, [], 0, 0, cfg0, 0⟩)] [] (fun v bs' => v = B mm ∧ bs' = [])) : AC Try.prog 5 [bs none b] [] (fun v bs' => v = .tu [.ag (eG (parseRes ⟨k, 0, 0, [], 0, 0, [], 0, 0, cfg0, 0⟩ ee mm).1), I (parseRes ⟨k, 0, 0, [], 0, 0, [], 0, 0, cfg0, 0⟩ ee mm).2] ∧ bs' = []) := by
  have kz : ∀ n : Nat, 1 ≤ n → n ≤ 6 → ((k.toNat : Int) == (n : Int)) = false := fun n h1 h2 => by rw [beq_eq_false_iff_ne]; omega
  have k1 := (show ((k.toNat : Int) == 1) = false from kz 1 (by omega) (by omega))
  have k2 := (show ((k.toNat : Int) == 2) = false from kz 2 (by omega) (by omega))
  have k3 := (show ((k.toNat : Int) == 3) = false from kz 3 (by omega) (by omega))
  have k4 := (show ((k.toNat : Int) == 4) = false from kz 4 (by omega) (by omega))
  have k5 := (show ((k.toNat : Int) == 5) = false from kz 5 (by omega) (by omega))
  have k6 := (show ((k.toNat : Int) == 6) = false from kz 6 (by omega) (by omega))
  clear kz
  by_cases h1 : ee = 0
  · subst h1
    have q0 : ((0 : Int) != 0) = false := rfl
    cases mm with
    | true =>
      refine AC.N Try.func5 Try.ntmps5 ?_
      intro X hρ hmks
      simp only [nx, Nat.reduceAdd, Nat.reduceSub, BEq.rfl]
      refine CP.gh gh_slot ?_; simp only [nx, Nat.reduceAdd, Nat.reduceSub, BEq.rfl]
      refine CP.gh gh_slot ?_; simp only [nx, Nat.reduceAdd, Nat.reduceSub, BEq.rfl]
      refine CP.gh gh_slot ?_; simp only [nx, Nat.reduceAdd, Nat.reduceSub, BEq.rfl]
      repeat' (first | ((first | ((with_reducible apply AP.k_any); first | refine AP.ST ?_ | (refine AP.Y ?_; dsimp only) | refine AP.G (fun hg => ?_) (fun hg => ?_) | (refine AP.V (fun c hnil => ?_); simp only [nz])  | refine AP.PF ?_) | ((with_reducible apply DW.k_any); first | refine DW.ST ?_ | ((fail_if_success refine DW.known rfl ?_); refine DW.G (fun hg => ?_) (fun hg => ?_))) ) <;> (try simp only [q0, k1, k2, k3, k4, k5, k6, nx, mx, rn, fq, Nat.mul_one, Bool.and_true, Bool.and_false, Nat.reduceBEq, Nat.reduceAdd, Nat.reduceSub, BEq.rfl])) | ((with_reducible apply AP.k_nil); first | (refine AP.nil (hQ' _ ?_); clear hQ' Q') | refine AP.nil ?_) | ((with_reducible apply CP.k_drw); refine cp_drwX fun Q' hQ' => ?_) | ((with_reducible apply CP.k_drw1); refine cp_drawX ?_) | ((with_reducible apply DW.k_nil); refine DW.nl ?_; first | (refine hQ' _ ?_; clear hQ' Q') | skip) | ((with_reducible apply CP.k_reg); refine cp_regG fun Q' hQ' => ?_) | refine CP.W ?_ | refine cp_cond rfl (fun hc => ?_) (fun hc => ?_) | (simp only [List.append_eq, List.cons_append, List.nil_append]))
      (exact RetQ.A [] (by exact ⟨rfl, rfl⟩))
    | false =>
      refine AC.N Try.func5 Try.ntmps5 ?_
      intro X hρ hmks
      simp only [nx, Nat.reduceAdd, Nat.reduceSub, BEq.rfl]
      refine CP.gh gh_slot ?_; simp only [nx, Nat.reduceAdd, Nat.reduceSub, BEq.rfl]
      refine CP.gh gh_slot ?_; simp only [nx, Nat.reduceAdd, Nat.reduceSub, BEq.rfl]
      refine CP.gh gh_slot ?_; simp only [nx, Nat.reduceAdd, Nat.reduceSub, BEq.rfl]
      repeat' (first | ((first | ((with_reducible apply AP.k_any); first | refine AP.ST ?_ | (refine AP.Y ?_; dsimp only) | refine AP.G (fun hg => ?_) (fun hg => ?_) | (refine AP.V (fun c hnil => ?_); simp only [nz])  | refine AP.PF ?_) | ((with_reducible apply DW.k_any); first | refine DW.ST ?_ | ((fail_if_success refine DW.known rfl ?_); refine DW.G (fun hg => ?_) (fun hg => ?_))) ) <;> (try simp only [q0, k1, k2, k3, k4, k5, k6, nx, mx, rn, fq, Nat.mul_one, Bool.and_true, Bool.and_false, Nat.reduceBEq, Nat.reduceAdd, Nat.reduceSub, BEq.rfl])) | ((with_reducible apply AP.k_nil); first | (refine AP.nil (hQ' _ ?_); clear hQ' Q') | refine AP.nil ?_) | ((with_reducible apply CP.k_drw); refine cp_drwX fun Q' hQ' => ?_) | ((with_reducible apply CP.k_drw1); refine cp_drawX ?_) | ((with_reducible apply DW.k_nil); refine DW.nl ?_; first | (refine hQ' _ ?_; clear hQ' Q') | skip) | ((with_reducible apply CP.k_reg); refine cp_regG fun Q' hQ' => ?_) | refine CP.W ?_ | refine cp_cond rfl (fun hc => ?_) (fun hc => ?_) | (simp only [List.append_eq, List.cons_append, List.nil_append]))
      (exact RetQ.A [] (by exact ⟨rfl, rfl⟩))
  · have q0 : (ee != 0) = true := by simpa using h1
    have e : ∀ m, parseRes m ee mm = (msg0, 200) := fun m => if_neg fun h => h1 h.1
    rw [e]
    refine AC.N Try.func5 Try.ntmps5 ?_
    intro X hρ hmks
    simp only [nx, Nat.reduceAdd, Nat.reduceSub, BEq.rfl]
    refine CP.gh gh_slot ?_; simp only [nx, Nat.reduceAdd, Nat.reduceSub, BEq.rfl]
    refine CP.gh gh_slot ?_; simp only [nx, Nat.reduceAdd, Nat.reduceSub, BEq.rfl]
    refine CP.gh gh_slot ?_; simp only [nx, Nat.reduceAdd, Nat.reduceSub, BEq.rfl]
    repeat' (first | ((first | ((with_reducible apply AP.k_any); first | refine AP.ST ?_ | (refine AP.Y ?_; dsimp only) | refine AP.G (fun hg => ?_) (fun hg => ?_) | (refine AP.V (fun c hnil => ?_); simp only [nz])  | refine AP.PF ?_) | ((with_reducible apply DW.k_any); first | refine DW.ST ?_ | ((fail_if_success refine DW.known rfl ?_); refine DW.G (fun hg => ?_) (fun hg => ?_))) ) <;> (try simp only [q0, k1, k2, k3, k4, k5, k6, nx, mx, rn, fq, Nat.mul_one, Bool.and_true, Bool.and_false, Nat.reduceBEq, Nat.reduceAdd, Nat.reduceSub, BEq.rfl])) | ((with_reducible apply AP.k_nil); first | (refine AP.nil (hQ' _ ?_); clear hQ' Q') | refine AP.nil ?_) | ((with_reducible apply CP.k_drw); refine cp_drwX fun Q' hQ' => ?_) | ((with_reducible apply CP.k_drw1); refine cp_drawX ?_) | ((with_reducible apply DW.k_nil); refine DW.nl ?_; first | (refine hQ' _ ?_; clear hQ' Q') | skip) | ((with_reducible apply CP.k_reg); refine cp_regG fun Q' hQ' => ?_) | refine CP.W ?_ | refine cp_cond rfl (fun hc => ?_) (fun hc => ?_) | (simp only [List.append_eq, List.cons_append, List.nil_append]))
    (exact RetQ.A [] (by exact ⟨rfl, rfl⟩))
theorem rd_sim {F : Rf → Msg × Rf} {R : St → Msg × St} (hsim : Sim F R) {b : List UInt8} (hb : b.length ≤ 100000000) (hR : ∀ st, takeM (byteR (newR b)).1 st = R st) :
    (F (byteF (newF b)).2).1.small ∧ parseRes (F (byteF (newF b)).2).1 (endF (F (byteF (newF b)).2).2) (mayD (F (byteF (newF b)).2).1) = parseM b := by
  obtain ⟨n1, n2⟩ := sim_new b hb
  obtain ⟨a1, a2, a3⟩ := sim_byte _ n2
  obtain ⟨c1, c2, c3⟩ := hsim _ a3
  have h : readM b = ((F (byteF (newF b)).2).1, (F (byteF (newF b)).2).2.st) := by
    show takeM (byteR (newR b)).1 (byteR (newR b)).2 = _
    rw [hR, c1, c2, a2, n1]
  refine ⟨?_, parseD_eq h rfl c3⟩
  have := readM_small hb
  rw [h] at this
  exact this
theorem mayD_none {k : UInt8} (hk : k.toNat = 0 ∨ 7 ≤ k.toNat) (m : Msg) (hm : m.kind = k) : mayD m = false := by
  unfold mayD
  have : kindD m = false := by
    unfold kindD
    rw [hm]
    split <;> first | omega | rfl
  rw [this, Bool.and_false]
theorem dparseM_ac (b : List UInt8) (hb : b.length ≤ 10000000) : AC Try.prog 5 [bs none b] [] (fun v bs' => v = .tu [.ag (eG (parseM b).1), I (parseM b).2] ∧ bs' = []) := by
  obtain ⟨n1, n2⟩ := sim_new b (by omega)
  obtain ⟨a1, _, a3⟩ := sim_byte _ n2
  rw [n1] at a1
  have h0 := dnew_ac b (by omega)
  have hby := dbyte_ac _ n2
  have o2 := (sim_int _ a3).2.2
  have o3 := (sim_int _ o2).2.2
  have i1 := dintR_ac _ a3
  have i2 := dintR_ac _ o2
  rcases kind_cases (byteF (newF b)).1 with hk | hk | hk | hk | hk | hk | hk
  · obtain ⟨s, e⟩ := rd_sim (sim_ask (byteF (newF b)).1) (b := b) (by omega) fun st => by rw [← a1]; simp only [takeM, hk]
    have := dparse1 b _ _ _ _ _ _ _ _ _ _ _ hk h0 hby i1 i2 (dbytesR_ac _ o3) (dend_ac _) (dmayMsg_ac _ s)
    rw [← e]; exact this
  · obtain ⟨s, e⟩ := rd_sim (sim_entm (byteF (newF b)).1) (b := b) (by omega) fun st => by rw [← a1]; simp only [takeM, hk]
    have hc0 := sim_count 4 _ o3
    have hc := countR_le (m := 4) (st := (intF (intF (byteF (newF b)).2).2).2.st) (by omega)
    rw [← hc0.1] at hc
    have hc1 := dcount_ac 4 _ o3
    unfold entQ at s e
    dsimp only at s e
    obtain ⟨n, hN⟩ : ∃ n : Nat, (countF 4 (intF (intF (byteF (newF b)).2).2).2).1 = n := ⟨(countF 4 (intF (intF (byteF (newF b)).2).2).2).1.toNat, by omega⟩
    rw [hN] at hc hc1 s e
    rw [Int.toNat_natCast] at s e
    have := dparse2 b _ _ _ _ _ _ _ _ _ n _ hk hc0.2.2 (by omega) h0 hby i1 i2 hc1 (dend_ac _) (dmayMsg_ac _ s)
    rw [← e]; exact this
  · obtain ⟨s, e⟩ := rd_sim (sim_have (byteF (newF b)).1) (b := b) (by omega) fun st => by rw [← a1]; simp only [takeM, hk]
    have := dparse3 b _ _ _ _ _ _ _ _ _ hk h0 hby i1 i2 (dend_ac _) (dmayMsg_ac _ s)
    rw [← e]; exact this
  · obtain ⟨s, e⟩ := rd_sim (sim_cfg (byteF (newF b)).1) (b := b) (by omega) fun st => by rw [← a1]; simp only [takeM, hk]
    have := dparse4 b _ _ _ _ _ _ _ hk h0 hby (dtakeConfig_ac _ a3) (dend_ac _) (dmayMsg_ac _ s)
    rw [← e]; exact this
  · obtain ⟨s, e⟩ := rd_sim (sim_whole (byteF (newF b)).1) (b := b) (by omega) fun st => by rw [← a1]; simp only [takeM, hk]
    have := dparse5 b _ _ _ _ _ _ _ hk h0 hby i1 (dend_ac _) (dmayMsg_ac _ s)
    rw [← e]; exact this
  · obtain ⟨s, e⟩ := rd_sim (sim_ask (byteF (newF b)).1) (b := b) (by omega) fun st => by rw [← a1]; simp only [takeM, hk]
    have := dparse6 b _ _ _ _ _ _ _ _ _ _ _ hk h0 hby i1 i2 (dbytesR_ac _ o3) (dend_ac _) (dmayMsg_ac _ s)
    rw [← e]; exact this
  · have hm := dmayMsg_ac ⟨(byteF (newF b)).1, 0, 0, [], 0, 0, [], 0, 0, cfg0, 0⟩ ⟨Nat.zero_le _, Nat.zero_le _, Nat.zero_le _, fun e he => by cases he⟩
    rw [mayD_none hk _ rfl] at hm
    have := dparse0 b _ _ _ _ _ hk h0 hby (dend_ac _) hm
    have hR : readM b = (msg0, (40, [])) := by
      unfold readM takeM
      rw [← a1]
      split <;> first | omega | rfl
    have hP : parseM b = (msg0, 200) := by rw [parseM, hR, if_neg (by simp [endR])]
    rw [hP]
    have e : ∀ m ee, parseRes m ee false = (msg0, 200) := fun m ee => if_neg fun h => by cases h.2
    rw [e] at this
    exact this
end Go.Proofs.Ytmiajenjgcdhgaa

namespace Go.Proofs.Ytmiajenjgcdhgaa
set_option linter.unusedVariables false
set_option linter.unusedSimpArgs false
open Go.RowKit
def mixR {α : Type} (f g : α → List AV) (l : List α) (k : Nat) : List (List AV) := (l.take k).map f ++ (l.drop k).map g
theorem mixR_len {α : Type} (f g : α → List AV) (l : List α) (k : Nat) : (mixR f g l k).length = l.length := by
  unfold mixR
  rw [List.length_append, List.length_map, List.length_map, List.length_take, List.length_drop]
  omega
theorem mixR_at {α : Type} (f g : α → List AV) (l : List α) {k : Nat} (h : k < l.length) : (mixR f g l k)[k]? = some (g l[k]) := by
  unfold mixR
  rw [List.getElem?_append_right (by simp; omega)]
  simp only [List.length_map, List.length_take, List.getElem?_map, List.getElem?_drop]
  rw [show k + (k - min k l.length) = k by omega, List.getElem?_eq_getElem h]; rfl
theorem mixR_set {α : Type} (f g : α → List AV) (l : List α) {k : Nat} (h : k < l.length) : (mixR f g l k).set k (f l[k]) = mixR f g l (k + 1) := by
  unfold mixR
  rw [List.drop_eq_getElem_cons h, List.take_succ_eq_append_getElem h, List.map_append, List.map_cons, List.set_append_right _ _ (by simp; omega)]
  simp only [List.length_map, List.length_take]
  rw [show k - min k l.length = 0 by omega]
  simp
theorem mixR_all {α : Type} (f g : α → List AV) (l : List α) : mixR f g l l.length = l.map f := by simp [mixR]
end Go.Proofs.Ytmiajenjgcdhgaa

namespace Go.Proofs.Ytmiajenjgcdhgaa
set_option linter.unusedVariables false
set_option linter.unusedSimpArgs false
open Go.RowKit
set_option maxRecDepth 100000
section
variable {X : Cx} {s s' : AS} {o : Oper} {Q : Exit → AS → Prop} {ops : Array Oper} {rest : List Oper}
end
theorem gh_shutC {s : AS} {j u k n : Nat} {e : TypeId} {rows : List (List AV)} {c c' : List AV} {b1 : List Sl} (hj : s.b[j]? = some ⟨u, .f e k rows n c⟩) (hcl : ClsC (s.b.set j ⟨u, .o⟩) c c' b1) (hk : b1[j]? = some ⟨u, .o⟩) : Gh s ⟨s.t, b1.set j ⟨u, .r e k (rows.set n c')⟩⟩ := by
  rintro X a w ⟨X', φ, κ, f, hX, h⟩
  obtain ⟨X1, f', hX1, h1⟩ := h.shutR hj hcl hk
  exact ⟨X1, φ, κ, f', hX.trans hX1, h1⟩
end Go.Proofs.Ytmiajenjgcdhgaa

namespace Go.Proofs.Ytmiajenjgcdhgaa
set_option linter.unusedVariables false
set_option linter.unusedSimpArgs false
set_option maxHeartbeats 8000000
open Go.RowKit
set_option maxRecDepth 100000
theorem incU9 (x : UInt8) : IntKind.u8.wrap ((x.toNat : Int) + 1) = (((x + 1 : UInt8).toNat : Nat) : Int) := by
  simp only [IntKind.wrap, IntKind.bits, IntKind.signed, UInt8.toNat_add]; simp
abbrev eB9 (c : UInt8) : List AV := eB (c + 1)
abbrev zE (e : Entry) : List AV := [I e.pos, I (-7), I e.client, I e.id, .sl (some tU) 1 (e.body.map eB9)]
theorem parseM_small {b : List UInt8} (hb : b.length ≤ 100000000) : (parseM b).1.small := by
  unfold parseM
  split
  · exact readM_small hb
  · exact small0
theorem mparse_big (b : List UInt8) (h : 5000 < b.length) : AC Try.prog 3 [bs none b] [] (fun v bs' => v = B true ∧ bs' = []) := by
  have d1 : decide ((5000 : Int) < (b.length : Int)) = true := by simp; omega
  refine AC.N Try.func3 Try.ntmps3 ?_
  intro X hρ hmks
  simp only [nx, Nat.reduceAdd, Nat.reduceSub, BEq.rfl]
  repeat' (first | ((first | ((with_reducible apply AP.k_any); first | refine AP.ST ?_ | (refine AP.Y ?_; dsimp only) | refine AP.G (fun hg => ?_) (fun hg => ?_) | (refine AP.V (fun c hnil => ?_); simp only [nz])  | refine AP.PF ?_)) <;> (try simp only [d1, List.length_map, nx, mx, rn, fq, Nat.mul_one, Bool.and_true, Bool.and_false, Nat.reduceBEq, Nat.reduceAdd, Nat.reduceSub, BEq.rfl])) | ((with_reducible apply AP.k_nil); first | (refine AP.nil (hQ' _ ?_); clear hQ' Q') | refine AP.nil ?_) | ((with_reducible apply CP.k_reg); refine cp_regG fun Q' hQ' => ?_) | refine CP.W ?_ | refine cp_cond rfl (fun hc => ?_) (fun hc => ?_) | (simp only [List.append_eq, List.cons_append, List.nil_append]))
  (exact RetQ.A [] (by exact ⟨rfl, rfl⟩))
theorem mparse (b : List UInt8) (hb : b.length ≤ 5000) : AC Try.prog 3 [bs none b] [] (fun v bs' => v = B true ∧ bs' = []) := by
  have d1 : decide ((5000 : Int) < (b.length : Int)) = false := by simp; omega
  have hsm := parseM_small (b := b) (by omega)
  have k0 := copy_ac b (by omega)
  have k1 := dparseM_ac b (by omega)
  have k2 := parseo_ac b (by omega)
  have k4 := same_ac b b (by omega)
  rw [decide_eq_true rfl] at k4
  generalize parseM b = R at *
  obtain ⟨m, f⟩ := R
  dsimp only at hsm k1 k2
  have k3 := dsameG_ac m m hsm
  rw [eqG_iff.2 rfl] at k3
  have q5 : (f != f) = false := by simp
  obtain ⟨kd, cl, id, Y, up, fr, E, hv, dn, ⟨ep, M⟩, si⟩ := m
  obtain ⟨s1, s2, s3, s4⟩ := hsm
  dsimp only at s1 s2 s3 s4
  refine AC.N Try.func3 Try.ntmps3 ?_
  intro X hρ hmks
  simp only [nx, Nat.reduceAdd, Nat.reduceSub, BEq.rfl]
  repeat' (first | ((first | ((with_reducible apply AP.k_any); first | fail | ((with_reducible apply AP.k_any); refine AP.gh (gh_fz (b := 0) (u := 1) rfl rfl (by (repeat' (first | exact FzC.nil | apply FzC.cons | exact FzV.hd | apply FzV.ag | exact FzV.same))) (by (repeat' (first | exact FzB.nil | apply FzB.c | apply FzB.same | exact FzC.nil | apply FzC.cons | exact FzV.hd | apply FzV.ag | exact FzV.same)))) ?_; first | simp only [roE, roC, AV.ro, ro_B, ro_M, ro_E] | simp only [roE, roC, AV.ro, ro_B]) | refine AP.ST ?_ | (refine AP.Y ?_; dsimp only) | refine AP.G (fun hg => ?_) (fun hg => ?_) | (refine AP.V (fun c hnil => ?_); simp only [nz]) | refine AP.PF ?_)) <;> (try simp only [d1, List.length_map, nx, mx, rn, fq, Nat.mul_one, Bool.and_true, Bool.and_false, Nat.reduceBEq, Nat.reduceAdd, Nat.reduceSub, BEq.rfl])) | ((with_reducible apply AP.k_nil); first | (refine AP.nil (hQ' _ ?_); clear hQ' Q') | refine AP.nil ?_) | ((with_reducible apply CP.k_reg); refine cp_regG fun Q' hQ' => ?_) | refine CP.W ?_ | refine cp_cond rfl (fun hc => ?_) (fun hc => ?_) | (simp only [List.append_eq, List.cons_append, List.nil_append]))
  refine CP.gh gh_slot ?_; simp only [nx, Nat.reduceAdd, Nat.reduceSub, BEq.rfl]
  refine CP.gh gh_slot ?_; simp only [nx, Nat.reduceAdd, Nat.reduceSub, BEq.rfl]
  refine CP.gh gh_slot ?_; simp only [nx, Nat.reduceAdd, Nat.reduceSub, BEq.rfl]
  refine CP.gh gh_slot ?_; simp only [nx, Nat.reduceAdd, Nat.reduceSub, BEq.rfl]
  refine cp_loopS [2, 6, 7, 8, 9, 10, 11, 22, 23, 24, 25, 26, 27, 28, 29, 30, 31, 32, 33, 34, 35, 36, 37, 38, 39, 40, 41, 42, 43, 44, 45, 46, 47, 48, 49, 50, 51, 52, 53, 54, 55, 56, 57, 58, 59, 60, 61, 62, 63, 64, 65, 66, 67, 68, 69, 70, 71, 72, 73, 74, 75, 76, 77, 78, 79, 80, 81, 82, 83, 84, 85, 86, 87, 88, 89, 90, 91, 92, 93] (fun a : Nat × Nat => 2 - a.1) (fun a => a.1 ≤ 2) (fun a => [(6, I a.1)]) (fun a => [(1, ⟨a.1, .x⟩), (2, ⟨a.1, .x⟩), (3, ⟨a.1, .x⟩), (4, ⟨a.2, .x⟩)]) (0, 0) (Nat.zero_le _) (by exact Gh.W) ?_
  rintro ⟨t, c⟩ ht
  simp only [setT, deT, setB, List.set_cons_succ, List.set_cons_zero]
  dsimp only at ht
  by_cases htl : t < 2
  · have q1 : decide ((t : Int) < 2) = true := by simp; omega
    have q2 : IntKind.i64.wrap ((t : Int) + 1) = ((t + 1 : Nat) : Int) := wrap_i64 (by omega) (by omega)
    repeat' (first | ((first | ((with_reducible apply AP.k_any); first | refine AP.ST ?_ | (refine AP.Y ?_; dsimp only) | refine AP.G (fun hg => ?_) (fun hg => ?_) | (refine AP.V (fun c hnil => ?_); simp only [nz])  | refine AP.PF ?_)) <;> (try simp only [q1, q5, nx, mx, rn, fq, Nat.mul_one, Bool.and_true, Bool.and_false, Nat.reduceBEq, Nat.reduceAdd, Nat.reduceSub, BEq.rfl])) | ((with_reducible apply AP.k_nil); first | (refine AP.nil (hQ' _ ?_); clear hQ' Q') | refine AP.nil ?_) | ((with_reducible apply CP.k_reg); refine cp_regG fun Q' hQ' => ?_) | refine CP.W ?_ | refine cp_cond rfl (fun hc => ?_) (fun hc => ?_) | (simp only [List.append_eq, List.cons_append, List.nil_append]))
    clear k0 k1 k2 k3 k4
    refine cp_loopS [9, 46, 47, 48, 49, 50, 51, 52, 53, 54, 55, 56, 57, 58, 59] (fun i : Nat => Y.length - i) (fun i => i ≤ Y.length) (fun i => [(9, I i)]) (fun i => [(1, ⟨t + 1, .r tU 1 (mixR eB9 eB Y i)⟩)]) 0 (Nat.zero_le _) (by exact Gh.W) ?_
    intro i hi
    simp only [setT, deT, setB, List.set_cons_succ, List.set_cons_zero]
    have hbl := mixR_len eB9 eB Y i
    by_cases hil : i < Y.length
    · have r1 : decide ((i : Int) < (Y.length : Int)) = true := by simp; omega
      have r2 : IntKind.i64.wrap ((i : Int) + 1) = ((i + 1 : Nat) : Int) := wrap_i64 (by omega) (by omega)
      have hbr := mixR_at eB9 eB Y hil
      have hbs := mixR_set eB9 eB Y hil
      have hu := incU9 Y[i]
      generalize Y[i] = x at *
      repeat' (first | ((first | ((with_reducible apply AP.k_any); first | refine AP.ST ?_ | (refine AP.Y ?_; dsimp only) | refine AP.G (fun hg => ?_) (fun hg => ?_) | (refine AP.V (fun c hnil => ?_); simp only [nz])  | refine AP.PF ?_)) <;> (try simp only [r1, r2, hbl, hu, nx, mx, rn, fq, Nat.mul_one, Bool.and_true, Bool.and_false, Nat.reduceBEq, Nat.reduceAdd, Nat.reduceSub, BEq.rfl])) | ((with_reducible apply AP.k_nil); first | (refine AP.nil (hQ' _ ?_); clear hQ' Q') | refine AP.nil ?_) | ((with_reducible apply CP.k_reg); refine cp_regG fun Q' hQ' => ?_) | refine CP.W ?_ | refine cp_cond rfl (fun hc => ?_) (fun hc => ?_) | (simp only [List.append_eq, List.cons_append, List.nil_append]))
      refine ⟨i + 1, by omega, by omega, ?_⟩
      rw [← hbs]
      exact Gh.W
    · obtain rfl : i = Y.length := by omega
      have r1 : decide ((Y.length : Int) < (Y.length : Int)) = false := by simp
      repeat' (first | ((first | ((with_reducible apply AP.k_any); first | refine AP.ST ?_ | (refine AP.Y ?_; dsimp only) | refine AP.G (fun hg => ?_) (fun hg => ?_) | (refine AP.V (fun c hnil => ?_); simp only [nz])  | refine AP.PF ?_)) <;> (try simp only [r1, hbl, nx, mx, rn, fq, Nat.mul_one, Bool.and_true, Bool.and_false, Nat.reduceBEq, Nat.reduceAdd, Nat.reduceSub, BEq.rfl])) | ((with_reducible apply AP.k_nil); first | (refine AP.nil (hQ' _ ?_); clear hQ' Q') | refine AP.nil ?_) | ((with_reducible apply CP.k_reg); refine cp_regG fun Q' hQ' => ?_) | refine CP.W ?_ | refine cp_cond rfl (fun hc => ?_) (fun hc => ?_) | (simp only [List.append_eq, List.cons_append, List.nil_append]))
      refine cp_loopS [10, 11, 60, 61, 62, 63, 64, 65, 66, 67, 68, 69, 70, 71, 72, 73, 74, 75, 76, 77, 78, 79, 80, 81, 82, 83, 84, 85, 86, 87, 88, 89, 90, 91, 92, 93] (fun a : Nat × Nat => E.length - a.1) (fun a => a.1 ≤ E.length) (fun a => [(10, I a.1)]) (fun a => [(2, ⟨t + 1, .r tE 5 (mixR zE (eE (some tU)) E a.1)⟩), (4, ⟨a.2, .x⟩)]) (0, c) (Nat.zero_le _) (by exact Gh.W) ?_
      rintro ⟨n, v⟩ hn
      simp only [setT, deT, setB, List.set_cons_succ, List.set_cons_zero]
      dsimp only at hn
      have hel := mixR_len zE (eE (some tU)) E n
      by_cases hnl : n < E.length
      · have r1 : decide ((n : Int) < (E.length : Int)) = true := by simp; omega
        have r2 : IntKind.i64.wrap ((n : Int) + 1) = ((n + 1 : Nat) : Int) := wrap_i64 (by omega) (by omega)
        have hc := mixR_at zE (eE (some tU)) E hnl
        have hst := mixR_set zE (eE (some tU)) E hnl
        have hbe := s4 E[n] (List.getElem_mem hnl)
        generalize E[n] = e at *
        obtain ⟨p0, p1, p2, p3, body⟩ := e
        dsimp only [eE, zE] at hc hst hbe
        repeat' (first | ((first | ((with_reducible apply AP.k_any); first | refine AP.ST ?_ | (refine AP.Y ?_; dsimp only) | refine AP.G (fun hg => ?_) (fun hg => ?_) | (refine AP.V (fun c hnil => ?_); simp only [nz])  | refine AP.PF ?_)) <;> (try simp only [r1, hel, nx, mx, rn, fq, Nat.mul_one, Bool.and_true, Bool.and_false, Nat.reduceBEq, Nat.reduceAdd, Nat.reduceSub, BEq.rfl])) | ((with_reducible apply AP.k_nil); first | (refine AP.nil (hQ' _ ?_); clear hQ' Q') | refine AP.nil ?_) | ((with_reducible apply CP.k_reg); refine cp_regG fun Q' hQ' => ?_) | refine CP.W ?_ | refine cp_cond rfl (fun hc => ?_) (fun hc => ?_) | (simp only [List.append_eq, List.cons_append, List.nil_append]))
        refine CP.gh (gh_open (j := 2) (n := n) rfl hc rfl rfl) ?_
        simp only [opnC, opnA, nx, Nat.reduceAdd, Nat.reduceSub, BEq.rfl]
        refine cp_loopS [11, 67, 68, 69, 70, 71, 72, 73, 74, 75, 76, 77, 78, 79, 80, 81, 82, 83, 84, 85, 86, 87, 88] (fun j : Nat => body.length - j) (fun j => j ≤ body.length) (fun j => [(11, I j)]) (fun j => [(4, ⟨v + 1, .r tU 1 (mixR eB9 eB body j)⟩)]) 0 (Nat.zero_le _) (by exact Gh.W) ?_
        intro j hj
        simp only [setT, deT, setB, List.set_cons_succ, List.set_cons_zero]
        have hl4 := mixR_len eB9 eB body j
        by_cases hjl : j < body.length
        · have t1 : decide ((j : Int) < (body.length : Int)) = true := by simp; omega
          have t2 : IntKind.i64.wrap ((j : Int) + 1) = ((j + 1 : Nat) : Int) := wrap_i64 (by omega) (by omega)
          have hbr := mixR_at eB9 eB body hjl
          have hbs := mixR_set eB9 eB body hjl
          have hu := incU9 body[j]
          generalize body[j] = x at *
          repeat' (first | ((first | ((with_reducible apply AP.k_any); first | refine AP.ST ?_ | (refine AP.Y ?_; dsimp only) | refine AP.G (fun hg => ?_) (fun hg => ?_) | (refine AP.V (fun c hnil => ?_); simp only [nz])  | refine AP.PF ?_)) <;> (try simp only [t1, t2, hl4, hel, hu, nx, mx, rn, fq, Nat.mul_one, Bool.and_true, Bool.and_false, Nat.reduceBEq, Nat.reduceAdd, Nat.reduceSub, BEq.rfl])) | ((with_reducible apply AP.k_nil); first | (refine AP.nil (hQ' _ ?_); clear hQ' Q') | refine AP.nil ?_) | ((with_reducible apply CP.k_reg); refine cp_regG fun Q' hQ' => ?_) | refine CP.W ?_ | refine cp_cond rfl (fun hc => ?_) (fun hc => ?_) | (simp only [List.append_eq, List.cons_append, List.nil_append]))
          refine ⟨j + 1, by omega, by omega, ?_⟩
          rw [← hbs]
          exact Gh.W
        · obtain rfl : j = body.length := by omega
          have t1 : decide ((body.length : Int) < (body.length : Int)) = false := by simp
          have hba := mixR_all eB9 eB body
          repeat' (first | ((first | ((with_reducible apply AP.k_any); first | refine AP.ST ?_ | (refine AP.Y ?_; dsimp only) | refine AP.G (fun hg => ?_) (fun hg => ?_) | (refine AP.V (fun c hnil => ?_); simp only [nz])  | refine AP.PF ?_)) <;> (try simp only [t1, r2, hl4, hel, nx, mx, rn, fq, Nat.mul_one, Bool.and_true, Bool.and_false, Nat.reduceBEq, Nat.reduceAdd, Nat.reduceSub, BEq.rfl])) | ((with_reducible apply AP.k_nil); first | (refine AP.nil (hQ' _ ?_); clear hQ' Q') | refine AP.nil ?_) | ((with_reducible apply CP.k_reg); refine cp_regG fun Q' hQ' => ?_) | refine CP.W ?_ | refine cp_cond rfl (fun hc => ?_) (fun hc => ?_) | (simp only [List.append_eq, List.cons_append, List.nil_append]))
          refine ⟨(n + 1, v + 1), by (dsimp only; omega), by (dsimp only; omega), ?_⟩
          dsimp only
          rw [← hst, ← hba]
          refine Gh.trans (gh_shutC (j := 2) (n := n) (by exact rfl) (by (repeat' (first | exact ClsC.nil | apply ClsC.leaf rfl | apply ClsC.hd rfl | apply ClsC.ob rfl | apply ClsC.mo rfl | apply ClsC.mp rfl | apply ClsC.hp rfl | apply ClsC.fn))) (by exact rfl)) ?_
          simp only [List.set_cons_succ, List.set_cons_zero]
          exact Gh.W
      · obtain rfl : n = E.length := by omega
        have r1 : decide ((E.length : Int) < (E.length : Int)) = false := by simp
        repeat' (first | ((first | ((with_reducible apply AP.k_any); first | refine AP.ST ?_ | (refine AP.Y ?_; dsimp only) | refine AP.G (fun hg => ?_) (fun hg => ?_) | (refine AP.V (fun c hnil => ?_); simp only [nz])  | refine AP.PF ?_)) <;> (try simp only [r1, q2, hel, nx, mx, rn, fq, Nat.mul_one, Bool.and_true, Bool.and_false, Nat.reduceBEq, Nat.reduceAdd, Nat.reduceSub, BEq.rfl])) | ((with_reducible apply AP.k_nil); first | (refine AP.nil (hQ' _ ?_); clear hQ' Q') | refine AP.nil ?_) | ((with_reducible apply CP.k_reg); refine cp_regG fun Q' hQ' => ?_) | refine CP.W ?_ | refine cp_cond rfl (fun hc => ?_) (fun hc => ?_) | (simp only [List.append_eq, List.cons_append, List.nil_append]))
        exact ⟨(t + 1, v), by (dsimp only; omega), by (dsimp only; omega), by exact Gh.W⟩
  · obtain rfl : t = 2 := by omega
    have q1 : decide (((2 : Nat) : Int) < 2) = false := by decide
    repeat' (first | ((first | ((with_reducible apply AP.k_any); first | refine AP.ST ?_ | (refine AP.Y ?_; dsimp only) | refine AP.G (fun hg => ?_) (fun hg => ?_) | (refine AP.V (fun c hnil => ?_); simp only [nz])  | refine AP.PF ?_)) <;> (try simp only [q1, nx, mx, rn, fq, Nat.mul_one, Bool.and_true, Bool.and_false, Nat.reduceBEq, Nat.reduceAdd, Nat.reduceSub, BEq.rfl])) | ((with_reducible apply AP.k_nil); first | (refine AP.nil (hQ' _ ?_); clear hQ' Q') | refine AP.nil ?_) | ((with_reducible apply CP.k_reg); refine cp_regG fun Q' hQ' => ?_) | refine CP.W ?_ | refine cp_cond rfl (fun hc => ?_) (fun hc => ?_) | (simp only [List.append_eq, List.cons_append, List.nil_append]))
    (exact RetQ.A [] (by exact ⟨rfl, rfl⟩))
theorem mparse_all (b : List UInt8) : AC Try.prog 3 [bs none b] [] (fun v bs' => v = B true ∧ bs' = []) := by
  by_cases h : 5000 < b.length
  · exact mparse_big b h
  · exact mparse b (by omega)
end Go.Proofs.Ytmiajenjgcdhgaa
