/-
  Texts joined: H9, Q4, Q5, Q6, W12, W13, V7, V8, V9, Lk2, Lk3, Lk4, Q7, Le1, Le2, Le3, Le4, Q8.
-/
import Derived.Test.YtnjfchigdpifmaaGreatZ1
import Derived.Test.YtnjfchigdpifmaaGreatZ2
import Derived.Test.YtnjfchigdpifmaaGreatZ3
import Derived.Test.YtnjfchigdpifmaaGreatZ4
namespace Go.Proofs.YtnjfchigdpifmaaGreat
set_option linter.unusedVariables false
set_option linter.unusedSimpArgs false
set_option maxHeartbeats 8000000
open Go.RowKit
set_option maxRecDepth 100000
theorem sclone_ac (a : List UInt8) (ha : a.length ≤ 100000000) :
    AC Tryz.prog 14 [bs none a] [] (fun v bs' => v = bs (some tU) a ∧ bs' = []) := by
  refine AC.N Tryz.func14 Tryz.ntmps14 ?_
  intro X hρ hmks
  simp only [nx, Nat.reduceAdd, Nat.reduceSub, BEq.rfl]
  repeat' (first | ((first | ((with_reducible apply AP.k_any); first | refine AP.S ?_ | (refine AP.V (fun c hnil => ?_); simp only [nz]))) <;> (try simp only [nx, Nat.reduceAdd, Nat.reduceSub, BEq.rfl])) | ((with_reducible apply AP.k_nil); first | (refine AP.nil (hQ' _ ?_); clear hQ' Q') | refine AP.nil ?_) | ((with_reducible apply CP.k_reg); refine cp_regG fun Q' hQ' => ?_) | refine CP.W ?_ | refine cp_cond rfl (fun hc => ?_) (fun hc => ?_) | (simp only [List.append_eq, List.cons_append, List.nil_append]))
  · obtain rfl : a = [] := by simpa using hnil hc
    (exact RetQ.A [] (by exact ⟨rfl, rfl⟩))
  · (refine RetQ.B [] ?_; (try dsimp only [resV, List.getD_cons_succ, List.getD_cons_zero]); (exact ⟨by simp, rfl⟩))
theorem nr_tg (t : List UInt8) : NR (tg t) := by
  apply NR.ag
  intro a ha
  rw [← mixT_32] at ha
  obtain ⟨j, _, rfl⟩ := List.mem_map.1 ha
  exact NR.sc
theorem seal_ac (root : List UInt8) (p : Pkt) (hr : root.length ≤ 10000) (hp : p.body.length ≤ 60000) : AC Tryz.prog 18 [bs none root, .ag (eP p)] [] (fun v bs' => v = .ag (ePO { p with tag := tagS root p }) ∧ bs' = []) := by
  have h1 := sclone_ac p.body (by omega)
  have h2 := ltag_ac root p hr hp
  generalize tagS root p = t at *
  refine AC.N Tryz.func18 Tryz.ntmps18 ?_
  intro X hρ hmks
  simp only [nx, Nat.reduceAdd, Nat.reduceSub, BEq.rfl]
  refine CP.gh gh_slot ?_; simp only [nx, Nat.reduceAdd, Nat.reduceSub, BEq.rfl]
  refine CP.gh gh_slot ?_; simp only [nx, Nat.reduceAdd, Nat.reduceSub, BEq.rfl]
  repeat' (first | ((first | ((with_reducible apply AP.k_any); first | refine AP.S ?_ | refine AP.A ?_ | refine AP.AB 0 ?_ | refine AP.AB 1 ?_ | refine AP.AL ?_ | refine AP.LB ?_ | refine AP.TB ?_ | refine AP.IX ?_ | refine AP.SF ?_ | refine AP.SV ?_ | refine AP.CV ?_ | refine AP.CO ?_ | refine AP.FV ?_ | ((with_reducible apply AP.k_any); refine AP.CL (h2) (hnr := nr_tg t) ?_) | refine AP.PF ?_)) <;> (try simp only [ nx, q4, rn, fq, Nat.mul_one, Bool.and_true, Bool.and_false, Nat.reduceBEq, Nat.reduceAdd, Nat.reduceSub, BEq.rfl])) | ((with_reducible apply AP.k_nil); first | (refine AP.nil (hQ' _ ?_); clear hQ' Q') | refine AP.nil ?_) | ((with_reducible apply CP.k_reg); refine cp_regG fun Q' hQ' => ?_) | refine CP.W ?_ | refine cp_cond rfl (fun hc => ?_) (fun hc => ?_) | (simp only [List.append_eq, List.cons_append, List.nil_append]))
  (refine RetQ.B [] ?_; (try dsimp only [resV, List.getD_cons_succ, List.getD_cons_zero]); (exact ⟨rfl, rfl⟩))
theorem numS_take (l : List Int) {i : Nat} (h : i < l.length) : numS (l.take (i + 1)) = numS (l.take i) ++ intS l[i] := by
  rw [List.take_succ_eq_append_getElem h, numS_snoc]
theorem headS_num (p : Pkt) : headS p = numS [p.frm, p.to, p.epoch, p.boot, p.seqn] ++ (putS p.body.length 4 ++ p.body) := by
  simp [headS, numS]
theorem dhead_ac (p : Pkt) (hp : p.body.length ≤ 60000) : AC Tryz.prog 37 [.ag (eP p)] [] (fun v bs' => v = bs (some tU) (headS p) ∧ bs' = []) := by
  have h2 := (dbytes_ac p.body (by omega)).ro (r2 := bs none (putS p.body.length 4 ++ p.body)) (by simp only [AV.ro, ro_B])
  rw [headS_num]
  have hpl : (putS p.body.length 4 ++ p.body).length ≤ 70000 := by simp [putS_length]; omega
  generalize putS p.body.length 4 ++ p.body = y at *
  have hL : [p.frm, p.to, p.epoch, p.boot, p.seqn].length = 5 := rfl
  refine AC.N Tryz.func37 Tryz.ntmps37 ?_
  intro X hρ hmks
  simp only [nx, Nat.reduceAdd, Nat.reduceSub, BEq.rfl]
  refine CP.gh gh_slot ?_; simp only [nx, Nat.reduceAdd, Nat.reduceSub, BEq.rfl]
  repeat' (first | ((first | ((with_reducible apply AP.k_any); first | refine AP.S ?_ | refine AP.E ?_ | refine AP.A ?_ | refine AP.AB 0 ?_ | refine AP.AB 1 ?_ | refine AP.AL ?_ | refine AP.LB ?_ | refine AP.TB ?_ | refine AP.IX ?_ | refine AP.SF ?_ | refine AP.SV ?_ | refine AP.CV ?_ | refine AP.CO ?_ | refine AP.FV ?_  | refine AP.PF ?_)) <;> (try simp only [ nx, q4, rn, fq, Nat.mul_one, Bool.and_true, Bool.and_false, Nat.reduceBEq, Nat.reduceAdd, Nat.reduceSub, BEq.rfl])) | ((with_reducible apply AP.k_nil); first | (refine AP.nil (hQ' _ ?_); clear hQ' Q') | refine AP.nil ?_) | ((with_reducible apply CP.k_reg); refine cp_regG fun Q' hQ' => ?_) | refine CP.W ?_ | refine cp_cond rfl (fun hc => ?_) (fun hc => ?_) | (simp only [List.append_eq, List.cons_append, List.nil_append]))
  refine CP.gh (gh_nil (t := 3) (e := tU) (k := 1) rfl) ?_
  simp only [nx, Nat.reduceAdd, Nat.reduceSub, BEq.rfl]
  refine cp_loopS [3, 5, 17, 18, 19, 20, 21, 22, 23, 24, 25, 26, 27, 28, 29] (fun a : Nat × Nat => 5 - a.1) (fun a => a.1 ≤ 5) (fun a => [(5, I a.1), (3, .hd 2 a.2)]) (fun a => [(2, ⟨a.2, .r tU 1 ((numS ([p.frm, p.to, p.epoch, p.boot, p.seqn].take a.1)).map eB)⟩)]) (0, 1) (Nat.zero_le _) (by exact Gh.W) ?_
  rintro ⟨i, u⟩ hi
  simp only [setT, deT, setB, List.set_cons_succ, List.set_cons_zero]
  dsimp only at hi
  have hln := numS_length ([p.frm, p.to, p.epoch, p.boot, p.seqn].take i)
  by_cases hlt : i < 5
  · have hw : IntKind.i64.wrap ((i : Int) + 1) = ((i + 1 : Nat) : Int) := wrap_i64 (by omega) (by omega)
    have d5 : decide ((i : Int) < ((5 : Nat) : Int)) = true := by simp; omega
    have hx : ([[I p.frm], [I p.to], [I p.epoch], [I p.boot], [I p.seqn]] : List (List AV))[i]? = some [I ([p.frm, p.to, p.epoch, p.boot, p.seqn][i]'(by rw [hL]; exact hlt))] := by
      rcases i with _ | _ | _ | _ | _ | i <;> first | rfl | (exfalso; omega)
    have hn := numS_take [p.frm, p.to, p.epoch, p.boot, p.seqn] (i := i) (by rw [hL]; exact hlt)
    generalize [p.frm, p.to, p.epoch, p.boot, p.seqn][i]'(by rw [hL]; exact hlt) = n at *
    have h1 := dint_ac n
    have hil := intS_length n
    have hlen : ((numS ([p.frm, p.to, p.epoch, p.boot, p.seqn].take i)).map eB).length + ((intS n).map eB).length ≤ 1000000000 := by
      rw [List.length_map, List.length_map, hln, hil, List.length_take]; omega
    generalize numS ([p.frm, p.to, p.epoch, p.boot, p.seqn].take i) = W at *
    generalize intS n = z at *
    repeat' (first | ((first | ((with_reducible apply AP.k_any); first | refine AP.S ?_ | refine AP.E ?_ | refine AP.A ?_ | refine AP.AB 0 ?_ | refine AP.AB 1 ?_ | refine AP.AL ?_ | refine AP.LB ?_ | refine AP.TB ?_ | refine AP.IX ?_ | refine AP.SF ?_ | refine AP.SV ?_ | refine AP.CV ?_ | refine AP.CO ?_ | refine AP.FV ?_  | refine AP.PF ?_)) <;> (try simp only [d5, nx, q4, rn, fq, Nat.mul_one, Bool.and_true, Bool.and_false, Nat.reduceBEq, Nat.reduceAdd, Nat.reduceSub, BEq.rfl])) | ((with_reducible apply AP.k_nil); first | (refine AP.nil (hQ' _ ?_); clear hQ' Q') | refine AP.nil ?_) | ((with_reducible apply CP.k_reg); refine cp_regG fun Q' hQ' => ?_) | refine CP.W ?_ | refine cp_cond rfl (fun hc => ?_) (fun hc => ?_) | (simp only [List.append_eq, List.cons_append, List.nil_append]))
    simp only [hw]
    refine ⟨(i + 1, u + 1), by (dsimp only; omega), by (dsimp only; omega), ?_⟩
    dsimp only
    rw [hn, List.map_append]
    exact Gh.W
  · obtain rfl : i = 5 := by omega
    have d5 : decide (((5 : Nat) : Int) < ((5 : Nat) : Int)) = false := by simp
    rw [List.take_of_length_le (by rw [hL]; omega)] at hln ⊢
    have hlen : ((numS [p.frm, p.to, p.epoch, p.boot, p.seqn]).map eB).length + (y.map eB).length ≤ 1000000000 := by
      rw [List.length_map, List.length_map, hln, hL]; omega
    repeat' (first | ((first | ((with_reducible apply AP.k_any); first | refine AP.S ?_ | refine AP.E ?_ | refine AP.A ?_ | refine AP.AB 0 ?_ | refine AP.AB 1 ?_ | refine AP.AL ?_ | refine AP.LB ?_ | refine AP.TB ?_ | refine AP.IX ?_ | refine AP.SF ?_ | refine AP.SV ?_ | refine AP.CV ?_ | refine AP.CO ?_ | refine AP.FV ?_  | refine AP.PF ?_)) <;> (try simp only [d5, nx, q4, rn, fq, Nat.mul_one, Bool.and_true, Bool.and_false, Nat.reduceBEq, Nat.reduceAdd, Nat.reduceSub, BEq.rfl])) | ((with_reducible apply AP.k_nil); first | (refine AP.nil (hQ' _ ?_); clear hQ' Q') | refine AP.nil ?_) | ((with_reducible apply CP.k_reg); refine cp_regG fun Q' hQ' => ?_) | refine CP.W ?_ | refine cp_cond rfl (fun hc => ?_) (fun hc => ?_) | (simp only [List.append_eq, List.cons_append, List.nil_append]))
    (refine RetQ.B [] ?_; (try dsimp only [resV, List.getD_cons_succ, List.getD_cons_zero]); (exact ⟨by simp, rfl⟩))
theorem dtag_ac' (t : List UInt8) (ht : t.length = 32) : AC Tryz.prog 39 [tg t] [] (fun v bs' => v = bs none t ∧ bs' = []) := by
  have h1 := (dbytes03_ac t ht).ro (r2 := bs none t) (by simp only [AV.ro, ro_B])
  refine AC.N Tryz.func39 Tryz.ntmps39 ?_
  intro X hρ hmks
  simp only [nx, Nat.reduceAdd, Nat.reduceSub, BEq.rfl]
  repeat' (first | ((first | ((with_reducible apply AP.k_any); first | refine AP.S ?_ | refine AP.A ?_ | refine AP.AB 0 ?_ | refine AP.AB 1 ?_ | refine AP.AL ?_ | refine AP.LB ?_ | refine AP.TB ?_ | refine AP.IX ?_ | refine AP.SF ?_ | refine AP.SV ?_ | refine AP.CV ?_ | refine AP.CO ?_ | refine AP.FV ?_  | refine AP.PF ?_)) <;> (try simp only [ nx, q4, rn, fq, Nat.mul_one, Bool.and_true, Bool.and_false, Nat.reduceBEq, Nat.reduceAdd, Nat.reduceSub, BEq.rfl])) | ((with_reducible apply AP.k_nil); first | (refine AP.nil (hQ' _ ?_); clear hQ' Q') | refine AP.nil ?_) | ((with_reducible apply CP.k_reg); refine cp_regG fun Q' hQ' => ?_) | refine CP.W ?_ | refine cp_cond rfl (fun hc => ?_) (fun hc => ?_) | (simp only [List.append_eq, List.cons_append, List.nil_append]))
  (exact RetQ.A [] (by exact ⟨rfl, rfl⟩))
theorem dpbytes_ac (p : Pkt) (hp : p.body.length ≤ 60000) (ht : p.tag.length = 32) : AC Tryz.prog 22 [.ag (eP p)] [] (fun v bs' => v = bs none (headS p ++ p.tag) ∧ bs' = []) := by
  have hl := headS_len p
  have h1 := (dhead_ac p hp).ro (r2 := bs none (headS p)) (by simp only [AV.ro, ro_B])
  have h2 := dtag_ac' p.tag ht
  have h3 := (cat_ac (headS p) p.tag (by omega) (by omega)).ro (r2 := bs none (headS p ++ p.tag)) (by simp only [AV.ro, ro_B])
  generalize headS p ++ p.tag = x at *
  generalize headS p = y at *
  refine AC.N Tryz.func22 Tryz.ntmps22 ?_
  intro X hρ hmks
  simp only [nx, Nat.reduceAdd, Nat.reduceSub, BEq.rfl]
  refine CP.gh gh_slot ?_; simp only [nx, Nat.reduceAdd, Nat.reduceSub, BEq.rfl]
  repeat' (first | ((first | ((with_reducible apply AP.k_any); first | refine AP.S ?_ | refine AP.A ?_ | refine AP.AB 0 ?_ | refine AP.AB 1 ?_ | refine AP.AL ?_ | refine AP.LB ?_ | refine AP.TB ?_ | refine AP.IX ?_ | refine AP.SF ?_ | refine AP.SV ?_ | refine AP.CV ?_ | refine AP.CO ?_ | refine AP.FV ?_  | refine AP.PF ?_) | ((with_reducible apply DW.k_any); first | refine DW.R ?_ | refine DW.R' ?_ | refine DW.W ?_ | refine DW.W' ?_ | refine DW.RA ?_ | refine DW.A 0 ?_ | refine DW.A 1 ?_ | refine DW.A 2 ?_ | refine DW.A' 0 ?_ | refine DW.A' 2 ?_ | ((fail_if_success refine DW.known rfl ?_); refine DW.G (fun hg => ?_) (fun hg => ?_)) | refine DW.RX ?_ | refine DW.WX ?_ | refine DW.WX' ?_) | ((with_reducible apply DW.k_any); first | refine DW.R ?_ | refine DW.R' ?_ | refine DW.W ?_ | refine DW.W' ?_ | (refine DW.known rfl ?_; (with_reducible first | apply DW.sx 2 | apply DW.sxN 2); (iterate 2 (focus (simp only [ft, nm, Nat.reduceAdd, Nat.reduceBEq, List.getElem?_cons_zero, List.getElem?_cons_succ]; exact rfl))); (focus (intro X V; simp only [ft, nm, Nat.reduceAdd, Nat.reduceBEq]; (try (refine AP.Y ?_; dsimp only)); (first  | fail); (try simp only [nx, Nat.reduceAdd, Nat.reduceSub, BEq.rfl]); refine AP.nil ?_; (first | refine ⟨trivial, rfl, ?_⟩ | refine ⟨rfl, rfl, ?_⟩); (repeat' (first | exact Mg.nil | apply Mg.keep rfl | apply Mg.take rfl)); done)); (focus (refine Exists.intro (fun _ => 0) ?_; apply Exists.intro; (repeat' (first | exact Mg.nil | apply Mg.keep rfl | apply Mg.take rfl)); done)); (iterate 2 (focus (exact rfl)))) | ((fail_if_success refine DW.known rfl ?_); refine DW.G (fun hg => ?_) (fun hg => ?_)))) <;> (try simp only [ nx, q4, rn, fq, Nat.mul_one, Bool.and_true, Bool.and_false, Nat.reduceBEq, Nat.reduceAdd, Nat.reduceSub, BEq.rfl])) | ((with_reducible apply AP.k_nil); first | (refine AP.nil (hQ' _ ?_); clear hQ' Q') | refine AP.nil ?_) | ((with_reducible apply CP.k_drw); refine cp_drwX fun Q' hQ' => ?_) | ((with_reducible apply CP.k_drw1); refine cp_drawX ?_) | ((with_reducible apply DW.k_nil); refine DW.nl ?_; first | (refine hQ' _ ?_; clear hQ' Q') | skip) | ((with_reducible apply CP.k_reg); refine cp_regG fun Q' hQ' => ?_) | refine CP.W ?_ | refine cp_cond rfl (fun hc => ?_) (fun hc => ?_) | (simp only [List.append_eq, List.cons_append, List.nil_append]))
  (exact RetQ.A [] (by exact ⟨rfl, rfl⟩))
theorem dtagP_ac (root : List UInt8) (p : Pkt) (hr : root.length ≤ 10000) (hp : p.body.length ≤ 60000) : AC Tryz.prog 21 [bs none root, .ag (eP p)] [] (fun v bs' => v = tg (tagS root p) ∧ bs' = []) := by
  have hl := headS_len p
  have h1 := dderive_ac root lkS [p.frm, p.to, p.epoch] (by omega) (by decide) (by simp)
  have h2 := (dhead_ac p hp).ro (r2 := bs none (headS p)) (by simp only [AV.ro, ro_B])
  have hd : (deriveS root lkS [p.frm, p.to, p.epoch]).length = 32 := hmacS_len _ _
  have h4 := dhmac_ac (deriveS root lkS [p.frm, p.to, p.epoch]) (headS p) (by omega) (by omega)
  unfold tagS
  generalize deriveS root lkS [p.frm, p.to, p.epoch] = k at *
  generalize headS p = y at *
  have d1 : decide ((65536 : Int) < (y.length : Int)) = false := by simp; omega
  generalize hmacS k y = t at *
  refine AC.N Tryz.func21 Tryz.ntmps21 ?_
  intro X hρ hmks
  simp only [nx, Nat.reduceAdd, Nat.reduceSub, BEq.rfl]
  refine CP.gh gh_slot ?_; simp only [nx, Nat.reduceAdd, Nat.reduceSub, BEq.rfl]
  refine CP.gh gh_slot ?_; simp only [nx, Nat.reduceAdd, Nat.reduceSub, BEq.rfl]
  repeat' (first | ((first | ((with_reducible apply AP.k_any); first | refine AP.S ?_ | refine AP.A ?_ | refine AP.AB 0 ?_ | refine AP.AB 1 ?_ | refine AP.AL ?_ | refine AP.LB ?_ | refine AP.TB ?_ | refine AP.IX ?_ | refine AP.SF ?_ | refine AP.SV ?_ | refine AP.CV ?_ | refine AP.CO ?_ | refine AP.FV ?_  | refine AP.PF ?_)) <;> (try simp only [d1, nx, q4, rn, fq, Nat.mul_one, Bool.and_true, Bool.and_false, Nat.reduceBEq, Nat.reduceAdd, Nat.reduceSub, BEq.rfl])) | ((with_reducible apply AP.k_nil); first | (refine AP.nil (hQ' _ ?_); clear hQ' Q') | refine AP.nil ?_) | ((with_reducible apply CP.k_reg); refine cp_regG fun Q' hQ' => ?_) | refine CP.W ?_ | refine cp_cond rfl (fun hc => ?_) (fun hc => ?_) | (simp only [List.append_eq, List.cons_append, List.nil_append]))
  (exact RetQ.A [] (by exact ⟨rfl, rfl⟩))
end Go.Proofs.YtnjfchigdpifmaaGreat

namespace Go.Proofs.YtnjfchigdpifmaaGreat
set_option linter.unusedVariables false
set_option linter.unusedSimpArgs false
set_option maxHeartbeats 8000000
open Go.RowKit
set_option maxRecDepth 100000
abbrev Sd := Int × Int
abbrev kS (p : Sd) : Value := .agg #[.int .i64 p.1, .int .i64 p.2]
structure Ends where
  root : List UInt8
  who : Int
  boot : Int
  sent : List (Sd × Int)
  wins : List (Sd × Wn)
abbrev tEn : TypeId := 51
abbrev keyN (l : List (Sd × Int)) : List Value := l.map fun p => kS p.1
abbrev rowN (l : List (Sd × Int)) : List (List AV) := l.map fun p => [I p.2]
abbrev keyW (l : List (Sd × Wn)) : List Value := l.map fun p => kS p.1
abbrev rowW (l : List (Sd × Wn)) : List (List AV) := l.map fun p => [.ob tWn (wC p.2)]
abbrev enE (x : Ends) : List AV := [B true, bs none x.root, I x.who, I x.boot, .mo (keyN x.sent) (rowN x.sent), .mo (keyW x.wins) (rowW x.wins)]
abbrev xE (x : Ends) : Bx := .c tEn (enE x)
theorem lnew_ac (root : List UInt8) (who boot : Int) (hr : root.length ≤ 100000000) : AC Tryz.prog 4 [bs none root, I who, I boot] [] (fun v bs' => v = .bp 0 0 0 ∧ bs' = [xE ⟨root, who, boot, [], []⟩]) := by
  have h1 := sclone_ac root hr
  refine AC.N Tryz.func4 Tryz.ntmps4 ?_
  intro X hρ hmks
  simp only [nx, Nat.reduceAdd, Nat.reduceSub, BEq.rfl]
  refine CP.gh gh_slot ?_; simp only [nx, Nat.reduceAdd, Nat.reduceSub, BEq.rfl]
  refine CP.gh gh_slot ?_; simp only [nx, Nat.reduceAdd, Nat.reduceSub, BEq.rfl]
  refine CP.gh gh_slot ?_; simp only [nx, Nat.reduceAdd, Nat.reduceSub, BEq.rfl]
  refine CP.gh gh_slot ?_; simp only [nx, Nat.reduceAdd, Nat.reduceSub, BEq.rfl]
  repeat' (first | ((first | ((with_reducible apply AP.k_any); first | refine AP.ST ?_ | (refine AP.Y ?_; dsimp only) | refine AP.G (fun hg => ?_) (fun hg => ?_) | (refine AP.V (fun c hnil => ?_); simp only [nz])  | refine AP.PF ?_)) <;> (try simp only [ nx, mx, rn, fq, Nat.mul_one, Bool.and_true, Bool.and_false, Nat.reduceBEq, Nat.reduceAdd, Nat.reduceSub, BEq.rfl])) | ((with_reducible apply AP.k_nil); first | (refine AP.nil (hQ' _ ?_); clear hQ' Q') | refine AP.nil ?_) | ((with_reducible apply CP.k_reg); refine cp_regG fun Q' hQ' => ?_) | refine CP.W ?_ | refine cp_cond rfl (fun hc => ?_) (fun hc => ?_) | (simp only [List.append_eq, List.cons_append, List.nil_append]))
  (exact RetQ.Fz [(3, 1)] (by exact ⟨rfl, rfl⟩))
theorem lnone_ac (x : Ends) : AC Tryz.prog 16 [.bp 0 0 0] [xE x] (fun v bs' => v = B false ∧ bs' = [xE x]) := by
  refine AC.N Tryz.func16 Tryz.ntmps16 ?_
  intro X hρ hmks
  simp only [nx, Nat.reduceAdd, Nat.reduceSub, BEq.rfl]
  repeat' (first | ((first | ((with_reducible apply AP.k_any); first | refine AP.ST ?_ | (refine AP.Y ?_; dsimp only) | refine AP.G (fun hg => ?_) (fun hg => ?_) | (refine AP.V (fun c hnil => ?_); simp only [nz])  | refine AP.PF ?_)) <;> (try simp only [ nx, mx, rn, fq, Nat.mul_one, Bool.and_true, Bool.and_false, Nat.reduceBEq, Nat.reduceAdd, Nat.reduceSub, BEq.rfl])) | ((with_reducible apply AP.k_nil); first | (refine AP.nil (hQ' _ ?_); clear hQ' Q') | refine AP.nil ?_) | ((with_reducible apply CP.k_reg); refine cp_regG fun Q' hQ' => ?_) | refine CP.W ?_ | refine cp_cond rfl (fun hc => ?_) (fun hc => ?_) | (simp only [List.append_eq, List.cons_append, List.nil_append]))
  (exact RetQ.A [(0, 0)] (by exact ⟨rfl, rfl⟩))
theorem lboot_ac (x : Ends) : AC Tryz.prog 13 [.bp 0 0 0] [xE x] (fun v bs' => v = I x.boot ∧ bs' = [xE x]) := by
  have h1 := lnone_ac x
  refine AC.N Tryz.func13 Tryz.ntmps13 ?_
  intro X hρ hmks
  simp only [nx, Nat.reduceAdd, Nat.reduceSub, BEq.rfl]
  repeat' (first | ((first | ((with_reducible apply AP.k_any); first | refine AP.ST ?_ | (refine AP.Y ?_; dsimp only) | refine AP.G (fun hg => ?_) (fun hg => ?_) | (refine AP.V (fun c hnil => ?_); simp only [nz])  | refine AP.PF ?_)) <;> (try simp only [ nx, mx, rn, fq, Nat.mul_one, Bool.and_true, Bool.and_false, Nat.reduceBEq, Nat.reduceAdd, Nat.reduceSub, BEq.rfl])) | ((with_reducible apply AP.k_nil); first | (refine AP.nil (hQ' _ ?_); clear hQ' Q') | refine AP.nil ?_) | ((with_reducible apply CP.k_reg); refine cp_regG fun Q' hQ' => ?_) | refine CP.W ?_ | refine cp_cond rfl (fun hc => ?_) (fun hc => ?_) | (simp only [List.append_eq, List.cons_append, List.nil_append]))
  (exact RetQ.A [(0, 0)] (by exact ⟨rfl, rfl⟩))
end Go.Proofs.YtnjfchigdpifmaaGreat

namespace Go.Proofs.YtnjfchigdpifmaaGreat
set_option linter.unusedVariables false
set_option linter.unusedSimpArgs false
open Go.RowKit
set_option maxRecDepth 100000
abbrev tSd : TypeId := 58
theorem kin (l : List Value) (h : ∀ k ∈ l, ∃ p : Sd, k = kS p) : ∀ k ∈ l, isKey Tryz.prog tSd [.i .i64, .i .i64] k = true := fun k hk => by
  obtain ⟨p, rfl⟩ := h k hk
  have hA : aggT Tryz.prog tSd = true := by kernel_rfl
  unfold isKey
  rw [hA]; rfl
theorem kinS {α : Type} (l : List (Sd × α)) : ∀ k ∈ l.map (fun p => kS p.1), isKey Tryz.prog tSd [.i .i64, .i .i64] k = true := kin _ fun k hk => by
  obtain ⟨p, _, rfl⟩ := List.mem_map.1 hk
  exact ⟨_, rfl⟩
theorem kEq_kS (a b : Sd) : kEq (kS a) (kS b) = decide (a = b) := by
  obtain ⟨a1, a2⟩ := a
  obtain ⟨b1, b2⟩ := b
  simp only [kEq, eqVs, eqV1, Bool.and_true]
  rw [Bool.eq_iff_iff]; simp
/-- where a side stands -/
def at_ {α : Type} (s : Sd) : List (Sd × α) → Option Nat
  | [] => none
  | p :: l => if s = p.1 then some 0 else (at_ s l).map (· + 1)
theorem fnd_at_ {α : Type} (s : Sd) : ∀ l : List (Sd × α), fnd (kS s) (l.map fun p => kS p.1) = at_ s l
  | [] => rfl
  | p :: l => by
    simp only [List.map_cons, fnd, kEq_kS, at_, fnd_at_ s l]
    by_cases h : s = p.1
    · simp [h]
    · simp only [h, decide_false, if_false]
      cases at_ s l <;> rfl
theorem at_some {α : Type} {s : Sd} : ∀ {l : List (Sd × α)} {n : Nat}, at_ s l = some n → ∃ x, l[n]? = some (s, x)
  | [], _, h => by simp [at_] at h
  | p :: l, n, h => by
    unfold at_ at h
    split at h
    · rename_i hs; injection h with h; subst h; exact ⟨p.2, by simp [hs]⟩
    · obtain ⟨m, hm, rfl⟩ := Option.map_eq_some_iff.1 h
      obtain ⟨x, hx⟩ := at_some hm
      exact ⟨x, by simpa using hx⟩
/-- a side's, or what stands for none -/
def got {α : Type} (s : Sd) (l : List (Sd × α)) (d : α) : α := match at_ s l with
  | some n => match l[n]? with
    | some p => p.2
    | none => d
  | none => d
def puts {α : Type} (s : Sd) (l : List (Sd × α)) (v : α) : List (Sd × α) := match at_ s l with
  | some n => l.set n (s, v)
  | none => l ++ [(s, v)]
def Ends.pkt (x : Ends) (to epoch : Int) (body : List UInt8) : Pkt := ⟨x.who, to, epoch, x.boot, got (to, epoch) x.sent 0 + 1, body, List.replicate 32 0⟩
def Ends.sealed (x : Ends) (to epoch : Int) (body : List UInt8) : Pkt := { x.pkt to epoch body with tag := tagS x.root (x.pkt to epoch body) }
def Ends.bump (x : Ends) (to epoch : Int) : Ends := { x with sent := puts (to, epoch) x.sent (got (to, epoch) x.sent 0 + 1) }
theorem print_acO (p : Pkt) (hp : p.body.length ≤ 60000) (ht : p.tag.length = 32) : AC Tryz.prog 17 [.ag (ePO p)] [] (fun v bs' => v = .tu [if mayP p then bs none (headS p ++ p.tag) else bs none [], I (if mayP p then 0 else 2)] ∧ bs' = []) := by
  refine AC.own ?_
  have e : roC [.ag (ePO p)] = [.ag (eP p)] := by
    simp only [roC, AV.ro, ePO, eP, tagC, List.cons_append, List.nil_append, ro_B]
  rw [e]
  exact print_ac p hp ht
theorem tagC_z : tagC (List.replicate 32 0) = [.sc (.int .u8 0), .sc (.int .u8 0), .sc (.int .u8 0), .sc (.int .u8 0), .sc (.int .u8 0), .sc (.int .u8 0), .sc (.int .u8 0), .sc (.int .u8 0), .sc (.int .u8 0), .sc (.int .u8 0), .sc (.int .u8 0), .sc (.int .u8 0), .sc (.int .u8 0), .sc (.int .u8 0), .sc (.int .u8 0), .sc (.int .u8 0), .sc (.int .u8 0), .sc (.int .u8 0), .sc (.int .u8 0), .sc (.int .u8 0), .sc (.int .u8 0), .sc (.int .u8 0), .sc (.int .u8 0), .sc (.int .u8 0), .sc (.int .u8 0), .sc (.int .u8 0), .sc (.int .u8 0), .sc (.int .u8 0), .sc (.int .u8 0), .sc (.int .u8 0), .sc (.int .u8 0), .sc (.int .u8 0)] := by
  have h : ∀ i, i < 32 → (List.replicate 32 (0 : UInt8)).getD i 0 = 0 := fun i hi => by rw [List.getD_eq_getElem?_getD, List.getElem?_replicate, if_pos hi]; rfl
  have h0 : (((0 : UInt8).toNat : Nat) : Int) = 0 := rfl
  simp only [tagC, h _ (by decide : 0 < 32), h _ (by decide : 1 < 32), h _ (by decide : 2 < 32), h _ (by decide : 3 < 32), h _ (by decide : 4 < 32), h _ (by decide : 5 < 32), h _ (by decide : 6 < 32), h _ (by decide : 7 < 32), h _ (by decide : 8 < 32), h _ (by decide : 9 < 32), h _ (by decide : 10 < 32), h _ (by decide : 11 < 32), h _ (by decide : 12 < 32), h _ (by decide : 13 < 32), h _ (by decide : 14 < 32), h _ (by decide : 15 < 32), h _ (by decide : 16 < 32), h _ (by decide : 17 < 32), h _ (by decide : 18 < 32), h _ (by decide : 19 < 32), h _ (by decide : 20 < 32), h _ (by decide : 21 < 32), h _ (by decide : 22 < 32), h _ (by decide : 23 < 32), h _ (by decide : 24 < 32), h _ (by decide : 25 < 32), h _ (by decide : 26 < 32), h _ (by decide : 27 < 32), h _ (by decide : 28 < 32), h _ (by decide : 29 < 32), h _ (by decide : 30 < 32), h _ (by decide : 31 < 32), U, h0]
theorem eP_z (f t e b s : Int) (y : List UInt8) : eP ⟨f, t, e, b, s, y, List.replicate 32 0⟩ = [I f, I t, I e, I b, I s, bs none y, .sc (.int .u8 0), .sc (.int .u8 0), .sc (.int .u8 0), .sc (.int .u8 0), .sc (.int .u8 0), .sc (.int .u8 0), .sc (.int .u8 0), .sc (.int .u8 0), .sc (.int .u8 0), .sc (.int .u8 0), .sc (.int .u8 0), .sc (.int .u8 0), .sc (.int .u8 0), .sc (.int .u8 0), .sc (.int .u8 0), .sc (.int .u8 0), .sc (.int .u8 0), .sc (.int .u8 0), .sc (.int .u8 0), .sc (.int .u8 0), .sc (.int .u8 0), .sc (.int .u8 0), .sc (.int .u8 0), .sc (.int .u8 0), .sc (.int .u8 0), .sc (.int .u8 0), .sc (.int .u8 0), .sc (.int .u8 0), .sc (.int .u8 0), .sc (.int .u8 0), .sc (.int .u8 0), .sc (.int .u8 0)] := congrArg (fun l => I f :: I t :: I e :: I b :: I s :: bs none y :: l) tagC_z
theorem mayP_tag (p : Pkt) (t : List UInt8) : mayP { p with tag := t } = mayP p := rfl
theorem headS_tag (p : Pkt) (t : List UInt8) : headS { p with tag := t } = headS p := rfl
theorem puts_keys {α : Type} {s : Sd} {l : List (Sd × α)} {n : Nat} (h : at_ s l = some n) (v : α) : (l.set n (s, v)).map (fun p => kS p.1) = l.map fun p => kS p.1 := by
  obtain ⟨x, hx⟩ := at_some h
  apply List.ext_getElem?
  intro i
  rw [List.getElem?_map, List.getElem?_map, List.getElem?_set]
  split
  · rename_i hi; subst hi
    rw [hx, if_pos (List.getElem?_eq_some_iff.1 hx).1]; rfl
  · rfl
end Go.Proofs.YtnjfchigdpifmaaGreat

namespace Go.Proofs.YtnjfchigdpifmaaGreat
set_option linter.unusedVariables false
set_option linter.unusedSimpArgs false
set_option maxHeartbeats 8000000
open Go.RowKit
set_option maxRecDepth 100000
theorem send_no (x : Ends) (to epoch : Int) (body : List UInt8) (hr : x.root.length ≤ 10000) (hb : body.length ≤ 60000) (hn : 0 ≤ got (to, epoch) x.sent 0 ∧ got (to, epoch) x.sent 0 ≤ 1000000000) (hm : mayP (x.pkt to epoch body) = false) :
    AC Tryz.prog 7 [.bp 0 0 0, I to, I epoch, bs none body] [xE x] (fun v bs' => v = .tu [bs none [], I 2] ∧ bs' = [xE x]) := by
  have hm' : mayP (x.sealed to epoch body) = false := (mayP_tag _ _).trans hm
  have h1 := lnone_ac x
  have h2 := seal_ac x.root (x.pkt to epoch body) hr hb
  have h3 := print_acO (x.sealed to epoch body) hb (tagS_len _ _)
  have hk := kinS x.sent
  have hf := fnd_at_ (to, epoch) x.sent
  rw [hm'] at h3
  simp only [Bool.false_eq_true, if_false] at h3
  have hw : IntKind.i64.wrap (got (to, epoch) x.sent 0 + 1) = got (to, epoch) x.sent 0 + 1 := wrap_i64 (by omega) (by omega)
  unfold Ends.sealed at *
  generalize tagS x.root (x.pkt to epoch body) = T at *
  unfold Ends.pkt at *
  rw [eP_z] at h2
  cases ha : at_ (to, epoch) x.sent with
  | none =>
    have hg : got (to, epoch) x.sent 0 = 0 := by unfold got; rw [ha]
    rw [ha] at hf
    rw [hg] at hw h2 h3
    refine AC.N Tryz.func7 Tryz.ntmps7 ?_
    intro X hρ hmks
    simp only [nx, Nat.reduceAdd, Nat.reduceSub, BEq.rfl]
    refine CP.gh gh_slot ?_; simp only [nx, Nat.reduceAdd, Nat.reduceSub, BEq.rfl]
    refine CP.gh gh_slot ?_; simp only [nx, Nat.reduceAdd, Nat.reduceSub, BEq.rfl]
    refine CP.gh gh_slot ?_; simp only [nx, Nat.reduceAdd, Nat.reduceSub, BEq.rfl]
    repeat' (first | ((first | ((with_reducible apply AP.k_any); first | refine AP.ST ?_ | (refine AP.Y ?_; dsimp only) | refine AP.G (fun hg => ?_) (fun hg => ?_) | (refine AP.V (fun c hnil => ?_); simp only [nz])  | refine AP.PF ?_) | ((with_reducible apply DW.k_any); first | refine DW.ST ?_ | ((fail_if_success refine DW.known rfl ?_); refine DW.G (fun hg => ?_) (fun hg => ?_))) | ((with_reducible apply DW.k_any); first | refine DW.R ?_ | refine DW.R' ?_ | refine DW.W ?_ | refine DW.W' ?_ | (refine DW.known rfl ?_; (with_reducible first | apply DW.sx 2 | apply DW.sxN 2); (iterate 2 (focus (simp only [ft, nm, Nat.reduceAdd, Nat.reduceBEq, List.getElem?_cons_zero, List.getElem?_cons_succ]; exact rfl))); (focus (intro X V; simp only [ft, nm, Nat.reduceAdd, Nat.reduceBEq]; (try (refine AP.Y ?_; dsimp only)); (first  | fail); (try simp only [nx, Nat.reduceAdd, Nat.reduceSub, BEq.rfl]); refine AP.nil ?_; (first | refine ⟨trivial, rfl, ?_⟩ | refine ⟨rfl, rfl, ?_⟩); (repeat' (first | exact Mg.nil | apply Mg.keep rfl | apply Mg.take rfl)); done)); (focus (refine Exists.intro (fun _ => 0) ?_; apply Exists.intro; (repeat' (first | exact Mg.nil | apply Mg.keep rfl | apply Mg.take rfl)); done)); (iterate 2 (focus (exact rfl)))) | ((fail_if_success refine DW.known rfl ?_); refine DW.G (fun hg => ?_) (fun hg => ?_)))) <;> (try simp only [hw, nx, mx, rn, fq, Nat.mul_one, Bool.and_true, Bool.and_false, Nat.reduceBEq, Nat.reduceAdd, Nat.reduceSub, BEq.rfl])) | ((with_reducible apply AP.k_nil); first | (refine AP.nil (hQ' _ ?_); clear hQ' Q') | refine AP.nil ?_) | ((with_reducible apply CP.k_drw); refine cp_drwX fun Q' hQ' => ?_) | ((with_reducible apply CP.k_drw1); refine cp_drawX ?_) | ((with_reducible apply DW.k_nil); refine DW.nl ?_; first | (refine hQ' _ ?_; clear hQ' Q') | skip) | ((with_reducible apply CP.k_reg); refine cp_regG fun Q' hQ' => ?_) | refine CP.W ?_ | refine cp_cond rfl (fun hc => ?_) (fun hc => ?_) | (simp only [List.append_eq, List.cons_append, List.nil_append]))
    (exact RetQ.A [(0, 0)] (by exact ⟨rfl, rfl⟩))
  | some n =>
    obtain ⟨v, hv⟩ := at_some ha
    have hg : got (to, epoch) x.sent 0 = v := by unfold got; rw [ha]; dsimp only; rw [hv]
    have hro := rowAt_map (e := fun p : Sd × Int => [I p.2]) hv rfl
    rw [ha] at hf
    rw [hg] at hw h2 h3
    refine AC.N Tryz.func7 Tryz.ntmps7 ?_
    intro X hρ hmks
    simp only [nx, Nat.reduceAdd, Nat.reduceSub, BEq.rfl]
    refine CP.gh gh_slot ?_; simp only [nx, Nat.reduceAdd, Nat.reduceSub, BEq.rfl]
    refine CP.gh gh_slot ?_; simp only [nx, Nat.reduceAdd, Nat.reduceSub, BEq.rfl]
    refine CP.gh gh_slot ?_; simp only [nx, Nat.reduceAdd, Nat.reduceSub, BEq.rfl]
    repeat' (first | ((first | ((with_reducible apply AP.k_any); first | refine AP.ST ?_ | (refine AP.Y ?_; dsimp only) | refine AP.G (fun hg => ?_) (fun hg => ?_) | (refine AP.V (fun c hnil => ?_); simp only [nz])  | refine AP.PF ?_) | ((with_reducible apply DW.k_any); first | refine DW.ST ?_ | ((fail_if_success refine DW.known rfl ?_); refine DW.G (fun hg => ?_) (fun hg => ?_))) | ((with_reducible apply DW.k_any); first | refine DW.R ?_ | refine DW.R' ?_ | refine DW.W ?_ | refine DW.W' ?_ | (refine DW.known rfl ?_; (with_reducible first | apply DW.sx 2 | apply DW.sxN 2); (iterate 2 (focus (simp only [ft, nm, Nat.reduceAdd, Nat.reduceBEq, List.getElem?_cons_zero, List.getElem?_cons_succ]; exact rfl))); (focus (intro X V; simp only [ft, nm, Nat.reduceAdd, Nat.reduceBEq]; (try (refine AP.Y ?_; dsimp only)); (first  | fail); (try simp only [nx, Nat.reduceAdd, Nat.reduceSub, BEq.rfl]); refine AP.nil ?_; (first | refine ⟨trivial, rfl, ?_⟩ | refine ⟨rfl, rfl, ?_⟩); (repeat' (first | exact Mg.nil | apply Mg.keep rfl | apply Mg.take rfl)); done)); (focus (refine Exists.intro (fun _ => 0) ?_; apply Exists.intro; (repeat' (first | exact Mg.nil | apply Mg.keep rfl | apply Mg.take rfl)); done)); (iterate 2 (focus (exact rfl)))) | ((fail_if_success refine DW.known rfl ?_); refine DW.G (fun hg => ?_) (fun hg => ?_)))) <;> (try simp only [hw, nx, mx, rn, fq, Nat.mul_one, Bool.and_true, Bool.and_false, Nat.reduceBEq, Nat.reduceAdd, Nat.reduceSub, BEq.rfl])) | ((with_reducible apply AP.k_nil); first | (refine AP.nil (hQ' _ ?_); clear hQ' Q') | refine AP.nil ?_) | ((with_reducible apply CP.k_drw); refine cp_drwX fun Q' hQ' => ?_) | ((with_reducible apply CP.k_drw1); refine cp_drawX ?_) | ((with_reducible apply DW.k_nil); refine DW.nl ?_; first | (refine hQ' _ ?_; clear hQ' Q') | skip) | ((with_reducible apply CP.k_reg); refine cp_regG fun Q' hQ' => ?_) | refine CP.W ?_ | refine cp_cond rfl (fun hc => ?_) (fun hc => ?_) | (simp only [List.append_eq, List.cons_append, List.nil_append]))
    (exact RetQ.A [(0, 0)] (by exact ⟨rfl, rfl⟩))
theorem send_ok (x : Ends) (to epoch : Int) (body : List UInt8) (hr : x.root.length ≤ 10000) (hb : body.length ≤ 60000) (hn : 0 ≤ got (to, epoch) x.sent 0 ∧ got (to, epoch) x.sent 0 ≤ 1000000000) (hm : mayP (x.pkt to epoch body) = true) :
    AC Tryz.prog 7 [.bp 0 0 0, I to, I epoch, bs none body] [xE x] (fun v bs' => v = .tu [bs none (headS (x.pkt to epoch body) ++ tagS x.root (x.pkt to epoch body)), I 0] ∧ bs' = [xE (x.bump to epoch)]) := by
  have hm' : mayP (x.sealed to epoch body) = true := (mayP_tag _ _).trans hm
  have h1 := lnone_ac x
  have h2 := seal_ac x.root (x.pkt to epoch body) hr hb
  have h3 := print_acO (x.sealed to epoch body) hb (tagS_len _ _)
  have hk := kinS x.sent
  have hf := fnd_at_ (to, epoch) x.sent
  rw [hm'] at h3
  simp only [if_true] at h3
  have hw : IntKind.i64.wrap (got (to, epoch) x.sent 0 + 1) = got (to, epoch) x.sent 0 + 1 := wrap_i64 (by omega) (by omega)
  rw [show headS (x.sealed to epoch body) = headS (x.pkt to epoch body) from headS_tag _ _] at h3
  unfold Ends.sealed at *
  generalize headS (x.pkt to epoch body) = hd at *
  generalize tagS x.root (x.pkt to epoch body) = T at *
  unfold Ends.pkt at *
  rw [eP_z] at h2
  dsimp only at h3
  generalize hd ++ T = y at *
  cases ha : at_ (to, epoch) x.sent with
  | none =>
    have hg : got (to, epoch) x.sent 0 = 0 := by unfold got; rw [ha]
    have e1 : xE (x.bump to epoch) = .c tEn [B true, bs none x.root, I x.who, I x.boot, .mo (keyN x.sent ++ [kS (to, epoch)]) ((rowN x.sent ++ [[I 0]]).set x.sent.length [I 1]), .mo (keyW x.wins) (rowW x.wins)] := by
      have e2 : (rowN x.sent ++ [[I 0]]).set x.sent.length [I 1] = rowN x.sent ++ [[I 1]] := by
        rw [List.set_append_right _ _ (by simp)]; simp
      rw [e2]
      unfold Ends.bump puts
      rw [hg, ha]
      simp only [xE, enE, keyN, rowN, List.map_append, List.map_cons, List.map_nil]
      rfl
    rw [e1]
    have hk1 : ∀ k ∈ keyN x.sent ++ [kS (to, epoch)], isKey Tryz.prog tSd [.i .i64, .i .i64] k = true := kin _ fun k hk => by
      rcases List.mem_append.1 hk with hk | hk
      · obtain ⟨p, _, rfl⟩ := List.mem_map.1 hk; exact ⟨_, rfl⟩
      · simp at hk; exact ⟨_, hk⟩
    have hf1 : fnd (kS (to, epoch)) (keyN x.sent ++ [kS (to, epoch)]) = some x.sent.length := by
      rw [fnd_app (by rw [hf, ha])]
      simp [fnd, kEq_kS]
    have hro1 : rowAt (rowN x.sent ++ [[I 0]]) none x.sent.length = some (I 0) := by
      simp [rowAt, AV.cp]
    rw [ha] at hf
    rw [hg] at hw h2 h3
    have hw0 : IntKind.i64.wrap (0 + 1) = 1 := rfl
    refine AC.N Tryz.func7 Tryz.ntmps7 ?_
    intro X hρ hmks
    simp only [nx, Nat.reduceAdd, Nat.reduceSub, BEq.rfl]
    refine CP.gh gh_slot ?_; simp only [nx, Nat.reduceAdd, Nat.reduceSub, BEq.rfl]
    refine CP.gh gh_slot ?_; simp only [nx, Nat.reduceAdd, Nat.reduceSub, BEq.rfl]
    refine CP.gh gh_slot ?_; simp only [nx, Nat.reduceAdd, Nat.reduceSub, BEq.rfl]
    repeat' (first | ((first | ((with_reducible apply AP.k_any); first | refine AP.ST ?_ | (refine AP.Y ?_; dsimp only) | refine AP.G (fun hg => ?_) (fun hg => ?_) | (refine AP.V (fun c hnil => ?_); simp only [nz])  | refine AP.PF ?_)) <;> (try simp only [hw, nx, mx, rn, fq, Nat.mul_one, Bool.and_true, Bool.and_false, Nat.reduceBEq, Nat.reduceAdd, Nat.reduceSub, BEq.rfl])) | ((with_reducible apply AP.k_nil); first | (refine AP.nil (hQ' _ ?_); clear hQ' Q') | refine AP.nil ?_) | ((with_reducible apply CP.k_reg); refine cp_regG fun Q' hQ' => ?_) | refine CP.W ?_ | refine cp_cond rfl (fun hc => ?_) (fun hc => ?_) | (simp only [List.append_eq, List.cons_append, List.nil_append]))
    first | refine cp_drwX fun Q' hQ' => ?_ | refine cp_drawX ?_
    repeat' (first | ((first | ((with_reducible apply AP.k_any); first | refine AP.ST ?_ | (refine AP.Y ?_; dsimp only) | refine AP.G (fun hg => ?_) (fun hg => ?_) | (refine AP.V (fun c hnil => ?_); simp only [nz])  | refine AP.PF ?_) | ((with_reducible apply DW.k_any); first | refine DW.ST ?_ | ((fail_if_success refine DW.known rfl ?_); refine DW.G (fun hg => ?_) (fun hg => ?_))) | ((with_reducible apply DW.k_any); first | refine DW.R ?_ | refine DW.R' ?_ | refine DW.W ?_ | refine DW.W' ?_ | (refine DW.known rfl ?_; (with_reducible first | apply DW.sx 2 | apply DW.sxN 2); (iterate 2 (focus (simp only [ft, nm, Nat.reduceAdd, Nat.reduceBEq, List.getElem?_cons_zero, List.getElem?_cons_succ]; exact rfl))); (focus (intro X V; simp only [ft, nm, Nat.reduceAdd, Nat.reduceBEq]; (try (refine AP.Y ?_; dsimp only)); (first  | fail); (try simp only [nx, Nat.reduceAdd, Nat.reduceSub, BEq.rfl]); refine AP.nil ?_; (first | refine ⟨trivial, rfl, ?_⟩ | refine ⟨rfl, rfl, ?_⟩); (repeat' (first | exact Mg.nil | apply Mg.keep rfl | apply Mg.take rfl)); done)); (focus (refine Exists.intro (fun _ => 0) ?_; apply Exists.intro; (repeat' (first | exact Mg.nil | apply Mg.keep rfl | apply Mg.take rfl)); done)); (iterate 2 (focus (exact rfl)))) | ((fail_if_success refine DW.known rfl ?_); refine DW.G (fun hg => ?_) (fun hg => ?_)))) <;> (try simp only [hw, nx, mx, rn, fq, Nat.mul_one, Bool.and_true, Bool.and_false, Nat.reduceBEq, Nat.reduceAdd, Nat.reduceSub, BEq.rfl])) | ((with_reducible apply AP.k_nil); first | (refine AP.nil (hQ' _ ?_); clear hQ' Q') | refine AP.nil ?_) | ((with_reducible apply DW.k_nil); refine DW.nl ?_; first | (refine hQ' _ ?_; clear hQ' Q') | skip) | ((with_reducible apply CP.k_reg); refine cp_regG fun Q' hQ' => ?_) | refine CP.W ?_ | refine cp_cond rfl (fun hc => ?_) (fun hc => ?_) | (simp only [List.append_eq, List.cons_append, List.nil_append]))
    first | refine cp_drwX fun Q' hQ' => ?_ | refine cp_drawX ?_
    repeat' (first | ((first | ((with_reducible apply AP.k_any); first | refine AP.ST ?_ | (refine AP.Y ?_; dsimp only) | refine AP.G (fun hg => ?_) (fun hg => ?_) | (refine AP.V (fun c hnil => ?_); simp only [nz])  | refine AP.PF ?_) | ((with_reducible apply DW.k_any); first | refine DW.ST ?_ | ((fail_if_success refine DW.known rfl ?_); refine DW.G (fun hg => ?_) (fun hg => ?_))) | ((with_reducible apply DW.k_any); first | refine DW.R ?_ | refine DW.R' ?_ | refine DW.W ?_ | refine DW.W' ?_ | (refine DW.known rfl ?_; (with_reducible first | apply DW.sx 2 | apply DW.sxN 2); (iterate 2 (focus (simp only [ft, nm, Nat.reduceAdd, Nat.reduceBEq, List.getElem?_cons_zero, List.getElem?_cons_succ]; exact rfl))); (focus (intro X V; simp only [ft, nm, Nat.reduceAdd, Nat.reduceBEq]; (try (refine AP.Y ?_; dsimp only)); (first  | fail); (try simp only [nx, Nat.reduceAdd, Nat.reduceSub, BEq.rfl]); refine AP.nil ?_; (first | refine ⟨trivial, rfl, ?_⟩ | refine ⟨rfl, rfl, ?_⟩); (repeat' (first | exact Mg.nil | apply Mg.keep rfl | apply Mg.take rfl)); done)); (focus (refine Exists.intro (fun _ => 0) ?_; apply Exists.intro; (repeat' (first | exact Mg.nil | apply Mg.keep rfl | apply Mg.take rfl)); done)); (iterate 2 (focus (exact rfl)))) | ((fail_if_success refine DW.known rfl ?_); refine DW.G (fun hg => ?_) (fun hg => ?_)))) <;> (try simp only [hw, nx, mx, rn, fq, Nat.mul_one, Bool.and_true, Bool.and_false, Nat.reduceBEq, Nat.reduceAdd, Nat.reduceSub, BEq.rfl])) | ((with_reducible apply AP.k_nil); first | (refine AP.nil (hQ' _ ?_); clear hQ' Q') | refine AP.nil ?_) | ((with_reducible apply DW.k_nil); refine DW.nl ?_; first | (refine hQ' _ ?_; clear hQ' Q') | skip) | ((with_reducible apply CP.k_reg); refine cp_regG fun Q' hQ' => ?_) | refine CP.W ?_ | refine cp_cond rfl (fun hc => ?_) (fun hc => ?_) | (simp only [List.append_eq, List.cons_append, List.nil_append]))
    refine cp_drawI (fun zs zb => ⟨setT zs.t [(50, cond (zb.getD 0 false) (.bp 0 0 0) (.tu [])), (51, cond (zb.getD 1 false) (.bp 0 0 0) (.tu [])), (52, cond (zb.getD 2 false) (.bp 0 0 4) (.tu [])), (53, cond (zb.getD 3 false) (.hd 1 2) (.tu [])), (54, cond (zb.getD 4 false) (.ag [I to, I epoch]) (.tu [])), (55, cond (zb.getD 5 false) (I 0) (.tu [])), (56, cond (zb.getD 6 false) (I (IntKind.i64.wrap (0 + 1))) (.tu [])), (57, cond (zb.getD 7 false) (.tu [I 0, .hd 5 2]) (.tu [])), (58, cond (zb.getD 8 false) (.hd 5 2) (.tu []))], ((zs.b.set 1 (cond (zb.getD 9 false) (⟨2, .m (keyN x.sent ++ [kS (to, epoch)]) ((rowN x.sent ++ [[I 0]]).set x.sent.length [I (IntKind.i64.wrap (0 + 1))]) none none⟩) (cond (zb.getD 7 false) (⟨2, .m (keyN x.sent ++ [kS (to, epoch)]) (rowN x.sent ++ [[I 0]]) none (some (x.sent.length, 5, 2))⟩) (zs.b.getD 1 ⟨0, .x⟩)))).set 5 (cond (zb.getD 7 false) (⟨2, .x⟩) (zs.b.getD 5 ⟨0, .x⟩)))⟩) (by kernel_rfl) (by kernel_rfl) (by kernel_rfl) ?_ ?_
    rotate_left
    simp only [cond_true, cond_false, setT, List.set_cons_succ, List.set_cons_zero, List.getD_cons_succ, List.getD_cons_zero, List.set_cons_succ, List.length_cons, List.length_nil, List.replicate_succ, List.replicate_zero, Nat.reduceAdd]
    rotate_left
    · intro b hb' hcl
      obtain ⟨l0, b0, rfl, hb0⟩ := len_cons hb'
      obtain ⟨l1, b1, rfl, hb1⟩ := len_cons hb0
      obtain ⟨l2, b2, rfl, hb2⟩ := len_cons hb1
      obtain ⟨l3, b3, rfl, hb3⟩ := len_cons hb2
      obtain ⟨l4, b4, rfl, hb4⟩ := len_cons hb3
      obtain ⟨l5, b5, rfl, hb5⟩ := len_cons hb4
      obtain ⟨l6, b6, rfl, hb6⟩ := len_cons hb5
      obtain ⟨l7, b7, rfl, hb7⟩ := len_cons hb6
      obtain ⟨l8, b8, rfl, hb8⟩ := len_cons hb7
      obtain ⟨l9, b9, rfl, hb9⟩ := len_cons hb8
      obtain rfl := List.length_eq_zero_iff.1 hb9
      clear hb' hb0 hb1 hb2 hb3 hb4 hb5 hb6 hb7 hb8 hb9
      · simp only [closedB, depsOk, Region.binds, List.toList_toArray, List.all_cons, List.all_nil, List.getD_cons_succ, List.getD_cons_zero, Bool.not_true, Bool.not_false, Bool.true_or, Bool.false_or, Bool.and_true, Bool.true_and, Bool.or_true, Bool.and_false, Bool.or_false, Bool.false_and, Bool.and_eq_true, Bool.or_eq_true, Bool.not_eq_true'] at hcl
        simp only [StepsP]
        refine ⟨?_, ?_, ?_, ?_, ?_, ?_, ?_, ?_, ?_, ?_, trivial⟩
        · intro h1 h2
          simp [depsOk, Region.binds] at h1 h2
          subst h1
          (repeat (obtain ⟨rfl, h2⟩ := h2))
          (try subst h2)
          clear hcl
          all_goals simp only [cond_true, cond_false, setT, List.set_cons_succ, List.set_cons_zero, List.getD_cons_succ, List.getD_cons_zero, List.set_cons_succ]
          all_goals ((with_reducible apply AP.k_any); first | (refine AP.sm false rfl ?_ ?_; focus ((repeat' (with_reducible apply And.intro)) <;> (first | exact True.intro | exact rfl | omega | decide | (simp; omega) | (simp; done) | assumption | exact .inl rfl | (refine .inr ?_; simp; try omega)))) | fail "no step")
          all_goals (try simp only [nx, Nat.reduceAdd, Nat.reduceSub, BEq.rfl])
          all_goals refine AP.nil ?_
          all_goals exact ⟨rfl, rfl⟩
        · intro h1 h2
          simp [depsOk, Region.binds] at h1 h2
          subst h1
          (repeat (obtain ⟨rfl, h2⟩ := h2))
          (try subst h2)
          clear hcl
          all_goals simp only [cond_true, cond_false, setT, List.set_cons_succ, List.set_cons_zero, List.getD_cons_succ, List.getD_cons_zero, List.set_cons_succ]
          all_goals ((with_reducible apply AP.k_any); first | (refine AP.sm false rfl ?_ ?_; focus ((repeat' (with_reducible apply And.intro)) <;> (first | exact True.intro | exact rfl | omega | decide | (simp; omega) | (simp; done) | assumption | exact .inl rfl | (refine .inr ?_; simp; try omega)))) | fail "no step")
          all_goals (try simp only [nx, Nat.reduceAdd, Nat.reduceSub, BEq.rfl])
          all_goals refine AP.nil ?_
          all_goals exact ⟨rfl, rfl⟩
        · intro h1 h2
          simp [depsOk, Region.binds] at h1 h2
          subst h1
          (repeat (obtain ⟨rfl, h2⟩ := h2))
          (try subst h2)
          clear hcl
          all_goals simp only [cond_true, cond_false, setT, List.set_cons_succ, List.set_cons_zero, List.getD_cons_succ, List.getD_cons_zero, List.set_cons_succ]
          all_goals ((with_reducible apply AP.k_any); first | (refine AP.sm false rfl ?_ ?_; focus ((repeat' (with_reducible apply And.intro)) <;> (first | exact True.intro | exact rfl | omega | decide | (simp; omega) | (simp; done) | assumption | exact .inl rfl | (refine .inr ?_; simp; try omega)))) | fail "no step")
          all_goals (try simp only [nx, Nat.reduceAdd, Nat.reduceSub, BEq.rfl])
          all_goals refine AP.nil ?_
          all_goals exact ⟨rfl, rfl⟩
        · intro h1 h2
          simp [depsOk, Region.binds] at h1 h2
          subst h1
          (repeat (obtain ⟨rfl, h2⟩ := h2))
          (try subst h2)
          (first | (obtain rfl : l7 = false := by grind only) | skip)
          (first | (obtain rfl : l9 = false := by grind only) | skip)
          clear hcl
          all_goals simp only [cond_true, cond_false, setT, List.set_cons_succ, List.set_cons_zero, List.getD_cons_succ, List.getD_cons_zero, List.set_cons_succ]
          all_goals ((with_reducible apply AP.k_any); first | (refine AP.sm false rfl ?_ ?_; focus ((repeat' (with_reducible apply And.intro)) <;> (first | exact True.intro | exact rfl | omega | decide | (simp; omega) | (simp; done) | assumption | exact .inl rfl | (refine .inr ?_; simp; try omega)))) | (refine AP.el rfl ?_ (by (first | (refine ⟨?_, ?_⟩; assumption; rfl) | exact ⟨mapAt (by (first | omega | (simp; omega) | (simp; done) | assumption)), rfl⟩ | exact ⟨rfl, rfl⟩)) ?_; focus ((repeat' (with_reducible apply And.intro)) <;> (first | exact True.intro | exact rfl | omega | decide | (simp; omega) | (simp; done) | assumption | exact .inl rfl | (refine .inr ?_; simp; try omega)))) | fail "no step")
          all_goals (try simp only [nx, Nat.reduceAdd, Nat.reduceSub, BEq.rfl])
          all_goals refine AP.nil ?_
          all_goals exact ⟨rfl, rfl⟩
        · intro h1 h2
          simp [depsOk, Region.binds] at h1 h2
          subst h1
          (repeat (obtain ⟨rfl, h2⟩ := h2))
          (try subst h2)
          (first | (obtain rfl : l7 = false := by grind only) | skip)
          (first | (obtain rfl : l9 = false := by grind only) | skip)
          clear hcl
          all_goals simp only [cond_true, cond_false, setT, List.set_cons_succ, List.set_cons_zero, List.getD_cons_succ, List.getD_cons_zero, List.set_cons_succ]
          all_goals ((with_reducible apply AP.k_any); first | (refine AP.sm false rfl ?_ ?_; focus ((repeat' (with_reducible apply And.intro)) <;> (first | exact True.intro | exact rfl | omega | decide | (simp; omega) | (simp; done) | assumption | exact .inl rfl | (refine .inr ?_; simp; try omega)))) | (refine AP.el rfl ?_ (by (first | (refine ⟨?_, ?_⟩; assumption; rfl) | exact ⟨mapAt (by (first | omega | (simp; omega) | (simp; done) | assumption)), rfl⟩ | exact ⟨rfl, rfl⟩)) ?_; focus ((repeat' (with_reducible apply And.intro)) <;> (first | exact True.intro | exact rfl | omega | decide | (simp; omega) | (simp; done) | assumption | exact .inl rfl | (refine .inr ?_; simp; try omega)))) | fail "no step")
          all_goals (try simp only [nx, Nat.reduceAdd, Nat.reduceSub, BEq.rfl])
          all_goals refine AP.nil ?_
          all_goals exact ⟨rfl, rfl⟩
        · intro h1 h2
          simp [depsOk, Region.binds] at h1 h2
          subst h1
          (repeat (obtain ⟨rfl, h2⟩ := h2))
          (try subst h2)
          (first | (obtain rfl : l9 = false := by grind only) | skip)
          clear hcl
          (first | cases l7 | skip)
          all_goals simp only [cond_true, cond_false, setT, List.set_cons_succ, List.set_cons_zero, List.getD_cons_succ, List.getD_cons_zero, List.set_cons_succ]
          all_goals ((with_reducible apply AP.k_any); first | refine AP.LK ?_ | refine AP.LN ?_ | fail "no step")
          all_goals (try simp only [nx, Nat.reduceAdd, Nat.reduceSub, BEq.rfl])
          all_goals refine AP.nil ?_
          all_goals exact ⟨rfl, rfl⟩
        · intro h1 h2
          simp [depsOk, Region.binds] at h1 h2
          subst h1
          (repeat (obtain ⟨rfl, h2⟩ := h2))
          (try subst h2)
          clear hcl
          all_goals simp only [cond_true, cond_false, setT, List.set_cons_succ, List.set_cons_zero, List.getD_cons_succ, List.getD_cons_zero, List.set_cons_succ]
          all_goals ((with_reducible apply AP.k_any); first | (refine AP.sm false rfl ?_ ?_; focus ((repeat' (with_reducible apply And.intro)) <;> (first | exact True.intro | exact rfl | omega | decide | (simp; omega) | (simp; done) | assumption | exact .inl rfl | (refine .inr ?_; simp; try omega)))) | fail "no step")
          all_goals (try simp only [nx, Nat.reduceAdd, Nat.reduceSub, BEq.rfl])
          all_goals refine AP.nil ?_
          all_goals exact ⟨rfl, rfl⟩
        · intro h1 h2
          simp [depsOk, Region.binds] at h1 h2
          subst h1
          (repeat (obtain ⟨rfl, h2⟩ := h2))
          (try subst h2)
          (first | (obtain rfl : l9 = false := by grind only) | skip)
          clear hcl
          all_goals simp only [cond_true, cond_false, setT, List.set_cons_succ, List.set_cons_zero, List.getD_cons_succ, List.getD_cons_zero, List.set_cons_succ]
          all_goals ((with_reducible apply AP.k_any); first | refine AP.ME ?_ | refine AP.MF ?_ | fail "no step")
          all_goals (try simp only [nx, Nat.reduceAdd, Nat.reduceSub, BEq.rfl])
          all_goals refine AP.nil ?_
          all_goals exact ⟨rfl, rfl⟩
        · intro h1 h2
          simp [depsOk, Region.binds] at h1 h2
          subst h1
          (repeat (obtain ⟨rfl, h2⟩ := h2))
          (try subst h2)
          clear hcl
          all_goals simp only [cond_true, cond_false, setT, List.set_cons_succ, List.set_cons_zero, List.getD_cons_succ, List.getD_cons_zero, List.set_cons_succ]
          all_goals ((with_reducible apply AP.k_any); first | (refine AP.sm false rfl ?_ ?_; focus ((repeat' (with_reducible apply And.intro)) <;> (first | exact True.intro | exact rfl | omega | decide | (simp; omega) | (simp; done) | assumption | exact .inl rfl | (refine .inr ?_; simp; try omega)))) | fail "no step")
          all_goals (try simp only [nx, Nat.reduceAdd, Nat.reduceSub, BEq.rfl])
          all_goals refine AP.nil ?_
          all_goals exact ⟨rfl, rfl⟩
        · intro h1 h2
          simp [depsOk, Region.binds] at h1 h2
          subst h1
          (repeat (obtain ⟨rfl, h2⟩ := h2))
          (try subst h2)
          (first | (obtain rfl : l7 = true := by grind only) | skip)
          clear hcl
          all_goals simp only [cond_true, cond_false, setT, List.set_cons_succ, List.set_cons_zero, List.getD_cons_succ, List.getD_cons_zero, List.set_cons_succ]
          all_goals ((with_reducible apply AP.k_any); first | refine AP.MS ?_ | fail "no step")
          all_goals (try simp only [nx, Nat.reduceAdd, Nat.reduceSub, BEq.rfl])
          all_goals refine AP.nil ?_
          all_goals exact ⟨rfl, rfl⟩
    simp only [hw0]
    repeat' (first | ((first | ((with_reducible apply AP.k_any); first | refine AP.ST ?_ | (refine AP.Y ?_; dsimp only) | refine AP.G (fun hg => ?_) (fun hg => ?_) | (refine AP.V (fun c hnil => ?_); simp only [nz])  | refine AP.PF ?_)) <;> (try simp only [hw, nx, mx, rn, fq, Nat.mul_one, Bool.and_true, Bool.and_false, Nat.reduceBEq, Nat.reduceAdd, Nat.reduceSub, BEq.rfl])) | ((with_reducible apply AP.k_nil); first | (refine AP.nil (hQ' _ ?_); clear hQ' Q') | refine AP.nil ?_) | ((with_reducible apply CP.k_reg); refine cp_regG fun Q' hQ' => ?_) | refine CP.W ?_ | refine cp_cond rfl (fun hc => ?_) (fun hc => ?_) | (simp only [List.append_eq, List.cons_append, List.nil_append]))
    (exact RetQ.A [(0, 0)] (by exact ⟨rfl, rfl⟩))
  | some n =>
    obtain ⟨v, hv⟩ := at_some ha
    have hg : got (to, epoch) x.sent 0 = v := by unfold got; rw [ha]; dsimp only; rw [hv]
    have e1 : xE (x.bump to epoch) = .c tEn [B true, bs none x.root, I x.who, I x.boot, .mo (keyN x.sent) ((rowN x.sent).set n [I (v + 1)]), .mo (keyW x.wins) (rowW x.wins)] := by
      have e2 := puts_keys ha (v + 1)
      have e3 : (x.sent.set n ((to, epoch), v + 1)).map (fun p : Sd × Int => [I p.2]) = (rowN x.sent).set n [I (v + 1)] := by rw [List.map_set]
      unfold Ends.bump puts
      rw [hg, ha]
      dsimp only [xE, enE, keyN, rowN]
      rw [e2, e3]
    rw [e1]
    have hro := rowAt_map (e := fun p : Sd × Int => [I p.2]) hv rfl
    rw [ha] at hf
    rw [hg] at hw h2 h3
    refine AC.N Tryz.func7 Tryz.ntmps7 ?_
    intro X hρ hmks
    simp only [nx, Nat.reduceAdd, Nat.reduceSub, BEq.rfl]
    refine CP.gh gh_slot ?_; simp only [nx, Nat.reduceAdd, Nat.reduceSub, BEq.rfl]
    refine CP.gh gh_slot ?_; simp only [nx, Nat.reduceAdd, Nat.reduceSub, BEq.rfl]
    refine CP.gh gh_slot ?_; simp only [nx, Nat.reduceAdd, Nat.reduceSub, BEq.rfl]
    repeat' (first | ((first | ((with_reducible apply AP.k_any); first | refine AP.ST ?_ | (refine AP.Y ?_; dsimp only) | refine AP.G (fun hg => ?_) (fun hg => ?_) | (refine AP.V (fun c hnil => ?_); simp only [nz])  | refine AP.PF ?_)) <;> (try simp only [hw, nx, mx, rn, fq, Nat.mul_one, Bool.and_true, Bool.and_false, Nat.reduceBEq, Nat.reduceAdd, Nat.reduceSub, BEq.rfl])) | ((with_reducible apply AP.k_nil); first | (refine AP.nil (hQ' _ ?_); clear hQ' Q') | refine AP.nil ?_) | ((with_reducible apply CP.k_reg); refine cp_regG fun Q' hQ' => ?_) | refine CP.W ?_ | refine cp_cond rfl (fun hc => ?_) (fun hc => ?_) | (simp only [List.append_eq, List.cons_append, List.nil_append]))
    first | refine cp_drwX fun Q' hQ' => ?_ | refine cp_drawX ?_
    repeat' (first | ((first | ((with_reducible apply AP.k_any); first | refine AP.ST ?_ | (refine AP.Y ?_; dsimp only) | refine AP.G (fun hg => ?_) (fun hg => ?_) | (refine AP.V (fun c hnil => ?_); simp only [nz])  | refine AP.PF ?_) | ((with_reducible apply DW.k_any); first | refine DW.ST ?_ | ((fail_if_success refine DW.known rfl ?_); refine DW.G (fun hg => ?_) (fun hg => ?_))) | ((with_reducible apply DW.k_any); first | refine DW.R ?_ | refine DW.R' ?_ | refine DW.W ?_ | refine DW.W' ?_ | (refine DW.known rfl ?_; (with_reducible first | apply DW.sx 2 | apply DW.sxN 2); (iterate 2 (focus (simp only [ft, nm, Nat.reduceAdd, Nat.reduceBEq, List.getElem?_cons_zero, List.getElem?_cons_succ]; exact rfl))); (focus (intro X V; simp only [ft, nm, Nat.reduceAdd, Nat.reduceBEq]; (try (refine AP.Y ?_; dsimp only)); (first  | fail); (try simp only [nx, Nat.reduceAdd, Nat.reduceSub, BEq.rfl]); refine AP.nil ?_; (first | refine ⟨trivial, rfl, ?_⟩ | refine ⟨rfl, rfl, ?_⟩); (repeat' (first | exact Mg.nil | apply Mg.keep rfl | apply Mg.take rfl)); done)); (focus (refine Exists.intro (fun _ => 0) ?_; apply Exists.intro; (repeat' (first | exact Mg.nil | apply Mg.keep rfl | apply Mg.take rfl)); done)); (iterate 2 (focus (exact rfl)))) | ((fail_if_success refine DW.known rfl ?_); refine DW.G (fun hg => ?_) (fun hg => ?_)))) <;> (try simp only [hw, nx, mx, rn, fq, Nat.mul_one, Bool.and_true, Bool.and_false, Nat.reduceBEq, Nat.reduceAdd, Nat.reduceSub, BEq.rfl])) | ((with_reducible apply AP.k_nil); first | (refine AP.nil (hQ' _ ?_); clear hQ' Q') | refine AP.nil ?_) | ((with_reducible apply DW.k_nil); refine DW.nl ?_; first | (refine hQ' _ ?_; clear hQ' Q') | skip) | ((with_reducible apply CP.k_reg); refine cp_regG fun Q' hQ' => ?_) | refine CP.W ?_ | refine cp_cond rfl (fun hc => ?_) (fun hc => ?_) | (simp only [List.append_eq, List.cons_append, List.nil_append]))
    first | refine cp_drwX fun Q' hQ' => ?_ | refine cp_drawX ?_
    repeat' (first | ((first | ((with_reducible apply AP.k_any); first | refine AP.ST ?_ | (refine AP.Y ?_; dsimp only) | refine AP.G (fun hg => ?_) (fun hg => ?_) | (refine AP.V (fun c hnil => ?_); simp only [nz])  | refine AP.PF ?_) | ((with_reducible apply DW.k_any); first | refine DW.ST ?_ | ((fail_if_success refine DW.known rfl ?_); refine DW.G (fun hg => ?_) (fun hg => ?_))) | ((with_reducible apply DW.k_any); first | refine DW.R ?_ | refine DW.R' ?_ | refine DW.W ?_ | refine DW.W' ?_ | (refine DW.known rfl ?_; (with_reducible first | apply DW.sx 2 | apply DW.sxN 2); (iterate 2 (focus (simp only [ft, nm, Nat.reduceAdd, Nat.reduceBEq, List.getElem?_cons_zero, List.getElem?_cons_succ]; exact rfl))); (focus (intro X V; simp only [ft, nm, Nat.reduceAdd, Nat.reduceBEq]; (try (refine AP.Y ?_; dsimp only)); (first  | fail); (try simp only [nx, Nat.reduceAdd, Nat.reduceSub, BEq.rfl]); refine AP.nil ?_; (first | refine ⟨trivial, rfl, ?_⟩ | refine ⟨rfl, rfl, ?_⟩); (repeat' (first | exact Mg.nil | apply Mg.keep rfl | apply Mg.take rfl)); done)); (focus (refine Exists.intro (fun _ => 0) ?_; apply Exists.intro; (repeat' (first | exact Mg.nil | apply Mg.keep rfl | apply Mg.take rfl)); done)); (iterate 2 (focus (exact rfl)))) | ((fail_if_success refine DW.known rfl ?_); refine DW.G (fun hg => ?_) (fun hg => ?_)))) <;> (try simp only [hw, nx, mx, rn, fq, Nat.mul_one, Bool.and_true, Bool.and_false, Nat.reduceBEq, Nat.reduceAdd, Nat.reduceSub, BEq.rfl])) | ((with_reducible apply AP.k_nil); first | (refine AP.nil (hQ' _ ?_); clear hQ' Q') | refine AP.nil ?_) | ((with_reducible apply DW.k_nil); refine DW.nl ?_; first | (refine hQ' _ ?_; clear hQ' Q') | skip) | ((with_reducible apply CP.k_reg); refine cp_regG fun Q' hQ' => ?_) | refine CP.W ?_ | refine cp_cond rfl (fun hc => ?_) (fun hc => ?_) | (simp only [List.append_eq, List.cons_append, List.nil_append]))
    refine cp_drawI (fun zs zb => ⟨setT zs.t [(50, cond (zb.getD 0 false) (.bp 0 0 0) (.tu [])), (51, cond (zb.getD 1 false) (.bp 0 0 0) (.tu [])), (52, cond (zb.getD 2 false) (.bp 0 0 4) (.tu [])), (53, cond (zb.getD 3 false) (.hd 1 2) (.tu [])), (54, cond (zb.getD 4 false) (.ag [I to, I epoch]) (.tu [])), (55, cond (zb.getD 5 false) (I v) (.tu [])), (56, cond (zb.getD 6 false) (I (IntKind.i64.wrap (v + 1))) (.tu [])), (57, cond (zb.getD 7 false) (.tu [I v, .hd 5 2]) (.tu [])), (58, cond (zb.getD 8 false) (.hd 5 2) (.tu []))], ((zs.b.set 1 (cond (zb.getD 9 false) (⟨2, .m (keyN x.sent) ((rowN x.sent).set n [I (IntKind.i64.wrap (v + 1))]) none none⟩) (cond (zb.getD 7 false) (⟨2, .m (keyN x.sent) (rowN x.sent) none (some (n, 5, 2))⟩) (zs.b.getD 1 ⟨0, .x⟩)))).set 5 (cond (zb.getD 7 false) (⟨2, .x⟩) (zs.b.getD 5 ⟨0, .x⟩)))⟩) (by kernel_rfl) (by kernel_rfl) (by kernel_rfl) ?_ ?_
    rotate_left
    simp only [cond_true, cond_false, setT, List.set_cons_succ, List.set_cons_zero, List.getD_cons_succ, List.getD_cons_zero, List.set_cons_succ, List.length_cons, List.length_nil, List.replicate_succ, List.replicate_zero, Nat.reduceAdd]
    rotate_left
    · intro b hb' hcl
      obtain ⟨l0, b0, rfl, hb0⟩ := len_cons hb'
      obtain ⟨l1, b1, rfl, hb1⟩ := len_cons hb0
      obtain ⟨l2, b2, rfl, hb2⟩ := len_cons hb1
      obtain ⟨l3, b3, rfl, hb3⟩ := len_cons hb2
      obtain ⟨l4, b4, rfl, hb4⟩ := len_cons hb3
      obtain ⟨l5, b5, rfl, hb5⟩ := len_cons hb4
      obtain ⟨l6, b6, rfl, hb6⟩ := len_cons hb5
      obtain ⟨l7, b7, rfl, hb7⟩ := len_cons hb6
      obtain ⟨l8, b8, rfl, hb8⟩ := len_cons hb7
      obtain ⟨l9, b9, rfl, hb9⟩ := len_cons hb8
      obtain rfl := List.length_eq_zero_iff.1 hb9
      clear hb' hb0 hb1 hb2 hb3 hb4 hb5 hb6 hb7 hb8 hb9
      · simp only [closedB, depsOk, Region.binds, List.toList_toArray, List.all_cons, List.all_nil, List.getD_cons_succ, List.getD_cons_zero, Bool.not_true, Bool.not_false, Bool.true_or, Bool.false_or, Bool.and_true, Bool.true_and, Bool.or_true, Bool.and_false, Bool.or_false, Bool.false_and, Bool.and_eq_true, Bool.or_eq_true, Bool.not_eq_true'] at hcl
        simp only [StepsP]
        refine ⟨?_, ?_, ?_, ?_, ?_, ?_, ?_, ?_, ?_, ?_, trivial⟩
        · intro h1 h2
          simp [depsOk, Region.binds] at h1 h2
          subst h1
          (repeat (obtain ⟨rfl, h2⟩ := h2))
          (try subst h2)
          clear hcl
          all_goals simp only [cond_true, cond_false, setT, List.set_cons_succ, List.set_cons_zero, List.getD_cons_succ, List.getD_cons_zero, List.set_cons_succ]
          all_goals ((with_reducible apply AP.k_any); first | (refine AP.sm false rfl ?_ ?_; focus ((repeat' (with_reducible apply And.intro)) <;> (first | exact True.intro | exact rfl | omega | decide | (simp; omega) | (simp; done) | assumption | exact .inl rfl | (refine .inr ?_; simp; try omega)))) | fail "no step")
          all_goals (try simp only [nx, Nat.reduceAdd, Nat.reduceSub, BEq.rfl])
          all_goals refine AP.nil ?_
          all_goals exact ⟨rfl, rfl⟩
        · intro h1 h2
          simp [depsOk, Region.binds] at h1 h2
          subst h1
          (repeat (obtain ⟨rfl, h2⟩ := h2))
          (try subst h2)
          clear hcl
          all_goals simp only [cond_true, cond_false, setT, List.set_cons_succ, List.set_cons_zero, List.getD_cons_succ, List.getD_cons_zero, List.set_cons_succ]
          all_goals ((with_reducible apply AP.k_any); first | (refine AP.sm false rfl ?_ ?_; focus ((repeat' (with_reducible apply And.intro)) <;> (first | exact True.intro | exact rfl | omega | decide | (simp; omega) | (simp; done) | assumption | exact .inl rfl | (refine .inr ?_; simp; try omega)))) | fail "no step")
          all_goals (try simp only [nx, Nat.reduceAdd, Nat.reduceSub, BEq.rfl])
          all_goals refine AP.nil ?_
          all_goals exact ⟨rfl, rfl⟩
        · intro h1 h2
          simp [depsOk, Region.binds] at h1 h2
          subst h1
          (repeat (obtain ⟨rfl, h2⟩ := h2))
          (try subst h2)
          clear hcl
          all_goals simp only [cond_true, cond_false, setT, List.set_cons_succ, List.set_cons_zero, List.getD_cons_succ, List.getD_cons_zero, List.set_cons_succ]
          all_goals ((with_reducible apply AP.k_any); first | (refine AP.sm false rfl ?_ ?_; focus ((repeat' (with_reducible apply And.intro)) <;> (first | exact True.intro | exact rfl | omega | decide | (simp; omega) | (simp; done) | assumption | exact .inl rfl | (refine .inr ?_; simp; try omega)))) | fail "no step")
          all_goals (try simp only [nx, Nat.reduceAdd, Nat.reduceSub, BEq.rfl])
          all_goals refine AP.nil ?_
          all_goals exact ⟨rfl, rfl⟩
        · intro h1 h2
          simp [depsOk, Region.binds] at h1 h2
          subst h1
          (repeat (obtain ⟨rfl, h2⟩ := h2))
          (try subst h2)
          (first | (obtain rfl : l7 = false := by grind only) | skip)
          (first | (obtain rfl : l9 = false := by grind only) | skip)
          clear hcl
          all_goals simp only [cond_true, cond_false, setT, List.set_cons_succ, List.set_cons_zero, List.getD_cons_succ, List.getD_cons_zero, List.set_cons_succ]
          all_goals ((with_reducible apply AP.k_any); first | (refine AP.sm false rfl ?_ ?_; focus ((repeat' (with_reducible apply And.intro)) <;> (first | exact True.intro | exact rfl | omega | decide | (simp; omega) | (simp; done) | assumption | exact .inl rfl | (refine .inr ?_; simp; try omega)))) | (refine AP.el rfl ?_ (by (first | (refine ⟨?_, ?_⟩; assumption; rfl) | exact ⟨mapAt (by (first | omega | (simp; omega) | (simp; done) | assumption)), rfl⟩ | exact ⟨rfl, rfl⟩)) ?_; focus ((repeat' (with_reducible apply And.intro)) <;> (first | exact True.intro | exact rfl | omega | decide | (simp; omega) | (simp; done) | assumption | exact .inl rfl | (refine .inr ?_; simp; try omega)))) | fail "no step")
          all_goals (try simp only [nx, Nat.reduceAdd, Nat.reduceSub, BEq.rfl])
          all_goals refine AP.nil ?_
          all_goals exact ⟨rfl, rfl⟩
        · intro h1 h2
          simp [depsOk, Region.binds] at h1 h2
          subst h1
          (repeat (obtain ⟨rfl, h2⟩ := h2))
          (try subst h2)
          (first | (obtain rfl : l7 = false := by grind only) | skip)
          (first | (obtain rfl : l9 = false := by grind only) | skip)
          clear hcl
          all_goals simp only [cond_true, cond_false, setT, List.set_cons_succ, List.set_cons_zero, List.getD_cons_succ, List.getD_cons_zero, List.set_cons_succ]
          all_goals ((with_reducible apply AP.k_any); first | (refine AP.sm false rfl ?_ ?_; focus ((repeat' (with_reducible apply And.intro)) <;> (first | exact True.intro | exact rfl | omega | decide | (simp; omega) | (simp; done) | assumption | exact .inl rfl | (refine .inr ?_; simp; try omega)))) | (refine AP.el rfl ?_ (by (first | (refine ⟨?_, ?_⟩; assumption; rfl) | exact ⟨mapAt (by (first | omega | (simp; omega) | (simp; done) | assumption)), rfl⟩ | exact ⟨rfl, rfl⟩)) ?_; focus ((repeat' (with_reducible apply And.intro)) <;> (first | exact True.intro | exact rfl | omega | decide | (simp; omega) | (simp; done) | assumption | exact .inl rfl | (refine .inr ?_; simp; try omega)))) | fail "no step")
          all_goals (try simp only [nx, Nat.reduceAdd, Nat.reduceSub, BEq.rfl])
          all_goals refine AP.nil ?_
          all_goals exact ⟨rfl, rfl⟩
        · intro h1 h2
          simp [depsOk, Region.binds] at h1 h2
          subst h1
          (repeat (obtain ⟨rfl, h2⟩ := h2))
          (try subst h2)
          (first | (obtain rfl : l9 = false := by grind only) | skip)
          clear hcl
          (first | cases l7 | skip)
          all_goals simp only [cond_true, cond_false, setT, List.set_cons_succ, List.set_cons_zero, List.getD_cons_succ, List.getD_cons_zero, List.set_cons_succ]
          all_goals ((with_reducible apply AP.k_any); first | refine AP.LK ?_ | refine AP.LN ?_ | fail "no step")
          all_goals (try simp only [nx, Nat.reduceAdd, Nat.reduceSub, BEq.rfl])
          all_goals refine AP.nil ?_
          all_goals exact ⟨rfl, rfl⟩
        · intro h1 h2
          simp [depsOk, Region.binds] at h1 h2
          subst h1
          (repeat (obtain ⟨rfl, h2⟩ := h2))
          (try subst h2)
          clear hcl
          all_goals simp only [cond_true, cond_false, setT, List.set_cons_succ, List.set_cons_zero, List.getD_cons_succ, List.getD_cons_zero, List.set_cons_succ]
          all_goals ((with_reducible apply AP.k_any); first | (refine AP.sm false rfl ?_ ?_; focus ((repeat' (with_reducible apply And.intro)) <;> (first | exact True.intro | exact rfl | omega | decide | (simp; omega) | (simp; done) | assumption | exact .inl rfl | (refine .inr ?_; simp; try omega)))) | fail "no step")
          all_goals (try simp only [nx, Nat.reduceAdd, Nat.reduceSub, BEq.rfl])
          all_goals refine AP.nil ?_
          all_goals exact ⟨rfl, rfl⟩
        · intro h1 h2
          simp [depsOk, Region.binds] at h1 h2
          subst h1
          (repeat (obtain ⟨rfl, h2⟩ := h2))
          (try subst h2)
          (first | (obtain rfl : l9 = false := by grind only) | skip)
          clear hcl
          all_goals simp only [cond_true, cond_false, setT, List.set_cons_succ, List.set_cons_zero, List.getD_cons_succ, List.getD_cons_zero, List.set_cons_succ]
          all_goals ((with_reducible apply AP.k_any); first | refine AP.ME ?_ | refine AP.MF ?_ | fail "no step")
          all_goals (try simp only [nx, Nat.reduceAdd, Nat.reduceSub, BEq.rfl])
          all_goals refine AP.nil ?_
          all_goals exact ⟨rfl, rfl⟩
        · intro h1 h2
          simp [depsOk, Region.binds] at h1 h2
          subst h1
          (repeat (obtain ⟨rfl, h2⟩ := h2))
          (try subst h2)
          clear hcl
          all_goals simp only [cond_true, cond_false, setT, List.set_cons_succ, List.set_cons_zero, List.getD_cons_succ, List.getD_cons_zero, List.set_cons_succ]
          all_goals ((with_reducible apply AP.k_any); first | (refine AP.sm false rfl ?_ ?_; focus ((repeat' (with_reducible apply And.intro)) <;> (first | exact True.intro | exact rfl | omega | decide | (simp; omega) | (simp; done) | assumption | exact .inl rfl | (refine .inr ?_; simp; try omega)))) | fail "no step")
          all_goals (try simp only [nx, Nat.reduceAdd, Nat.reduceSub, BEq.rfl])
          all_goals refine AP.nil ?_
          all_goals exact ⟨rfl, rfl⟩
        · intro h1 h2
          simp [depsOk, Region.binds] at h1 h2
          subst h1
          (repeat (obtain ⟨rfl, h2⟩ := h2))
          (try subst h2)
          (first | (obtain rfl : l7 = true := by grind only) | skip)
          clear hcl
          all_goals simp only [cond_true, cond_false, setT, List.set_cons_succ, List.set_cons_zero, List.getD_cons_succ, List.getD_cons_zero, List.set_cons_succ]
          all_goals ((with_reducible apply AP.k_any); first | refine AP.MS ?_ | fail "no step")
          all_goals (try simp only [nx, Nat.reduceAdd, Nat.reduceSub, BEq.rfl])
          all_goals refine AP.nil ?_
          all_goals exact ⟨rfl, rfl⟩
    simp only [hw]
    repeat' (first | ((first | ((with_reducible apply AP.k_any); first | refine AP.ST ?_ | (refine AP.Y ?_; dsimp only) | refine AP.G (fun hg => ?_) (fun hg => ?_) | (refine AP.V (fun c hnil => ?_); simp only [nz])  | refine AP.PF ?_)) <;> (try simp only [hw, nx, mx, rn, fq, Nat.mul_one, Bool.and_true, Bool.and_false, Nat.reduceBEq, Nat.reduceAdd, Nat.reduceSub, BEq.rfl])) | ((with_reducible apply AP.k_nil); first | (refine AP.nil (hQ' _ ?_); clear hQ' Q') | refine AP.nil ?_) | ((with_reducible apply CP.k_reg); refine cp_regG fun Q' hQ' => ?_) | refine CP.W ?_ | refine cp_cond rfl (fun hc => ?_) (fun hc => ?_) | (simp only [List.append_eq, List.cons_append, List.nil_append]))
    (exact RetQ.A [(0, 0)] (by exact ⟨rfl, rfl⟩))
def Ends.send (x : Ends) (to epoch : Int) (body : List UInt8) : (List UInt8 × Int) × Ends := if mayP (x.pkt to epoch body) = true then ((headS (x.pkt to epoch body) ++ tagS x.root (x.pkt to epoch body), 0), x.bump to epoch) else (([], 2), x)
theorem send_ac (x : Ends) (to epoch : Int) (body : List UInt8) (hr : x.root.length ≤ 10000) (hb : body.length ≤ 60000) (hn : 0 ≤ got (to, epoch) x.sent 0 ∧ got (to, epoch) x.sent 0 ≤ 1000000000) :
    AC Tryz.prog 7 [.bp 0 0 0, I to, I epoch, bs none body] [xE x] (fun v bs' => v = .tu [bs none (x.send to epoch body).1.1, I (x.send to epoch body).1.2] ∧ bs' = [xE (x.send to epoch body).2]) := by
  cases hm : mayP (x.pkt to epoch body) with
  | true =>
    have e : x.send to epoch body = ((headS (x.pkt to epoch body) ++ tagS x.root (x.pkt to epoch body), 0), x.bump to epoch) := if_pos hm
    rw [e]; exact send_ok x to epoch body hr hb hn hm
  | false =>
    have e : x.send to epoch body = (([], 2), x) := if_neg (by rw [hm]; simp)
    rw [e]; exact send_no x to epoch body hr hb hn hm
end Go.Proofs.YtnjfchigdpifmaaGreat

namespace Go.Proofs.YtnjfchigdpifmaaGreat
set_option linter.unusedVariables false
set_option linter.unusedSimpArgs false
set_option maxHeartbeats 8000000
open Go.RowKit
set_option maxRecDepth 100000
abbrev tRd : TypeId := 108
abbrev rB (st : Int × List UInt8) : Bx := .c tRd [B true, bs none st.2, I st.1]
def newR (b : List UInt8) : Int × List UInt8 := if 65536 < b.length then (3, []) else (0, b)
theorem rnew_ac (b : List UInt8) (hb : b.length ≤ 100000000) : AC Tryz.prog 40 [bs none b] [] (fun v bs' => v = .bp 0 0 0 ∧ bs' = [rB (newR b)]) := by
  by_cases h : 65536 < b.length
  · have e : newR b = (3, []) := by simp [newR, h]
    rw [e]
    refine AC.N Tryz.func40 Tryz.ntmps40 ?_
    intro X hρ hmks
    simp only [nx, Nat.reduceAdd, Nat.reduceSub, BEq.rfl]
    repeat' (first | ((first | ((with_reducible apply AP.k_any); first | refine AP.S ?_)) <;> (try simp only [nx, Nat.reduceAdd, Nat.reduceSub, BEq.rfl])) | ((with_reducible apply AP.k_nil); first | (refine AP.nil (hQ' _ ?_); clear hQ' Q') | refine AP.nil ?_) | ((with_reducible apply CP.k_reg); refine cp_regG fun Q' hQ' => ?_) | refine CP.W ?_ | refine cp_cond rfl (fun hc => ?_) (fun hc => ?_) | (simp only [List.append_eq, List.cons_append, List.nil_append]))
    · (exact RetQ.A [(0, 1)] (by exact ⟨rfl, rfl⟩))
    · exfalso; simp at *; omega
  · have e : newR b = (0, b) := by simp [newR, h]
    have hcat := (wcat_ac [b] (by simp) (by simp; omega)).ro (r2 := bs none b) (by simp [AV.ro, ro_B])
    rw [e]
    refine AC.N Tryz.func40 Tryz.ntmps40 ?_
    intro X hρ hmks
    simp only [nx, Nat.reduceAdd, Nat.reduceSub, BEq.rfl]
    repeat' (first | ((first | ((with_reducible apply AP.k_any); first | refine AP.Z ?_) | ((with_reducible apply AP.k_any); refine AP.C (hcat) ?_) | ((with_reducible apply AP.k_any); refine AP.gh (gh_fz (b := 0) (u := 1) rfl rfl (by (repeat' (first | exact FzC.nil | apply FzC.cons | exact FzV.hd | apply FzV.ag | exact FzV.same))) (by (repeat' (first | exact FzB.nil | apply FzB.c | apply FzB.same | exact FzC.nil | apply FzC.cons | exact FzV.hd | apply FzV.ag | exact FzV.same)))) ?_; first | simp only [roE, roC, AV.ro, ro_B, ro_M, ro_E] | simp only [roE, roC, AV.ro, ro_B])) <;> (try simp only [nx, Nat.reduceAdd, Nat.reduceSub, BEq.rfl])) | ((with_reducible apply AP.k_nil); first | (refine AP.nil (hQ' _ ?_); clear hQ' Q') | refine AP.nil ?_) | ((with_reducible apply CP.k_reg); refine cp_regG fun Q' hQ' => ?_) | refine CP.W ?_ | refine cp_cond rfl (fun hc => ?_) (fun hc => ?_) | (simp only [List.append_eq, List.cons_append, List.nil_append]))
    · exfalso; simp at *; omega
    · (exact RetQ.A [(0, 2)] (by exact ⟨rfl, rfl⟩))
theorem fine_ac (st : Int × List UInt8) : AC Tryz.prog 90 [.bp 0 0 0] [rB st] (fun v bs' => v = B (st.1 == 0) ∧ bs' = [rB st]) := by
  refine AC.N Tryz.func90 Tryz.ntmps90 ?_
  intro X hρ hmks
  simp only [nx, Nat.reduceAdd, Nat.reduceSub, BEq.rfl]
  repeat' (first | ((first | ((with_reducible apply AP.k_any); first | refine AP.S ?_ | (refine AP.Y ?_; dsimp only) | refine AP.G (fun hg => ?_) (fun hg => ?_) | (refine AP.V (fun c hnil => ?_); simp only [nz]))) <;> (try simp only [nx, Nat.reduceAdd, Nat.reduceSub, BEq.rfl])) | ((with_reducible apply AP.k_nil); first | (refine AP.nil (hQ' _ ?_); clear hQ' Q') | refine AP.nil ?_) | ((with_reducible apply CP.k_reg); refine cp_regG fun Q' hQ' => ?_) | refine CP.W ?_ | refine cp_cond rfl (fun hc => ?_) (fun hc => ?_) | (simp only [List.append_eq, List.cons_append, List.nil_append]))
  (exact RetQ.A [(0, 0)] (by exact ⟨rfl, rfl⟩))
theorem rbad_ac (st : Int × List UInt8) : AC Tryz.prog 91 [.bp 0 0 0] [rB st] (fun v bs' => v = .tu [] ∧ bs' = [rB (40, [])]) := by
  refine AC.N Tryz.func91 Tryz.ntmps91 ?_
  intro X hρ hmks
  simp only [nx, Nat.reduceAdd, Nat.reduceSub, BEq.rfl]
  repeat' (first | ((first | ((with_reducible apply AP.k_any); first | refine AP.S ?_)) <;> (try simp only [nx, Nat.reduceAdd, Nat.reduceSub, BEq.rfl])) | ((with_reducible apply AP.k_nil); first | (refine AP.nil (hQ' _ ?_); clear hQ' Q') | refine AP.nil ?_) | ((with_reducible apply CP.k_reg); refine cp_regG fun Q' hQ' => ?_) | refine CP.W ?_ | refine cp_cond rfl (fun hc => ?_) (fun hc => ?_) | (simp only [List.append_eq, List.cons_append, List.nil_append]))
  (exact RetQ.A [(0, 0)] (by exact ⟨rfl, rfl⟩))
def takeS {α : Type} (z : α) (f : List UInt8 → α × Bool) (n : Int) (st : Int × List UInt8) : α × (Int × List UInt8) :=
  if st.1 ≠ 0 then (z, st) else if n < 0 ∨ (st.2.length : Int) < n then (z, (40, []))
  else if (f (st.2.take n.toNat)).2 = true then ((f (st.2.take n.toNat)).1, (0, st.2.drop n.toNat)) else (z, (40, []))
theorem take3_ac  (f : Nat) (g : List UInt8 → Int × Bool) (n : Int) (st : Int × List UInt8) (hst : st.2.length ≤ 100000000) (hf : ∀ b : List UInt8, b.length = n.toNat → b.length ≤ st.2.length → AC Tryz.prog f [bs none b] [] (fun v bs' => v = .tu [I (g b).1, B (g b).2] ∧ bs' = [])) :
    AC Tryz.prog 68 [.bp 0 0 0, I n, .fn f []] [rB st] (fun v bs' => v = I (takeS (0 : Int) g n st).1 ∧ bs' = [rB (takeS (0 : Int) g n st).2]) := by
  obtain ⟨e, b⟩ := st
  by_cases he : e = 0
  · subst he
    by_cases hn : n < 0 ∨ (b.length : Int) < n
    · have ht : takeS (0 : Int) g n (0, b) = ((0 : Int), (40, [])) := by simp only [takeS, hn]; simp
      rw [ht]
      refine AC.N Tryz.func68 Tryz.ntmps68 ?_
      intro X hρ hmks
      simp only [nx, Nat.reduceAdd, Nat.reduceSub, BEq.rfl]
      repeat' (first | ((first | ((with_reducible apply AP.k_any); first | refine AP.S ?_ | (refine AP.Y ?_; dsimp only) | refine AP.G (fun hg => ?_) (fun hg => ?_)) | ((with_reducible apply AP.k_any); refine AP.CB [(0, 0)] 0 (fine_ac (0, b)) ?_) | ((with_reducible apply AP.k_any); refine AP.CB [(0, 0)] 0 (rbad_ac (0, b)) ?_)) <;> (try simp only [nx, Nat.reduceAdd, Nat.reduceSub, BEq.rfl])) | ((with_reducible apply AP.k_nil); first | (refine AP.nil (hQ' _ ?_); clear hQ' Q') | refine AP.nil ?_) | ((with_reducible apply CP.k_reg); refine cp_regG fun Q' hQ' => ?_) | refine CP.W ?_ | refine cp_cond rfl (fun hc => ?_) (fun hc => ?_) | (simp only [List.append_eq, List.cons_append, List.nil_append]))
      all_goals first
        | (exfalso; simp at *; done)
        | (exfalso; simp at *; omega)
        | (exact RetQ.A [(0, 0)] (by exact ⟨rfl, rfl⟩))
    · have hl : (b.take n.toNat).length = n.toNat := by simp; omega
      have hf' := hf (b.take n.toNat) hl (by rw [List.length_take]; exact Nat.min_le_right _ _)
      have htk : List.take (b.length - n.toNat) (List.drop n.toNat b) = List.drop n.toNat b := List.take_of_length_le (by simp)
      have hn0 : 0 ≤ n := by omega
      have hn1 : n ≤ (b.length : Int) := by omega
      have hm : n ≤ ((b.map eB).length : Int) := by simp; omega
      have ht : takeS (0 : Int) g n (0, b) = if (g (b.take n.toNat)).2 = true then ((g (b.take n.toNat)).1, (0, b.drop n.toNat)) else ((0 : Int), (40, [])) := by simp only [takeS, hn]; simp
      rw [ht]
      cases hg2 : (g (b.take n.toNat)).2 with
      | true =>
        rw [hg2] at hf'
        simp only [if_true]
        refine AC.N Tryz.func68 Tryz.ntmps68 ?_
        intro X hρ hmks
        simp only [nx, Nat.reduceAdd, Nat.reduceSub, BEq.rfl]
        repeat' (first | ((first | ((with_reducible apply AP.k_any); first | refine AP.S ?_ | (refine AP.Y ?_; dsimp only) | refine AP.G (fun hg => ?_) (fun hg => ?_)) | ((with_reducible apply AP.k_any); refine AP.CB [(0, 0)] 0 (fine_ac (0, b)) ?_) | ((with_reducible apply AP.k_any); refine ap_callX rfl rfl (fn := f) rfl hf' (by (repeat' (first | exact PasC.nil | apply PasC.nil | apply PasC.cons | apply PasV.leaf rfl | apply PasV.nl | apply PasV.bp rfl | apply PasV.lend rfl rfl rfl | apply PasV.lend rfl rfl (ro_B _) | apply PasV.lend rfl rfl (ro_M _) | apply PasV.lend rfl rfl (ro_E _ _) | apply PasV.lend rfl rfl (ro_I _) | apply PasV.lend rfl rfl (by (simp only [rn, List.map_cons, List.map_nil]; first | done | rfl)) | apply PasV.mv rfl | apply PasV.ag | apply PasV.fn | exact PasV.fs | apply PasV.any))) rfl rfl ?_) | ((with_reducible apply AP.k_any); refine AP.CB [(0, 0)] 0 (rbad_ac (0, b)) ?_)) <;> (try simp only [nx, Nat.reduceAdd, Nat.reduceSub, BEq.rfl])) | ((with_reducible apply AP.k_nil); first | (refine AP.nil (hQ' _ ?_); clear hQ' Q') | refine AP.nil ?_) | ((with_reducible apply CP.k_reg); refine cp_regG fun Q' hQ' => ?_) | refine CP.W ?_ | refine cp_cond rfl (fun hc => ?_) (fun hc => ?_) | (simp only [List.append_eq, List.cons_append, List.nil_append]))
        all_goals first
          | (exfalso; simp at *; done)
          | (exfalso; simp at *; omega)
          | (simp only [htk]
             (exact RetQ.A [(0, 0)] (by exact ⟨rfl, rfl⟩)))
      | false =>
        rw [hg2] at hf'
        simp only [Bool.false_eq_true, if_false]
        refine AC.N Tryz.func68 Tryz.ntmps68 ?_
        intro X hρ hmks
        simp only [nx, Nat.reduceAdd, Nat.reduceSub, BEq.rfl]
        repeat' (first | ((first | ((with_reducible apply AP.k_any); first | refine AP.S ?_ | (refine AP.Y ?_; dsimp only) | refine AP.G (fun hg => ?_) (fun hg => ?_)) | ((with_reducible apply AP.k_any); refine AP.CB [(0, 0)] 0 (fine_ac (0, b)) ?_) | ((with_reducible apply AP.k_any); refine ap_callX rfl rfl (fn := f) rfl hf' (by (repeat' (first | exact PasC.nil | apply PasC.nil | apply PasC.cons | apply PasV.leaf rfl | apply PasV.nl | apply PasV.bp rfl | apply PasV.lend rfl rfl rfl | apply PasV.lend rfl rfl (ro_B _) | apply PasV.lend rfl rfl (ro_M _) | apply PasV.lend rfl rfl (ro_E _ _) | apply PasV.lend rfl rfl (ro_I _) | apply PasV.lend rfl rfl (by (simp only [rn, List.map_cons, List.map_nil]; first | done | rfl)) | apply PasV.mv rfl | apply PasV.ag | apply PasV.fn | exact PasV.fs | apply PasV.any))) rfl rfl ?_) | ((with_reducible apply AP.k_any); refine AP.CB [(0, 0)] 0 (rbad_ac (0, b)) ?_)) <;> (try simp only [nx, Nat.reduceAdd, Nat.reduceSub, BEq.rfl])) | ((with_reducible apply AP.k_nil); first | (refine AP.nil (hQ' _ ?_); clear hQ' Q') | refine AP.nil ?_) | ((with_reducible apply CP.k_reg); refine cp_regG fun Q' hQ' => ?_) | refine CP.W ?_ | refine cp_cond rfl (fun hc => ?_) (fun hc => ?_) | (simp only [List.append_eq, List.cons_append, List.nil_append]))
        all_goals first
          | (exfalso; simp at *; done)
          | (exfalso; simp at *; omega)
          | (exact RetQ.A [(0, 0)] (by exact ⟨rfl, rfl⟩))
  · have ht : takeS (0 : Int) g n (e, b) = ((0 : Int), (e, b)) := by simp [takeS, he]
    have hb : ((e : Int) == 0) = false := by simp [he]
    rw [ht]
    refine AC.N Tryz.func68 Tryz.ntmps68 ?_
    intro X hρ hmks
    simp only [nx, Nat.reduceAdd, Nat.reduceSub, BEq.rfl]
    repeat' (first | ((first | ((with_reducible apply AP.k_any); first | refine AP.S ?_ | (refine AP.Y ?_; dsimp only) | refine AP.G (fun hg => ?_) (fun hg => ?_)) | ((with_reducible apply AP.k_any); refine AP.CB [(0, 0)] 0 (fine_ac (e, b)) ?_)) <;> (try simp only [nx, Nat.reduceAdd, Nat.reduceSub, BEq.rfl])) | ((with_reducible apply AP.k_nil); first | (refine AP.nil (hQ' _ ?_); clear hQ' Q') | refine AP.nil ?_) | ((with_reducible apply CP.k_reg); refine cp_regG fun Q' hQ' => ?_) | refine CP.W ?_ | refine cp_cond rfl (fun hc => ?_) (fun hc => ?_) | (simp only [List.append_eq, List.cons_append, List.nil_append]))
    all_goals first
      | (exfalso; simp at *; done)
      | (exfalso; simp at *; omega)
      | (exact RetQ.A [(0, 0)] (by exact ⟨rfl, rfl⟩))
theorem take4_ac  (f : Nat) (g : List UInt8 → List UInt8 × Bool) (n : Int) (st : Int × List UInt8) (hst : st.2.length ≤ 100000000) (hf : ∀ b : List UInt8, b.length = n.toNat → b.length ≤ st.2.length → AC Tryz.prog f [bs none b] [] (fun v bs' => v = .tu [bs none (g b).1, B (g b).2] ∧ bs' = [])) :
    AC Tryz.prog 73 [.bp 0 0 0, I n, .fn f []] [rB st] (fun v bs' => v = bs none (takeS ([] : List UInt8) g n st).1 ∧ bs' = [rB (takeS ([] : List UInt8) g n st).2]) := by
  obtain ⟨e, b⟩ := st
  by_cases he : e = 0
  · subst he
    by_cases hn : n < 0 ∨ (b.length : Int) < n
    · have ht : takeS ([] : List UInt8) g n (0, b) = (([] : List UInt8), (40, [])) := by simp only [takeS, hn]; simp
      rw [ht]
      refine AC.N Tryz.func73 Tryz.ntmps73 ?_
      intro X hρ hmks
      simp only [nx, Nat.reduceAdd, Nat.reduceSub, BEq.rfl]
      repeat' (first | ((first | ((with_reducible apply AP.k_any); first | refine AP.S ?_ | (refine AP.Y ?_; dsimp only) | refine AP.G (fun hg => ?_) (fun hg => ?_)) | ((with_reducible apply AP.k_any); refine AP.CB [(0, 0)] 0 (fine_ac (0, b)) ?_) | ((with_reducible apply AP.k_any); refine AP.CB [(0, 0)] 0 (rbad_ac (0, b)) ?_)) <;> (try simp only [nx, Nat.reduceAdd, Nat.reduceSub, BEq.rfl])) | ((with_reducible apply AP.k_nil); first | (refine AP.nil (hQ' _ ?_); clear hQ' Q') | refine AP.nil ?_) | ((with_reducible apply CP.k_reg); refine cp_regG fun Q' hQ' => ?_) | refine CP.W ?_ | refine cp_cond rfl (fun hc => ?_) (fun hc => ?_) | (simp only [List.append_eq, List.cons_append, List.nil_append]))
      all_goals first
        | (exfalso; simp at *; done)
        | (exfalso; simp at *; omega)
        | (exact RetQ.A [(0, 0)] (by exact ⟨rfl, rfl⟩))
    · have hl : (b.take n.toNat).length = n.toNat := by simp; omega
      have hf' := hf (b.take n.toNat) hl (by rw [List.length_take]; exact Nat.min_le_right _ _)
      have htk : List.take (b.length - n.toNat) (List.drop n.toNat b) = List.drop n.toNat b := List.take_of_length_le (by simp)
      have hn0 : 0 ≤ n := by omega
      have hn1 : n ≤ (b.length : Int) := by omega
      have hm : n ≤ ((b.map eB).length : Int) := by simp; omega
      have ht : takeS ([] : List UInt8) g n (0, b) = if (g (b.take n.toNat)).2 = true then ((g (b.take n.toNat)).1, (0, b.drop n.toNat)) else (([] : List UInt8), (40, [])) := by simp only [takeS, hn]; simp
      rw [ht]
      cases hg2 : (g (b.take n.toNat)).2 with
      | true =>
        rw [hg2] at hf'
        simp only [if_true]
        refine AC.N Tryz.func73 Tryz.ntmps73 ?_
        intro X hρ hmks
        simp only [nx, Nat.reduceAdd, Nat.reduceSub, BEq.rfl]
        repeat' (first | ((first | ((with_reducible apply AP.k_any); first | refine AP.S ?_ | (refine AP.Y ?_; dsimp only) | refine AP.G (fun hg => ?_) (fun hg => ?_)) | ((with_reducible apply AP.k_any); refine AP.CB [(0, 0)] 0 (fine_ac (0, b)) ?_) | ((with_reducible apply AP.k_any); refine ap_callX rfl rfl (fn := f) rfl hf' (by (repeat' (first | exact PasC.nil | apply PasC.nil | apply PasC.cons | apply PasV.leaf rfl | apply PasV.nl | apply PasV.bp rfl | apply PasV.lend rfl rfl rfl | apply PasV.lend rfl rfl (ro_B _) | apply PasV.lend rfl rfl (ro_M _) | apply PasV.lend rfl rfl (ro_E _ _) | apply PasV.lend rfl rfl (ro_I _) | apply PasV.lend rfl rfl (by (simp only [rn, List.map_cons, List.map_nil]; first | done | rfl)) | apply PasV.mv rfl | apply PasV.ag | apply PasV.fn | exact PasV.fs | apply PasV.any))) rfl rfl ?_) | ((with_reducible apply AP.k_any); refine AP.CB [(0, 0)] 0 (rbad_ac (0, b)) ?_)) <;> (try simp only [nx, Nat.reduceAdd, Nat.reduceSub, BEq.rfl])) | ((with_reducible apply AP.k_nil); first | (refine AP.nil (hQ' _ ?_); clear hQ' Q') | refine AP.nil ?_) | ((with_reducible apply CP.k_reg); refine cp_regG fun Q' hQ' => ?_) | refine CP.W ?_ | refine cp_cond rfl (fun hc => ?_) (fun hc => ?_) | (simp only [List.append_eq, List.cons_append, List.nil_append]))
        all_goals first
          | (exfalso; simp at *; done)
          | (exfalso; simp at *; omega)
          | (simp only [htk]
             (exact RetQ.A [(0, 0)] (by exact ⟨rfl, rfl⟩)))
      | false =>
        rw [hg2] at hf'
        simp only [Bool.false_eq_true, if_false]
        refine AC.N Tryz.func73 Tryz.ntmps73 ?_
        intro X hρ hmks
        simp only [nx, Nat.reduceAdd, Nat.reduceSub, BEq.rfl]
        repeat' (first | ((first | ((with_reducible apply AP.k_any); first | refine AP.S ?_ | (refine AP.Y ?_; dsimp only) | refine AP.G (fun hg => ?_) (fun hg => ?_)) | ((with_reducible apply AP.k_any); refine AP.CB [(0, 0)] 0 (fine_ac (0, b)) ?_) | ((with_reducible apply AP.k_any); refine ap_callX rfl rfl (fn := f) rfl hf' (by (repeat' (first | exact PasC.nil | apply PasC.nil | apply PasC.cons | apply PasV.leaf rfl | apply PasV.nl | apply PasV.bp rfl | apply PasV.lend rfl rfl rfl | apply PasV.lend rfl rfl (ro_B _) | apply PasV.lend rfl rfl (ro_M _) | apply PasV.lend rfl rfl (ro_E _ _) | apply PasV.lend rfl rfl (ro_I _) | apply PasV.lend rfl rfl (by (simp only [rn, List.map_cons, List.map_nil]; first | done | rfl)) | apply PasV.mv rfl | apply PasV.ag | apply PasV.fn | exact PasV.fs | apply PasV.any))) rfl rfl ?_) | ((with_reducible apply AP.k_any); refine AP.CB [(0, 0)] 0 (rbad_ac (0, b)) ?_)) <;> (try simp only [nx, Nat.reduceAdd, Nat.reduceSub, BEq.rfl])) | ((with_reducible apply AP.k_nil); first | (refine AP.nil (hQ' _ ?_); clear hQ' Q') | refine AP.nil ?_) | ((with_reducible apply CP.k_reg); refine cp_regG fun Q' hQ' => ?_) | refine CP.W ?_ | refine cp_cond rfl (fun hc => ?_) (fun hc => ?_) | (simp only [List.append_eq, List.cons_append, List.nil_append]))
        all_goals first
          | (exfalso; simp at *; done)
          | (exfalso; simp at *; omega)
          | (exact RetQ.A [(0, 0)] (by exact ⟨rfl, rfl⟩))
  · have ht : takeS ([] : List UInt8) g n (e, b) = (([] : List UInt8), (e, b)) := by simp [takeS, he]
    have hb : ((e : Int) == 0) = false := by simp [he]
    rw [ht]
    refine AC.N Tryz.func73 Tryz.ntmps73 ?_
    intro X hρ hmks
    simp only [nx, Nat.reduceAdd, Nat.reduceSub, BEq.rfl]
    repeat' (first | ((first | ((with_reducible apply AP.k_any); first | refine AP.S ?_ | (refine AP.Y ?_; dsimp only) | refine AP.G (fun hg => ?_) (fun hg => ?_)) | ((with_reducible apply AP.k_any); refine AP.CB [(0, 0)] 0 (fine_ac (e, b)) ?_)) <;> (try simp only [nx, Nat.reduceAdd, Nat.reduceSub, BEq.rfl])) | ((with_reducible apply AP.k_nil); first | (refine AP.nil (hQ' _ ?_); clear hQ' Q') | refine AP.nil ?_) | ((with_reducible apply CP.k_reg); refine cp_regG fun Q' hQ' => ?_) | refine CP.W ?_ | refine cp_cond rfl (fun hc => ?_) (fun hc => ?_) | (simp only [List.append_eq, List.cons_append, List.nil_append]))
    all_goals first
      | (exfalso; simp at *; done)
      | (exfalso; simp at *; omega)
      | (exact RetQ.A [(0, 0)] (by exact ⟨rfl, rfl⟩))
end Go.Proofs.YtnjfchigdpifmaaGreat

namespace Go.Proofs.YtnjfchigdpifmaaGreat
set_option linter.unusedVariables false
set_option linter.unusedSimpArgs false
set_option maxHeartbeats 8000000
open Go.RowKit
set_option maxRecDepth 100000
theorem load64_ac (b : List UInt8) (hb : b.length ≤ 100000000) : AC Tryz.prog 70 [bs none b, I 0] [] (fun v bs' => v = .tu [.sc (.int .u64 ((loadS b 0 8).1 : Int)), B (loadS b 0 8).2] ∧ bs' = []) := by
  have h := load_ac b 0 8 (by omega) hb (by omega) (by omega)
  refine AC.N Tryz.func70 Tryz.ntmps70 ?_
  intro X hρ hmks
  simp only [nx, Nat.reduceAdd, Nat.reduceSub, BEq.rfl]
  repeat' (first | ((first | ((with_reducible apply AP.k_any); first | refine AP.S ?_) | ((with_reducible apply AP.k_any); refine AP.C (h) ?_)) <;> (try simp only [nx, Nat.reduceAdd, Nat.reduceSub, BEq.rfl])) | ((with_reducible apply AP.k_nil); first | (refine AP.nil (hQ' _ ?_); clear hQ' Q') | refine AP.nil ?_) | ((with_reducible apply CP.k_reg); refine cp_regG fun Q' hQ' => ?_) | refine CP.W ?_ | refine cp_cond rfl (fun hc => ?_) (fun hc => ?_) | (simp only [List.append_eq, List.cons_append, List.nil_append]))
  (refine RetQ.B [] ?_; (try dsimp only [resV, List.getD_cons_succ, List.getD_cons_zero]); (exact ⟨rfl, rfl⟩))
theorem ldw32_ac (b : List UInt8) (hb : b.length ≤ 100000000) : AC Tryz.prog 72 [bs none b, I 0] [] (fun v bs' => v = .tu [.sc (.int .u32 ((loadS b 0 4).1 : Int)), B (loadS b 0 4).2] ∧ bs' = []) := by
  have h := load_ac b 0 4 (by omega) hb (by omega) (by omega)
  have hw : IntKind.u32.wrap ((loadS b 0 4).1 : Int) = ((loadS b 0 4).1 : Int) := by
    have h1 : (loadS b 0 4).1 < 4294967296 := by
      unfold loadS
      split
      · simp
      · have := beN_lt ((b.drop (0 : Int).toNat).take 4)
        have h2 : 256 ^ ((b.drop (0 : Int).toNat).take 4).length ≤ 256 ^ 4 := Nat.pow_le_pow_right (by omega) (by simp; omega)
        simp at this h2 ⊢
        omega
    simp [IntKind.wrap, IntKind.bits, IntKind.signed]; omega
  refine AC.N Tryz.func72 Tryz.ntmps72 ?_
  intro X hρ hmks
  simp only [nx, Nat.reduceAdd, Nat.reduceSub, BEq.rfl]
  repeat' (first | ((first | ((with_reducible apply AP.k_any); first | refine AP.S ?_) | ((with_reducible apply AP.k_any); refine AP.C (h) ?_)) <;> (try simp only [nx, Nat.reduceAdd, Nat.reduceSub, BEq.rfl])) | ((with_reducible apply AP.k_nil); first | (refine AP.nil (hQ' _ ?_); clear hQ' Q') | refine AP.nil ?_) | ((with_reducible apply CP.k_reg); refine cp_regG fun Q' hQ' => ?_) | refine CP.W ?_ | refine cp_cond rfl (fun hc => ?_) (fun hc => ?_) | (simp only [List.append_eq, List.cons_append, List.nil_append]))
  simp only [hw]
  (refine RetQ.B [] ?_; (try dsimp only [resV, List.getD_cons_succ, List.getD_cons_zero]); (exact ⟨rfl, rfl⟩))
theorem loadS_all {b : List UInt8} {n : Nat} (h : b.length = n) : loadS b 0 n = (beN b, true) := by
  have h1 : ¬ ((0 : Int) < 0 ∨ (b.length : Int) - n < 0) := by omega
  simp only [loadS, if_neg h1]
  simp [← h]
def toI (n : Nat) : Int := IntKind.i64.wrap n
def intG (b : List UInt8) : Int × Bool := (toI (beN b), true)
def lenG (b : List UInt8) : Int × Bool := (beN b, decide (beN b ≤ 65536))
def bytesG (b : List UInt8) : List UInt8 × Bool := (b, true)
theorem rint1_ac (b : List UInt8) (h : b.length = 8) : AC Tryz.prog 69 [bs none b] [] (fun v bs' => v = .tu [I (intG b).1, B (intG b).2] ∧ bs' = []) := by
  have hl := load64_ac b (by omega)
  rw [loadS_all h] at hl
  refine AC.N Tryz.func69 Tryz.ntmps69 ?_
  intro X hρ hmks
  simp only [nx, Nat.reduceAdd, Nat.reduceSub, BEq.rfl]
  repeat' (first | ((first | ((with_reducible apply AP.k_any); first | refine AP.S ?_) | ((with_reducible apply AP.k_any); refine AP.C (hl) ?_)) <;> (try simp only [nx, Nat.reduceAdd, Nat.reduceSub, BEq.rfl])) | ((with_reducible apply AP.k_nil); first | (refine AP.nil (hQ' _ ?_); clear hQ' Q') | refine AP.nil ?_) | ((with_reducible apply CP.k_reg); refine cp_regG fun Q' hQ' => ?_) | refine CP.W ?_ | refine cp_cond rfl (fun hc => ?_) (fun hc => ?_) | (simp only [List.append_eq, List.cons_append, List.nil_append]))
  (refine RetQ.B [] ?_; (try dsimp only [resV, List.getD_cons_succ, List.getD_cons_zero]); (exact ⟨rfl, rfl⟩))
theorem rlen1_ac (b : List UInt8) (h : b.length = 4) : AC Tryz.prog 71 [bs none b] [] (fun v bs' => v = .tu [I (lenG b).1, B (lenG b).2] ∧ bs' = []) := by
  have hl := ldw32_ac b (by omega)
  rw [loadS_all h] at hl
  have hb := beN_lt b
  rw [h] at hb
  have hw : IntKind.i64.wrap (beN b : Int) = (beN b : Int) := wrap_i64 (by omega) (by omega)
  refine AC.N Tryz.func71 Tryz.ntmps71 ?_
  intro X hρ hmks
  simp only [nx, Nat.reduceAdd, Nat.reduceSub, BEq.rfl]
  repeat' (first | ((first | ((with_reducible apply AP.k_any); first | refine AP.S ?_) | ((with_reducible apply AP.k_any); refine AP.C (hl) ?_)) <;> (try simp only [nx, Nat.reduceAdd, Nat.reduceSub, BEq.rfl])) | ((with_reducible apply AP.k_nil); first | (refine AP.nil (hQ' _ ?_); clear hQ' Q') | refine AP.nil ?_) | ((with_reducible apply CP.k_reg); refine cp_regG fun Q' hQ' => ?_) | refine CP.W ?_ | refine cp_cond rfl (fun hc => ?_) (fun hc => ?_) | (simp only [List.append_eq, List.cons_append, List.nil_append]))
  simp only [hw]
  (refine RetQ.B [] ?_; (try dsimp only [resV, List.getD_cons_succ, List.getD_cons_zero]); ((refine ⟨?_, rfl⟩; simp [lenG]; try omega)))
theorem rbytes1_ac (b : List UInt8) (h : b.length ≤ 100000000) : AC Tryz.prog 74 [bs none b] [] (fun v bs' => v = .tu [bs none (bytesG b).1, B (bytesG b).2] ∧ bs' = []) := by
  have hcat := (wcat_ac [b] (by simp) (by simp; omega)).ro (r2 := bs none b) (by simp [AV.ro, ro_B])
  refine AC.N Tryz.func74 Tryz.ntmps74 ?_
  intro X hρ hmks
  simp only [nx, Nat.reduceAdd, Nat.reduceSub, BEq.rfl]
  repeat' (first | ((first | ((with_reducible apply AP.k_any); first | refine AP.Z ?_) | ((with_reducible apply AP.k_any); refine AP.C (hcat) ?_) | ((with_reducible apply AP.k_any); refine AP.gh (gh_fz (b := 0) (u := 1) rfl rfl (by (repeat' (first | exact FzC.nil | apply FzC.cons | exact FzV.hd | apply FzV.ag | exact FzV.same))) (by (repeat' (first | exact FzB.nil | apply FzB.c | apply FzB.same | exact FzC.nil | apply FzC.cons | exact FzV.hd | apply FzV.ag | exact FzV.same)))) ?_; first | simp only [roE, roC, AV.ro, ro_B, ro_M, ro_E] | simp only [roE, roC, AV.ro, ro_B])) <;> (try simp only [nx, Nat.reduceAdd, Nat.reduceSub, BEq.rfl])) | ((with_reducible apply AP.k_nil); first | (refine AP.nil (hQ' _ ?_); clear hQ' Q') | refine AP.nil ?_) | ((with_reducible apply CP.k_reg); refine cp_regG fun Q' hQ' => ?_) | refine CP.W ?_ | refine cp_cond rfl (fun hc => ?_) (fun hc => ?_) | (simp only [List.append_eq, List.cons_append, List.nil_append]))
  (refine RetQ.B [] ?_; (try dsimp only [resV, List.getD_cons_succ, List.getD_cons_zero]); (exact ⟨rfl, rfl⟩))
theorem takeS_len {α : Type} {z : α} {f : List UInt8 → α × Bool} {n : Int} {st : Int × List UInt8} {k : Nat} (h : st.2.length ≤ k) : (takeS z f n st).2.2.length ≤ k := by
  unfold takeS
  split
  · exact h
  · split
    · simp
    · split
      · simp; omega
      · simp
def intR (st : Int × List UInt8) : Int × (Int × List UInt8) := takeS 0 intG 8 st
def lenR (st : Int × List UInt8) : Int × (Int × List UInt8) := takeS 0 lenG 4 st
def bytesR (st : Int × List UInt8) : List UInt8 × (Int × List UInt8) := takeS [] bytesG (lenR st).1 (lenR st).2
def endR (st : Int × List UInt8) : Int := if st.1 = 0 then (if st.2 = [] then 0 else 40) else st.1
theorem rint_ac (st : Int × List UInt8) (hst : st.2.length ≤ 100000000) : AC Tryz.prog 41 [.bp 0 0 0] [rB st] (fun v bs' => v = I (intR st).1 ∧ bs' = [rB (intR st).2]) := by
  have h := take3_ac 69 intG 8 st hst (fun b hb _ => rint1_ac b hb)
  refine AC.N Tryz.func41 Tryz.ntmps41 ?_
  intro X hρ hmks
  simp only [nx, Nat.reduceAdd, Nat.reduceSub, BEq.rfl]
  repeat' (first | ((first | ((with_reducible apply AP.k_any); first | refine AP.S ?_) | ((with_reducible apply AP.k_any); refine AP.CB [(0, 0)] 0 (h) ?_)) <;> (try simp only [nx, Nat.reduceAdd, Nat.reduceSub, BEq.rfl])) | ((with_reducible apply AP.k_nil); first | (refine AP.nil (hQ' _ ?_); clear hQ' Q') | refine AP.nil ?_) | ((with_reducible apply CP.k_reg); refine cp_regG fun Q' hQ' => ?_) | refine CP.W ?_ | refine cp_cond rfl (fun hc => ?_) (fun hc => ?_) | (simp only [List.append_eq, List.cons_append, List.nil_append]))
  (exact RetQ.A [(0, 0)] (by exact ⟨rfl, rfl⟩))
theorem rbytes_ac (st : Int × List UInt8) (hst : st.2.length ≤ 100000000) : AC Tryz.prog 42 [.bp 0 0 0] [rB st] (fun v bs' => v = bs none (bytesR st).1 ∧ bs' = [rB (bytesR st).2]) := by
  have h := take3_ac 71 lenG 4 st hst (fun b hb _ => rlen1_ac b hb)
  have h2 := take4_ac 74 bytesG (lenR st).1 (lenR st).2 (takeS_len hst) (fun b _ hb => rbytes1_ac b (Nat.le_trans hb (takeS_len hst)))
  refine AC.N Tryz.func42 Tryz.ntmps42 ?_
  intro X hρ hmks
  simp only [nx, Nat.reduceAdd, Nat.reduceSub, BEq.rfl]
  repeat' (first | ((first | ((with_reducible apply AP.k_any); first | refine AP.S ?_) | ((with_reducible apply AP.k_any); refine AP.CB [(0, 0)] 0 (h) ?_) | ((with_reducible apply AP.k_any); refine AP.CB [(0, 0)] 0 (h2) ?_)) <;> (try simp only [nx, Nat.reduceAdd, Nat.reduceSub, BEq.rfl])) | ((with_reducible apply AP.k_nil); first | (refine AP.nil (hQ' _ ?_); clear hQ' Q') | refine AP.nil ?_) | ((with_reducible apply CP.k_reg); refine cp_regG fun Q' hQ' => ?_) | refine CP.W ?_ | refine cp_cond rfl (fun hc => ?_) (fun hc => ?_) | (simp only [List.append_eq, List.cons_append, List.nil_append]))
  (exact RetQ.A [(0, 0)] (by exact ⟨rfl, rfl⟩))
theorem rerr_ac (st : Int × List UInt8) : AC Tryz.prog 77 [.bp 0 0 0] [rB st] (fun v bs' => v = I st.1 ∧ bs' = [rB st]) := by
  refine AC.N Tryz.func77 Tryz.ntmps77 ?_
  intro X hρ hmks
  simp only [nx, Nat.reduceAdd, Nat.reduceSub, BEq.rfl]
  repeat' (first | ((first | ((with_reducible apply AP.k_any); first | refine AP.S ?_ | (refine AP.Y ?_; dsimp only) | refine AP.G (fun hg => ?_) (fun hg => ?_) | (refine AP.V (fun c hnil => ?_); simp only [nz]))) <;> (try simp only [nx, Nat.reduceAdd, Nat.reduceSub, BEq.rfl])) | ((with_reducible apply AP.k_nil); first | (refine AP.nil (hQ' _ ?_); clear hQ' Q') | refine AP.nil ?_) | ((with_reducible apply CP.k_reg); refine cp_regG fun Q' hQ' => ?_) | refine CP.W ?_ | refine cp_cond rfl (fun hc => ?_) (fun hc => ?_) | (simp only [List.append_eq, List.cons_append, List.nil_append]))
  (exact RetQ.A [(0, 0)] (by exact ⟨rfl, rfl⟩))
theorem rend_ac (st : Int × List UInt8) : AC Tryz.prog 44 [.bp 0 0 0] [rB st] (fun v bs' => v = I (endR st) ∧ bs' = [rB st]) := by
  refine AC.N Tryz.func44 Tryz.ntmps44 ?_
  intro X hρ hmks
  simp only [nx, Nat.reduceAdd, Nat.reduceSub, BEq.rfl]
  repeat' (first | ((first | ((with_reducible apply AP.k_any); first | refine AP.S ?_ | (refine AP.V (fun c hnil => ?_); simp only [nz])) | ((with_reducible apply AP.k_any); refine AP.CB [(0, 0)] 0 (rerr_ac st) ?_)) <;> (try simp only [nx, Nat.reduceAdd, Nat.reduceSub, BEq.rfl])) | ((with_reducible apply AP.k_nil); first | (refine AP.nil (hQ' _ ?_); clear hQ' Q') | refine AP.nil ?_) | ((with_reducible apply CP.k_reg); refine cp_regG fun Q' hQ' => ?_) | refine CP.W ?_ | refine cp_cond rfl (fun hc => ?_) (fun hc => ?_) | (simp only [List.append_eq, List.cons_append, List.nil_append]))
  all_goals (refine RetQ.B [(0, 0)] ?_; (try dsimp only [resV, List.getD_cons_succ, List.getD_cons_zero]); ((refine ⟨?_, rfl⟩; simp at *; simp [endR, *]; try (intro h; simp [h] at *))))
end Go.Proofs.YtnjfchigdpifmaaGreat

namespace Go.Proofs.YtnjfchigdpifmaaGreat
set_option linter.unusedVariables false
set_option linter.unusedSimpArgs false
set_option maxHeartbeats 8000000
open Go.RowKit
set_option maxRecDepth 100000
/-- a reader of the document: bytes, how many are read, why it is bad -/
structure Rf where
  b : List UInt8
  at_ : Nat
  bad : Int
abbrev tRf : TypeId := 122
abbrev fB (s : Rf) : Bx := .c tRf [bs none s.b, I s.at_, I s.bad]
/-- as the program's -/
def Rf.st (s : Rf) : Int × List UInt8 := (s.bad, if s.bad = 0 then s.b.drop s.at_ else [])
def Rf.ok (s : Rf) : Prop := s.at_ ≤ s.b.length ∧ s.b.length ≤ 100000000
def someF (n : Nat) (s : Rf) : (List UInt8 × Bool) × Rf :=
  if s.bad ≠ 0 then (([], false), s) else if s.b.length - s.at_ < n then (([], false), ⟨s.b, s.at_, 40⟩) else (((s.b.drop s.at_).take n, true), ⟨s.b, s.at_ + n, 0⟩)
theorem dload_ac (b : List UInt8) (n : Nat) (hn : n ≤ 8) (hb : b.length = n) : AC Tryz.prog 80 [bs none b, I 0, I n] [] (fun v bs' => v = .tu [.sc (.int .u64 (beN b : Int)), B true] ∧ bs' = []) := by
  have hw0 : IntKind.i64.wrap ((b.length : Int) - 0) = (b.length : Int) := by rw [wrap_i64 (by omega) (by omega)]; omega
  have hw1 : IntKind.i64.wrap (0 + (n : Int)) = n := by rw [wrap_i64 (by omega) (by omega)]; omega
  refine AC.N Tryz.func80 Tryz.ntmps80 ?_
  intro X hρ hmks
  simp only [nx, Nat.reduceAdd, Nat.reduceSub, BEq.rfl]
  repeat' (first | ((first | ((with_reducible apply AP.k_any); first | refine AP.S ?_ | refine AP.E ?_ | (refine AP.Y ?_; dsimp only) | refine AP.G (fun hg => ?_) (fun hg => ?_))) <;> (try simp only [nx, Nat.reduceAdd, Nat.reduceSub, BEq.rfl])) | ((with_reducible apply AP.k_nil); first | (refine AP.nil (hQ' _ ?_); clear hQ' Q') | refine AP.nil ?_) | ((with_reducible apply CP.k_reg); refine cp_regG fun Q' hQ' => ?_) | refine CP.W ?_ | refine cp_cond rfl (fun hc => ?_) (fun hc => ?_) | (simp only [List.append_eq, List.cons_append, List.nil_append]))
  all_goals first
    | (exfalso; simp [hw0, hb] at *; done)
    | (exfalso; simp [hw0, hb] at *; omega)
    | skip
  refine cp_loopS [8, 9, 27, 28, 29, 30, 31, 32, 33, 34, 35, 36, 37, 38, 39, 40, 41] (fun k : Nat => n - k) (fun k => k ≤ n) (fun k => [(9, I k), (8, .sc (.int .u64 (beN (b.take k) : Int)))]) (fun _ => []) 0 (Nat.zero_le _) (by exact Gh.W) ?_
  rintro k hk
  simp only [setT, deT, setB, List.set_cons_succ, List.set_cons_zero]
  by_cases hlt : k < n
  · have hw : IntKind.i64.wrap ((k : Int) + 1) = ((k + 1 : Nat) : Int) := wrap_i64 (by omega) (by omega)
    have hb1 := beN_lt (b.take k)
    have hb2 : 256 ^ (b.take k).length ≤ 256 ^ 7 := Nat.pow_le_pow_right (by omega) (by simp; omega)
    have hkb : k < b.length := by omega
    have hsn : beN (b.take (k + 1)) = 256 * beN (b.take k) + b[k].toNat := by rw [List.take_succ_eq_append_getElem hkb, beN_snoc]
    have hcl := b[k].toNat_lt
    have hm : IntKind.u64.wrap (IntKind.u64.wrap (256 * (beN (b.take k) : Int)) + IntKind.u64.wrap (b[k].toNat : Int)) = ((beN (b.take (k + 1)) : Nat) : Int) := by
      rw [hsn]
      generalize beN (b.take k) = x at hb1 hb2
      simp [IntKind.wrap, IntKind.bits, IntKind.signed]; omega
    repeat' (first | ((first | ((with_reducible apply AP.k_any); first | refine AP.S ?_ | refine AP.E ?_ | (refine AP.Y ?_; dsimp only) | refine AP.G (fun hg => ?_) (fun hg => ?_))) <;> (try simp only [nx, Nat.reduceAdd, Nat.reduceSub, BEq.rfl])) | ((with_reducible apply AP.k_nil); first | (refine AP.nil (hQ' _ ?_); clear hQ' Q') | refine AP.nil ?_) | ((with_reducible apply CP.k_reg); refine cp_regG fun Q' hQ' => ?_) | refine CP.W ?_ | refine cp_cond rfl (fun hc => ?_) (fun hc => ?_) | (simp only [List.append_eq, List.cons_append, List.nil_append]))
    · simp only [hw, hm]
      exact ⟨k + 1, by omega, by omega, by exact Gh.W⟩
    · exfalso; simp [hw1] at *; omega
  · obtain rfl : k = n := by omega
    rw [List.take_of_length_le (by omega)]
    repeat' (first | ((first | ((with_reducible apply AP.k_any); first | refine AP.S ?_ | refine AP.E ?_ | (refine AP.Y ?_; dsimp only) | refine AP.G (fun hg => ?_) (fun hg => ?_))) <;> (try simp only [nx, Nat.reduceAdd, Nat.reduceSub, BEq.rfl])) | ((with_reducible apply AP.k_nil); first | (refine AP.nil (hQ' _ ?_); clear hQ' Q') | refine AP.nil ?_) | ((with_reducible apply CP.k_reg); refine cp_regG fun Q' hQ' => ?_) | refine CP.W ?_ | refine cp_cond rfl (fun hc => ?_) (fun hc => ?_) | (simp only [List.append_eq, List.cons_append, List.nil_append]))
    all_goals first
      | (exfalso; rw [hw1] at hc; simp at hc; done)
      | (refine RetQ.B [] ?_; (try dsimp only [resV, List.getD_cons_succ, List.getD_cons_zero]); (exact ⟨rfl, rfl⟩))
theorem some_ac (n : Nat) (s : Rf) (hs : s.ok) (hn : n ≤ 4294967295) : AC Tryz.prog 79 [.bp 0 0 0, I n] [fB s] (fun v bs' => v = .tu [bs none (someF n s).1.1, B (someF n s).1.2] ∧ bs' = [fB (someF n s).2]) := by
  obtain ⟨b, p, e⟩ := s
  obtain ⟨h1, h2⟩ := hs
  dsimp only at h1 h2
  have hw0 : IntKind.i64.wrap ((b.length : Int) - p) = ((b.length - p : Nat) : Int) := by rw [wrap_i64 (by omega) (by omega)]; omega
  by_cases he : e = 0
  · subst he
    by_cases hl : b.length - p < n
    · have e1 : someF n ⟨b, p, 0⟩ = (([], false), ⟨b, p, 40⟩) := by simp [someF, hl]
      rw [e1]
      refine AC.N Tryz.func79 Tryz.ntmps79 ?_
      intro X hρ hmks
      simp only [nx, Nat.reduceAdd, Nat.reduceSub, BEq.rfl]
      repeat' (first | ((first | ((with_reducible apply AP.k_any); first | refine AP.S ?_ | (refine AP.V (fun c hnil => ?_); simp only [nz])) | ((with_reducible apply AQ.k_any); first | refine AQ.S ?_)) <;> (try simp only [nx, Nat.reduceAdd, Nat.reduceSub, BEq.rfl])) | ((with_reducible apply AP.k_nil); first | (refine AP.nil (hQ' _ ?_); clear hQ' Q') | refine AP.nil ?_) | ((with_reducible apply AQ.k_nil); first | (refine AQ.nil (hQ' _ ?_); clear hQ' Q') | refine AQ.nil ?_) | ((with_reducible apply CP.k_drw); refine cp_drw (by kernel_rfl) (by kernel_rfl) fun Q' hQ' => ?_) | ((with_reducible apply CP.k_drw1); refine cp_draw (by kernel_rfl) (by kernel_rfl) ?_) | ((with_reducible apply CP.k_reg); refine cp_regG fun Q' hQ' => ?_) | refine CP.W ?_ | refine cp_cond rfl (fun hc => ?_) (fun hc => ?_) | (simp only [List.append_eq, List.cons_append, List.nil_append]))
      all_goals first
        | (exfalso; simp [hw0] at *; done)
        | (exfalso; simp [hw0] at *; omega)
        | (exact RetQ.A [(0, 0)] (by exact ⟨rfl, rfl⟩))
    · have e1 : someF n ⟨b, p, 0⟩ = (((b.drop p).take n, true), ⟨b, p + n, 0⟩) := by simp [someF, hl]
      rw [e1]
      have hw1 : IntKind.i64.wrap ((p : Int) + n) = ((p + n : Nat) : Int) := by rw [wrap_i64 (by omega) (by omega)]; omega
      have hw2 : IntKind.i64.wrap (IntKind.i64.wrap ((p : Int) + n) - n) = (p : Int) := by rw [hw1, wrap_i64 (by omega) (by omega)]; omega
      have hcopy := (copy_ac ((b.drop p).take n) (by simp; omega)).ro (r2 := bs none ((b.drop p).take n)) (by simp only [AV.ro, ro_B])
      rw [hw1] at hw2
      have esl : (List.take ((((p + n : Nat) : Int)).toNat - (IntKind.i64.wrap (((p + n : Nat) : Int) - n)).toNat) (List.drop (IntKind.i64.wrap (((p + n : Nat) : Int) - n)).toNat b)) = (b.drop p).take n := by rw [hw2, show (((p + n : Nat) : Int)).toNat - (p : Int).toNat = n by omega, Int.toNat_natCast]
      have g3 : ((p + n : Nat) : Int) ≤ ((b.map eB).length : Int) := by simp; omega
      rw [← esl] at hcopy
      refine AC.N Tryz.func79 Tryz.ntmps79 ?_
      intro X hρ hmks
      simp only [nx, Nat.reduceAdd, Nat.reduceSub, BEq.rfl]
      repeat' (first | ((first | ((with_reducible apply AP.k_any); first | refine AP.S ?_ | (refine AP.V (fun c hnil => ?_); simp only [nz]))) <;> (try simp only [nx, Nat.reduceAdd, Nat.reduceSub, BEq.rfl])) | ((with_reducible apply AP.k_nil); first | (refine AP.nil (hQ' _ ?_); clear hQ' Q') | refine AP.nil ?_) | ((with_reducible apply CP.k_reg); refine cp_regG fun Q' hQ' => ?_) | refine CP.W ?_ | refine cp_cond rfl (fun hc => ?_) (fun hc => ?_) | (simp only [List.append_eq, List.cons_append, List.nil_append]))
      first | refine cp_drw (by kernel_rfl) (by kernel_rfl) fun Q' hQ' => ?_ | refine cp_draw (by kernel_rfl) (by kernel_rfl) ?_
      repeat' (first | ((first | ((with_reducible apply AP.k_any); first | refine AP.S ?_ | (refine AP.V (fun c hnil => ?_); simp only [nz])) | ((with_reducible apply AQ.k_any); first | refine AQ.S ?_)) <;> (try simp only [nx, Nat.reduceAdd, Nat.reduceSub, BEq.rfl])) | ((with_reducible apply AP.k_nil); first | (refine AP.nil (hQ' _ ?_); clear hQ' Q') | refine AP.nil ?_) | ((with_reducible apply AQ.k_nil); first | (refine AQ.nil (hQ' _ ?_); clear hQ' Q') | refine AQ.nil ?_) | ((with_reducible apply CP.k_reg); refine cp_regG fun Q' hQ' => ?_) | refine CP.W ?_ | refine cp_cond rfl (fun hc => ?_) (fun hc => ?_) | (simp only [List.append_eq, List.cons_append, List.nil_append]))
      · exfalso; simp [hw0] at *; omega
      simp only [hw1]
      refine cp_drawI (fun zs zb => ⟨setT zs.t [(35, cond (zb.getD 0 false) (.bp 0 0 0) (.tu [])), (36, cond (zb.getD 1 false) (.bp 0 0 0) (.tu [])), (37, cond (zb.getD 2 false) (.bp 0 0 0) (.tu [])), (38, cond (zb.getD 3 false) (bs none b) (.tu [])), (39, cond (zb.getD 4 false) (.bp 0 0 0) (.tu [])), (40, cond (zb.getD 5 false) (.bp 0 0 0) (.tu [])), (41, cond (zb.getD 6 false) (.bp 0 0 1) (.tu [])), (42, cond (zb.getD 7 false) (I ((p + n : Nat) : Int)) (.tu [])), (43, cond (zb.getD 8 false) (I n) (.tu [])), (44, cond (zb.getD 9 false) (I (IntKind.i64.wrap (((p + n : Nat) : Int) - n))) (.tu [])), (45, cond (zb.getD 10 false) (.bp 0 0 0) (.tu [])), (46, cond (zb.getD 11 false) (.bp 0 0 0) (.tu [])), (47, cond (zb.getD 12 false) (.bp 0 0 1) (.tu [])), (48, cond (zb.getD 13 false) (I ((p + n : Nat) : Int)) (.tu [])), (49, cond (zb.getD 14 false) (bs none (List.take ((((p + n : Nat) : Int)).toNat - (IntKind.i64.wrap (((p + n : Nat) : Int) - n)).toNat) (List.drop (IntKind.i64.wrap (((p + n : Nat) : Int) - n)).toNat b))) (.tu [])), (50, cond (zb.getD 15 false) (bs none (List.take ((((p + n : Nat) : Int)).toNat - (IntKind.i64.wrap (((p + n : Nat) : Int) - n)).toNat) (List.drop (IntKind.i64.wrap (((p + n : Nat) : Int) - n)).toNat b))) (.tu [])), (4, cond (zb.getD 16 false) (bs none (List.take ((((p + n : Nat) : Int)).toNat - (IntKind.i64.wrap (((p + n : Nat) : Int) - n)).toNat) (List.drop (IntKind.i64.wrap (((p + n : Nat) : Int) - n)).toNat b))) (.sc (.slice none 0 0))), (5, cond (zb.getD 17 false) (B true) (B false))], zs.b⟩) (by kernel_rfl) (by kernel_rfl) (by kernel_rfl) ?_ ?_
      rotate_left
      simp only [cond_true, cond_false, setT, List.set_cons_succ, List.set_cons_zero, List.getD_cons_succ, List.getD_cons_zero, List.set_cons_succ, List.length_cons, List.length_nil, List.replicate_succ, List.replicate_zero, Nat.reduceAdd]
      rotate_left
      · intro b hb' hcl
        obtain ⟨l0, b0, rfl, hb0⟩ := len_cons hb'
        obtain ⟨l1, b1, rfl, hb1⟩ := len_cons hb0
        obtain ⟨l2, b2, rfl, hb2⟩ := len_cons hb1
        obtain ⟨l3, b3, rfl, hb3⟩ := len_cons hb2
        obtain ⟨l4, b4, rfl, hb4⟩ := len_cons hb3
        obtain ⟨l5, b5, rfl, hb5⟩ := len_cons hb4
        obtain ⟨l6, b6, rfl, hb6⟩ := len_cons hb5
        obtain ⟨l7, b7, rfl, hb7⟩ := len_cons hb6
        obtain ⟨l8, b8, rfl, hb8⟩ := len_cons hb7
        obtain ⟨l9, b9, rfl, hb9⟩ := len_cons hb8
        obtain ⟨l10, b10, rfl, hb10⟩ := len_cons hb9
        obtain ⟨l11, b11, rfl, hb11⟩ := len_cons hb10
        obtain ⟨l12, b12, rfl, hb12⟩ := len_cons hb11
        obtain ⟨l13, b13, rfl, hb13⟩ := len_cons hb12
        obtain ⟨l14, b14, rfl, hb14⟩ := len_cons hb13
        obtain ⟨l15, b15, rfl, hb15⟩ := len_cons hb14
        obtain ⟨l16, b16, rfl, hb16⟩ := len_cons hb15
        obtain ⟨l17, b17, rfl, hb17⟩ := len_cons hb16
        obtain rfl := List.length_eq_zero_iff.1 hb17
        clear hb' hb0 hb1 hb2 hb3 hb4 hb5 hb6 hb7 hb8 hb9 hb10 hb11 hb12 hb13 hb14 hb15 hb16 hb17
        · simp only [closedB, depsOk, Region.binds, List.toList_toArray, List.all_cons, List.all_nil, List.getD_cons_succ, List.getD_cons_zero, Bool.not_true, Bool.not_false, Bool.true_or, Bool.false_or, Bool.and_true, Bool.true_and, Bool.or_true, Bool.and_false, Bool.or_false, Bool.false_and, Bool.and_eq_true, Bool.or_eq_true, Bool.not_eq_true'] at hcl
          simp only [StepsP]
          refine ⟨?_, ?_, ?_, ?_, ?_, ?_, ?_, ?_, ?_, ?_, ?_, ?_, ?_, ?_, ?_, ?_, ?_, ?_, trivial⟩
          · intro h1 h2
            simp [depsOk, Region.binds] at h1 h2
            subst h1
            (repeat (obtain ⟨rfl, h2⟩ := h2))
            (try subst h2)
            clear hcl
            all_goals simp only [cond_true, cond_false, setT, List.set_cons_succ, List.set_cons_zero, List.getD_cons_succ, List.getD_cons_zero, List.set_cons_succ]
            all_goals ((with_reducible apply AP.k_any); first | (refine AP.sm false rfl ?_ ?_; focus ((repeat' (with_reducible apply And.intro)) <;> (first | exact True.intro | exact rfl | omega | decide | (simp; omega) | (simp; done) | assumption | exact .inl rfl | (refine .inr ?_; simp; try omega)))) | fail "no step")
            all_goals (try simp only [nx, Nat.reduceAdd, Nat.reduceSub, BEq.rfl])
            all_goals refine AP.nil ?_
            all_goals exact ⟨rfl, rfl⟩
          · intro h1 h2
            simp [depsOk, Region.binds] at h1 h2
            subst h1
            (repeat (obtain ⟨rfl, h2⟩ := h2))
            (try subst h2)
            clear hcl
            all_goals simp only [cond_true, cond_false, setT, List.set_cons_succ, List.set_cons_zero, List.getD_cons_succ, List.getD_cons_zero, List.set_cons_succ]
            all_goals ((with_reducible apply AP.k_any); first | (refine AP.sm false rfl ?_ ?_; focus ((repeat' (with_reducible apply And.intro)) <;> (first | exact True.intro | exact rfl | omega | decide | (simp; omega) | (simp; done) | assumption | exact .inl rfl | (refine .inr ?_; simp; try omega)))) | fail "no step")
            all_goals (try simp only [nx, Nat.reduceAdd, Nat.reduceSub, BEq.rfl])
            all_goals refine AP.nil ?_
            all_goals exact ⟨rfl, rfl⟩
          · intro h1 h2
            simp [depsOk, Region.binds] at h1 h2
            subst h1
            (repeat (obtain ⟨rfl, h2⟩ := h2))
            (try subst h2)
            clear hcl
            all_goals simp only [cond_true, cond_false, setT, List.set_cons_succ, List.set_cons_zero, List.getD_cons_succ, List.getD_cons_zero, List.set_cons_succ]
            all_goals ((with_reducible apply AP.k_any); first | (refine AP.sm false rfl ?_ ?_; focus ((repeat' (with_reducible apply And.intro)) <;> (first | exact True.intro | exact rfl | omega | decide | (simp; omega) | (simp; done) | assumption | exact .inl rfl | (refine .inr ?_; simp; try omega)))) | fail "no step")
            all_goals (try simp only [nx, Nat.reduceAdd, Nat.reduceSub, BEq.rfl])
            all_goals refine AP.nil ?_
            all_goals exact ⟨rfl, rfl⟩
          · intro h1 h2
            simp [depsOk, Region.binds] at h1 h2
            subst h1
            (repeat (obtain ⟨rfl, h2⟩ := h2))
            (try subst h2)
            clear hcl
            all_goals simp only [cond_true, cond_false, setT, List.set_cons_succ, List.set_cons_zero, List.getD_cons_succ, List.getD_cons_zero, List.set_cons_succ]
            all_goals ((with_reducible apply AP.k_any); first | (refine AP.sm false rfl ?_ ?_; focus ((repeat' (with_reducible apply And.intro)) <;> (first | exact True.intro | exact rfl | omega | decide | (simp; omega) | (simp; done) | assumption | exact .inl rfl | (refine .inr ?_; simp; try omega)))) | (refine AP.el rfl ?_ (by (first | (refine ⟨?_, ?_⟩; assumption; rfl) | exact ⟨mapAt (by (first | omega | (simp; omega) | (simp; done) | assumption)), rfl⟩ | exact ⟨rfl, rfl⟩)) ?_; focus ((repeat' (with_reducible apply And.intro)) <;> (first | exact True.intro | exact rfl | omega | decide | (simp; omega) | (simp; done) | assumption | exact .inl rfl | (refine .inr ?_; simp; try omega)))) | fail "no step")
            all_goals (try simp only [nx, Nat.reduceAdd, Nat.reduceSub, BEq.rfl])
            all_goals refine AP.nil ?_
            all_goals exact ⟨rfl, rfl⟩
          · intro h1 h2
            simp [depsOk, Region.binds] at h1 h2
            subst h1
            (repeat (obtain ⟨rfl, h2⟩ := h2))
            (try subst h2)
            clear hcl
            all_goals simp only [cond_true, cond_false, setT, List.set_cons_succ, List.set_cons_zero, List.getD_cons_succ, List.getD_cons_zero, List.set_cons_succ]
            all_goals ((with_reducible apply AP.k_any); first | (refine AP.sm false rfl ?_ ?_; focus ((repeat' (with_reducible apply And.intro)) <;> (first | exact True.intro | exact rfl | omega | decide | (simp; omega) | (simp; done) | assumption | exact .inl rfl | (refine .inr ?_; simp; try omega)))) | fail "no step")
            all_goals (try simp only [nx, Nat.reduceAdd, Nat.reduceSub, BEq.rfl])
            all_goals refine AP.nil ?_
            all_goals exact ⟨rfl, rfl⟩
          · intro h1 h2
            simp [depsOk, Region.binds] at h1 h2
            subst h1
            (repeat (obtain ⟨rfl, h2⟩ := h2))
            (try subst h2)
            clear hcl
            all_goals simp only [cond_true, cond_false, setT, List.set_cons_succ, List.set_cons_zero, List.getD_cons_succ, List.getD_cons_zero, List.set_cons_succ]
            all_goals ((with_reducible apply AP.k_any); first | (refine AP.sm false rfl ?_ ?_; focus ((repeat' (with_reducible apply And.intro)) <;> (first | exact True.intro | exact rfl | omega | decide | (simp; omega) | (simp; done) | assumption | exact .inl rfl | (refine .inr ?_; simp; try omega)))) | fail "no step")
            all_goals (try simp only [nx, Nat.reduceAdd, Nat.reduceSub, BEq.rfl])
            all_goals refine AP.nil ?_
            all_goals exact ⟨rfl, rfl⟩
          · intro h1 h2
            simp [depsOk, Region.binds] at h1 h2
            subst h1
            (repeat (obtain ⟨rfl, h2⟩ := h2))
            (try subst h2)
            clear hcl
            all_goals simp only [cond_true, cond_false, setT, List.set_cons_succ, List.set_cons_zero, List.getD_cons_succ, List.getD_cons_zero, List.set_cons_succ]
            all_goals ((with_reducible apply AP.k_any); first | (refine AP.sm false rfl ?_ ?_; focus ((repeat' (with_reducible apply And.intro)) <;> (first | exact True.intro | exact rfl | omega | decide | (simp; omega) | (simp; done) | assumption | exact .inl rfl | (refine .inr ?_; simp; try omega)))) | fail "no step")
            all_goals (try simp only [nx, Nat.reduceAdd, Nat.reduceSub, BEq.rfl])
            all_goals refine AP.nil ?_
            all_goals exact ⟨rfl, rfl⟩
          · intro h1 h2
            simp [depsOk, Region.binds] at h1 h2
            subst h1
            (repeat (obtain ⟨rfl, h2⟩ := h2))
            (try subst h2)
            clear hcl
            all_goals simp only [cond_true, cond_false, setT, List.set_cons_succ, List.set_cons_zero, List.getD_cons_succ, List.getD_cons_zero, List.set_cons_succ]
            all_goals ((with_reducible apply AP.k_any); first | (refine AP.sm false rfl ?_ ?_; focus ((repeat' (with_reducible apply And.intro)) <;> (first | exact True.intro | exact rfl | omega | decide | (simp; omega) | (simp; done) | assumption | exact .inl rfl | (refine .inr ?_; simp; try omega)))) | (refine AP.el rfl ?_ (by (first | (refine ⟨?_, ?_⟩; assumption; rfl) | exact ⟨mapAt (by (first | omega | (simp; omega) | (simp; done) | assumption)), rfl⟩ | exact ⟨rfl, rfl⟩)) ?_; focus ((repeat' (with_reducible apply And.intro)) <;> (first | exact True.intro | exact rfl | omega | decide | (simp; omega) | (simp; done) | assumption | exact .inl rfl | (refine .inr ?_; simp; try omega)))) | fail "no step")
            all_goals (try simp only [nx, Nat.reduceAdd, Nat.reduceSub, BEq.rfl])
            all_goals refine AP.nil ?_
            all_goals exact ⟨rfl, rfl⟩
          · intro h1 h2
            simp [depsOk, Region.binds] at h1 h2
            subst h1
            (repeat (obtain ⟨rfl, h2⟩ := h2))
            (try subst h2)
            clear hcl
            all_goals simp only [cond_true, cond_false, setT, List.set_cons_succ, List.set_cons_zero, List.getD_cons_succ, List.getD_cons_zero, List.set_cons_succ]
            all_goals ((with_reducible apply AP.k_any); first | (refine AP.sm false rfl ?_ ?_; focus ((repeat' (with_reducible apply And.intro)) <;> (first | exact True.intro | exact rfl | omega | decide | (simp; omega) | (simp; done) | assumption | exact .inl rfl | (refine .inr ?_; simp; try omega)))) | fail "no step")
            all_goals (try simp only [nx, Nat.reduceAdd, Nat.reduceSub, BEq.rfl])
            all_goals refine AP.nil ?_
            all_goals exact ⟨rfl, rfl⟩
          · intro h1 h2
            simp [depsOk, Region.binds] at h1 h2
            subst h1
            (repeat (obtain ⟨rfl, h2⟩ := h2))
            (try subst h2)
            clear hcl
            all_goals simp only [cond_true, cond_false, setT, List.set_cons_succ, List.set_cons_zero, List.getD_cons_succ, List.getD_cons_zero, List.set_cons_succ]
            all_goals ((with_reducible apply AP.k_any); first | (refine AP.sm false rfl ?_ ?_; focus ((repeat' (with_reducible apply And.intro)) <;> (first | exact True.intro | exact rfl | omega | decide | (simp; omega) | (simp; done) | assumption | exact .inl rfl | (refine .inr ?_; simp; try omega)))) | fail "no step")
            all_goals (try simp only [nx, Nat.reduceAdd, Nat.reduceSub, BEq.rfl])
            all_goals refine AP.nil ?_
            all_goals exact ⟨rfl, rfl⟩
          · intro h1 h2
            simp [depsOk, Region.binds] at h1 h2
            subst h1
            (repeat (obtain ⟨rfl, h2⟩ := h2))
            (try subst h2)
            clear hcl
            all_goals simp only [cond_true, cond_false, setT, List.set_cons_succ, List.set_cons_zero, List.getD_cons_succ, List.getD_cons_zero, List.set_cons_succ]
            all_goals ((with_reducible apply AP.k_any); first | (refine AP.sm false rfl ?_ ?_; focus ((repeat' (with_reducible apply And.intro)) <;> (first | exact True.intro | exact rfl | omega | decide | (simp; omega) | (simp; done) | assumption | exact .inl rfl | (refine .inr ?_; simp; try omega)))) | fail "no step")
            all_goals (try simp only [nx, Nat.reduceAdd, Nat.reduceSub, BEq.rfl])
            all_goals refine AP.nil ?_
            all_goals exact ⟨rfl, rfl⟩
          · intro h1 h2
            simp [depsOk, Region.binds] at h1 h2
            subst h1
            (repeat (obtain ⟨rfl, h2⟩ := h2))
            (try subst h2)
            clear hcl
            all_goals simp only [cond_true, cond_false, setT, List.set_cons_succ, List.set_cons_zero, List.getD_cons_succ, List.getD_cons_zero, List.set_cons_succ]
            all_goals ((with_reducible apply AP.k_any); first | (refine AP.sm false rfl ?_ ?_; focus ((repeat' (with_reducible apply And.intro)) <;> (first | exact True.intro | exact rfl | omega | decide | (simp; omega) | (simp; done) | assumption | exact .inl rfl | (refine .inr ?_; simp; try omega)))) | fail "no step")
            all_goals (try simp only [nx, Nat.reduceAdd, Nat.reduceSub, BEq.rfl])
            all_goals refine AP.nil ?_
            all_goals exact ⟨rfl, rfl⟩
          · intro h1 h2
            simp [depsOk, Region.binds] at h1 h2
            subst h1
            (repeat (obtain ⟨rfl, h2⟩ := h2))
            (try subst h2)
            clear hcl
            all_goals simp only [cond_true, cond_false, setT, List.set_cons_succ, List.set_cons_zero, List.getD_cons_succ, List.getD_cons_zero, List.set_cons_succ]
            all_goals ((with_reducible apply AP.k_any); first | (refine AP.sm false rfl ?_ ?_; focus ((repeat' (with_reducible apply And.intro)) <;> (first | exact True.intro | exact rfl | omega | decide | (simp; omega) | (simp; done) | assumption | exact .inl rfl | (refine .inr ?_; simp; try omega)))) | fail "no step")
            all_goals (try simp only [nx, Nat.reduceAdd, Nat.reduceSub, BEq.rfl])
            all_goals refine AP.nil ?_
            all_goals exact ⟨rfl, rfl⟩
          · intro h1 h2
            simp [depsOk, Region.binds] at h1 h2
            subst h1
            (repeat (obtain ⟨rfl, h2⟩ := h2))
            (try subst h2)
            clear hcl
            all_goals simp only [cond_true, cond_false, setT, List.set_cons_succ, List.set_cons_zero, List.getD_cons_succ, List.getD_cons_zero, List.set_cons_succ]
            all_goals ((with_reducible apply AP.k_any); first | (refine AP.sm false rfl ?_ ?_; focus ((repeat' (with_reducible apply And.intro)) <;> (first | exact True.intro | exact rfl | omega | decide | (simp; omega) | (simp; done) | assumption | exact .inl rfl | (refine .inr ?_; simp; try omega)))) | (refine AP.el rfl ?_ (by (first | (refine ⟨?_, ?_⟩; assumption; rfl) | exact ⟨mapAt (by (first | omega | (simp; omega) | (simp; done) | assumption)), rfl⟩ | exact ⟨rfl, rfl⟩)) ?_; focus ((repeat' (with_reducible apply And.intro)) <;> (first | exact True.intro | exact rfl | omega | decide | (simp; omega) | (simp; done) | assumption | exact .inl rfl | (refine .inr ?_; simp; try omega)))) | fail "no step")
            all_goals (try simp only [nx, Nat.reduceAdd, Nat.reduceSub, BEq.rfl])
            all_goals refine AP.nil ?_
            all_goals exact ⟨rfl, rfl⟩
          · intro h1 h2
            simp [depsOk, Region.binds] at h1 h2
            subst h1
            (repeat (obtain ⟨rfl, h2⟩ := h2))
            (try subst h2)
            clear hcl
            all_goals simp only [cond_true, cond_false, setT, List.set_cons_succ, List.set_cons_zero, List.getD_cons_succ, List.getD_cons_zero, List.set_cons_succ]
            all_goals ((with_reducible apply AP.k_any); first | (refine AP.sm false rfl ?_ ?_; focus ((repeat' (with_reducible apply And.intro)) <;> (first | exact True.intro | exact rfl | omega | decide | (simp; omega) | (simp; done) | assumption | exact .inl rfl | (refine .inr ?_; simp; try omega)))) | fail "no step")
            all_goals (try simp only [nx, Nat.reduceAdd, Nat.reduceSub, BEq.rfl])
            all_goals refine AP.nil ?_
            all_goals exact ⟨rfl, rfl⟩
          · intro h1 h2
            simp [depsOk, Region.binds] at h1 h2
            subst h1
            (repeat (obtain ⟨rfl, h2⟩ := h2))
            (try subst h2)
            clear hcl
            all_goals simp only [cond_true, cond_false, setT, List.set_cons_succ, List.set_cons_zero, List.getD_cons_succ, List.getD_cons_zero, List.set_cons_succ]
            (first
            | ((with_reducible apply AP.k_any); refine AP.C (hcopy) ?_)
            | fail "no arm")
            all_goals (try simp only [nx, Nat.reduceAdd, Nat.reduceSub, BEq.rfl])
            all_goals refine AP.nil ?_
            all_goals exact ⟨rfl, rfl⟩
          · intro h1 h2
            simp [depsOk, Region.binds] at h1 h2
            subst h1
            (repeat (obtain ⟨rfl, h2⟩ := h2))
            (try subst h2)
            clear hcl
            all_goals simp only [cond_true, cond_false, setT, List.set_cons_succ, List.set_cons_zero, List.getD_cons_succ, List.getD_cons_zero, List.set_cons_succ]
            all_goals ((with_reducible apply AP.k_any); first | (refine AP.sm false rfl ?_ ?_; focus ((repeat' (with_reducible apply And.intro)) <;> (first | exact True.intro | exact rfl | omega | decide | (simp; omega) | (simp; done) | assumption | exact .inl rfl | (refine .inr ?_; simp; try omega)))) | fail "no step")
            all_goals (try simp only [nx, Nat.reduceAdd, Nat.reduceSub, BEq.rfl])
            all_goals refine AP.nil ?_
            all_goals exact ⟨rfl, rfl⟩
          · intro h1 h2
            simp [depsOk, Region.binds] at h1 h2
            subst h1
            (repeat (obtain ⟨rfl, h2⟩ := h2))
            (try subst h2)
            clear hcl
            all_goals simp only [cond_true, cond_false, setT, List.set_cons_succ, List.set_cons_zero, List.getD_cons_succ, List.getD_cons_zero, List.set_cons_succ]
            all_goals ((with_reducible apply AP.k_any); first | (refine AP.sm false rfl ?_ ?_; focus ((repeat' (with_reducible apply And.intro)) <;> (first | exact True.intro | exact rfl | omega | decide | (simp; omega) | (simp; done) | assumption | exact .inl rfl | (refine .inr ?_; simp; try omega)))) | fail "no step")
            all_goals (try simp only [nx, Nat.reduceAdd, Nat.reduceSub, BEq.rfl])
            all_goals refine AP.nil ?_
            all_goals exact ⟨rfl, rfl⟩
      simp only [esl]
      repeat' (first | ((first | ((with_reducible apply AP.k_any); first | refine AP.S ?_ | (refine AP.V (fun c hnil => ?_); simp only [nz]))) <;> (try simp only [nx, Nat.reduceAdd, Nat.reduceSub, BEq.rfl])) | ((with_reducible apply AP.k_nil); first | (refine AP.nil (hQ' _ ?_); clear hQ' Q') | refine AP.nil ?_) | ((with_reducible apply CP.k_reg); refine cp_regG fun Q' hQ' => ?_) | refine CP.W ?_ | refine cp_cond rfl (fun hc => ?_) (fun hc => ?_) | (simp only [List.append_eq, List.cons_append, List.nil_append]))
      (exact RetQ.A [(0, 0)] (by exact ⟨rfl, rfl⟩))
  · have e1 : someF n ⟨b, p, e⟩ = (([], false), ⟨b, p, e⟩) := by simp [someF, he]
    rw [e1]
    refine AC.N Tryz.func79 Tryz.ntmps79 ?_
    intro X hρ hmks
    simp only [nx, Nat.reduceAdd, Nat.reduceSub, BEq.rfl]
    repeat' (first | ((first | ((with_reducible apply AP.k_any); first | refine AP.S ?_ | (refine AP.V (fun c hnil => ?_); simp only [nz])) | ((with_reducible apply AQ.k_any); first | refine AQ.S ?_)) <;> (try simp only [nx, Nat.reduceAdd, Nat.reduceSub, BEq.rfl])) | ((with_reducible apply AP.k_nil); first | (refine AP.nil (hQ' _ ?_); clear hQ' Q') | refine AP.nil ?_) | ((with_reducible apply AQ.k_nil); first | (refine AQ.nil (hQ' _ ?_); clear hQ' Q') | refine AQ.nil ?_) | ((with_reducible apply CP.k_drw); refine cp_drw (by kernel_rfl) (by kernel_rfl) fun Q' hQ' => ?_) | ((with_reducible apply CP.k_drw1); refine cp_draw (by kernel_rfl) (by kernel_rfl) ?_) | ((with_reducible apply CP.k_reg); refine cp_regG fun Q' hQ' => ?_) | refine CP.W ?_ | refine cp_cond rfl (fun hc => ?_) (fun hc => ?_) | (simp only [List.append_eq, List.cons_append, List.nil_append]))
    all_goals first
      | (exfalso; simp at *; omega)
      | (exact RetQ.A [(0, 0)] (by exact ⟨rfl, rfl⟩))
end Go.Proofs.YtnjfchigdpifmaaGreat

namespace Go.Proofs.YtnjfchigdpifmaaGreat
set_option linter.unusedVariables false
set_option linter.unusedSimpArgs false
open Go.RowKit
set_option maxRecDepth 100000
abbrev St := Int × List UInt8
def newF (b : List UInt8) : Rf := if 65536 < b.length then ⟨[], 0, 3⟩ else ⟨b, 0, 0⟩
def intF (s : Rf) : Int × Rf := (if (someF 8 s).1.2 then toI (beN (someF 8 s).1.1) else 0, (someF 8 s).2)
def Rf.spoil (s : Rf) : Rf := ⟨s.b, s.at_, 40⟩
def bytesF (s : Rf) : List UInt8 × Rf :=
  if (someF 4 s).1.2 then (if 65536 < beN (someF 4 s).1.1 then ([], (someF 4 s).2.spoil) else ((someF (beN (someF 4 s).1.1) (someF 4 s).2).1.1, (someF (beN (someF 4 s).1.1) (someF 4 s).2).2)) else ([], (someF 4 s).2)
def Rf.left (s : Rf) : Nat := s.b.length - s.at_
def endF (s : Rf) : Int := if s.bad = 0 ∧ s.at_ < s.b.length then 40 else s.bad
theorem someF_len {n : Nat} {s : Rf} (hs : s.ok) (h : (someF n s).1.2 = true) : (someF n s).1.1.length = n := by
  unfold someF at h ⊢
  split
  · rename_i h1; simp [h1] at h
  · split
    · rename_i h1 h2; simp [h1, h2] at h
    · simp; omega
theorem someF_nil {n : Nat} {s : Rf} (h : (someF n s).1.2 = false) : (someF n s).1.1 = [] := by
  unfold someF at h ⊢
  split
  · rfl
  · split
    · rfl
    · rename_i h1 h2; simp [h1, h2] at h
theorem someF_ok {n : Nat} {s : Rf} (hs : s.ok) : (someF n s).2.ok := by
  unfold someF
  split
  · exact hs
  · split
    · exact hs
    · exact ⟨by have := hs.1; dsimp only; omega, hs.2⟩
theorem someF_st {n : Nat} {s : Rf} (hs : s.ok) : (someF n s).2.st = (if (someF n s).1.2 then (0, s.st.2.drop n) else ((someF n s).2.bad, [])) ∧ ((someF n s).1.2 = true → s.bad = 0 ∧ (someF n s).2.bad = 0 ∧ (someF n s).1.1 = s.st.2.take n ∧ n ≤ s.st.2.length) ∧ ((someF n s).1.2 = false → ((s.bad ≠ 0 ∧ (someF n s).2 = s) ∨ (s.bad = 0 ∧ (someF n s).2.bad = 40 ∧ s.st.2.length < n))) := by
  obtain ⟨b, p, e⟩ := s
  by_cases he : e = 0
  · subst he
    by_cases hl : b.length - p < n
    · simp [someF, hl, Rf.st]
    · simp [someF, hl, Rf.st]
      omega
  · simp [someF, he, Rf.st]
theorem take_some {α : Type} (z : α) (g : List UInt8 → α × Bool) (n : Nat) {s : Rf} (hs : s.ok) {n' : Int} (hn' : n' = n) :
    takeS z g n' s.st = if (someF n s).1.2 then (if (g (someF n s).1.1).2 = true then ((g (someF n s).1.1).1, (someF n s).2.st) else (z, (40, []))) else (z, (someF n s).2.st) := by
  subst hn'
  obtain ⟨h1, h2, h3⟩ := someF_st (n := n) hs
  cases h : (someF n s).1.2 with
  | true =>
    obtain ⟨a1, a2, a3, a4⟩ := h2 h
    rw [h] at h1
    rw [h1]
    have e1 : s.st.1 = 0 := a1
    simp only [takeS, e1, if_true]
    rw [if_neg (by simp), if_neg (by omega), Int.toNat_natCast, a3]
  | false =>
    rw [h] at h1
    rw [h1]
    rcases h3 h with ⟨a1, a2⟩ | ⟨a1, a2, a3⟩
    · rw [a2]
      simp [takeS, Rf.st, a1]
    · have e1 : s.st.1 = 0 := a1
      simp only [takeS, e1]
      rw [if_neg (by simp), if_pos (by omega), a2]
      simp
def Sim {α : Type} (f : Rf → α × Rf) (r : St → α × St) : Prop := ∀ s : Rf, s.ok → (f s).1 = (r s.st).1 ∧ (f s).2.st = (r s.st).2 ∧ (f s).2.ok
theorem spoil_st (s : Rf) : s.spoil.st = (40, []) := by simp [Rf.spoil, Rf.st]
theorem sim_int : Sim intF intR := fun s hs => by
  have h := take_some (0 : Int) intG 8 hs (n' := 8) rfl
  refine ⟨?_, ?_, someF_ok hs⟩ <;> (unfold intF intR; rw [h]) <;> (cases hb : (someF 8 s).1.2 <;> simp [intG, hb])
theorem sim_bytes : Sim bytesF bytesR := fun s hs => by
  have h := take_some (0 : Int) lenG 4 hs (n' := 4) rfl
  have hok := someF_ok (n := 4) hs
  have hl : lenR s.st = if (someF 4 s).1.2 then (if 65536 < beN (someF 4 s).1.1 then ((0 : Int), ((40 : Int), ([] : List UInt8))) else ((beN (someF 4 s).1.1 : Int), (someF 4 s).2.st)) else (0, (someF 4 s).2.st) := by
    unfold lenR
    rw [h]
    cases hb : (someF 4 s).1.2
    · simp
    · by_cases hn : 65536 < beN (someF 4 s).1.1
      · have h2 : ¬ beN (someF 4 s).1.1 ≤ 65536 := by omega
        simp [lenG, hn, h2]
      · have h2 : beN (someF 4 s).1.1 ≤ 65536 := by omega
        simp [lenG, hn, h2]
  unfold bytesF bytesR
  rw [hl]
  cases hb : (someF 4 s).1.2
  · obtain ⟨h1, h2, h3⟩ := someF_st (n := 4) hs
    rw [hb] at h1
    simp only [Bool.false_eq_true, if_false]
    have hbad : (someF 4 s).2.bad ≠ 0 := by
      rcases h3 hb with ⟨a1, a2⟩ | ⟨a1, a2, a3⟩
      · rw [a2]; exact a1
      · rw [a2]; decide
    have e : takeS ([] : List UInt8) bytesG 0 (someF 4 s).2.st = ([], (someF 4 s).2.st) := by simp [takeS, Rf.st, hbad]
    rw [e]
    exact ⟨rfl, rfl, hok⟩
  · by_cases hn : 65536 < beN (someF 4 s).1.1
    · simp only [if_true, if_pos hn]
      refine ⟨?_, ?_, hok⟩
      · simp [takeS]
      · simp [takeS, spoil_st]
    · simp only [if_true, if_neg hn]
      have h4 := take_some ([] : List UInt8) bytesG (beN (someF 4 s).1.1) hok rfl
      rw [h4]
      refine ⟨?_, ?_, someF_ok hok⟩
      · cases hb2 : (someF (beN (someF 4 s).1.1) (someF 4 s).2).1.2
        · simp [bytesG, someF_nil hb2]
        · simp [bytesG]
      · cases hb2 : (someF (beN (someF 4 s).1.1) (someF 4 s).2).1.2 <;> simp [bytesG]
theorem sim_end (s : Rf) (hs : s.ok) : endF s = endR s.st := by
  obtain ⟨b, p, e⟩ := s
  obtain ⟨h1, h2⟩ := hs
  dsimp only at h1 h2
  by_cases he : e = 0
  · subst he
    simp [endF, endR, Rf.st]
    by_cases hp : p < b.length
    · rw [if_pos hp, if_neg (by omega)]
    · rw [if_neg hp, if_pos (by omega)]
  · simp [endF, endR, Rf.st, he]
theorem sim_new (b : List UInt8) (hb : b.length ≤ 100000000) : (newF b).st = newR b ∧ (newF b).ok := by
  unfold newF newR
  split
  · exact ⟨by simp [Rf.st], by simp [Rf.ok]⟩
  · exact ⟨by simp [Rf.st], by simp [Rf.ok]; omega⟩
end Go.Proofs.YtnjfchigdpifmaaGreat

namespace Go.Proofs.YtnjfchigdpifmaaGreat
set_option linter.unusedVariables false
set_option linter.unusedSimpArgs false
set_option maxHeartbeats 8000000
open Go.RowKit
set_option maxRecDepth 100000
theorem dnew_ac (b : List UInt8) (hb : b.length ≤ 100000000) : AC Tryz.prog 48 [bs none b] [] (fun v bs' => v = .bp 0 0 0 ∧ bs' = [fB (newF b)]) := by
  by_cases h : 65536 < b.length
  · have e : newF b = ⟨[], 0, 3⟩ := by simp [newF, h]
    rw [e]
    refine AC.N Tryz.func48 Tryz.ntmps48 ?_
    intro X hρ hmks
    simp only [nx, Nat.reduceAdd, Nat.reduceSub, BEq.rfl]
    repeat' (first | ((first | ((with_reducible apply AP.k_any); first | refine AP.S ?_)) <;> (try simp only [nx, Nat.reduceAdd, Nat.reduceSub, BEq.rfl])) | ((with_reducible apply AP.k_nil); first | (refine AP.nil (hQ' _ ?_); clear hQ' Q') | refine AP.nil ?_) | ((with_reducible apply CP.k_reg); refine cp_regG fun Q' hQ' => ?_) | refine CP.W ?_ | refine cp_cond rfl (fun hc => ?_) (fun hc => ?_) | (simp only [List.append_eq, List.cons_append, List.nil_append]))
    · (exact RetQ.A [(0, 1)] (by exact ⟨rfl, rfl⟩))
    · exfalso; simp at *; omega
  · have e : newF b = ⟨b, 0, 0⟩ := by simp [newF, h]
    rw [e]
    refine AC.N Tryz.func48 Tryz.ntmps48 ?_
    intro X hρ hmks
    simp only [nx, Nat.reduceAdd, Nat.reduceSub, BEq.rfl]
    repeat' (first | ((first | ((with_reducible apply AP.k_any); first | refine AP.S ?_)) <;> (try simp only [nx, Nat.reduceAdd, Nat.reduceSub, BEq.rfl])) | ((with_reducible apply AP.k_nil); first | (refine AP.nil (hQ' _ ?_); clear hQ' Q') | refine AP.nil ?_) | ((with_reducible apply CP.k_reg); refine cp_regG fun Q' hQ' => ?_) | refine CP.W ?_ | refine cp_cond rfl (fun hc => ?_) (fun hc => ?_) | (simp only [List.append_eq, List.cons_append, List.nil_append]))
    · exfalso; simp at *; omega
    · (exact RetQ.A [(0, 1)] (by exact ⟨rfl, rfl⟩))
theorem dintR_ac (s : Rf) (hs : s.ok) : AC Tryz.prog 49 [.bp 0 0 0] [fB s] (fun v bs' => v = I (intF s).1 ∧ bs' = [fB (intF s).2]) := by
  have h := some_ac 8 s hs (by omega)
  have hl := someF_len (n := 8) hs
  unfold intF
  generalize someF 8 s = r at h hl ⊢
  obtain ⟨⟨l, o⟩, s'⟩ := r
  dsimp only at h hl ⊢
  cases o with
  | false =>
    simp only [Bool.false_eq_true, if_false]
    refine AC.N Tryz.func49 Tryz.ntmps49 ?_
    intro X hρ hmks
    simp only [nx, Nat.reduceAdd, Nat.reduceSub, BEq.rfl]
    repeat' (first | ((first | ((with_reducible apply AP.k_any); first | refine AP.S ?_) | ((with_reducible apply AP.k_any); refine AP.CB [(0, 0)] 0 (h) ?_)) <;> (try simp only [nx, Nat.reduceAdd, Nat.reduceSub, BEq.rfl])) | ((with_reducible apply AP.k_nil); first | (refine AP.nil (hQ' _ ?_); clear hQ' Q') | refine AP.nil ?_) | ((with_reducible apply CP.k_reg); refine cp_regG fun Q' hQ' => ?_) | refine CP.W ?_ | refine cp_cond rfl (fun hc => ?_) (fun hc => ?_) | (simp only [List.append_eq, List.cons_append, List.nil_append]))
    (exact RetQ.A [(0, 0)] (by exact ⟨rfl, rfl⟩))
  | true =>
    have hd := dload_ac l 8 (by omega) (hl rfl)
    simp only [if_true]
    refine AC.N Tryz.func49 Tryz.ntmps49 ?_
    intro X hρ hmks
    simp only [nx, Nat.reduceAdd, Nat.reduceSub, BEq.rfl]
    repeat' (first | ((first | ((with_reducible apply AP.k_any); first | refine AP.S ?_) | ((with_reducible apply AP.k_any); refine AP.CB [(0, 0)] 0 (h) ?_) | ((with_reducible apply AP.k_any); refine AP.C (hd) ?_)) <;> (try simp only [nx, Nat.reduceAdd, Nat.reduceSub, BEq.rfl])) | ((with_reducible apply AP.k_nil); first | (refine AP.nil (hQ' _ ?_); clear hQ' Q') | refine AP.nil ?_) | ((with_reducible apply CP.k_reg); refine cp_regG fun Q' hQ' => ?_) | refine CP.W ?_ | refine cp_cond rfl (fun hc => ?_) (fun hc => ?_) | (simp only [List.append_eq, List.cons_append, List.nil_append]))
    (exact RetQ.A [(0, 0)] (by exact ⟨rfl, rfl⟩))
theorem dbytesR_ac (s : Rf) (hs : s.ok) : AC Tryz.prog 50 [.bp 0 0 0] [fB s] (fun v bs' => v = bs none (bytesF s).1 ∧ bs' = [fB (bytesF s).2]) := by
  have h := some_ac 4 s hs (by omega)
  have hl := someF_len (n := 4) hs
  have hok := someF_ok (n := 4) hs
  unfold bytesF
  generalize someF 4 s = r at h hl hok ⊢
  obtain ⟨⟨l, o⟩, s'⟩ := r
  dsimp only at h hl hok ⊢
  cases o with
  | false =>
    simp only [Bool.false_eq_true, if_false]
    refine AC.N Tryz.func50 Tryz.ntmps50 ?_
    intro X hρ hmks
    simp only [nx, Nat.reduceAdd, Nat.reduceSub, BEq.rfl]
    repeat' (first | ((first | ((with_reducible apply AP.k_any); first | refine AP.S ?_) | ((with_reducible apply AP.k_any); refine AP.CB [(0, 0)] 0 (h) ?_)) <;> (try simp only [nx, Nat.reduceAdd, Nat.reduceSub, BEq.rfl])) | ((with_reducible apply AP.k_nil); first | (refine AP.nil (hQ' _ ?_); clear hQ' Q') | refine AP.nil ?_) | ((with_reducible apply CP.k_reg); refine cp_regG fun Q' hQ' => ?_) | refine CP.W ?_ | refine cp_cond rfl (fun hc => ?_) (fun hc => ?_) | (simp only [List.append_eq, List.cons_append, List.nil_append]))
    (exact RetQ.A [(0, 0)] (by exact ⟨rfl, rfl⟩))
  | true =>
    have hd := dload_ac l 4 (by omega) (hl rfl)
    have hlt := beN_lt l
    rw [hl rfl] at hlt
    simp only [if_true]
    by_cases hn : 65536 < beN l
    · simp only [if_pos hn]
      refine AC.N Tryz.func50 Tryz.ntmps50 ?_
      intro X hρ hmks
      simp only [nx, Nat.reduceAdd, Nat.reduceSub, BEq.rfl]
      repeat' (first | ((first | ((with_reducible apply AP.k_any); first | refine AP.S ?_) | ((with_reducible apply AP.k_any); refine AP.CB [(0, 0)] 0 (h) ?_) | ((with_reducible apply AP.k_any); refine AP.C (hd) ?_)) <;> (try simp only [nx, Nat.reduceAdd, Nat.reduceSub, BEq.rfl])) | ((with_reducible apply AP.k_nil); first | (refine AP.nil (hQ' _ ?_); clear hQ' Q') | refine AP.nil ?_) | ((with_reducible apply CP.k_reg); refine cp_regG fun Q' hQ' => ?_) | refine CP.W ?_ | refine cp_cond rfl (fun hc => ?_) (fun hc => ?_) | (simp only [List.append_eq, List.cons_append, List.nil_append]))
      · (exact RetQ.A [(0, 0)] (by exact ⟨rfl, rfl⟩))
      · exfalso; simp at *; omega
    · simp only [if_neg hn]
      have h4 := some_ac (beN l) s' hok (by omega)
      have hw : IntKind.i64.wrap (beN l : Int) = (beN l : Int) := wrap_i64 (by omega) (by omega)
      rw [← hw] at h4
      refine AC.N Tryz.func50 Tryz.ntmps50 ?_
      intro X hρ hmks
      simp only [nx, Nat.reduceAdd, Nat.reduceSub, BEq.rfl]
      repeat' (first | ((first | ((with_reducible apply AP.k_any); first | refine AP.S ?_) | ((with_reducible apply AP.k_any); refine AP.CB [(0, 0)] 0 (h) ?_) | ((with_reducible apply AP.k_any); refine AP.C (hd) ?_) | ((with_reducible apply AP.k_any); refine AP.CB [(0, 0)] 0 (h4) ?_)) <;> (try simp only [nx, Nat.reduceAdd, Nat.reduceSub, BEq.rfl])) | ((with_reducible apply AP.k_nil); first | (refine AP.nil (hQ' _ ?_); clear hQ' Q') | refine AP.nil ?_) | ((with_reducible apply CP.k_reg); refine cp_regG fun Q' hQ' => ?_) | refine CP.W ?_ | refine cp_cond rfl (fun hc => ?_) (fun hc => ?_) | (simp only [List.append_eq, List.cons_append, List.nil_append]))
      · exfalso; simp at *; omega
      · (exact RetQ.A [(0, 0)] (by exact ⟨rfl, rfl⟩))
theorem dend_ac (s : Rf) : AC Tryz.prog 52 [.bp 0 0 0] [fB s] (fun v bs' => v = I (endF s) ∧ bs' = [fB s]) := by
  refine AC.N Tryz.func52 Tryz.ntmps52 ?_
  intro X hρ hmks
  simp only [nx, Nat.reduceAdd, Nat.reduceSub, BEq.rfl]
  repeat' (first | ((first | ((with_reducible apply AP.k_any); first | refine AP.S ?_ | (refine AP.Y ?_; dsimp only) | refine AP.G (fun hg => ?_) (fun hg => ?_) | (refine AP.V (fun c hnil => ?_); simp only [nz])) | ((with_reducible apply AQ.k_any); first | refine AQ.S ?_ | (refine AQ.Y ?_; dsimp only) | refine AQ.G (fun hg => ?_) (fun hg => ?_))) <;> (try simp only [nx, Nat.reduceAdd, Nat.reduceSub, BEq.rfl])) | ((with_reducible apply AP.k_nil); first | (refine AP.nil (hQ' _ ?_); clear hQ' Q') | refine AP.nil ?_) | ((with_reducible apply AQ.k_nil); first | (refine AQ.nil (hQ' _ ?_); clear hQ' Q') | refine AQ.nil ?_) | ((with_reducible apply CP.k_drw); refine cp_drw (by kernel_rfl) (by kernel_rfl) fun Q' hQ' => ?_) | ((with_reducible apply CP.k_drw1); refine cp_draw (by kernel_rfl) (by kernel_rfl) ?_) | ((with_reducible apply CP.k_reg); refine cp_regG fun Q' hQ' => ?_) | refine CP.W ?_ | refine cp_cond rfl (fun hc => ?_) (fun hc => ?_) | (simp only [List.append_eq, List.cons_append, List.nil_append]))
  all_goals (refine RetQ.B [(0, 0)] ?_; (try dsimp only [resV, List.getD_cons_succ, List.getD_cons_zero]); ((refine ⟨?_, rfl⟩; simp at *; simp [endF, *]; try omega)))
end Go.Proofs.YtnjfchigdpifmaaGreat

namespace Go.Proofs.YtnjfchigdpifmaaGreat
set_option linter.unusedVariables false
set_option linter.unusedSimpArgs false
set_option maxHeartbeats 8000000
open Go.RowKit
set_option maxRecDepth 100000
abbrev z32 : List UInt8 := List.replicate 32 0
def tagG (b : List UInt8) : List UInt8 × Bool := (b, true)
def tagR (st : Int × List UInt8) : List UInt8 × (Int × List UInt8) := takeS z32 tagG 32 st
theorem rtag1_ac (b : List UInt8) (h : b.length = 32) : AC Tryz.prog 76 [bs none b] [] (fun v bs' => v = .tu [tg (tagG b).1, B (tagG b).2] ∧ bs' = []) := by
  dsimp only [tagG]
  rw [ex32 h]
  refine AC.N Tryz.func76 Tryz.ntmps76 ?_
  intro X hρ hmks
  simp only [nx, Nat.reduceAdd, Nat.reduceSub, BEq.rfl]
  repeat' (first | ((first | ((with_reducible apply AP.k_any); first | refine AP.S ?_ | refine AP.E ?_ | refine AP.T ?_ | refine AP.A ?_ | refine AP.AB 0 ?_ | refine AP.AB 1 ?_ | refine AP.AL ?_ | refine AP.SA ?_)) <;> (try simp only [nx, Nat.reduceAdd, Nat.reduceSub, BEq.rfl])) | ((with_reducible apply AP.k_nil); first | (refine AP.nil (hQ' _ ?_); clear hQ' Q') | refine AP.nil ?_) | ((with_reducible apply CP.k_reg); refine cp_regG fun Q' hQ' => ?_) | refine CP.W ?_ | refine cp_cond rfl (fun hc => ?_) (fun hc => ?_) | (simp only [List.append_eq, List.cons_append, List.nil_append]))
  (exact RetQ.A [] (by exact ⟨rfl, rfl⟩))
theorem take6_ac  (f : Nat) (g : List UInt8 → List UInt8 × Bool) (n : Int) (st : Int × List UInt8) (hst : st.2.length ≤ 100000000) (hf : ∀ b : List UInt8, b.length = n.toNat → b.length ≤ st.2.length → AC Tryz.prog f [bs none b] [] (fun v bs' => v = .tu [tg (g b).1, B (g b).2] ∧ bs' = [])) :
    AC Tryz.prog 75 [.bp 0 0 0, I n, .fn f []] [rB st] (fun v bs' => v = tg (takeS z32 g n st).1 ∧ bs' = [rB (takeS z32 g n st).2]) := by
  obtain ⟨e, b⟩ := st
  by_cases he : e = 0
  · subst he
    by_cases hn : n < 0 ∨ (b.length : Int) < n
    · have ht : takeS z32 g n (0, b) = (z32, (40, [])) := by simp only [takeS, hn]; simp
      rw [ht]
      refine AC.N Tryz.func75 Tryz.ntmps75 ?_
      intro X hρ hmks
      simp only [nx, Nat.reduceAdd, Nat.reduceSub, BEq.rfl]
      repeat' (first | ((first | ((with_reducible apply AP.k_any); first | refine AP.S ?_ | (refine AP.Y ?_; dsimp only) | refine AP.G (fun hg => ?_) (fun hg => ?_)) | ((with_reducible apply AP.k_any); refine AP.CB [(0, 0)] 0 (fine_ac (0, b)) ?_) | ((with_reducible apply AP.k_any); refine AP.CB [(0, 0)] 0 (rbad_ac (0, b)) ?_)) <;> (try simp only [nx, Nat.reduceAdd, Nat.reduceSub, BEq.rfl])) | ((with_reducible apply AP.k_nil); first | (refine AP.nil (hQ' _ ?_); clear hQ' Q') | refine AP.nil ?_) | ((with_reducible apply CP.k_reg); refine cp_regG fun Q' hQ' => ?_) | refine CP.W ?_ | refine cp_cond rfl (fun hc => ?_) (fun hc => ?_) | (simp only [List.append_eq, List.cons_append, List.nil_append]))
      all_goals first
        | (exfalso; simp at *; done)
        | (exfalso; simp at *; omega)
        | (exact RetQ.A [(0, 0)] (by exact ⟨rfl, rfl⟩))
    · have hl : (b.take n.toNat).length = n.toNat := by simp; omega
      have hf' := hf (b.take n.toNat) hl (by rw [List.length_take]; exact Nat.min_le_right _ _)
      have htk : List.take (b.length - n.toNat) (List.drop n.toNat b) = List.drop n.toNat b := List.take_of_length_le (by simp)
      have hn0 : 0 ≤ n := by omega
      have hn1 : n ≤ (b.length : Int) := by omega
      have hm : n ≤ ((b.map eB).length : Int) := by simp; omega
      have ht : takeS z32 g n (0, b) = if (g (b.take n.toNat)).2 = true then ((g (b.take n.toNat)).1, (0, b.drop n.toNat)) else (z32, (40, [])) := by simp only [takeS, hn]; simp
      rw [ht]
      cases hg2 : (g (b.take n.toNat)).2 with
      | true =>
        rw [hg2] at hf'
        simp only [if_true]
        refine AC.N Tryz.func75 Tryz.ntmps75 ?_
        intro X hρ hmks
        simp only [nx, Nat.reduceAdd, Nat.reduceSub, BEq.rfl]
        repeat' (first | ((first | ((with_reducible apply AP.k_any); first | refine AP.S ?_ | (refine AP.Y ?_; dsimp only) | refine AP.G (fun hg => ?_) (fun hg => ?_)) | ((with_reducible apply AP.k_any); refine AP.CB [(0, 0)] 0 (fine_ac (0, b)) ?_) | ((with_reducible apply AP.k_any); refine AP.C hf' ?_) | ((with_reducible apply AP.k_any); refine AP.CB [(0, 0)] 0 (rbad_ac (0, b)) ?_)) <;> (try simp only [nx, Nat.reduceAdd, Nat.reduceSub, BEq.rfl])) | ((with_reducible apply AP.k_nil); first | (refine AP.nil (hQ' _ ?_); clear hQ' Q') | refine AP.nil ?_) | ((with_reducible apply CP.k_reg); refine cp_regG fun Q' hQ' => ?_) | refine CP.W ?_ | refine cp_cond rfl (fun hc => ?_) (fun hc => ?_) | (simp only [List.append_eq, List.cons_append, List.nil_append]))
        all_goals first
          | (exfalso; simp at *; done)
          | (exfalso; simp at *; omega)
          | (simp only [htk]
             (exact RetQ.A [(0, 0)] (by exact ⟨rfl, rfl⟩)))
      | false =>
        rw [hg2] at hf'
        simp only [Bool.false_eq_true, if_false]
        refine AC.N Tryz.func75 Tryz.ntmps75 ?_
        intro X hρ hmks
        simp only [nx, Nat.reduceAdd, Nat.reduceSub, BEq.rfl]
        repeat' (first | ((first | ((with_reducible apply AP.k_any); first | refine AP.S ?_ | (refine AP.Y ?_; dsimp only) | refine AP.G (fun hg => ?_) (fun hg => ?_)) | ((with_reducible apply AP.k_any); refine AP.CB [(0, 0)] 0 (fine_ac (0, b)) ?_) | ((with_reducible apply AP.k_any); refine AP.C hf' ?_) | ((with_reducible apply AP.k_any); refine AP.CB [(0, 0)] 0 (rbad_ac (0, b)) ?_)) <;> (try simp only [nx, Nat.reduceAdd, Nat.reduceSub, BEq.rfl])) | ((with_reducible apply AP.k_nil); first | (refine AP.nil (hQ' _ ?_); clear hQ' Q') | refine AP.nil ?_) | ((with_reducible apply CP.k_reg); refine cp_regG fun Q' hQ' => ?_) | refine CP.W ?_ | refine cp_cond rfl (fun hc => ?_) (fun hc => ?_) | (simp only [List.append_eq, List.cons_append, List.nil_append]))
        all_goals first
          | (exfalso; simp at *; done)
          | (exfalso; simp at *; omega)
          | (exact RetQ.A [(0, 0)] (by exact ⟨rfl, rfl⟩))
  · have ht : takeS z32 g n (e, b) = (z32, (e, b)) := by simp [takeS, he]
    have hb : ((e : Int) == 0) = false := by simp [he]
    rw [ht]
    refine AC.N Tryz.func75 Tryz.ntmps75 ?_
    intro X hρ hmks
    simp only [nx, Nat.reduceAdd, Nat.reduceSub, BEq.rfl]
    repeat' (first | ((first | ((with_reducible apply AP.k_any); first | refine AP.S ?_ | (refine AP.Y ?_; dsimp only) | refine AP.G (fun hg => ?_) (fun hg => ?_)) | ((with_reducible apply AP.k_any); refine AP.CB [(0, 0)] 0 (fine_ac (e, b)) ?_)) <;> (try simp only [nx, Nat.reduceAdd, Nat.reduceSub, BEq.rfl])) | ((with_reducible apply AP.k_nil); first | (refine AP.nil (hQ' _ ?_); clear hQ' Q') | refine AP.nil ?_) | ((with_reducible apply CP.k_reg); refine cp_regG fun Q' hQ' => ?_) | refine CP.W ?_ | refine cp_cond rfl (fun hc => ?_) (fun hc => ?_) | (simp only [List.append_eq, List.cons_append, List.nil_append]))
    all_goals first
      | (exfalso; simp at *; done)
      | (exfalso; simp at *; omega)
      | (exact RetQ.A [(0, 0)] (by exact ⟨rfl, rfl⟩))
theorem rtag_ac (st : Int × List UInt8) (hst : st.2.length ≤ 100000000) : AC Tryz.prog 43 [.bp 0 0 0] [rB st] (fun v bs' => v = tg (tagR st).1 ∧ bs' = [rB (tagR st).2]) := by
  have h := take6_ac 76 tagG 32 st hst (fun b hb _ => rtag1_ac b hb)
  refine AC.N Tryz.func43 Tryz.ntmps43 ?_
  intro X hρ hmks
  simp only [nx, Nat.reduceAdd, Nat.reduceSub, BEq.rfl]
  repeat' (first | ((first | ((with_reducible apply AP.k_any); first | refine AP.S ?_ | refine AP.A ?_ | refine AP.AB 0 ?_ | refine AP.AB 1 ?_ | refine AP.AL ?_)) <;> (try simp only [nx, Nat.reduceAdd, Nat.reduceSub, BEq.rfl])) | ((with_reducible apply AP.k_nil); first | (refine AP.nil (hQ' _ ?_); clear hQ' Q') | refine AP.nil ?_) | ((with_reducible apply CP.k_reg); refine cp_regG fun Q' hQ' => ?_) | refine CP.W ?_ | refine cp_cond rfl (fun hc => ?_) (fun hc => ?_) | (simp only [List.append_eq, List.cons_append, List.nil_append]))
  (exact RetQ.A [(0, 0)] (by exact ⟨rfl, rfl⟩))
def tagF (s : Rf) : List UInt8 × Rf := (if (someF 32 s).1.2 then (someF 32 s).1.1 else z32, (someF 32 s).2)
theorem sim_tag : Sim tagF tagR := fun s hs => by
  have h := take_some z32 tagG 32 hs (n' := 32) rfl
  refine ⟨?_, ?_, someF_ok hs⟩ <;> (unfold tagF tagR; rw [h]) <;> (cases hb : (someF 32 s).1.2 <;> simp [tagG, hb])
theorem dtag_ac (s : Rf) (hs : s.ok) : AC Tryz.prog 51 [.bp 0 0 0] [fB s] (fun v bs' => v = tg (tagF s).1 ∧ bs' = [fB (tagF s).2]) := by
  have h := some_ac 32 s hs (by omega)
  have hl := someF_len (n := 32) hs
  unfold tagF
  generalize someF 32 s = r at h hl ⊢
  obtain ⟨⟨l, o⟩, s'⟩ := r
  dsimp only at h hl ⊢
  cases o with
  | false =>
    simp only [Bool.false_eq_true, if_false]
    refine AC.N Tryz.func51 Tryz.ntmps51 ?_
    intro X hρ hmks
    simp only [nx, Nat.reduceAdd, Nat.reduceSub, BEq.rfl]
    repeat' (first | ((first | ((with_reducible apply AP.k_any); first | refine AP.S ?_ | refine AP.E ?_ | (refine AP.Y ?_; dsimp only) | refine AP.G (fun hg => ?_) (fun hg => ?_) | refine AP.T ?_ | refine AP.A ?_ | refine AP.AB 0 ?_ | refine AP.AB 1 ?_ | refine AP.AL ?_)) <;> (try simp only [nx, Nat.reduceAdd, Nat.reduceSub, BEq.rfl])) | ((with_reducible apply AP.k_nil); first | (refine AP.nil (hQ' _ ?_); clear hQ' Q') | refine AP.nil ?_) | ((with_reducible apply CP.k_reg); refine cp_regG fun Q' hQ' => ?_) | refine CP.W ?_ | refine cp_cond rfl (fun hc => ?_) (fun hc => ?_) | (simp only [List.append_eq, List.cons_append, List.nil_append]))
    refine cp_rounds 1 ?_
    repeat' (first | ((first | ((with_reducible apply AP.k_any); first | refine AP.S ?_ | refine AP.E ?_ | (refine AP.Y ?_; dsimp only) | refine AP.G (fun hg => ?_) (fun hg => ?_) | refine AP.T ?_ | refine AP.A ?_ | refine AP.AB 0 ?_ | refine AP.AB 1 ?_ | refine AP.AL ?_)) <;> (try simp only [nx, Nat.reduceAdd, Nat.reduceSub, BEq.rfl])) | ((with_reducible apply AP.k_nil); first | (refine AP.nil (hQ' _ ?_); clear hQ' Q') | refine AP.nil ?_) | ((with_reducible apply CP.k_reg); refine cp_regG fun Q' hQ' => ?_) | refine CP.W ?_ | refine cp_cond rfl (fun hc => ?_) (fun hc => ?_) | (simp only [List.append_eq, List.cons_append, List.nil_append]))
    (exact RetQ.A [(0, 0)] (by exact ⟨rfl, rfl⟩))
  | true =>
    have hx := hl rfl
    simp only [if_true]
    refine AC.N Tryz.func51 Tryz.ntmps51 ?_
    intro X hρ hmks
    simp only [nx, Nat.reduceAdd, Nat.reduceSub, BEq.rfl]
    repeat' (first | ((first | ((with_reducible apply AP.k_any); first | refine AP.S ?_ | refine AP.E ?_ | (refine AP.Y ?_; dsimp only) | refine AP.G (fun hg => ?_) (fun hg => ?_) | refine AP.T ?_ | refine AP.A ?_ | refine AP.AB 0 ?_ | refine AP.AB 1 ?_ | refine AP.AL ?_)) <;> (try simp only [nx, Nat.reduceAdd, Nat.reduceSub, BEq.rfl])) | ((with_reducible apply AP.k_nil); first | (refine AP.nil (hQ' _ ?_); clear hQ' Q') | refine AP.nil ?_) | ((with_reducible apply CP.k_reg); refine cp_regG fun Q' hQ' => ?_) | refine CP.W ?_ | refine cp_cond rfl (fun hc => ?_) (fun hc => ?_) | (simp only [List.append_eq, List.cons_append, List.nil_append]))
    refine cp_loopS [6, 12, 13, 14, 15, 16, 17, 18, 19, 20, 21, 22, 23, 24] (fun a : Nat => 32 - a) (fun a => a ≤ 32) (fun a => [(6, I a)]) (fun a => [(2, ⟨1, .c 38 (mixT l a)⟩)]) 0 (Nat.zero_le _) (by (rw [mixT_0]; exact Gh.W)) ?_
    intro i hi
    simp only [setT, deT, setB, List.set_cons_succ, List.set_cons_zero]
    by_cases hlt : i < 32
    · have hw : IntKind.i64.wrap ((i : Int) + 1) = ((i + 1 : Nat) : Int) := wrap_i64 (by omega) (by omega)
      have hlen := mixT_len l i
      have hset := mixT_set (l := l) (i := i) (by omega)
      repeat' (first | ((first | ((with_reducible apply AP.k_any); first | refine AP.S ?_ | refine AP.E ?_ | (refine AP.Y ?_; dsimp only) | refine AP.G (fun hg => ?_) (fun hg => ?_) | refine AP.T ?_ | refine AP.A ?_ | refine AP.AB 0 ?_ | refine AP.AB 1 ?_ | refine AP.AL ?_ | refine AP.TB ?_)) <;> (try simp only [nx, Nat.reduceAdd, Nat.reduceSub, BEq.rfl])) | ((with_reducible apply AP.k_nil); first | (refine AP.nil (hQ' _ ?_); clear hQ' Q') | refine AP.nil ?_) | ((with_reducible apply CP.k_reg); refine cp_regG fun Q' hQ' => ?_) | refine CP.W ?_ | refine cp_cond rfl (fun hc => ?_) (fun hc => ?_) | (simp only [List.append_eq, List.cons_append, List.nil_append]))
      · simp only [hw, Nat.mul_one]
        exact ⟨i + 1, by omega, by omega, by (rw [← hset]; exact Gh.W)⟩
      · exfalso; (repeat (rename AC _ _ _ _ _ => hzz; clear hzz)); simp at *; omega
    · obtain rfl : i = 32 := by omega
      rw [mixT_32]
      repeat' (first | ((first | ((with_reducible apply AP.k_any); first | refine AP.S ?_ | refine AP.E ?_ | (refine AP.Y ?_; dsimp only) | refine AP.G (fun hg => ?_) (fun hg => ?_) | refine AP.T ?_ | refine AP.A ?_ | refine AP.AB 0 ?_ | refine AP.AB 1 ?_ | refine AP.AL ?_)) <;> (try simp only [nx, Nat.reduceAdd, Nat.reduceSub, BEq.rfl])) | ((with_reducible apply AP.k_nil); first | (refine AP.nil (hQ' _ ?_); clear hQ' Q') | refine AP.nil ?_) | ((with_reducible apply CP.k_reg); refine cp_regG fun Q' hQ' => ?_) | refine CP.W ?_ | refine cp_cond rfl (fun hc => ?_) (fun hc => ?_) | (simp only [List.append_eq, List.cons_append, List.nil_append]))
      all_goals first
        | (exfalso; (repeat (rename AC _ _ _ _ _ => hzz; clear hzz)); simp at *; done)
        | (exact RetQ.A [(0, 0)] (by exact ⟨rfl, rfl⟩))
end Go.Proofs.YtnjfchigdpifmaaGreat

namespace Go.Proofs.YtnjfchigdpifmaaGreat
set_option linter.unusedVariables false
set_option linter.unusedSimpArgs false
set_option maxHeartbeats 8000000
open Go.RowKit
set_option maxRecDepth 100000
def pk0 : Pkt := ⟨0, 0, 0, 0, 0, [], z32⟩
abbrev Rw := Int × List UInt8
def r1 (st : Rw) : Rw := (intR st).2
def r2 (st : Rw) : Rw := (intR (r1 st)).2
def r3 (st : Rw) : Rw := (intR (r2 st)).2
def r4 (st : Rw) : Rw := (intR (r3 st)).2
def r5 (st : Rw) : Rw := (intR (r4 st)).2
def r6 (st : Rw) : Rw := (bytesR (r5 st)).2
def r7 (st : Rw) : Rw := (tagR (r6 st)).2
def packR (st : Rw) : Pkt := ⟨(intR st).1, (intR (r1 st)).1, (intR (r2 st)).1, (intR (r3 st)).1, (intR (r4 st)).1, (bytesR (r5 st)).1, (tagR (r6 st)).1⟩
def parseP (b : List UInt8) : Pkt × Int := if endR (r7 (newR b)) = 0 ∧ mayP (packR (newR b)) = true then (packR (newR b), 0) else (pk0, 190)
theorem newR_le' {b : List UInt8} {k : Nat} (h : b.length ≤ k) : (newR b).2.length ≤ k := by
  unfold newR
  split
  · simp
  · exact h
theorem int_le {st : Rw} {k : Nat} (h : st.2.length ≤ k) : (intR st).2.2.length ≤ k := takeS_len h
theorem bytes_le {st : Rw} {k : Nat} (h : st.2.length ≤ k) : (bytesR st).2.2.length ≤ k := takeS_len (takeS_len h)
theorem parseQ_ac (b : List UInt8) (s0 s1 s2 s3 s4 s5 s6 s7 : Rw) (a1 a2 a3 a4 a5 : Int) (a6 a7 : List UInt8) (ee : Int) (mm : Bool) (R : Pkt × Int)
    (h0 : AC Tryz.prog 40 [bs none b] [] (fun v bs' => v = .bp 0 0 0 ∧ bs' = [rB s0]))
    (i1 : AC Tryz.prog 41 [.bp 0 0 0] [rB s0] (fun v bs' => v = I a1 ∧ bs' = [rB s1]))
    (i2 : AC Tryz.prog 41 [.bp 0 0 0] [rB s1] (fun v bs' => v = I a2 ∧ bs' = [rB s2]))
    (i3 : AC Tryz.prog 41 [.bp 0 0 0] [rB s2] (fun v bs' => v = I a3 ∧ bs' = [rB s3]))
    (i4 : AC Tryz.prog 41 [.bp 0 0 0] [rB s3] (fun v bs' => v = I a4 ∧ bs' = [rB s4]))
    (i5 : AC Tryz.prog 41 [.bp 0 0 0] [rB s4] (fun v bs' => v = I a5 ∧ bs' = [rB s5]))
    (i6 : AC Tryz.prog 42 [.bp 0 0 0] [rB s5] (fun v bs' => v = bs none a6 ∧ bs' = [rB s6]))
    (i7 : AC Tryz.prog 43 [.bp 0 0 0] [rB s6] (fun v bs' => v = tg a7 ∧ bs' = [rB s7]))
    (i8 : AC Tryz.prog 44 [.bp 0 0 0] [rB s7] (fun v bs' => v = I ee ∧ bs' = [rB s7]))
    (i9 : AC Tryz.prog 29 [.ag (eP ⟨a1, a2, a3, a4, a5, a6, a7⟩)] [] (fun v bs' => v = B mm ∧ bs' = []))
    (hR : R = if ee = 0 ∧ mm = true then (⟨a1, a2, a3, a4, a5, a6, a7⟩, 0) else (pk0, 190)) :
    AC Tryz.prog 23 [bs none b] [] (fun v bs' => v = .tu [.ag (eP R.1), I R.2] ∧ bs' = []) := by
  by_cases hg : ee = 0 ∧ mm = true
  · rw [if_pos hg] at hR
    subst hR
    obtain ⟨rfl, rfl⟩ := hg
    refine AC.N Tryz.func23 Tryz.ntmps23 ?_
    intro X hρ hmks
    simp only [nx, Nat.reduceAdd, Nat.reduceSub, BEq.rfl]
    refine CP.gh gh_slot ?_; simp only [nx, Nat.reduceAdd, Nat.reduceSub, BEq.rfl]
    refine CP.gh gh_slot ?_; simp only [nx, Nat.reduceAdd, Nat.reduceSub, BEq.rfl]
    refine CP.gh gh_slot ?_; simp only [nx, Nat.reduceAdd, Nat.reduceSub, BEq.rfl]
    refine CP.gh gh_slot ?_; simp only [nx, Nat.reduceAdd, Nat.reduceSub, BEq.rfl]
    repeat' (first | ((first | ((with_reducible apply AP.k_any); first | refine AP.S ?_ | (refine AP.Y ?_; dsimp only) | refine AP.G (fun hg => ?_) (fun hg => ?_) | refine AP.A ?_ | refine AP.AB 0 ?_ | refine AP.AB 1 ?_ | refine AP.AL ?_ | ((with_reducible apply AP.k_any); refine AP.B 0 (i1) ?_) | ((with_reducible apply AP.k_any); refine AP.B 0 (i2) ?_) | ((with_reducible apply AP.k_any); refine AP.B 0 (i3) ?_) | ((with_reducible apply AP.k_any); refine AP.B 0 (i4) ?_))) <;> (try simp only [nx, Nat.reduceAdd, Nat.reduceSub, BEq.rfl])) | ((with_reducible apply AP.k_nil); first | (refine AP.nil (hQ' _ ?_); clear hQ' Q') | refine AP.nil ?_) | ((with_reducible apply CP.k_reg); refine cp_regG fun Q' hQ' => ?_) | refine CP.W ?_ | refine cp_cond rfl (fun hc => ?_) (fun hc => ?_) | (simp only [List.append_eq, List.cons_append, List.nil_append]))
    all_goals first
      | (exact RetQ.A [] (by exact ⟨rfl, rfl⟩))
      | (exfalso; (repeat (rename AC _ _ _ _ _ => hzz; clear hzz)); simp at *; done)
  · rw [if_neg hg] at hR
    subst hR
    refine AC.N Tryz.func23 Tryz.ntmps23 ?_
    intro X hρ hmks
    simp only [nx, Nat.reduceAdd, Nat.reduceSub, BEq.rfl]
    refine CP.gh gh_slot ?_; simp only [nx, Nat.reduceAdd, Nat.reduceSub, BEq.rfl]
    refine CP.gh gh_slot ?_; simp only [nx, Nat.reduceAdd, Nat.reduceSub, BEq.rfl]
    refine CP.gh gh_slot ?_; simp only [nx, Nat.reduceAdd, Nat.reduceSub, BEq.rfl]
    refine CP.gh gh_slot ?_; simp only [nx, Nat.reduceAdd, Nat.reduceSub, BEq.rfl]
    repeat' (first | ((first | ((with_reducible apply AP.k_any); first | refine AP.S ?_ | (refine AP.Y ?_; dsimp only) | refine AP.G (fun hg => ?_) (fun hg => ?_) | refine AP.A ?_ | refine AP.AB 0 ?_ | refine AP.AB 1 ?_ | refine AP.AL ?_ | ((with_reducible apply AP.k_any); refine AP.B 0 (i1) ?_) | ((with_reducible apply AP.k_any); refine AP.B 0 (i2) ?_) | ((with_reducible apply AP.k_any); refine AP.B 0 (i3) ?_) | ((with_reducible apply AP.k_any); refine AP.B 0 (i4) ?_))) <;> (try simp only [nx, Nat.reduceAdd, Nat.reduceSub, BEq.rfl])) | ((with_reducible apply AP.k_nil); first | (refine AP.nil (hQ' _ ?_); clear hQ' Q') | refine AP.nil ?_) | ((with_reducible apply CP.k_reg); refine cp_regG fun Q' hQ' => ?_) | refine CP.W ?_ | refine cp_cond rfl (fun hc => ?_) (fun hc => ?_) | (simp only [List.append_eq, List.cons_append, List.nil_append]))
    all_goals first
      | (exact RetQ.A [] (by exact ⟨rfl, rfl⟩))
      | (exfalso; (repeat (rename AC _ _ _ _ _ => hzz; clear hzz)); simp at *; simp_all; done)
theorem parseP_ac (b : List UInt8) (hb : b.length ≤ 100000000) : AC Tryz.prog 23 [bs none b] [] (fun v bs' => v = .tu [.ag (eP (parseP b).1), I (parseP b).2] ∧ bs' = []) := by
  have l0 := newR_le' hb
  have l1 : (r1 (newR b)).2.length ≤ 100000000 := int_le l0
  have l2 : (r2 (newR b)).2.length ≤ 100000000 := int_le l1
  have l3 : (r3 (newR b)).2.length ≤ 100000000 := int_le l2
  have l4 : (r4 (newR b)).2.length ≤ 100000000 := int_le l3
  have l5 : (r5 (newR b)).2.length ≤ 100000000 := int_le l4
  have l6 : (r6 (newR b)).2.length ≤ 100000000 := bytes_le l5
  exact parseQ_ac b _ _ _ _ _ _ _ _ _ _ _ _ _ _ _ _ _ _ (rnew_ac b hb) (rint_ac _ l0) (rint_ac _ l1) (rint_ac _ l2) (rint_ac _ l3) (rint_ac _ l4) (rbytes_ac _ l5) (rtag_ac _ l6) (rend_ac _) (mayP_ac _) rfl
/-! the document's -/
def packRF (s : Rf) : Pkt × Rf :=
  let a := intF s
  let b := intF a.2
  let c := intF b.2
  let d := intF c.2
  let e := intF d.2
  let f := bytesF e.2
  let g := tagF f.2
  (⟨a.1, b.1, c.1, d.1, e.1, f.1, g.1⟩, g.2)
theorem parseP_F (b : List UInt8) (hb : b.length ≤ 100000000) : parseP b = if endF (packRF (newF b)).2 = 0 ∧ mayP (packRF (newF b)).1 = true then ((packRF (newF b)).1, 0) else (pk0, 190) := by
  obtain ⟨h1, h2⟩ := sim_new b hb
  obtain ⟨a1, a2, a3⟩ := sim_int _ h2
  obtain ⟨b1, b2, b3⟩ := sim_int _ a3
  obtain ⟨c1, c2, c3⟩ := sim_int _ b3
  obtain ⟨d1, d2, d3⟩ := sim_int _ c3
  obtain ⟨e1, e2, e3⟩ := sim_int _ d3
  obtain ⟨f1, f2, f3⟩ := sim_bytes _ e3
  obtain ⟨g1, g2, g3⟩ := sim_tag _ f3
  have k : (packRF (newF b)).1 = packR (newR b) := by
    unfold packRF packR r6 r5 r4 r3 r2 r1
    dsimp only
    rw [g1, f2, e2, d2, c2, b2, a2, h1, f1, e2, d2, c2, b2, a2, h1, e1, d2, c2, b2, a2, h1, d1, c2, b2, a2, h1, c1, b2, a2, h1, b1, a2, h1, a1, h1]
  have k2 : endF (packRF (newF b)).2 = endR (r7 (newR b)) := by
    have e : (packRF (newF b)).2 = (tagF (bytesF (intF (intF (intF (intF (intF (newF b)).2).2).2).2).2).2).2 := rfl
    rw [e, sim_end _ g3]
    unfold r7 r6 r5 r4 r3 r2 r1
    rw [g2, f2, e2, d2, c2, b2, a2, h1]
  unfold parseP
  rw [k, k2]
theorem dparseQ_ac (b : List UInt8) (s0 s1 s2 s3 s4 s5 s6 s7 : Rf) (a1 a2 a3 a4 a5 : Int) (a6 a7 : List UInt8) (ee : Int) (mm : Bool) (R : Pkt × Int)
    (h0 : AC Tryz.prog 48 [bs none b] [] (fun v bs' => v = .bp 0 0 0 ∧ bs' = [fB s0]))
    (i1 : AC Tryz.prog 49 [.bp 0 0 0] [fB s0] (fun v bs' => v = I a1 ∧ bs' = [fB s1]))
    (i2 : AC Tryz.prog 49 [.bp 0 0 0] [fB s1] (fun v bs' => v = I a2 ∧ bs' = [fB s2]))
    (i3 : AC Tryz.prog 49 [.bp 0 0 0] [fB s2] (fun v bs' => v = I a3 ∧ bs' = [fB s3]))
    (i4 : AC Tryz.prog 49 [.bp 0 0 0] [fB s3] (fun v bs' => v = I a4 ∧ bs' = [fB s4]))
    (i5 : AC Tryz.prog 49 [.bp 0 0 0] [fB s4] (fun v bs' => v = I a5 ∧ bs' = [fB s5]))
    (i6 : AC Tryz.prog 50 [.bp 0 0 0] [fB s5] (fun v bs' => v = bs none a6 ∧ bs' = [fB s6]))
    (i7 : AC Tryz.prog 51 [.bp 0 0 0] [fB s6] (fun v bs' => v = tg a7 ∧ bs' = [fB s7]))
    (i8 : AC Tryz.prog 52 [.bp 0 0 0] [fB s7] (fun v bs' => v = I ee ∧ bs' = [fB s7]))
    (i9 : AC Tryz.prog 20 [.ag (eP ⟨a1, a2, a3, a4, a5, a6, a7⟩)] [] (fun v bs' => v = B mm ∧ bs' = []))
    (hR : R = if ee = 0 ∧ mm = true then (⟨a1, a2, a3, a4, a5, a6, a7⟩, 0) else (pk0, 190)) :
    AC Tryz.prog 27 [bs none b] [] (fun v bs' => v = .tu [.ag (eP R.1), I R.2] ∧ bs' = []) := by
  by_cases hg : ee = 0 ∧ mm = true
  · rw [if_pos hg] at hR
    subst hR
    obtain ⟨rfl, rfl⟩ := hg
    refine AC.N Tryz.func27 Tryz.ntmps27 ?_
    intro X hρ hmks
    simp only [nx, Nat.reduceAdd, Nat.reduceSub, BEq.rfl]
    refine CP.gh gh_slot ?_; simp only [nx, Nat.reduceAdd, Nat.reduceSub, BEq.rfl]
    refine CP.gh gh_slot ?_; simp only [nx, Nat.reduceAdd, Nat.reduceSub, BEq.rfl]
    refine CP.gh gh_slot ?_; simp only [nx, Nat.reduceAdd, Nat.reduceSub, BEq.rfl]
    repeat' (first | ((first | ((with_reducible apply AP.k_any); first | refine AP.S ?_ | (refine AP.Y ?_; dsimp only) | refine AP.G (fun hg => ?_) (fun hg => ?_) | refine AP.A ?_ | refine AP.AB 0 ?_ | refine AP.AB 1 ?_ | refine AP.AL ?_ | ((with_reducible apply AP.k_any); refine AP.B 0 (i1) ?_) | ((with_reducible apply AP.k_any); refine AP.B 0 (i2) ?_) | ((with_reducible apply AP.k_any); refine AP.B 0 (i3) ?_) | ((with_reducible apply AP.k_any); refine AP.B 0 (i4) ?_))) <;> (try simp only [nx, Nat.reduceAdd, Nat.reduceSub, BEq.rfl])) | ((with_reducible apply AP.k_nil); first | (refine AP.nil (hQ' _ ?_); clear hQ' Q') | refine AP.nil ?_) | ((with_reducible apply CP.k_reg); refine cp_regG fun Q' hQ' => ?_) | refine CP.W ?_ | refine cp_cond rfl (fun hc => ?_) (fun hc => ?_) | (simp only [List.append_eq, List.cons_append, List.nil_append]))
    all_goals first
      | (exact RetQ.A [] (by exact ⟨rfl, rfl⟩))
      | (exfalso; (repeat (rename AC _ _ _ _ _ => hzz; clear hzz)); simp at *; done)
  · rw [if_neg hg] at hR
    subst hR
    refine AC.N Tryz.func27 Tryz.ntmps27 ?_
    intro X hρ hmks
    simp only [nx, Nat.reduceAdd, Nat.reduceSub, BEq.rfl]
    refine CP.gh gh_slot ?_; simp only [nx, Nat.reduceAdd, Nat.reduceSub, BEq.rfl]
    refine CP.gh gh_slot ?_; simp only [nx, Nat.reduceAdd, Nat.reduceSub, BEq.rfl]
    refine CP.gh gh_slot ?_; simp only [nx, Nat.reduceAdd, Nat.reduceSub, BEq.rfl]
    repeat' (first | ((first | ((with_reducible apply AP.k_any); first | refine AP.S ?_ | (refine AP.Y ?_; dsimp only) | refine AP.G (fun hg => ?_) (fun hg => ?_) | refine AP.A ?_ | refine AP.AB 0 ?_ | refine AP.AB 1 ?_ | refine AP.AL ?_ | ((with_reducible apply AP.k_any); refine AP.B 0 (i1) ?_) | ((with_reducible apply AP.k_any); refine AP.B 0 (i2) ?_) | ((with_reducible apply AP.k_any); refine AP.B 0 (i3) ?_) | ((with_reducible apply AP.k_any); refine AP.B 0 (i4) ?_))) <;> (try simp only [nx, Nat.reduceAdd, Nat.reduceSub, BEq.rfl])) | ((with_reducible apply AP.k_nil); first | (refine AP.nil (hQ' _ ?_); clear hQ' Q') | refine AP.nil ?_) | ((with_reducible apply CP.k_reg); refine cp_regG fun Q' hQ' => ?_) | refine CP.W ?_ | refine cp_cond rfl (fun hc => ?_) (fun hc => ?_) | (simp only [List.append_eq, List.cons_append, List.nil_append]))
    all_goals first
      | (exact RetQ.A [] (by exact ⟨rfl, rfl⟩))
      | (exfalso; (repeat (rename AC _ _ _ _ _ => hzz; clear hzz)); simp at *; simp_all; done)
theorem dparseP_ac (b : List UInt8) (hb : b.length ≤ 10000000) : AC Tryz.prog 27 [bs none b] [] (fun v bs' => v = .tu [.ag (eP (parseP b).1), I (parseP b).2] ∧ bs' = []) := by
  obtain ⟨_, k0⟩ := sim_new b (by omega)
  have k1 : (intF (newF b)).2.ok := someF_ok k0
  have k2 : (intF (intF (newF b)).2).2.ok := someF_ok k1
  have k3 : (intF (intF (intF (newF b)).2).2).2.ok := someF_ok k2
  have k4 : (intF (intF (intF (intF (newF b)).2).2).2).2.ok := someF_ok k3
  have k5 : (intF (intF (intF (intF (intF (newF b)).2).2).2).2).2.ok := someF_ok k4
  obtain ⟨_, _, k6⟩ := sim_bytes _ k5
  exact dparseQ_ac b _ _ _ _ _ _ _ _ _ _ _ _ _ _ _ _ _ _ (dnew_ac b (by omega)) (dintR_ac _ k0) (dintR_ac _ k1) (dintR_ac _ k2) (dintR_ac _ k3) (dintR_ac _ k4) (dbytesR_ac _ k5) (dtag_ac _ k6) (dend_ac _) (dmayP_ac _) (parseP_F b (by omega))
end Go.Proofs.YtnjfchigdpifmaaGreat

namespace Go.Proofs.YtnjfchigdpifmaaGreat
set_option linter.unusedVariables false
set_option linter.unusedSimpArgs false
open Go.RowKit
set_option maxRecDepth 100000
theorem parseP_body (b : List UInt8) {k : Nat} (h : b.length ≤ k) : (parseP b).1.body.length ≤ k := by
  unfold parseP
  split
  · show (takeS ([] : List UInt8) bytesG _ _).1.length ≤ k
    have h5 : (r5 (newR b)).2.length ≤ k := int_le (int_le (int_le (int_le (int_le (newR_le' h)))))
    have h6 : (lenR (r5 (newR b))).2.2.length ≤ k := takeS_len h5
    unfold takeS
    split
    · simp
    · split
      · simp
      · simp only [bytesG, if_true, List.length_take]; omega
  · simp [pk0]
theorem takeS_P {α : Type} (p : α → Prop) {z : α} {f : List UInt8 → α × Bool} {n : Int} {st : Int × List UInt8} (hz : p z) (hf : ∀ b, b.length = n.toNat → p (f b).1) : p (takeS z f n st).1 := by
  unfold takeS
  split
  · exact hz
  · split
    · exact hz
    · rename_i h1 h2
      split
      · exact hf _ (by rw [List.length_take]; omega)
      · exact hz
theorem toI_le (n : Nat) : toI n ≤ 9223372036854775807 := by
  unfold toI
  simp only [IntKind.wrap, IntKind.bits, IntKind.signed]
  simp
  split <;> omega
theorem intR_le (st : Rw) : (intR st).1 ≤ 9223372036854775807 := takeS_P (fun n : Int => n ≤ 9223372036854775807) (by decide) fun b _ => toI_le _
theorem tagR_len (st : Rw) : (tagR st).1.length = 32 := takeS_P (fun l : List UInt8 => l.length = 32) (by simp) fun b h => by simpa [tagG] using h
theorem parseP_tag (b : List UInt8) : (parseP b).1.tag.length = 32 := by
  unfold parseP
  split
  · exact tagR_len _
  · simp [pk0]
theorem parseP_seqn (b : List UInt8) : (parseP b).1.seqn ≤ 9223372036854775807 := by
  unfold parseP
  split
  · exact intR_le _
  · simp [pk0]
end Go.Proofs.YtnjfchigdpifmaaGreat

namespace Go.Proofs.YtnjfchigdpifmaaGreat
set_option linter.unusedVariables false
set_option linter.unusedSimpArgs false
set_option maxHeartbeats 8000000
open Go.RowKit
set_option maxRecDepth 100000
def Ends.get (x : Ends) (b : List UInt8) : (Pkt × Int) × Ends :=
  if (parseP b).2 ≠ 0 ∨ (parseP b).1.to ≠ x.who then ((pk0, 190), x)
  else if (parseP b).1.tag ≠ tagS x.root (parseP b).1 then ((pk0, 91), x)
  else
    let p := (parseP b).1
    let t := (got (p.frm, p.epoch) x.wins Wn.new).take p.boot p.seqn
    let x' : Ends := { x with wins := puts (p.frm, p.epoch) x.wins t.2 }
    if t.1 ≠ 0 then ((pk0, t.1), x') else ((p, 0), x')
theorem pk0_eP : eP pk0 = eP ⟨0, 0, 0, 0, 0, [], List.replicate 32 0⟩ := rfl
theorem parse_two (b : List UInt8) : parseP b = (pk0, 190) ∨ ((parseP b).2 = 0 ∧ mayP (parseP b).1 = true) := by
  unfold parseP
  split
  · rename_i h; exact .inr ⟨rfl, h.2⟩
  · exact .inl rfl
theorem get_bad (x : Ends) (b : List UInt8) (hb : b.length ≤ 100000000) (h : parseP b = (pk0, 190)) : AC Tryz.prog 10 [.bp 0 0 0, bs none b] [xE x] (fun v bs' => v = .tu [.ag (eP (x.get b).1.1), I (x.get b).1.2] ∧ bs' = [xE (x.get b).2]) := by
  have e : x.get b = ((pk0, 190), x) := by
    unfold Ends.get
    rw [h, if_pos (.inl (by decide))]
  rw [e]
  have h1 := lnone_ac x
  have h2 := parseP_ac b hb
  rw [h] at h2
  dsimp only at h2 ⊢
  rw [pk0_eP, eP_z] at h2 ⊢
  refine AC.N Tryz.func10 Tryz.ntmps10 ?_
  intro X hρ hmks
  simp only [nx, Nat.reduceAdd, Nat.reduceSub, BEq.rfl]
  repeat' (first | ((first | ((with_reducible apply AP.k_any); first | refine AP.ST ?_ | (refine AP.Y ?_; dsimp only) | refine AP.G (fun hg => ?_) (fun hg => ?_) | (refine AP.V (fun c hnil => ?_); simp only [nz])  | refine AP.PF ?_) | ((with_reducible apply DW.k_any); first | refine DW.ST ?_ | ((fail_if_success refine DW.known rfl ?_); refine DW.G (fun hg => ?_) (fun hg => ?_))) | ((with_reducible apply DW.k_any); first | refine DW.R ?_ | refine DW.R' ?_ | refine DW.W ?_ | refine DW.W' ?_ | (refine DW.known rfl ?_; (with_reducible first | apply DW.sx 2 | apply DW.sxN 2); (iterate 2 (focus (simp only [ft, nm, Nat.reduceAdd, Nat.reduceBEq, List.getElem?_cons_zero, List.getElem?_cons_succ]; exact rfl))); (focus (intro X V; simp only [ft, nm, Nat.reduceAdd, Nat.reduceBEq]; (try (refine AP.Y ?_; dsimp only)); (first  | fail); (try simp only [nx, Nat.reduceAdd, Nat.reduceSub, BEq.rfl]); refine AP.nil ?_; (first | refine ⟨trivial, rfl, ?_⟩ | refine ⟨rfl, rfl, ?_⟩); (repeat' (first | exact Mg.nil | apply Mg.keep rfl | apply Mg.take rfl)); done)); (focus (refine Exists.intro (fun _ => 0) ?_; apply Exists.intro; (repeat' (first | exact Mg.nil | apply Mg.keep rfl | apply Mg.take rfl)); done)); (iterate 2 (focus (exact rfl)))) | ((fail_if_success refine DW.known rfl ?_); refine DW.G (fun hg => ?_) (fun hg => ?_)))) <;> (try simp only [ nx, mx, rn, fq, Nat.mul_one, Bool.and_true, Bool.and_false, Nat.reduceBEq, Nat.reduceAdd, Nat.reduceSub, BEq.rfl])) | ((with_reducible apply AP.k_nil); first | (refine AP.nil (hQ' _ ?_); clear hQ' Q') | refine AP.nil ?_) | ((with_reducible apply CP.k_drw); refine cp_drwX fun Q' hQ' => ?_) | ((with_reducible apply CP.k_drw1); refine cp_drawX ?_) | ((with_reducible apply DW.k_nil); refine DW.nl ?_; first | (refine hQ' _ ?_; clear hQ' Q') | skip) | ((with_reducible apply CP.k_reg); refine cp_regG fun Q' hQ' => ?_) | refine CP.W ?_ | refine cp_cond rfl (fun hc => ?_) (fun hc => ?_) | (simp only [List.append_eq, List.cons_append, List.nil_append]))
  (exact RetQ.A [(0, 0)] (by exact ⟨rfl, rfl⟩))
theorem get_far (x : Ends) (b : List UInt8) (hb : b.length ≤ 100000000) (h : (parseP b).2 = 0) (h3 : (parseP b).1.to ≠ x.who) : AC Tryz.prog 10 [.bp 0 0 0, bs none b] [xE x] (fun v bs' => v = .tu [.ag (eP (x.get b).1.1), I (x.get b).1.2] ∧ bs' = [xE (x.get b).2]) := by
  have e : x.get b = ((pk0, 190), x) := by
    unfold Ends.get
    rw [if_pos (.inr h3)]
  rw [e]
  have h1 := lnone_ac x
  have h2 := parseP_ac b hb
  rw [h] at h2
  generalize (parseP b).1 = p at *
  dsimp only at h2 ⊢
  rw [pk0_eP, eP_z]
  have d1 : (p.to != x.who) = true := by simpa using h3
  refine AC.N Tryz.func10 Tryz.ntmps10 ?_
  intro X hρ hmks
  simp only [nx, Nat.reduceAdd, Nat.reduceSub, BEq.rfl]
  repeat' (first | ((first | ((with_reducible apply AP.k_any); first | refine AP.ST ?_ | (refine AP.Y ?_; dsimp only) | refine AP.G (fun hg => ?_) (fun hg => ?_) | (refine AP.V (fun c hnil => ?_); simp only [nz])  | refine AP.PF ?_) | ((with_reducible apply DW.k_any); first | refine DW.ST ?_ | ((fail_if_success refine DW.known rfl ?_); refine DW.G (fun hg => ?_) (fun hg => ?_))) | ((with_reducible apply DW.k_any); first | refine DW.R ?_ | refine DW.R' ?_ | refine DW.W ?_ | refine DW.W' ?_ | (refine DW.known rfl ?_; (with_reducible first | apply DW.sx 2 | apply DW.sxN 2); (iterate 2 (focus (simp only [ft, nm, Nat.reduceAdd, Nat.reduceBEq, List.getElem?_cons_zero, List.getElem?_cons_succ]; exact rfl))); (focus (intro X V; simp only [ft, nm, Nat.reduceAdd, Nat.reduceBEq]; (try (refine AP.Y ?_; dsimp only)); (first  | fail); (try simp only [nx, Nat.reduceAdd, Nat.reduceSub, BEq.rfl]); refine AP.nil ?_; (first | refine ⟨trivial, rfl, ?_⟩ | refine ⟨rfl, rfl, ?_⟩); (repeat' (first | exact Mg.nil | apply Mg.keep rfl | apply Mg.take rfl)); done)); (focus (refine Exists.intro (fun _ => 0) ?_; apply Exists.intro; (repeat' (first | exact Mg.nil | apply Mg.keep rfl | apply Mg.take rfl)); done)); (iterate 2 (focus (exact rfl)))) | ((fail_if_success refine DW.known rfl ?_); refine DW.G (fun hg => ?_) (fun hg => ?_)))) <;> (try simp only [d1, nx, mx, rn, fq, Nat.mul_one, Bool.and_true, Bool.and_false, Nat.reduceBEq, Nat.reduceAdd, Nat.reduceSub, BEq.rfl])) | ((with_reducible apply AP.k_nil); first | (refine AP.nil (hQ' _ ?_); clear hQ' Q') | refine AP.nil ?_) | ((with_reducible apply CP.k_drw); refine cp_drwX fun Q' hQ' => ?_) | ((with_reducible apply CP.k_drw1); refine cp_drawX ?_) | ((with_reducible apply DW.k_nil); refine DW.nl ?_; first | (refine hQ' _ ?_; clear hQ' Q') | skip) | ((with_reducible apply CP.k_reg); refine cp_regG fun Q' hQ' => ?_) | refine CP.W ?_ | refine cp_cond rfl (fun hc => ?_) (fun hc => ?_) | (simp only [List.append_eq, List.cons_append, List.nil_append]))
  (exact RetQ.A [(0, 0)] (by exact ⟨rfl, rfl⟩))
theorem get_tag (x : Ends) (b : List UInt8) (hb : b.length ≤ 60000) (hr : x.root.length ≤ 10000) (h : (parseP b).2 = 0) (h3 : (parseP b).1.to = x.who) (h4 : (parseP b).1.tag ≠ tagS x.root (parseP b).1) : AC Tryz.prog 10 [.bp 0 0 0, bs none b] [xE x] (fun v bs' => v = .tu [.ag (eP (x.get b).1.1), I (x.get b).1.2] ∧ bs' = [xE (x.get b).2]) := by
  have e : x.get b = ((pk0, 91), x) := by
    unfold Ends.get
    rw [if_neg (by rw [h, h3]; simp), if_pos h4]
  rw [e]
  have h1 := lnone_ac x
  have h2 := parseP_ac b (by omega)
  have hbl := parseP_body b hb
  have htl := parseP_tag b
  rw [h] at h2
  generalize (parseP b).1 = p at *
  have h5 := right_ac x.root p hr hbl htl
  rw [decide_eq_false h4] at h5
  dsimp only at h2 ⊢
  rw [pk0_eP, eP_z]
  have d1 : (p.to != x.who) = false := by simpa using h3
  clear h4 e
  refine AC.N Tryz.func10 Tryz.ntmps10 ?_
  intro X hρ hmks
  simp only [nx, Nat.reduceAdd, Nat.reduceSub, BEq.rfl]
  repeat' (first | ((first | ((with_reducible apply AP.k_any); first | refine AP.ST ?_ | (refine AP.Y ?_; dsimp only) | refine AP.G (fun hg => ?_) (fun hg => ?_) | (refine AP.V (fun c hnil => ?_); simp only [nz])  | refine AP.PF ?_) | ((with_reducible apply DW.k_any); first | refine DW.ST ?_ | ((fail_if_success refine DW.known rfl ?_); refine DW.G (fun hg => ?_) (fun hg => ?_))) | ((with_reducible apply DW.k_any); first | refine DW.R ?_ | refine DW.R' ?_ | refine DW.W ?_ | refine DW.W' ?_ | (refine DW.known rfl ?_; (with_reducible first | apply DW.sx 2 | apply DW.sxN 2); (iterate 2 (focus (simp only [ft, nm, Nat.reduceAdd, Nat.reduceBEq, List.getElem?_cons_zero, List.getElem?_cons_succ]; exact rfl))); (focus (intro X V; simp only [ft, nm, Nat.reduceAdd, Nat.reduceBEq]; (try (refine AP.Y ?_; dsimp only)); (first  | fail); (try simp only [nx, Nat.reduceAdd, Nat.reduceSub, BEq.rfl]); refine AP.nil ?_; (first | refine ⟨trivial, rfl, ?_⟩ | refine ⟨rfl, rfl, ?_⟩); (repeat' (first | exact Mg.nil | apply Mg.keep rfl | apply Mg.take rfl)); done)); (focus (refine Exists.intro (fun _ => 0) ?_; apply Exists.intro; (repeat' (first | exact Mg.nil | apply Mg.keep rfl | apply Mg.take rfl)); done)); (iterate 2 (focus (exact rfl)))) | ((fail_if_success refine DW.known rfl ?_); refine DW.G (fun hg => ?_) (fun hg => ?_)))) <;> (try simp only [d1, nx, mx, rn, fq, Nat.mul_one, Bool.and_true, Bool.and_false, Nat.reduceBEq, Nat.reduceAdd, Nat.reduceSub, BEq.rfl])) | ((with_reducible apply AP.k_nil); first | (refine AP.nil (hQ' _ ?_); clear hQ' Q') | refine AP.nil ?_) | ((with_reducible apply CP.k_drw); refine cp_drwX fun Q' hQ' => ?_) | ((with_reducible apply CP.k_drw1); refine cp_drawX ?_) | ((with_reducible apply DW.k_nil); refine DW.nl ?_; first | (refine hQ' _ ?_; clear hQ' Q') | skip) | ((with_reducible apply CP.k_reg); refine cp_regG fun Q' hQ' => ?_) | refine CP.W ?_ | refine cp_cond rfl (fun hc => ?_) (fun hc => ?_) | (simp only [List.append_eq, List.cons_append, List.nil_append]))
  (exact RetQ.A [(0, 0)] (by exact ⟨rfl, rfl⟩))
end Go.Proofs.YtnjfchigdpifmaaGreat

namespace Go.Proofs.YtnjfchigdpifmaaGreat
set_option linter.unusedVariables false
set_option linter.unusedSimpArgs false
/-- the document's window -/
structure Dw where
  boot : Int
  came : List Int
def dtop (l : List Int) : Int := l.foldl (fun t n => if t < n then n else t) 0
def Dw.new : Dw := ⟨-1, []⟩
def Dw.base (w : Dw) (boot : Int) : Dw := if w.boot < boot then ⟨boot, []⟩ else w
def Dw.take (w : Dw) (boot n : Int) : Int × Dw :=
  if boot < 0 ∨ n < 1 then (2, w) else if boot < w.boot then (180, w) else
  if n ≤ dtop (w.base boot).came - 64 then (180, w.base boot) else if n ∈ (w.base boot).came then (180, w.base boot) else (0, ⟨(w.base boot).boot, (w.base boot).came ++ [n]⟩)
theorem dtop_snoc (l : List Int) (n : Int) : dtop (l ++ [n]) = if dtop l < n then n else dtop l := by
  unfold dtop; rw [List.foldl_append]; rfl
theorem snoc_ind {α : Type} {P : List α → Prop} (h0 : P []) (h1 : ∀ l n, P l → P (l ++ [n])) (l : List α) : P l := by
  have : ∀ r : List α, P r.reverse := fun r => by
    induction r with
    | nil => exact h0
    | cons n r ih => rw [List.reverse_cons]; exact h1 _ _ ih
  have := this l.reverse
  rwa [List.reverse_reverse] at this
theorem dtop_nn (l : List Int) : 0 ≤ dtop l := by
  refine snoc_ind (P := fun l => 0 ≤ dtop l) (Int.le_refl _) (fun l n ih => ?_) l
  rw [dtop_snoc]; split <;> omega
theorem dtop_ge (l : List Int) : ∀ n ∈ l, n ≤ dtop l := by
  refine snoc_ind (P := fun l => ∀ n ∈ l, n ≤ dtop l) (fun n hn => by cases hn) (fun l m ih n hn => ?_) l
  rw [dtop_snoc]
  rcases List.mem_append.1 hn with h | h
  · have := ih n h; split <;> omega
  · obtain rfl := List.mem_singleton.1 h; split <;> omega
/-- the two windows know the same -/
def RW (p : Wn) (d : Dw) : Prop := p.boot = d.boot ∧ p.top = dtop d.came ∧ (∀ n ∈ d.came, 1 ≤ n) ∧ ∀ n, 1 ≤ n → p.top - 64 < n → n ≤ p.top → (p.came (res64 n) = true ↔ n ∈ d.came)
theorem RW.new : RW Wn.new Dw.new := ⟨rfl, rfl, fun n h => (by cases h), fun n h1 _ h3 => by (have : n ≤ 0 := h3); omega⟩
theorem RW.base {p : Wn} {d : Dw} (h : RW p d) (boot : Int) : RW (p.base boot) (d.base boot) := by
  unfold Wn.base Dw.base
  rw [h.1]
  split
  · exact ⟨rfl, rfl, fun n h => (by cases h), fun n h1 _ h3 => by (have : n ≤ 0 := h3); omega⟩
  · exact h
theorem RW.old {p : Wn} {d : Dw} (h : RW p d) {n : Int} (h1 : 1 ≤ n) : p.old n = (decide (n ≤ dtop d.came - 64) || decide (n ∈ d.came)) := by
  obtain ⟨_, h2, h3, h4⟩ := h
  unfold Wn.old
  rw [← h2]
  by_cases ha : n ≤ p.top - 64
  · rw [decide_eq_true ha]; rfl
  · rw [decide_eq_false ha, Bool.false_or, Bool.false_or]
    by_cases hb : n ≤ p.top
    · rw [decide_eq_true hb, Bool.true_and, Bool.eq_iff_iff, h4 n h1 (by omega) hb, decide_eq_true_eq]
    · rw [decide_eq_false hb, Bool.false_and]
      exact (decide_eq_false fun hn => hb (by rw [h2]; exact dtop_ge _ n hn)).symm
theorem ups_at (w : Wn) (r : Nat) : ∀ k : Nat, (w.ups k).came r = true ↔ (w.came r = true ∧ ∀ j : Int, w.top < j → j ≤ w.top + k → res64 j ≠ r)
  | 0 => ⟨fun h => ⟨h, fun j h1 h2 => by omega⟩, fun h => h.1⟩
  | k + 1 => by
    have ih := ups_at w r k
    show upd (w.ups k).came (res64 ((w.ups k).top + 1)) false r = true ↔ _
    rw [Wn.ups_top]
    unfold upd
    by_cases hr : r = res64 (w.top + k + 1)
    · rw [if_pos hr]
      refine ⟨fun h => (by cases h), fun ⟨_, h⟩ => absurd hr.symm (h _ (by omega) (by omega))⟩
    · rw [if_neg hr, ih]
      refine ⟨fun ⟨h1, h2⟩ => ⟨h1, fun j h3 h4 => ?_⟩, fun ⟨h1, h2⟩ => ⟨h1, fun j h3 h4 => h2 j h3 (by omega)⟩⟩
      by_cases hj : j = w.top + k + 1
      · subst hj; exact Ne.symm hr
      · exact h2 j h3 (by omega)
theorem RW.go {p : Wn} {d : Dw} (h : RW p d) {n : Int} (h1 : 1 ≤ n) (ho : p.old n = false) : RW (p.go n) ⟨d.boot, d.came ++ [n]⟩ := by
  have hold := ho
  rw [h.old h1, Bool.or_eq_false_iff, decide_eq_false_iff_not, decide_eq_false_iff_not] at hold
  obtain ⟨hf, hm⟩ := hold
  obtain ⟨h2, h3, h4, h5⟩ := h
  have ht := dtop_nn d.came
  rw [← h3] at hf ht
  have hcame : ∀ x : Wn, (x.mark n).came = upd x.came (res64 n) true := fun x => rfl
  by_cases hfar : p.top ≤ n - 64
  · have e : p.go n = (⟨p.boot, n, fun _ => false⟩ : Wn).mark n := by
      unfold Wn.go Wn.far
      rw [if_pos hfar]
      dsimp only
      rw [show (n - n).toNat = 0 by omega]; rfl
    rw [e]
    refine ⟨h2, ?_, ?_, ?_⟩
    · show n = _
      rw [dtop_snoc, ← h3, if_pos (by omega)]
    · intro m hm
      rcases List.mem_append.1 hm with hx | hx
      · exact h4 m hx
      · obtain rfl := List.mem_singleton.1 hx; exact h1
    · intro m hm1 hm2 hm3
      change n - 64 < m at hm2
      change m ≤ n at hm3
      rw [hcame]
      unfold upd
      by_cases hmn : m = n
      · subst hmn; rw [if_pos rfl]; simp
      · have hr : res64 m ≠ res64 n := by unfold res64; omega
        rw [if_neg hr]
        refine ⟨fun h => (by cases h), fun hx => ?_⟩
        rcases List.mem_append.1 hx with hx | hx
        · have := dtop_ge _ m hx; omega
        · exact absurd (List.mem_singleton.1 hx) hmn
  · have e : p.go n = (p.ups (n - p.top).toNat).mark n := by
      unfold Wn.go Wn.far
      rw [if_neg hfar]
    rw [e]
    have htop : ((p.ups (n - p.top).toNat).mark n).top = p.top + ((n - p.top).toNat : Int) := Wn.ups_top _ _
    refine ⟨?_, ?_, ?_, ?_⟩
    · show (p.ups _).boot = _
      rw [Wn.ups_boot]; exact h2
    · rw [htop, dtop_snoc, ← h3]; split <;> omega
    · intro m hm
      rcases List.mem_append.1 hm with hx | hx
      · exact h4 m hx
      · obtain rfl := List.mem_singleton.1 hx; exact h1
    · intro m hm1 hm2 hm3
      rw [htop] at hm2 hm3
      rw [hcame]
      unfold upd
      by_cases hmn : m = n
      · subst hmn; rw [if_pos rfl]; simp
      · have hr : res64 m ≠ res64 n := by unfold res64; omega
        rw [if_neg hr, ups_at]
        have hmem : (m ∈ d.came ++ [n]) ↔ m ∈ d.came := by simp [hmn]
        rw [hmem]
        by_cases hmt : m ≤ p.top
        · rw [← h5 m hm1 (by omega) hmt]
          refine ⟨fun hx => hx.1, fun hx => ⟨hx, fun j h6 h7 => ?_⟩⟩
          unfold res64; omega
        · refine ⟨fun hx => absurd rfl (hx.2 m (by omega) (by omega)), fun hx => ?_⟩
          have := dtop_ge _ m hx; omega
theorem RW.take {p : Wn} {d : Dw} (h : RW p d) (boot n : Int) : (p.take boot n).1 = (d.take boot n).1 ∧ RW (p.take boot n).2 (d.take boot n).2 := by
  unfold Wn.take Dw.take
  by_cases hb : boot < 0 ∨ n < 1
  · rw [if_pos hb, if_pos hb]; exact ⟨rfl, h⟩
  · rw [if_neg hb, if_neg hb]
    unfold Wn.taken
    rw [h.1]
    by_cases hlt : boot < d.boot
    · rw [if_pos hlt, decide_eq_true hlt]
      exact ⟨rfl, h⟩
    · have hB := h.base boot
      rw [if_neg hlt, decide_eq_false hlt, Bool.not_false, Bool.true_and, hB.old (by omega)]
      have hsame : (d.base boot).came ≠ [] → RW p (d.base boot) := fun hne => by
        unfold Dw.base at *
        split
        · rename_i hx; rw [if_pos hx] at hne; exact absurd rfl hne
        · exact h
      have hafter : (p.base boot).old n = false → p.after boot n = (p.base boot).go n := fun ho => by
        unfold Wn.after
        rw [if_neg (by rw [h.1]; omega), if_neg (by rw [ho]; simp)]
      have hold := hB.old (show 1 ≤ n by omega)
      by_cases h1 : n ≤ dtop (d.base boot).came - 64
      · rw [decide_eq_true h1, if_pos h1]
        refine ⟨rfl, hsame fun he => ?_⟩
        rw [he] at h1
        have : n ≤ 0 - 64 := h1
        omega
      · rw [decide_eq_false h1, if_neg h1]
        by_cases h2 : n ∈ (d.base boot).came
        · rw [decide_eq_true h2, if_pos h2]
          exact ⟨rfl, hsame fun he => by rw [he] at h2; cases h2⟩
        · rw [decide_eq_false h2, if_neg h2]
          rw [decide_eq_false h1, decide_eq_false h2] at hold
          rw [if_pos (show (!(false || false)) = true from rfl), hafter hold]
          exact ⟨rfl, hB.go (by omega) hold⟩
/-- what is put is got -/
theorem at_none {α : Type} {s : Sd} : ∀ {l : List (Sd × α)}, at_ s l = none → ∀ p ∈ l, s ≠ p.1
  | [], _, p, hp => by cases hp
  | q :: l, h, p, hp => by
    unfold at_ at h
    split at h
    · cases h
    · rename_i hq
      rcases List.mem_cons.1 hp with rfl | hp
      · exact hq
      · exact at_none (Option.map_eq_none_iff.1 h) p hp
theorem at_cons {α : Type} (s : Sd) (q : Sd × α) (l : List (Sd × α)) : at_ s (q :: l) = if s = q.1 then some 0 else (at_ s l).map (· + 1) := rfl
theorem got_cons {α : Type} (s : Sd) (q : Sd × α) (l : List (Sd × α)) (d : α) : got s (q :: l) d = if s = q.1 then q.2 else got s l d := by
  unfold got
  rw [at_cons]
  by_cases h : s = q.1
  · rw [if_pos h, if_pos h]; rfl
  · rw [if_neg h, if_neg h]
    cases at_ s l <;> rfl
theorem puts_cons {α : Type} (s : Sd) (q : Sd × α) (l : List (Sd × α)) (v : α) : puts s (q :: l) v = if s = q.1 then (s, v) :: l else q :: puts s l v := by
  unfold puts
  rw [at_cons]
  by_cases h : s = q.1
  · rw [if_pos h, if_pos h]; rfl
  · rw [if_neg h, if_neg h]
    cases at_ s l <;> rfl
theorem got_puts {α : Type} (s t : Sd) (v d : α) : ∀ l : List (Sd × α), got t (puts s l v) d = if t = s then v else got t l d
  | [] => by
    show got t [(s, v)] d = _
    rw [got_cons]
  | q :: l => by
    have ih := got_puts s t v d l
    rw [puts_cons]
    by_cases h : s = q.1
    · rw [if_pos h, got_cons, got_cons]
      dsimp only
      by_cases ht : t = s
      · rw [if_pos ht, if_pos ht]
      · rw [if_neg ht, if_neg ht, if_neg (by rw [← h]; exact ht)]
    · rw [if_neg h, got_cons, got_cons, ih]
      by_cases ht : t = q.1
      · rw [if_pos ht, if_pos ht, if_neg (by rw [ht]; exact Ne.symm h)]
      · rw [if_neg ht, if_neg ht]
/-- the document's ends -/
structure De where
  root : List UInt8
  who : Int
  boot : Int
  l : List (Sd × (Int × Dw))
abbrev De.at (y : De) (s : Sd) : Int × Dw := got s y.l (0, Dw.new)
def De.put (y : De) (s : Sd) (v : Int × Dw) : De := { y with l := puts s y.l v }
def De.pkt (y : De) (to epoch : Int) (body : List UInt8) : Pkt := ⟨y.who, to, epoch, y.boot, (y.at (to, epoch)).1 + 1, body, List.replicate 32 0⟩
def De.send (y : De) (to epoch : Int) (body : List UInt8) : (List UInt8 × Int) × De :=
  if mayP (y.pkt to epoch body) = true then ((headS (y.pkt to epoch body) ++ tagS y.root (y.pkt to epoch body), 0), y.put (to, epoch) ((y.at (to, epoch)).1 + 1, (y.at (to, epoch)).2)) else (([], 2), y.put (to, epoch) (y.at (to, epoch)))
def De.get (y : De) (b : List UInt8) : (Pkt × Int) × De :=
  if (parseP b).2 ≠ 0 ∨ (parseP b).1.to ≠ y.who then ((pk0, 190), y)
  else if (parseP b).1.tag ≠ tagS y.root (parseP b).1 then ((pk0, 91), y)
  else
    let p := (parseP b).1
    let t := (y.at (p.frm, p.epoch)).2.take p.boot p.seqn
    let y' : De := y.put (p.frm, p.epoch) ((y.at (p.frm, p.epoch)).1, t.2)
    if t.1 ≠ 0 then ((pk0, t.1), y') else ((p, 0), y')
/-- the two ends know the same -/
structure Alk (x : Ends) (y : De) : Prop where
  root : x.root = y.root
  who : x.who = y.who
  boot : x.boot = y.boot
  sent : ∀ s, got s x.sent 0 = (y.at s).1
  wins : ∀ s, RW (got s x.wins Wn.new) (y.at s).2
theorem Alk.send {x : Ends} {y : De} (h : Alk x y) (to epoch : Int) (body : List UInt8) : (x.send to epoch body).1 = (y.send to epoch body).1 ∧ Alk (x.send to epoch body).2 (y.send to epoch body).2 := by
  have hp : x.pkt to epoch body = y.pkt to epoch body := by
    unfold Ends.pkt De.pkt
    rw [h.who, h.boot, h.sent]
  unfold Ends.send De.send
  rw [hp, h.root]
  split
  · refine ⟨rfl, ⟨h.root, h.who, h.boot, fun s => ?_, fun s => ?_⟩⟩
    · show got s (puts (to, epoch) x.sent _) 0 = (got s (puts (to, epoch) y.l _) _).1
      rw [got_puts, got_puts, h.sent]
      by_cases hs : s = (to, epoch)
      · rw [if_pos hs, if_pos hs]
      · rw [if_neg hs, if_neg hs]; exact h.sent s
    · show RW (got s x.wins Wn.new) (got s (puts (to, epoch) y.l _) _).2
      rw [got_puts]
      by_cases hs : s = (to, epoch)
      · rw [if_pos hs, hs]; exact h.wins _
      · rw [if_neg hs]; exact h.wins s
  · refine ⟨rfl, ⟨h.root, h.who, h.boot, fun s => ?_, fun s => ?_⟩⟩
    · show got s x.sent 0 = (got s (puts (to, epoch) y.l _) _).1
      rw [got_puts]
      by_cases hs : s = (to, epoch)
      · rw [if_pos hs, hs]; exact h.sent _
      · rw [if_neg hs]; exact h.sent s
    · show RW (got s x.wins Wn.new) (got s (puts (to, epoch) y.l _) _).2
      rw [got_puts]
      by_cases hs : s = (to, epoch)
      · rw [if_pos hs, hs]; exact h.wins _
      · rw [if_neg hs]; exact h.wins s
theorem Alk.get {x : Ends} {y : De} (h : Alk x y) (b : List UInt8) : (x.get b).1 = (y.get b).1 ∧ Alk (x.get b).2 (y.get b).2 := by
  unfold Ends.get De.get
  rw [h.who, h.root]
  split
  · exact ⟨rfl, h⟩
  split
  · exact ⟨rfl, h⟩
  dsimp only
  generalize (parseP b).1 = p
  obtain ⟨h1, h2⟩ := (h.wins (p.frm, p.epoch)).take p.boot p.seqn
  have hR : Alk { x with wins := puts (p.frm, p.epoch) x.wins ((got (p.frm, p.epoch) x.wins Wn.new).take p.boot p.seqn).2 } (y.put (p.frm, p.epoch) ((y.at (p.frm, p.epoch)).1, ((y.at (p.frm, p.epoch)).2.take p.boot p.seqn).2)) := by
    refine ⟨h.root, h.who, h.boot, fun s => ?_, fun s => ?_⟩
    · show got s x.sent 0 = (got s (puts (p.frm, p.epoch) y.l _) _).1
      rw [got_puts]
      by_cases hs : s = (p.frm, p.epoch)
      · rw [if_pos hs, hs]; exact h.sent _
      · rw [if_neg hs]; exact h.sent s
    · show RW (got s (puts (p.frm, p.epoch) x.wins _) Wn.new) (got s (puts (p.frm, p.epoch) y.l _) _).2
      rw [got_puts, got_puts]
      by_cases hs : s = (p.frm, p.epoch)
      · rw [if_pos hs, if_pos hs]; exact h2
      · rw [if_neg hs, if_neg hs]; exact h.wins s
  rw [h1]
  split
  · exact ⟨rfl, by rw [← h.root, ← h.who]; exact hR⟩
  · exact ⟨rfl, by rw [← h.root, ← h.who]; exact hR⟩
theorem Alk.new (root : List UInt8) (who boot : Int) : Alk ⟨root, who, boot, [], []⟩ ⟨root, who, boot, []⟩ := ⟨rfl, rfl, rfl, fun _ => rfl, fun _ => RW.new⟩
end Go.Proofs.YtnjfchigdpifmaaGreat

namespace Go.Proofs.YtnjfchigdpifmaaGreat
set_option linter.unusedVariables false
set_option linter.unusedSimpArgs false
set_option maxHeartbeats 8000000
open Go.RowKit
set_option maxRecDepth 100000
abbrev tDw : TypeId := 95
abbrev cmR (l : List Int) : List (List AV) := l.map fun n => [I n]
abbrev cm (l : List Int) : AV := .sl (some 3) 1 (cmR l)
abbrev dwC (w : Dw) : List AV := [I w.boot, cm w.came]
abbrev dwX (w : Dw) : Bx := .c tDw (dwC w)
theorem dtop_take (l : List Int) {a : Nat} (h : a < l.length) : dtop (l.take (a + 1)) = if dtop (l.take a) < l[a] then l[a] else dtop (l.take a) := by
  rw [List.take_add_one, List.getElem?_eq_getElem h]
  exact dtop_snoc _ _
theorem dtop_ac (w : Dw) (hl : w.came.length ≤ 1000) : AC Tryz.prog 53 [.bp 0 0 0] [dwX w] (fun v bs' => v = I (dtop w.came) ∧ bs' = [dwX w]) := by
  refine AC.N Tryz.func53 Tryz.ntmps53 ?_
  intro X hρ hmks
  simp only [nx, Nat.reduceAdd, Nat.reduceSub, BEq.rfl]
  repeat' (first | ((first | ((with_reducible apply AP.k_any); first | refine AP.ST ?_ | (refine AP.Y ?_; dsimp only) | refine AP.G (fun hg => ?_) (fun hg => ?_) | (refine AP.V (fun c hnil => ?_); simp only [nz])  | refine AP.PF ?_)) <;> (try simp only [ nx, mx, rn, fq, Nat.mul_one, Bool.and_true, Bool.and_false, Nat.reduceBEq, Nat.reduceAdd, Nat.reduceSub, BEq.rfl])) | ((with_reducible apply AP.k_nil); first | (refine AP.nil (hQ' _ ?_); clear hQ' Q') | refine AP.nil ?_) | ((with_reducible apply CP.k_reg); refine cp_regG fun Q' hQ' => ?_) | refine CP.W ?_ | refine cp_cond rfl (fun hc => ?_) (fun hc => ?_) | (simp only [List.append_eq, List.cons_append, List.nil_append]))
  refine cp_loopS [3, 4, 5, 6, 7, 8, 9, 10, 11, 12, 13, 14, 15, 16, 17, 18, 19, 20, 21, 22, 23, 24, 25, 26, 27, 28, 29] (fun a : Nat => w.came.length - a) (fun a => a ≤ w.came.length) (fun a => [(4, I a), (3, I (dtop (w.came.take a)))]) (fun a => []) 0 (Nat.zero_le _) (by exact Gh.W) ?_
  intro a ha
  simp only [setT, deT, setB, List.set_cons_succ, List.set_cons_zero]
  by_cases hlt : a < w.came.length
  · have q1 : decide ((a : Int) < (w.came.length : Int)) = true := by simp; omega
    have q2 : IntKind.i64.wrap ((a : Int) + 1) = ((a + 1 : Nat) : Int) := wrap_i64 (by omega) (by omega)
    have hr : (cmR w.came)[a]? = some [I w.came[a]] := by rw [List.getElem?_map, List.getElem?_eq_getElem hlt]; rfl
    have hs := dtop_take w.came hlt
    by_cases hc1 : dtop (w.came.take a) < w.came[a]
    · have q3 : decide (dtop (w.came.take a) < w.came[a]) = true := by simp; omega
      rw [if_pos hc1] at hs
      repeat' (first | ((first | ((with_reducible apply AP.k_any); first | refine AP.ST ?_ | (refine AP.Y ?_; dsimp only) | refine AP.G (fun hg => ?_) (fun hg => ?_) | (refine AP.V (fun c hnil => ?_); simp only [nz])  | refine AP.PF ?_)) <;> (try simp only [q1, q2, q3, List.length_map, nx, mx, rn, fq, Nat.mul_one, Bool.and_true, Bool.and_false, Nat.reduceBEq, Nat.reduceAdd, Nat.reduceSub, BEq.rfl])) | ((with_reducible apply AP.k_nil); first | (refine AP.nil (hQ' _ ?_); clear hQ' Q') | refine AP.nil ?_) | ((with_reducible apply CP.k_reg); refine cp_regG fun Q' hQ' => ?_) | refine CP.W ?_ | refine cp_cond rfl (fun hc => ?_) (fun hc => ?_) | (simp only [List.append_eq, List.cons_append, List.nil_append]))
      exact ⟨a + 1, by omega, by omega, by rw [hs]; exact Gh.W⟩
    · have q3 : decide (dtop (w.came.take a) < w.came[a]) = false := by simp; omega
      rw [if_neg hc1] at hs
      repeat' (first | ((first | ((with_reducible apply AP.k_any); first | refine AP.ST ?_ | (refine AP.Y ?_; dsimp only) | refine AP.G (fun hg => ?_) (fun hg => ?_) | (refine AP.V (fun c hnil => ?_); simp only [nz])  | refine AP.PF ?_)) <;> (try simp only [q1, q2, q3, List.length_map, nx, mx, rn, fq, Nat.mul_one, Bool.and_true, Bool.and_false, Nat.reduceBEq, Nat.reduceAdd, Nat.reduceSub, BEq.rfl])) | ((with_reducible apply AP.k_nil); first | (refine AP.nil (hQ' _ ?_); clear hQ' Q') | refine AP.nil ?_) | ((with_reducible apply CP.k_reg); refine cp_regG fun Q' hQ' => ?_) | refine CP.W ?_ | refine cp_cond rfl (fun hc => ?_) (fun hc => ?_) | (simp only [List.append_eq, List.cons_append, List.nil_append]))
      exact ⟨a + 1, by omega, by omega, by rw [hs]; exact Gh.W⟩
  · obtain rfl : a = w.came.length := by omega
    have q1 : decide ((w.came.length : Int) < (w.came.length : Int)) = false := by simp
    have e := List.take_length (l := w.came)
    repeat' (first | ((first | ((with_reducible apply AP.k_any); first | refine AP.ST ?_ | (refine AP.Y ?_; dsimp only) | refine AP.G (fun hg => ?_) (fun hg => ?_) | (refine AP.V (fun c hnil => ?_); simp only [nz])  | refine AP.PF ?_)) <;> (try simp only [q1, e, List.length_map, nx, mx, rn, fq, Nat.mul_one, Bool.and_true, Bool.and_false, Nat.reduceBEq, Nat.reduceAdd, Nat.reduceSub, BEq.rfl])) | ((with_reducible apply AP.k_nil); first | (refine AP.nil (hQ' _ ?_); clear hQ' Q') | refine AP.nil ?_) | ((with_reducible apply CP.k_reg); refine cp_regG fun Q' hQ' => ?_) | refine CP.W ?_ | refine cp_cond rfl (fun hc => ?_) (fun hc => ?_) | (simp only [List.append_eq, List.cons_append, List.nil_append]))
    (exact RetQ.A [(0, 0)] (by exact ⟨rfl, rfl⟩))
theorem dnew18_ac : AC Tryz.prog 34 [] [] (fun v bs' => v = .bp 0 0 0 ∧ bs' = [dwX Dw.new]) := by
  refine AC.N Tryz.func34 Tryz.ntmps34 ?_
  intro X hρ hmks
  simp only [nx, Nat.reduceAdd, Nat.reduceSub, BEq.rfl]
  repeat' (first | ((first | ((with_reducible apply AP.k_any); first | fail | (refine AP.gh (gh_nilc (j := 0) (u := 1) (off := 1) (e := 3) (k := 1) rfl rfl) ?_) | refine AP.ST ?_ | (refine AP.Y ?_; dsimp only) | refine AP.G (fun hg => ?_) (fun hg => ?_) | (refine AP.V (fun c hnil => ?_); simp only [nz]) | refine AP.PF ?_)) <;> (try simp only [ nx, mx, rn, fq, Nat.mul_one, Bool.and_true, Bool.and_false, Nat.reduceBEq, Nat.reduceAdd, Nat.reduceSub, BEq.rfl])) | ((with_reducible apply AP.k_nil); first | (refine AP.nil (hQ' _ ?_); clear hQ' Q') | refine AP.nil ?_) | ((with_reducible apply CP.k_reg); refine cp_regG fun Q' hQ' => ?_) | refine CP.W ?_ | refine cp_cond rfl (fun hc => ?_) (fun hc => ?_) | (simp only [List.append_eq, List.cons_append, List.nil_append]))
  (exact RetQ.A [(0, 1)] (by exact ⟨rfl, rfl⟩))
theorem dtake_bad (w : Dw) (boot n : Int) (h : boot < 0 ∨ n < 1) : AC Tryz.prog 28 [.bp 0 0 0, I boot, I n] [dwX w] (fun v bs' => v = I (w.take boot n).1 ∧ bs' = [dwX (w.take boot n).2]) := by
  have e : w.take boot n = (2, w) := if_pos h
  rw [e]
  by_cases hb : boot < 0
  · have d1 : decide (boot < 0) = true := by simp; omega
    refine AC.N Tryz.func28 Tryz.ntmps28 ?_
    intro X hρ hmks
    simp only [nx, Nat.reduceAdd, Nat.reduceSub, BEq.rfl]
    repeat' (first | ((first | ((with_reducible apply AP.k_any); first | refine AP.ST ?_ | (refine AP.Y ?_; dsimp only) | refine AP.G (fun hg => ?_) (fun hg => ?_) | (refine AP.V (fun c hnil => ?_); simp only [nz])  | refine AP.PF ?_)) <;> (try simp only [d1, nx, mx, rn, fq, Nat.mul_one, Bool.and_true, Bool.and_false, Nat.reduceBEq, Nat.reduceAdd, Nat.reduceSub, BEq.rfl])) | ((with_reducible apply AP.k_nil); first | (refine AP.nil (hQ' _ ?_); clear hQ' Q') | refine AP.nil ?_) | ((with_reducible apply CP.k_reg); refine cp_regG fun Q' hQ' => ?_) | refine CP.W ?_ | refine cp_cond rfl (fun hc => ?_) (fun hc => ?_) | (simp only [List.append_eq, List.cons_append, List.nil_append]))
    (exact RetQ.A [(0, 0)] (by exact ⟨rfl, rfl⟩))
  · have d1 : decide (boot < 0) = false := by simp; omega
    have d2 : decide (n < 1) = true := by simp; omega
    refine AC.N Tryz.func28 Tryz.ntmps28 ?_
    intro X hρ hmks
    simp only [nx, Nat.reduceAdd, Nat.reduceSub, BEq.rfl]
    repeat' (first | ((first | ((with_reducible apply AP.k_any); first | refine AP.ST ?_ | (refine AP.Y ?_; dsimp only) | refine AP.G (fun hg => ?_) (fun hg => ?_) | (refine AP.V (fun c hnil => ?_); simp only [nz])  | refine AP.PF ?_)) <;> (try simp only [d1, d2, nx, mx, rn, fq, Nat.mul_one, Bool.and_true, Bool.and_false, Nat.reduceBEq, Nat.reduceAdd, Nat.reduceSub, BEq.rfl])) | ((with_reducible apply AP.k_nil); first | (refine AP.nil (hQ' _ ?_); clear hQ' Q') | refine AP.nil ?_) | ((with_reducible apply CP.k_reg); refine cp_regG fun Q' hQ' => ?_) | refine CP.W ?_ | refine cp_cond rfl (fun hc => ?_) (fun hc => ?_) | (simp only [List.append_eq, List.cons_append, List.nil_append]))
    (exact RetQ.A [(0, 0)] (by exact ⟨rfl, rfl⟩))
theorem dtake_less (w : Dw) (boot n : Int) (h : ¬ (boot < 0 ∨ n < 1)) (h2 : boot < w.boot) : AC Tryz.prog 28 [.bp 0 0 0, I boot, I n] [dwX w] (fun v bs' => v = I (w.take boot n).1 ∧ bs' = [dwX (w.take boot n).2]) := by
  have e : w.take boot n = (180, w) := by unfold Dw.take; rw [if_neg h, if_pos h2]
  rw [e]
  have d1 : decide (boot < 0) = false := by simp; omega
  have d2 : decide (n < 1) = false := by simp; omega
  have d3 : decide (boot < w.boot) = true := by simp; omega
  refine AC.N Tryz.func28 Tryz.ntmps28 ?_
  intro X hρ hmks
  simp only [nx, Nat.reduceAdd, Nat.reduceSub, BEq.rfl]
  repeat' (first | ((first | ((with_reducible apply AP.k_any); first | refine AP.ST ?_ | (refine AP.Y ?_; dsimp only) | refine AP.G (fun hg => ?_) (fun hg => ?_) | (refine AP.V (fun c hnil => ?_); simp only [nz])  | refine AP.PF ?_)) <;> (try simp only [d1, d2, d3, nx, mx, rn, fq, Nat.mul_one, Bool.and_true, Bool.and_false, Nat.reduceBEq, Nat.reduceAdd, Nat.reduceSub, BEq.rfl])) | ((with_reducible apply AP.k_nil); first | (refine AP.nil (hQ' _ ?_); clear hQ' Q') | refine AP.nil ?_) | ((with_reducible apply CP.k_reg); refine cp_regG fun Q' hQ' => ?_) | refine CP.W ?_ | refine cp_cond rfl (fun hc => ?_) (fun hc => ?_) | (simp only [List.append_eq, List.cons_append, List.nil_append]))
  (exact RetQ.A [(0, 0)] (by exact ⟨rfl, rfl⟩))
theorem dtake_new (w : Dw) (boot n : Int) (h : ¬ (boot < 0 ∨ n < 1)) (h2 : w.boot < boot) : AC Tryz.prog 28 [.bp 0 0 0, I boot, I n] [dwX w] (fun v bs' => v = I (w.take boot n).1 ∧ bs' = [dwX (w.take boot n).2]) := by
  have e : w.take boot n = (0, ⟨boot, [n]⟩) := by
    unfold Dw.take Dw.base
    rw [if_neg h, if_neg (by omega), if_pos h2]
    show (if n ≤ 0 - 64 then _ else if n ∈ [] then _ else _) = _
    rw [if_neg (by omega), if_neg (by simp)]; rfl
  rw [e]
  have d1 : decide (boot < 0) = false := by simp; omega
  have d2 : decide (n < 1) = false := by simp; omega
  have d3 : decide (boot < w.boot) = false := by simp; omega
  have d4 : decide (w.boot < boot) = true := by simp; omega
  have d5 : decide (n ≤ IntKind.i64.wrap (dtop [] - 64)) = false := by
    have : IntKind.i64.wrap (dtop [] - 64) = -64 := by decide
    rw [this]; simp; omega
  have ht := dtop_ac ⟨boot, []⟩ (by simp)
  have g1 : decide (((0 : Nat) : Int) < (0 : Int)) = false := rfl
  refine AC.N Tryz.func28 Tryz.ntmps28 ?_
  intro X hρ hmks
  simp only [nx, Nat.reduceAdd, Nat.reduceSub, BEq.rfl]
  repeat' (first | ((first | ((with_reducible apply AP.k_any); first | refine AP.ST ?_ | (refine AP.Y ?_; dsimp only) | refine AP.G (fun hg => ?_) (fun hg => ?_) | (refine AP.V (fun c hnil => ?_); simp only [nz]) | (refine AP.gh (gh_nilc (j := 0) (off := 1) (e := 3) (k := 1) rfl rfl) ?_) | ((with_reducible apply AP.k_any); refine AP.B 0 (ht) ?_) | refine AP.PF ?_)) <;> (try simp only [d1, d2, d3, d4, d5, g1, nx, mx, rn, fq, Nat.mul_one, Bool.and_true, Bool.and_false, Nat.reduceBEq, Nat.reduceAdd, Nat.reduceSub, BEq.rfl])) | ((with_reducible apply AP.k_nil); first | (refine AP.nil (hQ' _ ?_); clear hQ' Q') | refine AP.nil ?_) | ((with_reducible apply CP.k_reg); refine cp_regG fun Q' hQ' => ?_) | refine CP.W ?_ | refine cp_cond rfl (fun hc => ?_) (fun hc => ?_) | (simp only [List.append_eq, List.cons_append, List.nil_append]))
  refine cp_rounds 1 ?_
  repeat' (first | ((first | ((with_reducible apply AP.k_any); first | refine AP.ST ?_ | (refine AP.Y ?_; dsimp only) | refine AP.G (fun hg => ?_) (fun hg => ?_) | (refine AP.V (fun c hnil => ?_); simp only [nz])  | refine AP.PF ?_)) <;> (try simp only [d1, nx, mx, rn, fq, Nat.mul_one, Bool.and_true, Bool.and_false, Nat.reduceBEq, Nat.reduceAdd, Nat.reduceSub, BEq.rfl])) | ((with_reducible apply AP.k_nil); first | (refine AP.nil (hQ' _ ?_); clear hQ' Q') | refine AP.nil ?_) | ((with_reducible apply CP.k_reg); refine cp_regG fun Q' hQ' => ?_) | refine CP.W ?_ | refine cp_cond rfl (fun hc => ?_) (fun hc => ?_) | (simp only [List.append_eq, List.cons_append, List.nil_append]))
  (exact RetQ.A [(0, 0)] (by exact ⟨rfl, rfl⟩))
theorem dtake_same (w : Dw) (n : Int) (hl : w.came.length ≤ 1000) (ht : dtop w.came ≤ 9223372036854775807) (h : ¬ (w.boot < 0 ∨ n < 1)) : AC Tryz.prog 28 [.bp 0 0 0, I w.boot, I n] [dwX w] (fun v bs' => v = I (w.take w.boot n).1 ∧ bs' = [dwX (w.take w.boot n).2]) := by
  have hbs : w.base w.boot = w := if_neg (by omega)
  have e : w.take w.boot n = if n ≤ dtop w.came - 64 then (180, w) else if n ∈ w.came then (180, w) else (0, ⟨w.boot, w.came ++ [n]⟩) := by
    unfold Dw.take
    rw [if_neg h, if_neg (by omega), hbs]
  have d1 : decide (w.boot < 0) = false := by simp; omega
  have d2 : decide (n < 1) = false := by simp; omega
  have d3 : decide (w.boot < w.boot) = false := by simp
  have h0 := dtop_nn w.came
  have hw : IntKind.i64.wrap (dtop w.came - 64) = dtop w.came - 64 := wrap_i64 (by omega) (by omega)
  have htop := dtop_ac w hl
  rw [e]
  by_cases hold : n ≤ dtop w.came - 64
  · rw [if_pos hold]
    have d4 : decide (n ≤ dtop w.came - 64) = true := by simp; omega
    refine AC.N Tryz.func28 Tryz.ntmps28 ?_
    intro X hρ hmks
    simp only [nx, Nat.reduceAdd, Nat.reduceSub, BEq.rfl]
    repeat' (first | ((first | ((with_reducible apply AP.k_any); first | refine AP.ST ?_ | (refine AP.Y ?_; dsimp only) | refine AP.G (fun hg => ?_) (fun hg => ?_) | (refine AP.V (fun c hnil => ?_); simp only [nz]) | ((with_reducible apply AP.k_any); refine AP.B 0 (htop) ?_) | refine AP.PF ?_)) <;> (try simp only [d1, d2, d3, hw, d4, nx, mx, rn, fq, Nat.mul_one, Bool.and_true, Bool.and_false, Nat.reduceBEq, Nat.reduceAdd, Nat.reduceSub, BEq.rfl])) | ((with_reducible apply AP.k_nil); first | (refine AP.nil (hQ' _ ?_); clear hQ' Q') | refine AP.nil ?_) | ((with_reducible apply CP.k_reg); refine cp_regG fun Q' hQ' => ?_) | refine CP.W ?_ | refine cp_cond rfl (fun hc => ?_) (fun hc => ?_) | (simp only [List.append_eq, List.cons_append, List.nil_append]))
    (exact RetQ.A [(0, 0)] (by exact ⟨rfl, rfl⟩))
  · rw [if_neg hold]
    have d4 : decide (n ≤ dtop w.came - 64) = false := by simp; omega
    refine AC.N Tryz.func28 Tryz.ntmps28 ?_
    intro X hρ hmks
    simp only [nx, Nat.reduceAdd, Nat.reduceSub, BEq.rfl]
    repeat' (first | ((first | ((with_reducible apply AP.k_any); first | refine AP.ST ?_ | (refine AP.Y ?_; dsimp only) | refine AP.G (fun hg => ?_) (fun hg => ?_) | (refine AP.V (fun c hnil => ?_); simp only [nz]) | ((with_reducible apply AP.k_any); refine AP.B 0 (htop) ?_) | refine AP.PF ?_)) <;> (try simp only [d1, d2, d3, hw, d4, nx, mx, rn, fq, Nat.mul_one, Bool.and_true, Bool.and_false, Nat.reduceBEq, Nat.reduceAdd, Nat.reduceSub, BEq.rfl])) | ((with_reducible apply AP.k_nil); first | (refine AP.nil (hQ' _ ?_); clear hQ' Q') | refine AP.nil ?_) | ((with_reducible apply CP.k_reg); refine cp_regG fun Q' hQ' => ?_) | refine CP.W ?_ | refine cp_cond rfl (fun hc => ?_) (fun hc => ?_) | (simp only [List.append_eq, List.cons_append, List.nil_append]))
    refine CP.gh gh_slot ?_; simp only [nx, Nat.reduceAdd, Nat.reduceSub, BEq.rfl]
    refine cp_loopS [6, 7, 38, 39, 40, 41, 42, 43, 44, 45, 46, 47, 48, 49, 50, 51, 52, 53, 54, 55] (fun a : Nat => w.came.length - a) (fun a => a ≤ w.came.length ∧ ∀ i, i < a → ∀ m, w.came[i]? = some m → m ≠ n) (fun a => [(7, I a)]) (fun a => []) 0 ⟨Nat.zero_le _, fun i hi => by omega⟩ (by exact Gh.W) ?_
    rintro a ⟨ha, hne⟩
    simp only [setT, deT, setB, List.set_cons_succ, List.set_cons_zero]
    by_cases hlt : a < w.came.length
    · have q1 : decide ((a : Int) < (w.came.length : Int)) = true := by simp; omega
      have q2 : IntKind.i64.wrap ((a : Int) + 1) = ((a + 1 : Nat) : Int) := wrap_i64 (by omega) (by omega)
      have hr : (cmR w.came)[a]? = some [I w.came[a]] := by rw [List.getElem?_map, List.getElem?_eq_getElem hlt]; rfl
      by_cases hc1 : w.came[a] = n
      · have q3 : (w.came[a] == n) = true := by simp [hc1]
        rw [if_pos (by rw [← hc1]; exact List.getElem_mem hlt)]
        repeat' (first | ((first | ((with_reducible apply AP.k_any); first | refine AP.ST ?_ | (refine AP.Y ?_; dsimp only) | refine AP.G (fun hg => ?_) (fun hg => ?_) | (refine AP.V (fun c hnil => ?_); simp only [nz])  | refine AP.PF ?_)) <;> (try simp only [q1, q2, q3, List.length_map, nx, mx, rn, fq, Nat.mul_one, Bool.and_true, Bool.and_false, Nat.reduceBEq, Nat.reduceAdd, Nat.reduceSub, BEq.rfl])) | ((with_reducible apply AP.k_nil); first | (refine AP.nil (hQ' _ ?_); clear hQ' Q') | refine AP.nil ?_) | ((with_reducible apply CP.k_reg); refine cp_regG fun Q' hQ' => ?_) | refine CP.W ?_ | refine cp_cond rfl (fun hc => ?_) (fun hc => ?_) | (simp only [List.append_eq, List.cons_append, List.nil_append]))
        (exact RetQ.A [(0, 0)] (by exact ⟨rfl, rfl⟩))
      · have q3 : (w.came[a] == n) = false := by simp [hc1]
        repeat' (first | ((first | ((with_reducible apply AP.k_any); first | refine AP.ST ?_ | (refine AP.Y ?_; dsimp only) | refine AP.G (fun hg => ?_) (fun hg => ?_) | (refine AP.V (fun c hnil => ?_); simp only [nz])  | refine AP.PF ?_)) <;> (try simp only [q1, q2, q3, List.length_map, nx, mx, rn, fq, Nat.mul_one, Bool.and_true, Bool.and_false, Nat.reduceBEq, Nat.reduceAdd, Nat.reduceSub, BEq.rfl])) | ((with_reducible apply AP.k_nil); first | (refine AP.nil (hQ' _ ?_); clear hQ' Q') | refine AP.nil ?_) | ((with_reducible apply CP.k_reg); refine cp_regG fun Q' hQ' => ?_) | refine CP.W ?_ | refine cp_cond rfl (fun hc => ?_) (fun hc => ?_) | (simp only [List.append_eq, List.cons_append, List.nil_append]))
        refine ⟨a + 1, by omega, ⟨by omega, fun i hi m hm => ?_⟩, by exact Gh.W⟩
        by_cases hia : i = a
        · subst hia
          rw [List.getElem?_eq_getElem hlt] at hm
          injection hm with hm
          rw [← hm]; exact hc1
        · exact hne i (by omega) m hm
    · obtain rfl : a = w.came.length := by omega
      have q1 : decide ((w.came.length : Int) < (w.came.length : Int)) = false := by simp
      rw [if_neg (fun hm => by
        obtain ⟨i, hi, hx⟩ := List.mem_iff_getElem.1 hm
        exact hne i hi n (by rw [List.getElem?_eq_getElem hi, hx]) rfl)]
      have hx : cmR (w.came ++ [n]) = cmR w.came ++ [[I n]] := List.map_append
      have hl1 : (cmR w.came).length + 1 ≤ 1000000000 := by rw [List.length_map]; omega
      repeat' (first | ((first | ((with_reducible apply AP.k_any); first | refine AP.ST ?_ | (refine AP.Y ?_; dsimp only) | refine AP.G (fun hg => ?_) (fun hg => ?_) | (refine AP.V (fun c hnil => ?_); simp only [nz])  | refine AP.PF ?_)) <;> (try simp only [q1, List.length_map, nx, mx, rn, fq, Nat.mul_one, Bool.and_true, Bool.and_false, Nat.reduceBEq, Nat.reduceAdd, Nat.reduceSub, BEq.rfl])) | ((with_reducible apply AP.k_nil); first | (refine AP.nil (hQ' _ ?_); clear hQ' Q') | refine AP.nil ?_) | ((with_reducible apply CP.k_reg); refine cp_regG fun Q' hQ' => ?_) | refine CP.W ?_ | refine cp_cond rfl (fun hc => ?_) (fun hc => ?_) | (simp only [List.append_eq, List.cons_append, List.nil_append]))
      (exact RetQ.A [(0, 0)] (by exact ⟨rfl, congrArg (fun r => [Bx.c tDw [I w.boot, .sl (some 3) 1 r]]) hx.symm⟩))
theorem dtake_ac (w : Dw) (boot n : Int) (hl : w.came.length ≤ 1000) (ht : dtop w.came ≤ 9223372036854775807) : AC Tryz.prog 28 [.bp 0 0 0, I boot, I n] [dwX w] (fun v bs' => v = I (w.take boot n).1 ∧ bs' = [dwX (w.take boot n).2]) := by
  by_cases h : boot < 0 ∨ n < 1
  · exact dtake_bad w boot n h
  · by_cases h1 : boot < w.boot
    · exact dtake_less w boot n h h1
    · by_cases h2 : w.boot < boot
      · exact dtake_new w boot n h h2
      · obtain rfl : boot = w.boot := by omega
        exact dtake_same w n hl ht h
end Go.Proofs.YtnjfchigdpifmaaGreat

namespace Go.Proofs.YtnjfchigdpifmaaGreat
set_option linter.unusedVariables false
set_option linter.unusedSimpArgs false
set_option maxHeartbeats 8000000
open Go.RowKit
set_option maxRecDepth 100000
abbrev tDe : TypeId := 54
abbrev tDs : TypeId := 64
abbrev sdC (p : Sd × (Int × Dw)) : List AV := [I p.1.1, I p.1.2, I p.2.1, .ob tDw (dwC p.2.2)]
abbrev deC (y : De) : List AV := [bs none y.root, I y.who, I y.boot, .sl (some tDs) 4 (y.l.map sdC)]
abbrev deX (y : De) : Bx := .c tDe (deC y)
theorem dnew19_ac' (root : List UInt8) (who boot : Int) (hr : root.length ≤ 100000000) : AC Tryz.prog 5 [bs none root, I who, I boot] [] (fun v bs' => v = .bp 0 0 0 ∧ bs' = [.c tDe [bs none root, I who, I boot, .sl (some tDs) 4 []]]) := by
  have h1 := copy_ac root hr
  refine AC.N Tryz.func5 Tryz.ntmps5 ?_
  intro X hρ hmks
  simp only [nx, Nat.reduceAdd, Nat.reduceSub, BEq.rfl]
  refine CP.gh gh_slot ?_; simp only [nx, Nat.reduceAdd, Nat.reduceSub, BEq.rfl]
  refine CP.gh gh_slot ?_; simp only [nx, Nat.reduceAdd, Nat.reduceSub, BEq.rfl]
  repeat' (first | ((first | ((with_reducible apply AP.k_any); first | fail | (refine AP.gh (gh_nilc (j := 1) (u := 1) (off := 3) (e := tDs) (k := 4) rfl rfl) ?_) | refine AP.ST ?_ | (refine AP.Y ?_; dsimp only) | refine AP.G (fun hg => ?_) (fun hg => ?_) | (refine AP.V (fun c hnil => ?_); simp only [nz]) | refine AP.PF ?_)) <;> (try simp only [ nx, mx, rn, fq, Nat.mul_one, Bool.and_true, Bool.and_false, Nat.reduceBEq, Nat.reduceAdd, Nat.reduceSub, BEq.rfl])) | ((with_reducible apply AP.k_nil); first | (refine AP.nil (hQ' _ ?_); clear hQ' Q') | refine AP.nil ?_) | ((with_reducible apply CP.k_reg); refine cp_regG fun Q' hQ' => ?_) | refine CP.W ?_ | refine cp_cond rfl (fun hc => ?_) (fun hc => ?_) | (simp only [List.append_eq, List.cons_append, List.nil_append]))
  exact RetQ.A [(1, 1)] (by exact ⟨rfl, rfl⟩) (ho := by ((repeat' (first | exact Out.nil | apply Out.cons rfl | exact ClsC.nil | apply ClsC.nl | apply ClsC.leaf rfl | apply ClsC.hd rfl | apply ClsC.ob rfl | apply ClsC.mo rfl | apply ClsC.mp rfl | apply ClsC.hp rfl | apply ClsC.fn | apply ClsC.fz rfl (ro_B _) | apply ClsC.fz rfl (ro_M _) | apply ClsC.fz rfl (ro_E _ _) | apply ClsC.fz rfl rfl)); all_goals fail))
theorem dnew19_ac (root : List UInt8) (who boot : Int) (hr : root.length ≤ 100000000) : AC Tryz.prog 5 [bs none root, I who, I boot] [] (fun v bs' => v = .bp 0 0 0 ∧ bs' = [deX ⟨root, who, boot, []⟩]) := dnew19_ac' root who boot hr
theorem at_lt {α : Type} {s : Sd} : ∀ {l : List (Sd × α)} {n : Nat}, at_ s l = some n → ∀ i, i < n → ∀ p, l[i]? = some p → s ≠ p.1
  | [], _, h, _, _, _, _ => by simp [at_] at h
  | q :: l, n, h, i, hi, p, hp => by
    unfold at_ at h
    split at h
    · injection h with h; omega
    · rename_i hq
      obtain ⟨m, hm, rfl⟩ := Option.map_eq_some_iff.1 h
      cases i with
      | zero => simp at hp; subst hp; exact hq
      | succ i => exact at_lt hm i (by omega) p (by simpa using hp)
theorem puts_same {α : Type} {s : Sd} {d : α} : ∀ {l : List (Sd × α)} {n : Nat}, at_ s l = some n → puts s l (got s l d) = l
  | [], _, h => by simp [at_] at h
  | q :: l, n, h => by
    rw [puts_cons, got_cons]
    by_cases hq : s = q.1
    · rw [if_pos hq, if_pos hq, hq]
    · rw [if_neg hq, if_neg hq]
      unfold at_ at h
      rw [if_neg hq] at h
      obtain ⟨m, hm, rfl⟩ := Option.map_eq_some_iff.1 h
      rw [puts_same hm]
def idx (s : Sd) (y : De) : Nat := match at_ s y.l with
  | some n => n
  | none => y.l.length
theorem dside_some (y : De) (who epoch : Int) (hl : y.l.length ≤ 1000) {n : Nat} (h : at_ (who, epoch) y.l = some n) : AC Tryz.prog 19 [.bp 0 0 0, I who, I epoch] [deX y] (fun v bs' => v = I n ∧ bs' = [deX y]) := by
  obtain ⟨v, hv⟩ := at_some h
  have hn : n < y.l.length := (List.getElem?_eq_some_iff.1 hv).1
  have hlt := at_lt h
  refine AC.N Tryz.func19 Tryz.ntmps19 ?_
  intro X hρ hmks
  simp only [nx, Nat.reduceAdd, Nat.reduceSub, BEq.rfl]
  repeat' (first | ((first | ((with_reducible apply AP.k_any); first | refine AP.ST ?_ | (refine AP.Y ?_; dsimp only) | refine AP.G (fun hg => ?_) (fun hg => ?_) | (refine AP.V (fun c hnil => ?_); simp only [nz])  | refine AP.PF ?_) | ((with_reducible apply DW.k_any); first | refine DW.ST ?_ | ((fail_if_success refine DW.known rfl ?_); refine DW.G (fun hg => ?_) (fun hg => ?_))) | ((with_reducible apply DW.k_any); first | refine DW.R ?_ | refine DW.R' ?_ | refine DW.W ?_ | refine DW.W' ?_ | (refine DW.known rfl ?_; (with_reducible first | apply DW.sx 2 | apply DW.sxN 2); (iterate 2 (focus (simp only [ft, nm, Nat.reduceAdd, Nat.reduceBEq, List.getElem?_cons_zero, List.getElem?_cons_succ]; exact rfl))); (focus (intro X V; simp only [ft, nm, Nat.reduceAdd, Nat.reduceBEq]; (try (refine AP.Y ?_; dsimp only)); (first  | fail); (try simp only [nx, Nat.reduceAdd, Nat.reduceSub, BEq.rfl]); refine AP.nil ?_; (first | refine ⟨trivial, rfl, ?_⟩ | refine ⟨rfl, rfl, ?_⟩); (repeat' (first | exact Mg.nil | apply Mg.keep rfl | apply Mg.take rfl)); done)); (focus (refine Exists.intro (fun _ => 0) ?_; apply Exists.intro; (repeat' (first | exact Mg.nil | apply Mg.keep rfl | apply Mg.take rfl)); done)); (iterate 2 (focus (exact rfl)))) | ((fail_if_success refine DW.known rfl ?_); refine DW.G (fun hg => ?_) (fun hg => ?_)))) <;> (try simp only [ nx, mx, rn, fq, Nat.mul_one, Bool.and_true, Bool.and_false, Nat.reduceBEq, Nat.reduceAdd, Nat.reduceSub, BEq.rfl])) | ((with_reducible apply AP.k_nil); first | (refine AP.nil (hQ' _ ?_); clear hQ' Q') | refine AP.nil ?_) | ((with_reducible apply CP.k_drw); refine cp_drwX fun Q' hQ' => ?_) | ((with_reducible apply CP.k_drw1); refine cp_drawX ?_) | ((with_reducible apply DW.k_nil); refine DW.nl ?_; first | (refine hQ' _ ?_; clear hQ' Q') | skip) | ((with_reducible apply CP.k_reg); refine cp_regG fun Q' hQ' => ?_) | refine CP.W ?_ | refine cp_cond rfl (fun hc => ?_) (fun hc => ?_) | (simp only [List.append_eq, List.cons_append, List.nil_append]))
  refine cp_loopS [6, 7, 8, 9, 10, 11, 12, 13, 14, 15, 16, 17, 18, 19, 20, 21, 22, 23, 24, 25, 26, 27, 28, 29, 30, 31, 32, 33, 34, 35, 36, 37, 38, 39] (fun a : Nat => n - a) (fun a => a ≤ n) (fun a => [(7, I a)]) (fun a => []) 0 (Nat.zero_le _) (by exact Gh.W) ?_
  intro a ha
  simp only [setT, deT, setB, List.set_cons_succ, List.set_cons_zero]
  have hal : a < y.l.length := by omega
  have q1 : decide ((a : Int) < (y.l.length : Int)) = true := by simp; omega
  have q2 : IntKind.i64.wrap ((a : Int) + 1) = ((a + 1 : Nat) : Int) := wrap_i64 (by omega) (by omega)
  by_cases he : a = n
  · subst he
    have hr : (y.l.map sdC)[a]? = some [I who, I epoch, I v.1, .ob tDw (dwC v.2)] := by rw [List.getElem?_map, hv]; rfl
    have q3 : (who == who) = true := by simp
    have q4 : (epoch == epoch) = true := by simp
    repeat' (first | ((first | ((with_reducible apply AP.k_any); first | refine AP.ST ?_ | (refine AP.Y ?_; dsimp only) | refine AP.G (fun hg => ?_) (fun hg => ?_) | (refine AP.V (fun c hnil => ?_); simp only [nz])  | refine AP.PF ?_) | ((with_reducible apply DW.k_any); first | refine DW.ST ?_ | ((fail_if_success refine DW.known rfl ?_); refine DW.G (fun hg => ?_) (fun hg => ?_))) | ((with_reducible apply DW.k_any); first | refine DW.R ?_ | refine DW.R' ?_ | refine DW.W ?_ | refine DW.W' ?_ | (refine DW.known rfl ?_; (with_reducible first | apply DW.sx 2 | apply DW.sxN 2); (iterate 2 (focus (simp only [ft, nm, Nat.reduceAdd, Nat.reduceBEq, List.getElem?_cons_zero, List.getElem?_cons_succ]; exact rfl))); (focus (intro X V; simp only [ft, nm, Nat.reduceAdd, Nat.reduceBEq]; (try (refine AP.Y ?_; dsimp only)); (first  | fail); (try simp only [nx, Nat.reduceAdd, Nat.reduceSub, BEq.rfl]); refine AP.nil ?_; (first | refine ⟨trivial, rfl, ?_⟩ | refine ⟨rfl, rfl, ?_⟩); (repeat' (first | exact Mg.nil | apply Mg.keep rfl | apply Mg.take rfl)); done)); (focus (refine Exists.intro (fun _ => 0) ?_; apply Exists.intro; (repeat' (first | exact Mg.nil | apply Mg.keep rfl | apply Mg.take rfl)); done)); (iterate 2 (focus (exact rfl)))) | ((fail_if_success refine DW.known rfl ?_); refine DW.G (fun hg => ?_) (fun hg => ?_)))) <;> (try simp only [q1, q2, q3, q4, List.length_map, nx, mx, rn, fq, Nat.mul_one, Bool.and_true, Bool.and_false, Nat.reduceBEq, Nat.reduceAdd, Nat.reduceSub, BEq.rfl])) | ((with_reducible apply AP.k_nil); first | (refine AP.nil (hQ' _ ?_); clear hQ' Q') | refine AP.nil ?_) | ((with_reducible apply CP.k_drw); refine cp_drwX fun Q' hQ' => ?_) | ((with_reducible apply CP.k_drw1); refine cp_drawX ?_) | ((with_reducible apply DW.k_nil); refine DW.nl ?_; first | (refine hQ' _ ?_; clear hQ' Q') | skip) | ((with_reducible apply CP.k_reg); refine cp_regG fun Q' hQ' => ?_) | refine CP.W ?_ | refine cp_cond rfl (fun hc => ?_) (fun hc => ?_) | (simp only [List.append_eq, List.cons_append, List.nil_append]))
    (exact RetQ.A [(0, 0)] (by exact ⟨rfl, rfl⟩))
  · have hne := hlt a (by omega) y.l[a] (List.getElem?_eq_getElem hal)
    have hr : (y.l.map sdC)[a]? = some [I y.l[a].1.1, I y.l[a].1.2, I y.l[a].2.1, .ob tDw (dwC y.l[a].2.2)] := by rw [List.getElem?_map, List.getElem?_eq_getElem hal]; rfl
    by_cases hw : y.l[a].1.1 = who
    · have q3 : (y.l[a].1.1 == who) = true := by simp [hw]
      have q4 : (y.l[a].1.2 == epoch) = false := by
        rw [beq_eq_false_iff_ne]
        intro hx
        exact hne (by rw [← hw, ← hx])
      repeat' (first | ((first | ((with_reducible apply AP.k_any); first | refine AP.ST ?_ | (refine AP.Y ?_; dsimp only) | refine AP.G (fun hg => ?_) (fun hg => ?_) | (refine AP.V (fun c hnil => ?_); simp only [nz])  | refine AP.PF ?_) | ((with_reducible apply DW.k_any); first | refine DW.ST ?_ | ((fail_if_success refine DW.known rfl ?_); refine DW.G (fun hg => ?_) (fun hg => ?_))) | ((with_reducible apply DW.k_any); first | refine DW.R ?_ | refine DW.R' ?_ | refine DW.W ?_ | refine DW.W' ?_ | (refine DW.known rfl ?_; (with_reducible first | apply DW.sx 2 | apply DW.sxN 2); (iterate 2 (focus (simp only [ft, nm, Nat.reduceAdd, Nat.reduceBEq, List.getElem?_cons_zero, List.getElem?_cons_succ]; exact rfl))); (focus (intro X V; simp only [ft, nm, Nat.reduceAdd, Nat.reduceBEq]; (try (refine AP.Y ?_; dsimp only)); (first  | fail); (try simp only [nx, Nat.reduceAdd, Nat.reduceSub, BEq.rfl]); refine AP.nil ?_; (first | refine ⟨trivial, rfl, ?_⟩ | refine ⟨rfl, rfl, ?_⟩); (repeat' (first | exact Mg.nil | apply Mg.keep rfl | apply Mg.take rfl)); done)); (focus (refine Exists.intro (fun _ => 0) ?_; apply Exists.intro; (repeat' (first | exact Mg.nil | apply Mg.keep rfl | apply Mg.take rfl)); done)); (iterate 2 (focus (exact rfl)))) | ((fail_if_success refine DW.known rfl ?_); refine DW.G (fun hg => ?_) (fun hg => ?_)))) <;> (try simp only [q1, q2, q3, q4, List.length_map, nx, mx, rn, fq, Nat.mul_one, Bool.and_true, Bool.and_false, Nat.reduceBEq, Nat.reduceAdd, Nat.reduceSub, BEq.rfl])) | ((with_reducible apply AP.k_nil); first | (refine AP.nil (hQ' _ ?_); clear hQ' Q') | refine AP.nil ?_) | ((with_reducible apply CP.k_drw); refine cp_drwX fun Q' hQ' => ?_) | ((with_reducible apply CP.k_drw1); refine cp_drawX ?_) | ((with_reducible apply DW.k_nil); refine DW.nl ?_; first | (refine hQ' _ ?_; clear hQ' Q') | skip) | ((with_reducible apply CP.k_reg); refine cp_regG fun Q' hQ' => ?_) | refine CP.W ?_ | refine cp_cond rfl (fun hc => ?_) (fun hc => ?_) | (simp only [List.append_eq, List.cons_append, List.nil_append]))
      exact ⟨a + 1, by omega, by omega, by exact Gh.W⟩
    · have q3 : (y.l[a].1.1 == who) = false := by simp [hw]
      repeat' (first | ((first | ((with_reducible apply AP.k_any); first | refine AP.ST ?_ | (refine AP.Y ?_; dsimp only) | refine AP.G (fun hg => ?_) (fun hg => ?_) | (refine AP.V (fun c hnil => ?_); simp only [nz])  | refine AP.PF ?_) | ((with_reducible apply DW.k_any); first | refine DW.ST ?_ | ((fail_if_success refine DW.known rfl ?_); refine DW.G (fun hg => ?_) (fun hg => ?_))) | ((with_reducible apply DW.k_any); first | refine DW.R ?_ | refine DW.R' ?_ | refine DW.W ?_ | refine DW.W' ?_ | (refine DW.known rfl ?_; (with_reducible first | apply DW.sx 2 | apply DW.sxN 2); (iterate 2 (focus (simp only [ft, nm, Nat.reduceAdd, Nat.reduceBEq, List.getElem?_cons_zero, List.getElem?_cons_succ]; exact rfl))); (focus (intro X V; simp only [ft, nm, Nat.reduceAdd, Nat.reduceBEq]; (try (refine AP.Y ?_; dsimp only)); (first  | fail); (try simp only [nx, Nat.reduceAdd, Nat.reduceSub, BEq.rfl]); refine AP.nil ?_; (first | refine ⟨trivial, rfl, ?_⟩ | refine ⟨rfl, rfl, ?_⟩); (repeat' (first | exact Mg.nil | apply Mg.keep rfl | apply Mg.take rfl)); done)); (focus (refine Exists.intro (fun _ => 0) ?_; apply Exists.intro; (repeat' (first | exact Mg.nil | apply Mg.keep rfl | apply Mg.take rfl)); done)); (iterate 2 (focus (exact rfl)))) | ((fail_if_success refine DW.known rfl ?_); refine DW.G (fun hg => ?_) (fun hg => ?_)))) <;> (try simp only [q1, q2, q3, List.length_map, nx, mx, rn, fq, Nat.mul_one, Bool.and_true, Bool.and_false, Nat.reduceBEq, Nat.reduceAdd, Nat.reduceSub, BEq.rfl])) | ((with_reducible apply AP.k_nil); first | (refine AP.nil (hQ' _ ?_); clear hQ' Q') | refine AP.nil ?_) | ((with_reducible apply CP.k_drw); refine cp_drwX fun Q' hQ' => ?_) | ((with_reducible apply CP.k_drw1); refine cp_drawX ?_) | ((with_reducible apply DW.k_nil); refine DW.nl ?_; first | (refine hQ' _ ?_; clear hQ' Q') | skip) | ((with_reducible apply CP.k_reg); refine cp_regG fun Q' hQ' => ?_) | refine CP.W ?_ | refine cp_cond rfl (fun hc => ?_) (fun hc => ?_) | (simp only [List.append_eq, List.cons_append, List.nil_append]))
      exact ⟨a + 1, by omega, by omega, by exact Gh.W⟩
theorem dside_none (y : De) (who epoch : Int) (hl : y.l.length ≤ 1000) (h : at_ (who, epoch) y.l = none) : AC Tryz.prog 19 [.bp 0 0 0, I who, I epoch] [deX y] (fun v bs' => v = I y.l.length ∧ bs' = [deX { y with l := y.l ++ [((who, epoch), (0, Dw.new))] }]) := by
  have hno := at_none h
  have hnew := dnew18_ac
  refine AC.N Tryz.func19 Tryz.ntmps19 ?_
  intro X hρ hmks
  simp only [nx, Nat.reduceAdd, Nat.reduceSub, BEq.rfl]
  repeat' (first | ((first | ((with_reducible apply AP.k_any); first | refine AP.ST ?_ | (refine AP.Y ?_; dsimp only) | refine AP.G (fun hg => ?_) (fun hg => ?_) | (refine AP.V (fun c hnil => ?_); simp only [nz])  | refine AP.PF ?_) | ((with_reducible apply DW.k_any); first | refine DW.ST ?_ | ((fail_if_success refine DW.known rfl ?_); refine DW.G (fun hg => ?_) (fun hg => ?_))) | ((with_reducible apply DW.k_any); first | refine DW.R ?_ | refine DW.R' ?_ | refine DW.W ?_ | refine DW.W' ?_ | (refine DW.known rfl ?_; (with_reducible first | apply DW.sx 2 | apply DW.sxN 2); (iterate 2 (focus (simp only [ft, nm, Nat.reduceAdd, Nat.reduceBEq, List.getElem?_cons_zero, List.getElem?_cons_succ]; exact rfl))); (focus (intro X V; simp only [ft, nm, Nat.reduceAdd, Nat.reduceBEq]; (try (refine AP.Y ?_; dsimp only)); (first  | fail); (try simp only [nx, Nat.reduceAdd, Nat.reduceSub, BEq.rfl]); refine AP.nil ?_; (first | refine ⟨trivial, rfl, ?_⟩ | refine ⟨rfl, rfl, ?_⟩); (repeat' (first | exact Mg.nil | apply Mg.keep rfl | apply Mg.take rfl)); done)); (focus (refine Exists.intro (fun _ => 0) ?_; apply Exists.intro; (repeat' (first | exact Mg.nil | apply Mg.keep rfl | apply Mg.take rfl)); done)); (iterate 2 (focus (exact rfl)))) | ((fail_if_success refine DW.known rfl ?_); refine DW.G (fun hg => ?_) (fun hg => ?_)))) <;> (try simp only [ nx, mx, rn, fq, Nat.mul_one, Bool.and_true, Bool.and_false, Nat.reduceBEq, Nat.reduceAdd, Nat.reduceSub, BEq.rfl])) | ((with_reducible apply AP.k_nil); first | (refine AP.nil (hQ' _ ?_); clear hQ' Q') | refine AP.nil ?_) | ((with_reducible apply CP.k_drw); refine cp_drwX fun Q' hQ' => ?_) | ((with_reducible apply CP.k_drw1); refine cp_drawX ?_) | ((with_reducible apply DW.k_nil); refine DW.nl ?_; first | (refine hQ' _ ?_; clear hQ' Q') | skip) | ((with_reducible apply CP.k_reg); refine cp_regG fun Q' hQ' => ?_) | refine CP.W ?_ | refine cp_cond rfl (fun hc => ?_) (fun hc => ?_) | (simp only [List.append_eq, List.cons_append, List.nil_append]))
  refine CP.gh gh_slot ?_; simp only [nx, Nat.reduceAdd, Nat.reduceSub, BEq.rfl]
  refine CP.gh gh_slot ?_; simp only [nx, Nat.reduceAdd, Nat.reduceSub, BEq.rfl]
  refine cp_loopS [6, 7, 8, 9, 10, 11, 12, 13, 14, 15, 16, 17, 18, 19, 20, 21, 22, 23, 24, 25, 26, 27, 28, 29, 30, 31, 32, 33, 34, 35, 36, 37, 38, 39] (fun a : Nat => y.l.length - a) (fun a => a ≤ y.l.length) (fun a => [(7, I a)]) (fun a => []) 0 (Nat.zero_le _) (by exact Gh.W) ?_
  intro a ha
  simp only [setT, deT, setB, List.set_cons_succ, List.set_cons_zero]
  by_cases hal : a < y.l.length
  · have q1 : decide ((a : Int) < (y.l.length : Int)) = true := by simp; omega
    have q2 : IntKind.i64.wrap ((a : Int) + 1) = ((a + 1 : Nat) : Int) := wrap_i64 (by omega) (by omega)
    have hne := hno y.l[a] (List.getElem_mem hal)
    have hr : (y.l.map sdC)[a]? = some [I y.l[a].1.1, I y.l[a].1.2, I y.l[a].2.1, .ob tDw (dwC y.l[a].2.2)] := by rw [List.getElem?_map, List.getElem?_eq_getElem hal]; rfl
    by_cases hw : y.l[a].1.1 = who
    · have q3 : (y.l[a].1.1 == who) = true := by simp [hw]
      have q4 : (y.l[a].1.2 == epoch) = false := by
        rw [beq_eq_false_iff_ne]
        intro hx
        exact hne (by rw [← hw, ← hx])
      repeat' (first | ((first | ((with_reducible apply AP.k_any); first | refine AP.ST ?_ | (refine AP.Y ?_; dsimp only) | refine AP.G (fun hg => ?_) (fun hg => ?_) | (refine AP.V (fun c hnil => ?_); simp only [nz])  | refine AP.PF ?_) | ((with_reducible apply DW.k_any); first | refine DW.ST ?_ | ((fail_if_success refine DW.known rfl ?_); refine DW.G (fun hg => ?_) (fun hg => ?_))) | ((with_reducible apply DW.k_any); first | refine DW.R ?_ | refine DW.R' ?_ | refine DW.W ?_ | refine DW.W' ?_ | (refine DW.known rfl ?_; (with_reducible first | apply DW.sx 2 | apply DW.sxN 2); (iterate 2 (focus (simp only [ft, nm, Nat.reduceAdd, Nat.reduceBEq, List.getElem?_cons_zero, List.getElem?_cons_succ]; exact rfl))); (focus (intro X V; simp only [ft, nm, Nat.reduceAdd, Nat.reduceBEq]; (try (refine AP.Y ?_; dsimp only)); (first  | fail); (try simp only [nx, Nat.reduceAdd, Nat.reduceSub, BEq.rfl]); refine AP.nil ?_; (first | refine ⟨trivial, rfl, ?_⟩ | refine ⟨rfl, rfl, ?_⟩); (repeat' (first | exact Mg.nil | apply Mg.keep rfl | apply Mg.take rfl)); done)); (focus (refine Exists.intro (fun _ => 0) ?_; apply Exists.intro; (repeat' (first | exact Mg.nil | apply Mg.keep rfl | apply Mg.take rfl)); done)); (iterate 2 (focus (exact rfl)))) | ((fail_if_success refine DW.known rfl ?_); refine DW.G (fun hg => ?_) (fun hg => ?_)))) <;> (try simp only [q1, q2, q3, q4, List.length_map, nx, mx, rn, fq, Nat.mul_one, Bool.and_true, Bool.and_false, Nat.reduceBEq, Nat.reduceAdd, Nat.reduceSub, BEq.rfl])) | ((with_reducible apply AP.k_nil); first | (refine AP.nil (hQ' _ ?_); clear hQ' Q') | refine AP.nil ?_) | ((with_reducible apply CP.k_drw); refine cp_drwX fun Q' hQ' => ?_) | ((with_reducible apply CP.k_drw1); refine cp_drawX ?_) | ((with_reducible apply DW.k_nil); refine DW.nl ?_; first | (refine hQ' _ ?_; clear hQ' Q') | skip) | ((with_reducible apply CP.k_reg); refine cp_regG fun Q' hQ' => ?_) | refine CP.W ?_ | refine cp_cond rfl (fun hc => ?_) (fun hc => ?_) | (simp only [List.append_eq, List.cons_append, List.nil_append]))
      exact ⟨a + 1, by omega, by omega, by exact Gh.W⟩
    · have q3 : (y.l[a].1.1 == who) = false := by simp [hw]
      repeat' (first | ((first | ((with_reducible apply AP.k_any); first | refine AP.ST ?_ | (refine AP.Y ?_; dsimp only) | refine AP.G (fun hg => ?_) (fun hg => ?_) | (refine AP.V (fun c hnil => ?_); simp only [nz])  | refine AP.PF ?_) | ((with_reducible apply DW.k_any); first | refine DW.ST ?_ | ((fail_if_success refine DW.known rfl ?_); refine DW.G (fun hg => ?_) (fun hg => ?_))) | ((with_reducible apply DW.k_any); first | refine DW.R ?_ | refine DW.R' ?_ | refine DW.W ?_ | refine DW.W' ?_ | (refine DW.known rfl ?_; (with_reducible first | apply DW.sx 2 | apply DW.sxN 2); (iterate 2 (focus (simp only [ft, nm, Nat.reduceAdd, Nat.reduceBEq, List.getElem?_cons_zero, List.getElem?_cons_succ]; exact rfl))); (focus (intro X V; simp only [ft, nm, Nat.reduceAdd, Nat.reduceBEq]; (try (refine AP.Y ?_; dsimp only)); (first  | fail); (try simp only [nx, Nat.reduceAdd, Nat.reduceSub, BEq.rfl]); refine AP.nil ?_; (first | refine ⟨trivial, rfl, ?_⟩ | refine ⟨rfl, rfl, ?_⟩); (repeat' (first | exact Mg.nil | apply Mg.keep rfl | apply Mg.take rfl)); done)); (focus (refine Exists.intro (fun _ => 0) ?_; apply Exists.intro; (repeat' (first | exact Mg.nil | apply Mg.keep rfl | apply Mg.take rfl)); done)); (iterate 2 (focus (exact rfl)))) | ((fail_if_success refine DW.known rfl ?_); refine DW.G (fun hg => ?_) (fun hg => ?_)))) <;> (try simp only [q1, q2, q3, List.length_map, nx, mx, rn, fq, Nat.mul_one, Bool.and_true, Bool.and_false, Nat.reduceBEq, Nat.reduceAdd, Nat.reduceSub, BEq.rfl])) | ((with_reducible apply AP.k_nil); first | (refine AP.nil (hQ' _ ?_); clear hQ' Q') | refine AP.nil ?_) | ((with_reducible apply CP.k_drw); refine cp_drwX fun Q' hQ' => ?_) | ((with_reducible apply CP.k_drw1); refine cp_drawX ?_) | ((with_reducible apply DW.k_nil); refine DW.nl ?_; first | (refine hQ' _ ?_; clear hQ' Q') | skip) | ((with_reducible apply CP.k_reg); refine cp_regG fun Q' hQ' => ?_) | refine CP.W ?_ | refine cp_cond rfl (fun hc => ?_) (fun hc => ?_) | (simp only [List.append_eq, List.cons_append, List.nil_append]))
      exact ⟨a + 1, by omega, by omega, by exact Gh.W⟩
  · obtain rfl : a = y.l.length := by omega
    have q1 : decide ((y.l.length : Int) < (y.l.length : Int)) = false := by simp
    have hl1 : (y.l.map sdC).length + 1 ≤ 1000000000 := by rw [List.length_map]; omega
    have hx : (y.l ++ [((who, epoch), ((0 : Int), Dw.new))]).map sdC = y.l.map sdC ++ [[I who, I epoch, I 0, .ob tDw (dwC Dw.new)]] := List.map_append
    have q5 : IntKind.i64.wrap (((y.l.length + 1 : Nat) : Int) - 1) = (y.l.length : Int) := by rw [wrap_i64 (by omega) (by omega)]; omega
    repeat' (first | ((first | ((with_reducible apply AP.k_any); first | refine AP.ST ?_ | (refine AP.Y ?_; dsimp only) | refine AP.G (fun hg => ?_) (fun hg => ?_) | (refine AP.V (fun c hnil => ?_); simp only [nz])  | refine AP.PF ?_) | ((with_reducible apply DW.k_any); first | refine DW.ST ?_ | ((fail_if_success refine DW.known rfl ?_); refine DW.G (fun hg => ?_) (fun hg => ?_))) | ((with_reducible apply DW.k_any); first | refine DW.R ?_ | refine DW.R' ?_ | refine DW.W ?_ | refine DW.W' ?_ | (refine DW.known rfl ?_; (with_reducible first | apply DW.sx 2 | apply DW.sxN 2); (iterate 2 (focus (simp only [ft, nm, Nat.reduceAdd, Nat.reduceBEq, List.getElem?_cons_zero, List.getElem?_cons_succ]; exact rfl))); (focus (intro X V; simp only [ft, nm, Nat.reduceAdd, Nat.reduceBEq]; (try (refine AP.Y ?_; dsimp only)); (first  | fail); (try simp only [nx, Nat.reduceAdd, Nat.reduceSub, BEq.rfl]); refine AP.nil ?_; (first | refine ⟨trivial, rfl, ?_⟩ | refine ⟨rfl, rfl, ?_⟩); (repeat' (first | exact Mg.nil | apply Mg.keep rfl | apply Mg.take rfl)); done)); (focus (refine Exists.intro (fun _ => 0) ?_; apply Exists.intro; (repeat' (first | exact Mg.nil | apply Mg.keep rfl | apply Mg.take rfl)); done)); (iterate 2 (focus (exact rfl)))) | ((fail_if_success refine DW.known rfl ?_); refine DW.G (fun hg => ?_) (fun hg => ?_)))) <;> (try simp only [q1, q5, List.length_map, List.length_append, List.length_singleton, nx, mx, rn, fq, Nat.mul_one, Bool.and_true, Bool.and_false, Nat.reduceBEq, Nat.reduceAdd, Nat.reduceSub, BEq.rfl])) | ((with_reducible apply AP.k_nil); first | (refine AP.nil (hQ' _ ?_); clear hQ' Q') | refine AP.nil ?_) | ((with_reducible apply CP.k_drw); refine cp_drwX fun Q' hQ' => ?_) | ((with_reducible apply CP.k_drw1); refine cp_drawX ?_) | ((with_reducible apply DW.k_nil); refine DW.nl ?_; first | (refine hQ' _ ?_; clear hQ' Q') | skip) | ((with_reducible apply CP.k_reg); refine cp_regG fun Q' hQ' => ?_) | refine CP.W ?_ | refine cp_cond rfl (fun hc => ?_) (fun hc => ?_) | (simp only [List.append_eq, List.cons_append, List.nil_append]))
    (exact RetQ.A [(0, 0)] (by exact ⟨rfl, congrArg (fun r => [Bx.c tDe [bs none y.root, I y.who, I y.boot, .sl (some tDs) 4 r]]) hx.symm⟩))
theorem dside_ac (y : De) (who epoch : Int) (hl : y.l.length ≤ 1000) : AC Tryz.prog 19 [.bp 0 0 0, I who, I epoch] [deX y] (fun v bs' => v = I (idx (who, epoch) y) ∧ bs' = [deX (y.put (who, epoch) (y.at (who, epoch)))]) := by
  cases h : at_ (who, epoch) y.l with
  | none =>
    have e1 : idx (who, epoch) y = y.l.length := by unfold idx; rw [h]
    have e2 : y.put (who, epoch) (y.at (who, epoch)) = { y with l := y.l ++ [((who, epoch), (0, Dw.new))] } := by
      unfold De.put puts De.at got
      rw [h]
    rw [e1, e2]
    exact dside_none y who epoch hl h
  | some n =>
    have e1 : idx (who, epoch) y = n := by unfold idx; rw [h]
    have e2 : y.put (who, epoch) (y.at (who, epoch)) = y := by
      unfold De.put De.at
      rw [puts_same h]
    rw [e1, e2]
    exact dside_some y who epoch hl h
end Go.Proofs.YtnjfchigdpifmaaGreat

namespace Go.Proofs.YtnjfchigdpifmaaGreat
set_option linter.unusedVariables false
set_option linter.unusedSimpArgs false
set_option maxHeartbeats 8000000
open Go.RowKit
set_option maxRecDepth 100000
theorem puts_idx {y : De} (s : Sd) (v : Int × Dw) : (puts s y.l v)[idx s y]? = some (s, v) := by
  unfold puts idx
  cases h : at_ s y.l with
  | none => simp
  | some n =>
    obtain ⟨x, hx⟩ := at_some h
    have := (List.getElem?_eq_some_iff.1 hx).1
    simp [this]
theorem puts_set {y : De} (s : Sd) (v w : Int × Dw) : (puts s y.l v).set (idx s y) (s, w) = puts s y.l w := by
  unfold puts idx
  cases h : at_ s y.l with
  | none => simp
  | some n => simp
theorem puts_len {y : De} (s : Sd) (v : Int × Dw) : (puts s y.l v).length ≤ y.l.length + 1 ∧ idx s y < (puts s y.l v).length := by
  refine ⟨?_, (List.getElem?_eq_some_iff.1 (puts_idx s v)).1⟩
  unfold puts
  cases at_ s y.l <;> simp
def De.sealed (y : De) (to epoch : Int) (body : List UInt8) : Pkt := { y.pkt to epoch body with tag := tagS y.root (y.pkt to epoch body) }
theorem dsend_ac (y : De) (to epoch : Int) (body : List UInt8) (hl : y.l.length ≤ 1000) (hr : y.root.length ≤ 10000) (hb : body.length ≤ 60000) (hn : 0 ≤ (y.at (to, epoch)).1 ∧ (y.at (to, epoch)).1 ≤ 1000000000) :
    AC Tryz.prog 8 [.bp 0 0 0, I to, I epoch, bs none body] [deX y] (fun v bs' => v = .tu [bs none (y.send to epoch body).1.1, I (y.send to epoch body).1.2] ∧ bs' = [deX (y.send to epoch body).2]) := by
  have h1 := dside_ac y to epoch hl
  have h2 := dmayP_ac (y.pkt to epoch body)
  have hw : IntKind.i64.wrap ((y.at (to, epoch)).1 + 1) = (y.at (to, epoch)).1 + 1 := wrap_i64 (by omega) (by omega)
  obtain ⟨hl2, hl3⟩ := puts_len (y := y) (to, epoch) (y.at (to, epoch))
  have hro : ((puts (to, epoch) y.l (y.at (to, epoch))).map sdC)[idx (to, epoch) y]? = some [I to, I epoch, I (y.at (to, epoch)).1, .ob tDw (dwC (y.at (to, epoch)).2)] := by
    rw [List.getElem?_map, puts_idx]; rfl
  unfold De.put at h1
  cases hm : mayP (y.pkt to epoch body) with
  | false =>
    have e : y.send to epoch body = (([], 2), y.put (to, epoch) (y.at (to, epoch))) := if_neg (by rw [hm]; simp)
    rw [e]
    rw [hm] at h2
    unfold De.pkt at *
    rw [eP_z] at h2
    unfold De.put
    clear e
    generalize y.at (to, epoch) = v at *
    generalize puts (to, epoch) y.l v = L at *
    generalize idx (to, epoch) y = i at *
    refine AC.N Tryz.func8 Tryz.ntmps8 ?_
    intro X hρ hmks
    simp only [nx, Nat.reduceAdd, Nat.reduceSub, BEq.rfl]
    refine CP.gh gh_slot ?_; simp only [nx, Nat.reduceAdd, Nat.reduceSub, BEq.rfl]
    refine CP.gh gh_slot ?_; simp only [nx, Nat.reduceAdd, Nat.reduceSub, BEq.rfl]
    refine CP.gh gh_slot ?_; simp only [nx, Nat.reduceAdd, Nat.reduceSub, BEq.rfl]
    repeat' (first | ((first | ((with_reducible apply AP.k_any); first | refine AP.ST ?_ | (refine AP.Y ?_; dsimp only) | refine AP.G (fun hg => ?_) (fun hg => ?_) | (refine AP.V (fun c hnil => ?_); simp only [nz]) | ((with_reducible apply AP.k_any); refine AP.B 0 (h1) ?_) | refine AP.PF ?_) | ((with_reducible apply DW.k_any); first | refine DW.ST ?_ | ((fail_if_success refine DW.known rfl ?_); refine DW.G (fun hg => ?_) (fun hg => ?_))) | ((with_reducible apply DW.k_any); first | refine DW.R ?_ | refine DW.R' ?_ | refine DW.W ?_ | refine DW.W' ?_ | (refine DW.known rfl ?_; (with_reducible first | apply DW.sx 2 | apply DW.sxN 2); (iterate 2 (focus (simp only [ft, nm, Nat.reduceAdd, Nat.reduceBEq, List.getElem?_cons_zero, List.getElem?_cons_succ]; exact rfl))); (focus (intro X V; simp only [ft, nm, Nat.reduceAdd, Nat.reduceBEq]; (try (refine AP.Y ?_; dsimp only)); (first | ((with_reducible apply AP.k_any); refine AP.B 0 (h1) ?_) | fail); (try simp only [nx, Nat.reduceAdd, Nat.reduceSub, BEq.rfl]); refine AP.nil ?_; (first | refine ⟨trivial, rfl, ?_⟩ | refine ⟨rfl, rfl, ?_⟩); (repeat' (first | exact Mg.nil | apply Mg.keep rfl | apply Mg.take rfl)); done)); (focus (refine Exists.intro (fun _ => 0) ?_; apply Exists.intro; (repeat' (first | exact Mg.nil | apply Mg.keep rfl | apply Mg.take rfl)); done)); (iterate 2 (focus (exact rfl)))) | ((fail_if_success refine DW.known rfl ?_); refine DW.G (fun hg => ?_) (fun hg => ?_)))) <;> (try simp only [hw, List.length_map, nx, mx, rn, fq, Nat.mul_one, Bool.and_true, Bool.and_false, Nat.reduceBEq, Nat.reduceAdd, Nat.reduceSub, BEq.rfl])) | ((with_reducible apply AP.k_nil); first | (refine AP.nil (hQ' _ ?_); clear hQ' Q') | refine AP.nil ?_) | ((with_reducible apply CP.k_drw); refine cp_drwX fun Q' hQ' => ?_) | ((with_reducible apply CP.k_drw1); refine cp_drawX ?_) | ((with_reducible apply DW.k_nil); refine DW.nl ?_; first | (refine hQ' _ ?_; clear hQ' Q') | skip) | ((with_reducible apply CP.k_reg); refine cp_regG fun Q' hQ' => ?_) | refine CP.W ?_ | refine cp_cond rfl (fun hc => ?_) (fun hc => ?_) | (simp only [List.append_eq, List.cons_append, List.nil_append]))
    (exact RetQ.A [(0, 0)] (by exact ⟨rfl, rfl⟩))
  | true =>
    have e : y.send to epoch body = ((headS (y.pkt to epoch body) ++ tagS y.root (y.pkt to epoch body), 0), y.put (to, epoch) ((y.at (to, epoch)).1 + 1, (y.at (to, epoch)).2)) := if_pos hm
    rw [e]
    rw [hm] at h2
    have h3 := dtagP_ac y.root (y.pkt to epoch body) hr hb
    have h4 := dpbytes_ac (y.sealed to epoch body) hb (tagS_len _ _)
    rw [show headS (y.sealed to epoch body) = headS (y.pkt to epoch body) from headS_tag _ _] at h4
    have hlen : (headS (y.pkt to epoch body) ++ tagS y.root (y.pkt to epoch body)).length ≤ 65536 := by
      rw [List.length_append, headS_len, tagS_len]; show _ + body.length + _ ≤ _; omega
    have hset : ((puts (to, epoch) y.l (y.at (to, epoch))).map sdC).set (idx (to, epoch) y) [I to, I epoch, I ((y.at (to, epoch)).1 + 1), .ob tDw (dwC (y.at (to, epoch)).2)] = (puts (to, epoch) y.l ((y.at (to, epoch)).1 + 1, (y.at (to, epoch)).2)).map sdC := by
      have := congrArg (List.map sdC) (puts_set (y := y) (to, epoch) (y.at (to, epoch)) ((y.at (to, epoch)).1 + 1, (y.at (to, epoch)).2))
      rw [List.map_set] at this
      exact this
    unfold De.put
    unfold De.sealed at h4
    generalize headS (y.pkt to epoch body) = hd at *
    generalize tagS y.root (y.pkt to epoch body) = T at *
    unfold De.pkt at *
    rw [eP_z] at h2 h3
    dsimp only at h4
    generalize hd ++ T = z at *
    have hd1 : decide ((65536 : Int) < (z.length : Int)) = false := by simp; omega
    clear e
    generalize puts (to, epoch) y.l ((y.at (to, epoch)).1 + 1, (y.at (to, epoch)).2) = L2 at *
    generalize y.at (to, epoch) = v at *
    generalize puts (to, epoch) y.l v = L at *
    generalize idx (to, epoch) y = i at *
    refine AC.N Tryz.func8 Tryz.ntmps8 ?_
    intro X hρ hmks
    simp only [nx, Nat.reduceAdd, Nat.reduceSub, BEq.rfl]
    refine CP.gh gh_slot ?_; simp only [nx, Nat.reduceAdd, Nat.reduceSub, BEq.rfl]
    refine CP.gh gh_slot ?_; simp only [nx, Nat.reduceAdd, Nat.reduceSub, BEq.rfl]
    refine CP.gh gh_slot ?_; simp only [nx, Nat.reduceAdd, Nat.reduceSub, BEq.rfl]
    repeat' (first | ((first | ((with_reducible apply AP.k_any); first | refine AP.ST ?_ | (refine AP.Y ?_; dsimp only) | refine AP.G (fun hg => ?_) (fun hg => ?_) | (refine AP.V (fun c hnil => ?_); simp only [nz]) | ((with_reducible apply AP.k_any); refine AP.B 0 (h1) ?_) | refine AP.PF ?_) | ((with_reducible apply DW.k_any); first | refine DW.ST ?_ | ((fail_if_success refine DW.known rfl ?_); refine DW.G (fun hg => ?_) (fun hg => ?_))) | ((with_reducible apply DW.k_any); first | refine DW.R ?_ | refine DW.R' ?_ | refine DW.W ?_ | refine DW.W' ?_ | (refine DW.known rfl ?_; (with_reducible first | apply DW.sx 2 | apply DW.sxN 2); (iterate 2 (focus (simp only [ft, nm, Nat.reduceAdd, Nat.reduceBEq, List.getElem?_cons_zero, List.getElem?_cons_succ]; exact rfl))); (focus (intro X V; simp only [ft, nm, Nat.reduceAdd, Nat.reduceBEq]; (try (refine AP.Y ?_; dsimp only)); (first | ((with_reducible apply AP.k_any); refine AP.B 0 (h1) ?_) | fail); (try simp only [nx, Nat.reduceAdd, Nat.reduceSub, BEq.rfl]); refine AP.nil ?_; (first | refine ⟨trivial, rfl, ?_⟩ | refine ⟨rfl, rfl, ?_⟩); (repeat' (first | exact Mg.nil | apply Mg.keep rfl | apply Mg.take rfl)); done)); (focus (refine Exists.intro (fun _ => 0) ?_; apply Exists.intro; (repeat' (first | exact Mg.nil | apply Mg.keep rfl | apply Mg.take rfl)); done)); (iterate 2 (focus (exact rfl)))) | ((fail_if_success refine DW.known rfl ?_); refine DW.G (fun hg => ?_) (fun hg => ?_)))) <;> (try simp only [hw, hd1, List.length_map, nx, mx, rn, fq, Nat.mul_one, Bool.and_true, Bool.and_false, Nat.reduceBEq, Nat.reduceAdd, Nat.reduceSub, BEq.rfl])) | ((with_reducible apply AP.k_nil); first | (refine AP.nil (hQ' _ ?_); clear hQ' Q') | refine AP.nil ?_) | ((with_reducible apply CP.k_drw); refine cp_drwX fun Q' hQ' => ?_) | ((with_reducible apply CP.k_drw1); refine cp_drawX ?_) | ((with_reducible apply DW.k_nil); refine DW.nl ?_; first | (refine hQ' _ ?_; clear hQ' Q') | skip) | ((with_reducible apply CP.k_reg); refine cp_regG fun Q' hQ' => ?_) | refine CP.W ?_ | refine cp_cond rfl (fun hc => ?_) (fun hc => ?_) | (simp only [List.append_eq, List.cons_append, List.nil_append]))
    (exact RetQ.A [(0, 0)] (by exact ⟨rfl, congrArg (fun r => [Bx.c tDe [bs none y.root, I y.who, I y.boot, .sl (some tDs) 4 r]]) hset⟩))
end Go.Proofs.YtnjfchigdpifmaaGreat

namespace Go.Proofs.YtnjfchigdpifmaaGreat
set_option linter.unusedVariables false
set_option linter.unusedSimpArgs false
set_option maxHeartbeats 8000000
open Go.RowKit
set_option maxRecDepth 100000
theorem mayP_of {p : Pkt} (h : mayP p = true) : 1 ≤ p.epoch ∧ 0 ≤ p.boot ∧ 1 ≤ p.seqn := by
  simp only [mayP, Bool.and_eq_true, decide_eq_true_eq] at h
  exact ⟨h.1.1.2, h.1.2, h.2⟩
theorem take_two (w : Wn) (boot n : Int) (h0 : 0 ≤ boot) (h1 : 1 ≤ n) : w.take boot n = (0, w.after boot n) ∨ w.take boot n = (180, w) := by
  unfold Wn.take
  rw [if_neg (by omega)]
  split
  · exact .inl rfl
  · exact .inr rfl
theorem get_go (x : Ends) (b : List UInt8) (h : (parseP b).2 = 0) (h3 : (parseP b).1.to = x.who) (h4 : (parseP b).1.tag = tagS x.root (parseP b).1) :
    x.get b = (let p := (parseP b).1
    let t := (got (p.frm, p.epoch) x.wins Wn.new).take p.boot p.seqn
    let x' : Ends := { x with wins := puts (p.frm, p.epoch) x.wins t.2 }
    if t.1 ≠ 0 then ((pk0, t.1), x') else ((p, 0), x')) := by
  unfold Ends.get
  rw [if_neg (by rw [h, h3]; simp), if_neg (by rw [← h4]; simp)]
theorem get_new (x : Ends) (b : List UInt8) (hb : b.length ≤ 60000) (hr : x.root.length ≤ 10000) (h : (parseP b).2 = 0) (h3 : (parseP b).1.to = x.who) (h4 : (parseP b).1.tag = tagS x.root (parseP b).1) (hm : mayP (parseP b).1 = true)
    (ha : at_ ((parseP b).1.frm, (parseP b).1.epoch) x.wins = none) : AC Tryz.prog 10 [.bp 0 0 0, bs none b] [xE x] (fun v bs' => v = .tu [.ag (eP (x.get b).1.1), I (x.get b).1.2] ∧ bs' = [xE (x.get b).2]) := by
  rw [get_go x b h h3 h4]
  have h1 := lnone_ac x
  have h2 := parseP_ac b (by omega)
  have hbl := parseP_body b hb
  have htl := parseP_tag b
  have hsq := parseP_seqn b
  rw [h] at h2
  generalize (parseP b).1 = p at *
  have h5 := right_ac x.root p hr hbl htl
  rw [decide_eq_true h4] at h5
  obtain ⟨he, hbo, hs⟩ := mayP_of hm
  have hg : got (p.frm, p.epoch) x.wins Wn.new = Wn.new := by unfold got; rw [ha]
  have hp : ∀ w1, puts (p.frm, p.epoch) x.wins w1 = x.wins ++ [((p.frm, p.epoch), w1)] := fun w1 => by unfold puts; rw [ha]
  dsimp only
  rw [hg]
  have h6 := wnew18_ac
  have h7 := take18_ac Wn.new p.boot p.seqn hsq (by unfold Wn.ok Wn.new; decide)
  have hk := kinS x.wins
  have hk1 : ∀ k ∈ keyW x.wins ++ [.agg #[.int .i64 p.frm, .int .i64 p.epoch]], isKey Tryz.prog tSd [.i .i64, .i .i64] k = true := kin _ fun k hk => by
    rcases List.mem_append.1 hk with hk | hk
    · obtain ⟨p, _, rfl⟩ := List.mem_map.1 hk; exact ⟨_, rfl⟩
    · simp at hk; exact ⟨(p.frm, p.epoch), hk⟩
  have hf := fnd_at_ (p.frm, p.epoch) x.wins
  have hf1 : fnd (kS (p.frm, p.epoch)) (keyW x.wins ++ [.agg #[.int .i64 p.frm, .int .i64 p.epoch]]) = some x.wins.length := by
    rw [fnd_app (by rw [hf, ha])]
    have := kEq_kS (p.frm, p.epoch) (p.frm, p.epoch)
    rw [decide_eq_true rfl] at this
    simp [fnd, this]
  rw [ha] at hf
  have e1 : ∀ w1, xE { x with wins := puts (p.frm, p.epoch) x.wins w1 } = .c tEn [B true, bs none x.root, I x.who, I x.boot, .mo (keyN x.sent) (rowN x.sent), .mo (keyW x.wins ++ [.agg #[.int .i64 p.frm, .int .i64 p.epoch]]) ((rowW x.wins ++ [[AV.de]]).set x.wins.length [.ob tWn (wC w1)])] := fun w1 => by
    have e2 : (rowW x.wins ++ [[AV.de]]).set x.wins.length [.ob tWn (wC w1)] = rowW x.wins ++ [[.ob tWn (wC w1)]] := by
      rw [List.set_append_right _ _ (by simp)]; simp
    rw [e2, hp]
    simp only [xE, enE, keyW, rowW, List.map_append, List.map_cons, List.map_nil]
  have d1 : (p.to != x.who) = false := by simpa using h3
  clear h4 hp
  rcases take_two Wn.new p.boot p.seqn hbo hs with ht | ht
  · rw [ht] at h7 ⊢
    dsimp only at h7 ⊢
    generalize Wn.new.after p.boot p.seqn = w1 at *
    rw [if_neg (by decide)]
    dsimp only
    rw [e1]
    clear e1
    generalize Wn.new = w0 at *
    refine AC.N Tryz.func10 Tryz.ntmps10 ?_
    intro X hρ hmks
    simp only [nx, Nat.reduceAdd, Nat.reduceSub, BEq.rfl]
    refine CP.gh gh_slot ?_; simp only [nx, Nat.reduceAdd, Nat.reduceSub, BEq.rfl]
    refine CP.gh gh_slot ?_; simp only [nx, Nat.reduceAdd, Nat.reduceSub, BEq.rfl]
    refine CP.gh gh_slot ?_; simp only [nx, Nat.reduceAdd, Nat.reduceSub, BEq.rfl]
    refine CP.gh gh_slot ?_; simp only [nx, Nat.reduceAdd, Nat.reduceSub, BEq.rfl]
    refine CP.gh gh_slot ?_; simp only [nx, Nat.reduceAdd, Nat.reduceSub, BEq.rfl]
    repeat' (first | ((first | ((with_reducible apply AP.k_any); first | refine AP.ST ?_ | (refine AP.Y ?_; dsimp only) | refine AP.G (fun hg => ?_) (fun hg => ?_) | (refine AP.V (fun c hnil => ?_); simp only [nz]) | ((with_reducible apply AP.k_any); refine AP.B 1 (h6) ?_) | ((with_reducible apply AP.k_any); refine AP.B 0 (h7) ?_) | refine AP.PF ?_) | ((with_reducible apply DW.k_any); first | refine DW.ST ?_ | ((fail_if_success refine DW.known rfl ?_); refine DW.G (fun hg => ?_) (fun hg => ?_))) | ((with_reducible apply DW.k_any); first | refine DW.R ?_ | refine DW.R' ?_ | refine DW.W ?_ | refine DW.W' ?_ | (refine DW.known rfl ?_; (with_reducible first | apply DW.sx 2 | apply DW.sxN 2); (iterate 2 (focus (simp only [ft, nm, Nat.reduceAdd, Nat.reduceBEq, List.getElem?_cons_zero, List.getElem?_cons_succ]; exact rfl))); (focus (intro X V; simp only [ft, nm, Nat.reduceAdd, Nat.reduceBEq]; (try (refine AP.Y ?_; dsimp only)); (first | ((with_reducible apply AP.k_any); refine AP.B 1 (h6) ?_) | ((with_reducible apply AP.k_any); refine AP.B 0 (h7) ?_) | fail); (try simp only [nx, Nat.reduceAdd, Nat.reduceSub, BEq.rfl]); refine AP.nil ?_; (first | refine ⟨trivial, rfl, ?_⟩ | refine ⟨rfl, rfl, ?_⟩); (repeat' (first | exact Mg.nil | apply Mg.keep rfl | apply Mg.take rfl)); done)); (focus (refine Exists.intro (fun _ => 0) ?_; apply Exists.intro; (repeat' (first | exact Mg.nil | apply Mg.keep rfl | apply Mg.take rfl)); done)); (iterate 2 (focus (exact rfl)))) | ((fail_if_success refine DW.known rfl ?_); refine DW.G (fun hg => ?_) (fun hg => ?_)))) <;> (try simp only [d1, nx, mx, rn, fq, Nat.mul_one, Bool.and_true, Bool.and_false, Nat.reduceBEq, Nat.reduceAdd, Nat.reduceSub, BEq.rfl])) | ((with_reducible apply AP.k_nil); first | (refine AP.nil (hQ' _ ?_); clear hQ' Q') | refine AP.nil ?_) | ((with_reducible apply CP.k_drw); refine cp_drwX fun Q' hQ' => ?_) | ((with_reducible apply CP.k_drw1); refine cp_drawX ?_) | ((with_reducible apply DW.k_nil); refine DW.nl ?_; first | (refine hQ' _ ?_; clear hQ' Q') | skip) | ((with_reducible apply CP.k_reg); refine cp_regG fun Q' hQ' => ?_) | refine CP.W ?_ | refine cp_cond rfl (fun hc => ?_) (fun hc => ?_) | (simp only [List.append_eq, List.cons_append, List.nil_append]))
    (exact RetQ.A [(0, 0)] (by exact ⟨rfl, rfl⟩))
  · rw [ht] at h7 ⊢
    dsimp only at h7 ⊢
    rw [if_pos (by decide)]
    dsimp only
    rw [e1, pk0_eP, eP_z]
    clear e1
    generalize Wn.new = w0 at *
    refine AC.N Tryz.func10 Tryz.ntmps10 ?_
    intro X hρ hmks
    simp only [nx, Nat.reduceAdd, Nat.reduceSub, BEq.rfl]
    refine CP.gh gh_slot ?_; simp only [nx, Nat.reduceAdd, Nat.reduceSub, BEq.rfl]
    refine CP.gh gh_slot ?_; simp only [nx, Nat.reduceAdd, Nat.reduceSub, BEq.rfl]
    refine CP.gh gh_slot ?_; simp only [nx, Nat.reduceAdd, Nat.reduceSub, BEq.rfl]
    refine CP.gh gh_slot ?_; simp only [nx, Nat.reduceAdd, Nat.reduceSub, BEq.rfl]
    refine CP.gh gh_slot ?_; simp only [nx, Nat.reduceAdd, Nat.reduceSub, BEq.rfl]
    repeat' (first | ((first | ((with_reducible apply AP.k_any); first | refine AP.ST ?_ | (refine AP.Y ?_; dsimp only) | refine AP.G (fun hg => ?_) (fun hg => ?_) | (refine AP.V (fun c hnil => ?_); simp only [nz]) | ((with_reducible apply AP.k_any); refine AP.B 1 (h6) ?_) | ((with_reducible apply AP.k_any); refine AP.B 0 (h7) ?_) | refine AP.PF ?_) | ((with_reducible apply DW.k_any); first | refine DW.ST ?_ | ((fail_if_success refine DW.known rfl ?_); refine DW.G (fun hg => ?_) (fun hg => ?_))) | ((with_reducible apply DW.k_any); first | refine DW.R ?_ | refine DW.R' ?_ | refine DW.W ?_ | refine DW.W' ?_ | (refine DW.known rfl ?_; (with_reducible first | apply DW.sx 2 | apply DW.sxN 2); (iterate 2 (focus (simp only [ft, nm, Nat.reduceAdd, Nat.reduceBEq, List.getElem?_cons_zero, List.getElem?_cons_succ]; exact rfl))); (focus (intro X V; simp only [ft, nm, Nat.reduceAdd, Nat.reduceBEq]; (try (refine AP.Y ?_; dsimp only)); (first | ((with_reducible apply AP.k_any); refine AP.B 1 (h6) ?_) | ((with_reducible apply AP.k_any); refine AP.B 0 (h7) ?_) | fail); (try simp only [nx, Nat.reduceAdd, Nat.reduceSub, BEq.rfl]); refine AP.nil ?_; (first | refine ⟨trivial, rfl, ?_⟩ | refine ⟨rfl, rfl, ?_⟩); (repeat' (first | exact Mg.nil | apply Mg.keep rfl | apply Mg.take rfl)); done)); (focus (refine Exists.intro (fun _ => 0) ?_; apply Exists.intro; (repeat' (first | exact Mg.nil | apply Mg.keep rfl | apply Mg.take rfl)); done)); (iterate 2 (focus (exact rfl)))) | ((fail_if_success refine DW.known rfl ?_); refine DW.G (fun hg => ?_) (fun hg => ?_)))) <;> (try simp only [d1, nx, mx, rn, fq, Nat.mul_one, Bool.and_true, Bool.and_false, Nat.reduceBEq, Nat.reduceAdd, Nat.reduceSub, BEq.rfl])) | ((with_reducible apply AP.k_nil); first | (refine AP.nil (hQ' _ ?_); clear hQ' Q') | refine AP.nil ?_) | ((with_reducible apply CP.k_drw); refine cp_drwX fun Q' hQ' => ?_) | ((with_reducible apply CP.k_drw1); refine cp_drawX ?_) | ((with_reducible apply DW.k_nil); refine DW.nl ?_; first | (refine hQ' _ ?_; clear hQ' Q') | skip) | ((with_reducible apply CP.k_reg); refine cp_regG fun Q' hQ' => ?_) | refine CP.W ?_ | refine cp_cond rfl (fun hc => ?_) (fun hc => ?_) | (simp only [List.append_eq, List.cons_append, List.nil_append]))
    (exact RetQ.A [(0, 0)] (by exact ⟨rfl, rfl⟩))
end Go.Proofs.YtnjfchigdpifmaaGreat
