/-
  LAYER 24: going over, by the document.
-/
import Derived.Test.YtkdbedbefojieaaOver4
namespace Go.Proofs.Ytkdbedbefojieaa
set_option linter.unusedVariables false
set_option linter.unusedSimpArgs false
open Go.RowKit
set_option maxRecDepth 100000
attribute [local go_sem] gd_true

theorem atMS_some {t : Config} {node : Int} {j : Nat} {m : Member} (hmay : mayS t = true) (hm : t.members[j]? = some m) (hn : m.node = node) : atMS t node = (m, true) := by
  have hP := (mayS_iff t).1 hmay
  have h1 : atS t.members node = (j : Int) := by
    rw [← hn]; exact (atS_take hm).2 (hP.2.2.2.2 j m hm).2.2.1
  unfold atMS
  rw [if_pos ⟨by omega, hmay⟩, h1]
  simp [List.getD_eq_getElem?_getD, hm]
theorem atMS_none {t : Config} {node : Int} (h : ∀ (j : Nat) m, t.members[j]? = some m → m.node ≠ node) : atMS t node = (⟨0, 0, false⟩, false) := by
  unfold atMS
  rw [if_neg]
  rintro ⟨h0, _⟩
  obtain ⟨k, m, _, _, hm, hn, _⟩ := atS_at h0
  exact h k m hm hn

set_option maxHeartbeats 4000000 in
theorem rover_any (b : Book) (t : Config) (node length : Int) (A B : Option Addr) (n c n' c' : Nat) (G : Nat → Prop) (w : World) (ht : SlM w G B n' c' t.members) (hn : n' ≤ 1000000) :
    Calls Try.prog 13 #[.agg #[.int .i64 b.cfg.epoch, .slice A n c, .int .i64 b.since, .bool b.whole, .int .i64 b.upto], .agg #[.int .i64 t.epoch, .slice B n' c'], .int .i64 node, .int .i64 length] w fun e w' =>
      ∃ A' m c', e = .returned (.tuple #[.agg #[.int .i64 (overS b t node length).1.cfg.epoch, .slice A' m c', .int .i64 (overS b t node length).1.since, .bool (overS b t node length).1.whole, .int .i64 (overS b t node length).1.upto],
        .bool (overS b t node length).2.1, .int .i64 (overS b t node length).2.2]) ∧
      Own tMember 34 w' w.heap.size (fun _ => False) (.slice A' m c') (overS b t node length).1.cfg.members ∧ Below w.heap.size w w' := by
  obtain ⟨hnm, hmx, hn1, hn2⟩ := ht.facts
  go_enter Try.func13, Try.ntmps13
  go_upto_region 1 with (fail)
  refine wp_region_q (C := Bw _) (fun _ => by kernel_rfl) (fun _ => by kernel_rfl) (Bw.refl _) (Bw.drew _) ?_
  repeat
    first
    | (refine wpQuiet_go rfl ?_; apply Exists.intro
       refine ⟨fun w' hw' => ?_, ?_⟩
       · first
         | (apply quietAt_or; (with_reducible exact rfl); exact rfl; exact rfl)
         | (apply quietAt_and; (with_reducible exact rfl); exact rfl; exact rfl)
         | (have bc := bcell hw'; go_simp; first | exact rfl | exact ⟨rfl, rfl⟩ | exact Bw.call hw' (rmay_any t B n' c' G _ (ht.below (by decide) (by (repeat' (first | with_reducible exact Below.refl _ _ | ((with_reducible refine Below.alloc ?_ ?_ _); rotate_left; first | omega | (simp <;> omega)) | ((with_reducible refine Below.setCell ?_ ?_ _); rotate_left; first | (simp only; omega) | (simp <;> omega)) | with_reducible refine Below.drew ?_ | with_reducible refine below_drewN ?_ _ | ((with_reducible apply Bw.out); (first | exact hw' | exact hb1 | exact hb2 | exact hb3 | exact hb4 | exact hb5 | exact hb6 | exact hb7 | exact hb8 | exact hb9 | exact hb0 | exact hw | exact hb); rotate_left; first | omega | (simp <;> omega)) | assumption))))))
       simp only [Act.put, List.setIfInBounds_toArray, List.set_cons_zero, List.set_cons_succ, gd_gd])
    | ((first | refine wpQuiet_if (wanted_t rfl rfl rfl) ?_ | refine wpQuiet_if (wanted_f rfl rfl rfl) ?_ | refine wpQuiet_if (wanted_gt rfl rfl rfl) ?_ | refine wpQuiet_if (wanted_gf rfl rfl rfl) ?_); apply Exists.intro
       refine ⟨fun hp w' hw' => ?_, ?_⟩
       · first
         | (apply quietAt_or; (with_reducible exact rfl); exact rfl; exact rfl)
         | (apply quietAt_and; (with_reducible exact rfl); exact rfl; exact rfl)
         | (apply quietAt_gor; (with_reducible exact rfl); exact rfl; exact rfl; exact hp)
         | (apply quietAt_gand; (with_reducible exact rfl); exact rfl; exact rfl; exact hp)
         | ((try simp only [Bool.and_eq_true, Bool.or_eq_false_iff, Bool.not_eq_true', Bool.not_eq_eq_eq_not, Bool.not_true, Bool.not_false] at hp); have bc := bcell hw'; go_simp; first | exact rfl | exact ⟨rfl, rfl⟩ | exact Bw.call hw' (rmay_any t B n' c' G _ (ht.below (by decide) (by (repeat' (first | with_reducible exact Below.refl _ _ | ((with_reducible refine Below.alloc ?_ ?_ _); rotate_left; first | omega | (simp <;> omega)) | ((with_reducible refine Below.setCell ?_ ?_ _); rotate_left; first | (simp only; omega) | (simp <;> omega)) | with_reducible refine Below.drew ?_ | with_reducible refine below_drewN ?_ _ | ((with_reducible apply Bw.out); (first | exact hw' | exact hb1 | exact hb2 | exact hb3 | exact hb4 | exact hb5 | exact hb6 | exact hb7 | exact hb8 | exact hb9 | exact hb0 | exact hw | exact hb); rotate_left; first | omega | (simp <;> omega)) | assumption))))))
         | exact quietAt_absurd (by simp at hp)
       simp only [Act.put, List.setIfInBounds_toArray, List.set_cons_zero, List.set_cons_succ, gd_gd])
  refine wpQuiet_nil (fun w1 hb1 => ?_)
  obtain ⟨cw1, fw1⟩ := bcell hb1
  have sw1 := Bw.size hb1
  try simp only [World.size_alloc, World.size_setCell, World.size_drew] at cw1 fw1 sw1
  have ltww1 : w.heap.size < w1.heap.size := (by omega)
  have leww1 : w.heap.size ≤ w1.heap.size := (by omega)
  have ltww11 : w.heap.size + 1 < w1.heap.size := (by omega)
  have leww11 : w.heap.size + 1 ≤ w1.heap.size := (by omega)
  have ltww12 : w.heap.size + 2 < w1.heap.size := (by omega)
  have leww12 : w.heap.size + 2 ≤ w1.heap.size := (by omega)
  go_wp2_with (go_at_call 11; refine (rconfig_any t B n' c' G _ (ht.below (by decide) (by (repeat' (first | with_reducible exact Below.refl _ _ | ((with_reducible refine Below.alloc ?_ ?_ _); rotate_left; first | omega | (simp <;> omega)) | ((with_reducible refine Below.setCell ?_ ?_ _); rotate_left; first | (simp only; omega) | (simp <;> omega)) | with_reducible refine Below.drew ?_ | with_reducible refine below_drewN ?_ _ | ((with_reducible apply Bw.out); (first | exact hw' | exact hb1 | exact hb2 | exact hb3 | exact hb4 | exact hb5 | exact hb6 | exact hb7 | exact hb8 | exact hb9 | exact hb0 | exact hw | exact hb); rotate_left; first | omega | (simp <;> omega)) | assumption)))) hn).mono ?_; rintro e w2 ⟨A2, n2, k2, rfl, hv2, hb2⟩; obtain ⟨cw2, fw2⟩ := bcell hb2; have sw2 := Below.size hb2; (try simp only [World.size_alloc, World.size_setCell, World.size_drew] at cw2 fw2 sw2); have ltww2 : w.heap.size < w2.heap.size := (by omega); have leww2 : w.heap.size ≤ w2.heap.size := (by omega); have ltww21 : w.heap.size + 1 < w2.heap.size := (by omega); have leww21 : w.heap.size + 1 ≤ w2.heap.size := (by omega); have ltww22 : w.heap.size + 2 < w2.heap.size := (by omega); have leww22 : w.heap.size + 2 ≤ w2.heap.size := (by omega))
  · have hs : overS b t node length = (zeroBook, false, 2) := by
      have h1 : (!mayS t) = true ∨ length < 0 := by assumption
      unfold overS
      rw [if_pos (by simpa using h1)]
    rw [hs]
    refine bodyPost_ret (v := .tuple #[.agg #[.int .i64 0, .slice none 0 0, .int .i64 0, .bool false, .int .i64 0], .bool false, .int .i64 2]) (results_c3 rfl rfl rfl rfl (by (repeat' (first | with_reducible exact hbox | with_reducible apply Box.set_ | ((with_reducible apply Box.new); first | (simp only [World.size_alloc, World.size_setCell, World.size_drew]; done) | ((try simp only [World.size_alloc, World.size_setCell, World.size_drew]); omega)) | with_reducible apply Box.alloc | ((with_reducible apply Box.far); rotate_left; (simp only; omega)) | with_reducible apply Box.drew | ((with_reducible apply Box.via); (first | exact hw' | exact hb1 | exact hb2 | exact hb3 | exact hb4 | exact hb5 | exact hb6 | exact hb7 | exact hb8 | exact hb9 | exact hb0 | exact hw | exact hb); rotate_left; ((try simp only [World.size_alloc, World.size_setCell, World.size_drew]); omega)) | (simp only [List.set_cons_succ, List.set_cons_zero]; done) | ((try simp only [List.set_cons_succ, List.set_cons_zero]); with_reducible exact rfl)))) (by rfl) Try.underlying26 (by kernel_rfl)) rfl ?_
    exact ⟨_, _, _, rfl, Own.nil, by (repeat' (first | with_reducible exact Below.refl _ _ | ((with_reducible refine Below.alloc ?_ ?_ _); rotate_left; first | omega | (simp <;> omega)) | ((with_reducible refine Below.setCell ?_ ?_ _); rotate_left; first | (simp only; omega) | (simp <;> omega)) | with_reducible refine Below.drew ?_ | with_reducible refine below_drewN ?_ _ | ((with_reducible apply Bw.out); (first | exact hw' | exact hb1 | exact hb2 | exact hb3 | exact hb4 | exact hb5 | exact hb6 | exact hb7 | exact hb8 | exact hb9 | exact hb0 | exact hw | exact hb); rotate_left; first | omega | (simp <;> omega)) | assumption))⟩
  · have hs : overS b t node length = (zeroBook, false, 240) := by
      have h1 : (!mayS t) = false ∧ 0 ≤ length := by assumption
      have h2 : t.epoch ≤ b.cfg.epoch := by assumption
      unfold overS
      rw [if_neg (by simp; simpa using h1), if_pos h2]
    rw [hs]
    refine bodyPost_ret (v := .tuple #[.agg #[.int .i64 0, .slice none 0 0, .int .i64 0, .bool false, .int .i64 0], .bool false, .int .i64 240]) (results_c3 rfl rfl rfl rfl (by (repeat' (first | with_reducible exact hbox | with_reducible apply Box.set_ | ((with_reducible apply Box.new); first | (simp only [World.size_alloc, World.size_setCell, World.size_drew]; done) | ((try simp only [World.size_alloc, World.size_setCell, World.size_drew]); omega)) | with_reducible apply Box.alloc | ((with_reducible apply Box.far); rotate_left; (simp only; omega)) | with_reducible apply Box.drew | ((with_reducible apply Box.via); (first | exact hw' | exact hb1 | exact hb2 | exact hb3 | exact hb4 | exact hb5 | exact hb6 | exact hb7 | exact hb8 | exact hb9 | exact hb0 | exact hw | exact hb); rotate_left; ((try simp only [World.size_alloc, World.size_setCell, World.size_drew]); omega)) | (simp only [List.set_cons_succ, List.set_cons_zero]; done) | ((try simp only [List.set_cons_succ, List.set_cons_zero]); with_reducible exact rfl)))) (by rfl) Try.underlying26 (by kernel_rfl)) rfl ?_
    exact ⟨_, _, _, rfl, Own.nil, by (repeat' (first | with_reducible exact Below.refl _ _ | ((with_reducible refine Below.alloc ?_ ?_ _); rotate_left; first | omega | (simp <;> omega)) | ((with_reducible refine Below.setCell ?_ ?_ _); rotate_left; first | (simp only; omega) | (simp <;> omega)) | with_reducible refine Below.drew ?_ | with_reducible refine below_drewN ?_ _ | ((with_reducible apply Bw.out); (first | exact hw' | exact hb1 | exact hb2 | exact hb3 | exact hb4 | exact hb5 | exact hb6 | exact hb7 | exact hb8 | exact hb9 | exact hb0 | exact hw | exact hb); rotate_left; first | omega | (simp <;> omega)) | assumption))⟩
  · have h1 := Lib.hid (‹_ ∧ _› : (!mayS t) = false ∧ 0 ≤ length)
    have hmay : mayP t := (mayS_iff t).1 (by simpa using h1.out.1)
    have hmay' := Lib.hid hmay; clear hmay
    go_loopw [12] (fun i wr => ∃ (k : Nat) (s : Int), k ≤ n' ∧ i = .int .i64 k ∧ (∀ (j : Nat) m, j < k → t.members[j]? = some m → m.node = node → s = m.since) ∧ ((∀ (j : Nat) m, j < k → t.members[j]? = some m → m.node ≠ node) → s = 0) ∧
        Below w2.heap.size w2 wr ∧ Box wr w2.heap.size 26 [.int .i64 t.epoch, .slice A2 n2 k2, .int .i64 s, .bool false, .int .i64 0]) (fun i _ => n' - (intOf i).toNat)
    case atStart => exact ⟨0, 0, Nat.zero_le _, rfl, fun j m hj => absurd hj (by omega), fun _ => rfl, by (repeat' (first | with_reducible exact Below.refl _ _ | ((with_reducible refine Below.alloc ?_ ?_ _); rotate_left; first | omega | (simp <;> omega)) | ((with_reducible refine Below.setCell ?_ ?_ _); rotate_left; first | (simp only; omega) | (simp <;> omega)) | with_reducible refine Below.drew ?_ | with_reducible refine below_drewN ?_ _ | ((with_reducible apply Bw.out); (first | exact hw' | exact hb1 | exact hb2 | exact hb3 | exact hb4 | exact hb5 | exact hb6 | exact hb7 | exact hb8 | exact hb9 | exact hb0 | exact hw | exact hb); rotate_left; first | omega | (simp <;> omega)) | assumption)), by (repeat' (first | with_reducible exact hbox | with_reducible apply Box.set_ | ((with_reducible apply Box.new); first | (simp only [World.size_alloc, World.size_setCell, World.size_drew]; done) | ((try simp only [World.size_alloc, World.size_setCell, World.size_drew]); omega)) | with_reducible apply Box.alloc | ((with_reducible apply Box.far); rotate_left; (simp only; omega)) | with_reducible apply Box.drew | ((with_reducible apply Box.via); (first | exact hw' | exact hb1 | exact hb2 | exact hb3 | exact hb4 | exact hb5 | exact hb6 | exact hb7 | exact hb8 | exact hb9 | exact hb0 | exact hw | exact hb); rotate_left; ((try simp only [World.size_alloc, World.size_setCell, World.size_drew]); omega)) | (simp only [List.set_cons_succ, List.set_cons_zero]; done) | ((try simp only [List.set_cons_succ, List.set_cons_zero]); with_reducible exact rfl)))⟩
    case round =>
      obtain ⟨k, s, hk, rfl, hj, hz, hw, hbox⟩ := hrel
      have hj := Lib.hid hj
      have hz := Lib.hid hz
      obtain ⟨cwr, fwr⟩ := bcell hw
      have swr := Below.size hw
      have zwr := hbox.lt
      have ltwwr : w.heap.size < wr.heap.size := (by omega)
      have lewwr : w.heap.size ≤ wr.heap.size := (by omega)
      have ltwwr1 : w.heap.size + 1 < wr.heap.size := (by omega)
      have lewwr1 : w.heap.size + 1 ≤ wr.heap.size := (by omega)
      have ltwwr2 : w.heap.size + 2 < wr.heap.size := (by omega)
      have lewwr2 : w.heap.size + 2 ≤ wr.heap.size := (by omega)
      have bx := fun i => Box.cell hbox i
      have bz := fun i => Box.frozen hbox i
      by_cases hkn : k < n'
      · obtain ⟨b', o, m, rfl, hF, hbl, hm, mok, c0, c1, c2⟩ := (ht.below (by decide) (by (repeat' (first | with_reducible exact Below.refl _ _ | ((with_reducible refine Below.alloc ?_ ?_ _); rotate_left; first | omega | (simp <;> omega)) | ((with_reducible refine Below.setCell ?_ ?_ _); rotate_left; first | (simp only; omega) | (simp <;> omega)) | with_reducible refine Below.drew ?_ | with_reducible refine below_drewN ?_ _ | ((with_reducible apply Bw.out); (first | exact hw' | exact hb1 | exact hb2 | exact hb3 | exact hb4 | exact hb5 | exact hb6 | exact hb7 | exact hb8 | exact hb9 | exact hb0 | exact hw | exact hb); rotate_left; first | omega | (simp <;> omega)) | assumption)) : Below w.heap.size w wr)).mem hkn
        go_wp2
        · have hq : (m.node == node) = true := by assumption
          go_roundw
          case rel =>
            have hmn : m.node = node := by simpa using hq
            refine ⟨k + 1, m.since, by omega, by go_num, fun j m' hjk hm' hn' => ?_, fun hno => absurd hmn (hno k m (by omega) hm), by (repeat' (first | with_reducible exact Below.refl _ _ | ((with_reducible refine Below.alloc ?_ ?_ _); rotate_left; first | omega | (simp <;> omega)) | ((with_reducible refine Below.setCell ?_ ?_ _); rotate_left; first | (simp only; omega) | (simp <;> omega)) | with_reducible refine Below.drew ?_ | with_reducible refine below_drewN ?_ _ | ((with_reducible apply Bw.out); (first | exact hw' | exact hb1 | exact hb2 | exact hb3 | exact hb4 | exact hb5 | exact hb6 | exact hb7 | exact hb8 | exact hb9 | exact hb0 | exact hw | exact hb); rotate_left; first | omega | (simp <;> omega)) | assumption)), by (repeat' (first | with_reducible exact hbox | with_reducible apply Box.set_ | ((with_reducible apply Box.new); first | (simp only [World.size_alloc, World.size_setCell, World.size_drew]; done) | ((try simp only [World.size_alloc, World.size_setCell, World.size_drew]); omega)) | with_reducible apply Box.alloc | ((with_reducible apply Box.far); rotate_left; (simp only; omega)) | with_reducible apply Box.drew | ((with_reducible apply Box.via); (first | exact hw' | exact hb1 | exact hb2 | exact hb3 | exact hb4 | exact hb5 | exact hb6 | exact hb7 | exact hb8 | exact hb9 | exact hb0 | exact hw | exact hb); rotate_left; ((try simp only [World.size_alloc, World.size_setCell, World.size_drew]); omega)) | (simp only [List.set_cons_succ, List.set_cons_zero]; done) | ((try simp only [List.set_cons_succ, List.set_cons_zero]); with_reducible exact rfl)))⟩
            by_cases e : j = k
            · subst e; rw [hm] at hm'; cases hm'; rfl
            · have hat := (hmay'.out.2.2.2.2 k m hm).2.2.1
              have := atS_none hat j m' (by rw [List.getElem?_take, if_pos (by omega)]; exact hm')
              rw [hmn] at this
              exact absurd hn' this
          case measure => simp [intOf]; omega
        · have hq : (m.node == node) = false := by assumption
          go_roundw
          case rel =>
            have hmn : m.node ≠ node := by simpa using hq
            refine ⟨k + 1, s, by omega, by go_num, fun j m' hjk hm' hn' => ?_, fun hno => hz.out fun j m' hjk hm' => hno j m' (by omega) hm', hw, hbox⟩
            by_cases e : j = k
            · subst e; rw [hm] at hm'; cases hm'; exact absurd hn' hmn
            · exact hj.out j m' (by omega) hm' hn'
          case measure => simp [intOf]; omega
      · have hat : (atMS t node).1.since = s ∧ (atMS t node).2 = !(s == 0) := by
          by_cases hex : ∃ (j : Nat) (m : Member), t.members[j]? = some m ∧ m.node = node
          · obtain ⟨j, m, hm, hmn⟩ := hex
            have hs := hj.out j m (by have := (List.getElem?_eq_some_iff.1 hm).1; omega) hm hmn
            have h1 := (hmay'.out.2.2.2.2 j m hm).2.2.2.1
            rw [atMS_some ((mayS_iff t).2 hmay'.out) hm hmn]
            refine ⟨hs.symm, ?_⟩
            have : (s == 0) = false := by simp; omega
            rw [this]; rfl
          · have hno : ∀ (j : Nat) (m : Member), t.members[j]? = some m → m.node ≠ node := fun j m hm hn => hex ⟨j, m, hm, hn⟩
            rw [atMS_none hno, hz.out fun j m _ hm => hno j m hm]
            exact ⟨rfl, rfl⟩
        have hat := Lib.hid hat
        go_wp2
        · have hs : overS b t node length = (⟨t, s, false, 0⟩, false, 0) := by
            have h3 : b.cfg.epoch < t.epoch := by assumption
            have h4 : (s == 0) = true := by assumption
            have hs0 : s = 0 := by simpa using h4
            unfold overS
            rw [if_neg (by simp; simpa using h1.out), if_neg (by omega), if_pos (by rw [hat.out.2, h4]; rfl), hs0]
          rw [hs]
          refine bodyPost_ret (v := .tuple #[.agg #[.int .i64 t.epoch, .slice A2 n2 k2, .int .i64 s, .bool false, .int .i64 0], .bool false, .int .i64 0]) (results_c3 rfl rfl rfl rfl (by (repeat' (first | with_reducible exact hbox | with_reducible apply Box.set_ | ((with_reducible apply Box.new); first | (simp only [World.size_alloc, World.size_setCell, World.size_drew]; done) | ((try simp only [World.size_alloc, World.size_setCell, World.size_drew]); omega)) | with_reducible apply Box.alloc | ((with_reducible apply Box.far); rotate_left; (simp only; omega)) | with_reducible apply Box.drew | ((with_reducible apply Box.via); (first | exact hw' | exact hb1 | exact hb2 | exact hb3 | exact hb4 | exact hb5 | exact hb6 | exact hb7 | exact hb8 | exact hb9 | exact hb0 | exact hw | exact hb); rotate_left; ((try simp only [World.size_alloc, World.size_setCell, World.size_drew]); omega)) | (simp only [List.set_cons_succ, List.set_cons_zero]; done) | ((try simp only [List.set_cons_succ, List.set_cons_zero]); with_reducible exact rfl)))) (by rfl) Try.underlying26 (by kernel_rfl)) rfl ?_
          exact ⟨_, _, _, rfl, (hv2.fag flatM (by (repeat' (first | with_reducible exact Ag.refl _ _ | ((with_reducible refine Ag.alloc ?_ ?_ _); rotate_left; (rintro g ⟨hg1, hg2⟩; (try simp only [World.size_alloc, World.size_setCell, World.size_drew]); omega)) | ((with_reducible refine Ag.setCell ?_ ?_ _); rotate_left; (rintro ⟨hg1, hg2⟩; simp only at hg1 hg2; omega)) | with_reducible refine Ag.drew ?_ | ((with_reducible apply Ag.via); (first | exact hw' | exact hb1 | exact hb2 | exact hb3 | exact hb4 | exact hb5 | exact hb6 | exact hb7 | exact hb8 | exact hb9 | exact hb0 | exact hw | exact hb); rotate_left; (rintro g ⟨hg1, hg2⟩; (try simp only [World.size_alloc, World.size_setCell, World.size_drew]); omega)))))).lo (by omega), by (repeat' (first | with_reducible exact Below.refl _ _ | ((with_reducible refine Below.alloc ?_ ?_ _); rotate_left; first | omega | (simp <;> omega)) | ((with_reducible refine Below.setCell ?_ ?_ _); rotate_left; first | (simp only; omega) | (simp <;> omega)) | with_reducible refine Below.drew ?_ | with_reducible refine below_drewN ?_ _ | ((with_reducible apply Bw.out); (first | exact hw' | exact hb1 | exact hb2 | exact hb3 | exact hb4 | exact hb5 | exact hb6 | exact hb7 | exact hb8 | exact hb9 | exact hb0 | exact hw | exact hb); rotate_left; first | omega | (simp <;> omega)) | assumption))⟩
        · have hs : overS b t node length = (⟨t, s, t.epoch == 1, 0⟩, true, 0) := by
            have h3 : b.cfg.epoch < t.epoch := by assumption
            have h4 : (s == 0) = false := by assumption
            have h5 : (s != b.since) = true := by assumption
            unfold overS
            rw [if_neg (by simp; simpa using h1.out), if_neg (by omega), if_neg (by rw [hat.out.2, h4]; simp), if_pos (by rw [hat.out.1]; simpa using h5), hat.out.1]
          rw [hs]
          refine bodyPost_ret (v := .tuple #[.agg #[.int .i64 t.epoch, .slice A2 n2 k2, .int .i64 s, .bool (t.epoch == 1), .int .i64 0], .bool true, .int .i64 0]) (results_c3 rfl rfl rfl rfl (by (repeat' (first | with_reducible exact hbox | with_reducible apply Box.set_ | ((with_reducible apply Box.new); first | (simp only [World.size_alloc, World.size_setCell, World.size_drew]; done) | ((try simp only [World.size_alloc, World.size_setCell, World.size_drew]); omega)) | with_reducible apply Box.alloc | ((with_reducible apply Box.far); rotate_left; (simp only; omega)) | with_reducible apply Box.drew | ((with_reducible apply Box.via); (first | exact hw' | exact hb1 | exact hb2 | exact hb3 | exact hb4 | exact hb5 | exact hb6 | exact hb7 | exact hb8 | exact hb9 | exact hb0 | exact hw | exact hb); rotate_left; ((try simp only [World.size_alloc, World.size_setCell, World.size_drew]); omega)) | (simp only [List.set_cons_succ, List.set_cons_zero]; done) | ((try simp only [List.set_cons_succ, List.set_cons_zero]); with_reducible exact rfl)))) (by rfl) Try.underlying26 (by kernel_rfl)) rfl ?_
          exact ⟨_, _, _, rfl, (hv2.fag flatM (by (repeat' (first | with_reducible exact Ag.refl _ _ | ((with_reducible refine Ag.alloc ?_ ?_ _); rotate_left; (rintro g ⟨hg1, hg2⟩; (try simp only [World.size_alloc, World.size_setCell, World.size_drew]); omega)) | ((with_reducible refine Ag.setCell ?_ ?_ _); rotate_left; (rintro ⟨hg1, hg2⟩; simp only at hg1 hg2; omega)) | with_reducible refine Ag.drew ?_ | ((with_reducible apply Ag.via); (first | exact hw' | exact hb1 | exact hb2 | exact hb3 | exact hb4 | exact hb5 | exact hb6 | exact hb7 | exact hb8 | exact hb9 | exact hb0 | exact hw | exact hb); rotate_left; (rintro g ⟨hg1, hg2⟩; (try simp only [World.size_alloc, World.size_setCell, World.size_drew]); omega)))))).lo (by omega), by (repeat' (first | with_reducible exact Below.refl _ _ | ((with_reducible refine Below.alloc ?_ ?_ _); rotate_left; first | omega | (simp <;> omega)) | ((with_reducible refine Below.setCell ?_ ?_ _); rotate_left; first | (simp only; omega) | (simp <;> omega)) | with_reducible refine Below.drew ?_ | with_reducible refine below_drewN ?_ _ | ((with_reducible apply Bw.out); (first | exact hw' | exact hb1 | exact hb2 | exact hb3 | exact hb4 | exact hb5 | exact hb6 | exact hb7 | exact hb8 | exact hb9 | exact hb0 | exact hw | exact hb); rotate_left; first | omega | (simp <;> omega)) | assumption))⟩
        · have hs : overS b t node length = (⟨t, s, true, length⟩, false, 0) := by
            have h3 : b.cfg.epoch < t.epoch := by assumption
            have h4 : (s == 0) = false := by assumption
            have h5 : (s != b.since) = false := by assumption
            have h6 : b.whole = true := by assumption
            unfold overS
            rw [if_neg (by simp; simpa using h1.out), if_neg (by omega), if_neg (by rw [hat.out.2, h4]; simp), if_neg (by rw [hat.out.1]; simpa using h5), hat.out.1, h6]; rfl
          rw [hs]
          refine bodyPost_ret (v := .tuple #[.agg #[.int .i64 t.epoch, .slice A2 n2 k2, .int .i64 s, .bool true, .int .i64 length], .bool false, .int .i64 0]) (results_c3 rfl rfl rfl rfl (by (repeat' (first | with_reducible exact hbox | with_reducible apply Box.set_ | ((with_reducible apply Box.new); first | (simp only [World.size_alloc, World.size_setCell, World.size_drew]; done) | ((try simp only [World.size_alloc, World.size_setCell, World.size_drew]); omega)) | with_reducible apply Box.alloc | ((with_reducible apply Box.far); rotate_left; (simp only; omega)) | with_reducible apply Box.drew | ((with_reducible apply Box.via); (first | exact hw' | exact hb1 | exact hb2 | exact hb3 | exact hb4 | exact hb5 | exact hb6 | exact hb7 | exact hb8 | exact hb9 | exact hb0 | exact hw | exact hb); rotate_left; ((try simp only [World.size_alloc, World.size_setCell, World.size_drew]); omega)) | (simp only [List.set_cons_succ, List.set_cons_zero]; done) | ((try simp only [List.set_cons_succ, List.set_cons_zero]); with_reducible exact rfl)))) (by rfl) Try.underlying26 (by kernel_rfl)) rfl ?_
          exact ⟨_, _, _, rfl, (hv2.fag flatM (by (repeat' (first | with_reducible exact Ag.refl _ _ | ((with_reducible refine Ag.alloc ?_ ?_ _); rotate_left; (rintro g ⟨hg1, hg2⟩; (try simp only [World.size_alloc, World.size_setCell, World.size_drew]); omega)) | ((with_reducible refine Ag.setCell ?_ ?_ _); rotate_left; (rintro ⟨hg1, hg2⟩; simp only at hg1 hg2; omega)) | with_reducible refine Ag.drew ?_ | ((with_reducible apply Ag.via); (first | exact hw' | exact hb1 | exact hb2 | exact hb3 | exact hb4 | exact hb5 | exact hb6 | exact hb7 | exact hb8 | exact hb9 | exact hb0 | exact hw | exact hb); rotate_left; (rintro g ⟨hg1, hg2⟩; (try simp only [World.size_alloc, World.size_setCell, World.size_drew]); omega)))))).lo (by omega), by (repeat' (first | with_reducible exact Below.refl _ _ | ((with_reducible refine Below.alloc ?_ ?_ _); rotate_left; first | omega | (simp <;> omega)) | ((with_reducible refine Below.setCell ?_ ?_ _); rotate_left; first | (simp only; omega) | (simp <;> omega)) | with_reducible refine Below.drew ?_ | with_reducible refine below_drewN ?_ _ | ((with_reducible apply Bw.out); (first | exact hw' | exact hb1 | exact hb2 | exact hb3 | exact hb4 | exact hb5 | exact hb6 | exact hb7 | exact hb8 | exact hb9 | exact hb0 | exact hw | exact hb); rotate_left; first | omega | (simp <;> omega)) | assumption))⟩
        · have hs : overS b t node length = (⟨t, s, false, 0⟩, false, 0) := by
            have h3 : b.cfg.epoch < t.epoch := by assumption
            have h4 : (s == 0) = false := by assumption
            have h5 : (s != b.since) = false := by assumption
            have h6 : b.whole = false := by assumption
            unfold overS
            rw [if_neg (by simp; simpa using h1.out), if_neg (by omega), if_neg (by rw [hat.out.2, h4]; simp), if_neg (by rw [hat.out.1]; simpa using h5), hat.out.1, h6]; rfl
          rw [hs]
          refine bodyPost_ret (v := .tuple #[.agg #[.int .i64 t.epoch, .slice A2 n2 k2, .int .i64 s, .bool false, .int .i64 0], .bool false, .int .i64 0]) (results_c3 rfl rfl rfl rfl (by (repeat' (first | with_reducible exact hbox | with_reducible apply Box.set_ | ((with_reducible apply Box.new); first | (simp only [World.size_alloc, World.size_setCell, World.size_drew]; done) | ((try simp only [World.size_alloc, World.size_setCell, World.size_drew]); omega)) | with_reducible apply Box.alloc | ((with_reducible apply Box.far); rotate_left; (simp only; omega)) | with_reducible apply Box.drew | ((with_reducible apply Box.via); (first | exact hw' | exact hb1 | exact hb2 | exact hb3 | exact hb4 | exact hb5 | exact hb6 | exact hb7 | exact hb8 | exact hb9 | exact hb0 | exact hw | exact hb); rotate_left; ((try simp only [World.size_alloc, World.size_setCell, World.size_drew]); omega)) | (simp only [List.set_cons_succ, List.set_cons_zero]; done) | ((try simp only [List.set_cons_succ, List.set_cons_zero]); with_reducible exact rfl)))) (by rfl) Try.underlying26 (by kernel_rfl)) rfl ?_
          exact ⟨_, _, _, rfl, (hv2.fag flatM (by (repeat' (first | with_reducible exact Ag.refl _ _ | ((with_reducible refine Ag.alloc ?_ ?_ _); rotate_left; (rintro g ⟨hg1, hg2⟩; (try simp only [World.size_alloc, World.size_setCell, World.size_drew]); omega)) | ((with_reducible refine Ag.setCell ?_ ?_ _); rotate_left; (rintro ⟨hg1, hg2⟩; simp only at hg1 hg2; omega)) | with_reducible refine Ag.drew ?_ | ((with_reducible apply Ag.via); (first | exact hw' | exact hb1 | exact hb2 | exact hb3 | exact hb4 | exact hb5 | exact hb6 | exact hb7 | exact hb8 | exact hb9 | exact hb0 | exact hw | exact hb); rotate_left; (rintro g ⟨hg1, hg2⟩; (try simp only [World.size_alloc, World.size_setCell, World.size_drew]); omega)))))).lo (by omega), by (repeat' (first | with_reducible exact Below.refl _ _ | ((with_reducible refine Below.alloc ?_ ?_ _); rotate_left; first | omega | (simp <;> omega)) | ((with_reducible refine Below.setCell ?_ ?_ _); rotate_left; first | (simp only; omega) | (simp <;> omega)) | with_reducible refine Below.drew ?_ | with_reducible refine below_drewN ?_ _ | ((with_reducible apply Bw.out); (first | exact hw' | exact hb1 | exact hb2 | exact hb3 | exact hb4 | exact hb5 | exact hb6 | exact hb7 | exact hb8 | exact hb9 | exact hb0 | exact hw | exact hb); rotate_left; first | omega | (simp <;> omega)) | assumption))⟩
end Go.Proofs.Ytkdbedbefojieaa
