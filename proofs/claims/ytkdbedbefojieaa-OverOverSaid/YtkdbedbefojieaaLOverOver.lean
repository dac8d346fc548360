/-
  The law OverOver: what it computes.
-/
import Derived.Test.YtkdbedbefojieaaOver5
namespace Go.Proofs.Ytkdbedbefojieaa
set_option linter.unusedVariables false
set_option linter.unusedSimpArgs false
open Go.RowKit
set_option maxRecDepth 100000
attribute [local go_sem] gd_true

set_option maxHeartbeats 4000000 in
theorem overOver_any (b : Book) (t : Config) (node length synced : Int) (A B : Option Addr) (n c n' c' : Nat) (F G : Nat → Prop) (w : World) (hb0 : SlM w F A n c b.cfg.members) (ht0 : SlM w G B n' c' t.members) :
    Calls Try.prog 3 #[.agg #[.int .i64 b.cfg.epoch, .slice A n c, .int .i64 b.since, .bool b.whole, .int .i64 b.upto], .agg #[.int .i64 t.epoch, .slice B n' c'], .int .i64 node, .int .i64 length, .int .i64 synced] w fun e w' =>
      e = .returned (.bool true) ∧ Below w.heap.size w w' := by
  have ht := ht0.lt (by decide)
  have hb := hb0.lt (by decide)
  obtain ⟨hnm, hmx, hn1, hn2⟩ := ht.facts
  go_enter Try.func3, Try.ntmps3
  go_upto_region 1 with (fail)
  refine wp_region_q (C := Bw _) (fun _ => by kernel_rfl) (fun _ => by kernel_rfl) (Bw.refl _) (Bw.drew _) ?_
  repeat
    first
    | (refine wpQuiet_go rfl ?_; apply Exists.intro
       refine ⟨fun w' hw' => ?_, ?_⟩
       · first
         | (apply quietAt_or; (with_reducible exact rfl); exact rfl; exact rfl)
         | (apply quietAt_and; (with_reducible exact rfl); exact rfl; exact rfl)
         | (have bc := bcell hw'; go_simp; first | exact rfl | exact ⟨rfl, rfl⟩ | fail)
       simp only [Act.put, List.setIfInBounds_toArray, List.set_cons_zero, List.set_cons_succ, gd_gd])
    | ((first | refine wpQuiet_if (wanted_t rfl rfl rfl) ?_ | refine wpQuiet_if (wanted_f rfl rfl rfl) ?_ | refine wpQuiet_if (wanted_gt rfl rfl rfl) ?_ | refine wpQuiet_if (wanted_gf rfl rfl rfl) ?_); apply Exists.intro
       refine ⟨fun hp w' hw' => ?_, ?_⟩
       · first
         | (apply quietAt_or; (with_reducible exact rfl); exact rfl; exact rfl)
         | (apply quietAt_and; (with_reducible exact rfl); exact rfl; exact rfl)
         | (apply quietAt_gor; (with_reducible exact rfl); exact rfl; exact rfl; exact hp)
         | (apply quietAt_gand; (with_reducible exact rfl); exact rfl; exact rfl; exact hp)
         | ((try simp only [Bool.and_eq_true, Bool.or_eq_false_iff, Bool.not_eq_true', Bool.not_eq_eq_eq_not, Bool.not_true, Bool.not_false] at hp); have bc := bcell hw'; go_simp; first | exact rfl | exact ⟨rfl, rfl⟩ | fail)
         | exact quietAt_absurd (by simp at hp)
       simp only [Act.put, List.setIfInBounds_toArray, List.set_cons_zero, List.set_cons_succ, gd_gd])
  refine wpQuiet_nil (fun w1 hb1 => ?_)
  obtain ⟨cw1, fw1⟩ := bcell hb1
  have sw1 := Bw.size hb1
  try simp only [World.size_alloc, World.size_setCell, World.size_drew] at cw1 fw1 sw1
  have ltww1 : w.heap.size < w1.heap.size := (by omega)
  have leww1 : w.heap.size ≤ w1.heap.size := (by omega)
  have ltww11 : w.heap.size + 1 < w1.heap.size := (by omega)
  have leww11 : w.heap.size + 1 ≤ w1.heap.size := (by omega)
  go_wp2_with (first
    | (go_at_call 11; refine (rconfig_any t B n' c' _ _ (ht.below (by decide) (by (repeat' (first | with_reducible exact Below.refl _ _ | ((with_reducible refine Below.alloc ?_ ?_ _); rotate_left; first | omega | (simp <;> omega)) | ((with_reducible refine Below.setCell ?_ ?_ _); rotate_left; first | (simp only; omega) | (simp <;> omega)) | with_reducible refine Below.drew ?_ | with_reducible refine below_drewN ?_ _ | ((with_reducible apply Bw.out); (first | exact hw' | exact hb1 | exact hb2 | exact hb3 | exact hb4 | exact hb5 | exact hb6 | exact hb7 | exact hb8 | exact hb9 | exact hb0 | exact hw | exact hb); rotate_left; first | omega | (simp <;> omega)) | assumption)))) (by omega)).mono ?_; rintro e w2 ⟨A2, n2, k2, rfl, hv2, hb2⟩; obtain ⟨cw2, fw2⟩ := bcell hb2; have sw2 := Below.size hb2; (try simp only [World.size_alloc, World.size_setCell, World.size_drew] at cw2 fw2 sw2); have ltww2 : w.heap.size < w2.heap.size := (by omega); have leww2 : w.heap.size ≤ w2.heap.size := (by omega); have ltww21 : w.heap.size + 1 < w2.heap.size := (by omega); have leww21 : w.heap.size + 1 ≤ w2.heap.size := (by omega); have hs2 := hv2.slc (by decide) flatM; have z2 : n2 ≤ 50 := (by have := hv2.len'; omega))
    | (go_at_call 12; refine (over_any b t node length A A2 n c n2 k2 (fun b => w1.heap.size ≤ b) _ (hs2.below (by decide) (by (repeat' (first | with_reducible exact Below.refl _ _ | ((with_reducible refine Below.alloc ?_ ?_ _); rotate_left; first | omega | (simp <;> omega)) | ((with_reducible refine Below.setCell ?_ ?_ _); rotate_left; first | (simp only; omega) | (simp <;> omega)) | with_reducible refine Below.drew ?_ | with_reducible refine below_drewN ?_ _ | ((with_reducible apply Bw.out); (first | exact hw' | exact hb1 | exact hb2 | exact hb3 | exact hb4 | exact hb5 | exact hb6 | exact hb7 | exact hb8 | exact hb9 | exact hb0 | exact hw | exact hb); rotate_left; first | omega | (simp <;> omega)) | assumption)))) (by omega)).mono ?_; rintro e w3 ⟨A3, n3, k3, rfl, hv3, hb3⟩; obtain ⟨cw3, fw3⟩ := bcell hb3; have sw3 := Below.size hb3; (try simp only [World.size_alloc, World.size_setCell, World.size_drew] at cw3 fw3 sw3); have ltww3 : w.heap.size < w3.heap.size := (by omega); have leww3 : w.heap.size ≤ w3.heap.size := (by omega); have ltww31 : w.heap.size + 1 < w3.heap.size := (by omega); have leww31 : w.heap.size + 1 ≤ w3.heap.size := (by omega); have ltw2w3 : w2.heap.size < w3.heap.size := (by omega); have lew2w3 : w2.heap.size ≤ w3.heap.size := (by omega))
    | (go_at_call 13; refine (rover_any b t node length A B n c n' c' _ _ (ht.below (by decide) (by (repeat' (first | with_reducible exact Below.refl _ _ | ((with_reducible refine Below.alloc ?_ ?_ _); rotate_left; first | omega | (simp <;> omega)) | ((with_reducible refine Below.setCell ?_ ?_ _); rotate_left; first | (simp only; omega) | (simp <;> omega)) | with_reducible refine Below.drew ?_ | with_reducible refine below_drewN ?_ _ | ((with_reducible apply Bw.out); (first | exact hw' | exact hb1 | exact hb2 | exact hb3 | exact hb4 | exact hb5 | exact hb6 | exact hb7 | exact hb8 | exact hb9 | exact hb0 | exact hw | exact hb); rotate_left; first | omega | (simp <;> omega)) | assumption)))) (by omega)).mono ?_; rintro e w4 ⟨A4, n4, k4, rfl, hv4, hb4⟩; obtain ⟨cw4, fw4⟩ := bcell hb4; have sw4 := Below.size hb4; (try simp only [World.size_alloc, World.size_setCell, World.size_drew] at cw4 fw4 sw4); have ltww4 : w.heap.size < w4.heap.size := (by omega); have leww4 : w.heap.size ≤ w4.heap.size := (by omega); have ltww41 : w.heap.size + 1 < w4.heap.size := (by omega); have leww41 : w.heap.size + 1 ≤ w4.heap.size := (by omega); have ltw2w4 : w2.heap.size < w4.heap.size := (by omega); have lew2w4 : w2.heap.size ≤ w4.heap.size := (by omega); have ltw3w4 : w3.heap.size < w4.heap.size := (by omega); have lew3w4 : w3.heap.size ≤ w4.heap.size := (by omega)))
  · go_ret
    exact ⟨rfl, by (repeat' (first | with_reducible exact Below.refl _ _ | ((with_reducible refine Below.alloc ?_ ?_ _); rotate_left; first | omega | (simp <;> omega)) | ((with_reducible refine Below.setCell ?_ ?_ _); rotate_left; first | (simp only; omega) | (simp <;> omega)) | with_reducible refine Below.drew ?_ | with_reducible refine below_drewN ?_ _ | ((with_reducible apply Bw.out); (first | exact hw' | exact hb1 | exact hb2 | exact hb3 | exact hb4 | exact hb5 | exact hb6 | exact hb7 | exact hb8 | exact hb9 | exact hb0 | exact hw | exact hb); rotate_left; first | omega | (simp <;> omega)) | assumption))⟩
  · refine wp_name (fun w5 hw5 => ?_)
    have g5 : Below (w4.heap.size) w4 w5 := by rw [hw5]; (repeat' (first | with_reducible exact Below.refl _ _ | ((with_reducible refine Below.alloc ?_ ?_ _); rotate_left; first | omega | (simp <;> omega)) | ((with_reducible refine Below.setCell ?_ ?_ _); rotate_left; first | (simp only; omega) | (simp <;> omega)) | with_reducible refine Below.drew ?_ | with_reducible refine below_drewN ?_ _ | ((with_reducible apply Bw.out); (first | exact hw' | exact hb1 | exact hb2 | exact hb3 | exact hb4 | exact hb5 | exact hb6 | exact hb7 | exact hb8 | exact hb9 | exact hb0 | exact hw | exact hb); rotate_left; first | omega | (simp <;> omega)) | assumption))
    have x0 : Box w5 w.heap.size 26 [.int .i64 b.cfg.epoch, .slice A n c, .int .i64 b.since, .bool b.whole, .int .i64 b.upto] := by rw [hw5]; (repeat' (first | with_reducible exact hbox | with_reducible apply Box.set_ | ((with_reducible apply Box.new); first | (simp only [World.size_alloc, World.size_setCell, World.size_drew]; done) | ((try simp only [World.size_alloc, World.size_setCell, World.size_drew]); omega)) | with_reducible apply Box.alloc | ((with_reducible apply Box.far); rotate_left; (simp only; omega)) | with_reducible apply Box.drew | ((with_reducible apply Box.via); (first | exact hw' | exact hb1 | exact hb2 | exact hb3 | exact hb4 | exact hb5 | exact hb6 | exact hb7 | exact hb8 | exact hb9 | exact hb0 | exact hw | exact hb); rotate_left; ((try simp only [World.size_alloc, World.size_setCell, World.size_drew]); omega)) | (simp only [List.set_cons_succ, List.set_cons_zero]; done) | ((try simp only [List.set_cons_succ, List.set_cons_zero]); with_reducible exact rfl)))
    have x2 : Box w5 w2.heap.size 24 [.int .i64 t.epoch, .slice A2 n2 k2] := by rw [hw5]; (repeat' (first | with_reducible exact hbox | with_reducible apply Box.set_ | ((with_reducible apply Box.new); first | (simp only [World.size_alloc, World.size_setCell, World.size_drew]; done) | ((try simp only [World.size_alloc, World.size_setCell, World.size_drew]); omega)) | with_reducible apply Box.alloc | ((with_reducible apply Box.far); rotate_left; (simp only; omega)) | with_reducible apply Box.drew | ((with_reducible apply Box.via); (first | exact hw' | exact hb1 | exact hb2 | exact hb3 | exact hb4 | exact hb5 | exact hb6 | exact hb7 | exact hb8 | exact hb9 | exact hb0 | exact hw | exact hb); rotate_left; ((try simp only [World.size_alloc, World.size_setCell, World.size_drew]); omega)) | (simp only [List.set_cons_succ, List.set_cons_zero]; done) | ((try simp only [List.set_cons_succ, List.set_cons_zero]); with_reducible exact rfl)))
    have x3 : Box w5 w3.heap.size 26 [.int .i64 (overS b t node length).1.cfg.epoch, .slice A3 n3 k3, .int .i64 (overS b t node length).1.since, .bool (overS b t node length).1.whole, .int .i64 (overS b t node length).1.upto] := by rw [hw5]; (repeat' (first | with_reducible exact hbox | with_reducible apply Box.set_ | ((with_reducible apply Box.new); first | (simp only [World.size_alloc, World.size_setCell, World.size_drew]; done) | ((try simp only [World.size_alloc, World.size_setCell, World.size_drew]); omega)) | with_reducible apply Box.alloc | ((with_reducible apply Box.far); rotate_left; (simp only; omega)) | with_reducible apply Box.drew | ((with_reducible apply Box.via); (first | exact hw' | exact hb1 | exact hb2 | exact hb3 | exact hb4 | exact hb5 | exact hb6 | exact hb7 | exact hb8 | exact hb9 | exact hb0 | exact hw | exact hb); rotate_left; ((try simp only [World.size_alloc, World.size_setCell, World.size_drew]); omega)) | (simp only [List.set_cons_succ, List.set_cons_zero]; done) | ((try simp only [List.set_cons_succ, List.set_cons_zero]); with_reducible exact rfl)))
    have x4 : Box w5 w4.heap.size 26 [.int .i64 (overS b t node length).1.cfg.epoch, .slice A4 n4 k4, .int .i64 (overS b t node length).1.since, .bool (overS b t node length).1.whole, .int .i64 (overS b t node length).1.upto] := by rw [hw5]; (repeat' (first | with_reducible exact hbox | with_reducible apply Box.set_ | ((with_reducible apply Box.new); first | (simp only [World.size_alloc, World.size_setCell, World.size_drew]; done) | ((try simp only [World.size_alloc, World.size_setCell, World.size_drew]); omega)) | with_reducible apply Box.alloc | ((with_reducible apply Box.far); rotate_left; (simp only; omega)) | with_reducible apply Box.drew | ((with_reducible apply Box.via); (first | exact hw' | exact hb1 | exact hb2 | exact hb3 | exact hb4 | exact hb5 | exact hb6 | exact hb7 | exact hb8 | exact hb9 | exact hb0 | exact hw | exact hb); rotate_left; ((try simp only [World.size_alloc, World.size_setCell, World.size_drew]); omega)) | (simp only [List.set_cons_succ, List.set_cons_zero]; done) | ((try simp only [List.set_cons_succ, List.set_cons_zero]); with_reducible exact rfl)))
    have h2 : Own tMember 34 w5 w1.heap.size (fun _ => False) (.slice A2 n2 k2) t.members := hv2.fag flatM (by rw [hw5]; (repeat' (first | with_reducible exact Ag.refl _ _ | ((with_reducible refine Ag.alloc ?_ ?_ _); rotate_left; (rintro g ⟨hg1, hg2⟩; (try simp only [World.size_alloc, World.size_setCell, World.size_drew]); omega)) | ((with_reducible refine Ag.setCell ?_ ?_ _); rotate_left; (rintro ⟨hg1, hg2⟩; simp only at hg1 hg2; omega)) | with_reducible refine Ag.drew ?_ | ((with_reducible apply Ag.via); (first | exact hw' | exact hb1 | exact hb2 | exact hb3 | exact hb4 | exact hb5 | exact hb6 | exact hb7 | exact hb8 | exact hb9 | exact hb0 | exact hw | exact hb); rotate_left; (rintro g ⟨hg1, hg2⟩; (try simp only [World.size_alloc, World.size_setCell, World.size_drew]); omega)))))
    have h3 : Own tMember 34 w5 w2.heap.size (fun _ => False) (.slice A3 n3 k3) (overS b t node length).1.cfg.members := (hv3.fag flatM (by rw [hw5]; (repeat' (first | with_reducible exact Ag.refl _ _ | ((with_reducible refine Ag.alloc ?_ ?_ _); rotate_left; (rintro g ⟨hg1, hg2⟩; (try simp only [World.size_alloc, World.size_setCell, World.size_drew]); omega)) | ((with_reducible refine Ag.setCell ?_ ?_ _); rotate_left; (rintro ⟨hg1, hg2⟩; simp only at hg1 hg2; omega)) | with_reducible refine Ag.drew ?_ | ((with_reducible apply Ag.via); (first | exact hw' | exact hb1 | exact hb2 | exact hb3 | exact hb4 | exact hb5 | exact hb6 | exact hb7 | exact hb8 | exact hb9 | exact hb0 | exact hw | exact hb); rotate_left; (rintro g ⟨hg1, hg2⟩; (try simp only [World.size_alloc, World.size_setCell, World.size_drew]); omega)))))).lo (by simp)
    have h4 : Own tMember 34 w5 w2.heap.size (fun _ => False) (.slice A4 n4 k4) (overS b t node length).1.cfg.members := (hv4.fag flatM (by rw [hw5]; (repeat' (first | with_reducible exact Ag.refl _ _ | ((with_reducible refine Ag.alloc ?_ ?_ _); rotate_left; (rintro g ⟨hg1, hg2⟩; (try simp only [World.size_alloc, World.size_setCell, World.size_drew]); omega)) | ((with_reducible refine Ag.setCell ?_ ?_ _); rotate_left; (rintro ⟨hg1, hg2⟩; simp only at hg1 hg2; omega)) | with_reducible refine Ag.drew ?_ | ((with_reducible apply Ag.via); (first | exact hw' | exact hb1 | exact hb2 | exact hb3 | exact hb4 | exact hb5 | exact hb6 | exact hb7 | exact hb8 | exact hb9 | exact hb0 | exact hw | exact hb); rotate_left; (rintro g ⟨hg1, hg2⟩; (try simp only [World.size_alloc, World.size_setCell, World.size_drew]); omega)))))).lo (by simp; omega)
    have hb5 : Below w.heap.size w w5 := by rw [hw5]; (repeat' (first | with_reducible exact Below.refl _ _ | ((with_reducible refine Below.alloc ?_ ?_ _); rotate_left; first | omega | (simp <;> omega)) | ((with_reducible refine Below.setCell ?_ ?_ _); rotate_left; first | (simp only; omega) | (simp <;> omega)) | with_reducible refine Below.drew ?_ | with_reducible refine below_drewN ?_ _ | ((with_reducible apply Bw.out); (first | exact hw' | exact hb1 | exact hb2 | exact hb3 | exact hb4 | exact hb5 | exact hb6 | exact hb7 | exact hb8 | exact hb9 | exact hb0 | exact hw | exact hb); rotate_left; first | omega | (simp <;> omega)) | assumption))
    have sh : 0 < n2 → ∃ g, A2 = some ⟨g, 0, none⟩ ∧ w1.heap.size ≤ g ∧ g < w2.heap.size ∧ Shape w5 g 34 (n2 * 3) := fun h => by
      obtain ⟨g, e, hlo, _, hsh⟩ := h2.shape h
      obtain ⟨g', e', _, hlt, _⟩ := hv2.shape h
      rw [e] at e'; cases e'
      exact ⟨g, e, hlo, hlt, hsh⟩
    have z0 := x0.lt
    have zz2 := x2.lt
    have z3 := x3.lt
    have z4 := x4.lt
    generalize overS b t node length = r at *
    clear hw5 hv2 hv3 hv4 cw1 fw1 cw2 fw2 cw3 fw3 cw4 fw4 hs2 g5
    go_loopw [18] (fun i wr => ∃ k : Nat, k ≤ n2 ∧ i = .int .i64 k ∧ Below w1.heap.size w5 wr ∧ Ag (fun b => w2.heap.size ≤ b) w5 wr ∧
      (0 < n2 → ∃ g, A2 = some ⟨g, 0, none⟩ ∧ w1.heap.size ≤ g ∧ g < w2.heap.size ∧ Shape wr g 34 (n2 * 3))) (fun i _ => n2 - (intOf i).toNat)
    case atStart => exact ⟨0, Nat.zero_le _, rfl, Below.refl _ _, Ag.refl _ _, sh⟩
    case round =>
      obtain ⟨k, hk, rfl, hw, hag, hsh⟩ := hrel
      have bx2 := fun i => (Box.ag hag x2 (Nat.le_refl _)).cell i
      by_cases hkn : k < n2
      · obtain ⟨g, rfl, hlo, hlt, hs⟩ := hsh (by omega)
        obtain ⟨v, hv⟩ := hs.cell (j := k * 3) (by omega)
        have hfz := hs.frozen (k * 3)
        go_wp2
        go_roundw
        case rel => exact ⟨k + 1, by omega, by go_num, hw.setCell hlo _, hag.setCell (by simp only; omega) _, fun _ => ⟨g, rfl, hlo, hlt, hs.set_ _ _⟩⟩
        case measure => simp [intOf]; omega
      · have y0 := Box.via hw x0 (by omega)
        have y3 := Box.ag hag x3 (by omega)
        have y4 := Box.ag hag x4 (by omega)
        have by0 := fun i => y0.cell i
        have by3 := fun i => y3.cell i
        have by4 := fun i => y4.cell i
        have l0 := y0.lt
        have l3 := y3.lt
        have l4 := y4.lt
        have s3 := (h3.fag flatM (hag.mono fun g hg => hg.1)).slc (by decide) flatM
        have s4 := (h4.fag flatM (hag.mono fun g hg => hg.1)).slc (by decide) flatM
        go_upto_region 10 with (fail)
        refine wp_region_q (C := Bw _) (fun _ => by kernel_rfl) (fun _ => by kernel_rfl) (Bw.refl _) (Bw.drew _) ?_
        repeat
          first
          | (refine wpQuiet_go rfl ?_; apply Exists.intro
             refine ⟨fun w' hw' => ?_, ?_⟩
             · first
               | (apply quietAt_or; (with_reducible exact rfl); exact rfl; exact rfl)
               | (apply quietAt_and; (with_reducible exact rfl); exact rfl; exact rfl)
               | (have bc := bcell hw'; go_simp; first | exact rfl | exact ⟨rfl, rfl⟩ | exact Bw.call hw' (sameBook_any r.1 r.1 A3 A4 n3 k3 n4 k4 _ _ _ (s3.below (by decide) hw') (s4.below (by decide) hw')) | exact Bw.call hw' (fills_any _ _ _ _ _ _ _ _ _ _) | exact Bw.call hw' (rfills_any _ _ _ _ _ _ _ _ _ _))
             simp only [Act.put, List.setIfInBounds_toArray, List.set_cons_zero, List.set_cons_succ, gd_gd])
          | ((first | refine wpQuiet_if (wanted_t rfl rfl rfl) ?_ | refine wpQuiet_if (wanted_f rfl rfl rfl) ?_ | refine wpQuiet_if (wanted_gt rfl rfl rfl) ?_ | refine wpQuiet_if (wanted_gf rfl rfl rfl) ?_); apply Exists.intro
             refine ⟨fun hp w' hw' => ?_, ?_⟩
             · first
               | (apply quietAt_or; (with_reducible exact rfl); exact rfl; exact rfl)
               | (apply quietAt_and; (with_reducible exact rfl); exact rfl; exact rfl)
               | (apply quietAt_gor; (with_reducible exact rfl); exact rfl; exact rfl; exact hp)
               | (apply quietAt_gand; (with_reducible exact rfl); exact rfl; exact rfl; exact hp)
               | ((try simp only [Bool.and_eq_true, Bool.or_eq_false_iff, Bool.not_eq_true', Bool.not_eq_eq_eq_not, Bool.not_true, Bool.not_false] at hp); have bc := bcell hw'; go_simp; first | exact rfl | exact ⟨rfl, rfl⟩ | exact Bw.call hw' (sameBook_any r.1 r.1 A3 A4 n3 k3 n4 k4 _ _ _ (s3.below (by decide) hw') (s4.below (by decide) hw')) | exact Bw.call hw' (fills_any _ _ _ _ _ _ _ _ _ _) | exact Bw.call hw' (rfills_any _ _ _ _ _ _ _ _ _ _))
               | exact quietAt_absurd (by simp at hp)
             simp only [Act.put, List.setIfInBounds_toArray, List.set_cons_zero, List.set_cons_succ, gd_gd])
        refine wpQuiet_nil (fun w6 hb6 => ?_)
        obtain ⟨cw6, fw6⟩ := bcell hb6
        have sw6 := Bw.size hb6
        try simp only [World.size_alloc, World.size_setCell, World.size_drew] at cw6 fw6 sw6
        go_wp2
        go_ret
        refine ⟨?_, hb5.trans ((hw.mono (by omega)).trans (by (repeat' (first | with_reducible exact Below.refl _ _ | ((with_reducible refine Below.alloc ?_ ?_ _); rotate_left; first | omega | (simp <;> omega)) | ((with_reducible refine Below.setCell ?_ ?_ _); rotate_left; first | (simp only; omega) | (simp <;> omega)) | with_reducible refine Below.drew ?_ | with_reducible refine below_drewN ?_ _ | ((with_reducible apply Bw.out); (first | exact hw' | exact hb1 | exact hb2 | exact hb3 | exact hb4 | exact hb5 | exact hb6 | exact hb7 | exact hb8 | exact hb9 | exact hb0 | exact hw | exact hb); rotate_left; first | omega | (simp <;> omega)) | assumption))))⟩
        show Ending.returned (.bool _) = _
        simp [eqb_refl]
end Go.Proofs.Ytkdbedbefojieaa
