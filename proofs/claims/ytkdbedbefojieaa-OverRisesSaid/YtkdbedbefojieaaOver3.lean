/-
  LAYER 24: going over, by the program.
-/
import Derived.Test.YtkdbedbefojieaaOver2
import Derived.Test.YtkdbedbefojieaaClone
import Derived.Test.YtkdbedbefojieaaBox
namespace Go.Proofs.Ytkdbedbefojieaa
set_option linter.unusedVariables false
set_option linter.unusedSimpArgs false
open Go.RowKit
set_option maxRecDepth 100000
attribute [local go_sem] gd_true

def zeroCfg : Config := ⟨0, []⟩
def zeroBook : Book := ⟨zeroCfg, 0, false, 0⟩
/-- going over -/
noncomputable def overS (b : Book) (t : Config) (node length : Int) : Book × Bool × Int :=
  if (!mayS t || decide (length < 0)) = true then (zeroBook, false, 2)
  else if t.epoch ≤ b.cfg.epoch then (zeroBook, false, 240)
  else if (atMS t node).2 = false then (⟨t, 0, false, 0⟩, false, 0)
  else if (atMS t node).1.since ≠ b.since then (⟨t, (atMS t node).1.since, t.epoch == 1, 0⟩, true, 0)
  else (⟨t, (atMS t node).1.since, b.whole, if b.whole = true then length else 0⟩, false, 0)

set_option maxHeartbeats 4000000 in
theorem over_any (b : Book) (t : Config) (node length : Int) (A B : Option Addr) (n c n' c' : Nat) (G : Nat → Prop) (w : World) (ht : SlM w G B n' c' t.members) (hn : n' ≤ 1000000) :
    Calls Try.prog 12 #[.agg #[.int .i64 b.cfg.epoch, .slice A n c, .int .i64 b.since, .bool b.whole, .int .i64 b.upto], .agg #[.int .i64 t.epoch, .slice B n' c'], .int .i64 node, .int .i64 length] w fun e w' =>
      ∃ A' m c', e = .returned (.tuple #[.agg #[.int .i64 (overS b t node length).1.cfg.epoch, .slice A' m c', .int .i64 (overS b t node length).1.since, .bool (overS b t node length).1.whole, .int .i64 (overS b t node length).1.upto],
        .bool (overS b t node length).2.1, .int .i64 (overS b t node length).2.2]) ∧
      Own tMember 34 w' w.heap.size (fun _ => False) (.slice A' m c') (overS b t node length).1.cfg.members ∧ Below w.heap.size w w' := by
  go_enter Try.func12, Try.ntmps12
  go_upto_region 1 with (fail)
  refine wp_region_q (C := Bw _) (fun _ => by kernel_rfl) (fun _ => by kernel_rfl) (Bw.refl _) (Bw.drew _) ?_
  repeat
    first
    | (refine wpQuiet_go rfl ?_; apply Exists.intro
       refine ⟨fun w' hw' => ?_, ?_⟩
       · first
         | (apply quietAt_or; (with_reducible exact rfl); exact rfl; exact rfl)
         | (apply quietAt_and; (with_reducible exact rfl); exact rfl; exact rfl)
         | (have bc := bcell hw'; go_simp; first | exact rfl | exact ⟨rfl, rfl⟩ | exact Bw.call hw' (may_any t B n' c' G _ (ht.below (by decide) (by (repeat' (first | with_reducible exact Below.refl _ _ | ((with_reducible refine Below.alloc ?_ ?_ _); rotate_left; first | omega | (simp <;> omega)) | ((with_reducible refine Below.setCell ?_ ?_ _); rotate_left; first | (simp only; omega) | (simp <;> omega)) | with_reducible refine Below.drew ?_ | with_reducible refine below_drewN ?_ _ | ((with_reducible apply Bw.out); (first | exact hw' | exact hb1 | exact hb2 | exact hb3 | exact hb4 | exact hb5 | exact hb6 | exact hb7 | exact hb8 | exact hb9 | exact hb0 | exact hw | exact hb); rotate_left; first | omega | (simp <;> omega)) | assumption))))))
       simp only [Act.put, List.setIfInBounds_toArray, List.set_cons_zero, List.set_cons_succ, gd_gd])
    | ((first | refine wpQuiet_if (wanted_t rfl rfl rfl) ?_ | refine wpQuiet_if (wanted_f rfl rfl rfl) ?_ | refine wpQuiet_if (wanted_gt rfl rfl rfl) ?_ | refine wpQuiet_if (wanted_gf rfl rfl rfl) ?_); apply Exists.intro
       refine ⟨fun hp w' hw' => ?_, ?_⟩
       · first
         | (apply quietAt_or; (with_reducible exact rfl); exact rfl; exact rfl)
         | (apply quietAt_and; (with_reducible exact rfl); exact rfl; exact rfl)
         | (apply quietAt_gor; (with_reducible exact rfl); exact rfl; exact rfl; exact hp)
         | (apply quietAt_gand; (with_reducible exact rfl); exact rfl; exact rfl; exact hp)
         | ((try simp only [Bool.and_eq_true, Bool.or_eq_false_iff, Bool.not_eq_true', Bool.not_eq_eq_eq_not, Bool.not_true, Bool.not_false] at hp); have bc := bcell hw'; go_simp; first | exact rfl | exact ⟨rfl, rfl⟩ | exact Bw.call hw' (may_any t B n' c' G _ (ht.below (by decide) (by (repeat' (first | with_reducible exact Below.refl _ _ | ((with_reducible refine Below.alloc ?_ ?_ _); rotate_left; first | omega | (simp <;> omega)) | ((with_reducible refine Below.setCell ?_ ?_ _); rotate_left; first | (simp only; omega) | (simp <;> omega)) | with_reducible refine Below.drew ?_ | with_reducible refine below_drewN ?_ _ | ((with_reducible apply Bw.out); (first | exact hw' | exact hb1 | exact hb2 | exact hb3 | exact hb4 | exact hb5 | exact hb6 | exact hb7 | exact hb8 | exact hb9 | exact hb0 | exact hw | exact hb); rotate_left; first | omega | (simp <;> omega)) | assumption))))))
         | exact quietAt_absurd (by simp at hp)
       simp only [Act.put, List.setIfInBounds_toArray, List.set_cons_zero, List.set_cons_succ, gd_gd])
  refine wpQuiet_nil (fun w1 hb1 => ?_)
  obtain ⟨cw1, fw1⟩ := bcell hb1
  have sw1 := Bw.size hb1
  try simp only [World.size_alloc, World.size_setCell, World.size_drew] at cw1 fw1 sw1
  have ltww1 : w.heap.size < w1.heap.size := (by omega)
  have leww1 : w.heap.size ≤ w1.heap.size := (by omega)
  have ltww11 : w.heap.size + 1 < w1.heap.size := (by omega)
  have leww11 : w.heap.size + 1 ≤ w1.heap.size := (by omega)
  have ltww12 : w.heap.size + 2 < w1.heap.size := (by omega)
  have leww12 : w.heap.size + 2 ≤ w1.heap.size := (by omega)
  go_wp2_with (first
    | (go_at_call 36; refine (own_any t B n' c' G _ (ht.below (by decide) (by (repeat' (first | with_reducible exact Below.refl _ _ | ((with_reducible refine Below.alloc ?_ ?_ _); rotate_left; first | omega | (simp <;> omega)) | ((with_reducible refine Below.setCell ?_ ?_ _); rotate_left; first | (simp only; omega) | (simp <;> omega)) | with_reducible refine Below.drew ?_ | with_reducible refine below_drewN ?_ _ | ((with_reducible apply Bw.out); (first | exact hw' | exact hb1 | exact hb2 | exact hb3 | exact hb4 | exact hb5 | exact hb6 | exact hb7 | exact hb8 | exact hb9 | exact hb0 | exact hw | exact hb); rotate_left; first | omega | (simp <;> omega)) | assumption)))) hn).mono ?_; rintro e w2 ⟨A2, n2, c2, rfl, hv2, hb2⟩; obtain ⟨cw2, fw2⟩ := bcell hb2; have sw2 := Below.size hb2; (try simp only [World.size_alloc, World.size_setCell, World.size_drew] at cw2 fw2 sw2); have ltww2 : w.heap.size < w2.heap.size := (by omega); have leww2 : w.heap.size ≤ w2.heap.size := (by omega); have ltww21 : w.heap.size + 1 < w2.heap.size := (by omega); have leww21 : w.heap.size + 1 ≤ w2.heap.size := (by omega); have ltww22 : w.heap.size + 2 < w2.heap.size := (by omega); have leww22 : w.heap.size + 2 ≤ w2.heap.size := (by omega))
    | (go_at_call 26; refine (At_any t B n' c' G node _ (ht.below (by decide) (by (repeat' (first | with_reducible exact Below.refl _ _ | ((with_reducible refine Below.alloc ?_ ?_ _); rotate_left; first | omega | (simp <;> omega)) | ((with_reducible refine Below.setCell ?_ ?_ _); rotate_left; first | (simp only; omega) | (simp <;> omega)) | with_reducible refine Below.drew ?_ | with_reducible refine below_drewN ?_ _ | ((with_reducible apply Bw.out); (first | exact hw' | exact hb1 | exact hb2 | exact hb3 | exact hb4 | exact hb5 | exact hb6 | exact hb7 | exact hb8 | exact hb9 | exact hb0 | exact hw | exact hb); rotate_left; first | omega | (simp <;> omega)) | assumption))))).mono ?_; rintro e w3 ⟨rfl, hb3⟩; obtain ⟨cw3, fw3⟩ := bcell hb3; have sw3 := Below.size hb3; (try simp only [World.size_alloc, World.size_setCell, World.size_drew] at cw3 fw3 sw3); have ltww3 : w.heap.size < w3.heap.size := (by omega); have leww3 : w.heap.size ≤ w3.heap.size := (by omega); have ltww31 : w.heap.size + 1 < w3.heap.size := (by omega); have leww31 : w.heap.size + 1 ≤ w3.heap.size := (by omega); have ltww32 : w.heap.size + 2 < w3.heap.size := (by omega); have leww32 : w.heap.size + 2 ≤ w3.heap.size := (by omega); have ltw2w3 : w2.heap.size < w3.heap.size := (by omega); have lew2w3 : w2.heap.size ≤ w3.heap.size := (by omega)))
  · have hs : overS b t node length = (zeroBook, false, 2) := by
      have h1 : (!mayS t) = true ∨ length < 0 := by assumption
      unfold overS
      rw [if_pos (by simpa using h1)]
    rw [hs]
    refine bodyPost_ret (v := .tuple #[.agg #[.int .i64 0, .slice none 0 0, .int .i64 0, .bool false, .int .i64 0], .bool false, .int .i64 2]) (results_c3 rfl rfl rfl rfl (by (repeat' (first | with_reducible exact hbox | with_reducible apply Box.set_ | ((with_reducible apply Box.new); first | (simp only [World.size_alloc, World.size_setCell, World.size_drew]; done) | ((try simp only [World.size_alloc, World.size_setCell, World.size_drew]); omega)) | with_reducible apply Box.alloc | ((with_reducible apply Box.far); rotate_left; (simp only; omega)) | with_reducible apply Box.drew | ((with_reducible apply Box.via); (first | exact hw' | exact hb1 | exact hb2 | exact hb3 | exact hb4 | exact hb5 | exact hb6 | exact hb7 | exact hb8 | exact hb9 | exact hb0 | exact hw | exact hb); rotate_left; ((try simp only [World.size_alloc, World.size_setCell, World.size_drew]); omega)) | (simp only [List.set_cons_succ, List.set_cons_zero]; done) | ((try simp only [List.set_cons_succ, List.set_cons_zero]); with_reducible exact rfl)))) (by rfl) Try.underlying26 (by kernel_rfl)) rfl ?_
    exact ⟨_, _, _, rfl, Own.nil, by (repeat' (first | with_reducible exact Below.refl _ _ | ((with_reducible refine Below.alloc ?_ ?_ _); rotate_left; first | omega | (simp <;> omega)) | ((with_reducible refine Below.setCell ?_ ?_ _); rotate_left; first | (simp only; omega) | (simp <;> omega)) | with_reducible refine Below.drew ?_ | with_reducible refine below_drewN ?_ _ | ((with_reducible apply Bw.out); (first | exact hw' | exact hb1 | exact hb2 | exact hb3 | exact hb4 | exact hb5 | exact hb6 | exact hb7 | exact hb8 | exact hb9 | exact hb0 | exact hw | exact hb); rotate_left; first | omega | (simp <;> omega)) | assumption))⟩
  · have hs : overS b t node length = (zeroBook, false, 240) := by
      have h1 : (!mayS t) = false ∧ 0 ≤ length := by assumption
      have h2 : t.epoch ≤ b.cfg.epoch := by assumption
      unfold overS
      rw [if_neg (by simp; simpa using h1), if_pos h2]
    rw [hs]
    refine bodyPost_ret (v := .tuple #[.agg #[.int .i64 0, .slice none 0 0, .int .i64 0, .bool false, .int .i64 0], .bool false, .int .i64 240]) (results_c3 rfl rfl rfl rfl (by (repeat' (first | with_reducible exact hbox | with_reducible apply Box.set_ | ((with_reducible apply Box.new); first | (simp only [World.size_alloc, World.size_setCell, World.size_drew]; done) | ((try simp only [World.size_alloc, World.size_setCell, World.size_drew]); omega)) | with_reducible apply Box.alloc | ((with_reducible apply Box.far); rotate_left; (simp only; omega)) | with_reducible apply Box.drew | ((with_reducible apply Box.via); (first | exact hw' | exact hb1 | exact hb2 | exact hb3 | exact hb4 | exact hb5 | exact hb6 | exact hb7 | exact hb8 | exact hb9 | exact hb0 | exact hw | exact hb); rotate_left; ((try simp only [World.size_alloc, World.size_setCell, World.size_drew]); omega)) | (simp only [List.set_cons_succ, List.set_cons_zero]; done) | ((try simp only [List.set_cons_succ, List.set_cons_zero]); with_reducible exact rfl)))) (by rfl) Try.underlying26 (by kernel_rfl)) rfl ?_
    exact ⟨_, _, _, rfl, Own.nil, by (repeat' (first | with_reducible exact Below.refl _ _ | ((with_reducible refine Below.alloc ?_ ?_ _); rotate_left; first | omega | (simp <;> omega)) | ((with_reducible refine Below.setCell ?_ ?_ _); rotate_left; first | (simp only; omega) | (simp <;> omega)) | with_reducible refine Below.drew ?_ | with_reducible refine below_drewN ?_ _ | ((with_reducible apply Bw.out); (first | exact hw' | exact hb1 | exact hb2 | exact hb3 | exact hb4 | exact hb5 | exact hb6 | exact hb7 | exact hb8 | exact hb9 | exact hb0 | exact hw | exact hb); rotate_left; first | omega | (simp <;> omega)) | assumption))⟩
  · have hs : overS b t node length = (⟨t, 0, false, 0⟩, false, 0) := by
      have h1 : (!mayS t) = false ∧ 0 ≤ length := by assumption
      have h2 : b.cfg.epoch < t.epoch := by assumption
      have h3 : (!(atMS t node).snd) = true := by assumption
      unfold overS
      rw [if_neg (by simp; simpa using h1), if_neg (by omega), if_pos (by simpa using h3)]
    rw [hs]
    refine bodyPost_ret (v := .tuple #[.agg #[.int .i64 t.epoch, .slice A2 n2 c2, .int .i64 0, .bool false, .int .i64 0], .bool false, .int .i64 0]) (results_c3 rfl rfl rfl rfl (by (repeat' (first | with_reducible exact hbox | with_reducible apply Box.set_ | ((with_reducible apply Box.new); first | (simp only [World.size_alloc, World.size_setCell, World.size_drew]; done) | ((try simp only [World.size_alloc, World.size_setCell, World.size_drew]); omega)) | with_reducible apply Box.alloc | ((with_reducible apply Box.far); rotate_left; (simp only; omega)) | with_reducible apply Box.drew | ((with_reducible apply Box.via); (first | exact hw' | exact hb1 | exact hb2 | exact hb3 | exact hb4 | exact hb5 | exact hb6 | exact hb7 | exact hb8 | exact hb9 | exact hb0 | exact hw | exact hb); rotate_left; ((try simp only [World.size_alloc, World.size_setCell, World.size_drew]); omega)) | (simp only [List.set_cons_succ, List.set_cons_zero]; done) | ((try simp only [List.set_cons_succ, List.set_cons_zero]); with_reducible exact rfl)))) (by rfl) Try.underlying26 (by kernel_rfl)) rfl ?_
    exact ⟨_, _, _, rfl, (hv2.fag flatM (by (repeat' (first | with_reducible exact Ag.refl _ _ | ((with_reducible refine Ag.alloc ?_ ?_ _); rotate_left; (rintro g ⟨hg1, hg2⟩; (try simp only [World.size_alloc, World.size_setCell, World.size_drew]); omega)) | ((with_reducible refine Ag.setCell ?_ ?_ _); rotate_left; (rintro ⟨hg1, hg2⟩; simp only at hg1 hg2; omega)) | with_reducible refine Ag.drew ?_ | ((with_reducible apply Ag.via); (first | exact hw' | exact hb1 | exact hb2 | exact hb3 | exact hb4 | exact hb5 | exact hb6 | exact hb7 | exact hb8 | exact hb9 | exact hb0 | exact hw | exact hb); rotate_left; (rintro g ⟨hg1, hg2⟩; (try simp only [World.size_alloc, World.size_setCell, World.size_drew]); omega)))))).lo (by omega), by (repeat' (first | with_reducible exact Below.refl _ _ | ((with_reducible refine Below.alloc ?_ ?_ _); rotate_left; first | omega | (simp <;> omega)) | ((with_reducible refine Below.setCell ?_ ?_ _); rotate_left; first | (simp only; omega) | (simp <;> omega)) | with_reducible refine Below.drew ?_ | with_reducible refine below_drewN ?_ _ | ((with_reducible apply Bw.out); (first | exact hw' | exact hb1 | exact hb2 | exact hb3 | exact hb4 | exact hb5 | exact hb6 | exact hb7 | exact hb8 | exact hb9 | exact hb0 | exact hw | exact hb); rotate_left; first | omega | (simp <;> omega)) | assumption))⟩
  · have hs : overS b t node length = (⟨t, (atMS t node).1.since, t.epoch == 1, 0⟩, true, 0) := by
      have h1 : (!mayS t) = false ∧ 0 ≤ length := by assumption
      have h2 : b.cfg.epoch < t.epoch := by assumption
      have h3 : (!(atMS t node).snd) = false := by assumption
      have h4 : ((atMS t node).fst.since != b.since) = true := by assumption
      unfold overS
      rw [if_neg (by simp; simpa using h1), if_neg (by omega), if_neg (by simpa using h3), if_pos (by simpa using h4)]
    rw [hs]
    refine bodyPost_ret (v := .tuple #[.agg #[.int .i64 t.epoch, .slice A2 n2 c2, .int .i64 (atMS t node).1.since, .bool (t.epoch == 1), .int .i64 0], .bool true, .int .i64 0]) (results_c3 rfl rfl rfl rfl (by (repeat' (first | with_reducible exact hbox | with_reducible apply Box.set_ | ((with_reducible apply Box.new); first | (simp only [World.size_alloc, World.size_setCell, World.size_drew]; done) | ((try simp only [World.size_alloc, World.size_setCell, World.size_drew]); omega)) | with_reducible apply Box.alloc | ((with_reducible apply Box.far); rotate_left; (simp only; omega)) | with_reducible apply Box.drew | ((with_reducible apply Box.via); (first | exact hw' | exact hb1 | exact hb2 | exact hb3 | exact hb4 | exact hb5 | exact hb6 | exact hb7 | exact hb8 | exact hb9 | exact hb0 | exact hw | exact hb); rotate_left; ((try simp only [World.size_alloc, World.size_setCell, World.size_drew]); omega)) | (simp only [List.set_cons_succ, List.set_cons_zero]; done) | ((try simp only [List.set_cons_succ, List.set_cons_zero]); with_reducible exact rfl)))) (by rfl) Try.underlying26 (by kernel_rfl)) rfl ?_
    exact ⟨_, _, _, rfl, (hv2.fag flatM (by (repeat' (first | with_reducible exact Ag.refl _ _ | ((with_reducible refine Ag.alloc ?_ ?_ _); rotate_left; (rintro g ⟨hg1, hg2⟩; (try simp only [World.size_alloc, World.size_setCell, World.size_drew]); omega)) | ((with_reducible refine Ag.setCell ?_ ?_ _); rotate_left; (rintro ⟨hg1, hg2⟩; simp only at hg1 hg2; omega)) | with_reducible refine Ag.drew ?_ | ((with_reducible apply Ag.via); (first | exact hw' | exact hb1 | exact hb2 | exact hb3 | exact hb4 | exact hb5 | exact hb6 | exact hb7 | exact hb8 | exact hb9 | exact hb0 | exact hw | exact hb); rotate_left; (rintro g ⟨hg1, hg2⟩; (try simp only [World.size_alloc, World.size_setCell, World.size_drew]); omega)))))).lo (by omega), by (repeat' (first | with_reducible exact Below.refl _ _ | ((with_reducible refine Below.alloc ?_ ?_ _); rotate_left; first | omega | (simp <;> omega)) | ((with_reducible refine Below.setCell ?_ ?_ _); rotate_left; first | (simp only; omega) | (simp <;> omega)) | with_reducible refine Below.drew ?_ | with_reducible refine below_drewN ?_ _ | ((with_reducible apply Bw.out); (first | exact hw' | exact hb1 | exact hb2 | exact hb3 | exact hb4 | exact hb5 | exact hb6 | exact hb7 | exact hb8 | exact hb9 | exact hb0 | exact hw | exact hb); rotate_left; first | omega | (simp <;> omega)) | assumption))⟩
  · have hs : overS b t node length = (⟨t, (atMS t node).1.since, true, length⟩, false, 0) := by
      have h1 : (!mayS t) = false ∧ 0 ≤ length := by assumption
      have h2 : b.cfg.epoch < t.epoch := by assumption
      have h3 : (!(atMS t node).snd) = false := by assumption
      have h4 : ((atMS t node).fst.since != b.since) = false := by assumption
      have h5 : b.whole = true := by assumption
      unfold overS
      rw [if_neg (by simp; simpa using h1), if_neg (by omega), if_neg (by simpa using h3), if_neg (by simpa using h4), h5]; rfl
    rw [hs]
    refine bodyPost_ret (v := .tuple #[.agg #[.int .i64 t.epoch, .slice A2 n2 c2, .int .i64 (atMS t node).1.since, .bool true, .int .i64 length], .bool false, .int .i64 0]) (results_c3 rfl rfl rfl rfl (by (repeat' (first | with_reducible exact hbox | with_reducible apply Box.set_ | ((with_reducible apply Box.new); first | (simp only [World.size_alloc, World.size_setCell, World.size_drew]; done) | ((try simp only [World.size_alloc, World.size_setCell, World.size_drew]); omega)) | with_reducible apply Box.alloc | ((with_reducible apply Box.far); rotate_left; (simp only; omega)) | with_reducible apply Box.drew | ((with_reducible apply Box.via); (first | exact hw' | exact hb1 | exact hb2 | exact hb3 | exact hb4 | exact hb5 | exact hb6 | exact hb7 | exact hb8 | exact hb9 | exact hb0 | exact hw | exact hb); rotate_left; ((try simp only [World.size_alloc, World.size_setCell, World.size_drew]); omega)) | (simp only [List.set_cons_succ, List.set_cons_zero]; done) | ((try simp only [List.set_cons_succ, List.set_cons_zero]); with_reducible exact rfl)))) (by rfl) Try.underlying26 (by kernel_rfl)) rfl ?_
    exact ⟨_, _, _, rfl, (hv2.fag flatM (by (repeat' (first | with_reducible exact Ag.refl _ _ | ((with_reducible refine Ag.alloc ?_ ?_ _); rotate_left; (rintro g ⟨hg1, hg2⟩; (try simp only [World.size_alloc, World.size_setCell, World.size_drew]); omega)) | ((with_reducible refine Ag.setCell ?_ ?_ _); rotate_left; (rintro ⟨hg1, hg2⟩; simp only at hg1 hg2; omega)) | with_reducible refine Ag.drew ?_ | ((with_reducible apply Ag.via); (first | exact hw' | exact hb1 | exact hb2 | exact hb3 | exact hb4 | exact hb5 | exact hb6 | exact hb7 | exact hb8 | exact hb9 | exact hb0 | exact hw | exact hb); rotate_left; (rintro g ⟨hg1, hg2⟩; (try simp only [World.size_alloc, World.size_setCell, World.size_drew]); omega)))))).lo (by omega), by (repeat' (first | with_reducible exact Below.refl _ _ | ((with_reducible refine Below.alloc ?_ ?_ _); rotate_left; first | omega | (simp <;> omega)) | ((with_reducible refine Below.setCell ?_ ?_ _); rotate_left; first | (simp only; omega) | (simp <;> omega)) | with_reducible refine Below.drew ?_ | with_reducible refine below_drewN ?_ _ | ((with_reducible apply Bw.out); (first | exact hw' | exact hb1 | exact hb2 | exact hb3 | exact hb4 | exact hb5 | exact hb6 | exact hb7 | exact hb8 | exact hb9 | exact hb0 | exact hw | exact hb); rotate_left; first | omega | (simp <;> omega)) | assumption))⟩
  · have hs : overS b t node length = (⟨t, (atMS t node).1.since, false, 0⟩, false, 0) := by
      have h1 : (!mayS t) = false ∧ 0 ≤ length := by assumption
      have h2 : b.cfg.epoch < t.epoch := by assumption
      have h3 : (!(atMS t node).snd) = false := by assumption
      have h4 : ((atMS t node).fst.since != b.since) = false := by assumption
      have h5 : b.whole = false := by assumption
      unfold overS
      rw [if_neg (by simp; simpa using h1), if_neg (by omega), if_neg (by simpa using h3), if_neg (by simpa using h4), h5]; rfl
    rw [hs]
    refine bodyPost_ret (v := .tuple #[.agg #[.int .i64 t.epoch, .slice A2 n2 c2, .int .i64 (atMS t node).1.since, .bool false, .int .i64 0], .bool false, .int .i64 0]) (results_c3 rfl rfl rfl rfl (by (repeat' (first | with_reducible exact hbox | with_reducible apply Box.set_ | ((with_reducible apply Box.new); first | (simp only [World.size_alloc, World.size_setCell, World.size_drew]; done) | ((try simp only [World.size_alloc, World.size_setCell, World.size_drew]); omega)) | with_reducible apply Box.alloc | ((with_reducible apply Box.far); rotate_left; (simp only; omega)) | with_reducible apply Box.drew | ((with_reducible apply Box.via); (first | exact hw' | exact hb1 | exact hb2 | exact hb3 | exact hb4 | exact hb5 | exact hb6 | exact hb7 | exact hb8 | exact hb9 | exact hb0 | exact hw | exact hb); rotate_left; ((try simp only [World.size_alloc, World.size_setCell, World.size_drew]); omega)) | (simp only [List.set_cons_succ, List.set_cons_zero]; done) | ((try simp only [List.set_cons_succ, List.set_cons_zero]); with_reducible exact rfl)))) (by rfl) Try.underlying26 (by kernel_rfl)) rfl ?_
    exact ⟨_, _, _, rfl, (hv2.fag flatM (by (repeat' (first | with_reducible exact Ag.refl _ _ | ((with_reducible refine Ag.alloc ?_ ?_ _); rotate_left; (rintro g ⟨hg1, hg2⟩; (try simp only [World.size_alloc, World.size_setCell, World.size_drew]); omega)) | ((with_reducible refine Ag.setCell ?_ ?_ _); rotate_left; (rintro ⟨hg1, hg2⟩; simp only at hg1 hg2; omega)) | with_reducible refine Ag.drew ?_ | ((with_reducible apply Ag.via); (first | exact hw' | exact hb1 | exact hb2 | exact hb3 | exact hb4 | exact hb5 | exact hb6 | exact hb7 | exact hb8 | exact hb9 | exact hb0 | exact hw | exact hb); rotate_left; (rintro g ⟨hg1, hg2⟩; (try simp only [World.size_alloc, World.size_setCell, World.size_drew]); omega)))))).lo (by omega), by (repeat' (first | with_reducible exact Below.refl _ _ | ((with_reducible refine Below.alloc ?_ ?_ _); rotate_left; first | omega | (simp <;> omega)) | ((with_reducible refine Below.setCell ?_ ?_ _); rotate_left; first | (simp only; omega) | (simp <;> omega)) | with_reducible refine Below.drew ?_ | with_reducible refine below_drewN ?_ _ | ((with_reducible apply Bw.out); (first | exact hw' | exact hb1 | exact hb2 | exact hb3 | exact hb4 | exact hb5 | exact hb6 | exact hb7 | exact hb8 | exact hb9 | exact hb0 | exact hw | exact hb); rotate_left; first | omega | (simp <;> omega)) | assumption))⟩
end Go.Proofs.Ytkdbedbefojieaa
