/-
  LAYER 24: configurations and books that are the same; the document's May of a configuration.
-/
import Derived.Test.YtkdbedbefojieaaOver1
namespace Go.Proofs.Ytkdbedbefojieaa
set_option linter.unusedVariables false
set_option linter.unusedSimpArgs false
open Go.RowKit
set_option maxRecDepth 100000
attribute [local go_sem] gd_true

theorem list_eq_of {α : Type} {l m : List α} (hl : l.length = m.length) (h : ∀ (j : Nat) a b, l[j]? = some a → m[j]? = some b → a = b) : l = m := by
  apply List.ext_getElem? 
  intro i
  by_cases hi : i < l.length
  · rw [List.getElem?_eq_getElem hi, List.getElem?_eq_getElem (by omega)]
    rw [h i _ _ (List.getElem?_eq_getElem hi) (List.getElem?_eq_getElem (by omega))]
  · rw [List.getElem?_eq_none (by omega), List.getElem?_eq_none (by omega)]

set_option maxHeartbeats 1000000 in
theorem sameConfig_any (x y : Config) (A B : Option Addr) (n c n' c' : Nat) (F G : Nat → Prop) (w : World) (hx : SlM w F A n c x.members) (hy : SlM w G B n' c' y.members) :
    Calls Try.prog 38 #[.agg #[.int .i64 x.epoch, .slice A n c], .agg #[.int .i64 y.epoch, .slice B n' c']] w fun e w' => e = .returned (.bool (eqb x y)) ∧ Below w.heap.size w w' := by
  obtain ⟨hnm, hmx, hn1, hn2⟩ := hx.facts
  obtain ⟨hnm', hmx', hn1', hn2'⟩ := hy.facts
  go_enter Try.func38, Try.ntmps38
  go_upto_region 1 with (fail)
  refine wp_region_q (C := Bw _) (fun _ => by kernel_rfl) (fun _ => by kernel_rfl) (Bw.refl _) (Bw.drew _) ?_
  repeat
    first
    | (refine wpQuiet_go rfl ?_; apply Exists.intro
       refine ⟨fun w' hw' => ?_, ?_⟩
       · first
         | (apply quietAt_or; (with_reducible exact rfl); exact rfl; exact rfl)
         | (apply quietAt_and; (with_reducible exact rfl); exact rfl; exact rfl)
         | (have bc := bcell hw'; go_simp; first | exact rfl | exact ⟨rfl, rfl⟩ | fail)
       simp only [Act.put, List.setIfInBounds_toArray, List.set_cons_zero, List.set_cons_succ, gd_gd])
    | ((first | refine wpQuiet_if (wanted_t rfl rfl rfl) ?_ | refine wpQuiet_if (wanted_f rfl rfl rfl) ?_ | refine wpQuiet_if (wanted_gt rfl rfl rfl) ?_ | refine wpQuiet_if (wanted_gf rfl rfl rfl) ?_); apply Exists.intro
       refine ⟨fun hp w' hw' => ?_, ?_⟩
       · first
         | (apply quietAt_or; (with_reducible exact rfl); exact rfl; exact rfl)
         | (apply quietAt_and; (with_reducible exact rfl); exact rfl; exact rfl)
         | (apply quietAt_gor; (with_reducible exact rfl); exact rfl; exact rfl; exact hp)
         | (apply quietAt_gand; (with_reducible exact rfl); exact rfl; exact rfl; exact hp)
         | ((try simp only [Bool.and_eq_true, Bool.or_eq_false_iff, Bool.not_eq_true', Bool.not_eq_eq_eq_not, Bool.not_true, Bool.not_false] at hp); have bc := bcell hw'; go_simp; first | exact rfl | exact ⟨rfl, rfl⟩ | fail)
         | exact quietAt_absurd (by simp at hp)
       simp only [Act.put, List.setIfInBounds_toArray, List.set_cons_zero, List.set_cons_succ, gd_gd])
  refine wpQuiet_nil (fun w1 hb1 => ?_)
  obtain ⟨cw1, fw1⟩ := bcell hb1
  have sw1 := Bw.size hb1
  try simp only [World.size_alloc, World.size_setCell, World.size_drew] at cw1 fw1 sw1
  go_wp2
  · have hne : x ≠ y := by
      rename_i hf
      rintro rfl
      simp at hf
      omega
    go_ret
    exact ⟨by rw [eqb_false.2 hne]; rfl, by (repeat' (first | with_reducible exact Below.refl _ _ | ((with_reducible refine Below.alloc ?_ ?_ _); rotate_left; first | omega | (simp <;> omega)) | ((with_reducible refine Below.setCell ?_ ?_ _); rotate_left; first | (simp only; omega) | (simp <;> omega)) | with_reducible refine Below.drew ?_ | with_reducible refine below_drewN ?_ _ | ((with_reducible apply Bw.out); (first | exact hw' | exact hb1 | exact hb2 | exact hb3 | exact hb4 | exact hb5 | exact hb6 | exact hb7 | exact hb8 | exact hb9 | exact hb0 | exact hw | exact hb); rotate_left; first | omega | (simp <;> omega)) | assumption))⟩
  · have hq := Lib.hid (‹_ ∧ _› : (x.epoch != y.epoch) = false ∧ ((n : Int) != (n' : Int)) = false)
    have he : x.epoch = y.epoch := by simpa using hq.out.1
    have hn : n = n' := by have := hq.out.2; simp at this; omega
    subst hn
    have He := Lib.hid he; clear he hq
    have ltww1 : w.heap.size < w1.heap.size := (by omega)
    have leww1 : w.heap.size ≤ w1.heap.size := (by omega)
    have ltww11 : w.heap.size + 1 < w1.heap.size := (by omega)
    have leww11 : w.heap.size + 1 ≤ w1.heap.size := (by omega)
    go_loopw [5] (fun i wr => ∃ k : Nat, k ≤ n ∧ i = .int .i64 k ∧ (∀ j a b, j < k → x.members[j]? = some a → y.members[j]? = some b → a = b) ∧ Bw w1 wr) (fun i _ => n - (intOf i).toNat)
    case atStart => exact ⟨0, Nat.zero_le _, rfl, fun j m m' hj => absurd hj (by omega), Bw.refl _⟩
    case round =>
      obtain ⟨k, hk, rfl, hj, hw⟩ := hrel
      obtain ⟨cwr, fwr⟩ := bcell hw
      have swr := Bw.size hw
      have ltwwr : w.heap.size < wr.heap.size := (by omega)
      have lewwr : w.heap.size ≤ wr.heap.size := (by omega)
      have ltwwr1 : w.heap.size + 1 < wr.heap.size := (by omega)
      have lewwr1 : w.heap.size + 1 ≤ wr.heap.size := (by omega)
      by_cases hkn : k < n
      · obtain ⟨b', o, m, rfl, hF, hbl, hm, mok, c0, c1, c2⟩ := (hx.below (by decide) (by (repeat' (first | with_reducible exact Below.refl _ _ | ((with_reducible refine Below.alloc ?_ ?_ _); rotate_left; first | omega | (simp <;> omega)) | ((with_reducible refine Below.setCell ?_ ?_ _); rotate_left; first | (simp only; omega) | (simp <;> omega)) | with_reducible refine Below.drew ?_ | with_reducible refine below_drewN ?_ _ | ((with_reducible apply Bw.out); (first | exact hw' | exact hb1 | exact hb2 | exact hb3 | exact hb4 | exact hb5 | exact hb6 | exact hb7 | exact hb8 | exact hb9 | exact hb0 | exact hw | exact hb); rotate_left; first | omega | (simp <;> omega)) | assumption)) : Below w.heap.size w wr)).mem hkn
        obtain ⟨d', q, m', rfl, hG, hdl, hm', mok', d0, d1, d2⟩ := (hy.below (by decide) (by (repeat' (first | with_reducible exact Below.refl _ _ | ((with_reducible refine Below.alloc ?_ ?_ _); rotate_left; first | omega | (simp <;> omega)) | ((with_reducible refine Below.setCell ?_ ?_ _); rotate_left; first | (simp only; omega) | (simp <;> omega)) | with_reducible refine Below.drew ?_ | with_reducible refine below_drewN ?_ _ | ((with_reducible apply Bw.out); (first | exact hw' | exact hb1 | exact hb2 | exact hb3 | exact hb4 | exact hb5 | exact hb6 | exact hb7 | exact hb8 | exact hb9 | exact hb0 | exact hw | exact hb); rotate_left; first | omega | (simp <;> omega)) | assumption)) : Below w.heap.size w wr)).mem hkn
        have hneq := neqM m m'
        go_upto_region 6 with (fail)
        refine wp_region_q (C := Bw _) (fun _ => by kernel_rfl) (fun _ => by kernel_rfl) (Bw.refl _) (Bw.drew _) ?_
        repeat
          first
          | (refine wpQuiet_go rfl ?_; apply Exists.intro
             refine ⟨fun w' hw' => ?_, ?_⟩
             · first
               | (apply quietAt_or; (with_reducible exact rfl); exact rfl; exact rfl)
               | (apply quietAt_and; (with_reducible exact rfl); exact rfl; exact rfl)
               | (have bc := bcell hw'; go_simp; first | exact rfl | exact ⟨rfl, rfl⟩ | fail)
             simp only [Act.put, List.setIfInBounds_toArray, List.set_cons_zero, List.set_cons_succ, gd_gd])
          | ((first | refine wpQuiet_if (wanted_t rfl rfl rfl) ?_ | refine wpQuiet_if (wanted_f rfl rfl rfl) ?_ | refine wpQuiet_if (wanted_gt rfl rfl rfl) ?_ | refine wpQuiet_if (wanted_gf rfl rfl rfl) ?_); apply Exists.intro
             refine ⟨fun hp w' hw' => ?_, ?_⟩
             · first
               | (apply quietAt_or; (with_reducible exact rfl); exact rfl; exact rfl)
               | (apply quietAt_and; (with_reducible exact rfl); exact rfl; exact rfl)
               | (apply quietAt_gor; (with_reducible exact rfl); exact rfl; exact rfl; exact hp)
               | (apply quietAt_gand; (with_reducible exact rfl); exact rfl; exact rfl; exact hp)
               | ((try simp only [Bool.and_eq_true, Bool.or_eq_false_iff, Bool.not_eq_true', Bool.not_eq_eq_eq_not, Bool.not_true, Bool.not_false] at hp); have bc := bcell hw'; go_simp; first | exact rfl | exact ⟨rfl, rfl⟩ | fail)
               | exact quietAt_absurd (by simp at hp)
             simp only [Act.put, List.setIfInBounds_toArray, List.set_cons_zero, List.set_cons_succ, gd_gd])
        refine wpQuiet_nil (fun w2 hb2 => ?_)
        obtain ⟨cw2, fw2⟩ := bcell hb2
        have sw2 := Bw.size hb2
        try simp only [World.size_alloc, World.size_setCell, World.size_drew] at cw2 fw2 sw2
        go_wp2
        · have hne : x ≠ y := by
            have hf : (!eqb m m') = true := by assumption
            rintro rfl
            rw [hm] at hm'; cases hm'
            rw [eqb_refl] at hf; cases hf
          go_ret
          exact ⟨by rw [eqb_false.2 hne]; rfl, by (repeat' (first | with_reducible exact Below.refl _ _ | ((with_reducible refine Below.alloc ?_ ?_ _); rotate_left; first | omega | (simp <;> omega)) | ((with_reducible refine Below.setCell ?_ ?_ _); rotate_left; first | (simp only; omega) | (simp <;> omega)) | with_reducible refine Below.drew ?_ | with_reducible refine below_drewN ?_ _ | ((with_reducible apply Bw.out); (first | exact hw' | exact hb1 | exact hb2 | exact hb3 | exact hb4 | exact hb5 | exact hb6 | exact hb7 | exact hb8 | exact hb9 | exact hb0 | exact hw | exact hb); rotate_left; first | omega | (simp <;> omega)) | assumption))⟩
        · have hf : (!eqb m m') = false := by assumption
          have hmm : m = m' := eqb_true.1 (by simpa using hf)
          go_roundw
          case rel =>
            refine ⟨k + 1, by omega, by go_num, fun j a b hjk ha hb => ?_, Bw.trans hw (by (repeat' (first | with_reducible exact Below.refl _ _ | ((with_reducible refine Below.alloc ?_ ?_ _); rotate_left; first | omega | (simp <;> omega)) | ((with_reducible refine Below.setCell ?_ ?_ _); rotate_left; first | (simp only; omega) | (simp <;> omega)) | with_reducible refine Below.drew ?_ | with_reducible refine below_drewN ?_ _ | ((with_reducible apply Bw.out); (first | exact hw' | exact hb1 | exact hb2 | exact hb3 | exact hb4 | exact hb5 | exact hb6 | exact hb7 | exact hb8 | exact hb9 | exact hb0 | exact hw | exact hb); rotate_left; first | omega | (simp <;> omega)) | assumption)))⟩
            by_cases e : j = k
            · subst e; rw [hm] at ha; rw [hm'] at hb; cases ha; cases hb; exact hmm
            · exact hj j a b (by omega) ha hb
          case measure => simp [intOf]; omega
      · have heq : x = y := Config.ext_iff'.2 ⟨He.out, list_eq_of (by omega) fun j a b ha hb => hj j a b (by have := (List.getElem?_eq_some_iff.1 ha).1; omega) ha hb⟩
        go_wp2
        go_ret
        exact ⟨by rw [eqb_true.2 heq]; rfl, by (repeat' (first | with_reducible exact Below.refl _ _ | ((with_reducible refine Below.alloc ?_ ?_ _); rotate_left; first | omega | (simp <;> omega)) | ((with_reducible refine Below.setCell ?_ ?_ _); rotate_left; first | (simp only; omega) | (simp <;> omega)) | with_reducible refine Below.drew ?_ | with_reducible refine below_drewN ?_ _ | ((with_reducible apply Bw.out); (first | exact hw' | exact hb1 | exact hb2 | exact hb3 | exact hb4 | exact hb5 | exact hb6 | exact hb7 | exact hb8 | exact hb9 | exact hb0 | exact hw | exact hb); rotate_left; first | omega | (simp <;> omega)) | assumption))⟩

structure Book where
  cfg : Config
  since : Int
  whole : Bool
  upto : Int
theorem Book.ext_iff' {a b : Book} : a = b ↔ a.cfg = b.cfg ∧ a.since = b.since ∧ a.whole = b.whole ∧ a.upto = b.upto := by
  cases a; cases b; simp

theorem sameBook_any (x y : Book) (A B : Option Addr) (n c n' c' : Nat) (F G : Nat → Prop) (w : World) (hx : SlM w F A n c x.cfg.members) (hy : SlM w G B n' c' y.cfg.members) :
    Calls Try.prog 14 #[.agg #[.int .i64 x.cfg.epoch, .slice A n c, .int .i64 x.since, .bool x.whole, .int .i64 x.upto], .agg #[.int .i64 y.cfg.epoch, .slice B n' c', .int .i64 y.since, .bool y.whole, .int .i64 y.upto]] w fun e w' =>
      e = .returned (.bool (eqb x y)) ∧ Below w.heap.size w w' := by
  go_enter Try.func14, Try.ntmps14
  go_upto_region 1 with (fail)
  refine wp_region_q (C := Bw _) (fun _ => by kernel_rfl) (fun _ => by kernel_rfl) (Bw.refl _) (Bw.drew _) ?_
  repeat
    first
    | (refine wpQuiet_go rfl ?_; apply Exists.intro
       refine ⟨fun w' hw' => ?_, ?_⟩
       · first
         | (apply quietAt_or; (with_reducible exact rfl); exact rfl; exact rfl)
         | (apply quietAt_and; (with_reducible exact rfl); exact rfl; exact rfl)
         | (have bc := bcell hw'; go_simp; first | exact rfl | exact ⟨rfl, rfl⟩ | exact Bw.call hw' (sameConfig_any x.cfg y.cfg _ _ _ _ _ _ F G _ (hx.below (by decide) (by (repeat' (first | with_reducible exact Below.refl _ _ | ((with_reducible refine Below.alloc ?_ ?_ _); rotate_left; first | omega | (simp <;> omega)) | ((with_reducible refine Below.setCell ?_ ?_ _); rotate_left; first | (simp only; omega) | (simp <;> omega)) | with_reducible refine Below.drew ?_ | with_reducible refine below_drewN ?_ _ | ((with_reducible apply Bw.out); (first | exact hw' | exact hb1 | exact hb2 | exact hb3 | exact hb4 | exact hb5 | exact hb6 | exact hb7 | exact hb8 | exact hb9 | exact hb0 | exact hw | exact hb); rotate_left; first | omega | (simp <;> omega)) | assumption)))) (hy.below (by decide) (by (repeat' (first | with_reducible exact Below.refl _ _ | ((with_reducible refine Below.alloc ?_ ?_ _); rotate_left; first | omega | (simp <;> omega)) | ((with_reducible refine Below.setCell ?_ ?_ _); rotate_left; first | (simp only; omega) | (simp <;> omega)) | with_reducible refine Below.drew ?_ | with_reducible refine below_drewN ?_ _ | ((with_reducible apply Bw.out); (first | exact hw' | exact hb1 | exact hb2 | exact hb3 | exact hb4 | exact hb5 | exact hb6 | exact hb7 | exact hb8 | exact hb9 | exact hb0 | exact hw | exact hb); rotate_left; first | omega | (simp <;> omega)) | assumption))))))
       simp only [Act.put, List.setIfInBounds_toArray, List.set_cons_zero, List.set_cons_succ, gd_gd])
    | ((first | refine wpQuiet_if (wanted_t rfl rfl rfl) ?_ | refine wpQuiet_if (wanted_f rfl rfl rfl) ?_ | refine wpQuiet_if (wanted_gt rfl rfl rfl) ?_ | refine wpQuiet_if (wanted_gf rfl rfl rfl) ?_); apply Exists.intro
       refine ⟨fun hp w' hw' => ?_, ?_⟩
       · first
         | (apply quietAt_or; (with_reducible exact rfl); exact rfl; exact rfl)
         | (apply quietAt_and; (with_reducible exact rfl); exact rfl; exact rfl)
         | (apply quietAt_gor; (with_reducible exact rfl); exact rfl; exact rfl; exact hp)
         | (apply quietAt_gand; (with_reducible exact rfl); exact rfl; exact rfl; exact hp)
         | ((try simp only [Bool.and_eq_true, Bool.or_eq_false_iff, Bool.not_eq_true', Bool.not_eq_eq_eq_not, Bool.not_true, Bool.not_false] at hp); have bc := bcell hw'; go_simp; first | exact rfl | exact ⟨rfl, rfl⟩ | exact Bw.call hw' (sameConfig_any x.cfg y.cfg _ _ _ _ _ _ F G _ (hx.below (by decide) (by (repeat' (first | with_reducible exact Below.refl _ _ | ((with_reducible refine Below.alloc ?_ ?_ _); rotate_left; first | omega | (simp <;> omega)) | ((with_reducible refine Below.setCell ?_ ?_ _); rotate_left; first | (simp only; omega) | (simp <;> omega)) | with_reducible refine Below.drew ?_ | with_reducible refine below_drewN ?_ _ | ((with_reducible apply Bw.out); (first | exact hw' | exact hb1 | exact hb2 | exact hb3 | exact hb4 | exact hb5 | exact hb6 | exact hb7 | exact hb8 | exact hb9 | exact hb0 | exact hw | exact hb); rotate_left; first | omega | (simp <;> omega)) | assumption)))) (hy.below (by decide) (by (repeat' (first | with_reducible exact Below.refl _ _ | ((with_reducible refine Below.alloc ?_ ?_ _); rotate_left; first | omega | (simp <;> omega)) | ((with_reducible refine Below.setCell ?_ ?_ _); rotate_left; first | (simp only; omega) | (simp <;> omega)) | with_reducible refine Below.drew ?_ | with_reducible refine below_drewN ?_ _ | ((with_reducible apply Bw.out); (first | exact hw' | exact hb1 | exact hb2 | exact hb3 | exact hb4 | exact hb5 | exact hb6 | exact hb7 | exact hb8 | exact hb9 | exact hb0 | exact hw | exact hb); rotate_left; first | omega | (simp <;> omega)) | assumption))))))
         | exact quietAt_absurd (by simp at hp)
       simp only [Act.put, List.setIfInBounds_toArray, List.set_cons_zero, List.set_cons_succ, gd_gd])
  refine wpQuiet_nil (fun w1 hb1 => ?_)
  obtain ⟨cw1, fw1⟩ := bcell hb1
  have sw1 := Bw.size hb1
  try simp only [World.size_alloc, World.size_setCell, World.size_drew] at cw1 fw1 sw1
  go_wp2
  go_ret
  refine ⟨?_, by (repeat' (first | with_reducible exact Below.refl _ _ | ((with_reducible refine Below.alloc ?_ ?_ _); rotate_left; first | omega | (simp <;> omega)) | ((with_reducible refine Below.setCell ?_ ?_ _); rotate_left; first | (simp only; omega) | (simp <;> omega)) | with_reducible refine Below.drew ?_ | with_reducible refine below_drewN ?_ _ | ((with_reducible apply Bw.out); (first | exact hw' | exact hb1 | exact hb2 | exact hb3 | exact hb4 | exact hb5 | exact hb6 | exact hb7 | exact hb8 | exact hb9 | exact hb0 | exact hw | exact hb); rotate_left; first | omega | (simp <;> omega)) | assumption))⟩
  have e : eqb x y = (eqb x.cfg y.cfg && x.since == y.since && x.whole == y.whole && x.upto == y.upto) := eqb_of (by rw [Book.ext_iff']; simp [eqb_true, and_assoc])
  rw [e]
  rfl
end Go.Proofs.Ytkdbedbefojieaa
