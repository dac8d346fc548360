/-
  LAYER 24: books: whether two are the same; the document's Find and May of a configuration.
-/
import Derived.Test.YtkdbedbefojieaaCfg2
namespace Go.Proofs.Ytkdbedbefojieaa
set_option linter.unusedVariables false
set_option linter.unusedSimpArgs false
open Go.RowKit
set_option maxRecDepth 100000
attribute [local go_sem] gd_true

theorem neqM (a b : Member) (w : World) : (binOp .neq 34 (.agg #[.int .i64 a.node, .int .i64 a.since, .bool a.whole]) (.agg #[.int .i64 b.node, .int .i64 b.since, .bool b.whole])).run Try.prog w = .ok (.bool (!eqb a b)) w := by
  have h : eqb a b = (a.node == b.node && (a.since == b.since && a.whole == b.whole)) := eqb_of (by rw [Member.ext_iff']; simp)
  rw [h]
  by_cases h1 : a.node = b.node <;> by_cases h2 : a.since = b.since <;> by_cases h3 : a.whole = b.whole <;> simp [go_sem, h1, h2, h3]

theorem find_any (x : Config) (A : Option Addr) (n c : Nat) (F : Nat → Prop) (node : Int) (w : World) (hs : SlM w F A n c x.members) :
    Calls Try.prog 80 #[.agg #[.int .i64 x.epoch, .slice A n c], .int .i64 node] w fun e w' => e = .returned (.int .i64 (atS x.members node)) ∧ Below w.heap.size w w' := by
  obtain ⟨hnm, hmx, hn1, hn2⟩ := hs.facts
  go_enter Try.func80, Try.ntmps80
  go_wp2
  go_loopw [5] (fun i wr => ∃ k : Nat, k ≤ n ∧ i = .int .i64 k ∧ (∀ j m, j < k → x.members[j]? = some m → (m.node == node) = false) ∧ Bw (w.alloc (.cells #[.int .i64 x.epoch, .slice A n c] 24)) wr) (fun i _ => n - (intOf i).toNat)
  case atStart => exact ⟨0, Nat.zero_le _, rfl, fun j m hj => absurd hj (by omega), Bw.refl _⟩
  case round =>
    obtain ⟨k, hk, rfl, hj, hw⟩ := hrel
    obtain ⟨cwr, fwr⟩ := bcell hw
    by_cases hkn : k < n
    · obtain ⟨b', o, m, rfl, hF, hbl, hm, mok, c0, c1, c2⟩ := (hs.below (by decide) (by (repeat' (first | with_reducible exact Below.refl _ _ | ((with_reducible refine Below.alloc ?_ ?_ _); rotate_left; first | omega | (simp <;> omega)) | ((with_reducible refine Below.setCell ?_ ?_ _); rotate_left; first | (simp only; omega) | (simp <;> omega)) | with_reducible refine Below.drew ?_ | with_reducible refine below_drewN ?_ _ | ((with_reducible apply Bw.out); (first | exact hw' | exact hb1 | exact hb2 | exact hb3 | exact hb4 | exact hb5 | exact hb6 | exact hb7 | exact hb8 | exact hb9 | exact hb0 | exact hw | exact hb); rotate_left; first | omega | (simp <;> omega)) | assumption)) : Below w.heap.size w wr)).mem hkn
      go_wp2
      · have hp : (m.node == node) = true := by assumption
        go_ret
        exact ⟨by rw [atS, findIdx_found hj hm hp]; rfl, by (repeat' (first | with_reducible exact Below.refl _ _ | ((with_reducible refine Below.alloc ?_ ?_ _); rotate_left; first | omega | (simp <;> omega)) | ((with_reducible refine Below.setCell ?_ ?_ _); rotate_left; first | (simp only; omega) | (simp <;> omega)) | with_reducible refine Below.drew ?_ | with_reducible refine below_drewN ?_ _ | ((with_reducible apply Bw.out); (first | exact hw' | exact hb1 | exact hb2 | exact hb3 | exact hb4 | exact hb5 | exact hb6 | exact hb7 | exact hb8 | exact hb9 | exact hb0 | exact hw | exact hb); rotate_left; first | omega | (simp <;> omega)) | assumption))⟩
      · have hp : (m.node == node) = false := by assumption
        go_roundw
        case rel =>
          refine ⟨k + 1, by omega, by go_num, fun j m' hjk hm' => ?_, hw⟩
          by_cases e : j = k
          · subst e; rw [hm] at hm'; cases hm'; exact hp
          · exact hj j m' (by omega) hm'
        case measure => simp [intOf]; omega
    · go_wp2
      go_ret
      exact ⟨by rw [atS, findIdx_take_none hj (by omega)]; rfl, by (repeat' (first | with_reducible exact Below.refl _ _ | ((with_reducible refine Below.alloc ?_ ?_ _); rotate_left; first | omega | (simp <;> omega)) | ((with_reducible refine Below.setCell ?_ ?_ _); rotate_left; first | (simp only; omega) | (simp <;> omega)) | with_reducible refine Below.drew ?_ | with_reducible refine below_drewN ?_ _ | ((with_reducible apply Bw.out); (first | exact hw' | exact hb1 | exact hb2 | exact hb3 | exact hb4 | exact hb5 | exact hb6 | exact hb7 | exact hb8 | exact hb9 | exact hb0 | exact hw | exact hb); rotate_left; first | omega | (simp <;> omega)) | assumption))⟩

theorem fills_any (e s u up sy : Int) (A : Option Addr) (n c : Nat) (wh : Bool) (w : World) :
    Calls Try.prog 15 #[.agg #[.int .i64 e, .slice A n c, .int .i64 s, .bool wh, .int .i64 u], .int .i64 up, .int .i64 sy] w fun e w' => e = .returned (.bool (decide (0 < s) && !wh && decide (up ≤ sy))) ∧ Below w.heap.size w w' := by
  go_enter Try.func15, Try.ntmps15
  go_upto_region 1 with (fail)
  refine wp_region_q (C := Bw _) (fun _ => by kernel_rfl) (fun _ => by kernel_rfl) (Bw.refl _) (Bw.drew _) ?_
  repeat
    first
    | (refine wpQuiet_go rfl ?_; apply Exists.intro
       refine ⟨fun w' hw' => ?_, ?_⟩
       · first
         | (apply quietAt_or; (with_reducible exact rfl); exact rfl; exact rfl)
         | (apply quietAt_and; (with_reducible exact rfl); exact rfl; exact rfl)
         | (have bc := bcell hw'; go_simp; first | exact rfl | exact ⟨rfl, rfl⟩ | fail)
       simp only [Act.put, List.setIfInBounds_toArray, List.set_cons_zero, List.set_cons_succ, gd_gd])
    | ((first | refine wpQuiet_if (wanted_t rfl rfl rfl) ?_ | refine wpQuiet_if (wanted_f rfl rfl rfl) ?_ | refine wpQuiet_if (wanted_gt rfl rfl rfl) ?_ | refine wpQuiet_if (wanted_gf rfl rfl rfl) ?_); apply Exists.intro
       refine ⟨fun hp w' hw' => ?_, ?_⟩
       · first
         | (apply quietAt_or; (with_reducible exact rfl); exact rfl; exact rfl)
         | (apply quietAt_and; (with_reducible exact rfl); exact rfl; exact rfl)
         | (apply quietAt_gor; (with_reducible exact rfl); exact rfl; exact rfl; exact hp)
         | (apply quietAt_gand; (with_reducible exact rfl); exact rfl; exact rfl; exact hp)
         | ((try simp only [Bool.and_eq_true, Bool.or_eq_false_iff, Bool.not_eq_true', Bool.not_eq_eq_eq_not, Bool.not_true, Bool.not_false] at hp); have bc := bcell hw'; go_simp; first | exact rfl | exact ⟨rfl, rfl⟩ | fail)
         | exact quietAt_absurd (by simp at hp)
       simp only [Act.put, List.setIfInBounds_toArray, List.set_cons_zero, List.set_cons_succ, gd_gd])
  refine wpQuiet_nil (fun w1 hb1 => ?_)
  obtain ⟨cw1, fw1⟩ := bcell hb1
  have sw1 := Bw.size hb1
  try simp only [World.size_alloc, World.size_setCell, World.size_drew] at cw1 fw1 sw1
  go_wp2
  go_ret
  exact ⟨rfl, by (repeat' (first | with_reducible exact Below.refl _ _ | ((with_reducible refine Below.alloc ?_ ?_ _); rotate_left; first | omega | (simp <;> omega)) | ((with_reducible refine Below.setCell ?_ ?_ _); rotate_left; first | (simp only; omega) | (simp <;> omega)) | with_reducible refine Below.drew ?_ | with_reducible refine below_drewN ?_ _ | ((with_reducible apply Bw.out); (first | exact hw' | exact hb1 | exact hb2 | exact hb3 | exact hb4 | exact hb5 | exact hb6 | exact hb7 | exact hb8 | exact hb9 | exact hb0 | exact hw | exact hb); rotate_left; first | omega | (simp <;> omega)) | assumption))⟩
theorem rfills_any (e s u up sy : Int) (A : Option Addr) (n c : Nat) (wh : Bool) (w : World) :
    Calls Try.prog 16 #[.agg #[.int .i64 e, .slice A n c, .int .i64 s, .bool wh, .int .i64 u], .int .i64 up, .int .i64 sy] w fun e w' => e = .returned (.bool (decide (0 < s) && !wh && decide (up ≤ sy))) ∧ Below w.heap.size w w' := by
  go_enter Try.func16, Try.ntmps16
  go_upto_region 1 with (fail)
  refine wp_region_q (C := Bw _) (fun _ => by kernel_rfl) (fun _ => by kernel_rfl) (Bw.refl _) (Bw.drew _) ?_
  repeat
    first
    | (refine wpQuiet_go rfl ?_; apply Exists.intro
       refine ⟨fun w' hw' => ?_, ?_⟩
       · first
         | (apply quietAt_or; (with_reducible exact rfl); exact rfl; exact rfl)
         | (apply quietAt_and; (with_reducible exact rfl); exact rfl; exact rfl)
         | (have bc := bcell hw'; go_simp; first | exact rfl | exact ⟨rfl, rfl⟩ | fail)
       simp only [Act.put, List.setIfInBounds_toArray, List.set_cons_zero, List.set_cons_succ, gd_gd])
    | ((first | refine wpQuiet_if (wanted_t rfl rfl rfl) ?_ | refine wpQuiet_if (wanted_f rfl rfl rfl) ?_ | refine wpQuiet_if (wanted_gt rfl rfl rfl) ?_ | refine wpQuiet_if (wanted_gf rfl rfl rfl) ?_); apply Exists.intro
       refine ⟨fun hp w' hw' => ?_, ?_⟩
       · first
         | (apply quietAt_or; (with_reducible exact rfl); exact rfl; exact rfl)
         | (apply quietAt_and; (with_reducible exact rfl); exact rfl; exact rfl)
         | (apply quietAt_gor; (with_reducible exact rfl); exact rfl; exact rfl; exact hp)
         | (apply quietAt_gand; (with_reducible exact rfl); exact rfl; exact rfl; exact hp)
         | ((try simp only [Bool.and_eq_true, Bool.or_eq_false_iff, Bool.not_eq_true', Bool.not_eq_eq_eq_not, Bool.not_true, Bool.not_false] at hp); have bc := bcell hw'; go_simp; first | exact rfl | exact ⟨rfl, rfl⟩ | fail)
         | exact quietAt_absurd (by simp at hp)
       simp only [Act.put, List.setIfInBounds_toArray, List.set_cons_zero, List.set_cons_succ, gd_gd])
  refine wpQuiet_nil (fun w1 hb1 => ?_)
  obtain ⟨cw1, fw1⟩ := bcell hb1
  have sw1 := Bw.size hb1
  try simp only [World.size_alloc, World.size_setCell, World.size_drew] at cw1 fw1 sw1
  go_wp2
  go_ret
  exact ⟨rfl, by (repeat' (first | with_reducible exact Below.refl _ _ | ((with_reducible refine Below.alloc ?_ ?_ _); rotate_left; first | omega | (simp <;> omega)) | ((with_reducible refine Below.setCell ?_ ?_ _); rotate_left; first | (simp only; omega) | (simp <;> omega)) | with_reducible refine Below.drew ?_ | with_reducible refine below_drewN ?_ _ | ((with_reducible apply Bw.out); (first | exact hw' | exact hb1 | exact hb2 | exact hb3 | exact hb4 | exact hb5 | exact hb6 | exact hb7 | exact hb8 | exact hb9 | exact hb0 | exact hw | exact hb); rotate_left; first | omega | (simp <;> omega)) | assumption))⟩
end Go.Proofs.Ytkdbedbefojieaa
