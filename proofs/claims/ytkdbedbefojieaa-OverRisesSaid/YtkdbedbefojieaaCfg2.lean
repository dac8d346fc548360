/-
  LAYER 22, more: At; the document's Find and May.
-/
import Derived.Test.YtkdbedbefojieaaCfg
namespace Go.Proofs.Ytkdbedbefojieaa
set_option linter.unusedVariables false
set_option linter.unusedSimpArgs false
open Go.RowKit
set_option maxRecDepth 100000
attribute [local go_sem] gd_true

noncomputable def atMS (c : Config) (node : Int) : Member × Bool :=
  if 0 ≤ atS c.members node ∧ mayS c = true then (c.members.getD (atS c.members node).toNat ⟨0, 0, false⟩, true) else (⟨0, 0, false⟩, false)

theorem atS_at {l : List Member} {node : Int} (h : 0 ≤ atS l node) : ∃ (k : Nat) (m : Member), atS l node = (k : Int) ∧ k < l.length ∧ l[k]? = some m ∧ m.node = node ∧ ∀ (j : Nat) (m' : Member), j < k → l[j]? = some m' → m'.node ≠ node := by
  unfold atS at h ⊢
  cases e : l.findIdx? (fun m => m.node == node) with
  | none => rw [e] at h; simp at h
  | some k =>
    obtain ⟨hlt, hp, hq⟩ := List.findIdx?_eq_some_iff_getElem.1 e
    refine ⟨k, l[k], rfl, hlt, List.getElem?_eq_getElem hlt, by simpa using hp, fun j m' hj hm' => ?_⟩
    have := hq j hj
    rw [List.getElem?_eq_getElem (by omega)] at hm'
    cases hm'
    simpa using this
theorem atS_none {l : List Member} {node : Int} (h : atS l node < 0) : ∀ (j : Nat) (m : Member), l[j]? = some m → m.node ≠ node := by
  intro j m hm
  unfold atS at h
  cases e : l.findIdx? (fun m => m.node == node) with
  | none => have := List.findIdx?_eq_none_iff.1 e m (List.mem_of_getElem? hm); simpa using this
  | some k => rw [e] at h; simp at h; omega

theorem at_is (l : List Member) (A : Option Addr) (n c : Nat) (F : Nat → Prop) (node i : Int) (hi : atS l node = i) (w : World) (hs : SlM w F A n c l) :
    Calls Try.prog 45 #[.slice A n c, .int .i64 node] w fun e w' => e = .returned (.int .i64 i) ∧ Below w.heap.size w w' := by
  subst hi; exact at_any l A n c F node w hs

set_option maxHeartbeats 1000000 in
theorem At_any (x : Config) (A : Option Addr) (n c : Nat) (F : Nat → Prop) (node : Int) (w : World) (hs : SlM w F A n c x.members) :
    Calls Try.prog 26 #[.agg #[.int .i64 x.epoch, .slice A n c], .int .i64 node] w fun e w' =>
      e = .returned (.tuple #[.agg #[.int .i64 (atMS x node).1.node, .int .i64 (atMS x node).1.since, .bool (atMS x node).1.whole], .bool (atMS x node).2]) ∧ Below w.heap.size w w' := by
  obtain ⟨hnm, hmx, hn1, hn2⟩ := hs.facts
  by_cases hat : atS x.members node < 0
  · have hsp : atMS x node = (⟨0, 0, false⟩, false) := by unfold atMS; rw [if_neg (by omega)]
    rw [hsp]
    go_enter Try.func26, Try.ntmps26
    go_upto_region 2 with (go_at_call 45; refine (at_is x.members A n c F node _ rfl _ (hs.below (by decide) (by (repeat' (first | with_reducible exact Below.refl _ _ | ((with_reducible refine Below.alloc ?_ ?_ _); rotate_left; first | omega | (simp <;> omega)) | ((with_reducible refine Below.setCell ?_ ?_ _); rotate_left; first | (simp only; omega) | (simp <;> omega)) | with_reducible refine Below.drew ?_ | with_reducible refine below_drewN ?_ _ | ((with_reducible apply Bw.out); (first | exact hw' | exact hb1 | exact hb2 | exact hb3 | exact hb4 | exact hb5 | exact hb6 | exact hb7 | exact hb8 | exact hb9 | exact hb0 | exact hw | exact hb); rotate_left; first | omega | (simp <;> omega)) | assumption))))).mono ?_; rintro e w1 ⟨rfl, hb1⟩; obtain ⟨cw1, fw1⟩ := bcell hb1; have sw1 := Below.size hb1; (try simp only [World.size_alloc, World.size_setCell, World.size_drew] at cw1 fw1 sw1); have ltww1 : w.heap.size < w1.heap.size := (by omega); have leww1 : w.heap.size ≤ w1.heap.size := (by omega); have ltww11 : w.heap.size + 1 < w1.heap.size := (by omega); have leww11 : w.heap.size + 1 ≤ w1.heap.size := (by omega))
    refine wp_region_q (C := Bw _) (fun _ => by kernel_rfl) (fun _ => by kernel_rfl) (Bw.refl _) (Bw.drew _) ?_
    repeat
      first
      | (refine wpQuiet_go rfl ?_; apply Exists.intro
         refine ⟨fun w' hw' => ?_, ?_⟩
         · first
           | (apply quietAt_or; (with_reducible exact rfl); exact rfl; exact rfl)
           | (apply quietAt_and; (with_reducible exact rfl); exact rfl; exact rfl)
           | (have bc := bcell hw'; go_simp; first | exact rfl | exact ⟨rfl, rfl⟩ | exact Bw.call hw' (may_any x A n c F _ (hs.below (by decide) (by (repeat' (first | with_reducible exact Below.refl _ _ | ((with_reducible refine Below.alloc ?_ ?_ _); rotate_left; first | omega | (simp <;> omega)) | ((with_reducible refine Below.setCell ?_ ?_ _); rotate_left; first | (simp only; omega) | (simp <;> omega)) | with_reducible refine Below.drew ?_ | with_reducible refine below_drewN ?_ _ | ((with_reducible apply Bw.out); (first | exact hw' | exact hb1 | exact hb2 | exact hb3 | exact hb4 | exact hb5 | exact hb6 | exact hb7 | exact hb8 | exact hb9 | exact hb0 | exact hw | exact hb); rotate_left; first | omega | (simp <;> omega)) | assumption))))))
         simp only [Act.put, List.setIfInBounds_toArray, List.set_cons_zero, List.set_cons_succ, gd_gd])
      | ((first | refine wpQuiet_if (wanted_t rfl rfl rfl) ?_ | refine wpQuiet_if (wanted_f rfl rfl rfl) ?_ | refine wpQuiet_if (wanted_gt rfl rfl rfl) ?_ | refine wpQuiet_if (wanted_gf rfl rfl rfl) ?_); apply Exists.intro
         refine ⟨fun hp w' hw' => ?_, ?_⟩
         · first
           | (apply quietAt_or; (with_reducible exact rfl); exact rfl; exact rfl)
           | (apply quietAt_and; (with_reducible exact rfl); exact rfl; exact rfl)
           | (apply quietAt_gor; (with_reducible exact rfl); exact rfl; exact rfl; exact hp)
           | (apply quietAt_gand; (with_reducible exact rfl); exact rfl; exact rfl; exact hp)
           | ((try simp only [Bool.and_eq_true, Bool.or_eq_false_iff, Bool.not_eq_true', Bool.not_eq_eq_eq_not, Bool.not_true, Bool.not_false] at hp); have bc := bcell hw'; go_simp; first | exact rfl | exact ⟨rfl, rfl⟩ | exact Bw.call hw' (may_any x A n c F _ (hs.below (by decide) (by (repeat' (first | with_reducible exact Below.refl _ _ | ((with_reducible refine Below.alloc ?_ ?_ _); rotate_left; first | omega | (simp <;> omega)) | ((with_reducible refine Below.setCell ?_ ?_ _); rotate_left; first | (simp only; omega) | (simp <;> omega)) | with_reducible refine Below.drew ?_ | with_reducible refine below_drewN ?_ _ | ((with_reducible apply Bw.out); (first | exact hw' | exact hb1 | exact hb2 | exact hb3 | exact hb4 | exact hb5 | exact hb6 | exact hb7 | exact hb8 | exact hb9 | exact hb0 | exact hw | exact hb); rotate_left; first | omega | (simp <;> omega)) | assumption))))))
           | exact quietAt_absurd (by simp at hp)
         simp only [Act.put, List.setIfInBounds_toArray, List.set_cons_zero, List.set_cons_succ, gd_gd])
    refine wpQuiet_nil (fun w2 hb2 => ?_)
    obtain ⟨cw2, fw2⟩ := bcell hb2
    have sw2 := Bw.size hb2
    try simp only [World.size_alloc, World.size_setCell, World.size_drew] at cw2 fw2 sw2
    have ltww2 : w.heap.size < w2.heap.size := (by omega)
    have leww2 : w.heap.size ≤ w2.heap.size := (by omega)
    have ltww21 : w.heap.size + 1 < w2.heap.size := (by omega)
    have leww21 : w.heap.size + 1 ≤ w2.heap.size := (by omega)
    go_wp2
    · refine bodyPost_ret (v := .tuple #[.agg #[.int .i64 0, .int .i64 0, .bool false], .bool false]) (by simp only [results, Try.results26]; go_simp) rfl ?_
      exact ⟨rfl, by (repeat' (first | with_reducible exact Below.refl _ _ | ((with_reducible refine Below.alloc ?_ ?_ _); rotate_left; first | omega | (simp <;> omega)) | ((with_reducible refine Below.setCell ?_ ?_ _); rotate_left; first | (simp only; omega) | (simp <;> omega)) | with_reducible refine Below.drew ?_ | with_reducible refine below_drewN ?_ _ | ((with_reducible apply Bw.out); (first | exact hw' | exact hb1 | exact hb2 | exact hb3 | exact hb4 | exact hb5 | exact hb6 | exact hb7 | exact hb8 | exact hb9 | exact hb0 | exact hw | exact hb); rotate_left; first | omega | (simp <;> omega)) | assumption))⟩
    · exact absurd (‹true = false ∧ _›).1 (by decide)
  · obtain ⟨k, m, hi, hkl, hm, _, _⟩ := atS_at (by omega : 0 ≤ atS x.members node)
    have hi' := Lib.hid hi
    go_enter Try.func26, Try.ntmps26
    go_upto_region 2 with (go_at_call 45; refine (at_is x.members A n c F node (k : Int) hi _ (hs.below (by decide) (by (repeat' (first | with_reducible exact Below.refl _ _ | ((with_reducible refine Below.alloc ?_ ?_ _); rotate_left; first | omega | (simp <;> omega)) | ((with_reducible refine Below.setCell ?_ ?_ _); rotate_left; first | (simp only; omega) | (simp <;> omega)) | with_reducible refine Below.drew ?_ | with_reducible refine below_drewN ?_ _ | ((with_reducible apply Bw.out); (first | exact hw' | exact hb1 | exact hb2 | exact hb3 | exact hb4 | exact hb5 | exact hb6 | exact hb7 | exact hb8 | exact hb9 | exact hb0 | exact hw | exact hb); rotate_left; first | omega | (simp <;> omega)) | assumption))))).mono ?_; rintro e w1 ⟨rfl, hb1⟩; obtain ⟨cw1, fw1⟩ := bcell hb1; have sw1 := Below.size hb1; (try simp only [World.size_alloc, World.size_setCell, World.size_drew] at cw1 fw1 sw1); have ltww1 : w.heap.size < w1.heap.size := (by omega); have leww1 : w.heap.size ≤ w1.heap.size := (by omega); have ltww11 : w.heap.size + 1 < w1.heap.size := (by omega); have leww11 : w.heap.size + 1 ≤ w1.heap.size := (by omega))
    refine wp_region_q (C := Bw _) (fun _ => by kernel_rfl) (fun _ => by kernel_rfl) (Bw.refl _) (Bw.drew _) ?_
    repeat
      first
      | (refine wpQuiet_go rfl ?_; apply Exists.intro
         refine ⟨fun w' hw' => ?_, ?_⟩
         · first
           | (apply quietAt_or; (with_reducible exact rfl); exact rfl; exact rfl)
           | (apply quietAt_and; (with_reducible exact rfl); exact rfl; exact rfl)
           | (have bc := bcell hw'; go_simp; first | exact rfl | exact ⟨rfl, rfl⟩ | exact Bw.call hw' (may_any x A n c F _ (hs.below (by decide) (by (repeat' (first | with_reducible exact Below.refl _ _ | ((with_reducible refine Below.alloc ?_ ?_ _); rotate_left; first | omega | (simp <;> omega)) | ((with_reducible refine Below.setCell ?_ ?_ _); rotate_left; first | (simp only; omega) | (simp <;> omega)) | with_reducible refine Below.drew ?_ | with_reducible refine below_drewN ?_ _ | ((with_reducible apply Bw.out); (first | exact hw' | exact hb1 | exact hb2 | exact hb3 | exact hb4 | exact hb5 | exact hb6 | exact hb7 | exact hb8 | exact hb9 | exact hb0 | exact hw | exact hb); rotate_left; first | omega | (simp <;> omega)) | assumption))))))
         simp only [Act.put, List.setIfInBounds_toArray, List.set_cons_zero, List.set_cons_succ, gd_gd])
      | ((first | refine wpQuiet_if (wanted_t rfl rfl rfl) ?_ | refine wpQuiet_if (wanted_f rfl rfl rfl) ?_ | refine wpQuiet_if (wanted_gt rfl rfl rfl) ?_ | refine wpQuiet_if (wanted_gf rfl rfl rfl) ?_); apply Exists.intro
         refine ⟨fun hp w' hw' => ?_, ?_⟩
         · first
           | (apply quietAt_or; (with_reducible exact rfl); exact rfl; exact rfl)
           | (apply quietAt_and; (with_reducible exact rfl); exact rfl; exact rfl)
           | (apply quietAt_gor; (with_reducible exact rfl); exact rfl; exact rfl; exact hp)
           | (apply quietAt_gand; (with_reducible exact rfl); exact rfl; exact rfl; exact hp)
           | ((try simp only [Bool.and_eq_true, Bool.or_eq_false_iff, Bool.not_eq_true', Bool.not_eq_eq_eq_not, Bool.not_true, Bool.not_false] at hp); have bc := bcell hw'; go_simp; first | exact rfl | exact ⟨rfl, rfl⟩ | exact Bw.call hw' (may_any x A n c F _ (hs.below (by decide) (by (repeat' (first | with_reducible exact Below.refl _ _ | ((with_reducible refine Below.alloc ?_ ?_ _); rotate_left; first | omega | (simp <;> omega)) | ((with_reducible refine Below.setCell ?_ ?_ _); rotate_left; first | (simp only; omega) | (simp <;> omega)) | with_reducible refine Below.drew ?_ | with_reducible refine below_drewN ?_ _ | ((with_reducible apply Bw.out); (first | exact hw' | exact hb1 | exact hb2 | exact hb3 | exact hb4 | exact hb5 | exact hb6 | exact hb7 | exact hb8 | exact hb9 | exact hb0 | exact hw | exact hb); rotate_left; first | omega | (simp <;> omega)) | assumption))))))
           | exact quietAt_absurd (by simp at hp)
         simp only [Act.put, List.setIfInBounds_toArray, List.set_cons_zero, List.set_cons_succ, gd_gd])
    refine wpQuiet_nil (fun w2 hb2 => ?_)
    obtain ⟨cw2, fw2⟩ := bcell hb2
    have sw2 := Bw.size hb2
    try simp only [World.size_alloc, World.size_setCell, World.size_drew] at cw2 fw2 sw2
    have ltww2 : w.heap.size < w2.heap.size := (by omega)
    have leww2 : w.heap.size ≤ w2.heap.size := (by omega)
    have ltww21 : w.heap.size + 1 < w2.heap.size := (by omega)
    have leww21 : w.heap.size + 1 ≤ w2.heap.size := (by omega)
    clear hi
    obtain ⟨b', o, m', rfl, hF, hbl, hm', mok, c0, c1, c2⟩ := (hs.below (by decide) (by (repeat' (first | with_reducible exact Below.refl _ _ | ((with_reducible refine Below.alloc ?_ ?_ _); rotate_left; first | omega | (simp <;> omega)) | ((with_reducible refine Below.setCell ?_ ?_ _); rotate_left; first | (simp only; omega) | (simp <;> omega)) | with_reducible refine Below.drew ?_ | with_reducible refine below_drewN ?_ _ | ((with_reducible apply Bw.out); (first | exact hw' | exact hb1 | exact hb2 | exact hb3 | exact hb4 | exact hb5 | exact hb6 | exact hb7 | exact hb8 | exact hb9 | exact hb0 | exact hw | exact hb); rotate_left; first | omega | (simp <;> omega)) | assumption)) : Below w.heap.size w w2)).mem (by omega : k < n)
    rw [hm] at hm'; cases hm'
    go_wp2
    · have hmay : mayS x = false := by
        rename_i hf
        rcases hf with hf | hf
        · omega
        · simpa using hf
      have hsp : atMS x node = (⟨0, 0, false⟩, false) := by unfold atMS; rw [if_neg (by simp [hmay])]
      rw [hsp]
      refine bodyPost_ret (v := .tuple #[.agg #[.int .i64 0, .int .i64 0, .bool false], .bool false]) (by simp only [results, Try.results26]; go_simp) rfl ?_
      exact ⟨rfl, by (repeat' (first | with_reducible exact Below.refl _ _ | ((with_reducible refine Below.alloc ?_ ?_ _); rotate_left; first | omega | (simp <;> omega)) | ((with_reducible refine Below.setCell ?_ ?_ _); rotate_left; first | (simp only; omega) | (simp <;> omega)) | with_reducible refine Below.drew ?_ | with_reducible refine below_drewN ?_ _ | ((with_reducible apply Bw.out); (first | exact hw' | exact hb1 | exact hb2 | exact hb3 | exact hb4 | exact hb5 | exact hb6 | exact hb7 | exact hb8 | exact hb9 | exact hb0 | exact hw | exact hb); rotate_left; first | omega | (simp <;> omega)) | assumption))⟩
    · have hmay : mayS x = true := by rename_i hf; simpa using hf.2
      have hsp : atMS x node = (m, true) := by
        unfold atMS
        rw [if_pos ⟨by omega, hmay⟩, hi'.out]
        simp [List.getD_eq_getElem?_getD, hm]
      rw [hsp]
      refine bodyPost_ret (v := .tuple #[.agg #[.int .i64 m.node, .int .i64 m.since, .bool m.whole], .bool true]) (by simp only [results, Try.results26]; go_simp) rfl ?_
      exact ⟨rfl, by (repeat' (first | with_reducible exact Below.refl _ _ | ((with_reducible refine Below.alloc ?_ ?_ _); rotate_left; first | omega | (simp <;> omega)) | ((with_reducible refine Below.setCell ?_ ?_ _); rotate_left; first | (simp only; omega) | (simp <;> omega)) | with_reducible refine Below.drew ?_ | with_reducible refine below_drewN ?_ _ | ((with_reducible apply Bw.out); (first | exact hw' | exact hb1 | exact hb2 | exact hb3 | exact hb4 | exact hb5 | exact hb6 | exact hb7 | exact hb8 | exact hb9 | exact hb0 | exact hw | exact hb); rotate_left; first | omega | (simp <;> omega)) | assumption))⟩
end Go.Proofs.Ytkdbedbefojieaa
