/-
  LAYER 22: members, configurations: what the functions compute.
-/
import Derived.Test.YtkdbedbefojieaaData
import Derived.Deep.DeepCutAuto
namespace Go.Proofs.Ytkdbedbefojieaa
set_option linter.unusedVariables false
set_option linter.unusedSimpArgs false
open Go.RowKit
set_option maxRecDepth 100000
attribute [local go_sem] gd_true

theorem there_any (x : Int) (w : World) :
    Calls Try.prog 44 #[.int .i64 x] w fun e w' => e = .returned (.bool (decide (0 ≤ x) && decide (x < 5))) ∧ Below w.heap.size w w' := by
  go_enter Try.func44, Try.ntmps44
  go_upto_region 1 with (fail)
  refine wp_region_q (C := Bw _) (fun _ => by kernel_rfl) (fun _ => by kernel_rfl) (Bw.refl _) (Bw.drew _) ?_
  repeat
    first
    | (refine wpQuiet_go rfl ?_; apply Exists.intro
       refine ⟨fun w' hw' => ?_, ?_⟩
       · first
         | (apply quietAt_or; (with_reducible exact rfl); exact rfl; exact rfl)
         | (apply quietAt_and; (with_reducible exact rfl); exact rfl; exact rfl)
         | (have bc := bcell hw'; go_simp; first | exact rfl | exact ⟨rfl, rfl⟩ | fail)
       simp only [Act.put, List.setIfInBounds_toArray, List.set_cons_zero, List.set_cons_succ, gd_gd])
    | ((first | refine wpQuiet_if (wanted_t rfl rfl rfl) ?_ | refine wpQuiet_if (wanted_f rfl rfl rfl) ?_ | refine wpQuiet_if (wanted_gt rfl rfl rfl) ?_ | refine wpQuiet_if (wanted_gf rfl rfl rfl) ?_); apply Exists.intro
       refine ⟨fun hp w' hw' => ?_, ?_⟩
       · first
         | (apply quietAt_or; (with_reducible exact rfl); exact rfl; exact rfl)
         | (apply quietAt_and; (with_reducible exact rfl); exact rfl; exact rfl)
         | (apply quietAt_gor; (with_reducible exact rfl); exact rfl; exact rfl; exact hp)
         | (apply quietAt_gand; (with_reducible exact rfl); exact rfl; exact rfl; exact hp)
         | ((try simp only [Bool.and_eq_true, Bool.or_eq_false_iff, Bool.not_eq_true', Bool.not_eq_eq_eq_not, Bool.not_true, Bool.not_false] at hp); have bc := bcell hw'; go_simp; first | exact rfl | exact ⟨rfl, rfl⟩ | fail)
         | exact quietAt_absurd (by simp at hp)
       simp only [Act.put, List.setIfInBounds_toArray, List.set_cons_zero, List.set_cons_succ, gd_gd])
  refine wpQuiet_nil (fun w1 hb1 => ?_)
  obtain ⟨cw1, fw1⟩ := bcell hb1
  have sw1 := Bw.size hb1
  try simp only [World.size_alloc, World.size_setCell, World.size_drew] at cw1 fw1 sw1
  go_wp2
  go_ret
  exact ⟨rfl, hb1⟩

theorem at1_any (m : Member) (node : Int) (b : Nat) (w : World) (hb : w.cell? ⟨b, 0, none⟩ = some (.int .i64 node)) :
    Calls Try.prog 85 #[.agg #[.int .i64 m.node, .int .i64 m.since, .bool m.whole], .pointer (some ⟨b, 0, none⟩)] w fun e w' => e = .returned (.bool (m.node == node)) ∧ Below w.heap.size w w' := by
  have hlt := lt_of_cell hb
  go_enter Try.func85, Try.ntmps85
  go_upto_region 1 with (fail)
  refine wp_region_q (C := Bw _) (fun _ => by kernel_rfl) (fun _ => by kernel_rfl) (Bw.refl _) (Bw.drew _) ?_
  repeat
    first
    | (refine wpQuiet_go rfl ?_; apply Exists.intro
       refine ⟨fun w' hw' => ?_, ?_⟩
       · first
         | (apply quietAt_or; (with_reducible exact rfl); exact rfl; exact rfl)
         | (apply quietAt_and; (with_reducible exact rfl); exact rfl; exact rfl)
         | (have bc := bcell hw'; go_simp; first | exact rfl | exact ⟨rfl, rfl⟩ | fail)
       simp only [Act.put, List.setIfInBounds_toArray, List.set_cons_zero, List.set_cons_succ, gd_gd])
    | ((first | refine wpQuiet_if (wanted_t rfl rfl rfl) ?_ | refine wpQuiet_if (wanted_f rfl rfl rfl) ?_ | refine wpQuiet_if (wanted_gt rfl rfl rfl) ?_ | refine wpQuiet_if (wanted_gf rfl rfl rfl) ?_); apply Exists.intro
       refine ⟨fun hp w' hw' => ?_, ?_⟩
       · first
         | (apply quietAt_or; (with_reducible exact rfl); exact rfl; exact rfl)
         | (apply quietAt_and; (with_reducible exact rfl); exact rfl; exact rfl)
         | (apply quietAt_gor; (with_reducible exact rfl); exact rfl; exact rfl; exact hp)
         | (apply quietAt_gand; (with_reducible exact rfl); exact rfl; exact rfl; exact hp)
         | ((try simp only [Bool.and_eq_true, Bool.or_eq_false_iff, Bool.not_eq_true', Bool.not_eq_eq_eq_not, Bool.not_true, Bool.not_false] at hp); have bc := bcell hw'; go_simp; first | exact rfl | exact ⟨rfl, rfl⟩ | fail)
         | exact quietAt_absurd (by simp at hp)
       simp only [Act.put, List.setIfInBounds_toArray, List.set_cons_zero, List.set_cons_succ, gd_gd])
  refine wpQuiet_nil (fun w1 hb1 => ?_)
  obtain ⟨cw1, fw1⟩ := bcell hb1
  have sw1 := Bw.size hb1
  try simp only [World.size_alloc, World.size_setCell, World.size_drew] at cw1 fw1 sw1
  go_wp2
  go_ret
  exact ⟨rfl, by (repeat' (first | with_reducible exact Below.refl _ _ | ((with_reducible refine Below.alloc ?_ ?_ _); rotate_left; first | omega | (simp <;> omega)) | ((with_reducible refine Below.setCell ?_ ?_ _); rotate_left; first | (simp only; omega) | (simp <;> omega)) | with_reducible refine Below.drew ?_ | with_reducible refine below_drewN ?_ _ | ((with_reducible apply Bw.out); (first | exact hw' | exact hb1 | exact hb2 | exact hb3 | exact hb4 | exact hb5 | exact hb6 | exact hb7 | exact hb8 | exact hb9 | exact hb0 | exact hw | exact hb); rotate_left; first | omega | (simp <;> omega)) | assumption))⟩

theorem findIdx_take_none {l : List Member} {p : Member → Bool} {k : Nat} (hk : ∀ j m, j < k → l[j]? = some m → p m = false) (hl : l.length ≤ k) : l.findIdx? p = none := by
  rw [List.findIdx?_eq_none_iff]
  intro m hm
  obtain ⟨j, hj, e⟩ := List.mem_iff_getElem.1 hm
  exact hk j m (by omega) (by rw [← e]; exact List.getElem?_eq_getElem hj)
theorem findIdx_found {l : List Member} {p : Member → Bool} {k : Nat} {x : Member} (hk : ∀ j m, j < k → l[j]? = some m → p m = false) (hx : l[k]? = some x) (hp : p x = true) : l.findIdx? p = some k := by
  obtain ⟨hlt, e⟩ := List.getElem?_eq_some_iff.1 hx
  rw [List.findIdx?_eq_some_iff_getElem]
  exact ⟨hlt, by rw [e]; exact hp, fun j hj => by simpa using hk j _ hj (List.getElem?_eq_getElem (by omega))⟩

/-- slices.IndexFunc of members, at the closure of 'at' -/
theorem indexAt_any (l : List Member) (A : Option Addr) (n c : Nat) (F : Nat → Prop) (node : Int) (b : Nat) (w : World) (hs : SlM w F A n c l) (hb : w.cell? ⟨b, 0, none⟩ = some (.int .i64 node)) :
    Calls Try.prog 84 #[.slice A n c, .func (.func 85) #[] #[.pointer (some ⟨b, 0, none⟩)]] w fun e w' => e = .returned (.int .i64 (atS l node)) ∧ Below w.heap.size w w' := by
  have hlt := lt_of_cell hb
  obtain ⟨hnm, hmx, hn1, hn2⟩ := hs.facts
  go_enter Try.func84, Try.ntmps84
  go_wp2
  go_loopw [8] (fun i wr => ∃ k : Nat, k ≤ n ∧ i = .int .i64 k ∧ (∀ j m, j < k → l[j]? = some m → (m.node == node) = false) ∧ Bw w wr) (fun i _ => n - (intOf i).toNat)
  case atStart => exact ⟨0, Nat.zero_le _, rfl, fun j m hj => absurd hj (by omega), Bw.refl _⟩
  case round =>
    obtain ⟨k, hk, rfl, hj, hw⟩ := hrel
    by_cases hkn : k < n
    · obtain ⟨b', o, m, rfl, hF, hbl, hm, mok, c0, c1, c2⟩ := (hs.below (by decide) hw).mem hkn
      have hb' := Bw.cell hw hb
      go_wp2_with (go_at_call 85; refine (at1_any m node b _ hb').mono ?_; rintro e w' ⟨rfl, hb1⟩)
      · have hp : (m.node == node) = true := by assumption
        go_ret
        exact ⟨by rw [atS, findIdx_found hj hm hp]; rfl, Bw.trans hw hb1⟩
      · have hp : (m.node == node) = false := by assumption
        go_roundw
        case rel =>
          refine ⟨k + 1, by omega, by go_num, fun j m' hjk hm' => ?_, Bw.trans hw hb1⟩
          by_cases e : j = k
          · subst e; rw [hm] at hm'; cases hm'; exact hp
          · exact hj j m' (by omega) hm'
        case measure => simp [intOf]; omega
    · go_wp2
      go_ret
      exact ⟨by rw [atS, findIdx_take_none hj (by omega)]; rfl, hw⟩
theorem at_any (l : List Member) (A : Option Addr) (n c : Nat) (F : Nat → Prop) (node : Int) (w : World) (hs : SlM w F A n c l) :
    Calls Try.prog 45 #[.slice A n c, .int .i64 node] w fun e w' => e = .returned (.int .i64 (atS l node)) ∧ Below w.heap.size w w' := by
  go_enter Try.func45, Try.ntmps45
  go_wp2_with (go_at_call 84; refine (indexAt_any l A n c F node _ _ (hs.below (by decide) (by (repeat' (first | with_reducible exact Below.refl _ _ | ((with_reducible refine Below.alloc ?_ ?_ _); rotate_left; first | omega | (simp <;> omega)) | ((with_reducible refine Below.setCell ?_ ?_ _); rotate_left; first | (simp only; omega) | (simp <;> omega)) | with_reducible refine Below.drew ?_ | with_reducible refine below_drewN ?_ _ | ((with_reducible apply Bw.out); (first | exact hw' | exact hb1 | exact hb2 | exact hb3 | exact hb4 | exact hb5 | exact hb6 | exact hb7 | exact hb8 | exact hb9 | exact hb0 | exact hw | exact hb); rotate_left; first | omega | (simp <;> omega)) | assumption)))) (by simp)).mono ?_; rintro e w1 ⟨rfl, hb1⟩)
  go_ret
  exact ⟨rfl, by (repeat' (first | with_reducible exact Below.refl _ _ | ((with_reducible refine Below.alloc ?_ ?_ _); rotate_left; first | omega | (simp <;> omega)) | ((with_reducible refine Below.setCell ?_ ?_ _); rotate_left; first | (simp only; omega) | (simp <;> omega)) | with_reducible refine Below.drew ?_ | with_reducible refine below_drewN ?_ _ | ((with_reducible apply Bw.out); (first | exact hw' | exact hb1 | exact hb2 | exact hb3 | exact hb4 | exact hb5 | exact hb6 | exact hb7 | exact hb8 | exact hb9 | exact hb0 | exact hw | exact hb); rotate_left; first | omega | (simp <;> omega)) | assumption))⟩

set_option maxHeartbeats 4000000 in
/-- May -/
theorem may_any (x : Config) (A : Option Addr) (n c : Nat) (F : Nat → Prop) (w : World) (hs : SlM w F A n c x.members) :
    Calls Try.prog 25 #[.agg #[.int .i64 x.epoch, .slice A n c]] w fun e w' => e = .returned (.bool (mayS x)) ∧ Below w.heap.size w w' := by
  obtain ⟨hnm, hmx, hn1, hn2⟩ := hs.facts
  go_enter Try.func25, Try.ntmps25
  go_upto_region 2 with (fail)
  refine wp_region_q (C := Bw _) (fun _ => by kernel_rfl) (fun _ => by kernel_rfl) (Bw.refl _) (Bw.drew _) ?_
  repeat
    first
    | (refine wpQuiet_go rfl ?_; apply Exists.intro
       refine ⟨fun w' hw' => ?_, ?_⟩
       · first
         | (apply quietAt_or; (with_reducible exact rfl); exact rfl; exact rfl)
         | (apply quietAt_and; (with_reducible exact rfl); exact rfl; exact rfl)
         | (have bc := bcell hw'; go_simp; first | exact rfl | exact ⟨rfl, rfl⟩ | fail)
       simp only [Act.put, List.setIfInBounds_toArray, List.set_cons_zero, List.set_cons_succ, gd_gd])
    | ((first | refine wpQuiet_if (wanted_t rfl rfl rfl) ?_ | refine wpQuiet_if (wanted_f rfl rfl rfl) ?_ | refine wpQuiet_if (wanted_gt rfl rfl rfl) ?_ | refine wpQuiet_if (wanted_gf rfl rfl rfl) ?_); apply Exists.intro
       refine ⟨fun hp w' hw' => ?_, ?_⟩
       · first
         | (apply quietAt_or; (with_reducible exact rfl); exact rfl; exact rfl)
         | (apply quietAt_and; (with_reducible exact rfl); exact rfl; exact rfl)
         | (apply quietAt_gor; (with_reducible exact rfl); exact rfl; exact rfl; exact hp)
         | (apply quietAt_gand; (with_reducible exact rfl); exact rfl; exact rfl; exact hp)
         | ((try simp only [Bool.and_eq_true, Bool.or_eq_false_iff, Bool.not_eq_true', Bool.not_eq_eq_eq_not, Bool.not_true, Bool.not_false] at hp); have bc := bcell hw'; go_simp; first | exact rfl | exact ⟨rfl, rfl⟩ | fail)
         | exact quietAt_absurd (by simp at hp)
       simp only [Act.put, List.setIfInBounds_toArray, List.set_cons_zero, List.set_cons_succ, gd_gd])
  refine wpQuiet_nil (fun w1 hb1 => ?_)
  obtain ⟨cw1, fw1⟩ := bcell hb1
  have sw1 := Bw.size hb1
  try simp only [World.size_alloc, World.size_setCell, World.size_drew] at cw1 fw1 sw1
  go_wp2
  · have hn : ¬ mayP x := by
      rintro ⟨h1, h2, h3, h4, _⟩
      omega
    go_ret
    exact ⟨by rw [mayS_not hn]; rfl, by (repeat' (first | with_reducible exact Below.refl _ _ | ((with_reducible refine Below.alloc ?_ ?_ _); rotate_left; first | omega | (simp <;> omega)) | ((with_reducible refine Below.setCell ?_ ?_ _); rotate_left; first | (simp only; omega) | (simp <;> omega)) | with_reducible refine Below.drew ?_ | with_reducible refine below_drewN ?_ _ | ((with_reducible apply Bw.out); (first | exact hw' | exact hb1 | exact hb2 | exact hb3 | exact hb4 | exact hb5 | exact hb6 | exact hb7 | exact hb8 | exact hb9 | exact hb0 | exact hw | exact hb); rotate_left; first | omega | (simp <;> omega)) | assumption))⟩
  · have hgo : ((1 ≤ x.epoch ∧ x.epoch ≤ 1099511627776) ∧ 1 ≤ (n : Int)) ∧ (n : Int) ≤ 5 := by assumption
    go_loopw [28] (fun i wr => ∃ k : Nat, k ≤ n ∧ i = .int .i64 k ∧ (∀ j m, j < k → x.members[j]? = some m → okM x j m) ∧ Bw w1 wr) (fun i _ => n - (intOf i).toNat)
    case atStart => exact ⟨0, Nat.zero_le _, rfl, fun j m hj => absurd hj (by omega), Bw.refl _⟩
    case round =>
      obtain ⟨k, hk, rfl, hj, hw⟩ := hrel
      obtain ⟨cwr, fwr⟩ := bcell hw
      have swr := Bw.size hw
      have ltww1 : w.heap.size < w1.heap.size := by omega
      have leww1 : w.heap.size ≤ w1.heap.size := by omega
      have ltwwr : w.heap.size < wr.heap.size := by omega
      have lewwr : w.heap.size ≤ wr.heap.size := by omega
      by_cases hkn : k < n
      · obtain ⟨b', o, m, rfl, hF, hbl, hm, mok, c0, c1, c2⟩ := (hs.below (by decide) (by (repeat' (first | with_reducible exact Below.refl _ _ | ((with_reducible refine Below.alloc ?_ ?_ _); rotate_left; first | omega | (simp <;> omega)) | ((with_reducible refine Below.setCell ?_ ?_ _); rotate_left; first | (simp only; omega) | (simp <;> omega)) | with_reducible refine Below.drew ?_ | with_reducible refine below_drewN ?_ _ | ((with_reducible apply Bw.out); (first | exact hw' | exact hb1 | exact hb2 | exact hb3 | exact hb4 | exact hb5 | exact hb6 | exact hb7 | exact hb8 | exact hb9 | exact hb0 | exact hw | exact hb); rotate_left; first | omega | (simp <;> omega)) | assumption)) : Below w.heap.size w wr)).mem hkn
        have hkc : k ≤ c := by omega
        go_upto_region 7 with (fail)
        refine wp_region_q (C := Bw _) (fun _ => by kernel_rfl) (fun _ => by kernel_rfl) (Bw.refl _) (Bw.drew _) ?_
        repeat
          first
          | (refine wpQuiet_go rfl ?_; apply Exists.intro
             refine ⟨fun w' hw' => ?_, ?_⟩
             · first
               | (apply quietAt_or; (with_reducible exact rfl); exact rfl; exact rfl)
               | (apply quietAt_and; (with_reducible exact rfl); exact rfl; exact rfl)
               | (have bc := bcell hw'; go_simp; first | exact rfl | exact ⟨rfl, rfl⟩ | exact Bw.call hw' (there_any _ _) | exact Bw.call hw' (at_any _ _ _ _ F _ _ ((hs.below (by decide) (by (repeat' (first | with_reducible exact Below.refl _ _ | ((with_reducible refine Below.alloc ?_ ?_ _); rotate_left; first | omega | (simp <;> omega)) | ((with_reducible refine Below.setCell ?_ ?_ _); rotate_left; first | (simp only; omega) | (simp <;> omega)) | with_reducible refine Below.drew ?_ | with_reducible refine below_drewN ?_ _ | ((with_reducible apply Bw.out); (first | exact hw' | exact hb1 | exact hb2 | exact hb3 | exact hb4 | exact hb5 | exact hb6 | exact hb7 | exact hb8 | exact hb9 | exact hb0 | exact hw | exact hb); rotate_left; first | omega | (simp <;> omega)) | assumption)))).take (by omega) (by omega) (by omega))))
             simp only [Act.put, List.setIfInBounds_toArray, List.set_cons_zero, List.set_cons_succ, gd_gd])
          | ((first | refine wpQuiet_if (wanted_t rfl rfl rfl) ?_ | refine wpQuiet_if (wanted_f rfl rfl rfl) ?_ | refine wpQuiet_if (wanted_gt rfl rfl rfl) ?_ | refine wpQuiet_if (wanted_gf rfl rfl rfl) ?_); apply Exists.intro
             refine ⟨fun hp w' hw' => ?_, ?_⟩
             · first
               | (apply quietAt_or; (with_reducible exact rfl); exact rfl; exact rfl)
               | (apply quietAt_and; (with_reducible exact rfl); exact rfl; exact rfl)
               | (apply quietAt_gor; (with_reducible exact rfl); exact rfl; exact rfl; exact hp)
               | (apply quietAt_gand; (with_reducible exact rfl); exact rfl; exact rfl; exact hp)
               | ((try simp only [Bool.and_eq_true, Bool.or_eq_false_iff, Bool.not_eq_true', Bool.not_eq_eq_eq_not, Bool.not_true, Bool.not_false] at hp); have bc := bcell hw'; go_simp; first | exact rfl | exact ⟨rfl, rfl⟩ | exact Bw.call hw' (there_any _ _) | exact Bw.call hw' (at_any _ _ _ _ F _ _ ((hs.below (by decide) (by (repeat' (first | with_reducible exact Below.refl _ _ | ((with_reducible refine Below.alloc ?_ ?_ _); rotate_left; first | omega | (simp <;> omega)) | ((with_reducible refine Below.setCell ?_ ?_ _); rotate_left; first | (simp only; omega) | (simp <;> omega)) | with_reducible refine Below.drew ?_ | with_reducible refine below_drewN ?_ _ | ((with_reducible apply Bw.out); (first | exact hw' | exact hb1 | exact hb2 | exact hb3 | exact hb4 | exact hb5 | exact hb6 | exact hb7 | exact hb8 | exact hb9 | exact hb0 | exact hw | exact hb); rotate_left; first | omega | (simp <;> omega)) | assumption)))).take (by omega) (by omega) (by omega))))
               | exact quietAt_absurd (by simp at hp)
             simp only [Act.put, List.setIfInBounds_toArray, List.set_cons_zero, List.set_cons_succ, gd_gd])
        refine wpQuiet_nil (fun w2 hb2 => ?_)
        obtain ⟨cw2, fw2⟩ := bcell hb2
        have sw2 := Bw.size hb2
        try simp only [World.size_alloc, World.size_setCell, World.size_drew] at cw2 fw2 sw2
        go_wp2
        · rename_i hf
          have hn : ¬ mayP x := by
            rintro ⟨_, _, _, _, h5⟩
            obtain ⟨g1, g2, g3, g4, g5, g6⟩ := h5 k m hm
            rw [IntWalk.i64_in _ (by omega)] at hf
            simp at hf
            rcases g6 with g6 | ⟨g6, g7⟩
            · simp [g6] at hf; omega
            · omega
          go_ret
          exact ⟨by rw [mayS_not hn]; rfl, by (repeat' (first | with_reducible exact Below.refl _ _ | ((with_reducible refine Below.alloc ?_ ?_ _); rotate_left; first | omega | (simp <;> omega)) | ((with_reducible refine Below.setCell ?_ ?_ _); rotate_left; first | (simp only; omega) | (simp <;> omega)) | with_reducible refine Below.drew ?_ | with_reducible refine below_drewN ?_ _ | ((with_reducible apply Bw.out); (first | exact hw' | exact hb1 | exact hb2 | exact hb3 | exact hb4 | exact hb5 | exact hb6 | exact hb7 | exact hb8 | exact hb9 | exact hb0 | exact hw | exact hb); rotate_left; first | omega | (simp <;> omega)) | assumption))⟩
        · rename_i hf
          rw [IntWalk.i64_in _ (by omega)] at hf
          go_roundw
          case rel =>
            refine ⟨k + 1, by omega, by go_num, fun j m' hjk hm' => ?_, Bw.trans hw (show Below _ _ _ by (repeat' (first | with_reducible exact Below.refl _ _ | ((with_reducible refine Below.alloc ?_ ?_ _); rotate_left; first | omega | (simp <;> omega)) | ((with_reducible refine Below.setCell ?_ ?_ _); rotate_left; first | (simp only; omega) | (simp <;> omega)) | with_reducible refine Below.drew ?_ | with_reducible refine below_drewN ?_ _ | ((with_reducible apply Bw.out); (first | exact hw' | exact hb1 | exact hb2 | exact hb3 | exact hb4 | exact hb5 | exact hb6 | exact hb7 | exact hb8 | exact hb9 | exact hb0 | exact hw | exact hb); rotate_left; first | omega | (simp <;> omega)) | assumption)))⟩
            by_cases e : j = k
            · subst e; rw [hm] at hm'; cases hm'
              simp at hf
              refine ⟨by omega, by omega, by omega, by omega, by omega, ?_⟩
              by_cases hwh : m.whole = true
              · exact .inl hwh
              · simp [hwh] at hf; exact .inr ⟨by omega, by omega⟩
            · exact hj j m' (by omega) hm'
          case measure => simp [intOf]; omega
      · have hmay : mayP x := ⟨by omega, by omega, by omega, by omega, fun j m hm => hj j m (by have := (List.getElem?_eq_some_iff.1 hm).1; omega) hm⟩
        go_wp2
        go_ret
        exact ⟨by rw [(mayS_iff x).2 hmay]; rfl, by (repeat' (first | with_reducible exact Below.refl _ _ | ((with_reducible refine Below.alloc ?_ ?_ _); rotate_left; first | omega | (simp <;> omega)) | ((with_reducible refine Below.setCell ?_ ?_ _); rotate_left; first | (simp only; omega) | (simp <;> omega)) | with_reducible refine Below.drew ?_ | with_reducible refine below_drewN ?_ _ | ((with_reducible apply Bw.out); (first | exact hw' | exact hb1 | exact hb2 | exact hb3 | exact hb4 | exact hb5 | exact hb6 | exact hb7 | exact hb8 | exact hb9 | exact hb0 | exact hw | exact hb); rotate_left; first | omega | (simp <;> omega)) | assumption))⟩
end Go.Proofs.Ytkdbedbefojieaa
