/-
  LAYER 24: the document's configuration in memory of its own; the document's May.
-/
import Derived.Test.YtkdbedbefojieaaOver3
namespace Go.Proofs.Ytkdbedbefojieaa
set_option linter.unusedVariables false
set_option linter.unusedSimpArgs false
open Go.RowKit
set_option maxRecDepth 100000
attribute [local go_sem] gd_true

theorem rconfig_any (x : Config) (A : Option Addr) (n c : Nat) (F : Nat → Prop) (w : World) (hs : SlM w F A n c x.members) (hn : n ≤ 1000000) :
    Calls Try.prog 11 #[.agg #[.int .i64 x.epoch, .slice A n c]] w fun e w' => ∃ A' n' c', e = .returned (.agg #[.int .i64 x.epoch, .slice A' n' c']) ∧ Own tMember 34 w' w.heap.size (fun _ => False) (.slice A' n' c') x.members ∧ Below w.heap.size w w' := by
  obtain ⟨i0, hi, hz0, hz1, hz2⟩ := info_parts infoM
  obtain ⟨hnm, hmx, hn1, hn2⟩ := hs.facts
  have hs1 := (((hs.lt (by decide)).keep ((Ag.refl _ w).alloc (fun b hb => hb.2) (.cells #[.int .i64 x.epoch, .slice A n c] 24))).keep ((Ag.refl _ _).alloc (fun b hb => by have := hb.2; simp; omega) (.cells #[.int .i64 0, .slice none 0 0] 24)))
  go_enter Try.func11, Try.ntmps11
  go_wp2_with
    ((at_builtin; go_must (refine wpList_append_sl rfl (.tmp 4) (.tmp 6) 22 rfl i0 _ _ _ Try.underlying22 hi hz0 hz1 hz2 rfl rfl (by decide) x.members n (Own.nil (T := tMember) (lo := w.heap.size + 2)) hs1 rfl rfl (by simp; omega) (by simp; omega) (by simp) (fun _ h => h) (by intro g hg; simp [Value.ownBlock] at hg) (by intro b hb; have := hb.2; simp; omega) ?_))
     intro v1 w1 hown1 hg1 _
     obtain ⟨A', n', c', rfl⟩ := hown1.form'
     have hb1 : Below (((w.alloc (.cells #[.int .i64 x.epoch, .slice A n c] 24)).alloc (.cells #[.int .i64 0, .slice none 0 0] 24))).heap.size _ w1 := Below.grown (Below.refl _ _) hg1 (Nat.le_refl _) (by intro k hk; simp [Value.ownBlock] at hk)
     obtain ⟨cw1, fw1⟩ := bcell hb1; have sw1 := Below.size hb1; (try simp only [World.size_alloc, World.size_setCell, World.size_drew] at cw1 fw1 sw1); have ltww1 : w.heap.size < w1.heap.size := (by omega); have leww1 : w.heap.size ≤ w1.heap.size := (by omega); have ltww11 : w.heap.size + 1 < w1.heap.size := (by omega); have leww11 : w.heap.size + 1 ≤ w1.heap.size := (by omega))
  simp only [List.nil_append] at hown1
  refine bodyPost_ret (v := .agg #[.int .i64 x.epoch, .slice A' n' c']) (results_c1 rfl rfl (by (repeat' (first | with_reducible exact hbox | with_reducible apply Box.set_ | ((with_reducible apply Box.new); first | (simp only [World.size_alloc, World.size_setCell, World.size_drew]; done) | ((try simp only [World.size_alloc, World.size_setCell, World.size_drew]); omega)) | with_reducible apply Box.alloc | ((with_reducible apply Box.far); rotate_left; (simp only; omega)) | with_reducible apply Box.drew | ((with_reducible apply Box.via); (first | exact hw' | exact hb1 | exact hb2 | exact hb3 | exact hb4 | exact hb5 | exact hb6 | exact hb7 | exact hb8 | exact hb9 | exact hb0 | exact hw | exact hb); rotate_left; ((try simp only [World.size_alloc, World.size_setCell, World.size_drew]); omega)) | (simp only [List.set_cons_succ, List.set_cons_zero]; done) | ((try simp only [List.set_cons_succ, List.set_cons_zero]); with_reducible exact rfl)))) (by rfl) Try.underlying24 (by kernel_rfl)) rfl ?_
  exact ⟨A', n', c', rfl, (((hown1.flat flatM _).fset flatM (by simp) _).fset flatM (by simp) _).lo (by omega), by (repeat' (first | with_reducible exact Below.refl _ _ | ((with_reducible refine Below.alloc ?_ ?_ _); rotate_left; first | omega | (simp <;> omega)) | ((with_reducible refine Below.setCell ?_ ?_ _); rotate_left; first | (simp only; omega) | (simp <;> omega)) | with_reducible refine Below.drew ?_ | with_reducible refine below_drewN ?_ _ | ((with_reducible apply Bw.out); (first | exact hw' | exact hb1 | exact hb2 | exact hb3 | exact hb4 | exact hb5 | exact hb6 | exact hb7 | exact hb8 | exact hb9 | exact hb0 | exact hw | exact hb); rotate_left; first | omega | (simp <;> omega)) | assumption))⟩

theorem atS_take {l : List Member} {k : Nat} {m : Member} (hm : l[k]? = some m) : atS l m.node = (k : Int) ↔ atS (l.take k) m.node < 0 := by
  have hkl := (List.getElem?_eq_some_iff.1 hm).1
  constructor
  · intro h
    obtain ⟨k', m', e, _, _, _, hq⟩ := atS_at (l := l) (node := m.node) (by omega)
    have hkk : k' = k := by omega
    subst hkk
    rcases Int.lt_or_le (atS (l.take k') m.node) 0 with h' | h'
    · exact h'
    · obtain ⟨j, m'', _, hj, hm'', hn, _⟩ := atS_at h'
      have hjk : j < k' := by simp at hj; omega
      rw [List.getElem?_take, if_pos hjk] at hm''
      exact absurd hn (hq j m'' hjk hm'')
  · intro h
    have hno := atS_none h
    have hp : (fun x : Member => x.node == m.node) m = true := by simp
    have := findIdx_found (l := l) (p := fun x => x.node == m.node) (k := k) (fun j m' hj hm' => by
      have := hno j m' (by rw [List.getElem?_take, if_pos hj]; exact hm')
      simpa using this) hm hp
    rw [atS, this]

set_option maxHeartbeats 4000000 in
theorem rmay_any (x : Config) (A : Option Addr) (n c : Nat) (F : Nat → Prop) (w : World) (hs : SlM w F A n c x.members) :
    Calls Try.prog 37 #[.agg #[.int .i64 x.epoch, .slice A n c]] w fun e w' => e = .returned (.bool (mayS x)) ∧ Below w.heap.size w w' := by
  obtain ⟨hnm, hmx, hn1, hn2⟩ := hs.facts
  by_cases h0 : 0 < n
  · obtain ⟨b0, o0, m0, rfl, hF0, hbl0, hm0, mok0, z0, z1, z2⟩ := hs.mem h0
    simp only [Nat.zero_mul, Nat.add_zero] at z0 z1 z2
    go_enter Try.func37, Try.ntmps37
    go_upto_region 2 with (fail)
    refine wp_region_q (C := Bw _) (fun _ => by kernel_rfl) (fun _ => by kernel_rfl) (Bw.refl _) (Bw.drew _) ?_
    repeat
      first
      | (refine wpQuiet_go rfl ?_; apply Exists.intro
         refine ⟨fun w' hw' => ?_, ?_⟩
         · first
           | (apply quietAt_or; (with_reducible exact rfl); exact rfl; exact rfl)
           | (apply quietAt_and; (with_reducible exact rfl); exact rfl; exact rfl)
           | (have bc := bcell hw'; go_simp; first | exact rfl | exact ⟨rfl, rfl⟩ | fail)
         simp only [Act.put, List.setIfInBounds_toArray, List.set_cons_zero, List.set_cons_succ, gd_gd])
      | ((first | refine wpQuiet_if (wanted_t rfl rfl rfl) ?_ | refine wpQuiet_if (wanted_f rfl rfl rfl) ?_ | refine wpQuiet_if (wanted_gt rfl rfl rfl) ?_ | refine wpQuiet_if (wanted_gf rfl rfl rfl) ?_); apply Exists.intro
         refine ⟨fun hp w' hw' => ?_, ?_⟩
         · first
           | (apply quietAt_or; (with_reducible exact rfl); exact rfl; exact rfl)
           | (apply quietAt_and; (with_reducible exact rfl); exact rfl; exact rfl)
           | (apply quietAt_gor; (with_reducible exact rfl); exact rfl; exact rfl; exact hp)
           | (apply quietAt_gand; (with_reducible exact rfl); exact rfl; exact rfl; exact hp)
           | ((try simp only [Bool.and_eq_true, Bool.or_eq_false_iff, Bool.not_eq_true', Bool.not_eq_eq_eq_not, Bool.not_true, Bool.not_false] at hp); have bc := bcell hw'; go_simp; first | exact rfl | exact ⟨rfl, rfl⟩ | fail)
           | exact quietAt_absurd (by simp at hp)
         simp only [Act.put, List.setIfInBounds_toArray, List.set_cons_zero, List.set_cons_succ, gd_gd])
    refine wpQuiet_nil (fun w1 hb1 => ?_)
    obtain ⟨cw1, fw1⟩ := bcell hb1
    have sw1 := Bw.size hb1
    try simp only [World.size_alloc, World.size_setCell, World.size_drew] at cw1 fw1 sw1
    have ltww1 : w.heap.size < w1.heap.size := (by omega)
    have leww1 : w.heap.size ≤ w1.heap.size := (by omega)
    go_wp2
    · have hn : ¬ mayP x := by
        rintro ⟨h1, h2, h3, h4, h5⟩
        rename_i hf
        have g := (h5 0 m0 hm0).2.2.2.2.2
        simp at hf g
        rcases hf with hf | hf
        · omega
        · rw [hf] at g; cases g
      go_ret
      exact ⟨by rw [mayS_not hn]; rfl, by (repeat' (first | with_reducible exact Below.refl _ _ | ((with_reducible refine Below.alloc ?_ ?_ _); rotate_left; first | omega | (simp <;> omega)) | ((with_reducible refine Below.setCell ?_ ?_ _); rotate_left; first | (simp only; omega) | (simp <;> omega)) | with_reducible refine Below.drew ?_ | with_reducible refine below_drewN ?_ _ | ((with_reducible apply Bw.out); (first | exact hw' | exact hb1 | exact hb2 | exact hb3 | exact hb4 | exact hb5 | exact hb6 | exact hb7 | exact hb8 | exact hb9 | exact hb0 | exact hw | exact hb); rotate_left; first | omega | (simp <;> omega)) | assumption))⟩
    · have hgo : (((1 ≤ x.epoch ∧ x.epoch ≤ 1099511627776) ∧ 1 ≤ (n : Int)) ∧ (n : Int) ≤ 5) ∧ (!m0.whole) = false := by assumption
      have hw0 := Lib.hid hgo.2
      obtain ⟨hgo, _⟩ := hgo
      go_loopw [4] (fun i wr => ∃ k : Nat, k ≤ n ∧ i = .int .i64 k ∧ (∀ j m, j < k → x.members[j]? = some m → okM x j m) ∧ Bw w1 wr) (fun i _ => n - (intOf i).toNat)
      case atStart => exact ⟨0, Nat.zero_le _, rfl, fun j m hj => absurd hj (by omega), Bw.refl _⟩
      case round =>
        obtain ⟨k, hk, rfl, hj, hw⟩ := hrel
        obtain ⟨cwr, fwr⟩ := bcell hw
        have swr := Bw.size hw
        have ltwwr : w.heap.size < wr.heap.size := (by omega)
        have lewwr : w.heap.size ≤ wr.heap.size := (by omega)
        by_cases hkn : k < n
        · obtain ⟨b', o, m, e', hF, hbl, hm, mok, c0, c1, c2⟩ := (hs.below (by decide) (by (repeat' (first | with_reducible exact Below.refl _ _ | ((with_reducible refine Below.alloc ?_ ?_ _); rotate_left; first | omega | (simp <;> omega)) | ((with_reducible refine Below.setCell ?_ ?_ _); rotate_left; first | (simp only; omega) | (simp <;> omega)) | with_reducible refine Below.drew ?_ | with_reducible refine below_drewN ?_ _ | ((with_reducible apply Bw.out); (first | exact hw' | exact hb1 | exact hb2 | exact hb3 | exact hb4 | exact hb5 | exact hb6 | exact hb7 | exact hb8 | exact hb9 | exact hb0 | exact hw | exact hb); rotate_left; first | omega | (simp <;> omega)) | assumption)) : Below w.heap.size w wr)).mem hkn
          cases e'
          go_upto_region 8 with (fail)
          refine wp_region_q (C := Bw _) (fun _ => by kernel_rfl) (fun _ => by kernel_rfl) (Bw.refl _) (Bw.drew _) ?_
          repeat
            first
            | (refine wpQuiet_go rfl ?_; apply Exists.intro
               refine ⟨fun w' hw' => ?_, ?_⟩
               · first
                 | (apply quietAt_or; (with_reducible exact rfl); exact rfl; exact rfl)
                 | (apply quietAt_and; (with_reducible exact rfl); exact rfl; exact rfl)
                 | (have bc := bcell hw'; go_simp; first | exact rfl | exact ⟨rfl, rfl⟩ | exact Bw.call hw' (find_any x _ n c F _ _ (hs.below (by decide) (by (repeat' (first | with_reducible exact Below.refl _ _ | ((with_reducible refine Below.alloc ?_ ?_ _); rotate_left; first | omega | (simp <;> omega)) | ((with_reducible refine Below.setCell ?_ ?_ _); rotate_left; first | (simp only; omega) | (simp <;> omega)) | with_reducible refine Below.drew ?_ | with_reducible refine below_drewN ?_ _ | ((with_reducible apply Bw.out); (first | exact hw' | exact hb1 | exact hb2 | exact hb3 | exact hb4 | exact hb5 | exact hb6 | exact hb7 | exact hb8 | exact hb9 | exact hb0 | exact hw | exact hb); rotate_left; first | omega | (simp <;> omega)) | assumption))))))
               simp only [Act.put, List.setIfInBounds_toArray, List.set_cons_zero, List.set_cons_succ, gd_gd])
            | ((first | refine wpQuiet_if (wanted_t rfl rfl rfl) ?_ | refine wpQuiet_if (wanted_f rfl rfl rfl) ?_ | refine wpQuiet_if (wanted_gt rfl rfl rfl) ?_ | refine wpQuiet_if (wanted_gf rfl rfl rfl) ?_); apply Exists.intro
               refine ⟨fun hp w' hw' => ?_, ?_⟩
               · first
                 | (apply quietAt_or; (with_reducible exact rfl); exact rfl; exact rfl)
                 | (apply quietAt_and; (with_reducible exact rfl); exact rfl; exact rfl)
                 | (apply quietAt_gor; (with_reducible exact rfl); exact rfl; exact rfl; exact hp)
                 | (apply quietAt_gand; (with_reducible exact rfl); exact rfl; exact rfl; exact hp)
                 | ((try simp only [Bool.and_eq_true, Bool.or_eq_false_iff, Bool.not_eq_true', Bool.not_eq_eq_eq_not, Bool.not_true, Bool.not_false] at hp); have bc := bcell hw'; go_simp; first | exact rfl | exact ⟨rfl, rfl⟩ | exact Bw.call hw' (find_any x _ n c F _ _ (hs.below (by decide) (by (repeat' (first | with_reducible exact Below.refl _ _ | ((with_reducible refine Below.alloc ?_ ?_ _); rotate_left; first | omega | (simp <;> omega)) | ((with_reducible refine Below.setCell ?_ ?_ _); rotate_left; first | (simp only; omega) | (simp <;> omega)) | with_reducible refine Below.drew ?_ | with_reducible refine below_drewN ?_ _ | ((with_reducible apply Bw.out); (first | exact hw' | exact hb1 | exact hb2 | exact hb3 | exact hb4 | exact hb5 | exact hb6 | exact hb7 | exact hb8 | exact hb9 | exact hb0 | exact hw | exact hb); rotate_left; first | omega | (simp <;> omega)) | assumption))))))
                 | exact quietAt_absurd (by simp at hp)
               simp only [Act.put, List.setIfInBounds_toArray, List.set_cons_zero, List.set_cons_succ, gd_gd])
          refine wpQuiet_nil (fun w2 hb2 => ?_)
          obtain ⟨cw2, fw2⟩ := bcell hb2
          have sw2 := Bw.size hb2
          try simp only [World.size_alloc, World.size_setCell, World.size_drew] at cw2 fw2 sw2
          go_wp2
          · rename_i hf
            have hn : ¬ mayP x := by
              rintro ⟨_, _, _, _, h5⟩
              obtain ⟨g1, g2, g3, g4, g5, g6⟩ := h5 k m hm
              have g3 := (atS_take hm).2 g3
              rw [IntWalk.i64_in _ (by omega)] at hf
              simp [g3] at hf
              rcases g6 with g6 | ⟨g6, g7⟩
              · simp [g6] at hf; omega
              · omega
            go_ret
            exact ⟨by rw [mayS_not hn]; rfl, by (repeat' (first | with_reducible exact Below.refl _ _ | ((with_reducible refine Below.alloc ?_ ?_ _); rotate_left; first | omega | (simp <;> omega)) | ((with_reducible refine Below.setCell ?_ ?_ _); rotate_left; first | (simp only; omega) | (simp <;> omega)) | with_reducible refine Below.drew ?_ | with_reducible refine below_drewN ?_ _ | ((with_reducible apply Bw.out); (first | exact hw' | exact hb1 | exact hb2 | exact hb3 | exact hb4 | exact hb5 | exact hb6 | exact hb7 | exact hb8 | exact hb9 | exact hb0 | exact hw | exact hb); rotate_left; first | omega | (simp <;> omega)) | assumption))⟩
          · rename_i hf
            rw [IntWalk.i64_in _ (by omega)] at hf
            go_roundw
            case rel =>
              refine ⟨k + 1, by omega, by go_num, fun j m' hjk hm' => ?_, Bw.trans hw (show Below _ _ _ by (repeat' (first | with_reducible exact Below.refl _ _ | ((with_reducible refine Below.alloc ?_ ?_ _); rotate_left; first | omega | (simp <;> omega)) | ((with_reducible refine Below.setCell ?_ ?_ _); rotate_left; first | (simp only; omega) | (simp <;> omega)) | with_reducible refine Below.drew ?_ | with_reducible refine below_drewN ?_ _ | ((with_reducible apply Bw.out); (first | exact hw' | exact hb1 | exact hb2 | exact hb3 | exact hb4 | exact hb5 | exact hb6 | exact hb7 | exact hb8 | exact hb9 | exact hb0 | exact hw | exact hb); rotate_left; first | omega | (simp <;> omega)) | assumption)))⟩
              by_cases e : j = k
              · subst e; rw [hm] at hm'; cases hm'
                simp at hf
                refine ⟨by omega, by omega, (atS_take hm).1 (by omega), by omega, by omega, ?_⟩
                by_cases hwh : m.whole = true
                · exact .inl hwh
                · simp [hwh] at hf
                  refine .inr ⟨?_, by omega⟩
                  rintro rfl
                  rw [hm0] at hm; cases hm
                  exact hwh (by simpa using hw0.out)
              · exact hj j m' (by omega) hm'
            case measure => simp [intOf]; omega
        · have hmay : mayP x := ⟨by omega, by omega, by omega, by omega, fun j m hm => hj j m (by have := (List.getElem?_eq_some_iff.1 hm).1; omega) hm⟩
          go_wp2
          go_ret
          exact ⟨by rw [(mayS_iff x).2 hmay]; rfl, by (repeat' (first | with_reducible exact Below.refl _ _ | ((with_reducible refine Below.alloc ?_ ?_ _); rotate_left; first | omega | (simp <;> omega)) | ((with_reducible refine Below.setCell ?_ ?_ _); rotate_left; first | (simp only; omega) | (simp <;> omega)) | with_reducible refine Below.drew ?_ | with_reducible refine below_drewN ?_ _ | ((with_reducible apply Bw.out); (first | exact hw' | exact hb1 | exact hb2 | exact hb3 | exact hb4 | exact hb5 | exact hb6 | exact hb7 | exact hb8 | exact hb9 | exact hb0 | exact hw | exact hb); rotate_left; first | omega | (simp <;> omega)) | assumption))⟩
  · have hn0 : n = 0 := by omega
    subst hn0
    have hn : ¬ mayP x := by
      rintro ⟨_, _, h3, _, _⟩
      omega
    go_enter Try.func37, Try.ntmps37
    go_upto_region 2 with (fail)
    refine wp_region_q (C := Bw _) (fun _ => by kernel_rfl) (fun _ => by kernel_rfl) (Bw.refl _) (Bw.drew _) ?_
    repeat
      first
      | (refine wpQuiet_go rfl ?_; apply Exists.intro
         refine ⟨fun w' hw' => ?_, ?_⟩
         · first
           | (apply quietAt_or; (with_reducible exact rfl); exact rfl; exact rfl)
           | (apply quietAt_and; (with_reducible exact rfl); exact rfl; exact rfl)
           | (have bc := bcell hw'; go_simp; first | exact rfl | exact ⟨rfl, rfl⟩ | fail)
         simp only [Act.put, List.setIfInBounds_toArray, List.set_cons_zero, List.set_cons_succ, gd_gd])
      | ((first | refine wpQuiet_if (wanted_t rfl rfl rfl) ?_ | refine wpQuiet_if (wanted_f rfl rfl rfl) ?_ | refine wpQuiet_if (wanted_gt rfl rfl rfl) ?_ | refine wpQuiet_if (wanted_gf rfl rfl rfl) ?_); apply Exists.intro
         refine ⟨fun hp w' hw' => ?_, ?_⟩
         · first
           | (apply quietAt_or; (with_reducible exact rfl); exact rfl; exact rfl)
           | (apply quietAt_and; (with_reducible exact rfl); exact rfl; exact rfl)
           | (apply quietAt_gor; (with_reducible exact rfl); exact rfl; exact rfl; exact hp)
           | (apply quietAt_gand; (with_reducible exact rfl); exact rfl; exact rfl; exact hp)
           | ((try simp only [Bool.and_eq_true, Bool.or_eq_false_iff, Bool.not_eq_true', Bool.not_eq_eq_eq_not, Bool.not_true, Bool.not_false] at hp); have bc := bcell hw'; go_simp; first | exact rfl | exact ⟨rfl, rfl⟩ | fail)
           | exact quietAt_absurd (by simp at hp)
         simp only [Act.put, List.setIfInBounds_toArray, List.set_cons_zero, List.set_cons_succ, gd_gd])
    refine wpQuiet_nil (fun w1 hb1 => ?_)
    obtain ⟨cw1, fw1⟩ := bcell hb1
    have sw1 := Bw.size hb1
    try simp only [World.size_alloc, World.size_setCell, World.size_drew] at cw1 fw1 sw1
    go_wp2
    · go_ret
      exact ⟨by rw [mayS_not hn]; rfl, by (repeat' (first | with_reducible exact Below.refl _ _ | ((with_reducible refine Below.alloc ?_ ?_ _); rotate_left; first | omega | (simp <;> omega)) | ((with_reducible refine Below.setCell ?_ ?_ _); rotate_left; first | (simp only; omega) | (simp <;> omega)) | with_reducible refine Below.drew ?_ | with_reducible refine below_drewN ?_ _ | ((with_reducible apply Bw.out); (first | exact hw' | exact hb1 | exact hb2 | exact hb3 | exact hb4 | exact hb5 | exact hb6 | exact hb7 | exact hb8 | exact hb9 | exact hb0 | exact hw | exact hb); rotate_left; first | omega | (simp <;> omega)) | assumption))⟩
end Go.Proofs.Ytkdbedbefojieaa
